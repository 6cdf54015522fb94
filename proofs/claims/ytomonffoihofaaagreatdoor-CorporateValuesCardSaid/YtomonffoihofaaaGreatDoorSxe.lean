/- Part 5 of the proof. -/
import Derived.Test.YtomonffoihofaaaGreatDoorSxa
import Derived.Test.YtomonffoihofaaaGreatDoorSxd
import Derived.Control
import Derived.Test.YtomonffoihofaaaGreatDoorProg
import Derived.RangeFuncKeeps
import Derived.RangeFuncNested
import Derived.RangeFuncBound
import Derived.RangeFuncCalls
import Derived.RangeFuncLeaves
import Derived.Shelf.Abstract
import Derived.Shelf.RegionOpen
import Derived.WalkKit
import Derived.OwnWalkIn
import Derived.TacticsInMore
import Derived.LoopNIn
import Derived.LoopIn
import Derived.Lib.Hide
set_option linter.unusedVariables false
set_option linter.unusedSimpArgs false
set_option linter.unusedSectionVars false
section
namespace Go.Nov
theorem top2{l:List Nat}{m:Nat}(h:dig l)(hl:l.length=m+2):∃ r,r<B^m∧val l=r+B^m*(l.getD m 0+B*l.getD (m+1) 0):=by
 refine⟨val (l.take m),?_,?_⟩
 ·have:=qe (je h m)
  rwa [List.length_take,Nat.min_eq_left (by omega)] at this
 ·have h1:=zn l m
  have h2:=zn l (m+1)
  rw [List.take_of_length_le (by omega),h1,Nat.pow_succ] at h2
  rw [h2,Nat.mul_add,Nat.mul_assoc,Nat.add_assoc]
theorem top3{l:List Nat}{m:Nat}(h:dig l)(hl:l.length=m+3):∃ r,r<B^m∧val l=r+B^m*(l.getD m 0+B*(l.getD (m+1) 0+B*l.getD (m+2) 0)):=by
 refine⟨val (l.take m),?_,?_⟩
 ·have:=qe (je h m)
  rwa [List.length_take,Nat.min_eq_left (by omega)] at this
 ·have h1:=zn l m
  have h2:=zn l (m+1)
  have h3:=zn l (m+2)
  rw [List.take_of_length_le (by omega),h2,h1,Nat.pow_succ,Nat.pow_succ] at h3
  rw [h3,Nat.pow_succ]
  simp only [Nat.mul_add,Nat.mul_assoc,Nat.add_assoc]
theorem horner(b t u v:Nat):v+b*(u+b*t)=(t*b+u)*b+v:=by grind
theorem zdc(p b y:Nat):2*(p*(y*b))=p*b*(2*y):=by grind
theorem Yy{r S x V:Nat}(hr:r<S)(h:V=r+S*x):x*S≤V∧V<(x+1)*S:=by
 rw [h,Nat.succ_mul,Nat.mul_comm x S]; omega
theorem xg(u:List Nat)(j k i:Nat)(hi:i<k):((u.drop j).take k).getD i 0=u.getD (j+i) 0:=by
 simp [List.getElem?_take,hi,List.getElem?_drop]
theorem Q7(u:List Nat)(j k:Nat)(h:j+k≤u.length):val u=val (u.take j)+B^j*(val ((u.drop j).take k)+B^k*val (u.drop (j+k))):=by
 have h1:u=u.take j++((u.drop j).take k++u.drop (j+k)):=by
  rw [← List.drop_drop,List.take_append_drop,List.take_append_drop]
 conv=>lhs; rw [h1]
 rw [zD,zD,List.length_take,Nat.min_eq_left (by omega),List.length_take,List.length_drop,Nat.min_eq_left (by omega)]
theorem zt{x n:Nat}(h:x<B^n):(canon x).length≤n:=by
 rcases Nat.lt_or_ge n (canon x).length with h1 | h1
 ·exfalso
  have h2:=zP (x:=B^n - 1) (y:=x) ?_
  ·omega
  ·have h3:=qe (zh (B^n - 1))
   have:¬ n<(canon (B^n - 1)).length:=by
    intro hlt
    have hne:canon (B^n - 1)≠[]:=by intro h0; rw [h0] at hlt; simp at hlt
    have hl:=qO (B^n - 1)
    have htop:=qt (canon (B^n - 1)) (by omega)
    rw [hl] at htop
    have h4:=zn (canon (B^n - 1)) ((canon (B^n - 1)).length - 1)
    rw [Nat.sub_add_cancel (by omega),List.take_length,zk] at h4
    have h5:B^n≤B^((canon (B^n - 1)).length - 1):=Nat.pow_le_pow_right (by decide) (by omega)
    have h6:B^((canon (B^n - 1)).length - 1)*1≤B^((canon (B^n - 1)).length - 1)*(canon (B^n - 1)).getD ((canon (B^n - 1)).length - 1) 0:=Nat.mul_le_mul_left _ (by omega)
    have h7:0<B^n:=Nat.pow_pos (by decide)
    omega
   omega
 ·exact h1
theorem jn{x n:Nat}(h:B^n≤x):n<(canon x).length:=by
 have:=qe (zh x)
 rw [zk] at this
 rcases Nat.lt_or_ge n (canon x).length with h1 | h1
 ·exact h1
 ·have:B^(canon x).length≤B^n:=Nat.pow_le_pow_right (by decide) h1
  omega
theorem zau{t s:Nat}(ht:0<t)(hs:s=B/(t+1))(htB:t<B):0<s∧s*(t+1)≤B∧B≤2*(t*s):=by
 have h1:s*(t+1)≤B:=hs▸Nat.div_mul_le_self _ _
 have h2:B<(s+1)*(t+1):=by
  have:=Nat.lt_mul_div_succ B (show 0<t+1 by omega)
  rw [← hs,Nat.mul_comm] at this; exact this
 have h3:0<s:=by rw [hs]; exact Nat.div_pos (by omega) (by omega)
 refine⟨h3,h1,?_⟩
 obtain⟨a,rfl⟩:∃ a,t=a+1:=⟨t - 1,by omega⟩
 obtain⟨b,rfl⟩:∃ b,s=b+1:=⟨s - 1,by omega⟩
 have e:(a+1)*(b+1)=a*b+a+b+1:=by simp only [Nat.add_mul,Nat.mul_add]; omega
 have e2:(b+1+1)*(a+1+1)=a*b+2*a+2*b+4:=by simp only [Nat.add_mul,Nat.mul_add,Nat.mul_comm b a]; omega
 rw [e2] at h2
 rw [e]
 have hB:B=1000000000:=rfl
 generalize a*b=p at *
 omega
theorem scaled{y n s t r:Nat}(hr:r<B^n)(hy:y=r+B^n*t)(hs:0<s)(h1:s*(t+1)≤B)(h2:B≤2*(t*s)) :
  y*s<B^(n+1)∧B^(n+1)≤2*(y*s):=by
 have h3:y<B^n*(t+1):=by rw [Nat.mul_add]; omega
 constructor
 ·calc y*s<B^n*(t+1)*s:=Nat.mul_lt_mul_of_pos_right h3 hs
   _=B^n*(s*(t+1)):=by rw [Nat.mul_assoc,Nat.mul_comm (t+1)]
   _≤B^n*B:=Nat.mul_le_mul_left _ h1
   _=B^(n+1):=(Nat.pow_succ ..).symm
 ·calc B^(n+1)=B^n*B:=Nat.pow_succ ..
   _≤B^n*(2*(t*s)):=Nat.mul_le_mul_left _ h2
   _=2*(B^n*t*s):=by rw [Nat.mul_left_comm,Nat.mul_assoc]
   _≤2*(y*s):=Nat.mul_le_mul_left _ (Nat.mul_le_mul_right _ (by omega))
theorem zao{u:List Nat}{j m V W d:Nat}(hd:dig u)(hj:j+(m+2)+1≤u.length)(hVl:(canon V).length=m+2)(hV2:B^(m+2)≤2*V)(hlt:val u<V*B^(j+1))
  (hW:val ((u.drop j).take (m+2+1))=W) (hdd:qH (u.getD (j+m) 0) ((canon V).getD (m+1) 0) ((canon V).getD m 0) 2 ((u.getD (j+(m+2)) 0*B+u.getD (j+(m+1)) 0)/(canon V).getD (m+1) 0) ((u.getD (j+(m+2)) 0*B+u.getD (j+(m+1)) 0)%(canon V).getD (m+1) 0)=d) :
  W<V*B∧B≤2*(canon V).getD (m+1) 0∧u.getD (j+(m+2)) 0≤(canon V).getD (m+1) 0∧W/V≤d∧d≤W/V+1∧d<B:=by
 have hB:B=1000000000:=rfl
 have hVB:=qe (zh V)
 rw [zk,hVl] at hVB
 have hP:0<B^m:=Nat.pow_pos (by decide)
 have hWV:W<V*B:=by
  have h1:=Q7 u j (m+2+1) (by omega)
  have h2:B^j*W≤val u:=by rw [h1,Nat.mul_add,hW]; exact Nat.le_trans (Nat.le_add_right _ _) (Nat.le_add_left _ _)
  have h3:B^j*W<B^j*(V*B):=by
   calc B^j*W≤val u:=h2
    _<V*B^(j+1):=hlt
    _=B^j*(V*B):=by rw [Nat.pow_succ,Nat.mul_left_comm]
  exact Nat.lt_of_mul_lt_mul_left h3
 obtain⟨rv,hrv,hv⟩:=top2 (zh V) hVl
 rw [zk] at hv
 have hwl:((u.drop j).take (m+2+1)).length=m+3:=by simp; omega
 obtain⟨rw',hrw,hw⟩:=top3 (je (ZW hd j) (m+2+1)) hwl
 rw [xg _ _ _ _ (by omega),xg _ _ _ _ (by omega),xg _ _ _ _ (by omega)] at hw
 have hyB:=zH (zh V) (m+1)
 have hzB:=zH (zh V) m
 have hvB:=zH hd (j+m)
 have huB:=zH hd (j+(m+1))
 rw [hW] at hw
 generalize hyy:(canon V).getD (m+1) 0=y at *
 generalize hzz:(canon V).getD m 0=z at *
 generalize u.getD (j+(m+2)) 0=t at *
 generalize u.getD (j+(m+1)) 0=uu at *
 generalize u.getD (j+m) 0=vv at *
 have ev:z+B*y=y*B+z:=by rw [Nat.mul_comm y B,Nat.add_comm]
 have ew:vv+B*(uu+B*t)=(t*B+uu)*B+vv:=horner B t uu vv
 rw [ev] at hv; rw [ew] at hw
 have hy2:B≤2*y:=by
  rcases Nat.lt_or_ge (2*y) B with h1 | h1
  ·exfalso
   have h2:V<B^m*(y*B+z+1):=by rw [Nat.mul_add]; omega
   have h3:B^m*(y*B+z+1)≤B^m*((y+1)*B):=Nat.mul_le_mul_left _ (by rw [Nat.add_mul]; omega)
   have h4:2*(B^m*((y+1)*B))=B^(m+1)*(2*(y+1)):=by
    rw [Nat.pow_succ]; exact zdc _ _ _
   have h5:B^(m+1)*(2*(y+1))≤B^(m+1)*B:=Nat.mul_le_mul_left _ (by omega)
   have h6:B^(m+2)=B^(m+1)*B:=Nat.pow_succ ..
   omega
  ·exact h1
 obtain⟨a1,a2⟩:=Yy hrv hv
 obtain⟨b1,b2⟩:=Yy hrw hw
 obtain⟨g1,g2,g3,g4⟩:=V4 (W:=W) (V:=V) (S:=B^m) (t:=t) (u:=uu) (v:=vv) (y:=y) (z:=z) hP a1 a2 b1 b2 hWV hzB hvB hy2 hyB (by omega)
 rw [hdd] at g1 g2 g3
 refine⟨hWV,hy2,?_,g1,g2,g3⟩
 rcases Nat.lt_or_ge y t with h1 | h1
 ·exfalso
  have h2:(y+1)*B≤t*B:=Nat.mul_le_mul_right _ h1
  rw [Nat.add_mul] at h2
  omega
 ·exact h1
theorem step_eq{u u' q:List Nat}{j k V U0:Nat}(hd:dig u)(hj:j+k≤u.length)(hV:V<B^(k - 1))(hk:1≤k)(hV0:0<V)(hlt:val u<V*B^(j+1))(hq:j<q.length)(heq:U0=V*B^(j+1)*val (q.drop (j+1))+val u)
  (hu':val u'=val (u.take j)+B^j*(val ((u.drop j).take k)%V+B^k*val (u.drop (j+k)))) :
  val u'<V*B^j∧U0=V*B^j*val ((q.set j (val ((u.drop j).take k)/V)).drop j)+val u':=by
 have h1:=Q7 u j k hj
 have h0:=qe (je hd j)
 rw [List.length_take,Nat.min_eq_left (by omega)] at h0
 have hP:0<B^j:=Nat.pow_pos (by decide)
 generalize val ((u.drop j).take k)=W at *
 generalize val (u.take j)=r at *
 have hH:val (u.drop (j+k))=0:=by
  rcases Nat.eq_zero_or_pos (val (u.drop (j+k))) with h | h
  ·exact h
  ·exfalso
   have h2:B^k*1≤B^k*val (u.drop (j+k)):=Nat.mul_le_mul_left _ h
   have h3:B^j*B^k≤val u:=by
    rw [h1]
    refine Nat.le_trans (Nat.mul_le_mul_left _ (m:=W+B^k*val (u.drop (j+k))) (by omega)) (Nat.le_add_left _ _)
   have h4:V*B^(j+1)<B^(k - 1)*B^(j+1):=Nat.mul_lt_mul_of_pos_right hV (Nat.pow_pos (by decide))
   have h5:B^(k - 1)*B^(j+1)=B^j*B^k:=by rw [← Nat.pow_add,← Nat.pow_add]; congr 1; omega
   omega
 rw [hH] at h1 hu'
 simp only [Nat.mul_zero,Nat.add_zero] at h1 hu'
 have hm:=Nat.mod_lt W hV0
 have hdm:=Nat.div_add_mod W V
 constructor
 ·rw [hu']
  have:B^j*(W%V+1)≤B^j*V:=Nat.mul_le_mul_left _ hm
  rw [Nat.mul_add] at this
  rw [Nat.mul_comm V]; omega
 ·have hset:(q.set j (W/V)).drop j=(W/V)::q.drop (j+1):=by
   rw [List.drop_eq_getElem_cons (by simpa using hq)]
   simp [List.drop_set_of_lt]
  rw [hset,heq,hu',h1]
  simp only [val]
  generalize W/V=d at *
  generalize W%V=e at *
  rw [← hdm,Nat.pow_succ]
  simp only [Nat.mul_add,← Nat.mul_assoc]
  have e1:V*B^j*B*val (List.drop (j+1) q)=V*B^j*B*val (List.drop (j+1) q):=rfl
  have e2:B^j*V*d=V*B^j*d:=by rw [Nat.mul_comm (B^j) V]
  omega
def mixL(u c:List Nat)(j i:Nat):List Nat:=(List.range u.length).map fun p=>if j≤p∧p<j+i then c.getD (p - j) 0 else u.getD p 0
theorem Vu(u c:List Nat)(j i:Nat):(mixL u c j i).length=u.length:=by simp [mixL]
theorem Y2(u c:List Nat)(j:Nat):mixL u c j 0=u:=by
 apply List.ext_getElem (by simp [mixL])
 intro p h1 h2
 simp only [mixL,List.getElem_map,List.getElem_range]
 rw [if_neg (by omega)]; simp [h2]
theorem V9(u c:List Nat)(j i:Nat)(x:Nat):((mixL u c j i).set (j+i) x).set (j+i) (c.getD i 0)=mixL u c j (i+1):=by
 rw [List.set_set]
 apply List.ext_getElem (by simp [mixL])
 intro p h1 h2
 simp only [List.getElem_set,mixL,List.getElem_map,List.getElem_range]
 by_cases hp:j+i=p
 ·subst hp; rw [if_pos rfl,if_pos ⟨by omega,by omega⟩]; congr 1; omega
 ·rw [if_neg hp]
  by_cases hc:j≤p∧p<j+i
  ·rw [if_pos hc,if_pos ⟨hc.1,by omega⟩]
  ·rw [if_neg hc,if_neg (by omega)]
theorem zd6{u c:List Nat}(hu:dig u)(hc:dig c)(j i:Nat):dig (mixL u c j i):=by
 intro d hd
 simp only [mixL,List.mem_map] at hd
 obtain⟨p,_,rfl⟩:=hd
 split
 ·exact zH hc _
 ·exact zH hu _
theorem zax{u:List Nat}{L j k:Nat}(hj:j+k≤u.length)(hL:(canon L).length≤k):val (mixL u (canon L) j k)=val (u.take j)+B^j*(L+B^k*val (u.drop (j+k))):=by
 have h:mixL u (canon L) j k=u.take j++(padN k L++u.drop (j+k)):=by
  apply List.ext_getElem (by simp [mixL,padN]; omega)
  intro p h1 h2
  simp only [mixL,List.getElem_map,List.getElem_range]
  rw [Vu] at h1
  by_cases ha:p<j
  ·rw [if_neg (by omega),List.getElem_append_left (by simp; omega)]; simp [h1]
  ·have hjl:(u.take j).length=j:=by simp; omega
   rw [List.getElem_append_right (by omega)]
   simp only [hjl]
   have hpl:(padN k L).length=k:=by simp [padN]; omega
   by_cases hb:p - j<k
   ·rw [if_pos (by omega),List.getElem_append_left (by omega)]
    simp only [padN]
    by_cases hc:p - j<(canon L).length
    ·rw [List.getElem_append_left hc]; simp [hc]
    ·rw [List.getElem_append_right (by omega)]; simp [List.getElem?_eq_none (Nat.le_of_not_lt hc)]
   ·rw [if_neg (by omega),List.getElem_append_right (by omega)]
    simp only [hpl,List.getElem_drop]
    have:j+k+(p - j - k)=p:=by omega
    simp [this,h1]
 rw [h,zD,zD,List.length_take,Nat.min_eq_left (by omega)]
 have hpl:(padN k L).length=k:=by simp [padN]; omega
 have hpv:val (padN k L)=L:=by rw [padN,zD,zk,jg]; simp
 rw [hpl,hpv]
def isD(c:UInt8):Bool:=48≤c.toNat&&c.toNat≤57
def allD(l:List UInt8):Prop:=∀ c∈l,48≤c.toNat∧c.toNat≤57
def numD(l:List UInt8):Nat:=l.foldl (fun a c=>a*10+(c.toNat - 48)) 0
theorem zil(l:List UInt8)(a:Nat):l.foldl (fun a c=>a*10+(c.toNat - 48)) a=a*10^l.length+numD l:=by
 induction l generalizing a with
 | nil=>simp [numD]
 | cons c l ih=>
  simp only [List.foldl_cons,numD,List.length_cons]
  rw [ih,ih (0*10+(c.toNat - 48)),Nat.pow_succ]
  generalize 10^l.length=p
  generalize numD l=q
  generalize c.toNat - 48=d
  rw [Nat.add_mul,Nat.zero_mul,Nat.zero_add,Nat.mul_assoc,Nat.mul_comm 10 p]
  omega
theorem v7(l m:List UInt8):numD (l++m)=numD l*10^m.length+numD m:=by
 rw [numD,List.foldl_append,zil]; rfl
theorem YZ(l:List UInt8)(c:UInt8):numD (l++[c])=numD l*10+(c.toNat - 48):=by
 simp [numD]
theorem ym{l:List UInt8}(h:allD l):numD l<10^l.length:=by
 induction l with
 | nil=>simp [numD]
 | cons c l ih=>
  have hc:=h c (by simp)
  have hl:=ih fun d hd=>h d (by simp [hd])
  have:numD (c::l)=(c.toNat - 48)*10^l.length+numD l:=by
   rw [show c::l=[c]++l from rfl,v7]; simp [numD]
  rw [this,List.length_cons,Nat.pow_succ]
  have h2:(c.toNat - 48)*10^l.length≤9*10^l.length:=Nat.mul_le_mul_right _ (by omega)
  omega
theorem Ke(l:List UInt8)(i:Nat)(h:i<l.length):l.take (i+1)=l.take i++[l.getD i 0]:=by
 rw [List.take_succ_eq_append_getElem h]; simp [List.getD,h]
def decB(x:ByteArray):Nat:=numD x.data.toList
theorem zdx{x:ByteArray}(h:allD x.data.toList)(hl:x.size≤9):decB x<B:=by
 have h1:=ym h
 have h2:x.data.toList.length=x.size:=by rw [Array.length_toList]; rfl
 have h3:10^x.data.toList.length≤10^9:=Nat.pow_le_pow_right (by decide) (by omega)
 have h4:(10:Nat)^9=B:=by decide
 unfold decB
 omega
end Go.Nov
end
section
namespace Go.Nov.Ten
abbrev B:Nat:=10
def val:List Nat→Nat
 | []=>0
 | d::l=>d+B*val l
def dig(l:List Nat):Prop:=∀ d∈l,d<B
def kX:Nat→Nat→List Nat
 | 0,_=>[]
 | n+1,x=>if x=0 then [] else x%B::kX n (x/B)
def canon(x:Nat):List Nat:=kX x x
theorem QT:∀ (n m x:Nat),x≤n→x≤m→kX n x=kX m x
 | 0,m,x,h,_=>by
  have:x=0:=by omega
  subst this
  cases m<;>simp [kX]
 | n+1,0,x,_,h=>by
  have:x=0:=by omega
  subst this
  simp [kX]
 | n+1,m+1,x,h1,h2=>by
  simp only [kX]
  by_cases h:x=0
  ·rw [if_pos h,if_pos h]
  ·have:=Nat.div_lt_self (Nat.pos_of_ne_zero h) (show 1<B by decide)
   rw [if_neg h,if_neg h,QT n m (x/B) (by omega) (by omega)]
theorem zC:canon 0=[]:=rfl
theorem qA{x:Nat}(h:x≠0):canon x=x%B::canon (x/B):=by
 have:=Nat.div_lt_self (Nat.pos_of_ne_zero h) (show 1<B by decide)
 obtain⟨n,rfl⟩:∃ n,x=n+1:=⟨x - 1,by omega⟩
 unfold canon
 rw [kX,if_neg h,QT n ((n+1)/B) _ (by omega) (Nat.le_refl _)]
theorem zk(x:Nat):val (canon x)=x:=by
 induction x using Nat.strongRecOn with
 | _ x ih=>
  by_cases h:x=0
  ·subst h; simp [zC,val]
  ·rw [qA h,val,ih _ (Nat.div_lt_self (Nat.pos_of_ne_zero h) (by decide))]
   exact Nat.mod_add_div x B
theorem zh(x:Nat):dig (canon x):=by
 induction x using Nat.strongRecOn with
 | _ x ih=>
  by_cases h:x=0
  ·subst h; simp [zC,dig]
  ·rw [qA h]
   intro d hd
   rcases List.mem_cons.1 hd with rfl | hd
   ·exact Nat.mod_lt _ (by decide)
   ·exact ih _ (Nat.div_lt_self (Nat.pos_of_ne_zero h) (by decide)) d hd
theorem qx{d:Nat}{l:List Nat} : dig (d::l)↔d<B∧dig l:=by simp [dig]
theorem qL{l m:List Nat} : dig (l++m)↔dig l∧dig m:=by
 simp only [dig,List.mem_append]
 exact⟨fun h=>⟨fun d hd=>h d (.inl hd),fun d hd=>h d (.inr hd)⟩,fun h d hd=>hd.elim (h.1 d) (h.2 d)⟩
theorem zD(l m:List Nat):val (l++m)=val l+B^l.length*val m:=by
 induction l with
 | nil=>simp [val]
 | cons d l ih=>simp only [List.cons_append,val,ih,List.length_cons,Nat.pow_succ]; rw [Nat.mul_add,← Nat.mul_assoc,Nat.mul_comm B (B^l.length),Nat.add_assoc]
theorem qe{l:List Nat}(h:dig l):val l<B^l.length:=by
 induction l with
 | nil=>simp [val]
 | cons d l ih=>
  obtain⟨h1,h2⟩:=qx.1 h
  have:=ih h2
  simp only [val,List.length_cons,Nat.pow_succ]
  have h3:B*(val l+1)≤B*B^l.length:=Nat.mul_le_mul_left _ this
  rw [Nat.mul_add] at h3
  rw [Nat.mul_comm (B^l.length)]
  omega
def tlen:List Nat→Nat
 | []=>0
 | d::l=>if d=0∧tlen l=0 then 0 else tlen l+1
def qu(l:List Nat):List Nat:=l.take (tlen l)
theorem zZ:∀ l:List Nat,tlen l≤l.length
 | []=>Nat.le_refl _
 | d::l=>by
  have:=zZ l
  simp only [tlen,List.length_cons]
  split<;>omega
theorem jw:∀ (l:List Nat) (j:Nat),tlen l≤j→l.getD j 0=0
 | [],j,_=>by simp
 | d::l,j,h=>by
  simp only [tlen] at h
  split at h
  ·rename_i hd
   cases j with
   | zero=>simp [hd.1]
   | succ j=>simpa using jw l j (by omega)
  ·cases j with
   | zero=>omega
   | succ j=>simpa using jw l j (by omega)
theorem qt:∀ l:List Nat,0<tlen l→l.getD (tlen l - 1) 0≠0
 | [],h=>by simp [tlen] at h
 | d::l,h=>by
  simp only [tlen] at h ⊢
  split at h
  ·omega
  ·rename_i hd
   rw [if_neg hd]
   rcases Nat.eq_zero_or_pos (tlen l) with h0 | h0
   ·rw [h0]
    simp only [h0,and_true] at hd
    simpa using hd
   ·have:=qt l h0
    rw [show tlen l+1 - 1=(tlen l - 1)+1 by omega]
    simpa using this
theorem val_zero{l:List Nat}(h:tlen l=0):val l=0:=by
 induction l with
 | nil=>rfl
 | cons d l ih=>
  simp only [tlen] at h
  split at h
  ·rename_i hd; simp [val,hd.1,ih hd.2]
  ·omega
theorem Qc{l:List Nat}(h:0<tlen l):0<val l:=by
 induction l with
 | nil=>simp [tlen] at h
 | cons d l ih=>
  simp only [tlen] at h
  split at h
  ·omega
  ·rename_i hd
   simp only [val]
   rcases Nat.eq_zero_or_pos (tlen l) with h0 | h0
   ·simp only [h0,and_true] at hd; omega
   ·have:=ih h0
    have:0<B*val l:=Nat.mul_pos (by decide) this
    omega
theorem zL{l:List Nat}(h:dig l):qu l=canon (val l):=by
 induction l with
 | nil=>simp [qu,tlen,val,zC]
 | cons d l ih=>
  obtain⟨h1,h2⟩:=qx.1 h
  have ih:=ih h2
  simp only [qu] at ih ⊢
  by_cases hz:d=0∧tlen l=0
  ·have:=val_zero hz.2
   simp [tlen,hz,val,this,zC]
  ·have hne:d+B*val l≠0:=by
    rcases Nat.eq_zero_or_pos (tlen l) with h0 | h0
    ·simp only [h0,and_true] at hz; omega
    ·have:=Nat.mul_pos (show 0<B by decide) (Qc h0)
     omega
   simp only [val,tlen,if_neg hz,List.take_succ_cons]
   rw [qA hne,ih]
   have e1:(d+B*val l)%B=d:=by rw [Nat.add_mul_mod_self_left,Nat.mod_eq_of_lt h1]
   have e2:(d+B*val l)/B=val l:=by rw [Nat.add_mul_div_left _ _ (by decide),Nat.div_eq_of_lt h1,Nat.zero_add]
   rw [e1,e2]
theorem qO(x:Nat):tlen (canon x)=(canon x).length:=by
 have:=zL (zh x)
 rw [zk] at this
 have h:=congrArg List.length this
 simp only [qu,List.length_take] at h
 have:=zZ (canon x)
 omega
theorem QN{l:List Nat}(h:dig l)(ht:tlen l=l.length):canon (val l)=l:=by
 rw [← zL h,qu,ht,List.take_length]
theorem ZP:∀ {l m:List Nat},dig l→dig m→l.length=m.length→val l=val m→l=m
 | [],[],_,_,_,_=>rfl
 | [],_::_,_,_,h,_=>by simp at h
 | _::_,[],_,_,h,_=>by simp at h
 | d::l,e::m,h1,h2,h3,h4=>by
  obtain⟨a1,a2⟩:=qx.1 h1
  obtain⟨b1,b2⟩:=qx.1 h2
  simp only [val] at h4
  have e1:d=e:=by
   have:=congrArg (· % B) h4
   simpa only [Nat.add_mul_mod_self_left,Nat.mod_eq_of_lt a1,Nat.mod_eq_of_lt b1] using this
  subst e1
  have e2:val l=val m:=Nat.eq_of_mul_eq_mul_left (show 0<B by decide) (by omega)
  rw [ZP a2 b2 (by simpa using h3) e2]
theorem yV{i:Nat} : ∀ {l m:List Nat},dig l→l.length=m.length→(∀ j,i<j→l.getD j 0=m.getD j 0)→l.getD i 0<m.getD i 0→val l<val m:=by
 induction i with
 | zero=>
  intro l m h1 h3 h4 h5
  cases l with
  | nil=>cases m with
   | nil=>simp at h5
   | cons _ _=>simp at h3
  | cons d l=>cases m with
   | nil=>simp at h3
   | cons e m=>
    simp only [List.getD_cons_zero] at h5
    have:l=m:=by
     apply List.ext_getElem (by simpa using h3)
     intro j hj hj'
     have:=h4 (j+1) (by omega)
     simpa [hj,hj'] using this
    subst this
    simp only [val]; omega
 | succ i ih=>
  intro l m h1 h3 h4 h5
  cases l with
  | nil=>cases m with
   | nil=>simp at h5
   | cons _ _=>simp at h3
  | cons d l=>cases m with
   | nil=>simp at h3
   | cons e m=>
    simp only [List.getD_cons_succ] at h5
    obtain⟨a1,a2⟩:=qx.1 h1
    have:=ih a2 (by simpa using h3) (fun j hj=>by simpa using h4 (j+1) (by omega)) h5
    simp only [val]
    have h6:B*(val l+1)≤B*val m:=Nat.mul_le_mul_left _ this
    rw [Nat.mul_add] at h6
    omega
theorem zP{x y:Nat}(h:(canon x).length<(canon y).length):x<y:=by
 have h1:=qe (zh x)
 rw [zk] at h1
 have h2:B^((canon y).length - 1)≤y:=by
  have hl:=qO y
  have hpos:0<tlen (canon y):=by omega
  have:=qt (canon y) hpos
  rw [hl] at this
  generalize hc:canon y=l at *
  have hy:val l=y:=by rw [← hc,zk]
  have hsplit:l=l.take (l.length - 1)++[l.getD (l.length - 1) 0]:=by
   have hlt:l.length - 1<l.length:=by omega
   rw [show l.getD (l.length - 1) 0=l[l.length - 1] by simp [List.getD,hlt]]
   have:=List.take_append_getElem hlt
   rw [this,show l.length - 1+1=l.length by omega,List.take_length]
  rw [← hy]
  conv=>rhs; rw [hsplit]
  rw [zD]
  simp only [val,List.length_take,Nat.mul_zero,Nat.add_zero]
  rw [show min (l.length - 1) l.length=l.length - 1 by omega]
  have:B^(l.length - 1)*1≤B^(l.length - 1)*l.getD (l.length - 1) 0:=Nat.mul_le_mul_left _ (Nat.pos_of_ne_zero this)
  omega
 have h3:B^(canon x).length≤B^((canon y).length - 1):=Nat.pow_le_pow_right (by decide) (by omega)
 omega
theorem zn:∀ (l:List Nat) (i:Nat),val (l.take (i+1))=val (l.take i)+B^i*l.getD i 0
 | [],i=>by simp [val]
 | d::l,0=>by simp [val]
 | d::l,i+1=>by
  have:=zn l i
  simp only [List.take_succ_cons,val,this,List.getD_cons_succ,Nat.pow_succ]
  rw [Nat.mul_add,Nat.add_assoc,← Nat.mul_assoc,Nat.mul_comm B (B^i)]
theorem zH{l:List Nat}(h:dig l)(i:Nat):l.getD i 0<B:=by
 by_cases hi:i<l.length
 ·have:=h l[i] (List.getElem_mem hi)
  simpa [List.getD,hi] using this
 ·simp [List.getD,List.getElem?_eq_none (Nat.le_of_not_lt hi)]
theorem y9:∀ (l:List Nat) (p d:Nat),p<l.length→val (l.set p d)+B^p*l.getD p 0=val l+B^p*d
 | [],p,d,h=>by simp at h
 | e::l,0,d,_=>by simp only [List.set_cons_zero,val,List.getD_cons_zero,Nat.pow_zero]; omega
 | e::l,p+1,d,h=>by
  have:=y9 l p d (by simpa using h)
  have h2:=congrArg (B * ·) this
  simp only [Nat.mul_add,← Nat.mul_assoc] at h2
  simp only [List.set_cons_succ,val,List.getD_cons_succ,Nat.pow_succ,Nat.mul_comm (B^p) B]
  omega
theorem uK{l:List Nat}(h:dig l)(p:Nat){d:Nat}(hd:d<B):dig (l.set p d):=by
 intro e he
 rcases List.mem_or_eq_of_mem_set he with he | rfl
 ·exact h e he
 ·exact hd
theorem je{l:List Nat}(h:dig l)(n:Nat):dig (l.take n):=fun e he=>h e (List.mem_of_mem_take he)
theorem ZW{l:List Nat}(h:dig l)(n:Nat):dig (l.drop n):=fun e he=>h e (List.mem_of_mem_drop he)
theorem Qr{l:List Nat}{n:Nat}(hv:val l<B^n){p:Nat}(hp:n≤p):l.getD p 0=0:=by
 rcases Nat.eq_zero_or_pos (l.getD p 0) with h | h
 ·exact h
 exfalso
 have h1:=zn l p
 have h2:val l=val (l.take (p+1))+B^(l.take (p+1)).length*val (l.drop (p+1)):=by rw [← zD,List.take_append_drop]
 have h3:B^p*1≤B^p*l.getD p 0:=Nat.mul_le_mul_left _ h
 have h4:B^n≤B^p:=Nat.pow_le_pow_right (by decide) hp
 omega
def padN(n x:Nat):List Nat:=canon x++List.replicate (n - (canon x).length) 0
theorem jg(n:Nat):val (List.replicate n 0)=0:=by
 induction n with
 | zero=>rfl
 | succ n ih=>simp [List.replicate_succ,val,ih]
theorem qE(n:Nat):dig (List.replicate n 0):=by
 intro d hd
 rw [List.mem_replicate] at hd
 rw [hd.2]; decide
theorem Kl{l:List Nat}(h:dig l):l=padN l.length (val l):=by
 have ht:=zL h
 have hl:=congrArg List.length ht
 have:=zZ l
 simp only [qu,List.length_take] at hl
 refine ZP h (qL.2 ⟨zh _,qE _⟩) ?_ ?_
 ·simp only [padN,List.length_append,List.length_replicate]; omega
 ·rw [padN,zD,zk,jg]; omega
theorem VE{l:List Nat}(h:dig l):tlen l=(canon (val l)).length:=by
 have hl:=congrArg List.length (zL h)
 have:=zZ l
 simp only [qu,List.length_take] at hl
 omega
end Go.Nov.Ten
end
section
namespace Go.Nov
theorem xY(s:ByteArray)(a b:Nat):(s.extract a b).data.toList=(s.data.toList.take b).drop a:=by
 rw [ByteArray.data_extract,Array.toList_extract]
 show List.extract s.data.toList a b=_
 rw [List.extract_eq_drop_take',List.drop_take]
theorem x9{α:Type}{l m:List α}{p:Nat}{z:α}(h:p<l.length):(l++m).getD p z=l.getD p z:=by
 simp only [List.getD]; rw [List.getElem?_append_left h]
theorem uX{α:Type}{l m:List α}{p:Nat}{z:α}(h:l.length≤p):(l++m).getD p z=m.getD (p - l.length) z:=by
 simp only [List.getD]; rw [List.getElem?_append_right h]
theorem YX{α β:Type}{f:α→β}{l:List α}{p:Nat}{z:α}{y:β}(h:p<l.length):(l.map f).getD p y=f (l.getD p z):=by
 simp [List.getD,h]
theorem zc7{α:Type}{n p:Nat}{a z:α}(h:p<n):(List.replicate n a).getD p z=a:=by
 simp [List.getD,h]
theorem UQ{α:Type}{l:List α}{p:Nat}{z:α}(h:l.length≤p):l.getD p z=z:=by
 simp [List.getD,List.getElem?_eq_none h]
theorem XR{α:Type}{l:List α}{n p:Nat}{z:α}(h:p<n):(l.take n).getD p z=l.getD p z:=by
 simp only [List.getD,List.getElem?_take,if_pos h]
def decs:Nat→Nat→List Nat
 | 0,_=>[]
 | k+1,x=>x%10::decs k (x/10)
theorem yw:∀ k x,(decs k x).length=k
 | 0,_=>rfl
 | k+1,x=>by simp [decs,yw k]
theorem WO:∀ k x,Ten.dig (decs k x)
 | 0,_=>by simp [decs,Ten.dig]
 | k+1,x=>Ten.qx.2 ⟨Nat.mod_lt _ (by decide),WO k _⟩
theorem WM:∀ k x,x<10^k→Ten.val (decs k x)=x
 | 0,x,h=>by simp [decs,Ten.val] at h ⊢; omega
 | k+1,x,h=>by
  simp only [decs,Ten.val]
  rw [WM k (x/10) (Nat.div_lt_of_lt_mul (by rw [Nat.pow_succ,Nat.mul_comm] at h; exact h))]
  exact Nat.mod_add_div x 10
theorem uB:∀ (a b v w:Nat),v<10^a→decs (a+b) (v+10^a*w)=decs a v++decs b w
 | 0,b,v,w,h=>by simp at h; subst h; simp [decs]
 | a+1,b,v,w,h=>by
  rw [show a+1+b=(a+b)+1 by omega]
  simp only [decs,List.cons_append]
  have e1:10^(a+1)*w=10*(10^a*w):=by rw [Nat.pow_succ,Nat.mul_comm (10^a) 10,Nat.mul_assoc]
  have h2:v/10<10^a:=Nat.div_lt_of_lt_mul (by rw [Nat.pow_succ,Nat.mul_comm] at h; exact h)
  rw [e1,Nat.add_mul_mod_self_left,Nat.add_mul_div_left _ _ (by decide),uB a b (v/10) w h2]
theorem QS:∀ (k x:Nat),decs (k+1) x=decs k x++[x/10^k%10]
 | 0,x=>by simp [decs]
 | k+1,x=>by
  rw [decs,QS k (x/10),decs,List.cons_append]
  congr 3
  rw [Nat.div_div_eq_div_mul,Nat.pow_succ,Nat.mul_comm]
theorem zd5{k x:Nat}(h:x<10^k):decs k x=Ten.padN k x:=by
 have:=Ten.Kl (WO k x)
 rwa [yw,WM k x h] at this
def dec(x:Nat):List Nat:=Ten.canon x
def byt(d:Nat):UInt8:=UInt8.ofNat (48+d)
theorem Za{k x:Nat}(h:x<10^k):(dec x).length≤k:=by
 rcases Nat.lt_or_ge k (dec x).length with h1 | h1
 ·exfalso
  have hl:=Ten.qO x
  have htop:=Ten.qt (Ten.canon x) (by simp only [dec] at h1; omega)
  rw [hl] at htop
  have h4:=Ten.zn (Ten.canon x) ((Ten.canon x).length - 1)
  simp only [dec] at h1
  rw [Nat.sub_add_cancel (by omega),List.take_length,Ten.zk] at h4
  have h5:10^k≤10^((Ten.canon x).length - 1):=Nat.pow_le_pow_right (by decide) (by omega)
  have h6:10^((Ten.canon x).length - 1)*1≤10^((Ten.canon x).length - 1)*(Ten.canon x).getD ((Ten.canon x).length - 1) 0:=Nat.mul_le_mul_left _ (by omega)
  have h7:x=Ten.val ((Ten.canon x).take ((Ten.canon x).length - 1))+10^((Ten.canon x).length - 1)*(Ten.canon x).getD ((Ten.canon x).length - 1) 0:=h4
  omega
 ·exact h1
theorem Yc{x:Nat}(h:0<(dec x).length):(dec x).getD ((dec x).length - 1) 0≠0:=by
 have hl:=Ten.qO x
 have htop:=Ten.qt (Ten.canon x) (by simp only [dec] at h; omega)
 rwa [hl] at htop
theorem JL{x:Nat}(h:x≠0):0<(dec x).length:=by
 simp only [dec]; rw [Ten.qA h]; simp
theorem dec_lt(x i:Nat):(dec x).getD i 0<10:=Ten.zH (Ten.zh x) i
def txt(x:Nat):List UInt8:=if x=0 then [48] else((dec x).map byt).reverse
def parse:List UInt8→Bool×List UInt8
 | []=>(false,[])
 | c::b=>if c=45 then(true,b) else(false,c::b)
def sgn(neg:Bool)(b:List UInt8):List UInt8:=if neg then 45::b else b
theorem Ux(s:List UInt8):sgn (parse s).1 (parse s).2=s:=by
 cases s with
 | nil=>rfl
 | cons c b=>
  simp only [parse]
  split
  ·rename_i h; subst h; rfl
  ·rfl
def jC(neg:Bool)(b:List UInt8):Bool:= !(decide (b=[])) && !(neg&&decide (b=[48])) && !(decide (b.getD 0 0=48)&&decide (1<b.length))&&b.all isD
def errI(s:List UInt8):Int:=if jC (parse s).1 (parse s).2 then(if 1000<(parse s).2.length then 14 else 0) else 12
theorem Ye{b:List UInt8} : b.all isD=true↔allD b:=by
 simp only [List.all_eq_true,allD,isD,Bool.and_eq_true,decide_eq_true_eq]
theorem Wd{neg:Bool}{b:List UInt8}(h:jC neg b=true):allD b∧b≠[]:=by
 simp only [jC,Bool.and_eq_true,Bool.not_eq_true',decide_eq_false_iff_not] at h
 exact⟨Ye.1 h.2,h.1.1.1⟩
theorem vU{neg:Bool}{b:List UInt8}(h:b.getD 0 0=48)(hl:1<b.length):jC neg b=false:=by
 have e:(decide (b.getD 0 0=48)&&decide (1<b.length))=true:=by rw [h]; simp [hl]
 unfold jC
 rw [e]
 simp
theorem WS{c d:UInt8}(h:(c.toNat:Int)=(d.toNat:Int)):c=d:=UInt8.toNat_inj.1 (by omega)
theorem J8{s:List UInt8}(h:errI s=0):∃ neg b,s=sgn neg b∧parse s=(neg,b)∧jC neg b=true∧allD b∧b≠[]∧b.length≤1000:=by
 unfold errI at h
 split at h
 ·rename_i hf
  split at h
  ·cases h
  ·rename_i hl
   obtain⟨h1,h2⟩:=Wd hf
   exact⟨_,_,(Ux s).symm,rfl,hf,h1,h2,by omega⟩
 ·cases h
theorem vX(s:List UInt8):errI s=0∨errI s=12∨errI s=14:=by
 unfold errI
 split
 ·split<;>simp
 ·simp
def negI(s:List UInt8):Bool:=(parse s).1
def numI(s:List UInt8):Nat:=numD (parse s).2
theorem ZC{s:List UInt8}(h:errI s=0):s=sgn (negI s) (parse s).2∧allD (parse s).2∧(parse s).2≠[]∧(parse s).2.length≤1000:=by
 obtain⟨neg,b,h1,h2,h3,h4,h5,h6⟩:=J8 h
 simp only [negI,h2]
 exact⟨h1,h4,h5,h6⟩
theorem Xo{a b c k:Nat}(h:k=b*c):(a^b)^c=a^k:=by rw [h,Nat.pow_mul]
theorem x8{s:List UInt8}(h:errI s=0):(canon (numI s)).length≤112:=by
 obtain⟨_,h1,_,h2⟩:=ZC h
 refine zt ?_
 have h3:=ym h1
 obtain⟨k,hk⟩:∃ k,k=9*112:=⟨_,rfl⟩
 have h4:10^(parse s).2.length≤10^k:=Nat.pow_le_pow_right (by decide) (by omega)
 have h5:B^112=10^k:=by rw [show B=10^9 by decide]; exact Xo hk
 rw [h5]
 exact Nat.lt_of_lt_of_le h3 h4
def zu(s t:List UInt8):Int:=if errI s=0 then errI t else errI s
theorem zm{s t:List UInt8} : zu s t=0↔errI s=0∧errI t=0:=by
 unfold zu
 split
 ·rename_i h; simp [h]
 ·rename_i h; simp [h]
def wr(neg:Bool)(x:Nat):List UInt8×Int:=if x=0 then([48],0) else if 1000<(dec x).length then([],14) else(sgn neg (txt x),0)
def gcdR(s t:List UInt8):List UInt8×Int:=if zu s t=0 then wr false (Nat.gcd (numI s) (numI t)) else([],zu s t)
def dg(b:List UInt8):List Nat:=(b.map fun c=>c.toNat - 48).reverse
theorem KP(b:List UInt8):(dg b).length=b.length:=by simp [dg]
theorem zh4{b:List UInt8}(h:allD b):Ten.dig (dg b):=by
 intro d hd
 simp only [dg,List.mem_reverse,List.mem_map] at hd
 obtain⟨c,hc,rfl⟩:=hd
 have:=h c hc
 show c.toNat - 48<10
 omega
theorem Ko:∀ b:List UInt8,Ten.val (dg b)=numD b
 | []=>rfl
 | c::b=>by
  have e:dg (c::b)=dg b++[c.toNat - 48]:=by simp [dg]
  rw [e,Ten.zD,Ko b,KP,show c::b=[c]++b from rfl,v7]
  simp only [Ten.val,numD,List.foldl_cons,List.foldl_nil]
  rw [Nat.mul_comm]; simp [Nat.add_comm]
def cmpN(x y:Nat):Int:=if x<y then -1 else if y<x then 1 else 0
def zB(s:List UInt8):Nat:=s.findIdx (· == 47)
def cutR(s:List UInt8):List UInt8×List UInt8×Bool:=if zB s<s.length then(s.take (zB s),s.drop (zB s+1),true) else(s,[],false)
theorem J1(s:List UInt8):zB s≤s.length:=List.findIdx_le_length
theorem Ql{s:List UInt8}(h:zB s<s.length):s.getD (zB s) 0=47:=by
 have:=List.findIdx_getElem (w:=h)
 simp only [List.getD,List.getElem?_eq_getElem h,Option.getD_some]
 exact beq_iff_eq.1 this
theorem J4{s:List UInt8}{j:Nat}(h:j<zB s):s.getD j 0≠47:=by
 have hl:j<s.length:=Nat.lt_of_lt_of_le h (J1 s)
 have:=List.not_of_lt_findIdx h
 simp only [List.getD,List.getElem?_eq_getElem hl,Option.getD_some]
 simpa using this
theorem zaj{s:List UInt8}{i:Nat}(hi:i<s.length)(h:s.getD i 0=47)(hb:∀ j,j<i→s.getD j 0≠47):zB s=i:=by
 rcases Nat.lt_trichotomy (zB s) i with h1 | h1 | h1
 ·exact absurd (Ql (Nat.lt_trans h1 hi)) (hb _ h1)
 ·exact h1
 ·exact absurd h (J4 h1)
theorem Kn{s:List UInt8}(hb:∀ j,j<s.length→s.getD j 0≠47):zB s=s.length:=by
 rcases Nat.lt_or_ge (zB s) s.length with h | h
 ·exact absurd (Ql h) (hb _ h)
 ·exact Nat.le_antisymm (J1 s) h
def errR(s:List UInt8):Int:=
 if(cutR s).2.2 then
  if errI (cutR s).1=12∨errI (cutR s).2.1=12∨negI (cutR s).2.1=true∨(cutR s).2.1=[48]∨(cutR s).2.1=[49] then 12
  else if errI (cutR s).1≠0∨errI (cutR s).2.1≠0 then 14
  else if(gcdR (cutR s).1 (cutR s).2.1).1≠[49] then 12 else 0
 else errI s
theorem US{s:List UInt8}(h:¬ zB s<s.length):cutR s=(s,[],false):=if_neg h
theorem X8{s:List UInt8}(h:zB s<s.length):cutR s=(s.take (zB s),s.drop (zB s+1),true):=if_pos h
theorem JF(s:List UInt8):(cutR s).1.length≤s.length∧(cutR s).2.1.length≤s.length:=by
 unfold cutR
 split<;>simp<;>omega
theorem Jc{s:List UInt8}(h:s≠[]):negI s=decide (s.getD 0 0=45):=by
 cases s with
 | nil=>exact absurd rfl h
 | cons c b=>
  simp only [negI,parse]
  split
  ·rename_i hc; subst hc; rfl
  ·rename_i hc; simp [hc]
theorem VC:errI []=12:=rfl
def isL(c:UInt8):Bool:=(97≤c.toNat&&c.toNat≤122)||(65≤c.toNat&&c.toNat≤90)
def isN(c:UInt8):Bool:=isL c||isD c||c == 95||c == 45
def zS(s:List UInt8):Bool:=decide (0<s.length)&&decide (s.length≤40)&&isL (s.getD 0 0)&&s.all isN
theorem zcw{p:UInt8→Bool}{s:List UInt8}(h:∀ j,j<s.length→p (s.getD j 0)=true):s.all p=true:=by
 rw [List.all_eq_true]
 intro c hc
 obtain⟨j,hj,rfl⟩:=List.getElem_of_mem hc
 have:=h j hj
 simpa [List.getD,hj] using this
theorem Wj{p:UInt8→Bool}{s:List UInt8}{j:Nat}(hj:j<s.length)(h:p (s.getD j 0)=false):s.all p=false:=by
 rw [List.all_eq_false]
 refine⟨s.getD j 0,by simp [List.getD,hj],by simpa using h⟩
def dayB(d:Int):Bool:=decide (0≤d)&&decide (d≤99999)
end Go.Nov
end
section
namespace Go.Sx
variable [Stat]
open Go.RowKit (Below)
def alive:Blk→Prop
 | .box _=>True
 | .arr n _ _=>0<n
 | .dead=>False
 | .arrI _ n _=>0<n
 | .arrS n _=>0<n
 | .map _ _ _ _ _=>False
theorem W6{h:Heap}(hl:∀ b∈h,alive b):∀ b∈h,JR b=false:=by
 intro b hb
 have:=hl b hb
 cases b<;>first | rfl | exact this.elim
section
variable {O:Nat→Prop} {pin:Nat} {w0:World} {σ0:List SE} {w:World} {σ:List SE} {P:Program} {a:Act} {fn:Func}
theorem Zy{h:Heap}{own:Nat→Prop}(hp:HRep own w σ h)(hl:∀ b∈h,alive b){b:Nat}(hb:Mine σ b):∃ cs el fr,w.heap[b]?=some (Obj.cells cs el fr):=by
 obtain⟨i,e,ad,h1,h2,h3⟩:=zr.1 hb
 have hi:i<h.length:=by rw [← hp.len]; exact(List.getElem?_eq_some_iff.1 h1).1
 have hbr:=hp.blk i e _ h1 (List.getElem?_eq_getElem hi)
 have ha:=hl _ (List.getElem_mem hi)
 generalize h[i]=bl at hbr ha
 subst h3
 cases bl with
 | dead=>exact ha.elim
 | box cells=>
  obtain⟨ad',vs,el,g1,_,g3,_⟩:=hbr
  rw [h2] at g1; cases g1
  exact⟨_,_,_,g3⟩
 | arr n sz g=>
  obtain⟨_,g⟩:=hbr
  rcases g with g | ⟨ad',cs,el,g1,g2,_⟩
  ·simp only [alive] at ha; omega
  ·rw [h2] at g1; cases g1
   exact⟨_,_,_,g2⟩
 | arrI _ n _=>
  obtain⟨_,g⟩:=hbr
  rcases g with g | ⟨ad',cs,el,g1,g2,_⟩
  ·simp only [alive] at ha; omega
  ·rw [h2] at g1; cases g1
   exact⟨_,_,_,g2⟩
 | arrS n _=>
  obtain⟨_,g⟩:=hbr
  rcases g with g | ⟨ad',cs,el,g1,g2,_⟩
  ·simp only [alive] at ha; omega
  ·rw [h2] at g1; cases g1
   exact⟨_,_,_,g2⟩
 | map _ _ _ _ _=>exact ha.elim
theorem Kx{c:Code}{Q:Exit→Act→World→Prop}(n m:Nat)(h:c.wpIn (FM none) n P Q a w):c.wpIn (FM none) m P Q a w:=by
 simp only [FM] at h ⊢
 exact wpIn_wide.2 (wpIn_wide.1 h)
def zc1(c:Code)(tg tp td:Nat):Bool:=match c with
 | .rangeFunc (.tmp g) ps (.region _ ops false) _=>decide (g=tg)&&decide (ps.toList=[tp])&&match ops.toList with
  | [o]=>decide (o.dst=some td)&&o.guard.isNone&&match o.op with
   | .assign (.tmp t)=>decide (t=tp)
   | _=>false
  | _=>false
 | _=>false
theorem Xr{c:Code}{tg tp td:Nat}(h:zc1 c tg tp td=true):∃ id o,c = .rangeFunc (.tmp tg) #[tp] (.region id #[o] false) (J9 c)∧o.dst=some td∧o.guard=none∧o.op = .assign (.tmp tp):=by
 unfold zc1 at h
 split at h
 ·rename_i g ps id ops body
  simp only [Bool.and_eq_true,decide_eq_true_eq] at h
  obtain⟨⟨rfl,h2⟩,h3⟩:=h
  split at h3
  ·rename_i o ho
   simp only [Bool.and_eq_true,decide_eq_true_eq,Option.isNone_iff_eq_none] at h3
   obtain⟨⟨h4,h5⟩,h6⟩:=h3
   split at h6
   ·rename_i t ht
    simp only [decide_eq_true_eq] at h6
    subst h6
    refine⟨id,o,?_,h4,h5,ht⟩
    have e1:ps = #[t]:=by rw [← Array.toList_inj]; exact h2
    have e2:ops = #[o]:=by rw [← Array.toList_inj]; exact ho
    rw [e1,e2]; rfl
   ·cases h6
  ·cases h3
 ·cases h
theorem Xf{M:Option Nat}{td tp id:Nat}{o:Oper}(hd:o.dst=some td)(hgd:o.guard=none)(hop:o.op = .assign (.tmp tp)){K:Act→World→Prop}{Qe:Exit→Act→World→Prop}(h:K { a with tmps:=a.tmps.setIfInBounds td (a.tmps.getD tp undef) } w) :
  (Code.region id #[o] false).wpIn (FM M) 0 P (Exit.then K Qe) a w:=by
 refine wpIn_region_list ?_
 simp only [Array.toList]
 refine wpListIn_step fun K' hK'=> ?_
 rw [if_pos (by simp [Region.wanted,hgd])]
 refine Qs (by simp [hop]) ?_
 unfold Oper.wp
 have:(execOp a.eval o).run P w = .ok (.value (a.eval (.tmp tp))) w:=by
  simp [execOp,hop]
 rw [this]
 have e:a.put o.dst (a.eval (.tmp tp))={ a with tmps:=a.tmps.setIfInBounds td (a.tmps.getD tp undef) } :=by rw [hd]; rfl
 show K' (a.put o.dst (a.eval (.tmp tp))) w
 rw [e]
 exact hK' _ _ h
theorem wN.le{pin pinR:Nat}{w':World}{σ':List SE}(h:wN pinR w σ w' σ')(hp:pin≤pinR):wN pin w σ w' σ':=fun i e hi he=>h i e (Nat.lt_of_lt_of_le hi hp) he
theorem wN.hold{pinR:Nat}{w':World}{σ':List SE}(h:wN pinR w σ w' σ'):Hold (List.range' pinR σ.length) w σ w' σ':=by
 intro i e he hi
 have hlt:=(List.getElem?_eq_some_iff.1 he).1
 refine h i e ?_ he
 rcases Nat.lt_or_ge i pinR with h1 | h1
 ·exact h1
 ·exact absurd (List.mem_range'_1.2 ⟨h1,by omega⟩) hi
theorem zb.range{α:Type}{Hs:Nat→KV→Heap→Prop}{R:List AV→Heap→Prop}{k:List Item}{c:Code}{kv:KV}{h:Heap}{tg tp td gf:Nat}{cap:List AV}(hc:zc1 c tg tp td=true)
  (he:∀ args w,(callFunc gf args).run P w = .ok (.enter gf args) w) (av:α→AV) (H Hx:List α→Heap) (X S Sp:List α→Prop) (N pinR:Nat)
  (hg:look kv tg = .fn gf [] cap) (htg:tg<fn.ntmps) (htp:tp<fn.ntmps) (hno:∀ x t b y,av x≠.opt t b y) (hle:LeK pin fn.ntmps kv h kv (H [])) (hlow:(pk fn.ntmps kv).all (lowB pinR)=true) (hpin:pin≤pinR) (halive:∀ pre,∀ b∈H pre,alive b) (halivex:∀ pre,∀ b∈Hx pre,alive b)
  (iter:∀ w σ a,Mod O pin w0 σ0 w σ (mk fn.ntmps kv (H [])) a→∀ vb,RepL (Own O σ) w cap σ vb→∃ (Keep:World→Prop) (ev:α→Value),SeqStopsK Fence.wide 0 P gf vb.toArray (fun x=> #[ev x]) (fun W W'=>Keep W→Keep W') S Sp N w ∧
   (∀ pre W σ',Mod O pin w0 σ0 W σ' (mk fn.ntmps kv (H pre)) a→Keep W∧∀ x,Rep (Own O σ') W (av x) σ' (ev x)) ∧
   (∀ W l o o',w.heap.size≤l→W.heap[l]?=some o→o.isCells=false→Keep W→Keep (W.putObj l o')))
  (round:∀ l pre x,pre.length<N→∀ (W:World) (σ1:List SE),wV (some l) P (bare fn) O pinR W σ1 (fun d kv' h'=>LeK pinR fn.ntmps [] h' [] (H (pre++[x]))) (fun _ h'=>X (pre++[x])∧LeK pinR fn.ntmps [] h' [] (Hx (pre++[x]))) [.code (J9 c),.inLoop] (mk fn.ntmps ((td,av x)::(tp,av x)::kv) (H pre)))
  (done:∀ xs,S xs→zb P fn O pin w0 σ0 Hs R k (mk fn.ntmps kv (H xs)))
  (stop:∀ pre,Sp pre→X pre→(resX P (mk fn.ntmps kv (Hx pre)) fn.results.toList).holds fun rs=>R rs (Hx pre)) :
  zb P fn O pin w0 σ0 Hs R (.code c::k) (mk fn.ntmps kv h):=by
 obtain⟨id,o,hco,hod,hog,hop⟩:=Xr hc
 generalize J9 c=body at *
 subst hco
 clear hc
 intro w σ a hm0
 have hm:=hle.le.mod hm0
 clear hm0
 generalize σ.take (mk fn.ntmps kv (H [])).heap.length=σ at hm
 simp only [wpK]
 have hgt:=hm.tm tg
 have hev:(mk fn.ntmps kv (H [])).tmps.getD tg .undef = .fn gf [] cap:=by simp only [mk]; rw [vq htg]; exact hg
 rw [hev] at hgt
 simp only [TRep,Rep] at hgt
 obtain⟨va,vb,hval,hva,hvb⟩:=hgt
 have hva:va=[]:=by simpa [RepL] using hva
 subst hva
 obtain⟨Keep,ev,hseq,hkeep,hstab⟩:=iter w σ a hm vb hvb
 have hB:∀ d∈a.defers,∃ D,d={ target:=.collected D,args:= #[] } ∧ D<w.heap.size:=by
  intro d hd
  obtain⟨D,h1,_,_,h4⟩:=hm.df.2 d hd
  exact⟨D,h1,(Array.getElem?_eq_some_iff.1 h4).1⟩
 have hOB:∀ b,O b→b<w.heap.size:=hm.good.old
 have hmarks:∀ (W:World) (σ':List SE),Mod O pin w0 σ0 W σ' (mk fn.ntmps kv (H [])) a∨True:=fun _ _=>.inr trivial
 have turnI:∀ (Hh:List α→Heap),(∀ pre,∀ b∈Hh pre,alive b)→OwnFrom w.heap.size (fun pre W=>∃ σ',Mod O pin w0 σ0 W σ' (mk fn.ntmps kv (Hh pre)) a):=by
  intro Hh hal pre W W' row hI hgr hr
  obtain⟨σ',hM⟩:=hI
  refine⟨σ',?_⟩
  have:=hM.turn hgr (ds:=a.defers) (fun r e=>⟨Nat.le_trans hm.since.ext.size (hr r e).1,(hr r e).2⟩) (.inl (W6 (hal pre))) (hM.df.turn hgr fun r e hmem=>by
   obtain⟨D,h1,h2⟩:=hB _ hmem
   have:=(hr r e).1
   simp only [Deferred.mk.injEq,Target.collected.injEq,and_true] at h1
   omega)
  exact this
 have push:∀ (D:Nat) (Hh:Heap) (W:World) (σ':List SE),(∀ b∈Hh,alive b)→w.heap.size≤D→W.heap[D]?=some (.deferred (some []))→Mod O pin w0 σ0 W σ' (mk fn.ntmps kv Hh) a→Mod O pin w0 σ0 W σ' (mk fn.ntmps kv Hh) { a with defers:={ target:=.collected D,args:= #[] } :: a.defers } :=by
  intro D Hh W σ' hal hD hWD hM
  refine⟨hM.good,hM.hp,hM.size,hM.tm,⟨List.nodup_cons.2 ⟨fun hmem=> ?_,hM.df.1⟩,fun d hd=> ?_⟩,hM.since,hM.lim⟩
  ·obtain⟨D',h1,h2⟩:=hB _ hmem
   simp only [Deferred.mk.injEq,Target.collected.injEq,and_true] at h1
   omega
  ·rcases List.mem_cons.1 hd with rfl | hd
   ·refine⟨D,rfl,Nat.le_trans hm.since.ext.size hD,?_,hWD⟩
    rintro(hO | hM')
    ·have:=hOB D hO; omega
    ·obtain⟨cs,el,fr,hcs⟩:=Zy hM.hp hal hM'
     rw [hWD] at hcs; cases hcs
   ·exact hM.df.2 d hd
 refine Kx 1 0 ?_
 refine wpIn_rangeFunc_ownG (F:=Fence.wide) rfl (Nat.le_refl 1) (gf:=gf) (lb:=vb.toArray) (by simp only [Act.eval]; exact hval) trivial he (encs:=fun x=> #[ev x]) (Kp:=fun W W'=>Keep W→Keep W') (S:=S) (Sp:=Sp) (N:=N) (w0:=w) hseq
  (fun h1 h2 h3=>h2 (h1 h3)) (fun W l o o' h1 h2 h3 _ h4=>hstab W l o o' h1 h2 h3 h4) (Below.refl _ _) (fun _=>rfl)
  (fun pre W=>∃ σ',Mod O pin w0 σ0 W σ' (mk fn.ntmps kv (H pre)) a) (fun c pre W=>c = .ret∧X pre∧∃ σ',Mod O pin w0 σ0 W σ' (mk fn.ntmps kv (Hx pre)) a)
  (turnI H halive) (fun c pre W W' row hI hgr hr=>⟨hI.1,hI.2.1,turnI Hx halivex pre W W' row hI.2.2 hgr hr⟩) ⟨σ,hm⟩
  (fun x=>{ tmps:=(a.tmps.setIfInBounds tp (ev x)).setIfInBounds td ((a.tmps.setIfInBounds tp (ev x)).getD tp undef),defers:=[] }) ?_ ?_ ?_ ?_
 ·
  intro l x W K hK
  refine Xf (M:=some l) hod hog hop ?_
  simpa using hK
 ·
  rintro l pre x W ⟨σ1,hM⟩ hlen
  have hsz:a.tmps.size=fn.ntmps:=by rw [hM.size]; simp [mk,pk]
  have hM2:Mod O pinR W σ1 W σ1 (mk fn.ntmps ((td,av x)::(tp,av x)::kv) (H pre)) { tmps:=(a.tmps.setIfInBounds tp (ev x)).setIfInBounds td ((a.tmps.setIfInBounds tp (ev x)).getD tp undef),defers:=[] } :=by
   have hx:=(hkeep pre W σ1 hM).2 x
   have hxT:∀ T,TRep (Own O σ1) W σ1 T (av x) (ev x):=by
    intro T
    have:=hno x
    generalize av x=y at hx this
    cases y with
    | opt t b z=>exact absurd rfl (this t b z)
    | _=>simpa only [TRep] using hx
   refine⟨hM.good,hM.hp,by simp [mk,pk,hsz],fun t=> ?_,Marks.nil _ _ _,Stp.refl _ _ _ _,hM.good.stat⟩
   by_cases ht:t<fn.ntmps
   ·simp only [mk]
    rw [vq ht]
    have htp':(a.tmps.setIfInBounds tp (ev x)).getD tp undef=ev x:=by simp [hsz,htp]
    rw [htp']
    by_cases h1:td=t
    ·subst h1
     simp only [look,if_true]
     have:((a.tmps.setIfInBounds tp (ev x)).setIfInBounds td (ev x)).getD td undef=ev x:=by simp [hsz,ht]
     rw [this]; exact hxT _
    ·have e1:((a.tmps.setIfInBounds tp (ev x)).setIfInBounds td (ev x)).getD t undef=(a.tmps.setIfInBounds tp (ev x)).getD t undef:=by
      simp only [Array.getD_eq_getD_getElem?]
      rw [Array.getElem?_setIfInBounds_ne h1]
     rw [e1]
     by_cases h2:tp=t
     ·subst h2
      simp only [look,if_neg h1,if_true]
      rw [htp']; exact hxT _
     ·simp only [look,if_neg h1,if_neg h2]
      have e2:(a.tmps.setIfInBounds tp (ev x)).getD t undef=a.tmps.getD t undef:=by
       simp only [Array.getD_eq_getD_getElem?]
       rw [Array.getElem?_setIfInBounds_ne h2]
      rw [e2]
      have:=hM.tm t
      simp only [mk] at this
      rw [vq ht] at this
      have hl:lowB pinR (look kv t)=true:=List.all_eq_true.1 hlow (look kv t) (by simp only [pk,List.mem_map,List.mem_range]; exact⟨t,ht,rfl⟩)
      generalize look kv t=y at this hl
      cases y with
      | opt u b z=>exact absurd rfl (xC hl u b z)
      | _=>simpa only [TRep] using this
   ·have:(mk fn.ntmps ((td,av x)::(tp,av x)::kv) (H pre)).tmps.getD t .undef = .undef:=by simp [mk,pk,List.getD,ht]
    rw [this]; simp [TRep,Rep]
  have hr:=round l pre x hlen W σ1 W σ1 _ hM2
  simp only [wpK] at hr
  have fin:∀ (Hh:Heap) (st':St) (W':World) (τ:List SE) (a':Act),LeK pinR fn.ntmps [] st'.heap [] Hh→Mod O pinR W σ1 W' τ st' a'→KeepsFrom w.heap.size W W'∧∃ σ',Mod O pin w0 σ0 W' σ' (mk fn.ntmps kv Hh) a:=by
   intro Hh st' W' τ a' hL hM'
   have h1:Mod O pinR W σ1 W' τ (mk fn.ntmps [] st'.heap) { tmps:=Array.replicate fn.ntmps undef,defers:=[] } :=by
    refine⟨hM'.good,hM'.hp,by simp [mk,pk],fun t=> ?_,Marks.nil _ _ _,hM'.since,hM'.lim⟩
    have:(mk fn.ntmps [] st'.heap).tmps.getD t .undef = .undef:=by
     simp only [mk,pk,List.getD,List.getElem?_map]
     cases (List.range fn.ntmps)[t]?<;>simp [look]
    rw [this]; simp [TRep,Rep]
   have h2:=hL.le.mod h1
   generalize τ.take (mk fn.ntmps [] Hh).heap.length=τ' at h2
   have hx:=h2.since.ext
   refine⟨⟨hx.size,fun b o hb ho hoc=> ?_⟩,τ',?_⟩
   ·have hlt:=(Array.getElem?_eq_some_iff.1 ho).1
    rw [← ho]
    by_cases hO:O b
    ·exact h2.since.vJ b hO hlt
    ·refine hx.keep b hlt ?_
     rintro(h3 | h3)
     ·exact hO h3
     ·obtain⟨cs,el,fr,hcs⟩:=Zy hM.hp (halive pre) h3
      rw [ho] at hcs; cases hcs; simp [Obj.isCells] at hoc
   ·refine⟨h2.good,h2.hp,hM.size,fun t=> ?_,hM.df.ext hx,hM.since.trans ⟨hx,h2.since.vJ,h2.since.hold.le hpin⟩,hM.lim⟩
    have ht:=hM.tm t
    by_cases htn:t<fn.ntmps
    ·simp only [mk] at ht ⊢
     rw [vq htn] at ht ⊢
     have hl:lowB pinR (look kv t)=true:=List.all_eq_true.1 hlow (look kv t) (by simp only [pk,List.mem_map,List.mem_range]; exact⟨t,htn,rfl⟩)
     generalize look kv t=y at ht hl
     cases y with
     | opt u b z=>exact absurd rfl (xC hl u b z)
     | _=>simp only [TRep] at ht ⊢; exact qc hx h2.since.hold.hold _ _ (Qm hl) ht
    ·have:(mk fn.ntmps kv Hh).tmps.getD t .undef = .undef:=by simp [mk,pk,List.getD,htn]
     rw [this]; simp [TRep,Rep]
  refine wpIn_mono hr fun e a' W' h=> ?_
  cases e with
  | normal=>
   simp only [wpK] at h
   obtain⟨st,τ,⟨kv',h',hL,rfl⟩,hM'⟩:=h
   obtain⟨h1,σ',h2⟩:=fin _ (mk fn.ntmps kv' h') _ _ _ hL hM'
   exact⟨h1,fun _=>(hkeep _ _ _ h2).1,σ',h2⟩
  | ret=>
   simp only [wpK] at h
   rcases h with ⟨_,st,τ,⟨hX,hL⟩,hM'⟩ | ⟨_,_,h,_⟩
   rotate_left
   ·exact h.elim
   obtain⟨h1,σ',h2⟩:=fin _ st _ _ _ hL hM'
   exact⟨h1,rfl,hX,σ',h2⟩
  | exit i=>simp only [wpK] at h; exact absurd h (by simp)
  | goto t=>simp only [wpK] at h; exact absurd h (by simp)
  | panic ch=>simp only [wpK] at h; exact absurd h (by simp)
  | outgrown=>simp only [wpK] at h; exact absurd h (by simp)
 ·
  rintro D xs W hD hS ⟨σ1,hM⟩ hWD
  exact done xs hS W σ1 _ (push D _ W σ1 (halive xs) hD hWD hM)
 ·rintro D c pre W hD hSp ⟨rfl,hX,σ1,hM⟩ hWD
  refine wpIn_ret (yi (.inl ⟨.inl rfl,mk fn.ntmps kv (Hx pre),σ1,stop pre hSp hX,push D _ W σ1 (halivex pre) hD hWD hM⟩))
def uz(kv:KV)(t:Nat)(a:AV):KV:=kv.map fun p=>if p.1=t then(t,a) else p
theorem UA{kv:KV}{t:Nat}{a:AV} : ∀ u,look (uz kv t a) u=if u=t then(if(kv.any fun p=>p.1 == t) then a else .undef) else look kv u:=by
 intro u
 induction kv with
 | nil=>simp [uz,look]
 | cons p l ih=>
  obtain⟨i,x⟩:=p
  simp only [uz,List.map_cons,List.any_cons] at ih ⊢
  by_cases hit:i=t
  ·subst hit
   simp only [if_true,look,beq_self_eq_true,Bool.true_or]
   by_cases hu:i=u
   ·subst hu; simp
   ·rw [if_neg hu,if_neg (fun h=>hu h.symm),ih,if_neg (fun h=>hu h.symm),if_neg hu]
  ·have hb:(i == t)=false:=by simpa using hit
   simp only [if_neg hit,look,hb,Bool.false_or]
   by_cases hu:i=u
   ·subst hu; simp [hit]
   ·rw [if_neg hu,ih,if_neg hu]
theorem zb.bear{Xp:List PanicEntry→Prop}{M:Option Nat}{Hs:Nat→KV→Heap→Prop}{R:List AV→Heap→Prop}{k:List Item}{kv:KV}{h:Heap}(t sz:Nat)(g:Nat→Nat→AV)(hnil:look kv t = .nils)(ht:t<fn.ntmps)(hno:(pk fn.ntmps kv).all qm=true)
  (H:zA Xp M P fn O pin w0 σ0 Hs R k (mk fn.ntmps (uz kv t (.osl h.length sz 0 0)) (h++[.arr 0 sz g]))):zA Xp M P fn O pin w0 σ0 Hs R k (mk fn.ntmps kv h):=by
 refine Safe.bear t sz g (by simp only [mk]; rw [vq ht]; exact hnil) hno ?_
 have e:wA (mk fn.ntmps kv h) t sz g=mk fn.ntmps (uz kv t (.osl h.length sz 0 0)) (h++[.arr 0 sz g]):=by
  simp only [wA,mk]
  congr 1
  apply List.ext_getElem (by simp [pk])
  intro u h1 h2
  simp only [pk,List.getElem_map,List.getElem_range,List.getElem_set,UA]
  by_cases hu:t=u
  ·subst hu
   rw [if_pos rfl,if_pos rfl]
   have:kv.any (fun p=>p.1 == t)=true:=by
    rcases Bool.eq_false_or_eq_true (kv.any fun p=>p.1 == t) with hh | hh
    ·exact hh
    ·exfalso
     have:look kv t = .undef:=by
      clear hnil hno H ht h1 h2
      induction kv with
      | nil=>rfl
      | cons p l ih=>
       simp only [List.any_cons,Bool.or_eq_false_iff,beq_eq_false_iff_ne] at hh
       simp only [look,if_neg hh.1]
       exact ih hh.2
     rw [hnil] at this; cases this
   rw [this]; rfl
  ·rw [if_neg hu,if_neg (fun hh=>hu hh.symm)]
 rw [e]
 exact H
end
end Go.Sx
end
section
namespace Go.Sx
variable [Stat]
section
variable {O:Nat→Prop} {pin:Nat} {w0:World} {σ0:List SE} {w:World} {σ:List SE} {P:Program} {st:St} {a:Act} {fn:Func} {Xp:List PanicEntry→Prop}
end
end Go.Sx
end
section
namespace Go.Nov
open Go.Sx
inductive Ex where
 | mk (kind:Int) (rat name:List UInt8) (date:Int) (sub:List Ex)
namespace Ex
def kind:Ex→Int | mk k _ _ _ _=>k
def rat:Ex→List UInt8 | mk _ r _ _ _=>r
def name:Ex→List UInt8 | mk _ _ n _ _=>n
def date:Ex→Int | mk _ _ _ d _=>d
def sub:Ex→List Ex | mk _ _ _ _ s=>s
mutual
def size:Ex→Nat
 | mk _ _ _ _ s=>1+zo s
def zo:List Ex→Nat
 | []=>0
 | x::l=>size x+zo l
end
abbrev nil:Ex:=mk 0 [] [] 0 []
theorem size_eq(x:Ex):x.size=1+zo x.sub:=by cases x; rw [size]; rfl
theorem size_pos(x:Ex):0<x.size:=by rw [size_eq]; omega
theorem Zv(s:List Ex)(i:Nat)(h:i<s.length):zo (s.take (i+1))=zo (s.take i)+(s.getD i nil).size:=by
 induction s generalizing i with
 | nil=>simp at h
 | cons x s ih=>
  cases i with
  | zero=>simp [zo]
  | succ i=>
   simp only [List.take_succ_cons,zo,List.getD_cons_succ]
   rw [ih i (by simpa using h)]
   omega
theorem wE{s:List Ex}{i:Nat}(h:i<s.length):(s.getD i nil).size≤zo s:=by
 induction s generalizing i with
 | nil=>simp at h
 | cons x s ih=>
  cases i with
  | zero=>simp [zo]
  | succ i=>
   simp only [List.getD_cons_succ,zo]
   have:=ih (i:=i) (by simpa using h)
   omega
theorem xm(s:List Ex)(i:Nat):zo (s.take i)≤zo s:=by
 induction s generalizing i with
 | nil=>simp [zo]
 | cons x s ih=>
  cases i with
  | zero=>simp [zo]
  | succ i=>simp only [List.take_succ_cons,zo]; have:=ih i; omega
theorem q8(s:List Ex):s.length≤zo s:=by
 induction s with
 | nil=>simp [zo]
 | cons x s ih=>simp only [List.length_cons,zo]; have:=size_pos x; omega
def cell(k:Int)(r n:List UInt8)(d:Int)(l:Nat)(g:Nat→Nat→AV):Nat→AV
 | 0=>.int .u8 k
 | 1=>.str r
 | 2=>.str n
 | 3=>.int .i64 d
 | 4=>.sl l 5 g
 | _=>.undef
def deep:Ex→Nat→Nat→AV
 | mk _ _ _ _ s=>fun j=>(s.map fun x=>cell x.kind x.rat x.name x.date x.sub.length (deep x)).getD j fun _=>.undef
def exG(s:List Ex):Nat→Nat→AV:=fun j=>cell (s.getD j nil).kind (s.getD j nil).rat (s.getD j nil).name (s.getD j nil).date (s.getD j nil).sub.length (deep (s.getD j nil))
def exS(s:List Ex):AV:=.sl s.length 5 (exG s)
def exA(x:Ex):AV:=.agg [.int .u8 x.kind,.str x.rat,.str x.name,.int .i64 x.date,exS x.sub]
theorem jW(x:Ex):eqG x.sub.length 5 (deep x) (exG x.sub):=by
 intro j o hj ho
 cases x with
 | mk k r n d s=>
  rw [deep]
  change j<s.length at hj
  show _=exG s j o
  simp [exG,List.getD,hj]
end Ex
end Go.Nov
end
section
namespace Go.Nov
open Go.Sx
def shpL:List (Int×List Int×Int):=[(4,[1,1],1),(5,[1,1],1),(6,[1,1],1),(7,[1,1],1),(8,[1,1],1),(9,[2,1,1],1),(11,[1,1],2),(12,[1,1],2),(13,[2,2],2),(14,[2,2],2),(15,[2],2)]
def QJ(k:Int):Option (List Int×Int):=(shpL.find? fun p=>p.1 == k).map (·.2)
def vG(k:Int):Bool:=(QJ k).isSome
def qK(k:Int):List Int:=((QJ k).getD ([],0)).1
def jb(k:Int):Nat:=(qK k).length
def qp(k:Int)(j:Nat):Int:=(qK k).getD j 0
def qZ(k:Int):Int:=((QJ k).getD ([],0)).2
def zh7(k:Int):Int:=if k=1 then 0 else if k=2 then 15 else if k=3 then 256 else if k=4 then 136 else if k=5 then 272 else if k=6 then 160 else if k=7 then 261 else if k=8 then 197 else 208
end Go.Nov
end
section
open Go Go.Sx Go.Proofs Go.Nov
namespace Go.Proofs.Tryz
noncomputable instance:Go.Sx.Stat:=⟨fun g=>
 if g=0 then some (.mp .u8 true 2 [] (fun k=>vG k) fun k o=>match o with
 | 0=>.sl (jb k) 1 fun j _=>.int .u8 (qp k j)
 | _=>.int .u8 (qZ k)) else
 none⟩
end Go.Proofs.Tryz
end
section
namespace Go.Proofs
open Go.RowKit Go.Shelf
attribute [local go_sem] Oper.semAt_some
inductive CT where
 | mk (u0:Int) (u1 u2 u3:ByteArray) (u4:Int) (u5 u6:ByteArray) (u7:Int) (up:Option Addr) (ul uc:Nat) (u9:Int) (uq:Option Addr) (um ud:Nat) (a:Option Addr) (cap:Nat) (kids:List CT)
namespace CT
def val:CT→Value
 | mk u0 u1 u2 u3 u4 u5 u6 u7 up ul uc u9 uq um ud a cap kids=>.agg #[.int .u8 u0,.string u1,.string u2,.string u3,.int .u8 u4,.string u5,.string u6,.int .i64 u7,.slice up ul uc,.int .i64 u9,.slice uq um ud,.slice a kids.length cap]
def cells:CT→List Value
 | mk u0 u1 u2 u3 u4 u5 u6 u7 up ul uc u9 uq um ud a cap kids=>[.int .u8 u0,.string u1,.string u2,.string u3,.int .u8 u4,.string u5,.string u6,.int .i64 u7,.slice up ul uc,.int .i64 u9,.slice uq um ud,.slice a kids.length cap]
mutual
def all:CT→List CT
 | mk u0 u1 u2 u3 u4 u5 u6 u7 up ul uc u9 uq um ud a cap kids=>mk u0 u1 u2 u3 u4 u5 u6 u7 up ul uc u9 uq um ud a cap kids::alls kids
def alls:List CT→List CT
 | []=>[]
 | t::l=>all t++alls l
end
mutual
def mem(K:World→Prop):CT→Prop
 | mk u0 u1 u2 u3 u4 u5 u6 u7 up ul uc u9 uq um ud a cap kids=>kids.length≤1000000∧mems K a 0 kids
def mems(K:World→Prop)(a:Option Addr):Nat→List CT→Prop
 | _,[]=>True
 | j,t::l=>(∃ ad B o,a=some ad∧ad.add (j*12)=⟨B,o,none⟩∧∀ W,K W→∀ (k:Nat) (v:Value),t.cells[k]?=some v→W.cell? ⟨B,o+k,none⟩=some v)∧mem K t∧mems K a (j+1) l
end
mutual
def zht:CT→Nat
 | mk _ _ _ _ _ _ _ _ _ _ _ _ _ _ _ _ _ kids=>1+Yr kids
def Yr:List CT→Nat
 | []=>0
 | t::l=>zht t+Yr l
end
end CT
end Go.Proofs
end
section
namespace Go.Nov
open Go.Sx
def jf(k:Int)(r n:List UInt8)(d:Int)(l:Nat):Bool:=
 decide (l=0)&&(if k=1 then decide (errR r=0)&&decide (n=[])&&decide (d=0) else if k=2 then decide (r=[])&&zS n&&dayB d else if k=3 then decide (r=[])&&zS n&&decide (d=0) else false)
def vI(k:Int)(r n:List UInt8)(d:Int)(ss:List Int):Int:=
 if vG k=true then(if r=[]∧n=[]∧d=0∧ss=qK k then qZ k else 0) else if jf k r n d ss.length=true then 1 else 0
theorem KJ{k:Int}{r m:List UInt8}{d:Int}{l:List Int}(h:vG k=false):vI k r m d l=if jf k r m d l.length=true then 1 else 0:=by
 unfold vI
 rw [if_neg (by rw [h]; decide)]
namespace Ex
mutual
def depth:Ex→Nat
 | mk _ _ _ _ s=>1+zV s
def zV:List Ex→Nat
 | []=>0
 | x::l=>max (depth x) (zV l)
end
mutual
def z8:Ex→Nat
 | mk _ r n _ s=>r.length+n.length+jc s
def jc:List Ex→Nat
 | []=>0
 | x::l=>z8 x+jc l
end
mutual
def qQ:Ex→Int
 | mk k r n d s=>vI k r n d (qR s)
def qR:List Ex→List Int
 | []=>[]
 | x::l=>qQ x::qR l
end
mutual
def thin:Ex→Prop
 | mk _ r n _ s=>r.length≤2^48∧n.length≤2^48∧ZA s
def ZA:List Ex→Prop
 | []=>True
 | x::l=>thin x∧ZA l
end
theorem yl(x:Ex):x.depth=1+zV x.sub:=by cases x; rw [depth]; rfl
theorem Y4(x:Ex):x.z8=x.rat.length+x.name.length+jc x.sub:=by cases x; rw [z8]; rfl
theorem za1(x:Ex):x.qQ=vI x.kind x.rat x.name x.date (qR x.sub):=by cases x; rw [qQ]; rfl
theorem k7(s:List Ex)(i:Nat)(h:i<s.length):zV (s.take (i+1))=max (zV (s.take i)) (s.getD i nil).depth:=by
 induction s generalizing i with
 | nil=>simp at h
 | cons x s ih=>
  cases i with
  | zero=>simp [zV]
  | succ i=>
   simp only [List.take_succ_cons,zV,List.getD_cons_succ]
   rw [ih i (by simpa using h)]
   omega
theorem Xj{s:List Ex}{i:Nat}(h:i<s.length):(s.getD i nil).z8≤jc s:=by
 induction s generalizing i with
 | nil=>simp at h
 | cons x s ih=>
  cases i with
  | zero=>simp [jc]
  | succ i=>
   simp only [List.getD_cons_succ,jc]
   have:=ih (i:=i) (by simpa using h)
   omega
theorem jD(s:List Ex):(qR s).length=s.length:=by
 induction s with
 | nil=>simp [qR]
 | cons x s ih=>simp [qR,ih]
theorem Q9{s:List Ex}{i:Nat}(h:i<s.length):(qR s).getD i 0=(s.getD i nil).qQ:=by
 induction s generalizing i with
 | nil=>simp at h
 | cons x s ih=>
  cases i with
  | zero=>simp [qR]
  | succ i=>simpa [qR] using ih (i:=i) (by simpa using h)
theorem WD{s:List Ex}{ps:List Int} : qR s=ps↔s.length=ps.length∧∀ i,i<s.length→(s.getD i nil).qQ=ps.getD i 0:=by
 constructor
 ·rintro rfl
  exact⟨(jD s).symm,fun i hi=>(Q9 hi).symm⟩
 ·rintro⟨h1,h2⟩
  apply List.ext_getElem
  ·rw [jD,h1]
  ·intro i g1 g2
   have g3:i<s.length:=by rwa [jD] at g1
   have:=h2 i g3
   rw [← Q9 g3] at this
   simpa [List.getD,g1,g2] using this
mutual
theorem YK:∀ x:Ex,thin x→z8 x≤size x*2^49
 | mk k r n d s,h=>by
  rw [thin] at h
  have:=Jr s h.2.2
  rw [z8,size,Nat.add_mul]
  omega
theorem Jr:∀ l:List Ex,ZA l→jc l≤zo l*2^49
 | [],_=>by simp [jc]
 | x::l,h=>by
  rw [ZA] at h
  have h1:=YK x h.1
  have h2:=Jr l h.2
  rw [jc,zo,Nat.add_mul]
  omega
end
def errX(x:Ex):Int:=if 500<x.size∨60<x.depth then 4 else if x.qQ=0 then 8 else 0
theorem Un(x:Ex):0<x.depth:=by rw [yl]; omega
theorem xn:∀ x:Ex,x.depth≤x.size:=by
 intro x
 have key:∀ (n:Nat) (x:Ex),x.size≤n→x.depth≤x.size:=by
  intro n
  induction n with
  | zero=>intro x h; have:=size_pos x; omega
  | succ n ih=>
   intro x h
   rw [size_eq] at h ⊢
   rw [yl]
   have:∀ l:List Ex,zo l≤n→zV l≤zo l:=by
    intro l
    induction l with
    | nil=>simp [zV]
    | cons y l il=>
     intro hl
     simp only [zo,zV] at hl ⊢
     have:=ih y (by omega)
     have:=il (by omega)
     omega
   have:=this x.sub (by omega)
   omega
 exact key _ x (Nat.le_refl _)
theorem J0{s t:List Ex}(hl:s.length=t.length)(h:∀ j,j<s.length→s.getD j nil=t.getD j nil):s=t:=by
 apply List.ext_getElem hl
 intro i g1 g2
 have:=h i g1
 simpa [List.getD,g1,g2] using this
theorem Ww{x y:Ex} : x=y↔x.kind=y.kind∧x.rat=y.rat∧x.name=y.name∧x.date=y.date∧x.sub=y.sub:=by
 cases x; cases y
 simp [kind,rat,name,date,sub]
end Ex
end Go.Nov
end
section
namespace Go.Nov
open Go.Sx
def cmpS(s t:List UInt8):Int:=if Op.bytesLess s t then -1 else if s=t then 0 else 1
def cmpI(x y:Int):Int:=if x<y then -1 else if y<x then 1 else 0
def orI:List Int→Int
 | []=>0
 | x::l=>if x=0 then orI l else x
structure Fx where
 name:List UInt8
 date:Int
 value:List UInt8
structure Ch where
 qi:List UInt8
 name:List UInt8
 date:Int
 first:Bool
abbrev Fx.nil:Fx:=⟨[],0,[]⟩
abbrev Ch.nil:Ch:=⟨[],[],0,false⟩
def Fx.cell(f:Fx):Nat→AV
 | 0=>.str f.name
 | 1=>.int .i64 f.date
 | 2=>.str f.value
 | _=>.undef
def Ch.cell(c:Ch):Nat→AV
 | 0=>.str c.qi
 | 1=>.str c.name
 | 2=>.int .i64 c.date
 | 3=>.bool c.first
 | _=>.undef
def fxG(l:List Fx):Nat→Nat→AV:=fun j=>(l.getD j Fx.nil).cell
def chG(l:List Ch):Nat→Nat→AV:=fun j=>(l.getD j Ch.nil).cell
def Fx.av(f:Fx):AV:=.agg [.str f.name,.int .i64 f.date,.str f.value]
def Ch.av(c:Ch):AV:=.agg [.str c.qi,.str c.name,.int .i64 c.date,.bool c.first]
def fxS(l:List Fx):AV:=.sl l.length 3 (fxG l)
def chS(l:List Ch):AV:=.sl l.length 4 (chG l)
def envA(f:List Fx)(c:List Ch):AV:=.agg [fxS f,chS c]
def cmpF(a b:Fx):Int:=if cmpS a.name b.name=0 then cmpI a.date b.date else cmpS a.name b.name
def cmpC(a b:Ch):Int:=if cmpS a.qi b.qi=0 then(if cmpS a.name b.name=0 then cmpI a.date b.date else cmpS a.name b.name) else cmpS a.qi b.qi
end Go.Nov
namespace Go.Nov
def okF(f:Fx):Bool:=zS f.name&&dayB f.date&&decide (errR f.value=0)
def okC(c:Ch):Bool:=zS c.qi&&zS c.name&&dayB c.date
def idxB{α:Type}(p:α→Bool)(l:List α):Int:=if l.findIdx p<l.length then(l.findIdx p:Int) else -1
theorem W5{α:Type}(p:α→Bool)(l:List α):decide (0≤idxB p l)=l.any p:=by
 unfold idxB
 by_cases h:l.findIdx p<l.length
 ·rw [if_pos h]
  have:l.any p=true:=by
   rw [List.any_eq_true]
   exact⟨_,List.getElem_mem h,List.findIdx_getElem (w:=h)⟩
  rw [this]; simp
 ·rw [if_neg h]
  have:l.any p=false:=by
   rw [List.any_eq_false]
   intro x hx hpx
   exact h (List.findIdx_lt_length_of_exists ⟨x,hx,hpx⟩)
  rw [this]; rfl
theorem JX{α:Type}{p:α→Bool}{l:List α}{z:α}{i:Nat}(hi:i<l.length)(h:p (l.getD i z)=true)(hb:∀ j,j<i→p (l.getD j z)=false):idxB p l=i:=by
 have hlt:l.findIdx p<l.length:=List.findIdx_lt_length_of_exists ⟨l[i],List.getElem_mem hi,by simpa [List.getD,hi] using h⟩
 have e:l.findIdx p=i:=by
  rcases Nat.lt_trichotomy (l.findIdx p) i with h1 | h1 | h1
  ·have h2:=List.findIdx_getElem (w:=hlt)
   have h3:=hb _ h1
   simp only [List.getD,List.getElem?_eq_getElem hlt,Option.getD_some] at h3
   rw [h2] at h3; cases h3
  ·exact h1
  ·have h2:=List.not_of_lt_findIdx h1
   simp only [List.getD,List.getElem?_eq_getElem hi,Option.getD_some] at h
   exact absurd h (by simpa using h2)
 unfold idxB
 rw [if_pos hlt,e]
theorem yK{α:Type}{p:α→Bool}{l:List α}{z:α}(hb:∀ j,j<l.length→p (l.getD j z)=false):idxB p l = -1:=by
 unfold idxB
 rw [if_neg]
 intro h
 have h2:=List.findIdx_getElem (w:=h)
 have h3:=hb _ h
 simp only [List.getD,List.getElem?_eq_getElem h,Option.getD_some] at h3
 rw [h2] at h3; cases h3
end Go.Nov
namespace Go.Nov
def ordB{α:Type}(c:α→α→Int)(z:α)(l:List α):Bool:=(List.range (l.length - 1)).all fun i=>decide (c (l.getD i z) (l.getD (i+1) z)<0)
theorem ZK{α:Type}{c:α→α→Int}{z:α}{l:List α}(h:∀ j,j+1<l.length→c (l.getD j z) (l.getD (j+1) z)<0):ordB c z l=true:=by
 simp only [ordB,List.all_eq_true,List.mem_range,decide_eq_true_eq]
 exact fun j hj=>h j (by omega)
theorem Wt{α:Type}{c:α→α→Int}{z:α}{l:List α}{j:Nat}(hj:j+1<l.length)(h:¬ c (l.getD j z) (l.getD (j+1) z)<0):ordB c z l=false:=by
 simp only [ordB,List.all_eq_false,List.mem_range]
 exact⟨j,by omega,by simpa using h⟩
def errE(f:List Fx)(c:List Ch):Int:=if 1000<f.length∨1000<c.length then 4 else if(f.all okF&&c.all okC&&ordB cmpF Fx.nil f&&ordB cmpC Ch.nil c)=true then 0 else 8
end Go.Nov
namespace Go.Nov
theorem zfh{x y:Int} : cmpI x y<0↔x<y:=by
 unfold cmpI
 split
 ·rename_i h; exact⟨fun _=>h,fun _=>by decide⟩
 ·rename_i h
  split
  ·exact⟨fun h2=>by omega,fun h2=>absurd h2 h⟩
  ·exact⟨fun h2=>by omega,fun h2=>absurd h2 h⟩
end Go.Nov
namespace Go.Nov
theorem Fx.eq_iff{a b:Fx} : (decide (a.name=b.name)&&(decide (a.date=b.date)&&(decide (a.value=b.value)&&true)))=true↔a=b:=by
 cases a; cases b
 simp [Fx.mk.injEq]
theorem Ch.eq_iff{a b:Ch} : (decide (a.qi=b.qi)&&(decide (a.name=b.name)&&(decide (a.date=b.date)&&((a.first == b.first)&&true))))=true↔a=b:=by
 cases a; cases b
 simp [Ch.mk.injEq]
theorem WW{α:Type}{l m:List α}{z:α}(hl:l.length=m.length)(h:∀ j,j<l.length→l.getD j z=m.getD j z):l=m:=by
 apply List.ext_getElem hl
 intro j h1 h2
 have:=h j h1
 simpa [List.getD,h1,h2] using this
end Go.Nov
end
section
namespace Go.Nov
open Go.Sx
inductive Con where
 | mk (kind:Int) (src dst name:List UInt8) (x:Ex) (date:Int) (days:List Int) (sub:List Con)
def kx(x:Ex):Bool:=decide (x.kind=0)&&(decide (x.rat=[])&&(decide (x.name=[])&&(decide (x.date=0)&&decide (x.sub.length=0))))
def Zw(x:Ex):Nat:=bif kx x then 0 else x.size
def Wa(x:Ex):Nat:=bif kx x then 0 else x.depth
def numX(x:Ex):Bool:=decide (x.errX=0)&&decide (x.qQ=1)
def truX(x:Ex):Bool:=decide (x.errX=0)&&decide (x.qQ=2)
def incB(l:List Int):Bool:=ordB cmpI 0 l
def zfu(l:List Int):Bool:=decide (1≤l.length)&&(decide (l.length≤100)&&(l.all dayB&&incB l))
def XN(k:Int)(a b n:List UInt8)(x:Ex)(d:Int)(l:List Int)(m:Nat):Bool:=
 if k=1 then decide (m=0)&&decide (a=[])&&decide (b=[])&&decide (n=[])&&decide (d=0)&&decide (l=[])&&kx x
 else if k=2 then decide (m=0)&&zS a&&zS b&&decide (a≠b)&&zS n&&numX x&&decide (d=0)&&decide (l=[])
 else if k=3 then decide (m=2)&&decide (a=[])&&decide (b=[])&&decide (n=[])&&decide (d=0)&&decide (l=[])&&kx x
 else if k=4 then decide (m=1)&&decide (a=[])&&decide (b=[])&&decide (n=[])&&decide (d=0)&&decide (l=[])&&numX x
 else if k=5 then decide (m=2)&&decide (a=[])&&decide (b=[])&&decide (n=[])&&decide (d=0)&&decide (l=[])&&truX x
 else if k=6 then decide (m=1)&&decide (a=[])&&decide (b=[])&&decide (n=[])&&dayB d&&decide (l=[])&&kx x
 else if k=7 then decide (m=2)&&zS a&&decide (b=[])&&zS n&&decide (d=0)&&decide (l=[])&&kx x
 else if k=8 then decide (m=1)&&zS a&&decide (b=[])&&zS n&&decide (d=0)&&zfu l&&kx x
 else if k=9∨k=10 then decide (m=1)&&decide (a=[])&&decide (b=[])&&decide (n=[])&&decide (d=0)&&zfu l&&truX x
 else false
namespace Con
def kind:Con→Int | mk k _ _ _ _ _ _ _=>k
def src:Con→List UInt8 | mk _ a _ _ _ _ _ _=>a
def dst:Con→List UInt8 | mk _ _ b _ _ _ _ _=>b
def name:Con→List UInt8 | mk _ _ _ n _ _ _ _=>n
def x:Con→Ex | mk _ _ _ _ x _ _ _=>x
def date:Con→Int | mk _ _ _ _ _ d _ _=>d
def days:Con→List Int | mk _ _ _ _ _ _ l _=>l
def sub:Con→List Con | mk _ _ _ _ _ _ _ s=>s
abbrev nil:Con:=mk 0 [] [] [] Ex.nil 0 [] []
mutual
def nodes:Con→Nat
 | mk _ _ _ _ _ _ _ s=>1+kq s
def kq:List Con→Nat
 | []=>0
 | c::l=>nodes c+kq l
end
mutual
def size:Con→Nat
 | mk _ _ _ _ x _ _ s=>1+Zw x+zo s
def zo:List Con→Nat
 | []=>0
 | c::l=>size c+zo l
end
mutual
def depth:Con→Nat
 | mk _ _ _ _ x _ _ s=>1+max (Wa x) (zV s)
def zV:List Con→Nat
 | []=>0
 | c::l=>max (depth c) (zV l)
end
mutual
def big:Con→Nat
 | mk _ a b n x _ l s=>1+a.length+b.length+n.length+l.length+x.size+x.z8+bigs s
def bigs:List Con→Nat
 | []=>0
 | c::l=>big c+bigs l
end
mutual
def form:Con→Bool
 | mk k a b n x d l s=>XN k a b n x d l s.length&&uS s
def uS:List Con→Bool
 | []=>true
 | c::l=>form c&&uS l
end
mutual
def thin:Con→Prop
 | mk _ a b n x _ l s=>a.length≤2^48∧b.length≤2^48∧n.length≤2^48∧x.thin∧l.length≤2^48∧s.length≤2^48∧ZA s
def ZA:List Con→Prop
 | []=>True
 | c::l=>thin c∧ZA l
end
theorem size_eq(c:Con):c.size=1+Zw c.x+zo c.sub:=by cases c; rw [size]; rfl
theorem yl(c:Con):c.depth=1+max (Wa c.x) (zV c.sub):=by cases c; rw [depth]; rfl
theorem size_pos(c:Con):0<c.size:=by rw [size_eq]; omega
section
variable {f:Con→Nat} {F:List Con→Nat}
theorem WB(h0:F []=0)(h1:∀ c l,F (c::l)=f c+F l):∀ (s:List Con) (i:Nat),i<s.length→F (s.take (i+1))=F (s.take i)+f (s.getD i nil)
 | [],i,h=>by simp at h
 | c::s,0,_=>by simp [h0,h1]
 | c::s,i+1,h=>by
  simp only [List.take_succ_cons,h1,List.getD_cons_succ]
  rw [WB h0 h1 s i (by simpa using h)]
  omega
theorem Yz(h0:F []=0)(h1:∀ c l,F (c::l)=f c+F l):∀ (s:List Con) (i:Nat),i<s.length→f (s.getD i nil)≤F s
 | [],i,h=>by simp at h
 | c::s,0,_=>by simp [h1]
 | c::s,i+1,h=>by
  simp only [List.getD_cons_succ,h1]
  have:=Yz h0 h1 s i (by simpa using h)
  omega
end
theorem Zv{s:List Con}{i:Nat}(h:i<s.length):zo (s.take (i+1))=zo (s.take i)+(s.getD i nil).size:=WB (by rw [zo]) (fun c l=>by rw [zo]) s i h
theorem wE{s:List Con}{i:Nat}(h:i<s.length):(s.getD i nil).size≤zo s:=Yz (by rw [zo]) (fun c l=>by rw [zo]) s i h
theorem k7:∀ (s:List Con) (i:Nat),i<s.length→zV (s.take (i+1))=max (zV (s.take i)) (s.getD i nil).depth
 | [],i,h=>by simp at h
 | c::s,0,_=>by simp [zV]
 | c::s,i+1,h=>by
  simp only [List.take_succ_cons,zV,List.getD_cons_succ]
  rw [k7 s i (by simpa using h)]
  omega
def errC(c:Con):Int:=if 500<c.size∨60<c.depth then 4 else if c.form=true then 0 else 8
def dayG(l:List Int):Nat→Nat→AV:=fun j _=>.int .i64 (l.getD j 0)
def dayS(l:List Int):AV:=.sl l.length 1 (dayG l)
def cell(k:Int)(a b n:List UInt8)(x:Ex)(d:Int)(l:List Int)(m:Nat)(g:Nat→Nat→AV):Nat→AV
 | 0=>.int .u8 k
 | 1=>.str a
 | 2=>.str b
 | 3=>.str n
 | 4=>.int .u8 x.kind
 | 5=>.str x.rat
 | 6=>.str x.name
 | 7=>.int .i64 x.date
 | 8=>.sl x.sub.length 5 (Ex.exG x.sub)
 | 9=>.int .i64 d
 | 10=>.sl l.length 1 (dayG l)
 | 11=>.sl m 12 g
 | _=>.undef
def deep:Con→Nat→Nat→AV
 | mk _ _ _ _ _ _ _ s=>fun j=>(s.map fun c=>cell c.kind c.src c.dst c.name c.x c.date c.days c.sub.length (deep c)).getD j fun _=>.undef
def conG(s:List Con):Nat→Nat→AV:=fun j=>cell (s.getD j nil).kind (s.getD j nil).src (s.getD j nil).dst (s.getD j nil).name (s.getD j nil).x (s.getD j nil).date (s.getD j nil).days (s.getD j nil).sub.length (deep (s.getD j nil))
def conS(s:List Con):AV:=.sl s.length 12 (conG s)
def conA(c:Con):AV:=.agg [.int .u8 c.kind,.str c.src,.str c.dst,.str c.name,.int .u8 c.x.kind,.str c.x.rat,.str c.x.name,.int .i64 c.x.date,Ex.exS c.x.sub,.int .i64 c.date,dayS c.days,conS c.sub]
theorem jW(c:Con):eqG c.sub.length 12 (deep c) (conG c.sub):=by
 intro j o hj ho
 cases c with
 | mk k a b n x d l s=>
  rw [deep]
  change j<s.length at hj
  show _=conG s j o
  simp [conG,List.getD,hj]
theorem Ww{c e:Con} : c=e↔c.kind=e.kind∧c.src=e.src∧c.dst=e.dst∧c.name=e.name∧c.x=e.x∧c.date=e.date∧c.days=e.days∧c.sub=e.sub:=by
 cases c; cases e
 simp [kind,src,dst,name,x,date,days,sub]
theorem J0{s t:List Con}(hl:s.length=t.length)(h:∀ j,j<s.length→s.getD j nil=t.getD j nil):s=t:=by
 apply List.ext_getElem hl
 intro i g1 g2
 have:=h i g1
 simpa [List.getD,g1,g2] using this
mutual
def all:Con→List Con
 | mk k a b n x d l s=>mk k a b n x d l s::alls s
def alls:List Con→List Con
 | []=>[]
 | c::l=>all c++alls l
end
def zfx(c:Con):Bool:=XN c.kind c.src c.dst c.name c.x c.date c.days c.sub.length
mutual
theorem zea:∀ c:Con,c.all.length=c.nodes
 | mk k a b n x d l s=>by rw [all,nodes,List.length_cons,Wy s]; omega
theorem Wy:∀ s:List Con,(alls s).length=kq s
 | []=>by simp [alls,kq]
 | c::s=>by rw [alls,kq,List.length_append,zea c,Wy s]
end
mutual
theorem zct:∀ c:Con,c.form=c.all.all zfx
 | mk k a b n x d l s=>by rw [all,form,List.all_cons,QC s]; rfl
theorem QC:∀ s:List Con,uS s=(alls s).all zfx
 | []=>by simp [alls,uS]
 | c::s=>by rw [alls,uS,List.all_append,zct c,QC s]
end
def wt(c:Con):Nat:=1+Zw c.x
mutual
theorem zb8:∀ c:Con,c.size=(c.all.map wt).sum
 | mk k a b n x d l s=>by rw [all,size,List.map_cons,List.sum_cons,QE s]; rfl
theorem QE:∀ s:List Con,zo s=((alls s).map wt).sum
 | []=>by simp [alls,zo]
 | c::s=>by rw [alls,zo,List.map_append,List.sum_append,zb8 c,QE s]
end
mutual
theorem ze9:∀ c:Con,∀ e∈c.all,e.big≤c.big
 | mk k a b n x d l s,e,he=>by
  rw [all] at he
  rcases List.mem_cons.1 he with rfl | he
  ·exact Nat.le_refl _
  ·have:=Wx s e he
   rw [big]; omega
theorem Wx:∀ s:List Con,∀ e∈alls s,e.big≤bigs s
 | [],e,he=>by simp [alls] at he
 | c::s,e,he=>by
  rw [alls] at he
  rw [bigs]
  rcases List.mem_append.1 he with he | he
  ·have:=ze9 c e he; omega
  ·have:=Wx s e he; omega
end
theorem zc3(x:Ex):Zw x≤x.size:=by unfold Zw; cases kx x<;>simp
theorem YD(x:Ex):Wa x≤Zw x:=by
 unfold Zw Wa
 cases kx x
 ·exact Ex.xn x
 ·exact Nat.le_refl _
mutual
theorem zb6:∀ c:Con,c.size≤c.big
 | mk k a b n x d l s=>by
  have:=Jb s
  have:=zc3 x
  rw [size,big]; omega
theorem Jb:∀ s:List Con,zo s≤bigs s
 | []=>by simp [zo,bigs]
 | c::s=>by rw [zo,bigs]; have:=zb6 c; have:=Jb s; omega
end
mutual
theorem Xn:∀ c:Con,c.depth≤c.size
 | mk k a b n x d l s=>by
  have:=uw s
  have:=YD x
  rw [depth,size]; omega
theorem uw:∀ s:List Con,zV s≤zo s
 | []=>by simp [zV,zo]
 | c::s=>by rw [zV,zo]; have:=Xn c; have:=uw s; omega
end
end Con
def Ex.cellsD(x:Ex):List AV:=[.int .u8 x.kind,.str x.rat,.str x.name,.int .i64 x.date,.sl x.sub.length 5 x.deep]
end Go.Nov
end
section
namespace Go.Sx
variable [Stat]
open Go.RowKit (Below)
def uo(own:Nat→Prop)(w W:World):Prop:=w.heap.size≤W.heap.size∧∀ b cs el fr,¬ own b→w.heap[b]?=some (.cells cs el fr)→W.heap[b]?=some (.cells cs el fr)
theorem uo.cell{own:Nat→Prop}{w W:World}(h:uo own w W){b o:Nat}{v:Value}(hb:¬ own b)(hc:w.cell? ⟨b,o,none⟩=some v):W.cell? ⟨b,o,none⟩=some v:=by
 unfold World.cell? at hc ⊢
 cases ho:w.heap[b]? with
 | none=>simp [ho] at hc
 | some ob=>
  simp only [ho] at hc
  cases ob with
  | cells cs el fr=>simp only [h.2 b cs el fr hb ho]; exact hc
  | _=>simp at hc
theorem uo.trans{own:Nat→Prop}{A B C:World}(h:uo own A B)(k:uo own B C):uo own A C:=⟨Nat.le_trans h.1 k.1,fun b cs el fr hb hc=>k.2 b cs el fr hb (h.2 b cs el fr hb hc)⟩
theorem uo.ext{own own':Nat→Prop}{A B:World}(h:Ext own A own' B):uo own A B:=⟨h.size,fun b cs el fr hb hc=>by rw [h.keep b (Array.getElem?_eq_some_iff.1 hc).1 hb]; exact hc⟩
section
variable {O:Nat→Prop} {pin:Nat} {w0:World} {σ0:List SE} {w:World} {σ:List SE} {P:Program} {a:Act} {fn:Func} {Γ:Nat→Option Ctr}
end
end Go.Sx
end
section
namespace Go.Sx
variable [Stat]
section
variable {O:Nat→Prop} {pin:Nat} {w0:World} {σ0:List SE} {w:World} {σ:List SE} {P:Program} {st:St} {a:Act} {fn:Func} {Xp:List PanicEntry→Prop}
theorem QM{own:Nat→Prop}{i sz:Nat}(he:σ[i]?=some ⟨none,0⟩):∀ (cs:List AV) (j:Nat) (vs:List Value),cs[j]?=some .nils→RepL own w cs σ vs→RepL own w (cs.set j (.osl i sz 0 0)) σ vs
 | [],j,_,h,_=>by simp at h
 | b::l,0,vs,h,hr=>by
  simp only [List.getElem?_cons_zero,Option.some.injEq] at h
  subst h
  simp only [RepL] at hr
  obtain⟨v,r,rfl,h1,h2⟩:=hr
  simp only [Rep] at h1
  simp only [List.set_cons_zero,RepL]
  refine⟨v,r,rfl,?_,h2⟩
  rw [h1]
  simp only [Rep]
  exact⟨⟨none,0⟩,he,by simp,none,0,rfl,Nat.le_refl _,.inl rfl⟩
 | b::l,j+1,vs,h,hr=>by
  simp only [List.getElem?_cons_succ] at h
  simp only [RepL] at hr
  obtain⟨v,r,rfl,h1,h2⟩:=hr
  simp only [List.set_cons_succ,RepL]
  exact⟨v,r,rfl,h1,QM he l j r h h2⟩
def Ym(st:St)(i j sz:Nat)(g:Nat→Nat→AV)(cs:List AV):St:=⟨st.tmps,st.heap.set i (.box (cs.set j (.osl st.heap.length sz 0 0)))++[.arr 0 sz g]⟩
theorem YR(hm:Mod O pin w0 σ0 w σ st a){i j sz:Nat}{g:Nat→Nat→AV}{cs:List AV}(hb:st.heap[i]?=some (.box cs))(hj:cs[j]?=some .nils)(hno:st.tmps.all qm=true):Mod O pin w0 σ0 w (σ++[⟨none,0⟩]) (Ym st i j sz g cs) a:=by
 obtain⟨k1,k2,k3⟩:=Xx hm.good hm.hp sz g
 have hx:=ext_nil (O:=O) w σ 0
 have hlt:=(List.getElem?_eq_some_iff.1 hb).1
 have hp:HRep (Own O (σ++[⟨none,0⟩])) w (σ++[⟨none,0⟩]) ((st.heap++[Blk.arr 0 sz g]).set i (Blk.box (cs.set j (.osl st.heap.length sz 0 0)))):=by
  refine Wk k1 fun e he=> ?_
  have h1:=k1.blk i e (.box cs) he (by rw [List.getElem?_append_left hlt]; exact hb)
  simp only [BRep] at h1 ⊢
  obtain⟨ad,vs,el,q1,q2,q3,q4⟩:=h1
  exact⟨ad,vs,el,q1,q2,q3,QM (by rw [← hm.hp.len]; simp) cs j vs hj q4⟩
 rw [List.set_append_left _ _ hlt] at hp
 refine⟨k2,hp,by simp [Ym,hm.size],fun u=> ?_,hm.df.ext hx,hm.since.trans ⟨hx,fun _ _ _=>rfl,wN.of k3 (by simp)⟩,hm.lim⟩
 have hu:=hm.tm u
 show TRep _ _ _ _ (st.tmps.getD u .undef) _
 have hn:qm (st.tmps.getD u .undef)=true:=by
  by_cases hlt:u<st.tmps.length
  ·simp only [List.getD,List.getElem?_eq_getElem hlt,Option.getD_some]
   exact List.all_eq_true.1 hno _ (List.getElem_mem hlt)
  ·simp only [List.getD]
   rw [List.getElem?_eq_none (by omega)]; rfl
 generalize st.tmps.getD u .undef=x at hu hn
 cases x with
 | opt _ _ _=>simp [qm] at hn
 | _=>simp only [TRep] at hu ⊢; exact qc hx k3 _ _ (jm _) hu
theorem zb.zim{M:Option Nat}{Hs:Nat→KV→Heap→Prop}{R:List AV→Heap→Prop}{k:List Item}{kv:KV}{h:Heap}(i j sz:Nat)(g:Nat→Nat→AV){cs:List AV}(hb:h[i]?=some (.box cs))(hj:cs[j]?=some .nils)(hno:(pk fn.ntmps kv).all qm=true)
  (H:zA Xp M P fn O pin w0 σ0 Hs R k (mk fn.ntmps kv (h.set i (.box (cs.set j (.osl h.length sz 0 0)))++[.arr 0 sz g]))):zA Xp M P fn O pin w0 σ0 Hs R k (mk fn.ntmps kv h):=
 fun w σ a hm=>H w _ a (YR hm hb hj hno)
end
end Go.Sx
end
section
set_option maxRecDepth 100000
open Go Go.Sx Go.Proofs Go.Nov
namespace Go.Proofs.Tryz
attribute [local simp] eqKV eqA eqA0 eqH eqB eqL eqL0
def Link(own:Nat→Prop)(w:World)(l:List Con)(m:List CT):Prop:=l.length=m.length∧∀ (i:Nat) (c:Con) (t:CT),l[i]?=some c→m[i]?=some t→Rep own w c.conA [] t.val
theorem Link.app{own:Nat→Prop}{w:World}{l l':List Con}{m m':List CT}(h:Link own w l m)(h':Link own w l' m'):Link own w (l++l') (m++m'):=by
 refine⟨by simp [h.1,h'.1],fun i c t hc ht=> ?_⟩
 rw [List.getElem?_append] at hc ht
 rw [h.1] at hc
 split at hc
 ·rename_i hi; rw [if_pos hi] at ht; exact h.2 i c t hc ht
 ·rename_i hi; rw [if_neg hi] at ht; exact h'.2 _ c t hc ht
noncomputable def K92:List Go.Sx.Item:=[.code (Tryz.f92.body.getD .skip)]
theorem hmix:Tryz.prog.follows .mixedOrders=true:=by decide +kernel
def noG:Nat→Option Ctr:=fun _=>none
theorem z7:∀ g c,noG g=some c→zd Tryz.prog g c:=fun _ _ h=>by cases h
def zg8:AV→Nat
 | .int _ n=>n.toNat
 | _=>0
def decN(n:Nat)(g:Nat→Nat→AV):List Nat:=(List.range n).map fun j=>zg8 (g j 0)
theorem kY(k:IntKind)(l:List Nat):decN l.length (natG k l)=l:=by
 apply List.ext_getElem (by simp [decN])
 intro j h1 h2
 simp [decN,natG,zg8,h2]
theorem za(n sz:Nat)(g:Nat→Nat→AV):eqG n sz g g:=fun _ _ _ _=>rfl
theorem ya{k:IntKind}{l:List Nat}{v:Int}(hv:0≤v):eqG (l.length+1) 1 (appG l.length (natG k l) (zf (zg 1 [.int k v]) 0)) (natG k (l++[v.toNat])):=by
 intro j o hj ho
 have ho:o=0:=by omega
 subst ho
 simp only [appG,zf,zg,natG]
 by_cases h:j<l.length
 ·simp [h,List.getElem?_append]
 ·have:j=l.length:=by omega
  subst this
  simp [Int.toNat_of_nonneg hv]
theorem wH{k:IntKind}{o:List Nat}{v:Int}{d:Nat}{r:Heap}(hv:v=d):eqH (.arr (o.length+1) 1 (appG o.length (natG k o) (zf (zg 1 [.int k v]) 0))::r) [.arr (o++[d]).length 1 (natG k (o++[d]))]:=by
 subst hv
 refine⟨⟨by simp,rfl,?_⟩,by simp [eqH]⟩
 have:=ya (k:=k) (l:=o) (v:=(d:Int)) (by omega)
 simpa using this
theorem v8{k:IntKind}{l:List Nat}{v:Int}{i:Nat}(hv:0≤v)(hi:i<l.length):eqG l.length 1 (updG (natG k l) i 0 [.int k v]) (natG k (l.set i v.toNat)):=by
 intro j o hj ho
 have ho:o=0:=by omega
 subst ho
 simp only [updG,natG,List.length_cons,List.length_nil]
 by_cases h:j=i
 ·subst h
  simp [hj,Int.toNat_of_nonneg hv]
 ·simp only [h,false_and,if_false]
  simp [List.getElem?_set_ne (fun e=>h e.symm)]
def magS(x:Nat):AV:=natS .u32 (canon x)
def fits(x:Nat):Prop:=(canon x).length<1000000
theorem W3{m off n:Nat}{k:IntKind}{o:List Nat}{r:Heap} : new0 (.arr m 1 (natG k o)::r) [] (.osl 0 1 off n):=by
 intro _
 simp only [exp0,zw,frz1,jk,List.getElem?_cons_zero,if_true]
 intro j o' _ _
 rfl
theorem Wv{m off n:Nat}{g:Nat→Nat→AV}{r:Heap} : exp0 (.arr m 1 g::r) [] (.osl 0 1 off n) = .sl n 1 (zf g off):=by
 simp [exp0,zw,frz1,jk]
theorem QY{k:IntKind}{o l:List Nat}(h:qu o=l):eqA0 (.sl (tlen o) 1 (zf (natG k o) 0)) (natS k l):=by
 subst h
 simp only [eqA0,natS,qu,List.length_take,true_and]
 refine⟨by have:=zZ o; omega,?_⟩
 intro j o' hj ho'
 have:o'=0:=by omega
 subst this
 simp [zf,natG,List.getElem?_take,hj]
def ctr2{R:Type}(fresh:Bool)(pre:Nat→Nat→Prop)(post:Nat→Nat→R→Prop)(out:Nat→Nat→R→AV×Heap):Ctr:=
 ctrP fresh (fun p:Nat×Nat=>[magS p.1,magS p.2]) (fun p=>pre p.1 p.2) (fun p=>post p.1 p.2) (fun p=>out p.1 p.2)
theorem yx{R:Type}{fresh:Bool}{pre:Nat→Nat→Prop}{post:Nat→Nat→R→Prop}{out:Nat→Nat→R→AV×Heap}{g:Nat}{fn:Func}{c:Code}(hf:Tryz.prog.funcs[g]?=some fn)(hb:fn.body=some c) (hn:(fn.name == "runtime.NumGoroutine")=false)
  (H:∀ x y,pre x y→∀ (O:Nat→Prop) (w0:World) (Q:AV×Heap→Prop),(∀ r,post x y r→Q (out x y r))→zb Tryz.prog fn O 0 w0 [] (fun _ _ _=>False) (RetR (ctr2 fresh pre post out) 0 Q) [.code c] (entry fn [magS x,magS y])):zd Tryz.prog g (ctr2 fresh pre post out):=
 ze hf hb hn fun p hp=>H p.1 p.2 hp
def uh:Ctr where
 fresh:=false
 spec args hc:=match args,hc with
  | [.sl n 1 g],[]=>.ex (fun l:List Nat=>dig l∧l.length=n∧n<2^62∧eqG n 1 g (natG .u32 l)) fun l=>.all (fun x=>x=val l) fun x=>.leaf (magS x,[])
  | [.osl 0 1 off n],[.arr m 1 g]=>.ex (fun u:List Nat=>u.length=m∧off+n≤m∧n<2^62∧eqG m 1 g (natG .u32 u)∧dig ((u.drop off).take n)) fun u=>.all (fun x=>x=val ((u.drop off).take n)) fun x=>.leaf (.osl 0 1 off (canon x).length,[.arr m 1 g])
  | _,_=>.fail
def S75o(off n:Nat):KV:=[(0,.osl 0 1 off n)]
def S75(l:List Nat)(n:Nat):KV:=[(0,.sl n 1 (natG .u32 l))]
theorem JI:zd Tryz.prog 92 uh:=by
 intro args hc Q hq hfr
 unfold uh at hq
 dsimp only at hq
 split at hq
 ·rename_i n g
  obtain⟨l,⟨hdl,hln,hn,hg⟩,_,hq⟩:=hq
  obtain⟨x,hv⟩:∃ x,val l=x:=⟨_,rfl⟩
  replace hq:=hq x hv.symm
  have hcan:qu l=canon x:=by rw [zL hdl,hv]
  simp only [magS,← hcan] at hq
  refine qP.le (args':=[natS .u32 l]) (by simp [natS,hln,hg]) (fn_k (fn:=Tryz.f92) (c:=Tryz.f92.body.getD .skip) rfl rfl rfl hfr fun O w0 σ0 h0=> ?_)
  refine zb.run hmix z7 [0] 400 (T:=.leaf (.loop (Prod.fst (lps K92 0)) (Prod.snd (lps K92 0)) [(0,.sl l.length 1 (natG .u32 l))] [])) (by kernel_rfl) ?_
  refine zb.loop (ι:={n:Nat // tlen l≤n∧n≤l.length}) (fun x=>S75 l x.1) (fun _=>[]) (fun x=>x.1) ⟨l.length,zZ l,Nat.le_refl _⟩ 0 ?_ ?_ (by kernel_rfl)
  ·exact⟨by simp [S75,eqG],by simp,by kernel_rfl,Nat.zero_le _⟩
  ·rintro⟨n,h1,h2⟩
   refine zb.run hmix z7 [0] 400 (T:=.side (decide ((0:Int)<n)=true→inR .i64 ((↑n:Int) - (1:Int))) (.side (decide ((0:Int)<n)=true→(0:Int)≤n - (1:Int)∧(↑n:Int) - (1:Int)<n) (.ite (bif decide ((0:Int)<n) then decide ((↑(l.getD (Int.toNat ((↑n:Int) - (1:Int))) 0):Int)=0) else false) (.side (inR .i64 ((↑n:Int) - (1:Int))) (.side ((0:Int)≤n - (1:Int)∧(↑n:Int) - (1:Int)≤n) (.leaf (.back 0 [(0,.sl (Int.toNat ((↑n:Int) - (1:Int)) - 0) 1 (zf (natG .u32 l) 0))] [])))) (.leaf (.ret [.sl n 1 (natG .u32 l)] []))))) (by kernel_rfl) ?_
   simp only [Tree.holds,zc,inR,lo,hi,Bool.cond_eq_ite]
   refine⟨by simp; omega,fun _=>⟨by simp; omega,fun _=>⟨fun h=> ?_,fun h=> ?_⟩⟩⟩
   ·have hp:0<n:=by
     rcases Nat.eq_zero_or_pos n with rfl | hp
     ·simp at h
     ·exact hp
    have e:((n:Int) - 1).toNat=n - 1:=by omega
    have hz:l.getD (n - 1) 0=0:=by
     rw [if_pos (by simpa using hp),e] at h
     simpa only [decide_eq_true_eq,Int.natCast_eq_zero] using h
    refine⟨by omega,fun _=>⟨by omega,fun _=> ?_⟩⟩
    rw [if_pos trivial]
    refine⟨⟨n - 1,?_,by omega⟩,by show n - 1<n; omega,by simp [S75,eqG,zf,e],by simp,by kernel_rfl,Nat.zero_le _⟩
    rcases Nat.lt_or_ge (n - 1) (tlen l) with h3 | h3
    ·have h4:tlen l - 1=n - 1:=by omega
     exact absurd (h4▸hz) (qt l (by omega))
    ·exact h3
   ·have hn:n=tlen l:=by
     rcases Nat.lt_or_ge (tlen l) n with h3 | h3
     ·exfalso
      have e:((n:Int) - 1).toNat=n - 1:=by omega
      rw [if_pos (by simp; omega),e] at h
      have:=jw l (n - 1) (by omega)
      simp only [decide_eq_false_iff_not,Int.natCast_eq_zero] at h
      exact h this
     ·omega
    subst hn
    refine⟨[],rfl,by simp,by simp,by simp [uh],_,[],qf ?_,.inl (by simp),rfl,hq⟩
    have:=zZ l
    simp only [resV,exp2,exp1,exp0,ren0,eqA2,eqA,natS,eqA0,qu,List.length_take,Nat.min_eq_left this,true_and]
    intro j o hj ho
    simp only [natG,List.getD,List.getElem?_take,if_pos hj]
 ·rename_i off n m g
  obtain⟨l,⟨hlm,hm,hn,hg,hdl⟩,_,hq⟩:=hq
  obtain⟨x,hv⟩:∃ x,val ((l.drop off).take n)=x:=⟨_,rfl⟩
  replace hq:=hq x hv.symm
  subst hlm
  simp only [← hv,← VE hdl] at hq
  refine qP.leH (hc':=[.arr l.length 1 (natG .u32 l)]) (by simp [hg]) rfl (fn_k (fn:=Tryz.f92) (c:=Tryz.f92.body.getD .skip) rfl rfl rfl (by simp [uh]) fun O w0 σ0 h0=> ?_)
  refine zb.run hmix z7 [0] 400 (T:=.leaf (.loop (Prod.fst (lps K92 0)) (Prod.snd (lps K92 0)) [(0,.osl 0 1 off n)] [.arr l.length 1 (natG .u32 l)])) (by kernel_rfl) ?_
  have hget:∀ j,j<n→((l.drop off).take n).getD j 0=l.getD (off+j) 0:=by
   intro j hj
   simp [List.getElem?_take,hj,List.getElem?_drop]
  have htl:tlen ((l.drop off).take n)≤n:=by
   have:=zZ ((l.drop off).take n)
   simp at this; omega
  refine zb.loop (ι:={k:Nat // tlen ((l.drop off).take n)≤k∧k≤n}) (fun x=>S75o off x.1) (fun _=>[.arr l.length 1 (natG .u32 l)]) (fun x=>x.1) ⟨n,htl,Nat.le_refl _⟩ 0 ?_ ?_ (by kernel_rfl)
  ·exact⟨by simp [S75o],by simp [eqG],by kernel_rfl,Nat.le_refl _⟩
  ·rintro⟨k,h1,h2⟩
   refine zb.run hmix z7 [0] 400 (T:=.side (decide ((0:Int)<k)=true→inR .i64 ((↑k:Int) - (1:Int))) (.side (decide ((0:Int)<k)=true→(0:Int)≤k - (1:Int)∧(↑k:Int) - (1:Int)<k) (.ite (bif decide ((0:Int)<k) then decide ((↑(l.getD (off+Int.toNat ((↑k:Int) - (1:Int))) 0):Int)=0) else false) (.side (inR .i64 ((↑k:Int) - (1:Int))) (.side ((0:Int)≤k - (1:Int)∧(↑k:Int) - (1:Int)≤k) (.leaf (.back 0 [(0,.osl 0 1 (off+0) (Int.toNat ((↑k:Int) - (1:Int)) - 0))] [.arr l.length 1 (natG .u32 l)])))) (.leaf (.ret [.osl 0 1 off k] [.arr l.length 1 (natG .u32 l)]))))) (by kernel_rfl) ?_
   simp only [Tree.holds,zc,inR,lo,hi,Bool.cond_eq_ite]
   refine⟨by simp; omega,fun _=>⟨by simp; omega,fun _=>⟨fun h=> ?_,fun h=> ?_⟩⟩⟩
   ·have hp:0<k:=by
     rcases Nat.eq_zero_or_pos k with rfl | hp
     ·simp at h
     ·exact hp
    have e:((k:Int) - 1).toNat=k - 1:=by omega
    have hz:((l.drop off).take n).getD (k - 1) 0=0:=by
     rw [if_pos (by simpa using hp),e] at h
     rw [hget _ (by omega)]
     simpa only [decide_eq_true_eq,Int.natCast_eq_zero] using h
    refine⟨by omega,fun _=>⟨by omega,fun _=> ?_⟩⟩
    rw [if_pos trivial]
    refine⟨⟨k - 1,?_,by omega⟩,by show k - 1<k; omega,by simp [S75o,e],by simp [eqG],by kernel_rfl,Nat.le_refl _⟩
    rcases Nat.lt_or_ge (k - 1) (tlen ((l.drop off).take n)) with h3 | h3
    ·have h4:tlen ((l.drop off).take n) - 1=k - 1:=by omega
     exact absurd (h4▸hz) (qt _ (by omega))
    ·exact h3
   ·have hn:k=tlen ((l.drop off).take n):=by
     rcases Nat.lt_or_ge (tlen ((l.drop off).take n)) k with h3 | h3
     ·exfalso
      have e:((k:Int) - 1).toNat=k - 1:=by omega
      rw [if_pos (by simp; omega),e] at h
      have:=jw ((l.drop off).take n) (k - 1) (by omega)
      rw [hget _ (by omega)] at this
      simp only [decide_eq_false_iff_not,Int.natCast_eq_zero] at h
      exact h this
     ·omega
    subst hn
    exact⟨[0],rfl,by simp,by simp,by simp [uh],_,[.arr l.length 1 g],qf (by simp [resV,exp2,exp1,exp0,zw,eqA2]),.inl ⟨⟨rfl,rfl,fun j o hj ho=>(hg j o hj ho).symm⟩,trivial⟩,rfl,hq⟩
 ·exact hq.elim
noncomputable def K96:List Go.Sx.Item:=[.code (Tryz.f96.body.getD .skip)]
noncomputable def K97:List Go.Sx.Item:=[.code (Tryz.f97.body.getD .skip)]
def cmp3(x y:Nat):Int:=if x<y then -1 else if y<x then 1 else 0
def yo:Ctr:=ctr2 true (fun x y=>fits x∧fits y) (fun x y r=>r=cmp3 x y) (fun _ _ r=>(.int .i64 r,[]))
def S73(x y k:Nat):KV:=[(0,magS x),(1,magS y),(5,.int .i64 ((k:Int) - 1))]
theorem xB:zd Tryz.prog 96 yo:=by
 refine yx (fn:=Tryz.f96) (c:=Tryz.f96.body.getD .skip) rfl rfl rfl fun x y hp O w0 Q hq=> ?_
 replace hq:=hq _ rfl
 obtain⟨hx,hy⟩:=hp
 simp only [fits] at hx hy
 refine zb.run hmix z7 [0,1,5] 400 (T:=.ite (!decide ((↑(canon x).length:Int)=(↑(canon y).length:Int))) (.side (inR .i64 ((↑(canon x).length:Int) - (↑(canon y).length:Int))) (.leaf (.ret [.int .i64 (max (-1:Int) (min (1:Int) ((↑(canon x).length:Int) - (↑(canon y).length:Int))))] []))) (.side (inR .i64 ((↑(canon x).length:Int) - (1:Int))) (.leaf (.loop (Prod.fst (lps K96 0)) (Prod.snd (lps K96 0)) [(0,.sl (canon x).length 1 (natG .u32 (canon x))),(1,.sl (canon y).length 1 (natG .u32 (canon y))),(5,.int .i64 ((↑(canon x).length:Int) - (1:Int)))] [])))) (by kernel_rfl) ?_
 simp only [Tree.holds,zc,inR,lo,hi,Bool.cond_eq_ite]
 refine⟨fun h=>⟨by omega,fun _=>RetR.scal hq rfl ?_⟩,fun h=>⟨by omega,fun _=> ?_⟩⟩
 ·simp only [resV,cmp3]
  congr 1
  have hne:(canon x).length≠(canon y).length:=by
   simp only [Bool.not_eq_true',decide_eq_false_iff_not] at h
   omega
  rcases Nat.lt_or_gt_of_ne hne with h1 | h1
  ·have:=zP h1
   rw [if_pos this]; omega
  ·have:=zP h1
   rw [if_neg (by omega),if_pos this]; omega
 ·have hlen:(canon x).length=(canon y).length:=by
   simp only [Bool.not_eq_false',decide_eq_true_eq] at h
   omega
  refine zb.loop (ι:={k:Nat // k≤(canon x).length∧∀ j,k≤j→(canon x).getD j 0=(canon y).getD j 0}) (fun k=>S73 x y k.1) (fun _=>[]) (fun k=>k.1) ⟨(canon x).length,Nat.le_refl _,fun j hj=>by simp [hj,hlen▸hj]⟩ 0 ?_ ?_ (by kernel_rfl)
  ·exact⟨by simp [S73,magS,natS,za],by simp,by kernel_rfl,Nat.zero_le _⟩
  ·rintro⟨k,h1,h2⟩
   refine zb.run hmix z7 [0,1,5] 400 (T:=.ite (decide ((0:Int)≤k - (1:Int))) (.side ((0:Int)≤k - (1:Int)∧(↑k:Int) - (1:Int)<(↑(canon x).length:Int)) (.side ((0:Int)≤k - (1:Int)∧(↑k:Int) - (1:Int)<(↑(canon y).length:Int)) (.ite (!decide ((↑(List.getD (canon x) (Int.toNat ((↑k:Int) - (1:Int))) 0):Int)=(↑(List.getD (canon y) (Int.toNat ((↑k:Int) - (1:Int))) 0):Int))) (.side ((0:Int)≤k - (1:Int)∧(↑k:Int) - (1:Int)<(↑(canon x).length:Int)) (.side ((0:Int)≤k - (1:Int)∧(↑k:Int) - (1:Int)<(↑(canon y).length:Int)) (.ite (decide ((↑(List.getD (canon x) (Int.toNat ((↑k:Int) - (1:Int))) 0):Int)<(↑(List.getD (canon y) (Int.toNat ((↑k:Int) - (1:Int))) 0):Int))) (.leaf (.ret [.int .i64 (-1:Int)] [])) (.leaf (.ret [.int .i64 1] []))))) (.side (inR .i64 ((↑k:Int) - (1:Int) - (1:Int))) (.leaf (.back 0 [(0,.sl (canon x).length 1 (natG .u32 (canon x))),(1,.sl (canon y).length 1 (natG .u32 (canon y))),(5,.int .i64 ((↑k:Int) - (1:Int) - (1:Int)))] [])))))) (.leaf (.ret [.int .i64 0] []))) (by kernel_rfl) ?_
   simp only [Tree.holds,zc,inR,lo,hi,Bool.cond_eq_ite]
   have e:((k:Int) - 1).toNat=k - 1:=by omega
   rw [e]
   refine⟨fun hk=> ?_,fun hk=>RetR.scal hq rfl ?_⟩
   ·have hk:0<k:=by simp at hk; omega
    refine⟨by omega,fun _=>⟨by omega,fun _=>⟨fun hne=>⟨by omega,fun _=>⟨by omega,fun _=>⟨fun hlt=>RetR.scal hq rfl ?_,fun hlt=>RetR.scal hq rfl ?_⟩⟩⟩,fun heq=>⟨by omega,fun _=> ?_⟩⟩⟩⟩
    ·have:=yV (zh x) hlen (i:=k - 1) (fun j hj=>h2 j (by omega)) (by simpa using hlt)
     rw [zk,zk] at this
     simp [resV,cmp3,this]
    ·have hgt:(canon y).getD (k - 1) 0<(canon x).getD (k - 1) 0:=by
      simp only [Bool.not_eq_true',decide_eq_false_iff_not] at hne hlt
      omega
     have:=yV (zh y) hlen.symm (i:=k - 1) (fun j hj=>(h2 j (by omega)).symm) hgt
     rw [zk,zk] at this
     simp only [resV,cmp3]
     rw [if_neg (by omega),if_pos this]
    ·rw [if_pos trivial]
     refine⟨⟨k - 1,by omega,fun j hj=> ?_⟩,by show k - 1<k; omega,by simp [S73,magS,natS,za]; omega,by simp,by kernel_rfl,Nat.zero_le _⟩
     rcases Nat.lt_or_ge j k with hj2 | hj2
     ·have:j=k - 1:=by omega
      subst this
      simp only [Bool.not_eq_false',decide_eq_true_eq] at heq
      omega
     ·exact h2 j hj2
   ·have hk:k=0:=by simp at hk; omega
    subst hk
    have:canon x=canon y:=by
     apply List.ext_getElem hlen
     intro j hj hj'
     have:=h2 j (Nat.zero_le _)
     simpa [hj,hj'] using this
    have:x=y:=by rw [← zk x,this,zk]
    subst this
    simp [resV,cmp3]
noncomputable def G1:Nat→Option Ctr:=fun f=>if f=92 then some (uh) else none
theorem xR:∀ g c,G1 g=some c→zd Tryz.prog g c:=okIf JI (zq)
def JZ:Ctr:=ctr2 true (fun x y=>fits x∧y≤x) (fun x y d=>d=x - y) (fun _ _ d=>(magS d,[]))
def S78(x y:Nat)(o:List Nat)(c i:Nat):KV:=[(0,magS x),(1,magS y),(5,.osl 0 1 0 o.length),(6,.int .u32 (c:Int)),(13,magS x),(14,.int .i64 ((canon x).length:Int)),(15,.int .i64 (i:Int))]
structure I78(x y:Nat) where
 o:List Nat
 c:Nat
 i:Nat
 len:o.length=i
 le:i≤(canon x).length
 dg:dig o
 c1:c≤1
 eq:val ((canon x).take i)+B^i*c=val o+val ((canon y).take i)
theorem JU{x y:Nat}(h:x≤y):(canon x).length≤(canon y).length:=by
 rcases Nat.lt_or_ge (canon y).length (canon x).length with h1 | h1
 ·have:=zP h1; omega
 ·exact h1
theorem zhe{x y o c i d c':Nat}{l m:List Nat}(h:val (l.take i)+B^i*c=o+val (m.take i))(he:l.getD i 0+B*c'=d+m.getD i 0+c):val (l.take (i+1))+B^(i+1)*c'=o+B^i*d+val (m.take (i+1)):=by
 rw [zn,zn,Nat.pow_succ]
 have:=congrArg (B^i * ·) he
 simp only [Nat.mul_add] at this
 rw [Nat.mul_assoc]
 omega
theorem Qi(l:List Nat)(d:Nat):val (l++[d])=val l+B^l.length*d:=by rw [zD]; simp [val]
theorem Zm:zd Tryz.prog 97 JZ:=by
 refine yx (fn:=Tryz.f97) (c:=Tryz.f97.body.getD .skip) rfl rfl rfl fun x y hp O w0 Q hq=> ?_
 replace hq:=hq _ rfl
 obtain⟨hx,hyx⟩:=hp
 simp only [fits] at hx hyx
 have hlen:=JU hyx
 refine zb.run hmix xR [0,1,5,6,13,14,15] 400 (T:=.side ((0:Int)≤0∧(0:Int)≤(↑(canon x).length:Int)∧inR .i64 (↑(canon x).length:Int)∧Int.toNat (↑(canon x).length:Int)*4≤140737488355328) (.leaf (.loop (Prod.fst (lps K97 0)) (Prod.snd (lps K97 0)) [(0,.sl (canon x).length 1 (natG .u32 (canon x))),(1,.sl (canon y).length 1 (natG .u32 (canon y))),(5,.osl 0 1 0 0),(6,.int .u32 0),(13,.sl (canon x).length 1 (natG .u32 (canon x))),(14,.int .i64 (↑(canon x).length:Int)),(15,.int .i64 0)] [.arr 0 1 (kT [.int .u32 0])]))) (by kernel_rfl) ?_
 simp only [Tree.holds,zc,inR,lo,hi]
 refine⟨by omega,fun _=> ?_⟩
 refine zb.loop (ι:=I78 x y) (fun s=>S78 x y s.o s.c s.i) (fun s=>[.arr s.o.length 1 (natG .u32 s.o)]) (fun s=>(canon x).length - s.i) ⟨[],0,0,rfl,Nat.zero_le _,by simp [dig],by omega,by simp [val]⟩ 0 ?_ ?_ (by kernel_rfl)
 ·exact⟨by simp [S78,magS,natS,za],by simp [eqG],by kernel_rfl,Nat.zero_le _⟩
 ·rintro⟨o,c,i,ho,hle,hd,hc,he⟩
  subst ho
  have hB:B=1000000000:=rfl
  refine zb.run hmix xR [0,1,5,6,13,14,15] 400 (T:=.ite (decide ((↑o.length:Int)<(↑(canon x).length:Int))) (.side ((0:Int)≤o.length∧(↑o.length:Int)<(↑(canon x).length:Int)) (.ite (decide ((↑o.length:Int)<(↑(canon y).length:Int))) (.side ((0:Int)≤o.length∧(↑o.length:Int)<(↑(canon y).length:Int)) (.side (inR .u32 ((↑c:Int)+(↑(List.getD (canon y) (Int.toNat (↑o.length:Int)) 0):Int))) (.ite (decide ((↑(List.getD (canon x) (Int.toNat (↑o.length:Int)) 0):Int)<c+(↑(List.getD (canon y) (Int.toNat (↑o.length:Int)) 0):Int))) (.side (inR .u32 ((↑(List.getD (canon x) (Int.toNat (↑o.length:Int)) 0):Int)+(1000000000:Int))) (.side (inR .u32 ((↑(List.getD (canon x) (Int.toNat (↑o.length:Int)) 0):Int)+(1000000000:Int) - ((↑c:Int)+(↑(List.getD (canon y) (Int.toNat (↑o.length:Int)) 0):Int)))) (.side (0=0∧o.length≤o.length∧(o.length+1)*4≤140737488355328) (.side (inR .i64 ((↑o.length:Int)+(1:Int))) (.leaf (.back 0 [(0,.sl (canon x).length 1 (natG .u32 (canon x))),(1,.sl (canon y).length 1 (natG .u32 (canon y))),(5,.osl 0 1 0 (o.length+1)),(6,.int .u32 1),(13,.sl (canon x).length 1 (natG .u32 (canon x))),(14,.int .i64 (↑(canon x).length:Int)),(15,.int .i64 ((↑o.length:Int)+(1:Int)))] [.arr (o.length+1) 1 (appG o.length (natG .u32 o) (zf (zg 1 [.int .u32 ((↑(List.getD (canon x) (Int.toNat (↑o.length:Int)) 0):Int)+(1000000000:Int) - ((↑c:Int)+(↑(List.getD (canon y) (Int.toNat (↑o.length:Int)) 0):Int)))]) 0)),.arr 1 1 (zg 1 [.int .u32 ((↑(List.getD (canon x) (Int.toNat (↑o.length:Int)) 0):Int)+(1000000000:Int) - ((↑c:Int)+(↑(List.getD (canon y) (Int.toNat (↑o.length:Int)) 0):Int)))])])))))) (.side (inR .u32 ((↑(List.getD (canon x) (Int.toNat (↑o.length:Int)) 0):Int) - ((↑c:Int)+(↑(List.getD (canon y) (Int.toNat (↑o.length:Int)) 0):Int)))) (.side (0=0∧o.length≤o.length∧(o.length+1)*4≤140737488355328) (.side (inR .i64 ((↑o.length:Int)+(1:Int))) (.leaf (.back 0 [(0,.sl (canon x).length 1 (natG .u32 (canon x))),(1,.sl (canon y).length 1 (natG .u32 (canon y))),(5,.osl 0 1 0 (o.length+1)),(6,.int .u32 0),(13,.sl (canon x).length 1 (natG .u32 (canon x))),(14,.int .i64 (↑(canon x).length:Int)),(15,.int .i64 ((↑o.length:Int)+(1:Int)))] [.arr (o.length+1) 1 (appG o.length (natG .u32 o) (zf (zg 1 [.int .u32 ((↑(List.getD (canon x) (Int.toNat (↑o.length:Int)) 0):Int) - ((↑c:Int)+(↑(List.getD (canon y) (Int.toNat (↑o.length:Int)) 0):Int)))]) 0)),.arr 1 1 (zg 1 [.int .u32 ((↑(List.getD (canon x) (Int.toNat (↑o.length:Int)) 0):Int) - ((↑c:Int)+(↑(List.getD (canon y) (Int.toNat (↑o.length:Int)) 0):Int)))])])))))))) (.ite (decide ((↑(List.getD (canon x) (Int.toNat (↑o.length:Int)) 0):Int)<c)) (.side (inR .u32 ((↑(List.getD (canon x) (Int.toNat (↑o.length:Int)) 0):Int)+(1000000000:Int))) (.side (inR .u32 ((↑(List.getD (canon x) (Int.toNat (↑o.length:Int)) 0):Int)+(1000000000:Int) - c)) (.side (0=0∧o.length≤o.length∧(o.length+1)*4≤140737488355328) (.side (inR .i64 ((↑o.length:Int)+(1:Int))) (.leaf (.back 0 [(0,.sl (canon x).length 1 (natG .u32 (canon x))),(1,.sl (canon y).length 1 (natG .u32 (canon y))),(5,.osl 0 1 0 (o.length+1)),(6,.int .u32 1),(13,.sl (canon x).length 1 (natG .u32 (canon x))),(14,.int .i64 (↑(canon x).length:Int)),(15,.int .i64 ((↑o.length:Int)+(1:Int)))] [.arr (o.length+1) 1 (appG o.length (natG .u32 o) (zf (zg 1 [.int .u32 ((↑(List.getD (canon x) (Int.toNat (↑o.length:Int)) 0):Int)+(1000000000:Int) - c)]) 0)),.arr 1 1 (zg 1 [.int .u32 ((↑(List.getD (canon x) (Int.toNat (↑o.length:Int)) 0):Int)+(1000000000:Int) - c)])])))))) (.side (inR .u32 ((↑(List.getD (canon x) (Int.toNat (↑o.length:Int)) 0):Int) - c)) (.side (0=0∧o.length≤o.length∧(o.length+1)*4≤140737488355328) (.side (inR .i64 ((↑o.length:Int)+(1:Int))) (.leaf (.back 0 [(0,.sl (canon x).length 1 (natG .u32 (canon x))),(1,.sl (canon y).length 1 (natG .u32 (canon y))),(5,.osl 0 1 0 (o.length+1)),(6,.int .u32 0),(13,.sl (canon x).length 1 (natG .u32 (canon x))),(14,.int .i64 (↑(canon x).length:Int)),(15,.int .i64 ((↑o.length:Int)+(1:Int)))] [.arr (o.length+1) 1 (appG o.length (natG .u32 o) (zf (zg 1 [.int .u32 ((↑(List.getD (canon x) (Int.toNat (↑o.length:Int)) 0):Int) - c)]) 0)),.arr 1 1 (zg 1 [.int .u32 ((↑(List.getD (canon x) (Int.toNat (↑o.length:Int)) 0):Int) - c)])])))))))) (.ex (fun(u:List Nat)=>u.length=o.length∧0+o.length≤o.length∧o.length<4611686018427387904∧eqG o.length 1 (natG .u32 o) (natG .u32 u)∧dig (List.take o.length (List.drop 0 u))) fun n=>.all (fun(x:Nat)=>x=val (List.take o.length (List.drop 0 n))) fun n=>.leaf (.ret [.osl 0 1 0 (canon n).length] [.arr o.length 1 (natG .u32 o)]))) (by kernel_rfl) ?_
  simp only [Tree.holds,zc,inR,lo,hi,Int.toNat_natCast,kY]
  have ha:=zH (zh x) o.length
  have hb:=zH (zh y) o.length
  have hnext:∀ d c':Nat,d<B→c'≤1→o.length<(canon x).length→(canon x).getD o.length 0+B*c'=d+(canon y).getD o.length 0+c →
    ∃ s:I78 x y,s.o=o++[d]∧s.c=c'∧s.i=o.length+1:=fun d c' h1 h2 h3 h4=>
   ⟨⟨o++[d],c',o.length+1,by simp,h3,qL.2 ⟨hd,by simp [dig,h1]⟩,h2,by rw [Qi]; exact zhe (x:=x) (y:=y) he h4⟩,rfl,rfl,rfl⟩
  refine⟨fun hlt=> ?_,fun hge=> ?_⟩
  ·have hlt:o.length<(canon x).length:=by simp at hlt; omega
   refine⟨by omega,fun _=>⟨fun hb2=>⟨by simp at hb2; omega,fun _=>⟨by omega,fun _=>⟨fun hlt2=> ?_,fun hge2=> ?_⟩⟩⟩,fun hb2=>⟨fun hlt2=> ?_,fun hge2=> ?_⟩⟩⟩
   ·simp only [decide_eq_true_eq] at hlt2
    refine⟨by omega,fun _=>⟨by omega,fun _=>⟨⟨trivial,by omega,by omega⟩,fun _=>⟨by omega,fun _=> ?_⟩⟩⟩⟩
    obtain⟨s,h1,h2,h3⟩:=hnext ((canon x).getD o.length 0+B - (c+(canon y).getD o.length 0)) 1 (by omega) (by omega) hlt (by omega)
    rw [if_pos trivial]
    refine⟨s,by show _ - s.i<_; omega,by simp [S78,h1,h2,h3,magS,natS,za],by rw [h1]; exact wH (by omega),by kernel_rfl,Nat.zero_le _⟩
   ·simp only [decide_eq_false_iff_not] at hge2
    refine⟨by omega,fun _=>⟨⟨trivial,by omega,by omega⟩,fun _=>⟨by omega,fun _=> ?_⟩⟩⟩
    obtain⟨s,h1,h2,h3⟩:=hnext ((canon x).getD o.length 0 - (c+(canon y).getD o.length 0)) 0 (by omega) (by omega) hlt (by omega)
    rw [if_pos trivial]
    refine⟨s,by show _ - s.i<_; omega,by simp [S78,h1,h2,h3,magS,natS,za],by rw [h1]; exact wH (by omega),by kernel_rfl,Nat.zero_le _⟩
   ·simp only [decide_eq_true_eq,decide_eq_false_iff_not] at hlt2 hb2
    have hb0:(canon y).getD o.length 0=0:=by simp [List.getD,List.getElem?_eq_none (show(canon y).length≤o.length by omega)]
    refine⟨by omega,fun _=>⟨by omega,fun _=>⟨⟨trivial,by omega,by omega⟩,fun _=>⟨by omega,fun _=> ?_⟩⟩⟩⟩
    obtain⟨s,h1,h2,h3⟩:=hnext ((canon x).getD o.length 0+B - c) 1 (by omega) (by omega) hlt (by omega)
    rw [if_pos trivial]
    refine⟨s,by show _ - s.i<_; omega,by simp [S78,h1,h2,h3,magS,natS,za],by rw [h1]; exact wH (by omega),by kernel_rfl,Nat.zero_le _⟩
   ·simp only [decide_eq_false_iff_not] at hge2 hb2
    have hb0:(canon y).getD o.length 0=0:=by simp [List.getD,List.getElem?_eq_none (show(canon y).length≤o.length by omega)]
    refine⟨by omega,fun _=>⟨⟨trivial,by omega,by omega⟩,fun _=>⟨by omega,fun _=> ?_⟩⟩⟩
    obtain⟨s,h1,h2,h3⟩:=hnext ((canon x).getD o.length 0 - c) 0 (by omega) (by omega) hlt (by omega)
    rw [if_pos trivial]
    refine⟨s,by show _ - s.i<_; omega,by simp [S78,h1,h2,h3,magS,natS,za],by rw [h1]; exact wH (by omega),by kernel_rfl,Nat.zero_le _⟩
  ·have hge:o.length=(canon x).length:=by simp at hge; omega
   have hv:val o=x - y:=by
    have h1:=qe hd
    rw [hge,List.take_length,List.take_of_length_le hlen,zk,zk] at he
    have:c=0:=by
     rcases Nat.lt_or_ge c 1 with h | h
     ·omega
     ·have:c=1:=by omega
      subst this
      rw [hge] at h1
      omega
    subst this
    omega
   refine⟨o,⟨rfl,by omega,by omega,za _ _ _,by simpa using hd⟩,⟨_,rfl⟩,?_⟩
   intro X hX
   have hX:X=x - y:=by simpa [hv] using hX
   subst hX
   have htr:qu o=canon (x - y):=by rw [zL hd,hv]
   have htl:(canon (x - y)).length=tlen o:=by rw [← htr,qu,List.length_take]; have:=zZ o; omega
   rw [htl]
   refine⟨[],rfl,by simp,by simp,fun _=>⟨W3,by simp⟩,magS (x - y),[],qf ?_,.inl (by simp [expH]),rfl,hq⟩
   simp only [resV,exp2,exp1,Wv]
   exact QY htr
noncomputable def K101:List Go.Sx.Item:=[.code (Tryz.f101.body.getD .skip)]
noncomputable def K102:List Go.Sx.Item:=[.code (Tryz.f102.body.getD .skip)]
theorem Yf(m n:Nat):Int.tdiv (m:Int) (n:Int)=((m/n:Nat):Int):=rfl
theorem X7(m n:Nat):Int.tmod (m:Int) (n:Int)=((m%n:Nat):Int):=rfl
theorem yL(k:IntKind)(n:Nat):eqG n 1 (kT [.int k 0]) (natG k (List.replicate n 0)):=by
 intro j o hj ho
 have:o=0:=by omega
 subst this
 simp [kT,natG,hj]
theorem VF{l:List Nat}{k:Nat}(hk:k<l.length):l.drop k=l.getD k 0::l.drop (k+1):=by
 rw [List.drop_eq_getElem_cons hk]
 simp [List.getD,hk]
def U7:Ctr:=ctrP true (fun p:Nat×Nat=>[magS p.1,.int .u32 (p.2:Int)]) (fun p=>fits p.1∧0<p.2∧p.2<B) (fun p (r:Nat×Nat)=>r=(p.1/p.2,p.1%p.2)) (fun _ r=>(.tup [magS r.1,.int .u32 (r.2:Int)],[]))
def S74(x d:Nat)(o:List Nat)(r k:Nat):KV:=[(0,magS x),(1,.int .u32 (d:Int)),(4,.osl 0 1 0 o.length),(6,.int .u64 (r:Int)),(7,.int .i64 ((k:Int) - 1))]
structure I74(x d:Nat) where
 o:List Nat
 r:Nat
 k:Nat
 len:o.length=(canon x).length
 le:k≤(canon x).length
 rd:r<d
 dg:dig (o.drop k)
 eq:val ((canon x).drop k)=d*val (o.drop k)+r
theorem UI:zd Tryz.prog 101 U7:=by
 refine ze (fn:=Tryz.f101) (c:=Tryz.f101.body.getD .skip) rfl rfl rfl fun p hp O w0 Q hq=> ?_
 replace hq:=hq _ rfl
 obtain⟨x,d⟩:=p
 obtain⟨hx,hd0,hdB⟩:=hp
 simp only [fits] at hx hd0 hdB hq
 have hB:B=1000000000:=rfl
 refine zb.run hmix xR [0,1,4,6,7] 400 (T:=.side ((0:Int)≤(↑(canon x).length:Int)∧(↑(canon x).length:Int)≤(↑(canon x).length:Int)∧inR .i64 (↑(canon x).length:Int)∧Int.toNat (↑(canon x).length:Int)*4≤140737488355328) (.side (inR .i64 ((↑(canon x).length:Int) - (1:Int))) (.leaf (.loop (Prod.fst (lps K101 0)) (Prod.snd (lps K101 0)) [(0,.sl (canon x).length 1 (natG .u32 (canon x))),(1,.int .u32 d),(4,.osl 0 1 0 (Int.toNat (↑(canon x).length:Int))),(6,.int .u64 0),(7,.int .i64 ((↑(canon x).length:Int) - (1:Int)))] [.arr (Int.toNat (↑(canon x).length:Int)) 1 (kT [.int .u32 0])])))) (by kernel_rfl) ?_
 simp only [Tree.holds,zc,inR,lo,hi]
 refine⟨by omega,fun _=>⟨by omega,fun _=> ?_⟩⟩
 refine zb.loop (ι:=I74 x d) (fun s=>S74 x d s.o s.r s.k) (fun s=>[.arr s.o.length 1 (natG .u32 s.o)]) (fun s=>s.k) ⟨List.replicate (canon x).length 0,0,(canon x).length,by simp,Nat.le_refl _,hd0,by simp [dig],by simp [val]⟩ 0 ?_ ?_ (by kernel_rfl)
 ·exact⟨by simp [S74,magS,natS,za],by simp [yL],by kernel_rfl,Nat.zero_le _⟩
 ·rintro⟨o,r,k,hlen,hle,hr,hdg,he⟩
  refine zb.run hmix xR [0,1,4,6,7] 400 (T:=.ite (decide ((0:Int)≤k - (1:Int))) (.side (inR .u64 ((↑r:Int)*(1000000000:Int))) (.side ((0:Int)≤k - (1:Int)∧(↑k:Int) - (1:Int)<(↑(canon x).length:Int)) (.side (inR .u64 (↑(List.getD (canon x) (Int.toNat ((↑k:Int) - (1:Int))) 0):Int)) (.side (inR .u64 ((↑r:Int)*(1000000000:Int)+(↑(List.getD (canon x) (Int.toNat ((↑k:Int) - (1:Int))) 0):Int))) (.side (inR .u64 (↑d:Int)) (.side ((↑d:Int)≠0∧inR .u64 (Int.tdiv ((↑r:Int)*(1000000000:Int)+(↑(List.getD (canon x) (Int.toNat ((↑k:Int) - (1:Int))) 0):Int)) (↑d:Int))) (.side (inR .u32 (Int.tdiv ((↑r:Int)*(1000000000:Int)+(↑(List.getD (canon x) (Int.toNat ((↑k:Int) - (1:Int))) 0):Int)) (↑d:Int))) (.side (inR .u64 (↑d:Int)) (.side ((↑d:Int)≠0) (.side ((0:Int)≤k - (1:Int)∧(↑k:Int) - (1:Int)<o.length) (.side (inR .i64 ((↑k:Int) - (1:Int) - (1:Int))) (.leaf (.back 0 [(0,.sl (canon x).length 1 (natG .u32 (canon x))),(1,.int .u32 d),(4,.osl 0 1 0 o.length),(6,.int .u64 (Int.tmod ((↑r:Int)*(1000000000:Int)+(↑(List.getD (canon x) (Int.toNat ((↑k:Int) - (1:Int))) 0):Int)) (↑d:Int))),(7,.int .i64 ((↑k:Int) - (1:Int) - (1:Int)))] [.arr o.length 1 (updG (natG .u32 o) (0+Int.toNat ((↑k:Int) - (1:Int))) 0 [.int .u32 (Int.tdiv ((↑r:Int)*(1000000000:Int)+(↑(List.getD (canon x) (Int.toNat ((↑k:Int) - (1:Int))) 0):Int)) (↑d:Int))])]))))))))))))) (.ex (fun(u:List Nat)=>u.length=o.length∧0+o.length≤o.length∧o.length<4611686018427387904∧eqG o.length 1 (natG .u32 o) (natG .u32 u)∧dig (List.take o.length (List.drop 0 u))) fun n=>.all (fun(x:Nat)=>x=val (List.take o.length (List.drop 0 n))) fun n=>.side (inR .u32 (↑r:Int)) (.leaf (.ret [.osl 0 1 0 (canon n).length,.int .u32 r] [.arr o.length 1 (natG .u32 o)])))) (by kernel_rfl) ?_
  have e:((k:Int) - 1).toNat=k - 1:=by omega
  have ha:=zH (zh x) (k - 1)
  have ev:((r:Int)*1000000000+((canon x).getD (k - 1) 0:Nat))=((r*B+(canon x).getD (k - 1) 0:Nat):Int):=by simp
  simp only [Tree.holds,zc,inR,lo,hi,e,ev,Yf,X7,kY]
  generalize hv:r*B+(canon x).getD (k - 1) 0=v
  have hvd:v<d*B:=by
   have:(r+1)*B≤d*B:=Nat.mul_le_mul_right _ hr
   rw [Nat.add_mul] at this
   omega
  have hq1:v/d<B:=Nat.div_lt_of_lt_mul hvd
  have hr1:v%d<d:=Nat.mod_lt _ hd0
  have hdm:=Nat.div_add_mod v d
  generalize v/d=q at hq1 hdm ⊢
  generalize v%d=rr at hr1 hdm ⊢
  have hdB2:d*B<B*B:=Nat.mul_lt_mul_of_pos_right hdB (by decide)
  rw [hB] at hdB2
  refine⟨fun hk=> ?_,fun hk=> ?_⟩
  ·have hk:0<k:=by simp at hk; omega
   refine⟨by omega,fun _=>⟨by omega,fun _=>⟨by omega,fun _=>⟨by omega,fun _=>⟨by omega,fun _=>⟨⟨by omega,by omega,by omega⟩,fun _=>⟨by omega,fun _=>⟨by omega,fun _=>⟨by omega,fun _=>⟨by omega,fun _=>⟨by omega,fun _=> ?_⟩⟩⟩⟩⟩⟩⟩⟩⟩⟩⟩
   rw [if_pos trivial]
   have hkl:k - 1<o.length:=by omega
   have hdr:(o.set (k - 1) (q)).drop (k - 1)=(q)::o.drop k:=by
    rw [VF (by simpa using hkl)]
    rw [show k - 1+1=k by omega,List.drop_set_of_lt (by omega)]
    simp [hkl]
   refine⟨⟨o.set (k - 1) (q),rr,k - 1,by simpa using hlen,by omega,hr1,by rw [hdr]; exact qx.2 ⟨hq1,hdg⟩,?_⟩,by show k - 1<k; omega,by simp [S74,magS,natS,za]; omega,?_,by kernel_rfl,Nat.zero_le _⟩
   ·rw [hdr,VF (by omega),show k - 1+1=k by omega]
    simp only [val,he]
    rw [Nat.mul_add,Nat.mul_add,← Nat.mul_assoc,← Nat.mul_assoc,Nat.mul_comm d B]
    have h5:B*r=r*B:=Nat.mul_comm _ _
    omega
   ·refine⟨⟨by simp,rfl,?_⟩,trivial⟩
    have:=v8 (k:=.u32) (l:=o) (v:=((q:Nat):Int)) (i:=k - 1) (by omega) hkl
    simpa using this
  ·have hk:k=0:=by simp at hk; omega
   subst hk
   simp only [List.drop_zero] at he hdg
   rw [zk] at he
   have hqv:val o=x/d:=by
    rw [he,Nat.mul_add_div hd0,Nat.div_eq_of_lt hr,Nat.add_zero]
   have hrv:r=x%d:=by rw [he,Nat.mul_add_mod,Nat.mod_eq_of_lt hr]
   have htr:qu o=canon (x/d):=by rw [zL hdg,hqv]
   refine⟨o,⟨rfl,by omega,by omega,za _ _ _,by simpa using hdg⟩,⟨_,rfl⟩,?_⟩
   intro X hX
   have hX:X=x/d:=by simpa [hqv] using hX
   subst hX
   have htl:(canon (x/d)).length=tlen o:=by rw [← htr,qu,List.length_take]; have:=zZ o; omega
   rw [htl]
   refine⟨by omega,fun _=> ?_⟩
   refine⟨[],rfl,by simp,by simp,fun _=>⟨?_,by simp⟩,_,[],qf ?_,.inl (by simp [expH]),rfl,hq⟩
   ·simp only [resV,new2]
    intro a ha
    rcases List.mem_cons.1 ha with rfl | ha
    ·exact W3
    ·simp only [List.mem_singleton] at ha; subst ha; rfl
   ·simp only [resV,exp2,List.map_cons,List.map_nil,exp1,Wv,eqA2,eqL1]
    exact⟨QY htr,by simp [eqA,exp0,ren0,hrv],trivial⟩
structure D5 where
 t:Nat
 u:Nat
 v:Nat
 y:Nat
 z:Nat
def zcn:Ctr:=ctrP true (fun p:D5=>[.int .u64 (p.t:Int),.int .u64 (p.u:Int),.int .u64 (p.v:Int),.int .u64 (p.y:Int),.int .u64 (p.z:Int)])
 (fun p=>p.t≤p.y∧p.u<B∧p.v<B∧p.y<B∧p.z<B∧B≤2*p.y) (fun p n=>n=qH p.v p.y p.z 2 ((p.t*B+p.u)/p.y) ((p.t*B+p.u)%p.y)) (fun _ n=>(.int .u64 (n:Int),[]))
def S77(v y z q r:Nat):KV:=[(2,.int .u64 (v:Int)),(3,.int .u64 (y:Int)),(4,.int .u64 (z:Int)),(12,.int .u64 (q:Int)),(13,.int .u64 (r:Int))]
structure I77(v y z R:Nat) where
 q:Nat
 r:Nat
 n:Nat
 rB:r<B
 qB:q≤B+1
 nB:B≤r+n*y
 eq:qH v y z n q r=R
theorem zam:zd Tryz.prog 102 zcn:=by
 refine ze (fn:=Tryz.f102) (c:=Tryz.f102.body.getD .skip) rfl rfl rfl fun p hp O w0 Q hq=> ?_
 replace hq:=hq _ rfl
 obtain⟨t,u,v,y,z⟩:=p
 simp only at hq
 obtain⟨h1,h2,h3,h4,h5,h6⟩:=hp
 simp only at h1 h2 h3 h4 h5 h6
 have hB:B=1000000000:=rfl
 refine zb.run hmix z7 [2,3,4,12,13] 400 (T:=.side (inR .u64 ((↑t:Int)*(1000000000:Int))) (.side (inR .u64 ((↑t:Int)*(1000000000:Int)+u)) (.side ((↑y:Int)≠0∧inR .u64 (Int.tdiv ((↑t:Int)*(1000000000:Int)+u) (↑y:Int))) (.side ((↑y:Int)≠0) (.leaf (.loop (Prod.fst (lps K102 0)) (Prod.snd (lps K102 0)) [(2,.int .u64 v),(3,.int .u64 y),(4,.int .u64 z),(12,.int .u64 (Int.tdiv ((↑t:Int)*(1000000000:Int)+u) (↑y:Int))),(13,.int .u64 (Int.tmod ((↑t:Int)*(1000000000:Int)+u) (↑y:Int)))] [])))))) (by kernel_rfl) ?_
 have ev:((t:Int)*1000000000+(u:Int))=((t*B+u:Nat):Int):=by simp
 simp only [Tree.holds,zc,inR,lo,hi,ev,Yf,X7]
 have hy:0<y:=by omega
 have hr:(t*B+u)%y<y:=Nat.mod_lt _ hy
 have hq1:(t*B+u)/y≤B+1:=by
  have h7:t*B≤y*B:=Nat.mul_le_mul_right _ h1
  have:(t*B+u)/y<B+2:=by
   apply Nat.div_lt_of_lt_mul
   rw [Nat.mul_add]
   omega
  omega
 have hst:t*1000000000≤1000000000*1000000000:=Nat.mul_le_mul_right _ (by omega)
 generalize hR:qH v y z 2 ((t*B+u)/y) ((t*B+u)%y)=R at hq
 generalize hqq:(t*B+u)/y=q at hq1 hR ⊢
 generalize hrr:(t*B+u)%y=r at hr hR ⊢
 refine⟨by omega,fun _=>⟨by omega,fun _=>⟨⟨by omega,by omega,by omega⟩,fun _=>⟨by omega,fun _=> ?_⟩⟩⟩⟩
 refine zb.loop (ι:=I77 v y z R) (fun s=>S77 v y z s.q s.r) (fun _=>[]) (fun s=>s.n) ⟨q,r,2,by omega,hq1,by omega,hR⟩ 0 ?_ ?_ (by kernel_rfl)
 ·exact⟨by simp [S77],by simp,by kernel_rfl,Nat.zero_le _⟩
 ·rintro⟨q,r,n,hrB,hqB,hnB,hR⟩
  refine zb.run hmix z7 [2,3,4,12,13] 400 (T:=.side (decide ((1000000000:Int)≤q)=false→inR .u64 ((↑q:Int)*z)) (.side (decide ((1000000000:Int)≤q)=false→inR .u64 ((↑r:Int)*(1000000000:Int))) (.side (decide ((1000000000:Int)≤q)=false→inR .u64 ((↑r:Int)*(1000000000:Int)+v)) (.ite (bif decide ((1000000000:Int)≤q) then true else decide ((↑r:Int)*(1000000000:Int)+v<(↑q:Int)*z)) (.side (inR .u64 ((↑q:Int) - (1:Int))) (.side (inR .u64 ((↑r:Int)+y)) (.ite (decide ((1000000000:Int)≤r+(↑y:Int))) (.leaf (.ret [.int .u64 ((↑q:Int) - (1:Int))] [])) (.leaf (.back 0 [(2,.int .u64 v),(3,.int .u64 y),(4,.int .u64 z),(12,.int .u64 ((↑q:Int) - (1:Int))),(13,.int .u64 ((↑r:Int)+y))] []))))) (.leaf (.ret [.int .u64 q] [])))))) (by kernel_rfl) ?_
  simp only [Tree.holds,zc,inR,lo,hi,Bool.cond_eq_ite]
  have hqz:q*z≤1000000001*1000000000:=Nat.mul_le_mul (by omega) (by omega)
  have eqz:((q:Int)*(z:Int))=((q*z:Nat):Int):=by simp
  rw [eqz]
  have hrb:r*B=1000000000*r:=Nat.mul_comm _ _
  generalize hp:q*z=p at hqz ⊢
  refine⟨fun _=>by omega,fun _=>⟨fun _=>by omega,fun _=>⟨fun _=>by omega,fun _=>⟨fun hc=> ?_,fun hc=> ?_⟩⟩⟩⟩
  ·have hcond:B≤q∨r*B+v<q*z:=by
    rw [hp]
    split at hc
    ·rename_i h; simp only [decide_eq_true_eq] at h; left; omega
    ·simp only [decide_eq_true_eq] at hc; right; omega
   have hq0:0<q:=by
    rcases Nat.eq_zero_or_pos q with rfl | h
    ·simp at hcond
    ·exact h
   cases n with
   | zero=>omega
   | succ n=>
    simp only [qH,if_pos hcond] at hR
    refine⟨by omega,fun _=>⟨by omega,fun _=>⟨fun hb=> ?_,fun hb=> ?_⟩⟩⟩
    ·rw [if_pos (by simp at hb; omega)] at hR
     refine RetR.scal hq rfl ?_
     simp only [resV]; congr 1; omega
    ·rw [if_neg (by simp at hb; omega)] at hR
     rw [if_pos trivial]
     refine⟨⟨q - 1,r+y,n,by simp at hb; omega,by omega,by rw [Nat.add_mul] at hnB; omega,hR⟩,by show n<n+1; omega,by simp [S77]; omega,by simp,by kernel_rfl,Nat.zero_le _⟩
  ·have hcond:¬ (B≤q∨r*B+v<q*z):=by
    rw [hp]
    split at hc
    ·cases hc
    ·rename_i h; simp only [decide_eq_true_eq,decide_eq_false_iff_not] at h hc; omega
   refine RetR.scal hq rfl ?_
   have:qH v y z n q r=q:=by
    cases n with
    | zero=>rfl
    | succ n=>simp only [qH,if_neg hcond]
   simp only [resV]; congr 1; omega
noncomputable def K75:List Go.Sx.Item:=[.code (Tryz.f75.body.getD .skip)]
theorem heap_set{k:IntKind}{o:List Nat}{v:Int}{i d i':Nat}(hv:v=d)(hi:i<o.length)(hi':i'=i):eqH [.arr o.length 1 (updG (natG k o) i' 0 [.int k v])] [.arr (o.set i d).length 1 (natG k (o.set i d))]:=by
 subst hv
 subst hi'
 refine⟨⟨by simp,rfl,?_⟩,by simp [eqH]⟩
 have:=v8 (k:=k) (l:=o) (v:=(d:Int)) (by omega) hi
 simpa using this
def Xu:Ctr:=ctr2 true (fun x y=>fits x∧fits y)
 (fun x y p=>p=x*y) (fun x y p=>(.osl 0 1 0 (canon p).length,[.arr ((canon x).length+(canon y).length) 1 (natG .u32 (padN ((canon x).length+(canon y).length) p))]))
def S76(x y i:Nat)(o:List Nat):KV:=[(0,magS x),(1,magS y),(5,.osl 0 1 0 o.length),(6,.undef),(7,.undef),(8,.undef),(18,magS x),(19,.int .i64 ((canon x).length:Nat)),(20,.int .i64 (i:Int)),(25,.undef),(26,.undef),(27,.undef)]
def S76b(x y i j c:Nat)(o:List Nat):KV:=[(0,magS x),(1,magS y),(5,.osl 0 1 0 o.length),(6,.int .i64 (i:Int)),(7,.int .u32 ((canon x).getD i 0:Nat)),(8,.int .u64 (c:Int)),(18,magS x),(19,.int .i64 ((canon x).length:Nat)),(20,.int .i64 (i:Int)),(25,magS y),(26,.int .i64 ((canon y).length:Nat)),(27,.int .i64 (j:Int))]
structure I76(x y:Nat) where
 o:List Nat
 i:Nat
 len:o.length=(canon x).length+(canon y).length
 le:i≤(canon x).length
 dg:dig o
 eq:val o=val ((canon x).take i)*y
structure I76b(x y i V:Nat) where
 o:List Nat
 c:Nat
 j:Nat
 len:o.length=(canon x).length+(canon y).length
 le:j≤(canon y).length
 dg:dig o
 cB:c<B
 z:∀ p,i+(canon y).length≤p→o.getD p 0=0
 eq:val o+B^i*B^j*c=V+B^i*(canon x).getD i 0*val ((canon y).take j)
theorem Kd{o' Pi Pj op d v a b' c c' V vt vo:Nat}(h1:o'+Pi*Pj*op=vo+Pi*Pj*d)(h2:vo+Pi*Pj*c=V+Pi*a*vt)(h3:B*c'+d=v)(h4:v=a*b'+op+c):o'+Pi*(Pj*B)*c'=V+Pi*a*(vt+Pj*b'):=by grind
theorem Vj:zd Tryz.prog 75 Xu:=by
 refine yx (fn:=Tryz.f75) (c:=Tryz.f75.body.getD .skip) rfl rfl rfl fun x y hp O w0 Q hq=> ?_
 replace hq:=hq _ rfl
 obtain⟨hx,hy⟩:=hp
 simp only [fits] at hx hy hq
 have hB:B=1000000000:=rfl
 refine zb.run hmix xR [0,1,5,6,7,8,18,19,20,25,26,27] 400 (T:=.side (inR .i64 ((↑(canon x).length:Int)+(↑(canon y).length:Int))) (.side ((0:Int)≤(↑(canon x).length:Int)+(↑(canon y).length:Int)∧(↑(canon x).length:Int)+(↑(canon y).length:Int)≤(↑(canon x).length:Int)+(↑(canon y).length:Int)∧inR .i64 ((↑(canon x).length:Int)+(↑(canon y).length:Int))∧Int.toNat ((↑(canon x).length:Int)+(↑(canon y).length:Int))*4≤140737488355328) (.leaf (.loop (Prod.fst (lps K75 0)) (Prod.snd (lps K75 0)) [(0,.sl (canon x).length 1 (natG .u32 (canon x))),(1,.sl (canon y).length 1 (natG .u32 (canon y))),(5,.osl 0 1 0 (Int.toNat ((↑(canon x).length:Int)+(↑(canon y).length:Int)))),(6,.undef),(7,.undef),(8,.undef),(18,.sl (canon x).length 1 (natG .u32 (canon x))),(19,.int .i64 (↑(canon x).length:Int)),(20,.int .i64 0),(25,.undef),(26,.undef),(27,.undef)] [.arr (Int.toNat ((↑(canon x).length:Int)+(↑(canon y).length:Int))) 1 (kT [.int .u32 0])])))) (by kernel_rfl) ?_
 simp only [Tree.holds,zc,inR,lo,hi]
 have esum:((canon x).length:Int)+((canon y).length:Int)=(((canon x).length+(canon y).length:Nat):Int):=by omega
 simp only [esum,Int.toNat_natCast]
 refine⟨by omega,fun _=>⟨by omega,fun _=> ?_⟩⟩
 refine zb.loop (ι:=I76 x y) (fun s=>S76 x y s.i s.o) (fun s=>[.arr s.o.length 1 (natG .u32 s.o)]) (fun s=>(canon x).length - s.i) ⟨List.replicate ((canon x).length+(canon y).length) 0,0,by simp,Nat.zero_le _,qE _,by simp [jg,val]⟩ 0 ?_ ?_ (by kernel_rfl)
 ·exact⟨by simp [S76,magS,natS,za],by simp [yL],by kernel_rfl,Nat.zero_le _⟩
 ·rintro⟨o,i,hlen,hle,hd,he⟩
  refine zb.run hmix xR [0,1,5,6,7,8,18,19,20,25,26,27] 400 (T:=.ite (decide ((↑i:Int)<(↑(canon x).length:Int))) (.side ((0:Int)≤i∧(↑i:Int)<(↑(canon x).length:Int)) (.leaf (.loop (Prod.fst (lps (inside K75 0) 0)) (Prod.snd (lps (inside K75 0) 0)) [(0,.sl (canon x).length 1 (natG .u32 (canon x))),(1,.sl (canon y).length 1 (natG .u32 (canon y))),(5,.osl 0 1 0 o.length),(6,.int .i64 i),(7,.int .u32 (↑(List.getD (canon x) (↑i:Int).toNat 0):Int)),(8,.int .u64 0),(18,.sl (canon x).length 1 (natG .u32 (canon x))),(19,.int .i64 (↑(canon x).length:Int)),(20,.int .i64 i),(25,.sl (canon y).length 1 (natG .u32 (canon y))),(26,.int .i64 (↑(canon y).length:Int)),(27,.int .i64 0)] [.arr o.length 1 (natG .u32 o)]))) (.ex (fun(u:List Nat)=>u.length=o.length∧0+o.length≤o.length∧o.length<4611686018427387904∧eqG o.length 1 (natG .u32 o) (natG .u32 u)∧dig (List.take o.length (List.drop 0 u))) fun n=>.all (fun(x:Nat)=>x=val (List.take o.length (List.drop 0 n))) fun n=>.leaf (.ret [.osl 0 1 0 (canon n).length] [.arr o.length 1 (natG .u32 o)]))) (by kernel_rfl) ?_
  simp only [Tree.holds,zc,inR,lo,hi,Int.toNat_natCast,kY]
  have hz:∀ p,i+(canon y).length≤p→o.getD p 0=0:=by
   intro p hp
   refine Qr (n:=i+(canon y).length) ?_ hp
   rw [he,Nat.pow_add]
   have h1:=qe (je (zh x) i)
   have h2:=qe (zh y)
   rw [zk] at h2
   have h3:B^((canon x).take i).length=B^i:=by rw [List.length_take,Nat.min_eq_left hle]
   rw [h3] at h1
   exact Nat.mul_lt_mul_of_lt_of_le h1 (Nat.le_of_lt h2) (Nat.pow_pos (by decide))
  refine⟨fun hlt=>⟨by simp at hlt; omega,fun _=> ?_⟩,fun hge=> ?_⟩
  ·have hlt:i<(canon x).length:=by simp at hlt; omega
   refine zb.loop (ι:=I76b x y i (val o)) (fun s=>S76b x y i s.j s.c s.o) (fun s=>[.arr s.o.length 1 (natG .u32 s.o)]) (fun s=>(canon y).length - s.j) ⟨o,0,0,hlen,Nat.zero_le _,hd,by decide,hz,by simp [val]⟩ 1 ?_ ?_ (by kernel_rfl)
   ·exact⟨by simp [S76b,magS,natS,za],by simp [za],by kernel_rfl,Nat.zero_le _⟩
   ·rintro⟨o2,c,j,hlen2,hle2,hd2,hcB,hz2,he2⟩
    refine zb.run hmix xR [0,1,5,6,7,8,18,19,20,25,26,27] 400 (T:=.ite (decide ((↑j:Int)<(↑(canon y).length:Int))) (.side ((0:Int)≤j∧(↑j:Int)<(↑(canon y).length:Int)) (.side (inR .u64 (↑(List.getD (canon x) i 0):Int)) (.side (inR .u64 (↑(List.getD (canon y) (↑j:Int).toNat 0):Int)) (.side (inR .u64 ((↑(List.getD (canon x) i 0):Int)*(↑(List.getD (canon y) (↑j:Int).toNat 0):Int))) (.side (inR .i64 ((↑i:Int)+j)) (.side ((0:Int)≤i+(↑j:Int)∧(↑i:Int)+j<(↑o2.length:Int)) (.side (inR .u64 (↑(o2.getD (0+Int.toNat ((↑i:Int)+j)) 0):Int)) (.side (inR .u64 ((↑(List.getD (canon x) i 0):Int)*(↑(List.getD (canon y) (↑j:Int).toNat 0):Int)+(↑(o2.getD (0+Int.toNat ((↑i:Int)+j)) 0):Int))) (.side (inR .u64 ((↑(List.getD (canon x) i 0):Int)*(↑(List.getD (canon y) (↑j:Int).toNat 0):Int)+(↑(o2.getD (0+Int.toNat ((↑i:Int)+j)) 0):Int)+c)) (.side (inR .i64 ((↑i:Int)+j)) (.side ((1000000000:Int)≠0) (.side (inR .u32 (Int.tmod ((↑(List.getD (canon x) i 0):Int)*(↑(List.getD (canon y) (↑j:Int).toNat 0):Int)+(↑(o2.getD (0+Int.toNat ((↑i:Int)+j)) 0):Int)+c) (1000000000:Int))) (.side ((1000000000:Int)≠0∧inR .u64 (Int.tdiv ((↑(List.getD (canon x) i 0):Int)*(↑(List.getD (canon y) (↑j:Int).toNat 0):Int)+(↑(o2.getD (0+Int.toNat ((↑i:Int)+j)) 0):Int)+c) (1000000000:Int))) (.side ((0:Int)≤i+(↑j:Int)∧(↑i:Int)+j<(↑o2.length:Int)) (.side (inR .i64 ((↑j:Int)+(1:Int))) (.leaf (.back 1 [(0,.sl (canon x).length 1 (natG .u32 (canon x))),(1,.sl (canon y).length 1 (natG .u32 (canon y))),(5,.osl 0 1 0 o2.length),(6,.int .i64 i),(7,.int .u32 (↑(List.getD (canon x) i 0):Int)),(8,.int .u64 (Int.tdiv ((↑(List.getD (canon x) i 0):Int)*(↑(List.getD (canon y) (↑j:Int).toNat 0):Int)+(↑(o2.getD (0+Int.toNat ((↑i:Int)+j)) 0):Int)+c) (1000000000:Int))),(18,.sl (canon x).length 1 (natG .u32 (canon x))),(19,.int .i64 (↑(canon x).length:Int)),(20,.int .i64 i),(25,.sl (canon y).length 1 (natG .u32 (canon y))),(26,.int .i64 (↑(canon y).length:Int)),(27,.int .i64 ((↑j:Int)+(1:Int)))] [.arr o2.length 1 (updG (natG .u32 o2) (0+Int.toNat ((↑i:Int)+j)) 0 [.int .u32 (Int.tmod ((↑(List.getD (canon x) i 0):Int)*(↑(List.getD (canon y) (↑j:Int).toNat 0):Int)+(↑(o2.getD (0+Int.toNat ((↑i:Int)+j)) 0):Int)+c) (1000000000:Int))])]))))))))))))))))) (.side (inR .i64 ((↑i:Int)+(↑(canon y).length:Int))) (.side ((0:Int)≤i+(↑(canon y).length:Int)∧(↑i:Int)+(↑(canon y).length:Int)<o2.length) (.side (inR .u32 (↑c:Int)) (.side (inR .u32 ((↑(o2.getD (0+Int.toNat ((↑i:Int)+(↑(canon y).length:Int))) 0):Int)+c)) (.side ((0:Int)≤i+(↑(canon y).length:Int)∧(↑i:Int)+(↑(canon y).length:Int)<o2.length) (.side (inR .i64 ((↑i:Int)+(1:Int))) (.leaf (.back 0 [(0,.sl (canon x).length 1 (natG .u32 (canon x))),(1,.sl (canon y).length 1 (natG .u32 (canon y))),(5,.osl 0 1 0 o2.length),(6,.int .i64 i),(7,.int .u32 (↑(List.getD (canon x) i 0):Int)),(8,.int .u64 c),(18,.sl (canon x).length 1 (natG .u32 (canon x))),(19,.int .i64 (↑(canon x).length:Int)),(20,.int .i64 ((↑i:Int)+(1:Int))),(25,.sl (canon y).length 1 (natG .u32 (canon y))),(26,.int .i64 (↑(canon y).length:Int)),(27,.int .i64 j)] [.arr o2.length 1 (updG (natG .u32 o2) (0+Int.toNat ((↑i:Int)+(↑(canon y).length:Int))) 0 [.int .u32 ((↑(o2.getD (0+Int.toNat ((↑i:Int)+(↑(canon y).length:Int))) 0):Int)+c)])]))))))))) (by kernel_rfl) ?_
    have ha:=zH (zh x) i
    have hb:=zH (zh y) j
    have ho:=zH hd2 (i+j)
    have e1:((i:Int)+(j:Int))=((i+j:Nat):Int):=by omega
    have e2:((i:Int)+((canon y).length:Int))=((i+(canon y).length:Nat):Int):=by omega
    simp only [Tree.holds,zc,inR,lo,hi,e1,e2,Int.toNat_natCast,Nat.zero_add]
    have e3:(((canon x).getD i 0:Nat):Int)*(((canon y).getD j 0:Nat):Int)=(((canon x).getD i 0*(canon y).getD j 0:Nat):Int):=by simp
    have hab:(canon x).getD i 0*(canon y).getD j 0≤999999999*999999999:=Nat.mul_le_mul (by omega) (by omega)
    generalize hv:(canon x).getD i 0*(canon y).getD j 0+o2.getD (i+j) 0+c=v
    have e4:(((canon x).getD i 0:Nat):Int)*(((canon y).getD j 0:Nat):Int)+((o2.getD (i+j) 0:Nat):Int)+(c:Int)=(v:Int):=by rw [e3,← hv]; omega
    have e5:(1000000000:Int)=((B:Nat):Int):=rfl
    have hvB:v<1000000000*1000000000:=by omega
    have hdm:=Nat.div_add_mod v B
    have hmod:v%B<B:=Nat.mod_lt _ (by decide)
    have hdiv:v/B<B:=Nat.div_lt_of_lt_mul hvB
    rw [e4,e5,Yf,X7]
    generalize v/B=c' at hdm hdiv ⊢
    generalize v%B=d at hdm hmod ⊢
    rw [e3]
    generalize hab2:(canon x).getD i 0*(canon y).getD j 0=ab at hab hv ⊢
    refine⟨fun hj=> ?_,fun hj=> ?_⟩
    ·have hj:j<(canon y).length:=by simp at hj; omega
     have hp:i+j<o2.length:=by omega
     refine⟨by omega,fun _=>⟨by omega,fun _=>⟨by omega,fun _=>⟨by omega,fun _=>⟨by omega,fun _=>⟨by omega,fun _=>⟨by omega,fun _=>⟨by omega,fun _=>⟨by omega,fun _=>⟨by omega,fun _=>⟨by omega,fun _=>⟨by omega,fun _=>⟨by omega,fun _=>⟨by omega,fun _=>⟨by omega,fun _=> ?_⟩⟩⟩⟩⟩⟩⟩⟩⟩⟩⟩⟩⟩⟩⟩
     rw [if_pos trivial]
     have hs:=y9 o2 (i+j) d hp
     refine⟨⟨o2.set (i+j) d,c',j+1,by simpa using hlen2,by omega,uK hd2 _ hmod,hdiv,fun p hp2=> ?_,?_⟩,by show _ - (j+1)<_ - j; omega,by simp [S76b,magS,natS,za],heap_set rfl hp rfl,by kernel_rfl,Nat.zero_le _⟩
     ·have:=hz2 p hp2
      simp only [List.getD] at this ⊢
      rw [List.getElem?_set_ne (by omega)]; exact this
     ·rw [Nat.pow_add] at hs
      rw [Nat.pow_succ,zn]
      exact Kd hs he2 hdm (by rw [hab2]; omega)
    ·have hj:j=(canon y).length:=by simp at hj; omega
     subst hj
     have h0:=hz2 (i+(canon y).length) (Nat.le_refl _)
     have hp:i+(canon y).length<o2.length:=by omega
     have hs:=y9 o2 (i+(canon y).length) c hp
     refine⟨by omega,fun _=>⟨by omega,fun _=>⟨by omega,fun _=>⟨by omega,fun _=>⟨by omega,fun _=>⟨by omega,fun _=> ?_⟩⟩⟩⟩⟩⟩
     rw [if_neg (by decide),if_pos trivial]
     refine⟨⟨o2.set (i+(canon y).length) c,i+1,by simpa using hlen2,by omega,uK hd2 _ hcB,?_⟩,by show _ - (i+1)<_ - i; omega,by simp [S76,magS,natS,za],heap_set (by omega) hp rfl,by kernel_rfl,Nat.zero_le _⟩
     rw [h0,Nat.pow_add] at hs
     rw [List.take_length,zk] at he2
     rw [zn,Nat.add_mul,← he]
     simp only [Nat.mul_zero,Nat.add_zero] at hs
     rw [hs,he2]
  ·have hge:i=(canon x).length:=by simp at hge; omega
   subst hge
   rw [List.take_length,zk] at he
   refine⟨o,⟨rfl,by omega,by omega,za _ _ _,by simpa using hd⟩,⟨_,rfl⟩,?_⟩
   intro X hX
   have hX:X=x*y:=by simpa [he] using hX
   subst hX
   refine⟨[0],rfl,by simp,by simp,fun _=>⟨?_,?_⟩,_,_,qf ?_,.inl ?_,rfl,hq⟩
   ·simp [resV,new2,new1,new0,zw]
   ·intro k hk
    simp only [List.mem_singleton] at hk
    subst hk
    intro j o' _ _
    rfl
   ·simp [resV,exp2,exp1,exp0,zw,eqA2,eqA]
   ·have hpad:=Kl hd
    rw [he,hlen] at hpad
    rw [← hpad]
    simp [expH,expB,hlen,za]
noncomputable def K87:List Go.Sx.Item:=[.code (Tryz.f87.body.getD .skip)]
noncomputable def G2:Nat→Option Ctr:=fun f=>if f=96 then some (yo) else if f=101 then some (U7) else if f=92 then some (uh) else if f=75 then some (Xu) else if f=102 then some (zcn) else if f=97 then some (JZ) else none
theorem VT:∀ g c,G2 g=some c→zd Tryz.prog g c:=okIf xB (okIf UI (okIf JI (okIf Vj (okIf zam (okIf Zm (zq))))))
theorem jr{k:IntKind}{u:List Nat}{off n X:Nat}(hd:dig ((u.drop off).take n))(hX:val ((u.drop off).take n)=X):eqG (canon X).length 1 (zf (natG k u) off) (natG k (canon X)):=by
 have h:=zL hd
 rw [hX] at h
 have hl:=zZ ((u.drop off).take n)
 intro j o hj ho
 simp only [zf,natG,AV.int.injEq,true_and]
 rw [← h] at hj ⊢
 simp only [qu,List.length_take] at hj ⊢
 have hjn:j<n:=by simp at hj hl; omega
 have e:(List.take (tlen ((u.drop off).take n)) ((u.drop off).take n)).getD j 0=((u.drop off).take n).getD j 0:=by
  simp only [List.getD,List.getElem?_take]
  rw [if_pos (by omega)]
 rw [e,xg _ _ _ _ hjn]
theorem xf(k:IntKind)(n:Nat):eqG 1 1 (zg 1 [.int k (n:Int)]) (natG k [n]):=by
 intro j o hj ho
 have:j=0:=by omega
 have:o=0:=by omega
 subst_vars; rfl
theorem U3{k:IntKind}{n:Nat}{g:Nat→Nat→AV}{u:List Nat}{off m:Nat}(h:eqG m 1 g (natG k u))(hm:off+n≤m):eqG n 1 (zf g off) (zf (natG k u) off):=by
 intro j o hj ho
 exact h (off+j) o (by omega) ho
theorem kZ{n sz:Nat}{f g h:Nat→Nat→AV}(h1:eqG n sz f g)(h2:eqG n sz g h):eqG n sz f h:=fun j o hj ho=>(h1 j o hj ho).trans (h2 j o hj ho)
theorem wq{d:Nat}(hd:d<B):eqG (canon d).length 1 (zf (zg 1 [.int .u32 (d:Int)]) 0) (natG .u32 (canon d)):=by
 have h1:dig (([d].drop 0).take 1):=by simpa [dig] using hd
 have h2:val (([d].drop 0).take 1)=d:=by simp [val]
 have h3:=jr (k:=.u32) h1 h2
 refine kZ (U3 (xf .u32 d) ?_) h3
 have:=zt (x:=d) (n:=1) (by simpa using hd)
 omega
theorem xX{N p:Nat}(hN:(canon p).length≤N):eqG (canon p).length 1 (zf (natG .u32 (padN N p)) 0) (natG .u32 (canon p)):=by
 intro j o hj ho
 simp only [zf,natG,Nat.zero_add,padN,AV.int.injEq,true_and]
 congr 1
 simp only [List.getD]
 rw [List.getElem?_append_left hj]
theorem UP(N p i:Nat):(padN N p).getD i 0=(canon p).getD i 0:=by
 simp only [padN,List.getD]
 by_cases h:i<(canon p).length
 ·rw [List.getElem?_append_left h]
 ·rw [List.getElem?_append_right (by omega),List.getElem?_eq_none (show(canon p).length≤i by omega)]
  cases hh:(List.replicate (N - (canon p).length) 0)[i - (canon p).length]? with
  | none=>rfl
  | some z=>have:=List.mem_of_getElem? hh; simp at this; simp [this.2]
theorem JG{N p:Nat}(h:(canon p).length≤N):(padN N p).length=N:=by simp [padN]; omega
theorem zdl(N p:Nat):dig (padN N p):=qL.2 ⟨zh _,qE _⟩
theorem xp(x y:Nat):(canon (x*y)).length≤(canon x).length+(canon y).length:=by
 have h1:=qe (zh x)
 have h2:=qe (zh y)
 rw [zk] at h1 h2
 exact zt (by rw [Nat.pow_add]; exact Nat.mul_lt_mul'' h1 h2)
theorem Qz{d:Nat}(h0:0<d)(hB:d<B):(canon d).length=1:=by
 have h1:=zt (x:=d) (n:=1) (by simpa using hB)
 have h2:=jn (x:=d) (n:=0) (by simp; omega)
 omega
def xK:Ctr:=ctr2 false (fun x y=>(canon x).length<100000∧(canon y).length<100000∧0<y) (fun x y (r:Nat×Nat)=>r=(x/y,x%y)) (fun _ _ r=>(.tup [magS r.1,magS r.2],[]))
def SG(x y s k:Nat):KV:=[(0,magS x),(1,magS y),(4,.nils),(8,.int .u32 (s:Int)),(9,.int .i64 (((canon y).length:Nat):Int)),(10,.osl 1 1 0 k),(11,.undef),(12,.undef),(13,.undef),(15,.undef),(151,.undef),(152,.undef)]
structure IG(x U:Nat) where
 k:Nat
 o:List Nat
 ko:k≤o.length
 le:o.length≤(canon x).length+1
 dg:dig (o.take k)
 eq:val (o.take k)=U
def SD(y s V ul ql j:Nat):KV:=[(0,.undef),(1,.undef),(4,.osl 4 1 0 ql),(8,.int .u32 (s:Int)),(9,.int .i64 (((canon y).length:Nat):Int)),(10,.osl 1 1 0 ul),(11,.osl 3 1 0 (canon V).length),(12,.int .i64 ((j:Int) - 1)),(13,.undef),(15,.undef),(151,.undef),(152,.undef)]
def HD(y V:Nat)(u q:List Nat):Heap:=[.dead,.arr u.length 1 (natG .u32 u),.dead,.arr ((canon y).length+1) 1 (natG .u32 (padN ((canon y).length+1) V)),.arr q.length 1 (natG .u32 q)]
structure ID(x y V U:Nat) where
 u:List Nat
 q:List Nat
 j:Nat
 ul:u.length=(canon x).length+1
 ql:q.length+(canon y).length=(canon x).length+1
 jq:j≤q.length
 du:dig u
 dq:dig q
 eq:U=V*B^j*val (q.drop j)+val u
 lt:val u<V*B^j
def SC(y s V ul ql j d L i:Nat):KV:=[(0,.undef),(1,.undef),(4,.osl 4 1 0 ql),(8,.int .u32 (s:Int)),(9,.int .i64 (((canon y).length:Nat):Int)),(10,.osl 1 1 0 ul),(11,.osl 3 1 0 (canon V).length),(12,.int .i64 (j:Int)),(13,.int .u64 (d:Int)),(15,magS L),(151,.int .i64 (((canon y).length+1:Nat):Int)),(152,.int .i64 (i:Int))]
theorem Vb{x y s V U m i:Nat}{u q:List Nat}{O:Nat→Prop}{w0:World}{Q:AV×Heap→Prop}{Hs0:Nat→KV→Heap→Prop}(hm:(canon y).length=m+2)(hx:(canon x).length<100000)(hs0:0<s)(hsB:s<B)(hV1:V<B^(m+2))(hV2:B^(m+2)≤2*V)(hVl:(canon V).length=m+2)(hV0:0<V)
  (hul:u.length=(canon x).length+1) (hql:q.length+(canon y).length=(canon x).length+1) (hjq:i+1≤q.length) (hdu:dig u) (hdq:dig q) (heq:U=V*B^(i+1)*val (q.drop (i+1))+val u) (hlt:val u<V*B^(i+1)) {W:Nat} (hW:val ((u.drop i).take (m+2+1))=W) (hWB:W/V<B) (kv:KV) (h:Heap) (hle:LeK 0 Tryz.f87.ntmps kv h (SC y s V u.length q.length i (W/V) (W%V) 0) (HD y V u q)) :
  zb Tryz.prog Tryz.f87 O 0 w0 [] (fun d kv h=>if d=0 then ∃ x':ID x y V U,x'.j<i+1∧LeK 0 Tryz.f87.ntmps kv h (SD y s V x'.u.length x'.q.length x'.j) (HD y V x'.u x'.q) else Hs0 d kv h) (RetR xK 0 Q)
   (.code (.loop (lps (inside (inside K87 0) 0) 0).1)::(lps (inside (inside K87 0) 0) 0).2) (mk Tryz.f87.ntmps kv h):=by
 have hB:B=1000000000:=rfl
 have c2:0+(i:Int).toNat=i:=by omega
 have hLV:=Nat.mod_lt W hV0
 have hLl:(canon (W%V)).length≤m+2:=zt (by omega)
 refine zb.loop (ι:={k:Nat // k≤m+2+1}) (fun k=>SC y s V u.length q.length i (W/V) (W%V) k.1) (fun k=>HD y V (mixL u (canon (W%V)) i k.1) q) (fun k=>m+2+1 - k.1) ⟨0,Nat.zero_le _⟩ 1 ?_ ?_ (by kernel_rfl)
 ·simpa only [Y2] using hle
 ·rintro⟨k,hk⟩
  obtain⟨L,hL⟩:∃ L,W%V=L:=⟨_,rfl⟩
  obtain⟨d,hd⟩:∃ d,W/V=d:=⟨_,rfl⟩
  simp only [hL,hd]
  obtain⟨u',hu'⟩:∃ u',mixL u (canon L) i k=u':=⟨_,rfl⟩
  have hu'l:u'.length=u.length:=by rw [← hu',Vu]
  simp only [hu',← hu'l]
  rw [hL] at hLl hLV
  refine zb.run hmix VT [0,1,4,8,9,10,11,12,13,15,151,152] 400 (T:=.ite (decide ((↑k:Int)<(↑(List.length (canon y)+1):Int))) (.side (inR .i64 ((↑i:Int)+k)) (.side ((0:Int)≤i+(↑k:Int)∧(↑i:Int)+k<(↑u'.length:Int)) (.ite (decide ((↑k:Int)<(↑(canon L).length:Int))) (.side (inR .i64 ((↑i:Int)+k)) (.side ((0:Int)≤k∧(↑k:Int)<(↑(canon L).length:Int)) (.side ((0:Int)≤i+(↑k:Int)∧(↑i:Int)+k<(↑u'.length:Int)) (.side (inR .i64 ((↑k:Int)+(1:Int))) (.leaf (.back 1 [(0,.undef),(1,.undef),(4,.osl 4 1 0 q.length),(8,.int .u32 s),(9,.int .i64 (↑(canon y).length:Int)),(10,.osl 1 1 0 u'.length),(11,.osl 3 1 0 (canon V).length),(12,.int .i64 i),(13,.int .u64 d),(15,.sl (canon L).length 1 (natG .u32 (canon L))),(151,.int .i64 (↑(List.length (canon y)+1):Int)),(152,.int .i64 ((↑k:Int)+(1:Int)))] [.dead,.arr u'.length 1 (updG (updG (natG .u32 u') (0+Int.toNat ((↑i:Int)+k)) 0 [.int .u32 0]) (0+Int.toNat ((↑i:Int)+k)) 0 [.int .u32 (↑(List.getD (canon L) (↑k:Int).toNat 0):Int)]),.dead,.arr (List.length (canon y)+1) 1 (natG .u32 (padN (List.length (canon y)+1) V)),.arr q.length 1 (natG .u32 q)])))))) (.side (inR .i64 ((↑k:Int)+(1:Int))) (.leaf (.back 1 [(0,.undef),(1,.undef),(4,.osl 4 1 0 q.length),(8,.int .u32 s),(9,.int .i64 (↑(canon y).length:Int)),(10,.osl 1 1 0 u'.length),(11,.osl 3 1 0 (canon V).length),(12,.int .i64 i),(13,.int .u64 d),(15,.sl (canon L).length 1 (natG .u32 (canon L))),(151,.int .i64 (↑(List.length (canon y)+1):Int)),(152,.int .i64 ((↑k:Int)+(1:Int)))] [.dead,.arr u'.length 1 (updG (natG .u32 u') (0+Int.toNat ((↑i:Int)+k)) 0 [.int .u32 0]),.dead,.arr (List.length (canon y)+1) 1 (natG .u32 (padN (List.length (canon y)+1) V)),.arr q.length 1 (natG .u32 q)])))))) (.side (inR .u32 (↑d:Int)) (.side ((0:Int)≤i∧(↑i:Int)<q.length) (.side (inR .i64 ((↑i:Int) - (1:Int))) (.leaf (.back 0 [(0,.undef),(1,.undef),(4,.osl 4 1 0 q.length),(8,.int .u32 s),(9,.int .i64 (↑(canon y).length:Int)),(10,.osl 1 1 0 u'.length),(11,.osl 3 1 0 (canon V).length),(12,.int .i64 ((↑i:Int) - (1:Int))),(13,.int .u64 d),(15,.sl (canon L).length 1 (natG .u32 (canon L))),(151,.int .i64 (↑(List.length (canon y)+1):Int)),(152,.int .i64 k)] [.dead,.arr u'.length 1 (natG .u32 u'),.dead,.arr (List.length (canon y)+1) 1 (natG .u32 (padN (List.length (canon y)+1) V)),.arr q.length 1 (updG (natG .u32 q) (0+Int.toNat (↑i:Int)) 0 [.int .u32 d])])))))) (by kernel_rfl) ?_
  have ek:0+((i:Int)+(k:Int)).toNat=i+k:=by omega
  have ek1:((k:Int)+1)=((k+1:Nat):Int):=by omega
  simp only [Tree.holds,zc,inR,lo,hi,ek,ek1,c2,Int.toNat_natCast]
  refine⟨fun hlt=> ?_,fun hge=> ?_⟩
  ·have hlt:k<m+2+1:=by simp at hlt; omega
   have hik:i+k<u'.length:=by omega
   refine⟨by omega,fun _=>⟨by omega,fun _=>⟨fun hin=> ?_,fun hout=> ?_⟩⟩⟩
   ·have hin:k<(canon L).length:=by simp at hin; omega
    iterate 4 refine⟨by omega,fun _=> ?_⟩
    rw [if_pos trivial]
    refine⟨⟨k+1,by omega⟩,by show m+2+1 - (k+1)<m+2+1 - k; omega,by simp [SC,magS,natS,za],?_,by kernel_rfl,Nat.zero_le _⟩
    have hs2:=V9 u (canon L) i k 0
    rw [hu'] at hs2
    simp only [← hs2]
    refine⟨trivial,⟨by simp,rfl,?_⟩,trivial,by simp [za],by simp [za],trivial⟩
    have h1:=v8 (k:=.u32) (l:=u') (v:=0) (i:=i+k) (by omega) hik
    have h2:=v8 (k:=.u32) (l:=u'.set (i+k) 0) (v:=((canon L).getD k 0:Nat)) (i:=i+k) (by omega) (by simpa using hik)
    simp only [List.length_set,Int.toNat_natCast] at h2
    refine kZ ?_ h2
    intro p o hp ho
    have:=h1 p o hp ho
    simp only [updG] at this ⊢
    split
    ·rfl
    ·exact this
   ·have hout:(canon L).length≤k:=by simp at hout; omega
    refine⟨by omega,fun _=> ?_⟩
    rw [if_pos trivial]
    refine⟨⟨k+1,by omega⟩,by show m+2+1 - (k+1)<m+2+1 - k; omega,by simp [SC,magS,natS,za],?_,by kernel_rfl,Nat.zero_le _⟩
    have hs2:=V9 u (canon L) i k 0
    rw [hu'] at hs2
    have hz:(canon L).getD k 0=0:=by simp [List.getD,List.getElem?_eq_none hout]
    rw [hz,List.set_set] at hs2
    simp only [← hs2]
    refine⟨trivial,⟨by simp,rfl,?_⟩,trivial,by simp [za],by simp [za],trivial⟩
    exact v8 (k:=.u32) (l:=u') (v:=0) (i:=i+k) (by omega) hik
  ·have hk:k=m+2+1:=by simp at hge; omega
   subst hk
   have hdB:d<B:=hd▸hWB
   iterate 3 refine⟨by omega,fun _=> ?_⟩
   rw [if_neg (by decide),if_pos trivial]
   have hval:=zax (u:=u) (L:=L) (j:=i) (k:=m+2+1) (by omega) (by omega)
   rw [hu'] at hval
   have hst:=step_eq (u:=u) (u':=u') (q:=q) (j:=i) (k:=m+2+1) (V:=V) (U0:=U) hdu (by omega) (by simpa using hV1) (by omega) hV0 hlt (by omega) heq (by rw [hW,hL]; exact hval)
   rw [hW,hd] at hst
   refine⟨⟨u',q.set i d,i,by omega,by simpa using hql,by simp; omega,?_,uK hdq _ hdB,hst.2,hst.1⟩,Nat.lt_succ_self _,by simp [SD,za],?_,by kernel_rfl,Nat.zero_le _⟩
   ·rw [← hu']; exact zd6 hdu (zh _) _ _
   ·refine⟨trivial,⟨rfl,rfl,za _ _ _⟩,trivial,⟨rfl,rfl,za _ _ _⟩,⟨by simp,rfl,?_⟩,trivial⟩
    have:=v8 (k:=.u32) (l:=q) (v:=(d:Int)) (i:=i) (by omega) (by omega)
    simpa using this
set_option maxHeartbeats 2000000 in
theorem We{x y s V U m i:Nat}{u q:List Nat}{O:Nat→Prop}{w0:World}{Q:AV×Heap→Prop}{Hs0:Nat→KV→Heap→Prop}(hm:(canon y).length=m+2)(hx:(canon x).length<100000)(hs0:0<s)(hsB:s<B)(hV1:V<B^(m+2))(hV2:B^(m+2)≤2*V)(hVl:(canon V).length=m+2)(hV0:0<V)
  (hul:u.length=(canon x).length+1) (hql:q.length+(canon y).length=(canon x).length+1) (hjq:i+1≤q.length) (hdu:dig u) (hdq:dig q) (heq:U=V*B^(i+1)*val (q.drop (i+1))+val u) (hlt:val u<V*B^(i+1)) :
  zb Tryz.prog Tryz.f87 O 0 w0 [] (fun d kv h=>if d=0 then ∃ x':ID x y V U,x'.j<i+1∧LeK 0 Tryz.f87.ntmps kv h (SD y s V x'.u.length x'.q.length x'.j) (HD y V x'.u x'.q) else Hs0 d kv h) (RetR xK 0 Q) (inside (inside K87 0) 0) (mk Tryz.f87.ntmps (SD y s V u.length q.length (i+1)) (HD y V u q)):=by
 have hB:B=1000000000:=rfl
 refine zb.run hmix VT [0,1,4,8,9,10,11,12,13,15,151,152] 400 (T:=.ite (decide ((0:Int)≤(↑(i+1):Int) - (1:Int))) (.side (inR .i64 ((↑(i+1):Int) - (1:Int)+(↑(canon y).length:Int))) (.side ((0:Int)≤(↑(i+1):Int) - (1:Int)+(↑(canon y).length:Int)∧(↑(i+1):Int) - (1:Int)+(↑(canon y).length:Int)<u.length) (.side (inR .u64 (↑(u.getD (0+Int.toNat ((↑(i+1):Int) - (1:Int)+(↑(canon y).length:Int))) 0):Int)) (.side (inR .i64 ((↑(i+1):Int) - (1:Int)+(↑(canon y).length:Int))) (.side (inR .i64 ((↑(i+1):Int) - (1:Int)+(↑(canon y).length:Int) - (1:Int))) (.side ((0:Int)≤(↑(i+1):Int) - (1:Int)+(↑(canon y).length:Int) - (1:Int)∧(↑(i+1):Int) - (1:Int)+(↑(canon y).length:Int) - (1:Int)<u.length) (.side (inR .u64 (↑(u.getD (0+Int.toNat ((↑(i+1):Int) - (1:Int)+(↑(canon y).length:Int) - (1:Int))) 0):Int)) (.side (inR .i64 ((↑(i+1):Int) - (1:Int)+(↑(canon y).length:Int))) (.side (inR .i64 ((↑(i+1):Int) - (1:Int)+(↑(canon y).length:Int) - (2:Int))) (.side ((0:Int)≤(↑(i+1):Int) - (1:Int)+(↑(canon y).length:Int) - (2:Int)∧(↑(i+1):Int) - (1:Int)+(↑(canon y).length:Int) - (2:Int)<u.length) (.side (inR .u64 (↑(u.getD (0+Int.toNat ((↑(i+1):Int) - (1:Int)+(↑(canon y).length:Int) - (2:Int))) 0):Int)) (.side (inR .i64 ((↑(canon y).length:Int) - (1:Int))) (.side ((0:Int)≤(↑(canon y).length:Int) - (1:Int)∧(↑(canon y).length:Int) - (1:Int)<(↑(canon V).length:Int)) (.side (inR .u64 (↑(List.getD (padN (List.length (canon y)+1) V) (0+Int.toNat ((↑(canon y).length:Int) - (1:Int))) 0):Int)) (.side (inR .i64 ((↑(canon y).length:Int) - (2:Int))) (.side ((0:Int)≤(↑(canon y).length:Int) - (2:Int)∧(↑(canon y).length:Int) - (2:Int)<(↑(canon V).length:Int)) (.side (inR .u64 (↑(List.getD (padN (List.length (canon y)+1) V) (0+Int.toNat ((↑(canon y).length:Int) - (2:Int))) 0):Int)) (.ex (fun(x:D5)=>eqL [AV.int .u64 (↑(u.getD (0+Int.toNat ((↑(i+1):Int) - (1:Int)+(↑(canon y).length:Int))) 0):Int),AV.int .u64 (↑(u.getD (0+Int.toNat ((↑(i+1):Int) - (1:Int)+(↑(canon y).length:Int) - (1:Int))) 0):Int),AV.int .u64 (↑(u.getD (0+Int.toNat ((↑(i+1):Int) - (1:Int)+(↑(canon y).length:Int) - (2:Int))) 0):Int),AV.int .u64 (↑(List.getD (padN (List.length (canon y)+1) V) (0+Int.toNat ((↑(canon y).length:Int) - (1:Int))) 0):Int),AV.int .u64 (↑(List.getD (padN (List.length (canon y)+1) V) (0+Int.toNat ((↑(canon y).length:Int) - (2:Int))) 0):Int)] [AV.int .u64 (↑(D5.t x):Int),AV.int .u64 (↑(D5.u x):Int),AV.int .u64 (↑(D5.v x):Int),AV.int .u64 (↑(D5.y x):Int),AV.int .u64 (↑(D5.z x):Int)]∧D5.t x≤D5.y x∧D5.u x<1000000000∧D5.v x<1000000000∧D5.y x<1000000000∧D5.z x<1000000000∧1000000000≤2*D5.y x) fun n=>.all (fun(n_1:Nat)=>n_1=qH (D5.v n) (D5.y n) (D5.z n) 2 ((D5.t n*1000000000+D5.u n)/D5.y n) ((D5.t n*1000000000+D5.u n)%D5.y n)) fun n=>.side (inR .u32 (↑n:Int)) (.ex (fun(u:List Nat)=>u.length=1∧1≤1∧1<4611686018427387904∧eqG 1 1 (zg 1 [AV.int .u32 n]) (natG .u32 u)∧dig (List.take 1 (List.drop 0 u))) fun n_1=>.all (fun(x:Nat)=>x=val (List.take 1 (List.drop 0 n_1))) fun n_2=>.ex (fun(x:Nat×Nat)=>eqL [AV.sl (canon V).length 1 (zf (natG .u32 (padN (List.length (canon y)+1) V)) 0),AV.sl (canon n_2).length 1 (zf (zg 1 [AV.int .u32 n]) 0)] [AV.sl (canon x.1).length 1 (natG .u32 (canon x.1)),AV.sl (canon x.2).length 1 (natG .u32 (canon x.2))]∧fits x.1∧fits x.2) fun n_3=>.all (fun(p:Nat)=>p=n_3.1*n_3.2) fun n_4=>.side (inR .i64 ((↑(i+1):Int) - (1:Int)+(↑(canon y).length:Int))) (.side (inR .i64 ((↑(i+1):Int) - (1:Int)+(↑(canon y).length:Int)+(1:Int))) (.side ((0:Int)≤(↑(i+1):Int) - (1:Int)∧(↑(i+1):Int) - (1:Int)≤(↑(i+1):Int) - (1:Int)+(↑(canon y).length:Int)+(1:Int)∧(↑(i+1):Int) - (1:Int)+(↑(canon y).length:Int)+(1:Int)≤u.length) (.ex (fun(u_1:List Nat)=>u_1.length=u.length∧0+Int.toNat ((↑(i+1):Int) - (1:Int))+(Int.toNat ((↑(i+1):Int) - (1:Int)+(↑(canon y).length:Int)+(1:Int)) - Int.toNat ((↑(i+1):Int) - (1:Int)))≤u.length∧Int.toNat ((↑(i+1):Int) - (1:Int)+(↑(canon y).length:Int)+(1:Int)) - Int.toNat ((↑(i+1):Int) - (1:Int))<4611686018427387904∧eqG u.length 1 (natG .u32 u) (natG .u32 u_1)∧dig (List.take (Int.toNat ((↑(i+1):Int) - (1:Int)+(↑(canon y).length:Int)+(1:Int)) - Int.toNat ((↑(i+1):Int) - (1:Int))) (List.drop (0+Int.toNat ((↑(i+1):Int) - (1:Int))) u_1))) fun n_5=>.all (fun(x:Nat)=>x=val (List.take (Int.toNat ((↑(i+1):Int) - (1:Int)+(↑(canon y).length:Int)+(1:Int)) - Int.toNat ((↑(i+1):Int) - (1:Int))) (List.drop (0+Int.toNat ((↑(i+1):Int) - (1:Int))) n_5))) fun n_6=>.ex (fun(x:Nat×Nat)=>eqL [AV.sl (canon n_6).length 1 (zf (natG .u32 u) (0+Int.toNat ((↑(i+1):Int) - (1:Int)))),AV.sl (canon n_4).length 1 (zf (natG .u32 (padN (List.length (canon n_3.1)+List.length (canon n_3.2)) n_4)) 0)] [AV.sl (canon x.1).length 1 (natG .u32 (canon x.1)),AV.sl (canon x.2).length 1 (natG .u32 (canon x.2))]∧fits x.1∧fits x.2) fun n_7=>.all (fun(r:Int)=>r=cmp3 n_7.1 n_7.2) fun n_8=>.ite (decide (n_8<0)) (.side (inR .u64 ((↑n:Int) - (1:Int))) (.side (inR .u32 ((↑n:Int) - (1:Int))) (.ex (fun(u:List Nat)=>u.length=1∧1≤1∧1<4611686018427387904∧eqG 1 1 (zg 1 [AV.int .u32 ((↑n:Int) - (1:Int))]) (natG .u32 u)∧dig (List.take 1 (List.drop 0 u))) fun n_9=>.all (fun(x:Nat)=>x=val (List.take 1 (List.drop 0 n_9))) fun n_10=>.ex (fun(x:Nat×Nat)=>eqL [AV.sl (canon V).length 1 (zf (natG .u32 (padN (List.length (canon y)+1) V)) 0),AV.sl (canon n_10).length 1 (zf (zg 1 [AV.int .u32 ((↑n:Int) - (1:Int))]) 0)] [AV.sl (canon x.1).length 1 (natG .u32 (canon x.1)),AV.sl (canon x.2).length 1 (natG .u32 (canon x.2))]∧fits x.1∧fits x.2) fun n_11=>.all (fun(p:Nat)=>p=n_11.1*n_11.2) fun n_12=>.side (inR .i64 ((↑(i+1):Int) - (1:Int)+(↑(canon y).length:Int))) (.side (inR .i64 ((↑(i+1):Int) - (1:Int)+(↑(canon y).length:Int)+(1:Int))) (.side ((0:Int)≤(↑(i+1):Int) - (1:Int)∧(↑(i+1):Int) - (1:Int)≤(↑(i+1):Int) - (1:Int)+(↑(canon y).length:Int)+(1:Int)∧(↑(i+1):Int) - (1:Int)+(↑(canon y).length:Int)+(1:Int)≤u.length) (.ex (fun(u_1:List Nat)=>u_1.length=u.length∧0+Int.toNat ((↑(i+1):Int) - (1:Int))+(Int.toNat ((↑(i+1):Int) - (1:Int)+(↑(canon y).length:Int)+(1:Int)) - Int.toNat ((↑(i+1):Int) - (1:Int)))≤u.length∧Int.toNat ((↑(i+1):Int) - (1:Int)+(↑(canon y).length:Int)+(1:Int)) - Int.toNat ((↑(i+1):Int) - (1:Int))<4611686018427387904∧eqG u.length 1 (natG .u32 u) (natG .u32 u_1)∧dig (List.take (Int.toNat ((↑(i+1):Int) - (1:Int)+(↑(canon y).length:Int)+(1:Int)) - Int.toNat ((↑(i+1):Int) - (1:Int))) (List.drop (0+Int.toNat ((↑(i+1):Int) - (1:Int))) u_1))) fun n_13=>.all (fun(x:Nat)=>x=val (List.take (Int.toNat ((↑(i+1):Int) - (1:Int)+(↑(canon y).length:Int)+(1:Int)) - Int.toNat ((↑(i+1):Int) - (1:Int))) (List.drop (0+Int.toNat ((↑(i+1):Int) - (1:Int))) n_13))) fun n_14=>.ex (fun(x:Nat×Nat)=>eqL [AV.sl (canon n_14).length 1 (zf (natG .u32 u) (0+Int.toNat ((↑(i+1):Int) - (1:Int)))),AV.sl (canon n_12).length 1 (zf (natG .u32 (padN (List.length (canon n_11.1)+List.length (canon n_11.2)) n_12)) 0)] [AV.sl (canon x.1).length 1 (natG .u32 (canon x.1)),AV.sl (canon x.2).length 1 (natG .u32 (canon x.2))]∧fits x.1∧x.2≤x.1) fun n_15=>.all (fun(d:Nat)=>d=n_15.1 - n_15.2) fun n_16=>.side (inR .i64 ((↑(canon y).length:Int)+(1:Int))) (.leaf (.loop (Prod.fst (lps (inside (inside K87 0) 0) 0)) (Prod.snd (lps (inside (inside K87 0) 0) 0)) [(0,.undef),(1,.undef),(4,.osl 4 1 0 q.length),(8,.int .u32 s),(9,.int .i64 (↑(canon y).length:Int)),(10,.osl 1 1 0 u.length),(11,.osl 3 1 0 (canon V).length),(12,.int .i64 ((↑(i+1):Int) - (1:Int))),(13,.int .u64 ((↑n:Int) - (1:Int))),(15,.sl (canon n_16).length 1 (natG .u32 (canon n_16))),(151,.int .i64 ((↑(canon y).length:Int)+(1:Int))),(152,.int .i64 0)] [.dead,.arr u.length 1 (natG .u32 u),.dead,.arr (List.length (canon y)+1) 1 (natG .u32 (padN (List.length (canon y)+1) V)),.arr q.length 1 (natG .u32 q),.arr 1 1 (zg 1 [.int .u32 n]),.arr (List.length (canon n_3.1)+List.length (canon n_3.2)) 1 (natG .u32 (padN (List.length (canon n_3.1)+List.length (canon n_3.2)) n_4)),.arr 1 1 (zg 1 [.int .u32 ((↑n:Int) - (1:Int))]),.arr (List.length (canon n_11.1)+List.length (canon n_11.2)) 1 (natG .u32 (padN (List.length (canon n_11.1)+List.length (canon n_11.2)) n_12))])))))))) (.side (inR .i64 ((↑(i+1):Int) - (1:Int)+(↑(canon y).length:Int))) (.side (inR .i64 ((↑(i+1):Int) - (1:Int)+(↑(canon y).length:Int)+(1:Int))) (.side ((0:Int)≤(↑(i+1):Int) - (1:Int)∧(↑(i+1):Int) - (1:Int)≤(↑(i+1):Int) - (1:Int)+(↑(canon y).length:Int)+(1:Int)∧(↑(i+1):Int) - (1:Int)+(↑(canon y).length:Int)+(1:Int)≤u.length) (.ex (fun(u_1:List Nat)=>u_1.length=u.length∧0+Int.toNat ((↑(i+1):Int) - (1:Int))+(Int.toNat ((↑(i+1):Int) - (1:Int)+(↑(canon y).length:Int)+(1:Int)) - Int.toNat ((↑(i+1):Int) - (1:Int)))≤u.length∧Int.toNat ((↑(i+1):Int) - (1:Int)+(↑(canon y).length:Int)+(1:Int)) - Int.toNat ((↑(i+1):Int) - (1:Int))<4611686018427387904∧eqG u.length 1 (natG .u32 u) (natG .u32 u_1)∧dig (List.take (Int.toNat ((↑(i+1):Int) - (1:Int)+(↑(canon y).length:Int)+(1:Int)) - Int.toNat ((↑(i+1):Int) - (1:Int))) (List.drop (0+Int.toNat ((↑(i+1):Int) - (1:Int))) u_1))) fun n_9=>.all (fun(x:Nat)=>x=val (List.take (Int.toNat ((↑(i+1):Int) - (1:Int)+(↑(canon y).length:Int)+(1:Int)) - Int.toNat ((↑(i+1):Int) - (1:Int))) (List.drop (0+Int.toNat ((↑(i+1):Int) - (1:Int))) n_9))) fun n_10=>.ex (fun(x:Nat×Nat)=>eqL [AV.sl (canon n_10).length 1 (zf (natG .u32 u) (0+Int.toNat ((↑(i+1):Int) - (1:Int)))),AV.sl (canon n_4).length 1 (zf (natG .u32 (padN (List.length (canon n_3.1)+List.length (canon n_3.2)) n_4)) 0)] [AV.sl (canon x.1).length 1 (natG .u32 (canon x.1)),AV.sl (canon x.2).length 1 (natG .u32 (canon x.2))]∧fits x.1∧x.2≤x.1) fun n_11=>.all (fun(d:Nat)=>d=n_11.1 - n_11.2) fun n_12=>.side (inR .i64 ((↑(canon y).length:Int)+(1:Int))) (.leaf (.loop (Prod.fst (lps (inside (inside K87 0) 0) 0)) (Prod.snd (lps (inside (inside K87 0) 0) 0)) [(0,.undef),(1,.undef),(4,.osl 4 1 0 q.length),(8,.int .u32 s),(9,.int .i64 (↑(canon y).length:Int)),(10,.osl 1 1 0 u.length),(11,.osl 3 1 0 (canon V).length),(12,.int .i64 ((↑(i+1):Int) - (1:Int))),(13,.int .u64 n),(15,.sl (canon n_12).length 1 (natG .u32 (canon n_12))),(151,.int .i64 ((↑(canon y).length:Int)+(1:Int))),(152,.int .i64 0)] [.dead,.arr u.length 1 (natG .u32 u),.dead,.arr (List.length (canon y)+1) 1 (natG .u32 (padN (List.length (canon y)+1) V)),.arr q.length 1 (natG .u32 q),.arr 1 1 (zg 1 [.int .u32 n]),.arr (List.length (canon n_3.1)+List.length (canon n_3.2)) 1 (natG .u32 (padN (List.length (canon n_3.1)+List.length (canon n_3.2)) n_4))])))))))))))))))))))))))))))) (.ex (fun(u_1:List Nat)=>u_1.length=u.length∧0+u.length≤u.length∧u.length<4611686018427387904∧eqG u.length 1 (natG .u32 u) (natG .u32 u_1)∧dig (List.take u.length (List.drop 0 u_1))) fun n=>.all (fun(x:Nat)=>x=val (List.take u.length (List.drop 0 n))) fun n=>.ex (fun(x:Nat×Nat)=>eqL [AV.sl (canon n).length 1 (zf (natG .u32 u) 0),AV.int .u32 s] [AV.sl (canon x.1).length 1 (natG .u32 (canon x.1)),AV.int .u32 x.2]∧fits x.1∧0<x.2∧x.2<1000000000) fun n=>.all (fun(r:Nat×Nat)=>r=(n.1/n.2,n.1%n.2)) fun n=>.ex (fun(u:List Nat)=>u.length=q.length∧0+q.length≤q.length∧q.length<4611686018427387904∧eqG q.length 1 (natG .u32 q) (natG .u32 u)∧dig (List.take q.length (List.drop 0 u))) fun n_1=>.all (fun(x:Nat)=>x=val (List.take q.length (List.drop 0 n_1))) fun n_2=>.leaf (.ret [.osl 4 1 0 (canon n_2).length,.sl (canon n.1).length 1 (natG .u32 (canon n.1))] [.dead,.arr u.length 1 (natG .u32 u),.dead,.arr (List.length (canon y)+1) 1 (natG .u32 (padN (List.length (canon y)+1) V)),.arr q.length 1 (natG .u32 q)]))) (by kernel_rfl) ?_
 simp only [Tree.holds,zc,inR,lo,hi]
 refine⟨fun hj=> ?_,fun hj=>by simp at hj⟩
 have ej:(((i+1:Nat):Int) - 1)=(i:Int):=by omega
 have a1:0+((i:Int)+((canon y).length:Int)).toNat=i+(m+2):=by omega
 have a2:0+((i:Int)+((canon y).length:Int) - 1).toNat=i+(m+1):=by omega
 have a3:0+((i:Int)+((canon y).length:Int) - 2).toNat=i+m:=by omega
 have b1:0+(((canon y).length:Int) - 1).toNat=m+1:=by omega
 have b2:0+(((canon y).length:Int) - 2).toNat=m:=by omega
 have c1:((i:Int)+((canon y).length:Int)+1).toNat - (i:Int).toNat=m+2+1:=by omega
 have c2:0+(i:Int).toNat=i:=by omega
 simp only [ej,a1,a2,a3,b1,b2,c1,c2,UP]
 have hu1:=zH hdu (i+(m+2))
 have hu2:=zH hdu (i+(m+1))
 have hu3:=zH hdu (i+m)
 have hv1:=zH (zh V) (m+1)
 have hv2:=zH (zh V) m
 iterate 17 refine⟨by omega,fun _=> ?_⟩
 obtain⟨W,hW⟩:∃ W,val ((u.drop i).take (m+2+1))=W:=⟨_,rfl⟩
 have hdw:dig ((u.drop i).take (m+2+1)):=je (ZW hdu _) _
 have hWl:(canon W).length≤m+2+1:=by
  refine zt ?_
  have:=qe hdw
  rw [hW,List.length_take] at this
  exact Nat.lt_of_lt_of_le this (Nat.pow_le_pow_right (by decide) (Nat.min_le_left _ _))
 obtain⟨g1,g2,g3,g4,g5,g6⟩:=zao hdu (by omega) hVl hV2 hlt hW rfl
 refine⟨⟨u.getD (i+(m+2)) 0,u.getD (i+(m+1)) 0,u.getD (i+m) 0,(canon V).getD (m+1) 0,(canon V).getD m 0⟩,⟨by simp,g3,hu2,hu3,hv1,hv2,g2⟩,⟨_,rfl⟩,?_⟩
 intro d hd
 simp only at hd
 rw [← hd] at g4 g5 g6
 clear hd
 have hWVB:W/V<B:=by omega
 have fin:=Vb (x:=x) (y:=y) (s:=s) (V:=V) (U:=U) (O:=O) (w0:=w0) (Q:=Q) (Hs0:=Hs0) hm hx hs0 hsB hV1 hV2 hVl hV0 hul hql hjq hdu hdq heq hlt hW hWVB
 have hdm:=Nat.div_add_mod W V
 have hmlt:=Nat.mod_lt W hV0
 have hul2:i+(m+2+1)≤u.length:=by omega
 have hul3:u.length<100002:=by omega
 clear heq hlt hul hql hjq hdq hx hs0 hsB hV2 g1 g2 g3 hu1 hu2 hu3 hv1 hv2 hj a1 a2 a3 b1 b2
 generalize W/V=qd at *
 generalize W%V=rm at *
 refine⟨by omega,fun _=> ?_⟩
 refine⟨[d],⟨rfl,by omega,by omega,xf _ _,by simpa [dig] using g6⟩,⟨_,rfl⟩,?_⟩
 intro D hD
 have hD:D=d:=by simpa [val] using hD
 subst hD
 have hdl:=zt (x:=D) (n:=1) (by simpa using g6)
 refine⟨(V,D),⟨?_,by simp only [fits]; omega,by simp only [fits]; omega⟩,⟨_,rfl⟩,?_⟩
 ·simp only [eqL,eqA,eqA0,true_and,and_true]
  exact⟨xX (by omega),wq g6⟩
 intro p hp
 simp only at hp ⊢
 have hpl:=xp V D
 rw [← hp] at hpl
 iterate 3 refine⟨by omega,fun _=> ?_⟩
 refine⟨u,⟨rfl,hul2,by omega,za _ _ _,hdw⟩,⟨_,rfl⟩,?_⟩
 intro W' hW'
 have hW':W'=W:=hW'.trans hW
 subst hW'
 refine⟨(W',p),⟨?_,by simp only [fits]; omega,by simp only [fits]; omega⟩,⟨_,rfl⟩,?_⟩
 ·simp only [eqL,eqA,eqA0,true_and,and_true]
  exact⟨jr hdw hW,xX hpl⟩
 rintro c rfl
 refine⟨fun hlt2=> ?_,fun hge2=> ?_⟩
 ·have hlt2:W'<p:=by
   simp only [cmp3,decide_eq_true_eq] at hlt2
   rcases Nat.lt_or_ge W' p with h | h
   ·exact h
   ·rw [if_neg (by omega)] at hlt2; split at hlt2<;>omega
  have hDQ:D=qd+1:=by
   rcases Nat.lt_or_ge qd D with h | h
   ·omega
   ·have:V*D≤V*qd:=Nat.mul_le_mul_left _ h
    omega
  have e3:((D:Int) - 1)=((qd:Nat):Int):=by omega
  simp only [e3]
  have hQl:=zt (x:=qd) (n:=1) (by simpa using hWVB)
  iterate 2 refine⟨by omega,fun _=> ?_⟩
  refine⟨[qd],⟨rfl,by omega,by omega,xf _ _,by simpa [dig] using hWVB⟩,⟨_,rfl⟩,?_⟩
  intro E hE
  have hE:E=qd:=by simpa [val] using hE
  subst hE
  refine⟨(V,E),⟨?_,by simp only [fits]; omega,by simp only [fits]; omega⟩,⟨_,rfl⟩,?_⟩
  ·simp only [eqL,eqA,eqA0,true_and,and_true]
   exact⟨xX (by omega),wq hWVB⟩
  intro p2 hp2
  simp only at hp2 ⊢
  have hp2l:=xp V E
  rw [← hp2] at hp2l
  iterate 3 refine⟨by omega,fun _=> ?_⟩
  refine⟨u,⟨rfl,hul2,by omega,za _ _ _,hdw⟩,⟨_,rfl⟩,?_⟩
  intro W2 hW2
  have hW2:W2=W':=hW2.trans hW
  subst hW2
  refine⟨(W2,p2),⟨?_,by simp only [fits]; omega,by simp only; omega⟩,⟨_,rfl⟩,?_⟩
  ·simp only [eqL,eqA,eqA0,true_and,and_true]
   exact⟨jr hdw hW,xX hp2l⟩
  intro L hL
  simp only at hL ⊢
  have hL:L=rm:=by omega
  subst hL
  refine⟨by omega,fun _=> ?_⟩
  refine fin _ _ ⟨by simp [SC,magS,natS,za,hVl],?_,by kernel_rfl,Nat.zero_le _⟩
  simp [HD,za]
 ·have hge2:p≤W':=by
   simp only [cmp3,decide_eq_false_iff_not] at hge2
   rcases Nat.lt_or_ge W' p with h | h
   ·rw [if_pos h] at hge2; omega
   ·exact h
  have hDQ:D=qd:=by
   rcases Nat.lt_or_ge qd D with h | h
   ·have:V*(qd+1)≤V*D:=Nat.mul_le_mul_left _ h
    rw [Nat.mul_add] at this
    omega
   ·omega
  subst hDQ
  iterate 3 refine⟨by omega,fun _=> ?_⟩
  refine⟨u,⟨rfl,hul2,by omega,za _ _ _,hdw⟩,⟨_,rfl⟩,?_⟩
  intro W2 hW2
  have hW2:W2=W':=hW2.trans hW
  subst hW2
  refine⟨(W2,p),⟨?_,by simp only [fits]; omega,hge2⟩,⟨_,rfl⟩,?_⟩
  ·simp only [eqL,eqA,eqA0,true_and,and_true]
   exact⟨jr hdw hW,xX hpl⟩
  intro L hL
  simp only at hL ⊢
  have hL:L=rm:=by omega
  subst hL
  refine⟨by omega,fun _=> ?_⟩
  refine fin _ _ ⟨by simp [SC,magS,natS,za,hVl],?_,by kernel_rfl,Nat.zero_le _⟩
  simp [HD,za]
set_option maxHeartbeats 4000000 in
theorem Jw:zd Tryz.prog 87 xK:=by
 refine yx (fn:=Tryz.f87) (c:=Tryz.f87.body.getD .skip) rfl rfl rfl fun x y hp O w0 Q hq=> ?_
 replace hq:=hq _ rfl
 obtain⟨hx,hy,hy0⟩:=hp
 simp only at hq
 have hB:B=1000000000:=rfl
 refine zb.run hmix VT [0,1,4,8,9,10,11,12,13,15,151,152] 400 (T:=.ex (fun(x_1:Nat×Nat)=>eqL [AV.sl (canon x).length 1 (natG .u32 (canon x)),AV.sl (canon y).length 1 (natG .u32 (canon y))] [AV.sl (canon x_1.1).length 1 (natG .u32 (canon x_1.1)),AV.sl (canon x_1.2).length 1 (natG .u32 (canon x_1.2))]∧fits x_1.1∧fits x_1.2) fun n=>.all (fun(r:Int)=>r=cmp3 n.1 n.2) fun n=>.ite (decide (n<0)) (.leaf (.ret [.nils,.sl (canon x).length 1 (natG .u32 (canon x))] [])) (.ite (decide ((↑(canon y).length:Int)=1)) (.side ((0:Int)≤0∧(0:Int)<(↑(canon y).length:Int)) (.ex (fun(x_1:Nat×Nat)=>eqL [AV.sl (canon x).length 1 (natG .u32 (canon x)),AV.int .u32 (↑(List.getD (canon y) 0 0):Int)] [AV.sl (canon x_1.1).length 1 (natG .u32 (canon x_1.1)),AV.int .u32 x_1.2]∧fits x_1.1∧0<x_1.2∧x_1.2<1000000000) fun n=>.all (fun(r:Nat×Nat)=>r=(n.1/n.2,n.1%n.2)) fun n=>.ex (fun(u:List Nat)=>u.length=1∧1≤1∧1<4611686018427387904∧eqG 1 1 (zg 1 [AV.int .u32 n.2]) (natG .u32 u)∧dig (List.take 1 (List.drop 0 u))) fun n_1=>.all (fun(x:Nat)=>x=val (List.take 1 (List.drop 0 n_1))) fun n_2=>.leaf (.ret [.sl (canon n.1).length 1 (natG .u32 (canon n.1)),.osl 0 1 0 (canon n_2).length] [.arr 1 1 (zg 1 [.int .u32 n.2])]))) (.side (inR .i64 ((↑(canon y).length:Int) - (1:Int))) (.side ((0:Int)≤(↑(canon y).length:Int) - (1:Int)∧(↑(canon y).length:Int) - (1:Int)<(↑(canon y).length:Int)) (.side (inR .u64 (↑(List.getD (canon y) (Int.toNat ((↑(canon y).length:Int) - (1:Int))) 0):Int)) (.side (inR .u64 ((↑(List.getD (canon y) (Int.toNat ((↑(canon y).length:Int) - (1:Int))) 0):Int)+(1:Int))) (.side ((↑(List.getD (canon y) (Int.toNat ((↑(canon y).length:Int) - (1:Int))) 0):Int)+(1:Int)≠0∧inR .u64 (Int.tdiv (1000000000:Int) ((↑(List.getD (canon y) (Int.toNat ((↑(canon y).length:Int) - (1:Int))) 0):Int)+(1:Int)))) (.side (inR .u32 (Int.tdiv (1000000000:Int) ((↑(List.getD (canon y) (Int.toNat ((↑(canon y).length:Int) - (1:Int))) 0):Int)+(1:Int)))) (.ex (fun(x_1:Nat×Nat)=>eqL [AV.sl (canon x).length 1 (natG .u32 (canon x)),AV.sl 1 1 (zf (zg 1 [AV.int .u32 (Int.tdiv (1000000000:Int) ((↑(List.getD (canon y) (Int.toNat ((↑(canon y).length:Int) - (1:Int))) 0):Int)+(1:Int)))]) 0)] [AV.sl (canon x_1.1).length 1 (natG .u32 (canon x_1.1)),AV.sl (canon x_1.2).length 1 (natG .u32 (canon x_1.2))]∧fits x_1.1∧fits x_1.2) fun n=>.all (fun(p:Nat)=>p=n.1*n.2) fun n_1=>.leaf (.loop (Prod.fst (lps K87 0)) (Prod.snd (lps K87 0)) [(0,.sl (canon x).length 1 (natG .u32 (canon x))),(1,.sl (canon y).length 1 (natG .u32 (canon y))),(4,.nils),(8,.int .u32 (Int.tdiv (1000000000:Int) ((↑(List.getD (canon y) (Int.toNat ((↑(canon y).length:Int) - (1:Int))) 0):Int)+(1:Int)))),(9,.int .i64 (↑(canon y).length:Int)),(10,.osl 1 1 0 (canon n_1).length),(11,.undef),(12,.undef),(13,.undef),(15,.undef),(151,.undef),(152,.undef)] [.arr 1 1 (zg 1 [.int .u32 (Int.tdiv (1000000000:Int) ((↑(List.getD (canon y) (Int.toNat ((↑(canon y).length:Int) - (1:Int))) 0):Int)+(1:Int)))]),.arr (List.length (canon n.1)+List.length (canon n.2)) 1 (natG .u32 (padN (List.length (canon n.1)+List.length (canon n.2)) n_1))])))))))))) (by kernel_rfl) ?_
 simp only [Tree.holds,zc,inR,lo,hi]
 refine⟨(x,y),⟨by simp [za],by simp only [fits]; omega,by simp only [fits]; omega⟩,⟨_,rfl⟩,?_⟩
 rintro c rfl
 have hyl:0<(canon y).length:=jn (n:=0) (by simp; omega)
 refine⟨fun hlt=> ?_,fun hge=>⟨fun h1=>⟨by omega,fun _=> ?_⟩,fun hn=> ?_⟩⟩
 ·have hxy:x<y:=by
   simp only [cmp3,decide_eq_true_eq] at hlt
   rcases Nat.lt_or_ge x y with h | h
   ·exact h
   ·rw [if_neg (by omega)] at hlt; split at hlt<;>omega
  rw [Nat.div_eq_of_lt hxy,Nat.mod_eq_of_lt hxy] at hq
  refine RetR.out0 hq (fun h=>by cases h) ?_
  simp [resV,exp2,exp1,exp0,ren0,eqA2,eqL1,magS,natS,zC,za]
 ·have h1:(canon y).length=1:=by simp at h1; omega
  have hyd:y=(canon y).getD 0 0:=by
   have:=zk y
   obtain⟨a,ha⟩:=List.length_eq_one_iff.1 h1
   rw [ha] at this ⊢
   simp [val] at this ⊢; omega
  have hyB:y<B:=hyd▸zH (zh y) 0
  rw [← hyd]
  refine⟨(x,y),⟨by simp [za],by simp only [fits]; omega,hy0,hyB⟩,⟨_,rfl⟩,?_⟩
  rintro r rfl
  have hm:=Nat.mod_lt x hy0
  have hmB:x%y<B:=by omega
  refine⟨[x%y],⟨rfl,by omega,by omega,xf _ _,by simpa [dig] using hmB⟩,⟨_,rfl⟩,?_⟩
  intro X hX
  have hX:X=x%y:=by simpa [val] using hX
  subst hX
  refine RetR.out0 hq (fun h=>by cases h) ?_
  simp only [resV,exp2,List.map_cons,List.map_nil,exp1,exp0,ren0,zw,frz1,jk,List.getElem?_cons_zero,if_true,eqA2,eqL1,eqA,eqA0,magS,natS,true_and,and_true]
  exact⟨za _ _ _,wq hmB⟩
 ·have hn:2≤(canon y).length:=by simp at hn; omega
  obtain⟨m,hm⟩:∃ m,(canon y).length=m+2:=⟨(canon y).length - 2,by omega⟩
  have e1:((((canon y).length:Nat):Int) - 1).toNat=m+1:=by omega
  have hty:=zH (zh y) (m+1)
  have htop:(canon y).getD (m+1) 0≠0:=by
   have:=qt (canon y) (by rw [qO]; omega)
   rw [qO,hm] at this
   exact this
  have hyv:∃ r,r<B^(m+1)∧y=r+B^(m+1)*(canon y).getD (m+1) 0:=by
   refine⟨val ((canon y).take (m+1)),?_,?_⟩
   ·have:=qe (je (zh y) (m+1))
    rwa [List.length_take,Nat.min_eq_left (by omega)] at this
   ·have:=zn (canon y) (m+1)
    rwa [List.take_of_length_le (by omega),zk] at this
  rw [e1]
  generalize (canon y).getD (m+1) 0=t at hty htop hyv ⊢
  have e2:Int.tdiv 1000000000 ((t:Int)+1)=((B/(t+1):Nat):Int):=by
   have:((t:Int)+1)=((t+1:Nat):Int):=by omega
   rw [this]; rfl
  rw [e2]
  obtain⟨s,hs⟩:∃ s,B/(t+1)=s:=⟨_,rfl⟩
  obtain⟨hs0,hs1,hs2⟩:=zau (by omega) hs.symm hty
  rw [hs]
  have hsB:s<B:=by
   have:s*2≤s*(t+1):=Nat.mul_le_mul_left _ (by omega)
   omega
  obtain⟨r0,hr0,hyr⟩:=hyv
  obtain⟨hV1,hV2⟩:=scaled hr0 hyr hs0 hs1 hs2
  refine⟨by omega,fun _=>⟨by omega,fun _=>⟨by omega,fun _=>⟨by omega,fun _=>⟨by omega,fun _=>⟨by omega,fun _=> ?_⟩⟩⟩⟩⟩⟩
  have hsl:=Qz hs0 hsB
  refine⟨(x,s),⟨?_,by simp only [fits]; omega,by simp only [fits]; omega⟩,⟨_,rfl⟩,?_⟩
  ·simp only [eqL,eqA,eqA0,true_and,and_true]
   refine⟨za _ _ _,hsl.symm,?_⟩
   have:=wq hsB
   rwa [hsl] at this
  intro U hU
  simp only at hU ⊢
  rw [hsl]
  have hxs:U<B^((canon x).length+1):=by
   have h1:=qe (zh x)
   rw [zk] at h1
   rw [hU,Nat.pow_succ]
   exact Nat.mul_lt_mul'' h1 hsB
  have hUl:=zt hxs
  have hcan:(canon x).length+1≥m+2:=by
   rcases Nat.lt_or_ge (canon x).length (m+1) with h | h
   ·exfalso
    have:=zP (x:=x) (y:=y) (by omega)
    simp [cmp3,this] at hge
   ·omega
  have hylx:(canon y).length≤(canon x).length:=by
   rcases Nat.lt_or_ge (canon x).length (canon y).length with h | h
   ·exfalso
    have:=zP h
    simp [cmp3,this] at hge
   ·exact h
  refine zb.loop (ι:=IG x U) (fun i=>SG x y s i.k) (fun i=>[.dead,.arr i.o.length 1 (natG .u32 i.o)]) (fun i=>(canon x).length+1 - i.k)
   ⟨(canon U).length,padN ((canon x).length+1) U,by rw [JG hUl]; exact hUl,by rw [JG hUl]; omega,je (zdl _ _) _,by simp [padN,zk]⟩ 0 ?_ ?_ (by kernel_rfl)
  ·exact⟨by simp [SG,magS,natS,za],by simp [za,JG hUl],by kernel_rfl,Nat.zero_le _⟩
  ·rintro⟨k,o,hko,hol,hdo,hvo⟩
   refine zb.run hmix VT [0,1,4,8,9,10,11,12,13,15,151,152] 400 (T:=.ite (decide ((↑k:Int)≤(↑(canon x).length:Int))) (.side (0=0∧k≤o.length∧(k+1)*4≤140737488355328) (.leaf (.back 0 [(0,.sl (canon x).length 1 (natG .u32 (canon x))),(1,.sl (canon y).length 1 (natG .u32 (canon y))),(4,.nils),(8,.int .u32 s),(9,.int .i64 (↑(canon y).length:Int)),(10,.osl 1 1 0 (k+1)),(11,.undef),(12,.undef),(13,.undef),(15,.undef),(151,.undef),(152,.undef)] [.dead,.arr (k+1) 1 (appG k (natG .u32 o) (zf (zg 1 [.int .u32 0]) 0)),.arr 1 1 (zg 1 [.int .u32 0])]))) (.ex (fun(x:Nat×Nat)=>eqL [AV.sl (canon y).length 1 (natG .u32 (canon y)),AV.sl 1 1 (zf (zg 1 [AV.int .u32 s]) 0)] [AV.sl (canon x.1).length 1 (natG .u32 (canon x.1)),AV.sl (canon x.2).length 1 (natG .u32 (canon x.2))]∧fits x.1∧fits x.2) fun n=>.all (fun(p:Nat)=>p=n.1*n.2) fun n_1=>.side (inR .i64 ((↑k:Int) - (↑(canon y).length:Int))) (.side ((0:Int)≤k - (↑(canon y).length:Int)∧(↑k:Int) - (↑(canon y).length:Int)≤k - (↑(canon y).length:Int)∧inR .i64 ((↑k:Int) - (↑(canon y).length:Int))∧Int.toNat ((↑k:Int) - (↑(canon y).length:Int))*4≤140737488355328) (.side (inR .i64 ((↑k:Int) - (↑(canon y).length:Int))) (.side (inR .i64 ((↑k:Int) - (↑(canon y).length:Int) - (1:Int))) (.leaf (.loop (Prod.fst (lps (inside K87 0) 0)) (Prod.snd (lps (inside K87 0) 0)) [(0,.sl (canon x).length 1 (natG .u32 (canon x))),(1,.sl (canon y).length 1 (natG .u32 (canon y))),(4,.osl 4 1 0 (Int.toNat ((↑k:Int) - (↑(canon y).length:Int)))),(8,.int .u32 s),(9,.int .i64 (↑(canon y).length:Int)),(10,.osl 1 1 0 k),(11,.osl 3 1 0 (canon n_1).length),(12,.int .i64 ((↑k:Int) - (↑(canon y).length:Int) - (1:Int))),(13,.undef),(15,.undef),(151,.undef),(152,.undef)] [.dead,.arr o.length 1 (natG .u32 o),.arr 1 1 (zg 1 [.int .u32 s]),.arr (List.length (canon n.1)+List.length (canon n.2)) 1 (natG .u32 (padN (List.length (canon n.1)+List.length (canon n.2)) n_1)),.arr (Int.toNat ((↑k:Int) - (↑(canon y).length:Int))) 1 (kT [.int .u32 0])]))))))) (by kernel_rfl) ?_
   simp only [Tree.holds,zc,inR,lo,hi]
   refine⟨fun hk=> ?_,fun hk=> ?_⟩
   ·have hk:k≤(canon x).length:=by simp at hk; omega
    refine⟨⟨trivial,hko,by omega⟩,fun _=> ?_⟩
    rw [if_pos trivial]
    have hkl:(o.take k).length=k:=by rw [List.length_take]; omega
    refine⟨⟨k+1,o.take k++[0],by simp [hkl],by simp [hkl]; omega,?_,?_⟩,by show _ - (k+1)<_ - k; omega,by simp [SG,magS,natS,za],?_,by kernel_rfl,Nat.zero_le _⟩
    ·rw [List.take_of_length_le (by simp [hkl])]; exact qL.2 ⟨hdo,by simp [dig]⟩
    ·rw [List.take_of_length_le (by simp [hkl]),zD]; simp [val,hvo]
    ·refine⟨trivial,⟨by simp [hkl],rfl,?_⟩,trivial⟩
     intro j o' hj ho'
     have:o'=0:=by omega
     subst this
     simp only [appG,zf,zg,natG]
     by_cases h:j<k
     ·rw [if_pos h]
      simp only [List.getD]
      rw [List.getElem?_append_left (by omega),List.getElem?_take,if_pos h]
     ·have:j=k:=by omega
      subst this
      rw [if_neg h]
      simp [List.getElem?_append_right,hkl]
   ·have hk:k=(canon x).length+1:=by simp at hk; omega
    have hok:o.length=(canon x).length+1:=by omega
    rw [List.take_of_length_le (by omega)] at hdo hvo
    refine⟨(y,s),⟨?_,by simp only [fits]; omega,by simp only [fits]; omega⟩,⟨_,rfl⟩,?_⟩
    ·simp only [eqL,eqA,eqA0,true_and,and_true]
     refine⟨za _ _ _,hsl.symm,?_⟩
     have:=wq hsB
     rwa [hsl] at this
    intro V hV
    simp only at hV ⊢
    rw [hsl]
    rw [← hV] at hV1 hV2
    have hVl:(canon V).length=m+2:=by
     have h1:=zt hV1
     have h2:B^(m+1)≤V:=by
      have:B^(m+1+1)=B^(m+1)*B:=Nat.pow_succ ..
      rw [this] at hV2
      have:B^(m+1)*2≤B^(m+1)*B:=Nat.mul_le_mul_left _ (by decide)
      omega
     have:=jn h2
     omega
    have hV0:0<V:=by
     rcases Nat.eq_zero_or_pos V with h | h
     ·rw [h,zC] at hVl; simp at hVl
     ·exact h
    have eq0:((k:Int) - ((canon y).length:Int)).toNat=k - (canon y).length:=by omega
    rw [eq0]
    refine⟨by omega,fun _=>⟨by omega,fun _=>⟨by omega,fun _=>⟨by omega,fun _=> ?_⟩⟩⟩⟩
    have hqe:U/V=x/y∧U%V=x%y*s:=by
     rw [hU,hV]
     exact⟨Nat.mul_div_mul_right _ _ hs0,Nat.mul_mod_mul_right _ _ _⟩
    refine zb.loop (ι:=ID x y V U) (fun i=>SD y s V i.u.length i.q.length i.j) (fun i=>HD y V i.u i.q) (fun i=>i.j)
     ⟨o,List.replicate (k - (canon y).length) 0,k - (canon y).length,hok,by simp; omega,by simp,hdo,qE _,by simp [val,hvo],?_⟩ 0 ?_ ?_ (by kernel_rfl)
    ·rw [hvo]
     have h1:U*2≤x*B:=by
      rw [hU,Nat.mul_assoc]
      refine Nat.mul_le_mul_left _ ?_
      have:s*2≤s*(t+1):=Nat.mul_le_mul_left _ (by omega)
      omega
     have h2:x<B^(canon x).length:=by have:=qe (zh x); rwa [zk] at this
     have h3:B^(m+1+1)*B^(k - (canon y).length)≤2*V*B^(k - (canon y).length):=Nat.mul_le_mul_right _ hV2
     rw [← Nat.pow_add,show m+1+1+(k - (canon y).length)=(canon x).length+1 by omega,Nat.pow_succ] at h3
     have h4:x*B<B^(canon x).length*B:=Nat.mul_lt_mul_of_pos_right h2 (by decide)
     rw [Nat.mul_assoc] at h3
     omega
    ·refine⟨?_,?_,by kernel_rfl,Nat.zero_le _⟩
     ·simp [SD,hVl,hm,hok,hk,za]; omega
     ·simp [HD,za,yL]
    ·rintro⟨u,q,j,hul,hql,hjq,hdu,hdq,heq,hlt⟩
     rcases j with _ | i
     ·refine zb.run hmix VT [0,1,4,8,9,10,11,12,13,15,151,152] 400 (T:=.ite false (.side (inR .i64 ((-1:Int)+(↑(canon y).length:Int))) (.side ((0:Int)≤(-1:Int)+(↑(canon y).length:Int)∧(-1:Int)+(↑(canon y).length:Int)<u.length) (.side (inR .u64 (↑(u.getD (0+Int.toNat ((-1:Int)+(↑(canon y).length:Int))) 0):Int)) (.side (inR .i64 ((-1:Int)+(↑(canon y).length:Int))) (.side (inR .i64 ((-1:Int)+(↑(canon y).length:Int) - (1:Int))) (.side ((0:Int)≤(-1:Int)+(↑(canon y).length:Int) - (1:Int)∧(-1:Int)+(↑(canon y).length:Int) - (1:Int)<u.length) (.side (inR .u64 (↑(u.getD (0+Int.toNat ((-1:Int)+(↑(canon y).length:Int) - (1:Int))) 0):Int)) (.side (inR .i64 ((-1:Int)+(↑(canon y).length:Int))) (.side (inR .i64 ((-1:Int)+(↑(canon y).length:Int) - (2:Int))) (.side ((0:Int)≤(-1:Int)+(↑(canon y).length:Int) - (2:Int)∧(-1:Int)+(↑(canon y).length:Int) - (2:Int)<u.length) (.side (inR .u64 (↑(u.getD (0+Int.toNat ((-1:Int)+(↑(canon y).length:Int) - (2:Int))) 0):Int)) (.side (inR .i64 ((↑(canon y).length:Int) - (1:Int))) (.side ((0:Int)≤(↑(canon y).length:Int) - (1:Int)∧(↑(canon y).length:Int) - (1:Int)<(↑(canon V).length:Int)) (.side (inR .u64 (↑(List.getD (padN (List.length (canon y)+1) V) (0+Int.toNat ((↑(canon y).length:Int) - (1:Int))) 0):Int)) (.side (inR .i64 ((↑(canon y).length:Int) - (2:Int))) (.side ((0:Int)≤(↑(canon y).length:Int) - (2:Int)∧(↑(canon y).length:Int) - (2:Int)<(↑(canon V).length:Int)) (.side (inR .u64 (↑(List.getD (padN (List.length (canon y)+1) V) (0+Int.toNat ((↑(canon y).length:Int) - (2:Int))) 0):Int)) (.ex (fun(x:D5)=>eqL [AV.int .u64 (↑(u.getD (0+Int.toNat ((-1:Int)+(↑(canon y).length:Int))) 0):Int),AV.int .u64 (↑(u.getD (0+Int.toNat ((-1:Int)+(↑(canon y).length:Int) - (1:Int))) 0):Int),AV.int .u64 (↑(u.getD (0+Int.toNat ((-1:Int)+(↑(canon y).length:Int) - (2:Int))) 0):Int),AV.int .u64 (↑(List.getD (padN (List.length (canon y)+1) V) (0+Int.toNat ((↑(canon y).length:Int) - (1:Int))) 0):Int),AV.int .u64 (↑(List.getD (padN (List.length (canon y)+1) V) (0+Int.toNat ((↑(canon y).length:Int) - (2:Int))) 0):Int)] [AV.int .u64 (↑(D5.t x):Int),AV.int .u64 (↑(D5.u x):Int),AV.int .u64 (↑(D5.v x):Int),AV.int .u64 (↑(D5.y x):Int),AV.int .u64 (↑(D5.z x):Int)]∧D5.t x≤D5.y x∧D5.u x<1000000000∧D5.v x<1000000000∧D5.y x<1000000000∧D5.z x<1000000000∧1000000000≤2*D5.y x) fun n=>.all (fun(n_1:Nat)=>n_1=qH (D5.v n) (D5.y n) (D5.z n) 2 ((D5.t n*1000000000+D5.u n)/D5.y n) ((D5.t n*1000000000+D5.u n)%D5.y n)) fun n=>.side (inR .u32 (↑n:Int)) (.ex (fun(u:List Nat)=>u.length=1∧1≤1∧1<4611686018427387904∧eqG 1 1 (zg 1 [AV.int .u32 n]) (natG .u32 u)∧dig (List.take 1 (List.drop 0 u))) fun n_1=>.all (fun(x:Nat)=>x=val (List.take 1 (List.drop 0 n_1))) fun n_2=>.ex (fun(x:Nat×Nat)=>eqL [AV.sl (canon V).length 1 (zf (natG .u32 (padN (List.length (canon y)+1) V)) 0),AV.sl (canon n_2).length 1 (zf (zg 1 [AV.int .u32 n]) 0)] [AV.sl (canon x.1).length 1 (natG .u32 (canon x.1)),AV.sl (canon x.2).length 1 (natG .u32 (canon x.2))]∧fits x.1∧fits x.2) fun n_3=>.all (fun(p:Nat)=>p=n_3.1*n_3.2) fun n_4=>.side (inR .i64 ((-1:Int)+(↑(canon y).length:Int))) (.side (inR .i64 ((-1:Int)+(↑(canon y).length:Int)+(1:Int))) (.side ((0:Int)≤(-1:Int)∧(-1:Int)≤(-1:Int)+(↑(canon y).length:Int)+(1:Int)∧(-1:Int)+(↑(canon y).length:Int)+(1:Int)≤u.length) (.ex (fun(u_1:List Nat)=>u_1.length=u.length∧0+(Int.toNat ((-1:Int)+(↑(canon y).length:Int)+(1:Int)) - 0)≤u.length∧Int.toNat ((-1:Int)+(↑(canon y).length:Int)+(1:Int)) - 0<4611686018427387904∧eqG u.length 1 (natG .u32 u) (natG .u32 u_1)∧dig (List.take (Int.toNat ((-1:Int)+(↑(canon y).length:Int)+(1:Int)) - 0) (List.drop 0 u_1))) fun n_5=>.all (fun(x:Nat)=>x=val (List.take (Int.toNat ((-1:Int)+(↑(canon y).length:Int)+(1:Int)) - 0) (List.drop 0 n_5))) fun n_6=>.ex (fun(x:Nat×Nat)=>eqL [AV.sl (canon n_6).length 1 (zf (natG .u32 u) 0),AV.sl (canon n_4).length 1 (zf (natG .u32 (padN (List.length (canon n_3.1)+List.length (canon n_3.2)) n_4)) 0)] [AV.sl (canon x.1).length 1 (natG .u32 (canon x.1)),AV.sl (canon x.2).length 1 (natG .u32 (canon x.2))]∧fits x.1∧fits x.2) fun n_7=>.all (fun(r:Int)=>r=cmp3 n_7.1 n_7.2) fun n_8=>.ite (decide (n_8<0)) (.side (inR .u64 ((↑n:Int) - (1:Int))) (.side (inR .u32 ((↑n:Int) - (1:Int))) (.ex (fun(u:List Nat)=>u.length=1∧1≤1∧1<4611686018427387904∧eqG 1 1 (zg 1 [AV.int .u32 ((↑n:Int) - (1:Int))]) (natG .u32 u)∧dig (List.take 1 (List.drop 0 u))) fun n_9=>.all (fun(x:Nat)=>x=val (List.take 1 (List.drop 0 n_9))) fun n_10=>.ex (fun(x:Nat×Nat)=>eqL [AV.sl (canon V).length 1 (zf (natG .u32 (padN (List.length (canon y)+1) V)) 0),AV.sl (canon n_10).length 1 (zf (zg 1 [AV.int .u32 ((↑n:Int) - (1:Int))]) 0)] [AV.sl (canon x.1).length 1 (natG .u32 (canon x.1)),AV.sl (canon x.2).length 1 (natG .u32 (canon x.2))]∧fits x.1∧fits x.2) fun n_11=>.all (fun(p:Nat)=>p=n_11.1*n_11.2) fun n_12=>.side (inR .i64 ((-1:Int)+(↑(canon y).length:Int))) (.side (inR .i64 ((-1:Int)+(↑(canon y).length:Int)+(1:Int))) (.side ((0:Int)≤(-1:Int)∧(-1:Int)≤(-1:Int)+(↑(canon y).length:Int)+(1:Int)∧(-1:Int)+(↑(canon y).length:Int)+(1:Int)≤u.length) (.ex (fun(u_1:List Nat)=>u_1.length=u.length∧0+(Int.toNat ((-1:Int)+(↑(canon y).length:Int)+(1:Int)) - 0)≤u.length∧Int.toNat ((-1:Int)+(↑(canon y).length:Int)+(1:Int)) - 0<4611686018427387904∧eqG u.length 1 (natG .u32 u) (natG .u32 u_1)∧dig (List.take (Int.toNat ((-1:Int)+(↑(canon y).length:Int)+(1:Int)) - 0) (List.drop 0 u_1))) fun n_13=>.all (fun(x:Nat)=>x=val (List.take (Int.toNat ((-1:Int)+(↑(canon y).length:Int)+(1:Int)) - 0) (List.drop 0 n_13))) fun n_14=>.ex (fun(x:Nat×Nat)=>eqL [AV.sl (canon n_14).length 1 (zf (natG .u32 u) 0),AV.sl (canon n_12).length 1 (zf (natG .u32 (padN (List.length (canon n_11.1)+List.length (canon n_11.2)) n_12)) 0)] [AV.sl (canon x.1).length 1 (natG .u32 (canon x.1)),AV.sl (canon x.2).length 1 (natG .u32 (canon x.2))]∧fits x.1∧x.2≤x.1) fun n_15=>.all (fun(d:Nat)=>d=n_15.1 - n_15.2) fun n_16=>.side (inR .i64 ((↑(canon y).length:Int)+(1:Int))) (.leaf (.loop (Prod.fst (lps (inside (inside K87 0) 0) 0)) (Prod.snd (lps (inside (inside K87 0) 0) 0)) [(0,.undef),(1,.undef),(4,.osl 4 1 0 q.length),(8,.int .u32 s),(9,.int .i64 (↑(canon y).length:Int)),(10,.osl 1 1 0 u.length),(11,.osl 3 1 0 (canon V).length),(12,.int .i64 (-1:Int)),(13,.int .u64 ((↑n:Int) - (1:Int))),(15,.sl (canon n_16).length 1 (natG .u32 (canon n_16))),(151,.int .i64 ((↑(canon y).length:Int)+(1:Int))),(152,.int .i64 0)] [.dead,.arr u.length 1 (natG .u32 u),.dead,.arr (List.length (canon y)+1) 1 (natG .u32 (padN (List.length (canon y)+1) V)),.arr q.length 1 (natG .u32 q),.arr 1 1 (zg 1 [.int .u32 n]),.arr (List.length (canon n_3.1)+List.length (canon n_3.2)) 1 (natG .u32 (padN (List.length (canon n_3.1)+List.length (canon n_3.2)) n_4)),.arr 1 1 (zg 1 [.int .u32 ((↑n:Int) - (1:Int))]),.arr (List.length (canon n_11.1)+List.length (canon n_11.2)) 1 (natG .u32 (padN (List.length (canon n_11.1)+List.length (canon n_11.2)) n_12))])))))))) (.side (inR .i64 ((-1:Int)+(↑(canon y).length:Int))) (.side (inR .i64 ((-1:Int)+(↑(canon y).length:Int)+(1:Int))) (.side ((0:Int)≤(-1:Int)∧(-1:Int)≤(-1:Int)+(↑(canon y).length:Int)+(1:Int)∧(-1:Int)+(↑(canon y).length:Int)+(1:Int)≤u.length) (.ex (fun(u_1:List Nat)=>u_1.length=u.length∧0+(Int.toNat ((-1:Int)+(↑(canon y).length:Int)+(1:Int)) - 0)≤u.length∧Int.toNat ((-1:Int)+(↑(canon y).length:Int)+(1:Int)) - 0<4611686018427387904∧eqG u.length 1 (natG .u32 u) (natG .u32 u_1)∧dig (List.take (Int.toNat ((-1:Int)+(↑(canon y).length:Int)+(1:Int)) - 0) (List.drop 0 u_1))) fun n_9=>.all (fun(x:Nat)=>x=val (List.take (Int.toNat ((-1:Int)+(↑(canon y).length:Int)+(1:Int)) - 0) (List.drop 0 n_9))) fun n_10=>.ex (fun(x:Nat×Nat)=>eqL [AV.sl (canon n_10).length 1 (zf (natG .u32 u) 0),AV.sl (canon n_4).length 1 (zf (natG .u32 (padN (List.length (canon n_3.1)+List.length (canon n_3.2)) n_4)) 0)] [AV.sl (canon x.1).length 1 (natG .u32 (canon x.1)),AV.sl (canon x.2).length 1 (natG .u32 (canon x.2))]∧fits x.1∧x.2≤x.1) fun n_11=>.all (fun(d:Nat)=>d=n_11.1 - n_11.2) fun n_12=>.side (inR .i64 ((↑(canon y).length:Int)+(1:Int))) (.leaf (.loop (Prod.fst (lps (inside (inside K87 0) 0) 0)) (Prod.snd (lps (inside (inside K87 0) 0) 0)) [(0,.undef),(1,.undef),(4,.osl 4 1 0 q.length),(8,.int .u32 s),(9,.int .i64 (↑(canon y).length:Int)),(10,.osl 1 1 0 u.length),(11,.osl 3 1 0 (canon V).length),(12,.int .i64 (-1:Int)),(13,.int .u64 n),(15,.sl (canon n_12).length 1 (natG .u32 (canon n_12))),(151,.int .i64 ((↑(canon y).length:Int)+(1:Int))),(152,.int .i64 0)] [.dead,.arr u.length 1 (natG .u32 u),.dead,.arr (List.length (canon y)+1) 1 (natG .u32 (padN (List.length (canon y)+1) V)),.arr q.length 1 (natG .u32 q),.arr 1 1 (zg 1 [.int .u32 n]),.arr (List.length (canon n_3.1)+List.length (canon n_3.2)) 1 (natG .u32 (padN (List.length (canon n_3.1)+List.length (canon n_3.2)) n_4))])))))))))))))))))))))))))))) (.ex (fun(u_1:List Nat)=>u_1.length=u.length∧0+u.length≤u.length∧u.length<4611686018427387904∧eqG u.length 1 (natG .u32 u) (natG .u32 u_1)∧dig (List.take u.length (List.drop 0 u_1))) fun n=>.all (fun(x:Nat)=>x=val (List.take u.length (List.drop 0 n))) fun n=>.ex (fun(x:Nat×Nat)=>eqL [AV.sl (canon n).length 1 (zf (natG .u32 u) 0),AV.int .u32 s] [AV.sl (canon x.1).length 1 (natG .u32 (canon x.1)),AV.int .u32 x.2]∧fits x.1∧0<x.2∧x.2<1000000000) fun n=>.all (fun(r:Nat×Nat)=>r=(n.1/n.2,n.1%n.2)) fun n=>.ex (fun(u:List Nat)=>u.length=q.length∧0+q.length≤q.length∧q.length<4611686018427387904∧eqG q.length 1 (natG .u32 q) (natG .u32 u)∧dig (List.take q.length (List.drop 0 u))) fun n_1=>.all (fun(x:Nat)=>x=val (List.take q.length (List.drop 0 n_1))) fun n_2=>.leaf (.ret [.osl 4 1 0 (canon n_2).length,.sl (canon n.1).length 1 (natG .u32 (canon n.1))] [.dead,.arr u.length 1 (natG .u32 u),.dead,.arr (List.length (canon y)+1) 1 (natG .u32 (padN (List.length (canon y)+1) V)),.arr q.length 1 (natG .u32 q)]))) (by kernel_rfl) ?_
      simp only [Tree.holds,zc,inR,lo,hi]
      refine⟨fun hj=>by simp at hj,fun hj=> ?_⟩
      simp only [List.drop_zero,Nat.pow_zero,Nat.mul_one] at heq hlt
      have hdiv:U/V=val q∧U%V=val u:=by
       rw [heq]
       exact⟨by rw [Nat.mul_add_div hV0,Nat.div_eq_of_lt hlt,Nat.add_zero],by rw [Nat.mul_add_mod,Nat.mod_eq_of_lt hlt]⟩
      have hqv:val q=x/y:=by rw [← hdiv.1,hqe.1]
      have huv:val u=x%y*s:=by rw [← hdiv.2,hqe.2]
      refine⟨u,⟨rfl,by omega,by omega,za _ _ _,by simpa using hdu⟩,⟨_,rfl⟩,?_⟩
      intro X hX
      have hX:X=x%y*s:=by simpa [huv] using hX
      have hw:val ((u.drop 0).take u.length)=X:=by simp [huv,hX]
      have hXl:=jr (k:=.u32) (u:=u) (off:=0) (n:=u.length) (by simpa using hdu) hw
      have hmy:=Nat.mod_lt x hy0
      have hXlen:(canon X).length≤u.length:=by
       refine zt ?_
       rw [hX,← huv]; exact qe hdu
      refine⟨(X,s),⟨?_,by simp only [fits]; omega,hs0,hsB⟩,⟨_,rfl⟩,?_⟩
      ·simp only [eqL,eqA,eqA0,true_and,and_true]
       exact hXl
      rintro r rfl
      have hXs:X/s=x%y:=by rw [hX]; exact Nat.mul_div_cancel _ hs0
      simp only [hXs]
      refine⟨q,⟨rfl,by omega,by omega,za _ _ _,by simpa using hdq⟩,⟨_,rfl⟩,?_⟩
      intro Y hY
      have hY:Y=x/y:=by simpa [hqv] using hY
      subst hY
      refine RetR.out0 hq (fun h=>by cases h) ?_
      have hw2:val ((q.drop 0).take q.length)=x/y:=by simp [hqv]
      simp only [resV,exp2,List.map_cons,List.map_nil,exp1,exp0,ren0,zw,frz1,jk,List.getElem?_cons_zero,List.getElem?_cons_succ,if_true,eqA2,eqL1,eqA,eqA0,magS,natS,true_and,and_true]
      exact⟨jr (by simpa using hdq) hw2,za _ _ _⟩
     ·exact We hm hx hs0 hsB hV1 hV2 hVl hV0 hul hql hjq hdu hdq heq hlt
noncomputable def K90:List Go.Sx.Item:=[.code (Tryz.f90.body.getD .skip)]
def Yh:Ctr:=ctrT false false (fun s:List UInt8=>[.str s]) (fun _=>[]) (fun _=>True) (fun _ (_:Unit)=>True) (fun s _=>(.fn 105 [] [.ptr 0 0],[.box [.str s]]))
theorem Ut:zd Tryz.prog 103 Yh:=by
 refine jl (fn:=Tryz.f103) (c:=Tryz.f103.body.getD .skip) rfl rfl rfl (fun h=>by cases h) fun s hp O w0 σ0 Q hl hq=> ?_
 have h0:σ0=[]:=List.length_eq_zero_iff.1 (by simpa using hl)
 subst h0
 refine zb.run hmix z7 [0] 400 (T:=.leaf (.ret [.fn 105 [] [.ptr 0 0]] [.box [.str s]])) (by kernel_rfl) ?_
 simp only [Tree.holds,zc]
 exact RetR.out1 0 (by simp) (hq () trivial) (fun h=>by cases h) (by simp [resV,exp2,exp1,exp0,zw,ren0,eqA2]) (by simp [expB,exp1,exp0,ren0])
noncomputable def G3:Nat→Option Ctr:=fun f=>if f=103 then some (Yh) else if f=92 then some (uh) else none
theorem QZ:∀ g c,G3 g=some c→zd Tryz.prog g c:=okIf Ut (okIf JI (zq))
def KR:KV:=[(2,.ptr 0 0),(3,.ptr 1 0),(5,.undef),(6,.undef),(16,.fn 105 [] [.ptr 2 0]),(17,.undef),(19,.undef),(20,.undef)]
def HR(neg:Bool)(b:List UInt8):List Nat→Heap
 | []=>[.box [.bool false,.nils],.box [.bool neg,.nils],.box [.str b]]
 | d::o=>[.box [.bool false,.nils],.box [.bool neg,.osl 4 1 0 (o.length+1)],.box [.str b],.arr 1 1 (natG .u32 [d]),.arr (o.length+1) 1 (natG .u32 (d::o))]
theorem KH(s:ByteArray):∀ e,e≤s.size→val ((chunks s e).map decB)=numD (s.data.toList.take e):=by
 intro e
 induction e using Nat.strongRecOn with
 | _ e ih=>
  intro he
  rcases Nat.eq_zero_or_pos e with h | h
  ·subst h; simp [vA,val,numD]
  ·rw [vp s h,List.map_cons,val,ih (e - 9) (by omega) (by omega)]
   have hl:s.data.toList.length=s.size:=by rw [Array.length_toList]; rfl
   have h1:s.data.toList.take e=s.data.toList.take (e - 9)++(s.data.toList.take e).drop (e - 9):=by
    conv=>lhs; rw [← List.take_append_drop (e - 9) (s.data.toList.take e)]
    rw [List.take_take,Nat.min_eq_left (by omega)]
   rw [h1,v7,decB,xY,Nat.add_comm,Nat.mul_comm]
   congr 1
   rcases Nat.lt_or_ge e 9 with h9 | h9
   ·rw [show e - 9=0 by omega]; simp [numD]
   ·congr 1
    have:((s.data.toList.take e).drop (e - 9)).length=9:=by simp; omega
    rw [this]
theorem Xz(s:ByteArray)(hd:allD s.data.toList):∀ e,e≤s.size→∀ x∈chunks s e,x.size≤9∧allD x.data.toList:=by
 intro e
 induction e using Nat.strongRecOn with
 | _ e ih=>
  intro he x hx
  rcases Nat.eq_zero_or_pos e with h | h
  ·subst h; simp [vA] at hx
  ·rw [vp s h] at hx
   rcases List.mem_cons.1 hx with rfl | hx
   ·refine⟨by rw [ByteArray.size_extract]; omega,?_⟩
    rw [xY]
    intro c hc
    exact hd c (List.mem_of_mem_take (List.mem_of_mem_drop hc))
   ·exact ih (e - 9) (by omega) (by omega) x hx
theorem Zq(s:ByteArray):∀ e,(chunks s e).length≤e:=by
 intro e
 induction e using Nat.strongRecOn with
 | _ e ih=>
  rcases Nat.eq_zero_or_pos e with h | h
  ·subst h; simp [vA]
  ·rw [vp s h,List.length_cons]
   have:=ih (e - 9) (by omega)
   omega
abbrev Grp:Type:={x:ByteArray // x.size≤9∧allD x.data.toList}
def zah:Ctr:=ctrP false (fun p:Bool×List UInt8=>[.str (sgn p.1 p.2)]) (fun p=>allD p.2∧p.2≠[]∧p.2.length≤1000000) (fun p r=>r=numD p.2) (fun p r=>(.agg [.bool p.1,magS r],[]))
def SR(x:List UInt8)(v i:Nat):KV:=[(2,.ptr 0 0),(3,.ptr 1 0),(5,.str x),(6,.int .u32 (v:Int)),(16,.undef),(17,.undef),(19,.int .i64 (x.length:Int)),(20,.int .i64 (i:Int))]
theorem U2{O:Nat→Prop}{W:World}{σ1:List SE}(l:Nat)(neg:Bool)(b:List UInt8)(o:List Nat)(ho:o.length≤1000000)(y:List UInt8)(hxd:allD y)(hx9:y.length≤9)(X:Prop)(Hx:Heap) :
  wV (some l) Tryz.prog (bare Tryz.f90) O 3 W σ1 (fun d kv' h'=>LeK 3 Tryz.f90.ntmps [] h' [] (HR neg b (o++[numD y]))) (fun _ h'=>X∧LeK 3 Tryz.f90.ntmps [] h' [] Hx) (.code (.loop (lps (roundOf K90 0) 0).1)::(lps (roundOf K90 0) 0).2)
   (mk Tryz.f90.ntmps [(2,.ptr 0 0),(3,.ptr 1 0),(5,.str y),(6,.int .u32 0),(16,.fn 105 [] [.ptr 2 0]),(17,.str y),(19,.int .i64 (y.length:Int)),(20,.int .i64 0)] (HR neg b o)):=by
 refine zb.loop (ι:={i:Nat // i≤y.length}) (fun i=>SR y (numD (y.take i.1)) i.1) (fun _=>HR neg b o) (fun i=>y.length - i.1) ⟨0,Nat.zero_le _⟩ 1 ?_ ?_ (by kernel_rfl)
 ·refine⟨by simp [SR,numD],?_,?_,?_⟩
  ·cases o<;>simp [HR,za]
  ·cases o<;>kernel_rfl
  ·cases o<;>simp [HR]
 ·rintro⟨i,hil⟩
  have hbound:numD (y.take i)<1000000000:=by
   have h1:=ym (l:=y.take i) fun c hc=>hxd c (List.mem_of_mem_take hc)
   have h2:10^(y.take i).length≤10^9:=Nat.pow_le_pow_right (by decide) (by rw [List.length_take]; omega)
   have h4:(10:Nat)^9=1000000000:=by decide
   omega
  have hnext:∀ h:i<y.length,numD (y.take (i+1))=numD (y.take i)*10+((y.getD i 0).toNat - 48):=by
   intro h; rw [Ke y i h,YZ]
  have hdig:i<y.length→48≤(y.getD i 0).toNat∧(y.getD i 0).toNat≤57:=by
   intro h
   have:=hxd (y.getD i 0) (by simp [List.getD,h])
   exact this
  have hnb:i<y.length→numD (y.take (i+1))<1000000000:=by
   intro h
   have h1:=ym (l:=y.take (i+1)) fun c hc=>hxd c (List.mem_of_mem_take hc)
   have h2:10^(y.take (i+1)).length≤10^9:=Nat.pow_le_pow_right (by decide) (by rw [List.length_take]; omega)
   have h4:(10:Nat)^9=1000000000:=by decide
   omega
  obtain⟨v,hv⟩:∃ v,numD (y.take i)=v:=⟨_,rfl⟩
  simp only [hv] at hbound hnext ⊢
  have ei:((i:Int)+1)=((i+1:Nat):Int):=by omega
  cases o with
  | nil=>
   refine zb.run hmix QZ [2,3,5,6,16,17,19,20] 400 (T:=.ite (decide ((↑i:Int)<y.length)) (.side (inR .u32 ((↑v:Int)*(10:Int))) (.side ((0:Int)≤i∧(↑i:Int)<y.length) (.side (inR .u8 ((↑(UInt8.toNat (y.getD (↑i:Int).toNat (0:UInt8))):Int) - (48:Int))) (.side (inR .u32 ((↑(UInt8.toNat (y.getD (↑i:Int).toNat (0:UInt8))):Int) - (48:Int))) (.side (inR .u32 ((↑v:Int)*(10:Int)+((↑(UInt8.toNat (y.getD (↑i:Int).toNat (0:UInt8))):Int) - (48:Int)))) (.side (inR .i64 ((↑i:Int)+(1:Int))) (.leaf (.back 1 [(2,.ptr 0 0),(3,.ptr 1 0),(5,.str y),(6,.int .u32 ((↑v:Int)*(10:Int)+((↑(UInt8.toNat (y.getD (↑i:Int).toNat (0:UInt8))):Int) - (48:Int)))),(16,.undef),(17,.undef),(19,.int .i64 y.length),(20,.int .i64 ((↑i:Int)+(1:Int)))] [.box [.bool false,.nils],.box [.bool neg,.nils],.box [.str b]])))))))) (.side (4≤140737488355328) (.leaf (.back 0 [(2,.ptr 0 0),(3,.ptr 1 0),(5,.str y),(6,.int .u32 v),(16,.undef),(17,.undef),(19,.int .i64 y.length),(20,.int .i64 i)] [.box [.bool false,.nils],.box [.bool neg,.osl 4 1 0 1],.box [.str b],.arr 1 1 (zg 1 [.int .u32 v]),.arr 1 1 (zf (zg 1 [.int .u32 v]) 0)])))) (by kernel_rfl) ?_
   simp only [Tree.holds,zc,inR,lo,hi,Int.toNat_natCast,ei]
   refine⟨fun hlt=> ?_,fun hge=> ?_⟩
   ·have hlt:i<y.length:=by simp at hlt; omega
    have h1:=hdig hlt
    have h2:=hnb hlt
    have h3:=hnext hlt
    generalize (y.getD i 0).toNat=c at h1 h3 ⊢
    iterate 6 refine⟨by omega,fun _=> ?_⟩
    rw [if_pos trivial]
    refine⟨⟨i+1,hlt⟩,by show y.length - (i+1)<y.length - i; omega,?_,by simp [HR],by kernel_rfl,by simp [HR]⟩
    simp [SR,h3]; omega
   ·have hge:i=y.length:=by simp at hge; omega
    subst hge
    rw [List.take_length] at hv
    refine⟨by omega,fun _=> ?_⟩
    rw [if_neg (by decide),hv]
    refine⟨by simp,?_,by kernel_rfl,by simp [HR]⟩
    simp only [List.nil_append,HR]
    refine⟨by simp,by simp,by simp,⟨rfl,rfl,xf _ _⟩,⟨rfl,rfl,?_⟩,trivial⟩
    exact fun j o hj ho=>by simpa [zf] using xf .u32 v j o hj ho
  | cons d o=>
   refine zb.run hmix QZ [2,3,5,6,16,17,19,20] 400 (T:=.ite (decide ((↑i:Int)<y.length)) (.side (inR .u32 ((↑v:Int)*(10:Int))) (.side ((0:Int)≤i∧(↑i:Int)<y.length) (.side (inR .u8 ((↑(UInt8.toNat (y.getD (↑i:Int).toNat (0:UInt8))):Int) - (48:Int))) (.side (inR .u32 ((↑(UInt8.toNat (y.getD (↑i:Int).toNat (0:UInt8))):Int) - (48:Int))) (.side (inR .u32 ((↑v:Int)*(10:Int)+((↑(UInt8.toNat (y.getD (↑i:Int).toNat (0:UInt8))):Int) - (48:Int)))) (.side (inR .i64 ((↑i:Int)+(1:Int))) (.leaf (.back 1 [(2,.ptr 0 0),(3,.ptr 1 0),(5,.str y),(6,.int .u32 ((↑v:Int)*(10:Int)+((↑(UInt8.toNat (y.getD (↑i:Int).toNat (0:UInt8))):Int) - (48:Int)))),(16,.undef),(17,.undef),(19,.int .i64 y.length),(20,.int .i64 ((↑i:Int)+(1:Int)))] [.box [.bool false,.nils],.box [.bool neg,.osl 4 1 0 (o.length+1)],.box [.str b],.arr 1 1 (natG .u32 [d]),.arr (o.length+1) 1 (natG .u32 (d::o))])))))))) (.side (0=0∧o.length+1≤o.length+1∧(o.length+1+1)*4≤140737488355328) (.leaf (.back 0 [(2,.ptr 0 0),(3,.ptr 1 0),(5,.str y),(6,.int .u32 v),(16,.undef),(17,.undef),(19,.int .i64 y.length),(20,.int .i64 i)] [.box [.bool false,.nils],.box [.bool neg,.osl 4 1 0 (o.length+1+1)],.box [.str b],.arr 1 1 (natG .u32 [d]),.arr (o.length+1+1) 1 (appG (o.length+1) (natG .u32 (d::o)) (zf (zg 1 [.int .u32 v]) 0)),.arr 1 1 (zg 1 [.int .u32 v])])))) (by kernel_rfl) ?_
   simp only [Tree.holds,zc,inR,lo,hi,Int.toNat_natCast,ei]
   refine⟨fun hlt=> ?_,fun hge=> ?_⟩
   ·have hlt:i<y.length:=by simp at hlt; omega
    have h1:=hdig hlt
    have h2:=hnb hlt
    have h3:=hnext hlt
    generalize (y.getD i 0).toNat=c at h1 h3 ⊢
    iterate 6 refine⟨by omega,fun _=> ?_⟩
    rw [if_pos trivial]
    refine⟨⟨i+1,hlt⟩,by show y.length - (i+1)<y.length - i; omega,?_,by simp [HR,za],by kernel_rfl,by simp [HR]⟩
    simp [SR,h3]; omega
   ·have hge:i=y.length:=by simp at hge; omega
    subst hge
    rw [List.take_length] at hv
    refine⟨⟨trivial,Nat.le_refl _,by simp only [List.length_cons] at ho; omega⟩,fun _=> ?_⟩
    rw [if_neg (by decide),hv]
    refine⟨by simp,?_,by kernel_rfl,by simp [HR]⟩
    simp only [List.cons_append,HR]
    refine⟨by simp,by simp,by simp,⟨rfl,rfl,za _ _ _⟩,⟨by simp,rfl,?_⟩,trivial⟩
    have:=ya (k:=.u32) (l:=d::o) (v:=((v:Nat):Int)) (by omega)
    simpa using this
theorem Xk{O:Nat→Prop}{W:World}{σ1:List SE}(l:Nat)(neg:Bool)(b:List UInt8)(o:List Nat)(ho:o.length≤1000000)(x:Grp)(X:Prop)(Hx:Heap) :
  wV (some l) Tryz.prog (bare Tryz.f90) O 3 W σ1 (fun d kv' h'=>LeK 3 Tryz.f90.ntmps [] h' [] (HR neg b (o++[decB x.1]))) (fun _ h'=>X∧LeK 3 Tryz.f90.ntmps [] h' [] Hx) (roundOf K90 0) (mk Tryz.f90.ntmps ((5,.str x.1.data.toList)::(17,.str x.1.data.toList)::KR) (HR neg b o)):=by
 obtain⟨x,hx9,hxd⟩:=x
 simp only
 have hxl:x.data.toList.length=x.size:=by rw [Array.length_toList]; rfl
 have hdB:decB x=numD x.data.toList:=rfl
 rw [hdB]
 generalize x.data.toList=y at hxd hxl
 have core:wV (some l) Tryz.prog (bare Tryz.f90) O 3 W σ1 (fun d kv' h'=>LeK 3 Tryz.f90.ntmps [] h' [] (HR neg b (o++[numD y]))) (fun _ h'=>X∧LeK 3 Tryz.f90.ntmps [] h' [] Hx) (.code (.loop (lps (roundOf K90 0) 0).1)::(lps (roundOf K90 0) 0).2)
   (mk Tryz.f90.ntmps [(2,.ptr 0 0),(3,.ptr 1 0),(5,.str y),(6,.int .u32 0),(16,.fn 105 [] [.ptr 2 0]),(17,.str y),(19,.int .i64 (y.length:Int)),(20,.int .i64 0)] (HR neg b o)):=by
  exact U2 l neg b o ho y hxd (by omega) X Hx
 cases o with
 | nil=>
  refine zb.run hmix QZ [2,3,5,6,16,17,19,20] 400 (T:=.leaf (.loop (Prod.fst (lps (roundOf K90 0) 0)) (Prod.snd (lps (roundOf K90 0) 0)) [(2,.ptr 0 0),(3,.ptr 1 0),(5,.str y),(6,.int .u32 0),(16,.fn 105 [] [.ptr 2 0]),(17,.str y),(19,.int .i64 y.length),(20,.int .i64 0)] [.box [.bool false,.nils],.box [.bool neg,.nils],.box [.str b]])) (by kernel_rfl) ?_
  simp only [Tree.holds,zc]
  exact core
 | cons d o=>
  refine zb.run hmix QZ [2,3,5,6,16,17,19,20] 400 (T:=.leaf (.loop (Prod.fst (lps (roundOf K90 0) 0)) (Prod.snd (lps (roundOf K90 0) 0)) [(2,.ptr 0 0),(3,.ptr 1 0),(5,.str y),(6,.int .u32 0),(16,.fn 105 [] [.ptr 2 0]),(17,.str y),(19,.int .i64 y.length),(20,.int .i64 0)] [.box [.bool false,.nils],.box [.bool neg,.osl 4 1 0 (o.length+1)],.box [.str b],.arr 1 1 (natG .u32 [d]),.arr (o.length+1) 1 (natG .u32 (d::o))])) (by kernel_rfl) ?_
  simp only [Tree.holds,zc]
  exact core
theorem zb9(neg:Bool)(b:List UInt8)(o:List Nat):∀ x∈HR neg b o,alive x:=by
 cases o with
 | nil=>simp [HR,alive]
 | cons d o=>simp [HR,alive]
theorem YV{O:Nat→Prop}{w0:World}{Q:AV×Heap→Prop}(neg:Bool)(b:List UInt8)(hb:allD b)(hb0:b≠[])(hbl:b.length≤1000000)(hq:Q (.agg [.bool neg,magS (numD b)],[])) :
  zb Tryz.prog Tryz.f90 O 0 w0 [] (fun _ _ _=>False) (RetR zah 0 Q) (.code (rfs K90 0).1::(rfs K90 0).2) (mk Tryz.f90.ntmps KR (HR neg b [])):=by
 let s:ByteArray:=⟨b.toArray⟩
 have hsl:s.data.toList=b:=rfl
 have hss:s.size=b.length:=by simp [s,ByteArray.size]
 refine zb.range (tg:=16) (tp:=17) (td:=5) (α:=Grp) (by kernel_rfl) (cap:=[.ptr 2 0]) (enters_of Tryz.func105 (by kernel_rfl) rfl) (fun x=>.str x.1.data.toList) (fun pre=>HR neg b (pre.map fun x=>decB x.1)) (fun _=>[]) (fun _=>False) (fun xs=>xs.map (·.1)=chunks s s.size) (fun pre=>pre.map (·.1) <+: chunks s s.size) (chunks s s.size).length 3
  (by kernel_rfl) (by decide +kernel) (by decide +kernel) (fun x t c y h=>by cases h) ⟨by simp [KR],by simp [HR],by kernel_rfl,Nat.zero_le _⟩ (by kernel_rfl) (Nat.zero_le _) (fun pre=>zb9 _ _ _) (fun pre c hc=>by cases hc) ?_ ?_ ?_ (fun _ _ h=>h.elim)
 ·
  intro w σ a hm vb hvb
  simp only [RepL] at hvb
  obtain⟨v,r,rfl,hv,rfl⟩:=hvb
  simp only [Rep] at hv
  obtain⟨e,ad,he,had,rfl⟩:=hv
  have hcell:∀ (W:World) (σ':List SE) (o:List Nat),HRep (Go.Sx.Own O σ') W σ' (HR neg b o)→∀ e' ad,σ'[2]?=some e'→e'.ad=some ad→W.cell? ⟨ad.block,ad.off+0,none⟩=some (.string s):=by
   intro W σ' o hp e' ad he' had'
   have hb2:(HR neg b o)[2]?=some (.box [.str b]):=by cases o<;>rfl
   obtain⟨ad',vs,el,h1,h2,h3,h4⟩:=hp.blk 2 e' _ he' hb2
   rw [had'] at h1; cases h1
   simp only [RepL,Rep] at h4
   obtain⟨v,r,rfl,rfl,rfl⟩:=h4
   simp [World.cell?,h3,h2,s]
  refine⟨fun W=>W.cell? ⟨ad.block,ad.off+0,none⟩=some (.string s),fun x=>.string x.1,?_,?_,?_⟩
  ·exact Tryz.Qy (fun x=>x.size≤9∧allD x.data.toList) ⟨ad.block,ad.off+0,none⟩ s (Xz s (hsl▸hb) s.size (Nat.le_refl _)) (by omega) w (hcell w σ [] hm.hp e ad he had)
  ·intro pre W σ' hM
   refine⟨?_,fun x=>by simp [Rep]⟩
   have ht:=hM.tm 16
   have h16:(mk Tryz.f90.ntmps KR (HR neg b (pre.map fun x=>decB x.1))).tmps.getD 16 .undef = .fn 105 [] [.ptr 2 0]:=by kernel_rfl
   have ht0:=hm.tm 16
   have h160:(mk Tryz.f90.ntmps KR (HR neg b (([]:List Grp).map fun x=>decB x.1))).tmps.getD 16 .undef = .fn 105 [] [.ptr 2 0]:=by kernel_rfl
   rw [h16] at ht
   rw [h160] at ht0
   simp only [TRep,Rep,RepL] at ht ht0
   obtain⟨va,vb',h1,_,v,r,h2,⟨e1,ad1,h3,h4,h5⟩,h6⟩:=ht
   obtain⟨va',vb2,g1,_,v',r',g2,⟨e2,ad2,g3,g4,g5⟩,g6⟩:=ht0
   rw [he] at g3; cases g3
   rw [had] at g4; cases g4
   rw [g1] at h1
   simp only [Value.func.injEq] at h1
   have h7:vb2=vb':=by
    have:=h1.2.2
    simpa using this
   rw [g2,h2,g5,h5] at h7
   simp only [List.cons.injEq,Value.pointer.injEq,Option.some.injEq] at h7
   have h8:=hcell W σ' _ hM.hp e1 ad1 h3 h4
   rw [← h7.1] at h8
   exact h8
  ·intro W l o o' hl ho hoc hK
   exact Km (grownBy_putObj' W l o') (fun r e=>by cases e; exact⟨o,ho,hoc⟩) hK
 ·
  intro l pre x hlen W σ1
  have hpl:(pre.map fun x=>decB x.1).length≤1000000:=by
   have:=Zq s s.size
   simp; omega
  have:=Xk (O:=O) (W:=W) (σ1:=σ1) l neg b (pre.map fun x=>decB x.1) hpl x False []
  simp only [List.map_append,List.map_cons,List.map_nil]
  exact this
 ·
  intro xs hxs
  have ho:xs.map (fun x=>decB x.1)=(chunks s s.size).map decB:=by rw [← hxs,List.map_map]; rfl
  have hv:val (xs.map fun x=>decB x.1)=numD b:=by
   rw [ho,KH s s.size (Nat.le_refl _),List.take_of_length_le (by rw [Array.length_toList]; exact Nat.le_refl _)]
  have hdg:dig (xs.map fun x=>decB x.1):=by
   intro d hd
   obtain⟨x,_,rfl⟩:=List.mem_map.1 hd
   exact zdx x.2.2 x.2.1
  have hpos:0<s.size:=by rw [hss]; exact List.length_pos_iff.2 hb0
  have hle:(xs.map fun x=>decB x.1).length≤1000000:=by
   rw [ho,List.length_map]
   have:=Zq s s.size
   omega
  have hne:xs.map (fun x=>decB x.1)≠[]:=by
   rw [ho,vp s hpos]; simp
  generalize xs.map (fun x=>decB x.1)=l at hv hdg hle hne
  cases l with
  | nil=>exact absurd rfl hne
  | cons d o=>
   simp only [List.length_cons] at hle
   refine zb.run hmix QZ [2,3,5,6,16,17,19,20] 400 (T:=.ex (fun(u:List Nat)=>u.length=o.length+1∧0+(o.length+1)≤o.length+1∧o.length+1<4611686018427387904∧eqG (o.length+1) 1 (natG .u32 (d::o)) (natG .u32 u)∧dig (List.take (o.length+1) (List.drop 0 u))) fun n=>.all (fun(x:Nat)=>x=val (List.take (o.length+1) (List.drop 0 n))) fun n=>.leaf (.ret [.agg [.bool neg,.osl 4 1 0 (canon n).length]] [.box [.bool neg,.osl 4 1 0 (canon n).length],.box [.bool neg,.osl 4 1 0 (canon n).length],.box [.str b],.arr 1 1 (natG .u32 [d]),.arr (o.length+1) 1 (natG .u32 (d::o))])) (by kernel_rfl) ?_
   simp only [Tree.holds,zc]
   have htk:(List.take (o.length+1) (List.drop 0 (d::o)))=d::o:=by simp
   refine⟨d::o,⟨rfl,by omega,by omega,za _ _ _,by rw [htk]; exact hdg⟩,⟨_,rfl⟩,?_⟩
   intro X hX
   have hX:X=numD b:=by rw [htk,hv] at hX; exact hX
   subst hX
   refine RetR.out0 hq (fun h=>by cases h) ?_
   simp only [resV,exp2,exp1,List.map_cons,List.map_nil,exp0,ren0,zw,frz1,jk,List.getElem?_cons_zero,List.getElem?_cons_succ,if_true,eqA2,eqA,eqL0,eqA0,magS,natS,true_and,and_true]
   exact jr (u:=d::o) (off:=0) (n:=o.length+1) (by simpa using hdg) (by simpa using hv)
theorem zf3:zd Tryz.prog 90 zah:=by
 refine ze (fn:=Tryz.f90) (c:=Tryz.f90.body.getD .skip) rfl rfl rfl fun p hp O w0 Q hq=> ?_
 obtain⟨neg,b⟩:=p
 obtain⟨hb,hb0,hbl⟩:=hp
 replace hq:=hq _ rfl
 simp only at hb hb0 hbl hq
 obtain⟨s,hs⟩:∃ s,sgn neg b=s:=⟨_,rfl⟩
 simp only [hs]
 refine zb.run hmix QZ [2,3,5,6,16,17,19,20] 400 (T:=.side ((0:Int)≤0∧(0:Int)<s.length) (.ite (decide ((↑(UInt8.toNat (s.getD 0 (0:UInt8))):Int)=45)) (.side ((0:Int)≤1∧(1:Int)≤s.length) (.ex (fun(x:List UInt8)=>eqL [AV.str (List.drop 1 (List.take s.length s))] [AV.str x]∧eqH [] []∧0=0∧True) fun n=>.all (fun(x:Unit)=>True) fun n_1=>.leaf (.range (Prod.fst (rfs K90 0)) (Prod.snd (rfs K90 0)) [(2,.ptr 0 0),(3,.ptr 1 0),(5,.undef),(6,.undef),(16,.fn 105 [] [.ptr 2 0]),(17,.undef),(19,.undef),(20,.undef)] [.box [.bool false,.nils],.box [.bool true,.nils],.box [.str n]]))) (.ex (fun(x:List UInt8)=>eqL [AV.str s] [AV.str x]∧eqH [] []∧0=0∧True) fun n=>.all (fun(x:Unit)=>True) fun n_1=>.leaf (.range (Prod.fst (rfs K90 0)) (Prod.snd (rfs K90 0)) [(2,.ptr 0 0),(3,.ptr 1 0),(5,.undef),(6,.undef),(16,.fn 105 [] [.ptr 2 0]),(17,.undef),(19,.undef),(20,.undef)] [.box [.bool false,.nils],.box [.bool false,.nils],.box [.str n]])))) (by kernel_rfl) ?_
 subst hs
 have hmain:=YV (O:=O) (w0:=w0) neg b hb hb0 hbl hq
 obtain⟨c,b',rfl⟩:=List.exists_cons_of_ne_nil hb0
 have hc:=hb c (by simp)
 simp only [Tree.holds,zc]
 cases neg with
 | true=>
  simp only [sgn,if_true]
  refine⟨by simp; omega,fun _=>⟨fun _=>⟨by simp; omega,fun _=> ?_⟩,fun h=>by simp at h⟩⟩
  refine⟨c::b',⟨by simp,by simp,by simp⟩,⟨(),trivial⟩,fun _ _=>hmain⟩
 | false=>
  simp only [sgn,Bool.false_eq_true,if_false]
  refine⟨by simp,fun _=>⟨fun h=> ?_,fun _=> ?_⟩⟩
  ·simp at h; omega
  ·refine⟨c::b',⟨by simp,by simp,by simp⟩,⟨(),trivial⟩,fun _ _=>hmain⟩
noncomputable def K91:List Go.Sx.Item:=[.code (Tryz.f91.body.getD .skip)]
noncomputable def K74:List Go.Sx.Item:=[.code (Tryz.f74.body.getD .skip)]
def jG(l:List Nat)(n i:Nat):List Nat:=(List.range l.length).map fun p=>if p<n∧(p<i∨n - i≤p) then l.getD (n - 1 - p) 0 else l.getD p 0
theorem yM(l:List Nat)(n i:Nat):(jG l n i).length=l.length:=by simp [jG]
theorem Jh{l:List Nat}{n i p:Nat}(h:p<l.length):(jG l n i).getD p 0=if p<n∧(p<i∨n - i≤p) then l.getD (n - 1 - p) 0 else l.getD p 0:=by
 simp [jG,List.getD,h]
theorem VY(l:List Nat)(n:Nat):jG l n 0=l:=by
 apply List.ext_getElem (by simp [jG])
 intro p h1 h2
 simp only [jG,List.getElem_map,List.getElem_range]
 rw [if_neg (by omega)]; simp [h2]
theorem K4{l:List Nat}{n i:Nat}(hn:n≤l.length)(hi2:i<n - 1 - i):((jG l n i).set i ((jG l n i).getD (n - 1 - i) 0)).set (n - 1 - i) ((jG l n i).getD i 0)=jG l n (i+1):=by
 rw [Jh (by omega),Jh (by omega),if_neg (by omega),if_neg (by omega)]
 apply List.ext_getElem (by simp [jG])
 intro p h1 h2
 rw [yM] at h2
 simp only [List.getElem_set,jG,List.getElem_map,List.getElem_range]
 by_cases ha:n - 1 - i=p
 ·rw [if_pos ha,if_pos (by omega)]; congr 1; omega
 ·rw [if_neg ha]
  by_cases hb:i=p
  ·subst hb; rw [if_pos rfl,if_pos (by omega)]
  ·rw [if_neg hb]
   by_cases hc:p<n∧(p<i∨n - i≤p)
   ·rw [if_pos hc,if_pos (by omega)]
   ·rw [if_neg hc,if_neg (by omega)]
theorem Ug{l:List Nat}{n i:Nat}(hn:n≤l.length)(hi2:n - 1 - i≤i):jG l n i=(l.take n).reverse++l.drop n:=by
 apply List.ext_getElem (by simp [jG]; omega)
 intro p h1 h2
 rw [yM] at h1
 simp only [jG,List.getElem_map,List.getElem_range]
 have hl:(l.take n).reverse.length=n:=by simp; omega
 by_cases ha:p<n
 ·rw [List.getElem_append_left (by omega),List.getElem_reverse,List.getElem_take]
  have e:(l.take n).length - 1 - p=n - 1 - p:=by simp; omega
  simp only [e]
  by_cases hc:p<i∨n - i≤p
  ·rw [if_pos ⟨ha,hc⟩]; simp [show n - 1 - p<l.length by omega]
  ·rw [if_neg (fun h=>hc h.2)]
   have:n - 1 - p=p:=by omega
   simp [this,h1]
 ·rw [if_neg (fun h=>ha h.1),List.getElem_append_right (by omega)]
  simp only [hl,List.getElem_drop]
  have:n+(p - n)=p:=by omega
  simp [this,h1]
def ye:Ctr:=ctrT false false (fun p:List Nat×Nat=>[.osl 0 1 0 p.2]) (fun p=>[.arr p.1.length 1 (natG .u8 p.1)]) (fun p=>p.2≤p.1.length∧p.1.length<2^62) (fun _ (_:Unit)=>True) (fun p _=>(.tup [],[.arr p.1.length 1 (natG .u8 ((p.1.take p.2).reverse++p.1.drop p.2))]))
def SV(n i:Nat):KV:=[(0,.osl 0 1 0 n),(2,.int .i64 (i:Int)),(3,.int .i64 ((n:Int) - 1 - i))]
theorem uZ:zd Tryz.prog 91 ye:=by
 refine jl (fn:=Tryz.f91) (c:=Tryz.f91.body.getD .skip) rfl rfl rfl (fun h=>by cases h) fun p hp O w0 σ0 Q hl0 hq=> ?_
 obtain⟨l,n⟩:=p
 obtain⟨hn,hl⟩:=hp
 replace hq:=hq () trivial
 simp only at hn hl hq
 refine zb.run hmix z7 [0,2,3] 400 (T:=Tree.side (inR IntKind.i64 ((↑n:Int) - (1:Int))) (Tree.leaf (jF.loop (Prod.fst (lps K91 (0:Nat))) (Prod.snd (lps K91 (0:Nat))) [((0:Nat),AV.osl (0:Nat) (1:Nat) (0:Nat) n),((2:Nat),AV.int .i64 (0:Int)),((3:Nat),AV.int .i64 ((↑n:Int) - (1:Int)))] [Blk.arr l.length (1:Nat) (natG .u8 l)]))) (by kernel_rfl) ?_
 simp only [Tree.holds,zc,inR,lo,hi]
 refine⟨by omega,fun _=> ?_⟩
 refine zb.loop (ι:={i:Nat // i≤n}) (fun i=>SV n i.1) (fun i=>[.arr l.length 1 (natG .u8 (jG l n i.1))]) (fun i=>n - i.1) ⟨0,Nat.zero_le _⟩ 0 ?_ ?_ (by kernel_rfl)
 ·exact⟨by simp [SV],by simp [VY,za],by kernel_rfl,Nat.le_refl _⟩
 ·rintro⟨i,hin⟩
  obtain⟨u,hu⟩:∃ u,jG l n i=u:=⟨_,rfl⟩
  have hul:u.length=l.length:=by rw [← hu,yM]
  simp only [hu,← hul]
  refine zb.run hmix z7 [0,2,3] 400 (T:=Tree.ite (decide ((↑i:Int)<(↑n:Int) - (1:Int) - (↑i:Int))) (Tree.side ((0:Int)≤(↑n:Int) - (1:Int) - (↑i:Int)∧(↑n:Int) - (1:Int) - (↑i:Int)<(↑n:Int)) (Tree.side ((0:Int)≤(↑i:Int)∧(↑i:Int)<(↑n:Int)) (Tree.side ((0:Int)≤(↑i:Int)∧(↑i:Int)<(↑n:Int)) (Tree.side ((0:Int)≤(↑n:Int) - (1:Int) - (↑i:Int)∧(↑n:Int) - (1:Int) - (↑i:Int)<(↑n:Int)) (Tree.side (inR IntKind.i64 ((↑i:Int)+(1:Int))) (Tree.side (inR IntKind.i64 ((↑n:Int) - (1:Int) - (↑i:Int) - (1:Int))) (Tree.leaf (jF.back (0:Nat) [((0:Nat),AV.osl (0:Nat) (1:Nat) (0:Nat) n),((2:Nat),AV.int .i64 ((↑i:Int)+(1:Int))),((3:Nat),AV.int .i64 ((↑n:Int) - (1:Int) - (↑i:Int) - (1:Int)))] [Blk.arr u.length (1:Nat) (updG (updG (natG .u8 u) ((0:Nat)+Int.toNat (↑i:Int)) (0:Nat) [AV.int .u8 (↑(u.getD ((0:Nat)+Int.toNat ((↑n:Int) - (1:Int) - (↑i:Int))) (0:Nat)):Int)]) ((0:Nat)+Int.toNat ((↑n:Int) - (1:Int) - (↑i:Int))) (0:Nat) [AV.int .u8 (↑(u.getD ((0:Nat)+Int.toNat (↑i:Int)) (0:Nat)):Int)])])))))))) (Tree.leaf (jF.ret [] [Blk.arr u.length (1:Nat) (natG .u8 u)]))) (by kernel_rfl) ?_
  simp only [Tree.holds,zc,inR,lo,hi,Int.toNat_natCast]
  refine⟨fun hlt=> ?_,fun hge=> ?_⟩
  ·have hlt:i<n - 1 - i:=by simp at hlt; omega
   have ej:((n:Int) - 1 - i).toNat=n - 1 - i:=by omega
   rw [ej]
   iterate 6 refine⟨by omega,fun _=> ?_⟩
   rw [if_pos trivial]
   have hs:=K4 (l:=l) hn hlt
   rw [hu] at hs
   refine⟨⟨i+1,by omega⟩,by show n - (i+1)<n - i; omega,by simp [SV]; omega,?_,by kernel_rfl,Nat.le_refl _⟩
   rw [← hs]
   refine⟨⟨rfl,rfl,?_⟩,trivial⟩
   have h1:=v8 (k:=.u8) (l:=u) (v:=(u.getD (n - 1 - i) 0:Nat)) (i:=i) (by omega) (by omega)
   have h2:=v8 (k:=.u8) (l:=u.set i (u.getD (n - 1 - i) 0)) (v:=(u.getD i 0:Nat)) (i:=n - 1 - i) (by omega) (by simp; omega)
   simp only [List.length_set,Int.toNat_natCast] at h1 h2
   refine kZ ?_ h2
   intro p o hp ho
   have:=h1 p o hp ho
   simp only [updG,Nat.zero_add] at this ⊢
   split
   ·rfl
   ·exact this
  ·have hge:n - 1 - i≤i:=by simp at hge; omega
   have hr:=Ug (l:=l) hn hge
   rw [hu] at hr
   refine⟨[0],rfl,by simp,by simp,by simp [ye,ctrT],.tup [],_,qf (by simp [resV,exp2,eqA2,eqL1]),.inl ?_,rfl,hq⟩
   simp [expH,expB,hr,za]
   omega
def vD(neg:Bool)(x:Nat):Blk:=.box [.bool neg,magS x]
def SW(x i n:Nat):KV:=[(1,.ptr 0 0),(4,.osl 1 1 0 n),(6,.undef),(12,magS x),(13,.int .i64 ((canon x).length:Int)),(14,.int .i64 (i:Int)),(18,.undef)]
def SW2(x i n g k:Nat):KV:=[(1,.ptr 0 0),(4,.osl 1 1 0 n),(6,.int .u32 (g:Int)),(12,magS x),(13,.int .i64 ((canon x).length:Int)),(14,.int .i64 (i:Int)),(18,.int .i64 (k:Int))]
noncomputable def G4:Nat→Option Ctr:=fun f=>if f=91 then some (ye) else none
theorem XE:∀ g c,G4 g=some c→zd Tryz.prog g c:=okIf uZ (zq)
theorem Z9(k:IntKind)(l:List Nat)(n:Nat)(hn:n≤l.length):wK n (zf (natG k l) 0)=(l.take n).map UInt8.ofNat:=by
 apply List.ext_getElem (by simp [wK]; omega)
 intro j h1 h2
 have hj:j<n:=by simpa [wK] using h1
 simp [wK,zf,natG,Sx.byteOf,show j<l.length by omega]
def wb(x i:Nat):List Nat:=(decs (9*i) (val ((canon x).take i))).map (48 + ·)
theorem J6(x i:Nat):(wb x i).length=9*i:=by simp [wb,yw]
theorem Yu(i:Nat):B^i=10^(9*i):=by rw [Nat.pow_mul]
theorem zdy{x i:Nat}(h:i<(canon x).length):wb x i++(decs 9 ((canon x).getD i 0)).map (48 + ·)=wb x (i+1):=by
 have h1:=qe (je (zh x) i)
 rw [List.length_take,Nat.min_eq_left (by omega),Yu] at h1
 simp only [wb]
 rw [← List.map_append,← uB _ _ _ _ h1,zn,Yu]
 rfl
theorem Xe(x:Nat):wb x (canon x).length=(dec x).map (48 + ·)++List.replicate (9*(canon x).length - (dec x).length) 48:=by
 have h:x<10^(9*(canon x).length):=by
  have:=qe (zh x)
  rwa [zk,Yu] at this
 simp only [wb,List.take_length,zk,zd5 h,Ten.padN,List.map_append,List.map_replicate,dec]
def uR:Ctr:=ctrP true (fun p:Bool×Nat=>[.agg [.bool p.1,magS p.2]]) (fun p=>(canon p.2).length<1000000) (fun p r=>r=wr p.1 p.2) (fun _ r=>(.tup [.str r.1,.int .i64 r.2],[]))
theorem Y6{O:Nat→Prop}{w0:World}{Q:AV×Heap→Prop}{Hs:Nat→KV→Heap→Prop}(neg:Bool)(x:Nat)(hx:(canon x).length<1000000)(hx0:x≠0)(hq:Q (.tup [.str (wr neg x).1,.int .i64 (wr neg x).2],[]))(b:List Nat)(hb:b=wb x (canon x).length) :
  zb Tryz.prog Tryz.f74 O 0 w0 [] Hs (RetR uR 0 Q) (.code (.loop (lps (inside K74 0) 1).1)::(lps (inside K74 0) 1).2) (mk Tryz.f74.ntmps (SW x (canon x).length b.length) [vD neg x,.arr b.length 1 (natG .u8 b)]):=by
 have hdl:=JL hx0
 have hle:(dec x).length≤9*(canon x).length:=by
  have:=qe (zh x)
  rw [zk,Yu] at this
  exact Za this
 have hbl:b.length=9*(canon x).length:=by rw [hb,J6]
 have hget:∀ p,p<b.length→b.getD p 0=48+(dec x).getD p 0:=by
  intro p hp
  rw [hb,Xe]
  by_cases h:p<(dec x).length
  ·rw [x9 (by simpa using h),YX (z:=0) h]
  ·rw [uX (by simpa using Nat.le_of_not_lt h),zc7 (by simp; omega),UQ (Nat.le_of_not_lt h)]
 have htake:b.take (dec x).length=(dec x).map (48 + ·):=by
  rw [hb,Xe,List.take_append_of_le_length (by simp),List.take_of_length_le (by simp)]
 refine zb.loop (ι:={n:Nat // (dec x).length≤n∧n≤b.length}) (fun n=>SW x (canon x).length n.1) (fun _=>[vD neg x,.arr b.length 1 (natG .u8 b)]) (fun n=>n.1) ⟨b.length,by omega,Nat.le_refl _⟩ 0 ?_ ?_ (by kernel_rfl)
 ·exact⟨by simp [SW,magS,natS,za],by simp [vD,magS,natS,za],by kernel_rfl,Nat.zero_le _⟩
 ·rintro⟨n,hn1,hn2⟩
  obtain⟨L,hL⟩:∃ L,(canon x).length=L:=⟨_,rfl⟩
  simp only [hL]
  refine zb.run hmix XE [1,4,6,12,13,14,18] 400 (T:=Tree.side (inR IntKind.i64 ((↑n:Int) - (1:Int))) (Tree.side ((0:Int)≤(↑n:Int) - (1:Int)∧(↑n:Int) - (1:Int)<(↑n:Int)) (Tree.ite (decide ((↑(b.getD ((0:Nat)+Int.toNat ((↑n:Int) - (1:Int))) (0:Nat)):Int)=(48:Int))) (Tree.side (inR IntKind.i64 ((↑n:Int) - (1:Int))) (Tree.side ((0:Int)≤(↑n:Int) - (1:Int)∧(↑n:Int) - (1:Int)≤(↑n:Int)) (Tree.leaf (jF.back (0:Nat) [((1:Nat),AV.ptr (0:Nat) (0:Nat)),((4:Nat),AV.osl (1:Nat) (1:Nat) (0:Nat) (Int.toNat ((↑n:Int) - (1:Int)) - (0:Nat))),((6:Nat),AV.undef),((12:Nat),AV.sl (canon x).length (1:Nat) (natG .u32 (canon x))),((13:Nat),AV.int .i64 (↑(canon x).length:Int)),((14:Nat),AV.int .i64 (↑L:Int)),((18:Nat),AV.undef)] [Blk.box [AV.bool neg,AV.sl (canon x).length (1:Nat) (natG .u32 (canon x))],Blk.arr b.length (1:Nat) (natG .u8 b)])))) (Tree.ite (decide ((1000:Int)<(↑n:Int))) (Tree.leaf (jF.ret [AV.str #[].toList,AV.int .i64 (14:Int)] [Blk.box [AV.bool neg,AV.sl (canon x).length (1:Nat) (natG .u32 (canon x))],Blk.arr b.length (1:Nat) (natG .u8 b)])) (Tree.ite neg (Tree.side ((0:Nat)=(0:Nat)∧n≤List.length b∧(n+(1:Nat))*(1:Nat)≤(140737488355328:Nat)) (Tree.ex (fun(x:List Nat×Nat)=>eqL [AV.osl (0:Nat) (1:Nat) (0:Nat) (n+(1:Nat))] [AV.osl (0:Nat) (1:Nat) (0:Nat) (Prod.snd x)]∧eqH [Blk.arr (n+(1:Nat)) (1:Nat) (appG n (natG .u8 b) (zf (zg (1:Nat) [AV.int .u8 (45:Int)]) (0:Nat)))] [Blk.arr (Prod.fst x).length (1:Nat) (natG .u8 (Prod.fst x))]∧(1:Nat)=(1:Nat)∧Prod.snd x≤List.length (Prod.fst x)∧List.length (Prod.fst x)<(4611686018427387904:Nat)) fun(n_1:List Nat×Nat)=>Tree.all (fun(x:Unit)=>True) fun(n_2:Unit)=>Tree.side (∀ (j:Nat),j<n+(1:Nat)→∃ (b:UInt8),AV.int .u8 (↑(List.getD (List.reverse (List.take (Prod.snd n_1) (Prod.fst n_1))++List.drop (Prod.snd n_1) (Prod.fst n_1)) ((0:Nat)+j) (0:Nat)):Int)=AV.int .u8 (↑(UInt8.toNat b):Int)) (Tree.leaf (jF.ret [AV.str (wK (n+(1:Nat)) (zf (natG .u8 (List.reverse (List.take (Prod.snd n_1) (Prod.fst n_1))++List.drop (Prod.snd n_1) (Prod.fst n_1))) (0:Nat))),AV.int .i64 (0:Int)] [Blk.box [AV.bool neg,AV.sl (canon x).length (1:Nat) (natG .u32 (canon x))],Blk.arr (Prod.fst n_1).length (1:Nat) (natG .u8 (List.reverse (List.take (Prod.snd n_1) (Prod.fst n_1))++List.drop (Prod.snd n_1) (Prod.fst n_1))),Blk.arr (1:Nat) (1:Nat) (zg (1:Nat) [AV.int .u8 (45:Int)])])))) (Tree.ex (fun(x:List Nat×Nat)=>eqL [AV.osl (0:Nat) (1:Nat) (0:Nat) n] [AV.osl (0:Nat) (1:Nat) (0:Nat) (Prod.snd x)]∧eqH [Blk.arr b.length (1:Nat) (natG .u8 b)] [Blk.arr (Prod.fst x).length (1:Nat) (natG .u8 (Prod.fst x))]∧(1:Nat)=(1:Nat)∧Prod.snd x≤List.length (Prod.fst x)∧List.length (Prod.fst x)<(4611686018427387904:Nat)) fun(n_1:List Nat×Nat)=>Tree.all (fun(x:Unit)=>True) fun(n_2:Unit)=>Tree.side (∀ (j:Nat),j<n→∃ (b:UInt8),AV.int .u8 (↑(List.getD (List.reverse (List.take (Prod.snd n_1) (Prod.fst n_1))++List.drop (Prod.snd n_1) (Prod.fst n_1)) ((0:Nat)+j) (0:Nat)):Int)=AV.int .u8 (↑(UInt8.toNat b):Int)) (Tree.leaf (jF.ret [AV.str (wK n (zf (natG .u8 (List.reverse (List.take (Prod.snd n_1) (Prod.fst n_1))++List.drop (Prod.snd n_1) (Prod.fst n_1))) (0:Nat))),AV.int .i64 (0:Int)] [Blk.box [AV.bool neg,AV.sl (canon x).length (1:Nat) (natG .u32 (canon x))],Blk.arr (Prod.fst n_1).length (1:Nat) (natG .u8 (List.reverse (List.take (Prod.snd n_1) (Prod.fst n_1))++List.drop (Prod.snd n_1) (Prod.fst n_1)))])))))))) (by kernel_rfl) ?_
  have e1:((n:Int) - 1).toNat=n - 1:=by omega
  have e2:0+(n - 1)=n - 1:=by omega
  have e3:n - 1 - 0=n - 1:=by omega
  simp only [Tree.holds,zc,inR,lo,hi,e1,e2,e3]
  have hg:=hget (n - 1) (by omega)
  rw [hg]
  iterate 2 refine⟨by omega,fun _=> ?_⟩
  refine⟨fun hz=> ?_,fun hnz=>⟨fun hbig=> ?_,fun hsm=> ?_⟩⟩
  ·have hz:(dec x).getD (n - 1) 0=0:=by simp at hz ⊢; omega
   have hne:n≠(dec x).length:=by
    rintro rfl
    exact Yc hdl hz
   iterate 2 refine⟨by omega,fun _=> ?_⟩
   rw [if_pos trivial]
   exact⟨⟨n - 1,by omega,by omega⟩,by show n - 1<n; omega,by simp [SW,magS,natS,za],by simp [vD,magS,natS,za],by kernel_rfl,Nat.zero_le _⟩
  ·have hn:n=(dec x).length:=by
    rcases Nat.lt_or_ge (dec x).length n with h | h
    ·have:(dec x).getD (n - 1) 0=0:=by simp [List.getD,List.getElem?_eq_none (show(dec x).length≤n - 1 by omega)]
     rw [this] at hnz; simp at hnz
    ·omega
   subst hn
   have hbig:1000<(dec x).length:=by simp at hbig; omega
   simp only [wr,if_neg hx0,if_pos hbig] at hq
   exact RetR.scal hq rfl rfl
  ·have hn:n=(dec x).length:=by
    rcases Nat.lt_or_ge (dec x).length n with h | h
    ·have:(dec x).getD (n - 1) 0=0:=by simp [List.getD,List.getElem?_eq_none (show(dec x).length≤n - 1 by omega)]
     rw [this] at hnz; simp at hnz
    ·omega
   subst hn
   have hsm:¬ 1000<(dec x).length:=by simp at hsm; omega
   simp only [wr,if_neg hx0,if_neg hsm] at hq
   have hbyte:∀ (l:List Nat) (k:Nat),(∀ d∈l,d<256)→∀ j,j<k→∃ c:UInt8,AV.int .u8 ((l.getD (0+j) 0:Nat):Int) = .int .u8 (c.toNat:Int):=by
    intro l k hl j hj
    rw [Nat.zero_add]
    have:l.getD j 0<256:=by
     by_cases h:j<l.length
     ·have:=hl l[j] (List.getElem_mem h)
      simpa [List.getD,h] using this
     ·simp [List.getD,List.getElem?_eq_none (Nat.le_of_not_lt h)]
    refine⟨UInt8.ofNat (l.getD j 0),?_⟩
    simp only [AV.int.injEq,true_and]
    rw [UInt8.toNat_ofNat',Nat.mod_eq_of_lt this]
   have hb256:∀ d∈b,d<256:=by
    intro d hd
    rw [hb,Xe] at hd
    rcases List.mem_append.1 hd with hd | hd
    ·obtain⟨y,hy,rfl⟩:=List.mem_map.1 hd
     have:=Ten.zh x y hy
     simp only [Ten.B] at this
     omega
    ·have:=(List.mem_replicate.1 hd).2; omega
   have htx:((b.take (dec x).length).reverse).map UInt8.ofNat=txt x:=by
    rw [htake,txt,if_neg hx0,List.map_reverse,List.map_map]; rfl
   refine⟨fun hneg=> ?_,fun hneg=> ?_⟩
   ·subst hneg
    refine⟨⟨trivial,hn2,by omega⟩,fun _=> ?_⟩
    have hal:(b.take (dec x).length++[45]).length=(dec x).length+1:=by simp; omega
    refine⟨(b.take (dec x).length++[45],(dec x).length+1),⟨by simp,?_,by simp,by simp only [hal]; omega,by simp only [hal]; omega⟩,⟨(),trivial⟩,fun _ _=>⟨?_,fun _=> ?_⟩⟩
    ·simp only [eqH,eqB,hal]
     refine⟨⟨trivial,trivial,?_⟩,trivial⟩
     intro j o hj ho
     have:o=0:=by omega
     subst this
     simp only [appG,zf,zg,natG]
     have hl:(b.take (dec x).length).length=(dec x).length:=by simp; omega
     by_cases h:j<(dec x).length
     ·rw [if_pos h,x9 (by omega),XR h]
     ·have:j=(dec x).length:=by omega
      subst this
      rw [if_neg (by omega),uX (by omega),hl,Nat.sub_self]
      rfl
    ·refine hbyte _ _ ?_
     intro d hd
     simp only [List.mem_append,List.mem_reverse] at hd
     rcases hd with hd | hd
     ·have:=List.mem_of_mem_take hd
      rcases List.mem_append.1 this with h | h
      ·exact hb256 d (List.mem_of_mem_take h)
      ·simp at h; omega
     ·have:=List.mem_of_mem_drop hd
      rcases List.mem_append.1 this with h | h
      ·exact hb256 d (List.mem_of_mem_take h)
      ·simp at h; omega
    ·refine RetR.scal hq rfl ?_
     simp only [resV]
     rw [Z9 _ _ _ (by simp; omega)]
     have ht:List.take ((dec x).length+1) (b.take (dec x).length++[45])=b.take (dec x).length++[45]:=List.take_of_length_le (by omega)
     rw [ht,List.take_append_of_le_length (by simp; omega),List.take_of_length_le (by simp; omega),List.reverse_append,List.map_append,htx]
     simp [sgn]
   ·subst hneg
    refine⟨(b,(dec x).length),⟨by simp,by simp [za],by simp,hn2,by simp only [hbl]; omega⟩,⟨(),trivial⟩,fun _ _=>⟨?_,fun _=> ?_⟩⟩
    ·refine hbyte _ _ ?_
     intro d hd
     simp only [List.mem_append,List.mem_reverse] at hd
     rcases hd with hd | hd
     ·exact hb256 d (List.mem_of_mem_take hd)
     ·exact hb256 d (List.mem_of_mem_drop hd)
    ·refine RetR.scal hq rfl ?_
     simp only [resV]
     have hrl:((b.take (dec x).length).reverse).length=(dec x).length:=by simp; omega
     rw [Z9 _ _ _ (by rw [List.length_append,hrl]; omega),List.take_append_of_le_length (by omega),List.take_of_length_le (by omega),htx]
     simp [sgn]
theorem ZD:zd Tryz.prog 74 uR:=by
 refine ze (fn:=Tryz.f74) (c:=Tryz.f74.body.getD .skip) rfl rfl rfl fun p hp O w0 Q hq=> ?_
 obtain⟨neg,x⟩:=p
 replace hq:=hq _ rfl
 simp only at hp hq
 refine zb.run hmix XE [1,4,6,12,13,14,18] 400 (T:=Tree.ite (decide ((↑(canon x).length:Int)=(0:Int))) (Tree.leaf (jF.ret [AV.str #[(48:UInt8)].toList,AV.int .i64 (0:Int)] [Blk.box [AV.bool neg,AV.sl (canon x).length (1:Nat) (natG .u32 (canon x))]])) (Tree.leaf (jF.loop (Prod.fst (lps K74 (0:Nat))) (Prod.snd (lps K74 (0:Nat))) [((1:Nat),AV.ptr (0:Nat) (0:Nat)),((4:Nat),AV.nils),((6:Nat),AV.undef),((12:Nat),AV.sl (canon x).length (1:Nat) (natG .u32 (canon x))),((13:Nat),AV.int .i64 (↑(canon x).length:Int)),((14:Nat),AV.int .i64 (0:Int)),((18:Nat),AV.undef)] [Blk.box [AV.bool neg,AV.sl (canon x).length (1:Nat) (natG .u32 (canon x))]]))) (by kernel_rfl) ?_
 simp only [Tree.holds,zc,inR,lo,hi]
 refine⟨fun h0=> ?_,fun h0=> ?_⟩
 ·have h0:x=0:=by
   rcases Nat.eq_zero_or_pos x with h | h
   ·exact h
   ·have:=jn (x:=x) (n:=0) (by simp; omega)
    simp at h0; rw [h0] at this; simp at this
  subst h0
  refine RetR.scal hq rfl ?_
  simp [resV,wr]
 ·have hx0:x≠0:=by
   rintro rfl
   simp [zC] at h0
  refine zb.bear 4 1 (natG .u8 []) (by kernel_rfl) (by decide +kernel) (by kernel_rfl) ?_
  refine zb.loop (ι:={i:Nat // i≤(canon x).length}) (fun i=>SW x i.1 (wb x i.1).length) (fun i=>[vD neg x,.arr (wb x i.1).length 1 (natG .u8 (wb x i.1))]) (fun i=>(canon x).length - i.1) ⟨0,Nat.zero_le _⟩ 0 ?_ ?_ (by kernel_rfl)
  ·exact⟨by simp [uz,SW,magS,natS,za,J6],by simp [vD,magS,natS,za,J6,eqG],by kernel_rfl,Nat.zero_le _⟩
  ·rintro⟨i,hil⟩
   obtain⟨b,hb⟩:∃ b,wb x i=b:=⟨_,rfl⟩
   simp only [hb]
   refine zb.run hmix XE [1,4,6,12,13,14,18] 400 (T:=Tree.ite (decide ((↑i:Int)<(↑(canon x).length:Int))) (Tree.side ((0:Int)≤(↑i:Int)∧(↑i:Int)<(↑(canon x).length:Int)) (Tree.leaf (jF.loop (Prod.fst (lps (inside K74 (0:Nat)) (0:Nat))) (Prod.snd (lps (inside K74 (0:Nat)) (0:Nat))) [((1:Nat),AV.ptr (0:Nat) (0:Nat)),((4:Nat),AV.osl (1:Nat) (1:Nat) (0:Nat) b.length),((6:Nat),AV.int .u32 (↑(List.getD (canon x) (↑i:Int).toNat (0:Nat)):Int)),((12:Nat),AV.sl (canon x).length (1:Nat) (natG .u32 (canon x))),((13:Nat),AV.int .i64 (↑(canon x).length:Int)),((14:Nat),AV.int .i64 (↑i:Int)),((18:Nat),AV.int .i64 (0:Int))] [Blk.box [AV.bool neg,AV.sl (canon x).length (1:Nat) (natG .u32 (canon x))],Blk.arr b.length (1:Nat) (natG .u8 b)]))) (Tree.leaf (jF.loop (Prod.fst (lps (inside K74 (0:Nat)) (1:Nat))) (Prod.snd (lps (inside K74 (0:Nat)) (1:Nat))) [((1:Nat),AV.ptr (0:Nat) (0:Nat)),((4:Nat),AV.osl (1:Nat) (1:Nat) (0:Nat) b.length),((6:Nat),AV.undef),((12:Nat),AV.sl (canon x).length (1:Nat) (natG .u32 (canon x))),((13:Nat),AV.int .i64 (↑(canon x).length:Int)),((14:Nat),AV.int .i64 (↑i:Int)),((18:Nat),AV.undef)] [Blk.box [AV.bool neg,AV.sl (canon x).length (1:Nat) (natG .u32 (canon x))],Blk.arr b.length (1:Nat) (natG .u8 b)]))) (by kernel_rfl) ?_
   simp only [Tree.holds,zc,inR,lo,hi,Int.toNat_natCast]
   refine⟨fun hlt=>⟨by simp at hlt; omega,fun _=> ?_⟩,fun hge=> ?_⟩
   ·have hlt:i<(canon x).length:=by simp at hlt; omega
    obtain⟨g,hg⟩:∃ g,(canon x).getD i 0=g:=⟨_,rfl⟩
    have hgB:g<1000000000:=hg▸zH (zh x) i
    have hstep:=zdy hlt
    have hbl:b.length=9*i:=by rw [← hb,J6]
    rw [hb,hg] at hstep
    rw [hg]
    refine zb.loop (ι:={k:Nat // k≤9}) (fun k=>SW2 x i (b++(decs k.1 g).map (48 + ·)).length (g/10^k.1) k.1) (fun k=>[vD neg x,.arr (b++(decs k.1 g).map (48 + ·)).length 1 (natG .u8 (b++(decs k.1 g).map (48 + ·)))]) (fun k=>9 - k.1) ⟨0,Nat.zero_le _⟩ 1 ?_ ?_ (by kernel_rfl)
    ·exact⟨by simp [SW2,magS,natS,za,decs],by simp [vD,magS,natS,za,decs],by kernel_rfl,Nat.zero_le _⟩
    ·rintro⟨k,hk⟩
     obtain⟨c,hc⟩:∃ c,b++(decs k g).map (48 + ·)=c:=⟨_,rfl⟩
     obtain⟨q,hqv⟩:∃ q,g/10^k=q:=⟨_,rfl⟩
     have hqB:q<1000000000:=by rw [← hqv]; exact Nat.lt_of_le_of_lt (Nat.div_le_self _ _) hgB
     have hcl:c.length=9*i+k:=by rw [← hc]; simp [yw,hbl]
     have hnext:b++(decs (k+1) g).map (48 + ·)=c++[48+q%10]:=by
      rw [QS,List.map_append,← List.append_assoc,hc,hqv]; rfl
     have hqn:g/10^(k+1)=q/10:=by rw [Nat.pow_succ,← Nat.div_div_eq_div_mul,hqv]
     simp only [hc,hqv]
     refine zb.run hmix XE [1,4,6,12,13,14,18] 400 (T:=Tree.ite (decide ((↑k:Int)<(9:Int))) (Tree.side ((10:Int)≠(0:Int)) (Tree.side (inR IntKind.u32 ((48:Int)+Int.tmod (↑q:Int) (10:Int))) (Tree.side (inR IntKind.u8 ((48:Int)+Int.tmod (↑q:Int) (10:Int))) (Tree.side ((0:Nat)=(0:Nat)∧List.length c≤List.length c∧(List.length c+(1:Nat))*(1:Nat)≤(140737488355328:Nat)) (Tree.side ((10:Int)≠(0:Int)∧inR IntKind.u32 (Int.tdiv (↑q:Int) (10:Int))) (Tree.side (inR IntKind.i64 ((↑k:Int)+(1:Int))) (Tree.leaf (jF.back (1:Nat) [((1:Nat),AV.ptr (0:Nat) (0:Nat)),((4:Nat),AV.osl (1:Nat) (1:Nat) (0:Nat) (List.length c+(1:Nat))),((6:Nat),AV.int .u32 (Int.tdiv (↑q:Int) (10:Int))),((12:Nat),AV.sl (canon x).length (1:Nat) (natG .u32 (canon x))),((13:Nat),AV.int .i64 (↑(canon x).length:Int)),((14:Nat),AV.int .i64 (↑i:Int)),((18:Nat),AV.int .i64 ((↑k:Int)+(1:Int)))] [Blk.box [AV.bool neg,AV.sl (canon x).length (1:Nat) (natG .u32 (canon x))],Blk.arr (List.length c+(1:Nat)) (1:Nat) (appG c.length (natG .u8 c) (zf (zg (1:Nat) [AV.int .u8 ((48:Int)+Int.tmod (↑q:Int) (10:Int))]) (0:Nat))),Blk.arr (1:Nat) (1:Nat) (zg (1:Nat) [AV.int .u8 ((48:Int)+Int.tmod (↑q:Int) (10:Int))])])))))))) (Tree.side (inR IntKind.i64 ((↑i:Int)+(1:Int))) (Tree.leaf (jF.back (0:Nat) [((1:Nat),AV.ptr (0:Nat) (0:Nat)),((4:Nat),AV.osl (1:Nat) (1:Nat) (0:Nat) c.length),((6:Nat),AV.int .u32 (↑q:Int)),((12:Nat),AV.sl (canon x).length (1:Nat) (natG .u32 (canon x))),((13:Nat),AV.int .i64 (↑(canon x).length:Int)),((14:Nat),AV.int .i64 ((↑i:Int)+(1:Int))),((18:Nat),AV.int .i64 (↑k:Int))] [Blk.box [AV.bool neg,AV.sl (canon x).length (1:Nat) (natG .u32 (canon x))],Blk.arr c.length (1:Nat) (natG .u8 c)])))) (by kernel_rfl) ?_
     have e10:(10:Int)=((10:Nat):Int):=rfl
     have em:Int.tmod (q:Int) 10=((q%10:Nat):Int):=by rw [e10,X7]
     have ed:Int.tdiv (q:Int) 10=((q/10:Nat):Int):=by rw [e10,Yf]
     simp only [Tree.holds,zc,inR,lo,hi,em,ed]
     refine⟨fun hlt2=> ?_,fun hge2=> ?_⟩
     ·have hlt2:k<9:=by simp at hlt2; omega
      refine⟨by decide,fun _=>⟨by omega,fun _=>⟨by omega,fun _=>⟨⟨trivial,Nat.le_refl _,by omega⟩,fun _=>⟨⟨by decide,by omega,by omega⟩,fun _=>⟨by omega,fun _=> ?_⟩⟩⟩⟩⟩⟩
      rw [if_pos trivial]
      refine⟨⟨k+1,by omega⟩,by show 9 - (k+1)<9 - k; omega,?_,?_,by kernel_rfl,Nat.zero_le _⟩
      ·simp [SW2,hnext,hqn,magS,natS,za]
      ·simp only [hnext]
       refine⟨by simp [vD,magS,natS,za],⟨by simp,rfl,?_⟩,trivial⟩
       have:=ya (k:=.u8) (l:=c) (v:=48+((q%10:Nat):Int)) (by omega)
       rw [show(48+((q%10:Nat):Int)).toNat=48+q%10 by omega] at this
       exact this
     ·have hge2:k=9:=by simp at hge2; omega
      subst hge2
      refine⟨by omega,fun _=> ?_⟩
      rw [if_neg (by decide),if_pos trivial]
      have hcw:c=wb x (i+1):=by rw [← hc,hstep]
      exact⟨⟨i+1,hlt⟩,by show _ - (i+1)<_ - i; omega,by simp [SW,hcw,magS,natS,za],by simp [hcw,vD,magS,natS,za],by kernel_rfl,Nat.zero_le _⟩
   ·have hge:i=(canon x).length:=by simp at hge; omega
    subst hge
    exact Y6 neg x hp hx0 hq b hb.symm
end Go.Proofs.Tryz
end
