/- Part 5 of the proof. -/
import Derived.Test.YtlkbiennfpeoiaaGreatDoorSxd
import Derived.Control
import Derived.Test.YtlkbiennfpeoiaaGreatDoorProg
import Derived.RangeFuncKeeps
import Derived.RangeFuncNested
import Derived.RangeFuncBound
import Derived.RangeFuncCalls
import Derived.RangeFuncLeaves
import Derived.Shelf.Abstract
import Derived.Shelf.RegionOpen
import Derived.WalkKit
import Derived.OwnWalkIn
import Derived.TacticsInMore
import Derived.LoopNIn
import Derived.LoopIn
import Derived.Lib.Hide
set_option linter.unusedVariables false
set_option linter.unusedSimpArgs false
set_option linter.unusedSectionVars false
section
namespace Go.Nov
theorem top2{l:List Nat}{m:Nat}(h:dig l)(hl:l.length=m+2):∃ r,r<B^m∧val l=r+B^m*(l.getD m 0+B*l.getD (m+1) 0):=by
 refine⟨val (l.take m),?_,?_⟩
 ·have:=qn (ju h m)
  rwa [List.length_take,Nat.min_eq_left (by omega)] at this
 ·have h1:=zw l m
  have h2:=zw l (m+1)
  rw [List.take_of_length_le (by omega),h1,Nat.pow_succ] at h2
  rw [h2,Nat.mul_add,Nat.mul_assoc,Nat.add_assoc]
theorem top3{l:List Nat}{m:Nat}(h:dig l)(hl:l.length=m+3):∃ r,r<B^m∧val l=r+B^m*(l.getD m 0+B*(l.getD (m+1) 0+B*l.getD (m+2) 0)):=by
 refine⟨val (l.take m),?_,?_⟩
 ·have:=qn (ju h m)
  rwa [List.length_take,Nat.min_eq_left (by omega)] at this
 ·have h1:=zw l m
  have h2:=zw l (m+1)
  have h3:=zw l (m+2)
  rw [List.take_of_length_le (by omega),h2,h1,Nat.pow_succ,Nat.pow_succ] at h3
  rw [h3,Nat.pow_succ]
  simp only [Nat.mul_add,Nat.mul_assoc,Nat.add_assoc]
theorem horner(b t u v:Nat):v+b*(u+b*t)=(t*b+u)*b+v:=by grind
theorem zdc(p b y:Nat):2*(p*(y*b))=p*b*(2*y):=by grind
theorem UJ{r S x V:Nat}(hr:r<S)(h:V=r+S*x):x*S≤V∧V<(x+1)*S:=by
 rw [h,Nat.succ_mul,Nat.mul_comm x S]; omega
theorem xF(u:List Nat)(j k i:Nat)(hi:i<k):((u.drop j).take k).getD i 0=u.getD (j+i) 0:=by
 simp [List.getElem?_take,hi,List.getElem?_drop]
theorem Jn(u:List Nat)(j k:Nat)(h:j+k≤u.length):val u=val (u.take j)+B^j*(val ((u.drop j).take k)+B^k*val (u.drop (j+k))):=by
 have h1:u=u.take j++((u.drop j).take k++u.drop (j+k)):=by
  rw [← List.drop_drop,List.take_append_drop,List.take_append_drop]
 conv=>lhs; rw [h1]
 rw [zK,zK,List.length_take,Nat.min_eq_left (by omega),List.length_take,List.length_drop,Nat.min_eq_left (by omega)]
theorem z6{x n:Nat}(h:x<B^n):(canon x).length≤n:=by
 rcases Nat.lt_or_ge n (canon x).length with h1 | h1
 ·exfalso
  have h2:=zY (x:=B^n - 1) (y:=x) ?_
  ·omega
  ·have h3:=qn (zk (B^n - 1))
   have:¬ n<(canon (B^n - 1)).length:=by
    intro hlt
    have hne:canon (B^n - 1)≠[]:=by intro h0; rw [h0] at hlt; simp at hlt
    have hl:=jd (B^n - 1)
    have htop:=q7 (canon (B^n - 1)) (by omega)
    rw [hl] at htop
    have h4:=zw (canon (B^n - 1)) ((canon (B^n - 1)).length - 1)
    rw [Nat.sub_add_cancel (by omega),List.take_length,zn] at h4
    have h5:B^n≤B^((canon (B^n - 1)).length - 1):=Nat.pow_le_pow_right (by decide) (by omega)
    have h6:B^((canon (B^n - 1)).length - 1)*1≤B^((canon (B^n - 1)).length - 1)*(canon (B^n - 1)).getD ((canon (B^n - 1)).length - 1) 0:=Nat.mul_le_mul_left _ (by omega)
    have h7:0<B^n:=Nat.pow_pos (by decide)
    omega
   omega
 ·exact h1
theorem j2{x n:Nat}(h:B^n≤x):n<(canon x).length:=by
 have:=qn (zk x)
 rw [zn] at this
 rcases Nat.lt_or_ge n (canon x).length with h1 | h1
 ·exact h1
 ·have:B^(canon x).length≤B^n:=Nat.pow_le_pow_right (by decide) h1
  omega
theorem zc6{t s:Nat}(ht:0<t)(hs:s=B/(t+1))(htB:t<B):0<s∧s*(t+1)≤B∧B≤2*(t*s):=by
 have h1:s*(t+1)≤B:=hs▸Nat.div_mul_le_self _ _
 have h2:B<(s+1)*(t+1):=by
  have:=Nat.lt_mul_div_succ B (show 0<t+1 by omega)
  rw [← hs,Nat.mul_comm] at this; exact this
 have h3:0<s:=by rw [hs]; exact Nat.div_pos (by omega) (by omega)
 refine⟨h3,h1,?_⟩
 obtain⟨a,rfl⟩:∃ a,t=a+1:=⟨t - 1,by omega⟩
 obtain⟨b,rfl⟩:∃ b,s=b+1:=⟨s - 1,by omega⟩
 have e:(a+1)*(b+1)=a*b+a+b+1:=by simp only [Nat.add_mul,Nat.mul_add]; omega
 have e2:(b+1+1)*(a+1+1)=a*b+2*a+2*b+4:=by simp only [Nat.add_mul,Nat.mul_add,Nat.mul_comm b a]; omega
 rw [e2] at h2
 rw [e]
 have hB:B=1000000000:=rfl
 generalize a*b=p at *
 omega
theorem scaled{y n s t r:Nat}(hr:r<B^n)(hy:y=r+B^n*t)(hs:0<s)(h1:s*(t+1)≤B)(h2:B≤2*(t*s)) :
  y*s<B^(n+1)∧B^(n+1)≤2*(y*s):=by
 have h3:y<B^n*(t+1):=by rw [Nat.mul_add]; omega
 constructor
 ·calc y*s<B^n*(t+1)*s:=Nat.mul_lt_mul_of_pos_right h3 hs
   _=B^n*(s*(t+1)):=by rw [Nat.mul_assoc,Nat.mul_comm (t+1)]
   _≤B^n*B:=Nat.mul_le_mul_left _ h1
   _=B^(n+1):=(Nat.pow_succ ..).symm
 ·calc B^(n+1)=B^n*B:=Nat.pow_succ ..
   _≤B^n*(2*(t*s)):=Nat.mul_le_mul_left _ h2
   _=2*(B^n*t*s):=by rw [Nat.mul_left_comm,Nat.mul_assoc]
   _≤2*(y*s):=Nat.mul_le_mul_left _ (Nat.mul_le_mul_right _ (by omega))
theorem zek{u:List Nat}{j m V W d:Nat}(hd:dig u)(hj:j+(m+2)+1≤u.length)(hVl:(canon V).length=m+2)(hV2:B^(m+2)≤2*V)(hlt:val u<V*B^(j+1))
  (hW:val ((u.drop j).take (m+2+1))=W) (hdd:qV (u.getD (j+m) 0) ((canon V).getD (m+1) 0) ((canon V).getD m 0) 2 ((u.getD (j+(m+2)) 0*B+u.getD (j+(m+1)) 0)/(canon V).getD (m+1) 0) ((u.getD (j+(m+2)) 0*B+u.getD (j+(m+1)) 0)%(canon V).getD (m+1) 0)=d) :
  W<V*B∧B≤2*(canon V).getD (m+1) 0∧u.getD (j+(m+2)) 0≤(canon V).getD (m+1) 0∧W/V≤d∧d≤W/V+1∧d<B:=by
 have hB:B=1000000000:=rfl
 have hVB:=qn (zk V)
 rw [zn,hVl] at hVB
 have hP:0<B^m:=Nat.pow_pos (by decide)
 have hWV:W<V*B:=by
  have h1:=Jn u j (m+2+1) (by omega)
  have h2:B^j*W≤val u:=by rw [h1,Nat.mul_add,hW]; exact Nat.le_trans (Nat.le_add_right _ _) (Nat.le_add_left _ _)
  have h3:B^j*W<B^j*(V*B):=by
   calc B^j*W≤val u:=h2
    _<V*B^(j+1):=hlt
    _=B^j*(V*B):=by rw [Nat.pow_succ,Nat.mul_left_comm]
  exact Nat.lt_of_mul_lt_mul_left h3
 obtain⟨rv,hrv,hv⟩:=top2 (zk V) hVl
 rw [zn] at hv
 have hwl:((u.drop j).take (m+2+1)).length=m+3:=by simp; omega
 obtain⟨rw',hrw,hw⟩:=top3 (ju (ZX hd j) (m+2+1)) hwl
 rw [xF _ _ _ _ (by omega),xF _ _ _ _ (by omega),xF _ _ _ _ (by omega)] at hw
 have hyB:=zO (zk V) (m+1)
 have hzB:=zO (zk V) m
 have hvB:=zO hd (j+m)
 have huB:=zO hd (j+(m+1))
 rw [hW] at hw
 generalize hyy:(canon V).getD (m+1) 0=y at *
 generalize hzz:(canon V).getD m 0=z at *
 generalize u.getD (j+(m+2)) 0=t at *
 generalize u.getD (j+(m+1)) 0=uu at *
 generalize u.getD (j+m) 0=vv at *
 have ev:z+B*y=y*B+z:=by rw [Nat.mul_comm y B,Nat.add_comm]
 have ew:vv+B*(uu+B*t)=(t*B+uu)*B+vv:=horner B t uu vv
 rw [ev] at hv; rw [ew] at hw
 have hy2:B≤2*y:=by
  rcases Nat.lt_or_ge (2*y) B with h1 | h1
  ·exfalso
   have h2:V<B^m*(y*B+z+1):=by rw [Nat.mul_add]; omega
   have h3:B^m*(y*B+z+1)≤B^m*((y+1)*B):=Nat.mul_le_mul_left _ (by rw [Nat.add_mul]; omega)
   have h4:2*(B^m*((y+1)*B))=B^(m+1)*(2*(y+1)):=by
    rw [Nat.pow_succ]; exact zdc _ _ _
   have h5:B^(m+1)*(2*(y+1))≤B^(m+1)*B:=Nat.mul_le_mul_left _ (by omega)
   have h6:B^(m+2)=B^(m+1)*B:=Nat.pow_succ ..
   omega
  ·exact h1
 obtain⟨a1,a2⟩:=UJ hrv hv
 obtain⟨b1,b2⟩:=UJ hrw hw
 obtain⟨g1,g2,g3,g4⟩:=VW (W:=W) (V:=V) (S:=B^m) (t:=t) (u:=uu) (v:=vv) (y:=y) (z:=z) hP a1 a2 b1 b2 hWV hzB hvB hy2 hyB (by omega)
 rw [hdd] at g1 g2 g3
 refine⟨hWV,hy2,?_,g1,g2,g3⟩
 rcases Nat.lt_or_ge y t with h1 | h1
 ·exfalso
  have h2:(y+1)*B≤t*B:=Nat.mul_le_mul_right _ h1
  rw [Nat.add_mul] at h2
  omega
 ·exact h1
theorem step_eq{u u' q:List Nat}{j k V U0:Nat}(hd:dig u)(hj:j+k≤u.length)(hV:V<B^(k - 1))(hk:1≤k)(hV0:0<V)(hlt:val u<V*B^(j+1))(hq:j<q.length)(heq:U0=V*B^(j+1)*val (q.drop (j+1))+val u)
  (hu':val u'=val (u.take j)+B^j*(val ((u.drop j).take k)%V+B^k*val (u.drop (j+k)))) :
  val u'<V*B^j∧U0=V*B^j*val ((q.set j (val ((u.drop j).take k)/V)).drop j)+val u':=by
 have h1:=Jn u j k hj
 have h0:=qn (ju hd j)
 rw [List.length_take,Nat.min_eq_left (by omega)] at h0
 have hP:0<B^j:=Nat.pow_pos (by decide)
 generalize val ((u.drop j).take k)=W at *
 generalize val (u.take j)=r at *
 have hH:val (u.drop (j+k))=0:=by
  rcases Nat.eq_zero_or_pos (val (u.drop (j+k))) with h | h
  ·exact h
  ·exfalso
   have h2:B^k*1≤B^k*val (u.drop (j+k)):=Nat.mul_le_mul_left _ h
   have h3:B^j*B^k≤val u:=by
    rw [h1]
    refine Nat.le_trans (Nat.mul_le_mul_left _ (m:=W+B^k*val (u.drop (j+k))) (by omega)) (Nat.le_add_left _ _)
   have h4:V*B^(j+1)<B^(k - 1)*B^(j+1):=Nat.mul_lt_mul_of_pos_right hV (Nat.pow_pos (by decide))
   have h5:B^(k - 1)*B^(j+1)=B^j*B^k:=by rw [← Nat.pow_add,← Nat.pow_add]; congr 1; omega
   omega
 rw [hH] at h1 hu'
 simp only [Nat.mul_zero,Nat.add_zero] at h1 hu'
 have hm:=Nat.mod_lt W hV0
 have hdm:=Nat.div_add_mod W V
 constructor
 ·rw [hu']
  have:B^j*(W%V+1)≤B^j*V:=Nat.mul_le_mul_left _ hm
  rw [Nat.mul_add] at this
  rw [Nat.mul_comm V]; omega
 ·have hset:(q.set j (W/V)).drop j=(W/V)::q.drop (j+1):=by
   rw [List.drop_eq_getElem_cons (by simpa using hq)]
   simp [List.drop_set_of_lt]
  rw [hset,heq,hu',h1]
  simp only [val]
  generalize W/V=d at *
  generalize W%V=e at *
  rw [← hdm,Nat.pow_succ]
  simp only [Nat.mul_add,← Nat.mul_assoc]
  have e1:V*B^j*B*val (List.drop (j+1) q)=V*B^j*B*val (List.drop (j+1) q):=rfl
  have e2:B^j*V*d=V*B^j*d:=by rw [Nat.mul_comm (B^j) V]
  omega
def mixL(u c:List Nat)(j i:Nat):List Nat:=(List.range u.length).map fun p=>if j≤p∧p<j+i then c.getD (p - j) 0 else u.getD p 0
theorem VP(u c:List Nat)(j i:Nat):(mixL u c j i).length=u.length:=by simp [mixL]
theorem zak(u c:List Nat)(j:Nat):mixL u c j 0=u:=by
 apply List.ext_getElem (by simp [mixL])
 intro p h1 h2
 simp only [mixL,List.getElem_map,List.getElem_range]
 rw [if_neg (by omega)]; simp [h2]
theorem VZ(u c:List Nat)(j i:Nat)(x:Nat):((mixL u c j i).set (j+i) x).set (j+i) (c.getD i 0)=mixL u c j (i+1):=by
 rw [List.set_set]
 apply List.ext_getElem (by simp [mixL])
 intro p h1 h2
 simp only [List.getElem_set,mixL,List.getElem_map,List.getElem_range]
 by_cases hp:j+i=p
 ·subst hp; rw [if_pos rfl,if_pos ⟨by omega,by omega⟩]; congr 1; omega
 ·rw [if_neg hp]
  by_cases hc:j≤p∧p<j+i
  ·rw [if_pos hc,if_pos ⟨hc.1,by omega⟩]
  ·rw [if_neg hc,if_neg (by omega)]
theorem zd9{u c:List Nat}(hu:dig u)(hc:dig c)(j i:Nat):dig (mixL u c j i):=by
 intro d hd
 simp only [mixL,List.mem_map] at hd
 obtain⟨p,_,rfl⟩:=hd
 split
 ·exact zO hc _
 ·exact zO hu _
theorem zc9{u:List Nat}{L j k:Nat}(hj:j+k≤u.length)(hL:(canon L).length≤k):val (mixL u (canon L) j k)=val (u.take j)+B^j*(L+B^k*val (u.drop (j+k))):=by
 have h:mixL u (canon L) j k=u.take j++(padN k L++u.drop (j+k)):=by
  apply List.ext_getElem (by simp [mixL,padN]; omega)
  intro p h1 h2
  simp only [mixL,List.getElem_map,List.getElem_range]
  rw [VP] at h1
  by_cases ha:p<j
  ·rw [if_neg (by omega),List.getElem_append_left (by simp; omega)]; simp [h1]
  ·have hjl:(u.take j).length=j:=by simp; omega
   rw [List.getElem_append_right (by omega)]
   simp only [hjl]
   have hpl:(padN k L).length=k:=by simp [padN]; omega
   by_cases hb:p - j<k
   ·rw [if_pos (by omega),List.getElem_append_left (by omega)]
    simp only [padN]
    by_cases hc:p - j<(canon L).length
    ·rw [List.getElem_append_left hc]; simp [hc]
    ·rw [List.getElem_append_right (by omega)]; simp [List.getElem?_eq_none (Nat.le_of_not_lt hc)]
   ·rw [if_neg (by omega),List.getElem_append_right (by omega)]
    simp only [hpl,List.getElem_drop]
    have:j+k+(p - j - k)=p:=by omega
    simp [this,h1]
 rw [h,zK,zK,List.length_take,Nat.min_eq_left (by omega)]
 have hpl:(padN k L).length=k:=by simp [padN]; omega
 have hpv:val (padN k L)=L:=by rw [padN,zK,zn,jv]; simp
 rw [hpl,hpv]
def isD(c:UInt8):Bool:=48≤c.toNat&&c.toNat≤57
def allD(l:List UInt8):Prop:=∀ c∈l,48≤c.toNat∧c.toNat≤57
def numD(l:List UInt8):Nat:=l.foldl (fun a c=>a*10+(c.toNat - 48)) 0
theorem zlj(l:List UInt8)(a:Nat):l.foldl (fun a c=>a*10+(c.toNat - 48)) a=a*10^l.length+numD l:=by
 induction l generalizing a with
 | nil=>simp [numD]
 | cons c l ih=>
  simp only [List.foldl_cons,numD,List.length_cons]
  rw [ih,ih (0*10+(c.toNat - 48)),Nat.pow_succ]
  generalize 10^l.length=p
  generalize numD l=q
  generalize c.toNat - 48=d
  rw [Nat.add_mul,Nat.zero_mul,Nat.zero_add,Nat.mul_assoc,Nat.mul_comm 10 p]
  omega
theorem vP(l m:List UInt8):numD (l++m)=numD l*10^m.length+numD m:=by
 rw [numD,List.foldl_append,zlj]; rfl
theorem zb4(l:List UInt8)(c:UInt8):numD (l++[c])=numD l*10+(c.toNat - 48):=by
 simp [numD]
theorem y4{l:List UInt8}(h:allD l):numD l<10^l.length:=by
 induction l with
 | nil=>simp [numD]
 | cons c l ih=>
  have hc:=h c (by simp)
  have hl:=ih fun d hd=>h d (by simp [hd])
  have:numD (c::l)=(c.toNat - 48)*10^l.length+numD l:=by
   rw [show c::l=[c]++l from rfl,vP]; simp [numD]
  rw [this,List.length_cons,Nat.pow_succ]
  have h2:(c.toNat - 48)*10^l.length≤9*10^l.length:=Nat.mul_le_mul_right _ (by omega)
  omega
theorem XO(l:List UInt8)(i:Nat)(h:i<l.length):l.take (i+1)=l.take i++[l.getD i 0]:=by
 rw [List.take_succ_eq_append_getElem h]; simp [List.getD,h]
def decB(x:ByteArray):Nat:=numD x.data.toList
theorem zhg{x:ByteArray}(h:allD x.data.toList)(hl:x.size≤9):decB x<B:=by
 have h1:=y4 h
 have h2:x.data.toList.length=x.size:=by rw [Array.length_toList]; rfl
 have h3:10^x.data.toList.length≤10^9:=Nat.pow_le_pow_right (by decide) (by omega)
 have h4:(10:Nat)^9=B:=by decide
 unfold decB
 omega
end Go.Nov
end
section
namespace Go.Nov.Ten
abbrev B:Nat:=10
def val:List Nat→Nat
 | []=>0
 | d::l=>d+B*val l
def dig(l:List Nat):Prop:=∀ d∈l,d<B
def xp:Nat→Nat→List Nat
 | 0,_=>[]
 | n+1,x=>if x=0 then [] else x%B::xp n (x/B)
def canon(x:Nat):List Nat:=xp x x
theorem Jy:∀ (n m x:Nat),x≤n→x≤m→xp n x=xp m x
 | 0,m,x,h,_=>by
  have:x=0:=by omega
  subst this
  cases m<;>simp [xp]
 | n+1,0,x,_,h=>by
  have:x=0:=by omega
  subst this
  simp [xp]
 | n+1,m+1,x,h1,h2=>by
  simp only [xp]
  by_cases h:x=0
  ·rw [if_pos h,if_pos h]
  ·have:=Nat.div_lt_self (Nat.pos_of_ne_zero h) (show 1<B by decide)
   rw [if_neg h,if_neg h,Jy n m (x/B) (by omega) (by omega)]
theorem zL:canon 0=[]:=rfl
theorem qP{x:Nat}(h:x≠0):canon x=x%B::canon (x/B):=by
 have:=Nat.div_lt_self (Nat.pos_of_ne_zero h) (show 1<B by decide)
 obtain⟨n,rfl⟩:∃ n,x=n+1:=⟨x - 1,by omega⟩
 unfold canon
 rw [xp,if_neg h,Jy n ((n+1)/B) _ (by omega) (Nat.le_refl _)]
theorem zn(x:Nat):val (canon x)=x:=by
 induction x using Nat.strongRecOn with
 | _ x ih=>
  by_cases h:x=0
  ·subst h; simp [zL,val]
  ·rw [qP h,val,ih _ (Nat.div_lt_self (Nat.pos_of_ne_zero h) (by decide))]
   exact Nat.mod_add_div x B
theorem zk(x:Nat):dig (canon x):=by
 induction x using Nat.strongRecOn with
 | _ x ih=>
  by_cases h:x=0
  ·subst h; simp [zL,dig]
  ·rw [qP h]
   intro d hd
   rcases List.mem_cons.1 hd with rfl | hd
   ·exact Nat.mod_lt _ (by decide)
   ·exact ih _ (Nat.div_lt_self (Nat.pos_of_ne_zero h) (by decide)) d hd
theorem q9{d:Nat}{l:List Nat} : dig (d::l)↔d<B∧dig l:=by simp [dig]
theorem je{l m:List Nat} : dig (l++m)↔dig l∧dig m:=by
 simp only [dig,List.mem_append]
 exact⟨fun h=>⟨fun d hd=>h d (.inl hd),fun d hd=>h d (.inr hd)⟩,fun h d hd=>hd.elim (h.1 d) (h.2 d)⟩
theorem zK(l m:List Nat):val (l++m)=val l+B^l.length*val m:=by
 induction l with
 | nil=>simp [val]
 | cons d l ih=>simp only [List.cons_append,val,ih,List.length_cons,Nat.pow_succ]; rw [Nat.mul_add,← Nat.mul_assoc,Nat.mul_comm B (B^l.length),Nat.add_assoc]
theorem qn{l:List Nat}(h:dig l):val l<B^l.length:=by
 induction l with
 | nil=>simp [val]
 | cons d l ih=>
  obtain⟨h1,h2⟩:=q9.1 h
  have:=ih h2
  simp only [val,List.length_cons,Nat.pow_succ]
  have h3:B*(val l+1)≤B*B^l.length:=Nat.mul_le_mul_left _ this
  rw [Nat.mul_add] at h3
  rw [Nat.mul_comm (B^l.length)]
  omega
def tlen:List Nat→Nat
 | []=>0
 | d::l=>if d=0∧tlen l=0 then 0 else tlen l+1
def qC(l:List Nat):List Nat:=l.take (tlen l)
theorem qj:∀ l:List Nat,tlen l≤l.length
 | []=>Nat.le_refl _
 | d::l=>by
  have:=qj l
  simp only [tlen,List.length_cons]
  split<;>omega
theorem jB:∀ (l:List Nat) (j:Nat),tlen l≤j→l.getD j 0=0
 | [],j,_=>by simp
 | d::l,j,h=>by
  simp only [tlen] at h
  split at h
  ·rename_i hd
   cases j with
   | zero=>simp [hd.1]
   | succ j=>simpa using jB l j (by omega)
  ·cases j with
   | zero=>omega
   | succ j=>simpa using jB l j (by omega)
theorem q7:∀ l:List Nat,0<tlen l→l.getD (tlen l - 1) 0≠0
 | [],h=>by simp [tlen] at h
 | d::l,h=>by
  simp only [tlen] at h ⊢
  split at h
  ·omega
  ·rename_i hd
   rw [if_neg hd]
   rcases Nat.eq_zero_or_pos (tlen l) with h0 | h0
   ·rw [h0]
    simp only [h0,and_true] at hd
    simpa using hd
   ·have:=q7 l h0
    rw [show tlen l+1 - 1=(tlen l - 1)+1 by omega]
    simpa using this
theorem val_zero{l:List Nat}(h:tlen l=0):val l=0:=by
 induction l with
 | nil=>rfl
 | cons d l ih=>
  simp only [tlen] at h
  split at h
  ·rename_i hd; simp [val,hd.1,ih hd.2]
  ·omega
theorem Qa{l:List Nat}(h:0<tlen l):0<val l:=by
 induction l with
 | nil=>simp [tlen] at h
 | cons d l ih=>
  simp only [tlen] at h
  split at h
  ·omega
  ·rename_i hd
   simp only [val]
   rcases Nat.eq_zero_or_pos (tlen l) with h0 | h0
   ·simp only [h0,and_true] at hd; omega
   ·have:=ih h0
    have:0<B*val l:=Nat.mul_pos (by decide) this
    omega
theorem zS{l:List Nat}(h:dig l):qC l=canon (val l):=by
 induction l with
 | nil=>simp [qC,tlen,val,zL]
 | cons d l ih=>
  obtain⟨h1,h2⟩:=q9.1 h
  have ih:=ih h2
  simp only [qC] at ih ⊢
  by_cases hz:d=0∧tlen l=0
  ·have:=val_zero hz.2
   simp [tlen,hz,val,this,zL]
  ·have hne:d+B*val l≠0:=by
    rcases Nat.eq_zero_or_pos (tlen l) with h0 | h0
    ·simp only [h0,and_true] at hz; omega
    ·have:=Nat.mul_pos (show 0<B by decide) (Qa h0)
     omega
   simp only [val,tlen,if_neg hz,List.take_succ_cons]
   rw [qP hne,ih]
   have e1:(d+B*val l)%B=d:=by rw [Nat.add_mul_mod_self_left,Nat.mod_eq_of_lt h1]
   have e2:(d+B*val l)/B=val l:=by rw [Nat.add_mul_div_left _ _ (by decide),Nat.div_eq_of_lt h1,Nat.zero_add]
   rw [e1,e2]
theorem jd(x:Nat):tlen (canon x)=(canon x).length:=by
 have:=zS (zk x)
 rw [zn] at this
 have h:=congrArg List.length this
 simp only [qC,List.length_take] at h
 have:=qj (canon x)
 omega
theorem JW{l:List Nat}(h:dig l)(ht:tlen l=l.length):canon (val l)=l:=by
 rw [← zS h,qC,ht,List.take_length]
theorem ZR:∀ {l m:List Nat},dig l→dig m→l.length=m.length→val l=val m→l=m
 | [],[],_,_,_,_=>rfl
 | [],_::_,_,_,h,_=>by simp at h
 | _::_,[],_,_,h,_=>by simp at h
 | d::l,e::m,h1,h2,h3,h4=>by
  obtain⟨a1,a2⟩:=q9.1 h1
  obtain⟨b1,b2⟩:=q9.1 h2
  simp only [val] at h4
  have e1:d=e:=by
   have:=congrArg (· % B) h4
   simpa only [Nat.add_mul_mod_self_left,Nat.mod_eq_of_lt a1,Nat.mod_eq_of_lt b1] using this
  subst e1
  have e2:val l=val m:=Nat.eq_of_mul_eq_mul_left (show 0<B by decide) (by omega)
  rw [ZR a2 b2 (by simpa using h3) e2]
theorem uP{i:Nat} : ∀ {l m:List Nat},dig l→l.length=m.length→(∀ j,i<j→l.getD j 0=m.getD j 0)→l.getD i 0<m.getD i 0→val l<val m:=by
 induction i with
 | zero=>
  intro l m h1 h3 h4 h5
  cases l with
  | nil=>cases m with
   | nil=>simp at h5
   | cons _ _=>simp at h3
  | cons d l=>cases m with
   | nil=>simp at h3
   | cons e m=>
    simp only [List.getD_cons_zero] at h5
    have:l=m:=by
     apply List.ext_getElem (by simpa using h3)
     intro j hj hj'
     have:=h4 (j+1) (by omega)
     simpa [hj,hj'] using this
    subst this
    simp only [val]; omega
 | succ i ih=>
  intro l m h1 h3 h4 h5
  cases l with
  | nil=>cases m with
   | nil=>simp at h5
   | cons _ _=>simp at h3
  | cons d l=>cases m with
   | nil=>simp at h3
   | cons e m=>
    simp only [List.getD_cons_succ] at h5
    obtain⟨a1,a2⟩:=q9.1 h1
    have:=ih a2 (by simpa using h3) (fun j hj=>by simpa using h4 (j+1) (by omega)) h5
    simp only [val]
    have h6:B*(val l+1)≤B*val m:=Nat.mul_le_mul_left _ this
    rw [Nat.mul_add] at h6
    omega
theorem zY{x y:Nat}(h:(canon x).length<(canon y).length):x<y:=by
 have h1:=qn (zk x)
 rw [zn] at h1
 have h2:B^((canon y).length - 1)≤y:=by
  have hl:=jd y
  have hpos:0<tlen (canon y):=by omega
  have:=q7 (canon y) hpos
  rw [hl] at this
  generalize hc:canon y=l at *
  have hy:val l=y:=by rw [← hc,zn]
  have hsplit:l=l.take (l.length - 1)++[l.getD (l.length - 1) 0]:=by
   have hlt:l.length - 1<l.length:=by omega
   rw [show l.getD (l.length - 1) 0=l[l.length - 1] by simp [List.getD,hlt]]
   have:=List.take_append_getElem hlt
   rw [this,show l.length - 1+1=l.length by omega,List.take_length]
  rw [← hy]
  conv=>rhs; rw [hsplit]
  rw [zK]
  simp only [val,List.length_take,Nat.mul_zero,Nat.add_zero]
  rw [show min (l.length - 1) l.length=l.length - 1 by omega]
  have:B^(l.length - 1)*1≤B^(l.length - 1)*l.getD (l.length - 1) 0:=Nat.mul_le_mul_left _ (Nat.pos_of_ne_zero this)
  omega
 have h3:B^(canon x).length≤B^((canon y).length - 1):=Nat.pow_le_pow_right (by decide) (by omega)
 omega
theorem zw:∀ (l:List Nat) (i:Nat),val (l.take (i+1))=val (l.take i)+B^i*l.getD i 0
 | [],i=>by simp [val]
 | d::l,0=>by simp [val]
 | d::l,i+1=>by
  have:=zw l i
  simp only [List.take_succ_cons,val,this,List.getD_cons_succ,Nat.pow_succ]
  rw [Nat.mul_add,Nat.add_assoc,← Nat.mul_assoc,Nat.mul_comm B (B^i)]
theorem zO{l:List Nat}(h:dig l)(i:Nat):l.getD i 0<B:=by
 by_cases hi:i<l.length
 ·have:=h l[i] (List.getElem_mem hi)
  simpa [List.getD,hi] using this
 ·simp [List.getD,List.getElem?_eq_none (Nat.le_of_not_lt hi)]
theorem uf:∀ (l:List Nat) (p d:Nat),p<l.length→val (l.set p d)+B^p*l.getD p 0=val l+B^p*d
 | [],p,d,h=>by simp at h
 | e::l,0,d,_=>by simp only [List.set_cons_zero,val,List.getD_cons_zero,Nat.pow_zero]; omega
 | e::l,p+1,d,h=>by
  have:=uf l p d (by simpa using h)
  have h2:=congrArg (B * ·) this
  simp only [Nat.mul_add,← Nat.mul_assoc] at h2
  simp only [List.set_cons_succ,val,List.getD_cons_succ,Nat.pow_succ,Nat.mul_comm (B^p) B]
  omega
theorem Zx{l:List Nat}(h:dig l)(p:Nat){d:Nat}(hd:d<B):dig (l.set p d):=by
 intro e he
 rcases List.mem_or_eq_of_mem_set he with he | rfl
 ·exact h e he
 ·exact hd
theorem ju{l:List Nat}(h:dig l)(n:Nat):dig (l.take n):=fun e he=>h e (List.mem_of_mem_take he)
theorem ZX{l:List Nat}(h:dig l)(n:Nat):dig (l.drop n):=fun e he=>h e (List.mem_of_mem_drop he)
theorem Qk{l:List Nat}{n:Nat}(hv:val l<B^n){p:Nat}(hp:n≤p):l.getD p 0=0:=by
 rcases Nat.eq_zero_or_pos (l.getD p 0) with h | h
 ·exact h
 exfalso
 have h1:=zw l p
 have h2:val l=val (l.take (p+1))+B^(l.take (p+1)).length*val (l.drop (p+1)):=by rw [← zK,List.take_append_drop]
 have h3:B^p*1≤B^p*l.getD p 0:=Nat.mul_le_mul_left _ h
 have h4:B^n≤B^p:=Nat.pow_le_pow_right (by decide) hp
 omega
def padN(n x:Nat):List Nat:=canon x++List.replicate (n - (canon x).length) 0
theorem jv(n:Nat):val (List.replicate n 0)=0:=by
 induction n with
 | zero=>rfl
 | succ n ih=>simp [List.replicate_succ,val,ih]
theorem qU(n:Nat):dig (List.replicate n 0):=by
 intro d hd
 rw [List.mem_replicate] at hd
 rw [hd.2]; decide
theorem XS{l:List Nat}(h:dig l):l=padN l.length (val l):=by
 have ht:=zS h
 have hl:=congrArg List.length ht
 have:=qj l
 simp only [qC,List.length_take] at hl
 refine ZR h (je.2 ⟨zk _,qU _⟩) ?_ ?_
 ·simp only [padN,List.length_append,List.length_replicate]; omega
 ·rw [padN,zK,zn,jv]; omega
theorem Kb{l:List Nat}(h:dig l):tlen l=(canon (val l)).length:=by
 have hl:=congrArg List.length (zS h)
 have:=qj l
 simp only [qC,List.length_take] at hl
 omega
end Go.Nov.Ten
end
section
namespace Go.Nov
theorem yL(s:ByteArray)(a b:Nat):(s.extract a b).data.toList=(s.data.toList.take b).drop a:=by
 rw [ByteArray.data_extract,Array.toList_extract]
 show List.extract s.data.toList a b=_
 rw [List.extract_eq_drop_take',List.drop_take]
theorem yf{α:Type}{l m:List α}{p:Nat}{z:α}(h:p<l.length):(l++m).getD p z=l.getD p z:=by
 simp only [List.getD]; rw [List.getElem?_append_left h]
theorem Qp{α:Type}{l m:List α}{p:Nat}{z:α}(h:l.length≤p):(l++m).getD p z=m.getD (p - l.length) z:=by
 simp only [List.getD]; rw [List.getElem?_append_right h]
theorem UX{α β:Type}{f:α→β}{l:List α}{p:Nat}{z:α}{y:β}(h:p<l.length):(l.map f).getD p y=f (l.getD p z):=by
 simp [List.getD,h]
theorem zfa{α:Type}{n p:Nat}{a z:α}(h:p<n):(List.replicate n a).getD p z=a:=by
 simp [List.getD,h]
theorem zbp{α:Type}{l:List α}{p:Nat}{z:α}(h:l.length≤p):l.getD p z=z:=by
 simp [List.getD,List.getElem?_eq_none h]
theorem Ut{α:Type}{l:List α}{n p:Nat}{z:α}(h:p<n):(l.take n).getD p z=l.getD p z:=by
 simp only [List.getD,List.getElem?_take,if_pos h]
def decs:Nat→Nat→List Nat
 | 0,_=>[]
 | k+1,x=>x%10::decs k (x/10)
theorem yX:∀ k x,(decs k x).length=k
 | 0,_=>rfl
 | k+1,x=>by simp [decs,yX k]
theorem VA:∀ k x,Ten.dig (decs k x)
 | 0,_=>by simp [decs,Ten.dig]
 | k+1,x=>Ten.q9.2 ⟨Nat.mod_lt _ (by decide),VA k _⟩
theorem Kz:∀ k x,x<10^k→Ten.val (decs k x)=x
 | 0,x,h=>by simp [decs,Ten.val] at h ⊢; omega
 | k+1,x,h=>by
  simp only [decs,Ten.val]
  rw [Kz k (x/10) (Nat.div_lt_of_lt_mul (by rw [Nat.pow_succ,Nat.mul_comm] at h; exact h))]
  exact Nat.mod_add_div x 10
theorem Zk:∀ (a b v w:Nat),v<10^a→decs (a+b) (v+10^a*w)=decs a v++decs b w
 | 0,b,v,w,h=>by simp at h; subst h; simp [decs]
 | a+1,b,v,w,h=>by
  rw [show a+1+b=(a+b)+1 by omega]
  simp only [decs,List.cons_append]
  have e1:10^(a+1)*w=10*(10^a*w):=by rw [Nat.pow_succ,Nat.mul_comm (10^a) 10,Nat.mul_assoc]
  have h2:v/10<10^a:=Nat.div_lt_of_lt_mul (by rw [Nat.pow_succ,Nat.mul_comm] at h; exact h)
  rw [e1,Nat.add_mul_mod_self_left,Nat.add_mul_div_left _ _ (by decide),Zk a b (v/10) w h2]
theorem Jw:∀ (k x:Nat),decs (k+1) x=decs k x++[x/10^k%10]
 | 0,x=>by simp [decs]
 | k+1,x=>by
  rw [decs,Jw k (x/10),decs,List.cons_append]
  congr 3
  rw [Nat.div_div_eq_div_mul,Nat.pow_succ,Nat.mul_comm]
theorem zd8{k x:Nat}(h:x<10^k):decs k x=Ten.padN k x:=by
 have:=Ten.XS (VA k x)
 rwa [yX,Kz k x h] at this
def dec(x:Nat):List Nat:=Ten.canon x
def byt(d:Nat):UInt8:=UInt8.ofNat (48+d)
theorem Z6{k x:Nat}(h:x<10^k):(dec x).length≤k:=by
 rcases Nat.lt_or_ge k (dec x).length with h1 | h1
 ·exfalso
  have hl:=Ten.jd x
  have htop:=Ten.q7 (Ten.canon x) (by simp only [dec] at h1; omega)
  rw [hl] at htop
  have h4:=Ten.zw (Ten.canon x) ((Ten.canon x).length - 1)
  simp only [dec] at h1
  rw [Nat.sub_add_cancel (by omega),List.take_length,Ten.zn] at h4
  have h5:10^k≤10^((Ten.canon x).length - 1):=Nat.pow_le_pow_right (by decide) (by omega)
  have h6:10^((Ten.canon x).length - 1)*1≤10^((Ten.canon x).length - 1)*(Ten.canon x).getD ((Ten.canon x).length - 1) 0:=Nat.mul_le_mul_left _ (by omega)
  have h7:x=Ten.val ((Ten.canon x).take ((Ten.canon x).length - 1))+10^((Ten.canon x).length - 1)*(Ten.canon x).getD ((Ten.canon x).length - 1) 0:=h4
  omega
 ·exact h1
theorem U3{x:Nat}(h:0<(dec x).length):(dec x).getD ((dec x).length - 1) 0≠0:=by
 have hl:=Ten.jd x
 have htop:=Ten.q7 (Ten.canon x) (by simp only [dec] at h; omega)
 rwa [hl] at htop
theorem Vb{x:Nat}(h:x≠0):0<(dec x).length:=by
 simp only [dec]; rw [Ten.qP h]; simp
theorem dec_lt(x i:Nat):(dec x).getD i 0<10:=Ten.zO (Ten.zk x) i
def txt(x:Nat):List UInt8:=if x=0 then [48] else((dec x).map byt).reverse
def parse:List UInt8→Bool×List UInt8
 | []=>(false,[])
 | c::b=>if c=45 then(true,b) else(false,c::b)
def sgn(neg:Bool)(b:List UInt8):List UInt8:=if neg then 45::b else b
theorem zad(s:List UInt8):sgn (parse s).1 (parse s).2=s:=by
 cases s with
 | nil=>rfl
 | cons c b=>
  simp only [parse]
  split
  ·rename_i h; subst h; rfl
  ·rfl
def jW(neg:Bool)(b:List UInt8):Bool:= !(decide (b=[])) && !(neg&&decide (b=[48])) && !(decide (b.getD 0 0=48)&&decide (1<b.length))&&b.all isD
def errI(s:List UInt8):Int:=if jW (parse s).1 (parse s).2 then(if 1000<(parse s).2.length then 14 else 0) else 12
theorem U6{b:List UInt8} : b.all isD=true↔allD b:=by
 simp only [List.all_eq_true,allD,isD,Bool.and_eq_true,decide_eq_true_eq]
theorem Vk{neg:Bool}{b:List UInt8}(h:jW neg b=true):allD b∧b≠[]:=by
 simp only [jW,Bool.and_eq_true,Bool.not_eq_true',decide_eq_false_iff_not] at h
 exact⟨U6.1 h.2,h.1.1.1⟩
theorem kF{neg:Bool}{b:List UInt8}(h:b.getD 0 0=48)(hl:1<b.length):jW neg b=false:=by
 have e:(decide (b.getD 0 0=48)&&decide (1<b.length))=true:=by rw [h]; simp [hl]
 unfold jW
 rw [e]
 simp
theorem K1{c d:UInt8}(h:(c.toNat:Int)=(d.toNat:Int)):c=d:=UInt8.toNat_inj.1 (by omega)
theorem WW{s:List UInt8}(h:errI s=0):∃ neg b,s=sgn neg b∧parse s=(neg,b)∧jW neg b=true∧allD b∧b≠[]∧b.length≤1000:=by
 unfold errI at h
 split at h
 ·rename_i hf
  split at h
  ·cases h
  ·rename_i hl
   obtain⟨h1,h2⟩:=Vk hf
   exact⟨_,_,(zad s).symm,rfl,hf,h1,h2,by omega⟩
 ·cases h
theorem kI(s:List UInt8):errI s=0∨errI s=12∨errI s=14:=by
 unfold errI
 split
 ·split<;>simp
 ·simp
def negI(s:List UInt8):Bool:=(parse s).1
def numI(s:List UInt8):Nat:=numD (parse s).2
theorem ZL{s:List UInt8}(h:errI s=0):s=sgn (negI s) (parse s).2∧allD (parse s).2∧(parse s).2≠[]∧(parse s).2.length≤1000:=by
 obtain⟨neg,b,h1,h2,h3,h4,h5,h6⟩:=WW h
 simp only [negI,h2]
 exact⟨h1,h4,h5,h6⟩
theorem XC{a b c k:Nat}(h:k=b*c):(a^b)^c=a^k:=by rw [h,Nat.pow_mul]
theorem yd{s:List UInt8}(h:errI s=0):(canon (numI s)).length≤112:=by
 obtain⟨_,h1,_,h2⟩:=ZL h
 refine z6 ?_
 have h3:=y4 h1
 obtain⟨k,hk⟩:∃ k,k=9*112:=⟨_,rfl⟩
 have h4:10^(parse s).2.length≤10^k:=Nat.pow_le_pow_right (by decide) (by omega)
 have h5:B^112=10^k:=by rw [show B=10^9 by decide]; exact XC hk
 rw [h5]
 exact Nat.lt_of_lt_of_le h3 h4
def z8(s t:List UInt8):Int:=if errI s=0 then errI t else errI s
theorem zq{s t:List UInt8} : z8 s t=0↔errI s=0∧errI t=0:=by
 unfold z8
 split
 ·rename_i h; simp [h]
 ·rename_i h; simp [h]
def wr(neg:Bool)(x:Nat):List UInt8×Int:=if x=0 then([48],0) else if 1000<(dec x).length then([],14) else(sgn neg (txt x),0)
def gcdR(s t:List UInt8):List UInt8×Int:=if z8 s t=0 then wr false (Nat.gcd (numI s) (numI t)) else([],z8 s t)
def dg(b:List UInt8):List Nat:=(b.map fun c=>c.toNat - 48).reverse
theorem Yp(b:List UInt8):(dg b).length=b.length:=by simp [dg]
theorem zji{b:List UInt8}(h:allD b):Ten.dig (dg b):=by
 intro d hd
 simp only [dg,List.mem_reverse,List.mem_map] at hd
 obtain⟨c,hc,rfl⟩:=hd
 have:=h c hc
 show c.toNat - 48<10
 omega
theorem XU:∀ b:List UInt8,Ten.val (dg b)=numD b
 | []=>rfl
 | c::b=>by
  have e:dg (c::b)=dg b++[c.toNat - 48]:=by simp [dg]
  rw [e,Ten.zK,XU b,Yp,show c::b=[c]++b from rfl,vP]
  simp only [Ten.val,numD,List.foldl_cons,List.foldl_nil]
  rw [Nat.mul_comm]; simp [Nat.add_comm]
def cmpN(x y:Nat):Int:=if x<y then -1 else if y<x then 1 else 0
def zH(s:List UInt8):Nat:=s.findIdx (· == 47)
def cutR(s:List UInt8):List UInt8×List UInt8×Bool:=if zH s<s.length then(s.take (zH s),s.drop (zH s+1),true) else(s,[],false)
theorem JJ(s:List UInt8):zH s≤s.length:=List.findIdx_le_length
theorem Qh{s:List UInt8}(h:zH s<s.length):s.getD (zH s) 0=47:=by
 have:=List.findIdx_getElem (w:=h)
 simp only [List.getD,List.getElem?_eq_getElem h,Option.getD_some]
 exact beq_iff_eq.1 this
theorem Wu{s:List UInt8}{j:Nat}(h:j<zH s):s.getD j 0≠47:=by
 have hl:j<s.length:=Nat.lt_of_lt_of_le h (JJ s)
 have:=List.not_of_lt_findIdx h
 simp only [List.getD,List.getElem?_eq_getElem hl,Option.getD_some]
 simpa using this
theorem zc1{s:List UInt8}{i:Nat}(hi:i<s.length)(h:s.getD i 0=47)(hb:∀ j,j<i→s.getD j 0≠47):zH s=i:=by
 rcases Nat.lt_trichotomy (zH s) i with h1 | h1 | h1
 ·exact absurd (Qh (Nat.lt_trans h1 hi)) (hb _ h1)
 ·exact h1
 ·exact absurd h (Wu h1)
theorem XT{s:List UInt8}(hb:∀ j,j<s.length→s.getD j 0≠47):zH s=s.length:=by
 rcases Nat.lt_or_ge (zH s) s.length with h | h
 ·exact absurd (Qh h) (hb _ h)
 ·exact Nat.le_antisymm (JJ s) h
def errR(s:List UInt8):Int:=
 if(cutR s).2.2 then
  if errI (cutR s).1=12∨errI (cutR s).2.1=12∨negI (cutR s).2.1=true∨(cutR s).2.1=[48]∨(cutR s).2.1=[49] then 12
  else if errI (cutR s).1≠0∨errI (cutR s).2.1≠0 then 14
  else if(gcdR (cutR s).1 (cutR s).2.1).1≠[49] then 12 else 0
 else errI s
theorem zbq{s:List UInt8}(h:¬ zH s<s.length):cutR s=(s,[],false):=if_neg h
theorem YE{s:List UInt8}(h:zH s<s.length):cutR s=(s.take (zH s),s.drop (zH s+1),true):=if_pos h
theorem WX(s:List UInt8):(cutR s).1.length≤s.length∧(cutR s).2.1.length≤s.length:=by
 unfold cutR
 split<;>simp<;>omega
theorem J2{s:List UInt8}(h:s≠[]):negI s=decide (s.getD 0 0=45):=by
 cases s with
 | nil=>exact absurd rfl h
 | cons c b=>
  simp only [negI,parse]
  split
  ·rename_i hc; subst hc; rfl
  ·rename_i hc; simp [hc]
theorem KQ:errI []=12:=rfl
def isL(c:UInt8):Bool:=(97≤c.toNat&&c.toNat≤122)||(65≤c.toNat&&c.toNat≤90)
def isN(c:UInt8):Bool:=isL c||isD c||c == 95||c == 45
def zQ(s:List UInt8):Bool:=decide (0<s.length)&&decide (s.length≤40)&&isL (s.getD 0 0)&&s.all isN
theorem zfn{p:UInt8→Bool}{s:List UInt8}(h:∀ j,j<s.length→p (s.getD j 0)=true):s.all p=true:=by
 rw [List.all_eq_true]
 intro c hc
 obtain⟨j,hj,rfl⟩:=List.getElem_of_mem hc
 have:=h j hj
 simpa [List.getD,hj] using this
theorem Vo{p:UInt8→Bool}{s:List UInt8}{j:Nat}(hj:j<s.length)(h:p (s.getD j 0)=false):s.all p=false:=by
 rw [List.all_eq_false]
 refine⟨s.getD j 0,by simp [List.getD,hj],by simpa using h⟩
def dayB(d:Int):Bool:=decide (0≤d)&&decide (d≤99999)
end Go.Nov
end
section
namespace Go.Sx
variable [Stat]
open Go.RowKit (Below)
def alive:Blk→Prop
 | .box _=>True
 | .arr n _ _=>0<n
 | .dead=>False
 | .arrI _ n _=>0<n
 | .arrS n _=>0<n
 | .map _ _ _ _ _=>False
theorem uW{h:Heap}(hl:∀ b∈h,alive b):∀ b∈h,WA b=false:=by
 intro b hb
 have:=hl b hb
 cases b<;>first | rfl | exact this.elim
section
variable {O:Nat→Prop} {pin:Nat} {w0:World} {σ0:List SE} {w:World} {σ:List SE} {P:Program} {a:Act} {fn:Func}
theorem kK{h:Heap}{own:Nat→Prop}(hp:HRep own w σ h)(hl:∀ b∈h,alive b){b:Nat}(hb:Mine σ b):∃ cs el fr,w.heap[b]?=some (Obj.cells cs el fr):=by
 obtain⟨i,e,ad,h1,h2,h3⟩:=zz.1 hb
 have hi:i<h.length:=by rw [← hp.len]; exact(List.getElem?_eq_some_iff.1 h1).1
 have hbr:=hp.blk i e _ h1 (List.getElem?_eq_getElem hi)
 have ha:=hl _ (List.getElem_mem hi)
 generalize h[i]=bl at hbr ha
 subst h3
 cases bl with
 | dead=>exact ha.elim
 | box cells=>
  obtain⟨ad',vs,el,g1,_,g3,_⟩:=hbr
  rw [h2] at g1; cases g1
  exact⟨_,_,_,g3⟩
 | arr n sz g=>
  obtain⟨_,g⟩:=hbr
  rcases g with g | ⟨ad',cs,el,g1,g2,_⟩
  ·simp only [alive] at ha; omega
  ·rw [h2] at g1; cases g1
   exact⟨_,_,_,g2⟩
 | arrI _ n _=>
  obtain⟨_,g⟩:=hbr
  rcases g with g | ⟨ad',cs,el,g1,g2,_⟩
  ·simp only [alive] at ha; omega
  ·rw [h2] at g1; cases g1
   exact⟨_,_,_,g2⟩
 | arrS n _=>
  obtain⟨_,g⟩:=hbr
  rcases g with g | ⟨ad',cs,el,g1,g2,_⟩
  ·simp only [alive] at ha; omega
  ·rw [h2] at g1; cases g1
   exact⟨_,_,_,g2⟩
 | map _ _ _ _ _=>exact ha.elim
theorem Q0{c:Code}{Q:Exit→Act→World→Prop}(n m:Nat)(h:c.wpIn (FM none) n P Q a w):c.wpIn (FM none) m P Q a w:=by
 simp only [FM] at h ⊢
 exact wpIn_wide.2 (wpIn_wide.1 h)
def zf7(c:Code)(tg tp td:Nat):Bool:=match c with
 | .rangeFunc (.tmp g) ps (.region _ ops false) _=>decide (g=tg)&&decide (ps.toList=[tp])&&match ops.toList with
  | [o]=>decide (o.dst=some td)&&o.guard.isNone&&match o.op with
   | .assign (.tmp t)=>decide (t=tp)
   | _=>false
  | _=>false
 | _=>false
theorem Y3{c:Code}{tg tp td:Nat}(h:zf7 c tg tp td=true):∃ id o,c = .rangeFunc (.tmp tg) #[tp] (.region id #[o] false) (kY c)∧o.dst=some td∧o.guard=none∧o.op = .assign (.tmp tp):=by
 unfold zf7 at h
 split at h
 ·rename_i g ps id ops body
  simp only [Bool.and_eq_true,decide_eq_true_eq] at h
  obtain⟨⟨rfl,h2⟩,h3⟩:=h
  split at h3
  ·rename_i o ho
   simp only [Bool.and_eq_true,decide_eq_true_eq,Option.isNone_iff_eq_none] at h3
   obtain⟨⟨h4,h5⟩,h6⟩:=h3
   split at h6
   ·rename_i t ht
    simp only [decide_eq_true_eq] at h6
    subst h6
    refine⟨id,o,?_,h4,h5,ht⟩
    have e1:ps = #[t]:=by rw [← Array.toList_inj]; exact h2
    have e2:ops = #[o]:=by rw [← Array.toList_inj]; exact ho
    rw [e1,e2]; rfl
   ·cases h6
  ·cases h3
 ·cases h
theorem Yz{M:Option Nat}{td tp id:Nat}{o:Oper}(hd:o.dst=some td)(hgd:o.guard=none)(hop:o.op = .assign (.tmp tp)){K:Act→World→Prop}{Qe:Exit→Act→World→Prop}(h:K { a with tmps:=a.tmps.setIfInBounds td (a.tmps.getD tp undef) } w) :
  (Code.region id #[o] false).wpIn (FM M) 0 P (Exit.then K Qe) a w:=by
 refine wpIn_region_list ?_
 simp only [Array.toList]
 refine wpListIn_step fun K' hK'=> ?_
 rw [if_pos (by simp [Region.wanted,hgd])]
 refine kB (by simp [hop]) ?_
 unfold Oper.wp
 have:(execOp a.eval o).run P w = .ok (.value (a.eval (.tmp tp))) w:=by
  simp [execOp,hop]
 rw [this]
 have e:a.put o.dst (a.eval (.tmp tp))={ a with tmps:=a.tmps.setIfInBounds td (a.tmps.getD tp undef) } :=by rw [hd]; rfl
 show K' (a.put o.dst (a.eval (.tmp tp))) w
 rw [e]
 exact hK' _ _ h
theorem wP.le{pin pinR:Nat}{w':World}{σ':List SE}(h:wP pinR w σ w' σ')(hp:pin≤pinR):wP pin w σ w' σ':=fun i e hi he=>h i e (Nat.lt_of_lt_of_le hi hp) he
theorem wP.hold{pinR:Nat}{w':World}{σ':List SE}(h:wP pinR w σ w' σ'):Hold (List.range' pinR σ.length) w σ w' σ':=by
 intro i e he hi
 have hlt:=(List.getElem?_eq_some_iff.1 he).1
 refine h i e ?_ he
 rcases Nat.lt_or_ge i pinR with h1 | h1
 ·exact h1
 ·exact absurd (List.mem_range'_1.2 ⟨h1,by omega⟩) hi
theorem zc.range{α:Type}{Hs:Nat→KV→Heap→Prop}{R:List AV→Heap→Prop}{k:List Item}{c:Code}{kv:KV}{h:Heap}{tg tp td gf:Nat}{cap:List AV}(hc:zf7 c tg tp td=true)
  (he:∀ args w,(callFunc gf args).run P w = .ok (.enter gf args) w) (av:α→AV) (H Hx:List α→Heap) (X S Sp:List α→Prop) (N pinR:Nat)
  (hg:look kv tg = .fn gf [] cap) (htg:tg<fn.ntmps) (htp:tp<fn.ntmps) (hno:∀ x t b y,av x≠.opt t b y) (hle:LeK pin fn.ntmps kv h kv (H [])) (hlow:(pk fn.ntmps kv).all (lowB pinR)=true) (hpin:pin≤pinR) (halive:∀ pre,∀ b∈H pre,alive b) (halivex:∀ pre,∀ b∈Hx pre,alive b)
  (iter:∀ w σ a,Mod O pin w0 σ0 w σ (mk fn.ntmps kv (H [])) a→∀ vb,RepL (Own O σ) w cap σ vb→∃ (Keep:World→Prop) (ev:α→Value),SeqStopsK Fence.wide 0 P gf vb.toArray (fun x=> #[ev x]) (fun W W'=>Keep W→Keep W') S Sp N w ∧
   (∀ pre W σ',Mod O pin w0 σ0 W σ' (mk fn.ntmps kv (H pre)) a→Keep W∧∀ x,Rep (Own O σ') W (av x) σ' (ev x)) ∧
   (∀ W l o o',w.heap.size≤l→W.heap[l]?=some o→o.isCells=false→Keep W→Keep (W.putObj l o')))
  (round:∀ l pre x,pre.length<N→∀ (W:World) (σ1:List SE),zE (some l) P (bare fn) O pinR W σ1 (fun d kv' h'=>LeK pinR fn.ntmps [] h' [] (H (pre++[x]))) (fun _ h'=>X (pre++[x])∧LeK pinR fn.ntmps [] h' [] (Hx (pre++[x]))) [.code (kY c),.inLoop] (mk fn.ntmps ((td,av x)::(tp,av x)::kv) (H pre)))
  (done:∀ xs,S xs→zc P fn O pin w0 σ0 Hs R k (mk fn.ntmps kv (H xs)))
  (stop:∀ pre,Sp pre→X pre→(resX P (mk fn.ntmps kv (Hx pre)) fn.results.toList).holds fun rs=>R rs (Hx pre)) :
  zc P fn O pin w0 σ0 Hs R (.code c::k) (mk fn.ntmps kv h):=by
 obtain⟨id,o,hco,hod,hog,hop⟩:=Y3 hc
 generalize kY c=body at *
 subst hco
 clear hc
 intro w σ a hm0
 have hm:=hle.le.mod hm0
 clear hm0
 generalize σ.take (mk fn.ntmps kv (H [])).heap.length=σ at hm
 simp only [wpK]
 have hgt:=hm.tm tg
 have hev:(mk fn.ntmps kv (H [])).tmps.getD tg .undef = .fn gf [] cap:=by simp only [mk]; rw [j0 htg]; exact hg
 rw [hev] at hgt
 simp only [TRep,Rep] at hgt
 obtain⟨va,vb,hval,hva,hvb⟩:=hgt
 have hva:va=[]:=by simpa [RepL] using hva
 subst hva
 obtain⟨Keep,ev,hseq,hkeep,hstab⟩:=iter w σ a hm vb hvb
 have hB:∀ d∈a.defers,∃ D,d={ target:=.collected D,args:= #[] } ∧ D<w.heap.size:=by
  intro d hd
  obtain⟨D,h1,_,_,h4⟩:=hm.df.2 d hd
  exact⟨D,h1,(Array.getElem?_eq_some_iff.1 h4).1⟩
 have hOB:∀ b,O b→b<w.heap.size:=hm.good.old
 have hmarks:∀ (W:World) (σ':List SE),Mod O pin w0 σ0 W σ' (mk fn.ntmps kv (H [])) a∨True:=fun _ _=>.inr trivial
 have turnI:∀ (Hh:List α→Heap),(∀ pre,∀ b∈Hh pre,alive b)→OwnFrom w.heap.size (fun pre W=>∃ σ',Mod O pin w0 σ0 W σ' (mk fn.ntmps kv (Hh pre)) a):=by
  intro Hh hal pre W W' row hI hgr hr
  obtain⟨σ',hM⟩:=hI
  refine⟨σ',?_⟩
  have:=hM.turn hgr (ds:=a.defers) (fun r e=>⟨Nat.le_trans hm.since.ext.size (hr r e).1,(hr r e).2⟩) (.inl (uW (hal pre))) (hM.df.turn hgr fun r e hmem=>by
   obtain⟨D,h1,h2⟩:=hB _ hmem
   have:=(hr r e).1
   simp only [Deferred.mk.injEq,Target.collected.injEq,and_true] at h1
   omega)
  exact this
 have push:∀ (D:Nat) (Hh:Heap) (W:World) (σ':List SE),(∀ b∈Hh,alive b)→w.heap.size≤D→W.heap[D]?=some (.deferred (some []))→Mod O pin w0 σ0 W σ' (mk fn.ntmps kv Hh) a→Mod O pin w0 σ0 W σ' (mk fn.ntmps kv Hh) { a with defers:={ target:=.collected D,args:= #[] } :: a.defers } :=by
  intro D Hh W σ' hal hD hWD hM
  refine⟨hM.good,hM.hp,hM.size,hM.tm,⟨List.nodup_cons.2 ⟨fun hmem=> ?_,hM.df.1⟩,fun d hd=> ?_⟩,hM.since,hM.lim⟩
  ·obtain⟨D',h1,h2⟩:=hB _ hmem
   simp only [Deferred.mk.injEq,Target.collected.injEq,and_true] at h1
   omega
  ·rcases List.mem_cons.1 hd with rfl | hd
   ·refine⟨D,rfl,Nat.le_trans hm.since.ext.size hD,?_,hWD⟩
    rintro(hO | hM')
    ·have:=hOB D hO; omega
    ·obtain⟨cs,el,fr,hcs⟩:=kK hM.hp hal hM'
     rw [hWD] at hcs; cases hcs
   ·exact hM.df.2 d hd
 refine Q0 1 0 ?_
 refine wpIn_rangeFunc_ownG (F:=Fence.wide) rfl (Nat.le_refl 1) (gf:=gf) (lb:=vb.toArray) (by simp only [Act.eval]; exact hval) trivial he (encs:=fun x=> #[ev x]) (Kp:=fun W W'=>Keep W→Keep W') (S:=S) (Sp:=Sp) (N:=N) (w0:=w) hseq
  (fun h1 h2 h3=>h2 (h1 h3)) (fun W l o o' h1 h2 h3 _ h4=>hstab W l o o' h1 h2 h3 h4) (Below.refl _ _) (fun _=>rfl)
  (fun pre W=>∃ σ',Mod O pin w0 σ0 W σ' (mk fn.ntmps kv (H pre)) a) (fun c pre W=>c = .ret∧X pre∧∃ σ',Mod O pin w0 σ0 W σ' (mk fn.ntmps kv (Hx pre)) a)
  (turnI H halive) (fun c pre W W' row hI hgr hr=>⟨hI.1,hI.2.1,turnI Hx halivex pre W W' row hI.2.2 hgr hr⟩) ⟨σ,hm⟩
  (fun x=>{ tmps:=(a.tmps.setIfInBounds tp (ev x)).setIfInBounds td ((a.tmps.setIfInBounds tp (ev x)).getD tp undef),defers:=[] }) ?_ ?_ ?_ ?_
 ·
  intro l x W K hK
  refine Yz (M:=some l) hod hog hop ?_
  simpa using hK
 ·
  rintro l pre x W ⟨σ1,hM⟩ hlen
  have hsz:a.tmps.size=fn.ntmps:=by rw [hM.size]; simp [mk,pk]
  have hM2:Mod O pinR W σ1 W σ1 (mk fn.ntmps ((td,av x)::(tp,av x)::kv) (H pre)) { tmps:=(a.tmps.setIfInBounds tp (ev x)).setIfInBounds td ((a.tmps.setIfInBounds tp (ev x)).getD tp undef),defers:=[] } :=by
   have hx:=(hkeep pre W σ1 hM).2 x
   have hxT:∀ T,TRep (Own O σ1) W σ1 T (av x) (ev x):=by
    intro T
    have:=hno x
    generalize av x=y at hx this
    cases y with
    | opt t b z=>exact absurd rfl (this t b z)
    | _=>simpa only [TRep] using hx
   refine⟨hM.good,hM.hp,by simp [mk,pk,hsz],fun t=> ?_,Marks.nil _ _ _,Stp.refl _ _ _ _,hM.good.stat⟩
   by_cases ht:t<fn.ntmps
   ·simp only [mk]
    rw [j0 ht]
    have htp':(a.tmps.setIfInBounds tp (ev x)).getD tp undef=ev x:=by simp [hsz,htp]
    rw [htp']
    by_cases h1:td=t
    ·subst h1
     simp only [look,if_true]
     have:((a.tmps.setIfInBounds tp (ev x)).setIfInBounds td (ev x)).getD td undef=ev x:=by simp [hsz,ht]
     rw [this]; exact hxT _
    ·have e1:((a.tmps.setIfInBounds tp (ev x)).setIfInBounds td (ev x)).getD t undef=(a.tmps.setIfInBounds tp (ev x)).getD t undef:=by
      simp only [Array.getD_eq_getD_getElem?]
      rw [Array.getElem?_setIfInBounds_ne h1]
     rw [e1]
     by_cases h2:tp=t
     ·subst h2
      simp only [look,if_neg h1,if_true]
      rw [htp']; exact hxT _
     ·simp only [look,if_neg h1,if_neg h2]
      have e2:(a.tmps.setIfInBounds tp (ev x)).getD t undef=a.tmps.getD t undef:=by
       simp only [Array.getD_eq_getD_getElem?]
       rw [Array.getElem?_setIfInBounds_ne h2]
      rw [e2]
      have:=hM.tm t
      simp only [mk] at this
      rw [j0 ht] at this
      have hl:lowB pinR (look kv t)=true:=List.all_eq_true.1 hlow (look kv t) (by simp only [pk,List.mem_map,List.mem_range]; exact⟨t,ht,rfl⟩)
      generalize look kv t=y at this hl
      cases y with
      | opt u b z=>exact absurd rfl (vr hl u b z)
      | _=>simpa only [TRep] using this
   ·have:(mk fn.ntmps ((td,av x)::(tp,av x)::kv) (H pre)).tmps.getD t .undef = .undef:=by simp [mk,pk,List.getD,ht]
    rw [this]; simp [TRep,Rep]
  have hr:=round l pre x hlen W σ1 W σ1 _ hM2
  simp only [wpK] at hr
  have fin:∀ (Hh:Heap) (st':St) (W':World) (τ:List SE) (a':Act),LeK pinR fn.ntmps [] st'.heap [] Hh→Mod O pinR W σ1 W' τ st' a'→KeepsFrom w.heap.size W W'∧∃ σ',Mod O pin w0 σ0 W' σ' (mk fn.ntmps kv Hh) a:=by
   intro Hh st' W' τ a' hL hM'
   have h1:Mod O pinR W σ1 W' τ (mk fn.ntmps [] st'.heap) { tmps:=Array.replicate fn.ntmps undef,defers:=[] } :=by
    refine⟨hM'.good,hM'.hp,by simp [mk,pk],fun t=> ?_,Marks.nil _ _ _,hM'.since,hM'.lim⟩
    have:(mk fn.ntmps [] st'.heap).tmps.getD t .undef = .undef:=by
     simp only [mk,pk,List.getD,List.getElem?_map]
     cases (List.range fn.ntmps)[t]?<;>simp [look]
    rw [this]; simp [TRep,Rep]
   have h2:=hL.le.mod h1
   generalize τ.take (mk fn.ntmps [] Hh).heap.length=τ' at h2
   have hx:=h2.since.ext
   refine⟨⟨hx.size,fun b o hb ho hoc=> ?_⟩,τ',?_⟩
   ·have hlt:=(Array.getElem?_eq_some_iff.1 ho).1
    rw [← ho]
    by_cases hO:O b
    ·exact h2.since.vC b hO hlt
    ·refine hx.keep b hlt ?_
     rintro(h3 | h3)
     ·exact hO h3
     ·obtain⟨cs,el,fr,hcs⟩:=kK hM.hp (halive pre) h3
      rw [ho] at hcs; cases hcs; simp [Obj.isCells] at hoc
   ·refine⟨h2.good,h2.hp,hM.size,fun t=> ?_,hM.df.ext hx,hM.since.trans ⟨hx,h2.since.vC,h2.since.hold.le hpin⟩,hM.lim⟩
    have ht:=hM.tm t
    by_cases htn:t<fn.ntmps
    ·simp only [mk] at ht ⊢
     rw [j0 htn] at ht ⊢
     have hl:lowB pinR (look kv t)=true:=List.all_eq_true.1 hlow (look kv t) (by simp only [pk,List.mem_map,List.mem_range]; exact⟨t,htn,rfl⟩)
     generalize look kv t=y at ht hl
     cases y with
     | opt u b z=>exact absurd rfl (vr hl u b z)
     | _=>simp only [TRep] at ht ⊢; exact zZ hx h2.since.hold.hold _ _ (yY hl) ht
    ·have:(mk fn.ntmps kv Hh).tmps.getD t .undef = .undef:=by simp [mk,pk,List.getD,htn]
     rw [this]; simp [TRep,Rep]
  refine wpIn_mono hr fun e a' W' h=> ?_
  cases e with
  | normal=>
   simp only [wpK] at h
   obtain⟨st,τ,⟨kv',h',hL,rfl⟩,hM'⟩:=h
   obtain⟨h1,σ',h2⟩:=fin _ (mk fn.ntmps kv' h') _ _ _ hL hM'
   exact⟨h1,fun _=>(hkeep _ _ _ h2).1,σ',h2⟩
  | ret=>
   simp only [wpK] at h
   rcases h with ⟨_,st,τ,⟨hX,hL⟩,hM'⟩ | ⟨_,_,h,_⟩
   rotate_left
   ·exact h.elim
   obtain⟨h1,σ',h2⟩:=fin _ st _ _ _ hL hM'
   exact⟨h1,rfl,hX,σ',h2⟩
  | exit i=>simp only [wpK] at h; exact absurd h (by simp)
  | goto t=>simp only [wpK] at h; exact absurd h (by simp)
  | panic ch=>simp only [wpK] at h; exact absurd h (by simp)
  | outgrown=>simp only [wpK] at h; exact absurd h (by simp)
 ·
  rintro D xs W hD hS ⟨σ1,hM⟩ hWD
  exact done xs hS W σ1 _ (push D _ W σ1 (halive xs) hD hWD hM)
 ·rintro D c pre W hD hSp ⟨rfl,hX,σ1,hM⟩ hWD
  refine wpIn_ret (xD (.inl ⟨.inl rfl,mk fn.ntmps kv (Hx pre),σ1,stop pre hSp hX,push D _ W σ1 (halivex pre) hD hWD hM⟩))
def yS(kv:KV)(t:Nat)(a:AV):KV:=kv.map fun p=>if p.1=t then(t,a) else p
theorem zdo{kv:KV}{t:Nat}{a:AV} : ∀ u,look (yS kv t a) u=if u=t then(if(kv.any fun p=>p.1 == t) then a else .undef) else look kv u:=by
 intro u
 induction kv with
 | nil=>simp [yS,look]
 | cons p l ih=>
  obtain⟨i,x⟩:=p
  simp only [yS,List.map_cons,List.any_cons] at ih ⊢
  by_cases hit:i=t
  ·subst hit
   simp only [if_true,look,beq_self_eq_true,Bool.true_or]
   by_cases hu:i=u
   ·subst hu; simp
   ·rw [if_neg hu,if_neg (fun h=>hu h.symm),ih,if_neg (fun h=>hu h.symm),if_neg hu]
  ·have hb:(i == t)=false:=by simpa using hit
   simp only [if_neg hit,look,hb,Bool.false_or]
   by_cases hu:i=u
   ·subst hu; simp [hit]
   ·rw [if_neg hu,ih,if_neg hu]
theorem zc.bear{Xp:List PanicEntry→Prop}{M:Option Nat}{Hs:Nat→KV→Heap→Prop}{R:List AV→Heap→Prop}{k:List Item}{kv:KV}{h:Heap}(t sz:Nat)(g:Nat→Nat→AV)(hnil:look kv t = .nils)(ht:t<fn.ntmps)(hno:(pk fn.ntmps kv).all q6=true)
  (H:zG Xp M P fn O pin w0 σ0 Hs R k (mk fn.ntmps (yS kv t (.osl h.length sz 0 0)) (h++[.arr 0 sz g]))):zG Xp M P fn O pin w0 σ0 Hs R k (mk fn.ntmps kv h):=by
 refine Safe.bear t sz g (by simp only [mk]; rw [j0 ht]; exact hnil) hno ?_
 have e:wR (mk fn.ntmps kv h) t sz g=mk fn.ntmps (yS kv t (.osl h.length sz 0 0)) (h++[.arr 0 sz g]):=by
  simp only [wR,mk]
  congr 1
  apply List.ext_getElem (by simp [pk])
  intro u h1 h2
  simp only [pk,List.getElem_map,List.getElem_range,List.getElem_set,zdo]
  by_cases hu:t=u
  ·subst hu
   rw [if_pos rfl,if_pos rfl]
   have:kv.any (fun p=>p.1 == t)=true:=by
    rcases Bool.eq_false_or_eq_true (kv.any fun p=>p.1 == t) with hh | hh
    ·exact hh
    ·exfalso
     have:look kv t = .undef:=by
      clear hnil hno H ht h1 h2
      induction kv with
      | nil=>rfl
      | cons p l ih=>
       simp only [List.any_cons,Bool.or_eq_false_iff,beq_eq_false_iff_ne] at hh
       simp only [look,if_neg hh.1]
       exact ih hh.2
     rw [hnil] at this; cases this
   rw [this]; rfl
  ·rw [if_neg hu,if_neg (fun hh=>hu hh.symm)]
 rw [e]
 exact H
end
end Go.Sx
end
section
namespace Go.Sx
variable [Stat]
section
variable {O:Nat→Prop} {pin:Nat} {w0:World} {σ0:List SE} {w:World} {σ:List SE} {P:Program} {st:St} {a:Act} {fn:Func} {Xp:List PanicEntry→Prop}
end
end Go.Sx
end
section
namespace Go.Nov
open Go.Sx
inductive Ex where
 | mk (kind:Int) (rat name:List UInt8) (date:Int) (sub:List Ex)
namespace Ex
def kind:Ex→Int | mk k _ _ _ _=>k
def rat:Ex→List UInt8 | mk _ r _ _ _=>r
def name:Ex→List UInt8 | mk _ _ n _ _=>n
def date:Ex→Int | mk _ _ _ d _=>d
def sub:Ex→List Ex | mk _ _ _ _ s=>s
mutual
def size:Ex→Nat
 | mk _ _ _ _ s=>1+zr s
def zr:List Ex→Nat
 | []=>0
 | x::l=>size x+zr l
end
abbrev nil:Ex:=mk 0 [] [] 0 []
theorem size_eq(x:Ex):x.size=1+zr x.sub:=by cases x; rw [size]; rfl
theorem size_pos(x:Ex):0<x.size:=by rw [size_eq]; omega
theorem Q6(s:List Ex)(i:Nat)(h:i<s.length):zr (s.take (i+1))=zr (s.take i)+(s.getD i nil).size:=by
 induction s generalizing i with
 | nil=>simp at h
 | cons x s ih=>
  cases i with
  | zero=>simp [zr]
  | succ i=>
   simp only [List.take_succ_cons,zr,List.getD_cons_succ]
   rw [ih i (by simpa using h)]
   omega
theorem wv{s:List Ex}{i:Nat}(h:i<s.length):(s.getD i nil).size≤zr s:=by
 induction s generalizing i with
 | nil=>simp at h
 | cons x s ih=>
  cases i with
  | zero=>simp [zr]
  | succ i=>
   simp only [List.getD_cons_succ,zr]
   have:=ih (i:=i) (by simpa using h)
   omega
theorem xK(s:List Ex)(i:Nat):zr (s.take i)≤zr s:=by
 induction s generalizing i with
 | nil=>simp [zr]
 | cons x s ih=>
  cases i with
  | zero=>simp [zr]
  | succ i=>simp only [List.take_succ_cons,zr]; have:=ih i; omega
theorem qt(s:List Ex):s.length≤zr s:=by
 induction s with
 | nil=>simp [zr]
 | cons x s ih=>simp only [List.length_cons,zr]; have:=size_pos x; omega
def cell(k:Int)(r n:List UInt8)(d:Int)(l:Nat)(g:Nat→Nat→AV):Nat→AV
 | 0=>.int .u8 k
 | 1=>.str r
 | 2=>.str n
 | 3=>.int .i64 d
 | 4=>.sl l 5 g
 | _=>.undef
def deep:Ex→Nat→Nat→AV
 | mk _ _ _ _ s=>fun j=>(s.map fun x=>cell x.kind x.rat x.name x.date x.sub.length (deep x)).getD j fun _=>.undef
def exG(s:List Ex):Nat→Nat→AV:=fun j=>cell (s.getD j nil).kind (s.getD j nil).rat (s.getD j nil).name (s.getD j nil).date (s.getD j nil).sub.length (deep (s.getD j nil))
def exS(s:List Ex):AV:=.sl s.length 5 (exG s)
def exA(x:Ex):AV:=.agg [.int .u8 x.kind,.str x.rat,.str x.name,.int .i64 x.date,exS x.sub]
theorem qX(x:Ex):eqG x.sub.length 5 (deep x) (exG x.sub):=by
 intro j o hj ho
 cases x with
 | mk k r n d s=>
  rw [deep]
  change j<s.length at hj
  show _=exG s j o
  simp [exG,List.getD,hj]
end Ex
end Go.Nov
end
section
namespace Go.Nov
open Go.Sx
def shpL:List (Int×List Int×Int):=[(4,[1,1],1),(5,[1,1],1),(6,[1,1],1),(7,[1,1],1),(8,[1,1],1),(9,[2,1,1],1),(11,[1,1],2),(12,[1,1],2),(13,[2,2],2),(14,[2,2],2),(15,[2],2)]
def ZC(k:Int):Option (List Int×Int):=(shpL.find? fun p=>p.1 == k).map (·.2)
def jN(k:Int):Bool:=(ZC k).isSome
def qu(k:Int):List Int:=((ZC k).getD ([],0)).1
def j5(k:Int):Nat:=(qu k).length
def qF(k:Int)(j:Nat):Int:=(qu k).getD j 0
def j4(k:Int):Int:=((ZC k).getD ([],0)).2
def k5(k:Int):Int:=if k=1 then 0 else if k=2 then 15 else if k=3 then 256 else if k=4 then 136 else if k=5 then 272 else if k=6 then 160 else if k=7 then 261 else if k=8 then 197 else 208
end Go.Nov
end
section
open Go Go.Sx Go.Proofs Go.Nov
namespace Go.Proofs.Tryz
noncomputable instance:Go.Sx.Stat:=⟨fun g=>
 if g=1 then some (.mp .u8 true 2 [] (fun k=>jN k) fun k o=>match o with
 | 0=>.sl (j5 k) 1 fun j _=>.int .u8 (qF k j)
 | _=>.int .u8 (j4 k)) else
 if g=0 then some (.mp .u8 false 1 [] (fun k=>decide (1≤k∧k≤10)) fun k _=>.int .i64 (k5 k)) else
 none⟩
end Go.Proofs.Tryz
end
section
namespace Go.Proofs
open Go.RowKit Go.Shelf
attribute [local go_sem] Oper.semAt_some
theorem XL{F:Fence}(hd:F.depth=none)(k:Nat):F.room k:=fun d h=>by rw [hd] at h; cases h
theorem XZ{F:Fence}(hd:F.depth=none){m:Nat}(m':Nat){P:Program}{l:Nat}{args:Array Value}{W:World}{R:Ending→World→Prop}(h:YieldAt F m P l args W R):YieldAt F m' P l args W R:=by
 obtain⟨fn,tmps,assign,body,hy,hR⟩:=h
 exact⟨fn,tmps,assign,body,hy,hR.1,fun c cs _=>hR.2 c cs (XL hd _)⟩
inductive CT where
 | mk (u0:Int) (u1 u2 u3:ByteArray) (u4:Int) (u5 u6:ByteArray) (u7:Int) (up:Option Addr) (ul uc:Nat) (u9:Int) (uq:Option Addr) (um ud:Nat) (a:Option Addr) (cap:Nat) (kids:List CT)
namespace CT
def val:CT→Value
 | mk u0 u1 u2 u3 u4 u5 u6 u7 up ul uc u9 uq um ud a cap kids=>.agg #[.int .u8 u0,.string u1,.string u2,.string u3,.int .u8 u4,.string u5,.string u6,.int .i64 u7,.slice up ul uc,.int .i64 u9,.slice uq um ud,.slice a kids.length cap]
def cells:CT→List Value
 | mk u0 u1 u2 u3 u4 u5 u6 u7 up ul uc u9 uq um ud a cap kids=>[.int .u8 u0,.string u1,.string u2,.string u3,.int .u8 u4,.string u5,.string u6,.int .i64 u7,.slice up ul uc,.int .i64 u9,.slice uq um ud,.slice a kids.length cap]
mutual
def all:CT→List CT
 | mk u0 u1 u2 u3 u4 u5 u6 u7 up ul uc u9 uq um ud a cap kids=>mk u0 u1 u2 u3 u4 u5 u6 u7 up ul uc u9 uq um ud a cap kids::alls kids
def alls:List CT→List CT
 | []=>[]
 | t::l=>all t++alls l
end
mutual
def mem(K:World→Prop):CT→Prop
 | mk u0 u1 u2 u3 u4 u5 u6 u7 up ul uc u9 uq um ud a cap kids=>kids.length≤1000000∧mems K a 0 kids
def mems(K:World→Prop)(a:Option Addr):Nat→List CT→Prop
 | _,[]=>True
 | j,t::l=>(∃ ad B o,a=some ad∧ad.add (j*12)=⟨B,o,none⟩∧∀ W,K W→∀ (k:Nat) (v:Value),t.cells[k]?=some v→W.cell? ⟨B,o+k,none⟩=some v)∧mem K t∧mems K a (j+1) l
end
mutual
def uS:CT→Nat
 | mk _ _ _ _ _ _ _ _ _ _ _ _ _ _ _ _ _ kids=>1+yW kids
def yW:List CT→Nat
 | []=>0
 | t::l=>uS t+yW l
end
end CT
theorem CT.Zg:∀ {l:List CT} {j:Nat} {t:CT},l[j]?=some t→t.uS≤CT.yW l
 | [],j,t,h=>by simp at h
 | x::l,0,t,h=>by simp at h; subst h; rw [CT.yW]; omega
 | x::l,j+1,t,h=>by
  have:=CT.Zg (l:=l) (j:=j) (by simpa using h)
  rw [CT.yW]; omega
theorem CT.VX{K:World→Prop}{a:Option Addr} : ∀ {l:List CT} {i j:Nat} {t:CT},CT.mems K a i l→l[j]?=some t→(∃ ad B o,a=some ad∧ad.add ((i+j)*12)=⟨B,o,none⟩∧∀ W,K W→∀ (k:Nat) (v:Value),t.cells[k]?=some v→W.cell? ⟨B,o+k,none⟩=some v)∧t.mem K
 | [],i,j,t,_,h=>by simp at h
 | x::l,i,0,t,hm,h=>by
  simp at h; subst h
  rw [CT.mems] at hm
  exact⟨hm.1,hm.2.1⟩
 | x::l,i,j+1,t,hm,h=>by
  rw [CT.mems] at hm
  have:=CT.VX (j:=j) hm.2.2 (by simpa using h)
  rw [show i+(j+1)=i+1+j by omega]
  exact this
theorem CT.Wa:∀ {l:List CT} {j:Nat} {t:CT},l[j]?=some t→CT.alls (l.take (j+1))=CT.alls (l.take j)++t.all
 | [],j,t,h=>by simp at h
 | x::l,0,t,h=>by simp at h; subst h; simp [CT.alls]
 | x::l,j+1,t,h=>by
  simp only [List.take_succ_cons,CT.alls]
  rw [CT.Wa (l:=l) (j:=j) (by simpa using h),List.append_assoc]
theorem CT.VQ(l:List CT)(j:Nat):CT.alls (l.take j) <+: CT.alls l:=by
 induction l generalizing j with
 | nil=>simp [CT.alls]
 | cons t l ih=>
  cases j with
  | zero=>simp [CT.alls]
  | succ j=>
   simp only [List.take_succ_cons,CT.alls]
   obtain⟨r,hr⟩:=ih j
   exact⟨r,by rw [← hr,List.append_assoc]⟩
set_option maxRecDepth 100000 in
set_option maxHeartbeats 4000000 in
theorem Tryz.zck(F:Fence)(hd:F.depth=none)(h6:F.fn 111)(hro:F.round=none)(l n₀:Nat)(ALL:List CT)(K:World→Prop)(Kp:World→World→Prop)(J Jx:List CT→World→Prop)(hJ:∀ pre W W',J pre W→W.grownBy W' none→J pre W')
  (hKt:∀ A B C,Kp A B→Kp B C→Kp A C) (hKg:∀ W W',W.grownBy W' none→Kp W W') (hKc:∀ A B b cs el,Kp A B→n₀≤b→A.heap[b]?=some (.cells cs el (0,0))→B.heap[b]?=some (.cells cs el (0,0))) (hKK:∀ A B,K A→Kp A B→K B) (hKn:∀ W,K W→n₀≤W.heap.size)
  (hY:∀ m pre t W,J pre W→K W→pre++[t] <+: ALL→YieldAt F m Tryz.prog l #[t.val] W fun e W'=>
   (e = .returned (.bool true)∧J (pre++[t]) W'∧Kp W W')∨(e = .returned (.bool false)∧Jx (pre++[t]) W')) :
  ∀ (m:Nat) (t:CT) (n:Nat) (pre:List CT) (W:World),t.uS≤m→t.mem K→K W→J pre W→pre++t.all <+: ALL →
   CallsIn F n Tryz.prog 111 #[t.val,.func (.yield l) #[] #[]] W fun e W'=>
    (e = .returned (.bool true)∧J (pre++t.all) W'∧Kp W W')∨(e = .returned (.bool false)∧∃ q,q <+: t.all∧Jx (pre++q) W'):=by
 intro m
 induction m with
 | zero=>intro t n pre W hh; cases t; rw [CT.uS] at hh; omega
 | succ m ih=>
  intro t n pre W hh hm hK hJ0 hN
  obtain⟨u0,u1,u2,u3,u4,u5,u6,u7,up,ul,uc,u9,uq,um,ud,a,cap,kids⟩:=t
  rw [CT.mem] at hm
  obtain⟨hkl,hks⟩:=hm
  rw [CT.uS] at hh
  have hdd:∀ k:Nat,(F.depth.isSome=true→1≤k):=fun k h=>by rw [hd] at h; cases h
  have hall:(CT.mk u0 u1 u2 u3 u4 u5 u6 u7 up ul uc u9 uq um ud a cap kids).all = .mk u0 u1 u2 u3 u4 u5 u6 u7 up ul uc u9 uq um ud a cap kids::CT.alls kids:=by rw [CT.all]
  rw [hall] at hN ⊢
  obtain⟨rest,hrest⟩:=hN
  have hB0:(W.alloc (.cells #[.int .u8 u0,.string u1,.string u2,.string u3,.int .u8 u4,.string u5,.string u6,.int .i64 u7,.slice up ul uc,.int .i64 u9,.slice uq um ud,.slice a kids.length cap] 31)).heap[W.heap.size]?=some (.cells #[.int .u8 u0,.string u1,.string u2,.string u3,.int .u8 u4,.string u5,.string u6,.int .i64 u7,.slice up ul uc,.int .i64 u9,.slice uq um ud,.slice a kids.length cap] 31 (0,0)):=World.alloc_heap_new W _
  have hY1:YieldAt F (n - 1) Tryz.prog l #[.agg #[.int .u8 u0,.string u1,.string u2,.string u3,.int .u8 u4,.string u5,.string u6,.int .i64 u7,.slice up ul uc,.int .i64 u9,.slice uq um ud,.slice a kids.length cap]] (W.alloc (.cells #[.int .u8 u0,.string u1,.string u2,.string u3,.int .u8 u4,.string u5,.string u6,.int .i64 u7,.slice up ul uc,.int .i64 u9,.slice uq um ud,.slice a kids.length cap] 31)) fun e W'=>
    (e = .returned (.bool true)∧J (pre++[.mk u0 u1 u2 u3 u4 u5 u6 u7 up ul uc u9 uq um ud a cap kids]) W'∧Kp W W'∧W'.cell? ⟨W.heap.size,11,none⟩=some (.slice a kids.length cap))∨(e = .returned (.bool false)∧Jx (pre++[.mk u0 u1 u2 u3 u4 u5 u6 u7 up ul uc u9 uq um ud a cap kids]) W'):=by
   have hg:=hKg _ _ (World.grownBy_alloc W (.cells #[.int .u8 u0,.string u1,.string u2,.string u3,.int .u8 u4,.string u5,.string u6,.int .i64 u7,.slice up ul uc,.int .i64 u9,.slice uq um ud,.slice a kids.length cap] 31) none)
   have h0:=hY (n - 1) pre (.mk u0 u1 u2 u3 u4 u5 u6 u7 up ul uc u9 uq um ud a cap kids) _ (hJ _ _ _ hJ0 (World.grownBy_alloc W _ none)) (hKK _ _ hK hg) ⟨CT.alls kids++rest,by rw [← hrest]; simp⟩
   simp only [CT.val] at h0
   refine YieldAt.mono h0 ?_
   rintro e W2 (⟨he,hj,hk⟩ | h)
   ·refine .inl ⟨he,hj,hKt _ _ _ hg hk,?_⟩
    have:=hKc _ _ _ _ _ hk (hKn W hK) hB0
    simp [World.cell?,this]
   ·exact .inr h
  generalize hroot:CT.mk u0 u1 u2 u3 u4 u5 u6 u7 up ul uc u9 uq um ud a cap kids=root at hY1 hall hrest ⊢
  have hv:root.val = .agg #[.int .u8 u0,.string u1,.string u2,.string u3,.int .u8 u4,.string u5,.string u6,.int .i64 u7,.slice up ul uc,.int .i64 u9,.slice uq um ud,.slice a kids.length cap]:=by rw [← hroot]; rfl
  rw [hv]
  refine callsIn_of_wp Tryz.func111 rfl h6 ?_ hro
  simp only [Tryz.ntmps111,List.size_toArray,List.length_cons,List.length_nil,Nat.reduceAdd,Nat.reduceSub,Array.replicate_succ,Array.replicate_zero,List.push_toArray,List.append_toArray,List.nil_append,List.cons_append]
  obtain⟨fn,tmps,assign,body,hy,hR⟩:=hY1
  gi_wp2
  refine hR.mono ?_
  clear hR
  rintro e W1 (⟨rfl,hJ1,hK1,hc1⟩ | ⟨rfl,hx1⟩)
  ·gi_wp2
   gi_loopw [14] (fun e wr=>∃ i:Nat,e = .int .i64 i∧i≤kids.length∧J (pre++root::CT.alls (kids.take i)) wr∧Kp W wr)
    (fun e wr=>kids.length - (intOf e).toNat)
   case atStart=>exact⟨0,rfl,Nat.zero_le _,by simpa [CT.alls] using hJ1,hK1⟩
   case round=>
    obtain⟨i,rfl,hi,hJi,hKi⟩:=hrel
    by_cases hlt:i<kids.length
    ·obtain⟨⟨ad,B1,o1,hae,hq,hload⟩,hmk⟩:=CT.VX (j:=i) hks (List.getElem?_eq_getElem hlt)
     have htk:=CT.Wa (j:=i) (List.getElem?_eq_getElem hlt)
     have hhk:=CT.Zg (j:=i) (List.getElem?_eq_getElem hlt)
     generalize kids[i]=kid at hload hmk htk hhk
     obtain⟨v0,v1,v2,v3,v4,v5,v6,v7,vp,vl,vc,v9,vq,vm,vd,b,bap,bkids⟩:=kid
     have hld:=hload wr (hKK _ _ hK hKi)
     have c0:=hld 0 (.int .u8 v0) rfl
     have c1:=hld 1 (.string v1) rfl
     have c2:=hld 2 (.string v2) rfl
     have c3:=hld 3 (.string v3) rfl
     have c4:=hld 4 (.int .u8 v4) rfl
     have c5:=hld 5 (.string v5) rfl
     have c6:=hld 6 (.string v6) rfl
     have c7:=hld 7 (.int .i64 v7) rfl
     have c8:=hld 8 (.slice vp vl vc) rfl
     have c9:=hld 9 (.int .i64 v9) rfl
     have c10:=hld 10 (.slice vq vm vd) rfl
     have c11:=hld 11 (.slice b bkids.length bap) rfl
     simp only [Nat.zero_add,Nat.add_zero] at hq c0
     clear hld hload
     subst hae
     have hpre:(pre++root::CT.alls (kids.take i))++(CT.mk v0 v1 v2 v3 v4 v5 v6 v7 vp vl vc v9 vq vm vd b bap bkids).all <+: ALL:=by
      obtain⟨r,hr⟩:=CT.VQ kids (i+1)
      rw [htk] at hr
      exact⟨r++rest,by rw [← hrest,← hr]; simp⟩
     have hgr:=World.grownBy_alloc wr (.cells #[.int .u8 v0,.string v1,.string v2,.string v3,.int .u8 v4,.string v5,.string v6,.int .i64 v7,.slice vp vl vc,.int .i64 v9,.slice vq vm vd,.slice b bkids.length bap] 31) none
     have hrec:=ih (.mk v0 v1 v2 v3 v4 v5 v6 v7 vp vl vc v9 vq vm vd b bap bkids) (n - 1) _ _ (by omega) hmk (hKK _ _ hK (hKt _ _ _ hKi (hKg _ _ hgr))) (hJ _ _ _ hJi hgr) hpre
     rw [List.append_assoc,List.cons_append,← htk] at hrec
     simp only [CT.val] at hrec
     have HTK:=Lib.hid htk
     have HRE:=Lib.hid hrest
     clear htk hrest ih hY hpre hroot hv hall hmk
     gi_wp2
     refine hrec.mono ?_
     clear hrec
     rintro e W3 (⟨rfl,hJ3,hK3⟩ | ⟨rfl,q,hq3,hx3⟩)
     ·gi_wp2
      go_roundw
      case rel=>exact⟨i+1,by simp,hlt,hJ3,hKt _ _ _ (hKt _ _ _ hKi (hKg _ _ hgr)) hK3⟩
      case measure=>simp [intOf]; omega
     ·gi_wp2
      go_ret
      refine .inr ⟨rfl,root::(CT.alls (kids.take i)++q),?_,by simpa [List.append_assoc] using hx3⟩
      obtain⟨r1,hr1⟩:=hq3
      obtain⟨r2,hr2⟩:=CT.VQ kids (i+1)
      exact⟨r1++r2,by rw [← hr2,HTK.out,← hr1]; simp⟩
    ·have hge:i=kids.length:=by omega
     subst hge
     rw [List.take_length] at hJi
     gi_wp2
     go_ret
     exact .inl ⟨rfl,hJi,hKi⟩
  ·gi_wp2
   go_ret
   exact .inr ⟨rfl,[root],⟨CT.alls kids,by simp⟩,hx1⟩
set_option maxRecDepth 100000 in
set_option maxHeartbeats 4000000 in
theorem Tryz.zaf(F:Fence)(hd:F.depth=none)(h5:F.fn 110)(h6:F.fn 111)(hro:F.round=none)(l n₀ n Bt:Nat)(t:CT)(K:World→Prop)(Kp:World→World→Prop)(J Jx:List CT→World→Prop)(hJ:∀ pre W W',J pre W→W.grownBy W' none→J pre W')
  (hKt:∀ A B C,Kp A B→Kp B C→Kp A C) (hKg:∀ W W',W.grownBy W' none→Kp W W') (hKc:∀ A B b cs el,Kp A B→n₀≤b→A.heap[b]?=some (.cells cs el (0,0))→B.heap[b]?=some (.cells cs el (0,0))) (hKK:∀ A B,K A→Kp A B→K B) (hKn:∀ W,K W→n₀≤W.heap.size)
  (hY:∀ m pre t' W,J pre W→K W→pre++[t'] <+: t.all→YieldAt F m Tryz.prog l #[t'.val] W fun e W'=>
   (e = .returned (.bool true)∧J (pre++[t']) W'∧Kp W W')∨(e = .returned (.bool false)∧Jx (pre++[t']) W')) (W:World) (hm:t.mem K) (hK:K W) (h0:J [] W)
  (hc:∀ k v,t.cells[k]?=some v→W.cell? ⟨Bt,k,none⟩=some v) :
  CallsIn F n Tryz.prog 110 #[.func (.yield l) #[] #[],.pointer (some ⟨Bt,0,none⟩)] W fun e W'=>(∃ v,e = .returned v)∧(J t.all W'∨∃ q,q <+: t.all∧Jx q W'):=by
 have hv:=Tryz.zck F hd h6 hro l n₀ t.all K Kp J Jx hJ hKt hKg hKc hKK hKn hY t.uS t (n - 1) [] W (Nat.le_refl _) hm hK h0 (by simp)
 obtain⟨u0,u1,u2,u3,u4,u5,u6,u7,up,ul,uc,u9,uq,um,ud,a,cap,kids⟩:=t
 have c0:=hc 0 _ rfl
 have c1:=hc 1 _ rfl
 have c2:=hc 2 _ rfl
 have c3:=hc 3 _ rfl
 have c4:=hc 4 _ rfl
 have c5:=hc 5 _ rfl
 have c6:=hc 6 _ rfl
 have c7:=hc 7 _ rfl
 have c8:=hc 8 _ rfl
 have c9:=hc 9 _ rfl
 have c10:=hc 10 _ rfl
 have c11:=hc 11 _ rfl
 clear hc hm hY
 have hdd:∀ k:Nat,(F.depth.isSome=true→1≤k):=fun k h=>by rw [hd] at h; cases h
 generalize hall:(CT.mk u0 u1 u2 u3 u4 u5 u6 u7 up ul uc u9 uq um ud a cap kids).all=ALL at hv ⊢
 clear hall
 simp only [CT.val,List.nil_append] at hv
 refine callsIn_of_wp Tryz.func110 rfl h5 ?_ hro
 simp only [Tryz.ntmps110,List.size_toArray,List.length_cons,List.length_nil,Nat.reduceAdd,Nat.reduceSub,Array.replicate_succ,Array.replicate_zero,List.push_toArray,List.append_toArray,List.nil_append,List.cons_append]
 gi_wp2
 refine hv.mono ?_
 clear hv
 rintro e W1 (⟨rfl,hJ1,_⟩ | ⟨rfl,q,hq,hx⟩)
 ·gi_wp2
  go_end0
  exact⟨⟨_,rfl⟩,.inl hJ1⟩
 ·gi_wp2
  go_end0
  exact⟨⟨_,rfl⟩,.inr ⟨q,hq,hx⟩⟩
end Go.Proofs
end
section
namespace Go.Nov
open Go.Sx
def ja(k:Int)(r n:List UInt8)(d:Int)(l:Nat):Bool:=
 decide (l=0)&&(if k=1 then decide (errR r=0)&&decide (n=[])&&decide (d=0) else if k=2 then decide (r=[])&&zQ n&&dayB d else if k=3 then decide (r=[])&&zQ n&&decide (d=0) else false)
def vR(k:Int)(r n:List UInt8)(d:Int)(ss:List Int):Int:=
 if jN k=true then(if r=[]∧n=[]∧d=0∧ss=qu k then j4 k else 0) else if ja k r n d ss.length=true then 1 else 0
theorem k7{k:Int}{r m:List UInt8}{d:Int}{l:List Int}(h:jN k=false):vR k r m d l=if ja k r m d l.length=true then 1 else 0:=by
 unfold vR
 rw [if_neg (by rw [h]; decide)]
theorem zks{k:Int}(h:¬ (4≤k∧k≤9))(h2:¬ (11≤k∧k≤15)):jN k=false:=by
 have e:∀ c:Int,(4≤c∧c≤9)∨(11≤c∧c≤15)→(c == k)=false:=fun c hc=>by
  rw [beq_eq_false_iff_ne]; omega
 simp only [jN,ZC,shpL,List.find?_cons,e 4 (by omega),e 5 (by omega),e 6 (by omega),e 7 (by omega),e 8 (by omega),e 9 (by omega),e 11 (by omega),e 12 (by omega),e 13 (by omega),e 14 (by omega),e 15 (by omega),List.find?_nil]
 rfl
namespace Ex
mutual
def depth:Ex→Nat
 | mk _ _ _ _ s=>1+zy s
def zy:List Ex→Nat
 | []=>0
 | x::l=>max (depth x) (zy l)
end
mutual
def zu:Ex→Nat
 | mk _ r n _ s=>r.length+n.length+qD s
def qD:List Ex→Nat
 | []=>0
 | x::l=>zu x+qD l
end
mutual
def zJ:Ex→Int
 | mk k r n d s=>vR k r n d (zW s)
def zW:List Ex→List Int
 | []=>[]
 | x::l=>zJ x::zW l
end
mutual
def thin:Ex→Prop
 | mk _ r n _ s=>r.length≤2^48∧n.length≤2^48∧QD s
def QD:List Ex→Prop
 | []=>True
 | x::l=>thin x∧QD l
end
theorem kq(x:Ex):x.depth=1+zy x.sub:=by cases x; rw [depth]; rfl
theorem zam(x:Ex):x.zu=x.rat.length+x.name.length+qD x.sub:=by cases x; rw [zu]; rfl
theorem ze8(x:Ex):x.zJ=vR x.kind x.rat x.name x.date (zW x.sub):=by cases x; rw [zJ]; rfl
theorem wE(s:List Ex)(i:Nat)(h:i<s.length):zy (s.take (i+1))=max (zy (s.take i)) (s.getD i nil).depth:=by
 induction s generalizing i with
 | nil=>simp at h
 | cons x s ih=>
  cases i with
  | zero=>simp [zy]
  | succ i=>
   simp only [List.take_succ_cons,zy,List.getD_cons_succ]
   rw [ih i (by simpa using h)]
   omega
theorem X8{s:List Ex}{i:Nat}(h:i<s.length):(s.getD i nil).zu≤qD s:=by
 induction s generalizing i with
 | nil=>simp at h
 | cons x s ih=>
  cases i with
  | zero=>simp [qD]
  | succ i=>
   simp only [List.getD_cons_succ,qD]
   have:=ih (i:=i) (by simpa using h)
   omega
theorem jl(s:List Ex):(zW s).length=s.length:=by
 induction s with
 | nil=>simp [zW]
 | cons x s ih=>simp [zW,ih]
theorem JL{s:List Ex}{i:Nat}(h:i<s.length):(zW s).getD i 0=(s.getD i nil).zJ:=by
 induction s generalizing i with
 | nil=>simp at h
 | cons x s ih=>
  cases i with
  | zero=>simp [zW]
  | succ i=>simpa [zW] using ih (i:=i) (by simpa using h)
theorem V6{s:List Ex}{ps:List Int} : zW s=ps↔s.length=ps.length∧∀ i,i<s.length→(s.getD i nil).zJ=ps.getD i 0:=by
 constructor
 ·rintro rfl
  exact⟨(jl s).symm,fun i hi=>(JL hi).symm⟩
 ·rintro⟨h1,h2⟩
  apply List.ext_getElem
  ·rw [jl,h1]
  ·intro i g1 g2
   have g3:i<s.length:=by rwa [jl] at g1
   have:=h2 i g3
   rw [← JL g3] at this
   simpa [List.getD,g1,g2] using this
mutual
theorem UO:∀ x:Ex,thin x→zu x≤size x*2^49
 | mk k r n d s,h=>by
  rw [thin] at h
  have:=JD s h.2.2
  rw [zu,size,Nat.add_mul]
  omega
theorem JD:∀ l:List Ex,QD l→qD l≤zr l*2^49
 | [],_=>by simp [qD]
 | x::l,h=>by
  rw [QD] at h
  have h1:=UO x h.1
  have h2:=JD l h.2
  rw [qD,zr,Nat.add_mul]
  omega
end
def errX(x:Ex):Int:=if 500<x.size∨60<x.depth then 4 else if x.zJ=0 then 8 else 0
theorem zbc(x:Ex):0<x.depth:=by rw [kq]; omega
theorem vZ:∀ x:Ex,x.depth≤x.size:=by
 intro x
 have key:∀ (n:Nat) (x:Ex),x.size≤n→x.depth≤x.size:=by
  intro n
  induction n with
  | zero=>intro x h; have:=size_pos x; omega
  | succ n ih=>
   intro x h
   rw [size_eq] at h ⊢
   rw [kq]
   have:∀ l:List Ex,zr l≤n→zy l≤zr l:=by
    intro l
    induction l with
    | nil=>simp [zy]
    | cons y l il=>
     intro hl
     simp only [zr,zy] at hl ⊢
     have:=ih y (by omega)
     have:=il (by omega)
     omega
   have:=this x.sub (by omega)
   omega
 exact key _ x (Nat.le_refl _)
theorem Wt{s t:List Ex}(hl:s.length=t.length)(h:∀ j,j<s.length→s.getD j nil=t.getD j nil):s=t:=by
 apply List.ext_getElem hl
 intro i g1 g2
 have:=h i g1
 simpa [List.getD,g1,g2] using this
theorem Vx{x y:Ex} : x=y↔x.kind=y.kind∧x.rat=y.rat∧x.name=y.name∧x.date=y.date∧x.sub=y.sub:=by
 cases x; cases y
 simp [kind,rat,name,date,sub]
end Ex
end Go.Nov
end
section
namespace Go.Nov
open Go.Sx
def cmpS(s t:List UInt8):Int:=if Op.bytesLess s t then -1 else if s=t then 0 else 1
def cmpI(x y:Int):Int:=if x<y then -1 else if y<x then 1 else 0
def orI:List Int→Int
 | []=>0
 | x::l=>if x=0 then orI l else x
structure Fx where
 name:List UInt8
 date:Int
 value:List UInt8
structure Ch where
 jL:List UInt8
 name:List UInt8
 date:Int
 first:Bool
abbrev Fx.nil:Fx:=⟨[],0,[]⟩
abbrev Ch.nil:Ch:=⟨[],[],0,false⟩
def Fx.cell(f:Fx):Nat→AV
 | 0=>.str f.name
 | 1=>.int .i64 f.date
 | 2=>.str f.value
 | _=>.undef
def Ch.cell(c:Ch):Nat→AV
 | 0=>.str c.jL
 | 1=>.str c.name
 | 2=>.int .i64 c.date
 | 3=>.bool c.first
 | _=>.undef
def fxG(l:List Fx):Nat→Nat→AV:=fun j=>(l.getD j Fx.nil).cell
def chG(l:List Ch):Nat→Nat→AV:=fun j=>(l.getD j Ch.nil).cell
def Fx.av(f:Fx):AV:=.agg [.str f.name,.int .i64 f.date,.str f.value]
def Ch.av(c:Ch):AV:=.agg [.str c.jL,.str c.name,.int .i64 c.date,.bool c.first]
def fxS(l:List Fx):AV:=.sl l.length 3 (fxG l)
def chS(l:List Ch):AV:=.sl l.length 4 (chG l)
def envA(f:List Fx)(c:List Ch):AV:=.agg [fxS f,chS c]
def cmpF(a b:Fx):Int:=if cmpS a.name b.name=0 then cmpI a.date b.date else cmpS a.name b.name
def cmpC(a b:Ch):Int:=if cmpS a.jL b.jL=0 then(if cmpS a.name b.name=0 then cmpI a.date b.date else cmpS a.name b.name) else cmpS a.jL b.jL
end Go.Nov
namespace Go.Nov
def okF(f:Fx):Bool:=zQ f.name&&dayB f.date&&decide (errR f.value=0)
def okC(c:Ch):Bool:=zQ c.jL&&zQ c.name&&dayB c.date
def idxB{α:Type}(p:α→Bool)(l:List α):Int:=if l.findIdx p<l.length then(l.findIdx p:Int) else -1
theorem Ks{α:Type}(p:α→Bool)(l:List α):decide (0≤idxB p l)=l.any p:=by
 unfold idxB
 by_cases h:l.findIdx p<l.length
 ·rw [if_pos h]
  have:l.any p=true:=by
   rw [List.any_eq_true]
   exact⟨_,List.getElem_mem h,List.findIdx_getElem (w:=h)⟩
  rw [this]; simp
 ·rw [if_neg h]
  have:l.any p=false:=by
   rw [List.any_eq_false]
   intro x hx hpx
   exact h (List.findIdx_lt_length_of_exists ⟨x,hx,hpx⟩)
  rw [this]; rfl
theorem U5{α:Type}{p:α→Bool}{l:List α}{z:α}{i:Nat}(hi:i<l.length)(h:p (l.getD i z)=true)(hb:∀ j,j<i→p (l.getD j z)=false):idxB p l=i:=by
 have hlt:l.findIdx p<l.length:=List.findIdx_lt_length_of_exists ⟨l[i],List.getElem_mem hi,by simpa [List.getD,hi] using h⟩
 have e:l.findIdx p=i:=by
  rcases Nat.lt_trichotomy (l.findIdx p) i with h1 | h1 | h1
  ·have h2:=List.findIdx_getElem (w:=hlt)
   have h3:=hb _ h1
   simp only [List.getD,List.getElem?_eq_getElem hlt,Option.getD_some] at h3
   rw [h2] at h3; cases h3
  ·exact h1
  ·have h2:=List.not_of_lt_findIdx h1
   simp only [List.getD,List.getElem?_eq_getElem hi,Option.getD_some] at h
   exact absurd h (by simpa using h2)
 unfold idxB
 rw [if_pos hlt,e]
theorem JR{α:Type}{p:α→Bool}{l:List α}{z:α}(hb:∀ j,j<l.length→p (l.getD j z)=false):idxB p l = -1:=by
 unfold idxB
 rw [if_neg]
 intro h
 have h2:=List.findIdx_getElem (w:=h)
 have h3:=hb _ h
 simp only [List.getD,List.getElem?_eq_getElem h,Option.getD_some] at h3
 rw [h2] at h3; cases h3
end Go.Nov
namespace Go.Nov
def ordB{α:Type}(c:α→α→Int)(z:α)(l:List α):Bool:=(List.range (l.length - 1)).all fun i=>decide (c (l.getD i z) (l.getD (i+1) z)<0)
theorem yz{α:Type}{c:α→α→Int}{z:α}{l:List α}(h:∀ j,j+1<l.length→c (l.getD j z) (l.getD (j+1) z)<0):ordB c z l=true:=by
 simp only [ordB,List.all_eq_true,List.mem_range,decide_eq_true_eq]
 exact fun j hj=>h j (by omega)
theorem Z1{α:Type}{c:α→α→Int}{z:α}{l:List α}{j:Nat}(hj:j+1<l.length)(h:¬ c (l.getD j z) (l.getD (j+1) z)<0):ordB c z l=false:=by
 simp only [ordB,List.all_eq_false,List.mem_range]
 exact⟨j,by omega,by simpa using h⟩
def errE(f:List Fx)(c:List Ch):Int:=if 1000<f.length∨1000<c.length then 4 else if(f.all okF&&c.all okC&&ordB cmpF Fx.nil f&&ordB cmpC Ch.nil c)=true then 0 else 8
end Go.Nov
namespace Go.Nov
theorem WN{x y:Int} : cmpI x y<0↔x<y:=by
 unfold cmpI
 split
 ·rename_i h; exact⟨fun _=>h,fun _=>by decide⟩
 ·rename_i h
  split
  ·exact⟨fun h2=>by omega,fun h2=>absurd h2 h⟩
  ·exact⟨fun h2=>by omega,fun h2=>absurd h2 h⟩
end Go.Nov
namespace Go.Nov
theorem Fx.eq_iff{a b:Fx} : (decide (a.name=b.name)&&(decide (a.date=b.date)&&(decide (a.value=b.value)&&true)))=true↔a=b:=by
 cases a; cases b
 simp [Fx.mk.injEq]
theorem Ch.eq_iff{a b:Ch} : (decide (a.jL=b.jL)&&(decide (a.name=b.name)&&(decide (a.date=b.date)&&((a.first == b.first)&&true))))=true↔a=b:=by
 cases a; cases b
 simp [Ch.mk.injEq]
theorem VF{α:Type}{l m:List α}{z:α}(hl:l.length=m.length)(h:∀ j,j<l.length→l.getD j z=m.getD j z):l=m:=by
 apply List.ext_getElem hl
 intro j h1 h2
 have:=h j h1
 simpa [List.getD,h1,h2] using this
end Go.Nov
end
section
namespace Go.Nov
open Go.Sx
inductive Con where
 | mk (kind:Int) (src dst name:List UInt8) (x:Ex) (date:Int) (days:List Int) (sub:List Con)
def qW(x:Ex):Bool:=decide (x.kind=0)&&(decide (x.rat=[])&&(decide (x.name=[])&&(decide (x.date=0)&&decide (x.sub.length=0))))
def kn(x:Ex):Nat:=bif qW x then 0 else x.size
def kf(x:Ex):Nat:=bif qW x then 0 else x.depth
def numX(x:Ex):Bool:=decide (x.errX=0)&&decide (x.zJ=1)
def truX(x:Ex):Bool:=decide (x.errX=0)&&decide (x.zJ=2)
def incB(l:List Int):Bool:=ordB cmpI 0 l
def kX(l:List Int):Bool:=decide (1≤l.length)&&(decide (l.length≤100)&&(l.all dayB&&incB l))
def Js(k:Int)(a b n:List UInt8)(x:Ex)(d:Int)(l:List Int)(m:Nat):Bool:=
 if k=1 then decide (m=0)&&decide (a=[])&&decide (b=[])&&decide (n=[])&&decide (d=0)&&decide (l=[])&&qW x
 else if k=2 then decide (m=0)&&zQ a&&zQ b&&decide (a≠b)&&zQ n&&numX x&&decide (d=0)&&decide (l=[])
 else if k=3 then decide (m=2)&&decide (a=[])&&decide (b=[])&&decide (n=[])&&decide (d=0)&&decide (l=[])&&qW x
 else if k=4 then decide (m=1)&&decide (a=[])&&decide (b=[])&&decide (n=[])&&decide (d=0)&&decide (l=[])&&numX x
 else if k=5 then decide (m=2)&&decide (a=[])&&decide (b=[])&&decide (n=[])&&decide (d=0)&&decide (l=[])&&truX x
 else if k=6 then decide (m=1)&&decide (a=[])&&decide (b=[])&&decide (n=[])&&dayB d&&decide (l=[])&&qW x
 else if k=7 then decide (m=2)&&zQ a&&decide (b=[])&&zQ n&&decide (d=0)&&decide (l=[])&&qW x
 else if k=8 then decide (m=1)&&zQ a&&decide (b=[])&&zQ n&&decide (d=0)&&kX l&&qW x
 else if k=9∨k=10 then decide (m=1)&&decide (a=[])&&decide (b=[])&&decide (n=[])&&decide (d=0)&&kX l&&truX x
 else false
theorem Ex.QI(s:List Ex)(i:Nat):Ex.zy (s.take i)≤Ex.zy s:=by
 induction s generalizing i with
 | nil=>simp [Ex.zy]
 | cons x s ih=>
  cases i with
  | zero=>simp [Ex.zy]
  | succ i=>simp only [List.take_succ_cons,Ex.zy]; have:=ih i; omega
namespace Con
def kind:Con→Int | mk k _ _ _ _ _ _ _=>k
def src:Con→List UInt8 | mk _ a _ _ _ _ _ _=>a
def dst:Con→List UInt8 | mk _ _ b _ _ _ _ _=>b
def name:Con→List UInt8 | mk _ _ _ n _ _ _ _=>n
def x:Con→Ex | mk _ _ _ _ x _ _ _=>x
def date:Con→Int | mk _ _ _ _ _ d _ _=>d
def days:Con→List Int | mk _ _ _ _ _ _ l _=>l
def sub:Con→List Con | mk _ _ _ _ _ _ _ s=>s
abbrev nil:Con:=mk 0 [] [] [] Ex.nil 0 [] []
mutual
def nodes:Con→Nat
 | mk _ _ _ _ _ _ _ s=>1+qL s
def qL:List Con→Nat
 | []=>0
 | c::l=>nodes c+qL l
end
mutual
def size:Con→Nat
 | mk _ _ _ _ x _ _ s=>1+kn x+zr s
def zr:List Con→Nat
 | []=>0
 | c::l=>size c+zr l
end
mutual
def depth:Con→Nat
 | mk _ _ _ _ x _ _ s=>1+max (kf x) (zy s)
def zy:List Con→Nat
 | []=>0
 | c::l=>max (depth c) (zy l)
end
mutual
def big:Con→Nat
 | mk _ a b n x _ l s=>1+a.length+b.length+n.length+l.length+x.size+x.zu+bigs s
def bigs:List Con→Nat
 | []=>0
 | c::l=>big c+bigs l
end
mutual
def form:Con→Bool
 | mk k a b n x d l s=>Js k a b n x d l s.length&&yj s
def yj:List Con→Bool
 | []=>true
 | c::l=>form c&&yj l
end
mutual
def thin:Con→Prop
 | mk _ a b n x _ l s=>a.length≤2^48∧b.length≤2^48∧n.length≤2^48∧x.thin∧l.length≤2^48∧s.length≤2^48∧QD s
def QD:List Con→Prop
 | []=>True
 | c::l=>thin c∧QD l
end
theorem yk(c:Con):c.nodes=1+qL c.sub:=by cases c; rw [nodes]; rfl
theorem size_eq(c:Con):c.size=1+kn c.x+zr c.sub:=by cases c; rw [size]; rfl
theorem kq(c:Con):c.depth=1+max (kf c.x) (zy c.sub):=by cases c; rw [depth]; rfl
theorem uo(c:Con):c.big=1+c.src.length+c.dst.length+c.name.length+c.days.length+c.x.size+c.x.zu+bigs c.sub:=by cases c; rw [big]; rfl
theorem size_pos(c:Con):0<c.size:=by rw [size_eq]; omega
theorem Wn(c:Con):0<c.nodes:=by rw [yk]; omega
theorem zge(c:Con):0<c.big:=by rw [uo]; omega
section
variable {f:Con→Nat} {F:List Con→Nat}
theorem V4(h0:F []=0)(h1:∀ c l,F (c::l)=f c+F l):∀ (s:List Con) (i:Nat),i<s.length→F (s.take (i+1))=F (s.take i)+f (s.getD i nil)
 | [],i,h=>by simp at h
 | c::s,0,_=>by simp [h0,h1]
 | c::s,i+1,h=>by
  simp only [List.take_succ_cons,h1,List.getD_cons_succ]
  rw [V4 h0 h1 s i (by simpa using h)]
  omega
theorem Zv(h0:F []=0)(h1:∀ c l,F (c::l)=f c+F l):∀ (s:List Con) (i:Nat),i<s.length→f (s.getD i nil)≤F s
 | [],i,h=>by simp at h
 | c::s,0,_=>by simp [h1]
 | c::s,i+1,h=>by
  simp only [List.getD_cons_succ,h1]
  have:=Zv h0 h1 s i (by simpa using h)
  omega
end
theorem ye{s:List Con}{i:Nat}(h:i<s.length):(s.getD i nil).nodes≤qL s:=Zv (by rw [qL]) (fun c l=>by rw [qL]) s i h
theorem Q6{s:List Con}{i:Nat}(h:i<s.length):zr (s.take (i+1))=zr (s.take i)+(s.getD i nil).size:=V4 (by rw [zr]) (fun c l=>by rw [zr]) s i h
theorem wv{s:List Con}{i:Nat}(h:i<s.length):(s.getD i nil).size≤zr s:=Zv (by rw [zr]) (fun c l=>by rw [zr]) s i h
theorem Ku{s:List Con}{i:Nat}(h:i<s.length):(s.getD i nil).big≤bigs s:=Zv (by rw [bigs]) (fun c l=>by rw [bigs]) s i h
theorem ZV:∀ s:List Con,s.length≤bigs s
 | []=>by simp
 | c::s=>by have:=zge c; have:=ZV s; rw [bigs,List.length_cons]; omega
theorem J7:∀ s:List Con,s.length≤qL s
 | []=>by simp
 | c::s=>by have:=Wn c; have:=J7 s; rw [qL,List.length_cons]; omega
theorem wE:∀ (s:List Con) (i:Nat),i<s.length→zy (s.take (i+1))=max (zy (s.take i)) (s.getD i nil).depth
 | [],i,h=>by simp at h
 | c::s,0,_=>by simp [zy]
 | c::s,i+1,h=>by
  simp only [List.take_succ_cons,zy,List.getD_cons_succ]
  rw [wE s i (by simpa using h)]
  omega
theorem JX:∀ (s:List Con) (i:Nat),zy (s.take i)≤zy s
 | [],i=>by simp [zy]
 | c::s,0=>by simp [zy]
 | c::s,i+1=>by simp only [List.take_succ_cons,zy]; have:=JX s i; omega
def errC(c:Con):Int:=if 500<c.size∨60<c.depth then 4 else if c.form=true then 0 else 8
def dayG(l:List Int):Nat→Nat→AV:=fun j _=>.int .i64 (l.getD j 0)
def dayS(l:List Int):AV:=.sl l.length 1 (dayG l)
def cell(k:Int)(a b n:List UInt8)(x:Ex)(d:Int)(l:List Int)(m:Nat)(g:Nat→Nat→AV):Nat→AV
 | 0=>.int .u8 k
 | 1=>.str a
 | 2=>.str b
 | 3=>.str n
 | 4=>.int .u8 x.kind
 | 5=>.str x.rat
 | 6=>.str x.name
 | 7=>.int .i64 x.date
 | 8=>.sl x.sub.length 5 (Ex.exG x.sub)
 | 9=>.int .i64 d
 | 10=>.sl l.length 1 (dayG l)
 | 11=>.sl m 12 g
 | _=>.undef
def deep:Con→Nat→Nat→AV
 | mk _ _ _ _ _ _ _ s=>fun j=>(s.map fun c=>cell c.kind c.src c.dst c.name c.x c.date c.days c.sub.length (deep c)).getD j fun _=>.undef
def conG(s:List Con):Nat→Nat→AV:=fun j=>cell (s.getD j nil).kind (s.getD j nil).src (s.getD j nil).dst (s.getD j nil).name (s.getD j nil).x (s.getD j nil).date (s.getD j nil).days (s.getD j nil).sub.length (deep (s.getD j nil))
def conS(s:List Con):AV:=.sl s.length 12 (conG s)
def Wv(k:Int)(a b n:List UInt8)(x:Ex)(d:Int)(l:List Int)(s:List Con):List AV:=[.int .u8 k,.str a,.str b,.str n,.int .u8 x.kind,.str x.rat,.str x.name,.int .i64 x.date,Ex.exS x.sub,.int .i64 d,dayS l,conS s]
def conA(c:Con):AV:=.agg [.int .u8 c.kind,.str c.src,.str c.dst,.str c.name,.int .u8 c.x.kind,.str c.x.rat,.str c.x.name,.int .i64 c.x.date,Ex.exS c.x.sub,.int .i64 c.date,dayS c.days,conS c.sub]
theorem qX(c:Con):eqG c.sub.length 12 (deep c) (conG c.sub):=by
 intro j o hj ho
 cases c with
 | mk k a b n x d l s=>
  rw [deep]
  change j<s.length at hj
  show _=conG s j o
  simp [conG,List.getD,hj]
theorem Vx{c e:Con} : c=e↔c.kind=e.kind∧c.src=e.src∧c.dst=e.dst∧c.name=e.name∧c.x=e.x∧c.date=e.date∧c.days=e.days∧c.sub=e.sub:=by
 cases c; cases e
 simp [kind,src,dst,name,x,date,days,sub]
theorem Wt{s t:List Con}(hl:s.length=t.length)(h:∀ j,j<s.length→s.getD j nil=t.getD j nil):s=t:=by
 apply List.ext_getElem hl
 intro i g1 g2
 have:=h i g1
 simpa [List.getD,g1,g2] using this
mutual
def all:Con→List Con
 | mk k a b n x d l s=>mk k a b n x d l s::alls s
def alls:List Con→List Con
 | []=>[]
 | c::l=>all c++alls l
end
theorem all_eq(c:Con):c.all=c::alls c.sub:=by cases c; rw [all]; rfl
def kZ(c:Con):Bool:=Js c.kind c.src c.dst c.name c.x c.date c.days c.sub.length
mutual
theorem Uv:∀ c:Con,c.all.length=c.nodes
 | mk k a b n x d l s=>by rw [all,nodes,List.length_cons,Vz s]; omega
theorem Vz:∀ s:List Con,(alls s).length=qL s
 | []=>by simp [alls,qL]
 | c::s=>by rw [alls,qL,List.length_append,Uv c,Vz s]
end
mutual
theorem QX:∀ c:Con,c.form=c.all.all kZ
 | mk k a b n x d l s=>by rw [all,form,List.all_cons,JP s]; rfl
theorem JP:∀ s:List Con,yj s=(alls s).all kZ
 | []=>by simp [alls,yj]
 | c::s=>by rw [alls,yj,List.all_append,QX c,JP s]
end
def wt(c:Con):Nat:=1+kn c.x
mutual
theorem K6:∀ c:Con,c.size=(c.all.map wt).sum
 | mk k a b n x d l s=>by rw [all,size,List.map_cons,List.sum_cons,Jr s]; rfl
theorem Jr:∀ s:List Con,zr s=((alls s).map wt).sum
 | []=>by simp [alls,zr]
 | c::s=>by rw [alls,zr,List.map_append,List.sum_append,K6 c,Jr s]
end
mutual
theorem Zz:∀ c:Con,∀ e∈c.all,e.big≤c.big
 | mk k a b n x d l s,e,he=>by
  rw [all] at he
  rcases List.mem_cons.1 he with rfl | he
  ·exact Nat.le_refl _
  ·have:=Vy s e he
   rw [big]; omega
theorem Vy:∀ s:List Con,∀ e∈alls s,e.big≤bigs s
 | [],e,he=>by simp [alls] at he
 | c::s,e,he=>by
  rw [alls] at he
  rw [bigs]
  rcases List.mem_append.1 he with he | he
  ·have:=Zz c e he; omega
  ·have:=Vy s e he; omega
end
theorem ZP(x:Ex):kn x≤x.size:=by unfold kn; cases qW x<;>simp
theorem JM(x:Ex):kf x≤kn x:=by
 unfold kn kf
 cases qW x
 ·exact Ex.vZ x
 ·exact Nat.le_refl _
mutual
theorem zcd:∀ c:Con,c.size≤c.big
 | mk k a b n x d l s=>by
  have:=uv s
  have:=ZP x
  rw [size,big]; omega
theorem uv:∀ s:List Con,zr s≤bigs s
 | []=>by simp [zr,bigs]
 | c::s=>by rw [zr,bigs]; have:=zcd c; have:=uv s; omega
end
mutual
theorem XB:∀ c:Con,c.depth≤c.size
 | mk k a b n x d l s=>by
  have:=xb s
  have:=JM x
  rw [depth,size]; omega
theorem xb:∀ s:List Con,zy s≤zr s
 | []=>by simp [zy,zr]
 | c::s=>by rw [zy,zr]; have:=XB c; have:=xb s; omega
end
theorem Xz(s:List Con):zy s≤bigs s:=Nat.le_trans (xb s) (uv s)
end Con
def Con.zj(c:Con):List AV:=Con.Wv c.kind c.src c.dst c.name c.x c.date c.days c.sub
def Con.outD(c:Con)(x d s:AV):AV:=.agg [.int .u8 c.kind,.str c.src,.str c.dst,.str c.name,.int .u8 c.x.kind,.str c.x.rat,.str c.x.name,.int .i64 c.x.date,x,.int .i64 c.date,d,s]
def Con.conD(c:Con):AV:=c.outD (Ex.exS c.x.sub) (Con.dayS c.days) (.sl c.sub.length 12 c.deep)
def Ex.cellsD(x:Ex):List AV:=[.int .u8 x.kind,.str x.rat,.str x.name,.int .i64 x.date,.sl x.sub.length 5 x.deep]
def Con.xo(e:Con):List AV:=[.int .u8 e.kind,.str e.src,.str e.dst,.str e.name,.int .u8 e.x.kind,.str e.x.rat,.str e.x.name,.int .i64 e.x.date,.sl e.x.sub.length 5 (Ex.exG e.x.sub),.int .i64 e.date,.sl e.days.length 1 (Con.dayG e.days),.sl e.sub.length 12 e.deep]
end Go.Nov
end
section
namespace Go.Sx
variable [Stat]
open Go.RowKit (Below)
def Wy(c:Code)(tg tp td t:Nat):Bool:=match c with
 | .rangeFunc (.tmp g) ps (.region _ ops false) _=>decide (g=tg)&&decide (ps.toList=[tp])&&match ops.toList with
  | [o1,o2]=>(decide (o1.dst=some td)&&o1.guard.isNone&&decide (o2.dst=none)&&o2.guard.isNone)&&(match o1.op with
   | .alloc u=>decide (u=t)
   | _=>false)&&(match o2.op with
   | .store u (.tmp p) (.tmp q)=>decide (u=t)&&decide (p=td)&&decide (q=tp)
   | _=>false)
  | _=>false
 | _=>false
theorem V8{c:Code}{tg tp td t:Nat}(h:Wy c tg tp td t=true):∃ id o1 o2,c = .rangeFunc (.tmp tg) #[tp] (.region id #[o1,o2] false) (kY c)∧(o1.dst=some td∧o1.guard=none∧o1.op = .alloc t)∧o2.dst=none∧o2.guard=none∧o2.op = .store t (.tmp td) (.tmp tp):=by
 unfold Wy at h
 split at h
 ·rename_i g ps id ops body
  simp only [Bool.and_eq_true,decide_eq_true_eq] at h
  obtain⟨⟨rfl,h2⟩,h3⟩:=h
  split at h3
  ·rename_i o1 o2 ho
   simp only [Bool.and_eq_true,decide_eq_true_eq,Option.isNone_iff_eq_none] at h3
   obtain⟨⟨⟨⟨⟨h4,h5⟩,h6⟩,h7⟩,h8⟩,h9⟩:=h3
   split at h8
   ·rename_i u hu
    simp only [decide_eq_true_eq] at h8
    subst h8
    split at h9
    ·rename_i v p q hv
     simp only [Bool.and_eq_true,decide_eq_true_eq] at h9
     obtain⟨⟨rfl,rfl⟩,rfl⟩:=h9
     refine⟨id,o1,o2,?_,⟨h4,h5,hu⟩,h6,h7,hv⟩
     have e1:ps = #[q]:=by rw [← Array.toList_inj]; exact h2
     have e2:ops = #[o1,o2]:=by rw [← Array.toList_inj]; exact ho
     rw [e1,e2]; rfl
    ·cases h9
   ·cases h8
  ·cases h3
 ·cases h
def qZ(own:Nat→Prop)(w W:World):Prop:=w.heap.size≤W.heap.size∧∀ b cs el fr,¬ own b→w.heap[b]?=some (.cells cs el fr)→W.heap[b]?=some (.cells cs el fr)
theorem qZ.cell{own:Nat→Prop}{w W:World}(h:qZ own w W){b o:Nat}{v:Value}(hb:¬ own b)(hc:w.cell? ⟨b,o,none⟩=some v):W.cell? ⟨b,o,none⟩=some v:=by
 unfold World.cell? at hc ⊢
 cases ho:w.heap[b]? with
 | none=>simp [ho] at hc
 | some ob=>
  simp only [ho] at hc
  cases ob with
  | cells cs el fr=>simp only [h.2 b cs el fr hb ho]; exact hc
  | _=>simp at hc
theorem qZ.trans{own:Nat→Prop}{A B C:World}(h:qZ own A B)(k:qZ own B C):qZ own A C:=⟨Nat.le_trans h.1 k.1,fun b cs el fr hb hc=>k.2 b cs el fr hb (h.2 b cs el fr hb hc)⟩
theorem qZ.grown{own:Nat→Prop}{A B:World}{row:Option Nat}(hg:A.grownBy B row)(hr:∀ r,row=some r→∃ o:Obj,A.heap[r]?=some o∧o.isCells=false):qZ own A B:=by
 refine⟨hg.size,fun b cs el fr _ hc=> ?_⟩
 rw [hg.block b (Array.getElem?_eq_some_iff.1 hc).1 fun e=>by
  obtain⟨o,h1,h2⟩:=hr b e.symm
  rw [hc] at h1; cases h1; simp [Obj.isCells] at h2]
 exact hc
theorem qZ.ext{own own':Nat→Prop}{A B:World}(h:Ext own A own' B):qZ own A B:=⟨h.size,fun b cs el fr hb hc=>by rw [h.keep b (Array.getElem?_eq_some_iff.1 hc).1 hb]; exact hc⟩
def V9:AV→Bool
 | .bool _=>true
 | .int _ _=>true
 | .str _=>true
 | .nils=>true
 | .sl _ _ _=>true
 | .nilp=>true
 | .nilf=>true
 | _=>false
theorem Xa{own:Nat→Prop}{w:World}{σ:List SE}{a:AV}{v:Value}(h:V9 a=true)(hr:Rep own w a σ v):Rep own w a [] v:=by
 cases a<;>first | (simp [V9] at h; done) | (simp only [Rep] at hr ⊢; exact hr)
section
variable {O:Nat→Prop} {pin:Nat} {w0:World} {σ0:List SE} {w:World} {σ:List SE} {P:Program} {a:Act} {fn:Func} {Γ:Nat→Option Ctr}
theorem XN{n:Nat}{h:Heap}(t:Nat):(mk n [] h).tmps.getD t .undef = .undef:=by
 simp only [mk,pk,List.getD,List.getElem?_map]
 cases (List.range n)[t]?<;>simp [look]
theorem zbg{pinR:Nat}{W1 W':World}{σ1 τ:List SE}{st:St}{a':Act}{n:Nat}(hM:Mod O pinR W1 σ1 W' τ st a'):Mod O pinR W1 σ1 W' τ (mk n [] st.heap) { tmps:=Array.replicate n undef,defers:=[] } :=by
 refine⟨hM.good,hM.hp,by simp [mk,pk],fun t=> ?_,Marks.nil _ _ _,hM.since,hM.lim⟩
 rw [XN]; simp [TRep,Rep]
theorem zct{pinR:Nat}{kv:KV}{H1 H2:Heap}{W W':World}{σ1 τ:List SE}(hM:Mod O pin w0 σ0 W σ1 (mk fn.ntmps kv H1) a)(hlow:(pk fn.ntmps kv).all (lowB pinR)=true)(hpin:pin≤pinR)(h2:Mod O pinR W σ1 W' τ (mk fn.ntmps [] H2) { tmps:=Array.replicate fn.ntmps undef,defers:=[] }) :
  Mod O pin w0 σ0 W' τ (mk fn.ntmps kv H2) a:=by
 have hx:=h2.since.ext
 refine⟨h2.good,h2.hp,hM.size,fun t=> ?_,hM.df.ext hx,hM.since.trans ⟨hx,h2.since.vC,h2.since.hold.le hpin⟩,hM.lim⟩
 have ht:=hM.tm t
 by_cases htn:t<fn.ntmps
 ·simp only [mk] at ht ⊢
  rw [j0 htn] at ht ⊢
  have hl:lowB pinR (look kv t)=true:=List.all_eq_true.1 hlow (look kv t) (by simp only [pk,List.mem_map,List.mem_range]; exact⟨t,htn,rfl⟩)
  generalize look kv t=y at ht hl
  cases y with
  | opt u b z=>exact absurd rfl (vr hl u b z)
  | _=>simp only [TRep] at ht ⊢; exact zZ hx h2.since.hold.hold _ _ (yY hl) ht
 ·have:(mk fn.ntmps kv H2).tmps.getD t .undef = .undef:=by simp [mk,pk,List.getD,htn]
  rw [this]; simp [TRep,Rep]
theorem Jh{st:St}{W W':World}{τ:List SE}(hm:Mod O pin w0 σ0 W τ st a){row:Option Nat}(hg:W.grownBy W' row)(hr:∀ r,row=some r→w0.heap.size≤r∧∃ o:Obj,W.heap[r]?=some o∧o.isCells=false):jG W W':=
 y5 hg fun r h=>⟨fun g hg=>by
  obtain⟨h1,h2⟩:=hg
  obtain⟨a,ha⟩:=Option.isSome_iff_exists.1 h1
  obtain⟨h3,c,h4,_,h5⟩:=hm.lim.at_ g a ha
  have h6:=hm.since.ext.cell (a:=⟨g,0,none⟩) h3 h4
  rw [h2] at h6
  have:=h5 r (by cases h6; rfl)
  have:=(hr r h).1
  omega,(hr r h).2⟩
theorem zdd{H1:Heap}{kv:KV}{pinR:Nat}{W W':World}{σ1 τ:List SE}{st:St}{a':Act}(B:Nat)(hM:Mod O pin w0 σ0 W σ1 (mk fn.ntmps kv H1) a)(hal:∀ b∈H1,alive b)(h2:Mod O pinR W σ1 W' τ st a'):KeepsFrom B W W':=by
 have hx:=h2.since.ext
 refine⟨hx.size,fun b o hb ho hoc=> ?_⟩
 have hlt:=(Array.getElem?_eq_some_iff.1 ho).1
 rw [← ho]
 by_cases hO:O b
 ·exact h2.since.vC b hO hlt
 ·refine hx.keep b hlt ?_
  rintro(h3 | h3)
  ·exact hO h3
  ·obtain⟨cs,el,fr,hcs⟩:=kK hM.hp hal h3
   rw [ho] at hcs; cases hcs; simp [Obj.isCells] at hoc
theorem take_same{pinR:Nat}{W W':World}{σ1 τ:List SE}(hl:σ1.length=pinR)(hh:wP pinR W σ1 W' τ):τ.take pinR=σ1:=by
 apply List.ext_getElem?
 intro i
 rw [List.getElem?_take]
 by_cases hi:i<pinR
 ·rw [if_pos hi]
  have he:σ1[i]?=some (σ1[i]'(by omega)):=List.getElem?_eq_getElem _
  rw [he]
  exact(hh i _ hi he).1
 ·rw [if_neg hi,List.getElem?_eq_none (by omega)]
theorem Ys{w:World}{b:Nat}{cs vs:Array Value}{el:TypeId}(h:w.heap[b]?=some (.cells cs el (0,0))):(w.setRow b vs).heap[b]?=some (.cells vs el (0,0)):=setRow_heap w _ _ _ _ _ h
theorem zfy{M:Option Nat}{td tp t id n:Nat}{o1 o2:Oper}{zs:List AV}(h1:o1.dst=some td∧o1.guard=none∧o1.op = .alloc t)(h2:o2.dst=none∧o2.guard=none∧o2.op = .store t (.tmp td) (.tmp tp))(hz:zeroCells P t=some zs)(hn:zX P t=some n)(hzl:zs.length=n)(hne:td≠tp)(htd:td<a.tmps.size)
  (hvl:(a.tmps.getD tp undef).cells.size=n) (hone:∀ u∈(a.tmps.getD tp undef).cells.toList,u.oneCell'=true) {K:Act→World→Prop} {Qe:Exit→Act→World→Prop}
  (h:∀ W',W'.heap[w.heap.size]?=some (.cells (a.tmps.getD tp undef).cells t (0,0))→w.grownBy W' none→K { a with tmps:=a.tmps.setIfInBounds td (.pointer (some ⟨w.heap.size,0,none⟩)) } W') :
  (Code.region id #[o1,o2] false).wpIn (FM M) 0 P (Exit.then K Qe) a w:=by
 obtain⟨y,hy⟩:∃ y,a.tmps.getD tp undef=y:=⟨_,rfl⟩
 rw [hy] at hvl hone h
 refine wpIn_region_list ?_
 simp only [Array.toList]
 refine wpListIn_step fun K' hK'=> ?_
 rw [if_pos (by simp [Region.wanted,h1.2.1])]
 refine kB (by simp [h1.2.2]) ?_
 unfold Oper.wp
 obtain⟨v,hv,hr⟩:=wj (P:=P) (own:=fun _=>False) (w:=w) (σ:=[]) hz
 have hvn:v.cells.size=n:=by have:=hr.length; simp at this; omega
 have hrun:(execOp a.eval o1).run P w = .ok (.value (.pointer (some ⟨w.heap.size,0,none⟩))) (w.alloc (.cells v.cells t)):=by
  simp only [execOp,h1.2.2,Instr.alloc,Sem.run_bind,hv,Result.andThen_ok]
  simp [newVar,newRow]
 rw [hrun]
 have e:a.put o1.dst (.pointer (some ⟨w.heap.size,0,none⟩))={ a with tmps:=a.tmps.setIfInBounds td (.pointer (some ⟨w.heap.size,0,none⟩)) } :=by rw [h1.1]; rfl
 show K' (a.put o1.dst (.pointer (some ⟨w.heap.size,0,none⟩))) (w.alloc (.cells v.cells t))
 rw [e]
 refine hK' _ _ ?_
 refine wpListIn_step fun K'' hK''=> ?_
 rw [if_pos (by simp [Region.wanted,h2.2.1])]
 refine kB (by simp [h2.2.2]) ?_
 unfold Oper.wp
 have hB:(w.alloc (.cells v.cells t)).heap[w.heap.size]?=some (.cells v.cells t (0,0)):=heap_alloc_new w _
 have hst:=run_storeCells_at P w.heap.size 0 t y.cells.toList 0 v.cells (w.alloc (.cells v.cells t)) hB (by simp; omega) hone
 have g1:(a.tmps.setIfInBounds td (.pointer (some ⟨w.heap.size,0,none⟩))).getD td undef = .pointer (some ⟨w.heap.size,0,none⟩):=by simp [htd]
 have g2:(a.tmps.setIfInBounds td (.pointer (some ⟨w.heap.size,0,none⟩))).getD tp undef=y:=by
  rw [← hy]
  simp only [Array.getD_eq_getD_getElem?]
  rw [Array.getElem?_setIfInBounds_ne hne]
 have hrun2:(execOp ({ a with tmps:=a.tmps.setIfInBounds td (.pointer (some ⟨w.heap.size,0,none⟩)) } : Act).eval o2).run P (w.alloc (.cells v.cells t)) = .ok .skip ((w.alloc (.cells v.cells t)).setRow w.heap.size y.cells):=by
  have hs:(Instr.storeAt t (.pointer (some ⟨w.heap.size,0,none⟩)) y).run P (w.alloc (.cells v.cells t)) = .ok () ((w.alloc (.cells v.cells t)).setRow w.heap.size y.cells):=by
   simp only [Instr.storeAt,Instr.sureAddr,Sem.run_bind,Sem.run_pure,Result.andThen_ok,storeVar,z7 hn]
   rw [if_neg (by omega)]
   rw [hst]
   congr 2
   have hd:List.drop n v.cells.toList=[]:=List.drop_eq_nil_of_le (by simp [hvn])
   simp [hvl,hd]
  simp only [execOp,h2.2.2,Act.eval,g1,g2,Sem.run_bind,hs,Result.andThen_ok,Sem.run_pure]
 rw [hrun2]
 refine hK'' _ _ ?_
 have e2:({ a with tmps:=a.tmps.setIfInBounds td (.pointer (some ⟨w.heap.size,0,none⟩)) } : Act).put o2.dst undef={ a with tmps:=a.tmps.setIfInBounds td (.pointer (some ⟨w.heap.size,0,none⟩)) } :=by rw [h2.1]; rfl
 rw [e2]
 refine h _ (Ys hB) ?_
 refine⟨rfl,rfl,rfl,by rw [setRow_size]; simp,fun k hk _=> ?_⟩
 rw [setRow_other _ _ _ _ (by omega)]
 exact Below.heap_alloc w _ k hk
theorem zc.zdh{α:Type}{Hs:Nat→KV→Heap→Prop}{R:List AV→Heap→Prop}{k:List Item}{c:Code}{kv:KV}{h:Heap}{tg tp td t n gf:Nat}{cap:List AV}{zs:List AV}(hc:Wy c tg tp td t=true)(hz:zeroCells P t=some zs)(hn:zX P t=some n)(hzl:zs.length=n)
  (he:∀ args w,(callFunc gf args).run P w = .ok (.enter gf args) w) (av:α→AV) (cs:α→List AV) (hcs:∀ x,cellsOf (av x)=some (cs x)∧(cs x).length=n∧(cs x).all oneA=true∧(cs x).all V9=true) (H Hx:List α→Heap) (X S Sp:List α→Prop) (N pinR:Nat)
  (hg:look kv tg = .fn gf [] cap) (htg:tg<fn.ntmps) (htp:tp<fn.ntmps) (htd:td<fn.ntmps) (hne:td≠tp) (hle:LeK pin fn.ntmps kv h kv (H [])) (hlow:(pk fn.ntmps kv).all (lowB pinR)=true) (hpin:pin≤pinR) (hlen:∀ pre,(H pre).length=pinR)
  (halive:∀ pre,∀ b∈H pre,alive b) (halivex:∀ pre,∀ b∈Hx pre,alive b)
  (iter:∀ w σ a,Mod O pin w0 σ0 w σ (mk fn.ntmps kv (H [])) a→∀ vb,RepL (Own O σ) w cap σ vb→∃ ev:α→Value,SeqStopsK Fence.wide 0 P gf vb.toArray (fun x=> #[ev x]) (qZ (Own O σ)) S Sp N w∧∀ x,Rep (Own O σ) w (av x) [] (ev x))
  (round:∀ l pre x,pre.length<N→∀ (W:World) (σ1:List SE),zE (some l) P (bare fn) O pinR W σ1 (fun d kv' h'=>LeK pinR fn.ntmps [] h' [] (H (pre++[x]))) (fun _ h'=>X (pre++[x])∧LeK pinR fn.ntmps [] h' [] (Hx (pre++[x]))) [.code (kY c),.inLoop] (mk fn.ntmps ((td,.iptr n fun o=>(cs x).getD o .undef)::(tp,av x)::kv) (H pre)))
  (done:∀ xs,S xs→zc P fn O pin w0 σ0 Hs R k (mk fn.ntmps kv (H xs)))
  (stop:∀ pre,Sp pre→X pre→(resX P (mk fn.ntmps kv (Hx pre)) fn.results.toList).holds fun rs=>R rs (Hx pre)) :
  zc P fn O pin w0 σ0 Hs R (.code c::k) (mk fn.ntmps kv h):=by
 obtain⟨id,o1,o2,hco,ho1,ho2⟩:=V8 hc
 generalize kY c=body at *
 subst hco
 clear hc
 intro w σ a hm0
 have hm:=hle.le.mod hm0
 clear hm0
 generalize σ.take (mk fn.ntmps kv (H [])).heap.length=σ at hm
 have hσl:σ.length=pinR:=by rw [hm.hp.len]; exact hlen []
 simp only [wpK]
 have hgt:=hm.tm tg
 have hev:(mk fn.ntmps kv (H [])).tmps.getD tg .undef = .fn gf [] cap:=by simp only [mk]; rw [j0 htg]; exact hg
 rw [hev] at hgt
 simp only [TRep,Rep] at hgt
 obtain⟨va,vb,hval,hva,hvb⟩:=hgt
 have hva:va=[]:=by simpa [RepL] using hva
 subst hva
 obtain⟨ev,hseq,hev0⟩:=iter w σ a hm vb hvb
 have hkeep:∀ W,Ext (Own O σ) w (Own O σ) W→∀ x,Rep (Own O σ) W (av x) σ (ev x):=fun W hx x=>zZ (K:=[]) (σ1:=[]) hx (fun i e h=>by simp at h) _ _ (ji _) (hev0 x)
 have extG:∀ {W W':World} {row:Option Nat},W.grownBy W' row→(∀ r,row=some r→w.heap.size≤r∧∃ o:Obj,W.heap[r]?=some o∧o.isCells=false)→Ext (Own O σ) w (Own O σ) W→Ext (Own O σ) w (Own O σ) W':=fun hg hr hx=>
  ⟨hg.os.trans hx.os,hg.tape.trans hx.tape,hg.output.trans hx.output,Nat.le_trans hx.size hg.size,fun b hb hn=>by
   rw [hg.block b (Nat.lt_of_lt_of_le hb hx.size) fun e=>by have:=(hr b e.symm).1; omega]
   exact hx.keep b hb hn,fun b hb=>.inl hb⟩
 have hB:∀ d∈a.defers,∃ D,d={ target:=.collected D,args:= #[] } ∧ D<w.heap.size:=by
  intro d hd
  obtain⟨D,h1,_,_,h4⟩:=hm.df.2 d hd
  exact⟨D,h1,(Array.getElem?_eq_some_iff.1 h4).1⟩
 have hOB:∀ b,O b→b<w.heap.size:=hm.good.old
 have hsz:a.tmps.size=fn.ntmps:=by rw [hm.size]; simp [mk,pk]
 have turnM:∀ {Hh:Heap} {τ:List SE} {W W':World} {row:Option Nat},(∀ b∈Hh,alive b)→W.grownBy W' row→(∀ r,row=some r→w.heap.size≤r∧∃ o:Obj,W.heap[r]?=some o∧o.isCells=false)→Mod O pin w0 σ0 W τ (mk fn.ntmps kv Hh) a→Mod O pin w0 σ0 W' τ (mk fn.ntmps kv Hh) a:=by
  intro Hh τ W W' row hal hgr hr hM
  have:=hM.turn hgr (ds:=a.defers) (fun r e=>⟨Nat.le_trans hm.since.ext.size (hr r e).1,(hr r e).2⟩) (.inl (uW hal)) (hM.df.turn hgr fun r e hmem=>by
   obtain⟨D,h1,h2⟩:=hB _ hmem
   have:=(hr r e).1
   simp only [Deferred.mk.injEq,Target.collected.injEq,and_true] at h1
   omega)
  exact this
 have push:∀ (D:Nat) (Hh:Heap) (W:World) (σ':List SE),(∀ b∈Hh,alive b)→w.heap.size≤D→W.heap[D]?=some (.deferred (some []))→Mod O pin w0 σ0 W σ' (mk fn.ntmps kv Hh) a→Mod O pin w0 σ0 W σ' (mk fn.ntmps kv Hh) { a with defers:={ target:=.collected D,args:= #[] } :: a.defers } :=by
  intro D Hh W σ' hal hD hWD hM
  refine⟨hM.good,hM.hp,hM.size,hM.tm,⟨List.nodup_cons.2 ⟨fun hmem=> ?_,hM.df.1⟩,fun d hd=> ?_⟩,hM.since,hM.lim⟩
  ·obtain⟨D',h1,h2⟩:=hB _ hmem
   simp only [Deferred.mk.injEq,Target.collected.injEq,and_true] at h1
   omega
  ·rcases List.mem_cons.1 hd with rfl | hd
   ·refine⟨D,rfl,Nat.le_trans hm.since.ext.size hD,?_,hWD⟩
    rintro(hO | hM')
    ·have:=hOB D hO; omega
    ·obtain⟨cs,el,fr,hcs⟩:=kK hM.hp hal hM'
     rw [hWD] at hcs; cases hcs
   ·exact hM.df.2 d hd
 let act:α→Nat→Act:=fun x B=>{ tmps:=(a.tmps.setIfInBounds tp (ev x)).setIfInBounds td (.pointer (some ⟨B,0,none⟩)),defers:=[] }
 refine Q0 1 0 ?_
 refine wpIn_rangeFunc_ownH (F:=Fence.wide) rfl (Nat.le_refl 1) (gf:=gf) (lb:=vb.toArray) (by simp only [Act.eval]; exact hval) trivial he (encs:=fun x=> #[ev x]) (Kp:=qZ (Own O σ)) (S:=S) (Sp:=Sp) (N:=N) (w0:=w) hseq
  (fun h1 h2=>h1.trans h2) (fun W l o o' h1 h2 h3 _=>qZ.grown (grownBy_putObj' W l o') fun r e=>by cases e; exact⟨o,h2,h3⟩) (Below.refl _ _) (fun _=>rfl)
  (fun pre W=>Ext (Own O σ) w (Own O σ) W∧Mod O pin w0 σ0 W σ (mk fn.ntmps kv (H pre)) a) (fun c pre W=>c = .ret∧X pre∧∃ σ',Mod O pin w0 σ0 W σ' (mk fn.ntmps kv (Hx pre)) a)
  (fun pre W W' row hI hgr hr=>⟨extG hgr hr hI.1,turnM (halive pre) hgr hr hI.2⟩) (fun c pre W W' row hI hgr hr=>⟨hI.1,hI.2.1,hI.2.2.imp fun _ h=>turnM (halivex pre) hgr hr h⟩) ⟨Ext.refl _ _,hm⟩
  (fun x a' W=>∃ B,a'=act x B∧¬ Own O σ B∧(∃ pre,Mod O pin w0 σ0 W σ (mk fn.ntmps kv (H pre)) a)∧W.heap[B]?=some (.cells (ev x).cells t (0,0)))
  ?_ ?_ ?_ ?_ ?_
 ·
  rintro x a' _ W W' row ⟨B,h1,h2,⟨pre,h0⟩,h3⟩ hgr hr
  have hk:=Jh h0 hgr fun r e=>⟨Nat.le_trans hm.since.ext.size (hr r e).1,(hr r e).2⟩
  exact⟨B,h1,h2,⟨pre,turnM (halive pre) hgr hr h0⟩,hk.cells _ _ _ _ h3⟩
 ·
  rintro l pre x W K ⟨hxt,hM⟩ hK
  have htpv:(a.tmps.setIfInBounds tp (ev x)).getD tp undef=ev x:=by simp [hsz,htp]
  have hx:=hkeep W hxt x
  have hcl:=qa (hcs x).1 hx
  suffices hgoal:Code.wpIn (FM (some l)) 0 P (.region id #[o1,o2] false) (Exit.then K (fun _ _ _=>False)) { tmps:=a.tmps.setIfInBounds tp (ev x),defers:=[] } W by simpa [FM] using hgoal
  refine zfy ho1 ho2 hz hn hzl hne (by simp [hsz,htd]) (by rw [htpv]; have:=hcl.length; simp at this; rw [← (hcs x).2.1]; omega) ?_ fun W' hB hgr=> ?_
  ·rw [htpv]
   intro u hu
   obtain⟨j,hj,hju⟩:=List.mem_iff_getElem.1 hu
   have hl:=hcl.length
   have hj':j<(cs x).length:=by omega
   exact j8 (List.all_eq_true.1 (hcs x).2.2.1 _ (List.getElem_mem hj')) ((zt.1 hcl).2 j (cs x)[j] u (List.getElem?_eq_getElem hj') (by rw [List.getElem?_eq_getElem hj,hju]))
  ·rw [htpv] at hB
   have hI:=turnM (halive pre) hgr (fun r e=>by cases e) hM
   refine hK _ W' ⟨hgr.size,fun k o _ ho _=> ?_⟩ (qZ.grown hgr fun r e=>by cases e) ⟨extG hgr (fun r e=>by cases e) hxt,hI⟩ ⟨W.heap.size,rfl,?_,⟨pre,hI⟩,hB⟩
   ·rw [hgr.block k (Array.getElem?_eq_some_iff.1 ho).1 (by simp)]; exact ho
   ·rintro(hO | ⟨e,he,ad,h1,h2⟩)
    ·exact Nat.lt_irrefl _ (hM.good.old _ hO)
    ·obtain⟨j,hj⟩:=List.getElem?_of_mem he
     have:=hM.hp.lt j e ad hj h1
     omega
 ·
  rintro l pre x a' W hl _ ⟨hxt,hM⟩ ⟨B,rfl,hnB,⟨pre',hM'⟩,hB⟩ hpre
  have hx:=hkeep W hxt x
  have hcl:=qa (hcs x).1 hx
  have hno:∀ u b y,av x≠.opt u b y:=fun u b y e=>by have:=(hcs x).1; rw [e] at this; simp [cellsOf] at this
  have hxT:∀ T,TRep (Own O σ) W σ T (av x) (ev x):=by
   intro T
   generalize av x=y at hx hno
   cases y with
   | opt t b z=>exact absurd rfl (hno t b z)
   | _=>simpa only [TRep] using hx
  have hptr:Rep (Own O σ) W (.iptr n fun o=>(cs x).getD o .undef) σ (.pointer (some ⟨B,0,none⟩)):=by
   simp only [Rep]
   refine⟨⟨B,0,none⟩,rfl,rfl,fun o ho=>⟨hnB,?_⟩⟩
   have hlen2:=hcl.length
   have ho':o<(cs x).length:=by rw [(hcs x).2.1]; exact ho
   refine⟨(ev x).cells.toList[o]'(by omega),?_,?_⟩
   ·simp only [World.cell?,hB,Nat.zero_add]
    simp
   ·have:=(zt.1 hcl).2 o (cs x)[o] _ (List.getElem?_eq_getElem ho') (List.getElem?_eq_getElem (by omega))
    have hf:=List.all_eq_true.1 (hcs x).2.2.2 _ (List.getElem_mem ho')
    simp only [List.getD,List.getElem?_eq_getElem ho',Option.getD_some]
    exact Xa hf this
  have hM2:Mod O pinR W σ W σ (mk fn.ntmps ((td,.iptr n fun o=>(cs x).getD o .undef)::(tp,av x)::kv) (H pre)) (act x B):=by
   refine⟨hM.good,hM.hp,by simp [act,mk,pk,hsz],fun u=> ?_,Marks.nil _ _ _,Stp.refl _ _ _ _,hM.good.stat⟩
   by_cases hu:u<fn.ntmps
   ·simp only [mk]
    rw [j0 hu]
    by_cases h1:td=u
    ·subst h1
     simp only [look,if_true]
     have:(act x B).tmps.getD td undef = .pointer (some ⟨B,0,none⟩):=by simp [act,hsz,hu]
     rw [this]; simpa only [TRep] using hptr
    ·have e1:(act x B).tmps.getD u undef=(a.tmps.setIfInBounds tp (ev x)).getD u undef:=by
      simp only [act,Array.getD_eq_getD_getElem?]
      rw [Array.getElem?_setIfInBounds_ne h1]
     rw [e1]
     by_cases h2:tp=u
     ·subst h2
      simp only [look,if_neg h1,if_true]
      have:(a.tmps.setIfInBounds tp (ev x)).getD tp undef=ev x:=by simp [hsz,hu]
      rw [this]; exact hxT _
     ·simp only [look,if_neg h1,if_neg h2]
      have e2:(a.tmps.setIfInBounds tp (ev x)).getD u undef=a.tmps.getD u undef:=by
       simp only [Array.getD_eq_getD_getElem?]
       rw [Array.getElem?_setIfInBounds_ne h2]
      rw [e2]
      have:=hM.tm u
      simp only [mk] at this
      rw [j0 hu] at this
      have hl:lowB pinR (look kv u)=true:=List.all_eq_true.1 hlow (look kv u) (by simp only [pk,List.mem_map,List.mem_range]; exact⟨u,hu,rfl⟩)
      generalize look kv u=y at this hl
      cases y with
      | opt u b z=>exact absurd rfl (vr hl u b z)
      | _=>simpa only [TRep] using this
   ·have:(mk fn.ntmps ((td,.iptr n fun o=>(cs x).getD o .undef)::(tp,av x)::kv) (H pre)).tmps.getD u .undef = .undef:=by simp [mk,pk,List.getD,hu]
    rw [this]; simp [TRep,Rep]
  have hr:=round l pre x hpre W σ W σ _ hM2
  simp only [wpK] at hr
  have fin:∀ (Hh:Heap) (st':St) (W':World) (τ:List SE) (a':Act),LeK pinR fn.ntmps [] st'.heap [] Hh→Mod O pinR W σ W' τ st' a'→KeepsFrom w.heap.size W W'∧Mod O pinR W σ W' (τ.take (mk fn.ntmps [] Hh).heap.length) (mk fn.ntmps [] Hh) { tmps:=Array.replicate fn.ntmps undef,defers:=[] } ∧ Mod O pin w0 σ0 W' (τ.take (mk fn.ntmps [] Hh).heap.length) (mk fn.ntmps kv Hh) a:=by
   intro Hh st' W' τ a' hL hM'
   have h1:=zbg (n:=fn.ntmps) hM'
   have h2:=hL.le.mod h1
   exact⟨zdd _ hM (halive pre) hM',h2,zct hM hlow hpin h2⟩
  refine wpIn_mono hr fun e a' W' h=> ?_
  cases e with
  | normal=>
   simp only [wpK] at h
   obtain⟨st,τ,⟨kv',h',hL,rfl⟩,hM'⟩:=h
   obtain⟨h1,h2,h3⟩:=fin _ (mk fn.ntmps kv' h') _ _ _ hL hM'
   have htk:τ.take (mk fn.ntmps [] (H (pre++[x]))).heap.length=σ:=by
    rw [show(mk fn.ntmps [] (H (pre++[x]))).heap.length=pinR from hlen _]
    exact take_same hσl hM'.since.hold
   rw [htk] at h2 h3
   exact⟨h1,qZ.ext h2.since.ext,hxt.trans h2.since.ext,h3⟩
  | ret=>
   simp only [wpK] at h
   rcases h with ⟨_,st,τ,⟨hX,hL⟩,hM'⟩ | ⟨_,_,h,_⟩
   rotate_left
   ·exact h.elim
   obtain⟨h1,_,h3⟩:=fin _ st _ _ _ hL hM'
   exact⟨h1,rfl,hX,_,h3⟩
  | exit i=>simp only [wpK] at h; exact absurd h (by simp)
  | goto t=>simp only [wpK] at h; exact absurd h (by simp)
  | panic ch=>simp only [wpK] at h; exact absurd h (by simp)
  | outgrown=>simp only [wpK] at h; exact absurd h (by simp)
 ·
  rintro D xs W hD hS ⟨_,hM⟩ hWD
  exact done xs hS W σ _ (push D _ W σ (halive xs) hD hWD hM)
 ·rintro D c pre W hD hSp ⟨rfl,hX,σ1,hM⟩ hWD
  refine wpIn_ret (xD (.inl ⟨.inl rfl,mk fn.ntmps kv (Hx pre),σ1,stop pre hSp hX,push D _ W σ1 (halivex pre) hD hWD hM⟩))
end
end Go.Sx
end
section
namespace Go.Sx
variable [Stat]
section
variable {O:Nat→Prop} {pin:Nat} {w0:World} {σ0:List SE} {w:World} {σ:List SE} {P:Program} {st:St} {a:Act} {fn:Func} {Xp:List PanicEntry→Prop}
theorem Jt{own:Nat→Prop}{i sz:Nat}(he:σ[i]?=some ⟨none,0⟩):∀ (cs:List AV) (j:Nat) (vs:List Value),cs[j]?=some .nils→RepL own w cs σ vs→RepL own w (cs.set j (.osl i sz 0 0)) σ vs
 | [],j,_,h,_=>by simp at h
 | b::l,0,vs,h,hr=>by
  simp only [List.getElem?_cons_zero,Option.some.injEq] at h
  subst h
  simp only [RepL] at hr
  obtain⟨v,r,rfl,h1,h2⟩:=hr
  simp only [Rep] at h1
  simp only [List.set_cons_zero,RepL]
  refine⟨v,r,rfl,?_,h2⟩
  rw [h1]
  simp only [Rep]
  exact⟨⟨none,0⟩,he,by simp,none,0,rfl,Nat.le_refl _,.inl rfl⟩
 | b::l,j+1,vs,h,hr=>by
  simp only [List.getElem?_cons_succ] at h
  simp only [RepL] at hr
  obtain⟨v,r,rfl,h1,h2⟩:=hr
  simp only [List.set_cons_succ,RepL]
  exact⟨v,r,rfl,h1,Jt he l j r h h2⟩
def UB(st:St)(i j sz:Nat)(g:Nat→Nat→AV)(cs:List AV):St:=⟨st.tmps,st.heap.set i (.box (cs.set j (.osl st.heap.length sz 0 0)))++[.arr 0 sz g]⟩
theorem UU(hm:Mod O pin w0 σ0 w σ st a){i j sz:Nat}{g:Nat→Nat→AV}{cs:List AV}(hb:st.heap[i]?=some (.box cs))(hj:cs[j]?=some .nils)(hno:st.tmps.all q6=true):Mod O pin w0 σ0 w (σ++[⟨none,0⟩]) (UB st i j sz g cs) a:=by
 obtain⟨k1,k2,k3⟩:=Y7 hm.good hm.hp sz g
 have hx:=ext_nil (O:=O) w σ 0
 have hlt:=(List.getElem?_eq_some_iff.1 hb).1
 have hp:HRep (Own O (σ++[⟨none,0⟩])) w (σ++[⟨none,0⟩]) ((st.heap++[Blk.arr 0 sz g]).set i (Blk.box (cs.set j (.osl st.heap.length sz 0 0)))):=by
  refine WJ k1 fun e he=> ?_
  have h1:=k1.blk i e (.box cs) he (by rw [List.getElem?_append_left hlt]; exact hb)
  simp only [BRep] at h1 ⊢
  obtain⟨ad,vs,el,q1,q2,q3,q4⟩:=h1
  exact⟨ad,vs,el,q1,q2,q3,Jt (by rw [← hm.hp.len]; simp) cs j vs hj q4⟩
 rw [List.set_append_left _ _ hlt] at hp
 refine⟨k2,hp,by simp [UB,hm.size],fun u=> ?_,hm.df.ext hx,hm.since.trans ⟨hx,fun _ _ _=>rfl,wP.of k3 (by simp)⟩,hm.lim⟩
 have hu:=hm.tm u
 show TRep _ _ _ _ (st.tmps.getD u .undef) _
 have hn:q6 (st.tmps.getD u .undef)=true:=by
  by_cases hlt:u<st.tmps.length
  ·simp only [List.getD,List.getElem?_eq_getElem hlt,Option.getD_some]
   exact List.all_eq_true.1 hno _ (List.getElem_mem hlt)
  ·simp only [List.getD]
   rw [List.getElem?_eq_none (by omega)]; rfl
 generalize st.tmps.getD u .undef=x at hu hn
 cases x with
 | opt _ _ _=>simp [q6] at hn
 | _=>simp only [TRep] at hu ⊢; exact zZ hx k3 _ _ (ji _) hu
theorem zc.zj7{M:Option Nat}{Hs:Nat→KV→Heap→Prop}{R:List AV→Heap→Prop}{k:List Item}{kv:KV}{h:Heap}(i j sz:Nat)(g:Nat→Nat→AV){cs:List AV}(hb:h[i]?=some (.box cs))(hj:cs[j]?=some .nils)(hno:(pk fn.ntmps kv).all q6=true)
  (H:zG Xp M P fn O pin w0 σ0 Hs R k (mk fn.ntmps kv (h.set i (.box (cs.set j (.osl h.length sz 0 0)))++[.arr 0 sz g]))):zG Xp M P fn O pin w0 σ0 Hs R k (mk fn.ntmps kv h):=
 fun w σ a hm=>H w _ a (UU hm hb hj hno)
end
end Go.Sx
end
section
set_option maxRecDepth 100000
open Go Go.Sx Go.Proofs Go.Nov
namespace Go.Proofs.Tryz
attribute [local simp] eqKV eqA eqA0 eqH eqB eqL eqL0
theorem zgg{own:Nat→Prop}{w:World}{σ:List SE}{n sz:Nat}{g g':Nat→Nat→AV}{v:Value}(hg:eqG n sz g g')(h:Rep own w (.sl n sz g) σ v):Rep own w (.sl n sz g') σ v:=by
 simp only [Rep] at h ⊢
 obtain⟨a,cap,h1,h2,h3⟩:=h
 refine⟨a,cap,h1,h2,h3.imp id ?_⟩
 rintro⟨ad,h4,h5,h6⟩
 refine⟨ad,h4,h5,fun j o hj ho=> ?_⟩
 obtain⟨h7,c,h8,h9,h10⟩:=h6 j o hj ho
 exact⟨h7,c,h8,h9,by rw [← hg j o hj ho]; exact h10⟩
theorem Vg{own:Nat→Prop}{w:World}{σ:List SE}{n sz:Nat}{g:Nat→Nat→AV}{v:Value}(h:Rep own w (.sl n sz g) σ v):∃ a cap,v = .slice a n cap:=by
 simp only [Rep] at h
 obtain⟨a,cap,h1,_⟩:=h
 exact⟨a,cap,h1⟩
def Link(own:Nat→Prop)(w:World)(l:List Con)(m:List CT):Prop:=l.length=m.length∧∀ (i:Nat) (c:Con) (t:CT),l[i]?=some c→m[i]?=some t→Rep own w c.conA [] t.val
theorem Link.app{own:Nat→Prop}{w:World}{l l':List Con}{m m':List CT}(h:Link own w l m)(h':Link own w l' m'):Link own w (l++l') (m++m'):=by
 refine⟨by simp [h.1,h'.1],fun i c t hc ht=> ?_⟩
 rw [List.getElem?_append] at hc ht
 rw [h.1] at hc
 split at hc
 ·rename_i hi; rw [if_pos hi] at ht; exact h.2 i c t hc ht
 ·rename_i hi; rw [if_neg hi] at ht; exact h'.2 _ c t hc ht
theorem zfp{own:Nat→Prop}{w:World}{c:Con}{vs:List Value}(h:RepL own w [.int .u8 c.kind,.str c.src,.str c.dst,.str c.name,.int .u8 c.x.kind,.str c.x.rat,.str c.x.name,.int .i64 c.x.date,Ex.exS c.x.sub,.int .i64 c.date,Con.dayS c.days,.sl c.sub.length 12 (Con.conG c.sub)] [] vs) :
  ∃ (p q r:Option Addr) (l m n:Nat),vs=[.int .u8 c.kind,.string ⟨c.src.toArray⟩,.string ⟨c.dst.toArray⟩,.string ⟨c.name.toArray⟩,.int .u8 c.x.kind,.string ⟨c.x.rat.toArray⟩,.string ⟨c.x.name.toArray⟩,.int .i64 c.x.date,.slice p c.x.sub.length l,.int .i64 c.date,.slice q c.days.length m,.slice r c.sub.length n]:=by
 simp only [RepL] at h
 obtain⟨v0,_,rfl,h0,v1,_,rfl,h1,v2,_,rfl,h2,v3,_,rfl,h3,v4,_,rfl,h4,v5,_,rfl,h5,v6,_,rfl,h6,v7,_,rfl,h7,v8,_,rfl,h8,v9,_,rfl,h9,v10,_,rfl,h10,v11,_,rfl,h11,rfl⟩:=h
 obtain⟨p,l,rfl⟩:=Vg h8
 obtain⟨q,m,rfl⟩:=Vg h10
 obtain⟨r,n,rfl⟩:=Vg h11
 simp only [Rep] at h0 h1 h2 h3 h4 h5 h6 h7 h9
 subst h0 h1 h2 h3 h4 h5 h6 h7 h9
 exact⟨p,q,r,l,m,n,rfl⟩
theorem zl9{own:Nat→Prop}{w:World} : ∀ (n:Nat) (c:Con),c.nodes≤n→c.nodes≤1000000→∀ v,Rep own w c.conA [] v→∃ t:CT,t.val=v∧t.mem (qZ own w)∧Link own w c.all t.all:=by
 intro n
 induction n with
 | zero=>intro c h; have:=c.Wn; omega
 | succ n ih=>
  intro c hn hbig v hv
  rw [Con.yk] at hn hbig
  have hv0:=hv
  simp only [Con.conA,Rep] at hv
  obtain⟨vs,rfl,hr⟩:=hv
  obtain⟨p,q,r,l,m,cap,hvs⟩:=zfp hr
  have hsub:Rep own w (.sl c.sub.length 12 (Con.conG c.sub)) [] (.slice r c.sub.length cap):=by
   have:=(zt.1 hr).2 11 (.sl c.sub.length 12 (Con.conG c.sub)) (.slice r c.sub.length cap) rfl (by rw [hvs]; rfl)
   exact this
  have kidsL:∀ (s:List Con) (j:Nat),(∀ i e,s[i]?=some e→c.sub[j+i]?=some e)→(∀ e∈s,e.nodes≤n∧e.nodes≤1000000)→∃ kids:List CT,kids.length=s.length∧CT.mems (qZ own w) r j kids∧Link own w (Con.alls s) (CT.alls kids):=by
   intro s
   induction s with
   | nil=>intro j _ _; exact⟨[],rfl,trivial,by rw [Con.alls,CT.alls]; exact⟨rfl,fun i c t h=>by simp at h⟩⟩
   | cons e s ihs=>
    intro j hat hall
    obtain⟨ks,hk1,hk2,hk3⟩:=ihs (j+1) (fun i e' he=>by have:=hat (i+1) e' (by simpa using he); rwa [show j+(i+1)=j+1+i by omega] at this) (fun e' he=>hall e' (by simp [he]))
    have hej:=hat 0 e rfl
    rw [Nat.add_zero] at hej
    have hjl:j<c.sub.length:=(List.getElem?_eq_some_iff.1 hej).1
    simp only [Rep] at hsub
    obtain⟨r',cap',hrr,_,hz | ⟨ad,rfl,hspot,hcells⟩⟩:=hsub
    ·omega
    simp only [Value.slice.injEq] at hrr
    obtain⟨rfl,_,rfl⟩:=hrr
    have hce:c.sub.getD j Con.nil=e:=by simp [List.getD,hej]
    have cells:∀ o,o<12→¬ own ad.block∧∃ u,w.cell? ⟨ad.block,ad.off+(j*12+o),none⟩=some u∧u.oneCell'=true∧Rep own w (Con.cell e.kind e.src e.dst e.name e.x e.date e.days e.sub.length e.deep o) [] u:=by
     intro o ho
     have:=hcells j o hjl ho
     simp only [Con.conG,hce] at this
     exact this
    obtain⟨hnb,u0,c0,_,r0⟩:=cells 0 (by decide)
    obtain⟨_,u1,c1,_,r1⟩:=cells 1 (by decide)
    obtain⟨_,u2,c2,_,r2⟩:=cells 2 (by decide)
    obtain⟨_,u3,c3,_,r3⟩:=cells 3 (by decide)
    obtain⟨_,u4,c4,_,r4⟩:=cells 4 (by decide)
    obtain⟨_,u5,c5,_,r5⟩:=cells 5 (by decide)
    obtain⟨_,u6,c6,_,r6⟩:=cells 6 (by decide)
    obtain⟨_,u7,c7,_,r7⟩:=cells 7 (by decide)
    obtain⟨_,u8,c8,_,r8⟩:=cells 8 (by decide)
    obtain⟨_,u9,c9,_,r9⟩:=cells 9 (by decide)
    obtain⟨_,u10,c10,_,r10⟩:=cells 10 (by decide)
    obtain⟨_,u11,c11,_,r11⟩:=cells 11 (by decide)
    have hrep:Rep own w e.conA [] (.agg #[u0,u1,u2,u3,u4,u5,u6,u7,u8,u9,u10,u11]):=by
     simp only [Con.conA]
     rw [Rep]
     refine⟨[u0,u1,u2,u3,u4,u5,u6,u7,u8,u9,u10,u11],rfl,?_⟩
     simp only [RepL]
     exact⟨_,_,rfl,r0,_,_,rfl,r1,_,_,rfl,r2,_,_,rfl,r3,_,_,rfl,r4,_,_,rfl,r5,_,_,rfl,r6,_,_,rfl,r7,_,_,rfl,r8,_,_,rfl,r9,_,_,rfl,r10,_,_,rfl,zgg (Con.qX e) r11,rfl⟩
    obtain⟨hen,heb⟩:=hall e (by simp)
    obtain⟨t,ht1,ht2,ht3⟩:=ih e hen heb _ hrep
    refine⟨t::ks,by simp [hk1],?_,by rw [Con.alls,CT.alls]; exact ht3.app hk3⟩
    rw [CT.mems]
    refine⟨⟨ad,ad.block,ad.off+j*12,rfl,by obtain⟨ab,ao,as'⟩:=ad; simp only at hspot; subst hspot; exact Addr.add_lit ..,fun W hW k u hu=> ?_⟩,ht2,hk2⟩
    have hcs:t.cells=[u0,u1,u2,u3,u4,u5,u6,u7,u8,u9,u10,u11]:=by
     have:t.val = .agg t.cells.toArray:=by cases t; rfl
     rw [this] at ht1
     simp only [Value.agg.injEq] at ht1
     have:=congrArg Array.toList ht1
     simpa using this
    rw [hcs] at hu
    rw [Nat.add_assoc]
    refine hW.cell hnb ?_
    have hk12:k<12:=by have:=(List.getElem?_eq_some_iff.1 hu).1; simpa using this
    match k,hk12 with
    | 0,_=>cases hu; exact c0
    | 1,_=>cases hu; exact c1
    | 2,_=>cases hu; exact c2
    | 3,_=>cases hu; exact c3
    | 4,_=>cases hu; exact c4
    | 5,_=>cases hu; exact c5
    | 6,_=>cases hu; exact c6
    | 7,_=>cases hu; exact c7
    | 8,_=>cases hu; exact c8
    | 9,_=>cases hu; exact c9
    | 10,_=>cases hu; exact c10
    | 11,_=>cases hu; exact c11
  have hsz:∀ e∈c.sub,e.nodes≤Con.qL c.sub:=by
   intro e he
   obtain⟨i,hi,rfl⟩:=List.getElem_of_mem he
   have:=Con.ye (s:=c.sub) hi
   simpa [List.getD,hi] using this
  obtain⟨kids,hk1,hk2,hk3⟩:=kidsL c.sub 0 (fun i e he=>by rw [Nat.zero_add]; exact he) (fun e he=>by have:=hsz e he; omega)
  have hlen:=Con.J7 c.sub
  refine⟨.mk c.kind ⟨c.src.toArray⟩ ⟨c.dst.toArray⟩ ⟨c.name.toArray⟩ c.x.kind ⟨c.x.rat.toArray⟩ ⟨c.x.name.toArray⟩ c.x.date p c.x.sub.length l c.date q c.days.length m r cap kids,?_,?_,?_⟩
  ·rw [hvs,← hk1]; rfl
  ·rw [CT.mem]; exact⟨by omega,hk2⟩
  ·rw [Con.all_eq,CT.all]
   have hone:Link own w [c] [.mk c.kind ⟨c.src.toArray⟩ ⟨c.dst.toArray⟩ ⟨c.name.toArray⟩ c.x.kind ⟨c.x.rat.toArray⟩ ⟨c.x.name.toArray⟩ c.x.date p c.x.sub.length l c.date q c.days.length m r cap kids]:=by
    refine⟨rfl,fun i e t he ht=> ?_⟩
    match i with
    | 0=>
     cases he; cases ht
     have e1:CT.val (.mk c.kind ⟨c.src.toArray⟩ ⟨c.dst.toArray⟩ ⟨c.name.toArray⟩ c.x.kind ⟨c.x.rat.toArray⟩ ⟨c.x.name.toArray⟩ c.x.date p c.x.sub.length l c.date q c.days.length m r cap kids) = .agg vs.toArray:=by rw [hvs,← hk1]; rfl
     rw [e1]; exact hv0
    | i+1=>simp at he
   exact hone.app hk3
theorem Vq{n m:Nat}(h:n≤m):List.range n <+: List.range m:=by
 have e:List.range n=(List.range m).take n:=by
  apply List.ext_getElem?
  intro i
  simp only [List.getElem?_range,List.getElem?_take]
  split
  ·rename_i hi
   rw [List.getElem?_range hi,List.getElem?_range (by omega)]
  ·rename_i hi
   rw [List.getElem?_eq_none (by simp; omega)]
 rw [e]; exact List.take_prefix _ _
theorem VB{own:Nat→Prop}{w:World}{c:Con}{B:Nat}{vs:List Value}{el:TypeId}(hB:w.heap[B]?=some (.cells vs.toArray el (0,0)))(hr:Rep own w c.conA [] (.agg vs.toArray))(hn:c.nodes≤1000000)(hown:∀ b,own b→b<w.heap.size) :
  ∃ ev:Nat→Value,SeqStopsK Fence.wide 0 Tryz.prog 110 #[.pointer (some ⟨B,0,none⟩)] (fun x=> #[ev x]) (qZ own) (fun xs=>xs=List.range c.all.length) (fun pre=>pre <+: List.range c.all.length) c.all.length w∧∀ i,Rep own w (c.all.getD i c).conA [] (ev i):=by
 obtain⟨t,ht,hm,hlen,hl⟩:=zl9 c.nodes c (Nat.le_refl _) hn _ hr
 have ht0:t.all[0]?=some t:=by cases t; rw [CT.all]; rfl
 have hc0:c.all[0]?=some c:=by rw [Con.all_eq]; rfl
 refine⟨fun i=>(t.all.getD i t).val,?_,fun i=> ?_⟩
 ·intro l J Jx W hW hJ hJx hY h0
  have hBl:B<w.heap.size:=(Array.getElem?_eq_some_iff.1 hB).1
  have hK:qZ own w W:=⟨hW.size,fun b cs el fr _ hc=>by rw [hW.block b (Array.getElem?_eq_some_iff.1 hc).1]; exact hc⟩
  refine CallsIn.mono (Tryz.zaf Fence.wide rfl trivial trivial rfl l w.heap.size 0 B t (qZ own w) (qZ own) (fun pre W=>pre <+: t.all∧J (List.range pre.length) W) (fun pre W=>Jx (List.range pre.length) W) (fun pre A B h hg=>⟨h.1,hJ _ _ _ none h.2 hg fun r e=>by cases e⟩)
   (fun A B C h k=>h.trans k) (fun A B hg=>qZ.grown hg fun r e=>by cases e) (fun A B b cs el hk hb hc=>hk.2 b cs el (0,0) (fun ho=>by have:=hown b ho; omega) hc) (fun A B h k=>h.trans k) (fun A h=>h.1) ?_ W hm hK ⟨List.nil_prefix,h0⟩ ?_) ?_
  ·rintro m pre t' W1 ⟨hp,hj⟩ _ hpre
   have hlt:pre.length<t.all.length:=by have:=hpre.length_le; simp at this; omega
   have hget:t.all.getD pre.length t=t':=by
    obtain⟨r,hr⟩:=hpre
    rw [← hr]; simp [List.getD]
   refine XZ rfl m (YieldAt.mono (hY (List.range pre.length) pre.length W1 hj (by rw [List.length_range,hlen]; exact hlt)) ?_) |> fun h=>by
    simp only [hget] at h
    exact h
   rintro e W' (⟨rfl,h2,h3⟩ | ⟨rfl,h2⟩)
   ·refine .inl ⟨rfl,⟨hpre,?_⟩,h3⟩
    rw [List.length_append,List.length_singleton,List.range_succ]; exact h2
   ·refine .inr ⟨rfl,?_⟩
    show Jx (List.range (pre++[t']).length) W'
    rw [List.length_append,List.length_singleton,List.range_succ]; exact h2
  ·intro k v hk
   have hcs:t.cells=vs:=by
    have:t.val = .agg t.cells.toArray:=by cases t; rfl
    rw [this] at ht
    simp only [Value.agg.injEq] at ht
    have:=congrArg Array.toList ht
    simpa using this
   rw [hcs] at hk
   have:W.heap[B]?=some (.cells vs.toArray el (0,0)):=by rw [hW.block B hBl]; exact hB
   simp only [World.cell?,this]
   simpa using hk
  ·rintro e W' ⟨hv,h⟩
   refine⟨hv,?_⟩
   rcases h with ⟨_,h⟩ | ⟨q,hq,h⟩
   ·exact .inl ⟨_,by rw [hlen],h⟩
   ·exact .inr ⟨_,by rw [hlen]; exact Vq hq.length_le,h⟩
 ·by_cases hi:i<c.all.length
  ·have e1:c.all[i]?=some c.all[i]:=List.getElem?_eq_getElem hi
   have e2:t.all[i]?=some (t.all[i]'(by omega)):=List.getElem?_eq_getElem _
   have:=hl i _ _ e1 e2
   simpa [List.getD,e1,e2] using this
  ·have e1:c.all[i]?=none:=List.getElem?_eq_none (by omega)
   have e2:t.all[i]?=none:=List.getElem?_eq_none (by omega)
   have:=hl 0 _ _ hc0 ht0
   simpa [List.getD,e1,e2] using this
noncomputable def K148:List Go.Sx.Item:=[.code (Tryz.f148.body.getD .skip)]
theorem hmix:Tryz.prog.follows .mixedOrders=true:=by decide +kernel
def noG:Nat→Option Ctr:=fun _=>none
theorem zD:∀ g c,noG g=some c→zf Tryz.prog g c:=fun _ _ h=>by cases h
def ziy:AV→Nat
 | .int _ n=>n.toNat
 | _=>0
def decN(n:Nat)(g:Nat→Nat→AV):List Nat:=(List.range n).map fun j=>ziy (g j 0)
theorem xB(k:IntKind)(l:List Nat):decN l.length (natG k l)=l:=by
 apply List.ext_getElem (by simp [decN])
 intro j h1 h2
 simp [decN,natG,ziy,h2]
theorem zb(n sz:Nat)(g:Nat→Nat→AV):eqG n sz g g:=fun _ _ _ _=>rfl
theorem yw{k:IntKind}{l:List Nat}{v:Int}(hv:0≤v):eqG (l.length+1) 1 (appG l.length (natG k l) (zg (zh 1 [.int k v]) 0)) (natG k (l++[v.toNat])):=by
 intro j o hj ho
 have ho:o=0:=by omega
 subst ho
 simp only [appG,zg,zh,natG]
 by_cases h:j<l.length
 ·simp [h,List.getElem?_append]
 ·have:j=l.length:=by omega
  subst this
  simp [Int.toNat_of_nonneg hv]
theorem wZ{k:IntKind}{o:List Nat}{v:Int}{d:Nat}{r:Heap}(hv:v=d):eqH (.arr (o.length+1) 1 (appG o.length (natG k o) (zg (zh 1 [.int k v]) 0))::r) [.arr (o++[d]).length 1 (natG k (o++[d]))]:=by
 subst hv
 refine⟨⟨by simp,rfl,?_⟩,by simp [eqH]⟩
 have:=yw (k:=k) (l:=o) (v:=(d:Int)) (by omega)
 simpa using this
theorem vV{k:IntKind}{l:List Nat}{v:Int}{i:Nat}(hv:0≤v)(hi:i<l.length):eqG l.length 1 (updG (natG k l) i 0 [.int k v]) (natG k (l.set i v.toNat)):=by
 intro j o hj ho
 have ho:o=0:=by omega
 subst ho
 simp only [updG,natG,List.length_cons,List.length_nil]
 by_cases h:j=i
 ·subst h
  simp [hj,Int.toNat_of_nonneg hv]
 ·simp only [h,false_and,if_false]
  simp [List.getElem?_set_ne (fun e=>h e.symm)]
def magS(x:Nat):AV:=natS .u32 (canon x)
def fits(x:Nat):Prop:=(canon x).length<1000000
theorem V2{m off n:Nat}{k:IntKind}{o:List Nat}{r:Heap} : new0 (.arr m 1 (natG k o)::r) [] (.osl 0 1 off n):=by
 intro _
 simp only [exp0,z5,frz1,jx,List.getElem?_cons_zero,if_true]
 intro j o' _ _
 rfl
theorem Kq{m off n:Nat}{g:Nat→Nat→AV}{r:Heap} : exp0 (.arr m 1 g::r) [] (.osl 0 1 off n) = .sl n 1 (zg g off):=by
 simp [exp0,z5,frz1,jx]
theorem Wc{k:IntKind}{o l:List Nat}(h:qC o=l):eqA0 (.sl (tlen o) 1 (zg (natG k o) 0)) (natS k l):=by
 subst h
 simp only [eqA0,natS,qC,List.length_take,true_and]
 refine⟨by have:=qj o; omega,?_⟩
 intro j o' hj ho'
 have:o'=0:=by omega
 subst this
 simp [zg,natG,List.getElem?_take,hj]
def ctr2{R:Type}(fresh:Bool)(pre:Nat→Nat→Prop)(post:Nat→Nat→R→Prop)(out:Nat→Nat→R→AV×Heap):Ctr:=
 ctrP fresh (fun p:Nat×Nat=>[magS p.1,magS p.2]) (fun p=>pre p.1 p.2) (fun p=>post p.1 p.2) (fun p=>out p.1 p.2)
theorem yZ{R:Type}{fresh:Bool}{pre:Nat→Nat→Prop}{post:Nat→Nat→R→Prop}{out:Nat→Nat→R→AV×Heap}{g:Nat}{fn:Func}{c:Code}(hf:Tryz.prog.funcs[g]?=some fn)(hb:fn.body=some c) (hn:(fn.name == "runtime.NumGoroutine")=false)
  (H:∀ x y,pre x y→∀ (O:Nat→Prop) (w0:World) (Q:AV×Heap→Prop),(∀ r,post x y r→Q (out x y r))→zc Tryz.prog fn O 0 w0 [] (fun _ _ _=>False) (RetR (ctr2 fresh pre post out) 0 Q) [.code c] (entry fn [magS x,magS y])):zf Tryz.prog g (ctr2 fresh pre post out):=
 zi hf hb hn fun p hp=>H p.1 p.2 hp
def uX:Ctr where
 fresh:=false
 spec args hc:=match args,hc with
  | [.sl n 1 g],[]=>.ex (fun l:List Nat=>dig l∧l.length=n∧n<2^62∧eqG n 1 g (natG .u32 l)) fun l=>.all (fun x=>x=val l) fun x=>.leaf (magS x,[])
  | [.osl 0 1 off n],[.arr m 1 g]=>.ex (fun u:List Nat=>u.length=m∧off+n≤m∧n<2^62∧eqG m 1 g (natG .u32 u)∧dig ((u.drop off).take n)) fun u=>.all (fun x=>x=val ((u.drop off).take n)) fun x=>.leaf (.osl 0 1 off (canon x).length,[.arr m 1 g])
  | _,_=>.fail
def S75o(off n:Nat):KV:=[(0,.osl 0 1 off n)]
def S75(l:List Nat)(n:Nat):KV:=[(0,.sl n 1 (natG .u32 l))]
theorem W8:zf Tryz.prog 148 uX:=by
 intro args hc Q hq hfr
 unfold uX at hq
 dsimp only at hq
 split at hq
 ·rename_i n g
  obtain⟨l,⟨hdl,hln,hn,hg⟩,_,hq⟩:=hq
  obtain⟨x,hv⟩:∃ x,val l=x:=⟨_,rfl⟩
  replace hq:=hq x hv.symm
  have hcan:qC l=canon x:=by rw [zS hdl,hv]
  simp only [magS,← hcan] at hq
  refine jg.le (args':=[natS .u32 l]) (by simp [natS,hln,hg]) (fn_k (fn:=Tryz.f148) (c:=Tryz.f148.body.getD .skip) rfl rfl rfl hfr fun O w0 σ0 h0=> ?_)
  refine zc.run hmix zD [0] 400 (T:=.leaf (.loop (Prod.fst (lps K148 0)) (Prod.snd (lps K148 0)) [(0,.sl l.length 1 (natG .u32 l))] [])) (by kernel_rfl) ?_
  refine zc.loop (ι:={n:Nat // tlen l≤n∧n≤l.length}) (fun x=>S75 l x.1) (fun _=>[]) (fun x=>x.1) ⟨l.length,qj l,Nat.le_refl _⟩ 0 ?_ ?_ (by kernel_rfl)
  ·exact⟨by simp [S75,eqG],by simp,by kernel_rfl,Nat.zero_le _⟩
  ·rintro⟨n,h1,h2⟩
   refine zc.run hmix zD [0] 400 (T:=.side (decide ((0:Int)<n)=true→inR .i64 ((↑n:Int) - (1:Int))) (.side (decide ((0:Int)<n)=true→(0:Int)≤n - (1:Int)∧(↑n:Int) - (1:Int)<n) (.ite (bif decide ((0:Int)<n) then decide ((↑(l.getD (Int.toNat ((↑n:Int) - (1:Int))) 0):Int)=0) else false) (.side (inR .i64 ((↑n:Int) - (1:Int))) (.side ((0:Int)≤n - (1:Int)∧(↑n:Int) - (1:Int)≤n) (.leaf (.back 0 [(0,.sl (Int.toNat ((↑n:Int) - (1:Int)) - 0) 1 (zg (natG .u32 l) 0))] [])))) (.leaf (.ret [.sl n 1 (natG .u32 l)] []))))) (by kernel_rfl) ?_
   simp only [Tree.holds,zd,inR,lo,hi,Bool.cond_eq_ite]
   refine⟨by simp; omega,fun _=>⟨by simp; omega,fun _=>⟨fun h=> ?_,fun h=> ?_⟩⟩⟩
   ·have hp:0<n:=by
     rcases Nat.eq_zero_or_pos n with rfl | hp
     ·simp at h
     ·exact hp
    have e:((n:Int) - 1).toNat=n - 1:=by omega
    have hz:l.getD (n - 1) 0=0:=by
     rw [if_pos (by simpa using hp),e] at h
     simpa only [decide_eq_true_eq,Int.natCast_eq_zero] using h
    refine⟨by omega,fun _=>⟨by omega,fun _=> ?_⟩⟩
    rw [if_pos trivial]
    refine⟨⟨n - 1,?_,by omega⟩,by show n - 1<n; omega,by simp [S75,eqG,zg,e],by simp,by kernel_rfl,Nat.zero_le _⟩
    rcases Nat.lt_or_ge (n - 1) (tlen l) with h3 | h3
    ·have h4:tlen l - 1=n - 1:=by omega
     exact absurd (h4▸hz) (q7 l (by omega))
    ·exact h3
   ·have hn:n=tlen l:=by
     rcases Nat.lt_or_ge (tlen l) n with h3 | h3
     ·exfalso
      have e:((n:Int) - 1).toNat=n - 1:=by omega
      rw [if_pos (by simp; omega),e] at h
      have:=jB l (n - 1) (by omega)
      simp only [decide_eq_false_iff_not,Int.natCast_eq_zero] at h
      exact h this
     ·omega
    subst hn
    refine⟨[],rfl,by simp,by simp,by simp [uX],_,[],qo ?_,.inl (by simp),rfl,hq⟩
    have:=qj l
    simp only [resV,exp2,exp1,exp0,ren0,eqA2,eqA,natS,eqA0,qC,List.length_take,Nat.min_eq_left this,true_and]
    intro j o hj ho
    simp only [natG,List.getD,List.getElem?_take,if_pos hj]
 ·rename_i off n m g
  obtain⟨l,⟨hlm,hm,hn,hg,hdl⟩,_,hq⟩:=hq
  obtain⟨x,hv⟩:∃ x,val ((l.drop off).take n)=x:=⟨_,rfl⟩
  replace hq:=hq x hv.symm
  subst hlm
  simp only [← hv,← Kb hdl] at hq
  refine jg.leH (hc':=[.arr l.length 1 (natG .u32 l)]) (by simp [hg]) rfl (fn_k (fn:=Tryz.f148) (c:=Tryz.f148.body.getD .skip) rfl rfl rfl (by simp [uX]) fun O w0 σ0 h0=> ?_)
  refine zc.run hmix zD [0] 400 (T:=.leaf (.loop (Prod.fst (lps K148 0)) (Prod.snd (lps K148 0)) [(0,.osl 0 1 off n)] [.arr l.length 1 (natG .u32 l)])) (by kernel_rfl) ?_
  have hget:∀ j,j<n→((l.drop off).take n).getD j 0=l.getD (off+j) 0:=by
   intro j hj
   simp [List.getElem?_take,hj,List.getElem?_drop]
  have htl:tlen ((l.drop off).take n)≤n:=by
   have:=qj ((l.drop off).take n)
   simp at this; omega
  refine zc.loop (ι:={k:Nat // tlen ((l.drop off).take n)≤k∧k≤n}) (fun x=>S75o off x.1) (fun _=>[.arr l.length 1 (natG .u32 l)]) (fun x=>x.1) ⟨n,htl,Nat.le_refl _⟩ 0 ?_ ?_ (by kernel_rfl)
  ·exact⟨by simp [S75o],by simp [eqG],by kernel_rfl,Nat.le_refl _⟩
  ·rintro⟨k,h1,h2⟩
   refine zc.run hmix zD [0] 400 (T:=.side (decide ((0:Int)<k)=true→inR .i64 ((↑k:Int) - (1:Int))) (.side (decide ((0:Int)<k)=true→(0:Int)≤k - (1:Int)∧(↑k:Int) - (1:Int)<k) (.ite (bif decide ((0:Int)<k) then decide ((↑(l.getD (off+Int.toNat ((↑k:Int) - (1:Int))) 0):Int)=0) else false) (.side (inR .i64 ((↑k:Int) - (1:Int))) (.side ((0:Int)≤k - (1:Int)∧(↑k:Int) - (1:Int)≤k) (.leaf (.back 0 [(0,.osl 0 1 (off+0) (Int.toNat ((↑k:Int) - (1:Int)) - 0))] [.arr l.length 1 (natG .u32 l)])))) (.leaf (.ret [.osl 0 1 off k] [.arr l.length 1 (natG .u32 l)]))))) (by kernel_rfl) ?_
   simp only [Tree.holds,zd,inR,lo,hi,Bool.cond_eq_ite]
   refine⟨by simp; omega,fun _=>⟨by simp; omega,fun _=>⟨fun h=> ?_,fun h=> ?_⟩⟩⟩
   ·have hp:0<k:=by
     rcases Nat.eq_zero_or_pos k with rfl | hp
     ·simp at h
     ·exact hp
    have e:((k:Int) - 1).toNat=k - 1:=by omega
    have hz:((l.drop off).take n).getD (k - 1) 0=0:=by
     rw [if_pos (by simpa using hp),e] at h
     rw [hget _ (by omega)]
     simpa only [decide_eq_true_eq,Int.natCast_eq_zero] using h
    refine⟨by omega,fun _=>⟨by omega,fun _=> ?_⟩⟩
    rw [if_pos trivial]
    refine⟨⟨k - 1,?_,by omega⟩,by show k - 1<k; omega,by simp [S75o,e],by simp [eqG],by kernel_rfl,Nat.le_refl _⟩
    rcases Nat.lt_or_ge (k - 1) (tlen ((l.drop off).take n)) with h3 | h3
    ·have h4:tlen ((l.drop off).take n) - 1=k - 1:=by omega
     exact absurd (h4▸hz) (q7 _ (by omega))
    ·exact h3
   ·have hn:k=tlen ((l.drop off).take n):=by
     rcases Nat.lt_or_ge (tlen ((l.drop off).take n)) k with h3 | h3
     ·exfalso
      have e:((k:Int) - 1).toNat=k - 1:=by omega
      rw [if_pos (by simp; omega),e] at h
      have:=jB ((l.drop off).take n) (k - 1) (by omega)
      rw [hget _ (by omega)] at this
      simp only [decide_eq_false_iff_not,Int.natCast_eq_zero] at h
      exact h this
     ·omega
    subst hn
    exact⟨[0],rfl,by simp,by simp,by simp [uX],_,[.arr l.length 1 g],qo (by simp [resV,exp2,exp1,exp0,z5,eqA2]),.inl ⟨⟨rfl,rfl,fun j o hj ho=>(hg j o hj ho).symm⟩,trivial⟩,rfl,hq⟩
 ·exact hq.elim
noncomputable def K134:List Go.Sx.Item:=[.code (Tryz.f134.body.getD .skip)]
noncomputable def K152:List Go.Sx.Item:=[.code (Tryz.f152.body.getD .skip)]
def cmp3(x y:Nat):Int:=if x<y then -1 else if y<x then 1 else 0
def y7:Ctr:=ctr2 true (fun x y=>fits x∧fits y) (fun x y r=>r=cmp3 x y) (fun _ _ r=>(.int .i64 r,[]))
def S73(x y k:Nat):KV:=[(0,magS x),(1,magS y),(5,.int .i64 ((k:Int) - 1))]
theorem xX:zf Tryz.prog 134 y7:=by
 refine yZ (fn:=Tryz.f134) (c:=Tryz.f134.body.getD .skip) rfl rfl rfl fun x y hp O w0 Q hq=> ?_
 replace hq:=hq _ rfl
 obtain⟨hx,hy⟩:=hp
 simp only [fits] at hx hy
 refine zc.run hmix zD [0,1,5] 400 (T:=.ite (!decide ((↑(canon x).length:Int)=(↑(canon y).length:Int))) (.side (inR .i64 ((↑(canon x).length:Int) - (↑(canon y).length:Int))) (.leaf (.ret [.int .i64 (max (-1:Int) (min (1:Int) ((↑(canon x).length:Int) - (↑(canon y).length:Int))))] []))) (.side (inR .i64 ((↑(canon x).length:Int) - (1:Int))) (.leaf (.loop (Prod.fst (lps K134 0)) (Prod.snd (lps K134 0)) [(0,.sl (canon x).length 1 (natG .u32 (canon x))),(1,.sl (canon y).length 1 (natG .u32 (canon y))),(5,.int .i64 ((↑(canon x).length:Int) - (1:Int)))] [])))) (by kernel_rfl) ?_
 simp only [Tree.holds,zd,inR,lo,hi,Bool.cond_eq_ite]
 refine⟨fun h=>⟨by omega,fun _=>RetR.scal hq rfl ?_⟩,fun h=>⟨by omega,fun _=> ?_⟩⟩
 ·simp only [resV,cmp3]
  congr 1
  have hne:(canon x).length≠(canon y).length:=by
   simp only [Bool.not_eq_true',decide_eq_false_iff_not] at h
   omega
  rcases Nat.lt_or_gt_of_ne hne with h1 | h1
  ·have:=zY h1
   rw [if_pos this]; omega
  ·have:=zY h1
   rw [if_neg (by omega),if_pos this]; omega
 ·have hlen:(canon x).length=(canon y).length:=by
   simp only [Bool.not_eq_false',decide_eq_true_eq] at h
   omega
  refine zc.loop (ι:={k:Nat // k≤(canon x).length∧∀ j,k≤j→(canon x).getD j 0=(canon y).getD j 0}) (fun k=>S73 x y k.1) (fun _=>[]) (fun k=>k.1) ⟨(canon x).length,Nat.le_refl _,fun j hj=>by simp [hj,hlen▸hj]⟩ 0 ?_ ?_ (by kernel_rfl)
  ·exact⟨by simp [S73,magS,natS,zb],by simp,by kernel_rfl,Nat.zero_le _⟩
  ·rintro⟨k,h1,h2⟩
   refine zc.run hmix zD [0,1,5] 400 (T:=.ite (decide ((0:Int)≤k - (1:Int))) (.side ((0:Int)≤k - (1:Int)∧(↑k:Int) - (1:Int)<(↑(canon x).length:Int)) (.side ((0:Int)≤k - (1:Int)∧(↑k:Int) - (1:Int)<(↑(canon y).length:Int)) (.ite (!decide ((↑(List.getD (canon x) (Int.toNat ((↑k:Int) - (1:Int))) 0):Int)=(↑(List.getD (canon y) (Int.toNat ((↑k:Int) - (1:Int))) 0):Int))) (.side ((0:Int)≤k - (1:Int)∧(↑k:Int) - (1:Int)<(↑(canon x).length:Int)) (.side ((0:Int)≤k - (1:Int)∧(↑k:Int) - (1:Int)<(↑(canon y).length:Int)) (.ite (decide ((↑(List.getD (canon x) (Int.toNat ((↑k:Int) - (1:Int))) 0):Int)<(↑(List.getD (canon y) (Int.toNat ((↑k:Int) - (1:Int))) 0):Int))) (.leaf (.ret [.int .i64 (-1:Int)] [])) (.leaf (.ret [.int .i64 1] []))))) (.side (inR .i64 ((↑k:Int) - (1:Int) - (1:Int))) (.leaf (.back 0 [(0,.sl (canon x).length 1 (natG .u32 (canon x))),(1,.sl (canon y).length 1 (natG .u32 (canon y))),(5,.int .i64 ((↑k:Int) - (1:Int) - (1:Int)))] [])))))) (.leaf (.ret [.int .i64 0] []))) (by kernel_rfl) ?_
   simp only [Tree.holds,zd,inR,lo,hi,Bool.cond_eq_ite]
   have e:((k:Int) - 1).toNat=k - 1:=by omega
   rw [e]
   refine⟨fun hk=> ?_,fun hk=>RetR.scal hq rfl ?_⟩
   ·have hk:0<k:=by simp at hk; omega
    refine⟨by omega,fun _=>⟨by omega,fun _=>⟨fun hne=>⟨by omega,fun _=>⟨by omega,fun _=>⟨fun hlt=>RetR.scal hq rfl ?_,fun hlt=>RetR.scal hq rfl ?_⟩⟩⟩,fun heq=>⟨by omega,fun _=> ?_⟩⟩⟩⟩
    ·have:=uP (zk x) hlen (i:=k - 1) (fun j hj=>h2 j (by omega)) (by simpa using hlt)
     rw [zn,zn] at this
     simp [resV,cmp3,this]
    ·have hgt:(canon y).getD (k - 1) 0<(canon x).getD (k - 1) 0:=by
      simp only [Bool.not_eq_true',decide_eq_false_iff_not] at hne hlt
      omega
     have:=uP (zk y) hlen.symm (i:=k - 1) (fun j hj=>(h2 j (by omega)).symm) hgt
     rw [zn,zn] at this
     simp only [resV,cmp3]
     rw [if_neg (by omega),if_pos this]
    ·rw [if_pos trivial]
     refine⟨⟨k - 1,by omega,fun j hj=> ?_⟩,by show k - 1<k; omega,by simp [S73,magS,natS,zb]; omega,by simp,by kernel_rfl,Nat.zero_le _⟩
     rcases Nat.lt_or_ge j k with hj2 | hj2
     ·have:j=k - 1:=by omega
      subst this
      simp only [Bool.not_eq_false',decide_eq_true_eq] at heq
      omega
     ·exact h2 j hj2
   ·have hk:k=0:=by simp at hk; omega
    subst hk
    have:canon x=canon y:=by
     apply List.ext_getElem hlen
     intro j hj hj'
     have:=h2 j (Nat.zero_le _)
     simpa [hj,hj'] using this
    have:x=y:=by rw [← zn x,this,zn]
    subst this
    simp [resV,cmp3]
noncomputable def G1:Nat→Option Ctr:=fun f=>if f=148 then some (uX) else none
theorem yq:∀ g c,G1 g=some c→zf Tryz.prog g c:=okIf W8 (zx)
def WE:Ctr:=ctr2 true (fun x y=>fits x∧y≤x) (fun x y d=>d=x - y) (fun _ _ d=>(magS d,[]))
def S78(x y:Nat)(o:List Nat)(c i:Nat):KV:=[(0,magS x),(1,magS y),(5,.osl 0 1 0 o.length),(6,.int .u32 (c:Int)),(13,magS x),(14,.int .i64 ((canon x).length:Int)),(15,.int .i64 (i:Int))]
structure I78(x y:Nat) where
 o:List Nat
 c:Nat
 i:Nat
 len:o.length=i
 le:i≤(canon x).length
 dg:dig o
 c1:c≤1
 eq:val ((canon x).take i)+B^i*c=val o+val ((canon y).take i)
theorem Vh{x y:Nat}(h:x≤y):(canon x).length≤(canon y).length:=by
 rcases Nat.lt_or_ge (canon y).length (canon x).length with h1 | h1
 ·have:=zY h1; omega
 ·exact h1
theorem zjm{x y o c i d c':Nat}{l m:List Nat}(h:val (l.take i)+B^i*c=o+val (m.take i))(he:l.getD i 0+B*c'=d+m.getD i 0+c):val (l.take (i+1))+B^(i+1)*c'=o+B^i*d+val (m.take (i+1)):=by
 rw [zw,zw,Nat.pow_succ]
 have:=congrArg (B^i * ·) he
 simp only [Nat.mul_add] at this
 rw [Nat.mul_assoc]
 omega
theorem QY(l:List Nat)(d:Nat):val (l++[d])=val l+B^l.length*d:=by rw [zK]; simp [val]
theorem Qy:zf Tryz.prog 152 WE:=by
 refine yZ (fn:=Tryz.f152) (c:=Tryz.f152.body.getD .skip) rfl rfl rfl fun x y hp O w0 Q hq=> ?_
 replace hq:=hq _ rfl
 obtain⟨hx,hyx⟩:=hp
 simp only [fits] at hx hyx
 have hlen:=Vh hyx
 refine zc.run hmix yq [0,1,5,6,13,14,15] 400 (T:=.side ((0:Int)≤0∧(0:Int)≤(↑(canon x).length:Int)∧inR .i64 (↑(canon x).length:Int)∧Int.toNat (↑(canon x).length:Int)*4≤140737488355328) (.leaf (.loop (Prod.fst (lps K152 0)) (Prod.snd (lps K152 0)) [(0,.sl (canon x).length 1 (natG .u32 (canon x))),(1,.sl (canon y).length 1 (natG .u32 (canon y))),(5,.osl 0 1 0 0),(6,.int .u32 0),(13,.sl (canon x).length 1 (natG .u32 (canon x))),(14,.int .i64 (↑(canon x).length:Int)),(15,.int .i64 0)] [.arr 0 1 (x2 [.int .u32 0])]))) (by kernel_rfl) ?_
 simp only [Tree.holds,zd,inR,lo,hi]
 refine⟨by omega,fun _=> ?_⟩
 refine zc.loop (ι:=I78 x y) (fun s=>S78 x y s.o s.c s.i) (fun s=>[.arr s.o.length 1 (natG .u32 s.o)]) (fun s=>(canon x).length - s.i) ⟨[],0,0,rfl,Nat.zero_le _,by simp [dig],by omega,by simp [val]⟩ 0 ?_ ?_ (by kernel_rfl)
 ·exact⟨by simp [S78,magS,natS,zb],by simp [eqG],by kernel_rfl,Nat.zero_le _⟩
 ·rintro⟨o,c,i,ho,hle,hd,hc,he⟩
  subst ho
  have hB:B=1000000000:=rfl
  refine zc.run hmix yq [0,1,5,6,13,14,15] 400 (T:=.ite (decide ((↑o.length:Int)<(↑(canon x).length:Int))) (.side ((0:Int)≤o.length∧(↑o.length:Int)<(↑(canon x).length:Int)) (.ite (decide ((↑o.length:Int)<(↑(canon y).length:Int))) (.side ((0:Int)≤o.length∧(↑o.length:Int)<(↑(canon y).length:Int)) (.side (inR .u32 ((↑c:Int)+(↑(List.getD (canon y) (Int.toNat (↑o.length:Int)) 0):Int))) (.ite (decide ((↑(List.getD (canon x) (Int.toNat (↑o.length:Int)) 0):Int)<c+(↑(List.getD (canon y) (Int.toNat (↑o.length:Int)) 0):Int))) (.side (inR .u32 ((↑(List.getD (canon x) (Int.toNat (↑o.length:Int)) 0):Int)+(1000000000:Int))) (.side (inR .u32 ((↑(List.getD (canon x) (Int.toNat (↑o.length:Int)) 0):Int)+(1000000000:Int) - ((↑c:Int)+(↑(List.getD (canon y) (Int.toNat (↑o.length:Int)) 0):Int)))) (.side (0=0∧o.length≤o.length∧(o.length+1)*4≤140737488355328) (.side (inR .i64 ((↑o.length:Int)+(1:Int))) (.leaf (.back 0 [(0,.sl (canon x).length 1 (natG .u32 (canon x))),(1,.sl (canon y).length 1 (natG .u32 (canon y))),(5,.osl 0 1 0 (o.length+1)),(6,.int .u32 1),(13,.sl (canon x).length 1 (natG .u32 (canon x))),(14,.int .i64 (↑(canon x).length:Int)),(15,.int .i64 ((↑o.length:Int)+(1:Int)))] [.arr (o.length+1) 1 (appG o.length (natG .u32 o) (zg (zh 1 [.int .u32 ((↑(List.getD (canon x) (Int.toNat (↑o.length:Int)) 0):Int)+(1000000000:Int) - ((↑c:Int)+(↑(List.getD (canon y) (Int.toNat (↑o.length:Int)) 0):Int)))]) 0)),.arr 1 1 (zh 1 [.int .u32 ((↑(List.getD (canon x) (Int.toNat (↑o.length:Int)) 0):Int)+(1000000000:Int) - ((↑c:Int)+(↑(List.getD (canon y) (Int.toNat (↑o.length:Int)) 0):Int)))])])))))) (.side (inR .u32 ((↑(List.getD (canon x) (Int.toNat (↑o.length:Int)) 0):Int) - ((↑c:Int)+(↑(List.getD (canon y) (Int.toNat (↑o.length:Int)) 0):Int)))) (.side (0=0∧o.length≤o.length∧(o.length+1)*4≤140737488355328) (.side (inR .i64 ((↑o.length:Int)+(1:Int))) (.leaf (.back 0 [(0,.sl (canon x).length 1 (natG .u32 (canon x))),(1,.sl (canon y).length 1 (natG .u32 (canon y))),(5,.osl 0 1 0 (o.length+1)),(6,.int .u32 0),(13,.sl (canon x).length 1 (natG .u32 (canon x))),(14,.int .i64 (↑(canon x).length:Int)),(15,.int .i64 ((↑o.length:Int)+(1:Int)))] [.arr (o.length+1) 1 (appG o.length (natG .u32 o) (zg (zh 1 [.int .u32 ((↑(List.getD (canon x) (Int.toNat (↑o.length:Int)) 0):Int) - ((↑c:Int)+(↑(List.getD (canon y) (Int.toNat (↑o.length:Int)) 0):Int)))]) 0)),.arr 1 1 (zh 1 [.int .u32 ((↑(List.getD (canon x) (Int.toNat (↑o.length:Int)) 0):Int) - ((↑c:Int)+(↑(List.getD (canon y) (Int.toNat (↑o.length:Int)) 0):Int)))])])))))))) (.ite (decide ((↑(List.getD (canon x) (Int.toNat (↑o.length:Int)) 0):Int)<c)) (.side (inR .u32 ((↑(List.getD (canon x) (Int.toNat (↑o.length:Int)) 0):Int)+(1000000000:Int))) (.side (inR .u32 ((↑(List.getD (canon x) (Int.toNat (↑o.length:Int)) 0):Int)+(1000000000:Int) - c)) (.side (0=0∧o.length≤o.length∧(o.length+1)*4≤140737488355328) (.side (inR .i64 ((↑o.length:Int)+(1:Int))) (.leaf (.back 0 [(0,.sl (canon x).length 1 (natG .u32 (canon x))),(1,.sl (canon y).length 1 (natG .u32 (canon y))),(5,.osl 0 1 0 (o.length+1)),(6,.int .u32 1),(13,.sl (canon x).length 1 (natG .u32 (canon x))),(14,.int .i64 (↑(canon x).length:Int)),(15,.int .i64 ((↑o.length:Int)+(1:Int)))] [.arr (o.length+1) 1 (appG o.length (natG .u32 o) (zg (zh 1 [.int .u32 ((↑(List.getD (canon x) (Int.toNat (↑o.length:Int)) 0):Int)+(1000000000:Int) - c)]) 0)),.arr 1 1 (zh 1 [.int .u32 ((↑(List.getD (canon x) (Int.toNat (↑o.length:Int)) 0):Int)+(1000000000:Int) - c)])])))))) (.side (inR .u32 ((↑(List.getD (canon x) (Int.toNat (↑o.length:Int)) 0):Int) - c)) (.side (0=0∧o.length≤o.length∧(o.length+1)*4≤140737488355328) (.side (inR .i64 ((↑o.length:Int)+(1:Int))) (.leaf (.back 0 [(0,.sl (canon x).length 1 (natG .u32 (canon x))),(1,.sl (canon y).length 1 (natG .u32 (canon y))),(5,.osl 0 1 0 (o.length+1)),(6,.int .u32 0),(13,.sl (canon x).length 1 (natG .u32 (canon x))),(14,.int .i64 (↑(canon x).length:Int)),(15,.int .i64 ((↑o.length:Int)+(1:Int)))] [.arr (o.length+1) 1 (appG o.length (natG .u32 o) (zg (zh 1 [.int .u32 ((↑(List.getD (canon x) (Int.toNat (↑o.length:Int)) 0):Int) - c)]) 0)),.arr 1 1 (zh 1 [.int .u32 ((↑(List.getD (canon x) (Int.toNat (↑o.length:Int)) 0):Int) - c)])])))))))) (.ex (fun(u:List Nat)=>u.length=o.length∧0+o.length≤o.length∧o.length<4611686018427387904∧eqG o.length 1 (natG .u32 o) (natG .u32 u)∧dig (List.take o.length (List.drop 0 u))) fun n=>.all (fun(x:Nat)=>x=val (List.take o.length (List.drop 0 n))) fun n=>.leaf (.ret [.osl 0 1 0 (canon n).length] [.arr o.length 1 (natG .u32 o)]))) (by kernel_rfl) ?_
  simp only [Tree.holds,zd,inR,lo,hi,Int.toNat_natCast,xB]
  have ha:=zO (zk x) o.length
  have hb:=zO (zk y) o.length
  have hnext:∀ d c':Nat,d<B→c'≤1→o.length<(canon x).length→(canon x).getD o.length 0+B*c'=d+(canon y).getD o.length 0+c →
    ∃ s:I78 x y,s.o=o++[d]∧s.c=c'∧s.i=o.length+1:=fun d c' h1 h2 h3 h4=>
   ⟨⟨o++[d],c',o.length+1,by simp,h3,je.2 ⟨hd,by simp [dig,h1]⟩,h2,by rw [QY]; exact zjm (x:=x) (y:=y) he h4⟩,rfl,rfl,rfl⟩
  refine⟨fun hlt=> ?_,fun hge=> ?_⟩
  ·have hlt:o.length<(canon x).length:=by simp at hlt; omega
   refine⟨by omega,fun _=>⟨fun hb2=>⟨by simp at hb2; omega,fun _=>⟨by omega,fun _=>⟨fun hlt2=> ?_,fun hge2=> ?_⟩⟩⟩,fun hb2=>⟨fun hlt2=> ?_,fun hge2=> ?_⟩⟩⟩
   ·simp only [decide_eq_true_eq] at hlt2
    refine⟨by omega,fun _=>⟨by omega,fun _=>⟨⟨trivial,by omega,by omega⟩,fun _=>⟨by omega,fun _=> ?_⟩⟩⟩⟩
    obtain⟨s,h1,h2,h3⟩:=hnext ((canon x).getD o.length 0+B - (c+(canon y).getD o.length 0)) 1 (by omega) (by omega) hlt (by omega)
    rw [if_pos trivial]
    refine⟨s,by show _ - s.i<_; omega,by simp [S78,h1,h2,h3,magS,natS,zb],by rw [h1]; exact wZ (by omega),by kernel_rfl,Nat.zero_le _⟩
   ·simp only [decide_eq_false_iff_not] at hge2
    refine⟨by omega,fun _=>⟨⟨trivial,by omega,by omega⟩,fun _=>⟨by omega,fun _=> ?_⟩⟩⟩
    obtain⟨s,h1,h2,h3⟩:=hnext ((canon x).getD o.length 0 - (c+(canon y).getD o.length 0)) 0 (by omega) (by omega) hlt (by omega)
    rw [if_pos trivial]
    refine⟨s,by show _ - s.i<_; omega,by simp [S78,h1,h2,h3,magS,natS,zb],by rw [h1]; exact wZ (by omega),by kernel_rfl,Nat.zero_le _⟩
   ·simp only [decide_eq_true_eq,decide_eq_false_iff_not] at hlt2 hb2
    have hb0:(canon y).getD o.length 0=0:=by simp [List.getD,List.getElem?_eq_none (show(canon y).length≤o.length by omega)]
    refine⟨by omega,fun _=>⟨by omega,fun _=>⟨⟨trivial,by omega,by omega⟩,fun _=>⟨by omega,fun _=> ?_⟩⟩⟩⟩
    obtain⟨s,h1,h2,h3⟩:=hnext ((canon x).getD o.length 0+B - c) 1 (by omega) (by omega) hlt (by omega)
    rw [if_pos trivial]
    refine⟨s,by show _ - s.i<_; omega,by simp [S78,h1,h2,h3,magS,natS,zb],by rw [h1]; exact wZ (by omega),by kernel_rfl,Nat.zero_le _⟩
   ·simp only [decide_eq_false_iff_not] at hge2 hb2
    have hb0:(canon y).getD o.length 0=0:=by simp [List.getD,List.getElem?_eq_none (show(canon y).length≤o.length by omega)]
    refine⟨by omega,fun _=>⟨⟨trivial,by omega,by omega⟩,fun _=>⟨by omega,fun _=> ?_⟩⟩⟩
    obtain⟨s,h1,h2,h3⟩:=hnext ((canon x).getD o.length 0 - c) 0 (by omega) (by omega) hlt (by omega)
    rw [if_pos trivial]
    refine⟨s,by show _ - s.i<_; omega,by simp [S78,h1,h2,h3,magS,natS,zb],by rw [h1]; exact wZ (by omega),by kernel_rfl,Nat.zero_le _⟩
  ·have hge:o.length=(canon x).length:=by simp at hge; omega
   have hv:val o=x - y:=by
    have h1:=qn hd
    rw [hge,List.take_length,List.take_of_length_le hlen,zn,zn] at he
    have:c=0:=by
     rcases Nat.lt_or_ge c 1 with h | h
     ·omega
     ·have:c=1:=by omega
      subst this
      rw [hge] at h1
      omega
    subst this
    omega
   refine⟨o,⟨rfl,by omega,by omega,zb _ _ _,by simpa using hd⟩,⟨_,rfl⟩,?_⟩
   intro X hX
   have hX:X=x - y:=by simpa [hv] using hX
   subst hX
   have htr:qC o=canon (x - y):=by rw [zS hd,hv]
   have htl:(canon (x - y)).length=tlen o:=by rw [← htr,qC,List.length_take]; have:=qj o; omega
   rw [htl]
   refine⟨[],rfl,by simp,by simp,fun _=>⟨V2,by simp⟩,magS (x - y),[],qo ?_,.inl (by simp [expH]),rfl,hq⟩
   simp only [resV,exp2,exp1,Kq]
   exact Wc htr
noncomputable def K150:List Go.Sx.Item:=[.code (Tryz.f150.body.getD .skip)]
noncomputable def K151:List Go.Sx.Item:=[.code (Tryz.f151.body.getD .skip)]
theorem YU(m n:Nat):Int.tdiv (m:Int) (n:Int)=((m/n:Nat):Int):=rfl
theorem Uk(m n:Nat):Int.tmod (m:Int) (n:Int)=((m%n:Nat):Int):=rfl
theorem uH(k:IntKind)(n:Nat):eqG n 1 (x2 [.int k 0]) (natG k (List.replicate n 0)):=by
 intro j o hj ho
 have:o=0:=by omega
 subst this
 simp [x2,natG,hj]
theorem Kd{l:List Nat}{k:Nat}(hk:k<l.length):l.drop k=l.getD k 0::l.drop (k+1):=by
 rw [List.drop_eq_getElem_cons hk]
 simp [List.getD,hk]
def zdj:Ctr:=ctrP true (fun p:Nat×Nat=>[magS p.1,.int .u32 (p.2:Int)]) (fun p=>fits p.1∧0<p.2∧p.2<B) (fun p (r:Nat×Nat)=>r=(p.1/p.2,p.1%p.2)) (fun _ r=>(.tup [magS r.1,.int .u32 (r.2:Int)],[]))
def S74(x d:Nat)(o:List Nat)(r k:Nat):KV:=[(0,magS x),(1,.int .u32 (d:Int)),(4,.osl 0 1 0 o.length),(6,.int .u64 (r:Int)),(7,.int .i64 ((k:Int) - 1))]
structure I74(x d:Nat) where
 o:List Nat
 r:Nat
 k:Nat
 len:o.length=(canon x).length
 le:k≤(canon x).length
 rd:r<d
 dg:dig (o.drop k)
 eq:val ((canon x).drop k)=d*val (o.drop k)+r
theorem zdt:zf Tryz.prog 150 zdj:=by
 refine zi (fn:=Tryz.f150) (c:=Tryz.f150.body.getD .skip) rfl rfl rfl fun p hp O w0 Q hq=> ?_
 replace hq:=hq _ rfl
 obtain⟨x,d⟩:=p
 obtain⟨hx,hd0,hdB⟩:=hp
 simp only [fits] at hx hd0 hdB hq
 have hB:B=1000000000:=rfl
 refine zc.run hmix yq [0,1,4,6,7] 400 (T:=.side ((0:Int)≤(↑(canon x).length:Int)∧(↑(canon x).length:Int)≤(↑(canon x).length:Int)∧inR .i64 (↑(canon x).length:Int)∧Int.toNat (↑(canon x).length:Int)*4≤140737488355328) (.side (inR .i64 ((↑(canon x).length:Int) - (1:Int))) (.leaf (.loop (Prod.fst (lps K150 0)) (Prod.snd (lps K150 0)) [(0,.sl (canon x).length 1 (natG .u32 (canon x))),(1,.int .u32 d),(4,.osl 0 1 0 (Int.toNat (↑(canon x).length:Int))),(6,.int .u64 0),(7,.int .i64 ((↑(canon x).length:Int) - (1:Int)))] [.arr (Int.toNat (↑(canon x).length:Int)) 1 (x2 [.int .u32 0])])))) (by kernel_rfl) ?_
 simp only [Tree.holds,zd,inR,lo,hi]
 refine⟨by omega,fun _=>⟨by omega,fun _=> ?_⟩⟩
 refine zc.loop (ι:=I74 x d) (fun s=>S74 x d s.o s.r s.k) (fun s=>[.arr s.o.length 1 (natG .u32 s.o)]) (fun s=>s.k) ⟨List.replicate (canon x).length 0,0,(canon x).length,by simp,Nat.le_refl _,hd0,by simp [dig],by simp [val]⟩ 0 ?_ ?_ (by kernel_rfl)
 ·exact⟨by simp [S74,magS,natS,zb],by simp [uH],by kernel_rfl,Nat.zero_le _⟩
 ·rintro⟨o,r,k,hlen,hle,hr,hdg,he⟩
  refine zc.run hmix yq [0,1,4,6,7] 400 (T:=.ite (decide ((0:Int)≤k - (1:Int))) (.side (inR .u64 ((↑r:Int)*(1000000000:Int))) (.side ((0:Int)≤k - (1:Int)∧(↑k:Int) - (1:Int)<(↑(canon x).length:Int)) (.side (inR .u64 (↑(List.getD (canon x) (Int.toNat ((↑k:Int) - (1:Int))) 0):Int)) (.side (inR .u64 ((↑r:Int)*(1000000000:Int)+(↑(List.getD (canon x) (Int.toNat ((↑k:Int) - (1:Int))) 0):Int))) (.side (inR .u64 (↑d:Int)) (.side ((↑d:Int)≠0∧inR .u64 (Int.tdiv ((↑r:Int)*(1000000000:Int)+(↑(List.getD (canon x) (Int.toNat ((↑k:Int) - (1:Int))) 0):Int)) (↑d:Int))) (.side (inR .u32 (Int.tdiv ((↑r:Int)*(1000000000:Int)+(↑(List.getD (canon x) (Int.toNat ((↑k:Int) - (1:Int))) 0):Int)) (↑d:Int))) (.side (inR .u64 (↑d:Int)) (.side ((↑d:Int)≠0) (.side ((0:Int)≤k - (1:Int)∧(↑k:Int) - (1:Int)<o.length) (.side (inR .i64 ((↑k:Int) - (1:Int) - (1:Int))) (.leaf (.back 0 [(0,.sl (canon x).length 1 (natG .u32 (canon x))),(1,.int .u32 d),(4,.osl 0 1 0 o.length),(6,.int .u64 (Int.tmod ((↑r:Int)*(1000000000:Int)+(↑(List.getD (canon x) (Int.toNat ((↑k:Int) - (1:Int))) 0):Int)) (↑d:Int))),(7,.int .i64 ((↑k:Int) - (1:Int) - (1:Int)))] [.arr o.length 1 (updG (natG .u32 o) (0+Int.toNat ((↑k:Int) - (1:Int))) 0 [.int .u32 (Int.tdiv ((↑r:Int)*(1000000000:Int)+(↑(List.getD (canon x) (Int.toNat ((↑k:Int) - (1:Int))) 0):Int)) (↑d:Int))])]))))))))))))) (.ex (fun(u:List Nat)=>u.length=o.length∧0+o.length≤o.length∧o.length<4611686018427387904∧eqG o.length 1 (natG .u32 o) (natG .u32 u)∧dig (List.take o.length (List.drop 0 u))) fun n=>.all (fun(x:Nat)=>x=val (List.take o.length (List.drop 0 n))) fun n=>.side (inR .u32 (↑r:Int)) (.leaf (.ret [.osl 0 1 0 (canon n).length,.int .u32 r] [.arr o.length 1 (natG .u32 o)])))) (by kernel_rfl) ?_
  have e:((k:Int) - 1).toNat=k - 1:=by omega
  have ha:=zO (zk x) (k - 1)
  have ev:((r:Int)*1000000000+((canon x).getD (k - 1) 0:Nat))=((r*B+(canon x).getD (k - 1) 0:Nat):Int):=by simp
  simp only [Tree.holds,zd,inR,lo,hi,e,ev,YU,Uk,xB]
  generalize hv:r*B+(canon x).getD (k - 1) 0=v
  have hvd:v<d*B:=by
   have:(r+1)*B≤d*B:=Nat.mul_le_mul_right _ hr
   rw [Nat.add_mul] at this
   omega
  have hq1:v/d<B:=Nat.div_lt_of_lt_mul hvd
  have hr1:v%d<d:=Nat.mod_lt _ hd0
  have hdm:=Nat.div_add_mod v d
  generalize v/d=q at hq1 hdm ⊢
  generalize v%d=rr at hr1 hdm ⊢
  have hdB2:d*B<B*B:=Nat.mul_lt_mul_of_pos_right hdB (by decide)
  rw [hB] at hdB2
  refine⟨fun hk=> ?_,fun hk=> ?_⟩
  ·have hk:0<k:=by simp at hk; omega
   refine⟨by omega,fun _=>⟨by omega,fun _=>⟨by omega,fun _=>⟨by omega,fun _=>⟨by omega,fun _=>⟨⟨by omega,by omega,by omega⟩,fun _=>⟨by omega,fun _=>⟨by omega,fun _=>⟨by omega,fun _=>⟨by omega,fun _=>⟨by omega,fun _=> ?_⟩⟩⟩⟩⟩⟩⟩⟩⟩⟩⟩
   rw [if_pos trivial]
   have hkl:k - 1<o.length:=by omega
   have hdr:(o.set (k - 1) (q)).drop (k - 1)=(q)::o.drop k:=by
    rw [Kd (by simpa using hkl)]
    rw [show k - 1+1=k by omega,List.drop_set_of_lt (by omega)]
    simp [hkl]
   refine⟨⟨o.set (k - 1) (q),rr,k - 1,by simpa using hlen,by omega,hr1,by rw [hdr]; exact q9.2 ⟨hq1,hdg⟩,?_⟩,by show k - 1<k; omega,by simp [S74,magS,natS,zb]; omega,?_,by kernel_rfl,Nat.zero_le _⟩
   ·rw [hdr,Kd (by omega),show k - 1+1=k by omega]
    simp only [val,he]
    rw [Nat.mul_add,Nat.mul_add,← Nat.mul_assoc,← Nat.mul_assoc,Nat.mul_comm d B]
    have h5:B*r=r*B:=Nat.mul_comm _ _
    omega
   ·refine⟨⟨by simp,rfl,?_⟩,trivial⟩
    have:=vV (k:=.u32) (l:=o) (v:=((q:Nat):Int)) (i:=k - 1) (by omega) hkl
    simpa using this
  ·have hk:k=0:=by simp at hk; omega
   subst hk
   simp only [List.drop_zero] at he hdg
   rw [zn] at he
   have hqv:val o=x/d:=by
    rw [he,Nat.mul_add_div hd0,Nat.div_eq_of_lt hr,Nat.add_zero]
   have hrv:r=x%d:=by rw [he,Nat.mul_add_mod,Nat.mod_eq_of_lt hr]
   have htr:qC o=canon (x/d):=by rw [zS hdg,hqv]
   refine⟨o,⟨rfl,by omega,by omega,zb _ _ _,by simpa using hdg⟩,⟨_,rfl⟩,?_⟩
   intro X hX
   have hX:X=x/d:=by simpa [hqv] using hX
   subst hX
   have htl:(canon (x/d)).length=tlen o:=by rw [← htr,qC,List.length_take]; have:=qj o; omega
   rw [htl]
   refine⟨by omega,fun _=> ?_⟩
   refine⟨[],rfl,by simp,by simp,fun _=>⟨?_,by simp⟩,_,[],qo ?_,.inl (by simp [expH]),rfl,hq⟩
   ·simp only [resV,new2]
    intro a ha
    rcases List.mem_cons.1 ha with rfl | ha
    ·exact V2
    ·simp only [List.mem_singleton] at ha; subst ha; rfl
   ·simp only [resV,exp2,List.map_cons,List.map_nil,exp1,Kq,eqA2,eqL1]
    exact⟨Wc htr,by simp [eqA,exp0,ren0,hrv],trivial⟩
structure D5 where
 t:Nat
 u:Nat
 v:Nat
 y:Nat
 z:Nat
def zd3:Ctr:=ctrP true (fun p:D5=>[.int .u64 (p.t:Int),.int .u64 (p.u:Int),.int .u64 (p.v:Int),.int .u64 (p.y:Int),.int .u64 (p.z:Int)])
 (fun p=>p.t≤p.y∧p.u<B∧p.v<B∧p.y<B∧p.z<B∧B≤2*p.y) (fun p n=>n=qV p.v p.y p.z 2 ((p.t*B+p.u)/p.y) ((p.t*B+p.u)%p.y)) (fun _ n=>(.int .u64 (n:Int),[]))
def S77(v y z q r:Nat):KV:=[(2,.int .u64 (v:Int)),(3,.int .u64 (y:Int)),(4,.int .u64 (z:Int)),(12,.int .u64 (q:Int)),(13,.int .u64 (r:Int))]
structure I77(v y z R:Nat) where
 q:Nat
 r:Nat
 n:Nat
 rB:r<B
 qB:q≤B+1
 nB:B≤r+n*y
 eq:qV v y z n q r=R
theorem zej:zf Tryz.prog 151 zd3:=by
 refine zi (fn:=Tryz.f151) (c:=Tryz.f151.body.getD .skip) rfl rfl rfl fun p hp O w0 Q hq=> ?_
 replace hq:=hq _ rfl
 obtain⟨t,u,v,y,z⟩:=p
 simp only at hq
 obtain⟨h1,h2,h3,h4,h5,h6⟩:=hp
 simp only at h1 h2 h3 h4 h5 h6
 have hB:B=1000000000:=rfl
 refine zc.run hmix zD [2,3,4,12,13] 400 (T:=.side (inR .u64 ((↑t:Int)*(1000000000:Int))) (.side (inR .u64 ((↑t:Int)*(1000000000:Int)+u)) (.side ((↑y:Int)≠0∧inR .u64 (Int.tdiv ((↑t:Int)*(1000000000:Int)+u) (↑y:Int))) (.side ((↑y:Int)≠0) (.leaf (.loop (Prod.fst (lps K151 0)) (Prod.snd (lps K151 0)) [(2,.int .u64 v),(3,.int .u64 y),(4,.int .u64 z),(12,.int .u64 (Int.tdiv ((↑t:Int)*(1000000000:Int)+u) (↑y:Int))),(13,.int .u64 (Int.tmod ((↑t:Int)*(1000000000:Int)+u) (↑y:Int)))] [])))))) (by kernel_rfl) ?_
 have ev:((t:Int)*1000000000+(u:Int))=((t*B+u:Nat):Int):=by simp
 simp only [Tree.holds,zd,inR,lo,hi,ev,YU,Uk]
 have hy:0<y:=by omega
 have hr:(t*B+u)%y<y:=Nat.mod_lt _ hy
 have hq1:(t*B+u)/y≤B+1:=by
  have h7:t*B≤y*B:=Nat.mul_le_mul_right _ h1
  have:(t*B+u)/y<B+2:=by
   apply Nat.div_lt_of_lt_mul
   rw [Nat.mul_add]
   omega
  omega
 have hst:t*1000000000≤1000000000*1000000000:=Nat.mul_le_mul_right _ (by omega)
 generalize hR:qV v y z 2 ((t*B+u)/y) ((t*B+u)%y)=R at hq
 generalize hqq:(t*B+u)/y=q at hq1 hR ⊢
 generalize hrr:(t*B+u)%y=r at hr hR ⊢
 refine⟨by omega,fun _=>⟨by omega,fun _=>⟨⟨by omega,by omega,by omega⟩,fun _=>⟨by omega,fun _=> ?_⟩⟩⟩⟩
 refine zc.loop (ι:=I77 v y z R) (fun s=>S77 v y z s.q s.r) (fun _=>[]) (fun s=>s.n) ⟨q,r,2,by omega,hq1,by omega,hR⟩ 0 ?_ ?_ (by kernel_rfl)
 ·exact⟨by simp [S77],by simp,by kernel_rfl,Nat.zero_le _⟩
 ·rintro⟨q,r,n,hrB,hqB,hnB,hR⟩
  refine zc.run hmix zD [2,3,4,12,13] 400 (T:=.side (decide ((1000000000:Int)≤q)=false→inR .u64 ((↑q:Int)*z)) (.side (decide ((1000000000:Int)≤q)=false→inR .u64 ((↑r:Int)*(1000000000:Int))) (.side (decide ((1000000000:Int)≤q)=false→inR .u64 ((↑r:Int)*(1000000000:Int)+v)) (.ite (bif decide ((1000000000:Int)≤q) then true else decide ((↑r:Int)*(1000000000:Int)+v<(↑q:Int)*z)) (.side (inR .u64 ((↑q:Int) - (1:Int))) (.side (inR .u64 ((↑r:Int)+y)) (.ite (decide ((1000000000:Int)≤r+(↑y:Int))) (.leaf (.ret [.int .u64 ((↑q:Int) - (1:Int))] [])) (.leaf (.back 0 [(2,.int .u64 v),(3,.int .u64 y),(4,.int .u64 z),(12,.int .u64 ((↑q:Int) - (1:Int))),(13,.int .u64 ((↑r:Int)+y))] []))))) (.leaf (.ret [.int .u64 q] [])))))) (by kernel_rfl) ?_
  simp only [Tree.holds,zd,inR,lo,hi,Bool.cond_eq_ite]
  have hqz:q*z≤1000000001*1000000000:=Nat.mul_le_mul (by omega) (by omega)
  have eqz:((q:Int)*(z:Int))=((q*z:Nat):Int):=by simp
  rw [eqz]
  have hrb:r*B=1000000000*r:=Nat.mul_comm _ _
  generalize hp:q*z=p at hqz ⊢
  refine⟨fun _=>by omega,fun _=>⟨fun _=>by omega,fun _=>⟨fun _=>by omega,fun _=>⟨fun hc=> ?_,fun hc=> ?_⟩⟩⟩⟩
  ·have hcond:B≤q∨r*B+v<q*z:=by
    rw [hp]
    split at hc
    ·rename_i h; simp only [decide_eq_true_eq] at h; left; omega
    ·simp only [decide_eq_true_eq] at hc; right; omega
   have hq0:0<q:=by
    rcases Nat.eq_zero_or_pos q with rfl | h
    ·simp at hcond
    ·exact h
   cases n with
   | zero=>omega
   | succ n=>
    simp only [qV,if_pos hcond] at hR
    refine⟨by omega,fun _=>⟨by omega,fun _=>⟨fun hb=> ?_,fun hb=> ?_⟩⟩⟩
    ·rw [if_pos (by simp at hb; omega)] at hR
     refine RetR.scal hq rfl ?_
     simp only [resV]; congr 1; omega
    ·rw [if_neg (by simp at hb; omega)] at hR
     rw [if_pos trivial]
     refine⟨⟨q - 1,r+y,n,by simp at hb; omega,by omega,by rw [Nat.add_mul] at hnB; omega,hR⟩,by show n<n+1; omega,by simp [S77]; omega,by simp,by kernel_rfl,Nat.zero_le _⟩
  ·have hcond:¬ (B≤q∨r*B+v<q*z):=by
    rw [hp]
    split at hc
    ·cases hc
    ·rename_i h; simp only [decide_eq_true_eq,decide_eq_false_iff_not] at h hc; omega
   refine RetR.scal hq rfl ?_
   have:qV v y z n q r=q:=by
    cases n with
    | zero=>rfl
    | succ n=>simp only [qV,if_neg hcond]
   simp only [resV]; congr 1; omega
noncomputable def K133:List Go.Sx.Item:=[.code (Tryz.f133.body.getD .skip)]
theorem heap_set{k:IntKind}{o:List Nat}{v:Int}{i d i':Nat}(hv:v=d)(hi:i<o.length)(hi':i'=i):eqH [.arr o.length 1 (updG (natG k o) i' 0 [.int k v])] [.arr (o.set i d).length 1 (natG k (o.set i d))]:=by
 subst hv
 subst hi'
 refine⟨⟨by simp,rfl,?_⟩,by simp [eqH]⟩
 have:=vV (k:=k) (l:=o) (v:=(d:Int)) (by omega) hi
 simpa using this
def XE:Ctr:=ctr2 true (fun x y=>fits x∧fits y)
 (fun x y p=>p=x*y) (fun x y p=>(.osl 0 1 0 (canon p).length,[.arr ((canon x).length+(canon y).length) 1 (natG .u32 (padN ((canon x).length+(canon y).length) p))]))
def S76(x y i:Nat)(o:List Nat):KV:=[(0,magS x),(1,magS y),(5,.osl 0 1 0 o.length),(6,.undef),(7,.undef),(8,.undef),(18,magS x),(19,.int .i64 ((canon x).length:Nat)),(20,.int .i64 (i:Int)),(25,.undef),(26,.undef),(27,.undef)]
def S76b(x y i j c:Nat)(o:List Nat):KV:=[(0,magS x),(1,magS y),(5,.osl 0 1 0 o.length),(6,.int .i64 (i:Int)),(7,.int .u32 ((canon x).getD i 0:Nat)),(8,.int .u64 (c:Int)),(18,magS x),(19,.int .i64 ((canon x).length:Nat)),(20,.int .i64 (i:Int)),(25,magS y),(26,.int .i64 ((canon y).length:Nat)),(27,.int .i64 (j:Int))]
structure I76(x y:Nat) where
 o:List Nat
 i:Nat
 len:o.length=(canon x).length+(canon y).length
 le:i≤(canon x).length
 dg:dig o
 eq:val o=val ((canon x).take i)*y
structure I76b(x y i V:Nat) where
 o:List Nat
 c:Nat
 j:Nat
 len:o.length=(canon x).length+(canon y).length
 le:j≤(canon y).length
 dg:dig o
 cB:c<B
 z:∀ p,i+(canon y).length≤p→o.getD p 0=0
 eq:val o+B^i*B^j*c=V+B^i*(canon x).getD i 0*val ((canon y).take j)
theorem XM{o' Pi Pj op d v a b' c c' V vt vo:Nat}(h1:o'+Pi*Pj*op=vo+Pi*Pj*d)(h2:vo+Pi*Pj*c=V+Pi*a*vt)(h3:B*c'+d=v)(h4:v=a*b'+op+c):o'+Pi*(Pj*B)*c'=V+Pi*a*(vt+Pj*b'):=by grind
theorem VM:zf Tryz.prog 133 XE:=by
 refine yZ (fn:=Tryz.f133) (c:=Tryz.f133.body.getD .skip) rfl rfl rfl fun x y hp O w0 Q hq=> ?_
 replace hq:=hq _ rfl
 obtain⟨hx,hy⟩:=hp
 simp only [fits] at hx hy hq
 have hB:B=1000000000:=rfl
 refine zc.run hmix yq [0,1,5,6,7,8,18,19,20,25,26,27] 400 (T:=.side (inR .i64 ((↑(canon x).length:Int)+(↑(canon y).length:Int))) (.side ((0:Int)≤(↑(canon x).length:Int)+(↑(canon y).length:Int)∧(↑(canon x).length:Int)+(↑(canon y).length:Int)≤(↑(canon x).length:Int)+(↑(canon y).length:Int)∧inR .i64 ((↑(canon x).length:Int)+(↑(canon y).length:Int))∧Int.toNat ((↑(canon x).length:Int)+(↑(canon y).length:Int))*4≤140737488355328) (.leaf (.loop (Prod.fst (lps K133 0)) (Prod.snd (lps K133 0)) [(0,.sl (canon x).length 1 (natG .u32 (canon x))),(1,.sl (canon y).length 1 (natG .u32 (canon y))),(5,.osl 0 1 0 (Int.toNat ((↑(canon x).length:Int)+(↑(canon y).length:Int)))),(6,.undef),(7,.undef),(8,.undef),(18,.sl (canon x).length 1 (natG .u32 (canon x))),(19,.int .i64 (↑(canon x).length:Int)),(20,.int .i64 0),(25,.undef),(26,.undef),(27,.undef)] [.arr (Int.toNat ((↑(canon x).length:Int)+(↑(canon y).length:Int))) 1 (x2 [.int .u32 0])])))) (by kernel_rfl) ?_
 simp only [Tree.holds,zd,inR,lo,hi]
 have esum:((canon x).length:Int)+((canon y).length:Int)=(((canon x).length+(canon y).length:Nat):Int):=by omega
 simp only [esum,Int.toNat_natCast]
 refine⟨by omega,fun _=>⟨by omega,fun _=> ?_⟩⟩
 refine zc.loop (ι:=I76 x y) (fun s=>S76 x y s.i s.o) (fun s=>[.arr s.o.length 1 (natG .u32 s.o)]) (fun s=>(canon x).length - s.i) ⟨List.replicate ((canon x).length+(canon y).length) 0,0,by simp,Nat.zero_le _,qU _,by simp [jv,val]⟩ 0 ?_ ?_ (by kernel_rfl)
 ·exact⟨by simp [S76,magS,natS,zb],by simp [uH],by kernel_rfl,Nat.zero_le _⟩
 ·rintro⟨o,i,hlen,hle,hd,he⟩
  refine zc.run hmix yq [0,1,5,6,7,8,18,19,20,25,26,27] 400 (T:=.ite (decide ((↑i:Int)<(↑(canon x).length:Int))) (.side ((0:Int)≤i∧(↑i:Int)<(↑(canon x).length:Int)) (.leaf (.loop (Prod.fst (lps (inside K133 0) 0)) (Prod.snd (lps (inside K133 0) 0)) [(0,.sl (canon x).length 1 (natG .u32 (canon x))),(1,.sl (canon y).length 1 (natG .u32 (canon y))),(5,.osl 0 1 0 o.length),(6,.int .i64 i),(7,.int .u32 (↑(List.getD (canon x) (↑i:Int).toNat 0):Int)),(8,.int .u64 0),(18,.sl (canon x).length 1 (natG .u32 (canon x))),(19,.int .i64 (↑(canon x).length:Int)),(20,.int .i64 i),(25,.sl (canon y).length 1 (natG .u32 (canon y))),(26,.int .i64 (↑(canon y).length:Int)),(27,.int .i64 0)] [.arr o.length 1 (natG .u32 o)]))) (.ex (fun(u:List Nat)=>u.length=o.length∧0+o.length≤o.length∧o.length<4611686018427387904∧eqG o.length 1 (natG .u32 o) (natG .u32 u)∧dig (List.take o.length (List.drop 0 u))) fun n=>.all (fun(x:Nat)=>x=val (List.take o.length (List.drop 0 n))) fun n=>.leaf (.ret [.osl 0 1 0 (canon n).length] [.arr o.length 1 (natG .u32 o)]))) (by kernel_rfl) ?_
  simp only [Tree.holds,zd,inR,lo,hi,Int.toNat_natCast,xB]
  have hz:∀ p,i+(canon y).length≤p→o.getD p 0=0:=by
   intro p hp
   refine Qk (n:=i+(canon y).length) ?_ hp
   rw [he,Nat.pow_add]
   have h1:=qn (ju (zk x) i)
   have h2:=qn (zk y)
   rw [zn] at h2
   have h3:B^((canon x).take i).length=B^i:=by rw [List.length_take,Nat.min_eq_left hle]
   rw [h3] at h1
   exact Nat.mul_lt_mul_of_lt_of_le h1 (Nat.le_of_lt h2) (Nat.pow_pos (by decide))
  refine⟨fun hlt=>⟨by simp at hlt; omega,fun _=> ?_⟩,fun hge=> ?_⟩
  ·have hlt:i<(canon x).length:=by simp at hlt; omega
   refine zc.loop (ι:=I76b x y i (val o)) (fun s=>S76b x y i s.j s.c s.o) (fun s=>[.arr s.o.length 1 (natG .u32 s.o)]) (fun s=>(canon y).length - s.j) ⟨o,0,0,hlen,Nat.zero_le _,hd,by decide,hz,by simp [val]⟩ 1 ?_ ?_ (by kernel_rfl)
   ·exact⟨by simp [S76b,magS,natS,zb],by simp [zb],by kernel_rfl,Nat.zero_le _⟩
   ·rintro⟨o2,c,j,hlen2,hle2,hd2,hcB,hz2,he2⟩
    refine zc.run hmix yq [0,1,5,6,7,8,18,19,20,25,26,27] 400 (T:=.ite (decide ((↑j:Int)<(↑(canon y).length:Int))) (.side ((0:Int)≤j∧(↑j:Int)<(↑(canon y).length:Int)) (.side (inR .u64 (↑(List.getD (canon x) i 0):Int)) (.side (inR .u64 (↑(List.getD (canon y) (↑j:Int).toNat 0):Int)) (.side (inR .u64 ((↑(List.getD (canon x) i 0):Int)*(↑(List.getD (canon y) (↑j:Int).toNat 0):Int))) (.side (inR .i64 ((↑i:Int)+j)) (.side ((0:Int)≤i+(↑j:Int)∧(↑i:Int)+j<(↑o2.length:Int)) (.side (inR .u64 (↑(o2.getD (0+Int.toNat ((↑i:Int)+j)) 0):Int)) (.side (inR .u64 ((↑(List.getD (canon x) i 0):Int)*(↑(List.getD (canon y) (↑j:Int).toNat 0):Int)+(↑(o2.getD (0+Int.toNat ((↑i:Int)+j)) 0):Int))) (.side (inR .u64 ((↑(List.getD (canon x) i 0):Int)*(↑(List.getD (canon y) (↑j:Int).toNat 0):Int)+(↑(o2.getD (0+Int.toNat ((↑i:Int)+j)) 0):Int)+c)) (.side (inR .i64 ((↑i:Int)+j)) (.side ((1000000000:Int)≠0) (.side (inR .u32 (Int.tmod ((↑(List.getD (canon x) i 0):Int)*(↑(List.getD (canon y) (↑j:Int).toNat 0):Int)+(↑(o2.getD (0+Int.toNat ((↑i:Int)+j)) 0):Int)+c) (1000000000:Int))) (.side ((1000000000:Int)≠0∧inR .u64 (Int.tdiv ((↑(List.getD (canon x) i 0):Int)*(↑(List.getD (canon y) (↑j:Int).toNat 0):Int)+(↑(o2.getD (0+Int.toNat ((↑i:Int)+j)) 0):Int)+c) (1000000000:Int))) (.side ((0:Int)≤i+(↑j:Int)∧(↑i:Int)+j<(↑o2.length:Int)) (.side (inR .i64 ((↑j:Int)+(1:Int))) (.leaf (.back 1 [(0,.sl (canon x).length 1 (natG .u32 (canon x))),(1,.sl (canon y).length 1 (natG .u32 (canon y))),(5,.osl 0 1 0 o2.length),(6,.int .i64 i),(7,.int .u32 (↑(List.getD (canon x) i 0):Int)),(8,.int .u64 (Int.tdiv ((↑(List.getD (canon x) i 0):Int)*(↑(List.getD (canon y) (↑j:Int).toNat 0):Int)+(↑(o2.getD (0+Int.toNat ((↑i:Int)+j)) 0):Int)+c) (1000000000:Int))),(18,.sl (canon x).length 1 (natG .u32 (canon x))),(19,.int .i64 (↑(canon x).length:Int)),(20,.int .i64 i),(25,.sl (canon y).length 1 (natG .u32 (canon y))),(26,.int .i64 (↑(canon y).length:Int)),(27,.int .i64 ((↑j:Int)+(1:Int)))] [.arr o2.length 1 (updG (natG .u32 o2) (0+Int.toNat ((↑i:Int)+j)) 0 [.int .u32 (Int.tmod ((↑(List.getD (canon x) i 0):Int)*(↑(List.getD (canon y) (↑j:Int).toNat 0):Int)+(↑(o2.getD (0+Int.toNat ((↑i:Int)+j)) 0):Int)+c) (1000000000:Int))])]))))))))))))))))) (.side (inR .i64 ((↑i:Int)+(↑(canon y).length:Int))) (.side ((0:Int)≤i+(↑(canon y).length:Int)∧(↑i:Int)+(↑(canon y).length:Int)<o2.length) (.side (inR .u32 (↑c:Int)) (.side (inR .u32 ((↑(o2.getD (0+Int.toNat ((↑i:Int)+(↑(canon y).length:Int))) 0):Int)+c)) (.side ((0:Int)≤i+(↑(canon y).length:Int)∧(↑i:Int)+(↑(canon y).length:Int)<o2.length) (.side (inR .i64 ((↑i:Int)+(1:Int))) (.leaf (.back 0 [(0,.sl (canon x).length 1 (natG .u32 (canon x))),(1,.sl (canon y).length 1 (natG .u32 (canon y))),(5,.osl 0 1 0 o2.length),(6,.int .i64 i),(7,.int .u32 (↑(List.getD (canon x) i 0):Int)),(8,.int .u64 c),(18,.sl (canon x).length 1 (natG .u32 (canon x))),(19,.int .i64 (↑(canon x).length:Int)),(20,.int .i64 ((↑i:Int)+(1:Int))),(25,.sl (canon y).length 1 (natG .u32 (canon y))),(26,.int .i64 (↑(canon y).length:Int)),(27,.int .i64 j)] [.arr o2.length 1 (updG (natG .u32 o2) (0+Int.toNat ((↑i:Int)+(↑(canon y).length:Int))) 0 [.int .u32 ((↑(o2.getD (0+Int.toNat ((↑i:Int)+(↑(canon y).length:Int))) 0):Int)+c)])]))))))))) (by kernel_rfl) ?_
    have ha:=zO (zk x) i
    have hb:=zO (zk y) j
    have ho:=zO hd2 (i+j)
    have e1:((i:Int)+(j:Int))=((i+j:Nat):Int):=by omega
    have e2:((i:Int)+((canon y).length:Int))=((i+(canon y).length:Nat):Int):=by omega
    simp only [Tree.holds,zd,inR,lo,hi,e1,e2,Int.toNat_natCast,Nat.zero_add]
    have e3:(((canon x).getD i 0:Nat):Int)*(((canon y).getD j 0:Nat):Int)=(((canon x).getD i 0*(canon y).getD j 0:Nat):Int):=by simp
    have hab:(canon x).getD i 0*(canon y).getD j 0≤999999999*999999999:=Nat.mul_le_mul (by omega) (by omega)
    generalize hv:(canon x).getD i 0*(canon y).getD j 0+o2.getD (i+j) 0+c=v
    have e4:(((canon x).getD i 0:Nat):Int)*(((canon y).getD j 0:Nat):Int)+((o2.getD (i+j) 0:Nat):Int)+(c:Int)=(v:Int):=by rw [e3,← hv]; omega
    have e5:(1000000000:Int)=((B:Nat):Int):=rfl
    have hvB:v<1000000000*1000000000:=by omega
    have hdm:=Nat.div_add_mod v B
    have hmod:v%B<B:=Nat.mod_lt _ (by decide)
    have hdiv:v/B<B:=Nat.div_lt_of_lt_mul hvB
    rw [e4,e5,YU,Uk]
    generalize v/B=c' at hdm hdiv ⊢
    generalize v%B=d at hdm hmod ⊢
    rw [e3]
    generalize hab2:(canon x).getD i 0*(canon y).getD j 0=ab at hab hv ⊢
    refine⟨fun hj=> ?_,fun hj=> ?_⟩
    ·have hj:j<(canon y).length:=by simp at hj; omega
     have hp:i+j<o2.length:=by omega
     refine⟨by omega,fun _=>⟨by omega,fun _=>⟨by omega,fun _=>⟨by omega,fun _=>⟨by omega,fun _=>⟨by omega,fun _=>⟨by omega,fun _=>⟨by omega,fun _=>⟨by omega,fun _=>⟨by omega,fun _=>⟨by omega,fun _=>⟨by omega,fun _=>⟨by omega,fun _=>⟨by omega,fun _=>⟨by omega,fun _=> ?_⟩⟩⟩⟩⟩⟩⟩⟩⟩⟩⟩⟩⟩⟩⟩
     rw [if_pos trivial]
     have hs:=uf o2 (i+j) d hp
     refine⟨⟨o2.set (i+j) d,c',j+1,by simpa using hlen2,by omega,Zx hd2 _ hmod,hdiv,fun p hp2=> ?_,?_⟩,by show _ - (j+1)<_ - j; omega,by simp [S76b,magS,natS,zb],heap_set rfl hp rfl,by kernel_rfl,Nat.zero_le _⟩
     ·have:=hz2 p hp2
      simp only [List.getD] at this ⊢
      rw [List.getElem?_set_ne (by omega)]; exact this
     ·rw [Nat.pow_add] at hs
      rw [Nat.pow_succ,zw]
      exact XM hs he2 hdm (by rw [hab2]; omega)
    ·have hj:j=(canon y).length:=by simp at hj; omega
     subst hj
     have h0:=hz2 (i+(canon y).length) (Nat.le_refl _)
     have hp:i+(canon y).length<o2.length:=by omega
     have hs:=uf o2 (i+(canon y).length) c hp
     refine⟨by omega,fun _=>⟨by omega,fun _=>⟨by omega,fun _=>⟨by omega,fun _=>⟨by omega,fun _=>⟨by omega,fun _=> ?_⟩⟩⟩⟩⟩⟩
     rw [if_neg (by decide),if_pos trivial]
     refine⟨⟨o2.set (i+(canon y).length) c,i+1,by simpa using hlen2,by omega,Zx hd2 _ hcB,?_⟩,by show _ - (i+1)<_ - i; omega,by simp [S76,magS,natS,zb],heap_set (by omega) hp rfl,by kernel_rfl,Nat.zero_le _⟩
     rw [h0,Nat.pow_add] at hs
     rw [List.take_length,zn] at he2
     rw [zw,Nat.add_mul,← he]
     simp only [Nat.mul_zero,Nat.add_zero] at hs
     rw [hs,he2]
  ·have hge:i=(canon x).length:=by simp at hge; omega
   subst hge
   rw [List.take_length,zn] at he
   refine⟨o,⟨rfl,by omega,by omega,zb _ _ _,by simpa using hd⟩,⟨_,rfl⟩,?_⟩
   intro X hX
   have hX:X=x*y:=by simpa [he] using hX
   subst hX
   refine⟨[0],rfl,by simp,by simp,fun _=>⟨?_,?_⟩,_,_,qo ?_,.inl ?_,rfl,hq⟩
   ·simp [resV,new2,new1,new0,z5]
   ·intro k hk
    simp only [List.mem_singleton] at hk
    subst hk
    intro j o' _ _
    rfl
   ·simp [resV,exp2,exp1,exp0,z5,eqA2,eqA]
   ·have hpad:=XS hd
    rw [he,hlen] at hpad
    rw [← hpad]
    simp [expH,expB,hlen,zb]
noncomputable def K137:List Go.Sx.Item:=[.code (Tryz.f137.body.getD .skip)]
noncomputable def G2:Nat→Option Ctr:=fun f=>if f=134 then some (y7) else if f=150 then some (zdj) else if f=148 then some (uX) else if f=133 then some (XE) else if f=151 then some (zd3) else if f=152 then some (WE) else none
theorem Kk:∀ g c,G2 g=some c→zf Tryz.prog g c:=okIf xX (okIf zdt (okIf W8 (okIf VM (okIf zej (okIf Qy (zx))))))
theorem j9{k:IntKind}{u:List Nat}{off n X:Nat}(hd:dig ((u.drop off).take n))(hX:val ((u.drop off).take n)=X):eqG (canon X).length 1 (zg (natG k u) off) (natG k (canon X)):=by
 have h:=zS hd
 rw [hX] at h
 have hl:=qj ((u.drop off).take n)
 intro j o hj ho
 simp only [zg,natG,AV.int.injEq,true_and]
 rw [← h] at hj ⊢
 simp only [qC,List.length_take] at hj ⊢
 have hjn:j<n:=by simp at hj hl; omega
 have e:(List.take (tlen ((u.drop off).take n)) ((u.drop off).take n)).getD j 0=((u.drop off).take n).getD j 0:=by
  simp only [List.getD,List.getElem?_take]
  rw [if_pos (by omega)]
 rw [e,xF _ _ _ _ hjn]
theorem xA(k:IntKind)(n:Nat):eqG 1 1 (zh 1 [.int k (n:Int)]) (natG k [n]):=by
 intro j o hj ho
 have:j=0:=by omega
 have:o=0:=by omega
 subst_vars; rfl
theorem zbi{k:IntKind}{n:Nat}{g:Nat→Nat→AV}{u:List Nat}{off m:Nat}(h:eqG m 1 g (natG k u))(hm:off+n≤m):eqG n 1 (zg g off) (zg (natG k u) off):=by
 intro j o hj ho
 exact h (off+j) o (by omega) ho
theorem xC{n sz:Nat}{f g h:Nat→Nat→AV}(h1:eqG n sz f g)(h2:eqG n sz g h):eqG n sz f h:=fun j o hj ho=>(h1 j o hj ho).trans (h2 j o hj ho)
theorem wH{d:Nat}(hd:d<B):eqG (canon d).length 1 (zg (zh 1 [.int .u32 (d:Int)]) 0) (natG .u32 (canon d)):=by
 have h1:dig (([d].drop 0).take 1):=by simpa [dig] using hd
 have h2:val (([d].drop 0).take 1)=d:=by simp [val]
 have h3:=j9 (k:=.u32) h1 h2
 refine xC (zbi (xA .u32 d) ?_) h3
 have:=z6 (x:=d) (n:=1) (by simpa using hd)
 omega
theorem yK{N p:Nat}(hN:(canon p).length≤N):eqG (canon p).length 1 (zg (natG .u32 (padN N p)) 0) (natG .u32 (canon p)):=by
 intro j o hj ho
 simp only [zg,natG,Nat.zero_add,padN,AV.int.injEq,true_and]
 congr 1
 simp only [List.getD]
 rw [List.getElem?_append_left hj]
theorem zdz(N p i:Nat):(padN N p).getD i 0=(canon p).getD i 0:=by
 simp only [padN,List.getD]
 by_cases h:i<(canon p).length
 ·rw [List.getElem?_append_left h]
 ·rw [List.getElem?_append_right (by omega),List.getElem?_eq_none (show(canon p).length≤i by omega)]
  cases hh:(List.replicate (N - (canon p).length) 0)[i - (canon p).length]? with
  | none=>rfl
  | some z=>have:=List.mem_of_getElem? hh; simp at this; simp [this.2]
theorem W6{N p:Nat}(h:(canon p).length≤N):(padN N p).length=N:=by simp [padN]; omega
theorem zfv(N p:Nat):dig (padN N p):=je.2 ⟨zk _,qU _⟩
theorem xM(x y:Nat):(canon (x*y)).length≤(canon x).length+(canon y).length:=by
 have h1:=qn (zk x)
 have h2:=qn (zk y)
 rw [zn] at h1 h2
 exact z6 (by rw [Nat.pow_add]; exact Nat.mul_lt_mul'' h1 h2)
theorem Jf{d:Nat}(h0:0<d)(hB:d<B):(canon d).length=1:=by
 have h1:=z6 (x:=d) (n:=1) (by simpa using hB)
 have h2:=j2 (x:=d) (n:=0) (by simp; omega)
 omega
def yE:Ctr:=ctr2 false (fun x y=>(canon x).length<100000∧(canon y).length<100000∧0<y) (fun x y (r:Nat×Nat)=>r=(x/y,x%y)) (fun _ _ r=>(.tup [magS r.1,magS r.2],[]))
def SG(x y s k:Nat):KV:=[(0,magS x),(1,magS y),(4,.nils),(8,.int .u32 (s:Int)),(9,.int .i64 (((canon y).length:Nat):Int)),(10,.osl 1 1 0 k),(11,.undef),(12,.undef),(13,.undef),(15,.undef),(151,.undef),(152,.undef)]
structure IG(x U:Nat) where
 k:Nat
 o:List Nat
 ko:k≤o.length
 le:o.length≤(canon x).length+1
 dg:dig (o.take k)
 eq:val (o.take k)=U
def SD(y s V ul ql j:Nat):KV:=[(0,.undef),(1,.undef),(4,.osl 4 1 0 ql),(8,.int .u32 (s:Int)),(9,.int .i64 (((canon y).length:Nat):Int)),(10,.osl 1 1 0 ul),(11,.osl 3 1 0 (canon V).length),(12,.int .i64 ((j:Int) - 1)),(13,.undef),(15,.undef),(151,.undef),(152,.undef)]
def HD(y V:Nat)(u q:List Nat):Heap:=[.dead,.arr u.length 1 (natG .u32 u),.dead,.arr ((canon y).length+1) 1 (natG .u32 (padN ((canon y).length+1) V)),.arr q.length 1 (natG .u32 q)]
structure ID(x y V U:Nat) where
 u:List Nat
 q:List Nat
 j:Nat
 ul:u.length=(canon x).length+1
 ql:q.length+(canon y).length=(canon x).length+1
 jq:j≤q.length
 du:dig u
 dq:dig q
 eq:U=V*B^j*val (q.drop j)+val u
 lt:val u<V*B^j
def SC(y s V ul ql j d L i:Nat):KV:=[(0,.undef),(1,.undef),(4,.osl 4 1 0 ql),(8,.int .u32 (s:Int)),(9,.int .i64 (((canon y).length:Nat):Int)),(10,.osl 1 1 0 ul),(11,.osl 3 1 0 (canon V).length),(12,.int .i64 (j:Int)),(13,.int .u64 (d:Int)),(15,magS L),(151,.int .i64 (((canon y).length+1:Nat):Int)),(152,.int .i64 (i:Int))]
theorem VI{x y s V U m i:Nat}{u q:List Nat}{O:Nat→Prop}{w0:World}{Q:AV×Heap→Prop}{Hs0:Nat→KV→Heap→Prop}(hm:(canon y).length=m+2)(hx:(canon x).length<100000)(hs0:0<s)(hsB:s<B)(hV1:V<B^(m+2))(hV2:B^(m+2)≤2*V)(hVl:(canon V).length=m+2)(hV0:0<V)
  (hul:u.length=(canon x).length+1) (hql:q.length+(canon y).length=(canon x).length+1) (hjq:i+1≤q.length) (hdu:dig u) (hdq:dig q) (heq:U=V*B^(i+1)*val (q.drop (i+1))+val u) (hlt:val u<V*B^(i+1)) {W:Nat} (hW:val ((u.drop i).take (m+2+1))=W) (hWB:W/V<B) (kv:KV) (h:Heap) (hle:LeK 0 Tryz.f137.ntmps kv h (SC y s V u.length q.length i (W/V) (W%V) 0) (HD y V u q)) :
  zc Tryz.prog Tryz.f137 O 0 w0 [] (fun d kv h=>if d=0 then ∃ x':ID x y V U,x'.j<i+1∧LeK 0 Tryz.f137.ntmps kv h (SD y s V x'.u.length x'.q.length x'.j) (HD y V x'.u x'.q) else Hs0 d kv h) (RetR yE 0 Q)
   (.code (.loop (lps (inside (inside K137 0) 0) 0).1)::(lps (inside (inside K137 0) 0) 0).2) (mk Tryz.f137.ntmps kv h):=by
 have hB:B=1000000000:=rfl
 have c2:0+(i:Int).toNat=i:=by omega
 have hLV:=Nat.mod_lt W hV0
 have hLl:(canon (W%V)).length≤m+2:=z6 (by omega)
 refine zc.loop (ι:={k:Nat // k≤m+2+1}) (fun k=>SC y s V u.length q.length i (W/V) (W%V) k.1) (fun k=>HD y V (mixL u (canon (W%V)) i k.1) q) (fun k=>m+2+1 - k.1) ⟨0,Nat.zero_le _⟩ 1 ?_ ?_ (by kernel_rfl)
 ·simpa only [zak] using hle
 ·rintro⟨k,hk⟩
  obtain⟨L,hL⟩:∃ L,W%V=L:=⟨_,rfl⟩
  obtain⟨d,hd⟩:∃ d,W/V=d:=⟨_,rfl⟩
  simp only [hL,hd]
  obtain⟨u',hu'⟩:∃ u',mixL u (canon L) i k=u':=⟨_,rfl⟩
  have hu'l:u'.length=u.length:=by rw [← hu',VP]
  simp only [hu',← hu'l]
  rw [hL] at hLl hLV
  refine zc.run hmix Kk [0,1,4,8,9,10,11,12,13,15,151,152] 400 (T:=.ite (decide ((↑k:Int)<(↑(List.length (canon y)+1):Int))) (.side (inR .i64 ((↑i:Int)+k)) (.side ((0:Int)≤i+(↑k:Int)∧(↑i:Int)+k<(↑u'.length:Int)) (.ite (decide ((↑k:Int)<(↑(canon L).length:Int))) (.side (inR .i64 ((↑i:Int)+k)) (.side ((0:Int)≤k∧(↑k:Int)<(↑(canon L).length:Int)) (.side ((0:Int)≤i+(↑k:Int)∧(↑i:Int)+k<(↑u'.length:Int)) (.side (inR .i64 ((↑k:Int)+(1:Int))) (.leaf (.back 1 [(0,.undef),(1,.undef),(4,.osl 4 1 0 q.length),(8,.int .u32 s),(9,.int .i64 (↑(canon y).length:Int)),(10,.osl 1 1 0 u'.length),(11,.osl 3 1 0 (canon V).length),(12,.int .i64 i),(13,.int .u64 d),(15,.sl (canon L).length 1 (natG .u32 (canon L))),(151,.int .i64 (↑(List.length (canon y)+1):Int)),(152,.int .i64 ((↑k:Int)+(1:Int)))] [.dead,.arr u'.length 1 (updG (updG (natG .u32 u') (0+Int.toNat ((↑i:Int)+k)) 0 [.int .u32 0]) (0+Int.toNat ((↑i:Int)+k)) 0 [.int .u32 (↑(List.getD (canon L) (↑k:Int).toNat 0):Int)]),.dead,.arr (List.length (canon y)+1) 1 (natG .u32 (padN (List.length (canon y)+1) V)),.arr q.length 1 (natG .u32 q)])))))) (.side (inR .i64 ((↑k:Int)+(1:Int))) (.leaf (.back 1 [(0,.undef),(1,.undef),(4,.osl 4 1 0 q.length),(8,.int .u32 s),(9,.int .i64 (↑(canon y).length:Int)),(10,.osl 1 1 0 u'.length),(11,.osl 3 1 0 (canon V).length),(12,.int .i64 i),(13,.int .u64 d),(15,.sl (canon L).length 1 (natG .u32 (canon L))),(151,.int .i64 (↑(List.length (canon y)+1):Int)),(152,.int .i64 ((↑k:Int)+(1:Int)))] [.dead,.arr u'.length 1 (updG (natG .u32 u') (0+Int.toNat ((↑i:Int)+k)) 0 [.int .u32 0]),.dead,.arr (List.length (canon y)+1) 1 (natG .u32 (padN (List.length (canon y)+1) V)),.arr q.length 1 (natG .u32 q)])))))) (.side (inR .u32 (↑d:Int)) (.side ((0:Int)≤i∧(↑i:Int)<q.length) (.side (inR .i64 ((↑i:Int) - (1:Int))) (.leaf (.back 0 [(0,.undef),(1,.undef),(4,.osl 4 1 0 q.length),(8,.int .u32 s),(9,.int .i64 (↑(canon y).length:Int)),(10,.osl 1 1 0 u'.length),(11,.osl 3 1 0 (canon V).length),(12,.int .i64 ((↑i:Int) - (1:Int))),(13,.int .u64 d),(15,.sl (canon L).length 1 (natG .u32 (canon L))),(151,.int .i64 (↑(List.length (canon y)+1):Int)),(152,.int .i64 k)] [.dead,.arr u'.length 1 (natG .u32 u'),.dead,.arr (List.length (canon y)+1) 1 (natG .u32 (padN (List.length (canon y)+1) V)),.arr q.length 1 (updG (natG .u32 q) (0+Int.toNat (↑i:Int)) 0 [.int .u32 d])])))))) (by kernel_rfl) ?_
  have ek:0+((i:Int)+(k:Int)).toNat=i+k:=by omega
  have ek1:((k:Int)+1)=((k+1:Nat):Int):=by omega
  simp only [Tree.holds,zd,inR,lo,hi,ek,ek1,c2,Int.toNat_natCast]
  refine⟨fun hlt=> ?_,fun hge=> ?_⟩
  ·have hlt:k<m+2+1:=by simp at hlt; omega
   have hik:i+k<u'.length:=by omega
   refine⟨by omega,fun _=>⟨by omega,fun _=>⟨fun hin=> ?_,fun hout=> ?_⟩⟩⟩
   ·have hin:k<(canon L).length:=by simp at hin; omega
    iterate 4 refine⟨by omega,fun _=> ?_⟩
    rw [if_pos trivial]
    refine⟨⟨k+1,by omega⟩,by show m+2+1 - (k+1)<m+2+1 - k; omega,by simp [SC,magS,natS,zb],?_,by kernel_rfl,Nat.zero_le _⟩
    have hs2:=VZ u (canon L) i k 0
    rw [hu'] at hs2
    simp only [← hs2]
    refine⟨trivial,⟨by simp,rfl,?_⟩,trivial,by simp [zb],by simp [zb],trivial⟩
    have h1:=vV (k:=.u32) (l:=u') (v:=0) (i:=i+k) (by omega) hik
    have h2:=vV (k:=.u32) (l:=u'.set (i+k) 0) (v:=((canon L).getD k 0:Nat)) (i:=i+k) (by omega) (by simpa using hik)
    simp only [List.length_set,Int.toNat_natCast] at h2
    refine xC ?_ h2
    intro p o hp ho
    have:=h1 p o hp ho
    simp only [updG] at this ⊢
    split
    ·rfl
    ·exact this
   ·have hout:(canon L).length≤k:=by simp at hout; omega
    refine⟨by omega,fun _=> ?_⟩
    rw [if_pos trivial]
    refine⟨⟨k+1,by omega⟩,by show m+2+1 - (k+1)<m+2+1 - k; omega,by simp [SC,magS,natS,zb],?_,by kernel_rfl,Nat.zero_le _⟩
    have hs2:=VZ u (canon L) i k 0
    rw [hu'] at hs2
    have hz:(canon L).getD k 0=0:=by simp [List.getD,List.getElem?_eq_none hout]
    rw [hz,List.set_set] at hs2
    simp only [← hs2]
    refine⟨trivial,⟨by simp,rfl,?_⟩,trivial,by simp [zb],by simp [zb],trivial⟩
    exact vV (k:=.u32) (l:=u') (v:=0) (i:=i+k) (by omega) hik
  ·have hk:k=m+2+1:=by simp at hge; omega
   subst hk
   have hdB:d<B:=hd▸hWB
   iterate 3 refine⟨by omega,fun _=> ?_⟩
   rw [if_neg (by decide),if_pos trivial]
   have hval:=zc9 (u:=u) (L:=L) (j:=i) (k:=m+2+1) (by omega) (by omega)
   rw [hu'] at hval
   have hst:=step_eq (u:=u) (u':=u') (q:=q) (j:=i) (k:=m+2+1) (V:=V) (U0:=U) hdu (by omega) (by simpa using hV1) (by omega) hV0 hlt (by omega) heq (by rw [hW,hL]; exact hval)
   rw [hW,hd] at hst
   refine⟨⟨u',q.set i d,i,by omega,by simpa using hql,by simp; omega,?_,Zx hdq _ hdB,hst.2,hst.1⟩,Nat.lt_succ_self _,by simp [SD,zb],?_,by kernel_rfl,Nat.zero_le _⟩
   ·rw [← hu']; exact zd9 hdu (zk _) _ _
   ·refine⟨trivial,⟨rfl,rfl,zb _ _ _⟩,trivial,⟨rfl,rfl,zb _ _ _⟩,⟨by simp,rfl,?_⟩,trivial⟩
    have:=vV (k:=.u32) (l:=q) (v:=(d:Int)) (i:=i) (by omega) (by omega)
    simpa using this
set_option maxHeartbeats 2000000 in
theorem WH{x y s V U m i:Nat}{u q:List Nat}{O:Nat→Prop}{w0:World}{Q:AV×Heap→Prop}{Hs0:Nat→KV→Heap→Prop}(hm:(canon y).length=m+2)(hx:(canon x).length<100000)(hs0:0<s)(hsB:s<B)(hV1:V<B^(m+2))(hV2:B^(m+2)≤2*V)(hVl:(canon V).length=m+2)(hV0:0<V)
  (hul:u.length=(canon x).length+1) (hql:q.length+(canon y).length=(canon x).length+1) (hjq:i+1≤q.length) (hdu:dig u) (hdq:dig q) (heq:U=V*B^(i+1)*val (q.drop (i+1))+val u) (hlt:val u<V*B^(i+1)) :
  zc Tryz.prog Tryz.f137 O 0 w0 [] (fun d kv h=>if d=0 then ∃ x':ID x y V U,x'.j<i+1∧LeK 0 Tryz.f137.ntmps kv h (SD y s V x'.u.length x'.q.length x'.j) (HD y V x'.u x'.q) else Hs0 d kv h) (RetR yE 0 Q) (inside (inside K137 0) 0) (mk Tryz.f137.ntmps (SD y s V u.length q.length (i+1)) (HD y V u q)):=by
 have hB:B=1000000000:=rfl
 refine zc.run hmix Kk [0,1,4,8,9,10,11,12,13,15,151,152] 400 (T:=.ite (decide ((0:Int)≤(↑(i+1):Int) - (1:Int))) (.side (inR .i64 ((↑(i+1):Int) - (1:Int)+(↑(canon y).length:Int))) (.side ((0:Int)≤(↑(i+1):Int) - (1:Int)+(↑(canon y).length:Int)∧(↑(i+1):Int) - (1:Int)+(↑(canon y).length:Int)<u.length) (.side (inR .u64 (↑(u.getD (0+Int.toNat ((↑(i+1):Int) - (1:Int)+(↑(canon y).length:Int))) 0):Int)) (.side (inR .i64 ((↑(i+1):Int) - (1:Int)+(↑(canon y).length:Int))) (.side (inR .i64 ((↑(i+1):Int) - (1:Int)+(↑(canon y).length:Int) - (1:Int))) (.side ((0:Int)≤(↑(i+1):Int) - (1:Int)+(↑(canon y).length:Int) - (1:Int)∧(↑(i+1):Int) - (1:Int)+(↑(canon y).length:Int) - (1:Int)<u.length) (.side (inR .u64 (↑(u.getD (0+Int.toNat ((↑(i+1):Int) - (1:Int)+(↑(canon y).length:Int) - (1:Int))) 0):Int)) (.side (inR .i64 ((↑(i+1):Int) - (1:Int)+(↑(canon y).length:Int))) (.side (inR .i64 ((↑(i+1):Int) - (1:Int)+(↑(canon y).length:Int) - (2:Int))) (.side ((0:Int)≤(↑(i+1):Int) - (1:Int)+(↑(canon y).length:Int) - (2:Int)∧(↑(i+1):Int) - (1:Int)+(↑(canon y).length:Int) - (2:Int)<u.length) (.side (inR .u64 (↑(u.getD (0+Int.toNat ((↑(i+1):Int) - (1:Int)+(↑(canon y).length:Int) - (2:Int))) 0):Int)) (.side (inR .i64 ((↑(canon y).length:Int) - (1:Int))) (.side ((0:Int)≤(↑(canon y).length:Int) - (1:Int)∧(↑(canon y).length:Int) - (1:Int)<(↑(canon V).length:Int)) (.side (inR .u64 (↑(List.getD (padN (List.length (canon y)+1) V) (0+Int.toNat ((↑(canon y).length:Int) - (1:Int))) 0):Int)) (.side (inR .i64 ((↑(canon y).length:Int) - (2:Int))) (.side ((0:Int)≤(↑(canon y).length:Int) - (2:Int)∧(↑(canon y).length:Int) - (2:Int)<(↑(canon V).length:Int)) (.side (inR .u64 (↑(List.getD (padN (List.length (canon y)+1) V) (0+Int.toNat ((↑(canon y).length:Int) - (2:Int))) 0):Int)) (.ex (fun(x:D5)=>eqL [AV.int .u64 (↑(u.getD (0+Int.toNat ((↑(i+1):Int) - (1:Int)+(↑(canon y).length:Int))) 0):Int),AV.int .u64 (↑(u.getD (0+Int.toNat ((↑(i+1):Int) - (1:Int)+(↑(canon y).length:Int) - (1:Int))) 0):Int),AV.int .u64 (↑(u.getD (0+Int.toNat ((↑(i+1):Int) - (1:Int)+(↑(canon y).length:Int) - (2:Int))) 0):Int),AV.int .u64 (↑(List.getD (padN (List.length (canon y)+1) V) (0+Int.toNat ((↑(canon y).length:Int) - (1:Int))) 0):Int),AV.int .u64 (↑(List.getD (padN (List.length (canon y)+1) V) (0+Int.toNat ((↑(canon y).length:Int) - (2:Int))) 0):Int)] [AV.int .u64 (↑(D5.t x):Int),AV.int .u64 (↑(D5.u x):Int),AV.int .u64 (↑(D5.v x):Int),AV.int .u64 (↑(D5.y x):Int),AV.int .u64 (↑(D5.z x):Int)]∧D5.t x≤D5.y x∧D5.u x<1000000000∧D5.v x<1000000000∧D5.y x<1000000000∧D5.z x<1000000000∧1000000000≤2*D5.y x) fun n=>.all (fun(n_1:Nat)=>n_1=qV (D5.v n) (D5.y n) (D5.z n) 2 ((D5.t n*1000000000+D5.u n)/D5.y n) ((D5.t n*1000000000+D5.u n)%D5.y n)) fun n=>.side (inR .u32 (↑n:Int)) (.ex (fun(u:List Nat)=>u.length=1∧1≤1∧1<4611686018427387904∧eqG 1 1 (zh 1 [AV.int .u32 n]) (natG .u32 u)∧dig (List.take 1 (List.drop 0 u))) fun n_1=>.all (fun(x:Nat)=>x=val (List.take 1 (List.drop 0 n_1))) fun n_2=>.ex (fun(x:Nat×Nat)=>eqL [AV.sl (canon V).length 1 (zg (natG .u32 (padN (List.length (canon y)+1) V)) 0),AV.sl (canon n_2).length 1 (zg (zh 1 [AV.int .u32 n]) 0)] [AV.sl (canon x.1).length 1 (natG .u32 (canon x.1)),AV.sl (canon x.2).length 1 (natG .u32 (canon x.2))]∧fits x.1∧fits x.2) fun n_3=>.all (fun(p:Nat)=>p=n_3.1*n_3.2) fun n_4=>.side (inR .i64 ((↑(i+1):Int) - (1:Int)+(↑(canon y).length:Int))) (.side (inR .i64 ((↑(i+1):Int) - (1:Int)+(↑(canon y).length:Int)+(1:Int))) (.side ((0:Int)≤(↑(i+1):Int) - (1:Int)∧(↑(i+1):Int) - (1:Int)≤(↑(i+1):Int) - (1:Int)+(↑(canon y).length:Int)+(1:Int)∧(↑(i+1):Int) - (1:Int)+(↑(canon y).length:Int)+(1:Int)≤u.length) (.ex (fun(u_1:List Nat)=>u_1.length=u.length∧0+Int.toNat ((↑(i+1):Int) - (1:Int))+(Int.toNat ((↑(i+1):Int) - (1:Int)+(↑(canon y).length:Int)+(1:Int)) - Int.toNat ((↑(i+1):Int) - (1:Int)))≤u.length∧Int.toNat ((↑(i+1):Int) - (1:Int)+(↑(canon y).length:Int)+(1:Int)) - Int.toNat ((↑(i+1):Int) - (1:Int))<4611686018427387904∧eqG u.length 1 (natG .u32 u) (natG .u32 u_1)∧dig (List.take (Int.toNat ((↑(i+1):Int) - (1:Int)+(↑(canon y).length:Int)+(1:Int)) - Int.toNat ((↑(i+1):Int) - (1:Int))) (List.drop (0+Int.toNat ((↑(i+1):Int) - (1:Int))) u_1))) fun n_5=>.all (fun(x:Nat)=>x=val (List.take (Int.toNat ((↑(i+1):Int) - (1:Int)+(↑(canon y).length:Int)+(1:Int)) - Int.toNat ((↑(i+1):Int) - (1:Int))) (List.drop (0+Int.toNat ((↑(i+1):Int) - (1:Int))) n_5))) fun n_6=>.ex (fun(x:Nat×Nat)=>eqL [AV.sl (canon n_6).length 1 (zg (natG .u32 u) (0+Int.toNat ((↑(i+1):Int) - (1:Int)))),AV.sl (canon n_4).length 1 (zg (natG .u32 (padN (List.length (canon n_3.1)+List.length (canon n_3.2)) n_4)) 0)] [AV.sl (canon x.1).length 1 (natG .u32 (canon x.1)),AV.sl (canon x.2).length 1 (natG .u32 (canon x.2))]∧fits x.1∧fits x.2) fun n_7=>.all (fun(r:Int)=>r=cmp3 n_7.1 n_7.2) fun n_8=>.ite (decide (n_8<0)) (.side (inR .u64 ((↑n:Int) - (1:Int))) (.side (inR .u32 ((↑n:Int) - (1:Int))) (.ex (fun(u:List Nat)=>u.length=1∧1≤1∧1<4611686018427387904∧eqG 1 1 (zh 1 [AV.int .u32 ((↑n:Int) - (1:Int))]) (natG .u32 u)∧dig (List.take 1 (List.drop 0 u))) fun n_9=>.all (fun(x:Nat)=>x=val (List.take 1 (List.drop 0 n_9))) fun n_10=>.ex (fun(x:Nat×Nat)=>eqL [AV.sl (canon V).length 1 (zg (natG .u32 (padN (List.length (canon y)+1) V)) 0),AV.sl (canon n_10).length 1 (zg (zh 1 [AV.int .u32 ((↑n:Int) - (1:Int))]) 0)] [AV.sl (canon x.1).length 1 (natG .u32 (canon x.1)),AV.sl (canon x.2).length 1 (natG .u32 (canon x.2))]∧fits x.1∧fits x.2) fun n_11=>.all (fun(p:Nat)=>p=n_11.1*n_11.2) fun n_12=>.side (inR .i64 ((↑(i+1):Int) - (1:Int)+(↑(canon y).length:Int))) (.side (inR .i64 ((↑(i+1):Int) - (1:Int)+(↑(canon y).length:Int)+(1:Int))) (.side ((0:Int)≤(↑(i+1):Int) - (1:Int)∧(↑(i+1):Int) - (1:Int)≤(↑(i+1):Int) - (1:Int)+(↑(canon y).length:Int)+(1:Int)∧(↑(i+1):Int) - (1:Int)+(↑(canon y).length:Int)+(1:Int)≤u.length) (.ex (fun(u_1:List Nat)=>u_1.length=u.length∧0+Int.toNat ((↑(i+1):Int) - (1:Int))+(Int.toNat ((↑(i+1):Int) - (1:Int)+(↑(canon y).length:Int)+(1:Int)) - Int.toNat ((↑(i+1):Int) - (1:Int)))≤u.length∧Int.toNat ((↑(i+1):Int) - (1:Int)+(↑(canon y).length:Int)+(1:Int)) - Int.toNat ((↑(i+1):Int) - (1:Int))<4611686018427387904∧eqG u.length 1 (natG .u32 u) (natG .u32 u_1)∧dig (List.take (Int.toNat ((↑(i+1):Int) - (1:Int)+(↑(canon y).length:Int)+(1:Int)) - Int.toNat ((↑(i+1):Int) - (1:Int))) (List.drop (0+Int.toNat ((↑(i+1):Int) - (1:Int))) u_1))) fun n_13=>.all (fun(x:Nat)=>x=val (List.take (Int.toNat ((↑(i+1):Int) - (1:Int)+(↑(canon y).length:Int)+(1:Int)) - Int.toNat ((↑(i+1):Int) - (1:Int))) (List.drop (0+Int.toNat ((↑(i+1):Int) - (1:Int))) n_13))) fun n_14=>.ex (fun(x:Nat×Nat)=>eqL [AV.sl (canon n_14).length 1 (zg (natG .u32 u) (0+Int.toNat ((↑(i+1):Int) - (1:Int)))),AV.sl (canon n_12).length 1 (zg (natG .u32 (padN (List.length (canon n_11.1)+List.length (canon n_11.2)) n_12)) 0)] [AV.sl (canon x.1).length 1 (natG .u32 (canon x.1)),AV.sl (canon x.2).length 1 (natG .u32 (canon x.2))]∧fits x.1∧x.2≤x.1) fun n_15=>.all (fun(d:Nat)=>d=n_15.1 - n_15.2) fun n_16=>.side (inR .i64 ((↑(canon y).length:Int)+(1:Int))) (.leaf (.loop (Prod.fst (lps (inside (inside K137 0) 0) 0)) (Prod.snd (lps (inside (inside K137 0) 0) 0)) [(0,.undef),(1,.undef),(4,.osl 4 1 0 q.length),(8,.int .u32 s),(9,.int .i64 (↑(canon y).length:Int)),(10,.osl 1 1 0 u.length),(11,.osl 3 1 0 (canon V).length),(12,.int .i64 ((↑(i+1):Int) - (1:Int))),(13,.int .u64 ((↑n:Int) - (1:Int))),(15,.sl (canon n_16).length 1 (natG .u32 (canon n_16))),(151,.int .i64 ((↑(canon y).length:Int)+(1:Int))),(152,.int .i64 0)] [.dead,.arr u.length 1 (natG .u32 u),.dead,.arr (List.length (canon y)+1) 1 (natG .u32 (padN (List.length (canon y)+1) V)),.arr q.length 1 (natG .u32 q),.arr 1 1 (zh 1 [.int .u32 n]),.arr (List.length (canon n_3.1)+List.length (canon n_3.2)) 1 (natG .u32 (padN (List.length (canon n_3.1)+List.length (canon n_3.2)) n_4)),.arr 1 1 (zh 1 [.int .u32 ((↑n:Int) - (1:Int))]),.arr (List.length (canon n_11.1)+List.length (canon n_11.2)) 1 (natG .u32 (padN (List.length (canon n_11.1)+List.length (canon n_11.2)) n_12))])))))))) (.side (inR .i64 ((↑(i+1):Int) - (1:Int)+(↑(canon y).length:Int))) (.side (inR .i64 ((↑(i+1):Int) - (1:Int)+(↑(canon y).length:Int)+(1:Int))) (.side ((0:Int)≤(↑(i+1):Int) - (1:Int)∧(↑(i+1):Int) - (1:Int)≤(↑(i+1):Int) - (1:Int)+(↑(canon y).length:Int)+(1:Int)∧(↑(i+1):Int) - (1:Int)+(↑(canon y).length:Int)+(1:Int)≤u.length) (.ex (fun(u_1:List Nat)=>u_1.length=u.length∧0+Int.toNat ((↑(i+1):Int) - (1:Int))+(Int.toNat ((↑(i+1):Int) - (1:Int)+(↑(canon y).length:Int)+(1:Int)) - Int.toNat ((↑(i+1):Int) - (1:Int)))≤u.length∧Int.toNat ((↑(i+1):Int) - (1:Int)+(↑(canon y).length:Int)+(1:Int)) - Int.toNat ((↑(i+1):Int) - (1:Int))<4611686018427387904∧eqG u.length 1 (natG .u32 u) (natG .u32 u_1)∧dig (List.take (Int.toNat ((↑(i+1):Int) - (1:Int)+(↑(canon y).length:Int)+(1:Int)) - Int.toNat ((↑(i+1):Int) - (1:Int))) (List.drop (0+Int.toNat ((↑(i+1):Int) - (1:Int))) u_1))) fun n_9=>.all (fun(x:Nat)=>x=val (List.take (Int.toNat ((↑(i+1):Int) - (1:Int)+(↑(canon y).length:Int)+(1:Int)) - Int.toNat ((↑(i+1):Int) - (1:Int))) (List.drop (0+Int.toNat ((↑(i+1):Int) - (1:Int))) n_9))) fun n_10=>.ex (fun(x:Nat×Nat)=>eqL [AV.sl (canon n_10).length 1 (zg (natG .u32 u) (0+Int.toNat ((↑(i+1):Int) - (1:Int)))),AV.sl (canon n_4).length 1 (zg (natG .u32 (padN (List.length (canon n_3.1)+List.length (canon n_3.2)) n_4)) 0)] [AV.sl (canon x.1).length 1 (natG .u32 (canon x.1)),AV.sl (canon x.2).length 1 (natG .u32 (canon x.2))]∧fits x.1∧x.2≤x.1) fun n_11=>.all (fun(d:Nat)=>d=n_11.1 - n_11.2) fun n_12=>.side (inR .i64 ((↑(canon y).length:Int)+(1:Int))) (.leaf (.loop (Prod.fst (lps (inside (inside K137 0) 0) 0)) (Prod.snd (lps (inside (inside K137 0) 0) 0)) [(0,.undef),(1,.undef),(4,.osl 4 1 0 q.length),(8,.int .u32 s),(9,.int .i64 (↑(canon y).length:Int)),(10,.osl 1 1 0 u.length),(11,.osl 3 1 0 (canon V).length),(12,.int .i64 ((↑(i+1):Int) - (1:Int))),(13,.int .u64 n),(15,.sl (canon n_12).length 1 (natG .u32 (canon n_12))),(151,.int .i64 ((↑(canon y).length:Int)+(1:Int))),(152,.int .i64 0)] [.dead,.arr u.length 1 (natG .u32 u),.dead,.arr (List.length (canon y)+1) 1 (natG .u32 (padN (List.length (canon y)+1) V)),.arr q.length 1 (natG .u32 q),.arr 1 1 (zh 1 [.int .u32 n]),.arr (List.length (canon n_3.1)+List.length (canon n_3.2)) 1 (natG .u32 (padN (List.length (canon n_3.1)+List.length (canon n_3.2)) n_4))])))))))))))))))))))))))))))) (.ex (fun(u_1:List Nat)=>u_1.length=u.length∧0+u.length≤u.length∧u.length<4611686018427387904∧eqG u.length 1 (natG .u32 u) (natG .u32 u_1)∧dig (List.take u.length (List.drop 0 u_1))) fun n=>.all (fun(x:Nat)=>x=val (List.take u.length (List.drop 0 n))) fun n=>.ex (fun(x:Nat×Nat)=>eqL [AV.sl (canon n).length 1 (zg (natG .u32 u) 0),AV.int .u32 s] [AV.sl (canon x.1).length 1 (natG .u32 (canon x.1)),AV.int .u32 x.2]∧fits x.1∧0<x.2∧x.2<1000000000) fun n=>.all (fun(r:Nat×Nat)=>r=(n.1/n.2,n.1%n.2)) fun n=>.ex (fun(u:List Nat)=>u.length=q.length∧0+q.length≤q.length∧q.length<4611686018427387904∧eqG q.length 1 (natG .u32 q) (natG .u32 u)∧dig (List.take q.length (List.drop 0 u))) fun n_1=>.all (fun(x:Nat)=>x=val (List.take q.length (List.drop 0 n_1))) fun n_2=>.leaf (.ret [.osl 4 1 0 (canon n_2).length,.sl (canon n.1).length 1 (natG .u32 (canon n.1))] [.dead,.arr u.length 1 (natG .u32 u),.dead,.arr (List.length (canon y)+1) 1 (natG .u32 (padN (List.length (canon y)+1) V)),.arr q.length 1 (natG .u32 q)]))) (by kernel_rfl) ?_
 simp only [Tree.holds,zd,inR,lo,hi]
 refine⟨fun hj=> ?_,fun hj=>by simp at hj⟩
 have ej:(((i+1:Nat):Int) - 1)=(i:Int):=by omega
 have a1:0+((i:Int)+((canon y).length:Int)).toNat=i+(m+2):=by omega
 have a2:0+((i:Int)+((canon y).length:Int) - 1).toNat=i+(m+1):=by omega
 have a3:0+((i:Int)+((canon y).length:Int) - 2).toNat=i+m:=by omega
 have b1:0+(((canon y).length:Int) - 1).toNat=m+1:=by omega
 have b2:0+(((canon y).length:Int) - 2).toNat=m:=by omega
 have c1:((i:Int)+((canon y).length:Int)+1).toNat - (i:Int).toNat=m+2+1:=by omega
 have c2:0+(i:Int).toNat=i:=by omega
 simp only [ej,a1,a2,a3,b1,b2,c1,c2,zdz]
 have hu1:=zO hdu (i+(m+2))
 have hu2:=zO hdu (i+(m+1))
 have hu3:=zO hdu (i+m)
 have hv1:=zO (zk V) (m+1)
 have hv2:=zO (zk V) m
 iterate 17 refine⟨by omega,fun _=> ?_⟩
 obtain⟨W,hW⟩:∃ W,val ((u.drop i).take (m+2+1))=W:=⟨_,rfl⟩
 have hdw:dig ((u.drop i).take (m+2+1)):=ju (ZX hdu _) _
 have hWl:(canon W).length≤m+2+1:=by
  refine z6 ?_
  have:=qn hdw
  rw [hW,List.length_take] at this
  exact Nat.lt_of_lt_of_le this (Nat.pow_le_pow_right (by decide) (Nat.min_le_left _ _))
 obtain⟨g1,g2,g3,g4,g5,g6⟩:=zek hdu (by omega) hVl hV2 hlt hW rfl
 refine⟨⟨u.getD (i+(m+2)) 0,u.getD (i+(m+1)) 0,u.getD (i+m) 0,(canon V).getD (m+1) 0,(canon V).getD m 0⟩,⟨by simp,g3,hu2,hu3,hv1,hv2,g2⟩,⟨_,rfl⟩,?_⟩
 intro d hd
 simp only at hd
 rw [← hd] at g4 g5 g6
 clear hd
 have hWVB:W/V<B:=by omega
 have fin:=VI (x:=x) (y:=y) (s:=s) (V:=V) (U:=U) (O:=O) (w0:=w0) (Q:=Q) (Hs0:=Hs0) hm hx hs0 hsB hV1 hV2 hVl hV0 hul hql hjq hdu hdq heq hlt hW hWVB
 have hdm:=Nat.div_add_mod W V
 have hmlt:=Nat.mod_lt W hV0
 have hul2:i+(m+2+1)≤u.length:=by omega
 have hul3:u.length<100002:=by omega
 clear heq hlt hul hql hjq hdq hx hs0 hsB hV2 g1 g2 g3 hu1 hu2 hu3 hv1 hv2 hj a1 a2 a3 b1 b2
 generalize W/V=qd at *
 generalize W%V=rm at *
 refine⟨by omega,fun _=> ?_⟩
 refine⟨[d],⟨rfl,by omega,by omega,xA _ _,by simpa [dig] using g6⟩,⟨_,rfl⟩,?_⟩
 intro D hD
 have hD:D=d:=by simpa [val] using hD
 subst hD
 have hdl:=z6 (x:=D) (n:=1) (by simpa using g6)
 refine⟨(V,D),⟨?_,by simp only [fits]; omega,by simp only [fits]; omega⟩,⟨_,rfl⟩,?_⟩
 ·simp only [eqL,eqA,eqA0,true_and,and_true]
  exact⟨yK (by omega),wH g6⟩
 intro p hp
 simp only at hp ⊢
 have hpl:=xM V D
 rw [← hp] at hpl
 iterate 3 refine⟨by omega,fun _=> ?_⟩
 refine⟨u,⟨rfl,hul2,by omega,zb _ _ _,hdw⟩,⟨_,rfl⟩,?_⟩
 intro W' hW'
 have hW':W'=W:=hW'.trans hW
 subst hW'
 refine⟨(W',p),⟨?_,by simp only [fits]; omega,by simp only [fits]; omega⟩,⟨_,rfl⟩,?_⟩
 ·simp only [eqL,eqA,eqA0,true_and,and_true]
  exact⟨j9 hdw hW,yK hpl⟩
 rintro c rfl
 refine⟨fun hlt2=> ?_,fun hge2=> ?_⟩
 ·have hlt2:W'<p:=by
   simp only [cmp3,decide_eq_true_eq] at hlt2
   rcases Nat.lt_or_ge W' p with h | h
   ·exact h
   ·rw [if_neg (by omega)] at hlt2; split at hlt2<;>omega
  have hDQ:D=qd+1:=by
   rcases Nat.lt_or_ge qd D with h | h
   ·omega
   ·have:V*D≤V*qd:=Nat.mul_le_mul_left _ h
    omega
  have e3:((D:Int) - 1)=((qd:Nat):Int):=by omega
  simp only [e3]
  have hQl:=z6 (x:=qd) (n:=1) (by simpa using hWVB)
  iterate 2 refine⟨by omega,fun _=> ?_⟩
  refine⟨[qd],⟨rfl,by omega,by omega,xA _ _,by simpa [dig] using hWVB⟩,⟨_,rfl⟩,?_⟩
  intro E hE
  have hE:E=qd:=by simpa [val] using hE
  subst hE
  refine⟨(V,E),⟨?_,by simp only [fits]; omega,by simp only [fits]; omega⟩,⟨_,rfl⟩,?_⟩
  ·simp only [eqL,eqA,eqA0,true_and,and_true]
   exact⟨yK (by omega),wH hWVB⟩
  intro p2 hp2
  simp only at hp2 ⊢
  have hp2l:=xM V E
  rw [← hp2] at hp2l
  iterate 3 refine⟨by omega,fun _=> ?_⟩
  refine⟨u,⟨rfl,hul2,by omega,zb _ _ _,hdw⟩,⟨_,rfl⟩,?_⟩
  intro W2 hW2
  have hW2:W2=W':=hW2.trans hW
  subst hW2
  refine⟨(W2,p2),⟨?_,by simp only [fits]; omega,by simp only; omega⟩,⟨_,rfl⟩,?_⟩
  ·simp only [eqL,eqA,eqA0,true_and,and_true]
   exact⟨j9 hdw hW,yK hp2l⟩
  intro L hL
  simp only at hL ⊢
  have hL:L=rm:=by omega
  subst hL
  refine⟨by omega,fun _=> ?_⟩
  refine fin _ _ ⟨by simp [SC,magS,natS,zb,hVl],?_,by kernel_rfl,Nat.zero_le _⟩
  simp [HD,zb]
 ·have hge2:p≤W':=by
   simp only [cmp3,decide_eq_false_iff_not] at hge2
   rcases Nat.lt_or_ge W' p with h | h
   ·rw [if_pos h] at hge2; omega
   ·exact h
  have hDQ:D=qd:=by
   rcases Nat.lt_or_ge qd D with h | h
   ·have:V*(qd+1)≤V*D:=Nat.mul_le_mul_left _ h
    rw [Nat.mul_add] at this
    omega
   ·omega
  subst hDQ
  iterate 3 refine⟨by omega,fun _=> ?_⟩
  refine⟨u,⟨rfl,hul2,by omega,zb _ _ _,hdw⟩,⟨_,rfl⟩,?_⟩
  intro W2 hW2
  have hW2:W2=W':=hW2.trans hW
  subst hW2
  refine⟨(W2,p),⟨?_,by simp only [fits]; omega,hge2⟩,⟨_,rfl⟩,?_⟩
  ·simp only [eqL,eqA,eqA0,true_and,and_true]
   exact⟨j9 hdw hW,yK hpl⟩
  intro L hL
  simp only at hL ⊢
  have hL:L=rm:=by omega
  subst hL
  refine⟨by omega,fun _=> ?_⟩
  refine fin _ _ ⟨by simp [SC,magS,natS,zb,hVl],?_,by kernel_rfl,Nat.zero_le _⟩
  simp [HD,zb]
set_option maxHeartbeats 4000000 in
theorem JG:zf Tryz.prog 137 yE:=by
 refine yZ (fn:=Tryz.f137) (c:=Tryz.f137.body.getD .skip) rfl rfl rfl fun x y hp O w0 Q hq=> ?_
 replace hq:=hq _ rfl
 obtain⟨hx,hy,hy0⟩:=hp
 simp only at hq
 have hB:B=1000000000:=rfl
 refine zc.run hmix Kk [0,1,4,8,9,10,11,12,13,15,151,152] 400 (T:=.ex (fun(x_1:Nat×Nat)=>eqL [AV.sl (canon x).length 1 (natG .u32 (canon x)),AV.sl (canon y).length 1 (natG .u32 (canon y))] [AV.sl (canon x_1.1).length 1 (natG .u32 (canon x_1.1)),AV.sl (canon x_1.2).length 1 (natG .u32 (canon x_1.2))]∧fits x_1.1∧fits x_1.2) fun n=>.all (fun(r:Int)=>r=cmp3 n.1 n.2) fun n=>.ite (decide (n<0)) (.leaf (.ret [.nils,.sl (canon x).length 1 (natG .u32 (canon x))] [])) (.ite (decide ((↑(canon y).length:Int)=1)) (.side ((0:Int)≤0∧(0:Int)<(↑(canon y).length:Int)) (.ex (fun(x_1:Nat×Nat)=>eqL [AV.sl (canon x).length 1 (natG .u32 (canon x)),AV.int .u32 (↑(List.getD (canon y) 0 0):Int)] [AV.sl (canon x_1.1).length 1 (natG .u32 (canon x_1.1)),AV.int .u32 x_1.2]∧fits x_1.1∧0<x_1.2∧x_1.2<1000000000) fun n=>.all (fun(r:Nat×Nat)=>r=(n.1/n.2,n.1%n.2)) fun n=>.ex (fun(u:List Nat)=>u.length=1∧1≤1∧1<4611686018427387904∧eqG 1 1 (zh 1 [AV.int .u32 n.2]) (natG .u32 u)∧dig (List.take 1 (List.drop 0 u))) fun n_1=>.all (fun(x:Nat)=>x=val (List.take 1 (List.drop 0 n_1))) fun n_2=>.leaf (.ret [.sl (canon n.1).length 1 (natG .u32 (canon n.1)),.osl 0 1 0 (canon n_2).length] [.arr 1 1 (zh 1 [.int .u32 n.2])]))) (.side (inR .i64 ((↑(canon y).length:Int) - (1:Int))) (.side ((0:Int)≤(↑(canon y).length:Int) - (1:Int)∧(↑(canon y).length:Int) - (1:Int)<(↑(canon y).length:Int)) (.side (inR .u64 (↑(List.getD (canon y) (Int.toNat ((↑(canon y).length:Int) - (1:Int))) 0):Int)) (.side (inR .u64 ((↑(List.getD (canon y) (Int.toNat ((↑(canon y).length:Int) - (1:Int))) 0):Int)+(1:Int))) (.side ((↑(List.getD (canon y) (Int.toNat ((↑(canon y).length:Int) - (1:Int))) 0):Int)+(1:Int)≠0∧inR .u64 (Int.tdiv (1000000000:Int) ((↑(List.getD (canon y) (Int.toNat ((↑(canon y).length:Int) - (1:Int))) 0):Int)+(1:Int)))) (.side (inR .u32 (Int.tdiv (1000000000:Int) ((↑(List.getD (canon y) (Int.toNat ((↑(canon y).length:Int) - (1:Int))) 0):Int)+(1:Int)))) (.ex (fun(x_1:Nat×Nat)=>eqL [AV.sl (canon x).length 1 (natG .u32 (canon x)),AV.sl 1 1 (zg (zh 1 [AV.int .u32 (Int.tdiv (1000000000:Int) ((↑(List.getD (canon y) (Int.toNat ((↑(canon y).length:Int) - (1:Int))) 0):Int)+(1:Int)))]) 0)] [AV.sl (canon x_1.1).length 1 (natG .u32 (canon x_1.1)),AV.sl (canon x_1.2).length 1 (natG .u32 (canon x_1.2))]∧fits x_1.1∧fits x_1.2) fun n=>.all (fun(p:Nat)=>p=n.1*n.2) fun n_1=>.leaf (.loop (Prod.fst (lps K137 0)) (Prod.snd (lps K137 0)) [(0,.sl (canon x).length 1 (natG .u32 (canon x))),(1,.sl (canon y).length 1 (natG .u32 (canon y))),(4,.nils),(8,.int .u32 (Int.tdiv (1000000000:Int) ((↑(List.getD (canon y) (Int.toNat ((↑(canon y).length:Int) - (1:Int))) 0):Int)+(1:Int)))),(9,.int .i64 (↑(canon y).length:Int)),(10,.osl 1 1 0 (canon n_1).length),(11,.undef),(12,.undef),(13,.undef),(15,.undef),(151,.undef),(152,.undef)] [.arr 1 1 (zh 1 [.int .u32 (Int.tdiv (1000000000:Int) ((↑(List.getD (canon y) (Int.toNat ((↑(canon y).length:Int) - (1:Int))) 0):Int)+(1:Int)))]),.arr (List.length (canon n.1)+List.length (canon n.2)) 1 (natG .u32 (padN (List.length (canon n.1)+List.length (canon n.2)) n_1))])))))))))) (by kernel_rfl) ?_
 simp only [Tree.holds,zd,inR,lo,hi]
 refine⟨(x,y),⟨by simp [zb],by simp only [fits]; omega,by simp only [fits]; omega⟩,⟨_,rfl⟩,?_⟩
 rintro c rfl
 have hyl:0<(canon y).length:=j2 (n:=0) (by simp; omega)
 refine⟨fun hlt=> ?_,fun hge=>⟨fun h1=>⟨by omega,fun _=> ?_⟩,fun hn=> ?_⟩⟩
 ·have hxy:x<y:=by
   simp only [cmp3,decide_eq_true_eq] at hlt
   rcases Nat.lt_or_ge x y with h | h
   ·exact h
   ·rw [if_neg (by omega)] at hlt; split at hlt<;>omega
  rw [Nat.div_eq_of_lt hxy,Nat.mod_eq_of_lt hxy] at hq
  refine RetR.out0 hq (fun h=>by cases h) ?_
  simp [resV,exp2,exp1,exp0,ren0,eqA2,eqL1,magS,natS,zL,zb]
 ·have h1:(canon y).length=1:=by simp at h1; omega
  have hyd:y=(canon y).getD 0 0:=by
   have:=zn y
   obtain⟨a,ha⟩:=List.length_eq_one_iff.1 h1
   rw [ha] at this ⊢
   simp [val] at this ⊢; omega
  have hyB:y<B:=hyd▸zO (zk y) 0
  rw [← hyd]
  refine⟨(x,y),⟨by simp [zb],by simp only [fits]; omega,hy0,hyB⟩,⟨_,rfl⟩,?_⟩
  rintro r rfl
  have hm:=Nat.mod_lt x hy0
  have hmB:x%y<B:=by omega
  refine⟨[x%y],⟨rfl,by omega,by omega,xA _ _,by simpa [dig] using hmB⟩,⟨_,rfl⟩,?_⟩
  intro X hX
  have hX:X=x%y:=by simpa [val] using hX
  subst hX
  refine RetR.out0 hq (fun h=>by cases h) ?_
  simp only [resV,exp2,List.map_cons,List.map_nil,exp1,exp0,ren0,z5,frz1,jx,List.getElem?_cons_zero,if_true,eqA2,eqL1,eqA,eqA0,magS,natS,true_and,and_true]
  exact⟨zb _ _ _,wH hmB⟩
 ·have hn:2≤(canon y).length:=by simp at hn; omega
  obtain⟨m,hm⟩:∃ m,(canon y).length=m+2:=⟨(canon y).length - 2,by omega⟩
  have e1:((((canon y).length:Nat):Int) - 1).toNat=m+1:=by omega
  have hty:=zO (zk y) (m+1)
  have htop:(canon y).getD (m+1) 0≠0:=by
   have:=q7 (canon y) (by rw [jd]; omega)
   rw [jd,hm] at this
   exact this
  have hyv:∃ r,r<B^(m+1)∧y=r+B^(m+1)*(canon y).getD (m+1) 0:=by
   refine⟨val ((canon y).take (m+1)),?_,?_⟩
   ·have:=qn (ju (zk y) (m+1))
    rwa [List.length_take,Nat.min_eq_left (by omega)] at this
   ·have:=zw (canon y) (m+1)
    rwa [List.take_of_length_le (by omega),zn] at this
  rw [e1]
  generalize (canon y).getD (m+1) 0=t at hty htop hyv ⊢
  have e2:Int.tdiv 1000000000 ((t:Int)+1)=((B/(t+1):Nat):Int):=by
   have:((t:Int)+1)=((t+1:Nat):Int):=by omega
   rw [this]; rfl
  rw [e2]
  obtain⟨s,hs⟩:∃ s,B/(t+1)=s:=⟨_,rfl⟩
  obtain⟨hs0,hs1,hs2⟩:=zc6 (by omega) hs.symm hty
  rw [hs]
  have hsB:s<B:=by
   have:s*2≤s*(t+1):=Nat.mul_le_mul_left _ (by omega)
   omega
  obtain⟨r0,hr0,hyr⟩:=hyv
  obtain⟨hV1,hV2⟩:=scaled hr0 hyr hs0 hs1 hs2
  refine⟨by omega,fun _=>⟨by omega,fun _=>⟨by omega,fun _=>⟨by omega,fun _=>⟨by omega,fun _=>⟨by omega,fun _=> ?_⟩⟩⟩⟩⟩⟩
  have hsl:=Jf hs0 hsB
  refine⟨(x,s),⟨?_,by simp only [fits]; omega,by simp only [fits]; omega⟩,⟨_,rfl⟩,?_⟩
  ·simp only [eqL,eqA,eqA0,true_and,and_true]
   refine⟨zb _ _ _,hsl.symm,?_⟩
   have:=wH hsB
   rwa [hsl] at this
  intro U hU
  simp only at hU ⊢
  rw [hsl]
  have hxs:U<B^((canon x).length+1):=by
   have h1:=qn (zk x)
   rw [zn] at h1
   rw [hU,Nat.pow_succ]
   exact Nat.mul_lt_mul'' h1 hsB
  have hUl:=z6 hxs
  have hcan:(canon x).length+1≥m+2:=by
   rcases Nat.lt_or_ge (canon x).length (m+1) with h | h
   ·exfalso
    have:=zY (x:=x) (y:=y) (by omega)
    simp [cmp3,this] at hge
   ·omega
  have hylx:(canon y).length≤(canon x).length:=by
   rcases Nat.lt_or_ge (canon x).length (canon y).length with h | h
   ·exfalso
    have:=zY h
    simp [cmp3,this] at hge
   ·exact h
  refine zc.loop (ι:=IG x U) (fun i=>SG x y s i.k) (fun i=>[.dead,.arr i.o.length 1 (natG .u32 i.o)]) (fun i=>(canon x).length+1 - i.k)
   ⟨(canon U).length,padN ((canon x).length+1) U,by rw [W6 hUl]; exact hUl,by rw [W6 hUl]; omega,ju (zfv _ _) _,by simp [padN,zn]⟩ 0 ?_ ?_ (by kernel_rfl)
  ·exact⟨by simp [SG,magS,natS,zb],by simp [zb,W6 hUl],by kernel_rfl,Nat.zero_le _⟩
  ·rintro⟨k,o,hko,hol,hdo,hvo⟩
   refine zc.run hmix Kk [0,1,4,8,9,10,11,12,13,15,151,152] 400 (T:=.ite (decide ((↑k:Int)≤(↑(canon x).length:Int))) (.side (0=0∧k≤o.length∧(k+1)*4≤140737488355328) (.leaf (.back 0 [(0,.sl (canon x).length 1 (natG .u32 (canon x))),(1,.sl (canon y).length 1 (natG .u32 (canon y))),(4,.nils),(8,.int .u32 s),(9,.int .i64 (↑(canon y).length:Int)),(10,.osl 1 1 0 (k+1)),(11,.undef),(12,.undef),(13,.undef),(15,.undef),(151,.undef),(152,.undef)] [.dead,.arr (k+1) 1 (appG k (natG .u32 o) (zg (zh 1 [.int .u32 0]) 0)),.arr 1 1 (zh 1 [.int .u32 0])]))) (.ex (fun(x:Nat×Nat)=>eqL [AV.sl (canon y).length 1 (natG .u32 (canon y)),AV.sl 1 1 (zg (zh 1 [AV.int .u32 s]) 0)] [AV.sl (canon x.1).length 1 (natG .u32 (canon x.1)),AV.sl (canon x.2).length 1 (natG .u32 (canon x.2))]∧fits x.1∧fits x.2) fun n=>.all (fun(p:Nat)=>p=n.1*n.2) fun n_1=>.side (inR .i64 ((↑k:Int) - (↑(canon y).length:Int))) (.side ((0:Int)≤k - (↑(canon y).length:Int)∧(↑k:Int) - (↑(canon y).length:Int)≤k - (↑(canon y).length:Int)∧inR .i64 ((↑k:Int) - (↑(canon y).length:Int))∧Int.toNat ((↑k:Int) - (↑(canon y).length:Int))*4≤140737488355328) (.side (inR .i64 ((↑k:Int) - (↑(canon y).length:Int))) (.side (inR .i64 ((↑k:Int) - (↑(canon y).length:Int) - (1:Int))) (.leaf (.loop (Prod.fst (lps (inside K137 0) 0)) (Prod.snd (lps (inside K137 0) 0)) [(0,.sl (canon x).length 1 (natG .u32 (canon x))),(1,.sl (canon y).length 1 (natG .u32 (canon y))),(4,.osl 4 1 0 (Int.toNat ((↑k:Int) - (↑(canon y).length:Int)))),(8,.int .u32 s),(9,.int .i64 (↑(canon y).length:Int)),(10,.osl 1 1 0 k),(11,.osl 3 1 0 (canon n_1).length),(12,.int .i64 ((↑k:Int) - (↑(canon y).length:Int) - (1:Int))),(13,.undef),(15,.undef),(151,.undef),(152,.undef)] [.dead,.arr o.length 1 (natG .u32 o),.arr 1 1 (zh 1 [.int .u32 s]),.arr (List.length (canon n.1)+List.length (canon n.2)) 1 (natG .u32 (padN (List.length (canon n.1)+List.length (canon n.2)) n_1)),.arr (Int.toNat ((↑k:Int) - (↑(canon y).length:Int))) 1 (x2 [.int .u32 0])]))))))) (by kernel_rfl) ?_
   simp only [Tree.holds,zd,inR,lo,hi]
   refine⟨fun hk=> ?_,fun hk=> ?_⟩
   ·have hk:k≤(canon x).length:=by simp at hk; omega
    refine⟨⟨trivial,hko,by omega⟩,fun _=> ?_⟩
    rw [if_pos trivial]
    have hkl:(o.take k).length=k:=by rw [List.length_take]; omega
    refine⟨⟨k+1,o.take k++[0],by simp [hkl],by simp [hkl]; omega,?_,?_⟩,by show _ - (k+1)<_ - k; omega,by simp [SG,magS,natS,zb],?_,by kernel_rfl,Nat.zero_le _⟩
    ·rw [List.take_of_length_le (by simp [hkl])]; exact je.2 ⟨hdo,by simp [dig]⟩
    ·rw [List.take_of_length_le (by simp [hkl]),zK]; simp [val,hvo]
    ·refine⟨trivial,⟨by simp [hkl],rfl,?_⟩,trivial⟩
     intro j o' hj ho'
     have:o'=0:=by omega
     subst this
     simp only [appG,zg,zh,natG]
     by_cases h:j<k
     ·rw [if_pos h]
      simp only [List.getD]
      rw [List.getElem?_append_left (by omega),List.getElem?_take,if_pos h]
     ·have:j=k:=by omega
      subst this
      rw [if_neg h]
      simp [List.getElem?_append_right,hkl]
   ·have hk:k=(canon x).length+1:=by simp at hk; omega
    have hok:o.length=(canon x).length+1:=by omega
    rw [List.take_of_length_le (by omega)] at hdo hvo
    refine⟨(y,s),⟨?_,by simp only [fits]; omega,by simp only [fits]; omega⟩,⟨_,rfl⟩,?_⟩
    ·simp only [eqL,eqA,eqA0,true_and,and_true]
     refine⟨zb _ _ _,hsl.symm,?_⟩
     have:=wH hsB
     rwa [hsl] at this
    intro V hV
    simp only at hV ⊢
    rw [hsl]
    rw [← hV] at hV1 hV2
    have hVl:(canon V).length=m+2:=by
     have h1:=z6 hV1
     have h2:B^(m+1)≤V:=by
      have:B^(m+1+1)=B^(m+1)*B:=Nat.pow_succ ..
      rw [this] at hV2
      have:B^(m+1)*2≤B^(m+1)*B:=Nat.mul_le_mul_left _ (by decide)
      omega
     have:=j2 h2
     omega
    have hV0:0<V:=by
     rcases Nat.eq_zero_or_pos V with h | h
     ·rw [h,zL] at hVl; simp at hVl
     ·exact h
    have eq0:((k:Int) - ((canon y).length:Int)).toNat=k - (canon y).length:=by omega
    rw [eq0]
    refine⟨by omega,fun _=>⟨by omega,fun _=>⟨by omega,fun _=>⟨by omega,fun _=> ?_⟩⟩⟩⟩
    have hqe:U/V=x/y∧U%V=x%y*s:=by
     rw [hU,hV]
     exact⟨Nat.mul_div_mul_right _ _ hs0,Nat.mul_mod_mul_right _ _ _⟩
    refine zc.loop (ι:=ID x y V U) (fun i=>SD y s V i.u.length i.q.length i.j) (fun i=>HD y V i.u i.q) (fun i=>i.j)
     ⟨o,List.replicate (k - (canon y).length) 0,k - (canon y).length,hok,by simp; omega,by simp,hdo,qU _,by simp [val,hvo],?_⟩ 0 ?_ ?_ (by kernel_rfl)
    ·rw [hvo]
     have h1:U*2≤x*B:=by
      rw [hU,Nat.mul_assoc]
      refine Nat.mul_le_mul_left _ ?_
      have:s*2≤s*(t+1):=Nat.mul_le_mul_left _ (by omega)
      omega
     have h2:x<B^(canon x).length:=by have:=qn (zk x); rwa [zn] at this
     have h3:B^(m+1+1)*B^(k - (canon y).length)≤2*V*B^(k - (canon y).length):=Nat.mul_le_mul_right _ hV2
     rw [← Nat.pow_add,show m+1+1+(k - (canon y).length)=(canon x).length+1 by omega,Nat.pow_succ] at h3
     have h4:x*B<B^(canon x).length*B:=Nat.mul_lt_mul_of_pos_right h2 (by decide)
     rw [Nat.mul_assoc] at h3
     omega
    ·refine⟨?_,?_,by kernel_rfl,Nat.zero_le _⟩
     ·simp [SD,hVl,hm,hok,hk,zb]; omega
     ·simp [HD,zb,uH]
    ·rintro⟨u,q,j,hul,hql,hjq,hdu,hdq,heq,hlt⟩
     rcases j with _ | i
     ·refine zc.run hmix Kk [0,1,4,8,9,10,11,12,13,15,151,152] 400 (T:=.ite false (.side (inR .i64 ((-1:Int)+(↑(canon y).length:Int))) (.side ((0:Int)≤(-1:Int)+(↑(canon y).length:Int)∧(-1:Int)+(↑(canon y).length:Int)<u.length) (.side (inR .u64 (↑(u.getD (0+Int.toNat ((-1:Int)+(↑(canon y).length:Int))) 0):Int)) (.side (inR .i64 ((-1:Int)+(↑(canon y).length:Int))) (.side (inR .i64 ((-1:Int)+(↑(canon y).length:Int) - (1:Int))) (.side ((0:Int)≤(-1:Int)+(↑(canon y).length:Int) - (1:Int)∧(-1:Int)+(↑(canon y).length:Int) - (1:Int)<u.length) (.side (inR .u64 (↑(u.getD (0+Int.toNat ((-1:Int)+(↑(canon y).length:Int) - (1:Int))) 0):Int)) (.side (inR .i64 ((-1:Int)+(↑(canon y).length:Int))) (.side (inR .i64 ((-1:Int)+(↑(canon y).length:Int) - (2:Int))) (.side ((0:Int)≤(-1:Int)+(↑(canon y).length:Int) - (2:Int)∧(-1:Int)+(↑(canon y).length:Int) - (2:Int)<u.length) (.side (inR .u64 (↑(u.getD (0+Int.toNat ((-1:Int)+(↑(canon y).length:Int) - (2:Int))) 0):Int)) (.side (inR .i64 ((↑(canon y).length:Int) - (1:Int))) (.side ((0:Int)≤(↑(canon y).length:Int) - (1:Int)∧(↑(canon y).length:Int) - (1:Int)<(↑(canon V).length:Int)) (.side (inR .u64 (↑(List.getD (padN (List.length (canon y)+1) V) (0+Int.toNat ((↑(canon y).length:Int) - (1:Int))) 0):Int)) (.side (inR .i64 ((↑(canon y).length:Int) - (2:Int))) (.side ((0:Int)≤(↑(canon y).length:Int) - (2:Int)∧(↑(canon y).length:Int) - (2:Int)<(↑(canon V).length:Int)) (.side (inR .u64 (↑(List.getD (padN (List.length (canon y)+1) V) (0+Int.toNat ((↑(canon y).length:Int) - (2:Int))) 0):Int)) (.ex (fun(x:D5)=>eqL [AV.int .u64 (↑(u.getD (0+Int.toNat ((-1:Int)+(↑(canon y).length:Int))) 0):Int),AV.int .u64 (↑(u.getD (0+Int.toNat ((-1:Int)+(↑(canon y).length:Int) - (1:Int))) 0):Int),AV.int .u64 (↑(u.getD (0+Int.toNat ((-1:Int)+(↑(canon y).length:Int) - (2:Int))) 0):Int),AV.int .u64 (↑(List.getD (padN (List.length (canon y)+1) V) (0+Int.toNat ((↑(canon y).length:Int) - (1:Int))) 0):Int),AV.int .u64 (↑(List.getD (padN (List.length (canon y)+1) V) (0+Int.toNat ((↑(canon y).length:Int) - (2:Int))) 0):Int)] [AV.int .u64 (↑(D5.t x):Int),AV.int .u64 (↑(D5.u x):Int),AV.int .u64 (↑(D5.v x):Int),AV.int .u64 (↑(D5.y x):Int),AV.int .u64 (↑(D5.z x):Int)]∧D5.t x≤D5.y x∧D5.u x<1000000000∧D5.v x<1000000000∧D5.y x<1000000000∧D5.z x<1000000000∧1000000000≤2*D5.y x) fun n=>.all (fun(n_1:Nat)=>n_1=qV (D5.v n) (D5.y n) (D5.z n) 2 ((D5.t n*1000000000+D5.u n)/D5.y n) ((D5.t n*1000000000+D5.u n)%D5.y n)) fun n=>.side (inR .u32 (↑n:Int)) (.ex (fun(u:List Nat)=>u.length=1∧1≤1∧1<4611686018427387904∧eqG 1 1 (zh 1 [AV.int .u32 n]) (natG .u32 u)∧dig (List.take 1 (List.drop 0 u))) fun n_1=>.all (fun(x:Nat)=>x=val (List.take 1 (List.drop 0 n_1))) fun n_2=>.ex (fun(x:Nat×Nat)=>eqL [AV.sl (canon V).length 1 (zg (natG .u32 (padN (List.length (canon y)+1) V)) 0),AV.sl (canon n_2).length 1 (zg (zh 1 [AV.int .u32 n]) 0)] [AV.sl (canon x.1).length 1 (natG .u32 (canon x.1)),AV.sl (canon x.2).length 1 (natG .u32 (canon x.2))]∧fits x.1∧fits x.2) fun n_3=>.all (fun(p:Nat)=>p=n_3.1*n_3.2) fun n_4=>.side (inR .i64 ((-1:Int)+(↑(canon y).length:Int))) (.side (inR .i64 ((-1:Int)+(↑(canon y).length:Int)+(1:Int))) (.side ((0:Int)≤(-1:Int)∧(-1:Int)≤(-1:Int)+(↑(canon y).length:Int)+(1:Int)∧(-1:Int)+(↑(canon y).length:Int)+(1:Int)≤u.length) (.ex (fun(u_1:List Nat)=>u_1.length=u.length∧0+(Int.toNat ((-1:Int)+(↑(canon y).length:Int)+(1:Int)) - 0)≤u.length∧Int.toNat ((-1:Int)+(↑(canon y).length:Int)+(1:Int)) - 0<4611686018427387904∧eqG u.length 1 (natG .u32 u) (natG .u32 u_1)∧dig (List.take (Int.toNat ((-1:Int)+(↑(canon y).length:Int)+(1:Int)) - 0) (List.drop 0 u_1))) fun n_5=>.all (fun(x:Nat)=>x=val (List.take (Int.toNat ((-1:Int)+(↑(canon y).length:Int)+(1:Int)) - 0) (List.drop 0 n_5))) fun n_6=>.ex (fun(x:Nat×Nat)=>eqL [AV.sl (canon n_6).length 1 (zg (natG .u32 u) 0),AV.sl (canon n_4).length 1 (zg (natG .u32 (padN (List.length (canon n_3.1)+List.length (canon n_3.2)) n_4)) 0)] [AV.sl (canon x.1).length 1 (natG .u32 (canon x.1)),AV.sl (canon x.2).length 1 (natG .u32 (canon x.2))]∧fits x.1∧fits x.2) fun n_7=>.all (fun(r:Int)=>r=cmp3 n_7.1 n_7.2) fun n_8=>.ite (decide (n_8<0)) (.side (inR .u64 ((↑n:Int) - (1:Int))) (.side (inR .u32 ((↑n:Int) - (1:Int))) (.ex (fun(u:List Nat)=>u.length=1∧1≤1∧1<4611686018427387904∧eqG 1 1 (zh 1 [AV.int .u32 ((↑n:Int) - (1:Int))]) (natG .u32 u)∧dig (List.take 1 (List.drop 0 u))) fun n_9=>.all (fun(x:Nat)=>x=val (List.take 1 (List.drop 0 n_9))) fun n_10=>.ex (fun(x:Nat×Nat)=>eqL [AV.sl (canon V).length 1 (zg (natG .u32 (padN (List.length (canon y)+1) V)) 0),AV.sl (canon n_10).length 1 (zg (zh 1 [AV.int .u32 ((↑n:Int) - (1:Int))]) 0)] [AV.sl (canon x.1).length 1 (natG .u32 (canon x.1)),AV.sl (canon x.2).length 1 (natG .u32 (canon x.2))]∧fits x.1∧fits x.2) fun n_11=>.all (fun(p:Nat)=>p=n_11.1*n_11.2) fun n_12=>.side (inR .i64 ((-1:Int)+(↑(canon y).length:Int))) (.side (inR .i64 ((-1:Int)+(↑(canon y).length:Int)+(1:Int))) (.side ((0:Int)≤(-1:Int)∧(-1:Int)≤(-1:Int)+(↑(canon y).length:Int)+(1:Int)∧(-1:Int)+(↑(canon y).length:Int)+(1:Int)≤u.length) (.ex (fun(u_1:List Nat)=>u_1.length=u.length∧0+(Int.toNat ((-1:Int)+(↑(canon y).length:Int)+(1:Int)) - 0)≤u.length∧Int.toNat ((-1:Int)+(↑(canon y).length:Int)+(1:Int)) - 0<4611686018427387904∧eqG u.length 1 (natG .u32 u) (natG .u32 u_1)∧dig (List.take (Int.toNat ((-1:Int)+(↑(canon y).length:Int)+(1:Int)) - 0) (List.drop 0 u_1))) fun n_13=>.all (fun(x:Nat)=>x=val (List.take (Int.toNat ((-1:Int)+(↑(canon y).length:Int)+(1:Int)) - 0) (List.drop 0 n_13))) fun n_14=>.ex (fun(x:Nat×Nat)=>eqL [AV.sl (canon n_14).length 1 (zg (natG .u32 u) 0),AV.sl (canon n_12).length 1 (zg (natG .u32 (padN (List.length (canon n_11.1)+List.length (canon n_11.2)) n_12)) 0)] [AV.sl (canon x.1).length 1 (natG .u32 (canon x.1)),AV.sl (canon x.2).length 1 (natG .u32 (canon x.2))]∧fits x.1∧x.2≤x.1) fun n_15=>.all (fun(d:Nat)=>d=n_15.1 - n_15.2) fun n_16=>.side (inR .i64 ((↑(canon y).length:Int)+(1:Int))) (.leaf (.loop (Prod.fst (lps (inside (inside K137 0) 0) 0)) (Prod.snd (lps (inside (inside K137 0) 0) 0)) [(0,.undef),(1,.undef),(4,.osl 4 1 0 q.length),(8,.int .u32 s),(9,.int .i64 (↑(canon y).length:Int)),(10,.osl 1 1 0 u.length),(11,.osl 3 1 0 (canon V).length),(12,.int .i64 (-1:Int)),(13,.int .u64 ((↑n:Int) - (1:Int))),(15,.sl (canon n_16).length 1 (natG .u32 (canon n_16))),(151,.int .i64 ((↑(canon y).length:Int)+(1:Int))),(152,.int .i64 0)] [.dead,.arr u.length 1 (natG .u32 u),.dead,.arr (List.length (canon y)+1) 1 (natG .u32 (padN (List.length (canon y)+1) V)),.arr q.length 1 (natG .u32 q),.arr 1 1 (zh 1 [.int .u32 n]),.arr (List.length (canon n_3.1)+List.length (canon n_3.2)) 1 (natG .u32 (padN (List.length (canon n_3.1)+List.length (canon n_3.2)) n_4)),.arr 1 1 (zh 1 [.int .u32 ((↑n:Int) - (1:Int))]),.arr (List.length (canon n_11.1)+List.length (canon n_11.2)) 1 (natG .u32 (padN (List.length (canon n_11.1)+List.length (canon n_11.2)) n_12))])))))))) (.side (inR .i64 ((-1:Int)+(↑(canon y).length:Int))) (.side (inR .i64 ((-1:Int)+(↑(canon y).length:Int)+(1:Int))) (.side ((0:Int)≤(-1:Int)∧(-1:Int)≤(-1:Int)+(↑(canon y).length:Int)+(1:Int)∧(-1:Int)+(↑(canon y).length:Int)+(1:Int)≤u.length) (.ex (fun(u_1:List Nat)=>u_1.length=u.length∧0+(Int.toNat ((-1:Int)+(↑(canon y).length:Int)+(1:Int)) - 0)≤u.length∧Int.toNat ((-1:Int)+(↑(canon y).length:Int)+(1:Int)) - 0<4611686018427387904∧eqG u.length 1 (natG .u32 u) (natG .u32 u_1)∧dig (List.take (Int.toNat ((-1:Int)+(↑(canon y).length:Int)+(1:Int)) - 0) (List.drop 0 u_1))) fun n_9=>.all (fun(x:Nat)=>x=val (List.take (Int.toNat ((-1:Int)+(↑(canon y).length:Int)+(1:Int)) - 0) (List.drop 0 n_9))) fun n_10=>.ex (fun(x:Nat×Nat)=>eqL [AV.sl (canon n_10).length 1 (zg (natG .u32 u) 0),AV.sl (canon n_4).length 1 (zg (natG .u32 (padN (List.length (canon n_3.1)+List.length (canon n_3.2)) n_4)) 0)] [AV.sl (canon x.1).length 1 (natG .u32 (canon x.1)),AV.sl (canon x.2).length 1 (natG .u32 (canon x.2))]∧fits x.1∧x.2≤x.1) fun n_11=>.all (fun(d:Nat)=>d=n_11.1 - n_11.2) fun n_12=>.side (inR .i64 ((↑(canon y).length:Int)+(1:Int))) (.leaf (.loop (Prod.fst (lps (inside (inside K137 0) 0) 0)) (Prod.snd (lps (inside (inside K137 0) 0) 0)) [(0,.undef),(1,.undef),(4,.osl 4 1 0 q.length),(8,.int .u32 s),(9,.int .i64 (↑(canon y).length:Int)),(10,.osl 1 1 0 u.length),(11,.osl 3 1 0 (canon V).length),(12,.int .i64 (-1:Int)),(13,.int .u64 n),(15,.sl (canon n_12).length 1 (natG .u32 (canon n_12))),(151,.int .i64 ((↑(canon y).length:Int)+(1:Int))),(152,.int .i64 0)] [.dead,.arr u.length 1 (natG .u32 u),.dead,.arr (List.length (canon y)+1) 1 (natG .u32 (padN (List.length (canon y)+1) V)),.arr q.length 1 (natG .u32 q),.arr 1 1 (zh 1 [.int .u32 n]),.arr (List.length (canon n_3.1)+List.length (canon n_3.2)) 1 (natG .u32 (padN (List.length (canon n_3.1)+List.length (canon n_3.2)) n_4))])))))))))))))))))))))))))))) (.ex (fun(u_1:List Nat)=>u_1.length=u.length∧0+u.length≤u.length∧u.length<4611686018427387904∧eqG u.length 1 (natG .u32 u) (natG .u32 u_1)∧dig (List.take u.length (List.drop 0 u_1))) fun n=>.all (fun(x:Nat)=>x=val (List.take u.length (List.drop 0 n))) fun n=>.ex (fun(x:Nat×Nat)=>eqL [AV.sl (canon n).length 1 (zg (natG .u32 u) 0),AV.int .u32 s] [AV.sl (canon x.1).length 1 (natG .u32 (canon x.1)),AV.int .u32 x.2]∧fits x.1∧0<x.2∧x.2<1000000000) fun n=>.all (fun(r:Nat×Nat)=>r=(n.1/n.2,n.1%n.2)) fun n=>.ex (fun(u:List Nat)=>u.length=q.length∧0+q.length≤q.length∧q.length<4611686018427387904∧eqG q.length 1 (natG .u32 q) (natG .u32 u)∧dig (List.take q.length (List.drop 0 u))) fun n_1=>.all (fun(x:Nat)=>x=val (List.take q.length (List.drop 0 n_1))) fun n_2=>.leaf (.ret [.osl 4 1 0 (canon n_2).length,.sl (canon n.1).length 1 (natG .u32 (canon n.1))] [.dead,.arr u.length 1 (natG .u32 u),.dead,.arr (List.length (canon y)+1) 1 (natG .u32 (padN (List.length (canon y)+1) V)),.arr q.length 1 (natG .u32 q)]))) (by kernel_rfl) ?_
      simp only [Tree.holds,zd,inR,lo,hi]
      refine⟨fun hj=>by simp at hj,fun hj=> ?_⟩
      simp only [List.drop_zero,Nat.pow_zero,Nat.mul_one] at heq hlt
      have hdiv:U/V=val q∧U%V=val u:=by
       rw [heq]
       exact⟨by rw [Nat.mul_add_div hV0,Nat.div_eq_of_lt hlt,Nat.add_zero],by rw [Nat.mul_add_mod,Nat.mod_eq_of_lt hlt]⟩
      have hqv:val q=x/y:=by rw [← hdiv.1,hqe.1]
      have huv:val u=x%y*s:=by rw [← hdiv.2,hqe.2]
      refine⟨u,⟨rfl,by omega,by omega,zb _ _ _,by simpa using hdu⟩,⟨_,rfl⟩,?_⟩
      intro X hX
      have hX:X=x%y*s:=by simpa [huv] using hX
      have hw:val ((u.drop 0).take u.length)=X:=by simp [huv,hX]
      have hXl:=j9 (k:=.u32) (u:=u) (off:=0) (n:=u.length) (by simpa using hdu) hw
      have hmy:=Nat.mod_lt x hy0
      have hXlen:(canon X).length≤u.length:=by
       refine z6 ?_
       rw [hX,← huv]; exact qn hdu
      refine⟨(X,s),⟨?_,by simp only [fits]; omega,hs0,hsB⟩,⟨_,rfl⟩,?_⟩
      ·simp only [eqL,eqA,eqA0,true_and,and_true]
       exact hXl
      rintro r rfl
      have hXs:X/s=x%y:=by rw [hX]; exact Nat.mul_div_cancel _ hs0
      simp only [hXs]
      refine⟨q,⟨rfl,by omega,by omega,zb _ _ _,by simpa using hdq⟩,⟨_,rfl⟩,?_⟩
      intro Y hY
      have hY:Y=x/y:=by simpa [hqv] using hY
      subst hY
      refine RetR.out0 hq (fun h=>by cases h) ?_
      have hw2:val ((q.drop 0).take q.length)=x/y:=by simp [hqv]
      simp only [resV,exp2,List.map_cons,List.map_nil,exp1,exp0,ren0,z5,frz1,jx,List.getElem?_cons_zero,List.getElem?_cons_succ,if_true,eqA2,eqL1,eqA,eqA0,magS,natS,true_and,and_true]
      exact⟨j9 (by simpa using hdq) hw2,zb _ _ _⟩
     ·exact WH hm hx hs0 hsB hV1 hV2 hVl hV0 hul hql hjq hdu hdq heq hlt
end Go.Proofs.Tryz
end
