/- Part 5 of the proof. -/
import Derived.Test.YtkagkpfmmpboaaaSxa
import Derived.Test.YtkagkpfmmpboaaaSxd
import Derived.Control
import Derived.Test.YtkagkpfmmpboaaaProg
import Derived.Lib.Strings
import Derived.Lib.Slices
import Derived.Lib.Walk
import Derived.Lib.Bytealg
set_option linter.unusedVariables false
set_option linter.unusedSimpArgs false
set_option linter.unusedSectionVars false
section
namespace Go.Nov
theorem top2{l:List Nat}{m:Nat}(h:dig l)(hl:l.length=m+2):∃ r,r<B^m∧val l=r+B^m*(l.getD m 0+B*l.getD (m+1) 0):=by
 refine⟨val (l.take m),?_,?_⟩
 ·have:=qc (qX h m)
  rwa [List.length_take,Nat.min_eq_left (by omega)] at this
 ·have h1:=zt l m
  have h2:=zt l (m+1)
  rw [List.take_of_length_le (by omega),h1,Nat.pow_succ] at h2
  rw [h2,Nat.mul_add,Nat.mul_assoc,Nat.add_assoc]
theorem top3{l:List Nat}{m:Nat}(h:dig l)(hl:l.length=m+3):∃ r,r<B^m∧val l=r+B^m*(l.getD m 0+B*(l.getD (m+1) 0+B*l.getD (m+2) 0)):=by
 refine⟨val (l.take m),?_,?_⟩
 ·have:=qc (qX h m)
  rwa [List.length_take,Nat.min_eq_left (by omega)] at this
 ·have h1:=zt l m
  have h2:=zt l (m+1)
  have h3:=zt l (m+2)
  rw [List.take_of_length_le (by omega),h2,h1,Nat.pow_succ,Nat.pow_succ] at h3
  rw [h3,Nat.pow_succ]
  simp only [Nat.mul_add,Nat.mul_assoc,Nat.add_assoc]
theorem horner(b t u v:Nat):v+b*(u+b*t)=(t*b+u)*b+v:=by grind
theorem Y4(p b y:Nat):2*(p*(y*b))=p*b*(2*y):=by grind
theorem VC{r S x V:Nat}(hr:r<S)(h:V=r+S*x):x*S≤V∧V<(x+1)*S:=by
 rw [h,Nat.succ_mul,Nat.mul_comm x S]; omega
theorem k7(u:List Nat)(j k i:Nat)(hi:i<k):((u.drop j).take k).getD i 0=u.getD (j+i) 0:=by
 simp [List.getElem?_take,hi,List.getElem?_drop]
theorem Zg(u:List Nat)(j k:Nat)(h:j+k≤u.length):val u=val (u.take j)+B^j*(val ((u.drop j).take k)+B^k*val (u.drop (j+k))):=by
 have h1:u=u.take j++((u.drop j).take k++u.drop (j+k)):=by
  rw [← List.drop_drop,List.take_append_drop,List.take_append_drop]
 conv=>lhs; rw [h1]
 rw [zI,zI,List.length_take,Nat.min_eq_left (by omega),List.length_take,List.length_drop,Nat.min_eq_left (by omega)]
theorem z1{x n:Nat}(h:x<B^n):(canon x).length≤n:=by
 rcases Nat.lt_or_ge n (canon x).length with h1 | h1
 ·exfalso
  have h2:=zZ (x:=B^n - 1) (y:=x) ?_
  ·omega
  ·have h3:=qc (zk (B^n - 1))
   have:¬ n<(canon (B^n - 1)).length:=by
    intro hlt
    have hne:canon (B^n - 1)≠[]:=by intro h0; rw [h0] at hlt; simp at hlt
    have hl:=qN (B^n - 1)
    have htop:=qo (canon (B^n - 1)) (by omega)
    rw [hl] at htop
    have h4:=zt (canon (B^n - 1)) ((canon (B^n - 1)).length - 1)
    rw [Nat.sub_add_cancel (by omega),List.take_length,zm] at h4
    have h5:B^n≤B^((canon (B^n - 1)).length - 1):=Nat.pow_le_pow_right (by decide) (by omega)
    have h6:B^((canon (B^n - 1)).length - 1)*1≤B^((canon (B^n - 1)).length - 1)*(canon (B^n - 1)).getD ((canon (B^n - 1)).length - 1) 0:=Nat.mul_le_mul_left _ (by omega)
    have h7:0<B^n:=Nat.pow_pos (by decide)
    omega
   omega
 ·exact h1
theorem jc{x n:Nat}(h:B^n≤x):n<(canon x).length:=by
 have:=qc (zk x)
 rw [zm] at this
 rcases Nat.lt_or_ge n (canon x).length with h1 | h1
 ·exact h1
 ·have:B^(canon x).length≤B^n:=Nat.pow_le_pow_right (by decide) h1
  omega
theorem Xz{t s:Nat}(ht:0<t)(hs:s=B/(t+1))(htB:t<B):0<s∧s*(t+1)≤B∧B≤2*(t*s):=by
 have h1:s*(t+1)≤B:=hs▸Nat.div_mul_le_self _ _
 have h2:B<(s+1)*(t+1):=by
  have:=Nat.lt_mul_div_succ B (show 0<t+1 by omega)
  rw [← hs,Nat.mul_comm] at this; exact this
 have h3:0<s:=by rw [hs]; exact Nat.div_pos (by omega) (by omega)
 refine⟨h3,h1,?_⟩
 obtain⟨a,rfl⟩:∃ a,t=a+1:=⟨t - 1,by omega⟩
 obtain⟨b,rfl⟩:∃ b,s=b+1:=⟨s - 1,by omega⟩
 have e:(a+1)*(b+1)=a*b+a+b+1:=by simp only [Nat.add_mul,Nat.mul_add]; omega
 have e2:(b+1+1)*(a+1+1)=a*b+2*a+2*b+4:=by simp only [Nat.add_mul,Nat.mul_add,Nat.mul_comm b a]; omega
 rw [e2] at h2
 rw [e]
 have hB:B=1000000000:=rfl
 generalize a*b=p at *
 omega
theorem scaled{y n s t r:Nat}(hr:r<B^n)(hy:y=r+B^n*t)(hs:0<s)(h1:s*(t+1)≤B)(h2:B≤2*(t*s)) :
  y*s<B^(n+1)∧B^(n+1)≤2*(y*s):=by
 have h3:y<B^n*(t+1):=by rw [Nat.mul_add]; omega
 constructor
 ·calc y*s<B^n*(t+1)*s:=Nat.mul_lt_mul_of_pos_right h3 hs
   _=B^n*(s*(t+1)):=by rw [Nat.mul_assoc,Nat.mul_comm (t+1)]
   _≤B^n*B:=Nat.mul_le_mul_left _ h1
   _=B^(n+1):=(Nat.pow_succ ..).symm
 ·calc B^(n+1)=B^n*B:=Nat.pow_succ ..
   _≤B^n*(2*(t*s)):=Nat.mul_le_mul_left _ h2
   _=2*(B^n*t*s):=by rw [Nat.mul_left_comm,Nat.mul_assoc]
   _≤2*(y*s):=Nat.mul_le_mul_left _ (Nat.mul_le_mul_right _ (by omega))
theorem Xy{u:List Nat}{j m V W d:Nat}(hd:dig u)(hj:j+(m+2)+1≤u.length)(hVl:(canon V).length=m+2)(hV2:B^(m+2)≤2*V)(hlt:val u<V*B^(j+1))
  (hW:val ((u.drop j).take (m+2+1))=W) (hdd:qH (u.getD (j+m) 0) ((canon V).getD (m+1) 0) ((canon V).getD m 0) 2 ((u.getD (j+(m+2)) 0*B+u.getD (j+(m+1)) 0)/(canon V).getD (m+1) 0) ((u.getD (j+(m+2)) 0*B+u.getD (j+(m+1)) 0)%(canon V).getD (m+1) 0)=d) :
  W<V*B∧B≤2*(canon V).getD (m+1) 0∧u.getD (j+(m+2)) 0≤(canon V).getD (m+1) 0∧W/V≤d∧d≤W/V+1∧d<B:=by
 have hB:B=1000000000:=rfl
 have hVB:=qc (zk V)
 rw [zm,hVl] at hVB
 have hP:0<B^m:=Nat.pow_pos (by decide)
 have hWV:W<V*B:=by
  have h1:=Zg u j (m+2+1) (by omega)
  have h2:B^j*W≤val u:=by rw [h1,Nat.mul_add,hW]; exact Nat.le_trans (Nat.le_add_right _ _) (Nat.le_add_left _ _)
  have h3:B^j*W<B^j*(V*B):=by
   calc B^j*W≤val u:=h2
    _<V*B^(j+1):=hlt
    _=B^j*(V*B):=by rw [Nat.pow_succ,Nat.mul_left_comm]
  exact Nat.lt_of_mul_lt_mul_left h3
 obtain⟨rv,hrv,hv⟩:=top2 (zk V) hVl
 rw [zm] at hv
 have hwl:((u.drop j).take (m+2+1)).length=m+3:=by simp; omega
 obtain⟨rw',hrw,hw⟩:=top3 (qX (uB hd j) (m+2+1)) hwl
 rw [k7 _ _ _ _ (by omega),k7 _ _ _ _ (by omega),k7 _ _ _ _ (by omega)] at hw
 have hyB:=zM (zk V) (m+1)
 have hzB:=zM (zk V) m
 have hvB:=zM hd (j+m)
 have huB:=zM hd (j+(m+1))
 rw [hW] at hw
 generalize hyy:(canon V).getD (m+1) 0=y at *
 generalize hzz:(canon V).getD m 0=z at *
 generalize u.getD (j+(m+2)) 0=t at *
 generalize u.getD (j+(m+1)) 0=uu at *
 generalize u.getD (j+m) 0=vv at *
 have ev:z+B*y=y*B+z:=by rw [Nat.mul_comm y B,Nat.add_comm]
 have ew:vv+B*(uu+B*t)=(t*B+uu)*B+vv:=horner B t uu vv
 rw [ev] at hv; rw [ew] at hw
 have hy2:B≤2*y:=by
  rcases Nat.lt_or_ge (2*y) B with h1 | h1
  ·exfalso
   have h2:V<B^m*(y*B+z+1):=by rw [Nat.mul_add]; omega
   have h3:B^m*(y*B+z+1)≤B^m*((y+1)*B):=Nat.mul_le_mul_left _ (by rw [Nat.add_mul]; omega)
   have h4:2*(B^m*((y+1)*B))=B^(m+1)*(2*(y+1)):=by
    rw [Nat.pow_succ]; exact Y4 _ _ _
   have h5:B^(m+1)*(2*(y+1))≤B^(m+1)*B:=Nat.mul_le_mul_left _ (by omega)
   have h6:B^(m+2)=B^(m+1)*B:=Nat.pow_succ ..
   omega
  ·exact h1
 obtain⟨a1,a2⟩:=VC hrv hv
 obtain⟨b1,b2⟩:=VC hrw hw
 obtain⟨g1,g2,g3,g4⟩:=Jo (W:=W) (V:=V) (S:=B^m) (t:=t) (u:=uu) (v:=vv) (y:=y) (z:=z) hP a1 a2 b1 b2 hWV hzB hvB hy2 hyB (by omega)
 rw [hdd] at g1 g2 g3
 refine⟨hWV,hy2,?_,g1,g2,g3⟩
 rcases Nat.lt_or_ge y t with h1 | h1
 ·exfalso
  have h2:(y+1)*B≤t*B:=Nat.mul_le_mul_right _ h1
  rw [Nat.add_mul] at h2
  omega
 ·exact h1
theorem step_eq{u u' q:List Nat}{j k V U0:Nat}(hd:dig u)(hj:j+k≤u.length)(hV:V<B^(k - 1))(hk:1≤k)(hV0:0<V)(hlt:val u<V*B^(j+1))(hq:j<q.length)(heq:U0=V*B^(j+1)*val (q.drop (j+1))+val u)
  (hu':val u'=val (u.take j)+B^j*(val ((u.drop j).take k)%V+B^k*val (u.drop (j+k)))) :
  val u'<V*B^j∧U0=V*B^j*val ((q.set j (val ((u.drop j).take k)/V)).drop j)+val u':=by
 have h1:=Zg u j k hj
 have h0:=qc (qX hd j)
 rw [List.length_take,Nat.min_eq_left (by omega)] at h0
 have hP:0<B^j:=Nat.pow_pos (by decide)
 generalize val ((u.drop j).take k)=W at *
 generalize val (u.take j)=r at *
 have hH:val (u.drop (j+k))=0:=by
  rcases Nat.eq_zero_or_pos (val (u.drop (j+k))) with h | h
  ·exact h
  ·exfalso
   have h2:B^k*1≤B^k*val (u.drop (j+k)):=Nat.mul_le_mul_left _ h
   have h3:B^j*B^k≤val u:=by
    rw [h1]
    refine Nat.le_trans (Nat.mul_le_mul_left _ (m:=W+B^k*val (u.drop (j+k))) (by omega)) (Nat.le_add_left _ _)
   have h4:V*B^(j+1)<B^(k - 1)*B^(j+1):=Nat.mul_lt_mul_of_pos_right hV (Nat.pow_pos (by decide))
   have h5:B^(k - 1)*B^(j+1)=B^j*B^k:=by rw [← Nat.pow_add,← Nat.pow_add]; congr 1; omega
   omega
 rw [hH] at h1 hu'
 simp only [Nat.mul_zero,Nat.add_zero] at h1 hu'
 have hm:=Nat.mod_lt W hV0
 have hdm:=Nat.div_add_mod W V
 constructor
 ·rw [hu']
  have:B^j*(W%V+1)≤B^j*V:=Nat.mul_le_mul_left _ hm
  rw [Nat.mul_add] at this
  rw [Nat.mul_comm V]; omega
 ·have hset:(q.set j (W/V)).drop j=(W/V)::q.drop (j+1):=by
   rw [List.drop_eq_getElem_cons (by simpa using hq)]
   simp [List.drop_set_of_lt]
  rw [hset,heq,hu',h1]
  simp only [val]
  generalize W/V=d at *
  generalize W%V=e at *
  rw [← hdm,Nat.pow_succ]
  simp only [Nat.mul_add,← Nat.mul_assoc]
  have e1:V*B^j*B*val (List.drop (j+1) q)=V*B^j*B*val (List.drop (j+1) q):=rfl
  have e2:B^j*V*d=V*B^j*d:=by rw [Nat.mul_comm (B^j) V]
  omega
def mixL(u c:List Nat)(j i:Nat):List Nat:=(List.range u.length).map fun p=>if j≤p∧p<j+i then c.getD (p - j) 0 else u.getD p 0
theorem Jg(u c:List Nat)(j i:Nat):(mixL u c j i).length=u.length:=by simp [mixL]
theorem VD(u c:List Nat)(j:Nat):mixL u c j 0=u:=by
 apply List.ext_getElem (by simp [mixL])
 intro p h1 h2
 simp only [mixL,List.getElem_map,List.getElem_range]
 rw [if_neg (by omega)]; simp [h2]
theorem Js(u c:List Nat)(j i:Nat)(x:Nat):((mixL u c j i).set (j+i) x).set (j+i) (c.getD i 0)=mixL u c j (i+1):=by
 rw [List.set_set]
 apply List.ext_getElem (by simp [mixL])
 intro p h1 h2
 simp only [List.getElem_set,mixL,List.getElem_map,List.getElem_range]
 by_cases hp:j+i=p
 ·subst hp; rw [if_pos rfl,if_pos ⟨by omega,by omega⟩]; congr 1; omega
 ·rw [if_neg hp]
  by_cases hc:j≤p∧p<j+i
  ·rw [if_pos hc,if_pos ⟨hc.1,by omega⟩]
  ·rw [if_neg hc,if_neg (by omega)]
theorem Y1{u c:List Nat}(hu:dig u)(hc:dig c)(j i:Nat):dig (mixL u c j i):=by
 intro d hd
 simp only [mixL,List.mem_map] at hd
 obtain⟨p,_,rfl⟩:=hd
 split
 ·exact zM hc _
 ·exact zM hu _
theorem X4{u:List Nat}{L j k:Nat}(hj:j+k≤u.length)(hL:(canon L).length≤k):val (mixL u (canon L) j k)=val (u.take j)+B^j*(L+B^k*val (u.drop (j+k))):=by
 have h:mixL u (canon L) j k=u.take j++(padN k L++u.drop (j+k)):=by
  apply List.ext_getElem (by simp [mixL,padN]; omega)
  intro p h1 h2
  simp only [mixL,List.getElem_map,List.getElem_range]
  rw [Jg] at h1
  by_cases ha:p<j
  ·rw [if_neg (by omega),List.getElem_append_left (by simp; omega)]; simp [h1]
  ·have hjl:(u.take j).length=j:=by simp; omega
   rw [List.getElem_append_right (by omega)]
   simp only [hjl]
   have hpl:(padN k L).length=k:=by simp [padN]; omega
   by_cases hb:p - j<k
   ·rw [if_pos (by omega),List.getElem_append_left (by omega)]
    simp only [padN]
    by_cases hc:p - j<(canon L).length
    ·rw [List.getElem_append_left hc]; simp [hc]
    ·rw [List.getElem_append_right (by omega)]; simp [List.getElem?_eq_none (Nat.le_of_not_lt hc)]
   ·rw [if_neg (by omega),List.getElem_append_right (by omega)]
    simp only [hpl,List.getElem_drop]
    have:j+k+(p - j - k)=p:=by omega
    simp [this,h1]
 rw [h,zI,zI,List.length_take,Nat.min_eq_left (by omega)]
 have hpl:(padN k L).length=k:=by simp [padN]; omega
 have hpv:val (padN k L)=L:=by rw [padN,zI,zm,qY]; simp
 rw [hpl,hpv]
def isD(c:UInt8):Bool:=48≤c.toNat&&c.toNat≤57
def allD(l:List UInt8):Prop:=∀ c∈l,48≤c.toNat∧c.toNat≤57
def numD(l:List UInt8):Nat:=l.foldl (fun a c=>a*10+(c.toNat - 48)) 0
theorem zbb(l:List UInt8)(a:Nat):l.foldl (fun a c=>a*10+(c.toNat - 48)) a=a*10^l.length+numD l:=by
 induction l generalizing a with
 | nil=>simp [numD]
 | cons c l ih=>
  simp only [List.foldl_cons,numD,List.length_cons]
  rw [ih,ih (0*10+(c.toNat - 48)),Nat.pow_succ]
  generalize 10^l.length=p
  generalize numD l=q
  generalize c.toNat - 48=d
  rw [Nat.add_mul,Nat.zero_mul,Nat.zero_add,Nat.mul_assoc,Nat.mul_comm 10 p]
  omega
theorem yk(l m:List UInt8):numD (l++m)=numD l*10^m.length+numD m:=by
 rw [numD,List.foldl_append,zbb]; rfl
theorem Ki(l:List UInt8)(c:UInt8):numD (l++[c])=numD l*10+(c.toNat - 48):=by
 simp [numD]
theorem y6{l:List UInt8}(h:allD l):numD l<10^l.length:=by
 induction l with
 | nil=>simp [numD]
 | cons c l ih=>
  have hc:=h c (by simp)
  have hl:=ih fun d hd=>h d (by simp [hd])
  have:numD (c::l)=(c.toNat - 48)*10^l.length+numD l:=by
   rw [show c::l=[c]++l from rfl,yk]; simp [numD]
  rw [this,List.length_cons,Nat.pow_succ]
  have h2:(c.toNat - 48)*10^l.length≤9*10^l.length:=Nat.mul_le_mul_right _ (by omega)
  omega
theorem JJ(l:List UInt8)(i:Nat)(h:i<l.length):l.take (i+1)=l.take i++[l.getD i 0]:=by
 rw [List.take_succ_eq_append_getElem h]; simp [List.getD,h]
def decB(x:ByteArray):Nat:=numD x.data.toList
theorem YM{x:ByteArray}(h:allD x.data.toList)(hl:x.size≤9):decB x<B:=by
 have h1:=y6 h
 have h2:x.data.toList.length=x.size:=by rw [Array.length_toList]; rfl
 have h3:10^x.data.toList.length≤10^9:=Nat.pow_le_pow_right (by decide) (by omega)
 have h4:(10:Nat)^9=B:=by decide
 unfold decB
 omega
end Go.Nov
end
section
namespace Go.Nov.Ten
abbrev B:Nat:=10
def val:List Nat→Nat
 | []=>0
 | d::l=>d+B*val l
def dig(l:List Nat):Prop:=∀ d∈l,d<B
def kp:Nat→Nat→List Nat
 | 0,_=>[]
 | n+1,x=>if x=0 then [] else x%B::kp n (x/B)
def canon(x:Nat):List Nat:=kp x x
theorem Zt:∀ (n m x:Nat),x≤n→x≤m→kp n x=kp m x
 | 0,m,x,h,_=>by
  have:x=0:=by omega
  subst this
  cases m<;>simp [kp]
 | n+1,0,x,_,h=>by
  have:x=0:=by omega
  subst this
  simp [kp]
 | n+1,m+1,x,h1,h2=>by
  simp only [kp]
  by_cases h:x=0
  ·rw [if_pos h,if_pos h]
  ·have:=Nat.div_lt_self (Nat.pos_of_ne_zero h) (show 1<B by decide)
   rw [if_neg h,if_neg h,Zt n m (x/B) (by omega) (by omega)]
theorem zP:canon 0=[]:=rfl
theorem jh{x:Nat}(h:x≠0):canon x=x%B::canon (x/B):=by
 have:=Nat.div_lt_self (Nat.pos_of_ne_zero h) (show 1<B by decide)
 obtain⟨n,rfl⟩:∃ n,x=n+1:=⟨x - 1,by omega⟩
 unfold canon
 rw [kp,if_neg h,Zt n ((n+1)/B) _ (by omega) (Nat.le_refl _)]
theorem zm(x:Nat):val (canon x)=x:=by
 induction x using Nat.strongRecOn with
 | _ x ih=>
  by_cases h:x=0
  ·subst h; simp [zP,val]
  ·rw [jh h,val,ih _ (Nat.div_lt_self (Nat.pos_of_ne_zero h) (by decide))]
   exact Nat.mod_add_div x B
theorem zk(x:Nat):dig (canon x):=by
 induction x using Nat.strongRecOn with
 | _ x ih=>
  by_cases h:x=0
  ·subst h; simp [zP,dig]
  ·rw [jh h]
   intro d hd
   rcases List.mem_cons.1 hd with rfl | hd
   ·exact Nat.mod_lt _ (by decide)
   ·exact ih _ (Nat.div_lt_self (Nat.pos_of_ne_zero h) (by decide)) d hd
theorem qt{d:Nat}{l:List Nat} : dig (d::l)↔d<B∧dig l:=by simp [dig]
theorem j7{l m:List Nat} : dig (l++m)↔dig l∧dig m:=by
 simp only [dig,List.mem_append]
 exact⟨fun h=>⟨fun d hd=>h d (.inl hd),fun d hd=>h d (.inr hd)⟩,fun h d hd=>hd.elim (h.1 d) (h.2 d)⟩
theorem zI(l m:List Nat):val (l++m)=val l+B^l.length*val m:=by
 induction l with
 | nil=>simp [val]
 | cons d l ih=>simp only [List.cons_append,val,ih,List.length_cons,Nat.pow_succ]; rw [Nat.mul_add,← Nat.mul_assoc,Nat.mul_comm B (B^l.length),Nat.add_assoc]
theorem qc{l:List Nat}(h:dig l):val l<B^l.length:=by
 induction l with
 | nil=>simp [val]
 | cons d l ih=>
  obtain⟨h1,h2⟩:=qt.1 h
  have:=ih h2
  simp only [val,List.length_cons,Nat.pow_succ]
  have h3:B*(val l+1)≤B*B^l.length:=Nat.mul_le_mul_left _ this
  rw [Nat.mul_add] at h3
  rw [Nat.mul_comm (B^l.length)]
  omega
def tlen:List Nat→Nat
 | []=>0
 | d::l=>if d=0∧tlen l=0 then 0 else tlen l+1
def qU(l:List Nat):List Nat:=l.take (tlen l)
theorem qm:∀ l:List Nat,tlen l≤l.length
 | []=>Nat.le_refl _
 | d::l=>by
  have:=qm l
  simp only [tlen,List.length_cons]
  split<;>omega
theorem jB:∀ (l:List Nat) (j:Nat),tlen l≤j→l.getD j 0=0
 | [],j,_=>by simp
 | d::l,j,h=>by
  simp only [tlen] at h
  split at h
  ·rename_i hd
   cases j with
   | zero=>simp [hd.1]
   | succ j=>simpa using jB l j (by omega)
  ·cases j with
   | zero=>omega
   | succ j=>simpa using jB l j (by omega)
theorem qo:∀ l:List Nat,0<tlen l→l.getD (tlen l - 1) 0≠0
 | [],h=>by simp [tlen] at h
 | d::l,h=>by
  simp only [tlen] at h ⊢
  split at h
  ·omega
  ·rename_i hd
   rw [if_neg hd]
   rcases Nat.eq_zero_or_pos (tlen l) with h0 | h0
   ·rw [h0]
    simp only [h0,and_true] at hd
    simpa using hd
   ·have:=qo l h0
    rw [show tlen l+1 - 1=(tlen l - 1)+1 by omega]
    simpa using this
theorem val_zero{l:List Nat}(h:tlen l=0):val l=0:=by
 induction l with
 | nil=>rfl
 | cons d l ih=>
  simp only [tlen] at h
  split at h
  ·rename_i hd; simp [val,hd.1,ih hd.2]
  ·omega
theorem uG{l:List Nat}(h:0<tlen l):0<val l:=by
 induction l with
 | nil=>simp [tlen] at h
 | cons d l ih=>
  simp only [tlen] at h
  split at h
  ·omega
  ·rename_i hd
   simp only [val]
   rcases Nat.eq_zero_or_pos (tlen l) with h0 | h0
   ·simp only [h0,and_true] at hd; omega
   ·have:=ih h0
    have:0<B*val l:=Nat.mul_pos (by decide) this
    omega
theorem qb{l:List Nat}(h:dig l):qU l=canon (val l):=by
 induction l with
 | nil=>simp [qU,tlen,val,zP]
 | cons d l ih=>
  obtain⟨h1,h2⟩:=qt.1 h
  have ih:=ih h2
  simp only [qU] at ih ⊢
  by_cases hz:d=0∧tlen l=0
  ·have:=val_zero hz.2
   simp [tlen,hz,val,this,zP]
  ·have hne:d+B*val l≠0:=by
    rcases Nat.eq_zero_or_pos (tlen l) with h0 | h0
    ·simp only [h0,and_true] at hz; omega
    ·have:=Nat.mul_pos (show 0<B by decide) (uG h0)
     omega
   simp only [val,tlen,if_neg hz,List.take_succ_cons]
   rw [jh hne,ih]
   have e1:(d+B*val l)%B=d:=by rw [Nat.add_mul_mod_self_left,Nat.mod_eq_of_lt h1]
   have e2:(d+B*val l)/B=val l:=by rw [Nat.add_mul_div_left _ _ (by decide),Nat.div_eq_of_lt h1,Nat.zero_add]
   rw [e1,e2]
theorem qN(x:Nat):tlen (canon x)=(canon x).length:=by
 have:=qb (zk x)
 rw [zm] at this
 have h:=congrArg List.length this
 simp only [qU,List.length_take] at h
 have:=qm (canon x)
 omega
theorem u2:∀ {l m:List Nat},dig l→dig m→l.length=m.length→val l=val m→l=m
 | [],[],_,_,_,_=>rfl
 | [],_::_,_,_,h,_=>by simp at h
 | _::_,[],_,_,h,_=>by simp at h
 | d::l,e::m,h1,h2,h3,h4=>by
  obtain⟨a1,a2⟩:=qt.1 h1
  obtain⟨b1,b2⟩:=qt.1 h2
  simp only [val] at h4
  have e1:d=e:=by
   have:=congrArg (· % B) h4
   simpa only [Nat.add_mul_mod_self_left,Nat.mod_eq_of_lt a1,Nat.mod_eq_of_lt b1] using this
  subst e1
  have e2:val l=val m:=Nat.eq_of_mul_eq_mul_left (show 0<B by decide) (by omega)
  rw [u2 a2 b2 (by simpa using h3) e2]
theorem yb{i:Nat} : ∀ {l m:List Nat},dig l→l.length=m.length→(∀ j,i<j→l.getD j 0=m.getD j 0)→l.getD i 0<m.getD i 0→val l<val m:=by
 induction i with
 | zero=>
  intro l m h1 h3 h4 h5
  cases l with
  | nil=>cases m with
   | nil=>simp at h5
   | cons _ _=>simp at h3
  | cons d l=>cases m with
   | nil=>simp at h3
   | cons e m=>
    simp only [List.getD_cons_zero] at h5
    have:l=m:=by
     apply List.ext_getElem (by simpa using h3)
     intro j hj hj'
     have:=h4 (j+1) (by omega)
     simpa [hj,hj'] using this
    subst this
    simp only [val]; omega
 | succ i ih=>
  intro l m h1 h3 h4 h5
  cases l with
  | nil=>cases m with
   | nil=>simp at h5
   | cons _ _=>simp at h3
  | cons d l=>cases m with
   | nil=>simp at h3
   | cons e m=>
    simp only [List.getD_cons_succ] at h5
    obtain⟨a1,a2⟩:=qt.1 h1
    have:=ih a2 (by simpa using h3) (fun j hj=>by simpa using h4 (j+1) (by omega)) h5
    simp only [val]
    have h6:B*(val l+1)≤B*val m:=Nat.mul_le_mul_left _ this
    rw [Nat.mul_add] at h6
    omega
theorem zZ{x y:Nat}(h:(canon x).length<(canon y).length):x<y:=by
 have h1:=qc (zk x)
 rw [zm] at h1
 have h2:B^((canon y).length - 1)≤y:=by
  have hl:=qN y
  have hpos:0<tlen (canon y):=by omega
  have:=qo (canon y) hpos
  rw [hl] at this
  generalize hc:canon y=l at *
  have hy:val l=y:=by rw [← hc,zm]
  have hsplit:l=l.take (l.length - 1)++[l.getD (l.length - 1) 0]:=by
   have hlt:l.length - 1<l.length:=by omega
   rw [show l.getD (l.length - 1) 0=l[l.length - 1] by simp [List.getD,hlt]]
   have:=List.take_append_getElem hlt
   rw [this,show l.length - 1+1=l.length by omega,List.take_length]
  rw [← hy]
  conv=>rhs; rw [hsplit]
  rw [zI]
  simp only [val,List.length_take,Nat.mul_zero,Nat.add_zero]
  rw [show min (l.length - 1) l.length=l.length - 1 by omega]
  have:B^(l.length - 1)*1≤B^(l.length - 1)*l.getD (l.length - 1) 0:=Nat.mul_le_mul_left _ (Nat.pos_of_ne_zero this)
  omega
 have h3:B^(canon x).length≤B^((canon y).length - 1):=Nat.pow_le_pow_right (by decide) (by omega)
 omega
theorem zt:∀ (l:List Nat) (i:Nat),val (l.take (i+1))=val (l.take i)+B^i*l.getD i 0
 | [],i=>by simp [val]
 | d::l,0=>by simp [val]
 | d::l,i+1=>by
  have:=zt l i
  simp only [List.take_succ_cons,val,this,List.getD_cons_succ,Nat.pow_succ]
  rw [Nat.mul_add,Nat.add_assoc,← Nat.mul_assoc,Nat.mul_comm B (B^i)]
theorem zM{l:List Nat}(h:dig l)(i:Nat):l.getD i 0<B:=by
 by_cases hi:i<l.length
 ·have:=h l[i] (List.getElem_mem hi)
  simpa [List.getD,hi] using this
 ·simp [List.getD,List.getElem?_eq_none (Nat.le_of_not_lt hi)]
theorem xA:∀ (l:List Nat) (p d:Nat),p<l.length→val (l.set p d)+B^p*l.getD p 0=val l+B^p*d
 | [],p,d,h=>by simp at h
 | e::l,0,d,_=>by simp only [List.set_cons_zero,val,List.getD_cons_zero,Nat.pow_zero]; omega
 | e::l,p+1,d,h=>by
  have:=xA l p d (by simpa using h)
  have h2:=congrArg (B * ·) this
  simp only [Nat.mul_add,← Nat.mul_assoc] at h2
  simp only [List.set_cons_succ,val,List.getD_cons_succ,Nat.pow_succ,Nat.mul_comm (B^p) B]
  omega
theorem yz{l:List Nat}(h:dig l)(p:Nat){d:Nat}(hd:d<B):dig (l.set p d):=by
 intro e he
 rcases List.mem_or_eq_of_mem_set he with he | rfl
 ·exact h e he
 ·exact hd
theorem qX{l:List Nat}(h:dig l)(n:Nat):dig (l.take n):=fun e he=>h e (List.mem_of_mem_take he)
theorem uB{l:List Nat}(h:dig l)(n:Nat):dig (l.drop n):=fun e he=>h e (List.mem_of_mem_drop he)
theorem uS{l:List Nat}{n:Nat}(hv:val l<B^n){p:Nat}(hp:n≤p):l.getD p 0=0:=by
 rcases Nat.eq_zero_or_pos (l.getD p 0) with h | h
 ·exact h
 exfalso
 have h1:=zt l p
 have h2:val l=val (l.take (p+1))+B^(l.take (p+1)).length*val (l.drop (p+1)):=by rw [← zI,List.take_append_drop]
 have h3:B^p*1≤B^p*l.getD p 0:=Nat.mul_le_mul_left _ h
 have h4:B^n≤B^p:=Nat.pow_le_pow_right (by decide) hp
 omega
def padN(n x:Nat):List Nat:=canon x++List.replicate (n - (canon x).length) 0
theorem qY(n:Nat):val (List.replicate n 0)=0:=by
 induction n with
 | zero=>rfl
 | succ n ih=>simp [List.replicate_succ,val,ih]
theorem q9(n:Nat):dig (List.replicate n 0):=by
 intro d hd
 rw [List.mem_replicate] at hd
 rw [hd.2]; decide
theorem JR{l:List Nat}(h:dig l):l=padN l.length (val l):=by
 have ht:=qb h
 have hl:=congrArg List.length ht
 have:=qm l
 simp only [qU,List.length_take] at hl
 refine u2 h (j7.2 ⟨zk _,q9 _⟩) ?_ ?_
 ·simp only [padN,List.length_append,List.length_replicate]; omega
 ·rw [padN,zI,zm,qY]; omega
theorem Jv{l:List Nat}(h:dig l):tlen l=(canon (val l)).length:=by
 have hl:=congrArg List.length (qb h)
 have:=qm l
 simp only [qU,List.length_take] at hl
 omega
end Go.Nov.Ten
end
section
namespace Go.Nov
theorem xj(s:ByteArray)(a b:Nat):(s.extract a b).data.toList=(s.data.toList.take b).drop a:=by
 rw [ByteArray.data_extract,Array.toList_extract]
 show List.extract s.data.toList a b=_
 rw [List.extract_eq_drop_take',List.drop_take]
theorem u0{α:Type}{l m:List α}{p:Nat}{z:α}(h:p<l.length):(l++m).getD p z=l.getD p z:=by
 simp only [List.getD]; rw [List.getElem?_append_left h]
theorem yC{α:Type}{l m:List α}{p:Nat}{z:α}(h:l.length≤p):(l++m).getD p z=m.getD (p - l.length) z:=by
 simp only [List.getD]; rw [List.getElem?_append_right h]
theorem Kf{α β:Type}{f:α→β}{l:List α}{p:Nat}{z:α}{y:β}(h:p<l.length):(l.map f).getD p y=f (l.getD p z):=by
 simp [List.getD,h]
theorem XZ{α:Type}{n p:Nat}{a z:α}(h:p<n):(List.replicate n a).getD p z=a:=by
 simp [List.getD,h]
theorem KZ{α:Type}{l:List α}{p:Nat}{z:α}(h:l.length≤p):l.getD p z=z:=by
 simp [List.getD,List.getElem?_eq_none h]
theorem YX{α:Type}{l:List α}{n p:Nat}{z:α}(h:p<n):(l.take n).getD p z=l.getD p z:=by
 simp only [List.getD,List.getElem?_take,if_pos h]
def decs:Nat→Nat→List Nat
 | 0,_=>[]
 | k+1,x=>x%10::decs k (x/10)
theorem x4:∀ k x,(decs k x).length=k
 | 0,_=>rfl
 | k+1,x=>by simp [decs,x4 k]
theorem QP:∀ k x,Ten.dig (decs k x)
 | 0,_=>by simp [decs,Ten.dig]
 | k+1,x=>Ten.qt.2 ⟨Nat.mod_lt _ (by decide),QP k _⟩
theorem QN:∀ k x,x<10^k→Ten.val (decs k x)=x
 | 0,x,h=>by simp [decs,Ten.val] at h ⊢; omega
 | k+1,x,h=>by
  simp only [decs,Ten.val]
  rw [QN k (x/10) (Nat.div_lt_of_lt_mul (by rw [Nat.pow_succ,Nat.mul_comm] at h; exact h))]
  exact Nat.mod_add_div x 10
theorem yo:∀ (a b v w:Nat),v<10^a→decs (a+b) (v+10^a*w)=decs a v++decs b w
 | 0,b,v,w,h=>by simp at h; subst h; simp [decs]
 | a+1,b,v,w,h=>by
  rw [show a+1+b=(a+b)+1 by omega]
  simp only [decs,List.cons_append]
  have e1:10^(a+1)*w=10*(10^a*w):=by rw [Nat.pow_succ,Nat.mul_comm (10^a) 10,Nat.mul_assoc]
  have h2:v/10<10^a:=Nat.div_lt_of_lt_mul (by rw [Nat.pow_succ,Nat.mul_comm] at h; exact h)
  rw [e1,Nat.add_mul_mod_self_left,Nat.add_mul_div_left _ _ (by decide),yo a b (v/10) w h2]
theorem Zs:∀ (k x:Nat),decs (k+1) x=decs k x++[x/10^k%10]
 | 0,x=>by simp [decs]
 | k+1,x=>by
  rw [decs,Zs k (x/10),decs,List.cons_append]
  congr 3
  rw [Nat.div_div_eq_div_mul,Nat.pow_succ,Nat.mul_comm]
theorem Y0{k x:Nat}(h:x<10^k):decs k x=Ten.padN k x:=by
 have:=Ten.JR (QP k x)
 rwa [x4,QN k x h] at this
def dec(x:Nat):List Nat:=Ten.canon x
def byt(d:Nat):UInt8:=UInt8.ofNat (48+d)
theorem JL{k x:Nat}(h:x<10^k):(dec x).length≤k:=by
 rcases Nat.lt_or_ge k (dec x).length with h1 | h1
 ·exfalso
  have hl:=Ten.qN x
  have htop:=Ten.qo (Ten.canon x) (by simp only [dec] at h1; omega)
  rw [hl] at htop
  have h4:=Ten.zt (Ten.canon x) ((Ten.canon x).length - 1)
  simp only [dec] at h1
  rw [Nat.sub_add_cancel (by omega),List.take_length,Ten.zm] at h4
  have h5:10^k≤10^((Ten.canon x).length - 1):=Nat.pow_le_pow_right (by decide) (by omega)
  have h6:10^((Ten.canon x).length - 1)*1≤10^((Ten.canon x).length - 1)*(Ten.canon x).getD ((Ten.canon x).length - 1) 0:=Nat.mul_le_mul_left _ (by omega)
  have h7:x=Ten.val ((Ten.canon x).take ((Ten.canon x).length - 1))+10^((Ten.canon x).length - 1)*(Ten.canon x).getD ((Ten.canon x).length - 1) 0:=h4
  omega
 ·exact h1
theorem Uk{x:Nat}(h:0<(dec x).length):(dec x).getD ((dec x).length - 1) 0≠0:=by
 have hl:=Ten.qN x
 have htop:=Ten.qo (Ten.canon x) (by simp only [dec] at h; omega)
 rwa [hl] at htop
theorem YY{x:Nat}(h:x≠0):0<(dec x).length:=by
 simp only [dec]; rw [Ten.jh h]; simp
def txt(x:Nat):List UInt8:=if x=0 then [48] else((dec x).map byt).reverse
def parse:List UInt8→Bool×List UInt8
 | []=>(false,[])
 | c::b=>if c=45 then(true,b) else(false,c::b)
def sgn(neg:Bool)(b:List UInt8):List UInt8:=if neg then 45::b else b
theorem K3(s:List UInt8):sgn (parse s).1 (parse s).2=s:=by
 cases s with
 | nil=>rfl
 | cons c b=>
  simp only [parse]
  split
  ·rename_i h; subst h; rfl
  ·rfl
def wc(neg:Bool)(b:List UInt8):Bool:= !(decide (b=[])) && !(neg&&decide (b=[48])) && !(decide (b.getD 0 0=48)&&decide (1<b.length))&&b.all isD
def errI(s:List UInt8):Int:=if wc (parse s).1 (parse s).2 then(if 1000<(parse s).2.length then 14 else 0) else 12
theorem Ul{b:List UInt8} : b.all isD=true↔allD b:=by
 simp only [List.all_eq_true,allD,isD,Bool.and_eq_true,decide_eq_true_eq]
theorem Qt{neg:Bool}{b:List UInt8}(h:wc neg b=true):allD b∧b≠[]:=by
 simp only [wc,Bool.and_eq_true,Bool.not_eq_true',decide_eq_false_iff_not] at h
 exact⟨Ul.1 h.2,h.1.1.1⟩
theorem yD{neg:Bool}{b:List UInt8}(h:b.getD 0 0=48)(hl:1<b.length):wc neg b=false:=by
 have e:(decide (b.getD 0 0=48)&&decide (1<b.length))=true:=by rw [h]; simp [hl]
 unfold wc
 rw [e]
 simp
theorem Vd{c d:UInt8}(h:(c.toNat:Int)=(d.toNat:Int)):c=d:=UInt8.toNat_inj.1 (by omega)
theorem YK{s:List UInt8}(h:errI s=0):∃ neg b,s=sgn neg b∧parse s=(neg,b)∧wc neg b=true∧allD b∧b≠[]∧b.length≤1000:=by
 unfold errI at h
 split at h
 ·rename_i hf
  split at h
  ·cases h
  ·rename_i hl
   obtain⟨h1,h2⟩:=Qt hf
   exact⟨_,_,(K3 s).symm,rfl,hf,h1,h2,by omega⟩
 ·cases h
theorem v8(s:List UInt8):errI s=0∨errI s=12∨errI s=14:=by
 unfold errI
 split
 ·split<;>simp
 ·simp
def negI(s:List UInt8):Bool:=(parse s).1
def numI(s:List UInt8):Nat:=numD (parse s).2
theorem Jd{s:List UInt8}(h:errI s=0):s=sgn (negI s) (parse s).2∧allD (parse s).2∧(parse s).2≠[]∧(parse s).2.length≤1000:=by
 obtain⟨neg,b,h1,h2,h3,h4,h5,h6⟩:=YK h
 simp only [negI,h2]
 exact⟨h1,h4,h5,h6⟩
theorem W9{a b c k:Nat}(h:k=b*c):(a^b)^c=a^k:=by rw [h,Nat.pow_mul]
theorem uy{s:List UInt8}(h:errI s=0):(canon (numI s)).length≤112:=by
 obtain⟨_,h1,_,h2⟩:=Jd h
 refine z1 ?_
 have h3:=y6 h1
 obtain⟨k,hk⟩:∃ k,k=9*112:=⟨_,rfl⟩
 have h4:10^(parse s).2.length≤10^k:=Nat.pow_le_pow_right (by decide) (by omega)
 have h5:B^112=10^k:=by rw [show B=10^9 by decide]; exact W9 hk
 rw [h5]
 exact Nat.lt_of_lt_of_le h3 h4
def j3(s t:List UInt8):Int:=if errI s=0 then errI t else errI s
theorem uN{s t:List UInt8} : j3 s t=0↔errI s=0∧errI t=0:=by
 unfold j3
 split
 ·rename_i h; simp [h]
 ·rename_i h; simp [h]
def wr(neg:Bool)(x:Nat):List UInt8×Int:=if x=0 then([48],0) else if 1000<(dec x).length then([],14) else(sgn neg (txt x),0)
def gcdR(s t:List UInt8):List UInt8×Int:=if j3 s t=0 then wr false (Nat.gcd (numI s) (numI t)) else([],j3 s t)
def dg(b:List UInt8):List Nat:=(b.map fun c=>c.toNat - 48).reverse
def qE(s:List UInt8):Nat:=s.findIdx (· == 47)
def cutR(s:List UInt8):List UInt8×List UInt8×Bool:=if qE s<s.length then(s.take (qE s),s.drop (qE s+1),true) else(s,[],false)
def errR(s:List UInt8):Int:=
 if(cutR s).2.2 then
  if errI (cutR s).1=12∨errI (cutR s).2.1=12∨negI (cutR s).2.1=true∨(cutR s).2.1=[48]∨(cutR s).2.1=[49] then 12
  else if errI (cutR s).1≠0∨errI (cutR s).2.1≠0 then 14
  else if(gcdR (cutR s).1 (cutR s).2.1).1≠[49] then 12 else 0
 else errI s
theorem za6{s:List UInt8}(h:¬ qE s<s.length):cutR s=(s,[],false):=if_neg h
theorem Y8{s:List UInt8}(h:qE s<s.length):cutR s=(s.take (qE s),s.drop (qE s+1),true):=if_pos h
theorem YQ(s:List UInt8):(cutR s).1.length≤s.length∧(cutR s).2.1.length≤s.length:=by
 unfold cutR
 split<;>simp<;>omega
theorem Ke{s:List UInt8}(h:s≠[]):negI s=decide (s.getD 0 0=45):=by
 cases s with
 | nil=>exact absurd rfl h
 | cons c b=>
  simp only [negI,parse]
  split
  ·rename_i hc; subst hc; rfl
  ·rename_i hc; simp [hc]
theorem Yj:errI []=12:=rfl
def isL(c:UInt8):Bool:=(97≤c.toNat&&c.toNat≤122)||(65≤c.toNat&&c.toNat≤90)
def isN(c:UInt8):Bool:=isL c||isD c||c == 95||c == 45
def zN(s:List UInt8):Bool:=decide (0<s.length)&&decide (s.length≤40)&&isL (s.getD 0 0)&&s.all isN
theorem Yv{p:UInt8→Bool}{s:List UInt8}(h:∀ j,j<s.length→p (s.getD j 0)=true):s.all p=true:=by
 rw [List.all_eq_true]
 intro c hc
 obtain⟨j,hj,rfl⟩:=List.getElem_of_mem hc
 have:=h j hj
 simpa [List.getD,hj] using this
theorem Qz{p:UInt8→Bool}{s:List UInt8}{j:Nat}(hj:j<s.length)(h:p (s.getD j 0)=false):s.all p=false:=by
 rw [List.all_eq_false]
 refine⟨s.getD j 0,by simp [List.getD,hj],by simpa using h⟩
def dayB(d:Int):Bool:=decide (0≤d)&&decide (d≤99999)
end Go.Nov
end
section
namespace Go.Sx
variable [Stat]
open Go.RowKit (Below)
def alive:Blk→Prop
 | .box _=>True
 | .arr n _ _=>0<n
 | .dead=>False
 | .arrI _ n _=>0<n
 | .arrS n _=>0<n
 | .map _ _ _ _ _=>False
theorem QG{h:Heap}(hl:∀ b∈h,alive b):∀ b∈h,Ql b=false:=by
 intro b hb
 have:=hl b hb
 cases b<;>first | rfl | exact this.elim
section
variable {O:Nat→Prop} {pin:Nat} {w0:World} {σ0:List SE} {w:World} {σ:List SE} {P:Program} {a:Act} {fn:Func}
theorem ua{h:Heap}{own:Nat→Prop}(hp:HRep own w σ h)(hl:∀ b∈h,alive b){b:Nat}(hb:Mine σ b):∃ cs el fr,w.heap[b]?=some (Obj.cells cs el fr):=by
 obtain⟨i,e,ad,h1,h2,h3⟩:=zu.1 hb
 have hi:i<h.length:=by rw [← hp.len]; exact(List.getElem?_eq_some_iff.1 h1).1
 have hbr:=hp.blk i e _ h1 (List.getElem?_eq_getElem hi)
 have ha:=hl _ (List.getElem_mem hi)
 generalize h[i]=bl at hbr ha
 subst h3
 cases bl with
 | dead=>exact ha.elim
 | box cells=>
  obtain⟨ad',vs,el,g1,_,g3,_⟩:=hbr
  rw [h2] at g1; cases g1
  exact⟨_,_,_,g3⟩
 | arr n sz g=>
  obtain⟨_,g⟩:=hbr
  rcases g with g | ⟨ad',cs,el,g1,g2,_⟩
  ·simp only [alive] at ha; omega
  ·rw [h2] at g1; cases g1
   exact⟨_,_,_,g2⟩
 | arrI _ n _=>
  obtain⟨_,g⟩:=hbr
  rcases g with g | ⟨ad',cs,el,g1,g2,_⟩
  ·simp only [alive] at ha; omega
  ·rw [h2] at g1; cases g1
   exact⟨_,_,_,g2⟩
 | arrS n _=>
  obtain⟨_,g⟩:=hbr
  rcases g with g | ⟨ad',cs,el,g1,g2,_⟩
  ·simp only [alive] at ha; omega
  ·rw [h2] at g1; cases g1
   exact⟨_,_,_,g2⟩
 | map _ _ _ _ _=>exact ha.elim
theorem Wa{c:Code}{Q:Exit→Act→World→Prop}(n m:Nat)(h:c.wpIn (FM none) n P Q a w):c.wpIn (FM none) m P Q a w:=by
 simp only [FM] at h ⊢
 exact wpIn_wide.2 (wpIn_wide.1 h)
def XT(c:Code)(tg tp td:Nat):Bool:=match c with
 | .rangeFunc (.tmp g) ps (.region _ ops false) _=>decide (g=tg)&&decide (ps.toList=[tp])&&match ops.toList with
  | [o]=>decide (o.dst=some td)&&o.guard.isNone&&match o.op with
   | .assign (.tmp t)=>decide (t=tp)
   | _=>false
  | _=>false
 | _=>false
theorem WA{c:Code}{tg tp td:Nat}(h:XT c tg tp td=true):∃ id o,c = .rangeFunc (.tmp tg) #[tp] (.region id #[o] false) (ZV c)∧o.dst=some td∧o.guard=none∧o.op = .assign (.tmp tp):=by
 unfold XT at h
 split at h
 ·rename_i g ps id ops body
  simp only [Bool.and_eq_true,decide_eq_true_eq] at h
  obtain⟨⟨rfl,h2⟩,h3⟩:=h
  split at h3
  ·rename_i o ho
   simp only [Bool.and_eq_true,decide_eq_true_eq,Option.isNone_iff_eq_none] at h3
   obtain⟨⟨h4,h5⟩,h6⟩:=h3
   split at h6
   ·rename_i t ht
    simp only [decide_eq_true_eq] at h6
    subst h6
    refine⟨id,o,?_,h4,h5,ht⟩
    have e1:ps = #[t]:=by rw [← Array.toList_inj]; exact h2
    have e2:ops = #[o]:=by rw [← Array.toList_inj]; exact ho
    rw [e1,e2]; rfl
   ·cases h6
  ·cases h3
 ·cases h
theorem W4{M:Option Nat}{td tp id:Nat}{o:Oper}(hd:o.dst=some td)(hgd:o.guard=none)(hop:o.op = .assign (.tmp tp)){K:Act→World→Prop}{Qe:Exit→Act→World→Prop}(h:K { a with tmps:=a.tmps.setIfInBounds td (a.tmps.getD tp undef) } w) :
  (Code.region id #[o] false).wpIn (FM M) 0 P (Exit.then K Qe) a w:=by
 refine wpIn_region_list ?_
 simp only [Array.toList]
 refine wpListIn_step fun K' hK'=> ?_
 rw [if_pos (by simp [Region.wanted,hgd])]
 refine uT (by simp [hop]) ?_
 unfold Oper.wp
 have:(execOp a.eval o).run P w = .ok (.value (a.eval (.tmp tp))) w:=by
  simp [execOp,hop]
 rw [this]
 have e:a.put o.dst (a.eval (.tmp tp))={ a with tmps:=a.tmps.setIfInBounds td (a.tmps.getD tp undef) } :=by rw [hd]; rfl
 show K' (a.put o.dst (a.eval (.tmp tp))) w
 rw [e]
 exact hK' _ _ h
theorem w4.le{pin pinR:Nat}{w':World}{σ':List SE}(h:w4 pinR w σ w' σ')(hp:pin≤pinR):w4 pin w σ w' σ':=fun i e hi he=>h i e (Nat.lt_of_lt_of_le hi hp) he
theorem w4.hold{pinR:Nat}{w':World}{σ':List SE}(h:w4 pinR w σ w' σ'):Hold (List.range' pinR σ.length) w σ w' σ':=by
 intro i e he hi
 have hlt:=(List.getElem?_eq_some_iff.1 he).1
 refine h i e ?_ he
 rcases Nat.lt_or_ge i pinR with h1 | h1
 ·exact h1
 ·exact absurd (List.mem_range'_1.2 ⟨h1,by omega⟩) hi
theorem zc.range{α:Type}{Hs:Nat→KV→Heap→Prop}{R:List AV→Heap→Prop}{k:List Item}{c:Code}{kv:KV}{h:Heap}{tg tp td gf:Nat}{cap:List AV}(hc:XT c tg tp td=true)
  (he:∀ args w,(callFunc gf args).run P w = .ok (.enter gf args) w) (av:α→AV) (H Hx:List α→Heap) (X S Sp:List α→Prop) (N pinR:Nat)
  (hg:look kv tg = .fn gf [] cap) (htg:tg<fn.ntmps) (htp:tp<fn.ntmps) (hno:∀ x t b y,av x≠.opt t b y) (hle:LeK pin fn.ntmps kv h kv (H [])) (hlow:(pk fn.ntmps kv).all (lowB pinR)=true) (hpin:pin≤pinR) (halive:∀ pre,∀ b∈H pre,alive b) (halivex:∀ pre,∀ b∈Hx pre,alive b)
  (iter:∀ w σ a,Mod O pin w0 σ0 w σ (mk fn.ntmps kv (H [])) a→∀ vb,RepL (Own O σ) w cap σ vb→∃ (Keep:World→Prop) (ev:α→Value),SeqStopsK Fence.wide 0 P gf vb.toArray (fun x=> #[ev x]) (fun W W'=>Keep W→Keep W') S Sp N w ∧
   (∀ pre W σ',Mod O pin w0 σ0 W σ' (mk fn.ntmps kv (H pre)) a→Keep W∧∀ x,Rep (Own O σ') W (av x) σ' (ev x)) ∧
   (∀ W l o o',w.heap.size≤l→W.heap[l]?=some o→o.isCells=false→Keep W→Keep (W.putObj l o')))
  (round:∀ l pre x,pre.length<N→∀ (W:World) (σ1:List SE),zE (some l) P (bare fn) O pinR W σ1 (fun d kv' h'=>LeK pinR fn.ntmps [] h' [] (H (pre++[x]))) (fun _ h'=>X (pre++[x])∧LeK pinR fn.ntmps [] h' [] (Hx (pre++[x]))) [.code (ZV c),.inLoop] (mk fn.ntmps ((td,av x)::(tp,av x)::kv) (H pre)))
  (done:∀ xs,S xs→zc P fn O pin w0 σ0 Hs R k (mk fn.ntmps kv (H xs)))
  (stop:∀ pre,Sp pre→X pre→(resX P (mk fn.ntmps kv (Hx pre)) fn.results.toList).holds fun rs=>R rs (Hx pre)) :
  zc P fn O pin w0 σ0 Hs R (.code c::k) (mk fn.ntmps kv h):=by
 obtain⟨id,o,hco,hod,hog,hop⟩:=WA hc
 generalize ZV c=body at *
 subst hco
 clear hc
 intro w σ a hm0
 have hm:=hle.le.mod hm0
 clear hm0
 generalize σ.take (mk fn.ntmps kv (H [])).heap.length=σ at hm
 simp only [wpK]
 have hgt:=hm.tm tg
 have hev:(mk fn.ntmps kv (H [])).tmps.getD tg .undef = .fn gf [] cap:=by simp only [mk]; rw [wJ htg]; exact hg
 rw [hev] at hgt
 simp only [TRep,Rep] at hgt
 obtain⟨va,vb,hval,hva,hvb⟩:=hgt
 have hva:va=[]:=by simpa [RepL] using hva
 subst hva
 obtain⟨Keep,ev,hseq,hkeep,hstab⟩:=iter w σ a hm vb hvb
 have hB:∀ d∈a.defers,∃ D,d={ target:=.collected D,args:= #[] } ∧ D<w.heap.size:=by
  intro d hd
  obtain⟨D,h1,_,_,h4⟩:=hm.df.2 d hd
  exact⟨D,h1,(Array.getElem?_eq_some_iff.1 h4).1⟩
 have hOB:∀ b,O b→b<w.heap.size:=hm.good.old
 have hmarks:∀ (W:World) (σ':List SE),Mod O pin w0 σ0 W σ' (mk fn.ntmps kv (H [])) a∨True:=fun _ _=>.inr trivial
 have turnI:∀ (Hh:List α→Heap),(∀ pre,∀ b∈Hh pre,alive b)→OwnFrom w.heap.size (fun pre W=>∃ σ',Mod O pin w0 σ0 W σ' (mk fn.ntmps kv (Hh pre)) a):=by
  intro Hh hal pre W W' row hI hgr hr
  obtain⟨σ',hM⟩:=hI
  refine⟨σ',?_⟩
  have:=hM.turn hgr (ds:=a.defers) (fun r e=>⟨Nat.le_trans hm.since.ext.size (hr r e).1,(hr r e).2⟩) (.inl (QG (hal pre))) (hM.df.turn hgr fun r e hmem=>by
   obtain⟨D,h1,h2⟩:=hB _ hmem
   have:=(hr r e).1
   simp only [Deferred.mk.injEq,Target.collected.injEq,and_true] at h1
   omega)
  exact this
 have push:∀ (D:Nat) (Hh:Heap) (W:World) (σ':List SE),(∀ b∈Hh,alive b)→w.heap.size≤D→W.heap[D]?=some (.deferred (some []))→Mod O pin w0 σ0 W σ' (mk fn.ntmps kv Hh) a→Mod O pin w0 σ0 W σ' (mk fn.ntmps kv Hh) { a with defers:={ target:=.collected D,args:= #[] } :: a.defers } :=by
  intro D Hh W σ' hal hD hWD hM
  refine⟨hM.good,hM.hp,hM.size,hM.tm,⟨List.nodup_cons.2 ⟨fun hmem=> ?_,hM.df.1⟩,fun d hd=> ?_⟩,hM.since,hM.lim⟩
  ·obtain⟨D',h1,h2⟩:=hB _ hmem
   simp only [Deferred.mk.injEq,Target.collected.injEq,and_true] at h1
   omega
  ·rcases List.mem_cons.1 hd with rfl | hd
   ·refine⟨D,rfl,Nat.le_trans hm.since.ext.size hD,?_,hWD⟩
    rintro(hO | hM')
    ·have:=hOB D hO; omega
    ·obtain⟨cs,el,fr,hcs⟩:=ua hM.hp hal hM'
     rw [hWD] at hcs; cases hcs
   ·exact hM.df.2 d hd
 refine Wa 1 0 ?_
 refine wpIn_rangeFunc_ownG (F:=Fence.wide) rfl (Nat.le_refl 1) (gf:=gf) (lb:=vb.toArray) (by simp only [Act.eval]; exact hval) trivial he (encs:=fun x=> #[ev x]) (Kp:=fun W W'=>Keep W→Keep W') (S:=S) (Sp:=Sp) (N:=N) (w0:=w) hseq
  (fun h1 h2 h3=>h2 (h1 h3)) (fun W l o o' h1 h2 h3 _ h4=>hstab W l o o' h1 h2 h3 h4) (Below.refl _ _) (fun _=>rfl)
  (fun pre W=>∃ σ',Mod O pin w0 σ0 W σ' (mk fn.ntmps kv (H pre)) a) (fun c pre W=>c = .ret∧X pre∧∃ σ',Mod O pin w0 σ0 W σ' (mk fn.ntmps kv (Hx pre)) a)
  (turnI H halive) (fun c pre W W' row hI hgr hr=>⟨hI.1,hI.2.1,turnI Hx halivex pre W W' row hI.2.2 hgr hr⟩) ⟨σ,hm⟩
  (fun x=>{ tmps:=(a.tmps.setIfInBounds tp (ev x)).setIfInBounds td ((a.tmps.setIfInBounds tp (ev x)).getD tp undef),defers:=[] }) ?_ ?_ ?_ ?_
 ·
  intro l x W K hK
  refine W4 (M:=some l) hod hog hop ?_
  simpa using hK
 ·
  rintro l pre x W ⟨σ1,hM⟩ hlen
  have hsz:a.tmps.size=fn.ntmps:=by rw [hM.size]; simp [mk,pk]
  have hM2:Mod O pinR W σ1 W σ1 (mk fn.ntmps ((td,av x)::(tp,av x)::kv) (H pre)) { tmps:=(a.tmps.setIfInBounds tp (ev x)).setIfInBounds td ((a.tmps.setIfInBounds tp (ev x)).getD tp undef),defers:=[] } :=by
   have hx:=(hkeep pre W σ1 hM).2 x
   have hxT:∀ T,TRep (Own O σ1) W σ1 T (av x) (ev x):=by
    intro T
    have:=hno x
    generalize av x=y at hx this
    cases y with
    | opt t b z=>exact absurd rfl (this t b z)
    | _=>simpa only [TRep] using hx
   refine⟨hM.good,hM.hp,by simp [mk,pk,hsz],fun t=> ?_,Marks.nil _ _ _,Stp.refl _ _ _ _,hM.good.stat⟩
   by_cases ht:t<fn.ntmps
   ·simp only [mk]
    rw [wJ ht]
    have htp':(a.tmps.setIfInBounds tp (ev x)).getD tp undef=ev x:=by simp [hsz,htp]
    rw [htp']
    by_cases h1:td=t
    ·subst h1
     simp only [look,if_true]
     have:((a.tmps.setIfInBounds tp (ev x)).setIfInBounds td (ev x)).getD td undef=ev x:=by simp [hsz,ht]
     rw [this]; exact hxT _
    ·have e1:((a.tmps.setIfInBounds tp (ev x)).setIfInBounds td (ev x)).getD t undef=(a.tmps.setIfInBounds tp (ev x)).getD t undef:=by
      simp only [Array.getD_eq_getD_getElem?]
      rw [Array.getElem?_setIfInBounds_ne h1]
     rw [e1]
     by_cases h2:tp=t
     ·subst h2
      simp only [look,if_neg h1,if_true]
      rw [htp']; exact hxT _
     ·simp only [look,if_neg h1,if_neg h2]
      have e2:(a.tmps.setIfInBounds tp (ev x)).getD t undef=a.tmps.getD t undef:=by
       simp only [Array.getD_eq_getD_getElem?]
       rw [Array.getElem?_setIfInBounds_ne h2]
      rw [e2]
      have:=hM.tm t
      simp only [mk] at this
      rw [wJ ht] at this
      have hl:lowB pinR (look kv t)=true:=List.all_eq_true.1 hlow (look kv t) (by simp only [pk,List.mem_map,List.mem_range]; exact⟨t,ht,rfl⟩)
      generalize look kv t=y at this hl
      cases y with
      | opt u b z=>exact absurd rfl (kS hl u b z)
      | _=>simpa only [TRep] using this
   ·have:(mk fn.ntmps ((td,av x)::(tp,av x)::kv) (H pre)).tmps.getD t .undef = .undef:=by simp [mk,pk,List.getD,ht]
    rw [this]; simp [TRep,Rep]
  have hr:=round l pre x hlen W σ1 W σ1 _ hM2
  simp only [wpK] at hr
  have fin:∀ (Hh:Heap) (st':St) (W':World) (τ:List SE) (a':Act),LeK pinR fn.ntmps [] st'.heap [] Hh→Mod O pinR W σ1 W' τ st' a'→KeepsFrom w.heap.size W W'∧∃ σ',Mod O pin w0 σ0 W' σ' (mk fn.ntmps kv Hh) a:=by
   intro Hh st' W' τ a' hL hM'
   have h1:Mod O pinR W σ1 W' τ (mk fn.ntmps [] st'.heap) { tmps:=Array.replicate fn.ntmps undef,defers:=[] } :=by
    refine⟨hM'.good,hM'.hp,by simp [mk,pk],fun t=> ?_,Marks.nil _ _ _,hM'.since,hM'.lim⟩
    have:(mk fn.ntmps [] st'.heap).tmps.getD t .undef = .undef:=by
     simp only [mk,pk,List.getD,List.getElem?_map]
     cases (List.range fn.ntmps)[t]?<;>simp [look]
    rw [this]; simp [TRep,Rep]
   have h2:=hL.le.mod h1
   generalize τ.take (mk fn.ntmps [] Hh).heap.length=τ' at h2
   have hx:=h2.since.ext
   refine⟨⟨hx.size,fun b o hb ho hoc=> ?_⟩,τ',?_⟩
   ·have hlt:=(Array.getElem?_eq_some_iff.1 ho).1
    rw [← ho]
    by_cases hO:O b
    ·exact h2.since.wZ b hO hlt
    ·refine hx.keep b hlt ?_
     rintro(h3 | h3)
     ·exact hO h3
     ·obtain⟨cs,el,fr,hcs⟩:=ua hM.hp (halive pre) h3
      rw [ho] at hcs; cases hcs; simp [Obj.isCells] at hoc
   ·refine⟨h2.good,h2.hp,hM.size,fun t=> ?_,hM.df.ext hx,hM.since.trans ⟨hx,h2.since.wZ,h2.since.hold.le hpin⟩,hM.lim⟩
    have ht:=hM.tm t
    by_cases htn:t<fn.ntmps
    ·simp only [mk] at ht ⊢
     rw [wJ htn] at ht ⊢
     have hl:lowB pinR (look kv t)=true:=List.all_eq_true.1 hlow (look kv t) (by simp only [pk,List.mem_map,List.mem_range]; exact⟨t,htn,rfl⟩)
     generalize look kv t=y at ht hl
     cases y with
     | opt u b z=>exact absurd rfl (kS hl u b z)
     | _=>simp only [TRep] at ht ⊢; exact qa hx h2.since.hold.hold _ _ (uM hl) ht
    ·have:(mk fn.ntmps kv Hh).tmps.getD t .undef = .undef:=by simp [mk,pk,List.getD,htn]
     rw [this]; simp [TRep,Rep]
  refine wpIn_mono hr fun e a' W' h=> ?_
  cases e with
  | normal=>
   simp only [wpK] at h
   obtain⟨st,τ,⟨kv',h',hL,rfl⟩,hM'⟩:=h
   obtain⟨h1,σ',h2⟩:=fin _ (mk fn.ntmps kv' h') _ _ _ hL hM'
   exact⟨h1,fun _=>(hkeep _ _ _ h2).1,σ',h2⟩
  | ret=>
   simp only [wpK] at h
   rcases h with ⟨_,st,τ,⟨hX,hL⟩,hM'⟩ | ⟨_,_,h,_⟩
   rotate_left
   ·exact h.elim
   obtain⟨h1,σ',h2⟩:=fin _ st _ _ _ hL hM'
   exact⟨h1,rfl,hX,σ',h2⟩
  | exit i=>simp only [wpK] at h; exact absurd h (by simp)
  | goto t=>simp only [wpK] at h; exact absurd h (by simp)
  | panic ch=>simp only [wpK] at h; exact absurd h (by simp)
  | outgrown=>simp only [wpK] at h; exact absurd h (by simp)
 ·
  rintro D xs W hD hS ⟨σ1,hM⟩ hWD
  exact done xs hS W σ1 _ (push D _ W σ1 (halive xs) hD hWD hM)
 ·rintro D c pre W hD hSp ⟨rfl,hX,σ1,hM⟩ hWD
  refine wpIn_ret (xu (.inl ⟨.inl rfl,mk fn.ntmps kv (Hx pre),σ1,stop pre hSp hX,push D _ W σ1 (halivex pre) hD hWD hM⟩))
def Z8(kv:KV)(t:Nat)(a:AV):KV:=kv.map fun p=>if p.1=t then(t,a) else p
theorem KG{kv:KV}{t:Nat}{a:AV} : ∀ u,look (Z8 kv t a) u=if u=t then(if(kv.any fun p=>p.1 == t) then a else .undef) else look kv u:=by
 intro u
 induction kv with
 | nil=>simp [Z8,look]
 | cons p l ih=>
  obtain⟨i,x⟩:=p
  simp only [Z8,List.map_cons,List.any_cons] at ih ⊢
  by_cases hit:i=t
  ·subst hit
   simp only [if_true,look,beq_self_eq_true,Bool.true_or]
   by_cases hu:i=u
   ·subst hu; simp
   ·rw [if_neg hu,if_neg (fun h=>hu h.symm),ih,if_neg (fun h=>hu h.symm),if_neg hu]
  ·have hb:(i == t)=false:=by simpa using hit
   simp only [if_neg hit,look,hb,Bool.false_or]
   by_cases hu:i=u
   ·subst hu; simp [hit]
   ·rw [if_neg hu,ih,if_neg hu]
theorem zc.bear{Xp:List PanicEntry→Prop}{M:Option Nat}{Hs:Nat→KV→Heap→Prop}{R:List AV→Heap→Prop}{k:List Item}{kv:KV}{h:Heap}(t sz:Nat)(g:Nat→Nat→AV)(hnil:look kv t = .nils)(ht:t<fn.ntmps)(hno:(pk fn.ntmps kv).all zB=true)
  (H:z7 Xp M P fn O pin w0 σ0 Hs R k (mk fn.ntmps (Z8 kv t (.osl h.length sz 0 0)) (h++[.arr 0 sz g]))):z7 Xp M P fn O pin w0 σ0 Hs R k (mk fn.ntmps kv h):=by
 refine Safe.bear t sz g (by simp only [mk]; rw [wJ ht]; exact hnil) hno ?_
 have e:wm (mk fn.ntmps kv h) t sz g=mk fn.ntmps (Z8 kv t (.osl h.length sz 0 0)) (h++[.arr 0 sz g]):=by
  simp only [wm,mk]
  congr 1
  apply List.ext_getElem (by simp [pk])
  intro u h1 h2
  simp only [pk,List.getElem_map,List.getElem_range,List.getElem_set,KG]
  by_cases hu:t=u
  ·subst hu
   rw [if_pos rfl,if_pos rfl]
   have:kv.any (fun p=>p.1 == t)=true:=by
    rcases Bool.eq_false_or_eq_true (kv.any fun p=>p.1 == t) with hh | hh
    ·exact hh
    ·exfalso
     have:look kv t = .undef:=by
      clear hnil hno H ht h1 h2
      induction kv with
      | nil=>rfl
      | cons p l ih=>
       simp only [List.any_cons,Bool.or_eq_false_iff,beq_eq_false_iff_ne] at hh
       simp only [look,if_neg hh.1]
       exact ih hh.2
     rw [hnil] at this; cases this
   rw [this]; rfl
  ·rw [if_neg hu,if_neg (fun hh=>hu hh.symm)]
 rw [e]
 exact H
end
end Go.Sx
end
section
namespace Go.Sx
variable [Stat]
section
variable {O:Nat→Prop} {pin:Nat} {w0:World} {σ0:List SE} {w:World} {σ:List SE} {P:Program} {st:St} {a:Act} {fn:Func} {Xp:List PanicEntry→Prop}
theorem J3(i:Nat){a:AV}(h:zB a=true):zB (zO i a)=true:=by
  cases a with
  | opt _ _ _=>cases h
  | _=>
    simp only [zO]
    try simp only [qw]
    repeat (first | rfl | split)
theorem vI:∀ (K:List Nat) {a:AV},zB a=true→zB (z5 K a)=true
  | [],_,h=>h
  | i::K,_,h=>vI K (J3 i h)
theorem VN{h:Heap}{a a':AV}{k:List Nat}(hf:frz h a=some (a',k)):zB a'=true:=by
  cases a with
  | fn f x y=>cases x<;>cases y<;>simp [frz,frz1] at hf; obtain⟨rfl,_⟩:=hf; rfl
  | opt _ _ _=>simp [frz,frz1] at hf
  | osl i sz off n=>
    simp only [frz] at hf
    obtain⟨_,_,_,_,rfl,_⟩:=QQ hf
    rfl
  | _=>
    simp only [frz,frz1] at hf
    first
    | (simp only [Option.some.injEq,Prod.mk.injEq] at hf; obtain⟨rfl,_⟩:=hf; rfl)
    | (cases hf; done)
    | (split at hf
       · simp only [Option.some.injEq,Prod.mk.injEq] at hf; obtain⟨rfl,_⟩:=hf; rfl
       · cases hf)
theorem Wj{K:List Nat}{h:Heap}{a:AV}(ha:zB a=true):zB (wG K h a)=true:=by
  unfold wG
  split
  · rename_i a' k hf
    cases k.all K.contains with
    | false=>exact vI K ha
    | true=>exact VN hf
  · exact vI K ha
def Jp(K:List Nat)(st:St):St:=⟨st.tmps.map (wG K st.heap),qM K (zw K st.heap)⟩
theorem Y6(hm:Mod O pin w0 σ0 w σ st a){K:List Nat}(hK:∀ i∈K,pin≤i)(hno:st.tmps.all zB=true):Mod O pin w0 σ0 w (frzS K σ) (Jp K st) a:=by
  have hx:=qS (O:=O) K w σ
  refine⟨kr K hm.good,wX hm.hp K,by simp [Jp,hm.size],fun t=> ?_,hm.df.ext hx,hm.since.trans ⟨hx,fun _ _ _=>rfl,fun i e hi2 he=>kq K w σ i e he fun h=>by have:=hK i h; omega⟩,hm.lim⟩
  have ht:=hm.tm t
  have e:(Jp K st).tmps.getD t .undef=wG K st.heap (st.tmps.getD t .undef)∨(Jp K st).tmps.getD t .undef = .undef:=by
    simp only [Jp,List.getD,List.getElem?_map]
    cases st.tmps[t]? with
    | none=>exact .inr rfl
    | some x=>exact .inl rfl
  have hn:zB (st.tmps.getD t .undef)=true:=by
    by_cases hlt:t<st.tmps.length
    · simp only [List.getD,List.getElem?_eq_getElem hlt,Option.getD_some]
      exact List.all_eq_true.1 hno _ (List.getElem_mem hlt)
    · simp only [List.getD]
      rw [List.getElem?_eq_none (by omega)]; rfl
  rcases e with e | e
  · rw [e]
    have hr:Rep (Own O σ) w (st.tmps.getD t .undef) σ (a.tmps.getD t undef):=by
      generalize st.tmps.getD t .undef=x at ht hn
      cases x with
      | opt _ _ _=>cases hn
      | _=>exact ht
    have:=kT hm.good hm.hp (K:=K) hr
    have hno2:=Wj (K:=K) (h:=st.heap) hn
    generalize wG K st.heap (st.tmps.getD t .undef)=y at this hno2
    cases y with
    | opt t b x=>cases hno2
    | _=>exact this
  · rw [e]; simp [TRep,Rep]
def Vw(K:List Nat)(h:Heap)(kv:KV):KV:=kv.map fun p=>(p.1,wG K h p.2)
theorem KK{K:List Nat}{h:Heap}{kv:KV}(t:Nat):look (Vw K h kv) t=wG K h (look kv t):=by
  induction kv with
  | nil=>
    show AV.undef=wG K h .undef
    simp only [wG,frz,frz1]
    have:∀ K,z5 K .undef = .undef:=by
      intro K
      induction K with
      | nil=>rfl
      | cons i K ih=>exact ih
    rw [this]
  | cons p l ih=>
    simp only [Vw,List.map_cons,look] at ih ⊢
    split
    · rfl
    · exact ih
end
end Go.Sx
end
section
namespace Go.Nov
open Go.Sx
inductive Ex where
 | mk (kind:Int) (rat name:List UInt8) (date:Int) (sub:List Ex)
namespace Ex
def kind:Ex→Int | mk k _ _ _ _=>k
def rat:Ex→List UInt8 | mk _ r _ _ _=>r
def name:Ex→List UInt8 | mk _ _ n _ _=>n
def date:Ex→Int | mk _ _ _ d _=>d
def sub:Ex→List Ex | mk _ _ _ _ s=>s
mutual
def size:Ex→Nat
 | mk _ _ _ _ s=>1+U8 s
def U8:List Ex→Nat
 | []=>0
 | x::l=>size x+U8 l
end
abbrev nil:Ex:=mk 0 [] [] 0 []
def cell(k:Int)(r n:List UInt8)(d:Int)(l:Nat)(g:Nat→Nat→AV):Nat→AV
 | 0=>.int .u8 k
 | 1=>.str r
 | 2=>.str n
 | 3=>.int .i64 d
 | 4=>.sl l 5 g
 | _=>.undef
def deep:Ex→Nat→Nat→AV
 | mk _ _ _ _ s=>fun j=>(s.map fun x=>cell x.kind x.rat x.name x.date x.sub.length (deep x)).getD j fun _=>.undef
def exG(s:List Ex):Nat→Nat→AV:=fun j=>cell (s.getD j nil).kind (s.getD j nil).rat (s.getD j nil).name (s.getD j nil).date (s.getD j nil).sub.length (deep (s.getD j nil))
def exS(s:List Ex):AV:=.sl s.length 5 (exG s)
def exA(x:Ex):AV:=.agg [.int .u8 x.kind,.str x.rat,.str x.name,.int .i64 x.date,exS x.sub]
end Ex
end Go.Nov
end
section
namespace Go.Nov
open Go.Sx
end Go.Nov
end
section
open Go Go.Sx Go.Proofs Go.Nov
namespace Go.Proofs.Try
noncomputable instance:Go.Sx.Stat:=⟨fun g=>
 none⟩
theorem Kj{own:Nat→Prop}{w:World} : wT own w:=⟨fun g a h=>by cases h⟩
end Go.Proofs.Try
end
section
set_option maxRecDepth 100000
open Go Go.Sx Go.Proofs Go.Nov
namespace Go.Proofs.Try
attribute [local simp] eqKV eqA eqA0 eqH eqB eqL eqL0
noncomputable def K76:List Go.Sx.Item:=[.code (Try.f76.body.getD .skip)]
theorem hmix:Try.prog.follows .mixedOrders=true:=by decide +kernel
def noG:Nat→Option Ctr:=fun _=>none
theorem zA:∀ g c,noG g=some c→zf Try.prog g c:=fun _ _ h=>by cases h
def UO:AV→Nat
 | .int _ n=>n.toNat
 | _=>0
def decN(n:Nat)(g:Nat→Nat→AV):List Nat:=(List.range n).map fun j=>UO (g j 0)
theorem xB(k:IntKind)(l:List Nat):decN l.length (natG k l)=l:=by
 apply List.ext_getElem (by simp [decN])
 intro j h1 h2
 simp [decN,natG,UO,h2]
theorem za(n sz:Nat)(g:Nat→Nat→AV):eqG n sz g g:=fun _ _ _ _=>rfl
theorem yV{k:IntKind}{l:List Nat}{v:Int}(hv:0≤v):eqG (l.length+1) 1 (appG l.length (natG k l) (zg (zh 1 [.int k v]) 0)) (natG k (l++[v.toNat])):=by
 intro j o hj ho
 have ho:o=0:=by omega
 subst ho
 simp only [appG,zg,zh,natG]
 by_cases h:j<l.length
 ·simp [h,List.getElem?_append]
 ·have:j=l.length:=by omega
  subst this
  simp [Int.toNat_of_nonneg hv]
theorem kz{k:IntKind}{o:List Nat}{v:Int}{d:Nat}{r:Heap}(hv:v=d):eqH (.arr (o.length+1) 1 (appG o.length (natG k o) (zg (zh 1 [.int k v]) 0))::r) [.arr (o++[d]).length 1 (natG k (o++[d]))]:=by
 subst hv
 refine⟨⟨by simp,rfl,?_⟩,by simp [eqH]⟩
 have:=yV (k:=k) (l:=o) (v:=(d:Int)) (by omega)
 simpa using this
theorem wN{k:IntKind}{l:List Nat}{v:Int}{i:Nat}(hv:0≤v)(hi:i<l.length):eqG l.length 1 (updG (natG k l) i 0 [.int k v]) (natG k (l.set i v.toNat)):=by
 intro j o hj ho
 have ho:o=0:=by omega
 subst ho
 simp only [updG,natG,List.length_cons,List.length_nil]
 by_cases h:j=i
 ·subst h
  simp [hj,Int.toNat_of_nonneg hv]
 ·simp only [h,false_and,if_false]
  simp [List.getElem?_set_ne (fun e=>h e.symm)]
def magS(x:Nat):AV:=natS .u32 (canon x)
def fits(x:Nat):Prop:=(canon x).length<1000000
theorem QE{m off n:Nat}{k:IntKind}{o:List Nat}{r:Heap} : new0 (.arr m 1 (natG k o)::r) [] (.osl 0 1 off n):=by
 intro _
 simp only [exp0,zo,frz1,qJ,List.getElem?_cons_zero,if_true]
 intro j o' _ _
 rfl
theorem QC{m off n:Nat}{g:Nat→Nat→AV}{r:Heap} : exp0 (.arr m 1 g::r) [] (.osl 0 1 off n) = .sl n 1 (zg g off):=by
 simp [exp0,zo,frz1,qJ]
theorem Zz{k:IntKind}{o l:List Nat}(h:qU o=l):eqA0 (.sl (tlen o) 1 (zg (natG k o) 0)) (natS k l):=by
 subst h
 simp only [eqA0,natS,qU,List.length_take,true_and]
 refine⟨by have:=qm o; omega,?_⟩
 intro j o' hj ho'
 have:o'=0:=by omega
 subst this
 simp [zg,natG,List.getElem?_take,hj]
def ctr2{R:Type}(fresh:Bool)(pre:Nat→Nat→Prop)(post:Nat→Nat→R→Prop)(out:Nat→Nat→R→AV×Heap):Ctr:=
 ctrP fresh (fun p:Nat×Nat=>[magS p.1,magS p.2]) (fun p=>pre p.1 p.2) (fun p=>post p.1 p.2) (fun p=>out p.1 p.2)
theorem y7{R:Type}{fresh:Bool}{pre:Nat→Nat→Prop}{post:Nat→Nat→R→Prop}{out:Nat→Nat→R→AV×Heap}{g:Nat}{fn:Func}{c:Code}(hf:Try.prog.funcs[g]?=some fn)(hb:fn.body=some c) (hn:(fn.name == "runtime.NumGoroutine")=false)
  (H:∀ x y,pre x y→∀ (O:Nat→Prop) (w0:World) (Q:AV×Heap→Prop),(∀ r,post x y r→Q (out x y r))→zc Try.prog fn O 0 w0 [] (fun _ _ _=>False) (RetR (ctr2 fresh pre post out) 0 Q) [.code c] (entry fn [magS x,magS y])):zf Try.prog g (ctr2 fresh pre post out):=
 zn hf hb hn fun p hp=>H p.1 p.2 hp
def yj:Ctr where
 fresh:=false
 spec args hc:=match args,hc with
  | [.sl n 1 g],[]=>.ex (fun l:List Nat=>dig l∧l.length=n∧n<2^62∧eqG n 1 g (natG .u32 l)) fun l=>.all (fun x=>x=val l) fun x=>.leaf (magS x,[])
  | [.osl 0 1 off n],[.arr m 1 g]=>.ex (fun u:List Nat=>u.length=m∧off+n≤m∧n<2^62∧eqG m 1 g (natG .u32 u)∧dig ((u.drop off).take n)) fun u=>.all (fun x=>x=val ((u.drop off).take n)) fun x=>.leaf (.osl 0 1 off (canon x).length,[.arr m 1 g])
  | _,_=>.fail
def S75o(off n:Nat):KV:=[(0,.osl 0 1 off n)]
def S75(l:List Nat)(n:Nat):KV:=[(0,.sl n 1 (natG .u32 l))]
theorem Qc:zf Try.prog 76 yj:=by
 intro args hc Q hq hfr
 unfold yj at hq
 dsimp only at hq
 split at hq
 ·rename_i n g
  obtain⟨l,⟨hdl,hln,hn,hg⟩,_,hq⟩:=hq
  obtain⟨x,hv⟩:∃ x,val l=x:=⟨_,rfl⟩
  replace hq:=hq x hv.symm
  have hcan:qU l=canon x:=by rw [qb hdl,hv]
  simp only [magS,← hcan] at hq
  refine qk.le (args':=[natS .u32 l]) (by simp [natS,hln,hg]) (fn_k (fn:=Try.f76) (c:=Try.f76.body.getD .skip) rfl rfl rfl hfr fun O w0 σ0 h0=> ?_)
  refine zc.run hmix zA [0] 400 (T:=.leaf (.loop (Prod.fst (lps K76 0)) (Prod.snd (lps K76 0)) [(0,.sl l.length 1 (natG .u32 l))] [])) (by kernel_rfl) ?_
  refine zc.loop (ι:={n:Nat // tlen l≤n∧n≤l.length}) (fun x=>S75 l x.1) (fun _=>[]) (fun x=>x.1) ⟨l.length,qm l,Nat.le_refl _⟩ 0 ?_ ?_ (by kernel_rfl)
  ·exact⟨by simp [S75,eqG],by simp,by kernel_rfl,Nat.zero_le _⟩
  ·rintro⟨n,h1,h2⟩
   refine zc.run hmix zA [0] 400 (T:=.side (decide ((0:Int)<n)=true→inR .i64 ((↑n:Int) - (1:Int))) (.side (decide ((0:Int)<n)=true→(0:Int)≤n - (1:Int)∧(↑n:Int) - (1:Int)<n) (.ite (bif decide ((0:Int)<n) then decide ((↑(l.getD (Int.toNat ((↑n:Int) - (1:Int))) 0):Int)=0) else false) (.side (inR .i64 ((↑n:Int) - (1:Int))) (.side ((0:Int)≤n - (1:Int)∧(↑n:Int) - (1:Int)≤n) (.leaf (.back 0 [(0,.sl (Int.toNat ((↑n:Int) - (1:Int)) - 0) 1 (zg (natG .u32 l) 0))] [])))) (.leaf (.ret [.sl n 1 (natG .u32 l)] []))))) (by kernel_rfl) ?_
   simp only [Tree.holds,zd,inR,lo,hi,Bool.cond_eq_ite]
   refine⟨by simp; omega,fun _=>⟨by simp; omega,fun _=>⟨fun h=> ?_,fun h=> ?_⟩⟩⟩
   ·have hp:0<n:=by
     rcases Nat.eq_zero_or_pos n with rfl | hp
     ·simp at h
     ·exact hp
    have e:((n:Int) - 1).toNat=n - 1:=by omega
    have hz:l.getD (n - 1) 0=0:=by
     rw [if_pos (by simpa using hp),e] at h
     simpa only [decide_eq_true_eq,Int.natCast_eq_zero] using h
    refine⟨by omega,fun _=>⟨by omega,fun _=> ?_⟩⟩
    rw [if_pos trivial]
    refine⟨⟨n - 1,?_,by omega⟩,by show n - 1<n; omega,by simp [S75,eqG,zg,e],by simp,by kernel_rfl,Nat.zero_le _⟩
    rcases Nat.lt_or_ge (n - 1) (tlen l) with h3 | h3
    ·have h4:tlen l - 1=n - 1:=by omega
     exact absurd (h4▸hz) (qo l (by omega))
    ·exact h3
   ·have hn:n=tlen l:=by
     rcases Nat.lt_or_ge (tlen l) n with h3 | h3
     ·exfalso
      have e:((n:Int) - 1).toNat=n - 1:=by omega
      rw [if_pos (by simp; omega),e] at h
      have:=jB l (n - 1) (by omega)
      simp only [decide_eq_false_iff_not,Int.natCast_eq_zero] at h
      exact h this
     ·omega
    subst hn
    refine⟨[],rfl,by simp,by simp,by simp [yj],_,[],zR ?_,.inl (by simp),rfl,hq⟩
    have:=qm l
    simp only [resV,exp2,exp1,exp0,ren0,eqA2,eqA,natS,eqA0,qU,List.length_take,Nat.min_eq_left this,true_and]
    intro j o hj ho
    simp only [natG,List.getD,List.getElem?_take,if_pos hj]
 ·rename_i off n m g
  obtain⟨l,⟨hlm,hm,hn,hg,hdl⟩,_,hq⟩:=hq
  obtain⟨x,hv⟩:∃ x,val ((l.drop off).take n)=x:=⟨_,rfl⟩
  replace hq:=hq x hv.symm
  subst hlm
  simp only [← hv,← Jv hdl] at hq
  refine qk.leH (hc':=[.arr l.length 1 (natG .u32 l)]) (by simp [hg]) rfl (fn_k (fn:=Try.f76) (c:=Try.f76.body.getD .skip) rfl rfl rfl (by simp [yj]) fun O w0 σ0 h0=> ?_)
  refine zc.run hmix zA [0] 400 (T:=.leaf (.loop (Prod.fst (lps K76 0)) (Prod.snd (lps K76 0)) [(0,.osl 0 1 off n)] [.arr l.length 1 (natG .u32 l)])) (by kernel_rfl) ?_
  have hget:∀ j,j<n→((l.drop off).take n).getD j 0=l.getD (off+j) 0:=by
   intro j hj
   simp [List.getElem?_take,hj,List.getElem?_drop]
  have htl:tlen ((l.drop off).take n)≤n:=by
   have:=qm ((l.drop off).take n)
   simp at this; omega
  refine zc.loop (ι:={k:Nat // tlen ((l.drop off).take n)≤k∧k≤n}) (fun x=>S75o off x.1) (fun _=>[.arr l.length 1 (natG .u32 l)]) (fun x=>x.1) ⟨n,htl,Nat.le_refl _⟩ 0 ?_ ?_ (by kernel_rfl)
  ·exact⟨by simp [S75o],by simp [eqG],by kernel_rfl,Nat.le_refl _⟩
  ·rintro⟨k,h1,h2⟩
   refine zc.run hmix zA [0] 400 (T:=.side (decide ((0:Int)<k)=true→inR .i64 ((↑k:Int) - (1:Int))) (.side (decide ((0:Int)<k)=true→(0:Int)≤k - (1:Int)∧(↑k:Int) - (1:Int)<k) (.ite (bif decide ((0:Int)<k) then decide ((↑(l.getD (off+Int.toNat ((↑k:Int) - (1:Int))) 0):Int)=0) else false) (.side (inR .i64 ((↑k:Int) - (1:Int))) (.side ((0:Int)≤k - (1:Int)∧(↑k:Int) - (1:Int)≤k) (.leaf (.back 0 [(0,.osl 0 1 (off+0) (Int.toNat ((↑k:Int) - (1:Int)) - 0))] [.arr l.length 1 (natG .u32 l)])))) (.leaf (.ret [.osl 0 1 off k] [.arr l.length 1 (natG .u32 l)]))))) (by kernel_rfl) ?_
   simp only [Tree.holds,zd,inR,lo,hi,Bool.cond_eq_ite]
   refine⟨by simp; omega,fun _=>⟨by simp; omega,fun _=>⟨fun h=> ?_,fun h=> ?_⟩⟩⟩
   ·have hp:0<k:=by
     rcases Nat.eq_zero_or_pos k with rfl | hp
     ·simp at h
     ·exact hp
    have e:((k:Int) - 1).toNat=k - 1:=by omega
    have hz:((l.drop off).take n).getD (k - 1) 0=0:=by
     rw [if_pos (by simpa using hp),e] at h
     rw [hget _ (by omega)]
     simpa only [decide_eq_true_eq,Int.natCast_eq_zero] using h
    refine⟨by omega,fun _=>⟨by omega,fun _=> ?_⟩⟩
    rw [if_pos trivial]
    refine⟨⟨k - 1,?_,by omega⟩,by show k - 1<k; omega,by simp [S75o,e],by simp [eqG],by kernel_rfl,Nat.le_refl _⟩
    rcases Nat.lt_or_ge (k - 1) (tlen ((l.drop off).take n)) with h3 | h3
    ·have h4:tlen ((l.drop off).take n) - 1=k - 1:=by omega
     exact absurd (h4▸hz) (qo _ (by omega))
    ·exact h3
   ·have hn:k=tlen ((l.drop off).take n):=by
     rcases Nat.lt_or_ge (tlen ((l.drop off).take n)) k with h3 | h3
     ·exfalso
      have e:((k:Int) - 1).toNat=k - 1:=by omega
      rw [if_pos (by simp; omega),e] at h
      have:=jB ((l.drop off).take n) (k - 1) (by omega)
      rw [hget _ (by omega)] at this
      simp only [decide_eq_false_iff_not,Int.natCast_eq_zero] at h
      exact h this
     ·omega
    subst hn
    exact⟨[0],rfl,by simp,by simp,by simp [yj],_,[.arr l.length 1 g],zR (by simp [resV,exp2,exp1,exp0,zo,eqA2]),.inl ⟨⟨rfl,rfl,fun j o hj ho=>(hg j o hj ho).symm⟩,trivial⟩,rfl,hq⟩
 ·exact hq.elim
noncomputable def K74:List Go.Sx.Item:=[.code (Try.f74.body.getD .skip)]
noncomputable def K79:List Go.Sx.Item:=[.code (Try.f79.body.getD .skip)]
def cmp3(x y:Nat):Int:=if x<y then -1 else if y<x then 1 else 0
def Jq:Ctr:=ctr2 true (fun x y=>fits x∧fits y) (fun x y r=>r=cmp3 x y) (fun _ _ r=>(.int .i64 r,[]))
def S73(x y k:Nat):KV:=[(0,magS x),(1,magS y),(5,.int .i64 ((k:Int) - 1))]
theorem Wv:zf Try.prog 74 Jq:=by
 refine y7 (fn:=Try.f74) (c:=Try.f74.body.getD .skip) rfl rfl rfl fun x y hp O w0 Q hq=> ?_
 replace hq:=hq _ rfl
 obtain⟨hx,hy⟩:=hp
 simp only [fits] at hx hy
 refine zc.run hmix zA [0,1,5] 400 (T:=.ite (!decide ((↑(canon x).length:Int)=(↑(canon y).length:Int))) (.side (inR .i64 ((↑(canon x).length:Int) - (↑(canon y).length:Int))) (.leaf (.ret [.int .i64 (max (-1:Int) (min (1:Int) ((↑(canon x).length:Int) - (↑(canon y).length:Int))))] []))) (.side (inR .i64 ((↑(canon x).length:Int) - (1:Int))) (.leaf (.loop (Prod.fst (lps K74 0)) (Prod.snd (lps K74 0)) [(0,.sl (canon x).length 1 (natG .u32 (canon x))),(1,.sl (canon y).length 1 (natG .u32 (canon y))),(5,.int .i64 ((↑(canon x).length:Int) - (1:Int)))] [])))) (by kernel_rfl) ?_
 simp only [Tree.holds,zd,inR,lo,hi,Bool.cond_eq_ite]
 refine⟨fun h=>⟨by omega,fun _=>RetR.scal hq rfl ?_⟩,fun h=>⟨by omega,fun _=> ?_⟩⟩
 ·simp only [resV,cmp3]
  congr 1
  have hne:(canon x).length≠(canon y).length:=by
   simp only [Bool.not_eq_true',decide_eq_false_iff_not] at h
   omega
  rcases Nat.lt_or_gt_of_ne hne with h1 | h1
  ·have:=zZ h1
   rw [if_pos this]; omega
  ·have:=zZ h1
   rw [if_neg (by omega),if_pos this]; omega
 ·have hlen:(canon x).length=(canon y).length:=by
   simp only [Bool.not_eq_false',decide_eq_true_eq] at h
   omega
  refine zc.loop (ι:={k:Nat // k≤(canon x).length∧∀ j,k≤j→(canon x).getD j 0=(canon y).getD j 0}) (fun k=>S73 x y k.1) (fun _=>[]) (fun k=>k.1) ⟨(canon x).length,Nat.le_refl _,fun j hj=>by simp [hj,hlen▸hj]⟩ 0 ?_ ?_ (by kernel_rfl)
  ·exact⟨by simp [S73,magS,natS,za],by simp,by kernel_rfl,Nat.zero_le _⟩
  ·rintro⟨k,h1,h2⟩
   refine zc.run hmix zA [0,1,5] 400 (T:=.ite (decide ((0:Int)≤k - (1:Int))) (.side ((0:Int)≤k - (1:Int)∧(↑k:Int) - (1:Int)<(↑(canon x).length:Int)) (.side ((0:Int)≤k - (1:Int)∧(↑k:Int) - (1:Int)<(↑(canon y).length:Int)) (.ite (!decide ((↑(List.getD (canon x) (Int.toNat ((↑k:Int) - (1:Int))) 0):Int)=(↑(List.getD (canon y) (Int.toNat ((↑k:Int) - (1:Int))) 0):Int))) (.side ((0:Int)≤k - (1:Int)∧(↑k:Int) - (1:Int)<(↑(canon x).length:Int)) (.side ((0:Int)≤k - (1:Int)∧(↑k:Int) - (1:Int)<(↑(canon y).length:Int)) (.ite (decide ((↑(List.getD (canon x) (Int.toNat ((↑k:Int) - (1:Int))) 0):Int)<(↑(List.getD (canon y) (Int.toNat ((↑k:Int) - (1:Int))) 0):Int))) (.leaf (.ret [.int .i64 (-1:Int)] [])) (.leaf (.ret [.int .i64 1] []))))) (.side (inR .i64 ((↑k:Int) - (1:Int) - (1:Int))) (.leaf (.back 0 [(0,.sl (canon x).length 1 (natG .u32 (canon x))),(1,.sl (canon y).length 1 (natG .u32 (canon y))),(5,.int .i64 ((↑k:Int) - (1:Int) - (1:Int)))] [])))))) (.leaf (.ret [.int .i64 0] []))) (by kernel_rfl) ?_
   simp only [Tree.holds,zd,inR,lo,hi,Bool.cond_eq_ite]
   have e:((k:Int) - 1).toNat=k - 1:=by omega
   rw [e]
   refine⟨fun hk=> ?_,fun hk=>RetR.scal hq rfl ?_⟩
   ·have hk:0<k:=by simp at hk; omega
    refine⟨by omega,fun _=>⟨by omega,fun _=>⟨fun hne=>⟨by omega,fun _=>⟨by omega,fun _=>⟨fun hlt=>RetR.scal hq rfl ?_,fun hlt=>RetR.scal hq rfl ?_⟩⟩⟩,fun heq=>⟨by omega,fun _=> ?_⟩⟩⟩⟩
    ·have:=yb (zk x) hlen (i:=k - 1) (fun j hj=>h2 j (by omega)) (by simpa using hlt)
     rw [zm,zm] at this
     simp [resV,cmp3,this]
    ·have hgt:(canon y).getD (k - 1) 0<(canon x).getD (k - 1) 0:=by
      simp only [Bool.not_eq_true',decide_eq_false_iff_not] at hne hlt
      omega
     have:=yb (zk y) hlen.symm (i:=k - 1) (fun j hj=>(h2 j (by omega)).symm) hgt
     rw [zm,zm] at this
     simp only [resV,cmp3]
     rw [if_neg (by omega),if_pos this]
    ·rw [if_pos trivial]
     refine⟨⟨k - 1,by omega,fun j hj=> ?_⟩,by show k - 1<k; omega,by simp [S73,magS,natS,za]; omega,by simp,by kernel_rfl,Nat.zero_le _⟩
     rcases Nat.lt_or_ge j k with hj2 | hj2
     ·have:j=k - 1:=by omega
      subst this
      simp only [Bool.not_eq_false',decide_eq_true_eq] at heq
      omega
     ·exact h2 j hj2
   ·have hk:k=0:=by simp at hk; omega
    subst hk
    have:canon x=canon y:=by
     apply List.ext_getElem hlen
     intro j hj hj'
     have:=h2 j (Nat.zero_le _)
     simpa [hj,hj'] using this
    have:x=y:=by rw [← zm x,this,zm]
    subst this
    simp [resV,cmp3]
noncomputable def G1:Nat→Option Ctr:=fun f=>if f=76 then some (yj) else none
theorem yI:∀ g c,G1 g=some c→zf Try.prog g c:=okIf Qc (zx)
def XY:Ctr:=ctr2 true (fun x y=>fits x∧y≤x) (fun x y d=>d=x - y) (fun _ _ d=>(magS d,[]))
def S78(x y:Nat)(o:List Nat)(c i:Nat):KV:=[(0,magS x),(1,magS y),(5,.osl 0 1 0 o.length),(6,.int .u32 (c:Int)),(13,magS x),(14,.int .i64 ((canon x).length:Int)),(15,.int .i64 (i:Int))]
structure I78(x y:Nat) where
 o:List Nat
 c:Nat
 i:Nat
 len:o.length=i
 le:i≤(canon x).length
 dg:dig o
 c1:c≤1
 eq:val ((canon x).take i)+B^i*c=val o+val ((canon y).take i)
theorem Qo{x y:Nat}(h:x≤y):(canon x).length≤(canon y).length:=by
 rcases Nat.lt_or_ge (canon y).length (canon x).length with h1 | h1
 ·have:=zZ h1; omega
 ·exact h1
theorem zak{x y o c i d c':Nat}{l m:List Nat}(h:val (l.take i)+B^i*c=o+val (m.take i))(he:l.getD i 0+B*c'=d+m.getD i 0+c):val (l.take (i+1))+B^(i+1)*c'=o+B^i*d+val (m.take (i+1)):=by
 rw [zt,zt,Nat.pow_succ]
 have:=congrArg (B^i * ·) he
 simp only [Nat.mul_add] at this
 rw [Nat.mul_assoc]
 omega
theorem Yt(l:List Nat)(d:Nat):val (l++[d])=val l+B^l.length*d:=by rw [zI]; simp [val]
theorem Xk:zf Try.prog 79 XY:=by
 refine y7 (fn:=Try.f79) (c:=Try.f79.body.getD .skip) rfl rfl rfl fun x y hp O w0 Q hq=> ?_
 replace hq:=hq _ rfl
 obtain⟨hx,hyx⟩:=hp
 simp only [fits] at hx hyx
 have hlen:=Qo hyx
 refine zc.run hmix yI [0,1,5,6,13,14,15] 400 (T:=.side ((0:Int)≤0∧(0:Int)≤(↑(canon x).length:Int)∧inR .i64 (↑(canon x).length:Int)∧Int.toNat (↑(canon x).length:Int)*4≤140737488355328) (.leaf (.loop (Prod.fst (lps K79 0)) (Prod.snd (lps K79 0)) [(0,.sl (canon x).length 1 (natG .u32 (canon x))),(1,.sl (canon y).length 1 (natG .u32 (canon y))),(5,.osl 0 1 0 0),(6,.int .u32 0),(13,.sl (canon x).length 1 (natG .u32 (canon x))),(14,.int .i64 (↑(canon x).length:Int)),(15,.int .i64 0)] [.arr 0 1 (x1 [.int .u32 0])]))) (by kernel_rfl) ?_
 simp only [Tree.holds,zd,inR,lo,hi]
 refine⟨by omega,fun _=> ?_⟩
 refine zc.loop (ι:=I78 x y) (fun s=>S78 x y s.o s.c s.i) (fun s=>[.arr s.o.length 1 (natG .u32 s.o)]) (fun s=>(canon x).length - s.i) ⟨[],0,0,rfl,Nat.zero_le _,by simp [dig],by omega,by simp [val]⟩ 0 ?_ ?_ (by kernel_rfl)
 ·exact⟨by simp [S78,magS,natS,za],by simp [eqG],by kernel_rfl,Nat.zero_le _⟩
 ·rintro⟨o,c,i,ho,hle,hd,hc,he⟩
  subst ho
  have hB:B=1000000000:=rfl
  refine zc.run hmix yI [0,1,5,6,13,14,15] 400 (T:=.ite (decide ((↑o.length:Int)<(↑(canon x).length:Int))) (.side ((0:Int)≤o.length∧(↑o.length:Int)<(↑(canon x).length:Int)) (.ite (decide ((↑o.length:Int)<(↑(canon y).length:Int))) (.side ((0:Int)≤o.length∧(↑o.length:Int)<(↑(canon y).length:Int)) (.side (inR .u32 ((↑c:Int)+(↑(List.getD (canon y) (Int.toNat (↑o.length:Int)) 0):Int))) (.ite (decide ((↑(List.getD (canon x) (Int.toNat (↑o.length:Int)) 0):Int)<c+(↑(List.getD (canon y) (Int.toNat (↑o.length:Int)) 0):Int))) (.side (inR .u32 ((↑(List.getD (canon x) (Int.toNat (↑o.length:Int)) 0):Int)+(1000000000:Int))) (.side (inR .u32 ((↑(List.getD (canon x) (Int.toNat (↑o.length:Int)) 0):Int)+(1000000000:Int) - ((↑c:Int)+(↑(List.getD (canon y) (Int.toNat (↑o.length:Int)) 0):Int)))) (.side (0=0∧o.length≤o.length∧(o.length+1)*4≤140737488355328) (.side (inR .i64 ((↑o.length:Int)+(1:Int))) (.leaf (.back 0 [(0,.sl (canon x).length 1 (natG .u32 (canon x))),(1,.sl (canon y).length 1 (natG .u32 (canon y))),(5,.osl 0 1 0 (o.length+1)),(6,.int .u32 1),(13,.sl (canon x).length 1 (natG .u32 (canon x))),(14,.int .i64 (↑(canon x).length:Int)),(15,.int .i64 ((↑o.length:Int)+(1:Int)))] [.arr (o.length+1) 1 (appG o.length (natG .u32 o) (zg (zh 1 [.int .u32 ((↑(List.getD (canon x) (Int.toNat (↑o.length:Int)) 0):Int)+(1000000000:Int) - ((↑c:Int)+(↑(List.getD (canon y) (Int.toNat (↑o.length:Int)) 0):Int)))]) 0)),.arr 1 1 (zh 1 [.int .u32 ((↑(List.getD (canon x) (Int.toNat (↑o.length:Int)) 0):Int)+(1000000000:Int) - ((↑c:Int)+(↑(List.getD (canon y) (Int.toNat (↑o.length:Int)) 0):Int)))])])))))) (.side (inR .u32 ((↑(List.getD (canon x) (Int.toNat (↑o.length:Int)) 0):Int) - ((↑c:Int)+(↑(List.getD (canon y) (Int.toNat (↑o.length:Int)) 0):Int)))) (.side (0=0∧o.length≤o.length∧(o.length+1)*4≤140737488355328) (.side (inR .i64 ((↑o.length:Int)+(1:Int))) (.leaf (.back 0 [(0,.sl (canon x).length 1 (natG .u32 (canon x))),(1,.sl (canon y).length 1 (natG .u32 (canon y))),(5,.osl 0 1 0 (o.length+1)),(6,.int .u32 0),(13,.sl (canon x).length 1 (natG .u32 (canon x))),(14,.int .i64 (↑(canon x).length:Int)),(15,.int .i64 ((↑o.length:Int)+(1:Int)))] [.arr (o.length+1) 1 (appG o.length (natG .u32 o) (zg (zh 1 [.int .u32 ((↑(List.getD (canon x) (Int.toNat (↑o.length:Int)) 0):Int) - ((↑c:Int)+(↑(List.getD (canon y) (Int.toNat (↑o.length:Int)) 0):Int)))]) 0)),.arr 1 1 (zh 1 [.int .u32 ((↑(List.getD (canon x) (Int.toNat (↑o.length:Int)) 0):Int) - ((↑c:Int)+(↑(List.getD (canon y) (Int.toNat (↑o.length:Int)) 0):Int)))])])))))))) (.ite (decide ((↑(List.getD (canon x) (Int.toNat (↑o.length:Int)) 0):Int)<c)) (.side (inR .u32 ((↑(List.getD (canon x) (Int.toNat (↑o.length:Int)) 0):Int)+(1000000000:Int))) (.side (inR .u32 ((↑(List.getD (canon x) (Int.toNat (↑o.length:Int)) 0):Int)+(1000000000:Int) - c)) (.side (0=0∧o.length≤o.length∧(o.length+1)*4≤140737488355328) (.side (inR .i64 ((↑o.length:Int)+(1:Int))) (.leaf (.back 0 [(0,.sl (canon x).length 1 (natG .u32 (canon x))),(1,.sl (canon y).length 1 (natG .u32 (canon y))),(5,.osl 0 1 0 (o.length+1)),(6,.int .u32 1),(13,.sl (canon x).length 1 (natG .u32 (canon x))),(14,.int .i64 (↑(canon x).length:Int)),(15,.int .i64 ((↑o.length:Int)+(1:Int)))] [.arr (o.length+1) 1 (appG o.length (natG .u32 o) (zg (zh 1 [.int .u32 ((↑(List.getD (canon x) (Int.toNat (↑o.length:Int)) 0):Int)+(1000000000:Int) - c)]) 0)),.arr 1 1 (zh 1 [.int .u32 ((↑(List.getD (canon x) (Int.toNat (↑o.length:Int)) 0):Int)+(1000000000:Int) - c)])])))))) (.side (inR .u32 ((↑(List.getD (canon x) (Int.toNat (↑o.length:Int)) 0):Int) - c)) (.side (0=0∧o.length≤o.length∧(o.length+1)*4≤140737488355328) (.side (inR .i64 ((↑o.length:Int)+(1:Int))) (.leaf (.back 0 [(0,.sl (canon x).length 1 (natG .u32 (canon x))),(1,.sl (canon y).length 1 (natG .u32 (canon y))),(5,.osl 0 1 0 (o.length+1)),(6,.int .u32 0),(13,.sl (canon x).length 1 (natG .u32 (canon x))),(14,.int .i64 (↑(canon x).length:Int)),(15,.int .i64 ((↑o.length:Int)+(1:Int)))] [.arr (o.length+1) 1 (appG o.length (natG .u32 o) (zg (zh 1 [.int .u32 ((↑(List.getD (canon x) (Int.toNat (↑o.length:Int)) 0):Int) - c)]) 0)),.arr 1 1 (zh 1 [.int .u32 ((↑(List.getD (canon x) (Int.toNat (↑o.length:Int)) 0):Int) - c)])])))))))) (.ex (fun(u:List Nat)=>u.length=o.length∧0+o.length≤o.length∧o.length<4611686018427387904∧eqG o.length 1 (natG .u32 o) (natG .u32 u)∧dig (List.take o.length (List.drop 0 u))) fun n=>.all (fun(x:Nat)=>x=val (List.take o.length (List.drop 0 n))) fun n=>.leaf (.ret [.osl 0 1 0 (canon n).length] [.arr o.length 1 (natG .u32 o)]))) (by kernel_rfl) ?_
  simp only [Tree.holds,zd,inR,lo,hi,Int.toNat_natCast,xB]
  have ha:=zM (zk x) o.length
  have hb:=zM (zk y) o.length
  have hnext:∀ d c':Nat,d<B→c'≤1→o.length<(canon x).length→(canon x).getD o.length 0+B*c'=d+(canon y).getD o.length 0+c →
    ∃ s:I78 x y,s.o=o++[d]∧s.c=c'∧s.i=o.length+1:=fun d c' h1 h2 h3 h4=>
   ⟨⟨o++[d],c',o.length+1,by simp,h3,j7.2 ⟨hd,by simp [dig,h1]⟩,h2,by rw [Yt]; exact zak (x:=x) (y:=y) he h4⟩,rfl,rfl,rfl⟩
  refine⟨fun hlt=> ?_,fun hge=> ?_⟩
  ·have hlt:o.length<(canon x).length:=by simp at hlt; omega
   refine⟨by omega,fun _=>⟨fun hb2=>⟨by simp at hb2; omega,fun _=>⟨by omega,fun _=>⟨fun hlt2=> ?_,fun hge2=> ?_⟩⟩⟩,fun hb2=>⟨fun hlt2=> ?_,fun hge2=> ?_⟩⟩⟩
   ·simp only [decide_eq_true_eq] at hlt2
    refine⟨by omega,fun _=>⟨by omega,fun _=>⟨⟨trivial,by omega,by omega⟩,fun _=>⟨by omega,fun _=> ?_⟩⟩⟩⟩
    obtain⟨s,h1,h2,h3⟩:=hnext ((canon x).getD o.length 0+B - (c+(canon y).getD o.length 0)) 1 (by omega) (by omega) hlt (by omega)
    rw [if_pos trivial]
    refine⟨s,by show _ - s.i<_; omega,by simp [S78,h1,h2,h3,magS,natS,za],by rw [h1]; exact kz (by omega),by kernel_rfl,Nat.zero_le _⟩
   ·simp only [decide_eq_false_iff_not] at hge2
    refine⟨by omega,fun _=>⟨⟨trivial,by omega,by omega⟩,fun _=>⟨by omega,fun _=> ?_⟩⟩⟩
    obtain⟨s,h1,h2,h3⟩:=hnext ((canon x).getD o.length 0 - (c+(canon y).getD o.length 0)) 0 (by omega) (by omega) hlt (by omega)
    rw [if_pos trivial]
    refine⟨s,by show _ - s.i<_; omega,by simp [S78,h1,h2,h3,magS,natS,za],by rw [h1]; exact kz (by omega),by kernel_rfl,Nat.zero_le _⟩
   ·simp only [decide_eq_true_eq,decide_eq_false_iff_not] at hlt2 hb2
    have hb0:(canon y).getD o.length 0=0:=by simp [List.getD,List.getElem?_eq_none (show(canon y).length≤o.length by omega)]
    refine⟨by omega,fun _=>⟨by omega,fun _=>⟨⟨trivial,by omega,by omega⟩,fun _=>⟨by omega,fun _=> ?_⟩⟩⟩⟩
    obtain⟨s,h1,h2,h3⟩:=hnext ((canon x).getD o.length 0+B - c) 1 (by omega) (by omega) hlt (by omega)
    rw [if_pos trivial]
    refine⟨s,by show _ - s.i<_; omega,by simp [S78,h1,h2,h3,magS,natS,za],by rw [h1]; exact kz (by omega),by kernel_rfl,Nat.zero_le _⟩
   ·simp only [decide_eq_false_iff_not] at hge2 hb2
    have hb0:(canon y).getD o.length 0=0:=by simp [List.getD,List.getElem?_eq_none (show(canon y).length≤o.length by omega)]
    refine⟨by omega,fun _=>⟨⟨trivial,by omega,by omega⟩,fun _=>⟨by omega,fun _=> ?_⟩⟩⟩
    obtain⟨s,h1,h2,h3⟩:=hnext ((canon x).getD o.length 0 - c) 0 (by omega) (by omega) hlt (by omega)
    rw [if_pos trivial]
    refine⟨s,by show _ - s.i<_; omega,by simp [S78,h1,h2,h3,magS,natS,za],by rw [h1]; exact kz (by omega),by kernel_rfl,Nat.zero_le _⟩
  ·have hge:o.length=(canon x).length:=by simp at hge; omega
   have hv:val o=x - y:=by
    have h1:=qc hd
    rw [hge,List.take_length,List.take_of_length_le hlen,zm,zm] at he
    have:c=0:=by
     rcases Nat.lt_or_ge c 1 with h | h
     ·omega
     ·have:c=1:=by omega
      subst this
      rw [hge] at h1
      omega
    subst this
    omega
   refine⟨o,⟨rfl,by omega,by omega,za _ _ _,by simpa using hd⟩,⟨_,rfl⟩,?_⟩
   intro X hX
   have hX:X=x - y:=by simpa [hv] using hX
   subst hX
   have htr:qU o=canon (x - y):=by rw [qb hd,hv]
   have htl:(canon (x - y)).length=tlen o:=by rw [← htr,qU,List.length_take]; have:=qm o; omega
   rw [htl]
   refine⟨[],rfl,by simp,by simp,fun _=>⟨QE,by simp⟩,magS (x - y),[],zR ?_,.inl (by simp [expH]),rfl,hq⟩
   simp only [resV,exp2,exp1,QC]
   exact Zz htr
noncomputable def K75:List Go.Sx.Item:=[.code (Try.f75.body.getD .skip)]
noncomputable def K78:List Go.Sx.Item:=[.code (Try.f78.body.getD .skip)]
theorem Vr(m n:Nat):Int.tdiv (m:Int) (n:Int)=((m/n:Nat):Int):=rfl
theorem WR(m n:Nat):Int.tmod (m:Int) (n:Int)=((m%n:Nat):Int):=rfl
theorem xP(k:IntKind)(n:Nat):eqG n 1 (x1 [.int k 0]) (natG k (List.replicate n 0)):=by
 intro j o hj ho
 have:o=0:=by omega
 subst this
 simp [x1,natG,hj]
theorem Jw{l:List Nat}{k:Nat}(hk:k<l.length):l.drop k=l.getD k 0::l.drop (k+1):=by
 rw [List.drop_eq_getElem_cons hk]
 simp [List.getD,hk]
def KF:Ctr:=ctrP true (fun p:Nat×Nat=>[magS p.1,.int .u32 (p.2:Int)]) (fun p=>fits p.1∧0<p.2∧p.2<B) (fun p (r:Nat×Nat)=>r=(p.1/p.2,p.1%p.2)) (fun _ r=>(.tup [magS r.1,.int .u32 (r.2:Int)],[]))
def S74(x d:Nat)(o:List Nat)(r k:Nat):KV:=[(0,magS x),(1,.int .u32 (d:Int)),(4,.osl 0 1 0 o.length),(6,.int .u64 (r:Int)),(7,.int .i64 ((k:Int) - 1))]
structure I74(x d:Nat) where
 o:List Nat
 r:Nat
 k:Nat
 len:o.length=(canon x).length
 le:k≤(canon x).length
 rd:r<d
 dg:dig (o.drop k)
 eq:val ((canon x).drop k)=d*val (o.drop k)+r
theorem KQ:zf Try.prog 75 KF:=by
 refine zn (fn:=Try.f75) (c:=Try.f75.body.getD .skip) rfl rfl rfl fun p hp O w0 Q hq=> ?_
 replace hq:=hq _ rfl
 obtain⟨x,d⟩:=p
 obtain⟨hx,hd0,hdB⟩:=hp
 simp only [fits] at hx hd0 hdB hq
 have hB:B=1000000000:=rfl
 refine zc.run hmix yI [0,1,4,6,7] 400 (T:=.side ((0:Int)≤(↑(canon x).length:Int)∧(↑(canon x).length:Int)≤(↑(canon x).length:Int)∧inR .i64 (↑(canon x).length:Int)∧Int.toNat (↑(canon x).length:Int)*4≤140737488355328) (.side (inR .i64 ((↑(canon x).length:Int) - (1:Int))) (.leaf (.loop (Prod.fst (lps K75 0)) (Prod.snd (lps K75 0)) [(0,.sl (canon x).length 1 (natG .u32 (canon x))),(1,.int .u32 d),(4,.osl 0 1 0 (Int.toNat (↑(canon x).length:Int))),(6,.int .u64 0),(7,.int .i64 ((↑(canon x).length:Int) - (1:Int)))] [.arr (Int.toNat (↑(canon x).length:Int)) 1 (x1 [.int .u32 0])])))) (by kernel_rfl) ?_
 simp only [Tree.holds,zd,inR,lo,hi]
 refine⟨by omega,fun _=>⟨by omega,fun _=> ?_⟩⟩
 refine zc.loop (ι:=I74 x d) (fun s=>S74 x d s.o s.r s.k) (fun s=>[.arr s.o.length 1 (natG .u32 s.o)]) (fun s=>s.k) ⟨List.replicate (canon x).length 0,0,(canon x).length,by simp,Nat.le_refl _,hd0,by simp [dig],by simp [val]⟩ 0 ?_ ?_ (by kernel_rfl)
 ·exact⟨by simp [S74,magS,natS,za],by simp [xP],by kernel_rfl,Nat.zero_le _⟩
 ·rintro⟨o,r,k,hlen,hle,hr,hdg,he⟩
  refine zc.run hmix yI [0,1,4,6,7] 400 (T:=.ite (decide ((0:Int)≤k - (1:Int))) (.side (inR .u64 ((↑r:Int)*(1000000000:Int))) (.side ((0:Int)≤k - (1:Int)∧(↑k:Int) - (1:Int)<(↑(canon x).length:Int)) (.side (inR .u64 (↑(List.getD (canon x) (Int.toNat ((↑k:Int) - (1:Int))) 0):Int)) (.side (inR .u64 ((↑r:Int)*(1000000000:Int)+(↑(List.getD (canon x) (Int.toNat ((↑k:Int) - (1:Int))) 0):Int))) (.side (inR .u64 (↑d:Int)) (.side ((↑d:Int)≠0∧inR .u64 (Int.tdiv ((↑r:Int)*(1000000000:Int)+(↑(List.getD (canon x) (Int.toNat ((↑k:Int) - (1:Int))) 0):Int)) (↑d:Int))) (.side (inR .u32 (Int.tdiv ((↑r:Int)*(1000000000:Int)+(↑(List.getD (canon x) (Int.toNat ((↑k:Int) - (1:Int))) 0):Int)) (↑d:Int))) (.side (inR .u64 (↑d:Int)) (.side ((↑d:Int)≠0) (.side ((0:Int)≤k - (1:Int)∧(↑k:Int) - (1:Int)<o.length) (.side (inR .i64 ((↑k:Int) - (1:Int) - (1:Int))) (.leaf (.back 0 [(0,.sl (canon x).length 1 (natG .u32 (canon x))),(1,.int .u32 d),(4,.osl 0 1 0 o.length),(6,.int .u64 (Int.tmod ((↑r:Int)*(1000000000:Int)+(↑(List.getD (canon x) (Int.toNat ((↑k:Int) - (1:Int))) 0):Int)) (↑d:Int))),(7,.int .i64 ((↑k:Int) - (1:Int) - (1:Int)))] [.arr o.length 1 (updG (natG .u32 o) (0+Int.toNat ((↑k:Int) - (1:Int))) 0 [.int .u32 (Int.tdiv ((↑r:Int)*(1000000000:Int)+(↑(List.getD (canon x) (Int.toNat ((↑k:Int) - (1:Int))) 0):Int)) (↑d:Int))])]))))))))))))) (.ex (fun(u:List Nat)=>u.length=o.length∧0+o.length≤o.length∧o.length<4611686018427387904∧eqG o.length 1 (natG .u32 o) (natG .u32 u)∧dig (List.take o.length (List.drop 0 u))) fun n=>.all (fun(x:Nat)=>x=val (List.take o.length (List.drop 0 n))) fun n=>.side (inR .u32 (↑r:Int)) (.leaf (.ret [.osl 0 1 0 (canon n).length,.int .u32 r] [.arr o.length 1 (natG .u32 o)])))) (by kernel_rfl) ?_
  have e:((k:Int) - 1).toNat=k - 1:=by omega
  have ha:=zM (zk x) (k - 1)
  have ev:((r:Int)*1000000000+((canon x).getD (k - 1) 0:Nat))=((r*B+(canon x).getD (k - 1) 0:Nat):Int):=by simp
  simp only [Tree.holds,zd,inR,lo,hi,e,ev,Vr,WR,xB]
  generalize hv:r*B+(canon x).getD (k - 1) 0=v
  have hvd:v<d*B:=by
   have:(r+1)*B≤d*B:=Nat.mul_le_mul_right _ hr
   rw [Nat.add_mul] at this
   omega
  have hq1:v/d<B:=Nat.div_lt_of_lt_mul hvd
  have hr1:v%d<d:=Nat.mod_lt _ hd0
  have hdm:=Nat.div_add_mod v d
  generalize v/d=q at hq1 hdm ⊢
  generalize v%d=rr at hr1 hdm ⊢
  have hdB2:d*B<B*B:=Nat.mul_lt_mul_of_pos_right hdB (by decide)
  rw [hB] at hdB2
  refine⟨fun hk=> ?_,fun hk=> ?_⟩
  ·have hk:0<k:=by simp at hk; omega
   refine⟨by omega,fun _=>⟨by omega,fun _=>⟨by omega,fun _=>⟨by omega,fun _=>⟨by omega,fun _=>⟨⟨by omega,by omega,by omega⟩,fun _=>⟨by omega,fun _=>⟨by omega,fun _=>⟨by omega,fun _=>⟨by omega,fun _=>⟨by omega,fun _=> ?_⟩⟩⟩⟩⟩⟩⟩⟩⟩⟩⟩
   rw [if_pos trivial]
   have hkl:k - 1<o.length:=by omega
   have hdr:(o.set (k - 1) (q)).drop (k - 1)=(q)::o.drop k:=by
    rw [Jw (by simpa using hkl)]
    rw [show k - 1+1=k by omega,List.drop_set_of_lt (by omega)]
    simp [hkl]
   refine⟨⟨o.set (k - 1) (q),rr,k - 1,by simpa using hlen,by omega,hr1,by rw [hdr]; exact qt.2 ⟨hq1,hdg⟩,?_⟩,by show k - 1<k; omega,by simp [S74,magS,natS,za]; omega,?_,by kernel_rfl,Nat.zero_le _⟩
   ·rw [hdr,Jw (by omega),show k - 1+1=k by omega]
    simp only [val,he]
    rw [Nat.mul_add,Nat.mul_add,← Nat.mul_assoc,← Nat.mul_assoc,Nat.mul_comm d B]
    have h5:B*r=r*B:=Nat.mul_comm _ _
    omega
   ·refine⟨⟨by simp,rfl,?_⟩,trivial⟩
    have:=wN (k:=.u32) (l:=o) (v:=((q:Nat):Int)) (i:=k - 1) (by omega) hkl
    simpa using this
  ·have hk:k=0:=by simp at hk; omega
   subst hk
   simp only [List.drop_zero] at he hdg
   rw [zm] at he
   have hqv:val o=x/d:=by
    rw [he,Nat.mul_add_div hd0,Nat.div_eq_of_lt hr,Nat.add_zero]
   have hrv:r=x%d:=by rw [he,Nat.mul_add_mod,Nat.mod_eq_of_lt hr]
   have htr:qU o=canon (x/d):=by rw [qb hdg,hqv]
   refine⟨o,⟨rfl,by omega,by omega,za _ _ _,by simpa using hdg⟩,⟨_,rfl⟩,?_⟩
   intro X hX
   have hX:X=x/d:=by simpa [hqv] using hX
   subst hX
   have htl:(canon (x/d)).length=tlen o:=by rw [← htr,qU,List.length_take]; have:=qm o; omega
   rw [htl]
   refine⟨by omega,fun _=> ?_⟩
   refine⟨[],rfl,by simp,by simp,fun _=>⟨?_,by simp⟩,_,[],zR ?_,.inl (by simp [expH]),rfl,hq⟩
   ·simp only [resV,new2]
    intro a ha
    rcases List.mem_cons.1 ha with rfl | ha
    ·exact QE
    ·simp only [List.mem_singleton] at ha; subst ha; rfl
   ·simp only [resV,exp2,List.map_cons,List.map_nil,exp1,QC,eqA2,eqL1]
    exact⟨Zz htr,by simp [eqA,exp0,ren0,hrv],trivial⟩
structure D5 where
 t:Nat
 u:Nat
 v:Nat
 y:Nat
 z:Nat
def Yn:Ctr:=ctrP true (fun p:D5=>[.int .u64 (p.t:Int),.int .u64 (p.u:Int),.int .u64 (p.v:Int),.int .u64 (p.y:Int),.int .u64 (p.z:Int)])
 (fun p=>p.t≤p.y∧p.u<B∧p.v<B∧p.y<B∧p.z<B∧B≤2*p.y) (fun p n=>n=qH p.v p.y p.z 2 ((p.t*B+p.u)/p.y) ((p.t*B+p.u)%p.y)) (fun _ n=>(.int .u64 (n:Int),[]))
def S77(v y z q r:Nat):KV:=[(2,.int .u64 (v:Int)),(3,.int .u64 (y:Int)),(4,.int .u64 (z:Int)),(12,.int .u64 (q:Int)),(13,.int .u64 (r:Int))]
structure I77(v y z R:Nat) where
 q:Nat
 r:Nat
 n:Nat
 rB:r<B
 qB:q≤B+1
 nB:B≤r+n*y
 eq:qH v y z n q r=R
theorem Xv:zf Try.prog 78 Yn:=by
 refine zn (fn:=Try.f78) (c:=Try.f78.body.getD .skip) rfl rfl rfl fun p hp O w0 Q hq=> ?_
 replace hq:=hq _ rfl
 obtain⟨t,u,v,y,z⟩:=p
 simp only at hq
 obtain⟨h1,h2,h3,h4,h5,h6⟩:=hp
 simp only at h1 h2 h3 h4 h5 h6
 have hB:B=1000000000:=rfl
 refine zc.run hmix zA [2,3,4,12,13] 400 (T:=.side (inR .u64 ((↑t:Int)*(1000000000:Int))) (.side (inR .u64 ((↑t:Int)*(1000000000:Int)+u)) (.side ((↑y:Int)≠0∧inR .u64 (Int.tdiv ((↑t:Int)*(1000000000:Int)+u) (↑y:Int))) (.side ((↑y:Int)≠0) (.leaf (.loop (Prod.fst (lps K78 0)) (Prod.snd (lps K78 0)) [(2,.int .u64 v),(3,.int .u64 y),(4,.int .u64 z),(12,.int .u64 (Int.tdiv ((↑t:Int)*(1000000000:Int)+u) (↑y:Int))),(13,.int .u64 (Int.tmod ((↑t:Int)*(1000000000:Int)+u) (↑y:Int)))] [])))))) (by kernel_rfl) ?_
 have ev:((t:Int)*1000000000+(u:Int))=((t*B+u:Nat):Int):=by simp
 simp only [Tree.holds,zd,inR,lo,hi,ev,Vr,WR]
 have hy:0<y:=by omega
 have hr:(t*B+u)%y<y:=Nat.mod_lt _ hy
 have hq1:(t*B+u)/y≤B+1:=by
  have h7:t*B≤y*B:=Nat.mul_le_mul_right _ h1
  have:(t*B+u)/y<B+2:=by
   apply Nat.div_lt_of_lt_mul
   rw [Nat.mul_add]
   omega
  omega
 have hst:t*1000000000≤1000000000*1000000000:=Nat.mul_le_mul_right _ (by omega)
 generalize hR:qH v y z 2 ((t*B+u)/y) ((t*B+u)%y)=R at hq
 generalize hqq:(t*B+u)/y=q at hq1 hR ⊢
 generalize hrr:(t*B+u)%y=r at hr hR ⊢
 refine⟨by omega,fun _=>⟨by omega,fun _=>⟨⟨by omega,by omega,by omega⟩,fun _=>⟨by omega,fun _=> ?_⟩⟩⟩⟩
 refine zc.loop (ι:=I77 v y z R) (fun s=>S77 v y z s.q s.r) (fun _=>[]) (fun s=>s.n) ⟨q,r,2,by omega,hq1,by omega,hR⟩ 0 ?_ ?_ (by kernel_rfl)
 ·exact⟨by simp [S77],by simp,by kernel_rfl,Nat.zero_le _⟩
 ·rintro⟨q,r,n,hrB,hqB,hnB,hR⟩
  refine zc.run hmix zA [2,3,4,12,13] 400 (T:=.side (decide ((1000000000:Int)≤q)=false→inR .u64 ((↑q:Int)*z)) (.side (decide ((1000000000:Int)≤q)=false→inR .u64 ((↑r:Int)*(1000000000:Int))) (.side (decide ((1000000000:Int)≤q)=false→inR .u64 ((↑r:Int)*(1000000000:Int)+v)) (.ite (bif decide ((1000000000:Int)≤q) then true else decide ((↑r:Int)*(1000000000:Int)+v<(↑q:Int)*z)) (.side (inR .u64 ((↑q:Int) - (1:Int))) (.side (inR .u64 ((↑r:Int)+y)) (.ite (decide ((1000000000:Int)≤r+(↑y:Int))) (.leaf (.ret [.int .u64 ((↑q:Int) - (1:Int))] [])) (.leaf (.back 0 [(2,.int .u64 v),(3,.int .u64 y),(4,.int .u64 z),(12,.int .u64 ((↑q:Int) - (1:Int))),(13,.int .u64 ((↑r:Int)+y))] []))))) (.leaf (.ret [.int .u64 q] [])))))) (by kernel_rfl) ?_
  simp only [Tree.holds,zd,inR,lo,hi,Bool.cond_eq_ite]
  have hqz:q*z≤1000000001*1000000000:=Nat.mul_le_mul (by omega) (by omega)
  have eqz:((q:Int)*(z:Int))=((q*z:Nat):Int):=by simp
  rw [eqz]
  have hrb:r*B=1000000000*r:=Nat.mul_comm _ _
  generalize hp:q*z=p at hqz ⊢
  refine⟨fun _=>by omega,fun _=>⟨fun _=>by omega,fun _=>⟨fun _=>by omega,fun _=>⟨fun hc=> ?_,fun hc=> ?_⟩⟩⟩⟩
  ·have hcond:B≤q∨r*B+v<q*z:=by
    rw [hp]
    split at hc
    ·rename_i h; simp only [decide_eq_true_eq] at h; left; omega
    ·simp only [decide_eq_true_eq] at hc; right; omega
   have hq0:0<q:=by
    rcases Nat.eq_zero_or_pos q with rfl | h
    ·simp at hcond
    ·exact h
   cases n with
   | zero=>omega
   | succ n=>
    simp only [qH,if_pos hcond] at hR
    refine⟨by omega,fun _=>⟨by omega,fun _=>⟨fun hb=> ?_,fun hb=> ?_⟩⟩⟩
    ·rw [if_pos (by simp at hb; omega)] at hR
     refine RetR.scal hq rfl ?_
     simp only [resV]; congr 1; omega
    ·rw [if_neg (by simp at hb; omega)] at hR
     rw [if_pos trivial]
     refine⟨⟨q - 1,r+y,n,by simp at hb; omega,by omega,by rw [Nat.add_mul] at hnB; omega,hR⟩,by show n<n+1; omega,by simp [S77]; omega,by simp,by kernel_rfl,Nat.zero_le _⟩
  ·have hcond:¬ (B≤q∨r*B+v<q*z):=by
    rw [hp]
    split at hc
    ·cases hc
    ·rename_i h; simp only [decide_eq_true_eq,decide_eq_false_iff_not] at h hc; omega
   refine RetR.scal hq rfl ?_
   have:qH v y z n q r=q:=by
    cases n with
    | zero=>rfl
    | succ n=>simp only [qH,if_neg hcond]
   simp only [resV]; congr 1; omega
noncomputable def K77:List Go.Sx.Item:=[.code (Try.f77.body.getD .skip)]
theorem heap_set{k:IntKind}{o:List Nat}{v:Int}{i d i':Nat}(hv:v=d)(hi:i<o.length)(hi':i'=i):eqH [.arr o.length 1 (updG (natG k o) i' 0 [.int k v])] [.arr (o.set i d).length 1 (natG k (o.set i d))]:=by
 subst hv
 subst hi'
 refine⟨⟨by simp,rfl,?_⟩,by simp [eqH]⟩
 have:=wN (k:=k) (l:=o) (v:=(d:Int)) (by omega) hi
 simpa using this
def Yz:Ctr:=ctr2 true (fun x y=>fits x∧fits y)
 (fun x y p=>p=x*y) (fun x y p=>(.osl 0 1 0 (canon p).length,[.arr ((canon x).length+(canon y).length) 1 (natG .u32 (padN ((canon x).length+(canon y).length) p))]))
def S76(x y i:Nat)(o:List Nat):KV:=[(0,magS x),(1,magS y),(5,.osl 0 1 0 o.length),(6,.undef),(7,.undef),(8,.undef),(18,magS x),(19,.int .i64 ((canon x).length:Nat)),(20,.int .i64 (i:Int)),(25,.undef),(26,.undef),(27,.undef)]
def S76b(x y i j c:Nat)(o:List Nat):KV:=[(0,magS x),(1,magS y),(5,.osl 0 1 0 o.length),(6,.int .i64 (i:Int)),(7,.int .u32 ((canon x).getD i 0:Nat)),(8,.int .u64 (c:Int)),(18,magS x),(19,.int .i64 ((canon x).length:Nat)),(20,.int .i64 (i:Int)),(25,magS y),(26,.int .i64 ((canon y).length:Nat)),(27,.int .i64 (j:Int))]
structure I76(x y:Nat) where
 o:List Nat
 i:Nat
 len:o.length=(canon x).length+(canon y).length
 le:i≤(canon x).length
 dg:dig o
 eq:val o=val ((canon x).take i)*y
structure I76b(x y i V:Nat) where
 o:List Nat
 c:Nat
 j:Nat
 len:o.length=(canon x).length+(canon y).length
 le:j≤(canon y).length
 dg:dig o
 cB:c<B
 z:∀ p,i+(canon y).length≤p→o.getD p 0=0
 eq:val o+B^i*B^j*c=V+B^i*(canon x).getD i 0*val ((canon y).take j)
theorem JH{o' Pi Pj op d v a b' c c' V vt vo:Nat}(h1:o'+Pi*Pj*op=vo+Pi*Pj*d)(h2:vo+Pi*Pj*c=V+Pi*a*vt)(h3:B*c'+d=v)(h4:v=a*b'+op+c):o'+Pi*(Pj*B)*c'=V+Pi*a*(vt+Pj*b'):=by grind
theorem XB:zf Try.prog 77 Yz:=by
 refine y7 (fn:=Try.f77) (c:=Try.f77.body.getD .skip) rfl rfl rfl fun x y hp O w0 Q hq=> ?_
 replace hq:=hq _ rfl
 obtain⟨hx,hy⟩:=hp
 simp only [fits] at hx hy hq
 have hB:B=1000000000:=rfl
 refine zc.run hmix yI [0,1,5,6,7,8,18,19,20,25,26,27] 400 (T:=.side (inR .i64 ((↑(canon x).length:Int)+(↑(canon y).length:Int))) (.side ((0:Int)≤(↑(canon x).length:Int)+(↑(canon y).length:Int)∧(↑(canon x).length:Int)+(↑(canon y).length:Int)≤(↑(canon x).length:Int)+(↑(canon y).length:Int)∧inR .i64 ((↑(canon x).length:Int)+(↑(canon y).length:Int))∧Int.toNat ((↑(canon x).length:Int)+(↑(canon y).length:Int))*4≤140737488355328) (.leaf (.loop (Prod.fst (lps K77 0)) (Prod.snd (lps K77 0)) [(0,.sl (canon x).length 1 (natG .u32 (canon x))),(1,.sl (canon y).length 1 (natG .u32 (canon y))),(5,.osl 0 1 0 (Int.toNat ((↑(canon x).length:Int)+(↑(canon y).length:Int)))),(6,.undef),(7,.undef),(8,.undef),(18,.sl (canon x).length 1 (natG .u32 (canon x))),(19,.int .i64 (↑(canon x).length:Int)),(20,.int .i64 0),(25,.undef),(26,.undef),(27,.undef)] [.arr (Int.toNat ((↑(canon x).length:Int)+(↑(canon y).length:Int))) 1 (x1 [.int .u32 0])])))) (by kernel_rfl) ?_
 simp only [Tree.holds,zd,inR,lo,hi]
 have esum:((canon x).length:Int)+((canon y).length:Int)=(((canon x).length+(canon y).length:Nat):Int):=by omega
 simp only [esum,Int.toNat_natCast]
 refine⟨by omega,fun _=>⟨by omega,fun _=> ?_⟩⟩
 refine zc.loop (ι:=I76 x y) (fun s=>S76 x y s.i s.o) (fun s=>[.arr s.o.length 1 (natG .u32 s.o)]) (fun s=>(canon x).length - s.i) ⟨List.replicate ((canon x).length+(canon y).length) 0,0,by simp,Nat.zero_le _,q9 _,by simp [qY,val]⟩ 0 ?_ ?_ (by kernel_rfl)
 ·exact⟨by simp [S76,magS,natS,za],by simp [xP],by kernel_rfl,Nat.zero_le _⟩
 ·rintro⟨o,i,hlen,hle,hd,he⟩
  refine zc.run hmix yI [0,1,5,6,7,8,18,19,20,25,26,27] 400 (T:=.ite (decide ((↑i:Int)<(↑(canon x).length:Int))) (.side ((0:Int)≤i∧(↑i:Int)<(↑(canon x).length:Int)) (.leaf (.loop (Prod.fst (lps (inside K77 0) 0)) (Prod.snd (lps (inside K77 0) 0)) [(0,.sl (canon x).length 1 (natG .u32 (canon x))),(1,.sl (canon y).length 1 (natG .u32 (canon y))),(5,.osl 0 1 0 o.length),(6,.int .i64 i),(7,.int .u32 (↑(List.getD (canon x) (↑i:Int).toNat 0):Int)),(8,.int .u64 0),(18,.sl (canon x).length 1 (natG .u32 (canon x))),(19,.int .i64 (↑(canon x).length:Int)),(20,.int .i64 i),(25,.sl (canon y).length 1 (natG .u32 (canon y))),(26,.int .i64 (↑(canon y).length:Int)),(27,.int .i64 0)] [.arr o.length 1 (natG .u32 o)]))) (.ex (fun(u:List Nat)=>u.length=o.length∧0+o.length≤o.length∧o.length<4611686018427387904∧eqG o.length 1 (natG .u32 o) (natG .u32 u)∧dig (List.take o.length (List.drop 0 u))) fun n=>.all (fun(x:Nat)=>x=val (List.take o.length (List.drop 0 n))) fun n=>.leaf (.ret [.osl 0 1 0 (canon n).length] [.arr o.length 1 (natG .u32 o)]))) (by kernel_rfl) ?_
  simp only [Tree.holds,zd,inR,lo,hi,Int.toNat_natCast,xB]
  have hz:∀ p,i+(canon y).length≤p→o.getD p 0=0:=by
   intro p hp
   refine uS (n:=i+(canon y).length) ?_ hp
   rw [he,Nat.pow_add]
   have h1:=qc (qX (zk x) i)
   have h2:=qc (zk y)
   rw [zm] at h2
   have h3:B^((canon x).take i).length=B^i:=by rw [List.length_take,Nat.min_eq_left hle]
   rw [h3] at h1
   exact Nat.mul_lt_mul_of_lt_of_le h1 (Nat.le_of_lt h2) (Nat.pow_pos (by decide))
  refine⟨fun hlt=>⟨by simp at hlt; omega,fun _=> ?_⟩,fun hge=> ?_⟩
  ·have hlt:i<(canon x).length:=by simp at hlt; omega
   refine zc.loop (ι:=I76b x y i (val o)) (fun s=>S76b x y i s.j s.c s.o) (fun s=>[.arr s.o.length 1 (natG .u32 s.o)]) (fun s=>(canon y).length - s.j) ⟨o,0,0,hlen,Nat.zero_le _,hd,by decide,hz,by simp [val]⟩ 1 ?_ ?_ (by kernel_rfl)
   ·exact⟨by simp [S76b,magS,natS,za],by simp [za],by kernel_rfl,Nat.zero_le _⟩
   ·rintro⟨o2,c,j,hlen2,hle2,hd2,hcB,hz2,he2⟩
    refine zc.run hmix yI [0,1,5,6,7,8,18,19,20,25,26,27] 400 (T:=.ite (decide ((↑j:Int)<(↑(canon y).length:Int))) (.side ((0:Int)≤j∧(↑j:Int)<(↑(canon y).length:Int)) (.side (inR .u64 (↑(List.getD (canon x) i 0):Int)) (.side (inR .u64 (↑(List.getD (canon y) (↑j:Int).toNat 0):Int)) (.side (inR .u64 ((↑(List.getD (canon x) i 0):Int)*(↑(List.getD (canon y) (↑j:Int).toNat 0):Int))) (.side (inR .i64 ((↑i:Int)+j)) (.side ((0:Int)≤i+(↑j:Int)∧(↑i:Int)+j<(↑o2.length:Int)) (.side (inR .u64 (↑(o2.getD (0+Int.toNat ((↑i:Int)+j)) 0):Int)) (.side (inR .u64 ((↑(List.getD (canon x) i 0):Int)*(↑(List.getD (canon y) (↑j:Int).toNat 0):Int)+(↑(o2.getD (0+Int.toNat ((↑i:Int)+j)) 0):Int))) (.side (inR .u64 ((↑(List.getD (canon x) i 0):Int)*(↑(List.getD (canon y) (↑j:Int).toNat 0):Int)+(↑(o2.getD (0+Int.toNat ((↑i:Int)+j)) 0):Int)+c)) (.side (inR .i64 ((↑i:Int)+j)) (.side ((1000000000:Int)≠0) (.side (inR .u32 (Int.tmod ((↑(List.getD (canon x) i 0):Int)*(↑(List.getD (canon y) (↑j:Int).toNat 0):Int)+(↑(o2.getD (0+Int.toNat ((↑i:Int)+j)) 0):Int)+c) (1000000000:Int))) (.side ((1000000000:Int)≠0∧inR .u64 (Int.tdiv ((↑(List.getD (canon x) i 0):Int)*(↑(List.getD (canon y) (↑j:Int).toNat 0):Int)+(↑(o2.getD (0+Int.toNat ((↑i:Int)+j)) 0):Int)+c) (1000000000:Int))) (.side ((0:Int)≤i+(↑j:Int)∧(↑i:Int)+j<(↑o2.length:Int)) (.side (inR .i64 ((↑j:Int)+(1:Int))) (.leaf (.back 1 [(0,.sl (canon x).length 1 (natG .u32 (canon x))),(1,.sl (canon y).length 1 (natG .u32 (canon y))),(5,.osl 0 1 0 o2.length),(6,.int .i64 i),(7,.int .u32 (↑(List.getD (canon x) i 0):Int)),(8,.int .u64 (Int.tdiv ((↑(List.getD (canon x) i 0):Int)*(↑(List.getD (canon y) (↑j:Int).toNat 0):Int)+(↑(o2.getD (0+Int.toNat ((↑i:Int)+j)) 0):Int)+c) (1000000000:Int))),(18,.sl (canon x).length 1 (natG .u32 (canon x))),(19,.int .i64 (↑(canon x).length:Int)),(20,.int .i64 i),(25,.sl (canon y).length 1 (natG .u32 (canon y))),(26,.int .i64 (↑(canon y).length:Int)),(27,.int .i64 ((↑j:Int)+(1:Int)))] [.arr o2.length 1 (updG (natG .u32 o2) (0+Int.toNat ((↑i:Int)+j)) 0 [.int .u32 (Int.tmod ((↑(List.getD (canon x) i 0):Int)*(↑(List.getD (canon y) (↑j:Int).toNat 0):Int)+(↑(o2.getD (0+Int.toNat ((↑i:Int)+j)) 0):Int)+c) (1000000000:Int))])]))))))))))))))))) (.side (inR .i64 ((↑i:Int)+(↑(canon y).length:Int))) (.side ((0:Int)≤i+(↑(canon y).length:Int)∧(↑i:Int)+(↑(canon y).length:Int)<o2.length) (.side (inR .u32 (↑c:Int)) (.side (inR .u32 ((↑(o2.getD (0+Int.toNat ((↑i:Int)+(↑(canon y).length:Int))) 0):Int)+c)) (.side ((0:Int)≤i+(↑(canon y).length:Int)∧(↑i:Int)+(↑(canon y).length:Int)<o2.length) (.side (inR .i64 ((↑i:Int)+(1:Int))) (.leaf (.back 0 [(0,.sl (canon x).length 1 (natG .u32 (canon x))),(1,.sl (canon y).length 1 (natG .u32 (canon y))),(5,.osl 0 1 0 o2.length),(6,.int .i64 i),(7,.int .u32 (↑(List.getD (canon x) i 0):Int)),(8,.int .u64 c),(18,.sl (canon x).length 1 (natG .u32 (canon x))),(19,.int .i64 (↑(canon x).length:Int)),(20,.int .i64 ((↑i:Int)+(1:Int))),(25,.sl (canon y).length 1 (natG .u32 (canon y))),(26,.int .i64 (↑(canon y).length:Int)),(27,.int .i64 j)] [.arr o2.length 1 (updG (natG .u32 o2) (0+Int.toNat ((↑i:Int)+(↑(canon y).length:Int))) 0 [.int .u32 ((↑(o2.getD (0+Int.toNat ((↑i:Int)+(↑(canon y).length:Int))) 0):Int)+c)])]))))))))) (by kernel_rfl) ?_
    have ha:=zM (zk x) i
    have hb:=zM (zk y) j
    have ho:=zM hd2 (i+j)
    have e1:((i:Int)+(j:Int))=((i+j:Nat):Int):=by omega
    have e2:((i:Int)+((canon y).length:Int))=((i+(canon y).length:Nat):Int):=by omega
    simp only [Tree.holds,zd,inR,lo,hi,e1,e2,Int.toNat_natCast,Nat.zero_add]
    have e3:(((canon x).getD i 0:Nat):Int)*(((canon y).getD j 0:Nat):Int)=(((canon x).getD i 0*(canon y).getD j 0:Nat):Int):=by simp
    have hab:(canon x).getD i 0*(canon y).getD j 0≤999999999*999999999:=Nat.mul_le_mul (by omega) (by omega)
    generalize hv:(canon x).getD i 0*(canon y).getD j 0+o2.getD (i+j) 0+c=v
    have e4:(((canon x).getD i 0:Nat):Int)*(((canon y).getD j 0:Nat):Int)+((o2.getD (i+j) 0:Nat):Int)+(c:Int)=(v:Int):=by rw [e3,← hv]; omega
    have e5:(1000000000:Int)=((B:Nat):Int):=rfl
    have hvB:v<1000000000*1000000000:=by omega
    have hdm:=Nat.div_add_mod v B
    have hmod:v%B<B:=Nat.mod_lt _ (by decide)
    have hdiv:v/B<B:=Nat.div_lt_of_lt_mul hvB
    rw [e4,e5,Vr,WR]
    generalize v/B=c' at hdm hdiv ⊢
    generalize v%B=d at hdm hmod ⊢
    rw [e3]
    generalize hab2:(canon x).getD i 0*(canon y).getD j 0=ab at hab hv ⊢
    refine⟨fun hj=> ?_,fun hj=> ?_⟩
    ·have hj:j<(canon y).length:=by simp at hj; omega
     have hp:i+j<o2.length:=by omega
     refine⟨by omega,fun _=>⟨by omega,fun _=>⟨by omega,fun _=>⟨by omega,fun _=>⟨by omega,fun _=>⟨by omega,fun _=>⟨by omega,fun _=>⟨by omega,fun _=>⟨by omega,fun _=>⟨by omega,fun _=>⟨by omega,fun _=>⟨by omega,fun _=>⟨by omega,fun _=>⟨by omega,fun _=>⟨by omega,fun _=> ?_⟩⟩⟩⟩⟩⟩⟩⟩⟩⟩⟩⟩⟩⟩⟩
     rw [if_pos trivial]
     have hs:=xA o2 (i+j) d hp
     refine⟨⟨o2.set (i+j) d,c',j+1,by simpa using hlen2,by omega,yz hd2 _ hmod,hdiv,fun p hp2=> ?_,?_⟩,by show _ - (j+1)<_ - j; omega,by simp [S76b,magS,natS,za],heap_set rfl hp rfl,by kernel_rfl,Nat.zero_le _⟩
     ·have:=hz2 p hp2
      simp only [List.getD] at this ⊢
      rw [List.getElem?_set_ne (by omega)]; exact this
     ·rw [Nat.pow_add] at hs
      rw [Nat.pow_succ,zt]
      exact JH hs he2 hdm (by rw [hab2]; omega)
    ·have hj:j=(canon y).length:=by simp at hj; omega
     subst hj
     have h0:=hz2 (i+(canon y).length) (Nat.le_refl _)
     have hp:i+(canon y).length<o2.length:=by omega
     have hs:=xA o2 (i+(canon y).length) c hp
     refine⟨by omega,fun _=>⟨by omega,fun _=>⟨by omega,fun _=>⟨by omega,fun _=>⟨by omega,fun _=>⟨by omega,fun _=> ?_⟩⟩⟩⟩⟩⟩
     rw [if_neg (by decide),if_pos trivial]
     refine⟨⟨o2.set (i+(canon y).length) c,i+1,by simpa using hlen2,by omega,yz hd2 _ hcB,?_⟩,by show _ - (i+1)<_ - i; omega,by simp [S76,magS,natS,za],heap_set (by omega) hp rfl,by kernel_rfl,Nat.zero_le _⟩
     rw [h0,Nat.pow_add] at hs
     rw [List.take_length,zm] at he2
     rw [zt,Nat.add_mul,← he]
     simp only [Nat.mul_zero,Nat.add_zero] at hs
     rw [hs,he2]
  ·have hge:i=(canon x).length:=by simp at hge; omega
   subst hge
   rw [List.take_length,zm] at he
   refine⟨o,⟨rfl,by omega,by omega,za _ _ _,by simpa using hd⟩,⟨_,rfl⟩,?_⟩
   intro X hX
   have hX:X=x*y:=by simpa [he] using hX
   subst hX
   refine⟨[0],rfl,by simp,by simp,fun _=>⟨?_,?_⟩,_,_,zR ?_,.inl ?_,rfl,hq⟩
   ·simp [resV,new2,new1,new0,zo]
   ·intro k hk
    simp only [List.mem_singleton] at hk
    subst hk
    intro j o' _ _
    rfl
   ·simp [resV,exp2,exp1,exp0,zo,eqA2,eqA]
   ·have hpad:=JR hd
    rw [he,hlen] at hpad
    rw [← hpad]
    simp [expH,expB,hlen,za]
noncomputable def K64:List Go.Sx.Item:=[.code (Try.f64.body.getD .skip)]
noncomputable def G2:Nat→Option Ctr:=fun f=>if f=74 then some (Jq) else if f=75 then some (KF) else if f=76 then some (yj) else if f=77 then some (Yz) else if f=78 then some (Yn) else if f=79 then some (XY) else none
theorem J9:∀ g c,G2 g=some c→zf Try.prog g c:=okIf Wv (okIf KQ (okIf Qc (okIf XB (okIf Xv (okIf Xk (zx))))))
theorem je{k:IntKind}{u:List Nat}{off n X:Nat}(hd:dig ((u.drop off).take n))(hX:val ((u.drop off).take n)=X):eqG (canon X).length 1 (zg (natG k u) off) (natG k (canon X)):=by
 have h:=qb hd
 rw [hX] at h
 have hl:=qm ((u.drop off).take n)
 intro j o hj ho
 simp only [zg,natG,AV.int.injEq,true_and]
 rw [← h] at hj ⊢
 simp only [qU,List.length_take] at hj ⊢
 have hjn:j<n:=by simp at hj hl; omega
 have e:(List.take (tlen ((u.drop off).take n)) ((u.drop off).take n)).getD j 0=((u.drop off).take n).getD j 0:=by
  simp only [List.getD,List.getElem?_take]
  rw [if_pos (by omega)]
 rw [e,k7 _ _ _ _ hjn]
theorem k6(k:IntKind)(n:Nat):eqG 1 1 (zh 1 [.int k (n:Int)]) (natG k [n]):=by
 intro j o hj ho
 have:j=0:=by omega
 have:o=0:=by omega
 subst_vars; rfl
theorem KB{k:IntKind}{n:Nat}{g:Nat→Nat→AV}{u:List Nat}{off m:Nat}(h:eqG m 1 g (natG k u))(hm:off+n≤m):eqG n 1 (zg g off) (zg (natG k u) off):=by
 intro j o hj ho
 exact h (off+j) o (by omega) ho
theorem xC{n sz:Nat}{f g h:Nat→Nat→AV}(h1:eqG n sz f g)(h2:eqG n sz g h):eqG n sz f h:=fun j o hj ho=>(h1 j o hj ho).trans (h2 j o hj ho)
theorem jY{d:Nat}(hd:d<B):eqG (canon d).length 1 (zg (zh 1 [.int .u32 (d:Int)]) 0) (natG .u32 (canon d)):=by
 have h1:dig (([d].drop 0).take 1):=by simpa [dig] using hd
 have h2:val (([d].drop 0).take 1)=d:=by simp [val]
 have h3:=je (k:=.u32) h1 h2
 refine xC (KB (k6 .u32 d) ?_) h3
 have:=z1 (x:=d) (n:=1) (by simpa using hd)
 omega
theorem xi{N p:Nat}(hN:(canon p).length≤N):eqG (canon p).length 1 (zg (natG .u32 (padN N p)) 0) (natG .u32 (canon p)):=by
 intro j o hj ho
 simp only [zg,natG,Nat.zero_add,padN,AV.int.injEq,true_and]
 congr 1
 simp only [List.getD]
 rw [List.getElem?_append_left hj]
theorem KY(N p i:Nat):(padN N p).getD i 0=(canon p).getD i 0:=by
 simp only [padN,List.getD]
 by_cases h:i<(canon p).length
 ·rw [List.getElem?_append_left h]
 ·rw [List.getElem?_append_right (by omega),List.getElem?_eq_none (show(canon p).length≤i by omega)]
  cases hh:(List.replicate (N - (canon p).length) 0)[i - (canon p).length]? with
  | none=>rfl
  | some z=>have:=List.mem_of_getElem? hh; simp at this; simp [this.2]
theorem Qb{N p:Nat}(h:(canon p).length≤N):(padN N p).length=N:=by simp [padN]; omega
theorem YA(N p:Nat):dig (padN N p):=j7.2 ⟨zk _,q9 _⟩
theorem kD(x y:Nat):(canon (x*y)).length≤(canon x).length+(canon y).length:=by
 have h1:=qc (zk x)
 have h2:=qc (zk y)
 rw [zm] at h1 h2
 exact z1 (by rw [Nat.pow_add]; exact Nat.mul_lt_mul'' h1 h2)
theorem uZ{d:Nat}(h0:0<d)(hB:d<B):(canon d).length=1:=by
 have h1:=z1 (x:=d) (n:=1) (by simpa using hB)
 have h2:=jc (x:=d) (n:=0) (by simp; omega)
 omega
def yy:Ctr:=ctr2 false (fun x y=>(canon x).length<100000∧(canon y).length<100000∧0<y) (fun x y (r:Nat×Nat)=>r=(x/y,x%y)) (fun _ _ r=>(.tup [magS r.1,magS r.2],[]))
def SG(x y s k:Nat):KV:=[(0,magS x),(1,magS y),(4,.nils),(8,.int .u32 (s:Int)),(9,.int .i64 (((canon y).length:Nat):Int)),(10,.osl 1 1 0 k),(11,.undef),(12,.undef),(13,.undef),(15,.undef),(151,.undef),(152,.undef)]
structure IG(x U:Nat) where
 k:Nat
 o:List Nat
 ko:k≤o.length
 le:o.length≤(canon x).length+1
 dg:dig (o.take k)
 eq:val (o.take k)=U
def SD(y s V ul ql j:Nat):KV:=[(0,.undef),(1,.undef),(4,.osl 4 1 0 ql),(8,.int .u32 (s:Int)),(9,.int .i64 (((canon y).length:Nat):Int)),(10,.osl 1 1 0 ul),(11,.osl 3 1 0 (canon V).length),(12,.int .i64 ((j:Int) - 1)),(13,.undef),(15,.undef),(151,.undef),(152,.undef)]
def HD(y V:Nat)(u q:List Nat):Heap:=[.dead,.arr u.length 1 (natG .u32 u),.dead,.arr ((canon y).length+1) 1 (natG .u32 (padN ((canon y).length+1) V)),.arr q.length 1 (natG .u32 q)]
structure ID(x y V U:Nat) where
 u:List Nat
 q:List Nat
 j:Nat
 ul:u.length=(canon x).length+1
 ql:q.length+(canon y).length=(canon x).length+1
 jq:j≤q.length
 du:dig u
 dq:dig q
 eq:U=V*B^j*val (q.drop j)+val u
 lt:val u<V*B^j
def SC(y s V ul ql j d L i:Nat):KV:=[(0,.undef),(1,.undef),(4,.osl 4 1 0 ql),(8,.int .u32 (s:Int)),(9,.int .i64 (((canon y).length:Nat):Int)),(10,.osl 1 1 0 ul),(11,.osl 3 1 0 (canon V).length),(12,.int .i64 (j:Int)),(13,.int .u64 (d:Int)),(15,magS L),(151,.int .i64 (((canon y).length+1:Nat):Int)),(152,.int .i64 (i:Int))]
theorem QY{x y s V U m i:Nat}{u q:List Nat}{O:Nat→Prop}{w0:World}{Q:AV×Heap→Prop}{Hs0:Nat→KV→Heap→Prop}(hm:(canon y).length=m+2)(hx:(canon x).length<100000)(hs0:0<s)(hsB:s<B)(hV1:V<B^(m+2))(hV2:B^(m+2)≤2*V)(hVl:(canon V).length=m+2)(hV0:0<V)
  (hul:u.length=(canon x).length+1) (hql:q.length+(canon y).length=(canon x).length+1) (hjq:i+1≤q.length) (hdu:dig u) (hdq:dig q) (heq:U=V*B^(i+1)*val (q.drop (i+1))+val u) (hlt:val u<V*B^(i+1)) {W:Nat} (hW:val ((u.drop i).take (m+2+1))=W) (hWB:W/V<B) (kv:KV) (h:Heap) (hle:LeK 0 Try.f64.ntmps kv h (SC y s V u.length q.length i (W/V) (W%V) 0) (HD y V u q)) :
  zc Try.prog Try.f64 O 0 w0 [] (fun d kv h=>if d=0 then ∃ x':ID x y V U,x'.j<i+1∧LeK 0 Try.f64.ntmps kv h (SD y s V x'.u.length x'.q.length x'.j) (HD y V x'.u x'.q) else Hs0 d kv h) (RetR yy 0 Q)
   (.code (.loop (lps (inside (inside K64 0) 0) 0).1)::(lps (inside (inside K64 0) 0) 0).2) (mk Try.f64.ntmps kv h):=by
 have hB:B=1000000000:=rfl
 have c2:0+(i:Int).toNat=i:=by omega
 have hLV:=Nat.mod_lt W hV0
 have hLl:(canon (W%V)).length≤m+2:=z1 (by omega)
 refine zc.loop (ι:={k:Nat // k≤m+2+1}) (fun k=>SC y s V u.length q.length i (W/V) (W%V) k.1) (fun k=>HD y V (mixL u (canon (W%V)) i k.1) q) (fun k=>m+2+1 - k.1) ⟨0,Nat.zero_le _⟩ 1 ?_ ?_ (by kernel_rfl)
 ·simpa only [VD] using hle
 ·rintro⟨k,hk⟩
  obtain⟨L,hL⟩:∃ L,W%V=L:=⟨_,rfl⟩
  obtain⟨d,hd⟩:∃ d,W/V=d:=⟨_,rfl⟩
  simp only [hL,hd]
  obtain⟨u',hu'⟩:∃ u',mixL u (canon L) i k=u':=⟨_,rfl⟩
  have hu'l:u'.length=u.length:=by rw [← hu',Jg]
  simp only [hu',← hu'l]
  rw [hL] at hLl hLV
  refine zc.run hmix J9 [0,1,4,8,9,10,11,12,13,15,151,152] 400 (T:=.ite (decide ((↑k:Int)<(↑(List.length (canon y)+1):Int))) (.side (inR .i64 ((↑i:Int)+k)) (.side ((0:Int)≤i+(↑k:Int)∧(↑i:Int)+k<(↑u'.length:Int)) (.ite (decide ((↑k:Int)<(↑(canon L).length:Int))) (.side (inR .i64 ((↑i:Int)+k)) (.side ((0:Int)≤k∧(↑k:Int)<(↑(canon L).length:Int)) (.side ((0:Int)≤i+(↑k:Int)∧(↑i:Int)+k<(↑u'.length:Int)) (.side (inR .i64 ((↑k:Int)+(1:Int))) (.leaf (.back 1 [(0,.undef),(1,.undef),(4,.osl 4 1 0 q.length),(8,.int .u32 s),(9,.int .i64 (↑(canon y).length:Int)),(10,.osl 1 1 0 u'.length),(11,.osl 3 1 0 (canon V).length),(12,.int .i64 i),(13,.int .u64 d),(15,.sl (canon L).length 1 (natG .u32 (canon L))),(151,.int .i64 (↑(List.length (canon y)+1):Int)),(152,.int .i64 ((↑k:Int)+(1:Int)))] [.dead,.arr u'.length 1 (updG (updG (natG .u32 u') (0+Int.toNat ((↑i:Int)+k)) 0 [.int .u32 0]) (0+Int.toNat ((↑i:Int)+k)) 0 [.int .u32 (↑(List.getD (canon L) (↑k:Int).toNat 0):Int)]),.dead,.arr (List.length (canon y)+1) 1 (natG .u32 (padN (List.length (canon y)+1) V)),.arr q.length 1 (natG .u32 q)])))))) (.side (inR .i64 ((↑k:Int)+(1:Int))) (.leaf (.back 1 [(0,.undef),(1,.undef),(4,.osl 4 1 0 q.length),(8,.int .u32 s),(9,.int .i64 (↑(canon y).length:Int)),(10,.osl 1 1 0 u'.length),(11,.osl 3 1 0 (canon V).length),(12,.int .i64 i),(13,.int .u64 d),(15,.sl (canon L).length 1 (natG .u32 (canon L))),(151,.int .i64 (↑(List.length (canon y)+1):Int)),(152,.int .i64 ((↑k:Int)+(1:Int)))] [.dead,.arr u'.length 1 (updG (natG .u32 u') (0+Int.toNat ((↑i:Int)+k)) 0 [.int .u32 0]),.dead,.arr (List.length (canon y)+1) 1 (natG .u32 (padN (List.length (canon y)+1) V)),.arr q.length 1 (natG .u32 q)])))))) (.side (inR .u32 (↑d:Int)) (.side ((0:Int)≤i∧(↑i:Int)<q.length) (.side (inR .i64 ((↑i:Int) - (1:Int))) (.leaf (.back 0 [(0,.undef),(1,.undef),(4,.osl 4 1 0 q.length),(8,.int .u32 s),(9,.int .i64 (↑(canon y).length:Int)),(10,.osl 1 1 0 u'.length),(11,.osl 3 1 0 (canon V).length),(12,.int .i64 ((↑i:Int) - (1:Int))),(13,.int .u64 d),(15,.sl (canon L).length 1 (natG .u32 (canon L))),(151,.int .i64 (↑(List.length (canon y)+1):Int)),(152,.int .i64 k)] [.dead,.arr u'.length 1 (natG .u32 u'),.dead,.arr (List.length (canon y)+1) 1 (natG .u32 (padN (List.length (canon y)+1) V)),.arr q.length 1 (updG (natG .u32 q) (0+Int.toNat (↑i:Int)) 0 [.int .u32 d])])))))) (by kernel_rfl) ?_
  have ek:0+((i:Int)+(k:Int)).toNat=i+k:=by omega
  have ek1:((k:Int)+1)=((k+1:Nat):Int):=by omega
  simp only [Tree.holds,zd,inR,lo,hi,ek,ek1,c2,Int.toNat_natCast]
  refine⟨fun hlt=> ?_,fun hge=> ?_⟩
  ·have hlt:k<m+2+1:=by simp at hlt; omega
   have hik:i+k<u'.length:=by omega
   refine⟨by omega,fun _=>⟨by omega,fun _=>⟨fun hin=> ?_,fun hout=> ?_⟩⟩⟩
   ·have hin:k<(canon L).length:=by simp at hin; omega
    iterate 4 refine⟨by omega,fun _=> ?_⟩
    rw [if_pos trivial]
    refine⟨⟨k+1,by omega⟩,by show m+2+1 - (k+1)<m+2+1 - k; omega,by simp [SC,magS,natS,za],?_,by kernel_rfl,Nat.zero_le _⟩
    have hs2:=Js u (canon L) i k 0
    rw [hu'] at hs2
    simp only [← hs2]
    refine⟨trivial,⟨by simp,rfl,?_⟩,trivial,by simp [za],by simp [za],trivial⟩
    have h1:=wN (k:=.u32) (l:=u') (v:=0) (i:=i+k) (by omega) hik
    have h2:=wN (k:=.u32) (l:=u'.set (i+k) 0) (v:=((canon L).getD k 0:Nat)) (i:=i+k) (by omega) (by simpa using hik)
    simp only [List.length_set,Int.toNat_natCast] at h2
    refine xC ?_ h2
    intro p o hp ho
    have:=h1 p o hp ho
    simp only [updG] at this ⊢
    split
    ·rfl
    ·exact this
   ·have hout:(canon L).length≤k:=by simp at hout; omega
    refine⟨by omega,fun _=> ?_⟩
    rw [if_pos trivial]
    refine⟨⟨k+1,by omega⟩,by show m+2+1 - (k+1)<m+2+1 - k; omega,by simp [SC,magS,natS,za],?_,by kernel_rfl,Nat.zero_le _⟩
    have hs2:=Js u (canon L) i k 0
    rw [hu'] at hs2
    have hz:(canon L).getD k 0=0:=by simp [List.getD,List.getElem?_eq_none hout]
    rw [hz,List.set_set] at hs2
    simp only [← hs2]
    refine⟨trivial,⟨by simp,rfl,?_⟩,trivial,by simp [za],by simp [za],trivial⟩
    exact wN (k:=.u32) (l:=u') (v:=0) (i:=i+k) (by omega) hik
  ·have hk:k=m+2+1:=by simp at hge; omega
   subst hk
   have hdB:d<B:=hd▸hWB
   iterate 3 refine⟨by omega,fun _=> ?_⟩
   rw [if_neg (by decide),if_pos trivial]
   have hval:=X4 (u:=u) (L:=L) (j:=i) (k:=m+2+1) (by omega) (by omega)
   rw [hu'] at hval
   have hst:=step_eq (u:=u) (u':=u') (q:=q) (j:=i) (k:=m+2+1) (V:=V) (U0:=U) hdu (by omega) (by simpa using hV1) (by omega) hV0 hlt (by omega) heq (by rw [hW,hL]; exact hval)
   rw [hW,hd] at hst
   refine⟨⟨u',q.set i d,i,by omega,by simpa using hql,by simp; omega,?_,yz hdq _ hdB,hst.2,hst.1⟩,Nat.lt_succ_self _,by simp [SD,za],?_,by kernel_rfl,Nat.zero_le _⟩
   ·rw [← hu']; exact Y1 hdu (zk _) _ _
   ·refine⟨trivial,⟨rfl,rfl,za _ _ _⟩,trivial,⟨rfl,rfl,za _ _ _⟩,⟨by simp,rfl,?_⟩,trivial⟩
    have:=wN (k:=.u32) (l:=q) (v:=(d:Int)) (i:=i) (by omega) (by omega)
    simpa using this
set_option maxHeartbeats 2000000 in
theorem Qu{x y s V U m i:Nat}{u q:List Nat}{O:Nat→Prop}{w0:World}{Q:AV×Heap→Prop}{Hs0:Nat→KV→Heap→Prop}(hm:(canon y).length=m+2)(hx:(canon x).length<100000)(hs0:0<s)(hsB:s<B)(hV1:V<B^(m+2))(hV2:B^(m+2)≤2*V)(hVl:(canon V).length=m+2)(hV0:0<V)
  (hul:u.length=(canon x).length+1) (hql:q.length+(canon y).length=(canon x).length+1) (hjq:i+1≤q.length) (hdu:dig u) (hdq:dig q) (heq:U=V*B^(i+1)*val (q.drop (i+1))+val u) (hlt:val u<V*B^(i+1)) :
  zc Try.prog Try.f64 O 0 w0 [] (fun d kv h=>if d=0 then ∃ x':ID x y V U,x'.j<i+1∧LeK 0 Try.f64.ntmps kv h (SD y s V x'.u.length x'.q.length x'.j) (HD y V x'.u x'.q) else Hs0 d kv h) (RetR yy 0 Q) (inside (inside K64 0) 0) (mk Try.f64.ntmps (SD y s V u.length q.length (i+1)) (HD y V u q)):=by
 have hB:B=1000000000:=rfl
 refine zc.run hmix J9 [0,1,4,8,9,10,11,12,13,15,151,152] 400 (T:=.ite (decide ((0:Int)≤(↑(i+1):Int) - (1:Int))) (.side (inR .i64 ((↑(i+1):Int) - (1:Int)+(↑(canon y).length:Int))) (.side ((0:Int)≤(↑(i+1):Int) - (1:Int)+(↑(canon y).length:Int)∧(↑(i+1):Int) - (1:Int)+(↑(canon y).length:Int)<u.length) (.side (inR .u64 (↑(u.getD (0+Int.toNat ((↑(i+1):Int) - (1:Int)+(↑(canon y).length:Int))) 0):Int)) (.side (inR .i64 ((↑(i+1):Int) - (1:Int)+(↑(canon y).length:Int))) (.side (inR .i64 ((↑(i+1):Int) - (1:Int)+(↑(canon y).length:Int) - (1:Int))) (.side ((0:Int)≤(↑(i+1):Int) - (1:Int)+(↑(canon y).length:Int) - (1:Int)∧(↑(i+1):Int) - (1:Int)+(↑(canon y).length:Int) - (1:Int)<u.length) (.side (inR .u64 (↑(u.getD (0+Int.toNat ((↑(i+1):Int) - (1:Int)+(↑(canon y).length:Int) - (1:Int))) 0):Int)) (.side (inR .i64 ((↑(i+1):Int) - (1:Int)+(↑(canon y).length:Int))) (.side (inR .i64 ((↑(i+1):Int) - (1:Int)+(↑(canon y).length:Int) - (2:Int))) (.side ((0:Int)≤(↑(i+1):Int) - (1:Int)+(↑(canon y).length:Int) - (2:Int)∧(↑(i+1):Int) - (1:Int)+(↑(canon y).length:Int) - (2:Int)<u.length) (.side (inR .u64 (↑(u.getD (0+Int.toNat ((↑(i+1):Int) - (1:Int)+(↑(canon y).length:Int) - (2:Int))) 0):Int)) (.side (inR .i64 ((↑(canon y).length:Int) - (1:Int))) (.side ((0:Int)≤(↑(canon y).length:Int) - (1:Int)∧(↑(canon y).length:Int) - (1:Int)<(↑(canon V).length:Int)) (.side (inR .u64 (↑(List.getD (padN (List.length (canon y)+1) V) (0+Int.toNat ((↑(canon y).length:Int) - (1:Int))) 0):Int)) (.side (inR .i64 ((↑(canon y).length:Int) - (2:Int))) (.side ((0:Int)≤(↑(canon y).length:Int) - (2:Int)∧(↑(canon y).length:Int) - (2:Int)<(↑(canon V).length:Int)) (.side (inR .u64 (↑(List.getD (padN (List.length (canon y)+1) V) (0+Int.toNat ((↑(canon y).length:Int) - (2:Int))) 0):Int)) (.ex (fun(x:D5)=>eqL [AV.int .u64 (↑(u.getD (0+Int.toNat ((↑(i+1):Int) - (1:Int)+(↑(canon y).length:Int))) 0):Int),AV.int .u64 (↑(u.getD (0+Int.toNat ((↑(i+1):Int) - (1:Int)+(↑(canon y).length:Int) - (1:Int))) 0):Int),AV.int .u64 (↑(u.getD (0+Int.toNat ((↑(i+1):Int) - (1:Int)+(↑(canon y).length:Int) - (2:Int))) 0):Int),AV.int .u64 (↑(List.getD (padN (List.length (canon y)+1) V) (0+Int.toNat ((↑(canon y).length:Int) - (1:Int))) 0):Int),AV.int .u64 (↑(List.getD (padN (List.length (canon y)+1) V) (0+Int.toNat ((↑(canon y).length:Int) - (2:Int))) 0):Int)] [AV.int .u64 (↑(D5.t x):Int),AV.int .u64 (↑(D5.u x):Int),AV.int .u64 (↑(D5.v x):Int),AV.int .u64 (↑(D5.y x):Int),AV.int .u64 (↑(D5.z x):Int)]∧D5.t x≤D5.y x∧D5.u x<1000000000∧D5.v x<1000000000∧D5.y x<1000000000∧D5.z x<1000000000∧1000000000≤2*D5.y x) fun n=>.all (fun(n_1:Nat)=>n_1=qH (D5.v n) (D5.y n) (D5.z n) 2 ((D5.t n*1000000000+D5.u n)/D5.y n) ((D5.t n*1000000000+D5.u n)%D5.y n)) fun n=>.side (inR .u32 (↑n:Int)) (.ex (fun(u:List Nat)=>u.length=1∧1≤1∧1<4611686018427387904∧eqG 1 1 (zh 1 [AV.int .u32 n]) (natG .u32 u)∧dig (List.take 1 (List.drop 0 u))) fun n_1=>.all (fun(x:Nat)=>x=val (List.take 1 (List.drop 0 n_1))) fun n_2=>.ex (fun(x:Nat×Nat)=>eqL [AV.sl (canon V).length 1 (zg (natG .u32 (padN (List.length (canon y)+1) V)) 0),AV.sl (canon n_2).length 1 (zg (zh 1 [AV.int .u32 n]) 0)] [AV.sl (canon x.1).length 1 (natG .u32 (canon x.1)),AV.sl (canon x.2).length 1 (natG .u32 (canon x.2))]∧fits x.1∧fits x.2) fun n_3=>.all (fun(p:Nat)=>p=n_3.1*n_3.2) fun n_4=>.side (inR .i64 ((↑(i+1):Int) - (1:Int)+(↑(canon y).length:Int))) (.side (inR .i64 ((↑(i+1):Int) - (1:Int)+(↑(canon y).length:Int)+(1:Int))) (.side ((0:Int)≤(↑(i+1):Int) - (1:Int)∧(↑(i+1):Int) - (1:Int)≤(↑(i+1):Int) - (1:Int)+(↑(canon y).length:Int)+(1:Int)∧(↑(i+1):Int) - (1:Int)+(↑(canon y).length:Int)+(1:Int)≤u.length) (.ex (fun(u_1:List Nat)=>u_1.length=u.length∧0+Int.toNat ((↑(i+1):Int) - (1:Int))+(Int.toNat ((↑(i+1):Int) - (1:Int)+(↑(canon y).length:Int)+(1:Int)) - Int.toNat ((↑(i+1):Int) - (1:Int)))≤u.length∧Int.toNat ((↑(i+1):Int) - (1:Int)+(↑(canon y).length:Int)+(1:Int)) - Int.toNat ((↑(i+1):Int) - (1:Int))<4611686018427387904∧eqG u.length 1 (natG .u32 u) (natG .u32 u_1)∧dig (List.take (Int.toNat ((↑(i+1):Int) - (1:Int)+(↑(canon y).length:Int)+(1:Int)) - Int.toNat ((↑(i+1):Int) - (1:Int))) (List.drop (0+Int.toNat ((↑(i+1):Int) - (1:Int))) u_1))) fun n_5=>.all (fun(x:Nat)=>x=val (List.take (Int.toNat ((↑(i+1):Int) - (1:Int)+(↑(canon y).length:Int)+(1:Int)) - Int.toNat ((↑(i+1):Int) - (1:Int))) (List.drop (0+Int.toNat ((↑(i+1):Int) - (1:Int))) n_5))) fun n_6=>.ex (fun(x:Nat×Nat)=>eqL [AV.sl (canon n_6).length 1 (zg (natG .u32 u) (0+Int.toNat ((↑(i+1):Int) - (1:Int)))),AV.sl (canon n_4).length 1 (zg (natG .u32 (padN (List.length (canon n_3.1)+List.length (canon n_3.2)) n_4)) 0)] [AV.sl (canon x.1).length 1 (natG .u32 (canon x.1)),AV.sl (canon x.2).length 1 (natG .u32 (canon x.2))]∧fits x.1∧fits x.2) fun n_7=>.all (fun(r:Int)=>r=cmp3 n_7.1 n_7.2) fun n_8=>.ite (decide (n_8<0)) (.side (inR .u64 ((↑n:Int) - (1:Int))) (.side (inR .u32 ((↑n:Int) - (1:Int))) (.ex (fun(u:List Nat)=>u.length=1∧1≤1∧1<4611686018427387904∧eqG 1 1 (zh 1 [AV.int .u32 ((↑n:Int) - (1:Int))]) (natG .u32 u)∧dig (List.take 1 (List.drop 0 u))) fun n_9=>.all (fun(x:Nat)=>x=val (List.take 1 (List.drop 0 n_9))) fun n_10=>.ex (fun(x:Nat×Nat)=>eqL [AV.sl (canon V).length 1 (zg (natG .u32 (padN (List.length (canon y)+1) V)) 0),AV.sl (canon n_10).length 1 (zg (zh 1 [AV.int .u32 ((↑n:Int) - (1:Int))]) 0)] [AV.sl (canon x.1).length 1 (natG .u32 (canon x.1)),AV.sl (canon x.2).length 1 (natG .u32 (canon x.2))]∧fits x.1∧fits x.2) fun n_11=>.all (fun(p:Nat)=>p=n_11.1*n_11.2) fun n_12=>.side (inR .i64 ((↑(i+1):Int) - (1:Int)+(↑(canon y).length:Int))) (.side (inR .i64 ((↑(i+1):Int) - (1:Int)+(↑(canon y).length:Int)+(1:Int))) (.side ((0:Int)≤(↑(i+1):Int) - (1:Int)∧(↑(i+1):Int) - (1:Int)≤(↑(i+1):Int) - (1:Int)+(↑(canon y).length:Int)+(1:Int)∧(↑(i+1):Int) - (1:Int)+(↑(canon y).length:Int)+(1:Int)≤u.length) (.ex (fun(u_1:List Nat)=>u_1.length=u.length∧0+Int.toNat ((↑(i+1):Int) - (1:Int))+(Int.toNat ((↑(i+1):Int) - (1:Int)+(↑(canon y).length:Int)+(1:Int)) - Int.toNat ((↑(i+1):Int) - (1:Int)))≤u.length∧Int.toNat ((↑(i+1):Int) - (1:Int)+(↑(canon y).length:Int)+(1:Int)) - Int.toNat ((↑(i+1):Int) - (1:Int))<4611686018427387904∧eqG u.length 1 (natG .u32 u) (natG .u32 u_1)∧dig (List.take (Int.toNat ((↑(i+1):Int) - (1:Int)+(↑(canon y).length:Int)+(1:Int)) - Int.toNat ((↑(i+1):Int) - (1:Int))) (List.drop (0+Int.toNat ((↑(i+1):Int) - (1:Int))) u_1))) fun n_13=>.all (fun(x:Nat)=>x=val (List.take (Int.toNat ((↑(i+1):Int) - (1:Int)+(↑(canon y).length:Int)+(1:Int)) - Int.toNat ((↑(i+1):Int) - (1:Int))) (List.drop (0+Int.toNat ((↑(i+1):Int) - (1:Int))) n_13))) fun n_14=>.ex (fun(x:Nat×Nat)=>eqL [AV.sl (canon n_14).length 1 (zg (natG .u32 u) (0+Int.toNat ((↑(i+1):Int) - (1:Int)))),AV.sl (canon n_12).length 1 (zg (natG .u32 (padN (List.length (canon n_11.1)+List.length (canon n_11.2)) n_12)) 0)] [AV.sl (canon x.1).length 1 (natG .u32 (canon x.1)),AV.sl (canon x.2).length 1 (natG .u32 (canon x.2))]∧fits x.1∧x.2≤x.1) fun n_15=>.all (fun(d:Nat)=>d=n_15.1 - n_15.2) fun n_16=>.side (inR .i64 ((↑(canon y).length:Int)+(1:Int))) (.leaf (.loop (Prod.fst (lps (inside (inside K64 0) 0) 0)) (Prod.snd (lps (inside (inside K64 0) 0) 0)) [(0,.undef),(1,.undef),(4,.osl 4 1 0 q.length),(8,.int .u32 s),(9,.int .i64 (↑(canon y).length:Int)),(10,.osl 1 1 0 u.length),(11,.osl 3 1 0 (canon V).length),(12,.int .i64 ((↑(i+1):Int) - (1:Int))),(13,.int .u64 ((↑n:Int) - (1:Int))),(15,.sl (canon n_16).length 1 (natG .u32 (canon n_16))),(151,.int .i64 ((↑(canon y).length:Int)+(1:Int))),(152,.int .i64 0)] [.dead,.arr u.length 1 (natG .u32 u),.dead,.arr (List.length (canon y)+1) 1 (natG .u32 (padN (List.length (canon y)+1) V)),.arr q.length 1 (natG .u32 q),.arr 1 1 (zh 1 [.int .u32 n]),.arr (List.length (canon n_3.1)+List.length (canon n_3.2)) 1 (natG .u32 (padN (List.length (canon n_3.1)+List.length (canon n_3.2)) n_4)),.arr 1 1 (zh 1 [.int .u32 ((↑n:Int) - (1:Int))]),.arr (List.length (canon n_11.1)+List.length (canon n_11.2)) 1 (natG .u32 (padN (List.length (canon n_11.1)+List.length (canon n_11.2)) n_12))])))))))) (.side (inR .i64 ((↑(i+1):Int) - (1:Int)+(↑(canon y).length:Int))) (.side (inR .i64 ((↑(i+1):Int) - (1:Int)+(↑(canon y).length:Int)+(1:Int))) (.side ((0:Int)≤(↑(i+1):Int) - (1:Int)∧(↑(i+1):Int) - (1:Int)≤(↑(i+1):Int) - (1:Int)+(↑(canon y).length:Int)+(1:Int)∧(↑(i+1):Int) - (1:Int)+(↑(canon y).length:Int)+(1:Int)≤u.length) (.ex (fun(u_1:List Nat)=>u_1.length=u.length∧0+Int.toNat ((↑(i+1):Int) - (1:Int))+(Int.toNat ((↑(i+1):Int) - (1:Int)+(↑(canon y).length:Int)+(1:Int)) - Int.toNat ((↑(i+1):Int) - (1:Int)))≤u.length∧Int.toNat ((↑(i+1):Int) - (1:Int)+(↑(canon y).length:Int)+(1:Int)) - Int.toNat ((↑(i+1):Int) - (1:Int))<4611686018427387904∧eqG u.length 1 (natG .u32 u) (natG .u32 u_1)∧dig (List.take (Int.toNat ((↑(i+1):Int) - (1:Int)+(↑(canon y).length:Int)+(1:Int)) - Int.toNat ((↑(i+1):Int) - (1:Int))) (List.drop (0+Int.toNat ((↑(i+1):Int) - (1:Int))) u_1))) fun n_9=>.all (fun(x:Nat)=>x=val (List.take (Int.toNat ((↑(i+1):Int) - (1:Int)+(↑(canon y).length:Int)+(1:Int)) - Int.toNat ((↑(i+1):Int) - (1:Int))) (List.drop (0+Int.toNat ((↑(i+1):Int) - (1:Int))) n_9))) fun n_10=>.ex (fun(x:Nat×Nat)=>eqL [AV.sl (canon n_10).length 1 (zg (natG .u32 u) (0+Int.toNat ((↑(i+1):Int) - (1:Int)))),AV.sl (canon n_4).length 1 (zg (natG .u32 (padN (List.length (canon n_3.1)+List.length (canon n_3.2)) n_4)) 0)] [AV.sl (canon x.1).length 1 (natG .u32 (canon x.1)),AV.sl (canon x.2).length 1 (natG .u32 (canon x.2))]∧fits x.1∧x.2≤x.1) fun n_11=>.all (fun(d:Nat)=>d=n_11.1 - n_11.2) fun n_12=>.side (inR .i64 ((↑(canon y).length:Int)+(1:Int))) (.leaf (.loop (Prod.fst (lps (inside (inside K64 0) 0) 0)) (Prod.snd (lps (inside (inside K64 0) 0) 0)) [(0,.undef),(1,.undef),(4,.osl 4 1 0 q.length),(8,.int .u32 s),(9,.int .i64 (↑(canon y).length:Int)),(10,.osl 1 1 0 u.length),(11,.osl 3 1 0 (canon V).length),(12,.int .i64 ((↑(i+1):Int) - (1:Int))),(13,.int .u64 n),(15,.sl (canon n_12).length 1 (natG .u32 (canon n_12))),(151,.int .i64 ((↑(canon y).length:Int)+(1:Int))),(152,.int .i64 0)] [.dead,.arr u.length 1 (natG .u32 u),.dead,.arr (List.length (canon y)+1) 1 (natG .u32 (padN (List.length (canon y)+1) V)),.arr q.length 1 (natG .u32 q),.arr 1 1 (zh 1 [.int .u32 n]),.arr (List.length (canon n_3.1)+List.length (canon n_3.2)) 1 (natG .u32 (padN (List.length (canon n_3.1)+List.length (canon n_3.2)) n_4))])))))))))))))))))))))))))))) (.ex (fun(u_1:List Nat)=>u_1.length=u.length∧0+u.length≤u.length∧u.length<4611686018427387904∧eqG u.length 1 (natG .u32 u) (natG .u32 u_1)∧dig (List.take u.length (List.drop 0 u_1))) fun n=>.all (fun(x:Nat)=>x=val (List.take u.length (List.drop 0 n))) fun n=>.ex (fun(x:Nat×Nat)=>eqL [AV.sl (canon n).length 1 (zg (natG .u32 u) 0),AV.int .u32 s] [AV.sl (canon x.1).length 1 (natG .u32 (canon x.1)),AV.int .u32 x.2]∧fits x.1∧0<x.2∧x.2<1000000000) fun n=>.all (fun(r:Nat×Nat)=>r=(n.1/n.2,n.1%n.2)) fun n=>.ex (fun(u:List Nat)=>u.length=q.length∧0+q.length≤q.length∧q.length<4611686018427387904∧eqG q.length 1 (natG .u32 q) (natG .u32 u)∧dig (List.take q.length (List.drop 0 u))) fun n_1=>.all (fun(x:Nat)=>x=val (List.take q.length (List.drop 0 n_1))) fun n_2=>.leaf (.ret [.osl 4 1 0 (canon n_2).length,.sl (canon n.1).length 1 (natG .u32 (canon n.1))] [.dead,.arr u.length 1 (natG .u32 u),.dead,.arr (List.length (canon y)+1) 1 (natG .u32 (padN (List.length (canon y)+1) V)),.arr q.length 1 (natG .u32 q)]))) (by kernel_rfl) ?_
 simp only [Tree.holds,zd,inR,lo,hi]
 refine⟨fun hj=> ?_,fun hj=>by simp at hj⟩
 have ej:(((i+1:Nat):Int) - 1)=(i:Int):=by omega
 have a1:0+((i:Int)+((canon y).length:Int)).toNat=i+(m+2):=by omega
 have a2:0+((i:Int)+((canon y).length:Int) - 1).toNat=i+(m+1):=by omega
 have a3:0+((i:Int)+((canon y).length:Int) - 2).toNat=i+m:=by omega
 have b1:0+(((canon y).length:Int) - 1).toNat=m+1:=by omega
 have b2:0+(((canon y).length:Int) - 2).toNat=m:=by omega
 have c1:((i:Int)+((canon y).length:Int)+1).toNat - (i:Int).toNat=m+2+1:=by omega
 have c2:0+(i:Int).toNat=i:=by omega
 simp only [ej,a1,a2,a3,b1,b2,c1,c2,KY]
 have hu1:=zM hdu (i+(m+2))
 have hu2:=zM hdu (i+(m+1))
 have hu3:=zM hdu (i+m)
 have hv1:=zM (zk V) (m+1)
 have hv2:=zM (zk V) m
 iterate 17 refine⟨by omega,fun _=> ?_⟩
 obtain⟨W,hW⟩:∃ W,val ((u.drop i).take (m+2+1))=W:=⟨_,rfl⟩
 have hdw:dig ((u.drop i).take (m+2+1)):=qX (uB hdu _) _
 have hWl:(canon W).length≤m+2+1:=by
  refine z1 ?_
  have:=qc hdw
  rw [hW,List.length_take] at this
  exact Nat.lt_of_lt_of_le this (Nat.pow_le_pow_right (by decide) (Nat.min_le_left _ _))
 obtain⟨g1,g2,g3,g4,g5,g6⟩:=Xy hdu (by omega) hVl hV2 hlt hW rfl
 refine⟨⟨u.getD (i+(m+2)) 0,u.getD (i+(m+1)) 0,u.getD (i+m) 0,(canon V).getD (m+1) 0,(canon V).getD m 0⟩,⟨by simp,g3,hu2,hu3,hv1,hv2,g2⟩,⟨_,rfl⟩,?_⟩
 intro d hd
 simp only at hd
 rw [← hd] at g4 g5 g6
 clear hd
 have hWVB:W/V<B:=by omega
 have fin:=QY (x:=x) (y:=y) (s:=s) (V:=V) (U:=U) (O:=O) (w0:=w0) (Q:=Q) (Hs0:=Hs0) hm hx hs0 hsB hV1 hV2 hVl hV0 hul hql hjq hdu hdq heq hlt hW hWVB
 have hdm:=Nat.div_add_mod W V
 have hmlt:=Nat.mod_lt W hV0
 have hul2:i+(m+2+1)≤u.length:=by omega
 have hul3:u.length<100002:=by omega
 clear heq hlt hul hql hjq hdq hx hs0 hsB hV2 g1 g2 g3 hu1 hu2 hu3 hv1 hv2 hj a1 a2 a3 b1 b2
 generalize W/V=qd at *
 generalize W%V=rm at *
 refine⟨by omega,fun _=> ?_⟩
 refine⟨[d],⟨rfl,by omega,by omega,k6 _ _,by simpa [dig] using g6⟩,⟨_,rfl⟩,?_⟩
 intro D hD
 have hD:D=d:=by simpa [val] using hD
 subst hD
 have hdl:=z1 (x:=D) (n:=1) (by simpa using g6)
 refine⟨(V,D),⟨?_,by simp only [fits]; omega,by simp only [fits]; omega⟩,⟨_,rfl⟩,?_⟩
 ·simp only [eqL,eqA,eqA0,true_and,and_true]
  exact⟨xi (by omega),jY g6⟩
 intro p hp
 simp only at hp ⊢
 have hpl:=kD V D
 rw [← hp] at hpl
 iterate 3 refine⟨by omega,fun _=> ?_⟩
 refine⟨u,⟨rfl,hul2,by omega,za _ _ _,hdw⟩,⟨_,rfl⟩,?_⟩
 intro W' hW'
 have hW':W'=W:=hW'.trans hW
 subst hW'
 refine⟨(W',p),⟨?_,by simp only [fits]; omega,by simp only [fits]; omega⟩,⟨_,rfl⟩,?_⟩
 ·simp only [eqL,eqA,eqA0,true_and,and_true]
  exact⟨je hdw hW,xi hpl⟩
 rintro c rfl
 refine⟨fun hlt2=> ?_,fun hge2=> ?_⟩
 ·have hlt2:W'<p:=by
   simp only [cmp3,decide_eq_true_eq] at hlt2
   rcases Nat.lt_or_ge W' p with h | h
   ·exact h
   ·rw [if_neg (by omega)] at hlt2; split at hlt2<;>omega
  have hDQ:D=qd+1:=by
   rcases Nat.lt_or_ge qd D with h | h
   ·omega
   ·have:V*D≤V*qd:=Nat.mul_le_mul_left _ h
    omega
  have e3:((D:Int) - 1)=((qd:Nat):Int):=by omega
  simp only [e3]
  have hQl:=z1 (x:=qd) (n:=1) (by simpa using hWVB)
  iterate 2 refine⟨by omega,fun _=> ?_⟩
  refine⟨[qd],⟨rfl,by omega,by omega,k6 _ _,by simpa [dig] using hWVB⟩,⟨_,rfl⟩,?_⟩
  intro E hE
  have hE:E=qd:=by simpa [val] using hE
  subst hE
  refine⟨(V,E),⟨?_,by simp only [fits]; omega,by simp only [fits]; omega⟩,⟨_,rfl⟩,?_⟩
  ·simp only [eqL,eqA,eqA0,true_and,and_true]
   exact⟨xi (by omega),jY hWVB⟩
  intro p2 hp2
  simp only at hp2 ⊢
  have hp2l:=kD V E
  rw [← hp2] at hp2l
  iterate 3 refine⟨by omega,fun _=> ?_⟩
  refine⟨u,⟨rfl,hul2,by omega,za _ _ _,hdw⟩,⟨_,rfl⟩,?_⟩
  intro W2 hW2
  have hW2:W2=W':=hW2.trans hW
  subst hW2
  refine⟨(W2,p2),⟨?_,by simp only [fits]; omega,by simp only; omega⟩,⟨_,rfl⟩,?_⟩
  ·simp only [eqL,eqA,eqA0,true_and,and_true]
   exact⟨je hdw hW,xi hp2l⟩
  intro L hL
  simp only at hL ⊢
  have hL:L=rm:=by omega
  subst hL
  refine⟨by omega,fun _=> ?_⟩
  refine fin _ _ ⟨by simp [SC,magS,natS,za,hVl],?_,by kernel_rfl,Nat.zero_le _⟩
  simp [HD,za]
 ·have hge2:p≤W':=by
   simp only [cmp3,decide_eq_false_iff_not] at hge2
   rcases Nat.lt_or_ge W' p with h | h
   ·rw [if_pos h] at hge2; omega
   ·exact h
  have hDQ:D=qd:=by
   rcases Nat.lt_or_ge qd D with h | h
   ·have:V*(qd+1)≤V*D:=Nat.mul_le_mul_left _ h
    rw [Nat.mul_add] at this
    omega
   ·omega
  subst hDQ
  iterate 3 refine⟨by omega,fun _=> ?_⟩
  refine⟨u,⟨rfl,hul2,by omega,za _ _ _,hdw⟩,⟨_,rfl⟩,?_⟩
  intro W2 hW2
  have hW2:W2=W':=hW2.trans hW
  subst hW2
  refine⟨(W2,p),⟨?_,by simp only [fits]; omega,hge2⟩,⟨_,rfl⟩,?_⟩
  ·simp only [eqL,eqA,eqA0,true_and,and_true]
   exact⟨je hdw hW,xi hpl⟩
  intro L hL
  simp only at hL ⊢
  have hL:L=rm:=by omega
  subst hL
  refine⟨by omega,fun _=> ?_⟩
  refine fin _ _ ⟨by simp [SC,magS,natS,za,hVl],?_,by kernel_rfl,Nat.zero_le _⟩
  simp [HD,za]
set_option maxHeartbeats 4000000 in
theorem K2:zf Try.prog 64 yy:=by
 refine y7 (fn:=Try.f64) (c:=Try.f64.body.getD .skip) rfl rfl rfl fun x y hp O w0 Q hq=> ?_
 replace hq:=hq _ rfl
 obtain⟨hx,hy,hy0⟩:=hp
 simp only at hq
 have hB:B=1000000000:=rfl
 refine zc.run hmix J9 [0,1,4,8,9,10,11,12,13,15,151,152] 400 (T:=.ex (fun(x_1:Nat×Nat)=>eqL [AV.sl (canon x).length 1 (natG .u32 (canon x)),AV.sl (canon y).length 1 (natG .u32 (canon y))] [AV.sl (canon x_1.1).length 1 (natG .u32 (canon x_1.1)),AV.sl (canon x_1.2).length 1 (natG .u32 (canon x_1.2))]∧fits x_1.1∧fits x_1.2) fun n=>.all (fun(r:Int)=>r=cmp3 n.1 n.2) fun n=>.ite (decide (n<0)) (.leaf (.ret [.nils,.sl (canon x).length 1 (natG .u32 (canon x))] [])) (.ite (decide ((↑(canon y).length:Int)=1)) (.side ((0:Int)≤0∧(0:Int)<(↑(canon y).length:Int)) (.ex (fun(x_1:Nat×Nat)=>eqL [AV.sl (canon x).length 1 (natG .u32 (canon x)),AV.int .u32 (↑(List.getD (canon y) 0 0):Int)] [AV.sl (canon x_1.1).length 1 (natG .u32 (canon x_1.1)),AV.int .u32 x_1.2]∧fits x_1.1∧0<x_1.2∧x_1.2<1000000000) fun n=>.all (fun(r:Nat×Nat)=>r=(n.1/n.2,n.1%n.2)) fun n=>.ex (fun(u:List Nat)=>u.length=1∧1≤1∧1<4611686018427387904∧eqG 1 1 (zh 1 [AV.int .u32 n.2]) (natG .u32 u)∧dig (List.take 1 (List.drop 0 u))) fun n_1=>.all (fun(x:Nat)=>x=val (List.take 1 (List.drop 0 n_1))) fun n_2=>.leaf (.ret [.sl (canon n.1).length 1 (natG .u32 (canon n.1)),.osl 0 1 0 (canon n_2).length] [.arr 1 1 (zh 1 [.int .u32 n.2])]))) (.side (inR .i64 ((↑(canon y).length:Int) - (1:Int))) (.side ((0:Int)≤(↑(canon y).length:Int) - (1:Int)∧(↑(canon y).length:Int) - (1:Int)<(↑(canon y).length:Int)) (.side (inR .u64 (↑(List.getD (canon y) (Int.toNat ((↑(canon y).length:Int) - (1:Int))) 0):Int)) (.side (inR .u64 ((↑(List.getD (canon y) (Int.toNat ((↑(canon y).length:Int) - (1:Int))) 0):Int)+(1:Int))) (.side ((↑(List.getD (canon y) (Int.toNat ((↑(canon y).length:Int) - (1:Int))) 0):Int)+(1:Int)≠0∧inR .u64 (Int.tdiv (1000000000:Int) ((↑(List.getD (canon y) (Int.toNat ((↑(canon y).length:Int) - (1:Int))) 0):Int)+(1:Int)))) (.side (inR .u32 (Int.tdiv (1000000000:Int) ((↑(List.getD (canon y) (Int.toNat ((↑(canon y).length:Int) - (1:Int))) 0):Int)+(1:Int)))) (.ex (fun(x_1:Nat×Nat)=>eqL [AV.sl (canon x).length 1 (natG .u32 (canon x)),AV.sl 1 1 (zg (zh 1 [AV.int .u32 (Int.tdiv (1000000000:Int) ((↑(List.getD (canon y) (Int.toNat ((↑(canon y).length:Int) - (1:Int))) 0):Int)+(1:Int)))]) 0)] [AV.sl (canon x_1.1).length 1 (natG .u32 (canon x_1.1)),AV.sl (canon x_1.2).length 1 (natG .u32 (canon x_1.2))]∧fits x_1.1∧fits x_1.2) fun n=>.all (fun(p:Nat)=>p=n.1*n.2) fun n_1=>.leaf (.loop (Prod.fst (lps K64 0)) (Prod.snd (lps K64 0)) [(0,.sl (canon x).length 1 (natG .u32 (canon x))),(1,.sl (canon y).length 1 (natG .u32 (canon y))),(4,.nils),(8,.int .u32 (Int.tdiv (1000000000:Int) ((↑(List.getD (canon y) (Int.toNat ((↑(canon y).length:Int) - (1:Int))) 0):Int)+(1:Int)))),(9,.int .i64 (↑(canon y).length:Int)),(10,.osl 1 1 0 (canon n_1).length),(11,.undef),(12,.undef),(13,.undef),(15,.undef),(151,.undef),(152,.undef)] [.arr 1 1 (zh 1 [.int .u32 (Int.tdiv (1000000000:Int) ((↑(List.getD (canon y) (Int.toNat ((↑(canon y).length:Int) - (1:Int))) 0):Int)+(1:Int)))]),.arr (List.length (canon n.1)+List.length (canon n.2)) 1 (natG .u32 (padN (List.length (canon n.1)+List.length (canon n.2)) n_1))])))))))))) (by kernel_rfl) ?_
 simp only [Tree.holds,zd,inR,lo,hi]
 refine⟨(x,y),⟨by simp [za],by simp only [fits]; omega,by simp only [fits]; omega⟩,⟨_,rfl⟩,?_⟩
 rintro c rfl
 have hyl:0<(canon y).length:=jc (n:=0) (by simp; omega)
 refine⟨fun hlt=> ?_,fun hge=>⟨fun h1=>⟨by omega,fun _=> ?_⟩,fun hn=> ?_⟩⟩
 ·have hxy:x<y:=by
   simp only [cmp3,decide_eq_true_eq] at hlt
   rcases Nat.lt_or_ge x y with h | h
   ·exact h
   ·rw [if_neg (by omega)] at hlt; split at hlt<;>omega
  rw [Nat.div_eq_of_lt hxy,Nat.mod_eq_of_lt hxy] at hq
  refine RetR.out0 hq (fun h=>by cases h) ?_
  simp [resV,exp2,exp1,exp0,ren0,eqA2,eqL1,magS,natS,zP,za]
 ·have h1:(canon y).length=1:=by simp at h1; omega
  have hyd:y=(canon y).getD 0 0:=by
   have:=zm y
   obtain⟨a,ha⟩:=List.length_eq_one_iff.1 h1
   rw [ha] at this ⊢
   simp [val] at this ⊢; omega
  have hyB:y<B:=hyd▸zM (zk y) 0
  rw [← hyd]
  refine⟨(x,y),⟨by simp [za],by simp only [fits]; omega,hy0,hyB⟩,⟨_,rfl⟩,?_⟩
  rintro r rfl
  have hm:=Nat.mod_lt x hy0
  have hmB:x%y<B:=by omega
  refine⟨[x%y],⟨rfl,by omega,by omega,k6 _ _,by simpa [dig] using hmB⟩,⟨_,rfl⟩,?_⟩
  intro X hX
  have hX:X=x%y:=by simpa [val] using hX
  subst hX
  refine RetR.out0 hq (fun h=>by cases h) ?_
  simp only [resV,exp2,List.map_cons,List.map_nil,exp1,exp0,ren0,zo,frz1,qJ,List.getElem?_cons_zero,if_true,eqA2,eqL1,eqA,eqA0,magS,natS,true_and,and_true]
  exact⟨za _ _ _,jY hmB⟩
 ·have hn:2≤(canon y).length:=by simp at hn; omega
  obtain⟨m,hm⟩:∃ m,(canon y).length=m+2:=⟨(canon y).length - 2,by omega⟩
  have e1:((((canon y).length:Nat):Int) - 1).toNat=m+1:=by omega
  have hty:=zM (zk y) (m+1)
  have htop:(canon y).getD (m+1) 0≠0:=by
   have:=qo (canon y) (by rw [qN]; omega)
   rw [qN,hm] at this
   exact this
  have hyv:∃ r,r<B^(m+1)∧y=r+B^(m+1)*(canon y).getD (m+1) 0:=by
   refine⟨val ((canon y).take (m+1)),?_,?_⟩
   ·have:=qc (qX (zk y) (m+1))
    rwa [List.length_take,Nat.min_eq_left (by omega)] at this
   ·have:=zt (canon y) (m+1)
    rwa [List.take_of_length_le (by omega),zm] at this
  rw [e1]
  generalize (canon y).getD (m+1) 0=t at hty htop hyv ⊢
  have e2:Int.tdiv 1000000000 ((t:Int)+1)=((B/(t+1):Nat):Int):=by
   have:((t:Int)+1)=((t+1:Nat):Int):=by omega
   rw [this]; rfl
  rw [e2]
  obtain⟨s,hs⟩:∃ s,B/(t+1)=s:=⟨_,rfl⟩
  obtain⟨hs0,hs1,hs2⟩:=Xz (by omega) hs.symm hty
  rw [hs]
  have hsB:s<B:=by
   have:s*2≤s*(t+1):=Nat.mul_le_mul_left _ (by omega)
   omega
  obtain⟨r0,hr0,hyr⟩:=hyv
  obtain⟨hV1,hV2⟩:=scaled hr0 hyr hs0 hs1 hs2
  refine⟨by omega,fun _=>⟨by omega,fun _=>⟨by omega,fun _=>⟨by omega,fun _=>⟨by omega,fun _=>⟨by omega,fun _=> ?_⟩⟩⟩⟩⟩⟩
  have hsl:=uZ hs0 hsB
  refine⟨(x,s),⟨?_,by simp only [fits]; omega,by simp only [fits]; omega⟩,⟨_,rfl⟩,?_⟩
  ·simp only [eqL,eqA,eqA0,true_and,and_true]
   refine⟨za _ _ _,hsl.symm,?_⟩
   have:=jY hsB
   rwa [hsl] at this
  intro U hU
  simp only at hU ⊢
  rw [hsl]
  have hxs:U<B^((canon x).length+1):=by
   have h1:=qc (zk x)
   rw [zm] at h1
   rw [hU,Nat.pow_succ]
   exact Nat.mul_lt_mul'' h1 hsB
  have hUl:=z1 hxs
  have hcan:(canon x).length+1≥m+2:=by
   rcases Nat.lt_or_ge (canon x).length (m+1) with h | h
   ·exfalso
    have:=zZ (x:=x) (y:=y) (by omega)
    simp [cmp3,this] at hge
   ·omega
  have hylx:(canon y).length≤(canon x).length:=by
   rcases Nat.lt_or_ge (canon x).length (canon y).length with h | h
   ·exfalso
    have:=zZ h
    simp [cmp3,this] at hge
   ·exact h
  refine zc.loop (ι:=IG x U) (fun i=>SG x y s i.k) (fun i=>[.dead,.arr i.o.length 1 (natG .u32 i.o)]) (fun i=>(canon x).length+1 - i.k)
   ⟨(canon U).length,padN ((canon x).length+1) U,by rw [Qb hUl]; exact hUl,by rw [Qb hUl]; omega,qX (YA _ _) _,by simp [padN,zm]⟩ 0 ?_ ?_ (by kernel_rfl)
  ·exact⟨by simp [SG,magS,natS,za],by simp [za,Qb hUl],by kernel_rfl,Nat.zero_le _⟩
  ·rintro⟨k,o,hko,hol,hdo,hvo⟩
   refine zc.run hmix J9 [0,1,4,8,9,10,11,12,13,15,151,152] 400 (T:=.ite (decide ((↑k:Int)≤(↑(canon x).length:Int))) (.side (0=0∧k≤o.length∧(k+1)*4≤140737488355328) (.leaf (.back 0 [(0,.sl (canon x).length 1 (natG .u32 (canon x))),(1,.sl (canon y).length 1 (natG .u32 (canon y))),(4,.nils),(8,.int .u32 s),(9,.int .i64 (↑(canon y).length:Int)),(10,.osl 1 1 0 (k+1)),(11,.undef),(12,.undef),(13,.undef),(15,.undef),(151,.undef),(152,.undef)] [.dead,.arr (k+1) 1 (appG k (natG .u32 o) (zg (zh 1 [.int .u32 0]) 0)),.arr 1 1 (zh 1 [.int .u32 0])]))) (.ex (fun(x:Nat×Nat)=>eqL [AV.sl (canon y).length 1 (natG .u32 (canon y)),AV.sl 1 1 (zg (zh 1 [AV.int .u32 s]) 0)] [AV.sl (canon x.1).length 1 (natG .u32 (canon x.1)),AV.sl (canon x.2).length 1 (natG .u32 (canon x.2))]∧fits x.1∧fits x.2) fun n=>.all (fun(p:Nat)=>p=n.1*n.2) fun n_1=>.side (inR .i64 ((↑k:Int) - (↑(canon y).length:Int))) (.side ((0:Int)≤k - (↑(canon y).length:Int)∧(↑k:Int) - (↑(canon y).length:Int)≤k - (↑(canon y).length:Int)∧inR .i64 ((↑k:Int) - (↑(canon y).length:Int))∧Int.toNat ((↑k:Int) - (↑(canon y).length:Int))*4≤140737488355328) (.side (inR .i64 ((↑k:Int) - (↑(canon y).length:Int))) (.side (inR .i64 ((↑k:Int) - (↑(canon y).length:Int) - (1:Int))) (.leaf (.loop (Prod.fst (lps (inside K64 0) 0)) (Prod.snd (lps (inside K64 0) 0)) [(0,.sl (canon x).length 1 (natG .u32 (canon x))),(1,.sl (canon y).length 1 (natG .u32 (canon y))),(4,.osl 4 1 0 (Int.toNat ((↑k:Int) - (↑(canon y).length:Int)))),(8,.int .u32 s),(9,.int .i64 (↑(canon y).length:Int)),(10,.osl 1 1 0 k),(11,.osl 3 1 0 (canon n_1).length),(12,.int .i64 ((↑k:Int) - (↑(canon y).length:Int) - (1:Int))),(13,.undef),(15,.undef),(151,.undef),(152,.undef)] [.dead,.arr o.length 1 (natG .u32 o),.arr 1 1 (zh 1 [.int .u32 s]),.arr (List.length (canon n.1)+List.length (canon n.2)) 1 (natG .u32 (padN (List.length (canon n.1)+List.length (canon n.2)) n_1)),.arr (Int.toNat ((↑k:Int) - (↑(canon y).length:Int))) 1 (x1 [.int .u32 0])]))))))) (by kernel_rfl) ?_
   simp only [Tree.holds,zd,inR,lo,hi]
   refine⟨fun hk=> ?_,fun hk=> ?_⟩
   ·have hk:k≤(canon x).length:=by simp at hk; omega
    refine⟨⟨trivial,hko,by omega⟩,fun _=> ?_⟩
    rw [if_pos trivial]
    have hkl:(o.take k).length=k:=by rw [List.length_take]; omega
    refine⟨⟨k+1,o.take k++[0],by simp [hkl],by simp [hkl]; omega,?_,?_⟩,by show _ - (k+1)<_ - k; omega,by simp [SG,magS,natS,za],?_,by kernel_rfl,Nat.zero_le _⟩
    ·rw [List.take_of_length_le (by simp [hkl])]; exact j7.2 ⟨hdo,by simp [dig]⟩
    ·rw [List.take_of_length_le (by simp [hkl]),zI]; simp [val,hvo]
    ·refine⟨trivial,⟨by simp [hkl],rfl,?_⟩,trivial⟩
     intro j o' hj ho'
     have:o'=0:=by omega
     subst this
     simp only [appG,zg,zh,natG]
     by_cases h:j<k
     ·rw [if_pos h]
      simp only [List.getD]
      rw [List.getElem?_append_left (by omega),List.getElem?_take,if_pos h]
     ·have:j=k:=by omega
      subst this
      rw [if_neg h]
      simp [List.getElem?_append_right,hkl]
   ·have hk:k=(canon x).length+1:=by simp at hk; omega
    have hok:o.length=(canon x).length+1:=by omega
    rw [List.take_of_length_le (by omega)] at hdo hvo
    refine⟨(y,s),⟨?_,by simp only [fits]; omega,by simp only [fits]; omega⟩,⟨_,rfl⟩,?_⟩
    ·simp only [eqL,eqA,eqA0,true_and,and_true]
     refine⟨za _ _ _,hsl.symm,?_⟩
     have:=jY hsB
     rwa [hsl] at this
    intro V hV
    simp only at hV ⊢
    rw [hsl]
    rw [← hV] at hV1 hV2
    have hVl:(canon V).length=m+2:=by
     have h1:=z1 hV1
     have h2:B^(m+1)≤V:=by
      have:B^(m+1+1)=B^(m+1)*B:=Nat.pow_succ ..
      rw [this] at hV2
      have:B^(m+1)*2≤B^(m+1)*B:=Nat.mul_le_mul_left _ (by decide)
      omega
     have:=jc h2
     omega
    have hV0:0<V:=by
     rcases Nat.eq_zero_or_pos V with h | h
     ·rw [h,zP] at hVl; simp at hVl
     ·exact h
    have eq0:((k:Int) - ((canon y).length:Int)).toNat=k - (canon y).length:=by omega
    rw [eq0]
    refine⟨by omega,fun _=>⟨by omega,fun _=>⟨by omega,fun _=>⟨by omega,fun _=> ?_⟩⟩⟩⟩
    have hqe:U/V=x/y∧U%V=x%y*s:=by
     rw [hU,hV]
     exact⟨Nat.mul_div_mul_right _ _ hs0,Nat.mul_mod_mul_right _ _ _⟩
    refine zc.loop (ι:=ID x y V U) (fun i=>SD y s V i.u.length i.q.length i.j) (fun i=>HD y V i.u i.q) (fun i=>i.j)
     ⟨o,List.replicate (k - (canon y).length) 0,k - (canon y).length,hok,by simp; omega,by simp,hdo,q9 _,by simp [val,hvo],?_⟩ 0 ?_ ?_ (by kernel_rfl)
    ·rw [hvo]
     have h1:U*2≤x*B:=by
      rw [hU,Nat.mul_assoc]
      refine Nat.mul_le_mul_left _ ?_
      have:s*2≤s*(t+1):=Nat.mul_le_mul_left _ (by omega)
      omega
     have h2:x<B^(canon x).length:=by have:=qc (zk x); rwa [zm] at this
     have h3:B^(m+1+1)*B^(k - (canon y).length)≤2*V*B^(k - (canon y).length):=Nat.mul_le_mul_right _ hV2
     rw [← Nat.pow_add,show m+1+1+(k - (canon y).length)=(canon x).length+1 by omega,Nat.pow_succ] at h3
     have h4:x*B<B^(canon x).length*B:=Nat.mul_lt_mul_of_pos_right h2 (by decide)
     rw [Nat.mul_assoc] at h3
     omega
    ·refine⟨?_,?_,by kernel_rfl,Nat.zero_le _⟩
     ·simp [SD,hVl,hm,hok,hk,za]; omega
     ·simp [HD,za,xP]
    ·rintro⟨u,q,j,hul,hql,hjq,hdu,hdq,heq,hlt⟩
     rcases j with _ | i
     ·refine zc.run hmix J9 [0,1,4,8,9,10,11,12,13,15,151,152] 400 (T:=.ite false (.side (inR .i64 ((-1:Int)+(↑(canon y).length:Int))) (.side ((0:Int)≤(-1:Int)+(↑(canon y).length:Int)∧(-1:Int)+(↑(canon y).length:Int)<u.length) (.side (inR .u64 (↑(u.getD (0+Int.toNat ((-1:Int)+(↑(canon y).length:Int))) 0):Int)) (.side (inR .i64 ((-1:Int)+(↑(canon y).length:Int))) (.side (inR .i64 ((-1:Int)+(↑(canon y).length:Int) - (1:Int))) (.side ((0:Int)≤(-1:Int)+(↑(canon y).length:Int) - (1:Int)∧(-1:Int)+(↑(canon y).length:Int) - (1:Int)<u.length) (.side (inR .u64 (↑(u.getD (0+Int.toNat ((-1:Int)+(↑(canon y).length:Int) - (1:Int))) 0):Int)) (.side (inR .i64 ((-1:Int)+(↑(canon y).length:Int))) (.side (inR .i64 ((-1:Int)+(↑(canon y).length:Int) - (2:Int))) (.side ((0:Int)≤(-1:Int)+(↑(canon y).length:Int) - (2:Int)∧(-1:Int)+(↑(canon y).length:Int) - (2:Int)<u.length) (.side (inR .u64 (↑(u.getD (0+Int.toNat ((-1:Int)+(↑(canon y).length:Int) - (2:Int))) 0):Int)) (.side (inR .i64 ((↑(canon y).length:Int) - (1:Int))) (.side ((0:Int)≤(↑(canon y).length:Int) - (1:Int)∧(↑(canon y).length:Int) - (1:Int)<(↑(canon V).length:Int)) (.side (inR .u64 (↑(List.getD (padN (List.length (canon y)+1) V) (0+Int.toNat ((↑(canon y).length:Int) - (1:Int))) 0):Int)) (.side (inR .i64 ((↑(canon y).length:Int) - (2:Int))) (.side ((0:Int)≤(↑(canon y).length:Int) - (2:Int)∧(↑(canon y).length:Int) - (2:Int)<(↑(canon V).length:Int)) (.side (inR .u64 (↑(List.getD (padN (List.length (canon y)+1) V) (0+Int.toNat ((↑(canon y).length:Int) - (2:Int))) 0):Int)) (.ex (fun(x:D5)=>eqL [AV.int .u64 (↑(u.getD (0+Int.toNat ((-1:Int)+(↑(canon y).length:Int))) 0):Int),AV.int .u64 (↑(u.getD (0+Int.toNat ((-1:Int)+(↑(canon y).length:Int) - (1:Int))) 0):Int),AV.int .u64 (↑(u.getD (0+Int.toNat ((-1:Int)+(↑(canon y).length:Int) - (2:Int))) 0):Int),AV.int .u64 (↑(List.getD (padN (List.length (canon y)+1) V) (0+Int.toNat ((↑(canon y).length:Int) - (1:Int))) 0):Int),AV.int .u64 (↑(List.getD (padN (List.length (canon y)+1) V) (0+Int.toNat ((↑(canon y).length:Int) - (2:Int))) 0):Int)] [AV.int .u64 (↑(D5.t x):Int),AV.int .u64 (↑(D5.u x):Int),AV.int .u64 (↑(D5.v x):Int),AV.int .u64 (↑(D5.y x):Int),AV.int .u64 (↑(D5.z x):Int)]∧D5.t x≤D5.y x∧D5.u x<1000000000∧D5.v x<1000000000∧D5.y x<1000000000∧D5.z x<1000000000∧1000000000≤2*D5.y x) fun n=>.all (fun(n_1:Nat)=>n_1=qH (D5.v n) (D5.y n) (D5.z n) 2 ((D5.t n*1000000000+D5.u n)/D5.y n) ((D5.t n*1000000000+D5.u n)%D5.y n)) fun n=>.side (inR .u32 (↑n:Int)) (.ex (fun(u:List Nat)=>u.length=1∧1≤1∧1<4611686018427387904∧eqG 1 1 (zh 1 [AV.int .u32 n]) (natG .u32 u)∧dig (List.take 1 (List.drop 0 u))) fun n_1=>.all (fun(x:Nat)=>x=val (List.take 1 (List.drop 0 n_1))) fun n_2=>.ex (fun(x:Nat×Nat)=>eqL [AV.sl (canon V).length 1 (zg (natG .u32 (padN (List.length (canon y)+1) V)) 0),AV.sl (canon n_2).length 1 (zg (zh 1 [AV.int .u32 n]) 0)] [AV.sl (canon x.1).length 1 (natG .u32 (canon x.1)),AV.sl (canon x.2).length 1 (natG .u32 (canon x.2))]∧fits x.1∧fits x.2) fun n_3=>.all (fun(p:Nat)=>p=n_3.1*n_3.2) fun n_4=>.side (inR .i64 ((-1:Int)+(↑(canon y).length:Int))) (.side (inR .i64 ((-1:Int)+(↑(canon y).length:Int)+(1:Int))) (.side ((0:Int)≤(-1:Int)∧(-1:Int)≤(-1:Int)+(↑(canon y).length:Int)+(1:Int)∧(-1:Int)+(↑(canon y).length:Int)+(1:Int)≤u.length) (.ex (fun(u_1:List Nat)=>u_1.length=u.length∧0+(Int.toNat ((-1:Int)+(↑(canon y).length:Int)+(1:Int)) - 0)≤u.length∧Int.toNat ((-1:Int)+(↑(canon y).length:Int)+(1:Int)) - 0<4611686018427387904∧eqG u.length 1 (natG .u32 u) (natG .u32 u_1)∧dig (List.take (Int.toNat ((-1:Int)+(↑(canon y).length:Int)+(1:Int)) - 0) (List.drop 0 u_1))) fun n_5=>.all (fun(x:Nat)=>x=val (List.take (Int.toNat ((-1:Int)+(↑(canon y).length:Int)+(1:Int)) - 0) (List.drop 0 n_5))) fun n_6=>.ex (fun(x:Nat×Nat)=>eqL [AV.sl (canon n_6).length 1 (zg (natG .u32 u) 0),AV.sl (canon n_4).length 1 (zg (natG .u32 (padN (List.length (canon n_3.1)+List.length (canon n_3.2)) n_4)) 0)] [AV.sl (canon x.1).length 1 (natG .u32 (canon x.1)),AV.sl (canon x.2).length 1 (natG .u32 (canon x.2))]∧fits x.1∧fits x.2) fun n_7=>.all (fun(r:Int)=>r=cmp3 n_7.1 n_7.2) fun n_8=>.ite (decide (n_8<0)) (.side (inR .u64 ((↑n:Int) - (1:Int))) (.side (inR .u32 ((↑n:Int) - (1:Int))) (.ex (fun(u:List Nat)=>u.length=1∧1≤1∧1<4611686018427387904∧eqG 1 1 (zh 1 [AV.int .u32 ((↑n:Int) - (1:Int))]) (natG .u32 u)∧dig (List.take 1 (List.drop 0 u))) fun n_9=>.all (fun(x:Nat)=>x=val (List.take 1 (List.drop 0 n_9))) fun n_10=>.ex (fun(x:Nat×Nat)=>eqL [AV.sl (canon V).length 1 (zg (natG .u32 (padN (List.length (canon y)+1) V)) 0),AV.sl (canon n_10).length 1 (zg (zh 1 [AV.int .u32 ((↑n:Int) - (1:Int))]) 0)] [AV.sl (canon x.1).length 1 (natG .u32 (canon x.1)),AV.sl (canon x.2).length 1 (natG .u32 (canon x.2))]∧fits x.1∧fits x.2) fun n_11=>.all (fun(p:Nat)=>p=n_11.1*n_11.2) fun n_12=>.side (inR .i64 ((-1:Int)+(↑(canon y).length:Int))) (.side (inR .i64 ((-1:Int)+(↑(canon y).length:Int)+(1:Int))) (.side ((0:Int)≤(-1:Int)∧(-1:Int)≤(-1:Int)+(↑(canon y).length:Int)+(1:Int)∧(-1:Int)+(↑(canon y).length:Int)+(1:Int)≤u.length) (.ex (fun(u_1:List Nat)=>u_1.length=u.length∧0+(Int.toNat ((-1:Int)+(↑(canon y).length:Int)+(1:Int)) - 0)≤u.length∧Int.toNat ((-1:Int)+(↑(canon y).length:Int)+(1:Int)) - 0<4611686018427387904∧eqG u.length 1 (natG .u32 u) (natG .u32 u_1)∧dig (List.take (Int.toNat ((-1:Int)+(↑(canon y).length:Int)+(1:Int)) - 0) (List.drop 0 u_1))) fun n_13=>.all (fun(x:Nat)=>x=val (List.take (Int.toNat ((-1:Int)+(↑(canon y).length:Int)+(1:Int)) - 0) (List.drop 0 n_13))) fun n_14=>.ex (fun(x:Nat×Nat)=>eqL [AV.sl (canon n_14).length 1 (zg (natG .u32 u) 0),AV.sl (canon n_12).length 1 (zg (natG .u32 (padN (List.length (canon n_11.1)+List.length (canon n_11.2)) n_12)) 0)] [AV.sl (canon x.1).length 1 (natG .u32 (canon x.1)),AV.sl (canon x.2).length 1 (natG .u32 (canon x.2))]∧fits x.1∧x.2≤x.1) fun n_15=>.all (fun(d:Nat)=>d=n_15.1 - n_15.2) fun n_16=>.side (inR .i64 ((↑(canon y).length:Int)+(1:Int))) (.leaf (.loop (Prod.fst (lps (inside (inside K64 0) 0) 0)) (Prod.snd (lps (inside (inside K64 0) 0) 0)) [(0,.undef),(1,.undef),(4,.osl 4 1 0 q.length),(8,.int .u32 s),(9,.int .i64 (↑(canon y).length:Int)),(10,.osl 1 1 0 u.length),(11,.osl 3 1 0 (canon V).length),(12,.int .i64 (-1:Int)),(13,.int .u64 ((↑n:Int) - (1:Int))),(15,.sl (canon n_16).length 1 (natG .u32 (canon n_16))),(151,.int .i64 ((↑(canon y).length:Int)+(1:Int))),(152,.int .i64 0)] [.dead,.arr u.length 1 (natG .u32 u),.dead,.arr (List.length (canon y)+1) 1 (natG .u32 (padN (List.length (canon y)+1) V)),.arr q.length 1 (natG .u32 q),.arr 1 1 (zh 1 [.int .u32 n]),.arr (List.length (canon n_3.1)+List.length (canon n_3.2)) 1 (natG .u32 (padN (List.length (canon n_3.1)+List.length (canon n_3.2)) n_4)),.arr 1 1 (zh 1 [.int .u32 ((↑n:Int) - (1:Int))]),.arr (List.length (canon n_11.1)+List.length (canon n_11.2)) 1 (natG .u32 (padN (List.length (canon n_11.1)+List.length (canon n_11.2)) n_12))])))))))) (.side (inR .i64 ((-1:Int)+(↑(canon y).length:Int))) (.side (inR .i64 ((-1:Int)+(↑(canon y).length:Int)+(1:Int))) (.side ((0:Int)≤(-1:Int)∧(-1:Int)≤(-1:Int)+(↑(canon y).length:Int)+(1:Int)∧(-1:Int)+(↑(canon y).length:Int)+(1:Int)≤u.length) (.ex (fun(u_1:List Nat)=>u_1.length=u.length∧0+(Int.toNat ((-1:Int)+(↑(canon y).length:Int)+(1:Int)) - 0)≤u.length∧Int.toNat ((-1:Int)+(↑(canon y).length:Int)+(1:Int)) - 0<4611686018427387904∧eqG u.length 1 (natG .u32 u) (natG .u32 u_1)∧dig (List.take (Int.toNat ((-1:Int)+(↑(canon y).length:Int)+(1:Int)) - 0) (List.drop 0 u_1))) fun n_9=>.all (fun(x:Nat)=>x=val (List.take (Int.toNat ((-1:Int)+(↑(canon y).length:Int)+(1:Int)) - 0) (List.drop 0 n_9))) fun n_10=>.ex (fun(x:Nat×Nat)=>eqL [AV.sl (canon n_10).length 1 (zg (natG .u32 u) 0),AV.sl (canon n_4).length 1 (zg (natG .u32 (padN (List.length (canon n_3.1)+List.length (canon n_3.2)) n_4)) 0)] [AV.sl (canon x.1).length 1 (natG .u32 (canon x.1)),AV.sl (canon x.2).length 1 (natG .u32 (canon x.2))]∧fits x.1∧x.2≤x.1) fun n_11=>.all (fun(d:Nat)=>d=n_11.1 - n_11.2) fun n_12=>.side (inR .i64 ((↑(canon y).length:Int)+(1:Int))) (.leaf (.loop (Prod.fst (lps (inside (inside K64 0) 0) 0)) (Prod.snd (lps (inside (inside K64 0) 0) 0)) [(0,.undef),(1,.undef),(4,.osl 4 1 0 q.length),(8,.int .u32 s),(9,.int .i64 (↑(canon y).length:Int)),(10,.osl 1 1 0 u.length),(11,.osl 3 1 0 (canon V).length),(12,.int .i64 (-1:Int)),(13,.int .u64 n),(15,.sl (canon n_12).length 1 (natG .u32 (canon n_12))),(151,.int .i64 ((↑(canon y).length:Int)+(1:Int))),(152,.int .i64 0)] [.dead,.arr u.length 1 (natG .u32 u),.dead,.arr (List.length (canon y)+1) 1 (natG .u32 (padN (List.length (canon y)+1) V)),.arr q.length 1 (natG .u32 q),.arr 1 1 (zh 1 [.int .u32 n]),.arr (List.length (canon n_3.1)+List.length (canon n_3.2)) 1 (natG .u32 (padN (List.length (canon n_3.1)+List.length (canon n_3.2)) n_4))])))))))))))))))))))))))))))) (.ex (fun(u_1:List Nat)=>u_1.length=u.length∧0+u.length≤u.length∧u.length<4611686018427387904∧eqG u.length 1 (natG .u32 u) (natG .u32 u_1)∧dig (List.take u.length (List.drop 0 u_1))) fun n=>.all (fun(x:Nat)=>x=val (List.take u.length (List.drop 0 n))) fun n=>.ex (fun(x:Nat×Nat)=>eqL [AV.sl (canon n).length 1 (zg (natG .u32 u) 0),AV.int .u32 s] [AV.sl (canon x.1).length 1 (natG .u32 (canon x.1)),AV.int .u32 x.2]∧fits x.1∧0<x.2∧x.2<1000000000) fun n=>.all (fun(r:Nat×Nat)=>r=(n.1/n.2,n.1%n.2)) fun n=>.ex (fun(u:List Nat)=>u.length=q.length∧0+q.length≤q.length∧q.length<4611686018427387904∧eqG q.length 1 (natG .u32 q) (natG .u32 u)∧dig (List.take q.length (List.drop 0 u))) fun n_1=>.all (fun(x:Nat)=>x=val (List.take q.length (List.drop 0 n_1))) fun n_2=>.leaf (.ret [.osl 4 1 0 (canon n_2).length,.sl (canon n.1).length 1 (natG .u32 (canon n.1))] [.dead,.arr u.length 1 (natG .u32 u),.dead,.arr (List.length (canon y)+1) 1 (natG .u32 (padN (List.length (canon y)+1) V)),.arr q.length 1 (natG .u32 q)]))) (by kernel_rfl) ?_
      simp only [Tree.holds,zd,inR,lo,hi]
      refine⟨fun hj=>by simp at hj,fun hj=> ?_⟩
      simp only [List.drop_zero,Nat.pow_zero,Nat.mul_one] at heq hlt
      have hdiv:U/V=val q∧U%V=val u:=by
       rw [heq]
       exact⟨by rw [Nat.mul_add_div hV0,Nat.div_eq_of_lt hlt,Nat.add_zero],by rw [Nat.mul_add_mod,Nat.mod_eq_of_lt hlt]⟩
      have hqv:val q=x/y:=by rw [← hdiv.1,hqe.1]
      have huv:val u=x%y*s:=by rw [← hdiv.2,hqe.2]
      refine⟨u,⟨rfl,by omega,by omega,za _ _ _,by simpa using hdu⟩,⟨_,rfl⟩,?_⟩
      intro X hX
      have hX:X=x%y*s:=by simpa [huv] using hX
      have hw:val ((u.drop 0).take u.length)=X:=by simp [huv,hX]
      have hXl:=je (k:=.u32) (u:=u) (off:=0) (n:=u.length) (by simpa using hdu) hw
      have hmy:=Nat.mod_lt x hy0
      have hXlen:(canon X).length≤u.length:=by
       refine z1 ?_
       rw [hX,← huv]; exact qc hdu
      refine⟨(X,s),⟨?_,by simp only [fits]; omega,hs0,hsB⟩,⟨_,rfl⟩,?_⟩
      ·simp only [eqL,eqA,eqA0,true_and,and_true]
       exact hXl
      rintro r rfl
      have hXs:X/s=x%y:=by rw [hX]; exact Nat.mul_div_cancel _ hs0
      simp only [hXs]
      refine⟨q,⟨rfl,by omega,by omega,za _ _ _,by simpa using hdq⟩,⟨_,rfl⟩,?_⟩
      intro Y hY
      have hY:Y=x/y:=by simpa [hqv] using hY
      subst hY
      refine RetR.out0 hq (fun h=>by cases h) ?_
      have hw2:val ((q.drop 0).take q.length)=x/y:=by simp [hqv]
      simp only [resV,exp2,List.map_cons,List.map_nil,exp1,exp0,ren0,zo,frz1,qJ,List.getElem?_cons_zero,List.getElem?_cons_succ,if_true,eqA2,eqL1,eqA,eqA0,magS,natS,true_and,and_true]
      exact⟨je (by simpa using hdq) hw2,za _ _ _⟩
     ·exact Qu hm hx hs0 hsB hV1 hV2 hVl hV0 hul hql hjq hdu hdq heq hlt
noncomputable def K73:List Go.Sx.Item:=[.code (Try.f73.body.getD .skip)]
def Vv:Ctr:=ctrT false false (fun s:List UInt8=>[.str s]) (fun _=>[]) (fun _=>True) (fun _ (_:Unit)=>True) (fun s _=>(.fn 91 [] [.ptr 0 0],[.box [.str s]]))
theorem K0:zf Try.prog 84 Vv:=by
 refine ja (fn:=Try.f84) (c:=Try.f84.body.getD .skip) rfl rfl rfl (fun h=>by cases h) fun s hp O w0 σ0 Q hl hq=> ?_
 have h0:σ0=[]:=List.length_eq_zero_iff.1 (by simpa using hl)
 subst h0
 refine zc.run hmix zA [0] 400 (T:=.leaf (.ret [.fn 91 [] [.ptr 0 0]] [.box [.str s]])) (by kernel_rfl) ?_
 simp only [Tree.holds,zd]
 exact RetR.out1 0 (by simp) (hq () trivial) (fun h=>by cases h) (by simp [resV,exp2,exp1,exp0,zo,ren0,eqA2]) (by simp [expB,exp1,exp0,ren0])
noncomputable def G3:Nat→Option Ctr:=fun f=>if f=84 then some (Vv) else if f=76 then some (yj) else none
theorem Z0:∀ g c,G3 g=some c→zf Try.prog g c:=okIf K0 (okIf Qc (zx))
def KR:KV:=[(2,.ptr 0 0),(3,.ptr 1 0),(5,.undef),(6,.undef),(16,.fn 91 [] [.ptr 2 0]),(17,.undef),(19,.undef),(20,.undef)]
def HR(neg:Bool)(b:List UInt8):List Nat→Heap
 | []=>[.box [.bool false,.nils],.box [.bool neg,.nils],.box [.str b]]
 | d::o=>[.box [.bool false,.nils],.box [.bool neg,.osl 4 1 0 (o.length+1)],.box [.str b],.arr 1 1 (natG .u32 [d]),.arr (o.length+1) 1 (natG .u32 (d::o))]
theorem Wo(s:ByteArray):∀ e,e≤s.size→val ((chunks s e).map decB)=numD (s.data.toList.take e):=by
 intro e
 induction e using Nat.strongRecOn with
 | _ e ih=>
  intro he
  rcases Nat.eq_zero_or_pos e with h | h
  ·subst h; simp [wO,val,numD]
  ·rw [wI s h,List.map_cons,val,ih (e - 9) (by omega) (by omega)]
   have hl:s.data.toList.length=s.size:=by rw [Array.length_toList]; rfl
   have h1:s.data.toList.take e=s.data.toList.take (e - 9)++(s.data.toList.take e).drop (e - 9):=by
    conv=>lhs; rw [← List.take_append_drop (e - 9) (s.data.toList.take e)]
    rw [List.take_take,Nat.min_eq_left (by omega)]
   rw [h1,yk,decB,xj,Nat.add_comm,Nat.mul_comm]
   congr 1
   rcases Nat.lt_or_ge e 9 with h9 | h9
   ·rw [show e - 9=0 by omega]; simp [numD]
   ·congr 1
    have:((s.data.toList.take e).drop (e - 9)).length=9:=by simp; omega
    rw [this]
theorem WK(s:ByteArray)(hd:allD s.data.toList):∀ e,e≤s.size→∀ x∈chunks s e,x.size≤9∧allD x.data.toList:=by
 intro e
 induction e using Nat.strongRecOn with
 | _ e ih=>
  intro he x hx
  rcases Nat.eq_zero_or_pos e with h | h
  ·subst h; simp [wO] at hx
  ·rw [wI s h] at hx
   rcases List.mem_cons.1 hx with rfl | hx
   ·refine⟨by rw [ByteArray.size_extract]; omega,?_⟩
    rw [xj]
    intro c hc
    exact hd c (List.mem_of_mem_take (List.mem_of_mem_drop hc))
   ·exact ih (e - 9) (by omega) (by omega) x hx
theorem yU(s:ByteArray):∀ e,(chunks s e).length≤e:=by
 intro e
 induction e using Nat.strongRecOn with
 | _ e ih=>
  rcases Nat.eq_zero_or_pos e with h | h
  ·subst h; simp [wO]
  ·rw [wI s h,List.length_cons]
   have:=ih (e - 9) (by omega)
   omega
abbrev Grp:Type:={x:ByteArray // x.size≤9∧allD x.data.toList}
def Xt:Ctr:=ctrP false (fun p:Bool×List UInt8=>[.str (sgn p.1 p.2)]) (fun p=>allD p.2∧p.2≠[]∧p.2.length≤1000000) (fun p r=>r=numD p.2) (fun p r=>(.agg [.bool p.1,magS r],[]))
def SR(x:List UInt8)(v i:Nat):KV:=[(2,.ptr 0 0),(3,.ptr 1 0),(5,.str x),(6,.int .u32 (v:Int)),(16,.undef),(17,.undef),(19,.int .i64 (x.length:Int)),(20,.int .i64 (i:Int))]
theorem K8{O:Nat→Prop}{W:World}{σ1:List SE}(l:Nat)(neg:Bool)(b:List UInt8)(o:List Nat)(ho:o.length≤1000000)(y:List UInt8)(hxd:allD y)(hx9:y.length≤9)(X:Prop)(Hx:Heap) :
  zE (some l) Try.prog (bare Try.f73) O 3 W σ1 (fun d kv' h'=>LeK 3 Try.f73.ntmps [] h' [] (HR neg b (o++[numD y]))) (fun _ h'=>X∧LeK 3 Try.f73.ntmps [] h' [] Hx) (.code (.loop (lps (roundOf K73 0) 0).1)::(lps (roundOf K73 0) 0).2)
   (mk Try.f73.ntmps [(2,.ptr 0 0),(3,.ptr 1 0),(5,.str y),(6,.int .u32 0),(16,.fn 91 [] [.ptr 2 0]),(17,.str y),(19,.int .i64 (y.length:Int)),(20,.int .i64 0)] (HR neg b o)):=by
 refine zc.loop (ι:={i:Nat // i≤y.length}) (fun i=>SR y (numD (y.take i.1)) i.1) (fun _=>HR neg b o) (fun i=>y.length - i.1) ⟨0,Nat.zero_le _⟩ 1 ?_ ?_ (by kernel_rfl)
 ·refine⟨by simp [SR,numD],?_,?_,?_⟩
  ·cases o<;>simp [HR,za]
  ·cases o<;>kernel_rfl
  ·cases o<;>simp [HR]
 ·rintro⟨i,hil⟩
  have hbound:numD (y.take i)<1000000000:=by
   have h1:=y6 (l:=y.take i) fun c hc=>hxd c (List.mem_of_mem_take hc)
   have h2:10^(y.take i).length≤10^9:=Nat.pow_le_pow_right (by decide) (by rw [List.length_take]; omega)
   have h4:(10:Nat)^9=1000000000:=by decide
   omega
  have hnext:∀ h:i<y.length,numD (y.take (i+1))=numD (y.take i)*10+((y.getD i 0).toNat - 48):=by
   intro h; rw [JJ y i h,Ki]
  have hdig:i<y.length→48≤(y.getD i 0).toNat∧(y.getD i 0).toNat≤57:=by
   intro h
   have:=hxd (y.getD i 0) (by simp [List.getD,h])
   exact this
  have hnb:i<y.length→numD (y.take (i+1))<1000000000:=by
   intro h
   have h1:=y6 (l:=y.take (i+1)) fun c hc=>hxd c (List.mem_of_mem_take hc)
   have h2:10^(y.take (i+1)).length≤10^9:=Nat.pow_le_pow_right (by decide) (by rw [List.length_take]; omega)
   have h4:(10:Nat)^9=1000000000:=by decide
   omega
  obtain⟨v,hv⟩:∃ v,numD (y.take i)=v:=⟨_,rfl⟩
  simp only [hv] at hbound hnext ⊢
  have ei:((i:Int)+1)=((i+1:Nat):Int):=by omega
  cases o with
  | nil=>
   refine zc.run hmix Z0 [2,3,5,6,16,17,19,20] 400 (T:=.ite (decide ((↑i:Int)<y.length)) (.side (inR .u32 ((↑v:Int)*(10:Int))) (.side ((0:Int)≤i∧(↑i:Int)<y.length) (.side (inR .u8 ((↑(UInt8.toNat (y.getD (↑i:Int).toNat (0:UInt8))):Int) - (48:Int))) (.side (inR .u32 ((↑(UInt8.toNat (y.getD (↑i:Int).toNat (0:UInt8))):Int) - (48:Int))) (.side (inR .u32 ((↑v:Int)*(10:Int)+((↑(UInt8.toNat (y.getD (↑i:Int).toNat (0:UInt8))):Int) - (48:Int)))) (.side (inR .i64 ((↑i:Int)+(1:Int))) (.leaf (.back 1 [(2,.ptr 0 0),(3,.ptr 1 0),(5,.str y),(6,.int .u32 ((↑v:Int)*(10:Int)+((↑(UInt8.toNat (y.getD (↑i:Int).toNat (0:UInt8))):Int) - (48:Int)))),(16,.undef),(17,.undef),(19,.int .i64 y.length),(20,.int .i64 ((↑i:Int)+(1:Int)))] [.box [.bool false,.nils],.box [.bool neg,.nils],.box [.str b]])))))))) (.side (4≤140737488355328) (.leaf (.back 0 [(2,.ptr 0 0),(3,.ptr 1 0),(5,.str y),(6,.int .u32 v),(16,.undef),(17,.undef),(19,.int .i64 y.length),(20,.int .i64 i)] [.box [.bool false,.nils],.box [.bool neg,.osl 4 1 0 1],.box [.str b],.arr 1 1 (zh 1 [.int .u32 v]),.arr 1 1 (zg (zh 1 [.int .u32 v]) 0)])))) (by kernel_rfl) ?_
   simp only [Tree.holds,zd,inR,lo,hi,Int.toNat_natCast,ei]
   refine⟨fun hlt=> ?_,fun hge=> ?_⟩
   ·have hlt:i<y.length:=by simp at hlt; omega
    have h1:=hdig hlt
    have h2:=hnb hlt
    have h3:=hnext hlt
    generalize (y.getD i 0).toNat=c at h1 h3 ⊢
    iterate 6 refine⟨by omega,fun _=> ?_⟩
    rw [if_pos trivial]
    refine⟨⟨i+1,hlt⟩,by show y.length - (i+1)<y.length - i; omega,?_,by simp [HR],by kernel_rfl,by simp [HR]⟩
    simp [SR,h3]; omega
   ·have hge:i=y.length:=by simp at hge; omega
    subst hge
    rw [List.take_length] at hv
    refine⟨by omega,fun _=> ?_⟩
    rw [if_neg (by decide),hv]
    refine⟨by simp,?_,by kernel_rfl,by simp [HR]⟩
    simp only [List.nil_append,HR]
    refine⟨by simp,by simp,by simp,⟨rfl,rfl,k6 _ _⟩,⟨rfl,rfl,?_⟩,trivial⟩
    exact fun j o hj ho=>by simpa [zg] using k6 .u32 v j o hj ho
  | cons d o=>
   refine zc.run hmix Z0 [2,3,5,6,16,17,19,20] 400 (T:=.ite (decide ((↑i:Int)<y.length)) (.side (inR .u32 ((↑v:Int)*(10:Int))) (.side ((0:Int)≤i∧(↑i:Int)<y.length) (.side (inR .u8 ((↑(UInt8.toNat (y.getD (↑i:Int).toNat (0:UInt8))):Int) - (48:Int))) (.side (inR .u32 ((↑(UInt8.toNat (y.getD (↑i:Int).toNat (0:UInt8))):Int) - (48:Int))) (.side (inR .u32 ((↑v:Int)*(10:Int)+((↑(UInt8.toNat (y.getD (↑i:Int).toNat (0:UInt8))):Int) - (48:Int)))) (.side (inR .i64 ((↑i:Int)+(1:Int))) (.leaf (.back 1 [(2,.ptr 0 0),(3,.ptr 1 0),(5,.str y),(6,.int .u32 ((↑v:Int)*(10:Int)+((↑(UInt8.toNat (y.getD (↑i:Int).toNat (0:UInt8))):Int) - (48:Int)))),(16,.undef),(17,.undef),(19,.int .i64 y.length),(20,.int .i64 ((↑i:Int)+(1:Int)))] [.box [.bool false,.nils],.box [.bool neg,.osl 4 1 0 (o.length+1)],.box [.str b],.arr 1 1 (natG .u32 [d]),.arr (o.length+1) 1 (natG .u32 (d::o))])))))))) (.side (0=0∧o.length+1≤o.length+1∧(o.length+1+1)*4≤140737488355328) (.leaf (.back 0 [(2,.ptr 0 0),(3,.ptr 1 0),(5,.str y),(6,.int .u32 v),(16,.undef),(17,.undef),(19,.int .i64 y.length),(20,.int .i64 i)] [.box [.bool false,.nils],.box [.bool neg,.osl 4 1 0 (o.length+1+1)],.box [.str b],.arr 1 1 (natG .u32 [d]),.arr (o.length+1+1) 1 (appG (o.length+1) (natG .u32 (d::o)) (zg (zh 1 [.int .u32 v]) 0)),.arr 1 1 (zh 1 [.int .u32 v])])))) (by kernel_rfl) ?_
   simp only [Tree.holds,zd,inR,lo,hi,Int.toNat_natCast,ei]
   refine⟨fun hlt=> ?_,fun hge=> ?_⟩
   ·have hlt:i<y.length:=by simp at hlt; omega
    have h1:=hdig hlt
    have h2:=hnb hlt
    have h3:=hnext hlt
    generalize (y.getD i 0).toNat=c at h1 h3 ⊢
    iterate 6 refine⟨by omega,fun _=> ?_⟩
    rw [if_pos trivial]
    refine⟨⟨i+1,hlt⟩,by show y.length - (i+1)<y.length - i; omega,?_,by simp [HR,za],by kernel_rfl,by simp [HR]⟩
    simp [SR,h3]; omega
   ·have hge:i=y.length:=by simp at hge; omega
    subst hge
    rw [List.take_length] at hv
    refine⟨⟨trivial,Nat.le_refl _,by simp only [List.length_cons] at ho; omega⟩,fun _=> ?_⟩
    rw [if_neg (by decide),hv]
    refine⟨by simp,?_,by kernel_rfl,by simp [HR]⟩
    simp only [List.cons_append,HR]
    refine⟨by simp,by simp,by simp,⟨rfl,rfl,za _ _ _⟩,⟨by simp,rfl,?_⟩,trivial⟩
    have:=yV (k:=.u32) (l:=d::o) (v:=((v:Nat):Int)) (by omega)
    simpa using this
theorem W7{O:Nat→Prop}{W:World}{σ1:List SE}(l:Nat)(neg:Bool)(b:List UInt8)(o:List Nat)(ho:o.length≤1000000)(x:Grp)(X:Prop)(Hx:Heap) :
  zE (some l) Try.prog (bare Try.f73) O 3 W σ1 (fun d kv' h'=>LeK 3 Try.f73.ntmps [] h' [] (HR neg b (o++[decB x.1]))) (fun _ h'=>X∧LeK 3 Try.f73.ntmps [] h' [] Hx) (roundOf K73 0) (mk Try.f73.ntmps ((5,.str x.1.data.toList)::(17,.str x.1.data.toList)::KR) (HR neg b o)):=by
 obtain⟨x,hx9,hxd⟩:=x
 simp only
 have hxl:x.data.toList.length=x.size:=by rw [Array.length_toList]; rfl
 have hdB:decB x=numD x.data.toList:=rfl
 rw [hdB]
 generalize x.data.toList=y at hxd hxl
 have core:zE (some l) Try.prog (bare Try.f73) O 3 W σ1 (fun d kv' h'=>LeK 3 Try.f73.ntmps [] h' [] (HR neg b (o++[numD y]))) (fun _ h'=>X∧LeK 3 Try.f73.ntmps [] h' [] Hx) (.code (.loop (lps (roundOf K73 0) 0).1)::(lps (roundOf K73 0) 0).2)
   (mk Try.f73.ntmps [(2,.ptr 0 0),(3,.ptr 1 0),(5,.str y),(6,.int .u32 0),(16,.fn 91 [] [.ptr 2 0]),(17,.str y),(19,.int .i64 (y.length:Int)),(20,.int .i64 0)] (HR neg b o)):=by
  exact K8 l neg b o ho y hxd (by omega) X Hx
 cases o with
 | nil=>
  refine zc.run hmix Z0 [2,3,5,6,16,17,19,20] 400 (T:=.leaf (.loop (Prod.fst (lps (roundOf K73 0) 0)) (Prod.snd (lps (roundOf K73 0) 0)) [(2,.ptr 0 0),(3,.ptr 1 0),(5,.str y),(6,.int .u32 0),(16,.fn 91 [] [.ptr 2 0]),(17,.str y),(19,.int .i64 y.length),(20,.int .i64 0)] [.box [.bool false,.nils],.box [.bool neg,.nils],.box [.str b]])) (by kernel_rfl) ?_
  simp only [Tree.holds,zd]
  exact core
 | cons d o=>
  refine zc.run hmix Z0 [2,3,5,6,16,17,19,20] 400 (T:=.leaf (.loop (Prod.fst (lps (roundOf K73 0) 0)) (Prod.snd (lps (roundOf K73 0) 0)) [(2,.ptr 0 0),(3,.ptr 1 0),(5,.str y),(6,.int .u32 0),(16,.fn 91 [] [.ptr 2 0]),(17,.str y),(19,.int .i64 y.length),(20,.int .i64 0)] [.box [.bool false,.nils],.box [.bool neg,.osl 4 1 0 (o.length+1)],.box [.str b],.arr 1 1 (natG .u32 [d]),.arr (o.length+1) 1 (natG .u32 (d::o))])) (by kernel_rfl) ?_
  simp only [Tree.holds,zd]
  exact core
theorem X7(neg:Bool)(b:List UInt8)(o:List Nat):∀ x∈HR neg b o,alive x:=by
 cases o with
 | nil=>simp [HR,alive]
 | cons d o=>simp [HR,alive]
theorem Kd{O:Nat→Prop}{w0:World}{Q:AV×Heap→Prop}(neg:Bool)(b:List UInt8)(hb:allD b)(hb0:b≠[])(hbl:b.length≤1000000)(hq:Q (.agg [.bool neg,magS (numD b)],[])) :
  zc Try.prog Try.f73 O 0 w0 [] (fun _ _ _=>False) (RetR Xt 0 Q) (.code (rfs K73 0).1::(rfs K73 0).2) (mk Try.f73.ntmps KR (HR neg b [])):=by
 let s:ByteArray:=⟨b.toArray⟩
 have hsl:s.data.toList=b:=rfl
 have hss:s.size=b.length:=by simp [s,ByteArray.size]
 refine zc.range (tg:=16) (tp:=17) (td:=5) (α:=Grp) (by kernel_rfl) (cap:=[.ptr 2 0]) (enters_of Try.func91 (by kernel_rfl) rfl) (fun x=>.str x.1.data.toList) (fun pre=>HR neg b (pre.map fun x=>decB x.1)) (fun _=>[]) (fun _=>False) (fun xs=>xs.map (·.1)=chunks s s.size) (fun pre=>pre.map (·.1) <+: chunks s s.size) (chunks s s.size).length 3
  (by kernel_rfl) (by decide +kernel) (by decide +kernel) (fun x t c y h=>by cases h) ⟨by simp [KR],by simp [HR],by kernel_rfl,Nat.zero_le _⟩ (by kernel_rfl) (Nat.zero_le _) (fun pre=>X7 _ _ _) (fun pre c hc=>by cases hc) ?_ ?_ ?_ (fun _ _ h=>h.elim)
 ·
  intro w σ a hm vb hvb
  simp only [RepL] at hvb
  obtain⟨v,r,rfl,hv,rfl⟩:=hvb
  simp only [Rep] at hv
  obtain⟨e,ad,he,had,rfl⟩:=hv
  have hcell:∀ (W:World) (σ':List SE) (o:List Nat),HRep (Go.Sx.Own O σ') W σ' (HR neg b o)→∀ e' ad,σ'[2]?=some e'→e'.ad=some ad→W.cell? ⟨ad.block,ad.off+0,none⟩=some (.string s):=by
   intro W σ' o hp e' ad he' had'
   have hb2:(HR neg b o)[2]?=some (.box [.str b]):=by cases o<;>rfl
   obtain⟨ad',vs,el,h1,h2,h3,h4⟩:=hp.blk 2 e' _ he' hb2
   rw [had'] at h1; cases h1
   simp only [RepL,Rep] at h4
   obtain⟨v,r,rfl,rfl,rfl⟩:=h4
   simp [World.cell?,h3,h2,s]
  refine⟨fun W=>W.cell? ⟨ad.block,ad.off+0,none⟩=some (.string s),fun x=>.string x.1,?_,?_,?_⟩
  ·exact Try.uY (fun x=>x.size≤9∧allD x.data.toList) ⟨ad.block,ad.off+0,none⟩ s (WK s (hsl▸hb) s.size (Nat.le_refl _)) (by omega) w (hcell w σ [] hm.hp e ad he had)
  ·intro pre W σ' hM
   refine⟨?_,fun x=>by simp [Rep]⟩
   have ht:=hM.tm 16
   have h16:(mk Try.f73.ntmps KR (HR neg b (pre.map fun x=>decB x.1))).tmps.getD 16 .undef = .fn 91 [] [.ptr 2 0]:=by kernel_rfl
   have ht0:=hm.tm 16
   have h160:(mk Try.f73.ntmps KR (HR neg b (([]:List Grp).map fun x=>decB x.1))).tmps.getD 16 .undef = .fn 91 [] [.ptr 2 0]:=by kernel_rfl
   rw [h16] at ht
   rw [h160] at ht0
   simp only [TRep,Rep,RepL] at ht ht0
   obtain⟨va,vb',h1,_,v,r,h2,⟨e1,ad1,h3,h4,h5⟩,h6⟩:=ht
   obtain⟨va',vb2,g1,_,v',r',g2,⟨e2,ad2,g3,g4,g5⟩,g6⟩:=ht0
   rw [he] at g3; cases g3
   rw [had] at g4; cases g4
   rw [g1] at h1
   simp only [Value.func.injEq] at h1
   have h7:vb2=vb':=by
    have:=h1.2.2
    simpa using this
   rw [g2,h2,g5,h5] at h7
   simp only [List.cons.injEq,Value.pointer.injEq,Option.some.injEq] at h7
   have h8:=hcell W σ' _ hM.hp e1 ad1 h3 h4
   rw [← h7.1] at h8
   exact h8
  ·intro W l o o' hl ho hoc hK
   exact JS (grownBy_putObj' W l o') (fun r e=>by cases e; exact⟨o,ho,hoc⟩) hK
 ·
  intro l pre x hlen W σ1
  have hpl:(pre.map fun x=>decB x.1).length≤1000000:=by
   have:=yU s s.size
   simp; omega
  have:=W7 (O:=O) (W:=W) (σ1:=σ1) l neg b (pre.map fun x=>decB x.1) hpl x False []
  simp only [List.map_append,List.map_cons,List.map_nil]
  exact this
 ·
  intro xs hxs
  have ho:xs.map (fun x=>decB x.1)=(chunks s s.size).map decB:=by rw [← hxs,List.map_map]; rfl
  have hv:val (xs.map fun x=>decB x.1)=numD b:=by
   rw [ho,Wo s s.size (Nat.le_refl _),List.take_of_length_le (by rw [Array.length_toList]; exact Nat.le_refl _)]
  have hdg:dig (xs.map fun x=>decB x.1):=by
   intro d hd
   obtain⟨x,_,rfl⟩:=List.mem_map.1 hd
   exact YM x.2.2 x.2.1
  have hpos:0<s.size:=by rw [hss]; exact List.length_pos_iff.2 hb0
  have hle:(xs.map fun x=>decB x.1).length≤1000000:=by
   rw [ho,List.length_map]
   have:=yU s s.size
   omega
  have hne:xs.map (fun x=>decB x.1)≠[]:=by
   rw [ho,wI s hpos]; simp
  generalize xs.map (fun x=>decB x.1)=l at hv hdg hle hne
  cases l with
  | nil=>exact absurd rfl hne
  | cons d o=>
   simp only [List.length_cons] at hle
   refine zc.run hmix Z0 [2,3,5,6,16,17,19,20] 400 (T:=.ex (fun(u:List Nat)=>u.length=o.length+1∧0+(o.length+1)≤o.length+1∧o.length+1<4611686018427387904∧eqG (o.length+1) 1 (natG .u32 (d::o)) (natG .u32 u)∧dig (List.take (o.length+1) (List.drop 0 u))) fun n=>.all (fun(x:Nat)=>x=val (List.take (o.length+1) (List.drop 0 n))) fun n=>.leaf (.ret [.agg [.bool neg,.osl 4 1 0 (canon n).length]] [.box [.bool neg,.osl 4 1 0 (canon n).length],.box [.bool neg,.osl 4 1 0 (canon n).length],.box [.str b],.arr 1 1 (natG .u32 [d]),.arr (o.length+1) 1 (natG .u32 (d::o))])) (by kernel_rfl) ?_
   simp only [Tree.holds,zd]
   have htk:(List.take (o.length+1) (List.drop 0 (d::o)))=d::o:=by simp
   refine⟨d::o,⟨rfl,by omega,by omega,za _ _ _,by rw [htk]; exact hdg⟩,⟨_,rfl⟩,?_⟩
   intro X hX
   have hX:X=numD b:=by rw [htk,hv] at hX; exact hX
   subst hX
   refine RetR.out0 hq (fun h=>by cases h) ?_
   simp only [resV,exp2,exp1,List.map_cons,List.map_nil,exp0,ren0,zo,frz1,qJ,List.getElem?_cons_zero,List.getElem?_cons_succ,if_true,eqA2,eqA,eqL0,eqA0,magS,natS,true_and,and_true]
   exact je (u:=d::o) (off:=0) (n:=o.length+1) (by simpa using hdg) (by simpa using hv)
theorem Us:zf Try.prog 73 Xt:=by
 refine zn (fn:=Try.f73) (c:=Try.f73.body.getD .skip) rfl rfl rfl fun p hp O w0 Q hq=> ?_
 obtain⟨neg,b⟩:=p
 obtain⟨hb,hb0,hbl⟩:=hp
 replace hq:=hq _ rfl
 simp only at hb hb0 hbl hq
 obtain⟨s,hs⟩:∃ s,sgn neg b=s:=⟨_,rfl⟩
 simp only [hs]
 refine zc.run hmix Z0 [2,3,5,6,16,17,19,20] 400 (T:=.side ((0:Int)≤0∧(0:Int)<s.length) (.ite (decide ((↑(UInt8.toNat (s.getD 0 (0:UInt8))):Int)=45)) (.side ((0:Int)≤1∧(1:Int)≤s.length) (.ex (fun(x:List UInt8)=>eqL [AV.str (List.drop 1 (List.take s.length s))] [AV.str x]∧eqH [] []∧0=0∧True) fun n=>.all (fun(x:Unit)=>True) fun n_1=>.leaf (.range (Prod.fst (rfs K73 0)) (Prod.snd (rfs K73 0)) [(2,.ptr 0 0),(3,.ptr 1 0),(5,.undef),(6,.undef),(16,.fn 91 [] [.ptr 2 0]),(17,.undef),(19,.undef),(20,.undef)] [.box [.bool false,.nils],.box [.bool true,.nils],.box [.str n]]))) (.ex (fun(x:List UInt8)=>eqL [AV.str s] [AV.str x]∧eqH [] []∧0=0∧True) fun n=>.all (fun(x:Unit)=>True) fun n_1=>.leaf (.range (Prod.fst (rfs K73 0)) (Prod.snd (rfs K73 0)) [(2,.ptr 0 0),(3,.ptr 1 0),(5,.undef),(6,.undef),(16,.fn 91 [] [.ptr 2 0]),(17,.undef),(19,.undef),(20,.undef)] [.box [.bool false,.nils],.box [.bool false,.nils],.box [.str n]])))) (by kernel_rfl) ?_
 subst hs
 have hmain:=Kd (O:=O) (w0:=w0) neg b hb hb0 hbl hq
 obtain⟨c,b',rfl⟩:=List.exists_cons_of_ne_nil hb0
 have hc:=hb c (by simp)
 simp only [Tree.holds,zd]
 cases neg with
 | true=>
  simp only [sgn,if_true]
  refine⟨by simp; omega,fun _=>⟨fun _=>⟨by simp; omega,fun _=> ?_⟩,fun h=>by simp at h⟩⟩
  refine⟨c::b',⟨by simp,by simp,by simp⟩,⟨(),trivial⟩,fun _ _=>hmain⟩
 | false=>
  simp only [sgn,Bool.false_eq_true,if_false]
  refine⟨by simp,fun _=>⟨fun h=> ?_,fun _=> ?_⟩⟩
  ·simp at h; omega
  ·refine⟨c::b',⟨by simp,by simp,by simp⟩,⟨(),trivial⟩,fun _ _=>hmain⟩
noncomputable def K80:List Go.Sx.Item:=[.code (Try.f80.body.getD .skip)]
noncomputable def K65:List Go.Sx.Item:=[.code (Try.f65.body.getD .skip)]
def j2(l:List Nat)(n i:Nat):List Nat:=(List.range l.length).map fun p=>if p<n∧(p<i∨n - i≤p) then l.getD (n - 1 - p) 0 else l.getD p 0
theorem xQ(l:List Nat)(n i:Nat):(j2 l n i).length=l.length:=by simp [j2]
theorem ZA{l:List Nat}{n i p:Nat}(h:p<l.length):(j2 l n i).getD p 0=if p<n∧(p<i∨n - i≤p) then l.getD (n - 1 - p) 0 else l.getD p 0:=by
 simp [j2,List.getD,h]
theorem JD(l:List Nat)(n:Nat):j2 l n 0=l:=by
 apply List.ext_getElem (by simp [j2])
 intro p h1 h2
 simp only [j2,List.getElem_map,List.getElem_range]
 rw [if_neg (by omega)]; simp [h2]
theorem Wg{l:List Nat}{n i:Nat}(hn:n≤l.length)(hi2:i<n - 1 - i):((j2 l n i).set i ((j2 l n i).getD (n - 1 - i) 0)).set (n - 1 - i) ((j2 l n i).getD i 0)=j2 l n (i+1):=by
 rw [ZA (by omega),ZA (by omega),if_neg (by omega),if_neg (by omega)]
 apply List.ext_getElem (by simp [j2])
 intro p h1 h2
 rw [xQ] at h2
 simp only [List.getElem_set,j2,List.getElem_map,List.getElem_range]
 by_cases ha:n - 1 - i=p
 ·rw [if_pos ha,if_pos (by omega)]; congr 1; omega
 ·rw [if_neg ha]
  by_cases hb:i=p
  ·subst hb; rw [if_pos rfl,if_pos (by omega)]
  ·rw [if_neg hb]
   by_cases hc:p<n∧(p<i∨n - i≤p)
   ·rw [if_pos hc,if_pos (by omega)]
   ·rw [if_neg hc,if_neg (by omega)]
theorem Ko{l:List Nat}{n i:Nat}(hn:n≤l.length)(hi2:n - 1 - i≤i):j2 l n i=(l.take n).reverse++l.drop n:=by
 apply List.ext_getElem (by simp [j2]; omega)
 intro p h1 h2
 rw [xQ] at h1
 simp only [j2,List.getElem_map,List.getElem_range]
 have hl:(l.take n).reverse.length=n:=by simp; omega
 by_cases ha:p<n
 ·rw [List.getElem_append_left (by omega),List.getElem_reverse,List.getElem_take]
  have e:(l.take n).length - 1 - p=n - 1 - p:=by simp; omega
  simp only [e]
  by_cases hc:p<i∨n - i≤p
  ·rw [if_pos ⟨ha,hc⟩]; simp [show n - 1 - p<l.length by omega]
  ·rw [if_neg (fun h=>hc h.2)]
   have:n - 1 - p=p:=by omega
   simp [this,h1]
 ·rw [if_neg (fun h=>ha h.1),List.getElem_append_right (by omega)]
  simp only [hl,List.getElem_drop]
  have:n+(p - n)=p:=by omega
  simp [this,h1]
def yZ:Ctr:=ctrT false false (fun p:List Nat×Nat=>[.osl 0 1 0 p.2]) (fun p=>[.arr p.1.length 1 (natG .u8 p.1)]) (fun p=>p.2≤p.1.length∧p.1.length<2^62) (fun _ (_:Unit)=>True) (fun p _=>(.tup [],[.arr p.1.length 1 (natG .u8 ((p.1.take p.2).reverse++p.1.drop p.2))]))
def SV(n i:Nat):KV:=[(0,.osl 0 1 0 n),(2,.int .i64 (i:Int)),(3,.int .i64 ((n:Int) - 1 - i))]
theorem JK:zf Try.prog 80 yZ:=by
 refine ja (fn:=Try.f80) (c:=Try.f80.body.getD .skip) rfl rfl rfl (fun h=>by cases h) fun p hp O w0 σ0 Q hl0 hq=> ?_
 obtain⟨l,n⟩:=p
 obtain⟨hn,hl⟩:=hp
 replace hq:=hq () trivial
 simp only at hn hl hq
 refine zc.run hmix zA [0,2,3] 400 (T:=Tree.side (inR IntKind.i64 ((↑n:Int) - (1:Int))) (Tree.leaf (j1.loop (Prod.fst (lps K80 (0:Nat))) (Prod.snd (lps K80 (0:Nat))) [((0:Nat),AV.osl (0:Nat) (1:Nat) (0:Nat) n),((2:Nat),AV.int .i64 (0:Int)),((3:Nat),AV.int .i64 ((↑n:Int) - (1:Int)))] [Blk.arr l.length (1:Nat) (natG .u8 l)]))) (by kernel_rfl) ?_
 simp only [Tree.holds,zd,inR,lo,hi]
 refine⟨by omega,fun _=> ?_⟩
 refine zc.loop (ι:={i:Nat // i≤n}) (fun i=>SV n i.1) (fun i=>[.arr l.length 1 (natG .u8 (j2 l n i.1))]) (fun i=>n - i.1) ⟨0,Nat.zero_le _⟩ 0 ?_ ?_ (by kernel_rfl)
 ·exact⟨by simp [SV],by simp [JD,za],by kernel_rfl,Nat.le_refl _⟩
 ·rintro⟨i,hin⟩
  obtain⟨u,hu⟩:∃ u,j2 l n i=u:=⟨_,rfl⟩
  have hul:u.length=l.length:=by rw [← hu,xQ]
  simp only [hu,← hul]
  refine zc.run hmix zA [0,2,3] 400 (T:=Tree.ite (decide ((↑i:Int)<(↑n:Int) - (1:Int) - (↑i:Int))) (Tree.side ((0:Int)≤(↑n:Int) - (1:Int) - (↑i:Int)∧(↑n:Int) - (1:Int) - (↑i:Int)<(↑n:Int)) (Tree.side ((0:Int)≤(↑i:Int)∧(↑i:Int)<(↑n:Int)) (Tree.side ((0:Int)≤(↑i:Int)∧(↑i:Int)<(↑n:Int)) (Tree.side ((0:Int)≤(↑n:Int) - (1:Int) - (↑i:Int)∧(↑n:Int) - (1:Int) - (↑i:Int)<(↑n:Int)) (Tree.side (inR IntKind.i64 ((↑i:Int)+(1:Int))) (Tree.side (inR IntKind.i64 ((↑n:Int) - (1:Int) - (↑i:Int) - (1:Int))) (Tree.leaf (j1.back (0:Nat) [((0:Nat),AV.osl (0:Nat) (1:Nat) (0:Nat) n),((2:Nat),AV.int .i64 ((↑i:Int)+(1:Int))),((3:Nat),AV.int .i64 ((↑n:Int) - (1:Int) - (↑i:Int) - (1:Int)))] [Blk.arr u.length (1:Nat) (updG (updG (natG .u8 u) ((0:Nat)+Int.toNat (↑i:Int)) (0:Nat) [AV.int .u8 (↑(u.getD ((0:Nat)+Int.toNat ((↑n:Int) - (1:Int) - (↑i:Int))) (0:Nat)):Int)]) ((0:Nat)+Int.toNat ((↑n:Int) - (1:Int) - (↑i:Int))) (0:Nat) [AV.int .u8 (↑(u.getD ((0:Nat)+Int.toNat (↑i:Int)) (0:Nat)):Int)])])))))))) (Tree.leaf (j1.ret [] [Blk.arr u.length (1:Nat) (natG .u8 u)]))) (by kernel_rfl) ?_
  simp only [Tree.holds,zd,inR,lo,hi,Int.toNat_natCast]
  refine⟨fun hlt=> ?_,fun hge=> ?_⟩
  ·have hlt:i<n - 1 - i:=by simp at hlt; omega
   have ej:((n:Int) - 1 - i).toNat=n - 1 - i:=by omega
   rw [ej]
   iterate 6 refine⟨by omega,fun _=> ?_⟩
   rw [if_pos trivial]
   have hs:=Wg (l:=l) hn hlt
   rw [hu] at hs
   refine⟨⟨i+1,by omega⟩,by show n - (i+1)<n - i; omega,by simp [SV]; omega,?_,by kernel_rfl,Nat.le_refl _⟩
   rw [← hs]
   refine⟨⟨rfl,rfl,?_⟩,trivial⟩
   have h1:=wN (k:=.u8) (l:=u) (v:=(u.getD (n - 1 - i) 0:Nat)) (i:=i) (by omega) (by omega)
   have h2:=wN (k:=.u8) (l:=u.set i (u.getD (n - 1 - i) 0)) (v:=(u.getD i 0:Nat)) (i:=n - 1 - i) (by omega) (by simp; omega)
   simp only [List.length_set,Int.toNat_natCast] at h1 h2
   refine xC ?_ h2
   intro p o hp ho
   have:=h1 p o hp ho
   simp only [updG,Nat.zero_add] at this ⊢
   split
   ·rfl
   ·exact this
  ·have hge:n - 1 - i≤i:=by simp at hge; omega
   have hr:=Ko (l:=l) hn hge
   rw [hu] at hr
   refine⟨[0],rfl,by simp,by simp,by simp [yZ,ctrT],.tup [],_,zR (by simp [resV,exp2,eqA2,eqL1]),.inl ?_,rfl,hq⟩
   simp [expH,expB,hr,za]
   omega
def wR(neg:Bool)(x:Nat):Blk:=.box [.bool neg,magS x]
def SW(x i n:Nat):KV:=[(1,.ptr 0 0),(4,.osl 1 1 0 n),(6,.undef),(12,magS x),(13,.int .i64 ((canon x).length:Int)),(14,.int .i64 (i:Int)),(18,.undef)]
def SW2(x i n g k:Nat):KV:=[(1,.ptr 0 0),(4,.osl 1 1 0 n),(6,.int .u32 (g:Int)),(12,magS x),(13,.int .i64 ((canon x).length:Int)),(14,.int .i64 (i:Int)),(18,.int .i64 (k:Int))]
noncomputable def G4:Nat→Option Ctr:=fun f=>if f=80 then some (yZ) else none
theorem WV:∀ g c,G4 g=some c→zf Try.prog g c:=okIf JK (zx)
theorem ui(k:IntKind)(l:List Nat)(n:Nat)(hn:n≤l.length):vS n (zg (natG k l) 0)=(l.take n).map UInt8.ofNat:=by
 apply List.ext_getElem (by simp [vS]; omega)
 intro j h1 h2
 have hj:j<n:=by simpa [vS] using h1
 simp [vS,zg,natG,Sx.byteOf,show j<l.length by omega]
def wb(x i:Nat):List Nat:=(decs (9*i) (val ((canon x).take i))).map (48 + ·)
theorem ZT(x i:Nat):(wb x i).length=9*i:=by simp [wb,x4]
theorem V6(i:Nat):B^i=10^(9*i):=by rw [Nat.pow_mul]
theorem YN{x i:Nat}(h:i<(canon x).length):wb x i++(decs 9 ((canon x).getD i 0)).map (48 + ·)=wb x (i+1):=by
 have h1:=qc (qX (zk x) i)
 rw [List.length_take,Nat.min_eq_left (by omega),V6] at h1
 simp only [wb]
 rw [← List.map_append,← yo _ _ _ _ h1,zt,V6]
 rfl
theorem W3(x:Nat):wb x (canon x).length=(dec x).map (48 + ·)++List.replicate (9*(canon x).length - (dec x).length) 48:=by
 have h:x<10^(9*(canon x).length):=by
  have:=qc (zk x)
  rwa [zm,V6] at this
 simp only [wb,List.take_length,zm,Y0 h,Ten.padN,List.map_append,List.map_replicate,dec]
def JC:Ctr:=ctrP true (fun p:Bool×Nat=>[.agg [.bool p.1,magS p.2]]) (fun p=>(canon p.2).length<1000000) (fun p r=>r=wr p.1 p.2) (fun _ r=>(.tup [.str r.1,.int .i64 r.2],[]))
theorem VF{O:Nat→Prop}{w0:World}{Q:AV×Heap→Prop}{Hs:Nat→KV→Heap→Prop}(neg:Bool)(x:Nat)(hx:(canon x).length<1000000)(hx0:x≠0)(hq:Q (.tup [.str (wr neg x).1,.int .i64 (wr neg x).2],[]))(b:List Nat)(hb:b=wb x (canon x).length) :
  zc Try.prog Try.f65 O 0 w0 [] Hs (RetR JC 0 Q) (.code (.loop (lps (inside K65 0) 1).1)::(lps (inside K65 0) 1).2) (mk Try.f65.ntmps (SW x (canon x).length b.length) [wR neg x,.arr b.length 1 (natG .u8 b)]):=by
 have hdl:=YY hx0
 have hle:(dec x).length≤9*(canon x).length:=by
  have:=qc (zk x)
  rw [zm,V6] at this
  exact JL this
 have hbl:b.length=9*(canon x).length:=by rw [hb,ZT]
 have hget:∀ p,p<b.length→b.getD p 0=48+(dec x).getD p 0:=by
  intro p hp
  rw [hb,W3]
  by_cases h:p<(dec x).length
  ·rw [u0 (by simpa using h),Kf (z:=0) h]
  ·rw [yC (by simpa using Nat.le_of_not_lt h),XZ (by simp; omega),KZ (Nat.le_of_not_lt h)]
 have htake:b.take (dec x).length=(dec x).map (48 + ·):=by
  rw [hb,W3,List.take_append_of_le_length (by simp),List.take_of_length_le (by simp)]
 refine zc.loop (ι:={n:Nat // (dec x).length≤n∧n≤b.length}) (fun n=>SW x (canon x).length n.1) (fun _=>[wR neg x,.arr b.length 1 (natG .u8 b)]) (fun n=>n.1) ⟨b.length,by omega,Nat.le_refl _⟩ 0 ?_ ?_ (by kernel_rfl)
 ·exact⟨by simp [SW,magS,natS,za],by simp [wR,magS,natS,za],by kernel_rfl,Nat.zero_le _⟩
 ·rintro⟨n,hn1,hn2⟩
  obtain⟨L,hL⟩:∃ L,(canon x).length=L:=⟨_,rfl⟩
  simp only [hL]
  refine zc.run hmix WV [1,4,6,12,13,14,18] 400 (T:=Tree.side (inR IntKind.i64 ((↑n:Int) - (1:Int))) (Tree.side ((0:Int)≤(↑n:Int) - (1:Int)∧(↑n:Int) - (1:Int)<(↑n:Int)) (Tree.ite (decide ((↑(b.getD ((0:Nat)+Int.toNat ((↑n:Int) - (1:Int))) (0:Nat)):Int)=(48:Int))) (Tree.side (inR IntKind.i64 ((↑n:Int) - (1:Int))) (Tree.side ((0:Int)≤(↑n:Int) - (1:Int)∧(↑n:Int) - (1:Int)≤(↑n:Int)) (Tree.leaf (j1.back (0:Nat) [((1:Nat),AV.ptr (0:Nat) (0:Nat)),((4:Nat),AV.osl (1:Nat) (1:Nat) (0:Nat) (Int.toNat ((↑n:Int) - (1:Int)) - (0:Nat))),((6:Nat),AV.undef),((12:Nat),AV.sl (canon x).length (1:Nat) (natG .u32 (canon x))),((13:Nat),AV.int .i64 (↑(canon x).length:Int)),((14:Nat),AV.int .i64 (↑L:Int)),((18:Nat),AV.undef)] [Blk.box [AV.bool neg,AV.sl (canon x).length (1:Nat) (natG .u32 (canon x))],Blk.arr b.length (1:Nat) (natG .u8 b)])))) (Tree.ite (decide ((1000:Int)<(↑n:Int))) (Tree.leaf (j1.ret [AV.str #[].toList,AV.int .i64 (14:Int)] [Blk.box [AV.bool neg,AV.sl (canon x).length (1:Nat) (natG .u32 (canon x))],Blk.arr b.length (1:Nat) (natG .u8 b)])) (Tree.ite neg (Tree.side ((0:Nat)=(0:Nat)∧n≤List.length b∧(n+(1:Nat))*(1:Nat)≤(140737488355328:Nat)) (Tree.ex (fun(x:List Nat×Nat)=>eqL [AV.osl (0:Nat) (1:Nat) (0:Nat) (n+(1:Nat))] [AV.osl (0:Nat) (1:Nat) (0:Nat) (Prod.snd x)]∧eqH [Blk.arr (n+(1:Nat)) (1:Nat) (appG n (natG .u8 b) (zg (zh (1:Nat) [AV.int .u8 (45:Int)]) (0:Nat)))] [Blk.arr (Prod.fst x).length (1:Nat) (natG .u8 (Prod.fst x))]∧(1:Nat)=(1:Nat)∧Prod.snd x≤List.length (Prod.fst x)∧List.length (Prod.fst x)<(4611686018427387904:Nat)) fun(n_1:List Nat×Nat)=>Tree.all (fun(x:Unit)=>True) fun(n_2:Unit)=>Tree.side (∀ (j:Nat),j<n+(1:Nat)→∃ (b:UInt8),AV.int .u8 (↑(List.getD (List.reverse (List.take (Prod.snd n_1) (Prod.fst n_1))++List.drop (Prod.snd n_1) (Prod.fst n_1)) ((0:Nat)+j) (0:Nat)):Int)=AV.int .u8 (↑(UInt8.toNat b):Int)) (Tree.leaf (j1.ret [AV.str (vS (n+(1:Nat)) (zg (natG .u8 (List.reverse (List.take (Prod.snd n_1) (Prod.fst n_1))++List.drop (Prod.snd n_1) (Prod.fst n_1))) (0:Nat))),AV.int .i64 (0:Int)] [Blk.box [AV.bool neg,AV.sl (canon x).length (1:Nat) (natG .u32 (canon x))],Blk.arr (Prod.fst n_1).length (1:Nat) (natG .u8 (List.reverse (List.take (Prod.snd n_1) (Prod.fst n_1))++List.drop (Prod.snd n_1) (Prod.fst n_1))),Blk.arr (1:Nat) (1:Nat) (zh (1:Nat) [AV.int .u8 (45:Int)])])))) (Tree.ex (fun(x:List Nat×Nat)=>eqL [AV.osl (0:Nat) (1:Nat) (0:Nat) n] [AV.osl (0:Nat) (1:Nat) (0:Nat) (Prod.snd x)]∧eqH [Blk.arr b.length (1:Nat) (natG .u8 b)] [Blk.arr (Prod.fst x).length (1:Nat) (natG .u8 (Prod.fst x))]∧(1:Nat)=(1:Nat)∧Prod.snd x≤List.length (Prod.fst x)∧List.length (Prod.fst x)<(4611686018427387904:Nat)) fun(n_1:List Nat×Nat)=>Tree.all (fun(x:Unit)=>True) fun(n_2:Unit)=>Tree.side (∀ (j:Nat),j<n→∃ (b:UInt8),AV.int .u8 (↑(List.getD (List.reverse (List.take (Prod.snd n_1) (Prod.fst n_1))++List.drop (Prod.snd n_1) (Prod.fst n_1)) ((0:Nat)+j) (0:Nat)):Int)=AV.int .u8 (↑(UInt8.toNat b):Int)) (Tree.leaf (j1.ret [AV.str (vS n (zg (natG .u8 (List.reverse (List.take (Prod.snd n_1) (Prod.fst n_1))++List.drop (Prod.snd n_1) (Prod.fst n_1))) (0:Nat))),AV.int .i64 (0:Int)] [Blk.box [AV.bool neg,AV.sl (canon x).length (1:Nat) (natG .u32 (canon x))],Blk.arr (Prod.fst n_1).length (1:Nat) (natG .u8 (List.reverse (List.take (Prod.snd n_1) (Prod.fst n_1))++List.drop (Prod.snd n_1) (Prod.fst n_1)))])))))))) (by kernel_rfl) ?_
  have e1:((n:Int) - 1).toNat=n - 1:=by omega
  have e2:0+(n - 1)=n - 1:=by omega
  have e3:n - 1 - 0=n - 1:=by omega
  simp only [Tree.holds,zd,inR,lo,hi,e1,e2,e3]
  have hg:=hget (n - 1) (by omega)
  rw [hg]
  iterate 2 refine⟨by omega,fun _=> ?_⟩
  refine⟨fun hz=> ?_,fun hnz=>⟨fun hbig=> ?_,fun hsm=> ?_⟩⟩
  ·have hz:(dec x).getD (n - 1) 0=0:=by simp at hz ⊢; omega
   have hne:n≠(dec x).length:=by
    rintro rfl
    exact Uk hdl hz
   iterate 2 refine⟨by omega,fun _=> ?_⟩
   rw [if_pos trivial]
   exact⟨⟨n - 1,by omega,by omega⟩,by show n - 1<n; omega,by simp [SW,magS,natS,za],by simp [wR,magS,natS,za],by kernel_rfl,Nat.zero_le _⟩
  ·have hn:n=(dec x).length:=by
    rcases Nat.lt_or_ge (dec x).length n with h | h
    ·have:(dec x).getD (n - 1) 0=0:=by simp [List.getD,List.getElem?_eq_none (show(dec x).length≤n - 1 by omega)]
     rw [this] at hnz; simp at hnz
    ·omega
   subst hn
   have hbig:1000<(dec x).length:=by simp at hbig; omega
   simp only [wr,if_neg hx0,if_pos hbig] at hq
   exact RetR.scal hq rfl rfl
  ·have hn:n=(dec x).length:=by
    rcases Nat.lt_or_ge (dec x).length n with h | h
    ·have:(dec x).getD (n - 1) 0=0:=by simp [List.getD,List.getElem?_eq_none (show(dec x).length≤n - 1 by omega)]
     rw [this] at hnz; simp at hnz
    ·omega
   subst hn
   have hsm:¬ 1000<(dec x).length:=by simp at hsm; omega
   simp only [wr,if_neg hx0,if_neg hsm] at hq
   have hbyte:∀ (l:List Nat) (k:Nat),(∀ d∈l,d<256)→∀ j,j<k→∃ c:UInt8,AV.int .u8 ((l.getD (0+j) 0:Nat):Int) = .int .u8 (c.toNat:Int):=by
    intro l k hl j hj
    rw [Nat.zero_add]
    have:l.getD j 0<256:=by
     by_cases h:j<l.length
     ·have:=hl l[j] (List.getElem_mem h)
      simpa [List.getD,h] using this
     ·simp [List.getD,List.getElem?_eq_none (Nat.le_of_not_lt h)]
    refine⟨UInt8.ofNat (l.getD j 0),?_⟩
    simp only [AV.int.injEq,true_and]
    rw [UInt8.toNat_ofNat',Nat.mod_eq_of_lt this]
   have hb256:∀ d∈b,d<256:=by
    intro d hd
    rw [hb,W3] at hd
    rcases List.mem_append.1 hd with hd | hd
    ·obtain⟨y,hy,rfl⟩:=List.mem_map.1 hd
     have:=Ten.zk x y hy
     simp only [Ten.B] at this
     omega
    ·have:=(List.mem_replicate.1 hd).2; omega
   have htx:((b.take (dec x).length).reverse).map UInt8.ofNat=txt x:=by
    rw [htake,txt,if_neg hx0,List.map_reverse,List.map_map]; rfl
   refine⟨fun hneg=> ?_,fun hneg=> ?_⟩
   ·subst hneg
    refine⟨⟨trivial,hn2,by omega⟩,fun _=> ?_⟩
    have hal:(b.take (dec x).length++[45]).length=(dec x).length+1:=by simp; omega
    refine⟨(b.take (dec x).length++[45],(dec x).length+1),⟨by simp,?_,by simp,by simp only [hal]; omega,by simp only [hal]; omega⟩,⟨(),trivial⟩,fun _ _=>⟨?_,fun _=> ?_⟩⟩
    ·simp only [eqH,eqB,hal]
     refine⟨⟨trivial,trivial,?_⟩,trivial⟩
     intro j o hj ho
     have:o=0:=by omega
     subst this
     simp only [appG,zg,zh,natG]
     have hl:(b.take (dec x).length).length=(dec x).length:=by simp; omega
     by_cases h:j<(dec x).length
     ·rw [if_pos h,u0 (by omega),YX h]
     ·have:j=(dec x).length:=by omega
      subst this
      rw [if_neg (by omega),yC (by omega),hl,Nat.sub_self]
      rfl
    ·refine hbyte _ _ ?_
     intro d hd
     simp only [List.mem_append,List.mem_reverse] at hd
     rcases hd with hd | hd
     ·have:=List.mem_of_mem_take hd
      rcases List.mem_append.1 this with h | h
      ·exact hb256 d (List.mem_of_mem_take h)
      ·simp at h; omega
     ·have:=List.mem_of_mem_drop hd
      rcases List.mem_append.1 this with h | h
      ·exact hb256 d (List.mem_of_mem_take h)
      ·simp at h; omega
    ·refine RetR.scal hq rfl ?_
     simp only [resV]
     rw [ui _ _ _ (by simp; omega)]
     have ht:List.take ((dec x).length+1) (b.take (dec x).length++[45])=b.take (dec x).length++[45]:=List.take_of_length_le (by omega)
     rw [ht,List.take_append_of_le_length (by simp; omega),List.take_of_length_le (by simp; omega),List.reverse_append,List.map_append,htx]
     simp [sgn]
   ·subst hneg
    refine⟨(b,(dec x).length),⟨by simp,by simp [za],by simp,hn2,by simp only [hbl]; omega⟩,⟨(),trivial⟩,fun _ _=>⟨?_,fun _=> ?_⟩⟩
    ·refine hbyte _ _ ?_
     intro d hd
     simp only [List.mem_append,List.mem_reverse] at hd
     rcases hd with hd | hd
     ·exact hb256 d (List.mem_of_mem_take hd)
     ·exact hb256 d (List.mem_of_mem_drop hd)
    ·refine RetR.scal hq rfl ?_
     simp only [resV]
     have hrl:((b.take (dec x).length).reverse).length=(dec x).length:=by simp; omega
     rw [ui _ _ _ (by rw [List.length_append,hrl]; omega),List.take_append_of_le_length (by omega),List.take_of_length_le (by omega),htx]
     simp [sgn]
theorem XJ:zf Try.prog 65 JC:=by
 refine zn (fn:=Try.f65) (c:=Try.f65.body.getD .skip) rfl rfl rfl fun p hp O w0 Q hq=> ?_
 obtain⟨neg,x⟩:=p
 replace hq:=hq _ rfl
 simp only at hp hq
 refine zc.run hmix WV [1,4,6,12,13,14,18] 400 (T:=Tree.ite (decide ((↑(canon x).length:Int)=(0:Int))) (Tree.leaf (j1.ret [AV.str #[(48:UInt8)].toList,AV.int .i64 (0:Int)] [Blk.box [AV.bool neg,AV.sl (canon x).length (1:Nat) (natG .u32 (canon x))]])) (Tree.leaf (j1.loop (Prod.fst (lps K65 (0:Nat))) (Prod.snd (lps K65 (0:Nat))) [((1:Nat),AV.ptr (0:Nat) (0:Nat)),((4:Nat),AV.nils),((6:Nat),AV.undef),((12:Nat),AV.sl (canon x).length (1:Nat) (natG .u32 (canon x))),((13:Nat),AV.int .i64 (↑(canon x).length:Int)),((14:Nat),AV.int .i64 (0:Int)),((18:Nat),AV.undef)] [Blk.box [AV.bool neg,AV.sl (canon x).length (1:Nat) (natG .u32 (canon x))]]))) (by kernel_rfl) ?_
 simp only [Tree.holds,zd,inR,lo,hi]
 refine⟨fun h0=> ?_,fun h0=> ?_⟩
 ·have h0:x=0:=by
   rcases Nat.eq_zero_or_pos x with h | h
   ·exact h
   ·have:=jc (x:=x) (n:=0) (by simp; omega)
    simp at h0; rw [h0] at this; simp at this
  subst h0
  refine RetR.scal hq rfl ?_
  simp [resV,wr]
 ·have hx0:x≠0:=by
   rintro rfl
   simp [zP] at h0
  refine zc.bear 4 1 (natG .u8 []) (by kernel_rfl) (by decide +kernel) (by kernel_rfl) ?_
  refine zc.loop (ι:={i:Nat // i≤(canon x).length}) (fun i=>SW x i.1 (wb x i.1).length) (fun i=>[wR neg x,.arr (wb x i.1).length 1 (natG .u8 (wb x i.1))]) (fun i=>(canon x).length - i.1) ⟨0,Nat.zero_le _⟩ 0 ?_ ?_ (by kernel_rfl)
  ·exact⟨by simp [Z8,SW,magS,natS,za,ZT],by simp [wR,magS,natS,za,ZT,eqG],by kernel_rfl,Nat.zero_le _⟩
  ·rintro⟨i,hil⟩
   obtain⟨b,hb⟩:∃ b,wb x i=b:=⟨_,rfl⟩
   simp only [hb]
   refine zc.run hmix WV [1,4,6,12,13,14,18] 400 (T:=Tree.ite (decide ((↑i:Int)<(↑(canon x).length:Int))) (Tree.side ((0:Int)≤(↑i:Int)∧(↑i:Int)<(↑(canon x).length:Int)) (Tree.leaf (j1.loop (Prod.fst (lps (inside K65 (0:Nat)) (0:Nat))) (Prod.snd (lps (inside K65 (0:Nat)) (0:Nat))) [((1:Nat),AV.ptr (0:Nat) (0:Nat)),((4:Nat),AV.osl (1:Nat) (1:Nat) (0:Nat) b.length),((6:Nat),AV.int .u32 (↑(List.getD (canon x) (↑i:Int).toNat (0:Nat)):Int)),((12:Nat),AV.sl (canon x).length (1:Nat) (natG .u32 (canon x))),((13:Nat),AV.int .i64 (↑(canon x).length:Int)),((14:Nat),AV.int .i64 (↑i:Int)),((18:Nat),AV.int .i64 (0:Int))] [Blk.box [AV.bool neg,AV.sl (canon x).length (1:Nat) (natG .u32 (canon x))],Blk.arr b.length (1:Nat) (natG .u8 b)]))) (Tree.leaf (j1.loop (Prod.fst (lps (inside K65 (0:Nat)) (1:Nat))) (Prod.snd (lps (inside K65 (0:Nat)) (1:Nat))) [((1:Nat),AV.ptr (0:Nat) (0:Nat)),((4:Nat),AV.osl (1:Nat) (1:Nat) (0:Nat) b.length),((6:Nat),AV.undef),((12:Nat),AV.sl (canon x).length (1:Nat) (natG .u32 (canon x))),((13:Nat),AV.int .i64 (↑(canon x).length:Int)),((14:Nat),AV.int .i64 (↑i:Int)),((18:Nat),AV.undef)] [Blk.box [AV.bool neg,AV.sl (canon x).length (1:Nat) (natG .u32 (canon x))],Blk.arr b.length (1:Nat) (natG .u8 b)]))) (by kernel_rfl) ?_
   simp only [Tree.holds,zd,inR,lo,hi,Int.toNat_natCast]
   refine⟨fun hlt=>⟨by simp at hlt; omega,fun _=> ?_⟩,fun hge=> ?_⟩
   ·have hlt:i<(canon x).length:=by simp at hlt; omega
    obtain⟨g,hg⟩:∃ g,(canon x).getD i 0=g:=⟨_,rfl⟩
    have hgB:g<1000000000:=hg▸zM (zk x) i
    have hstep:=YN hlt
    have hbl:b.length=9*i:=by rw [← hb,ZT]
    rw [hb,hg] at hstep
    rw [hg]
    refine zc.loop (ι:={k:Nat // k≤9}) (fun k=>SW2 x i (b++(decs k.1 g).map (48 + ·)).length (g/10^k.1) k.1) (fun k=>[wR neg x,.arr (b++(decs k.1 g).map (48 + ·)).length 1 (natG .u8 (b++(decs k.1 g).map (48 + ·)))]) (fun k=>9 - k.1) ⟨0,Nat.zero_le _⟩ 1 ?_ ?_ (by kernel_rfl)
    ·exact⟨by simp [SW2,magS,natS,za,decs],by simp [wR,magS,natS,za,decs],by kernel_rfl,Nat.zero_le _⟩
    ·rintro⟨k,hk⟩
     obtain⟨c,hc⟩:∃ c,b++(decs k g).map (48 + ·)=c:=⟨_,rfl⟩
     obtain⟨q,hqv⟩:∃ q,g/10^k=q:=⟨_,rfl⟩
     have hqB:q<1000000000:=by rw [← hqv]; exact Nat.lt_of_le_of_lt (Nat.div_le_self _ _) hgB
     have hcl:c.length=9*i+k:=by rw [← hc]; simp [x4,hbl]
     have hnext:b++(decs (k+1) g).map (48 + ·)=c++[48+q%10]:=by
      rw [Zs,List.map_append,← List.append_assoc,hc,hqv]; rfl
     have hqn:g/10^(k+1)=q/10:=by rw [Nat.pow_succ,← Nat.div_div_eq_div_mul,hqv]
     simp only [hc,hqv]
     refine zc.run hmix WV [1,4,6,12,13,14,18] 400 (T:=Tree.ite (decide ((↑k:Int)<(9:Int))) (Tree.side ((10:Int)≠(0:Int)) (Tree.side (inR IntKind.u32 ((48:Int)+Int.tmod (↑q:Int) (10:Int))) (Tree.side (inR IntKind.u8 ((48:Int)+Int.tmod (↑q:Int) (10:Int))) (Tree.side ((0:Nat)=(0:Nat)∧List.length c≤List.length c∧(List.length c+(1:Nat))*(1:Nat)≤(140737488355328:Nat)) (Tree.side ((10:Int)≠(0:Int)∧inR IntKind.u32 (Int.tdiv (↑q:Int) (10:Int))) (Tree.side (inR IntKind.i64 ((↑k:Int)+(1:Int))) (Tree.leaf (j1.back (1:Nat) [((1:Nat),AV.ptr (0:Nat) (0:Nat)),((4:Nat),AV.osl (1:Nat) (1:Nat) (0:Nat) (List.length c+(1:Nat))),((6:Nat),AV.int .u32 (Int.tdiv (↑q:Int) (10:Int))),((12:Nat),AV.sl (canon x).length (1:Nat) (natG .u32 (canon x))),((13:Nat),AV.int .i64 (↑(canon x).length:Int)),((14:Nat),AV.int .i64 (↑i:Int)),((18:Nat),AV.int .i64 ((↑k:Int)+(1:Int)))] [Blk.box [AV.bool neg,AV.sl (canon x).length (1:Nat) (natG .u32 (canon x))],Blk.arr (List.length c+(1:Nat)) (1:Nat) (appG c.length (natG .u8 c) (zg (zh (1:Nat) [AV.int .u8 ((48:Int)+Int.tmod (↑q:Int) (10:Int))]) (0:Nat))),Blk.arr (1:Nat) (1:Nat) (zh (1:Nat) [AV.int .u8 ((48:Int)+Int.tmod (↑q:Int) (10:Int))])])))))))) (Tree.side (inR IntKind.i64 ((↑i:Int)+(1:Int))) (Tree.leaf (j1.back (0:Nat) [((1:Nat),AV.ptr (0:Nat) (0:Nat)),((4:Nat),AV.osl (1:Nat) (1:Nat) (0:Nat) c.length),((6:Nat),AV.int .u32 (↑q:Int)),((12:Nat),AV.sl (canon x).length (1:Nat) (natG .u32 (canon x))),((13:Nat),AV.int .i64 (↑(canon x).length:Int)),((14:Nat),AV.int .i64 ((↑i:Int)+(1:Int))),((18:Nat),AV.int .i64 (↑k:Int))] [Blk.box [AV.bool neg,AV.sl (canon x).length (1:Nat) (natG .u32 (canon x))],Blk.arr c.length (1:Nat) (natG .u8 c)])))) (by kernel_rfl) ?_
     have e10:(10:Int)=((10:Nat):Int):=rfl
     have em:Int.tmod (q:Int) 10=((q%10:Nat):Int):=by rw [e10,WR]
     have ed:Int.tdiv (q:Int) 10=((q/10:Nat):Int):=by rw [e10,Vr]
     simp only [Tree.holds,zd,inR,lo,hi,em,ed]
     refine⟨fun hlt2=> ?_,fun hge2=> ?_⟩
     ·have hlt2:k<9:=by simp at hlt2; omega
      refine⟨by decide,fun _=>⟨by omega,fun _=>⟨by omega,fun _=>⟨⟨trivial,Nat.le_refl _,by omega⟩,fun _=>⟨⟨by decide,by omega,by omega⟩,fun _=>⟨by omega,fun _=> ?_⟩⟩⟩⟩⟩⟩
      rw [if_pos trivial]
      refine⟨⟨k+1,by omega⟩,by show 9 - (k+1)<9 - k; omega,?_,?_,by kernel_rfl,Nat.zero_le _⟩
      ·simp [SW2,hnext,hqn,magS,natS,za]
      ·simp only [hnext]
       refine⟨by simp [wR,magS,natS,za],⟨by simp,rfl,?_⟩,trivial⟩
       have:=yV (k:=.u8) (l:=c) (v:=48+((q%10:Nat):Int)) (by omega)
       rw [show(48+((q%10:Nat):Int)).toNat=48+q%10 by omega] at this
       exact this
     ·have hge2:k=9:=by simp at hge2; omega
      subst hge2
      refine⟨by omega,fun _=> ?_⟩
      rw [if_neg (by decide),if_pos trivial]
      have hcw:c=wb x (i+1):=by rw [← hc,hstep]
      exact⟨⟨i+1,hlt⟩,by show _ - (i+1)<_ - i; omega,by simp [SW,hcw,magS,natS,za],by simp [hcw,wR,magS,natS,za],by kernel_rfl,Nat.zero_le _⟩
   ·have hge:i=(canon x).length:=by simp at hge; omega
    subst hge
    exact VF neg x hp hx0 hq b hb.symm
noncomputable def K50:List Go.Sx.Item:=[.code (Try.f50.body.getD .skip)]
noncomputable def K51:List Go.Sx.Item:=[.code (Try.f51.body.getD .skip)]
theorem ug(c:UInt8):(if decide ((c.toNat:Int)<48)=true then true else decide (57<(c.toNat:Int))) = !isD c:=by
 simp only [isD]
 by_cases h:c.toNat<48
 ·rw [if_pos (by simp; omega)]; simp; omega
 ·rw [if_neg (by simp; omega)]
  by_cases h2:c.toNat≤57
  ·have:decide (57<(c.toNat:Int))=false:=by simp; omega
   rw [this]; simp; omega
  ·have:decide (57<(c.toNat:Int))=true:=by simp; omega
   rw [this]; simp; omega
def uK:Ctr:=ctrP true (fun s:List UInt8=>[.str s]) (fun s=>s.length<2^62) (fun s r=>r=errI s) (fun _ r=>(.int .i64 r,[]))
def SCk(b:List UInt8)(i:Nat):KV:=[(3,.str b),(31,.int .i64 (b.length:Int)),(32,.int .i64 (i:Int)),(40,.undef),(41,.undef),(42,.undef),(43,.undef)]
theorem uR{O:Nat→Prop}{w0:World}{Q:AV×Heap→Prop}{neg:Bool}(b:List UInt8)(hb:b.length<2^62)(hf:b.all isD=true→wc neg b=true)
  (hq:Q (.int .i64 (if wc neg b then(if 1000<b.length then 14 else 0) else 12),[])) :
  zc Try.prog Try.f50 O 0 w0 [] (fun _ _ _=>False) (RetR uK 0 Q) (.code (.loop (lps K50 0).1)::(lps K50 0).2) (mk Try.f50.ntmps (SCk b 0) []):=by
 refine zc.loop (ι:={i:Nat // i≤b.length∧∀ j,j<i→isD (b.getD j 0)=true}) (fun i=>SCk b i.1) (fun _=>[]) (fun i=>b.length - i.1) ⟨0,Nat.zero_le _,fun j hj=>by omega⟩ 0 ?_ ?_ (by kernel_rfl)
 ·exact⟨by simp [SCk],by simp,by kernel_rfl,Nat.zero_le _⟩
 ·rintro⟨i,hil,hid⟩
  refine zc.run hmix zA [3,31,32,40,41,42,43] 400 (T:=.ite (decide ((↑i:Int)<b.length)) (.side ((0:Int)≤i∧(↑i:Int)<b.length) (.side (decide ((↑(UInt8.toNat (b.getD (↑i:Int).toNat (0:UInt8))):Int)<48)=false→(0:Int)≤i∧(↑i:Int)<b.length) (.ite (bif decide ((↑(UInt8.toNat (b.getD (↑i:Int).toNat (0:UInt8))):Int)<48) then true else decide ((57:Int)<(↑(UInt8.toNat (b.getD (↑i:Int).toNat (0:UInt8))):Int))) (.leaf (.ret [.int .i64 12] [])) (.side (inR .i64 ((↑i:Int)+(1:Int))) (.leaf (.back 0 [(3,.str b),(31,.int .i64 b.length),(32,.int .i64 ((↑i:Int)+(1:Int))),(40,.undef),(41,.undef),(42,.undef),(43,.undef)] [])))))) (.ite (decide ((1000:Int)<b.length)) (.leaf (.ret [.int .i64 14] [])) (.leaf (.ret [.int .i64 0] [])))) (by kernel_rfl) ?_
  simp only [Tree.holds,zd,inR,lo,hi,Int.toNat_natCast,Bool.cond_eq_ite]
  refine⟨fun hlt=> ?_,fun hge=>⟨fun hbig=> ?_,fun hsm=> ?_⟩⟩
  ·have hlt:i<b.length:=by simp at hlt; omega
   refine⟨by omega,fun _=>⟨fun _=>by omega,fun _=>⟨fun hbad=> ?_,fun hgood=>⟨by omega,fun _=> ?_⟩⟩⟩⟩
   ·have hnd:isD (b.getD i 0)=false:=by
     rw [ug] at hbad
     simpa using hbad
    have hnf:wc neg b=false:=by
     have:b.all isD=false:=by
      rw [List.all_eq_false]
      refine⟨b.getD i 0,by simp [List.getD,hlt],by simpa using hnd⟩
     simp [wc,this]
    rw [hnf] at hq
    exact RetR.scal hq rfl (by simp [resV])
   ·have hd:isD (b.getD i 0)=true:=by
     rw [ug] at hgood
     simpa using hgood
    rw [if_pos trivial]
    refine⟨⟨i+1,hlt,fun j hj=> ?_⟩,by show b.length - (i+1)<b.length - i; omega,by simp [SCk],by simp,by kernel_rfl,Nat.zero_le _⟩
    rcases Nat.lt_or_ge j i with h | h
    ·exact hid j h
    ·have:j=i:=by omega
     subst this; exact hd
  all_goals
   have hge:i=b.length:=by simp at hge; omega
   have hall:b.all isD=true:=by
    rw [List.all_eq_true]
    intro c hc
    obtain⟨j,hj,rfl⟩:=List.getElem_of_mem hc
    have:=hid j (by omega)
    simpa [List.getD,hj] using this
   rw [hf hall] at hq
  ·rw [if_pos rfl,if_pos (by simp at hbig; omega)] at hq
   exact RetR.scal hq rfl (by simp [resV])
  ·rw [if_pos rfl,if_neg (by simp at hsm; omega)] at hq
   exact RetR.scal hq rfl (by simp [resV])
theorem uo:zf Try.prog 50 uK:=by
 refine zn (fn:=Try.f50) (c:=Try.f50.body.getD .skip) rfl rfl rfl fun s hs O w0 Q hq=> ?_
 replace hq:=hq _ rfl
 refine zc.run hmix zA [3,31,32,40,41,42,43] 400 (T:=.side (decide ((0:Int)<s.length)=true→(0:Int)≤0∧(0:Int)<s.length) (.ite (bif decide ((0:Int)<s.length) then decide ((↑(UInt8.toNat (s.getD 0 (0:UInt8))):Int)=45) else false) (.side ((0:Int)≤1∧(1:Int)≤s.length) (.ite (decide (List.drop 1 (List.take s.length s)=#[(48:UInt8)].toList)) (.leaf (.ret [.int .i64 12] [])) (.side (decide (List.drop 1 (List.take s.length s)=#[].toList)=false→(0:Int)≤0∧(0:Int)<(↑(List.length (List.drop 1 (List.take s.length s))):Int)) (.ite (bif decide (List.drop 1 (List.take s.length s)=#[].toList) then true else bif decide ((↑(UInt8.toNat (List.getD (List.drop 1 (List.take s.length s)) 0 (0:UInt8))):Int)=48) then decide ((1:Int)<(↑(List.length (List.drop 1 (List.take s.length s))):Int)) else false) (.leaf (.ret [.int .i64 12] [])) (.leaf (.loop (Prod.fst (lps K50 0)) (Prod.snd (lps K50 0)) [(3,.str (List.drop 1 (List.take s.length s))),(31,.int .i64 (↑(List.length (List.drop 1 (List.take s.length s))):Int)),(32,.int .i64 0),(40,.undef),(41,.undef),(42,.undef),(43,.undef)] [])))))) (.side (decide (s=#[].toList)=false→(0:Int)≤0∧(0:Int)<s.length) (.ite (bif decide (s=#[].toList) then true else bif decide ((↑(UInt8.toNat (s.getD 0 (0:UInt8))):Int)=48) then decide ((1:Int)<s.length) else false) (.leaf (.ret [.int .i64 12] [])) (.leaf (.loop (Prod.fst (lps K50 0)) (Prod.snd (lps K50 0)) [(3,.str s),(31,.int .i64 s.length),(32,.int .i64 0),(40,.undef),(41,.undef),(42,.undef),(43,.undef)] [])))))) (by kernel_rfl) ?_
 simp only [Tree.holds,zd,inR,lo,hi,Bool.cond_eq_ite]
 cases s with
 | nil=>
  simp only [errI,parse,wc] at hq
  refine⟨by simp,fun _=>⟨fun h=>by simp at h,fun _=>⟨by simp,fun _=>⟨fun _=> ?_,fun h=>by simp at h⟩⟩⟩⟩
  exact RetR.scal hq rfl (by simp [resV])
 | cons c b=>
  refine⟨by simp,fun _=>⟨fun h=> ?_,fun h=> ?_⟩⟩
  ·have hc:c=45:=by
    simp at h
    have:c.toNat=45:=by omega
    exact UInt8.toNat_inj.1 this
   subst hc
   have hp:parse (45::b)=(true,b):=rfl
   have hd:List.drop 1 (List.take (45::b).length (45::b))=b:=by simp
   rw [hd]
   simp only [errI,hp] at hq
   refine⟨by simp; omega,fun _=>⟨fun h0=> ?_,fun h0=>⟨fun hne=> ?_,fun _=>⟨fun hbad=> ?_,fun hgood=> ?_⟩⟩⟩⟩
   ·have hb:b=[48]:=by simpa using h0
    subst hb
    exact RetR.scal hq rfl rfl
   ·have:b≠[]:=by simpa using hne
    have:=List.length_pos_iff.2 this
    omega
   ·have hnf:wc true b=false:=by
     by_cases hb:b=[]
     ·subst hb; rfl
     ·rw [if_neg (by simpa using hb)] at hbad
      split at hbad
      ·rename_i h48
       have:b.getD 0 0=48:=Vd (of_decide_eq_true h48)
       have hl:1<b.length:=by simp at hbad; omega
       exact yD this hl
      ·cases hbad
    rw [hnf] at hq
    exact RetR.scal hq rfl (by simp [resV])
   ·have hf:b.all isD=true→wc true b=true:=by
     intro hall
     have hb:b≠[]:=by
      intro hb; subst hb; simp at hgood
     have hb2:b≠[48]:=by simpa using h0
     rw [if_neg (by simpa using hb)] at hgood
     have h3:¬ (b.getD 0 0=48∧1<b.length):=by
      rintro⟨g1,g2⟩
      rw [g1] at hgood
      rw [if_pos (by decide)] at hgood
      simp at hgood; omega
     simp only [wc,hall,hb,hb2,Bool.and_true]
     simp only [decide_false,Bool.not_false,Bool.and_false,Bool.true_and,Bool.not_eq_true',Bool.and_eq_false_iff,decide_eq_false_iff_not]
     by_cases g1:b.getD 0 0=48
     ·exact .inr fun g2=>h3 ⟨g1,g2⟩
     ·exact .inl g1
    exact uR b (by simp at hs; omega) hf hq
  ·have hc:c≠45:=by
    rintro rfl
    simp at h
   have hp:parse (c::b)=(false,c::b):=by simp [parse,hc]
   simp only [errI,hp] at hq
   obtain⟨s,hs'⟩:∃ s,c::b=s:=⟨_,rfl⟩
   have hne:s≠[]:=by rw [← hs']; simp
   rw [hs'] at hq hs ⊢
   refine⟨fun _=>⟨by omega,by have:=List.length_pos_iff.2 hne; omega⟩,fun _=>⟨fun hbad=> ?_,fun hgood=> ?_⟩⟩
   ·have hnf:wc false s=false:=by
     rw [if_neg (by simpa using hne)] at hbad
     split at hbad
     ·rename_i h48
      have:s.getD 0 0=48:=Vd (of_decide_eq_true h48)
      have hl:1<s.length:=by simp at hbad; omega
      exact yD this hl
     ·cases hbad
    rw [hnf] at hq
    exact RetR.scal hq rfl (by simp [resV])
   ·have hf:s.all isD=true→wc false s=true:=by
     intro hall
     rw [if_neg (by simpa using hne)] at hgood
     have h3:¬ (s.getD 0 0=48∧1<s.length):=by
      rintro⟨g1,g2⟩
      rw [g1] at hgood
      rw [if_pos (by decide)] at hgood
      simp at hgood; omega
     simp only [wc,hall,hne,Bool.and_true]
     simp only [decide_false,Bool.not_false,Bool.false_and,Bool.true_and,Bool.not_eq_true',Bool.and_eq_false_iff,decide_eq_false_iff_not]
     by_cases g1:s.getD 0 0=48
     ·exact .inr fun g2=>h3 ⟨g1,g2⟩
     ·exact .inl g1
    exact uR s hs hf hq
def numV(neg:Bool)(x:Nat):AV:=.agg [.bool neg,magS x]
def Zv:Ctr:=ctrP false (fun p:List UInt8×List UInt8=>[.str p.1,.str p.2]) (fun p=>p.1.length<2^62∧p.2.length<2^62) (fun p (r:Int×(Bool×Nat)×(Bool×Nat))=>r=if j3 p.1 p.2=0 then(0,(negI p.1,numI p.1),(negI p.2,numI p.2)) else(j3 p.1 p.2,(false,0),(false,0)))
 (fun _ r=>(.tup [numV r.2.1.1 r.2.1.2,numV r.2.2.1 r.2.2.2,.int .i64 r.1],[]))
noncomputable def G5:Nat→Option Ctr:=fun f=>if f=50 then some (uK) else if f=73 then some (Xt) else none
theorem zbc:∀ g c,G5 g=some c→zf Try.prog g c:=okIf uo (okIf Us (zx))
theorem za0:canon 0=[]:=by simp [canon]
theorem Up:zf Try.prog 63 Zv:=by
 refine zn (fn:=Try.f63) (c:=Try.f63.body.getD .skip) rfl rfl rfl fun p hp O w0 Q hq=> ?_
 obtain⟨s,t⟩:=p
 obtain⟨hs,ht⟩:=hp
 replace hq:=hq _ rfl
 simp only at hs ht hq
 refine zc.run hmix zbc [] 400 (T:=.ex (fun(x:List UInt8)=>eqL [AV.str s] [AV.str x]∧x.length<4611686018427387904) fun n=>.all (fun(r:Int)=>r=errI n) fun n=>.ite (decide (n=0)) (.ex (fun(x:List UInt8)=>eqL [AV.str t] [AV.str x]∧x.length<4611686018427387904) fun n=>.all (fun(r:Int)=>r=errI n) fun n=>.ite (!decide (n=0)) (.leaf (.ret [.agg [.bool false,.nils],.agg [.bool false,.nils],.int .i64 n] [.box [.bool false,.nils],.box [.bool false,.nils]])) (.ex (fun(x:Bool×List UInt8)=>eqL [AV.str s] [AV.str (sgn x.1 x.2)]∧allD x.2∧x.2≠[]∧x.2.length≤1000000) fun n=>.all (fun(r:Nat)=>r=numD n.2) fun n_1=>.ex (fun(x:Bool×List UInt8)=>eqL [AV.str t] [AV.str (sgn x.1 x.2)]∧allD x.2∧x.2≠[]∧x.2.length≤1000000) fun n_2=>.all (fun(r:Nat)=>r=numD n_2.2) fun n_3=>.leaf (.ret [.agg [.bool n.1,.sl (canon n_1).length 1 (natG .u32 (canon n_1))],.agg [.bool n_2.1,.sl (canon n_3).length 1 (natG .u32 (canon n_3))],.int .i64 0] [.box [.bool n.1,.sl (canon n_1).length 1 (natG .u32 (canon n_1))],.box [.bool n_2.1,.sl (canon n_3).length 1 (natG .u32 (canon n_3))]]))) (.ite (!decide (n=0)) (.leaf (.ret [.agg [.bool false,.nils],.agg [.bool false,.nils],.int .i64 n] [.box [.bool false,.nils],.box [.bool false,.nils]])) (.ex (fun(x:Bool×List UInt8)=>eqL [AV.str s] [AV.str (sgn x.1 x.2)]∧allD x.2∧x.2≠[]∧x.2.length≤1000000) fun n=>.all (fun(r:Nat)=>r=numD n.2) fun n_1=>.ex (fun(x:Bool×List UInt8)=>eqL [AV.str t] [AV.str (sgn x.1 x.2)]∧allD x.2∧x.2≠[]∧x.2.length≤1000000) fun n_2=>.all (fun(r:Nat)=>r=numD n_2.2) fun n_3=>.leaf (.ret [.agg [.bool n.1,.sl (canon n_1).length 1 (natG .u32 (canon n_1))],.agg [.bool n_2.1,.sl (canon n_3).length 1 (natG .u32 (canon n_3))],.int .i64 0] [.box [.bool n.1,.sl (canon n_1).length 1 (natG .u32 (canon n_1))],.box [.bool n_2.1,.sl (canon n_3).length 1 (natG .u32 (canon n_3))]])))) (by kernel_rfl) ?_
 have bad:∀ h,j3 s t≠0→RetR Zv 0 Q [.agg [.bool false,.nils],.agg [.bool false,.nils],.int .i64 (j3 s t)] h:=by
  intro h he
  rw [if_neg he] at hq
  refine RetR.out0 hq (fun h=>by simp [Zv,ctrP] at h) ?_
  simp [resV,exp2,exp1,exp0,ren0,eqA2,eqL1,eqA,eqL0,eqA0,numV,magS,natS,za0]
 have good:∀ h,j3 s t=0→RetR Zv 0 Q [.agg [.bool (negI s),magS (numI s)],.agg [.bool (negI t),magS (numI t)],.int .i64 0] h:=by
  intro h he
  rw [if_pos he] at hq
  refine RetR.out0 hq (fun h=>by simp [Zv,ctrP] at h) ?_
  simp [resV,exp2,exp1,exp0,ren0,eqA2,eqL1,eqA,eqL0,eqA0,numV,magS,natS,za]
 have rd:∀ u,errI u=0→eqL [AV.str u] [AV.str (sgn (negI u) (parse u).2)]∧allD (parse u).2∧(parse u).2≠[]∧(parse u).2.length≤1000000:=by
  intro u hu
  obtain⟨h1,h2,h3,h4⟩:=Jd hu
  exact⟨by simpa using h1,h2,h3,by omega⟩
 simp only [Tree.holds,zd]
 refine⟨s,⟨by simp,by omega⟩,?_⟩
 refine⟨⟨_,rfl⟩,?_⟩
 rintro _ rfl
 refine⟨fun h1=> ?_,fun h1=> ?_⟩
 ·have h1:errI s=0:=by simpa using h1
  refine⟨t,⟨by simp,by omega⟩,?_⟩
  refine⟨⟨_,rfl⟩,?_⟩
  rintro _ rfl
  refine⟨fun h2=> ?_,fun h2=> ?_⟩
  ·have h2:errI t≠0:=by simpa using h2
   have e:j3 s t=errI t:=by simp [j3,h1]
   rw [← e]
   exact bad _ (by rw [e]; exact h2)
  ·have h2:errI t=0:=by simpa using h2
   refine⟨(negI s,(parse s).2),rd s h1,?_⟩
   refine⟨⟨_,rfl⟩,?_⟩
   rintro _ rfl
   refine⟨(negI t,(parse t).2),rd t h2,?_⟩
   refine⟨⟨_,rfl⟩,?_⟩
   rintro _ rfl
   exact good _ (uN.2 ⟨h1,h2⟩)
 ·have h1:errI s≠0:=by simpa using h1
  have e:j3 s t=errI s:=by simp [j3,h1]
  refine⟨fun h2=> ?_,fun h2=>absurd (by simpa using h2) h1⟩
  rw [← e]
  exact bad _ (by rw [e]; exact h1)
noncomputable def G6:Nat→Option Ctr:=fun f=>if f=63 then some (Zv) else if f=64 then some (yy) else if f=65 then some (JC) else none
theorem UR:∀ g c,G6 g=some c→zf Try.prog g c:=okIf Up (okIf K2 (okIf XJ (zx)))
def gcdC:Ctr:=ctrP true (fun p:List UInt8×List UInt8=>[.str p.1,.str p.2]) (fun p=>p.1.length<2^62∧p.2.length<2^62) (fun p r=>r=gcdR p.1 p.2) (fun _ r=>(.tup [.str r.1,.int .i64 r.2],[]))
def SGc:KV:=[(6,.ptr 0 0),(7,.ptr 1 0)]
def HGc(m n:Bool)(x y:Nat):Heap:=[.box [.bool m,magS x],.box [.bool n,magS y]]
theorem jX{x:Nat} : x<B^112↔(canon x).length≤112:=by
 refine⟨fun h=>z1 h,fun h=> ?_⟩
 have h1:=qc (zk x)
 rw [zm] at h1
 exact Nat.lt_of_lt_of_le h1 (Nat.pow_le_pow_right (by decide) h)
theorem KA{x:Nat} : (canon x).length=0↔x=0:=by
 constructor
 ·intro h
  have:=zm x
  rw [List.length_eq_zero_iff.1 h] at this
  exact this.symm
 ·rintro rfl; simp [canon]
theorem UY:zf Try.prog 51 gcdC:=by
 refine zn (fn:=Try.f51) (c:=Try.f51.body.getD .skip) rfl rfl rfl fun p hp O w0 Q hq=> ?_
 obtain⟨s,t⟩:=p
 obtain⟨hs,ht⟩:=hp
 replace hq:=hq _ rfl
 simp only at hs ht hq
 refine zc.run hmix UR [6,7] 400 (T:=.ex (fun(x:List UInt8×List UInt8)=>eqL [AV.str s,AV.str t] [AV.str x.1,AV.str x.2]∧x.1.length<4611686018427387904∧x.2.length<4611686018427387904) fun n=>.all (fun(r:Int×(Bool×Nat)×Bool×Nat)=>r=if j3 n.1 n.2=0 then((0:Int),(negI n.1,numI n.1),negI n.2,numI n.2) else(j3 n.1 n.2,(false,0),false,0)) fun n=>.ite (!decide (n.1=0)) (.leaf (.ret [.str #[].toList,.int .i64 n.1] [.box [.bool n.2.1.1,.sl (canon n.2.1.2).length 1 (natG .u32 (canon n.2.1.2))],.box [.bool n.2.2.1,.sl (canon n.2.2.2).length 1 (natG .u32 (canon n.2.2.2))]])) (.leaf (.loop (Prod.fst (lps K51 0)) (Prod.snd (lps K51 0)) [(6,.ptr 0 0),(7,.ptr 1 0)] [.box [.bool n.2.1.1,.sl (canon n.2.1.2).length 1 (natG .u32 (canon n.2.1.2))],.box [.bool n.2.2.1,.sl (canon n.2.2.2).length 1 (natG .u32 (canon n.2.2.2))]]))) (by kernel_rfl) ?_
 simp only [Tree.holds,zd]
 refine⟨(s,t),⟨by simp,hs,ht⟩,⟨_,rfl⟩,?_⟩
 rintro _ rfl
 refine⟨fun he=> ?_,fun he=> ?_⟩
 ·have he:j3 s t≠0:=by
   intro h; simp [h] at he
  have e:gcdR s t=([],j3 s t):=by simp [gcdR,he]
  simp only [if_neg he]
  rw [e] at hq
  exact RetR.scal hq rfl (by simp [resV])
 ·have he:j3 s t=0:=by
   refine Decidable.byContradiction fun h=> ?_
   simp [h] at he
  simp only [if_pos he]
  have e:gcdR s t=wr false (Nat.gcd (numI s) (numI t)):=by simp [gcdR,he]
  rw [e] at hq
  obtain⟨h1,h2⟩:=uN.1 he
  have b1:=jX.2 (uy h1)
  have b2:=jX.2 (uy h2)
  clear e he h1 h2 hs ht
  generalize numI s=x0 at *
  generalize numI t=y0 at *
  refine zc.loop (ι:={z:Bool×Bool×Nat×Nat // Nat.gcd z.2.2.1 z.2.2.2=Nat.gcd x0 y0∧z.2.2.1<B^112∧z.2.2.2<B^112}) (fun _=>SGc) (fun z=>HGc z.1.1 z.1.2.1 z.1.2.2.1 z.1.2.2.2) (fun z=>z.1.2.2.2) ⟨(negI s,negI t,x0,y0),rfl,b1,b2⟩ 0 ?_ ?_ (by kernel_rfl)
  ·exact⟨by simp [SGc],by simp [HGc,magS,natS,za],by kernel_rfl,Nat.zero_le _⟩
  ·rintro⟨⟨m,n,x,y⟩,hg,hx,hy⟩
   simp only at hg hx hy
   refine zc.run hmix UR [6,7] 400 (T:=.ite (decide ((0:Int)<(↑(canon y).length:Int))) (.ex (fun(x_1:Nat×Nat)=>eqL [AV.sl (canon x).length 1 (natG .u32 (canon x)),AV.sl (canon y).length 1 (natG .u32 (canon y))] [AV.sl (canon x_1.1).length 1 (natG .u32 (canon x_1.1)),AV.sl (canon x_1.2).length 1 (natG .u32 (canon x_1.2))]∧List.length (canon x_1.1)<100000∧List.length (canon x_1.2)<100000∧0<x_1.2) fun n_1=>.all (fun(r:Nat×Nat)=>r=(n_1.1/n_1.2,n_1.1%n_1.2)) fun n_2=>.leaf (.back 0 [(6,.ptr 0 0),(7,.ptr 1 0)] [.box [.bool m,.sl (canon y).length 1 (natG .u32 (canon y))],.box [.bool n,.sl (canon n_2.2).length 1 (natG .u32 (canon n_2.2))]])) (.ex (fun(x_1:Bool×Nat)=>eqL [AV.agg [AV.bool false,AV.sl (canon x).length 1 (natG .u32 (canon x))]] [AV.agg [AV.bool x_1.1,AV.sl (canon x_1.2).length 1 (natG .u32 (canon x_1.2))]]∧List.length (canon x_1.2)<1000000) fun n_1=>.all (fun(r:List UInt8×Int)=>r=wr n_1.1 n_1.2) fun n_2=>.leaf (.ret [.str n_2.1,.int .i64 n_2.2] [.box [.bool m,.sl (canon x).length 1 (natG .u32 (canon x))],.box [.bool n,.sl (canon y).length 1 (natG .u32 (canon y))]]))) (by kernel_rfl) ?_
   simp only [Tree.holds,zd,inR,lo,hi]
   refine⟨fun h0=> ?_,fun h0=> ?_⟩
   ·have hy0:0<y:=by
     rcases Nat.eq_zero_or_pos y with h | h
     ·rw [h] at h0; simp [canon] at h0
     ·exact h
    refine⟨(x,y),⟨by simp [za],?_,?_,hy0⟩,⟨_,rfl⟩,?_⟩
    ·have:=jX.1 hx; show(canon x).length<100000; omega
    ·have:=jX.1 hy; show(canon y).length<100000; omega
    rintro _ rfl
    simp only
    rw [if_pos trivial]
    refine⟨⟨(m,n,y,x%y),?_,hy,Nat.lt_trans (Nat.mod_lt x hy0) hy⟩,Nat.mod_lt x hy0,by simp [SGc],by simp [HGc,magS,natS,za],by kernel_rfl,Nat.zero_le _⟩
    show Nat.gcd y (x%y)=Nat.gcd x0 y0
    rw [← hg,Nat.gcd_comm x y,Nat.gcd_rec y x,Nat.gcd_comm]
   ·have hy0:y=0:=KA.1 (by have h0:=of_decide_eq_false h0; omega)
    subst hy0
    refine⟨(false,x),⟨by simp [za],?_⟩,⟨_,rfl⟩,?_⟩
    ·have:=jX.1 hx; show(canon x).length<1000000; omega
    rintro _ rfl
    rw [Nat.gcd_zero_right] at hg
    rw [← hg] at hq
    exact RetR.scal hq rfl (by simp [resV])
structure IRo(l m:List Nat) where
 qs:List Nat
 r:List Nat
 i:Nat
 hi:i≤l.length
 hql:qs.length+i=l.length
 hqd:Ten.dig qs
 hrd:Ten.dig r
 hrl:r.length≤m.length+1
 hrl2:r.length+i≤l.length
 hlt:Ten.val r<Ten.val m
 hv:Ten.val (l.drop i)=Ten.val qs*Ten.val m+Ten.val r
end Go.Proofs.Try
end
section
namespace Go.Proofs
set_option maxHeartbeats 1000000 in
set_option maxRecDepth 100000 in
theorem Try.Jr(s:ByteArray)(c:Int)(w:World) :
  Calls Try.prog 87 #[.string s,.int .u8 c] w fun e w'=>e = .returned (.int .i64 (Lib.indexByte s.data.toList c.toNat.toUInt8))∧w'=w:=by
 go_enter Try.func87,Try.ntmps87
 go_wp2
 rw [run_callFunc_extern Try.func92 (by kernel_rfl) (by kernel_rfl) (by kernel_rfl) (e:=Extern.BytealgIndexByte.indexByte) (by kernel_rfl),Lib.run_indexByteString]
 simp only [Result.andThen]
 rw [Oper.upon_value]
 go_wp2
 go_ret
 exact⟨rfl,rfl⟩
set_option maxHeartbeats 2000000 in
set_option maxRecDepth 100000 in
theorem Try.Wy(s:ByteArray)(c:UInt8)(w:World) :
  Calls Try.prog 83 #[.string s,.string ⟨#[c]⟩] w fun e w'=>e = .returned (.int .i64 (Lib.indexByte s.data.toList c))∧w'=w:=by
 go_enter Try.func83,Try.ntmps83
 go_wp2_with (go_at_call 87; refine(Try.Jr _ _ _).mono ?_; rintro e w' ⟨rfl,rfl⟩)
 ·have h:([c] == s.toList)=true:=by assumption
  go_ret
  refine⟨?_,rfl⟩
  have e:s.data.toList=[c]:=by rw [← Lib.toList_data]; exact(beq_iff_eq.1 h).symm
  rw [e]
  simp [Lib.indexByte]
 ·go_ret
  exact⟨rfl,rfl⟩
end Go.Proofs
end
section
set_option maxRecDepth 100000
open Go Go.Sx Go.Proofs Go.Nov
namespace Go.Proofs.Try
attribute [local simp] eqKV eqA eqA0 eqH eqB eqL eqL0
theorem yr(s:List UInt8):Lib.indexByte s 47=if qE s<s.length then(qE s:Int) else -1:=by
 induction s with
 | nil=>rfl
 | cons c s ih=>
  simp only [Lib.indexByte,qE,List.findIdx_cons]
  cases h:(c == 47) with
  | true=>simp
  | false=>
   simp only [Bool.false_eq_true,if_false,ih,cond_false,List.length_cons]
   show _=if qE s+1<s.length+1 then((qE s+1:Nat):Int) else -1
   by_cases h2:qE s<s.length
   ·rw [if_pos h2,if_neg (by simp),if_pos (by omega)]; omega
   ·rw [if_neg h2,if_pos (by rfl),if_neg (by omega)]
def W0:Ctr:=ctrP true (fun s:List UInt8=>[.str s,.str [47]]) (fun s=>True) (fun s r=>r=if qE s<s.length then(qE s:Int) else -1) (fun _ (r:Int)=>(.int .i64 r,[]))
theorem XP:zf Try.prog 83 W0:=by
 intro args hc Q hq _
 simp only [W0,ctrP] at hq
 split at hq
 ·obtain⟨s,⟨h1,_⟩,_,h3⟩:=hq
  have hq:=h3 _ rfl
  simp only [Tree.holds] at hq
  refine qk.le h1 ?_
  intro O w σ vals hg hh hr
  simp only [RepL,Rep] at hr
  obtain⟨v1,r1,rfl,rfl,v2,r2,rfl,rfl,rfl⟩:=hr
  refine .inl ⟨enters_of Try.func83 (by kernel_rfl) rfl ..,?_⟩
  refine(Try.Wy ⟨s.toArray⟩ 47 w).mono ?_
  rintro e w' ⟨rfl,rfl⟩
  have hx:=yr s
  have h0:σ=[]:=List.length_eq_zero_iff.1 hh.len
  subst h0
  refine⟨_,rfl,_,[],[],hq,?_,⟨rfl,fun i j e f a b h=>by simp at h,fun i e a h=>by simp at h,fun i e b h=>by simp at h⟩,hg,Nat.le_refl _,Hold.refl _ _ _,Ext.refl _ _⟩
  simp only [Rep]
  rw [← hx]
 ·exact hq.elim
def cutC:Ctr:=ctrP true (fun s:List UInt8=>[.str s,.str [47]]) (fun s=>s.length<2^62) (fun s r=>r=cutR s) (fun _ r=>(.tup [.str r.1,.str r.2.1,.bool r.2.2],[]))
noncomputable def GC1:Nat→Option Ctr:=fun f=>if f=83 then some (W0) else none
theorem za3:∀ g c,GC1 g=some c→zf Try.prog g c:=okIf XP (zx)
theorem Ue:zf Try.prog 72 cutC:=by
 refine zn (fn:=Try.f72) (c:=Try.f72.body.getD .skip) rfl rfl rfl fun s hs O w0 Q hq=> ?_
 replace hq:=hq _ rfl
 refine zc.run hmix za3 [] 400 (T:=.ex (fun(x:List UInt8)=>eqL [AV.str s,AV.str [(47:UInt8)]] [AV.str x,AV.str [(47:UInt8)]]∧True) fun n=>.all (fun(r:Int)=>r=if qE n<n.length then(↑(qE n):Int) else(-1:Int)) fun n=>.ite (decide ((0:Int)≤n)) (.side ((0:Int)≤n∧n≤(↑s.length:Int)) (.side (inR .i64 (n+(1:Int))) (.side ((0:Int)≤n+(1:Int)∧n+(1:Int)≤s.length) (.leaf (.ret [.str (List.drop 0 (List.take (Int.toNat n) s)),.str (List.drop (Int.toNat (n+(1:Int))) (List.take s.length s)),.bool true] []))))) (.leaf (.ret [.str s,.str #[].toList,.bool false] []))) (by kernel_rfl) ?_
 simp only [Tree.holds,zd,inR,lo,hi]
 refine⟨s,⟨by simp,trivial⟩,⟨_,rfl⟩,?_⟩
 rintro _ rfl
 by_cases h:qE s<s.length
 ·simp only [if_pos h]
  rw [Y8 h] at hq
  refine⟨fun _=>⟨by omega,fun _=>⟨by omega,fun _=>⟨by omega,fun _=> ?_⟩⟩⟩,fun hn=> ?_⟩
  ·refine RetR.scal hq rfl ?_
   simp [resV]
  ·have:=of_decide_eq_false hn; omega
 ·simp only [if_neg h]
  rw [za6 h] at hq
  refine⟨fun hn=> ?_,fun _=>RetR.scal hq rfl (by simp [resV])⟩
  have:=of_decide_eq_true hn; omega
noncomputable def GC2:Nat→Option Ctr:=fun f=>if f=72 then some (cutC) else none
theorem zau:∀ g c,GC2 g=some c→zf Try.prog g c:=okIf Ue (zx)
theorem za1:zf Try.prog 62 cutC:=by
 refine zn (fn:=Try.f62) (c:=Try.f62.body.getD .skip) rfl rfl rfl fun s hs O w0 Q hq=> ?_
 replace hq:=hq _ rfl
 refine zc.run hmix zau [] 400 (T:=.ex (fun(x:List UInt8)=>eqL [AV.str s,AV.str [(47:UInt8)]] [AV.str x,AV.str [(47:UInt8)]]∧x.length<4611686018427387904) fun n=>.all (fun(r:List UInt8×List UInt8×Bool)=>r=cutR n) fun n=>.leaf (.ret [.str n.1,.str n.2.1,.bool n.2.2] [])) (by kernel_rfl) ?_
 simp only [Tree.holds,zd,inR,lo,hi]
 refine⟨s,⟨by simp,hs⟩,⟨_,rfl⟩,?_⟩
 rintro _ rfl
 exact RetR.scal hq rfl (by simp [resV])
def Yo:Ctr:=ctrP true (fun s:List UInt8=>[.str s]) (fun s=>s.length<2^62) (fun s r=>r=cutR s) (fun _ r=>(.tup [.str r.1,.str r.2.1,.bool r.2.2],[]))
noncomputable def GC3:Nat→Option Ctr:=fun f=>if f=62 then some (cutC) else if f=50 then some (uK) else none
theorem KS:∀ g c,GC3 g=some c→zf Try.prog g c:=okIf za1 (okIf uo (zx))
theorem XA:zf Try.prog 48 Yo:=by
 refine zn (fn:=Try.f48) (c:=Try.f48.body.getD .skip) rfl rfl rfl fun s hs O w0 Q hq=> ?_
 replace hq:=hq _ rfl
 refine zc.run hmix KS [] 400 (T:=.ex (fun(x:List UInt8)=>eqL [AV.str s,AV.str #[(47:UInt8)].toList] [AV.str x,AV.str [(47:UInt8)]]∧x.length<4611686018427387904) fun n=>.all (fun(r:List UInt8×List UInt8×Bool)=>r=cutR n) fun n=>.leaf (.ret [.str n.1,.str n.2.1,.bool n.2.2] [])) (by kernel_rfl) ?_
 simp only [Tree.holds,zd,inR,lo,hi]
 refine⟨s,⟨by simp,hs⟩,⟨_,rfl⟩,?_⟩
 rintro _ rfl
 exact RetR.scal hq rfl (by simp [resV])
def UQ:Ctr:=ctrP true (fun s:List UInt8=>[.str s]) (fun s=>s.length<2^62) (fun s r=>r=if errI s=12 then 12 else 0) (fun _ (r:Int)=>(.int .i64 r,[]))
theorem YU:zf Try.prog 49 UQ:=by
 refine zn (fn:=Try.f49) (c:=Try.f49.body.getD .skip) rfl rfl rfl fun s hs O w0 Q hq=> ?_
 replace hq:=hq _ rfl
 refine zc.run hmix KS [] 400 (T:=.ex (fun(x:List UInt8)=>eqL [AV.str s] [AV.str x]∧x.length<4611686018427387904) fun n=>.all (fun(r:Int)=>r=errI n) fun n=>.ite (!decide (n=14)) (.leaf (.ret [.int .i64 n] [])) (.leaf (.ret [.int .i64 0] []))) (by kernel_rfl) ?_
 simp only [Tree.holds,zd,inR,lo,hi]
 refine⟨s,⟨by simp,hs⟩,⟨_,rfl⟩,?_⟩
 rintro _ rfl
 rcases v8 s with h | h | h<;>simp only [h] at hq ⊢
 all_goals
  refine⟨fun h=> ?_,fun h=> ?_⟩
  all_goals first
   | (exfalso; revert h; decide)
   | exact RetR.scal hq rfl (by simp [resV])
def y4:Ctr:=ctrP true (fun s:List UInt8=>[.str s]) (fun s=>s.length<2^62) (fun s r=>r=errR s) (fun _ (r:Int)=>(.int .i64 r,[]))
noncomputable def GC4:Nat→Option Ctr:=fun f=>if f=48 then some (Yo) else if f=49 then some (UQ) else if f=50 then some (uK) else if f=51 then some (gcdC) else none
theorem UZ:∀ g c,GC4 g=some c→zf Try.prog g c:=okIf XA (okIf YU (okIf uo (okIf UY (zx))))
theorem xV:zf Try.prog 36 y4:=by
 refine zn (fn:=Try.f36) (c:=Try.f36.body.getD .skip) rfl rfl rfl fun s hs O w0 Q hq=> ?_
 replace hq:=hq _ rfl
 refine zc.run hmix UZ [] 400 (T:=.ex (fun(x:List UInt8)=>eqL [AV.str s] [AV.str x]∧x.length<4611686018427387904) fun n=>.all (fun(r:List UInt8×List UInt8×Bool)=>r=cutR n) fun n=>.ex (fun(x:List UInt8)=>eqL [AV.str n.1] [AV.str x]∧x.length<4611686018427387904) fun n_1=>.all (fun(r:Int)=>r=if errI n_1=12 then(12:Int) else(0:Int)) fun n_2=>.ex (fun(x:List UInt8)=>(!decide (n_2=0))=false∧n.2.2=true→eqL [AV.str n.2.1] [AV.str x]∧x.length<4611686018427387904) fun n_3=>.all (fun(x:Int)=>(!decide (n_2=0))=false∧n.2.2=true→x=if errI n_3=12 then(12:Int) else(0:Int)) fun n_4=>.side (((!decide (n_2=0))=false∧n.2.2=true)∧(!decide (n_4=0))=false→(0:Int)≤0∧(0:Int)<n.2.1.length) (.ite (bif !decide (n_2=0) then true else bif n.2.2 then bif bif bif !decide (n_4=0) then true else decide ((↑(UInt8.toNat (List.getD n.2.1 0 (0:UInt8))):Int)=45) then true else decide (n.2.1=#[(48:UInt8)].toList) then true else decide (n.2.1=#[(49:UInt8)].toList) else false) (.leaf (.ret [.int .i64 12] [])) (.ex (fun(x:List UInt8)=>eqL [AV.str n.1] [AV.str x]∧x.length<4611686018427387904) fun n_5=>.all (fun(r:Int)=>r=errI n_5) fun n_6=>.ex (fun(x:List UInt8)=>(!decide (n_6=0))=false∧n.2.2=true→eqL [AV.str n.2.1] [AV.str x]∧x.length<4611686018427387904) fun n_7=>.all (fun(x:Int)=>(!decide (n_6=0))=false∧n.2.2=true→x=errI n_7) fun n_8=>.ite (bif !decide (n_6=0) then true else bif n.2.2 then !decide (n_8=0) else false) (.leaf (.ret [.int .i64 14] [])) (.ite n.2.2 (.ex (fun(x:List UInt8×List UInt8)=>eqL [AV.str n.1,AV.str n.2.1] [AV.str x.1,AV.str x.2]∧x.1.length<4611686018427387904∧x.2.length<4611686018427387904) fun n=>.all (fun(r:List UInt8×Int)=>r=gcdR n.1 n.2) fun n=>.ite (!decide (n.1=#[(49:UInt8)].toList)) (.leaf (.ret [.int .i64 12] [])) (.leaf (.ret [.int .i64 0] []))) (.leaf (.ret [.int .i64 0] [])))))) (by kernel_rfl) ?_
 simp only [Tree.holds,zd,inR,lo,hi]
 refine⟨s,⟨by simp,hs⟩,⟨_,rfl⟩,?_⟩
 rintro _ rfl
 have hlen:=YQ s
 have hno:(cutR s).2.2=false→(cutR s).1=s:=by
  intro h
  unfold cutR at h ⊢
  split at h
  ·cases h
  ·rename_i hn; rw [if_neg hn]
 simp only [errR] at hq
 generalize cutR s=c at hq hlen hno ⊢
 obtain⟨n,d,f⟩:=c
 simp only at hq hlen hno ⊢
 refine⟨n,⟨by simp,by omega⟩,⟨_,rfl⟩,?_⟩
 rintro _ rfl
 refine⟨d,fun _=>⟨by simp,by omega⟩,⟨_,fun _=>rfl⟩,?_⟩
 intro fd hfd
 cases f with
 | false=>
  have hn:=hno rfl
  subst hn
  rw [if_neg (by decide)] at hq
  refine⟨fun h=>by simp at h,fun _=>⟨fun h=> ?_,fun h=> ?_⟩⟩
  ·rcases v8 n with e | e | e<;>rw [e] at hq h
   ·simp at h
   ·exact RetR.scal hq rfl (by simp [resV])
   ·simp at h
  ·have hn12:errI n≠12:=by
    intro e; rw [e] at h; simp at h
   refine⟨n,⟨by simp,by omega⟩,⟨_,rfl⟩,?_⟩
   rintro _ rfl
   refine⟨d,fun _=>⟨by simp,by omega⟩,⟨_,fun _=>rfl⟩,?_⟩
   intro fd2 _
   refine⟨fun h=> ?_,fun h=>⟨fun h=>(by cases h),fun _=> ?_⟩⟩
   ·rcases v8 n with e | e | e
    ·rw [e] at h; simp at h
    ·exact absurd e hn12
    ·rw [e] at hq; exact RetR.scal hq rfl (by simp [resV])
   ·rcases v8 n with e | e | e
    ·rw [e] at hq; exact RetR.scal hq rfl (by simp [resV])
    ·exact absurd e hn12
    ·rw [e] at h; simp at h
 | true=>
  rw [if_pos rfl] at hq
  by_cases hn:errI n=12
  ·rw [if_pos (.inl hn)] at hq
   simp only [hn]
   refine⟨fun h=>by simp at h,fun _=>⟨fun _=>RetR.scal hq rfl (by simp [resV]),fun h=>by simp at h⟩⟩
  ·rw [if_neg hn] at hfd ⊢
   have hfd:=hfd ⟨by simp,rfl⟩
   subst hfd
   by_cases hd:errI d=12
   ·rw [if_pos (.inr (.inl hd))] at hq
    rw [if_pos hd]
    refine⟨fun h=>by simp at h,fun _=>⟨fun _=>RetR.scal hq rfl (by simp [resV]),fun h=>by simp at h⟩⟩
   ·rw [if_neg hd]
    have hd0:d≠[]:=by rintro rfl; exact hd Yj
    have hneg:=Ke hd0
    have hneg2:decide (((d.getD 0 0).toNat:Int)=45)=negI d:=by
     rw [hneg]
     by_cases h:d.getD 0 0=45
     ·rw [h]; rfl
     ·rw [decide_eq_false h]
      refine decide_eq_false fun h2=>h (Vd ?_)
      rw [h2]; rfl
    rw [hneg2]
    refine⟨fun _=>by have:=List.length_pos_iff.2 hd0; omega,fun _=>⟨fun h=> ?_,fun h=> ?_⟩⟩
    ·have:negI d=true∨d=[48]∨d=[49]:=by
      revert h
      cases negI d<;>simp
     rw [if_pos (.inr (.inr this))] at hq
     exact RetR.scal hq rfl (by simp [resV])
    ·have:¬ (errI n=12∨errI d=12∨negI d=true∨d=[48]∨d=[49]):=by
      revert h
      cases negI d<;>simp [hn,hd]
     rw [if_neg this] at hq
     refine⟨n,⟨by simp,by omega⟩,⟨_,rfl⟩,?_⟩
     rintro _ rfl
     refine⟨d,fun _=>⟨by simp,by omega⟩,⟨_,fun _=>rfl⟩,?_⟩
     intro ed hed
     by_cases hn0:errI n=0
     ·have hed:=hed ⟨by simp [hn0],rfl⟩
      subst hed
      by_cases hd0:errI d=0
      ·rw [if_neg (by simp [hn0,hd0])] at hq
       refine⟨fun h=>by simp [hn0,hd0] at h,fun _=>⟨fun _=> ?_,fun h=>by cases h⟩⟩
       refine⟨(n,d),⟨by simp,by simp only; omega,by simp only; omega⟩,⟨_,rfl⟩,?_⟩
       rintro _ rfl
       refine⟨fun h=> ?_,fun h=> ?_⟩
       ·rw [if_pos (by simpa using h)] at hq
        exact RetR.scal hq rfl (by simp [resV])
       ·rw [if_neg (by simpa using h)] at hq
        exact RetR.scal hq rfl (by simp [resV])
      ·rw [if_pos (.inr hd0)] at hq
       refine⟨fun _=>RetR.scal hq rfl (by simp [resV]),fun h=>by simp [hn0,hd0] at h⟩
     ·rw [if_pos (.inl hn0)] at hq
      refine⟨fun _=>RetR.scal hq rfl (by simp [resV]),fun h=>by simp [hn0] at h⟩
noncomputable def K37:List Go.Sx.Item:=[.code (Try.f37.body.getD .skip)]
def Q6:Ctr:=ctrP true (fun d:Int=>[.int .i64 d]) (fun _=>True) (fun d r=>r=dayB d) (fun _ (r:Bool)=>(.bool r,[]))
theorem ZJ:zf Try.prog 40 Q6:=by
 refine zn (fn:=Try.f40) (c:=Try.f40.body.getD .skip) rfl rfl rfl fun d hs O w0 Q hq=> ?_
 replace hq:=hq _ rfl
 refine zc.run hmix zA [] 400 (T:=.leaf (.ret [.bool (bif decide ((0:Int)≤d) then decide (d≤99999) else false)] [])) (by kernel_rfl) ?_
 simp only [Tree.holds,zd]
 refine RetR.scal hq rfl ?_
 simp only [resV,dayB]
 cases decide (0≤d)<;>rfl
theorem YW(c:UInt8):(bif bif decide (97≤(c.toNat:Int)) then decide ((c.toNat:Int)≤122) else false then true else bif decide (65≤(c.toNat:Int)) then decide ((c.toNat:Int)≤90) else false)=isL c:=by
 have e1:decide (97≤(c.toNat:Int))=decide (97≤c.toNat):=decide_eq_decide.2 (by omega)
 have e2:decide ((c.toNat:Int)≤122)=decide (c.toNat≤122):=decide_eq_decide.2 (by omega)
 have e3:decide (65≤(c.toNat:Int))=decide (65≤c.toNat):=decide_eq_decide.2 (by omega)
 have e4:decide ((c.toNat:Int)≤90)=decide (c.toNat≤90):=decide_eq_decide.2 (by omega)
 rw [e1,e2,e3,e4]
 simp only [isL]
 cases decide (97≤c.toNat)<;>cases decide (c.toNat≤122)<;>cases decide (65≤c.toNat)<;>rfl
def Vs:Ctr:=ctrP true (fun c:UInt8=>[.int .u8 (c.toNat:Int)]) (fun _=>True) (fun c r=>r=isL c) (fun _ (r:Bool)=>(.bool r,[]))
theorem VH:zf Try.prog 52 Vs:=by
 refine zn (fn:=Try.f52) (c:=Try.f52.body.getD .skip) rfl rfl rfl fun c hs O w0 Q hq=> ?_
 replace hq:=hq _ rfl
 refine zc.run hmix zA [] 400 (T:=.leaf (.ret [.bool (bif bif decide ((97:Int)≤(↑(UInt8.toNat c):Int)) then decide ((↑(UInt8.toNat c):Int)≤122) else false then true else bif decide ((65:Int)≤(↑(UInt8.toNat c):Int)) then decide ((↑(UInt8.toNat c):Int)≤90) else false)] [])) (by kernel_rfl) ?_
 simp only [Tree.holds,zd]
 refine RetR.scal hq rfl ?_
 simp only [resV]
 rw [YW]
theorem Z5(c d:UInt8):decide ((c.toNat:Int)=(d.toNat:Int))=(c == d):=by
 by_cases h:c=d
 ·subst h; simp
 ·rw [decide_eq_false fun h2=>h (Vd h2)]
  simp [h]
theorem YS(c:UInt8):(bif decide ((c.toNat:Int)<48) then true else decide (57<(c.toNat:Int))) = !isD c:=by
 rw [Bool.cond_eq_ite]; exact ug c
theorem XN(c:UInt8):(bif bif bif !isL c then bif decide ((c.toNat:Int)<48) then true else decide (57<(c.toNat:Int)) else false then !decide ((c.toNat:Int)=95) else false then !decide ((c.toNat:Int)=45) else false) = !isN c:=by
 rw [YS]
 have e1:decide ((c.toNat:Int)=95)=(c == 95):=Z5 c 95
 have e2:decide ((c.toNat:Int)=45)=(c == 45):=Z5 c 45
 rw [e1,e2]; simp only [isN]
 cases isL c<;>cases isD c<;>cases (c == 95)<;>cases (c == 45)<;>rfl
def J5:Ctr:=ctrP true (fun s:List UInt8=>[.str s]) (fun s=>s.length<2^62) (fun s r=>r=zN s) (fun _ (r:Bool)=>(.bool r,[]))
noncomputable def GN1:Nat→Option Ctr:=fun f=>if f=52 then some (Vs) else none
theorem Xa:∀ g c,GN1 g=some c→zf Try.prog g c:=okIf VH (zx)
def SNa(s:List UInt8)(i:Nat):KV:=[(0,.str s),(20,.int .i64 (s.length:Int)),(21,.int .i64 (i:Int)),(31,.undef),(32,.undef),(33,.undef),(34,.undef),(35,.undef),(36,.undef),(39,.undef),(40,.undef),(43,.undef),(44,.undef)]
theorem Kl{O:Nat→Prop}{w0:World}{Q:AV×Heap→Prop}{Hs:Nat→KV→Heap→Prop}(s:List UInt8)(hs:s.length<2^62)(hq:Q (.bool (s.all isN),[])) :
  zc Try.prog Try.f37 O 0 w0 [] Hs (RetR J5 0 Q) (.code (.loop (lps K37 0).1)::(lps K37 0).2) (mk Try.f37.ntmps (SNa s 0) []):=by
 refine zc.loop (ι:={i:Nat // i≤s.length∧∀ j,j<i→isN (s.getD j 0)=true}) (fun i=>SNa s i.1) (fun _=>[]) (fun i=>s.length - i.1) ⟨0,Nat.zero_le _,fun j hj=>by omega⟩ 0 ?_ ?_ (by kernel_rfl)
 ·exact⟨by simp [SNa],by simp,by kernel_rfl,Nat.zero_le _⟩
 ·rintro⟨i,hil,hib⟩
  refine zc.run hmix Xa [0,20,21,31,32,33,34,35,36,39,40,43,44] 400 (T:=.ite (decide ((↑i:Int)<s.length)) (.side ((0:Int)≤i∧(↑i:Int)<s.length) (.ex (fun(x:UInt8)=>eqL [AV.int .u8 (↑(UInt8.toNat (s.getD (↑i:Int).toNat (0:UInt8))):Int)] [AV.int .u8 (↑(UInt8.toNat x):Int)]∧True) fun n=>.all (fun(r:Bool)=>r=isL n) fun n=>.ite (bif bif bif !n then bif decide ((↑(UInt8.toNat (s.getD (↑i:Int).toNat (0:UInt8))):Int)<48) then true else decide ((57:Int)<(↑(UInt8.toNat (s.getD (↑i:Int).toNat (0:UInt8))):Int)) else false then !decide ((↑(UInt8.toNat (s.getD (↑i:Int).toNat (0:UInt8))):Int)=95) else false then !decide ((↑(UInt8.toNat (s.getD (↑i:Int).toNat (0:UInt8))):Int)=45) else false) (.leaf (.ret [.bool false] [])) (.side (inR .i64 ((↑i:Int)+(1:Int))) (.leaf (.back 0 [(0,.str s),(20,.int .i64 s.length),(21,.int .i64 ((↑i:Int)+(1:Int))),(31,.undef),(32,.undef),(33,.undef),(34,.undef),(35,.undef),(36,.undef),(39,.undef),(40,.undef),(43,.undef),(44,.undef)] []))))) (.leaf (.ret [.bool true] []))) (by kernel_rfl) ?_
  simp only [Tree.holds,zd,inR,lo,hi,Int.toNat_natCast]
  refine⟨fun hlt=> ?_,fun hge=> ?_⟩
  ·have hlt:i<s.length:=by have:=of_decide_eq_true hlt; omega
   refine⟨by omega,fun _=>⟨s.getD i 0,⟨by simp,trivial⟩,⟨_,rfl⟩,?_⟩⟩
   rintro _ rfl
   rw [XN]
   refine⟨fun h=> ?_,fun h=>⟨by omega,fun _=> ?_⟩⟩
   ·rw [Qz hlt (by simpa using h)] at hq
    exact RetR.scal hq rfl (by simp [resV])
   ·rw [if_pos trivial]
    refine⟨⟨i+1,hlt,fun j hj=> ?_⟩,by show s.length - (i+1)<s.length - i; omega,by simp [SNa],by simp,by kernel_rfl,Nat.zero_le _⟩
    rcases Nat.lt_or_ge j i with h1 | h1
    ·exact hib j h1
    ·have:j=i:=by omega
     rw [this]; simpa using h
  ·have hge:i=s.length:=by have:=of_decide_eq_false hge; omega
   subst hge
   rw [Yv hib] at hq
   exact RetR.scal hq rfl (by simp [resV])
theorem Qp:zf Try.prog 37 J5:=by
 refine zn (fn:=Try.f37) (c:=Try.f37.body.getD .skip) rfl rfl rfl fun s hs O w0 Q hq=> ?_
 replace hq:=hq _ rfl
 refine zc.run hmix Xa [0,20,21,31,32,33,34,35,36,39,40,43,44] 400 (T:=.side ((bif decide ((↑s.length:Int)<1) then true else decide ((40:Int)<s.length))=false→(0:Int)≤0∧(0:Int)<s.length) (.ex (fun(x:UInt8)=>(bif decide ((↑s.length:Int)<1) then true else decide ((40:Int)<s.length))=false→eqL [AV.int .u8 (↑(UInt8.toNat (s.getD 0 (0:UInt8))):Int)] [AV.int .u8 (↑(UInt8.toNat x):Int)]∧True) fun n=>.all (fun(x:Bool)=>(bif decide ((↑s.length:Int)<1) then true else decide ((40:Int)<s.length))=false→x=isL n) fun n=>.ite (bif bif decide ((↑s.length:Int)<1) then true else decide ((40:Int)<s.length) then true else !n) (.leaf (.ret [.bool false] [])) (.leaf (.loop (Prod.fst (lps K37 0)) (Prod.snd (lps K37 0)) [(0,.str s),(20,.int .i64 s.length),(21,.int .i64 0),(31,.undef),(32,.undef),(33,.undef),(34,.undef),(35,.undef),(36,.undef),(39,.undef),(40,.undef),(43,.undef),(44,.undef)] [])))) (by kernel_rfl) ?_
 simp only [Tree.holds,zd,inR,lo,hi]
 have hd:decide ((s.length:Int)<1) = !decide (0<s.length):=by
  by_cases h:0<s.length
  ·rw [decide_eq_true h,decide_eq_false (by omega)]; rfl
  ·rw [decide_eq_false h,decide_eq_true (by omega)]; rfl
 have hd2:decide (40<(s.length:Int)) = !decide (s.length≤40):=by
  by_cases h:s.length≤40
  ·rw [decide_eq_true h,decide_eq_false (by omega)]; rfl
  ·rw [decide_eq_false h,decide_eq_true (by omega)]; rfl
 rw [hd,hd2]
 have hnb:zN s=(decide (0<s.length)&&decide (s.length≤40)&&isL (s.getD 0 0)&&s.all isN):=rfl
 cases h1:decide (0<s.length) with
 | false=>
  rw [hnb,h1] at hq
  refine⟨fun h=>(by cases h),fun _=>⟨0,fun h=>(by cases h),⟨false,fun h=>(by cases h)⟩,?_⟩⟩
  intro b _
  exact⟨fun _=>RetR.scal hq rfl (by simp [resV]),fun h=>(by cases h)⟩
 | true=>
  have h1':=of_decide_eq_true h1
  cases h2:decide (s.length≤40) with
  | false=>
   rw [hnb,h1,h2] at hq
   refine⟨fun h=>(by cases h),fun _=>⟨0,fun h=>(by cases h),⟨false,fun h=>(by cases h)⟩,?_⟩⟩
   intro b _
   exact⟨fun _=>RetR.scal hq rfl (by simp [resV]),fun h=>(by cases h)⟩
  | true=>
   refine⟨fun _=>by omega,fun _=>⟨s.getD 0 0,fun _=>⟨by simp,trivial⟩,⟨_,fun _=>rfl⟩,?_⟩⟩
   intro b hb
   have hb:=hb rfl
   subst hb
   cases h3:isL (s.getD 0 0) with
   | false=>
    rw [hnb,h1,h2,h3] at hq
    exact⟨fun _=>RetR.scal hq rfl (by simp [resV]),fun h=>(by cases h)⟩
   | true=>
    rw [hnb,h1,h2,h3] at hq
    refine⟨fun h=>(by cases h),fun _=> ?_⟩
    exact Kl s hs hq
end Go.Proofs.Try
end
