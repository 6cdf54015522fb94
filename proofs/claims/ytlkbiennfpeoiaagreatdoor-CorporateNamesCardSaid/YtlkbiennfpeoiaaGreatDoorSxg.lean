/- Part 7 of the proof. -/
import Derived.Test.YtlkbiennfpeoiaaGreatDoorSxb
import Derived.Test.YtlkbiennfpeoiaaGreatDoorSxf
set_option linter.unusedVariables false
set_option linter.unusedSimpArgs false
set_option linter.unusedSectionVars false
section
namespace Go.Nov
def JQ(neg:Bool)(x y:Nat):List UInt8:=
 if y/Nat.gcd x y=1 then(wr neg (x/Nat.gcd x y)).1 else(wr neg (x/Nat.gcd x y)).1++[47]++(wr false (y/Nat.gcd x y)).1
def jZ(n d:List UInt8):List UInt8×Int:=if z8 n d≠0 then([],z8 n d) else if numI d=0 then([],16) else(JQ (negI n != negI d) (numI n) (numI d),0)
def jy(a b:List UInt8):Int:=if errR a=0 then errR b else errR a
def numR(a:List UInt8):List UInt8:=(cutR a).1
def denR(a:List UInt8):List UInt8:=if(cutR a).2.2 then(cutR a).2.1 else [49]
def frac(z w:List UInt8×Int):List UInt8×Int:=if z.2≠0∨w.2≠0 then([],14) else jZ z.1 w.1
def zT(a b:List UInt8):Int:=if jy a b≠0 then jy a b else if(mulI (numR a) (denR b)).2≠0∨(mulI (numR b) (denR a)).2≠0 then 14 else 0
def addR(a b:List UInt8):List UInt8×Int:=if zT a b≠0 then([],zT a b) else frac (addI (mulI (numR a) (denR b)).1 (mulI (numR b) (denR a)).1) (mulI (denR a) (denR b))
def subR(a b:List UInt8):List UInt8×Int:=if zT a b≠0 then([],zT a b) else frac (subI (mulI (numR a) (denR b)).1 (mulI (numR b) (denR a)).1) (mulI (denR a) (denR b))
def mulR(a b:List UInt8):List UInt8×Int:=if jy a b≠0 then([],jy a b) else frac (mulI (numR a) (numR b)) (mulI (denR a) (denR b))
def cmpR(a b:List UInt8):Int×Int:=if zT a b≠0 then(0,zT a b) else Zi (mulI (numR a) (denR b)).1 (mulI (numR b) (denR a)).1
end Go.Nov
namespace Go.Nov
def dmQ(s t:List UInt8):Nat:=if negI s=true∧0<numI s%numI t then numI s/numI t+1 else numI s/numI t
def dmM(s t:List UInt8):Nat:=if negI s=true∧0<numI s%numI t then numI t - numI s%numI t else numI s%numI t
def dmI(s t:List UInt8):List UInt8×List UInt8×Int:=
 if z8 s t≠0 then([],[],z8 s t) else if numI t=0 then([],[],16) else((wr (negI s != negI t) (dmQ s t)).1,(wr false (dmM s t)).1,0)
theorem zft{s:List UInt8}(h:errI s=0):∃ k,k≤1000∧numI s<10^k:=by
 obtain⟨_,h1,_,h2⟩:=ZL h
 exact⟨_,h2,y4 h1⟩
def room(x:Nat):Prop:=(dec x).length≤1000
theorem room_le{x y:Nat}(h:x≤y)(hy:room y):room x:=by
 rcases Nat.lt_or_ge (dec y).length (dec x).length with h1 | h1
 ·have:=Ten.zY h1
  omega
 ·exact Nat.le_trans h1 hy
theorem jw{s:List UInt8}(h:errI s=0):room (numI s):=by
 obtain⟨k,h1,h2⟩:=zft h
 exact Nat.le_trans (Z6 h2) h1
theorem vX{neg:Bool}{x:Nat}(h:room x):(wr neg x).2=0:=by
 unfold wr
 split
 ·rfl
 ·rw [if_neg (by have:(dec x).length≤1000:=h; omega)]
theorem zd5{s t:List UInt8}(hs:errI s=0)(ht:numI t≠0):room (dmQ s t):=by
 have h:=jw hs
 unfold dmQ
 split
 ·rename_i hc
  by_cases h1:numI t=1
  ·rw [h1,Nat.mod_one] at hc; omega
  ·refine room_le ?_ h
   have h2:numI s/numI t≤numI s/2:=Nat.div_le_div_left (by omega) (by omega)
   have h3:numI s≠0:=fun h0=>by rw [h0,Nat.zero_mod] at hc; omega
   by_cases h4:numI s=1
   ·have:numI s/numI t=0:=Nat.div_eq_of_lt (by omega)
    omega
   ·omega
 ·exact room_le (Nat.div_le_self _ _) h
theorem zf0{s t:List UInt8}(ht:errI t=0)(h0:numI t≠0):room (dmM s t):=by
 have h:=jw ht
 have hm:=Nat.mod_lt (numI s) (Nat.pos_of_ne_zero h0)
 unfold dmM
 split
 ·exact room_le (Nat.sub_le _ _) h
 ·exact room_le (by omega) h
end Go.Nov
namespace Go.Nov
theorem kx:wr false 1=([49],0):=by
 have h:dec 1=[1]:=by
  show Ten.canon 1=[1]
  rw [Ten.qP (by decide)]
  exact congrArg (1 :: ·) Ten.zL
 simp [wr,h,txt,sgn,byt]
theorem Yk{x:Nat}(h:room x):(wr false x).1=[49]↔x=1:=by
 constructor
 ·intro e
  have:=(Qx (vX (neg:=false) h)).2.1
  rw [e] at this
  exact this.symm
 ·rintro rfl
  rw [kx]
theorem zd6{x:Nat}(h0:x≠0)(h:room x):[45]++(wr false x).1=(wr true x).1:=by
 unfold wr
 rw [if_neg h0,if_neg h0,if_neg (by have:(dec x).length≤1000:=h; omega),if_neg (by have:(dec x).length≤1000:=h; omega)]
 rfl
theorem xg{t:List UInt8}(h:errI t=0):t=[48]↔numI t=0:=by
 constructor
 ·rintro rfl; rfl
 ·intro h0
  obtain⟨neg,b,h1,h2,h3,h4,h5,h6⟩:=WW h
  have hb:numD b=0:=by simpa [numI,h2] using h0
  cases b with
  | nil=>exact absurd rfl h5
  | cons c r=>
   have hc:=h4 c (by simp)
   have e:numD (c::r)=(c.toNat - 48)*10^r.length+numD r:=by
    have:=vP [c] r
    simp only [List.singleton_append] at this
    rw [this]
    simp [numD]
   rw [e] at hb
   have hc0:c.toNat=48:=by
    rcases Nat.eq_zero_or_pos (c.toNat - 48) with h7 | h7
    ·omega
    ·have:=Nat.mul_pos h7 (Nat.pow_pos (n:=r.length) (show 0<10 by decide))
     omega
   have hc1:c=48:=UInt8.toNat_inj.1 (by rw [hc0]; rfl)
   subst hc1
   have hr:r=[]:=by
    cases r with
    | nil=>rfl
    | cons d r=>
     have:=kF (neg:=neg) (b:=48::d::r) rfl (by simp)
     rw [this] at h3; cases h3
   subst hr
   cases neg with
   | true=>cases h3
   | false=>simpa [sgn] using h1
theorem Kg{s:List UInt8}{b:Bool}{g:Nat}(hs:errI s=0)(h0:g≠0)(hg:room g)(hd:g ∣ numI s):dmI s (wr b g).1=((wr (negI s != b) (numI s/g)).1,[48],0):=by
 obtain⟨h1,h2,h3⟩:=Qx (vX (neg:=b) hg)
 have hb:negI (wr b g).1=b:=by rw [h3]; simp [h0]
 have he:z8 s (wr b g).1=0:=zq.2 ⟨hs,h1⟩
 have hm:numI s%g=0:=Nat.mod_eq_zero_of_dvd hd
 unfold dmI
 rw [if_neg (by rw [he]; decide),h2,if_neg h0,hb]
 have hq:dmQ s (wr b g).1=numI s/g:=by
  unfold dmQ
  rw [h2,hm,if_neg (by omega)]
 have hr:dmM s (wr b g).1=0:=by
  unfold dmM
  rw [h2,hm,if_neg (by omega)]
 rw [hq,hr]
 rfl
theorem K9{s t:List UInt8}(ht:errI t=0)(h0:numI t≠0):Nat.gcd (numI s) (numI t)≠0∧room (Nat.gcd (numI s) (numI t)):=by
 have hp:=Nat.pos_of_ne_zero h0
 refine⟨fun h=> ?_,room_le (Nat.le_of_dvd hp (Nat.gcd_dvd_right _ _)) (jw ht)⟩
 have:=Nat.eq_zero_of_gcd_eq_zero_right h
 exact h0 this
theorem zb5(neg:Bool)(x y:Nat):(JQ neg x y).length≤2003:=by
 unfold JQ
 have h1:=vB neg (x/Nat.gcd x y)
 have h2:=vB false (y/Nat.gcd x y)
 split
 ·omega
 ·simp only [List.length_append,List.length_cons,List.length_nil]; omega
end Go.Nov
namespace Go.Nov
theorem VT:errI [49]=0:=rfl
theorem qH{a:List UInt8}(h:errR a=0):errI (numR a)=0∧errI (denR a)=0∧negI (denR a)=false∧numI (denR a)≠0:=by
 unfold errR at h
 unfold numR denR
 cases hc:(cutR a).2.2 with
 | true=>
  rw [hc] at h
  simp only [if_true] at h ⊢
  split at h
  ·cases h
  ·rename_i h1
   simp only [not_or] at h1
   split at h
   ·cases h
   ·rename_i h2
    simp only [not_or,Classical.not_not] at h2
    refine⟨h2.1,h2.2,by simpa using h1.2.2.1,fun h0=> ?_⟩
    exact h1.2.2.2.1 ((xg h2.2).2 h0)
 | false=>
  rw [hc] at h
  simp only [Bool.false_eq_true,if_false] at h ⊢
  have:(cutR a).1=a:=by
   unfold cutR at hc ⊢
   split at hc
   ·cases hc
   ·rename_i hn; rw [if_neg hn]
  rw [this]
  exact⟨h,VT,rfl,by decide⟩
theorem Ko(a:List UInt8):(numR a).length≤a.length:=(WX a).1
theorem Kl(a:List UInt8):(denR a).length≤a.length+1:=by
 unfold denR
 split
 ·exact Nat.le_trans (WX a).2 (Nat.le_succ _)
 ·simp
theorem vK{s t:List UInt8}(h:z8 s t=0):(mulI s t).2=0∧errI (mulI s t).1=0∨mulI s t=([],14):=by
 unfold mulI
 rw [if_pos h]
 exact(zfb _ _).imp (fun h=>⟨h,(Qx h).1⟩) id
theorem zc0{s t:List UInt8}(h:z8 s t=0):(addI s t).2=0∧errI (addI s t).1=0∨addI s t=([],14):=by
 unfold addI
 rw [if_pos h]
 exact(zfb _ _).imp (fun h=>⟨h,(Qx h).1⟩) id
end Go.Nov
namespace Go.Nov
def stp(e:Int)(f:List UInt8→List UInt8→List UInt8×Int)(x y:List UInt8):List UInt8×Int:=if e≠0 then([],e) else f x y
theorem zhs{e:Int}{f:List UInt8→List UInt8→List UInt8×Int}{x y:List UInt8}(h:(f x y).1.length≤1001):(stp e f x y).1.length≤1001:=by
 unfold stp
 split
 ·simp
 ·exact h
theorem qi{e:Int}(h:e≠0)(f:List UInt8→List UInt8→List UInt8×Int)(x y:List UInt8):stp e f x y=([],e):=if_pos h
theorem w7(f:List UInt8→List UInt8→List UInt8×Int)(x y:List UInt8):stp 0 f x y=f x y:=if_neg (by simp)
def Q7(f:List UInt8→List UInt8→List UInt8×Int)(a b:List UInt8):List UInt8×Int:=
 if zT a b≠0 then([],zT a b) else frac (f (mulI (numR a) (denR b)).1 (mulI (numR b) (denR a)).1) (mulI (denR a) (denR b))
section
variable {a b n m d c:List UInt8} {e:Int} (hp:(e≠0∧jy a b=e)∨(e=0∧errR a=0∧errR b=0∧n=numR a∧m=numR b∧d=denR a∧c=denR b))
include hp
theorem KJ{f:List UInt8→List UInt8→List UInt8×Int}(hf:∀ {s t:List UInt8},z8 s t=0→(f s t).2=0∧errI (f s t).1=0∨f s t=([],14)){r1 r2 r3 r4 r5:List UInt8×Int}
  (h1:r1=stp e mulI n c) (h2:r2=stp r1.2 mulI m d) (h3:r3=stp r2.2 f r1.1 r2.1) (h4:r4=stp r3.2 mulI d c) (h5:r5=stp r4.2 jZ r3.1 r4.1):r5=Q7 f a b:=by
 rcases hp with ⟨he,h2e⟩ | ⟨rfl,ha,hb,rfl,rfl,rfl,rfl⟩
 ·have hc:zT a b=e:=by unfold zT; rw [if_pos (by rw [h2e]; exact he)]; exact h2e
  unfold Q7
  rw [hc,if_pos he]
  rw [qi he] at h1
  subst h1
  rw [qi he] at h2
  subst h2
  rw [qi he] at h3
  subst h3
  rw [qi he] at h4
  subst h4
  rw [h5,qi he]
 ·obtain⟨a1,a2,_⟩:=qH ha
  obtain⟨b1,b2,_⟩:=qH hb
  have he2:jy a b=0:=by unfold jy; rw [if_pos ha]; exact hb
  have e14:(14:Int)≠0:=by decide
  rw [w7] at h1
  have hc:zT a b=if(mulI (numR a) (denR b)).2≠0∨(mulI (numR b) (denR a)).2≠0 then 14 else 0:=by unfold zT; rw [if_neg (by rw [he2]; simp)]
  rcases vK (zq.2 ⟨a1,b2⟩) with ⟨g1,k1⟩ | g1
  ·rw [← h1] at g1 k1
   rw [g1,w7] at h2
   rcases vK (zq.2 ⟨b1,a2⟩) with ⟨g2,k2⟩ | g2
   ·rw [← h2] at g2 k2
    rw [g2,w7] at h3
    have hc0:zT a b=0:=by rw [hc,if_neg]; rw [← h1,← h2,g1,g2]; simp
    unfold Q7
    rw [hc0,if_neg (by simp),← h1,← h2,← h3]
    rcases hf (zq.2 ⟨k1,k2⟩) with ⟨g3,k3⟩ | g3
    ·rw [← h3] at g3 k3
     rw [g3,w7] at h4
     unfold frac
     rw [← h4,h5]
     rcases vK (zq.2 ⟨a2,b2⟩) with ⟨g4,k4⟩ | g4
     ·rw [← h4] at g4
      rw [g3,g4,if_neg (by simp),w7]
     ·rw [← h4] at g4
      rw [g4,if_pos (by simp),qi e14]
    ·rw [← h3] at g3
     have q4:r4=([],14):=by rw [h4,g3]; exact qi e14 _ _ _
     unfold frac
     rw [if_pos (by rw [g3]; simp),h5,q4,qi e14]
   ·rw [← h2] at g2
    have hc0:zT a b=14:=by rw [hc,if_pos]; rw [← h2,g2]; simp
    unfold Q7
    rw [hc0,if_pos e14]
    have q3:r3=([],14):=by rw [h3,g2]; exact qi e14 _ _ _
    have q4:r4=([],14):=by rw [h4,q3]; exact qi e14 _ _ _
    rw [h5,q4,qi e14]
  ·rw [← h1] at g1
   have hc0:zT a b=14:=by rw [hc,if_pos]; rw [← h1,g1]; simp
   unfold Q7
   rw [hc0,if_pos e14]
   have q2:r2=([],14):=by rw [h2,g1]; exact qi e14 _ _ _
   have q3:r3=([],14):=by rw [h3,q2]; exact qi e14 _ _ _
   have q4:r4=([],14):=by rw [h4,q3]; exact qi e14 _ _ _
   rw [h5,q4,qi e14]
theorem zbd{x y z w:List UInt8}{r1 r2 r3:List UInt8×Int}(h1:r1=stp e mulI x y)(h2:r2=stp r1.2 mulI z w)(h3:r3=stp r2.2 jZ r1.1 r2.1)
  (hv:errR a=0→errR b=0→z8 x y=0∧z8 z w=0):r3=if jy a b≠0 then([],jy a b) else frac (mulI x y) (mulI z w):=by
 rcases hp with ⟨he,h2e⟩ | ⟨rfl,ha,hb,_⟩
 ·rw [h2e,if_pos he]
  rw [qi he] at h1
  subst h1
  rw [qi he] at h2
  subst h2
  rw [h3,qi he]
 ·obtain⟨v1,v2⟩:=hv ha hb
  have he2:jy a b=0:=by unfold jy; rw [if_pos ha]; exact hb
  have e14:(14:Int)≠0:=by decide
  rw [he2,if_neg (by simp)]
  rw [w7] at h1
  unfold frac
  rcases vK v1 with ⟨g1,_⟩ | g1
  ·rw [← h1] at g1 ⊢
   rw [g1,w7] at h2
   rcases vK v2 with ⟨g2,_⟩ | g2
   ·rw [← h2] at g2 ⊢
    rw [g1,g2,if_neg (by simp),h3,g2,w7]
   ·rw [← h2] at g2 ⊢
    rw [g2,if_pos (by simp),h3,g2,qi e14]
  ·rw [← h1] at g1 ⊢
   have q2:r2=([],14):=by rw [h2,g1]; exact qi e14 _ _ _
   rw [g1,if_pos (by simp),h3,q2,qi e14]
theorem zaq{r1 r2:List UInt8×Int}(h1:r1=stp e mulI n c)(h2:r2=stp r1.2 mulI m d):(if r2.2≠0 then(0,r2.2) else Zi r1.1 r2.1)=cmpR a b:=by
 unfold cmpR
 rcases hp with ⟨he,h2e⟩ | ⟨rfl,ha,hb,rfl,rfl,rfl,rfl⟩
 ·have hc:zT a b=e:=by unfold zT; rw [if_pos (by rw [h2e]; exact he)]; exact h2e
  rw [qi he] at h1
  subst h1
  rw [qi he] at h2
  subst h2
  rw [hc,if_pos he,if_pos he]
 ·obtain⟨a1,a2,_⟩:=qH ha
  obtain⟨b1,b2,_⟩:=qH hb
  have he2:jy a b=0:=by unfold jy; rw [if_pos ha]; exact hb
  have e14:(14:Int)≠0:=by decide
  have hc:zT a b=if(mulI (numR a) (denR b)).2≠0∨(mulI (numR b) (denR a)).2≠0 then 14 else 0:=by unfold zT; rw [if_neg (by rw [he2]; simp)]
  rw [w7] at h1
  rcases vK (zq.2 ⟨a1,b2⟩) with ⟨g1,k1⟩ | g1
  ·rw [← h1] at g1
   rw [g1,w7] at h2
   rcases vK (zq.2 ⟨b1,a2⟩) with ⟨g2,k2⟩ | g2
   ·rw [← h2] at g2
    have hc0:zT a b=0:=by rw [hc,if_neg]; rw [← h1,← h2,g1,g2]; simp
    rw [hc0,if_neg (by rw [g2]; simp),if_neg (by simp),← h1,← h2]
   ·rw [← h2] at g2
    have hc0:zT a b=14:=by rw [hc,if_pos]; rw [← h2,g2]; simp
    rw [hc0,g2,if_pos e14,if_pos e14]
  ·rw [← h1] at g1
   have hc0:zT a b=14:=by rw [hc,if_pos]; rw [← h1,g1]; simp
   have q2:r2=([],14):=by rw [h2,g1]; exact qi e14 _ _ _
   rw [hc0,q2,if_pos e14,if_pos e14]
end
end Go.Nov
end
section
namespace Go.Nov
theorem zjl{b:List UInt8}(h:allD b)(hn:b≠[])(hz:b.getD 0 0≠48):numD b≠0∧txt (numD b)=b:=by
 have hd:=zji h
 have hl:0<b.length:=List.length_pos_iff.2 hn
 have htl:Ten.tlen (dg b)=(dg b).length:=by
  rcases Nat.lt_or_ge (Ten.tlen (dg b)) (dg b).length with h1 | h1
  ·exfalso
   have h2:=Ten.jB (dg b) ((dg b).length - 1) (by omega)
   rw [Yp] at h2
   have e:(dg b).getD (b.length - 1) 0=(b.getD 0 0).toNat - 48:=by
    simp only [dg,List.getD_eq_getElem?_getD]
    rw [List.getElem?_reverse (by simp; omega)]
    simp [List.getElem?_eq_getElem hl,show b.length - 1 - (b.length - 1)=0 by omega]
   rw [e] at h2
   have h3:48≤(b.getD 0 0).toNat:=by
    cases b with
    | nil=>exact absurd rfl hn
    | cons c r=>exact(h c (by simp)).1
   apply hz
   apply UInt8.toNat_inj.1
   show _=48
   omega
  ·exact Nat.le_antisymm (Ten.qj _) h1
 have hc:dec (numD b)=dg b:=by
  rw [← XU]
  exact Ten.JW hd htl
 have h0:numD b≠0:=by
  intro h0
  rw [h0] at hc
  have:dg b=[]:=by rw [← hc]; exact Ten.zL
  have:=congrArg List.length this
  rw [Yp,List.length_nil] at this
  omega
 refine⟨h0,?_⟩
 rw [yo h0,hc,dg,← List.map_reverse,List.reverse_reverse,List.map_map]
 conv=>rhs; rw [← List.map_id b]
 refine List.map_congr_left fun c hcm=> ?_
 obtain⟨h1,h2⟩:=h c hcm
 apply UInt8.toNat_inj.1
 simp only [Function.comp,id]
 rw [Zr (by omega)]
 omega
theorem YG{s:List UInt8}(h:errI s=0):wr (negI s) (numI s)=(s,0):=by
 obtain⟨neg,b,h1,h2,h3,h4,h5,h6⟩:=WW h
 have e1:negI s=neg:=by simp [negI,h2]
 have e2:numI s=numD b:=by simp [numI,h2]
 rw [e1,e2]
 by_cases hz:b.getD 0 0=48
 ·have hb:b=[48]:=by
   cases b with
   | nil=>exact absurd rfl h5
   | cons c r=>
    cases r with
    | nil=>have:c=48:=hz; rw [this]
    | cons d r=>rw [kF hz (by simp)] at h3; cases h3
  subst hb
  cases neg with
  | true=>cases h3
  | false=>rw [h1]; rfl
 ·obtain⟨g1,g2⟩:=zjl h4 h5 hz
  unfold wr
  rw [if_neg g1,g2,if_neg,h1]
  have:=Z0 g1
  rw [g2] at this
  omega
def zI(s:List UInt8):Int:=if negI s then -(numI s:Int) else numI s
theorem wx(s:List UInt8):(zI s).natAbs=numI s:=by unfold zI; split<;>simp
theorem Vu{s:List UInt8}(h:errI s=0):negI s=decide (zI s<0):=by
 unfold zI
 cases hn:negI s with
 | false=>simp
 | true=>
  simp only [if_true]
  have:numI s≠0:=by
   intro h0
   have:=(xg h).2 h0
   rw [this] at hn
   cases hn
  exact(decide_eq_true (by omega)).symm
def wz(z:Int):List UInt8×Int:=wr (decide (z<0)) z.natAbs
theorem WY{s:List UInt8}(h:errI s=0):wz (zI s)=(s,0):=by
 unfold wz
 rw [wx,← Vu h,YG h]
theorem zku{neg:Bool}{x:Nat}(h:(wr neg x).2=0):zI (wr neg x).1=if neg then -(x:Int) else x:=by
 obtain⟨h1,h2,h3⟩:=Qx h
 unfold zI
 rw [h2,h3]
 by_cases h0:x=0
 ·subst h0; simp
 ·cases neg<;>simp [h0]
theorem xJ{z:Int}(h:(wz z).2=0):zI (wz z).1=z:=by
 unfold wz at h ⊢
 rw [zku h]
 by_cases hz:z<0
 ·rw [decide_eq_true hz]; simp only [if_true]; omega
 ·rw [decide_eq_false hz]; simp only [Bool.false_eq_true,if_false]; omega
theorem uZ{z:Int}(h:(wz z).2=0):errI (wz z).1=0:=(Qx h).1
theorem Uo{neg:Bool}{x:Nat} : wr neg x=wz (if neg then -(x:Int) else x):=by
 unfold wz
 by_cases h0:x=0
 ·subst h0
  cases neg<;>rfl
 ·cases neg with
  | false=>simp only [Bool.false_eq_true,if_false,Int.natAbs_natCast]; rw [decide_eq_false (by omega)]
  | true=>simp only [if_true,Int.natAbs_neg,Int.natAbs_natCast]; rw [decide_eq_true (by omega)]
theorem zjq(m:Bool)(x:Nat)(n:Bool)(y:Nat):(if(sumS m x n y).1 then -((sumS m x n y).2:Int) else(sumS m x n y).2)=(if m then -(x:Int) else x)+(if n then -(y:Int) else y):=by
 unfold sumS
 by_cases h:m=n
 ·subst h
  rw [if_pos rfl]
  cases m<;>simp<;>omega
 ·rw [if_neg h]
  by_cases h2:y≤x
  ·rw [if_pos h2]
   cases m<;>cases n<;>first | exact absurd rfl h | (simp; omega)
  ·rw [if_neg h2]
   cases m<;>cases n<;>first | exact absurd rfl h | (simp; omega)
theorem zkk{s t:List UInt8}(h:z8 s t=0):addI s t=wz (zI s+zI t):=by
 unfold addI
 rw [if_pos h,Uo,zjq]; rfl
theorem xY{s t:List UInt8}(h:z8 s t=0):mulI s t=wz (zI s*zI t):=by
 unfold mulI
 rw [if_pos h,Uo]
 congr 1
 unfold zI
 cases negI s<;>cases negI t<;>simp [Int.neg_mul,Int.mul_neg]
theorem zjn(m:Bool)(x:Nat)(n:Bool)(y:Nat)(hm:m=true→x≠0)(hn:n=true→y≠0):cmpZ m x n y=cmpI (if m then -(x:Int) else x) (if n then -(y:Int) else y):=by
 unfold cmpZ cmpI cmpN
 cases m<;>cases n
 ·simp only [Bool.false_eq_true,false_and,if_false]
  repeat' split
  all_goals first | rfl | omega
 ·have:=hn rfl
  simp only [Bool.false_eq_true,false_and,if_false,true_and,and_self,if_true]
  repeat' split
  all_goals first | rfl | omega
 ·have:=hm rfl
  simp only [and_self,if_true,Bool.false_eq_true,if_false]
  repeat' split
  all_goals first | rfl | omega
 ·simp only [Bool.true_eq_false,and_false,if_false,if_true]
  repeat' split
  all_goals first | rfl | omega
def qv(a:List UInt8):Rat:=Rat.divInt (zI (numR a)) (zI (denR a))
def qstr(r:Rat):List UInt8:=if r.den=1 then(wz r.num).1 else(wz r.num).1++[47]++(wz r.den).1
def xP(r:Rat):Prop:=room r.num.natAbs∧room r.den
theorem zep(neg:Bool)(x:Nat):∀ c∈(wr neg x).1,c≠47:=by
 intro c hc h
 subst h
 unfold wr at hc
 split at hc
 ·simp at hc
 ·rename_i h0
  split at hc
  ·simp at hc
  ·have ht:¬ (47:UInt8)∈txt x:=fun hm=>by
    have:=(UC h0 _ hm).1
    have e:(47:UInt8).toNat=47:=rfl
    omega
   cases neg<;>simp [sgn] at hc<;>exact ht hc
theorem zdr{u v:List UInt8}(h:∀ c∈u,c≠47):cutR (u++[47]++v)=(u,v,true):=by
 have hs:zH (u++[47]++v)=u.length:=by
  refine zc1 (by simp) (by simp [List.getD]) fun j hj=> ?_
  rw [List.append_assoc]
  simp only [List.getD,List.getElem?_append_left hj,List.getElem?_eq_getElem hj,Option.getD_some]
  exact h _ (List.getElem_mem hj)
 rw [YE (by rw [hs]; simp),hs]
 simp
theorem zal{u:List UInt8}(h:∀ c∈u,c≠47):cutR u=(u,[],false):=by
 have hs:zH u=u.length:=XT fun j hj=>by
  simp only [List.getD,List.getElem?_eq_getElem hj,Option.getD_some]
  exact h _ (List.getElem_mem hj)
 exact zbq (by omega)
theorem K8(z:Int):∀ c∈(wz z).1,c≠47:=zep _ _
theorem x7{z:Int}(h:room z.natAbs):(wz z).2=0:=vX h
theorem zk9:wz 1=([49],0):=kx
theorem Z9{r:Rat}(h:xP r):numR (qstr r)=(wz r.num).1∧denR (qstr r)=(wz (r.den:Int)).1∧(cutR (qstr r)).2.2=decide (r.den≠1):=by
 unfold qstr
 by_cases h1:r.den=1
 ·rw [if_pos h1]
  have:=zal (K8 r.num)
  unfold numR denR
  rw [this,h1]
  exact⟨rfl,by simp only [Bool.false_eq_true,if_false]; exact(congrArg Prod.fst zk9).symm,by simp⟩
 ·rw [if_neg h1]
  have:=zdr (v:=(wz (r.den:Int)).1) (K8 r.num)
  unfold numR denR
  rw [this]
  exact⟨rfl,rfl,by simp [h1]⟩
theorem Uc{r:Rat}(h:xP r):qv (qstr r)=r:=by
 obtain⟨h1,h2,_⟩:=Z9 h
 unfold qv
 rw [h1,h2,xJ (x7 h.1),xJ (x7 (by rw [Int.natAbs_natCast]; exact h.2)),Rat.divInt_ofNat,Rat.mkRat_self]
theorem JE{r:Rat}(h:xP r):errR (qstr r)=0:=by
 obtain⟨h1,h2,h3⟩:=Z9 h
 have e1:=uZ (x7 h.1)
 have e2:errI (wz (r.den:Int)).1=0:=uZ (x7 (by rw [Int.natAbs_natCast]; exact h.2))
 have z1:=xJ (x7 h.1)
 have z2:zI (wz (r.den:Int)).1=r.den:=xJ (x7 (by rw [Int.natAbs_natCast]; exact h.2))
 unfold errR
 by_cases hd:r.den=1
 ·rw [h3,hd]
  simp only [ne_eq,not_true_eq_false,decide_false,Bool.false_eq_true,if_false]
  unfold qstr
  rw [if_pos hd]
  exact e1
 ·have hc:(cutR (qstr r)).2.2=true:=by rw [h3]; simp [hd]
  have n1:(cutR (qstr r)).1=(wz r.num).1:=h1
  have n2:(cutR (qstr r)).2.1=(wz (r.den:Int)).1:=by unfold denR at h2; rw [hc] at h2; exact h2
  rw [hc,if_pos rfl,n1,n2]
  have hp:=r.den_pos
  have hneg:negI (wz (r.den:Int)).1=false:=by rw [Vu e2,z2]; exact decide_eq_false (by omega)
  have hn48:(wz (r.den:Int)).1≠[48]:=fun h=>by
   rw [h] at z2
   have:zI [48]=0:=rfl
   omega
  have hn49:(wz (r.den:Int)).1≠[49]:=fun h=>by
   rw [h] at z2
   have:zI [49]=1:=rfl
   omega
  rw [if_neg (by simp [e1,e2,hneg,hn48,hn49]),if_neg (by simp [e1,e2])]
  have hg:gcdR (wz r.num).1 (wz (r.den:Int)).1=wr false (Nat.gcd r.num.natAbs r.den):=by
   unfold gcdR
   rw [if_pos (zq.2 ⟨e1,e2⟩),← wx,← wx,z1,z2,Int.natAbs_natCast]
  have hr:Nat.gcd r.num.natAbs r.den=1:=r.reduced
  rw [hg,hr,kx,if_neg (by simp)]
theorem QZ{a:List UInt8}(h:errR a=0):(qv a).num=zI (numR a)∧((qv a).den:Int)=zI (denR a)∧qstr (qv a)=a∧xP (qv a):=by
 obtain⟨e1,e2,e3,e4⟩:=qH h
 have hz:zI (denR a)=numI (denR a):=by unfold zI; rw [e3]; rfl
 have hcop:Nat.gcd (numI (numR a)) (numI (denR a))=1:=by
  unfold errR at h
  cases hc:(cutR a).2.2 with
  | true=>
   rw [hc,if_pos rfl] at h
   have hd:denR a=(cutR a).2.1:=by unfold denR; rw [hc]; rfl
   rw [hd] at e2 e4 ⊢
   unfold numR at e1 ⊢
   split at h
   ·cases h
   split at h
   ·cases h
   split at h
   ·cases h
   ·rename_i hg
    rw [Classical.not_not] at hg
    unfold gcdR at hg
    rw [if_pos (zq.2 ⟨e1,e2⟩)] at hg
    exact(Yk (K9 e2 e4).2).1 hg
  | false=>
   have:denR a=[49]:=by unfold denR; rw [hc]; rfl
   rw [this]
   exact Nat.gcd_one_right _
 have hq:qv a=⟨zI (numR a),numI (denR a),e4,by rw [wx]; exact hcop⟩:=by
  unfold qv
  rw [hz,Rat.mk_eq_divInt]
 have hroom:xP (qv a):=by
  rw [hq]
  exact⟨by show room (zI (numR a)).natAbs; rw [wx]; exact jw e1,jw e2⟩
 refine⟨by rw [hq],by rw [hq,hz],?_,hroom⟩
 rw [hq]
 unfold qstr
 simp only
 rw [← hz,WY e1,WY e2]
 cases hc:(cutR a).2.2 with
 | true=>
  have hd:denR a=(cutR a).2.1:=by unfold denR; rw [hc]; rfl
  have hn1:numI (denR a)≠1:=by
   intro h1
   have:denR a=[49]:=by
    have:=(YG e2)
    rw [e3,h1,kx] at this
    exact(congrArg Prod.fst this).symm
   unfold errR at h
   rw [hc,if_pos rfl,if_pos (by rw [← hd,this]; simp)] at h
   cases h
  rw [if_neg hn1,hd]
  simp only [numR]
  unfold cutR at hc ⊢
  split at hc
  ·rename_i hs
   rw [if_pos hs]
   simp only
   have h47:=Qh hs
   have:a=a.take (zH a)++([a.getD (zH a) 0]++a.drop (zH a+1)):=by
    conv=>lhs; rw [← List.take_append_drop (zH a) a]
    congr 1
    rw [List.drop_eq_getElem_cons hs]
    simp [List.getD,List.getElem?_eq_getElem hs]
   rw [h47] at this
   rw [List.append_assoc]
   exact this.symm
  ·cases hc
 | false=>
  have hd:denR a=[49]:=by unfold denR; rw [hc]; rfl
  rw [hd]
  have:numI [49]=1:=rfl
  rw [if_pos this]
  unfold numR
  unfold cutR at hc ⊢
  split at hc
  ·cases hc
  ·rename_i hs
   rw [if_neg hs]
theorem zhz(a b:Int)(hb:b≠0):b.sign*a=if(decide (a<0) != decide (b<0))=true then -(a.natAbs:Int) else a.natAbs:=by
 by_cases h1:a<0
 ·rw [decide_eq_true h1]
  by_cases h2:b<0
  ·rw [decide_eq_true h2,Int.sign_eq_neg_one_of_neg h2]; simp; omega
  ·rw [decide_eq_false h2,Int.sign_eq_one_of_pos (by omega)]; simp; omega
 ·rw [decide_eq_false h1]
  by_cases h2:b<0
  ·rw [decide_eq_true h2,Int.sign_eq_neg_one_of_neg h2]; simp; omega
  ·rw [decide_eq_false h2,Int.sign_eq_one_of_pos (by omega)]; simp; omega
theorem zkn{n d:List UInt8}(hn:errI n=0)(hd:errI d=0)(h0:numI d≠0):jZ n d=(qstr (Rat.divInt (zI n) (zI d)),0)∧xP (Rat.divInt (zI n) (zI d)):=by
 have hz0:zI d≠0:=fun h=>h0 (by rw [← wx,h]; rfl)
 have hg:(zI d).gcd (zI n)=Nat.gcd (numI n) (numI d):=by
  show Nat.gcd _ _=_
  rw [wx,wx,Nat.gcd_comm]
 have hden:(Rat.divInt (zI n) (zI d)).den=numI d/Nat.gcd (numI n) (numI d):=by
  rw [Rat.den_divInt,if_neg hz0,hg,wx]
 have hdv:Nat.gcd (numI n) (numI d) ∣ numI n:=Nat.gcd_dvd_left _ _
 have hnum:(Rat.divInt (zI n) (zI d)).num=if(negI n != negI d)=true then -((numI n/Nat.gcd (numI n) (numI d):Nat):Int) else((numI n/Nat.gcd (numI n) (numI d):Nat):Int):=by
  rw [Rat.num_divInt,hg,zhz _ _ hz0,wx,← Vu hn,← Vu hd]
  split
  ·rw [Int.neg_ediv_of_dvd (Int.natCast_dvd_natCast.2 hdv),Int.natCast_ediv]
  ·rw [Int.natCast_ediv]
 have hroom:xP (Rat.divInt (zI n) (zI d)):=by
  refine⟨?_,by rw [hden]; exact room_le (Nat.div_le_self _ _) (jw hd)⟩
  rw [hnum]
  have:room (numI n/Nat.gcd (numI n) (numI d)):=room_le (Nat.div_le_self _ _) (jw hn)
  split
  ·rw [Int.natAbs_neg,Int.natAbs_natCast]; exact this
  ·rw [Int.natAbs_natCast]; exact this
 refine⟨?_,hroom⟩
 unfold jZ
 rw [if_neg (by rw [zq.2 ⟨hn,hd⟩]; simp),if_neg h0]
 congr 1
 unfold JQ qstr
 rw [hden,hnum]
 have e2:(wr false (numI d/Nat.gcd (numI n) (numI d))).1=(wz ((numI d/Nat.gcd (numI n) (numI d):Nat):Int)).1:=by rw [Uo]; rfl
 rw [Uo,e2]
theorem zfq{n d:List UInt8}{e f:Int}{z w:Int}(hw:w≠0)(hz:(n,e)=wz z)(hd:(d,f)=wz w):frac (n,e) (d,f)=([],14)∨(frac (n,e) (d,f)=(qstr (Rat.divInt z w),0)∧xP (Rat.divInt z w)):=by
 unfold frac
 by_cases he:e=0
 ·by_cases hf:f=0
  ·subst he; subst hf
   have h1:(wz z).2=0:=by rw [← hz]
   have h2:(wz w).2=0:=by rw [← hd]
   have n1:n=(wz z).1:=by rw [← hz]
   have n2:d=(wz w).1:=by rw [← hd]
   have z1:=xJ h1
   have z2:=xJ h2
   have e1:=uZ h1
   have e2:=uZ h2
   rw [← n1] at z1 e1
   rw [← n2] at z2 e2
   right
   rw [if_neg (by simp)]
   have:=zkn e1 e2 (fun h=>hw (by rw [← z2]; have:=wx d; omega))
   rw [z1,z2] at this
   exact this
  ·left; rw [if_pos (.inr hf)]
 ·left; rw [if_pos (.inl he)]
section
variable {a b:List UInt8} (ha:errR a=0) (hb:errR b=0)
include ha hb
theorem KL:errI (numR a)=0∧errI (denR a)=0∧errI (numR b)=0∧errI (denR b)=0∧zI (denR a)≠0∧zI (denR b)≠0∧jy a b=0:=by
 obtain⟨a1,a2,_,a4⟩:=qH ha
 obtain⟨b1,b2,_,b4⟩:=qH hb
 exact⟨a1,a2,b1,b2,fun h=>a4 (by rw [← wx,h]; rfl),fun h=>b4 (by rw [← wx,h]; rfl),by unfold jy; rw [if_pos ha]; exact hb⟩
theorem Ua:zT a b=14∨(zT a b=0∧mulI (numR a) (denR b)=wz (zI (numR a)*zI (denR b))∧mulI (numR b) (denR a)=wz (zI (numR b)*zI (denR a))∧(mulI (numR a) (denR b)).2=0∧(mulI (numR b) (denR a)).2=0):=by
 obtain⟨a1,a2,b1,b2,a4,b4,h2⟩:=KL ha hb
 have m1:=xY (zq.2 ⟨a1,b2⟩)
 have m2:=xY (zq.2 ⟨b1,a2⟩)
 unfold zT
 rw [if_neg (by rw [h2]; simp)]
 by_cases h:(mulI (numR a) (denR b)).2≠0∨(mulI (numR b) (denR a)).2≠0
 ·left; rw [if_pos h]
 ·right
  rw [if_neg h]
  simp only [not_or,Classical.not_not] at h
  exact⟨rfl,m1,m2,h.1,h.2⟩
theorem zkr:addR a b=([],14)∨(addR a b=(qstr (qv a+qv b),0)∧xP (qv a+qv b)):=by
 obtain⟨a1,a2,b1,b2,a4,b4,h2⟩:=KL ha hb
 unfold addR
 rcases Ua ha hb with h | ⟨h,m1,m2,k1,k2⟩
 ·left; rw [h]; rfl
 ·rw [h,if_neg (by simp)]
  rw [m1] at k1
  rw [m2] at k2
  have e1:=uZ k1
  have e2:=uZ k2
  have:=zfq (n:=(addI (mulI (numR a) (denR b)).1 (mulI (numR b) (denR a)).1).1) (e:=(addI (mulI (numR a) (denR b)).1 (mulI (numR b) (denR a)).1).2) (d:=(mulI (denR a) (denR b)).1) (f:=(mulI (denR a) (denR b)).2)
   (z:=zI (numR a)*zI (denR b)+zI (numR b)*zI (denR a)) (w:=zI (denR a)*zI (denR b)) (Int.mul_ne_zero a4 b4) (by rw [m1,m2,zkk (zq.2 ⟨e1,e2⟩),xJ k1,xJ k2]) (by rw [xY (zq.2 ⟨a2,b2⟩)])
  unfold qv
  rw [Rat.divInt_add_divInt _ _ a4 b4]
  exact this
theorem zk4:mulR a b=([],14)∨(mulR a b=(qstr (qv a*qv b),0)∧xP (qv a*qv b)):=by
 obtain⟨a1,a2,b1,b2,a4,b4,h2⟩:=KL ha hb
 unfold mulR
 rw [h2,if_neg (by simp)]
 have:=zfq (n:=(mulI (numR a) (numR b)).1) (e:=(mulI (numR a) (numR b)).2) (d:=(mulI (denR a) (denR b)).1) (f:=(mulI (denR a) (denR b)).2)
  (z:=zI (numR a)*zI (numR b)) (w:=zI (denR a)*zI (denR b)) (Int.mul_ne_zero a4 b4) (by rw [xY (zq.2 ⟨a1,b1⟩)]) (by rw [xY (zq.2 ⟨a2,b2⟩)])
 unfold qv
 rw [Rat.divInt_mul_divInt]
 exact this
theorem zjr:cmpR a b=(0,14)∨cmpR a b=(if qv a<qv b then -1 else if qv b<qv a then 1 else 0,0):=by
 obtain⟨a1,a2,b1,b2,a4,b4,h2⟩:=KL ha hb
 obtain⟨p1,p2,_,_⟩:=QZ ha
 obtain⟨r1,r2,_,_⟩:=QZ hb
 unfold cmpR
 rcases Ua ha hb with h | ⟨h,m1,m2,k1,k2⟩
 ·left; rw [h]; rfl
 ·right
  rw [h,if_neg (by simp)]
  rw [m1] at k1
  rw [m2] at k2
  have e1:=uZ k1
  have e2:=uZ k2
  rw [m1,m2]
  unfold Zi
  rw [if_pos (zq.2 ⟨e1,e2⟩)]
  congr 1
  have hx:∀ s:List UInt8,errI s=0→negI s=true→numI s≠0:=fun s he hn h0=>by
   rw [(xg he).2 h0] at hn; cases hn
  rw [zjn _ _ _ _ (hx _ e1) (hx _ e2)]
  show cmpI (zI (wz (zI (numR a)*zI (denR b))).1) (zI (wz (zI (numR b)*zI (denR a))).1)=_
  rw [xJ k1,xJ k2,← p1,← p2,← r1,← r2]
  unfold cmpI
  simp only [Rat.lt_iff]
end
theorem zgf{a b:List UInt8}(ha:errR a=0)(hb:errR b=0)(h:(addR a b).2=0):errR (addR a b).1=0∧qv (addR a b).1=qv a+qv b:=by
 rcases zkr ha hb with h1 | ⟨h1,h2⟩
 ·rw [h1] at h; cases h
 ·rw [h1]; exact⟨JE h2,Uc h2⟩
theorem zhm{a b:List UInt8}(ha:errR a=0)(hb:errR b=0)(h:(mulR a b).2=0):errR (mulR a b).1=0∧qv (mulR a b).1=qv a*qv b:=by
 rcases zk4 ha hb with h1 | ⟨h1,h2⟩
 ·rw [h1] at h; cases h
 ·rw [h1]; exact⟨JE h2,Uc h2⟩
end Go.Nov
end
section
namespace Go.Nov
end Go.Nov
end
section
namespace Go.Nov
open Go.Sx
structure TOp where
 kind:Int
 a:Int
 b:Int
 rat:List UInt8
abbrev TOp.nil:TOp:=⟨0,0,0,[]⟩
def TOp.cell(o:TOp):Nat→AV
 | 0=>.int .u8 o.kind
 | 1=>.int .i64 o.a
 | 2=>.int .i64 o.b
 | 3=>.str o.rat
 | _=>.undef
def opG(l:List TOp):Nat→Nat→AV:=fun j=>(l.getD j TOp.nil).cell
def opS(l:List TOp):AV:=.sl l.length 4 (opG l)
structure Tp where
 n:Int
 ops:List TOp
def Tp.av(t:Tp):AV:=.agg [.int .i64 t.n,opS t.ops]
end Go.Nov
end
section
namespace Go.Nov
open Go.Sx
structure Deal where
 long:List UInt8
 short:List UInt8
 ccy:List UInt8
 name:List UInt8
 uD:List UInt8
 JA:List UInt8
def Deal.av(d:Deal):AV:=.agg [.str d.long,.str d.short,.str d.ccy,.str d.name,.str d.uD,.str d.JA]
def Deal.cells(d:Deal)(e:Int):List AV:=[.int .i64 e,.str d.long,.str d.short,.str d.ccy,.str d.name,.str d.uD,.str d.JA]
namespace Tm
def kon(r:List UInt8):Ex:=.mk 1 r [] 0 []
def spot(n:List UInt8):Ex:=.mk 3 [] n 0 []
def opx(k:Int)(s:List Ex):Ex:=.mk k [] [] 0 s
def over(k:List UInt8)(x:Ex)(below:Bool):Ex:=opx 7 [kon [48],opx 5 (if below=true then [kon k,x] else [x,kon k])]
def pay(d:Deal)(x:Ex)(r:List UInt8):Con:=.mk 2 d.short d.long d.ccy (opx 6 [x,kon r]) 0 [] []
def at_(day:Int)(c:Con):Con:=.mk 6 [] [] [] (.mk 0 [] [] 0 []) day [] [c]
def call(d:Deal)(ch:List UInt8)(days:List Int)(c:Con):Con:=.mk 8 d.long [] ch (.mk 0 [] [] 0 []) 0 days [c]
def first(e:Int)(l:List (List UInt8)):Int:=l.foldl (fun e r=>if e=0 then errR r else e) e
def zero:Con:=.mk 0 [] [] [] (.mk 0 [] [] 0 []) 0 [] []
def fits(d:Deal):Prop:=d.long.length≤200∧d.short.length≤200∧d.ccy.length≤200∧d.name.length≤200∧d.uD.length≤2500∧d.JA.length≤2500
def res(d:Deal)(c:Con):Int:=if first 0 [d.uD,d.JA]=0 then c.errC else first 0 [d.uD,d.JA]
def out(e:Int)(c:Con):Con:=if e=0 then c else zero
def opt(d:Deal)(ch:List UInt8)(days:List Int)(put:Bool):Con:=call d ch days (pay d (over d.uD (spot d.name) put) d.JA)
end Tm
end Go.Nov
end
section
namespace Go.Sx
open Go.Nov
variable [Stat]
theorem LeL.dAt:∀ {l m:List AV} (i:Nat),LeL l m→LeA (l.getD i .undef) (m.getD i .undef)
 | [],[],_,_=>LeA.refl _
 | [],_::_,_,h=>by simp [LeL] at h
 | _::_,[],_,h=>by simp [LeL] at h
 | a::l,b::m,0,h=>by simp only [LeL] at h; exact h.1
 | a::l,b::m,i+1,h=>by
  simp only [LeL] at h
  have:=LeL.dAt i h.2
  simpa [List.getD] using this
theorem RetR.yv{ctr:Ctr}{m:Nat}{Q:AV×Heap→Prop}{rs:List AV}{h:Heap}{r:AV}{hs:Heap}(L:List Nat)(hnd:jU L=true)(hlt:(L.all fun i=>decide (i<h.length))=true)(hj:∀ j,j<m→L[j]?=some j)(hf:ctr.fresh=false)(hq:Q (r,hs))
  (he:LeA (exp2 h L (resV rs)) r) (hb:eqH (expH h L) hs) (hl:hs.length=L.length):RetR ctr m Q rs h:=
 ⟨L,hnd,fun i hi=>by have:=List.all_eq_true.1 hlt i hi; simpa using this,hj,(fun hh=>absurd hh (by rw [hf]; decide)),r,hs,he,.inl hb,hl,hq⟩
end Go.Sx
namespace Go.Nov
open Go.Sx
variable [Go.Sx.Stat]
theorem Ex.ym{x y:Ex}{k d:Int}{r n:List UInt8}{c:List AV}(h:LeL c (x.cellsD++y.cellsD)):LeA (.sl 2 5 (zg (zh 5 c) 0)) (.sl 2 5 (Ex.mk k r n d [x,y]).deep):=by
 refine LeA.sl rfl fun j o hj ho=> ?_
 rw [Ex.qX (Ex.mk k r n d [x,y]) j o (by show j<2; omega) ho]
 have:=LeL.dAt (j*5+o) h
 simp only [zg,zh,Nat.zero_add]
 rcases(show j=0∨j=1 by omega) with rfl | rfl<;>rcases(show o=0∨o=1∨o=2∨o=3∨o=4 by omega) with rfl | rfl | rfl | rfl | rfl<;>exact this
theorem Ex.jJ(z:Ex):LeA (.sl z.sub.length 5 (Ex.exG z.sub)) (.sl z.sub.length 5 z.deep):=LeA.sl rfl fun j o hj ho=>by rw [Ex.qX z j o hj ho]; exact LeA.refl _
theorem Con.jJ(z:Con):LeA (.sl z.sub.length 12 (Con.conG z.sub)) (.sl z.sub.length 12 z.deep):=LeA.sl rfl fun j o hj ho=>by rw [Con.qX z j o hj ho]; exact LeA.refl _
end Go.Nov
end
section
set_option maxRecDepth 100000
open Go Go.Sx Go.Proofs Go.Nov
namespace Go.Proofs.Tryz
attribute [local simp] eqKV eqA eqA0 eqH eqB eqL eqL0
end Go.Proofs.Tryz
end
section
namespace Go.Nov
theorem Xu:∀ s t:List UInt8,Op.bytesLess s t=true∨s=t∨Op.bytesLess t s=true
 | [],[]=>.inr (.inl rfl)
 | [],_::_=>.inl rfl
 | _::_,[]=>.inr (.inr rfl)
 | a::s,b::t=>by
  simp only [Op.bytesLess,Bool.or_eq_true,Bool.and_eq_true,decide_eq_true_eq,beq_iff_eq]
  by_cases h:a=b
  ·subst h
   rcases Xu s t with g | g | g
   ·exact .inl (.inr ⟨rfl,g⟩)
   ·exact .inr (.inl (by rw [g]))
   ·exact .inr (.inr (.inr ⟨rfl,g⟩))
  ·rcases UInt8.lt_or_lt_of_ne h with g | g
   ·exact .inl (.inl g)
   ·exact .inr (.inr (.inl g))
structure OrdT{α:Type}(c:α→α→Int):Prop extends OrdK c where
 irr:∀ a,c a a=0
 tot:∀ a b,c a b<0∨c a b=0∨c b a<0
 sym:∀ a b,c a b=0→c b a=0
 eqt:∀ a b d,c a b=0→c b d=0→c a d=0
 eq2:∀ a b d,c a b=0→c b d<0→c a d<0
theorem zkg:OrdT cmpF where
 toOrdK:=zeg
 irr a:=by rw [x5]; exact⟨rfl,rfl⟩
 tot a b:=by
  rw [k0,x5,k0]
  rcases Xu a.name b.name with h | h | h
  ·exact .inl (.inl h)
  ·rcases Int.lt_trichotomy a.date b.date with g | g | g
   ·exact .inl (.inr ⟨h,g⟩)
   ·exact .inr (.inl ⟨h,g⟩)
   ·exact .inr (.inr (.inr ⟨h.symm,g⟩))
  ·exact .inr (.inr (.inl h))
 sym a b h:=by rw [x5] at h ⊢; exact⟨h.1.symm,h.2.symm⟩
 eqt a b d h g:=by rw [x5] at h g ⊢; exact⟨h.1.trans g.1,h.2.trans g.2⟩
 eq2 a b d h g:=by rw [x5] at h; rw [k0] at g ⊢; rw [h.1,h.2]; exact g
section
variable {α:Type} {c:α→α→Int} {z x y:α} (hk:OrdT c)
include hk
theorem zf5:∀ {l:List α},l.Pairwise (fun a b=>c a b<0)→ordB c z l=true:=fun {l} h=>by
 refine yz fun j hj=> ?_
 have:=List.pairwise_iff_getElem.1 h j (j+1) (by omega) hj (by omega)
 simpa [List.getD,List.getElem?_eq_getElem (show j<l.length by omega),List.getElem?_eq_getElem hj] using this
end
end Go.Nov
end
section
namespace Go.Nov
end Go.Nov
end
section
namespace Go.Nov
open Go.Sx
structure Ca where
 name:List UInt8
 into:List UInt8
 date:Int
 ratio:List UInt8
 extra:List UInt8
def Ca.av(a:Ca):AV:=.agg [.str a.name,.str a.into,.int .i64 a.date,.str a.ratio,.str a.extra]
theorem Ud:errR [48]=0:=by decide +kernel
theorem zl7:qv [48]=0:=by decide +kernel
theorem zfo{a:List UInt8} : (errR a≠0→(cmpR a [48]).2≠0)∧(errR a=0→(cmpR a [48]).2=0∧(cmpR a [48]).1=if qv a<0 then -1 else if 0<qv a then 1 else 0):=by
 constructor
 ·intro h
  have h2:jy a [48]=errR a:=by unfold jy; rw [if_neg h]
  have hc:zT a [48]=errR a:=by unfold zT; rw [h2,if_pos h]
  unfold cmpR
  rw [hc,if_pos h]
  exact h
 ·intro h
  have hn:(cmpR a [48]).2≠14→_:=fun g=>(zjr h Ud).resolve_left (fun k=>g (by rw [k]))
  have key:(cmpR a [48]).2≠14:=by
   obtain⟨a1,a2,b1,b2,a4,b4,h2⟩:=KL h Ud
   have hx:mulI (numR a) (denR [48])=(numR a,0):=by
    rw [show denR [48]=[49] from by decide +kernel,xY (zq.2 ⟨a1,VT⟩),show zI [49]=1 from by decide +kernel,Int.mul_one]
    exact WY a1
   have hy:mulI (numR [48]) (denR a)=([48],0):=by
    rw [xY (zq.2 ⟨b1,a2⟩),show zI (numR [48])=0 from by decide +kernel,Int.zero_mul]
    decide +kernel
   have hc:zT a [48]=0:=by
    unfold zT
    rw [h2,if_neg (by simp),hx,hy]
    simp
   unfold cmpR
   rw [hc,if_neg (by simp),hx,hy]
   unfold Zi
   rw [if_pos (zq.2 ⟨a1,by decide +kernel⟩)]
   simp
  have:=hn key
  rw [this,zl7]
  exact⟨rfl,rfl⟩
theorem zea(z w:List UInt8×Int):(frac z w).1.length≤2003:=by
 unfold frac
 split
 ·simp
 ·unfold jZ
  split
  ·simp
  ·split
   ·simp
   ·exact zb5 _ _ _
theorem zeq(a b:List UInt8):(mulR a b).1.length≤2003:=by
 unfold mulR
 split
 ·simp
 ·exact zea _ _
namespace Ca
def ok(a:Ca):Bool:=zQ a.name&&(zQ a.into&&(dayB a.date&&(decide (errR a.ratio=0)&&(decide (0<qv a.ratio)&&decide (errR a.extra=0)))))
def old(a:Ca)(x:List UInt8):List UInt8×Int:=if(mulR a.ratio x).2≠0 then([],(mulR a.ratio x).2) else addR (mulR a.ratio x).1 a.extra
def hit(a:Ca)(f:Fx):Bool:=decide (f.name=a.into)&&decide (a.date≤f.date)
def keep(a:Ca)(f:Fx):Bool:= !decide (f.name=a.name)||decide (f.date<a.date)
def mk'(a:Ca)(f:Fx):Fx:=⟨a.name,f.date,(a.old f.value).1⟩
def fresh(a:Ca)(l:List Fx):List Fx:=(l.filter a.hit).map a.mk'
def kept(a:Ca)(l:List Fx):List Fx:=l.filter a.keep
def bad(a:Ca)(f:Fx):Bool:=a.hit f&&decide ((a.old f.value).2≠0)
def err(a:Ca)(l:List Fx):Int:=match l.find? a.bad with
 | some f=>(a.old f.value).2
 | none=>0
def at_(a:Ca)(l:List Fx):Nat:=l.findIdx fun f=>Op.bytesLess a.name f.name
def join(a:Ca)(l m:List Fx):List Fx:=l.take (a.at_ l)++m++l.drop (a.at_ l)
def before(a:Ca)(f:List Fx)(c:List Ch):(List Fx×List Ch)×Int:=
 if a.ok=false then(([],[]),8) else if errE f c≠0 then(([],[]),errE f c) else if a.err f≠0 then(([],[]),a.err f)
 else if 1000<(a.kept f).length+(a.fresh f).length then(([],[]),22) else((a.join (a.kept f) (a.fresh f),c),0)
theorem zbt{a:Ca}{l:List Fx}{i:Nat}(hi:i<l.length)(h:a.err (l.take i)=0):a.err (l.take (i+1))=if a.bad (l.getD i Fx.nil)=true then(a.old (l.getD i Fx.nil).value).2 else 0:=by
 have hn:(l.take i).find? a.bad=none:=by
  unfold err at h
  split at h
  ·rename_i f hf
   have:=List.find?_some hf
   simp only [bad,Bool.and_eq_true,decide_eq_true_eq] at this
   exact absurd h this.2
  ·assumption
 have e:l.take (i+1)=l.take i++[l.getD i Fx.nil]:=by
  rw [List.take_add_one]
  simp [List.getD,hi]
 unfold err
 rw [e,List.find?_append,hn]
 simp only [Option.none_or,List.find?_cons]
 cases a.bad (l.getD i Fx.nil)<;>rfl
theorem zdv{a:Ca}{l:List Fx}{i:Nat}(hi:i<l.length)(h:a.err (l.take i)=0)(hb:a.bad (l.getD i Fx.nil)=true):a.err l=(a.old (l.getD i Fx.nil).value).2:=by
 have hn:(l.take i).find? a.bad=none:=by
  unfold err at h
  split at h
  ·rename_i f hf
   have:=List.find?_some hf
   simp only [bad,Bool.and_eq_true,decide_eq_true_eq] at this
   exact absurd h this.2
  ·assumption
 have e:l=l.take i++(l.getD i Fx.nil::l.drop (i+1)):=by
  conv=>lhs; rw [← List.take_append_drop i l,List.drop_eq_getElem_cons hi]
  simp [List.getD,hi]
 unfold err
 rw [e,List.find?_append,← e,hn]
 simp only [Option.none_or,List.find?_cons,hb]
theorem Wi{α:Type}{l:List α}{p:α→Bool}{z:α}{i:Nat}(h:i<l.length):(l.take (i+1)).filter p=if p (l.getD i z)=true then(l.take i).filter p++[l.getD i z] else(l.take i).filter p:=by
 have e:l.take (i+1)=l.take i++[l.getD i z]:=by
  rw [List.take_add_one]
  simp [List.getD,h]
 rw [e,List.filter_append]
 split<;>rename_i hp
 ·rw [List.filter_cons_of_pos hp]; rfl
 ·rw [List.filter_cons_of_neg hp]; simp
theorem K5{α:Type}(l:List α)(p:α→Bool)(i:Nat):((l.take i).filter p).length≤l.length:=by
 have:=List.length_filter_le p (l.take i)
 rw [List.length_take] at this; omega
theorem zar{a:Ca}{l:List Fx}{i:Nat}(h:i<l.length):a.kept (l.take (i+1))=if a.keep (l.getD i Fx.nil)=true then a.kept (l.take i)++[l.getD i Fx.nil] else a.kept (l.take i):=Wi h
theorem X9{a:Ca}{l:List Fx}{i:Nat}(h:i<l.length):a.fresh (l.take (i+1))=if a.hit (l.getD i Fx.nil)=true then a.fresh (l.take i)++[⟨a.name,(l.getD i Fx.nil).date,(a.old (l.getD i Fx.nil).value).1⟩] else a.fresh (l.take i):=by
 unfold fresh
 rw [Wi (z:=Fx.nil) h]
 split<;>simp [mk']
theorem zcc{a:Ca}(l:List Fx)(i:Nat):(a.kept (l.take i)).length≤l.length:=K5 l _ i
theorem zac{a:Ca}(l:List Fx)(i:Nat):(a.fresh (l.take i)).length≤l.length:=by
 unfold fresh; rw [List.length_map]; exact K5 l _ i
theorem zcn{a:Ca}(h:a.ok=true){x:List UInt8}(hx:errR x=0)(h0:(a.old x).2=0):errR (a.old x).1=0∧qv (a.old x).1=qv a.ratio*qv x+qv a.extra:=by
 unfold ok at h
 simp only [Bool.and_eq_true,decide_eq_true_eq] at h
 obtain⟨_,_,_,h1,_,h2⟩:=h
 unfold old at h0 ⊢
 split at h0
 ·rename_i g; exact absurd h0 g
 ·rename_i g
  rw [if_neg g]
  have g:(mulR a.ratio x).2=0:=Classical.not_not.1 g
  obtain⟨k1,k2⟩:=zhm h1 hx g
  obtain⟨k3,k4⟩:=zgf k1 h2 h0
  exact⟨k3,by rw [k4,k2]⟩
theorem zfx{a:Ca}{f:List Fx}{c:List Ch}(he:errE f c=0):(∀ x∈a.kept f,okF x=true∧(x.name≠a.name∨x.date<a.date))∧(a.kept f).Pairwise (fun x y=>cmpF x y<0):=by
 obtain⟨h1,h2,h3,h4,h5⟩:=uU.1 he
 rw [List.all_eq_true] at h2
 refine⟨fun x hx=> ?_,(U2 zeg h4).filter _⟩
 obtain⟨hy1,hy2⟩:=List.mem_filter.1 hx
 refine⟨h2 x hy1,?_⟩
 unfold keep at hy2
 simpa using hy2
theorem zcl{a:Ca}{l:List Fx} : a.at_ l≤l.length:=List.findIdx_le_length
theorem zjz{a:Ca}{l:List Fx}(hp:l.Pairwise fun x y=>cmpF x y<0):(∀ w∈l.take (a.at_ l),Op.bytesLess a.name w.name=false)∧(∀ w∈l.drop (a.at_ l),Op.bytesLess a.name w.name=true):=by
 constructor
 ·intro w hw
  obtain⟨j,hj,rfl⟩:=List.getElem_of_mem hw
  rw [List.length_take] at hj
  have:(l.take (a.at_ l))[j]'(by rw [List.length_take]; exact hj)=l[j]'(by omega):=by simp
  rw [this]
  have:=List.not_of_lt_findIdx (p:=fun f:Fx=>Op.bytesLess a.name f.name) (xs:=l) (i:=j) (by unfold at_ at hj; omega)
  simpa using this
 ·intro w hw
  obtain⟨j,hj,rfl⟩:=List.getElem_of_mem hw
  rw [List.length_drop] at hj
  rw [List.getElem_drop]
  have h0:a.at_ l<l.length:=by omega
  have h1:Op.bytesLess a.name (l[a.at_ l]).name=true:=List.findIdx_getElem (p:=fun f:Fx=>Op.bytesLess a.name f.name) (w:=h0)
  rcases Nat.eq_zero_or_pos j with rfl | hpos
  ·exact h1
  ·have:=List.pairwise_iff_getElem.1 hp (a.at_ l) (a.at_ l+j) (by omega) (by omega) (by omega)
   rw [k0] at this
   rcases this with h2 | ⟨h2,_⟩
   ·exact xf h1 h2
   ·rw [← h2]; exact h1
theorem join_nil{a:Ca}(l:List Fx):a.join l []=l:=by unfold join; simp
end Ca
end Go.Nov
end
section
namespace Go.Nov
open Go.Sx
namespace Ca
def rel(a:Ca)(y:Ex):Ex:=
 if a.extra=[48] then(if a.ratio=[49] then y else Tm.opx 6 [Tm.kon a.ratio,y])
 else Tm.opx 4 [if a.ratio=[49] then y else Tm.opx 6 [Tm.kon a.ratio,y],Tm.kon a.extra]
def onX(a:Ca)(k:Int)(n:List UInt8)(d:Int):Bool:=decide (n=a.name)&&(decide (k=3)||decide (k=2)&&decide (a.date≤d))
mutual
def chg(a:Ca):Ex→Ex
 | .mk k r n d s=>if a.onX k n d=true then a.rel (.mk k [] a.into d []) else .mk k r n d (chgs a s)
def chgs(a:Ca):List Ex→List Ex
 | []=>[]
 | x::l=>chg a x::chgs a l
end
mutual
def adj(a:Ca):Ex→Ex
 | .mk k r n d s=>if a.onX k n d=true then a.rel (.mk k r a.into d s) else .mk k r n d (adjs a s)
def adjs(a:Ca):List Ex→List Ex
 | []=>[]
 | x::l=>adj a x::adjs a l
end
theorem KT(a:Ca):∀ l,adjs a l=l.map (adj a)
 | []=>by rw [adjs]; rfl
 | x::l=>by rw [adjs,KT a l]; rfl
theorem zj9(a:Ca)(x:Ex):adj a x=if a.onX x.kind x.name x.date=true then a.rel (.mk x.kind x.rat a.into x.date x.sub) else .mk x.kind x.rat x.name x.date (x.sub.map (adj a)):=by
 cases x; rw [adj,KT]; rfl
mutual
def whole(f:Ex→Ex):Con→Con
 | .mk k a b n x d l s=>.mk k a b n (f x) d l (qx f s)
def qx(f:Ex→Ex):List Con→List Con
 | []=>[]
 | c::l=>whole f c::qx f l
end
theorem ZS(f:Ex→Ex):∀ l,qx f l=l.map (whole f)
 | []=>by rw [qx]; rfl
 | x::l=>by rw [qx,ZS f l]; rfl
theorem zdi(f:Ex→Ex)(c:Con):whole f c = .mk c.kind c.src c.dst c.name (f c.x) c.date c.days (c.sub.map (whole f)):=by
 cases c; rw [whole,ZS]; rfl
end Ca
end Go.Nov
end
section
set_option maxRecDepth 100000
open Go Go.Sx Go.Proofs Go.Nov
namespace Go.Proofs.Tryz
attribute [local simp] eqKV eqA eqA0 eqH eqB eqL eqL0
theorem qb(e:Ex):eqA (exD e) e.exA:=by
 simp only [exD,Ex.exA,Ex.exS,eqA]
 exact⟨⟨rfl,rfl⟩,rfl,rfl,⟨rfl,rfl⟩,⟨rfl,rfl,Ex.qX e⟩,trivial⟩
theorem zb7{f:Ex→Ex}{s:List Ex}{i:Nat}(h:i<s.length):eqG (i+1) 5 (appG i (Ex.exG (s.map f)) (zg (zh 5 (f (s.getD i Ex.nil)).cellsD) 0)) (Ex.exG (s.map f)):=by
 have e:f (s.getD i Ex.nil)=(s.map f).getD i Ex.nil:=by simp [List.getD,h]
 rw [e]
 exact ze5
theorem Xr{f:Con→Con}{s:List Con}{i:Nat}(h:i<s.length):eqG (i+1) 12 (appG i (Con.conG (s.map f)) (zg (zh 12 (f (s.getD i Con.nil)).xo) 0)) (Con.conG (s.map f)):=by
 have e:f (s.getD i Con.nil)=(s.map f).getD i Con.nil:=by simp [List.getD,h]
 rw [e]
 exact zan
noncomputable def K124:List Go.Sx.Item:=[.code (Tryz.f124.body.getD .skip)]
def HAd(a:Ca):Heap:=[.box [.str a.name,.str a.into,.int .i64 a.date,.str a.ratio,.str a.extra],.box [.fn 81 [] [.ptr 0 0,.ptr 1 0]]]
def adjC(n:Nat):Ctr:=ctrT false false (fun p:Ca×Ex=>[p.2.exA,.ptr 0 0,.ptr 1 0]) (fun p=>HAd p.1) (fun p=>p.2.size<n∧p.2.size<2^40) (fun _ (_:Unit)=>True) (fun p _=>(exD (p.1.adj p.2),HAd p.1))
def zl1(n:Nat):Ctr:=ctrT false false (fun p:Ca×List Ex=>[Ex.exS p.2,.fn 81 [] [.ptr 0 0,.ptr 1 0]]) (fun p=>HAd p.1) (fun p=>Ex.zr p.2<n∧Ex.zr p.2<2^40) (fun _ (_:Unit)=>True) (fun p _=>(Ex.exS (p.2.map (Ca.adj p.1)),HAd p.1))
def SMp(s:List Ex)(i:Nat):KV:=[(1,.fn 81 [] [.ptr 0 0,.ptr 1 0]),(5,.osl 2 5 0 i),(8,Ex.exS s),(9,.int .i64 (s.length:Int)),(10,.int .i64 (i:Int))]
def HMp(f:Ex→Ex)(a:Ca)(s:List Ex)(i:Nat):Heap:=[.box [.str a.name,.str a.into,.int .i64 a.date,.str a.ratio,.str a.extra],.box [.fn 81 [] [.ptr 0 0,.ptr 1 0]],.arr i 5 (Ex.exG (s.map f))]
theorem zhq(n:Nat)(ih:zf Tryz.prog 81 (adjC n)):zf Tryz.prog 124 (zl1 n):=by
 refine qI (fn:=Tryz.f124) (c:=Tryz.f124.body.getD .skip) rfl rfl rfl (fun h=>by cases h) fun p hp O w0 σ0 Q hl0 hq=> ?_
 obtain⟨a,s⟩:=p
 obtain⟨h1,h2⟩:=hp
 simp only at h1 h2
 replace hq:=hq () trivial
 have hlen:=Ex.qt s
 refine zc.run hmix (wL ih) [1,5,8,9,10] 400 (T:=.leaf (.loop (Prod.fst (lps K124 0)) (Prod.snd (lps K124 0)) [(1,.fn 81 [] [.ptr 0 0,.ptr 1 0]),(5,.nils),(8,.sl s.length 5 (Ex.exG s)),(9,.int .i64 s.length),(10,.int .i64 0)] [.box [.str (Ca.name a),.str (Ca.into a),.int .i64 (Ca.date a),.str (Ca.ratio a),.str (Ca.extra a)],.box [.fn 81 [] [.ptr 0 0,.ptr 1 0]]])) (by kernel_rfl) ?_
 simp only [Tree.holds,zd,inR,lo,hi,Int.toNat_natCast]
 show zE none Tryz.prog Tryz.f124 O 2 w0 σ0 _ _ _ _
 refine zc.bear 5 5 (Ex.exG (s.map (Ca.adj a))) rfl (by decide) (by kernel_rfl) ?_
 refine zc.loop (ι:={i:Nat // i≤s.length}) (fun i=>SMp s i.1) (fun i=>HMp (Ca.adj a) a s i.1) (fun i=>s.length - i.1) ⟨0,Nat.zero_le _⟩ 0 ?_ ?_ (by kernel_rfl)
 ·exact⟨by simp [SMp,yS,Ex.exS,zb],by simp [HMp,HAd,zb],by kernel_rfl,by show 2≤3; decide⟩
 ·rintro⟨i,hil⟩
  refine zc.run hmix (wL ih) [1,5,8,9,10] 400 (T:=.ite (decide ((↑i:Int)<s.length)) (.side ((0:Int)≤i∧(↑i:Int)<s.length) (.ex (fun(x:Ca×Ex)=>eqL [(exD (s.getD (↑i:Int).toNat Ex.nil)),AV.ptr 0 0,AV.ptr 1 0] [x.2.exA,AV.ptr 0 0,AV.ptr 1 0]∧eqH [.box [AV.str (Ca.name a),AV.str (Ca.into a),AV.int .i64 (Ca.date a),AV.str (Ca.ratio a),AV.str (Ca.extra a)],.box [AV.fn 81 [] [AV.ptr 0 0,AV.ptr 1 0]]] [.box [AV.str (Ca.name x.1),AV.str (Ca.into x.1),AV.int .i64 (Ca.date x.1),AV.str (Ca.ratio x.1),AV.str (Ca.extra x.1)],.box [AV.fn 81 [] [AV.ptr 0 0,AV.ptr 1 0]]]∧2=2∧Ex.size x.2<n∧Ex.size x.2<1099511627776) fun n=>.all (fun(x:Unit)=>True) fun n_1=>.side (0=0∧i≤i∧(i+1)*72≤140737488355328) (.side (inR .i64 ((↑i:Int)+(1:Int))) (.leaf (.back 0 [(1,.fn 81 [] [.ptr 0 0,.ptr 1 0]),(5,.osl 2 5 0 (i+1)),(8,.sl s.length 5 (Ex.exG s)),(9,.int .i64 s.length),(10,.int .i64 ((↑i:Int)+(1:Int)))] [.box [.str (Ca.name n.1),.str (Ca.into n.1),.int .i64 (Ca.date n.1),.str (Ca.ratio n.1),.str (Ca.extra n.1)],.box [.fn 81 [] [.ptr 0 0,.ptr 1 0]],.arr (i+1) 5 (appG i (Ex.exG (List.map (Ca.adj a) s)) (zg (zh 5 (Ex.cellsD (Ca.adj n.1 n.2))) 0)),.box (Ex.cellsD (s.getD (↑i:Int).toNat Ex.nil)),.arr 1 5 (zh 5 (Ex.cellsD (Ca.adj n.1 n.2)))]))))) (.leaf (.ret [.osl 2 5 0 i] [.box [.str (Ca.name a),.str (Ca.into a),.int .i64 (Ca.date a),.str (Ca.ratio a),.str (Ca.extra a)],.box [.fn 81 [] [.ptr 0 0,.ptr 1 0]],.arr i 5 (Ex.exG (List.map (Ca.adj a) s))]))) (by kernel_rfl) ?_
  simp only [Tree.holds,zd,inR,lo,hi,Int.toNat_natCast]
  refine⟨fun hlt=> ?_,fun hge=> ?_⟩
  ·have hlt:i<s.length:=by have:=of_decide_eq_true hlt; omega
   have hg:=Ex.wv hlt
   have ha:eqH [.box [.str a.name,.str a.into,.int .i64 a.date,.str a.ratio,.str a.extra],.box [.fn 81 [] [.ptr 0 0,.ptr 1 0]]] [.box [.str a.name,.str a.into,.int .i64 a.date,.str a.ratio,.str a.extra],.box [.fn 81 [] [.ptr 0 0,.ptr 1 0]]]:=by simp
   refine⟨by omega,fun _=>⟨(a,s.getD i Ex.nil),⟨⟨qb _,⟨rfl,rfl⟩,⟨rfl,rfl⟩,trivial⟩,ha,trivial,by show Ex.size (s.getD i Ex.nil)<n; omega,by show Ex.size (s.getD i Ex.nil)<_; omega⟩,⟨(),trivial⟩,?_⟩⟩
   intro _ _
   refine⟨⟨trivial,Nat.le_refl _,by omega⟩,fun _=>⟨by omega,fun _=> ?_⟩⟩
   rw [if_pos trivial]
   refine⟨⟨i+1,hlt⟩,by show s.length - (i+1)<s.length - i; omega,by simp [SMp,Ex.exS,zb],?_,by kernel_rfl,by show 2≤3; decide⟩
   refine⟨⟨rfl,rfl,⟨rfl,rfl⟩,rfl,rfl,trivial⟩,by simp,⟨rfl,rfl,zb7 hlt⟩,trivial⟩
  ·have hge:i=(s.map (Ca.adj a)).length:=by have:=of_decide_eq_false hge; simp; omega
   subst hge
   exact RetR.yv [0,1] rfl rfl (by show ∀ j,j<2→_; decide) rfl hq (LeA.sl rfl fun j o hj ho=>by simp only [zg,Nat.zero_add]; exact LeA.refl _) (by simp [expH,expB,exp1,exp0,ren0,HAd,HMp,z5]) rfl
def zj8:Ctr:=ctrP false (fun r:List UInt8=>[.str r]) (fun _=>True) (fun _ (_:Unit)=>True) (fun r _=>(exD (Tm.kon r),[]))
theorem zhb:zf Tryz.prog 82 zj8:=by
 refine zi (fn:=Tryz.f82) (c:=Tryz.f82.body.getD .skip) rfl rfl rfl fun r hp O w0 Q hq=> ?_
 replace hq:=hq () trivial
 refine zc.run hmix zD [] 400 (T:=.leaf (.ret [.agg [.int .u8 1,.str r,.str #[].toList,.int .i64 0,.nils]] [.box [.int .u8 1,.str r,.str #[].toList,.int .i64 0,.nils]])) (by kernel_rfl) ?_
 simp only [Tree.holds,zd]
 refine RetR.out0 hq (fun h=>by cases h) ?_
 exact⟨⟨rfl,rfl⟩,rfl,rfl,⟨rfl,rfl⟩,rfl,trivial⟩
def zdg(n:Nat):Ctr:=ctrT false false (fun p:Ca×Ex=>[p.2.exA,.fn 81 [] [.ptr 0 0,.ptr 1 0]]) (fun p=>HAd p.1) (fun p=>Ex.zr p.2.sub<n∧Ex.zr p.2.sub<2^40) (fun _ (_:Unit)=>True) (fun p _=>(exD (.mk p.2.kind p.2.rat p.2.name p.2.date (p.2.sub.map (Ca.adj p.1))),HAd p.1))
theorem zi7(n:Nat)(ih:zf Tryz.prog 81 (adjC n)):zf Tryz.prog 83 (zdg n):=by
 refine qI (fn:=Tryz.f83) (c:=Tryz.f83.body.getD .skip) rfl rfl rfl (fun h=>by cases h) fun p hp O w0 σ0 Q hl0 hq=> ?_
 obtain⟨a,x⟩:=p
 replace hq:=hq () trivial
 refine zc.run hmix (wL (zhq n ih)) [] 400 (T:=.ex (fun(x_1:Ca×List Ex)=>eqL [AV.sl x.sub.length 5 (Ex.exG x.sub),AV.fn 81 [] [AV.ptr 0 0,AV.ptr 1 0]] [AV.sl x_1.2.length 5 (Ex.exG x_1.2),AV.fn 81 [] [AV.ptr 0 0,AV.ptr 1 0]]∧eqH [.box [AV.str (Ca.name a),AV.str (Ca.into a),AV.int .i64 (Ca.date a),AV.str (Ca.ratio a),AV.str (Ca.extra a)],.box [AV.fn 81 [] [AV.ptr 0 0,AV.ptr 1 0]]] [.box [AV.str (Ca.name x_1.1),AV.str (Ca.into x_1.1),AV.int .i64 (Ca.date x_1.1),AV.str (Ca.ratio x_1.1),AV.str (Ca.extra x_1.1)],.box [AV.fn 81 [] [AV.ptr 0 0,AV.ptr 1 0]]]∧2=2∧Ex.zr x_1.2<n∧Ex.zr x_1.2<1099511627776) fun n=>.all (fun(x:Unit)=>True) fun n_1=>.leaf (.ret [.agg [.int .u8 x.kind,.str x.rat,.str x.name,.int .i64 x.date,.sl (List.length (List.map (Ca.adj n.1) n.2)) 5 (Ex.exG (List.map (Ca.adj n.1) n.2))]] [.box [.str (Ca.name n.1),.str (Ca.into n.1),.int .i64 (Ca.date n.1),.str (Ca.ratio n.1),.str (Ca.extra n.1)],.box [.fn 81 [] [.ptr 0 0,.ptr 1 0]],.box [.int .u8 x.kind,.str x.rat,.str x.name,.int .i64 x.date,.sl (List.length (List.map (Ca.adj n.1) n.2)) 5 (Ex.exG (List.map (Ca.adj n.1) n.2))],.box [.int .u8 x.kind,.str x.rat,.str x.name,.int .i64 x.date,.sl (List.length (List.map (Ca.adj n.1) n.2)) 5 (Ex.exG (List.map (Ca.adj n.1) n.2))]])) (by kernel_rfl) ?_
 simp only [Tree.holds,zd]
 refine⟨(a,x.sub),⟨⟨⟨rfl,rfl,zb _ _ _⟩,by simp,trivial⟩,by simp,trivial,hp.1,hp.2⟩,⟨(),trivial⟩,fun _ _=> ?_⟩
 exact RetR.yv [0,1] rfl rfl (by show ∀ j,j<2→_; decide) rfl hq (LeA.agg ⟨LeA.refl _,LeA.refl _,LeA.refl _,LeA.refl _,Ex.jJ (.mk x.kind x.rat x.name x.date (x.sub.map (Ca.adj a))),trivial⟩) (by simp [expH,expB,exp1,exp0,ren0,HAd,z5]) rfl
noncomputable def K164:List Go.Sx.Item:=[.code (Tryz.f164.body.getD .skip)]
def Ux:Ctr:=ctr2 true (fun x y=>(canon x).length<100000∧(canon y).length<100000) (fun x y d=>d=x+y) (fun _ _ d=>(magS d,[]))
def SPl(x y:Nat)(o:List Nat)(c i:Nat):KV:=[(1,magS y),(5,.osl 0 1 0 o.length),(6,.int .u32 (c:Int)),(21,magS x),(22,.int .i64 ((canon x).length:Int)),(23,.int .i64 (i:Int))]
structure IPl(x y:Nat) where
 o:List Nat
 c:Nat
 i:Nat
 len:o.length=i
 le:i≤(canon x).length
 dg:dig o
 c1:c≤1
 eq:val o+B^i*c=val ((canon x).take i)+val ((canon y).take i)
theorem zk8{x y o c i d c':Nat}{l m:List Nat}(h:o+B^i*c=val (l.take i)+val (m.take i))(he:d+B*c'=l.getD i 0+m.getD i 0+c):o+B^i*d+B^(i+1)*c'=val (l.take (i+1))+val (m.take (i+1)):=by
 rw [zw,zw,Nat.pow_succ]
 have:=congrArg (B^i * ·) he
 simp only [Nat.mul_add] at this
 rw [Nat.mul_assoc]
 omega
theorem RetR.zkx{ctr:Ctr}{Q:AV×Heap→Prop}{h:Heap}{i m n:Nat}{k:IntKind}{l:List Nat}{G:Nat→Nat→AV}(hq:Q (natS k l,[]))(hb:h[i]?=some (.arr m 1 G))(hn:n≤m)(hl:l.length=n)(hG:∀ j,j<n→G j 0 = .int k ((l.getD j 0:Nat):Int)):RetR ctr 0 Q [.osl i 1 0 n] h:=by
 refine RetR.out0 hq (fun _=> ?_) ?_
 ·refine zd7 hb (by omega) fun j o hj ho=> ?_
  have:o=0:=by omega
  subst this
  simp only [zg,Nat.zero_add,hG j hj,qc]
 ·have e:exp2 h [] (resV [.osl i 1 0 n])=exp0 h [] (.osl i 1 0 n):=rfl
  rw [e,VC hb (by omega),zkt]
  simp only [eqA2,natS]
  refine⟨hl.symm,rfl,fun j o hj ho=> ?_⟩
  have:o=0:=by omega
  subst this
  rw [hG j hj]; rfl
theorem KD{O:Nat→Prop}{w0:World}{Q:AV×Heap→Prop}(x y:Nat)(hx:(canon x).length<100000)(hlen:(canon y).length≤(canon x).length)(hq:Q (magS (x+y),[]))(kv:KV)(h:Heap)(hle:LeK 0 Tryz.f164.ntmps kv h (SPl x y [] 0 0) [.arr 0 1 (natG .u32 [])]) :
  zc Tryz.prog Tryz.f164 O 0 w0 [] (fun _ _ _=>False) (RetR Ux 0 Q) (.code (.loop (lps K164 0).1)::(lps K164 0).2) (mk Tryz.f164.ntmps kv h):=by
 refine zc.loop (ι:=IPl x y) (fun s=>SPl x y s.o s.c s.i) (fun s=>[.arr s.o.length 1 (natG .u32 s.o)]) (fun s=>(canon x).length - s.i) ⟨[],0,0,rfl,Nat.zero_le _,by simp [dig],by omega,by simp [val]⟩ 0 hle ?_ (by kernel_rfl)
 rintro⟨o,c,i,ho,hle,hd,hc,he⟩
 subst ho
 have hB:B=1000000000:=rfl
 refine zc.run hmix yq [1,5,6,21,22,23] 400 (T:=.ite (decide ((↑o.length:Int)<(↑(canon x).length:Int))) (.side ((0:Int)≤o.length∧(↑o.length:Int)<(↑(canon x).length:Int)) (.side (inR .u32 ((↑(List.getD (canon x) (Int.toNat (↑o.length:Int)) 0):Int)+c)) (.ite (decide ((↑o.length:Int)<(↑(canon y).length:Int))) (.side ((0:Int)≤o.length∧(↑o.length:Int)<(↑(canon y).length:Int)) (.side (inR .u32 ((↑(List.getD (canon x) (Int.toNat (↑o.length:Int)) 0):Int)+c+(↑(List.getD (canon y) (Int.toNat (↑o.length:Int)) 0):Int))) (.side ((1000000000:Int)≠0∧inR .u32 (Int.tdiv ((↑(List.getD (canon x) (Int.toNat (↑o.length:Int)) 0):Int)+c+(↑(List.getD (canon y) (Int.toNat (↑o.length:Int)) 0):Int)) (1000000000:Int))) (.side ((1000000000:Int)≠0) (.side (0=0∧o.length≤o.length∧(o.length+1)*4≤140737488355328) (.side (inR .i64 ((↑o.length:Int)+(1:Int))) (.leaf (.back 0 [(1,.sl (canon y).length 1 (natG .u32 (canon y))),(5,.osl 0 1 0 (o.length+1)),(6,.int .u32 (Int.tdiv ((↑(List.getD (canon x) (Int.toNat (↑o.length:Int)) 0):Int)+c+(↑(List.getD (canon y) (Int.toNat (↑o.length:Int)) 0):Int)) (1000000000:Int))),(21,.sl (canon x).length 1 (natG .u32 (canon x))),(22,.int .i64 (↑(canon x).length:Int)),(23,.int .i64 ((↑o.length:Int)+(1:Int)))] [.arr (o.length+1) 1 (appG o.length (natG .u32 o) (zg (zh 1 [.int .u32 (Int.tmod ((↑(List.getD (canon x) (Int.toNat (↑o.length:Int)) 0):Int)+c+(↑(List.getD (canon y) (Int.toNat (↑o.length:Int)) 0):Int)) (1000000000:Int))]) 0)),.arr 1 1 (zh 1 [.int .u32 (Int.tmod ((↑(List.getD (canon x) (Int.toNat (↑o.length:Int)) 0):Int)+c+(↑(List.getD (canon y) (Int.toNat (↑o.length:Int)) 0):Int)) (1000000000:Int))])])))))))) (.side ((1000000000:Int)≠0∧inR .u32 (Int.tdiv ((↑(List.getD (canon x) (Int.toNat (↑o.length:Int)) 0):Int)+c) (1000000000:Int))) (.side ((1000000000:Int)≠0) (.side (0=0∧o.length≤o.length∧(o.length+1)*4≤140737488355328) (.side (inR .i64 ((↑o.length:Int)+(1:Int))) (.leaf (.back 0 [(1,.sl (canon y).length 1 (natG .u32 (canon y))),(5,.osl 0 1 0 (o.length+1)),(6,.int .u32 (Int.tdiv ((↑(List.getD (canon x) (Int.toNat (↑o.length:Int)) 0):Int)+c) (1000000000:Int))),(21,.sl (canon x).length 1 (natG .u32 (canon x))),(22,.int .i64 (↑(canon x).length:Int)),(23,.int .i64 ((↑o.length:Int)+(1:Int)))] [.arr (o.length+1) 1 (appG o.length (natG .u32 o) (zg (zh 1 [.int .u32 (Int.tmod ((↑(List.getD (canon x) (Int.toNat (↑o.length:Int)) 0):Int)+c) (1000000000:Int))]) 0)),.arr 1 1 (zh 1 [.int .u32 (Int.tmod ((↑(List.getD (canon x) (Int.toNat (↑o.length:Int)) 0):Int)+c) (1000000000:Int))])]))))))))) (.side (0=0∧o.length≤o.length∧(o.length+1)*4≤140737488355328) (.ex (fun(u:List Nat)=>u.length=o.length+1∧0+(o.length+1)≤o.length+1∧o.length+1<4611686018427387904∧eqG (o.length+1) 1 (appG o.length (natG .u32 o) (zg (zh 1 [AV.int .u32 c]) 0)) (natG .u32 u)∧dig (List.take (o.length+1) (List.drop 0 u))) fun n=>.all (fun(x:Nat)=>x=val (List.take (o.length+1) (List.drop 0 n))) fun n=>.leaf (.ret [.osl 0 1 0 (canon n).length] [.arr (o.length+1) 1 (appG o.length (natG .u32 o) (zg (zh 1 [.int .u32 c]) 0)),.arr 1 1 (zh 1 [.int .u32 c])])))) (by kernel_rfl) ?_
 simp only [Tree.holds,zd,inR,lo,hi,Int.toNat_natCast,xB]
 have ha:=zO (zk x) o.length
 have hb:=zO (zk y) o.length
 have hnext:∀ d c':Nat,d<B→c'≤1→o.length<(canon x).length→d+B*c'=(canon x).getD o.length 0+(canon y).getD o.length 0+c →
   ∃ s:IPl x y,s.o=o++[d]∧s.c=c'∧s.i=o.length+1:=fun d c' h1 h2 h3 h4=>
  ⟨⟨o++[d],c',o.length+1,by simp,h3,je.2 ⟨hd,by simp [dig,h1]⟩,h2,by rw [QY]; exact zk8 (x:=x) (y:=y) he h4⟩,rfl,rfl,rfl⟩
 have hdiv:∀ v:Nat,(v:Int).tdiv 1000000000=((v/B:Nat):Int)∧(v:Int).tmod 1000000000=((v%B:Nat):Int):=fun v=>⟨rfl,rfl⟩
 have hq2:∀ v:Nat,v<2*B→v/B≤1∧v%B<B∧v%B+B*(v/B)=v:=fun v hv=>⟨by have:=Nat.div_lt_of_lt_mul (show v<B*2 by omega); omega,Nat.mod_lt _ (by omega),Nat.mod_add_div _ _⟩
 refine⟨fun hlt=> ?_,fun hge=> ?_⟩
 ·have hlt:o.length<(canon x).length:=by have:=of_decide_eq_true hlt; omega
  refine⟨by omega,fun _=>⟨by omega,fun _=>⟨fun hb2=> ?_,fun hb2=> ?_⟩⟩⟩
  ·have hb2:o.length<(canon y).length:=by have:=of_decide_eq_true hb2; omega
   refine⟨by omega,fun _=>⟨by omega,fun _=> ?_⟩⟩
   obtain⟨v,hv⟩:∃ v,(canon x).getD o.length 0+c+(canon y).getD o.length 0=v:=⟨_,rfl⟩
   have ev:(((canon x).getD o.length 0:Nat):Int)+(c:Int)+(((canon y).getD o.length 0:Nat):Int)=(v:Int):=by omega
   rw [ev,(hdiv v).1,(hdiv v).2]
   obtain⟨g1,g2,g3⟩:=hq2 v (by omega)
   generalize v/B=q at g1 g3 ⊢
   generalize v%B=r at g2 g3 ⊢
   refine⟨⟨by decide,by omega,by omega⟩,fun _=>⟨by decide,fun _=>⟨⟨trivial,Nat.le_refl _,by omega⟩,fun _=>⟨by omega,fun _=> ?_⟩⟩⟩⟩
   obtain⟨s,h1,h2,h3⟩:=hnext r q g2 g1 hlt (by omega)
   rw [if_pos trivial]
   exact⟨s,by show _ - s.i<_; omega,by simp [SPl,h1,h2,h3,magS,natS,zb],by rw [h1]; exact wZ rfl,by kernel_rfl,Nat.zero_le _⟩
  ·have hb2:(canon y).length≤o.length:=by have:=of_decide_eq_false hb2; omega
   have hb0:(canon y).getD o.length 0=0:=by simp [List.getD,List.getElem?_eq_none hb2]
   obtain⟨v,hv⟩:∃ v,(canon x).getD o.length 0+c=v:=⟨_,rfl⟩
   have ev:(((canon x).getD o.length 0:Nat):Int)+(c:Int)=(v:Int):=by omega
   rw [ev,(hdiv v).1,(hdiv v).2]
   obtain⟨g1,g2,g3⟩:=hq2 v (by omega)
   generalize v/B=q at g1 g3 ⊢
   generalize v%B=r at g2 g3 ⊢
   refine⟨⟨by decide,by omega,by omega⟩,fun _=>⟨by decide,fun _=>⟨⟨trivial,Nat.le_refl _,by omega⟩,fun _=>⟨by omega,fun _=> ?_⟩⟩⟩⟩
   obtain⟨s,h1,h2,h3⟩:=hnext r q g2 g1 hlt (by omega)
   rw [if_pos trivial]
   exact⟨s,by show _ - s.i<_; omega,by simp [SPl,h1,h2,h3,magS,natS,zb],by rw [h1]; exact wZ rfl,by kernel_rfl,Nat.zero_le _⟩
 ·have hge:o.length=(canon x).length:=by have:=of_decide_eq_false hge; omega
  have hv:val (o++[c])=x+y:=by
   rw [QY]
   rw [hge,List.take_length,List.take_of_length_le hlen,zn,zn] at he
   rw [hge]; exact he
  have hdo:dig (o++[c]):=je.2 ⟨hd,by simp [dig]; omega⟩
  have hpush:eqG (o.length+1) 1 (appG o.length (natG .u32 o) (zg (zh 1 [.int .u32 (c:Int)]) 0)) (natG .u32 (o++[c])):=by
   have:=yw (k:=.u32) (l:=o) (v:=(c:Int)) (by omega)
   simpa using this
  have hall:List.take (o.length+1) (List.drop 0 (o++[c]))=o++[c]:=by rw [List.drop_zero]; exact List.take_of_length_le (by simp)
  refine⟨⟨trivial,Nat.le_refl _,by omega⟩,fun _=>⟨o++[c],⟨by simp,by omega,by omega,hpush,by rw [hall]; exact hdo⟩,⟨_,rfl⟩,?_⟩⟩
  intro X hX
  have hX:X=x+y:=by rw [hX,hall,hv]
  subst hX
  have htr:qC (o++[c])=canon (x+y):=by rw [zS hdo,hv]
  have htl:(canon (x+y)).length=tlen (o++[c]):=by rw [← htr,qC,List.length_take]; have:=qj (o++[c]); omega
  rw [htl]
  have hle2:=qj (o++[c])
  have hln:(o++[c]).length=o.length+1:=by simp
  refine RetR.zkx (l:=canon (x+y)) (k:=.u32) hq rfl (by omega) htl fun j hj=> ?_
  have:=hpush j 0 (by omega) (by omega)
  rw [this,← htr]
  simp only [natG,qC]
  rw [Ut hj]
theorem YX:zf Tryz.prog 164 Ux:=by
 refine yZ (fn:=Tryz.f164) (c:=Tryz.f164.body.getD .skip) rfl rfl rfl fun x y hp O w0 Q hq=> ?_
 replace hq:=hq _ rfl
 obtain⟨hx,hy⟩:=hp
 refine zc.run hmix yq [1,5,6,21,22,23] 400 (T:=.ite (decide ((↑(canon x).length:Int)<(↑(canon y).length:Int))) (.side (inR .i64 ((↑(canon y).length:Int)+(1:Int))) (.side ((0:Int)≤0∧(0:Int)≤(↑(canon y).length:Int)+(1:Int)∧inR .i64 ((↑(canon y).length:Int)+(1:Int))∧Int.toNat ((↑(canon y).length:Int)+(1:Int))*4≤140737488355328) (.leaf (.loop (Prod.fst (lps K164 0)) (Prod.snd (lps K164 0)) [(1,.sl (canon x).length 1 (natG .u32 (canon x))),(5,.osl 0 1 0 0),(6,.int .u32 0),(21,.sl (canon y).length 1 (natG .u32 (canon y))),(22,.int .i64 (↑(canon y).length:Int)),(23,.int .i64 0)] [.arr 0 1 (x2 [.int .u32 0])])))) (.side (inR .i64 ((↑(canon x).length:Int)+(1:Int))) (.side ((0:Int)≤0∧(0:Int)≤(↑(canon x).length:Int)+(1:Int)∧inR .i64 ((↑(canon x).length:Int)+(1:Int))∧Int.toNat ((↑(canon x).length:Int)+(1:Int))*4≤140737488355328) (.leaf (.loop (Prod.fst (lps K164 0)) (Prod.snd (lps K164 0)) [(1,.sl (canon y).length 1 (natG .u32 (canon y))),(5,.osl 0 1 0 0),(6,.int .u32 0),(21,.sl (canon x).length 1 (natG .u32 (canon x))),(22,.int .i64 (↑(canon x).length:Int)),(23,.int .i64 0)] [.arr 0 1 (x2 [.int .u32 0])]))))) (by kernel_rfl) ?_
 simp only [Tree.holds,zd,inR,lo,hi]
 refine⟨fun h=> ?_,fun h=> ?_⟩
 ·have h:(canon x).length<(canon y).length:=by have:=of_decide_eq_true h; omega
  refine⟨by omega,fun _=>⟨⟨by omega,by omega,by omega,by omega⟩,fun _=> ?_⟩⟩
  rw [Nat.add_comm] at hq
  exact KD y x hy (by omega) hq _ _ ⟨by simp [SPl,magS,natS,zb],by simp [eqG],by kernel_rfl,Nat.zero_le _⟩
 ·have h:(canon y).length≤(canon x).length:=by have:=of_decide_eq_false h; omega
  refine⟨by omega,fun _=>⟨⟨by omega,by omega,by omega,by omega⟩,fun _=> ?_⟩⟩
  exact KD x y hx h hq _ _ ⟨by simp [SPl,magS,natS,zb],by simp [eqG],by kernel_rfl,Nat.zero_le _⟩
def zj0:Ctr:=ctrP false (fun p:Bool×Nat=>[.bool p.1,magS p.2]) (fun _=>True) (fun p r=>r=(p.1&&decide (0<p.2),p.2)) (fun _ (r:Bool×Nat)=>(numV r.1 r.2,[]))
theorem V3{x:Nat} : decide (0<((canon x).length:Int))=decide (0<x):=by
 by_cases h:x=0
 ·subst h; simp [canon]
 ·have h1:0<x:=Nat.pos_of_ne_zero h
  have h2:(canon x).length≠0:=fun h2=>h (xG.1 h2)
  rw [decide_eq_true (by omega),decide_eq_true h1]
theorem RetR.numV{ctr:Ctr}{Q:AV×Heap→Prop}{h:Heap}{b:Bool}{x:Nat}(hf:ctr.fresh=false)(hq:Q (numV b x,[])):RetR ctr 0 Q [.agg [.bool b,magS x]] h:=by
 refine RetR.out0 hq (fun h=>by rw [hf] at h; cases h) ?_
 simp [resV,exp2,exp1,exp0,ren0,frz1,eqA2,eqL1,eqA,eqL0,eqA0,Tryz.numV,magS,natS,zb]
theorem zgj:zf Tryz.prog 163 zj0:=by
 refine zi (fn:=Tryz.f163) (c:=Tryz.f163.body.getD .skip) rfl rfl rfl fun p hp O w0 Q hq=> ?_
 obtain⟨b,x⟩:=p
 replace hq:=hq _ rfl
 refine zc.run hmix zD [] 400 (T:=.leaf (.ret [.agg [.bool (bif b then decide ((0:Int)<(↑(canon x).length:Int)) else false),.sl (canon x).length 1 (natG .u32 (canon x))]] [.box [.bool (bif b then decide ((0:Int)<(↑(canon x).length:Int)) else false),.sl (canon x).length 1 (natG .u32 (canon x))]])) (by kernel_rfl) ?_
 simp only [Tree.holds,zd]
 rw [V3]
 have e:(bif b then decide (0<x) else false)=(b&&decide (0<x)):=by cases b<;>rfl
 rw [e]
 exact RetR.numV rfl hq
def sumC:Ctr:=ctrP false (fun p:(Bool×Nat)×(Bool×Nat)=>[numV p.1.1 p.1.2,numV p.2.1 p.2.2]) (fun p=>(canon p.1.2).length<100000∧(canon p.2.2).length<100000)
 (fun p r=>r=((sumS p.1.1 p.1.2 p.2.1 p.2.2).1&&decide (0<(sumS p.1.1 p.1.2 p.2.1 p.2.2).2),(sumS p.1.1 p.1.2 p.2.1 p.2.2).2)) (fun _ (r:Bool×Nat)=>(numV r.1 r.2,[]))
noncomputable def GSu:Nat→Option Ctr:=fun f=>if f=163 then some (zj0) else if f=164 then some (Ux) else if f=134 then some (y7) else if f=152 then some (WE) else none
theorem zjv:∀ g c,GSu g=some c→zf Tryz.prog g c:=okIf zgj (okIf YX (okIf xX (okIf Qy (zx))))
theorem zkm:zf Tryz.prog 157 sumC:=by
 refine zi (fn:=Tryz.f157) (c:=Tryz.f157.body.getD .skip) rfl rfl rfl fun p hp O w0 Q hq=> ?_
 obtain⟨⟨m,x⟩,⟨n,y⟩⟩:=p
 obtain⟨h1,h2⟩:=hp
 replace hq:=hq _ rfl
 simp only at h1 h2 hq
 refine zc.run hmix zjv [] 400 (T:=.ite (m == n) (.ex (fun(x_1:Nat×Nat)=>eqL [AV.sl (canon x).length 1 (natG .u32 (canon x)),AV.sl (canon y).length 1 (natG .u32 (canon y))] [AV.sl (canon x_1.1).length 1 (natG .u32 (canon x_1.1)),AV.sl (canon x_1.2).length 1 (natG .u32 (canon x_1.2))]∧List.length (canon x_1.1)<100000∧List.length (canon x_1.2)<100000) fun n_1=>.all (fun(d:Nat)=>d=n_1.1+n_1.2) fun n_2=>.ex (fun(x:Bool×Nat)=>eqL [AV.bool m,AV.sl (canon n_2).length 1 (natG .u32 (canon n_2))] [AV.bool x.1,AV.sl (canon x.2).length 1 (natG .u32 (canon x.2))]∧True) fun n_3=>.all (fun(r:Bool×Nat)=>r=(n_3.1&&decide (0<n_3.2),n_3.2)) fun n_4=>.leaf (.ret [.agg [.bool n_4.1,.sl (canon n_4.2).length 1 (natG .u32 (canon n_4.2))]] [.box [.bool m,.sl (canon x).length 1 (natG .u32 (canon x))],.box [.bool n,.sl (canon y).length 1 (natG .u32 (canon y))],.box [.bool n_4.1,.sl (canon n_4.2).length 1 (natG .u32 (canon n_4.2))]])) (.ex (fun(x_1:Nat×Nat)=>eqL [AV.sl (canon x).length 1 (natG .u32 (canon x)),AV.sl (canon y).length 1 (natG .u32 (canon y))] [AV.sl (canon x_1.1).length 1 (natG .u32 (canon x_1.1)),AV.sl (canon x_1.2).length 1 (natG .u32 (canon x_1.2))]∧fits x_1.1∧fits x_1.2) fun n_1=>.all (fun(r:Int)=>r=cmp3 n_1.1 n_1.2) fun n_2=>.ite (decide ((0:Int)≤n_2)) (.ex (fun(x_1:Nat×Nat)=>eqL [AV.sl (canon x).length 1 (natG .u32 (canon x)),AV.sl (canon y).length 1 (natG .u32 (canon y))] [AV.sl (canon x_1.1).length 1 (natG .u32 (canon x_1.1)),AV.sl (canon x_1.2).length 1 (natG .u32 (canon x_1.2))]∧fits x_1.1∧x_1.2≤x_1.1) fun n_3=>.all (fun(d:Nat)=>d=n_3.1 - n_3.2) fun n_4=>.ex (fun(x:Bool×Nat)=>eqL [AV.bool m,AV.sl (canon n_4).length 1 (natG .u32 (canon n_4))] [AV.bool x.1,AV.sl (canon x.2).length 1 (natG .u32 (canon x.2))]∧True) fun n_5=>.all (fun(r:Bool×Nat)=>r=(n_5.1&&decide (0<n_5.2),n_5.2)) fun n_6=>.leaf (.ret [.agg [.bool n_6.1,.sl (canon n_6.2).length 1 (natG .u32 (canon n_6.2))]] [.box [.bool m,.sl (canon x).length 1 (natG .u32 (canon x))],.box [.bool n,.sl (canon y).length 1 (natG .u32 (canon y))],.box [.bool n_6.1,.sl (canon n_6.2).length 1 (natG .u32 (canon n_6.2))]])) (.ex (fun(x_1:Nat×Nat)=>eqL [AV.sl (canon y).length 1 (natG .u32 (canon y)),AV.sl (canon x).length 1 (natG .u32 (canon x))] [AV.sl (canon x_1.1).length 1 (natG .u32 (canon x_1.1)),AV.sl (canon x_1.2).length 1 (natG .u32 (canon x_1.2))]∧fits x_1.1∧x_1.2≤x_1.1) fun n_3=>.all (fun(d:Nat)=>d=n_3.1 - n_3.2) fun n_4=>.ex (fun(x:Bool×Nat)=>eqL [AV.bool n,AV.sl (canon n_4).length 1 (natG .u32 (canon n_4))] [AV.bool x.1,AV.sl (canon x.2).length 1 (natG .u32 (canon x.2))]∧True) fun n_5=>.all (fun(r:Bool×Nat)=>r=(n_5.1&&decide (0<n_5.2),n_5.2)) fun n_6=>.leaf (.ret [.agg [.bool n_6.1,.sl (canon n_6.2).length 1 (natG .u32 (canon n_6.2))]] [.box [.bool m,.sl (canon x).length 1 (natG .u32 (canon x))],.box [.bool n,.sl (canon y).length 1 (natG .u32 (canon y))],.box [.bool n_6.1,.sl (canon n_6.2).length 1 (natG .u32 (canon n_6.2))]])))) (by kernel_rfl) ?_
 simp only [Tree.holds,zd]
 have eL:∀ a b:Nat,eqL [AV.sl (canon a).length 1 (natG .u32 (canon a)),AV.sl (canon b).length 1 (natG .u32 (canon b))] [AV.sl (canon a).length 1 (natG .u32 (canon a)),AV.sl (canon b).length 1 (natG .u32 (canon b))]:=fun a b=>⟨⟨rfl,rfl,zb _ _ _⟩,⟨rfl,rfl,zb _ _ _⟩,trivial⟩
 have eK:∀ (b:Bool) (a:Nat),eqL [AV.bool b,AV.sl (canon a).length 1 (natG .u32 (canon a))] [AV.bool b,AV.sl (canon a).length 1 (natG .u32 (canon a))]:=fun b a=>⟨rfl,⟨rfl,rfl,zb _ _ _⟩,trivial⟩
 have hcm:∀ v,v=cmp3 x y→(0≤v↔y≤x):=by
  rintro v rfl
  unfold cmp3
  split
  ·exact⟨fun h=>by omega,fun h=>by omega⟩
  ·split
   ·exact⟨fun h=>by omega,fun h=>by omega⟩
   ·exact⟨fun h=>by omega,fun h=>by omega⟩
 refine⟨fun h=> ?_,fun h=>⟨(x,y),⟨eL x y,by show(canon x).length<_; omega,by show(canon y).length<_; omega⟩,⟨_,rfl⟩,?_⟩⟩
 ·have h:m=n:=by simpa using h
  refine⟨(x,y),⟨eL x y,h1,h2⟩,⟨_,rfl⟩,?_⟩
  rintro _ rfl
  refine⟨(m,x+y),⟨eK m _,trivial⟩,⟨_,rfl⟩,?_⟩
  rintro _ rfl
  have e:sumS m x n y=(m,x+y):=if_pos h
  rw [e] at hq
  exact RetR.numV rfl hq
 ·have h:¬ m=n:=by simpa using h
  intro v hv
  have hv:=hcm v hv
  refine⟨fun g=> ?_,fun g=> ?_⟩
  ·have g:y≤x:=hv.1 (of_decide_eq_true g)
   refine⟨(x,y),⟨eL x y,by show(canon x).length<_; omega,g⟩,⟨_,rfl⟩,?_⟩
   rintro _ rfl
   refine⟨(m,x - y),⟨eK m _,trivial⟩,⟨_,rfl⟩,?_⟩
   rintro _ rfl
   have e:sumS m x n y=(m,x - y):=by rw [sumS,if_neg h,if_pos g]
   rw [e] at hq
   exact RetR.numV rfl hq
  ·have g:¬ y≤x:=fun h3=>of_decide_eq_false g (hv.2 h3)
   refine⟨(y,x),⟨eL y x,by show(canon y).length<_; omega,by show x≤y; omega⟩,⟨_,rfl⟩,?_⟩
   rintro _ rfl
   refine⟨(n,y - x),⟨eK n _,trivial⟩,⟨_,rfl⟩,?_⟩
   rintro _ rfl
   have e:sumS m x n y=(n,y - x):=by rw [sumS,if_neg h,if_neg g]
   rw [e] at hq
   exact RetR.numV rfl hq
theorem qq{x n:Nat}(h:x<B^n)(hn:n<100000):(canon x).length<100000:=by have:=z6 h; omega
theorem jt{s:List UInt8}(h:errI s=0):numI s<B^112:=jC.2 (yd h)
theorem zbx{x y:Nat}(hx:x<B^112)(hy:y<B^112):x+y<B^113∧x*y<B^224:=by
 constructor
 ·have:B^113=B^112*B:=Nat.pow_succ B 112
  have hB:B=1000000000:=rfl
  generalize B^112=p at *
  rw [this,hB]; omega
 ·have:B^224=B^112*B^112:=by rw [← Nat.pow_add]
  rw [this]
  exact Nat.mul_lt_mul_of_lt_of_lt hx hy
noncomputable def GAd:Nat→Option Ctr:=fun f=>if f=131 then some (Zh) else if f=157 then some (sumC) else if f=132 then some (Qn) else if f=133 then some (XE) else if f=134 then some (y7) else none
theorem Yh:∀ g c,GAd g=some c→zf Tryz.prog g c:=okIf WD (okIf zkm (okIf QG (okIf VM (okIf xX (zx)))))
def addC:Ctr:=ctrP true (fun p:List UInt8×List UInt8=>[.str p.1,.str p.2]) (fun p=>p.1.length<2^62∧p.2.length<2^62) (fun p r=>r=addI p.1 p.2) (fun _ r=>(.tup [.str r.1,.int .i64 r.2],[]))
def mulC:Ctr:=ctrP true (fun p:List UInt8×List UInt8=>[.str p.1,.str p.2]) (fun p=>p.1.length<2^62∧p.2.length<2^62) (fun p r=>r=mulI p.1 p.2) (fun _ r=>(.tup [.str r.1,.int .i64 r.2],[]))
def zi8:Ctr:=ctrP true (fun p:List UInt8×List UInt8=>[.str p.1,.str p.2]) (fun p=>p.1.length<2^62∧p.2.length<2^62) (fun p r=>r=Zi p.1 p.2) (fun _ r=>(.tup [.int .i64 r.1,.int .i64 r.2],[]))
theorem zk5:zf Tryz.prog 143 addC:=by
 refine zi (fn:=Tryz.f143) (c:=Tryz.f143.body.getD .skip) rfl rfl rfl fun p hp O w0 Q hq=> ?_
 obtain⟨s,t⟩:=p
 obtain⟨hs,ht⟩:=hp
 replace hq:=hq _ rfl
 simp only at hs ht hq
 refine zc.run hmix Yh [] 400 (T:=.ex (fun(x:List UInt8×List UInt8)=>eqL [AV.str s,AV.str t] [AV.str x.1,AV.str x.2]∧x.1.length<4611686018427387904∧x.2.length<4611686018427387904) fun n=>.all (fun(r:Int×(Bool×Nat)×Bool×Nat)=>r=if z8 n.1 n.2=0 then((0:Int),(negI n.1,numI n.1),negI n.2,numI n.2) else(z8 n.1 n.2,(false,0),false,0)) fun n=>.ite (!decide (n.1=0)) (.leaf (.ret [.str #[].toList,.int .i64 n.1] [.box [.bool n.2.1.1,.sl (canon n.2.1.2).length 1 (natG .u32 (canon n.2.1.2))],.box [.bool n.2.2.1,.sl (canon n.2.2.2).length 1 (natG .u32 (canon n.2.2.2))]])) (.ex (fun(x:(Bool×Nat)×Bool×Nat)=>eqL [AV.agg [AV.bool n.2.1.1,AV.sl (canon n.2.1.2).length 1 (natG .u32 (canon n.2.1.2))],AV.agg [AV.bool n.2.2.1,AV.sl (canon n.2.2.2).length 1 (natG .u32 (canon n.2.2.2))]] [AV.agg [AV.bool x.1.1,AV.sl (canon x.1.2).length 1 (natG .u32 (canon x.1.2))],AV.agg [AV.bool x.2.1,AV.sl (canon x.2.2).length 1 (natG .u32 (canon x.2.2))]]∧List.length (canon x.1.2)<100000∧List.length (canon x.2.2)<100000) fun n_1=>.all (fun(r:Bool×Nat)=>r=(Prod.fst (sumS n_1.1.1 n_1.1.2 n_1.2.1 n_1.2.2)&&decide (0<Prod.snd (sumS n_1.1.1 n_1.1.2 n_1.2.1 n_1.2.2)),Prod.snd (sumS n_1.1.1 n_1.1.2 n_1.2.1 n_1.2.2))) fun n_2=>.ex (fun(x:Bool×Nat)=>eqL [AV.agg [AV.bool n_2.1,AV.sl (canon n_2.2).length 1 (natG .u32 (canon n_2.2))]] [AV.agg [AV.bool x.1,AV.sl (canon x.2).length 1 (natG .u32 (canon x.2))]]∧List.length (canon x.2)<1000000) fun n_3=>.all (fun(r:List UInt8×Int)=>r=wr n_3.1 n_3.2) fun n_4=>.leaf (.ret [.str n_4.1,.int .i64 n_4.2] [.box [.bool n.2.1.1,.sl (canon n.2.1.2).length 1 (natG .u32 (canon n.2.1.2))],.box [.bool n.2.2.1,.sl (canon n.2.2.2).length 1 (natG .u32 (canon n.2.2.2))]]))) (by kernel_rfl) ?_
 simp only [Tree.holds,zd]
 refine⟨(s,t),⟨by simp,by omega,by omega⟩,⟨_,rfl⟩,?_⟩
 rintro _ rfl
 simp only
 by_cases he:z8 s t=0
 ·obtain⟨e1,e2⟩:=zq.1 he
  obtain⟨b1,b2⟩:=zbx (jt e1) (jt e2)
  have c1:=qq (jt e1) (by decide)
  have c2:=qq (jt e2) (by decide)
  simp only [if_pos he]
  refine⟨fun h=>(by simp at h),fun _=> ?_⟩
  refine⟨((negI s,numI s),(negI t,numI t)),⟨⟨⟨rfl,⟨rfl,rfl,zb _ _ _⟩,trivial⟩,⟨rfl,⟨rfl,rfl,zb _ _ _⟩,trivial⟩,trivial⟩,c1,c2⟩,⟨_,rfl⟩,?_⟩
  rintro _ rfl
  refine⟨((sumS (negI s) (numI s) (negI t) (numI t)).1&&decide (0<(sumS (negI s) (numI s) (negI t) (numI t)).2),(sumS (negI s) (numI s) (negI t) (numI t)).2),⟨⟨⟨rfl,⟨rfl,rfl,zb _ _ _⟩,trivial⟩,trivial⟩,?_⟩,⟨_,rfl⟩,?_⟩
  ·have:=qq (Nat.lt_of_le_of_lt (zgn (negI s) (numI s) (negI t) (numI t)) b1) (by decide)
   show(canon (sumS (negI s) (numI s) (negI t) (numI t)).2).length<1000000
   omega
  rintro _ rfl
  rw [zgs]
  have e:addI s t=wr (sumS (negI s) (numI s) (negI t) (numI t)).1 (sumS (negI s) (numI s) (negI t) (numI t)).2:=if_pos he
  rw [e] at hq
  exact RetR.scal hq rfl (by simp [resV])
 ·simp only [if_neg he]
  refine⟨fun _=> ?_,fun h=>(by simp [he] at h)⟩
  have e:addI s t=([],z8 s t):=if_neg he
  rw [e] at hq
  exact RetR.scal hq rfl (by simp [resV])
theorem zjo:zf Tryz.prog 92 mulC:=by
 refine zi (fn:=Tryz.f92) (c:=Tryz.f92.body.getD .skip) rfl rfl rfl fun p hp O w0 Q hq=> ?_
 obtain⟨s,t⟩:=p
 obtain⟨hs,ht⟩:=hp
 replace hq:=hq _ rfl
 simp only at hs ht hq
 refine zc.run hmix Yh [] 400 (T:=.ex (fun(x:List UInt8×List UInt8)=>eqL [AV.str s,AV.str t] [AV.str x.1,AV.str x.2]∧x.1.length<4611686018427387904∧x.2.length<4611686018427387904) fun n=>.all (fun(r:Int×(Bool×Nat)×Bool×Nat)=>r=if z8 n.1 n.2=0 then((0:Int),(negI n.1,numI n.1),negI n.2,numI n.2) else(z8 n.1 n.2,(false,0),false,0)) fun n=>.ite (!decide (n.1=0)) (.leaf (.ret [.str #[].toList,.int .i64 n.1] [.box [.bool n.2.1.1,.sl (canon n.2.1.2).length 1 (natG .u32 (canon n.2.1.2))],.box [.bool n.2.2.1,.sl (canon n.2.2.2).length 1 (natG .u32 (canon n.2.2.2))]])) (.ex (fun(x:Nat×Nat)=>eqL [AV.sl (canon n.2.1.2).length 1 (natG .u32 (canon n.2.1.2)),AV.sl (canon n.2.2.2).length 1 (natG .u32 (canon n.2.2.2))] [AV.sl (canon x.1).length 1 (natG .u32 (canon x.1)),AV.sl (canon x.2).length 1 (natG .u32 (canon x.2))]∧fits x.1∧fits x.2) fun n_1=>.all (fun(p:Nat)=>p=n_1.1*n_1.2) fun n_2=>.ex (fun(x:Bool×Nat)=>eqL [AV.agg [AV.bool !Prod.fst n.2.1 == n.2.2.1,AV.sl (canon n_2).length 1 (zg (natG .u32 (padN (List.length (canon n_1.1)+List.length (canon n_1.2)) n_2)) 0)]] [AV.agg [AV.bool x.1,AV.sl (canon x.2).length 1 (natG .u32 (canon x.2))]]∧List.length (canon x.2)<1000000) fun n_3=>.all (fun(r:List UInt8×Int)=>r=wr n_3.1 n_3.2) fun n_4=>.leaf (.ret [.str n_4.1,.int .i64 n_4.2] [.box [.bool n.2.1.1,.sl (canon n.2.1.2).length 1 (natG .u32 (canon n.2.1.2))],.box [.bool n.2.2.1,.sl (canon n.2.2.2).length 1 (natG .u32 (canon n.2.2.2))],.arr (List.length (canon n_1.1)+List.length (canon n_1.2)) 1 (natG .u32 (padN (List.length (canon n_1.1)+List.length (canon n_1.2)) n_2))]))) (by kernel_rfl) ?_
 simp only [Tree.holds,zd]
 refine⟨(s,t),⟨by simp,by omega,by omega⟩,⟨_,rfl⟩,?_⟩
 rintro _ rfl
 simp only
 by_cases he:z8 s t=0
 ·obtain⟨e1,e2⟩:=zq.1 he
  obtain⟨b1,b2⟩:=zbx (jt e1) (jt e2)
  have c1:=qq (jt e1) (by decide)
  have c2:=qq (jt e2) (by decide)
  simp only [if_pos he]
  refine⟨fun h=>(by simp at h),fun _=> ?_⟩
  refine⟨(numI s,numI t),⟨⟨⟨rfl,rfl,zb _ _ _⟩,⟨rfl,rfl,zb _ _ _⟩,trivial⟩,by show(canon (numI s)).length<1000000; omega,by show(canon (numI t)).length<1000000; omega⟩,⟨_,rfl⟩,?_⟩
  rintro _ rfl
  refine⟨(negI s != negI t,numI s*numI t),⟨⟨⟨rfl,⟨rfl,rfl,fun j o hj ho=>by simp only [zg,natG,Nat.zero_add,padN,yf hj]⟩,trivial⟩,trivial⟩,?_⟩,⟨_,rfl⟩,?_⟩
  ·have:=qq b2 (by decide)
   show(canon (numI s*numI t)).length<1000000
   omega
  rintro _ rfl
  have e:mulI s t=wr (negI s != negI t) (numI s*numI t):=if_pos he
  rw [e] at hq
  exact RetR.scal hq rfl (by simp [resV])
 ·simp only [if_neg he]
  refine⟨fun _=> ?_,fun h=>(by simp [he] at h)⟩
  have e:mulI s t=([],z8 s t):=if_neg he
  rw [e] at hq
  exact RetR.scal hq rfl (by simp [resV])
theorem zhu:zf Tryz.prog 93 zi8:=by
 refine zi (fn:=Tryz.f93) (c:=Tryz.f93.body.getD .skip) rfl rfl rfl fun p hp O w0 Q hq=> ?_
 obtain⟨s,t⟩:=p
 obtain⟨hs,ht⟩:=hp
 replace hq:=hq _ rfl
 simp only at hs ht hq
 refine zc.run hmix Yh [] 400 (T:=.ex (fun(x:List UInt8×List UInt8)=>eqL [AV.str s,AV.str t] [AV.str x.1,AV.str x.2]∧x.1.length<4611686018427387904∧x.2.length<4611686018427387904) fun n=>.all (fun(r:Int×(Bool×Nat)×Bool×Nat)=>r=if z8 n.1 n.2=0 then((0:Int),(negI n.1,numI n.1),negI n.2,numI n.2) else(z8 n.1 n.2,(false,0),false,0)) fun n=>.ite (!decide (n.1=0)) (.leaf (.ret [.int .i64 0,.int .i64 n.1] [.box [.bool n.2.1.1,.sl (canon n.2.1.2).length 1 (natG .u32 (canon n.2.1.2))],.box [.bool n.2.2.1,.sl (canon n.2.2.2).length 1 (natG .u32 (canon n.2.2.2))]])) (.ite (bif n.2.1.1 then !Prod.fst n.2.2 else false) (.leaf (.ret [.int .i64 (-1:Int),.int .i64 0] [.box [.bool n.2.1.1,.sl (canon n.2.1.2).length 1 (natG .u32 (canon n.2.1.2))],.box [.bool n.2.2.1,.sl (canon n.2.2.2).length 1 (natG .u32 (canon n.2.2.2))]])) (.ite (bif n.2.2.1 then !Prod.fst n.2.1 else false) (.leaf (.ret [.int .i64 1,.int .i64 0] [.box [.bool n.2.1.1,.sl (canon n.2.1.2).length 1 (natG .u32 (canon n.2.1.2))],.box [.bool n.2.2.1,.sl (canon n.2.2.2).length 1 (natG .u32 (canon n.2.2.2))]])) (.ite n.2.1.1 (.ex (fun(x:Nat×Nat)=>eqL [AV.sl (canon n.2.2.2).length 1 (natG .u32 (canon n.2.2.2)),AV.sl (canon n.2.1.2).length 1 (natG .u32 (canon n.2.1.2))] [AV.sl (canon x.1).length 1 (natG .u32 (canon x.1)),AV.sl (canon x.2).length 1 (natG .u32 (canon x.2))]∧fits x.1∧fits x.2) fun n_1=>.all (fun(r:Int)=>r=cmp3 n_1.1 n_1.2) fun n_2=>.leaf (.ret [.int .i64 n_2,.int .i64 0] [.box [.bool n.2.1.1,.sl (canon n.2.1.2).length 1 (natG .u32 (canon n.2.1.2))],.box [.bool n.2.2.1,.sl (canon n.2.2.2).length 1 (natG .u32 (canon n.2.2.2))]])) (.ex (fun(x:Nat×Nat)=>eqL [AV.sl (canon n.2.1.2).length 1 (natG .u32 (canon n.2.1.2)),AV.sl (canon n.2.2.2).length 1 (natG .u32 (canon n.2.2.2))] [AV.sl (canon x.1).length 1 (natG .u32 (canon x.1)),AV.sl (canon x.2).length 1 (natG .u32 (canon x.2))]∧fits x.1∧fits x.2) fun n_1=>.all (fun(r:Int)=>r=cmp3 n_1.1 n_1.2) fun n_2=>.leaf (.ret [.int .i64 n_2,.int .i64 0] [.box [.bool n.2.1.1,.sl (canon n.2.1.2).length 1 (natG .u32 (canon n.2.1.2))],.box [.bool n.2.2.1,.sl (canon n.2.2.2).length 1 (natG .u32 (canon n.2.2.2))]])))))) (by kernel_rfl) ?_
 simp only [Tree.holds,zd]
 refine⟨(s,t),⟨by simp,by omega,by omega⟩,⟨_,rfl⟩,?_⟩
 rintro _ rfl
 simp only
 by_cases he:z8 s t=0
 ·obtain⟨e1,e2⟩:=zq.1 he
  obtain⟨b1,b2⟩:=zbx (jt e1) (jt e2)
  have c1:=qq (jt e1) (by decide)
  have c2:=qq (jt e2) (by decide)
  simp only [if_pos he]
  refine⟨fun h=>(by simp at h),fun _=> ?_⟩
  have e:Zi s t=(cmpZ (negI s) (numI s) (negI t) (numI t),0):=if_pos he
  rw [e] at hq
  have ec:∀ a b:Nat,cmp3 a b=cmpN a b:=fun _ _=>rfl
  simp only [cmpZ] at hq
  have f1:fits (numI s):=by show(canon (numI s)).length<1000000; omega
  have f2:fits (numI t):=by show(canon (numI t)).length<1000000; omega
  refine⟨fun h=> ?_,fun h1=>⟨fun h=> ?_,fun h2=>⟨fun h=>⟨(numI t,numI s),⟨⟨⟨rfl,rfl,zb _ _ _⟩,⟨rfl,rfl,zb _ _ _⟩,trivial⟩,f2,f1⟩,⟨_,rfl⟩,?_⟩,fun h=>⟨(numI s,numI t),⟨⟨⟨rfl,rfl,zb _ _ _⟩,⟨rfl,rfl,zb _ _ _⟩,trivial⟩,f1,f2⟩,⟨_,rfl⟩,?_⟩⟩⟩⟩
  ·cases hm:negI s<;>cases hn:negI t<;>rw [hm,hn] at h hq<;>first | (cases h; done) | exact RetR.scal hq rfl (by simp [resV])
  ·cases hm:negI s<;>cases hn:negI t<;>rw [hm,hn] at h h1 hq<;>first | (cases h; done) | (cases h1; done) | exact RetR.scal hq rfl (by simp [resV])
  ·rintro _ rfl
   rw [ec]
   cases hm:negI s<;>cases hn:negI t<;>rw [hm,hn] at h1 h2 hq<;>rw [hm] at h<;>first | (cases h; done) | (cases h1; done) | (cases h2; done) | exact RetR.scal hq rfl (by simp [resV])
  ·rintro _ rfl
   rw [ec]
   cases hm:negI s<;>cases hn:negI t<;>rw [hm,hn] at h1 h2 hq<;>rw [hm] at h<;>first | (cases h; done) | (cases h1; done) | (cases h2; done) | exact RetR.scal hq rfl (by simp [resV])
 ·simp only [if_neg he]
  refine⟨fun _=> ?_,fun h=>(by simp [he] at h)⟩
  have e:Zi s t=(0,z8 s t):=if_neg he
  rw [e] at hq
  exact RetR.scal hq rfl (by simp [resV])
def dmC:Ctr:=ctrP true (fun p:List UInt8×List UInt8=>[.str p.1,.str p.2]) (fun p=>p.1.length<2^62∧p.2.length<2^62) (fun p r=>r=dmI p.1 p.2) (fun _ r=>(.tup [.str r.1,.str r.2.1,.int .i64 r.2.2],[]))
noncomputable def GDm:Nat→Option Ctr:=fun f=>if f=131 then some (Zh) else if f=137 then some (yE) else if f=164 then some (Ux) else if f=152 then some (WE) else if f=132 then some (Qn) else none
theorem zjw:∀ g c,GDm g=some c→zf Tryz.prog g c:=okIf WD (okIf JG (okIf YX (okIf Qy (okIf QG (zx)))))
theorem zaw:zf Tryz.prog 162 dmC:=by
 refine zi (fn:=Tryz.f162) (c:=Tryz.f162.body.getD .skip) rfl rfl rfl fun p hp O w0 Q hq=> ?_
 obtain⟨s,t⟩:=p
 obtain⟨hs,ht⟩:=hp
 replace hq:=hq _ rfl
 simp only at hs ht hq
 refine zc.run hmix zjw [] 400 (T:=.ex (fun(x:List UInt8×List UInt8)=>eqL [AV.str s,AV.str t] [AV.str x.1,AV.str x.2]∧x.1.length<4611686018427387904∧x.2.length<4611686018427387904) fun n=>.all (fun(r:Int×(Bool×Nat)×Bool×Nat)=>r=if z8 n.1 n.2=0 then((0:Int),(negI n.1,numI n.1),negI n.2,numI n.2) else(z8 n.1 n.2,(false,0),false,0)) fun n=>.ite (!decide (n.1=0)) (.leaf (.ret [.str #[].toList,.str #[].toList,.int .i64 n.1] [.box [.bool n.2.1.1,.sl (canon n.2.1.2).length 1 (natG .u32 (canon n.2.1.2))],.box [.bool n.2.2.1,.sl (canon n.2.2.2).length 1 (natG .u32 (canon n.2.2.2))]])) (.ite (decide ((↑(canon n.2.2.2).length:Int)=0)) (.leaf (.ret [.str #[].toList,.str #[].toList,.int .i64 16] [.box [.bool n.2.1.1,.sl (canon n.2.1.2).length 1 (natG .u32 (canon n.2.1.2))],.box [.bool n.2.2.1,.sl (canon n.2.2.2).length 1 (natG .u32 (canon n.2.2.2))]])) (.ex (fun(x:Nat×Nat)=>eqL [AV.sl (canon n.2.1.2).length 1 (natG .u32 (canon n.2.1.2)),AV.sl (canon n.2.2.2).length 1 (natG .u32 (canon n.2.2.2))] [AV.sl (canon x.1).length 1 (natG .u32 (canon x.1)),AV.sl (canon x.2).length 1 (natG .u32 (canon x.2))]∧List.length (canon x.1)<100000∧List.length (canon x.2)<100000∧0<x.2) fun n_1=>.all (fun(r:Nat×Nat)=>r=(n_1.1/n_1.2,n_1.1%n_1.2)) fun n_2=>.ite (bif n.2.1.1 then decide ((0:Int)<(↑(canon n_2.2).length:Int)) else false) (.ex (fun(x:Nat×Nat)=>eqL [AV.sl (canon n_2.1).length 1 (natG .u32 (canon n_2.1)),AV.sl 1 1 (zg (zh 1 [AV.int .u32 1]) 0)] [AV.sl (canon x.1).length 1 (natG .u32 (canon x.1)),AV.sl (canon x.2).length 1 (natG .u32 (canon x.2))]∧List.length (canon x.1)<100000∧List.length (canon x.2)<100000) fun n_3=>.all (fun(d:Nat)=>d=n_3.1+n_3.2) fun n_4=>.ex (fun(x:Nat×Nat)=>eqL [AV.sl (canon n.2.2.2).length 1 (natG .u32 (canon n.2.2.2)),AV.sl (canon n_2.2).length 1 (natG .u32 (canon n_2.2))] [AV.sl (canon x.1).length 1 (natG .u32 (canon x.1)),AV.sl (canon x.2).length 1 (natG .u32 (canon x.2))]∧fits x.1∧x.2≤x.1) fun n_5=>.all (fun(d:Nat)=>d=n_5.1 - n_5.2) fun n_6=>.ex (fun(x:Bool×Nat)=>eqL [AV.agg [AV.bool !Prod.fst n.2.1 == n.2.2.1,AV.sl (canon n_4).length 1 (natG .u32 (canon n_4))]] [AV.agg [AV.bool x.1,AV.sl (canon x.2).length 1 (natG .u32 (canon x.2))]]∧List.length (canon x.2)<1000000) fun n_7=>.all (fun(r:List UInt8×Int)=>r=wr n_7.1 n_7.2) fun n_8=>.ite (!decide (n_8.2=0)) (.leaf (.ret [.str #[].toList,.str #[].toList,.int .i64 n_8.2] [.box [.bool n.2.1.1,.sl (canon n.2.1.2).length 1 (natG .u32 (canon n.2.1.2))],.box [.bool n.2.2.1,.sl (canon n.2.2.2).length 1 (natG .u32 (canon n.2.2.2))],.arr 1 1 (zh 1 [.int .u32 1])])) (.ex (fun(x:Bool×Nat)=>eqL [AV.agg [AV.bool false,AV.sl (canon n_6).length 1 (natG .u32 (canon n_6))]] [AV.agg [AV.bool x.1,AV.sl (canon x.2).length 1 (natG .u32 (canon x.2))]]∧List.length (canon x.2)<1000000) fun n_9=>.all (fun(r:List UInt8×Int)=>r=wr n_9.1 n_9.2) fun n_10=>.leaf (.ret [.str n_8.1,.str n_10.1,.int .i64 0] [.box [.bool n.2.1.1,.sl (canon n.2.1.2).length 1 (natG .u32 (canon n.2.1.2))],.box [.bool n.2.2.1,.sl (canon n.2.2.2).length 1 (natG .u32 (canon n.2.2.2))],.arr 1 1 (zh 1 [.int .u32 1])]))) (.ex (fun(x:Bool×Nat)=>eqL [AV.agg [AV.bool !Prod.fst n.2.1 == n.2.2.1,AV.sl (canon n_2.1).length 1 (natG .u32 (canon n_2.1))]] [AV.agg [AV.bool x.1,AV.sl (canon x.2).length 1 (natG .u32 (canon x.2))]]∧List.length (canon x.2)<1000000) fun n_3=>.all (fun(r:List UInt8×Int)=>r=wr n_3.1 n_3.2) fun n_4=>.ite (!decide (n_4.2=0)) (.leaf (.ret [.str #[].toList,.str #[].toList,.int .i64 n_4.2] [.box [.bool n.2.1.1,.sl (canon n.2.1.2).length 1 (natG .u32 (canon n.2.1.2))],.box [.bool n.2.2.1,.sl (canon n.2.2.2).length 1 (natG .u32 (canon n.2.2.2))]])) (.ex (fun(x:Bool×Nat)=>eqL [AV.agg [AV.bool false,AV.sl (canon n_2.2).length 1 (natG .u32 (canon n_2.2))]] [AV.agg [AV.bool x.1,AV.sl (canon x.2).length 1 (natG .u32 (canon x.2))]]∧List.length (canon x.2)<1000000) fun n_5=>.all (fun(r:List UInt8×Int)=>r=wr n_5.1 n_5.2) fun n_6=>.leaf (.ret [.str n_4.1,.str n_6.1,.int .i64 0] [.box [.bool n.2.1.1,.sl (canon n.2.1.2).length 1 (natG .u32 (canon n.2.1.2))],.box [.bool n.2.2.1,.sl (canon n.2.2.2).length 1 (natG .u32 (canon n.2.2.2))]])))))) (by kernel_rfl) ?_
 simp only [Tree.holds,zd]
 refine⟨(s,t),⟨by simp,by omega,by omega⟩,⟨_,rfl⟩,?_⟩
 rintro _ rfl
 simp only
 by_cases he:z8 s t=0
 ·obtain⟨e1,e2⟩:=zq.1 he
  have c1:=qq (jt e1) (by decide)
  have c2:=qq (jt e2) (by decide)
  simp only [if_pos he]
  refine⟨fun h=>(by simp at h),fun _=> ?_⟩
  refine⟨fun h0=> ?_,fun h0=> ?_⟩
  ·have h0:numI t=0:=xG.1 (by have:=of_decide_eq_true h0; omega)
   have e:dmI s t=([],[],16):=by rw [dmI,if_neg (by rw [he]; decide),if_pos h0]
   rw [e] at hq
   exact RetR.scal hq rfl (by simp [resV])
  have h0:numI t≠0:=fun h=>of_decide_eq_false h0 (by rw [xG.2 h]; rfl)
  have e:dmI s t=((wr (negI s != negI t) (dmQ s t)).1,(wr false (dmM s t)).1,0):=by rw [dmI,if_neg (by rw [he]; decide),if_neg h0]
  rw [e] at hq
  have rq:=zd5 e1 h0
  have rm:=zf0 (s:=s) e2 h0
  have eL:∀ a b:Nat,eqL [AV.sl (canon a).length 1 (natG .u32 (canon a)),AV.sl (canon b).length 1 (natG .u32 (canon b))] [AV.sl (canon a).length 1 (natG .u32 (canon a)),AV.sl (canon b).length 1 (natG .u32 (canon b))]:=fun a b=>⟨⟨rfl,rfl,zb _ _ _⟩,⟨rfl,rfl,zb _ _ _⟩,trivial⟩
  have eV:∀ (b:Bool) (a:Nat),eqL [.agg [AV.bool b,AV.sl (canon a).length 1 (natG .u32 (canon a))]] [.agg [AV.bool b,AV.sl (canon a).length 1 (natG .u32 (canon a))]]:=fun b a=>⟨⟨rfl,⟨rfl,rfl,zb _ _ _⟩,trivial⟩,trivial⟩
  have big:∀ {a:Nat},room a→(canon a).length<1000000:=fun {a} h=>by
   obtain⟨h3,h4,_⟩:=Qx (vX (neg:=false) h)
   have:=qq (jt h3) (by decide)
   rw [h4] at this; omega
  refine⟨(numI s,numI t),⟨eL _ _,c1,c2,Nat.pos_of_ne_zero h0⟩,⟨_,rfl⟩,?_⟩
  rintro _ rfl
  simp only
  rw [V3]
  have hmod:=Nat.mod_lt (numI s) (Nat.pos_of_ne_zero h0)
  refine⟨fun hc=> ?_,fun hc=> ?_⟩
  ·have hc:negI s=true∧0<numI s%numI t:=by
    cases hn:negI s with
    | false=>rw [hn] at hc; cases hc
    | true=>rw [hn] at hc; exact⟨rfl,of_decide_eq_true hc⟩
   have eQ:dmQ s t=numI s/numI t+1:=if_pos hc
   have eM:dmM s t=numI t - numI s%numI t:=if_pos hc
   rw [eQ,eM] at hq
   rw [eQ] at rq
   rw [eM] at rm
   have hone:canon 1=[1]:=by
    rw [qP (by decide)]
    exact congrArg (1 :: ·) zL
   have rdiv:=room_le (Nat.div_le_self (numI s) (numI t)) (jw e1)
   have hdl:(canon (numI s/numI t)).length<100000:=by
    have:=qq (Nat.lt_of_le_of_lt (Nat.div_le_self (numI s) (numI t)) (jt e1)) (by decide)
    exact this
   refine⟨(numI s/numI t,1),⟨⟨⟨rfl,rfl,zb _ _ _⟩,⟨by rw [hone]; rfl,rfl,?_⟩,trivial⟩,hdl,by show(canon 1).length<100000; rw [hone]; decide⟩,⟨_,rfl⟩,?_⟩
   ·intro j o hj ho
    have:j=0:=by omega
    subst this
    have:o=0:=by omega
    subst this
    show AV.int .u32 1 = .int .u32 (((canon 1).getD 0 0:Nat):Int)
    rw [hone]; rfl
   rintro _ rfl
   refine⟨(numI t,numI s%numI t),⟨eL _ _,by show(canon (numI t)).length<1000000; omega,by show numI s%numI t≤numI t; omega⟩,⟨_,rfl⟩,?_⟩
   rintro _ rfl
   refine⟨(negI s != negI t,numI s/numI t+1),⟨eV _ _,big rq⟩,⟨_,rfl⟩,?_⟩
   rintro _ rfl
   have hz:=vX (neg:=(negI s != negI t)) rq
   refine⟨fun h=>by simp [hz] at h,fun _=>⟨(false,numI t - numI s%numI t),⟨eV _ _,big rm⟩,⟨_,rfl⟩,?_⟩⟩
   rintro _ rfl
   exact RetR.scal hq rfl (by simp [resV])
  ·have hc:¬ (negI s=true∧0<numI s%numI t):=by
    rintro⟨g1,g2⟩
    rw [g1,decide_eq_true g2] at hc
    cases hc
   have eQ:dmQ s t=numI s/numI t:=if_neg hc
   have eM:dmM s t=numI s%numI t:=if_neg hc
   rw [eQ,eM] at hq
   rw [eQ] at rq
   rw [eM] at rm
   refine⟨(negI s != negI t,numI s/numI t),⟨eV _ _,big rq⟩,⟨_,rfl⟩,?_⟩
   rintro _ rfl
   have hz:=vX (neg:=(negI s != negI t)) rq
   refine⟨fun h=>by simp [hz] at h,fun _=>⟨(false,numI s%numI t),⟨eV _ _,big rm⟩,⟨_,rfl⟩,?_⟩⟩
   rintro _ rfl
   exact RetR.scal hq rfl (by simp [resV])
 ·simp only [if_neg he]
  refine⟨fun _=> ?_,fun h=>(by simp [he] at h)⟩
  have e:dmI s t=([],[],z8 s t):=if_pos he
  rw [e] at hq
  exact RetR.scal hq rfl (by simp [resV])
def zc5:Ctr:=ctrP true (fun s:List UInt8=>[.str s]) (fun s=>s.length<2^62) (fun s r=>r=if errR s=0 then(numR s,denR s,0) else([],[],errR s)) (fun _ (r:List UInt8×List UInt8×Int)=>(.tup [.str r.1,.str r.2.1,.int .i64 r.2.2],[]))
noncomputable def GPa:Nat→Option Ctr:=fun f=>if f=50 then some (yy) else if f=96 then some (X7) else none
theorem zk0:∀ g c,GPa g=some c→zf Tryz.prog g c:=okIf xE (okIf VK (zx))
theorem ze7:zf Tryz.prog 129 zc5:=by
 refine zi (fn:=Tryz.f129) (c:=Tryz.f129.body.getD .skip) rfl rfl rfl fun s hs O w0 Q hq=> ?_
 replace hq:=hq _ rfl
 refine zc.run hmix zk0 [] 400 (T:=.ex (fun(x:List UInt8)=>eqL [AV.str s] [AV.str x]∧x.length<4611686018427387904) fun n=>.all (fun(r:Int)=>r=errR n) fun n=>.ite (!decide (n=0)) (.leaf (.ret [.str #[].toList,.str #[].toList,.int .i64 n] [])) (.ex (fun(x:List UInt8)=>eqL [AV.str s] [AV.str x]∧x.length<4611686018427387904) fun n=>.all (fun(r:List UInt8×List UInt8×Bool)=>r=cutR n) fun n=>.ite (!Prod.snd n.2) (.leaf (.ret [.str n.1,.str #[(49:UInt8)].toList,.int .i64 0] [])) (.leaf (.ret [.str n.1,.str n.2.1,.int .i64 0] [])))) (by kernel_rfl) ?_
 simp only [Tree.holds,zd]
 refine⟨s,⟨by simp,hs⟩,⟨_,rfl⟩,?_⟩
 rintro _ rfl
 refine⟨fun h=> ?_,fun h=>⟨s,⟨by simp,hs⟩,⟨_,rfl⟩,?_⟩⟩
 ·have h:errR s≠0:=by simpa using h
  rw [if_neg h] at hq
  exact RetR.scal hq rfl (by simp [resV])
 ·have h:errR s=0:=by simpa using h
  rw [if_pos h] at hq
  rintro _ rfl
  refine⟨fun g=> ?_,fun g=> ?_⟩
  ·have e:denR s=[49]:=by unfold denR; rw [if_neg (by simpa using g)]
   rw [e] at hq
   exact RetR.scal hq rfl (by simp [resV,numR])
  ·have e:denR s=(cutR s).2.1:=by unfold denR; rw [if_pos (by simpa using g)]
   rw [e] at hq
   exact RetR.scal hq rfl (by simp [resV,numR])
def Uy:Ctr:=ctrP true (fun p:List UInt8×List UInt8=>[.str p.1,.str p.2]) (fun p=>p.1.length<2^62∧p.2.length<2^62) (fun p r=>r=jZ p.1 p.2) (fun _ r=>(.tup [.str r.1,.int .i64 r.2],[]))
noncomputable def GMk:Nat→Option Ctr:=fun f=>if f=99 then some (gcdC) else if f=162 then some (dmC) else none
theorem zkh:∀ g c,GMk g=some c→zf Tryz.prog g c:=okIf zdk (okIf zaw (zx))
theorem zg3:zf Tryz.prog 156 Uy:=by
 refine zi (fn:=Tryz.f156) (c:=Tryz.f156.body.getD .skip) rfl rfl rfl fun p hp O w0 Q hq=> ?_
 obtain⟨s,t⟩:=p
 obtain⟨hs,ht⟩:=hp
 replace hq:=hq _ rfl
 simp only at hs ht hq
 refine zc.run hmix zkh [] 400 (T:=.ex (fun(x:List UInt8×List UInt8)=>eqL [AV.str s,AV.str t] [AV.str x.1,AV.str x.2]∧x.1.length<4611686018427387904∧x.2.length<4611686018427387904) fun n=>.all (fun(r:List UInt8×Int)=>r=gcdR n.1 n.2) fun n=>.ite (!decide (n.2=0)) (.leaf (.ret [.str #[].toList,.int .i64 n.2] [])) (.ite (decide (t=#[(48:UInt8)].toList)) (.leaf (.ret [.str #[].toList,.int .i64 16] [])) (.side ((0:Int)≤0∧(0:Int)<t.length) (.ite (decide ((↑(UInt8.toNat (t.getD 0 (0:UInt8))):Int)=45)) (.side (1+n.1.length≤9223372036854775807) (.ex (fun(x:List UInt8×List UInt8)=>eqL [AV.str s,AV.str (#[(45:UInt8)].toList++n.1)] [AV.str x.1,AV.str x.2]∧x.1.length<4611686018427387904∧x.2.length<4611686018427387904) fun n_1=>.all (fun(r:List UInt8×List UInt8×Int)=>r=dmI n_1.1 n_1.2) fun n_2=>.ex (fun(x:List UInt8×List UInt8)=>eqL [AV.str t,AV.str (#[(45:UInt8)].toList++n.1)] [AV.str x.1,AV.str x.2]∧x.1.length<4611686018427387904∧x.2.length<4611686018427387904) fun n=>.all (fun(r:List UInt8×List UInt8×Int)=>r=dmI n.1 n.2) fun n=>.ite (decide (n.1=#[(49:UInt8)].toList)) (.leaf (.ret [.str n_2.1,.int .i64 0] [])) (.side (n_2.1.length+1≤9223372036854775807) (.side (List.length (n_2.1++#[(47:UInt8)].toList)+n.1.length≤9223372036854775807) (.leaf (.ret [.str (n_2.1++#[(47:UInt8)].toList++n.1),.int .i64 0] [])))))) (.ex (fun(x:List UInt8×List UInt8)=>eqL [AV.str s,AV.str n.1] [AV.str x.1,AV.str x.2]∧x.1.length<4611686018427387904∧x.2.length<4611686018427387904) fun n_1=>.all (fun(r:List UInt8×List UInt8×Int)=>r=dmI n_1.1 n_1.2) fun n_2=>.ex (fun(x:List UInt8×List UInt8)=>eqL [AV.str t,AV.str n.1] [AV.str x.1,AV.str x.2]∧x.1.length<4611686018427387904∧x.2.length<4611686018427387904) fun n=>.all (fun(r:List UInt8×List UInt8×Int)=>r=dmI n.1 n.2) fun n=>.ite (decide (n.1=#[(49:UInt8)].toList)) (.leaf (.ret [.str n_2.1,.int .i64 0] [])) (.side (n_2.1.length+1≤9223372036854775807) (.side (List.length (n_2.1++#[(47:UInt8)].toList)+n.1.length≤9223372036854775807) (.leaf (.ret [.str (n_2.1++#[(47:UInt8)].toList++n.1),.int .i64 0] []))))))))) (by kernel_rfl) ?_
 simp only [Tree.holds,zd,inR,lo,hi,Int.toNat_natCast]
 refine⟨(s,t),⟨by simp,by omega,by omega⟩,⟨_,rfl⟩,?_⟩
 rintro _ rfl
 by_cases he:z8 s t=0
 ·obtain⟨e1,e2⟩:=zq.1 he
  have eg:gcdR s t=wr false (Nat.gcd (numI s) (numI t)):=if_pos he
  by_cases h0:numI t=0
  ·have ht0:t=[48]:=(xg e2).2 h0
   have hg0:Nat.gcd (numI s) (numI t)=numI s:=by rw [h0,Nat.gcd_zero_right]
   have hz:(gcdR s t).2=0:=by rw [eg,hg0]; exact vX (jw e1)
   have e:jZ s t=([],16):=by rw [jZ,if_neg (by rw [he]; decide),if_pos h0]
   rw [e] at hq
   refine⟨fun h=>(by simp [hz] at h),fun _=>⟨fun _=>RetR.scal hq rfl (by simp [resV]),fun h=>(by simp [ht0] at h)⟩⟩
  ·obtain⟨g0,gr⟩:=K9 (s:=s) e2 h0
   have hz:(gcdR s t).2=0:=by rw [eg]; exact vX gr
   have ht0:t≠[48]:=fun h=>h0 ((xg e2).1 h)
   have htn:t≠[]:=by rintro rfl; simp [KQ] at e2
   have hneg:=J2 htn
   have e:jZ s t=(JQ (negI s != negI t) (numI s) (numI t),0):=by rw [jZ,if_neg (by rw [he]; decide),if_neg h0]
   rw [e,JQ] at hq
   have ds:Nat.gcd (numI s) (numI t) ∣ numI s:=Nat.gcd_dvd_left _ _
   have dt:Nat.gcd (numI s) (numI t) ∣ numI t:=Nat.gcd_dvd_right _ _
   generalize hgg:Nat.gcd (numI s) (numI t)=g at *
   have rt:=room_le (Nat.div_le_self (numI t) g) (jw e2)
   have l1:=vB false g
   have l2:=vB true g
   have fin:∀ b:Bool,b=negI t→∀ (z w:List UInt8×List UInt8×Int),z=dmI s (wr b g).1→w=dmI t (wr b g).1 →
     (decide (w.1=[49])=true→RetR Uy 0 Q [.str z.1,.int .i64 0] [])∧(decide (w.1=[49])=false→z.1.length+1≤9223372036854775807∧(z.1.length+1≤9223372036854775807→(z.1++[47]).length+w.1.length≤9223372036854775807∧((z.1++[47]).length+w.1.length≤9223372036854775807→RetR Uy 0 Q [.str (z.1++[47]++w.1),.int .i64 0] []))):=by
    rintro b rfl z w rfl rfl
    rw [Kg e1 g0 gr ds,Kg e2 g0 gr dt]
    simp only
    have:(negI t != negI t)=false:=by simp
    rw [this]
    have k1:=vB (negI s != negI t) (numI s/g)
    have k2:=vB false (numI t/g)
    refine⟨fun h=> ?_,fun h=>⟨by omega,fun _=>⟨by simp; omega,fun _=> ?_⟩⟩⟩
    ·have h1:=(Yk rt).1 (of_decide_eq_true h)
     rw [if_pos h1] at hq
     exact RetR.scal hq rfl (by simp [resV])
    ·have h1:¬ numI t/g=1:=fun h1=>of_decide_eq_false h ((Yk rt).2 h1)
     rw [if_neg h1] at hq
     exact RetR.scal hq rfl (by simp [resV])
   rw [eg] at hz ⊢
   refine⟨fun h=>(by simp [hz] at h),fun _=>⟨fun h=>absurd (of_decide_eq_true h) ht0,fun _=>⟨⟨by omega,by have:=List.length_pos_iff.2 htn; omega⟩,fun _=>⟨fun hb=>⟨by omega,fun _=> ?_⟩,fun hb=> ?_⟩⟩⟩⟩
   ·have hn:negI t=true:=by
     rw [hneg,decide_eq_true_eq]
     exact K1 (of_decide_eq_true hb)
    rw [zd6 g0 gr]
    refine⟨(s,(wr true g).1),⟨by simp,by show s.length<_; omega,by show(wr true g).1.length<_; omega⟩,⟨_,rfl⟩,?_⟩
    intro z hz
    refine⟨(t,(wr true g).1),⟨by simp,by show t.length<_; omega,by show(wr true g).1.length<_; omega⟩,⟨_,rfl⟩,?_⟩
    intro w hw
    exact fin true hn.symm z w hz hw
   ·have hn:negI t=false:=by
     rw [hneg,decide_eq_false_iff_not]
     intro h
     apply of_decide_eq_false hb
     rw [h]; rfl
    refine⟨(s,(wr false g).1),⟨by simp,by show s.length<_; omega,by show(wr false g).1.length<_; omega⟩,⟨_,rfl⟩,?_⟩
    intro z hz
    refine⟨(t,(wr false g).1),⟨by simp,by show t.length<_; omega,by show(wr false g).1.length<_; omega⟩,⟨_,rfl⟩,?_⟩
    intro w hw
    exact fin false hn.symm z w hz hw
 ·have eg:gcdR s t=([],z8 s t):=if_neg he
  have e:jZ s t=([],z8 s t):=if_pos he
  rw [e] at hq
  rw [eg]
  exact⟨fun _=>RetR.scal hq rfl (by simp [resV]),fun h=>by simp [he] at h⟩
noncomputable def K90:List Go.Sx.Item:=[.code (Tryz.f90.body.getD .skip)]
structure Pr where
 n:List UInt8
 m:List UInt8
 d:List UInt8
 c:List UInt8
 e:Int
def Pr.box(p:Pr):Blk:=.box [.str p.n,.str p.m,.str p.d,.str p.c,.int .i64 p.e]
def Pr.err(p:Pr)(e:Int):Pr:=⟨p.n,p.m,p.d,p.c,e⟩
inductive QOp where
 | add | sub | mul
def QOp.fn:QOp→Nat
 | .add=>143
 | .sub=>999999
 | .mul=>92
def QOp.has:QOp→Prop
 | .sub=>False
 | _=>True
def QOp.op:QOp→List UInt8→List UInt8→List UInt8×Int
 | .add=>addI
 | .sub=>subI
 | .mul=>mulI
def jo(a b:List UInt8):Pr:=if errR a≠0 then⟨[],[],[],[],errR a⟩ else if errR b≠0 then⟨numR a,[],denR a,[],errR b⟩ else⟨numR a,numR b,denR a,denR b,0⟩
def zfj:Ctr:=ctrT false false (fun p:List UInt8×List UInt8=>[.str p.1,.str p.2]) (fun _=>[]) (fun p=>p.1.length<2^62∧p.2.length<2^62) (fun p r=>r=jo p.1 p.2) (fun _ (r:Pr)=>(.ptr 0 0,[r.box]))
def zcs:Ctr:=ctrT false false (fun p:Pr×QOp=>[.ptr 0 0,.fn p.2.fn [] []]) (fun p=>[p.1.box]) (fun _=>True) (fun _ (_:Unit)=>True) (fun p _=>(.fn 130 [] [.ptr 1 0,.ptr 2 0],[p.1.box,.box [.ptr 0 0],.box [.fn p.2.fn [] []]]))
structure KX where
 p:Pr
 o:QOp
 x:List UInt8
 y:List UInt8
def Xj:Ctr:=ctrT false false (fun k:KX=>[.str k.x,.str k.y,.ptr 0 0,.ptr 2 0]) (fun k=>[.box [.ptr 1 0],k.p.box,.box [.fn k.o.fn [] []]]) (fun k=>k.x.length<2^62∧k.y.length<2^62∧k.o.has) (fun k r=>r=if k.p.e≠0 then([],k.p.e) else k.o.op k.x k.y)
 (fun k (r:List UInt8×Int)=>(.str r.1,[.box [.ptr 1 0],(k.p.err r.2).box,.box [.fn k.o.fn [] []]]))
def zbl:Ctr:=ctrT false false (fun k:Pr×List UInt8×List UInt8=>[.ptr 0 0,.str k.2.1,.str k.2.2]) (fun k=>[k.1.box]) (fun k=>k.2.1.length<2^62∧k.2.2.length<2^62) (fun k r=>r=if k.1.e≠0 then([],k.1.e) else jZ k.2.1 k.2.2)
 (fun k (r:List UInt8×Int)=>(.tup [.str r.1,.int .i64 r.2],[k.1.box]))
theorem zfl:zf Tryz.prog 91 zcs:=by
 refine qI (fn:=Tryz.f91) (c:=Tryz.f91.body.getD .skip) rfl rfl rfl (fun h=>by cases h) fun p hp O w0 σ0 Q hl0 hq=> ?_
 obtain⟨p,o⟩:=p
 replace hq:=hq () trivial
 refine zc.run hmix zD [] 400 (T:=.leaf (.ret [.fn 130 [] [.ptr 1 0,.ptr 2 0]] [.box [.str p.n,.str p.m,.str p.d,.str p.c,.int .i64 p.e],.box [.ptr 0 0],.box [.fn (QOp.fn o) [] []]])) (by kernel_rfl) ?_
 simp only [Tree.holds,zd]
 refine RetR.keep [0,1,2] rfl rfl (by show ∀ j,j<1→_; decide) rfl hq ?_ ?_ rfl
 ·rfl
 ·exact⟨⟨rfl,rfl,rfl,rfl,⟨rfl,rfl⟩,trivial⟩,⟨⟨rfl,rfl⟩,trivial⟩,⟨rfl,trivial⟩,trivial⟩
noncomputable def GK1:Nat→Option Ctr:=fun f=>if f=143 then some (addC) else if f=92 then some (mulC) else none
theorem zf2:∀ g c,GK1 g=some c→zf Tryz.prog g c:=okIf zk5 (okIf zjo (zx))
theorem zcb:zf Tryz.prog 130 Xj:=by
 refine qI (fn:=Tryz.f130) (c:=Tryz.f130.body.getD .skip) rfl rfl rfl (fun h=>by cases h) fun k hk O w0 σ0 Q hl0 hq=> ?_
 obtain⟨⟨n,m,d,c,e⟩,o,x,y⟩:=k
 obtain⟨h1,h2,h3⟩:=hk
 replace hq:=hq _ rfl
 simp only at h1 h2 h3 hq
 have fin:∀ r:List UInt8×Int,(if e≠0 then([],e) else o.op x y)=r→RetR Xj 3 Q [.str r.1] [.box [.ptr 1 0],.box [.str n,.str m,.str d,.str c,.int .i64 r.2],.box [.fn o.fn [] []]]:=by
  rintro r rfl
  refine RetR.keep [0,1,2] rfl rfl (by show ∀ j,j<3→_; decide) rfl hq ?_ ?_ rfl
  ·rfl
  ·exact⟨⟨⟨rfl,rfl⟩,trivial⟩,⟨rfl,rfl,rfl,rfl,⟨rfl,rfl⟩,trivial⟩,⟨rfl,trivial⟩,trivial⟩
 cases o with
 | add=>
  refine zc.run hmix zf2 [] 400 (T:=.ite (!decide (e=0)) (.leaf (.ret [.str #[].toList] [.box [.ptr 1 0],.box [.str n,.str m,.str d,.str c,.int .i64 e],.box [.fn 143 [] []]])) (.ex (fun(x_1:List UInt8×List UInt8)=>eqL [AV.str x,AV.str y] [AV.str x_1.1,AV.str x_1.2]∧x_1.1.length<4611686018427387904∧x_1.2.length<4611686018427387904) fun n_1=>.all (fun(r:List UInt8×Int)=>r=addI n_1.1 n_1.2) fun n_2=>.leaf (.ret [.str n_2.1] [.box [.ptr 1 0],.box [.str n,.str m,.str d,.str c,.int .i64 n_2.2],.box [.fn 143 [] []]]))) (by kernel_rfl) ?_
  simp only [Tree.holds,zd]
  refine⟨fun h=> ?_,fun h=>⟨(x,y),⟨by simp,h1,h2⟩,⟨_,rfl⟩,?_⟩⟩
  ·have h:e≠0:=by simpa using h
   exact fin ([],e) (if_pos h)
  ·have h:e=0:=by simpa using h
   rintro _ rfl
   exact fin (addI x y) (if_neg (by simp [h]))
 | sub=>exact h3.elim
 | mul=>
  refine zc.run hmix zf2 [] 400 (T:=.ite (!decide (e=0)) (.leaf (.ret [.str #[].toList] [.box [.ptr 1 0],.box [.str n,.str m,.str d,.str c,.int .i64 e],.box [.fn 92 [] []]])) (.ex (fun(x_1:List UInt8×List UInt8)=>eqL [AV.str x,AV.str y] [AV.str x_1.1,AV.str x_1.2]∧x_1.1.length<4611686018427387904∧x_1.2.length<4611686018427387904) fun n_1=>.all (fun(r:List UInt8×Int)=>r=mulI n_1.1 n_1.2) fun n_2=>.leaf (.ret [.str n_2.1] [.box [.ptr 1 0],.box [.str n,.str m,.str d,.str c,.int .i64 n_2.2],.box [.fn 92 [] []]]))) (by kernel_rfl) ?_
  simp only [Tree.holds,zd]
  refine⟨fun h=> ?_,fun h=>⟨(x,y),⟨by simp,h1,h2⟩,⟨_,rfl⟩,?_⟩⟩
  ·have h:e≠0:=by simpa using h
   exact fin ([],e) (if_pos h)
  ·have h:e=0:=by simpa using h
   rintro _ rfl
   exact fin (mulI x y) (if_neg (by simp [h]))
noncomputable def GMd:Nat→Option Ctr:=fun f=>if f=156 then some (Uy) else none
theorem zko:∀ g c,GMd g=some c→zf Tryz.prog g c:=okIf zg3 (zx)
theorem zgh:zf Tryz.prog 142 zbl:=by
 refine qI (fn:=Tryz.f142) (c:=Tryz.f142.body.getD .skip) rfl rfl rfl (fun h=>by cases h) fun k hk O w0 σ0 Q hl0 hq=> ?_
 obtain⟨⟨n,m,d,c,e⟩,x,y⟩:=k
 obtain⟨h1,h2⟩:=hk
 replace hq:=hq _ rfl
 simp only at h1 h2 hq
 have fin:∀ r:List UInt8×Int,(if e≠0 then([],e) else jZ x y)=r→RetR zbl 1 Q [.str r.1,.int .i64 r.2] [.box [.str n,.str m,.str d,.str c,.int .i64 e]]:=by
  rintro r rfl
  refine RetR.keep [0] rfl rfl (by show ∀ j,j<1→_; decide) rfl hq ?_ ?_ rfl
  ·exact⟨rfl,⟨rfl,rfl⟩,trivial⟩
  ·exact⟨⟨rfl,rfl,rfl,rfl,⟨rfl,rfl⟩,trivial⟩,trivial⟩
 refine zc.run hmix zko [] 400 (T:=.ite (!decide (e=0)) (.leaf (.ret [.str #[].toList,.int .i64 e] [.box [.str n,.str m,.str d,.str c,.int .i64 e]])) (.ex (fun(x_1:List UInt8×List UInt8)=>eqL [AV.str x,AV.str y] [AV.str x_1.1,AV.str x_1.2]∧x_1.1.length<4611686018427387904∧x_1.2.length<4611686018427387904) fun n_1=>.all (fun(r:List UInt8×Int)=>r=jZ n_1.1 n_1.2) fun n_2=>.leaf (.ret [.str n_2.1,.int .i64 n_2.2] [.box [.str n,.str m,.str d,.str c,.int .i64 e]]))) (by kernel_rfl) ?_
 simp only [Tree.holds,zd]
 refine⟨fun h=> ?_,fun h=>⟨(x,y),⟨by simp,h1,h2⟩,⟨_,rfl⟩,?_⟩⟩
 ·have h:e≠0:=by simpa using h
  exact fin ([],e) (if_pos h)
 ·have h:e=0:=by simpa using h
  rintro _ rfl
  exact fin (jZ x y) (if_neg (by simp [h]))
def Pst(a b:List UInt8):Nat→Pr
 | 0=>⟨[],[],[],[],0⟩
 | 1=>if errR a≠0 then⟨[],[],[],[],errR a⟩ else⟨numR a,[],denR a,[],0⟩
 | _=>jo a b
def SBq(a b:List UInt8)(i:Nat):KV:=[(5,.ptr 0 0),(12,.agg [.str a,.str b]),(13,.int .i64 (i:Int))]
noncomputable def GBq:Nat→Option Ctr:=fun f=>if f=129 then some (zc5) else none
theorem W4:∀ g c,GBq g=some c→zf Tryz.prog g c:=okIf ze7 (zx)
theorem zby:zf Tryz.prog 90 zfj:=by
 refine qI (fn:=Tryz.f90) (c:=Tryz.f90.body.getD .skip) rfl rfl rfl (fun h=>by cases h) fun p hp O w0 σ0 Q hl0 hq=> ?_
 obtain rfl:σ0=[]:=List.length_eq_zero_iff.1 hl0
 obtain⟨a,b⟩:=p
 obtain⟨h1,h2⟩:=hp
 replace hq:=hq _ rfl
 simp only at h1 h2 hq
 refine zc.run hmix W4 [5,12,13] 400 (T:=.leaf (.loop (Prod.fst (lps K90 0)) (Prod.snd (lps K90 0)) [(5,.ptr 0 0),(12,.agg [.str a,.str b]),(13,.int .i64 0)] [.box [.str #[].toList,.str #[].toList,.str #[].toList,.str #[].toList,.int .i64 0]])) (by kernel_rfl) ?_
 simp only [Tree.holds,zd]
 refine zc.loop (ι:={i:Nat // i≤2}) (fun i=>SBq a b i.1) (fun i=>[(Pst a b i.1).box]) (fun i=>2 - i.1) ⟨0,Nat.zero_le _⟩ 0 ?_ ?_ (by kernel_rfl)
 ·exact⟨by simp [SBq],by simp [Pst,Pr.box],by kernel_rfl,Nat.zero_le _⟩
 rintro⟨i,hil⟩
 match i,hil with
 | 0,_=>
  refine zc.run hmix W4 [5,12,13] 400 (T:=.ite true (.side ((0:Int)≤0∧(0:Int)<2∧1≤List.length [AV.str a,AV.str b]) (.ite true (.ex (fun(x:List UInt8)=>eqL [AV.str a] [AV.str x]∧x.length<4611686018427387904) fun n=>.all (fun(r:List UInt8×List UInt8×Int)=>r=if errR n=0 then(numR n,denR n,(0:Int)) else([],[],errR n)) fun n=>.side ((0:Int)≤0∧(0:Int)<2) (.side ((0:Int)≤0∧(0:Int)<2) (.side (inR .i64 (1:Int)) (.leaf (.back 0 [(5,.ptr 0 0),(12,.agg [.str a,.str b]),(13,.int .i64 1)] [.box [.str n.1,.str [],.str n.2.1,.str [],.int .i64 n.2.2]]))))) (.side (inR .i64 (1:Int)) (.leaf (.back 0 [(5,.ptr 0 0),(12,.agg [.str a,.str b]),(13,.int .i64 1)] [.box [.str [],.str [],.str [],.str [],.int .i64 0]]))))) (.leaf (.ret [.ptr 0 0] [.box [.str [],.str [],.str [],.str [],.int .i64 0]]))) (by kernel_rfl) ?_
  simp only [Tree.holds,zd,inR,lo,hi,Int.toNat_natCast]
  refine⟨fun _=>⟨by simp,fun _=>⟨fun _=>⟨a,⟨by simp,h1⟩,⟨_,rfl⟩,?_⟩,fun h=>(by cases h)⟩⟩,fun h=>(by cases h)⟩
  intro r hr
  refine⟨by decide,fun _=>⟨by decide,fun _=>⟨by decide,fun _=> ?_⟩⟩⟩
  rw [if_pos trivial]
  refine⟨⟨1,by decide⟩,by decide,by simp [SBq],?_,by kernel_rfl,Nat.zero_le _⟩
  have e:Pst a b 1=⟨r.1,[],r.2.1,[],r.2.2⟩:=by
   rw [hr]
   by_cases h:errR a=0
   ·simp [Pst,h]
   ·simp [Pst,h]
  show eqH _ [(Pst a b 1).box]
  rw [e]
  simp [Pr.box]
 | 1,_=>
  obtain⟨⟨n,m,d,c,e⟩,hp⟩:∃ p,Pst a b 1=p:=⟨_,rfl⟩
  simp only [hp]
  refine zc.run hmix W4 [5,12,13] 400 (T:=.ite true (.side ((0:Int)≤1∧(1:Int)<2∧2≤List.length [AV.str a,AV.str b]) (.ite (decide (e=0)) (.ex (fun(x:List UInt8)=>eqL [AV.str b] [AV.str x]∧x.length<4611686018427387904) fun n_1=>.all (fun(r:List UInt8×List UInt8×Int)=>r=if errR n_1=0 then(numR n_1,denR n_1,(0:Int)) else([],[],errR n_1)) fun n_2=>.side ((0:Int)≤1∧(1:Int)<2) (.side ((0:Int)≤1∧(1:Int)<2) (.side (inR .i64 (2:Int)) (.leaf (.back 0 [(5,.ptr 0 0),(12,.agg [.str a,.str b]),(13,.int .i64 2)] [.box [.str n,.str n_2.1,.str d,.str n_2.2.1,.int .i64 n_2.2.2]]))))) (.side (inR .i64 (2:Int)) (.leaf (.back 0 [(5,.ptr 0 0),(12,.agg [.str a,.str b]),(13,.int .i64 2)] [.box [.str n,.str m,.str d,.str c,.int .i64 e]]))))) (.leaf (.ret [.ptr 0 0] [.box [.str n,.str m,.str d,.str c,.int .i64 e]]))) (by kernel_rfl) ?_
  simp only [Tree.holds,zd,inR,lo,hi,Int.toNat_natCast]
  refine⟨fun _=>⟨by simp,fun _=>⟨fun h=>⟨b,⟨by simp,h2⟩,⟨_,rfl⟩,?_⟩,fun h=>⟨by decide,fun _=> ?_⟩⟩⟩,fun h=>(by cases h)⟩
  ·have h:e=0:=by simpa using h
   intro r hr
   refine⟨by decide,fun _=>⟨by decide,fun _=>⟨by decide,fun _=> ?_⟩⟩⟩
   rw [if_pos trivial]
   refine⟨⟨2,by decide⟩,by decide,by simp [SBq],?_,by kernel_rfl,Nat.zero_le _⟩
   have e2:Pst a b 2=⟨n,r.1,d,r.2.1,r.2.2⟩:=by
    rw [hr]
    by_cases ha:errR a=0
    ·simp only [Pst,ha] at hp
     simp at hp
     obtain⟨rfl,rfl,rfl,rfl,_⟩:=hp
     by_cases hb:errR b=0
     ·simp [Pst,jo,ha,hb]
     ·simp [Pst,jo,ha,hb]
    ·simp only [Pst] at hp
     rw [if_pos ha] at hp
     cases hp
     exact absurd h ha
   show eqH _ [(Pst a b 2).box]
   rw [e2]
   simp [Pr.box]
  ·have h:e≠0:=by simpa using h
   rw [if_pos trivial]
   refine⟨⟨2,by decide⟩,by decide,by simp [SBq],?_,by kernel_rfl,Nat.zero_le _⟩
   have e2:Pst a b 2=⟨n,m,d,c,e⟩:=by
    by_cases ha:errR a=0
    ·simp only [Pst,ha] at hp
     simp at hp
     exact absurd hp.2.2.2.2.symm h
    ·rw [← hp]
     simp only [Pst,jo]
     rw [if_pos ha,if_pos ha]
   show eqH _ [(Pst a b 2).box]
   rw [e2]
   simp [Pr.box]
 | 2,_=>
  obtain⟨⟨n,m,d,c,e⟩,hp⟩:∃ p,Pst a b 2=p:=⟨_,rfl⟩
  simp only [hp]
  refine zc.run hmix W4 [5,12,13] 400 (T:=.ite false (.side ((0:Int)≤2∧(2:Int)<2∧3≤List.length [AV.str a,AV.str b]) .fail) (.leaf (.ret [.ptr 0 0] [.box [.str n,.str m,.str d,.str c,.int .i64 e]]))) (by kernel_rfl) ?_
  simp only [Tree.holds,zd,inR,lo,hi,Int.toNat_natCast]
  refine⟨fun h=>(by cases h),fun _=> ?_⟩
  have hp:jo a b=⟨n,m,d,c,e⟩:=hp
  rw [hp] at hq
  refine RetR.out1 0 (by show 0<1; decide) hq (fun h=>by cases h) ?_ ?_
  ·exact⟨rfl,rfl⟩
  ·exact⟨rfl,rfl,rfl,rfl,⟨rfl,rfl⟩,trivial⟩
theorem xc(a b:List UInt8):((jo a b).e≠0∧jy a b=(jo a b).e)∨((jo a b).e=0∧errR a=0∧errR b=0∧(jo a b).n=numR a∧(jo a b).m=numR b∧(jo a b).d=denR a∧(jo a b).c=denR b):=by
 unfold jo
 by_cases ha:errR a=0
 ·rw [if_neg (by rw [ha]; simp)]
  by_cases hb:errR b=0
  ·rw [if_neg (by rw [hb]; simp)]
   exact .inr ⟨rfl,ha,hb,rfl,rfl,rfl,rfl⟩
  ·rw [if_pos hb]
   exact .inl ⟨hb,by unfold jy; rw [if_pos ha]⟩
 ·rw [if_pos ha]
  exact .inl ⟨ha,by unfold jy; rw [if_neg ha]⟩
theorem uy(a b:List UInt8):(jo a b).n.length≤a.length∧(jo a b).m.length≤b.length∧(jo a b).d.length≤a.length+1∧(jo a b).c.length≤b.length+1:=by
 have h1:=Ko a
 have h2:=Ko b
 have h3:=Kl a
 have h4:=Kl b
 unfold jo
 split
 ·simp
 ·split
  ·simp; omega
  ·simp only; omega
theorem kx_l(x y:List UInt8):eqL [.str x,.str y,.ptr 0 0,.ptr 2 0] [.str x,.str y,.ptr 0 0,.ptr 2 0]:=⟨rfl,rfl,⟨rfl,rfl⟩,⟨rfl,rfl⟩,trivial⟩
theorem kx_b(p:Pr):eqH [.box [.str p.n,.str p.m,.str p.d,.str p.c,.int .i64 p.e]] [.box [.str p.n,.str p.m,.str p.d,.str p.c,.int .i64 p.e]]:=⟨⟨rfl,rfl,rfl,rfl,⟨rfl,rfl⟩,trivial⟩,trivial⟩
theorem kx_h(p:Pr)(f:Nat):eqH [.box [.ptr 1 0],.box [.str p.n,.str p.m,.str p.d,.str p.c,.int .i64 p.e],.box [.fn f [] []]] [.box [.ptr 1 0],.box [.str p.n,.str p.m,.str p.d,.str p.c,.int .i64 p.e],.box [.fn f [] []]]:=⟨⟨⟨rfl,rfl⟩,trivial⟩,(kx_b p).1,⟨rfl,trivial⟩,trivial⟩
theorem kx_k(f:Nat):eqL [.ptr 0 0,.fn f [] []] [.ptr 0 0,.fn f [] []]:=⟨⟨rfl,rfl⟩,rfl,trivial⟩
theorem kx_m(x y:List UInt8):eqL [.ptr 0 0,.str x,.str y] [.ptr 0 0,.str x,.str y]:=⟨⟨rfl,rfl⟩,rfl,rfl,trivial⟩
theorem jF(p:Pr)(o:QOp)(x y:List UInt8){r:List UInt8×Int}(h:r=if p.e≠0 then([],p.e) else o.op x y):r.1.length≤1001:=by
 rw [h]
 refine zhs ?_
 cases o
 ·exact zd0 x y
 ·exact zcu x y
 ·exact zfd x y
noncomputable def GQA:Nat→Option Ctr:=fun f=>if f=90 then some (zfj) else if f=91 then some (zcs) else if f=130 then some (Xj) else if f=142 then some (zbl) else if f=93 then some (zi8) else none
theorem Xx:∀ g c,GQA g=some c→zf Tryz.prog g c:=okIf zby (okIf zfl (okIf zcb (okIf zgh (okIf zhu (zx)))))
def zik:Ctr:=ctrP true (fun p:List UInt8×List UInt8=>[.str p.1,.str p.2]) (fun p=>p.1.length<2^61∧p.2.length<2^61) (fun p r=>r=addR p.1 p.2) (fun _ r=>(.tup [.str r.1,.int .i64 r.2],[]))
def zis:Ctr:=ctrP true (fun p:List UInt8×List UInt8=>[.str p.1,.str p.2]) (fun p=>p.1.length<2^61∧p.2.length<2^61) (fun p r=>r=mulR p.1 p.2) (fun _ r=>(.tup [.str r.1,.int .i64 r.2],[]))
def zim:Ctr:=ctrP true (fun p:List UInt8×List UInt8=>[.str p.1,.str p.2]) (fun p=>p.1.length<2^61∧p.2.length<2^61) (fun p r=>r=cmpR p.1 p.2) (fun _ r=>(.tup [.int .i64 r.1,.int .i64 r.2],[]))
theorem zgv:zf Tryz.prog 105 zik:=by
 refine zi (fn:=Tryz.f105) (c:=Tryz.f105.body.getD .skip) rfl rfl rfl fun p hp O w0 Q hq=> ?_
 obtain⟨a,b⟩:=p
 obtain⟨h1,h2⟩:=hp
 replace hq:=hq _ rfl
 simp only at h1 h2 hq
 refine zc.run hmix Xx [] 400 (T:=.ex (fun(x:List UInt8×List UInt8)=>eqL [AV.str a,AV.str b] [AV.str x.1,AV.str x.2]∧eqH [] []∧0=0∧x.1.length<4611686018427387904∧x.2.length<4611686018427387904) fun n=>.all (fun(r:Pr)=>r=jo n.1 n.2) fun n=>.ex (fun(x:Pr×QOp)=>eqL [AV.ptr 0 0,AV.fn 92 [] []] [AV.ptr 0 0,AV.fn (QOp.fn x.2) [] []]∧eqH [.box [AV.str n.n,AV.str n.m,AV.str n.d,AV.str n.c,AV.int .i64 n.e]] [.box [AV.str x.1.n,AV.str x.1.m,AV.str x.1.d,AV.str x.1.c,AV.int .i64 x.1.e]]∧1=1∧True) fun n=>.all (fun(x:Unit)=>True) fun n_1=>.ex (fun(x:Pr×QOp)=>eqL [AV.ptr 0 0,AV.fn 143 [] []] [AV.ptr 0 0,AV.fn (QOp.fn x.2) [] []]∧eqH [.box [AV.str n.1.n,AV.str n.1.m,AV.str n.1.d,AV.str n.1.c,AV.int .i64 n.1.e]] [.box [AV.str x.1.n,AV.str x.1.m,AV.str x.1.d,AV.str x.1.c,AV.int .i64 x.1.e]]∧1=1∧True) fun n_2=>.all (fun(x:Unit)=>True) fun n_3=>.side ((0:Int)≤0∧(0:Int)<2) (.side ((0:Int)≤1∧(1:Int)<2) (.side ((0:Int)≤1∧(1:Int)<2) (.side ((0:Int)≤0∧(0:Int)<2) (.side ((0:Int)≤0∧(0:Int)<2) (.side ((0:Int)≤1∧(1:Int)<2) (.ex (fun(x:KX)=>eqL [AV.str n_2.1.n,AV.str n_2.1.c,AV.ptr 0 0,AV.ptr 2 0] [AV.str x.x,AV.str x.y,AV.ptr 0 0,AV.ptr 2 0]∧eqH [.box [AV.ptr 1 0],.box [AV.str n_2.1.n,AV.str n_2.1.m,AV.str n_2.1.d,AV.str n_2.1.c,AV.int .i64 n_2.1.e],.box [AV.fn (QOp.fn n.2) [] []]] [.box [AV.ptr 1 0],.box [AV.str x.p.n,AV.str x.p.m,AV.str x.p.d,AV.str x.p.c,AV.int .i64 x.p.e],.box [AV.fn (QOp.fn x.o) [] []]]∧3=3∧x.x.length<4611686018427387904∧x.y.length<4611686018427387904∧QOp.has x.o) fun n=>.all (fun(r:List UInt8×Int)=>r=if Pr.e n.p≠0 then([],Pr.e n.p) else QOp.op n.o n.x n.y) fun n_4=>.side (Pr.c (Pr.err n.p n_4.2)=Pr.c n_2.1) (.side (Pr.d (Pr.err n.p n_4.2)=Pr.d n_2.1) (.side (Pr.d (Pr.err n.p n_4.2)=Pr.d n_2.1) (.side (Pr.m (Pr.err n.p n_4.2)=Pr.m n_2.1) (.ex (fun(x:KX)=>eqL [AV.str n_2.1.m,AV.str n_2.1.d,AV.ptr 0 0,AV.ptr 2 0] [AV.str x.x,AV.str x.y,AV.ptr 0 0,AV.ptr 2 0]∧eqH [.box [AV.ptr 1 0],.box [AV.str (Pr.n (Pr.err n.p n_4.2)),AV.str (Pr.m (Pr.err n.p n_4.2)),AV.str (Pr.d (Pr.err n.p n_4.2)),AV.str (Pr.c (Pr.err n.p n_4.2)),AV.int .i64 (Pr.e (Pr.err n.p n_4.2))],.box [AV.fn (QOp.fn n.o) [] []]] [.box [AV.ptr 1 0],.box [AV.str x.p.n,AV.str x.p.m,AV.str x.p.d,AV.str x.p.c,AV.int .i64 x.p.e],.box [AV.fn (QOp.fn x.o) [] []]]∧3=3∧x.x.length<4611686018427387904∧x.y.length<4611686018427387904∧QOp.has x.o) fun n=>.all (fun(r:List UInt8×Int)=>r=if Pr.e n.p≠0 then([],Pr.e n.p) else QOp.op n.o n.x n.y) fun n_5=>.side (Pr.c (Pr.err n.p n_5.2)=Pr.c n_2.1) (.side (Pr.d (Pr.err n.p n_5.2)=Pr.d n_2.1) (.ex (fun(x:KX)=>eqL [AV.str n_4.1,AV.str n_5.1,AV.ptr 0 0,AV.ptr 2 0] [AV.str x.x,AV.str x.y,AV.ptr 0 0,AV.ptr 2 0]∧eqH [.box [AV.ptr 1 0],.box [AV.str (Pr.n (Pr.err n.p n_5.2)),AV.str (Pr.m (Pr.err n.p n_5.2)),AV.str (Pr.d (Pr.err n.p n_5.2)),AV.str (Pr.c (Pr.err n.p n_5.2)),AV.int .i64 (Pr.e (Pr.err n.p n_5.2))],.box [AV.fn (QOp.fn n_2.2) [] []]] [.box [AV.ptr 1 0],.box [AV.str x.p.n,AV.str x.p.m,AV.str x.p.d,AV.str x.p.c,AV.int .i64 x.p.e],.box [AV.fn (QOp.fn x.o) [] []]]∧3=3∧x.x.length<4611686018427387904∧x.y.length<4611686018427387904∧QOp.has x.o) fun n_6=>.all (fun(r:List UInt8×Int)=>r=if Pr.e n_6.p≠0 then([],Pr.e n_6.p) else QOp.op n_6.o n_6.x n_6.y) fun n_7=>.side (Pr.c (Pr.err n_6.p n_7.2)=Pr.c n_2.1) (.side (Pr.d (Pr.err n_6.p n_7.2)=Pr.d n_2.1) (.ex (fun(x:KX)=>eqL [AV.str n_2.1.d,AV.str n_2.1.c,AV.ptr 0 0,AV.ptr 2 0] [AV.str x.x,AV.str x.y,AV.ptr 0 0,AV.ptr 2 0]∧eqH [.box [AV.ptr 1 0],.box [AV.str (Pr.n (Pr.err n_6.p n_7.2)),AV.str (Pr.m (Pr.err n_6.p n_7.2)),AV.str (Pr.d (Pr.err n_6.p n_7.2)),AV.str (Pr.c (Pr.err n_6.p n_7.2)),AV.int .i64 (Pr.e (Pr.err n_6.p n_7.2))],.box [AV.fn (QOp.fn n.o) [] []]] [.box [AV.ptr 1 0],.box [AV.str x.p.n,AV.str x.p.m,AV.str x.p.d,AV.str x.p.c,AV.int .i64 x.p.e],.box [AV.fn (QOp.fn x.o) [] []]]∧3=3∧x.x.length<4611686018427387904∧x.y.length<4611686018427387904∧QOp.has x.o) fun n=>.all (fun(r:List UInt8×Int)=>r=if Pr.e n.p≠0 then([],Pr.e n.p) else QOp.op n.o n.x n.y) fun n_8=>.ex (fun(x:Pr×List UInt8×List UInt8)=>eqL [AV.ptr 0 0,AV.str n_7.1,AV.str n_8.1] [AV.ptr 0 0,AV.str x.2.1,AV.str x.2.2]∧eqH [.box [AV.str (Pr.n (Pr.err n.p n_8.2)),AV.str (Pr.m (Pr.err n.p n_8.2)),AV.str (Pr.d (Pr.err n.p n_8.2)),AV.str (Pr.c (Pr.err n.p n_8.2)),AV.int .i64 (Pr.e (Pr.err n.p n_8.2))]] [.box [AV.str x.1.n,AV.str x.1.m,AV.str x.1.d,AV.str x.1.c,AV.int .i64 x.1.e]]∧1=1∧x.2.1.length<4611686018427387904∧x.2.2.length<4611686018427387904) fun n_9=>.all (fun(r:List UInt8×Int)=>r=if Pr.e n_9.1≠0 then([],Pr.e n_9.1) else jZ n_9.2.1 n_9.2.2) fun n_10=>.leaf (.ret [.str n_10.1,.int .i64 n_10.2] [.box [.str n_9.1.n,.str n_9.1.m,.str n_9.1.d,.str n_9.1.c,.int .i64 n_9.1.e],.box [.ptr 0 0],.box [.fn (QOp.fn n.o) [] []],.box [.ptr 0 0],.box [.fn (QOp.fn n_6.o) [] []]])))))))))))))))) (by kernel_rfl) ?_
 simp only [Tree.holds,zd]
 refine⟨(a,b),⟨⟨rfl,rfl,trivial⟩,trivial,by trivial,by show a.length<_; omega,by show b.length<_; omega⟩,⟨_,rfl⟩,?_⟩
 intro p hp
 have hc:=xc a b
 obtain⟨l1,l2,l3,l4⟩:=uy a b
 rw [← hp] at hc l1 l2 l3 l4
 refine⟨(p,.mul),⟨kx_k _,kx_b p,by trivial,trivial⟩,⟨(),trivial⟩,?_⟩
 intro _ _
 refine⟨(p,.add),⟨kx_k _,kx_b p,by trivial,trivial⟩,⟨(),trivial⟩,?_⟩
 intro _ _
 iterate 6 refine⟨by decide,fun _=> ?_⟩
 refine⟨⟨p,.mul,p.n,p.c⟩,⟨kx_l _ _,kx_h (p) _,by trivial,by show(p.n).length<_; omega,by show(p.c).length<_; omega,by trivial⟩,⟨_,rfl⟩,?_⟩
 intro r1 hr1
 have kr1:=jF _ _ _ _ hr1
 iterate 4 refine⟨rfl,fun _=> ?_⟩
 refine⟨⟨p.err r1.2,.mul,p.m,p.d⟩,⟨kx_l _ _,kx_h (p.err r1.2) _,by trivial,by show(p.m).length<_; omega,by show(p.d).length<_; omega,by trivial⟩,⟨_,rfl⟩,?_⟩
 intro r2 hr2
 have kr2:=jF _ _ _ _ hr2
 iterate 2 refine⟨rfl,fun _=> ?_⟩
 refine⟨⟨(p.err r1.2).err r2.2,.add,r1.1,r2.1⟩,⟨kx_l _ _,kx_h ((p.err r1.2).err r2.2) _,by trivial,by show(r1.1).length<_; omega,by show(r2.1).length<_; omega,by trivial⟩,⟨_,rfl⟩,?_⟩
 intro r3 hr3
 have kr3:=jF _ _ _ _ hr3
 iterate 2 refine⟨rfl,fun _=> ?_⟩
 refine⟨⟨((p.err r1.2).err r2.2).err r3.2,.mul,p.d,p.c⟩,⟨kx_l _ _,kx_h (((p.err r1.2).err r2.2).err r3.2) _,by trivial,by show(p.d).length<_; omega,by show(p.c).length<_; omega,by trivial⟩,⟨_,rfl⟩,?_⟩
 intro r4 hr4
 have kr4:=jF _ _ _ _ hr4
 refine⟨((((p.err r1.2).err r2.2).err r3.2).err r4.2,r3.1,r4.1),⟨kx_m _ _,kx_b _,by trivial,by show(r3.1).length<_; omega,by show(r4.1).length<_; omega⟩,⟨_,rfl⟩,?_⟩
 intro r5 hr5
 have hfin:=KJ hc (fun {s t} =>zc0 (s:=s) (t:=t)) hr1 hr2 hr3 hr4 hr5
 have e:r5=addR a b:=hfin
 rw [← e] at hq
 exact RetR.scal hq rfl (by simp [resV])
theorem zg1:zf Tryz.prog 104 zis:=by
 refine zi (fn:=Tryz.f104) (c:=Tryz.f104.body.getD .skip) rfl rfl rfl fun p hp O w0 Q hq=> ?_
 obtain⟨a,b⟩:=p
 obtain⟨h1,h2⟩:=hp
 replace hq:=hq _ rfl
 simp only at h1 h2 hq
 refine zc.run hmix Xx [] 400 (T:=.ex (fun(x:List UInt8×List UInt8)=>eqL [AV.str a,AV.str b] [AV.str x.1,AV.str x.2]∧eqH [] []∧0=0∧x.1.length<4611686018427387904∧x.2.length<4611686018427387904) fun n=>.all (fun(r:Pr)=>r=jo n.1 n.2) fun n=>.ex (fun(x:Pr×QOp)=>eqL [AV.ptr 0 0,AV.fn 92 [] []] [AV.ptr 0 0,AV.fn (QOp.fn x.2) [] []]∧eqH [.box [AV.str n.n,AV.str n.m,AV.str n.d,AV.str n.c,AV.int .i64 n.e]] [.box [AV.str x.1.n,AV.str x.1.m,AV.str x.1.d,AV.str x.1.c,AV.int .i64 x.1.e]]∧1=1∧True) fun n=>.all (fun(x:Unit)=>True) fun n_1=>.side ((0:Int)≤0∧(0:Int)<2) (.side ((0:Int)≤1∧(1:Int)<2) (.side ((0:Int)≤0∧(0:Int)<2) (.side ((0:Int)≤1∧(1:Int)<2) (.ex (fun(x:KX)=>eqL [AV.str n.1.n,AV.str n.1.m,AV.ptr 0 0,AV.ptr 2 0] [AV.str x.x,AV.str x.y,AV.ptr 0 0,AV.ptr 2 0]∧eqH [.box [AV.ptr 1 0],.box [AV.str n.1.n,AV.str n.1.m,AV.str n.1.d,AV.str n.1.c,AV.int .i64 n.1.e],.box [AV.fn (QOp.fn n.2) [] []]] [.box [AV.ptr 1 0],.box [AV.str x.p.n,AV.str x.p.m,AV.str x.p.d,AV.str x.p.c,AV.int .i64 x.p.e],.box [AV.fn (QOp.fn x.o) [] []]]∧3=3∧x.x.length<4611686018427387904∧x.y.length<4611686018427387904∧QOp.has x.o) fun n_2=>.all (fun(r:List UInt8×Int)=>r=if Pr.e n_2.p≠0 then([],Pr.e n_2.p) else QOp.op n_2.o n_2.x n_2.y) fun n_3=>.side (Pr.c (Pr.err n_2.p n_3.2)=Pr.c n.1) (.side (Pr.d (Pr.err n_2.p n_3.2)=Pr.d n.1) (.ex (fun(x:KX)=>eqL [AV.str n.1.d,AV.str n.1.c,AV.ptr 0 0,AV.ptr 2 0] [AV.str x.x,AV.str x.y,AV.ptr 0 0,AV.ptr 2 0]∧eqH [.box [AV.ptr 1 0],.box [AV.str (Pr.n (Pr.err n_2.p n_3.2)),AV.str (Pr.m (Pr.err n_2.p n_3.2)),AV.str (Pr.d (Pr.err n_2.p n_3.2)),AV.str (Pr.c (Pr.err n_2.p n_3.2)),AV.int .i64 (Pr.e (Pr.err n_2.p n_3.2))],.box [AV.fn (QOp.fn n_2.o) [] []]] [.box [AV.ptr 1 0],.box [AV.str x.p.n,AV.str x.p.m,AV.str x.p.d,AV.str x.p.c,AV.int .i64 x.p.e],.box [AV.fn (QOp.fn x.o) [] []]]∧3=3∧x.x.length<4611686018427387904∧x.y.length<4611686018427387904∧QOp.has x.o) fun n=>.all (fun(r:List UInt8×Int)=>r=if Pr.e n.p≠0 then([],Pr.e n.p) else QOp.op n.o n.x n.y) fun n_4=>.ex (fun(x:Pr×List UInt8×List UInt8)=>eqL [AV.ptr 0 0,AV.str n_3.1,AV.str n_4.1] [AV.ptr 0 0,AV.str x.2.1,AV.str x.2.2]∧eqH [.box [AV.str (Pr.n (Pr.err n.p n_4.2)),AV.str (Pr.m (Pr.err n.p n_4.2)),AV.str (Pr.d (Pr.err n.p n_4.2)),AV.str (Pr.c (Pr.err n.p n_4.2)),AV.int .i64 (Pr.e (Pr.err n.p n_4.2))]] [.box [AV.str x.1.n,AV.str x.1.m,AV.str x.1.d,AV.str x.1.c,AV.int .i64 x.1.e]]∧1=1∧x.2.1.length<4611686018427387904∧x.2.2.length<4611686018427387904) fun n_5=>.all (fun(r:List UInt8×Int)=>r=if Pr.e n_5.1≠0 then([],Pr.e n_5.1) else jZ n_5.2.1 n_5.2.2) fun n_6=>.leaf (.ret [.str n_6.1,.int .i64 n_6.2] [.box [.str n_5.1.n,.str n_5.1.m,.str n_5.1.d,.str n_5.1.c,.int .i64 n_5.1.e],.box [.ptr 0 0],.box [.fn (QOp.fn n.o) [] []]])))))))) (by kernel_rfl) ?_
 simp only [Tree.holds,zd]
 refine⟨(a,b),⟨⟨rfl,rfl,trivial⟩,trivial,by trivial,by show a.length<_; omega,by show b.length<_; omega⟩,⟨_,rfl⟩,?_⟩
 intro p hp
 have hc:=xc a b
 obtain⟨l1,l2,l3,l4⟩:=uy a b
 rw [← hp] at hc l1 l2 l3 l4
 refine⟨(p,.mul),⟨kx_k _,kx_b p,by trivial,trivial⟩,⟨(),trivial⟩,?_⟩
 intro _ _
 iterate 4 refine⟨by decide,fun _=> ?_⟩
 refine⟨⟨p,.mul,p.n,p.m⟩,⟨kx_l _ _,kx_h (p) _,by trivial,by show(p.n).length<_; omega,by show(p.m).length<_; omega,by trivial⟩,⟨_,rfl⟩,?_⟩
 intro r1 hr1
 have kr1:=jF _ _ _ _ hr1
 iterate 2 refine⟨rfl,fun _=> ?_⟩
 refine⟨⟨p.err r1.2,.mul,p.d,p.c⟩,⟨kx_l _ _,kx_h (p.err r1.2) _,by trivial,by show(p.d).length<_; omega,by show(p.c).length<_; omega,by trivial⟩,⟨_,rfl⟩,?_⟩
 intro r2 hr2
 have kr2:=jF _ _ _ _ hr2
 refine⟨((p.err r1.2).err r2.2,r1.1,r2.1),⟨kx_m _ _,kx_b _,by trivial,by show(r1.1).length<_; omega,by show(r2.1).length<_; omega⟩,⟨_,rfl⟩,?_⟩
 intro r3 hr3
 have hv:errR a=0→errR b=0→z8 p.n p.m=0∧z8 p.d p.c=0:=by
  intro ha hb
  obtain⟨a1,a2,_⟩:=qH ha
  obtain⟨b1,b2,_⟩:=qH hb
  rcases hc with ⟨g1,g2⟩ | ⟨_,_,_,g1,g2,g3,g4⟩
  ·exact absurd g2 (by unfold jy; rw [if_pos ha,hb]; exact fun h=>g1 h.symm)
  ·rw [g1,g2,g3,g4]; exact⟨zq.2 ⟨a1,b1⟩,zq.2 ⟨a2,b2⟩⟩
 have hfin:=zbd hc hr1 hr2 hr3 hv
 have e:r3=mulR a b:=by
  rw [hfin]
  unfold mulR
  rcases hc with ⟨g1,g2⟩ | ⟨_,_,_,g1,g2,g3,g4⟩
  ·rw [if_pos (by rw [g2]; exact g1),if_pos (by rw [g2]; exact g1)]
  ·rw [g1,g2,g3,g4]
 rw [← e] at hq
 exact RetR.scal hq rfl (by simp [resV])
theorem zi4:zf Tryz.prog 47 zim:=by
 refine zi (fn:=Tryz.f47) (c:=Tryz.f47.body.getD .skip) rfl rfl rfl fun p hp O w0 Q hq=> ?_
 obtain⟨a,b⟩:=p
 obtain⟨h1,h2⟩:=hp
 replace hq:=hq _ rfl
 simp only at h1 h2 hq
 refine zc.run hmix Xx [] 400 (T:=.ex (fun(x:List UInt8×List UInt8)=>eqL [AV.str a,AV.str b] [AV.str x.1,AV.str x.2]∧eqH [] []∧0=0∧x.1.length<4611686018427387904∧x.2.length<4611686018427387904) fun n=>.all (fun(r:Pr)=>r=jo n.1 n.2) fun n=>.ex (fun(x:Pr×QOp)=>eqL [AV.ptr 0 0,AV.fn 92 [] []] [AV.ptr 0 0,AV.fn (QOp.fn x.2) [] []]∧eqH [.box [AV.str n.n,AV.str n.m,AV.str n.d,AV.str n.c,AV.int .i64 n.e]] [.box [AV.str x.1.n,AV.str x.1.m,AV.str x.1.d,AV.str x.1.c,AV.int .i64 x.1.e]]∧1=1∧True) fun n=>.all (fun(x:Unit)=>True) fun n_1=>.side ((0:Int)≤0∧(0:Int)<2) (.side ((0:Int)≤1∧(1:Int)<2) (.side ((0:Int)≤1∧(1:Int)<2) (.side ((0:Int)≤0∧(0:Int)<2) (.ex (fun(x:KX)=>eqL [AV.str n.1.n,AV.str n.1.c,AV.ptr 0 0,AV.ptr 2 0] [AV.str x.x,AV.str x.y,AV.ptr 0 0,AV.ptr 2 0]∧eqH [.box [AV.ptr 1 0],.box [AV.str n.1.n,AV.str n.1.m,AV.str n.1.d,AV.str n.1.c,AV.int .i64 n.1.e],.box [AV.fn (QOp.fn n.2) [] []]] [.box [AV.ptr 1 0],.box [AV.str x.p.n,AV.str x.p.m,AV.str x.p.d,AV.str x.p.c,AV.int .i64 x.p.e],.box [AV.fn (QOp.fn x.o) [] []]]∧3=3∧x.x.length<4611686018427387904∧x.y.length<4611686018427387904∧QOp.has x.o) fun n_2=>.all (fun(r:List UInt8×Int)=>r=if Pr.e n_2.p≠0 then([],Pr.e n_2.p) else QOp.op n_2.o n_2.x n_2.y) fun n_3=>.side (Pr.d (Pr.err n_2.p n_3.2)=Pr.d n.1) (.side (Pr.m (Pr.err n_2.p n_3.2)=Pr.m n.1) (.ex (fun(x:KX)=>eqL [AV.str n.1.m,AV.str n.1.d,AV.ptr 0 0,AV.ptr 2 0] [AV.str x.x,AV.str x.y,AV.ptr 0 0,AV.ptr 2 0]∧eqH [.box [AV.ptr 1 0],.box [AV.str (Pr.n (Pr.err n_2.p n_3.2)),AV.str (Pr.m (Pr.err n_2.p n_3.2)),AV.str (Pr.d (Pr.err n_2.p n_3.2)),AV.str (Pr.c (Pr.err n_2.p n_3.2)),AV.int .i64 (Pr.e (Pr.err n_2.p n_3.2))],.box [AV.fn (QOp.fn n_2.o) [] []]] [.box [AV.ptr 1 0],.box [AV.str x.p.n,AV.str x.p.m,AV.str x.p.d,AV.str x.p.c,AV.int .i64 x.p.e],.box [AV.fn (QOp.fn x.o) [] []]]∧3=3∧x.x.length<4611686018427387904∧x.y.length<4611686018427387904∧QOp.has x.o) fun n=>.all (fun(r:List UInt8×Int)=>r=if Pr.e n.p≠0 then([],Pr.e n.p) else QOp.op n.o n.x n.y) fun n_4=>.ite (!decide (Pr.e (Pr.err n.p n_4.2)=(0:Int))) (.leaf (.ret [.int .i64 0,.int .i64 (Pr.e (Pr.err n.p n_4.2))] [.box [.str (Pr.n (Pr.err n.p n_4.2)),.str (Pr.m (Pr.err n.p n_4.2)),.str (Pr.d (Pr.err n.p n_4.2)),.str (Pr.c (Pr.err n.p n_4.2)),.int .i64 (Pr.e (Pr.err n.p n_4.2))],.box [.ptr 0 0],.box [.fn (QOp.fn n.o) [] []]])) (.ex (fun(x:List UInt8×List UInt8)=>eqL [AV.str n_3.1,AV.str n_4.1] [AV.str x.1,AV.str x.2]∧x.1.length<4611686018427387904∧x.2.length<4611686018427387904) fun n_5=>.all (fun(r:Int×Int)=>r=Zi n_5.1 n_5.2) fun n_6=>.leaf (.ret [.int .i64 n_6.1,.int .i64 n_6.2] [.box [.str (Pr.n (Pr.err n.p n_4.2)),.str (Pr.m (Pr.err n.p n_4.2)),.str (Pr.d (Pr.err n.p n_4.2)),.str (Pr.c (Pr.err n.p n_4.2)),.int .i64 (Pr.e (Pr.err n.p n_4.2))],.box [.ptr 0 0],.box [.fn (QOp.fn n.o) [] []]]))))))))) (by kernel_rfl) ?_
 simp only [Tree.holds,zd]
 refine⟨(a,b),⟨⟨rfl,rfl,trivial⟩,trivial,by trivial,by show a.length<_; omega,by show b.length<_; omega⟩,⟨_,rfl⟩,?_⟩
 intro p hp
 have hc:=xc a b
 obtain⟨l1,l2,l3,l4⟩:=uy a b
 rw [← hp] at hc l1 l2 l3 l4
 refine⟨(p,.mul),⟨kx_k _,kx_b p,by trivial,trivial⟩,⟨(),trivial⟩,?_⟩
 intro _ _
 iterate 4 refine⟨by decide,fun _=> ?_⟩
 refine⟨⟨p,.mul,p.n,p.c⟩,⟨kx_l _ _,kx_h (p) _,by trivial,by show(p.n).length<_; omega,by show(p.c).length<_; omega,by trivial⟩,⟨_,rfl⟩,?_⟩
 intro r1 hr1
 have kr1:=jF _ _ _ _ hr1
 iterate 2 refine⟨rfl,fun _=> ?_⟩
 refine⟨⟨p.err r1.2,.mul,p.m,p.d⟩,⟨kx_l _ _,kx_h (p.err r1.2) _,by trivial,by show(p.m).length<_; omega,by show(p.d).length<_; omega,by trivial⟩,⟨_,rfl⟩,?_⟩
 intro r2 hr2
 have kr2:=jF _ _ _ _ hr2
 have hfin:=zaq hc hr1 hr2
 refine⟨fun h=> ?_,fun h=>⟨(r1.1,r2.1),⟨⟨rfl,rfl,trivial⟩,by show r1.1.length<_; omega,by show r2.1.length<_; omega⟩,⟨_,rfl⟩,?_⟩⟩
 ·have h:r2.2≠0:=by
   intro h0
   have h':(!decide (r2.2=0))=true:=h
   rw [h0] at h'; cases h'
  rw [if_pos h] at hfin
  rw [← hfin] at hq
  exact RetR.scal hq rfl (by simp [resV,Pr.err])
 ·have h:r2.2=0:=by
   have h':(!decide (r2.2=0))=false:=h
   cases hd:decide (r2.2=0) with
   | true=>exact of_decide_eq_true hd
   | false=>rw [hd] at h'; cases h'
  rw [if_neg (by rw [h]; simp)] at hfin
  rintro _ rfl
  rw [← hfin] at hq
  exact RetR.scal hq rfl (by simp [resV])
end Go.Proofs.Tryz
end
section
namespace Go.Nov
end Go.Nov
end
section
set_option maxRecDepth 100000
open Go Go.Sx Go.Proofs Go.Nov
namespace Go.Proofs.Tryz
attribute [local simp] eqKV eqA eqA0 eqH eqB eqL eqL0
structure Q4 where
 n:List UInt8
 d:List UInt8
 m:List UInt8
 c:List UInt8
 e:Int
structure QF where
 n:List UInt8
 d:List UInt8
 e:Int
 f:Int
noncomputable def K120:List Go.Sx.Item:=[.code (Tryz.f120.body.getD .skip)]
def nanS:Ctr:=ctrP true (fun s:List UInt8=>[.str s]) (fun _=>True) (fun s r=>r=false) (fun _ (r:Bool)=>(.bool r,[]))
def nanI:Ctr:=ctrP true (fun x:Int=>[.int .i64 x]) (fun _=>True) (fun s r=>r=false) (fun _ (r:Bool)=>(.bool r,[]))
theorem zga:zf Tryz.prog 145 nanS:=by
 refine zi (fn:=Tryz.f145) (c:=Tryz.f145.body.getD .skip) rfl rfl rfl fun s hs O w0 Q hq=> ?_
 replace hq:=hq _ rfl
 refine zc.run hmix zD [] 400 (T:=.leaf (.ret [.bool !decide (s=s)] [])) (by kernel_rfl) ?_
 simp only [Tree.holds,zd]
 exact RetR.scal hq rfl (by simp [resV])
theorem zhv:zf Tryz.prog 146 nanI:=by
 refine zi (fn:=Tryz.f146) (c:=Tryz.f146.body.getD .skip) rfl rfl rfl fun s hs O w0 Q hq=> ?_
 replace hq:=hq _ rfl
 refine zc.run hmix zD [] 400 (T:=.leaf (.ret [.bool !decide (s=s)] [])) (by kernel_rfl) ?_
 simp only [Tree.holds,zd]
 exact RetR.scal hq rfl (by simp [resV])
def zix:Ctr:=ctrP true (fun p:List UInt8×List UInt8=>[.str p.1,.str p.2]) (fun _=>True) (fun p r=>r=cmpS p.1 p.2) (fun _ (r:Int)=>(.int .i64 r,[]))
def zj4:Ctr:=ctrP true (fun p:Int×Int=>[.int .i64 p.1,.int .i64 p.2]) (fun _=>True) (fun p r=>r=cmpI p.1 p.2) (fun _ (r:Int)=>(.int .i64 r,[]))
noncomputable def GN2:Nat→Option Ctr:=fun f=>if f=145 then some (nanS) else if f=146 then some (nanI) else none
theorem zbj:∀ g c,GN2 g=some c→zf Tryz.prog g c:=okIf zga (okIf zhv (zx))
theorem zhk:zf Tryz.prog 121 zix:=by
 refine zi (fn:=Tryz.f121) (c:=Tryz.f121.body.getD .skip) rfl rfl rfl fun p hs O w0 Q hq=> ?_
 obtain⟨s,t⟩:=p
 replace hq:=hq _ rfl
 simp only at hq
 refine zc.run hmix zbj [] 400 (T:=.ex (fun(x:List UInt8)=>eqL [AV.str s] [AV.str x]∧True) fun n=>.all (fun(r:Bool)=>r=false) fun n=>.ex (fun(x:List UInt8)=>eqL [AV.str t] [AV.str x]∧True) fun n_1=>.all (fun(r:Bool)=>r=false) fun n_2=>.ite n (.ite n_2 (.leaf (.ret [.int .i64 0] [])) (.leaf (.ret [.int .i64 (-1:Int)] []))) (.ite n_2 (.leaf (.ret [.int .i64 1] [])) (.ite (Op.bytesLess s t) (.leaf (.ret [.int .i64 (-1:Int)] [])) (.ite (!(Op.bytesLess s t||decide (s=t))) (.leaf (.ret [.int .i64 1] [])) (.leaf (.ret [.int .i64 0] [])))))) (by kernel_rfl) ?_
 simp only [Tree.holds,zd]
 refine⟨s,⟨by simp,trivial⟩,⟨_,rfl⟩,?_⟩
 rintro _ rfl
 refine⟨t,⟨by simp,trivial⟩,⟨_,rfl⟩,?_⟩
 rintro _ rfl
 refine⟨fun h=>(by cases h),fun _=>⟨fun h=>(by cases h),fun _=>⟨fun h=> ?_,fun h=>⟨fun h2=> ?_,fun h2=> ?_⟩⟩⟩⟩
 ·have:cmpS s t = -1:=by simp [cmpS,h]
  rw [this] at hq; exact RetR.scal hq rfl (by simp [resV])
 ·have h2:s≠t:=by simpa [h] using h2
  have:cmpS s t=1:=by simp [cmpS,h,h2]
  rw [this] at hq; exact RetR.scal hq rfl (by simp [resV])
 ·have h2:s=t:=by simpa [h] using h2
  subst h2
  have:cmpS s s=0:=by simp [cmpS,h]
  rw [this] at hq; exact RetR.scal hq rfl (by simp [resV])
theorem zhh:zf Tryz.prog 122 zj4:=by
 refine zi (fn:=Tryz.f122) (c:=Tryz.f122.body.getD .skip) rfl rfl rfl fun p hs O w0 Q hq=> ?_
 obtain⟨s,t⟩:=p
 replace hq:=hq _ rfl
 simp only at hq
 refine zc.run hmix zbj [] 400 (T:=.ex (fun(x:Int)=>eqL [AV.int .i64 s] [AV.int .i64 x]∧True) fun n=>.all (fun(r:Bool)=>r=false) fun n=>.ex (fun(x:Int)=>eqL [AV.int .i64 t] [AV.int .i64 x]∧True) fun n_1=>.all (fun(r:Bool)=>r=false) fun n_2=>.ite n (.ite n_2 (.leaf (.ret [.int .i64 0] [])) (.leaf (.ret [.int .i64 (-1:Int)] []))) (.ite n_2 (.leaf (.ret [.int .i64 1] [])) (.ite (decide (s<t)) (.leaf (.ret [.int .i64 (-1:Int)] [])) (.ite (decide (t<s)) (.leaf (.ret [.int .i64 1] [])) (.leaf (.ret [.int .i64 0] [])))))) (by kernel_rfl) ?_
 simp only [Tree.holds,zd]
 refine⟨s,⟨by simp,trivial⟩,⟨_,rfl⟩,?_⟩
 rintro _ rfl
 refine⟨t,⟨by simp,trivial⟩,⟨_,rfl⟩,?_⟩
 rintro _ rfl
 refine⟨fun h=>(by cases h),fun _=>⟨fun h=>(by cases h),fun _=>⟨fun h=> ?_,fun h=>⟨fun h2=> ?_,fun h2=> ?_⟩⟩⟩⟩
 ·have h:=of_decide_eq_true h
  have:cmpI s t = -1:=by simp [cmpI,h]
  rw [this] at hq; exact RetR.scal hq rfl (by simp [resV])
 ·have h:=of_decide_eq_false h
  have h2:=of_decide_eq_true h2
  have:cmpI s t=1:=by simp [cmpI,h,h2]
  rw [this] at hq; exact RetR.scal hq rfl (by simp [resV])
 ·have h:=of_decide_eq_false h
  have h2:=of_decide_eq_false h2
  have:cmpI s t=0:=by simp [cmpI,h,h2]
  rw [this] at hq; exact RetR.scal hq rfl (by simp [resV])
def orC:Ctr:=ctrP true (fun l:List Int=>[.sl l.length 1 (fun j _=>.int .i64 (l.getD j 0))]) (fun l=>l.length<2^40) (fun l r=>r=orI l) (fun _ (r:Int)=>(.int .i64 r,[]))
def SOr(l:List Int)(i:Nat):KV:=[(3,.int .i64 0),(6,.sl l.length 1 (fun j _=>.int .i64 (l.getD j 0))),(7,.int .i64 (l.length:Int)),(8,.int .i64 (i:Int))]
theorem zkz:zf Tryz.prog 120 orC:=by
 refine zi (fn:=Tryz.f120) (c:=Tryz.f120.body.getD .skip) rfl rfl rfl fun l hl O w0 Q hq=> ?_
 replace hq:=hq _ rfl
 refine zc.run hmix zD [3,6,7,8] 400 (T:=.leaf (.loop (Prod.fst (lps K120 0)) (Prod.snd (lps K120 0)) [(3,.int .i64 0),(6,.sl l.length 1 fun(j x:Nat)=>.int .i64 (l.getD j (0:Int))),(7,.int .i64 l.length),(8,.int .i64 0)] [])) (by kernel_rfl) ?_
 simp only [Tree.holds,zd]
 refine zc.loop (ι:={i:Nat // i≤l.length∧orI (l.drop i)=orI l}) (fun i=>SOr l i.1) (fun _=>[]) (fun i=>l.length - i.1) ⟨0,Nat.zero_le _,rfl⟩ 0 ?_ ?_ (by kernel_rfl)
 ·exact⟨by simp [SOr,zb],by simp,by kernel_rfl,Nat.zero_le _⟩
 ·rintro⟨i,hil,hio⟩
  refine zc.run hmix zD [3,6,7,8] 400 (T:=.ite (decide ((↑i:Int)<l.length)) (.side ((0:Int)≤i∧(↑i:Int)<l.length) (.ite (!decide (l.getD (↑i:Int).toNat (0:Int)=0)) (.leaf (.ret [.int .i64 (l.getD (↑i:Int).toNat (0:Int))] [])) (.side (inR .i64 ((↑i:Int)+(1:Int))) (.leaf (.back 0 [(3,.int .i64 0),(6,.sl l.length 1 fun(j x:Nat)=>.int .i64 (l.getD j (0:Int))),(7,.int .i64 l.length),(8,.int .i64 ((↑i:Int)+(1:Int)))] []))))) (.leaf (.ret [.int .i64 0] []))) (by kernel_rfl) ?_
  simp only [Tree.holds,zd,inR,lo,hi,Int.toNat_natCast]
  refine⟨fun hlt=> ?_,fun hge=> ?_⟩
  ·have hlt:i<l.length:=by have:=of_decide_eq_true hlt; omega
   have hd:l.drop i=l.getD i 0::l.drop (i+1):=by
    rw [List.drop_eq_getElem_cons hlt]; simp [List.getD,hlt]
   rw [hd] at hio
   refine⟨by omega,fun _=>⟨fun h=> ?_,fun h=>⟨by omega,fun _=> ?_⟩⟩⟩
   ·have h:l.getD i 0≠0:=by simpa using h
    have:orI l=l.getD i 0:=by rw [← hio]; simp only [orI]; rw [if_neg h]
    rw [this] at hq; exact RetR.scal hq rfl (by simp [resV])
   ·have h:l.getD i 0=0:=by simpa using h
    rw [if_pos trivial]
    refine⟨⟨i+1,hlt,?_⟩,by show l.length - (i+1)<l.length - i; omega,by simp [SOr,zb],by simp,by kernel_rfl,Nat.zero_le _⟩
    rw [← hio]; simp only [orI]; rw [if_pos h]
  ·have hge:i=l.length:=by have:=of_decide_eq_false hge; omega
   subst hge
   rw [List.drop_length] at hio
   rw [← hio] at hq; exact RetR.scal hq rfl (by simp [resV,orI])
def K4:Ctr:=ctrP true (fun p:Fx×Fx=>[p.1.av,p.2.av]) (fun _=>True) (fun p r=>r=cmpF p.1 p.2) (fun _ (r:Int)=>(.int .i64 r,[]))
def KZ:Ctr:=ctrP true (fun p:Ch×Ch=>[p.1.av,p.2.av]) (fun _=>True) (fun p r=>r=cmpC p.1 p.2) (fun _ (r:Int)=>(.int .i64 r,[]))
noncomputable def GN3:Nat→Option Ctr:=fun f=>if f=121 then some (zix) else if f=122 then some (zj4) else if f=120 then some (orC) else none
theorem zch:∀ g c,GN3 g=some c→zf Tryz.prog g c:=okIf zhk (okIf zhh (okIf zkz (zx)))
theorem zae(x y:Int):eqG 2 1 (zg (zh 1 [.int .i64 x,.int .i64 y]) 0) (fun j _=>.int .i64 ([x,y].getD j 0)):=by
 intro j o hj ho
 have ho:o=0:=by omega
 subst ho
 rcases j with _ | _ | j
 ·rfl
 ·rfl
 ·omega
theorem zbe(x y z:Int):eqG 3 1 (zg (zh 1 [.int .i64 x,.int .i64 y,.int .i64 z]) 0) (fun j _=>.int .i64 ([x,y,z].getD j 0)):=by
 intro j o hj ho
 have ho:o=0:=by omega
 subst ho
 rcases j with _ | _ | _ | j
 ·rfl
 ·rfl
 ·rfl
 ·omega
theorem XJ:zf Tryz.prog 72 K4:=by
 refine zi (fn:=Tryz.f72) (c:=Tryz.f72.body.getD .skip) rfl rfl rfl fun p hs O w0 Q hq=> ?_
 obtain⟨⟨a,d,v⟩,⟨b,e,u⟩⟩:=p
 replace hq:=hq _ rfl
 simp only at hq
 refine zc.run hmix zch [] 400 (T:=.ex (fun(x:List UInt8×List UInt8)=>eqL [AV.str a,AV.str b] [AV.str x.1,AV.str x.2]∧True) fun n=>.all (fun(r:Int)=>r=cmpS n.1 n.2) fun n=>.ex (fun(x:Int×Int)=>eqL [AV.int .i64 d,AV.int .i64 e] [AV.int .i64 x.1,AV.int .i64 x.2]∧True) fun n_1=>.all (fun(r:Int)=>r=cmpI n_1.1 n_1.2) fun n_2=>.ex (fun(x:List Int)=>eqL [AV.sl 2 1 (zg (zh 1 [AV.int .i64 n,AV.int .i64 n_2]) 0)] [AV.sl x.length 1 fun(j x_1:Nat)=>AV.int .i64 (x.getD j (0:Int))]∧x.length<1099511627776) fun n_3=>.all (fun(r:Int)=>r=orI n_3) fun n_4=>.leaf (.ret [.int .i64 n_4] [.box [.str a,.int .i64 d,.str v],.box [.str b,.int .i64 e,.str u],.arr 2 1 (zh 1 [.int .i64 n,.int .i64 n_2])])) (by kernel_rfl) ?_
 simp only [Tree.holds,zd]
 refine⟨(a,b),⟨by simp,trivial⟩,⟨_,rfl⟩,?_⟩
 rintro _ rfl
 refine⟨(d,e),⟨by simp,trivial⟩,⟨_,rfl⟩,?_⟩
 rintro _ rfl
 refine⟨[cmpS a b,cmpI d e],⟨⟨⟨rfl,rfl,zae _ _⟩,trivial⟩,by simp⟩,⟨_,rfl⟩,?_⟩
 rintro _ rfl
 have:orI [cmpS a b,cmpI d e]=cmpF ⟨a,d,v⟩ ⟨b,e,u⟩:=by
  simp only [orI,cmpF]
  by_cases h:cmpS a b=0
  ·simp only [h,if_true]; split<;>simp_all
  ·simp only [if_neg h]
 rw [this]
 exact RetR.scal hq rfl (by simp [resV])
theorem Y1:zf Tryz.prog 74 KZ:=by
 refine zi (fn:=Tryz.f74) (c:=Tryz.f74.body.getD .skip) rfl rfl rfl fun p hs O w0 Q hq=> ?_
 obtain⟨⟨a,d,v,f⟩,⟨b,e,u,g⟩⟩:=p
 replace hq:=hq _ rfl
 simp only at hq
 refine zc.run hmix zch [] 400 (T:=.ex (fun(x:List UInt8×List UInt8)=>eqL [AV.str a,AV.str b] [AV.str x.1,AV.str x.2]∧True) fun n=>.all (fun(r:Int)=>r=cmpS n.1 n.2) fun n=>.ex (fun(x:List UInt8×List UInt8)=>eqL [AV.str d,AV.str e] [AV.str x.1,AV.str x.2]∧True) fun n_1=>.all (fun(r:Int)=>r=cmpS n_1.1 n_1.2) fun n_2=>.ex (fun(x:Int×Int)=>eqL [AV.int .i64 v,AV.int .i64 u] [AV.int .i64 x.1,AV.int .i64 x.2]∧True) fun n_3=>.all (fun(r:Int)=>r=cmpI n_3.1 n_3.2) fun n_4=>.ex (fun(x:List Int)=>eqL [AV.sl 3 1 (zg (zh 1 [AV.int .i64 n,AV.int .i64 n_2,AV.int .i64 n_4]) 0)] [AV.sl x.length 1 fun(j x_1:Nat)=>AV.int .i64 (x.getD j (0:Int))]∧x.length<1099511627776) fun n_5=>.all (fun(r:Int)=>r=orI n_5) fun n_6=>.leaf (.ret [.int .i64 n_6] [.box [.str a,.str d,.int .i64 v,.bool f],.box [.str b,.str e,.int .i64 u,.bool g],.arr 3 1 (zh 1 [.int .i64 n,.int .i64 n_2,.int .i64 n_4])])) (by kernel_rfl) ?_
 simp only [Tree.holds,zd]
 refine⟨(a,b),⟨by simp,trivial⟩,⟨_,rfl⟩,?_⟩
 rintro _ rfl
 refine⟨(d,e),⟨by simp,trivial⟩,⟨_,rfl⟩,?_⟩
 rintro _ rfl
 refine⟨(v,u),⟨by simp,trivial⟩,⟨_,rfl⟩,?_⟩
 rintro _ rfl
 refine⟨[cmpS a b,cmpS d e,cmpI v u],⟨⟨⟨rfl,rfl,zbe _ _ _⟩,trivial⟩,by simp⟩,⟨_,rfl⟩,?_⟩
 rintro _ rfl
 have:orI [cmpS a b,cmpS d e,cmpI v u]=cmpC ⟨a,d,v,f⟩ ⟨b,e,u,g⟩:=by
  simp only [orI,cmpC]
  by_cases h:cmpS a b=0
  ·simp only [h,if_true]
   by_cases h2:cmpS d e=0
   ·simp only [h2,if_true]; split<;>simp_all
   ·simp only [if_neg h2]
  ·simp only [if_neg h]
 rw [this]
 exact RetR.scal hq rfl (by simp [resV])
noncomputable def K118:List Go.Sx.Item:=[.code (Tryz.f118.body.getD .skip)]
noncomputable def K119:List Go.Sx.Item:=[.code (Tryz.f119.body.getD .skip)]
noncomputable def K71:List Go.Sx.Item:=[.code (Tryz.f71.body.getD .skip)]
noncomputable def K73:List Go.Sx.Item:=[.code (Tryz.f73.body.getD .skip)]
def xa(f:Fx):Prop:=f.name.length<2^40∧f.value.length<2^40
def xw(c:Ch):Prop:=c.jL.length<2^40∧c.name.length<2^40
def zid:Ctr:=ctrP true (fun f:Fx=>[f.av]) xa (fun f r=>r = !okF f) (fun _ (r:Bool)=>(.bool r,[]))
def ziv:Ctr:=ctrP true (fun c:Ch=>[c.av]) xw (fun c r=>r = !okC c) (fun _ (r:Bool)=>(.bool r,[]))
noncomputable def GE1:Nat→Option Ctr:=fun f=>if f=49 then some (JI) else if f=67 then some (Vt) else if f=50 then some (yy) else none
theorem zbm:∀ g c,GE1 g=some c→zf Tryz.prog g c:=okIf Zs (okIf JH (okIf xE (zx)))
theorem zhd:zf Tryz.prog 66 zid:=by
 refine zi (fn:=Tryz.f66) (c:=Tryz.f66.body.getD .skip) rfl rfl rfl fun f hs O w0 Q hq=> ?_
 obtain⟨a,d,v⟩:=f
 obtain⟨h1,h2⟩:=hs
 replace hq:=hq _ rfl
 simp only [okF] at hq h1 h2
 refine zc.run hmix zbm [] 400 (T:=.ex (fun(x:List UInt8)=>eqL [AV.str a] [AV.str x]∧x.length<4611686018427387904) fun n=>.all (fun(r:Bool)=>r=zQ n) fun n=>.ex (fun(x:Int)=>(!n)=false→eqL [AV.int .i64 d] [AV.int .i64 x]∧True) fun n_1=>.all (fun(x:Bool)=>(!n)=false→x=dayB n_1) fun n_2=>.ex (fun(x:List UInt8)=>(bif !n then true else !n_2)=false→eqL [AV.str v] [AV.str x]∧x.length<4611686018427387904) fun n_3=>.all (fun(x:Int)=>(bif !n then true else !n_2)=false→x=errR n_3) fun n_4=>.leaf (.ret [.bool (bif bif !n then true else !n_2 then true else !decide (n_4=0))] [.box [.str a,.int .i64 d,.str v]])) (by kernel_rfl) ?_
 simp only [Tree.holds,zd]
 refine⟨a,⟨by simp,by omega⟩,⟨_,rfl⟩,?_⟩
 rintro _ rfl
 refine⟨d,fun _=>⟨by simp,trivial⟩,⟨_,fun _=>rfl⟩,?_⟩
 intro x hx
 refine⟨v,fun _=>⟨by simp,by omega⟩,⟨_,fun _=>rfl⟩,?_⟩
 intro y hy
 refine RetR.scal hq rfl ?_
 simp only [resV]
 cases hn:zQ a with
 | false=>rfl
 | true=>
  rw [hx (by rw [hn]; rfl)] at hy ⊢
  cases hd:dayB d with
  | false=>rfl
  | true=>rw [hy (by rw [hn,hd]; rfl)]; rfl
theorem zi1:zf Tryz.prog 68 ziv:=by
 refine zi (fn:=Tryz.f68) (c:=Tryz.f68.body.getD .skip) rfl rfl rfl fun f hs O w0 Q hq=> ?_
 obtain⟨a,v,d,f⟩:=f
 obtain⟨h1,h2⟩:=hs
 replace hq:=hq _ rfl
 simp only [okC] at hq h1 h2
 refine zc.run hmix zbm [] 400 (T:=.ex (fun(x:List UInt8)=>eqL [AV.str a] [AV.str x]∧x.length<4611686018427387904) fun n=>.all (fun(r:Bool)=>r=zQ n) fun n=>.ex (fun(x:List UInt8)=>(!n)=false→eqL [AV.str v] [AV.str x]∧x.length<4611686018427387904) fun n_1=>.all (fun(x:Bool)=>(!n)=false→x=zQ n_1) fun n_2=>.ex (fun(x:Int)=>(bif !n then true else !n_2)=false→eqL [AV.int .i64 d] [AV.int .i64 x]∧True) fun n_3=>.all (fun(x:Bool)=>(bif !n then true else !n_2)=false→x=dayB n_3) fun n_4=>.leaf (.ret [.bool (bif bif !n then true else !n_2 then true else !n_4)] [.box [.str a,.str v,.int .i64 d,.bool f]])) (by kernel_rfl) ?_
 simp only [Tree.holds,zd]
 refine⟨a,⟨by simp,by omega⟩,⟨_,rfl⟩,?_⟩
 rintro _ rfl
 refine⟨v,fun _=>⟨by simp,by omega⟩,⟨_,fun _=>rfl⟩,?_⟩
 intro x hx
 refine⟨d,fun _=>⟨by simp,trivial⟩,⟨_,fun _=>rfl⟩,?_⟩
 intro y hy
 refine RetR.scal hq rfl ?_
 simp only [resV]
 cases hn:zQ a with
 | false=>rfl
 | true=>
  rw [hx (by rw [hn]; rfl)] at hy ⊢
  cases hd:zQ v with
  | false=>rfl
  | true=>rw [hy (by rw [hn,hd]; rfl)]; rfl
def zif:Ctr:=ctrP true (fun l:List Fx=>[fxS l,.fn 66 [] []]) (fun l=>l.length<2^40∧∀ j,j<l.length→xa (l.getD j Fx.nil)) (fun l r=>r=idxB (fun x=> !okF x) l) (fun _ (r:Int)=>(.int .i64 r,[]))
def SIxF(l:List Fx)(i:Nat):KV:=[(0,fxS l),(1,.fn 66 [] []),(7,.int .i64 (l.length:Int)),(8,.int .i64 (i:Int))]
noncomputable def GE2F:Nat→Option Ctr:=fun f=>if f=66 then some (zid) else none
theorem Uf:∀ g c,GE2F g=some c→zf Tryz.prog g c:=okIf zhd (zx)
theorem zfz:zf Tryz.prog 118 zif:=by
 refine zi (fn:=Tryz.f118) (c:=Tryz.f118.body.getD .skip) rfl rfl rfl fun l hl O w0 Q hq=> ?_
 obtain⟨hl,hsm⟩:=hl
 replace hq:=hq _ rfl
 refine zc.run hmix Uf [0,1,7,8] 400 (T:=.leaf (.loop (Prod.fst (lps K118 0)) (Prod.snd (lps K118 0)) [(0,.sl l.length 3 (fxG l)),(1,.fn 66 [] []),(7,.int .i64 l.length),(8,.int .i64 0)] [])) (by kernel_rfl) ?_
 simp only [Tree.holds,zd]
 refine zc.loop (ι:={i:Nat // i≤l.length∧∀ j,j<i→(!okF (l.getD j Fx.nil))=false}) (fun i=>SIxF l i.1) (fun _=>[]) (fun i=>l.length - i.1) ⟨0,Nat.zero_le _,fun j hj=>by omega⟩ 0 ?_ ?_ (by kernel_rfl)
 ·exact⟨by simp [SIxF,fxS,zb],by simp,by kernel_rfl,Nat.zero_le _⟩
 ·rintro⟨i,hil,hib⟩
  refine zc.run hmix Uf [0,1,7,8] 400 (T:=.ite (decide ((↑i:Int)<l.length)) (.side ((0:Int)≤i∧(↑i:Int)<l.length) (.ex (fun(x:Fx)=>eqL [AV.agg [AV.str (Fx.name (l.getD (↑i:Int).toNat Fx.nil)),AV.int .i64 (Fx.date (l.getD (↑i:Int).toNat Fx.nil)),AV.str (Fx.value (l.getD (↑i:Int).toNat Fx.nil))]] [AV.agg [AV.str x.name,AV.int .i64 x.date,AV.str x.value]]∧xa x) fun n=>.all (fun(r:Bool)=>r = !okF n) fun n=>.ite n (.leaf (.ret [.int .i64 i] [])) (.side (inR .i64 ((↑i:Int)+(1:Int))) (.leaf (.back 0 [(0,.sl l.length 3 (fxG l)),(1,.fn 66 [] []),(7,.int .i64 l.length),(8,.int .i64 ((↑i:Int)+(1:Int)))] []))))) (.leaf (.ret [.int .i64 (-1:Int)] []))) (by kernel_rfl) ?_
  simp only [Tree.holds,zd,inR,lo,hi,Int.toNat_natCast]
  refine⟨fun hlt=> ?_,fun hge=> ?_⟩
  ·have hlt:i<l.length:=by have:=of_decide_eq_true hlt; omega
   refine⟨by omega,fun _=>⟨l.getD i Fx.nil,⟨by simp,hsm i hlt⟩,⟨_,rfl⟩,?_⟩⟩
   rintro _ rfl
   refine⟨fun h=> ?_,fun h=>⟨by omega,fun _=> ?_⟩⟩
   ·rw [U5 hlt h hib] at hq
    exact RetR.scal hq rfl (by simp [resV])
   ·rw [if_pos trivial]
    refine⟨⟨i+1,hlt,fun j hj=> ?_⟩,by show l.length - (i+1)<l.length - i; omega,by simp [SIxF,fxS,zb],by simp,by kernel_rfl,Nat.zero_le _⟩
    rcases Nat.lt_or_ge j i with h1 | h1
    ·exact hib j h1
    ·have:j=i:=by omega
     rw [this]; exact h
  ·have hge:i=l.length:=by have:=of_decide_eq_false hge; omega
   subst hge
   rw [JR hib] at hq
   exact RetR.scal hq rfl (by simp [resV])
def ziq:Ctr:=ctrP true (fun l:List Fx=>[fxS l,.fn 66 [] []]) (fun l=>l.length<2^40∧∀ j,j<l.length→xa (l.getD j Fx.nil)) (fun l r=>r=l.any fun x=> !okF x) (fun _ (r:Bool)=>(.bool r,[]))
noncomputable def GE3F:Nat→Option Ctr:=fun f=>if f=118 then some (zif) else none
theorem zg2:∀ g c,GE3F g=some c→zf Tryz.prog g c:=okIf zfz (zx)
theorem zhn:zf Tryz.prog 69 ziq:=by
 refine zi (fn:=Tryz.f69) (c:=Tryz.f69.body.getD .skip) rfl rfl rfl fun l hl O w0 Q hq=> ?_
 replace hq:=hq _ rfl
 refine zc.run hmix zg2 [] 400 (T:=.ex (fun(x:List Fx)=>eqL [AV.sl l.length 3 (fxG l),AV.fn 66 [] []] [AV.sl x.length 3 (fxG x),AV.fn 66 [] []]∧x.length<1099511627776∧∀ (j:Nat),j<x.length→xa (x.getD j Fx.nil)) fun n=>.all (fun(r:Int)=>r=idxB (fun(x:Fx)=> !okF x) n) fun n=>.leaf (.ret [.bool (decide ((0:Int)≤n))] [])) (by kernel_rfl) ?_
 simp only [Tree.holds,zd]
 refine⟨l,⟨by simp [zb],hl⟩,⟨_,rfl⟩,?_⟩
 rintro _ rfl
 rw [← Ks] at hq
 exact RetR.scal hq rfl (by simp [resV])
def zir:Ctr:=ctrP true (fun l:List Ch=>[chS l,.fn 68 [] []]) (fun l=>l.length<2^40∧∀ j,j<l.length→xw (l.getD j Ch.nil)) (fun l r=>r=idxB (fun x=> !okC x) l) (fun _ (r:Int)=>(.int .i64 r,[]))
def SIxC(l:List Ch)(i:Nat):KV:=[(0,chS l),(1,.fn 68 [] []),(7,.int .i64 (l.length:Int)),(8,.int .i64 (i:Int))]
noncomputable def GE2C:Nat→Option Ctr:=fun f=>if f=68 then some (ziv) else none
theorem Uj:∀ g c,GE2C g=some c→zf Tryz.prog g c:=okIf zi1 (zx)
theorem zhe:zf Tryz.prog 119 zir:=by
 refine zi (fn:=Tryz.f119) (c:=Tryz.f119.body.getD .skip) rfl rfl rfl fun l hl O w0 Q hq=> ?_
 obtain⟨hl,hsm⟩:=hl
 replace hq:=hq _ rfl
 refine zc.run hmix Uj [0,1,7,8] 400 (T:=.leaf (.loop (Prod.fst (lps K119 0)) (Prod.snd (lps K119 0)) [(0,.sl l.length 4 (chG l)),(1,.fn 68 [] []),(7,.int .i64 l.length),(8,.int .i64 0)] [])) (by kernel_rfl) ?_
 simp only [Tree.holds,zd]
 refine zc.loop (ι:={i:Nat // i≤l.length∧∀ j,j<i→(!okC (l.getD j Ch.nil))=false}) (fun i=>SIxC l i.1) (fun _=>[]) (fun i=>l.length - i.1) ⟨0,Nat.zero_le _,fun j hj=>by omega⟩ 0 ?_ ?_ (by kernel_rfl)
 ·exact⟨by simp [SIxC,chS,zb],by simp,by kernel_rfl,Nat.zero_le _⟩
 ·rintro⟨i,hil,hib⟩
  refine zc.run hmix Uj [0,1,7,8] 400 (T:=.ite (decide ((↑i:Int)<l.length)) (.side ((0:Int)≤i∧(↑i:Int)<l.length) (.ex (fun(x:Ch)=>eqL [AV.agg [AV.str (Ch.jL (l.getD (↑i:Int).toNat Ch.nil)),AV.str (Ch.name (l.getD (↑i:Int).toNat Ch.nil)),AV.int .i64 (Ch.date (l.getD (↑i:Int).toNat Ch.nil)),AV.bool (Ch.first (l.getD (↑i:Int).toNat Ch.nil))]] [AV.agg [AV.str x.jL,AV.str x.name,AV.int .i64 x.date,AV.bool x.first]]∧xw x) fun n=>.all (fun(r:Bool)=>r = !okC n) fun n=>.ite n (.leaf (.ret [.int .i64 i] [])) (.side (inR .i64 ((↑i:Int)+(1:Int))) (.leaf (.back 0 [(0,.sl l.length 4 (chG l)),(1,.fn 68 [] []),(7,.int .i64 l.length),(8,.int .i64 ((↑i:Int)+(1:Int)))] []))))) (.leaf (.ret [.int .i64 (-1:Int)] []))) (by kernel_rfl) ?_
  simp only [Tree.holds,zd,inR,lo,hi,Int.toNat_natCast]
  refine⟨fun hlt=> ?_,fun hge=> ?_⟩
  ·have hlt:i<l.length:=by have:=of_decide_eq_true hlt; omega
   refine⟨by omega,fun _=>⟨l.getD i Ch.nil,⟨by simp,hsm i hlt⟩,⟨_,rfl⟩,?_⟩⟩
   rintro _ rfl
   refine⟨fun h=> ?_,fun h=>⟨by omega,fun _=> ?_⟩⟩
   ·rw [U5 hlt h hib] at hq
    exact RetR.scal hq rfl (by simp [resV])
   ·rw [if_pos trivial]
    refine⟨⟨i+1,hlt,fun j hj=> ?_⟩,by show l.length - (i+1)<l.length - i; omega,by simp [SIxC,chS,zb],by simp,by kernel_rfl,Nat.zero_le _⟩
    rcases Nat.lt_or_ge j i with h1 | h1
    ·exact hib j h1
    ·have:j=i:=by omega
     rw [this]; exact h
  ·have hge:i=l.length:=by have:=of_decide_eq_false hge; omega
   subst hge
   rw [JR hib] at hq
   exact RetR.scal hq rfl (by simp [resV])
def zit:Ctr:=ctrP true (fun l:List Ch=>[chS l,.fn 68 [] []]) (fun l=>l.length<2^40∧∀ j,j<l.length→xw (l.getD j Ch.nil)) (fun l r=>r=l.any fun x=> !okC x) (fun _ (r:Bool)=>(.bool r,[]))
noncomputable def GE3C:Nat→Option Ctr:=fun f=>if f=119 then some (zir) else none
theorem zht:∀ g c,GE3C g=some c→zf Tryz.prog g c:=okIf zhe (zx)
theorem zi6:zf Tryz.prog 70 zit:=by
 refine zi (fn:=Tryz.f70) (c:=Tryz.f70.body.getD .skip) rfl rfl rfl fun l hl O w0 Q hq=> ?_
 replace hq:=hq _ rfl
 refine zc.run hmix zht [] 400 (T:=.ex (fun(x:List Ch)=>eqL [AV.sl l.length 4 (chG l),AV.fn 68 [] []] [AV.sl x.length 4 (chG x),AV.fn 68 [] []]∧x.length<1099511627776∧∀ (j:Nat),j<x.length→xw (x.getD j Ch.nil)) fun n=>.all (fun(r:Int)=>r=idxB (fun(x:Ch)=> !okC x) n) fun n=>.leaf (.ret [.bool (decide ((0:Int)≤n))] [])) (by kernel_rfl) ?_
 simp only [Tree.holds,zd]
 refine⟨l,⟨by simp [zb],hl⟩,⟨_,rfl⟩,?_⟩
 rintro _ rfl
 rw [← Ks] at hq
 exact RetR.scal hq rfl (by simp [resV])
def ziu:Ctr:=ctrP true (fun l:List Fx=>[fxS l,.fn 72 [] []]) (fun l=>l.length<2^40) (fun l r=>r=ordB cmpF Fx.nil l) (fun _ (r:Bool)=>(.bool r,[]))
def SOdF(l:List Fx)(i:Nat):KV:=[(0,fxS l),(1,.fn 72 [] []),(5,.int .i64 (i:Int))]
noncomputable def GE4F:Nat→Option Ctr:=fun f=>if f=72 then some (K4) else none
theorem UE:∀ g c,GE4F g=some c→zf Tryz.prog g c:=okIf XJ (zx)
theorem zgb:zf Tryz.prog 71 ziu:=by
 refine zi (fn:=Tryz.f71) (c:=Tryz.f71.body.getD .skip) rfl rfl rfl fun l hl O w0 Q hq=> ?_
 replace hq:=hq _ rfl
 refine zc.run hmix UE [0,1,5] 400 (T:=.leaf (.loop (Prod.fst (lps K71 0)) (Prod.snd (lps K71 0)) [(0,.sl l.length 3 (fxG l)),(1,.fn 72 [] []),(5,.int .i64 1)] [])) (by kernel_rfl) ?_
 simp only [Tree.holds,zd]
 refine zc.loop (ι:={i:Nat // 0<i∧(i≤l.length∨i=1)∧∀ j,j+1<i→cmpF (l.getD j Fx.nil) (l.getD (j+1) Fx.nil)<0}) (fun i=>SOdF l i.1) (fun _=>[]) (fun i=>l.length - i.1) ⟨1,Nat.one_pos,.inr rfl,fun j hj=>by omega⟩ 0 ?_ ?_ (by kernel_rfl)
 ·exact⟨by simp [SOdF,fxS,zb],by simp,by kernel_rfl,Nat.zero_le _⟩
 ·rintro⟨i,hi0,hil,hib⟩
  refine zc.run hmix UE [0,1,5] 400 (T:=.ite (decide ((↑i:Int)<l.length)) (.side (inR .i64 ((↑i:Int) - (1:Int))) (.side ((0:Int)≤i - (1:Int)∧(↑i:Int) - (1:Int)<l.length) (.side ((0:Int)≤i∧(↑i:Int)<l.length) (.ex (fun(x:Fx×Fx)=>eqL [AV.agg [AV.str (Fx.name (l.getD (Int.toNat ((↑i:Int) - (1:Int))) Fx.nil)),AV.int .i64 (Fx.date (l.getD (Int.toNat ((↑i:Int) - (1:Int))) Fx.nil)),AV.str (Fx.value (l.getD (Int.toNat ((↑i:Int) - (1:Int))) Fx.nil))],AV.agg [AV.str (Fx.name (l.getD (↑i:Int).toNat Fx.nil)),AV.int .i64 (Fx.date (l.getD (↑i:Int).toNat Fx.nil)),AV.str (Fx.value (l.getD (↑i:Int).toNat Fx.nil))]] [AV.agg [AV.str x.1.name,AV.int .i64 x.1.date,AV.str x.1.value],AV.agg [AV.str x.2.name,AV.int .i64 x.2.date,AV.str x.2.value]]∧True) fun n=>.all (fun(r:Int)=>r=cmpF n.1 n.2) fun n=>.ite (decide ((0:Int)≤n)) (.leaf (.ret [.bool false] [])) (.side (inR .i64 ((↑i:Int)+(1:Int))) (.leaf (.back 0 [(0,.sl l.length 3 (fxG l)),(1,.fn 72 [] []),(5,.int .i64 ((↑i:Int)+(1:Int)))] []))))))) (.leaf (.ret [.bool true] []))) (by kernel_rfl) ?_
  simp only [Tree.holds,zd,inR,lo,hi,Int.toNat_natCast]
  have e:((i:Int) - 1).toNat=i - 1:=by omega
  have e2:i - 1+1=i:=by omega
  refine⟨fun hlt=> ?_,fun hge=> ?_⟩
  ·have hlt:i<l.length:=by have:=of_decide_eq_true hlt; omega
   simp only [e]
   refine⟨by omega,fun _=>⟨by omega,fun _=>⟨by omega,fun _=>⟨(l.getD (i - 1) Fx.nil,l.getD i Fx.nil),⟨by simp,trivial⟩,⟨_,rfl⟩,?_⟩⟩⟩⟩
   rintro _ rfl
   refine⟨fun h=> ?_,fun h=>⟨by omega,fun _=> ?_⟩⟩
   ·have h:=of_decide_eq_true h
    rw [Z1 (z:=Fx.nil) (j:=i - 1) (by omega) (by rw [e2]; simp only at h; omega)] at hq
    exact RetR.scal hq rfl (by simp [resV])
   ·have h:=of_decide_eq_false h
    rw [if_pos trivial]
    refine⟨⟨i+1,by omega,.inl hlt,fun j hj=> ?_⟩,by show l.length - (i+1)<l.length - i; omega,by simp [SOdF,fxS,zb],by simp,by kernel_rfl,Nat.zero_le _⟩
    rcases Nat.lt_or_ge (j+1) i with h1 | h1
    ·exact hib j h1
    ·have:j=i - 1:=by omega
     rw [this,e2]; simp only at h; omega
  ·have hge:l.length≤i:=by have:=of_decide_eq_false hge; omega
   rw [yz (z:=Fx.nil) fun j hj=>hib j (by omega)] at hq
   exact RetR.scal hq rfl (by simp [resV])
def zij:Ctr:=ctrP true (fun l:List Ch=>[chS l,.fn 74 [] []]) (fun l=>l.length<2^40) (fun l r=>r=ordB cmpC Ch.nil l) (fun _ (r:Bool)=>(.bool r,[]))
def SOdC(l:List Ch)(i:Nat):KV:=[(0,chS l),(1,.fn 74 [] []),(5,.int .i64 (i:Int))]
noncomputable def GE4C:Nat→Option Ctr:=fun f=>if f=74 then some (KZ) else none
theorem U1:∀ g c,GE4C g=some c→zf Tryz.prog g c:=okIf Y1 (zx)
theorem zgk:zf Tryz.prog 73 zij:=by
 refine zi (fn:=Tryz.f73) (c:=Tryz.f73.body.getD .skip) rfl rfl rfl fun l hl O w0 Q hq=> ?_
 replace hq:=hq _ rfl
 refine zc.run hmix U1 [0,1,5] 400 (T:=.leaf (.loop (Prod.fst (lps K73 0)) (Prod.snd (lps K73 0)) [(0,.sl l.length 4 (chG l)),(1,.fn 74 [] []),(5,.int .i64 1)] [])) (by kernel_rfl) ?_
 simp only [Tree.holds,zd]
 refine zc.loop (ι:={i:Nat // 0<i∧(i≤l.length∨i=1)∧∀ j,j+1<i→cmpC (l.getD j Ch.nil) (l.getD (j+1) Ch.nil)<0}) (fun i=>SOdC l i.1) (fun _=>[]) (fun i=>l.length - i.1) ⟨1,Nat.one_pos,.inr rfl,fun j hj=>by omega⟩ 0 ?_ ?_ (by kernel_rfl)
 ·exact⟨by simp [SOdC,chS,zb],by simp,by kernel_rfl,Nat.zero_le _⟩
 ·rintro⟨i,hi0,hil,hib⟩
  refine zc.run hmix U1 [0,1,5] 400 (T:=.ite (decide ((↑i:Int)<l.length)) (.side (inR .i64 ((↑i:Int) - (1:Int))) (.side ((0:Int)≤i - (1:Int)∧(↑i:Int) - (1:Int)<l.length) (.side ((0:Int)≤i∧(↑i:Int)<l.length) (.ex (fun(x:Ch×Ch)=>eqL [AV.agg [AV.str (Ch.jL (l.getD (Int.toNat ((↑i:Int) - (1:Int))) Ch.nil)),AV.str (Ch.name (l.getD (Int.toNat ((↑i:Int) - (1:Int))) Ch.nil)),AV.int .i64 (Ch.date (l.getD (Int.toNat ((↑i:Int) - (1:Int))) Ch.nil)),AV.bool (Ch.first (l.getD (Int.toNat ((↑i:Int) - (1:Int))) Ch.nil))],AV.agg [AV.str (Ch.jL (l.getD (↑i:Int).toNat Ch.nil)),AV.str (Ch.name (l.getD (↑i:Int).toNat Ch.nil)),AV.int .i64 (Ch.date (l.getD (↑i:Int).toNat Ch.nil)),AV.bool (Ch.first (l.getD (↑i:Int).toNat Ch.nil))]] [AV.agg [AV.str x.1.jL,AV.str x.1.name,AV.int .i64 x.1.date,AV.bool x.1.first],AV.agg [AV.str x.2.jL,AV.str x.2.name,AV.int .i64 x.2.date,AV.bool x.2.first]]∧True) fun n=>.all (fun(r:Int)=>r=cmpC n.1 n.2) fun n=>.ite (decide ((0:Int)≤n)) (.leaf (.ret [.bool false] [])) (.side (inR .i64 ((↑i:Int)+(1:Int))) (.leaf (.back 0 [(0,.sl l.length 4 (chG l)),(1,.fn 74 [] []),(5,.int .i64 ((↑i:Int)+(1:Int)))] []))))))) (.leaf (.ret [.bool true] []))) (by kernel_rfl) ?_
  simp only [Tree.holds,zd,inR,lo,hi,Int.toNat_natCast]
  have e:((i:Int) - 1).toNat=i - 1:=by omega
  have e2:i - 1+1=i:=by omega
  refine⟨fun hlt=> ?_,fun hge=> ?_⟩
  ·have hlt:i<l.length:=by have:=of_decide_eq_true hlt; omega
   simp only [e]
   refine⟨by omega,fun _=>⟨by omega,fun _=>⟨by omega,fun _=>⟨(l.getD (i - 1) Ch.nil,l.getD i Ch.nil),⟨by simp,trivial⟩,⟨_,rfl⟩,?_⟩⟩⟩⟩
   rintro _ rfl
   refine⟨fun h=> ?_,fun h=>⟨by omega,fun _=> ?_⟩⟩
   ·have h:=of_decide_eq_true h
    rw [Z1 (z:=Ch.nil) (j:=i - 1) (by omega) (by rw [e2]; simp only at h; omega)] at hq
    exact RetR.scal hq rfl (by simp [resV])
   ·have h:=of_decide_eq_false h
    rw [if_pos trivial]
    refine⟨⟨i+1,by omega,.inl hlt,fun j hj=> ?_⟩,by show l.length - (i+1)<l.length - i; omega,by simp [SOdC,chS,zb],by simp,by kernel_rfl,Nat.zero_le _⟩
    rcases Nat.lt_or_ge (j+1) i with h1 | h1
    ·exact hib j h1
    ·have:j=i - 1:=by omega
     rw [this,e2]; simp only at h; omega
  ·have hge:l.length≤i:=by have:=of_decide_eq_false hge; omega
   rw [yz (z:=Ch.nil) fun j hj=>hib j (by omega)] at hq
   exact RetR.scal hq rfl (by simp [resV])
def envP(p:List Fx×List Ch):Prop:=p.1.length<2^40∧p.2.length<2^40∧(∀ j,j<p.1.length→xa (p.1.getD j Fx.nil))∧∀ j,j<p.2.length→xw (p.2.getD j Ch.nil)
def YM:Ctr:=ctrP true (fun p:List Fx×List Ch=>[envA p.1 p.2]) envP (fun p r=>r=errE p.1 p.2) (fun _ (r:Int)=>(.int .i64 r,[]))
noncomputable def GE5:Nat→Option Ctr:=fun f=>if f=69 then some (ziq) else if f=70 then some (zit) else if f=71 then some (ziu) else if f=73 then some (zij) else none
theorem zjp:∀ g c,GE5 g=some c→zf Tryz.prog g c:=okIf zhn (okIf zi6 (okIf zgb (okIf zgk (zx))))
theorem UP:zf Tryz.prog 24 YM:=by
 refine zi (fn:=Tryz.f24) (c:=Tryz.f24.body.getD .skip) rfl rfl rfl fun p hp O w0 Q hq=> ?_
 obtain⟨f,c⟩:=p
 obtain⟨h1,h2,h3,h4⟩:=hp
 replace hq:=hq _ rfl
 simp only at hq h1 h2 h3 h4
 refine zc.run hmix zjp [] 400 (T:=.ite (bif decide ((1000:Int)<f.length) then true else decide ((1000:Int)<c.length)) (.leaf (.ret [.int .i64 4] [.box [.sl f.length 3 (fxG f),.sl c.length 4 (chG c)]])) (.ex (fun(x:List Fx)=>eqL [AV.sl f.length 3 (fxG f),AV.fn 66 [] []] [AV.sl x.length 3 (fxG x),AV.fn 66 [] []]∧x.length<1099511627776∧∀ (j:Nat),j<x.length→xa (x.getD j Fx.nil)) fun n=>.all (fun(r:Bool)=>r=List.any n fun(x:Fx)=> !okF x) fun n=>.ex (fun(x:List Ch)=>n=false→eqL [AV.sl c.length 4 (chG c),AV.fn 68 [] []] [AV.sl x.length 4 (chG x),AV.fn 68 [] []]∧x.length<1099511627776∧∀ (j:Nat),j<x.length→xw (x.getD j Ch.nil)) fun n_1=>.all (fun(x:Bool)=>n=false→x=List.any n_1 fun(x:Ch)=> !okC x) fun n_2=>.ex (fun(x:List Fx)=>(bif n then true else n_2)=false→eqL [AV.sl f.length 3 (fxG f),AV.fn 72 [] []] [AV.sl x.length 3 (fxG x),AV.fn 72 [] []]∧x.length<1099511627776) fun n_3=>.all (fun(x:Bool)=>(bif n then true else n_2)=false→x=ordB cmpF Fx.nil n_3) fun n_4=>.ex (fun(x:List Ch)=>(bif bif n then true else n_2 then true else !n_4)=false→eqL [AV.sl c.length 4 (chG c),AV.fn 74 [] []] [AV.sl x.length 4 (chG x),AV.fn 74 [] []]∧x.length<1099511627776) fun n_5=>.all (fun(x:Bool)=>(bif bif n then true else n_2 then true else !n_4)=false→x=ordB cmpC Ch.nil n_5) fun n_6=>.ite (bif bif bif n then true else n_2 then true else !n_4 then true else !n_6) (.leaf (.ret [.int .i64 8] [.box [.sl f.length 3 (fxG f),.sl c.length 4 (chG c)]])) (.leaf (.ret [.int .i64 0] [.box [.sl f.length 3 (fxG f),.sl c.length 4 (chG c)]])))) (by kernel_rfl) ?_
 simp only [Tree.holds,zd]
 refine⟨fun h=> ?_,fun h=> ?_⟩
 ·have h:1000<f.length∨1000<c.length:=by
   rw [Bool.cond_eq_ite] at h
   split at h
   ·rename_i h1; left; have:=of_decide_eq_true h1; omega
   ·right; have:=of_decide_eq_true h; omega
  have:errE f c=4:=if_pos h
  rw [this] at hq; exact RetR.scal hq rfl (by simp [resV])
 ·have h:¬ (1000<f.length∨1000<c.length):=by
   rw [Bool.cond_eq_ite] at h
   split at h
   ·cases h
   ·rename_i h1
    have h2:=of_decide_eq_false h
    rintro(h3 | h3)
    ·exact h1 (decide_eq_true (by omega))
    ·omega
  have he:errE f c=if(f.all okF&&c.all okC&&ordB cmpF Fx.nil f&&ordB cmpC Ch.nil c)=true then 0 else 8:=if_neg h
  have a1:(f.any fun x=> !okF x) = !f.all okF:=by rw [List.not_all_eq_any_not]
  have a2:(c.any fun x=> !okC x) = !c.all okC:=by rw [List.not_all_eq_any_not]
  refine⟨f,⟨by simp [zb],h1,h3⟩,⟨_,rfl⟩,?_⟩
  rintro _ rfl
  refine⟨c,fun _=>⟨by simp [zb],h2,h4⟩,⟨_,fun _=>rfl⟩,?_⟩
  intro b1 g1
  refine⟨f,fun _=>⟨by simp [zb],h1⟩,⟨_,fun _=>rfl⟩,?_⟩
  intro b2 g2
  refine⟨c,fun _=>⟨by simp [zb],h2⟩,⟨_,fun _=>rfl⟩,?_⟩
  intro b3 g3
  rw [a1] at g1 g2 g3 ⊢
  rw [a2] at g1
  clear a1 a2
  generalize f.all okF=p1 at *
  generalize c.all okC=p2 at *
  generalize ordB cmpF Fx.nil f=p3 at *
  generalize ordB cmpC Ch.nil c=p4 at *
  have key:(bif bif bif !p1 then true else b1 then true else !b2 then true else !b3) = !(p1&&p2&&p3&&p4):=by
   cases p1 with
   | false=>rfl
   | true=>
    have g1:=g1 rfl
    subst g1
    cases p2 with
    | false=>rfl
    | true=>
     have g2:=g2 rfl
     subst g2
     cases b2 with
     | false=>rfl
     | true=>have g3:=g3 rfl; subst g3; rfl
  rw [key]
  clear key g1 g2 g3
  generalize (p1&&p2&&p3&&p4)=q at *
  refine⟨fun h=> ?_,fun h=> ?_⟩
  ·cases q with
   | true=>cases h
   | false=>rw [he,if_neg (by decide)] at hq; exact RetR.scal hq rfl (by simp [resV])
  ·cases q with
   | false=>cases h
   | true=>rw [he,if_pos rfl] at hq; exact RetR.scal hq rfl (by simp [resV])
noncomputable def K25:List Go.Sx.Item:=[.code (Tryz.f25.body.getD .skip)]
def SSE(i:Nat):KV:=[(2,.ptr 0 0),(3,.ptr 1 0),(5,.int .i64 (i:Int)),(6,.undef)]
def SSE2(i:Nat):KV:=[(2,.ptr 0 0),(3,.ptr 1 0),(5,.undef),(6,.int .i64 (i:Int))]
def HSE(f f2:List Fx)(c c2:List Ch):Heap:=[.box [fxS f,chS c],.box [fxS f2,chS c2]]
def WR:Ctr:=ctrP true (fun p:(List Fx×List Ch)×(List Fx×List Ch)=>[envA p.1.1 p.1.2,envA p.2.1 p.2.2]) (fun p=>p.1.1.length<2^40∧p.1.2.length<2^40) (fun p r=>(r=true↔p.1=p.2)) (fun _ (r:Bool)=>(.bool r,[]))
theorem Kw{O:Nat→Prop}{w0:World}{Q:AV×Heap→Prop}{Hs:Nat→KV→Heap→Prop}(f f2:List Fx)(c c2:List Ch)(h2:c.length<2^40)(hf:f=f2)(hl:c.length=c2.length)(hq:∀ (r:Bool),(r=true↔(f,c)=(f2,c2))→Q (.bool r,[]))(kv:KV)(h:Heap)(hle:LeK 0 Tryz.f25.ntmps kv h (SSE2 0) (HSE f f2 c c2)) :
  zc Tryz.prog Tryz.f25 O 0 w0 [] Hs (RetR WR 0 Q) (.code (.loop (lps (inside K25 0) 0).1)::(lps (inside K25 0) 0).2) (mk Tryz.f25.ntmps kv h):=by
 refine zc.loop (ι:={i:Nat // i≤c.length∧∀ j,j<i→c.getD j Ch.nil=c2.getD j Ch.nil}) (fun i=>SSE2 i.1) (fun _=>HSE f f2 c c2) (fun i=>c.length - i.1) ⟨0,Nat.zero_le _,fun j hj=>by omega⟩ 0 hle ?_ (by kernel_rfl)
 rintro⟨i,hil,hib⟩
 refine zc.run hmix zD [2,3,5,6] 400 (T:=.ite (decide ((↑i:Int)<c.length)) (.side ((0:Int)≤i∧(↑i:Int)<c.length) (.side ((0:Int)≤i∧(↑i:Int)<c2.length) (.ite (!(decide (Ch.jL (c.getD (↑i:Int).toNat Ch.nil)=Ch.jL (c2.getD (↑i:Int).toNat Ch.nil))&&(decide (Ch.name (c.getD (↑i:Int).toNat Ch.nil)=Ch.name (c2.getD (↑i:Int).toNat Ch.nil))&&(decide (Ch.date (c.getD (↑i:Int).toNat Ch.nil)=Ch.date (c2.getD (↑i:Int).toNat Ch.nil))&&(Ch.first (c.getD (↑i:Int).toNat Ch.nil) == Ch.first (c2.getD (↑i:Int).toNat Ch.nil)&&true))))) (.leaf (.ret [.bool false] [.box [.sl f.length 3 (fxG f),.sl c.length 4 (chG c)],.box [.sl f2.length 3 (fxG f2),.sl c2.length 4 (chG c2)]])) (.side (inR .i64 ((↑i:Int)+(1:Int))) (.leaf (.back 0 [(2,.ptr 0 0),(3,.ptr 1 0),(5,.undef),(6,.int .i64 ((↑i:Int)+(1:Int)))] [.box [.sl f.length 3 (fxG f),.sl c.length 4 (chG c)],.box [.sl f2.length 3 (fxG f2),.sl c2.length 4 (chG c2)]])))))) (.leaf (.ret [.bool true] [.box [.sl f.length 3 (fxG f),.sl c.length 4 (chG c)],.box [.sl f2.length 3 (fxG f2),.sl c2.length 4 (chG c2)]]))) (by kernel_rfl) ?_
 simp only [Tree.holds,zd,inR,lo,hi,Int.toNat_natCast]
 refine⟨fun hlt=> ?_,fun hge=> ?_⟩
 ·have hlt:i<c.length:=by have:=of_decide_eq_true hlt; omega
  refine⟨by omega,fun _=>⟨by omega,fun _=>⟨fun h=> ?_,fun h=>⟨by omega,fun _=> ?_⟩⟩⟩⟩
  ·refine RetR.scal (hq false ⟨fun h=>(by cases h),fun he=> ?_⟩) rfl (by simp [resV])
   have hc:c=c2:=(Prod.mk.inj he).2
   have:=Ch.eq_iff.2 (show c.getD i Ch.nil=c2.getD i Ch.nil by rw [hc])
   rw [this] at h; cases h
  ·rw [if_pos trivial]
   have he:=Ch.eq_iff.1 (by simpa only [Bool.not_eq_false'] using h)
   refine⟨⟨i+1,hlt,fun j hj=> ?_⟩,by show c.length - (i+1)<c.length - i; omega,by simp [SSE2],by simp [HSE,fxS,chS,zb],by kernel_rfl,Nat.zero_le _⟩
   rcases Nat.lt_or_ge j i with h1 | h1
   ·exact hib j h1
   ·have:j=i:=by omega
    rw [this]; exact he
 ·have hge:i=c.length:=by have:=of_decide_eq_false hge; omega
  subst hge
  have hc:=VF hl hib
  exact RetR.scal (hq true ⟨fun _=>by rw [hf,hc],fun _=>rfl⟩) rfl (by simp [resV])
theorem KU:zf Tryz.prog 25 WR:=by
 refine zi (fn:=Tryz.f25) (c:=Tryz.f25.body.getD .skip) rfl rfl rfl fun p hp O w0 Q hq=> ?_
 obtain⟨⟨f,c⟩,⟨f2,c2⟩⟩:=p
 obtain⟨h1,h2⟩:=hp
 simp only at hq h1 h2
 refine zc.run hmix zD [2,3,5,6] 400 (T:=.ite (bif !decide ((↑f.length:Int)=f2.length) then true else !decide ((↑c.length:Int)=c2.length)) (.leaf (.ret [.bool false] [.box [.sl f.length 3 (fxG f),.sl c.length 4 (chG c)],.box [.sl f2.length 3 (fxG f2),.sl c2.length 4 (chG c2)]])) (.leaf (.loop (Prod.fst (lps K25 0)) (Prod.snd (lps K25 0)) [(2,.ptr 0 0),(3,.ptr 1 0),(5,.int .i64 0),(6,.undef)] [.box [.sl f.length 3 (fxG f),.sl c.length 4 (chG c)],.box [.sl f2.length 3 (fxG f2),.sl c2.length 4 (chG c2)]]))) (by kernel_rfl) ?_
 simp only [Tree.holds,zd]
 refine⟨fun h=> ?_,fun h=> ?_⟩
 ·refine RetR.scal (hq false ⟨fun h=>(by cases h),fun he=> ?_⟩) rfl (by simp [resV])
  obtain⟨e1,e2⟩:=Prod.mk.inj he
  subst e1; subst e2
  simp at h
 ·have hl:f.length=f2.length∧c.length=c2.length:=by
   by_cases e1:f.length=f2.length
   ·by_cases e2:c.length=c2.length
    ·exact⟨e1,e2⟩
    ·rw [decide_eq_false (show ¬ ((c.length:Nat):Int)=c2.length by omega)] at h
     rw [decide_eq_true (show((f.length:Nat):Int)=f2.length by omega)] at h
     cases h
   ·rw [decide_eq_false (show ¬ ((f.length:Nat):Int)=f2.length by omega)] at h
    cases h
  refine zc.loop (ι:={i:Nat // i≤f.length∧∀ j,j<i→f.getD j Fx.nil=f2.getD j Fx.nil}) (fun i=>SSE i.1) (fun _=>HSE f f2 c c2) (fun i=>f.length - i.1) ⟨0,Nat.zero_le _,fun j hj=>by omega⟩ 0 ?_ ?_ (by kernel_rfl)
  ·exact⟨by simp [SSE],by simp [HSE,fxS,chS,zb],by kernel_rfl,Nat.zero_le _⟩
  ·rintro⟨i,hil,hib⟩
   refine zc.run hmix zD [2,3,5,6] 400 (T:=.ite (decide ((↑i:Int)<f.length)) (.side ((0:Int)≤i∧(↑i:Int)<f.length) (.side ((0:Int)≤i∧(↑i:Int)<f2.length) (.ite (!(decide (Fx.name (f.getD (↑i:Int).toNat Fx.nil)=Fx.name (f2.getD (↑i:Int).toNat Fx.nil))&&(decide (Fx.date (f.getD (↑i:Int).toNat Fx.nil)=Fx.date (f2.getD (↑i:Int).toNat Fx.nil))&&(decide (Fx.value (f.getD (↑i:Int).toNat Fx.nil)=Fx.value (f2.getD (↑i:Int).toNat Fx.nil))&&true)))) (.leaf (.ret [.bool false] [.box [.sl f.length 3 (fxG f),.sl c.length 4 (chG c)],.box [.sl f2.length 3 (fxG f2),.sl c2.length 4 (chG c2)]])) (.side (inR .i64 ((↑i:Int)+(1:Int))) (.leaf (.back 0 [(2,.ptr 0 0),(3,.ptr 1 0),(5,.int .i64 ((↑i:Int)+(1:Int))),(6,.undef)] [.box [.sl f.length 3 (fxG f),.sl c.length 4 (chG c)],.box [.sl f2.length 3 (fxG f2),.sl c2.length 4 (chG c2)]])))))) (.leaf (.loop (Prod.fst (lps (inside K25 0) 0)) (Prod.snd (lps (inside K25 0) 0)) [(2,.ptr 0 0),(3,.ptr 1 0),(5,.int .i64 i),(6,.int .i64 0)] [.box [.sl f.length 3 (fxG f),.sl c.length 4 (chG c)],.box [.sl f2.length 3 (fxG f2),.sl c2.length 4 (chG c2)]]))) (by kernel_rfl) ?_
   simp only [Tree.holds,zd,inR,lo,hi,Int.toNat_natCast]
   refine⟨fun hlt=> ?_,fun hge=> ?_⟩
   ·have hlt:i<f.length:=by have:=of_decide_eq_true hlt; omega
    refine⟨by omega,fun _=>⟨by omega,fun _=>⟨fun h=> ?_,fun h=>⟨by omega,fun _=> ?_⟩⟩⟩⟩
    ·refine RetR.scal (hq false ⟨fun h=>(by cases h),fun he=> ?_⟩) rfl (by simp [resV])
     have hc:f=f2:=(Prod.mk.inj he).1
     have:=Fx.eq_iff.2 (show f.getD i Fx.nil=f2.getD i Fx.nil by rw [hc])
     rw [this] at h; cases h
    ·rw [if_pos trivial]
     have he:=Fx.eq_iff.1 (by simpa only [Bool.not_eq_false'] using h)
     refine⟨⟨i+1,hlt,fun j hj=> ?_⟩,by show f.length - (i+1)<f.length - i; omega,by simp [SSE],by simp [HSE,fxS,chS,zb],by kernel_rfl,Nat.zero_le _⟩
     rcases Nat.lt_or_ge j i with h1 | h1
     ·exact hib j h1
     ·have:j=i:=by omega
      rw [this]; exact he
   ·have hge:i=f.length:=by have:=of_decide_eq_false hge; omega
    subst hge
    have hf:=VF hl.1 hib
    exact Kw f f2 c c2 h2 hf hl.2 hq _ _ ⟨by simp [SSE2],by simp [HSE,fxS,chS,zb],by kernel_rfl,Nat.zero_le _⟩
theorem zgz{n:Nat}{g:Nat→Nat→AV}{l:List Fx}(h:eqG n 3 g (fxG l)):newB (.arr n 3 g):=fun j o hj ho=>by rw [h j o hj ho]; exact YD l j o ho
theorem U4{n:Nat}{g:Nat→Nat→AV}{l:List Ch}(h:eqG n 4 g (chG l)):newB (.arr n 4 g):=fun j o hj ho=>by rw [h j o hj ho]; exact Up l j o ho
def YF:Ctr:=ctrP true (fun l:List Ch=>[chS l]) (fun l=>l.length<2^40) (fun _ (_:Unit)=>True) (fun l _=>(.osl 0 4 0 l.length,[.arr l.length 4 (chG l)]))
theorem zau:zf Tryz.prog 55 YF:=by
 refine Z7 (fn:=Tryz.f55) (c:=Tryz.f55.body.getD .skip) rfl rfl rfl fun l hl O w0 Q hq=> ?_
 replace hq:=hq () trivial
 refine zc.run hmix zD [] 400 (T:=.all (fun(b:Bool)=>0<l.length→b=false) fun n=>.ite n (.leaf (.ret [.nils] [])) (.side (0=0∧0≤0∧(0+l.length)*48≤140737488355328) (.leaf (.ret [.osl 0 4 0 (0+l.length)] [.arr (0+l.length) 4 (appG 0 (zh 4 []) (chG l))])))) (by kernel_rfl) ?_
 simp only [Tree.holds,zd]
 refine⟨⟨false,fun _=>rfl⟩,fun b hb=>⟨fun h=> ?_,fun h=>⟨⟨trivial,Nat.le_refl _,by omega⟩,fun _=> ?_⟩⟩⟩
 ·have h0:l=[]:=by
   rcases Nat.eq_zero_or_pos l.length with h0 | h0
   ·exact List.length_eq_zero_iff.1 h0
   ·rw [hb h0] at h; cases h
  subst h0
  refine RetR.scal (.inr ⟨.osl 0 4 0 0,[(4,chG [])],by simp [upA2,upA1,upA0],?_⟩) (r:=.nils) rfl (by simp [resV])
  exact hq
 ·refine RetR.outs [0] rfl rfl (.inl hq) (fun _=>⟨?_,?_⟩) ?_ ?_ rfl
  ·simp [resV,new2,new1,new0,z5]
  ·simp only [List.mem_cons,List.not_mem_nil,or_false,forall_eq]
   exact U4 (Qu _ _ _ _)
  ·simp [resV,exp2,exp1,exp0,z5,eqA2,eqL1]
  ·exact⟨⟨by omega,rfl,Qu _ _ _ _⟩,trivial⟩
end Go.Proofs.Tryz
end
section
namespace Go.Sx
variable [Stat]
theorem ur{a b sz o:Nat}(h:a<b)(ho:o<sz):a*sz+o<b*sz:=by
 have:(a+1)*sz≤b*sz:=Nat.mul_le_mul_right _ h
 rw [Nat.succ_mul] at this; omega
end Go.Sx
end
section
set_option maxRecDepth 100000
open Go Go.Sx Go.Proofs Go.Nov
namespace Go.Proofs.Tryz
attribute [local simp] eqKV eqA eqA0 eqH eqB eqL eqL0
theorem k9{α:Type}{l m:List α}{a:Nat}(h:a+m.length≤l.length)(k:Nat):(l.take a++m++l.drop (a+m.length))[k]?=if k<a then l[k]? else if k<a+m.length then m[k - a]? else l[k]?:=by
 have hl:(l.take a).length=a:=by rw [List.length_take]; omega
 rw [List.getElem?_append,List.getElem?_append,hl]
 simp only [List.length_append,hl]
 by_cases h1:k<a
 ·rw [if_pos (by omega),if_pos h1,if_pos h1,List.getElem?_take,if_pos h1]
 ·rw [if_neg h1,if_neg h1]
  by_cases h2:k<a+m.length
  ·rw [if_pos h2,if_pos h2]
  ·rw [if_neg h2,if_neg h2,List.getElem?_drop]; congr 1; omega
theorem kh{l:List Value}{o k j:Nat} : ((l.drop o).take k)[j]?=if j<k then l[o+j]? else none:=by
 rw [List.getElem?_take]
 split
 ·rw [List.getElem?_drop]
 ·rfl
theorem zgi{ctr:Ctr}{Q:AV×Heap→Prop}(e:Int)(h:Heap)(hq:Q (.tup [.agg [.osl 0 3 0 ([]:List Fx).length,.osl 1 4 0 ([]:List Ch).length],.int .i64 e],[.arr ([]:List Fx).length 3 (fxG []),.arr ([]:List Ch).length 4 (chG [])])):RetR ctr 0 (upQ Q) [.agg [.nils,.nils],.int .i64 e] h:=by
 refine RetR.out0 (r:=.tup [.agg [.nils,.nils],.int .i64 e]) (.inr ⟨_,[(3,fxG []),(4,chG [])],?_,hq⟩) (fun _=>by simp [resV,new2,new1,new0,qc]) (by simp [resV,exp2,exp1,exp0,ren0,eqA2,eqL1])
 simp [upA2,upA1,upA0,upL1,upL0]
theorem vU{f:List Fx}{c:List Ch}{x:Fx} : (putF f c x).1.1.length≤1000∧(putF f c x).1.2.length≤1000:=by
 unfold putF
 by_cases h0:errE f c≠0
 ·rw [if_pos h0]; simp
 ·rw [if_neg h0]
  have h:=uU.1 (Classical.not_not.1 h0)
  split
  ·simp
  ·split
   ·simp
   ·split
    ·simp
    ·simp only; omega
noncomputable def K94:List Go.Sx.Item:=[.code (Tryz.f94.body.getD .skip)]
noncomputable def GOf0:Nat→Option Ctr:=fun f=>if f=135 then some (yO) else none
theorem Ur:∀ g c,GOf0 g=some c→zf Tryz.prog g c:=okIf Qq (zx)
def iofC:Ctr:=ctrP true (fun n:Nat=>[.int .i64 (n:Int)]) (fun n=>n≤9) (fun n (r:List UInt8)=>r=[UInt8.ofNat (48+n)]) (fun _ (r:List UInt8)=>(.str r,[]))
def SOf(n:Nat):KV:=[(0,.int .i64 (n:Int)),(3,.nils),(4,.bool (decide ((n:Int)<0)))]
theorem zkf:zf Tryz.prog 94 iofC:=by
 refine zi (fn:=Tryz.f94) (c:=Tryz.f94.body.getD .skip) rfl rfl rfl fun n hn O w0 Q hq=> ?_
 replace hq:=hq _ rfl
 refine zc.run hmix Ur [0,3,4] 400 (T:=.leaf (.loop (Prod.fst (lps K94 0)) (Prod.snd (lps K94 0)) [(0,.int .i64 n),(3,.nils),(4,.bool (decide ((↑n:Int)<0)))] [])) (by kernel_rfl) ?_
 simp only [Tree.holds,zd,inR,lo,hi,Int.toNat_natCast]
 refine zc.loop (ι:=Unit) (fun _=>SOf n) (fun _=>[]) (fun _=>0) () 0 ?_ ?_ (by kernel_rfl)
 ·exact⟨by simp [SOf],by simp,by kernel_rfl,Nat.zero_le _⟩
 rintro⟨⟩
 refine zc.run hmix Ur [0,3,4] 400 (T:=.side ((10:Int)≠0) (.side (inR .i64 (-Int.tmod (↑n:Int) (10:Int))) (.side (inR .i64 ((48:Int)+max (Int.tmod (↑n:Int) (10:Int)) (-Int.tmod (↑n:Int) (10:Int)))) (.side (inR .u8 ((48:Int)+max (Int.tmod (↑n:Int) (10:Int)) (-Int.tmod (↑n:Int) (10:Int)))) (.side (1≤140737488355328) (.side ((10:Int)≠0∧inR .i64 (Int.tdiv (↑n:Int) (10:Int))) (.ite (decide (Int.tdiv (↑n:Int) (10:Int)=0)) (.ite (decide ((↑n:Int)<0)) (.side (0=0∧1≤1∧2≤140737488355328) (.ex (fun(x:List Nat×Nat)=>eqL [AV.osl 0 1 0 2] [AV.osl 0 1 0 x.2]∧eqH [.arr 2 1 (appG 1 (zg (zh 1 [AV.int .u8 ((48:Int)+max (Int.tmod (↑n:Int) (10:Int)) (-Int.tmod (↑n:Int) (10:Int)))]) 0) (zg (zh 1 [AV.int .u8 45]) 0))] [.arr x.1.length 1 (natG .u8 x.1)]∧1=1∧x.2≤x.1.length∧x.1.length<4611686018427387904) fun n_1=>.all (fun(x:Unit)=>True) fun n_2=>.side (∀ (j:Nat),j<2→∃ (b:UInt8),AV.int .u8 (↑(List.getD (List.reverse (List.take n_1.2 n_1.1)++List.drop n_1.2 n_1.1) (0+j) 0):Int)=AV.int .u8 (↑(UInt8.toNat b):Int)) (.leaf (.ret [.str (vA 2 (zg (natG .u8 (List.reverse (List.take n_1.2 n_1.1)++List.drop n_1.2 n_1.1)) 0))] [.arr 1 1 (zh 1 [.int .u8 ((48:Int)+max (Int.tmod (↑n:Int) (10:Int)) (-Int.tmod (↑n:Int) (10:Int)))]),.arr n_1.1.length 1 (natG .u8 (List.reverse (List.take n_1.2 n_1.1)++List.drop n_1.2 n_1.1)),.arr 1 1 (zh 1 [.int .u8 45])])))) (.ex (fun(x:List Nat×Nat)=>eqL [AV.osl 0 1 0 1] [AV.osl 0 1 0 x.2]∧eqH [.arr 1 1 (zg (zh 1 [AV.int .u8 ((48:Int)+max (Int.tmod (↑n:Int) (10:Int)) (-Int.tmod (↑n:Int) (10:Int)))]) 0)] [.arr x.1.length 1 (natG .u8 x.1)]∧1=1∧x.2≤x.1.length∧x.1.length<4611686018427387904) fun n_1=>.all (fun(x:Unit)=>True) fun n_2=>.side (∀ (j:Nat),j<1→∃ (b:UInt8),AV.int .u8 (↑(List.getD (List.reverse (List.take n_1.2 n_1.1)++List.drop n_1.2 n_1.1) (0+j) 0):Int)=AV.int .u8 (↑(UInt8.toNat b):Int)) (.leaf (.ret [.str (vA 1 (zg (natG .u8 (List.reverse (List.take n_1.2 n_1.1)++List.drop n_1.2 n_1.1)) 0))] [.arr 1 1 (zh 1 [.int .u8 ((48:Int)+max (Int.tmod (↑n:Int) (10:Int)) (-Int.tmod (↑n:Int) (10:Int)))]),.arr n_1.1.length 1 (natG .u8 (List.reverse (List.take n_1.2 n_1.1)++List.drop n_1.2 n_1.1))])))) (.leaf (.back 0 [(0,.int .i64 (Int.tdiv (↑n:Int) (10:Int))),(3,.osl 1 1 0 1),(4,.bool (decide ((↑n:Int)<0)))] [.arr 1 1 (zh 1 [.int .u8 ((48:Int)+max (Int.tmod (↑n:Int) (10:Int)) (-Int.tmod (↑n:Int) (10:Int)))]),.arr 1 1 (zg (zh 1 [.int .u8 ((48:Int)+max (Int.tmod (↑n:Int) (10:Int)) (-Int.tmod (↑n:Int) (10:Int)))]) 0)]))))))))) (by kernel_rfl) ?_
 simp only [Tree.holds,zd,inR,lo,hi,Int.toNat_natCast]
 have e1:(n:Int).tmod 10=n:=by rw [Int.tmod_eq_emod_of_nonneg (by omega)]; omega
 have e2:(n:Int).tdiv 10=0:=by rw [Int.tdiv_eq_ediv_of_nonneg (by omega)]; omega
 have e3:max (n:Int) (-(n:Int))=n:=by omega
 rw [e1,e2,e3]
 refine⟨by decide,fun _=>⟨by omega,fun _=>⟨by omega,fun _=>⟨by omega,fun _=>⟨by decide,fun _=>⟨by decide,fun _=>⟨fun _=>⟨fun h=> ?_,fun _=> ?_⟩,fun h=> ?_⟩⟩⟩⟩⟩⟩⟩
 ·have:=of_decide_eq_true h; omega
 ·refine⟨([48+n],1),⟨⟨⟨rfl,rfl,rfl,rfl⟩,trivial⟩,⟨⟨rfl,rfl,fun j o hj ho=> ?_⟩,trivial⟩,trivial,by simp,by simp⟩,⟨(),trivial⟩,fun _ _=>⟨fun j hj=>⟨UInt8.ofNat (48+n),?_⟩,fun _=> ?_⟩⟩
  ·have:j=0:=by omega
   subst this
   have:o=0:=by omega
   subst this
   simp [zg,zh,natG]
  ·have:j=0:=by omega
   subst this
   have:(UInt8.ofNat (48+n)).toNat=48+n:=by simp; omega
   simp only [this]
   rfl
  ·refine RetR.scal hq rfl ?_
   simp only [resV,vA,zg,natG,List.range_succ,List.range_zero,List.nil_append,List.map_cons,List.map_nil]
   show AV.str [UInt8.ofNat (48+n)]=_
   rfl
 ·simp at h
noncomputable def GOf1:Nat→Option Ctr:=fun f=>if f=94 then some (iofC) else none
theorem YI:∀ g c,GOf1 g=some c→zf Tryz.prog g c:=okIf zkf (zx)
noncomputable def qofI:Ctr:=inlC Tryz.prog GOf1 100 Tryz.f48
theorem zh9:zf Tryz.prog 48 qofI:=zdu hmix YI rfl rfl
def qJ(a:Ca):Prop:=a.name.length<2^38∧a.into.length<2^38∧a.ratio.length<2^38∧a.extra.length<2^38
def ki:Ctr:=ctrP true (fun a:Ca=>[a.av]) qJ (fun a r=>r=if a.ok=true then 0 else 8) (fun _ (r:Int)=>(.int .i64 r,[]))
noncomputable def GCa0:Nat→Option Ctr:=fun f=>if f=48 then some (qofI) else if f=47 then some (zim) else if f=50 then some (yy) else if f=49 then some (JI) else none
theorem zg9:∀ g c,GCa0 g=some c→zf Tryz.prog g c:=okIf zh9 (okIf zi4 (okIf xE (okIf Zs (zx))))
theorem vE:zf Tryz.prog 16 ki:=by
 refine zi (fn:=Tryz.f16) (c:=Tryz.f16.body.getD .skip) rfl rfl rfl fun a ha O w0 Q hq=> ?_
 obtain⟨h1,h2,h3,h4⟩:=ha
 replace hq:=hq _ rfl
 obtain⟨nm,io,d,rt,et⟩:=a
 refine zc.run hmix zg9 [] 400 (T:=.ex (fun(x:Nat)=>eqL [AV.int .i64 0] [AV.int .i64 x]∧x≤9) fun n=>.all (fun(r:List UInt8)=>r=[UInt8.ofNat (48+n)]) fun n=>.ex (fun(x:List UInt8×List UInt8)=>eqL [AV.str rt,AV.str n] [AV.str x.1,AV.str x.2]∧x.1.length<2305843009213693952∧x.2.length<2305843009213693952) fun n=>.all (fun(r:Int×Int)=>r=cmpR n.1 n.2) fun n=>.ex (fun(x:List UInt8)=>eqL [AV.str nm] [AV.str x]∧x.length<4611686018427387904) fun n_1=>.all (fun(r:Bool)=>r=zQ n_1) fun n_2=>.ex (fun(x:List UInt8)=>(!n_2)=false→eqL [AV.str io] [AV.str x]∧x.length<4611686018427387904) fun n_3=>.all (fun(x:Bool)=>(!n_2)=false→x=zQ n_3) fun n_4=>.ex (fun(x:List UInt8)=>(bif bif bif bif bif !n_2 then true else !n_4 then true else decide (d<0) then true else decide ((99999:Int)<d) then true else !decide (n.2=0) then true else decide (n.1≤0))=false→eqL [AV.str et] [AV.str x]∧x.length<4611686018427387904) fun n_5=>.all (fun(x:Int)=>(bif bif bif bif bif !n_2 then true else !n_4 then true else decide (d<0) then true else decide ((99999:Int)<d) then true else !decide (n.2=0) then true else decide (n.1≤0))=false→x=errR n_5) fun n_6=>.ite (bif bif bif bif bif bif !n_2 then true else !n_4 then true else decide (d<0) then true else decide ((99999:Int)<d) then true else !decide (n.2=0) then true else decide (n.1≤0) then true else !decide (n_6=0)) (.leaf (.ret [.int .i64 8] [.box [.str nm,.str io,.int .i64 d,.str rt,.str et]])) (.leaf (.ret [.int .i64 0] [.box [.str nm,.str io,.int .i64 d,.str rt,.str et]]))) (by kernel_rfl) ?_
 simp only [Tree.holds,zd,inR,lo,hi,Int.toNat_natCast]
 have e48:[UInt8.ofNat (48+0)]=[48]:=rfl
 refine⟨0,⟨⟨⟨rfl,rfl⟩,trivial⟩,by omega⟩,⟨_,rfl⟩,?_⟩
 rintro _ rfl
 rw [e48]
 refine⟨(rt,[48]),⟨⟨rfl,rfl,trivial⟩,by show rt.length<_; simp only at h3; omega,by simp⟩,⟨_,rfl⟩,?_⟩
 rintro r rfl
 refine⟨nm,⟨⟨rfl,trivial⟩,by simp only at h1; omega⟩,⟨_,rfl⟩,?_⟩
 rintro _ rfl
 refine⟨io,fun _=>⟨⟨rfl,trivial⟩,by simp only at h2; omega⟩,⟨_,fun _=>rfl⟩,fun b2 g2=> ?_⟩
 refine⟨et,fun _=>⟨⟨rfl,trivial⟩,by simp only at h4; omega⟩,⟨_,fun _=>rfl⟩,fun b3 g3=> ?_⟩
 have key:(bif bif bif bif bif bif !zQ nm then true else !b2 then true else decide (d<0) then true else decide (99999<d) then true else !decide ((cmpR rt [48]).2=0) then true else decide ((cmpR rt [48]).1≤0) then true else !decide (b3=0)) = !(Ca.mk nm io d rt et).ok:=by
  obtain⟨z1,z2⟩:=zfo (a:=rt)
  unfold Ca.ok
  simp only
  cases hn:zQ nm with
  | false=>simp
  | true=>
   rw [g2 (by rw [hn]; rfl)]
   cases hi2:zQ io with
   | false=>simp
   | true=>
    by_cases hd:dayB d=true
    ·have hd':=hd
     unfold dayB at hd'
     simp only [Bool.and_eq_true,decide_eq_true_eq] at hd'
     have q1:decide (d<0)=false:=decide_eq_false (by omega)
     have q2:decide (99999<d)=false:=decide_eq_false (by omega)
     by_cases hr:errR rt=0
     ·obtain⟨y1,y2⟩:=z2 hr
      by_cases hp:0<qv rt
      ·have y3:(cmpR rt [48]).1=1:=by rw [y2,if_neg (by grind),if_pos hp]
       rw [g3 (by rw [hn,g2 (by rw [hn]; rfl),hi2,q1,q2,y1,y3]; rfl),hd,y1,y3,q1,q2]
       simp [hr,hp]
      ·have y3:(cmpR rt [48]).1≤0:=by rw [y2,if_neg hp]; split<;>decide
       rw [decide_eq_true y3]
       simp [hp]
     ·rw [decide_eq_false (z1 hr)]
      simp [hr]
    ·have:(decide (d<0)||decide (99999<d))=true:=by
      unfold dayB at hd
      simp at hd ⊢
      omega
     have hd:dayB d=false:=by simpa using hd
     rw [hd]
     rw [Bool.or_eq_true] at this
     rcases this with h | h<;>simp [h]
 rw [key]
 refine⟨fun h=> ?_,fun h=> ?_⟩
 ·rw [if_neg (by simpa using h)] at hq
  exact RetR.scal hq rfl rfl
 ·rw [if_pos (by simpa using h)] at hq
  exact RetR.scal hq rfl rfl
def oldC:Ctr:=ctrP true (fun p:Ca×List UInt8=>[p.1.av,.str p.2]) (fun p=>qJ p.1∧p.2.length<2^38) (fun p r=>r=p.1.old p.2) (fun _ (r:List UInt8×Int)=>(.tup [.str r.1,.int .i64 r.2],[]))
noncomputable def GCa1:Nat→Option Ctr:=fun f=>if f=104 then some (zis) else if f=105 then some (zik) else none
theorem zgu:∀ g c,GCa1 g=some c→zf Tryz.prog g c:=okIf zg1 (okIf zgv (zx))
theorem zcn:zf Tryz.prog 56 oldC:=by
 refine zi (fn:=Tryz.f56) (c:=Tryz.f56.body.getD .skip) rfl rfl rfl fun p hp O w0 Q hq=> ?_
 obtain⟨⟨nm,io,d,rt,et⟩,x⟩:=p
 obtain⟨⟨h1,h2,h3,h4⟩,h5⟩:=hp
 replace hq:=hq _ rfl
 simp only at h1 h2 h3 h4 h5 hq
 refine zc.run hmix zgu [] 400 (T:=.ex (fun(x_1:List UInt8×List UInt8)=>eqL [AV.str rt,AV.str x] [AV.str x_1.1,AV.str x_1.2]∧x_1.1.length<2305843009213693952∧x_1.2.length<2305843009213693952) fun n=>.all (fun(r:List UInt8×Int)=>r=mulR n.1 n.2) fun n=>.ite (!decide (n.2=0)) (.leaf (.ret [.str #[].toList,.int .i64 n.2] [.box [.str nm,.str io,.int .i64 d,.str rt,.str et]])) (.ex (fun(x:List UInt8×List UInt8)=>eqL [AV.str n.1,AV.str et] [AV.str x.1,AV.str x.2]∧x.1.length<2305843009213693952∧x.2.length<2305843009213693952) fun n=>.all (fun(r:List UInt8×Int)=>r=addR n.1 n.2) fun n=>.leaf (.ret [.str n.1,.int .i64 n.2] [.box [.str nm,.str io,.int .i64 d,.str rt,.str et]]))) (by kernel_rfl) ?_
 simp only [Tree.holds,zd,inR,lo,hi,Int.toNat_natCast]
 refine⟨(rt,x),⟨⟨rfl,rfl,trivial⟩,by show rt.length<_; omega,by show x.length<_; omega⟩,⟨_,rfl⟩,?_⟩
 rintro _ rfl
 refine⟨fun h=> ?_,fun h=> ?_⟩
 ·have h:(mulR rt x).2≠0:=by simpa using h
  have e:(Ca.mk nm io d rt et).old x=([],(mulR rt x).2):=if_pos h
  rw [e] at hq
  exact RetR.scal hq rfl rfl
 ·have h:(mulR rt x).2=0:=by simpa using h
  have e:(Ca.mk nm io d rt et).old x=addR (mulR rt x).1 et:=if_neg (by rw [h]; simp)
  rw [e] at hq
  have hl:(mulR rt x).1.length≤2003:=zeq rt x
  refine⟨((mulR rt x).1,et),⟨⟨rfl,rfl,trivial⟩,by show(mulR rt x).1.length<_; omega,by show et.length<_; omega⟩,⟨_,rfl⟩,?_⟩
  rintro _ rfl
  exact RetR.scal hq rfl rfl
def qofC:Ctr:=ctrP true (fun n:Nat=>[.int .i64 (n:Int)]) (fun n=>n≤9) (fun n (r:List UInt8)=>r=[UInt8.ofNat (48+n)]) (fun _ (r:List UInt8)=>(.str r,[]))
theorem zco:zf Tryz.prog 48 qofC:=by
 refine zi (fn:=Tryz.f48) (c:=Tryz.f48.body.getD .skip) rfl rfl rfl fun n hn O w0 Q hq=> ?_
 replace hq:=hq _ rfl
 refine zc.run hmix YI [] 400 (T:=.ex (fun(x:Nat)=>eqL [AV.int .i64 n] [AV.int .i64 x]∧x≤9) fun n=>.all (fun(r:List UInt8)=>r=[UInt8.ofNat (48+n)]) fun n=>.leaf (.ret [.str n] [])) (by kernel_rfl) ?_
 simp only [Tree.holds,zd]
 refine⟨n,⟨⟨⟨rfl,rfl⟩,trivial⟩,hn⟩,⟨_,rfl⟩,?_⟩
 rintro _ rfl
 exact RetR.scal hq rfl (by simp [resV])
noncomputable def GAj:Nat→Option Ctr:=fun f=>if f=82 then some (zj8) else if f=48 then some (qofC) else none
theorem zkj:∀ g c,GAj g=some c→zf Tryz.prog g c:=okIf zhb (okIf zco (zx))
noncomputable def GAjc(n:Nat):Nat→Option Ctr:=fun f=>if f=83 then some (zdg n) else GAj f
theorem zg0{n:Nat}(h:zf Tryz.prog 83 (zdg n)):∀ f c,GAjc n f=some c→zf Tryz.prog f c:=by
 intro f c hf
 simp only [GAjc] at hf
 split at hf
 ·rename_i hg; subst hg; cases hf; exact h
 ·exact zkj f c hf
theorem zdp(n:Nat)(ih:zf Tryz.prog 81 (adjC n)):zf Tryz.prog 81 (adjC (n+1)):=by
 refine qI (fn:=Tryz.f81) (c:=Tryz.f81.body.getD .skip) rfl rfl rfl (fun h=>by cases h) fun p hp O w0 σ0 Q hl0 hq=> ?_
 obtain⟨a,x⟩:=p
 obtain⟨h1,h2⟩:=hp
 simp only at h1 h2
 rw [Ex.size_eq] at h1 h2
 replace hq:=hq () trivial
 simp only [Ca.zj9] at hq
 refine zc.run hmix (zg0 (zi7 n ih)) [] 400 (T:=.ite (bif decide (Ex.name x=Ca.name a) then bif decide (Ex.kind x=3) then true else bif decide (Ex.kind x=2) then decide (Ca.date a≤Ex.date x) else false else false) (.ex (fun(x:Nat)=>eqL [AV.int .i64 1] [AV.int .i64 x]∧x≤9) fun n=>.all (fun(r:List UInt8)=>r=[UInt8.ofNat (48+n)]) fun n=>.ite (!decide (Ca.ratio a=n)) (.ex (fun(x:List UInt8)=>eqL [AV.str (Ca.ratio a)] [AV.str x]∧True) fun n=>.all (fun(x:Unit)=>True) fun n_1=>.ex (fun(x:Nat)=>eqL [AV.int .i64 0] [AV.int .i64 x]∧x≤9) fun n_2=>.all (fun(r:List UInt8)=>r=[UInt8.ofNat (48+n_2)]) fun n_3=>.ite (!decide (Ca.extra a=n_3)) (.ex (fun(x:List UInt8)=>eqL [AV.str (Ca.extra a)] [AV.str x]∧True) fun n_4=>.all (fun(x:Unit)=>True) fun n_5=>.leaf (.ret [.agg [.int .u8 4,.str #[].toList,.str #[].toList,.int .i64 0,.osl 5 5 0 2]] [.box [.str (Ca.name a),.str (Ca.into a),.int .i64 (Ca.date a),.str (Ca.ratio a),.str (Ca.extra a)],.box [.fn 81 [] [.ptr 0 0,.ptr 1 0]],.box [.int .u8 4,.str #[].toList,.str #[].toList,.int .i64 0,.osl 5 5 0 2],.box [.int .u8 4,.str #[].toList,.str #[].toList,.int .i64 0,.osl 5 5 0 2],.arr 2 5 (zh 5 [.int .u8 (Ex.kind (Tm.kon n)),.str (Ex.rat (Tm.kon n)),.str (Ex.name (Tm.kon n)),.int .i64 (Ex.date (Tm.kon n)),.sl (List.length (Ex.sub (Tm.kon n))) 5 (Ex.deep (Tm.kon n)),.int .u8 x.kind,.str x.rat,.str (Ca.into a),.int .i64 x.date,.sl x.sub.length 5 (Ex.exG x.sub)]),.box [.int .u8 6,.str #[].toList,.str #[].toList,.int .i64 0,.osl 4 5 0 2,.int .u8 (Ex.kind (Tm.kon n_4)),.str (Ex.rat (Tm.kon n_4)),.str (Ex.name (Tm.kon n_4)),.int .i64 (Ex.date (Tm.kon n_4)),.sl (List.length (Ex.sub (Tm.kon n_4))) 5 (Ex.deep (Tm.kon n_4))]])) (.leaf (.ret [.agg [.int .u8 6,.str #[].toList,.str #[].toList,.int .i64 0,.osl 4 5 0 2]] [.box [.str (Ca.name a),.str (Ca.into a),.int .i64 (Ca.date a),.str (Ca.ratio a),.str (Ca.extra a)],.box [.fn 81 [] [.ptr 0 0,.ptr 1 0]],.box [.int .u8 6,.str #[].toList,.str #[].toList,.int .i64 0,.osl 4 5 0 2],.box [.int .u8 6,.str #[].toList,.str #[].toList,.int .i64 0,.osl 4 5 0 2],.arr 2 5 (zh 5 [.int .u8 (Ex.kind (Tm.kon n)),.str (Ex.rat (Tm.kon n)),.str (Ex.name (Tm.kon n)),.int .i64 (Ex.date (Tm.kon n)),.sl (List.length (Ex.sub (Tm.kon n))) 5 (Ex.deep (Tm.kon n)),.int .u8 x.kind,.str x.rat,.str (Ca.into a),.int .i64 x.date,.sl x.sub.length 5 (Ex.exG x.sub)])]))) (.ex (fun(x:Nat)=>eqL [AV.int .i64 0] [AV.int .i64 x]∧x≤9) fun n=>.all (fun(r:List UInt8)=>r=[UInt8.ofNat (48+n)]) fun n=>.ite (!decide (Ca.extra a=n)) (.ex (fun(x:List UInt8)=>eqL [AV.str (Ca.extra a)] [AV.str x]∧True) fun n=>.all (fun(x:Unit)=>True) fun n_1=>.leaf (.ret [.agg [.int .u8 4,.str #[].toList,.str #[].toList,.int .i64 0,.osl 4 5 0 2]] [.box [.str (Ca.name a),.str (Ca.into a),.int .i64 (Ca.date a),.str (Ca.ratio a),.str (Ca.extra a)],.box [.fn 81 [] [.ptr 0 0,.ptr 1 0]],.box [.int .u8 4,.str #[].toList,.str #[].toList,.int .i64 0,.osl 4 5 0 2],.box [.int .u8 4,.str #[].toList,.str #[].toList,.int .i64 0,.osl 4 5 0 2],.arr 2 5 (zh 5 [.int .u8 x.kind,.str x.rat,.str (Ca.into a),.int .i64 x.date,.sl x.sub.length 5 (Ex.exG x.sub),.int .u8 (Ex.kind (Tm.kon n)),.str (Ex.rat (Tm.kon n)),.str (Ex.name (Tm.kon n)),.int .i64 (Ex.date (Tm.kon n)),.sl (List.length (Ex.sub (Tm.kon n))) 5 (Ex.deep (Tm.kon n))])])) (.leaf (.ret [.agg [.int .u8 x.kind,.str x.rat,.str (Ca.into a),.int .i64 x.date,.sl x.sub.length 5 (Ex.exG x.sub)]] [.box [.str (Ca.name a),.str (Ca.into a),.int .i64 (Ca.date a),.str (Ca.ratio a),.str (Ca.extra a)],.box [.fn 81 [] [.ptr 0 0,.ptr 1 0]],.box [.int .u8 x.kind,.str x.rat,.str (Ca.into a),.int .i64 x.date,.sl x.sub.length 5 (Ex.exG x.sub)],.box [.int .u8 x.kind,.str x.rat,.str (Ca.into a),.int .i64 x.date,.sl x.sub.length 5 (Ex.exG x.sub)]])))) (.ex (fun(x_1:Ca×Ex)=>eqL [x.exA,AV.fn 81 [] [AV.ptr 0 0,AV.ptr 1 0]] [x_1.2.exA,AV.fn 81 [] [AV.ptr 0 0,AV.ptr 1 0]]∧eqH [.box [AV.str (Ca.name a),AV.str (Ca.into a),AV.int .i64 (Ca.date a),AV.str (Ca.ratio a),AV.str (Ca.extra a)],.box [AV.fn 81 [] [AV.ptr 0 0,AV.ptr 1 0]]] [.box [AV.str (Ca.name x_1.1),AV.str (Ca.into x_1.1),AV.int .i64 (Ca.date x_1.1),AV.str (Ca.ratio x_1.1),AV.str (Ca.extra x_1.1)],.box [AV.fn 81 [] [AV.ptr 0 0,AV.ptr 1 0]]]∧2=2∧Ex.zr x_1.2.sub<n∧Ex.zr x_1.2.sub<1099511627776) fun n=>.all (fun(x:Unit)=>True) fun n_1=>.leaf (.ret [(exD (Ex.mk n.2.kind n.2.rat n.2.name n.2.date (List.map (Ca.adj n.1) n.2.sub)))] [.box [.str (Ca.name n.1),.str (Ca.into n.1),.int .i64 (Ca.date n.1),.str (Ca.ratio n.1),.str (Ca.extra n.1)],.box [.fn 81 [] [.ptr 0 0,.ptr 1 0]],.box [.int .u8 x.kind,.str x.rat,.str x.name,.int .i64 x.date,.sl x.sub.length 5 (Ex.exG x.sub)],.box (Ex.cellsD (Ex.mk n.2.kind n.2.rat n.2.name n.2.date (List.map (Ca.adj n.1) n.2.sub)))]))) (by kernel_rfl) ?_
 simp only [Tree.holds,zd]
 obtain⟨c,hc⟩:∃ c,a.onX x.kind x.name x.date=c:=⟨_,rfl⟩
 rw [hc] at hq
 have hcc:(bif decide (x.name=a.name) then bif decide (x.kind=3) then true else bif decide (x.kind=2) then decide (a.date≤x.date) else false else false)=c:=by
  rw [← hc]; unfold Ca.onX
  cases decide (x.kind=3)<;>cases decide (x.kind=2)<;>cases decide (x.name=a.name)<;>cases decide (a.date≤x.date)<;>rfl
 rw [hcc]
 refine⟨fun h=> ?_,fun h=> ?_⟩
 ·rw [if_pos h] at hq
  have hq2:∀ y:Ex,Ca.rel a (.mk x.kind x.rat a.into x.date x.sub)=y→Q (exD y,HAd a):=fun y e=>by rw [← e]; exact hq
  unfold Ca.rel at hq2
  have e48:[UInt8.ofNat (48+0)]=[48]:=rfl
  have e49:[UInt8.ofNat (48+1)]=[49]:=rfl
  refine⟨1,⟨⟨⟨rfl,rfl⟩,trivial⟩,by decide⟩,⟨_,rfl⟩,?_⟩
  rintro _ rfl
  rw [e49]
  refine⟨fun h1=> ?_,fun h1=> ?_⟩<;>simp at h1
  ·refine⟨a.ratio,⟨⟨rfl,trivial⟩,trivial⟩,⟨(),trivial⟩,fun _ _=>⟨0,⟨⟨⟨rfl,rfl⟩,trivial⟩,by decide⟩,⟨_,rfl⟩,?_⟩⟩
   rintro _ rfl
   rw [e48]
   refine⟨fun h2=> ?_,fun h2=> ?_⟩<;>simp at h2
   ·rw [if_neg h2,if_neg h1] at hq2
    refine⟨a.extra,⟨⟨rfl,trivial⟩,trivial⟩,⟨(),trivial⟩,fun _ _=> ?_⟩
    exact RetR.yv [0,1] rfl rfl (by show ∀ j,j<2→_; decide) rfl (hq2 _ rfl) (LeA.agg ⟨LeA.refl _,LeA.refl _,LeA.refl _,LeA.refl _,Ex.ym (x:=Tm.opx 6 [Tm.kon a.ratio,Ex.mk x.kind x.rat a.into x.date x.sub]) (y:=Tm.kon a.extra) ⟨LeA.refl _,LeA.refl _,LeA.refl _,LeA.refl _,Ex.ym (x:=Tm.kon a.ratio) (y:=Ex.mk x.kind x.rat a.into x.date x.sub) ⟨LeA.refl _,LeA.refl _,LeA.refl _,LeA.refl _,LeA.refl _,LeA.refl _,LeA.refl _,LeA.refl _,LeA.refl _,Ex.jJ (Ex.mk x.kind x.rat a.into x.date x.sub),trivial⟩,LeA.refl _,LeA.refl _,LeA.refl _,LeA.refl _,LeA.refl _,trivial⟩,trivial⟩) (by simp [expH,expB,exp1,exp0,ren0,HAd,z5]) rfl
   ·rw [if_pos h2,if_neg h1] at hq2
    exact RetR.yv [0,1] rfl rfl (by show ∀ j,j<2→_; decide) rfl (hq2 _ rfl) (LeA.agg ⟨LeA.refl _,LeA.refl _,LeA.refl _,LeA.refl _,Ex.ym (x:=Tm.kon a.ratio) (y:=Ex.mk x.kind x.rat a.into x.date x.sub) ⟨LeA.refl _,LeA.refl _,LeA.refl _,LeA.refl _,LeA.refl _,LeA.refl _,LeA.refl _,LeA.refl _,LeA.refl _,Ex.jJ (Ex.mk x.kind x.rat a.into x.date x.sub),trivial⟩,trivial⟩) (by simp [expH,expB,exp1,exp0,ren0,HAd,z5]) rfl
  ·refine⟨0,⟨⟨⟨rfl,rfl⟩,trivial⟩,by decide⟩,⟨_,rfl⟩,?_⟩
   rintro _ rfl
   rw [e48]
   refine⟨fun h2=> ?_,fun h2=> ?_⟩<;>simp at h2
   ·rw [if_neg h2,if_pos h1] at hq2
    refine⟨a.extra,⟨⟨rfl,trivial⟩,trivial⟩,⟨(),trivial⟩,fun _ _=> ?_⟩
    exact RetR.yv [0,1] rfl rfl (by show ∀ j,j<2→_; decide) rfl (hq2 _ rfl) (LeA.agg ⟨LeA.refl _,LeA.refl _,LeA.refl _,LeA.refl _,Ex.ym (x:=Ex.mk x.kind x.rat a.into x.date x.sub) (y:=Tm.kon a.extra) ⟨LeA.refl _,LeA.refl _,LeA.refl _,LeA.refl _,Ex.jJ (Ex.mk x.kind x.rat a.into x.date x.sub),LeA.refl _,LeA.refl _,LeA.refl _,LeA.refl _,LeA.refl _,trivial⟩,trivial⟩) (by simp [expH,expB,exp1,exp0,ren0,HAd,z5]) rfl
   ·rw [if_pos h2,if_pos h1] at hq2
    exact RetR.yv [0,1] rfl rfl (by show ∀ j,j<2→_; decide) rfl (hq2 _ rfl) (LeA.agg ⟨LeA.refl _,LeA.refl _,LeA.refl _,LeA.refl _,Ex.jJ (Ex.mk x.kind x.rat a.into x.date x.sub),trivial⟩) (by simp [expH,expB,exp1,exp0,ren0,HAd,z5]) rfl
 rw [h,if_neg (by decide)] at hq
 refine⟨(a,x),⟨⟨j1 x,by simp,trivial⟩,by simp,trivial,by show Ex.zr x.sub<n; omega,by show Ex.zr x.sub<_; omega⟩,⟨(),trivial⟩,fun _ _=> ?_⟩
 exact RetR.yv [0,1] rfl rfl (by show ∀ j,j<2→_; decide) rfl hq (LeA.refl _) (by simp [expH,expB,exp1,exp0,ren0,HAd,z5]) rfl
theorem zgx(n:Nat):zf Tryz.prog 81 (adjC n):=by
 induction n with
 | zero=>
  intro args hc Q hq _
  simp only [adjC,ctrT] at hq
  obtain⟨x,⟨_,_,_,h,_⟩,_⟩:=hq
  exact absurd h (Nat.not_lt_zero _)
 | succ n ih=>exact zdp n ih
def Xg:Ctr:=ctrT false false (fun p:Ca×Ex=>[p.2.exA,.ptr 0 0,.ptr 1 0]) (fun p=>HAd p.1) (fun p=>p.2.size<2^40) (fun _ (_:Unit)=>True) (fun p _=>(exD (p.1.adj p.2),HAd p.1))
theorem zka:zf Tryz.prog 81 Xg:=by
 intro args hc Q hq hf
 simp only [Xg,ctrT] at hq
 obtain⟨x,⟨h1,h2,h3,h4⟩,h5⟩:=hq
 exact zgx (x.2.size+1) args hc Q ⟨x,⟨h1,h2,h3,Nat.lt_succ_self _,h4⟩,h5⟩ hf
noncomputable def GAdj:Nat→Option Ctr:=fun f=>if f=81 then some (Xg) else none
theorem zgm:∀ g c,GAdj g=some c→zf Tryz.prog g c:=okIf zka (zx)
def uN:Ctr:=ctrP false (fun p:Ca×Ex=>[p.1.av,p.2.exA]) (fun p=>p.2.size<2^40) (fun _ (_:Unit)=>True) (fun p _=>(exD (p.1.adj p.2),[]))
theorem Zd:zf Tryz.prog 38 uN:=by
 refine zi (fn:=Tryz.f38) (c:=Tryz.f38.body.getD .skip) rfl rfl rfl fun p hp O w0 Q hq=> ?_
 obtain⟨a,x⟩:=p
 replace hq:=hq () trivial
 refine zc.run hmix zgm [] 400 (T:=.ex (fun(x_1:Ca×Ex)=>eqL [x.exA,AV.ptr 0 0,AV.ptr 1 0] [x_1.2.exA,AV.ptr 0 0,AV.ptr 1 0]∧eqH [.box [AV.str (Ca.name a),AV.str (Ca.into a),AV.int .i64 (Ca.date a),AV.str (Ca.ratio a),AV.str (Ca.extra a)],.box [AV.fn 81 [] [AV.ptr 0 0,AV.ptr 1 0]]] [.box [AV.str (Ca.name x_1.1),AV.str (Ca.into x_1.1),AV.int .i64 (Ca.date x_1.1),AV.str (Ca.ratio x_1.1),AV.str (Ca.extra x_1.1)],.box [AV.fn 81 [] [AV.ptr 0 0,AV.ptr 1 0]]]∧2=2∧Ex.size x_1.2<1099511627776) fun n=>.all (fun(x:Unit)=>True) fun n_1=>.leaf (.ret [(exD (Ca.adj n.1 n.2))] [.box [.str (Ca.name n.1),.str (Ca.into n.1),.int .i64 (Ca.date n.1),.str (Ca.ratio n.1),.str (Ca.extra n.1)],.box [.int .u8 x.kind,.str x.rat,.str x.name,.int .i64 x.date,.sl x.sub.length 5 (Ex.exG x.sub)],.box (Ex.cellsD (Ca.adj n.1 n.2)),.box [.fn 81 [] [.ptr 0 0,.ptr 3 0]]])) (by kernel_rfl) ?_
 simp only [Tree.holds,zd]
 refine⟨(a,x),⟨⟨j1 x,⟨rfl,rfl⟩,⟨rfl,rfl⟩,trivial⟩,by simp,trivial,hp⟩,⟨(),trivial⟩,fun _ _=> ?_⟩
 exact RetR.le0 hq (fun h=>by cases h) (LeA.refl _)
end Go.Proofs.Tryz
end
section
namespace Go.Nov
open Go.Sx
theorem VY{k p:Int}(h:p∈qu k):p≠0:=by
 unfold qu ZC at h
 cases e:shpL.find? (fun q=>q.1 == k) with
 | none=>rw [e] at h; simp at h
 | some q=>
  rw [e] at h
  simp only [Option.map_some,Option.getD_some] at h
  have hq:=List.mem_of_find?_eq_some e
  have all:∀ q∈shpL,∀ p∈q.2.1,p≠0:=by decide
  exact all q hq p h
theorem ZW{k d:Int}{r n:List UInt8}{ss:List Int}(h:vR k r n d ss≠0):∀ p∈ss,p≠0:=by
 unfold vR at h
 split at h
 ·split at h
  ·rename_i h2
   rw [h2.2.2.2]
   exact fun p hp=>VY hp
  ·exact absurd rfl h
 ·split at h
  ·rename_i h2
   unfold ja at h2
   have:ss=[]:=by simp at h2; exact h2.1
   rw [this]; simp
  ·exact absurd rfl h
theorem ky{k d:Int}{r n:List UInt8}{ss:List Int}(h:vR k r n d ss≠0)(hk:k=3∨k=2):r=[]∧ss=[]:=by
 have hs:jN k=false:=by rcases hk with rfl | rfl<;>decide
 rw [k7 hs] at h
 split at h
 ·rename_i h2
  unfold ja at h2
  rcases hk with rfl | rfl<;>simp at h2
  ·exact⟨h2.2.1.1,h2.1⟩
  ·exact⟨h2.2.1.1,h2.1⟩
 ·exact absurd rfl h
namespace Ca
mutual
theorem Vn(a:Ca):∀ x:Ex,x.zJ≠0→adj a x=chg a x
 | .mk k r n d s,h=>by
  rw [Ex.zJ] at h
  rw [adj,chg]
  by_cases hh:a.onX k n d=true
  ·rw [if_pos hh,if_pos hh]
   have hk:k=3∨k=2:=by
    simp [onX] at hh
    rcases hh.2 with h1 | h1
    ·exact .inl h1
    ·exact .inr h1.1
   obtain⟨h1,h2⟩:=ky h hk
   have:s=[]:=by
    cases s with
    | nil=>rfl
    | cons x s=>rw [Ex.zW] at h2; cases h2
   rw [h1,this]
  ·rw [if_neg hh,if_neg hh,Wo a s (ZW h)]
theorem Wo(a:Ca):∀ s:List Ex,(∀ p∈Ex.zW s,p≠0)→adjs a s=chgs a s
 | [],_=>by rw [adjs,chgs]
 | x::s,h=>by
  rw [Ex.zW] at h
  rw [adjs,chgs,Vn a x (h _ (by simp)),Wo a s (fun p hp=>h p (by simp [hp]))]
end
theorem zdw(a:Ca)(y:Ex):(a.rel y).size≤y.size+4∧(a.rel y).zu≤y.zu+a.ratio.length+a.extra.length:=by
 unfold rel
 split<;>split<;>(try simp only [Tm.opx,Tm.kon,Ex.size,Ex.zr,Ex.zu,Ex.qD,List.length_nil])<;>omega
mutual
theorem Z4(a:Ca):∀ x:Ex,(chg a x).size≤5*x.size∧(chg a x).zu≤x.zu+x.size*(a.into.length+a.ratio.length+a.extra.length)
 | .mk k r n d s=>by
  rw [chg]
  by_cases hh:a.onX k n d=true
  ·rw [if_pos hh]
   have h:=zdw a (.mk k [] a.into d [])
   simp only [Ex.size,Ex.zr,Ex.zu,Ex.qD,List.length_nil] at h ⊢
   have hm:a.into.length+a.ratio.length+a.extra.length≤(1+Ex.zr s)*(a.into.length+a.ratio.length+a.extra.length):=Nat.le_mul_of_pos_left _ (by omega)
   omega
  ·rw [if_neg hh]
   have h:=J1 a s
   simp only [Ex.size,Ex.zu,Nat.add_mul,Nat.one_mul] at h ⊢
   omega
theorem J1(a:Ca):∀ s:List Ex,Ex.zr (chgs a s)≤5*Ex.zr s∧Ex.qD (chgs a s)≤Ex.qD s+Ex.zr s*(a.into.length+a.ratio.length+a.extra.length)
 | []=>by rw [chgs]; simp [Ex.zr,Ex.qD]
 | x::s=>by
  have h1:=Z4 a x
  have h2:=J1 a s
  rw [chgs]
  simp only [Ex.zr,Ex.qD,Nat.add_mul] at h1 h2 ⊢
  omega
end
theorem Uh{k d:Int}{s t n:List UInt8}{x:Ex}{l:List Int}{m:Nat}(h:Js k s t n x d l m=true):qW x=true∨x.zJ≠0:=by
 have hn:numX x=true→x.zJ≠0:=fun h=>by simp [numX] at h; omega
 have ht:truX x=true→x.zJ≠0:=fun h=>by simp [truX] at h; omega
 unfold Js at h
 repeat' split at h
 all_goals simp only [Bool.and_eq_true,Bool.false_eq_true] at h
 all_goals first
  | exact h.elim
  | exact .inl h.2
  | exact .inr (hn h.2)
  | exact .inr (ht h.2)
  | exact .inr (hn h.1.1.2)
theorem za3(a:Ca){x:Ex}(h:qW x=true∨x.zJ≠0):adj a x=chg a x:=by
 rcases h with h | h
 ·obtain⟨k,r,n,d,s⟩:=x
  simp [qW,Ex.kind,Ex.rat,Ex.name,Ex.date,Ex.sub] at h
  obtain⟨h0,_,_,_,rfl⟩:=h
  obtain rfl:k=0:=of_decide_eq_true h0
  rw [adj,chg,adjs,chgs]
  have:a.onX 0 n d=false:=by simp [onX]
  rw [this]; simp
 ·exact Vn a x h
mutual
theorem Jl(a:Ca):∀ c:Con,c.form=true→whole a.adj c=whole a.chg c
 | .mk k s t n x d l u,h=>by
  rw [Con.form,Bool.and_eq_true] at h
  rw [whole,whole,za3 a (Uh h.1),Ql a u h.2]
theorem Ql(a:Ca):∀ u:List Con,Con.yj u=true→qx a.adj u=qx a.chg u
 | [],_=>by rw [qx,qx]
 | c::u,h=>by
  rw [Con.yj,Bool.and_eq_true] at h
  rw [qx,qx,Jl a c h.1,Ql a u h.2]
end
mutual
theorem yb(a:Ca):∀ c:Con,(whole a.chg c).nodes=c.nodes∧(whole a.chg c).big≤5*c.big+c.big*(a.into.length+a.ratio.length+a.extra.length)
 | .mk k s t n x d l u=>by
  have h1:=Z4 a x
  have h2:=Zj a u
  rw [whole]
  simp only [Con.nodes,Con.big,Nat.add_mul] at h1 h2 ⊢
  omega
theorem Zj(a:Ca):∀ u:List Con,Con.qL (qx a.chg u)=Con.qL u∧Con.bigs (qx a.chg u)≤5*Con.bigs u+Con.bigs u*(a.into.length+a.ratio.length+a.extra.length)
 | []=>by rw [qx]; simp [Con.qL,Con.bigs]
 | c::u=>by
  have h1:=yb a c
  have h2:=Zj a u
  rw [qx]
  simp only [Con.qL,Con.bigs,Nat.add_mul] at h1 h2 ⊢
  omega
end
def expr(a:Ca)(x:Ex):Ex×Int:=if a.ok=true then(if x.errX=0 then(if(chg a x).errX=0 then(chg a x,0) else(Ex.nil,(chg a x).errX)) else(Ex.nil,x.errX)) else(Ex.nil,8)
def conv(a:Ca)(c:Con):Con×Int:=if a.ok=true then(if c.errC=0 then(if(whole a.chg c).errC=0 then(whole a.chg c,0) else(Con.nil,(whole a.chg c).errC)) else(Con.nil,c.errC)) else(Con.nil,8)
end Ca
end Go.Nov
end
section
set_option maxRecDepth 100000
open Go Go.Sx Go.Proofs Go.Nov
namespace Go.Proofs.Tryz
attribute [local simp] eqKV eqA eqA0 eqH eqB eqL eqL0
noncomputable def GPex:Nat→Option Ctr:=fun f=>if f=16 then some (ki) else if f=37 then some (W7) else if f=38 then some (uN) else none
theorem zi0:∀ g c,GPex g=some c→zf Tryz.prog g c:=okIf vE (okIf Wq (okIf Zd (zx)))
def qp(a:Ca):Prop:=a.name.length≤1000∧a.into.length≤1000∧a.ratio.length≤1000∧a.extra.length≤1000
theorem j6{a:Ca}(h:qp a):qJ a:=by
 obtain⟨h1,h2,h3,h4⟩:=h
 exact⟨by omega,by omega,by omega,by omega⟩
theorem zds{a:Ca}{x:Ex}(ha:qp a)(h1:x.size<2^20)(h2:x.zu<2^30):(a.chg x).size<2^40∧(a.chg x).zu<2^40:=by
 obtain⟨_,a2,a3,a4⟩:=ha
 obtain⟨s1,s2⟩:=Ca.Z4 a x
 have:x.size*(a.into.length+a.ratio.length+a.extra.length)≤2^20*3000:=Nat.mul_le_mul (by omega) (by omega)
 omega
theorem Vd{e:Int} : eqA2 (.tup [.agg [.int .u8 0,.str [],.str [],.int .i64 0,.nils],.int .i64 e]) (.tup [exD Ex.nil,.int .i64 e]):=by
 simp [eqA2,eqL1,exD,Ex.nil,Ex.kind,Ex.rat,Ex.name,Ex.date,Ex.sub]
theorem zho{x:Ex}(h:x.errX=0):x.zJ≠0:=by
 intro e
 unfold Ex.errX at h
 rw [if_pos e] at h
 split at h<;>simp at h
def YB:Ctr:=ctrP false (fun p:Ca×Ex=>[p.1.av,p.2.exA]) (fun p=>qp p.1∧p.2.size<2^20∧p.2.zu<2^30) (fun _ (_:Unit)=>True) (fun p _=>(.tup [exD (p.1.expr p.2).1,.int .i64 (p.1.expr p.2).2],[]))
theorem YO:zf Tryz.prog 10 YB:=by
 refine zi (fn:=Tryz.f10) (c:=Tryz.f10.body.getD .skip) rfl rfl rfl fun p hp O w0 Q hq=> ?_
 obtain⟨a,x⟩:=p
 replace hq:=hq () trivial
 refine zc.run hmix zi0 [] 400 (T:=.ex (fun(x:Ca)=>eqL [AV.agg [AV.str (Ca.name a),AV.str (Ca.into a),AV.int .i64 (Ca.date a),AV.str (Ca.ratio a),AV.str (Ca.extra a)]] [AV.agg [AV.str (Ca.name x),AV.str (Ca.into x),AV.int .i64 (Ca.date x),AV.str (Ca.ratio x),AV.str (Ca.extra x)]]∧qJ x) fun n=>.all (fun(r:Int)=>r=if Ca.ok n=true then(0:Int) else(8:Int)) fun n=>.ite (!decide (n=0)) (.leaf (.ret [.agg [.int .u8 0,.str #[].toList,.str #[].toList,.int .i64 0,.nils],.int .i64 n] [.box [.str (Ca.name a),.str (Ca.into a),.int .i64 (Ca.date a),.str (Ca.ratio a),.str (Ca.extra a)],.box [.int .u8 x.kind,.str x.rat,.str x.name,.int .i64 x.date,.sl x.sub.length 5 (Ex.exG x.sub)],.box [.int .u8 0,.str #[].toList,.str #[].toList,.int .i64 0,.nils]])) (.ex (fun(x_1:Ex)=>eqL [x.exA] [x_1.exA]∧Ex.size x_1<1099511627776∧Ex.zu x_1<1099511627776) fun n=>.all (fun(r:Int)=>r=Ex.errX n) fun n=>.ite (!decide (n=0)) (.leaf (.ret [.agg [.int .u8 0,.str #[].toList,.str #[].toList,.int .i64 0,.nils],.int .i64 n] [.box [.str (Ca.name a),.str (Ca.into a),.int .i64 (Ca.date a),.str (Ca.ratio a),.str (Ca.extra a)],.box [.int .u8 x.kind,.str x.rat,.str x.name,.int .i64 x.date,.sl x.sub.length 5 (Ex.exG x.sub)],.box [.int .u8 0,.str #[].toList,.str #[].toList,.int .i64 0,.nils]])) (.ex (fun(x_1:Ca×Ex)=>eqL [AV.agg [AV.str (Ca.name a),AV.str (Ca.into a),AV.int .i64 (Ca.date a),AV.str (Ca.ratio a),AV.str (Ca.extra a)],x.exA] [AV.agg [AV.str (Ca.name x_1.1),AV.str (Ca.into x_1.1),AV.int .i64 (Ca.date x_1.1),AV.str (Ca.ratio x_1.1),AV.str (Ca.extra x_1.1)],x_1.2.exA]∧Ex.size x_1.2<1099511627776) fun n=>.all (fun(x:Unit)=>True) fun n_1=>.ex (fun(x:Ex)=>eqL [(exD (Ca.adj n.1 n.2))] [x.exA]∧Ex.size x<1099511627776∧Ex.zu x<1099511627776) fun n_2=>.all (fun(r:Int)=>r=Ex.errX n_2) fun n_3=>.ite (!decide (n_3=0)) (.leaf (.ret [.agg [.int .u8 0,.str #[].toList,.str #[].toList,.int .i64 0,.nils],.int .i64 n_3] [.box [.str (Ca.name a),.str (Ca.into a),.int .i64 (Ca.date a),.str (Ca.ratio a),.str (Ca.extra a)],.box [.int .u8 x.kind,.str x.rat,.str x.name,.int .i64 x.date,.sl x.sub.length 5 (Ex.exG x.sub)],.box [.int .u8 0,.str #[].toList,.str #[].toList,.int .i64 0,.nils],.box (Ex.cellsD (Ca.adj n.1 n.2))])) (.leaf (.ret [(exD (Ca.adj n.1 n.2)),.int .i64 0] [.box [.str (Ca.name a),.str (Ca.into a),.int .i64 (Ca.date a),.str (Ca.ratio a),.str (Ca.extra a)],.box [.int .u8 x.kind,.str x.rat,.str x.name,.int .i64 x.date,.sl x.sub.length 5 (Ex.exG x.sub)],.box (Ex.cellsD (Ca.adj n.1 n.2)),.box (Ex.cellsD (Ca.adj n.1 n.2))]))))) (by kernel_rfl) ?_
 simp only [Tree.holds,zd]
 obtain⟨ht,hx1,hx2⟩:=hp
 simp only at ht hx1 hx2 hq
 obtain⟨c1,c2⟩:=zds ht hx1 hx2
 unfold Ca.expr at hq
 have ha:eqA (.agg [.str a.name,.str a.into,.int .i64 a.date,.str a.ratio,.str a.extra]) a.av:=⟨rfl,rfl,⟨rfl,rfl⟩,rfl,rfl,trivial⟩
 refine⟨a,⟨⟨ha,trivial⟩,j6 ht⟩,⟨_,rfl⟩,?_⟩
 rintro _ rfl
 by_cases hok:a.ok=true
 ·rw [if_pos hok] at hq ⊢
  refine⟨fun h=>by simp at h,fun _=> ?_⟩
  refine⟨x,⟨⟨j1 x,trivial⟩,by omega,by omega⟩,⟨_,rfl⟩,?_⟩
  rintro _ rfl
  refine⟨fun h=> ?_,fun h=> ?_⟩<;>simp at h
  ·rw [if_neg h] at hq
   exact RetR.out0 hq (fun h=>by cases h) Vd
  have e:a.adj x=a.chg x:=Ca.Vn a x (zho h)
  rw [if_pos h] at hq
  refine⟨(a,x),⟨⟨ha,j1 x,trivial⟩,by show x.size<_; omega⟩,⟨(),trivial⟩,fun _ _=> ?_⟩
  simp only [e]
  refine⟨a.chg x,⟨⟨qb _,trivial⟩,c1,c2⟩,⟨_,rfl⟩,?_⟩
  rintro _ rfl
  refine⟨fun h=> ?_,fun h=> ?_⟩<;>simp at h
  ·rw [if_neg h] at hq
   exact RetR.out0 hq (fun h=>by cases h) Vd
  rw [if_pos h] at hq
  exact RetR.le0 hq (fun h=>by cases h) (LeA.refl _)
 ·rw [if_neg hok] at hq ⊢
  exact⟨fun _=>RetR.out0 hq (fun h=>by cases h) Vd,fun h=>by simp at h⟩
end Go.Proofs.Tryz
end
section
namespace Go.Sx
variable [Stat]
def Kv(P:Program)(g sz bytes:Nat):Prop:=∀ (b off n c i m vb voff vc:Nat) (cur vcur:Array Value) (el vel:TypeId) (w:World),0<m→i<n→n≤c→(n+m)*bytes≤140737488355328→vb≠b →
 w.heap[b]?=some (.cells cur el (0,0))→w.heap[vb]?=some (.cells vcur vel (0,0))→off+c*sz≤cur.size→voff+m*sz≤vcur.size →
 (∀ (j:Nat) (v:Value),j<n*sz→cur[off+j]?=some v→v.oneCell'=true)→(∀ (j:Nat) (v:Value),j<m*sz→vcur[voff+j]?=some v→v.oneCell'=true) →
 Calls P g #[.slice (some ⟨b,off,none⟩) n c,.int .i64 i,.slice (some ⟨vb,voff,none⟩) m vc] w fun e w'=>∃ (b' o' c':Nat) (cur':Array Value) (el':TypeId),
  e = .returned (.slice (some ⟨b',o',none⟩) (n+m) c')∧n+m≤c'∧w'.heap[b']?=some (.cells cur' el' (0,0))∧o'+c'*sz≤cur'.size ∧
  (∀ j,j<(n+m)*sz→cur'[o'+j]?=if j<i*sz then cur[off+j]? else if j<i*sz+m*sz then vcur[voff+(j - i*sz)]? else cur[off+(j - m*sz)]?) ∧
  (b'=b∨w.heap.size≤b')∧w.heap.size≤w'.heap.size∧(∀ k,k<w.heap.size→k≠b→w'.heap[k]?=w.heap[k]?)∧w'.os=w.os∧w'.tape=w.tape∧w'.output=w.output
def Kr(i m:Nat)(gl gv:Nat→Nat→AV):Nat→Nat→AV:=fun j o=>if j<i then gl j o else if j<i+m then gv (j - i) o else gl (j - m) o
theorem zen{P:Program}{g:Nat}{fn:Func}{c:Code}(hf:P.funcs[g]?=some fn)(hb:fn.body=some c) (hn:(fn.name == "runtime.NumGoroutine")=false) {sz bytes:Nat} (hsz:0<sz) (W:Kv P g sz bytes)
  {gl gv gt:Nat→Nat→AV} {n i m:Nat} (hm:0<m) (hi:i<n) (hbig:(n+m)*bytes≤140737488355328) (hgt:eqG (n+m) sz (Kr i m gl gv) gt) {ctr:Ctr} (hfr:ctr.fresh=false) (hmv:ctr.wQ=true) (hpi:ctr.pins=0) {Q:AV×Heap→Prop}
  (hq:Q (.osl 0 sz 0 (n+m),[.arr (n+m) sz gt,.dead])):jg P g ctr [.osl 0 sz 0 n,.int .i64 i,.osl 1 sz 0 m] [.arr n sz gl,.arr m sz gv] Q:=by
 intro O w σ vals hg hh hr
 simp only [RepL] at hr
 obtain⟨v0,r0,rfl,h0,v1,r1,rfl,h1,v2,r2,rfl,h2,rfl⟩:=hr
 simp only [Rep] at h0 h1 h2
 subst h1
 obtain⟨e0,he0,hl0,a0,cap,rfl,hnc,hr0⟩:=h0
 obtain⟨e1,he1,hl1,a1,vc,rfl,hvc,hr1⟩:=h2
 rcases hr0 with hr0 | ⟨ad,had,rfl,cur,el,hcur,hsize⟩
 ·omega
 rcases hr1 with hr1 | ⟨vd,hvd,rfl,vcur,vel,hvcur,hvsize⟩
 ·omega
 obtain⟨hen0,hz0 | ⟨ad',cs0,el0,had',hcs0,hs0,hc0⟩⟩:=hh.blk 0 e0 _ he0 rfl
 ·omega
 rw [had] at had'; cases had'
 rw [hcur] at hcs0; cases hcs0
 obtain⟨hen1,hz1 | ⟨vd',cs1,el1,hvd',hcs1,hs1,hc1⟩⟩:=hh.blk 1 e1 _ he1 rfl
 ·omega
 rw [hvd] at hvd'; cases hvd'
 rw [hvcur] at hcs1; cases hcs1
 have hne:vd.block≠ad.block:=fun h=>hh.inj 0 1 e0 e1 ad vd he0 he1 had hvd (by decide) h.symm
 have hmb:Mine σ ad.block:=⟨e0,List.mem_of_getElem? he0,ad,had,rfl⟩
 have hbw:ad.block<w.heap.size:=hh.lt 0 e0 ad he0 had
 simp only [Nat.zero_mul,Nat.add_zero,Nat.zero_add] at hsize hvsize ⊢
 have hn':¬ fn.name = "runtime.NumGoroutine" :=by simpa using hn
 left
 refine⟨by simp [callFunc,hf,hn',hb],?_⟩
 have hvfit:vd.off+m*sz≤vcur.size:=by simpa using hs1
 refine(W ad.block ad.off n cap i m vd.block vd.off vc cur vcur el vel w hm hi hnc hbig hne hcur hvcur hsize hvfit ?_ ?_).mono ?_
 ·intro j v hj hv
  have ho:j%sz<sz:=Nat.mod_lt _ hsz
  have hjn:j/sz<n:=Nat.div_lt_of_lt_mul (by rw [Nat.mul_comm]; exact hj)
  obtain⟨c,g1,g2,_⟩:=hc0 (j/sz) (j%sz) hjn ho
  have:j/sz*sz+j%sz=j:=by rw [Nat.mul_comm]; exact Nat.div_add_mod j sz
  rw [this,hv] at g1
  cases g1; exact g2
 ·intro j v hj hv
  have ho:j%sz<sz:=Nat.mod_lt _ hsz
  have hjn:j/sz<m:=Nat.div_lt_of_lt_mul (by rw [Nat.mul_comm]; exact hj)
  obtain⟨c,g1,g2,_⟩:=hc1 (j/sz) (j%sz) hjn ho
  have:j/sz*sz+j%sz=j:=by rw [Nat.mul_comm]; exact Nat.div_add_mod j sz
  rw [this,hv] at g1
  cases g1; exact g2
 rintro e w' ⟨b',o',c',cur',el',rfl,hc',hcur',hsz',hel,hb',hws,hkeep,hos,htape,hout⟩
 refine⟨_,rfl,.osl 0 sz 0 (n+m),[.arr (n+m) sz gt,.dead],[⟨some ⟨b',o',none⟩,n+m⟩,⟨none,0⟩],hq,?_⟩
 have hlt':b'<w'.heap.size:=(Array.getElem?_eq_some_iff.1 hcur').1
 have hmine:∀ b,Mine [⟨some ⟨b',o',none⟩,n+m⟩,⟨none,0⟩] b→b=b':=by
  rintro b ⟨e,he,ad2,h1,h2⟩
  simp only [List.mem_cons,List.not_mem_nil,or_false] at he
  rcases he with rfl | rfl
  ·cases h1; exact h2.symm
  ·cases h1
 have hown:∀ b,Own O [⟨some ⟨b',o',none⟩,n+m⟩,⟨none,0⟩] b→O b∨b=b':=fun b hb=>hb.imp id fun h=>hmine b h
 have hx:Ext (Own O σ) w (fun b=>Own O [⟨some ⟨b',o',none⟩,n+m⟩,⟨none,0⟩] b∨(ctr.fresh=true∧b<w.heap.size)) w':=by
  refine⟨hos,htape,hout,hws,fun b hb hno=>hkeep b hb fun h=>hno (.inr (h▸hmb)),fun b hb=> ?_⟩
  rcases hb with hb | ⟨hb,_⟩
  ·rcases hown b hb with hb | rfl
   ·exact .inl (.inl hb)
   ·rcases hb' with rfl | hb'
    ·exact .inl (.inr hmb)
    ·exact .inr hb'
  ·rw [hfr] at hb; cases hb
 refine⟨?_,⟨rfl,?_,?_,?_⟩,⟨fun b hb=>Nat.lt_of_lt_of_le (hg.old b hb) hws,?_,hg.stat.ext ⟨hx.os,hx.tape,hx.output,hx.size,hx.keep,fun b hb=>hx.grow b (.inl hb)⟩⟩,Nat.le_refl _,?_,⟨hos,htape,hout,hws,fun b hb hno=>hkeep b hb fun h=>hno (h▸hmb),fun b hb=> ?_⟩⟩
 ·simp only [Rep]
  exact⟨⟨some ⟨b',o',none⟩,n+m⟩,rfl,by simp,some ⟨b',o',none⟩,c',rfl,hc',.inr ⟨⟨b',o',none⟩,rfl,by simp,cur',el',hcur',by simpa using hsz'⟩⟩
 ·intro i j e f a b he hf ha hb hij
  match i,j with
  | 0,0=>exact absurd rfl hij
  | 0,1=>simp at hf; subst hf; cases hb
  | 1,_=>simp at he; subst he; cases ha
  | 0,j+2=>simp at hf
  | i+2,_=>simp at he
 ·intro i e a he ha
  match i with
  | 0=>simp at he; subst he; cases ha; exact hlt'
  | 1=>simp at he; subst he; cases ha
  | i+2=>simp at he
 ·intro k e b he hb
  match k with
  | 0=>
   simp at he hb; subst he; subst hb
   refine⟨rfl,.inr ⟨_,cur',el',rfl,hcur',?_,fun j o hj ho=> ?_⟩⟩
   ·have:(n+m)*sz≤c'*sz:=Nat.mul_le_mul_right _ hc'
    simp only; omega
   ·have hlt:=ur hj ho
    have he:=hel (j*sz+o) hlt
    have hg2:=hgt j o hj ho
    simp only
    rw [he,← hg2]
    simp only [Kr]
    by_cases h1:j<i
    ·rw [if_pos (ur h1 ho),if_pos h1]
     obtain⟨c,g1,g2,g3⟩:=hc0 j o (by omega) ho
     exact⟨c,g1,g2,zm hx _ _ g3⟩
    ·have h2:¬ j*sz+o<i*sz:=by
      have:i*sz≤j*sz:=Nat.mul_le_mul_right _ (by omega)
      omega
     rw [if_neg h2,if_neg h1]
     have hmul:(i+m)*sz=i*sz+m*sz:=Nat.add_mul _ _ _
     by_cases h3:j<i+m
     ·have hjs:(j - i)*sz+i*sz=j*sz:=by rw [← Nat.add_mul]; congr 1; omega
      have:=ur (a:=j - i) (b:=m) (sz:=sz) (by omega) ho
      rw [if_pos (by omega),if_pos h3]
      obtain⟨c,g1,g2,g3⟩:=hc1 (j - i) o (by omega) ho
      refine⟨c,?_,g2,zm hx _ _ g3⟩
      rw [← g1]; congr 1; omega
     ·have h4:(i+m)*sz≤j*sz:=Nat.mul_le_mul_right _ (by omega)
      rw [if_neg (by omega),if_neg h3]
      obtain⟨c,g1,g2,g3⟩:=hc0 (j - m) o (by omega) ho
      refine⟨c,?_,g2,zm hx _ _ g3⟩
      rw [← g1]; congr 1
      have:(j - m)*sz+m*sz=j*sz:=by rw [← Nat.add_mul]; congr 1; omega
      omega
  | 1=>simp at hb; subst hb; trivial
  | k+2=>simp at he
 ·intro k e ad2 he had2
  match k with
  | 0=>
   simp at he; subst he; cases had2
   simp only
   rcases hb' with rfl | hb'
   ·exact hg.dis 0 e0 ad he0 had
   ·intro hO; have:=hg.old _ hO; omega
  | 1=>simp at he; subst he; cases had2
  | k+2=>simp at he
 ·rw [hmv,hpi]
  intro k e he hk
  simp only [if_true,List.drop_zero,List.mem_range] at hk
  have hlt:=(List.getElem?_eq_some_iff.1 he).1
  have hl:=hh.len
  simp at hl hk
  omega
 ·rcases hmine b hb with rfl
  rcases hb' with rfl | hb'
  ·exact .inl hmb
  ·exact .inr hb'
end Go.Sx
end
section
set_option maxRecDepth 100000
open Go Go.Sx Go.Proofs Go.Nov
namespace Go.Proofs.Tryz
attribute [local simp] eqKV eqA eqA0 eqH eqB eqL eqL0
theorem Yj:Kv Tryz.prog 59 3 40:=by
 intro b off n c i m vb voff vc cur vcur el vel w hm hi hnc hbig hne hB hV hfit hvfit h1 h2
 have hcl:((cur.toList.drop off).take (n*3)).length=n*3:=by
  have:n*3≤c*3:=Nat.mul_le_mul_right _ hnc
  simp; omega
 have hvl:((vcur.toList.drop voff).take (m*3)).length=m*3:=by simp; omega
 have hcs:∀ j v,((cur.toList.drop off).take (n*3))[j]?=some v→w.cell? ⟨b,off+j,none⟩=some v:=fun j v hj=>by
  rw [kh] at hj
  split at hj
  ·simp only [World.cell?,hB]; simpa using hj
  ·cases hj
 have hvs:∀ j v,((vcur.toList.drop voff).take (m*3))[j]?=some v→w.cell? ⟨vb,voff+j,none⟩=some v:=fun j v hj=>by
  rw [kh] at hj
  split at hj
  ·simp only [World.cell?,hV]; simpa using hj
  ·cases hj
 have h1c:∀ v∈(cur.toList.drop off).take (n*3),v.oneCell'=true:=fun v hv=>by
  obtain⟨j,hj⟩:=List.getElem?_of_mem hv
  rw [kh] at hj
  split at hj
  ·rename_i hlt; exact h1 j v hlt (by simpa using hj)
  ·cases hj
 have h1v:∀ v∈(vcur.toList.drop voff).take (m*3),v.oneCell'=true:=fun v hv=>by
  obtain⟨j,hj⟩:=List.getElem?_of_mem hv
  rw [kh] at hj
  split at hj
  ·rename_i hlt; exact h2 j v hlt (by simpa using hj)
  ·cases hj
 have hcg:∀ j,j<n*3→((cur.toList.drop off).take (n*3))[j]?=cur[off+j]?:=fun j hj=>by rw [kh,if_pos hj]; simp
 have hvg:∀ j,j<m*3→((vcur.toList.drop voff).take (m*3))[j]?=vcur[voff+j]?:=fun j hj=>by rw [kh,if_pos hj]; simp
 generalize (cur.toList.drop off).take (n*3)=cs at hcl hcs h1c hcg
 generalize (vcur.toList.drop voff).take (m*3)=vs at hvl hvs h1v hvg
 have hin3:i*3+3≤n*3:=by have:=Nat.mul_le_mul_right 3 (show i+1≤n from hi); omega
 have him:(i+m)*3=i*3+m*3:=Nat.add_mul _ _ _
 have hnm3:(n+m)*3=n*3+m*3:=Nat.add_mul _ _ _
 have hdl:(cs.drop (i*3)).length=n*3 - i*3:=by rw [List.length_drop,hcl]
 have hbw:b<w.heap.size:=(Array.getElem?_eq_some_iff.1 hB).1
 by_cases hroom:n+m≤c
 ·have hcn:(n+m)*3≤c*3:=Nat.mul_le_mul_right _ hroom
  obtain⟨X1,hX1⟩:∃ X1,X1=cur.toList.take (off+(i+m)*3)++cs.drop (i*3)++cur.toList.drop (off+(i+m)*3+(cs.drop (i*3)).length):=⟨_,rfl⟩
  obtain⟨X2,hX2⟩:∃ X2,X2=X1.take (off+i*3)++vs++X1.drop (off+i*3+vs.length):=⟨_,rfl⟩
  have hX1l:X1.length=cur.size:=by rw [hX1]; simp only [List.length_append,List.length_take,List.length_drop,Array.length_toList,hdl,hcl]; omega
  have hX2l:X2.length=cur.size:=by rw [hX2]; simp only [List.length_append,List.length_take,List.length_drop,hX1l,hvl]; omega
  have g1:∀ k:Nat,X1[k]?=(if k<off+(i+m)*3 then cur.toList[k]? else if k<off+(i+m)*3+(cs.drop (i*3)).length then(cs.drop (i*3))[k - (off+(i+m)*3)]? else cur.toList[k]?):=fun k=>by rw [hX1]; exact k9 (by simp only [Array.length_toList,hdl]; omega) k
  have g2:∀ k:Nat,X2[k]?=(if k<off+i*3 then X1[k]? else if k<off+i*3+(vs).length then(vs)[k - (off+i*3)]? else X1[k]?):=fun k=>by rw [hX2]; exact k9 (by rw [hX1l,hvl]; omega) k
  refine(VE b off n c i m vb voff vc cur vcur el vel cs vs w hm hi hroom (by omega) hne hB hV hfit hcl hvl hcs hvs h1c h1v X1 X2 hX1 hX2).mono ?_
  rintro e w' ⟨he,hh,hos,htape,hout⟩
  refine⟨b,off,c,X2.toArray,el,he,hroom,?_,by simp only [List.size_toArray,hX2l]; omega,?_,.inl rfl,?_,?_,hos,htape,hout⟩
  ·rw [hh]; exact setRow_heap _ b _ _ el _ (setRow_heap w b cur _ el _ hB)
  ·intro j hj
   simp only [List.getElem?_toArray,g2,g1,hvl,hdl]
   by_cases k1:j<i*3
   ·rw [if_pos (by omega),if_pos (by omega),if_pos k1]; simp
   ·rw [if_neg (by omega),if_neg k1]
    by_cases k2:j<i*3+m*3
    ·rw [if_pos (by omega),if_pos k2,show off+j - (off+i*3)=j - i*3 by omega,hvg _ (by omega)]
    ·rw [if_neg (by omega),if_neg k2,if_neg (by omega),if_pos (by omega),List.getElem?_drop,hcg _ (by omega)]; congr 1; omega
  ·rw [hh]; simp
  ·intro k hk hkb
   rw [hh,setRow_other _ b k _ hkb,setRow_other _ b k _ hkb]
 ·have hc1:c<n+m:=by omega
  obtain⟨G,hG⟩:∃ G,G=grownCap w (n+m) c 66:=⟨_,rfl⟩
  have hGn:n+m≤G:=by rw [hG]; exact grownCap_ge w _ _ _
  obtain⟨zs,hz⟩:∃ zs:List Value,Builtin.zeroCells (Value.agg #[.string ⟨#[]⟩,.int .i64 0,.string ⟨#[]⟩]).cells (n+m - i)=zs.toArray:=⟨_,(Array.toArray_toList).symm⟩
  obtain⟨rest,hrest⟩:∃ zs:List Value,Builtin.zeroCells (Value.agg #[.string ⟨#[]⟩,.int .i64 0,.string ⟨#[]⟩]).cells (G - (n+m))=zs.toArray:=⟨_,(Array.toArray_toList).symm⟩
  have hzl:zs.length=(n+m - i)*3:=by
   have:=congrArg Array.size hz
   simpa [Builtin.zeroCells,Value.cells] using this.symm
  have hrl:rest.length=(G - (n+m))*3:=by
   have:=congrArg Array.size hrest
   simpa [Builtin.zeroCells,Value.cells] using this.symm
  obtain⟨ROW,hROW⟩:∃ ROW,ROW=cs.take (i*3)++zs++rest:=⟨_,rfl⟩
  obtain⟨X1,hX1⟩:∃ X1,X1=ROW.take (i*3)++vs++ROW.drop (i*3+vs.length):=⟨_,rfl⟩
  obtain⟨X2,hX2⟩:∃ X2,X2=X1.take ((i+m)*3)++cs.drop (i*3)++X1.drop ((i+m)*3+(cs.drop (i*3)).length):=⟨_,rfl⟩
  have hsum:(n+m)*3+(G - (n+m))*3=G*3:=by rw [← Nat.add_mul]; congr 1; omega
  have hsum2:i*3+(n+m - i)*3=(n+m)*3:=by rw [← Nat.add_mul]; congr 1; omega
  have hROWl:ROW.length=G*3:=by
   rw [hROW]; simp only [List.length_append,List.length_take,hcl,hzl,hrl]; omega
  have hX1l:X1.length=G*3:=by rw [hX1]; simp only [List.length_append,List.length_take,List.length_drop,hROWl,hvl]; omega
  have hX2l:X2.length=G*3:=by rw [hX2]; simp only [List.length_append,List.length_take,List.length_drop,hX1l,hdl,hcl]; omega
  have g1:∀ k:Nat,X1[k]?=(if k<i*3 then ROW[k]? else if k<i*3+(vs).length then(vs)[k - (i*3)]? else ROW[k]?):=fun k=>by rw [hX1]; exact k9 (by rw [hROWl,hvl]; omega) k
  have g2:∀ k:Nat,X2[k]?=(if k<(i+m)*3 then X1[k]? else if k<(i+m)*3+(cs.drop (i*3)).length then(cs.drop (i*3))[k - ((i+m)*3)]? else X1[k]?):=fun k=>by rw [hX2]; exact k9 (by rw [hX1l,hdl]; omega) k
  have g0:∀ k,k<i*3→ROW[k]?=cs[k]?:=fun k hk=>by
   rw [hROW,List.append_assoc,List.getElem?_append_left (by rw [List.length_take]; omega),List.getElem?_take,if_pos hk]
  refine(Ya b off n c i m vb voff vc cur vcur el vel cs vs w hm hi hnc hc1 hbig hB hV hcl hvl hcs hvs h1c h1v zs hz G hG rest hrest ROW X1 X2 hROW hX1 hX2).mono ?_
  rintro e w' ⟨he,hh,hos,htape,hout⟩
  refine⟨w.heap.size,0,G,X2.toArray,66,he,hGn,?_,by simp only [List.size_toArray,hX2l]; omega,?_,.inr (Nat.le_refl _),?_,?_,hos,htape,hout⟩
  ·rw [hh]
   exact setRow_heap _ w.heap.size _ _ _ _ (setRow_heap _ w.heap.size _ _ _ _ (show((w.heap.push _))[w.heap.size]?=some (.cells ROW.toArray 66 (0,0)) from Array.getElem?_push_size))
  ·intro j hj
   simp only [List.getElem?_toArray,Nat.zero_add,g2,g1,hvl,hdl]
   by_cases k1:j<i*3
   ·rw [if_pos (by omega),if_pos k1,if_pos k1,g0 j k1,hcg j (by omega)]
   ·simp only [if_neg k1]
    by_cases k2:j<i*3+m*3
    ·rw [if_pos (by omega)]
     simp only [if_pos k2]
     exact hvg _ (by omega)
    ·simp only [if_neg k2]
     rw [if_neg (by omega),if_pos (by omega),List.getElem?_drop,hcg _ (by omega)]; congr 1; omega
  ·rw [hh,setRow_size,setRow_size]
   show _≤(w.heap.push _).size
   rw [Array.size_push]; omega
  ·intro k hk hkb
   rw [hh,setRow_other _ _ k _ (by omega),setRow_other _ _ k _ (by omega)]
   show(w.heap.push _)[k]?=_
   rw [Array.getElem?_push,if_neg (by omega)]
theorem VN{l x:List Fx}{i:Nat}(hi:i≤l.length):eqG (l.length+x.length) 3 (Kr i x.length (fxG l) (fxG x)) (fxG (l.take i++x++l.drop i)):=by
 intro j o hj ho
 have hlt:(l.take i).length=i:=by rw [List.length_take]; omega
 have e:fxG (l.take i++x++l.drop i) j o=((l.take i++x++l.drop i).getD j Fx.nil).cell o:=rfl
 simp only [Kr]
 rw [e]
 simp only [List.getD,List.getElem?_append,List.length_append,hlt]
 by_cases h1:j<i
 ·rw [if_pos h1,if_pos (by omega),if_pos h1,List.getElem?_take,if_pos h1]; rfl
 ·rw [if_neg h1]
  by_cases h2:j<i+x.length
  ·rw [if_pos h2,if_pos h2,if_neg h1]; rfl
  ·rw [if_neg h2,if_neg h2,List.getElem?_drop,show i+(j - (i+x.length))=j - x.length by omega]; rfl
def zia:Ctr:=ctrT false true (fun p:List Fx×List Fx×Nat=>[.osl 0 3 0 p.1.length,.int .i64 (p.2.2:Int),.osl 1 3 0 p.2.1.length]) (fun p=>[.arr p.1.length 3 (fxG p.1),.arr p.2.1.length 3 (fxG p.2.1)]) (fun p=>p.2.2≤p.1.length∧p.1.length<2^40∧p.2.1.length<2^40) (fun _ (_:Unit)=>True) (fun p (_:Unit)=>(.osl 0 3 0 (p.1.length+p.2.1.length),[.arr (p.1.length+p.2.1.length) 3 (fxG (p.1.take p.2.2++p.2.1++p.1.drop p.2.2)),.dead]))
def zcy:Ctr:=ctrT false true (fun p:List Fx×List Fx×Nat=>[.osl 0 3 0 p.1.length,.int .i64 (p.2.2:Int),.osl 1 3 0 p.2.1.length]) (fun p=>[.arr p.1.length 3 (fxG p.1),.arr p.2.1.length 3 (fxG p.2.1)]) (fun p=>(p.2.2=p.1.length∨p.2.1=[])∧p.2.2≤p.1.length∧p.1.length<2^40∧p.2.1.length<2^40) (fun _ (_:Unit)=>True) (fun p (_:Unit)=>(.osl 0 3 0 (p.1.length+p.2.1.length),[.arr (p.1.length+p.2.1.length) 3 (fxG (p.1.take p.2.2++p.2.1++p.1.drop p.2.2)),.dead]))
theorem VS:zf Tryz.prog 59 zcy:=by
 refine qI (fn:=Tryz.f59) (c:=Tryz.f59.body.getD .skip) rfl rfl rfl (fun h=>by cases h) fun p hp O w0 σ0 Q hl0 hq=> ?_
 obtain⟨l,x,i⟩:=p
 obtain⟨h0,h1,h2,h3⟩:=hp
 replace hq:=hq () trivial
 simp only at hq h0 h1 h2 h3
 refine zc.run hmix zD [] 400 (T:=.side ((0:Int)≤i∧(↑i:Int)≤l.length) (.ite (decide ((↑x.length:Int)=0)) (.leaf (.ret [.osl 0 3 0 l.length] [.arr l.length 3 (fxG l),.arr x.length 3 (fxG x)])) (.ite (decide ((↑i:Int)=l.length)) (.side (0=0∧l.length≤l.length∧(l.length+x.length)*40≤140737488355328) (.leaf (.ret [.osl 0 3 0 (l.length+x.length)] [.arr (l.length+x.length) 3 (appG l.length (fxG l) (zg (fxG x) 0)),.arr x.length 3 (fxG x)]))) (.side (inR .i64 ((↑l.length:Int)+x.length)) .fail)))) (by kernel_rfl) ?_
 simp only [Tree.holds,zd]
 have fin:∀ (h:Heap) (g:Nat→Nat→AV) (m:Nat),h=[.arr (l.length+x.length) 3 g,.arr m 3 (fxG x)]→eqG (l.length+x.length) 3 g (fxG (l.take i++x++l.drop i))→RetR zcy 2 Q [.osl 0 3 0 (l.length+x.length)] h:=by
  rintro h g m rfl hg
  refine RetR.keep [0,1] rfl rfl (by show ∀ j,j<2→_; decide) rfl hq (by simp [resV,exp2,exp1,exp0,z5,eqA2]) ?_ rfl
  exact⟨⟨rfl,rfl,hg⟩,trivial,trivial⟩
 refine⟨by omega,fun _=>⟨fun h=> ?_,fun h=>⟨fun h'=>⟨⟨trivial,Nat.le_refl _,by omega⟩,fun _=> ?_⟩,fun h'=> ?_⟩⟩⟩
 ·have hx:x=[]:=by have:=of_decide_eq_true h; exact List.length_eq_zero_iff.1 (by omega)
  subst hx
  exact fin _ (fxG l) 0 rfl (by simp [zb])
 ·have e:i=l.length:=by have:=of_decide_eq_true h'; omega
  refine fin _ _ _ rfl ?_
  have:=VN (x:=x) h1
  refine xC ?_ this
  intro j o hj ho
  simp only [appG,Kr,zg,Nat.zero_add,e]
  split
  ·rfl
  ·rfl
 ·rcases h0 with h0 | h0
  ·exact absurd h0 (by have:=of_decide_eq_false h'; omega)
  ·subst h0; simp at h
theorem zi2:zf Tryz.prog 59 zia:=by
 intro args hc Q hq hfr
 obtain⟨⟨l,x,i⟩,⟨h1,h2,h3,h4,h5,h8⟩,h6,h7⟩:=hq
 simp only at h1 h2 h3 h4 h5 h7 h8
 rcases Nat.lt_or_ge i l.length with hlt | hge
 ·rcases Nat.eq_zero_or_pos x.length with hx | hx
  ·exact VS args hc Q ⟨(l,x,i),⟨h1,h2,h3,.inr (List.length_eq_zero_iff.1 hx),h4,h5,h8⟩,h6,h7⟩ hfr
  ·exact jg.le h1 (jg.leH h2 h3 (zen (fn:=Tryz.f59) (c:=Tryz.f59.body.getD .skip) rfl rfl rfl (by decide) Yj hx hlt (by omega) (VN h4) rfl rfl rfl (h7 () trivial)))
 ·exact VS args hc Q ⟨(l,x,i),⟨h1,h2,h3,.inl (by show i=l.length; omega),h4,h5,h8⟩,h6,h7⟩ hfr
end Go.Proofs.Tryz
end
section
namespace Go.Nov
open Go.Sx
structure Ev where
 v:List UInt8
 e:Int
 b:Bool
 g:Int
abbrev Ev.nil:Ev:=⟨[],0,false,0⟩
def zl2(k:Int)(a b:List UInt8):List UInt8×Int:=
 if k=7 then(if(cmpR a b).2≠0 then([],(cmpR a b).2) else(if(cmpR a b).1<0 then b else a,0))
 else(if(cmpR b a).2≠0 then([],(cmpR b a).2) else(if(cmpR b a).1<0 then b else a,0))
def opR(k:Int)(a b:List UInt8):List UInt8×Int:=if k=4 then addR a b else if k=5 then subR a b else if k=6 then mulR a b else zl2 k a b
def fixR(f:List Fx)(a:List UInt8)(d:Int):List UInt8×Int:=if(zib f a d).2=true then((zib f a d).1,0) else([],30)
def zic{α:Type}(z:α)(l0 l1:Ev)(f:List UInt8→List UInt8→α×Int):α×Int:=if l0.e≠0 then(z,l0.e) else if l1.e≠0 then(z,l1.e) else f l0.v l1.v
def valN(f:List Fx)(day k:Int)(r n:List UInt8)(d:Int)(l:List Ev):List UInt8×Int:=
 if k=1 then(r,0) else if k=2 then fixR f n d else if k=3 then fixR f n day
 else if k=9 then(if(l.getD 0 Ev.nil).g≠0 then([],(l.getD 0 Ev.nil).g) else if(l.getD 0 Ev.nil).b then((l.getD 1 Ev.nil).v,(l.getD 1 Ev.nil).e) else((l.getD 2 Ev.nil).v,(l.getD 2 Ev.nil).e))
 else zic [] (l.getD 0 Ev.nil) (l.getD 1 Ev.nil) (opR k)
def zl3(k:Int)(a b:List UInt8):Bool×Int:=if(cmpR a b).2≠0 then(false,(cmpR a b).2) else(if k=11 then decide ((cmpR a b).1<0) else decide ((cmpR a b).1=0),0)
def hldN(k:Int)(l:List Ev):Bool×Int:=
 if 13≤k then(if(l.getD 0 Ev.nil).g≠0 then(false,(l.getD 0 Ev.nil).g) else if k=15 then(!(l.getD 0 Ev.nil).b,0)
  else if(l.getD 0 Ev.nil).b=decide (k=14) then((l.getD 0 Ev.nil).b,0) else((l.getD 1 Ev.nil).b,(l.getD 1 Ev.nil).g))
 else zic false (l.getD 0 Ev.nil) (l.getD 1 Ev.nil) (zl3 k)
def evN(f:List Fx)(day k:Int)(r n:List UInt8)(d:Int)(l:List Ev):Ev:=⟨(valN f day k r n d l).1,(valN f day k r n d l).2,(hldN k l).1,(hldN k l).2⟩
namespace Ex
mutual
def ev(f:List Fx)(day:Int):Ex→Ev
 | mk k r n d s=>evN f day k r n d (evs f day s)
def evs(f:List Fx)(day:Int):List Ex→List Ev
 | []=>[]
 | x::l=>ev f day x::evs f day l
end
end Ex
theorem VL{a:List UInt8}(h:errR a=0):a.length≤2003:=by
 have h1:=(QZ h).2.2.1
 rw [← h1]
 unfold qstr wz
 have g1:=vB (decide ((qv a).num<0)) (qv a).num.natAbs
 have g2:=vB (decide (((qv a).den:Int)<0)) ((qv a).den:Int).natAbs
 split
 ·omega
 ·simp only [List.length_append,List.length_cons,List.length_nil]
  omega
end Go.Nov
end
