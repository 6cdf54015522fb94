/- Part 6 of the proof. -/
import Derived.Test.YtfiocgnojggdjaaGreatDoorSxe
set_option linter.unusedVariables false
set_option linter.unusedSimpArgs false
set_option linter.unusedSectionVars false
section
namespace Go.Nov
theorem zmg(a b:Int)(hb:b≠0):b.sign*a=if(decide (a<0) != decide (b<0))=true then -(a.natAbs:Int) else a.natAbs:=by
 by_cases h1:a<0
 ·rw [aX h1];by_cases h2:b<0
  ·rw [aX h2,Int.sign_eq_neg_one_of_neg h2]; simp; omega
  ·rw [aW h2,Int.sign_eq_one_of_pos (by omega)]; simp; omega
 ·rw [aW h1];by_cases h2:b<0
  ·rw [aX h2,Int.sign_eq_neg_one_of_neg h2]; simp; omega
  ·rw [aW h2,Int.sign_eq_one_of_pos (by omega)]; simp; omega
theorem zpd{n d:L8}(hn:errI n=0)(hd:errI d=0)(h0:numI d≠0):qX n d=(qstr (Rat.divInt (zI n) (zI d)),0)/\vO (Rat.divInt (zI n) (zI d)):=by
 have hz0:zI d≠0:=λh=>h0 (by rw [<- qT,h]; rfl)
 have hg:(zI d).gcd (zI n)=Nat.gcd (numI n) (numI d):=by
  show Nat.gcd _ _=_;rw [qT,qT,Nat.gcd_comm]
 have hden:(Rat.divInt (zI n) (zI d)).den=numI d/Nat.gcd (numI n) (numI d):=by
  rw [Rat.den_divInt,aO hz0,hg,qT]
 have hdv:Nat.gcd (numI n) (numI d) ∣ numI n:=Nat.gcd_dvd_left _ _
 have hnum:(Rat.divInt (zI n) (zI d)).num=if(negI n != negI d)=true then -((numI n/Nat.gcd (numI n) (numI d):Nat):Int) else((numI n/Nat.gcd (numI n) (numI d):Nat):Int):=by
  rw [Rat.num_divInt,hg,zmg _ _ hz0,qT,<- yg hn,<- yg hd];split
  ·rw [Int.neg_ediv_of_dvd (Int.natCast_dvd_natCast.2 hdv),Int.natCast_ediv]
  ·rw [Int.natCast_ediv]
 have hroom:vO (Rat.divInt (zI n) (zI d)):=by
  refine⟨?_,by rw [hden]; exact room_le (Nat.div_le_self _ _) (qZ hd)⟩;rw [hnum];have:room (numI n/Nat.gcd (numI n) (numI d)):=room_le (Nat.div_le_self _ _) (qZ hn);split
  ·rw [Int.natAbs_neg,Int.natAbs_natCast]; exact this
  ·rw [Int.natAbs_natCast]; exact this
 refine⟨?_,hroom⟩;unfold qX;rw [aO (by rw [zh.2 ⟨hn,hd⟩]; simp),aO h0];congr 1;unfold WV qstr;rw [hden,hnum];have e2:(wr false (numI d/Nat.gcd (numI n) (numI d))).1=(wz ((numI d/Nat.gcd (numI n) (numI d):Nat):Int)).1:=by rw [WU]; rfl
 rw [WU,e2]
theorem KE{n d:L8}{e f:Int}{z w:Int}(hw:w≠0)(hz:(n,e)=wz z)(hd:(d,f)=wz w):frac (n,e) (d,f)=([],14)\/(frac (n,e) (d,f)=(qstr (Rat.divInt z w),0)/\vO (Rat.divInt z w)):=by
 unfold frac;by_cases he:e=0
 ·by_cases hf:f=0
  ·subst he; subst hf;have h1:(wz z).2=0:=by rw [<- hz]
   have h2:(wz w).2=0:=by rw [<- hd]
   have n1:n=(wz z).1:=by rw [<- hz]
   have n2:d=(wz w).1:=by rw [<- hd]
   have z1:=jK h1;have z2:=jK h2;have e1:=jS h1;have e2:=jS h2;rw [<- n1] at z1 e1;rw [<- n2] at z2 e2;right;rw [aO (by simp)];have:=zpd e1 e2 (λh=>hw (by rw [<- z2]; have:=qT d; omega));rw [z1,z2] at this;exact this
  ·left; rw [aP (.inr hf)]
 ·left; rw [aP (.inl he)]
section
variable {a b:L8} (ha:errR a=0) (hb:errR b=0)
include ha hb
theorem Qa:errI (numR a)=0/\errI (denR a)=0/\errI (numR b)=0/\errI (denR b)=0/\zI (denR a)≠0/\zI (denR b)≠0/\zZ a b=0:=by
 obtain⟨a1,a2,_,a4⟩:=qH ha;obtain⟨b1,b2,_,b4⟩:=qH hb;exact⟨a1,a2,b1,b2,λh=>a4 (by rw [<- qT,h]; rfl),λh=>b4 (by rw [<- qT,h]; rfl),by unfold zZ; rw [aP ha]; exact hb⟩
theorem yr:z5 a b=14\/(z5 a b=0/\mulI (numR a) (denR b)=wz (zI (numR a)*zI (denR b))/\mulI (numR b) (denR a)=wz (zI (numR b)*zI (denR a))/\(mulI (numR a) (denR b)).2=0/\(mulI (numR b) (denR a)).2=0):=by
 obtain⟨a1,a2,b1,b2,a4,b4,h2⟩:=Qa ha hb;have m1:=kG (zh.2 ⟨a1,b2⟩);have m2:=kG (zh.2 ⟨b1,a2⟩);unfold z5;rw [aO (by rw [h2]; simp)];by_cases h:(mulI (numR a) (denR b)).2≠0\/(mulI (numR b) (denR a)).2≠0
 ·left; rw [aP h]
 ·right;rw [aO h];simp only [not_or,Classical.not_not] at h;exact⟨rfl,m1,m2,h.1,h.2⟩
theorem KC:addR a b=([],14)\/(addR a b=(qstr (qv a+qv b),0)/\vO (qv a+qv b)):=by
 obtain⟨a1,a2,b1,b2,a4,b4,h2⟩:=Qa ha hb;unfold addR;rcases yr ha hb with h | ⟨h,m1,m2,k1,k2⟩
 ·left; rw [h]; rfl
 ·rw [h,aO (by simp)];rw [m1] at k1;rw [m2] at k2;have e1:=jS k1;have e2:=jS k2
  have:=KE (n:=(addI (mulI (numR a) (denR b)).1 (mulI (numR b) (denR a)).1).1) (e:=(addI (mulI (numR a) (denR b)).1 (mulI (numR b) (denR a)).1).2) (d:=(mulI (denR a) (denR b)).1) (f:=(mulI (denR a) (denR b)).2)
   (z:=zI (numR a)*zI (denR b)+zI (numR b)*zI (denR a)) (w:=zI (denR a)*zI (denR b)) (Int.mul_ne_zero a4 b4) (by rw [m1,m2,zk0 (zh.2 ⟨e1,e2⟩),jK k1,jK k2]) (by rw [kG (zh.2 ⟨a2,b2⟩)])
  unfold qv;rw [Rat.divInt_add_divInt _ _ a4 b4];exact this
theorem VB:subR a b=([],14)\/(subR a b=(qstr (qv a - qv b),0)/\vO (qv a - qv b)):=by
 obtain⟨a1,a2,b1,b2,a4,b4,h2⟩:=Qa ha hb;unfold subR;rcases yr ha hb with h | ⟨h,m1,m2,k1,k2⟩
 ·left; rw [h]; rfl
 ·rw [h,aO (by simp)];rw [m1] at k1;rw [m2] at k2;have e1:=jS k1;have e2:=jS k2
  have:=KE (n:=(subI (mulI (numR a) (denR b)).1 (mulI (numR b) (denR a)).1).1) (e:=(subI (mulI (numR a) (denR b)).1 (mulI (numR b) (denR a)).1).2) (d:=(mulI (denR a) (denR b)).1) (f:=(mulI (denR a) (denR b)).2)
   (z:=zI (numR a)*zI (denR b) - zI (numR b)*zI (denR a)) (w:=zI (denR a)*zI (denR b)) (Int.mul_ne_zero a4 b4) (by rw [m1,m2,zjo (zh.2 ⟨e1,e2⟩),jK k1,jK k2]) (by rw [kG (zh.2 ⟨a2,b2⟩)])
  unfold qv;rw [Rat.divInt_sub_divInt _ _ a4 b4];exact this
theorem zi2:mulR a b=([],14)\/(mulR a b=(qstr (qv a*qv b),0)/\vO (qv a*qv b)):=by
 obtain⟨a1,a2,b1,b2,a4,b4,h2⟩:=Qa ha hb;unfold mulR;rw [h2,aO (by simp)]
 have:=KE (n:=(mulI (numR a) (numR b)).1) (e:=(mulI (numR a) (numR b)).2) (d:=(mulI (denR a) (denR b)).1) (f:=(mulI (denR a) (denR b)).2)
  (z:=zI (numR a)*zI (numR b)) (w:=zI (denR a)*zI (denR b)) (Int.mul_ne_zero a4 b4) (by rw [kG (zh.2 ⟨a1,b1⟩)]) (by rw [kG (zh.2 ⟨a2,b2⟩)])
 unfold qv;rw [Rat.divInt_mul_divInt];exact this
theorem za1:(qv b=0/\divR a b=([],16))\/(qv b≠0/\(divR a b=([],14)\/(divR a b=(qstr (qv a/qv b),0)/\vO (qv a/qv b)))):=by
 obtain⟨a1,a2,b1,b2,a4,b4,h2⟩:=Qa ha hb
 have hq:qv b=0↔zI (numR b)=0:=by
  rw [<- Rat.num_eq_zero,(kg hb).1]
 have hz:numR b=[48]↔zI (numR b)=0:=by
  rw [wS b1];have:=qT (numR b);omega
 unfold divR;rw [h2,aO (by simp)];by_cases h0:zI (numR b)=0
 ·left;exact⟨hq.2 h0,by rw [aP (hz.2 h0)]⟩
 ·right;refine⟨λh=>h0 (hq.1 h),?_⟩;rw [aO (λh=>h0 (hz.1 h))]
  have:=KE (n:=(mulI (numR a) (denR b)).1) (e:=(mulI (numR a) (denR b)).2) (d:=(mulI (denR a) (numR b)).1) (f:=(mulI (denR a) (numR b)).2)
   (z:=zI (numR a)*zI (denR b)) (w:=zI (denR a)*zI (numR b)) (Int.mul_ne_zero a4 h0) (by rw [kG (zh.2 ⟨a1,b2⟩)]) (by rw [kG (zh.2 ⟨a2,b1⟩)])
  unfold qv;rw [Rat.div_def,Rat.inv_divInt,Rat.divInt_mul_divInt];exact this
theorem VO:cmpR a b=(0,14)\/cmpR a b=(if qv a<qv b then -1 else if qv b<qv a then 1 else 0,0):=by
 obtain⟨a1,a2,b1,b2,a4,b4,h2⟩:=Qa ha hb;obtain⟨p1,p2,_,_⟩:=kg ha;obtain⟨r1,r2,_,_⟩:=kg hb;unfold cmpR;rcases yr ha hb with h | ⟨h,m1,m2,k1,k2⟩
 ·left; rw [h]; rfl
 ·right;rw [h,aO (by simp)];rw [m1] at k1;rw [m2] at k2;have e1:=jS k1;have e2:=jS k2;rw [m1,m2];unfold kx;rw [aP (zh.2 ⟨e1,e2⟩)];congr 1
  have hx:∀ s:L8,errI s=0->negI s=true->numI s≠0:=λs he hn h0=>by
   rw [(wS he).2 h0] at hn; cases hn
  rw [zoa _ _ _ _ (hx _ e1) (hx _ e2)];show cmpI (zI (wz (zI (numR a)*zI (denR b))).1) (zI (wz (zI (numR b)*zI (denR a))).1)=_;rw [jK k1,jK k2,<- p1,<- p2,<- r1,<- r2];unfold cmpI;simp only [Rat.lt_iff]
end
theorem uz{a b:L8}(ha:errR a=0)(hb:errR b=0)(h:(addR a b).2=0):errR (addR a b).1=0/\qv (addR a b).1=qv a+qv b:=by
 rcases KC ha hb with h1 | ⟨h1,h2⟩
 ·rw [h1] at h; cases h
 ·rw [h1]; exact⟨kN h2,uE h2⟩
theorem uV{a b:L8}(ha:errR a=0)(hb:errR b=0)(h:(subR a b).2=0):errR (subR a b).1=0/\qv (subR a b).1=qv a - qv b:=by
 rcases VB ha hb with h1 | ⟨h1,h2⟩
 ·rw [h1] at h; cases h
 ·rw [h1]; exact⟨kN h2,uE h2⟩
theorem Km{a b:L8}(ha:errR a=0)(hb:errR b=0)(h:(mulR a b).2=0):errR (mulR a b).1=0/\qv (mulR a b).1=qv a*qv b:=by
 rcases zi2 ha hb with h1 | ⟨h1,h2⟩
 ·rw [h1] at h; cases h
 ·rw [h1]; exact⟨kN h2,uE h2⟩
theorem K4{a b:L8}(ha:errR a=0)(hb:errR b=0)(h:(divR a b).2=0):qv b≠0/\errR (divR a b).1=0/\qv (divR a b).1=qv a/qv b:=by
 rcases za1 ha hb with ⟨h0,h1⟩ | ⟨h0,h1 | ⟨h1,h2⟩⟩
 ·rw [h1] at h; cases h
 ·rw [h1] at h; cases h
 ·rw [h1]; exact⟨h0,kN h2,uE h2⟩
end Go.Nov
end
section
namespace Go.Nov
open Go.Sx
def qy(k:Int)(r n:L8)(d:Int)(l:Nat):Bool:=
 decide (l=0)&&(if k=1 then decide (errR r=0)&&decide (n=[])&&decide (d=0) else if k=2 then decide (r=[])&&zY n&&dayB d else if k=3 then decide (r=[])&&zY n&&decide (d=0) else false)
def jP(k:Int)(r n:L8)(d:Int)(ss:List Int):Int:=
 if js k=true then(if r=[]/\n=[]/\d=0/\ss=jn k then jk k else 0) else if qy k r n d ss.length=true then 1 else 0
def intG(l:List Int):Nat->Nat->AV:=λj _=>.i (l.getD j 0)
def yA(r m:L8)(d:Int):Bool:=bif (bif decide (r=[]) then decide (m=[]) else false) then decide (d=0) else false
theorem w6{k:Int}{r m:L8}{d:Int}{l ps:List Int}{w:Int}(h:uo k=some (ps,w)):jP k r m d l=if yA r m d=true/\l=ps then w else 0:=by
 have h1:js k=true:=by simp [js,h]
 have h2:jn k=ps:=by simp [jn,h]
 have h3:jk k=w:=by simp [jk,h]
 unfold jP;rw [aP h1,h2,h3];simp [yA,and_assoc]
theorem wq{k:Int}{r m:L8}{d:Int}{l:List Int}(h:js k=false):jP k r m d l=if qy k r m d l.length=true then 1 else 0:=by
 unfold jP;rw [aO (by rw [h]; decide)]
theorem za9{k:Int}(h:¬ (4<=k/\k<=9))(h2:¬ (11<=k/\k<=15)):js k=false:=by
 have e:∀ c:Int,(4<=c/\c<=9)\/(11<=c/\c<=15)->(c == k)=false:=λc hc=>by
  rw [beq_eq_false_iff_ne]; omega
 simp only [js,uo,shpL,List.find?_cons,e 4 (by omega),e 5 (by omega),e 6 (by omega),e 7 (by omega),e 8 (by omega),e 9 (by omega),e 11 (by omega),e 12 (by omega),e 13 (by omega),e 14 (by omega),e 15 (by omega),List.find?_nil];rfl
theorem zpx{l:List Int}{a:Int} : l=[a]↔(l.length:Int)=1/\l[0]?.getD 0=a:=by
 match l with
 | []=>simp
 | [x]=>simp
 | _::_::l=>simp; omega
theorem zpt{l:List Int}{a b:Int} : l=[a,b]↔(l.length:Int)=2/\l[0]?.getD 0=a/\l[1]?.getD 0=b:=by
 match l with
 | []=>simp
 | [x]=>simp
 | [x,y]=>simp
 | _::_::_::l=>simp; omega
theorem zps{l:List Int}{a b c:Int} : l=[a,b,c]↔(l.length:Int)=3/\l[0]?.getD 0=a/\l[1]?.getD 0=b/\l[2]?.getD 0=c:=by
 match l with
 | []=>simp
 | [x]=>simp
 | [x,y]=>simp
 | [x,y,z]=>simp
 | _::_::_::_::l=>simp; omega
namespace Ex
mutual
def depth:Ex->Nat
 | mk _ _ _ _ s=>1+zS s
def zS:List Ex->Nat
 | []=>0
 | x::l=>max (depth x) (zS l)
end
mutual
def z3:Ex->Nat
 | mk _ r n _ s=>r.length+n.length+q6 s
def q6:List Ex->Nat
 | []=>0
 | x::l=>z3 x+q6 l
end
mutual
def zu:Ex->Int
 | mk k r n d s=>jP k r n d (qS s)
def qS:List Ex->List Int
 | []=>[]
 | x::l=>zu x::qS l
end
mutual
def thin:Ex->Prop
 | mk _ r n _ s=>r.length<=2^48/\n.length<=2^48/\yF s
def yF:List Ex->Prop
 | []=>True
 | x::l=>thin x/\yF l
end
theorem vZ(x:Ex):x.depth=1+zS x.sub:=by cases x; rw [depth]; rfl
theorem w8(x:Ex):x.z3=x.rat.length+x.name.length+q6 x.sub:=by cases x; rw [z3]; rfl
theorem uO(x:Ex):x.zu=jP x.kind x.rat x.name x.date (qS x.sub):=by cases x; rw [zu]; rfl
theorem kj(s:List Ex)(i:Nat)(h:i<s.length):zS (s.take (i+1))=max (zS (s.take i)) (s.getD i nil).depth:=by
 induction s generalizing i with
 | nil=>simp at h
 | cons x s ih=>
  cases i with
  | zero=>simp [zS]
  | succ i=>
   simp only [List.take_succ_cons,zS,List.getD_cons_succ];rw [ih i (by simpa using h)];omega
theorem QH{s:List Ex}{i:Nat}(h:i<s.length):(s.getD i nil).depth<=zS s:=by
 induction s generalizing i with
 | nil=>simp at h
 | cons x s ih=>
  cases i with
  | zero=>simp [zS]; omega
  | succ i=>
   simp only [List.getD_cons_succ,zS];have:=ih (i:=i) (by simpa using h);omega
theorem KT(s:List Ex)(i:Nat)(h:i<s.length):q6 (s.take (i+1))=q6 (s.take i)+(s.getD i nil).z3:=by
 induction s generalizing i with
 | nil=>simp at h
 | cons x s ih=>
  cases i with
  | zero=>simp [q6]
  | succ i=>
   simp only [List.take_succ_cons,q6,List.getD_cons_succ];rw [ih i (by simpa using h)];omega
theorem vP{s:List Ex}{i:Nat}(h:i<s.length):(s.getD i nil).z3<=q6 s:=by
 induction s generalizing i with
 | nil=>simp at h
 | cons x s ih=>
  cases i with
  | zero=>simp [q6]
  | succ i=>
   simp only [List.getD_cons_succ,q6];have:=ih (i:=i) (by simpa using h);omega
theorem xF(s:List Ex)(i:Nat):q6 (s.take i)<=q6 s:=by
 induction s generalizing i with
 | nil=>simp [q6]
 | cons x s ih=>
  cases i with
  | zero=>simp [q6]
  | succ i=>simp only [List.take_succ_cons,q6]; have:=ih i; omega
theorem jz(s:List Ex):(qS s).length=s.length:=by
 induction s with
 | nil=>simp [qS]
 | cons x s ih=>simp [qS,ih]
theorem WS{s:List Ex}{i:Nat}(h:i<s.length):(qS s).getD i 0=(s.getD i nil).zu:=by
 induction s generalizing i with
 | nil=>simp at h
 | cons x s ih=>
  cases i with
  | zero=>simp [qS]
  | succ i=>simpa [qS] using ih (i:=i) (by simpa using h)
theorem uk{s:List Ex}{ps:List Int} : qS s=ps↔s.length=ps.length/\∀ i,i<s.length->(s.getD i nil).zu=ps.getD i 0:=by
 constructor
 ·rintro rfl;exact⟨(jz s).symm,λi hi=>(WS hi).symm⟩
 ·rintro⟨h1,h2⟩;apply List.ext_getElem
  ·rw [jz,h1]
  ·intro i g1 g2;have g3:i<s.length:=by rwa [jz] at g1
   have:=h2 i g3;rw [<- WS g3] at this;simpa [List.getD,g1,g2] using this
mutual
theorem Ww:∀ x:Ex,thin x->z3 x<=size x*2^49
 | mk k r n d s,h=>by
  rw [thin] at h;have:=WJ s h.2.2;rw [z3,size,bH];omega
theorem WJ:∀ l:List Ex,yF l->q6 l<=z6 l*2^49
 | [],_=>by simp [q6]
 | x::l,h=>by
  rw [yF] at h;have h1:=Ww x h.1;have h2:=WJ l h.2;rw [q6,z6,bH];omega
end
def errX(x:Ex):Int:=if 500<x.size\/60<x.depth then 4 else if x.zu=0 then 8 else 0
theorem zem(x:Ex):0<x.depth:=by rw [vZ]; omega
theorem kC:∀ x:Ex,x.depth<=x.size:=by
 intro x
 have key:∀ (n:Nat) (x:Ex),x.size<=n->x.depth<=x.size:=by
  intro n
  induction n with
  | zero=>intro x h; have:=size_pos x; omega
  | succ n ih=>
   intro x h;rw [size_eq] at h ⊢;rw [vZ]
   have:∀ l:List Ex,z6 l<=n->zS l<=z6 l:=by
    intro l
    induction l with
    | nil=>simp [zS]
    | cons y l il=>
     intro hl;simp only [z6,zS] at hl ⊢;have:=ih y (by omega);have:=il (by omega);omega
   have:=this x.sub (by omega);omega
 exact key _ x (aJ _)
theorem Uh(s:List Ex)(i:Nat)(h:i<s.length):qS (s.take (i+1))=qS (s.take i)++[(s.getD i nil).zu]:=by
 induction s generalizing i with
 | nil=>simp at h
 | cons x s ih=>
  cases i with
  | zero=>simp [qS]
  | succ i=>
   simp only [List.take_succ_cons,qS,List.getD_cons_succ,List.cons_append];rw [ih i (by simpa using h)]
theorem Vr{s t:List Ex}(hl:s.length=t.length)(h:∀ j,j<s.length->s.getD j nil=t.getD j nil):s=t:=by
 apply List.ext_getElem hl;intro i g1 g2;have:=h i g1;simpa [List.getD,g1,g2] using this
theorem KJ{x y:Ex} : x=y↔x.kind=y.kind/\x.rat=y.rat/\x.name=y.name/\x.date=y.date/\x.sub=y.sub:=by
 cases x; cases y;simp [kind,rat,name,date,sub]
end Ex
end Go.Nov
end
section
namespace Go.Nov
theorem orf{a b:Bool} : (bif a then true else b)=false↔a=false/\b=false:=by cases a<;>simp
end Go.Nov
end
section
namespace Go.Nov
open Go.Sx
structure TOp where
 kind:Int
 a:Int
 b:Int
 rat:L8
abbrev TOp.nil:TOp:=⟨0,0,0,[]⟩
def TOp.cell(o:TOp):Nat->AV
 | 0=>.int .u8 o.kind
 | 1=>.i o.a
 | 2=>.i o.b
 | 3=>.str o.rat
 | _=>.undef
def opG(l:List TOp):Nat->Nat->AV:=λj=>(l.getD j TOp.nil).cell
def opS(l:List TOp):AV:=.sl l.length 4 (opG l)
structure Tp where
 n:Int
 ops:List TOp
def Tp.av(t:Tp):AV:=.agg [.i t.n,opS t.ops]
def okOp(n:Int)(i:Nat)(o:TOp):Bool:=
 if o.kind=1 then decide (0<=o.a)&&decide (o.a<n)&&decide (o.b=0)&&decide (o.rat=[])
 else if o.kind=2 then decide (errR o.rat=0)&&decide (o.a=0)&&decide (o.b=0)
 else if 3<=o.kind/\o.kind<=6 then decide (0<=o.a)&&decide (o.a<i)&&(decide (0<=o.b)&&decide (o.b<i))&&decide (o.rat=[])
 else false
def u6(t:Tp)(i:Nat):Bool:=(List.range i).all λk=>okOp t.n k (t.ops.getD k TOp.nil)
theorem zg8{t:Tp}{i k:Nat}(h:u6 t i=true)(hk:k<i):okOp t.n k (t.ops.getD k TOp.nil)=true:=by
 unfold u6 at h;rw [bG] at h;exact h k (List.mem_range.2 hk)
def zcb(t:Tp):Bool:=decide (0<=t.n)&&decide (t.n<=500)&&decide (0<t.ops.length)
def qP(t:Tp):Int:=if 500<t.ops.length then 4 else if zcb t&&u6 t t.ops.length then 0 else 8
theorem vd{t:Tp} : qP t=0↔t.ops.length<=500/\0<=t.n/\t.n<=500/\0<t.ops.length/\u6 t t.ops.length=true:=by
 unfold qP;by_cases h:500<t.ops.length
 ·rw [aP h];constructor
  ·intro g; cases g
  ·intro g; omega
 ·rw [aO h];cases hb:(zcb t&&u6 t t.ops.length) with
  | true=>
   simp only [if_true];unfold zcb at hb;simp only [bA,aK] at hb;exact⟨λ_=>⟨by omega,hb.1.1.1,hb.1.1.2,hb.1.2,hb.2⟩,λ_=>trivial⟩
  | false=>
   constructor
   ·intro g; simp at g
   ·rintro⟨_,g1,g2,g3,g4⟩;unfold zcb at hb;rw [g4] at hb;simp [g1,g2,g3] at hb
def arR(k:Int)(a b:L8):L8×Int:=if k=3 then addR a b else if k=4 then subR a b else if k=5 then mulR a b else divR a b
def qp(inp out:List L8)(o:TOp):L8×Int:=
 if o.kind=1 then(inp.getD o.a.toNat [],0) else if o.kind=2 then(o.rat,0) else arR o.kind (out.getD o.a.toNat []) (out.getD o.b.toNat [])
def runF(inp:List L8):List TOp->List L8->List L8×Int
 | [],out=>(out,0)
 | o::l,out=>if(qp inp out o).2≠0 then([],(qp inp out o).2) else runF inp l (out++[(qp inp out o).1])
def Yq:List L8->Int
 | []=>0
 | x::l=>if errR x≠0 then errR x else Yq l
theorem zan:∀ {l:List (L8)},Yq l=0↔∀ x∈l,errR x=0
 | []=>by simp [Yq]
 | x::l=>by
  unfold Yq;by_cases h:errR x=0
  ·rw [aO (λg=>g h),zan];simp [h]
  ·rw [aP h];simp [h]
def preT(t:Tp)(inp:List L8):Int:=if qP t≠0 then qP t else if(inp.length:Int)≠t.n then 2 else Yq inp
def trun(t:Tp)(inp:List L8):List L8×Int:=if preT t inp≠0 then([],preT t inp) else runF inp t.ops []
def jA(r:List L8×Int):L8×Int:=if r.2≠0 then([],r.2) else(r.1.getD (r.1.length - 1) [],0)
def q5(t:Tp)(inp:List L8):L8×Int:=jA (trun t inp)
structure Ev where
 v:L8
 e:Int
 b:Bool
 g:Int
abbrev Ev.nil:Ev:=⟨[],0,false,0⟩
def jB(k:Int)(a b:L8):L8×Int:=
 if k=7 then(if(cmpR a b).2≠0 then([],(cmpR a b).2) else(if(cmpR a b).1<0 then b else a,0))
 else(if(cmpR b a).2≠0 then([],(cmpR b a).2) else(if(cmpR b a).1<0 then b else a,0))
def opR(k:Int)(a b:L8):L8×Int:=if k=4 then addR a b else if k=5 then subR a b else if k=6 then mulR a b else jB k a b
def fixR(f:List Fx)(a:L8)(d:Int):L8×Int:=if(zP f a d).2=true then((zP f a d).1,0) else([],30)
def jT{α:Type}(z:α)(l0 l1:Ev)(f:L8->L8->α×Int):α×Int:=if l0.e≠0 then(z,l0.e) else if l1.e≠0 then(z,l1.e) else f l0.v l1.v
def valN(f:List Fx)(day k:Int)(r n:L8)(d:Int)(l:List Ev):L8×Int:=
 if k=1 then(r,0) else if k=2 then fixR f n d else if k=3 then fixR f n day
 else if k=9 then(if(l.getD 0 Ev.nil).g≠0 then([],(l.getD 0 Ev.nil).g) else if(l.getD 0 Ev.nil).b then((l.getD 1 Ev.nil).v,(l.getD 1 Ev.nil).e) else((l.getD 2 Ev.nil).v,(l.getD 2 Ev.nil).e))
 else jT [] (l.getD 0 Ev.nil) (l.getD 1 Ev.nil) (opR k)
def QI(k:Int)(a b:L8):Bool×Int:=if(cmpR a b).2≠0 then(false,(cmpR a b).2) else(if k=11 then decide ((cmpR a b).1<0) else decide ((cmpR a b).1=0),0)
def hldN(k:Int)(l:List Ev):Bool×Int:=
 if 13<=k then(if(l.getD 0 Ev.nil).g≠0 then(false,(l.getD 0 Ev.nil).g) else if k=15 then(!(l.getD 0 Ev.nil).b,0)
  else if(l.getD 0 Ev.nil).b=decide (k=14) then((l.getD 0 Ev.nil).b,0) else((l.getD 1 Ev.nil).b,(l.getD 1 Ev.nil).g))
 else jT false (l.getD 0 Ev.nil) (l.getD 1 Ev.nil) (QI k)
def evN(f:List Fx)(day k:Int)(r n:L8)(d:Int)(l:List Ev):Ev:=⟨(valN f day k r n d l).1,(valN f day k r n d l).2,(hldN k l).1,(hldN k l).2⟩
namespace Ex
mutual
def ev(f:List Fx)(day:Int):Ex->Ev
 | mk k r n d s=>evN f day k r n d (evs f day s)
def evs(f:List Fx)(day:Int):List Ex->List Ev
 | []=>[]
 | x::l=>ev f day x::evs f day l
end
theorem zpu(f:List Fx)(day:Int)(x:Ex):x.ev f day=evN f day x.kind x.rat x.name x.date (evs f day x.sub):=by cases x; rw [ev]; rfl
theorem zD{f:List Fx}{day:Int}{s:List Ex}{i:Nat}(h:i<s.length):(evs f day s).getD i Ev.nil=(s.getD i nil).ev f day:=by
 induction s generalizing i with
 | nil=>simp at h
 | cons x s ih=>
  rw [evs];cases i with
  | zero=>rfl
  | succ i=>exact ih (by simpa using h)
theorem v9{x:Ex}(h:x.zu=1):(x.kind=1/\errR x.rat=0)\/x.kind=2\/x.kind=3 \/
  ((4<=x.kind/\x.kind<=8)/\x.sub.length=2/\(x.sub.getD 0 nil).zu=1/\(x.sub.getD 1 nil).zu=1) \/
  (x.kind=9/\x.sub.length=3/\(x.sub.getD 0 nil).zu=2/\(x.sub.getD 1 nil).zu=1/\(x.sub.getD 2 nil).zu=1):=by
 rw [uO] at h;by_cases hk:js x.kind=true
 ·have hk2:(4<=x.kind/\x.kind<=9)\/(11<=x.kind/\x.kind<=15):=by
   by_cases h1:4<=x.kind/\x.kind<=9
   ·exact .inl h1
   ·by_cases h2:11<=x.kind/\x.kind<=15
    ·exact .inr h2
    ·rw [za9 h1 h2] at hk; cases hk
  have two:∀ {k:Int} {ps:List Int} {w:Int},uo k=some (ps,w)->jP k x.rat x.name x.date (qS x.sub)=1->w=1/\x.sub.length=ps.length/\∀ i,i<x.sub.length->(x.sub.getD i nil).zu=ps.getD i 0:=by
   intro k ps w hs hn;rw [w6 hs] at hn;split at hn
   ·rename_i hc;exact⟨hn,uk.1 hc.2⟩
   ·cases hn
  generalize x.kind=k at h hk2 ⊢;have hk3:k=4\/k=5\/k=6\/k=7\/k=8\/k=9\/k=11\/k=12\/k=13\/k=14\/k=15:=by omega
  right; right; right;rcases hk3 with rfl | rfl | rfl | rfl | rfl | rfl | rfl | rfl | rfl | rfl | rfl
  iterate 5
   ·left;obtain⟨_,h2,h3⟩:=two rfl h;exact⟨by decide,h2,h3 0 (by rw [h2]; decide),h3 1 (by rw [h2]; decide)⟩
  ·right;obtain⟨_,h2,h3⟩:=two rfl h;exact⟨rfl,h2,h3 0 (by rw [h2]; decide),h3 1 (by rw [h2]; decide),h3 2 (by rw [h2]; decide)⟩
  all_goals
   obtain⟨h1,_⟩:=two rfl h;cases h1
 ·have hk:js x.kind=false:=by simpa using hk
  rw [wq hk] at h;split at h
  ·rename_i hl;simp only [qy,bA] at hl;obtain⟨_,hl⟩:=hl;split at hl
   ·rename_i h1;simp only [bA,aK] at hl;exact .inl ⟨h1,hl.1.1⟩
   ·split at hl
    ·rename_i h2; exact .inr (.inl h2)
    ·split at hl
     ·rename_i h3; exact .inr (.inr (.inl h3))
     ·cases hl
  ·cases h
theorem ZO{x:Ex}(h:x.zu=2):((x.kind=11\/x.kind=12)/\x.sub.length=2/\(x.sub.getD 0 nil).zu=1/\(x.sub.getD 1 nil).zu=1) \/
  ((x.kind=13\/x.kind=14)/\x.sub.length=2/\(x.sub.getD 0 nil).zu=2/\(x.sub.getD 1 nil).zu=2)\/(x.kind=15/\x.sub.length=1/\(x.sub.getD 0 nil).zu=2):=by
 rw [uO] at h;by_cases hk:js x.kind=true
 ·have hk2:(4<=x.kind/\x.kind<=9)\/(11<=x.kind/\x.kind<=15):=by
   by_cases h1:4<=x.kind/\x.kind<=9
   ·exact .inl h1
   ·by_cases h2:11<=x.kind/\x.kind<=15
    ·exact .inr h2
    ·rw [za9 h1 h2] at hk; cases hk
  have two:∀ {k:Int} {ps:List Int} {w:Int},uo k=some (ps,w)->jP k x.rat x.name x.date (qS x.sub)=2->w=2/\x.sub.length=ps.length/\∀ i,i<x.sub.length->(x.sub.getD i nil).zu=ps.getD i 0:=by
   intro k ps w hs hn;rw [w6 hs] at hn;split at hn
   ·rename_i hc;exact⟨hn,uk.1 hc.2⟩
   ·cases hn
  generalize x.kind=k at h hk2 ⊢;have hk3:k=4\/k=5\/k=6\/k=7\/k=8\/k=9\/k=11\/k=12\/k=13\/k=14\/k=15:=by omega
  rcases hk3 with rfl | rfl | rfl | rfl | rfl | rfl | rfl | rfl | rfl | rfl | rfl
  iterate 6
   ·obtain⟨h1,_⟩:=two rfl h;cases h1
  ·obtain⟨_,h2,h3⟩:=two rfl h;exact .inl ⟨.inl rfl,h2,h3 0 (by rw [h2]; decide),h3 1 (by rw [h2]; decide)⟩
  ·obtain⟨_,h2,h3⟩:=two rfl h;exact .inl ⟨.inr rfl,h2,h3 0 (by rw [h2]; decide),h3 1 (by rw [h2]; decide)⟩
  ·obtain⟨_,h2,h3⟩:=two rfl h;exact .inr (.inl ⟨.inl rfl,h2,h3 0 (by rw [h2]; decide),h3 1 (by rw [h2]; decide)⟩)
  ·obtain⟨_,h2,h3⟩:=two rfl h;exact .inr (.inl ⟨.inr rfl,h2,h3 0 (by rw [h2]; decide),h3 1 (by rw [h2]; decide)⟩)
  ·obtain⟨_,h2,h3⟩:=two rfl h;exact .inr (.inr ⟨rfl,h2,h3 0 (by rw [h2]; decide)⟩)
 ·have hk:js x.kind=false:=by simpa using hk
  rw [wq hk] at h;split at h<;>cases h
end Ex
theorem zjk{f:List Fx}{a:L8}{d:Int}(h:(zP f a d).2=false):(zP f a d).1=[]:=by
 unfold zP at h ⊢;split
 ·rename_i y hy; rw [hy] at h; cases h
 ·rfl
theorem zcd{f:List Fx}(hf:f.all okF=true){a:L8}{d:Int}(h:(fixR f a d).2=0):errR (fixR f a d).1=0:=by
 unfold fixR at h ⊢;split
 ·rename_i h1;unfold zP at h1 ⊢;split at h1
  ·rename_i y hy;have hm:=List.mem_of_find?_eq_some hy;have:=bG.1 hf _ hm;simp only [okF,bA,aK] at this;exact this.2
  ·cases h1
 ·rename_i h1;rw [aO h1] at h;cases h
theorem zh0{k:Int}{a b:L8}(ha:errR a=0)(hb:errR b=0)(h:(jB k a b).2=0):errR (jB k a b).1=0:=by
 unfold jB at h ⊢;split
 ·rename_i h1;rw [aP h1] at h;split
  ·rename_i h2; rw [aP h2] at h; exact absurd h h2
  ·simp only; split<;>assumption
 ·rename_i h1;rw [aO h1] at h;split
  ·rename_i h2; rw [aP h2] at h; exact absurd h h2
  ·simp only; split<;>assumption
theorem zp6{k:Int}{a b:L8}(ha:errR a=0)(hb:errR b=0)(h:(opR k a b).2=0):errR (opR k a b).1=0:=by
 unfold opR at h ⊢;split
 ·rename_i h1; rw [aP h1] at h; exact(uz ha hb h).1
 ·rename_i h1;rw [aO h1] at h;split
  ·rename_i h2; rw [aP h2] at h; exact(uV ha hb h).1
  ·rename_i h2;rw [aO h2] at h;split
   ·rename_i h3; rw [aP h3] at h; exact(Km ha hb h).1
   ·rename_i h3;rw [aO h3] at h;exact zh0 ha hb h
theorem q9{a:L8}(h:errR a=0):a.length<=2003:=by
 have h1:=(kg h).2.2.1;rw [<- h1];unfold qstr wz;have g1:=w9 (decide ((qv a).num<0)) (qv a).num.natAbs;have g2:=w9 (decide (((qv a).den:Int)<0)) ((qv a).den:Int).natAbs;split
 ·omega
 ·simp only [bO,aL,List.length_nil];omega
theorem Ex.wm{f:List Fx}(hf:f.all okF=true)(day:Int):∀ x:Ex,x.zu=1->(x.ev f day).e=0->errR (x.ev f day).v=0
 | .mk k r n d s,hs,he=>by
  have hc:=Ex.v9 hs;simp only [Ex.kind,Ex.rat,Ex.sub] at hc;rw [Ex.ev] at he ⊢;simp only [evN] at he ⊢;unfold valN at he ⊢;rcases hc with ⟨rfl,h1⟩ | rfl | rfl | ⟨⟨h1,h2⟩,h3,h4,h5⟩ | ⟨rfl,h3,h4,h5,h6⟩
  ·simpa using h1
  ·simp only [show ¬ (2:Int)=1 by decide,if_false,if_true] at he ⊢;exact zcd hf he
  ·simp only [show ¬ (3:Int)=1 by decide,show ¬ (3:Int)=2 by decide,if_false,if_true] at he ⊢;exact zcd hf he
  ·rw [aO (by omega),aO (by omega),aO (by omega),aO (by omega)] at he ⊢;rw [Ex.zD (by omega),Ex.zD (by omega)] at he ⊢;unfold jT at he ⊢;have w0:s.getD 0 Ex.nil∈s:=by simp [List.getD,aF (show 0<s.length by omega)]
   have w1:s.getD 1 Ex.nil∈s:=by simp [List.getD,aF (show 1<s.length by omega)]
   split
   ·rename_i g; rw [aP g] at he; exact absurd he g
   ·rename_i g;rw [aO g] at he;split
    ·rename_i g2; rw [aP g2] at he; exact absurd he g2
    ·rename_i g2;rw [aO g2] at he;rw [Classical.not_not] at g g2;exact zp6 (Ex.wm hf day _ h4 g) (Ex.wm hf day _ h5 g2) he
  ·simp only [show ¬ (9:Int)=1 by decide,show ¬ (9:Int)=2 by decide,show ¬ (9:Int)=3 by decide,if_false,if_true] at he ⊢;rw [Ex.zD (by omega),Ex.zD (by omega),Ex.zD (by omega)] at he ⊢;have w1:s.getD 1 Ex.nil∈s:=by simp [List.getD,aF (show 1<s.length by omega)]
   have w2:s.getD 2 Ex.nil∈s:=by simp [List.getD,aF (show 2<s.length by omega)]
   split
   ·rename_i g; rw [aP g] at he; exact absurd he g
   ·rename_i g;rw [aO g] at he;split
    ·rename_i g2; rw [aP g2] at he; exact Ex.wm hf day _ h5 he
    ·rename_i g2; rw [aO g2] at he; exact Ex.wm hf day _ h6 he
termination_by x=>x.size
decreasing_by
 all_goals
  rw [Ex.size];have a0:=Ex.z4 (s:=s) (i:=0);have a1:=Ex.z4 (s:=s) (i:=1);have a2:=Ex.z4 (s:=s) (i:=2)
  first
  | (have:=a0 (by omega); omega)
  | (have:=a1 (by omega); omega)
  | (have:=a2 (by omega); omega)
theorem zed{a b:L8}(ha:errR a=0)(hb:errR b=0):z5 b a=z5 a b:=by
 have h1:zZ a b=0:=by unfold zZ; rw [aP ha]; exact hb
 have h2:zZ b a=0:=by unfold zZ; rw [aP hb]; exact ha
 unfold z5;have n0:¬ (0:Int)≠0:=by simp
 rw [h1,h2,aO n0,aO n0];by_cases h:(mulI (numR a) (denR b)).2≠0\/(mulI (numR b) (denR a)).2≠0
 ·rw [aP h,aP h.symm]
 ·rw [aO h,aO λh2=>h h2.symm]
theorem KY{a b:L8}(ha:errR a=0)(hb:errR b=0):(cmpR b a).2=(cmpR a b).2/\((cmpR b a).1<0↔0<(cmpR a b).1):=by
 have hs:=zed ha hb;rcases VO ha hb with h1 | h1
 ·have hc:z5 a b≠0:=λh0=>by
   have:cmpR a b=kx (mulI (numR a) (denR b)).1 (mulI (numR b) (denR a)).1:=by unfold cmpR; rw [h0]; rfl
   rcases yr ha hb with h | ⟨_,m1,m2,k1,k2⟩
   ·rw [h] at h0; cases h0
   ·rw [m1] at k1; rw [m2] at k2;rw [this,m1,m2] at h1;unfold kx at h1;rw [aP (zh.2 ⟨jS k1,jS k2⟩)] at h1;exact absurd (show(0:Int)=14 from congrArg Prod.snd h1) (by decide)
  have:cmpR b a=(0,z5 b a):=by unfold cmpR; rw [aP (by rw [hs]; exact hc)]
  have h2:cmpR a b=(0,z5 a b):=by unfold cmpR; rw [aP hc]
  rw [this,h2,hs];exact⟨rfl,Iff.rfl⟩
 ·rcases VO hb ha with h2 | h2
  ·have hc:z5 a b=0:=by
    by_cases h0:z5 a b=0
    ·exact h0
    ·have:cmpR a b=(0,z5 a b):=by unfold cmpR; rw [aP h0]
     rw [this] at h1;exact absurd (congrArg Prod.snd h1) h0
   rcases yr hb ha with h | ⟨_,m1,m2,k1,k2⟩
   ·rw [hs,hc] at h; cases h
   ·rw [m1] at k1; rw [m2] at k2;unfold cmpR at h2;rw [hs,hc,aO (by simp),m1,m2] at h2;unfold kx at h2;rw [aP (zh.2 ⟨jS k1,jS k2⟩)] at h2;exact absurd (show(0:Int)=14 from congrArg Prod.snd h2) (by decide)
  ·rw [h1,h2];refine⟨rfl,?_⟩;simp only;by_cases g1:qv a<qv b
   ·have g2:¬ qv b<qv a:=λg=>(Rat.lt_iff_le_and_not_ge.1 g1).2 (Rat.le_of_lt g)
    rw [aP g1,aO g2,aP g1]; decide
   ·rw [aO g1,aO g1];by_cases g2:qv b<qv a
    ·rw [aP g2,aP g2]; decide
    ·rw [aO g2,aO g2]
end Go.Nov
end
section
namespace Go.Nov
theorem K6{b c:Bool}{x:Nat}(h:x≠0->b=c):wr b x=wr c x:=by
 by_cases h0:x=0
 ·subst h0; rfl
 ·rw [h h0]
def negS(a:L8):L8:=if a=[48] then a else if a.getD 0 0=45 then a.drop 1 else [45]++a
theorem XR(z:Int):z=0/\(wz z).1=[48]\/z≠0/\room z.natAbs/\(wz z).1=sgn (decide (z<0)) (txt z.natAbs)\/¬ room z.natAbs:=by
 by_cases h0:z=0
 ·left; subst h0; exact⟨rfl,rfl⟩
 ·right;by_cases hr:room z.natAbs
  ·left;refine⟨h0,hr,?_⟩;unfold wz wr;have hr':(dec z.natAbs).length<=1000:=hr;rw [aO (by omega),aO (by omega)]
  ·exact .inr hr
theorem XY(b:L8):sgn true b=45::b:=rfl
theorem WE(b:L8):sgn false b=b:=rfl
theorem zf3{r:Rat}(h:vO r):negS (qstr r)=qstr (-r):=by
 have hn:(-r).num = -r.num:=rfl;have hd:(-r).den=r.den:=rfl
 have tail:∀ t:L8,(r.den=1->t=[])->(r.den≠1->t=[47]++(wz (r.den:Int)).1)->qstr r=(wz r.num).1++t/\qstr (-r)=(wz (-r.num)).1++t:=by
  intro t h1 h2;unfold qstr;rw [hn,hd];by_cases hd1:r.den=1
  ·rw [aP hd1,aP hd1,h1 hd1]; simp
  ·rw [aO hd1,aO hd1,h2 hd1]; simp
 obtain⟨t,ht1,ht2⟩:∃ t:L8,(r.den=1->t=[])/\(r.den≠1->t=[47]++(wz (r.den:Int)).1):=by
  by_cases hd1:r.den=1
  ·exact⟨[],λ_=>rfl,λh=>absurd hd1 h⟩
  ·exact⟨_,λh=>absurd h hd1,λ_=>rfl⟩
 obtain⟨e1,e2⟩:=tail t ht1 ht2;rw [e1,e2];rcases XR r.num with ⟨z0,zs⟩ | ⟨z0,zr,zs⟩ | zr
 ·have hr0:r=0:=Rat.num_eq_zero.1 z0;have ht:t=[]:=ht1 (by rw [hr0]; rfl);rw [z0,ht];rfl
 ·rcases XR (-r.num) with ⟨z0',_⟩ | ⟨_,_,zs'⟩ | zr'
  ·omega
  ·rw [zs,zs',Int.natAbs_neg];have hx:r.num.natAbs≠0:=by omega
   obtain⟨f1,f2⟩:=Z3 hx;have fne:=YN hx;by_cases hlt:r.num<0
   ·rw [aX hlt,aW (by omega),XY,WE];unfold negS;rw [aO (by simp),aP (by simp)];rfl
   ·rw [aW hlt,aX (by omega),XY,WE];generalize txt r.num.natAbs=b at *
    cases b with
    | nil=>exact absurd rfl fne
    | cons c b=>
     simp only [List.getD_cons_zero] at f1 f2;unfold negS;rw [aO (by simp [f1]),aO (by simpa using f2)];rfl
  ·rw [Int.natAbs_neg] at zr'; exact absurd zr zr'
 ·exact absurd h.1 zr
theorem zii{r:Rat}(h:vO r):vO (-r):=by
 refine⟨?_,h.2⟩;show room (-r.num).natAbs;rw [Int.natAbs_neg]; exact h.1
theorem zla{a:L8}(h:errR a=0):errR (negS a)=0/\qv (negS a) = -qv a/\numR (negS a)=(wz (-zI (numR a))).1/\denR (negS a)=denR a:=by
 obtain⟨h1,h2,h3,h4⟩:=kg h;have e:negS a=qstr (-qv a):=by rw [<- zf3 h4,h3]
 have hr:=zii h4;obtain⟨p1,p2,_⟩:=yI hr;rw [e];refine⟨kN hr,uE hr,?_,?_⟩
 ·rw [p1];show(wz (-(qv a).num)).1=_;rw [h1]
 ·rw [p2];show(wz ((qv a).den:Int)).1=_;rw [h2,yw (qH h).2.1]
theorem vJ(z:Int):(wz (-z)).2=(wz z).2:=by
 unfold wz wr;rw [Int.natAbs_neg];split
 ·rfl
 ·split<;>rfl
theorem sub_neg{a b:L8}(ha:errR a=0)(hb:errR b=0):addR a (negS b)=subR a b:=by
 obtain⟨n1,n2,n3,n4⟩:=zla hb;obtain⟨a1,a2,b1,b2,a4,b4,h2⟩:=Qa ha hb;obtain⟨_,_,b1',b2',_,b4',h2'⟩:=Qa ha n1
 have hz:zI (numR (negS b)) = -zI (numR b):=by
  rw [n3];refine jK ?_;rw [vJ,yw b1]
 have m1:mulI (numR a) (denR (negS b))=mulI (numR a) (denR b):=by rw [n4]
 have m2:=kG (zh.2 ⟨b1',a2⟩);have m2':=kG (zh.2 ⟨b1,a2⟩);rw [hz,Int.neg_mul] at m2
 have hc:z5 a (negS b)=z5 a b:=by
  unfold z5;rw [h2,h2',m1,m2,m2',vJ]
 unfold addR subR;rw [hc];split
 ·rfl
 ·rename_i hne;rw [Classical.not_not] at hne;rcases yr ha hb with h | ⟨_,k1,k2,k3,k4⟩
  ·rw [h] at hne; cases hne
  ·rw [m1,n4];congr 1;rw [m2,m2'] at *
   rw [k1] at k3 ⊢;have e1:=jS k3;have e2:=jS k4;have k5:(wz (-(zI (numR b)*zI (denR a)))).2=0:=by rw [vJ]; exact k4
   have e3:=jS k5;rw [zk0 (zh.2 ⟨e1,e3⟩),zjo (zh.2 ⟨e1,e2⟩),jK k3,jK k4,jK k5,Int.sub_eq_add_neg]
end Go.Nov
end
section
namespace Go.Nov
open Go.Sx
def allQ(l:List L8):Prop:=∀ x∈l,errR x=0
theorem jU{l:List (L8)}(h:allQ l){i:Nat}(hi:i<l.length):errR (l.getD i [])=0:=h _ (by simp [List.getD,hi])
theorem zeq{l:List (L8)}(h:allQ l){x:L8}(hx:errR x=0):allQ (l++[x]):=by
 intro y hy;rcases bY.1 hy with g | g
 ·exact h y g
 ·rw [List.mem_singleton.1 g]; exact hx
theorem zgs{k:Int}{a b:L8}(ha:errR a=0)(hb:errR b=0)(h:(arR k a b).2=0):errR (arR k a b).1=0:=by
 unfold arR at h ⊢;split
 ·rename_i g; rw [aP g] at h; exact(uz ha hb h).1
 ·rename_i g;rw [aO g] at h;split
  ·rename_i g; rw [aP g] at h; exact(uV ha hb h).1
  ·rename_i g;rw [aO g] at h;split
   ·rename_i g; rw [aP g] at h; exact(Km ha hb h).1
   ·rename_i g;rw [aO g] at h;exact(K4 ha hb h).2.1
theorem zl3{k:Int}{a b:L8}(ha:errR a=0)(hb:errR b=0)(h:(arR k a b).2≠0):(arR k a b).1=[]:=by
 unfold arR at h ⊢;have h1:=KC ha hb;have h2:=VB ha hb;have h3:=zi2 ha hb;have h4:=za1 ha hb
 repeat' split
 ·rcases h1 with g | g
  ·rw [g]
  ·rename_i q; rw [aP q,g.1] at h; exact absurd rfl h
 ·rename_i q1 q2;rw [aO q1,aP q2] at h;rcases h2 with g | g
  ·rw [g]
  ·rw [g.1] at h; exact absurd rfl h
 ·rename_i q1 q2 q3;rw [aO q1,aO q2,aP q3] at h;rcases h3 with g | g
  ·rw [g]
  ·rw [g.1] at h; exact absurd rfl h
 ·rename_i q1 q2 q3;rw [aO q1,aO q2,aO q3] at h;rcases h4 with g | ⟨_,g | g⟩
  ·rw [g.2]
  ·rw [g]
  ·rw [g.1] at h; exact absurd rfl h
theorem yv{n:Int}{i:Nat}{o:TOp}(h:okOp n i o=true):(o.kind=1/\0<=o.a/\o.a<n/\o.b=0/\o.rat=[])\/(o.kind=2/\errR o.rat=0/\o.a=0/\o.b=0)\/((o.kind=3\/o.kind=4\/o.kind=5\/o.kind=6)/\0<=o.a/\o.a<i/\0<=o.b/\o.b<i/\o.rat=[]):=by
 unfold okOp at h;split at h
 ·rename_i g;simp only [bA,aK] at h;exact .inl ⟨g,h.1.1.1,h.1.1.2,h.1.2,h.2⟩
 ·split at h
  ·rename_i g;simp only [bA,aK] at h;exact .inr (.inl ⟨g,h.1.1,h.1.2,h.2⟩)
  ·split at h
   ·rename_i g;simp only [bA,aK] at h;exact .inr (.inr ⟨by omega,h.1.1.1,h.1.1.2,h.1.2.1,h.1.2.2,h.2⟩)
   ·cases h
theorem zht{n:Int}{inp out:List (L8)}{o:TOp}(hi:allQ inp)(hn:(inp.length:Int)=n)(ho:allQ out)(h:okOp n out.length o=true)(h2:(qp inp out o).2=0):errR (qp inp out o).1=0:=by
 unfold qp at h2 ⊢;rcases yv h with ⟨g,g1,g2,_⟩ | ⟨g,g1,_⟩ | ⟨g,g1,g2,g3,g4,_⟩
 ·rw [aP g];exact jU hi (by omega)
 ·rw [aO (by omega),aP g];exact g1
 ·rw [aO (by omega),aO (by omega)] at h2 ⊢;exact zgs (jU ho (by omega)) (jU ho (by omega)) h2
theorem KI{l:List (L8)}(h:allQ l){x:L8}(hx:errR x=0)(i:Nat):allQ (l.set i x):=by
 intro y hy;rcases List.mem_or_eq_of_mem_set hy with g | g
 ·exact h y g
 ·rw [g]; exact hx
def shL(h:L8):List Int->List L8->List L8×Int
 | [],x=>(x,0)
 | i::l,x=>if(addR (x.getD i.toNat []) h).2≠0 then([],(addR (x.getD i.toNat []) h).2) else shL h l (x.set i.toNat (addR (x.getD i.toNat []) h).1)
def atT(t:Tp)(inp:List L8)(h:L8)(at_:List Int):L8×Int:=if(shL h at_ inp).2≠0 then([],(shL h at_ inp).2) else jA (runF (shL h at_ inp).1 t.ops [])
def Qk(t:Tp)(at_:List Int):Bool:=at_.all λi=>decide (0<=i)&&decide (i<t.n)
def begT(t:Tp)(inp:List L8)(at_:List Int)(h:L8):Int:=if(q5 t inp).2≠0 then(q5 t inp).2 else if Qk t at_ then(if errR h≠0 then errR h else if h=[48] then 16 else 0) else 2
def endR(q:L8×Int):L8×Int:=if q.2≠0 then([],q.2) else(q.1,0)
def ZU(t:Tp)(inp:List L8)(i:Int)(h:L8):L8×Int:=stp (atT t inp h [i]).2 subR (atT t inp h [i]).1 (q5 t inp).1
def jN(t:Tp)(inp:List L8)(i:Int)(h:L8):L8×Int:=if begT t inp [i] h≠0 then([],begT t inp [i] h) else endR (stp (ZU t inp i h).2 divR (ZU t inp i h).1 h)
def arQ(k:Int)(a b:Rat):Rat:=if k=3 then a+b else if k=4 then a - b else if k=5 then a*b else a/b
def zfm(inp out:List Rat)(o:TOp):Rat:=
 if o.kind=1 then inp.getD o.a.toNat 0 else if o.kind=2 then qv o.rat else arQ o.kind (out.getD o.a.toNat 0) (out.getD o.b.toNat 0)
def runQ(inp:List Rat):List TOp->List Rat->List Rat
 | [],out=>out
 | o::l,out=>runQ inp l (out++[zfm inp out o])
theorem zc0{k:Int}{a b:L8}(ha:errR a=0)(hb:errR b=0)(h:(arR k a b).2=0):qv (arR k a b).1=arQ k (qv a) (qv b):=by
 unfold arR at h ⊢;unfold arQ;split
 ·rename_i g; rw [aP g] at h; exact(uz ha hb h).2
 ·rename_i g;rw [aO g] at h;split
  ·rename_i g; rw [aP g] at h; exact(uV ha hb h).2
  ·rename_i g;rw [aO g] at h;split
   ·rename_i g; rw [aP g] at h; exact(Km ha hb h).2
   ·rename_i g;rw [aO g] at h;exact(K4 ha hb h).2.2
theorem yf(l:List L8){i:Nat}(hi:i<l.length):(l.map qv).getD i 0=qv (l.getD i []):=by
 simp [List.getD,hi]
theorem zlp{n:Int}{inp out:List (L8)}{o:TOp}(hi:allQ inp)(hn:(inp.length:Int)=n)(ho:allQ out)(h:okOp n out.length o=true)(h2:(qp inp out o).2=0):qv (qp inp out o).1=zfm (inp.map qv) (out.map qv) o:=by
 unfold qp at h2 ⊢;unfold zfm;rcases yv h with ⟨g,g1,g2,_⟩ | ⟨g,g1,_⟩ | ⟨g,g1,g2,g3,g4,_⟩
 ·rw [aP g,aP g,yf inp (by omega)]
 ·rw [aO (by omega),aP g,aO (by omega),aP g]
 ·rw [aO (by omega),aO (by omega)] at h2 ⊢;rw [aO (by omega),aO (by omega),yf out (by omega),yf out (by omega)];exact zc0 (jU ho (by omega)) (jU ho (by omega)) h2
def jG(n:Int):Nat->List TOp->Prop
 | _,[]=>True
 | k,o::l=>okOp n k o=true/\jG n (k+1) l
theorem vB{t:Tp}(h:u6 t t.ops.length=true):∀ (l:List TOp) (k:Nat),t.ops.drop k=l->jG t.n k l
 | [],_,_=>trivial
 | o::l,k,e=>by
  have hk:k<t.ops.length:=by
   rcases aR k t.ops.length with g | g
   ·exact g
   ·rw [List.drop_eq_nil_of_le g] at e; cases e
  rw [List.drop_eq_getElem_cons hk] at e;simp only [List.cons.injEq] at e;refine⟨?_,vB h l (k+1) e.2⟩;have:=zg8 h hk;rw [show t.ops.getD k TOp.nil=t.ops[k] by simp [List.getD,hk],e.1] at this;exact this
theorem VA{n:Int}{inp:List (L8)}(hi:allQ inp)(hn:(inp.length:Int)=n):∀ (l:List TOp) (out r:List L8),allQ out->jG n out.length l->runF inp l out=(r,0)->allQ r/\r.map qv=runQ (inp.map qv) l (out.map qv)/\r.length=out.length+l.length
 | [],out,r,ho,_,e=>by
  simp only [runF,bE,and_true] at e;subst e;exact⟨ho,rfl,rfl⟩
 | o::l,out,r,ho,hk,e=>by
  rw [runF] at e;by_cases g:(qp inp out o).2=0
  ·rw [aO (λq=>q g)] at e;have h1:=zht hi hn ho hk.1 g;have h2:=zlp hi hn ho hk.1 g;obtain⟨a1,a2,a3⟩:=VA hi hn l (out++[(qp inp out o).1]) r (zeq ho h1) (by simpa using hk.2) e;refine⟨a1,?_,?_⟩
   ·rw [a2,List.map_append,List.map_singleton,h2]; rfl
   ·rw [a3]; simp; omega
  ·rw [aP g] at e;simp only [bE] at e;exact absurd e.2 g
def VQ(t:Tp)(X:List Rat):Rat:=(runQ X t.ops []).getD (t.ops.length - 1) 0
theorem zhr{t:Tp}{inp:List (L8)} : preT t inp=0↔qP t=0/\(inp.length:Int)=t.n/\allQ inp:=by
 unfold preT;by_cases h:qP t=0
 ·rw [aO (λg=>g h)];by_cases h1:(inp.length:Int)=t.n
  ·rw [aO (λg=>g h1),zan];exact⟨λg=>⟨h,h1,g⟩,λg=>g.2.2⟩
  ·rw [aP h1];constructor
   ·intro g; cases g
   ·intro g; exact absurd g.2.1 h1
 ·rw [aP h];exact⟨λg=>absurd g h,λg=>absurd g.1 h⟩
theorem uP{t:Tp}{x:List (L8)}(hc:qP t=0)(hn:(x.length:Int)=t.n)(hx:allQ x)(h:(jA (runF x t.ops [])).2=0):errR (jA (runF x t.ops [])).1=0/\qv (jA (runF x t.ops [])).1=VQ t (x.map qv):=by
 obtain⟨c1,c2,c3,c4,c5⟩:=vd.1 hc;unfold jA at h ⊢;by_cases g:(runF x t.ops []).2=0
 ·rw [aO (λq=>q g)];have e:runF x t.ops []=((runF x t.ops []).1,0):=by rw [<- g]
  obtain⟨a1,a2,a3⟩:=VA (n:=t.n) hx hn t.ops [] _ (λy hy=>absurd hy (by simp)) (vB c5 t.ops 0 (List.drop_zero)) e;simp only [List.length_nil,Nat.zero_add] at a3;have hl:(runF x t.ops []).1.length - 1<(runF x t.ops []).1.length:=by omega
  refine⟨jU a1 hl,?_⟩;unfold VQ;rw [<- yf _ hl,a2,a3];rfl
 ·rw [aP g] at h; exact absurd h g
theorem zc6{t:Tp}{inp:List (L8)}(h:(q5 t inp).2=0):qP t=0/\(inp.length:Int)=t.n/\allQ inp/\errR (q5 t inp).1=0/\qv (q5 t inp).1=VQ t (inp.map qv):=by
 unfold q5 trun at h ⊢;by_cases g:preT t inp=0
 ·rw [aO (λq=>q g)] at h ⊢;obtain⟨p1,p2,p3⟩:=zhr.1 g;obtain⟨a,b⟩:=uP p1 p2 p3 h;exact⟨p1,p2,p3,a,b⟩
 ·rw [aP g] at h;unfold jA at h;rw [aP g] at h;exact absurd h g
theorem Qn{t:Tp}{inp:List (L8)}(p1:qP t=0)(p2:(inp.length:Int)=t.n)(p3:allQ inp):q5 t inp=jA (runF inp t.ops []):=by
 unfold q5 trun;rw [aO (λq=>q (zhr.2 ⟨p1,p2,p3⟩))]
def addX(h:Rat):List Int->List Rat->List Rat
 | [],X=>X
 | i::l,X=>addX h l (X.set i.toNat (X.getD i.toNat 0+h))
theorem zbl{h:L8}(hh:errR h=0){n:Int} : ∀ (l:List Int) (x:List L8),allQ x->(x.length:Int)=n->(∀ i∈l,0<=i/\i<n)->(shL h l x).2=0->allQ (shL h l x).1/\((shL h l x).1.length:Int)=n/\(shL h l x).1.map qv=addX (qv h) l (x.map qv)
 | [],x,hx,hn,_,_=>⟨hx,hn,rfl⟩
 | i::l,x,hx,hn,hl,h0=>by
  have hi:=hl i (by simp);have hil:i.toNat<x.length:=by omega
  rw [shL] at h0 ⊢;by_cases g:(addR (x.getD i.toNat []) h).2=0
  ·rw [aO (λq=>q g)] at h0 ⊢;obtain⟨a,b⟩:=uz (jU hx hil) hh g;obtain⟨c1,c2,c3⟩:=zbl hh l _ (KI hx a i.toNat) (by simpa using hn) (λj hj=>hl j (by simp [hj])) h0;refine⟨c1,c2,?_⟩;rw [c3,addX,List.map_set,b,yf x hil]
  ·rw [aP g] at h0; exact absurd h0 g
theorem JQ{t:Tp}{inp:List (L8)}{h:L8}{l:List Int}(hh:errR h=0)(p1:qP t=0)(p2:(inp.length:Int)=t.n)(p3:allQ inp)(hl:∀ i∈l,0<=i/\i<t.n)(h0:(atT t inp h l).2=0) :
  errR (atT t inp h l).1=0/\qv (atT t inp h l).1=VQ t (addX (qv h) l (inp.map qv)):=by
 unfold atT at h0 ⊢;by_cases g:(shL h l inp).2=0
 ·rw [aO (λq=>q g)] at h0 ⊢;obtain⟨a,b,c⟩:=zbl hh l inp p3 p2 hl g;obtain⟨d,e⟩:=uP p1 b a h0;exact⟨d,by rw [e,c]⟩
 ·rw [aP g] at h0; exact absurd h0 g
theorem zhe:errR [48]=0/\qv [48]=0:=by decide +kernel
theorem zo0{a:L8}(h:errR a=0)(hq:qv a=0):a=[48]:=zh5 h zhe.1 (by rw [hq,zhe.2])
theorem zhc{t:Tp}{inp:List (L8)}{l:List Int}{h:L8}(h0:begT t inp l h=0):(q5 t inp).2=0/\(∀ i∈l,0<=i/\i<t.n)/\errR h=0/\qv h≠0:=by
 unfold begT at h0;by_cases g:(q5 t inp).2=0
 ·rw [aO (λq=>q g)] at h0;by_cases g2:Qk t l=true
  ·rw [aP g2] at h0;by_cases g3:errR h=0
   ·rw [aO (λq=>q g3)] at h0;by_cases g4:h=[48]
    ·rw [aP g4] at h0; cases h0
    ·refine⟨g,λi hi=> ?_,g3,λq=>g4 (zo0 g3 q)⟩;unfold Qk at g2;rw [bG] at g2;simpa using g2 i hi
   ·rw [aP g3] at h0; exact absurd h0 g3
  ·rw [aO g2] at h0; cases h0
 ·rw [aP g] at h0; exact absurd h0 g
theorem zn3{q:L8×Int}(h:(endR q).2=0):q.2=0/\(endR q).1=q.1:=by
 unfold endR at h ⊢;by_cases g:q.2=0
 ·rw [aO (λk=>k g)]; exact⟨g,rfl⟩
 ·rw [aP g] at h; exact absurd h g
theorem zak{e:Int}{f:L8->L8->L8×Int}{x y:L8}(h:(stp e f x y).2=0):e=0/\stp e f x y=f x y:=by
 unfold stp at h ⊢;by_cases g:e=0
 ·rw [aO (λk=>k g)]; exact⟨g,rfl⟩
 ·rw [aP g] at h; exact absurd h g
structure Dok(t:Tp)(inp:List L8)(l:List Int)(h:L8):Prop where
 c:qP t=0
 n:(inp.length:Int)=t.n
 q:allQ inp
 l:∀ i∈l,0<=i/\i<t.n
 h0:errR h=0
 hq:qv h≠0
theorem Vt{t:Tp}{inp:List (L8)}{l:List Int}{h:L8}(h0:begT t inp l h=0):Dok t inp l h/\errR (q5 t inp).1=0/\qv (q5 t inp).1=VQ t (inp.map qv):=by
 obtain⟨a,b,c,d⟩:=zhc h0;obtain⟨p1,p2,p3,p4,p5⟩:=zc6 a;exact⟨⟨p1,p2,p3,b,c,d⟩,p4,p5⟩
theorem QK{t:Tp}{inp:List (L8)}{i:Int}{h:L8}(h0:(jN t inp i h).2=0):Dok t inp [i] h/\errR (jN t inp i h).1=0/\qv (jN t inp i h).1=(VQ t (addX (qv h) [i] (inp.map qv)) - VQ t (inp.map qv))/qv h:=by
 unfold jN at h0 ⊢;by_cases g:begT t inp [i] h=0
 ·rw [aO (λq=>q g)] at h0 ⊢;obtain⟨D,v1,v2⟩:=Vt g;obtain⟨e1,e2⟩:=zn3 h0;rw [e2];obtain⟨e3,e4⟩:=zak e1;rw [e4] at e1 ⊢;unfold ZU at e1 e3 ⊢;obtain⟨e5,e6⟩:=zak e3;rw [e6] at e1 e3 ⊢;obtain⟨a1,a2⟩:=JQ D.h0 D.c D.n D.q D.l e5;obtain⟨b1,b2⟩:=uV a1 v1 e3;obtain⟨_,c1,c2⟩:=K4 b1 D.h0 e1;exact⟨D,c1,by rw [c2,b2,a2,v2]⟩
 ·rw [aP g] at h0; exact absurd h0 g
theorem at_one{t:Tp}{inp:List (L8)}{h:L8}{i:Int}(g:(addR (inp.getD i.toNat []) h).2=0):atT t inp h [i]=jA (runF (inp.set i.toNat (addR (inp.getD i.toNat []) h).1) t.ops []):=by
 unfold atT
 have e:shL h [i] inp=(inp.set i.toNat (addR (inp.getD i.toNat []) h).1,0):=by
  rw [shL,aO (λq=>q g)]; rfl
 rw [e,aO (by simp)]
theorem zog{t:Tp}{inp:List (L8)}{h:L8}{i:Int}(g:(addR (inp.getD i.toNat []) h).2=14):atT t inp h [i]=([],14):=by
 unfold atT
 have e:shL h [i] inp=([],14):=by
  rw [shL,aP (by rw [g]; decide),g]
 rw [e,aP (by simp)]
theorem zfc{t:Tp}{inp:List (L8)}{i:Int}{h:L8}(D:Dok t inp [i] h)(hv:(q5 t inp).2=0)(ha:(atT t inp h [i]).2=14\/(atT t inp h [i]).2=0):(jN t inp i h).2=14\/(jN t inp i h).2=0:=by
 obtain⟨_,_,_,v1,v2⟩:=zc6 hv
 have hb:begT t inp [i] h=0:=by
  unfold begT;rw [aO (λq=>q hv),aP,aO (λq=>q D.h0),aO]
  ·intro g; exact D.hq (by rw [g]; exact zhe.2)
  ·unfold Qk;rw [bG];intro j hj;have:=D.l j hj;simp [this.1,this.2]
 unfold jN;rw [aO (λq=>q hb)]
 have he:∀ q:L8×Int,q.2=14\/q.2=0->(endR q).2=14\/(endR q).2=0:=by
  intro q hq;unfold endR;split
  ·rename_i g; exact hq.elim .inl λg2=>absurd g2 g
  ·exact .inr rfl
 refine he _ ?_;rcases ha with g | g
 ·have eD:ZU t inp i h=([],14):=by unfold ZU stp; rw [aP (by rw [g]; decide),g]
  left;unfold stp;rw [eD];simp
 ·have eD:ZU t inp i h=subR (atT t inp h [i]).1 (q5 t inp).1:=by unfold ZU stp; rw [aO (λq=>q g)]
  rw [eD];obtain⟨a1,a2⟩:=JQ D.h0 D.c D.n D.q D.l g;rcases VB a1 v1 with g2 | ⟨g2,g3⟩
  ·left; unfold stp; rw [g2]; simp
  ·have s0:(subR (atT t inp h [i]).1 (q5 t inp).1).2=0:=by rw [g2]
   obtain⟨s1,s2⟩:=uV a1 v1 s0;unfold stp;rw [aO (λq=>q s0)];rcases za1 s1 D.h0 with ⟨g4,_⟩ | ⟨_,g4 | ⟨g4,_⟩⟩
   ·exact absurd g4 D.hq
   ·left; rw [g4]
   ·right; rw [g4]
def shO(n:Int)(o:TOp):TOp:=if 3<=o.kind then⟨o.kind,o.a+n,o.b+n,o.rat⟩ else o
def kr(k:Int)(t u:Tp):Tp:=⟨t.n,t.ops++u.ops.map (shO t.ops.length)++[⟨k,(t.ops.length:Int) - 1,(t.ops.length:Int)+u.ops.length - 1,[]⟩]⟩
theorem ya{inp:List (L8)} : ∀ (l1 l2:List TOp) (out:List L8),runF inp (l1++l2) out=if(runF inp l1 out).2≠0 then([],(runF inp l1 out).2) else runF inp l2 (runF inp l1 out).1
 | [],l2,out=>by simp [runF]
 | o::l1,l2,out=>by
  by_cases h:(qp inp out o).2=0
  ·have e1:∀ l:List TOp,runF inp (o::l) out=runF inp l (out++[(qp inp out o).1]):=λl=>by rw [runF,aO (λg=>g h)]
   rw [List.cons_append,e1,e1,ya l1 l2]
  ·have e1:∀ l:List TOp,runF inp (o::l) out=([],(qp inp out o).2):=λl=>by rw [runF,aP h]
   rw [List.cons_append,e1,e1,aP h]
theorem zac{inp pre out:List (L8)}{n:Int}{o:TOp}(h:okOp n out.length o=true):qp inp (pre++out) (shO pre.length o)=qp inp out o:=by
 unfold shO;rcases yv h with ⟨g,_⟩ | ⟨g,_⟩ | ⟨g,g1,g2,g3,g4,_⟩
 ·rw [aO (by omega)]; unfold qp; rw [aP g,aP g]
 ·rw [aO (by omega)]; unfold qp; rw [aO (show ¬ o.kind=1 by omega),aP g,aO (show ¬ o.kind=1 by omega),aP g]
 ·rw [aP (by omega)];unfold qp;simp only;rw [aO (show ¬ o.kind=1 by omega),aO (show ¬ o.kind=2 by omega),aO (show ¬ o.kind=1 by omega),aO (show ¬ o.kind=2 by omega)]
  have e1:(pre++out).getD (o.a+(pre.length:Int)).toNat []=out.getD o.a.toNat []:=by
   have:(o.a+(pre.length:Int)).toNat=pre.length+o.a.toNat:=by omega
   rw [this]; simp only [List.getD]; rw [List.getElem?_append_right (by omega)]; congr 2; omega
  have e2:(pre++out).getD (o.b+(pre.length:Int)).toNat []=out.getD o.b.toNat []:=by
   have:(o.b+(pre.length:Int)).toNat=pre.length+o.b.toNat:=by omega
   rw [this]; simp only [List.getD]; rw [List.getElem?_append_right (by omega)]; congr 2; omega
  rw [e1,e2]
theorem zbo{inp pre:List (L8)}{n:Int} : ∀ (l:List TOp) (out:List L8),jG n out.length l->runF inp (l.map (shO pre.length)) (pre++out)=if(runF inp l out).2≠0 then([],(runF inp l out).2) else(pre++(runF inp l out).1,0)
 | [],out,_=>by simp [runF]
 | o::l,out,h=>by
  obtain⟨h1,h2⟩:=h;by_cases g:(qp inp out o).2=0
  ·have e1:runF inp (o::l) out=runF inp l (out++[(qp inp out o).1]):=by rw [runF,aO (λq=>q g)]
   have e2:runF inp ((o::l).map (shO pre.length)) (pre++out)=runF inp (l.map (shO pre.length)) (pre++out++[(qp inp out o).1]):=by rw [List.map_cons,runF,zac h1,aO (λq=>q g)]
   rw [e1,e2,List.append_assoc,zbo l _ (by simpa using h2)]
  ·have e1:runF inp (o::l) out=([],(qp inp out o).2):=by rw [runF,aP g]
   have e2:runF inp ((o::l).map (shO pre.length)) (pre++out)=([],(qp inp out o).2):=by rw [List.map_cons,runF,zac h1,aP g]
   rw [e1,e2,aP g]
theorem ki{n:Int} : ∀ (l1 l2:List TOp) (k:Nat),jG n k l1->jG n (k+l1.length) l2->jG n k (l1++l2)
 | [],l2,k,_,h=>by simpa using h
 | o::l1,l2,k,h1,h=>by
  refine⟨h1.1,ki l1 l2 (k+1) h1.2 ?_⟩;have:k+1+l1.length=k+(o::l1).length:=by simp; omega
  rw [this]; exact h
theorem zlf{n:Int}{k m:Nat}{o:TOp}(h:okOp n k o=true):okOp n (m+k) (shO m o)=true:=by
 unfold shO;rcases yv h with ⟨g,g1,g2,g3,g4⟩ | ⟨g,g1,g2,g3⟩ | ⟨g,g1,g2,g3,g4,g5⟩
 ·rw [aO (by omega)]; unfold okOp; rw [aP g]; simp [g1,g2,g3,g4]
 ·rw [aO (by omega)]; unfold okOp; rw [aO (show ¬ o.kind=1 by omega),aP g]; simp [g1,g2,g3]
 ·rw [aP (by omega)]; unfold okOp; simp only; rw [aO (show ¬ o.kind=1 by omega),aO (show ¬ o.kind=2 by omega),aP (show 3<=o.kind/\o.kind<=6 by omega)];simp only [g5,bA,aK];exact⟨⟨⟨by omega,by omega⟩,by omega,by omega⟩,trivial⟩
theorem Vq{n:Int}{m:Nat} : ∀ (l:List TOp) (k:Nat),jG n k l->jG n (m+k) (l.map (shO m))
 | [],_,_=>trivial
 | o::l,k,h=>⟨zlf h.1,Vq l (k+1) h.2⟩
theorem Ve{n:Int} : ∀ (l:List TOp) (k j:Nat),jG n k l->j<l.length->okOp n (k+j) (l.getD j TOp.nil)=true
 | [],_,_,_,h=>by simp at h
 | o::l,k,0,h,_=>h.1
 | o::l,k,j+1,h,hj=>by
  have:=Ve l (k+1) j h.2 (by simpa using hj);rw [show k+1+j=k+(j+1) by omega] at this;exact this
theorem Yn{t:Tp}(h:jG t.n 0 t.ops):u6 t t.ops.length=true:=by
 unfold u6;rw [bG];intro j hj;have:=Ve t.ops 0 j h (List.mem_range.1 hj);rw [Nat.zero_add] at this;exact this
theorem Uo{k:Int}{t u:Tp}(hk:k=3\/k=4)(ht:qP t=0)(hu:qP u=0)(hn:t.n=u.n)(hl:t.ops.length+u.ops.length<=400):qP (kr k t u)=0:=by
 obtain⟨a1,a2,a3,a4,a5⟩:=vd.1 ht;obtain⟨b1,b2,b3,b4,b5⟩:=vd.1 hu;refine vd.2 ⟨by simp [kr]; omega,a2,a3,by simp [kr]; omega,Yn ?_⟩;have f1:=vB a5 t.ops 0 List.drop_zero;have f2:=vB b5 u.ops 0 List.drop_zero;rw [<- hn] at f2;refine ki _ _ 0 (ki _ _ 0 f1 ?_) ⟨?_,trivial⟩
 ·have:=Vq (m:=t.ops.length) u.ops 0 f2;rw [Nat.add_zero] at this;rw [Nat.zero_add];exact this
 ·unfold okOp;simp only [bO,List.length_map,Nat.zero_add];rw [aO (show ¬ k=1 by omega),aO (show ¬ k=2 by omega),aP (show 3<=k/\k<=6 by omega)];simp only [bA,aK];exact⟨⟨⟨by omega,by omega⟩,by omega,by omega⟩,trivial⟩
theorem zi4{r:List L8×Int}(h:(jA r).2=0):r.2=0/\(jA r).1=r.1.getD (r.1.length - 1) []:=by
 unfold jA at h ⊢;by_cases g:r.2=0
 ·rw [aO (λq=>q g)]; exact⟨g,rfl⟩
 ·rw [aP g] at h; exact absurd h g
theorem Wm{k:Int}{t u:Tp}{x:List (L8)}(hk:k=3\/k=4)(ht:qP t=0)(hu:qP u=0)(hn:t.n=u.n)(hx:allQ x)(hxl:(x.length:Int)=t.n)(h1:(jA (runF x t.ops [])).2=0)(h2:(jA (runF x u.ops [])).2=0) :
  jA (runF x (kr k t u).ops [])=arR k (jA (runF x t.ops [])).1 (jA (runF x u.ops [])).1:=by
 obtain⟨a1,a2,a3,a4,a5⟩:=vd.1 ht;obtain⟨b1,b2,b3,b4,b5⟩:=vd.1 hu;obtain⟨q1,_⟩:=uP ht hxl hx h1;obtain⟨q2,_⟩:=uP hu (by rw [<- hn]; exact hxl) hx h2;obtain⟨e1,l1⟩:=zi4 h1;obtain⟨e2,l2⟩:=zi4 h2;have f1:=vB a5 t.ops 0 List.drop_zero;have f2:=vB b5 u.ops 0 List.drop_zero;obtain⟨p1,_,n1⟩:=VA hx hxl t.ops [] _ (λ_ h=>absurd h (by simp)) f1 (show runF x t.ops []=((runF x t.ops []).1,0) by rw [<- e1]);obtain⟨p2,_,n2⟩:=VA hx (by rw [<- hn]; exact hxl) u.ops [] _ (λ_ h=>absurd h (by simp)) f2 (show runF x u.ops []=((runF x u.ops []).1,0) by rw [<- e2]);simp only [List.length_nil,Nat.zero_add] at n1 n2;rw [l1] at q1 ⊢;rw [l2] at q2 ⊢;have f3:=zbo (inp:=x) (pre:=(runF x t.ops []).1) u.ops [] f2;rw [aO (λq=>q e2),List.append_nil] at f3;rw [n1] at f3
 have er:runF x (kr k t u).ops []=runF x [⟨k,(t.ops.length:Int) - 1,(t.ops.length:Int)+u.ops.length - 1,[]⟩] ((runF x t.ops []).1++(runF x u.ops []).1):=by
  unfold kr;simp only
  have g:runF x (t.ops++u.ops.map (shO t.ops.length)) []=((runF x t.ops []).1++(runF x u.ops []).1,0):=by
   rw [ya,aO (λq=>q e1),f3]
  rw [ya,g,aO (by simp)]
 rw [er];generalize hr:(runF x t.ops []).1=r at *
 generalize hs:(runF x u.ops []).1=s at *
 rw [runF]
 have es:qp x (r++s) ⟨k,(t.ops.length:Int) - 1,(t.ops.length:Int)+u.ops.length - 1,[]⟩=arR k (r.getD (r.length - 1) []) (s.getD (s.length - 1) []):=by
  unfold qp;simp only;rw [aO (show ¬ k=1 by omega),aO (show ¬ k=2 by omega)];have c1:((t.ops.length:Int) - 1).toNat=r.length - 1:=by omega
  have c2:((t.ops.length:Int)+u.ops.length - 1).toNat=r.length+(s.length - 1):=by omega
  rw [c1,c2];congr 1
  ·simp only [List.getD]; rw [bL (by omega)]
  ·simp only [List.getD]; rw [List.getElem?_append_right (by omega)]; congr 2; omega
 rw [es];by_cases g:(arR k (r.getD (r.length - 1) []) (s.getD (s.length - 1) [])).2=0
 ·rw [aO (λq=>q g),runF];unfold jA;simp only;rw [aO (by simp)]
  have:(r++s++[(arR k (r.getD (r.length - 1) []) (s.getD (s.length - 1) [])).1]).getD ((r++s++[(arR k (r.getD (r.length - 1) []) (s.getD (s.length - 1) [])).1]).length - 1) []=(arR k (r.getD (r.length - 1) []) (s.getD (s.length - 1) [])).1:=by
   simp [List.getD]
  rw [this,<- g]
 ·rw [aP g];unfold jA;simp only;rw [aP g];exact Prod.ext (zl3 q1 q2 g).symm rfl
theorem X1{k:Int}{a b:L8}(hk:k=3\/k=4)(ha:errR a=0)(hb:errR b=0):(arR k a b).2=14\/(arR k a b).2=0:=by
 unfold arR;rcases hk with g | g
 ·rw [aP g]; rcases KC ha hb with h | ⟨h,_⟩<;>rw [h]<;>simp
 ·rw [aO (show ¬ k=3 by omega),aP g]; rcases VB ha hb with h | ⟨h,_⟩<;>rw [h]<;>simp
theorem zk2{k:Int}{t u:Tp}{inp:List (L8)}{i:Int}{h:L8}(hk:k=3\/k=4)(hn:t.n=u.n)(hl:t.ops.length+u.ops.length<=400)(h1:(jN t inp i h).2=0)(h2:(jN u inp i h).2=0)
  (h3:(arR k (jN t inp i h).1 (jN u inp i h).1).2=0):(jN (kr k t u) inp i h).2=14\/(jN (kr k t u) inp i h).2=0/\(jN (kr k t u) inp i h).1=(arR k (jN t inp i h).1 (jN u inp i h).1).1:=by
 obtain⟨D,r1,r2⟩:=QK h1;obtain⟨E,s1,s2⟩:=QK h2;have hc:=Uo hk D.c E.c hn hl
 have beg:∀ {v:Tp},(jN v inp i h).2=0->begT v inp [i] h=0/\(atT v inp h [i]).2=0:=by
  intro v hv
  have hb:begT v inp [i] h=0:=by
   refine bM λg=> ?_
   unfold jN at hv;rw [aP g] at hv;exact g hv
  refine⟨hb,?_⟩;unfold jN at hv;rw [aO (λq=>q hb)] at hv;have:=(zak (zn3 hv).1).1;unfold ZU at this;exact(zak this).1
 obtain⟨g1,g2⟩:=beg h1;obtain⟨g3,g4⟩:=beg h2;obtain⟨_,v1,v2⟩:=Vt g1;obtain⟨_,w1,w2⟩:=Vt g3;have v0:=(zhc g1).1;have w0:=(zhc g3).1;have DJ:Dok (kr k t u) inp [i] h:=⟨hc,D.n,D.q,D.l,D.h0,D.hq⟩
 have ev:q5 (kr k t u) inp=arR k (q5 t inp).1 (q5 u inp).1:=by
  have x1:=Qn D.c D.n D.q;have x2:=Qn E.c E.n E.q;rw [Qn hc DJ.n DJ.q,x1,x2];exact Wm hk D.c E.c hn D.q D.n (by rw [<- x1]; exact v0) (by rw [<- x2]; exact w0)
 by_cases hv:(q5 (kr k t u) inp).2=0
 ·have il:=D.l i (by simp);have hil:i.toNat<inp.length:=by have:=D.n; omega
  have f0:(addR (inp.getD i.toNat []) h).2=0:=by
   rcases KC (jU D.q hil) D.h0 with g | ⟨g,_⟩
   ·rw [zog (by rw [g])] at g2; cases g2
   ·rw [g]
  obtain⟨x1,x2⟩:=uz (jU D.q hil) D.h0 f0
  have ea:atT (kr k t u) inp h [i]=arR k (atT t inp h [i]).1 (atT u inp h [i]).1:=by
   have y1:atT t inp h [i]=_:=at_one f0;have y2:atT u inp h [i]=_:=at_one f0;rw [at_one f0,y1,y2];exact Wm hk D.c E.c hn (KI D.q x1 _) (by simpa using D.n) (by rw [<- y1]; exact g2) (by rw [<- y2]; exact g4)
  obtain⟨a1,a2⟩:=JQ D.h0 D.c D.n D.q D.l g2;obtain⟨b1,b2⟩:=JQ D.h0 E.c E.n E.q E.l g4;rcases zfc DJ hv (by rw [ea]; exact X1 hk a1 b1) with g | g
  ·exact .inl g
  ·right;obtain⟨_,z1,z2⟩:=QK g;obtain⟨g5,g6⟩:=beg g;obtain⟨m1,m2⟩:=JQ D.h0 hc DJ.n DJ.q DJ.l g6;obtain⟨_,n1,n2⟩:=Vt g5;have c1:=zc0 a1 b1 (k:=k) (by rw [<- ea]; exact g6);have c2:=zc0 v1 w1 (k:=k) (by rw [<- ev]; exact hv);have c3:=zc0 r1 s1 h3;rw [<- ea,m2,a2,b2] at c1;rw [<- ev,n2,v2,w2] at c2;refine⟨g,zh5 z1 (zgs r1 s1 h3) ?_⟩;rw [z2,c1,c2,c3,r2,s2];have:=D.hq;unfold arQ;rcases hk with q | q
   ·simp only [q,if_true]; grind
   ·simp only [q]; simp only [show ¬ ((4:Int)=3) by decide,if_false,if_true]; grind
 ·left
  have hb:begT (kr k t u) inp [i] h=14:=by
   unfold begT;rw [aP hv];rcases X1 hk v1 w1 with g | g
   ·rw [ev]; exact g
   ·rw [ev] at hv; exact absurd g hv
  unfold jN;rw [aP (by rw [hb]; decide),hb]
end Go.Nov
end
section
set_option maxRecDepth 100000
open Go Go.Sx Go.Proofs Go.Nov
namespace Go.Proofs.Tryz
attribute [local simp] eqKV eqA eqA0 eqH eqB eqL eqL0
end Go.Proofs.Tryz
end
section
namespace Go.Nov
theorem zom{l:List Nat}(h:∀ p,p<l.length->l.getD p 0<10):Ten.dig l:=by
 intro d hd;obtain⟨i,hi,rfl⟩:=List.getElem_of_mem hd;have:=h i hi;simpa [List.getD,hi] using this
theorem zk5{l:List Nat}{n:Nat}(hn:l.length=n+1)(h:∀ p,p<n->l.getD p 0<10)(hv:Ten.val l<10^(n+1)):Ten.dig l:=by
 refine zom λp hp=> ?_
 rcases aR p n with h1 | h1
 ·exact h p h1
 ·have:p=n:=by omega
  subst this;have e:=Ten.zk l p;rw [bF (by omega)] at e;rw [Nat.pow_succ] at hv;rcases aR (l.getD p 0) 10 with h2 | h2
  ·exact h2
  ·have:10^p*10<=10^p*l.getD p 0:=aS _ h2;have hB:Ten.B=10:=rfl;rw [hB] at e;omega
def zai(p:List Nat×List Nat)(r:List Nat):Prop:=r.length=max p.1.length p.2.length+1/\Ten.dig r/\Ten.val r=Ten.val p.1+Ten.val p.2
theorem zh6{l m o:List Nat}{c n:Nat}(hl:Ten.dig l)(hm:Ten.dig m)(hn:n=max l.length m.length+1)(he:Ten.val o+10^n*c=Ten.val (l.take n)+Ten.val (m.take n)):Ten.val o=Ten.val l+Ten.val m:=by
 rw [bF (by omega),bF (by omega)] at he;have h1:=Ten.zK hl;have h2:=Ten.zK hm;have hB:Ten.B=10:=rfl;rw [hB] at h1 h2;have h3:10^l.length<=10^(max l.length m.length):=bW (by decide) (by omega);have h4:10^m.length<=10^(max l.length m.length):=bW (by decide) (by omega);have h5:10^n=10^(max l.length m.length)*10:=by rw [hn,Nat.pow_succ]
 rcases bC c with h | h
 ·rw [h] at he; omega
 ·have:10^n*1<=10^n*c:=aS _ h;omega
theorem zao{l m:List Nat}(hl:Ten.dig l)(hm:Ten.dig m):∃ r,zai (l,m) r:=by
 have h1:=Ten.zK hl;have h2:=Ten.zK hm;have hB:Ten.B=10:=rfl;rw [hB] at h1 h2;have h3:10^l.length<=10^(max l.length m.length):=bW (by decide) (by omega);have h4:10^m.length<=10^(max l.length m.length):=bW (by decide) (by omega);have h5:10^(max l.length m.length+1)=10^(max l.length m.length)*10:=Nat.pow_succ _ _;exact⟨decs (max l.length m.length+1) (Ten.val l+Ten.val m),vc _ _,kL _ _,kT _ _ (by omega)⟩
theorem UO{vo vl vm p a b c d c':Nat}(h:vo+p*c=vl+vm)(hd:d+10*c'=a+b+c):vo+p*d+p*10*c'=vl+p*a+(vm+p*b):=by
 have:=congrArg (p * ·) hd;simp only [bN] at this;rw [bI];omega
def Ko(p:List Nat×List Nat)(r:List Nat):Prop:=r.length=p.1.length+p.2.length/\Ten.dig r/\Ten.val r=Ten.val p.1*Ten.val p.2
theorem zb2{l m:List Nat}(hl:Ten.dig l)(hm:Ten.dig m):Ten.val l*Ten.val m<10^(l.length+m.length):=by
 have h1:=Ten.zK hl;have h2:=Ten.zK hm;have hB:Ten.B=10:=rfl;rw [hB] at h1 h2;rw [Nat.pow_add];exact Nat.mul_lt_mul_of_lt_of_lt h1 h2
theorem zgf{l m:List Nat}(hl:Ten.dig l)(hm:Ten.dig m):∃ r,Ko (l,m) r:=
 ⟨decs (l.length+m.length) (Ten.val l*Ten.val m),vc _ _,kL _ _,kT _ _ (zb2 hl hm)⟩
theorem zfw{o:List Nat}{i j V a vt b:Nat}(hp:i+j<o.length)(h:Ten.val o=V+10^i*(a*vt)):Ten.val (o.set (i+j) (o.getD (i+j) 0+a*b))=V+10^i*(a*(vt+10^j*b)):=by
 have hs:=Ten.kB o (i+j) (o.getD (i+j) 0+a*b) hp;have hB:Ten.B=10:=rfl;rw [hB,bN,Nat.pow_add] at hs
 have e:10^i*(a*(vt+10^j*b))=10^i*(a*vt)+10^i*10^j*(a*b):=by
  rw [bN,bN];congr 1;rw [bI,Nat.mul_left_comm a]
 rw [e];omega
theorem UF{o:List Nat}{i:Nat}(hi:i+1<o.length):Ten.val ((o.set (i+1) (o.getD (i+1) 0+o.getD i 0/10)).set i (o.getD i 0%10))=Ten.val o:=by
 have h1:=Ten.kB o (i+1) (o.getD (i+1) 0+o.getD i 0/10) hi;have h2:=Ten.kB (o.set (i+1) (o.getD (i+1) 0+o.getD i 0/10)) i (o.getD i 0%10) (by simp; omega)
 have e:(o.set (i+1) (o.getD (i+1) 0+o.getD i 0/10)).getD i 0=o.getD i 0:=by
  simp only [List.getD];rw [bS (by omega)]
 have hB:Ten.B=10:=rfl;rw [e,hB] at h2;rw [hB,bN,Nat.pow_succ] at h1;have hdm:=Nat.div_add_mod (o.getD i 0) 10
 have:10^i*o.getD i 0=10^i*10*(o.getD i 0/10)+10^i*(o.getD i 0%10):=by
  rw [bI,<- bN,hdm]
 omega
theorem wY{o:List Nat}{i p x:Nat}(hi:i<o.length):(o.set i x).getD p 0=if p=i then x else o.getD p 0:=by
 simp only [List.getD];by_cases h:p=i
 ·subst h; simp [hi]
 ·rw [bS (by omega),aO h]
end Go.Nov
end
section
namespace Go.Sx
variable [Stat]
section
variable {O:Nat->Prop} {pin:Nat} {w0:World} {I0:List SE} {P:Program} {fn:Func} {Xp:List PanicEntry->Prop}
def fstC:Code->Code
 | .seq a _=>a
 | c=>c
def sndC:Code->Code
 | .seq _ b=>b
 | c=>c
def blkC:Code->Code
 | .block _ c=>c
 | c=>c
def blkI:Code->Nat
 | .block i _=>i
 | _=>0
theorem zb.cut{M:Option Nat}{ι:Type}{Hs:Nat->KV->Heap->Prop}{R:List AV->Heap->Prop}{k:List Item}{c:Code}{st:St}(S:ι->KV)(H:ι->Heap)(dk:Nat)
  (h1:zA Xp M P fn O pin w0 I0 (λd kv h=>if d=dk then ∃ x,LeK pin fn.ntmps kv h (S x) (H x) else Hs d kv h) R (.code c::.inLoop::k) st) (hd:jy k=dk)
  (h2:∀ x,zA Xp M P fn O pin w0 I0 Hs R k (mk fn.ntmps (S x) (H x))):zA Xp M P fn O pin w0 I0 Hs R (.code c::k) st:=by
 subst hd;intro w σ a hm;have:=h1 w σ a hm;simp only [wpK] at this ⊢;refine wpIn_mono this λe a' w' he=> ?_
 cases e with
 | normal=>
  simp only [wpK] at he;obtain⟨st',Z',⟨kv,h,hh,rfl⟩,hm'⟩:=he;rw [aP trivial] at hh;obtain⟨x,hle⟩:=hh;exact h2 x w' _ a' (hle.le.mod hm')
 | _=>
  simp only [wpK] at he;refine jh (λd a w hd hh=> ?_) he;obtain⟨st',Z',⟨kv,h,hh,rfl⟩,hm'⟩:=hh;rw [aO (by omega)] at hh;exact⟨_,Z',⟨kv,h,hh,rfl⟩,hm'⟩
theorem zb.seq{M:Option Nat}{Hs:Nat->KV->Heap->Prop}{R:List AV->Heap->Prop}{k:List Item}{c:Code}{st:St}(hc:c = .seq (fstC c) (sndC c))
  (h:zA Xp M P fn O pin w0 I0 Hs R (.code (fstC c)::.code (sndC c)::k) st):zA Xp M P fn O pin w0 I0 Hs R (.code c::k) st:=by
 rw [hc];generalize fstC c=a at h;generalize sndC c=b at h;intro w σ act hm;have:=h w σ act hm;simp only [wpK] at this ⊢;refine wpIn_seq (wpIn_mono this λe a w h=> ?_);cases e<;>exact h
theorem zb.block{M:Option Nat}{Hs:Nat->KV->Heap->Prop}{R:List AV->Heap->Prop}{k:List Item}{c:Code}{st:St}(hc:c = .block (blkI c) (blkC c))
  (h:zA Xp M P fn O pin w0 I0 Hs R (.code (blkC c)::.inBlock (blkI c)::k) st):zA Xp M P fn O pin w0 I0 Hs R (.code c::k) st:=by
 rw [hc];generalize blkC c=a at h;generalize blkI c=i at h;intro w σ act hm;have:=h w σ act hm;simp only [wpK] at this ⊢;refine wpIn_block (wpIn_mono this λe a w h=> ?_);cases e<;>exact h
end
end Go.Sx
end
section
set_option maxRecDepth 100000
open Go Go.Sx Go.Proofs Go.Nov
namespace Go.Proofs.Tryz
attribute [local simp] eqKV eqA eqA0 eqH eqB eqL eqL0
noncomputable def K153:=Go.Sx.aA f153
noncomputable def K155:=Go.Sx.aA f155
def zi5:Ctr:=ctrP true (λp:List Nat×List Nat=>[nat6 p.1,nat6 p.2]) (λp=>Ten.dig p.1/\Ten.dig p.2/\p.1.length<2^30/\p.2.length<2^30) zai (λ_ r=>(nat6 r,[]))
def SPp(l m o:List Nat)(c i:Nat):KV:=[(0,nat6 l),(1,nat6 m),(5,.osl 0 1 0 o.length),(6,.i (c:Int)),(7,.i (i:Int))]
noncomputable def GPp:=tb zmr tz
theorem zjs:zc prog 153 zi5:=by
 refine ze' f153 λp hp O w0 Q hq=> ?_
 obtain⟨l,m⟩:=p;obtain⟨hl,hm,hll,hml⟩:=hp;simp only at hq hl hm hll hml;refine zb.n GPp.h [0,1,5,6,7] (.leaf (.loop (lps K153 0).1 (lps K153 0).2 [(0,.sl l.length 1 (natG .i64 l)),(1,.sl m.length 1 (natG .i64 m)),(5,.nils),(6,.i 0),(7,.i 0)] [])) ?_;simp only [Tree.holds,zd,inR,lo,hi,aD];refine zb.bear 5 1 (natG .i64 []) rfl (by decide) (by kernel_rfl) ?_;refine zb.loop (ι:={z:List Nat×Nat×Nat // z.1.length=z.2.2/\z.2.2<=max l.length m.length+1/\Ten.dig z.1/\z.2.1<=1/\Ten.val z.1+10^z.2.2*z.2.1=Ten.val (l.take z.2.2)+Ten.val (m.take z.2.2)}) (λz=>SPp l m z.1.1 z.1.2.1 z.1.2.2) (λz=>[.arr z.1.1.length 1 (natG .i64 z.1.1)]) (λz=>max l.length m.length+1 - z.1.2.2) ⟨([],0,0),rfl,aI _,by simp [Ten.dig],aI _,by simp [Ten.val]⟩ 0 ?_ ?_ (by kernel_rfl)
 ·refine⟨by simp [SPp,natS,za,yc],by simp [za],by kernel_rfl,aI _⟩
 ·rintro⟨⟨o,b,i⟩,hol,hil,hod,hb,hv⟩;refine zb.n GPp.h [0,1,5,6,7] (.D ((i:Int)<=max (l.length:Int) (m.length:Int)) (.ex (q20 [.sl l.length 1 (natG .i64 l),.i i]) λn=>.all (λ(r:Nat)=>r=List.getD n.1 n.2 0) λn=>.ex (q20 [.sl m.length 1 (natG .i64 m),.i i]) λn_1=>.all (λ(r:Nat)=>r=List.getD n_1.1 n_1.2 0) λn_2=>let v2:=Int.tdiv ((n:Int)+n_2+(b:Int)) (10:Int);let v1:=zg 1 [.i (Int.tmod ((n:Int)+n_2+(b:Int)) (10:Int))];.S ((n:Int)+n_2) (.S ((n:Int)+n_2+(b:Int)) (.side ((10:Int)≠0) (.side (0=0/\o.length<=o.length/\(o.length+1)*8<=140737488355328) (.side ((10:Int)≠0/\inR .i64 v2) (.S (i+1) (.leaf (.back 0 [(0,.sl l.length 1 (natG .i64 l)),(1,.sl m.length 1 (natG .i64 m)),(5,.osl 0 1 0 (o.length+1)),(6,.i v2),(7,.i (i+1))] [.arr (o.length+1) 1 (appG o.length (natG .i64 o) (zf v1 0)),.arr 1 1 v1])))))))) (.R [.osl 0 1 0 o.length] [.arr o.length 1 (natG .i64 o)])) ?_;simp only [q20,Tree.holds,zd,inR,lo,hi,aD];simp only at hol hil hod hb hv;refine⟨λhlt=> ?_,λhge=> ?_⟩
  ·have hlt:i<=max l.length m.length:=by have:=aB hlt; omega
   refine⟨(l,i),⟨by simp [za],trivial⟩,⟨_,rfl⟩,?_⟩;rintro _ rfl;refine⟨(m,i),⟨by simp [za],trivial⟩,⟨_,rfl⟩,?_⟩;rintro _ rfl;simp only;have h1:l.getD i 0<10:=Ten.zC hl i;have h2:m.getD i 0<10:=Ten.zC hm i
   have step:∀ d b',d+10*b'=l.getD i 0+m.getD i 0+b->Ten.val (o++[d])+10^(i+1)*b'=Ten.val (l.take (i+1))+Ten.val (m.take (i+1)):=by
    intro d b' h;rw [Ten.zB,Ten.zk,Ten.zk,hol,Nat.pow_succ];have:=UO hv h;simpa [Ten.val] using this
   obtain⟨x,hx⟩:∃ x,l.getD i 0=x:=⟨_,rfl⟩;obtain⟨y,hy⟩:∃ y,m.getD i 0=y:=⟨_,rfl⟩;simp only [hx,hy] at h1 h2 step ⊢;obtain⟨v,hvv⟩:∃ v,x+y+b=v:=⟨_,rfl⟩;have ev:(x:Int)+(y:Int)+(b:Int)=(v:Int):=by clear step; omega
   have ed:((v:Int)).tdiv 10=((v/10:Nat):Int):=rfl;have em:((v:Int)).tmod 10=((v%10:Nat):Int):=rfl;have hv2:v/10<=1/\v%10<10/\v%10+10*(v/10)=v:=⟨by clear step; omega,Nat.mod_lt _ (by decide),Nat.mod_add_div _ _⟩;obtain⟨g1,g2,g3⟩:=hv2;rw [ev,ed,em];have hstep:=step (v%10) (v/10) (by rw [g3,hvv]);clear step;generalize v/10=q at *
   generalize v%10=r at *
   refine⟨by omega,λ_=>⟨by omega,λ_=>⟨by decide,λ_=>⟨⟨trivial,aJ _,by omega⟩,λ_=>⟨⟨by decide,by omega,by omega⟩,λ_=>⟨by omega,λ_=> ?_⟩⟩⟩⟩⟩⟩;rw [aP trivial];refine⟨⟨(o++[r],q,i+1),by simp [hol],by simp only; omega,Ten.qj.2 ⟨hod,by simp only [Ten.dig,List.mem_singleton]; rintro _ rfl; exact g2⟩,g1,hstep⟩,by show max l.length m.length+1 - (i+1)<_; omega,by simp [SPp,natS,za],qO rfl,by kernel_rfl,aI _⟩
  ·have hge:i=max l.length m.length+1:=by have:=aC hge; omega
   exact RetR.nats (hq o ⟨by rw [hol,hge],hod,zh6 hl hm hge hv⟩) rfl
def Vw:Ctr:=ctrP true (λp:List Nat×List Nat=>[nat6 p.1,nat6 p.2]) (λp=>Ten.dig p.1/\Ten.dig p.2/\0<p.1.length/\0<p.2.length/\p.1.length<2^30/\p.2.length<2^30) Ko (λ_ r=>(nat6 r,[]))
def STm(l m o:List Nat)(i:Nat):KV:=[(0,nat6 l),(1,nat6 m),(5,.osl 0 1 0 o.length),(6,.i (i:Int)),Z 7,Z 8]
def STm2(l m o:List Nat)(i j:Nat):KV:=[(0,nat6 l),(1,nat6 m),(5,.osl 0 1 0 o.length),(6,.i (i:Int)),(7,.i (j:Int)),Z 8]
def STm3(o:List Nat)(i:Nat):KV:=[Z 0,Z 1,(5,.osl 0 1 0 o.length),Z 6,Z 7,(8,.i (i:Int))]
theorem Ws{o:List Nat}{i:Nat}{v:Int}{x:Nat}(hv:v=x)(hi:i<o.length):eqG o.length 1 (updG (natG .i64 o) i 0 [.i v]) (natG .i64 (o.set i x)):=by
 have:=wM (k:=.i64) (l:=o) (v:=v) (by omega) hi;subst hv;simpa using this
theorem XE{O:Nat->Prop}{w0:World}{Q:AV×Heap->Prop}{Hs:Nat->KV->Heap->Prop}(l m o0:List Nat)(hl:Ten.dig l)(hm:Ten.dig m)(hll:0<l.length)(hml:0<m.length)(hl2:l.length<2^30)(hm2:m.length<2^30)(hlen:o0.length=l.length+m.length)(hv:Ten.val o0=Ten.val l*Ten.val m)(hb:∀ p,o0.getD p 0<=81*2^30)
  (hq:∀ r,Ko (l,m) r->Q (nat6 r,[])) (kv:KV) (h:Heap) (hle:LeK 0 f155.ntmps kv h (STm3 o0 0) [.arr o0.length 1 (natG .i64 o0)]) :
  zb prog f155 O 0 w0 [] Hs (RetR Vw 0 Q) (.code (.loop (lps (inside K155 0) 1).1)::(lps (inside K155 0) 1).2) (mk f155.ntmps kv h):=by
 refine zb.loop (ι:={z:List Nat×Nat // z.1.length=l.length+m.length/\z.2<l.length+m.length/\Ten.val z.1=Ten.val l*Ten.val m/\(∀ p,p<z.2->z.1.getD p 0<10)/\(∀ p,z.2<p->z.1.getD p 0<=81*2^30)/\z.1.getD z.2 0<=2*(81*2^30)}) (λz=>STm3 z.1.1 z.1.2) (λz=>[.arr z.1.1.length 1 (natG .i64 z.1.1)]) (λz=>l.length+m.length - z.1.2) ⟨(o0,0),hlen,by simp only; omega,hv,λp hp=>by simp at hp,λp _=>hb p,by have:=hb 0; simp only; omega⟩ 0 hle ?_ (by kernel_rfl);rintro⟨⟨o,i⟩,hol,hil,hov,h10,hM,h2M⟩;simp only at hol hil hov h10 hM h2M;by_cases hlt:i+1<o.length
 ·refine zb.seq (by kernel_rfl) (zb.cut (ι:=Unit) (λ_=>STm3 o i) (λ_=>[.arr o.length 1 (natG .i64 o)]) 1 ?_ (by kernel_rfl) λ_=> ?_)
  ·refine zb.n zq [0,1,5,6,7,8] (.S (i+1) (.D ((i:Int)+(1:Int)<o.length) (.leaf (.back 1 [Z 0,Z 1,(5,.osl 0 1 0 o.length),Z 6,Z 7,(8,.i i)] [.arr o.length 1 (natG .i64 o)])) (.R [.osl 0 1 0 o.length] [.arr o.length 1 (natG .i64 o)]))) ?_;simp only [Tree.holds,zd,inR,lo,hi,aD];refine⟨by omega,λ_=>⟨λ_=> ?_,λhno=>absurd (aC hno) (by omega)⟩⟩;rw [aP trivial];exact⟨(),by simp [STm3],by simp [za],by kernel_rfl,aI _⟩
  have hx:o.getD i 0/10<=o.getD i 0:=Nat.div_le_self _ _;have hnext:=hM (i+1) (by omega);have c1:((i:Int)+1)=((i+1:Nat):Int):=by omega
  have hl1:(o.set (i+1) (o.getD (i+1) 0+o.getD i 0/10)).length=o.length:=by simp
  refine zb.seq (by kernel_rfl) (zb.block (by kernel_rfl) (zb.seq (by kernel_rfl) (zb.cut (ι:=Unit) (λ_=>STm3 (o.set (i+1) (o.getD (i+1) 0+o.getD i 0/10)) i) (λ_=>[.arr (o.set (i+1) (o.getD (i+1) 0+o.getD i 0/10)).length 1 (natG .i64 (o.set (i+1) (o.getD (i+1) 0+o.getD i 0/10)))]) 1 ?_ (by kernel_rfl) λ_=> ?_)))
  ·refine zb.n zq [0,1,5,6,7,8] (let v1:=inR .i64 (i+1);.side v1 (.side v1 (.side ((0:Int)<=i+(1:Int)/\(i:Int)+(1:Int)<o.length) (.side ((0:Int)<=i/\(i:Int)<o.length) (.side ((10:Int)≠0/\inR .i64 (Int.tdiv (↑(o.getD (0+Int.toNat i) 0):Int) (10:Int))) (.S ((↑(o.getD (0+Int.toNat (i+1)) 0):Int)+Int.tdiv (↑(o.getD (0+Int.toNat i) 0):Int) (10:Int)) (.side ((0:Int)<=i+(1:Int)/\(i:Int)+(1:Int)<o.length) (.leaf (.back 1 [Z 0,Z 1,(5,.osl 0 1 0 o.length),Z 6,Z 7,(8,.i i)] [.arr o.length 1 (updG (natG .i64 o) (0+Int.toNat (i+1)) 0 [.i ((↑(o.getD (0+Int.toNat (i+1)) 0):Int)+Int.tdiv (↑(o.getD (0+Int.toNat i) 0):Int) (10:Int))])]))))))))) ?_;simp only [Tree.holds,zd,inR,lo,hi,c1,aD,Nat.zero_add];have ed:((o.getD i 0:Nat):Int).tdiv 10=((o.getD i 0/10:Nat):Int):=rfl;rw [ed];generalize ho1:o.getD (i+1) 0=x1 at *
   generalize ho0:o.getD i 0/10=x0 at *
   iterate 7 refine⟨by omega,λ_=> ?_⟩
   rw [aP trivial];refine⟨(),by simp [STm3],⟨⟨by simp,rfl,Ws (by omega) hlt⟩,trivial⟩,by kernel_rfl,aI _⟩
  obtain⟨o1,ho1⟩:∃ o1,o.set (i+1) (o.getD (i+1) 0+o.getD i 0/10)=o1:=⟨_,rfl⟩;have hcar:=UF hlt;have g0:o1.getD i 0=o.getD i 0:=by rw [<- ho1,wY hlt,aO (by omega)]
  have g1:o1.getD (i+1) 0=o.getD (i+1) 0+o.getD i 0/10:=by rw [<- ho1,wY hlt,aP rfl]
  have gn:∀ p,p≠i+1->o1.getD p 0=o.getD p 0:=λp hp=>by rw [<- ho1,wY hlt,aO hp]
  have hl2':o1.length=o.length:=by rw [<- ho1]; simp
  rw [ho1] at hcar ⊢;rw [<- g0] at hcar;refine zb.n zq [0,1,5,6,7,8] (.side ((0:Int)<=i/\(i:Int)<o1.length) (.side ((10:Int)≠0) (.side ((0:Int)<=i/\(i:Int)<o1.length) (.S (i+1) (.leaf (.back 0 [Z 0,Z 1,(5,.osl 0 1 0 o1.length),Z 6,Z 7,(8,.i (i+1))] [.arr o1.length 1 (updG (natG .i64 o1) (0+Int.toNat i) 0 [.i (Int.tmod (↑(o1.getD (0+Int.toNat i) 0):Int) (10:Int))])])))))) ?_;simp only [Tree.holds,zd,inR,lo,hi,c1,aD,Nat.zero_add];have em:((o1.getD i 0:Nat):Int).tmod 10=((o1.getD i 0%10:Nat):Int):=rfl;rw [em];have hm10:o1.getD i 0%10<10:=Nat.mod_lt _ (by decide)
  iterate 4 refine⟨by first | omega | decide,λ_=> ?_⟩
  rw [aP trivial];refine⟨⟨(o1.set i (o1.getD i 0%10),i+1),by simp [hl2',hol],by omega,by rw [hcar]; exact hov,λp hp=> ?_,λp hp=> ?_,?_⟩,by show _ - (i+1)<_ - i; omega,by simp [STm3],⟨⟨by simp,rfl,Ws rfl (by omega)⟩,trivial⟩,by kernel_rfl,aI _⟩
  ·show(o1.set i _).getD p 0<10;rw [wY (by omega)];split
   ·exact hm10
   ·rw [gn p (by have:p<i+1:=hp; omega)]; exact h10 p (by have:p<i+1:=hp; omega)
  ·have hp:i+1<p:=hp;show(o1.set i _).getD p 0<=_;rw [wY (by omega),aO (by omega),gn p (by omega)];exact hM p (by omega)
  ·show(o1.set i _).getD (i+1) 0<=_;rw [wY (by omega),aO (by omega),g1];have:o.getD i 0/10<=2*(81*2^30)/10:=Nat.div_le_div_right h2M;omega
 ·refine zb.seq (by kernel_rfl) (zb.cut (ι:={x:Unit // False}) (λ_=>[]) (λ_=>[]) 1 ?_ (by kernel_rfl) λx=>x.2.elim)
  ·refine zb.n zq [0,1,5,6,7,8] (.S (i+1) (.D ((i:Int)+(1:Int)<o.length) (.leaf (.back 1 [Z 0,Z 1,(5,.osl 0 1 0 o.length),Z 6,Z 7,(8,.i i)] [.arr o.length 1 (natG .i64 o)])) (.R [.osl 0 1 0 o.length] [.arr o.length 1 (natG .i64 o)]))) ?_;simp only [Tree.holds,zd,inR,lo,hi,aD];refine⟨by omega,λ_=>⟨λhno=>absurd (aB hno) (by omega),λ_=> ?_⟩⟩;refine RetR.nats (hq o ⟨hol,zk5 (n:=i) (by omega) h10 ?_,hov⟩) rfl;rw [hov];have:=zb2 hl hm;rw [show i+1=l.length+m.length by omega];exact this
theorem zd5{o:List Nat}{v:Int}{i d i':Nat}(hv:v=d)(hi:i<o.length)(hi':i'=i):eqH [.arr o.length 1 (updG (natG .i64 o) i' 0 [.i v])] [.arr (o.set i d).length 1 (natG .i64 (o.set i d))]:=heap_set hv hi hi'
theorem zdc:zc prog 155 Vw:=by
 refine ze' f155 λp hp O w0 Q hq=> ?_
 obtain⟨l,m⟩:=p;obtain⟨hl,hm,hll,hml,hl2,hm2⟩:=hp;simp only at hq hl hm hll hml hl2 hm2;refine zb.n zq [0,1,5,6,7,8] (let v1:=Int.toNat ((l.length:Int)+m.length);.S ((l.length:Int)+m.length) (.side ((0:Int)<=l.length+(m.length:Int)/\(l.length:Int)+m.length<=(l.length:Int)+m.length/\inR .i64 ((l.length:Int)+m.length)/\Int.toNat ((l.length:Int)+m.length)*8<=140737488355328) (.leaf (.loop (lps K155 0).1 (lps K155 0).2 [(0,.sl l.length 1 (natG .i64 l)),(1,.sl m.length 1 (natG .i64 m)),(5,.osl 0 1 0 v1),(6,.i 0),Z 7,Z 8] [.arr v1 1 (kz [.i 0])])))) ?_;have es:((l.length:Int)+(m.length:Int))=((l.length+m.length:Nat):Int):=by omega
 simp only [Tree.holds,zd,inR,lo,hi,es,aD];refine⟨by omega,λ_=>⟨by omega,λ_=> ?_⟩⟩
 have hrep:∀ p,(List.replicate (l.length+m.length) 0).getD p 0=0:=λp=>by
  simp only [List.getD,List.getElem?_replicate];split<;>rfl
 refine zb.loop (ι:={z:List Nat×Nat // z.1.length=l.length+m.length/\z.2<=l.length/\Ten.val z.1=Ten.val (l.take z.2)*Ten.val m/\∀ p,z.1.getD p 0<=81*z.2}) (λz=>STm l m z.1.1 z.1.2) (λz=>[.arr z.1.1.length 1 (natG .i64 z.1.1)]) (λz=>l.length - z.1.2) ⟨(List.replicate (l.length+m.length) 0,0),by simp,aI _,by simp [Ten.qF,Ten.val],λp=>by simp only [hrep]; exact aI _⟩ 0 ?_ ?_ (by kernel_rfl)
 ·exact⟨by simp [STm,natS,za],by simp [yx],by kernel_rfl,aI _⟩
 rintro⟨⟨o,i⟩,hol,hil,hov,hob⟩;simp only at hol hil hov hob;refine zb.n zq [0,1,5,6,7,8] (let v1:=inside K155 0;.D ((i:Int)<l.length) (.leaf (.loop (lps v1 0).1 (lps v1 0).2 [(0,.sl l.length 1 (natG .i64 l)),(1,.sl m.length 1 (natG .i64 m)),(5,.osl 0 1 0 o.length),(6,.i i),(7,.i 0),Z 8] [.arr o.length 1 (natG .i64 o)])) (.leaf (.loop (lps v1 1).1 (lps v1 1).2 [(0,.sl l.length 1 (natG .i64 l)),(1,.sl m.length 1 (natG .i64 m)),(5,.osl 0 1 0 o.length),(6,.i i),Z 7,(8,.i 0)] [.arr o.length 1 (natG .i64 o)]))) ?_;simp only [Tree.holds,zd,inR,lo,hi,aD];refine⟨λhlt=> ?_,λhge=> ?_⟩
 ·have hlt:i<l.length:=by have:=aB hlt; omega
  refine zb.loop (ι:={z:List Nat×Nat // z.1.length=l.length+m.length/\z.2<=m.length/\Ten.val z.1=Ten.val (l.take i)*Ten.val m+10^i*(l.getD i 0*Ten.val (m.take z.2))/\(∀ p,z.1.getD p 0<=81*i+81)/\∀ p,i+z.2<=p->z.1.getD p 0<=81*i}) (λz=>STm2 l m z.1.1 i z.1.2) (λz=>[.arr z.1.1.length 1 (natG .i64 z.1.1)]) (λz=>m.length - z.1.2) ⟨(o,0),hol,aI _,by simp [hov,Ten.val],λp=>by have:=hob p; simp only; omega,λp _=>hob p⟩ 1 ?_ ?_ (by kernel_rfl)
  ·exact⟨by simp [STm2,natS,za],by simp [za],by kernel_rfl,aI _⟩
  rintro⟨⟨o2,j⟩,hol2,hjl,hov2,hob2,hob3⟩;simp only at hol2 hjl hov2 hob2 hob3;have e1:((i:Int)+(j:Int))=((i+j:Nat):Int):=by omega
  refine zb.n zq [0,1,5,6,7,8] (.D ((j:Int)<m.length) (.S ((i:Int)+j) (.S ((i:Int)+j) (.side ((0:Int)<=i+(j:Int)/\(i:Int)+j<(o2.length:Int)) (.side ((0:Int)<=i/\(i:Int)<l.length) (.side ((0:Int)<=j/\(j:Int)<m.length) (.S ((↑(l.getD (i:Int).toNat 0):Int)*(↑(m.getD (j:Int).toNat 0):Int)) (.S ((↑(o2.getD (0+Int.toNat ((i:Int)+j)) 0):Int)+(↑(l.getD (i:Int).toNat 0):Int)*(↑(m.getD (j:Int).toNat 0):Int)) (.side ((0:Int)<=i+(j:Int)/\(i:Int)+j<(o2.length:Int)) (.S (j+1) (.leaf (.back 1 [(0,.sl l.length 1 (natG .i64 l)),(1,.sl m.length 1 (natG .i64 m)),(5,.osl 0 1 0 o2.length),(6,.i i),(7,.i (j+1)),Z 8] [.arr o2.length 1 (updG (natG .i64 o2) (0+Int.toNat ((i:Int)+j)) 0 [.i ((↑(o2.getD (0+Int.toNat ((i:Int)+j)) 0):Int)+(↑(l.getD (i:Int).toNat 0):Int)*(↑(m.getD (j:Int).toNat 0):Int))])]))))))))))) (.S (i+1) (.leaf (.back 0 [(0,.sl l.length 1 (natG .i64 l)),(1,.sl m.length 1 (natG .i64 m)),(5,.osl 0 1 0 o2.length),(6,.i (i+1)),(7,.i j),Z 8] [.arr o2.length 1 (natG .i64 o2)])))) ?_;simp only [Tree.holds,zd,inR,lo,hi,e1,aD,Nat.zero_add];have hx:l.getD i 0<10:=Ten.zC hl i;have hy:m.getD j 0<10:=Ten.zC hm j;have hxy:l.getD i 0*m.getD j 0<=9*9:=Nat.mul_le_mul (by omega) (by omega);have e3:(((l.getD i 0:Nat):Int))*((m.getD j 0:Nat):Int)=((l.getD i 0*m.getD j 0:Nat):Int):=by simp
  rw [e3];have hob3':=hob3 (i+j) (aJ _);refine⟨λhj=> ?_,λhj=> ?_⟩
  ·have hj:j<m.length:=by have:=aB hj; omega
   have hp:i+j<o2.length:=by omega
   have hcell:=zfw (o:=o2) (i:=i) (j:=j) (V:=Ten.val (l.take i)*Ten.val m) (a:=l.getD i 0) (vt:=Ten.val (m.take j)) (b:=m.getD j 0) hp hov2;have htk:=Ten.zk m j;have hB:Ten.B=10:=rfl;rw [hB] at htk;rw [<- htk] at hcell;generalize hxyv:l.getD i 0*m.getD j 0=xy at *
   iterate 9 refine⟨by omega,λ_=> ?_⟩
   rw [aP trivial];refine⟨⟨(o2.set (i+j) (o2.getD (i+j) 0+xy),j+1),by simpa using hol2,hj,hcell,λp=> ?_,λp hp2=> ?_⟩,by show _ - (j+1)<_ - j; omega,by simp [STm2,natS,za],zd5 (by omega) hp rfl,by kernel_rfl,aI _⟩
   ·show(o2.set _ _).getD p 0<=_;rw [wY hp];split
    ·omega
    ·exact hob2 p
   ·have hp2:i+(j+1)<=p:=hp2;show(o2.set _ _).getD p 0<=_;rw [wY hp,aO (by omega)];exact hob3 p (by omega)
  ·have hj:j=m.length:=by have:=aC hj; omega
   subst hj;refine⟨by omega,λ_=> ?_⟩;rw [aO (by decide),aP trivial];refine⟨⟨(o2,i+1),hol2,hlt,?_,λp=>by have:=hob2 p; simp only; omega⟩,by show _ - (i+1)<_ - i; omega,by simp [STm,natS,za],by simp [za],by kernel_rfl,aI _⟩;show Ten.val o2=Ten.val (l.take (i+1))*Ten.val m;rw [bD] at hov2;have htk:=Ten.zk l i;have hB:Ten.B=10:=rfl;rw [hB] at htk;rw [hov2,htk,bH,bI]
 ·have hge:i=l.length:=by have:=aC hge; omega
  subst hge;rw [bD] at hov;exact XE l m o hl hm hll hml hl2 hm2 hol hov (λp=>by have:=hob p; omega) hq _ _ ⟨by simp [STm3],by simp [za],by kernel_rfl,aI _⟩
theorem zae(neg:Bool)(x:Nat):errI (qM neg x)=(wr neg x).2/\((wr neg x).2=0->qM neg x=(wr neg x).1):=by
 unfold qM wr;by_cases h0:x=0
 ·rw [aP h0,aP h0]; exact⟨rfl,λ_=>rfl⟩
 ·rw [aO h0,aO h0]
  have e:errI (sgn neg (txt x))=if 1000<(dec x).length then 14 else 0:=by
   unfold errI;rw [WL h0];simp only [XD h0,if_true];rw [y4 h0]
  by_cases h1:1000<(dec x).length
  ·rw [aP h1] at e ⊢;exact⟨e,λh=>(by cases h)⟩
  ·rw [aO h1] at e ⊢;exact⟨e,λ_=>rfl⟩
theorem Zz{neg:Bool}{x:Nat}(h:room x):qM neg x=(wr neg x).1:=(zae neg x).2 (v7 h)
theorem zhb(neg:Bool)(x:Nat):(qM neg x).length<=1+(dec x).length:=by
 unfold qM;by_cases h0:x=0
 ·rw [aP h0]; simp
 ·rw [aO h0];have:=zay neg (txt x);rw [y4 h0] at this;omega
def zmz:Ctr:=ctrP true (λp:List Nat×Bool=>[nat6 p.1,.bool p.2]) (λp=>Ten.dig p.1/\p.1.length<2^31) (λp r=>r=wr p.2 (Ten.val p.1)) (λ_ r=>(.tup [.str r.1,.i r.2],[]))
noncomputable def GRr:=tb uq (tb W5 tz)
theorem zmi:zc prog 152 zmz:=by
 refine ze' f152 λp hp O w0 Q hq=> ?_
 obtain⟨d,neg⟩:=p;obtain⟨hd,hl⟩:=hp;replace hq:=hq _ rfl;simp only at hd hl hq;refine zb.n GRr.h [] (.ex (q27 [.sl d.length 1 (natG .i64 d),.bool neg]) λn=>.all (λ(r:L8)=>r=qM n.2 (Ten.val n.1)) λn=>.ex (q22 [.str n]) λn_1=>.all (λ(r:Int)=>r=errI n_1) λn_2=>.N (n_2=0) (.R [.str #[].toList,.i 14] []) (.R [.str n,.i 0] [])) ?_;simp only [q22,q27,Tree.holds,zd];have hlen:(dec (Ten.val d)).length<=d.length:=kY (by have:=Ten.zK hd; have hB:Ten.B=10:=rfl; rw [hB] at this; exact this);have htl:=zhb neg (Ten.val d);obtain⟨t1,t2⟩:=zae neg (Ten.val d);refine⟨(d,neg),⟨⟨⟨rfl,rfl,za _ _ _⟩,rfl,trivial⟩,hd,by show d.length<_; omega⟩,⟨_,rfl⟩,?_⟩;rintro _ rfl;refine⟨qM neg (Ten.val d),⟨by simp,by omega⟩,⟨_,rfl⟩,?_⟩;intro e he;rw [t1] at he;refine⟨λh=> ?_,λh=> ?_⟩
 ·have h:e≠0:=by simpa using h
  rcases Kx neg (Ten.val d) with g | g
  ·exact absurd (he.trans g) h
  ·rw [g] at hq;exact RetR.scal hq rfl (by simp [resV])
 ·have h:e=0:=by simpa using h
  have g:(wr neg (Ten.val d)).2=0:=by rw [<- he,h]
  have e2:wr neg (Ten.val d)=(qM neg (Ten.val d),0):=by rw [t2 g,<- g]
  rw [e2] at hq;exact RetR.scal hq rfl (by simp [resV])
def zn1:Ctr:=ctrP true (λs:L8=>[.str s]) (λs=>errI s=0/\s.length<2^40) (λs r=>r=(wz (-zI s)).1) (λ_ r=>(.str r,[]))
noncomputable def GRn:=tb uq (tb kX tz)
theorem zo1{s:L8}(h:errI s=0):(wz (-zI s)).1=qM (!negI s) (numI s):=by
 rw [Zz (qZ h),WU];congr 2;unfold zI;cases negI s<;>simp
theorem zl8:zc prog 164 zn1:=by
 refine ze' f164 λs hp O w0 Q hq=> ?_
 obtain⟨he,hl⟩:=hp;replace hq:=hq _ rfl;refine zb.n GRn.h [] (.ex (q22 [.str s]) λn=>.all (λ(r:List Nat×Bool×Bool)=>r=digR n) λn=>.ex (q27 [.sl n.1.length 1 (natG .i64 n.1),.bool !Prod.fst n.2]) λn=>.all (λ(r:L8)=>r=qM n.2 (Ten.val n.1)) λn=>.R [.str n] []) ?_;simp only [q22,q27,Tree.holds,zd];obtain⟨a1,a2,a3,a4⟩:=we he;rw [zo1 he,<- a4] at hq;refine⟨s,⟨by simp,hl⟩,⟨_,rfl⟩,?_⟩;rintro _ rfl;rw [a1];refine⟨(dg (parse s).2,!(parse s).1),⟨⟨⟨rfl,rfl,za _ _ _⟩,rfl,trivial⟩,a2,by show(dg (parse s).2).length<_; omega⟩,⟨_,rfl⟩,?_⟩;rintro _ rfl;exact RetR.scal hq rfl (by simp [resV,negI])
noncomputable def GRa:=tb Vu (tb kX (tb zjs (tb Vf (tb yH (tb zmi (tb zdc (tb zah (tb zav (tb uq tz)))))))))
def zhu:Ctr:=ctrP true (λp:L8×L8=>[.str p.1,.str p.2]) (λp=>p.1.length<2^40/\p.2.length<2^40) (λp r=>r=addI p.1 p.2) (λ_ r=>(.tup [.str r.1,.i r.2],[]))
def zfg:Ctr:=ctrP true (λp:L8×L8=>[.str p.1,.str p.2]) (λp=>p.1.length<2^40/\p.2.length<2^40) (λp r=>r=mulI p.1 p.2) (λ_ r=>(.tup [.str r.1,.i r.2],[]))
def U9:Ctr:=ctrP true (λp:L8×L8=>[.str p.1,.str p.2]) (λp=>p.1.length<2^40/\p.2.length<2^40) (λp r=>r=kx p.1 p.2) (λ_ r=>(.tup [.i r.1,.i r.2],[]))
def rdmC:Ctr:=ctrP true (λp:L8×L8=>[.str p.1,.str p.2]) (λp=>p.1.length<2^40/\p.2.length<2^40) (λp r=>r=dmI p.1 p.2) (λ_ r=>(.tup [.str r.1,.str r.2.1,.i r.2.2],[]))
theorem eqL2(a b:List Nat):eqL [.sl a.length 1 (natG .i64 a),.sl b.length 1 (natG .i64 b)] [nat6 a,nat6 b]:=⟨⟨rfl,rfl,za _ _ _⟩,⟨rfl,rfl,za _ _ _⟩,trivial⟩
theorem eqLb(a:List Nat)(b:Bool):eqL [.sl a.length 1 (natG .i64 a),.bool b] [nat6 a,.bool b]:=⟨⟨rfl,rfl,za _ _ _⟩,rfl,trivial⟩
abbrev q37(A:List AV)(x:List Nat×Bool):Prop:=eqL A [.sl x.1.length 1 (natG .i64 x.1),.bool x.2]/\Ten.dig x.1/\x.1.length<2147483648
abbrev q36(A:List AV)(x:List Nat×List Nat):Prop:=eqL A [.sl x.1.length 1 (natG .i64 x.1),.sl x.2.length 1 (natG .i64 x.2)]/\Ten.dig x.1/\Ten.dig x.2/\x.1.length<1073741824/\x.2.length<1073741824
theorem zlo:zc prog 129 zhu:=by
 refine ze' f129 λp hp O w0 Q hq=> ?_
 obtain⟨s,t⟩:=p;obtain⟨hs,ht⟩:=hp;replace hq:=hq _ rfl;simp only at hs ht hq;refine zb.n GRa.h [] (.ex (q24 [.str s,.str t]) λn=>.all (λ(r:Int)=>r=zo n.1 n.2) λn=>.N (n=0) (.R [.str #[].toList,.i n] []) (.ex (q22 [.str s]) λn=>.all (λ(r:List Nat×Bool×Bool)=>r=digR n) λn=>.ex (q22 [.str t]) λn_1=>.all (λ(r:List Nat×Bool×Bool)=>r=digR n_1) λn_2=>let v1:=[AV.sl n.1.length 1 (natG .i64 n.1),AV.sl n_2.1.length 1 (natG .i64 n_2.1)];.ite (n.2.1 == n_2.2.1) (.ex (q36 v1) λn_3=>.all (zai n_3) λn_4=>.ex (q37 [.sl n_4.length 1 (natG .i64 n_4),.bool n.2.1]) λn=>.all (λ(r:L8×Int)=>r=wr n.2 (Ten.val n.1)) λn=>.R [.str n.1,.i n.2] []) (.ex (q21 v1) λn_3=>.all (λ(r:Int)=>r=cmpN (Ten.val n_3.1) (Ten.val n_3.2)) λn_4=>.D ((0:Int)<=n_4) (.ex (q23 v1) λn_5=>.all (λ(r:List Nat)=>r.length=n_5.1.length/\Ten.dig r/\Ten.val r+Ten.val n_5.2=Ten.val n_5.1) λn_6=>.ex (q37 [.sl n_6.length 1 (natG .i64 n_6),.bool n.2.1]) λn=>.all (λ(r:L8×Int)=>r=wr n.2 (Ten.val n.1)) λn=>.R [.str n.1,.i n.2] []) (.ex (q23 [.sl n_2.1.length 1 (natG .i64 n_2.1),.sl n.1.length 1 (natG .i64 n.1)]) λn=>.all (λ(r:List Nat)=>r.length=n.1.length/\Ten.dig r/\Ten.val r+Ten.val n.2=Ten.val n.1) λn=>.ex (q37 [.sl n.length 1 (natG .i64 n),.bool n_2.2.1]) λn=>.all (λ(r:L8×Int)=>r=wr n.2 (Ten.val n.1)) λn=>.R [.str n.1,.i n.2] [])))) ?_;simp only [q21,q22,q23,q24,q36,q37,Tree.holds,zd];refine⟨(s,t),⟨by simp,hs,ht⟩,⟨_,rfl⟩,?_⟩;rintro _ rfl;simp only;refine⟨λhe=> ?_,λhe=> ?_⟩
 ·have he:zo s t≠0:=by
   intro h; simp [h] at he
  have e:addI s t=([],zo s t):=aO he;rw [e] at hq;exact RetR.scal hq rfl (by simp [resV])
 have he:zo s t=0:=by
  refine bM λh=> ?_
  simp [h] at he
 obtain⟨h1,h2⟩:=zh.1 he;have e:addI s t=wr (sumS (negI s) (numI s) (negI t) (numI t)).1 (sumS (negI s) (numI s) (negI t) (numI t)).2:=aP he;rw [e] at hq;refine⟨s,⟨by simp,hs⟩,⟨_,rfl⟩,?_⟩;rintro _ rfl;refine⟨t,⟨by simp,ht⟩,⟨_,rfl⟩,?_⟩;rintro _ rfl;obtain⟨a1,a2,a3,a4⟩:=we h1;obtain⟨b1,b2,b3,b4⟩:=we h2;rw [a1,b1];have ea:(parse s).1=negI s:=rfl;have eb:(parse t).1=negI t:=rfl;simp only [ea,eb];rw [<- a4,<- b4] at hq;generalize dg (parse s).2=x at *
 generalize dg (parse t).2=y at *
 generalize negI s=m at *
 generalize negI t=n at *
 have fin:∀ (d:List Nat) (b:Bool),wr b (Ten.val d)=wr (sumS m (Ten.val x) n (Ten.val y)).1 (sumS m (Ten.val x) n (Ten.val y)).2->∀ r,r=wr b (Ten.val d)->RetR zhu 0 Q [.str r.1,.i r.2] []:=by
  rintro d b h _ rfl;rw [<- h] at hq;exact RetR.scal hq rfl (by simp [resV])
 refine⟨λh=> ?_,λh=>⟨(x,y),⟨eqL2 x y,a2,b2,by show x.length<_; omega,by show y.length<_; omega⟩,⟨_,rfl⟩,?_⟩⟩
 ·have h:m=n:=by simpa using h
  refine⟨(x,y),⟨eqL2 x y,a2,b2,by show x.length<_; omega,by show y.length<_; omega⟩,zao a2 b2,?_⟩;rintro z ⟨g1,g2,g3⟩;simp only at g1 g3;refine⟨(z,m),⟨eqLb z m,g2,by show z.length<_; omega⟩,⟨_,rfl⟩,?_⟩;exact fin z m (by rw [g3]; unfold sumS; rw [aP h])
 ·have h:¬ m=n:=by simpa using h
  rintro _ rfl;simp only;refine⟨λg=> ?_,λg=> ?_⟩
  ·have g:Ten.val y<=Ten.val x:=Qm.1 (aB g);refine⟨(x,y),⟨eqL2 x y,a2,b2,by show x.length<_; omega,g⟩,uv a2 g,?_⟩;rintro z ⟨g1,g2,g3⟩;simp only at g1 g3;refine⟨(z,m),⟨eqLb z m,g2,by show z.length<_; omega⟩,⟨_,rfl⟩,?_⟩;exact fin z m (by unfold sumS; rw [aO h,aP g]; congr 1; omega)
  ·have g:¬ Ten.val y<=Ten.val x:=λh3=>aC g (Qm.2 h3)
   refine⟨(y,x),⟨eqL2 y x,b2,a2,by show y.length<_; omega,by show Ten.val x<=Ten.val y; omega⟩,uv b2 (by show Ten.val x<=Ten.val y; omega),?_⟩;rintro z ⟨g1,g2,g3⟩;simp only at g1 g3;refine⟨(z,n),⟨eqLb z n,g2,by show z.length<_; omega⟩,⟨_,rfl⟩,?_⟩;exact fin z n (by unfold sumS; rw [aO h,aO g]; congr 1; omega)
theorem zi6{s:L8}(h:errI s=0):0<(dg (parse s).2).length:=by
 obtain⟨_,_,h3,_⟩:=xJ h;rw [xv];exact List.length_pos_iff.2 h3
theorem zbq:zc prog 130 zfg:=by
 refine ze' f130 λp hp O w0 Q hq=> ?_
 obtain⟨s,t⟩:=p;obtain⟨hs,ht⟩:=hp;replace hq:=hq _ rfl;simp only at hs ht hq;refine zb.n GRa.h [] (.ex (q24 [.str s,.str t]) λn=>.all (λ(r:Int)=>r=zo n.1 n.2) λn=>.N (n=0) (.R [.str #[].toList,.i n] []) (.ex (q22 [.str s]) λn=>.all (λ(r:List Nat×Bool×Bool)=>r=digR n) λn=>.ex (q22 [.str t]) λn_1=>.all (λ(r:List Nat×Bool×Bool)=>r=digR n_1) λn_2=>.ex (λ(x:List Nat×List Nat)=>eqL [.sl n.1.length 1 (natG .i64 n.1),.sl n_2.1.length 1 (natG .i64 n_2.1)] [.sl x.1.length 1 (natG .i64 x.1),.sl x.2.length 1 (natG .i64 x.2)]/\Ten.dig x.1/\Ten.dig x.2/\0<x.1.length/\0<x.2.length/\x.1.length<1073741824/\x.2.length<1073741824) λn_3=>.all (Ko n_3) λn_4=>.ex (q37 [.sl n_4.length 1 (natG .i64 n_4),.bool !Prod.fst n.2 == n_2.2.1]) λn=>.all (λ(r:L8×Int)=>r=wr n.2 (Ten.val n.1)) λn=>.R [.str n.1,.i n.2] [])) ?_;simp only [q22,q24,q37,Tree.holds,zd];refine⟨(s,t),⟨by simp,hs,ht⟩,⟨_,rfl⟩,?_⟩;rintro _ rfl;simp only;refine⟨λhe=> ?_,λhe=> ?_⟩
 ·have he:zo s t≠0:=by
   intro h; simp [h] at he
  have e:mulI s t=([],zo s t):=aO he;rw [e] at hq;exact RetR.scal hq rfl (by simp [resV])
 have he:zo s t=0:=by
  refine bM λh=> ?_
  simp [h] at he
 obtain⟨h1,h2⟩:=zh.1 he;have e:mulI s t=wr (negI s != negI t) (numI s*numI t):=aP he;rw [e] at hq;refine⟨s,⟨by simp,hs⟩,⟨_,rfl⟩,?_⟩;rintro _ rfl;refine⟨t,⟨by simp,ht⟩,⟨_,rfl⟩,?_⟩;rintro _ rfl;obtain⟨a1,a2,a3,a4⟩:=we h1;obtain⟨b1,b2,b3,b4⟩:=we h2;have a5:=zi6 h1;have b5:=zi6 h2;rw [a1,b1];have ea:(parse s).1=negI s:=rfl;have eb:(parse t).1=negI t:=rfl;simp only [ea,eb];rw [<- a4,<- b4] at hq;generalize dg (parse s).2=x at *
 generalize dg (parse t).2=y at *
 refine⟨(x,y),⟨eqL2 x y,a2,b2,a5,b5,by show x.length<_; omega,by show y.length<_; omega⟩,zgf a2 b2,?_⟩;rintro z ⟨g1,g2,g3⟩;simp only at g1 g3;refine⟨(z,negI s != negI t),⟨eqLb z _,g2,by show z.length<_; omega⟩,⟨_,rfl⟩,?_⟩;rintro _ rfl;rw [<- g3] at hq;exact RetR.scal hq rfl (by simp [resV])
theorem zgv:zc prog 97 U9:=by
 refine ze' f97 λp hp O w0 Q hq=> ?_
 obtain⟨s,t⟩:=p;obtain⟨hs,ht⟩:=hp;replace hq:=hq _ rfl;simp only at hs ht hq;refine zb.n GRa.h [] (.ex (q24 [.str s,.str t]) λn=>.all (λ(r:Int)=>r=zo n.1 n.2) λn=>.N (n=0) (.R [.i 0,.i n] []) (.ex (q22 [.str s]) λn=>.all (λ(r:List Nat×Bool×Bool)=>r=digR n) λn=>.ex (q22 [.str t]) λn_1=>.all (λ(r:List Nat×Bool×Bool)=>r=digR n_1) λn_2=>.ite (bif n.2.1 then n_2.2.1 else false) (.ex (q21 [.sl n_2.1.length 1 (natG .i64 n_2.1),.sl n.1.length 1 (natG .i64 n.1)]) λn=>.all (λ(r:Int)=>r=cmpN (Ten.val n.1) (Ten.val n.2)) λn=>.R [.i n,.i 0] []) (.ite n.2.1 (.R [.i (-1:Int),.i 0] []) (.ite n_2.2.1 (.R [.i 1,.i 0] []) (.ex (q21 [.sl n.1.length 1 (natG .i64 n.1),.sl n_2.1.length 1 (natG .i64 n_2.1)]) λn=>.all (λ(r:Int)=>r=cmpN (Ten.val n.1) (Ten.val n.2)) λn=>.R [.i n,.i 0] []))))) ?_;simp only [q21,q22,q24,Tree.holds,zd];refine⟨(s,t),⟨by simp,hs,ht⟩,⟨_,rfl⟩,?_⟩;rintro _ rfl;simp only;refine⟨λhe=> ?_,λhe=> ?_⟩
 ·have he:zo s t≠0:=by
   intro h; simp [h] at he
  have e:kx s t=(0,zo s t):=aO he;rw [e] at hq;exact RetR.scal hq rfl (by simp [resV])
 have he:zo s t=0:=by
  refine bM λh=> ?_
  simp [h] at he
 obtain⟨h1,h2⟩:=zh.1 he;have e:kx s t=(cmpZ (negI s) (numI s) (negI t) (numI t),0):=aP he;rw [e] at hq;refine⟨s,⟨by simp,hs⟩,⟨_,rfl⟩,?_⟩;rintro _ rfl;refine⟨t,⟨by simp,ht⟩,⟨_,rfl⟩,?_⟩;rintro _ rfl;obtain⟨a1,a2,a3,a4⟩:=we h1;obtain⟨b1,b2,b3,b4⟩:=we h2;rw [a1,b1];have ea:(parse s).1=negI s:=rfl;have eb:(parse t).1=negI t:=rfl;simp only [ea,eb];rw [<- a4,<- b4] at hq;generalize dg (parse s).2=x at *
 generalize dg (parse t).2=y at *
 have hb:∀ (b:Bool) (u v:List Nat),Ten.dig u->Ten.dig v->u.length<=1000->v.length<=1000->cmpN (Ten.val u) (Ten.val v)=cmpZ (negI s) (Ten.val x) (negI t) (Ten.val y) ->
   ∃ n:List Nat×List Nat,(eqL [.sl u.length 1 (natG .i64 u),.sl v.length 1 (natG .i64 v)] [.sl n.1.length 1 (natG .i64 n.1),.sl n.2.length 1 (natG .i64 n.2)]/\Ten.dig n.1/\Ten.dig n.2/\n.1.length<4611686018427387904/\n.2.length<4611686018427387904) /\
    (∃ r,r=cmpN (Ten.val n.1) (Ten.val n.2))/\∀ r,r=cmpN (Ten.val n.1) (Ten.val n.2)->RetR U9 0 Q [.i r,.i 0] []:=by
  intro b u v hu hv lu lv hc;refine⟨(u,v),⟨⟨⟨rfl,rfl,za _ _ _⟩,⟨rfl,rfl,za _ _ _⟩,trivial⟩,hu,hv,by show u.length<_; omega,by show v.length<_; omega⟩,⟨_,rfl⟩,?_⟩;rintro _ rfl;rw [<- hc] at hq;exact RetR.scal hq rfl (by simp [resV])
 refine⟨λh=>hb true y x b2 a2 b3 a3 ?_,λh=>⟨λg=> ?_,λg=>⟨λf=> ?_,λf=>hb true x y a2 b2 a3 b3 ?_⟩⟩⟩
 ·cases hm:negI s<;>cases hn:negI t<;>rw [hm,hn] at h<;>first | (cases h; done) | rfl
 ·have e:cmpZ (negI s) (Ten.val x) (negI t) (Ten.val y) = -1:=by
   rw [g] at h ⊢;have h:negI t=false:=h;rw [h]; rfl
  rw [e] at hq;exact RetR.scal hq rfl (by simp [resV])
 ·have e:cmpZ (negI s) (Ten.val x) (negI t) (Ten.val y)=1:=by rw [g,f]; rfl
  rw [e] at hq;exact RetR.scal hq rfl (by simp [resV])
 ·rw [g,f]; rfl
theorem zoe:zc prog 165 rdmC:=by
 refine ze' f165 λp hp O w0 Q hq=> ?_
 obtain⟨s,t⟩:=p;obtain⟨hs,ht⟩:=hp;replace hq:=hq _ rfl;simp only at hs ht hq;refine zb.n GRa.h [] (.ex (q24 [.str s,.str t]) λn=>.all (λ(r:Int)=>r=zo n.1 n.2) λn=>.N (n=0) (.R [.str #[].toList,.str #[].toList,.i n] []) (.ex (q22 [.str s]) λn=>.all (λ(r:List Nat×Bool×Bool)=>r=digR n) λn=>.ex (q22 [.str t]) λn_1=>.all (λ(r:List Nat×Bool×Bool)=>r=digR n_1) λn_2=>let v1:=natG .i64 n_2.1;.ex (q25 [.sl n_2.1.length 1 v1]) λn_3=>.all (λ(r:Bool)=>r=decide (Ten.val n_3=0)) λn_4=>.ite n_4 (.R [.str #[].toList,.str #[].toList,.i 16] []) (.ex (q26 [.sl n.1.length 1 (natG .i64 n.1),.sl n_2.1.length 1 v1]) λn_5=>.all (λ(r:List Nat×List Nat)=>r.1.length=n_5.1.length/\Ten.dig r.1/\Ten.val r.1=Ten.val n_5.1/Ten.val n_5.2/\r.2.length<=n_5.1.length/\Ten.dig r.2/\Ten.val r.2=Ten.val n_5.1%Ten.val n_5.2) λn_6=>let v2:=natG .i64 n_6.2;.ex (λ(x:List Nat)=>n.2.1=true->q25 [.sl n_6.2.length 1 v2] x) λn_7=>.all (λ(x:Bool)=>n.2.1=true->x=decide (Ten.val n_7=0)) λn_8=>.ite (bif n.2.1 then !n_8 else false) (.ex (q36 [.sl n_6.1.length 1 (natG .i64 n_6.1),.sl 1 1 (zf (zg 1 [.i 1]) 0)]) λn_9=>.all (zai n_9) λn_10=>.ex (q23 [.sl n_2.1.length 1 v1,.sl n_6.2.length 1 v2]) λn_11=>.all (λ(r:List Nat)=>r.length=n_11.1.length/\Ten.dig r/\Ten.val r+Ten.val n_11.2=Ten.val n_11.1) λn_12=>.ex (q27 [.sl n_10.length 1 (natG .i64 n_10),.bool !Prod.fst n.2 == n_2.2.1]) λn=>.all (λ(r:L8)=>r=qM n.2 (Ten.val n.1)) λn=>.ex (q27 [.sl n_12.length 1 (natG .i64 n_12),.bool false]) λn_13=>.all (λ(r:L8)=>r=qM n_13.2 (Ten.val n_13.1)) λn_14=>.R [.str n,.str n_14,.i 0] [.arr 1 1 (zg 1 [.i 1])]) (.ex (q27 [.sl n_6.1.length 1 (natG .i64 n_6.1),.bool !Prod.fst n.2 == n_2.2.1]) λn=>.all (λ(r:L8)=>r=qM n.2 (Ten.val n.1)) λn=>.ex (q27 [.sl n_6.2.length 1 v2,.bool false]) λn_9=>.all (λ(r:L8)=>r=qM n_9.2 (Ten.val n_9.1)) λn_10=>.R [.str n,.str n_10,.i 0] [])))) ?_;simp only [q22,q23,q24,q25,q26,q27,q36,Tree.holds,zd];refine⟨(s,t),⟨by simp,hs,ht⟩,⟨_,rfl⟩,?_⟩;rintro _ rfl;simp only;refine⟨λhe=> ?_,λhe=> ?_⟩
 ·have he:zo s t≠0:=by
   intro h; simp [h] at he
  have e:dmI s t=([],[],zo s t):=aP he;rw [e] at hq;exact RetR.scal hq rfl (by simp [resV])
 have he:zo s t=0:=by
  refine bM λh=> ?_
  simp [h] at he
 obtain⟨h1,h2⟩:=zh.1 he;refine⟨s,⟨by simp,hs⟩,⟨_,rfl⟩,?_⟩;rintro _ rfl;refine⟨t,⟨by simp,ht⟩,⟨_,rfl⟩,?_⟩;rintro _ rfl;obtain⟨a1,a2,a3,a4⟩:=we h1;obtain⟨b1,b2,b3,b4⟩:=we h2;rw [a1,b1];have ea:(parse s).1=negI s:=rfl;have eb:(parse t).1=negI t:=rfl;simp only [ea,eb];generalize dg (parse s).2=x at *
 generalize dg (parse t).2=y at *
 refine⟨y,⟨⟨⟨rfl,rfl,za _ _ _⟩,trivial⟩,b2,by omega⟩,⟨_,rfl⟩,?_⟩;rintro _ rfl;refine⟨λh0=> ?_,λh0=> ?_⟩
 ·have h0:Ten.val y=0:=aB h0;have e:dmI s t=([],[],16):=by rw [dmI,aO (by rw [he]; decide),aP (by rw [<- b4]; exact h0)]
  rw [e] at hq;exact RetR.scal hq rfl (by simp [resV])
 have h0:Ten.val y≠0:=aC h0;have h0':numI t≠0:=by rw [<- b4]; exact h0
 have e:dmI s t=((wr (negI s != negI t) (dmQ s t)).1,(wr false (dmM s t)).1,0):=by rw [dmI,aO (by rw [he]; decide),aO h0']
 rw [e] at hq;have rq:=X2 h1 h0';have rm:=Ye (s:=s) h2 h0';have hlt:=Nat.mod_lt (Ten.val x) (bV h0)
 have hex:∃ r,zb8 (x,y) r:=by
  obtain⟨g1,g2,g3⟩:=Q0 a2 (Nat.div_le_self (Ten.val x) (Ten.val y));obtain⟨g4,g5,g6⟩:=Q0 a2 (Nat.mod_le (Ten.val x) (Ten.val y));exact⟨(_,_),g1,g2,g3,Nat.le_of_eq g4,g5,g6⟩
 refine⟨(x,y),⟨eqL2 x y,a2,b2,by show x.length<_; omega,by show y.length<_; omega,bV h0⟩,hex,?_⟩;rintro⟨q,r⟩ ⟨g1,g2,g3,g4,g5,g6⟩;simp only at g1 g2 g3 g4 g5 g6
 have fin:∀ u v:List Nat,Ten.val u=dmQ s t->Ten.val v=dmM s t->∀ U V:L8,U=qM (negI s != negI t) (Ten.val u)->V=qM false (Ten.val v)->∀ h:Heap,RetR rdmC 0 Q [.str U,.str V,.i 0] h:=by
  rintro u v hu hv _ _ rfl rfl h;rw [<- hu] at hq rq;rw [<- hv] at hq rm;rw [<- Zz rq,<- Zz rm] at hq;exact RetR.scal hq rfl (by simp [resV])
 have hq1:Ten.val q=numI s/numI t:=by rw [g3,a4,b4]
 have hr1:Ten.val r=numI s%numI t:=by rw [g6,a4,b4]
 refine⟨r,λ_=>⟨⟨⟨rfl,rfl,za _ _ _⟩,trivial⟩,g5,by omega⟩,⟨_,λ_=>rfl⟩,?_⟩;intro z hz;refine⟨λhc=> ?_,λhc=> ?_⟩
 ·have hm:negI s=true:=by
   cases hn:negI s with
   | true=>rfl
   | false=>rw [hn] at hc; cases hc
  have hz:=hz hm;rw [hm] at hc;have hc:z=false:=by simpa using hc
  rw [hc] at hz;have hr0:Ten.val r≠0:=aC hz.symm;have hcond:negI s=true/\0<numI s%numI t:=⟨hm,by omega⟩;have eQ:dmQ s t=numI s/numI t+1:=aP hcond;have eM:dmM s t=numI t - numI s%numI t:=aP hcond
  have h1d:Ten.dig [1]:=λd hd=>by
   have:d=1:=by simpa using hd
   rw [this]; decide
  refine⟨(q,[1]),⟨⟨⟨rfl,rfl,za _ _ _⟩,⟨rfl,rfl,?_⟩,trivial⟩,g2,h1d,by show q.length<_; omega,by show 1<1073741824; decide⟩,zao g2 h1d,?_⟩
  ·intro j o hj ho;have:j=0:=by omega
   subst this;have:o=0:=by omega
   subst this;rfl
  rintro u ⟨u1,u2,u3⟩;simp only at u1 u3;have hle:Ten.val r<=Ten.val y:=by omega
  refine⟨(y,r),⟨eqL2 y r,b2,g5,by show y.length<_; omega,hle⟩,uv b2 hle,?_⟩;rintro v ⟨v1,v2,v3⟩;simp only at v1 v3;have hone:Ten.val [1]=1:=rfl;refine⟨(u,negI s != negI t),⟨eqLb u _,u2,by simp only [u1]; show max q.length 1+1<_; omega⟩,⟨_,rfl⟩,?_⟩;intro U hU;refine⟨(v,false),⟨eqLb v _,v2,by simp only; omega⟩,⟨_,rfl⟩,?_⟩;intro V hV;exact fin u v (by rw [u3,hone,hq1,eQ]) (by rw [eM]; omega) U V hU hV _
 ·have hcond:¬ (negI s=true/\0<numI s%numI t):=by
   rintro⟨hm,h5⟩;have hz:=hz hm;rw [hm] at hc;have hc:z=true:=by simpa using hc
   rw [hc] at hz;have:Ten.val r=0:=aB hz.symm;omega
  have eQ:dmQ s t=numI s/numI t:=aO hcond;have eM:dmM s t=numI s%numI t:=aO hcond;refine⟨(q,negI s != negI t),⟨eqLb q _,g2,by simp only; omega⟩,⟨_,rfl⟩,?_⟩;intro U hU;refine⟨(r,false),⟨eqLb r _,g5,by simp only; omega⟩,⟨_,rfl⟩,?_⟩;intro V hV;exact fin q r (by rw [hq1,eQ]) (by rw [hr1,eM]) U V hU hV _
def KG:Ctr:=ctrP true (λp:L8×L8=>[.str p.1,.str p.2]) (λp=>p.1.length<2^40/\p.2.length<2^40) (λp r=>r=qX p.1 p.2) (λ_ r=>(.tup [.str r.1,.i r.2],[]))
noncomputable def GRm:=tb Vu (tb zl8 (tb zbm (tb zoe tz)))
theorem zhd(z:Int):(wz z).1.length<=1001:=w9 _ _
abbrev q38(A:List AV)(x:L8):Prop:=eqL A [.str x]/\errI x=0/\x.length<1099511627776
theorem zhl:zc prog 156 KG:=by
 refine ze' f156 λp hp O w0 Q hq=> ?_
 obtain⟨s,t⟩:=p;obtain⟨hs,ht⟩:=hp;replace hq:=hq _ rfl;simp only at hs ht hq;refine zb.n GRm.h [] (.ex (q24 [.str s,.str t]) λn=>.all (λ(r:Int)=>r=zo n.1 n.2) λn=>.N (n=0) (.R [.str #[].toList,.i n] []) (.D (t=#[(48:UInt8)].toList) (.R [.str #[].toList,.i 16] []) (.side ((0:Int)<=0/\(0:Int)<t.length) (.D ((↑(UInt8.toNat (t.getD 0 (0:UInt8))):Int)=45) (.ex (q38 [.str s]) λn=>.all (λ(r:L8)=>r=Prod.fst (wz (-zI n))) λn=>.ex (q38 [.str t]) λn_1=>.all (λ(r:L8)=>r=Prod.fst (wz (-zI n_1))) λn_2=>.ex (q24 [.str n,.str n_2]) λn_3=>.all (λ(r:L8×Int)=>r=gcdR n_3.1 n_3.2) λn_4=>.ex (q24 [.str n,.str n_4.1]) λn=>.all (λ(r:L8×L8×Int)=>r=dmI n.1 n.2) λn=>.ex (q24 [.str n_2,.str n_4.1]) λn_5=>.all (λ(r:L8×L8×Int)=>r=dmI n_5.1 n_5.2) λn_6=>.D (n_6.1=#[(49:UInt8)].toList) (.R [.str n.1,.i 0] []) (.side (n.1.length+1<=9223372036854775807) (.side (List.length (n.1++#[(47:UInt8)].toList)+n_6.1.length<=9223372036854775807) (.R [.str (n.1++#[(47:UInt8)].toList++n_6.1),.i 0] [])))) (.ex (q24 [.str s,.str t]) λn=>.all (λ(r:L8×Int)=>r=gcdR n.1 n.2) λn=>.ex (q24 [.str s,.str n.1]) λn_1=>.all (λ(r:L8×L8×Int)=>r=dmI n_1.1 n_1.2) λn_2=>.ex (q24 [.str t,.str n.1]) λn=>.all (λ(r:L8×L8×Int)=>r=dmI n.1 n.2) λn=>.D (n.1=#[(49:UInt8)].toList) (.R [.str n_2.1,.i 0] []) (.side (n_2.1.length+1<=9223372036854775807) (.side (List.length (n_2.1++#[(47:UInt8)].toList)+n.1.length<=9223372036854775807) (.R [.str (n_2.1++#[(47:UInt8)].toList++n.1),.i 0] [])))))))) ?_;simp only [q24,q38,Tree.holds,zd,inR,lo,hi,aD];refine⟨(s,t),⟨by simp,hs,ht⟩,⟨_,rfl⟩,?_⟩;rintro _ rfl;simp only;refine⟨λhe=> ?_,λhe=> ?_⟩
 ·have he:zo s t≠0:=by
   intro h; simp [h] at he
  have e:qX s t=([],zo s t):=aP he;rw [e] at hq;exact RetR.scal hq rfl (by simp [resV])
 have he:zo s t=0:=by
  refine bM λh=> ?_
  simp [h] at he
 obtain⟨h1,h2⟩:=zh.1 he;refine⟨λh0=> ?_,λh0=> ?_⟩
 ·have h0:t=[48]:=by simpa using h0
  have e:qX s t=([],16):=by rw [qX,aO (by rw [he]; decide),aP ((wS h2).1 h0)]
  rw [e] at hq;exact RetR.scal hq rfl (by simp [resV])
 have ht0:t≠[48]:=λh=>aC h0 h
 have hn0:numI t≠0:=λh=>ht0 ((wS h2).2 h)
 have htn:t≠[]:=by rintro rfl; simp [JP] at h2
 have hneg:=Zo htn;have e:qX s t=(WV (negI s != negI t) (numI s) (numI t),0):=by rw [qX,aO (by rw [he]; decide),aO hn0]
 rw [e,WV] at hq;obtain⟨g0,gr⟩:=J6 (s:=s) h2 hn0;have ds:Nat.gcd (numI s) (numI t) ∣ numI s:=Nat.gcd_dvd_left _ _;have dt:Nat.gcd (numI s) (numI t) ∣ numI t:=Nat.gcd_dvd_right _ _
 have fin:∀ u v:L8,errI u=0->errI v=0->numI u=numI s->numI v=numI t->negI v=false->(numI s≠0->negI u=(negI s != negI t))->u.length<2^40->v.length<2^40 ->
   ∃ n:L8×L8,(eqL [.str u,.str v] [.str n.1,.str n.2]/\n.1.length<1099511627776/\n.2.length<1099511627776)/\(∃ r,r=gcdR n.1 n.2)/\∀ r:L8×Int,r=gcdR n.1 n.2 ->
    ∃ n:L8×L8,(eqL [.str u,.str r.1] [.str n.1,.str n.2]/\n.1.length<1099511627776/\n.2.length<1099511627776)/\(∃ r,r=dmI n.1 n.2)/\∀ z:L8×L8×Int,z=dmI n.1 n.2 ->
     ∃ n:L8×L8,(eqL [.str v,.str r.1] [.str n.1,.str n.2]/\n.1.length<1099511627776/\n.2.length<1099511627776)/\(∃ r,r=dmI n.1 n.2)/\∀ w:L8×L8×Int,w=dmI n.1 n.2 ->
      (decide (w.1=[49])=true->RetR KG 0 Q [.str z.1,.i 0] [])/\(decide (w.1=[49])=false->z.1.length+1<=9223372036854775807/\(z.1.length+1<=9223372036854775807->(z.1++[47]).length+w.1.length<=9223372036854775807/\((z.1++[47]).length+w.1.length<=9223372036854775807->RetR KG 0 Q [.str (z.1++[47]++w.1),.i 0] []))):=by
  intro u v eu ev nu nv sv su lu lv;refine⟨(u,v),⟨⟨rfl,rfl,trivial⟩,by simpa using lu,by simpa using lv⟩,⟨_,rfl⟩,?_⟩;rintro _ rfl;have eg:gcdR u v=wr false (Nat.gcd (numI s) (numI t)):=by rw [gcdR,aP (zh.2 ⟨eu,ev⟩),nu,nv]
  rw [eg];generalize Nat.gcd (numI s) (numI t)=g at *
  have l1:=w9 false g;refine⟨(u,(wr false g).1),⟨⟨rfl,rfl,trivial⟩,by simpa using lu,by simp only; omega⟩,⟨_,rfl⟩,?_⟩;rintro _ rfl;refine⟨(v,(wr false g).1),⟨⟨rfl,rfl,trivial⟩,by simpa using lv,by simp only; omega⟩,⟨_,rfl⟩,?_⟩;rintro _ rfl;rw [u7 eu g0 gr (by rw [nu]; exact ds),u7 ev g0 gr (by rw [nv]; exact dt),nu,nv,sv];simp only;have hb:(negI u != false)=negI u:=by cases negI u<;>rfl
  have hb2:(false != false)=false:=rfl;rw [hb,hb2];have hw:wr (negI u) (numI s/g)=wr (negI s != negI t) (numI s/g):=K6 λh=>su λh5=>h (by rw [h5,Nat.zero_div])
  rw [hw];have rt:=room_le (Nat.div_le_self (numI t) g) (qZ h2);have k1:=w9 (negI s != negI t) (numI s/g);have k2:=w9 false (numI t/g);refine⟨λh=> ?_,λh=>⟨by omega,λ_=>⟨by simp<;>omega,λ_=> ?_⟩⟩⟩
  ·have h1:=(J8 rt).1 (aB h);rw [aP h1] at hq;exact RetR.scal hq rfl (by simp [resV])
  ·have h1:¬ numI t/g=1:=λh1=>aC h ((J8 rt).2 h1)
   rw [aO h1] at hq;exact RetR.scal hq rfl (by simp [resV])
 have lt0:=List.length_pos_iff.2 htn;refine⟨⟨by omega,by omega⟩,λ_=>⟨λhb=> ?_,λhb=> ?_⟩⟩
 ·have hn:negI t=true:=by
   rw [hneg,aK];exact yE (aB hb)
  refine⟨s,⟨by simp,h1,hs⟩,⟨_,rfl⟩,?_⟩;rintro _ rfl;refine⟨t,⟨by simp,h2,ht⟩,⟨_,rfl⟩,?_⟩;rintro _ rfl;have zs:(wz (-zI s)).2=0:=by rw [vJ,yw h1]
  have zt:(wz (-zI t)).2=0:=by rw [vJ,yw h2]
  have ws:=zhd (-zI s);have wt:=zhd (-zI t);have es:=jS zs;have et:=jS zt;refine fin _ _ es et (by rw [<- qT,jK zs,Int.natAbs_neg,qT]) (by rw [<- qT,jK zt,Int.natAbs_neg,qT]) ?_ (λh=> ?_) (by omega) (by omega)
  ·rw [yg et,jK zt];have:zI t<0:=by have:=yg h2; rw [hn] at this; exact aB this.symm
   exact aW (by omega)
  ·rw [yg es,jK zs,hn];have ha:=qT s;have hs2:=yg h1;cases hm:negI s with
   | true=>rw [hm] at hs2; have:=aB hs2.symm; exact aW (by omega)
   | false=>rw [hm] at hs2; have:=aC hs2.symm; exact aX (by omega)
 ·have hn:negI t=false:=by
   rw [hneg,aV];intro h;apply aC hb;rw [h]; rfl
  exact fin s t h1 h2 rfl rfl hn (λ_=>by rw [hn]; cases negI s<;>rfl) hs ht
structure Q4 where
 n:L8
 d:L8
 m:L8
 c:L8
 e:Int
def y9(a b:L8):Q4:=if zZ a b≠0 then⟨[],[],[],[],zZ a b⟩ else⟨numR a,denR a,numR b,denR b,0⟩
def K3:Ctr:=ctrP true (λp:L8×L8=>[.str p.1,.str p.2]) (λp=>p.1.length<2^40/\p.2.length<2^40) (λp r=>r=y9 p.1 p.2) (λ_ (r:Q4)=>(.tup [.str r.n,.str r.d,.str r.m,.str r.c,.i r.e],[]))
noncomputable def GRf:=tb uc (tb JH tz)
theorem JS:zc prog 128 K3:=by
 refine ze' f128 λp hp O w0 Q hq=> ?_
 obtain⟨a,b⟩:=p;obtain⟨ha,hb⟩:=hp;replace hq:=hq _ rfl;simp only at ha hb hq;unfold y9 zZ at hq;refine zb.n GRf.h [] (.ex (q22 [.str a]) λn=>.all (λ(r:Int)=>r=errR n) λn=>.N (n=0) (.ex (q22 [.str a]) λn=>.all (λ(r:Int)=>r=errR n) λn=>.R [.str #[].toList,.str #[].toList,.str #[].toList,.str #[].toList,.i n] []) (.ex (q22 [.str b]) λn=>.all (λ(r:Int)=>r=errR n) λn=>.N (n=0) (.ex (q22 [.str b]) λn=>.all (λ(r:Int)=>r=errR n) λn=>.R [.str #[].toList,.str #[].toList,.str #[].toList,.str #[].toList,.i n] []) (.ex (q15 [.str a]) λn=>.all (λ(r:L8×L8)=>r=(Prod.fst (cutR n),if Prod.snd (Prod.snd (cutR n))=true then Prod.fst (Prod.snd (cutR n)) else [(49:UInt8)])) λn=>.ex (q15 [.str b]) λn_1=>.all (λ(r:L8×L8)=>r=(Prod.fst (cutR n_1),if Prod.snd (Prod.snd (cutR n_1))=true then Prod.fst (Prod.snd (cutR n_1)) else [(49:UInt8)])) λn_2=>.R [.str n.1,.str n.2,.str n_2.1,.str n_2.2,.i 0] []))) ?_;simp only [q15,q22,Tree.holds,zd];refine⟨a,⟨by simp,ha⟩,⟨_,rfl⟩,?_⟩;rintro _ rfl;refine⟨λh=> ?_,λh=>⟨b,⟨by simp,hb⟩,⟨_,rfl⟩,?_⟩⟩
 ·have h:errR a≠0:=by simpa using h
  rw [aO h,aP h] at hq;refine⟨a,⟨by simp,ha⟩,⟨_,rfl⟩,?_⟩;rintro _ rfl;exact RetR.scal hq rfl (by simp [resV])
 ·have h:errR a=0:=by simpa using h
  rw [aP h] at hq;rintro _ rfl;refine⟨λg=> ?_,λg=>⟨a,⟨by simp,by show a.length<_; omega⟩,⟨_,rfl⟩,?_⟩⟩
  ·have g:errR b≠0:=by simpa using g
   rw [aP g] at hq;refine⟨b,⟨by simp,hb⟩,⟨_,rfl⟩,?_⟩;rintro _ rfl;exact RetR.scal hq rfl (by simp [resV])
  ·have g:errR b=0:=by simpa using g
   rw [aO (by rw [g]; simp)] at hq;rintro _ rfl;refine⟨b,⟨by simp,by show b.length<_; omega⟩,⟨_,rfl⟩,?_⟩;rintro _ rfl;exact RetR.scal hq rfl (by simp [resV,numR,denR])
def Zt(a b:L8):L8×L8×Int:=if z5 a b≠0 then([],[],z5 a b) else((mulI (numR a) (denR b)).1,(mulI (numR b) (denR a)).1,0)
def zbe:Ctr:=ctrP true (λp:L8×L8=>[.str p.1,.str p.2]) (λp=>p.1.length<2^39/\p.2.length<2^39) (λp r=>r=Zt p.1 p.2) (λ_ r=>(.tup [.str r.1,.str r.2.1,.i r.2.2],[]))
noncomputable def GRc:=tb JS (tb zbq tz)
theorem zea:zc prog 96 zbe:=by
 refine ze' f96 λp hp O w0 Q hq=> ?_
 obtain⟨a,b⟩:=p;obtain⟨ha,hb⟩:=hp;replace hq:=hq _ rfl;simp only at ha hb hq;have ea:z5 a b=if zZ a b≠0 then zZ a b else if(mulI (numR a) (denR b)).2≠0\/(mulI (numR b) (denR a)).2≠0 then 14 else 0:=rfl
 unfold Zt at hq;refine zb.n GRc.h [] (.ex (q24 [.str a,.str b]) λn=>.all (λ(r:Q4)=>r=y9 n.1 n.2) λn=>.N (Q4.e n=0) (.R [.str #[].toList,.str #[].toList,.i n.e] []) (.ex (q24 [.str n.n,.str n.c]) λn_1=>.all (λ(r:L8×Int)=>r=mulI n_1.1 n_1.2) λn_2=>.ex (q24 [.str n.m,.str n.d]) λn=>.all (λ(r:L8×Int)=>r=mulI n.1 n.2) λn=>.ite (bif !decide (n_2.2=0) then true else !decide (n.2=0)) (.R [.str #[].toList,.str #[].toList,.i 14] []) (.R [.str n_2.1,.str n.1,.i 0] []))) ?_;simp only [q24,Tree.holds,zd];refine⟨(a,b),⟨⟨rfl,rfl,trivial⟩,by show a.length<_; omega,by show b.length<_; omega⟩,⟨_,rfl⟩,?_⟩;rintro _ rfl;simp only [y9];by_cases he:zZ a b=0
 ·rw [aO (by rw [he]; simp)];rw [he,aO (by simp)] at ea;have l1:=kQ a;have l2:=wV a;have l3:=kQ b;have l4:=wV b;refine⟨λh=>(by cases h),λ_=> ?_⟩;refine⟨(numR a,denR b),⟨⟨rfl,rfl,trivial⟩,by simp only; omega,by simp only; omega⟩,⟨_,rfl⟩,?_⟩;rintro _ rfl;refine⟨(numR b,denR a),⟨⟨rfl,rfl,trivial⟩,by simp only; omega,by simp only; omega⟩,⟨_,rfl⟩,?_⟩;rintro _ rfl;simp only;by_cases h1:(mulI (numR a) (denR b)).2=0
  ·by_cases h2:(mulI (numR b) (denR a)).2=0
   ·rw [aO (by simp [h1,h2])] at ea;rw [ea,aO (by simp)] at hq;refine⟨λh=>(by simp [h1,h2] at h),λ_=>RetR.scal hq rfl (by simp [resV])⟩
   ·rw [aP (.inr h2)] at ea;rw [ea,aP (by decide)] at hq;refine⟨λ_=>RetR.scal hq rfl (by simp [resV]),λh=>(by simp [h1,h2] at h)⟩
  ·rw [aP (.inl h1)] at ea;rw [ea,aP (by decide)] at hq;refine⟨λ_=>RetR.scal hq rfl (by simp [resV]),λh=>(by simp [h1] at h)⟩
 ·rw [aP he];rw [aP he] at ea;rw [ea,aP he] at hq;refine⟨λ_=>RetR.scal hq rfl (by simp [resV]),λh=>(by simp [he] at h)⟩
structure QF where
 n:L8
 d:L8
 e:Int
 f:Int
def zfy:Ctr:=ctrP true (λk:QF=>[.str k.n,.str k.d,.i k.e,.i k.f]) (λk=>k.n.length<2^40/\k.d.length<2^40) (λk r=>r=frac (k.n,k.e) (k.d,k.f)) (λ_ r=>(.tup [.str r.1,.i r.2],[]))
noncomputable def GRg:=tb zhl tz
theorem zhs:zc prog 131 zfy:=by
 refine ze' f131 λk hk O w0 Q hq=> ?_
 obtain⟨n,d,e,f⟩:=k;obtain⟨hn,hd⟩:=hk;replace hq:=hq _ rfl;simp only at hn hd hq;unfold frac at hq;refine zb.n GRg.h [] (.ite (bif !decide (e=0) then true else !decide (f=0)) (.R [.str #[].toList,.i 14] []) (.ex (q24 [.str n,.str d]) λn=>.all (λ(r:L8×Int)=>r=qX n.1 n.2) λn=>.R [.str n.1,.i n.2] [])) ?_;simp only [q24,Tree.holds,zd];by_cases h:e≠0\/f≠0
 ·rw [aP h] at hq;refine⟨λ_=>RetR.scal hq rfl (by simp [resV]),λg=> ?_⟩;exfalso;by_cases h1:e=0
  ·have h2:f≠0:=h.resolve_left (by simp [h1]);simp [h1,h2] at g
  ·simp [h1] at g
 ·rw [aO h] at hq;simp only [not_or,Classical.not_not] at h;refine⟨λg=>(by simp [h.1,h.2] at g),λ_=>⟨(n,d),⟨⟨rfl,rfl,trivial⟩,hn,hd⟩,⟨_,rfl⟩,?_⟩⟩;rintro _ rfl;exact RetR.scal hq rfl (by simp [resV])
def zfz:Ctr:=ctrP true (λs:L8=>[.str s]) (λs=>0<s.length/\s.length<2^40) (λs r=>r=negS s) (λ_ r=>(.str r,[]))
theorem zhj:zc prog 132 zfz:=by
 refine ze' f132 λs hp O w0 Q hq=> ?_
 obtain⟨h0,hl⟩:=hp;replace hq:=hq _ rfl;unfold negS at hq;refine zb.n zq [] (.D (s=#[(48:UInt8)].toList) (.R [.str s] []) (.side ((0:Int)<=0/\(0:Int)<s.length) (.D ((↑(UInt8.toNat (s.getD 0 (0:UInt8))):Int)=45) (.side ((0:Int)<=1/\(1:Int)<=s.length) (.R [.str (List.drop 1 (List.take s.length s))] [])) (.side (1+s.length<=9223372036854775807) (.R [.str (#[(45:UInt8)].toList++s)] []))))) ?_;simp only [Tree.holds,zd,inR,lo,hi,aD];refine⟨λh=> ?_,λh=>⟨⟨by omega,by omega⟩,λ_=>⟨λg=>⟨by omega,λ_=> ?_⟩,λg=>⟨by show 1+s.length<=_; omega,λ_=> ?_⟩⟩⟩⟩
 ·have h:s=[48]:=by simpa using h
  rw [aP h] at hq;exact RetR.scal hq rfl (by simp [resV])
 ·have h:s≠[48]:=aC h;have g:s.getD 0 0=45:=yE (aB g);rw [aO h,aP g] at hq;have e:List.drop (Int.toNat 1) (List.take s.length s)=s.drop 1:=by rw [bD]; rfl
  exact RetR.scal hq rfl (by simp [resV])
 ·have h:s≠[48]:=aC h;have g:¬ s.getD 0 0=45:=λh5=>aC g (by rw [h5]; rfl)
  rw [aO h,aO g] at hq;exact RetR.scal hq rfl (by simp [resV])
def Ua:Ctr:=ctrP true (λp:L8×L8=>[.str p.1,.str p.2]) (λp=>p.1.length<2^39/\p.2.length<2^39) (λp r=>r=addR p.1 p.2) (λ_ r=>(.tup [.str r.1,.i r.2],[]))
def zhv:Ctr:=ctrP true (λp:L8×L8=>[.str p.1,.str p.2]) (λp=>p.1.length<2^38/\p.2.length<2^38) (λp r=>r=subR p.1 p.2) (λ_ r=>(.tup [.str r.1,.i r.2],[]))
def zj3:Ctr:=ctrP true (λp:L8×L8=>[.str p.1,.str p.2]) (λp=>p.1.length<2^39/\p.2.length<2^39) (λp r=>r=mulR p.1 p.2) (λ_ r=>(.tup [.str r.1,.i r.2],[]))
def U2:Ctr:=ctrP true (λp:L8×L8=>[.str p.1,.str p.2]) (λp=>p.1.length<2^39/\p.2.length<2^39) (λp r=>r=cmpR p.1 p.2) (λ_ r=>(.tup [.i r.1,.i r.2],[]))
noncomputable def GRh:=tb JS (tb zea (tb zlo (tb zbq (tb zhs (tb zgv tz)))))
abbrev q40(A:List AV)(x:QF):Prop:=eqL A [.str x.n,.str x.d,.i x.e,.i x.f]/\x.n.length<1099511627776/\x.d.length<1099511627776
abbrev q39(A:List AV)(x:L8×L8):Prop:=eqL A [.str x.1,.str x.2]/\x.1.length<549755813888/\x.2.length<549755813888
theorem XA:zc prog 92 Ua:=by
 refine ze' f92 λp hp O w0 Q hq=> ?_
 obtain⟨a,b⟩:=p;obtain⟨ha,hb⟩:=hp;replace hq:=hq _ rfl;simp only at ha hb hq;unfold addR at hq;refine zb.n GRh.h [] (.ex (q39 [.str a,.str b]) λn=>.all (λ(r:L8×L8×Int)=>r=Zt n.1 n.2) λn=>.N (n.2.2=0) (.R [.str #[].toList,.i n.2.2] []) (.ex (q24 [.str a,.str b]) λn_1=>.all (λ(r:Q4)=>r=y9 n_1.1 n_1.2) λn_2=>.ex (q24 [.str n.1,.str n.2.1]) λn=>.all (λ(r:L8×Int)=>r=addI n.1 n.2) λn=>.ex (q24 [.str n_2.d,.str n_2.c]) λn_3=>.all (λ(r:L8×Int)=>r=mulI n_3.1 n_3.2) λn_4=>.ex (q40 [.str n.1,.str n_4.1,.i n.2,.i n_4.2]) λn=>.all (λ(r:L8×Int)=>r=frac (QF.n n,QF.e n) (QF.d n,QF.f n)) λn=>.R [.str n.1,.i n.2] [])) ?_;simp only [q24,q39,q40,Tree.holds,zd];refine⟨(a,b),⟨⟨rfl,rfl,trivial⟩,ha,hb⟩,⟨_,rfl⟩,?_⟩;rintro _ rfl;simp only [Zt];by_cases he:z5 a b=0
 ·rw [aO (by rw [he]; simp)] at hq ⊢;refine⟨λh=>(by cases h),λ_=> ?_⟩
  have h2:zZ a b=0:=by
   refine bM λh=> ?_
   unfold z5 at he;rw [aP h] at he;exact h he
  have l1:=jv (numR a) (denR b);have l2:=jv (numR b) (denR a);have l3:=wV a;have l4:=wV b;have l5:=jv (denR a) (denR b);have l6:=QS (mulI (numR a) (denR b)).1 (mulI (numR b) (denR a)).1;refine⟨(a,b),⟨⟨rfl,rfl,trivial⟩,by show a.length<_; omega,by show b.length<_; omega⟩,⟨_,rfl⟩,?_⟩;rintro _ rfl;simp only [y9];rw [aO (by rw [h2]; simp)];refine⟨((mulI (numR a) (denR b)).1,(mulI (numR b) (denR a)).1),⟨⟨rfl,rfl,trivial⟩,by simp only; omega,by simp only; omega⟩,⟨_,rfl⟩,?_⟩;rintro _ rfl;refine⟨(denR a,denR b),⟨⟨rfl,rfl,trivial⟩,by simp only; omega,by simp only; omega⟩,⟨_,rfl⟩,?_⟩;rintro _ rfl;refine⟨⟨_,_,_,_⟩,⟨⟨rfl,rfl,⟨rfl,rfl⟩,⟨rfl,rfl⟩,trivial⟩,Nat.lt_of_le_of_lt (QS _ _) (by decide),Nat.lt_of_le_of_lt (jv _ _) (by decide)⟩,⟨_,rfl⟩,?_⟩;rintro _ rfl;exact RetR.scal hq rfl (by simp [resV])
 ·rw [aP he] at hq ⊢;refine⟨λ_=>RetR.scal hq rfl (by simp [resV]),λh=>(by simp [he] at h)⟩
theorem zf8:zc prog 94 zj3:=by
 refine ze' f94 λp hp O w0 Q hq=> ?_
 obtain⟨a,b⟩:=p;obtain⟨ha,hb⟩:=hp;replace hq:=hq _ rfl;simp only at ha hb hq;unfold mulR at hq;refine zb.n GRh.h [] (.ex (q24 [.str a,.str b]) λn=>.all (λ(r:Q4)=>r=y9 n.1 n.2) λn=>.N (Q4.e n=0) (.R [.str #[].toList,.i n.e] []) (.ex (q24 [.str n.n,.str n.m]) λn_1=>.all (λ(r:L8×Int)=>r=mulI n_1.1 n_1.2) λn_2=>.ex (q24 [.str n.d,.str n.c]) λn=>.all (λ(r:L8×Int)=>r=mulI n.1 n.2) λn=>.ex (q40 [.str n_2.1,.str n.1,.i n_2.2,.i n.2]) λn=>.all (λ(r:L8×Int)=>r=frac (QF.n n,QF.e n) (QF.d n,QF.f n)) λn=>.R [.str n.1,.i n.2] [])) ?_;simp only [q24,q40,Tree.holds,zd];refine⟨(a,b),⟨⟨rfl,rfl,trivial⟩,by show a.length<_; omega,by show b.length<_; omega⟩,⟨_,rfl⟩,?_⟩;rintro _ rfl;simp only [y9];by_cases he:zZ a b=0
 ·rw [aO (by rw [he]; simp)] at hq ⊢;refine⟨λh=>(by cases h),λ_=> ?_⟩;have l1:=kQ a;have l2:=kQ b;have l3:=wV a;have l4:=wV b;have l5:=jv (denR a) (denR b);have l6:=jv (numR a) (numR b);refine⟨(numR a,numR b),⟨⟨rfl,rfl,trivial⟩,by simp only; omega,by simp only; omega⟩,⟨_,rfl⟩,?_⟩;rintro _ rfl;refine⟨(denR a,denR b),⟨⟨rfl,rfl,trivial⟩,by simp only; omega,by simp only; omega⟩,⟨_,rfl⟩,?_⟩;rintro _ rfl;refine⟨⟨_,_,_,_⟩,⟨⟨rfl,rfl,⟨rfl,rfl⟩,⟨rfl,rfl⟩,trivial⟩,Nat.lt_of_le_of_lt (jv _ _) (by decide),Nat.lt_of_le_of_lt (jv _ _) (by decide)⟩,⟨_,rfl⟩,?_⟩;rintro _ rfl;exact RetR.scal hq rfl (by simp [resV])
 ·rw [aP he] at hq ⊢;refine⟨λ_=>RetR.scal hq rfl (by simp [resV]),λh=>(by simp [he] at h)⟩
theorem Xg:zc prog 59 U2:=by
 refine ze' f59 λp hp O w0 Q hq=> ?_
 obtain⟨a,b⟩:=p;obtain⟨ha,hb⟩:=hp;replace hq:=hq _ rfl;simp only at ha hb hq;unfold cmpR at hq;refine zb.n GRh.h [] (.ex (q39 [.str a,.str b]) λn=>.all (λ(r:L8×L8×Int)=>r=Zt n.1 n.2) λn=>.N (n.2.2=0) (.R [.i 0,.i n.2.2] []) (.ex (q24 [.str n.1,.str n.2.1]) λn=>.all (λ(r:Int×Int)=>r=kx n.1 n.2) λn=>.R [.i n.1,.i n.2] [])) ?_;simp only [q24,q39,Tree.holds,zd];refine⟨(a,b),⟨⟨rfl,rfl,trivial⟩,ha,hb⟩,⟨_,rfl⟩,?_⟩;rintro _ rfl;simp only [Zt];by_cases he:z5 a b=0
 ·rw [aO (by rw [he]; simp)] at hq ⊢;refine⟨λh=>(by cases h),λ_=> ?_⟩;have l1:=jv (numR a) (denR b);have l2:=jv (numR b) (denR a);refine⟨((mulI (numR a) (denR b)).1,(mulI (numR b) (denR a)).1),⟨⟨rfl,rfl,trivial⟩,by simp only; omega,by simp only; omega⟩,⟨_,rfl⟩,?_⟩;rintro _ rfl;exact RetR.scal hq rfl (by simp [resV])
 ·rw [aP he] at hq ⊢;refine⟨λ_=>RetR.scal hq rfl (by simp [resV]),λh=>(by simp [he] at h)⟩
noncomputable def GRi:=tb JS (tb XA (tb zhj tz))
theorem zgx:zc prog 93 zhv:=by
 refine ze' f93 λp hp O w0 Q hq=> ?_
 obtain⟨a,b⟩:=p;obtain⟨ha,hb⟩:=hp;replace hq:=hq _ rfl;simp only at ha hb hq;refine zb.n GRi.h [] (.ex (q24 [.str a,.str b]) λn=>.all (λ(r:Q4)=>r=y9 n.1 n.2) λn=>.N (Q4.e n=0) (.R [.str #[].toList,.i n.e] []) (.ex (λ(x:L8)=>eqL [.str b] [.str x]/\0<x.length/\x.length<1099511627776) λn=>.all (λ(r:L8)=>r=negS n) λn=>.ex (q39 [.str a,.str n]) λn=>.all (λ(r:L8×Int)=>r=addR n.1 n.2) λn=>.R [.str n.1,.i n.2] [])) ?_;simp only [q24,q39,Tree.holds,zd];refine⟨(a,b),⟨⟨rfl,rfl,trivial⟩,by show a.length<_; omega,by show b.length<_; omega⟩,⟨_,rfl⟩,?_⟩;rintro _ rfl;simp only [y9];by_cases he:zZ a b=0
 ·rw [aO (by rw [he]; simp)];refine⟨λh=>(by cases h),λ_=> ?_⟩
  have hab:errR a=0/\errR b=0:=by
   unfold zZ at he;split at he
   ·rename_i h; exact⟨h,he⟩
   ·rename_i h; exact absurd he h
  have hb0:0<b.length:=by
   refine List.length_pos_iff.2 ?_;rintro rfl;exact absurd hab.2 (by decide)
  have hnl:(negS b).length<=b.length+1:=by
   unfold negS;split
   ·omega
   ·split<;>simp<;>omega
  refine⟨b,⟨by simp,hb0,by omega⟩,⟨_,rfl⟩,?_⟩;rintro _ rfl;refine⟨(a,negS b),⟨⟨rfl,rfl,trivial⟩,by show a.length<_; omega,by simp only; omega⟩,⟨_,rfl⟩,?_⟩;rintro _ rfl;rw [<- sub_neg hab.1 hab.2] at hq;exact RetR.scal hq rfl (by simp [resV])
 ·rw [aP he]
  have e:subR a b=([],zZ a b):=by
   have:z5 a b=zZ a b:=by unfold z5; rw [aP he]
   unfold subR;rw [this,aP he]
  rw [e] at hq;refine⟨λ_=>RetR.scal hq rfl (by simp [resV]),λh=>(by simp [he] at h)⟩
noncomputable def K12:=Go.Sx.aA f12
theorem uI{α:Type}{l m:List α}{i:Nat}{z:α}(h1:i<l.length)(h2:i<m.length)(h:l.take i=m.take i)(hg:l.getD i z=m.getD i z):l.take (i+1)=m.take (i+1):=by
 rw [List.take_add_one,List.take_add_one,h];congr 1;simp only [List.getD,aF h1,aF h2,Option.getD_some] at hg ⊢;rw [hg]
def StSt(i:Nat):KV:=[(2,.ptr 0 0),(3,.ptr 1 0),(5,.i (i:Int))]
def HtSt(n n':Int)(l m:List TOp):Heap:=[.box [.i n,opS l],.box [.i n',opS m]]
def Y4:Ctr:=ctrP true (λp:Tp×Tp=>[p.1.av,p.2.av]) (λp=>p.1.ops.length<2^60) (λp r=>(r=true↔p.1=p.2)) (λ_ (r:Bool)=>(.bool r,[]))
theorem zi7:zc prog 12 Y4:=by
 refine ze' f12 λp hp O w0 Q hq=> ?_
 obtain⟨⟨n,l⟩,⟨n',m⟩⟩:=p;simp only at hp hq;refine zb.n zq [2,3,5] (let v1:List Blk:=[.box [.i n,.sl l.length 4 (opG l)],.box [.i n',.sl m.length 4 (opG m)]];.ite (bif !decide (n=n') then true else !decide ((l.length:Int)=m.length)) (.R [.bool false] v1) (.leaf (.loop (lps K12 0).1 (lps K12 0).2 [(2,.ptr 0 0),(3,.ptr 1 0),(5,.i 0)] v1))) ?_;simp only [Tree.holds,zd];have no:∀ h,Tp.mk n l≠Tp.mk n' m->RetR Y4 0 Q [.bool false] h:=λh g=>RetR.scal (hq false (by simp [g])) rfl (by simp [resV])
 refine⟨λh=>no _ ?_,λh=> ?_⟩
 ·intro g; cases g; simp at h
 rw [orf] at h;have hn:n=n':=by simpa using h.1
 have hlm:l.length=m.length:=Int.ofNat.inj (show(l.length:Int)=m.length by simpa using h.2);subst hn;refine zb.loop (ι:={i:Nat // i<=l.length/\l.take i=m.take i}) (λi=>StSt i.1) (λ_=>HtSt n n l m) (λi=>l.length - i.1) ⟨0,aI _,by simp⟩ 0 ?_ ?_ (by kernel_rfl)
 ·exact⟨by simp [StSt],by simp [HtSt,opS,za],by kernel_rfl,aI _⟩
 rintro⟨i,hil,hie⟩;refine zb.n zq [2,3,5] (let v3:=m.getD (i:Int).toNat TOp.nil;let v2:=l.getD (i:Int).toNat TOp.nil;let v1:List Blk:=[.box [.i n,.sl l.length 4 (opG l)],.box [.i n,.sl m.length 4 (opG m)]];.D ((i:Int)<l.length) (.side ((0:Int)<=i/\(i:Int)<l.length) (.side ((0:Int)<=i/\(i:Int)<m.length) (.ite (!(decide (TOp.kind v2=TOp.kind v3)&&(decide (TOp.a v2=TOp.a v3)&&(decide (TOp.b v2=TOp.b v3)&&(decide (TOp.rat v2=TOp.rat v3)&&true))))) (.R [.bool false] v1) (.S (i+1) (.leaf (.back 0 [(2,.ptr 0 0),(3,.ptr 1 0),(5,.i (i+1))] v1)))))) (.R [.bool true] v1)) ?_;simp only [Tree.holds,zd,inR,lo,hi,aD,Nat.zero_add];refine⟨λhlt=> ?_,λhge=> ?_⟩
 ·have hlt:i<l.length:=by have:=aB hlt; omega
  refine⟨by omega,λ_=>⟨by omega,λ_=>⟨λh1=>no _ ?_,λh1=>⟨by omega,λ_=> ?_⟩⟩⟩⟩
  ·intro g; cases g; simp at h1
  ·have h1:l.getD i TOp.nil=m.getD i TOp.nil:=by
    simp only [Bool.not_eq_false',bA,aK,and_true] at h1;generalize l.getD i TOp.nil=x at h1 ⊢;generalize m.getD i TOp.nil=y at h1 ⊢;obtain⟨a,b,c,d⟩:=x;obtain⟨a',b',c',d'⟩:=y;simp only at h1;obtain⟨rfl,rfl,rfl,rfl⟩:=h1;rfl
   rw [aP trivial];refine⟨⟨i+1,hlt,uI hlt (by omega) hie h1⟩,by show l.length - (i+1)<l.length - i; omega,by simp [StSt],by simp [HtSt,opS,za],by kernel_rfl,aI _⟩
 ·have hge:i=l.length:=by have:=aC hge; omega
  subst hge;rw [bD,hlm,bD] at hie;exact RetR.scal (hq true (by simp [hie])) rfl (by simp [resV])
noncomputable def K13:=Go.Sx.aA f13
def StSf(l m:List Fx)(i:Nat):KV:=[(0,fxS l),(1,fxS m),(5,.i (i:Int))]
def Uy:Ctr:=ctrP true (λp:List Fx×List Fx=>[fxS p.1,fxS p.2]) (λp=>p.1.length<2^60) (λp r=>(r=true↔p.1=p.2)) (λ_ (r:Bool)=>(.bool r,[]))
theorem zit:zc prog 13 Uy:=by
 refine ze' f13 λp hp O w0 Q hq=> ?_
 obtain⟨l,m⟩:=p;simp only at hp hq;refine zb.n zq [0,1,5] (.N ((l.length:Int)=m.length) (.R [.bool false] []) (.leaf (.loop (lps K13 0).1 (lps K13 0).2 [(0,.sl l.length 3 (fxG l)),(1,.sl m.length 3 (fxG m)),(5,.i 0)] []))) ?_;simp only [Tree.holds,zd];have no:∀ h,l≠m->RetR Uy 0 Q [.bool false] h:=λh g=>RetR.scal (hq false (by simp [g])) rfl (by simp [resV])
 refine⟨λh=>no _ ?_,λh=> ?_⟩
 ·intro g; rw [g] at h; simp at h
 have hlm:l.length=m.length:=Int.ofNat.inj (show(l.length:Int)=m.length by simpa using h);refine zb.loop (ι:={i:Nat // i<=l.length/\l.take i=m.take i}) (λi=>StSf l m i.1) (λ_=>[]) (λi=>l.length - i.1) ⟨0,aI _,by simp⟩ 0 ?_ ?_ (by kernel_rfl)
 ·exact⟨by simp [StSf,fxS,za],by simp,by kernel_rfl,aI _⟩
 rintro⟨i,hil,hie⟩;refine zb.n zq [0,1,5] (let v2:=m.getD (i:Int).toNat Fx.nil;let v1:=l.getD (i:Int).toNat Fx.nil;.D ((i:Int)<l.length) (.side ((0:Int)<=i/\(i:Int)<l.length) (.side ((0:Int)<=i/\(i:Int)<m.length) (.ite (!(decide (Fx.name v1=Fx.name v2)&&(decide (Fx.date v1=Fx.date v2)&&(decide (Fx.value v1=Fx.value v2)&&true)))) (.R [.bool false] []) (.S (i+1) (.leaf (.back 0 [(0,.sl l.length 3 (fxG l)),(1,.sl m.length 3 (fxG m)),(5,.i (i+1))] [])))))) (.R [.bool true] [])) ?_;simp only [Tree.holds,zd,inR,lo,hi,aD,Nat.zero_add];refine⟨λhlt=> ?_,λhge=> ?_⟩
 ·have hlt:i<l.length:=by have:=aB hlt; omega
  refine⟨by omega,λ_=>⟨by omega,λ_=>⟨λh1=>no _ ?_,λh1=>⟨by omega,λ_=> ?_⟩⟩⟩⟩
  ·intro g; cases g; simp at h1
  ·have h1:l.getD i Fx.nil=m.getD i Fx.nil:=by
    simp only [Bool.not_eq_false',bA,aK,and_true] at h1;generalize l.getD i Fx.nil=x at h1 ⊢;generalize m.getD i Fx.nil=y at h1 ⊢;obtain⟨a,b,c⟩:=x;obtain⟨a',b',c'⟩:=y;simp only at h1;obtain⟨rfl,rfl,rfl⟩:=h1;rfl
   rw [aP trivial];refine⟨⟨i+1,hlt,uI hlt (by omega) hie h1⟩,by show l.length - (i+1)<l.length - i; omega,by simp [StSf,fxS,za],by simp,by kernel_rfl,aI _⟩
 ·have hge:i=l.length:=by have:=aC hge; omega
  subst hge;rw [bD,hlm,bD] at hie;exact RetR.scal (hq true (by simp [hie])) rfl (by simp [resV])
end Go.Proofs.Tryz
end
section
namespace Go.Sx
variable [Stat]
section
variable {O:Nat->Prop} {pin:Nat} {w0:World} {I0:List SE} {w:World} {σ:List SE} {P:Program} {st:St} {a:Act} {fn:Func} {Xp:List PanicEntry->Prop}
theorem Wv{own:Nat->Prop}{i sz:Nat}(he:σ[i]?=some ⟨none,0⟩):∀ (cs:List AV) (j:Nat) (vs:List Value),cs[j]?=some .nils->RepL own w cs σ vs->RepL own w (cs.set j (.osl i sz 0 0)) σ vs
 | [],j,_,h,_=>by simp at h
 | b::l,0,vs,h,hr=>by
  simp only [List.getElem?_cons_zero,aE] at h;subst h;simp only [RepL] at hr;obtain⟨v,r,rfl,h1,h2⟩:=hr;simp only [Rep] at h1;simp only [List.set_cons_zero,RepL];refine⟨v,r,rfl,?_,h2⟩;rw [h1];simp only [Rep];exact⟨⟨none,0⟩,he,by simp,none,0,rfl,aJ _,.inl rfl⟩
 | b::l,j+1,vs,h,hr=>by
  simp only [List.getElem?_cons_succ] at h;simp only [RepL] at hr;obtain⟨v,r,rfl,h1,h2⟩:=hr;simp only [List.set_cons_succ,RepL];exact⟨v,r,rfl,h1,Wv he l j r h h2⟩
def zce(st:St)(i j sz:Nat)(g:Nat->Nat->AV)(cs:List AV):St:=⟨st.tmps,st.heap.set i (.box (cs.set j (.osl st.heap.length sz 0 0)))++[.arr 0 sz g]⟩
theorem zd0(hm:Mod O pin w0 I0 w σ st a){i j sz:Nat}{g:Nat->Nat->AV}{cs:List AV}(hb:st.heap[i]?=some (.box cs))(hj:cs[j]?=some .nils)(hno:st.tmps.all zJ=true):Mod O pin w0 I0 w (σ++[⟨none,0⟩]) (zce st i j sz g cs) a:=by
 obtain⟨k1,k2,k3⟩:=KF hm.good hm.hp sz g;have hx:=ext_nil (O:=O) w σ 0;have hlt:=(aG.1 hb).1
 have hp:HRep (Own O (σ++[⟨none,0⟩])) w (σ++[⟨none,0⟩]) ((st.heap++[Blk.arr 0 sz g]).set i (Blk.box (cs.set j (.osl st.heap.length sz 0 0)))):=by
  refine VT k1 λe he=> ?_
  have h1:=k1.blk i e (.box cs) he (by rw [bL hlt]; exact hb);simp only [BRep] at h1 ⊢;obtain⟨ad,vs,el,q1,q2,q3,q4⟩:=h1;exact⟨ad,vs,el,q1,q2,q3,Wv (by rw [<- hm.hp.len]; simp) cs j vs hj q4⟩
 rw [List.set_append_left _ _ hlt] at hp;refine⟨k2,hp,by simp [zce,hm.size],λu=> ?_,hm.df.ext hx,hm.since.trans ⟨hx,λ_ _ _=>rfl,vp.of k3 (by simp)⟩,hm.lim⟩;have hu:=hm.tm u;show TRep _ _ _ _ (st.tmps.getD u .undef) _
 have hn:zJ (st.tmps.getD u .undef)=true:=by
  by_cases hlt:u<st.tmps.length
  ·simp only [List.getD,aF hlt,Option.getD_some];exact bG.1 hno _ (bK hlt)
  ·simp only [List.getD];rw [aZ (by omega)]; rfl
 generalize st.tmps.getD u .undef=x at hu hn;cases x with
 | opt _ _ _=>simp [zJ] at hn
 | _=>simp only [TRep] at hu ⊢; exact qg hx k3 _ _ (jx _) hu
theorem zb.zck{M:Option Nat}{Hs:Nat->KV->Heap->Prop}{R:List AV->Heap->Prop}{k:List Item}{kv:KV}{h:Heap}(i j sz:Nat)(g:Nat->Nat->AV){cs:List AV}(hb:h[i]?=some (.box cs))(hj:cs[j]?=some .nils)(hno:(pk fn.ntmps kv).all zJ=true)
  (H:zA Xp M P fn O pin w0 I0 Hs R k (mk fn.ntmps kv (h.set i (.box (cs.set j (.osl h.length sz 0 0)))++[.arr 0 sz g]))):zA Xp M P fn O pin w0 I0 Hs R k (mk fn.ntmps kv h):=
 λw σ a hm=>H w _ a (zd0 hm hb hj hno)
end
end Go.Sx
end
section
namespace Go.Nov
def askE(x:Ex)(want day:Int)(f:List Fx)(c:List Ch):Int:=if x.errX≠0 then x.errX else if x.zu≠want then 32 else if errE f c≠0 then errE f c else if dayB day then 0 else 2
def zG(x:Ex)(day:Int)(f:List Fx)(c:List Ch):L8×Int:=if askE x 1 day f c≠0 then([],askE x 1 day f c) else if(x.ev f day).e≠0 then([],(x.ev f day).e) else((x.ev f day).v,0)
def vE(x:Ex)(day:Int)(f:List Fx)(c:List Ch):Bool×Int:=if askE x 2 day f c≠0 then(false,askE x 2 day f c) else if(x.ev f day).g≠0 then(false,(x.ev f day).g) else((x.ev f day).b,0)
theorem zn7{x:Ex}{want day:Int}{f:List Fx}{c:List Ch}(h:x.errX≠0):askE x want day f c=x.errX:=by unfold askE; rw [aP h]
theorem znb{x:Ex}{want day:Int}{f:List Fx}{c:List Ch}(h:x.errX=0)(h2:¬ x.zu=want):askE x want day f c=32:=by unfold askE; rw [aO (by rw [h]; simp),aP h2]
theorem zba{x:Ex}{want day:Int}{f:List Fx}{c:List Ch}(h:x.errX=0)(h2:x.zu=want):askE x want day f c=if errE f c=0 then(if dayB day=true then 0 else 2) else errE f c:=by
 unfold askE;rw [aO (by rw [h]; simp),aO (by rw [h2]; simp)];by_cases g:errE f c=0
 ·rw [aP g,aO (by rw [g]; simp)]
 ·rw [aO g,aP g]
theorem yb{x:Ex}{want day:Int}{f:List Fx}{c:List Ch}(h:askE x want day f c=0):x.errX=0/\x.zu=want/\errE f c=0/\dayB day=true:=by
 unfold askE at h;split at h
 ·rename_i g; exact absurd h g
 ·rename_i g1;split at h
  ·cases h
  ·rename_i g2;split at h
   ·rename_i g; exact absurd h g
   ·rename_i g3;split at h
    ·rename_i g4;exact⟨Classical.not_not.1 g1,Classical.not_not.1 g2,Classical.not_not.1 g3,g4⟩
    ·cases h
end Go.Nov
end
section
namespace Go.Nov
open Go.Sx
structure Pt(x y:Ex):Prop where
 x0:x.errX=0
 x1:x.zu=1
 y0:y.errX=0
 y1:y.zu=1
 s:x.size+y.size<500
 d1:x.depth<60
 d2:y.depth<60
section
variable {x y:Ex} {day:Int} {f:List Fx} {c:List Ch} (h:Pt x y)
include h
end
end Go.Nov
end
section
namespace Go.Nov
open Go.Sx
structure RS where
 ops:List TOp
 inp:List Fx
namespace RS
def put(s:RS)(o:TOp):RS:=⟨s.ops++[o],s.inp⟩
def idx(s:RS)(n:L8)(d:Int):Nat:=s.inp.findIdx λx=>decide (x.name=n)&&decide (x.date=d)
def fix(f:List Fx)(n:L8)(d:Int)(s:RS):RS:=if s.idx n d<s.inp.length then s.put ⟨1,s.idx n d,0,[]⟩ else⟨s.ops++[⟨1,s.inp.length,0,[]⟩],s.inp++[⟨n,d,(zP f n d).1⟩]⟩
end RS
def rcN(f:List Fx)(day k:Int)(r n:L8)(d:Int)(l:List Ev)(L:List (RS->RS))(s:RS):RS:=
 if k=1 then s.put ⟨2,0,0,r⟩ else if k=2 then s.fix f n d else if k=3 then s.fix f n day
 else if k=9 then(if(l.getD 0 Ev.nil).b then L.getD 1 id s else L.getD 2 id s)
 else if k=7 then(if(cmpR (l.getD 0 Ev.nil).v (l.getD 1 Ev.nil).v).1<0 then L.getD 1 id s else L.getD 0 id s)
 else if k=8 then(if 0<(cmpR (l.getD 0 Ev.nil).v (l.getD 1 Ev.nil).v).1 then L.getD 1 id s else L.getD 0 id s)
 else(L.getD 1 id (L.getD 0 id s)).put ⟨k - 1,((L.getD 0 id s).ops.length:Int) - 1,((L.getD 1 id (L.getD 0 id s)).ops.length:Int) - 1,[]⟩
namespace Ex
mutual
def rc(f:List Fx)(day:Int):Ex->RS->RS
 | mk k r n d s=>rcN f day k r n d (evs f day s) (rcs f day s)
def rcs(f:List Fx)(day:Int):List Ex->List (RS->RS)
 | []=>[]
 | x::l=>rc f day x::rcs f day l
end
theorem zbs(f:List Fx)(day:Int)(x:Ex):x.rc f day=rcN f day x.kind x.rat x.name x.date (evs f day x.sub) (rcs f day x.sub):=by cases x; rw [rc]; rfl
theorem xa{f:List Fx}{day:Int}{s:List Ex}{i:Nat}(h:i<s.length):(rcs f day s).getD i id=(s.getD i nil).rc f day:=by
 induction s generalizing i with
 | nil=>simp at h
 | cons x s ih=>
  rw [rcs];cases i with
  | zero=>rfl
  | succ i=>exact ih (by simpa using h)
end Ex
def InvR(f:List Fx)(s:RS):Prop:=(∀ i j,i<j->j<s.inp.length->¬ ((s.inp.getD i Fx.nil).name=(s.inp.getD j Fx.nil).name/\(s.inp.getD i Fx.nil).date=(s.inp.getD j Fx.nil).date))/\∀ j,j<s.inp.length->zP f (s.inp.getD j Fx.nil).name (s.inp.getD j Fx.nil).date=((s.inp.getD j Fx.nil).value,true)
structure SemR(v:L8)(m:Nat)(s s':RS)(new:List TOp)(ext:List Fx):Prop where
 ops:s'.ops=s.ops++new
 inp:s'.inp=s.inp++ext
 pos:0<new.length
 le:new.length<=m
 ext:ext.length<=new.length
 ok:jG (s'.inp.length:Int) s.ops.length new
 run:∀ X out:List L8,(∀ j,j<s'.inp.length->X.getD j []=(s'.inp.getD j Fx.nil).value)->out.length=s.ops.length->∃ vals,runF X new out=(out++vals,0)/\vals.length=new.length/\(out++vals).getD (s.ops.length+new.length - 1) []=v
theorem zcr{n m:Int}{k:Nat}{o:TOp}(h:okOp n k o=true)(hm:n<=m):okOp m k o=true:=by
 unfold okOp at h ⊢;split
 ·rename_i g; rw [aP g] at h;simp only [bA,aK] at h ⊢;exact⟨⟨⟨h.1.1.1,by omega⟩,h.1.2⟩,h.2⟩
 ·rename_i g; rw [aO g] at h; exact h
theorem ZX{n m:Int}(hm:n<=m):∀ (l:List TOp) (k:Nat),jG n k l->jG m k l
 | [],_,_=>trivial
 | o::l,k,h=>⟨zcr h.1 hm,ZX hm l (k+1) h.2⟩
theorem kK{α:Type}{a b:List α}{z:α}{i:Nat}(h:i<a.length):(a++b).getD i z=a.getD i z:=by
 simp only [List.getD,bL h]
theorem VZ{v:L8}{s:RS}{o:TOp}{ext:List Fx}(hx:ext.length<=1)(h:okOp ((s.inp++ext).length:Int) s.ops.length o=true)
  (hv:∀ X out:List L8,(∀ j,j<(s.inp++ext).length->X.getD j []=((s.inp++ext).getD j Fx.nil).value)->out.length=s.ops.length->qp X out o=(v,0)):SemR v 1 s ⟨s.ops++[o],s.inp++ext⟩ [o] ext:=by
 refine⟨rfl,rfl,by simp,by simp,hx,⟨h,trivial⟩,λX out hX ho=>⟨[v],?_,rfl,?_⟩⟩
 ·simp only [runF,hv X out hX ho]; rfl
 ·simp [List.getD,ho]
theorem zb6{f:List Fx}{n:L8}{d:Int}{v:L8}{s:RS}(hs:InvR f s)(hv:zP f n d=(v,true)):∃ new ext,SemR v 1 s (s.fix f n d) new ext/\InvR f (s.fix f n d):=by
 unfold RS.fix;split
 ·rename_i g;have hp:=List.findIdx_getElem (w:=g);simp only [bA,aK] at hp;have e:s.inp.getD (s.idx n d) Fx.nil=s.inp[s.idx n d]:=by simp [List.getD,g]
  refine⟨[⟨1,s.idx n d,0,[]⟩],[],?_,hs⟩;have:=VZ (v:=v) (s:=s) (o:=⟨1,s.idx n d,0,[]⟩) (ext:=[]) (by simp) ?_ ?_
  ·simpa [RS.put] using this
  ·unfold okOp;simp;exact g
  ·intro X out hX ho;unfold qp;rw [aP rfl];have h1:=hX (s.idx n d) (by simpa using g);have h2:=hs.2 (s.idx n d) g;rw [e] at h2;rw [List.append_nil,e] at h1;have hp1:s.inp[s.idx n d].name=n:=hp.1;have hp2:s.inp[s.idx n d].date=d:=hp.2;rw [hp1,hp2,hv] at h2;have h3:v=s.inp[s.idx n d].value:=congrArg Prod.fst h2;show(X.getD ((s.idx n d:Int)).toNat [],(0:Int))=(v,0);rw [aD,h1,<- h3]
 ·rename_i g;refine⟨[⟨1,s.inp.length,0,[]⟩],[⟨n,d,(zP f n d).1⟩],?_,?_,?_⟩
  ·refine VZ (by simp) ?_ ?_
   ·unfold okOp;simp;omega
   ·intro X out hX ho;unfold qp;rw [aP rfl];have h1:=hX s.inp.length (by simp);show(X.getD ((s.inp.length:Int)).toNat [],(0:Int))=(v,0);rw [aD,h1,hv];simp [List.getD]
  ·intro i j hij hj;simp only [bO,aL,List.length_nil] at hj;rcases aR j s.inp.length with q | q
   ·rw [kK (by omega),kK q]; exact hs.1 i j hij q
   ·obtain rfl:j=s.inp.length:=by omega
    rw [kK hij];have e:(s.inp++[(⟨n,d,(zP f n d).1⟩:Fx)]).getD s.inp.length Fx.nil=⟨n,d,(zP f n d).1⟩:=by simp [List.getD]
    rw [e];intro w;have hi2:¬ i<s.idx n d->False:=λhh=>by omega
    have:i<s.idx n d:=bM λhh=>by omega
    have:=List.not_of_lt_findIdx this;have e2:s.inp.getD i Fx.nil=s.inp[i]:=by simp [List.getD,hij]
    rw [e2] at w;simp [w.1,w.2] at this
  ·intro j hj;simp only [bO,aL,List.length_nil] at hj;rcases aR j s.inp.length with q | q
   ·rw [kK q]; exact hs.2 j q
   ·obtain rfl:j=s.inp.length:=by omega
    have e:(s.inp++[(⟨n,d,(zP f n d).1⟩:Fx)]).getD s.inp.length Fx.nil=⟨n,d,(zP f n d).1⟩:=by simp [List.getD]
    rw [e];show zP f n d=_;rw [hv]
theorem zm5{v0 v1 v:L8}{m0 m1:Nat}{s s1 s2:RS}{n0 n1:List TOp}{e0 e1:List Fx}{k:Int}(h0:SemR v0 m0 s s1 n0 e0)(h1:SemR v1 m1 s1 s2 n1 e1)(hk:3<=k/\k<=5)(hv:arR k v0 v1=(v,0)) :
  SemR v (1+m0+m1) s (s2.put ⟨k,(s1.ops.length:Int) - 1,(s2.ops.length:Int) - 1,[]⟩) (n0++n1++[⟨k,(s1.ops.length:Int) - 1,(s2.ops.length:Int) - 1,[]⟩]) (e0++e1):=by
 have l1:s1.ops.length=s.ops.length+n0.length:=by rw [h0.ops]; simp
 have l2:s2.ops.length=s.ops.length+n0.length+n1.length:=by rw [h1.ops,bO,l1]
 have p0:=h0.pos;have p1:=h1.pos;have i2:s2.inp.length=s1.inp.length+e1.length:=by rw [h1.inp]; simp
 refine⟨?_,?_,by simp; omega,?_,by have:=h0.ext; have:=h1.ext; simp only [bO,aL,List.length_nil]; omega,?_,?_⟩
 ·have e:s2.ops=s.ops++(n0++n1):=by rw [h1.ops,h0.ops,List.append_assoc]
  show s2.ops++[_]=s.ops++(n0++n1++[_]);rw [<- List.append_assoc,<- e]
 ·simp only [RS.put,h1.inp,h0.inp,List.append_assoc]
 ·have:=h0.le; have:=h1.le;simp only [bO,aL,List.length_nil]; omega
 ·refine ki _ _ _ (ki _ _ _ ?_ ?_) ⟨?_,trivial⟩
  ·exact ZX (by show(s1.inp.length:Int)<=(s2.inp.length:Int); omega) _ _ h0.ok
  ·rw [<- l1]; exact h1.ok
  ·unfold okOp;rw [aO (by show ¬ k=1; omega),aO (by show ¬ k=2; omega),aP (by show 3<=k/\k<=6; omega)];simp only [bO,bA,aK];refine⟨⟨⟨by omega,by omega⟩,by omega,by omega⟩,trivial⟩
 ·intro X out hX ho;have hX2:∀ j,j<s2.inp.length->X.getD j []=(s2.inp.getD j Fx.nil).value:=hX;obtain⟨w0,r0,q0,z0⟩:=h0.run X out (λj hj=>by rw [hX2 j (by omega),h1.inp,kK hj]) ho;obtain⟨w1,r1,q1,z1⟩:=h1.run X (out++w0) hX2 (by rw [bO,ho,q0,l1]);refine⟨w0++w1++[v],?_,by simp [q0,q1],?_⟩
  ·rw [ya,ya,r0];simp only [ne_eq,not_true_eq_false,if_false];rw [r1];simp only [ne_eq,not_true_eq_false,if_false]
   have a1:(out++w0++w1).getD (((s1.ops.length:Int) - 1).toNat) []=v0:=by
    rw [show((s1.ops.length:Int) - 1).toNat=s.ops.length+n0.length - 1 by omega,kK (by rw [bO,ho,q0]; omega)];exact z0
   have a2:(out++w0++w1).getD (((s2.ops.length:Int) - 1).toNat) []=v1:=by
    rw [show((s2.ops.length:Int) - 1).toNat=s1.ops.length+n1.length - 1 by omega];exact z1
   have a3:qp X (out++w0++w1) ⟨k,(s1.ops.length:Int) - 1,(s2.ops.length:Int) - 1,[]⟩=(v,0):=by
    unfold qp;rw [aO (by show ¬ k=1; omega),aO (by show ¬ k=2; omega)];show arR k _ _=_;rw [a1,a2,hv]
   simp only [runF,a3,ne_eq,not_true_eq_false,if_false];simp [List.append_assoc]
  ·have e:s.ops.length+(n0++n1++[(⟨k,(s1.ops.length:Int) - 1,(s2.ops.length:Int) - 1,[]⟩:TOp)]).length - 1=(out++(w0++w1)).length:=by
    simp only [bO,aL,List.length_nil]; omega
   rw [e,<- List.append_assoc];simp [List.getD]
theorem SemR.mono{v:L8}{m m':Nat}{s s':RS}{new:List TOp}{ext:List Fx}(h:SemR v m s s' new ext)(hm:m<=m'):SemR v m' s s' new ext:=⟨h.ops,h.inp,h.pos,bP h.le hm,h.ext,h.ok,h.run⟩
theorem zgn{f:List Fx}{n:L8}{d:Int}(h:(fixR f n d).2=0):zP f n d=((fixR f n d).1,true):=by
 unfold fixR at h ⊢;by_cases g:(zP f n d).2=true
 ·rw [aP g,<- g]
 ·rw [aO g] at h; cases h
theorem QM{l0 l1:Ev}{g:L8->L8->L8×Int}(h:(jT [] l0 l1 g).2=0):l0.e=0/\l1.e=0/\jT [] l0 l1 g=g l0.v l1.v:=by
 unfold jT at h ⊢;by_cases a:l0.e=0
 ·by_cases b:l1.e=0
  ·rw [aO (λq=>q a),aO (λq=>q b)]; exact⟨a,b,rfl⟩
  ·rw [aO (λq=>q a),aP b] at h; exact absurd h b
 ·rw [aP a] at h; exact absurd h a
theorem ev_v(f:List Fx)(day:Int)(x:Ex):(x.ev f day).v=(valN f day x.kind x.rat x.name x.date (Ex.evs f day x.sub)).1/\(x.ev f day).e=(valN f day x.kind x.rat x.name x.date (Ex.evs f day x.sub)).2:=by
 rw [Ex.zpu]; exact⟨rfl,rfl⟩
theorem vF{x:Ex}{i:Nat}(h:i<x.sub.length):(x.sub.getD i Ex.nil).size<x.size:=by
 have:=Ex.z4 h;rw [Ex.size_eq x]; omega
theorem ZC{s:List Ex}(h:s.length=2):(s.getD 0 Ex.nil).size+(s.getD 1 Ex.nil).size=Ex.z6 s:=by
 match s,h with
 | [a,b],_=>simp [Ex.z6]
theorem zoj{f:List Fx}(hf:f.all okF=true){day:Int} : ∀ (N:Nat) (x:Ex),x.size<=N->x.zu=1->(x.ev f day).e=0->∀ s:RS,InvR f s->∃ new ext,SemR (x.ev f day).v x.size s (x.rc f day s) new ext/\InvR f (x.rc f day s):=by
 intro N
 induction N with
 | zero=>intro x h; have:=Ex.size_pos x; omega
 | succ N ih=>
  intro x hN hs he s hI;obtain⟨e1,e2⟩:=ev_v f day x;rw [e2] at he;rw [e1,Ex.zbs];have hpos:=Ex.size_pos x;rcases Ex.v9 hs with ⟨hk,hr⟩ | hk | hk | ⟨hk,hl,s0,s1⟩ | ⟨hk,hl,s0,s1,s2⟩
  ·have ev:valN f day x.kind x.rat x.name x.date (Ex.evs f day x.sub)=(x.rat,0):=by unfold valN; rw [aP hk]
   have er:rcN f day x.kind x.rat x.name x.date (Ex.evs f day x.sub) (Ex.rcs f day x.sub) s=⟨s.ops++[⟨2,0,0,x.rat⟩],s.inp++[]⟩:=by unfold rcN; rw [aP hk]; simp [RS.put]
   rw [ev,er];refine⟨[⟨2,0,0,x.rat⟩],[],(VZ (by simp) ?_ ?_).mono hpos,by simpa [InvR] using hI⟩
   ·unfold okOp; simp [hr]
   ·intro X out _ _; unfold qp; rfl
  ·have ev:valN f day x.kind x.rat x.name x.date (Ex.evs f day x.sub)=fixR f x.name x.date:=by unfold valN; rw [aO (by omega),aP hk]
   have er:rcN f day x.kind x.rat x.name x.date (Ex.evs f day x.sub) (Ex.rcs f day x.sub) s=s.fix f x.name x.date:=by unfold rcN; rw [aO (by omega),aP hk]
   rw [ev] at he;rw [ev,er];obtain⟨new,ext,h1,h2⟩:=zb6 hI (zgn he);exact⟨new,ext,h1.mono hpos,h2⟩
  ·have ev:valN f day x.kind x.rat x.name x.date (Ex.evs f day x.sub)=fixR f x.name day:=by unfold valN; rw [aO (by omega),aO (by omega),aP hk]
   have er:rcN f day x.kind x.rat x.name x.date (Ex.evs f day x.sub) (Ex.rcs f day x.sub) s=s.fix f x.name day:=by unfold rcN; rw [aO (by omega),aO (by omega),aP hk]
   rw [ev] at he;rw [ev,er];obtain⟨new,ext,h1,h2⟩:=zb6 hI (zgn he);exact⟨new,ext,h1.mono hpos,h2⟩
  ·have z0:=vF (x:=x) (i:=0) (by omega);have z1:=vF (x:=x) (i:=1) (by omega);have w:=ZC hl;have wx:=Ex.size_eq x;have g0:=Ex.zD (f:=f) (day:=day) (s:=x.sub) (i:=0) (by omega);have g1:=Ex.zD (f:=f) (day:=day) (s:=x.sub) (i:=1) (by omega);have r0:=Ex.xa (f:=f) (day:=day) (s:=x.sub) (i:=0) (by omega);have r1:=Ex.xa (f:=f) (day:=day) (s:=x.sub) (i:=1) (by omega)
   have ev:valN f day x.kind x.rat x.name x.date (Ex.evs f day x.sub)=jT [] ((x.sub.getD 0 Ex.nil).ev f day) ((x.sub.getD 1 Ex.nil).ev f day) (opR x.kind):=by
    unfold valN; rw [aO (by omega),aO (by omega),aO (by omega),aO (by omega),g0,g1]
   rw [ev] at he;obtain⟨b0,b1,b2⟩:=QM he;rw [ev,b2];rw [b2] at he;have i0:=ih _ (by omega) s0 b0;have i1:=ih _ (by omega) s1 b1;generalize hx0:x.sub.getD 0 Ex.nil=x0 at *
   generalize hx1:x.sub.getD 1 Ex.nil=x1 at *
   unfold rcN;rw [aO (by omega),aO (by omega),aO (by omega),aO (by omega),g0,g1,r0,r1];by_cases k7:x.kind=7
   ·rw [aP k7];rw [k7] at he ⊢;have o:opR 7 (x0.ev f day).v (x1.ev f day).v=if(cmpR (x0.ev f day).v (x1.ev f day).v).2≠0 then([],(cmpR (x0.ev f day).v (x1.ev f day).v).2) else(if(cmpR (x0.ev f day).v (x1.ev f day).v).1<0 then(x1.ev f day).v else(x0.ev f day).v,0):=rfl
    by_cases c:(cmpR (x0.ev f day).v (x1.ev f day).v).2=0
    ·rw [o,aO (λq=>q c)];by_cases d:(cmpR (x0.ev f day).v (x1.ev f day).v).1<0
     ·rw [aP d,aP d];obtain⟨new,ext,h1,h2⟩:=i1 s hI;exact⟨new,ext,h1.mono (by omega),h2⟩
     ·rw [aO d,aO d];obtain⟨new,ext,h1,h2⟩:=i0 s hI;exact⟨new,ext,h1.mono (by omega),h2⟩
    ·rw [o,aP c] at he; exact absurd he c
   rw [aO k7];by_cases k8:x.kind=8
   ·rw [aP k8];rw [k8] at he ⊢;have q0:=Ex.wm hf day x0 s0 b0;have q1:=Ex.wm hf day x1 s1 b1;obtain⟨p1,p2⟩:=KY q0 q1;have o:opR 8 (x0.ev f day).v (x1.ev f day).v=if(cmpR (x1.ev f day).v (x0.ev f day).v).2≠0 then([],(cmpR (x1.ev f day).v (x0.ev f day).v).2) else(if(cmpR (x1.ev f day).v (x0.ev f day).v).1<0 then(x1.ev f day).v else(x0.ev f day).v,0):=rfl
    by_cases c:(cmpR (x1.ev f day).v (x0.ev f day).v).2=0
    ·rw [o,aO (λq=>q c)];by_cases d:(cmpR (x1.ev f day).v (x0.ev f day).v).1<0
     ·rw [aP d,aP (p2.1 d)];obtain⟨new,ext,h1,h2⟩:=i1 s hI;exact⟨new,ext,h1.mono (by omega),h2⟩
     ·rw [aO d,aO (λq=>d (p2.2 q))];obtain⟨new,ext,h1,h2⟩:=i0 s hI;exact⟨new,ext,h1.mono (by omega),h2⟩
    ·rw [o,aP c] at he; exact absurd he c
   rw [aO k8]
   have o:opR x.kind (x0.ev f day).v (x1.ev f day).v=arR (x.kind - 1) (x0.ev f day).v (x1.ev f day).v:=by
    unfold opR arR;rcases(show x.kind=4\/x.kind=5\/x.kind=6 by omega) with q | q | q<;>rw [q]<;>simp
   obtain⟨n0,t0,h0,j0⟩:=i0 s hI;obtain⟨n1,t1,h1,j1⟩:=i1 _ j0;refine⟨_,_,(zm5 h0 h1 (k:=x.kind - 1) (by omega) ?_).mono (by omega),j1⟩;rw [<- o,<- he]
  ·have z1:=vF (x:=x) (i:=1) (by omega);have z2:=vF (x:=x) (i:=2) (by omega);have g0:=Ex.zD (f:=f) (day:=day) (s:=x.sub) (i:=0) (by omega);have g1:=Ex.zD (f:=f) (day:=day) (s:=x.sub) (i:=1) (by omega);have g2:=Ex.zD (f:=f) (day:=day) (s:=x.sub) (i:=2) (by omega);have r1:=Ex.xa (f:=f) (day:=day) (s:=x.sub) (i:=1) (by omega);have r2:=Ex.xa (f:=f) (day:=day) (s:=x.sub) (i:=2) (by omega);unfold rcN;rw [aO (by omega),aO (by omega),aO (by omega),aP hk,g0,r1,r2];unfold valN at he ⊢;rw [aO (by omega),aO (by omega),aO (by omega),aP hk,g0,g1,g2] at he ⊢;by_cases c:((x.sub.getD 0 Ex.nil).ev f day).g=0
   ·rw [aO (λq=>q c)] at he ⊢;by_cases d:((x.sub.getD 0 Ex.nil).ev f day).b=true
    ·rw [aP d] at he ⊢;rw [aP d];obtain⟨new,ext,h1,h2⟩:=ih _ (by omega) s1 he s hI;exact⟨new,ext,h1.mono (by omega),h2⟩
    ·rw [aO d] at he ⊢;rw [aO d];obtain⟨new,ext,h1,h2⟩:=ih _ (by omega) s2 he s hI;exact⟨new,ext,h1.mono (by omega),h2⟩
   ·rw [aP c] at he; exact absurd he c
end Go.Nov
end
section
set_option maxRecDepth 100000
open Go Go.Sx Go.Proofs Go.Nov
namespace Go.Proofs.Tryz
attribute [local simp] eqKV eqA eqA0 eqH eqB eqL eqL0
def Wq(l:List Fx):List Sc->Bool:=λk=>l.any λx=>decide (k=[.inr x.name,.inl x.date])
def zev(l:List Fx):List Sc->AV:=λk=>.i (l.findIdx λx=>decide (k=[.inr x.name,.inl x.date]):Nat)
def HRc(s:RS)(day:Int)(f:List Fx)(c:List Ch):Heap:=[.box [.i 0,.osl 1 4 0 s.ops.length,.osl 2 3 0 s.inp.length,.omap 3,.i day,fxS f,chS c],.arr s.ops.length 4 (opG s.ops),.arr s.inp.length 3 (fxG s.inp),.map true [.inr false,.inl .i64] (Wq s.inp) (zev s.inp)]
theorem Yw{l:List TOp}{o:TOp} : eqG (l.length+1) 4 (appG l.length (opG l) (zf (zg 4 [.int .u8 o.kind,.i o.a,.i o.b,.str o.rat]) 0)) (opG (l++[o])):=by
 intro j p hj hp;simp only [appG,opG,zf,zg];by_cases q:j<l.length
 ·rw [aP q];simp only [List.getD,bL q]
 ·rw [aO q];obtain rfl:j=l.length:=by omega
  have e:(l++[o]).getD l.length TOp.nil=o:=by simp [List.getD]
  rw [e];rcases(show p=0\/p=1\/p=2\/p=3 by omega) with rfl | rfl | rfl | rfl<;>simp [TOp.cell]
structure XRc where
 s:RS
 day:Int
 f:List Fx
 c:List Ch
 o:TOp
def zis:Ctr:=ctrM 1 (λp:XRc=>[.ptr 0 0,.agg [.int .u8 p.o.kind,.i p.o.a,.i p.o.b,.str p.o.rat]]) (λp=>HRc p.s p.day p.f p.c)
 (λp=>p.s.ops.length<2^40) (λ_ (_:Unit)=>True) (λp _=>(.i (p.s.ops.length:Nat),HRc (p.s.put p.o) p.day p.f p.c))
theorem zbr:zc prog 50 zis:=by
 refine ym' f50 λp hp O w0 I0 Q hl0 hq=> ?_
 obtain⟨⟨ops,inp⟩,day,f,c,⟨ok,oa,ob,orat⟩⟩:=p;replace hq:=hq () trivial;simp only at hp hq;refine zb.n zq [] (let v1:List AV:=[.int .u8 ok,.i oa,.i ob,.str orat];.side (0=0/\ops.length<=ops.length/\(ops.length+1)*40<=140737488355328) (.S ((↑(ops.length+1):Int) - (1:Int)) (.R [.i ((↑(ops.length+1):Int) - (1:Int))] [.box [.i 0,.osl 1 4 0 (ops.length+1),.osl 2 3 0 inp.length,.omap 3,.i day,.sl f.length 3 (fxG f),.sl c.length 4 (chG c)],.arr (ops.length+1) 4 (appG ops.length (opG ops) (zf (zg 4 v1) 0)),.arr inp.length 3 (fxG inp),Blk.map true [Sum.inr false,Sum.inl .i64] (λ(k:List Sc)=>List.any inp λ(x:Fx)=>decide (k=[Sum.inr x.name,Sum.inl x.date])) λk=>.int .i64 ↑(List.findIdx (λ(x:Fx)=>decide (k=[Sum.inr x.name,Sum.inl x.date])) inp),.box v1,.arr 1 4 (zg 4 v1)]))) ?_;simp only [Tree.holds,zd];have e1:((ops.length+1:Nat):Int) - 1=ops.length:=by omega
 refine⟨⟨trivial,aJ _,by omega⟩,λ_=>⟨by simp only [inR,lo,hi]; omega,λ_=> ?_⟩⟩;rw [e1];refine RetR.keep [0,1,2,3] rfl (by simp) (by show ∀ j,j<4->_; decide) rfl hq (by simp [resV,exp2,exp1,exp0,ren0,eqA2,eqL1]) ?_ rfl;refine⟨?_,⟨by simp [RS.put],rfl,Yw (o:=⟨ok,oa,ob,orat⟩)⟩,⟨rfl,rfl,za _ _ _⟩,⟨⟨rfl,.inl rfl⟩,rfl,λ_=>rfl,λ_ _=>rfl⟩,trivial⟩;simp [expB,exp1,exp0,ren0,zz,RS.put,fxS,chS,za]
noncomputable def K69:=Go.Sx.aA f69
def nanS:Ctr:=ctrP true (λs:L8=>[.str s]) (λ_=>True) (λs r=>r=false) (λ_ (r:Bool)=>(.bool r,[]))
def nanI:Ctr:=ctrP true (λx:Int=>[.i x]) (λ_=>True) (λs r=>r=false) (λ_ (r:Bool)=>(.bool r,[]))
theorem zks:zc prog 110 nanS:=by
 refine ze' f110 λs hs O w0 Q hq=> ?_
 replace hq:=hq _ rfl;refine zb.n zq [] (.R [.bool !decide (s=s)] []) ?_;simp only [Tree.holds,zd];exact RetR.scal hq rfl (by simp [resV])
theorem zmb:zc prog 111 nanI:=by
 refine ze' f111 λs hs O w0 Q hq=> ?_
 replace hq:=hq _ rfl;refine zb.n zq [] (.R [.bool !decide (s=s)] []) ?_;simp only [Tree.holds,zd];exact RetR.scal hq rfl (by simp [resV])
def znd:Ctr:=ctrP true (λp:L8×L8=>[.str p.1,.str p.2]) (λ_=>True) (λp r=>r=cmpS p.1 p.2) (λ_ (r:Int)=>(.i r,[]))
def znj:Ctr:=ctrP true (λp:Int×Int=>[.i p.1,.i p.2]) (λ_=>True) (λp r=>r=cmpI p.1 p.2) (λ_ (r:Int)=>(.i r,[]))
noncomputable def GN2:=tb zks (tb zmb tz)
theorem zlt:zc prog 70 znd:=by
 refine ze' f70 λp hs O w0 Q hq=> ?_
 obtain⟨s,t⟩:=p;replace hq:=hq _ rfl;simp only at hq;refine zb.n GN2.h [] (.ex (λ(x:L8)=>eqL [.str s] [.str x]/\True) λn=>.all (λ(r:Bool)=>r=false) λn=>.ex (λ(x:L8)=>eqL [.str t] [.str x]/\True) λn_1=>.all (λ(r:Bool)=>r=false) λn_2=>.ite n (.ite n_2 (.R [.int .i64 0] []) (.R [.int .i64 (-1:Int)] [])) (.ite n_2 (.R [.int .i64 1] []) (.ite (Op.bytesLess s t) (.R [.int .i64 (-1:Int)] []) (.ite (!(Op.bytesLess s t||decide (s=t))) (.R [.int .i64 1] []) (.R [.int .i64 0] []))))) ?_;simp only [Tree.holds,zd];refine⟨s,⟨by simp,trivial⟩,⟨_,rfl⟩,?_⟩;rintro _ rfl;refine⟨t,⟨by simp,trivial⟩,⟨_,rfl⟩,?_⟩;rintro _ rfl;refine⟨λh=>(by cases h),λ_=>⟨λh=>(by cases h),λ_=>⟨λh=> ?_,λh=>⟨λh2=> ?_,λh2=> ?_⟩⟩⟩⟩
 ·have:cmpS s t = -1:=by simp [cmpS,h]
  rw [this] at hq; exact RetR.scal hq rfl (by simp [resV])
 ·have h2:s≠t:=by simpa [h] using h2
  have:cmpS s t=1:=by simp [cmpS,h,h2]
  rw [this] at hq; exact RetR.scal hq rfl (by simp [resV])
 ·have h2:s=t:=by simpa [h] using h2
  subst h2;have:cmpS s s=0:=by simp [cmpS,h]
  rw [this] at hq; exact RetR.scal hq rfl (by simp [resV])
abbrev q41(A:List AV)(x:Int):Prop:=eqL A [.i x]/\True
theorem zlq:zc prog 71 znj:=by
 refine ze' f71 λp hs O w0 Q hq=> ?_
 obtain⟨s,t⟩:=p;replace hq:=hq _ rfl;simp only at hq;refine zb.n GN2.h [] (.ex (q41 [.i s]) λn=>.all (λ(r:Bool)=>r=false) λn=>.ex (q41 [.i t]) λn_1=>.all (λ(r:Bool)=>r=false) λn_2=>.ite n (.ite n_2 (.R [.i 0] []) (.R [.i (-1:Int)] [])) (.ite n_2 (.R [.i 1] []) (.D (s<t) (.R [.i (-1:Int)] []) (.D (t<s) (.R [.i 1] []) (.R [.i 0] []))))) ?_;simp only [q41,Tree.holds,zd];refine⟨s,⟨by simp,trivial⟩,⟨_,rfl⟩,?_⟩;rintro _ rfl;refine⟨t,⟨by simp,trivial⟩,⟨_,rfl⟩,?_⟩;rintro _ rfl;refine⟨λh=>(by cases h),λ_=>⟨λh=>(by cases h),λ_=>⟨λh=> ?_,λh=>⟨λh2=> ?_,λh2=> ?_⟩⟩⟩⟩
 ·have h:=aB h;have:cmpI s t = -1:=by simp [cmpI,h]
  rw [this] at hq; exact RetR.scal hq rfl (by simp [resV])
 ·have h:=aC h;have h2:=aB h2;have:cmpI s t=1:=by simp [cmpI,h,h2]
  rw [this] at hq; exact RetR.scal hq rfl (by simp [resV])
 ·have h:=aC h;have h2:=aC h2;have:cmpI s t=0:=by simp [cmpI,h,h2]
  rw [this] at hq; exact RetR.scal hq rfl (by simp [resV])
def orC:Ctr:=ctrP true (λl:List Int=>[.sl l.length 1 (λj _=>.i (l.getD j 0))]) (λl=>l.length<2^40) (λl r=>r=orI l) (λ_ (r:Int)=>(.i r,[]))
def SOr(l:List Int)(i:Nat):KV:=[(3,.i 0),(6,.sl l.length 1 (λj _=>.i (l.getD j 0))),(7,.i (l.length:Int)),(8,.i (i:Int))]
theorem zpm:zc prog 69 orC:=by
 refine ze' f69 λl hl O w0 Q hq=> ?_
 replace hq:=hq _ rfl;refine zb.n zq [3,6,7,8] (.leaf (.loop (lps K69 0).1 (lps K69 0).2 [(3,.i 0),(6,.sl l.length 1 λ(j x:Nat)=>.i (l.getD j (0:Int))),(7,.i l.length),(8,.i 0)] [])) ?_;simp only [Tree.holds,zd];refine zb.loop (ι:={i:Nat // i<=l.length/\orI (l.drop i)=orI l}) (λi=>SOr l i.1) (λ_=>[]) (λi=>l.length - i.1) ⟨0,aI _,rfl⟩ 0 ?_ ?_ (by kernel_rfl)
 ·exact⟨by simp [SOr,za],by simp,by kernel_rfl,aI _⟩
 ·rintro⟨i,hil,hio⟩;refine zb.n zq [3,6,7,8] (.D ((i:Int)<l.length) (.side ((0:Int)<=i/\(i:Int)<l.length) (.N (l.getD (i:Int).toNat (0:Int)=0) (.R [.i (l.getD (i:Int).toNat (0:Int))] []) (.S (i+1) (.leaf (.back 0 [(3,.i 0),(6,.sl l.length 1 λ(j x:Nat)=>.i (l.getD j (0:Int))),(7,.i l.length),(8,.i (i+1))] []))))) (.R [.i 0] [])) ?_;simp only [Tree.holds,zd,inR,lo,hi,aD];refine⟨λhlt=> ?_,λhge=> ?_⟩
  ·have hlt:i<l.length:=by have:=aB hlt; omega
   have hd:l.drop i=l.getD i 0::l.drop (i+1):=by
    rw [List.drop_eq_getElem_cons hlt]; simp [List.getD,hlt]
   rw [hd] at hio;refine⟨by omega,λ_=>⟨λh=> ?_,λh=>⟨by omega,λ_=> ?_⟩⟩⟩
   ·have h:l.getD i 0≠0:=by simpa using h
    have:orI l=l.getD i 0:=by rw [<- hio]; simp only [orI]; rw [aO h]
    rw [this] at hq; exact RetR.scal hq rfl (by simp [resV])
   ·have h:l.getD i 0=0:=by simpa using h
    rw [aP trivial];refine⟨⟨i+1,hlt,?_⟩,by show l.length - (i+1)<l.length - i; omega,by simp [SOr,za],by simp,by kernel_rfl,aI _⟩;rw [<- hio]; simp only [orI]; rw [aP h]
  ·have hge:i=l.length:=by have:=aC hge; omega
   subst hge;rw [List.drop_length] at hio;rw [<- hio] at hq; exact RetR.scal hq rfl (by simp [resV,orI])
def J2:Ctr:=ctrP true (λp:Fx×Fx=>[p.1.av,p.2.av]) (λ_=>True) (λp r=>r=cmpF p.1 p.2) (λ_ (r:Int)=>(.i r,[]))
def JV:Ctr:=ctrP true (λp:Ch×Ch=>[p.1.av,p.2.av]) (λ_=>True) (λp r=>r=cmpC p.1 p.2) (λ_ (r:Int)=>(.i r,[]))
noncomputable def GN3:=tb zlt (tb zlq (tb zpm tz))
theorem zdo(x y:Int):eqG 2 1 (zf (zg 1 [.i x,.i y]) 0) (λj _=>.i ([x,y].getD j 0)):=by
 intro j o hj ho;have ho:o=0:=by omega
 subst ho;rcases j with _ | _ | j
 ·rfl
 ·rfl
 ·omega
theorem zer(x y z:Int):eqG 3 1 (zf (zg 1 [.i x,.i y,.i z]) 0) (λj _=>.i ([x,y,z].getD j 0)):=by
 intro j o hj ho;have ho:o=0:=by omega
 subst ho;rcases j with _ | _ | _ | j
 ·rfl
 ·rfl
 ·rfl
 ·omega
abbrev q43(A:List AV)(x:Int×Int):Prop:=eqL A [.i x.1,.i x.2]/\True
abbrev q42(A:List AV)(x:L8×L8):Prop:=eqL A [.str x.1,.str x.2]/\True
theorem Jj:zc prog 36 J2:=by
 refine ze' f36 λp hs O w0 Q hq=> ?_
 obtain⟨⟨a,d,v⟩,⟨b,e,u⟩⟩:=p;replace hq:=hq _ rfl;simp only at hq;refine zb.n GN3.h [] (.ex (q42 [.str a,.str b]) λn=>.all (λ(r:Int)=>r=cmpS n.1 n.2) λn=>.ex (q43 [.i d,.i e]) λn_1=>.all (λ(r:Int)=>r=cmpI n_1.1 n_1.2) λn_2=>.ex (λ(x:List Int)=>eqL [.sl 2 1 (zf (zg 1 [.i n,.i n_2]) 0)] [.sl x.length 1 λ(j x_1:Nat)=>AV.i (x.getD j (0:Int))]/\x.length<1099511627776) λn_3=>.all (λ(r:Int)=>r=orI n_3) λn_4=>.R [.i n_4] [.box [.str a,.i d,.str v],.box [.str b,.i e,.str u],.arr 2 1 (zg 1 [.i n,.i n_2])]) ?_;simp only [q42,q43,Tree.holds,zd];refine⟨(a,b),⟨by simp,trivial⟩,⟨_,rfl⟩,?_⟩;rintro _ rfl;refine⟨(d,e),⟨by simp,trivial⟩,⟨_,rfl⟩,?_⟩;rintro _ rfl;refine⟨[cmpS a b,cmpI d e],⟨⟨⟨rfl,rfl,zdo _ _⟩,trivial⟩,by simp⟩,⟨_,rfl⟩,?_⟩;rintro _ rfl
 have:orI [cmpS a b,cmpI d e]=cmpF ⟨a,d,v⟩ ⟨b,e,u⟩:=by
  simp only [orI,cmpF];by_cases h:cmpS a b=0
  ·simp only [h,if_true]; split<;>simp_all
  ·simp only [aO h]
 rw [this];exact RetR.scal hq rfl (by simp [resV])
theorem JR:zc prog 108 JV:=by
 refine ze' f108 λp hs O w0 Q hq=> ?_
 obtain⟨⟨a,d,v,f⟩,⟨b,e,u,g⟩⟩:=p;replace hq:=hq _ rfl;simp only at hq;refine zb.n GN3.h [] (.ex (q42 [.str a,.str b]) λn=>.all (λ(r:Int)=>r=cmpS n.1 n.2) λn=>.ex (q42 [.str d,.str e]) λn_1=>.all (λ(r:Int)=>r=cmpS n_1.1 n_1.2) λn_2=>.ex (q43 [.i v,.i u]) λn_3=>.all (λ(r:Int)=>r=cmpI n_3.1 n_3.2) λn_4=>.ex (λ(x:List Int)=>eqL [.sl 3 1 (zf (zg 1 [.i n,.i n_2,.i n_4]) 0)] [.sl x.length 1 λ(j x_1:Nat)=>AV.i (x.getD j (0:Int))]/\x.length<1099511627776) λn_5=>.all (λ(r:Int)=>r=orI n_5) λn_6=>.R [.i n_6] [.box [.str a,.str d,.i v,.bool f],.box [.str b,.str e,.i u,.bool g],.arr 3 1 (zg 1 [.i n,.i n_2,.i n_4])]) ?_;simp only [q42,q43,Tree.holds,zd];refine⟨(a,b),⟨by simp,trivial⟩,⟨_,rfl⟩,?_⟩;rintro _ rfl;refine⟨(d,e),⟨by simp,trivial⟩,⟨_,rfl⟩,?_⟩;rintro _ rfl;refine⟨(v,u),⟨by simp,trivial⟩,⟨_,rfl⟩,?_⟩;rintro _ rfl;refine⟨[cmpS a b,cmpS d e,cmpI v u],⟨⟨⟨rfl,rfl,zer _ _ _⟩,trivial⟩,by simp⟩,⟨_,rfl⟩,?_⟩;rintro _ rfl
 have:orI [cmpS a b,cmpS d e,cmpI v u]=cmpC ⟨a,d,v,f⟩ ⟨b,e,u,g⟩:=by
  simp only [orI,cmpC];by_cases h:cmpS a b=0
  ·simp only [h,if_true];by_cases h2:cmpS d e=0
   ·simp only [h2,if_true]; split<;>simp_all
   ·simp only [aO h2]
  ·simp only [aO h]
 rw [this];exact RetR.scal hq rfl (by simp [resV])
noncomputable def K67:=Go.Sx.aA f67
noncomputable def K137:=Go.Sx.aA f137
noncomputable def K106:=Go.Sx.aA f106
noncomputable def K107:=Go.Sx.aA f107
def yJ(f:Fx):Prop:=f.name.length<2^40/\f.value.length<2^40
def xY(c:Ch):Prop:=c.zV.length<2^40/\c.name.length<2^40
def zmv:Ctr:=ctrP true (λf:Fx=>[f.av]) yJ (λf r=>r = !okF f) (λ_ (r:Bool)=>(.bool r,[]))
def znc:Ctr:=ctrP true (λc:Ch=>[c.av]) xY (λc r=>r = !okC c) (λ_ (r:Bool)=>(.bool r,[]))
noncomputable def GE1:=tb zat (tb Zw (tb Z8 tz))
theorem zli:zc prog 101 zmv:=by
 refine ze' f101 λf hs O w0 Q hq=> ?_
 obtain⟨a,d,v⟩:=f;obtain⟨h1,h2⟩:=hs;replace hq:=hq _ rfl;simp only [okF] at hq h1 h2;refine zb.n GE1.h [] (.ex (q15 [.str a]) λn=>.all (λ(r:Bool)=>r=zY n) λn=>.ex (λ(x:Int)=>(!n)=false->eqL [.i d] [.i x]/\True) λn_1=>.all (λ(x:Bool)=>(!n)=false->x=dayB n_1) λn_2=>.ex (λ(x:L8)=>(bif !n then true else !n_2)=false->eqL [.str v] [.str x]/\x.length<4611686018427387904) λn_3=>.all (λ(x:Int)=>(bif !n then true else !n_2)=false->x=errR n_3) λn_4=>.R [.bool (bif bif !n then true else !n_2 then true else !decide (n_4=0))] [.box [.str a,.i d,.str v]]) ?_;simp only [q15,Tree.holds,zd];refine⟨a,⟨by simp,by omega⟩,⟨_,rfl⟩,?_⟩;rintro _ rfl;refine⟨d,λ_=>⟨by simp,trivial⟩,⟨_,λ_=>rfl⟩,?_⟩;intro x hx;refine⟨v,λ_=>⟨by simp,by omega⟩,⟨_,λ_=>rfl⟩,?_⟩;intro y hy;refine RetR.scal hq rfl ?_;simp only [resV];cases hn:zY a with
 | false=>rfl
 | true=>
  rw [hx (by rw [hn]; rfl)] at hy ⊢;cases hd:dayB d with
  | false=>rfl
  | true=>rw [hy (by rw [hn,hd]; rfl)]; rfl
theorem zmj:zc prog 103 znc:=by
 refine ze' f103 λf hs O w0 Q hq=> ?_
 obtain⟨a,v,d,f⟩:=f;obtain⟨h1,h2⟩:=hs;replace hq:=hq _ rfl;simp only [okC] at hq h1 h2;refine zb.n GE1.h [] (.ex (q15 [.str a]) λn=>.all (λ(r:Bool)=>r=zY n) λn=>.ex (λ(x:L8)=>(!n)=false->eqL [.str v] [.str x]/\x.length<4611686018427387904) λn_1=>.all (λ(x:Bool)=>(!n)=false->x=zY n_1) λn_2=>.ex (λ(x:Int)=>(bif !n then true else !n_2)=false->eqL [.i d] [.i x]/\True) λn_3=>.all (λ(x:Bool)=>(bif !n then true else !n_2)=false->x=dayB n_3) λn_4=>.R [.bool (bif bif !n then true else !n_2 then true else !n_4)] [.box [.str a,.str v,.i d,.bool f]]) ?_;simp only [q15,Tree.holds,zd];refine⟨a,⟨by simp,by omega⟩,⟨_,rfl⟩,?_⟩;rintro _ rfl;refine⟨v,λ_=>⟨by simp,by omega⟩,⟨_,λ_=>rfl⟩,?_⟩;intro x hx;refine⟨d,λ_=>⟨by simp,trivial⟩,⟨_,λ_=>rfl⟩,?_⟩;intro y hy;refine RetR.scal hq rfl ?_;simp only [resV];cases hn:zY a with
 | false=>rfl
 | true=>
  rw [hx (by rw [hn]; rfl)] at hy ⊢;cases hd:zY v with
  | false=>rfl
  | true=>rw [hy (by rw [hn,hd]; rfl)]; rfl
def zmx:Ctr:=ctrP true (λl:List Fx=>[fxS l,.fn 101 [] []]) (λl=>l.length<2^40/\∀ j,j<l.length->yJ (l.getD j Fx.nil)) (λl r=>r=idxB (λx=> !okF x) l) (λ_ (r:Int)=>(.i r,[]))
def SIxF(l:List Fx)(i:Nat):KV:=[(0,fxS l),(1,.fn 101 [] []),(7,.i (l.length:Int)),(8,.i (i:Int))]
noncomputable def GE2F:=tb zli tz
theorem zkn:zc prog 67 zmx:=by
 refine ze' f67 λl hl O w0 Q hq=> ?_
 obtain⟨hl,hsm⟩:=hl;replace hq:=hq _ rfl;refine zb.n GE2F.h [0,1,7,8] (.leaf (.loop (lps K67 0).1 (lps K67 0).2 [(0,.sl l.length 3 (fxG l)),(1,.fn 101 [] []),(7,.i l.length),(8,.i 0)] [])) ?_;simp only [Tree.holds,zd];refine zb.loop (ι:={i:Nat // i<=l.length/\∀ j,j<i->(!okF (l.getD j Fx.nil))=false}) (λi=>SIxF l i.1) (λ_=>[]) (λi=>l.length - i.1) ⟨0,aI _,λj hj=>by omega⟩ 0 ?_ ?_ (by kernel_rfl)
 ·exact⟨by simp [SIxF,fxS,za],by simp,by kernel_rfl,aI _⟩
 ·rintro⟨i,hil,hib⟩;refine zb.n GE2F.h [0,1,7,8] (let v1:=l.getD (i:Int).toNat Fx.nil;.D ((i:Int)<l.length) (.side ((0:Int)<=i/\(i:Int)<l.length) (.ex (λ(x:Fx)=>eqL [.agg [.str v1.name,.i v1.date,.str v1.value]] [.agg [.str x.name,.i x.date,.str x.value]]/\yJ x) λn=>.all (λ(r:Bool)=>r = !okF n) λn=>.ite n (.R [.i i] []) (.S (i+1) (.leaf (.back 0 [(0,.sl l.length 3 (fxG l)),(1,.fn 101 [] []),(7,.i l.length),(8,.i (i+1))] []))))) (.R [.i (-1:Int)] [])) ?_;simp only [Tree.holds,zd,inR,lo,hi,aD];refine⟨λhlt=> ?_,λhge=> ?_⟩
  ·have hlt:i<l.length:=by have:=aB hlt; omega
   refine⟨by omega,λ_=>⟨l.getD i Fx.nil,⟨by simp,hsm i hlt⟩,⟨_,rfl⟩,?_⟩⟩;rintro _ rfl;refine⟨λh=> ?_,λh=>⟨by omega,λ_=> ?_⟩⟩
   ·rw [Ku hlt h hib] at hq;exact RetR.scal hq rfl (by simp [resV])
   ·rw [aP trivial];refine⟨⟨i+1,hlt,λj hj=> ?_⟩,by show l.length - (i+1)<l.length - i; omega,by simp [SIxF,fxS,za],by simp,by kernel_rfl,aI _⟩;rcases aR j i with h1 | h1
    ·exact hib j h1
    ·have:j=i:=by omega
     rw [this]; exact h
  ·have hge:i=l.length:=by have:=aC hge; omega
   subst hge;rw [Z2 hib] at hq;exact RetR.scal hq rfl (by simp [resV])
def zn6:Ctr:=ctrP true (λl:List Fx=>[fxS l,.fn 101 [] []]) (λl=>l.length<2^40/\∀ j,j<l.length->yJ (l.getD j Fx.nil)) (λl r=>r=l.any λx=> !okF x) (λ_ (r:Bool)=>(.bool r,[]))
noncomputable def GE3F:=tb zkn tz
theorem zly:zc prog 104 zn6:=by
 refine ze' f104 λl hl O w0 Q hq=> ?_
 replace hq:=hq _ rfl;refine zb.n GE3F.h [] (.ex (λ(x:List Fx)=>eqL [.sl l.length 3 (fxG l),.fn 101 [] []] [.sl x.length 3 (fxG x),.fn 101 [] []]/\x.length<1099511627776/\∀ (j:Nat),j<x.length->yJ (x.getD j Fx.nil)) λn=>.all (λ(r:Int)=>r=idxB (λ(x:Fx)=> !okF x) n) λn=>.R [.bool (decide ((0:Int)<=n))] []) ?_;simp only [Tree.holds,zd];refine⟨l,⟨by simp [za],hl⟩,⟨_,rfl⟩,?_⟩;rintro _ rfl;rw [<- XI] at hq;exact RetR.scal hq rfl (by simp [resV])
def zn8:Ctr:=ctrP true (λl:List Ch=>[chS l,.fn 103 [] []]) (λl=>l.length<2^40/\∀ j,j<l.length->xY (l.getD j Ch.nil)) (λl r=>r=idxB (λx=> !okC x) l) (λ_ (r:Int)=>(.i r,[]))
def SIxC(l:List Ch)(i:Nat):KV:=[(0,chS l),(1,.fn 103 [] []),(7,.i (l.length:Int)),(8,.i (i:Int))]
noncomputable def GE2C:=tb zmj tz
theorem zlk:zc prog 137 zn8:=by
 refine ze' f137 λl hl O w0 Q hq=> ?_
 obtain⟨hl,hsm⟩:=hl;replace hq:=hq _ rfl;refine zb.n GE2C.h [0,1,7,8] (.leaf (.loop (lps K137 0).1 (lps K137 0).2 [(0,.sl l.length 4 (chG l)),(1,.fn 103 [] []),(7,.i l.length),(8,.i 0)] [])) ?_;simp only [Tree.holds,zd];refine zb.loop (ι:={i:Nat // i<=l.length/\∀ j,j<i->(!okC (l.getD j Ch.nil))=false}) (λi=>SIxC l i.1) (λ_=>[]) (λi=>l.length - i.1) ⟨0,aI _,λj hj=>by omega⟩ 0 ?_ ?_ (by kernel_rfl)
 ·exact⟨by simp [SIxC,chS,za],by simp,by kernel_rfl,aI _⟩
 ·rintro⟨i,hil,hib⟩;refine zb.n GE2C.h [0,1,7,8] (let v1:=l.getD (i:Int).toNat Ch.nil;.D ((i:Int)<l.length) (.side ((0:Int)<=i/\(i:Int)<l.length) (.ex (λ(x:Ch)=>eqL [.agg [.str v1.zV,.str v1.name,.i v1.date,.bool v1.first]] [.agg [.str x.zV,.str x.name,.i x.date,.bool x.first]]/\xY x) λn=>.all (λ(r:Bool)=>r = !okC n) λn=>.ite n (.R [.i i] []) (.S (i+1) (.leaf (.back 0 [(0,.sl l.length 4 (chG l)),(1,.fn 103 [] []),(7,.i l.length),(8,.i (i+1))] []))))) (.R [.i (-1:Int)] [])) ?_;simp only [Tree.holds,zd,inR,lo,hi,aD];refine⟨λhlt=> ?_,λhge=> ?_⟩
  ·have hlt:i<l.length:=by have:=aB hlt; omega
   refine⟨by omega,λ_=>⟨l.getD i Ch.nil,⟨by simp,hsm i hlt⟩,⟨_,rfl⟩,?_⟩⟩;rintro _ rfl;refine⟨λh=> ?_,λh=>⟨by omega,λ_=> ?_⟩⟩
   ·rw [Ku hlt h hib] at hq;exact RetR.scal hq rfl (by simp [resV])
   ·rw [aP trivial];refine⟨⟨i+1,hlt,λj hj=> ?_⟩,by show l.length - (i+1)<l.length - i; omega,by simp [SIxC,chS,za],by simp,by kernel_rfl,aI _⟩;rcases aR j i with h1 | h1
    ·exact hib j h1
    ·have:j=i:=by omega
     rw [this]; exact h
  ·have hge:i=l.length:=by have:=aC hge; omega
   subst hge;rw [Z2 hib] at hq;exact RetR.scal hq rfl (by simp [resV])
def zn9:Ctr:=ctrP true (λl:List Ch=>[chS l,.fn 103 [] []]) (λl=>l.length<2^40/\∀ j,j<l.length->xY (l.getD j Ch.nil)) (λl r=>r=l.any λx=> !okC x) (λ_ (r:Bool)=>(.bool r,[]))
noncomputable def GE3C:=tb zlk tz
theorem zmm:zc prog 105 zn9:=by
 refine ze' f105 λl hl O w0 Q hq=> ?_
 replace hq:=hq _ rfl;refine zb.n GE3C.h [] (.ex (λ(x:List Ch)=>eqL [.sl l.length 4 (chG l),.fn 103 [] []] [.sl x.length 4 (chG x),.fn 103 [] []]/\x.length<1099511627776/\∀ (j:Nat),j<x.length->xY (x.getD j Ch.nil)) λn=>.all (λ(r:Int)=>r=idxB (λ(x:Ch)=> !okC x) n) λn=>.R [.bool (decide ((0:Int)<=n))] []) ?_;simp only [Tree.holds,zd];refine⟨l,⟨by simp [za],hl⟩,⟨_,rfl⟩,?_⟩;rintro _ rfl;rw [<- XI] at hq;exact RetR.scal hq rfl (by simp [resV])
def zna:Ctr:=ctrP true (λl:List Fx=>[fxS l,.fn 36 [] []]) (λl=>l.length<2^40) (λl r=>r=ordB cmpF Fx.nil l) (λ_ (r:Bool)=>(.bool r,[]))
def SOdF(l:List Fx)(i:Nat):KV:=[(0,fxS l),(1,.fn 36 [] []),(5,.i (i:Int))]
noncomputable def GE4F:=tb Jj tz
abbrev q44(A:List AV)(x:Fx×Fx):Prop:=eqL A [.agg [.str x.1.name,.i x.1.date,.str x.1.value],.agg [.str x.2.name,.i x.2.date,.str x.2.value]]/\True
theorem zkt:zc prog 106 zna:=by
 refine ze' f106 λl hl O w0 Q hq=> ?_
 replace hq:=hq _ rfl;refine zb.n GE4F.h [0,1,5] (.leaf (.loop (lps K106 0).1 (lps K106 0).2 [(0,.sl l.length 3 (fxG l)),(1,.fn 36 [] []),(5,.i 1)] [])) ?_;simp only [Tree.holds,zd];refine zb.loop (ι:={i:Nat // 0<i/\(i<=l.length\/i=1)/\∀ j,j+1<i->cmpF (l.getD j Fx.nil) (l.getD (j+1) Fx.nil)<0}) (λi=>SOdF l i.1) (λ_=>[]) (λi=>l.length - i.1) ⟨1,Nat.one_pos,.inr rfl,λj hj=>by omega⟩ 0 ?_ ?_ (by kernel_rfl)
 ·exact⟨by simp [SOdF,fxS,za],by simp,by kernel_rfl,aI _⟩
 ·rintro⟨i,hi0,hil,hib⟩;refine zb.n GE4F.h [0,1,5] (let v2:=l.getD (i:Int).toNat Fx.nil;let v1:=l.getD (Int.toNat (i-1)) Fx.nil;.D ((i:Int)<l.length) (.S (i-1) (.side ((0:Int)<=i - (1:Int)/\(i:Int) - (1:Int)<l.length) (.side ((0:Int)<=i/\(i:Int)<l.length) (.ex (q44 [.agg [.str v1.name,.i v1.date,.str v1.value],.agg [.str v2.name,.i v2.date,.str v2.value]]) λn=>.all (λ(r:Int)=>r=cmpF n.1 n.2) λn=>.D ((0:Int)<=n) (.R [.bool false] []) (.S (i+1) (.leaf (.back 0 [(0,.sl l.length 3 (fxG l)),(1,.fn 36 [] []),(5,.i (i+1))] []))))))) (.R [.bool true] [])) ?_;simp only [q44,Tree.holds,zd,inR,lo,hi,aD];have e:((i:Int) - 1).toNat=i - 1:=by omega
  have e2:i - 1+1=i:=by omega
  refine⟨λhlt=> ?_,λhge=> ?_⟩
  ·have hlt:i<l.length:=by have:=aB hlt; omega
   simp only [e];refine⟨by omega,λ_=>⟨by omega,λ_=>⟨by omega,λ_=>⟨(l.getD (i - 1) Fx.nil,l.getD i Fx.nil),⟨by simp,trivial⟩,⟨_,rfl⟩,?_⟩⟩⟩⟩;rintro _ rfl;refine⟨λh=> ?_,λh=>⟨by omega,λ_=> ?_⟩⟩
   ·have h:=aB h;rw [ue (z:=Fx.nil) (j:=i - 1) (by omega) (by rw [e2]; simp only at h; omega)] at hq;exact RetR.scal hq rfl (by simp [resV])
   ·have h:=aC h;rw [aP trivial];refine⟨⟨i+1,by omega,.inl hlt,λj hj=> ?_⟩,by show l.length - (i+1)<l.length - i; omega,by simp [SOdF,fxS,za],by simp,by kernel_rfl,aI _⟩;rcases aR (j+1) i with h1 | h1
    ·exact hib j h1
    ·have:j=i - 1:=by omega
     rw [this,e2]; simp only at h; omega
  ·have hge:l.length<=i:=by have:=aC hge; omega
   rw [u0 (z:=Fx.nil) λj hj=>hib j (by omega)] at hq;exact RetR.scal hq rfl (by simp [resV])
def zmy:Ctr:=ctrP true (λl:List Ch=>[chS l,.fn 108 [] []]) (λl=>l.length<2^40) (λl r=>r=ordB cmpC Ch.nil l) (λ_ (r:Bool)=>(.bool r,[]))
def SOdC(l:List Ch)(i:Nat):KV:=[(0,chS l),(1,.fn 108 [] []),(5,.i (i:Int))]
noncomputable def GE4C:=tb JR tz
abbrev q45(A:List AV)(x:Ch×Ch):Prop:=eqL A [.agg [.str x.1.zV,.str x.1.name,.i x.1.date,.bool x.1.first],.agg [.str x.2.zV,.str x.2.name,.i x.2.date,.bool x.2.first]]/\True
theorem zkz:zc prog 107 zmy:=by
 refine ze' f107 λl hl O w0 Q hq=> ?_
 replace hq:=hq _ rfl;refine zb.n GE4C.h [0,1,5] (.leaf (.loop (lps K107 0).1 (lps K107 0).2 [(0,.sl l.length 4 (chG l)),(1,.fn 108 [] []),(5,.i 1)] [])) ?_;simp only [Tree.holds,zd];refine zb.loop (ι:={i:Nat // 0<i/\(i<=l.length\/i=1)/\∀ j,j+1<i->cmpC (l.getD j Ch.nil) (l.getD (j+1) Ch.nil)<0}) (λi=>SOdC l i.1) (λ_=>[]) (λi=>l.length - i.1) ⟨1,Nat.one_pos,.inr rfl,λj hj=>by omega⟩ 0 ?_ ?_ (by kernel_rfl)
 ·exact⟨by simp [SOdC,chS,za],by simp,by kernel_rfl,aI _⟩
 ·rintro⟨i,hi0,hil,hib⟩;refine zb.n GE4C.h [0,1,5] (let v2:=l.getD (i:Int).toNat Ch.nil;let v1:=l.getD (Int.toNat (i-1)) Ch.nil;.D ((i:Int)<l.length) (.S (i-1) (.side ((0:Int)<=i - (1:Int)/\(i:Int) - (1:Int)<l.length) (.side ((0:Int)<=i/\(i:Int)<l.length) (.ex (q45 [.agg [.str v1.zV,.str v1.name,.i v1.date,.bool v1.first],.agg [.str v2.zV,.str v2.name,.i v2.date,.bool v2.first]]) λn=>.all (λ(r:Int)=>r=cmpC n.1 n.2) λn=>.D ((0:Int)<=n) (.R [.bool false] []) (.S (i+1) (.leaf (.back 0 [(0,.sl l.length 4 (chG l)),(1,.fn 108 [] []),(5,.i (i+1))] []))))))) (.R [.bool true] [])) ?_;simp only [q45,Tree.holds,zd,inR,lo,hi,aD];have e:((i:Int) - 1).toNat=i - 1:=by omega
  have e2:i - 1+1=i:=by omega
  refine⟨λhlt=> ?_,λhge=> ?_⟩
  ·have hlt:i<l.length:=by have:=aB hlt; omega
   simp only [e];refine⟨by omega,λ_=>⟨by omega,λ_=>⟨by omega,λ_=>⟨(l.getD (i - 1) Ch.nil,l.getD i Ch.nil),⟨by simp,trivial⟩,⟨_,rfl⟩,?_⟩⟩⟩⟩;rintro _ rfl;refine⟨λh=> ?_,λh=>⟨by omega,λ_=> ?_⟩⟩
   ·have h:=aB h;rw [ue (z:=Ch.nil) (j:=i - 1) (by omega) (by rw [e2]; simp only at h; omega)] at hq;exact RetR.scal hq rfl (by simp [resV])
   ·have h:=aC h;rw [aP trivial];refine⟨⟨i+1,by omega,.inl hlt,λj hj=> ?_⟩,by show l.length - (i+1)<l.length - i; omega,by simp [SOdC,chS,za],by simp,by kernel_rfl,aI _⟩;rcases aR (j+1) i with h1 | h1
    ·exact hib j h1
    ·have:j=i - 1:=by omega
     rw [this,e2]; simp only at h; omega
  ·have hge:l.length<=i:=by have:=aC hge; omega
   rw [u0 (z:=Ch.nil) λj hj=>hib j (by omega)] at hq;exact RetR.scal hq rfl (by simp [resV])
def envP(p:List Fx×List Ch):Prop:=p.1.length<2^40/\p.2.length<2^40/\(∀ j,j<p.1.length->yJ (p.1.getD j Fx.nil))/\∀ j,j<p.2.length->xY (p.2.getD j Ch.nil)
def uy:Ctr:=ctrP true (λp:List Fx×List Ch=>[envA p.1 p.2]) envP (λp r=>r=errE p.1 p.2) (λ_ (r:Int)=>(.i r,[]))
noncomputable def GE5:=tb zly (tb zmm (tb zkt (tb zkz tz)))
theorem zcv:zc prog 62 uy:=by
 refine ze' f62 λp hp O w0 Q hq=> ?_
 obtain⟨f,c⟩:=p;obtain⟨h1,h2,h3,h4⟩:=hp;replace hq:=hq _ rfl;simp only at hq h1 h2 h3 h4;refine zb.n GE5.h [] (let v1:List Blk:=[.box [.sl f.length 3 (fxG f),.sl c.length 4 (chG c)]];.ite (bif decide ((1000:Int)<f.length) then true else decide ((1000:Int)<c.length)) (.R [.i 4] v1) (.ex (λ(x:List Fx)=>eqL [.sl f.length 3 (fxG f),.fn 101 [] []] [.sl x.length 3 (fxG x),.fn 101 [] []]/\x.length<1099511627776/\∀ (j:Nat),j<x.length->yJ (x.getD j Fx.nil)) λn=>.all (λ(r:Bool)=>r=List.any n λ(x:Fx)=> !okF x) λn=>.ex (λ(x:List Ch)=>n=false->eqL [.sl c.length 4 (chG c),.fn 103 [] []] [.sl x.length 4 (chG x),.fn 103 [] []]/\x.length<1099511627776/\∀ (j:Nat),j<x.length->xY (x.getD j Ch.nil)) λn_1=>.all (λ(x:Bool)=>n=false->x=List.any n_1 λ(x:Ch)=> !okC x) λn_2=>.ex (λ(x:List Fx)=>(bif n then true else n_2)=false->eqL [.sl f.length 3 (fxG f),.fn 36 [] []] [.sl x.length 3 (fxG x),.fn 36 [] []]/\x.length<1099511627776) λn_3=>.all (λ(x:Bool)=>(bif n then true else n_2)=false->x=ordB cmpF Fx.nil n_3) λn_4=>.ex (λ(x:List Ch)=>(bif bif n then true else n_2 then true else !n_4)=false->eqL [.sl c.length 4 (chG c),.fn 108 [] []] [.sl x.length 4 (chG x),.fn 108 [] []]/\x.length<1099511627776) λn_5=>.all (λ(x:Bool)=>(bif bif n then true else n_2 then true else !n_4)=false->x=ordB cmpC Ch.nil n_5) λn_6=>.ite (bif bif bif n then true else n_2 then true else !n_4 then true else !n_6) (.R [.i 8] v1) (.R [.i 0] v1))) ?_;simp only [Tree.holds,zd];refine⟨λh=> ?_,λh=> ?_⟩
 ·have h:1000<f.length\/1000<c.length:=by
   rw [Bool.cond_eq_ite] at h;split at h
   ·rename_i h1; left; have:=aB h1; omega
   ·right; have:=aB h; omega
  have:errE f c=4:=aP h;rw [this] at hq; exact RetR.scal hq rfl (by simp [resV])
 ·have h:¬ (1000<f.length\/1000<c.length):=by
   rw [Bool.cond_eq_ite] at h;split at h
   ·cases h
   ·rename_i h1;have h2:=aC h;rintro(h3 | h3)
    ·exact h1 (aX (by omega))
    ·omega
  have he:errE f c=if(f.all okF&&c.all okC&&ordB cmpF Fx.nil f&&ordB cmpC Ch.nil c)=true then 0 else 8:=aO h
  have a1:(f.any λx=> !okF x) = !f.all okF:=by rw [List.not_all_eq_any_not]
  have a2:(c.any λx=> !okC x) = !c.all okC:=by rw [List.not_all_eq_any_not]
  refine⟨f,⟨by simp [za],h1,h3⟩,⟨_,rfl⟩,?_⟩;rintro _ rfl;refine⟨c,λ_=>⟨by simp [za],h2,h4⟩,⟨_,λ_=>rfl⟩,?_⟩;intro b1 g1;refine⟨f,λ_=>⟨by simp [za],h1⟩,⟨_,λ_=>rfl⟩,?_⟩;intro b2 g2;refine⟨c,λ_=>⟨by simp [za],h2⟩,⟨_,λ_=>rfl⟩,?_⟩;intro b3 g3;rw [a1] at g1 g2 g3 ⊢;rw [a2] at g1;clear a1 a2;generalize f.all okF=p1 at *
  generalize c.all okC=p2 at *
  generalize ordB cmpF Fx.nil f=p3 at *
  generalize ordB cmpC Ch.nil c=p4 at *
  have key:(bif bif bif !p1 then true else b1 then true else !b2 then true else !b3) = !(p1&&p2&&p3&&p4):=by
   cases p1 with
   | false=>rfl
   | true=>
    have g1:=g1 rfl;subst g1;cases p2 with
    | false=>rfl
    | true=>
     have g2:=g2 rfl;subst g2;cases b2 with
     | false=>rfl
     | true=>have g3:=g3 rfl; subst g3; rfl
  rw [key];clear key g1 g2 g3;generalize (p1&&p2&&p3&&p4)=q at *
  refine⟨λh=> ?_,λh=> ?_⟩
  ·cases q with
   | true=>cases h
   | false=>rw [he,aO (by decide)] at hq; exact RetR.scal hq rfl (by simp [resV])
  ·cases q with
   | false=>cases h
   | true=>rw [he,aP rfl] at hq; exact RetR.scal hq rfl (by simp [resV])
noncomputable def K15:=Go.Sx.aA f15
def SSE(i:Nat):KV:=[(2,.ptr 0 0),(3,.ptr 1 0),(5,.i (i:Int)),Z 6]
def SSE2(i:Nat):KV:=[(2,.ptr 0 0),(3,.ptr 1 0),Z 5,(6,.i (i:Int))]
def HSE(f f2:List Fx)(c c2:List Ch):Heap:=[.box [fxS f,chS c],.box [fxS f2,chS c2]]
def Ur:Ctr:=ctrP true (λp:(List Fx×List Ch)×(List Fx×List Ch)=>[envA p.1.1 p.1.2,envA p.2.1 p.2.2]) (λp=>p.1.1.length<2^40/\p.1.2.length<2^40) (λp r=>(r=true↔p.1=p.2)) (λ_ (r:Bool)=>(.bool r,[]))
theorem XN{O:Nat->Prop}{w0:World}{Q:AV×Heap->Prop}{Hs:Nat->KV->Heap->Prop}(f f2:List Fx)(c c2:List Ch)(h2:c.length<2^40)(hf:f=f2)(hl:c.length=c2.length)(hq:∀ (r:Bool),(r=true↔(f,c)=(f2,c2))->Q (.bool r,[]))(kv:KV)(h:Heap)(hle:LeK 0 f15.ntmps kv h (SSE2 0) (HSE f f2 c c2)) :
  zb prog f15 O 0 w0 [] Hs (RetR Ur 0 Q) (.code (.loop (lps (inside K15 0) 0).1)::(lps (inside K15 0) 0).2) (mk f15.ntmps kv h):=by
 refine zb.loop (ι:={i:Nat // i<=c.length/\∀ j,j<i->c.getD j Ch.nil=c2.getD j Ch.nil}) (λi=>SSE2 i.1) (λ_=>HSE f f2 c c2) (λi=>c.length - i.1) ⟨0,aI _,λj hj=>by omega⟩ 0 hle ?_ (by kernel_rfl);rintro⟨i,hil,hib⟩;refine zb.n zq [2,3,5,6] (let v3:=c.getD (i:Int).toNat Ch.nil;let v2:=c2.getD (i:Int).toNat Ch.nil;let v1:List Blk:=[.box [.sl f.length 3 (fxG f),.sl c.length 4 (chG c)],.box [.sl f2.length 3 (fxG f2),.sl c2.length 4 (chG c2)]];.D ((i:Int)<c.length) (.side ((0:Int)<=i/\(i:Int)<c.length) (.side ((0:Int)<=i/\(i:Int)<c2.length) (.ite (!(decide (Ch.zV v3=Ch.zV v2)&&(decide (Ch.name v3=Ch.name v2)&&(decide (Ch.date v3=Ch.date v2)&&(Ch.first v3 == Ch.first v2 &&true))))) (.R [.bool false] v1) (.S (i+1) (.leaf (.back 0 [(2,.ptr 0 0),(3,.ptr 1 0),Z 5,(6,.i (i+1))] v1)))))) (.R [.bool true] v1)) ?_;simp only [Tree.holds,zd,inR,lo,hi,aD];refine⟨λhlt=> ?_,λhge=> ?_⟩
 ·have hlt:i<c.length:=by have:=aB hlt; omega
  refine⟨by omega,λ_=>⟨by omega,λ_=>⟨λh=> ?_,λh=>⟨by omega,λ_=> ?_⟩⟩⟩⟩
  ·refine RetR.scal (hq false ⟨λh=>(by cases h),λhe=> ?_⟩) rfl (by simp [resV]);have hc:c=c2:=(Prod.mk.inj he).2;have:=Ch.eq_iff.2 (show c.getD i Ch.nil=c2.getD i Ch.nil by rw [hc]);rw [this] at h; cases h
  ·rw [aP trivial];have he:=Ch.eq_iff.1 (by simpa only [Bool.not_eq_false'] using h);refine⟨⟨i+1,hlt,λj hj=> ?_⟩,by show c.length - (i+1)<c.length - i; omega,by simp [SSE2],by simp [HSE,fxS,chS,za],by kernel_rfl,aI _⟩;rcases aR j i with h1 | h1
   ·exact hib j h1
   ·have:j=i:=by omega
    rw [this]; exact he
 ·have hge:i=c.length:=by have:=aC hge; omega
  subst hge;have hc:=Xe hl hib;exact RetR.scal (hq true ⟨λ_=>by rw [hf,hc],λ_=>rfl⟩) rfl (by simp [resV])
theorem zk4:zc prog 15 Ur:=by
 refine ze' f15 λp hp O w0 Q hq=> ?_
 obtain⟨⟨f,c⟩,⟨f2,c2⟩⟩:=p;obtain⟨h1,h2⟩:=hp;simp only at hq h1 h2;refine zb.n zq [2,3,5,6] (let v1:List Blk:=[.box [.sl f.length 3 (fxG f),.sl c.length 4 (chG c)],.box [.sl f2.length 3 (fxG f2),.sl c2.length 4 (chG c2)]];.ite (bif !decide ((f.length:Int)=f2.length) then true else !decide ((c.length:Int)=c2.length)) (.R [.bool false] v1) (.leaf (.loop (lps K15 0).1 (lps K15 0).2 [(2,.ptr 0 0),(3,.ptr 1 0),(5,.i 0),Z 6] v1))) ?_;simp only [Tree.holds,zd];refine⟨λh=> ?_,λh=> ?_⟩
 ·refine RetR.scal (hq false ⟨λh=>(by cases h),λhe=> ?_⟩) rfl (by simp [resV]);obtain⟨e1,e2⟩:=Prod.mk.inj he;subst e1; subst e2;simp at h
 ·have hl:f.length=f2.length/\c.length=c2.length:=by
   by_cases e1:f.length=f2.length
   ·by_cases e2:c.length=c2.length
    ·exact⟨e1,e2⟩
    ·rw [aW (show ¬ ((c.length:Nat):Int)=c2.length by omega)] at h;rw [aX (show((f.length:Nat):Int)=f2.length by omega)] at h;cases h
   ·rw [aW (show ¬ ((f.length:Nat):Int)=f2.length by omega)] at h;cases h
  refine zb.loop (ι:={i:Nat // i<=f.length/\∀ j,j<i->f.getD j Fx.nil=f2.getD j Fx.nil}) (λi=>SSE i.1) (λ_=>HSE f f2 c c2) (λi=>f.length - i.1) ⟨0,aI _,λj hj=>by omega⟩ 0 ?_ ?_ (by kernel_rfl)
  ·exact⟨by simp [SSE],by simp [HSE,fxS,chS,za],by kernel_rfl,aI _⟩
  ·rintro⟨i,hil,hib⟩;refine zb.n zq [2,3,5,6] (let v3:=f.getD (i:Int).toNat Fx.nil;let v2:=f2.getD (i:Int).toNat Fx.nil;let v1:List Blk:=[.box [.sl f.length 3 (fxG f),.sl c.length 4 (chG c)],.box [.sl f2.length 3 (fxG f2),.sl c2.length 4 (chG c2)]];.D ((i:Int)<f.length) (.side ((0:Int)<=i/\(i:Int)<f.length) (.side ((0:Int)<=i/\(i:Int)<f2.length) (.ite (!(decide (Fx.name v3=Fx.name v2)&&(decide (Fx.date v3=Fx.date v2)&&(decide (Fx.value v3=Fx.value v2)&&true)))) (.R [.bool false] v1) (.S (i+1) (.leaf (.back 0 [(2,.ptr 0 0),(3,.ptr 1 0),(5,.i (i+1)),Z 6] v1)))))) (.leaf (.loop (lps (inside K15 0) 0).1 (lps (inside K15 0) 0).2 [(2,.ptr 0 0),(3,.ptr 1 0),(5,.i i),(6,.i 0)] v1))) ?_;simp only [Tree.holds,zd,inR,lo,hi,aD];refine⟨λhlt=> ?_,λhge=> ?_⟩
   ·have hlt:i<f.length:=by have:=aB hlt; omega
    refine⟨by omega,λ_=>⟨by omega,λ_=>⟨λh=> ?_,λh=>⟨by omega,λ_=> ?_⟩⟩⟩⟩
    ·refine RetR.scal (hq false ⟨λh=>(by cases h),λhe=> ?_⟩) rfl (by simp [resV]);have hc:f=f2:=(Prod.mk.inj he).1;have:=Fx.eq_iff.2 (show f.getD i Fx.nil=f2.getD i Fx.nil by rw [hc]);rw [this] at h; cases h
    ·rw [aP trivial];have he:=Fx.eq_iff.1 (by simpa only [Bool.not_eq_false'] using h);refine⟨⟨i+1,hlt,λj hj=> ?_⟩,by show f.length - (i+1)<f.length - i; omega,by simp [SSE],by simp [HSE,fxS,chS,za],by kernel_rfl,aI _⟩;rcases aR j i with h1 | h1
     ·exact hib j h1
     ·have:j=i:=by omega
      rw [this]; exact he
   ·have hge:i=f.length:=by have:=aC hge; omega
    subst hge;have hf:=Xe hl.1 hib;exact XN f f2 c c2 h2 hf hl.2 hq _ _ ⟨by simp [SSE2],by simp [HSE,fxS,chS,za],by kernel_rfl,aI _⟩
noncomputable def K88:=Go.Sx.aA f88
noncomputable def K95:=Go.Sx.aA f95
def Xb:Ctr:=ctrP true (λp:Fx×Fx=>[p.1.av,p.2.av]) (λ_=>True) (λp r=>r=decide (cmpF p.1 p.2<0)) (λ_ (r:Bool)=>(.bool r,[]))
def Yg:Ctr:=ctrP true (λp:Ch×Ch=>[p.1.av,p.2.av]) (λ_=>True) (λp r=>r=decide (cmpC p.1 p.2<0)) (λ_ (r:Bool)=>(.bool r,[]))
theorem za4:zc prog 126 Xb:=by
 refine ze' f126 λp hs O w0 Q hq=> ?_
 obtain⟨⟨a,d,v⟩,⟨b,e,u⟩⟩:=p;replace hq:=hq _ rfl;simp only at hq;refine zb.n zq [] (.R [.bool (bif Op.bytesLess a b then true else bif decide (a=b) then decide (d<e) else false)] [.box [.str a,.i d,.str v],.box [.str b,.i e,.str u]]) ?_;simp only [Tree.holds,zd];refine RetR.scal hq rfl ?_;simp only [resV,cmpF];rw [ZK (n:=cmpI d e) (by simp only [zb9])]
theorem U7:zc prog 127 Yg:=by
 refine ze' f127 λp hs O w0 Q hq=> ?_
 obtain⟨⟨a,v,d,x⟩,⟨b,u,e,y⟩⟩:=p;replace hq:=hq _ rfl;simp only at hq;refine zb.n zq [] (let v1:List Blk:=[.box [.str a,.str v,.i d,.bool x],.box [.str b,.str u,.i e,.bool y]];.N (a=b) (.R [.bool (Op.bytesLess a b)] v1) (.R [.bool (bif Op.bytesLess v u then true else bif decide (v=u) then decide (d<e) else false)] v1)) ?_;simp only [Tree.holds,zd];refine⟨λh=> ?_,λh=> ?_⟩
 ·refine RetR.scal hq rfl ?_;have h:a≠b:=by simpa using h
  simp only [resV,cmpC];rw [aO (λh2=>h (Qs.1 h2))];simp only [zkk];cases Op.bytesLess a b<;>rfl
 ·refine RetR.scal hq rfl ?_;have h:a=b:=by simpa using h
  simp only [resV,cmpC];rw [aP (Qs.2 h),ZK (n:=cmpI d e) (by simp only [zb9])]
noncomputable def GV1:=tb XC (tb VC (tb uc (tb za4 (tb U7 tz))))
def HE(f:List Fx)(c:List Ch):Heap:=[.box [fxS f,chS c]]
def SCE1(i:Nat):KV:=[(1,.ptr 0 0),(3,.i (i:Int)),Z 5,Z 34,Z 35,Z 36,Z 37,Z 40,Z 41,Z 42,Z 43,Z 46,Z 47,Z 48,Z 49,Z 50,Z 51,Z 52,Z 53,Z 54,Z 55,Z 56,Z 57,Z 58,Z 77,Z 78,Z 79,Z 80,Z 83,Z 84,Z 85,Z 86,Z 89,Z 90,Z 91,Z 92,Z 93,Z 94,Z 95,Z 96,Z 97,Z 98,Z 99,Z 100,Z 101]
def SCE2(i:Nat):KV:=[(1,.ptr 0 0),Z 3,(5,.i (i:Int)),Z 34,Z 35,Z 36,Z 37,Z 40,Z 41,Z 42,Z 43,Z 46,Z 47,Z 48,Z 49,Z 50,Z 51,Z 52,Z 53,Z 54,Z 55,Z 56,Z 57,Z 58,Z 77,Z 78,Z 79,Z 80,Z 83,Z 84,Z 85,Z 86,Z 89,Z 90,Z 91,Z 92,Z 93,Z 94,Z 95,Z 96,Z 97,Z 98,Z 99,Z 100,Z 101]
def SFi(a:L8)(d:Int)(i:Nat):KV:=[(1,.str a),(2,.i d),(3,.ptr 0 0),(8,.i (i:Int)),Z 25,Z 26,Z 27,Z 28,Z 29,Z 30,Z 31,Z 32]
theorem Wa{O:Nat->Prop}{w0:World}{Q:AV×Heap->Prop}{Hs:Nat->KV->Heap->Prop}(f:List Fx)(c:List Ch)(hbig:¬ (1000<f.length\/1000<c.length))(hs:∀ j,j<c.length->xY (c.getD j Ch.nil))(hf1:f.all okF=true)(hf2:ordB cmpF Fx.nil f=true)
  (hq:∀ r,r=errE f c->Q (.i r,[])) (kv:KV) (h:Heap) (hle:LeK 0 f88.ntmps kv h (SCE2 0) (HE f c)) :
  zb prog f88 O 0 w0 [] Hs (RetR uy 0 Q) (.code (.loop (lps (inside K88 0) 0).1)::(lps (inside K88 0) 0).2) (mk f88.ntmps kv h):=by
 refine zb.loop (ι:={i:Nat // i<=c.length/\(∀ j,j<i->okC (c.getD j Ch.nil)=true)/\∀ j,j+1<i->cmpC (c.getD j Ch.nil) (c.getD (j+1) Ch.nil)<0}) (λi=>SCE2 i.1) (λ_=>HE f c) (λi=>c.length - i.1) ⟨0,aI _,λj hj=>by omega,λj hj=>by omega⟩ 0 hle ?_ (by kernel_rfl);rintro⟨i,hil,hib,hio⟩;refine zb.n GV1.h [1,3,5,34,35,36,37,40,41,42,43,46,47,48,49,50,51,52,53,54,55,56,57,58,77,78,79,80,83,84,85,86,89,90,91,92,93,94,95,96,97,98,99,100,101] (let v5:List AV:=[.sl f.length 3 (fxG f),.sl c.length 4 (chG c)];let v2:=c.getD (Int.toNat (i-1)) Ch.nil;let v1:=c.getD (i:Int).toNat Ch.nil;let v3:List Blk:=[.box v5,.box [.str v1.zV,.str v1.name,.i v1.date,.bool v1.first]];.D ((i:Int)<c.length) (.side ((0:Int)<=i/\(i:Int)<c.length) (.ex (q15 [.str v1.zV]) λn=>.all (λ(r:Bool)=>r=zY n) λn=>.ex (λ(x:L8)=>(!n)=false->eqL [.str v1.name] [.str x]/\x.length<4611686018427387904) λn_1=>.all (λ(x:Bool)=>(!n)=false->x=zY n_1) λn_2=>.ex (λ(x:Int)=>(bif !n then true else !n_2)=false->eqL [.i v1.date] [.i x]/\True) λn_3=>.all (λ(x:Bool)=>(bif !n then true else !n_2)=false->x=dayB n_3) λn_4=>let v4:=bif bif !n then true else !n_2 then true else !n_4;.side (v4=false/\decide ((0:Int)<i)=true->inR .i64 (i-1)) (.side (v4=false/\decide ((0:Int)<i)=true->(0:Int)<=i - (1:Int)/\(i:Int) - (1:Int)<c.length) (.ex (λ(x:Ch×Ch)=>(bif bif !n then true else !n_2 then true else !n_4)=false/\decide ((0:Int)<i)=true->q45 [.agg [.str v2.zV,.str v2.name,.i v2.date,.bool v2.first],.agg [.str v1.zV,.str v1.name,.i v1.date,.bool v1.first]] x) λn_5=>.all (λ(x:Bool)=>(bif bif !n then true else !n_2 then true else !n_4)=false/\decide ((0:Int)<i)=true->x=decide (cmpC n_5.1 n_5.2<0)) λn_6=>.ite (bif bif bif !n then true else !n_2 then true else !n_4 then true else bif decide ((0:Int)<i) then !n_6 else false) (.R [.i 8] v3) (.S (i+1) (.leaf (.back 0 [(1,.ptr 0 0),Z 3,(5,.i (i+1)),Z 34,Z 35,Z 36,Z 37,Z 40,Z 41,Z 42,Z 43,Z 46,Z 47,Z 48,Z 49,Z 50,Z 51,Z 52,Z 53,Z 54,Z 55,Z 56,Z 57,Z 58,Z 77,Z 78,Z 79,Z 80,Z 83,Z 84,Z 85,Z 86,Z 89,Z 90,Z 91,Z 92,Z 93,Z 94,Z 95,Z 96,Z 97,Z 98,Z 99,Z 100,Z 101] v3))))))) (.R [.i 0] [.box v5])) ?_;simp only [q15,q45,Tree.holds,zd,inR,lo,hi,aD];refine⟨λhlt=> ?_,λhge=> ?_⟩
 ·have hlt:i<c.length:=by have:=aB hlt; omega
  obtain⟨hs1,hs2⟩:=hs i hlt;have e:((i:Int) - 1).toNat=i - 1:=by omega
  simp only [e];have hi0:∀ {b:Bool},b=false/\decide (0<(i:Int))=true->0<i:=λh=>by have:=aB h.2; omega
  refine⟨by omega,λ_=>⟨(c.getD i Ch.nil).zV,⟨by simp,by omega⟩,⟨_,rfl⟩,?_⟩⟩;rintro _ rfl;refine⟨(c.getD i Ch.nil).name,λ_=>⟨by simp,by omega⟩,⟨_,λ_=>rfl⟩,?_⟩;intro b1 g1;refine⟨(c.getD i Ch.nil).date,λ_=>⟨by simp,trivial⟩,⟨_,λ_=>rfl⟩,?_⟩;intro b2 g2;refine⟨λh=>by have:=hi0 h; omega,λ_=>⟨λh=>by have:=hi0 h; omega,λ_=>⟨(c.getD (i - 1) Ch.nil,c.getD i Ch.nil),λ_=>⟨by simp,trivial⟩,⟨_,λ_=>rfl⟩,?_⟩⟩⟩;intro b3 g3;have hok:okC (c.getD i Ch.nil)=(zY (c.getD i Ch.nil).zV&&zY (c.getD i Ch.nil).name&&dayB (c.getD i Ch.nil).date):=rfl;simp only at g3;generalize zY (c.getD i Ch.nil).zV=p1 at *
  generalize zY (c.getD i Ch.nil).name=p2 at *
  generalize dayB (c.getD i Ch.nil).date=p3 at *
  have key:(bif bif !p1 then true else !b1 then true else !b2) = !okC (c.getD i Ch.nil):=by
   rw [hok];cases p1 with
   | false=>rfl
   | true=>
    have g1:=g1 rfl;subst g1;cases b1 with
    | false=>rfl
    | true=>have g2:=g2 rfl; subst g2; rfl
  rw [key] at g3 ⊢;refine⟨λh=> ?_,λh=>⟨by omega,λ_=> ?_⟩⟩
  ·refine RetR.scal (hq 8 (zjf hbig ?_).symm) rfl (by simp [resV]);cases hk:okC (c.getD i Ch.nil) with
   | false=>
    have:=zau hlt hk;rw [this]; simp
   | true=>
    rw [hk] at h g3;simp only [Bool.not_true,cond_false] at h;cases h0:decide (0<(i:Int)) with
    | false=>rw [h0] at h; cases h
    | true=>
     rw [h0] at h;have hi1:0<i:=by have:=aB h0; omega
     have g3:=g3 ⟨rfl,h0⟩;rw [g3] at h;simp only [cond_true,Bool.not_eq_true',aV] at h;have e2:i - 1+1=i:=by omega
     have:=ue (l:=c) (c:=cmpC) (z:=Ch.nil) (j:=i - 1) (by omega) (by rw [e2]; exact h);rw [this]; simp
  ·have hk:okC (c.getD i Ch.nil)=true:=by
    cases hk:okC (c.getD i Ch.nil) with
    | true=>rfl
    | false=>rw [hk] at h; cases h
   rw [hk] at h g3;rw [aP trivial];refine⟨⟨i+1,hlt,λj hj=> ?_,λj hj=> ?_⟩,by show c.length - (i+1)<c.length - i; omega,by simp [SCE2],by simp [HE,fxS,chS,za],by kernel_rfl,aI _⟩
   ·rcases aR j i with h1 | h1
    ·exact hib j h1
    ·have:j=i:=by omega
     rw [this]; exact hk
   ·rcases aR (j+1) i with h1 | h1
    ·exact hio j h1
    ·have e2:j+1=i:=by omega
     have e3:j=i - 1:=by omega
     have h0:decide (0<(i:Int))=true:=aX (by omega);have g3:=g3 ⟨rfl,h0⟩;simp only [Bool.not_true,cond_false,h0,cond_true] at h;rw [e2,e3];exact aB (by rw [<- g3]; simpa using h)
 ·have hge:i=c.length:=by have:=aC hge; omega
  subst hge;refine RetR.scal (hq 0 (vj.2 ⟨hbig,hf1,zgz hib,hf2,u0 hio⟩).symm) rfl (by simp [resV])
theorem Y8:zc prog 88 uy:=by
 refine ze' f88 λp hp O w0 Q hq=> ?_
 obtain⟨f,c⟩:=p;obtain⟨h1,h2,h3,h4⟩:=hp;simp only at hq h1 h2 h3 h4;refine zb.n GV1.h [1,3,5,34,35,36,37,40,41,42,43,46,47,48,49,50,51,52,53,54,55,56,57,58,77,78,79,80,83,84,85,86,89,90,91,92,93,94,95,96,97,98,99,100,101] (let v1:List Blk:=[.box [.sl f.length 3 (fxG f),.sl c.length 4 (chG c)]];.ite (bif decide ((1000:Int)<f.length) then true else decide ((1000:Int)<c.length)) (.R [.i 4] v1) (.leaf (.loop (lps K88 0).1 (lps K88 0).2 [(1,.ptr 0 0),(3,.i 0),Z 5,Z 34,Z 35,Z 36,Z 37,Z 40,Z 41,Z 42,Z 43,Z 46,Z 47,Z 48,Z 49,Z 50,Z 51,Z 52,Z 53,Z 54,Z 55,Z 56,Z 57,Z 58,Z 77,Z 78,Z 79,Z 80,Z 83,Z 84,Z 85,Z 86,Z 89,Z 90,Z 91,Z 92,Z 93,Z 94,Z 95,Z 96,Z 97,Z 98,Z 99,Z 100,Z 101] v1))) ?_;simp only [Tree.holds,zd];refine⟨λh=> ?_,λh=> ?_⟩
 ·have h:1000<f.length\/1000<c.length:=by
   rw [Bool.cond_eq_ite] at h;split at h
   ·rename_i h1; left; have:=aB h1; omega
   ·right; have:=aB h; omega
  exact RetR.scal (hq 4 (aP h).symm) rfl (by simp [resV])
 ·have hbig:¬ (1000<f.length\/1000<c.length):=by
   rw [Bool.cond_eq_ite] at h;split at h
   ·cases h
   ·rename_i h1;have h2:=aC h;rintro(h3 | h3)
    ·exact h1 (aX (by omega))
    ·omega
  refine zb.loop (ι:={i:Nat // i<=f.length/\(∀ j,j<i->okF (f.getD j Fx.nil)=true)/\∀ j,j+1<i->cmpF (f.getD j Fx.nil) (f.getD (j+1) Fx.nil)<0}) (λi=>SCE1 i.1) (λ_=>HE f c) (λi=>f.length - i.1) ⟨0,aI _,λj hj=>by omega,λj hj=>by omega⟩ 0 ?_ ?_ (by kernel_rfl)
  ·exact⟨by simp [SCE1],by simp [HE,fxS,chS,za],by kernel_rfl,aI _⟩
  ·rintro⟨i,hil,hib,hio⟩;refine zb.n GV1.h [1,3,5,34,35,36,37,40,41,42,43,46,47,48,49,50,51,52,53,54,55,56,57,58,77,78,79,80,83,84,85,86,89,90,91,92,93,94,95,96,97,98,99,100,101] (let v5:List AV:=[.sl f.length 3 (fxG f),.sl c.length 4 (chG c)];let v3:=f.getD (Int.toNat (i-1)) Fx.nil;let v1:=f.getD (i:Int).toNat Fx.nil;let v2:List Blk:=[.box v5,.box [.str v1.name,.i v1.date,.str v1.value]];.D ((i:Int)<f.length) (.side ((0:Int)<=i/\(i:Int)<f.length) (.ex (q15 [.str v1.name]) λn=>.all (λ(r:Bool)=>r=zY n) λn=>.ex (λ(x:Int)=>(!n)=false->eqL [.i v1.date] [.i x]/\True) λn_1=>.all (λ(x:Bool)=>(!n)=false->x=dayB n_1) λn_2=>.ex (λ(x:L8)=>(bif !n then true else !n_2)=false->eqL [.str v1.value] [.str x]/\x.length<1099511627776) λn_3=>.all (λ(x:Int)=>(bif !n then true else !n_2)=false->x=errR n_3) λn_4=>let v4:=bif bif !n then true else !n_2 then true else !decide (n_4=0);.side (v4=false/\decide ((0:Int)<i)=true->inR .i64 (i-1)) (.side (v4=false/\decide ((0:Int)<i)=true->(0:Int)<=i - (1:Int)/\(i:Int) - (1:Int)<f.length) (.ex (λ(x:Fx×Fx)=>(bif bif !n then true else !n_2 then true else !decide (n_4=0))=false/\decide ((0:Int)<i)=true->q44 [.agg [.str v3.name,.i v3.date,.str v3.value],.agg [.str v1.name,.i v1.date,.str v1.value]] x) λn_5=>.all (λ(x:Bool)=>(bif bif !n then true else !n_2 then true else !decide (n_4=0))=false/\decide ((0:Int)<i)=true->x=decide (cmpF n_5.1 n_5.2<0)) λn_6=>.ite (bif bif bif !n then true else !n_2 then true else !decide (n_4=0) then true else bif decide ((0:Int)<i) then !n_6 else false) (.R [.i 8] v2) (.S (i+1) (.leaf (.back 0 [(1,.ptr 0 0),(3,.i (i+1)),Z 5,Z 34,Z 35,Z 36,Z 37,Z 40,Z 41,Z 42,Z 43,Z 46,Z 47,Z 48,Z 49,Z 50,Z 51,Z 52,Z 53,Z 54,Z 55,Z 56,Z 57,Z 58,Z 77,Z 78,Z 79,Z 80,Z 83,Z 84,Z 85,Z 86,Z 89,Z 90,Z 91,Z 92,Z 93,Z 94,Z 95,Z 96,Z 97,Z 98,Z 99,Z 100,Z 101] v2))))))) (.leaf (.loop (lps (inside K88 0) 0).1 (lps (inside K88 0) 0).2 [(1,.ptr 0 0),(3,.i i),(5,.i 0),Z 34,Z 35,Z 36,Z 37,Z 40,Z 41,Z 42,Z 43,Z 46,Z 47,Z 48,Z 49,Z 50,Z 51,Z 52,Z 53,Z 54,Z 55,Z 56,Z 57,Z 58,Z 77,Z 78,Z 79,Z 80,Z 83,Z 84,Z 85,Z 86,Z 89,Z 90,Z 91,Z 92,Z 93,Z 94,Z 95,Z 96,Z 97,Z 98,Z 99,Z 100,Z 101] [.box v5]))) ?_;simp only [q15,q44,Tree.holds,zd,inR,lo,hi,aD];refine⟨λhlt=> ?_,λhge=> ?_⟩
   ·have hlt:i<f.length:=by have:=aB hlt; omega
    obtain⟨hs1,hs2⟩:=h3 i hlt;have e:((i:Int) - 1).toNat=i - 1:=by omega
    simp only [e];have hi0:∀ {b:Bool},b=false/\decide (0<(i:Int))=true->0<i:=λh=>by have:=aB h.2; omega
    refine⟨by omega,λ_=>⟨(f.getD i Fx.nil).name,⟨by simp,by omega⟩,⟨_,rfl⟩,?_⟩⟩;rintro _ rfl;refine⟨(f.getD i Fx.nil).date,λ_=>⟨by simp,trivial⟩,⟨_,λ_=>rfl⟩,?_⟩;intro b1 g1;refine⟨(f.getD i Fx.nil).value,λ_=>⟨by simp,by omega⟩,⟨_,λ_=>rfl⟩,?_⟩;intro b2 g2;refine⟨λh=>by have:=hi0 h; omega,λ_=>⟨λh=>by have:=hi0 h; omega,λ_=>⟨(f.getD (i - 1) Fx.nil,f.getD i Fx.nil),λ_=>⟨by simp,trivial⟩,⟨_,λ_=>rfl⟩,?_⟩⟩⟩;intro b3 g3;have hok:okF (f.getD i Fx.nil)=(zY (f.getD i Fx.nil).name&&dayB (f.getD i Fx.nil).date&&decide (errR (f.getD i Fx.nil).value=0)):=rfl;simp only at g3;generalize zY (f.getD i Fx.nil).name=p1 at *
    generalize dayB (f.getD i Fx.nil).date=p2 at *
    generalize errR (f.getD i Fx.nil).value=p3 at *
    have key:(bif bif !p1 then true else !b1 then true else !decide (b2=0)) = !okF (f.getD i Fx.nil):=by
     rw [hok];cases p1 with
     | false=>rfl
     | true=>
      have g1:=g1 rfl;subst g1;cases b1 with
      | false=>rfl
      | true=>have g2:=g2 rfl; subst g2; rfl
    rw [key] at g3 ⊢;refine⟨λh=> ?_,λh=>⟨by omega,λ_=> ?_⟩⟩
    ·refine RetR.scal (hq 8 (zjf hbig ?_).symm) rfl (by simp [resV]);cases hk:okF (f.getD i Fx.nil) with
     | false=>
      have:=zau hlt hk;rw [this]; simp
     | true=>
      rw [hk] at h g3;simp only [Bool.not_true,cond_false] at h;cases h0:decide (0<(i:Int)) with
      | false=>rw [h0] at h; cases h
      | true=>
       rw [h0] at h;have hi1:0<i:=by have:=aB h0; omega
       have g3:=g3 ⟨rfl,h0⟩;rw [g3] at h;simp only [cond_true,Bool.not_eq_true',aV] at h;have e2:i - 1+1=i:=by omega
       have:=ue (l:=f) (c:=cmpF) (z:=Fx.nil) (j:=i - 1) (by omega) (by rw [e2]; exact h);rw [this]; simp
    ·have hk:okF (f.getD i Fx.nil)=true:=by
      cases hk:okF (f.getD i Fx.nil) with
      | true=>rfl
      | false=>rw [hk] at h; cases h
     rw [hk] at h g3;rw [aP trivial];refine⟨⟨i+1,hlt,λj hj=> ?_,λj hj=> ?_⟩,by show f.length - (i+1)<f.length - i; omega,by simp [SCE1],by simp [HE,fxS,chS,za],by kernel_rfl,aI _⟩
     ·rcases aR j i with h1 | h1
      ·exact hib j h1
      ·have:j=i:=by omega
       rw [this]; exact hk
     ·rcases aR (j+1) i with h1 | h1
      ·exact hio j h1
      ·have e2:j+1=i:=by omega
       have e3:j=i - 1:=by omega
       have h0:decide (0<(i:Int))=true:=aX (by omega);have g3:=g3 ⟨rfl,h0⟩;simp only [Bool.not_true,cond_false,h0,cond_true] at h;rw [e2,e3];exact aB (by rw [<- g3]; simpa using h)
   ·have hge:i=f.length:=by have:=aC hge; omega
    subst hge;exact Wa f c hbig h4 (zgz hib) (u0 hio) hq _ _ ⟨by simp [SCE2],by simp [HE,fxS,chS,za],by kernel_rfl,aI _⟩
def WX:Ctr:=ctrP true (λp:(List Fx×List Ch)×(L8×Int)=>[envA p.1.1 p.1.2,.str p.2.1,.i p.2.2]) (λp=>p.1.1.length<2^40) (λp r=>r=zP p.1.1 p.2.1 p.2.2) (λ_ r=>(.tup [.str r.1,.bool r.2],[]))
theorem XJ:zc prog 95 WX:=by
 refine ze' f95 λp hp O w0 Q hq=> ?_
 obtain⟨⟨f,c⟩,⟨a,d⟩⟩:=p;replace hq:=hq _ rfl;simp only at hq hp;refine zb.n zq [1,2,3,8,25,26,27,28,29,30,31,32] (.leaf (.loop (lps K95 0).1 (lps K95 0).2 [(1,.str a),(2,.i d),(3,.ptr 0 0),(8,.i 0),Z 25,Z 26,Z 27,Z 28,Z 29,Z 30,Z 31,Z 32] [.box [.sl f.length 3 (fxG f),.sl c.length 4 (chG c)]])) ?_;simp only [Tree.holds,zd];refine zb.loop (ι:={i:Nat // i<=f.length/\∀ j,j<i->(decide ((f.getD j Fx.nil).name=a)&&decide ((f.getD j Fx.nil).date=d))=false}) (λi=>SFi a d i.1) (λ_=>HE f c) (λi=>f.length - i.1) ⟨0,aI _,λj hj=>by omega⟩ 0 ?_ ?_ (by kernel_rfl)
 ·exact⟨by simp [SFi],by simp [HE,fxS,chS,za],by kernel_rfl,aI _⟩
 ·rintro⟨i,hil,hib⟩;refine zb.n zq [1,2,3,8,25,26,27,28,29,30,31,32] (let v2:=f.getD (i:Int).toNat Fx.nil;let v1:List Blk:=[.box [.sl f.length 3 (fxG f),.sl c.length 4 (chG c)]];.D ((i:Int)<f.length) (.side ((0:Int)<=i/\(i:Int)<f.length) (.side (decide (Fx.name v2=a)=true->(0:Int)<=i/\(i:Int)<f.length) (.ite (bif decide (Fx.name v2=a) then decide (Fx.date v2=d) else false) (.side ((0:Int)<=i/\(i:Int)<f.length) (.R [.str v2.value,.bool true] v1)) (.S (i+1) (.leaf (.back 0 [(1,.str a),(2,.i d),(3,.ptr 0 0),(8,.i (i+1)),Z 25,Z 26,Z 27,Z 28,Z 29,Z 30,Z 31,Z 32] v1)))))) (.R [.str #[].toList,.bool false] v1)) ?_;simp only [Tree.holds,zd,inR,lo,hi,aD];refine⟨λhlt=> ?_,λhge=> ?_⟩
  ·have hlt:i<f.length:=by have:=aB hlt; omega
   have key:(bif decide ((f.getD i Fx.nil).name=a) then decide ((f.getD i Fx.nil).date=d) else false)=(decide ((f.getD i Fx.nil).name=a)&&decide ((f.getD i Fx.nil).date=d)):=by cases decide ((f.getD i Fx.nil).name=a)<;>rfl
   rw [key];refine⟨by omega,λ_=>⟨λ_=>by omega,λ_=>⟨λh=>⟨by omega,λ_=> ?_⟩,λh=>⟨by omega,λ_=> ?_⟩⟩⟩⟩
   ·have:=zc9 (p:=λx:Fx=>decide (x.name=a)&&decide (x.date=d)) hlt h hib;have hr:zP f a d=((f.getD i Fx.nil).value,true):=by unfold zP; rw [this]
    rw [hr] at hq;exact RetR.scal hq rfl (by simp [resV])
   ·rw [aP trivial];refine⟨⟨i+1,hlt,λj hj=> ?_⟩,by show f.length - (i+1)<f.length - i; omega,by simp [SFi],by simp [HE,fxS,chS,za],by kernel_rfl,aI _⟩;rcases aR j i with h1 | h1
    ·exact hib j h1
    ·have:j=i:=by omega
     rw [this]; exact h
  ·have hge:i=f.length:=by have:=aC hge; omega
   subst hge;have:=zm9 (p:=λx:Fx=>decide (x.name=a)&&decide (x.date=d)) hib;have hr:zP f a d=([],false):=by unfold zP; rw [this]
   rw [hr] at hq;exact RetR.scal hq rfl (by simp [resV])
end Go.Proofs.Tryz
end
section
namespace Go.Nov
open Go.Sx
theorem Fx.zdy(x:Fx){j o:Nat}(hj:j<1)(ho:o<3):zf (zg 3 [.str x.name,.i x.date,.str x.value]) 0 j o=x.cell o:=by
 have:j=0:=by omega
 subst this;rcases o with _ | _ | _ | o
 ·rfl
 ·rfl
 ·rfl
 ·omega
theorem zdd{α:Type}(l:List α)(x z:α)(j:Nat):(l++[x]).getD j z=if j<l.length then l.getD j z else if j=l.length then x else z:=by
 simp only [List.getD,bT];split
 ·rfl
 ·rename_i h;split
  ·rename_i h2; subst h2; simp
  ·rename_i h2;have:j - l.length≠0:=by omega
   obtain⟨k,hk⟩:=Nat.exists_eq_succ_of_ne_zero this;rw [hk]; simp
theorem VJ{l:List Fx}{x:Fx}{g:Nat->Nat->AV}(hg:eqG l.length 3 g (fxG l)):eqG (l.length+1) 3 (appG l.length g (zf (zg 3 [.str x.name,.i x.date,.str x.value]) 0)) (fxG (l++[x])):=by
 intro j o hj ho;simp only [appG,fxG,zdd];split
 ·rename_i h; exact hg j o h ho
 ·rename_i h;have:j=l.length:=by omega
  subst this;rw [aP rfl,Fx.zdy x (by omega) ho]
theorem XL(n sz:Nat)(g g':Nat->Nat->AV):eqG (0+n) sz (appG 0 g g') g':=by
 intro j o _ _;simp [appG]
theorem zki(l:List Fx)(j o:Nat)(ho:o<3):qc (fxG l j o)=true:=by
 simp only [fxG];rcases o with _ | _ | _ | o
 ·rfl
 ·rfl
 ·rfl
 ·omega
theorem zll(l:List Ch)(j o:Nat)(ho:o<4):qc (chG l j o)=true:=by
 simp only [chG];rcases o with _ | _ | _ | _ | o
 ·rfl
 ·rfl
 ·rfl
 ·rfl
 ·omega
theorem ze1{α:Type}{p:α->Bool}(z:α)(l:List α):idxB p l<l.length/\l.find? p=if 0<=idxB p l then some (l.getD (idxB p l).toNat z) else none:=by
 unfold idxB;by_cases h:l.findIdx p<l.length
 ·rw [aP h];refine⟨by omega,?_⟩;rw [aP (by omega),aD];refine zc9 h ?_ λj hj=> ?_
  ·have:=List.findIdx_getElem (w:=h);simpa [List.getD,h] using this
  ·have:=List.not_of_lt_findIdx hj;have hjl:j<l.length:=by omega
   simpa [List.getD,hjl] using this
 ·rw [aO h];refine⟨by omega,?_⟩;rw [aO (by omega),List.find?_eq_none];intro x hx hpx;exact h (List.findIdx_lt_length_of_exists ⟨x,hx,hpx⟩)
theorem zf4(f:List Fx)(a:L8)(d:Int):idxB (λx=>decide (cmpF x ⟨a,d,[]⟩=0)) f<f.length/\zP f a d=if 0<=idxB (λx=>decide (cmpF x ⟨a,d,[]⟩=0)) f then((f.getD (idxB (λx=>decide (cmpF x ⟨a,d,[]⟩=0)) f).toNat Fx.nil).value,true) else([],false):=by
 obtain⟨h1,h2⟩:=ze1 (p:=λx=>decide (cmpF x ⟨a,d,[]⟩=0)) Fx.nil f;refine⟨h1,?_⟩
 have e:(λx:Fx=>decide (x.name=a)&&decide (x.date=d))=λx=>decide (cmpF x ⟨a,d,[]⟩=0):=by
  funext x;rw [<- Bool.decide_and]; exact decide_eq_decide.2 (@zkm x ⟨a,d,[]⟩).symm
 unfold zP;rw [e,h2];by_cases h:0<=idxB (λx=>decide (cmpF x ⟨a,d,[]⟩=0)) f
 ·rw [aP h,aP h]
 ·rw [aO h,aO h]
end Go.Nov
end
