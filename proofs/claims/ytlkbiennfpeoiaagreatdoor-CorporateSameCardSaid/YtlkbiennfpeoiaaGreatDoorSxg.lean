/- Part 7 of the proof. -/
import Derived.Test.YtlkbiennfpeoiaaGreatDoorSxb
import Derived.Test.YtlkbiennfpeoiaaGreatDoorSxf
set_option linter.unusedVariables false
set_option linter.unusedSimpArgs false
set_option linter.unusedSectionVars false
section
set_option maxRecDepth 100000
open Go Go.Sx Go.Proofs Go.Nov
namespace Go.Proofs.Tryz
attribute [local simp] eqKV eqA eqA0 eqH eqB eqL eqL0
theorem zcf(n sz:Nat)(g g':Nat→Nat→AV):eqG (0+n) sz (appG 0 g g') g':=QZ n sz g g'
def US:Ctr:=ctrP false (fun l:List Int=>[Con.dayS l]) (fun l=>l.length<2^40) (fun _ (_:Unit)=>True) (fun l _=>(.osl 0 1 0 l.length,[.arr l.length 1 (Con.dayG l)]))
theorem zc1:zc Tryz.prog 42 US:=by
 refine Qh (fn:=Tryz.f42) (c:=Tryz.f42.body.getD .skip) rfl rfl rfl fun l hl O w0 Q hq=> ?_
 replace hq:=hq () trivial
 refine zb.run hmix z7 [] 400 (T:=.all (fun(b:Bool)=>0<l.length→b=false) fun n=>.ite n (.leaf (.ret [.nils] [])) (.side (0=0∧0≤0∧(0+l.length)*8≤140737488355328) (.leaf (.ret [.osl 0 1 0 (0+l.length)] [.arr (0+l.length) 1 (appG 0 (zh 1 []) (Con.dayG l))])))) (by kernel_rfl) ?_
 simp only [Tree.holds,zd]
 refine⟨⟨false,fun _=>rfl⟩,fun b hb=>⟨fun h=> ?_,fun h=>⟨⟨trivial,Nat.le_refl _,by omega⟩,fun _=> ?_⟩⟩⟩
 ·have h0:l=[]:=by
   rcases Nat.eq_zero_or_pos l.length with h0 | h0
   ·exact List.length_eq_zero_iff.1 h0
   ·rw [hb h0] at h; cases h
  subst h0
  refine RetR.scal (.inr ⟨.osl 0 1 0 0,[(1,Con.dayG [])],by simp [upA2,upA1,upA0],?_⟩) (r:=.nils) rfl (by simp [resV])
  exact hq
 ·refine RetR.outs [0] rfl rfl (.inl hq) (fun h=>by cases h) ?_ ?_ rfl
  ·simp [resV,exp2,exp1,exp0,zy,eqA2,eqL1]
  ·exact⟨⟨by omega,rfl,zcf _ _ _ _⟩,trivial⟩
theorem zci{s:List Con}{i:Nat} : eqG (i+1) 12 (appG i (Con.conG s) (zg (zh 12 [.int .u8 (s.getD i Con.nil).kind,.str (s.getD i Con.nil).src,.str (s.getD i Con.nil).dst,.str (s.getD i Con.nil).name,.int .u8 (s.getD i Con.nil).x.kind,.str (s.getD i Con.nil).x.rat,.str (s.getD i Con.nil).x.name,.int .i64 (s.getD i Con.nil).x.date,.sl (s.getD i Con.nil).x.sub.length 5 (Ex.exG (s.getD i Con.nil).x.sub),.int .i64 (s.getD i Con.nil).date,.sl (s.getD i Con.nil).days.length 1 (Con.dayG (s.getD i Con.nil).days),.sl (s.getD i Con.nil).sub.length 12 (s.getD i Con.nil).deep]) 0)) (Con.conG s):=by
 intro j o hj ho
 simp only [appG,zg,zh]
 by_cases h:j<i
 ·rw [if_pos h]
 ·have:j=i:=by omega
  subst this
  rw [if_neg h]
  have e:j - j=0:=by omega
  match o,ho with
  | 0,_=>simp [e,Con.conG,Con.cell]
  | 1,_=>simp [e,Con.conG,Con.cell]
  | 2,_=>simp [e,Con.conG,Con.cell]
  | 3,_=>simp [e,Con.conG,Con.cell]
  | 4,_=>simp [e,Con.conG,Con.cell]
  | 5,_=>simp [e,Con.conG,Con.cell]
  | 6,_=>simp [e,Con.conG,Con.cell]
  | 7,_=>simp [e,Con.conG,Con.cell]
  | 8,_=>simp [e,Con.conG,Con.cell]
  | 9,_=>simp [e,Con.conG,Con.cell]
  | 10,_=>simp [e,Con.conG,Con.cell]
  | 11,_=>simp [e,Con.conG,Con.cell]
end Go.Proofs.Tryz
end
section
namespace Go.Sx
variable [Stat]
variable {P:Program} {fn:Func} {Xp:List PanicEntry→Prop}
theorem zc.frozen{X R:Type}{inp:X→List AV}{pre:X→Prop}{post:X→R→Prop}{out:X→R→AV×Heap}{out':X→R→AV}{g:Nat}(h:zc P g (ctrP true inp pre post out))
  (hn:∀ x r,pre x→post x r→new2 (out x r).2 [] (out x r).1) (he:∀ x r,pre x→post x r→LeA (exp2 (out x r).2 [] (out x r).1) (out' x r)):zc P g (ctrP true inp pre post fun x r=>(out' x r,[])):=by
 intro args hc Q hq hfr
 have hc0:=hfr rfl
 subst hc0
 simp only [ctrP] at hq
 obtain⟨x,⟨h1,h2⟩,h3,h4⟩:=hq
 have k:=h args [] (fun p=>∃ r,post x r∧p=out x r) (by simp only [ctrP]; exact⟨x,⟨h1,h2⟩,h3,fun r hr=>⟨r,hr,rfl⟩⟩) (fun _=>rfl)
 intro O w σ vals hg hh hr
 have hσ:σ=[]:=List.length_eq_zero_iff.1 (by simpa using hh.len)
 subst hσ
 refine uy.mono ?_ (k O w [] vals hg hh hr)
 rintro v w' ⟨a,hs,σ',⟨r,hr,e⟩,g1,g2,g3,g4,g5,g6⟩
 have ea:a=(out x r).1:=by rw [← e]
 have eh:hs=(out x r).2:=by rw [← e]
 have sub:∀ b,Own O σ' b→(Own O σ' b∨((ctrP true inp pre post out).fresh=true∧b<w.heap.size)):=fun b hb=>.inl hb
 have hnew:∀ b,Mine σ' b→w.heap.size≤b:=fun b hb=>by
  rcases g6.grow b hb with hx | hx
  ·obtain⟨_,he,_⟩:=hx; simp at he
  ·exact hx
 have XX:Exp O w' σ' hs [] [] (fun b=>Own O [] b∨((ctrP true inp pre post fun x r=>(out' x r,([]:Heap))).fresh=true∧b<w.heap.size)):=
  ⟨g3,⟨g2.len,g2.inj,g2.lt,fun i e b he hb=>Jv sub (g2.blk i e b he hb)⟩,rfl,by simp,fun j=>by simp,fun b hb=>by
   rcases hb with hb | ⟨_,hb⟩
   ·exact .inl hb
   ·exact .inr fun hm=>by have:=hnew b hm; omega⟩
 refine⟨out' x r,[],[],h4 r hr,he x r h2 hr _ _ _ _ ?_,⟨rfl,fun i j e f a b he=>by simp at he,fun i e a he=>by simp at he,fun i e b he=>by simp at he⟩,⟨g3.old,fun i e ad he=>by simp at he,g3.stat.own fun b hb=>by
  rcases hb with hb | ⟨e,he,_⟩
  ·exact .inl hb
  ·simp at he⟩,Nat.le_refl _,fun i e he=>by simp at he,⟨g6.os,g6.tape,g6.output,g6.size,fun b hb hno=>g6.keep b hb hno,fun b hb=>by obtain⟨_,he,_⟩:=hb; simp at he⟩⟩
 rw [← ea,← eh]
 exact JA XX (.inr (by rw [ea,eh]; exact hn x r h2 hr)) (wG sub g1)
end Go.Sx
end
section
namespace Go.Nov
def sumS(m:Bool)(x:Nat)(n:Bool)(y:Nat):Bool×Nat:=if m=n then(m,x+y) else if y≤x then(m,x - y) else(n,y - x)
def addI(s t:List UInt8):List UInt8×Int:=if z6 s t=0 then wr (sumS (negI s) (numI s) (negI t) (numI t)).1 (sumS (negI s) (numI s) (negI t) (numI t)).2 else([],z6 s t)
def subI(s t:List UInt8):List UInt8×Int:=if z6 s t=0 then wr (sumS (negI s) (numI s) (!negI t) (numI t)).1 (sumS (negI s) (numI s) (!negI t) (numI t)).2 else([],z6 s t)
def mulI(s t:List UInt8):List UInt8×Int:=if z6 s t=0 then wr (negI s != negI t) (numI s*numI t) else([],z6 s t)
def cmpZ(m:Bool)(x:Nat)(n:Bool)(y:Nat):Int:=if m=true∧n=false then -1 else if n=true∧m=false then 1 else if m=true then cmpN y x else cmpN x y
def ZC(s t:List UInt8):Int×Int:=if z6 s t=0 then(cmpZ (negI s) (numI s) (negI t) (numI t),0) else(0,z6 s t)
theorem ZK{d:Nat}(h:d<10):(byt d).toNat=48+d:=by
 unfold byt
 rw [UInt8.toNat_ofNat']
 omega
theorem yI{x:Nat}(h:x≠0):txt x=((dec x).map byt).reverse:=if_neg h
theorem ZX{x:Nat}(h:x≠0):(txt x).length=(dec x).length:=by rw [yI h]; simp
theorem zb4{x:Nat}(h:x≠0):allD (txt x):=by
 intro c hc
 rw [yI h] at hc
 simp only [List.mem_reverse,List.mem_map] at hc
 obtain⟨d,hd,rfl⟩:=hc
 have:d<10:=Ten.zi x d hd
 rw [ZK this]
 omega
theorem zmm{x:Nat}(h:x≠0):dg (txt x)=dec x:=by
 rw [yI h,dg,List.map_reverse,List.reverse_reverse,List.map_map]
 conv=>rhs; rw [← List.map_id (dec x)]
 refine List.map_congr_left fun d hd=> ?_
 have:d<10:=Ten.zi x d hd
 simp only [Function.comp,ZK this,id]
 omega
theorem zkg{x:Nat}(h:x≠0):numD (txt x)=x:=by
 rw [← YQ,zmm h]
 exact Ten.zl x
theorem WJ{x:Nat}(h:x≠0):(txt x).getD 0 0≠48∧(txt x).getD 0 0≠45:=by
 have hl:=VK h
 have ht:=zas hl
 have hlt:=dec_lt x ((dec x).length - 1)
 have e:(txt x).getD 0 0=byt ((dec x).getD ((dec x).length - 1) 0):=by
  rw [yI h]
  simp only [List.getD_eq_getElem?_getD]
  rw [List.getElem?_reverse (by simpa using hl)]
  simp [List.getElem?_eq_getElem (show(dec x).length - 1<(dec x).length by omega)]
 rw [e]
 have hb:=ZK hlt
 constructor
 ·intro h2
  rw [h2] at hb
  have:(48:UInt8).toNat=48:=rfl
  omega
 ·intro h2
  rw [h2] at hb
  have:(45:UInt8).toNat=45:=rfl
  omega
theorem ze7{x:Nat}(h:x≠0):txt x≠[]:=by
 intro h2
 have:=ZX h
 rw [h2] at this
 have:=VK h
 simp at *; omega
theorem zc5{x:Nat}(h:x≠0)(neg:Bool):parse (sgn neg (txt x))=(neg,txt x):=by
 cases neg with
 | true=>rfl
 | false=>
  simp only [sgn,Bool.false_eq_true,if_false]
  have h1:=(WJ h).2
  cases ht:txt x with
  | nil=>exact absurd ht (ze7 h)
  | cons c b=>
   rw [ht] at h1
   have:c≠45:=h1
   simp [parse,this]
theorem zg0{x:Nat}(h:x≠0)(neg:Bool):we neg (txt x)=true:=by
 have h1:=(WJ h).1
 have h2:txt x≠[48]:=by
  intro h2
  rw [h2] at h1
  exact h1 rfl
 have h3:=ze7 h
 have h4:(txt x).all isD=true:=zav.2 (zb4 h)
 simp only [List.getD_eq_getElem?_getD] at h1
 simp [we,h3,h2,h1,h4]
theorem Jc{neg:Bool}{x:Nat}(h:(wr neg x).2=0):errI (wr neg x).1=0∧numI (wr neg x).1=x∧negI (wr neg x).1=(neg&&decide (x≠0)):=by
 unfold wr at h ⊢
 by_cases h0:x=0
 ·subst h0
  simp only [if_true]
  refine⟨rfl,rfl,?_⟩
  simp [negI,parse]
 ·rw [if_neg h0] at h ⊢
  by_cases h1:1000<(dec x).length
  ·rw [if_pos h1] at h; cases h
  ·rw [if_neg h1]
   simp only [errI,numI,negI,zc5 h0,zg0 h0,if_true]
   rw [ZX h0,if_neg h1]
   exact⟨rfl,zkg h0,by simp [h0]⟩
theorem zi4(neg:Bool)(x:Nat):(wr neg x).2=0∨wr neg x=([],14):=by
 unfold wr
 split
 ·exact .inl rfl
 ·split
  ·exact .inr rfl
  ·exact .inl rfl
theorem zjw(neg:Bool)(b:List UInt8):(sgn neg b).length≤b.length+1:=by
 unfold sgn; split<;>simp
theorem vM(neg:Bool)(x:Nat):(wr neg x).1.length≤1001:=by
 unfold wr
 split
 ·simp
 ·rename_i h0
  split
  ·simp
  ·rename_i h1
   have:=zjw neg (txt x)
   rw [ZX h0] at this
   simp only
   omega
theorem zf9(s t:List UInt8):(addI s t).1.length≤1001:=by
 unfold addI
 split
 ·exact vM _ _
 ·simp
theorem zf3(s t:List UInt8):(subI s t).1.length≤1001:=by
 unfold subI
 split
 ·exact vM _ _
 ·simp
theorem zi6(s t:List UInt8):(mulI s t).1.length≤1001:=by
 unfold mulI
 split
 ·exact vM _ _
 ·simp
theorem zjx(b:Bool)(x:Nat):wr (b&&decide (0<x)) x=wr b x:=by
 unfold wr
 by_cases h:x=0
 ·rw [if_pos h,if_pos h]
 ·rw [if_neg h,if_neg h]
  have:decide (0<x)=true:=decide_eq_true (Nat.pos_of_ne_zero h)
  rw [this,Bool.and_true]
theorem zjr(m:Bool)(x:Nat)(n:Bool)(y:Nat):(sumS m x n y).2≤x+y:=by
 unfold sumS
 split
 ·exact Nat.le_refl _
 ·split
  ·simp only; omega
  ·simp only; omega
end Go.Nov
end
section
namespace Go.Nov
def WD(neg:Bool)(x y:Nat):List UInt8:=
 if y/Nat.gcd x y=1 then(wr neg (x/Nat.gcd x y)).1 else(wr neg (x/Nat.gcd x y)).1++[47]++(wr false (y/Nat.gcd x y)).1
def wh(n d:List UInt8):List UInt8×Int:=if z6 n d≠0 then([],z6 n d) else if numI d=0 then([],16) else(WD (negI n != negI d) (numI n) (numI d),0)
def j3(a b:List UInt8):Int:=if errR a=0 then errR b else errR a
def numR(a:List UInt8):List UInt8:=(cutR a).1
def denR(a:List UInt8):List UInt8:=if(cutR a).2.2 then(cutR a).2.1 else [49]
def frac(z w:List UInt8×Int):List UInt8×Int:=if z.2≠0∨w.2≠0 then([],14) else wh z.1 w.1
def zM(a b:List UInt8):Int:=if j3 a b≠0 then j3 a b else if(mulI (numR a) (denR b)).2≠0∨(mulI (numR b) (denR a)).2≠0 then 14 else 0
def addR(a b:List UInt8):List UInt8×Int:=if zM a b≠0 then([],zM a b) else frac (addI (mulI (numR a) (denR b)).1 (mulI (numR b) (denR a)).1) (mulI (denR a) (denR b))
def subR(a b:List UInt8):List UInt8×Int:=if zM a b≠0 then([],zM a b) else frac (subI (mulI (numR a) (denR b)).1 (mulI (numR b) (denR a)).1) (mulI (denR a) (denR b))
def mulR(a b:List UInt8):List UInt8×Int:=if j3 a b≠0 then([],j3 a b) else frac (mulI (numR a) (numR b)) (mulI (denR a) (denR b))
def cmpR(a b:List UInt8):Int×Int:=if zM a b≠0 then(0,zM a b) else ZC (mulI (numR a) (denR b)).1 (mulI (numR b) (denR a)).1
end Go.Nov
namespace Go.Nov
def dmQ(s t:List UInt8):Nat:=if negI s=true∧0<numI s%numI t then numI s/numI t+1 else numI s/numI t
def dmM(s t:List UInt8):Nat:=if negI s=true∧0<numI s%numI t then numI t - numI s%numI t else numI s%numI t
def dmI(s t:List UInt8):List UInt8×List UInt8×Int:=
 if z6 s t≠0 then([],[],z6 s t) else if numI t=0 then([],[],16) else((wr (negI s != negI t) (dmQ s t)).1,(wr false (dmM s t)).1,0)
theorem zir{s:List UInt8}(h:errI s=0):∃ k,k≤1000∧numI s<10^k:=by
 obtain⟨_,h1,_,h2⟩:=Qw h
 exact⟨_,h2,yU h1⟩
def room(x:Nat):Prop:=(dec x).length≤1000
theorem room_le{x y:Nat}(h:x≤y)(hy:room y):room x:=by
 rcases Nat.lt_or_ge (dec y).length (dec x).length with h1 | h1
 ·have:=Ten.qa h1
  omega
 ·exact Nat.le_trans h1 hy
theorem j1{s:List UInt8}(h:errI s=0):room (numI s):=by
 obtain⟨k,h1,h2⟩:=zir h
 exact Nat.le_trans (Qg h2) h1
theorem kn{neg:Bool}{x:Nat}(h:room x):(wr neg x).2=0:=by
 unfold wr
 split
 ·rfl
 ·rw [if_neg (by have:(dec x).length≤1000:=h; omega)]
theorem zfh{s t:List UInt8}(hs:errI s=0)(ht:numI t≠0):room (dmQ s t):=by
 have h:=j1 hs
 unfold dmQ
 split
 ·rename_i hc
  by_cases h1:numI t=1
  ·rw [h1,Nat.mod_one] at hc; omega
  ·refine room_le ?_ h
   have h2:numI s/numI t≤numI s/2:=Nat.div_le_div_left (by omega) (by omega)
   have h3:numI s≠0:=fun h0=>by rw [h0,Nat.zero_mod] at hc; omega
   by_cases h4:numI s=1
   ·have:numI s/numI t=0:=Nat.div_eq_of_lt (by omega)
    omega
   ·omega
 ·exact room_le (Nat.div_le_self _ _) h
theorem zhs{s t:List UInt8}(ht:errI t=0)(h0:numI t≠0):room (dmM s t):=by
 have h:=j1 ht
 have hm:=Nat.mod_lt (numI s) (Nat.pos_of_ne_zero h0)
 unfold dmM
 split
 ·exact room_le (Nat.sub_le _ _) h
 ·exact room_le (by omega) h
end Go.Nov
namespace Go.Nov
theorem kD:wr false 1=([49],0):=by
 have h:dec 1=[1]:=by
  show Ten.canon 1=[1]
  rw [Ten.qR (by decide)]
  exact congrArg (1 :: ·) Ten.zN
 simp [wr,h,txt,sgn,byt]
theorem Ug{x:Nat}(h:room x):(wr false x).1=[49]↔x=1:=by
 constructor
 ·intro e
  have:=(Jc (kn (neg:=false) h)).2.1
  rw [e] at this
  exact this.symm
 ·rintro rfl
  rw [kD]
theorem zfi{x:Nat}(h0:x≠0)(h:room x):[45]++(wr false x).1=(wr true x).1:=by
 unfold wr
 rw [if_neg h0,if_neg h0,if_neg (by have:(dec x).length≤1000:=h; omega),if_neg (by have:(dec x).length≤1000:=h; omega)]
 rfl
theorem xw{t:List UInt8}(h:errI t=0):t=[48]↔numI t=0:=by
 constructor
 ·rintro rfl; rfl
 ·intro h0
  obtain⟨neg,b,h1,h2,h3,h4,h5,h6⟩:=VG h
  have hb:numD b=0:=by simpa [numI,h2] using h0
  cases b with
  | nil=>exact absurd rfl h5
  | cons c r=>
   have hc:=h4 c (by simp)
   have e:numD (c::r)=(c.toNat - 48)*10^r.length+numD r:=by
    have:=ka [c] r
    simp only [List.singleton_append] at this
    rw [this]
    simp [numD]
   rw [e] at hb
   have hc0:c.toNat=48:=by
    rcases Nat.eq_zero_or_pos (c.toNat - 48) with h7 | h7
    ·omega
    ·have:=Nat.mul_pos h7 (Nat.pow_pos (n:=r.length) (show 0<10 by decide))
     omega
   have hc1:c=48:=UInt8.toNat_inj.1 (by rw [hc0]; rfl)
   subst hc1
   have hr:r=[]:=by
    cases r with
    | nil=>rfl
    | cons d r=>
     have:=kS (neg:=neg) (b:=48::d::r) rfl (by simp)
     rw [this] at h3; cases h3
   subst hr
   cases neg with
   | true=>cases h3
   | false=>simpa [sgn] using h1
theorem KS{s:List UInt8}{b:Bool}{g:Nat}(hs:errI s=0)(h0:g≠0)(hg:room g)(hd:g ∣ numI s):dmI s (wr b g).1=((wr (negI s != b) (numI s/g)).1,[48],0):=by
 obtain⟨h1,h2,h3⟩:=Jc (kn (neg:=b) hg)
 have hb:negI (wr b g).1=b:=by rw [h3]; simp [h0]
 have he:z6 s (wr b g).1=0:=zm.2 ⟨hs,h1⟩
 have hm:numI s%g=0:=Nat.mod_eq_zero_of_dvd hd
 unfold dmI
 rw [if_neg (by rw [he]; decide),h2,if_neg h0,hb]
 have hq:dmQ s (wr b g).1=numI s/g:=by
  unfold dmQ
  rw [h2,hm,if_neg (by omega)]
 have hr:dmM s (wr b g).1=0:=by
  unfold dmM
  rw [h2,hm,if_neg (by omega)]
 rw [hq,hr]
 rfl
theorem X6{s t:List UInt8}(ht:errI t=0)(h0:numI t≠0):Nat.gcd (numI s) (numI t)≠0∧room (Nat.gcd (numI s) (numI t)):=by
 have hp:=Nat.pos_of_ne_zero h0
 refine⟨fun h=> ?_,room_le (Nat.le_of_dvd hp (Nat.gcd_dvd_right _ _)) (j1 ht)⟩
 have:=Nat.eq_zero_of_gcd_eq_zero_right h
 exact h0 this
theorem zd3(neg:Bool)(x y:Nat):(WD neg x y).length≤2003:=by
 unfold WD
 have h1:=vM neg (x/Nat.gcd x y)
 have h2:=vM false (y/Nat.gcd x y)
 split
 ·omega
 ·simp only [List.length_append,List.length_cons,List.length_nil]; omega
end Go.Nov
namespace Go.Nov
theorem KF:errI [49]=0:=rfl
theorem qL{a:List UInt8}(h:errR a=0):errI (numR a)=0∧errI (denR a)=0∧negI (denR a)=false∧numI (denR a)≠0:=by
 unfold errR at h
 unfold numR denR
 cases hc:(cutR a).2.2 with
 | true=>
  rw [hc] at h
  simp only [if_true] at h ⊢
  split at h
  ·cases h
  ·rename_i h1
   simp only [not_or] at h1
   split at h
   ·cases h
   ·rename_i h2
    simp only [not_or,Classical.not_not] at h2
    refine⟨h2.1,h2.2,by simpa using h1.2.2.1,fun h0=> ?_⟩
    exact h1.2.2.2.1 ((xw h2.2).2 h0)
 | false=>
  rw [hc] at h
  simp only [Bool.false_eq_true,if_false] at h ⊢
  have:(cutR a).1=a:=by
   unfold cutR at hc ⊢
   split at hc
   ·cases hc
   ·rename_i hn; rw [if_neg hn]
  rw [this]
  exact⟨h,KF,rfl,by decide⟩
theorem Xe(a:List UInt8):(numR a).length≤a.length:=(VH a).1
theorem Xb(a:List UInt8):(denR a).length≤a.length+1:=by
 unfold denR
 split
 ·exact Nat.le_trans (VH a).2 (Nat.le_succ _)
 ·simp
theorem vW{s t:List UInt8}(h:z6 s t=0):(mulI s t).2=0∧errI (mulI s t).1=0∨mulI s t=([],14):=by
 unfold mulI
 rw [if_pos h]
 exact(zi4 _ _).imp (fun h=>⟨h,(Jc h).1⟩) id
theorem ze1{s t:List UInt8}(h:z6 s t=0):(addI s t).2=0∧errI (addI s t).1=0∨addI s t=([],14):=by
 unfold addI
 rw [if_pos h]
 exact(zi4 _ _).imp (fun h=>⟨h,(Jc h).1⟩) id
end Go.Nov
namespace Go.Nov
def stp(e:Int)(f:List UInt8→List UInt8→List UInt8×Int)(x y:List UInt8):List UInt8×Int:=if e≠0 then([],e) else f x y
theorem zky{e:Int}{f:List UInt8→List UInt8→List UInt8×Int}{x y:List UInt8}(h:(f x y).1.length≤1001):(stp e f x y).1.length≤1001:=by
 unfold stp
 split
 ·simp
 ·exact h
theorem qj{e:Int}(h:e≠0)(f:List UInt8→List UInt8→List UInt8×Int)(x y:List UInt8):stp e f x y=([],e):=if_pos h
theorem wE(f:List UInt8→List UInt8→List UInt8×Int)(x y:List UInt8):stp 0 f x y=f x y:=if_neg (by simp)
def Jl(f:List UInt8→List UInt8→List UInt8×Int)(a b:List UInt8):List UInt8×Int:=
 if zM a b≠0 then([],zM a b) else frac (f (mulI (numR a) (denR b)).1 (mulI (numR b) (denR a)).1) (mulI (denR a) (denR b))
section
variable {a b n m d c:List UInt8} {e:Int} (hp:(e≠0∧j3 a b=e)∨(e=0∧errR a=0∧errR b=0∧n=numR a∧m=numR b∧d=denR a∧c=denR b))
include hp
theorem XI{f:List UInt8→List UInt8→List UInt8×Int}(hf:∀ {s t:List UInt8},z6 s t=0→(f s t).2=0∧errI (f s t).1=0∨f s t=([],14)){r1 r2 r3 r4 r5:List UInt8×Int}
  (h1:r1=stp e mulI n c) (h2:r2=stp r1.2 mulI m d) (h3:r3=stp r2.2 f r1.1 r2.1) (h4:r4=stp r3.2 mulI d c) (h5:r5=stp r4.2 wh r3.1 r4.1):r5=Jl f a b:=by
 rcases hp with ⟨he,h2e⟩ | ⟨rfl,ha,hb,rfl,rfl,rfl,rfl⟩
 ·have hc:zM a b=e:=by unfold zM; rw [if_pos (by rw [h2e]; exact he)]; exact h2e
  unfold Jl
  rw [hc,if_pos he]
  rw [qj he] at h1
  subst h1
  rw [qj he] at h2
  subst h2
  rw [qj he] at h3
  subst h3
  rw [qj he] at h4
  subst h4
  rw [h5,qj he]
 ·obtain⟨a1,a2,_⟩:=qL ha
  obtain⟨b1,b2,_⟩:=qL hb
  have he2:j3 a b=0:=by unfold j3; rw [if_pos ha]; exact hb
  have e14:(14:Int)≠0:=by decide
  rw [wE] at h1
  have hc:zM a b=if(mulI (numR a) (denR b)).2≠0∨(mulI (numR b) (denR a)).2≠0 then 14 else 0:=by unfold zM; rw [if_neg (by rw [he2]; simp)]
  rcases vW (zm.2 ⟨a1,b2⟩) with ⟨g1,k1⟩ | g1
  ·rw [← h1] at g1 k1
   rw [g1,wE] at h2
   rcases vW (zm.2 ⟨b1,a2⟩) with ⟨g2,k2⟩ | g2
   ·rw [← h2] at g2 k2
    rw [g2,wE] at h3
    have hc0:zM a b=0:=by rw [hc,if_neg]; rw [← h1,← h2,g1,g2]; simp
    unfold Jl
    rw [hc0,if_neg (by simp),← h1,← h2,← h3]
    rcases hf (zm.2 ⟨k1,k2⟩) with ⟨g3,k3⟩ | g3
    ·rw [← h3] at g3 k3
     rw [g3,wE] at h4
     unfold frac
     rw [← h4,h5]
     rcases vW (zm.2 ⟨a2,b2⟩) with ⟨g4,k4⟩ | g4
     ·rw [← h4] at g4
      rw [g3,g4,if_neg (by simp),wE]
     ·rw [← h4] at g4
      rw [g4,if_pos (by simp),qj e14]
    ·rw [← h3] at g3
     have q4:r4=([],14):=by rw [h4,g3]; exact qj e14 _ _ _
     unfold frac
     rw [if_pos (by rw [g3]; simp),h5,q4,qj e14]
   ·rw [← h2] at g2
    have hc0:zM a b=14:=by rw [hc,if_pos]; rw [← h2,g2]; simp
    unfold Jl
    rw [hc0,if_pos e14]
    have q3:r3=([],14):=by rw [h3,g2]; exact qj e14 _ _ _
    have q4:r4=([],14):=by rw [h4,q3]; exact qj e14 _ _ _
    rw [h5,q4,qj e14]
  ·rw [← h1] at g1
   have hc0:zM a b=14:=by rw [hc,if_pos]; rw [← h1,g1]; simp
   unfold Jl
   rw [hc0,if_pos e14]
   have q2:r2=([],14):=by rw [h2,g1]; exact qj e14 _ _ _
   have q3:r3=([],14):=by rw [h3,q2]; exact qj e14 _ _ _
   have q4:r4=([],14):=by rw [h4,q3]; exact qj e14 _ _ _
   rw [h5,q4,qj e14]
theorem zda{x y z w:List UInt8}{r1 r2 r3:List UInt8×Int}(h1:r1=stp e mulI x y)(h2:r2=stp r1.2 mulI z w)(h3:r3=stp r2.2 wh r1.1 r2.1)
  (hv:errR a=0→errR b=0→z6 x y=0∧z6 z w=0):r3=if j3 a b≠0 then([],j3 a b) else frac (mulI x y) (mulI z w):=by
 rcases hp with ⟨he,h2e⟩ | ⟨rfl,ha,hb,_⟩
 ·rw [h2e,if_pos he]
  rw [qj he] at h1
  subst h1
  rw [qj he] at h2
  subst h2
  rw [h3,qj he]
 ·obtain⟨v1,v2⟩:=hv ha hb
  have he2:j3 a b=0:=by unfold j3; rw [if_pos ha]; exact hb
  have e14:(14:Int)≠0:=by decide
  rw [he2,if_neg (by simp)]
  rw [wE] at h1
  unfold frac
  rcases vW v1 with ⟨g1,_⟩ | g1
  ·rw [← h1] at g1 ⊢
   rw [g1,wE] at h2
   rcases vW v2 with ⟨g2,_⟩ | g2
   ·rw [← h2] at g2 ⊢
    rw [g1,g2,if_neg (by simp),h3,g2,wE]
   ·rw [← h2] at g2 ⊢
    rw [g2,if_pos (by simp),h3,g2,qj e14]
  ·rw [← h1] at g1 ⊢
   have q2:r2=([],14):=by rw [h2,g1]; exact qj e14 _ _ _
   rw [g1,if_pos (by simp),h3,q2,qj e14]
theorem zcl{r1 r2:List UInt8×Int}(h1:r1=stp e mulI n c)(h2:r2=stp r1.2 mulI m d):(if r2.2≠0 then(0,r2.2) else ZC r1.1 r2.1)=cmpR a b:=by
 unfold cmpR
 rcases hp with ⟨he,h2e⟩ | ⟨rfl,ha,hb,rfl,rfl,rfl,rfl⟩
 ·have hc:zM a b=e:=by unfold zM; rw [if_pos (by rw [h2e]; exact he)]; exact h2e
  rw [qj he] at h1
  subst h1
  rw [qj he] at h2
  subst h2
  rw [hc,if_pos he,if_pos he]
 ·obtain⟨a1,a2,_⟩:=qL ha
  obtain⟨b1,b2,_⟩:=qL hb
  have he2:j3 a b=0:=by unfold j3; rw [if_pos ha]; exact hb
  have e14:(14:Int)≠0:=by decide
  have hc:zM a b=if(mulI (numR a) (denR b)).2≠0∨(mulI (numR b) (denR a)).2≠0 then 14 else 0:=by unfold zM; rw [if_neg (by rw [he2]; simp)]
  rw [wE] at h1
  rcases vW (zm.2 ⟨a1,b2⟩) with ⟨g1,k1⟩ | g1
  ·rw [← h1] at g1
   rw [g1,wE] at h2
   rcases vW (zm.2 ⟨b1,a2⟩) with ⟨g2,k2⟩ | g2
   ·rw [← h2] at g2
    have hc0:zM a b=0:=by rw [hc,if_neg]; rw [← h1,← h2,g1,g2]; simp
    rw [hc0,if_neg (by rw [g2]; simp),if_neg (by simp),← h1,← h2]
   ·rw [← h2] at g2
    have hc0:zM a b=14:=by rw [hc,if_pos]; rw [← h2,g2]; simp
    rw [hc0,g2,if_pos e14,if_pos e14]
  ·rw [← h1] at g1
   have hc0:zM a b=14:=by rw [hc,if_pos]; rw [← h1,g1]; simp
   have q2:r2=([],14):=by rw [h2,g1]; exact qj e14 _ _ _
   rw [hc0,q2,if_pos e14,if_pos e14]
end
end Go.Nov
end
section
namespace Go.Nov
theorem zmx{b:List UInt8}(h:allD b)(hn:b≠[])(hz:b.getD 0 0≠48):numD b≠0∧txt (numD b)=b:=by
 have hd:=zmu h
 have hl:0<b.length:=List.length_pos_iff.2 hn
 have htl:Ten.tlen (dg b)=(dg b).length:=by
  rcases Nat.lt_or_ge (Ten.tlen (dg b)) (dg b).length with h1 | h1
  ·exfalso
   have h2:=Ten.jF (dg b) ((dg b).length - 1) (by omega)
   rw [Ul] at h2
   have e:(dg b).getD (b.length - 1) 0=(b.getD 0 0).toNat - 48:=by
    simp only [dg,List.getD_eq_getElem?_getD]
    rw [List.getElem?_reverse (by simp; omega)]
    simp [List.getElem?_eq_getElem hl,show b.length - 1 - (b.length - 1)=0 by omega]
   rw [e] at h2
   have h3:48≤(b.getD 0 0).toNat:=by
    cases b with
    | nil=>exact absurd rfl hn
    | cons c r=>exact(h c (by simp)).1
   apply hz
   apply UInt8.toNat_inj.1
   show _=48
   omega
  ·exact Nat.le_antisymm (Ten.qk _) h1
 have hc:dec (numD b)=dg b:=by
  rw [← YQ]
  exact Ten.WK hd htl
 have h0:numD b≠0:=by
  intro h0
  rw [h0] at hc
  have:dg b=[]:=by rw [← hc]; exact Ten.zN
  have:=congrArg List.length this
  rw [Ul,List.length_nil] at this
  omega
 refine⟨h0,?_⟩
 rw [yI h0,hc,dg,← List.map_reverse,List.reverse_reverse,List.map_map]
 conv=>rhs; rw [← List.map_id b]
 refine List.map_congr_left fun c hcm=> ?_
 obtain⟨h1,h2⟩:=h c hcm
 apply UInt8.toNat_inj.1
 simp only [Function.comp,id]
 rw [ZK (by omega)]
 omega
theorem UG{s:List UInt8}(h:errI s=0):wr (negI s) (numI s)=(s,0):=by
 obtain⟨neg,b,h1,h2,h3,h4,h5,h6⟩:=VG h
 have e1:negI s=neg:=by simp [negI,h2]
 have e2:numI s=numD b:=by simp [numI,h2]
 rw [e1,e2]
 by_cases hz:b.getD 0 0=48
 ·have hb:b=[48]:=by
   cases b with
   | nil=>exact absurd rfl h5
   | cons c r=>
    cases r with
    | nil=>have:c=48:=hz; rw [this]
    | cons d r=>rw [kS hz (by simp)] at h3; cases h3
  subst hb
  cases neg with
  | true=>cases h3
  | false=>rw [h1]; rfl
 ·obtain⟨g1,g2⟩:=zmx h4 h5 hz
  unfold wr
  rw [if_neg g1,g2,if_neg,h1]
  have:=ZX g1
  rw [g2] at this
  omega
def zI(s:List UInt8):Int:=if negI s then -(numI s:Int) else numI s
theorem w7(s:List UInt8):(zI s).natAbs=numI s:=by unfold zI; split<;>simp
theorem Kf{s:List UInt8}(h:errI s=0):negI s=decide (zI s<0):=by
 unfold zI
 cases hn:negI s with
 | false=>simp
 | true=>
  simp only [if_true]
  have:numI s≠0:=by
   intro h0
   have:=(xw h).2 h0
   rw [this] at hn
   cases hn
  exact(decide_eq_true (by omega)).symm
def wz(z:Int):List UInt8×Int:=wr (decide (z<0)) z.natAbs
theorem vj{s:List UInt8}(h:errI s=0):wz (zI s)=(s,0):=by
 unfold wz
 rw [w7,← Kf h,UG h]
theorem zo7{neg:Bool}{x:Nat}(h:(wr neg x).2=0):zI (wr neg x).1=if neg then -(x:Int) else x:=by
 obtain⟨h1,h2,h3⟩:=Jc h
 unfold zI
 rw [h2,h3]
 by_cases h0:x=0
 ·subst h0; simp
 ·cases neg<;>simp [h0]
theorem ye{z:Int}(h:(wz z).2=0):zI (wz z).1=z:=by
 unfold wz at h ⊢
 rw [zo7 h]
 by_cases hz:z<0
 ·rw [decide_eq_true hz]; simp only [if_true]; omega
 ·rw [decide_eq_false hz]; simp only [Bool.false_eq_true,if_false]; omega
theorem Z3{z:Int}(h:(wz z).2=0):errI (wz z).1=0:=(Jc h).1
theorem zad{neg:Bool}{x:Nat} : wr neg x=wz (if neg then -(x:Int) else x):=by
 unfold wz
 by_cases h0:x=0
 ·subst h0
  cases neg<;>rfl
 ·cases neg with
  | false=>simp only [Bool.false_eq_true,if_false,Int.natAbs_natCast]; rw [decide_eq_false (by omega)]
  | true=>simp only [if_true,Int.natAbs_neg,Int.natAbs_natCast]; rw [decide_eq_true (by omega)]
theorem zn2(m:Bool)(x:Nat)(n:Bool)(y:Nat):(if(sumS m x n y).1 then -((sumS m x n y).2:Int) else(sumS m x n y).2)=(if m then -(x:Int) else x)+(if n then -(y:Int) else y):=by
 unfold sumS
 by_cases h:m=n
 ·subst h
  rw [if_pos rfl]
  cases m<;>simp<;>omega
 ·rw [if_neg h]
  by_cases h2:y≤x
  ·rw [if_pos h2]
   cases m<;>cases n<;>first | exact absurd rfl h | (simp; omega)
  ·rw [if_neg h2]
   cases m<;>cases n<;>first | exact absurd rfl h | (simp; omega)
theorem zic{s t:List UInt8}(h:z6 s t=0):addI s t=wz (zI s+zI t):=by
 unfold addI
 rw [if_pos h,zad,zn2]; rfl
theorem wW{s t:List UInt8}(h:z6 s t=0):mulI s t=wz (zI s*zI t):=by
 unfold mulI
 rw [if_pos h,zad]
 congr 1
 unfold zI
 cases negI s<;>cases negI t<;>simp [Int.neg_mul,Int.mul_neg]
theorem zmz(m:Bool)(x:Nat)(n:Bool)(y:Nat)(hm:m=true→x≠0)(hn:n=true→y≠0):cmpZ m x n y=cmpI (if m then -(x:Int) else x) (if n then -(y:Int) else y):=by
 unfold cmpZ cmpI cmpN
 cases m<;>cases n
 ·simp only [Bool.false_eq_true,false_and,if_false]
  repeat' split
  all_goals first | rfl | omega
 ·have:=hn rfl
  simp only [Bool.false_eq_true,false_and,if_false,true_and,and_self,if_true]
  repeat' split
  all_goals first | rfl | omega
 ·have:=hm rfl
  simp only [and_self,if_true,Bool.false_eq_true,if_false]
  repeat' split
  all_goals first | rfl | omega
 ·simp only [Bool.true_eq_false,and_false,if_false,if_true]
  repeat' split
  all_goals first | rfl | omega
def qv(a:List UInt8):Rat:=Rat.divInt (zI (numR a)) (zI (denR a))
def qstr(r:Rat):List UInt8:=if r.den=1 then(wz r.num).1 else(wz r.num).1++[47]++(wz r.den).1
def yj(r:Rat):Prop:=room r.num.natAbs∧room r.den
theorem zhd(neg:Bool)(x:Nat):∀ c∈(wr neg x).1,c≠47:=by
 intro c hc h
 subst h
 unfold wr at hc
 split at hc
 ·simp at hc
 ·rename_i h0
  split at hc
  ·simp at hc
  ·have ht:¬ (47:UInt8)∈txt x:=fun hm=>by
    have:=(zb4 h0 _ hm).1
    have e:(47:UInt8).toNat=47:=rfl
    omega
   cases neg<;>simp [sgn] at hc<;>exact ht hc
theorem zg4{u v:List UInt8}(h:∀ c∈u,c≠47):cutR (u++[47]++v)=(u,v,true):=by
 have hs:zF (u++[47]++v)=u.length:=by
  refine ze2 (by simp) (by simp [List.getD]) fun j hj=> ?_
  rw [List.append_assoc]
  simp only [List.getD,List.getElem?_append_left hj,List.getElem?_eq_getElem hj,Option.getD_some]
  exact h _ (List.getElem_mem hj)
 rw [UC (by rw [hs]; simp),hs]
 simp
theorem zch{u:List UInt8}(h:∀ c∈u,c≠47):cutR u=(u,[],false):=by
 have hs:zF u=u.length:=YP fun j hj=>by
  simp only [List.getD,List.getElem?_eq_getElem hj,Option.getD_some]
  exact h _ (List.getElem_mem hj)
 exact zdq (by omega)
theorem X5(z:Int):∀ c∈(wz z).1,c≠47:=zhd _ _
theorem xR{z:Int}(h:room z.natAbs):(wz z).2=0:=kn h
theorem zno:wz 1=([49],0):=kD
theorem Qj{r:Rat}(h:yj r):numR (qstr r)=(wz r.num).1∧denR (qstr r)=(wz (r.den:Int)).1∧(cutR (qstr r)).2.2=decide (r.den≠1):=by
 unfold qstr
 by_cases h1:r.den=1
 ·rw [if_pos h1]
  have:=zch (X5 r.num)
  unfold numR denR
  rw [this,h1]
  exact⟨rfl,by simp only [Bool.false_eq_true,if_false]; exact(congrArg Prod.fst zno).symm,by simp⟩
 ·rw [if_neg h1]
  have:=zg4 (v:=(wz (r.den:Int)).1) (X5 r.num)
  unfold numR denR
  rw [this]
  exact⟨rfl,rfl,by simp [h1]⟩
theorem za3{r:Rat}(h:yj r):qv (qstr r)=r:=by
 obtain⟨h1,h2,_⟩:=Qj h
 unfold qv
 rw [h1,h2,ye (xR h.1),ye (xR (by rw [Int.natAbs_natCast]; exact h.2)),Rat.divInt_ofNat,Rat.mkRat_self]
theorem Ww{r:Rat}(h:yj r):errR (qstr r)=0:=by
 obtain⟨h1,h2,h3⟩:=Qj h
 have e1:=Z3 (xR h.1)
 have e2:errI (wz (r.den:Int)).1=0:=Z3 (xR (by rw [Int.natAbs_natCast]; exact h.2))
 have z1:=ye (xR h.1)
 have z2:zI (wz (r.den:Int)).1=r.den:=ye (xR (by rw [Int.natAbs_natCast]; exact h.2))
 unfold errR
 by_cases hd:r.den=1
 ·rw [h3,hd]
  simp only [ne_eq,not_true_eq_false,decide_false,Bool.false_eq_true,if_false]
  unfold qstr
  rw [if_pos hd]
  exact e1
 ·have hc:(cutR (qstr r)).2.2=true:=by rw [h3]; simp [hd]
  have n1:(cutR (qstr r)).1=(wz r.num).1:=h1
  have n2:(cutR (qstr r)).2.1=(wz (r.den:Int)).1:=by unfold denR at h2; rw [hc] at h2; exact h2
  rw [hc,if_pos rfl,n1,n2]
  have hp:=r.den_pos
  have hneg:negI (wz (r.den:Int)).1=false:=by rw [Kf e2,z2]; exact decide_eq_false (by omega)
  have hn48:(wz (r.den:Int)).1≠[48]:=fun h=>by
   rw [h] at z2
   have:zI [48]=0:=rfl
   omega
  have hn49:(wz (r.den:Int)).1≠[49]:=fun h=>by
   rw [h] at z2
   have:zI [49]=1:=rfl
   omega
  rw [if_neg (by simp [e1,e2,hneg,hn48,hn49]),if_neg (by simp [e1,e2])]
  have hg:gcdR (wz r.num).1 (wz (r.den:Int)).1=wr false (Nat.gcd r.num.natAbs r.den):=by
   unfold gcdR
   rw [if_pos (zm.2 ⟨e1,e2⟩),← w7,← w7,z1,z2,Int.natAbs_natCast]
  have hr:Nat.gcd r.num.natAbs r.den=1:=r.reduced
  rw [hg,hr,kD,if_neg (by simp)]
theorem xN{a:List UInt8}(h:errR a=0):(qv a).num=zI (numR a)∧((qv a).den:Int)=zI (denR a)∧qstr (qv a)=a∧yj (qv a):=by
 obtain⟨e1,e2,e3,e4⟩:=qL h
 have hz:zI (denR a)=numI (denR a):=by unfold zI; rw [e3]; rfl
 have hcop:Nat.gcd (numI (numR a)) (numI (denR a))=1:=by
  unfold errR at h
  cases hc:(cutR a).2.2 with
  | true=>
   rw [hc,if_pos rfl] at h
   have hd:denR a=(cutR a).2.1:=by unfold denR; rw [hc]; rfl
   rw [hd] at e2 e4 ⊢
   unfold numR at e1 ⊢
   split at h
   ·cases h
   split at h
   ·cases h
   split at h
   ·cases h
   ·rename_i hg
    rw [Classical.not_not] at hg
    unfold gcdR at hg
    rw [if_pos (zm.2 ⟨e1,e2⟩)] at hg
    exact(Ug (X6 e2 e4).2).1 hg
  | false=>
   have:denR a=[49]:=by unfold denR; rw [hc]; rfl
   rw [this]
   exact Nat.gcd_one_right _
 have hq:qv a=⟨zI (numR a),numI (denR a),e4,by rw [w7]; exact hcop⟩:=by
  unfold qv
  rw [hz,Rat.mk_eq_divInt]
 have hroom:yj (qv a):=by
  rw [hq]
  exact⟨by show room (zI (numR a)).natAbs; rw [w7]; exact j1 e1,j1 e2⟩
 refine⟨by rw [hq],by rw [hq,hz],?_,hroom⟩
 rw [hq]
 unfold qstr
 simp only
 rw [← hz,vj e1,vj e2]
 cases hc:(cutR a).2.2 with
 | true=>
  have hd:denR a=(cutR a).2.1:=by unfold denR; rw [hc]; rfl
  have hn1:numI (denR a)≠1:=by
   intro h1
   have:denR a=[49]:=by
    have:=(UG e2)
    rw [e3,h1,kD] at this
    exact(congrArg Prod.fst this).symm
   unfold errR at h
   rw [hc,if_pos rfl,if_pos (by rw [← hd,this]; simp)] at h
   cases h
  rw [if_neg hn1,hd]
  simp only [numR]
  unfold cutR at hc ⊢
  split at hc
  ·rename_i hs
   rw [if_pos hs]
   simp only
   have h47:=QK hs
   have:a=a.take (zF a)++([a.getD (zF a) 0]++a.drop (zF a+1)):=by
    conv=>lhs; rw [← List.take_append_drop (zF a) a]
    congr 1
    rw [List.drop_eq_getElem_cons hs]
    simp [List.getD,List.getElem?_eq_getElem hs]
   rw [h47] at this
   rw [List.append_assoc]
   exact this.symm
  ·cases hc
 | false=>
  have hd:denR a=[49]:=by unfold denR; rw [hc]; rfl
  rw [hd]
  have:numI [49]=1:=rfl
  rw [if_pos this]
  unfold numR
  unfold cutR at hc ⊢
  split at hc
  ·cases hc
  ·rename_i hs
   rw [if_neg hs]
theorem zfg{a b:List UInt8}(ha:errR a=0)(hb:errR b=0)(h:qv a=qv b):a=b:=by
 rw [← (xN ha).2.2.1,← (xN hb).2.2.1,h]
theorem zl7(a b:Int)(hb:b≠0):b.sign*a=if(decide (a<0) != decide (b<0))=true then -(a.natAbs:Int) else a.natAbs:=by
 by_cases h1:a<0
 ·rw [decide_eq_true h1]
  by_cases h2:b<0
  ·rw [decide_eq_true h2,Int.sign_eq_neg_one_of_neg h2]; simp; omega
  ·rw [decide_eq_false h2,Int.sign_eq_one_of_pos (by omega)]; simp; omega
 ·rw [decide_eq_false h1]
  by_cases h2:b<0
  ·rw [decide_eq_true h2,Int.sign_eq_neg_one_of_neg h2]; simp; omega
  ·rw [decide_eq_false h2,Int.sign_eq_one_of_pos (by omega)]; simp; omega
theorem Uz{n d:List UInt8}(hn:errI n=0)(hd:errI d=0)(h0:numI d≠0):wh n d=(qstr (Rat.divInt (zI n) (zI d)),0)∧yj (Rat.divInt (zI n) (zI d)):=by
 have hz0:zI d≠0:=fun h=>h0 (by rw [← w7,h]; rfl)
 have hg:(zI d).gcd (zI n)=Nat.gcd (numI n) (numI d):=by
  show Nat.gcd _ _=_
  rw [w7,w7,Nat.gcd_comm]
 have hden:(Rat.divInt (zI n) (zI d)).den=numI d/Nat.gcd (numI n) (numI d):=by
  rw [Rat.den_divInt,if_neg hz0,hg,w7]
 have hdv:Nat.gcd (numI n) (numI d) ∣ numI n:=Nat.gcd_dvd_left _ _
 have hnum:(Rat.divInt (zI n) (zI d)).num=if(negI n != negI d)=true then -((numI n/Nat.gcd (numI n) (numI d):Nat):Int) else((numI n/Nat.gcd (numI n) (numI d):Nat):Int):=by
  rw [Rat.num_divInt,hg,zl7 _ _ hz0,w7,← Kf hn,← Kf hd]
  split
  ·rw [Int.neg_ediv_of_dvd (Int.natCast_dvd_natCast.2 hdv),Int.natCast_ediv]
  ·rw [Int.natCast_ediv]
 have hroom:yj (Rat.divInt (zI n) (zI d)):=by
  refine⟨?_,by rw [hden]; exact room_le (Nat.div_le_self _ _) (j1 hd)⟩
  rw [hnum]
  have:room (numI n/Nat.gcd (numI n) (numI d)):=room_le (Nat.div_le_self _ _) (j1 hn)
  split
  ·rw [Int.natAbs_neg,Int.natAbs_natCast]; exact this
  ·rw [Int.natAbs_natCast]; exact this
 refine⟨?_,hroom⟩
 unfold wh
 rw [if_neg (by rw [zm.2 ⟨hn,hd⟩]; simp),if_neg h0]
 congr 1
 unfold WD qstr
 rw [hden,hnum]
 have e2:(wr false (numI d/Nat.gcd (numI n) (numI d))).1=(wz ((numI d/Nat.gcd (numI n) (numI d):Nat):Int)).1:=by rw [zad]; rfl
 rw [zad,e2]
theorem zim{n d:List UInt8}{e f:Int}{z w:Int}(hw:w≠0)(hz:(n,e)=wz z)(hd:(d,f)=wz w):frac (n,e) (d,f)=([],14)∨(frac (n,e) (d,f)=(qstr (Rat.divInt z w),0)∧yj (Rat.divInt z w)):=by
 unfold frac
 by_cases he:e=0
 ·by_cases hf:f=0
  ·subst he; subst hf
   have h1:(wz z).2=0:=by rw [← hz]
   have h2:(wz w).2=0:=by rw [← hd]
   have n1:n=(wz z).1:=by rw [← hz]
   have n2:d=(wz w).1:=by rw [← hd]
   have z1:=ye h1
   have z2:=ye h2
   have e1:=Z3 h1
   have e2:=Z3 h2
   rw [← n1] at z1 e1
   rw [← n2] at z2 e2
   right
   rw [if_neg (by simp)]
   have:=Uz e1 e2 (fun h=>hw (by rw [← z2]; have:=w7 d; omega))
   rw [z1,z2] at this
   exact this
  ·left; rw [if_pos (.inr hf)]
 ·left; rw [if_pos (.inl he)]
section
variable {a b:List UInt8} (ha:errR a=0) (hb:errR b=0)
include ha hb
theorem J1:errI (numR a)=0∧errI (denR a)=0∧errI (numR b)=0∧errI (denR b)=0∧zI (denR a)≠0∧zI (denR b)≠0∧j3 a b=0:=by
 obtain⟨a1,a2,_,a4⟩:=qL ha
 obtain⟨b1,b2,_,b4⟩:=qL hb
 exact⟨a1,a2,b1,b2,fun h=>a4 (by rw [← w7,h]; rfl),fun h=>b4 (by rw [← w7,h]; rfl),by unfold j3; rw [if_pos ha]; exact hb⟩
theorem za2:zM a b=14∨(zM a b=0∧mulI (numR a) (denR b)=wz (zI (numR a)*zI (denR b))∧mulI (numR b) (denR a)=wz (zI (numR b)*zI (denR a))∧(mulI (numR a) (denR b)).2=0∧(mulI (numR b) (denR a)).2=0):=by
 obtain⟨a1,a2,b1,b2,a4,b4,h2⟩:=J1 ha hb
 have m1:=wW (zm.2 ⟨a1,b2⟩)
 have m2:=wW (zm.2 ⟨b1,a2⟩)
 unfold zM
 rw [if_neg (by rw [h2]; simp)]
 by_cases h:(mulI (numR a) (denR b)).2≠0∨(mulI (numR b) (denR a)).2≠0
 ·left; rw [if_pos h]
 ·right
  rw [if_neg h]
  simp only [not_or,Classical.not_not] at h
  exact⟨rfl,m1,m2,h.1,h.2⟩
theorem zo4:addR a b=([],14)∨(addR a b=(qstr (qv a+qv b),0)∧yj (qv a+qv b)):=by
 obtain⟨a1,a2,b1,b2,a4,b4,h2⟩:=J1 ha hb
 unfold addR
 rcases za2 ha hb with h | ⟨h,m1,m2,k1,k2⟩
 ·left; rw [h]; rfl
 ·rw [h,if_neg (by simp)]
  rw [m1] at k1
  rw [m2] at k2
  have e1:=Z3 k1
  have e2:=Z3 k2
  have:=zim (n:=(addI (mulI (numR a) (denR b)).1 (mulI (numR b) (denR a)).1).1) (e:=(addI (mulI (numR a) (denR b)).1 (mulI (numR b) (denR a)).1).2) (d:=(mulI (denR a) (denR b)).1) (f:=(mulI (denR a) (denR b)).2)
   (z:=zI (numR a)*zI (denR b)+zI (numR b)*zI (denR a)) (w:=zI (denR a)*zI (denR b)) (Int.mul_ne_zero a4 b4) (by rw [m1,m2,zic (zm.2 ⟨e1,e2⟩),ye k1,ye k2]) (by rw [wW (zm.2 ⟨a2,b2⟩)])
  unfold qv
  rw [Rat.divInt_add_divInt _ _ a4 b4]
  exact this
theorem znj:mulR a b=([],14)∨(mulR a b=(qstr (qv a*qv b),0)∧yj (qv a*qv b)):=by
 obtain⟨a1,a2,b1,b2,a4,b4,h2⟩:=J1 ha hb
 unfold mulR
 rw [h2,if_neg (by simp)]
 have:=zim (n:=(mulI (numR a) (numR b)).1) (e:=(mulI (numR a) (numR b)).2) (d:=(mulI (denR a) (denR b)).1) (f:=(mulI (denR a) (denR b)).2)
  (z:=zI (numR a)*zI (numR b)) (w:=zI (denR a)*zI (denR b)) (Int.mul_ne_zero a4 b4) (by rw [wW (zm.2 ⟨a1,b1⟩)]) (by rw [wW (zm.2 ⟨a2,b2⟩)])
 unfold qv
 rw [Rat.divInt_mul_divInt]
 exact this
theorem zn3:cmpR a b=(0,14)∨cmpR a b=(if qv a<qv b then -1 else if qv b<qv a then 1 else 0,0):=by
 obtain⟨a1,a2,b1,b2,a4,b4,h2⟩:=J1 ha hb
 obtain⟨p1,p2,_,_⟩:=xN ha
 obtain⟨r1,r2,_,_⟩:=xN hb
 unfold cmpR
 rcases za2 ha hb with h | ⟨h,m1,m2,k1,k2⟩
 ·left; rw [h]; rfl
 ·right
  rw [h,if_neg (by simp)]
  rw [m1] at k1
  rw [m2] at k2
  have e1:=Z3 k1
  have e2:=Z3 k2
  rw [m1,m2]
  unfold ZC
  rw [if_pos (zm.2 ⟨e1,e2⟩)]
  congr 1
  have hx:∀ s:List UInt8,errI s=0→negI s=true→numI s≠0:=fun s he hn h0=>by
   rw [(xw he).2 h0] at hn; cases hn
  rw [zmz _ _ _ _ (hx _ e1) (hx _ e2)]
  show cmpI (zI (wz (zI (numR a)*zI (denR b))).1) (zI (wz (zI (numR b)*zI (denR a))).1)=_
  rw [ye k1,ye k2,← p1,← p2,← r1,← r2]
  unfold cmpI
  simp only [Rat.lt_iff]
end
theorem UM{a b:List UInt8}(ha:errR a=0)(hb:errR b=0)(h:(addR a b).2=0):errR (addR a b).1=0∧qv (addR a b).1=qv a+qv b:=by
 rcases zo4 ha hb with h1 | ⟨h1,h2⟩
 ·rw [h1] at h; cases h
 ·rw [h1]; exact⟨Ww h2,za3 h2⟩
theorem zam{a b:List UInt8}(ha:errR a=0)(hb:errR b=0)(h:(mulR a b).2=0):errR (mulR a b).1=0∧qv (mulR a b).1=qv a*qv b:=by
 rcases znj ha hb with h1 | ⟨h1,h2⟩
 ·rw [h1] at h; cases h
 ·rw [h1]; exact⟨Ww h2,za3 h2⟩
end Go.Nov
end
section
namespace Go.Nov
end Go.Nov
end
section
namespace Go.Nov
open Go.Sx
structure TOp where
 kind:Int
 a:Int
 b:Int
 rat:List UInt8
abbrev TOp.nil:TOp:=⟨0,0,0,[]⟩
def TOp.cell(o:TOp):Nat→AV
 | 0=>.int .u8 o.kind
 | 1=>.int .i64 o.a
 | 2=>.int .i64 o.b
 | 3=>.str o.rat
 | _=>.undef
def opG(l:List TOp):Nat→Nat→AV:=fun j=>(l.getD j TOp.nil).cell
def opS(l:List TOp):AV:=.sl l.length 4 (opG l)
structure Tp where
 n:Int
 ops:List TOp
def Tp.av(t:Tp):AV:=.agg [.int .i64 t.n,opS t.ops]
end Go.Nov
end
section
namespace Go.Nov
open Go.Sx
structure Deal where
 long:List UInt8
 short:List UInt8
 ccy:List UInt8
 name:List UInt8
 Zf:List UInt8
 Wr:List UInt8
def Deal.av(d:Deal):AV:=.agg [.str d.long,.str d.short,.str d.ccy,.str d.name,.str d.Zf,.str d.Wr]
def Deal.cells(d:Deal)(e:Int):List AV:=[.int .i64 e,.str d.long,.str d.short,.str d.ccy,.str d.name,.str d.Zf,.str d.Wr]
namespace Tm
def kon(r:List UInt8):Ex:=.mk 1 r [] 0 []
def spot(n:List UInt8):Ex:=.mk 3 [] n 0 []
def opx(k:Int)(s:List Ex):Ex:=.mk k [] [] 0 s
def over(k:List UInt8)(x:Ex)(below:Bool):Ex:=opx 7 [kon [48],opx 5 (if below=true then [kon k,x] else [x,kon k])]
def pay(d:Deal)(x:Ex)(r:List UInt8):Con:=.mk 2 d.short d.long d.ccy (opx 6 [x,kon r]) 0 [] []
def at_(day:Int)(c:Con):Con:=.mk 6 [] [] [] (.mk 0 [] [] 0 []) day [] [c]
def call(d:Deal)(ch:List UInt8)(days:List Int)(c:Con):Con:=.mk 8 d.long [] ch (.mk 0 [] [] 0 []) 0 days [c]
def first(e:Int)(l:List (List UInt8)):Int:=l.foldl (fun e r=>if e=0 then errR r else e) e
def zero:Con:=.mk 0 [] [] [] (.mk 0 [] [] 0 []) 0 [] []
def fits(d:Deal):Prop:=d.long.length≤200∧d.short.length≤200∧d.ccy.length≤200∧d.name.length≤200∧d.Zf.length≤2500∧d.Wr.length≤2500
def res(d:Deal)(c:Con):Int:=if first 0 [d.Zf,d.Wr]=0 then c.errC else first 0 [d.Zf,d.Wr]
def out(e:Int)(c:Con):Con:=if e=0 then c else zero
def opt(d:Deal)(ch:List UInt8)(days:List Int)(put:Bool):Con:=call d ch days (pay d (over d.Zf (spot d.name) put) d.Wr)
end Tm
end Go.Nov
end
section
namespace Go.Sx
open Go.Nov
variable [Stat]
theorem LeL.dAt:∀ {l m:List AV} (i:Nat),LeL l m→LeA (l.getD i .undef) (m.getD i .undef)
 | [],[],_,_=>LeA.refl _
 | [],_::_,_,h=>by simp [LeL] at h
 | _::_,[],_,h=>by simp [LeL] at h
 | a::l,b::m,0,h=>by simp only [LeL] at h; exact h.1
 | a::l,b::m,i+1,h=>by
  simp only [LeL] at h
  have:=LeL.dAt i h.2
  simpa [List.getD] using this
theorem RetR.yO{ctr:Ctr}{m:Nat}{Q:AV×Heap→Prop}{rs:List AV}{h:Heap}{r:AV}{hs:Heap}(L:List Nat)(hnd:jZ L=true)(hlt:(L.all fun i=>decide (i<h.length))=true)(hj:∀ j,j<m→L[j]?=some j)(hf:ctr.fresh=false)(hq:Q (r,hs))
  (he:LeA (exp2 h L (resV rs)) r) (hb:eqH (expH h L) hs) (hl:hs.length=L.length):RetR ctr m Q rs h:=
 ⟨L,hnd,fun i hi=>by have:=List.all_eq_true.1 hlt i hi; simpa using this,hj,(fun hh=>absurd hh (by rw [hf]; decide)),r,hs,he,.inl hb,hl,hq⟩
end Go.Sx
namespace Go.Nov
open Go.Sx
variable [Go.Sx.Stat]
theorem Ex.yG{x y:Ex}{k d:Int}{r n:List UInt8}{c:List AV}(h:LeL c (x.cellsD++y.cellsD)):LeA (.sl 2 5 (zg (zh 5 c) 0)) (.sl 2 5 (Ex.mk k r n d [x,y]).deep):=by
 refine LeA.sl rfl fun j o hj ho=> ?_
 rw [Ex.zU (Ex.mk k r n d [x,y]) j o (by show j<2; omega) ho]
 have:=LeL.dAt (j*5+o) h
 simp only [zg,zh,Nat.zero_add]
 rcases(show j=0∨j=1 by omega) with rfl | rfl<;>rcases(show o=0∨o=1∨o=2∨o=3∨o=4 by omega) with rfl | rfl | rfl | rfl | rfl<;>exact this
theorem Ex.jN(z:Ex):LeA (.sl z.sub.length 5 (Ex.exG z.sub)) (.sl z.sub.length 5 z.deep):=LeA.sl rfl fun j o hj ho=>by rw [Ex.zU z j o hj ho]; exact LeA.refl _
theorem Con.jN(z:Con):LeA (.sl z.sub.length 12 (Con.conG z.sub)) (.sl z.sub.length 12 z.deep):=LeA.sl rfl fun j o hj ho=>by rw [Con.zU z j o hj ho]; exact LeA.refl _
end Go.Nov
end
section
set_option maxRecDepth 100000
open Go Go.Sx Go.Proofs Go.Nov
namespace Go.Proofs.Tryz
attribute [local simp] eqKV eqA eqA0 eqH eqB eqL eqL0
end Go.Proofs.Tryz
end
section
namespace Go.Nov
theorem Vz:∀ s t:List UInt8,Op.bytesLess s t=true∨s=t∨Op.bytesLess t s=true
 | [],[]=>.inr (.inl rfl)
 | [],_::_=>.inl rfl
 | _::_,[]=>.inr (.inr rfl)
 | a::s,b::t=>by
  simp only [Op.bytesLess,Bool.or_eq_true,Bool.and_eq_true,decide_eq_true_eq,beq_iff_eq]
  by_cases h:a=b
  ·subst h
   rcases Vz s t with g | g | g
   ·exact .inl (.inr ⟨rfl,g⟩)
   ·exact .inr (.inl (by rw [g]))
   ·exact .inr (.inr (.inr ⟨rfl,g⟩))
  ·rcases UInt8.lt_or_lt_of_ne h with g | g
   ·exact .inl (.inl g)
   ·exact .inr (.inr (.inl g))
structure OrdT{α:Type}(c:α→α→Int):Prop extends OrdK c where
 irr:∀ a,c a a=0
 tot:∀ a b,c a b<0∨c a b=0∨c b a<0
 sym:∀ a b,c a b=0→c b a=0
 eqt:∀ a b d,c a b=0→c b d=0→c a d=0
 eq2:∀ a b d,c a b=0→c b d<0→c a d<0
theorem zhq:OrdT cmpF where
 toOrdK:=Jf
 irr a:=by rw [xP]; exact⟨rfl,rfl⟩
 tot a b:=by
  rw [wD,xP,wD]
  rcases Vz a.name b.name with h | h | h
  ·exact .inl (.inl h)
  ·rcases Int.lt_trichotomy a.date b.date with g | g | g
   ·exact .inl (.inr ⟨h,g⟩)
   ·exact .inr (.inl ⟨h,g⟩)
   ·exact .inr (.inr (.inr ⟨h.symm,g⟩))
  ·exact .inr (.inr (.inl h))
 sym a b h:=by rw [xP] at h ⊢; exact⟨h.1.symm,h.2.symm⟩
 eqt a b d h g:=by rw [xP] at h g ⊢; exact⟨h.1.trans g.1,h.2.trans g.2⟩
 eq2 a b d h g:=by rw [xP] at h; rw [wD] at g ⊢; rw [h.1,h.2]; exact g
section
variable {α:Type} {c:α→α→Int} {z x y:α} (hk:OrdT c)
include hk
theorem zee{a b:α}(h:c a b<0):¬ c b a<0∧c b a≠0:=by
 refine⟨fun g=> ?_,fun g=> ?_⟩
 ·have:=hk.lt a b a h g
  rw [hk.irr] at this; omega
 ·have:=hk.sym b a g; omega
theorem zhy:∀ {l:List α},l.Pairwise (fun a b=>c a b<0)→ordB c z l=true:=fun {l} h=>by
 refine yT fun j hj=> ?_
 have:=List.pairwise_iff_getElem.1 h j (j+1) (by omega) hj (by omega)
 simpa [List.getD,List.getElem?_eq_getElem (show j<l.length by omega),List.getElem?_eq_getElem hj] using this
end
end Go.Nov
end
section
namespace Go.Nov
end Go.Nov
end
section
namespace Go.Nov
open Go.Sx
structure Ca where
 name:List UInt8
 into:List UInt8
 date:Int
 ratio:List UInt8
 extra:List UInt8
def Ca.av(a:Ca):AV:=.agg [.str a.name,.str a.into,.int .i64 a.date,.str a.ratio,.str a.extra]
theorem ZQ:errR [48]=0:=by decide +kernel
theorem zm0:qv [48]=0:=by decide +kernel
theorem zii{a:List UInt8} : (errR a≠0→(cmpR a [48]).2≠0)∧(errR a=0→(cmpR a [48]).2=0∧(cmpR a [48]).1=if qv a<0 then -1 else if 0<qv a then 1 else 0):=by
 constructor
 ·intro h
  have h2:j3 a [48]=errR a:=by unfold j3; rw [if_neg h]
  have hc:zM a [48]=errR a:=by unfold zM; rw [h2,if_pos h]
  unfold cmpR
  rw [hc,if_pos h]
  exact h
 ·intro h
  have hn:(cmpR a [48]).2≠14→_:=fun g=>(zn3 h ZQ).resolve_left (fun k=>g (by rw [k]))
  have key:(cmpR a [48]).2≠14:=by
   obtain⟨a1,a2,b1,b2,a4,b4,h2⟩:=J1 h ZQ
   have hx:mulI (numR a) (denR [48])=(numR a,0):=by
    rw [show denR [48]=[49] from by decide +kernel,wW (zm.2 ⟨a1,KF⟩),show zI [49]=1 from by decide +kernel,Int.mul_one]
    exact vj a1
   have hy:mulI (numR [48]) (denR a)=([48],0):=by
    rw [wW (zm.2 ⟨b1,a2⟩),show zI (numR [48])=0 from by decide +kernel,Int.zero_mul]
    decide +kernel
   have hc:zM a [48]=0:=by
    unfold zM
    rw [h2,if_neg (by simp),hx,hy]
    simp
   unfold cmpR
   rw [hc,if_neg (by simp),hx,hy]
   unfold ZC
   rw [if_pos (zm.2 ⟨a1,by decide +kernel⟩)]
   simp
  have:=hn key
  rw [this,zm0]
  exact⟨rfl,rfl⟩
theorem zgq(z w:List UInt8×Int):(frac z w).1.length≤2003:=by
 unfold frac
 split
 ·simp
 ·unfold wh
  split
  ·simp
  ·split
   ·simp
   ·exact zd3 _ _ _
theorem zhf(a b:List UInt8):(mulR a b).1.length≤2003:=by
 unfold mulR
 split
 ·simp
 ·exact zgq _ _
namespace Ca
def ok(a:Ca):Bool:=zX a.name&&(zX a.into&&(dayB a.date&&(decide (errR a.ratio=0)&&(decide (0<qv a.ratio)&&decide (errR a.extra=0)))))
def old(a:Ca)(x:List UInt8):List UInt8×Int:=if(mulR a.ratio x).2≠0 then([],(mulR a.ratio x).2) else addR (mulR a.ratio x).1 a.extra
def hit(a:Ca)(f:Fx):Bool:=decide (f.name=a.into)&&decide (a.date≤f.date)
def keep(a:Ca)(f:Fx):Bool:= !decide (f.name=a.name)||decide (f.date<a.date)
def mk'(a:Ca)(f:Fx):Fx:=⟨a.name,f.date,(a.old f.value).1⟩
def fresh(a:Ca)(l:List Fx):List Fx:=(l.filter a.hit).map a.mk'
def kept(a:Ca)(l:List Fx):List Fx:=l.filter a.keep
def bad(a:Ca)(f:Fx):Bool:=a.hit f&&decide ((a.old f.value).2≠0)
def err(a:Ca)(l:List Fx):Int:=match l.find? a.bad with
 | some f=>(a.old f.value).2
 | none=>0
def at_(a:Ca)(l:List Fx):Nat:=l.findIdx fun f=>Op.bytesLess a.name f.name
def join(a:Ca)(l m:List Fx):List Fx:=l.take (a.at_ l)++m++l.drop (a.at_ l)
def before(a:Ca)(f:List Fx)(c:List Ch):(List Fx×List Ch)×Int:=
 if a.ok=false then(([],[]),8) else if errE f c≠0 then(([],[]),errE f c) else if a.err f≠0 then(([],[]),a.err f)
 else if 1000<(a.kept f).length+(a.fresh f).length then(([],[]),22) else((a.join (a.kept f) (a.fresh f),c),0)
theorem zds{a:Ca}{l:List Fx}{i:Nat}(hi:i<l.length)(h:a.err (l.take i)=0):a.err (l.take (i+1))=if a.bad (l.getD i Fx.nil)=true then(a.old (l.getD i Fx.nil).value).2 else 0:=by
 have hn:(l.take i).find? a.bad=none:=by
  unfold err at h
  split at h
  ·rename_i f hf
   have:=List.find?_some hf
   simp only [bad,Bool.and_eq_true,decide_eq_true_eq] at this
   exact absurd h this.2
  ·assumption
 have e:l.take (i+1)=l.take i++[l.getD i Fx.nil]:=by
  rw [List.take_add_one]
  simp [List.getD,hi]
 unfold err
 rw [e,List.find?_append,hn]
 simp only [Option.none_or,List.find?_cons]
 cases a.bad (l.getD i Fx.nil)<;>rfl
theorem zg8{a:Ca}{l:List Fx}{i:Nat}(hi:i<l.length)(h:a.err (l.take i)=0)(hb:a.bad (l.getD i Fx.nil)=true):a.err l=(a.old (l.getD i Fx.nil).value).2:=by
 have hn:(l.take i).find? a.bad=none:=by
  unfold err at h
  split at h
  ·rename_i f hf
   have:=List.find?_some hf
   simp only [bad,Bool.and_eq_true,decide_eq_true_eq] at this
   exact absurd h this.2
  ·assumption
 have e:l=l.take i++(l.getD i Fx.nil::l.drop (i+1)):=by
  conv=>lhs; rw [← List.take_append_drop i l,List.drop_eq_getElem_cons hi]
  simp [List.getD,hi]
 unfold err
 rw [e,List.find?_append,← e,hn]
 simp only [Option.none_or,List.find?_cons,hb]
theorem WZ{α:Type}{l:List α}{p:α→Bool}{z:α}{i:Nat}(h:i<l.length):(l.take (i+1)).filter p=if p (l.getD i z)=true then(l.take i).filter p++[l.getD i z] else(l.take i).filter p:=by
 have e:l.take (i+1)=l.take i++[l.getD i z]:=by
  rw [List.take_add_one]
  simp [List.getD,h]
 rw [e,List.filter_append]
 split<;>rename_i hp
 ·rw [List.filter_cons_of_pos hp]; rfl
 ·rw [List.filter_cons_of_neg hp]; simp
theorem Xz{α:Type}(l:List α)(p:α→Bool)(i:Nat):((l.take i).filter p).length≤l.length:=by
 have:=List.length_filter_le p (l.take i)
 rw [List.length_take] at this; omega
theorem zcm{a:Ca}{l:List Fx}{i:Nat}(h:i<l.length):a.kept (l.take (i+1))=if a.keep (l.getD i Fx.nil)=true then a.kept (l.take i)++[l.getD i Fx.nil] else a.kept (l.take i):=WZ h
theorem Y6{a:Ca}{l:List Fx}{i:Nat}(h:i<l.length):a.fresh (l.take (i+1))=if a.hit (l.getD i Fx.nil)=true then a.fresh (l.take i)++[⟨a.name,(l.getD i Fx.nil).date,(a.old (l.getD i Fx.nil).value).1⟩] else a.fresh (l.take i):=by
 unfold fresh
 rw [WZ (z:=Fx.nil) h]
 split<;>simp [mk']
theorem zeh{a:Ca}(l:List Fx)(i:Nat):(a.kept (l.take i)).length≤l.length:=Xz l _ i
theorem zc6{a:Ca}(l:List Fx)(i:Nat):(a.fresh (l.take i)).length≤l.length:=by
 unfold fresh; rw [List.length_map]; exact Xz l _ i
theorem Yw{a:Ca}(h:a.ok=true){x:List UInt8}(hx:errR x=0)(h0:(a.old x).2=0):errR (a.old x).1=0∧qv (a.old x).1=qv a.ratio*qv x+qv a.extra:=by
 unfold ok at h
 simp only [Bool.and_eq_true,decide_eq_true_eq] at h
 obtain⟨_,_,_,h1,_,h2⟩:=h
 unfold old at h0 ⊢
 split at h0
 ·rename_i g; exact absurd h0 g
 ·rename_i g
  rw [if_neg g]
  have g:(mulR a.ratio x).2=0:=Classical.not_not.1 g
  obtain⟨k1,k2⟩:=zam h1 hx g
  obtain⟨k3,k4⟩:=UM k1 h2 h0
  exact⟨k3,by rw [k4,k2]⟩
theorem zdn{a:Ca}{l:List Fx}(h:a.err l=0):∀ f∈l,a.hit f=true→(a.old f.value).2=0:=by
 intro f hf hh
 unfold err at h
 split at h
 ·rename_i g hg
  have:=List.find?_some hg
  simp only [bad,Bool.and_eq_true,decide_eq_true_eq] at this
  exact absurd h this.2
 ·rename_i hn
  rw [List.find?_eq_none] at hn
  have:=hn f hf
  simpa [bad,hh] using this
theorem zes{a:Ca}{f:List Fx}{c:List Ch}(h:a.ok=true)(he:errE f c=0)(h0:a.err f=0):(∀ x∈a.fresh f,okF x=true∧x.name=a.name∧a.date≤x.date)∧(a.fresh f).Pairwise (fun x y=>cmpF x y<0):=by
 obtain⟨h1,h2,h3,h4,h5⟩:=xe.1 he
 rw [List.all_eq_true] at h2
 have hp:=uD Jf h4
 constructor
 ·intro x hx
  unfold fresh at hx
  obtain⟨y,hy,rfl⟩:=List.mem_map.1 hx
  obtain⟨hy1,hy2⟩:=List.mem_filter.1 hy
  have hok:=h2 y hy1
  unfold okF at hok ⊢
  simp only [Bool.and_eq_true,decide_eq_true_eq] at hok ⊢
  have hh:=hy2
  unfold hit at hh
  simp only [Bool.and_eq_true,decide_eq_true_eq] at hh
  refine⟨⟨⟨?_,hok.1.2⟩,(Yw h hok.2 (zdn h0 y hy1 hy2)).1⟩,rfl,hh.2⟩
  unfold ok at h
  simp only [Bool.and_eq_true,decide_eq_true_eq] at h
  exact h.1
 ·unfold fresh
  rw [List.pairwise_map]
  have hq:((f.filter a.hit).Pairwise fun a b=>cmpF a b<0):=hp.filter _
  refine List.Pairwise.imp_of_mem ?_ hq
  intro x y hx hy hlt
  have hx:=(List.mem_filter.1 hx).2
  have hy:=(List.mem_filter.1 hy).2
  unfold hit at hx hy
  simp only [Bool.and_eq_true,decide_eq_true_eq] at hx hy
  rw [wD] at hlt ⊢
  rw [hx.1,hy.1,kJ] at hlt
  rcases hlt with hlt | hlt
  ·cases hlt
  ·exact .inr ⟨rfl,hlt.2⟩
theorem UE{a:Ca}{f:List Fx}{c:List Ch}(he:errE f c=0):(∀ x∈a.kept f,okF x=true∧(x.name≠a.name∨x.date<a.date))∧(a.kept f).Pairwise (fun x y=>cmpF x y<0):=by
 obtain⟨h1,h2,h3,h4,h5⟩:=xe.1 he
 rw [List.all_eq_true] at h2
 refine⟨fun x hx=> ?_,(uD Jf h4).filter _⟩
 obtain⟨hy1,hy2⟩:=List.mem_filter.1 hx
 refine⟨h2 x hy1,?_⟩
 unfold keep at hy2
 simpa using hy2
theorem UR{a:Ca}{l:List Fx} : a.at_ l≤l.length:=List.findIdx_le_length
theorem zfn{a:Ca}{l:List Fx}(hp:l.Pairwise fun x y=>cmpF x y<0):(∀ w∈l.take (a.at_ l),Op.bytesLess a.name w.name=false)∧(∀ w∈l.drop (a.at_ l),Op.bytesLess a.name w.name=true):=by
 constructor
 ·intro w hw
  obtain⟨j,hj,rfl⟩:=List.getElem_of_mem hw
  rw [List.length_take] at hj
  have:(l.take (a.at_ l))[j]'(by rw [List.length_take]; exact hj)=l[j]'(by omega):=by simp
  rw [this]
  have:=List.not_of_lt_findIdx (p:=fun f:Fx=>Op.bytesLess a.name f.name) (xs:=l) (i:=j) (by unfold at_ at hj; omega)
  simpa using this
 ·intro w hw
  obtain⟨j,hj,rfl⟩:=List.getElem_of_mem hw
  rw [List.length_drop] at hj
  rw [List.getElem_drop]
  have h0:a.at_ l<l.length:=by omega
  have h1:Op.bytesLess a.name (l[a.at_ l]).name=true:=List.findIdx_getElem (p:=fun f:Fx=>Op.bytesLess a.name f.name) (w:=h0)
  rcases Nat.eq_zero_or_pos j with rfl | hpos
  ·exact h1
  ·have:=List.pairwise_iff_getElem.1 hp (a.at_ l) (a.at_ l+j) (by omega) (by omega) (by omega)
   rw [wD] at this
   rcases this with h2 | ⟨h2,_⟩
   ·exact xv h1 h2
   ·rw [← h2]; exact h1
end Ca
end Go.Nov
end
section
namespace Go.Nov
open Go.Sx
namespace Ca
def rel(a:Ca)(y:Ex):Ex:=
 if a.extra=[48] then(if a.ratio=[49] then y else Tm.opx 6 [Tm.kon a.ratio,y])
 else Tm.opx 4 [if a.ratio=[49] then y else Tm.opx 6 [Tm.kon a.ratio,y],Tm.kon a.extra]
def onX(a:Ca)(k:Int)(n:List UInt8)(d:Int):Bool:=decide (n=a.name)&&(decide (k=3)||decide (k=2)&&decide (a.date≤d))
mutual
def chg(a:Ca):Ex→Ex
 | .mk k r n d s=>if a.onX k n d=true then a.rel (.mk k [] a.into d []) else .mk k r n d (chgs a s)
def chgs(a:Ca):List Ex→List Ex
 | []=>[]
 | x::l=>chg a x::chgs a l
end
mutual
def adj(a:Ca):Ex→Ex
 | .mk k r n d s=>if a.onX k n d=true then a.rel (.mk k r a.into d s) else .mk k r n d (adjs a s)
def adjs(a:Ca):List Ex→List Ex
 | []=>[]
 | x::l=>adj a x::adjs a l
end
theorem XR(a:Ca):∀ l,adjs a l=l.map (adj a)
 | []=>by rw [adjs]; rfl
 | x::l=>by rw [adjs,XR a l]; rfl
theorem zmi(a:Ca)(x:Ex):adj a x=if a.onX x.kind x.name x.date=true then a.rel (.mk x.kind x.rat a.into x.date x.sub) else .mk x.kind x.rat x.name x.date (x.sub.map (adj a)):=by
 cases x; rw [adj,XR]; rfl
mutual
def whole(f:Ex→Ex):Con→Con
 | .mk k a b n x d l s=>.mk k a b n (f x) d l (q6 f s)
def q6(f:Ex→Ex):List Con→List Con
 | []=>[]
 | c::l=>whole f c::q6 f l
end
theorem Q3(f:Ex→Ex):∀ l,q6 f l=l.map (whole f)
 | []=>by rw [q6]; rfl
 | x::l=>by rw [q6,Q3 f l]; rfl
theorem zfw(f:Ex→Ex)(c:Con):whole f c = .mk c.kind c.src c.dst c.name (f c.x) c.date c.days (c.sub.map (whole f)):=by
 cases c; rw [whole,Q3]; rfl
end Ca
end Go.Nov
end
section
set_option maxRecDepth 100000
open Go Go.Sx Go.Proofs Go.Nov
namespace Go.Proofs.Tryz
attribute [local simp] eqKV eqA eqA0 eqH eqB eqL eqL0
theorem km(e:Ex):eqA (exD e) e.exA:=by
 simp only [exD,Ex.exA,Ex.exS,eqA]
 exact⟨⟨rfl,rfl⟩,rfl,rfl,⟨rfl,rfl⟩,⟨rfl,rfl,Ex.zU e⟩,trivial⟩
theorem zd5{f:Ex→Ex}{s:List Ex}{i:Nat}(h:i<s.length):eqG (i+1) 5 (appG i (Ex.exG (s.map f)) (zg (zh 5 (f (s.getD i Ex.nil)).cellsD) 0)) (Ex.exG (s.map f)):=by
 have e:f (s.getD i Ex.nil)=(s.map f).getD i Ex.nil:=by simp [List.getD,h]
 rw [e]
 exact zgk
theorem Yr{f:Con→Con}{s:List Con}{i:Nat}(h:i<s.length):eqG (i+1) 12 (appG i (Con.conG (s.map f)) (zg (zh 12 (f (s.getD i Con.nil)).qX) 0)) (Con.conG (s.map f)):=by
 have e:f (s.getD i Con.nil)=(s.map f).getD i Con.nil:=by simp [List.getD,h]
 rw [e]
 exact zci
noncomputable def K124:List Go.Sx.Item:=[.code (Tryz.f124.body.getD .skip)]
def HAd(a:Ca):Heap:=[.box [.str a.name,.str a.into,.int .i64 a.date,.str a.ratio,.str a.extra],.box [.fn 81 [] [.ptr 0 0,.ptr 1 0]]]
def adjC(n:Nat):Ctr:=ctrT false false (fun p:Ca×Ex=>[p.2.exA,.ptr 0 0,.ptr 1 0]) (fun p=>HAd p.1) (fun p=>p.2.size<n∧p.2.size<2^40) (fun _ (_:Unit)=>True) (fun p _=>(exD (p.1.adj p.2),HAd p.1))
def zoe(n:Nat):Ctr:=ctrT false false (fun p:Ca×List Ex=>[Ex.exS p.2,.fn 81 [] [.ptr 0 0,.ptr 1 0]]) (fun p=>HAd p.1) (fun p=>Ex.zo p.2<n∧Ex.zo p.2<2^40) (fun _ (_:Unit)=>True) (fun p _=>(Ex.exS (p.2.map (Ca.adj p.1)),HAd p.1))
def SMp(s:List Ex)(i:Nat):KV:=[(1,.fn 81 [] [.ptr 0 0,.ptr 1 0]),(5,.osl 2 5 0 i),(8,Ex.exS s),(9,.int .i64 (s.length:Int)),(10,.int .i64 (i:Int))]
def HMp(f:Ex→Ex)(a:Ca)(s:List Ex)(i:Nat):Heap:=[.box [.str a.name,.str a.into,.int .i64 a.date,.str a.ratio,.str a.extra],.box [.fn 81 [] [.ptr 0 0,.ptr 1 0]],.arr i 5 (Ex.exG (s.map f))]
theorem zkw(n:Nat)(ih:zc Tryz.prog 81 (adjC n)):zc Tryz.prog 124 (zoe n):=by
 refine qM (fn:=Tryz.f124) (c:=Tryz.f124.body.getD .skip) rfl rfl rfl (fun h=>by cases h) fun p hp O w0 σ0 Q hl0 hq=> ?_
 obtain⟨a,s⟩:=p
 obtain⟨h1,h2⟩:=hp
 simp only at h1 h2
 replace hq:=hq () trivial
 have hlen:=Ex.zJ s
 refine zb.run hmix (qq ih) [1,5,8,9,10] 400 (T:=.leaf (.loop (Prod.fst (lps K124 0)) (Prod.snd (lps K124 0)) [(1,.fn 81 [] [.ptr 0 0,.ptr 1 0]),(5,.nils),(8,.sl s.length 5 (Ex.exG s)),(9,.int .i64 s.length),(10,.int .i64 0)] [.box [.str (Ca.name a),.str (Ca.into a),.int .i64 (Ca.date a),.str (Ca.ratio a),.str (Ca.extra a)],.box [.fn 81 [] [.ptr 0 0,.ptr 1 0]]])) (by kernel_rfl) ?_
 simp only [Tree.holds,zd,inR,lo,hi,Int.toNat_natCast]
 show qD none Tryz.prog Tryz.f124 O 2 w0 σ0 _ _ _ _
 refine zb.bear 5 5 (Ex.exG (s.map (Ca.adj a))) rfl (by decide) (by kernel_rfl) ?_
 refine zb.loop (ι:={i:Nat // i≤s.length}) (fun i=>SMp s i.1) (fun i=>HMp (Ca.adj a) a s i.1) (fun i=>s.length - i.1) ⟨0,Nat.zero_le _⟩ 0 ?_ ?_ (by kernel_rfl)
 ·exact⟨by simp [SMp,uE,Ex.exS,za],by simp [HMp,HAd,za],by kernel_rfl,by show 2≤3; decide⟩
 ·rintro⟨i,hil⟩
  refine zb.run hmix (qq ih) [1,5,8,9,10] 400 (T:=.ite (decide ((↑i:Int)<s.length)) (.side ((0:Int)≤i∧(↑i:Int)<s.length) (.ex (fun(x:Ca×Ex)=>eqL [(exD (s.getD (↑i:Int).toNat Ex.nil)),AV.ptr 0 0,AV.ptr 1 0] [x.2.exA,AV.ptr 0 0,AV.ptr 1 0]∧eqH [.box [AV.str (Ca.name a),AV.str (Ca.into a),AV.int .i64 (Ca.date a),AV.str (Ca.ratio a),AV.str (Ca.extra a)],.box [AV.fn 81 [] [AV.ptr 0 0,AV.ptr 1 0]]] [.box [AV.str (Ca.name x.1),AV.str (Ca.into x.1),AV.int .i64 (Ca.date x.1),AV.str (Ca.ratio x.1),AV.str (Ca.extra x.1)],.box [AV.fn 81 [] [AV.ptr 0 0,AV.ptr 1 0]]]∧2=2∧Ex.size x.2<n∧Ex.size x.2<1099511627776) fun n=>.all (fun(x:Unit)=>True) fun n_1=>.side (0=0∧i≤i∧(i+1)*72≤140737488355328) (.side (inR .i64 ((↑i:Int)+(1:Int))) (.leaf (.back 0 [(1,.fn 81 [] [.ptr 0 0,.ptr 1 0]),(5,.osl 2 5 0 (i+1)),(8,.sl s.length 5 (Ex.exG s)),(9,.int .i64 s.length),(10,.int .i64 ((↑i:Int)+(1:Int)))] [.box [.str (Ca.name n.1),.str (Ca.into n.1),.int .i64 (Ca.date n.1),.str (Ca.ratio n.1),.str (Ca.extra n.1)],.box [.fn 81 [] [.ptr 0 0,.ptr 1 0]],.arr (i+1) 5 (appG i (Ex.exG (List.map (Ca.adj a) s)) (zg (zh 5 (Ex.cellsD (Ca.adj n.1 n.2))) 0)),.box (Ex.cellsD (s.getD (↑i:Int).toNat Ex.nil)),.arr 1 5 (zh 5 (Ex.cellsD (Ca.adj n.1 n.2)))]))))) (.leaf (.ret [.osl 2 5 0 i] [.box [.str (Ca.name a),.str (Ca.into a),.int .i64 (Ca.date a),.str (Ca.ratio a),.str (Ca.extra a)],.box [.fn 81 [] [.ptr 0 0,.ptr 1 0]],.arr i 5 (Ex.exG (List.map (Ca.adj a) s))]))) (by kernel_rfl) ?_
  simp only [Tree.holds,zd,inR,lo,hi,Int.toNat_natCast]
  refine⟨fun hlt=> ?_,fun hge=> ?_⟩
  ·have hlt:i<s.length:=by have:=of_decide_eq_true hlt; omega
   have hg:=Ex.qG hlt
   have ha:eqH [.box [.str a.name,.str a.into,.int .i64 a.date,.str a.ratio,.str a.extra],.box [.fn 81 [] [.ptr 0 0,.ptr 1 0]]] [.box [.str a.name,.str a.into,.int .i64 a.date,.str a.ratio,.str a.extra],.box [.fn 81 [] [.ptr 0 0,.ptr 1 0]]]:=by simp
   refine⟨by omega,fun _=>⟨(a,s.getD i Ex.nil),⟨⟨km _,⟨rfl,rfl⟩,⟨rfl,rfl⟩,trivial⟩,ha,trivial,by show Ex.size (s.getD i Ex.nil)<n; omega,by show Ex.size (s.getD i Ex.nil)<_; omega⟩,⟨(),trivial⟩,?_⟩⟩
   intro _ _
   refine⟨⟨trivial,Nat.le_refl _,by omega⟩,fun _=>⟨by omega,fun _=> ?_⟩⟩
   rw [if_pos trivial]
   refine⟨⟨i+1,hlt⟩,by show s.length - (i+1)<s.length - i; omega,by simp [SMp,Ex.exS,za],?_,by kernel_rfl,by show 2≤3; decide⟩
   refine⟨⟨rfl,rfl,⟨rfl,rfl⟩,rfl,rfl,trivial⟩,by simp,⟨rfl,rfl,zd5 hlt⟩,trivial⟩
  ·have hge:i=(s.map (Ca.adj a)).length:=by have:=of_decide_eq_false hge; simp; omega
   subst hge
   exact RetR.yO [0,1] rfl rfl (by show ∀ j,j<2→_; decide) rfl hq (LeA.sl rfl fun j o hj ho=>by simp only [zg,Nat.zero_add]; exact LeA.refl _) (by simp [expH,expB,exp1,exp0,ren0,HAd,HMp,zy]) rfl
def zmh:Ctr:=ctrP false (fun r:List UInt8=>[.str r]) (fun _=>True) (fun _ (_:Unit)=>True) (fun r _=>(exD (Tm.kon r),[]))
theorem zkj:zc Tryz.prog 82 zmh:=by
 refine ze (fn:=Tryz.f82) (c:=Tryz.f82.body.getD .skip) rfl rfl rfl fun r hp O w0 Q hq=> ?_
 replace hq:=hq () trivial
 refine zb.run hmix z7 [] 400 (T:=.leaf (.ret [.agg [.int .u8 1,.str r,.str #[].toList,.int .i64 0,.nils]] [.box [.int .u8 1,.str r,.str #[].toList,.int .i64 0,.nils]])) (by kernel_rfl) ?_
 simp only [Tree.holds,zd]
 refine RetR.out0 hq (fun h=>by cases h) ?_
 exact⟨⟨rfl,rfl⟩,rfl,rfl,⟨rfl,rfl⟩,rfl,trivial⟩
def zfu(n:Nat):Ctr:=ctrT false false (fun p:Ca×Ex=>[p.2.exA,.fn 81 [] [.ptr 0 0,.ptr 1 0]]) (fun p=>HAd p.1) (fun p=>Ex.zo p.2.sub<n∧Ex.zo p.2.sub<2^40) (fun _ (_:Unit)=>True) (fun p _=>(exD (.mk p.2.kind p.2.rat p.2.name p.2.date (p.2.sub.map (Ca.adj p.1))),HAd p.1))
theorem zlg(n:Nat)(ih:zc Tryz.prog 81 (adjC n)):zc Tryz.prog 83 (zfu n):=by
 refine qM (fn:=Tryz.f83) (c:=Tryz.f83.body.getD .skip) rfl rfl rfl (fun h=>by cases h) fun p hp O w0 σ0 Q hl0 hq=> ?_
 obtain⟨a,x⟩:=p
 replace hq:=hq () trivial
 refine zb.run hmix (qq (zkw n ih)) [] 400 (T:=.ex (fun(x_1:Ca×List Ex)=>eqL [AV.sl x.sub.length 5 (Ex.exG x.sub),AV.fn 81 [] [AV.ptr 0 0,AV.ptr 1 0]] [AV.sl x_1.2.length 5 (Ex.exG x_1.2),AV.fn 81 [] [AV.ptr 0 0,AV.ptr 1 0]]∧eqH [.box [AV.str (Ca.name a),AV.str (Ca.into a),AV.int .i64 (Ca.date a),AV.str (Ca.ratio a),AV.str (Ca.extra a)],.box [AV.fn 81 [] [AV.ptr 0 0,AV.ptr 1 0]]] [.box [AV.str (Ca.name x_1.1),AV.str (Ca.into x_1.1),AV.int .i64 (Ca.date x_1.1),AV.str (Ca.ratio x_1.1),AV.str (Ca.extra x_1.1)],.box [AV.fn 81 [] [AV.ptr 0 0,AV.ptr 1 0]]]∧2=2∧Ex.zo x_1.2<n∧Ex.zo x_1.2<1099511627776) fun n=>.all (fun(x:Unit)=>True) fun n_1=>.leaf (.ret [.agg [.int .u8 x.kind,.str x.rat,.str x.name,.int .i64 x.date,.sl (List.length (List.map (Ca.adj n.1) n.2)) 5 (Ex.exG (List.map (Ca.adj n.1) n.2))]] [.box [.str (Ca.name n.1),.str (Ca.into n.1),.int .i64 (Ca.date n.1),.str (Ca.ratio n.1),.str (Ca.extra n.1)],.box [.fn 81 [] [.ptr 0 0,.ptr 1 0]],.box [.int .u8 x.kind,.str x.rat,.str x.name,.int .i64 x.date,.sl (List.length (List.map (Ca.adj n.1) n.2)) 5 (Ex.exG (List.map (Ca.adj n.1) n.2))],.box [.int .u8 x.kind,.str x.rat,.str x.name,.int .i64 x.date,.sl (List.length (List.map (Ca.adj n.1) n.2)) 5 (Ex.exG (List.map (Ca.adj n.1) n.2))]])) (by kernel_rfl) ?_
 simp only [Tree.holds,zd]
 refine⟨(a,x.sub),⟨⟨⟨rfl,rfl,za _ _ _⟩,by simp,trivial⟩,by simp,trivial,hp.1,hp.2⟩,⟨(),trivial⟩,fun _ _=> ?_⟩
 exact RetR.yO [0,1] rfl rfl (by show ∀ j,j<2→_; decide) rfl hq (LeA.agg ⟨LeA.refl _,LeA.refl _,LeA.refl _,LeA.refl _,Ex.jN (.mk x.kind x.rat x.name x.date (x.sub.map (Ca.adj a))),trivial⟩) (by simp [expH,expB,exp1,exp0,ren0,HAd,zy]) rfl
noncomputable def K164:List Go.Sx.Item:=[.code (Tryz.f164.body.getD .skip)]
def zao:Ctr:=ctr2 true (fun x y=>(canon x).length<100000∧(canon y).length<100000) (fun x y d=>d=x+y) (fun _ _ d=>(magS d,[]))
def SPl(x y:Nat)(o:List Nat)(c i:Nat):KV:=[(1,magS y),(5,.osl 0 1 0 o.length),(6,.int .u32 (c:Int)),(21,magS x),(22,.int .i64 ((canon x).length:Int)),(23,.int .i64 (i:Int))]
structure IPl(x y:Nat) where
 o:List Nat
 c:Nat
 i:Nat
 len:o.length=i
 le:i≤(canon x).length
 dg:dig o
 c1:c≤1
 eq:val o+B^i*c=val ((canon x).take i)+val ((canon y).take i)
theorem znn{x y o c i d c':Nat}{l m:List Nat}(h:o+B^i*c=val (l.take i)+val (m.take i))(he:d+B*c'=l.getD i 0+m.getD i 0+c):o+B^i*d+B^(i+1)*c'=val (l.take (i+1))+val (m.take (i+1)):=by
 rw [zt,zt,Nat.pow_succ]
 have:=congrArg (B^i * ·) he
 simp only [Nat.mul_add] at this
 rw [Nat.mul_assoc]
 omega
theorem RetR.zoa{ctr:Ctr}{Q:AV×Heap→Prop}{h:Heap}{i m n:Nat}{k:IntKind}{l:List Nat}{G:Nat→Nat→AV}(hq:Q (natS k l,[]))(hb:h[i]?=some (.arr m 1 G))(hn:n≤m)(hl:l.length=n)(hG:∀ j,j<n→G j 0 = .int k ((l.getD j 0:Nat):Int)):RetR ctr 0 Q [.osl i 1 0 n] h:=by
 refine RetR.out0 hq (fun _=> ?_) ?_
 ·refine zfk hb (by omega) fun j o hj ho=> ?_
  have:o=0:=by omega
  subst this
  simp only [zg,Nat.zero_add,hG j hj,qe]
 ·have e:exp2 h [] (resV [.osl i 1 0 n])=exp0 h [] (.osl i 1 0 n):=rfl
  rw [e,Kx hb (by omega),zo6]
  simp only [eqA2,natS]
  refine⟨hl.symm,rfl,fun j o hj ho=> ?_⟩
  have:o=0:=by omega
  subst this
  rw [hG j hj]; rfl
theorem XA{O:Nat→Prop}{w0:World}{Q:AV×Heap→Prop}(x y:Nat)(hx:(canon x).length<100000)(hlen:(canon y).length≤(canon x).length)(hq:Q (magS (x+y),[]))(kv:KV)(h:Heap)(hle:LeK 0 Tryz.f164.ntmps kv h (SPl x y [] 0 0) [.arr 0 1 (natG .u32 [])]) :
  zb Tryz.prog Tryz.f164 O 0 w0 [] (fun _ _ _=>False) (RetR zao 0 Q) (.code (.loop (lps K164 0).1)::(lps K164 0).2) (mk Tryz.f164.ntmps kv h):=by
 refine zb.loop (ι:=IPl x y) (fun s=>SPl x y s.o s.c s.i) (fun s=>[.arr s.o.length 1 (natG .u32 s.o)]) (fun s=>(canon x).length - s.i) ⟨[],0,0,rfl,Nat.zero_le _,by simp [dig],by omega,by simp [val]⟩ 0 hle ?_ (by kernel_rfl)
 rintro⟨o,c,i,ho,hle,hd,hc,he⟩
 subst ho
 have hB:B=1000000000:=rfl
 refine zb.run hmix yL [1,5,6,21,22,23] 400 (T:=.ite (decide ((↑o.length:Int)<(↑(canon x).length:Int))) (.side ((0:Int)≤o.length∧(↑o.length:Int)<(↑(canon x).length:Int)) (.side (inR .u32 ((↑(List.getD (canon x) (Int.toNat (↑o.length:Int)) 0):Int)+c)) (.ite (decide ((↑o.length:Int)<(↑(canon y).length:Int))) (.side ((0:Int)≤o.length∧(↑o.length:Int)<(↑(canon y).length:Int)) (.side (inR .u32 ((↑(List.getD (canon x) (Int.toNat (↑o.length:Int)) 0):Int)+c+(↑(List.getD (canon y) (Int.toNat (↑o.length:Int)) 0):Int))) (.side ((1000000000:Int)≠0∧inR .u32 (Int.tdiv ((↑(List.getD (canon x) (Int.toNat (↑o.length:Int)) 0):Int)+c+(↑(List.getD (canon y) (Int.toNat (↑o.length:Int)) 0):Int)) (1000000000:Int))) (.side ((1000000000:Int)≠0) (.side (0=0∧o.length≤o.length∧(o.length+1)*4≤140737488355328) (.side (inR .i64 ((↑o.length:Int)+(1:Int))) (.leaf (.back 0 [(1,.sl (canon y).length 1 (natG .u32 (canon y))),(5,.osl 0 1 0 (o.length+1)),(6,.int .u32 (Int.tdiv ((↑(List.getD (canon x) (Int.toNat (↑o.length:Int)) 0):Int)+c+(↑(List.getD (canon y) (Int.toNat (↑o.length:Int)) 0):Int)) (1000000000:Int))),(21,.sl (canon x).length 1 (natG .u32 (canon x))),(22,.int .i64 (↑(canon x).length:Int)),(23,.int .i64 ((↑o.length:Int)+(1:Int)))] [.arr (o.length+1) 1 (appG o.length (natG .u32 o) (zg (zh 1 [.int .u32 (Int.tmod ((↑(List.getD (canon x) (Int.toNat (↑o.length:Int)) 0):Int)+c+(↑(List.getD (canon y) (Int.toNat (↑o.length:Int)) 0):Int)) (1000000000:Int))]) 0)),.arr 1 1 (zh 1 [.int .u32 (Int.tmod ((↑(List.getD (canon x) (Int.toNat (↑o.length:Int)) 0):Int)+c+(↑(List.getD (canon y) (Int.toNat (↑o.length:Int)) 0):Int)) (1000000000:Int))])])))))))) (.side ((1000000000:Int)≠0∧inR .u32 (Int.tdiv ((↑(List.getD (canon x) (Int.toNat (↑o.length:Int)) 0):Int)+c) (1000000000:Int))) (.side ((1000000000:Int)≠0) (.side (0=0∧o.length≤o.length∧(o.length+1)*4≤140737488355328) (.side (inR .i64 ((↑o.length:Int)+(1:Int))) (.leaf (.back 0 [(1,.sl (canon y).length 1 (natG .u32 (canon y))),(5,.osl 0 1 0 (o.length+1)),(6,.int .u32 (Int.tdiv ((↑(List.getD (canon x) (Int.toNat (↑o.length:Int)) 0):Int)+c) (1000000000:Int))),(21,.sl (canon x).length 1 (natG .u32 (canon x))),(22,.int .i64 (↑(canon x).length:Int)),(23,.int .i64 ((↑o.length:Int)+(1:Int)))] [.arr (o.length+1) 1 (appG o.length (natG .u32 o) (zg (zh 1 [.int .u32 (Int.tmod ((↑(List.getD (canon x) (Int.toNat (↑o.length:Int)) 0):Int)+c) (1000000000:Int))]) 0)),.arr 1 1 (zh 1 [.int .u32 (Int.tmod ((↑(List.getD (canon x) (Int.toNat (↑o.length:Int)) 0):Int)+c) (1000000000:Int))])]))))))))) (.side (0=0∧o.length≤o.length∧(o.length+1)*4≤140737488355328) (.ex (fun(u:List Nat)=>u.length=o.length+1∧0+(o.length+1)≤o.length+1∧o.length+1<4611686018427387904∧eqG (o.length+1) 1 (appG o.length (natG .u32 o) (zg (zh 1 [AV.int .u32 c]) 0)) (natG .u32 u)∧dig (List.take (o.length+1) (List.drop 0 u))) fun n=>.all (fun(x:Nat)=>x=val (List.take (o.length+1) (List.drop 0 n))) fun n=>.leaf (.ret [.osl 0 1 0 (canon n).length] [.arr (o.length+1) 1 (appG o.length (natG .u32 o) (zg (zh 1 [.int .u32 c]) 0)),.arr 1 1 (zh 1 [.int .u32 c])])))) (by kernel_rfl) ?_
 simp only [Tree.holds,zd,inR,lo,hi,Int.toNat_natCast,xX]
 have ha:=zQ (zi x) o.length
 have hb:=zQ (zi y) o.length
 have hnext:∀ d c':Nat,d<B→c'≤1→o.length<(canon x).length→d+B*c'=(canon x).getD o.length 0+(canon y).getD o.length 0+c →
   ∃ s:IPl x y,s.o=o++[d]∧s.c=c'∧s.i=o.length+1:=fun d c' h1 h2 h3 h4=>
  ⟨⟨o++[d],c',o.length+1,by simp,h3,jh.2 ⟨hd,by simp [dig,h1]⟩,h2,by rw [JD]; exact znn (x:=x) (y:=y) he h4⟩,rfl,rfl,rfl⟩
 have hdiv:∀ v:Nat,(v:Int).tdiv 1000000000=((v/B:Nat):Int)∧(v:Int).tmod 1000000000=((v%B:Nat):Int):=fun v=>⟨rfl,rfl⟩
 have hq2:∀ v:Nat,v<2*B→v/B≤1∧v%B<B∧v%B+B*(v/B)=v:=fun v hv=>⟨by have:=Nat.div_lt_of_lt_mul (show v<B*2 by omega); omega,Nat.mod_lt _ (by omega),Nat.mod_add_div _ _⟩
 refine⟨fun hlt=> ?_,fun hge=> ?_⟩
 ·have hlt:o.length<(canon x).length:=by have:=of_decide_eq_true hlt; omega
  refine⟨by omega,fun _=>⟨by omega,fun _=>⟨fun hb2=> ?_,fun hb2=> ?_⟩⟩⟩
  ·have hb2:o.length<(canon y).length:=by have:=of_decide_eq_true hb2; omega
   refine⟨by omega,fun _=>⟨by omega,fun _=> ?_⟩⟩
   obtain⟨v,hv⟩:∃ v,(canon x).getD o.length 0+c+(canon y).getD o.length 0=v:=⟨_,rfl⟩
   have ev:(((canon x).getD o.length 0:Nat):Int)+(c:Int)+(((canon y).getD o.length 0:Nat):Int)=(v:Int):=by omega
   rw [ev,(hdiv v).1,(hdiv v).2]
   obtain⟨g1,g2,g3⟩:=hq2 v (by omega)
   generalize v/B=q at g1 g3 ⊢
   generalize v%B=r at g2 g3 ⊢
   refine⟨⟨by decide,by omega,by omega⟩,fun _=>⟨by decide,fun _=>⟨⟨trivial,Nat.le_refl _,by omega⟩,fun _=>⟨by omega,fun _=> ?_⟩⟩⟩⟩
   obtain⟨s,h1,h2,h3⟩:=hnext r q g2 g1 hlt (by omega)
   rw [if_pos trivial]
   exact⟨s,by show _ - s.i<_; omega,by simp [SPl,h1,h2,h3,magS,natS,za],by rw [h1]; exact vB rfl,by kernel_rfl,Nat.zero_le _⟩
  ·have hb2:(canon y).length≤o.length:=by have:=of_decide_eq_false hb2; omega
   have hb0:(canon y).getD o.length 0=0:=by simp [List.getD,List.getElem?_eq_none hb2]
   obtain⟨v,hv⟩:∃ v,(canon x).getD o.length 0+c=v:=⟨_,rfl⟩
   have ev:(((canon x).getD o.length 0:Nat):Int)+(c:Int)=(v:Int):=by omega
   rw [ev,(hdiv v).1,(hdiv v).2]
   obtain⟨g1,g2,g3⟩:=hq2 v (by omega)
   generalize v/B=q at g1 g3 ⊢
   generalize v%B=r at g2 g3 ⊢
   refine⟨⟨by decide,by omega,by omega⟩,fun _=>⟨by decide,fun _=>⟨⟨trivial,Nat.le_refl _,by omega⟩,fun _=>⟨by omega,fun _=> ?_⟩⟩⟩⟩
   obtain⟨s,h1,h2,h3⟩:=hnext r q g2 g1 hlt (by omega)
   rw [if_pos trivial]
   exact⟨s,by show _ - s.i<_; omega,by simp [SPl,h1,h2,h3,magS,natS,za],by rw [h1]; exact vB rfl,by kernel_rfl,Nat.zero_le _⟩
 ·have hge:o.length=(canon x).length:=by have:=of_decide_eq_false hge; omega
  have hv:val (o++[c])=x+y:=by
   rw [JD]
   rw [hge,List.take_length,List.take_of_length_le hlen,zl,zl] at he
   rw [hge]; exact he
  have hdo:dig (o++[c]):=jh.2 ⟨hd,by simp [dig]; omega⟩
  have hpush:eqG (o.length+1) 1 (appG o.length (natG .u32 o) (zg (zh 1 [.int .u32 (c:Int)]) 0)) (natG .u32 (o++[c])):=by
   have:=yP (k:=.u32) (l:=o) (v:=(c:Int)) (by omega)
   simpa using this
  have hall:List.take (o.length+1) (List.drop 0 (o++[c]))=o++[c]:=by rw [List.drop_zero]; exact List.take_of_length_le (by simp)
  refine⟨⟨trivial,Nat.le_refl _,by omega⟩,fun _=>⟨o++[c],⟨by simp,by omega,by omega,hpush,by rw [hall]; exact hdo⟩,⟨_,rfl⟩,?_⟩⟩
  intro X hX
  have hX:X=x+y:=by rw [hX,hall,hv]
  subst hX
  have htr:qI (o++[c])=canon (x+y):=by rw [zT hdo,hv]
  have htl:(canon (x+y)).length=tlen (o++[c]):=by rw [← htr,qI,List.length_take]; have:=qk (o++[c]); omega
  rw [htl]
  have hle2:=qk (o++[c])
  have hln:(o++[c]).length=o.length+1:=by simp
  refine RetR.zoa (l:=canon (x+y)) (k:=.u32) hq rfl (by omega) htl fun j hj=> ?_
  have:=hpush j 0 (by omega) (by omega)
  rw [this,← htr]
  simp only [natG,qI]
  rw [zaj hj]
theorem UY:zc Tryz.prog 164 zao:=by
 refine uL (fn:=Tryz.f164) (c:=Tryz.f164.body.getD .skip) rfl rfl rfl fun x y hp O w0 Q hq=> ?_
 replace hq:=hq _ rfl
 obtain⟨hx,hy⟩:=hp
 refine zb.run hmix yL [1,5,6,21,22,23] 400 (T:=.ite (decide ((↑(canon x).length:Int)<(↑(canon y).length:Int))) (.side (inR .i64 ((↑(canon y).length:Int)+(1:Int))) (.side ((0:Int)≤0∧(0:Int)≤(↑(canon y).length:Int)+(1:Int)∧inR .i64 ((↑(canon y).length:Int)+(1:Int))∧Int.toNat ((↑(canon y).length:Int)+(1:Int))*4≤140737488355328) (.leaf (.loop (Prod.fst (lps K164 0)) (Prod.snd (lps K164 0)) [(1,.sl (canon x).length 1 (natG .u32 (canon x))),(5,.osl 0 1 0 0),(6,.int .u32 0),(21,.sl (canon y).length 1 (natG .u32 (canon y))),(22,.int .i64 (↑(canon y).length:Int)),(23,.int .i64 0)] [.arr 0 1 (xL [.int .u32 0])])))) (.side (inR .i64 ((↑(canon x).length:Int)+(1:Int))) (.side ((0:Int)≤0∧(0:Int)≤(↑(canon x).length:Int)+(1:Int)∧inR .i64 ((↑(canon x).length:Int)+(1:Int))∧Int.toNat ((↑(canon x).length:Int)+(1:Int))*4≤140737488355328) (.leaf (.loop (Prod.fst (lps K164 0)) (Prod.snd (lps K164 0)) [(1,.sl (canon y).length 1 (natG .u32 (canon y))),(5,.osl 0 1 0 0),(6,.int .u32 0),(21,.sl (canon x).length 1 (natG .u32 (canon x))),(22,.int .i64 (↑(canon x).length:Int)),(23,.int .i64 0)] [.arr 0 1 (xL [.int .u32 0])]))))) (by kernel_rfl) ?_
 simp only [Tree.holds,zd,inR,lo,hi]
 refine⟨fun h=> ?_,fun h=> ?_⟩
 ·have h:(canon x).length<(canon y).length:=by have:=of_decide_eq_true h; omega
  refine⟨by omega,fun _=>⟨⟨by omega,by omega,by omega,by omega⟩,fun _=> ?_⟩⟩
  rw [Nat.add_comm] at hq
  exact XA y x hy (by omega) hq _ _ ⟨by simp [SPl,magS,natS,za],by simp [eqG],by kernel_rfl,Nat.zero_le _⟩
 ·have h:(canon y).length≤(canon x).length:=by have:=of_decide_eq_false h; omega
  refine⟨by omega,fun _=>⟨⟨by omega,by omega,by omega,by omega⟩,fun _=> ?_⟩⟩
  exact XA x y hx h hq _ _ ⟨by simp [SPl,magS,natS,za],by simp [eqG],by kernel_rfl,Nat.zero_le _⟩
def zma:Ctr:=ctrP false (fun p:Bool×Nat=>[.bool p.1,magS p.2]) (fun _=>True) (fun p r=>r=(p.1&&decide (0<p.2),p.2)) (fun _ (r:Bool×Nat)=>(numV r.1 r.2,[]))
theorem Kn{x:Nat} : decide (0<((canon x).length:Int))=decide (0<x):=by
 by_cases h:x=0
 ·subst h; simp [canon]
 ·have h1:0<x:=Nat.pos_of_ne_zero h
  have h2:(canon x).length≠0:=fun h2=>h (yc.1 h2)
  rw [decide_eq_true (by omega),decide_eq_true h1]
theorem RetR.numV{ctr:Ctr}{Q:AV×Heap→Prop}{h:Heap}{b:Bool}{x:Nat}(hf:ctr.fresh=false)(hq:Q (numV b x,[])):RetR ctr 0 Q [.agg [.bool b,magS x]] h:=by
 refine RetR.out0 hq (fun h=>by rw [hf] at h; cases h) ?_
 simp [resV,exp2,exp1,exp0,ren0,frz1,eqA2,eqL1,eqA,eqL0,eqA0,Tryz.numV,magS,natS,za]
theorem zjn:zc Tryz.prog 163 zma:=by
 refine ze (fn:=Tryz.f163) (c:=Tryz.f163.body.getD .skip) rfl rfl rfl fun p hp O w0 Q hq=> ?_
 obtain⟨b,x⟩:=p
 replace hq:=hq _ rfl
 refine zb.run hmix z7 [] 400 (T:=.leaf (.ret [.agg [.bool (bif b then decide ((0:Int)<(↑(canon x).length:Int)) else false),.sl (canon x).length 1 (natG .u32 (canon x))]] [.box [.bool (bif b then decide ((0:Int)<(↑(canon x).length:Int)) else false),.sl (canon x).length 1 (natG .u32 (canon x))]])) (by kernel_rfl) ?_
 simp only [Tree.holds,zd]
 rw [Kn]
 have e:(bif b then decide (0<x) else false)=(b&&decide (0<x)):=by cases b<;>rfl
 rw [e]
 exact RetR.numV rfl hq
def sumC:Ctr:=ctrP false (fun p:(Bool×Nat)×(Bool×Nat)=>[numV p.1.1 p.1.2,numV p.2.1 p.2.2]) (fun p=>(canon p.1.2).length<100000∧(canon p.2.2).length<100000)
 (fun p r=>r=((sumS p.1.1 p.1.2 p.2.1 p.2.2).1&&decide (0<(sumS p.1.1 p.1.2 p.2.1 p.2.2).2),(sumS p.1.1 p.1.2 p.2.1 p.2.2).2)) (fun _ (r:Bool×Nat)=>(numV r.1 r.2,[]))
noncomputable def GSu:Nat→Option Ctr:=fun f=>if f=163 then some (zma) else if f=164 then some (zao) else if f=134 then some (yX) else if f=152 then some (V2) else none
theorem zn8:∀ g c,GSu g=some c→zc Tryz.prog g c:=okIf zjn (okIf UY (okIf yu (okIf Jd (zq))))
theorem zo0:zc Tryz.prog 157 sumC:=by
 refine ze (fn:=Tryz.f157) (c:=Tryz.f157.body.getD .skip) rfl rfl rfl fun p hp O w0 Q hq=> ?_
 obtain⟨⟨m,x⟩,⟨n,y⟩⟩:=p
 obtain⟨h1,h2⟩:=hp
 replace hq:=hq _ rfl
 simp only at h1 h2 hq
 refine zb.run hmix zn8 [] 400 (T:=.ite (m == n) (.ex (fun(x_1:Nat×Nat)=>eqL [AV.sl (canon x).length 1 (natG .u32 (canon x)),AV.sl (canon y).length 1 (natG .u32 (canon y))] [AV.sl (canon x_1.1).length 1 (natG .u32 (canon x_1.1)),AV.sl (canon x_1.2).length 1 (natG .u32 (canon x_1.2))]∧List.length (canon x_1.1)<100000∧List.length (canon x_1.2)<100000) fun n_1=>.all (fun(d:Nat)=>d=n_1.1+n_1.2) fun n_2=>.ex (fun(x:Bool×Nat)=>eqL [AV.bool m,AV.sl (canon n_2).length 1 (natG .u32 (canon n_2))] [AV.bool x.1,AV.sl (canon x.2).length 1 (natG .u32 (canon x.2))]∧True) fun n_3=>.all (fun(r:Bool×Nat)=>r=(n_3.1&&decide (0<n_3.2),n_3.2)) fun n_4=>.leaf (.ret [.agg [.bool n_4.1,.sl (canon n_4.2).length 1 (natG .u32 (canon n_4.2))]] [.box [.bool m,.sl (canon x).length 1 (natG .u32 (canon x))],.box [.bool n,.sl (canon y).length 1 (natG .u32 (canon y))],.box [.bool n_4.1,.sl (canon n_4.2).length 1 (natG .u32 (canon n_4.2))]])) (.ex (fun(x_1:Nat×Nat)=>eqL [AV.sl (canon x).length 1 (natG .u32 (canon x)),AV.sl (canon y).length 1 (natG .u32 (canon y))] [AV.sl (canon x_1.1).length 1 (natG .u32 (canon x_1.1)),AV.sl (canon x_1.2).length 1 (natG .u32 (canon x_1.2))]∧fits x_1.1∧fits x_1.2) fun n_1=>.all (fun(r:Int)=>r=cmp3 n_1.1 n_1.2) fun n_2=>.ite (decide ((0:Int)≤n_2)) (.ex (fun(x_1:Nat×Nat)=>eqL [AV.sl (canon x).length 1 (natG .u32 (canon x)),AV.sl (canon y).length 1 (natG .u32 (canon y))] [AV.sl (canon x_1.1).length 1 (natG .u32 (canon x_1.1)),AV.sl (canon x_1.2).length 1 (natG .u32 (canon x_1.2))]∧fits x_1.1∧x_1.2≤x_1.1) fun n_3=>.all (fun(d:Nat)=>d=n_3.1 - n_3.2) fun n_4=>.ex (fun(x:Bool×Nat)=>eqL [AV.bool m,AV.sl (canon n_4).length 1 (natG .u32 (canon n_4))] [AV.bool x.1,AV.sl (canon x.2).length 1 (natG .u32 (canon x.2))]∧True) fun n_5=>.all (fun(r:Bool×Nat)=>r=(n_5.1&&decide (0<n_5.2),n_5.2)) fun n_6=>.leaf (.ret [.agg [.bool n_6.1,.sl (canon n_6.2).length 1 (natG .u32 (canon n_6.2))]] [.box [.bool m,.sl (canon x).length 1 (natG .u32 (canon x))],.box [.bool n,.sl (canon y).length 1 (natG .u32 (canon y))],.box [.bool n_6.1,.sl (canon n_6.2).length 1 (natG .u32 (canon n_6.2))]])) (.ex (fun(x_1:Nat×Nat)=>eqL [AV.sl (canon y).length 1 (natG .u32 (canon y)),AV.sl (canon x).length 1 (natG .u32 (canon x))] [AV.sl (canon x_1.1).length 1 (natG .u32 (canon x_1.1)),AV.sl (canon x_1.2).length 1 (natG .u32 (canon x_1.2))]∧fits x_1.1∧x_1.2≤x_1.1) fun n_3=>.all (fun(d:Nat)=>d=n_3.1 - n_3.2) fun n_4=>.ex (fun(x:Bool×Nat)=>eqL [AV.bool n,AV.sl (canon n_4).length 1 (natG .u32 (canon n_4))] [AV.bool x.1,AV.sl (canon x.2).length 1 (natG .u32 (canon x.2))]∧True) fun n_5=>.all (fun(r:Bool×Nat)=>r=(n_5.1&&decide (0<n_5.2),n_5.2)) fun n_6=>.leaf (.ret [.agg [.bool n_6.1,.sl (canon n_6.2).length 1 (natG .u32 (canon n_6.2))]] [.box [.bool m,.sl (canon x).length 1 (natG .u32 (canon x))],.box [.bool n,.sl (canon y).length 1 (natG .u32 (canon y))],.box [.bool n_6.1,.sl (canon n_6.2).length 1 (natG .u32 (canon n_6.2))]])))) (by kernel_rfl) ?_
 simp only [Tree.holds,zd]
 have eL:∀ a b:Nat,eqL [AV.sl (canon a).length 1 (natG .u32 (canon a)),AV.sl (canon b).length 1 (natG .u32 (canon b))] [AV.sl (canon a).length 1 (natG .u32 (canon a)),AV.sl (canon b).length 1 (natG .u32 (canon b))]:=fun a b=>⟨⟨rfl,rfl,za _ _ _⟩,⟨rfl,rfl,za _ _ _⟩,trivial⟩
 have eK:∀ (b:Bool) (a:Nat),eqL [AV.bool b,AV.sl (canon a).length 1 (natG .u32 (canon a))] [AV.bool b,AV.sl (canon a).length 1 (natG .u32 (canon a))]:=fun b a=>⟨rfl,⟨rfl,rfl,za _ _ _⟩,trivial⟩
 have hcm:∀ v,v=cmp3 x y→(0≤v↔y≤x):=by
  rintro v rfl
  unfold cmp3
  split
  ·exact⟨fun h=>by omega,fun h=>by omega⟩
  ·split
   ·exact⟨fun h=>by omega,fun h=>by omega⟩
   ·exact⟨fun h=>by omega,fun h=>by omega⟩
 refine⟨fun h=> ?_,fun h=>⟨(x,y),⟨eL x y,by show(canon x).length<_; omega,by show(canon y).length<_; omega⟩,⟨_,rfl⟩,?_⟩⟩
 ·have h:m=n:=by simpa using h
  refine⟨(x,y),⟨eL x y,h1,h2⟩,⟨_,rfl⟩,?_⟩
  rintro _ rfl
  refine⟨(m,x+y),⟨eK m _,trivial⟩,⟨_,rfl⟩,?_⟩
  rintro _ rfl
  have e:sumS m x n y=(m,x+y):=if_pos h
  rw [e] at hq
  exact RetR.numV rfl hq
 ·have h:¬ m=n:=by simpa using h
  intro v hv
  have hv:=hcm v hv
  refine⟨fun g=> ?_,fun g=> ?_⟩
  ·have g:y≤x:=hv.1 (of_decide_eq_true g)
   refine⟨(x,y),⟨eL x y,by show(canon x).length<_; omega,g⟩,⟨_,rfl⟩,?_⟩
   rintro _ rfl
   refine⟨(m,x - y),⟨eK m _,trivial⟩,⟨_,rfl⟩,?_⟩
   rintro _ rfl
   have e:sumS m x n y=(m,x - y):=by rw [sumS,if_neg h,if_pos g]
   rw [e] at hq
   exact RetR.numV rfl hq
  ·have g:¬ y≤x:=fun h3=>of_decide_eq_false g (hv.2 h3)
   refine⟨(y,x),⟨eL y x,by show(canon y).length<_; omega,by show x≤y; omega⟩,⟨_,rfl⟩,?_⟩
   rintro _ rfl
   refine⟨(n,y - x),⟨eK n _,trivial⟩,⟨_,rfl⟩,?_⟩
   rintro _ rfl
   have e:sumS m x n y=(n,y - x):=by rw [sumS,if_neg h,if_neg g]
   rw [e] at hq
   exact RetR.numV rfl hq
theorem qt{x n:Nat}(h:x<B^n)(hn:n<100000):(canon x).length<100000:=by have:=zz h; omega
theorem jy{s:List UInt8}(h:errI s=0):numI s<B^112:=jG.2 (yA h)
theorem zdy{x y:Nat}(hx:x<B^112)(hy:y<B^112):x+y<B^113∧x*y<B^224:=by
 constructor
 ·have:B^113=B^112*B:=Nat.pow_succ B 112
  have hB:B=1000000000:=rfl
  generalize B^112=p at *
  rw [this,hB]; omega
 ·have:B^224=B^112*B^112:=by rw [← Nat.pow_add]
  rw [this]
  exact Nat.mul_lt_mul_of_lt_of_lt hx hy
noncomputable def GAd:Nat→Option Ctr:=fun f=>if f=131 then some (ZB) else if f=157 then some (sumC) else if f=132 then some (QR) else if f=133 then some (YB) else if f=134 then some (yX) else none
theorem Ud:∀ g c,GAd g=some c→zc Tryz.prog g c:=okIf V1 (okIf zo0 (okIf Js (okIf K7 (okIf yu (zq)))))
def addC:Ctr:=ctrP true (fun p:List UInt8×List UInt8=>[.str p.1,.str p.2]) (fun p=>p.1.length<2^62∧p.2.length<2^62) (fun p r=>r=addI p.1 p.2) (fun _ r=>(.tup [.str r.1,.int .i64 r.2],[]))
def mulC:Ctr:=ctrP true (fun p:List UInt8×List UInt8=>[.str p.1,.str p.2]) (fun p=>p.1.length<2^62∧p.2.length<2^62) (fun p r=>r=mulI p.1 p.2) (fun _ r=>(.tup [.str r.1,.int .i64 r.2],[]))
def zlh:Ctr:=ctrP true (fun p:List UInt8×List UInt8=>[.str p.1,.str p.2]) (fun p=>p.1.length<2^62∧p.2.length<2^62) (fun p r=>r=ZC p.1 p.2) (fun _ r=>(.tup [.int .i64 r.1,.int .i64 r.2],[]))
theorem znk:zc Tryz.prog 143 addC:=by
 refine ze (fn:=Tryz.f143) (c:=Tryz.f143.body.getD .skip) rfl rfl rfl fun p hp O w0 Q hq=> ?_
 obtain⟨s,t⟩:=p
 obtain⟨hs,ht⟩:=hp
 replace hq:=hq _ rfl
 simp only at hs ht hq
 refine zb.run hmix Ud [] 400 (T:=.ex (fun(x:List UInt8×List UInt8)=>eqL [AV.str s,AV.str t] [AV.str x.1,AV.str x.2]∧x.1.length<4611686018427387904∧x.2.length<4611686018427387904) fun n=>.all (fun(r:Int×(Bool×Nat)×Bool×Nat)=>r=if z6 n.1 n.2=0 then((0:Int),(negI n.1,numI n.1),negI n.2,numI n.2) else(z6 n.1 n.2,(false,0),false,0)) fun n=>.ite (!decide (n.1=0)) (.leaf (.ret [.str #[].toList,.int .i64 n.1] [.box [.bool n.2.1.1,.sl (canon n.2.1.2).length 1 (natG .u32 (canon n.2.1.2))],.box [.bool n.2.2.1,.sl (canon n.2.2.2).length 1 (natG .u32 (canon n.2.2.2))]])) (.ex (fun(x:(Bool×Nat)×Bool×Nat)=>eqL [AV.agg [AV.bool n.2.1.1,AV.sl (canon n.2.1.2).length 1 (natG .u32 (canon n.2.1.2))],AV.agg [AV.bool n.2.2.1,AV.sl (canon n.2.2.2).length 1 (natG .u32 (canon n.2.2.2))]] [AV.agg [AV.bool x.1.1,AV.sl (canon x.1.2).length 1 (natG .u32 (canon x.1.2))],AV.agg [AV.bool x.2.1,AV.sl (canon x.2.2).length 1 (natG .u32 (canon x.2.2))]]∧List.length (canon x.1.2)<100000∧List.length (canon x.2.2)<100000) fun n_1=>.all (fun(r:Bool×Nat)=>r=(Prod.fst (sumS n_1.1.1 n_1.1.2 n_1.2.1 n_1.2.2)&&decide (0<Prod.snd (sumS n_1.1.1 n_1.1.2 n_1.2.1 n_1.2.2)),Prod.snd (sumS n_1.1.1 n_1.1.2 n_1.2.1 n_1.2.2))) fun n_2=>.ex (fun(x:Bool×Nat)=>eqL [AV.agg [AV.bool n_2.1,AV.sl (canon n_2.2).length 1 (natG .u32 (canon n_2.2))]] [AV.agg [AV.bool x.1,AV.sl (canon x.2).length 1 (natG .u32 (canon x.2))]]∧List.length (canon x.2)<1000000) fun n_3=>.all (fun(r:List UInt8×Int)=>r=wr n_3.1 n_3.2) fun n_4=>.leaf (.ret [.str n_4.1,.int .i64 n_4.2] [.box [.bool n.2.1.1,.sl (canon n.2.1.2).length 1 (natG .u32 (canon n.2.1.2))],.box [.bool n.2.2.1,.sl (canon n.2.2.2).length 1 (natG .u32 (canon n.2.2.2))]]))) (by kernel_rfl) ?_
 simp only [Tree.holds,zd]
 refine⟨(s,t),⟨by simp,by omega,by omega⟩,⟨_,rfl⟩,?_⟩
 rintro _ rfl
 simp only
 by_cases he:z6 s t=0
 ·obtain⟨e1,e2⟩:=zm.1 he
  obtain⟨b1,b2⟩:=zdy (jy e1) (jy e2)
  have c1:=qt (jy e1) (by decide)
  have c2:=qt (jy e2) (by decide)
  simp only [if_pos he]
  refine⟨fun h=>(by simp at h),fun _=> ?_⟩
  refine⟨((negI s,numI s),(negI t,numI t)),⟨⟨⟨rfl,⟨rfl,rfl,za _ _ _⟩,trivial⟩,⟨rfl,⟨rfl,rfl,za _ _ _⟩,trivial⟩,trivial⟩,c1,c2⟩,⟨_,rfl⟩,?_⟩
  rintro _ rfl
  refine⟨((sumS (negI s) (numI s) (negI t) (numI t)).1&&decide (0<(sumS (negI s) (numI s) (negI t) (numI t)).2),(sumS (negI s) (numI s) (negI t) (numI t)).2),⟨⟨⟨rfl,⟨rfl,rfl,za _ _ _⟩,trivial⟩,trivial⟩,?_⟩,⟨_,rfl⟩,?_⟩
  ·have:=qt (Nat.lt_of_le_of_lt (zjr (negI s) (numI s) (negI t) (numI t)) b1) (by decide)
   show(canon (sumS (negI s) (numI s) (negI t) (numI t)).2).length<1000000
   omega
  rintro _ rfl
  rw [zjx]
  have e:addI s t=wr (sumS (negI s) (numI s) (negI t) (numI t)).1 (sumS (negI s) (numI s) (negI t) (numI t)).2:=if_pos he
  rw [e] at hq
  exact RetR.scal hq rfl (by simp [resV])
 ·simp only [if_neg he]
  refine⟨fun _=> ?_,fun h=>(by simp [he] at h)⟩
  have e:addI s t=([],z6 s t):=if_neg he
  rw [e] at hq
  exact RetR.scal hq rfl (by simp [resV])
theorem zn0:zc Tryz.prog 92 mulC:=by
 refine ze (fn:=Tryz.f92) (c:=Tryz.f92.body.getD .skip) rfl rfl rfl fun p hp O w0 Q hq=> ?_
 obtain⟨s,t⟩:=p
 obtain⟨hs,ht⟩:=hp
 replace hq:=hq _ rfl
 simp only at hs ht hq
 refine zb.run hmix Ud [] 400 (T:=.ex (fun(x:List UInt8×List UInt8)=>eqL [AV.str s,AV.str t] [AV.str x.1,AV.str x.2]∧x.1.length<4611686018427387904∧x.2.length<4611686018427387904) fun n=>.all (fun(r:Int×(Bool×Nat)×Bool×Nat)=>r=if z6 n.1 n.2=0 then((0:Int),(negI n.1,numI n.1),negI n.2,numI n.2) else(z6 n.1 n.2,(false,0),false,0)) fun n=>.ite (!decide (n.1=0)) (.leaf (.ret [.str #[].toList,.int .i64 n.1] [.box [.bool n.2.1.1,.sl (canon n.2.1.2).length 1 (natG .u32 (canon n.2.1.2))],.box [.bool n.2.2.1,.sl (canon n.2.2.2).length 1 (natG .u32 (canon n.2.2.2))]])) (.ex (fun(x:Nat×Nat)=>eqL [AV.sl (canon n.2.1.2).length 1 (natG .u32 (canon n.2.1.2)),AV.sl (canon n.2.2.2).length 1 (natG .u32 (canon n.2.2.2))] [AV.sl (canon x.1).length 1 (natG .u32 (canon x.1)),AV.sl (canon x.2).length 1 (natG .u32 (canon x.2))]∧fits x.1∧fits x.2) fun n_1=>.all (fun(p:Nat)=>p=n_1.1*n_1.2) fun n_2=>.ex (fun(x:Bool×Nat)=>eqL [AV.agg [AV.bool !Prod.fst n.2.1 == n.2.2.1,AV.sl (canon n_2).length 1 (zg (natG .u32 (padN (List.length (canon n_1.1)+List.length (canon n_1.2)) n_2)) 0)]] [AV.agg [AV.bool x.1,AV.sl (canon x.2).length 1 (natG .u32 (canon x.2))]]∧List.length (canon x.2)<1000000) fun n_3=>.all (fun(r:List UInt8×Int)=>r=wr n_3.1 n_3.2) fun n_4=>.leaf (.ret [.str n_4.1,.int .i64 n_4.2] [.box [.bool n.2.1.1,.sl (canon n.2.1.2).length 1 (natG .u32 (canon n.2.1.2))],.box [.bool n.2.2.1,.sl (canon n.2.2.2).length 1 (natG .u32 (canon n.2.2.2))],.arr (List.length (canon n_1.1)+List.length (canon n_1.2)) 1 (natG .u32 (padN (List.length (canon n_1.1)+List.length (canon n_1.2)) n_2))]))) (by kernel_rfl) ?_
 simp only [Tree.holds,zd]
 refine⟨(s,t),⟨by simp,by omega,by omega⟩,⟨_,rfl⟩,?_⟩
 rintro _ rfl
 simp only
 by_cases he:z6 s t=0
 ·obtain⟨e1,e2⟩:=zm.1 he
  obtain⟨b1,b2⟩:=zdy (jy e1) (jy e2)
  have c1:=qt (jy e1) (by decide)
  have c2:=qt (jy e2) (by decide)
  simp only [if_pos he]
  refine⟨fun h=>(by simp at h),fun _=> ?_⟩
  refine⟨(numI s,numI t),⟨⟨⟨rfl,rfl,za _ _ _⟩,⟨rfl,rfl,za _ _ _⟩,trivial⟩,by show(canon (numI s)).length<1000000; omega,by show(canon (numI t)).length<1000000; omega⟩,⟨_,rfl⟩,?_⟩
  rintro _ rfl
  refine⟨(negI s != negI t,numI s*numI t),⟨⟨⟨rfl,⟨rfl,rfl,fun j o hj ho=>by simp only [zg,natG,Nat.zero_add,padN,yB hj]⟩,trivial⟩,trivial⟩,?_⟩,⟨_,rfl⟩,?_⟩
  ·have:=qt b2 (by decide)
   show(canon (numI s*numI t)).length<1000000
   omega
  rintro _ rfl
  have e:mulI s t=wr (negI s != negI t) (numI s*numI t):=if_pos he
  rw [e] at hq
  exact RetR.scal hq rfl (by simp [resV])
 ·simp only [if_neg he]
  refine⟨fun _=> ?_,fun h=>(by simp [he] at h)⟩
  have e:mulI s t=([],z6 s t):=if_neg he
  rw [e] at hq
  exact RetR.scal hq rfl (by simp [resV])
theorem zl1:zc Tryz.prog 93 zlh:=by
 refine ze (fn:=Tryz.f93) (c:=Tryz.f93.body.getD .skip) rfl rfl rfl fun p hp O w0 Q hq=> ?_
 obtain⟨s,t⟩:=p
 obtain⟨hs,ht⟩:=hp
 replace hq:=hq _ rfl
 simp only at hs ht hq
 refine zb.run hmix Ud [] 400 (T:=.ex (fun(x:List UInt8×List UInt8)=>eqL [AV.str s,AV.str t] [AV.str x.1,AV.str x.2]∧x.1.length<4611686018427387904∧x.2.length<4611686018427387904) fun n=>.all (fun(r:Int×(Bool×Nat)×Bool×Nat)=>r=if z6 n.1 n.2=0 then((0:Int),(negI n.1,numI n.1),negI n.2,numI n.2) else(z6 n.1 n.2,(false,0),false,0)) fun n=>.ite (!decide (n.1=0)) (.leaf (.ret [.int .i64 0,.int .i64 n.1] [.box [.bool n.2.1.1,.sl (canon n.2.1.2).length 1 (natG .u32 (canon n.2.1.2))],.box [.bool n.2.2.1,.sl (canon n.2.2.2).length 1 (natG .u32 (canon n.2.2.2))]])) (.ite (bif n.2.1.1 then !Prod.fst n.2.2 else false) (.leaf (.ret [.int .i64 (-1:Int),.int .i64 0] [.box [.bool n.2.1.1,.sl (canon n.2.1.2).length 1 (natG .u32 (canon n.2.1.2))],.box [.bool n.2.2.1,.sl (canon n.2.2.2).length 1 (natG .u32 (canon n.2.2.2))]])) (.ite (bif n.2.2.1 then !Prod.fst n.2.1 else false) (.leaf (.ret [.int .i64 1,.int .i64 0] [.box [.bool n.2.1.1,.sl (canon n.2.1.2).length 1 (natG .u32 (canon n.2.1.2))],.box [.bool n.2.2.1,.sl (canon n.2.2.2).length 1 (natG .u32 (canon n.2.2.2))]])) (.ite n.2.1.1 (.ex (fun(x:Nat×Nat)=>eqL [AV.sl (canon n.2.2.2).length 1 (natG .u32 (canon n.2.2.2)),AV.sl (canon n.2.1.2).length 1 (natG .u32 (canon n.2.1.2))] [AV.sl (canon x.1).length 1 (natG .u32 (canon x.1)),AV.sl (canon x.2).length 1 (natG .u32 (canon x.2))]∧fits x.1∧fits x.2) fun n_1=>.all (fun(r:Int)=>r=cmp3 n_1.1 n_1.2) fun n_2=>.leaf (.ret [.int .i64 n_2,.int .i64 0] [.box [.bool n.2.1.1,.sl (canon n.2.1.2).length 1 (natG .u32 (canon n.2.1.2))],.box [.bool n.2.2.1,.sl (canon n.2.2.2).length 1 (natG .u32 (canon n.2.2.2))]])) (.ex (fun(x:Nat×Nat)=>eqL [AV.sl (canon n.2.1.2).length 1 (natG .u32 (canon n.2.1.2)),AV.sl (canon n.2.2.2).length 1 (natG .u32 (canon n.2.2.2))] [AV.sl (canon x.1).length 1 (natG .u32 (canon x.1)),AV.sl (canon x.2).length 1 (natG .u32 (canon x.2))]∧fits x.1∧fits x.2) fun n_1=>.all (fun(r:Int)=>r=cmp3 n_1.1 n_1.2) fun n_2=>.leaf (.ret [.int .i64 n_2,.int .i64 0] [.box [.bool n.2.1.1,.sl (canon n.2.1.2).length 1 (natG .u32 (canon n.2.1.2))],.box [.bool n.2.2.1,.sl (canon n.2.2.2).length 1 (natG .u32 (canon n.2.2.2))]])))))) (by kernel_rfl) ?_
 simp only [Tree.holds,zd]
 refine⟨(s,t),⟨by simp,by omega,by omega⟩,⟨_,rfl⟩,?_⟩
 rintro _ rfl
 simp only
 by_cases he:z6 s t=0
 ·obtain⟨e1,e2⟩:=zm.1 he
  obtain⟨b1,b2⟩:=zdy (jy e1) (jy e2)
  have c1:=qt (jy e1) (by decide)
  have c2:=qt (jy e2) (by decide)
  simp only [if_pos he]
  refine⟨fun h=>(by simp at h),fun _=> ?_⟩
  have e:ZC s t=(cmpZ (negI s) (numI s) (negI t) (numI t),0):=if_pos he
  rw [e] at hq
  have ec:∀ a b:Nat,cmp3 a b=cmpN a b:=fun _ _=>rfl
  simp only [cmpZ] at hq
  have f1:fits (numI s):=by show(canon (numI s)).length<1000000; omega
  have f2:fits (numI t):=by show(canon (numI t)).length<1000000; omega
  refine⟨fun h=> ?_,fun h1=>⟨fun h=> ?_,fun h2=>⟨fun h=>⟨(numI t,numI s),⟨⟨⟨rfl,rfl,za _ _ _⟩,⟨rfl,rfl,za _ _ _⟩,trivial⟩,f2,f1⟩,⟨_,rfl⟩,?_⟩,fun h=>⟨(numI s,numI t),⟨⟨⟨rfl,rfl,za _ _ _⟩,⟨rfl,rfl,za _ _ _⟩,trivial⟩,f1,f2⟩,⟨_,rfl⟩,?_⟩⟩⟩⟩
  ·cases hm:negI s<;>cases hn:negI t<;>rw [hm,hn] at h hq<;>first | (cases h; done) | exact RetR.scal hq rfl (by simp [resV])
  ·cases hm:negI s<;>cases hn:negI t<;>rw [hm,hn] at h h1 hq<;>first | (cases h; done) | (cases h1; done) | exact RetR.scal hq rfl (by simp [resV])
  ·rintro _ rfl
   rw [ec]
   cases hm:negI s<;>cases hn:negI t<;>rw [hm,hn] at h1 h2 hq<;>rw [hm] at h<;>first | (cases h; done) | (cases h1; done) | (cases h2; done) | exact RetR.scal hq rfl (by simp [resV])
  ·rintro _ rfl
   rw [ec]
   cases hm:negI s<;>cases hn:negI t<;>rw [hm,hn] at h1 h2 hq<;>rw [hm] at h<;>first | (cases h; done) | (cases h1; done) | (cases h2; done) | exact RetR.scal hq rfl (by simp [resV])
 ·simp only [if_neg he]
  refine⟨fun _=> ?_,fun h=>(by simp [he] at h)⟩
  have e:ZC s t=(0,z6 s t):=if_neg he
  rw [e] at hq
  exact RetR.scal hq rfl (by simp [resV])
def dmC:Ctr:=ctrP true (fun p:List UInt8×List UInt8=>[.str p.1,.str p.2]) (fun p=>p.1.length<2^62∧p.2.length<2^62) (fun p r=>r=dmI p.1 p.2) (fun _ r=>(.tup [.str r.1,.str r.2.1,.int .i64 r.2.2],[]))
noncomputable def GDm:Nat→Option Ctr:=fun f=>if f=131 then some (ZB) else if f=137 then some (uh) else if f=164 then some (zao) else if f=152 then some (V2) else if f=132 then some (QR) else none
theorem zn9:∀ g c,GDm g=some c→zc Tryz.prog g c:=okIf V1 (okIf Wz (okIf UY (okIf Jd (okIf Js (zq)))))
theorem zcr:zc Tryz.prog 162 dmC:=by
 refine ze (fn:=Tryz.f162) (c:=Tryz.f162.body.getD .skip) rfl rfl rfl fun p hp O w0 Q hq=> ?_
 obtain⟨s,t⟩:=p
 obtain⟨hs,ht⟩:=hp
 replace hq:=hq _ rfl
 simp only at hs ht hq
 refine zb.run hmix zn9 [] 400 (T:=.ex (fun(x:List UInt8×List UInt8)=>eqL [AV.str s,AV.str t] [AV.str x.1,AV.str x.2]∧x.1.length<4611686018427387904∧x.2.length<4611686018427387904) fun n=>.all (fun(r:Int×(Bool×Nat)×Bool×Nat)=>r=if z6 n.1 n.2=0 then((0:Int),(negI n.1,numI n.1),negI n.2,numI n.2) else(z6 n.1 n.2,(false,0),false,0)) fun n=>.ite (!decide (n.1=0)) (.leaf (.ret [.str #[].toList,.str #[].toList,.int .i64 n.1] [.box [.bool n.2.1.1,.sl (canon n.2.1.2).length 1 (natG .u32 (canon n.2.1.2))],.box [.bool n.2.2.1,.sl (canon n.2.2.2).length 1 (natG .u32 (canon n.2.2.2))]])) (.ite (decide ((↑(canon n.2.2.2).length:Int)=0)) (.leaf (.ret [.str #[].toList,.str #[].toList,.int .i64 16] [.box [.bool n.2.1.1,.sl (canon n.2.1.2).length 1 (natG .u32 (canon n.2.1.2))],.box [.bool n.2.2.1,.sl (canon n.2.2.2).length 1 (natG .u32 (canon n.2.2.2))]])) (.ex (fun(x:Nat×Nat)=>eqL [AV.sl (canon n.2.1.2).length 1 (natG .u32 (canon n.2.1.2)),AV.sl (canon n.2.2.2).length 1 (natG .u32 (canon n.2.2.2))] [AV.sl (canon x.1).length 1 (natG .u32 (canon x.1)),AV.sl (canon x.2).length 1 (natG .u32 (canon x.2))]∧List.length (canon x.1)<100000∧List.length (canon x.2)<100000∧0<x.2) fun n_1=>.all (fun(r:Nat×Nat)=>r=(n_1.1/n_1.2,n_1.1%n_1.2)) fun n_2=>.ite (bif n.2.1.1 then decide ((0:Int)<(↑(canon n_2.2).length:Int)) else false) (.ex (fun(x:Nat×Nat)=>eqL [AV.sl (canon n_2.1).length 1 (natG .u32 (canon n_2.1)),AV.sl 1 1 (zg (zh 1 [AV.int .u32 1]) 0)] [AV.sl (canon x.1).length 1 (natG .u32 (canon x.1)),AV.sl (canon x.2).length 1 (natG .u32 (canon x.2))]∧List.length (canon x.1)<100000∧List.length (canon x.2)<100000) fun n_3=>.all (fun(d:Nat)=>d=n_3.1+n_3.2) fun n_4=>.ex (fun(x:Nat×Nat)=>eqL [AV.sl (canon n.2.2.2).length 1 (natG .u32 (canon n.2.2.2)),AV.sl (canon n_2.2).length 1 (natG .u32 (canon n_2.2))] [AV.sl (canon x.1).length 1 (natG .u32 (canon x.1)),AV.sl (canon x.2).length 1 (natG .u32 (canon x.2))]∧fits x.1∧x.2≤x.1) fun n_5=>.all (fun(d:Nat)=>d=n_5.1 - n_5.2) fun n_6=>.ex (fun(x:Bool×Nat)=>eqL [AV.agg [AV.bool !Prod.fst n.2.1 == n.2.2.1,AV.sl (canon n_4).length 1 (natG .u32 (canon n_4))]] [AV.agg [AV.bool x.1,AV.sl (canon x.2).length 1 (natG .u32 (canon x.2))]]∧List.length (canon x.2)<1000000) fun n_7=>.all (fun(r:List UInt8×Int)=>r=wr n_7.1 n_7.2) fun n_8=>.ite (!decide (n_8.2=0)) (.leaf (.ret [.str #[].toList,.str #[].toList,.int .i64 n_8.2] [.box [.bool n.2.1.1,.sl (canon n.2.1.2).length 1 (natG .u32 (canon n.2.1.2))],.box [.bool n.2.2.1,.sl (canon n.2.2.2).length 1 (natG .u32 (canon n.2.2.2))],.arr 1 1 (zh 1 [.int .u32 1])])) (.ex (fun(x:Bool×Nat)=>eqL [AV.agg [AV.bool false,AV.sl (canon n_6).length 1 (natG .u32 (canon n_6))]] [AV.agg [AV.bool x.1,AV.sl (canon x.2).length 1 (natG .u32 (canon x.2))]]∧List.length (canon x.2)<1000000) fun n_9=>.all (fun(r:List UInt8×Int)=>r=wr n_9.1 n_9.2) fun n_10=>.leaf (.ret [.str n_8.1,.str n_10.1,.int .i64 0] [.box [.bool n.2.1.1,.sl (canon n.2.1.2).length 1 (natG .u32 (canon n.2.1.2))],.box [.bool n.2.2.1,.sl (canon n.2.2.2).length 1 (natG .u32 (canon n.2.2.2))],.arr 1 1 (zh 1 [.int .u32 1])]))) (.ex (fun(x:Bool×Nat)=>eqL [AV.agg [AV.bool !Prod.fst n.2.1 == n.2.2.1,AV.sl (canon n_2.1).length 1 (natG .u32 (canon n_2.1))]] [AV.agg [AV.bool x.1,AV.sl (canon x.2).length 1 (natG .u32 (canon x.2))]]∧List.length (canon x.2)<1000000) fun n_3=>.all (fun(r:List UInt8×Int)=>r=wr n_3.1 n_3.2) fun n_4=>.ite (!decide (n_4.2=0)) (.leaf (.ret [.str #[].toList,.str #[].toList,.int .i64 n_4.2] [.box [.bool n.2.1.1,.sl (canon n.2.1.2).length 1 (natG .u32 (canon n.2.1.2))],.box [.bool n.2.2.1,.sl (canon n.2.2.2).length 1 (natG .u32 (canon n.2.2.2))]])) (.ex (fun(x:Bool×Nat)=>eqL [AV.agg [AV.bool false,AV.sl (canon n_2.2).length 1 (natG .u32 (canon n_2.2))]] [AV.agg [AV.bool x.1,AV.sl (canon x.2).length 1 (natG .u32 (canon x.2))]]∧List.length (canon x.2)<1000000) fun n_5=>.all (fun(r:List UInt8×Int)=>r=wr n_5.1 n_5.2) fun n_6=>.leaf (.ret [.str n_4.1,.str n_6.1,.int .i64 0] [.box [.bool n.2.1.1,.sl (canon n.2.1.2).length 1 (natG .u32 (canon n.2.1.2))],.box [.bool n.2.2.1,.sl (canon n.2.2.2).length 1 (natG .u32 (canon n.2.2.2))]])))))) (by kernel_rfl) ?_
 simp only [Tree.holds,zd]
 refine⟨(s,t),⟨by simp,by omega,by omega⟩,⟨_,rfl⟩,?_⟩
 rintro _ rfl
 simp only
 by_cases he:z6 s t=0
 ·obtain⟨e1,e2⟩:=zm.1 he
  have c1:=qt (jy e1) (by decide)
  have c2:=qt (jy e2) (by decide)
  simp only [if_pos he]
  refine⟨fun h=>(by simp at h),fun _=> ?_⟩
  refine⟨fun h0=> ?_,fun h0=> ?_⟩
  ·have h0:numI t=0:=yc.1 (by have:=of_decide_eq_true h0; omega)
   have e:dmI s t=([],[],16):=by rw [dmI,if_neg (by rw [he]; decide),if_pos h0]
   rw [e] at hq
   exact RetR.scal hq rfl (by simp [resV])
  have h0:numI t≠0:=fun h=>of_decide_eq_false h0 (by rw [yc.2 h]; rfl)
  have e:dmI s t=((wr (negI s != negI t) (dmQ s t)).1,(wr false (dmM s t)).1,0):=by rw [dmI,if_neg (by rw [he]; decide),if_neg h0]
  rw [e] at hq
  have rq:=zfh e1 h0
  have rm:=zhs (s:=s) e2 h0
  have eL:∀ a b:Nat,eqL [AV.sl (canon a).length 1 (natG .u32 (canon a)),AV.sl (canon b).length 1 (natG .u32 (canon b))] [AV.sl (canon a).length 1 (natG .u32 (canon a)),AV.sl (canon b).length 1 (natG .u32 (canon b))]:=fun a b=>⟨⟨rfl,rfl,za _ _ _⟩,⟨rfl,rfl,za _ _ _⟩,trivial⟩
  have eV:∀ (b:Bool) (a:Nat),eqL [.agg [AV.bool b,AV.sl (canon a).length 1 (natG .u32 (canon a))]] [.agg [AV.bool b,AV.sl (canon a).length 1 (natG .u32 (canon a))]]:=fun b a=>⟨⟨rfl,⟨rfl,rfl,za _ _ _⟩,trivial⟩,trivial⟩
  have big:∀ {a:Nat},room a→(canon a).length<1000000:=fun {a} h=>by
   obtain⟨h3,h4,_⟩:=Jc (kn (neg:=false) h)
   have:=qt (jy h3) (by decide)
   rw [h4] at this; omega
  refine⟨(numI s,numI t),⟨eL _ _,c1,c2,Nat.pos_of_ne_zero h0⟩,⟨_,rfl⟩,?_⟩
  rintro _ rfl
  simp only
  rw [Kn]
  have hmod:=Nat.mod_lt (numI s) (Nat.pos_of_ne_zero h0)
  refine⟨fun hc=> ?_,fun hc=> ?_⟩
  ·have hc:negI s=true∧0<numI s%numI t:=by
    cases hn:negI s with
    | false=>rw [hn] at hc; cases hc
    | true=>rw [hn] at hc; exact⟨rfl,of_decide_eq_true hc⟩
   have eQ:dmQ s t=numI s/numI t+1:=if_pos hc
   have eM:dmM s t=numI t - numI s%numI t:=if_pos hc
   rw [eQ,eM] at hq
   rw [eQ] at rq
   rw [eM] at rm
   have hone:canon 1=[1]:=by
    rw [qR (by decide)]
    exact congrArg (1 :: ·) zN
   have rdiv:=room_le (Nat.div_le_self (numI s) (numI t)) (j1 e1)
   have hdl:(canon (numI s/numI t)).length<100000:=by
    have:=qt (Nat.lt_of_le_of_lt (Nat.div_le_self (numI s) (numI t)) (jy e1)) (by decide)
    exact this
   refine⟨(numI s/numI t,1),⟨⟨⟨rfl,rfl,za _ _ _⟩,⟨by rw [hone]; rfl,rfl,?_⟩,trivial⟩,hdl,by show(canon 1).length<100000; rw [hone]; decide⟩,⟨_,rfl⟩,?_⟩
   ·intro j o hj ho
    have:j=0:=by omega
    subst this
    have:o=0:=by omega
    subst this
    show AV.int .u32 1 = .int .u32 (((canon 1).getD 0 0:Nat):Int)
    rw [hone]; rfl
   rintro _ rfl
   refine⟨(numI t,numI s%numI t),⟨eL _ _,by show(canon (numI t)).length<1000000; omega,by show numI s%numI t≤numI t; omega⟩,⟨_,rfl⟩,?_⟩
   rintro _ rfl
   refine⟨(negI s != negI t,numI s/numI t+1),⟨eV _ _,big rq⟩,⟨_,rfl⟩,?_⟩
   rintro _ rfl
   have hz:=kn (neg:=(negI s != negI t)) rq
   refine⟨fun h=>by simp [hz] at h,fun _=>⟨(false,numI t - numI s%numI t),⟨eV _ _,big rm⟩,⟨_,rfl⟩,?_⟩⟩
   rintro _ rfl
   exact RetR.scal hq rfl (by simp [resV])
  ·have hc:¬ (negI s=true∧0<numI s%numI t):=by
    rintro⟨g1,g2⟩
    rw [g1,decide_eq_true g2] at hc
    cases hc
   have eQ:dmQ s t=numI s/numI t:=if_neg hc
   have eM:dmM s t=numI s%numI t:=if_neg hc
   rw [eQ,eM] at hq
   rw [eQ] at rq
   rw [eM] at rm
   refine⟨(negI s != negI t,numI s/numI t),⟨eV _ _,big rq⟩,⟨_,rfl⟩,?_⟩
   rintro _ rfl
   have hz:=kn (neg:=(negI s != negI t)) rq
   refine⟨fun h=>by simp [hz] at h,fun _=>⟨(false,numI s%numI t),⟨eV _ _,big rm⟩,⟨_,rfl⟩,?_⟩⟩
   rintro _ rfl
   exact RetR.scal hq rfl (by simp [resV])
 ·simp only [if_neg he]
  refine⟨fun _=> ?_,fun h=>(by simp [he] at h)⟩
  have e:dmI s t=([],[],z6 s t):=if_pos he
  rw [e] at hq
  exact RetR.scal hq rfl (by simp [resV])
def ze8:Ctr:=ctrP true (fun s:List UInt8=>[.str s]) (fun s=>s.length<2^62) (fun s r=>r=if errR s=0 then(numR s,denR s,0) else([],[],errR s)) (fun _ (r:List UInt8×List UInt8×Int)=>(.tup [.str r.1,.str r.2.1,.int .i64 r.2.2],[]))
noncomputable def GPa:Nat→Option Ctr:=fun f=>if f=50 then some (yS) else if f=96 then some (Y5) else none
theorem znd:∀ g c,GPa g=some c→zc Tryz.prog g c:=okIf ya (okIf K6 (zq))
theorem zgn:zc Tryz.prog 129 ze8:=by
 refine ze (fn:=Tryz.f129) (c:=Tryz.f129.body.getD .skip) rfl rfl rfl fun s hs O w0 Q hq=> ?_
 replace hq:=hq _ rfl
 refine zb.run hmix znd [] 400 (T:=.ex (fun(x:List UInt8)=>eqL [AV.str s] [AV.str x]∧x.length<4611686018427387904) fun n=>.all (fun(r:Int)=>r=errR n) fun n=>.ite (!decide (n=0)) (.leaf (.ret [.str #[].toList,.str #[].toList,.int .i64 n] [])) (.ex (fun(x:List UInt8)=>eqL [AV.str s] [AV.str x]∧x.length<4611686018427387904) fun n=>.all (fun(r:List UInt8×List UInt8×Bool)=>r=cutR n) fun n=>.ite (!Prod.snd n.2) (.leaf (.ret [.str n.1,.str #[(49:UInt8)].toList,.int .i64 0] [])) (.leaf (.ret [.str n.1,.str n.2.1,.int .i64 0] [])))) (by kernel_rfl) ?_
 simp only [Tree.holds,zd]
 refine⟨s,⟨by simp,hs⟩,⟨_,rfl⟩,?_⟩
 rintro _ rfl
 refine⟨fun h=> ?_,fun h=>⟨s,⟨by simp,hs⟩,⟨_,rfl⟩,?_⟩⟩
 ·have h:errR s≠0:=by simpa using h
  rw [if_neg h] at hq
  exact RetR.scal hq rfl (by simp [resV])
 ·have h:errR s=0:=by simpa using h
  rw [if_pos h] at hq
  rintro _ rfl
  refine⟨fun g=> ?_,fun g=> ?_⟩
  ·have e:denR s=[49]:=by unfold denR; rw [if_neg (by simpa using g)]
   rw [e] at hq
   exact RetR.scal hq rfl (by simp [resV,numR])
  ·have e:denR s=(cutR s).2.1:=by unfold denR; rw [if_pos (by simpa using g)]
   rw [e] at hq
   exact RetR.scal hq rfl (by simp [resV,numR])
def zap:Ctr:=ctrP true (fun p:List UInt8×List UInt8=>[.str p.1,.str p.2]) (fun p=>p.1.length<2^62∧p.2.length<2^62) (fun p r=>r=wh p.1 p.2) (fun _ r=>(.tup [.str r.1,.int .i64 r.2],[]))
noncomputable def GMk:Nat→Option Ctr:=fun f=>if f=99 then some (gcdC) else if f=162 then some (dmC) else none
theorem znv:∀ g c,GMk g=some c→zc Tryz.prog g c:=okIf zfy (okIf zcr (zq))
theorem zj3:zc Tryz.prog 156 zap:=by
 refine ze (fn:=Tryz.f156) (c:=Tryz.f156.body.getD .skip) rfl rfl rfl fun p hp O w0 Q hq=> ?_
 obtain⟨s,t⟩:=p
 obtain⟨hs,ht⟩:=hp
 replace hq:=hq _ rfl
 simp only at hs ht hq
 refine zb.run hmix znv [] 400 (T:=.ex (fun(x:List UInt8×List UInt8)=>eqL [AV.str s,AV.str t] [AV.str x.1,AV.str x.2]∧x.1.length<4611686018427387904∧x.2.length<4611686018427387904) fun n=>.all (fun(r:List UInt8×Int)=>r=gcdR n.1 n.2) fun n=>.ite (!decide (n.2=0)) (.leaf (.ret [.str #[].toList,.int .i64 n.2] [])) (.ite (decide (t=#[(48:UInt8)].toList)) (.leaf (.ret [.str #[].toList,.int .i64 16] [])) (.side ((0:Int)≤0∧(0:Int)<t.length) (.ite (decide ((↑(UInt8.toNat (t.getD 0 (0:UInt8))):Int)=45)) (.side (1+n.1.length≤9223372036854775807) (.ex (fun(x:List UInt8×List UInt8)=>eqL [AV.str s,AV.str (#[(45:UInt8)].toList++n.1)] [AV.str x.1,AV.str x.2]∧x.1.length<4611686018427387904∧x.2.length<4611686018427387904) fun n_1=>.all (fun(r:List UInt8×List UInt8×Int)=>r=dmI n_1.1 n_1.2) fun n_2=>.ex (fun(x:List UInt8×List UInt8)=>eqL [AV.str t,AV.str (#[(45:UInt8)].toList++n.1)] [AV.str x.1,AV.str x.2]∧x.1.length<4611686018427387904∧x.2.length<4611686018427387904) fun n=>.all (fun(r:List UInt8×List UInt8×Int)=>r=dmI n.1 n.2) fun n=>.ite (decide (n.1=#[(49:UInt8)].toList)) (.leaf (.ret [.str n_2.1,.int .i64 0] [])) (.side (n_2.1.length+1≤9223372036854775807) (.side (List.length (n_2.1++#[(47:UInt8)].toList)+n.1.length≤9223372036854775807) (.leaf (.ret [.str (n_2.1++#[(47:UInt8)].toList++n.1),.int .i64 0] [])))))) (.ex (fun(x:List UInt8×List UInt8)=>eqL [AV.str s,AV.str n.1] [AV.str x.1,AV.str x.2]∧x.1.length<4611686018427387904∧x.2.length<4611686018427387904) fun n_1=>.all (fun(r:List UInt8×List UInt8×Int)=>r=dmI n_1.1 n_1.2) fun n_2=>.ex (fun(x:List UInt8×List UInt8)=>eqL [AV.str t,AV.str n.1] [AV.str x.1,AV.str x.2]∧x.1.length<4611686018427387904∧x.2.length<4611686018427387904) fun n=>.all (fun(r:List UInt8×List UInt8×Int)=>r=dmI n.1 n.2) fun n=>.ite (decide (n.1=#[(49:UInt8)].toList)) (.leaf (.ret [.str n_2.1,.int .i64 0] [])) (.side (n_2.1.length+1≤9223372036854775807) (.side (List.length (n_2.1++#[(47:UInt8)].toList)+n.1.length≤9223372036854775807) (.leaf (.ret [.str (n_2.1++#[(47:UInt8)].toList++n.1),.int .i64 0] []))))))))) (by kernel_rfl) ?_
 simp only [Tree.holds,zd,inR,lo,hi,Int.toNat_natCast]
 refine⟨(s,t),⟨by simp,by omega,by omega⟩,⟨_,rfl⟩,?_⟩
 rintro _ rfl
 by_cases he:z6 s t=0
 ·obtain⟨e1,e2⟩:=zm.1 he
  have eg:gcdR s t=wr false (Nat.gcd (numI s) (numI t)):=if_pos he
  by_cases h0:numI t=0
  ·have ht0:t=[48]:=(xw e2).2 h0
   have hg0:Nat.gcd (numI s) (numI t)=numI s:=by rw [h0,Nat.gcd_zero_right]
   have hz:(gcdR s t).2=0:=by rw [eg,hg0]; exact kn (j1 e1)
   have e:wh s t=([],16):=by rw [wh,if_neg (by rw [he]; decide),if_pos h0]
   rw [e] at hq
   refine⟨fun h=>(by simp [hz] at h),fun _=>⟨fun _=>RetR.scal hq rfl (by simp [resV]),fun h=>(by simp [ht0] at h)⟩⟩
  ·obtain⟨g0,gr⟩:=X6 (s:=s) e2 h0
   have hz:(gcdR s t).2=0:=by rw [eg]; exact kn gr
   have ht0:t≠[48]:=fun h=>h0 ((xw e2).1 h)
   have htn:t≠[]:=by rintro rfl; simp [XP] at e2
   have hneg:=Wj htn
   have e:wh s t=(WD (negI s != negI t) (numI s) (numI t),0):=by rw [wh,if_neg (by rw [he]; decide),if_neg h0]
   rw [e,WD] at hq
   have ds:Nat.gcd (numI s) (numI t) ∣ numI s:=Nat.gcd_dvd_left _ _
   have dt:Nat.gcd (numI s) (numI t) ∣ numI t:=Nat.gcd_dvd_right _ _
   generalize hgg:Nat.gcd (numI s) (numI t)=g at *
   have rt:=room_le (Nat.div_le_self (numI t) g) (j1 e2)
   have l1:=vM false g
   have l2:=vM true g
   have fin:∀ b:Bool,b=negI t→∀ (z w:List UInt8×List UInt8×Int),z=dmI s (wr b g).1→w=dmI t (wr b g).1 →
     (decide (w.1=[49])=true→RetR zap 0 Q [.str z.1,.int .i64 0] [])∧(decide (w.1=[49])=false→z.1.length+1≤9223372036854775807∧(z.1.length+1≤9223372036854775807→(z.1++[47]).length+w.1.length≤9223372036854775807∧((z.1++[47]).length+w.1.length≤9223372036854775807→RetR zap 0 Q [.str (z.1++[47]++w.1),.int .i64 0] []))):=by
    rintro b rfl z w rfl rfl
    rw [KS e1 g0 gr ds,KS e2 g0 gr dt]
    simp only
    have:(negI t != negI t)=false:=by simp
    rw [this]
    have k1:=vM (negI s != negI t) (numI s/g)
    have k2:=vM false (numI t/g)
    refine⟨fun h=> ?_,fun h=>⟨by omega,fun _=>⟨by simp; omega,fun _=> ?_⟩⟩⟩
    ·have h1:=(Ug rt).1 (of_decide_eq_true h)
     rw [if_pos h1] at hq
     exact RetR.scal hq rfl (by simp [resV])
    ·have h1:¬ numI t/g=1:=fun h1=>of_decide_eq_false h ((Ug rt).2 h1)
     rw [if_neg h1] at hq
     exact RetR.scal hq rfl (by simp [resV])
   rw [eg] at hz ⊢
   refine⟨fun h=>(by simp [hz] at h),fun _=>⟨fun h=>absurd (of_decide_eq_true h) ht0,fun _=>⟨⟨by omega,by have:=List.length_pos_iff.2 htn; omega⟩,fun _=>⟨fun hb=>⟨by omega,fun _=> ?_⟩,fun hb=> ?_⟩⟩⟩⟩
   ·have hn:negI t=true:=by
     rw [hneg,decide_eq_true_eq]
     exact Xv (of_decide_eq_true hb)
    rw [zfi g0 gr]
    refine⟨(s,(wr true g).1),⟨by simp,by show s.length<_; omega,by show(wr true g).1.length<_; omega⟩,⟨_,rfl⟩,?_⟩
    intro z hz
    refine⟨(t,(wr true g).1),⟨by simp,by show t.length<_; omega,by show(wr true g).1.length<_; omega⟩,⟨_,rfl⟩,?_⟩
    intro w hw
    exact fin true hn.symm z w hz hw
   ·have hn:negI t=false:=by
     rw [hneg,decide_eq_false_iff_not]
     intro h
     apply of_decide_eq_false hb
     rw [h]; rfl
    refine⟨(s,(wr false g).1),⟨by simp,by show s.length<_; omega,by show(wr false g).1.length<_; omega⟩,⟨_,rfl⟩,?_⟩
    intro z hz
    refine⟨(t,(wr false g).1),⟨by simp,by show t.length<_; omega,by show(wr false g).1.length<_; omega⟩,⟨_,rfl⟩,?_⟩
    intro w hw
    exact fin false hn.symm z w hz hw
 ·have eg:gcdR s t=([],z6 s t):=if_neg he
  have e:wh s t=([],z6 s t):=if_pos he
  rw [e] at hq
  rw [eg]
  exact⟨fun _=>RetR.scal hq rfl (by simp [resV]),fun h=>by simp [he] at h⟩
noncomputable def K90:List Go.Sx.Item:=[.code (Tryz.f90.body.getD .skip)]
structure Pr where
 n:List UInt8
 m:List UInt8
 d:List UInt8
 c:List UInt8
 e:Int
def Pr.box(p:Pr):Blk:=.box [.str p.n,.str p.m,.str p.d,.str p.c,.int .i64 p.e]
def Pr.err(p:Pr)(e:Int):Pr:=⟨p.n,p.m,p.d,p.c,e⟩
inductive QOp where
 | add | sub | mul
def QOp.fn:QOp→Nat
 | .add=>143
 | .sub=>999999
 | .mul=>92
def QOp.has:QOp→Prop
 | .sub=>False
 | _=>True
def QOp.op:QOp→List UInt8→List UInt8→List UInt8×Int
 | .add=>addI
 | .sub=>subI
 | .mul=>mulI
def jv(a b:List UInt8):Pr:=if errR a≠0 then⟨[],[],[],[],errR a⟩ else if errR b≠0 then⟨numR a,[],denR a,[],errR b⟩ else⟨numR a,numR b,denR a,denR b,0⟩
def zid:Ctr:=ctrT false false (fun p:List UInt8×List UInt8=>[.str p.1,.str p.2]) (fun _=>[]) (fun p=>p.1.length<2^62∧p.2.length<2^62) (fun p r=>r=jv p.1 p.2) (fun _ (r:Pr)=>(.ptr 0 0,[r.box]))
def zf1:Ctr:=ctrT false false (fun p:Pr×QOp=>[.ptr 0 0,.fn p.2.fn [] []]) (fun p=>[p.1.box]) (fun _=>True) (fun _ (_:Unit)=>True) (fun p _=>(.fn 130 [] [.ptr 1 0,.ptr 2 0],[p.1.box,.box [.ptr 0 0],.box [.fn p.2.fn [] []]]))
structure KX where
 p:Pr
 o:QOp
 x:List UInt8
 y:List UInt8
def Yk:Ctr:=ctrT false false (fun k:KX=>[.str k.x,.str k.y,.ptr 0 0,.ptr 2 0]) (fun k=>[.box [.ptr 1 0],k.p.box,.box [.fn k.o.fn [] []]]) (fun k=>k.x.length<2^62∧k.y.length<2^62∧k.o.has) (fun k r=>r=if k.p.e≠0 then([],k.p.e) else k.o.op k.x k.y)
 (fun k (r:List UInt8×Int)=>(.str r.1,[.box [.ptr 1 0],(k.p.err r.2).box,.box [.fn k.o.fn [] []]]))
def zdj:Ctr:=ctrT false false (fun k:Pr×List UInt8×List UInt8=>[.ptr 0 0,.str k.2.1,.str k.2.2]) (fun k=>[k.1.box]) (fun k=>k.2.1.length<2^62∧k.2.2.length<2^62) (fun k r=>r=if k.1.e≠0 then([],k.1.e) else wh k.2.1 k.2.2)
 (fun k (r:List UInt8×Int)=>(.tup [.str r.1,.int .i64 r.2],[k.1.box]))
theorem zie:zc Tryz.prog 91 zf1:=by
 refine qM (fn:=Tryz.f91) (c:=Tryz.f91.body.getD .skip) rfl rfl rfl (fun h=>by cases h) fun p hp O w0 σ0 Q hl0 hq=> ?_
 obtain⟨p,o⟩:=p
 replace hq:=hq () trivial
 refine zb.run hmix z7 [] 400 (T:=.leaf (.ret [.fn 130 [] [.ptr 1 0,.ptr 2 0]] [.box [.str p.n,.str p.m,.str p.d,.str p.c,.int .i64 p.e],.box [.ptr 0 0],.box [.fn (QOp.fn o) [] []]])) (by kernel_rfl) ?_
 simp only [Tree.holds,zd]
 refine RetR.keep [0,1,2] rfl rfl (by show ∀ j,j<1→_; decide) rfl hq ?_ ?_ rfl
 ·rfl
 ·exact⟨⟨rfl,rfl,rfl,rfl,⟨rfl,rfl⟩,trivial⟩,⟨⟨rfl,rfl⟩,trivial⟩,⟨rfl,trivial⟩,trivial⟩
noncomputable def GK1:Nat→Option Ctr:=fun f=>if f=143 then some (addC) else if f=92 then some (mulC) else none
theorem zhu:∀ g c,GK1 g=some c→zc Tryz.prog g c:=okIf znk (okIf zn0 (zq))
theorem zef:zc Tryz.prog 130 Yk:=by
 refine qM (fn:=Tryz.f130) (c:=Tryz.f130.body.getD .skip) rfl rfl rfl (fun h=>by cases h) fun k hk O w0 σ0 Q hl0 hq=> ?_
 obtain⟨⟨n,m,d,c,e⟩,o,x,y⟩:=k
 obtain⟨h1,h2,h3⟩:=hk
 replace hq:=hq _ rfl
 simp only at h1 h2 h3 hq
 have fin:∀ r:List UInt8×Int,(if e≠0 then([],e) else o.op x y)=r→RetR Yk 3 Q [.str r.1] [.box [.ptr 1 0],.box [.str n,.str m,.str d,.str c,.int .i64 r.2],.box [.fn o.fn [] []]]:=by
  rintro r rfl
  refine RetR.keep [0,1,2] rfl rfl (by show ∀ j,j<3→_; decide) rfl hq ?_ ?_ rfl
  ·rfl
  ·exact⟨⟨⟨rfl,rfl⟩,trivial⟩,⟨rfl,rfl,rfl,rfl,⟨rfl,rfl⟩,trivial⟩,⟨rfl,trivial⟩,trivial⟩
 cases o with
 | add=>
  refine zb.run hmix zhu [] 400 (T:=.ite (!decide (e=0)) (.leaf (.ret [.str #[].toList] [.box [.ptr 1 0],.box [.str n,.str m,.str d,.str c,.int .i64 e],.box [.fn 143 [] []]])) (.ex (fun(x_1:List UInt8×List UInt8)=>eqL [AV.str x,AV.str y] [AV.str x_1.1,AV.str x_1.2]∧x_1.1.length<4611686018427387904∧x_1.2.length<4611686018427387904) fun n_1=>.all (fun(r:List UInt8×Int)=>r=addI n_1.1 n_1.2) fun n_2=>.leaf (.ret [.str n_2.1] [.box [.ptr 1 0],.box [.str n,.str m,.str d,.str c,.int .i64 n_2.2],.box [.fn 143 [] []]]))) (by kernel_rfl) ?_
  simp only [Tree.holds,zd]
  refine⟨fun h=> ?_,fun h=>⟨(x,y),⟨by simp,h1,h2⟩,⟨_,rfl⟩,?_⟩⟩
  ·have h:e≠0:=by simpa using h
   exact fin ([],e) (if_pos h)
  ·have h:e=0:=by simpa using h
   rintro _ rfl
   exact fin (addI x y) (if_neg (by simp [h]))
 | sub=>exact h3.elim
 | mul=>
  refine zb.run hmix zhu [] 400 (T:=.ite (!decide (e=0)) (.leaf (.ret [.str #[].toList] [.box [.ptr 1 0],.box [.str n,.str m,.str d,.str c,.int .i64 e],.box [.fn 92 [] []]])) (.ex (fun(x_1:List UInt8×List UInt8)=>eqL [AV.str x,AV.str y] [AV.str x_1.1,AV.str x_1.2]∧x_1.1.length<4611686018427387904∧x_1.2.length<4611686018427387904) fun n_1=>.all (fun(r:List UInt8×Int)=>r=mulI n_1.1 n_1.2) fun n_2=>.leaf (.ret [.str n_2.1] [.box [.ptr 1 0],.box [.str n,.str m,.str d,.str c,.int .i64 n_2.2],.box [.fn 92 [] []]]))) (by kernel_rfl) ?_
  simp only [Tree.holds,zd]
  refine⟨fun h=> ?_,fun h=>⟨(x,y),⟨by simp,h1,h2⟩,⟨_,rfl⟩,?_⟩⟩
  ·have h:e≠0:=by simpa using h
   exact fin ([],e) (if_pos h)
  ·have h:e=0:=by simpa using h
   rintro _ rfl
   exact fin (mulI x y) (if_neg (by simp [h]))
noncomputable def GMd:Nat→Option Ctr:=fun f=>if f=156 then some (zap) else none
theorem zo1:∀ g c,GMd g=some c→zc Tryz.prog g c:=okIf zj3 (zq)
theorem zjl:zc Tryz.prog 142 zdj:=by
 refine qM (fn:=Tryz.f142) (c:=Tryz.f142.body.getD .skip) rfl rfl rfl (fun h=>by cases h) fun k hk O w0 σ0 Q hl0 hq=> ?_
 obtain⟨⟨n,m,d,c,e⟩,x,y⟩:=k
 obtain⟨h1,h2⟩:=hk
 replace hq:=hq _ rfl
 simp only at h1 h2 hq
 have fin:∀ r:List UInt8×Int,(if e≠0 then([],e) else wh x y)=r→RetR zdj 1 Q [.str r.1,.int .i64 r.2] [.box [.str n,.str m,.str d,.str c,.int .i64 e]]:=by
  rintro r rfl
  refine RetR.keep [0] rfl rfl (by show ∀ j,j<1→_; decide) rfl hq ?_ ?_ rfl
  ·exact⟨rfl,⟨rfl,rfl⟩,trivial⟩
  ·exact⟨⟨rfl,rfl,rfl,rfl,⟨rfl,rfl⟩,trivial⟩,trivial⟩
 refine zb.run hmix zo1 [] 400 (T:=.ite (!decide (e=0)) (.leaf (.ret [.str #[].toList,.int .i64 e] [.box [.str n,.str m,.str d,.str c,.int .i64 e]])) (.ex (fun(x_1:List UInt8×List UInt8)=>eqL [AV.str x,AV.str y] [AV.str x_1.1,AV.str x_1.2]∧x_1.1.length<4611686018427387904∧x_1.2.length<4611686018427387904) fun n_1=>.all (fun(r:List UInt8×Int)=>r=wh n_1.1 n_1.2) fun n_2=>.leaf (.ret [.str n_2.1,.int .i64 n_2.2] [.box [.str n,.str m,.str d,.str c,.int .i64 e]]))) (by kernel_rfl) ?_
 simp only [Tree.holds,zd]
 refine⟨fun h=> ?_,fun h=>⟨(x,y),⟨by simp,h1,h2⟩,⟨_,rfl⟩,?_⟩⟩
 ·have h:e≠0:=by simpa using h
  exact fin ([],e) (if_pos h)
 ·have h:e=0:=by simpa using h
  rintro _ rfl
  exact fin (wh x y) (if_neg (by simp [h]))
def Pst(a b:List UInt8):Nat→Pr
 | 0=>⟨[],[],[],[],0⟩
 | 1=>if errR a≠0 then⟨[],[],[],[],errR a⟩ else⟨numR a,[],denR a,[],0⟩
 | _=>jv a b
def SBq(a b:List UInt8)(i:Nat):KV:=[(5,.ptr 0 0),(12,.agg [.str a,.str b]),(13,.int .i64 (i:Int))]
noncomputable def GBq:Nat→Option Ctr:=fun f=>if f=129 then some (ze8) else none
theorem Vr:∀ g c,GBq g=some c→zc Tryz.prog g c:=okIf zgn (zq)
theorem zdz:zc Tryz.prog 90 zid:=by
 refine qM (fn:=Tryz.f90) (c:=Tryz.f90.body.getD .skip) rfl rfl rfl (fun h=>by cases h) fun p hp O w0 σ0 Q hl0 hq=> ?_
 obtain rfl:σ0=[]:=List.length_eq_zero_iff.1 hl0
 obtain⟨a,b⟩:=p
 obtain⟨h1,h2⟩:=hp
 replace hq:=hq _ rfl
 simp only at h1 h2 hq
 refine zb.run hmix Vr [5,12,13] 400 (T:=.leaf (.loop (Prod.fst (lps K90 0)) (Prod.snd (lps K90 0)) [(5,.ptr 0 0),(12,.agg [.str a,.str b]),(13,.int .i64 0)] [.box [.str #[].toList,.str #[].toList,.str #[].toList,.str #[].toList,.int .i64 0]])) (by kernel_rfl) ?_
 simp only [Tree.holds,zd]
 refine zb.loop (ι:={i:Nat // i≤2}) (fun i=>SBq a b i.1) (fun i=>[(Pst a b i.1).box]) (fun i=>2 - i.1) ⟨0,Nat.zero_le _⟩ 0 ?_ ?_ (by kernel_rfl)
 ·exact⟨by simp [SBq],by simp [Pst,Pr.box],by kernel_rfl,Nat.zero_le _⟩
 rintro⟨i,hil⟩
 match i,hil with
 | 0,_=>
  refine zb.run hmix Vr [5,12,13] 400 (T:=.ite true (.side ((0:Int)≤0∧(0:Int)<2∧1≤List.length [AV.str a,AV.str b]) (.ite true (.ex (fun(x:List UInt8)=>eqL [AV.str a] [AV.str x]∧x.length<4611686018427387904) fun n=>.all (fun(r:List UInt8×List UInt8×Int)=>r=if errR n=0 then(numR n,denR n,(0:Int)) else([],[],errR n)) fun n=>.side ((0:Int)≤0∧(0:Int)<2) (.side ((0:Int)≤0∧(0:Int)<2) (.side (inR .i64 (1:Int)) (.leaf (.back 0 [(5,.ptr 0 0),(12,.agg [.str a,.str b]),(13,.int .i64 1)] [.box [.str n.1,.str [],.str n.2.1,.str [],.int .i64 n.2.2]]))))) (.side (inR .i64 (1:Int)) (.leaf (.back 0 [(5,.ptr 0 0),(12,.agg [.str a,.str b]),(13,.int .i64 1)] [.box [.str [],.str [],.str [],.str [],.int .i64 0]]))))) (.leaf (.ret [.ptr 0 0] [.box [.str [],.str [],.str [],.str [],.int .i64 0]]))) (by kernel_rfl) ?_
  simp only [Tree.holds,zd,inR,lo,hi,Int.toNat_natCast]
  refine⟨fun _=>⟨by simp,fun _=>⟨fun _=>⟨a,⟨by simp,h1⟩,⟨_,rfl⟩,?_⟩,fun h=>(by cases h)⟩⟩,fun h=>(by cases h)⟩
  intro r hr
  refine⟨by decide,fun _=>⟨by decide,fun _=>⟨by decide,fun _=> ?_⟩⟩⟩
  rw [if_pos trivial]
  refine⟨⟨1,by decide⟩,by decide,by simp [SBq],?_,by kernel_rfl,Nat.zero_le _⟩
  have e:Pst a b 1=⟨r.1,[],r.2.1,[],r.2.2⟩:=by
   rw [hr]
   by_cases h:errR a=0
   ·simp [Pst,h]
   ·simp [Pst,h]
  show eqH _ [(Pst a b 1).box]
  rw [e]
  simp [Pr.box]
 | 1,_=>
  obtain⟨⟨n,m,d,c,e⟩,hp⟩:∃ p,Pst a b 1=p:=⟨_,rfl⟩
  simp only [hp]
  refine zb.run hmix Vr [5,12,13] 400 (T:=.ite true (.side ((0:Int)≤1∧(1:Int)<2∧2≤List.length [AV.str a,AV.str b]) (.ite (decide (e=0)) (.ex (fun(x:List UInt8)=>eqL [AV.str b] [AV.str x]∧x.length<4611686018427387904) fun n_1=>.all (fun(r:List UInt8×List UInt8×Int)=>r=if errR n_1=0 then(numR n_1,denR n_1,(0:Int)) else([],[],errR n_1)) fun n_2=>.side ((0:Int)≤1∧(1:Int)<2) (.side ((0:Int)≤1∧(1:Int)<2) (.side (inR .i64 (2:Int)) (.leaf (.back 0 [(5,.ptr 0 0),(12,.agg [.str a,.str b]),(13,.int .i64 2)] [.box [.str n,.str n_2.1,.str d,.str n_2.2.1,.int .i64 n_2.2.2]]))))) (.side (inR .i64 (2:Int)) (.leaf (.back 0 [(5,.ptr 0 0),(12,.agg [.str a,.str b]),(13,.int .i64 2)] [.box [.str n,.str m,.str d,.str c,.int .i64 e]]))))) (.leaf (.ret [.ptr 0 0] [.box [.str n,.str m,.str d,.str c,.int .i64 e]]))) (by kernel_rfl) ?_
  simp only [Tree.holds,zd,inR,lo,hi,Int.toNat_natCast]
  refine⟨fun _=>⟨by simp,fun _=>⟨fun h=>⟨b,⟨by simp,h2⟩,⟨_,rfl⟩,?_⟩,fun h=>⟨by decide,fun _=> ?_⟩⟩⟩,fun h=>(by cases h)⟩
  ·have h:e=0:=by simpa using h
   intro r hr
   refine⟨by decide,fun _=>⟨by decide,fun _=>⟨by decide,fun _=> ?_⟩⟩⟩
   rw [if_pos trivial]
   refine⟨⟨2,by decide⟩,by decide,by simp [SBq],?_,by kernel_rfl,Nat.zero_le _⟩
   have e2:Pst a b 2=⟨n,r.1,d,r.2.1,r.2.2⟩:=by
    rw [hr]
    by_cases ha:errR a=0
    ·simp only [Pst,ha] at hp
     simp at hp
     obtain⟨rfl,rfl,rfl,rfl,_⟩:=hp
     by_cases hb:errR b=0
     ·simp [Pst,jv,ha,hb]
     ·simp [Pst,jv,ha,hb]
    ·simp only [Pst] at hp
     rw [if_pos ha] at hp
     cases hp
     exact absurd h ha
   show eqH _ [(Pst a b 2).box]
   rw [e2]
   simp [Pr.box]
  ·have h:e≠0:=by simpa using h
   rw [if_pos trivial]
   refine⟨⟨2,by decide⟩,by decide,by simp [SBq],?_,by kernel_rfl,Nat.zero_le _⟩
   have e2:Pst a b 2=⟨n,m,d,c,e⟩:=by
    by_cases ha:errR a=0
    ·simp only [Pst,ha] at hp
     simp at hp
     exact absurd hp.2.2.2.2.symm h
    ·rw [← hp]
     simp only [Pst,jv]
     rw [if_pos ha,if_pos ha]
   show eqH _ [(Pst a b 2).box]
   rw [e2]
   simp [Pr.box]
 | 2,_=>
  obtain⟨⟨n,m,d,c,e⟩,hp⟩:∃ p,Pst a b 2=p:=⟨_,rfl⟩
  simp only [hp]
  refine zb.run hmix Vr [5,12,13] 400 (T:=.ite false (.side ((0:Int)≤2∧(2:Int)<2∧3≤List.length [AV.str a,AV.str b]) .fail) (.leaf (.ret [.ptr 0 0] [.box [.str n,.str m,.str d,.str c,.int .i64 e]]))) (by kernel_rfl) ?_
  simp only [Tree.holds,zd,inR,lo,hi,Int.toNat_natCast]
  refine⟨fun h=>(by cases h),fun _=> ?_⟩
  have hp:jv a b=⟨n,m,d,c,e⟩:=hp
  rw [hp] at hq
  refine RetR.out1 0 (by show 0<1; decide) hq (fun h=>by cases h) ?_ ?_
  ·exact⟨rfl,rfl⟩
  ·exact⟨rfl,rfl,rfl,rfl,⟨rfl,rfl⟩,trivial⟩
theorem xr(a b:List UInt8):((jv a b).e≠0∧j3 a b=(jv a b).e)∨((jv a b).e=0∧errR a=0∧errR b=0∧(jv a b).n=numR a∧(jv a b).m=numR b∧(jv a b).d=denR a∧(jv a b).c=denR b):=by
 unfold jv
 by_cases ha:errR a=0
 ·rw [if_neg (by rw [ha]; simp)]
  by_cases hb:errR b=0
  ·rw [if_neg (by rw [hb]; simp)]
   exact .inr ⟨rfl,ha,hb,rfl,rfl,rfl,rfl⟩
  ·rw [if_pos hb]
   exact .inl ⟨hb,by unfold j3; rw [if_pos ha]⟩
 ·rw [if_pos ha]
  exact .inl ⟨ha,by unfold j3; rw [if_neg ha]⟩
theorem Za(a b:List UInt8):(jv a b).n.length≤a.length∧(jv a b).m.length≤b.length∧(jv a b).d.length≤a.length+1∧(jv a b).c.length≤b.length+1:=by
 have h1:=Xe a
 have h2:=Xe b
 have h3:=Xb a
 have h4:=Xb b
 unfold jv
 split
 ·simp
 ·split
  ·simp; omega
  ·simp only; omega
theorem kx_l(x y:List UInt8):eqL [.str x,.str y,.ptr 0 0,.ptr 2 0] [.str x,.str y,.ptr 0 0,.ptr 2 0]:=⟨rfl,rfl,⟨rfl,rfl⟩,⟨rfl,rfl⟩,trivial⟩
theorem kx_b(p:Pr):eqH [.box [.str p.n,.str p.m,.str p.d,.str p.c,.int .i64 p.e]] [.box [.str p.n,.str p.m,.str p.d,.str p.c,.int .i64 p.e]]:=⟨⟨rfl,rfl,rfl,rfl,⟨rfl,rfl⟩,trivial⟩,trivial⟩
theorem kx_h(p:Pr)(f:Nat):eqH [.box [.ptr 1 0],.box [.str p.n,.str p.m,.str p.d,.str p.c,.int .i64 p.e],.box [.fn f [] []]] [.box [.ptr 1 0],.box [.str p.n,.str p.m,.str p.d,.str p.c,.int .i64 p.e],.box [.fn f [] []]]:=⟨⟨⟨rfl,rfl⟩,trivial⟩,(kx_b p).1,⟨rfl,trivial⟩,trivial⟩
theorem kx_k(f:Nat):eqL [.ptr 0 0,.fn f [] []] [.ptr 0 0,.fn f [] []]:=⟨⟨rfl,rfl⟩,rfl,trivial⟩
theorem kx_m(x y:List UInt8):eqL [.ptr 0 0,.str x,.str y] [.ptr 0 0,.str x,.str y]:=⟨⟨rfl,rfl⟩,rfl,rfl,trivial⟩
theorem jJ(p:Pr)(o:QOp)(x y:List UInt8){r:List UInt8×Int}(h:r=if p.e≠0 then([],p.e) else o.op x y):r.1.length≤1001:=by
 rw [h]
 refine zky ?_
 cases o
 ·exact zf9 x y
 ·exact zf3 x y
 ·exact zi6 x y
noncomputable def GQA:Nat→Option Ctr:=fun f=>if f=90 then some (zid) else if f=91 then some (zf1) else if f=130 then some (Yk) else if f=142 then some (zdj) else if f=93 then some (zlh) else none
theorem Yx:∀ g c,GQA g=some c→zc Tryz.prog g c:=okIf zdz (okIf zie (okIf zef (okIf zjl (okIf zl1 (zq)))))
def zlv:Ctr:=ctrP true (fun p:List UInt8×List UInt8=>[.str p.1,.str p.2]) (fun p=>p.1.length<2^61∧p.2.length<2^61) (fun p r=>r=addR p.1 p.2) (fun _ r=>(.tup [.str r.1,.int .i64 r.2],[]))
def zm4:Ctr:=ctrP true (fun p:List UInt8×List UInt8=>[.str p.1,.str p.2]) (fun p=>p.1.length<2^61∧p.2.length<2^61) (fun p r=>r=mulR p.1 p.2) (fun _ r=>(.tup [.str r.1,.int .i64 r.2],[]))
def zlx:Ctr:=ctrP true (fun p:List UInt8×List UInt8=>[.str p.1,.str p.2]) (fun p=>p.1.length<2^61∧p.2.length<2^61) (fun p r=>r=cmpR p.1 p.2) (fun _ r=>(.tup [.int .i64 r.1,.int .i64 r.2],[]))
theorem zk1:zc Tryz.prog 105 zlv:=by
 refine ze (fn:=Tryz.f105) (c:=Tryz.f105.body.getD .skip) rfl rfl rfl fun p hp O w0 Q hq=> ?_
 obtain⟨a,b⟩:=p
 obtain⟨h1,h2⟩:=hp
 replace hq:=hq _ rfl
 simp only at h1 h2 hq
 refine zb.run hmix Yx [] 400 (T:=.ex (fun(x:List UInt8×List UInt8)=>eqL [AV.str a,AV.str b] [AV.str x.1,AV.str x.2]∧eqH [] []∧0=0∧x.1.length<4611686018427387904∧x.2.length<4611686018427387904) fun n=>.all (fun(r:Pr)=>r=jv n.1 n.2) fun n=>.ex (fun(x:Pr×QOp)=>eqL [AV.ptr 0 0,AV.fn 92 [] []] [AV.ptr 0 0,AV.fn (QOp.fn x.2) [] []]∧eqH [.box [AV.str n.n,AV.str n.m,AV.str n.d,AV.str n.c,AV.int .i64 n.e]] [.box [AV.str x.1.n,AV.str x.1.m,AV.str x.1.d,AV.str x.1.c,AV.int .i64 x.1.e]]∧1=1∧True) fun n=>.all (fun(x:Unit)=>True) fun n_1=>.ex (fun(x:Pr×QOp)=>eqL [AV.ptr 0 0,AV.fn 143 [] []] [AV.ptr 0 0,AV.fn (QOp.fn x.2) [] []]∧eqH [.box [AV.str n.1.n,AV.str n.1.m,AV.str n.1.d,AV.str n.1.c,AV.int .i64 n.1.e]] [.box [AV.str x.1.n,AV.str x.1.m,AV.str x.1.d,AV.str x.1.c,AV.int .i64 x.1.e]]∧1=1∧True) fun n_2=>.all (fun(x:Unit)=>True) fun n_3=>.side ((0:Int)≤0∧(0:Int)<2) (.side ((0:Int)≤1∧(1:Int)<2) (.side ((0:Int)≤1∧(1:Int)<2) (.side ((0:Int)≤0∧(0:Int)<2) (.side ((0:Int)≤0∧(0:Int)<2) (.side ((0:Int)≤1∧(1:Int)<2) (.ex (fun(x:KX)=>eqL [AV.str n_2.1.n,AV.str n_2.1.c,AV.ptr 0 0,AV.ptr 2 0] [AV.str x.x,AV.str x.y,AV.ptr 0 0,AV.ptr 2 0]∧eqH [.box [AV.ptr 1 0],.box [AV.str n_2.1.n,AV.str n_2.1.m,AV.str n_2.1.d,AV.str n_2.1.c,AV.int .i64 n_2.1.e],.box [AV.fn (QOp.fn n.2) [] []]] [.box [AV.ptr 1 0],.box [AV.str x.p.n,AV.str x.p.m,AV.str x.p.d,AV.str x.p.c,AV.int .i64 x.p.e],.box [AV.fn (QOp.fn x.o) [] []]]∧3=3∧x.x.length<4611686018427387904∧x.y.length<4611686018427387904∧QOp.has x.o) fun n=>.all (fun(r:List UInt8×Int)=>r=if Pr.e n.p≠0 then([],Pr.e n.p) else QOp.op n.o n.x n.y) fun n_4=>.side (Pr.c (Pr.err n.p n_4.2)=Pr.c n_2.1) (.side (Pr.d (Pr.err n.p n_4.2)=Pr.d n_2.1) (.side (Pr.d (Pr.err n.p n_4.2)=Pr.d n_2.1) (.side (Pr.m (Pr.err n.p n_4.2)=Pr.m n_2.1) (.ex (fun(x:KX)=>eqL [AV.str n_2.1.m,AV.str n_2.1.d,AV.ptr 0 0,AV.ptr 2 0] [AV.str x.x,AV.str x.y,AV.ptr 0 0,AV.ptr 2 0]∧eqH [.box [AV.ptr 1 0],.box [AV.str (Pr.n (Pr.err n.p n_4.2)),AV.str (Pr.m (Pr.err n.p n_4.2)),AV.str (Pr.d (Pr.err n.p n_4.2)),AV.str (Pr.c (Pr.err n.p n_4.2)),AV.int .i64 (Pr.e (Pr.err n.p n_4.2))],.box [AV.fn (QOp.fn n.o) [] []]] [.box [AV.ptr 1 0],.box [AV.str x.p.n,AV.str x.p.m,AV.str x.p.d,AV.str x.p.c,AV.int .i64 x.p.e],.box [AV.fn (QOp.fn x.o) [] []]]∧3=3∧x.x.length<4611686018427387904∧x.y.length<4611686018427387904∧QOp.has x.o) fun n=>.all (fun(r:List UInt8×Int)=>r=if Pr.e n.p≠0 then([],Pr.e n.p) else QOp.op n.o n.x n.y) fun n_5=>.side (Pr.c (Pr.err n.p n_5.2)=Pr.c n_2.1) (.side (Pr.d (Pr.err n.p n_5.2)=Pr.d n_2.1) (.ex (fun(x:KX)=>eqL [AV.str n_4.1,AV.str n_5.1,AV.ptr 0 0,AV.ptr 2 0] [AV.str x.x,AV.str x.y,AV.ptr 0 0,AV.ptr 2 0]∧eqH [.box [AV.ptr 1 0],.box [AV.str (Pr.n (Pr.err n.p n_5.2)),AV.str (Pr.m (Pr.err n.p n_5.2)),AV.str (Pr.d (Pr.err n.p n_5.2)),AV.str (Pr.c (Pr.err n.p n_5.2)),AV.int .i64 (Pr.e (Pr.err n.p n_5.2))],.box [AV.fn (QOp.fn n_2.2) [] []]] [.box [AV.ptr 1 0],.box [AV.str x.p.n,AV.str x.p.m,AV.str x.p.d,AV.str x.p.c,AV.int .i64 x.p.e],.box [AV.fn (QOp.fn x.o) [] []]]∧3=3∧x.x.length<4611686018427387904∧x.y.length<4611686018427387904∧QOp.has x.o) fun n_6=>.all (fun(r:List UInt8×Int)=>r=if Pr.e n_6.p≠0 then([],Pr.e n_6.p) else QOp.op n_6.o n_6.x n_6.y) fun n_7=>.side (Pr.c (Pr.err n_6.p n_7.2)=Pr.c n_2.1) (.side (Pr.d (Pr.err n_6.p n_7.2)=Pr.d n_2.1) (.ex (fun(x:KX)=>eqL [AV.str n_2.1.d,AV.str n_2.1.c,AV.ptr 0 0,AV.ptr 2 0] [AV.str x.x,AV.str x.y,AV.ptr 0 0,AV.ptr 2 0]∧eqH [.box [AV.ptr 1 0],.box [AV.str (Pr.n (Pr.err n_6.p n_7.2)),AV.str (Pr.m (Pr.err n_6.p n_7.2)),AV.str (Pr.d (Pr.err n_6.p n_7.2)),AV.str (Pr.c (Pr.err n_6.p n_7.2)),AV.int .i64 (Pr.e (Pr.err n_6.p n_7.2))],.box [AV.fn (QOp.fn n.o) [] []]] [.box [AV.ptr 1 0],.box [AV.str x.p.n,AV.str x.p.m,AV.str x.p.d,AV.str x.p.c,AV.int .i64 x.p.e],.box [AV.fn (QOp.fn x.o) [] []]]∧3=3∧x.x.length<4611686018427387904∧x.y.length<4611686018427387904∧QOp.has x.o) fun n=>.all (fun(r:List UInt8×Int)=>r=if Pr.e n.p≠0 then([],Pr.e n.p) else QOp.op n.o n.x n.y) fun n_8=>.ex (fun(x:Pr×List UInt8×List UInt8)=>eqL [AV.ptr 0 0,AV.str n_7.1,AV.str n_8.1] [AV.ptr 0 0,AV.str x.2.1,AV.str x.2.2]∧eqH [.box [AV.str (Pr.n (Pr.err n.p n_8.2)),AV.str (Pr.m (Pr.err n.p n_8.2)),AV.str (Pr.d (Pr.err n.p n_8.2)),AV.str (Pr.c (Pr.err n.p n_8.2)),AV.int .i64 (Pr.e (Pr.err n.p n_8.2))]] [.box [AV.str x.1.n,AV.str x.1.m,AV.str x.1.d,AV.str x.1.c,AV.int .i64 x.1.e]]∧1=1∧x.2.1.length<4611686018427387904∧x.2.2.length<4611686018427387904) fun n_9=>.all (fun(r:List UInt8×Int)=>r=if Pr.e n_9.1≠0 then([],Pr.e n_9.1) else wh n_9.2.1 n_9.2.2) fun n_10=>.leaf (.ret [.str n_10.1,.int .i64 n_10.2] [.box [.str n_9.1.n,.str n_9.1.m,.str n_9.1.d,.str n_9.1.c,.int .i64 n_9.1.e],.box [.ptr 0 0],.box [.fn (QOp.fn n.o) [] []],.box [.ptr 0 0],.box [.fn (QOp.fn n_6.o) [] []]])))))))))))))))) (by kernel_rfl) ?_
 simp only [Tree.holds,zd]
 refine⟨(a,b),⟨⟨rfl,rfl,trivial⟩,trivial,by trivial,by show a.length<_; omega,by show b.length<_; omega⟩,⟨_,rfl⟩,?_⟩
 intro p hp
 have hc:=xr a b
 obtain⟨l1,l2,l3,l4⟩:=Za a b
 rw [← hp] at hc l1 l2 l3 l4
 refine⟨(p,.mul),⟨kx_k _,kx_b p,by trivial,trivial⟩,⟨(),trivial⟩,?_⟩
 intro _ _
 refine⟨(p,.add),⟨kx_k _,kx_b p,by trivial,trivial⟩,⟨(),trivial⟩,?_⟩
 intro _ _
 iterate 6 refine⟨by decide,fun _=> ?_⟩
 refine⟨⟨p,.mul,p.n,p.c⟩,⟨kx_l _ _,kx_h (p) _,by trivial,by show(p.n).length<_; omega,by show(p.c).length<_; omega,by trivial⟩,⟨_,rfl⟩,?_⟩
 intro r1 hr1
 have kr1:=jJ _ _ _ _ hr1
 iterate 4 refine⟨rfl,fun _=> ?_⟩
 refine⟨⟨p.err r1.2,.mul,p.m,p.d⟩,⟨kx_l _ _,kx_h (p.err r1.2) _,by trivial,by show(p.m).length<_; omega,by show(p.d).length<_; omega,by trivial⟩,⟨_,rfl⟩,?_⟩
 intro r2 hr2
 have kr2:=jJ _ _ _ _ hr2
 iterate 2 refine⟨rfl,fun _=> ?_⟩
 refine⟨⟨(p.err r1.2).err r2.2,.add,r1.1,r2.1⟩,⟨kx_l _ _,kx_h ((p.err r1.2).err r2.2) _,by trivial,by show(r1.1).length<_; omega,by show(r2.1).length<_; omega,by trivial⟩,⟨_,rfl⟩,?_⟩
 intro r3 hr3
 have kr3:=jJ _ _ _ _ hr3
 iterate 2 refine⟨rfl,fun _=> ?_⟩
 refine⟨⟨((p.err r1.2).err r2.2).err r3.2,.mul,p.d,p.c⟩,⟨kx_l _ _,kx_h (((p.err r1.2).err r2.2).err r3.2) _,by trivial,by show(p.d).length<_; omega,by show(p.c).length<_; omega,by trivial⟩,⟨_,rfl⟩,?_⟩
 intro r4 hr4
 have kr4:=jJ _ _ _ _ hr4
 refine⟨((((p.err r1.2).err r2.2).err r3.2).err r4.2,r3.1,r4.1),⟨kx_m _ _,kx_b _,by trivial,by show(r3.1).length<_; omega,by show(r4.1).length<_; omega⟩,⟨_,rfl⟩,?_⟩
 intro r5 hr5
 have hfin:=XI hc (fun {s t} =>ze1 (s:=s) (t:=t)) hr1 hr2 hr3 hr4 hr5
 have e:r5=addR a b:=hfin
 rw [← e] at hq
 exact RetR.scal hq rfl (by simp [resV])
theorem zj1:zc Tryz.prog 104 zm4:=by
 refine ze (fn:=Tryz.f104) (c:=Tryz.f104.body.getD .skip) rfl rfl rfl fun p hp O w0 Q hq=> ?_
 obtain⟨a,b⟩:=p
 obtain⟨h1,h2⟩:=hp
 replace hq:=hq _ rfl
 simp only at h1 h2 hq
 refine zb.run hmix Yx [] 400 (T:=.ex (fun(x:List UInt8×List UInt8)=>eqL [AV.str a,AV.str b] [AV.str x.1,AV.str x.2]∧eqH [] []∧0=0∧x.1.length<4611686018427387904∧x.2.length<4611686018427387904) fun n=>.all (fun(r:Pr)=>r=jv n.1 n.2) fun n=>.ex (fun(x:Pr×QOp)=>eqL [AV.ptr 0 0,AV.fn 92 [] []] [AV.ptr 0 0,AV.fn (QOp.fn x.2) [] []]∧eqH [.box [AV.str n.n,AV.str n.m,AV.str n.d,AV.str n.c,AV.int .i64 n.e]] [.box [AV.str x.1.n,AV.str x.1.m,AV.str x.1.d,AV.str x.1.c,AV.int .i64 x.1.e]]∧1=1∧True) fun n=>.all (fun(x:Unit)=>True) fun n_1=>.side ((0:Int)≤0∧(0:Int)<2) (.side ((0:Int)≤1∧(1:Int)<2) (.side ((0:Int)≤0∧(0:Int)<2) (.side ((0:Int)≤1∧(1:Int)<2) (.ex (fun(x:KX)=>eqL [AV.str n.1.n,AV.str n.1.m,AV.ptr 0 0,AV.ptr 2 0] [AV.str x.x,AV.str x.y,AV.ptr 0 0,AV.ptr 2 0]∧eqH [.box [AV.ptr 1 0],.box [AV.str n.1.n,AV.str n.1.m,AV.str n.1.d,AV.str n.1.c,AV.int .i64 n.1.e],.box [AV.fn (QOp.fn n.2) [] []]] [.box [AV.ptr 1 0],.box [AV.str x.p.n,AV.str x.p.m,AV.str x.p.d,AV.str x.p.c,AV.int .i64 x.p.e],.box [AV.fn (QOp.fn x.o) [] []]]∧3=3∧x.x.length<4611686018427387904∧x.y.length<4611686018427387904∧QOp.has x.o) fun n_2=>.all (fun(r:List UInt8×Int)=>r=if Pr.e n_2.p≠0 then([],Pr.e n_2.p) else QOp.op n_2.o n_2.x n_2.y) fun n_3=>.side (Pr.c (Pr.err n_2.p n_3.2)=Pr.c n.1) (.side (Pr.d (Pr.err n_2.p n_3.2)=Pr.d n.1) (.ex (fun(x:KX)=>eqL [AV.str n.1.d,AV.str n.1.c,AV.ptr 0 0,AV.ptr 2 0] [AV.str x.x,AV.str x.y,AV.ptr 0 0,AV.ptr 2 0]∧eqH [.box [AV.ptr 1 0],.box [AV.str (Pr.n (Pr.err n_2.p n_3.2)),AV.str (Pr.m (Pr.err n_2.p n_3.2)),AV.str (Pr.d (Pr.err n_2.p n_3.2)),AV.str (Pr.c (Pr.err n_2.p n_3.2)),AV.int .i64 (Pr.e (Pr.err n_2.p n_3.2))],.box [AV.fn (QOp.fn n_2.o) [] []]] [.box [AV.ptr 1 0],.box [AV.str x.p.n,AV.str x.p.m,AV.str x.p.d,AV.str x.p.c,AV.int .i64 x.p.e],.box [AV.fn (QOp.fn x.o) [] []]]∧3=3∧x.x.length<4611686018427387904∧x.y.length<4611686018427387904∧QOp.has x.o) fun n=>.all (fun(r:List UInt8×Int)=>r=if Pr.e n.p≠0 then([],Pr.e n.p) else QOp.op n.o n.x n.y) fun n_4=>.ex (fun(x:Pr×List UInt8×List UInt8)=>eqL [AV.ptr 0 0,AV.str n_3.1,AV.str n_4.1] [AV.ptr 0 0,AV.str x.2.1,AV.str x.2.2]∧eqH [.box [AV.str (Pr.n (Pr.err n.p n_4.2)),AV.str (Pr.m (Pr.err n.p n_4.2)),AV.str (Pr.d (Pr.err n.p n_4.2)),AV.str (Pr.c (Pr.err n.p n_4.2)),AV.int .i64 (Pr.e (Pr.err n.p n_4.2))]] [.box [AV.str x.1.n,AV.str x.1.m,AV.str x.1.d,AV.str x.1.c,AV.int .i64 x.1.e]]∧1=1∧x.2.1.length<4611686018427387904∧x.2.2.length<4611686018427387904) fun n_5=>.all (fun(r:List UInt8×Int)=>r=if Pr.e n_5.1≠0 then([],Pr.e n_5.1) else wh n_5.2.1 n_5.2.2) fun n_6=>.leaf (.ret [.str n_6.1,.int .i64 n_6.2] [.box [.str n_5.1.n,.str n_5.1.m,.str n_5.1.d,.str n_5.1.c,.int .i64 n_5.1.e],.box [.ptr 0 0],.box [.fn (QOp.fn n.o) [] []]])))))))) (by kernel_rfl) ?_
 simp only [Tree.holds,zd]
 refine⟨(a,b),⟨⟨rfl,rfl,trivial⟩,trivial,by trivial,by show a.length<_; omega,by show b.length<_; omega⟩,⟨_,rfl⟩,?_⟩
 intro p hp
 have hc:=xr a b
 obtain⟨l1,l2,l3,l4⟩:=Za a b
 rw [← hp] at hc l1 l2 l3 l4
 refine⟨(p,.mul),⟨kx_k _,kx_b p,by trivial,trivial⟩,⟨(),trivial⟩,?_⟩
 intro _ _
 iterate 4 refine⟨by decide,fun _=> ?_⟩
 refine⟨⟨p,.mul,p.n,p.m⟩,⟨kx_l _ _,kx_h (p) _,by trivial,by show(p.n).length<_; omega,by show(p.m).length<_; omega,by trivial⟩,⟨_,rfl⟩,?_⟩
 intro r1 hr1
 have kr1:=jJ _ _ _ _ hr1
 iterate 2 refine⟨rfl,fun _=> ?_⟩
 refine⟨⟨p.err r1.2,.mul,p.d,p.c⟩,⟨kx_l _ _,kx_h (p.err r1.2) _,by trivial,by show(p.d).length<_; omega,by show(p.c).length<_; omega,by trivial⟩,⟨_,rfl⟩,?_⟩
 intro r2 hr2
 have kr2:=jJ _ _ _ _ hr2
 refine⟨((p.err r1.2).err r2.2,r1.1,r2.1),⟨kx_m _ _,kx_b _,by trivial,by show(r1.1).length<_; omega,by show(r2.1).length<_; omega⟩,⟨_,rfl⟩,?_⟩
 intro r3 hr3
 have hv:errR a=0→errR b=0→z6 p.n p.m=0∧z6 p.d p.c=0:=by
  intro ha hb
  obtain⟨a1,a2,_⟩:=qL ha
  obtain⟨b1,b2,_⟩:=qL hb
  rcases hc with ⟨g1,g2⟩ | ⟨_,_,_,g1,g2,g3,g4⟩
  ·exact absurd g2 (by unfold j3; rw [if_pos ha,hb]; exact fun h=>g1 h.symm)
  ·rw [g1,g2,g3,g4]; exact⟨zm.2 ⟨a1,b1⟩,zm.2 ⟨a2,b2⟩⟩
 have hfin:=zda hc hr1 hr2 hr3 hv
 have e:r3=mulR a b:=by
  rw [hfin]
  unfold mulR
  rcases hc with ⟨g1,g2⟩ | ⟨_,_,_,g1,g2,g3,g4⟩
  ·rw [if_pos (by rw [g2]; exact g1),if_pos (by rw [g2]; exact g1)]
  ·rw [g1,g2,g3,g4]
 rw [← e] at hq
 exact RetR.scal hq rfl (by simp [resV])
theorem zld:zc Tryz.prog 47 zlx:=by
 refine ze (fn:=Tryz.f47) (c:=Tryz.f47.body.getD .skip) rfl rfl rfl fun p hp O w0 Q hq=> ?_
 obtain⟨a,b⟩:=p
 obtain⟨h1,h2⟩:=hp
 replace hq:=hq _ rfl
 simp only at h1 h2 hq
 refine zb.run hmix Yx [] 400 (T:=.ex (fun(x:List UInt8×List UInt8)=>eqL [AV.str a,AV.str b] [AV.str x.1,AV.str x.2]∧eqH [] []∧0=0∧x.1.length<4611686018427387904∧x.2.length<4611686018427387904) fun n=>.all (fun(r:Pr)=>r=jv n.1 n.2) fun n=>.ex (fun(x:Pr×QOp)=>eqL [AV.ptr 0 0,AV.fn 92 [] []] [AV.ptr 0 0,AV.fn (QOp.fn x.2) [] []]∧eqH [.box [AV.str n.n,AV.str n.m,AV.str n.d,AV.str n.c,AV.int .i64 n.e]] [.box [AV.str x.1.n,AV.str x.1.m,AV.str x.1.d,AV.str x.1.c,AV.int .i64 x.1.e]]∧1=1∧True) fun n=>.all (fun(x:Unit)=>True) fun n_1=>.side ((0:Int)≤0∧(0:Int)<2) (.side ((0:Int)≤1∧(1:Int)<2) (.side ((0:Int)≤1∧(1:Int)<2) (.side ((0:Int)≤0∧(0:Int)<2) (.ex (fun(x:KX)=>eqL [AV.str n.1.n,AV.str n.1.c,AV.ptr 0 0,AV.ptr 2 0] [AV.str x.x,AV.str x.y,AV.ptr 0 0,AV.ptr 2 0]∧eqH [.box [AV.ptr 1 0],.box [AV.str n.1.n,AV.str n.1.m,AV.str n.1.d,AV.str n.1.c,AV.int .i64 n.1.e],.box [AV.fn (QOp.fn n.2) [] []]] [.box [AV.ptr 1 0],.box [AV.str x.p.n,AV.str x.p.m,AV.str x.p.d,AV.str x.p.c,AV.int .i64 x.p.e],.box [AV.fn (QOp.fn x.o) [] []]]∧3=3∧x.x.length<4611686018427387904∧x.y.length<4611686018427387904∧QOp.has x.o) fun n_2=>.all (fun(r:List UInt8×Int)=>r=if Pr.e n_2.p≠0 then([],Pr.e n_2.p) else QOp.op n_2.o n_2.x n_2.y) fun n_3=>.side (Pr.d (Pr.err n_2.p n_3.2)=Pr.d n.1) (.side (Pr.m (Pr.err n_2.p n_3.2)=Pr.m n.1) (.ex (fun(x:KX)=>eqL [AV.str n.1.m,AV.str n.1.d,AV.ptr 0 0,AV.ptr 2 0] [AV.str x.x,AV.str x.y,AV.ptr 0 0,AV.ptr 2 0]∧eqH [.box [AV.ptr 1 0],.box [AV.str (Pr.n (Pr.err n_2.p n_3.2)),AV.str (Pr.m (Pr.err n_2.p n_3.2)),AV.str (Pr.d (Pr.err n_2.p n_3.2)),AV.str (Pr.c (Pr.err n_2.p n_3.2)),AV.int .i64 (Pr.e (Pr.err n_2.p n_3.2))],.box [AV.fn (QOp.fn n_2.o) [] []]] [.box [AV.ptr 1 0],.box [AV.str x.p.n,AV.str x.p.m,AV.str x.p.d,AV.str x.p.c,AV.int .i64 x.p.e],.box [AV.fn (QOp.fn x.o) [] []]]∧3=3∧x.x.length<4611686018427387904∧x.y.length<4611686018427387904∧QOp.has x.o) fun n=>.all (fun(r:List UInt8×Int)=>r=if Pr.e n.p≠0 then([],Pr.e n.p) else QOp.op n.o n.x n.y) fun n_4=>.ite (!decide (Pr.e (Pr.err n.p n_4.2)=(0:Int))) (.leaf (.ret [.int .i64 0,.int .i64 (Pr.e (Pr.err n.p n_4.2))] [.box [.str (Pr.n (Pr.err n.p n_4.2)),.str (Pr.m (Pr.err n.p n_4.2)),.str (Pr.d (Pr.err n.p n_4.2)),.str (Pr.c (Pr.err n.p n_4.2)),.int .i64 (Pr.e (Pr.err n.p n_4.2))],.box [.ptr 0 0],.box [.fn (QOp.fn n.o) [] []]])) (.ex (fun(x:List UInt8×List UInt8)=>eqL [AV.str n_3.1,AV.str n_4.1] [AV.str x.1,AV.str x.2]∧x.1.length<4611686018427387904∧x.2.length<4611686018427387904) fun n_5=>.all (fun(r:Int×Int)=>r=ZC n_5.1 n_5.2) fun n_6=>.leaf (.ret [.int .i64 n_6.1,.int .i64 n_6.2] [.box [.str (Pr.n (Pr.err n.p n_4.2)),.str (Pr.m (Pr.err n.p n_4.2)),.str (Pr.d (Pr.err n.p n_4.2)),.str (Pr.c (Pr.err n.p n_4.2)),.int .i64 (Pr.e (Pr.err n.p n_4.2))],.box [.ptr 0 0],.box [.fn (QOp.fn n.o) [] []]]))))))))) (by kernel_rfl) ?_
 simp only [Tree.holds,zd]
 refine⟨(a,b),⟨⟨rfl,rfl,trivial⟩,trivial,by trivial,by show a.length<_; omega,by show b.length<_; omega⟩,⟨_,rfl⟩,?_⟩
 intro p hp
 have hc:=xr a b
 obtain⟨l1,l2,l3,l4⟩:=Za a b
 rw [← hp] at hc l1 l2 l3 l4
 refine⟨(p,.mul),⟨kx_k _,kx_b p,by trivial,trivial⟩,⟨(),trivial⟩,?_⟩
 intro _ _
 iterate 4 refine⟨by decide,fun _=> ?_⟩
 refine⟨⟨p,.mul,p.n,p.c⟩,⟨kx_l _ _,kx_h (p) _,by trivial,by show(p.n).length<_; omega,by show(p.c).length<_; omega,by trivial⟩,⟨_,rfl⟩,?_⟩
 intro r1 hr1
 have kr1:=jJ _ _ _ _ hr1
 iterate 2 refine⟨rfl,fun _=> ?_⟩
 refine⟨⟨p.err r1.2,.mul,p.m,p.d⟩,⟨kx_l _ _,kx_h (p.err r1.2) _,by trivial,by show(p.m).length<_; omega,by show(p.d).length<_; omega,by trivial⟩,⟨_,rfl⟩,?_⟩
 intro r2 hr2
 have kr2:=jJ _ _ _ _ hr2
 have hfin:=zcl hc hr1 hr2
 refine⟨fun h=> ?_,fun h=>⟨(r1.1,r2.1),⟨⟨rfl,rfl,trivial⟩,by show r1.1.length<_; omega,by show r2.1.length<_; omega⟩,⟨_,rfl⟩,?_⟩⟩
 ·have h:r2.2≠0:=by
   intro h0
   have h':(!decide (r2.2=0))=true:=h
   rw [h0] at h'; cases h'
  rw [if_pos h] at hfin
  rw [← hfin] at hq
  exact RetR.scal hq rfl (by simp [resV,Pr.err])
 ·have h:r2.2=0:=by
   have h':(!decide (r2.2=0))=false:=h
   cases hd:decide (r2.2=0) with
   | true=>exact of_decide_eq_true hd
   | false=>rw [hd] at h'; cases h'
  rw [if_neg (by rw [h]; simp)] at hfin
  rintro _ rfl
  rw [← hfin] at hq
  exact RetR.scal hq rfl (by simp [resV])
end Go.Proofs.Tryz
end
section
namespace Go.Nov
end Go.Nov
end
section
set_option maxRecDepth 100000
open Go Go.Sx Go.Proofs Go.Nov
namespace Go.Proofs.Tryz
attribute [local simp] eqKV eqA eqA0 eqH eqB eqL eqL0
structure Q4 where
 n:List UInt8
 d:List UInt8
 m:List UInt8
 c:List UInt8
 e:Int
structure QF where
 n:List UInt8
 d:List UInt8
 e:Int
 f:Int
noncomputable def K120:List Go.Sx.Item:=[.code (Tryz.f120.body.getD .skip)]
def nanS:Ctr:=ctrP true (fun s:List UInt8=>[.str s]) (fun _=>True) (fun s r=>r=false) (fun _ (r:Bool)=>(.bool r,[]))
def nanI:Ctr:=ctrP true (fun x:Int=>[.int .i64 x]) (fun _=>True) (fun s r=>r=false) (fun _ (r:Bool)=>(.bool r,[]))
theorem zjb:zc Tryz.prog 145 nanS:=by
 refine ze (fn:=Tryz.f145) (c:=Tryz.f145.body.getD .skip) rfl rfl rfl fun s hs O w0 Q hq=> ?_
 replace hq:=hq _ rfl
 refine zb.run hmix z7 [] 400 (T:=.leaf (.ret [.bool !decide (s=s)] [])) (by kernel_rfl) ?_
 simp only [Tree.holds,zd]
 exact RetR.scal hq rfl (by simp [resV])
theorem zl2:zc Tryz.prog 146 nanI:=by
 refine ze (fn:=Tryz.f146) (c:=Tryz.f146.body.getD .skip) rfl rfl rfl fun s hs O w0 Q hq=> ?_
 replace hq:=hq _ rfl
 refine zb.run hmix z7 [] 400 (T:=.leaf (.ret [.bool !decide (s=s)] [])) (by kernel_rfl) ?_
 simp only [Tree.holds,zd]
 exact RetR.scal hq rfl (by simp [resV])
def zm8:Ctr:=ctrP true (fun p:List UInt8×List UInt8=>[.str p.1,.str p.2]) (fun _=>True) (fun p r=>r=cmpS p.1 p.2) (fun _ (r:Int)=>(.int .i64 r,[]))
def zme:Ctr:=ctrP true (fun p:Int×Int=>[.int .i64 p.1,.int .i64 p.2]) (fun _=>True) (fun p r=>r=cmpI p.1 p.2) (fun _ (r:Int)=>(.int .i64 r,[]))
noncomputable def GN2:Nat→Option Ctr:=fun f=>if f=145 then some (nanS) else if f=146 then some (nanI) else none
theorem zdg:∀ g c,GN2 g=some c→zc Tryz.prog g c:=okIf zjb (okIf zl2 (zq))
theorem zks:zc Tryz.prog 121 zm8:=by
 refine ze (fn:=Tryz.f121) (c:=Tryz.f121.body.getD .skip) rfl rfl rfl fun p hs O w0 Q hq=> ?_
 obtain⟨s,t⟩:=p
 replace hq:=hq _ rfl
 simp only at hq
 refine zb.run hmix zdg [] 400 (T:=.ex (fun(x:List UInt8)=>eqL [AV.str s] [AV.str x]∧True) fun n=>.all (fun(r:Bool)=>r=false) fun n=>.ex (fun(x:List UInt8)=>eqL [AV.str t] [AV.str x]∧True) fun n_1=>.all (fun(r:Bool)=>r=false) fun n_2=>.ite n (.ite n_2 (.leaf (.ret [.int .i64 0] [])) (.leaf (.ret [.int .i64 (-1:Int)] []))) (.ite n_2 (.leaf (.ret [.int .i64 1] [])) (.ite (Op.bytesLess s t) (.leaf (.ret [.int .i64 (-1:Int)] [])) (.ite (!(Op.bytesLess s t||decide (s=t))) (.leaf (.ret [.int .i64 1] [])) (.leaf (.ret [.int .i64 0] [])))))) (by kernel_rfl) ?_
 simp only [Tree.holds,zd]
 refine⟨s,⟨by simp,trivial⟩,⟨_,rfl⟩,?_⟩
 rintro _ rfl
 refine⟨t,⟨by simp,trivial⟩,⟨_,rfl⟩,?_⟩
 rintro _ rfl
 refine⟨fun h=>(by cases h),fun _=>⟨fun h=>(by cases h),fun _=>⟨fun h=> ?_,fun h=>⟨fun h2=> ?_,fun h2=> ?_⟩⟩⟩⟩
 ·have:cmpS s t = -1:=by simp [cmpS,h]
  rw [this] at hq; exact RetR.scal hq rfl (by simp [resV])
 ·have h2:s≠t:=by simpa [h] using h2
  have:cmpS s t=1:=by simp [cmpS,h,h2]
  rw [this] at hq; exact RetR.scal hq rfl (by simp [resV])
 ·have h2:s=t:=by simpa [h] using h2
  subst h2
  have:cmpS s s=0:=by simp [cmpS,h]
  rw [this] at hq; exact RetR.scal hq rfl (by simp [resV])
theorem zkp:zc Tryz.prog 122 zme:=by
 refine ze (fn:=Tryz.f122) (c:=Tryz.f122.body.getD .skip) rfl rfl rfl fun p hs O w0 Q hq=> ?_
 obtain⟨s,t⟩:=p
 replace hq:=hq _ rfl
 simp only at hq
 refine zb.run hmix zdg [] 400 (T:=.ex (fun(x:Int)=>eqL [AV.int .i64 s] [AV.int .i64 x]∧True) fun n=>.all (fun(r:Bool)=>r=false) fun n=>.ex (fun(x:Int)=>eqL [AV.int .i64 t] [AV.int .i64 x]∧True) fun n_1=>.all (fun(r:Bool)=>r=false) fun n_2=>.ite n (.ite n_2 (.leaf (.ret [.int .i64 0] [])) (.leaf (.ret [.int .i64 (-1:Int)] []))) (.ite n_2 (.leaf (.ret [.int .i64 1] [])) (.ite (decide (s<t)) (.leaf (.ret [.int .i64 (-1:Int)] [])) (.ite (decide (t<s)) (.leaf (.ret [.int .i64 1] [])) (.leaf (.ret [.int .i64 0] [])))))) (by kernel_rfl) ?_
 simp only [Tree.holds,zd]
 refine⟨s,⟨by simp,trivial⟩,⟨_,rfl⟩,?_⟩
 rintro _ rfl
 refine⟨t,⟨by simp,trivial⟩,⟨_,rfl⟩,?_⟩
 rintro _ rfl
 refine⟨fun h=>(by cases h),fun _=>⟨fun h=>(by cases h),fun _=>⟨fun h=> ?_,fun h=>⟨fun h2=> ?_,fun h2=> ?_⟩⟩⟩⟩
 ·have h:=of_decide_eq_true h
  have:cmpI s t = -1:=by simp [cmpI,h]
  rw [this] at hq; exact RetR.scal hq rfl (by simp [resV])
 ·have h:=of_decide_eq_false h
  have h2:=of_decide_eq_true h2
  have:cmpI s t=1:=by simp [cmpI,h,h2]
  rw [this] at hq; exact RetR.scal hq rfl (by simp [resV])
 ·have h:=of_decide_eq_false h
  have h2:=of_decide_eq_false h2
  have:cmpI s t=0:=by simp [cmpI,h,h2]
  rw [this] at hq; exact RetR.scal hq rfl (by simp [resV])
def orC:Ctr:=ctrP true (fun l:List Int=>[.sl l.length 1 (fun j _=>.int .i64 (l.getD j 0))]) (fun l=>l.length<2^40) (fun l r=>r=orI l) (fun _ (r:Int)=>(.int .i64 r,[]))
def SOr(l:List Int)(i:Nat):KV:=[(3,.int .i64 0),(6,.sl l.length 1 (fun j _=>.int .i64 (l.getD j 0))),(7,.int .i64 (l.length:Int)),(8,.int .i64 (i:Int))]
theorem zoc:zc Tryz.prog 120 orC:=by
 refine ze (fn:=Tryz.f120) (c:=Tryz.f120.body.getD .skip) rfl rfl rfl fun l hl O w0 Q hq=> ?_
 replace hq:=hq _ rfl
 refine zb.run hmix z7 [3,6,7,8] 400 (T:=.leaf (.loop (Prod.fst (lps K120 0)) (Prod.snd (lps K120 0)) [(3,.int .i64 0),(6,.sl l.length 1 fun(j x:Nat)=>.int .i64 (l.getD j (0:Int))),(7,.int .i64 l.length),(8,.int .i64 0)] [])) (by kernel_rfl) ?_
 simp only [Tree.holds,zd]
 refine zb.loop (ι:={i:Nat // i≤l.length∧orI (l.drop i)=orI l}) (fun i=>SOr l i.1) (fun _=>[]) (fun i=>l.length - i.1) ⟨0,Nat.zero_le _,rfl⟩ 0 ?_ ?_ (by kernel_rfl)
 ·exact⟨by simp [SOr,za],by simp,by kernel_rfl,Nat.zero_le _⟩
 ·rintro⟨i,hil,hio⟩
  refine zb.run hmix z7 [3,6,7,8] 400 (T:=.ite (decide ((↑i:Int)<l.length)) (.side ((0:Int)≤i∧(↑i:Int)<l.length) (.ite (!decide (l.getD (↑i:Int).toNat (0:Int)=0)) (.leaf (.ret [.int .i64 (l.getD (↑i:Int).toNat (0:Int))] [])) (.side (inR .i64 ((↑i:Int)+(1:Int))) (.leaf (.back 0 [(3,.int .i64 0),(6,.sl l.length 1 fun(j x:Nat)=>.int .i64 (l.getD j (0:Int))),(7,.int .i64 l.length),(8,.int .i64 ((↑i:Int)+(1:Int)))] []))))) (.leaf (.ret [.int .i64 0] []))) (by kernel_rfl) ?_
  simp only [Tree.holds,zd,inR,lo,hi,Int.toNat_natCast]
  refine⟨fun hlt=> ?_,fun hge=> ?_⟩
  ·have hlt:i<l.length:=by have:=of_decide_eq_true hlt; omega
   have hd:l.drop i=l.getD i 0::l.drop (i+1):=by
    rw [List.drop_eq_getElem_cons hlt]; simp [List.getD,hlt]
   rw [hd] at hio
   refine⟨by omega,fun _=>⟨fun h=> ?_,fun h=>⟨by omega,fun _=> ?_⟩⟩⟩
   ·have h:l.getD i 0≠0:=by simpa using h
    have:orI l=l.getD i 0:=by rw [← hio]; simp only [orI]; rw [if_neg h]
    rw [this] at hq; exact RetR.scal hq rfl (by simp [resV])
   ·have h:l.getD i 0=0:=by simpa using h
    rw [if_pos trivial]
    refine⟨⟨i+1,hlt,?_⟩,by show l.length - (i+1)<l.length - i; omega,by simp [SOr,za],by simp,by kernel_rfl,Nat.zero_le _⟩
    rw [← hio]; simp only [orI]; rw [if_pos h]
  ·have hge:i=l.length:=by have:=of_decide_eq_false hge; omega
   subst hge
   rw [List.drop_length] at hio
   rw [← hio] at hq; exact RetR.scal hq rfl (by simp [resV,orI])
def Xy:Ctr:=ctrP true (fun p:Fx×Fx=>[p.1.av,p.2.av]) (fun _=>True) (fun p r=>r=cmpF p.1 p.2) (fun _ (r:Int)=>(.int .i64 r,[]))
def XW:Ctr:=ctrP true (fun p:Ch×Ch=>[p.1.av,p.2.av]) (fun _=>True) (fun p r=>r=cmpC p.1 p.2) (fun _ (r:Int)=>(.int .i64 r,[]))
noncomputable def GN3:Nat→Option Ctr:=fun f=>if f=121 then some (zm8) else if f=122 then some (zme) else if f=120 then some (orC) else none
theorem zep:∀ g c,GN3 g=some c→zc Tryz.prog g c:=okIf zks (okIf zkp (okIf zoc (zq)))
theorem zc8(x y:Int):eqG 2 1 (zg (zh 1 [.int .i64 x,.int .i64 y]) 0) (fun j _=>.int .i64 ([x,y].getD j 0)):=by
 intro j o hj ho
 have ho:o=0:=by omega
 subst ho
 rcases j with _ | _ | j
 ·rfl
 ·rfl
 ·omega
theorem zdb(x y z:Int):eqG 3 1 (zg (zh 1 [.int .i64 x,.int .i64 y,.int .i64 z]) 0) (fun j _=>.int .i64 ([x,y,z].getD j 0)):=by
 intro j o hj ho
 have ho:o=0:=by omega
 subst ho
 rcases j with _ | _ | _ | j
 ·rfl
 ·rfl
 ·rfl
 ·omega
theorem YG:zc Tryz.prog 72 Xy:=by
 refine ze (fn:=Tryz.f72) (c:=Tryz.f72.body.getD .skip) rfl rfl rfl fun p hs O w0 Q hq=> ?_
 obtain⟨⟨a,d,v⟩,⟨b,e,u⟩⟩:=p
 replace hq:=hq _ rfl
 simp only at hq
 refine zb.run hmix zep [] 400 (T:=.ex (fun(x:List UInt8×List UInt8)=>eqL [AV.str a,AV.str b] [AV.str x.1,AV.str x.2]∧True) fun n=>.all (fun(r:Int)=>r=cmpS n.1 n.2) fun n=>.ex (fun(x:Int×Int)=>eqL [AV.int .i64 d,AV.int .i64 e] [AV.int .i64 x.1,AV.int .i64 x.2]∧True) fun n_1=>.all (fun(r:Int)=>r=cmpI n_1.1 n_1.2) fun n_2=>.ex (fun(x:List Int)=>eqL [AV.sl 2 1 (zg (zh 1 [AV.int .i64 n,AV.int .i64 n_2]) 0)] [AV.sl x.length 1 fun(j x_1:Nat)=>AV.int .i64 (x.getD j (0:Int))]∧x.length<1099511627776) fun n_3=>.all (fun(r:Int)=>r=orI n_3) fun n_4=>.leaf (.ret [.int .i64 n_4] [.box [.str a,.int .i64 d,.str v],.box [.str b,.int .i64 e,.str u],.arr 2 1 (zh 1 [.int .i64 n,.int .i64 n_2])])) (by kernel_rfl) ?_
 simp only [Tree.holds,zd]
 refine⟨(a,b),⟨by simp,trivial⟩,⟨_,rfl⟩,?_⟩
 rintro _ rfl
 refine⟨(d,e),⟨by simp,trivial⟩,⟨_,rfl⟩,?_⟩
 rintro _ rfl
 refine⟨[cmpS a b,cmpI d e],⟨⟨⟨rfl,rfl,zc8 _ _⟩,trivial⟩,by simp⟩,⟨_,rfl⟩,?_⟩
 rintro _ rfl
 have:orI [cmpS a b,cmpI d e]=cmpF ⟨a,d,v⟩ ⟨b,e,u⟩:=by
  simp only [orI,cmpF]
  by_cases h:cmpS a b=0
  ·simp only [h,if_true]; split<;>simp_all
  ·simp only [if_neg h]
 rw [this]
 exact RetR.scal hq rfl (by simp [resV])
theorem Ux:zc Tryz.prog 74 XW:=by
 refine ze (fn:=Tryz.f74) (c:=Tryz.f74.body.getD .skip) rfl rfl rfl fun p hs O w0 Q hq=> ?_
 obtain⟨⟨a,d,v,f⟩,⟨b,e,u,g⟩⟩:=p
 replace hq:=hq _ rfl
 simp only at hq
 refine zb.run hmix zep [] 400 (T:=.ex (fun(x:List UInt8×List UInt8)=>eqL [AV.str a,AV.str b] [AV.str x.1,AV.str x.2]∧True) fun n=>.all (fun(r:Int)=>r=cmpS n.1 n.2) fun n=>.ex (fun(x:List UInt8×List UInt8)=>eqL [AV.str d,AV.str e] [AV.str x.1,AV.str x.2]∧True) fun n_1=>.all (fun(r:Int)=>r=cmpS n_1.1 n_1.2) fun n_2=>.ex (fun(x:Int×Int)=>eqL [AV.int .i64 v,AV.int .i64 u] [AV.int .i64 x.1,AV.int .i64 x.2]∧True) fun n_3=>.all (fun(r:Int)=>r=cmpI n_3.1 n_3.2) fun n_4=>.ex (fun(x:List Int)=>eqL [AV.sl 3 1 (zg (zh 1 [AV.int .i64 n,AV.int .i64 n_2,AV.int .i64 n_4]) 0)] [AV.sl x.length 1 fun(j x_1:Nat)=>AV.int .i64 (x.getD j (0:Int))]∧x.length<1099511627776) fun n_5=>.all (fun(r:Int)=>r=orI n_5) fun n_6=>.leaf (.ret [.int .i64 n_6] [.box [.str a,.str d,.int .i64 v,.bool f],.box [.str b,.str e,.int .i64 u,.bool g],.arr 3 1 (zh 1 [.int .i64 n,.int .i64 n_2,.int .i64 n_4])])) (by kernel_rfl) ?_
 simp only [Tree.holds,zd]
 refine⟨(a,b),⟨by simp,trivial⟩,⟨_,rfl⟩,?_⟩
 rintro _ rfl
 refine⟨(d,e),⟨by simp,trivial⟩,⟨_,rfl⟩,?_⟩
 rintro _ rfl
 refine⟨(v,u),⟨by simp,trivial⟩,⟨_,rfl⟩,?_⟩
 rintro _ rfl
 refine⟨[cmpS a b,cmpS d e,cmpI v u],⟨⟨⟨rfl,rfl,zdb _ _ _⟩,trivial⟩,by simp⟩,⟨_,rfl⟩,?_⟩
 rintro _ rfl
 have:orI [cmpS a b,cmpS d e,cmpI v u]=cmpC ⟨a,d,v,f⟩ ⟨b,e,u,g⟩:=by
  simp only [orI,cmpC]
  by_cases h:cmpS a b=0
  ·simp only [h,if_true]
   by_cases h2:cmpS d e=0
   ·simp only [h2,if_true]; split<;>simp_all
   ·simp only [if_neg h2]
  ·simp only [if_neg h]
 rw [this]
 exact RetR.scal hq rfl (by simp [resV])
noncomputable def K118:List Go.Sx.Item:=[.code (Tryz.f118.body.getD .skip)]
noncomputable def K119:List Go.Sx.Item:=[.code (Tryz.f119.body.getD .skip)]
noncomputable def K71:List Go.Sx.Item:=[.code (Tryz.f71.body.getD .skip)]
noncomputable def K73:List Go.Sx.Item:=[.code (Tryz.f73.body.getD .skip)]
def yl(f:Fx):Prop:=f.name.length<2^40∧f.value.length<2^40
def yz(c:Ch):Prop:=c.qx.length<2^40∧c.name.length<2^40
def zln:Ctr:=ctrP true (fun f:Fx=>[f.av]) yl (fun f r=>r = !okF f) (fun _ (r:Bool)=>(.bool r,[]))
def zm7:Ctr:=ctrP true (fun c:Ch=>[c.av]) yz (fun c r=>r = !okC c) (fun _ (r:Bool)=>(.bool r,[]))
noncomputable def GE1:Nat→Option Ctr:=fun f=>if f=49 then some (W4) else if f=67 then some (Ke) else if f=50 then some (yS) else none
theorem zdk:∀ g c,GE1 g=some c→zc Tryz.prog g c:=okIf ZL (okIf W0 (okIf ya (zq)))
theorem zkl:zc Tryz.prog 66 zln:=by
 refine ze (fn:=Tryz.f66) (c:=Tryz.f66.body.getD .skip) rfl rfl rfl fun f hs O w0 Q hq=> ?_
 obtain⟨a,d,v⟩:=f
 obtain⟨h1,h2⟩:=hs
 replace hq:=hq _ rfl
 simp only [okF] at hq h1 h2
 refine zb.run hmix zdk [] 400 (T:=.ex (fun(x:List UInt8)=>eqL [AV.str a] [AV.str x]∧x.length<4611686018427387904) fun n=>.all (fun(r:Bool)=>r=zX n) fun n=>.ex (fun(x:Int)=>(!n)=false→eqL [AV.int .i64 d] [AV.int .i64 x]∧True) fun n_1=>.all (fun(x:Bool)=>(!n)=false→x=dayB n_1) fun n_2=>.ex (fun(x:List UInt8)=>(bif !n then true else !n_2)=false→eqL [AV.str v] [AV.str x]∧x.length<4611686018427387904) fun n_3=>.all (fun(x:Int)=>(bif !n then true else !n_2)=false→x=errR n_3) fun n_4=>.leaf (.ret [.bool (bif bif !n then true else !n_2 then true else !decide (n_4=0))] [.box [.str a,.int .i64 d,.str v]])) (by kernel_rfl) ?_
 simp only [Tree.holds,zd]
 refine⟨a,⟨by simp,by omega⟩,⟨_,rfl⟩,?_⟩
 rintro _ rfl
 refine⟨d,fun _=>⟨by simp,trivial⟩,⟨_,fun _=>rfl⟩,?_⟩
 intro x hx
 refine⟨v,fun _=>⟨by simp,by omega⟩,⟨_,fun _=>rfl⟩,?_⟩
 intro y hy
 refine RetR.scal hq rfl ?_
 simp only [resV]
 cases hn:zX a with
 | false=>rfl
 | true=>
  rw [hx (by rw [hn]; rfl)] at hy ⊢
  cases hd:dayB d with
  | false=>rfl
  | true=>rw [hy (by rw [hn,hd]; rfl)]; rfl
theorem zla:zc Tryz.prog 68 zm7:=by
 refine ze (fn:=Tryz.f68) (c:=Tryz.f68.body.getD .skip) rfl rfl rfl fun f hs O w0 Q hq=> ?_
 obtain⟨a,v,d,f⟩:=f
 obtain⟨h1,h2⟩:=hs
 replace hq:=hq _ rfl
 simp only [okC] at hq h1 h2
 refine zb.run hmix zdk [] 400 (T:=.ex (fun(x:List UInt8)=>eqL [AV.str a] [AV.str x]∧x.length<4611686018427387904) fun n=>.all (fun(r:Bool)=>r=zX n) fun n=>.ex (fun(x:List UInt8)=>(!n)=false→eqL [AV.str v] [AV.str x]∧x.length<4611686018427387904) fun n_1=>.all (fun(x:Bool)=>(!n)=false→x=zX n_1) fun n_2=>.ex (fun(x:Int)=>(bif !n then true else !n_2)=false→eqL [AV.int .i64 d] [AV.int .i64 x]∧True) fun n_3=>.all (fun(x:Bool)=>(bif !n then true else !n_2)=false→x=dayB n_3) fun n_4=>.leaf (.ret [.bool (bif bif !n then true else !n_2 then true else !n_4)] [.box [.str a,.str v,.int .i64 d,.bool f]])) (by kernel_rfl) ?_
 simp only [Tree.holds,zd]
 refine⟨a,⟨by simp,by omega⟩,⟨_,rfl⟩,?_⟩
 rintro _ rfl
 refine⟨v,fun _=>⟨by simp,by omega⟩,⟨_,fun _=>rfl⟩,?_⟩
 intro x hx
 refine⟨d,fun _=>⟨by simp,trivial⟩,⟨_,fun _=>rfl⟩,?_⟩
 intro y hy
 refine RetR.scal hq rfl ?_
 simp only [resV]
 cases hn:zX a with
 | false=>rfl
 | true=>
  rw [hx (by rw [hn]; rfl)] at hy ⊢
  cases hd:zX v with
  | false=>rfl
  | true=>rw [hy (by rw [hn,hd]; rfl)]; rfl
def zlr:Ctr:=ctrP true (fun l:List Fx=>[fxS l,.fn 66 [] []]) (fun l=>l.length<2^40∧∀ j,j<l.length→yl (l.getD j Fx.nil)) (fun l r=>r=idxB (fun x=> !okF x) l) (fun _ (r:Int)=>(.int .i64 r,[]))
def SIxF(l:List Fx)(i:Nat):KV:=[(0,fxS l),(1,.fn 66 [] []),(7,.int .i64 (l.length:Int)),(8,.int .i64 (i:Int))]
noncomputable def GE2F:Nat→Option Ctr:=fun f=>if f=66 then some (zln) else none
theorem za5:∀ g c,GE2F g=some c→zc Tryz.prog g c:=okIf zkl (zq)
theorem zix:zc Tryz.prog 118 zlr:=by
 refine ze (fn:=Tryz.f118) (c:=Tryz.f118.body.getD .skip) rfl rfl rfl fun l hl O w0 Q hq=> ?_
 obtain⟨hl,hsm⟩:=hl
 replace hq:=hq _ rfl
 refine zb.run hmix za5 [0,1,7,8] 400 (T:=.leaf (.loop (Prod.fst (lps K118 0)) (Prod.snd (lps K118 0)) [(0,.sl l.length 3 (fxG l)),(1,.fn 66 [] []),(7,.int .i64 l.length),(8,.int .i64 0)] [])) (by kernel_rfl) ?_
 simp only [Tree.holds,zd]
 refine zb.loop (ι:={i:Nat // i≤l.length∧∀ j,j<i→(!okF (l.getD j Fx.nil))=false}) (fun i=>SIxF l i.1) (fun _=>[]) (fun i=>l.length - i.1) ⟨0,Nat.zero_le _,fun j hj=>by omega⟩ 0 ?_ ?_ (by kernel_rfl)
 ·exact⟨by simp [SIxF,fxS,za],by simp,by kernel_rfl,Nat.zero_le _⟩
 ·rintro⟨i,hil,hib⟩
  refine zb.run hmix za5 [0,1,7,8] 400 (T:=.ite (decide ((↑i:Int)<l.length)) (.side ((0:Int)≤i∧(↑i:Int)<l.length) (.ex (fun(x:Fx)=>eqL [AV.agg [AV.str (Fx.name (l.getD (↑i:Int).toNat Fx.nil)),AV.int .i64 (Fx.date (l.getD (↑i:Int).toNat Fx.nil)),AV.str (Fx.value (l.getD (↑i:Int).toNat Fx.nil))]] [AV.agg [AV.str x.name,AV.int .i64 x.date,AV.str x.value]]∧yl x) fun n=>.all (fun(r:Bool)=>r = !okF n) fun n=>.ite n (.leaf (.ret [.int .i64 i] [])) (.side (inR .i64 ((↑i:Int)+(1:Int))) (.leaf (.back 0 [(0,.sl l.length 3 (fxG l)),(1,.fn 66 [] []),(7,.int .i64 l.length),(8,.int .i64 ((↑i:Int)+(1:Int)))] []))))) (.leaf (.ret [.int .i64 (-1:Int)] []))) (by kernel_rfl) ?_
  simp only [Tree.holds,zd,inR,lo,hi,Int.toNat_natCast]
  refine⟨fun hlt=> ?_,fun hge=> ?_⟩
  ·have hlt:i<l.length:=by have:=of_decide_eq_true hlt; omega
   refine⟨by omega,fun _=>⟨l.getD i Fx.nil,⟨by simp,hsm i hlt⟩,⟨_,rfl⟩,?_⟩⟩
   rintro _ rfl
   refine⟨fun h=> ?_,fun h=>⟨by omega,fun _=> ?_⟩⟩
   ·rw [zau hlt h hib] at hq
    exact RetR.scal hq rfl (by simp [resV])
   ·rw [if_pos trivial]
    refine⟨⟨i+1,hlt,fun j hj=> ?_⟩,by show l.length - (i+1)<l.length - i; omega,by simp [SIxF,fxS,za],by simp,by kernel_rfl,Nat.zero_le _⟩
    rcases Nat.lt_or_ge j i with h1 | h1
    ·exact hib j h1
    ·have:j=i:=by omega
     rw [this]; exact h
  ·have hge:i=l.length:=by have:=of_decide_eq_false hge; omega
   subst hge
   rw [WE hib] at hq
   exact RetR.scal hq rfl (by simp [resV])
def zm2:Ctr:=ctrP true (fun l:List Fx=>[fxS l,.fn 66 [] []]) (fun l=>l.length<2^40∧∀ j,j<l.length→yl (l.getD j Fx.nil)) (fun l r=>r=l.any fun x=> !okF x) (fun _ (r:Bool)=>(.bool r,[]))
noncomputable def GE3F:Nat→Option Ctr:=fun f=>if f=118 then some (zlr) else none
theorem zj2:∀ g c,GE3F g=some c→zc Tryz.prog g c:=okIf zix (zq)
theorem zkt:zc Tryz.prog 69 zm2:=by
 refine ze (fn:=Tryz.f69) (c:=Tryz.f69.body.getD .skip) rfl rfl rfl fun l hl O w0 Q hq=> ?_
 replace hq:=hq _ rfl
 refine zb.run hmix zj2 [] 400 (T:=.ex (fun(x:List Fx)=>eqL [AV.sl l.length 3 (fxG l),AV.fn 66 [] []] [AV.sl x.length 3 (fxG x),AV.fn 66 [] []]∧x.length<1099511627776∧∀ (j:Nat),j<x.length→yl (x.getD j Fx.nil)) fun n=>.all (fun(r:Int)=>r=idxB (fun(x:Fx)=> !okF x) n) fun n=>.leaf (.ret [.bool (decide ((0:Int)≤n))] [])) (by kernel_rfl) ?_
 simp only [Tree.holds,zd]
 refine⟨l,⟨by simp [za],hl⟩,⟨_,rfl⟩,?_⟩
 rintro _ rfl
 rw [← Xi] at hq
 exact RetR.scal hq rfl (by simp [resV])
def zm3:Ctr:=ctrP true (fun l:List Ch=>[chS l,.fn 68 [] []]) (fun l=>l.length<2^40∧∀ j,j<l.length→yz (l.getD j Ch.nil)) (fun l r=>r=idxB (fun x=> !okC x) l) (fun _ (r:Int)=>(.int .i64 r,[]))
def SIxC(l:List Ch)(i:Nat):KV:=[(0,chS l),(1,.fn 68 [] []),(7,.int .i64 (l.length:Int)),(8,.int .i64 (i:Int))]
noncomputable def GE2C:Nat→Option Ctr:=fun f=>if f=68 then some (zm7) else none
theorem za9:∀ g c,GE2C g=some c→zc Tryz.prog g c:=okIf zla (zq)
theorem zkm:zc Tryz.prog 119 zm3:=by
 refine ze (fn:=Tryz.f119) (c:=Tryz.f119.body.getD .skip) rfl rfl rfl fun l hl O w0 Q hq=> ?_
 obtain⟨hl,hsm⟩:=hl
 replace hq:=hq _ rfl
 refine zb.run hmix za9 [0,1,7,8] 400 (T:=.leaf (.loop (Prod.fst (lps K119 0)) (Prod.snd (lps K119 0)) [(0,.sl l.length 4 (chG l)),(1,.fn 68 [] []),(7,.int .i64 l.length),(8,.int .i64 0)] [])) (by kernel_rfl) ?_
 simp only [Tree.holds,zd]
 refine zb.loop (ι:={i:Nat // i≤l.length∧∀ j,j<i→(!okC (l.getD j Ch.nil))=false}) (fun i=>SIxC l i.1) (fun _=>[]) (fun i=>l.length - i.1) ⟨0,Nat.zero_le _,fun j hj=>by omega⟩ 0 ?_ ?_ (by kernel_rfl)
 ·exact⟨by simp [SIxC,chS,za],by simp,by kernel_rfl,Nat.zero_le _⟩
 ·rintro⟨i,hil,hib⟩
  refine zb.run hmix za9 [0,1,7,8] 400 (T:=.ite (decide ((↑i:Int)<l.length)) (.side ((0:Int)≤i∧(↑i:Int)<l.length) (.ex (fun(x:Ch)=>eqL [AV.agg [AV.str (Ch.qx (l.getD (↑i:Int).toNat Ch.nil)),AV.str (Ch.name (l.getD (↑i:Int).toNat Ch.nil)),AV.int .i64 (Ch.date (l.getD (↑i:Int).toNat Ch.nil)),AV.bool (Ch.first (l.getD (↑i:Int).toNat Ch.nil))]] [AV.agg [AV.str x.qx,AV.str x.name,AV.int .i64 x.date,AV.bool x.first]]∧yz x) fun n=>.all (fun(r:Bool)=>r = !okC n) fun n=>.ite n (.leaf (.ret [.int .i64 i] [])) (.side (inR .i64 ((↑i:Int)+(1:Int))) (.leaf (.back 0 [(0,.sl l.length 4 (chG l)),(1,.fn 68 [] []),(7,.int .i64 l.length),(8,.int .i64 ((↑i:Int)+(1:Int)))] []))))) (.leaf (.ret [.int .i64 (-1:Int)] []))) (by kernel_rfl) ?_
  simp only [Tree.holds,zd,inR,lo,hi,Int.toNat_natCast]
  refine⟨fun hlt=> ?_,fun hge=> ?_⟩
  ·have hlt:i<l.length:=by have:=of_decide_eq_true hlt; omega
   refine⟨by omega,fun _=>⟨l.getD i Ch.nil,⟨by simp,hsm i hlt⟩,⟨_,rfl⟩,?_⟩⟩
   rintro _ rfl
   refine⟨fun h=> ?_,fun h=>⟨by omega,fun _=> ?_⟩⟩
   ·rw [zau hlt h hib] at hq
    exact RetR.scal hq rfl (by simp [resV])
   ·rw [if_pos trivial]
    refine⟨⟨i+1,hlt,fun j hj=> ?_⟩,by show l.length - (i+1)<l.length - i; omega,by simp [SIxC,chS,za],by simp,by kernel_rfl,Nat.zero_le _⟩
    rcases Nat.lt_or_ge j i with h1 | h1
    ·exact hib j h1
    ·have:j=i:=by omega
     rw [this]; exact h
  ·have hge:i=l.length:=by have:=of_decide_eq_false hge; omega
   subst hge
   rw [WE hib] at hq
   exact RetR.scal hq rfl (by simp [resV])
def zm5:Ctr:=ctrP true (fun l:List Ch=>[chS l,.fn 68 [] []]) (fun l=>l.length<2^40∧∀ j,j<l.length→yz (l.getD j Ch.nil)) (fun l r=>r=l.any fun x=> !okC x) (fun _ (r:Bool)=>(.bool r,[]))
noncomputable def GE3C:Nat→Option Ctr:=fun f=>if f=119 then some (zm3) else none
theorem zkz:∀ g c,GE3C g=some c→zc Tryz.prog g c:=okIf zkm (zq)
theorem zlf:zc Tryz.prog 70 zm5:=by
 refine ze (fn:=Tryz.f70) (c:=Tryz.f70.body.getD .skip) rfl rfl rfl fun l hl O w0 Q hq=> ?_
 replace hq:=hq _ rfl
 refine zb.run hmix zkz [] 400 (T:=.ex (fun(x:List Ch)=>eqL [AV.sl l.length 4 (chG l),AV.fn 68 [] []] [AV.sl x.length 4 (chG x),AV.fn 68 [] []]∧x.length<1099511627776∧∀ (j:Nat),j<x.length→yz (x.getD j Ch.nil)) fun n=>.all (fun(r:Int)=>r=idxB (fun(x:Ch)=> !okC x) n) fun n=>.leaf (.ret [.bool (decide ((0:Int)≤n))] [])) (by kernel_rfl) ?_
 simp only [Tree.holds,zd]
 refine⟨l,⟨by simp [za],hl⟩,⟨_,rfl⟩,?_⟩
 rintro _ rfl
 rw [← Xi] at hq
 exact RetR.scal hq rfl (by simp [resV])
def zm6:Ctr:=ctrP true (fun l:List Fx=>[fxS l,.fn 72 [] []]) (fun l=>l.length<2^40) (fun l r=>r=ordB cmpF Fx.nil l) (fun _ (r:Bool)=>(.bool r,[]))
def SOdF(l:List Fx)(i:Nat):KV:=[(0,fxS l),(1,.fn 72 [] []),(5,.int .i64 (i:Int))]
noncomputable def GE4F:Nat→Option Ctr:=fun f=>if f=72 then some (Xy) else none
theorem zb6:∀ g c,GE4F g=some c→zc Tryz.prog g c:=okIf YG (zq)
theorem zjd:zc Tryz.prog 71 zm6:=by
 refine ze (fn:=Tryz.f71) (c:=Tryz.f71.body.getD .skip) rfl rfl rfl fun l hl O w0 Q hq=> ?_
 replace hq:=hq _ rfl
 refine zb.run hmix zb6 [0,1,5] 400 (T:=.leaf (.loop (Prod.fst (lps K71 0)) (Prod.snd (lps K71 0)) [(0,.sl l.length 3 (fxG l)),(1,.fn 72 [] []),(5,.int .i64 1)] [])) (by kernel_rfl) ?_
 simp only [Tree.holds,zd]
 refine zb.loop (ι:={i:Nat // 0<i∧(i≤l.length∨i=1)∧∀ j,j+1<i→cmpF (l.getD j Fx.nil) (l.getD (j+1) Fx.nil)<0}) (fun i=>SOdF l i.1) (fun _=>[]) (fun i=>l.length - i.1) ⟨1,Nat.one_pos,.inr rfl,fun j hj=>by omega⟩ 0 ?_ ?_ (by kernel_rfl)
 ·exact⟨by simp [SOdF,fxS,za],by simp,by kernel_rfl,Nat.zero_le _⟩
 ·rintro⟨i,hi0,hil,hib⟩
  refine zb.run hmix zb6 [0,1,5] 400 (T:=.ite (decide ((↑i:Int)<l.length)) (.side (inR .i64 ((↑i:Int) - (1:Int))) (.side ((0:Int)≤i - (1:Int)∧(↑i:Int) - (1:Int)<l.length) (.side ((0:Int)≤i∧(↑i:Int)<l.length) (.ex (fun(x:Fx×Fx)=>eqL [AV.agg [AV.str (Fx.name (l.getD (Int.toNat ((↑i:Int) - (1:Int))) Fx.nil)),AV.int .i64 (Fx.date (l.getD (Int.toNat ((↑i:Int) - (1:Int))) Fx.nil)),AV.str (Fx.value (l.getD (Int.toNat ((↑i:Int) - (1:Int))) Fx.nil))],AV.agg [AV.str (Fx.name (l.getD (↑i:Int).toNat Fx.nil)),AV.int .i64 (Fx.date (l.getD (↑i:Int).toNat Fx.nil)),AV.str (Fx.value (l.getD (↑i:Int).toNat Fx.nil))]] [AV.agg [AV.str x.1.name,AV.int .i64 x.1.date,AV.str x.1.value],AV.agg [AV.str x.2.name,AV.int .i64 x.2.date,AV.str x.2.value]]∧True) fun n=>.all (fun(r:Int)=>r=cmpF n.1 n.2) fun n=>.ite (decide ((0:Int)≤n)) (.leaf (.ret [.bool false] [])) (.side (inR .i64 ((↑i:Int)+(1:Int))) (.leaf (.back 0 [(0,.sl l.length 3 (fxG l)),(1,.fn 72 [] []),(5,.int .i64 ((↑i:Int)+(1:Int)))] []))))))) (.leaf (.ret [.bool true] []))) (by kernel_rfl) ?_
  simp only [Tree.holds,zd,inR,lo,hi,Int.toNat_natCast]
  have e:((i:Int) - 1).toNat=i - 1:=by omega
  have e2:i - 1+1=i:=by omega
  refine⟨fun hlt=> ?_,fun hge=> ?_⟩
  ·have hlt:i<l.length:=by have:=of_decide_eq_true hlt; omega
   simp only [e]
   refine⟨by omega,fun _=>⟨by omega,fun _=>⟨by omega,fun _=>⟨(l.getD (i - 1) Fx.nil,l.getD i Fx.nil),⟨by simp,trivial⟩,⟨_,rfl⟩,?_⟩⟩⟩⟩
   rintro _ rfl
   refine⟨fun h=> ?_,fun h=>⟨by omega,fun _=> ?_⟩⟩
   ·have h:=of_decide_eq_true h
    rw [ZY (z:=Fx.nil) (j:=i - 1) (by omega) (by rw [e2]; simp only at h; omega)] at hq
    exact RetR.scal hq rfl (by simp [resV])
   ·have h:=of_decide_eq_false h
    rw [if_pos trivial]
    refine⟨⟨i+1,by omega,.inl hlt,fun j hj=> ?_⟩,by show l.length - (i+1)<l.length - i; omega,by simp [SOdF,fxS,za],by simp,by kernel_rfl,Nat.zero_le _⟩
    rcases Nat.lt_or_ge (j+1) i with h1 | h1
    ·exact hib j h1
    ·have:j=i - 1:=by omega
     rw [this,e2]; simp only at h; omega
  ·have hge:l.length≤i:=by have:=of_decide_eq_false hge; omega
   rw [yT (z:=Fx.nil) fun j hj=>hib j (by omega)] at hq
   exact RetR.scal hq rfl (by simp [resV])
def zlu:Ctr:=ctrP true (fun l:List Ch=>[chS l,.fn 74 [] []]) (fun l=>l.length<2^40) (fun l r=>r=ordB cmpC Ch.nil l) (fun _ (r:Bool)=>(.bool r,[]))
def SOdC(l:List Ch)(i:Nat):KV:=[(0,chS l),(1,.fn 74 [] []),(5,.int .i64 (i:Int))]
noncomputable def GE4C:Nat→Option Ctr:=fun f=>if f=74 then some (XW) else none
theorem zar:∀ g c,GE4C g=some c→zc Tryz.prog g c:=okIf Ux (zq)
theorem zjo:zc Tryz.prog 73 zlu:=by
 refine ze (fn:=Tryz.f73) (c:=Tryz.f73.body.getD .skip) rfl rfl rfl fun l hl O w0 Q hq=> ?_
 replace hq:=hq _ rfl
 refine zb.run hmix zar [0,1,5] 400 (T:=.leaf (.loop (Prod.fst (lps K73 0)) (Prod.snd (lps K73 0)) [(0,.sl l.length 4 (chG l)),(1,.fn 74 [] []),(5,.int .i64 1)] [])) (by kernel_rfl) ?_
 simp only [Tree.holds,zd]
 refine zb.loop (ι:={i:Nat // 0<i∧(i≤l.length∨i=1)∧∀ j,j+1<i→cmpC (l.getD j Ch.nil) (l.getD (j+1) Ch.nil)<0}) (fun i=>SOdC l i.1) (fun _=>[]) (fun i=>l.length - i.1) ⟨1,Nat.one_pos,.inr rfl,fun j hj=>by omega⟩ 0 ?_ ?_ (by kernel_rfl)
 ·exact⟨by simp [SOdC,chS,za],by simp,by kernel_rfl,Nat.zero_le _⟩
 ·rintro⟨i,hi0,hil,hib⟩
  refine zb.run hmix zar [0,1,5] 400 (T:=.ite (decide ((↑i:Int)<l.length)) (.side (inR .i64 ((↑i:Int) - (1:Int))) (.side ((0:Int)≤i - (1:Int)∧(↑i:Int) - (1:Int)<l.length) (.side ((0:Int)≤i∧(↑i:Int)<l.length) (.ex (fun(x:Ch×Ch)=>eqL [AV.agg [AV.str (Ch.qx (l.getD (Int.toNat ((↑i:Int) - (1:Int))) Ch.nil)),AV.str (Ch.name (l.getD (Int.toNat ((↑i:Int) - (1:Int))) Ch.nil)),AV.int .i64 (Ch.date (l.getD (Int.toNat ((↑i:Int) - (1:Int))) Ch.nil)),AV.bool (Ch.first (l.getD (Int.toNat ((↑i:Int) - (1:Int))) Ch.nil))],AV.agg [AV.str (Ch.qx (l.getD (↑i:Int).toNat Ch.nil)),AV.str (Ch.name (l.getD (↑i:Int).toNat Ch.nil)),AV.int .i64 (Ch.date (l.getD (↑i:Int).toNat Ch.nil)),AV.bool (Ch.first (l.getD (↑i:Int).toNat Ch.nil))]] [AV.agg [AV.str x.1.qx,AV.str x.1.name,AV.int .i64 x.1.date,AV.bool x.1.first],AV.agg [AV.str x.2.qx,AV.str x.2.name,AV.int .i64 x.2.date,AV.bool x.2.first]]∧True) fun n=>.all (fun(r:Int)=>r=cmpC n.1 n.2) fun n=>.ite (decide ((0:Int)≤n)) (.leaf (.ret [.bool false] [])) (.side (inR .i64 ((↑i:Int)+(1:Int))) (.leaf (.back 0 [(0,.sl l.length 4 (chG l)),(1,.fn 74 [] []),(5,.int .i64 ((↑i:Int)+(1:Int)))] []))))))) (.leaf (.ret [.bool true] []))) (by kernel_rfl) ?_
  simp only [Tree.holds,zd,inR,lo,hi,Int.toNat_natCast]
  have e:((i:Int) - 1).toNat=i - 1:=by omega
  have e2:i - 1+1=i:=by omega
  refine⟨fun hlt=> ?_,fun hge=> ?_⟩
  ·have hlt:i<l.length:=by have:=of_decide_eq_true hlt; omega
   simp only [e]
   refine⟨by omega,fun _=>⟨by omega,fun _=>⟨by omega,fun _=>⟨(l.getD (i - 1) Ch.nil,l.getD i Ch.nil),⟨by simp,trivial⟩,⟨_,rfl⟩,?_⟩⟩⟩⟩
   rintro _ rfl
   refine⟨fun h=> ?_,fun h=>⟨by omega,fun _=> ?_⟩⟩
   ·have h:=of_decide_eq_true h
    rw [ZY (z:=Ch.nil) (j:=i - 1) (by omega) (by rw [e2]; simp only at h; omega)] at hq
    exact RetR.scal hq rfl (by simp [resV])
   ·have h:=of_decide_eq_false h
    rw [if_pos trivial]
    refine⟨⟨i+1,by omega,.inl hlt,fun j hj=> ?_⟩,by show l.length - (i+1)<l.length - i; omega,by simp [SOdC,chS,za],by simp,by kernel_rfl,Nat.zero_le _⟩
    rcases Nat.lt_or_ge (j+1) i with h1 | h1
    ·exact hib j h1
    ·have:j=i - 1:=by omega
     rw [this,e2]; simp only at h; omega
  ·have hge:l.length≤i:=by have:=of_decide_eq_false hge; omega
   rw [yT (z:=Ch.nil) fun j hj=>hib j (by omega)] at hq
   exact RetR.scal hq rfl (by simp [resV])
def envP(p:List Fx×List Ch):Prop:=p.1.length<2^40∧p.2.length<2^40∧(∀ j,j<p.1.length→yl (p.1.getD j Fx.nil))∧∀ j,j<p.2.length→yz (p.2.getD j Ch.nil)
def Vw:Ctr:=ctrP true (fun p:List Fx×List Ch=>[envA p.1 p.2]) envP (fun p r=>r=errE p.1 p.2) (fun _ (r:Int)=>(.int .i64 r,[]))
noncomputable def GE5:Nat→Option Ctr:=fun f=>if f=69 then some (zm2) else if f=70 then some (zm5) else if f=71 then some (zm6) else if f=73 then some (zlu) else none
theorem zn1:∀ g c,GE5 g=some c→zc Tryz.prog g c:=okIf zkt (okIf zlf (okIf zjd (okIf zjo (zq))))
theorem Wa:zc Tryz.prog 24 Vw:=by
 refine ze (fn:=Tryz.f24) (c:=Tryz.f24.body.getD .skip) rfl rfl rfl fun p hp O w0 Q hq=> ?_
 obtain⟨f,c⟩:=p
 obtain⟨h1,h2,h3,h4⟩:=hp
 replace hq:=hq _ rfl
 simp only at hq h1 h2 h3 h4
 refine zb.run hmix zn1 [] 400 (T:=.ite (bif decide ((1000:Int)<f.length) then true else decide ((1000:Int)<c.length)) (.leaf (.ret [.int .i64 4] [.box [.sl f.length 3 (fxG f),.sl c.length 4 (chG c)]])) (.ex (fun(x:List Fx)=>eqL [AV.sl f.length 3 (fxG f),AV.fn 66 [] []] [AV.sl x.length 3 (fxG x),AV.fn 66 [] []]∧x.length<1099511627776∧∀ (j:Nat),j<x.length→yl (x.getD j Fx.nil)) fun n=>.all (fun(r:Bool)=>r=List.any n fun(x:Fx)=> !okF x) fun n=>.ex (fun(x:List Ch)=>n=false→eqL [AV.sl c.length 4 (chG c),AV.fn 68 [] []] [AV.sl x.length 4 (chG x),AV.fn 68 [] []]∧x.length<1099511627776∧∀ (j:Nat),j<x.length→yz (x.getD j Ch.nil)) fun n_1=>.all (fun(x:Bool)=>n=false→x=List.any n_1 fun(x:Ch)=> !okC x) fun n_2=>.ex (fun(x:List Fx)=>(bif n then true else n_2)=false→eqL [AV.sl f.length 3 (fxG f),AV.fn 72 [] []] [AV.sl x.length 3 (fxG x),AV.fn 72 [] []]∧x.length<1099511627776) fun n_3=>.all (fun(x:Bool)=>(bif n then true else n_2)=false→x=ordB cmpF Fx.nil n_3) fun n_4=>.ex (fun(x:List Ch)=>(bif bif n then true else n_2 then true else !n_4)=false→eqL [AV.sl c.length 4 (chG c),AV.fn 74 [] []] [AV.sl x.length 4 (chG x),AV.fn 74 [] []]∧x.length<1099511627776) fun n_5=>.all (fun(x:Bool)=>(bif bif n then true else n_2 then true else !n_4)=false→x=ordB cmpC Ch.nil n_5) fun n_6=>.ite (bif bif bif n then true else n_2 then true else !n_4 then true else !n_6) (.leaf (.ret [.int .i64 8] [.box [.sl f.length 3 (fxG f),.sl c.length 4 (chG c)]])) (.leaf (.ret [.int .i64 0] [.box [.sl f.length 3 (fxG f),.sl c.length 4 (chG c)]])))) (by kernel_rfl) ?_
 simp only [Tree.holds,zd]
 refine⟨fun h=> ?_,fun h=> ?_⟩
 ·have h:1000<f.length∨1000<c.length:=by
   rw [Bool.cond_eq_ite] at h
   split at h
   ·rename_i h1; left; have:=of_decide_eq_true h1; omega
   ·right; have:=of_decide_eq_true h; omega
  have:errE f c=4:=if_pos h
  rw [this] at hq; exact RetR.scal hq rfl (by simp [resV])
 ·have h:¬ (1000<f.length∨1000<c.length):=by
   rw [Bool.cond_eq_ite] at h
   split at h
   ·cases h
   ·rename_i h1
    have h2:=of_decide_eq_false h
    rintro(h3 | h3)
    ·exact h1 (decide_eq_true (by omega))
    ·omega
  have he:errE f c=if(f.all okF&&c.all okC&&ordB cmpF Fx.nil f&&ordB cmpC Ch.nil c)=true then 0 else 8:=if_neg h
  have a1:(f.any fun x=> !okF x) = !f.all okF:=by rw [List.not_all_eq_any_not]
  have a2:(c.any fun x=> !okC x) = !c.all okC:=by rw [List.not_all_eq_any_not]
  refine⟨f,⟨by simp [za],h1,h3⟩,⟨_,rfl⟩,?_⟩
  rintro _ rfl
  refine⟨c,fun _=>⟨by simp [za],h2,h4⟩,⟨_,fun _=>rfl⟩,?_⟩
  intro b1 g1
  refine⟨f,fun _=>⟨by simp [za],h1⟩,⟨_,fun _=>rfl⟩,?_⟩
  intro b2 g2
  refine⟨c,fun _=>⟨by simp [za],h2⟩,⟨_,fun _=>rfl⟩,?_⟩
  intro b3 g3
  rw [a1] at g1 g2 g3 ⊢
  rw [a2] at g1
  clear a1 a2
  generalize f.all okF=p1 at *
  generalize c.all okC=p2 at *
  generalize ordB cmpF Fx.nil f=p3 at *
  generalize ordB cmpC Ch.nil c=p4 at *
  have key:(bif bif bif !p1 then true else b1 then true else !b2 then true else !b3) = !(p1&&p2&&p3&&p4):=by
   cases p1 with
   | false=>rfl
   | true=>
    have g1:=g1 rfl
    subst g1
    cases p2 with
    | false=>rfl
    | true=>
     have g2:=g2 rfl
     subst g2
     cases b2 with
     | false=>rfl
     | true=>have g3:=g3 rfl; subst g3; rfl
  rw [key]
  clear key g1 g2 g3
  generalize (p1&&p2&&p3&&p4)=q at *
  refine⟨fun h=> ?_,fun h=> ?_⟩
  ·cases q with
   | true=>cases h
   | false=>rw [he,if_neg (by decide)] at hq; exact RetR.scal hq rfl (by simp [resV])
  ·cases q with
   | false=>cases h
   | true=>rw [he,if_pos rfl] at hq; exact RetR.scal hq rfl (by simp [resV])
noncomputable def K25:List Go.Sx.Item:=[.code (Tryz.f25.body.getD .skip)]
def SSE(i:Nat):KV:=[(2,.ptr 0 0),(3,.ptr 1 0),(5,.int .i64 (i:Int)),(6,.undef)]
def SSE2(i:Nat):KV:=[(2,.ptr 0 0),(3,.ptr 1 0),(5,.undef),(6,.int .i64 (i:Int))]
def HSE(f f2:List Fx)(c c2:List Ch):Heap:=[.box [fxS f,chS c],.box [fxS f2,chS c2]]
def VC:Ctr:=ctrP true (fun p:(List Fx×List Ch)×(List Fx×List Ch)=>[envA p.1.1 p.1.2,envA p.2.1 p.2.2]) (fun p=>p.1.1.length<2^40∧p.1.2.length<2^40) (fun p r=>(r=true↔p.1=p.2)) (fun _ (r:Bool)=>(.bool r,[]))
theorem Xm{O:Nat→Prop}{w0:World}{Q:AV×Heap→Prop}{Hs:Nat→KV→Heap→Prop}(f f2:List Fx)(c c2:List Ch)(h2:c.length<2^40)(hf:f=f2)(hl:c.length=c2.length)(hq:∀ (r:Bool),(r=true↔(f,c)=(f2,c2))→Q (.bool r,[]))(kv:KV)(h:Heap)(hle:LeK 0 Tryz.f25.ntmps kv h (SSE2 0) (HSE f f2 c c2)) :
  zb Tryz.prog Tryz.f25 O 0 w0 [] Hs (RetR VC 0 Q) (.code (.loop (lps (inside K25 0) 0).1)::(lps (inside K25 0) 0).2) (mk Tryz.f25.ntmps kv h):=by
 refine zb.loop (ι:={i:Nat // i≤c.length∧∀ j,j<i→c.getD j Ch.nil=c2.getD j Ch.nil}) (fun i=>SSE2 i.1) (fun _=>HSE f f2 c c2) (fun i=>c.length - i.1) ⟨0,Nat.zero_le _,fun j hj=>by omega⟩ 0 hle ?_ (by kernel_rfl)
 rintro⟨i,hil,hib⟩
 refine zb.run hmix z7 [2,3,5,6] 400 (T:=.ite (decide ((↑i:Int)<c.length)) (.side ((0:Int)≤i∧(↑i:Int)<c.length) (.side ((0:Int)≤i∧(↑i:Int)<c2.length) (.ite (!(decide (Ch.qx (c.getD (↑i:Int).toNat Ch.nil)=Ch.qx (c2.getD (↑i:Int).toNat Ch.nil))&&(decide (Ch.name (c.getD (↑i:Int).toNat Ch.nil)=Ch.name (c2.getD (↑i:Int).toNat Ch.nil))&&(decide (Ch.date (c.getD (↑i:Int).toNat Ch.nil)=Ch.date (c2.getD (↑i:Int).toNat Ch.nil))&&(Ch.first (c.getD (↑i:Int).toNat Ch.nil) == Ch.first (c2.getD (↑i:Int).toNat Ch.nil)&&true))))) (.leaf (.ret [.bool false] [.box [.sl f.length 3 (fxG f),.sl c.length 4 (chG c)],.box [.sl f2.length 3 (fxG f2),.sl c2.length 4 (chG c2)]])) (.side (inR .i64 ((↑i:Int)+(1:Int))) (.leaf (.back 0 [(2,.ptr 0 0),(3,.ptr 1 0),(5,.undef),(6,.int .i64 ((↑i:Int)+(1:Int)))] [.box [.sl f.length 3 (fxG f),.sl c.length 4 (chG c)],.box [.sl f2.length 3 (fxG f2),.sl c2.length 4 (chG c2)]])))))) (.leaf (.ret [.bool true] [.box [.sl f.length 3 (fxG f),.sl c.length 4 (chG c)],.box [.sl f2.length 3 (fxG f2),.sl c2.length 4 (chG c2)]]))) (by kernel_rfl) ?_
 simp only [Tree.holds,zd,inR,lo,hi,Int.toNat_natCast]
 refine⟨fun hlt=> ?_,fun hge=> ?_⟩
 ·have hlt:i<c.length:=by have:=of_decide_eq_true hlt; omega
  refine⟨by omega,fun _=>⟨by omega,fun _=>⟨fun h=> ?_,fun h=>⟨by omega,fun _=> ?_⟩⟩⟩⟩
  ·refine RetR.scal (hq false ⟨fun h=>(by cases h),fun he=> ?_⟩) rfl (by simp [resV])
   have hc:c=c2:=(Prod.mk.inj he).2
   have:=Ch.eq_iff.2 (show c.getD i Ch.nil=c2.getD i Ch.nil by rw [hc])
   rw [this] at h; cases h
  ·rw [if_pos trivial]
   have he:=Ch.eq_iff.1 (by simpa only [Bool.not_eq_false'] using h)
   refine⟨⟨i+1,hlt,fun j hj=> ?_⟩,by show c.length - (i+1)<c.length - i; omega,by simp [SSE2],by simp [HSE,fxS,chS,za],by kernel_rfl,Nat.zero_le _⟩
   rcases Nat.lt_or_ge j i with h1 | h1
   ·exact hib j h1
   ·have:j=i:=by omega
    rw [this]; exact he
 ·have hge:i=c.length:=by have:=of_decide_eq_false hge; omega
  subst hge
  have hc:=K0 hl hib
  exact RetR.scal (hq true ⟨fun _=>by rw [hf,hc],fun _=>rfl⟩) rfl (by simp [resV])
theorem XT:zc Tryz.prog 25 VC:=by
 refine ze (fn:=Tryz.f25) (c:=Tryz.f25.body.getD .skip) rfl rfl rfl fun p hp O w0 Q hq=> ?_
 obtain⟨⟨f,c⟩,⟨f2,c2⟩⟩:=p
 obtain⟨h1,h2⟩:=hp
 simp only at hq h1 h2
 refine zb.run hmix z7 [2,3,5,6] 400 (T:=.ite (bif !decide ((↑f.length:Int)=f2.length) then true else !decide ((↑c.length:Int)=c2.length)) (.leaf (.ret [.bool false] [.box [.sl f.length 3 (fxG f),.sl c.length 4 (chG c)],.box [.sl f2.length 3 (fxG f2),.sl c2.length 4 (chG c2)]])) (.leaf (.loop (Prod.fst (lps K25 0)) (Prod.snd (lps K25 0)) [(2,.ptr 0 0),(3,.ptr 1 0),(5,.int .i64 0),(6,.undef)] [.box [.sl f.length 3 (fxG f),.sl c.length 4 (chG c)],.box [.sl f2.length 3 (fxG f2),.sl c2.length 4 (chG c2)]]))) (by kernel_rfl) ?_
 simp only [Tree.holds,zd]
 refine⟨fun h=> ?_,fun h=> ?_⟩
 ·refine RetR.scal (hq false ⟨fun h=>(by cases h),fun he=> ?_⟩) rfl (by simp [resV])
  obtain⟨e1,e2⟩:=Prod.mk.inj he
  subst e1; subst e2
  simp at h
 ·have hl:f.length=f2.length∧c.length=c2.length:=by
   by_cases e1:f.length=f2.length
   ·by_cases e2:c.length=c2.length
    ·exact⟨e1,e2⟩
    ·rw [decide_eq_false (show ¬ ((c.length:Nat):Int)=c2.length by omega)] at h
     rw [decide_eq_true (show((f.length:Nat):Int)=f2.length by omega)] at h
     cases h
   ·rw [decide_eq_false (show ¬ ((f.length:Nat):Int)=f2.length by omega)] at h
    cases h
  refine zb.loop (ι:={i:Nat // i≤f.length∧∀ j,j<i→f.getD j Fx.nil=f2.getD j Fx.nil}) (fun i=>SSE i.1) (fun _=>HSE f f2 c c2) (fun i=>f.length - i.1) ⟨0,Nat.zero_le _,fun j hj=>by omega⟩ 0 ?_ ?_ (by kernel_rfl)
  ·exact⟨by simp [SSE],by simp [HSE,fxS,chS,za],by kernel_rfl,Nat.zero_le _⟩
  ·rintro⟨i,hil,hib⟩
   refine zb.run hmix z7 [2,3,5,6] 400 (T:=.ite (decide ((↑i:Int)<f.length)) (.side ((0:Int)≤i∧(↑i:Int)<f.length) (.side ((0:Int)≤i∧(↑i:Int)<f2.length) (.ite (!(decide (Fx.name (f.getD (↑i:Int).toNat Fx.nil)=Fx.name (f2.getD (↑i:Int).toNat Fx.nil))&&(decide (Fx.date (f.getD (↑i:Int).toNat Fx.nil)=Fx.date (f2.getD (↑i:Int).toNat Fx.nil))&&(decide (Fx.value (f.getD (↑i:Int).toNat Fx.nil)=Fx.value (f2.getD (↑i:Int).toNat Fx.nil))&&true)))) (.leaf (.ret [.bool false] [.box [.sl f.length 3 (fxG f),.sl c.length 4 (chG c)],.box [.sl f2.length 3 (fxG f2),.sl c2.length 4 (chG c2)]])) (.side (inR .i64 ((↑i:Int)+(1:Int))) (.leaf (.back 0 [(2,.ptr 0 0),(3,.ptr 1 0),(5,.int .i64 ((↑i:Int)+(1:Int))),(6,.undef)] [.box [.sl f.length 3 (fxG f),.sl c.length 4 (chG c)],.box [.sl f2.length 3 (fxG f2),.sl c2.length 4 (chG c2)]])))))) (.leaf (.loop (Prod.fst (lps (inside K25 0) 0)) (Prod.snd (lps (inside K25 0) 0)) [(2,.ptr 0 0),(3,.ptr 1 0),(5,.int .i64 i),(6,.int .i64 0)] [.box [.sl f.length 3 (fxG f),.sl c.length 4 (chG c)],.box [.sl f2.length 3 (fxG f2),.sl c2.length 4 (chG c2)]]))) (by kernel_rfl) ?_
   simp only [Tree.holds,zd,inR,lo,hi,Int.toNat_natCast]
   refine⟨fun hlt=> ?_,fun hge=> ?_⟩
   ·have hlt:i<f.length:=by have:=of_decide_eq_true hlt; omega
    refine⟨by omega,fun _=>⟨by omega,fun _=>⟨fun h=> ?_,fun h=>⟨by omega,fun _=> ?_⟩⟩⟩⟩
    ·refine RetR.scal (hq false ⟨fun h=>(by cases h),fun he=> ?_⟩) rfl (by simp [resV])
     have hc:f=f2:=(Prod.mk.inj he).1
     have:=Fx.eq_iff.2 (show f.getD i Fx.nil=f2.getD i Fx.nil by rw [hc])
     rw [this] at h; cases h
    ·rw [if_pos trivial]
     have he:=Fx.eq_iff.1 (by simpa only [Bool.not_eq_false'] using h)
     refine⟨⟨i+1,hlt,fun j hj=> ?_⟩,by show f.length - (i+1)<f.length - i; omega,by simp [SSE],by simp [HSE,fxS,chS,za],by kernel_rfl,Nat.zero_le _⟩
     rcases Nat.lt_or_ge j i with h1 | h1
     ·exact hib j h1
     ·have:j=i:=by omega
      rw [this]; exact he
   ·have hge:i=f.length:=by have:=of_decide_eq_false hge; omega
    subst hge
    have hf:=K0 hl.1 hib
    exact Xm f f2 c c2 h2 hf hl.2 hq _ _ ⟨by simp [SSE2],by simp [HSE,fxS,chS,za],by kernel_rfl,Nat.zero_le _⟩
def HE(f:List Fx)(c:List Ch):Heap:=[.box [fxS f,chS c]]
theorem zk5{n:Nat}{g:Nat→Nat→AV}{l:List Fx}(h:eqG n 3 g (fxG l)):newB (.arr n 3 g):=fun j o hj ho=>by rw [h j o hj ho]; exact UB l j o ho
theorem zat{n:Nat}{g:Nat→Nat→AV}{l:List Ch}(h:eqG n 4 g (chG l)):newB (.arr n 4 g):=fun j o hj ho=>by rw [h j o hj ho]; exact zae l j o ho
noncomputable def K19:List Go.Sx.Item:=[.code (Tryz.f19.body.getD .skip)]
def zej(f:Fx):Prop:=f.name.length<2^49∧f.value.length<2^49
def UK(c:Ch):Prop:=c.qx.length<2^49∧c.name.length<2^49
def fitP(p:List Fx×List Ch):Prop:=p.1.length≤1100∧p.2.length≤1100∧(∀ j,j<p.1.length→(p.1.getD j Fx.nil).name.length≤20000∧(p.1.getD j Fx.nil).value.length≤20000)∧∀ j,j<p.2.length→(p.2.getD j Ch.nil).qx.length≤20000∧(p.2.getD j Ch.nil).name.length≤20000
def U2:Ctr:=ctrP true (fun p:List Fx×List Ch=>[envA p.1 p.2]) (fun p=>p.1.length<2^60∧p.2.length<2^60∧(∀ j,j<p.1.length→zej (p.1.getD j Fx.nil))∧∀ j,j<p.2.length→UK (p.2.getD j Ch.nil)) (fun p r=>r=false→fitP p) (fun _ (r:Bool)=>(.bool r,[]))
def SGq(n i:Nat):KV:=[(1,.ptr 0 0),(3,.int .i64 (n:Int)),(4,.int .i64 (i:Int)),(5,.undef)]
def SGq2(n i:Nat):KV:=[(1,.ptr 0 0),(3,.int .i64 (n:Int)),(4,.undef),(5,.int .i64 (i:Int))]
theorem Xg{O:Nat→Prop}{w0:World}{Q:AV×Heap→Prop}{Hs:Nat→KV→Heap→Prop}(f:List Fx)(c:List Ch)(n:Nat)(hf:f.length≤1100)(hc:c.length≤1100)(h3:∀ j,j<c.length→UK (c.getD j Ch.nil))(hn:n≤1100*2^50)(hnf:∀ j,j<f.length→(f.getD j Fx.nil).name.length≤n∧(f.getD j Fx.nil).value.length≤n)
  (hq:∀ r:Bool,(r=false→fitP (f,c))→Q (.bool r,[])) (kv:KV) (h:Heap) (hle:LeK 0 Tryz.f19.ntmps kv h (SGq2 n 0) (HE f c)) :
  zb Tryz.prog Tryz.f19 O 0 w0 [] Hs (RetR U2 0 Q) (.code (.loop (lps (inside K19 0) 0).1)::(lps (inside K19 0) 0).2) (mk Tryz.f19.ntmps kv h):=by
 refine zb.loop (ι:={p:Nat×Nat // p.2≤c.length∧n≤p.1∧p.1≤(1100+p.2)*2^50∧∀ j,j<p.2→(c.getD j Ch.nil).qx.length≤p.1∧(c.getD j Ch.nil).name.length≤p.1}) (fun p=>SGq2 p.1.1 p.1.2) (fun _=>HE f c) (fun p=>c.length - p.1.2) ⟨(n,0),Nat.zero_le _,Nat.le_refl _,by simpa using hn,fun j hj=>by simp at hj⟩ 0 hle ?_ (by kernel_rfl)
 rintro⟨⟨m,i⟩,hil,hnm,hm,hib⟩
 simp only at hil hnm hm hib
 refine zb.run hmix z7 [1,3,4,5] 400 (T:=.ite (decide ((↑i:Int)<c.length)) (.side ((0:Int)≤i∧(↑i:Int)<c.length) (.side (inR .i64 ((↑m:Int)+(↑(List.length (Ch.qx (c.getD (↑i:Int).toNat Ch.nil))):Int))) (.side ((0:Int)≤i∧(↑i:Int)<c.length) (.side (inR .i64 ((↑m:Int)+(↑(List.length (Ch.qx (c.getD (↑i:Int).toNat Ch.nil))):Int)+(↑(List.length (Ch.name (c.getD (↑i:Int).toNat Ch.nil))):Int))) (.side (inR .i64 ((↑i:Int)+(1:Int))) (.leaf (.back 0 [(1,.ptr 0 0),(3,.int .i64 ((↑m:Int)+(↑(List.length (Ch.qx (c.getD (↑i:Int).toNat Ch.nil))):Int)+(↑(List.length (Ch.name (c.getD (↑i:Int).toNat Ch.nil))):Int))),(4,.undef),(5,.int .i64 ((↑i:Int)+(1:Int)))] [.box [.sl f.length 3 (fxG f),.sl c.length 4 (chG c)]]))))))) (.leaf (.ret [.bool (decide ((20000:Int)<m))] [.box [.sl f.length 3 (fxG f),.sl c.length 4 (chG c)]]))) (by kernel_rfl) ?_
 simp only [Tree.holds,zd,inR,lo,hi,Int.toNat_natCast]
 refine⟨fun hlt=> ?_,fun hge=> ?_⟩
 ·have hlt:i<c.length:=by have:=of_decide_eq_true hlt; omega
  obtain⟨g1,g2⟩:=h3 i hlt
  iterate 5 refine⟨by omega,fun _=> ?_⟩
  rw [if_pos trivial]
  refine⟨⟨(m+(c.getD i Ch.nil).qx.length+(c.getD i Ch.nil).name.length,i+1),hlt,by simp only; omega,by simp only; omega,fun j hj=> ?_⟩,by show c.length - (i+1)<c.length - i; omega,by simp [SGq2],by simp [HE,fxS,chS,za],by kernel_rfl,Nat.zero_le _⟩
  simp only at hj ⊢
  rcases Nat.lt_or_ge j i with h1 | h1
  ·have:=hib j h1; omega
  ·have:j=i:=by omega
   rw [this]; omega
 ·have hge:i=c.length:=by have:=of_decide_eq_false hge; omega
  subst hge
  refine RetR.scal (hq (decide (20000<(m:Int))) fun h=> ?_) rfl (by simp [resV])
  have h:=of_decide_eq_false h
  exact⟨hf,hc,fun j hj=>by have:=hnf j hj; simp only; omega,fun j hj=>by have:=hib j hj; simp only; omega⟩
theorem zgc:zc Tryz.prog 19 U2:=by
 refine ze (fn:=Tryz.f19) (c:=Tryz.f19.body.getD .skip) rfl rfl rfl fun p hp O w0 Q hq=> ?_
 obtain⟨f,c⟩:=p
 obtain⟨h1,h2,h3,h4⟩:=hp
 simp only at hq h1 h2 h3 h4
 refine zb.run hmix z7 [1,3,4,5] 400 (T:=.ite (bif decide ((1100:Int)<f.length) then true else decide ((1100:Int)<c.length)) (.leaf (.ret [.bool true] [.box [.sl f.length 3 (fxG f),.sl c.length 4 (chG c)]])) (.leaf (.loop (Prod.fst (lps K19 0)) (Prod.snd (lps K19 0)) [(1,.ptr 0 0),(3,.int .i64 0),(4,.int .i64 0),(5,.undef)] [.box [.sl f.length 3 (fxG f),.sl c.length 4 (chG c)]]))) (by kernel_rfl) ?_
 simp only [Tree.holds,zd]
 refine⟨fun h=> ?_,fun h=> ?_⟩
 ·exact RetR.scal (hq true fun h=>(by cases h)) rfl (by simp [resV])
 ·have hbig:f.length≤1100∧c.length≤1100:=by
   rw [Bool.cond_eq_ite] at h
   split at h
   ·cases h
   ·rename_i g1
    have g2:=of_decide_eq_false h
    have g1:=of_decide_eq_false (by simpa using g1:decide (1100<(f.length:Int))=false)
    omega
  obtain⟨hf,hc⟩:=hbig
  refine zb.loop (ι:={p:Nat×Nat // p.2≤f.length∧p.1≤p.2*2^50∧∀ j,j<p.2→(f.getD j Fx.nil).name.length≤p.1∧(f.getD j Fx.nil).value.length≤p.1}) (fun p=>SGq p.1.1 p.1.2) (fun _=>HE f c) (fun p=>f.length - p.1.2) ⟨(0,0),Nat.zero_le _,by simp,fun j hj=>by simp at hj⟩ 0 ?_ ?_ (by kernel_rfl)
  ·exact⟨by simp [SGq],by simp [HE,fxS,chS,za],by kernel_rfl,Nat.zero_le _⟩
  ·rintro⟨⟨m,i⟩,hil,hm,hib⟩
   simp only at hil hm hib
   refine zb.run hmix z7 [1,3,4,5] 400 (T:=.ite (decide ((↑i:Int)<f.length)) (.side ((0:Int)≤i∧(↑i:Int)<f.length) (.side (inR .i64 ((↑m:Int)+(↑(List.length (Fx.name (f.getD (↑i:Int).toNat Fx.nil))):Int))) (.side ((0:Int)≤i∧(↑i:Int)<f.length) (.side (inR .i64 ((↑m:Int)+(↑(List.length (Fx.name (f.getD (↑i:Int).toNat Fx.nil))):Int)+(↑(List.length (Fx.value (f.getD (↑i:Int).toNat Fx.nil))):Int))) (.side (inR .i64 ((↑i:Int)+(1:Int))) (.leaf (.back 0 [(1,.ptr 0 0),(3,.int .i64 ((↑m:Int)+(↑(List.length (Fx.name (f.getD (↑i:Int).toNat Fx.nil))):Int)+(↑(List.length (Fx.value (f.getD (↑i:Int).toNat Fx.nil))):Int))),(4,.int .i64 ((↑i:Int)+(1:Int))),(5,.undef)] [.box [.sl f.length 3 (fxG f),.sl c.length 4 (chG c)]]))))))) (.leaf (.loop (Prod.fst (lps (inside K19 0) 0)) (Prod.snd (lps (inside K19 0) 0)) [(1,.ptr 0 0),(3,.int .i64 m),(4,.int .i64 i),(5,.int .i64 0)] [.box [.sl f.length 3 (fxG f),.sl c.length 4 (chG c)]]))) (by kernel_rfl) ?_
   simp only [Tree.holds,zd,inR,lo,hi,Int.toNat_natCast]
   refine⟨fun hlt=> ?_,fun hge=> ?_⟩
   ·have hlt:i<f.length:=by have:=of_decide_eq_true hlt; omega
    obtain⟨g1,g2⟩:=h3 i hlt
    iterate 5 refine⟨by omega,fun _=> ?_⟩
    rw [if_pos trivial]
    refine⟨⟨(m+(f.getD i Fx.nil).name.length+(f.getD i Fx.nil).value.length,i+1),hlt,by simp only; omega,fun j hj=> ?_⟩,by show f.length - (i+1)<f.length - i; omega,by simp [SGq],by simp [HE,fxS,chS,za],by kernel_rfl,Nat.zero_le _⟩
    simp only at hj ⊢
    rcases Nat.lt_or_ge j i with h1 | h1
    ·have:=hib j h1; omega
    ·have:j=i:=by omega
     rw [this]; omega
   ·have hge:i=f.length:=by have:=of_decide_eq_false hge; omega
    subst hge
    exact Xg f c m hf hc h4 (Nat.le_trans hm (Nat.mul_le_mul_right _ hf)) hib hq _ _ ⟨by simp [SGq2],by simp [HE,fxS,chS,za],by kernel_rfl,Nat.zero_le _⟩
def UF:Ctr:=ctrP true (fun l:List Ch=>[chS l]) (fun l=>l.length<2^40) (fun _ (_:Unit)=>True) (fun l _=>(.osl 0 4 0 l.length,[.arr l.length 4 (chG l)]))
theorem zcp:zc Tryz.prog 55 UF:=by
 refine Qh (fn:=Tryz.f55) (c:=Tryz.f55.body.getD .skip) rfl rfl rfl fun l hl O w0 Q hq=> ?_
 replace hq:=hq () trivial
 refine zb.run hmix z7 [] 400 (T:=.all (fun(b:Bool)=>0<l.length→b=false) fun n=>.ite n (.leaf (.ret [.nils] [])) (.side (0=0∧0≤0∧(0+l.length)*48≤140737488355328) (.leaf (.ret [.osl 0 4 0 (0+l.length)] [.arr (0+l.length) 4 (appG 0 (zh 4 []) (chG l))])))) (by kernel_rfl) ?_
 simp only [Tree.holds,zd]
 refine⟨⟨false,fun _=>rfl⟩,fun b hb=>⟨fun h=> ?_,fun h=>⟨⟨trivial,Nat.le_refl _,by omega⟩,fun _=> ?_⟩⟩⟩
 ·have h0:l=[]:=by
   rcases Nat.eq_zero_or_pos l.length with h0 | h0
   ·exact List.length_eq_zero_iff.1 h0
   ·rw [hb h0] at h; cases h
  subst h0
  refine RetR.scal (.inr ⟨.osl 0 4 0 0,[(4,chG [])],by simp [upA2,upA1,upA0],?_⟩) (r:=.nils) rfl (by simp [resV])
  exact hq
 ·refine RetR.outs [0] rfl rfl (.inl hq) (fun _=>⟨?_,?_⟩) ?_ ?_ rfl
  ·simp [resV,new2,new1,new0,zy]
  ·simp only [List.mem_cons,List.not_mem_nil,or_false,forall_eq]
   exact zat (QZ _ _ _ _)
  ·simp [resV,exp2,exp1,exp0,zy,eqA2,eqL1]
  ·exact⟨⟨by omega,rfl,QZ _ _ _ _⟩,trivial⟩
end Go.Proofs.Tryz
end
section
namespace Go.Sx
variable [Stat]
theorem uW{a b sz o:Nat}(h:a<b)(ho:o<sz):a*sz+o<b*sz:=by
 have:(a+1)*sz≤b*sz:=Nat.mul_le_mul_right _ h
 rw [Nat.succ_mul] at this; omega
end Go.Sx
end
section
set_option maxRecDepth 100000
open Go Go.Sx Go.Proofs Go.Nov
namespace Go.Proofs.Tryz
attribute [local simp] eqKV eqA eqA0 eqH eqB eqL eqL0
theorem kM{α:Type}{l m:List α}{a:Nat}(h:a+m.length≤l.length)(k:Nat):(l.take a++m++l.drop (a+m.length))[k]?=if k<a then l[k]? else if k<a+m.length then m[k - a]? else l[k]?:=by
 have hl:(l.take a).length=a:=by rw [List.length_take]; omega
 rw [List.getElem?_append,List.getElem?_append,hl]
 simp only [List.length_append,hl]
 by_cases h1:k<a
 ·rw [if_pos (by omega),if_pos h1,if_pos h1,List.getElem?_take,if_pos h1]
 ·rw [if_neg h1,if_neg h1]
  by_cases h2:k<a+m.length
  ·rw [if_pos h2,if_pos h2]
  ·rw [if_neg h2,if_neg h2,List.getElem?_drop]; congr 1; omega
theorem kz{l:List Value}{o k j:Nat} : ((l.drop o).take k)[j]?=if j<k then l[o+j]? else none:=by
 rw [List.getElem?_take]
 split
 ·rw [List.getElem?_drop]
 ·rfl
theorem zjm{ctr:Ctr}{Q:AV×Heap→Prop}(e:Int)(h:Heap)(hq:Q (.tup [.agg [.osl 0 3 0 ([]:List Fx).length,.osl 1 4 0 ([]:List Ch).length],.int .i64 e],[.arr ([]:List Fx).length 3 (fxG []),.arr ([]:List Ch).length 4 (chG [])])):RetR ctr 0 (upQ Q) [.agg [.nils,.nils],.int .i64 e] h:=by
 refine RetR.out0 (r:=.tup [.agg [.nils,.nils],.int .i64 e]) (.inr ⟨_,[(3,fxG []),(4,chG [])],?_,hq⟩) (fun _=>by simp [resV,new2,new1,new0,qe]) (by simp [resV,exp2,exp1,exp0,ren0,eqA2,eqL1])
 simp [upA2,upA1,upA0,upL1,upL0]
theorem ki{f:List Fx}{c:List Ch}{x:Fx} : (putF f c x).1.1.length≤1000∧(putF f c x).1.2.length≤1000:=by
 unfold putF
 by_cases h0:errE f c≠0
 ·rw [if_pos h0]; simp
 ·rw [if_neg h0]
  have h:=xe.1 (Classical.not_not.1 h0)
  split
  ·simp
  ·split
   ·simp
   ·split
    ·simp
    ·simp only; omega
noncomputable def K94:List Go.Sx.Item:=[.code (Tryz.f94.body.getD .skip)]
noncomputable def GOf0:Nat→Option Ctr:=fun f=>if f=135 then some (uA) else none
theorem zag:∀ g c,GOf0 g=some c→zc Tryz.prog g c:=okIf QU (zq)
def iofC:Ctr:=ctrP true (fun n:Nat=>[.int .i64 (n:Int)]) (fun n=>n≤9) (fun n (r:List UInt8)=>r=[UInt8.ofNat (48+n)]) (fun _ (r:List UInt8)=>(.str r,[]))
def SOf(n:Nat):KV:=[(0,.int .i64 (n:Int)),(3,.nils),(4,.bool (decide ((n:Int)<0)))]
theorem znu:zc Tryz.prog 94 iofC:=by
 refine ze (fn:=Tryz.f94) (c:=Tryz.f94.body.getD .skip) rfl rfl rfl fun n hn O w0 Q hq=> ?_
 replace hq:=hq _ rfl
 refine zb.run hmix zag [0,3,4] 400 (T:=.leaf (.loop (Prod.fst (lps K94 0)) (Prod.snd (lps K94 0)) [(0,.int .i64 n),(3,.nils),(4,.bool (decide ((↑n:Int)<0)))] [])) (by kernel_rfl) ?_
 simp only [Tree.holds,zd,inR,lo,hi,Int.toNat_natCast]
 refine zb.loop (ι:=Unit) (fun _=>SOf n) (fun _=>[]) (fun _=>0) () 0 ?_ ?_ (by kernel_rfl)
 ·exact⟨by simp [SOf],by simp,by kernel_rfl,Nat.zero_le _⟩
 rintro⟨⟩
 refine zb.run hmix zag [0,3,4] 400 (T:=.side ((10:Int)≠0) (.side (inR .i64 (-Int.tmod (↑n:Int) (10:Int))) (.side (inR .i64 ((48:Int)+max (Int.tmod (↑n:Int) (10:Int)) (-Int.tmod (↑n:Int) (10:Int)))) (.side (inR .u8 ((48:Int)+max (Int.tmod (↑n:Int) (10:Int)) (-Int.tmod (↑n:Int) (10:Int)))) (.side (1≤140737488355328) (.side ((10:Int)≠0∧inR .i64 (Int.tdiv (↑n:Int) (10:Int))) (.ite (decide (Int.tdiv (↑n:Int) (10:Int)=0)) (.ite (decide ((↑n:Int)<0)) (.side (0=0∧1≤1∧2≤140737488355328) (.ex (fun(x:List Nat×Nat)=>eqL [AV.osl 0 1 0 2] [AV.osl 0 1 0 x.2]∧eqH [.arr 2 1 (appG 1 (zg (zh 1 [AV.int .u8 ((48:Int)+max (Int.tmod (↑n:Int) (10:Int)) (-Int.tmod (↑n:Int) (10:Int)))]) 0) (zg (zh 1 [AV.int .u8 45]) 0))] [.arr x.1.length 1 (natG .u8 x.1)]∧1=1∧x.2≤x.1.length∧x.1.length<4611686018427387904) fun n_1=>.all (fun(x:Unit)=>True) fun n_2=>.side (∀ (j:Nat),j<2→∃ (b:UInt8),AV.int .u8 (↑(List.getD (List.reverse (List.take n_1.2 n_1.1)++List.drop n_1.2 n_1.1) (0+j) 0):Int)=AV.int .u8 (↑(UInt8.toNat b):Int)) (.leaf (.ret [.str (vL 2 (zg (natG .u8 (List.reverse (List.take n_1.2 n_1.1)++List.drop n_1.2 n_1.1)) 0))] [.arr 1 1 (zh 1 [.int .u8 ((48:Int)+max (Int.tmod (↑n:Int) (10:Int)) (-Int.tmod (↑n:Int) (10:Int)))]),.arr n_1.1.length 1 (natG .u8 (List.reverse (List.take n_1.2 n_1.1)++List.drop n_1.2 n_1.1)),.arr 1 1 (zh 1 [.int .u8 45])])))) (.ex (fun(x:List Nat×Nat)=>eqL [AV.osl 0 1 0 1] [AV.osl 0 1 0 x.2]∧eqH [.arr 1 1 (zg (zh 1 [AV.int .u8 ((48:Int)+max (Int.tmod (↑n:Int) (10:Int)) (-Int.tmod (↑n:Int) (10:Int)))]) 0)] [.arr x.1.length 1 (natG .u8 x.1)]∧1=1∧x.2≤x.1.length∧x.1.length<4611686018427387904) fun n_1=>.all (fun(x:Unit)=>True) fun n_2=>.side (∀ (j:Nat),j<1→∃ (b:UInt8),AV.int .u8 (↑(List.getD (List.reverse (List.take n_1.2 n_1.1)++List.drop n_1.2 n_1.1) (0+j) 0):Int)=AV.int .u8 (↑(UInt8.toNat b):Int)) (.leaf (.ret [.str (vL 1 (zg (natG .u8 (List.reverse (List.take n_1.2 n_1.1)++List.drop n_1.2 n_1.1)) 0))] [.arr 1 1 (zh 1 [.int .u8 ((48:Int)+max (Int.tmod (↑n:Int) (10:Int)) (-Int.tmod (↑n:Int) (10:Int)))]),.arr n_1.1.length 1 (natG .u8 (List.reverse (List.take n_1.2 n_1.1)++List.drop n_1.2 n_1.1))])))) (.leaf (.back 0 [(0,.int .i64 (Int.tdiv (↑n:Int) (10:Int))),(3,.osl 1 1 0 1),(4,.bool (decide ((↑n:Int)<0)))] [.arr 1 1 (zh 1 [.int .u8 ((48:Int)+max (Int.tmod (↑n:Int) (10:Int)) (-Int.tmod (↑n:Int) (10:Int)))]),.arr 1 1 (zg (zh 1 [.int .u8 ((48:Int)+max (Int.tmod (↑n:Int) (10:Int)) (-Int.tmod (↑n:Int) (10:Int)))]) 0)]))))))))) (by kernel_rfl) ?_
 simp only [Tree.holds,zd,inR,lo,hi,Int.toNat_natCast]
 have e1:(n:Int).tmod 10=n:=by rw [Int.tmod_eq_emod_of_nonneg (by omega)]; omega
 have e2:(n:Int).tdiv 10=0:=by rw [Int.tdiv_eq_ediv_of_nonneg (by omega)]; omega
 have e3:max (n:Int) (-(n:Int))=n:=by omega
 rw [e1,e2,e3]
 refine⟨by decide,fun _=>⟨by omega,fun _=>⟨by omega,fun _=>⟨by omega,fun _=>⟨by decide,fun _=>⟨by decide,fun _=>⟨fun _=>⟨fun h=> ?_,fun _=> ?_⟩,fun h=> ?_⟩⟩⟩⟩⟩⟩⟩
 ·have:=of_decide_eq_true h; omega
 ·refine⟨([48+n],1),⟨⟨⟨rfl,rfl,rfl,rfl⟩,trivial⟩,⟨⟨rfl,rfl,fun j o hj ho=> ?_⟩,trivial⟩,trivial,by simp,by simp⟩,⟨(),trivial⟩,fun _ _=>⟨fun j hj=>⟨UInt8.ofNat (48+n),?_⟩,fun _=> ?_⟩⟩
  ·have:j=0:=by omega
   subst this
   have:o=0:=by omega
   subst this
   simp [zg,zh,natG]
  ·have:j=0:=by omega
   subst this
   have:(UInt8.ofNat (48+n)).toNat=48+n:=by simp; omega
   simp only [this]
   rfl
  ·refine RetR.scal hq rfl ?_
   simp only [resV,vL,zg,natG,List.range_succ,List.range_zero,List.nil_append,List.map_cons,List.map_nil]
   show AV.str [UInt8.ofNat (48+n)]=_
   rfl
 ·simp at h
noncomputable def GOf1:Nat→Option Ctr:=fun f=>if f=94 then some (iofC) else none
theorem UI:∀ g c,GOf1 g=some c→zc Tryz.prog g c:=okIf znu (zq)
noncomputable def qofI:Ctr:=inlC Tryz.prog GOf1 100 Tryz.f48
theorem zkh:zc Tryz.prog 48 qofI:=zg7 hmix UI rfl rfl
def jk(a:Ca):Prop:=a.name.length<2^38∧a.into.length<2^38∧a.ratio.length<2^38∧a.extra.length<2^38
def k0:Ctr:=ctrP true (fun a:Ca=>[a.av]) jk (fun a r=>r=if a.ok=true then 0 else 8) (fun _ (r:Int)=>(.int .i64 r,[]))
noncomputable def GCa0:Nat→Option Ctr:=fun f=>if f=48 then some (qofI) else if f=47 then some (zlx) else if f=50 then some (yS) else if f=49 then some (W4) else none
theorem zja:∀ g c,GCa0 g=some c→zc Tryz.prog g c:=okIf zkh (okIf zld (okIf ya (okIf ZL (zq))))
theorem vQ:zc Tryz.prog 16 k0:=by
 refine ze (fn:=Tryz.f16) (c:=Tryz.f16.body.getD .skip) rfl rfl rfl fun a ha O w0 Q hq=> ?_
 obtain⟨h1,h2,h3,h4⟩:=ha
 replace hq:=hq _ rfl
 obtain⟨nm,io,d,rt,et⟩:=a
 refine zb.run hmix zja [] 400 (T:=.ex (fun(x:Nat)=>eqL [AV.int .i64 0] [AV.int .i64 x]∧x≤9) fun n=>.all (fun(r:List UInt8)=>r=[UInt8.ofNat (48+n)]) fun n=>.ex (fun(x:List UInt8×List UInt8)=>eqL [AV.str rt,AV.str n] [AV.str x.1,AV.str x.2]∧x.1.length<2305843009213693952∧x.2.length<2305843009213693952) fun n=>.all (fun(r:Int×Int)=>r=cmpR n.1 n.2) fun n=>.ex (fun(x:List UInt8)=>eqL [AV.str nm] [AV.str x]∧x.length<4611686018427387904) fun n_1=>.all (fun(r:Bool)=>r=zX n_1) fun n_2=>.ex (fun(x:List UInt8)=>(!n_2)=false→eqL [AV.str io] [AV.str x]∧x.length<4611686018427387904) fun n_3=>.all (fun(x:Bool)=>(!n_2)=false→x=zX n_3) fun n_4=>.ex (fun(x:List UInt8)=>(bif bif bif bif bif !n_2 then true else !n_4 then true else decide (d<0) then true else decide ((99999:Int)<d) then true else !decide (n.2=0) then true else decide (n.1≤0))=false→eqL [AV.str et] [AV.str x]∧x.length<4611686018427387904) fun n_5=>.all (fun(x:Int)=>(bif bif bif bif bif !n_2 then true else !n_4 then true else decide (d<0) then true else decide ((99999:Int)<d) then true else !decide (n.2=0) then true else decide (n.1≤0))=false→x=errR n_5) fun n_6=>.ite (bif bif bif bif bif bif !n_2 then true else !n_4 then true else decide (d<0) then true else decide ((99999:Int)<d) then true else !decide (n.2=0) then true else decide (n.1≤0) then true else !decide (n_6=0)) (.leaf (.ret [.int .i64 8] [.box [.str nm,.str io,.int .i64 d,.str rt,.str et]])) (.leaf (.ret [.int .i64 0] [.box [.str nm,.str io,.int .i64 d,.str rt,.str et]]))) (by kernel_rfl) ?_
 simp only [Tree.holds,zd,inR,lo,hi,Int.toNat_natCast]
 have e48:[UInt8.ofNat (48+0)]=[48]:=rfl
 refine⟨0,⟨⟨⟨rfl,rfl⟩,trivial⟩,by omega⟩,⟨_,rfl⟩,?_⟩
 rintro _ rfl
 rw [e48]
 refine⟨(rt,[48]),⟨⟨rfl,rfl,trivial⟩,by show rt.length<_; simp only at h3; omega,by simp⟩,⟨_,rfl⟩,?_⟩
 rintro r rfl
 refine⟨nm,⟨⟨rfl,trivial⟩,by simp only at h1; omega⟩,⟨_,rfl⟩,?_⟩
 rintro _ rfl
 refine⟨io,fun _=>⟨⟨rfl,trivial⟩,by simp only at h2; omega⟩,⟨_,fun _=>rfl⟩,fun b2 g2=> ?_⟩
 refine⟨et,fun _=>⟨⟨rfl,trivial⟩,by simp only at h4; omega⟩,⟨_,fun _=>rfl⟩,fun b3 g3=> ?_⟩
 have key:(bif bif bif bif bif bif !zX nm then true else !b2 then true else decide (d<0) then true else decide (99999<d) then true else !decide ((cmpR rt [48]).2=0) then true else decide ((cmpR rt [48]).1≤0) then true else !decide (b3=0)) = !(Ca.mk nm io d rt et).ok:=by
  obtain⟨z1,z2⟩:=zii (a:=rt)
  unfold Ca.ok
  simp only
  cases hn:zX nm with
  | false=>simp
  | true=>
   rw [g2 (by rw [hn]; rfl)]
   cases hi2:zX io with
   | false=>simp
   | true=>
    by_cases hd:dayB d=true
    ·have hd':=hd
     unfold dayB at hd'
     simp only [Bool.and_eq_true,decide_eq_true_eq] at hd'
     have q1:decide (d<0)=false:=decide_eq_false (by omega)
     have q2:decide (99999<d)=false:=decide_eq_false (by omega)
     by_cases hr:errR rt=0
     ·obtain⟨y1,y2⟩:=z2 hr
      by_cases hp:0<qv rt
      ·have y3:(cmpR rt [48]).1=1:=by rw [y2,if_neg (by grind),if_pos hp]
       rw [g3 (by rw [hn,g2 (by rw [hn]; rfl),hi2,q1,q2,y1,y3]; rfl),hd,y1,y3,q1,q2]
       simp [hr,hp]
      ·have y3:(cmpR rt [48]).1≤0:=by rw [y2,if_neg hp]; split<;>decide
       rw [decide_eq_true y3]
       simp [hp]
     ·rw [decide_eq_false (z1 hr)]
      simp [hr]
    ·have:(decide (d<0)||decide (99999<d))=true:=by
      unfold dayB at hd
      simp at hd ⊢
      omega
     have hd:dayB d=false:=by simpa using hd
     rw [hd]
     rw [Bool.or_eq_true] at this
     rcases this with h | h<;>simp [h]
 rw [key]
 refine⟨fun h=> ?_,fun h=> ?_⟩
 ·rw [if_neg (by simpa using h)] at hq
  exact RetR.scal hq rfl rfl
 ·rw [if_pos (by simpa using h)] at hq
  exact RetR.scal hq rfl rfl
def oldC:Ctr:=ctrP true (fun p:Ca×List UInt8=>[p.1.av,.str p.2]) (fun p=>jk p.1∧p.2.length<2^38) (fun p r=>r=p.1.old p.2) (fun _ (r:List UInt8×Int)=>(.tup [.str r.1,.int .i64 r.2],[]))
noncomputable def GCa1:Nat→Option Ctr:=fun f=>if f=104 then some (zm4) else if f=105 then some (zlv) else none
theorem zjy:∀ g c,GCa1 g=some c→zc Tryz.prog g c:=okIf zj1 (okIf zk1 (zq))
theorem Yw:zc Tryz.prog 56 oldC:=by
 refine ze (fn:=Tryz.f56) (c:=Tryz.f56.body.getD .skip) rfl rfl rfl fun p hp O w0 Q hq=> ?_
 obtain⟨⟨nm,io,d,rt,et⟩,x⟩:=p
 obtain⟨⟨h1,h2,h3,h4⟩,h5⟩:=hp
 replace hq:=hq _ rfl
 simp only at h1 h2 h3 h4 h5 hq
 refine zb.run hmix zjy [] 400 (T:=.ex (fun(x_1:List UInt8×List UInt8)=>eqL [AV.str rt,AV.str x] [AV.str x_1.1,AV.str x_1.2]∧x_1.1.length<2305843009213693952∧x_1.2.length<2305843009213693952) fun n=>.all (fun(r:List UInt8×Int)=>r=mulR n.1 n.2) fun n=>.ite (!decide (n.2=0)) (.leaf (.ret [.str #[].toList,.int .i64 n.2] [.box [.str nm,.str io,.int .i64 d,.str rt,.str et]])) (.ex (fun(x:List UInt8×List UInt8)=>eqL [AV.str n.1,AV.str et] [AV.str x.1,AV.str x.2]∧x.1.length<2305843009213693952∧x.2.length<2305843009213693952) fun n=>.all (fun(r:List UInt8×Int)=>r=addR n.1 n.2) fun n=>.leaf (.ret [.str n.1,.int .i64 n.2] [.box [.str nm,.str io,.int .i64 d,.str rt,.str et]]))) (by kernel_rfl) ?_
 simp only [Tree.holds,zd,inR,lo,hi,Int.toNat_natCast]
 refine⟨(rt,x),⟨⟨rfl,rfl,trivial⟩,by show rt.length<_; omega,by show x.length<_; omega⟩,⟨_,rfl⟩,?_⟩
 rintro _ rfl
 refine⟨fun h=> ?_,fun h=> ?_⟩
 ·have h:(mulR rt x).2≠0:=by simpa using h
  have e:(Ca.mk nm io d rt et).old x=([],(mulR rt x).2):=if_pos h
  rw [e] at hq
  exact RetR.scal hq rfl rfl
 ·have h:(mulR rt x).2=0:=by simpa using h
  have e:(Ca.mk nm io d rt et).old x=addR (mulR rt x).1 et:=if_neg (by rw [h]; simp)
  rw [e] at hq
  have hl:(mulR rt x).1.length≤2003:=zhf rt x
  refine⟨((mulR rt x).1,et),⟨⟨rfl,rfl,trivial⟩,by show(mulR rt x).1.length<_; omega,by show et.length<_; omega⟩,⟨_,rfl⟩,?_⟩
  rintro _ rfl
  exact RetR.scal hq rfl rfl
def zlk:Ctr:=ctrP true (fun a:Ca=>[a.av]) (fun _=>True) (fun a r=>r=false→a.name.length≤1000∧a.into.length≤1000∧a.ratio.length≤1000∧a.extra.length≤1000) (fun _ (r:Bool)=>(.bool r,[]))
theorem zjz:zc Tryz.prog 6 zlk:=by
 refine ze (fn:=Tryz.f6) (c:=Tryz.f6.body.getD .skip) rfl rfl rfl fun a ha O w0 Q hq=> ?_
 obtain⟨nm,io,d,rt,et⟩:=a
 refine zb.run hmix z7 [] 400 (T:=.leaf (.ret [.bool (bif bif bif decide ((1000:Int)<nm.length) then true else decide ((1000:Int)<io.length) then true else decide ((1000:Int)<rt.length) then true else decide ((1000:Int)<et.length))] [.box [.str nm,.str io,.int .i64 d,.str rt,.str et]])) (by kernel_rfl) ?_
 simp only [Tree.holds,zd,inR,lo,hi,Int.toNat_natCast]
 refine RetR.scal (hq _ ?_) rfl rfl
 intro h
 by_cases g1:1000<nm.length
 ·rw [decide_eq_true (show(1000:Int)<nm.length by omega)] at h; simp at h
 by_cases g2:1000<io.length
 ·rw [decide_eq_true (show(1000:Int)<io.length by omega)] at h; simp at h
 by_cases g3:1000<rt.length
 ·rw [decide_eq_true (show(1000:Int)<rt.length by omega)] at h; simp at h
 by_cases g4:1000<et.length
 ·rw [decide_eq_true (show(1000:Int)<et.length by omega)] at h; simp at h
 exact⟨by simp only; omega,by simp only; omega,by simp only; omega,by simp only; omega⟩
def qofC:Ctr:=ctrP true (fun n:Nat=>[.int .i64 (n:Int)]) (fun n=>n≤9) (fun n (r:List UInt8)=>r=[UInt8.ofNat (48+n)]) (fun _ (r:List UInt8)=>(.str r,[]))
theorem zew:zc Tryz.prog 48 qofC:=by
 refine ze (fn:=Tryz.f48) (c:=Tryz.f48.body.getD .skip) rfl rfl rfl fun n hn O w0 Q hq=> ?_
 replace hq:=hq _ rfl
 refine zb.run hmix UI [] 400 (T:=.ex (fun(x:Nat)=>eqL [AV.int .i64 n] [AV.int .i64 x]∧x≤9) fun n=>.all (fun(r:List UInt8)=>r=[UInt8.ofNat (48+n)]) fun n=>.leaf (.ret [.str n] [])) (by kernel_rfl) ?_
 simp only [Tree.holds,zd]
 refine⟨n,⟨⟨⟨rfl,rfl⟩,trivial⟩,hn⟩,⟨_,rfl⟩,?_⟩
 rintro _ rfl
 exact RetR.scal hq rfl (by simp [resV])
noncomputable def GAj:Nat→Option Ctr:=fun f=>if f=82 then some (zmh) else if f=48 then some (qofC) else none
theorem znx:∀ g c,GAj g=some c→zc Tryz.prog g c:=okIf zkj (okIf zew (zq))
noncomputable def GAjc(n:Nat):Nat→Option Ctr:=fun f=>if f=83 then some (zfu n) else GAj f
theorem ziy{n:Nat}(h:zc Tryz.prog 83 (zfu n)):∀ f c,GAjc n f=some c→zc Tryz.prog f c:=by
 intro f c hf
 simp only [GAjc] at hf
 split at hf
 ·rename_i hg; subst hg; cases hf; exact h
 ·exact znx f c hf
theorem zg2(n:Nat)(ih:zc Tryz.prog 81 (adjC n)):zc Tryz.prog 81 (adjC (n+1)):=by
 refine qM (fn:=Tryz.f81) (c:=Tryz.f81.body.getD .skip) rfl rfl rfl (fun h=>by cases h) fun p hp O w0 σ0 Q hl0 hq=> ?_
 obtain⟨a,x⟩:=p
 obtain⟨h1,h2⟩:=hp
 simp only at h1 h2
 rw [Ex.size_eq] at h1 h2
 replace hq:=hq () trivial
 simp only [Ca.zmi] at hq
 refine zb.run hmix (ziy (zlg n ih)) [] 400 (T:=.ite (bif decide (Ex.name x=Ca.name a) then bif decide (Ex.kind x=3) then true else bif decide (Ex.kind x=2) then decide (Ca.date a≤Ex.date x) else false else false) (.ex (fun(x:Nat)=>eqL [AV.int .i64 1] [AV.int .i64 x]∧x≤9) fun n=>.all (fun(r:List UInt8)=>r=[UInt8.ofNat (48+n)]) fun n=>.ite (!decide (Ca.ratio a=n)) (.ex (fun(x:List UInt8)=>eqL [AV.str (Ca.ratio a)] [AV.str x]∧True) fun n=>.all (fun(x:Unit)=>True) fun n_1=>.ex (fun(x:Nat)=>eqL [AV.int .i64 0] [AV.int .i64 x]∧x≤9) fun n_2=>.all (fun(r:List UInt8)=>r=[UInt8.ofNat (48+n_2)]) fun n_3=>.ite (!decide (Ca.extra a=n_3)) (.ex (fun(x:List UInt8)=>eqL [AV.str (Ca.extra a)] [AV.str x]∧True) fun n_4=>.all (fun(x:Unit)=>True) fun n_5=>.leaf (.ret [.agg [.int .u8 4,.str #[].toList,.str #[].toList,.int .i64 0,.osl 5 5 0 2]] [.box [.str (Ca.name a),.str (Ca.into a),.int .i64 (Ca.date a),.str (Ca.ratio a),.str (Ca.extra a)],.box [.fn 81 [] [.ptr 0 0,.ptr 1 0]],.box [.int .u8 4,.str #[].toList,.str #[].toList,.int .i64 0,.osl 5 5 0 2],.box [.int .u8 4,.str #[].toList,.str #[].toList,.int .i64 0,.osl 5 5 0 2],.arr 2 5 (zh 5 [.int .u8 (Ex.kind (Tm.kon n)),.str (Ex.rat (Tm.kon n)),.str (Ex.name (Tm.kon n)),.int .i64 (Ex.date (Tm.kon n)),.sl (List.length (Ex.sub (Tm.kon n))) 5 (Ex.deep (Tm.kon n)),.int .u8 x.kind,.str x.rat,.str (Ca.into a),.int .i64 x.date,.sl x.sub.length 5 (Ex.exG x.sub)]),.box [.int .u8 6,.str #[].toList,.str #[].toList,.int .i64 0,.osl 4 5 0 2,.int .u8 (Ex.kind (Tm.kon n_4)),.str (Ex.rat (Tm.kon n_4)),.str (Ex.name (Tm.kon n_4)),.int .i64 (Ex.date (Tm.kon n_4)),.sl (List.length (Ex.sub (Tm.kon n_4))) 5 (Ex.deep (Tm.kon n_4))]])) (.leaf (.ret [.agg [.int .u8 6,.str #[].toList,.str #[].toList,.int .i64 0,.osl 4 5 0 2]] [.box [.str (Ca.name a),.str (Ca.into a),.int .i64 (Ca.date a),.str (Ca.ratio a),.str (Ca.extra a)],.box [.fn 81 [] [.ptr 0 0,.ptr 1 0]],.box [.int .u8 6,.str #[].toList,.str #[].toList,.int .i64 0,.osl 4 5 0 2],.box [.int .u8 6,.str #[].toList,.str #[].toList,.int .i64 0,.osl 4 5 0 2],.arr 2 5 (zh 5 [.int .u8 (Ex.kind (Tm.kon n)),.str (Ex.rat (Tm.kon n)),.str (Ex.name (Tm.kon n)),.int .i64 (Ex.date (Tm.kon n)),.sl (List.length (Ex.sub (Tm.kon n))) 5 (Ex.deep (Tm.kon n)),.int .u8 x.kind,.str x.rat,.str (Ca.into a),.int .i64 x.date,.sl x.sub.length 5 (Ex.exG x.sub)])]))) (.ex (fun(x:Nat)=>eqL [AV.int .i64 0] [AV.int .i64 x]∧x≤9) fun n=>.all (fun(r:List UInt8)=>r=[UInt8.ofNat (48+n)]) fun n=>.ite (!decide (Ca.extra a=n)) (.ex (fun(x:List UInt8)=>eqL [AV.str (Ca.extra a)] [AV.str x]∧True) fun n=>.all (fun(x:Unit)=>True) fun n_1=>.leaf (.ret [.agg [.int .u8 4,.str #[].toList,.str #[].toList,.int .i64 0,.osl 4 5 0 2]] [.box [.str (Ca.name a),.str (Ca.into a),.int .i64 (Ca.date a),.str (Ca.ratio a),.str (Ca.extra a)],.box [.fn 81 [] [.ptr 0 0,.ptr 1 0]],.box [.int .u8 4,.str #[].toList,.str #[].toList,.int .i64 0,.osl 4 5 0 2],.box [.int .u8 4,.str #[].toList,.str #[].toList,.int .i64 0,.osl 4 5 0 2],.arr 2 5 (zh 5 [.int .u8 x.kind,.str x.rat,.str (Ca.into a),.int .i64 x.date,.sl x.sub.length 5 (Ex.exG x.sub),.int .u8 (Ex.kind (Tm.kon n)),.str (Ex.rat (Tm.kon n)),.str (Ex.name (Tm.kon n)),.int .i64 (Ex.date (Tm.kon n)),.sl (List.length (Ex.sub (Tm.kon n))) 5 (Ex.deep (Tm.kon n))])])) (.leaf (.ret [.agg [.int .u8 x.kind,.str x.rat,.str (Ca.into a),.int .i64 x.date,.sl x.sub.length 5 (Ex.exG x.sub)]] [.box [.str (Ca.name a),.str (Ca.into a),.int .i64 (Ca.date a),.str (Ca.ratio a),.str (Ca.extra a)],.box [.fn 81 [] [.ptr 0 0,.ptr 1 0]],.box [.int .u8 x.kind,.str x.rat,.str (Ca.into a),.int .i64 x.date,.sl x.sub.length 5 (Ex.exG x.sub)],.box [.int .u8 x.kind,.str x.rat,.str (Ca.into a),.int .i64 x.date,.sl x.sub.length 5 (Ex.exG x.sub)]])))) (.ex (fun(x_1:Ca×Ex)=>eqL [x.exA,AV.fn 81 [] [AV.ptr 0 0,AV.ptr 1 0]] [x_1.2.exA,AV.fn 81 [] [AV.ptr 0 0,AV.ptr 1 0]]∧eqH [.box [AV.str (Ca.name a),AV.str (Ca.into a),AV.int .i64 (Ca.date a),AV.str (Ca.ratio a),AV.str (Ca.extra a)],.box [AV.fn 81 [] [AV.ptr 0 0,AV.ptr 1 0]]] [.box [AV.str (Ca.name x_1.1),AV.str (Ca.into x_1.1),AV.int .i64 (Ca.date x_1.1),AV.str (Ca.ratio x_1.1),AV.str (Ca.extra x_1.1)],.box [AV.fn 81 [] [AV.ptr 0 0,AV.ptr 1 0]]]∧2=2∧Ex.zo x_1.2.sub<n∧Ex.zo x_1.2.sub<1099511627776) fun n=>.all (fun(x:Unit)=>True) fun n_1=>.leaf (.ret [(exD (Ex.mk n.2.kind n.2.rat n.2.name n.2.date (List.map (Ca.adj n.1) n.2.sub)))] [.box [.str (Ca.name n.1),.str (Ca.into n.1),.int .i64 (Ca.date n.1),.str (Ca.ratio n.1),.str (Ca.extra n.1)],.box [.fn 81 [] [.ptr 0 0,.ptr 1 0]],.box [.int .u8 x.kind,.str x.rat,.str x.name,.int .i64 x.date,.sl x.sub.length 5 (Ex.exG x.sub)],.box (Ex.cellsD (Ex.mk n.2.kind n.2.rat n.2.name n.2.date (List.map (Ca.adj n.1) n.2.sub)))]))) (by kernel_rfl) ?_
 simp only [Tree.holds,zd]
 obtain⟨c,hc⟩:∃ c,a.onX x.kind x.name x.date=c:=⟨_,rfl⟩
 rw [hc] at hq
 have hcc:(bif decide (x.name=a.name) then bif decide (x.kind=3) then true else bif decide (x.kind=2) then decide (a.date≤x.date) else false else false)=c:=by
  rw [← hc]; unfold Ca.onX
  cases decide (x.kind=3)<;>cases decide (x.kind=2)<;>cases decide (x.name=a.name)<;>cases decide (a.date≤x.date)<;>rfl
 rw [hcc]
 refine⟨fun h=> ?_,fun h=> ?_⟩
 ·rw [if_pos h] at hq
  have hq2:∀ y:Ex,Ca.rel a (.mk x.kind x.rat a.into x.date x.sub)=y→Q (exD y,HAd a):=fun y e=>by rw [← e]; exact hq
  unfold Ca.rel at hq2
  have e48:[UInt8.ofNat (48+0)]=[48]:=rfl
  have e49:[UInt8.ofNat (48+1)]=[49]:=rfl
  refine⟨1,⟨⟨⟨rfl,rfl⟩,trivial⟩,by decide⟩,⟨_,rfl⟩,?_⟩
  rintro _ rfl
  rw [e49]
  refine⟨fun h1=> ?_,fun h1=> ?_⟩<;>simp at h1
  ·refine⟨a.ratio,⟨⟨rfl,trivial⟩,trivial⟩,⟨(),trivial⟩,fun _ _=>⟨0,⟨⟨⟨rfl,rfl⟩,trivial⟩,by decide⟩,⟨_,rfl⟩,?_⟩⟩
   rintro _ rfl
   rw [e48]
   refine⟨fun h2=> ?_,fun h2=> ?_⟩<;>simp at h2
   ·rw [if_neg h2,if_neg h1] at hq2
    refine⟨a.extra,⟨⟨rfl,trivial⟩,trivial⟩,⟨(),trivial⟩,fun _ _=> ?_⟩
    exact RetR.yO [0,1] rfl rfl (by show ∀ j,j<2→_; decide) rfl (hq2 _ rfl) (LeA.agg ⟨LeA.refl _,LeA.refl _,LeA.refl _,LeA.refl _,Ex.yG (x:=Tm.opx 6 [Tm.kon a.ratio,Ex.mk x.kind x.rat a.into x.date x.sub]) (y:=Tm.kon a.extra) ⟨LeA.refl _,LeA.refl _,LeA.refl _,LeA.refl _,Ex.yG (x:=Tm.kon a.ratio) (y:=Ex.mk x.kind x.rat a.into x.date x.sub) ⟨LeA.refl _,LeA.refl _,LeA.refl _,LeA.refl _,LeA.refl _,LeA.refl _,LeA.refl _,LeA.refl _,LeA.refl _,Ex.jN (Ex.mk x.kind x.rat a.into x.date x.sub),trivial⟩,LeA.refl _,LeA.refl _,LeA.refl _,LeA.refl _,LeA.refl _,trivial⟩,trivial⟩) (by simp [expH,expB,exp1,exp0,ren0,HAd,zy]) rfl
   ·rw [if_pos h2,if_neg h1] at hq2
    exact RetR.yO [0,1] rfl rfl (by show ∀ j,j<2→_; decide) rfl (hq2 _ rfl) (LeA.agg ⟨LeA.refl _,LeA.refl _,LeA.refl _,LeA.refl _,Ex.yG (x:=Tm.kon a.ratio) (y:=Ex.mk x.kind x.rat a.into x.date x.sub) ⟨LeA.refl _,LeA.refl _,LeA.refl _,LeA.refl _,LeA.refl _,LeA.refl _,LeA.refl _,LeA.refl _,LeA.refl _,Ex.jN (Ex.mk x.kind x.rat a.into x.date x.sub),trivial⟩,trivial⟩) (by simp [expH,expB,exp1,exp0,ren0,HAd,zy]) rfl
  ·refine⟨0,⟨⟨⟨rfl,rfl⟩,trivial⟩,by decide⟩,⟨_,rfl⟩,?_⟩
   rintro _ rfl
   rw [e48]
   refine⟨fun h2=> ?_,fun h2=> ?_⟩<;>simp at h2
   ·rw [if_neg h2,if_pos h1] at hq2
    refine⟨a.extra,⟨⟨rfl,trivial⟩,trivial⟩,⟨(),trivial⟩,fun _ _=> ?_⟩
    exact RetR.yO [0,1] rfl rfl (by show ∀ j,j<2→_; decide) rfl (hq2 _ rfl) (LeA.agg ⟨LeA.refl _,LeA.refl _,LeA.refl _,LeA.refl _,Ex.yG (x:=Ex.mk x.kind x.rat a.into x.date x.sub) (y:=Tm.kon a.extra) ⟨LeA.refl _,LeA.refl _,LeA.refl _,LeA.refl _,Ex.jN (Ex.mk x.kind x.rat a.into x.date x.sub),LeA.refl _,LeA.refl _,LeA.refl _,LeA.refl _,LeA.refl _,trivial⟩,trivial⟩) (by simp [expH,expB,exp1,exp0,ren0,HAd,zy]) rfl
   ·rw [if_pos h2,if_pos h1] at hq2
    exact RetR.yO [0,1] rfl rfl (by show ∀ j,j<2→_; decide) rfl (hq2 _ rfl) (LeA.agg ⟨LeA.refl _,LeA.refl _,LeA.refl _,LeA.refl _,Ex.jN (Ex.mk x.kind x.rat a.into x.date x.sub),trivial⟩) (by simp [expH,expB,exp1,exp0,ren0,HAd,zy]) rfl
 rw [h,if_neg (by decide)] at hq
 refine⟨(a,x),⟨⟨qy x,by simp,trivial⟩,by simp,trivial,by show Ex.zo x.sub<n; omega,by show Ex.zo x.sub<_; omega⟩,⟨(),trivial⟩,fun _ _=> ?_⟩
 exact RetR.yO [0,1] rfl rfl (by show ∀ j,j<2→_; decide) rfl hq (LeA.refl _) (by simp [expH,expB,exp1,exp0,ren0,HAd,zy]) rfl
theorem zk3(n:Nat):zc Tryz.prog 81 (adjC n):=by
 induction n with
 | zero=>
  intro args hc Q hq _
  simp only [adjC,ctrT] at hq
  obtain⟨x,⟨_,_,_,h,_⟩,_⟩:=hq
  exact absurd h (Nat.not_lt_zero _)
 | succ n ih=>exact zg2 n ih
def Yf:Ctr:=ctrT false false (fun p:Ca×Ex=>[p.2.exA,.ptr 0 0,.ptr 1 0]) (fun p=>HAd p.1) (fun p=>p.2.size<2^40) (fun _ (_:Unit)=>True) (fun p _=>(exD (p.1.adj p.2),HAd p.1))
theorem znp:zc Tryz.prog 81 Yf:=by
 intro args hc Q hq hf
 simp only [Yf,ctrT] at hq
 obtain⟨x,⟨h1,h2,h3,h4⟩,h5⟩:=hq
 exact zk3 (x.2.size+1) args hc Q ⟨x,⟨h1,h2,h3,Nat.lt_succ_self _,h4⟩,h5⟩ hf
noncomputable def GAdj:Nat→Option Ctr:=fun f=>if f=81 then some (Yf) else none
theorem zjq:∀ g c,GAdj g=some c→zc Tryz.prog g c:=okIf znp (zq)
def Zp:Ctr:=ctrP false (fun p:Ca×Ex=>[p.1.av,p.2.exA]) (fun p=>p.2.size<2^40) (fun _ (_:Unit)=>True) (fun p _=>(exD (p.1.adj p.2),[]))
theorem Z7:zc Tryz.prog 38 Zp:=by
 refine ze (fn:=Tryz.f38) (c:=Tryz.f38.body.getD .skip) rfl rfl rfl fun p hp O w0 Q hq=> ?_
 obtain⟨a,x⟩:=p
 replace hq:=hq () trivial
 refine zb.run hmix zjq [] 400 (T:=.ex (fun(x_1:Ca×Ex)=>eqL [x.exA,AV.ptr 0 0,AV.ptr 1 0] [x_1.2.exA,AV.ptr 0 0,AV.ptr 1 0]∧eqH [.box [AV.str (Ca.name a),AV.str (Ca.into a),AV.int .i64 (Ca.date a),AV.str (Ca.ratio a),AV.str (Ca.extra a)],.box [AV.fn 81 [] [AV.ptr 0 0,AV.ptr 1 0]]] [.box [AV.str (Ca.name x_1.1),AV.str (Ca.into x_1.1),AV.int .i64 (Ca.date x_1.1),AV.str (Ca.ratio x_1.1),AV.str (Ca.extra x_1.1)],.box [AV.fn 81 [] [AV.ptr 0 0,AV.ptr 1 0]]]∧2=2∧Ex.size x_1.2<1099511627776) fun n=>.all (fun(x:Unit)=>True) fun n_1=>.leaf (.ret [(exD (Ca.adj n.1 n.2))] [.box [.str (Ca.name n.1),.str (Ca.into n.1),.int .i64 (Ca.date n.1),.str (Ca.ratio n.1),.str (Ca.extra n.1)],.box [.int .u8 x.kind,.str x.rat,.str x.name,.int .i64 x.date,.sl x.sub.length 5 (Ex.exG x.sub)],.box (Ex.cellsD (Ca.adj n.1 n.2)),.box [.fn 81 [] [.ptr 0 0,.ptr 3 0]]])) (by kernel_rfl) ?_
 simp only [Tree.holds,zd]
 refine⟨(a,x),⟨⟨qy x,⟨rfl,rfl⟩,⟨rfl,rfl⟩,trivial⟩,by simp,trivial,hp⟩,⟨(),trivial⟩,fun _ _=> ?_⟩
 exact RetR.le0 hq (fun h=>by cases h) (LeA.refl _)
end Go.Proofs.Tryz
end
section
namespace Go.Nov
open Go.Sx
theorem KK{k p:Int}(h:p∈qu k):p≠0:=by
 unfold qu Qm at h
 cases e:shpL.find? (fun q=>q.1 == k) with
 | none=>rw [e] at h; simp at h
 | some q=>
  rw [e] at h
  simp only [Option.map_some,Option.getD_some] at h
  have hq:=List.mem_of_find?_eq_some e
  have all:∀ q∈shpL,∀ p∈q.2.1,p≠0:=by decide
  exact all q hq p h
theorem Q8{k d:Int}{r n:List UInt8}{ss:List Int}(h:kf k r n d ss≠0):∀ p∈ss,p≠0:=by
 unfold kf at h
 split at h
 ·split at h
  ·rename_i h2
   rw [h2.2.2.2]
   exact fun p hp=>KK hp
  ·exact absurd rfl h
 ·split at h
  ·rename_i h2
   unfold jd at h2
   have:ss=[]:=by simp at h2; exact h2.1
   rw [this]; simp
  ·exact absurd rfl h
theorem kE{k d:Int}{r n:List UInt8}{ss:List Int}(h:kf k r n d ss≠0)(hk:k=3∨k=2):r=[]∧ss=[]:=by
 have hs:jR k=false:=by rcases hk with rfl | rfl<;>decide
 rw [kK hs] at h
 split at h
 ·rename_i h2
  unfold jd at h2
  rcases hk with rfl | rfl<;>simp at h2
  ·exact⟨h2.2.1.1,h2.1⟩
  ·exact⟨h2.2.1.1,h2.1⟩
 ·exact absurd rfl h
namespace Ca
mutual
theorem VW(a:Ca):∀ x:Ex,x.zK≠0→adj a x=chg a x
 | .mk k r n d s,h=>by
  rw [Ex.zK] at h
  rw [adj,chg]
  by_cases hh:a.onX k n d=true
  ·rw [if_pos hh,if_pos hh]
   have hk:k=3∨k=2:=by
    simp [onX] at hh
    rcases hh.2 with h1 | h1
    ·exact .inl h1
    ·exact .inr h1.1
   obtain⟨h1,h2⟩:=kE h hk
   have:s=[]:=by
    cases s with
    | nil=>rfl
    | cons x s=>rw [Ex.zY] at h2; cases h2
   rw [h1,this]
  ·rw [if_neg hh,if_neg hh,Vf a s (Q8 h)]
theorem Vf(a:Ca):∀ s:List Ex,(∀ p∈Ex.zY s,p≠0)→adjs a s=chgs a s
 | [],_=>by rw [adjs,chgs]
 | x::s,h=>by
  rw [Ex.zY] at h
  rw [adjs,chgs,VW a x (h _ (by simp)),Vf a s (fun p hp=>h p (by simp [hp]))]
end
theorem zg9(a:Ca)(y:Ex):(a.rel y).size≤y.size+4∧(a.rel y).zp≤y.zp+a.ratio.length+a.extra.length:=by
 unfold rel
 split<;>split<;>(try simp only [Tm.opx,Tm.kon,Ex.size,Ex.zo,Ex.zp,Ex.zH,List.length_nil])<;>omega
mutual
theorem Qd(a:Ca):∀ x:Ex,(chg a x).size≤5*x.size∧(chg a x).zp≤x.zp+x.size*(a.into.length+a.ratio.length+a.extra.length)
 | .mk k r n d s=>by
  rw [chg]
  by_cases hh:a.onX k n d=true
  ·rw [if_pos hh]
   have h:=zg9 a (.mk k [] a.into d [])
   simp only [Ex.size,Ex.zo,Ex.zp,Ex.zH,List.length_nil] at h ⊢
   have hm:a.into.length+a.ratio.length+a.extra.length≤(1+Ex.zo s)*(a.into.length+a.ratio.length+a.extra.length):=Nat.le_mul_of_pos_left _ (by omega)
   omega
  ·rw [if_neg hh]
   have h:=Wi a s
   simp only [Ex.size,Ex.zp,Nat.add_mul,Nat.one_mul] at h ⊢
   omega
theorem Wi(a:Ca):∀ s:List Ex,Ex.zo (chgs a s)≤5*Ex.zo s∧Ex.zH (chgs a s)≤Ex.zH s+Ex.zo s*(a.into.length+a.ratio.length+a.extra.length)
 | []=>by rw [chgs]; simp [Ex.zo,Ex.zH]
 | x::s=>by
  have h1:=Qd a x
  have h2:=Wi a s
  rw [chgs]
  simp only [Ex.zo,Ex.zH,Nat.add_mul] at h1 h2 ⊢
  omega
end
theorem za7{k d:Int}{s t n:List UInt8}{x:Ex}{l:List Int}{m:Nat}(h:JX k s t n x d l m=true):ja x=true∨x.zK≠0:=by
 have hn:numX x=true→x.zK≠0:=fun h=>by simp [numX] at h; omega
 have ht:truX x=true→x.zK≠0:=fun h=>by simp [truX] at h; omega
 unfold JX at h
 repeat' split at h
 all_goals simp only [Bool.and_eq_true,Bool.false_eq_true] at h
 all_goals first
  | exact h.elim
  | exact .inl h.2
  | exact .inr (hn h.2)
  | exact .inr (ht h.2)
  | exact .inr (hn h.1.1.2)
theorem zbx(a:Ca){x:Ex}(h:ja x=true∨x.zK≠0):adj a x=chg a x:=by
 rcases h with h | h
 ·obtain⟨k,r,n,d,s⟩:=x
  simp [ja,Ex.kind,Ex.rat,Ex.name,Ex.date,Ex.sub] at h
  obtain⟨h0,_,_,_,rfl⟩:=h
  obtain rfl:k=0:=of_decide_eq_true h0
  rw [adj,chg,adjs,chgs]
  have:a.onX 0 n d=false:=by simp [onX]
  rw [this]; simp
 ·exact VW a x h
mutual
theorem JQ(a:Ca):∀ c:Con,c.form=true→whole a.adj c=whole a.chg c
 | .mk k s t n x d l u,h=>by
  rw [Con.form,Bool.and_eq_true] at h
  rw [whole,whole,zbx a (za7 h.1),QP a u h.2]
theorem QP(a:Ca):∀ u:List Con,Con.yF u=true→q6 a.adj u=q6 a.chg u
 | [],_=>by rw [q6,q6]
 | c::u,h=>by
  rw [Con.yF,Bool.and_eq_true] at h
  rw [q6,q6,JQ a c h.1,QP a u h.2]
end
mutual
theorem yy(a:Ca):∀ c:Con,(whole a.chg c).nodes=c.nodes∧(whole a.chg c).big≤5*c.big+c.big*(a.into.length+a.ratio.length+a.extra.length)
 | .mk k s t n x d l u=>by
  have h1:=Qd a x
  have h2:=ZD a u
  rw [whole]
  simp only [Con.nodes,Con.big,Nat.add_mul] at h1 h2 ⊢
  omega
theorem ZD(a:Ca):∀ u:List Con,Con.zC (q6 a.chg u)=Con.zC u∧Con.bigs (q6 a.chg u)≤5*Con.bigs u+Con.bigs u*(a.into.length+a.ratio.length+a.extra.length)
 | []=>by rw [q6]; simp [Con.zC,Con.bigs]
 | c::u=>by
  have h1:=yy a c
  have h2:=ZD a u
  rw [q6]
  simp only [Con.zC,Con.bigs,Nat.add_mul] at h1 h2 ⊢
  omega
end
def expr(a:Ca)(x:Ex):Ex×Int:=if a.ok=true then(if x.errX=0 then(if(chg a x).errX=0 then(chg a x,0) else(Ex.nil,(chg a x).errX)) else(Ex.nil,x.errX)) else(Ex.nil,8)
def conv(a:Ca)(c:Con):Con×Int:=if a.ok=true then(if c.errC=0 then(if(whole a.chg c).errC=0 then(whole a.chg c,0) else(Con.nil,(whole a.chg c).errC)) else(Con.nil,c.errC)) else(Con.nil,8)
end Ca
end Go.Nov
end
section
set_option maxRecDepth 100000
open Go Go.Sx Go.Proofs Go.Nov
namespace Go.Proofs.Tryz
attribute [local simp] eqKV eqA eqA0 eqH eqB eqL eqL0
noncomputable def GPex:Nat→Option Ctr:=fun f=>if f=16 then some (k0) else if f=37 then some (Vu) else if f=38 then some (Zp) else none
theorem zl8:∀ g c,GPex g=some c→zc Tryz.prog g c:=okIf vQ (okIf Vh (okIf Z7 (zq)))
def qZ(a:Ca):Prop:=a.name.length≤1000∧a.into.length≤1000∧a.ratio.length≤1000∧a.extra.length≤1000
theorem kH{a:Ca}(h:qZ a):jk a:=by
 obtain⟨h1,h2,h3,h4⟩:=h
 exact⟨by omega,by omega,by omega,by omega⟩
theorem zg5{a:Ca}{x:Ex}(ha:qZ a)(h1:x.size<2^20)(h2:x.zp<2^30):(a.chg x).size<2^40∧(a.chg x).zp<2^40:=by
 obtain⟨_,a2,a3,a4⟩:=ha
 obtain⟨s1,s2⟩:=Ca.Qd a x
 have:x.size*(a.into.length+a.ratio.length+a.extra.length)≤2^20*3000:=Nat.mul_le_mul (by omega) (by omega)
 omega
theorem VM{e:Int} : eqA2 (.tup [.agg [.int .u8 0,.str [],.str [],.int .i64 0,.nils],.int .i64 e]) (.tup [exD Ex.nil,.int .i64 e]):=by
 simp [eqA2,eqL1,exD,Ex.nil,Ex.kind,Ex.rat,Ex.name,Ex.date,Ex.sub]
theorem zku{x:Ex}(h:x.errX=0):x.zK≠0:=by
 intro e
 unfold Ex.errX at h
 rw [if_pos e] at h
 split at h<;>simp at h
def zis:Ctr:=ctrP false (fun p:Ca×Ex=>[p.1.av,p.2.exA]) (fun p=>qZ p.1∧p.2.size<2^20∧p.2.zp<2^30) (fun _ (_:Unit)=>True) (fun p _=>(.tup [exD (p.1.expr p.2).1,.int .i64 (p.1.expr p.2).2],[]))
theorem zji:zc Tryz.prog 10 zis:=by
 refine ze (fn:=Tryz.f10) (c:=Tryz.f10.body.getD .skip) rfl rfl rfl fun p hp O w0 Q hq=> ?_
 obtain⟨a,x⟩:=p
 replace hq:=hq () trivial
 refine zb.run hmix zl8 [] 400 (T:=.ex (fun(x:Ca)=>eqL [AV.agg [AV.str (Ca.name a),AV.str (Ca.into a),AV.int .i64 (Ca.date a),AV.str (Ca.ratio a),AV.str (Ca.extra a)]] [AV.agg [AV.str (Ca.name x),AV.str (Ca.into x),AV.int .i64 (Ca.date x),AV.str (Ca.ratio x),AV.str (Ca.extra x)]]∧jk x) fun n=>.all (fun(r:Int)=>r=if Ca.ok n=true then(0:Int) else(8:Int)) fun n=>.ite (!decide (n=0)) (.leaf (.ret [.agg [.int .u8 0,.str #[].toList,.str #[].toList,.int .i64 0,.nils],.int .i64 n] [.box [.str (Ca.name a),.str (Ca.into a),.int .i64 (Ca.date a),.str (Ca.ratio a),.str (Ca.extra a)],.box [.int .u8 x.kind,.str x.rat,.str x.name,.int .i64 x.date,.sl x.sub.length 5 (Ex.exG x.sub)],.box [.int .u8 0,.str #[].toList,.str #[].toList,.int .i64 0,.nils]])) (.ex (fun(x_1:Ex)=>eqL [x.exA] [x_1.exA]∧Ex.size x_1<1099511627776∧Ex.zp x_1<1099511627776) fun n=>.all (fun(r:Int)=>r=Ex.errX n) fun n=>.ite (!decide (n=0)) (.leaf (.ret [.agg [.int .u8 0,.str #[].toList,.str #[].toList,.int .i64 0,.nils],.int .i64 n] [.box [.str (Ca.name a),.str (Ca.into a),.int .i64 (Ca.date a),.str (Ca.ratio a),.str (Ca.extra a)],.box [.int .u8 x.kind,.str x.rat,.str x.name,.int .i64 x.date,.sl x.sub.length 5 (Ex.exG x.sub)],.box [.int .u8 0,.str #[].toList,.str #[].toList,.int .i64 0,.nils]])) (.ex (fun(x_1:Ca×Ex)=>eqL [AV.agg [AV.str (Ca.name a),AV.str (Ca.into a),AV.int .i64 (Ca.date a),AV.str (Ca.ratio a),AV.str (Ca.extra a)],x.exA] [AV.agg [AV.str (Ca.name x_1.1),AV.str (Ca.into x_1.1),AV.int .i64 (Ca.date x_1.1),AV.str (Ca.ratio x_1.1),AV.str (Ca.extra x_1.1)],x_1.2.exA]∧Ex.size x_1.2<1099511627776) fun n=>.all (fun(x:Unit)=>True) fun n_1=>.ex (fun(x:Ex)=>eqL [(exD (Ca.adj n.1 n.2))] [x.exA]∧Ex.size x<1099511627776∧Ex.zp x<1099511627776) fun n_2=>.all (fun(r:Int)=>r=Ex.errX n_2) fun n_3=>.ite (!decide (n_3=0)) (.leaf (.ret [.agg [.int .u8 0,.str #[].toList,.str #[].toList,.int .i64 0,.nils],.int .i64 n_3] [.box [.str (Ca.name a),.str (Ca.into a),.int .i64 (Ca.date a),.str (Ca.ratio a),.str (Ca.extra a)],.box [.int .u8 x.kind,.str x.rat,.str x.name,.int .i64 x.date,.sl x.sub.length 5 (Ex.exG x.sub)],.box [.int .u8 0,.str #[].toList,.str #[].toList,.int .i64 0,.nils],.box (Ex.cellsD (Ca.adj n.1 n.2))])) (.leaf (.ret [(exD (Ca.adj n.1 n.2)),.int .i64 0] [.box [.str (Ca.name a),.str (Ca.into a),.int .i64 (Ca.date a),.str (Ca.ratio a),.str (Ca.extra a)],.box [.int .u8 x.kind,.str x.rat,.str x.name,.int .i64 x.date,.sl x.sub.length 5 (Ex.exG x.sub)],.box (Ex.cellsD (Ca.adj n.1 n.2)),.box (Ex.cellsD (Ca.adj n.1 n.2))]))))) (by kernel_rfl) ?_
 simp only [Tree.holds,zd]
 obtain⟨ht,hx1,hx2⟩:=hp
 simp only at ht hx1 hx2 hq
 obtain⟨c1,c2⟩:=zg5 ht hx1 hx2
 unfold Ca.expr at hq
 have ha:eqA (.agg [.str a.name,.str a.into,.int .i64 a.date,.str a.ratio,.str a.extra]) a.av:=⟨rfl,rfl,⟨rfl,rfl⟩,rfl,rfl,trivial⟩
 refine⟨a,⟨⟨ha,trivial⟩,kH ht⟩,⟨_,rfl⟩,?_⟩
 rintro _ rfl
 by_cases hok:a.ok=true
 ·rw [if_pos hok] at hq ⊢
  refine⟨fun h=>by simp at h,fun _=> ?_⟩
  refine⟨x,⟨⟨qy x,trivial⟩,by omega,by omega⟩,⟨_,rfl⟩,?_⟩
  rintro _ rfl
  refine⟨fun h=> ?_,fun h=> ?_⟩<;>simp at h
  ·rw [if_neg h] at hq
   exact RetR.out0 hq (fun h=>by cases h) VM
  have e:a.adj x=a.chg x:=Ca.VW a x (zku h)
  rw [if_pos h] at hq
  refine⟨(a,x),⟨⟨ha,qy x,trivial⟩,by show x.size<_; omega⟩,⟨(),trivial⟩,fun _ _=> ?_⟩
  simp only [e]
  refine⟨a.chg x,⟨⟨km _,trivial⟩,c1,c2⟩,⟨_,rfl⟩,?_⟩
  rintro _ rfl
  refine⟨fun h=> ?_,fun h=> ?_⟩<;>simp at h
  ·rw [if_neg h] at hq
   exact RetR.out0 hq (fun h=>by cases h) VM
  rw [if_pos h] at hq
  exact RetR.le0 hq (fun h=>by cases h) (LeA.refl _)
 ·rw [if_neg hok] at hq ⊢
  exact⟨fun _=>RetR.out0 hq (fun h=>by cases h) VM,fun h=>by simp at h⟩
end Go.Proofs.Tryz
end
section
namespace Go.Sx
variable [Stat]
def Xl(P:Program)(g sz bytes:Nat):Prop:=∀ (b off n c i m vb voff vc:Nat) (cur vcur:Array Value) (el vel:TypeId) (w:World),0<m→i<n→n≤c→(n+m)*bytes≤140737488355328→vb≠b →
 w.heap[b]?=some (.cells cur el (0,0))→w.heap[vb]?=some (.cells vcur vel (0,0))→off+c*sz≤cur.size→voff+m*sz≤vcur.size →
 (∀ (j:Nat) (v:Value),j<n*sz→cur[off+j]?=some v→v.oneCell'=true)→(∀ (j:Nat) (v:Value),j<m*sz→vcur[voff+j]?=some v→v.oneCell'=true) →
 Calls P g #[.slice (some ⟨b,off,none⟩) n c,.int .i64 i,.slice (some ⟨vb,voff,none⟩) m vc] w fun e w'=>∃ (b' o' c':Nat) (cur':Array Value) (el':TypeId),
  e = .returned (.slice (some ⟨b',o',none⟩) (n+m) c')∧n+m≤c'∧w'.heap[b']?=some (.cells cur' el' (0,0))∧o'+c'*sz≤cur'.size ∧
  (∀ j,j<(n+m)*sz→cur'[o'+j]?=if j<i*sz then cur[off+j]? else if j<i*sz+m*sz then vcur[voff+(j - i*sz)]? else cur[off+(j - m*sz)]?) ∧
  (b'=b∨w.heap.size≤b')∧w.heap.size≤w'.heap.size∧(∀ k,k<w.heap.size→k≠b→w'.heap[k]?=w.heap[k]?)∧w'.os=w.os∧w'.tape=w.tape∧w'.output=w.output
def Xh(i m:Nat)(gl gv:Nat→Nat→AV):Nat→Nat→AV:=fun j o=>if j<i then gl j o else if j<i+m then gv (j - i) o else gl (j - m) o
theorem zha{P:Program}{g:Nat}{fn:Func}{c:Code}(hf:P.funcs[g]?=some fn)(hb:fn.body=some c) (hn:(fn.name == "runtime.NumGoroutine")=false) {sz bytes:Nat} (hsz:0<sz) (W:Xl P g sz bytes)
  {gl gv gt:Nat→Nat→AV} {n i m:Nat} (hm:0<m) (hi:i<n) (hbig:(n+m)*bytes≤140737488355328) (hgt:eqG (n+m) sz (Xh i m gl gv) gt) {ctr:Ctr} (hfr:ctr.fresh=false) (hmv:ctr.wZ=true) (hpi:ctr.pins=0) {Q:AV×Heap→Prop}
  (hq:Q (.osl 0 sz 0 (n+m),[.arr (n+m) sz gt,.dead])):jl P g ctr [.osl 0 sz 0 n,.int .i64 i,.osl 1 sz 0 m] [.arr n sz gl,.arr m sz gv] Q:=by
 intro O w σ vals hg hh hr
 simp only [RepL] at hr
 obtain⟨v0,r0,rfl,h0,v1,r1,rfl,h1,v2,r2,rfl,h2,rfl⟩:=hr
 simp only [Rep] at h0 h1 h2
 subst h1
 obtain⟨e0,he0,hl0,a0,cap,rfl,hnc,hr0⟩:=h0
 obtain⟨e1,he1,hl1,a1,vc,rfl,hvc,hr1⟩:=h2
 rcases hr0 with hr0 | ⟨ad,had,rfl,cur,el,hcur,hsize⟩
 ·omega
 rcases hr1 with hr1 | ⟨vd,hvd,rfl,vcur,vel,hvcur,hvsize⟩
 ·omega
 obtain⟨hen0,hz0 | ⟨ad',cs0,el0,had',hcs0,hs0,hc0⟩⟩:=hh.blk 0 e0 _ he0 rfl
 ·omega
 rw [had] at had'; cases had'
 rw [hcur] at hcs0; cases hcs0
 obtain⟨hen1,hz1 | ⟨vd',cs1,el1,hvd',hcs1,hs1,hc1⟩⟩:=hh.blk 1 e1 _ he1 rfl
 ·omega
 rw [hvd] at hvd'; cases hvd'
 rw [hvcur] at hcs1; cases hcs1
 have hne:vd.block≠ad.block:=fun h=>hh.inj 0 1 e0 e1 ad vd he0 he1 had hvd (by decide) h.symm
 have hmb:Mine σ ad.block:=⟨e0,List.mem_of_getElem? he0,ad,had,rfl⟩
 have hbw:ad.block<w.heap.size:=hh.lt 0 e0 ad he0 had
 simp only [Nat.zero_mul,Nat.add_zero,Nat.zero_add] at hsize hvsize ⊢
 have hn':¬ fn.name = "runtime.NumGoroutine" :=by simpa using hn
 left
 refine⟨by simp [callFunc,hf,hn',hb],?_⟩
 have hvfit:vd.off+m*sz≤vcur.size:=by simpa using hs1
 refine(W ad.block ad.off n cap i m vd.block vd.off vc cur vcur el vel w hm hi hnc hbig hne hcur hvcur hsize hvfit ?_ ?_).mono ?_
 ·intro j v hj hv
  have ho:j%sz<sz:=Nat.mod_lt _ hsz
  have hjn:j/sz<n:=Nat.div_lt_of_lt_mul (by rw [Nat.mul_comm]; exact hj)
  obtain⟨c,g1,g2,_⟩:=hc0 (j/sz) (j%sz) hjn ho
  have:j/sz*sz+j%sz=j:=by rw [Nat.mul_comm]; exact Nat.div_add_mod j sz
  rw [this,hv] at g1
  cases g1; exact g2
 ·intro j v hj hv
  have ho:j%sz<sz:=Nat.mod_lt _ hsz
  have hjn:j/sz<m:=Nat.div_lt_of_lt_mul (by rw [Nat.mul_comm]; exact hj)
  obtain⟨c,g1,g2,_⟩:=hc1 (j/sz) (j%sz) hjn ho
  have:j/sz*sz+j%sz=j:=by rw [Nat.mul_comm]; exact Nat.div_add_mod j sz
  rw [this,hv] at g1
  cases g1; exact g2
 rintro e w' ⟨b',o',c',cur',el',rfl,hc',hcur',hsz',hel,hb',hws,hkeep,hos,htape,hout⟩
 refine⟨_,rfl,.osl 0 sz 0 (n+m),[.arr (n+m) sz gt,.dead],[⟨some ⟨b',o',none⟩,n+m⟩,⟨none,0⟩],hq,?_⟩
 have hlt':b'<w'.heap.size:=(Array.getElem?_eq_some_iff.1 hcur').1
 have hmine:∀ b,Mine [⟨some ⟨b',o',none⟩,n+m⟩,⟨none,0⟩] b→b=b':=by
  rintro b ⟨e,he,ad2,h1,h2⟩
  simp only [List.mem_cons,List.not_mem_nil,or_false] at he
  rcases he with rfl | rfl
  ·cases h1; exact h2.symm
  ·cases h1
 have hown:∀ b,Own O [⟨some ⟨b',o',none⟩,n+m⟩,⟨none,0⟩] b→O b∨b=b':=fun b hb=>hb.imp id fun h=>hmine b h
 have hx:Ext (Own O σ) w (fun b=>Own O [⟨some ⟨b',o',none⟩,n+m⟩,⟨none,0⟩] b∨(ctr.fresh=true∧b<w.heap.size)) w':=by
  refine⟨hos,htape,hout,hws,fun b hb hno=>hkeep b hb fun h=>hno (.inr (h▸hmb)),fun b hb=> ?_⟩
  rcases hb with hb | ⟨hb,_⟩
  ·rcases hown b hb with hb | rfl
   ·exact .inl (.inl hb)
   ·rcases hb' with rfl | hb'
    ·exact .inl (.inr hmb)
    ·exact .inr hb'
  ·rw [hfr] at hb; cases hb
 refine⟨?_,⟨rfl,?_,?_,?_⟩,⟨fun b hb=>Nat.lt_of_lt_of_le (hg.old b hb) hws,?_,hg.stat.ext ⟨hx.os,hx.tape,hx.output,hx.size,hx.keep,fun b hb=>hx.grow b (.inl hb)⟩⟩,Nat.le_refl _,?_,⟨hos,htape,hout,hws,fun b hb hno=>hkeep b hb fun h=>hno (h▸hmb),fun b hb=> ?_⟩⟩
 ·simp only [Rep]
  exact⟨⟨some ⟨b',o',none⟩,n+m⟩,rfl,by simp,some ⟨b',o',none⟩,c',rfl,hc',.inr ⟨⟨b',o',none⟩,rfl,by simp,cur',el',hcur',by simpa using hsz'⟩⟩
 ·intro i j e f a b he hf ha hb hij
  match i,j with
  | 0,0=>exact absurd rfl hij
  | 0,1=>simp at hf; subst hf; cases hb
  | 1,_=>simp at he; subst he; cases ha
  | 0,j+2=>simp at hf
  | i+2,_=>simp at he
 ·intro i e a he ha
  match i with
  | 0=>simp at he; subst he; cases ha; exact hlt'
  | 1=>simp at he; subst he; cases ha
  | i+2=>simp at he
 ·intro k e b he hb
  match k with
  | 0=>
   simp at he hb; subst he; subst hb
   refine⟨rfl,.inr ⟨_,cur',el',rfl,hcur',?_,fun j o hj ho=> ?_⟩⟩
   ·have:(n+m)*sz≤c'*sz:=Nat.mul_le_mul_right _ hc'
    simp only; omega
   ·have hlt:=uW hj ho
    have he:=hel (j*sz+o) hlt
    have hg2:=hgt j o hj ho
    simp only
    rw [he,← hg2]
    simp only [Xh]
    by_cases h1:j<i
    ·rw [if_pos (uW h1 ho),if_pos h1]
     obtain⟨c,g1,g2,g3⟩:=hc0 j o (by omega) ho
     exact⟨c,g1,g2,zk hx _ _ g3⟩
    ·have h2:¬ j*sz+o<i*sz:=by
      have:i*sz≤j*sz:=Nat.mul_le_mul_right _ (by omega)
      omega
     rw [if_neg h2,if_neg h1]
     have hmul:(i+m)*sz=i*sz+m*sz:=Nat.add_mul _ _ _
     by_cases h3:j<i+m
     ·have hjs:(j - i)*sz+i*sz=j*sz:=by rw [← Nat.add_mul]; congr 1; omega
      have:=uW (a:=j - i) (b:=m) (sz:=sz) (by omega) ho
      rw [if_pos (by omega),if_pos h3]
      obtain⟨c,g1,g2,g3⟩:=hc1 (j - i) o (by omega) ho
      refine⟨c,?_,g2,zk hx _ _ g3⟩
      rw [← g1]; congr 1; omega
     ·have h4:(i+m)*sz≤j*sz:=Nat.mul_le_mul_right _ (by omega)
      rw [if_neg (by omega),if_neg h3]
      obtain⟨c,g1,g2,g3⟩:=hc0 (j - m) o (by omega) ho
      refine⟨c,?_,g2,zk hx _ _ g3⟩
      rw [← g1]; congr 1
      have:(j - m)*sz+m*sz=j*sz:=by rw [← Nat.add_mul]; congr 1; omega
      omega
  | 1=>simp at hb; subst hb; trivial
  | k+2=>simp at he
 ·intro k e ad2 he had2
  match k with
  | 0=>
   simp at he; subst he; cases had2
   simp only
   rcases hb' with rfl | hb'
   ·exact hg.dis 0 e0 ad he0 had
   ·intro hO; have:=hg.old _ hO; omega
  | 1=>simp at he; subst he; cases had2
  | k+2=>simp at he
 ·rw [hmv,hpi]
  intro k e he hk
  simp only [if_true,List.drop_zero,List.mem_range] at hk
  have hlt:=(List.getElem?_eq_some_iff.1 he).1
  have hl:=hh.len
  simp at hl hk
  omega
 ·rcases hmine b hb with rfl
  rcases hb' with rfl | hb'
  ·exact .inl hmb
  ·exact .inr hb'
end Go.Sx
end
