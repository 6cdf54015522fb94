/- Part 9 of the proof. -/
import Derived.Test.YtjhnhncmkllgmaaGreatDoorSxb
import Derived.Test.YtjhnhncmkllgmaaGreatDoorSxh
set_option linter.unusedVariables false
set_option linter.unusedSimpArgs false
set_option linter.unusedSectionVars false
section
set_option maxRecDepth 100000
open Go Go.Sx Go.Proofs Go.Nov
namespace Go.Proofs.Tryz
attribute [local simp] eqKV eqA eqA0 eqH eqB eqL eqL0
noncomputable def K145:=Go.Sx.aA f145
def zed:Ctr:=ctr2 true (λx y=>(canon x).length<100000/\(canon y).length<100000) (λx y d=>d=x+y) (λ_ _ d=>(magS d,[]))
def SPl(x y:Nat)(o:List Nat)(c i:Nat):KV:=[(1,magS y),(5,.osl 0 1 0 o.length),(6,.int .u32 (c:Int)),(21,magS x),(22,.i ((canon x).length:Int)),(23,.i (i:Int))]
structure IPl(x y:Nat) where
 o:List Nat
 c:Nat
 i:Nat
 len:o.length=i
 le:i<=(canon x).length
 dg:dig o
 c1:c<=1
 eq:val o+B^i*c=val ((canon x).take i)+val ((canon y).take i)
theorem zu6{x y o c i d c':Nat}{l m:List Nat}(h:o+B^i*c=val (l.take i)+val (m.take i))(he:d+B*c'=l.getD i 0+m.getD i 0+c):o+B^i*d+B^(i+1)*c'=val (l.take (i+1))+val (m.take (i+1)):=by
 rw [zt,zt,Nat.pow_succ];have:=congrArg (B^i * ·) he;simp only [bN] at this;rw [bI];omega
theorem RetR.zv3{ctr:Ctr}{Q:AV×Heap->Prop}{h:Heap}{i m n:Nat}{k:IntKind}{l:List Nat}{G:Nat->Nat->AV}(hq:Q (natS k l,[]))(hb:h[i]?=some (.arr m 1 G))(hn:n<=m)(hl:l.length=n)(hG:∀ j,j<n->G j 0 = .int k ((l.getD j 0:Nat):Int)):RetR ctr 0 Q [.osl i 1 0 n] h:=by
 refine RetR.out0 hq (λ_=> ?_) ?_
 ·refine zkz hb (by omega) λj o hj ho=> ?_
  have:o=0:=by omega
  subst this;simp only [zg,Nat.zero_add,hG j hj,zX]
 ·have e:exp2 h [] (resV [.osl i 1 0 n])=exp0 h [] (.osl i 1 0 n):=rfl;rw [e,Yx hb (by omega),zuz];simp only [eqA2,natS];refine⟨hl.symm,rfl,λj o hj ho=> ?_⟩;have:o=0:=by omega
  subst this;rw [hG j hj]; rfl
theorem UC{O:Nat->Prop}{w0:World}{Q:AV×Heap->Prop}(x y:Nat)(hx:(canon x).length<100000)(hlen:(canon y).length<=(canon x).length)(hq:Q (magS (x+y),[]))(kv:KV)(h:Heap)(hle:LeK 0 f145.ntmps kv h (SPl x y [] 0 0) [.arr 0 1 (natG .u32 [])]) :
  zb prog f145 O 0 w0 [] (λ_ _ _=>False) (RetR zed 0 Q) (.code (.loop (lps K145 0).1)::(lps K145 0).2) (mk f145.ntmps kv h):=by
 refine zb.loop (ι:=IPl x y) (λs=>SPl x y s.o s.c s.i) (λs=>[.arr s.o.length 1 (natG .u32 s.o)]) (λs=>(canon x).length - s.i) ⟨[],0,0,rfl,aI _,by simp [dig],by omega,by simp [val]⟩ 0 hle ?_ (by kernel_rfl);rintro⟨o,c,i,ho,hle,hd,hc,he⟩;subst ho;have hB:B=1000000000:=rfl;refine zb.n G1.h [1,5,6,21,22,23] (let v8:=natG .u32 o;let v7:=inR .i64 (o.length+1);let v4:=o.length+1;let v1:=Int.toNat o.length;let v6:=Int.tdiv ((↑(List.getD (canon x) v1 0):Int)+c) (1000000000:Int);let v5:=zh 1 [.int .u32 (Int.tmod ((↑(List.getD (canon x) v1 0):Int)+c) (1000000000:Int))];let v3:=Int.tdiv ((↑(List.getD (canon x) v1 0):Int)+c+(↑(List.getD (canon y) v1 0):Int)) (1000000000:Int);let v2:=zh 1 [.int .u32 (Int.tmod ((↑(List.getD (canon x) v1 0):Int)+c+(↑(List.getD (canon y) v1 0):Int)) (1000000000:Int))];.D ((o.length:Int)<((canon x).length:Int)) (.side ((0:Int)<=o.length/\(o.length:Int)<((canon x).length:Int)) (.side (inR .u32 ((↑(List.getD (canon x) v1 0):Int)+c)) (.D ((o.length:Int)<((canon y).length:Int)) (.side ((0:Int)<=o.length/\(o.length:Int)<((canon y).length:Int)) (.side (inR .u32 ((↑(List.getD (canon x) v1 0):Int)+c+(↑(List.getD (canon y) v1 0):Int))) (.side ((1000000000:Int)≠0/\inR .u32 v3) (.side ((1000000000:Int)≠0) (.side (0=0/\o.length<=o.length/\v4 *4<=140737488355328) (.side v7 (.leaf (.back 0 [(1,.sl (canon y).length 1 (natG .u32 (canon y))),(5,.osl 0 1 0 v4),(6,.int .u32 v3),(21,.sl (canon x).length 1 (natG .u32 (canon x))),(22,.i (canon x).length),(23,.i (o.length+1))] [.arr v4 1 (appG o.length v8 (zg v2 0)),.arr 1 1 v2])))))))) (.side ((1000000000:Int)≠0/\inR .u32 v6) (.side ((1000000000:Int)≠0) (.side (0=0/\o.length<=o.length/\v4 *4<=140737488355328) (.side v7 (.leaf (.back 0 [(1,.sl (canon y).length 1 (natG .u32 (canon y))),(5,.osl 0 1 0 v4),(6,.int .u32 v6),(21,.sl (canon x).length 1 (natG .u32 (canon x))),(22,.i (canon x).length),(23,.i (o.length+1))] [.arr v4 1 (appG o.length v8 (zg v5 0)),.arr 1 1 v5]))))))))) (.side (0=0/\o.length<=o.length/\v4 *4<=140737488355328) (.ex (λ(u:List Nat)=>u.length=o.length+1/\0+(o.length+1)<=o.length+1/\o.length+1<4611686018427387904/\eqG v4 1 (appG o.length v8 (zg (zh 1 [.int .u32 c]) 0)) (natG .u32 u)/\dig (List.take v4 (List.drop 0 u))) λn=>.all (λ(x:Nat)=>x=val (List.take v4 (List.drop 0 n))) λn=>.R [.osl 0 1 0 (canon n).length] [.arr v4 1 (appG o.length v8 (zg (zh 1 [.int .u32 c]) 0)),.arr 1 1 (zh 1 [.int .u32 c])]))) ?_;simp only [Tree.holds,ze,inR,lo,hi,aD,yO];have ha:=zV (zi x) o.length;have hb:=zV (zi y) o.length
 have hnext:∀ d c':Nat,d<B->c'<=1->o.length<(canon x).length->d+B*c'=(canon x).getD o.length 0+(canon y).getD o.length 0+c ->
   ∃ s:IPl x y,s.o=o++[d]/\s.c=c'/\s.i=o.length+1:=λd c' h1 h2 h3 h4=>
  ⟨⟨o++[d],c',o.length+1,by simp,h3,jw.2 ⟨hd,by simp [dig,h1]⟩,h2,by rw [Vi]; exact zu6 (x:=x) (y:=y) he h4⟩,rfl,rfl,rfl⟩
 have hdiv:∀ v:Nat,(v:Int).tdiv 1000000000=((v/B:Nat):Int)/\(v:Int).tmod 1000000000=((v%B:Nat):Int):=λv=>⟨rfl,rfl⟩
 have hq2:∀ v:Nat,v<2*B->v/B<=1/\v%B<B/\v%B+B*(v/B)=v:=λv hv=>⟨by have:=Nat.div_lt_of_lt_mul (show v<B*2 by omega); omega,Nat.mod_lt _ (by omega),Nat.mod_add_div _ _⟩
 refine⟨λhlt=> ?_,λhge=> ?_⟩
 ·have hlt:o.length<(canon x).length:=by have:=aB hlt; omega
  refine⟨by omega,λ_=>⟨by omega,λ_=>⟨λhb2=> ?_,λhb2=> ?_⟩⟩⟩
  ·have hb2:o.length<(canon y).length:=by have:=aB hb2; omega
   refine⟨by omega,λ_=>⟨by omega,λ_=> ?_⟩⟩;obtain⟨v,hv⟩:∃ v,(canon x).getD o.length 0+c+(canon y).getD o.length 0=v:=⟨_,rfl⟩;have ev:(((canon x).getD o.length 0:Nat):Int)+(c:Int)+(((canon y).getD o.length 0:Nat):Int)=(v:Int):=by omega
   rw [ev,(hdiv v).1,(hdiv v).2];obtain⟨g1,g2,g3⟩:=hq2 v (by omega);generalize v/B=q at g1 g3 ⊢;generalize v%B=r at g2 g3 ⊢;refine⟨⟨by decide,by omega,by omega⟩,λ_=>⟨by decide,λ_=>⟨⟨trivial,aJ _,by omega⟩,λ_=>⟨by omega,λ_=> ?_⟩⟩⟩⟩;obtain⟨s,h1,h2,h3⟩:=hnext r q g2 g1 hlt (by omega);rw [aP trivial];exact⟨s,by show _ - s.i<_; omega,by simp [SPl,h1,h2,h3,magS,natS,za],by rw [h1]; exact ke rfl,by kernel_rfl,aI _⟩
  ·have hb2:(canon y).length<=o.length:=by have:=aC hb2; omega
   have hb0:(canon y).getD o.length 0=0:=by simp [List.getD,aZ hb2]
   obtain⟨v,hv⟩:∃ v,(canon x).getD o.length 0+c=v:=⟨_,rfl⟩;have ev:(((canon x).getD o.length 0:Nat):Int)+(c:Int)=(v:Int):=by omega
   rw [ev,(hdiv v).1,(hdiv v).2];obtain⟨g1,g2,g3⟩:=hq2 v (by omega);generalize v/B=q at g1 g3 ⊢;generalize v%B=r at g2 g3 ⊢;refine⟨⟨by decide,by omega,by omega⟩,λ_=>⟨by decide,λ_=>⟨⟨trivial,aJ _,by omega⟩,λ_=>⟨by omega,λ_=> ?_⟩⟩⟩⟩;obtain⟨s,h1,h2,h3⟩:=hnext r q g2 g1 hlt (by omega);rw [aP trivial];exact⟨s,by show _ - s.i<_; omega,by simp [SPl,h1,h2,h3,magS,natS,za],by rw [h1]; exact ke rfl,by kernel_rfl,aI _⟩
 ·have hge:o.length=(canon x).length:=by have:=aC hge; omega
  have hv:val (o++[c])=x+y:=by
   rw [Vi];rw [hge,bD,bF hlen,zm,zm] at he;rw [hge]; exact he
  have hdo:dig (o++[c]):=jw.2 ⟨hd,by simp [dig]; omega⟩
  have hpush:eqG (o.length+1) 1 (appG o.length (natG .u32 o) (zg (zh 1 [.int .u32 (c:Int)]) 0)) (natG .u32 (o++[c])):=by
   have:=Zh (k:=.u32) (l:=o) (v:=(c:Int)) (by omega);simpa using this
  have hall:List.take (o.length+1) (List.drop 0 (o++[c]))=o++[c]:=by rw [List.drop_zero]; exact bF (by simp)
  refine⟨⟨trivial,aJ _,by omega⟩,λ_=>⟨o++[c],⟨by simp,by omega,by omega,hpush,by rw [hall]; exact hdo⟩,⟨_,rfl⟩,?_⟩⟩;intro X hX;have hX:X=x+y:=by rw [hX,hall,hv]
  subst hX;have htr:qX (o++[c])=canon (x+y):=by rw [zZ hdo,hv]
  have htl:(canon (x+y)).length=tlen (o++[c]):=by rw [<- htr,qX,aH]; have:=q5 (o++[c]); omega
  rw [htl];have hle2:=q5 (o++[c]);have hln:(o++[c]).length=o.length+1:=by simp
  refine RetR.zv3 (l:=canon (x+y)) (k:=.u32) hq rfl (by omega) htl λj hj=> ?_
  have:=hpush j 0 (by omega) (by omega);rw [this,<- htr];simp only [natG,qX];rw [zea hj]
theorem zdp:zc prog 145 zed:=by
 refine ZO (fn:=f145) (c:=f145.body.getD .skip) rfl rfl rfl λx y hp O w0 Q hq=> ?_
 replace hq:=hq _ rfl;obtain⟨hx,hy⟩:=hp;refine zb.n G1.h [1,5,6,21,22,23] (let v1:=lps K145 0;.D (((canon x).length:Int)<((canon y).length:Int)) (.S ((canon y).length+1) (.side ((0:Int)<=0/\(0:Int)<=((canon y).length:Int)+(1:Int)/\inR .i64 ((canon y).length+1)/\Int.toNat ((canon y).length+1)*4<=140737488355328) (.leaf (.loop v1.1 v1.2 [(1,.sl (canon x).length 1 (natG .u32 (canon x))),(5,.osl 0 1 0 0),(6,.int .u32 0),(21,.sl (canon y).length 1 (natG .u32 (canon y))),(22,.i (canon y).length),(23,.i 0)] [.arr 0 1 (y8 [.int .u32 0])])))) (.S ((canon x).length+1) (.side ((0:Int)<=0/\(0:Int)<=((canon x).length:Int)+(1:Int)/\inR .i64 ((canon x).length+1)/\Int.toNat ((canon x).length+1)*4<=140737488355328) (.leaf (.loop v1.1 v1.2 [(1,.sl (canon y).length 1 (natG .u32 (canon y))),(5,.osl 0 1 0 0),(6,.int .u32 0),(21,.sl (canon x).length 1 (natG .u32 (canon x))),(22,.i (canon x).length),(23,.i 0)] [.arr 0 1 (y8 [.int .u32 0])]))))) ?_;simp only [Tree.holds,ze,inR,lo,hi];refine⟨λh=> ?_,λh=> ?_⟩
 ·have h:(canon x).length<(canon y).length:=by have:=aB h; omega
  refine⟨by omega,λ_=>⟨⟨by omega,by omega,by omega,by omega⟩,λ_=> ?_⟩⟩;rw [Nat.add_comm] at hq;exact UC y x hy (by omega) hq _ _ ⟨by simp [SPl,magS,natS,za],by simp [eqG],by kernel_rfl,aI _⟩
 ·have h:(canon y).length<=(canon x).length:=by have:=aC h; omega
  refine⟨by omega,λ_=>⟨⟨by omega,by omega,by omega,by omega⟩,λ_=> ?_⟩⟩;exact UC x y hx h hq _ _ ⟨by simp [SPl,magS,natS,za],by simp [eqG],by kernel_rfl,aI _⟩
def zes:Ctr:=ctrP false (λp:Bool×Nat=>[.bool p.1,magS p.2]) (λ_=>True) (λp r=>r=(p.1&&decide (0<p.2),p.2)) (λ_ (r:Bool×Nat)=>(numV r.1 r.2,[]))
theorem J2{x:Nat} : decide (0<((canon x).length:Int))=decide (0<x):=by
 by_cases h:x=0
 ·subst h; simp [canon]
 ·have h1:0<x:=bW h;have h2:(canon x).length≠0:=λh2=>h (uf.1 h2)
  rw [aX (by omega),aX h1]
theorem RetR.numV{ctr:Ctr}{Q:AV×Heap->Prop}{h:Heap}{b:Bool}{x:Nat}(hf:ctr.fresh=false)(hq:Q (numV b x,[])):RetR ctr 0 Q [.agg [.bool b,magS x]] h:=by
 refine RetR.out0 hq (λh=>by rw [hf] at h; cases h) ?_;simp [resV,exp2,exp1,exp0,ren0,frz1,eqA2,eqL1,eqA,eqL0,eqA0,Tryz.numV,magS,natS,za]
theorem zpf:zc prog 144 zes:=by
 refine zf' f144 λp hp O w0 Q hq=> ?_
 obtain⟨b,x⟩:=p;replace hq:=hq _ rfl;refine zb.n zD [] (let v1:List AV:=[.bool (bif b then decide ((0:Int)<((canon x).length:Int)) else false),.sl (canon x).length 1 (natG .u32 (canon x))];.R [.agg v1] [.box v1]) ?_;simp only [Tree.holds,ze];rw [J2];have e:(bif b then decide (0<x) else false)=(b&&decide (0<x)):=by cases b<;>rfl
 rw [e];exact RetR.numV rfl hq
def sumC:Ctr:=ctrP false (λp:(Bool×Nat)×(Bool×Nat)=>[numV p.1.1 p.1.2,numV p.2.1 p.2.2]) (λp=>(canon p.1.2).length<100000/\(canon p.2.2).length<100000)
 (λp r=>r=((sumS p.1.1 p.1.2 p.2.1 p.2.2).1&&decide (0<(sumS p.1.1 p.1.2 p.2.1 p.2.2).2),(sumS p.1.1 p.1.2 p.2.1 p.2.2).2)) (λ_ (r:Bool×Nat)=>(numV r.1 r.2,[]))
noncomputable def GSu:=tb zpf (tb zdp (tb uH (tb W4 tz)))
abbrev q33(A:List AV)(x:Bool×Nat):Prop:=eqL A [.bool x.1,.sl (canon x.2).length 1 (natG .u32 (canon x.2))]/\True
abbrev q32(A:List AV)(x:Nat×Nat):Prop:=eqL A [.sl (canon x.1).length 1 (natG .u32 (canon x.1)),.sl (canon x.2).length 1 (natG .u32 (canon x.2))]/\List.length (canon x.1)<100000/\List.length (canon x.2)<100000
theorem zut:zc prog 131 sumC:=by
 refine zf' f131 λp hp O w0 Q hq=> ?_
 obtain⟨⟨m,x⟩,⟨n,y⟩⟩:=p;obtain⟨h1,h2⟩:=hp;replace hq:=hq _ rfl;simp only at h1 h2 hq;refine zb.n GSu.h [] (let v8:=natG .u32 (canon x);let v7:=natG .u32 (canon y);let v3:List AV:=[.bool n,.sl (canon y).length 1 v7];let v2:List AV:=[.bool m,.sl (canon x).length 1 v8];let v1:=[AV.sl (canon x).length 1 v8,AV.sl (canon y).length 1 v7];.ite (m == n) (.ex (q32 v1) λn_1=>.all (λ(d:Nat)=>d=n_1.1+n_1.2) λn_2=>.ex (q33 [.bool m,.sl (canon n_2).length 1 (natG .u32 (canon n_2))]) λn_3=>.all (λ(r:Bool×Nat)=>r=(n_3.1&&decide (0<n_3.2),n_3.2)) λn_4=>let v4:List AV:=[.bool n_4.1,.sl (canon n_4.2).length 1 (natG .u32 (canon n_4.2))];.R [.agg v4] [.box v2,.box v3,.box v4]) (.ex (q11 v1) λn_1=>.all (λ(r:Int)=>r=cmp3 n_1.1 n_1.2) λn_2=>.D ((0:Int)<=n_2) (.ex (q12 v1) λn_3=>.all (λ(d:Nat)=>d=n_3.1 - n_3.2) λn_4=>.ex (q33 [.bool m,.sl (canon n_4).length 1 (natG .u32 (canon n_4))]) λn_5=>.all (λ(r:Bool×Nat)=>r=(n_5.1&&decide (0<n_5.2),n_5.2)) λn_6=>let v5:List AV:=[.bool n_6.1,.sl (canon n_6.2).length 1 (natG .u32 (canon n_6.2))];.R [.agg v5] [.box v2,.box v3,.box v5]) (.ex (q12 [.sl (canon y).length 1 v7,.sl (canon x).length 1 v8]) λn_3=>.all (λ(d:Nat)=>d=n_3.1 - n_3.2) λn_4=>.ex (q33 [.bool n,.sl (canon n_4).length 1 (natG .u32 (canon n_4))]) λn_5=>.all (λ(r:Bool×Nat)=>r=(n_5.1&&decide (0<n_5.2),n_5.2)) λn_6=>let v6:List AV:=[.bool n_6.1,.sl (canon n_6.2).length 1 (natG .u32 (canon n_6.2))];.R [.agg v6] [.box v2,.box v3,.box v6]))) ?_;simp only [q11,q12,q32,q33,Tree.holds,ze];have eL:∀ a b:Nat,eqL [.sl (canon a).length 1 (natG .u32 (canon a)),.sl (canon b).length 1 (natG .u32 (canon b))] [.sl (canon a).length 1 (natG .u32 (canon a)),.sl (canon b).length 1 (natG .u32 (canon b))]:=λa b=>⟨⟨rfl,rfl,za _ _ _⟩,⟨rfl,rfl,za _ _ _⟩,trivial⟩
 have eK:∀ (b:Bool) (a:Nat),eqL [.bool b,.sl (canon a).length 1 (natG .u32 (canon a))] [.bool b,.sl (canon a).length 1 (natG .u32 (canon a))]:=λb a=>⟨rfl,⟨rfl,rfl,za _ _ _⟩,trivial⟩
 have hcm:∀ v,v=cmp3 x y->(0<=v↔y<=x):=by
  rintro v rfl;unfold cmp3;split
  ·exact⟨λh=>by omega,λh=>by omega⟩
  ·split
   ·exact⟨λh=>by omega,λh=>by omega⟩
   ·exact⟨λh=>by omega,λh=>by omega⟩
 refine⟨λh=> ?_,λh=>⟨(x,y),⟨eL x y,by show(canon x).length<_; omega,by show(canon y).length<_; omega⟩,⟨_,rfl⟩,?_⟩⟩
 ·have h:m=n:=by simpa using h
  refine⟨(x,y),⟨eL x y,h1,h2⟩,⟨_,rfl⟩,?_⟩;rintro _ rfl;refine⟨(m,x+y),⟨eK m _,trivial⟩,⟨_,rfl⟩,?_⟩;rintro _ rfl;have e:sumS m x n y=(m,x+y):=aP h;rw [e] at hq;exact RetR.numV rfl hq
 ·have h:¬ m=n:=by simpa using h
  intro v hv;have hv:=hcm v hv;refine⟨λg=> ?_,λg=> ?_⟩
  ·have g:y<=x:=hv.1 (aB g);refine⟨(x,y),⟨eL x y,by show(canon x).length<_; omega,g⟩,⟨_,rfl⟩,?_⟩;rintro _ rfl;refine⟨(m,x - y),⟨eK m _,trivial⟩,⟨_,rfl⟩,?_⟩;rintro _ rfl;have e:sumS m x n y=(m,x - y):=by rw [sumS,aO h,aP g]
   rw [e] at hq;exact RetR.numV rfl hq
  ·have g:¬ y<=x:=λh3=>aC g (hv.2 h3)
   refine⟨(y,x),⟨eL y x,by show(canon y).length<_; omega,by show x<=y; omega⟩,⟨_,rfl⟩,?_⟩;rintro _ rfl;refine⟨(n,y - x),⟨eK n _,trivial⟩,⟨_,rfl⟩,?_⟩;rintro _ rfl;have e:sumS m x n y=(n,y - x):=by rw [sumS,aO h,aO g]
   rw [e] at hq;exact RetR.numV rfl hq
theorem qm{x n:Nat}(h:x<B^n)(hn:n<100000):(canon x).length<100000:=by have:=zE h; omega
theorem qV{s:L8}(h:errI s=0):numI s<B^112:=jY.2 (uP h)
theorem zdb{x y:Nat}(hx:x<B^112)(hy:y<B^112):x+y<B^113/\x*y<B^224:=by
 constructor
 ·have:B^113=B^112*B:=Nat.pow_succ B 112;have hB:B=1000000000:=rfl;generalize B^112=p at *
  rw [this,hB]; omega
 ·have:B^224=B^112*B^112:=by rw [<- Nat.pow_add]
  rw [this];exact Nat.mul_lt_mul_of_lt_of_lt hx hy
noncomputable def GAd:=tb Xj (tb zut (tb WT (tb Y8 (tb uH tz))))
def addC:Ctr:=ctrP true (λp:L8×L8=>[.str p.1,.str p.2]) (λp=>p.1.length<2^62/\p.2.length<2^62) (λp r=>r=addI p.1 p.2) (λ_ r=>(.tup [.str r.1,.i r.2],[]))
def subC:Ctr:=ctrP true (λp:L8×L8=>[.str p.1,.str p.2]) (λp=>p.1.length<2^62/\p.2.length<2^62) (λp r=>r=subI p.1 p.2) (λ_ r=>(.tup [.str r.1,.i r.2],[]))
def mulC:Ctr:=ctrP true (λp:L8×L8=>[.str p.1,.str p.2]) (λp=>p.1.length<2^62/\p.2.length<2^62) (λp r=>r=mulI p.1 p.2) (λ_ r=>(.tup [.str r.1,.i r.2],[]))
def zrp:Ctr:=ctrP true (λp:L8×L8=>[.str p.1,.str p.2]) (λp=>p.1.length<2^62/\p.2.length<2^62) (λp r=>r=QM p.1 p.2) (λ_ r=>(.tup [.i r.1,.i r.2],[]))
abbrev q34(A:List AV)(x:(Bool×Nat)×Bool×Nat):Prop:=eqL A [.agg [.bool x.1.1,.sl (canon x.1.2).length 1 (natG .u32 (canon x.1.2))],.agg [.bool x.2.1,.sl (canon x.2.2).length 1 (natG .u32 (canon x.2.2))]]/\List.length (canon x.1.2)<100000/\List.length (canon x.2.2)<100000
theorem zu3:zc prog 104 addC:=by
 refine zf' f104 λp hp O w0 Q hq=> ?_
 obtain⟨s,t⟩:=p;obtain⟨hs,ht⟩:=hp;replace hq:=hq _ rfl;simp only at hs ht hq;refine zb.n GAd.h [] (.ex (q17 [.str s,.str t]) λn=>.all (λ(r:Int×(Bool×Nat)×Bool×Nat)=>r=if zA n.1 n.2=0 then((0:Int),(negI n.1,numI n.1),negI n.2,numI n.2) else(zA n.1 n.2,(false,0),false,0)) λn=>let v4:=canon n.2.2.2;let v3:=canon n.2.1.2;let v1:List Blk:=[.box [.bool n.2.1.1,.sl v3.length 1 (natG .u32 v3)],.box [.bool n.2.2.1,.sl v4.length 1 (natG .u32 v4)]];.N (n.1=0) (.R [.str #[].toList,.i n.1] v1) (.ex (q34 [.agg [.bool n.2.1.1,.sl v3.length 1 (natG .u32 v3)],.agg [.bool n.2.2.1,.sl v4.length 1 (natG .u32 v4)]]) λn_1=>let v2:=sumS n_1.1.1 n_1.1.2 n_1.2.1 n_1.2.2;.all (λ(r:Bool×Nat)=>r=(Prod.fst v2 &&decide (0<Prod.snd v2),Prod.snd v2)) λn_2=>.ex (q19 [.agg [.bool n_2.1,.sl (canon n_2.2).length 1 (natG .u32 (canon n_2.2))]]) λn_3=>.all (λ(r:L8×Int)=>r=wr n_3.1 n_3.2) λn_4=>.R [.str n_4.1,.i n_4.2] v1)) ?_;simp only [q17,q19,q34,Tree.holds,ze];refine⟨(s,t),⟨by simp,by omega,by omega⟩,⟨_,rfl⟩,?_⟩;rintro _ rfl;simp only;by_cases he:zA s t=0
 ·obtain⟨e1,e2⟩:=zk.1 he;obtain⟨b1,b2⟩:=zdb (qV e1) (qV e2);have c1:=qm (qV e1) (by decide);have c2:=qm (qV e2) (by decide);simp only [aP he];refine⟨λh=>(by simp at h),λ_=> ?_⟩;refine⟨((negI s,numI s),(negI t,numI t)),⟨⟨⟨rfl,⟨rfl,rfl,za _ _ _⟩,trivial⟩,⟨rfl,⟨rfl,rfl,za _ _ _⟩,trivial⟩,trivial⟩,c1,c2⟩,⟨_,rfl⟩,?_⟩;rintro _ rfl;refine⟨((sumS (negI s) (numI s) (negI t) (numI t)).1&&decide (0<(sumS (negI s) (numI s) (negI t) (numI t)).2),(sumS (negI s) (numI s) (negI t) (numI t)).2),⟨⟨⟨rfl,⟨rfl,rfl,za _ _ _⟩,trivial⟩,trivial⟩,?_⟩,⟨_,rfl⟩,?_⟩
  ·have:=qm (Nat.lt_of_le_of_lt (zdi (negI s) (numI s) (negI t) (numI t)) b1) (by decide);show(canon (sumS (negI s) (numI s) (negI t) (numI t)).2).length<1000000;omega
  rintro _ rfl;rw [zdn];have e:addI s t=wr (sumS (negI s) (numI s) (negI t) (numI t)).1 (sumS (negI s) (numI s) (negI t) (numI t)).2:=aP he;rw [e] at hq;exact RetR.scal hq rfl (by simp [resV])
 ·simp only [aO he];refine⟨λ_=> ?_,λh=>(by simp [he] at h)⟩;have e:addI s t=([],zA s t):=aO he;rw [e] at hq;exact RetR.scal hq rfl (by simp [resV])
theorem zt3:zc prog 186 subC:=by
 refine zf' f186 λp hp O w0 Q hq=> ?_
 obtain⟨s,t⟩:=p;obtain⟨hs,ht⟩:=hp;replace hq:=hq _ rfl;simp only at hs ht hq;refine zb.n GAd.h [] (.ex (q17 [.str s,.str t]) λn=>.all (λ(r:Int×(Bool×Nat)×Bool×Nat)=>r=if zA n.1 n.2=0 then((0:Int),(negI n.1,numI n.1),negI n.2,numI n.2) else(zA n.1 n.2,(false,0),false,0)) λn=>let v5:=canon n.2.1.2;let v4:=canon n.2.2.2;let v3:List AV:=[.bool n.2.1.1,.sl v5.length 1 (natG .u32 v5)];let v1:=bif !Prod.fst n.2.2 then decide ((0:Int)<((canon n.2.2.2).length:Int)) else false;.N (n.1=0) (.R [.str #[].toList,.i n.1] [.box v3,.box [.bool n.2.2.1,.sl v4.length 1 (natG .u32 v4)]]) (.ex (q34 [.agg [.bool n.2.1.1,.sl v5.length 1 (natG .u32 v5)],.agg [.bool v1,.sl v4.length 1 (natG .u32 v4)]]) λn_1=>let v2:=sumS n_1.1.1 n_1.1.2 n_1.2.1 n_1.2.2;.all (λ(r:Bool×Nat)=>r=(Prod.fst v2 &&decide (0<Prod.snd v2),Prod.snd v2)) λn_2=>.ex (q19 [.agg [.bool n_2.1,.sl (canon n_2.2).length 1 (natG .u32 (canon n_2.2))]]) λn_3=>.all (λ(r:L8×Int)=>r=wr n_3.1 n_3.2) λn_4=>.R [.str n_4.1,.i n_4.2] [.box v3,.box [.bool v1,.sl v4.length 1 (natG .u32 v4)]])) ?_;simp only [q17,q19,q34,Tree.holds,ze];refine⟨(s,t),⟨by simp,by omega,by omega⟩,⟨_,rfl⟩,?_⟩;rintro _ rfl;simp only;by_cases he:zA s t=0
 ·obtain⟨e1,e2⟩:=zk.1 he;obtain⟨b1,b2⟩:=zdb (qV e1) (qV e2);have c1:=qm (qV e1) (by decide);have c2:=qm (qV e2) (by decide);simp only [aP he];refine⟨λh=>(by simp at h),λ_=> ?_⟩;have eN:(bif !negI t then decide (0<((canon (numI t)).length:Int)) else false)=(!negI t&&decide (0<numI t)):=by rw [J2]; cases negI t<;>rfl
  rw [eN];refine⟨((negI s,numI s),(!negI t&&decide (0<numI t),numI t)),⟨⟨⟨rfl,⟨rfl,rfl,za _ _ _⟩,trivial⟩,⟨rfl,⟨rfl,rfl,za _ _ _⟩,trivial⟩,trivial⟩,c1,c2⟩,⟨_,rfl⟩,?_⟩;rintro _ rfl;simp only [zg1];refine⟨((sumS (negI s) (numI s) (!negI t) (numI t)).1&&decide (0<(sumS (negI s) (numI s) (!negI t) (numI t)).2),(sumS (negI s) (numI s) (!negI t) (numI t)).2),⟨⟨⟨rfl,⟨rfl,rfl,za _ _ _⟩,trivial⟩,trivial⟩,?_⟩,⟨_,rfl⟩,?_⟩
  ·have:=qm (Nat.lt_of_le_of_lt (zdi (negI s) (numI s) (!negI t) (numI t)) b1) (by decide);show(canon (sumS (negI s) (numI s) (!negI t) (numI t)).2).length<1000000;omega
  rintro _ rfl;rw [zdn];have e:subI s t=wr (sumS (negI s) (numI s) (!negI t) (numI t)).1 (sumS (negI s) (numI s) (!negI t) (numI t)).2:=aP he;rw [e] at hq;exact RetR.scal hq rfl (by simp [resV])
 ·simp only [aO he];refine⟨λ_=> ?_,λh=>(by simp [he] at h)⟩;have e:subI s t=([],zA s t):=aO he;rw [e] at hq;exact RetR.scal hq rfl (by simp [resV])
theorem zte:zc prog 80 mulC:=by
 refine zf' f80 λp hp O w0 Q hq=> ?_
 obtain⟨s,t⟩:=p;obtain⟨hs,ht⟩:=hp;replace hq:=hq _ rfl;simp only at hs ht hq;refine zb.n GAd.h [] (.ex (q17 [.str s,.str t]) λn=>.all (λ(r:Int×(Bool×Nat)×Bool×Nat)=>r=if zA n.1 n.2=0 then((0:Int),(negI n.1,numI n.1),negI n.2,numI n.2) else(zA n.1 n.2,(false,0),false,0)) λn=>let v5:=canon n.2.1.2;let v4:=canon n.2.2.2;let v3:List AV:=[.bool n.2.2.1,.sl v4.length 1 (natG .u32 v4)];let v2:List AV:=[.bool n.2.1.1,.sl v5.length 1 (natG .u32 v5)];.N (n.1=0) (.R [.str #[].toList,.i n.1] [.box v2,.box v3]) (.ex (q11 [.sl v5.length 1 (natG .u32 v5),.sl v4.length 1 (natG .u32 v4)]) λn_1=>let v1:=List.length (canon n_1.1)+List.length (canon n_1.2);.all (λ(p:Nat)=>p=n_1.1*n_1.2) λn_2=>.ex (q19 [.agg [.bool !Prod.fst n.2.1 == n.2.2.1,.sl (canon n_2).length 1 (zg (natG .u32 (padN v1 n_2)) 0)]]) λn_3=>.all (λ(r:L8×Int)=>r=wr n_3.1 n_3.2) λn_4=>.R [.str n_4.1,.i n_4.2] [.box v2,.box v3,.arr v1 1 (natG .u32 (padN v1 n_2))])) ?_;simp only [q11,q17,q19,Tree.holds,ze];refine⟨(s,t),⟨by simp,by omega,by omega⟩,⟨_,rfl⟩,?_⟩;rintro _ rfl;simp only;by_cases he:zA s t=0
 ·obtain⟨e1,e2⟩:=zk.1 he;obtain⟨b1,b2⟩:=zdb (qV e1) (qV e2);have c1:=qm (qV e1) (by decide);have c2:=qm (qV e2) (by decide);simp only [aP he];refine⟨λh=>(by simp at h),λ_=> ?_⟩;refine⟨(numI s,numI t),⟨⟨⟨rfl,rfl,za _ _ _⟩,⟨rfl,rfl,za _ _ _⟩,trivial⟩,by show(canon (numI s)).length<1000000; omega,by show(canon (numI t)).length<1000000; omega⟩,⟨_,rfl⟩,?_⟩;rintro _ rfl;refine⟨(negI s != negI t,numI s*numI t),⟨⟨⟨rfl,⟨rfl,rfl,λj o hj ho=>by simp only [zg,natG,Nat.zero_add,padN,uQ hj]⟩,trivial⟩,trivial⟩,?_⟩,⟨_,rfl⟩,?_⟩
  ·have:=qm b2 (by decide);show(canon (numI s*numI t)).length<1000000;omega
  rintro _ rfl;have e:mulI s t=wr (negI s != negI t) (numI s*numI t):=aP he;rw [e] at hq;exact RetR.scal hq rfl (by simp [resV])
 ·simp only [aO he];refine⟨λ_=> ?_,λh=>(by simp [he] at h)⟩;have e:mulI s t=([],zA s t):=aO he;rw [e] at hq;exact RetR.scal hq rfl (by simp [resV])
theorem zr8:zc prog 81 zrp:=by
 refine zf' f81 λp hp O w0 Q hq=> ?_
 obtain⟨s,t⟩:=p;obtain⟨hs,ht⟩:=hp;replace hq:=hq _ rfl;simp only at hs ht hq;refine zb.n GAd.h [] (.ex (q17 [.str s,.str t]) λn=>.all (λ(r:Int×(Bool×Nat)×Bool×Nat)=>r=if zA n.1 n.2=0 then((0:Int),(negI n.1,numI n.1),negI n.2,numI n.2) else(zA n.1 n.2,(false,0),false,0)) λn=>let v3:=canon n.2.2.2;let v2:=canon n.2.1.2;let v1:List Blk:=[.box [.bool n.2.1.1,.sl v2.length 1 (natG .u32 v2)],.box [.bool n.2.2.1,.sl v3.length 1 (natG .u32 v3)]];.N (n.1=0) (.R [.i 0,.i n.1] v1) (.ite (bif n.2.1.1 then !Prod.fst n.2.2 else false) (.R [.i (-1:Int),.i 0] v1) (.ite (bif n.2.2.1 then !Prod.fst n.2.1 else false) (.R [.i 1,.i 0] v1) (.ite n.2.1.1 (.ex (q11 [.sl v3.length 1 (natG .u32 v3),.sl v2.length 1 (natG .u32 v2)]) λn_1=>.all (λ(r:Int)=>r=cmp3 n_1.1 n_1.2) λn_2=>.R [.i n_2,.i 0] v1) (.ex (q11 [.sl v2.length 1 (natG .u32 v2),.sl v3.length 1 (natG .u32 v3)]) λn_1=>.all (λ(r:Int)=>r=cmp3 n_1.1 n_1.2) λn_2=>.R [.i n_2,.i 0] v1))))) ?_;simp only [q11,q17,Tree.holds,ze];refine⟨(s,t),⟨by simp,by omega,by omega⟩,⟨_,rfl⟩,?_⟩;rintro _ rfl;simp only;by_cases he:zA s t=0
 ·obtain⟨e1,e2⟩:=zk.1 he;obtain⟨b1,b2⟩:=zdb (qV e1) (qV e2);have c1:=qm (qV e1) (by decide);have c2:=qm (qV e2) (by decide);simp only [aP he];refine⟨λh=>(by simp at h),λ_=> ?_⟩;have e:QM s t=(cmpZ (negI s) (numI s) (negI t) (numI t),0):=aP he;rw [e] at hq;have ec:∀ a b:Nat,cmp3 a b=cmpN a b:=λ_ _=>rfl
  simp only [cmpZ] at hq;have f1:fits (numI s):=by show(canon (numI s)).length<1000000; omega
  have f2:fits (numI t):=by show(canon (numI t)).length<1000000; omega
  refine⟨λh=> ?_,λh1=>⟨λh=> ?_,λh2=>⟨λh=>⟨(numI t,numI s),⟨⟨⟨rfl,rfl,za _ _ _⟩,⟨rfl,rfl,za _ _ _⟩,trivial⟩,f2,f1⟩,⟨_,rfl⟩,?_⟩,λh=>⟨(numI s,numI t),⟨⟨⟨rfl,rfl,za _ _ _⟩,⟨rfl,rfl,za _ _ _⟩,trivial⟩,f1,f2⟩,⟨_,rfl⟩,?_⟩⟩⟩⟩
  ·cases hm:negI s<;>cases hn:negI t<;>rw [hm,hn] at h hq<;>first | (cases h; done) | exact RetR.scal hq rfl (by simp [resV])
  ·cases hm:negI s<;>cases hn:negI t<;>rw [hm,hn] at h h1 hq<;>first | (cases h; done) | (cases h1; done) | exact RetR.scal hq rfl (by simp [resV])
  ·rintro _ rfl;rw [ec];cases hm:negI s<;>cases hn:negI t<;>rw [hm,hn] at h1 h2 hq<;>rw [hm] at h<;>first | (cases h; done) | (cases h1; done) | (cases h2; done) | exact RetR.scal hq rfl (by simp [resV])
  ·rintro _ rfl;rw [ec];cases hm:negI s<;>cases hn:negI t<;>rw [hm,hn] at h1 h2 hq<;>rw [hm] at h<;>first | (cases h; done) | (cases h1; done) | (cases h2; done) | exact RetR.scal hq rfl (by simp [resV])
 ·simp only [aO he];refine⟨λ_=> ?_,λh=>(by simp [he] at h)⟩;have e:QM s t=(0,zA s t):=aO he;rw [e] at hq;exact RetR.scal hq rfl (by simp [resV])
def dmC:Ctr:=ctrP true (λp:L8×L8=>[.str p.1,.str p.2]) (λp=>p.1.length<2^62/\p.2.length<2^62) (λp r=>r=dmI p.1 p.2) (λ_ r=>(.tup [.str r.1,.str r.2.1,.i r.2.2],[]))
noncomputable def GDm:=tb Xj (tb VW (tb zdp (tb W4 (tb WT tz))))
theorem zgw:zc prog 143 dmC:=by
 refine zf' f143 λp hp O w0 Q hq=> ?_
 obtain⟨s,t⟩:=p;obtain⟨hs,ht⟩:=hp;replace hq:=hq _ rfl;simp only at hs ht hq;refine zb.n GDm.h [] (.ex (q17 [.str s,.str t]) λn=>.all (λ(r:Int×(Bool×Nat)×Bool×Nat)=>r=if zA n.1 n.2=0 then((0:Int),(negI n.1,numI n.1),negI n.2,numI n.2) else(zA n.1 n.2,(false,0),false,0)) λn=>let v5:=canon n.2.1.2;let v4:List AV:=[.bool n.2.1.1,.sl v5.length 1 (natG .u32 v5)];let v3:=canon n.2.2.2;let v6:List AV:=[.bool n.2.2.1,.sl v3.length 1 (natG .u32 v3)];let v2:List Blk:=[.box v4,.box v6,.arr 1 1 (zh 1 [.int .u32 1])];let v1:List Blk:=[.box v4,.box v6];.N (n.1=0) (.R [.str #[].toList,.str #[].toList,.i n.1] v1) (.D (((canon n.2.2.2).length:Int)=0) (.R [.str #[].toList,.str #[].toList,.i 16] v1) (.ex (q18 [.sl v5.length 1 (natG .u32 v5),.sl v3.length 1 (natG .u32 v3)]) λn_1=>.all (λ(r:Nat×Nat)=>r=(n_1.1/n_1.2,n_1.1%n_1.2)) λn_2=>let v8:=canon n_2.2;let v7:=canon n_2.1;.ite (bif n.2.1.1 then decide ((0:Int)<((canon n_2.2).length:Int)) else false) (.ex (q32 [.sl v7.length 1 (natG .u32 v7),.sl 1 1 (zg (zh 1 [.int .u32 1]) 0)]) λn_3=>.all (λ(d:Nat)=>d=n_3.1+n_3.2) λn_4=>.ex (q12 [.sl v3.length 1 (natG .u32 v3),.sl v8.length 1 (natG .u32 v8)]) λn_5=>.all (λ(d:Nat)=>d=n_5.1 - n_5.2) λn_6=>.ex (q19 [.agg [.bool !Prod.fst n.2.1 == n.2.2.1,.sl (canon n_4).length 1 (natG .u32 (canon n_4))]]) λn_7=>.all (λ(r:L8×Int)=>r=wr n_7.1 n_7.2) λn_8=>.N (n_8.2=0) (.R [.str #[].toList,.str #[].toList,.i n_8.2] v2) (.ex (q19 [.agg [.bool false,.sl (canon n_6).length 1 (natG .u32 (canon n_6))]]) λn_9=>.all (λ(r:L8×Int)=>r=wr n_9.1 n_9.2) λn_10=>.R [.str n_8.1,.str n_10.1,.i 0] v2)) (.ex (q19 [.agg [.bool !Prod.fst n.2.1 == n.2.2.1,.sl v7.length 1 (natG .u32 v7)]]) λn_3=>.all (λ(r:L8×Int)=>r=wr n_3.1 n_3.2) λn_4=>.N (n_4.2=0) (.R [.str #[].toList,.str #[].toList,.i n_4.2] v1) (.ex (q19 [.agg [.bool false,.sl v8.length 1 (natG .u32 v8)]]) λn_5=>.all (λ(r:L8×Int)=>r=wr n_5.1 n_5.2) λn_6=>.R [.str n_4.1,.str n_6.1,.i 0] v1))))) ?_;simp only [q12,q17,q18,q19,q32,Tree.holds,ze];refine⟨(s,t),⟨by simp,by omega,by omega⟩,⟨_,rfl⟩,?_⟩;rintro _ rfl;simp only;by_cases he:zA s t=0
 ·obtain⟨e1,e2⟩:=zk.1 he;have c1:=qm (qV e1) (by decide);have c2:=qm (qV e2) (by decide);simp only [aP he];refine⟨λh=>(by simp at h),λ_=> ?_⟩;refine⟨λh0=> ?_,λh0=> ?_⟩
  ·have h0:numI t=0:=uf.1 (by have:=aB h0; omega);have e:dmI s t=([],[],16):=by rw [dmI,aO (by rw [he]; decide),aP h0]
   rw [e] at hq;exact RetR.scal hq rfl (by simp [resV])
  have h0:numI t≠0:=λh=>aC h0 (by rw [uf.2 h]; rfl)
  have e:dmI s t=((wr (negI s != negI t) (dmQ s t)).1,(wr false (dmM s t)).1,0):=by rw [dmI,aO (by rw [he]; decide),aO h0]
  rw [e] at hq;have rq:=zkt e1 h0;have rm:=znc (s:=s) e2 h0;have eL:∀ a b:Nat,eqL [.sl (canon a).length 1 (natG .u32 (canon a)),.sl (canon b).length 1 (natG .u32 (canon b))] [.sl (canon a).length 1 (natG .u32 (canon a)),.sl (canon b).length 1 (natG .u32 (canon b))]:=λa b=>⟨⟨rfl,rfl,za _ _ _⟩,⟨rfl,rfl,za _ _ _⟩,trivial⟩
  have eV:∀ (b:Bool) (a:Nat),eqL [.agg [.bool b,.sl (canon a).length 1 (natG .u32 (canon a))]] [.agg [.bool b,.sl (canon a).length 1 (natG .u32 (canon a))]]:=λb a=>⟨⟨rfl,⟨rfl,rfl,za _ _ _⟩,trivial⟩,trivial⟩
  have big:∀ {a:Nat},room a->(canon a).length<1000000:=λ{a} h=>by
   obtain⟨h3,h4,_⟩:=QI (kV (neg:=false) h);have:=qm (qV h3) (by decide);rw [h4] at this; omega
  refine⟨(numI s,numI t),⟨eL _ _,c1,c2,bW h0⟩,⟨_,rfl⟩,?_⟩;rintro _ rfl;simp only;rw [J2];have hmod:=Nat.mod_lt (numI s) (bW h0);refine⟨λhc=> ?_,λhc=> ?_⟩
  ·have hc:negI s=true/\0<numI s%numI t:=by
    cases hn:negI s with
    | false=>rw [hn] at hc; cases hc
    | true=>rw [hn] at hc; exact⟨rfl,aB hc⟩
   have eQ:dmQ s t=numI s/numI t+1:=aP hc;have eM:dmM s t=numI t - numI s%numI t:=aP hc;rw [eQ,eM] at hq;rw [eQ] at rq;rw [eM] at rm
   have hone:canon 1=[1]:=by
    rw [jg (by decide)];exact congrArg (1 :: ·) zT
   have rdiv:=room_le (Nat.div_le_self (numI s) (numI t)) (jN e1)
   have hdl:(canon (numI s/numI t)).length<100000:=by
    have:=qm (Nat.lt_of_le_of_lt (Nat.div_le_self (numI s) (numI t)) (qV e1)) (by decide);exact this
   refine⟨(numI s/numI t,1),⟨⟨⟨rfl,rfl,za _ _ _⟩,⟨by rw [hone]; rfl,rfl,?_⟩,trivial⟩,hdl,by show(canon 1).length<100000; rw [hone]; decide⟩,⟨_,rfl⟩,?_⟩
   ·intro j o hj ho;have:j=0:=by omega
    subst this;have:o=0:=by omega
    subst this;show AV.int .u32 1 = .int .u32 (((canon 1).getD 0 0:Nat):Int);rw [hone]; rfl
   rintro _ rfl;refine⟨(numI t,numI s%numI t),⟨eL _ _,by show(canon (numI t)).length<1000000; omega,by show numI s%numI t<=numI t; omega⟩,⟨_,rfl⟩,?_⟩;rintro _ rfl;refine⟨(negI s != negI t,numI s/numI t+1),⟨eV _ _,big rq⟩,⟨_,rfl⟩,?_⟩;rintro _ rfl;have hz:=kV (neg:=(negI s != negI t)) rq;refine⟨λh=>by simp [hz] at h,λ_=>⟨(false,numI t - numI s%numI t),⟨eV _ _,big rm⟩,⟨_,rfl⟩,?_⟩⟩;rintro _ rfl;exact RetR.scal hq rfl (by simp [resV])
  ·have hc:¬ (negI s=true/\0<numI s%numI t):=by
    rintro⟨g1,g2⟩;rw [g1,aX g2] at hc;cases hc
   have eQ:dmQ s t=numI s/numI t:=aO hc;have eM:dmM s t=numI s%numI t:=aO hc;rw [eQ,eM] at hq;rw [eQ] at rq;rw [eM] at rm;refine⟨(negI s != negI t,numI s/numI t),⟨eV _ _,big rq⟩,⟨_,rfl⟩,?_⟩;rintro _ rfl;have hz:=kV (neg:=(negI s != negI t)) rq;refine⟨λh=>by simp [hz] at h,λ_=>⟨(false,numI s%numI t),⟨eV _ _,big rm⟩,⟨_,rfl⟩,?_⟩⟩;rintro _ rfl;exact RetR.scal hq rfl (by simp [resV])
 ·simp only [aO he];refine⟨λ_=> ?_,λh=>(by simp [he] at h)⟩;have e:dmI s t=([],[],zA s t):=aP he;rw [e] at hq;exact RetR.scal hq rfl (by simp [resV])
def zak:Ctr:=ctrP true (λs:L8=>[.str s]) (λs=>s.length<2^62) (λs r=>r=if errR s=0 then(numR s,denR s,0) else([],[],errR s)) (λ_ (r:L8×L8×Int)=>(.tup [.str r.1,.str r.2.1,.i r.2.2],[]))
noncomputable def GPa:=tb yV (tb Y7 tz)
theorem zm1:zc prog 120 zak:=by
 refine zf' f120 λs hs O w0 Q hq=> ?_
 replace hq:=hq _ rfl;refine zb.n GPa.h [] (.ex (q15 [.str s]) λn=>.all (λ(r:Int)=>r=errR n) λn=>.N (n=0) (.R [.str #[].toList,.str #[].toList,.i n] []) (.ex (q15 [.str s]) λn=>.all (λ(r:L8×L8×Bool)=>r=cutR n) λn=>.ite (!Prod.snd n.2) (.R [.str n.1,.str #[(49:UInt8)].toList,.i 0] []) (.R [.str n.1,.str n.2.1,.i 0] []))) ?_;simp only [q15,Tree.holds,ze];refine⟨s,⟨by simp,hs⟩,⟨_,rfl⟩,?_⟩;rintro _ rfl;refine⟨λh=> ?_,λh=>⟨s,⟨by simp,hs⟩,⟨_,rfl⟩,?_⟩⟩
 ·have h:errR s≠0:=by simpa using h
  rw [aO h] at hq;exact RetR.scal hq rfl (by simp [resV])
 ·have h:errR s=0:=by simpa using h
  rw [aP h] at hq;rintro _ rfl;refine⟨λg=> ?_,λg=> ?_⟩
  ·have e:denR s=[49]:=by unfold denR; rw [aO (by simpa using g)]
   rw [e] at hq;exact RetR.scal hq rfl (by simp [resV,numR])
  ·have e:denR s=(cutR s).2.1:=by unfold denR; rw [aP (by simpa using g)]
   rw [e] at hq;exact RetR.scal hq rfl (by simp [resV,numR])
def zee:Ctr:=ctrP true (λp:L8×L8=>[.str p.1,.str p.2]) (λp=>p.1.length<2^62/\p.2.length<2^62) (λp r=>r=wx p.1 p.2) (λ_ r=>(.tup [.str r.1,.i r.2],[]))
noncomputable def GMk:=tb zlb (tb zgw tz)
theorem zow:zc prog 130 zee:=by
 refine zf' f130 λp hp O w0 Q hq=> ?_
 obtain⟨s,t⟩:=p;obtain⟨hs,ht⟩:=hp;replace hq:=hq _ rfl;simp only at hs ht hq;refine zb.n GMk.h [] (.ex (q17 [.str s,.str t]) λn=>.all (λ(r:L8×Int)=>r=gcdR n.1 n.2) λn=>.N (n.2=0) (.R [.str #[].toList,.i n.2] []) (.D (t=#[(48:UInt8)].toList) (.R [.str #[].toList,.i 16] []) (.side ((0:Int)<=0/\(0:Int)<t.length) (.D ((↑(UInt8.toNat (t.getD 0 (0:UInt8))):Int)=45) (.side (1+n.1.length<=9223372036854775807) (.ex (q17 [.str s,.str (#[(45:UInt8)].toList++n.1)]) λn_1=>.all (λ(r:L8×L8×Int)=>r=dmI n_1.1 n_1.2) λn_2=>.ex (q17 [.str t,.str (#[(45:UInt8)].toList++n.1)]) λn=>.all (λ(r:L8×L8×Int)=>r=dmI n.1 n.2) λn=>.D (n.1=#[(49:UInt8)].toList) (.R [.str n_2.1,.i 0] []) (.side (n_2.1.length+1<=9223372036854775807) (.side (List.length (n_2.1++#[(47:UInt8)].toList)+n.1.length<=9223372036854775807) (.R [.str (n_2.1++#[(47:UInt8)].toList++n.1),.i 0] []))))) (.ex (q17 [.str s,.str n.1]) λn_1=>.all (λ(r:L8×L8×Int)=>r=dmI n_1.1 n_1.2) λn_2=>.ex (q17 [.str t,.str n.1]) λn=>.all (λ(r:L8×L8×Int)=>r=dmI n.1 n.2) λn=>.D (n.1=#[(49:UInt8)].toList) (.R [.str n_2.1,.i 0] []) (.side (n_2.1.length+1<=9223372036854775807) (.side (List.length (n_2.1++#[(47:UInt8)].toList)+n.1.length<=9223372036854775807) (.R [.str (n_2.1++#[(47:UInt8)].toList++n.1),.i 0] [])))))))) ?_;simp only [q17,Tree.holds,ze,inR,lo,hi,aD];refine⟨(s,t),⟨by simp,by omega,by omega⟩,⟨_,rfl⟩,?_⟩;rintro _ rfl;by_cases he:zA s t=0
 ·obtain⟨e1,e2⟩:=zk.1 he;have eg:gcdR s t=wr false (Nat.gcd (numI s) (numI t)):=aP he;by_cases h0:numI t=0
  ·have ht0:t=[48]:=(yg e2).2 h0;have hg0:Nat.gcd (numI s) (numI t)=numI s:=by rw [h0,Nat.gcd_zero_right]
   have hz:(gcdR s t).2=0:=by rw [eg,hg0]; exact kV (jN e1)
   have e:wx s t=([],16):=by rw [wx,aO (by rw [he]; decide),aP h0]
   rw [e] at hq;refine⟨λh=>(by simp [hz] at h),λ_=>⟨λ_=>RetR.scal hq rfl (by simp [resV]),λh=>(by simp [ht0] at h)⟩⟩
  ·obtain⟨g0,gr⟩:=U9 (s:=s) e2 h0;have hz:(gcdR s t).2=0:=by rw [eg]; exact kV gr
   have ht0:t≠[48]:=λh=>h0 ((yg e2).1 h)
   have htn:t≠[]:=by rintro rfl; simp [UP] at e2
   have hneg:=VH htn;have e:wx s t=(Km (negI s != negI t) (numI s) (numI t),0):=by rw [wx,aO (by rw [he]; decide),aO h0]
   rw [e,Km] at hq;have ds:Nat.gcd (numI s) (numI t) ∣ numI s:=Nat.gcd_dvd_left _ _;have dt:Nat.gcd (numI s) (numI t) ∣ numI t:=Nat.gcd_dvd_right _ _;generalize hgg:Nat.gcd (numI s) (numI t)=g at *
   have rt:=room_le (Nat.div_le_self (numI t) g) (jN e2);have l1:=k6 false g;have l2:=k6 true g
   have fin:∀ b:Bool,b=negI t->∀ (z w:L8×L8×Int),z=dmI s (wr b g).1->w=dmI t (wr b g).1 ->
     (decide (w.1=[49])=true->RetR zee 0 Q [.str z.1,.i 0] [])/\(decide (w.1=[49])=false->z.1.length+1<=9223372036854775807/\(z.1.length+1<=9223372036854775807->(z.1++[47]).length+w.1.length<=9223372036854775807/\((z.1++[47]).length+w.1.length<=9223372036854775807->RetR zee 0 Q [.str (z.1++[47]++w.1),.i 0] []))):=by
    rintro b rfl z w rfl rfl;rw [Ud e1 g0 gr ds,Ud e2 g0 gr dt];simp only;have:(negI t != negI t)=false:=by simp
    rw [this];have k1:=k6 (negI s != negI t) (numI s/g);have k2:=k6 false (numI t/g);refine⟨λh=> ?_,λh=>⟨by omega,λ_=>⟨by simp; omega,λ_=> ?_⟩⟩⟩
    ·have h1:=(zc6 rt).1 (aB h);rw [aP h1] at hq;exact RetR.scal hq rfl (by simp [resV])
    ·have h1:¬ numI t/g=1:=λh1=>aC h ((zc6 rt).2 h1)
     rw [aO h1] at hq;exact RetR.scal hq rfl (by simp [resV])
   rw [eg] at hz ⊢;refine⟨λh=>(by simp [hz] at h),λ_=>⟨λh=>absurd (aB h) ht0,λ_=>⟨⟨by omega,by have:=List.length_pos_iff.2 htn; omega⟩,λ_=>⟨λhb=>⟨by omega,λ_=> ?_⟩,λhb=> ?_⟩⟩⟩⟩
   ·have hn:negI t=true:=by
     rw [hneg,aK];exact U3 (aB hb)
    rw [zkx g0 gr];refine⟨(s,(wr true g).1),⟨by simp,by show s.length<_; omega,by show(wr true g).1.length<_; omega⟩,⟨_,rfl⟩,?_⟩;intro z hz;refine⟨(t,(wr true g).1),⟨by simp,by show t.length<_; omega,by show(wr true g).1.length<_; omega⟩,⟨_,rfl⟩,?_⟩;intro w hw;exact fin true hn.symm z w hz hw
   ·have hn:negI t=false:=by
     rw [hneg,aV];intro h;apply aC hb;rw [h]; rfl
    refine⟨(s,(wr false g).1),⟨by simp,by show s.length<_; omega,by show(wr false g).1.length<_; omega⟩,⟨_,rfl⟩,?_⟩;intro z hz;refine⟨(t,(wr false g).1),⟨by simp,by show t.length<_; omega,by show(wr false g).1.length<_; omega⟩,⟨_,rfl⟩,?_⟩;intro w hw;exact fin false hn.symm z w hz hw
 ·have eg:gcdR s t=([],zA s t):=aO he;have e:wx s t=([],zA s t):=aP he;rw [e] at hq;rw [eg];exact⟨λ_=>RetR.scal hq rfl (by simp [resV]),λh=>by simp [he] at h⟩
noncomputable def K78:=Go.Sx.aA f78
structure Pr where
 n:L8
 m:L8
 d:L8
 c:L8
 e:Int
def Pr.box(p:Pr):Blk:=.box [.str p.n,.str p.m,.str p.d,.str p.c,.i p.e]
def Pr.err(p:Pr)(e:Int):Pr:=⟨p.n,p.m,p.d,p.c,e⟩
inductive QOp where
 | add | sub | mul
def QOp.fn:QOp->Nat
 | .add=>104
 | .sub=>186
 | .mul=>80
def QOp.has:QOp->Prop
 | .sub=>True
 | _=>True
def QOp.op:QOp->L8->L8->L8×Int
 | .add=>addI
 | .sub=>subI
 | .mul=>mulI
def jv(a b:L8):Pr:=if errR a≠0 then⟨[],[],[],[],errR a⟩ else if errR b≠0 then⟨numR a,[],denR a,[],errR b⟩ else⟨numR a,numR b,denR a,denR b,0⟩
def zo3:Ctr:=ctrT false false (λp:L8×L8=>[.str p.1,.str p.2]) (λ_=>[]) (λp=>p.1.length<2^62/\p.2.length<2^62) (λp r=>r=jv p.1 p.2) (λ_ (r:Pr)=>(.ptr 0 0,[r.box]))
def zk5:Ctr:=ctrT false false (λp:Pr×QOp=>[.ptr 0 0,.fn p.2.fn [] []]) (λp=>[p.1.box]) (λ_=>True) (λ_ (_:Unit)=>True) (λp _=>(.fn 121 [] [.ptr 1 0,.ptr 2 0],[p.1.box,.box [.ptr 0 0],.box [.fn p.2.fn [] []]]))
structure KX where
 p:Pr
 o:QOp
 x:L8
 y:L8
def zaf:Ctr:=ctrT false false (λk:KX=>[.str k.x,.str k.y,.ptr 0 0,.ptr 2 0]) (λk=>[.box [.ptr 1 0],k.p.box,.box [.fn k.o.fn [] []]]) (λk=>k.x.length<2^62/\k.y.length<2^62/\k.o.has) (λk r=>r=if k.p.e≠0 then([],k.p.e) else k.o.op k.x k.y)
 (λk (r:L8×Int)=>(.str r.1,[.box [.ptr 1 0],(k.p.err r.2).box,.box [.fn k.o.fn [] []]]))
def zi5:Ctr:=ctrT false false (λk:Pr×L8×L8=>[.ptr 0 0,.str k.2.1,.str k.2.2]) (λk=>[k.1.box]) (λk=>k.2.1.length<2^62/\k.2.2.length<2^62) (λk r=>r=if k.1.e≠0 then([],k.1.e) else wx k.2.1 k.2.2)
 (λk (r:L8×Int)=>(.tup [.str r.1,.i r.2],[k.1.box]))
theorem zo5:zc prog 79 zk5:=by
 refine zH (fn:=f79) (c:=f79.body.getD .skip) rfl rfl rfl (λh=>by cases h) λp hp O w0 I0 Q hl0 hq=> ?_
 obtain⟨p,o⟩:=p;replace hq:=hq () trivial;refine zb.n zD [] (.R [.fn 121 [] [.ptr 1 0,.ptr 2 0]] [.box [.str p.n,.str p.m,.str p.d,.str p.c,.i p.e],.box [.ptr 0 0],.box [.fn (QOp.fn o) [] []]]) ?_;simp only [Tree.holds,ze];refine RetR.keep [0,1,2] rfl rfl (by show ∀ j,j<1->_; decide) rfl hq ?_ ?_ rfl
 ·rfl
 ·exact⟨⟨rfl,rfl,rfl,rfl,⟨rfl,rfl⟩,trivial⟩,⟨⟨rfl,rfl⟩,trivial⟩,⟨rfl,trivial⟩,trivial⟩
noncomputable def GK1:=tb zu3 (tb zt3 (tb zte tz))
theorem zjb:zc prog 121 zaf:=by
 refine zH (fn:=f121) (c:=f121.body.getD .skip) rfl rfl rfl (λh=>by cases h) λk hk O w0 I0 Q hl0 hq=> ?_
 obtain⟨⟨n,m,d,c,e⟩,o,x,y⟩:=k;obtain⟨h1,h2,h3⟩:=hk;replace hq:=hq _ rfl;simp only at h1 h2 h3 hq
 have fin:∀ r:L8×Int,(if e≠0 then([],e) else o.op x y)=r->RetR zaf 3 Q [.str r.1] [.box [.ptr 1 0],.box [.str n,.str m,.str d,.str c,.i r.2],.box [.fn o.fn [] []]]:=by
  rintro r rfl;refine RetR.keep [0,1,2] rfl rfl (by show ∀ j,j<3->_; decide) rfl hq ?_ ?_ rfl
  ·rfl
  ·exact⟨⟨⟨rfl,rfl⟩,trivial⟩,⟨rfl,rfl,rfl,rfl,⟨rfl,rfl⟩,trivial⟩,⟨rfl,trivial⟩,trivial⟩
 cases o with
 | add=>
  refine zb.n GK1.h [] (.N (e=0) (.R [.str #[].toList] [.box [.ptr 1 0],.box [.str n,.str m,.str d,.str c,.i e],.box [.fn 104 [] []]]) (.ex (q17 [.str x,.str y]) λn_1=>.all (λ(r:L8×Int)=>r=addI n_1.1 n_1.2) λn_2=>.R [.str n_2.1] [.box [.ptr 1 0],.box [.str n,.str m,.str d,.str c,.i n_2.2],.box [.fn 104 [] []]])) ?_;simp only [q17,Tree.holds,ze];refine⟨λh=> ?_,λh=>⟨(x,y),⟨by simp,h1,h2⟩,⟨_,rfl⟩,?_⟩⟩
  ·have h:e≠0:=by simpa using h
   exact fin ([],e) (aP h)
  ·have h:e=0:=by simpa using h
   rintro _ rfl;exact fin (addI x y) (aO (by simp [h]))
 | sub=>
  refine zb.n GK1.h [] (.N (e=0) (.R [.str #[].toList] [.box [.ptr 1 0],.box [.str n,.str m,.str d,.str c,.i e],.box [.fn 186 [] []]]) (.ex (q17 [.str x,.str y]) λn_1=>.all (λ(r:L8×Int)=>r=subI n_1.1 n_1.2) λn_2=>.R [.str n_2.1] [.box [.ptr 1 0],.box [.str n,.str m,.str d,.str c,.i n_2.2],.box [.fn 186 [] []]])) ?_;simp only [q17,Tree.holds,ze];refine⟨λh=> ?_,λh=>⟨(x,y),⟨by simp,h1,h2⟩,⟨_,rfl⟩,?_⟩⟩
  ·have h:e≠0:=by simpa using h
   exact fin ([],e) (aP h)
  ·have h:e=0:=by simpa using h
   rintro _ rfl;exact fin (subI x y) (aO (by simp [h]))
 | mul=>
  refine zb.n GK1.h [] (.N (e=0) (.R [.str #[].toList] [.box [.ptr 1 0],.box [.str n,.str m,.str d,.str c,.i e],.box [.fn 80 [] []]]) (.ex (q17 [.str x,.str y]) λn_1=>.all (λ(r:L8×Int)=>r=mulI n_1.1 n_1.2) λn_2=>.R [.str n_2.1] [.box [.ptr 1 0],.box [.str n,.str m,.str d,.str c,.i n_2.2],.box [.fn 80 [] []]])) ?_;simp only [q17,Tree.holds,ze];refine⟨λh=> ?_,λh=>⟨(x,y),⟨by simp,h1,h2⟩,⟨_,rfl⟩,?_⟩⟩
  ·have h:e≠0:=by simpa using h
   exact fin ([],e) (aP h)
  ·have h:e=0:=by simpa using h
   rintro _ rfl;exact fin (mulI x y) (aO (by simp [h]))
noncomputable def GMd:=tb zow tz
theorem zpd:zc prog 103 zi5:=by
 refine zH (fn:=f103) (c:=f103.body.getD .skip) rfl rfl rfl (λh=>by cases h) λk hk O w0 I0 Q hl0 hq=> ?_
 obtain⟨⟨n,m,d,c,e⟩,x,y⟩:=k;obtain⟨h1,h2⟩:=hk;replace hq:=hq _ rfl;simp only at h1 h2 hq
 have fin:∀ r:L8×Int,(if e≠0 then([],e) else wx x y)=r->RetR zi5 1 Q [.str r.1,.i r.2] [.box [.str n,.str m,.str d,.str c,.i e]]:=by
  rintro r rfl;refine RetR.keep [0] rfl rfl (by show ∀ j,j<1->_; decide) rfl hq ?_ ?_ rfl
  ·exact⟨rfl,⟨rfl,rfl⟩,trivial⟩
  ·exact⟨⟨rfl,rfl,rfl,rfl,⟨rfl,rfl⟩,trivial⟩,trivial⟩
 refine zb.n GMd.h [] (let v1:List Blk:=[.box [.str n,.str m,.str d,.str c,.i e]];.N (e=0) (.R [.str #[].toList,.i e] v1) (.ex (q17 [.str x,.str y]) λn_1=>.all (λ(r:L8×Int)=>r=wx n_1.1 n_1.2) λn_2=>.R [.str n_2.1,.i n_2.2] v1)) ?_;simp only [q17,Tree.holds,ze];refine⟨λh=> ?_,λh=>⟨(x,y),⟨by simp,h1,h2⟩,⟨_,rfl⟩,?_⟩⟩
 ·have h:e≠0:=by simpa using h
  exact fin ([],e) (aP h)
 ·have h:e=0:=by simpa using h
  rintro _ rfl;exact fin (wx x y) (aO (by simp [h]))
def Pst(a b:L8):Nat->Pr
 | 0=>⟨[],[],[],[],0⟩
 | 1=>if errR a≠0 then⟨[],[],[],[],errR a⟩ else⟨numR a,[],denR a,[],0⟩
 | _=>jv a b
def SBq(a b:L8)(i:Nat):KV:=[(5,.ptr 0 0),(12,.agg [.str a,.str b]),(13,.i (i:Int))]
noncomputable def GBq:=tb zm1 tz
theorem zit:zc prog 78 zo3:=by
 refine zH (fn:=f78) (c:=f78.body.getD .skip) rfl rfl rfl (λh=>by cases h) λp hp O w0 I0 Q hl0 hq=> ?_
 obtain rfl:I0=[]:=aU.1 hl0;obtain⟨a,b⟩:=p;obtain⟨h1,h2⟩:=hp;replace hq:=hq _ rfl;simp only at h1 h2 hq;refine zb.n GBq.h [5,12,13] (.leaf (.loop (lps K78 0).1 (lps K78 0).2 [(5,.ptr 0 0),(12,.agg [.str a,.str b]),(13,.i 0)] [.box [.str #[].toList,.str #[].toList,.str #[].toList,.str #[].toList,.i 0]])) ?_;simp only [Tree.holds,ze];refine zb.loop (ι:={i:Nat // i<=2}) (λi=>SBq a b i.1) (λi=>[(Pst a b i.1).box]) (λi=>2 - i.1) ⟨0,aI _⟩ 0 ?_ ?_ (by kernel_rfl)
 ·exact⟨by simp [SBq],by simp [Pst,Pr.box],by kernel_rfl,aI _⟩
 rintro⟨i,hil⟩
 match i,hil with
 | 0,_=>
  refine zb.n GBq.h [5,12,13] (let v2:List Blk:=[.box [.str [],.str [],.str [],.str [],.i 0]];let v1:List (Nat×AV):=[(5,.ptr 0 0),(12,.agg [.str a,.str b]),(13,.i 1)];.ite true (.side ((0:Int)<=0/\(0:Int)<2/\1<=List.length [AV.str a,AV.str b]) (.ite true (.ex (q15 [.str a]) λn=>.all (λ(r:L8×L8×Int)=>r=if errR n=0 then(numR n,denR n,(0:Int)) else([],[],errR n)) λn=>.side ((0:Int)<=0/\(0:Int)<2) (.side ((0:Int)<=0/\(0:Int)<2) (.S 1 (.leaf (.back 0 v1 [.box [.str n.1,.str [],.str n.2.1,.str [],.i n.2.2]]))))) (.S 1 (.leaf (.back 0 v1 v2))))) (.R [.ptr 0 0] v2)) ?_;simp only [q15,Tree.holds,ze,inR,lo,hi,aD];refine⟨λ_=>⟨by simp,λ_=>⟨λ_=>⟨a,⟨by simp,h1⟩,⟨_,rfl⟩,?_⟩,λh=>(by cases h)⟩⟩,λh=>(by cases h)⟩;intro r hr;refine⟨by decide,λ_=>⟨by decide,λ_=>⟨by decide,λ_=> ?_⟩⟩⟩;rw [aP trivial];refine⟨⟨1,by decide⟩,by decide,by simp [SBq],?_,by kernel_rfl,aI _⟩
  have e:Pst a b 1=⟨r.1,[],r.2.1,[],r.2.2⟩:=by
   rw [hr];by_cases h:errR a=0
   ·simp [Pst,h]
   ·simp [Pst,h]
  show eqH _ [(Pst a b 1).box];rw [e];simp [Pr.box]
 | 1,_=>
  obtain⟨⟨n,m,d,c,e⟩,hp⟩:∃ p,Pst a b 1=p:=⟨_,rfl⟩;simp only [hp];refine zb.n GBq.h [5,12,13] (let v2:List Blk:=[.box [.str n,.str m,.str d,.str c,.i e]];let v1:List (Nat×AV):=[(5,.ptr 0 0),(12,.agg [.str a,.str b]),(13,.i 2)];.ite true (.side ((0:Int)<=1/\(1:Int)<2/\2<=List.length [AV.str a,AV.str b]) (.D (e=0) (.ex (q15 [.str b]) λn_1=>.all (λ(r:L8×L8×Int)=>r=if errR n_1=0 then(numR n_1,denR n_1,(0:Int)) else([],[],errR n_1)) λn_2=>.side ((0:Int)<=1/\(1:Int)<2) (.side ((0:Int)<=1/\(1:Int)<2) (.S 2 (.leaf (.back 0 v1 [.box [.str n,.str n_2.1,.str d,.str n_2.2.1,.i n_2.2.2]]))))) (.S 2 (.leaf (.back 0 v1 v2))))) (.R [.ptr 0 0] v2)) ?_;simp only [q15,Tree.holds,ze,inR,lo,hi,aD];refine⟨λ_=>⟨by simp,λ_=>⟨λh=>⟨b,⟨by simp,h2⟩,⟨_,rfl⟩,?_⟩,λh=>⟨by decide,λ_=> ?_⟩⟩⟩,λh=>(by cases h)⟩
  ·have h:e=0:=by simpa using h
   intro r hr;refine⟨by decide,λ_=>⟨by decide,λ_=>⟨by decide,λ_=> ?_⟩⟩⟩;rw [aP trivial];refine⟨⟨2,by decide⟩,by decide,by simp [SBq],?_,by kernel_rfl,aI _⟩
   have e2:Pst a b 2=⟨n,r.1,d,r.2.1,r.2.2⟩:=by
    rw [hr];by_cases ha:errR a=0
    ·simp only [Pst,ha] at hp;simp at hp;obtain⟨rfl,rfl,rfl,rfl,_⟩:=hp;by_cases hb:errR b=0
     ·simp [Pst,jv,ha,hb]
     ·simp [Pst,jv,ha,hb]
    ·simp only [Pst] at hp;rw [aP ha] at hp;cases hp;exact absurd h ha
   show eqH _ [(Pst a b 2).box];rw [e2];simp [Pr.box]
  ·have h:e≠0:=by simpa using h
   rw [aP trivial];refine⟨⟨2,by decide⟩,by decide,by simp [SBq],?_,by kernel_rfl,aI _⟩
   have e2:Pst a b 2=⟨n,m,d,c,e⟩:=by
    by_cases ha:errR a=0
    ·simp only [Pst,ha] at hp;simp at hp;exact absurd hp.2.2.2.2.symm h
    ·rw [<- hp];simp only [Pst,jv];rw [aP ha,aP ha]
   show eqH _ [(Pst a b 2).box];rw [e2];simp [Pr.box]
 | 2,_=>
  obtain⟨⟨n,m,d,c,e⟩,hp⟩:∃ p,Pst a b 2=p:=⟨_,rfl⟩;simp only [hp];refine zb.n GBq.h [5,12,13] (.ite false (.side ((0:Int)<=2/\(2:Int)<2/\3<=List.length [AV.str a,AV.str b]) .fail) (.R [.ptr 0 0] [.box [.str n,.str m,.str d,.str c,.i e]])) ?_;simp only [Tree.holds,ze,inR,lo,hi,aD];refine⟨λh=>(by cases h),λ_=> ?_⟩;have hp:jv a b=⟨n,m,d,c,e⟩:=hp;rw [hp] at hq;refine RetR.out1 0 (by show 0<1; decide) hq (λh=>by cases h) ?_ ?_
  ·exact⟨rfl,rfl⟩
  ·exact⟨rfl,rfl,rfl,rfl,⟨rfl,rfl⟩,trivial⟩
theorem kL(a b:L8):((jv a b).e≠0/\jP a b=(jv a b).e)\/((jv a b).e=0/\errR a=0/\errR b=0/\(jv a b).n=numR a/\(jv a b).m=numR b/\(jv a b).d=denR a/\(jv a b).c=denR b):=by
 unfold jv;by_cases ha:errR a=0
 ·rw [aO (by rw [ha]; simp)];by_cases hb:errR b=0
  ·rw [aO (by rw [hb]; simp)];exact .inr ⟨rfl,ha,hb,rfl,rfl,rfl,rfl⟩
  ·rw [aP hb];exact .inl ⟨hb,by unfold jP; rw [aP ha]⟩
 ·rw [aP ha];exact .inl ⟨ha,by unfold jP; rw [aO ha]⟩
theorem yK(a b:L8):(jv a b).n.length<=a.length/\(jv a b).m.length<=b.length/\(jv a b).d.length<=a.length+1/\(jv a b).c.length<=b.length+1:=by
 have h1:=Ul a;have h2:=Ul b;have h3:=Ui a;have h4:=Ui b;unfold jv;split
 ·simp
 ·split
  ·simp; omega
  ·simp only; omega
theorem kx_l(x y:L8):eqL [.str x,.str y,.ptr 0 0,.ptr 2 0] [.str x,.str y,.ptr 0 0,.ptr 2 0]:=⟨rfl,rfl,⟨rfl,rfl⟩,⟨rfl,rfl⟩,trivial⟩
theorem kx_b(p:Pr):eqH [.box [.str p.n,.str p.m,.str p.d,.str p.c,.i p.e]] [.box [.str p.n,.str p.m,.str p.d,.str p.c,.i p.e]]:=⟨⟨rfl,rfl,rfl,rfl,⟨rfl,rfl⟩,trivial⟩,trivial⟩
theorem kx_h(p:Pr)(f:Nat):eqH [.box [.ptr 1 0],.box [.str p.n,.str p.m,.str p.d,.str p.c,.i p.e],.box [.fn f [] []]] [.box [.ptr 1 0],.box [.str p.n,.str p.m,.str p.d,.str p.c,.i p.e],.box [.fn f [] []]]:=⟨⟨⟨rfl,rfl⟩,trivial⟩,(kx_b p).1,⟨rfl,trivial⟩,trivial⟩
theorem kx_k(f:Nat):eqL [.ptr 0 0,.fn f [] []] [.ptr 0 0,.fn f [] []]:=⟨⟨rfl,rfl⟩,rfl,trivial⟩
theorem kx_m(x y:L8):eqL [.ptr 0 0,.str x,.str y] [.ptr 0 0,.str x,.str y]:=⟨⟨rfl,rfl⟩,rfl,rfl,trivial⟩
theorem qD(p:Pr)(o:QOp)(x y:L8){r:L8×Int}(h:r=if p.e≠0 then([],p.e) else o.op x y):r.1.length<=1001:=by
 rw [h];refine zr3 ?_;cases o
 ·exact zke x y
 ·exact zk7 x y
 ·exact znw x y
noncomputable def GQA:=tb zit (tb zo5 (tb zjb (tb zpd (tb zr8 tz))))
def YU:Ctr:=ctrP true (λp:L8×L8=>[.str p.1,.str p.2]) (λp=>p.1.length<2^61/\p.2.length<2^61) (λp r=>r=addR p.1 p.2) (λ_ r=>(.tup [.str r.1,.i r.2],[]))
def zew:Ctr:=ctrP true (λp:L8×L8=>[.str p.1,.str p.2]) (λp=>p.1.length<2^61/\p.2.length<2^61) (λp r=>r=subR p.1 p.2) (λ_ r=>(.tup [.str r.1,.i r.2],[]))
def Kr:Ctr:=ctrP true (λp:L8×L8=>[.str p.1,.str p.2]) (λp=>p.1.length<2^61/\p.2.length<2^61) (λp r=>r=mulR p.1 p.2) (λ_ r=>(.tup [.str r.1,.i r.2],[]))
def zkm:Ctr:=ctrP true (λp:L8×L8=>[.str p.1,.str p.2]) (λp=>p.1.length<2^61/\p.2.length<2^61) (λp r=>r=cmpR p.1 p.2) (λ_ r=>(.tup [.i r.1,.i r.2],[]))
abbrev q38(A:List AV)(H:Heap)(x:Pr×L8×L8):Prop:=eqL A [.ptr 0 0,.str x.2.1,.str x.2.2]/\eqH H [.box [.str x.1.n,.str x.1.m,.str x.1.d,.str x.1.c,.i x.1.e]]/\1=1/\x.2.1.length<4611686018427387904/\x.2.2.length<4611686018427387904
abbrev q37(A:List AV)(H:Heap)(x:KX):Prop:=eqL A [.str x.x,.str x.y,.ptr 0 0,.ptr 2 0]/\eqH H [.box [.ptr 1 0],.box [.str x.p.n,.str x.p.m,.str x.p.d,.str x.p.c,.i x.p.e],.box [.fn (QOp.fn x.o) [] []]]/\3=3/\x.x.length<4611686018427387904/\x.y.length<4611686018427387904/\QOp.has x.o
abbrev q36(A:List AV)(H:Heap)(x:Pr×QOp):Prop:=eqL A [.ptr 0 0,.fn (QOp.fn x.2) [] []]/\eqH H [.box [.str x.1.n,.str x.1.m,.str x.1.d,.str x.1.c,.i x.1.e]]/\1=1/\True
abbrev q35(A:List AV)(H:Heap)(x:L8×L8):Prop:=eqL A [.str x.1,.str x.2]/\eqH H []/\0=0/\x.1.length<4611686018427387904/\x.2.length<4611686018427387904
theorem Jh:zc prog 65 YU:=by
 refine zf' f65 λp hp O w0 Q hq=> ?_
 obtain⟨a,b⟩:=p;obtain⟨h1,h2⟩:=hp;replace hq:=hq _ rfl;simp only at h1 h2 hq;refine zb.n GQA.h [] (let v5:=[AV.ptr 1 0];.ex (q35 [.str a,.str b] []) λn=>.all (λ(r:Pr)=>r=jv n.1 n.2) λn=>.ex (q36 [.ptr 0 0,.fn 80 [] []] [.box [.str n.n,.str n.m,.str n.d,.str n.c,.i n.e]]) λn=>.A λn_1=>.ex (q36 [.ptr 0 0,.fn 104 [] []] [.box [.str n.1.n,.str n.1.m,.str n.1.d,.str n.1.c,.i n.1.e]]) λn_2=>.A λn_3=>.side ((0:Int)<=0/\(0:Int)<2) (.side ((0:Int)<=1/\(1:Int)<2) (.side ((0:Int)<=1/\(1:Int)<2) (.side ((0:Int)<=0/\(0:Int)<2) (.side ((0:Int)<=0/\(0:Int)<2) (.side ((0:Int)<=1/\(1:Int)<2) (.ex (q37 [.str n_2.1.n,.str n_2.1.c,.ptr 0 0,.ptr 2 0] [.box v5,.box [.str n_2.1.n,.str n_2.1.m,.str n_2.1.d,.str n_2.1.c,.i n_2.1.e],.box [.fn (QOp.fn n.2) [] []]]) λn=>.all (λ(r:L8×Int)=>r=if Pr.e n.p≠0 then([],Pr.e n.p) else QOp.op n.o n.x n.y) λn_4=>let v1:=Pr.err n.p n_4.2;.side (Pr.c v1=Pr.c n_2.1) (.side (Pr.d v1=Pr.d n_2.1) (.side (Pr.d v1=Pr.d n_2.1) (.side (Pr.m v1=Pr.m n_2.1) (.ex (q37 [.str n_2.1.m,.str n_2.1.d,.ptr 0 0,.ptr 2 0] [.box v5,.box [.str v1.n,.str v1.m,.str v1.d,.str v1.c,.i v1.e],.box [.fn (QOp.fn n.o) [] []]]) λn=>.all (λ(r:L8×Int)=>r=if Pr.e n.p≠0 then([],Pr.e n.p) else QOp.op n.o n.x n.y) λn_5=>let v3:=Pr.err n.p n_5.2;.side (Pr.c v3=Pr.c n_2.1) (.side (Pr.d v3=Pr.d n_2.1) (.ex (q37 [.str n_4.1,.str n_5.1,.ptr 0 0,.ptr 2 0] [.box v5,.box [.str v3.n,.str v3.m,.str v3.d,.str v3.c,.i v3.e],.box [.fn (QOp.fn n_2.2) [] []]]) λn_6=>.all (λ(r:L8×Int)=>r=if Pr.e n_6.p≠0 then([],Pr.e n_6.p) else QOp.op n_6.o n_6.x n_6.y) λn_7=>let v2:=Pr.err n_6.p n_7.2;.side (Pr.c v2=Pr.c n_2.1) (.side (Pr.d v2=Pr.d n_2.1) (.ex (q37 [.str n_2.1.d,.str n_2.1.c,.ptr 0 0,.ptr 2 0] [.box v5,.box [.str v2.n,.str v2.m,.str v2.d,.str v2.c,.i v2.e],.box [.fn (QOp.fn n.o) [] []]]) λn=>.all (λ(r:L8×Int)=>r=if Pr.e n.p≠0 then([],Pr.e n.p) else QOp.op n.o n.x n.y) λn_8=>let v4:=Pr.err n.p n_8.2;.ex (q38 [.ptr 0 0,.str n_7.1,.str n_8.1] [.box [.str v4.n,.str v4.m,.str v4.d,.str v4.c,.i v4.e]]) λn_9=>.all (λ(r:L8×Int)=>r=if Pr.e n_9.1≠0 then([],Pr.e n_9.1) else wx n_9.2.1 n_9.2.2) λn_10=>.R [.str n_10.1,.i n_10.2] [.box [.str n_9.1.n,.str n_9.1.m,.str n_9.1.d,.str n_9.1.c,.i n_9.1.e],.box [.ptr 0 0],.box [.fn (QOp.fn n.o) [] []],.box [.ptr 0 0],.box [.fn (QOp.fn n_6.o) [] []]]))))))))))))))) ?_;simp only [q35,q36,q37,q38,Tree.holds,ze];refine⟨(a,b),⟨⟨rfl,rfl,trivial⟩,trivial,by trivial,by show a.length<_; omega,by show b.length<_; omega⟩,⟨_,rfl⟩,?_⟩;intro p hp;have hc:=kL a b;obtain⟨l1,l2,l3,l4⟩:=yK a b;rw [<- hp] at hc l1 l2 l3 l4;refine⟨(p,.mul),⟨kx_k _,kx_b p,by trivial,trivial⟩,⟨(),trivial⟩,?_⟩;intro _ _;refine⟨(p,.add),⟨kx_k _,kx_b p,by trivial,trivial⟩,⟨(),trivial⟩,?_⟩;intro _ _
 iterate 6 refine⟨by decide,λ_=> ?_⟩
 refine⟨⟨p,.mul,p.n,p.c⟩,⟨kx_l _ _,kx_h (p) _,by trivial,by show(p.n).length<_; omega,by show(p.c).length<_; omega,by trivial⟩,⟨_,rfl⟩,?_⟩;intro r1 hr1;have kr1:=qD _ _ _ _ hr1
 iterate 4 refine⟨rfl,λ_=> ?_⟩
 refine⟨⟨p.err r1.2,.mul,p.m,p.d⟩,⟨kx_l _ _,kx_h (p.err r1.2) _,by trivial,by show(p.m).length<_; omega,by show(p.d).length<_; omega,by trivial⟩,⟨_,rfl⟩,?_⟩;intro r2 hr2;have kr2:=qD _ _ _ _ hr2
 iterate 2 refine⟨rfl,λ_=> ?_⟩
 refine⟨⟨(p.err r1.2).err r2.2,.add,r1.1,r2.1⟩,⟨kx_l _ _,kx_h ((p.err r1.2).err r2.2) _,by trivial,by show(r1.1).length<_; omega,by show(r2.1).length<_; omega,by trivial⟩,⟨_,rfl⟩,?_⟩;intro r3 hr3;have kr3:=qD _ _ _ _ hr3
 iterate 2 refine⟨rfl,λ_=> ?_⟩
 refine⟨⟨((p.err r1.2).err r2.2).err r3.2,.mul,p.d,p.c⟩,⟨kx_l _ _,kx_h (((p.err r1.2).err r2.2).err r3.2) _,by trivial,by show(p.d).length<_; omega,by show(p.c).length<_; omega,by trivial⟩,⟨_,rfl⟩,?_⟩;intro r4 hr4;have kr4:=qD _ _ _ _ hr4;refine⟨((((p.err r1.2).err r2.2).err r3.2).err r4.2,r3.1,r4.1),⟨kx_m _ _,kx_b _,by trivial,by show(r3.1).length<_; omega,by show(r4.1).length<_; omega⟩,⟨_,rfl⟩,?_⟩;intro r5 hr5;have hfin:=QO hc (λ{s t} =>ziv (s:=s) (t:=t)) hr1 hr2 hr3 hr4 hr5;have e:r5=addR a b:=hfin;rw [<- e] at hq;exact RetR.scal hq rfl (by simp [resV])
theorem XZ:zc prog 185 zew:=by
 refine zf' f185 λp hp O w0 Q hq=> ?_
 obtain⟨a,b⟩:=p;obtain⟨h1,h2⟩:=hp;replace hq:=hq _ rfl;simp only at h1 h2 hq;refine zb.n GQA.h [] (let v5:=[AV.ptr 1 0];.ex (q35 [.str a,.str b] []) λn=>.all (λ(r:Pr)=>r=jv n.1 n.2) λn=>.ex (q36 [.ptr 0 0,.fn 80 [] []] [.box [.str n.n,.str n.m,.str n.d,.str n.c,.i n.e]]) λn=>.A λn_1=>.ex (q36 [.ptr 0 0,.fn 186 [] []] [.box [.str n.1.n,.str n.1.m,.str n.1.d,.str n.1.c,.i n.1.e]]) λn_2=>.A λn_3=>.side ((0:Int)<=0/\(0:Int)<2) (.side ((0:Int)<=1/\(1:Int)<2) (.side ((0:Int)<=1/\(1:Int)<2) (.side ((0:Int)<=0/\(0:Int)<2) (.side ((0:Int)<=0/\(0:Int)<2) (.side ((0:Int)<=1/\(1:Int)<2) (.ex (q37 [.str n_2.1.n,.str n_2.1.c,.ptr 0 0,.ptr 2 0] [.box v5,.box [.str n_2.1.n,.str n_2.1.m,.str n_2.1.d,.str n_2.1.c,.i n_2.1.e],.box [.fn (QOp.fn n.2) [] []]]) λn=>.all (λ(r:L8×Int)=>r=if Pr.e n.p≠0 then([],Pr.e n.p) else QOp.op n.o n.x n.y) λn_4=>let v1:=Pr.err n.p n_4.2;.side (Pr.c v1=Pr.c n_2.1) (.side (Pr.d v1=Pr.d n_2.1) (.side (Pr.d v1=Pr.d n_2.1) (.side (Pr.m v1=Pr.m n_2.1) (.ex (q37 [.str n_2.1.m,.str n_2.1.d,.ptr 0 0,.ptr 2 0] [.box v5,.box [.str v1.n,.str v1.m,.str v1.d,.str v1.c,.i v1.e],.box [.fn (QOp.fn n.o) [] []]]) λn=>.all (λ(r:L8×Int)=>r=if Pr.e n.p≠0 then([],Pr.e n.p) else QOp.op n.o n.x n.y) λn_5=>let v3:=Pr.err n.p n_5.2;.side (Pr.c v3=Pr.c n_2.1) (.side (Pr.d v3=Pr.d n_2.1) (.ex (q37 [.str n_4.1,.str n_5.1,.ptr 0 0,.ptr 2 0] [.box v5,.box [.str v3.n,.str v3.m,.str v3.d,.str v3.c,.i v3.e],.box [.fn (QOp.fn n_2.2) [] []]]) λn_6=>.all (λ(r:L8×Int)=>r=if Pr.e n_6.p≠0 then([],Pr.e n_6.p) else QOp.op n_6.o n_6.x n_6.y) λn_7=>let v2:=Pr.err n_6.p n_7.2;.side (Pr.c v2=Pr.c n_2.1) (.side (Pr.d v2=Pr.d n_2.1) (.ex (q37 [.str n_2.1.d,.str n_2.1.c,.ptr 0 0,.ptr 2 0] [.box v5,.box [.str v2.n,.str v2.m,.str v2.d,.str v2.c,.i v2.e],.box [.fn (QOp.fn n.o) [] []]]) λn=>.all (λ(r:L8×Int)=>r=if Pr.e n.p≠0 then([],Pr.e n.p) else QOp.op n.o n.x n.y) λn_8=>let v4:=Pr.err n.p n_8.2;.ex (q38 [.ptr 0 0,.str n_7.1,.str n_8.1] [.box [.str v4.n,.str v4.m,.str v4.d,.str v4.c,.i v4.e]]) λn_9=>.all (λ(r:L8×Int)=>r=if Pr.e n_9.1≠0 then([],Pr.e n_9.1) else wx n_9.2.1 n_9.2.2) λn_10=>.R [.str n_10.1,.i n_10.2] [.box [.str n_9.1.n,.str n_9.1.m,.str n_9.1.d,.str n_9.1.c,.i n_9.1.e],.box [.ptr 0 0],.box [.fn (QOp.fn n.o) [] []],.box [.ptr 0 0],.box [.fn (QOp.fn n_6.o) [] []]]))))))))))))))) ?_;simp only [q35,q36,q37,q38,Tree.holds,ze];refine⟨(a,b),⟨⟨rfl,rfl,trivial⟩,trivial,by trivial,by show a.length<_; omega,by show b.length<_; omega⟩,⟨_,rfl⟩,?_⟩;intro p hp;have hc:=kL a b;obtain⟨l1,l2,l3,l4⟩:=yK a b;rw [<- hp] at hc l1 l2 l3 l4;refine⟨(p,.mul),⟨kx_k _,kx_b p,by trivial,trivial⟩,⟨(),trivial⟩,?_⟩;intro _ _;refine⟨(p,.sub),⟨kx_k _,kx_b p,by trivial,trivial⟩,⟨(),trivial⟩,?_⟩;intro _ _
 iterate 6 refine⟨by decide,λ_=> ?_⟩
 refine⟨⟨p,.mul,p.n,p.c⟩,⟨kx_l _ _,kx_h (p) _,by trivial,by show(p.n).length<_; omega,by show(p.c).length<_; omega,by trivial⟩,⟨_,rfl⟩,?_⟩;intro r1 hr1;have kr1:=qD _ _ _ _ hr1
 iterate 4 refine⟨rfl,λ_=> ?_⟩
 refine⟨⟨p.err r1.2,.mul,p.m,p.d⟩,⟨kx_l _ _,kx_h (p.err r1.2) _,by trivial,by show(p.m).length<_; omega,by show(p.d).length<_; omega,by trivial⟩,⟨_,rfl⟩,?_⟩;intro r2 hr2;have kr2:=qD _ _ _ _ hr2
 iterate 2 refine⟨rfl,λ_=> ?_⟩
 refine⟨⟨(p.err r1.2).err r2.2,.sub,r1.1,r2.1⟩,⟨kx_l _ _,kx_h ((p.err r1.2).err r2.2) _,by trivial,by show(r1.1).length<_; omega,by show(r2.1).length<_; omega,by trivial⟩,⟨_,rfl⟩,?_⟩;intro r3 hr3;have kr3:=qD _ _ _ _ hr3
 iterate 2 refine⟨rfl,λ_=> ?_⟩
 refine⟨⟨((p.err r1.2).err r2.2).err r3.2,.mul,p.d,p.c⟩,⟨kx_l _ _,kx_h (((p.err r1.2).err r2.2).err r3.2) _,by trivial,by show(p.d).length<_; omega,by show(p.c).length<_; omega,by trivial⟩,⟨_,rfl⟩,?_⟩;intro r4 hr4;have kr4:=qD _ _ _ _ hr4;refine⟨((((p.err r1.2).err r2.2).err r3.2).err r4.2,r3.1,r4.1),⟨kx_m _ _,kx_b _,by trivial,by show(r3.1).length<_; omega,by show(r4.1).length<_; omega⟩,⟨_,rfl⟩,?_⟩;intro r5 hr5;have hfin:=QO hc (λ{s t} =>zoi (s:=s) (t:=t)) hr1 hr2 hr3 hr4 hr5;have e:r5=subR a b:=hfin;rw [<- e] at hq;exact RetR.scal hq rfl (by simp [resV])
theorem uY:zc prog 64 Kr:=by
 refine zf' f64 λp hp O w0 Q hq=> ?_
 obtain⟨a,b⟩:=p;obtain⟨h1,h2⟩:=hp;replace hq:=hq _ rfl;simp only at h1 h2 hq;refine zb.n GQA.h [] (.ex (q35 [.str a,.str b] []) λn=>.all (λ(r:Pr)=>r=jv n.1 n.2) λn=>.ex (q36 [.ptr 0 0,.fn 80 [] []] [.box [.str n.n,.str n.m,.str n.d,.str n.c,.i n.e]]) λn=>.A λn_1=>.side ((0:Int)<=0/\(0:Int)<2) (.side ((0:Int)<=1/\(1:Int)<2) (.side ((0:Int)<=0/\(0:Int)<2) (.side ((0:Int)<=1/\(1:Int)<2) (.ex (q37 [.str n.1.n,.str n.1.m,.ptr 0 0,.ptr 2 0] [.box [.ptr 1 0],.box [.str n.1.n,.str n.1.m,.str n.1.d,.str n.1.c,.i n.1.e],.box [.fn (QOp.fn n.2) [] []]]) λn_2=>.all (λ(r:L8×Int)=>r=if Pr.e n_2.p≠0 then([],Pr.e n_2.p) else QOp.op n_2.o n_2.x n_2.y) λn_3=>let v1:=Pr.err n_2.p n_3.2;.side (Pr.c v1=Pr.c n.1) (.side (Pr.d v1=Pr.d n.1) (.ex (q37 [.str n.1.d,.str n.1.c,.ptr 0 0,.ptr 2 0] [.box [.ptr 1 0],.box [.str v1.n,.str v1.m,.str v1.d,.str v1.c,.i v1.e],.box [.fn (QOp.fn n_2.o) [] []]]) λn=>.all (λ(r:L8×Int)=>r=if Pr.e n.p≠0 then([],Pr.e n.p) else QOp.op n.o n.x n.y) λn_4=>let v2:=Pr.err n.p n_4.2;.ex (q38 [.ptr 0 0,.str n_3.1,.str n_4.1] [.box [.str v2.n,.str v2.m,.str v2.d,.str v2.c,.i v2.e]]) λn_5=>.all (λ(r:L8×Int)=>r=if Pr.e n_5.1≠0 then([],Pr.e n_5.1) else wx n_5.2.1 n_5.2.2) λn_6=>.R [.str n_6.1,.i n_6.2] [.box [.str n_5.1.n,.str n_5.1.m,.str n_5.1.d,.str n_5.1.c,.i n_5.1.e],.box [.ptr 0 0],.box [.fn (QOp.fn n.o) [] []]]))))))) ?_;simp only [q35,q36,q37,q38,Tree.holds,ze];refine⟨(a,b),⟨⟨rfl,rfl,trivial⟩,trivial,by trivial,by show a.length<_; omega,by show b.length<_; omega⟩,⟨_,rfl⟩,?_⟩;intro p hp;have hc:=kL a b;obtain⟨l1,l2,l3,l4⟩:=yK a b;rw [<- hp] at hc l1 l2 l3 l4;refine⟨(p,.mul),⟨kx_k _,kx_b p,by trivial,trivial⟩,⟨(),trivial⟩,?_⟩;intro _ _
 iterate 4 refine⟨by decide,λ_=> ?_⟩
 refine⟨⟨p,.mul,p.n,p.m⟩,⟨kx_l _ _,kx_h (p) _,by trivial,by show(p.n).length<_; omega,by show(p.m).length<_; omega,by trivial⟩,⟨_,rfl⟩,?_⟩;intro r1 hr1;have kr1:=qD _ _ _ _ hr1
 iterate 2 refine⟨rfl,λ_=> ?_⟩
 refine⟨⟨p.err r1.2,.mul,p.d,p.c⟩,⟨kx_l _ _,kx_h (p.err r1.2) _,by trivial,by show(p.d).length<_; omega,by show(p.c).length<_; omega,by trivial⟩,⟨_,rfl⟩,?_⟩;intro r2 hr2;have kr2:=qD _ _ _ _ hr2;refine⟨((p.err r1.2).err r2.2,r1.1,r2.1),⟨kx_m _ _,kx_b _,by trivial,by show(r1.1).length<_; omega,by show(r2.1).length<_; omega⟩,⟨_,rfl⟩,?_⟩;intro r3 hr3
 have hv:errR a=0->errR b=0->zA p.n p.m=0/\zA p.d p.c=0:=by
  intro ha hb;obtain⟨a1,a2,_⟩:=qM ha;obtain⟨b1,b2,_⟩:=qM hb;rcases hc with ⟨g1,g2⟩ | ⟨_,_,_,g1,g2,g3,g4⟩
  ·exact absurd g2 (by unfold jP; rw [aP ha,hb]; exactλh=>g1 h.symm)
  ·rw [g1,g2,g3,g4]; exact⟨zk.2 ⟨a1,b1⟩,zk.2 ⟨a2,b2⟩⟩
 have hfin:=zhp hc hr1 hr2 hr3 hv
 have e:r3=mulR a b:=by
  rw [hfin];unfold mulR;rcases hc with ⟨g1,g2⟩ | ⟨_,_,_,g1,g2,g3,g4⟩
  ·rw [aP (by rw [g2]; exact g1),aP (by rw [g2]; exact g1)]
  ·rw [g1,g2,g3,g4]
 rw [<- e] at hq;exact RetR.scal hq rfl (by simp [resV])
theorem zf4:zc prog 45 zkm:=by
 refine zf' f45 λp hp O w0 Q hq=> ?_
 obtain⟨a,b⟩:=p;obtain⟨h1,h2⟩:=hp;replace hq:=hq _ rfl;simp only at h1 h2 hq;refine zb.n GQA.h [] (.ex (q35 [.str a,.str b] []) λn=>.all (λ(r:Pr)=>r=jv n.1 n.2) λn=>.ex (q36 [.ptr 0 0,.fn 80 [] []] [.box [.str n.n,.str n.m,.str n.d,.str n.c,.i n.e]]) λn=>.A λn_1=>.side ((0:Int)<=0/\(0:Int)<2) (.side ((0:Int)<=1/\(1:Int)<2) (.side ((0:Int)<=1/\(1:Int)<2) (.side ((0:Int)<=0/\(0:Int)<2) (.ex (q37 [.str n.1.n,.str n.1.c,.ptr 0 0,.ptr 2 0] [.box [.ptr 1 0],.box [.str n.1.n,.str n.1.m,.str n.1.d,.str n.1.c,.i n.1.e],.box [.fn (QOp.fn n.2) [] []]]) λn_2=>.all (λ(r:L8×Int)=>r=if Pr.e n_2.p≠0 then([],Pr.e n_2.p) else QOp.op n_2.o n_2.x n_2.y) λn_3=>let v2:=Pr.err n_2.p n_3.2;.side (Pr.d v2=Pr.d n.1) (.side (Pr.m v2=Pr.m n.1) (.ex (q37 [.str n.1.m,.str n.1.d,.ptr 0 0,.ptr 2 0] [.box [.ptr 1 0],.box [.str v2.n,.str v2.m,.str v2.d,.str v2.c,.i v2.e],.box [.fn (QOp.fn n_2.o) [] []]]) λn=>.all (λ(r:L8×Int)=>r=if Pr.e n.p≠0 then([],Pr.e n.p) else QOp.op n.o n.x n.y) λn_4=>let v3:=Pr.err n.p n_4.2;let v1:List Blk:=[.box [.str v3.n,.str v3.m,.str v3.d,.str v3.c,.i v3.e],.box [.ptr 0 0],.box [.fn (QOp.fn n.o) [] []]];.N (Pr.e v3=(0:Int)) (.R [.i 0,.i v3.e] v1) (.ex (q17 [.str n_3.1,.str n_4.1]) λn_5=>.all (λ(r:Int×Int)=>r=QM n_5.1 n_5.2) λn_6=>.R [.i n_6.1,.i n_6.2] v1)))))))) ?_;simp only [q17,q35,q36,q37,Tree.holds,ze];refine⟨(a,b),⟨⟨rfl,rfl,trivial⟩,trivial,by trivial,by show a.length<_; omega,by show b.length<_; omega⟩,⟨_,rfl⟩,?_⟩;intro p hp;have hc:=kL a b;obtain⟨l1,l2,l3,l4⟩:=yK a b;rw [<- hp] at hc l1 l2 l3 l4;refine⟨(p,.mul),⟨kx_k _,kx_b p,by trivial,trivial⟩,⟨(),trivial⟩,?_⟩;intro _ _
 iterate 4 refine⟨by decide,λ_=> ?_⟩
 refine⟨⟨p,.mul,p.n,p.c⟩,⟨kx_l _ _,kx_h (p) _,by trivial,by show(p.n).length<_; omega,by show(p.c).length<_; omega,by trivial⟩,⟨_,rfl⟩,?_⟩;intro r1 hr1;have kr1:=qD _ _ _ _ hr1
 iterate 2 refine⟨rfl,λ_=> ?_⟩
 refine⟨⟨p.err r1.2,.mul,p.m,p.d⟩,⟨kx_l _ _,kx_h (p.err r1.2) _,by trivial,by show(p.m).length<_; omega,by show(p.d).length<_; omega,by trivial⟩,⟨_,rfl⟩,?_⟩;intro r2 hr2;have kr2:=qD _ _ _ _ hr2;have hfin:=zgo hc hr1 hr2;refine⟨λh=> ?_,λh=>⟨(r1.1,r2.1),⟨⟨rfl,rfl,trivial⟩,by show r1.1.length<_; omega,by show r2.1.length<_; omega⟩,⟨_,rfl⟩,?_⟩⟩
 ·have h:r2.2≠0:=by
   intro h0;have h':(!decide (r2.2=0))=true:=h;rw [h0] at h'; cases h'
  rw [aP h] at hfin;rw [<- hfin] at hq;exact RetR.scal hq rfl (by simp [resV,Pr.err])
 ·have h:r2.2=0:=by
   have h':(!decide (r2.2=0))=false:=h;cases hd:decide (r2.2=0) with
   | true=>exact aB hd
   | false=>rw [hd] at h'; cases h'
  rw [aO (by rw [h]; simp)] at hfin;rintro _ rfl;rw [<- hfin] at hq;exact RetR.scal hq rfl (by simp [resV])
end Go.Proofs.Tryz
end
section
namespace Go.Nov
end Go.Nov
end
section
set_option maxRecDepth 100000
open Go Go.Sx Go.Proofs Go.Nov
namespace Go.Proofs.Tryz
attribute [local simp] eqKV eqA eqA0 eqH eqB eqL eqL0
noncomputable def K100:=Go.Sx.aA f100
def nanS:Ctr:=ctrP true (λs:L8=>[.str s]) (λ_=>True) (λs r=>r=false) (λ_ (r:Bool)=>(.bool r,[]))
def nanI:Ctr:=ctrP true (λx:Int=>[.i x]) (λ_=>True) (λs r=>r=false) (λ_ (r:Bool)=>(.bool r,[]))
theorem zp5:zc prog 128 nanS:=by
 refine zf' f128 λs hs O w0 Q hq=> ?_
 replace hq:=hq _ rfl;refine zb.n zD [] (.R [.bool !decide (s=s)] []) ?_;simp only [Tree.holds,ze];exact RetR.scal hq rfl (by simp [resV])
theorem zra:zc prog 129 nanI:=by
 refine zf' f129 λs hs O w0 Q hq=> ?_
 replace hq:=hq _ rfl;refine zb.n zD [] (.R [.bool !decide (s=s)] []) ?_;simp only [Tree.holds,ze];exact RetR.scal hq rfl (by simp [resV])
def zsf:Ctr:=ctrP true (λp:L8×L8=>[.str p.1,.str p.2]) (λ_=>True) (λp r=>r=cmpS p.1 p.2) (λ_ (r:Int)=>(.i r,[]))
def zsl:Ctr:=ctrP true (λp:Int×Int=>[.i p.1,.i p.2]) (λ_=>True) (λp r=>r=cmpI p.1 p.2) (λ_ (r:Int)=>(.i r,[]))
noncomputable def GN2:=tb zp5 (tb zra tz)
abbrev q39(A:List AV)(x:L8):Prop:=eqL A [.str x]/\True
theorem zqq:zc prog 101 zsf:=by
 refine zf' f101 λp hs O w0 Q hq=> ?_
 obtain⟨s,t⟩:=p;replace hq:=hq _ rfl;simp only at hq;refine zb.n GN2.h [] (.ex (q39 [.str s]) λn=>.all (λ(r:Bool)=>r=false) λn=>.ex (q39 [.str t]) λn_1=>.all (λ(r:Bool)=>r=false) λn_2=>.ite n (.ite n_2 (.R [.int .i64 0] []) (.R [.int .i64 (-1:Int)] [])) (.ite n_2 (.R [.int .i64 1] []) (.ite (Op.bytesLess s t) (.R [.int .i64 (-1:Int)] []) (.ite (!(Op.bytesLess s t||decide (s=t))) (.R [.int .i64 1] []) (.R [.int .i64 0] []))))) ?_;simp only [q39,Tree.holds,ze];refine⟨s,⟨by simp,trivial⟩,⟨_,rfl⟩,?_⟩;rintro _ rfl;refine⟨t,⟨by simp,trivial⟩,⟨_,rfl⟩,?_⟩;rintro _ rfl;refine⟨λh=>(by cases h),λ_=>⟨λh=>(by cases h),λ_=>⟨λh=> ?_,λh=>⟨λh2=> ?_,λh2=> ?_⟩⟩⟩⟩
 ·have:cmpS s t = -1:=by simp [cmpS,h]
  rw [this] at hq; exact RetR.scal hq rfl (by simp [resV])
 ·have h2:s≠t:=by simpa [h] using h2
  have:cmpS s t=1:=by simp [cmpS,h,h2]
  rw [this] at hq; exact RetR.scal hq rfl (by simp [resV])
 ·have h2:s=t:=by simpa [h] using h2
  subst h2;have:cmpS s s=0:=by simp [cmpS,h]
  rw [this] at hq; exact RetR.scal hq rfl (by simp [resV])
theorem zqm:zc prog 102 zsl:=by
 refine zf' f102 λp hs O w0 Q hq=> ?_
 obtain⟨s,t⟩:=p;replace hq:=hq _ rfl;simp only at hq;refine zb.n GN2.h [] (.ex (q21 [.i s]) λn=>.all (λ(r:Bool)=>r=false) λn=>.ex (q21 [.i t]) λn_1=>.all (λ(r:Bool)=>r=false) λn_2=>.ite n (.ite n_2 (.R [.i 0] []) (.R [.i (-1:Int)] [])) (.ite n_2 (.R [.i 1] []) (.D (s<t) (.R [.i (-1:Int)] []) (.D (t<s) (.R [.i 1] []) (.R [.i 0] []))))) ?_;simp only [q21,Tree.holds,ze];refine⟨s,⟨by simp,trivial⟩,⟨_,rfl⟩,?_⟩;rintro _ rfl;refine⟨t,⟨by simp,trivial⟩,⟨_,rfl⟩,?_⟩;rintro _ rfl;refine⟨λh=>(by cases h),λ_=>⟨λh=>(by cases h),λ_=>⟨λh=> ?_,λh=>⟨λh2=> ?_,λh2=> ?_⟩⟩⟩⟩
 ·have h:=aB h;have:cmpI s t = -1:=by simp [cmpI,h]
  rw [this] at hq; exact RetR.scal hq rfl (by simp [resV])
 ·have h:=aC h;have h2:=aB h2;have:cmpI s t=1:=by simp [cmpI,h,h2]
  rw [this] at hq; exact RetR.scal hq rfl (by simp [resV])
 ·have h:=aC h;have h2:=aC h2;have:cmpI s t=0:=by simp [cmpI,h,h2]
  rw [this] at hq; exact RetR.scal hq rfl (by simp [resV])
def orC:Ctr:=ctrP true (λl:List Int=>[.sl l.length 1 (λj _=>.i (l.getD j 0))]) (λl=>l.length<2^40) (λl r=>r=orI l) (λ_ (r:Int)=>(.i r,[]))
def SOr(l:List Int)(i:Nat):KV:=[(3,.i 0),(6,.sl l.length 1 (λj _=>.i (l.getD j 0))),(7,.i (l.length:Int)),(8,.i (i:Int))]
theorem zv5:zc prog 100 orC:=by
 refine zf' f100 λl hl O w0 Q hq=> ?_
 replace hq:=hq _ rfl;refine zb.n zD [3,6,7,8] (.leaf (.loop (lps K100 0).1 (lps K100 0).2 [(3,.i 0),(6,.sl l.length 1 λ(j x:Nat)=>.i (l.getD j (0:Int))),(7,.i l.length),(8,.i 0)] [])) ?_;simp only [Tree.holds,ze];refine zb.loop (ι:={i:Nat // i<=l.length/\orI (l.drop i)=orI l}) (λi=>SOr l i.1) (λ_=>[]) (λi=>l.length - i.1) ⟨0,aI _,rfl⟩ 0 ?_ ?_ (by kernel_rfl)
 ·exact⟨by simp [SOr,za],by simp,by kernel_rfl,aI _⟩
 ·rintro⟨i,hil,hio⟩;refine zb.n zD [3,6,7,8] (.D ((i:Int)<l.length) (.side ((0:Int)<=i/\(i:Int)<l.length) (.N (l.getD (i:Int).toNat (0:Int)=0) (.R [.i (l.getD (i:Int).toNat (0:Int))] []) (.S (i+1) (.leaf (.back 0 [(3,.i 0),(6,.sl l.length 1 λ(j x:Nat)=>.i (l.getD j (0:Int))),(7,.i l.length),(8,.i (i+1))] []))))) (.R [.i 0] [])) ?_;simp only [Tree.holds,ze,inR,lo,hi,aD];refine⟨λhlt=> ?_,λhge=> ?_⟩
  ·have hlt:i<l.length:=by have:=aB hlt; omega
   have hd:l.drop i=l.getD i 0::l.drop (i+1):=by
    rw [List.drop_eq_getElem_cons hlt]; simp [List.getD,hlt]
   rw [hd] at hio;refine⟨by omega,λ_=>⟨λh=> ?_,λh=>⟨by omega,λ_=> ?_⟩⟩⟩
   ·have h:l.getD i 0≠0:=by simpa using h
    have:orI l=l.getD i 0:=by rw [<- hio]; simp only [orI]; rw [aO h]
    rw [this] at hq; exact RetR.scal hq rfl (by simp [resV])
   ·have h:l.getD i 0=0:=by simpa using h
    rw [aP trivial];refine⟨⟨i+1,hlt,?_⟩,by show l.length - (i+1)<l.length - i; omega,by simp [SOr,za],by simp,by kernel_rfl,aI _⟩;rw [<- hio]; simp only [orI]; rw [aP h]
  ·have hge:i=l.length:=by have:=aC hge; omega
   subst hge;rw [List.drop_length] at hio;rw [<- hio] at hq; exact RetR.scal hq rfl (by simp [resV,orI])
def WJ:Ctr:=ctrP true (λp:Fx×Fx=>[p.1.av,p.2.av]) (λ_=>True) (λp r=>r=cmpF p.1 p.2) (λ_ (r:Int)=>(.i r,[]))
def Vj:Ctr:=ctrP true (λp:Ch×Ch=>[p.1.av,p.2.av]) (λ_=>True) (λp r=>r=cmpC p.1 p.2) (λ_ (r:Int)=>(.i r,[]))
noncomputable def GN3:=tb zqq (tb zqm (tb zv5 tz))
theorem zgb(x y:Int):eqG 2 1 (zg (zh 1 [.i x,.i y]) 0) (λj _=>.i ([x,y].getD j 0)):=by
 intro j o hj ho;have ho:o=0:=by omega
 subst ho;rcases j with _ | _ | j
 ·rfl
 ·rfl
 ·omega
theorem zhq(x y z:Int):eqG 3 1 (zg (zh 1 [.i x,.i y,.i z]) 0) (λj _=>.i ([x,y,z].getD j 0)):=by
 intro j o hj ho;have ho:o=0:=by omega
 subst ho;rcases j with _ | _ | _ | j
 ·rfl
 ·rfl
 ·rfl
 ·omega
abbrev q41(A:List AV)(x:Int×Int):Prop:=eqL A [.i x.1,.i x.2]/\True
abbrev q40(A:List AV)(x:L8×L8):Prop:=eqL A [.str x.1,.str x.2]/\True
theorem Wp:zc prog 61 WJ:=by
 refine zf' f61 λp hs O w0 Q hq=> ?_
 obtain⟨⟨a,d,v⟩,⟨b,e,u⟩⟩:=p;replace hq:=hq _ rfl;simp only at hq;refine zb.n GN3.h [] (.ex (q40 [.str a,.str b]) λn=>.all (λ(r:Int)=>r=cmpS n.1 n.2) λn=>.ex (q41 [.i d,.i e]) λn_1=>.all (λ(r:Int)=>r=cmpI n_1.1 n_1.2) λn_2=>.ex (λ(x:List Int)=>eqL [.sl 2 1 (zg (zh 1 [.i n,.i n_2]) 0)] [.sl x.length 1 λ(j x_1:Nat)=>AV.i (x.getD j (0:Int))]/\x.length<1099511627776) λn_3=>.all (λ(r:Int)=>r=orI n_3) λn_4=>.R [.i n_4] [.box [.str a,.i d,.str v],.box [.str b,.i e,.str u],.arr 2 1 (zh 1 [.i n,.i n_2])]) ?_;simp only [q40,q41,Tree.holds,ze];refine⟨(a,b),⟨by simp,trivial⟩,⟨_,rfl⟩,?_⟩;rintro _ rfl;refine⟨(d,e),⟨by simp,trivial⟩,⟨_,rfl⟩,?_⟩;rintro _ rfl;refine⟨[cmpS a b,cmpI d e],⟨⟨⟨rfl,rfl,zgb _ _⟩,trivial⟩,by simp⟩,⟨_,rfl⟩,?_⟩;rintro _ rfl
 have:orI [cmpS a b,cmpI d e]=cmpF ⟨a,d,v⟩ ⟨b,e,u⟩:=by
  simp only [orI,cmpF];by_cases h:cmpS a b=0
  ·simp only [h,if_true]; split<;>simp_all
  ·simp only [aO h]
 rw [this];exact RetR.scal hq rfl (by simp [resV])
theorem Vf:zc prog 63 Vj:=by
 refine zf' f63 λp hs O w0 Q hq=> ?_
 obtain⟨⟨a,d,v,f⟩,⟨b,e,u,g⟩⟩:=p;replace hq:=hq _ rfl;simp only at hq;refine zb.n GN3.h [] (.ex (q40 [.str a,.str b]) λn=>.all (λ(r:Int)=>r=cmpS n.1 n.2) λn=>.ex (q40 [.str d,.str e]) λn_1=>.all (λ(r:Int)=>r=cmpS n_1.1 n_1.2) λn_2=>.ex (q41 [.i v,.i u]) λn_3=>.all (λ(r:Int)=>r=cmpI n_3.1 n_3.2) λn_4=>.ex (λ(x:List Int)=>eqL [.sl 3 1 (zg (zh 1 [.i n,.i n_2,.i n_4]) 0)] [.sl x.length 1 λ(j x_1:Nat)=>AV.i (x.getD j (0:Int))]/\x.length<1099511627776) λn_5=>.all (λ(r:Int)=>r=orI n_5) λn_6=>.R [.i n_6] [.box [.str a,.str d,.i v,.bool f],.box [.str b,.str e,.i u,.bool g],.arr 3 1 (zh 1 [.i n,.i n_2,.i n_4])]) ?_;simp only [q40,q41,Tree.holds,ze];refine⟨(a,b),⟨by simp,trivial⟩,⟨_,rfl⟩,?_⟩;rintro _ rfl;refine⟨(d,e),⟨by simp,trivial⟩,⟨_,rfl⟩,?_⟩;rintro _ rfl;refine⟨(v,u),⟨by simp,trivial⟩,⟨_,rfl⟩,?_⟩;rintro _ rfl;refine⟨[cmpS a b,cmpS d e,cmpI v u],⟨⟨⟨rfl,rfl,zhq _ _ _⟩,trivial⟩,by simp⟩,⟨_,rfl⟩,?_⟩;rintro _ rfl
 have:orI [cmpS a b,cmpS d e,cmpI v u]=cmpC ⟨a,d,v,f⟩ ⟨b,e,u,g⟩:=by
  simp only [orI,cmpC];by_cases h:cmpS a b=0
  ·simp only [h,if_true];by_cases h2:cmpS d e=0
   ·simp only [h2,if_true]; split<;>simp_all
   ·simp only [aO h2]
  ·simp only [aO h]
 rw [this];exact RetR.scal hq rfl (by simp [resV])
noncomputable def K98:=Go.Sx.aA f98
noncomputable def K99:=Go.Sx.aA f99
noncomputable def K60:=Go.Sx.aA f60
noncomputable def K62:=Go.Sx.aA f62
def ya(f:Fx):Prop:=f.name.length<2^40/\f.value.length<2^40
def yx(c:Ch):Prop:=c.zL.length<2^40/\c.name.length<2^40
def zrv:Ctr:=ctrP true (λf:Fx=>[f.av]) ya (λf r=>r = !okF f) (λ_ (r:Bool)=>(.bool r,[]))
def zse:Ctr:=ctrP true (λc:Ch=>[c.av]) yx (λc r=>r = !okC c) (λ_ (r:Bool)=>(.bool r,[]))
noncomputable def GE1:=tb Jd (tb Qj (tb yV tz))
theorem zqh:zc prog 55 zrv:=by
 refine zf' f55 λf hs O w0 Q hq=> ?_
 obtain⟨a,d,v⟩:=f;obtain⟨h1,h2⟩:=hs;replace hq:=hq _ rfl;simp only [okF] at hq h1 h2;refine zb.n GE1.h [] (.ex (q15 [.str a]) λn=>.all (λ(r:Bool)=>r=qe n) λn=>.ex (λ(x:Int)=>(!n)=false->eqL [.i d] [.i x]/\True) λn_1=>.all (λ(x:Bool)=>(!n)=false->x=dayB n_1) λn_2=>.ex (λ(x:L8)=>(bif !n then true else !n_2)=false->eqL [.str v] [.str x]/\x.length<4611686018427387904) λn_3=>.all (λ(x:Int)=>(bif !n then true else !n_2)=false->x=errR n_3) λn_4=>.R [.bool (bif bif !n then true else !n_2 then true else !decide (n_4=0))] [.box [.str a,.i d,.str v]]) ?_;simp only [q15,Tree.holds,ze];refine⟨a,⟨by simp,by omega⟩,⟨_,rfl⟩,?_⟩;rintro _ rfl;refine⟨d,λ_=>⟨by simp,trivial⟩,⟨_,λ_=>rfl⟩,?_⟩;intro x hx;refine⟨v,λ_=>⟨by simp,by omega⟩,⟨_,λ_=>rfl⟩,?_⟩;intro y hy;refine RetR.scal hq rfl ?_;simp only [resV];cases hn:qe a with
 | false=>rfl
 | true=>
  rw [hx (by rw [hn]; rfl)] at hy ⊢;cases hd:dayB d with
  | false=>rfl
  | true=>rw [hy (by rw [hn,hd]; rfl)]; rfl
theorem zrh:zc prog 57 zse:=by
 refine zf' f57 λf hs O w0 Q hq=> ?_
 obtain⟨a,v,d,f⟩:=f;obtain⟨h1,h2⟩:=hs;replace hq:=hq _ rfl;simp only [okC] at hq h1 h2;refine zb.n GE1.h [] (.ex (q15 [.str a]) λn=>.all (λ(r:Bool)=>r=qe n) λn=>.ex (λ(x:L8)=>(!n)=false->eqL [.str v] [.str x]/\x.length<4611686018427387904) λn_1=>.all (λ(x:Bool)=>(!n)=false->x=qe n_1) λn_2=>.ex (λ(x:Int)=>(bif !n then true else !n_2)=false->eqL [.i d] [.i x]/\True) λn_3=>.all (λ(x:Bool)=>(bif !n then true else !n_2)=false->x=dayB n_3) λn_4=>.R [.bool (bif bif !n then true else !n_2 then true else !n_4)] [.box [.str a,.str v,.i d,.bool f]]) ?_;simp only [q15,Tree.holds,ze];refine⟨a,⟨by simp,by omega⟩,⟨_,rfl⟩,?_⟩;rintro _ rfl;refine⟨v,λ_=>⟨by simp,by omega⟩,⟨_,λ_=>rfl⟩,?_⟩;intro x hx;refine⟨d,λ_=>⟨by simp,trivial⟩,⟨_,λ_=>rfl⟩,?_⟩;intro y hy;refine RetR.scal hq rfl ?_;simp only [resV];cases hn:qe a with
 | false=>rfl
 | true=>
  rw [hx (by rw [hn]; rfl)] at hy ⊢;cases hd:qe v with
  | false=>rfl
  | true=>rw [hy (by rw [hn,hd]; rfl)]; rfl
def zry:Ctr:=ctrP true (λl:List Fx=>[fxS l,.fn 55 [] []]) (λl=>l.length<2^40/\∀ j,j<l.length->ya (l.getD j Fx.nil)) (λl r=>r=idxB (λx=> !okF x) l) (λ_ (r:Int)=>(.i r,[]))
def SIxF(l:List Fx)(i:Nat):KV:=[(0,fxS l),(1,.fn 55 [] []),(7,.i (l.length:Int)),(8,.i (i:Int))]
noncomputable def GE2F:=tb zqh tz
theorem zor:zc prog 98 zry:=by
 refine zf' f98 λl hl O w0 Q hq=> ?_
 obtain⟨hl,hsm⟩:=hl;replace hq:=hq _ rfl;refine zb.n GE2F.h [0,1,7,8] (.leaf (.loop (lps K98 0).1 (lps K98 0).2 [(0,.sl l.length 3 (fxG l)),(1,.fn 55 [] []),(7,.i l.length),(8,.i 0)] [])) ?_;simp only [Tree.holds,ze];refine zb.loop (ι:={i:Nat // i<=l.length/\∀ j,j<i->(!okF (l.getD j Fx.nil))=false}) (λi=>SIxF l i.1) (λ_=>[]) (λi=>l.length - i.1) ⟨0,aI _,λj hj=>by omega⟩ 0 ?_ ?_ (by kernel_rfl)
 ·exact⟨by simp [SIxF,fxS,za],by simp,by kernel_rfl,aI _⟩
 ·rintro⟨i,hil,hib⟩;refine zb.n GE2F.h [0,1,7,8] (let v1:=l.getD (i:Int).toNat Fx.nil;.D ((i:Int)<l.length) (.side ((0:Int)<=i/\(i:Int)<l.length) (.ex (λ(x:Fx)=>eqL [.agg [.str v1.name,.i v1.date,.str v1.value]] [.agg [.str x.name,.i x.date,.str x.value]]/\ya x) λn=>.all (λ(r:Bool)=>r = !okF n) λn=>.ite n (.R [.i i] []) (.S (i+1) (.leaf (.back 0 [(0,.sl l.length 3 (fxG l)),(1,.fn 55 [] []),(7,.i l.length),(8,.i (i+1))] []))))) (.R [.i (-1:Int)] [])) ?_;simp only [Tree.holds,ze,inR,lo,hi,aD];refine⟨λhlt=> ?_,λhge=> ?_⟩
  ·have hlt:i<l.length:=by have:=aB hlt; omega
   refine⟨by omega,λ_=>⟨l.getD i Fx.nil,⟨by simp,hsm i hlt⟩,⟨_,rfl⟩,?_⟩⟩;rintro _ rfl;refine⟨λh=> ?_,λh=>⟨by omega,λ_=> ?_⟩⟩
   ·rw [Jr hlt h hib] at hq;exact RetR.scal hq rfl (by simp [resV])
   ·rw [aP trivial];refine⟨⟨i+1,hlt,λj hj=> ?_⟩,by show l.length - (i+1)<l.length - i; omega,by simp [SIxF,fxS,za],by simp,by kernel_rfl,aI _⟩;rcases aR j i with h1 | h1
    ·exact hib j h1
    ·have:j=i:=by omega
     rw [this]; exact h
  ·have hge:i=l.length:=by have:=aC hge; omega
   subst hge;rw [yQ hib] at hq;exact RetR.scal hq rfl (by simp [resV])
def zs8:Ctr:=ctrP true (λl:List Fx=>[fxS l,.fn 55 [] []]) (λl=>l.length<2^40/\∀ j,j<l.length->ya (l.getD j Fx.nil)) (λl r=>r=l.any λx=> !okF x) (λ_ (r:Bool)=>(.bool r,[]))
noncomputable def GE3F:=tb zor tz
theorem zqs:zc prog 58 zs8:=by
 refine zf' f58 λl hl O w0 Q hq=> ?_
 replace hq:=hq _ rfl;refine zb.n GE3F.h [] (.ex (λ(x:List Fx)=>eqL [.sl l.length 3 (fxG l),.fn 55 [] []] [.sl x.length 3 (fxG x),.fn 55 [] []]/\x.length<1099511627776/\∀ (j:Nat),j<x.length->ya (x.getD j Fx.nil)) λn=>.all (λ(r:Int)=>r=idxB (λ(x:Fx)=> !okF x) n) λn=>.R [.bool (decide ((0:Int)<=n))] []) ?_;simp only [Tree.holds,ze];refine⟨l,⟨by simp [za],hl⟩,⟨_,rfl⟩,?_⟩;rintro _ rfl;rw [<- Uq] at hq;exact RetR.scal hq rfl (by simp [resV])
def zsa:Ctr:=ctrP true (λl:List Ch=>[chS l,.fn 57 [] []]) (λl=>l.length<2^40/\∀ j,j<l.length->yx (l.getD j Ch.nil)) (λl r=>r=idxB (λx=> !okC x) l) (λ_ (r:Int)=>(.i r,[]))
def SIxC(l:List Ch)(i:Nat):KV:=[(0,chS l),(1,.fn 57 [] []),(7,.i (l.length:Int)),(8,.i (i:Int))]
noncomputable def GE2C:=tb zrh tz
theorem zqi:zc prog 99 zsa:=by
 refine zf' f99 λl hl O w0 Q hq=> ?_
 obtain⟨hl,hsm⟩:=hl;replace hq:=hq _ rfl;refine zb.n GE2C.h [0,1,7,8] (.leaf (.loop (lps K99 0).1 (lps K99 0).2 [(0,.sl l.length 4 (chG l)),(1,.fn 57 [] []),(7,.i l.length),(8,.i 0)] [])) ?_;simp only [Tree.holds,ze];refine zb.loop (ι:={i:Nat // i<=l.length/\∀ j,j<i->(!okC (l.getD j Ch.nil))=false}) (λi=>SIxC l i.1) (λ_=>[]) (λi=>l.length - i.1) ⟨0,aI _,λj hj=>by omega⟩ 0 ?_ ?_ (by kernel_rfl)
 ·exact⟨by simp [SIxC,chS,za],by simp,by kernel_rfl,aI _⟩
 ·rintro⟨i,hil,hib⟩;refine zb.n GE2C.h [0,1,7,8] (let v1:=l.getD (i:Int).toNat Ch.nil;.D ((i:Int)<l.length) (.side ((0:Int)<=i/\(i:Int)<l.length) (.ex (λ(x:Ch)=>eqL [.agg [.str v1.zL,.str v1.name,.i v1.date,.bool v1.first]] [.agg [.str x.zL,.str x.name,.i x.date,.bool x.first]]/\yx x) λn=>.all (λ(r:Bool)=>r = !okC n) λn=>.ite n (.R [.i i] []) (.S (i+1) (.leaf (.back 0 [(0,.sl l.length 4 (chG l)),(1,.fn 57 [] []),(7,.i l.length),(8,.i (i+1))] []))))) (.R [.i (-1:Int)] [])) ?_;simp only [Tree.holds,ze,inR,lo,hi,aD];refine⟨λhlt=> ?_,λhge=> ?_⟩
  ·have hlt:i<l.length:=by have:=aB hlt; omega
   refine⟨by omega,λ_=>⟨l.getD i Ch.nil,⟨by simp,hsm i hlt⟩,⟨_,rfl⟩,?_⟩⟩;rintro _ rfl;refine⟨λh=> ?_,λh=>⟨by omega,λ_=> ?_⟩⟩
   ·rw [Jr hlt h hib] at hq;exact RetR.scal hq rfl (by simp [resV])
   ·rw [aP trivial];refine⟨⟨i+1,hlt,λj hj=> ?_⟩,by show l.length - (i+1)<l.length - i; omega,by simp [SIxC,chS,za],by simp,by kernel_rfl,aI _⟩;rcases aR j i with h1 | h1
    ·exact hib j h1
    ·have:j=i:=by omega
     rw [this]; exact h
  ·have hge:i=l.length:=by have:=aC hge; omega
   subst hge;rw [yQ hib] at hq;exact RetR.scal hq rfl (by simp [resV])
def zsb:Ctr:=ctrP true (λl:List Ch=>[chS l,.fn 57 [] []]) (λl=>l.length<2^40/\∀ j,j<l.length->yx (l.getD j Ch.nil)) (λl r=>r=l.any λx=> !okC x) (λ_ (r:Bool)=>(.bool r,[]))
noncomputable def GE3C:=tb zqi tz
theorem zrn:zc prog 59 zsb:=by
 refine zf' f59 λl hl O w0 Q hq=> ?_
 replace hq:=hq _ rfl;refine zb.n GE3C.h [] (.ex (λ(x:List Ch)=>eqL [.sl l.length 4 (chG l),.fn 57 [] []] [.sl x.length 4 (chG x),.fn 57 [] []]/\x.length<1099511627776/\∀ (j:Nat),j<x.length->yx (x.getD j Ch.nil)) λn=>.all (λ(r:Int)=>r=idxB (λ(x:Ch)=> !okC x) n) λn=>.R [.bool (decide ((0:Int)<=n))] []) ?_;simp only [Tree.holds,ze];refine⟨l,⟨by simp [za],hl⟩,⟨_,rfl⟩,?_⟩;rintro _ rfl;rw [<- Uq] at hq;exact RetR.scal hq rfl (by simp [resV])
def zsc:Ctr:=ctrP true (λl:List Fx=>[fxS l,.fn 61 [] []]) (λl=>l.length<2^40) (λl r=>r=ordB cmpF Fx.nil l) (λ_ (r:Bool)=>(.bool r,[]))
def SOdF(l:List Fx)(i:Nat):KV:=[(0,fxS l),(1,.fn 61 [] []),(5,.i (i:Int))]
noncomputable def GE4F:=tb Wp tz
abbrev q42(A:List AV)(x:Fx×Fx):Prop:=eqL A [.agg [.str x.1.name,.i x.1.date,.str x.1.value],.agg [.str x.2.name,.i x.2.date,.str x.2.value]]/\True
theorem zp6:zc prog 60 zsc:=by
 refine zf' f60 λl hl O w0 Q hq=> ?_
 replace hq:=hq _ rfl;refine zb.n GE4F.h [0,1,5] (.leaf (.loop (lps K60 0).1 (lps K60 0).2 [(0,.sl l.length 3 (fxG l)),(1,.fn 61 [] []),(5,.i 1)] [])) ?_;simp only [Tree.holds,ze];refine zb.loop (ι:={i:Nat // 0<i/\(i<=l.length\/i=1)/\∀ j,j+1<i->cmpF (l.getD j Fx.nil) (l.getD (j+1) Fx.nil)<0}) (λi=>SOdF l i.1) (λ_=>[]) (λi=>l.length - i.1) ⟨1,Nat.one_pos,.inr rfl,λj hj=>by omega⟩ 0 ?_ ?_ (by kernel_rfl)
 ·exact⟨by simp [SOdF,fxS,za],by simp,by kernel_rfl,aI _⟩
 ·rintro⟨i,hi0,hil,hib⟩;refine zb.n GE4F.h [0,1,5] (let v2:=l.getD (i:Int).toNat Fx.nil;let v1:=l.getD (Int.toNat (i-1)) Fx.nil;.D ((i:Int)<l.length) (.S (i-1) (.side ((0:Int)<=i - (1:Int)/\(i:Int) - (1:Int)<l.length) (.side ((0:Int)<=i/\(i:Int)<l.length) (.ex (q42 [.agg [.str v1.name,.i v1.date,.str v1.value],.agg [.str v2.name,.i v2.date,.str v2.value]]) λn=>.all (λ(r:Int)=>r=cmpF n.1 n.2) λn=>.D ((0:Int)<=n) (.R [.bool false] []) (.S (i+1) (.leaf (.back 0 [(0,.sl l.length 3 (fxG l)),(1,.fn 61 [] []),(5,.i (i+1))] []))))))) (.R [.bool true] [])) ?_;simp only [q42,Tree.holds,ze,inR,lo,hi,aD];have e:((i:Int) - 1).toNat=i - 1:=by omega
  have e2:i - 1+1=i:=by omega
  refine⟨λhlt=> ?_,λhge=> ?_⟩
  ·have hlt:i<l.length:=by have:=aB hlt; omega
   simp only [e];refine⟨by omega,λ_=>⟨by omega,λ_=>⟨by omega,λ_=>⟨(l.getD (i - 1) Fx.nil,l.getD i Fx.nil),⟨by simp,trivial⟩,⟨_,rfl⟩,?_⟩⟩⟩⟩;rintro _ rfl;refine⟨λh=> ?_,λh=>⟨by omega,λ_=> ?_⟩⟩
   ·have h:=aB h;rw [Jv (z:=Fx.nil) (j:=i - 1) (by omega) (by rw [e2]; simp only at h; omega)] at hq;exact RetR.scal hq rfl (by simp [resV])
   ·have h:=aC h;rw [aP trivial];refine⟨⟨i+1,by omega,.inl hlt,λj hj=> ?_⟩,by show l.length - (i+1)<l.length - i; omega,by simp [SOdF,fxS,za],by simp,by kernel_rfl,aI _⟩;rcases aR (j+1) i with h1 | h1
    ·exact hib j h1
    ·have:j=i - 1:=by omega
     rw [this,e2]; simp only at h; omega
  ·have hge:l.length<=i:=by have:=aC hge; omega
   rw [Zk (z:=Fx.nil) λj hj=>hib j (by omega)] at hq;exact RetR.scal hq rfl (by simp [resV])
def zs1:Ctr:=ctrP true (λl:List Ch=>[chS l,.fn 63 [] []]) (λl=>l.length<2^40) (λl r=>r=ordB cmpC Ch.nil l) (λ_ (r:Bool)=>(.bool r,[]))
def SOdC(l:List Ch)(i:Nat):KV:=[(0,chS l),(1,.fn 63 [] []),(5,.i (i:Int))]
noncomputable def GE4C:=tb Vf tz
abbrev q43(A:List AV)(x:Ch×Ch):Prop:=eqL A [.agg [.str x.1.zL,.str x.1.name,.i x.1.date,.bool x.1.first],.agg [.str x.2.zL,.str x.2.name,.i x.2.date,.bool x.2.first]]/\True
theorem zpj:zc prog 62 zs1:=by
 refine zf' f62 λl hl O w0 Q hq=> ?_
 replace hq:=hq _ rfl;refine zb.n GE4C.h [0,1,5] (.leaf (.loop (lps K62 0).1 (lps K62 0).2 [(0,.sl l.length 4 (chG l)),(1,.fn 63 [] []),(5,.i 1)] [])) ?_;simp only [Tree.holds,ze];refine zb.loop (ι:={i:Nat // 0<i/\(i<=l.length\/i=1)/\∀ j,j+1<i->cmpC (l.getD j Ch.nil) (l.getD (j+1) Ch.nil)<0}) (λi=>SOdC l i.1) (λ_=>[]) (λi=>l.length - i.1) ⟨1,Nat.one_pos,.inr rfl,λj hj=>by omega⟩ 0 ?_ ?_ (by kernel_rfl)
 ·exact⟨by simp [SOdC,chS,za],by simp,by kernel_rfl,aI _⟩
 ·rintro⟨i,hi0,hil,hib⟩;refine zb.n GE4C.h [0,1,5] (let v2:=l.getD (i:Int).toNat Ch.nil;let v1:=l.getD (Int.toNat (i-1)) Ch.nil;.D ((i:Int)<l.length) (.S (i-1) (.side ((0:Int)<=i - (1:Int)/\(i:Int) - (1:Int)<l.length) (.side ((0:Int)<=i/\(i:Int)<l.length) (.ex (q43 [.agg [.str v1.zL,.str v1.name,.i v1.date,.bool v1.first],.agg [.str v2.zL,.str v2.name,.i v2.date,.bool v2.first]]) λn=>.all (λ(r:Int)=>r=cmpC n.1 n.2) λn=>.D ((0:Int)<=n) (.R [.bool false] []) (.S (i+1) (.leaf (.back 0 [(0,.sl l.length 4 (chG l)),(1,.fn 63 [] []),(5,.i (i+1))] []))))))) (.R [.bool true] [])) ?_;simp only [q43,Tree.holds,ze,inR,lo,hi,aD];have e:((i:Int) - 1).toNat=i - 1:=by omega
  have e2:i - 1+1=i:=by omega
  refine⟨λhlt=> ?_,λhge=> ?_⟩
  ·have hlt:i<l.length:=by have:=aB hlt; omega
   simp only [e];refine⟨by omega,λ_=>⟨by omega,λ_=>⟨by omega,λ_=>⟨(l.getD (i - 1) Ch.nil,l.getD i Ch.nil),⟨by simp,trivial⟩,⟨_,rfl⟩,?_⟩⟩⟩⟩;rintro _ rfl;refine⟨λh=> ?_,λh=>⟨by omega,λ_=> ?_⟩⟩
   ·have h:=aB h;rw [Jv (z:=Ch.nil) (j:=i - 1) (by omega) (by rw [e2]; simp only at h; omega)] at hq;exact RetR.scal hq rfl (by simp [resV])
   ·have h:=aC h;rw [aP trivial];refine⟨⟨i+1,by omega,.inl hlt,λj hj=> ?_⟩,by show l.length - (i+1)<l.length - i; omega,by simp [SOdC,chS,za],by simp,by kernel_rfl,aI _⟩;rcases aR (j+1) i with h1 | h1
    ·exact hib j h1
    ·have:j=i - 1:=by omega
     rw [this,e2]; simp only at h; omega
  ·have hge:l.length<=i:=by have:=aC hge; omega
   rw [Zk (z:=Ch.nil) λj hj=>hib j (by omega)] at hq;exact RetR.scal hq rfl (by simp [resV])
def envP(p:List Fx×List Ch):Prop:=p.1.length<2^40/\p.2.length<2^40/\(∀ j,j<p.1.length->ya (p.1.getD j Fx.nil))/\∀ j,j<p.2.length->yx (p.2.getD j Ch.nil)
def Jb:Ctr:=ctrP true (λp:List Fx×List Ch=>[envA p.1 p.2]) envP (λp r=>r=errE p.1 p.2) (λ_ (r:Int)=>(.i r,[]))
noncomputable def GE5:=tb zqs (tb zrn (tb zp6 (tb zpj tz)))
theorem ZZ:zc prog 31 Jb:=by
 refine zf' f31 λp hp O w0 Q hq=> ?_
 obtain⟨f,c⟩:=p;obtain⟨h1,h2,h3,h4⟩:=hp;replace hq:=hq _ rfl;simp only at hq h1 h2 h3 h4;refine zb.n GE5.h [] (let v1:List Blk:=[.box [.sl f.length 3 (fxG f),.sl c.length 4 (chG c)]];.ite (bif decide ((1000:Int)<f.length) then true else decide ((1000:Int)<c.length)) (.R [.i 4] v1) (.ex (λ(x:List Fx)=>eqL [.sl f.length 3 (fxG f),.fn 55 [] []] [.sl x.length 3 (fxG x),.fn 55 [] []]/\x.length<1099511627776/\∀ (j:Nat),j<x.length->ya (x.getD j Fx.nil)) λn=>.all (λ(r:Bool)=>r=List.any n λ(x:Fx)=> !okF x) λn=>.ex (λ(x:List Ch)=>n=false->eqL [.sl c.length 4 (chG c),.fn 57 [] []] [.sl x.length 4 (chG x),.fn 57 [] []]/\x.length<1099511627776/\∀ (j:Nat),j<x.length->yx (x.getD j Ch.nil)) λn_1=>.all (λ(x:Bool)=>n=false->x=List.any n_1 λ(x:Ch)=> !okC x) λn_2=>.ex (λ(x:List Fx)=>(bif n then true else n_2)=false->eqL [.sl f.length 3 (fxG f),.fn 61 [] []] [.sl x.length 3 (fxG x),.fn 61 [] []]/\x.length<1099511627776) λn_3=>.all (λ(x:Bool)=>(bif n then true else n_2)=false->x=ordB cmpF Fx.nil n_3) λn_4=>.ex (λ(x:List Ch)=>(bif bif n then true else n_2 then true else !n_4)=false->eqL [.sl c.length 4 (chG c),.fn 63 [] []] [.sl x.length 4 (chG x),.fn 63 [] []]/\x.length<1099511627776) λn_5=>.all (λ(x:Bool)=>(bif bif n then true else n_2 then true else !n_4)=false->x=ordB cmpC Ch.nil n_5) λn_6=>.ite (bif bif bif n then true else n_2 then true else !n_4 then true else !n_6) (.R [.i 8] v1) (.R [.i 0] v1))) ?_;simp only [Tree.holds,ze];refine⟨λh=> ?_,λh=> ?_⟩
 ·have h:1000<f.length\/1000<c.length:=by
   rw [Bool.cond_eq_ite] at h;split at h
   ·rename_i h1; left; have:=aB h1; omega
   ·right; have:=aB h; omega
  have:errE f c=4:=aP h;rw [this] at hq; exact RetR.scal hq rfl (by simp [resV])
 ·have h:¬ (1000<f.length\/1000<c.length):=by
   rw [Bool.cond_eq_ite] at h;split at h
   ·cases h
   ·rename_i h1;have h2:=aC h;rintro(h3 | h3)
    ·exact h1 (aX (by omega))
    ·omega
  have he:errE f c=if(f.all okF&&c.all okC&&ordB cmpF Fx.nil f&&ordB cmpC Ch.nil c)=true then 0 else 8:=aO h
  have a1:(f.any λx=> !okF x) = !f.all okF:=by rw [List.not_all_eq_any_not]
  have a2:(c.any λx=> !okC x) = !c.all okC:=by rw [List.not_all_eq_any_not]
  refine⟨f,⟨by simp [za],h1,h3⟩,⟨_,rfl⟩,?_⟩;rintro _ rfl;refine⟨c,λ_=>⟨by simp [za],h2,h4⟩,⟨_,λ_=>rfl⟩,?_⟩;intro b1 g1;refine⟨f,λ_=>⟨by simp [za],h1⟩,⟨_,λ_=>rfl⟩,?_⟩;intro b2 g2;refine⟨c,λ_=>⟨by simp [za],h2⟩,⟨_,λ_=>rfl⟩,?_⟩;intro b3 g3;rw [a1] at g1 g2 g3 ⊢;rw [a2] at g1;clear a1 a2;generalize f.all okF=p1 at *
  generalize c.all okC=p2 at *
  generalize ordB cmpF Fx.nil f=p3 at *
  generalize ordB cmpC Ch.nil c=p4 at *
  have key:(bif bif bif !p1 then true else b1 then true else !b2 then true else !b3) = !(p1&&p2&&p3&&p4):=by
   cases p1 with
   | false=>rfl
   | true=>
    have g1:=g1 rfl;subst g1;cases p2 with
    | false=>rfl
    | true=>
     have g2:=g2 rfl;subst g2;cases b2 with
     | false=>rfl
     | true=>have g3:=g3 rfl; subst g3; rfl
  rw [key];clear key g1 g2 g3;generalize (p1&&p2&&p3&&p4)=q at *
  refine⟨λh=> ?_,λh=> ?_⟩
  ·cases q with
   | true=>cases h
   | false=>rw [he,aO (by decide)] at hq; exact RetR.scal hq rfl (by simp [resV])
  ·cases q with
   | false=>cases h
   | true=>rw [he,aP rfl] at hq; exact RetR.scal hq rfl (by simp [resV])
noncomputable def K21:=Go.Sx.aA f21
def SSE(i:Nat):KV:=[(2,.ptr 0 0),(3,.ptr 1 0),(5,.i (i:Int)),Z 6]
def SSE2(i:Nat):KV:=[(2,.ptr 0 0),(3,.ptr 1 0),Z 5,(6,.i (i:Int))]
def HSE(f f2:List Fx)(c c2:List Ch):Heap:=[.box [fxS f,chS c],.box [fxS f2,chS c2]]
def zbi:Ctr:=ctrP true (λp:(List Fx×List Ch)×(List Fx×List Ch)=>[envA p.1.1 p.1.2,envA p.2.1 p.2.2]) (λp=>p.1.1.length<2^40/\p.1.2.length<2^40) (λp r=>(r=true↔p.1=p.2)) (λ_ (r:Bool)=>(.bool r,[]))
theorem Uu{O:Nat->Prop}{w0:World}{Q:AV×Heap->Prop}{Hs:Nat->KV->Heap->Prop}(f f2:List Fx)(c c2:List Ch)(h2:c.length<2^40)(hf:f=f2)(hl:c.length=c2.length)(hq:∀ (r:Bool),(r=true↔(f,c)=(f2,c2))->Q (.bool r,[]))(kv:KV)(h:Heap)(hle:LeK 0 f21.ntmps kv h (SSE2 0) (HSE f f2 c c2)) :
  zb prog f21 O 0 w0 [] Hs (RetR zbi 0 Q) (.code (.loop (lps (inside K21 0) 0).1)::(lps (inside K21 0) 0).2) (mk f21.ntmps kv h):=by
 refine zb.loop (ι:={i:Nat // i<=c.length/\∀ j,j<i->c.getD j Ch.nil=c2.getD j Ch.nil}) (λi=>SSE2 i.1) (λ_=>HSE f f2 c c2) (λi=>c.length - i.1) ⟨0,aI _,λj hj=>by omega⟩ 0 hle ?_ (by kernel_rfl);rintro⟨i,hil,hib⟩;refine zb.n zD [2,3,5,6] (let v3:=c.getD (i:Int).toNat Ch.nil;let v2:=c2.getD (i:Int).toNat Ch.nil;let v1:List Blk:=[.box [.sl f.length 3 (fxG f),.sl c.length 4 (chG c)],.box [.sl f2.length 3 (fxG f2),.sl c2.length 4 (chG c2)]];.D ((i:Int)<c.length) (.side ((0:Int)<=i/\(i:Int)<c.length) (.side ((0:Int)<=i/\(i:Int)<c2.length) (.ite (!(decide (Ch.zL v3=Ch.zL v2)&&(decide (Ch.name v3=Ch.name v2)&&(decide (Ch.date v3=Ch.date v2)&&(Ch.first v3 == Ch.first v2 &&true))))) (.R [.bool false] v1) (.S (i+1) (.leaf (.back 0 [(2,.ptr 0 0),(3,.ptr 1 0),Z 5,(6,.i (i+1))] v1)))))) (.R [.bool true] v1)) ?_;simp only [Tree.holds,ze,inR,lo,hi,aD];refine⟨λhlt=> ?_,λhge=> ?_⟩
 ·have hlt:i<c.length:=by have:=aB hlt; omega
  refine⟨by omega,λ_=>⟨by omega,λ_=>⟨λh=> ?_,λh=>⟨by omega,λ_=> ?_⟩⟩⟩⟩
  ·refine RetR.scal (hq false ⟨λh=>(by cases h),λhe=> ?_⟩) rfl (by simp [resV]);have hc:c=c2:=(Prod.mk.inj he).2;have:=Ch.eq_iff.2 (show c.getD i Ch.nil=c2.getD i Ch.nil by rw [hc]);rw [this] at h; cases h
  ·rw [aP trivial];have he:=Ch.eq_iff.1 (by simpa only [Bool.not_eq_false'] using h);refine⟨⟨i+1,hlt,λj hj=> ?_⟩,by show c.length - (i+1)<c.length - i; omega,by simp [SSE2],by simp [HSE,fxS,chS,za],by kernel_rfl,aI _⟩;rcases aR j i with h1 | h1
   ·exact hib j h1
   ·have:j=i:=by omega
    rw [this]; exact he
 ·have hge:i=c.length:=by have:=aC hge; omega
  subst hge;have hc:=Y0 hl hib;exact RetR.scal (hq true ⟨λ_=>by rw [hf,hc],λ_=>rfl⟩) rfl (by simp [resV])
theorem zo4:zc prog 21 zbi:=by
 refine zf' f21 λp hp O w0 Q hq=> ?_
 obtain⟨⟨f,c⟩,⟨f2,c2⟩⟩:=p;obtain⟨h1,h2⟩:=hp;simp only at hq h1 h2;refine zb.n zD [2,3,5,6] (let v1:List Blk:=[.box [.sl f.length 3 (fxG f),.sl c.length 4 (chG c)],.box [.sl f2.length 3 (fxG f2),.sl c2.length 4 (chG c2)]];.ite (bif !decide ((f.length:Int)=f2.length) then true else !decide ((c.length:Int)=c2.length)) (.R [.bool false] v1) (.leaf (.loop (lps K21 0).1 (lps K21 0).2 [(2,.ptr 0 0),(3,.ptr 1 0),(5,.i 0),Z 6] v1))) ?_;simp only [Tree.holds,ze];refine⟨λh=> ?_,λh=> ?_⟩
 ·refine RetR.scal (hq false ⟨λh=>(by cases h),λhe=> ?_⟩) rfl (by simp [resV]);obtain⟨e1,e2⟩:=Prod.mk.inj he;subst e1; subst e2;simp at h
 ·have hl:f.length=f2.length/\c.length=c2.length:=by
   by_cases e1:f.length=f2.length
   ·by_cases e2:c.length=c2.length
    ·exact⟨e1,e2⟩
    ·rw [aW (show ¬ ((c.length:Nat):Int)=c2.length by omega)] at h;rw [aX (show((f.length:Nat):Int)=f2.length by omega)] at h;cases h
   ·rw [aW (show ¬ ((f.length:Nat):Int)=f2.length by omega)] at h;cases h
  refine zb.loop (ι:={i:Nat // i<=f.length/\∀ j,j<i->f.getD j Fx.nil=f2.getD j Fx.nil}) (λi=>SSE i.1) (λ_=>HSE f f2 c c2) (λi=>f.length - i.1) ⟨0,aI _,λj hj=>by omega⟩ 0 ?_ ?_ (by kernel_rfl)
  ·exact⟨by simp [SSE],by simp [HSE,fxS,chS,za],by kernel_rfl,aI _⟩
  ·rintro⟨i,hil,hib⟩;refine zb.n zD [2,3,5,6] (let v3:=f.getD (i:Int).toNat Fx.nil;let v2:=f2.getD (i:Int).toNat Fx.nil;let v1:List Blk:=[.box [.sl f.length 3 (fxG f),.sl c.length 4 (chG c)],.box [.sl f2.length 3 (fxG f2),.sl c2.length 4 (chG c2)]];.D ((i:Int)<f.length) (.side ((0:Int)<=i/\(i:Int)<f.length) (.side ((0:Int)<=i/\(i:Int)<f2.length) (.ite (!(decide (Fx.name v3=Fx.name v2)&&(decide (Fx.date v3=Fx.date v2)&&(decide (Fx.value v3=Fx.value v2)&&true)))) (.R [.bool false] v1) (.S (i+1) (.leaf (.back 0 [(2,.ptr 0 0),(3,.ptr 1 0),(5,.i (i+1)),Z 6] v1)))))) (.leaf (.loop (lps (inside K21 0) 0).1 (lps (inside K21 0) 0).2 [(2,.ptr 0 0),(3,.ptr 1 0),(5,.i i),(6,.i 0)] v1))) ?_;simp only [Tree.holds,ze,inR,lo,hi,aD];refine⟨λhlt=> ?_,λhge=> ?_⟩
   ·have hlt:i<f.length:=by have:=aB hlt; omega
    refine⟨by omega,λ_=>⟨by omega,λ_=>⟨λh=> ?_,λh=>⟨by omega,λ_=> ?_⟩⟩⟩⟩
    ·refine RetR.scal (hq false ⟨λh=>(by cases h),λhe=> ?_⟩) rfl (by simp [resV]);have hc:f=f2:=(Prod.mk.inj he).1;have:=Fx.eq_iff.2 (show f.getD i Fx.nil=f2.getD i Fx.nil by rw [hc]);rw [this] at h; cases h
    ·rw [aP trivial];have he:=Fx.eq_iff.1 (by simpa only [Bool.not_eq_false'] using h);refine⟨⟨i+1,hlt,λj hj=> ?_⟩,by show f.length - (i+1)<f.length - i; omega,by simp [SSE],by simp [HSE,fxS,chS,za],by kernel_rfl,aI _⟩;rcases aR j i with h1 | h1
     ·exact hib j h1
     ·have:j=i:=by omega
      rw [this]; exact he
   ·have hge:i=f.length:=by have:=aC hge; omega
    subst hge;have hf:=Y0 hl.1 hib;exact Uu f f2 c c2 h2 hf hl.2 hq _ _ ⟨by simp [SSE2],by simp [HSE,fxS,chS,za],by kernel_rfl,aI _⟩
def HE(f:List Fx)(c:List Ch):Heap:=[.box [fxS f,chS c]]
def zs9:Ctr:=ctrP true (λp:(List Fx×List Ch)×(L8×Int)=>[envA p.1.1 p.1.2,.str p.2.1,.i p.2.2]) (λp=>p.1.1.length<2^40) (λp r=>r=zF p.1.1 p.2.1 p.2.2) (λ_ r=>(.tup [.str r.1,.bool r.2],[]))
def zdt:Ctr:=ctrP true (λp:(List Fx×List Ch)×(L8×L8×Int)=>[envA p.1.1 p.1.2,.str p.2.1,.str p.2.2.1,.i p.2.2.2]) (λp=>p.1.2.length<2^40) (λp r=>r=qc p.1.2 p.2.1 p.2.2.1 p.2.2.2) (λ_ r=>(.bool r,[]))
theorem zq1{n:Nat}{g:Nat->Nat->AV}{l:List Fx}(h:eqG n 3 g (fxG l)):newB (.arr n 3 g):=λj o hj ho=>by rw [h j o hj ho]; exact zcz l j o ho
theorem zej{n:Nat}{g:Nat->Nat->AV}{l:List Ch}(h:eqG n 4 g (chG l)):newB (.arr n 4 g):=λj o hj ho=>by rw [h j o hj ho]; exact ze6 l j o ho
noncomputable def K8:=Go.Sx.aA f8
def zjh(f:Fx):Prop:=f.name.length<2^49/\f.value.length<2^49
def zda(c:Ch):Prop:=c.zL.length<2^49/\c.name.length<2^49
def fitP(p:List Fx×List Ch):Prop:=p.1.length<=1100/\p.2.length<=1100/\(∀ j,j<p.1.length->(p.1.getD j Fx.nil).name.length<=20000/\(p.1.getD j Fx.nil).value.length<=20000)/\∀ j,j<p.2.length->(p.2.getD j Ch.nil).zL.length<=20000/\(p.2.getD j Ch.nil).name.length<=20000
def zcs:Ctr:=ctrP true (λp:List Fx×List Ch=>[envA p.1 p.2]) (λp=>p.1.length<2^60/\p.2.length<2^60/\(∀ j,j<p.1.length->zjh (p.1.getD j Fx.nil))/\∀ j,j<p.2.length->zda (p.2.getD j Ch.nil)) (λp r=>r=false->fitP p) (λ_ (r:Bool)=>(.bool r,[]))
def SGq(n i:Nat):KV:=[(1,.ptr 0 0),(3,.i (n:Int)),(4,.i (i:Int)),Z 5]
def SGq2(n i:Nat):KV:=[(1,.ptr 0 0),(3,.i (n:Int)),Z 4,(5,.i (i:Int))]
theorem Un{O:Nat->Prop}{w0:World}{Q:AV×Heap->Prop}{Hs:Nat->KV->Heap->Prop}(f:List Fx)(c:List Ch)(n:Nat)(hf:f.length<=1100)(hc:c.length<=1100)(h3:∀ j,j<c.length->zda (c.getD j Ch.nil))(hn:n<=1100*2^50)(hnf:∀ j,j<f.length->(f.getD j Fx.nil).name.length<=n/\(f.getD j Fx.nil).value.length<=n)
  (hq:∀ r:Bool,(r=false->fitP (f,c))->Q (.bool r,[])) (kv:KV) (h:Heap) (hle:LeK 0 f8.ntmps kv h (SGq2 n 0) (HE f c)) :
  zb prog f8 O 0 w0 [] Hs (RetR zcs 0 Q) (.code (.loop (lps (inside K8 0) 0).1)::(lps (inside K8 0) 0).2) (mk f8.ntmps kv h):=by
 refine zb.loop (ι:={p:Nat×Nat // p.2<=c.length/\n<=p.1/\p.1<=(1100+p.2)*2^50/\∀ j,j<p.2->(c.getD j Ch.nil).zL.length<=p.1/\(c.getD j Ch.nil).name.length<=p.1}) (λp=>SGq2 p.1.1 p.1.2) (λ_=>HE f c) (λp=>c.length - p.1.2) ⟨(n,0),aI _,aJ _,by simpa using hn,λj hj=>by simp at hj⟩ 0 hle ?_ (by kernel_rfl);rintro⟨⟨m,i⟩,hil,hnm,hm,hib⟩;simp only at hil hnm hm hib;refine zb.n zD [1,3,4,5] (let v2:List Blk:=[.box [.sl f.length 3 (fxG f),.sl c.length 4 (chG c)]];let v1:=c.getD (i:Int).toNat Ch.nil;.D ((i:Int)<c.length) (.side ((0:Int)<=i/\(i:Int)<c.length) (.S ((m:Int)+(↑(List.length v1.zL):Int)) (.side ((0:Int)<=i/\(i:Int)<c.length) (.S ((m:Int)+(↑(List.length v1.zL):Int)+(↑(List.length v1.name):Int)) (.S (i+1) (.leaf (.back 0 [(1,.ptr 0 0),(3,.i ((m:Int)+(↑(List.length v1.zL):Int)+(↑(List.length v1.name):Int))),Z 4,(5,.i (i+1))] v2))))))) (.R [.bool (decide ((20000:Int)<m))] v2)) ?_;simp only [Tree.holds,ze,inR,lo,hi,aD];refine⟨λhlt=> ?_,λhge=> ?_⟩
 ·have hlt:i<c.length:=by have:=aB hlt; omega
  obtain⟨g1,g2⟩:=h3 i hlt
  iterate 5 refine⟨by omega,λ_=> ?_⟩
  rw [aP trivial];refine⟨⟨(m+(c.getD i Ch.nil).zL.length+(c.getD i Ch.nil).name.length,i+1),hlt,by simp only; omega,by simp only; omega,λj hj=> ?_⟩,by show c.length - (i+1)<c.length - i; omega,by simp [SGq2],by simp [HE,fxS,chS,za],by kernel_rfl,aI _⟩;simp only at hj ⊢;rcases aR j i with h1 | h1
  ·have:=hib j h1; omega
  ·have:j=i:=by omega
   rw [this]; omega
 ·have hge:i=c.length:=by have:=aC hge; omega
  subst hge;refine RetR.scal (hq (decide (20000<(m:Int))) λh=> ?_) rfl (by simp [resV]);have h:=aC h;exact⟨hf,hc,λj hj=>by have:=hnf j hj; simp only; omega,λj hj=>by have:=hib j hj; simp only; omega⟩
theorem zlr:zc prog 8 zcs:=by
 refine zf' f8 λp hp O w0 Q hq=> ?_
 obtain⟨f,c⟩:=p;obtain⟨h1,h2,h3,h4⟩:=hp;simp only at hq h1 h2 h3 h4;refine zb.n zD [1,3,4,5] (let v1:List Blk:=[.box [.sl f.length 3 (fxG f),.sl c.length 4 (chG c)]];.ite (bif decide ((1100:Int)<f.length) then true else decide ((1100:Int)<c.length)) (.R [.bool true] v1) (.leaf (.loop (lps K8 0).1 (lps K8 0).2 [(1,.ptr 0 0),(3,.i 0),(4,.i 0),Z 5] v1))) ?_;simp only [Tree.holds,ze];refine⟨λh=> ?_,λh=> ?_⟩
 ·exact RetR.scal (hq true λh=>(by cases h)) rfl (by simp [resV])
 ·have hbig:f.length<=1100/\c.length<=1100:=by
   rw [Bool.cond_eq_ite] at h;split at h
   ·cases h
   ·rename_i g1;have g2:=aC h;have g1:=aC (by simpa using g1:decide (1100<(f.length:Int))=false);omega
  obtain⟨hf,hc⟩:=hbig;refine zb.loop (ι:={p:Nat×Nat // p.2<=f.length/\p.1<=p.2*2^50/\∀ j,j<p.2->(f.getD j Fx.nil).name.length<=p.1/\(f.getD j Fx.nil).value.length<=p.1}) (λp=>SGq p.1.1 p.1.2) (λ_=>HE f c) (λp=>f.length - p.1.2) ⟨(0,0),aI _,by simp,λj hj=>by simp at hj⟩ 0 ?_ ?_ (by kernel_rfl)
  ·exact⟨by simp [SGq],by simp [HE,fxS,chS,za],by kernel_rfl,aI _⟩
  ·rintro⟨⟨m,i⟩,hil,hm,hib⟩;simp only at hil hm hib;refine zb.n zD [1,3,4,5] (let v2:List Blk:=[.box [.sl f.length 3 (fxG f),.sl c.length 4 (chG c)]];let v1:=f.getD (i:Int).toNat Fx.nil;.D ((i:Int)<f.length) (.side ((0:Int)<=i/\(i:Int)<f.length) (.S ((m:Int)+(↑(List.length v1.name):Int)) (.side ((0:Int)<=i/\(i:Int)<f.length) (.S ((m:Int)+(↑(List.length v1.name):Int)+(↑(List.length v1.value):Int)) (.S (i+1) (.leaf (.back 0 [(1,.ptr 0 0),(3,.i ((m:Int)+(↑(List.length v1.name):Int)+(↑(List.length v1.value):Int))),(4,.i (i+1)),Z 5] v2))))))) (.leaf (.loop (lps (inside K8 0) 0).1 (lps (inside K8 0) 0).2 [(1,.ptr 0 0),(3,.i m),(4,.i i),(5,.i 0)] v2))) ?_;simp only [Tree.holds,ze,inR,lo,hi,aD];refine⟨λhlt=> ?_,λhge=> ?_⟩
   ·have hlt:i<f.length:=by have:=aB hlt; omega
    obtain⟨g1,g2⟩:=h3 i hlt
    iterate 5 refine⟨by omega,λ_=> ?_⟩
    rw [aP trivial];refine⟨⟨(m+(f.getD i Fx.nil).name.length+(f.getD i Fx.nil).value.length,i+1),hlt,by simp only; omega,λj hj=> ?_⟩,by show f.length - (i+1)<f.length - i; omega,by simp [SGq],by simp [HE,fxS,chS,za],by kernel_rfl,aI _⟩;simp only at hj ⊢;rcases aR j i with h1 | h1
    ·have:=hib j h1; omega
    ·have:j=i:=by omega
     rw [this]; omega
   ·have hge:i=f.length:=by have:=aC hge; omega
    subst hge;exact Un f c m hf hc h4 (bP hm (aT _ hf)) hib hq _ _ ⟨by simp [SGq2],by simp [HE,fxS,chS,za],by kernel_rfl,aI _⟩
def zd2:Ctr:=ctrP true (λl:List Ch=>[chS l]) (λl=>l.length<2^40) (λ_ (_:Unit)=>True) (λl _=>(.osl 0 4 0 l.length,[.arr l.length 4 (chG l)]))
theorem zgt:zc prog 32 zd2:=by
 refine uX (fn:=f32) (c:=f32.body.getD .skip) rfl rfl rfl λl hl O w0 Q hq=> ?_
 replace hq:=hq () trivial;refine zb.n zD [] (.all (λ(b:Bool)=>0<l.length->b=false) λn=>.ite n (.R [.nils] []) (.side (0=0/\0<=0/\(0+l.length)*48<=140737488355328) (.R [.osl 0 4 0 (0+l.length)] [.arr (0+l.length) 4 (appG 0 (zh 4 []) (chG l))]))) ?_;simp only [Tree.holds,ze];refine⟨⟨false,λ_=>rfl⟩,λb hb=>⟨λh=> ?_,λh=>⟨⟨trivial,aJ _,by omega⟩,λ_=> ?_⟩⟩⟩
 ·have h0:l=[]:=by
   rcases bC l.length with h0 | h0
   ·exact aU.1 h0
   ·rw [hb h0] at h; cases h
  subst h0;refine RetR.scal (.inr ⟨.osl 0 4 0 0,[(4,chG [])],by simp [upA2,upA1,upA0],?_⟩) (r:=.nils) rfl (by simp [resV]);exact hq
 ·refine RetR.outs [0] rfl rfl (.inl hq) (λ_=>⟨?_,?_⟩) ?_ ?_ rfl
  ·simp [resV,new2,new1,new0,zy]
  ·simp only [aM,List.not_mem_nil,or_false,forall_eq];exact zej (Ww _ _ _ _)
  ·simp [resV,exp2,exp1,exp0,zy,eqA2,eqL1]
  ·exact⟨⟨by omega,rfl,Ww _ _ _ _⟩,trivial⟩
def HIdF(x:Fx):Heap:=[.box [.fn 61 [] []],.box [.str x.name,.i x.date,.str x.value]]
def HIdC(x:Ch):Heap:=[.box [.fn 63 [] []],.box [.str x.zL,.str x.name,.i x.date,.bool x.first]]
def zs6:Ctr:=ctrT false false (λp:Fx×Fx=>[p.1.av,.ptr 0 0,.ptr 1 0]) (λp=>HIdF p.2) (λ_=>True) (λp r=>r=decide (cmpF p.1 p.2=0)) (λp (r:Bool)=>(.bool r,HIdF p.2))
def zrt:Ctr:=ctrT false false (λp:Ch×Ch=>[p.1.av,.ptr 0 0,.ptr 1 0]) (λp=>HIdC p.2) (λ_=>True) (λp r=>r=decide (cmpC p.1 p.2=0)) (λp (r:Bool)=>(.bool r,HIdC p.2))
noncomputable def GI1:=tb Wp (tb Vf tz)
theorem zqy:zc prog 162 zs6:=by
 refine zH (fn:=f162) (c:=f162.body.getD .skip) rfl rfl rfl (λh=>by cases h) λp hp O w0 I0 Q hl0 hq=> ?_
 obtain⟨⟨a,d,v⟩,⟨b,e,u⟩⟩:=p;replace hq:=hq _ rfl;simp only at hq;refine zb.n GI1.h [] (.ex (q42 [.agg [.str a,.i d,.str v],.agg [.str b,.i e,.str u]]) λn=>.all (λ(r:Int)=>r=cmpF n.1 n.2) λn=>.R [.bool (decide (n=0))] [.box [.fn 61 [] []],.box [.str b,.i e,.str u],.box [.str a,.i d,.str v]]) ?_;simp only [q42,Tree.holds,ze];refine⟨(⟨a,d,v⟩,⟨b,e,u⟩),⟨by simp,trivial⟩,⟨_,rfl⟩,?_⟩;rintro _ rfl;exact RetR.keep [0,1] rfl rfl (by show ∀ j,j<2->_; decide) rfl hq (by simp [resV,exp2,exp1,exp0,ren0,eqA2]) (by simp [expH,expB,exp1,exp0,ren0,HIdF]) rfl
theorem zrj:zc prog 146 zrt:=by
 refine zH (fn:=f146) (c:=f146.body.getD .skip) rfl rfl rfl (λh=>by cases h) λp hp O w0 I0 Q hl0 hq=> ?_
 obtain⟨⟨a,v,d,x⟩,⟨b,u,e,y⟩⟩:=p;replace hq:=hq _ rfl;simp only at hq;refine zb.n GI1.h [] (.ex (q43 [.agg [.str a,.str v,.i d,.bool x],.agg [.str b,.str u,.i e,.bool y]]) λn=>.all (λ(r:Int)=>r=cmpC n.1 n.2) λn=>.R [.bool (decide (n=0))] [.box [.fn 63 [] []],.box [.str b,.str u,.i e,.bool y],.box [.str a,.str v,.i d,.bool x]]) ?_;simp only [q43,Tree.holds,ze];refine⟨(⟨a,v,d,x⟩,⟨b,u,e,y⟩),⟨by simp,trivial⟩,⟨_,rfl⟩,?_⟩;rintro _ rfl;exact RetR.keep [0,1] rfl rfl (by show ∀ j,j<2->_; decide) rfl hq (by simp [resV,exp2,exp1,exp0,ren0,eqA2]) (by simp [expH,expB,exp1,exp0,ren0,HIdC]) rfl
def SIdF(l:List Fx)(i:Nat):KV:=[(0,fxS l),(1,.fn 162 [] [.ptr 0 0,.ptr 1 0]),(7,.i (l.length:Int)),(8,.i (i:Int))]
def SIdC(l:List Ch)(i:Nat):KV:=[(0,chS l),(1,.fn 146 [] [.ptr 0 0,.ptr 1 0]),(7,.i (l.length:Int)),(8,.i (i:Int))]
def znm:Ctr:=ctrT false false (λp:List Fx×Fx=>[fxS p.1,.fn 162 [] [.ptr 0 0,.ptr 1 0]]) (λp=>HIdF p.2) (λp=>p.1.length<2^40) (λp r=>r=idxB (λx=>decide (cmpF x p.2=0)) p.1) (λp (r:Int)=>(.i r,HIdF p.2))
def zkw:Ctr:=ctrT false false (λp:List Ch×Ch=>[chS p.1,.fn 146 [] [.ptr 0 0,.ptr 1 0]]) (λp=>HIdC p.2) (λp=>p.1.length<2^40) (λp r=>r=idxB (λx=>decide (cmpC x p.2=0)) p.1) (λp (r:Int)=>(.i r,HIdC p.2))
noncomputable def GI2:=tb zqy (tb zrj tz)
theorem zqt:zc prog 98 znm:=by
 refine zH (fn:=f98) (c:=f98.body.getD .skip) rfl rfl rfl (λh=>by cases h) λp hl O w0 I0 Q hl0 hq=> ?_
 obtain⟨l,x⟩:=p;replace hq:=hq _ rfl;simp only at hq hl;refine zb.n GI2.h [0,1,7,8] (.leaf (.loop (lps K98 0).1 (lps K98 0).2 [(0,.sl l.length 3 (fxG l)),(1,.fn 162 [] [.ptr 0 0,.ptr 1 0]),(7,.i l.length),(8,.i 0)] [.box [.fn 61 [] []],.box [.str x.name,.i x.date,.str x.value]])) ?_;simp only [Tree.holds,ze]
 have fin:∀ (i:Int) (h:Heap),i=idxB (λy=>decide (cmpF y x=0)) l->h=HIdF x->RetR znm 2 Q [.i i] h:=by
  intro i h hi2 hh;subst hh;rw [<- hi2] at hq;exact RetR.keep [0,1] rfl rfl (by show ∀ j,j<2->_; decide) rfl hq (by simp [resV,exp2,exp1,exp0,ren0,eqA2]) (by simp [expH,expB,exp1,exp0,ren0,HIdF]) rfl
 refine zb.loop (ι:={i:Nat // i<=l.length/\∀ j,j<i->decide (cmpF (l.getD j Fx.nil) x=0)=false}) (λi=>SIdF l i.1) (λ_=>HIdF x) (λi=>l.length - i.1) ⟨0,aI _,λj hj=>by omega⟩ 0 ?_ ?_ (by kernel_rfl)
 ·exact⟨by simp [SIdF,fxS,za],by simp [HIdF],by kernel_rfl,aJ _⟩
 ·rintro⟨i,hil,hib⟩;refine zb.n GI2.h [0,1,7,8] (let v2:=l.getD (i:Int).toNat Fx.nil;.D ((i:Int)<l.length) (.side ((0:Int)<=i/\(i:Int)<l.length) (.ex (λ(x_1:Fx×Fx)=>eqL [.agg [.str v2.name,.i v2.date,.str v2.value],.ptr 0 0,.ptr 1 0] [.agg [.str x_1.1.name,.i x_1.1.date,.str x_1.1.value],.ptr 0 0,.ptr 1 0]/\eqH [.box [.fn 61 [] []],.box [.str x.name,.i x.date,.str x.value]] [.box [.fn 61 [] []],.box [.str x_1.2.name,.i x_1.2.date,.str x_1.2.value]]/\2=2/\True) λn=>let v1:List Blk:=[.box [.fn 61 [] []],.box [.str n.2.name,.i n.2.date,.str n.2.value]];.all (λ(r:Bool)=>r=decide (cmpF n.1 n.2=0)) λn_1=>.ite n_1 (.R [.i i] v1) (.S (i+1) (.leaf (.back 0 [(0,.sl l.length 3 (fxG l)),(1,.fn 162 [] [.ptr 0 0,.ptr 1 0]),(7,.i l.length),(8,.i (i+1))] v1))))) (.R [.i (-1:Int)] [.box [.fn 61 [] []],.box [.str x.name,.i x.date,.str x.value]])) ?_;simp only [Tree.holds,ze,inR,lo,hi,aD];refine⟨λhlt=> ?_,λhge=> ?_⟩
  ·have hlt:i<l.length:=by have:=aB hlt; omega
   refine⟨by omega,λ_=>⟨(l.getD i Fx.nil,x),⟨by simp,by simp,trivial,trivial⟩,⟨_,rfl⟩,?_⟩⟩;rintro _ rfl;refine⟨λh=> ?_,λh=>⟨by omega,λ_=> ?_⟩⟩
   ·exact fin _ _ (Jr hlt h hib).symm rfl
   ·rw [aP trivial];refine⟨⟨i+1,hlt,λj hj=> ?_⟩,by show l.length - (i+1)<l.length - i; omega,by simp [SIdF,fxS,za],by simp [HIdF],by kernel_rfl,aJ _⟩;rcases aR j i with h1 | h1
    ·exact hib j h1
    ·have:j=i:=by omega
     rw [this]; exact h
  ·have hge:i=l.length:=by have:=aC hge; omega
   subst hge;exact fin _ _ (yQ (p:=λy=>decide (cmpF y x=0)) hib).symm rfl
theorem zql:zc prog 99 zkw:=by
 refine zH (fn:=f99) (c:=f99.body.getD .skip) rfl rfl rfl (λh=>by cases h) λp hl O w0 I0 Q hl0 hq=> ?_
 obtain⟨l,x⟩:=p;replace hq:=hq _ rfl;simp only at hq hl;refine zb.n GI2.h [0,1,7,8] (.leaf (.loop (lps K99 0).1 (lps K99 0).2 [(0,.sl l.length 4 (chG l)),(1,.fn 146 [] [.ptr 0 0,.ptr 1 0]),(7,.i l.length),(8,.i 0)] [.box [.fn 63 [] []],.box [.str x.zL,.str x.name,.i x.date,.bool x.first]])) ?_;simp only [Tree.holds,ze]
 have fin:∀ (i:Int) (h:Heap),i=idxB (λy=>decide (cmpC y x=0)) l->h=HIdC x->RetR zkw 2 Q [.i i] h:=by
  intro i h hi2 hh;subst hh;rw [<- hi2] at hq;exact RetR.keep [0,1] rfl rfl (by show ∀ j,j<2->_; decide) rfl hq (by simp [resV,exp2,exp1,exp0,ren0,eqA2]) (by simp [expH,expB,exp1,exp0,ren0,HIdC]) rfl
 refine zb.loop (ι:={i:Nat // i<=l.length/\∀ j,j<i->decide (cmpC (l.getD j Ch.nil) x=0)=false}) (λi=>SIdC l i.1) (λ_=>HIdC x) (λi=>l.length - i.1) ⟨0,aI _,λj hj=>by omega⟩ 0 ?_ ?_ (by kernel_rfl)
 ·exact⟨by simp [SIdC,chS,za],by simp [HIdC],by kernel_rfl,aJ _⟩
 ·rintro⟨i,hil,hib⟩;refine zb.n GI2.h [0,1,7,8] (let v1:=l.getD (i:Int).toNat Ch.nil;.D ((i:Int)<l.length) (.side ((0:Int)<=i/\(i:Int)<l.length) (.ex (λ(x_1:Ch×Ch)=>eqL [.agg [.str v1.zL,.str v1.name,.i v1.date,.bool v1.first],.ptr 0 0,.ptr 1 0] [.agg [.str x_1.1.zL,.str x_1.1.name,.i x_1.1.date,.bool x_1.1.first],.ptr 0 0,.ptr 1 0]/\eqH [.box [.fn 63 [] []],.box [.str x.zL,.str x.name,.i x.date,.bool x.first]] [.box [.fn 63 [] []],.box [.str x_1.2.zL,.str x_1.2.name,.i x_1.2.date,.bool x_1.2.first]]/\2=2/\True) λn=>let v2:List Blk:=[.box [.fn 63 [] []],.box [.str n.2.zL,.str n.2.name,.i n.2.date,.bool n.2.first]];.all (λ(r:Bool)=>r=decide (cmpC n.1 n.2=0)) λn_1=>.ite n_1 (.R [.i i] v2) (.S (i+1) (.leaf (.back 0 [(0,.sl l.length 4 (chG l)),(1,.fn 146 [] [.ptr 0 0,.ptr 1 0]),(7,.i l.length),(8,.i (i+1))] v2))))) (.R [.i (-1:Int)] [.box [.fn 63 [] []],.box [.str x.zL,.str x.name,.i x.date,.bool x.first]])) ?_;simp only [Tree.holds,ze,inR,lo,hi,aD];refine⟨λhlt=> ?_,λhge=> ?_⟩
  ·have hlt:i<l.length:=by have:=aB hlt; omega
   refine⟨by omega,λ_=>⟨(l.getD i Ch.nil,x),⟨by simp,by simp,trivial,trivial⟩,⟨_,rfl⟩,?_⟩⟩;rintro _ rfl;refine⟨λh=> ?_,λh=>⟨by omega,λ_=> ?_⟩⟩
   ·exact fin _ _ (Jr hlt h hib).symm rfl
   ·rw [aP trivial];refine⟨⟨i+1,hlt,λj hj=> ?_⟩,by show l.length - (i+1)<l.length - i; omega,by simp [SIdC,chS,za],by simp [HIdC],by kernel_rfl,aJ _⟩;rcases aR j i with h1 | h1
    ·exact hib j h1
    ·have:j=i:=by omega
     rw [this]; exact h
  ·have hge:i=l.length:=by have:=aC hge; omega
   subst hge;exact fin _ _ (yQ (p:=λy=>decide (cmpC y x=0)) hib).symm rfl
def zeb:Ctr:=ctrP true (λp:List Fx×Fx=>[fxS p.1,p.2.av,.fn 61 [] []]) (λp=>p.1.length<2^40) (λp r=>r=idxB (λx=>decide (cmpF x p.2=0)) p.1) (λ_ (r:Int)=>(.i r,[]))
def zds:Ctr:=ctrP true (λp:List Ch×Ch=>[chS p.1,p.2.av,.fn 63 [] []]) (λp=>p.1.length<2^40) (λp r=>r=idxB (λx=>decide (cmpC x p.2=0)) p.1) (λ_ (r:Int)=>(.i r,[]))
noncomputable def GI3:=tb zqt (tb zql tz)
theorem zh6:zc prog 159 zeb:=by
 refine zf' f159 λp hp O w0 Q hq=> ?_
 obtain⟨l,⟨a,d,v⟩⟩:=p;replace hq:=hq _ rfl;simp only at hq hp;refine zb.n GI3.h [] (.ex (λ(x:List Fx×Fx)=>eqL [.sl l.length 3 (fxG l),.fn 162 [] [.ptr 0 0,.ptr 1 0]] [.sl x.1.length 3 (fxG x.1),.fn 162 [] [.ptr 0 0,.ptr 1 0]]/\eqH [.box [.fn 61 [] []],.box [.str a,.i d,.str v]] [.box [.fn 61 [] []],.box [.str x.2.name,.i x.2.date,.str x.2.value]]/\2=2/\x.1.length<1099511627776) λn=>.all (λ(r:Int)=>r=idxB (λ(x:Fx)=>decide (cmpF x n.2=0)) n.1) λn_1=>.R [.i n_1] [.box [.str n.2.name,.i n.2.date,.str n.2.value],.box [.fn 61 [] []]]) ?_;simp only [Tree.holds,ze];refine⟨(l,⟨a,d,v⟩),⟨by simp [za],by simp,trivial,hp⟩,⟨_,rfl⟩,?_⟩;rintro _ rfl;exact RetR.scal hq rfl (by simp [resV])
theorem zh9:zc prog 133 zds:=by
 refine zf' f133 λp hp O w0 Q hq=> ?_
 obtain⟨l,⟨a,v,d,b⟩⟩:=p;replace hq:=hq _ rfl;simp only at hq hp;refine zb.n GI3.h [] (.ex (λ(x:List Ch×Ch)=>eqL [.sl l.length 4 (chG l),.fn 146 [] [.ptr 0 0,.ptr 1 0]] [.sl x.1.length 4 (chG x.1),.fn 146 [] [.ptr 0 0,.ptr 1 0]]/\eqH [.box [.fn 63 [] []],.box [.str a,.str v,.i d,.bool b]] [.box [.fn 63 [] []],.box [.str x.2.zL,.str x.2.name,.i x.2.date,.bool x.2.first]]/\2=2/\x.1.length<1099511627776) λn=>.all (λ(r:Int)=>r=idxB (λ(x:Ch)=>decide (cmpC x n.2=0)) n.1) λn_1=>.R [.i n_1] [.box [.str n.2.zL,.str n.2.name,.i n.2.date,.bool n.2.first],.box [.fn 63 [] []]]) ?_;simp only [Tree.holds,ze];refine⟨(l,⟨a,v,d,b⟩),⟨by simp [za],by simp,trivial,hp⟩,⟨_,rfl⟩,?_⟩;rintro _ rfl;exact RetR.scal hq rfl (by simp [resV])
noncomputable def GI4:=tb zh6 (tb zh9 tz)
theorem zpt:zc prog 153 zs9:=by
 refine zf' f153 λp hp O w0 Q hq=> ?_
 obtain⟨⟨f,c⟩,⟨a,d⟩⟩:=p;replace hq:=hq _ rfl;simp only at hq hp;refine zb.n GI4.h [] (let v1:List Blk:=[.box [.sl f.length 3 (fxG f),.sl c.length 4 (chG c)]];.ex (λ(x:List Fx×Fx)=>eqL [.sl f.length 3 (fxG f),.agg [.str a,.i d,.str #[].toList],.fn 61 [] []] [.sl x.1.length 3 (fxG x.1),.agg [.str x.2.name,.i x.2.date,.str x.2.value],.fn 61 [] []]/\x.1.length<1099511627776) λn=>.all (λ(r:Int)=>r=idxB (λ(x:Fx)=>decide (cmpF x n.2=0)) n.1) λn=>.D (n<0) (.R [.str #[].toList,.bool false] v1) (.side ((0:Int)<=n/\n<(f.length:Int)) (.R [.str (Fx.value (f.getD (Int.toNat n) Fx.nil)),.bool true] v1))) ?_;simp only [Tree.holds,ze];refine⟨(f,⟨a,d,[]⟩),⟨by simp [za],hp⟩,⟨_,rfl⟩,?_⟩;rintro _ rfl;obtain⟨hlt,hr⟩:=zi7 f a d;simp only at hq ⊢;refine⟨λh=> ?_,λh=> ?_⟩
 ·rw [hr,aO (by have:=aB h; omega)] at hq;exact RetR.scal hq rfl (by simp [resV])
 ·have h:=aC h;refine⟨⟨by omega,hlt⟩,λ_=> ?_⟩;rw [hr,aP (by omega)] at hq;exact RetR.scal hq rfl (by simp [resV])
theorem zhc:zc prog 108 zdt:=by
 refine zf' f108 λp hp O w0 Q hq=> ?_
 obtain⟨⟨f,c⟩,⟨a,v,d⟩⟩:=p;replace hq:=hq _ rfl;simp only at hq hp;refine zb.n GI4.h [] (.ex (λ(x:List Ch×Ch)=>eqL [.sl c.length 4 (chG c),.agg [.str a,.str v,.i d,.bool false],.fn 63 [] []] [.sl x.1.length 4 (chG x.1),.agg [.str x.2.zL,.str x.2.name,.i x.2.date,.bool x.2.first],.fn 63 [] []]/\x.1.length<1099511627776) λn=>.all (λ(r:Int)=>r=idxB (λ(x:Ch)=>decide (cmpC x n.2=0)) n.1) λn=>.side (decide ((0:Int)<=n)=true->(0:Int)<=n/\n<(c.length:Int)) (.R [.bool (bif decide ((0:Int)<=n) then Ch.first (c.getD (Int.toNat n) Ch.nil) else false)] [.box [.sl f.length 3 (fxG f),.sl c.length 4 (chG c)]])) ?_;simp only [Tree.holds,ze];refine⟨(c,⟨a,v,d,false⟩),⟨by simp [za],hp⟩,⟨_,rfl⟩,?_⟩;rintro _ rfl;obtain⟨hlt,hr⟩:=zap c a v d;simp only at hq ⊢;refine⟨λh=>⟨aB h,hlt⟩,λ_=> ?_⟩;refine RetR.scal hq rfl ?_;rw [hr];simp only [resV];by_cases h:0<=idxB (λx=>decide (cmpC x ⟨a,v,d,false⟩=0)) c
 ·rw [aX h,aP h]; rfl
 ·rw [aW h,aO h]; rfl
end Go.Proofs.Tryz
end
section
namespace Go.Sx
variable [Stat]
theorem ZX{a b sz o:Nat}(h:a<b)(ho:o<sz):a*sz+o<b*sz:=by
 have:(a+1)*sz<=b*sz:=aT _ h;rw [Nat.succ_mul] at this; omega
end Go.Sx
end
section
set_option maxRecDepth 100000
open Go Go.Sx Go.Proofs Go.Nov
namespace Go.Proofs.Tryz
attribute [local simp] eqKV eqA eqA0 eqH eqB eqL eqL0
theorem xu{α:Type}{l m:List α}{a:Nat}(h:a+m.length<=l.length)(k:Nat):(l.take a++m++l.drop (a+m.length))[k]?=if k<a then l[k]? else if k<a+m.length then m[k - a]? else l[k]?:=by
 have hl:(l.take a).length=a:=by rw [aH]; omega
 rw [bT,bT,hl];simp only [bO,hl];by_cases h1:k<a
 ·rw [aP (by omega),aP h1,aP h1,bR,aP h1]
 ·rw [aO h1,aO h1];by_cases h2:k<a+m.length
  ·rw [aP h2,aP h2]
  ·rw [aO h2,aO h2,List.getElem?_drop]; congr 1; omega
theorem xe{l:List Value}{o k j:Nat} : ((l.drop o).take k)[j]?=if j<k then l[o+j]? else none:=by
 rw [bR];split
 ·rw [List.getElem?_drop]
 ·rfl
theorem zpe{ctr:Ctr}{Q:AV×Heap->Prop}(e:Int)(h:Heap)(hq:Q (.tup [.agg [.osl 0 3 0 ([]:List Fx).length,.osl 1 4 0 ([]:List Ch).length],.i e],[.arr ([]:List Fx).length 3 (fxG []),.arr ([]:List Ch).length 4 (chG [])])):RetR ctr 0 (upQ Q) [.agg [.nils,.nils],.i e] h:=by
 refine RetR.out0 (r:=.tup [.agg [.nils,.nils],.i e]) (.inr ⟨_,[(3,fxG []),(4,chG [])],?_,hq⟩) (λ_=>by simp [resV,new2,new1,new0,zX]) (by simp [resV,exp2,exp1,exp0,ren0,eqA2,eqL1]);simp [upA2,upA1,upA0,upL1,upL0]
theorem kQ{f:List Fx}{c:List Ch}{x:Fx} : (putF f c x).1.1.length<=1000/\(putF f c x).1.2.length<=1000:=by
 unfold putF;by_cases h0:errE f c≠0
 ·rw [aP h0]; simp
 ·rw [aO h0];have h:=jG.1 (Classical.not_not.1 h0);split
  ·simp
  ·split
   ·simp
   ·split
    ·simp
    ·simp only; omega
noncomputable def K72:=Go.Sx.aA f72
noncomputable def GOf0:=tb Wr tz
def iofC:Ctr:=ctrP true (λn:Nat=>[.i (n:Int)]) (λn=>n<=9) (λn (r:L8)=>r=[UInt8.ofNat (48+n)]) (λ_ (r:L8)=>(.str r,[]))
def SOf(n:Nat):KV:=[(0,.i (n:Int)),(3,.nils),(4,.bool (decide ((n:Int)<0)))]
abbrev q44(A:List AV)(H:Heap)(x:List Nat×Nat):Prop:=eqL A [.osl 0 1 0 x.2]/\eqH H [.arr x.1.length 1 (natG .u8 x.1)]/\1=1/\x.2<=x.1.length/\x.1.length<4611686018427387904
theorem zui:zc prog 72 iofC:=by
 refine zf' f72 λn hn O w0 Q hq=> ?_
 replace hq:=hq _ rfl;refine zb.n GOf0.h [0,3,4] (.leaf (.loop (lps K72 0).1 (lps K72 0).2 [(0,.i n),(3,.nils),(4,.bool (decide ((n:Int)<0)))] [])) ?_;simp only [Tree.holds,ze,inR,lo,hi,aD];refine zb.loop (ι:=Unit) (λ_=>SOf n) (λ_=>[]) (λ_=>0) () 0 ?_ ?_ (by kernel_rfl)
 ·exact⟨by simp [SOf],by simp,by kernel_rfl,aI _⟩
 rintro⟨⟩;refine zb.n GOf0.h [0,3,4] (let v6:=Int.tdiv (n:Int) (10:Int);let v4:=Int.tmod (n:Int) (10:Int);let v5:=zg (zh 1 [.int .u8 ((48:Int)+max v4 (-Int.tmod (n:Int) (10:Int)))]) 0;let v1:=zh 1 [.int .u8 ((48:Int)+max v4 (-Int.tmod (n:Int) (10:Int)))];.side ((10:Int)≠0) (.S (-Int.tmod (n:Int) (10:Int)) (.S ((48:Int)+max v4 (-Int.tmod (n:Int) (10:Int))) (.side (inR .u8 ((48:Int)+max v4 (-Int.tmod (n:Int) (10:Int)))) (.side (1<=140737488355328) (.side ((10:Int)≠0/\inR .i64 v6) (.D (Int.tdiv (n:Int) (10:Int)=0) (.D ((n:Int)<0) (.side (0=0/\1<=1/\2<=140737488355328) (.ex (q44 [.osl 0 1 0 2] [.arr 2 1 (appG 1 v5 (zg (zh 1 [.int .u8 45]) 0))]) λn_1=>let v2:=List.reverse (List.take n_1.2 n_1.1)++List.drop n_1.2 n_1.1;.A λn_2=>.side (∀ (j:Nat),j<2->∃ (b:UInt8),AV.int .u8 ↑(List.getD v2 (0+j) 0)=AV.int .u8 ↑(UInt8.toNat b)) (.R [.str (kz 2 (zg (natG .u8 v2) 0))] [.arr 1 1 v1,.arr n_1.1.length 1 (natG .u8 v2),.arr 1 1 (zh 1 [.int .u8 45])]))) (.ex (q44 [.osl 0 1 0 1] [.arr 1 1 v5]) λn_1=>let v3:=List.reverse (List.take n_1.2 n_1.1)++List.drop n_1.2 n_1.1;.A λn_2=>.side (∀ (j:Nat),j<1->∃ (b:UInt8),AV.int .u8 ↑(List.getD v3 (0+j) 0)=AV.int .u8 ↑(UInt8.toNat b)) (.R [.str (kz 1 (zg (natG .u8 v3) 0))] [.arr 1 1 v1,.arr n_1.1.length 1 (natG .u8 v3)]))) (.leaf (.back 0 [(0,.i v6),(3,.osl 1 1 0 1),(4,.bool (decide ((n:Int)<0)))] [.arr 1 1 v1,.arr 1 1 (zg v1 0)]))))))))) ?_;simp only [q44,Tree.holds,ze,inR,lo,hi,aD];have e1:(n:Int).tmod 10=n:=by rw [Int.tmod_eq_emod_of_nonneg (by omega)]; omega
 have e2:(n:Int).tdiv 10=0:=by rw [Int.tdiv_eq_ediv_of_nonneg (by omega)]; omega
 have e3:max (n:Int) (-(n:Int))=n:=by omega
 rw [e1,e2,e3];refine⟨by decide,λ_=>⟨by omega,λ_=>⟨by omega,λ_=>⟨by omega,λ_=>⟨by decide,λ_=>⟨by decide,λ_=>⟨λ_=>⟨λh=> ?_,λ_=> ?_⟩,λh=> ?_⟩⟩⟩⟩⟩⟩⟩
 ·have:=aB h; omega
 ·refine⟨([48+n],1),⟨⟨⟨rfl,rfl,rfl,rfl⟩,trivial⟩,⟨⟨rfl,rfl,λj o hj ho=> ?_⟩,trivial⟩,trivial,by simp,by simp⟩,⟨(),trivial⟩,λ_ _=>⟨λj hj=>⟨UInt8.ofNat (48+n),?_⟩,λ_=> ?_⟩⟩
  ·have:j=0:=by omega
   subst this;have:o=0:=by omega
   subst this;simp [zg,zh,natG]
  ·have:j=0:=by omega
   subst this;have:(UInt8.ofNat (48+n)).toNat=48+n:=by simp; omega
   simp only [this];rfl
  ·refine RetR.scal hq rfl ?_;simp only [resV,kz,zg,natG,List.range_succ,List.range_zero,List.nil_append,List.map_cons,List.map_nil];show AV.str [UInt8.ofNat (48+n)]=_;rfl
 ·simp at h
noncomputable def GOf1:=tb zui tz
noncomputable def qofI:Ctr:=inlC prog GOf1.g 100 f40
theorem zqd:zc prog 40 qofI:=zlm hmix GOf1.h rfl rfl
def jE(a:Ca):Prop:=a.name.length<2^38/\a.into.length<2^38/\a.ratio.length<2^38/\a.extra.length<2^38
def yn:Ctr:=ctrP true (λa:Ca=>[a.av]) jE (λa r=>r=if a.ok=true then 0 else 8) (λ_ (r:Int)=>(.i r,[]))
noncomputable def GCa0:=tb zqd (tb zf4 (tb yV (tb Jd tz)))
abbrev q46(A:List AV)(x:L8×L8):Prop:=eqL A [.str x.1,.str x.2]/\x.1.length<2305843009213693952/\x.2.length<2305843009213693952
abbrev q45(A:List AV)(x:Nat):Prop:=eqL A [.i x]/\x<=9
theorem xD:zc prog 25 yn:=by
 refine zf' f25 λa ha O w0 Q hq=> ?_
 obtain⟨h1,h2,h3,h4⟩:=ha;replace hq:=hq _ rfl;obtain⟨nm,io,d,rt,et⟩:=a;refine zb.n GCa0.h [] (let v1:List Blk:=[.box [.str nm,.str io,.i d,.str rt,.str et]];.ex (q45 [.i 0]) λn=>.all (λ(r:L8)=>r=[UInt8.ofNat (48+n)]) λn=>.ex (q46 [.str rt,.str n]) λn=>.all (λ(r:Int×Int)=>r=cmpR n.1 n.2) λn=>.ex (q15 [.str nm]) λn_1=>.all (λ(r:Bool)=>r=qe n_1) λn_2=>.ex (λ(x:L8)=>(!n_2)=false->eqL [.str io] [.str x]/\x.length<4611686018427387904) λn_3=>.all (λ(x:Bool)=>(!n_2)=false->x=qe n_3) λn_4=>.ex (λ(x:L8)=>(bif bif bif bif bif !n_2 then true else !n_4 then true else decide (d<0) then true else decide ((99999:Int)<d) then true else !decide (n.2=0) then true else decide (n.1<=0))=false->eqL [.str et] [.str x]/\x.length<4611686018427387904) λn_5=>.all (λ(x:Int)=>(bif bif bif bif bif !n_2 then true else !n_4 then true else decide (d<0) then true else decide ((99999:Int)<d) then true else !decide (n.2=0) then true else decide (n.1<=0))=false->x=errR n_5) λn_6=>.ite (bif bif bif bif bif bif !n_2 then true else !n_4 then true else decide (d<0) then true else decide ((99999:Int)<d) then true else !decide (n.2=0) then true else decide (n.1<=0) then true else !decide (n_6=0)) (.R [.i 8] v1) (.R [.i 0] v1)) ?_;simp only [q15,q45,q46,Tree.holds,ze,inR,lo,hi,aD];have e48:[UInt8.ofNat (48+0)]=[48]:=rfl;refine⟨0,⟨⟨⟨rfl,rfl⟩,trivial⟩,by omega⟩,⟨_,rfl⟩,?_⟩;rintro _ rfl;rw [e48];refine⟨(rt,[48]),⟨⟨rfl,rfl,trivial⟩,by show rt.length<_; simp only at h3; omega,by simp⟩,⟨_,rfl⟩,?_⟩;rintro r rfl;refine⟨nm,⟨⟨rfl,trivial⟩,by simp only at h1; omega⟩,⟨_,rfl⟩,?_⟩;rintro _ rfl;refine⟨io,λ_=>⟨⟨rfl,trivial⟩,by simp only at h2; omega⟩,⟨_,λ_=>rfl⟩,λb2 g2=> ?_⟩;refine⟨et,λ_=>⟨⟨rfl,trivial⟩,by simp only at h4; omega⟩,⟨_,λ_=>rfl⟩,λb3 g3=> ?_⟩
 have key:(bif bif bif bif bif bif !qe nm then true else !b2 then true else decide (d<0) then true else decide (99999<d) then true else !decide ((cmpR rt [48]).2=0) then true else decide ((cmpR rt [48]).1<=0) then true else !decide (b3=0)) = !(Ca.mk nm io d rt et).ok:=by
  obtain⟨z1,z2⟩:=zoa (a:=rt);unfold Ca.ok;simp only;cases hn:qe nm with
  | false=>simp
  | true=>
   rw [g2 (by rw [hn]; rfl)];cases hi2:qe io with
   | false=>simp
   | true=>
    by_cases hd:dayB d=true
    ·have hd':=hd;unfold dayB at hd';simp only [bA,aK] at hd';have q1:decide (d<0)=false:=aW (by omega);have q2:decide (99999<d)=false:=aW (by omega);by_cases hr:errR rt=0
     ·obtain⟨y1,y2⟩:=z2 hr;by_cases hp:0<qv rt
      ·have y3:(cmpR rt [48]).1=1:=by rw [y2,aO (by grind),aP hp]
       rw [g3 (by rw [hn,g2 (by rw [hn]; rfl),hi2,q1,q2,y1,y3]; rfl),hd,y1,y3,q1,q2];simp [hr,hp]
      ·have y3:(cmpR rt [48]).1<=0:=by rw [y2,aO hp]; split<;>decide
       rw [aX y3];simp [hp]
     ·rw [aW (z1 hr)];simp [hr]
    ·have:(decide (d<0)||decide (99999<d))=true:=by
      unfold dayB at hd;simp at hd ⊢;omega
     have hd:dayB d=false:=by simpa using hd
     rw [hd];rw [Bool.or_eq_true] at this;rcases this with h | h<;>simp [h]
 rw [key];refine⟨λh=> ?_,λh=> ?_⟩
 ·rw [aO (by simpa using h)] at hq;exact RetR.scal hq rfl rfl
 ·rw [aP (by simpa using h)] at hq;exact RetR.scal hq rfl rfl
def oldC:Ctr:=ctrP true (λp:Ca×L8=>[p.1.av,.str p.2]) (λp=>jE p.1/\p.2.length<2^38) (λp r=>r=p.1.old p.2) (λ_ (r:L8×Int)=>(.tup [.str r.1,.i r.2],[]))
noncomputable def GCa1:=tb uY (tb Jh tz)
theorem zau:zc prog 33 oldC:=by
 refine zf' f33 λp hp O w0 Q hq=> ?_
 obtain⟨⟨nm,io,d,rt,et⟩,x⟩:=p;obtain⟨⟨h1,h2,h3,h4⟩,h5⟩:=hp;replace hq:=hq _ rfl;simp only at h1 h2 h3 h4 h5 hq;refine zb.n GCa1.h [] (let v1:List Blk:=[.box [.str nm,.str io,.i d,.str rt,.str et]];.ex (q46 [.str rt,.str x]) λn=>.all (λ(r:L8×Int)=>r=mulR n.1 n.2) λn=>.N (n.2=0) (.R [.str #[].toList,.i n.2] v1) (.ex (q46 [.str n.1,.str et]) λn=>.all (λ(r:L8×Int)=>r=addR n.1 n.2) λn=>.R [.str n.1,.i n.2] v1)) ?_;simp only [q46,Tree.holds,ze,inR,lo,hi,aD];refine⟨(rt,x),⟨⟨rfl,rfl,trivial⟩,by show rt.length<_; omega,by show x.length<_; omega⟩,⟨_,rfl⟩,?_⟩;rintro _ rfl;refine⟨λh=> ?_,λh=> ?_⟩
 ·have h:(mulR rt x).2≠0:=by simpa using h
  have e:(Ca.mk nm io d rt et).old x=([],(mulR rt x).2):=aP h;rw [e] at hq;exact RetR.scal hq rfl rfl
 ·have h:(mulR rt x).2=0:=by simpa using h
  have e:(Ca.mk nm io d rt et).old x=addR (mulR rt x).1 et:=aO (by rw [h]; simp);rw [e] at hq;have hl:(mulR rt x).1.length<=2003:=zmu rt x;refine⟨((mulR rt x).1,et),⟨⟨rfl,rfl,trivial⟩,by show(mulR rt x).1.length<_; omega,by show et.length<_; omega⟩,⟨_,rfl⟩,?_⟩;rintro _ rfl;exact RetR.scal hq rfl rfl
def zrs:Ctr:=ctrP true (λa:Ca=>[a.av]) (λ_=>True) (λa r=>r=false->a.name.length<=1000/\a.into.length<=1000/\a.ratio.length<=1000/\a.extra.length<=1000) (λ_ (r:Bool)=>(.bool r,[]))
theorem zpv:zc prog 6 zrs:=by
 refine zf' f6 λa ha O w0 Q hq=> ?_
 obtain⟨nm,io,d,rt,et⟩:=a;refine zb.n zD [] (.R [.bool (bif bif bif decide ((1000:Int)<nm.length) then true else decide ((1000:Int)<io.length) then true else decide ((1000:Int)<rt.length) then true else decide ((1000:Int)<et.length))] [.box [.str nm,.str io,.i d,.str rt,.str et]]) ?_;simp only [Tree.holds,ze,inR,lo,hi,aD];refine RetR.scal (hq _ ?_) rfl rfl;intro h;by_cases g1:1000<nm.length
 ·rw [aX (show(1000:Int)<nm.length by omega)] at h; simp at h
 by_cases g2:1000<io.length
 ·rw [aX (show(1000:Int)<io.length by omega)] at h; simp at h
 by_cases g3:1000<rt.length
 ·rw [aX (show(1000:Int)<rt.length by omega)] at h; simp at h
 by_cases g4:1000<et.length
 ·rw [aX (show(1000:Int)<et.length by omega)] at h; simp at h
 exact⟨by simp only; omega,by simp only; omega,by simp only; omega,by simp only; omega⟩
def qofC:Ctr:=ctrP true (λn:Nat=>[.i (n:Int)]) (λn=>n<=9) (λn (r:L8)=>r=[UInt8.ofNat (48+n)]) (λ_ (r:L8)=>(.str r,[]))
theorem zjy:zc prog 40 qofC:=by
 refine zf' f40 λn hn O w0 Q hq=> ?_
 replace hq:=hq _ rfl;refine zb.n GOf1.h [] (.ex (q45 [.i n]) λn=>.all (λ(r:L8)=>r=[UInt8.ofNat (48+n)]) λn=>.R [.str n] []) ?_;simp only [q45,Tree.holds,ze];refine⟨n,⟨⟨⟨rfl,rfl⟩,trivial⟩,hn⟩,⟨_,rfl⟩,?_⟩;rintro _ rfl;exact RetR.scal hq rfl (by simp [resV])
noncomputable def GAj:=tb zqf (tb zjy tz)
noncomputable def GAjc(n:Nat):Nat->Option Ctr:=λf=>if f=54 then some (zl8 n) else GAj.g f
theorem zos{n:Nat}(h:zc prog 54 (zl8 n)):∀ f c,GAjc n f=some c->zc prog f c:=by
 intro f c hf;simp only [GAjc] at hf;split at hf
 ·rename_i hg; subst hg; cases hf; exact h
 ·exact GAj.h f c hf
theorem zlf(n:Nat)(ih:zc prog 52 (adjC n)):zc prog 52 (adjC (n+1)):=by
 refine zH (fn:=f52) (c:=f52.body.getD .skip) rfl rfl rfl (λh=>by cases h) λp hp O w0 I0 Q hl0 hq=> ?_
 obtain⟨a,x⟩:=p;obtain⟨h1,h2⟩:=hp;simp only at h1 h2;rw [Ex.size_eq] at h1 h2;replace hq:=hq () trivial;simp only [Ca.zsq] at hq;refine zb.run hmix (zos (zro n ih)) [] 400 (T:=let v12:=Ca.extra a;let v11:=Ex.exG x.sub;let v9:=[AV.ptr 0 0,AV.ptr 1 0];let v7:List AV:=[.fn 52 [] [.ptr 0 0,.ptr 1 0]];let v6:List AV:=[.int .u8 4,.str #[].toList,.str #[].toList,.i 0,.osl 4 5 0 2];let v5:List AV:=[.int .u8 6,.str #[].toList,.str #[].toList,.i 0,.osl 4 5 0 2];let v4:List AV:=[.int .u8 4,.str #[].toList,.str #[].toList,.i 0,.osl 5 5 0 2];let v3:List AV:=[.int .u8 x.kind,.str x.rat,.str a.into,.i x.date,.sl x.sub.length 5 v11];let v2:List AV:=[.str a.name,.str a.into,.i a.date,.str a.ratio,.str v12];.ite (bif decide (Ex.name x=Ca.name a) then bif decide (Ex.kind x=3) then true else bif decide (Ex.kind x=2) then decide (Ca.date a<=Ex.date x) else false else false) (.ex (q45 [.i 1]) λn=>.all (λ(r:L8)=>r=[UInt8.ofNat (48+n)]) λn=>.N (Ca.ratio a=n) (.ex (q39 [.str a.ratio]) λn=>let v1:=zh 5 [.int .u8 (Ex.kind (Tm.kon n)),.str (Ex.rat (Tm.kon n)),.str (Ex.name (Tm.kon n)),.i (Ex.date (Tm.kon n)),.sl (List.length (Ex.sub (Tm.kon n))) 5 (Ex.deep (Tm.kon n)),.int .u8 x.kind,.str x.rat,.str a.into,.i x.date,.sl x.sub.length 5 v11];.A λn_1=>.ex (q45 [.i 0]) λn_2=>.all (λ(r:L8)=>r=[UInt8.ofNat (48+n_2)]) λn_3=>.N (Ca.extra a=n_3) (.ex (q39 [.str v12]) λn_4=>let v10:=Tm.kon n_4;.A λn_5=>.R [.agg v4] [.box v2,.box v7,.box v4,.box v4,.arr 2 5 v1,.box [.int .u8 6,.str #[].toList,.str #[].toList,.i 0,.osl 4 5 0 2,.int .u8 (Ex.kind v10),.str (Ex.rat v10),.str (Ex.name v10),.i (Ex.date v10),.sl (List.length (Ex.sub v10)) 5 (Ex.deep v10)]]) (.R [.agg v5] [.box v2,.box v7,.box v5,.box v5,.arr 2 5 v1])) (.ex (q45 [.i 0]) λn=>.all (λ(r:L8)=>r=[UInt8.ofNat (48+n)]) λn=>.N (Ca.extra a=n) (.ex (q39 [.str v12]) λn=>.A λn_1=>.R [.agg v6] [.box v2,.box v7,.box v6,.box v6,.arr 2 5 (zh 5 [.int .u8 x.kind,.str x.rat,.str a.into,.i x.date,.sl x.sub.length 5 v11,.int .u8 (Ex.kind (Tm.kon n)),.str (Ex.rat (Tm.kon n)),.str (Ex.name (Tm.kon n)),.i (Ex.date (Tm.kon n)),.sl (List.length (Ex.sub (Tm.kon n))) 5 (Ex.deep (Tm.kon n))])]) (.R [.agg v3] [.box v2,.box v7,.box v3,.box v3]))) (.ex (λ(x_1:Ca×Ex)=>eqL [x.exA,.fn 52 [] v9] [x_1.2.exA,.fn 52 [] v9]/\eqH [.box [.str a.name,.str a.into,.i a.date,.str a.ratio,.str v12],.box [.fn 52 [] v9]] [.box [.str x_1.1.name,.str x_1.1.into,.i x_1.1.date,.str x_1.1.ratio,.str x_1.1.extra],.box [.fn 52 [] v9]]/\2=2/\Ex.zp x_1.2.sub<n/\Ex.zp x_1.2.sub<1099511627776) λn=>let v8:=Ex.mk n.2.kind n.2.rat n.2.name n.2.date (List.map (Ca.adj n.1) n.2.sub);.A λn_1=>.R [(exD v8)] [.box [.str n.1.name,.str n.1.into,.i n.1.date,.str n.1.ratio,.str n.1.extra],.box v7,.box [.int .u8 x.kind,.str x.rat,.str x.name,.i x.date,.sl x.sub.length 5 v11],.box (Ex.cellsD v8)])) (by kernel_rfl) ?_;simp only [q39,q45,Tree.holds,ze];obtain⟨c,hc⟩:∃ c,a.onX x.kind x.name x.date=c:=⟨_,rfl⟩;rw [hc] at hq
 have hcc:(bif decide (x.name=a.name) then bif decide (x.kind=3) then true else bif decide (x.kind=2) then decide (a.date<=x.date) else false else false)=c:=by
  rw [<- hc]; unfold Ca.onX;cases decide (x.kind=3)<;>cases decide (x.kind=2)<;>cases decide (x.name=a.name)<;>cases decide (a.date<=x.date)<;>rfl
 rw [hcc];refine⟨λh=> ?_,λh=> ?_⟩
 ·rw [aP h] at hq;have hq2:∀ y:Ex,Ca.rel a (.mk x.kind x.rat a.into x.date x.sub)=y->Q (exD y,HAd a):=λy e=>by rw [<- e]; exact hq
  unfold Ca.rel at hq2;have e48:[UInt8.ofNat (48+0)]=[48]:=rfl;have e49:[UInt8.ofNat (48+1)]=[49]:=rfl;refine⟨1,⟨⟨⟨rfl,rfl⟩,trivial⟩,by decide⟩,⟨_,rfl⟩,?_⟩;rintro _ rfl;rw [e49];refine⟨λh1=> ?_,λh1=> ?_⟩<;>simp at h1
  ·refine⟨a.ratio,⟨⟨rfl,trivial⟩,trivial⟩,⟨(),trivial⟩,λ_ _=>⟨0,⟨⟨⟨rfl,rfl⟩,trivial⟩,by decide⟩,⟨_,rfl⟩,?_⟩⟩;rintro _ rfl;rw [e48];refine⟨λh2=> ?_,λh2=> ?_⟩<;>simp at h2
   ·rw [aO h2,aO h1] at hq2;refine⟨a.extra,⟨⟨rfl,trivial⟩,trivial⟩,⟨(),trivial⟩,λ_ _=> ?_⟩;exact RetR.km [0,1] rfl rfl (by show ∀ j,j<2->_; decide) rfl (hq2 _ rfl) (LeA.agg ⟨LeA.refl _,LeA.refl _,LeA.refl _,LeA.refl _,Ex.uU (x:=Tm.opx 6 [Tm.kon a.ratio,Ex.mk x.kind x.rat a.into x.date x.sub]) (y:=Tm.kon a.extra) ⟨LeA.refl _,LeA.refl _,LeA.refl _,LeA.refl _,Ex.uU (x:=Tm.kon a.ratio) (y:=Ex.mk x.kind x.rat a.into x.date x.sub) ⟨LeA.refl _,LeA.refl _,LeA.refl _,LeA.refl _,LeA.refl _,LeA.refl _,LeA.refl _,LeA.refl _,LeA.refl _,Ex.wk (Ex.mk x.kind x.rat a.into x.date x.sub),trivial⟩,LeA.refl _,LeA.refl _,LeA.refl _,LeA.refl _,LeA.refl _,trivial⟩,trivial⟩) (by simp [expH,expB,exp1,exp0,ren0,HAd,zy]) rfl
   ·rw [aP h2,aO h1] at hq2;exact RetR.km [0,1] rfl rfl (by show ∀ j,j<2->_; decide) rfl (hq2 _ rfl) (LeA.agg ⟨LeA.refl _,LeA.refl _,LeA.refl _,LeA.refl _,Ex.uU (x:=Tm.kon a.ratio) (y:=Ex.mk x.kind x.rat a.into x.date x.sub) ⟨LeA.refl _,LeA.refl _,LeA.refl _,LeA.refl _,LeA.refl _,LeA.refl _,LeA.refl _,LeA.refl _,LeA.refl _,Ex.wk (Ex.mk x.kind x.rat a.into x.date x.sub),trivial⟩,trivial⟩) (by simp [expH,expB,exp1,exp0,ren0,HAd,zy]) rfl
  ·refine⟨0,⟨⟨⟨rfl,rfl⟩,trivial⟩,by decide⟩,⟨_,rfl⟩,?_⟩;rintro _ rfl;rw [e48];refine⟨λh2=> ?_,λh2=> ?_⟩<;>simp at h2
   ·rw [aO h2,aP h1] at hq2;refine⟨a.extra,⟨⟨rfl,trivial⟩,trivial⟩,⟨(),trivial⟩,λ_ _=> ?_⟩;exact RetR.km [0,1] rfl rfl (by show ∀ j,j<2->_; decide) rfl (hq2 _ rfl) (LeA.agg ⟨LeA.refl _,LeA.refl _,LeA.refl _,LeA.refl _,Ex.uU (x:=Ex.mk x.kind x.rat a.into x.date x.sub) (y:=Tm.kon a.extra) ⟨LeA.refl _,LeA.refl _,LeA.refl _,LeA.refl _,Ex.wk (Ex.mk x.kind x.rat a.into x.date x.sub),LeA.refl _,LeA.refl _,LeA.refl _,LeA.refl _,LeA.refl _,trivial⟩,trivial⟩) (by simp [expH,expB,exp1,exp0,ren0,HAd,zy]) rfl
   ·rw [aP h2,aP h1] at hq2;exact RetR.km [0,1] rfl rfl (by show ∀ j,j<2->_; decide) rfl (hq2 _ rfl) (LeA.agg ⟨LeA.refl _,LeA.refl _,LeA.refl _,LeA.refl _,Ex.wk (Ex.mk x.kind x.rat a.into x.date x.sub),trivial⟩) (by simp [expH,expB,exp1,exp0,ren0,HAd,zy]) rfl
 rw [h,aO (by decide)] at hq;refine⟨(a,x),⟨⟨qF x,by simp,trivial⟩,by simp,trivial,by show Ex.zp x.sub<n; omega,by show Ex.zp x.sub<_; omega⟩,⟨(),trivial⟩,λ_ _=> ?_⟩;exact RetR.km [0,1] rfl rfl (by show ∀ j,j<2->_; decide) rfl hq (LeA.refl _) (by simp [expH,expB,exp1,exp0,ren0,HAd,zy]) rfl
theorem zpy(n:Nat):zc prog 52 (adjC n):=by
 induction n with
 | zero=>
  intro args hc Q hq _;simp only [adjC,ctrT] at hq;obtain⟨x,⟨_,_,_,h,_⟩,_⟩:=hq;exact absurd h (Nat.not_lt_zero _)
 | succ n ih=>exact zlf n ih
def za9:Ctr:=ctrT false false (λp:Ca×Ex=>[p.2.exA,.ptr 0 0,.ptr 1 0]) (λp=>HAd p.1) (λp=>p.2.size<2^40) (λ_ (_:Unit)=>True) (λp _=>(exD (p.1.adj p.2),HAd p.1))
theorem zub:zc prog 52 za9:=by
 intro args hc Q hq hf;simp only [za9,ctrT] at hq;obtain⟨x,⟨h1,h2,h3,h4⟩,h5⟩:=hq;exact zpy (x.2.size+1) args hc Q ⟨x,⟨h1,h2,h3,Nat.lt_succ_self _,h4⟩,h5⟩ hf
noncomputable def GAdj:=tb zub tz
def Qy:Ctr:=ctrP false (λp:Ca×Ex=>[p.1.av,p.2.exA]) (λp=>p.2.size<2^40) (λ_ (_:Unit)=>True) (λp _=>(exD (p.1.adj p.2),[]))
theorem QF:zc prog 28 Qy:=by
 refine zf' f28 λp hp O w0 Q hq=> ?_
 obtain⟨a,x⟩:=p;replace hq:=hq () trivial;refine zb.n GAdj.h [] (let v1:=[AV.fn 52 [] [.ptr 0 0,.ptr 1 0]];.ex (λ(x_1:Ca×Ex)=>eqL [x.exA,.ptr 0 0,.ptr 1 0] [x_1.2.exA,.ptr 0 0,.ptr 1 0]/\eqH [.box [.str a.name,.str a.into,.i a.date,.str a.ratio,.str a.extra],.box v1] [.box [.str x_1.1.name,.str x_1.1.into,.i x_1.1.date,.str x_1.1.ratio,.str x_1.1.extra],.box v1]/\2=2/\Ex.size x_1.2<1099511627776) λn=>.A λn_1=>.R [(exD (Ca.adj n.1 n.2))] [.box [.str n.1.name,.str n.1.into,.i n.1.date,.str n.1.ratio,.str n.1.extra],.box [.int .u8 x.kind,.str x.rat,.str x.name,.i x.date,.sl x.sub.length 5 (Ex.exG x.sub)],.box (Ex.cellsD (Ca.adj n.1 n.2)),.box [.fn 52 [] [.ptr 0 0,.ptr 3 0]]]) ?_;simp only [Tree.holds,ze];refine⟨(a,x),⟨⟨qF x,⟨rfl,rfl⟩,⟨rfl,rfl⟩,trivial⟩,by simp,trivial,hp⟩,⟨(),trivial⟩,λ_ _=> ?_⟩;exact RetR.le0 hq (λh=>by cases h) (LeA.refl _)
end Go.Proofs.Tryz
end
section
namespace Go.Nov
open Go.Sx
theorem YV{k p:Int}(h:p∈qw k):p≠0:=by
 unfold qw uj at h;cases e:shpL.find? (λq=>q.1 == k) with
 | none=>rw [e] at h; simp at h
 | some q=>
  rw [e] at h;simp only [Option.map_some,Option.getD_some] at h;have hq:=List.mem_of_find?_eq_some e;have all:∀ q∈shpL,∀ p∈q.2.1,p≠0:=by decide
  exact all q hq p h
theorem JU{k d:Int}{r n:L8}{ss:List Int}(h:wL k r n d ss≠0):∀ p∈ss,p≠0:=by
 unfold wL at h;split at h
 ·split at h
  ·rename_i h2;rw [h2.2.2.2];exactλp hp=>YV hp
  ·exact absurd rfl h
 ·split at h
  ·rename_i h2;unfold je at h2;have:ss=[]:=by simp at h2; exact h2.1
   rw [this]; simp
  ·exact absurd rfl h
theorem xo{k d:Int}{r n:L8}{ss:List Int}(h:wL k r n d ss≠0)(hk:k=3\/k=2):r=[]/\ss=[]:=by
 have hs:qK k=false:=by rcases hk with rfl | rfl<;>decide
 rw [wN hs] at h;split at h
 ·rename_i h2;unfold je at h2;rcases hk with rfl | rfl<;>simp at h2
  ·exact⟨h2.2.1.1,h2.1⟩
  ·exact⟨h2.2.1.1,h2.1⟩
 ·exact absurd rfl h
namespace Ca
mutual
theorem XS(a:Ca):∀ x:Ex,x.zu≠0->adj a x=chg a x
 | .mk k r n d s,h=>by
  rw [Ex.zu] at h;rw [adj,chg];by_cases hh:a.onX k n d=true
  ·rw [aP hh,aP hh]
   have hk:k=3\/k=2:=by
    simp [onX] at hh;rcases hh.2 with h1 | h1
    ·exact .inl h1
    ·exact .inr h1.1
   obtain⟨h1,h2⟩:=xo h hk
   have:s=[]:=by
    cases s with
    | nil=>rfl
    | cons x s=>rw [Ex.qf] at h2; cases h2
   rw [h1,this]
  ·rw [aO hh,aO hh,KI a s (JU h)]
theorem KI(a:Ca):∀ s:List Ex,(∀ p∈Ex.qf s,p≠0)->adjs a s=chgs a s
 | [],_=>by rw [adjs,chgs]
 | x::s,h=>by
  rw [Ex.qf] at h;rw [adjs,chgs,XS a x (h _ (by simp)),KI a s (λp hp=>h p (by simp [hp]))]
end
theorem zlo(a:Ca)(y:Ex):(a.rel y).size<=y.size+4/\(a.rel y).zo<=y.zo+a.ratio.length+a.extra.length:=by
 unfold rel;split<;>split<;>(try simp only [Tm.opx,Tm.kon,Ex.size,Ex.zp,Ex.zo,Ex.zN,List.length_nil])<;>omega
mutual
theorem uV(a:Ca):∀ x:Ex,(chg a x).size<=5*x.size/\(chg a x).zo<=x.zo+x.size*(a.into.length+a.ratio.length+a.extra.length)
 | .mk k r n d s=>by
  rw [chg];by_cases hh:a.onX k n d=true
  ·rw [aP hh];have h:=zlo a (.mk k [] a.into d []);simp only [Ex.size,Ex.zp,Ex.zo,Ex.zN,List.length_nil] at h ⊢;have hm:a.into.length+a.ratio.length+a.extra.length<=(1+Ex.zp s)*(a.into.length+a.ratio.length+a.extra.length):=Nat.le_mul_of_pos_left _ (by omega);omega
  ·rw [aO hh];have h:=VF a s;simp only [Ex.size,Ex.zo,bH,Nat.one_mul] at h ⊢;omega
theorem VF(a:Ca):∀ s:List Ex,Ex.zp (chgs a s)<=5*Ex.zp s/\Ex.zN (chgs a s)<=Ex.zN s+Ex.zp s*(a.into.length+a.ratio.length+a.extra.length)
 | []=>by rw [chgs]; simp [Ex.zp,Ex.zN]
 | x::s=>by
  have h1:=uV a x;have h2:=VF a s;rw [chgs];simp only [Ex.zp,Ex.zN,bH] at h1 h2 ⊢;omega
end
theorem zdy{k d:Int}{s t n:L8}{x:Ex}{l:List Int}{m:Nat}(h:j7 k s t n x d l m=true):qR x=true\/x.zu≠0:=by
 have hn:numX x=true->x.zu≠0:=λh=>by simp [numX] at h; omega
 have ht:truX x=true->x.zu≠0:=λh=>by simp [truX] at h; omega
 unfold j7 at h
 repeat' split at h
 all_goals simp only [bA,Bool.false_eq_true] at h
 all_goals first
  | exact h.elim
  | exact .inl h.2
  | exact .inr (hn h.2)
  | exact .inr (ht h.2)
  | exact .inr (hn h.1.1.2)
theorem zfx(a:Ca){x:Ex}(h:qR x=true\/x.zu≠0):adj a x=chg a x:=by
 rcases h with h | h
 ·obtain⟨k,r,n,d,s⟩:=x;simp [qR,Ex.kind,Ex.rat,Ex.name,Ex.date,Ex.sub] at h;obtain⟨h0,_,_,_,rfl⟩:=h;obtain rfl:k=0:=aB h0;rw [adj,chg,adjs,chgs];have:a.onX 0 n d=false:=by simp [onX]
  rw [this]; simp
 ·exact XS a x h
mutual
theorem Vx(a:Ca):∀ c:Con,c.form=true->whole a.adj c=whole a.chg c
 | .mk k s t n x d l u,h=>by
  rw [Con.form,bA] at h;rw [whole,whole,zfx a (zdy h.1),Wm a u h.2]
theorem Wm(a:Ca):∀ u:List Con,Con.vA u=true->qx a.adj u=qx a.chg u
 | [],_=>by rw [qx,qx]
 | c::u,h=>by
  rw [Con.vA,bA] at h;rw [qx,qx,Vx a c h.1,Wm a u h.2]
end
mutual
theorem wY(a:Ca):∀ c:Con,(whole a.chg c).nodes=c.nodes/\(whole a.chg c).big<=5*c.big+c.big*(a.into.length+a.ratio.length+a.extra.length)
 | .mk k s t n x d l u=>by
  have h1:=uV a x;have h2:=QN a u;rw [whole];simp only [Con.nodes,Con.big,bH] at h1 h2 ⊢;omega
theorem QN(a:Ca):∀ u:List Con,Con.zw (qx a.chg u)=Con.zw u/\Con.bigs (qx a.chg u)<=5*Con.bigs u+Con.bigs u*(a.into.length+a.ratio.length+a.extra.length)
 | []=>by rw [qx]; simp [Con.zw,Con.bigs]
 | c::u=>by
  have h1:=wY a c;have h2:=QN a u;rw [qx];simp only [Con.zw,Con.bigs,bH] at h1 h2 ⊢;omega
end
def expr(a:Ca)(x:Ex):Ex×Int:=if a.ok=true then(if x.errX=0 then(if(chg a x).errX=0 then(chg a x,0) else(Ex.nil,(chg a x).errX)) else(Ex.nil,x.errX)) else(Ex.nil,8)
def conv(a:Ca)(c:Con):Con×Int:=if a.ok=true then(if c.errC=0 then(if(whole a.chg c).errC=0 then(whole a.chg c,0) else(Con.nil,(whole a.chg c).errC)) else(Con.nil,c.errC)) else(Con.nil,8)
end Ca
end Go.Nov
end
section
set_option maxRecDepth 100000
open Go Go.Sx Go.Proofs Go.Nov
namespace Go.Proofs.Tryz
attribute [local simp] eqKV eqA eqA0 eqH eqB eqL eqL0
noncomputable def GPex:=tb xD (tb Q3 (tb QF tz))
def jK(a:Ca):Prop:=a.name.length<=1000/\a.into.length<=1000/\a.ratio.length<=1000/\a.extra.length<=1000
theorem xr{a:Ca}(h:jK a):jE a:=by
 obtain⟨h1,h2,h3,h4⟩:=h;exact⟨by omega,by omega,by omega,by omega⟩
theorem zlj{a:Ca}{x:Ex}(ha:jK a)(h1:x.size<2^20)(h2:x.zo<2^30):(a.chg x).size<2^40/\(a.chg x).zo<2^40:=by
 obtain⟨_,a2,a3,a4⟩:=ha;obtain⟨s1,s2⟩:=Ca.uV a x;have:x.size*(a.into.length+a.ratio.length+a.extra.length)<=2^20*3000:=Nat.mul_le_mul (by omega) (by omega);omega
theorem XG{e:Int} : eqA2 (.tup [.agg [.int .u8 0,.str [],.str [],.i 0,.nils],.i e]) (.tup [exD Ex.nil,.i e]):=by
 simp [eqA2,eqL1,exD,Ex.nil,Ex.kind,Ex.rat,Ex.name,Ex.date,Ex.sub]
theorem zqu{x:Ex}(h:x.errX=0):x.zu≠0:=by
 intro e;unfold Ex.errX at h;rw [aP e] at h;split at h<;>simp at h
def zom:Ctr:=ctrP false (λp:Ca×Ex=>[p.1.av,p.2.exA]) (λp=>jK p.1/\p.2.size<2^20/\p.2.zo<2^30) (λ_ (_:Unit)=>True) (λp _=>(.tup [exD (p.1.expr p.2).1,.i (p.1.expr p.2).2],[]))
abbrev q48(A:List AV)(x:Ca×Ex):Prop:=eqL A [.agg [.str x.1.name,.str x.1.into,.i x.1.date,.str x.1.ratio,.str x.1.extra],x.2.exA]/\Ex.size x.2<1099511627776
abbrev q47(A:List AV)(x:Ca):Prop:=eqL A [.agg [.str x.name,.str x.into,.i x.date,.str x.ratio,.str x.extra]]/\jE x
theorem zpa:zc prog 15 zom:=by
 refine zf' f15 λp hp O w0 Q hq=> ?_
 obtain⟨a,x⟩:=p;replace hq:=hq () trivial;refine zb.n GPex.h [] (let v4:=[AV.str a.name,AV.str a.into,AV.i a.date,AV.str a.ratio,AV.str a.extra];let v3:List AV:=[.int .u8 x.kind,.str x.rat,.str x.name,.i x.date,.sl x.sub.length 5 (Ex.exG x.sub)];let v2:List AV:=[.str a.name,.str a.into,.i a.date,.str a.ratio,.str a.extra];let v1:List AV:=[.int .u8 0,.str #[].toList,.str #[].toList,.i 0,.nils];.ex (q47 [.agg v4]) λn=>.all (λ(r:Int)=>r=if Ca.ok n=true then(0:Int) else(8:Int)) λn=>.N (n=0) (.R [.agg v1,.i n] [.box v2,.box v3,.box v1]) (.ex (q29 [x.exA]) λn=>.all (λ(r:Int)=>r=Ex.errX n) λn=>.N (n=0) (.R [.agg v1,.i n] [.box v2,.box v3,.box v1]) (.ex (q48 [.agg v4,x.exA]) λn=>let v5:=Ca.adj n.1 n.2;.A λn_1=>.ex (q29 [(exD v5)]) λn_2=>.all (λ(r:Int)=>r=Ex.errX n_2) λn_3=>.N (n_3=0) (.R [.agg v1,.i n_3] [.box v2,.box v3,.box v1,.box (Ex.cellsD v5)]) (.R [(exD v5),.i 0] [.box v2,.box v3,.box (Ex.cellsD v5),.box (Ex.cellsD v5)])))) ?_;simp only [q29,q47,q48,Tree.holds,ze];obtain⟨ht,hx1,hx2⟩:=hp;simp only at ht hx1 hx2 hq;obtain⟨c1,c2⟩:=zlj ht hx1 hx2;unfold Ca.expr at hq;have ha:eqA (.agg [.str a.name,.str a.into,.i a.date,.str a.ratio,.str a.extra]) a.av:=⟨rfl,rfl,⟨rfl,rfl⟩,rfl,rfl,trivial⟩;refine⟨a,⟨⟨ha,trivial⟩,xr ht⟩,⟨_,rfl⟩,?_⟩;rintro _ rfl;by_cases hok:a.ok=true
 ·rw [aP hok] at hq ⊢;refine⟨λh=>by simp at h,λ_=> ?_⟩;refine⟨x,⟨⟨qF x,trivial⟩,by omega,by omega⟩,⟨_,rfl⟩,?_⟩;rintro _ rfl;refine⟨λh=> ?_,λh=> ?_⟩<;>simp at h
  ·rw [aO h] at hq;exact RetR.out0 hq (λh=>by cases h) XG
  have e:a.adj x=a.chg x:=Ca.XS a x (zqu h);rw [aP h] at hq;refine⟨(a,x),⟨⟨ha,qF x,trivial⟩,by show x.size<_; omega⟩,⟨(),trivial⟩,λ_ _=> ?_⟩;simp only [e];refine⟨a.chg x,⟨⟨kS _,trivial⟩,c1,c2⟩,⟨_,rfl⟩,?_⟩;rintro _ rfl;refine⟨λh=> ?_,λh=> ?_⟩<;>simp at h
  ·rw [aO h] at hq;exact RetR.out0 hq (λh=>by cases h) XG
  rw [aP h] at hq;exact RetR.le0 hq (λh=>by cases h) (LeA.refl _)
 ·rw [aO hok] at hq ⊢;exact⟨λ_=>RetR.out0 hq (λh=>by cases h) XG,λh=>by simp at h⟩
end Go.Proofs.Tryz
end
section
namespace Go.Sx
variable [Stat]
def Ut(P:Program)(g sz bytes:Nat):Prop:=∀ (b off n c i m vb voff vc:Nat) (cur vcur:Array Value) (el vel:TypeId) (w:World),0<m->i<n->n<=c->(n+m)*bytes<=140737488355328->vb≠b ->
 w.heap[b]?=some (.cells cur el (0,0))->w.heap[vb]?=some (.cells vcur vel (0,0))->off+c*sz<=cur.size->voff+m*sz<=vcur.size ->
 (∀ (j:Nat) (v:Value),j<n*sz->cur[off+j]?=some v->v.oneCell'=true)->(∀ (j:Nat) (v:Value),j<m*sz->vcur[voff+j]?=some v->v.oneCell'=true) ->
 Calls P g #[.slice (some ⟨b,off,none⟩) n c,.i i,.slice (some ⟨vb,voff,none⟩) m vc] w λe w'=>∃ (b' o' c':Nat) (cur':Array Value) (el':TypeId),
  e = .returned (.slice (some ⟨b',o',none⟩) (n+m) c')/\n+m<=c'/\w'.heap[b']?=some (.cells cur' el' (0,0))/\o'+c'*sz<=cur'.size /\
  (∀ j,j<(n+m)*sz->cur'[o'+j]?=if j<i*sz then cur[off+j]? else if j<i*sz+m*sz then vcur[voff+(j - i*sz)]? else cur[off+(j - m*sz)]?) /\
  (b'=b\/w.heap.size<=b')/\w.heap.size<=w'.heap.size/\(∀ k,k<w.heap.size->k≠b->w'.heap[k]?=w.heap[k]?)/\w'.os=w.os/\w'.tape=w.tape/\w'.output=w.output
def Up(i m:Nat)(gl gv:Nat->Nat->AV):Nat->Nat->AV:=λj o=>if j<i then gl j o else if j<i+m then gv (j - i) o else gl (j - m) o
theorem zmq{P:Program}{g:Nat}{fn:Func}{c:Code}(hf:P.funcs[g]?=some fn)(hb:fn.body=some c) (hn:(fn.name == "runtime.NumGoroutine")=false) {sz bytes:Nat} (hsz:0<sz) (W:Ut P g sz bytes)
  {gl gv gt:Nat->Nat->AV} {n i m:Nat} (hm:0<m) (hi:i<n) (hbig:(n+m)*bytes<=140737488355328) (hgt:eqG (n+m) sz (Up i m gl gv) gt) {ctr:Ctr} (hfr:ctr.fresh=false) (hmv:ctr.wK=true) (hpi:ctr.pins=0) {Q:AV×Heap->Prop}
  (hq:Q (.osl 0 sz 0 (n+m),[.arr (n+m) sz gt,.dead])):jd P g ctr [.osl 0 sz 0 n,.i i,.osl 1 sz 0 m] [.arr n sz gl,.arr m sz gv] Q:=by
 intro O w σ vals hg hh hr;simp only [RepL] at hr;obtain⟨v0,r0,rfl,h0,v1,r1,rfl,h1,v2,r2,rfl,h2,rfl⟩:=hr;simp only [Rep] at h0 h1 h2;subst h1;obtain⟨e0,he0,hl0,a0,cap,rfl,hnc,hr0⟩:=h0;obtain⟨e1,he1,hl1,a1,vc,rfl,hvc,hr1⟩:=h2;rcases hr0 with hr0 | ⟨ad,had,rfl,cur,el,hcur,hsize⟩
 ·omega
 rcases hr1 with hr1 | ⟨vd,hvd,rfl,vcur,vel,hvcur,hvsize⟩
 ·omega
 obtain⟨hen0,hz0 | ⟨ad',cs0,el0,had',hcs0,hs0,hc0⟩⟩:=hh.blk 0 e0 _ he0 rfl
 ·omega
 rw [had] at had'; cases had';rw [hcur] at hcs0; cases hcs0;obtain⟨hen1,hz1 | ⟨vd',cs1,el1,hvd',hcs1,hs1,hc1⟩⟩:=hh.blk 1 e1 _ he1 rfl
 ·omega
 rw [hvd] at hvd'; cases hvd';rw [hvcur] at hcs1; cases hcs1;have hne:vd.block≠ad.block:=λh=>hh.inj 0 1 e0 e1 ad vd he0 he1 had hvd (by decide) h.symm
 have hmb:Mine σ ad.block:=⟨e0,aY he0,ad,had,rfl⟩;have hbw:ad.block<w.heap.size:=hh.lt 0 e0 ad he0 had;simp only [Nat.zero_mul,Nat.add_zero,Nat.zero_add] at hsize hvsize ⊢;have hn':¬ fn.name = "runtime.NumGoroutine" :=by simpa using hn
 left;refine⟨by simp [callFunc,hf,hn',hb],?_⟩;have hvfit:vd.off+m*sz<=vcur.size:=by simpa using hs1
 refine(W ad.block ad.off n cap i m vd.block vd.off vc cur vcur el vel w hm hi hnc hbig hne hcur hvcur hsize hvfit ?_ ?_).mono ?_
 ·intro j v hj hv;have ho:j%sz<sz:=Nat.mod_lt _ hsz;have hjn:j/sz<n:=Nat.div_lt_of_lt_mul (by rw [bJ]; exact hj);obtain⟨c,g1,g2,_⟩:=hc0 (j/sz) (j%sz) hjn ho;have:j/sz*sz+j%sz=j:=by rw [bJ]; exact Nat.div_add_mod j sz
  rw [this,hv] at g1;cases g1; exact g2
 ·intro j v hj hv;have ho:j%sz<sz:=Nat.mod_lt _ hsz;have hjn:j/sz<m:=Nat.div_lt_of_lt_mul (by rw [bJ]; exact hj);obtain⟨c,g1,g2,_⟩:=hc1 (j/sz) (j%sz) hjn ho;have:j/sz*sz+j%sz=j:=by rw [bJ]; exact Nat.div_add_mod j sz
  rw [this,hv] at g1;cases g1; exact g2
 rintro e w' ⟨b',o',c',cur',el',rfl,hc',hcur',hsz',hel,hb',hws,hkeep,hos,htape,hout⟩;refine⟨_,rfl,.osl 0 sz 0 (n+m),[.arr (n+m) sz gt,.dead],[⟨some ⟨b',o',none⟩,n+m⟩,⟨none,0⟩],hq,?_⟩;have hlt':b'<w'.heap.size:=(aQ.1 hcur').1
 have hmine:∀ b,Mine [⟨some ⟨b',o',none⟩,n+m⟩,⟨none,0⟩] b->b=b':=by
  rintro b ⟨e,he,ad2,h1,h2⟩;simp only [aM,List.not_mem_nil,or_false] at he;rcases he with rfl | rfl
  ·cases h1; exact h2.symm
  ·cases h1
 have hown:∀ b,Own O [⟨some ⟨b',o',none⟩,n+m⟩,⟨none,0⟩] b->O b\/b=b':=λb hb=>hb.imp id λh=>hmine b h
 have hx:Ext (Own O σ) w (λb=>Own O [⟨some ⟨b',o',none⟩,n+m⟩,⟨none,0⟩] b\/(ctr.fresh=true/\b<w.heap.size)) w':=by
  refine⟨hos,htape,hout,hws,λb hb hno=>hkeep b hb λh=>hno (.inr (h▸hmb)),λb hb=> ?_⟩;rcases hb with hb | ⟨hb,_⟩
  ·rcases hown b hb with hb | rfl
   ·exact .inl (.inl hb)
   ·rcases hb' with rfl | hb'
    ·exact .inl (.inr hmb)
    ·exact .inr hb'
  ·rw [hfr] at hb; cases hb
 refine⟨?_,⟨rfl,?_,?_,?_⟩,⟨λb hb=>bB (hg.old b hb) hws,?_,hg.stat.ext ⟨hx.os,hx.tape,hx.output,hx.size,hx.keep,λb hb=>hx.grow b (.inl hb)⟩⟩,aJ _,?_,⟨hos,htape,hout,hws,λb hb hno=>hkeep b hb λh=>hno (h▸hmb),λb hb=> ?_⟩⟩
 ·simp only [Rep];exact⟨⟨some ⟨b',o',none⟩,n+m⟩,rfl,by simp,some ⟨b',o',none⟩,c',rfl,hc',.inr ⟨⟨b',o',none⟩,rfl,by simp,cur',el',hcur',by simpa using hsz'⟩⟩
 ·intro i j e f a b he hf ha hb hij
  match i,j with
  | 0,0=>exact absurd rfl hij
  | 0,1=>simp at hf; subst hf; cases hb
  | 1,_=>simp at he; subst he; cases ha
  | 0,j+2=>simp at hf
  | i+2,_=>simp at he
 ·intro i e a he ha
  match i with
  | 0=>simp at he; subst he; cases ha; exact hlt'
  | 1=>simp at he; subst he; cases ha
  | i+2=>simp at he
 ·intro k e b he hb
  match k with
  | 0=>
   simp at he hb; subst he; subst hb;refine⟨rfl,.inr ⟨_,cur',el',rfl,hcur',?_,λj o hj ho=> ?_⟩⟩
   ·have:(n+m)*sz<=c'*sz:=aT _ hc';simp only; omega
   ·have hlt:=ZX hj ho;have he:=hel (j*sz+o) hlt;have hg2:=hgt j o hj ho;simp only;rw [he,<- hg2];simp only [Up];by_cases h1:j<i
    ·rw [aP (ZX h1 ho),aP h1];obtain⟨c,g1,g2,g3⟩:=hc0 j o (by omega) ho;exact⟨c,g1,g2,z8 hx _ _ g3⟩
    ·have h2:¬ j*sz+o<i*sz:=by
      have:i*sz<=j*sz:=aT _ (by omega);omega
     rw [aO h2,aO h1];have hmul:(i+m)*sz=i*sz+m*sz:=bH _ _ _;by_cases h3:j<i+m
     ·have hjs:(j - i)*sz+i*sz=j*sz:=by rw [<- bH]; congr 1; omega
      have:=ZX (a:=j - i) (b:=m) (sz:=sz) (by omega) ho;rw [aP (by omega),aP h3];obtain⟨c,g1,g2,g3⟩:=hc1 (j - i) o (by omega) ho;refine⟨c,?_,g2,z8 hx _ _ g3⟩;rw [<- g1]; congr 1; omega
     ·have h4:(i+m)*sz<=j*sz:=aT _ (by omega);rw [aO (by omega),aO h3];obtain⟨c,g1,g2,g3⟩:=hc0 (j - m) o (by omega) ho;refine⟨c,?_,g2,z8 hx _ _ g3⟩;rw [<- g1]; congr 1;have:(j - m)*sz+m*sz=j*sz:=by rw [<- bH]; congr 1; omega
      omega
  | 1=>simp at hb; subst hb; trivial
  | k+2=>simp at he
 ·intro k e ad2 he had2
  match k with
  | 0=>
   simp at he; subst he; cases had2;simp only;rcases hb' with rfl | hb'
   ·exact hg.dis 0 e0 ad he0 had
   ·intro hO; have:=hg.old _ hO; omega
  | 1=>simp at he; subst he; cases had2
  | k+2=>simp at he
 ·rw [hmv,hpi];intro k e he hk;simp only [if_true,List.drop_zero,List.mem_range] at hk;have hlt:=(aG.1 he).1;have hl:=hh.len;simp at hl hk;omega
 ·rcases hmine b hb with rfl;rcases hb' with rfl | hb'
  ·exact .inl hmb
  ·exact .inr hb'
end Go.Sx
end
section
set_option maxRecDepth 100000
open Go Go.Sx Go.Proofs Go.Nov
namespace Go.Proofs.Tryz
attribute [local simp] eqKV eqA eqA0 eqH eqB eqL eqL0
theorem zc5:Ut prog 36 3 40:=by
 intro b off n c i m vb voff vc cur vcur el vel w hm hi hnc hbig hne hB hV hfit hvfit h1 h2
 have hcl:((cur.toList.drop off).take (n*3)).length=n*3:=by
  have:n*3<=c*3:=aT _ hnc;simp; omega
 have hvl:((vcur.toList.drop voff).take (m*3)).length=m*3:=by simp; omega
 have hcs:∀ j v,((cur.toList.drop off).take (n*3))[j]?=some v->w.cell? ⟨b,off+j,none⟩=some v:=λj v hj=>by
  rw [xe] at hj;split at hj
  ·simp only [World.cell?,hB]; simpa using hj
  ·cases hj
 have hvs:∀ j v,((vcur.toList.drop voff).take (m*3))[j]?=some v->w.cell? ⟨vb,voff+j,none⟩=some v:=λj v hj=>by
  rw [xe] at hj;split at hj
  ·simp only [World.cell?,hV]; simpa using hj
  ·cases hj
 have h1c:∀ v∈(cur.toList.drop off).take (n*3),v.oneCell'=true:=λv hv=>by
  obtain⟨j,hj⟩:=List.getElem?_of_mem hv;rw [xe] at hj;split at hj
  ·rename_i hlt; exact h1 j v hlt (by simpa using hj)
  ·cases hj
 have h1v:∀ v∈(vcur.toList.drop voff).take (m*3),v.oneCell'=true:=λv hv=>by
  obtain⟨j,hj⟩:=List.getElem?_of_mem hv;rw [xe] at hj;split at hj
  ·rename_i hlt; exact h2 j v hlt (by simpa using hj)
  ·cases hj
 have hcg:∀ j,j<n*3->((cur.toList.drop off).take (n*3))[j]?=cur[off+j]?:=λj hj=>by rw [xe,aP hj]; simp
 have hvg:∀ j,j<m*3->((vcur.toList.drop voff).take (m*3))[j]?=vcur[voff+j]?:=λj hj=>by rw [xe,aP hj]; simp
 generalize (cur.toList.drop off).take (n*3)=cs at hcl hcs h1c hcg;generalize (vcur.toList.drop voff).take (m*3)=vs at hvl hvs h1v hvg;have hin3:i*3+3<=n*3:=by have:=aT 3 (show i+1<=n from hi); omega
 have him:(i+m)*3=i*3+m*3:=bH _ _ _;have hnm3:(n+m)*3=n*3+m*3:=bH _ _ _;have hdl:(cs.drop (i*3)).length=n*3 - i*3:=by rw [bV,hcl]
 have hbw:b<w.heap.size:=(aQ.1 hB).1;by_cases hroom:n+m<=c
 ·have hcn:(n+m)*3<=c*3:=aT _ hroom;obtain⟨X1,hX1⟩:∃ X1,X1=cur.toList.take (off+(i+m)*3)++cs.drop (i*3)++cur.toList.drop (off+(i+m)*3+(cs.drop (i*3)).length):=⟨_,rfl⟩;obtain⟨X2,hX2⟩:∃ X2,X2=X1.take (off+i*3)++vs++X1.drop (off+i*3+vs.length):=⟨_,rfl⟩;have hX1l:X1.length=cur.size:=by rw [hX1]; simp only [bO,aH,bV,Array.length_toList,hdl,hcl]; omega
  have hX2l:X2.length=cur.size:=by rw [hX2]; simp only [bO,aH,bV,hX1l,hvl]; omega
  have g1:∀ k:Nat,X1[k]?=(if k<off+(i+m)*3 then cur.toList[k]? else if k<off+(i+m)*3+(cs.drop (i*3)).length then(cs.drop (i*3))[k - (off+(i+m)*3)]? else cur.toList[k]?):=λk=>by rw [hX1]; exact xu (by simp only [Array.length_toList,hdl]; omega) k
  have g2:∀ k:Nat,X2[k]?=(if k<off+i*3 then X1[k]? else if k<off+i*3+(vs).length then(vs)[k - (off+i*3)]? else X1[k]?):=λk=>by rw [hX2]; exact xu (by rw [hX1l,hvl]; omega) k
  refine(Yz b off n c i m vb voff vc cur vcur el vel cs vs w hm hi hroom (by omega) hne hB hV hfit hcl hvl hcs hvs h1c h1v X1 X2 hX1 hX2).mono ?_;rintro e w' ⟨he,hh,hos,htape,hout⟩;refine⟨b,off,c,X2.toArray,el,he,hroom,?_,by simp only [List.size_toArray,hX2l]; omega,?_,.inl rfl,?_,?_,hos,htape,hout⟩
  ·rw [hh]; exact setRow_heap _ b _ _ el _ (setRow_heap w b cur _ el _ hB)
  ·intro j hj;simp only [List.getElem?_toArray,g2,g1,hvl,hdl];by_cases k1:j<i*3
   ·rw [aP (by omega),aP (by omega),aP k1]; simp
   ·rw [aO (by omega),aO k1];by_cases k2:j<i*3+m*3
    ·rw [aP (by omega),aP k2,show off+j - (off+i*3)=j - i*3 by omega,hvg _ (by omega)]
    ·rw [aO (by omega),aO k2,aO (by omega),aP (by omega),List.getElem?_drop,hcg _ (by omega)]; congr 1; omega
  ·rw [hh]; simp
  ·intro k hk hkb;rw [hh,setRow_other _ b k _ hkb,setRow_other _ b k _ hkb]
 ·have hc1:c<n+m:=by omega
  obtain⟨G,hG⟩:∃ G,G=grownCap w (n+m) c 60:=⟨_,rfl⟩;have hGn:n+m<=G:=by rw [hG]; exact grownCap_ge w _ _ _
  obtain⟨zs,hz⟩:∃ zs:List Value,Builtin.zeroCells (Value.agg #[.string ⟨#[]⟩,.i 0,.string ⟨#[]⟩]).cells (n+m - i)=zs.toArray:=⟨_,(Array.toArray_toList).symm⟩;obtain⟨rest,hrest⟩:∃ zs:List Value,Builtin.zeroCells (Value.agg #[.string ⟨#[]⟩,.i 0,.string ⟨#[]⟩]).cells (G - (n+m))=zs.toArray:=⟨_,(Array.toArray_toList).symm⟩
  have hzl:zs.length=(n+m - i)*3:=by
   have:=congrArg Array.size hz;simpa [Builtin.zeroCells,Value.cells] using this.symm
  have hrl:rest.length=(G - (n+m))*3:=by
   have:=congrArg Array.size hrest;simpa [Builtin.zeroCells,Value.cells] using this.symm
  obtain⟨ROW,hROW⟩:∃ ROW,ROW=cs.take (i*3)++zs++rest:=⟨_,rfl⟩;obtain⟨X1,hX1⟩:∃ X1,X1=ROW.take (i*3)++vs++ROW.drop (i*3+vs.length):=⟨_,rfl⟩;obtain⟨X2,hX2⟩:∃ X2,X2=X1.take ((i+m)*3)++cs.drop (i*3)++X1.drop ((i+m)*3+(cs.drop (i*3)).length):=⟨_,rfl⟩;have hsum:(n+m)*3+(G - (n+m))*3=G*3:=by rw [<- bH]; congr 1; omega
  have hsum2:i*3+(n+m - i)*3=(n+m)*3:=by rw [<- bH]; congr 1; omega
  have hROWl:ROW.length=G*3:=by
   rw [hROW]; simp only [bO,aH,hcl,hzl,hrl]; omega
  have hX1l:X1.length=G*3:=by rw [hX1]; simp only [bO,aH,bV,hROWl,hvl]; omega
  have hX2l:X2.length=G*3:=by rw [hX2]; simp only [bO,aH,bV,hX1l,hdl,hcl]; omega
  have g1:∀ k:Nat,X1[k]?=(if k<i*3 then ROW[k]? else if k<i*3+(vs).length then(vs)[k - (i*3)]? else ROW[k]?):=λk=>by rw [hX1]; exact xu (by rw [hROWl,hvl]; omega) k
  have g2:∀ k:Nat,X2[k]?=(if k<(i+m)*3 then X1[k]? else if k<(i+m)*3+(cs.drop (i*3)).length then(cs.drop (i*3))[k - ((i+m)*3)]? else X1[k]?):=λk=>by rw [hX2]; exact xu (by rw [hX1l,hdl]; omega) k
  have g0:∀ k,k<i*3->ROW[k]?=cs[k]?:=λk hk=>by
   rw [hROW,List.append_assoc,bL (by rw [aH]; omega),bR,aP hk]
  refine(zbw b off n c i m vb voff vc cur vcur el vel cs vs w hm hi hnc hc1 hbig hB hV hcl hvl hcs hvs h1c h1v zs hz G hG rest hrest ROW X1 X2 hROW hX1 hX2).mono ?_;rintro e w' ⟨he,hh,hos,htape,hout⟩;refine⟨w.heap.size,0,G,X2.toArray,60,he,hGn,?_,by simp only [List.size_toArray,hX2l]; omega,?_,.inr (aJ _),?_,?_,hos,htape,hout⟩
  ·rw [hh];exact setRow_heap _ w.heap.size _ _ _ _ (setRow_heap _ w.heap.size _ _ _ _ (show((w.heap.push _))[w.heap.size]?=some (.cells ROW.toArray 60 (0,0)) from Array.getElem?_push_size))
  ·intro j hj;simp only [List.getElem?_toArray,Nat.zero_add,g2,g1,hvl,hdl];by_cases k1:j<i*3
   ·rw [aP (by omega),aP k1,aP k1,g0 j k1,hcg j (by omega)]
   ·simp only [aO k1];by_cases k2:j<i*3+m*3
    ·rw [aP (by omega)];simp only [aP k2];exact hvg _ (by omega)
    ·simp only [aO k2];rw [aO (by omega),aP (by omega),List.getElem?_drop,hcg _ (by omega)]; congr 1; omega
  ·rw [hh,setRow_size,setRow_size];show _<=(w.heap.push _).size;rw [Array.size_push]; omega
  ·intro k hk hkb;rw [hh,setRow_other _ _ k _ (by omega),setRow_other _ _ k _ (by omega)];show(w.heap.push _)[k]?=_;rw [Array.getElem?_push,aO (by omega)]
theorem Y9{l x:List Fx}{i:Nat}(hi:i<=l.length):eqG (l.length+x.length) 3 (Up i x.length (fxG l) (fxG x)) (fxG (l.take i++x++l.drop i)):=by
 intro j o hj ho;have hlt:(l.take i).length=i:=by rw [aH]; omega
 have e:fxG (l.take i++x++l.drop i) j o=((l.take i++x++l.drop i).getD j Fx.nil).cell o:=rfl;simp only [Up];rw [e];simp only [List.getD,bT,bO,hlt];by_cases h1:j<i
 ·rw [aP h1,aP (by omega),aP h1,bR,aP h1]; rfl
 ·rw [aO h1];by_cases h2:j<i+x.length
  ·rw [aP h2,aP h2,aO h1]; rfl
  ·rw [aO h2,aO h2,List.getElem?_drop,show i+(j - (i+x.length))=j - x.length by omega]; rfl
def zrq:Ctr:=ctrT false true (λp:List Fx×List Fx×Nat=>[.osl 0 3 0 p.1.length,.i (p.2.2:Int),.osl 1 3 0 p.2.1.length]) (λp=>[.arr p.1.length 3 (fxG p.1),.arr p.2.1.length 3 (fxG p.2.1)]) (λp=>p.2.2<=p.1.length/\p.1.length<2^40/\p.2.1.length<2^40) (λ_ (_:Unit)=>True) (λp (_:Unit)=>(.osl 0 3 0 (p.1.length+p.2.1.length),[.arr (p.1.length+p.2.1.length) 3 (fxG (p.1.take p.2.2++p.2.1++p.1.drop p.2.2)),.dead]))
def zkb:Ctr:=ctrT false true (λp:List Fx×List Fx×Nat=>[.osl 0 3 0 p.1.length,.i (p.2.2:Int),.osl 1 3 0 p.2.1.length]) (λp=>[.arr p.1.length 3 (fxG p.1),.arr p.2.1.length 3 (fxG p.2.1)]) (λp=>(p.2.2=p.1.length\/p.2.1=[])/\p.2.2<=p.1.length/\p.1.length<2^40/\p.2.1.length<2^40) (λ_ (_:Unit)=>True) (λp (_:Unit)=>(.osl 0 3 0 (p.1.length+p.2.1.length),[.arr (p.1.length+p.2.1.length) 3 (fxG (p.1.take p.2.2++p.2.1++p.1.drop p.2.2)),.dead]))
theorem YK:zc prog 36 zkb:=by
 refine zH (fn:=f36) (c:=f36.body.getD .skip) rfl rfl rfl (λh=>by cases h) λp hp O w0 I0 Q hl0 hq=> ?_
 obtain⟨l,x,i⟩:=p;obtain⟨h0,h1,h2,h3⟩:=hp;replace hq:=hq () trivial;simp only at hq h0 h1 h2 h3;refine zb.n zD [] (let v1:=l.length+x.length;.side ((0:Int)<=i/\(i:Int)<=l.length) (.D ((x.length:Int)=0) (.R [.osl 0 3 0 l.length] [.arr l.length 3 (fxG l),.arr x.length 3 (fxG x)]) (.D ((i:Int)=l.length) (.side (0=0/\l.length<=l.length/\v1 *40<=140737488355328) (.R [.osl 0 3 0 v1] [.arr v1 3 (appG l.length (fxG l) (zg (fxG x) 0)),.arr x.length 3 (fxG x)])) (.S ((l.length:Int)+x.length) .fail)))) ?_;simp only [Tree.holds,ze]
 have fin:∀ (h:Heap) (g:Nat->Nat->AV) (m:Nat),h=[.arr (l.length+x.length) 3 g,.arr m 3 (fxG x)]->eqG (l.length+x.length) 3 g (fxG (l.take i++x++l.drop i))->RetR zkb 2 Q [.osl 0 3 0 (l.length+x.length)] h:=by
  rintro h g m rfl hg;refine RetR.keep [0,1] rfl rfl (by show ∀ j,j<2->_; decide) rfl hq (by simp [resV,exp2,exp1,exp0,zy,eqA2]) ?_ rfl;exact⟨⟨rfl,rfl,hg⟩,trivial,trivial⟩
 refine⟨by omega,λ_=>⟨λh=> ?_,λh=>⟨λh'=>⟨⟨trivial,aJ _,by omega⟩,λ_=> ?_⟩,λh'=> ?_⟩⟩⟩
 ·have hx:x=[]:=by have:=aB h; exact aU.1 (by omega)
  subst hx;exact fin _ (fxG l) 0 rfl (by simp [za])
 ·have e:i=l.length:=by have:=aB h'; omega
  refine fin _ _ _ rfl ?_;have:=Y9 (x:=x) h1;refine yP ?_ this;intro j o hj ho;simp only [appG,Up,zg,Nat.zero_add,e];split
  ·rfl
  ·rfl
 ·rcases h0 with h0 | h0
  ·exact absurd h0 (by have:=aC h'; omega)
  ·subst h0; simp at h
theorem zri:zc prog 36 zrq:=by
 intro args hc Q hq hfr;obtain⟨⟨l,x,i⟩,⟨h1,h2,h3,h4,h5,h8⟩,h6,h7⟩:=hq;simp only at h1 h2 h3 h4 h5 h7 h8;rcases aR i l.length with hlt | hge
 ·rcases bC x.length with hx | hx
  ·exact YK args hc Q ⟨(l,x,i),⟨h1,h2,h3,.inr (aU.1 hx),h4,h5,h8⟩,h6,h7⟩ hfr
  ·exact jd.le h1 (jd.leH h2 h3 (zmq (fn:=f36) (c:=f36.body.getD .skip) rfl rfl rfl (by decide) zc5 hx hlt (by omega) (Y9 h4) rfl rfl rfl (h7 () trivial)))
 ·exact YK args hc Q ⟨(l,x,i),⟨h1,h2,h3,.inl (by show i=l.length; omega),h4,h5,h8⟩,h6,h7⟩ hfr
end Go.Proofs.Tryz
end
section
namespace Go.Nov
open Go.Sx
structure Ev where
 v:L8
 e:Int
 b:Bool
 g:Int
abbrev Ev.nil:Ev:=⟨[],0,false,0⟩
def wH(k:Int)(a b:L8):L8×Int:=
 if k=7 then(if(cmpR a b).2≠0 then([],(cmpR a b).2) else(if(cmpR a b).1<0 then b else a,0))
 else(if(cmpR b a).2≠0 then([],(cmpR b a).2) else(if(cmpR b a).1<0 then b else a,0))
def opR(k:Int)(a b:L8):L8×Int:=if k=4 then addR a b else if k=5 then subR a b else if k=6 then mulR a b else wH k a b
def fixR(f:List Fx)(a:L8)(d:Int):L8×Int:=if(zF f a d).2=true then((zF f a d).1,0) else([],30)
def wv{α:Type}(z:α)(l0 l1:Ev)(f:L8->L8->α×Int):α×Int:=if l0.e≠0 then(z,l0.e) else if l1.e≠0 then(z,l1.e) else f l0.v l1.v
def valN(f:List Fx)(day k:Int)(r n:L8)(d:Int)(l:List Ev):L8×Int:=
 if k=1 then(r,0) else if k=2 then fixR f n d else if k=3 then fixR f n day
 else if k=9 then(if(l.getD 0 Ev.nil).g≠0 then([],(l.getD 0 Ev.nil).g) else if(l.getD 0 Ev.nil).b then((l.getD 1 Ev.nil).v,(l.getD 1 Ev.nil).e) else((l.getD 2 Ev.nil).v,(l.getD 2 Ev.nil).e))
 else wv [] (l.getD 0 Ev.nil) (l.getD 1 Ev.nil) (opR k)
def YA(k:Int)(a b:L8):Bool×Int:=if(cmpR a b).2≠0 then(false,(cmpR a b).2) else(if k=11 then decide ((cmpR a b).1<0) else decide ((cmpR a b).1=0),0)
def hldN(k:Int)(l:List Ev):Bool×Int:=
 if 13<=k then(if(l.getD 0 Ev.nil).g≠0 then(false,(l.getD 0 Ev.nil).g) else if k=15 then(!(l.getD 0 Ev.nil).b,0)
  else if(l.getD 0 Ev.nil).b=decide (k=14) then((l.getD 0 Ev.nil).b,0) else((l.getD 1 Ev.nil).b,(l.getD 1 Ev.nil).g))
 else wv false (l.getD 0 Ev.nil) (l.getD 1 Ev.nil) (YA k)
def evN(f:List Fx)(day k:Int)(r n:L8)(d:Int)(l:List Ev):Ev:=⟨(valN f day k r n d l).1,(valN f day k r n d l).2,(hldN k l).1,(hldN k l).2⟩
namespace Ex
mutual
def ev(f:List Fx)(day:Int):Ex->Ev
 | mk k r n d s=>evN f day k r n d (evs f day s)
def evs(f:List Fx)(day:Int):List Ex->List Ev
 | []=>[]
 | x::l=>ev f day x::evs f day l
end
theorem qG{f:List Fx}{day:Int}{s:List Ex}{i:Nat}(h:i<s.length):(evs f day s).getD i Ev.nil=(s.getD i nil).ev f day:=by
 induction s generalizing i with
 | nil=>simp at h
 | cons x s ih=>
  rw [evs];cases i with
  | zero=>rfl
  | succ i=>exact ih (by simpa using h)
theorem Qa{x:Ex}(h:x.zu=1):(x.kind=1/\errR x.rat=0)\/x.kind=2\/x.kind=3 \/
  ((4<=x.kind/\x.kind<=8)/\x.sub.length=2/\(x.sub.getD 0 nil).zu=1/\(x.sub.getD 1 nil).zu=1) \/
  (x.kind=9/\x.sub.length=3/\(x.sub.getD 0 nil).zu=2/\(x.sub.getD 1 nil).zu=1/\(x.sub.getD 2 nil).zu=1):=by
 rw [Wz] at h;by_cases hk:qK x.kind=true
 ·have hk2:(4<=x.kind/\x.kind<=9)\/(11<=x.kind/\x.kind<=15):=by
   by_cases h1:4<=x.kind/\x.kind<=9
   ·exact .inl h1
   ·by_cases h2:11<=x.kind/\x.kind<=15
    ·exact .inr h2
    ·rw [zcy h1 h2] at hk; cases hk
  have two:∀ {k:Int} {ps:List Int} {w:Int},uj k=some (ps,w)->wL k x.rat x.name x.date (qf x.sub)=1->w=1/\x.sub.length=ps.length/\∀ i,i<x.sub.length->(x.sub.getD i nil).zu=ps.getD i 0:=by
   intro k ps w hs hn;rw [Ke hs] at hn;split at hn
   ·rename_i hc;exact⟨hn,Ze.1 hc.2⟩
   ·cases hn
  generalize x.kind=k at h hk2 ⊢;have hk3:k=4\/k=5\/k=6\/k=7\/k=8\/k=9\/k=11\/k=12\/k=13\/k=14\/k=15:=by omega
  right; right; right;rcases hk3 with rfl | rfl | rfl | rfl | rfl | rfl | rfl | rfl | rfl | rfl | rfl
  iterate 5
   ·left;obtain⟨_,h2,h3⟩:=two rfl h;exact⟨by decide,h2,h3 0 (by rw [h2]; decide),h3 1 (by rw [h2]; decide)⟩
  ·right;obtain⟨_,h2,h3⟩:=two rfl h;exact⟨rfl,h2,h3 0 (by rw [h2]; decide),h3 1 (by rw [h2]; decide),h3 2 (by rw [h2]; decide)⟩
  all_goals
   obtain⟨h1,_⟩:=two rfl h;cases h1
 ·have hk:qK x.kind=false:=by simpa using hk
  rw [wN hk] at h;split at h
  ·rename_i hl;simp only [je,bA] at hl;obtain⟨_,hl⟩:=hl;split at hl
   ·rename_i h1;simp only [bA,aK] at hl;exact .inl ⟨h1,hl.1.1⟩
   ·split at hl
    ·rename_i h2; exact .inr (.inl h2)
    ·split at hl
     ·rename_i h3; exact .inr (.inr (.inl h3))
     ·cases hl
  ·cases h
theorem QD{x:Ex}(h:x.zu=2):((x.kind=11\/x.kind=12)/\x.sub.length=2/\(x.sub.getD 0 nil).zu=1/\(x.sub.getD 1 nil).zu=1) \/
  ((x.kind=13\/x.kind=14)/\x.sub.length=2/\(x.sub.getD 0 nil).zu=2/\(x.sub.getD 1 nil).zu=2)\/(x.kind=15/\x.sub.length=1/\(x.sub.getD 0 nil).zu=2):=by
 rw [Wz] at h;by_cases hk:qK x.kind=true
 ·have hk2:(4<=x.kind/\x.kind<=9)\/(11<=x.kind/\x.kind<=15):=by
   by_cases h1:4<=x.kind/\x.kind<=9
   ·exact .inl h1
   ·by_cases h2:11<=x.kind/\x.kind<=15
    ·exact .inr h2
    ·rw [zcy h1 h2] at hk; cases hk
  have two:∀ {k:Int} {ps:List Int} {w:Int},uj k=some (ps,w)->wL k x.rat x.name x.date (qf x.sub)=2->w=2/\x.sub.length=ps.length/\∀ i,i<x.sub.length->(x.sub.getD i nil).zu=ps.getD i 0:=by
   intro k ps w hs hn;rw [Ke hs] at hn;split at hn
   ·rename_i hc;exact⟨hn,Ze.1 hc.2⟩
   ·cases hn
  generalize x.kind=k at h hk2 ⊢;have hk3:k=4\/k=5\/k=6\/k=7\/k=8\/k=9\/k=11\/k=12\/k=13\/k=14\/k=15:=by omega
  rcases hk3 with rfl | rfl | rfl | rfl | rfl | rfl | rfl | rfl | rfl | rfl | rfl
  iterate 6
   ·obtain⟨h1,_⟩:=two rfl h;cases h1
  ·obtain⟨_,h2,h3⟩:=two rfl h;exact .inl ⟨.inl rfl,h2,h3 0 (by rw [h2]; decide),h3 1 (by rw [h2]; decide)⟩
  ·obtain⟨_,h2,h3⟩:=two rfl h;exact .inl ⟨.inr rfl,h2,h3 0 (by rw [h2]; decide),h3 1 (by rw [h2]; decide)⟩
  ·obtain⟨_,h2,h3⟩:=two rfl h;exact .inr (.inl ⟨.inl rfl,h2,h3 0 (by rw [h2]; decide),h3 1 (by rw [h2]; decide)⟩)
  ·obtain⟨_,h2,h3⟩:=two rfl h;exact .inr (.inl ⟨.inr rfl,h2,h3 0 (by rw [h2]; decide),h3 1 (by rw [h2]; decide)⟩)
  ·obtain⟨_,h2,h3⟩:=two rfl h;exact .inr (.inr ⟨rfl,h2,h3 0 (by rw [h2]; decide)⟩)
 ·have hk:qK x.kind=false:=by simpa using hk
  rw [wN hk] at h;split at h<;>cases h
end Ex
theorem znn{f:List Fx}{a:L8}{d:Int}(h:(zF f a d).2=false):(zF f a d).1=[]:=by
 unfold zF at h ⊢;split
 ·rename_i y hy; rw [hy] at h; cases h
 ·rfl
theorem XP{f:List Fx}(hf:f.all okF=true){a:L8}{d:Int}(h:(fixR f a d).2=0):errR (fixR f a d).1=0:=by
 unfold fixR at h ⊢;split
 ·rename_i h1;unfold zF at h1 ⊢;split at h1
  ·rename_i y hy;have hm:=List.mem_of_find?_eq_some hy;have:=bG.1 hf _ hm;simp only [okF,bA,aK] at this;exact this.2
  ·cases h1
 ·rename_i h1;rw [aO h1] at h;cases h
theorem zkj{k:Int}{a b:L8}(ha:errR a=0)(hb:errR b=0)(h:(wH k a b).2=0):errR (wH k a b).1=0:=by
 unfold wH at h ⊢;split
 ·rename_i h1;rw [aP h1] at h;split
  ·rename_i h2; rw [aP h2] at h; exact absurd h h2
  ·simp only; split<;>assumption
 ·rename_i h1;rw [aO h1] at h;split
  ·rename_i h2; rw [aP h2] at h; exact absurd h h2
  ·simp only; split<;>assumption
theorem zun{k:Int}{a b:L8}(ha:errR a=0)(hb:errR b=0)(h:(opR k a b).2=0):errR (opR k a b).1=0:=by
 unfold opR at h ⊢;split
 ·rename_i h1; rw [aP h1] at h; exact(Xe ha hb h).1
 ·rename_i h1;rw [aO h1] at h;split
  ·rename_i h2; rw [aP h2] at h; exact(zr0 ha hb h).1
  ·rename_i h2;rw [aO h2] at h;split
   ·rename_i h3; rw [aP h3] at h; exact(yT ha hb h).1
   ·rename_i h3;rw [aO h3] at h;exact zkj ha hb h
theorem jL{a:L8}(h:errR a=0):a.length<=2003:=by
 have h1:=(kH h).2.2.1;rw [<- h1];unfold qstr wz;have g1:=k6 (decide ((qv a).num<0)) (qv a).num.natAbs;have g2:=k6 (decide (((qv a).den:Int)<0)) ((qv a).den:Int).natAbs;split
 ·omega
 ·simp only [bO,aL,List.length_nil];omega
theorem Ex.ZB{f:List Fx}(hf:f.all okF=true)(day:Int):∀ x:Ex,x.zu=1->(x.ev f day).e=0->errR (x.ev f day).v=0
 | .mk k r n d s,hs,he=>by
  have hc:=Ex.Qa hs;simp only [Ex.kind,Ex.rat,Ex.sub] at hc;rw [Ex.ev] at he ⊢;simp only [evN] at he ⊢;unfold valN at he ⊢;rcases hc with ⟨rfl,h1⟩ | rfl | rfl | ⟨⟨h1,h2⟩,h3,h4,h5⟩ | ⟨rfl,h3,h4,h5,h6⟩
  ·simpa using h1
  ·simp only [show ¬ (2:Int)=1 by decide,if_false,if_true] at he ⊢;exact XP hf he
  ·simp only [show ¬ (3:Int)=1 by decide,show ¬ (3:Int)=2 by decide,if_false,if_true] at he ⊢;exact XP hf he
  ·rw [aO (by omega),aO (by omega),aO (by omega),aO (by omega)] at he ⊢;rw [Ex.qG (by omega),Ex.qG (by omega)] at he ⊢;unfold wv at he ⊢;have w0:s.getD 0 Ex.nil∈s:=by simp [List.getD,aF (show 0<s.length by omega)]
   have w1:s.getD 1 Ex.nil∈s:=by simp [List.getD,aF (show 1<s.length by omega)]
   split
   ·rename_i g; rw [aP g] at he; exact absurd he g
   ·rename_i g;rw [aO g] at he;split
    ·rename_i g2; rw [aP g2] at he; exact absurd he g2
    ·rename_i g2;rw [aO g2] at he;rw [Classical.not_not] at g g2;exact zun (Ex.ZB hf day _ h4 g) (Ex.ZB hf day _ h5 g2) he
  ·simp only [show ¬ (9:Int)=1 by decide,show ¬ (9:Int)=2 by decide,show ¬ (9:Int)=3 by decide,if_false,if_true] at he ⊢;rw [Ex.qG (by omega),Ex.qG (by omega),Ex.qG (by omega)] at he ⊢;have w1:s.getD 1 Ex.nil∈s:=by simp [List.getD,aF (show 1<s.length by omega)]
   have w2:s.getD 2 Ex.nil∈s:=by simp [List.getD,aF (show 2<s.length by omega)]
   split
   ·rename_i g; rw [aP g] at he; exact absurd he g
   ·rename_i g;rw [aO g] at he;split
    ·rename_i g2; rw [aP g2] at he; exact Ex.ZB hf day _ h5 he
    ·rename_i g2; rw [aO g2] at he; exact Ex.ZB hf day _ h6 he
termination_by x=>x.size
decreasing_by
 all_goals
  rw [Ex.size];have a0:=Ex.zM (s:=s) (i:=0);have a1:=Ex.zM (s:=s) (i:=1);have a2:=Ex.zM (s:=s) (i:=2)
  first
  | (have:=a0 (by omega); omega)
  | (have:=a1 (by omega); omega)
  | (have:=a2 (by omega); omega)
end Go.Nov
end
