/- Part 7 of the proof. -/
import Derived.Test.YtpmofcdjkhmdaaaGreatDoorSxf
set_option linter.unusedVariables false
set_option linter.unusedSimpArgs false
set_option linter.unusedSectionVars false
section
set_option maxRecDepth 100000
open Go Go.Sx Go.Proofs Go.Nov
namespace Go.Proofs.Tryz
attribute [local simp] eqKV eqA eqA0 eqH eqB eqL eqL0
noncomputable def K230:List Go.Sx.Item:=[.code (Tryz.f230.body.getD .skip)]
def zbc:Ctr:=ctr2 true (fun x y=>(canon x).length<100000∧(canon y).length<100000) (fun x y d=>d=x+y) (fun _ _ d=>(magS d,[]))
def SPl(x y:Nat)(o:List Nat)(c i:Nat):KV:=[(1,magS y),(5,.osl 0 1 0 o.length),(6,.int .u32 (c:Int)),(21,magS x),(22,.int .i64 ((canon x).length:Int)),(23,.int .i64 (i:Int))]
structure IPl(x y:Nat) where
 o:List Nat
 c:Nat
 i:Nat
 len:o.length=i
 le:i≤(canon x).length
 dg:dig o
 c1:c≤1
 eq:val o+B^i*c=val ((canon x).take i)+val ((canon y).take i)
theorem zn8{x y o c i d c':Nat}{l m:List Nat}(h:o+B^i*c=val (l.take i)+val (m.take i))(he:d+B*c'=l.getD i 0+m.getD i 0+c):o+B^i*d+B^(i+1)*c'=val (l.take (i+1))+val (m.take (i+1)):=by
 rw [zm,zm,Nat.pow_succ]
 have:=congrArg (B^i * ·) he
 simp only [Nat.mul_add] at this
 rw [Nat.mul_assoc]
 omega
theorem RetR.znu{ctr:Ctr}{Q:AV×Heap→Prop}{h:Heap}{i m n:Nat}{k:IntKind}{l:List Nat}{G:Nat→Nat→AV}(hq:Q (natS k l,[]))(hb:h[i]?=some (.arr m 1 G))(hn:n≤m)(hl:l.length=n)(hG:∀ j,j<n→G j 0 = .int k ((l.getD j 0:Nat):Int)):RetR ctr 0 Q [.osl i 1 0 n] h:=by
 refine RetR.out0 hq (fun _=> ?_) ?_
 ·refine Jd hb (by omega) fun j o hj ho=> ?_
  have:o=0:=by omega
  subst this
  simp only [zj,Nat.zero_add,hG j hj,qE]
 ·have e:exp2 h [] (resV [.osl i 1 0 n])=exp0 h [] (.osl i 1 0 n):=rfl
  rw [e,xH hb (by omega),UW]
  simp only [eqA2,natS]
  refine⟨hl.symm,rfl,fun j o hj ho=> ?_⟩
  have:o=0:=by omega
  subst this
  rw [hG j hj]; rfl
theorem XU{O:Nat→Prop}{w0:World}{Q:AV×Heap→Prop}(x y:Nat)(hx:(canon x).length<100000)(hlen:(canon y).length≤(canon x).length)(hq:Q (magS (x+y),[]))(kv:KV)(h:Heap)(hle:LeK 0 Tryz.f230.ntmps kv h (SPl x y [] 0 0) [.arr 0 1 (natG .u32 [])]) :
  zb Tryz.prog Tryz.f230 O 0 w0 [] (fun _ _ _=>False) (RetR zbc 0 Q) (.code (.loop (lps K230 0).1)::(lps K230 0).2) (mk Tryz.f230.ntmps kv h):=by
 refine zb.loop (ι:=IPl x y) (fun s=>SPl x y s.o s.c s.i) (fun s=>[.arr s.o.length 1 (natG .u32 s.o)]) (fun s=>(canon x).length - s.i) ⟨[],0,0,rfl,Nat.zero_le _,by simp [dig],by omega,by simp [val]⟩ 0 hle ?_ (by kernel_rfl)
 rintro⟨o,c,i,ho,hle,hd,hc,he⟩
 subst ho
 have hB:B=1000000000:=rfl
 refine zb.run hmix uf [1,5,6,21,22,23] 400 (T:=.ite (decide ((↑o.length:Int)<(↑(canon x).length:Int))) (.side ((0:Int)≤o.length∧(↑o.length:Int)<(↑(canon x).length:Int)) (.side (inR .u32 ((↑(List.getD (canon x) (Int.toNat (↑o.length:Int)) 0):Int)+c)) (.ite (decide ((↑o.length:Int)<(↑(canon y).length:Int))) (.side ((0:Int)≤o.length∧(↑o.length:Int)<(↑(canon y).length:Int)) (.side (inR .u32 ((↑(List.getD (canon x) (Int.toNat (↑o.length:Int)) 0):Int)+c+(↑(List.getD (canon y) (Int.toNat (↑o.length:Int)) 0):Int))) (.side ((1000000000:Int)≠0∧inR .u32 (Int.tdiv ((↑(List.getD (canon x) (Int.toNat (↑o.length:Int)) 0):Int)+c+(↑(List.getD (canon y) (Int.toNat (↑o.length:Int)) 0):Int)) (1000000000:Int))) (.side ((1000000000:Int)≠0) (.side (0=0∧o.length≤o.length∧(o.length+1)*4≤140737488355328) (.side (inR .i64 ((↑o.length:Int)+(1:Int))) (.leaf (.back 0 [(1,.sl (canon y).length 1 (natG .u32 (canon y))),(5,.osl 0 1 0 (o.length+1)),(6,.int .u32 (Int.tdiv ((↑(List.getD (canon x) (Int.toNat (↑o.length:Int)) 0):Int)+c+(↑(List.getD (canon y) (Int.toNat (↑o.length:Int)) 0):Int)) (1000000000:Int))),(21,.sl (canon x).length 1 (natG .u32 (canon x))),(22,.int .i64 (↑(canon x).length:Int)),(23,.int .i64 ((↑o.length:Int)+(1:Int)))] [.arr (o.length+1) 1 (appG o.length (natG .u32 o) (zj (zi 1 [.int .u32 (Int.tmod ((↑(List.getD (canon x) (Int.toNat (↑o.length:Int)) 0):Int)+c+(↑(List.getD (canon y) (Int.toNat (↑o.length:Int)) 0):Int)) (1000000000:Int))]) 0)),.arr 1 1 (zi 1 [.int .u32 (Int.tmod ((↑(List.getD (canon x) (Int.toNat (↑o.length:Int)) 0):Int)+c+(↑(List.getD (canon y) (Int.toNat (↑o.length:Int)) 0):Int)) (1000000000:Int))])])))))))) (.side ((1000000000:Int)≠0∧inR .u32 (Int.tdiv ((↑(List.getD (canon x) (Int.toNat (↑o.length:Int)) 0):Int)+c) (1000000000:Int))) (.side ((1000000000:Int)≠0) (.side (0=0∧o.length≤o.length∧(o.length+1)*4≤140737488355328) (.side (inR .i64 ((↑o.length:Int)+(1:Int))) (.leaf (.back 0 [(1,.sl (canon y).length 1 (natG .u32 (canon y))),(5,.osl 0 1 0 (o.length+1)),(6,.int .u32 (Int.tdiv ((↑(List.getD (canon x) (Int.toNat (↑o.length:Int)) 0):Int)+c) (1000000000:Int))),(21,.sl (canon x).length 1 (natG .u32 (canon x))),(22,.int .i64 (↑(canon x).length:Int)),(23,.int .i64 ((↑o.length:Int)+(1:Int)))] [.arr (o.length+1) 1 (appG o.length (natG .u32 o) (zj (zi 1 [.int .u32 (Int.tmod ((↑(List.getD (canon x) (Int.toNat (↑o.length:Int)) 0):Int)+c) (1000000000:Int))]) 0)),.arr 1 1 (zi 1 [.int .u32 (Int.tmod ((↑(List.getD (canon x) (Int.toNat (↑o.length:Int)) 0):Int)+c) (1000000000:Int))])]))))))))) (.side (0=0∧o.length≤o.length∧(o.length+1)*4≤140737488355328) (.ex (fun(u:List Nat)=>u.length=o.length+1∧0+(o.length+1)≤o.length+1∧o.length+1<4611686018427387904∧eqG (o.length+1) 1 (appG o.length (natG .u32 o) (zj (zi 1 [AV.int .u32 c]) 0)) (natG .u32 u)∧dig (List.take (o.length+1) (List.drop 0 u))) fun n=>.all (fun(x:Nat)=>x=val (List.take (o.length+1) (List.drop 0 n))) fun n=>.leaf (.ret [.osl 0 1 0 (canon n).length] [.arr (o.length+1) 1 (appG o.length (natG .u32 o) (zj (zi 1 [.int .u32 c]) 0)),.arr 1 1 (zi 1 [.int .u32 c])])))) (by kernel_rfl) ?_
 simp only [Tree.holds,ze,inR,lo,hi,Int.toNat_natCast,yr]
 have ha:=z9 (zk x) o.length
 have hb:=z9 (zk y) o.length
 have hnext:∀ d c':Nat,d<B→c'≤1→o.length<(canon x).length→d+B*c'=(canon x).getD o.length 0+(canon y).getD o.length 0+c →
   ∃ s:IPl x y,s.o=o++[d]∧s.c=c'∧s.i=o.length+1:=fun d c' h1 h2 h3 h4=>
  ⟨⟨o++[d],c',o.length+1,by simp,h3,qe.2 ⟨hd,by simp [dig,h1]⟩,h2,by rw [Wb]; exact zn8 (x:=x) (y:=y) he h4⟩,rfl,rfl,rfl⟩
 have hdiv:∀ v:Nat,(v:Int).tdiv 1000000000=((v/B:Nat):Int)∧(v:Int).tmod 1000000000=((v%B:Nat):Int):=fun v=>⟨rfl,rfl⟩
 have hq2:∀ v:Nat,v<2*B→v/B≤1∧v%B<B∧v%B+B*(v/B)=v:=fun v hv=>⟨by have:=Nat.div_lt_of_lt_mul (show v<B*2 by omega); omega,Nat.mod_lt _ (by omega),Nat.mod_add_div _ _⟩
 refine⟨fun hlt=> ?_,fun hge=> ?_⟩
 ·have hlt:o.length<(canon x).length:=by have:=of_decide_eq_true hlt; omega
  refine⟨by omega,fun _=>⟨by omega,fun _=>⟨fun hb2=> ?_,fun hb2=> ?_⟩⟩⟩
  ·have hb2:o.length<(canon y).length:=by have:=of_decide_eq_true hb2; omega
   refine⟨by omega,fun _=>⟨by omega,fun _=> ?_⟩⟩
   obtain⟨v,hv⟩:∃ v,(canon x).getD o.length 0+c+(canon y).getD o.length 0=v:=⟨_,rfl⟩
   have ev:(((canon x).getD o.length 0:Nat):Int)+(c:Int)+(((canon y).getD o.length 0:Nat):Int)=(v:Int):=by omega
   rw [ev,(hdiv v).1,(hdiv v).2]
   obtain⟨g1,g2,g3⟩:=hq2 v (by omega)
   generalize v/B=q at g1 g3 ⊢
   generalize v%B=r at g2 g3 ⊢
   refine⟨⟨by decide,by omega,by omega⟩,fun _=>⟨by decide,fun _=>⟨⟨trivial,Nat.le_refl _,by omega⟩,fun _=>⟨by omega,fun _=> ?_⟩⟩⟩⟩
   obtain⟨s,h1,h2,h3⟩:=hnext r q g2 g1 hlt (by omega)
   rw [if_pos trivial]
   exact⟨s,by show _ - s.i<_; omega,by simp [SPl,h1,h2,h3,magS,natS,za],by rw [h1]; exact qK rfl,by kernel_rfl,Nat.zero_le _⟩
  ·have hb2:(canon y).length≤o.length:=by have:=of_decide_eq_false hb2; omega
   have hb0:(canon y).getD o.length 0=0:=by simp [List.getD,List.getElem?_eq_none hb2]
   obtain⟨v,hv⟩:∃ v,(canon x).getD o.length 0+c=v:=⟨_,rfl⟩
   have ev:(((canon x).getD o.length 0:Nat):Int)+(c:Int)=(v:Int):=by omega
   rw [ev,(hdiv v).1,(hdiv v).2]
   obtain⟨g1,g2,g3⟩:=hq2 v (by omega)
   generalize v/B=q at g1 g3 ⊢
   generalize v%B=r at g2 g3 ⊢
   refine⟨⟨by decide,by omega,by omega⟩,fun _=>⟨by decide,fun _=>⟨⟨trivial,Nat.le_refl _,by omega⟩,fun _=>⟨by omega,fun _=> ?_⟩⟩⟩⟩
   obtain⟨s,h1,h2,h3⟩:=hnext r q g2 g1 hlt (by omega)
   rw [if_pos trivial]
   exact⟨s,by show _ - s.i<_; omega,by simp [SPl,h1,h2,h3,magS,natS,za],by rw [h1]; exact qK rfl,by kernel_rfl,Nat.zero_le _⟩
 ·have hge:o.length=(canon x).length:=by have:=of_decide_eq_false hge; omega
  have hv:val (o++[c])=x+y:=by
   rw [Wb]
   rw [hge,List.take_length,List.take_of_length_le hlen,zo,zo] at he
   rw [hge]; exact he
  have hdo:dig (o++[c]):=qe.2 ⟨hd,by simp [dig]; omega⟩
  have hpush:eqG (o.length+1) 1 (appG o.length (natG .u32 o) (zj (zi 1 [.int .u32 (c:Int)]) 0)) (natG .u32 (o++[c])):=by
   have:=uj (k:=.u32) (l:=o) (v:=(c:Int)) (by omega)
   simpa using this
  have hall:List.take (o.length+1) (List.drop 0 (o++[c]))=o++[c]:=by rw [List.drop_zero]; exact List.take_of_length_le (by simp)
  refine⟨⟨trivial,Nat.le_refl _,by omega⟩,fun _=>⟨o++[c],⟨by simp,by omega,by omega,hpush,by rw [hall]; exact hdo⟩,⟨_,rfl⟩,?_⟩⟩
  intro X hX
  have hX:X=x+y:=by rw [hX,hall,hv]
  subst hX
  have htr:qC (o++[c])=canon (x+y):=by rw [zL hdo,hv]
  have htl:(canon (x+y)).length=tlen (o++[c]):=by rw [← htr,qC,List.length_take]; have:=zZ (o++[c]); omega
  rw [htl]
  have hle2:=zZ (o++[c])
  have hln:(o++[c]).length=o.length+1:=by simp
  refine RetR.znu (l:=canon (x+y)) (k:=.u32) hq rfl (by omega) htl fun j hj=> ?_
  have:=hpush j 0 (by omega) (by omega)
  rw [this,← htr]
  simp only [natG,qC]
  rw [uT hj]
theorem zao:zd Tryz.prog 230 zbc:=by
 refine Zd (fn:=Tryz.f230) (c:=Tryz.f230.body.getD .skip) rfl rfl rfl fun x y hp O w0 Q hq=> ?_
 replace hq:=hq _ rfl
 obtain⟨hx,hy⟩:=hp
 refine zb.run hmix uf [1,5,6,21,22,23] 400 (T:=.ite (decide ((↑(canon x).length:Int)<(↑(canon y).length:Int))) (.side (inR .i64 ((↑(canon y).length:Int)+(1:Int))) (.side ((0:Int)≤0∧(0:Int)≤(↑(canon y).length:Int)+(1:Int)∧inR .i64 ((↑(canon y).length:Int)+(1:Int))∧Int.toNat ((↑(canon y).length:Int)+(1:Int))*4≤140737488355328) (.leaf (.loop (Prod.fst (lps K230 0)) (Prod.snd (lps K230 0)) [(1,.sl (canon x).length 1 (natG .u32 (canon x))),(5,.osl 0 1 0 0),(6,.int .u32 0),(21,.sl (canon y).length 1 (natG .u32 (canon y))),(22,.int .i64 (↑(canon y).length:Int)),(23,.int .i64 0)] [.arr 0 1 (kp [.int .u32 0])])))) (.side (inR .i64 ((↑(canon x).length:Int)+(1:Int))) (.side ((0:Int)≤0∧(0:Int)≤(↑(canon x).length:Int)+(1:Int)∧inR .i64 ((↑(canon x).length:Int)+(1:Int))∧Int.toNat ((↑(canon x).length:Int)+(1:Int))*4≤140737488355328) (.leaf (.loop (Prod.fst (lps K230 0)) (Prod.snd (lps K230 0)) [(1,.sl (canon y).length 1 (natG .u32 (canon y))),(5,.osl 0 1 0 0),(6,.int .u32 0),(21,.sl (canon x).length 1 (natG .u32 (canon x))),(22,.int .i64 (↑(canon x).length:Int)),(23,.int .i64 0)] [.arr 0 1 (kp [.int .u32 0])]))))) (by kernel_rfl) ?_
 simp only [Tree.holds,ze,inR,lo,hi]
 refine⟨fun h=> ?_,fun h=> ?_⟩
 ·have h:(canon x).length<(canon y).length:=by have:=of_decide_eq_true h; omega
  refine⟨by omega,fun _=>⟨⟨by omega,by omega,by omega,by omega⟩,fun _=> ?_⟩⟩
  rw [Nat.add_comm] at hq
  exact XU y x hy (by omega) hq _ _ ⟨by simp [SPl,magS,natS,za],by simp [eqG],by kernel_rfl,Nat.zero_le _⟩
 ·have h:(canon y).length≤(canon x).length:=by have:=of_decide_eq_false h; omega
  refine⟨by omega,fun _=>⟨⟨by omega,by omega,by omega,by omega⟩,fun _=> ?_⟩⟩
  exact XU x y hx h hq _ _ ⟨by simp [SPl,magS,natS,za],by simp [eqG],by kernel_rfl,Nat.zero_le _⟩
def zls:Ctr:=ctrP false (fun p:Bool×Nat=>[.bool p.1,magS p.2]) (fun _=>True) (fun p r=>r=(p.1&&decide (0<p.2),p.2)) (fun _ (r:Bool×Nat)=>(numV r.1 r.2,[]))
theorem KE{x:Nat} : decide (0<((canon x).length:Int))=decide (0<x):=by
 by_cases h:x=0
 ·subst h; simp [canon]
 ·have h1:0<x:=Nat.pos_of_ne_zero h
  have h2:(canon x).length≠0:=fun h2=>h (yA.1 h2)
  rw [decide_eq_true (by omega),decide_eq_true h1]
theorem RetR.numV{ctr:Ctr}{Q:AV×Heap→Prop}{h:Heap}{b:Bool}{x:Nat}(hf:ctr.fresh=false)(hq:Q (numV b x,[])):RetR ctr 0 Q [.agg [.bool b,magS x]] h:=by
 refine RetR.out0 hq (fun h=>by rw [hf] at h; cases h) ?_
 simp [resV,exp2,exp1,exp0,ren0,frz1,eqA2,eqL1,eqA,eqL0,eqA0,Tryz.numV,magS,natS,za]
theorem zjm:zd Tryz.prog 229 zls:=by
 refine zh (fn:=Tryz.f229) (c:=Tryz.f229.body.getD .skip) rfl rfl rfl fun p hp O w0 Q hq=> ?_
 obtain⟨b,x⟩:=p
 replace hq:=hq _ rfl
 refine zb.run hmix zy [] 400 (T:=.leaf (.ret [.agg [.bool (bif b then decide ((0:Int)<(↑(canon x).length:Int)) else false),.sl (canon x).length 1 (natG .u32 (canon x))]] [.box [.bool (bif b then decide ((0:Int)<(↑(canon x).length:Int)) else false),.sl (canon x).length 1 (natG .u32 (canon x))]])) (by kernel_rfl) ?_
 simp only [Tree.holds,ze]
 rw [KE]
 have e:(bif b then decide (0<x) else false)=(b&&decide (0<x)):=by cases b<;>rfl
 rw [e]
 exact RetR.numV rfl hq
def sumC:Ctr:=ctrP false (fun p:(Bool×Nat)×(Bool×Nat)=>[numV p.1.1 p.1.2,numV p.2.1 p.2.2]) (fun p=>(canon p.1.2).length<100000∧(canon p.2.2).length<100000)
 (fun p r=>r=((sumS p.1.1 p.1.2 p.2.1 p.2.2).1&&decide (0<(sumS p.1.1 p.1.2 p.2.1 p.2.2).2),(sumS p.1.1 p.1.2 p.2.1 p.2.2).2)) (fun _ (r:Bool×Nat)=>(numV r.1 r.2,[]))
noncomputable def GSu:Nat→Option Ctr:=fun f=>if f=229 then some (zls) else if f=230 then some (zbc) else if f=231 then some (ux) else if f=232 then some (VU) else none
theorem zmu:∀ g c,GSu g=some c→zd Tryz.prog g c:=okIf zjm (okIf zao (okIf yQ (okIf Jw (zn))))
theorem znk:zd Tryz.prog 186 sumC:=by
 refine zh (fn:=Tryz.f186) (c:=Tryz.f186.body.getD .skip) rfl rfl rfl fun p hp O w0 Q hq=> ?_
 obtain⟨⟨m,x⟩,⟨n,y⟩⟩:=p
 obtain⟨h1,h2⟩:=hp
 replace hq:=hq _ rfl
 simp only at h1 h2 hq
 refine zb.run hmix zmu [] 400 (T:=.ite (m == n) (.ex (fun(x_1:Nat×Nat)=>eqL [AV.sl (canon x).length 1 (natG .u32 (canon x)),AV.sl (canon y).length 1 (natG .u32 (canon y))] [AV.sl (canon x_1.1).length 1 (natG .u32 (canon x_1.1)),AV.sl (canon x_1.2).length 1 (natG .u32 (canon x_1.2))]∧List.length (canon x_1.1)<100000∧List.length (canon x_1.2)<100000) fun n_1=>.all (fun(d:Nat)=>d=n_1.1+n_1.2) fun n_2=>.ex (fun(x:Bool×Nat)=>eqL [AV.bool m,AV.sl (canon n_2).length 1 (natG .u32 (canon n_2))] [AV.bool x.1,AV.sl (canon x.2).length 1 (natG .u32 (canon x.2))]∧True) fun n_3=>.all (fun(r:Bool×Nat)=>r=(n_3.1&&decide (0<n_3.2),n_3.2)) fun n_4=>.leaf (.ret [.agg [.bool n_4.1,.sl (canon n_4.2).length 1 (natG .u32 (canon n_4.2))]] [.box [.bool m,.sl (canon x).length 1 (natG .u32 (canon x))],.box [.bool n,.sl (canon y).length 1 (natG .u32 (canon y))],.box [.bool n_4.1,.sl (canon n_4.2).length 1 (natG .u32 (canon n_4.2))]])) (.ex (fun(x_1:Nat×Nat)=>eqL [AV.sl (canon x).length 1 (natG .u32 (canon x)),AV.sl (canon y).length 1 (natG .u32 (canon y))] [AV.sl (canon x_1.1).length 1 (natG .u32 (canon x_1.1)),AV.sl (canon x_1.2).length 1 (natG .u32 (canon x_1.2))]∧fits x_1.1∧fits x_1.2) fun n_1=>.all (fun(r:Int)=>r=cmp3 n_1.1 n_1.2) fun n_2=>.ite (decide ((0:Int)≤n_2)) (.ex (fun(x_1:Nat×Nat)=>eqL [AV.sl (canon x).length 1 (natG .u32 (canon x)),AV.sl (canon y).length 1 (natG .u32 (canon y))] [AV.sl (canon x_1.1).length 1 (natG .u32 (canon x_1.1)),AV.sl (canon x_1.2).length 1 (natG .u32 (canon x_1.2))]∧fits x_1.1∧x_1.2≤x_1.1) fun n_3=>.all (fun(d:Nat)=>d=n_3.1 - n_3.2) fun n_4=>.ex (fun(x:Bool×Nat)=>eqL [AV.bool m,AV.sl (canon n_4).length 1 (natG .u32 (canon n_4))] [AV.bool x.1,AV.sl (canon x.2).length 1 (natG .u32 (canon x.2))]∧True) fun n_5=>.all (fun(r:Bool×Nat)=>r=(n_5.1&&decide (0<n_5.2),n_5.2)) fun n_6=>.leaf (.ret [.agg [.bool n_6.1,.sl (canon n_6.2).length 1 (natG .u32 (canon n_6.2))]] [.box [.bool m,.sl (canon x).length 1 (natG .u32 (canon x))],.box [.bool n,.sl (canon y).length 1 (natG .u32 (canon y))],.box [.bool n_6.1,.sl (canon n_6.2).length 1 (natG .u32 (canon n_6.2))]])) (.ex (fun(x_1:Nat×Nat)=>eqL [AV.sl (canon y).length 1 (natG .u32 (canon y)),AV.sl (canon x).length 1 (natG .u32 (canon x))] [AV.sl (canon x_1.1).length 1 (natG .u32 (canon x_1.1)),AV.sl (canon x_1.2).length 1 (natG .u32 (canon x_1.2))]∧fits x_1.1∧x_1.2≤x_1.1) fun n_3=>.all (fun(d:Nat)=>d=n_3.1 - n_3.2) fun n_4=>.ex (fun(x:Bool×Nat)=>eqL [AV.bool n,AV.sl (canon n_4).length 1 (natG .u32 (canon n_4))] [AV.bool x.1,AV.sl (canon x.2).length 1 (natG .u32 (canon x.2))]∧True) fun n_5=>.all (fun(r:Bool×Nat)=>r=(n_5.1&&decide (0<n_5.2),n_5.2)) fun n_6=>.leaf (.ret [.agg [.bool n_6.1,.sl (canon n_6.2).length 1 (natG .u32 (canon n_6.2))]] [.box [.bool m,.sl (canon x).length 1 (natG .u32 (canon x))],.box [.bool n,.sl (canon y).length 1 (natG .u32 (canon y))],.box [.bool n_6.1,.sl (canon n_6.2).length 1 (natG .u32 (canon n_6.2))]])))) (by kernel_rfl) ?_
 simp only [Tree.holds,ze]
 have eL:∀ a b:Nat,eqL [AV.sl (canon a).length 1 (natG .u32 (canon a)),AV.sl (canon b).length 1 (natG .u32 (canon b))] [AV.sl (canon a).length 1 (natG .u32 (canon a)),AV.sl (canon b).length 1 (natG .u32 (canon b))]:=fun a b=>⟨⟨rfl,rfl,za _ _ _⟩,⟨rfl,rfl,za _ _ _⟩,trivial⟩
 have eK:∀ (b:Bool) (a:Nat),eqL [AV.bool b,AV.sl (canon a).length 1 (natG .u32 (canon a))] [AV.bool b,AV.sl (canon a).length 1 (natG .u32 (canon a))]:=fun b a=>⟨rfl,⟨rfl,rfl,za _ _ _⟩,trivial⟩
 have hcm:∀ v,v=cmp3 x y→(0≤v↔y≤x):=by
  rintro v rfl
  unfold cmp3
  split
  ·exact⟨fun h=>by omega,fun h=>by omega⟩
  ·split
   ·exact⟨fun h=>by omega,fun h=>by omega⟩
   ·exact⟨fun h=>by omega,fun h=>by omega⟩
 refine⟨fun h=> ?_,fun h=>⟨(x,y),⟨eL x y,by show(canon x).length<_; omega,by show(canon y).length<_; omega⟩,⟨_,rfl⟩,?_⟩⟩
 ·have h:m=n:=by simpa using h
  refine⟨(x,y),⟨eL x y,h1,h2⟩,⟨_,rfl⟩,?_⟩
  rintro _ rfl
  refine⟨(m,x+y),⟨eK m _,trivial⟩,⟨_,rfl⟩,?_⟩
  rintro _ rfl
  have e:sumS m x n y=(m,x+y):=if_pos h
  rw [e] at hq
  exact RetR.numV rfl hq
 ·have h:¬ m=n:=by simpa using h
  intro v hv
  have hv:=hcm v hv
  refine⟨fun g=> ?_,fun g=> ?_⟩
  ·have g:y≤x:=hv.1 (of_decide_eq_true g)
   refine⟨(x,y),⟨eL x y,by show(canon x).length<_; omega,g⟩,⟨_,rfl⟩,?_⟩
   rintro _ rfl
   refine⟨(m,x - y),⟨eK m _,trivial⟩,⟨_,rfl⟩,?_⟩
   rintro _ rfl
   have e:sumS m x n y=(m,x - y):=by rw [sumS,if_neg h,if_pos g]
   rw [e] at hq
   exact RetR.numV rfl hq
  ·have g:¬ y≤x:=fun h3=>of_decide_eq_false g (hv.2 h3)
   refine⟨(y,x),⟨eL y x,by show(canon y).length<_; omega,by show x≤y; omega⟩,⟨_,rfl⟩,?_⟩
   rintro _ rfl
   refine⟨(n,y - x),⟨eK n _,trivial⟩,⟨_,rfl⟩,?_⟩
   rintro _ rfl
   have e:sumS m x n y=(n,y - x):=by rw [sumS,if_neg h,if_neg g]
   rw [e] at hq
   exact RetR.numV rfl hq
theorem qx{x n:Nat}(h:x<B^n)(hn:n<100000):(canon x).length<100000:=by have:=z4 h; omega
theorem jy{s:List UInt8}(h:errI s=0):numI s<B^112:=jC.2 (yW h)
theorem zei{x y:Nat}(hx:x<B^112)(hy:y<B^112):x+y<B^113∧x*y<B^224:=by
 constructor
 ·have:B^113=B^112*B:=Nat.pow_succ B 112
  have hB:B=1000000000:=rfl
  generalize B^112=p at *
  rw [this,hB]; omega
 ·have:B^224=B^112*B^112:=by rw [← Nat.pow_add]
  rw [this]
  exact Nat.mul_lt_mul_of_lt_of_lt hx hy
noncomputable def GAd:Nat→Option Ctr:=fun f=>if f=182 then some (ZZ) else if f=186 then some (sumC) else if f=183 then some (Jj) else if f=184 then some (YX) else if f=231 then some (ux) else none
theorem Uz:∀ g c,GAd g=some c→zd Tryz.prog g c:=okIf VT (okIf znk (okIf JG (okIf KZ (okIf yQ (zn)))))
def addC:Ctr:=ctrP true (fun p:List UInt8×List UInt8=>[.str p.1,.str p.2]) (fun p=>p.1.length<2^62∧p.2.length<2^62) (fun p r=>r=addI p.1 p.2) (fun _ r=>(.tup [.str r.1,.int .i64 r.2],[]))
def mulC:Ctr:=ctrP true (fun p:List UInt8×List UInt8=>[.str p.1,.str p.2]) (fun p=>p.1.length<2^62∧p.2.length<2^62) (fun p r=>r=mulI p.1 p.2) (fun _ r=>(.tup [.str r.1,.int .i64 r.2],[]))
def zl6:Ctr:=ctrP true (fun p:List UInt8×List UInt8=>[.str p.1,.str p.2]) (fun p=>p.1.length<2^62∧p.2.length<2^62) (fun p r=>r=zhn p.1 p.2) (fun _ r=>(.tup [.int .i64 r.1,.int .i64 r.2],[]))
theorem zn4:zd Tryz.prog 96 addC:=by
 refine zh (fn:=Tryz.f96) (c:=Tryz.f96.body.getD .skip) rfl rfl rfl fun p hp O w0 Q hq=> ?_
 obtain⟨s,t⟩:=p
 obtain⟨hs,ht⟩:=hp
 replace hq:=hq _ rfl
 simp only at hs ht hq
 refine zb.run hmix Uz [] 400 (T:=.ex (fun(x:List UInt8×List UInt8)=>eqL [AV.str s,AV.str t] [AV.str x.1,AV.str x.2]∧x.1.length<4611686018427387904∧x.2.length<4611686018427387904) fun n=>.all (fun(r:Int×(Bool×Nat)×Bool×Nat)=>r=if z0 n.1 n.2=0 then((0:Int),(negI n.1,numI n.1),negI n.2,numI n.2) else(z0 n.1 n.2,(false,0),false,0)) fun n=>.ite (!decide (n.1=0)) (.leaf (.ret [.str #[].toList,.int .i64 n.1] [.box [.bool n.2.1.1,.sl (canon n.2.1.2).length 1 (natG .u32 (canon n.2.1.2))],.box [.bool n.2.2.1,.sl (canon n.2.2.2).length 1 (natG .u32 (canon n.2.2.2))]])) (.ex (fun(x:(Bool×Nat)×Bool×Nat)=>eqL [AV.agg [AV.bool n.2.1.1,AV.sl (canon n.2.1.2).length 1 (natG .u32 (canon n.2.1.2))],AV.agg [AV.bool n.2.2.1,AV.sl (canon n.2.2.2).length 1 (natG .u32 (canon n.2.2.2))]] [AV.agg [AV.bool x.1.1,AV.sl (canon x.1.2).length 1 (natG .u32 (canon x.1.2))],AV.agg [AV.bool x.2.1,AV.sl (canon x.2.2).length 1 (natG .u32 (canon x.2.2))]]∧List.length (canon x.1.2)<100000∧List.length (canon x.2.2)<100000) fun n_1=>.all (fun(r:Bool×Nat)=>r=(Prod.fst (sumS n_1.1.1 n_1.1.2 n_1.2.1 n_1.2.2)&&decide (0<Prod.snd (sumS n_1.1.1 n_1.1.2 n_1.2.1 n_1.2.2)),Prod.snd (sumS n_1.1.1 n_1.1.2 n_1.2.1 n_1.2.2))) fun n_2=>.ex (fun(x:Bool×Nat)=>eqL [AV.agg [AV.bool n_2.1,AV.sl (canon n_2.2).length 1 (natG .u32 (canon n_2.2))]] [AV.agg [AV.bool x.1,AV.sl (canon x.2).length 1 (natG .u32 (canon x.2))]]∧List.length (canon x.2)<1000000) fun n_3=>.all (fun(r:List UInt8×Int)=>r=wr n_3.1 n_3.2) fun n_4=>.leaf (.ret [.str n_4.1,.int .i64 n_4.2] [.box [.bool n.2.1.1,.sl (canon n.2.1.2).length 1 (natG .u32 (canon n.2.1.2))],.box [.bool n.2.2.1,.sl (canon n.2.2.2).length 1 (natG .u32 (canon n.2.2.2))]]))) (by kernel_rfl) ?_
 simp only [Tree.holds,ze]
 refine⟨(s,t),⟨by simp,by omega,by omega⟩,⟨_,rfl⟩,?_⟩
 rintro _ rfl
 simp only
 by_cases he:z0 s t=0
 ·obtain⟨e1,e2⟩:=zM.1 he
  obtain⟨b1,b2⟩:=zei (jy e1) (jy e2)
  have c1:=qx (jy e1) (by decide)
  have c2:=qx (jy e2) (by decide)
  simp only [if_pos he]
  refine⟨fun h=>(by simp at h),fun _=> ?_⟩
  refine⟨((negI s,numI s),(negI t,numI t)),⟨⟨⟨rfl,⟨rfl,rfl,za _ _ _⟩,trivial⟩,⟨rfl,⟨rfl,rfl,za _ _ _⟩,trivial⟩,trivial⟩,c1,c2⟩,⟨_,rfl⟩,?_⟩
  rintro _ rfl
  refine⟨((sumS (negI s) (numI s) (negI t) (numI t)).1&&decide (0<(sumS (negI s) (numI s) (negI t) (numI t)).2),(sumS (negI s) (numI s) (negI t) (numI t)).2),⟨⟨⟨rfl,⟨rfl,rfl,za _ _ _⟩,trivial⟩,trivial⟩,?_⟩,⟨_,rfl⟩,?_⟩
  ·have:=qx (Nat.lt_of_le_of_lt (zjr (negI s) (numI s) (negI t) (numI t)) b1) (by decide)
   show(canon (sumS (negI s) (numI s) (negI t) (numI t)).2).length<1000000
   omega
  rintro _ rfl
  rw [zjw]
  have e:addI s t=wr (sumS (negI s) (numI s) (negI t) (numI t)).1 (sumS (negI s) (numI s) (negI t) (numI t)).2:=if_pos he
  rw [e] at hq
  exact RetR.scal hq rfl (by simp [resV])
 ·simp only [if_neg he]
  refine⟨fun _=> ?_,fun h=>(by simp [he] at h)⟩
  have e:addI s t=([],z0 s t):=if_neg he
  rw [e] at hq
  exact RetR.scal hq rfl (by simp [resV])
theorem zmp:zd Tryz.prog 94 mulC:=by
 refine zh (fn:=Tryz.f94) (c:=Tryz.f94.body.getD .skip) rfl rfl rfl fun p hp O w0 Q hq=> ?_
 obtain⟨s,t⟩:=p
 obtain⟨hs,ht⟩:=hp
 replace hq:=hq _ rfl
 simp only at hs ht hq
 refine zb.run hmix Uz [] 400 (T:=.ex (fun(x:List UInt8×List UInt8)=>eqL [AV.str s,AV.str t] [AV.str x.1,AV.str x.2]∧x.1.length<4611686018427387904∧x.2.length<4611686018427387904) fun n=>.all (fun(r:Int×(Bool×Nat)×Bool×Nat)=>r=if z0 n.1 n.2=0 then((0:Int),(negI n.1,numI n.1),negI n.2,numI n.2) else(z0 n.1 n.2,(false,0),false,0)) fun n=>.ite (!decide (n.1=0)) (.leaf (.ret [.str #[].toList,.int .i64 n.1] [.box [.bool n.2.1.1,.sl (canon n.2.1.2).length 1 (natG .u32 (canon n.2.1.2))],.box [.bool n.2.2.1,.sl (canon n.2.2.2).length 1 (natG .u32 (canon n.2.2.2))]])) (.ex (fun(x:Nat×Nat)=>eqL [AV.sl (canon n.2.1.2).length 1 (natG .u32 (canon n.2.1.2)),AV.sl (canon n.2.2.2).length 1 (natG .u32 (canon n.2.2.2))] [AV.sl (canon x.1).length 1 (natG .u32 (canon x.1)),AV.sl (canon x.2).length 1 (natG .u32 (canon x.2))]∧fits x.1∧fits x.2) fun n_1=>.all (fun(p:Nat)=>p=n_1.1*n_1.2) fun n_2=>.ex (fun(x:Bool×Nat)=>eqL [AV.agg [AV.bool !Prod.fst n.2.1 == n.2.2.1,AV.sl (canon n_2).length 1 (zj (natG .u32 (padN (List.length (canon n_1.1)+List.length (canon n_1.2)) n_2)) 0)]] [AV.agg [AV.bool x.1,AV.sl (canon x.2).length 1 (natG .u32 (canon x.2))]]∧List.length (canon x.2)<1000000) fun n_3=>.all (fun(r:List UInt8×Int)=>r=wr n_3.1 n_3.2) fun n_4=>.leaf (.ret [.str n_4.1,.int .i64 n_4.2] [.box [.bool n.2.1.1,.sl (canon n.2.1.2).length 1 (natG .u32 (canon n.2.1.2))],.box [.bool n.2.2.1,.sl (canon n.2.2.2).length 1 (natG .u32 (canon n.2.2.2))],.arr (List.length (canon n_1.1)+List.length (canon n_1.2)) 1 (natG .u32 (padN (List.length (canon n_1.1)+List.length (canon n_1.2)) n_2))]))) (by kernel_rfl) ?_
 simp only [Tree.holds,ze]
 refine⟨(s,t),⟨by simp,by omega,by omega⟩,⟨_,rfl⟩,?_⟩
 rintro _ rfl
 simp only
 by_cases he:z0 s t=0
 ·obtain⟨e1,e2⟩:=zM.1 he
  obtain⟨b1,b2⟩:=zei (jy e1) (jy e2)
  have c1:=qx (jy e1) (by decide)
  have c2:=qx (jy e2) (by decide)
  simp only [if_pos he]
  refine⟨fun h=>(by simp at h),fun _=> ?_⟩
  refine⟨(numI s,numI t),⟨⟨⟨rfl,rfl,za _ _ _⟩,⟨rfl,rfl,za _ _ _⟩,trivial⟩,by show(canon (numI s)).length<1000000; omega,by show(canon (numI t)).length<1000000; omega⟩,⟨_,rfl⟩,?_⟩
  rintro _ rfl
  refine⟨(negI s != negI t,numI s*numI t),⟨⟨⟨rfl,⟨rfl,rfl,fun j o hj ho=>by simp only [zj,natG,Nat.zero_add,padN,xo hj]⟩,trivial⟩,trivial⟩,?_⟩,⟨_,rfl⟩,?_⟩
  ·have:=qx b2 (by decide)
   show(canon (numI s*numI t)).length<1000000
   omega
  rintro _ rfl
  have e:mulI s t=wr (negI s != negI t) (numI s*numI t):=if_pos he
  rw [e] at hq
  exact RetR.scal hq rfl (by simp [resV])
 ·simp only [if_neg he]
  refine⟨fun _=> ?_,fun h=>(by simp [he] at h)⟩
  have e:mulI s t=([],z0 s t):=if_neg he
  rw [e] at hq
  exact RetR.scal hq rfl (by simp [resV])
theorem zku:zd Tryz.prog 198 zl6:=by
 refine zh (fn:=Tryz.f198) (c:=Tryz.f198.body.getD .skip) rfl rfl rfl fun p hp O w0 Q hq=> ?_
 obtain⟨s,t⟩:=p
 obtain⟨hs,ht⟩:=hp
 replace hq:=hq _ rfl
 simp only at hs ht hq
 refine zb.run hmix Uz [] 400 (T:=.ex (fun(x:List UInt8×List UInt8)=>eqL [AV.str s,AV.str t] [AV.str x.1,AV.str x.2]∧x.1.length<4611686018427387904∧x.2.length<4611686018427387904) fun n=>.all (fun(r:Int×(Bool×Nat)×Bool×Nat)=>r=if z0 n.1 n.2=0 then((0:Int),(negI n.1,numI n.1),negI n.2,numI n.2) else(z0 n.1 n.2,(false,0),false,0)) fun n=>.ite (!decide (n.1=0)) (.leaf (.ret [.int .i64 0,.int .i64 n.1] [.box [.bool n.2.1.1,.sl (canon n.2.1.2).length 1 (natG .u32 (canon n.2.1.2))],.box [.bool n.2.2.1,.sl (canon n.2.2.2).length 1 (natG .u32 (canon n.2.2.2))]])) (.ite (bif n.2.1.1 then !Prod.fst n.2.2 else false) (.leaf (.ret [.int .i64 (-1:Int),.int .i64 0] [.box [.bool n.2.1.1,.sl (canon n.2.1.2).length 1 (natG .u32 (canon n.2.1.2))],.box [.bool n.2.2.1,.sl (canon n.2.2.2).length 1 (natG .u32 (canon n.2.2.2))]])) (.ite (bif n.2.2.1 then !Prod.fst n.2.1 else false) (.leaf (.ret [.int .i64 1,.int .i64 0] [.box [.bool n.2.1.1,.sl (canon n.2.1.2).length 1 (natG .u32 (canon n.2.1.2))],.box [.bool n.2.2.1,.sl (canon n.2.2.2).length 1 (natG .u32 (canon n.2.2.2))]])) (.ite n.2.1.1 (.ex (fun(x:Nat×Nat)=>eqL [AV.sl (canon n.2.2.2).length 1 (natG .u32 (canon n.2.2.2)),AV.sl (canon n.2.1.2).length 1 (natG .u32 (canon n.2.1.2))] [AV.sl (canon x.1).length 1 (natG .u32 (canon x.1)),AV.sl (canon x.2).length 1 (natG .u32 (canon x.2))]∧fits x.1∧fits x.2) fun n_1=>.all (fun(r:Int)=>r=cmp3 n_1.1 n_1.2) fun n_2=>.leaf (.ret [.int .i64 n_2,.int .i64 0] [.box [.bool n.2.1.1,.sl (canon n.2.1.2).length 1 (natG .u32 (canon n.2.1.2))],.box [.bool n.2.2.1,.sl (canon n.2.2.2).length 1 (natG .u32 (canon n.2.2.2))]])) (.ex (fun(x:Nat×Nat)=>eqL [AV.sl (canon n.2.1.2).length 1 (natG .u32 (canon n.2.1.2)),AV.sl (canon n.2.2.2).length 1 (natG .u32 (canon n.2.2.2))] [AV.sl (canon x.1).length 1 (natG .u32 (canon x.1)),AV.sl (canon x.2).length 1 (natG .u32 (canon x.2))]∧fits x.1∧fits x.2) fun n_1=>.all (fun(r:Int)=>r=cmp3 n_1.1 n_1.2) fun n_2=>.leaf (.ret [.int .i64 n_2,.int .i64 0] [.box [.bool n.2.1.1,.sl (canon n.2.1.2).length 1 (natG .u32 (canon n.2.1.2))],.box [.bool n.2.2.1,.sl (canon n.2.2.2).length 1 (natG .u32 (canon n.2.2.2))]])))))) (by kernel_rfl) ?_
 simp only [Tree.holds,ze]
 refine⟨(s,t),⟨by simp,by omega,by omega⟩,⟨_,rfl⟩,?_⟩
 rintro _ rfl
 simp only
 by_cases he:z0 s t=0
 ·obtain⟨e1,e2⟩:=zM.1 he
  obtain⟨b1,b2⟩:=zei (jy e1) (jy e2)
  have c1:=qx (jy e1) (by decide)
  have c2:=qx (jy e2) (by decide)
  simp only [if_pos he]
  refine⟨fun h=>(by simp at h),fun _=> ?_⟩
  have e:zhn s t=(cmpZ (negI s) (numI s) (negI t) (numI t),0):=if_pos he
  rw [e] at hq
  have ec:∀ a b:Nat,cmp3 a b=cmpN a b:=fun _ _=>rfl
  simp only [cmpZ] at hq
  have f1:fits (numI s):=by show(canon (numI s)).length<1000000; omega
  have f2:fits (numI t):=by show(canon (numI t)).length<1000000; omega
  refine⟨fun h=> ?_,fun h1=>⟨fun h=> ?_,fun h2=>⟨fun h=>⟨(numI t,numI s),⟨⟨⟨rfl,rfl,za _ _ _⟩,⟨rfl,rfl,za _ _ _⟩,trivial⟩,f2,f1⟩,⟨_,rfl⟩,?_⟩,fun h=>⟨(numI s,numI t),⟨⟨⟨rfl,rfl,za _ _ _⟩,⟨rfl,rfl,za _ _ _⟩,trivial⟩,f1,f2⟩,⟨_,rfl⟩,?_⟩⟩⟩⟩
  ·cases hm:negI s<;>cases hn:negI t<;>rw [hm,hn] at h hq<;>first | (cases h; done) | exact RetR.scal hq rfl (by simp [resV])
  ·cases hm:negI s<;>cases hn:negI t<;>rw [hm,hn] at h h1 hq<;>first | (cases h; done) | (cases h1; done) | exact RetR.scal hq rfl (by simp [resV])
  ·rintro _ rfl
   rw [ec]
   cases hm:negI s<;>cases hn:negI t<;>rw [hm,hn] at h1 h2 hq<;>rw [hm] at h<;>first | (cases h; done) | (cases h1; done) | (cases h2; done) | exact RetR.scal hq rfl (by simp [resV])
  ·rintro _ rfl
   rw [ec]
   cases hm:negI s<;>cases hn:negI t<;>rw [hm,hn] at h1 h2 hq<;>rw [hm] at h<;>first | (cases h; done) | (cases h1; done) | (cases h2; done) | exact RetR.scal hq rfl (by simp [resV])
 ·simp only [if_neg he]
  refine⟨fun _=> ?_,fun h=>(by simp [he] at h)⟩
  have e:zhn s t=(0,z0 s t):=if_neg he
  rw [e] at hq
  exact RetR.scal hq rfl (by simp [resV])
def dmC:Ctr:=ctrP true (fun p:List UInt8×List UInt8=>[.str p.1,.str p.2]) (fun p=>p.1.length<2^62∧p.2.length<2^62) (fun p r=>r=dmI p.1 p.2) (fun _ r=>(.tup [.str r.1,.str r.2.1,.int .i64 r.2.2],[]))
noncomputable def GDm:Nat→Option Ctr:=fun f=>if f=182 then some (ZZ) else if f=222 then some (uJ) else if f=230 then some (zbc) else if f=232 then some (VU) else if f=183 then some (Jj) else none
theorem zmv:∀ g c,GDm g=some c→zd Tryz.prog g c:=okIf VT (okIf WR (okIf zao (okIf Jw (okIf JG (zn)))))
theorem zd4:zd Tryz.prog 228 dmC:=by
 refine zh (fn:=Tryz.f228) (c:=Tryz.f228.body.getD .skip) rfl rfl rfl fun p hp O w0 Q hq=> ?_
 obtain⟨s,t⟩:=p
 obtain⟨hs,ht⟩:=hp
 replace hq:=hq _ rfl
 simp only at hs ht hq
 refine zb.run hmix zmv [] 400 (T:=.ex (fun(x:List UInt8×List UInt8)=>eqL [AV.str s,AV.str t] [AV.str x.1,AV.str x.2]∧x.1.length<4611686018427387904∧x.2.length<4611686018427387904) fun n=>.all (fun(r:Int×(Bool×Nat)×Bool×Nat)=>r=if z0 n.1 n.2=0 then((0:Int),(negI n.1,numI n.1),negI n.2,numI n.2) else(z0 n.1 n.2,(false,0),false,0)) fun n=>.ite (!decide (n.1=0)) (.leaf (.ret [.str #[].toList,.str #[].toList,.int .i64 n.1] [.box [.bool n.2.1.1,.sl (canon n.2.1.2).length 1 (natG .u32 (canon n.2.1.2))],.box [.bool n.2.2.1,.sl (canon n.2.2.2).length 1 (natG .u32 (canon n.2.2.2))]])) (.ite (decide ((↑(canon n.2.2.2).length:Int)=0)) (.leaf (.ret [.str #[].toList,.str #[].toList,.int .i64 16] [.box [.bool n.2.1.1,.sl (canon n.2.1.2).length 1 (natG .u32 (canon n.2.1.2))],.box [.bool n.2.2.1,.sl (canon n.2.2.2).length 1 (natG .u32 (canon n.2.2.2))]])) (.ex (fun(x:Nat×Nat)=>eqL [AV.sl (canon n.2.1.2).length 1 (natG .u32 (canon n.2.1.2)),AV.sl (canon n.2.2.2).length 1 (natG .u32 (canon n.2.2.2))] [AV.sl (canon x.1).length 1 (natG .u32 (canon x.1)),AV.sl (canon x.2).length 1 (natG .u32 (canon x.2))]∧List.length (canon x.1)<100000∧List.length (canon x.2)<100000∧0<x.2) fun n_1=>.all (fun(r:Nat×Nat)=>r=(n_1.1/n_1.2,n_1.1%n_1.2)) fun n_2=>.ite (bif n.2.1.1 then decide ((0:Int)<(↑(canon n_2.2).length:Int)) else false) (.ex (fun(x:Nat×Nat)=>eqL [AV.sl (canon n_2.1).length 1 (natG .u32 (canon n_2.1)),AV.sl 1 1 (zj (zi 1 [AV.int .u32 1]) 0)] [AV.sl (canon x.1).length 1 (natG .u32 (canon x.1)),AV.sl (canon x.2).length 1 (natG .u32 (canon x.2))]∧List.length (canon x.1)<100000∧List.length (canon x.2)<100000) fun n_3=>.all (fun(d:Nat)=>d=n_3.1+n_3.2) fun n_4=>.ex (fun(x:Nat×Nat)=>eqL [AV.sl (canon n.2.2.2).length 1 (natG .u32 (canon n.2.2.2)),AV.sl (canon n_2.2).length 1 (natG .u32 (canon n_2.2))] [AV.sl (canon x.1).length 1 (natG .u32 (canon x.1)),AV.sl (canon x.2).length 1 (natG .u32 (canon x.2))]∧fits x.1∧x.2≤x.1) fun n_5=>.all (fun(d:Nat)=>d=n_5.1 - n_5.2) fun n_6=>.ex (fun(x:Bool×Nat)=>eqL [AV.agg [AV.bool !Prod.fst n.2.1 == n.2.2.1,AV.sl (canon n_4).length 1 (natG .u32 (canon n_4))]] [AV.agg [AV.bool x.1,AV.sl (canon x.2).length 1 (natG .u32 (canon x.2))]]∧List.length (canon x.2)<1000000) fun n_7=>.all (fun(r:List UInt8×Int)=>r=wr n_7.1 n_7.2) fun n_8=>.ite (!decide (n_8.2=0)) (.leaf (.ret [.str #[].toList,.str #[].toList,.int .i64 n_8.2] [.box [.bool n.2.1.1,.sl (canon n.2.1.2).length 1 (natG .u32 (canon n.2.1.2))],.box [.bool n.2.2.1,.sl (canon n.2.2.2).length 1 (natG .u32 (canon n.2.2.2))],.arr 1 1 (zi 1 [.int .u32 1])])) (.ex (fun(x:Bool×Nat)=>eqL [AV.agg [AV.bool false,AV.sl (canon n_6).length 1 (natG .u32 (canon n_6))]] [AV.agg [AV.bool x.1,AV.sl (canon x.2).length 1 (natG .u32 (canon x.2))]]∧List.length (canon x.2)<1000000) fun n_9=>.all (fun(r:List UInt8×Int)=>r=wr n_9.1 n_9.2) fun n_10=>.leaf (.ret [.str n_8.1,.str n_10.1,.int .i64 0] [.box [.bool n.2.1.1,.sl (canon n.2.1.2).length 1 (natG .u32 (canon n.2.1.2))],.box [.bool n.2.2.1,.sl (canon n.2.2.2).length 1 (natG .u32 (canon n.2.2.2))],.arr 1 1 (zi 1 [.int .u32 1])]))) (.ex (fun(x:Bool×Nat)=>eqL [AV.agg [AV.bool !Prod.fst n.2.1 == n.2.2.1,AV.sl (canon n_2.1).length 1 (natG .u32 (canon n_2.1))]] [AV.agg [AV.bool x.1,AV.sl (canon x.2).length 1 (natG .u32 (canon x.2))]]∧List.length (canon x.2)<1000000) fun n_3=>.all (fun(r:List UInt8×Int)=>r=wr n_3.1 n_3.2) fun n_4=>.ite (!decide (n_4.2=0)) (.leaf (.ret [.str #[].toList,.str #[].toList,.int .i64 n_4.2] [.box [.bool n.2.1.1,.sl (canon n.2.1.2).length 1 (natG .u32 (canon n.2.1.2))],.box [.bool n.2.2.1,.sl (canon n.2.2.2).length 1 (natG .u32 (canon n.2.2.2))]])) (.ex (fun(x:Bool×Nat)=>eqL [AV.agg [AV.bool false,AV.sl (canon n_2.2).length 1 (natG .u32 (canon n_2.2))]] [AV.agg [AV.bool x.1,AV.sl (canon x.2).length 1 (natG .u32 (canon x.2))]]∧List.length (canon x.2)<1000000) fun n_5=>.all (fun(r:List UInt8×Int)=>r=wr n_5.1 n_5.2) fun n_6=>.leaf (.ret [.str n_4.1,.str n_6.1,.int .i64 0] [.box [.bool n.2.1.1,.sl (canon n.2.1.2).length 1 (natG .u32 (canon n.2.1.2))],.box [.bool n.2.2.1,.sl (canon n.2.2.2).length 1 (natG .u32 (canon n.2.2.2))]])))))) (by kernel_rfl) ?_
 simp only [Tree.holds,ze]
 refine⟨(s,t),⟨by simp,by omega,by omega⟩,⟨_,rfl⟩,?_⟩
 rintro _ rfl
 simp only
 by_cases he:z0 s t=0
 ·obtain⟨e1,e2⟩:=zM.1 he
  have c1:=qx (jy e1) (by decide)
  have c2:=qx (jy e2) (by decide)
  simp only [if_pos he]
  refine⟨fun h=>(by simp at h),fun _=> ?_⟩
  refine⟨fun h0=> ?_,fun h0=> ?_⟩
  ·have h0:numI t=0:=yA.1 (by have:=of_decide_eq_true h0; omega)
   have e:dmI s t=([],[],16):=by rw [dmI,if_neg (by rw [he]; decide),if_pos h0]
   rw [e] at hq
   exact RetR.scal hq rfl (by simp [resV])
  have h0:numI t≠0:=fun h=>of_decide_eq_false h0 (by rw [yA.2 h]; rfl)
  have e:dmI s t=((wr (negI s != negI t) (dmQ s t)).1,(wr false (dmM s t)).1,0):=by rw [dmI,if_neg (by rw [he]; decide),if_neg h0]
  rw [e] at hq
  have rq:=Xu e1 h0
  have rm:=XV (s:=s) e2 h0
  have eL:∀ a b:Nat,eqL [AV.sl (canon a).length 1 (natG .u32 (canon a)),AV.sl (canon b).length 1 (natG .u32 (canon b))] [AV.sl (canon a).length 1 (natG .u32 (canon a)),AV.sl (canon b).length 1 (natG .u32 (canon b))]:=fun a b=>⟨⟨rfl,rfl,za _ _ _⟩,⟨rfl,rfl,za _ _ _⟩,trivial⟩
  have eV:∀ (b:Bool) (a:Nat),eqL [.agg [AV.bool b,AV.sl (canon a).length 1 (natG .u32 (canon a))]] [.agg [AV.bool b,AV.sl (canon a).length 1 (natG .u32 (canon a))]]:=fun b a=>⟨⟨rfl,⟨rfl,rfl,za _ _ _⟩,trivial⟩,trivial⟩
  have big:∀ {a:Nat},room a→(canon a).length<1000000:=fun {a} h=>by
   obtain⟨h3,h4,_⟩:=Vj (kq (neg:=false) h)
   have:=qx (jy h3) (by decide)
   rw [h4] at this; omega
  refine⟨(numI s,numI t),⟨eL _ _,c1,c2,Nat.pos_of_ne_zero h0⟩,⟨_,rfl⟩,?_⟩
  rintro _ rfl
  simp only
  rw [KE]
  have hmod:=Nat.mod_lt (numI s) (Nat.pos_of_ne_zero h0)
  refine⟨fun hc=> ?_,fun hc=> ?_⟩
  ·have hc:negI s=true∧0<numI s%numI t:=by
    cases hn:negI s with
    | false=>rw [hn] at hc; cases hc
    | true=>rw [hn] at hc; exact⟨rfl,of_decide_eq_true hc⟩
   have eQ:dmQ s t=numI s/numI t+1:=if_pos hc
   have eM:dmM s t=numI t - numI s%numI t:=if_pos hc
   rw [eQ,eM] at hq
   rw [eQ] at rq
   rw [eM] at rm
   have hone:canon 1=[1]:=by
    rw [qV (by decide)]
    exact congrArg (1 :: ·) zN
   have rdiv:=room_le (Nat.div_le_self (numI s) (numI t)) (wQ e1)
   have hdl:(canon (numI s/numI t)).length<100000:=by
    have:=qx (Nat.lt_of_le_of_lt (Nat.div_le_self (numI s) (numI t)) (jy e1)) (by decide)
    exact this
   refine⟨(numI s/numI t,1),⟨⟨⟨rfl,rfl,za _ _ _⟩,⟨by rw [hone]; rfl,rfl,?_⟩,trivial⟩,hdl,by show(canon 1).length<100000; rw [hone]; decide⟩,⟨_,rfl⟩,?_⟩
   ·intro j o hj ho
    have:j=0:=by omega
    subst this
    have:o=0:=by omega
    subst this
    show AV.int .u32 1 = .int .u32 (((canon 1).getD 0 0:Nat):Int)
    rw [hone]; rfl
   rintro _ rfl
   refine⟨(numI t,numI s%numI t),⟨eL _ _,by show(canon (numI t)).length<1000000; omega,by show numI s%numI t≤numI t; omega⟩,⟨_,rfl⟩,?_⟩
   rintro _ rfl
   refine⟨(negI s != negI t,numI s/numI t+1),⟨eV _ _,big rq⟩,⟨_,rfl⟩,?_⟩
   rintro _ rfl
   have hz:=kq (neg:=(negI s != negI t)) rq
   refine⟨fun h=>by simp [hz] at h,fun _=>⟨(false,numI t - numI s%numI t),⟨eV _ _,big rm⟩,⟨_,rfl⟩,?_⟩⟩
   rintro _ rfl
   exact RetR.scal hq rfl (by simp [resV])
  ·have hc:¬ (negI s=true∧0<numI s%numI t):=by
    rintro⟨g1,g2⟩
    rw [g1,decide_eq_true g2] at hc
    cases hc
   have eQ:dmQ s t=numI s/numI t:=if_neg hc
   have eM:dmM s t=numI s%numI t:=if_neg hc
   rw [eQ,eM] at hq
   rw [eQ] at rq
   rw [eM] at rm
   refine⟨(negI s != negI t,numI s/numI t),⟨eV _ _,big rq⟩,⟨_,rfl⟩,?_⟩
   rintro _ rfl
   have hz:=kq (neg:=(negI s != negI t)) rq
   refine⟨fun h=>by simp [hz] at h,fun _=>⟨(false,numI s%numI t),⟨eV _ _,big rm⟩,⟨_,rfl⟩,?_⟩⟩
   rintro _ rfl
   exact RetR.scal hq rfl (by simp [resV])
 ·simp only [if_neg he]
  refine⟨fun _=> ?_,fun h=>(by simp [he] at h)⟩
  have e:dmI s t=([],[],z0 s t):=if_pos he
  rw [e] at hq
  exact RetR.scal hq rfl (by simp [resV])
def zeu:Ctr:=ctrP true (fun s:List UInt8=>[.str s]) (fun s=>s.length<2^62) (fun s r=>r=if errR s=0 then(numR s,denR s,0) else([],[],errR s)) (fun _ (r:List UInt8×List UInt8×Int)=>(.tup [.str r.1,.str r.2.1,.int .i64 r.2.2],[]))
noncomputable def GPa:Nat→Option Ctr:=fun f=>if f=83 then some (Qp) else if f=170 then some (YQ) else none
theorem zn0:∀ g c,GPa g=some c→zd Tryz.prog g c:=okIf ZC (okIf KY (zn))
theorem zh1:zd Tryz.prog 180 zeu:=by
 refine zh (fn:=Tryz.f180) (c:=Tryz.f180.body.getD .skip) rfl rfl rfl fun s hs O w0 Q hq=> ?_
 replace hq:=hq _ rfl
 refine zb.run hmix zn0 [] 400 (T:=.ex (fun(x:List UInt8)=>eqL [AV.str s] [AV.str x]∧x.length<4611686018427387904) fun n=>.all (fun(r:Int)=>r=errR n) fun n=>.ite (!decide (n=0)) (.leaf (.ret [.str #[].toList,.str #[].toList,.int .i64 n] [])) (.ex (fun(x:List UInt8)=>eqL [AV.str s] [AV.str x]∧x.length<4611686018427387904) fun n=>.all (fun(r:List UInt8×List UInt8×Bool)=>r=cutR n) fun n=>.ite (!Prod.snd n.2) (.leaf (.ret [.str n.1,.str #[(49:UInt8)].toList,.int .i64 0] [])) (.leaf (.ret [.str n.1,.str n.2.1,.int .i64 0] [])))) (by kernel_rfl) ?_
 simp only [Tree.holds,ze]
 refine⟨s,⟨by simp,hs⟩,⟨_,rfl⟩,?_⟩
 rintro _ rfl
 refine⟨fun h=> ?_,fun h=>⟨s,⟨by simp,hs⟩,⟨_,rfl⟩,?_⟩⟩
 ·have h:errR s≠0:=by simpa using h
  rw [if_neg h] at hq
  exact RetR.scal hq rfl (by simp [resV])
 ·have h:errR s=0:=by simpa using h
  rw [if_pos h] at hq
  rintro _ rfl
  refine⟨fun g=> ?_,fun g=> ?_⟩
  ·have e:denR s=[49]:=by unfold denR; rw [if_neg (by simpa using g)]
   rw [e] at hq
   exact RetR.scal hq rfl (by simp [resV,numR])
  ·have e:denR s=(cutR s).2.1:=by unfold denR; rw [if_pos (by simpa using g)]
   rw [e] at hq
   exact RetR.scal hq rfl (by simp [resV,numR])
def zbd:Ctr:=ctrP true (fun p:List UInt8×List UInt8=>[.str p.1,.str p.2]) (fun p=>p.1.length<2^62∧p.2.length<2^62) (fun p r=>r=jz p.1 p.2) (fun _ r=>(.tup [.str r.1,.int .i64 r.2],[]))
noncomputable def GMk:Nat→Option Ctr:=fun f=>if f=173 then some (gcdC) else if f=228 then some (dmC) else none
theorem zni:∀ g c,GMk g=some c→zd Tryz.prog g c:=okIf zgh (okIf zd4 (zn))
theorem zj7:zd Tryz.prog 185 zbd:=by
 refine zh (fn:=Tryz.f185) (c:=Tryz.f185.body.getD .skip) rfl rfl rfl fun p hp O w0 Q hq=> ?_
 obtain⟨s,t⟩:=p
 obtain⟨hs,ht⟩:=hp
 replace hq:=hq _ rfl
 simp only at hs ht hq
 refine zb.run hmix zni [] 400 (T:=.ex (fun(x:List UInt8×List UInt8)=>eqL [AV.str s,AV.str t] [AV.str x.1,AV.str x.2]∧x.1.length<4611686018427387904∧x.2.length<4611686018427387904) fun n=>.all (fun(r:List UInt8×Int)=>r=gcdR n.1 n.2) fun n=>.ite (!decide (n.2=0)) (.leaf (.ret [.str #[].toList,.int .i64 n.2] [])) (.ite (decide (t=#[(48:UInt8)].toList)) (.leaf (.ret [.str #[].toList,.int .i64 16] [])) (.side ((0:Int)≤0∧(0:Int)<t.length) (.ite (decide ((↑(UInt8.toNat (t.getD 0 (0:UInt8))):Int)=45)) (.side (1+n.1.length≤9223372036854775807) (.ex (fun(x:List UInt8×List UInt8)=>eqL [AV.str s,AV.str (#[(45:UInt8)].toList++n.1)] [AV.str x.1,AV.str x.2]∧x.1.length<4611686018427387904∧x.2.length<4611686018427387904) fun n_1=>.all (fun(r:List UInt8×List UInt8×Int)=>r=dmI n_1.1 n_1.2) fun n_2=>.ex (fun(x:List UInt8×List UInt8)=>eqL [AV.str t,AV.str (#[(45:UInt8)].toList++n.1)] [AV.str x.1,AV.str x.2]∧x.1.length<4611686018427387904∧x.2.length<4611686018427387904) fun n=>.all (fun(r:List UInt8×List UInt8×Int)=>r=dmI n.1 n.2) fun n=>.ite (decide (n.1=#[(49:UInt8)].toList)) (.leaf (.ret [.str n_2.1,.int .i64 0] [])) (.side (n_2.1.length+1≤9223372036854775807) (.side (List.length (n_2.1++#[(47:UInt8)].toList)+n.1.length≤9223372036854775807) (.leaf (.ret [.str (n_2.1++#[(47:UInt8)].toList++n.1),.int .i64 0] [])))))) (.ex (fun(x:List UInt8×List UInt8)=>eqL [AV.str s,AV.str n.1] [AV.str x.1,AV.str x.2]∧x.1.length<4611686018427387904∧x.2.length<4611686018427387904) fun n_1=>.all (fun(r:List UInt8×List UInt8×Int)=>r=dmI n_1.1 n_1.2) fun n_2=>.ex (fun(x:List UInt8×List UInt8)=>eqL [AV.str t,AV.str n.1] [AV.str x.1,AV.str x.2]∧x.1.length<4611686018427387904∧x.2.length<4611686018427387904) fun n=>.all (fun(r:List UInt8×List UInt8×Int)=>r=dmI n.1 n.2) fun n=>.ite (decide (n.1=#[(49:UInt8)].toList)) (.leaf (.ret [.str n_2.1,.int .i64 0] [])) (.side (n_2.1.length+1≤9223372036854775807) (.side (List.length (n_2.1++#[(47:UInt8)].toList)+n.1.length≤9223372036854775807) (.leaf (.ret [.str (n_2.1++#[(47:UInt8)].toList++n.1),.int .i64 0] []))))))))) (by kernel_rfl) ?_
 simp only [Tree.holds,ze,inR,lo,hi,Int.toNat_natCast]
 refine⟨(s,t),⟨by simp,by omega,by omega⟩,⟨_,rfl⟩,?_⟩
 rintro _ rfl
 by_cases he:z0 s t=0
 ·obtain⟨e1,e2⟩:=zM.1 he
  have eg:gcdR s t=wr false (Nat.gcd (numI s) (numI t)):=if_pos he
  by_cases h0:numI t=0
  ·have ht0:t=[48]:=(k7 e2).2 h0
   have hg0:Nat.gcd (numI s) (numI t)=numI s:=by rw [h0,Nat.gcd_zero_right]
   have hz:(gcdR s t).2=0:=by rw [eg,hg0]; exact kq (wQ e1)
   have e:jz s t=([],16):=by rw [jz,if_neg (by rw [he]; decide),if_pos h0]
   rw [e] at hq
   refine⟨fun h=>(by simp [hz] at h),fun _=>⟨fun _=>RetR.scal hq rfl (by simp [resV]),fun h=>(by simp [ht0] at h)⟩⟩
  ·obtain⟨g0,gr⟩:=XQ (s:=s) e2 h0
   have hz:(gcdR s t).2=0:=by rw [eg]; exact kq gr
   have ht0:t≠[48]:=fun h=>h0 ((k7 e2).1 h)
   have htn:t≠[]:=by rintro rfl; simp [JV] at e2
   have hneg:=Zq htn
   have e:jz s t=(Js (negI s != negI t) (numI s) (numI t),0):=by rw [jz,if_neg (by rw [he]; decide),if_neg h0]
   rw [e,Js] at hq
   have ds:Nat.gcd (numI s) (numI t) ∣ numI s:=Nat.gcd_dvd_left _ _
   have dt:Nat.gcd (numI s) (numI t) ∣ numI t:=Nat.gcd_dvd_right _ _
   generalize hgg:Nat.gcd (numI s) (numI t)=g at *
   have rt:=room_le (Nat.div_le_self (numI t) g) (wQ e2)
   have l1:=wv false g
   have l2:=wv true g
   have fin:∀ b:Bool,b=negI t→∀ (z w:List UInt8×List UInt8×Int),z=dmI s (wr b g).1→w=dmI t (wr b g).1 →
     (decide (w.1=[49])=true→RetR zbd 0 Q [.str z.1,.int .i64 0] [])∧(decide (w.1=[49])=false→z.1.length+1≤9223372036854775807∧(z.1.length+1≤9223372036854775807→(z.1++[47]).length+w.1.length≤9223372036854775807∧((z.1++[47]).length+w.1.length≤9223372036854775807→RetR zbd 0 Q [.str (z.1++[47]++w.1),.int .i64 0] []))):=by
    rintro b rfl z w rfl rfl
    rw [uy e1 g0 gr ds,uy e2 g0 gr dt]
    simp only
    have:(negI t != negI t)=false:=by simp
    rw [this]
    have k1:=wv (negI s != negI t) (numI s/g)
    have k2:=wv false (numI t/g)
    refine⟨fun h=> ?_,fun h=>⟨by omega,fun _=>⟨by simp; omega,fun _=> ?_⟩⟩⟩
    ·have h1:=(Kt rt).1 (of_decide_eq_true h)
     rw [if_pos h1] at hq
     exact RetR.scal hq rfl (by simp [resV])
    ·have h1:¬ numI t/g=1:=fun h1=>of_decide_eq_false h ((Kt rt).2 h1)
     rw [if_neg h1] at hq
     exact RetR.scal hq rfl (by simp [resV])
   rw [eg] at hz ⊢
   refine⟨fun h=>(by simp [hz] at h),fun _=>⟨fun h=>absurd (of_decide_eq_true h) ht0,fun _=>⟨⟨by omega,by have:=List.length_pos_iff.2 htn; omega⟩,fun _=>⟨fun hb=>⟨by omega,fun _=> ?_⟩,fun hb=> ?_⟩⟩⟩⟩
   ·have hn:negI t=true:=by
     rw [hneg,decide_eq_true_eq]
     exact uS (of_decide_eq_true hb)
    rw [zg1 g0 gr]
    refine⟨(s,(wr true g).1),⟨by simp,by show s.length<_; omega,by show(wr true g).1.length<_; omega⟩,⟨_,rfl⟩,?_⟩
    intro z hz
    refine⟨(t,(wr true g).1),⟨by simp,by show t.length<_; omega,by show(wr true g).1.length<_; omega⟩,⟨_,rfl⟩,?_⟩
    intro w hw
    exact fin true hn.symm z w hz hw
   ·have hn:negI t=false:=by
     rw [hneg,decide_eq_false_iff_not]
     intro h
     apply of_decide_eq_false hb
     rw [h]; rfl
    refine⟨(s,(wr false g).1),⟨by simp,by show s.length<_; omega,by show(wr false g).1.length<_; omega⟩,⟨_,rfl⟩,?_⟩
    intro z hz
    refine⟨(t,(wr false g).1),⟨by simp,by show t.length<_; omega,by show(wr false g).1.length<_; omega⟩,⟨_,rfl⟩,?_⟩
    intro w hw
    exact fin false hn.symm z w hz hw
 ·have eg:gcdR s t=([],z0 s t):=if_neg he
  have e:jz s t=([],z0 s t):=if_pos he
  rw [e] at hq
  rw [eg]
  exact⟨fun _=>RetR.scal hq rfl (by simp [resV]),fun h=>by simp [he] at h⟩
noncomputable def K92:List Go.Sx.Item:=[.code (Tryz.f92.body.getD .skip)]
structure Pr where
 n:List UInt8
 m:List UInt8
 d:List UInt8
 c:List UInt8
 e:Int
def Pr.box(p:Pr):Blk:=.box [.str p.n,.str p.m,.str p.d,.str p.c,.int .i64 p.e]
def Pr.err(p:Pr)(e:Int):Pr:=⟨p.n,p.m,p.d,p.c,e⟩
inductive QOp where
 | add | sub | mul
def QOp.fn:QOp→Nat
 | .add=>96
 | .sub=>999999
 | .mul=>94
def QOp.has:QOp→Prop
 | .sub=>False
 | _=>True
def QOp.op:QOp→List UInt8→List UInt8→List UInt8×Int
 | .add=>addI
 | .sub=>subI
 | .mul=>mulI
def jB(a b:List UInt8):Pr:=if errR a≠0 then⟨[],[],[],[],errR a⟩ else if errR b≠0 then⟨numR a,[],denR a,[],errR b⟩ else⟨numR a,numR b,denR a,denR b,0⟩
def zik:Ctr:=ctrT false false (fun p:List UInt8×List UInt8=>[.str p.1,.str p.2]) (fun _=>[]) (fun p=>p.1.length<2^62∧p.2.length<2^62) (fun p r=>r=jB p.1 p.2) (fun _ (r:Pr)=>(.ptr 0 0,[r.box]))
def zfm:Ctr:=ctrT false false (fun p:Pr×QOp=>[.ptr 0 0,.fn p.2.fn [] []]) (fun p=>[p.1.box]) (fun _=>True) (fun _ (_:Unit)=>True) (fun p _=>(.fn 181 [] [.ptr 1 0,.ptr 2 0],[p.1.box,.box [.ptr 0 0],.box [.fn p.2.fn [] []]]))
structure KX where
 p:Pr
 o:QOp
 x:List UInt8
 y:List UInt8
def Y8:Ctr:=ctrT false false (fun k:KX=>[.str k.x,.str k.y,.ptr 0 0,.ptr 2 0]) (fun k=>[.box [.ptr 1 0],k.p.box,.box [.fn k.o.fn [] []]]) (fun k=>k.x.length<2^62∧k.y.length<2^62∧k.o.has) (fun k r=>r=if k.p.e≠0 then([],k.p.e) else k.o.op k.x k.y)
 (fun k (r:List UInt8×Int)=>(.str r.1,[.box [.ptr 1 0],(k.p.err r.2).box,.box [.fn k.o.fn [] []]]))
def ze2:Ctr:=ctrT false false (fun k:Pr×List UInt8×List UInt8=>[.ptr 0 0,.str k.2.1,.str k.2.2]) (fun k=>[k.1.box]) (fun k=>k.2.1.length<2^62∧k.2.2.length<2^62) (fun k r=>r=if k.1.e≠0 then([],k.1.e) else jz k.2.1 k.2.2)
 (fun k (r:List UInt8×Int)=>(.tup [.str r.1,.int .i64 r.2],[k.1.box]))
theorem ziq:zd Tryz.prog 93 zfm:=by
 refine qt (fn:=Tryz.f93) (c:=Tryz.f93.body.getD .skip) rfl rfl rfl (fun h=>by cases h) fun p hp O w0 σ0 Q hl0 hq=> ?_
 obtain⟨p,o⟩:=p
 replace hq:=hq () trivial
 refine zb.run hmix zy [] 400 (T:=.leaf (.ret [.fn 181 [] [.ptr 1 0,.ptr 2 0]] [.box [.str p.n,.str p.m,.str p.d,.str p.c,.int .i64 p.e],.box [.ptr 0 0],.box [.fn (QOp.fn o) [] []]])) (by kernel_rfl) ?_
 simp only [Tree.holds,ze]
 refine RetR.keep [0,1,2] rfl rfl (by show ∀ j,j<1→_; decide) rfl hq ?_ ?_ rfl
 ·rfl
 ·exact⟨⟨rfl,rfl,rfl,rfl,⟨rfl,rfl⟩,trivial⟩,⟨⟨rfl,rfl⟩,trivial⟩,⟨rfl,trivial⟩,trivial⟩
noncomputable def GK1:Nat→Option Ctr:=fun f=>if f=96 then some (addC) else if f=94 then some (mulC) else none
theorem zhz:∀ g c,GK1 g=some c→zd Tryz.prog g c:=okIf zn4 (okIf zmp (zn))
theorem zf0:zd Tryz.prog 181 Y8:=by
 refine qt (fn:=Tryz.f181) (c:=Tryz.f181.body.getD .skip) rfl rfl rfl (fun h=>by cases h) fun k hk O w0 σ0 Q hl0 hq=> ?_
 obtain⟨⟨n,m,d,c,e⟩,o,x,y⟩:=k
 obtain⟨h1,h2,h3⟩:=hk
 replace hq:=hq _ rfl
 simp only at h1 h2 h3 hq
 have fin:∀ r:List UInt8×Int,(if e≠0 then([],e) else o.op x y)=r→RetR Y8 3 Q [.str r.1] [.box [.ptr 1 0],.box [.str n,.str m,.str d,.str c,.int .i64 r.2],.box [.fn o.fn [] []]]:=by
  rintro r rfl
  refine RetR.keep [0,1,2] rfl rfl (by show ∀ j,j<3→_; decide) rfl hq ?_ ?_ rfl
  ·rfl
  ·exact⟨⟨⟨rfl,rfl⟩,trivial⟩,⟨rfl,rfl,rfl,rfl,⟨rfl,rfl⟩,trivial⟩,⟨rfl,trivial⟩,trivial⟩
 cases o with
 | add=>
  refine zb.run hmix zhz [] 400 (T:=.ite (!decide (e=0)) (.leaf (.ret [.str #[].toList] [.box [.ptr 1 0],.box [.str n,.str m,.str d,.str c,.int .i64 e],.box [.fn 96 [] []]])) (.ex (fun(x_1:List UInt8×List UInt8)=>eqL [AV.str x,AV.str y] [AV.str x_1.1,AV.str x_1.2]∧x_1.1.length<4611686018427387904∧x_1.2.length<4611686018427387904) fun n_1=>.all (fun(r:List UInt8×Int)=>r=addI n_1.1 n_1.2) fun n_2=>.leaf (.ret [.str n_2.1] [.box [.ptr 1 0],.box [.str n,.str m,.str d,.str c,.int .i64 n_2.2],.box [.fn 96 [] []]]))) (by kernel_rfl) ?_
  simp only [Tree.holds,ze]
  refine⟨fun h=> ?_,fun h=>⟨(x,y),⟨by simp,h1,h2⟩,⟨_,rfl⟩,?_⟩⟩
  ·have h:e≠0:=by simpa using h
   exact fin ([],e) (if_pos h)
  ·have h:e=0:=by simpa using h
   rintro _ rfl
   exact fin (addI x y) (if_neg (by simp [h]))
 | sub=>exact h3.elim
 | mul=>
  refine zb.run hmix zhz [] 400 (T:=.ite (!decide (e=0)) (.leaf (.ret [.str #[].toList] [.box [.ptr 1 0],.box [.str n,.str m,.str d,.str c,.int .i64 e],.box [.fn 94 [] []]])) (.ex (fun(x_1:List UInt8×List UInt8)=>eqL [AV.str x,AV.str y] [AV.str x_1.1,AV.str x_1.2]∧x_1.1.length<4611686018427387904∧x_1.2.length<4611686018427387904) fun n_1=>.all (fun(r:List UInt8×Int)=>r=mulI n_1.1 n_1.2) fun n_2=>.leaf (.ret [.str n_2.1] [.box [.ptr 1 0],.box [.str n,.str m,.str d,.str c,.int .i64 n_2.2],.box [.fn 94 [] []]]))) (by kernel_rfl) ?_
  simp only [Tree.holds,ze]
  refine⟨fun h=> ?_,fun h=>⟨(x,y),⟨by simp,h1,h2⟩,⟨_,rfl⟩,?_⟩⟩
  ·have h:e≠0:=by simpa using h
   exact fin ([],e) (if_pos h)
  ·have h:e=0:=by simpa using h
   rintro _ rfl
   exact fin (mulI x y) (if_neg (by simp [h]))
noncomputable def GMd:Nat→Option Ctr:=fun f=>if f=185 then some (zbd) else none
theorem znn:∀ g c,GMd g=some c→zd Tryz.prog g c:=okIf zj7 (zn)
theorem zjk:zd Tryz.prog 95 ze2:=by
 refine qt (fn:=Tryz.f95) (c:=Tryz.f95.body.getD .skip) rfl rfl rfl (fun h=>by cases h) fun k hk O w0 σ0 Q hl0 hq=> ?_
 obtain⟨⟨n,m,d,c,e⟩,x,y⟩:=k
 obtain⟨h1,h2⟩:=hk
 replace hq:=hq _ rfl
 simp only at h1 h2 hq
 have fin:∀ r:List UInt8×Int,(if e≠0 then([],e) else jz x y)=r→RetR ze2 1 Q [.str r.1,.int .i64 r.2] [.box [.str n,.str m,.str d,.str c,.int .i64 e]]:=by
  rintro r rfl
  refine RetR.keep [0] rfl rfl (by show ∀ j,j<1→_; decide) rfl hq ?_ ?_ rfl
  ·exact⟨rfl,⟨rfl,rfl⟩,trivial⟩
  ·exact⟨⟨rfl,rfl,rfl,rfl,⟨rfl,rfl⟩,trivial⟩,trivial⟩
 refine zb.run hmix znn [] 400 (T:=.ite (!decide (e=0)) (.leaf (.ret [.str #[].toList,.int .i64 e] [.box [.str n,.str m,.str d,.str c,.int .i64 e]])) (.ex (fun(x_1:List UInt8×List UInt8)=>eqL [AV.str x,AV.str y] [AV.str x_1.1,AV.str x_1.2]∧x_1.1.length<4611686018427387904∧x_1.2.length<4611686018427387904) fun n_1=>.all (fun(r:List UInt8×Int)=>r=jz n_1.1 n_1.2) fun n_2=>.leaf (.ret [.str n_2.1,.int .i64 n_2.2] [.box [.str n,.str m,.str d,.str c,.int .i64 e]]))) (by kernel_rfl) ?_
 simp only [Tree.holds,ze]
 refine⟨fun h=> ?_,fun h=>⟨(x,y),⟨by simp,h1,h2⟩,⟨_,rfl⟩,?_⟩⟩
 ·have h:e≠0:=by simpa using h
  exact fin ([],e) (if_pos h)
 ·have h:e=0:=by simpa using h
  rintro _ rfl
  exact fin (jz x y) (if_neg (by simp [h]))
def Pst(a b:List UInt8):Nat→Pr
 | 0=>⟨[],[],[],[],0⟩
 | 1=>if errR a≠0 then⟨[],[],[],[],errR a⟩ else⟨numR a,[],denR a,[],0⟩
 | _=>jB a b
def SBq(a b:List UInt8)(i:Nat):KV:=[(5,.ptr 0 0),(12,.agg [.str a,.str b]),(13,.int .i64 (i:Int))]
noncomputable def GBq:Nat→Option Ctr:=fun f=>if f=180 then some (zeu) else none
theorem VL:∀ g c,GBq g=some c→zd Tryz.prog g c:=okIf zh1 (zn)
theorem zej:zd Tryz.prog 92 zik:=by
 refine qt (fn:=Tryz.f92) (c:=Tryz.f92.body.getD .skip) rfl rfl rfl (fun h=>by cases h) fun p hp O w0 σ0 Q hl0 hq=> ?_
 obtain rfl:σ0=[]:=List.length_eq_zero_iff.1 hl0
 obtain⟨a,b⟩:=p
 obtain⟨h1,h2⟩:=hp
 replace hq:=hq _ rfl
 simp only at h1 h2 hq
 refine zb.run hmix VL [5,12,13] 400 (T:=.leaf (.loop (Prod.fst (lps K92 0)) (Prod.snd (lps K92 0)) [(5,.ptr 0 0),(12,.agg [.str a,.str b]),(13,.int .i64 0)] [.box [.str #[].toList,.str #[].toList,.str #[].toList,.str #[].toList,.int .i64 0]])) (by kernel_rfl) ?_
 simp only [Tree.holds,ze]
 refine zb.loop (ι:={i:Nat // i≤2}) (fun i=>SBq a b i.1) (fun i=>[(Pst a b i.1).box]) (fun i=>2 - i.1) ⟨0,Nat.zero_le _⟩ 0 ?_ ?_ (by kernel_rfl)
 ·exact⟨by simp [SBq],by simp [Pst,Pr.box],by kernel_rfl,Nat.zero_le _⟩
 rintro⟨i,hil⟩
 match i,hil with
 | 0,_=>
  refine zb.run hmix VL [5,12,13] 400 (T:=.ite true (.side ((0:Int)≤0∧(0:Int)<2∧1≤List.length [AV.str a,AV.str b]) (.ite true (.ex (fun(x:List UInt8)=>eqL [AV.str a] [AV.str x]∧x.length<4611686018427387904) fun n=>.all (fun(r:List UInt8×List UInt8×Int)=>r=if errR n=0 then(numR n,denR n,(0:Int)) else([],[],errR n)) fun n=>.side ((0:Int)≤0∧(0:Int)<2) (.side ((0:Int)≤0∧(0:Int)<2) (.side (inR .i64 (1:Int)) (.leaf (.back 0 [(5,.ptr 0 0),(12,.agg [.str a,.str b]),(13,.int .i64 1)] [.box [.str n.1,.str [],.str n.2.1,.str [],.int .i64 n.2.2]]))))) (.side (inR .i64 (1:Int)) (.leaf (.back 0 [(5,.ptr 0 0),(12,.agg [.str a,.str b]),(13,.int .i64 1)] [.box [.str [],.str [],.str [],.str [],.int .i64 0]]))))) (.leaf (.ret [.ptr 0 0] [.box [.str [],.str [],.str [],.str [],.int .i64 0]]))) (by kernel_rfl) ?_
  simp only [Tree.holds,ze,inR,lo,hi,Int.toNat_natCast]
  refine⟨fun _=>⟨by simp,fun _=>⟨fun _=>⟨a,⟨by simp,h1⟩,⟨_,rfl⟩,?_⟩,fun h=>(by cases h)⟩⟩,fun h=>(by cases h)⟩
  intro r hr
  refine⟨by decide,fun _=>⟨by decide,fun _=>⟨by decide,fun _=> ?_⟩⟩⟩
  rw [if_pos trivial]
  refine⟨⟨1,by decide⟩,by decide,by simp [SBq],?_,by kernel_rfl,Nat.zero_le _⟩
  have e:Pst a b 1=⟨r.1,[],r.2.1,[],r.2.2⟩:=by
   rw [hr]
   by_cases h:errR a=0
   ·simp [Pst,h]
   ·simp [Pst,h]
  show eqH _ [(Pst a b 1).box]
  rw [e]
  simp [Pr.box]
 | 1,_=>
  obtain⟨⟨n,m,d,c,e⟩,hp⟩:∃ p,Pst a b 1=p:=⟨_,rfl⟩
  simp only [hp]
  refine zb.run hmix VL [5,12,13] 400 (T:=.ite true (.side ((0:Int)≤1∧(1:Int)<2∧2≤List.length [AV.str a,AV.str b]) (.ite (decide (e=0)) (.ex (fun(x:List UInt8)=>eqL [AV.str b] [AV.str x]∧x.length<4611686018427387904) fun n_1=>.all (fun(r:List UInt8×List UInt8×Int)=>r=if errR n_1=0 then(numR n_1,denR n_1,(0:Int)) else([],[],errR n_1)) fun n_2=>.side ((0:Int)≤1∧(1:Int)<2) (.side ((0:Int)≤1∧(1:Int)<2) (.side (inR .i64 (2:Int)) (.leaf (.back 0 [(5,.ptr 0 0),(12,.agg [.str a,.str b]),(13,.int .i64 2)] [.box [.str n,.str n_2.1,.str d,.str n_2.2.1,.int .i64 n_2.2.2]]))))) (.side (inR .i64 (2:Int)) (.leaf (.back 0 [(5,.ptr 0 0),(12,.agg [.str a,.str b]),(13,.int .i64 2)] [.box [.str n,.str m,.str d,.str c,.int .i64 e]]))))) (.leaf (.ret [.ptr 0 0] [.box [.str n,.str m,.str d,.str c,.int .i64 e]]))) (by kernel_rfl) ?_
  simp only [Tree.holds,ze,inR,lo,hi,Int.toNat_natCast]
  refine⟨fun _=>⟨by simp,fun _=>⟨fun h=>⟨b,⟨by simp,h2⟩,⟨_,rfl⟩,?_⟩,fun h=>⟨by decide,fun _=> ?_⟩⟩⟩,fun h=>(by cases h)⟩
  ·have h:e=0:=by simpa using h
   intro r hr
   refine⟨by decide,fun _=>⟨by decide,fun _=>⟨by decide,fun _=> ?_⟩⟩⟩
   rw [if_pos trivial]
   refine⟨⟨2,by decide⟩,by decide,by simp [SBq],?_,by kernel_rfl,Nat.zero_le _⟩
   have e2:Pst a b 2=⟨n,r.1,d,r.2.1,r.2.2⟩:=by
    rw [hr]
    by_cases ha:errR a=0
    ·simp only [Pst,ha] at hp
     simp at hp
     obtain⟨rfl,rfl,rfl,rfl,_⟩:=hp
     by_cases hb:errR b=0
     ·simp [Pst,jB,ha,hb]
     ·simp [Pst,jB,ha,hb]
    ·simp only [Pst] at hp
     rw [if_pos ha] at hp
     cases hp
     exact absurd h ha
   show eqH _ [(Pst a b 2).box]
   rw [e2]
   simp [Pr.box]
  ·have h:e≠0:=by simpa using h
   rw [if_pos trivial]
   refine⟨⟨2,by decide⟩,by decide,by simp [SBq],?_,by kernel_rfl,Nat.zero_le _⟩
   have e2:Pst a b 2=⟨n,m,d,c,e⟩:=by
    by_cases ha:errR a=0
    ·simp only [Pst,ha] at hp
     simp at hp
     exact absurd hp.2.2.2.2.symm h
    ·rw [← hp]
     simp only [Pst,jB]
     rw [if_pos ha,if_pos ha]
   show eqH _ [(Pst a b 2).box]
   rw [e2]
   simp [Pr.box]
 | 2,_=>
  obtain⟨⟨n,m,d,c,e⟩,hp⟩:∃ p,Pst a b 2=p:=⟨_,rfl⟩
  simp only [hp]
  refine zb.run hmix VL [5,12,13] 400 (T:=.ite false (.side ((0:Int)≤2∧(2:Int)<2∧3≤List.length [AV.str a,AV.str b]) .fail) (.leaf (.ret [.ptr 0 0] [.box [.str n,.str m,.str d,.str c,.int .i64 e]]))) (by kernel_rfl) ?_
  simp only [Tree.holds,ze,inR,lo,hi,Int.toNat_natCast]
  refine⟨fun h=>(by cases h),fun _=> ?_⟩
  have hp:jB a b=⟨n,m,d,c,e⟩:=hp
  rw [hp] at hq
  refine RetR.out1 0 (by show 0<1; decide) hq (fun h=>by cases h) ?_ ?_
  ·exact⟨rfl,rfl⟩
  ·exact⟨rfl,rfl,rfl,rfl,⟨rfl,rfl⟩,trivial⟩
theorem KT(a b:List UInt8):((jB a b).e≠0∧wT a b=(jB a b).e)∨((jB a b).e=0∧errR a=0∧errR b=0∧(jB a b).n=numR a∧(jB a b).m=numR b∧(jB a b).d=denR a∧(jB a b).c=denR b):=by
 unfold jB
 by_cases ha:errR a=0
 ·rw [if_neg (by rw [ha]; simp)]
  by_cases hb:errR b=0
  ·rw [if_neg (by rw [hb]; simp)]
   exact .inr ⟨rfl,ha,hb,rfl,rfl,rfl,rfl⟩
  ·rw [if_pos hb]
   exact .inl ⟨hb,by unfold wT; rw [if_pos ha]⟩
 ·rw [if_pos ha]
  exact .inl ⟨ha,by unfold wT; rw [if_neg ha]⟩
theorem zcj(a b:List UInt8):(jB a b).n.length≤a.length∧(jB a b).m.length≤b.length∧(jB a b).d.length≤a.length+1∧(jB a b).c.length≤b.length+1:=by
 have h1:=uI a
 have h2:=uI b
 have h3:=uG a
 have h4:=uG b
 unfold jB
 split
 ·simp
 ·split
  ·simp; omega
  ·simp only; omega
theorem kx_l(x y:List UInt8):eqL [.str x,.str y,.ptr 0 0,.ptr 2 0] [.str x,.str y,.ptr 0 0,.ptr 2 0]:=⟨rfl,rfl,⟨rfl,rfl⟩,⟨rfl,rfl⟩,trivial⟩
theorem kx_b(p:Pr):eqH [.box [.str p.n,.str p.m,.str p.d,.str p.c,.int .i64 p.e]] [.box [.str p.n,.str p.m,.str p.d,.str p.c,.int .i64 p.e]]:=⟨⟨rfl,rfl,rfl,rfl,⟨rfl,rfl⟩,trivial⟩,trivial⟩
theorem kx_h(p:Pr)(f:Nat):eqH [.box [.ptr 1 0],.box [.str p.n,.str p.m,.str p.d,.str p.c,.int .i64 p.e],.box [.fn f [] []]] [.box [.ptr 1 0],.box [.str p.n,.str p.m,.str p.d,.str p.c,.int .i64 p.e],.box [.fn f [] []]]:=⟨⟨⟨rfl,rfl⟩,trivial⟩,(kx_b p).1,⟨rfl,trivial⟩,trivial⟩
theorem kx_k(f:Nat):eqL [.ptr 0 0,.fn f [] []] [.ptr 0 0,.fn f [] []]:=⟨⟨rfl,rfl⟩,rfl,trivial⟩
theorem kx_m(x y:List UInt8):eqL [.ptr 0 0,.str x,.str y] [.ptr 0 0,.str x,.str y]:=⟨⟨rfl,rfl⟩,rfl,rfl,trivial⟩
theorem WU(p:Pr)(o:QOp)(x y:List UInt8){r:List UInt8×Int}(h:r=if p.e≠0 then([],p.e) else o.op x y):r.1.length≤1001:=by
 rw [h]
 refine zkr ?_
 cases o
 ·exact zfr x y
 ·exact zfo x y
 ·exact yf x y
noncomputable def GQA:Nat→Option Ctr:=fun f=>if f=92 then some (zik) else if f=93 then some (zfm) else if f=181 then some (Y8) else if f=95 then some (ze2) else if f=198 then some (zl6) else none
theorem zms:∀ g c,GQA g=some c→zd Tryz.prog g c:=okIf zej (okIf ziq (okIf zf0 (okIf zjk (okIf zku (zn)))))
def zln:Ctr:=ctrP true (fun p:List UInt8×List UInt8=>[.str p.1,.str p.2]) (fun p=>p.1.length<2^61∧p.2.length<2^61) (fun p r=>r=mulR p.1 p.2) (fun _ r=>(.tup [.str r.1,.int .i64 r.2],[]))
theorem zj5:zd Tryz.prog 18 zln:=by
 refine zh (fn:=Tryz.f18) (c:=Tryz.f18.body.getD .skip) rfl rfl rfl fun p hp O w0 Q hq=> ?_
 obtain⟨a,b⟩:=p
 obtain⟨h1,h2⟩:=hp
 replace hq:=hq _ rfl
 simp only at h1 h2 hq
 refine zb.run hmix zms [] 400 (T:=.ex (fun(x:List UInt8×List UInt8)=>eqL [AV.str a,AV.str b] [AV.str x.1,AV.str x.2]∧eqH [] []∧0=0∧x.1.length<4611686018427387904∧x.2.length<4611686018427387904) fun n=>.all (fun(r:Pr)=>r=jB n.1 n.2) fun n=>.ex (fun(x:Pr×QOp)=>eqL [AV.ptr 0 0,AV.fn 94 [] []] [AV.ptr 0 0,AV.fn (QOp.fn x.2) [] []]∧eqH [.box [AV.str n.n,AV.str n.m,AV.str n.d,AV.str n.c,AV.int .i64 n.e]] [.box [AV.str x.1.n,AV.str x.1.m,AV.str x.1.d,AV.str x.1.c,AV.int .i64 x.1.e]]∧1=1∧True) fun n=>.all (fun(x:Unit)=>True) fun n_1=>.side ((0:Int)≤0∧(0:Int)<2) (.side ((0:Int)≤1∧(1:Int)<2) (.side ((0:Int)≤0∧(0:Int)<2) (.side ((0:Int)≤1∧(1:Int)<2) (.ex (fun(x:KX)=>eqL [AV.str n.1.n,AV.str n.1.m,AV.ptr 0 0,AV.ptr 2 0] [AV.str x.x,AV.str x.y,AV.ptr 0 0,AV.ptr 2 0]∧eqH [.box [AV.ptr 1 0],.box [AV.str n.1.n,AV.str n.1.m,AV.str n.1.d,AV.str n.1.c,AV.int .i64 n.1.e],.box [AV.fn (QOp.fn n.2) [] []]] [.box [AV.ptr 1 0],.box [AV.str x.p.n,AV.str x.p.m,AV.str x.p.d,AV.str x.p.c,AV.int .i64 x.p.e],.box [AV.fn (QOp.fn x.o) [] []]]∧3=3∧x.x.length<4611686018427387904∧x.y.length<4611686018427387904∧QOp.has x.o) fun n_2=>.all (fun(r:List UInt8×Int)=>r=if Pr.e n_2.p≠0 then([],Pr.e n_2.p) else QOp.op n_2.o n_2.x n_2.y) fun n_3=>.side (Pr.c (Pr.err n_2.p n_3.2)=Pr.c n.1) (.side (Pr.d (Pr.err n_2.p n_3.2)=Pr.d n.1) (.ex (fun(x:KX)=>eqL [AV.str n.1.d,AV.str n.1.c,AV.ptr 0 0,AV.ptr 2 0] [AV.str x.x,AV.str x.y,AV.ptr 0 0,AV.ptr 2 0]∧eqH [.box [AV.ptr 1 0],.box [AV.str (Pr.n (Pr.err n_2.p n_3.2)),AV.str (Pr.m (Pr.err n_2.p n_3.2)),AV.str (Pr.d (Pr.err n_2.p n_3.2)),AV.str (Pr.c (Pr.err n_2.p n_3.2)),AV.int .i64 (Pr.e (Pr.err n_2.p n_3.2))],.box [AV.fn (QOp.fn n_2.o) [] []]] [.box [AV.ptr 1 0],.box [AV.str x.p.n,AV.str x.p.m,AV.str x.p.d,AV.str x.p.c,AV.int .i64 x.p.e],.box [AV.fn (QOp.fn x.o) [] []]]∧3=3∧x.x.length<4611686018427387904∧x.y.length<4611686018427387904∧QOp.has x.o) fun n=>.all (fun(r:List UInt8×Int)=>r=if Pr.e n.p≠0 then([],Pr.e n.p) else QOp.op n.o n.x n.y) fun n_4=>.ex (fun(x:Pr×List UInt8×List UInt8)=>eqL [AV.ptr 0 0,AV.str n_3.1,AV.str n_4.1] [AV.ptr 0 0,AV.str x.2.1,AV.str x.2.2]∧eqH [.box [AV.str (Pr.n (Pr.err n.p n_4.2)),AV.str (Pr.m (Pr.err n.p n_4.2)),AV.str (Pr.d (Pr.err n.p n_4.2)),AV.str (Pr.c (Pr.err n.p n_4.2)),AV.int .i64 (Pr.e (Pr.err n.p n_4.2))]] [.box [AV.str x.1.n,AV.str x.1.m,AV.str x.1.d,AV.str x.1.c,AV.int .i64 x.1.e]]∧1=1∧x.2.1.length<4611686018427387904∧x.2.2.length<4611686018427387904) fun n_5=>.all (fun(r:List UInt8×Int)=>r=if Pr.e n_5.1≠0 then([],Pr.e n_5.1) else jz n_5.2.1 n_5.2.2) fun n_6=>.leaf (.ret [.str n_6.1,.int .i64 n_6.2] [.box [.str n_5.1.n,.str n_5.1.m,.str n_5.1.d,.str n_5.1.c,.int .i64 n_5.1.e],.box [.ptr 0 0],.box [.fn (QOp.fn n.o) [] []]])))))))) (by kernel_rfl) ?_
 simp only [Tree.holds,ze]
 refine⟨(a,b),⟨⟨rfl,rfl,trivial⟩,trivial,by trivial,by show a.length<_; omega,by show b.length<_; omega⟩,⟨_,rfl⟩,?_⟩
 intro p hp
 have hc:=KT a b
 obtain⟨l1,l2,l3,l4⟩:=zcj a b
 rw [← hp] at hc l1 l2 l3 l4
 refine⟨(p,.mul),⟨kx_k _,kx_b p,by trivial,trivial⟩,⟨(),trivial⟩,?_⟩
 intro _ _
 iterate 4 refine⟨by decide,fun _=> ?_⟩
 refine⟨⟨p,.mul,p.n,p.m⟩,⟨kx_l _ _,kx_h (p) _,by trivial,by show(p.n).length<_; omega,by show(p.m).length<_; omega,by trivial⟩,⟨_,rfl⟩,?_⟩
 intro r1 hr1
 have kr1:=WU _ _ _ _ hr1
 iterate 2 refine⟨rfl,fun _=> ?_⟩
 refine⟨⟨p.err r1.2,.mul,p.d,p.c⟩,⟨kx_l _ _,kx_h (p.err r1.2) _,by trivial,by show(p.d).length<_; omega,by show(p.c).length<_; omega,by trivial⟩,⟨_,rfl⟩,?_⟩
 intro r2 hr2
 have kr2:=WU _ _ _ _ hr2
 refine⟨((p.err r1.2).err r2.2,r1.1,r2.1),⟨kx_m _ _,kx_b _,by trivial,by show(r1.1).length<_; omega,by show(r2.1).length<_; omega⟩,⟨_,rfl⟩,?_⟩
 intro r3 hr3
 have hv:errR a=0→errR b=0→z0 p.n p.m=0∧z0 p.d p.c=0:=by
  intro ha hb
  obtain⟨a1,a2,_⟩:=QX ha
  obtain⟨b1,b2,_⟩:=QX hb
  rcases hc with ⟨g1,g2⟩ | ⟨_,_,_,g1,g2,g3,g4⟩
  ·exact absurd g2 (by unfold wT; rw [if_pos ha,hb]; exact fun h=>g1 h.symm)
  ·rw [g1,g2,g3,g4]; exact⟨zM.2 ⟨a1,b1⟩,zM.2 ⟨a2,b2⟩⟩
 have hfin:=zdq hc hr1 hr2 hr3 hv
 have e:r3=mulR a b:=by
  rw [hfin]
  unfold mulR
  rcases hc with ⟨g1,g2⟩ | ⟨_,_,_,g1,g2,g3,g4⟩
  ·rw [if_pos (by rw [g2]; exact g1),if_pos (by rw [g2]; exact g1)]
  ·rw [g1,g2,g3,g4]
 rw [← e] at hq
 exact RetR.scal hq rfl (by simp [resV])
noncomputable def GPd:Nat→Option Ctr:=fun f=>if f=18 then some (zln) else if f=216 then some (WS) else none
theorem zn9:∀ g c,GPd g=some c→zd Tryz.prog g c:=okIf zj5 (okIf xE (zn))
def zbh:Ctr:=ctrT false false (fun p:Deal×Int×List UInt8×List UInt8=>[.ptr 0 0,.str p.2.2.1,.str p.2.2.2]) (fun p=>[.box (p.1.cells p.2.1)]) (fun p=>p.2.2.1.length<2^60∧p.2.2.2.length<2^60) (fun _ (_:Unit)=>True) (fun p _=>(.str (Tm.prod p.2.1 p.2.2.1 p.2.2.2).1,[.box (p.1.cells (Tm.prod p.2.1 p.2.2.1 p.2.2.2).2)]))
theorem Kl:zd Tryz.prog 159 zbh:=by
 refine qt (fn:=Tryz.f159) (c:=Tryz.f159.body.getD .skip) rfl rfl rfl (fun h=>by cases h) fun p hp O w0 σ0 Q hl0 hq=> ?_
 obtain⟨t,e,a,b⟩:=p
 obtain⟨h1,h2⟩:=hp
 replace hq:=hq () trivial
 simp only at hq h1 h2
 refine zb.run hmix zn9 [] 400 (T:=.ite (!decide (e=0)) (.leaf (.ret [.str #[(48:UInt8)].toList] [.box [.int .i64 e,.str (Deal.long t),.str (Deal.short t),.str (Deal.ccy t),.str t.name,.str (Deal.zc t),.str (Deal.zf t)]])) (.ex (fun(x:List UInt8×List UInt8)=>eqL [AV.str a,AV.str b] [AV.str x.1,AV.str x.2]∧x.1.length<2305843009213693952∧x.2.length<2305843009213693952) fun n=>.all (fun(r:List UInt8×Int)=>r=mulR n.1 n.2) fun n=>.ite (decide (e=0)) (.leaf (.ret [.str n.1] [.box [.int .i64 n.2,.str (Deal.long t),.str (Deal.short t),.str (Deal.ccy t),.str t.name,.str (Deal.zc t),.str (Deal.zf t)]])) (.leaf (.ret [.str n.1] [.box [.int .i64 e,.str (Deal.long t),.str (Deal.short t),.str (Deal.ccy t),.str t.name,.str (Deal.zc t),.str (Deal.zf t)]])))) (by kernel_rfl) ?_
 simp only [Tree.holds,ze]
 unfold Tm.prod at hq
 refine⟨fun h=> ?_,fun h=> ?_⟩
 ·rw [if_pos (by simpa using h)] at hq
  exact RetR.keep [0] rfl rfl (by show ∀ j,j<1→_; decide) rfl hq (by simp [resV,exp2,exp1,exp0,ren0,eqA2]) (by simp [expH,expB,exp1,exp0,ren0,Deal.cells]) rfl
 ·have he:e=0:=by simpa using h
  rw [if_neg (by simpa using h)] at hq
  subst he
  refine⟨(a,b),⟨⟨rfl,rfl,trivial⟩,by show a.length<_; omega,by show b.length<_; omega⟩,⟨_,rfl⟩,?_⟩
  rintro _ rfl
  refine⟨fun _=> ?_,fun h=>absurd h (by decide)⟩
  exact RetR.keep [0] rfl rfl (by show ∀ j,j<1→_; decide) rfl hq (by simp [resV,exp2,exp1,exp0,ren0,eqA2]) (by simp [expH,expB,exp1,exp0,ren0,Deal.cells]) rfl
def zel:Ctr:=ctrT false false (fun p:Deal×Int×Int=>[.ptr 0 0,.int .i64 p.2.2]) (fun p=>[.box (p.1.cells p.2.1)]) (fun _=>True) (fun _ (_:Unit)=>True) (fun p _=>(exD (Tm.fixg p.1.name p.2.2),[.box (p.1.cells p.2.1)]))
theorem zag:zd Tryz.prog 160 zel:=by
 refine qt (fn:=Tryz.f160) (c:=Tryz.f160.body.getD .skip) rfl rfl rfl (fun h=>by cases h) fun p hp O w0 σ0 Q hl0 hq=> ?_
 obtain⟨t,e,d⟩:=p
 replace hq:=hq () trivial
 refine zb.run hmix zy [] 400 (T:=.leaf (.ret [.agg [.int .u8 2,.str #[].toList,.str t.name,.int .i64 d,.nils]] [.box [.int .i64 e,.str (Deal.long t),.str (Deal.short t),.str (Deal.ccy t),.str t.name,.str (Deal.zc t),.str (Deal.zf t)],.box [.int .u8 2,.str #[].toList,.str t.name,.int .i64 d,.nils]])) (by kernel_rfl) ?_
 simp only [Tree.holds,ze]
 refine RetR.keep [0] rfl rfl (by show ∀ j,j<1→_; decide) rfl hq ?_ (by simp [expH,expB,exp1,exp0,ren0,Deal.cells]) rfl
 exact⟨⟨rfl,rfl⟩,rfl,rfl,⟨rfl,rfl⟩,rfl,trivial⟩
theorem Con.zb5(e f:Con):eqG 2 12 (zj (zi 12 (e.zr++f.zr)) 0) (Con.conG [e,f]):=by
 intro j o hj ho
 simp only [zj,zi,Nat.zero_add]
 rcases(show j=0∨j=1 by omega) with rfl | rfl<;>rcases(show o=0∨o=1∨o=2∨o=3∨o=4∨o=5∨o=6∨o=7∨o=8∨o=9∨o=10∨o=11 by omega) with rfl | rfl | rfl | rfl | rfl | rfl | rfl | rfl | rfl | rfl | rfl | rfl<;>rfl
theorem zbo{a b c:List UInt8}(x:Ex):eqA (.agg [.int .u8 2,.str a,.str b,.str c,.int .u8 x.kind,.str x.rat,.str x.name,.int .i64 x.date,.sl x.sub.length 5 x.deep,.int .i64 0,.nils,.nils]) (Con.mk 2 a b c x 0 [] []).conA:=
 ⟨⟨rfl,rfl⟩,rfl,rfl,rfl,⟨rfl,rfl⟩,rfl,rfl,⟨rfl,rfl⟩,⟨rfl,rfl,Ex.zJ x⟩,⟨rfl,rfl⟩,rfl,rfl,trivial⟩
def WT(d:Deal)(e:Int)(p:Per)(q:List UInt8):List Con:=[Tm.at_ p.pay (.mk 2 d.long d.short d.ccy (Tm.kon (Tm.prod e d.zc q).1) 0 [] []),Tm.at_ p.pay (Tm.pay d (Tm.fixg d.name p.fix) q)]
structure OneA where
 d:Deal
 e:Int
 p:Per
 q:List UInt8
def OneA.ok(x:OneA):Prop:=Tm.fits x.d∧x.q.length<2^40
noncomputable def GSw1:Nat→Option Ctr:=fun f=>if f=159 then some (zbh) else if f=144 then some (konC) else if f=140 then some (onS) else if f=141 then some (payS) else if f=160 then some (zel) else none
theorem zjn:∀ g c,GSw1 g=some c→zd Tryz.prog g c:=okIf Kl (okIf zff (okIf zfs (okIf za4 (okIf zag (zn)))))
def zhs:Ctr:=ctrT false false (fun x:OneA=>[.ptr 0 0,x.p.av,.str x.q,.ptr 1 0]) (fun x=>[.box (x.d.cells x.e),.box [.str x.d.long,.str x.d.short,.str x.d.ccy,.str x.d.name,.str x.d.zc,.str x.d.zf]]) (fun x=>x.ok) (fun _ (_:Unit)=>True) (fun x _=>(.sl 2 12 (Con.conG (WT x.d x.e x.p x.q)),[.box (x.d.cells (Tm.prod x.e x.d.zc x.q).2),.box [.str x.d.long,.str x.d.short,.str x.d.ccy,.str x.d.name,.str x.d.zc,.str x.d.zf]]))
theorem zgp:zd Tryz.prog 158 zhs:=by
 refine qt (fn:=Tryz.f158) (c:=Tryz.f158.body.getD .skip) rfl rfl rfl (fun h=>by cases h) fun p hp O w0 σ0 Q hl0 hq=> ?_
 obtain⟨t,e,p,q⟩:=p
 obtain⟨hf,h2⟩:=hp
 replace hq:=hq () trivial
 simp only at hq hf h2
 refine zb.run hmix zjn [] 400 (T:=.all (fun(x:Bool)=>True) fun n=>.ite n (.ex (fun(x:Deal×Int×List UInt8×List UInt8)=>eqL [AV.ptr 0 0,AV.str (Deal.zc t),AV.str q] [AV.ptr 0 0,AV.str x.2.2.1,AV.str x.2.2.2]∧eqH [.box [AV.int .i64 e,AV.str (Deal.long t),AV.str (Deal.short t),AV.str (Deal.ccy t),AV.str t.name,AV.str (Deal.zc t),AV.str (Deal.zf t)]] [.box [AV.int .i64 x.2.1,AV.str (Deal.long x.1),AV.str (Deal.short x.1),AV.str (Deal.ccy x.1),AV.str (Deal.name x.1),AV.str (Deal.zc x.1),AV.str (Deal.zf x.1)]]∧1=1∧x.2.2.1.length<1152921504606846976∧x.2.2.2.length<1152921504606846976) fun n=>.all (fun(x:Unit)=>True) fun n_1=>.all (fun(x:Bool)=>True) fun n_2=>.ite n_2 (.ex (fun(x:List UInt8)=>eqL [AV.str (Prod.fst (Tm.prod n.2.1 n.2.2.1 n.2.2.2))] [AV.str x]∧True) fun n_3=>.all (fun(x:Unit)=>True) fun n_4=>.ex (fun(x:Int×Con)=>eqL [AV.int .i64 p.pay,AV.agg [AV.int .u8 2,AV.str (Deal.long t),AV.str (Deal.short t),AV.str (Deal.ccy t),AV.int .u8 (Ex.kind (Tm.kon n_3)),AV.str (Ex.rat (Tm.kon n_3)),AV.str (Ex.name (Tm.kon n_3)),AV.int .i64 (Ex.date (Tm.kon n_3)),AV.sl (List.length (Ex.sub (Tm.kon n_3))) 5 (Ex.deep (Tm.kon n_3)),AV.int .i64 0,AV.nils,AV.nils]] [AV.int .i64 x.1,(Con.conA x.2)]∧True) fun n_5=>.all (fun(x:Unit)=>True) fun n_6=>.ex (fun(x:Deal×Int×Int)=>eqL [AV.ptr 0 0,AV.int .i64 p.fix] [AV.ptr 0 0,AV.int .i64 x.2.2]∧eqH [.box [AV.int .i64 (Prod.snd (Tm.prod n.2.1 n.2.2.1 n.2.2.2)),AV.str (Deal.long n.1),AV.str (Deal.short n.1),AV.str (Deal.ccy n.1),AV.str (Deal.name n.1),AV.str (Deal.zc n.1),AV.str (Deal.zf n.1)]] [.box [AV.int .i64 x.2.1,AV.str (Deal.long x.1),AV.str (Deal.short x.1),AV.str (Deal.ccy x.1),AV.str (Deal.name x.1),AV.str (Deal.zc x.1),AV.str (Deal.zf x.1)]]∧1=1∧True) fun n=>.all (fun(x:Unit)=>True) fun n_7=>.ex (fun(x:Deal×Int×Ex×List UInt8)=>eqL [AV.ptr 0 0,(exD (Tm.fixg (Deal.name n.1) n.2.2)),AV.str q] [AV.ptr 0 0,x.2.2.1.exA,AV.str x.2.2.2]∧eqH [.box [AV.int .i64 n.2.1,AV.str (Deal.long n.1),AV.str (Deal.short n.1),AV.str (Deal.ccy n.1),AV.str (Deal.name n.1),AV.str (Deal.zc n.1),AV.str (Deal.zf n.1)]] [.box [AV.int .i64 x.2.1,AV.str (Deal.long x.1),AV.str (Deal.short x.1),AV.str (Deal.ccy x.1),AV.str (Deal.name x.1),AV.str (Deal.zc x.1),AV.str (Deal.zf x.1)]]∧1=1∧True) fun n=>.all (fun(x:Unit)=>True) fun n_8=>.ex (fun(x:Int×Con)=>eqL [AV.int .i64 p.pay,(Con.conD (Tm.pay n.1 n.2.2.1 n.2.2.2))] [AV.int .i64 x.1,(Con.conA x.2)]∧True) fun n_9=>.all (fun(x:Unit)=>True) fun n_10=>.leaf (.ret [.osl 4 12 0 2] [.box [.int .i64 n.2.1,.str (Deal.long n.1),.str (Deal.short n.1),.str (Deal.ccy n.1),.str (Deal.name n.1),.str (Deal.zc n.1),.str (Deal.zf n.1)],.box [.str (Deal.long t),.str (Deal.short t),.str (Deal.ccy t),.str t.name,.str (Deal.zc t),.str (Deal.zf t)],.box [.int .i64 p.fix,.int .i64 p.pay,.str p.part],.box [.int .u8 2,.str (Deal.long t),.str (Deal.short t),.str (Deal.ccy t),.int .u8 (Ex.kind (Tm.kon n_3)),.str (Ex.rat (Tm.kon n_3)),.str (Ex.name (Tm.kon n_3)),.int .i64 (Ex.date (Tm.kon n_3)),.sl (List.length (Ex.sub (Tm.kon n_3))) 5 (Ex.deep (Tm.kon n_3)),.int .i64 0,.nils,.nils],.arr 2 12 (zi 12 [.int .u8 (Con.kind (Tm.at_ n_5.1 n_5.2)),.str (Con.src (Tm.at_ n_5.1 n_5.2)),.str (Con.dst (Tm.at_ n_5.1 n_5.2)),.str (Con.name (Tm.at_ n_5.1 n_5.2)),.int .u8 (Ex.kind (Con.x (Tm.at_ n_5.1 n_5.2))),.str (Ex.rat (Con.x (Tm.at_ n_5.1 n_5.2))),.str (Ex.name (Con.x (Tm.at_ n_5.1 n_5.2))),.int .i64 (Ex.date (Con.x (Tm.at_ n_5.1 n_5.2))),.sl (List.length (Ex.sub (Con.x (Tm.at_ n_5.1 n_5.2)))) 5 (Ex.exG (Ex.sub (Con.x (Tm.at_ n_5.1 n_5.2)))),.int .i64 (Con.date (Tm.at_ n_5.1 n_5.2)),.sl (List.length (Con.days (Tm.at_ n_5.1 n_5.2))) 1 (Con.dayG (Con.days (Tm.at_ n_5.1 n_5.2))),.sl (List.length (Con.sub (Tm.at_ n_5.1 n_5.2))) 12 (Con.deep (Tm.at_ n_5.1 n_5.2)),.int .u8 (Con.kind (Tm.at_ n_9.1 n_9.2)),.str (Con.src (Tm.at_ n_9.1 n_9.2)),.str (Con.dst (Tm.at_ n_9.1 n_9.2)),.str (Con.name (Tm.at_ n_9.1 n_9.2)),.int .u8 (Ex.kind (Con.x (Tm.at_ n_9.1 n_9.2))),.str (Ex.rat (Con.x (Tm.at_ n_9.1 n_9.2))),.str (Ex.name (Con.x (Tm.at_ n_9.1 n_9.2))),.int .i64 (Ex.date (Con.x (Tm.at_ n_9.1 n_9.2))),.sl (List.length (Ex.sub (Con.x (Tm.at_ n_9.1 n_9.2)))) 5 (Ex.exG (Ex.sub (Con.x (Tm.at_ n_9.1 n_9.2)))),.int .i64 (Con.date (Tm.at_ n_9.1 n_9.2)),.sl (List.length (Con.days (Tm.at_ n_9.1 n_9.2))) 1 (Con.dayG (Con.days (Tm.at_ n_9.1 n_9.2))),.sl (List.length (Con.sub (Tm.at_ n_9.1 n_9.2))) 12 (Con.deep (Tm.at_ n_9.1 n_9.2))])])) (.ex (fun(x:List UInt8)=>eqL [AV.str (Prod.fst (Tm.prod n.2.1 n.2.2.1 n.2.2.2))] [AV.str x]∧True) fun n_3=>.all (fun(x:Unit)=>True) fun n_4=>.ex (fun(x:Int×Con)=>eqL [AV.int .i64 p.pay,AV.agg [AV.int .u8 2,AV.str (Deal.long t),AV.str (Deal.short t),AV.str (Deal.ccy t),AV.int .u8 (Ex.kind (Tm.kon n_3)),AV.str (Ex.rat (Tm.kon n_3)),AV.str (Ex.name (Tm.kon n_3)),AV.int .i64 (Ex.date (Tm.kon n_3)),AV.sl (List.length (Ex.sub (Tm.kon n_3))) 5 (Ex.deep (Tm.kon n_3)),AV.int .i64 0,AV.nils,AV.nils]] [AV.int .i64 x.1,(Con.conA x.2)]∧True) fun n_5=>.all (fun(x:Unit)=>True) fun n_6=>.ex (fun(x:Deal×Int×Int)=>eqL [AV.ptr 0 0,AV.int .i64 p.fix] [AV.ptr 0 0,AV.int .i64 x.2.2]∧eqH [.box [AV.int .i64 (Prod.snd (Tm.prod n.2.1 n.2.2.1 n.2.2.2)),AV.str (Deal.long n.1),AV.str (Deal.short n.1),AV.str (Deal.ccy n.1),AV.str (Deal.name n.1),AV.str (Deal.zc n.1),AV.str (Deal.zf n.1)]] [.box [AV.int .i64 x.2.1,AV.str (Deal.long x.1),AV.str (Deal.short x.1),AV.str (Deal.ccy x.1),AV.str (Deal.name x.1),AV.str (Deal.zc x.1),AV.str (Deal.zf x.1)]]∧1=1∧True) fun n=>.all (fun(x:Unit)=>True) fun n_7=>.ex (fun(x:Deal×Int×Ex×List UInt8)=>eqL [AV.ptr 0 0,(exD (Tm.fixg (Deal.name n.1) n.2.2)),AV.str q] [AV.ptr 0 0,x.2.2.1.exA,AV.str x.2.2.2]∧eqH [.box [AV.int .i64 n.2.1,AV.str (Deal.long n.1),AV.str (Deal.short n.1),AV.str (Deal.ccy n.1),AV.str (Deal.name n.1),AV.str (Deal.zc n.1),AV.str (Deal.zf n.1)]] [.box [AV.int .i64 x.2.1,AV.str (Deal.long x.1),AV.str (Deal.short x.1),AV.str (Deal.ccy x.1),AV.str (Deal.name x.1),AV.str (Deal.zc x.1),AV.str (Deal.zf x.1)]]∧1=1∧True) fun n=>.all (fun(x:Unit)=>True) fun n_8=>.ex (fun(x:Int×Con)=>eqL [AV.int .i64 p.pay,(Con.conD (Tm.pay n.1 n.2.2.1 n.2.2.2))] [AV.int .i64 x.1,(Con.conA x.2)]∧True) fun n_9=>.all (fun(x:Unit)=>True) fun n_10=>.leaf (.ret [.osl 4 12 0 2] [.box [.int .i64 n.2.1,.str (Deal.long n.1),.str (Deal.short n.1),.str (Deal.ccy n.1),.str (Deal.name n.1),.str (Deal.zc n.1),.str (Deal.zf n.1)],.box [.str (Deal.long t),.str (Deal.short t),.str (Deal.ccy t),.str t.name,.str (Deal.zc t),.str (Deal.zf t)],.box [.int .i64 p.fix,.int .i64 p.pay,.str p.part],.box [.int .u8 2,.str (Deal.long t),.str (Deal.short t),.str (Deal.ccy t),.int .u8 (Ex.kind (Tm.kon n_3)),.str (Ex.rat (Tm.kon n_3)),.str (Ex.name (Tm.kon n_3)),.int .i64 (Ex.date (Tm.kon n_3)),.sl (List.length (Ex.sub (Tm.kon n_3))) 5 (Ex.deep (Tm.kon n_3)),.int .i64 0,.nils,.nils],.arr 2 12 (zi 12 [.int .u8 (Con.kind (Tm.at_ n_5.1 n_5.2)),.str (Con.src (Tm.at_ n_5.1 n_5.2)),.str (Con.dst (Tm.at_ n_5.1 n_5.2)),.str (Con.name (Tm.at_ n_5.1 n_5.2)),.int .u8 (Ex.kind (Con.x (Tm.at_ n_5.1 n_5.2))),.str (Ex.rat (Con.x (Tm.at_ n_5.1 n_5.2))),.str (Ex.name (Con.x (Tm.at_ n_5.1 n_5.2))),.int .i64 (Ex.date (Con.x (Tm.at_ n_5.1 n_5.2))),.sl (List.length (Ex.sub (Con.x (Tm.at_ n_5.1 n_5.2)))) 5 (Ex.exG (Ex.sub (Con.x (Tm.at_ n_5.1 n_5.2)))),.int .i64 (Con.date (Tm.at_ n_5.1 n_5.2)),.sl (List.length (Con.days (Tm.at_ n_5.1 n_5.2))) 1 (Con.dayG (Con.days (Tm.at_ n_5.1 n_5.2))),.sl (List.length (Con.sub (Tm.at_ n_5.1 n_5.2))) 12 (Con.deep (Tm.at_ n_5.1 n_5.2)),.int .u8 (Con.kind (Tm.at_ n_9.1 n_9.2)),.str (Con.src (Tm.at_ n_9.1 n_9.2)),.str (Con.dst (Tm.at_ n_9.1 n_9.2)),.str (Con.name (Tm.at_ n_9.1 n_9.2)),.int .u8 (Ex.kind (Con.x (Tm.at_ n_9.1 n_9.2))),.str (Ex.rat (Con.x (Tm.at_ n_9.1 n_9.2))),.str (Ex.name (Con.x (Tm.at_ n_9.1 n_9.2))),.int .i64 (Ex.date (Con.x (Tm.at_ n_9.1 n_9.2))),.sl (List.length (Ex.sub (Con.x (Tm.at_ n_9.1 n_9.2)))) 5 (Ex.exG (Ex.sub (Con.x (Tm.at_ n_9.1 n_9.2)))),.int .i64 (Con.date (Tm.at_ n_9.1 n_9.2)),.sl (List.length (Con.days (Tm.at_ n_9.1 n_9.2))) 1 (Con.dayG (Con.days (Tm.at_ n_9.1 n_9.2))),.sl (List.length (Con.sub (Tm.at_ n_9.1 n_9.2))) 12 (Con.deep (Tm.at_ n_9.1 n_9.2))])]))) (.ex (fun(x:Deal×Int×List UInt8×List UInt8)=>eqL [AV.ptr 0 0,AV.str (Deal.zc t),AV.str q] [AV.ptr 0 0,AV.str x.2.2.1,AV.str x.2.2.2]∧eqH [.box [AV.int .i64 e,AV.str (Deal.long t),AV.str (Deal.short t),AV.str (Deal.ccy t),AV.str t.name,AV.str (Deal.zc t),AV.str (Deal.zf t)]] [.box [AV.int .i64 x.2.1,AV.str (Deal.long x.1),AV.str (Deal.short x.1),AV.str (Deal.ccy x.1),AV.str (Deal.name x.1),AV.str (Deal.zc x.1),AV.str (Deal.zf x.1)]]∧1=1∧x.2.2.1.length<1152921504606846976∧x.2.2.2.length<1152921504606846976) fun n=>.all (fun(x:Unit)=>True) fun n_1=>.ex (fun(x:List UInt8)=>eqL [AV.str (Prod.fst (Tm.prod n.2.1 n.2.2.1 n.2.2.2))] [AV.str x]∧True) fun n_2=>.all (fun(x:Unit)=>True) fun n_3=>.ex (fun(x:Int×Con)=>eqL [AV.int .i64 p.pay,AV.agg [AV.int .u8 2,AV.str (Deal.long t),AV.str (Deal.short t),AV.str (Deal.ccy t),AV.int .u8 (Ex.kind (Tm.kon n_2)),AV.str (Ex.rat (Tm.kon n_2)),AV.str (Ex.name (Tm.kon n_2)),AV.int .i64 (Ex.date (Tm.kon n_2)),AV.sl (List.length (Ex.sub (Tm.kon n_2))) 5 (Ex.deep (Tm.kon n_2)),AV.int .i64 0,AV.nils,AV.nils]] [AV.int .i64 x.1,(Con.conA x.2)]∧True) fun n_4=>.all (fun(x:Unit)=>True) fun n_5=>.ex (fun(x:Deal×Int×Int)=>eqL [AV.ptr 0 0,AV.int .i64 p.fix] [AV.ptr 0 0,AV.int .i64 x.2.2]∧eqH [.box [AV.int .i64 (Prod.snd (Tm.prod n.2.1 n.2.2.1 n.2.2.2)),AV.str (Deal.long n.1),AV.str (Deal.short n.1),AV.str (Deal.ccy n.1),AV.str (Deal.name n.1),AV.str (Deal.zc n.1),AV.str (Deal.zf n.1)]] [.box [AV.int .i64 x.2.1,AV.str (Deal.long x.1),AV.str (Deal.short x.1),AV.str (Deal.ccy x.1),AV.str (Deal.name x.1),AV.str (Deal.zc x.1),AV.str (Deal.zf x.1)]]∧1=1∧True) fun n=>.all (fun(x:Unit)=>True) fun n_6=>.ex (fun(x:Deal×Int×Ex×List UInt8)=>eqL [AV.ptr 0 0,(exD (Tm.fixg (Deal.name n.1) n.2.2)),AV.str q] [AV.ptr 0 0,x.2.2.1.exA,AV.str x.2.2.2]∧eqH [.box [AV.int .i64 n.2.1,AV.str (Deal.long n.1),AV.str (Deal.short n.1),AV.str (Deal.ccy n.1),AV.str (Deal.name n.1),AV.str (Deal.zc n.1),AV.str (Deal.zf n.1)]] [.box [AV.int .i64 x.2.1,AV.str (Deal.long x.1),AV.str (Deal.short x.1),AV.str (Deal.ccy x.1),AV.str (Deal.name x.1),AV.str (Deal.zc x.1),AV.str (Deal.zf x.1)]]∧1=1∧True) fun n=>.all (fun(x:Unit)=>True) fun n_7=>.ex (fun(x:Int×Con)=>eqL [AV.int .i64 p.pay,(Con.conD (Tm.pay n.1 n.2.2.1 n.2.2.2))] [AV.int .i64 x.1,(Con.conA x.2)]∧True) fun n_8=>.all (fun(x:Unit)=>True) fun n_9=>.leaf (.ret [.osl 4 12 0 2] [.box [.int .i64 n.2.1,.str (Deal.long n.1),.str (Deal.short n.1),.str (Deal.ccy n.1),.str (Deal.name n.1),.str (Deal.zc n.1),.str (Deal.zf n.1)],.box [.str (Deal.long t),.str (Deal.short t),.str (Deal.ccy t),.str t.name,.str (Deal.zc t),.str (Deal.zf t)],.box [.int .i64 p.fix,.int .i64 p.pay,.str p.part],.box [.int .u8 2,.str (Deal.long t),.str (Deal.short t),.str (Deal.ccy t),.int .u8 (Ex.kind (Tm.kon n_2)),.str (Ex.rat (Tm.kon n_2)),.str (Ex.name (Tm.kon n_2)),.int .i64 (Ex.date (Tm.kon n_2)),.sl (List.length (Ex.sub (Tm.kon n_2))) 5 (Ex.deep (Tm.kon n_2)),.int .i64 0,.nils,.nils],.arr 2 12 (zi 12 [.int .u8 (Con.kind (Tm.at_ n_4.1 n_4.2)),.str (Con.src (Tm.at_ n_4.1 n_4.2)),.str (Con.dst (Tm.at_ n_4.1 n_4.2)),.str (Con.name (Tm.at_ n_4.1 n_4.2)),.int .u8 (Ex.kind (Con.x (Tm.at_ n_4.1 n_4.2))),.str (Ex.rat (Con.x (Tm.at_ n_4.1 n_4.2))),.str (Ex.name (Con.x (Tm.at_ n_4.1 n_4.2))),.int .i64 (Ex.date (Con.x (Tm.at_ n_4.1 n_4.2))),.sl (List.length (Ex.sub (Con.x (Tm.at_ n_4.1 n_4.2)))) 5 (Ex.exG (Ex.sub (Con.x (Tm.at_ n_4.1 n_4.2)))),.int .i64 (Con.date (Tm.at_ n_4.1 n_4.2)),.sl (List.length (Con.days (Tm.at_ n_4.1 n_4.2))) 1 (Con.dayG (Con.days (Tm.at_ n_4.1 n_4.2))),.sl (List.length (Con.sub (Tm.at_ n_4.1 n_4.2))) 12 (Con.deep (Tm.at_ n_4.1 n_4.2)),.int .u8 (Con.kind (Tm.at_ n_8.1 n_8.2)),.str (Con.src (Tm.at_ n_8.1 n_8.2)),.str (Con.dst (Tm.at_ n_8.1 n_8.2)),.str (Con.name (Tm.at_ n_8.1 n_8.2)),.int .u8 (Ex.kind (Con.x (Tm.at_ n_8.1 n_8.2))),.str (Ex.rat (Con.x (Tm.at_ n_8.1 n_8.2))),.str (Ex.name (Con.x (Tm.at_ n_8.1 n_8.2))),.int .i64 (Ex.date (Con.x (Tm.at_ n_8.1 n_8.2))),.sl (List.length (Ex.sub (Con.x (Tm.at_ n_8.1 n_8.2)))) 5 (Ex.exG (Ex.sub (Con.x (Tm.at_ n_8.1 n_8.2)))),.int .i64 (Con.date (Tm.at_ n_8.1 n_8.2)),.sl (List.length (Con.days (Tm.at_ n_8.1 n_8.2))) 1 (Con.dayG (Con.days (Tm.at_ n_8.1 n_8.2))),.sl (List.length (Con.sub (Tm.at_ n_8.1 n_8.2))) 12 (Con.deep (Tm.at_ n_8.1 n_8.2))])]))) (by kernel_rfl) ?_
 simp only [Tree.holds,ze]
 have h6:t.zc.length≤2500:=hf.2.2.2.2.1
 repeat' apply x9
 all_goals refine⟨(t,e,t.zc,q),⟨by simp,by simp [Deal.cells],trivial,by show t.zc.length<_; omega,by show q.length<_; omega⟩,⟨(),trivial⟩,fun _ _=> ?_⟩
 all_goals repeat' apply x9
 all_goals refine⟨(Tm.prod e t.zc q).1,⟨⟨rfl,trivial⟩,trivial⟩,⟨(),trivial⟩,fun _ _=> ?_⟩
 all_goals repeat' apply x9
 all_goals refine⟨(p.pay,.mk 2 t.long t.short t.ccy (Tm.kon (Tm.prod e t.zc q).1) 0 [] []),⟨⟨⟨rfl,rfl⟩,zbo _,trivial⟩,trivial⟩,⟨(),trivial⟩,fun _ _=> ?_⟩
 all_goals repeat' apply x9
 all_goals refine⟨(t,(Tm.prod e t.zc q).2,p.fix),⟨by simp,by simp [Deal.cells],trivial,trivial⟩,⟨(),trivial⟩,fun _ _=> ?_⟩
 all_goals repeat' apply x9
 all_goals refine⟨(t,(Tm.prod e t.zc q).2,Tm.fixg t.name p.fix,q),⟨⟨⟨rfl,rfl⟩,qO _,rfl,trivial⟩,by simp [Deal.cells],trivial,trivial⟩,⟨(),trivial⟩,fun _ _=> ?_⟩
 all_goals repeat' apply x9
 all_goals refine⟨(p.pay,Tm.pay t (Tm.fixg t.name p.fix) q),⟨⟨⟨rfl,rfl⟩,zQ _,trivial⟩,trivial⟩,⟨(),trivial⟩,fun _ _=> ?_⟩
 all_goals repeat' apply x9
 all_goals exact RetR.keep [0,1] rfl rfl (by show ∀ j,j<2→_; decide) rfl hq ⟨rfl,rfl,Con.zb5 _ _⟩ (by simp [expH,expB,exp1,exp0,ren0,Deal.cells]) rfl
noncomputable def GCp1:Nat→Option Ctr:=fun f=>if f=160 then some (zel) else if f=152 then some (zlo) else if f=141 then some (payS) else if f=140 then some (onS) else none
theorem zkf:∀ g c,GCp1 g=some c→zd Tryz.prog g c:=okIf zag (okIf zer (okIf za4 (okIf zfs (zn))))
def capL(d:Deal)(fl:Bool)(p:Per)(q:List UInt8):List Con:=[Tm.at_ p.pay (Tm.pay d (Tm.over d.zc (Tm.fixg d.name p.fix) fl) q)]
def zlx:Ctr:=ctrT false false (fun x:OneA×Bool=>[.ptr 0 0,x.1.p.av,.str x.1.q,.ptr 1 0]) (fun x=>[.box (x.1.d.cells x.1.e),.box [.bool x.2]]) (fun x=>x.1.ok) (fun _ (_:Unit)=>True) (fun x _=>(.sl 1 12 (Con.conG (capL x.1.d x.2 x.1.p x.1.q)),[.box (x.1.d.cells x.1.e),.box [.bool x.2]]))
theorem zjp:zd Tryz.prog 164 zlx:=by
 refine qt (fn:=Tryz.f164) (c:=Tryz.f164.body.getD .skip) rfl rfl rfl (fun h=>by cases h) fun p hp O w0 σ0 Q hl0 hq=> ?_
 obtain⟨⟨t,e,p,q⟩,fl⟩:=p
 obtain⟨hf,h2⟩:=hp
 replace hq:=hq () trivial
 simp only at hq hf h2
 refine zb.run hmix zkf [] 400 (T:=.ex (fun(x:Deal×Int×Int)=>eqL [AV.ptr 0 0,AV.int .i64 p.fix] [AV.ptr 0 0,AV.int .i64 x.2.2]∧eqH [.box [AV.int .i64 e,AV.str (Deal.long t),AV.str (Deal.short t),AV.str (Deal.ccy t),AV.str t.name,AV.str (Deal.zc t),AV.str (Deal.zf t)]] [.box [AV.int .i64 x.2.1,AV.str (Deal.long x.1),AV.str (Deal.short x.1),AV.str (Deal.ccy x.1),AV.str (Deal.name x.1),AV.str (Deal.zc x.1),AV.str (Deal.zf x.1)]]∧1=1∧True) fun n=>.all (fun(x:Unit)=>True) fun n_1=>.ex (fun(x:Deal×Int×Ex×Bool)=>eqL [AV.ptr 0 0,(exD (Tm.fixg (Deal.name n.1) n.2.2)),AV.bool fl] [AV.ptr 0 0,x.2.2.1.exA,AV.bool x.2.2.2]∧eqH [.box [AV.int .i64 n.2.1,AV.str (Deal.long n.1),AV.str (Deal.short n.1),AV.str (Deal.ccy n.1),AV.str (Deal.name n.1),AV.str (Deal.zc n.1),AV.str (Deal.zf n.1)]] [.box [AV.int .i64 x.2.1,AV.str (Deal.long x.1),AV.str (Deal.short x.1),AV.str (Deal.ccy x.1),AV.str (Deal.name x.1),AV.str (Deal.zc x.1),AV.str (Deal.zf x.1)]]∧1=1∧True) fun n=>.all (fun(x:Unit)=>True) fun n_2=>.ex (fun(x:Deal×Int×Ex×List UInt8)=>eqL [AV.ptr 0 0,(exD (Tm.over (Deal.zc n.1) n.2.2.1 n.2.2.2)),AV.str q] [AV.ptr 0 0,x.2.2.1.exA,AV.str x.2.2.2]∧eqH [.box [AV.int .i64 n.2.1,AV.str (Deal.long n.1),AV.str (Deal.short n.1),AV.str (Deal.ccy n.1),AV.str (Deal.name n.1),AV.str (Deal.zc n.1),AV.str (Deal.zf n.1)]] [.box [AV.int .i64 x.2.1,AV.str (Deal.long x.1),AV.str (Deal.short x.1),AV.str (Deal.ccy x.1),AV.str (Deal.name x.1),AV.str (Deal.zc x.1),AV.str (Deal.zf x.1)]]∧1=1∧True) fun n=>.all (fun(x:Unit)=>True) fun n_3=>.ex (fun(x:Int×Con)=>eqL [AV.int .i64 p.pay,(Con.conD (Tm.pay n.1 n.2.2.1 n.2.2.2))] [AV.int .i64 x.1,(Con.conA x.2)]∧True) fun n_4=>.all (fun(x:Unit)=>True) fun n_5=>.leaf (.ret [.osl 3 12 0 1] [.box [.int .i64 n.2.1,.str (Deal.long n.1),.str (Deal.short n.1),.str (Deal.ccy n.1),.str (Deal.name n.1),.str (Deal.zc n.1),.str (Deal.zf n.1)],.box [.bool fl],.box [.int .i64 p.fix,.int .i64 p.pay,.str p.part],.arr 1 12 (zi 12 (Con.zr (Tm.at_ n_4.1 n_4.2)))])) (by kernel_rfl) ?_
 simp only [Tree.holds,ze]
 repeat' apply x9
 all_goals refine⟨(t,e,p.fix),⟨by simp,by simp [Deal.cells],trivial,trivial⟩,⟨(),trivial⟩,fun _ _=> ?_⟩
 all_goals repeat' apply x9
 all_goals refine⟨(t,e,Tm.fixg t.name p.fix,fl),⟨⟨⟨rfl,rfl⟩,qO _,rfl,trivial⟩,by simp [Deal.cells],trivial,trivial⟩,⟨(),trivial⟩,fun _ _=> ?_⟩
 all_goals repeat' apply x9
 all_goals refine⟨(t,e,Tm.over t.zc (Tm.fixg t.name p.fix) fl,q),⟨⟨⟨rfl,rfl⟩,qO _,rfl,trivial⟩,by simp [Deal.cells],trivial,trivial⟩,⟨(),trivial⟩,fun _ _=> ?_⟩
 all_goals repeat' apply x9
 all_goals refine⟨(p.pay,Tm.pay t (Tm.over t.zc (Tm.fixg t.name p.fix) fl) q),⟨⟨⟨rfl,rfl⟩,zQ _,trivial⟩,trivial⟩,⟨(),trivial⟩,fun _ _=> ?_⟩
 all_goals repeat' apply x9
 all_goals exact RetR.keep [0,1] rfl rfl (by show ∀ j,j<2→_; decide) rfl hq ⟨rfl,rfl,Con.zaq _⟩ (by simp [expH,expB,exp1,exp0,ren0,Deal.cells]) rfl
end Go.Proofs.Tryz
end
section
namespace Go.Nov
open Go.Sx
namespace Tm
theorem V8{f:Leg→Per→Leg}(hf:∀ s p,(f s p).acc.length≤s.acc.length+2∧Con.bigs (f s p).acc≤Con.bigs s.acc+30000∧Con.z6 (f s p).acc≤Con.z6 s.acc+4):∀ (l:List Per) (s:Leg),(l.foldl f s).acc.length≤s.acc.length+2*l.length∧Con.bigs (l.foldl f s).acc≤Con.bigs s.acc+30000*l.length∧Con.z6 (l.foldl f s).acc≤Con.z6 s.acc+4*l.length
 | [],s=>by simp
 | p::l,s=>by
  have h1:=V8 hf l (f s p)
  have h2:=hf s p
  simp only [List.foldl_cons,List.length_cons]
  omega
theorem kf{f:Leg→Per→Leg}(hf:∀ s p,(f s p).acc.length≤s.acc.length+2∧Con.bigs (f s p).acc≤Con.bigs s.acc+30000∧Con.z6 (f s p).acc≤Con.z6 s.acc+4)(e:Int)(l:List Per)(i:Nat)(hl:l.length≤60):(zz f e l i).acc.length≤120∧Con.bigs (zz f e l i).acc≤1800000∧Con.z6 (zz f e l i).acc≤240:=by
 have h:=V8 hf (l.take i) ⟨e,[]⟩
 have h2:(l.take i).length≤60:=by rw [List.length_take]; omega
 unfold zz
 simp only [List.length_nil,Con.bigs,Con.z6] at h
 omega
theorem Zo{d:Deal}(h:fits d)(s:Leg)(p:Per):(legS d s p).acc.length≤s.acc.length+2∧Con.bigs (legS d s p).acc≤Con.bigs s.acc+30000∧Con.z6 (legS d s p).acc≤Con.z6 s.acc+4:=by
 have h':=h
 obtain⟨h1,h2,h3,h4,h5,h6⟩:=h
 have l1:(prod (prod s.e p.part d.zf).2 d.zc (prod s.e p.part d.zf).1).1.length≤2003:=xU
 have l2:(prod s.e p.part d.zf).1.length≤2003:=xU
 have:=zbr (x:=fixg d.name p.fix) (r:=(prod s.e p.part d.zf).1) h'
 simp only [legS,JF,Z8,List.length_append,at_,kon,fixg,pay,opx,Con.big,Con.bigs,Con.nodes,Con.z6,Ex.size,Ex.z1,Ex.zD,Ex.j9,List.length_nil,List.length_cons] at this l1 l2 ⊢
 omega
theorem zde{k n:List UInt8}{z:Int}{fl:Bool} : (over k (fixg n z) fl).size+(over k (fixg n z) fl).zD≤20+k.length+n.length:=by
 cases fl<;>simp only [over,opx,fixg,kon,Ex.size,Ex.z1,Ex.zD,Ex.j9,List.length_nil,List.length_cons,if_pos,Bool.false_eq_true,if_false]<;>omega
theorem Zm{d:Deal}{fl:Bool}(h:fits d)(s:Leg)(p:Per):(legC d fl s p).acc.length≤s.acc.length+2∧Con.bigs (legC d fl s p).acc≤Con.bigs s.acc+30000∧Con.z6 (legC d fl s p).acc≤Con.z6 s.acc+4:=by
 have h':=h
 obtain⟨h1,h2,h3,h4,h5,h6⟩:=h
 have l2:(prod s.e p.part d.zf).1.length≤2003:=xU
 have:=zbr (x:=over d.zc (fixg d.name p.fix) fl) (r:=(prod s.e p.part d.zf).1) h'
 have:=zde (k:=d.zc) (n:=d.name) (z:=p.fix) (fl:=fl)
 simp only [legC,JF,Z8,List.length_append,at_,Con.bigs,Con.nodes,Con.z6,List.length_nil,List.length_cons]
 rw [show(Con.mk 6 [] [] [] (Ex.mk 0 [] [] 0 []) p.pay [] [pay d (over d.zc (fixg d.name p.fix) fl) (prod s.e p.part d.zf).1]).big=1+0+0+0+0+1+0+((pay d (over d.zc (fixg d.name p.fix) fl) (prod s.e p.part d.zf).1).big+0) by simp [Con.big,Con.bigs,Ex.size,Ex.z1,Ex.zD,Ex.j9]]
 simp only [pay,Con.nodes,Con.z6] at this ⊢
 simp only [pay] at *
 omega
def resE(e:Int)(c:Con):Int:=if e=0 then c.errC else e
def k8(f:Leg→Per→Leg)(d:Deal)(l:List Per):Leg:=zz f (qb (perE d l) l l.length) l l.length
def qL(f:Leg→Per→Leg)(d:Deal)(l:List Per):Int:=if 40<l.length then 4 else resE (k8 f d l).e (whole (k8 f d l).acc)
def qw(f:Leg→Per→Leg)(d:Deal)(l:List Per):Con:=if qL f d l=0 then whole (k8 f d l).acc else zero
end Tm
end Go.Nov
end
section
set_option maxRecDepth 100000
open Go Go.Sx Go.Proofs Go.Nov
namespace Go.Proofs.Tryz
attribute [local simp] eqKV eqA eqA0 eqH eqB eqL eqL0
noncomputable def K157:List Go.Sx.Item:=[.code (Tryz.f157.body.getD .skip)]
noncomputable def allS:Ctr:={ J8 with sinks:=true }
theorem za8:zd Tryz.prog 154 allS:=zd.sink (c:=J8) zna
noncomputable def zgy:Ctr:={ ze6 with sinks:=true }
theorem Xr:zd Tryz.prog 139 zgy:=zd.sink (c:=ze6) zeb
structure PeA where
 d:Deal
 l:List Per
 fl:Bool
def PeA.ok(x:PeA):Prop:=Tm.fits x.d∧x.l.length≤60∧∀ i,i<x.l.length→(x.l.getD i Per.nil).part.length≤300
def dbox(d:Deal):Blk:=.box [.str d.long,.str d.short,.str d.ccy,.str d.name,.str d.zc,.str d.zf]
theorem zas(a:List UInt8):eqG 1 1 (zi 1 [.str a]) (ratG [a]):=by
 intro j o hj ho
 rcases(show j=0 by omega) with rfl
 rcases(show o=0 by omega) with rfl
 rfl
theorem X7(l m:List Con):eqG (l.length+m.length) 12 (appG l.length (Con.conG l) (Con.conG m)) (Con.conG (l++m)):=by
 intro j o hj ho
 unfold appG
 by_cases h:j<l.length
 ·rw [if_pos h]; simp [Con.conG,List.getD,List.getElem?_append,h]
 ·rw [if_neg h]; simp [Con.conG,List.getD,List.getElem?_append,h]
def jJ(d:Deal)(fl:Bool):Blk:=dbox d
def bCap(d:Deal)(fl:Bool):Blk:=.box [.bool fl]
def zK(d:Deal)(fl:Bool):Tm.Leg→Per→Tm.Leg:=Tm.legS d
def qg(d:Deal)(fl:Bool):Tm.Leg→Per→Tm.Leg:=Tm.legC d fl
theorem zhr{d:Deal}{fl:Bool}(h:Tm.fits d)(s:Tm.Leg)(p:Per):(zK d fl s p).acc.length≤s.acc.length+2∧Con.bigs (zK d fl s p).acc≤Con.bigs s.acc+30000∧Con.z6 (zK d fl s p).acc≤Con.z6 s.acc+4:=Tm.Zo h s p
theorem zjx{d:Deal}{fl:Bool}(h:Tm.fits d)(s:Tm.Leg)(p:Per):(qg d fl s p).acc.length≤s.acc.length+2∧Con.bigs (qg d fl s p).acc≤Con.bigs s.acc+30000∧Con.z6 (qg d fl s p).acc≤Con.z6 s.acc+4:=Tm.Zm h s p
noncomputable def zk1:Nat→Option Ctr:=fun f=>if f=138 then some (Uw) else if f=156 then some (Qo) else if f=216 then some (WS) else if f=159 then some (zbh) else if f=158 then some (zhs) else if f=154 then some (allS) else if f=139 then some (zgy) else none
theorem kO:∀ g c,zk1 g=some c→zd Tryz.prog g c:=okIf WH (okIf Zn (okIf xE (okIf Kl (okIf zgp (okIf za8 (okIf Xr (zn)))))))
def x8(d:Deal)(fl:Bool)(e:Int):Heap:=[jJ d fl,dbox d,.box (List.replicate 12 .undef),.dead,.box (d.cells e)]
def Ut(l:List Per)(i:Nat):KV:=[(1,perS l),(2,.fn 158 [] [.ptr 0 0]),(3,.ptr 1 0),(6,.ptr 2 0),(8,.ptr 4 0),(11,.undef),(14,.undef),(23,perS l),(24,.int .i64 (l.length:Int)),(25,.int .i64 (i:Int)),(37,.undef),(38,.undef),(39,.undef),(50,.undef),(51,.undef),(52,.undef),(53,.undef),(54,.undef),(55,.undef),(56,.undef),(57,.undef),(66,.undef),(67,.undef),(68,.undef)]
def Zs(l:List Per)(i:Nat):KV:=[(1,perS l),(2,.fn 158 [] [.ptr 0 0]),(3,.ptr 1 0),(6,.ptr 2 0),(8,.ptr 4 0),(11,.int .i64 (Tm.kA l i)),(14,.undef),(23,.undef),(24,.undef),(25,.undef),(37,perS l),(38,.int .i64 (l.length:Int)),(39,.int .i64 (i:Int)),(50,.undef),(51,.undef),(52,.undef),(53,.undef),(54,.undef),(55,.undef),(56,.undef),(57,.undef),(66,.undef),(67,.undef),(68,.undef)]
def JD(d:Deal)(fl:Bool)(e:Int)(acc:List Con):Heap:=[jJ d fl,dbox d,.box (List.replicate 12 .undef),.dead,.box (d.cells e),.arr acc.length 12 (Con.conG acc)]
def ZD(l:List Per)(n i:Nat):KV:=[(1,.undef),(2,.fn 158 [] [.ptr 0 0]),(3,.ptr 1 0),(6,.ptr 2 0),(8,.ptr 4 0),(11,.undef),(14,.osl 5 12 0 n),(23,.undef),(24,.undef),(25,.undef),(37,.undef),(38,.undef),(39,.undef),(50,.undef),(51,.undef),(52,.undef),(53,.undef),(54,.undef),(55,.undef),(56,.undef),(57,.undef),(66,perS l),(67,.int .i64 (l.length:Int)),(68,.int .i64 (i:Int))]
def uB:Ctr:=ctrT false false (fun x:PeA=>[x.d.av,perS x.l,.fn 158 [] [.ptr 0 0]]) (fun x=>[jJ x.d x.fl]) (fun x=>x.ok) (fun _ (_:Unit)=>True) (fun x _=>(.tup [(Tm.qw (zK x.d x.fl) x.d x.l).conD,.int .i64 (Tm.qL (zK x.d x.fl) x.d x.l)],[jJ x.d x.fl]))
theorem zke{O:Nat→Prop}{w0:World}{σ0:List SE}{Hs:Nat→KV→Heap→Prop}{Q:AV×Heap→Prop}(d:Deal)(l:List Per)(fl:Bool)(e2:Int)(hf:Tm.fits d)(hl:l.length≤60)(hpt:∀ i,i<l.length→(l.getD i Per.nil).part.length≤300)
  (hq:Q (.tup [(if Tm.resE (Tm.zz (zK d fl) e2 l l.length).e (Tm.whole (Tm.zz (zK d fl) e2 l l.length).acc)=0 then Tm.whole (Tm.zz (zK d fl) e2 l l.length).acc else Tm.zero).conD,.int .i64 (Tm.resE (Tm.zz (zK d fl) e2 l l.length).e (Tm.whole (Tm.zz (zK d fl) e2 l l.length).acc))],[jJ d fl])) :
  zb Tryz.prog Tryz.f157 O 1 w0 σ0 Hs (RetR uB 1 Q) (.code (.loop (lps (inside (inside K157 0) 0) 0).1)::(lps (inside (inside K157 0) 0) 0).2) (mk Tryz.f157.ntmps (ZD l 0 0) (JD d fl e2 [])):=by
 refine zb.loop (ι:={i:Nat // i≤l.length}) (fun i=>ZD l (Tm.zz (zK d fl) e2 l i.1).acc.length i.1) (fun i=>JD d fl (Tm.zz (zK d fl) e2 l i.1).e (Tm.zz (zK d fl) e2 l i.1).acc) (fun i=>l.length - i.1) ⟨0,Nat.zero_le _⟩ 0 ?_ ?_ (by kernel_rfl)
 ·exact⟨by simp [ZD,perS,za,Tm.zz],by simp [JD,jJ,dbox,Deal.cells,List.replicate,Tm.zz,za],by kernel_rfl,by show 1≤6; decide⟩
 ·rintro⟨i,hil⟩
  have hsz:=Tm.kf (f:=zK d fl) (zhr hf) e2 l i hl
  obtain⟨⟨e,acc⟩,hs⟩:∃ s,Tm.zz (zK d fl) e2 l i=s:=⟨_,rfl⟩
  rw [hs] at hsz
  simp only [hs]
  simp only at hsz
  refine zb.run hmix kO [1,2,3,6,8,11,14,23,24,25,37,38,39,50,51,52,53,54,55,56,57,66,67,68] 400 (T:=.ite (decide ((↑i:Int)<l.length)) (.side ((0:Int)≤i∧(↑i:Int)<l.length) (.ex (fun(x:Deal×Int×List UInt8×List UInt8)=>eqL [AV.ptr 0 0,AV.str (Per.part (l.getD (↑i:Int).toNat Per.nil)),AV.str (Deal.zf d)] [AV.ptr 0 0,AV.str x.2.2.1,AV.str x.2.2.2]∧eqH [.box [AV.int .i64 e,AV.str (Deal.long d),AV.str (Deal.short d),AV.str (Deal.ccy d),AV.str d.name,AV.str (Deal.zc d),AV.str (Deal.zf d)]] [.box [AV.int .i64 x.2.1,AV.str (Deal.long x.1),AV.str (Deal.short x.1),AV.str (Deal.ccy x.1),AV.str (Deal.name x.1),AV.str (Deal.zc x.1),AV.str (Deal.zf x.1)]]∧1=1∧x.2.2.1.length<1152921504606846976∧x.2.2.2.length<1152921504606846976) fun n=>.all (fun(x:Unit)=>True) fun n_1=>.ex (fun(x:OneA)=>eqL [AV.ptr 0 0,AV.agg [AV.int .i64 (Per.fix (l.getD (↑i:Int).toNat Per.nil)),AV.int .i64 (Per.pay (l.getD (↑i:Int).toNat Per.nil)),AV.str (Per.part (l.getD (↑i:Int).toNat Per.nil))],AV.str (Prod.fst (Tm.prod n.2.1 n.2.2.1 n.2.2.2)),AV.ptr 1 0] [AV.ptr 0 0,AV.agg [AV.int .i64 (Per.fix (OneA.p x)),AV.int .i64 (Per.pay (OneA.p x)),AV.str (Per.part (OneA.p x))],AV.str (OneA.q x),AV.ptr 1 0]∧eqH [.box [AV.int .i64 (Prod.snd (Tm.prod n.2.1 n.2.2.1 n.2.2.2)),AV.str (Deal.long n.1),AV.str (Deal.short n.1),AV.str (Deal.ccy n.1),AV.str (Deal.name n.1),AV.str (Deal.zc n.1),AV.str (Deal.zf n.1)],.box [AV.str (Deal.long d),AV.str (Deal.short d),AV.str (Deal.ccy d),AV.str d.name,AV.str (Deal.zc d),AV.str (Deal.zf d)]] [.box [AV.int .i64 (OneA.e x),AV.str (Deal.long (OneA.d x)),AV.str (Deal.short (OneA.d x)),AV.str (Deal.ccy (OneA.d x)),AV.str (Deal.name (OneA.d x)),AV.str (Deal.zc (OneA.d x)),AV.str (Deal.zf (OneA.d x))],.box [AV.str (Deal.long (OneA.d x)),AV.str (Deal.short (OneA.d x)),AV.str (Deal.ccy (OneA.d x)),AV.str (Deal.name (OneA.d x)),AV.str (Deal.zc (OneA.d x)),AV.str (Deal.zf (OneA.d x))]]∧2=2∧OneA.ok x) fun n=>.all (fun(x:Unit)=>True) fun n_2=>.side (0=0∧acc.length≤acc.length∧(acc.length+2)*184≤140737488355328) (.side (inR .i64 ((↑i:Int)+(1:Int))) (.leaf (.back 0 [(1,.undef),(2,.fn 158 [] [.ptr 0 0]),(3,.ptr 1 0),(6,.ptr 2 0),(8,.ptr 4 0),(11,.undef),(14,.osl 5 12 0 (acc.length+2)),(23,.undef),(24,.undef),(25,.undef),(37,.undef),(38,.undef),(39,.undef),(50,.undef),(51,.undef),(52,.undef),(53,.undef),(54,.undef),(55,.undef),(56,.undef),(57,.undef),(66,.sl l.length 3 (perG l)),(67,.int .i64 l.length),(68,.int .i64 ((↑i:Int)+(1:Int)))] [.box [.str (Deal.long (OneA.d n)),.str (Deal.short (OneA.d n)),.str (Deal.ccy (OneA.d n)),.str (Deal.name (OneA.d n)),.str (Deal.zc (OneA.d n)),.str (Deal.zf (OneA.d n))],.box [.str (Deal.long d),.str (Deal.short d),.str (Deal.ccy d),.str d.name,.str (Deal.zc d),.str (Deal.zf d)],.box [.undef,.undef,.undef,.undef,.undef,.undef,.undef,.undef,.undef,.undef,.undef,.undef],.dead,.box [.int .i64 (Prod.snd (Tm.prod (OneA.e n) (Deal.zc (OneA.d n)) (OneA.q n))),.str (Deal.long (OneA.d n)),.str (Deal.short (OneA.d n)),.str (Deal.ccy (OneA.d n)),.str (Deal.name (OneA.d n)),.str (Deal.zc (OneA.d n)),.str (Deal.zf (OneA.d n))],.arr (acc.length+2) 12 (appG acc.length (Con.conG acc) (Con.conG (WT (OneA.d n) (OneA.e n) (OneA.p n) (OneA.q n)))),.box [.int .i64 (Per.fix (l.getD (↑i:Int).toNat Per.nil)),.int .i64 (Per.pay (l.getD (↑i:Int).toNat Per.nil)),.str (Per.part (l.getD (↑i:Int).toNat Per.nil))]]))))) (.ex (fun(x:List Con)=>eqL [AV.sl acc.length 12 (zj (Con.conG acc) 0)] [AV.sl x.length 12 (Con.conG x)]∧x.length<1099511627776) fun n=>.all (fun(x:Unit)=>True) fun n_1=>.ite (decide (e=0)) (.ex (fun(x:Con)=>eqL [(Con.conD (Tm.whole n))] [(Con.conA x)]∧Con.big x<1099511627776∧Con.nodes x≤1000000) fun n_2=>.all (fun(r:Int)=>r=Con.errC n_2) fun n_3=>.ite (decide (e=0)) (.ite (!decide (n_3=0)) (.leaf (.ret [.agg [.int .u8 0,.str #[].toList,.str #[].toList,.str #[].toList,.int .u8 0,.str #[].toList,.str #[].toList,.int .i64 0,.nils,.int .i64 0,.nils,.nils],.int .i64 n_3] [.box [.str (Deal.long d),.str (Deal.short d),.str (Deal.ccy d),.str d.name,.str (Deal.zc d),.str (Deal.zf d)],.box [.str (Deal.long d),.str (Deal.short d),.str (Deal.ccy d),.str d.name,.str (Deal.zc d),.str (Deal.zf d)],.box [.int .u8 0,.str #[].toList,.str #[].toList,.str #[].toList,.int .u8 0,.str #[].toList,.str #[].toList,.int .i64 0,.nils,.int .i64 0,.nils,.nils],.dead,.box [.int .i64 n_3,.str (Deal.long d),.str (Deal.short d),.str (Deal.ccy d),.str d.name,.str (Deal.zc d),.str (Deal.zf d)],.dead,.box (Con.zr (Tm.whole n)),.box [.int .u8 0,.str #[].toList,.str #[].toList,.str #[].toList,.int .u8 0,.str #[].toList,.str #[].toList,.int .i64 0,.nils,.int .i64 0,.nils,.nils]])) (.ex (fun(x:Con)=>eqL [(Con.conD (Tm.whole n))] [(Con.conA x)]∧Con.big x<274877906944) fun n_4=>.all (fun(x:Unit)=>True) fun n_5=>.leaf (.ret [(Con.conD n_4),.int .i64 0] [.box [.str (Deal.long d),.str (Deal.short d),.str (Deal.ccy d),.str d.name,.str (Deal.zc d),.str (Deal.zf d)],.box [.str (Deal.long d),.str (Deal.short d),.str (Deal.ccy d),.str d.name,.str (Deal.zc d),.str (Deal.zf d)],.box (Con.zr n_4),.dead,.box [.int .i64 n_3,.str (Deal.long d),.str (Deal.short d),.str (Deal.ccy d),.str d.name,.str (Deal.zc d),.str (Deal.zf d)],.dead,.box (Con.zr (Tm.whole n)),.box (Con.zr n_4)]))) (.ite (!decide (e=0)) (.leaf (.ret [.agg [.int .u8 0,.str #[].toList,.str #[].toList,.str #[].toList,.int .u8 0,.str #[].toList,.str #[].toList,.int .i64 0,.nils,.int .i64 0,.nils,.nils],.int .i64 e] [.box [.str (Deal.long d),.str (Deal.short d),.str (Deal.ccy d),.str d.name,.str (Deal.zc d),.str (Deal.zf d)],.box [.str (Deal.long d),.str (Deal.short d),.str (Deal.ccy d),.str d.name,.str (Deal.zc d),.str (Deal.zf d)],.box [.int .u8 0,.str #[].toList,.str #[].toList,.str #[].toList,.int .u8 0,.str #[].toList,.str #[].toList,.int .i64 0,.nils,.int .i64 0,.nils,.nils],.dead,.box [.int .i64 e,.str (Deal.long d),.str (Deal.short d),.str (Deal.ccy d),.str d.name,.str (Deal.zc d),.str (Deal.zf d)],.dead,.box (Con.zr (Tm.whole n)),.box [.int .u8 0,.str #[].toList,.str #[].toList,.str #[].toList,.int .u8 0,.str #[].toList,.str #[].toList,.int .i64 0,.nils,.int .i64 0,.nils,.nils]])) (.ex (fun(x:Con)=>eqL [(Con.conD (Tm.whole n))] [(Con.conA x)]∧Con.big x<274877906944) fun n_4=>.all (fun(x:Unit)=>True) fun n_5=>.leaf (.ret [(Con.conD n_4),.int .i64 0] [.box [.str (Deal.long d),.str (Deal.short d),.str (Deal.ccy d),.str d.name,.str (Deal.zc d),.str (Deal.zf d)],.box [.str (Deal.long d),.str (Deal.short d),.str (Deal.ccy d),.str d.name,.str (Deal.zc d),.str (Deal.zf d)],.box (Con.zr n_4),.dead,.box [.int .i64 e,.str (Deal.long d),.str (Deal.short d),.str (Deal.ccy d),.str d.name,.str (Deal.zc d),.str (Deal.zf d)],.dead,.box (Con.zr (Tm.whole n)),.box (Con.zr n_4)])))) (.ite (!decide (e=0)) (.leaf (.ret [.agg [.int .u8 0,.str #[].toList,.str #[].toList,.str #[].toList,.int .u8 0,.str #[].toList,.str #[].toList,.int .i64 0,.nils,.int .i64 0,.nils,.nils],.int .i64 e] [.box [.str (Deal.long d),.str (Deal.short d),.str (Deal.ccy d),.str d.name,.str (Deal.zc d),.str (Deal.zf d)],.box [.str (Deal.long d),.str (Deal.short d),.str (Deal.ccy d),.str d.name,.str (Deal.zc d),.str (Deal.zf d)],.box [.int .u8 0,.str #[].toList,.str #[].toList,.str #[].toList,.int .u8 0,.str #[].toList,.str #[].toList,.int .i64 0,.nils,.int .i64 0,.nils,.nils],.dead,.box [.int .i64 e,.str (Deal.long d),.str (Deal.short d),.str (Deal.ccy d),.str d.name,.str (Deal.zc d),.str (Deal.zf d)],.dead,.box (Con.zr (Tm.whole n)),.box [.int .u8 0,.str #[].toList,.str #[].toList,.str #[].toList,.int .u8 0,.str #[].toList,.str #[].toList,.int .i64 0,.nils,.int .i64 0,.nils,.nils]])) (.ex (fun(x:Con)=>eqL [(Con.conD (Tm.whole n))] [(Con.conA x)]∧Con.big x<274877906944) fun n_2=>.all (fun(x:Unit)=>True) fun n_3=>.leaf (.ret [(Con.conD n_2),.int .i64 0] [.box [.str (Deal.long d),.str (Deal.short d),.str (Deal.ccy d),.str d.name,.str (Deal.zc d),.str (Deal.zf d)],.box [.str (Deal.long d),.str (Deal.short d),.str (Deal.ccy d),.str d.name,.str (Deal.zc d),.str (Deal.zf d)],.box (Con.zr n_2),.dead,.box [.int .i64 e,.str (Deal.long d),.str (Deal.short d),.str (Deal.ccy d),.str d.name,.str (Deal.zc d),.str (Deal.zf d)],.dead,.box (Con.zr (Tm.whole n)),.box (Con.zr n_2)]))))) (by kernel_rfl) ?_
  simp only [Tree.holds,ze,inR,lo,hi,Int.toNat_natCast]
  refine⟨fun hlt=> ?_,fun hge=> ?_⟩
  ·have hlt:i<l.length:=by have:=of_decide_eq_true hlt; omega
   have hpi:=hpt i hlt
   have h6:d.zf.length≤2500:=hf.2.2.2.2.2
   have hss:=Tm.kS (f:=zK d fl) (e:=e2) hlt
   rw [hs] at hss
   replace hss:Tm.zz (zK d fl) e2 l (i+1)=⟨(Tm.prod (Tm.prod e (l.getD i Per.nil).part d.zf).2 d.zc (Tm.prod e (l.getD i Per.nil).part d.zf).1).2,acc++WT d (Tm.prod e (l.getD i Per.nil).part d.zf).2 (l.getD i Per.nil) (Tm.prod e (l.getD i Per.nil).part d.zf).1⟩:=hss
   refine⟨by omega,fun _=> ?_⟩
   refine⟨(d,e,(l.getD i Per.nil).part,d.zf),⟨by simp,by simp [Deal.cells],trivial,by show(l.getD i Per.nil).part.length<_; omega,by show d.zf.length<_; omega⟩,⟨(),trivial⟩,fun _ _=> ?_⟩
   refine⟨⟨d,(Tm.prod e (l.getD i Per.nil).part d.zf).2,(l.getD i Per.nil),(Tm.prod e (l.getD i Per.nil).part d.zf).1⟩,⟨⟨⟨rfl,rfl⟩,⟨⟨rfl,rfl⟩,⟨rfl,rfl⟩,rfl,trivial⟩,rfl,⟨rfl,rfl⟩,trivial⟩,by simp [Deal.cells],trivial,hf,by have:=Tm.xU (e:=e) (a:=(l.getD i Per.nil).part) (b:=d.zf); show(Tm.prod e (l.getD i Per.nil).part d.zf).1.length<_; omega⟩,⟨(),trivial⟩,fun _ _=> ?_⟩
   refine⟨⟨trivial,Nat.le_refl _,by omega⟩,fun _=>⟨by omega,fun _=> ?_⟩⟩
   rw [if_pos trivial]
   refine⟨⟨i+1,hlt⟩,by show l.length - (i+1)<l.length - i; omega,?_,?_,by kernel_rfl,by show 1≤6; decide⟩
   ·rw [hss]; simp [ZD,perS,za,WT]
   ·rw [hss]
    refine⟨by simp [jJ,dbox],by simp [dbox],by simp [List.replicate],trivial,by simp [Deal.cells],⟨by simp [WT],rfl,X7 acc (WT d (Tm.prod e (l.getD i Per.nil).part d.zf).2 (l.getD i Per.nil) (Tm.prod e (l.getD i Per.nil).part d.zf).1)⟩,trivial⟩
  ·have hge:i=l.length:=by have:=of_decide_eq_false hge; omega
   subst hge
   rw [hs] at hq
   simp only at hq
   have hw:=Tm.vZ acc
   obtain⟨c,hc⟩:∃ c,Tm.whole acc=c:=⟨_,rfl⟩
   rw [hc] at hq hw
   refine⟨acc,⟨⟨⟨rfl,rfl,w8 _ _ _⟩,trivial⟩,by omega⟩,⟨(),trivial⟩,fun _ _=> ?_⟩
   simp only [hc]
   unfold Tm.resE at hq
   refine⟨fun h=> ?_,fun h=> ?_⟩
   ·rw [if_pos (of_decide_eq_true h)] at hq
    refine⟨c,⟨⟨zQ c,trivial⟩,by omega,by omega⟩,⟨_,rfl⟩,?_⟩
    rintro _ rfl
    refine⟨fun _=>⟨fun h1=> ?_,fun h1=> ?_⟩,fun h1=>absurd (h.symm.trans h1) (by decide)⟩
    ·rw [if_neg (by simpa using h1)] at hq
     exact RetR.keep [0] rfl rfl (by show ∀ j,j<1→_; decide) rfl hq zero_eq (by simp [expH,expB,exp1,exp0,ren0,jJ,dbox]) rfl
    ·have h1:c.errC=0:=by simpa using h1
     rw [if_pos h1,h1] at hq
     refine⟨c,⟨⟨zQ c,trivial⟩,by omega⟩,⟨(),trivial⟩,fun _ _=> ?_⟩
     exact RetR.KP [0] rfl rfl (by show ∀ j,j<1→_; decide) rfl hq (LeA.refl _) (by simp [expH,expB,exp1,exp0,ren0,jJ,dbox]) rfl
   ·have h:=of_decide_eq_false h
    rw [if_neg h,if_neg h] at hq
    refine⟨fun _=> ?_,fun h1=>absurd h1 (by simp [h])⟩
    exact RetR.keep [0] rfl rfl (by show ∀ j,j<1→_; decide) rfl hq zero_eq (by simp [expH,expB,exp1,exp0,ren0,jJ,dbox]) rfl
theorem zjo{O:Nat→Prop}{w0:World}{σ0:List SE}{Hs:Nat→KV→Heap→Prop}{Q:AV×Heap→Prop}(d:Deal)(l:List Per)(fl:Bool)(e1:Int)(hf:Tm.fits d)(hl:l.length≤60)(hpt:∀ i,i<l.length→(l.getD i Per.nil).part.length≤300)
  (hq:Q (.tup [(if Tm.resE (Tm.zz (zK d fl) (Tm.qb e1 l l.length) l l.length).e (Tm.whole (Tm.zz (zK d fl) (Tm.qb e1 l l.length) l l.length).acc)=0 then Tm.whole (Tm.zz (zK d fl) (Tm.qb e1 l l.length) l l.length).acc else Tm.zero).conD,.int .i64 (Tm.resE (Tm.zz (zK d fl) (Tm.qb e1 l l.length) l l.length).e (Tm.whole (Tm.zz (zK d fl) (Tm.qb e1 l l.length) l l.length).acc))],[jJ d fl])) :
  zb Tryz.prog Tryz.f157 O 1 w0 σ0 Hs (RetR uB 1 Q) (.code (.loop (lps (inside K157 0) 0).1)::(lps (inside K157 0) 0).2) (mk Tryz.f157.ntmps (Zs l 0) (x8 d fl e1)):=by
 refine zb.loop (ι:={i:Nat // i≤l.length}) (fun i=>Zs l i.1) (fun i=>x8 d fl (Tm.qb e1 l i.1)) (fun i=>l.length - i.1) ⟨0,Nat.zero_le _⟩ 0 ?_ ?_ (by kernel_rfl)
 ·refine⟨by simp [Zs,perS,za],?_,by kernel_rfl,by show 1≤5; decide⟩
  have:Tm.qb e1 l 0=e1:=by unfold Tm.qb; split<;>simp_all [Tm.badT]
  simp [x8,jJ,dbox,Deal.cells,this,List.replicate]
 ·rintro⟨i,hil⟩
  obtain⟨e',he'⟩:∃ e',Tm.qb e1 l i=e':=⟨_,rfl⟩
  simp only [he']
  refine zb.run hmix kO [1,2,3,6,8,11,14,23,24,25,37,38,39,50,51,52,53,54,55,56,57,66,67,68] 400 (T:=.ite (decide ((↑i:Int)<l.length)) (.side ((0:Int)≤i∧(↑i:Int)<l.length) (.ite (bif decide (Per.pay (l.getD (↑i:Int).toNat Per.nil)<Per.fix (l.getD (↑i:Int).toNat Per.nil)) then true else bif decide ((0:Int)<i) then decide (Per.pay (l.getD (↑i:Int).toNat Per.nil)≤Tm.kA l i) else false) (.ite (decide (e'=(0:Int))) (.side (inR .i64 ((↑i:Int)+(1:Int))) (.leaf (.back 0 [(1,.sl l.length 3 (perG l)),(2,.fn 158 [] [.ptr 0 0]),(3,.ptr 1 0),(6,.ptr 2 0),(8,.ptr 4 0),(11,.int .i64 (Per.pay (l.getD (↑i:Int).toNat Per.nil))),(14,.undef),(23,.undef),(24,.undef),(25,.undef),(37,.sl l.length 3 (perG l)),(38,.int .i64 l.length),(39,.int .i64 ((↑i:Int)+(1:Int))),(50,.undef),(51,.undef),(52,.undef),(53,.undef),(54,.undef),(55,.undef),(56,.undef),(57,.undef),(66,.undef),(67,.undef),(68,.undef)] [.box [.str (Deal.long d),.str (Deal.short d),.str (Deal.ccy d),.str d.name,.str (Deal.zc d),.str (Deal.zf d)],.box [.str (Deal.long d),.str (Deal.short d),.str (Deal.ccy d),.str d.name,.str (Deal.zc d),.str (Deal.zf d)],.box [.undef,.undef,.undef,.undef,.undef,.undef,.undef,.undef,.undef,.undef,.undef,.undef],.dead,.box [.int .i64 40,.str (Deal.long d),.str (Deal.short d),.str (Deal.ccy d),.str d.name,.str (Deal.zc d),.str (Deal.zf d)],.box [.int .i64 (Per.fix (l.getD (↑i:Int).toNat Per.nil)),.int .i64 (Per.pay (l.getD (↑i:Int).toNat Per.nil)),.str (Per.part (l.getD (↑i:Int).toNat Per.nil))]]))) (.side (inR .i64 ((↑i:Int)+(1:Int))) (.leaf (.back 0 [(1,.sl l.length 3 (perG l)),(2,.fn 158 [] [.ptr 0 0]),(3,.ptr 1 0),(6,.ptr 2 0),(8,.ptr 4 0),(11,.int .i64 (Per.pay (l.getD (↑i:Int).toNat Per.nil))),(14,.undef),(23,.undef),(24,.undef),(25,.undef),(37,.sl l.length 3 (perG l)),(38,.int .i64 l.length),(39,.int .i64 ((↑i:Int)+(1:Int))),(50,.undef),(51,.undef),(52,.undef),(53,.undef),(54,.undef),(55,.undef),(56,.undef),(57,.undef),(66,.undef),(67,.undef),(68,.undef)] [.box [.str (Deal.long d),.str (Deal.short d),.str (Deal.ccy d),.str d.name,.str (Deal.zc d),.str (Deal.zf d)],.box [.str (Deal.long d),.str (Deal.short d),.str (Deal.ccy d),.str d.name,.str (Deal.zc d),.str (Deal.zf d)],.box [.undef,.undef,.undef,.undef,.undef,.undef,.undef,.undef,.undef,.undef,.undef,.undef],.dead,.box [.int .i64 e',.str (Deal.long d),.str (Deal.short d),.str (Deal.ccy d),.str d.name,.str (Deal.zc d),.str (Deal.zf d)],.box [.int .i64 (Per.fix (l.getD (↑i:Int).toNat Per.nil)),.int .i64 (Per.pay (l.getD (↑i:Int).toNat Per.nil)),.str (Per.part (l.getD (↑i:Int).toNat Per.nil))]])))) (.side (inR .i64 ((↑i:Int)+(1:Int))) (.leaf (.back 0 [(1,.sl l.length 3 (perG l)),(2,.fn 158 [] [.ptr 0 0]),(3,.ptr 1 0),(6,.ptr 2 0),(8,.ptr 4 0),(11,.int .i64 (Per.pay (l.getD (↑i:Int).toNat Per.nil))),(14,.undef),(23,.undef),(24,.undef),(25,.undef),(37,.sl l.length 3 (perG l)),(38,.int .i64 l.length),(39,.int .i64 ((↑i:Int)+(1:Int))),(50,.undef),(51,.undef),(52,.undef),(53,.undef),(54,.undef),(55,.undef),(56,.undef),(57,.undef),(66,.undef),(67,.undef),(68,.undef)] [.box [.str (Deal.long d),.str (Deal.short d),.str (Deal.ccy d),.str d.name,.str (Deal.zc d),.str (Deal.zf d)],.box [.str (Deal.long d),.str (Deal.short d),.str (Deal.ccy d),.str d.name,.str (Deal.zc d),.str (Deal.zf d)],.box [.undef,.undef,.undef,.undef,.undef,.undef,.undef,.undef,.undef,.undef,.undef,.undef],.dead,.box [.int .i64 e',.str (Deal.long d),.str (Deal.short d),.str (Deal.ccy d),.str d.name,.str (Deal.zc d),.str (Deal.zf d)],.box [.int .i64 (Per.fix (l.getD (↑i:Int).toNat Per.nil)),.int .i64 (Per.pay (l.getD (↑i:Int).toNat Per.nil)),.str (Per.part (l.getD (↑i:Int).toNat Per.nil))]]))))) (.leaf (.loop (Prod.fst (lps (inside (inside K157 0) 0) 0)) (Prod.snd (lps (inside (inside K157 0) 0) 0)) [(1,.sl l.length 3 (perG l)),(2,.fn 158 [] [.ptr 0 0]),(3,.ptr 1 0),(6,.ptr 2 0),(8,.ptr 4 0),(11,.int .i64 (Tm.kA l i)),(14,.nils),(23,.undef),(24,.undef),(25,.undef),(37,.sl l.length 3 (perG l)),(38,.int .i64 l.length),(39,.int .i64 i),(50,.undef),(51,.undef),(52,.undef),(53,.undef),(54,.undef),(55,.undef),(56,.undef),(57,.undef),(66,.sl l.length 3 (perG l)),(67,.int .i64 l.length),(68,.int .i64 0)] [.box [.str (Deal.long d),.str (Deal.short d),.str (Deal.ccy d),.str d.name,.str (Deal.zc d),.str (Deal.zf d)],.box [.str (Deal.long d),.str (Deal.short d),.str (Deal.ccy d),.str d.name,.str (Deal.zc d),.str (Deal.zf d)],.box [.undef,.undef,.undef,.undef,.undef,.undef,.undef,.undef,.undef,.undef,.undef,.undef],.dead,.box [.int .i64 e',.str (Deal.long d),.str (Deal.short d),.str (Deal.ccy d),.str d.name,.str (Deal.zc d),.str (Deal.zf d)]]))) (by kernel_rfl) ?_
  simp only [Tree.holds,ze,inR,lo,hi,Int.toNat_natCast]
  refine⟨fun hlt=> ?_,fun hge=> ?_⟩
  ·have hlt:i<l.length:=by have:=of_decide_eq_true hlt; omega
   have hs:=Tm.QL (e:=e1) (l:=l) (i:=i) rfl
   rw [he'] at hs
   have hp:=Tm.JX l i
   refine⟨by omega,fun _=>⟨fun hc=>⟨fun hz=>⟨by omega,fun _=> ?_⟩,fun hz=>⟨by omega,fun _=> ?_⟩⟩,fun hc=>⟨by omega,fun _=> ?_⟩⟩⟩
   all_goals
    rw [if_pos trivial]
    refine⟨⟨i+1,hlt⟩,by show l.length - (i+1)<l.length - i; omega,by simp [Zs,perS,za,hp],?_,by kernel_rfl,by show 1≤5; decide⟩
   ·rw [if_pos (by simpa using hc),if_pos (of_decide_eq_true hz)] at hs
    simp [x8,jJ,dbox,Deal.cells,hs,List.replicate]
   ·rw [if_pos (by simpa using hc),if_neg (of_decide_eq_false hz)] at hs
    simp [x8,jJ,dbox,Deal.cells,hs,List.replicate]
   ·rw [if_neg (by simp at hc ⊢; omega)] at hs
    simp [x8,jJ,dbox,Deal.cells,hs,List.replicate]
  ·have hge:i=l.length:=by have:=of_decide_eq_false hge; omega
   subst hge
   rw [he'] at hq
   refine zb.bear 14 12 (Con.conG []) rfl (by decide) (by kernel_rfl) ?_
   refine zb.weak (S:=ZD l 0 0) (H:=JD d fl e' []) ⟨by simp [ZD,wW,perS,za],by simp [JD,jJ,dbox,Deal.cells,List.replicate,za],by kernel_rfl,by show 1≤6; decide⟩ ?_
   exact zke d l fl e' hf hl hpt hq
theorem Ul:zd Tryz.prog 157 uB:=by
 refine qt (fn:=Tryz.f157) (c:=Tryz.f157.body.getD .skip) rfl rfl rfl (fun h=>by cases h) fun p hp O w0 σ0 Q hl0 hq=> ?_
 obtain⟨d,l,fl⟩:=p
 replace hq:=hq () trivial
 obtain⟨hf,hl,hpt⟩:=hp
 simp only at hf hl hpt hq
 unfold Tm.qw Tm.qL at hq
 refine zb.run hmix kO [1,2,3,6,8,11,14,23,24,25,37,38,39,50,51,52,53,54,55,56,57,66,67,68] 400 (T:=.ite (decide ((40:Int)<l.length)) (.leaf (.ret [.agg [.int .u8 0,.str #[].toList,.str #[].toList,.str #[].toList,.int .u8 0,.str #[].toList,.str #[].toList,.int .i64 0,.nils,.int .i64 0,.nils,.nils],.int .i64 4] [.box [.str (Deal.long d),.str (Deal.short d),.str (Deal.ccy d),.str d.name,.str (Deal.zc d),.str (Deal.zf d)],.box [.str (Deal.long d),.str (Deal.short d),.str (Deal.ccy d),.str d.name,.str (Deal.zc d),.str (Deal.zf d)],.box [.int .u8 0,.str #[].toList,.str #[].toList,.str #[].toList,.int .u8 0,.str #[].toList,.str #[].toList,.int .i64 0,.nils,.int .i64 0,.nils,.nils]])) (.ex (fun(x:Deal×Int×List (List UInt8))=>eqL [AV.ptr 0 0,AV.osl 1 1 0 2] [AV.ptr 0 0,AV.osl 1 1 0 x.2.2.length]∧eqH [.box [AV.int .i64 0,AV.str (Deal.long d),AV.str (Deal.short d),AV.str (Deal.ccy d),AV.str d.name,AV.str (Deal.zc d),AV.str (Deal.zf d)],.arr 2 1 (zi 1 [AV.str (Deal.zc d),AV.str (Deal.zf d)])] [.box [AV.int .i64 x.2.1,AV.str (Deal.long x.1),AV.str (Deal.short x.1),AV.str (Deal.ccy x.1),AV.str (Deal.name x.1),AV.str (Deal.zc x.1),AV.str (Deal.zf x.1)],.arr x.2.2.length 1 (ratG x.2.2)]∧2=2∧x.2.2.length<1099511627776∧∀ (r:List UInt8),r∈x.2.2→r.length<1099511627776) fun n=>.all (fun(x:Unit)=>True) fun n_1=>.leaf (.loop (Prod.fst (lps K157 0)) (Prod.snd (lps K157 0)) [(1,.sl l.length 3 (perG l)),(2,.fn 158 [] [.ptr 0 0]),(3,.ptr 1 0),(6,.ptr 2 0),(8,.ptr 4 0),(11,.undef),(14,.undef),(23,.sl l.length 3 (perG l)),(24,.int .i64 l.length),(25,.int .i64 0),(37,.undef),(38,.undef),(39,.undef),(50,.undef),(51,.undef),(52,.undef),(53,.undef),(54,.undef),(55,.undef),(56,.undef),(57,.undef),(66,.undef),(67,.undef),(68,.undef)] [.box [.str (Deal.long d),.str (Deal.short d),.str (Deal.ccy d),.str d.name,.str (Deal.zc d),.str (Deal.zf d)],.box [.str (Deal.long d),.str (Deal.short d),.str (Deal.ccy d),.str d.name,.str (Deal.zc d),.str (Deal.zf d)],.box [.int .u8 0,.str #[].toList,.str #[].toList,.str #[].toList,.int .u8 0,.str #[].toList,.str #[].toList,.int .i64 0,.nils,.int .i64 0,.nils,.nils],.box [.str (Deal.long d),.str (Deal.short d),.str (Deal.ccy d),.str d.name,.str (Deal.zc d),.str (Deal.zf d)],.box [.int .i64 (Tm.first n.2.1 n.2.2),.str (Deal.long n.1),.str (Deal.short n.1),.str (Deal.ccy n.1),.str (Deal.name n.1),.str (Deal.zc n.1),.str (Deal.zf n.1)],.arr n.2.2.length 1 (ratG n.2.2)]))) (by kernel_rfl) ?_
 simp only [Tree.holds,ze]
 refine⟨fun h=> ?_,fun h=> ?_⟩
 ·have h40:=of_decide_eq_true h
  simp only [if_pos (show 40<l.length by omega)] at hq
  rw [if_neg (show ¬ (4:Int)=0 by decide)] at hq
  exact RetR.keep [0] rfl rfl (by show ∀ j,j<1→_; decide) rfl hq zero_eq (by simp [expH,expB,exp1,exp0,ren0,jJ,dbox]) rfl
 have h40:=of_decide_eq_false h
 simp only [if_neg (show ¬ 40<l.length by omega)] at hq
 refine⟨(d,0,[d.zc,d.zf]),⟨by simp,by simp [Deal.cells,za6],trivial,by show 2<2^40; decide,Wc hf⟩,⟨(),trivial⟩,fun _ _=> ?_⟩
 unfold Tm.k8 Tm.perE at hq
 obtain⟨e0,he0⟩:∃ e,Tm.first 0 [d.zc,d.zf]=e:=⟨_,rfl⟩
 rw [he0] at hq
 simp only [he0]
 refine zb.loop (ι:={i:Nat // i≤l.length}) (fun i=>Ut l i.1) (fun i=>x8 d fl (Tm.first e0 ((l.map Per.part).take i.1))) (fun i=>l.length - i.1) ⟨0,Nat.zero_le _⟩ 0 ?_ ?_ (by kernel_rfl)
 ·exact⟨by simp [Ut,perS,za],by simp [x8,jJ,dbox,Deal.cells,Tm.first,List.replicate],by kernel_rfl,by show 1≤5; decide⟩
 ·rintro⟨i,hil⟩
  obtain⟨e',he'⟩:∃ e',Tm.first e0 ((l.map Per.part).take i)=e':=⟨_,rfl⟩
  simp only [he']
  refine zb.run hmix kO [1,2,3,6,8,11,14,23,24,25,37,38,39,50,51,52,53,54,55,56,57,66,67,68] 400 (T:=.ite (decide ((↑i:Int)<l.length)) (.side ((0:Int)≤i∧(↑i:Int)<l.length) (.ex (fun(x:Deal×Int×List (List UInt8))=>eqL [AV.ptr 0 0,AV.osl 1 1 0 1] [AV.ptr 0 0,AV.osl 1 1 0 x.2.2.length]∧eqH [.box [AV.int .i64 e',AV.str (Deal.long d),AV.str (Deal.short d),AV.str (Deal.ccy d),AV.str d.name,AV.str (Deal.zc d),AV.str (Deal.zf d)],.arr 1 1 (zi 1 [AV.str (Per.part (l.getD (↑i:Int).toNat Per.nil))])] [.box [AV.int .i64 x.2.1,AV.str (Deal.long x.1),AV.str (Deal.short x.1),AV.str (Deal.ccy x.1),AV.str (Deal.name x.1),AV.str (Deal.zc x.1),AV.str (Deal.zf x.1)],.arr x.2.2.length 1 (ratG x.2.2)]∧2=2∧x.2.2.length<1099511627776∧∀ (r:List UInt8),r∈x.2.2→r.length<1099511627776) fun n=>.all (fun(x:Unit)=>True) fun n_1=>.side (inR .i64 ((↑i:Int)+(1:Int))) (.leaf (.back 0 [(1,.sl l.length 3 (perG l)),(2,.fn 158 [] [.ptr 0 0]),(3,.ptr 1 0),(6,.ptr 2 0),(8,.ptr 4 0),(11,.undef),(14,.undef),(23,.sl l.length 3 (perG l)),(24,.int .i64 l.length),(25,.int .i64 ((↑i:Int)+(1:Int))),(37,.undef),(38,.undef),(39,.undef),(50,.undef),(51,.undef),(52,.undef),(53,.undef),(54,.undef),(55,.undef),(56,.undef),(57,.undef),(66,.undef),(67,.undef),(68,.undef)] [.box [.str (Deal.long d),.str (Deal.short d),.str (Deal.ccy d),.str d.name,.str (Deal.zc d),.str (Deal.zf d)],.box [.str (Deal.long d),.str (Deal.short d),.str (Deal.ccy d),.str d.name,.str (Deal.zc d),.str (Deal.zf d)],.box [.undef,.undef,.undef,.undef,.undef,.undef,.undef,.undef,.undef,.undef,.undef,.undef],.dead,.box [.int .i64 (Tm.first n.2.1 n.2.2),.str (Deal.long n.1),.str (Deal.short n.1),.str (Deal.ccy n.1),.str (Deal.name n.1),.str (Deal.zc n.1),.str (Deal.zf n.1)],.box [.int .i64 (Per.fix (l.getD (↑i:Int).toNat Per.nil)),.int .i64 (Per.pay (l.getD (↑i:Int).toNat Per.nil)),.str (Per.part (l.getD (↑i:Int).toNat Per.nil))],.arr n.2.2.length 1 (ratG n.2.2)])))) (.leaf (.loop (Prod.fst (lps (inside K157 0) 0)) (Prod.snd (lps (inside K157 0) 0)) [(1,.sl l.length 3 (perG l)),(2,.fn 158 [] [.ptr 0 0]),(3,.ptr 1 0),(6,.ptr 2 0),(8,.ptr 4 0),(11,.int .i64 (-9223372036854775808:Int)),(14,.undef),(23,.sl l.length 3 (perG l)),(24,.int .i64 l.length),(25,.int .i64 i),(37,.sl l.length 3 (perG l)),(38,.int .i64 l.length),(39,.int .i64 0),(50,.undef),(51,.undef),(52,.undef),(53,.undef),(54,.undef),(55,.undef),(56,.undef),(57,.undef),(66,.undef),(67,.undef),(68,.undef)] [.box [.str (Deal.long d),.str (Deal.short d),.str (Deal.ccy d),.str d.name,.str (Deal.zc d),.str (Deal.zf d)],.box [.str (Deal.long d),.str (Deal.short d),.str (Deal.ccy d),.str d.name,.str (Deal.zc d),.str (Deal.zf d)],.box [.undef,.undef,.undef,.undef,.undef,.undef,.undef,.undef,.undef,.undef,.undef,.undef],.dead,.box [.int .i64 e',.str (Deal.long d),.str (Deal.short d),.str (Deal.ccy d),.str d.name,.str (Deal.zc d),.str (Deal.zf d)]]))) (by kernel_rfl) ?_
  simp only [Tree.holds,ze,inR,lo,hi,Int.toNat_natCast]
  refine⟨fun hlt=> ?_,fun hge=> ?_⟩
  ·have hlt:i<l.length:=by have:=of_decide_eq_true hlt; omega
   have hpi:=hpt i hlt
   have ht:=Tm.xg (e:=e0) (l:=l.map Per.part) (i:=i) (by simpa using hlt)
   rw [he'] at ht
   have hg:(l.map Per.part).getD i []=(l.getD i Per.nil).part:=by simp [List.getD,hlt]
   rw [hg] at ht
   have ht2:Tm.first e' [(l.getD i Per.nil).part]=Tm.first e0 ((l.map Per.part).take (i+1)):=by rw [ht]; rfl
   refine⟨by omega,fun _=>⟨(d,e',[(l.getD i Per.nil).part]),⟨by simp,by simp [Deal.cells,zas],trivial,by show 1<2^40; decide,fun r hr=>by rw [List.mem_singleton.1 hr]; omega⟩,⟨(),trivial⟩,fun _ _=>⟨by omega,fun _=> ?_⟩⟩⟩
   rw [if_pos trivial]
   exact⟨⟨i+1,hlt⟩,by show l.length - (i+1)<l.length - i; omega,by simp [Ut,perS,za],by show eqH _ (x8 d fl (Tm.first e0 ((l.map Per.part).take (i+1)))); rw [← ht2]; simp [x8,jJ,dbox,Deal.cells,List.replicate],by kernel_rfl,by show 1≤5; decide⟩
  ·have hge:i=l.length:=by have:=of_decide_eq_false hge; omega
   subst hge
   have hz:(l.map Per.part).take l.length=l.map Per.part:=by rw [← List.length_map (f:=Per.part),List.take_length]
   rw [hz] at he'
   rw [he'] at hq
   refine zb.weak (S:=Zs l 0) (H:=x8 d fl e') ⟨by simp [Zs,perS,za,Tm.kA],by simp [x8,jJ,dbox,Deal.cells,List.replicate],by kernel_rfl,by show 1≤5; decide⟩ ?_
   exact zjo d l fl e' hf hl hpt hq
noncomputable def zm1:Nat→Option Ctr:=fun f=>if f=138 then some (Uw) else if f=156 then some (Qo) else if f=216 then some (WS) else if f=159 then some (zbh) else if f=164 then some (zlx) else if f=154 then some (allS) else if f=139 then some (zgy) else none
theorem yv:∀ g c,zm1 g=some c→zd Tryz.prog g c:=okIf WH (okIf Zn (okIf xE (okIf Kl (okIf zjp (okIf za8 (okIf Xr (zn)))))))
def HCap(d:Deal)(fl:Bool)(e:Int):Heap:=[bCap d fl,dbox d,.box (List.replicate 12 .undef),.dead,.box (d.cells e)]
def zhg(l:List Per)(i:Nat):KV:=[(1,perS l),(2,.fn 164 [] [.ptr 0 0]),(3,.ptr 1 0),(6,.ptr 2 0),(8,.ptr 4 0),(11,.undef),(14,.undef),(23,perS l),(24,.int .i64 (l.length:Int)),(25,.int .i64 (i:Int)),(37,.undef),(38,.undef),(39,.undef),(50,.undef),(51,.undef),(52,.undef),(53,.undef),(54,.undef),(55,.undef),(56,.undef),(57,.undef),(66,.undef),(67,.undef),(68,.undef)]
def Wx(l:List Per)(i:Nat):KV:=[(1,perS l),(2,.fn 164 [] [.ptr 0 0]),(3,.ptr 1 0),(6,.ptr 2 0),(8,.ptr 4 0),(11,.int .i64 (Tm.kA l i)),(14,.undef),(23,.undef),(24,.undef),(25,.undef),(37,perS l),(38,.int .i64 (l.length:Int)),(39,.int .i64 (i:Int)),(50,.undef),(51,.undef),(52,.undef),(53,.undef),(54,.undef),(55,.undef),(56,.undef),(57,.undef),(66,.undef),(67,.undef),(68,.undef)]
def XL(d:Deal)(fl:Bool)(e:Int)(acc:List Con):Heap:=[bCap d fl,dbox d,.box (List.replicate 12 .undef),.dead,.box (d.cells e),.arr acc.length 12 (Con.conG acc)]
def Vz(l:List Per)(n i:Nat):KV:=[(1,.undef),(2,.fn 164 [] [.ptr 0 0]),(3,.ptr 1 0),(6,.ptr 2 0),(8,.ptr 4 0),(11,.undef),(14,.osl 5 12 0 n),(23,.undef),(24,.undef),(25,.undef),(37,.undef),(38,.undef),(39,.undef),(50,.undef),(51,.undef),(52,.undef),(53,.undef),(54,.undef),(55,.undef),(56,.undef),(57,.undef),(66,perS l),(67,.int .i64 (l.length:Int)),(68,.int .i64 (i:Int))]
def Qz:Ctr:=ctrT false false (fun x:PeA=>[x.d.av,perS x.l,.fn 164 [] [.ptr 0 0]]) (fun x=>[bCap x.d x.fl]) (fun x=>x.ok) (fun _ (_:Unit)=>True) (fun x _=>(.tup [(Tm.qw (qg x.d x.fl) x.d x.l).conD,.int .i64 (Tm.qL (qg x.d x.fl) x.d x.l)],[bCap x.d x.fl]))
theorem znf{O:Nat→Prop}{w0:World}{σ0:List SE}{Hs:Nat→KV→Heap→Prop}{Q:AV×Heap→Prop}(d:Deal)(l:List Per)(fl:Bool)(e2:Int)(hf:Tm.fits d)(hl:l.length≤60)(hpt:∀ i,i<l.length→(l.getD i Per.nil).part.length≤300)
  (hq:Q (.tup [(if Tm.resE (Tm.zz (qg d fl) e2 l l.length).e (Tm.whole (Tm.zz (qg d fl) e2 l l.length).acc)=0 then Tm.whole (Tm.zz (qg d fl) e2 l l.length).acc else Tm.zero).conD,.int .i64 (Tm.resE (Tm.zz (qg d fl) e2 l l.length).e (Tm.whole (Tm.zz (qg d fl) e2 l l.length).acc))],[bCap d fl])) :
  zb Tryz.prog Tryz.f157 O 1 w0 σ0 Hs (RetR Qz 1 Q) (.code (.loop (lps (inside (inside K157 0) 0) 0).1)::(lps (inside (inside K157 0) 0) 0).2) (mk Tryz.f157.ntmps (Vz l 0 0) (XL d fl e2 [])):=by
 refine zb.loop (ι:={i:Nat // i≤l.length}) (fun i=>Vz l (Tm.zz (qg d fl) e2 l i.1).acc.length i.1) (fun i=>XL d fl (Tm.zz (qg d fl) e2 l i.1).e (Tm.zz (qg d fl) e2 l i.1).acc) (fun i=>l.length - i.1) ⟨0,Nat.zero_le _⟩ 0 ?_ ?_ (by kernel_rfl)
 ·exact⟨by simp [Vz,perS,za,Tm.zz],by simp [XL,bCap,dbox,Deal.cells,List.replicate,Tm.zz,za],by kernel_rfl,by show 1≤6; decide⟩
 ·rintro⟨i,hil⟩
  have hsz:=Tm.kf (f:=qg d fl) (zjx hf) e2 l i hl
  obtain⟨⟨e,acc⟩,hs⟩:∃ s,Tm.zz (qg d fl) e2 l i=s:=⟨_,rfl⟩
  rw [hs] at hsz
  simp only [hs]
  simp only at hsz
  refine zb.run hmix yv [1,2,3,6,8,11,14,23,24,25,37,38,39,50,51,52,53,54,55,56,57,66,67,68] 400 (T:=.ite (decide ((↑i:Int)<l.length)) (.side ((0:Int)≤i∧(↑i:Int)<l.length) (.ex (fun(x:Deal×Int×List UInt8×List UInt8)=>eqL [AV.ptr 0 0,AV.str (Per.part (l.getD (↑i:Int).toNat Per.nil)),AV.str (Deal.zf d)] [AV.ptr 0 0,AV.str x.2.2.1,AV.str x.2.2.2]∧eqH [.box [AV.int .i64 e,AV.str (Deal.long d),AV.str (Deal.short d),AV.str (Deal.ccy d),AV.str d.name,AV.str (Deal.zc d),AV.str (Deal.zf d)]] [.box [AV.int .i64 x.2.1,AV.str (Deal.long x.1),AV.str (Deal.short x.1),AV.str (Deal.ccy x.1),AV.str (Deal.name x.1),AV.str (Deal.zc x.1),AV.str (Deal.zf x.1)]]∧1=1∧x.2.2.1.length<1152921504606846976∧x.2.2.2.length<1152921504606846976) fun n=>.all (fun(x:Unit)=>True) fun n_1=>.ex (fun(x:OneA×Bool)=>eqL [AV.ptr 0 0,AV.agg [AV.int .i64 (Per.fix (l.getD (↑i:Int).toNat Per.nil)),AV.int .i64 (Per.pay (l.getD (↑i:Int).toNat Per.nil)),AV.str (Per.part (l.getD (↑i:Int).toNat Per.nil))],AV.str (Prod.fst (Tm.prod n.2.1 n.2.2.1 n.2.2.2)),AV.ptr 1 0] [AV.ptr 0 0,AV.agg [AV.int .i64 (Per.fix (OneA.p x.1)),AV.int .i64 (Per.pay (OneA.p x.1)),AV.str (Per.part (OneA.p x.1))],AV.str (OneA.q x.1),AV.ptr 1 0]∧eqH [.box [AV.int .i64 (Prod.snd (Tm.prod n.2.1 n.2.2.1 n.2.2.2)),AV.str (Deal.long n.1),AV.str (Deal.short n.1),AV.str (Deal.ccy n.1),AV.str (Deal.name n.1),AV.str (Deal.zc n.1),AV.str (Deal.zf n.1)],.box [AV.bool fl]] [.box [AV.int .i64 (OneA.e x.1),AV.str (Deal.long (OneA.d x.1)),AV.str (Deal.short (OneA.d x.1)),AV.str (Deal.ccy (OneA.d x.1)),AV.str (Deal.name (OneA.d x.1)),AV.str (Deal.zc (OneA.d x.1)),AV.str (Deal.zf (OneA.d x.1))],.box [AV.bool x.2]]∧2=2∧OneA.ok x.1) fun n=>.all (fun(x:Unit)=>True) fun n_2=>.side (0=0∧acc.length≤acc.length∧(acc.length+1)*184≤140737488355328) (.side (inR .i64 ((↑i:Int)+(1:Int))) (.leaf (.back 0 [(1,.undef),(2,.fn 164 [] [.ptr 0 0]),(3,.ptr 1 0),(6,.ptr 2 0),(8,.ptr 4 0),(11,.undef),(14,.osl 5 12 0 (acc.length+1)),(23,.undef),(24,.undef),(25,.undef),(37,.undef),(38,.undef),(39,.undef),(50,.undef),(51,.undef),(52,.undef),(53,.undef),(54,.undef),(55,.undef),(56,.undef),(57,.undef),(66,.sl l.length 3 (perG l)),(67,.int .i64 l.length),(68,.int .i64 ((↑i:Int)+(1:Int)))] [.box [.bool n.2],.box [.str (Deal.long d),.str (Deal.short d),.str (Deal.ccy d),.str d.name,.str (Deal.zc d),.str (Deal.zf d)],.box [.undef,.undef,.undef,.undef,.undef,.undef,.undef,.undef,.undef,.undef,.undef,.undef],.dead,.box [.int .i64 (OneA.e n.1),.str (Deal.long (OneA.d n.1)),.str (Deal.short (OneA.d n.1)),.str (Deal.ccy (OneA.d n.1)),.str (Deal.name (OneA.d n.1)),.str (Deal.zc (OneA.d n.1)),.str (Deal.zf (OneA.d n.1))],.arr (acc.length+1) 12 (appG acc.length (Con.conG acc) (Con.conG (capL (OneA.d n.1) n.2 (OneA.p n.1) (OneA.q n.1)))),.box [.int .i64 (Per.fix (l.getD (↑i:Int).toNat Per.nil)),.int .i64 (Per.pay (l.getD (↑i:Int).toNat Per.nil)),.str (Per.part (l.getD (↑i:Int).toNat Per.nil))]]))))) (.ex (fun(x:List Con)=>eqL [AV.sl acc.length 12 (zj (Con.conG acc) 0)] [AV.sl x.length 12 (Con.conG x)]∧x.length<1099511627776) fun n=>.all (fun(x:Unit)=>True) fun n_1=>.ite (decide (e=0)) (.ex (fun(x:Con)=>eqL [(Con.conD (Tm.whole n))] [(Con.conA x)]∧Con.big x<1099511627776∧Con.nodes x≤1000000) fun n_2=>.all (fun(r:Int)=>r=Con.errC n_2) fun n_3=>.ite (decide (e=0)) (.ite (!decide (n_3=0)) (.leaf (.ret [.agg [.int .u8 0,.str #[].toList,.str #[].toList,.str #[].toList,.int .u8 0,.str #[].toList,.str #[].toList,.int .i64 0,.nils,.int .i64 0,.nils,.nils],.int .i64 n_3] [.box [.bool fl],.box [.str (Deal.long d),.str (Deal.short d),.str (Deal.ccy d),.str d.name,.str (Deal.zc d),.str (Deal.zf d)],.box [.int .u8 0,.str #[].toList,.str #[].toList,.str #[].toList,.int .u8 0,.str #[].toList,.str #[].toList,.int .i64 0,.nils,.int .i64 0,.nils,.nils],.dead,.box [.int .i64 n_3,.str (Deal.long d),.str (Deal.short d),.str (Deal.ccy d),.str d.name,.str (Deal.zc d),.str (Deal.zf d)],.dead,.box (Con.zr (Tm.whole n)),.box [.int .u8 0,.str #[].toList,.str #[].toList,.str #[].toList,.int .u8 0,.str #[].toList,.str #[].toList,.int .i64 0,.nils,.int .i64 0,.nils,.nils]])) (.ex (fun(x:Con)=>eqL [(Con.conD (Tm.whole n))] [(Con.conA x)]∧Con.big x<274877906944) fun n_4=>.all (fun(x:Unit)=>True) fun n_5=>.leaf (.ret [(Con.conD n_4),.int .i64 0] [.box [.bool fl],.box [.str (Deal.long d),.str (Deal.short d),.str (Deal.ccy d),.str d.name,.str (Deal.zc d),.str (Deal.zf d)],.box (Con.zr n_4),.dead,.box [.int .i64 n_3,.str (Deal.long d),.str (Deal.short d),.str (Deal.ccy d),.str d.name,.str (Deal.zc d),.str (Deal.zf d)],.dead,.box (Con.zr (Tm.whole n)),.box (Con.zr n_4)]))) (.ite (!decide (e=0)) (.leaf (.ret [.agg [.int .u8 0,.str #[].toList,.str #[].toList,.str #[].toList,.int .u8 0,.str #[].toList,.str #[].toList,.int .i64 0,.nils,.int .i64 0,.nils,.nils],.int .i64 e] [.box [.bool fl],.box [.str (Deal.long d),.str (Deal.short d),.str (Deal.ccy d),.str d.name,.str (Deal.zc d),.str (Deal.zf d)],.box [.int .u8 0,.str #[].toList,.str #[].toList,.str #[].toList,.int .u8 0,.str #[].toList,.str #[].toList,.int .i64 0,.nils,.int .i64 0,.nils,.nils],.dead,.box [.int .i64 e,.str (Deal.long d),.str (Deal.short d),.str (Deal.ccy d),.str d.name,.str (Deal.zc d),.str (Deal.zf d)],.dead,.box (Con.zr (Tm.whole n)),.box [.int .u8 0,.str #[].toList,.str #[].toList,.str #[].toList,.int .u8 0,.str #[].toList,.str #[].toList,.int .i64 0,.nils,.int .i64 0,.nils,.nils]])) (.ex (fun(x:Con)=>eqL [(Con.conD (Tm.whole n))] [(Con.conA x)]∧Con.big x<274877906944) fun n_4=>.all (fun(x:Unit)=>True) fun n_5=>.leaf (.ret [(Con.conD n_4),.int .i64 0] [.box [.bool fl],.box [.str (Deal.long d),.str (Deal.short d),.str (Deal.ccy d),.str d.name,.str (Deal.zc d),.str (Deal.zf d)],.box (Con.zr n_4),.dead,.box [.int .i64 e,.str (Deal.long d),.str (Deal.short d),.str (Deal.ccy d),.str d.name,.str (Deal.zc d),.str (Deal.zf d)],.dead,.box (Con.zr (Tm.whole n)),.box (Con.zr n_4)])))) (.ite (!decide (e=0)) (.leaf (.ret [.agg [.int .u8 0,.str #[].toList,.str #[].toList,.str #[].toList,.int .u8 0,.str #[].toList,.str #[].toList,.int .i64 0,.nils,.int .i64 0,.nils,.nils],.int .i64 e] [.box [.bool fl],.box [.str (Deal.long d),.str (Deal.short d),.str (Deal.ccy d),.str d.name,.str (Deal.zc d),.str (Deal.zf d)],.box [.int .u8 0,.str #[].toList,.str #[].toList,.str #[].toList,.int .u8 0,.str #[].toList,.str #[].toList,.int .i64 0,.nils,.int .i64 0,.nils,.nils],.dead,.box [.int .i64 e,.str (Deal.long d),.str (Deal.short d),.str (Deal.ccy d),.str d.name,.str (Deal.zc d),.str (Deal.zf d)],.dead,.box (Con.zr (Tm.whole n)),.box [.int .u8 0,.str #[].toList,.str #[].toList,.str #[].toList,.int .u8 0,.str #[].toList,.str #[].toList,.int .i64 0,.nils,.int .i64 0,.nils,.nils]])) (.ex (fun(x:Con)=>eqL [(Con.conD (Tm.whole n))] [(Con.conA x)]∧Con.big x<274877906944) fun n_2=>.all (fun(x:Unit)=>True) fun n_3=>.leaf (.ret [(Con.conD n_2),.int .i64 0] [.box [.bool fl],.box [.str (Deal.long d),.str (Deal.short d),.str (Deal.ccy d),.str d.name,.str (Deal.zc d),.str (Deal.zf d)],.box (Con.zr n_2),.dead,.box [.int .i64 e,.str (Deal.long d),.str (Deal.short d),.str (Deal.ccy d),.str d.name,.str (Deal.zc d),.str (Deal.zf d)],.dead,.box (Con.zr (Tm.whole n)),.box (Con.zr n_2)]))))) (by kernel_rfl) ?_
  simp only [Tree.holds,ze,inR,lo,hi,Int.toNat_natCast]
  refine⟨fun hlt=> ?_,fun hge=> ?_⟩
  ·have hlt:i<l.length:=by have:=of_decide_eq_true hlt; omega
   have hpi:=hpt i hlt
   have h6:d.zf.length≤2500:=hf.2.2.2.2.2
   have hss:=Tm.kS (f:=qg d fl) (e:=e2) hlt
   rw [hs] at hss
   replace hss:Tm.zz (qg d fl) e2 l (i+1)=⟨(Tm.prod e (l.getD i Per.nil).part d.zf).2,acc++capL d fl (l.getD i Per.nil) (Tm.prod e (l.getD i Per.nil).part d.zf).1⟩:=hss
   refine⟨by omega,fun _=> ?_⟩
   refine⟨(d,e,(l.getD i Per.nil).part,d.zf),⟨by simp,by simp [Deal.cells],trivial,by show(l.getD i Per.nil).part.length<_; omega,by show d.zf.length<_; omega⟩,⟨(),trivial⟩,fun _ _=> ?_⟩
   refine⟨(⟨d,(Tm.prod e (l.getD i Per.nil).part d.zf).2,(l.getD i Per.nil),(Tm.prod e (l.getD i Per.nil).part d.zf).1⟩,fl),⟨⟨⟨rfl,rfl⟩,⟨⟨rfl,rfl⟩,⟨rfl,rfl⟩,rfl,trivial⟩,rfl,⟨rfl,rfl⟩,trivial⟩,by simp [Deal.cells],trivial,hf,by have:=Tm.xU (e:=e) (a:=(l.getD i Per.nil).part) (b:=d.zf); show(Tm.prod e (l.getD i Per.nil).part d.zf).1.length<_; omega⟩,⟨(),trivial⟩,fun _ _=> ?_⟩
   refine⟨⟨trivial,Nat.le_refl _,by omega⟩,fun _=>⟨by omega,fun _=> ?_⟩⟩
   rw [if_pos trivial]
   refine⟨⟨i+1,hlt⟩,by show l.length - (i+1)<l.length - i; omega,?_,?_,by kernel_rfl,by show 1≤6; decide⟩
   ·rw [hss]; simp [Vz,perS,za,capL]
   ·rw [hss]
    refine⟨by simp [bCap,dbox],by simp [dbox],by simp [List.replicate],trivial,by simp [Deal.cells],⟨by simp [capL],rfl,X7 acc (capL d fl (l.getD i Per.nil) (Tm.prod e (l.getD i Per.nil).part d.zf).1)⟩,trivial⟩
  ·have hge:i=l.length:=by have:=of_decide_eq_false hge; omega
   subst hge
   rw [hs] at hq
   simp only at hq
   have hw:=Tm.vZ acc
   obtain⟨c,hc⟩:∃ c,Tm.whole acc=c:=⟨_,rfl⟩
   rw [hc] at hq hw
   refine⟨acc,⟨⟨⟨rfl,rfl,w8 _ _ _⟩,trivial⟩,by omega⟩,⟨(),trivial⟩,fun _ _=> ?_⟩
   simp only [hc]
   unfold Tm.resE at hq
   refine⟨fun h=> ?_,fun h=> ?_⟩
   ·rw [if_pos (of_decide_eq_true h)] at hq
    refine⟨c,⟨⟨zQ c,trivial⟩,by omega,by omega⟩,⟨_,rfl⟩,?_⟩
    rintro _ rfl
    refine⟨fun _=>⟨fun h1=> ?_,fun h1=> ?_⟩,fun h1=>absurd (h.symm.trans h1) (by decide)⟩
    ·rw [if_neg (by simpa using h1)] at hq
     exact RetR.keep [0] rfl rfl (by show ∀ j,j<1→_; decide) rfl hq zero_eq (by simp [expH,expB,exp1,exp0,ren0,bCap,dbox]) rfl
    ·have h1:c.errC=0:=by simpa using h1
     rw [if_pos h1,h1] at hq
     refine⟨c,⟨⟨zQ c,trivial⟩,by omega⟩,⟨(),trivial⟩,fun _ _=> ?_⟩
     exact RetR.KP [0] rfl rfl (by show ∀ j,j<1→_; decide) rfl hq (LeA.refl _) (by simp [expH,expB,exp1,exp0,ren0,bCap,dbox]) rfl
   ·have h:=of_decide_eq_false h
    rw [if_neg h,if_neg h] at hq
    refine⟨fun _=> ?_,fun h1=>absurd h1 (by simp [h])⟩
    exact RetR.keep [0] rfl rfl (by show ∀ j,j<1→_; decide) rfl hq zero_eq (by simp [expH,expB,exp1,exp0,ren0,bCap,dbox]) rfl
theorem zmk{O:Nat→Prop}{w0:World}{σ0:List SE}{Hs:Nat→KV→Heap→Prop}{Q:AV×Heap→Prop}(d:Deal)(l:List Per)(fl:Bool)(e1:Int)(hf:Tm.fits d)(hl:l.length≤60)(hpt:∀ i,i<l.length→(l.getD i Per.nil).part.length≤300)
  (hq:Q (.tup [(if Tm.resE (Tm.zz (qg d fl) (Tm.qb e1 l l.length) l l.length).e (Tm.whole (Tm.zz (qg d fl) (Tm.qb e1 l l.length) l l.length).acc)=0 then Tm.whole (Tm.zz (qg d fl) (Tm.qb e1 l l.length) l l.length).acc else Tm.zero).conD,.int .i64 (Tm.resE (Tm.zz (qg d fl) (Tm.qb e1 l l.length) l l.length).e (Tm.whole (Tm.zz (qg d fl) (Tm.qb e1 l l.length) l l.length).acc))],[bCap d fl])) :
  zb Tryz.prog Tryz.f157 O 1 w0 σ0 Hs (RetR Qz 1 Q) (.code (.loop (lps (inside K157 0) 0).1)::(lps (inside K157 0) 0).2) (mk Tryz.f157.ntmps (Wx l 0) (HCap d fl e1)):=by
 refine zb.loop (ι:={i:Nat // i≤l.length}) (fun i=>Wx l i.1) (fun i=>HCap d fl (Tm.qb e1 l i.1)) (fun i=>l.length - i.1) ⟨0,Nat.zero_le _⟩ 0 ?_ ?_ (by kernel_rfl)
 ·refine⟨by simp [Wx,perS,za],?_,by kernel_rfl,by show 1≤5; decide⟩
  have:Tm.qb e1 l 0=e1:=by unfold Tm.qb; split<;>simp_all [Tm.badT]
  simp [HCap,bCap,dbox,Deal.cells,this,List.replicate]
 ·rintro⟨i,hil⟩
  obtain⟨e',he'⟩:∃ e',Tm.qb e1 l i=e':=⟨_,rfl⟩
  simp only [he']
  refine zb.run hmix yv [1,2,3,6,8,11,14,23,24,25,37,38,39,50,51,52,53,54,55,56,57,66,67,68] 400 (T:=.ite (decide ((↑i:Int)<l.length)) (.side ((0:Int)≤i∧(↑i:Int)<l.length) (.ite (bif decide (Per.pay (l.getD (↑i:Int).toNat Per.nil)<Per.fix (l.getD (↑i:Int).toNat Per.nil)) then true else bif decide ((0:Int)<i) then decide (Per.pay (l.getD (↑i:Int).toNat Per.nil)≤Tm.kA l i) else false) (.ite (decide (e'=(0:Int))) (.side (inR .i64 ((↑i:Int)+(1:Int))) (.leaf (.back 0 [(1,.sl l.length 3 (perG l)),(2,.fn 164 [] [.ptr 0 0]),(3,.ptr 1 0),(6,.ptr 2 0),(8,.ptr 4 0),(11,.int .i64 (Per.pay (l.getD (↑i:Int).toNat Per.nil))),(14,.undef),(23,.undef),(24,.undef),(25,.undef),(37,.sl l.length 3 (perG l)),(38,.int .i64 l.length),(39,.int .i64 ((↑i:Int)+(1:Int))),(50,.undef),(51,.undef),(52,.undef),(53,.undef),(54,.undef),(55,.undef),(56,.undef),(57,.undef),(66,.undef),(67,.undef),(68,.undef)] [.box [.bool fl],.box [.str (Deal.long d),.str (Deal.short d),.str (Deal.ccy d),.str d.name,.str (Deal.zc d),.str (Deal.zf d)],.box [.undef,.undef,.undef,.undef,.undef,.undef,.undef,.undef,.undef,.undef,.undef,.undef],.dead,.box [.int .i64 40,.str (Deal.long d),.str (Deal.short d),.str (Deal.ccy d),.str d.name,.str (Deal.zc d),.str (Deal.zf d)],.box [.int .i64 (Per.fix (l.getD (↑i:Int).toNat Per.nil)),.int .i64 (Per.pay (l.getD (↑i:Int).toNat Per.nil)),.str (Per.part (l.getD (↑i:Int).toNat Per.nil))]]))) (.side (inR .i64 ((↑i:Int)+(1:Int))) (.leaf (.back 0 [(1,.sl l.length 3 (perG l)),(2,.fn 164 [] [.ptr 0 0]),(3,.ptr 1 0),(6,.ptr 2 0),(8,.ptr 4 0),(11,.int .i64 (Per.pay (l.getD (↑i:Int).toNat Per.nil))),(14,.undef),(23,.undef),(24,.undef),(25,.undef),(37,.sl l.length 3 (perG l)),(38,.int .i64 l.length),(39,.int .i64 ((↑i:Int)+(1:Int))),(50,.undef),(51,.undef),(52,.undef),(53,.undef),(54,.undef),(55,.undef),(56,.undef),(57,.undef),(66,.undef),(67,.undef),(68,.undef)] [.box [.bool fl],.box [.str (Deal.long d),.str (Deal.short d),.str (Deal.ccy d),.str d.name,.str (Deal.zc d),.str (Deal.zf d)],.box [.undef,.undef,.undef,.undef,.undef,.undef,.undef,.undef,.undef,.undef,.undef,.undef],.dead,.box [.int .i64 e',.str (Deal.long d),.str (Deal.short d),.str (Deal.ccy d),.str d.name,.str (Deal.zc d),.str (Deal.zf d)],.box [.int .i64 (Per.fix (l.getD (↑i:Int).toNat Per.nil)),.int .i64 (Per.pay (l.getD (↑i:Int).toNat Per.nil)),.str (Per.part (l.getD (↑i:Int).toNat Per.nil))]])))) (.side (inR .i64 ((↑i:Int)+(1:Int))) (.leaf (.back 0 [(1,.sl l.length 3 (perG l)),(2,.fn 164 [] [.ptr 0 0]),(3,.ptr 1 0),(6,.ptr 2 0),(8,.ptr 4 0),(11,.int .i64 (Per.pay (l.getD (↑i:Int).toNat Per.nil))),(14,.undef),(23,.undef),(24,.undef),(25,.undef),(37,.sl l.length 3 (perG l)),(38,.int .i64 l.length),(39,.int .i64 ((↑i:Int)+(1:Int))),(50,.undef),(51,.undef),(52,.undef),(53,.undef),(54,.undef),(55,.undef),(56,.undef),(57,.undef),(66,.undef),(67,.undef),(68,.undef)] [.box [.bool fl],.box [.str (Deal.long d),.str (Deal.short d),.str (Deal.ccy d),.str d.name,.str (Deal.zc d),.str (Deal.zf d)],.box [.undef,.undef,.undef,.undef,.undef,.undef,.undef,.undef,.undef,.undef,.undef,.undef],.dead,.box [.int .i64 e',.str (Deal.long d),.str (Deal.short d),.str (Deal.ccy d),.str d.name,.str (Deal.zc d),.str (Deal.zf d)],.box [.int .i64 (Per.fix (l.getD (↑i:Int).toNat Per.nil)),.int .i64 (Per.pay (l.getD (↑i:Int).toNat Per.nil)),.str (Per.part (l.getD (↑i:Int).toNat Per.nil))]]))))) (.leaf (.loop (Prod.fst (lps (inside (inside K157 0) 0) 0)) (Prod.snd (lps (inside (inside K157 0) 0) 0)) [(1,.sl l.length 3 (perG l)),(2,.fn 164 [] [.ptr 0 0]),(3,.ptr 1 0),(6,.ptr 2 0),(8,.ptr 4 0),(11,.int .i64 (Tm.kA l i)),(14,.nils),(23,.undef),(24,.undef),(25,.undef),(37,.sl l.length 3 (perG l)),(38,.int .i64 l.length),(39,.int .i64 i),(50,.undef),(51,.undef),(52,.undef),(53,.undef),(54,.undef),(55,.undef),(56,.undef),(57,.undef),(66,.sl l.length 3 (perG l)),(67,.int .i64 l.length),(68,.int .i64 0)] [.box [.bool fl],.box [.str (Deal.long d),.str (Deal.short d),.str (Deal.ccy d),.str d.name,.str (Deal.zc d),.str (Deal.zf d)],.box [.undef,.undef,.undef,.undef,.undef,.undef,.undef,.undef,.undef,.undef,.undef,.undef],.dead,.box [.int .i64 e',.str (Deal.long d),.str (Deal.short d),.str (Deal.ccy d),.str d.name,.str (Deal.zc d),.str (Deal.zf d)]]))) (by kernel_rfl) ?_
  simp only [Tree.holds,ze,inR,lo,hi,Int.toNat_natCast]
  refine⟨fun hlt=> ?_,fun hge=> ?_⟩
  ·have hlt:i<l.length:=by have:=of_decide_eq_true hlt; omega
   have hs:=Tm.QL (e:=e1) (l:=l) (i:=i) rfl
   rw [he'] at hs
   have hp:=Tm.JX l i
   refine⟨by omega,fun _=>⟨fun hc=>⟨fun hz=>⟨by omega,fun _=> ?_⟩,fun hz=>⟨by omega,fun _=> ?_⟩⟩,fun hc=>⟨by omega,fun _=> ?_⟩⟩⟩
   all_goals
    rw [if_pos trivial]
    refine⟨⟨i+1,hlt⟩,by show l.length - (i+1)<l.length - i; omega,by simp [Wx,perS,za,hp],?_,by kernel_rfl,by show 1≤5; decide⟩
   ·rw [if_pos (by simpa using hc),if_pos (of_decide_eq_true hz)] at hs
    simp [HCap,bCap,dbox,Deal.cells,hs,List.replicate]
   ·rw [if_pos (by simpa using hc),if_neg (of_decide_eq_false hz)] at hs
    simp [HCap,bCap,dbox,Deal.cells,hs,List.replicate]
   ·rw [if_neg (by simp at hc ⊢; omega)] at hs
    simp [HCap,bCap,dbox,Deal.cells,hs,List.replicate]
  ·have hge:i=l.length:=by have:=of_decide_eq_false hge; omega
   subst hge
   rw [he'] at hq
   refine zb.bear 14 12 (Con.conG []) rfl (by decide) (by kernel_rfl) ?_
   refine zb.weak (S:=Vz l 0 0) (H:=XL d fl e' []) ⟨by simp [Vz,wW,perS,za],by simp [XL,bCap,dbox,Deal.cells,List.replicate,za],by kernel_rfl,by show 1≤6; decide⟩ ?_
   exact znf d l fl e' hf hl hpt hq
theorem zck:zd Tryz.prog 157 Qz:=by
 refine qt (fn:=Tryz.f157) (c:=Tryz.f157.body.getD .skip) rfl rfl rfl (fun h=>by cases h) fun p hp O w0 σ0 Q hl0 hq=> ?_
 obtain⟨d,l,fl⟩:=p
 replace hq:=hq () trivial
 obtain⟨hf,hl,hpt⟩:=hp
 simp only at hf hl hpt hq
 unfold Tm.qw Tm.qL at hq
 refine zb.run hmix yv [1,2,3,6,8,11,14,23,24,25,37,38,39,50,51,52,53,54,55,56,57,66,67,68] 400 (T:=.ite (decide ((40:Int)<l.length)) (.leaf (.ret [.agg [.int .u8 0,.str #[].toList,.str #[].toList,.str #[].toList,.int .u8 0,.str #[].toList,.str #[].toList,.int .i64 0,.nils,.int .i64 0,.nils,.nils],.int .i64 4] [.box [.bool fl],.box [.str (Deal.long d),.str (Deal.short d),.str (Deal.ccy d),.str d.name,.str (Deal.zc d),.str (Deal.zf d)],.box [.int .u8 0,.str #[].toList,.str #[].toList,.str #[].toList,.int .u8 0,.str #[].toList,.str #[].toList,.int .i64 0,.nils,.int .i64 0,.nils,.nils]])) (.ex (fun(x:Deal×Int×List (List UInt8))=>eqL [AV.ptr 0 0,AV.osl 1 1 0 2] [AV.ptr 0 0,AV.osl 1 1 0 x.2.2.length]∧eqH [.box [AV.int .i64 0,AV.str (Deal.long d),AV.str (Deal.short d),AV.str (Deal.ccy d),AV.str d.name,AV.str (Deal.zc d),AV.str (Deal.zf d)],.arr 2 1 (zi 1 [AV.str (Deal.zc d),AV.str (Deal.zf d)])] [.box [AV.int .i64 x.2.1,AV.str (Deal.long x.1),AV.str (Deal.short x.1),AV.str (Deal.ccy x.1),AV.str (Deal.name x.1),AV.str (Deal.zc x.1),AV.str (Deal.zf x.1)],.arr x.2.2.length 1 (ratG x.2.2)]∧2=2∧x.2.2.length<1099511627776∧∀ (r:List UInt8),r∈x.2.2→r.length<1099511627776) fun n=>.all (fun(x:Unit)=>True) fun n_1=>.leaf (.loop (Prod.fst (lps K157 0)) (Prod.snd (lps K157 0)) [(1,.sl l.length 3 (perG l)),(2,.fn 164 [] [.ptr 0 0]),(3,.ptr 1 0),(6,.ptr 2 0),(8,.ptr 4 0),(11,.undef),(14,.undef),(23,.sl l.length 3 (perG l)),(24,.int .i64 l.length),(25,.int .i64 0),(37,.undef),(38,.undef),(39,.undef),(50,.undef),(51,.undef),(52,.undef),(53,.undef),(54,.undef),(55,.undef),(56,.undef),(57,.undef),(66,.undef),(67,.undef),(68,.undef)] [.box [.bool fl],.box [.str (Deal.long d),.str (Deal.short d),.str (Deal.ccy d),.str d.name,.str (Deal.zc d),.str (Deal.zf d)],.box [.int .u8 0,.str #[].toList,.str #[].toList,.str #[].toList,.int .u8 0,.str #[].toList,.str #[].toList,.int .i64 0,.nils,.int .i64 0,.nils,.nils],.box [.str (Deal.long d),.str (Deal.short d),.str (Deal.ccy d),.str d.name,.str (Deal.zc d),.str (Deal.zf d)],.box [.int .i64 (Tm.first n.2.1 n.2.2),.str (Deal.long n.1),.str (Deal.short n.1),.str (Deal.ccy n.1),.str (Deal.name n.1),.str (Deal.zc n.1),.str (Deal.zf n.1)],.arr n.2.2.length 1 (ratG n.2.2)]))) (by kernel_rfl) ?_
 simp only [Tree.holds,ze]
 refine⟨fun h=> ?_,fun h=> ?_⟩
 ·have h40:=of_decide_eq_true h
  simp only [if_pos (show 40<l.length by omega)] at hq
  rw [if_neg (show ¬ (4:Int)=0 by decide)] at hq
  exact RetR.keep [0] rfl rfl (by show ∀ j,j<1→_; decide) rfl hq zero_eq (by simp [expH,expB,exp1,exp0,ren0,bCap,dbox]) rfl
 have h40:=of_decide_eq_false h
 simp only [if_neg (show ¬ 40<l.length by omega)] at hq
 refine⟨(d,0,[d.zc,d.zf]),⟨by simp,by simp [Deal.cells,za6],trivial,by show 2<2^40; decide,Wc hf⟩,⟨(),trivial⟩,fun _ _=> ?_⟩
 unfold Tm.k8 Tm.perE at hq
 obtain⟨e0,he0⟩:∃ e,Tm.first 0 [d.zc,d.zf]=e:=⟨_,rfl⟩
 rw [he0] at hq
 simp only [he0]
 refine zb.loop (ι:={i:Nat // i≤l.length}) (fun i=>zhg l i.1) (fun i=>HCap d fl (Tm.first e0 ((l.map Per.part).take i.1))) (fun i=>l.length - i.1) ⟨0,Nat.zero_le _⟩ 0 ?_ ?_ (by kernel_rfl)
 ·exact⟨by simp [zhg,perS,za],by simp [HCap,bCap,dbox,Deal.cells,Tm.first,List.replicate],by kernel_rfl,by show 1≤5; decide⟩
 ·rintro⟨i,hil⟩
  obtain⟨e',he'⟩:∃ e',Tm.first e0 ((l.map Per.part).take i)=e':=⟨_,rfl⟩
  simp only [he']
  refine zb.run hmix yv [1,2,3,6,8,11,14,23,24,25,37,38,39,50,51,52,53,54,55,56,57,66,67,68] 400 (T:=.ite (decide ((↑i:Int)<l.length)) (.side ((0:Int)≤i∧(↑i:Int)<l.length) (.ex (fun(x:Deal×Int×List (List UInt8))=>eqL [AV.ptr 0 0,AV.osl 1 1 0 1] [AV.ptr 0 0,AV.osl 1 1 0 x.2.2.length]∧eqH [.box [AV.int .i64 e',AV.str (Deal.long d),AV.str (Deal.short d),AV.str (Deal.ccy d),AV.str d.name,AV.str (Deal.zc d),AV.str (Deal.zf d)],.arr 1 1 (zi 1 [AV.str (Per.part (l.getD (↑i:Int).toNat Per.nil))])] [.box [AV.int .i64 x.2.1,AV.str (Deal.long x.1),AV.str (Deal.short x.1),AV.str (Deal.ccy x.1),AV.str (Deal.name x.1),AV.str (Deal.zc x.1),AV.str (Deal.zf x.1)],.arr x.2.2.length 1 (ratG x.2.2)]∧2=2∧x.2.2.length<1099511627776∧∀ (r:List UInt8),r∈x.2.2→r.length<1099511627776) fun n=>.all (fun(x:Unit)=>True) fun n_1=>.side (inR .i64 ((↑i:Int)+(1:Int))) (.leaf (.back 0 [(1,.sl l.length 3 (perG l)),(2,.fn 164 [] [.ptr 0 0]),(3,.ptr 1 0),(6,.ptr 2 0),(8,.ptr 4 0),(11,.undef),(14,.undef),(23,.sl l.length 3 (perG l)),(24,.int .i64 l.length),(25,.int .i64 ((↑i:Int)+(1:Int))),(37,.undef),(38,.undef),(39,.undef),(50,.undef),(51,.undef),(52,.undef),(53,.undef),(54,.undef),(55,.undef),(56,.undef),(57,.undef),(66,.undef),(67,.undef),(68,.undef)] [.box [.bool fl],.box [.str (Deal.long d),.str (Deal.short d),.str (Deal.ccy d),.str d.name,.str (Deal.zc d),.str (Deal.zf d)],.box [.undef,.undef,.undef,.undef,.undef,.undef,.undef,.undef,.undef,.undef,.undef,.undef],.dead,.box [.int .i64 (Tm.first n.2.1 n.2.2),.str (Deal.long n.1),.str (Deal.short n.1),.str (Deal.ccy n.1),.str (Deal.name n.1),.str (Deal.zc n.1),.str (Deal.zf n.1)],.box [.int .i64 (Per.fix (l.getD (↑i:Int).toNat Per.nil)),.int .i64 (Per.pay (l.getD (↑i:Int).toNat Per.nil)),.str (Per.part (l.getD (↑i:Int).toNat Per.nil))],.arr n.2.2.length 1 (ratG n.2.2)])))) (.leaf (.loop (Prod.fst (lps (inside K157 0) 0)) (Prod.snd (lps (inside K157 0) 0)) [(1,.sl l.length 3 (perG l)),(2,.fn 164 [] [.ptr 0 0]),(3,.ptr 1 0),(6,.ptr 2 0),(8,.ptr 4 0),(11,.int .i64 (-9223372036854775808:Int)),(14,.undef),(23,.sl l.length 3 (perG l)),(24,.int .i64 l.length),(25,.int .i64 i),(37,.sl l.length 3 (perG l)),(38,.int .i64 l.length),(39,.int .i64 0),(50,.undef),(51,.undef),(52,.undef),(53,.undef),(54,.undef),(55,.undef),(56,.undef),(57,.undef),(66,.undef),(67,.undef),(68,.undef)] [.box [.bool fl],.box [.str (Deal.long d),.str (Deal.short d),.str (Deal.ccy d),.str d.name,.str (Deal.zc d),.str (Deal.zf d)],.box [.undef,.undef,.undef,.undef,.undef,.undef,.undef,.undef,.undef,.undef,.undef,.undef],.dead,.box [.int .i64 e',.str (Deal.long d),.str (Deal.short d),.str (Deal.ccy d),.str d.name,.str (Deal.zc d),.str (Deal.zf d)]]))) (by kernel_rfl) ?_
  simp only [Tree.holds,ze,inR,lo,hi,Int.toNat_natCast]
  refine⟨fun hlt=> ?_,fun hge=> ?_⟩
  ·have hlt:i<l.length:=by have:=of_decide_eq_true hlt; omega
   have hpi:=hpt i hlt
   have ht:=Tm.xg (e:=e0) (l:=l.map Per.part) (i:=i) (by simpa using hlt)
   rw [he'] at ht
   have hg:(l.map Per.part).getD i []=(l.getD i Per.nil).part:=by simp [List.getD,hlt]
   rw [hg] at ht
   have ht2:Tm.first e' [(l.getD i Per.nil).part]=Tm.first e0 ((l.map Per.part).take (i+1)):=by rw [ht]; rfl
   refine⟨by omega,fun _=>⟨(d,e',[(l.getD i Per.nil).part]),⟨by simp,by simp [Deal.cells,zas],trivial,by show 1<2^40; decide,fun r hr=>by rw [List.mem_singleton.1 hr]; omega⟩,⟨(),trivial⟩,fun _ _=>⟨by omega,fun _=> ?_⟩⟩⟩
   rw [if_pos trivial]
   exact⟨⟨i+1,hlt⟩,by show l.length - (i+1)<l.length - i; omega,by simp [zhg,perS,za],by show eqH _ (HCap d fl (Tm.first e0 ((l.map Per.part).take (i+1)))); rw [← ht2]; simp [HCap,bCap,dbox,Deal.cells,List.replicate],by kernel_rfl,by show 1≤5; decide⟩
  ·have hge:i=l.length:=by have:=of_decide_eq_false hge; omega
   subst hge
   have hz:(l.map Per.part).take l.length=l.map Per.part:=by rw [← List.length_map (f:=Per.part),List.take_length]
   rw [hz] at he'
   rw [he'] at hq
   refine zb.weak (S:=Wx l 0) (H:=HCap d fl e') ⟨by simp [Wx,perS,za,Tm.kA],by simp [HCap,bCap,dbox,Deal.cells,List.replicate],by kernel_rfl,by show 1≤5; decide⟩ ?_
   exact zmk d l fl e' hf hl hpt hq
noncomputable def K54:List Go.Sx.Item:=[.code (Tryz.f54.body.getD .skip)]
structure xC where
 d:Deal
 l:List Per
 days:List Int
def zl8:Ctr:=ctrP true (fun p:xC=>[p.d.av,perS p.l,Con.dayS p.days]) (fun p=>p.l.length<2^60) (fun p r=>r=false→Tm.short p.d p.l p.days) (fun _ (r:Bool)=>(.bool r,[]))
def SLo(l:List Per)(i:Nat):KV:=[(1,perS l),(7,.int .i64 (i:Int))]
theorem zk0:zd Tryz.prog 54 zl8:=by
 refine zh (fn:=Tryz.f54) (c:=Tryz.f54.body.getD .skip) rfl rfl rfl fun p hp O w0 Q hq=> ?_
 obtain⟨d,l,days⟩:=p
 replace hp:l.length<2^60:=hp
 refine zb.run hmix zy [1,7] 400 (T:=.ite (bif bif bif bif bif bif bif decide ((200:Int)<(↑(Deal.long d).length:Int)) then true else decide ((200:Int)<(↑(Deal.short d).length:Int)) then true else decide ((200:Int)<(↑(Deal.ccy d).length:Int)) then true else decide ((200:Int)<(↑d.name.length:Int)) then true else decide ((2500:Int)<(↑(Deal.zc d).length:Int)) then true else decide ((2500:Int)<(↑(Deal.zf d).length:Int)) then true else decide ((60:Int)<l.length) then true else decide ((200:Int)<days.length)) (.leaf (.ret [.bool true] [.box [.str (Deal.long d),.str (Deal.short d),.str (Deal.ccy d),.str d.name,.str (Deal.zc d),.str (Deal.zf d)]])) (.leaf (.loop (Prod.fst (lps K54 0)) (Prod.snd (lps K54 0)) [(1,.sl l.length 3 (perG l)),(7,.int .i64 0)] [.box [.str (Deal.long d),.str (Deal.short d),.str (Deal.ccy d),.str d.name,.str (Deal.zc d),.str (Deal.zf d)]]))) (by kernel_rfl) ?_
 simp only [Tree.holds,ze]
 have hqt:Q (.bool true,[]):=hq true (fun h=>by cases h)
 refine⟨fun h=>RetR.scal hqt rfl (by simp [resV]),fun h=> ?_⟩
 have hs:Tm.fits d∧l.length≤60∧days.length≤200:=by
  simp only [Bool.cond_true_left,Bool.or_eq_false_iff,decide_eq_false_iff_not] at h
  unfold Tm.fits
  omega
 refine zb.loop (ι:={i:Nat // i≤l.length∧∀ j,j<i→(l.getD j Per.nil).part.length≤300}) (fun i=>SLo l i.1) (fun i=>[.box [.str d.long,.str d.short,.str d.ccy,.str d.name,.str d.zc,.str d.zf]]) (fun i=>l.length - i.1) ⟨0,Nat.zero_le _,fun j hj=>absurd hj (Nat.not_lt_zero j)⟩ 0 ?_ ?_ (by kernel_rfl)
 ·exact⟨by simp [SLo,perS,za],by simp,by kernel_rfl,Nat.zero_le _⟩
 ·rintro⟨i,hil,hall⟩
  refine zb.run hmix zy [1,7] 400 (T:=.ite (decide ((↑i:Int)<l.length)) (.side ((0:Int)≤i∧(↑i:Int)<l.length) (.ite (decide ((300:Int)<(↑(List.length (Per.part (l.getD (↑i:Int).toNat Per.nil))):Int))) (.leaf (.ret [.bool true] [.box [.str (Deal.long d),.str (Deal.short d),.str (Deal.ccy d),.str d.name,.str (Deal.zc d),.str (Deal.zf d)]])) (.side (inR .i64 ((↑i:Int)+(1:Int))) (.leaf (.back 0 [(1,.sl l.length 3 (perG l)),(7,.int .i64 ((↑i:Int)+(1:Int)))] [.box [.str (Deal.long d),.str (Deal.short d),.str (Deal.ccy d),.str d.name,.str (Deal.zc d),.str (Deal.zf d)]]))))) (.leaf (.ret [.bool false] [.box [.str (Deal.long d),.str (Deal.short d),.str (Deal.ccy d),.str d.name,.str (Deal.zc d),.str (Deal.zf d)]]))) (by kernel_rfl) ?_
  simp only [Tree.holds,ze,inR,lo,hi,Int.toNat_natCast]
  refine⟨fun hlt=> ?_,fun hge=> ?_⟩
  ·have hlt:i<l.length:=by have:=of_decide_eq_true hlt; omega
   refine⟨by omega,fun _=>⟨fun _=>RetR.scal hqt rfl (by simp [resV]),fun h3=>⟨by omega,fun _=> ?_⟩⟩⟩
   rw [if_pos trivial]
   have h3:(l.getD i Per.nil).part.length≤300:=by have:=of_decide_eq_false h3; omega
   refine⟨⟨i+1,hlt,fun j hj=> ?_⟩,by show l.length - (i+1)<l.length - i; omega,by simp [SLo,perS,za],by simp,by kernel_rfl,Nat.zero_le _⟩
   rcases Nat.lt_succ_iff_lt_or_eq.1 hj with hj | rfl
   ·exact hall j hj
   ·exact h3
  ·have hge:i=l.length:=by have:=of_decide_eq_false hge; omega
   subst hge
   exact RetR.scal (hq false fun _=>⟨hs.1,hs.2.1,hs.2.2,hall⟩) rfl (by simp [resV])
structure DealA where
 d:Deal
 day:Int
 ch:List UInt8
 days:List Int
 put:Bool
end Go.Proofs.Tryz
end
section
namespace Go.Nov
open Go.Sx
namespace Tm
theorem ZT{e:Int}(h:¬ e=0):∀ l:List (List UInt8),first e l=e
 | []=>rfl
 | r::l=>by
  unfold first
  simp only [List.foldl_cons,if_neg h]
  exact ZT h l
theorem KF(e:Int)(l:List (List UInt8))(i:Nat):first e l=first (first e (l.take i)) (l.drop i):=by
 unfold first
 rw [← List.foldl_append,List.take_append_drop]
theorem kR{e:Int}{a b:List UInt8}(h:¬ e=0):(prod e a b).2=e:=by
 unfold prod
 rw [if_pos h]
theorem vD{a b:List UInt8} : prod 0 a b=mulR a b:=by
 unfold prod
 rw [if_neg (by simp)]
theorem yS{d:Deal}{s:Leg}{p:Per}(h:¬ s.e=0):(legS d s p).e=s.e:=by
 have h1:(prod s.e p.part d.zf).2=s.e:=kR h
 show(prod (prod s.e p.part d.zf).2 d.zc (prod s.e p.part d.zf).1).2=s.e
 rw [h1]
 exact kR h
theorem Jp{d:Deal}{fl:Bool}{s:Leg}{p:Per}(h:¬ s.e=0):(legC d fl s p).e=s.e:=kR h
theorem Jz{f:Leg→Per→Leg}(hf:∀ s p,¬ s.e=0→(f s p).e=s.e):∀ (l:List Per) (s:Leg),¬ s.e=0→(l.foldl f s).e=s.e
 | [],s,_=>rfl
 | p::l,s,h=>by
  simp only [List.foldl_cons]
  rw [Jz hf l (f s p) (by rw [hf s p h]; exact h),hf s p h]
theorem Qg{f:Leg→Per→Leg}(hf:∀ s p,¬ s.e=0→(f s p).e=s.e){e:Int}{l:List Per}{i:Nat}(h:¬ (zz f e l i).e=0):(zz f e l l.length).e=(zz f e l i).e:=by
 unfold zz at h ⊢
 rw [List.take_length]
 conv=>lhs; rw [← List.take_append_drop i l]
 rw [List.foldl_append]
 exact Jz hf _ _ h
theorem zib{e:Int}{l:List Per}{i:Nat}(h:¬ e=0):qb e l i=e:=by unfold qb; rw [if_neg h]
theorem zj6{l:List Per}{i j:Nat}(hij:i≤j)(h:badT l i=true):badT l j=true:=by
 unfold badT at h ⊢
 rw [List.any_eq_true] at h ⊢
 obtain⟨x,h1,h2⟩:=h
 exact⟨x,List.mem_range.2 (Nat.lt_of_lt_of_le (List.mem_range.1 h1) hij),h2⟩
theorem V7{f:Leg→Per→Leg}(hf:∀ s p,¬ s.e=0→(f s p).e=s.e){d:Deal}{l:List Per}{n:Int}(hn:n=if 40<l.length then 4 else qb (perE d l) l l.length)(h:¬ n=0):qL f d l=n∧qw f d l=zero:=by
 have hx:qL f d l=n:=by
  unfold qL
  by_cases h4:40<l.length
  ·rw [if_pos h4] at hn ⊢; exact hn.symm
  ·rw [if_neg h4] at hn ⊢
   have:(k8 f d l).e=n:=by
    unfold k8
    rw [← hn]
    have h0:¬ (zz f n l 0).e=0:=h
    exact Qg hf h0
   unfold resE
   rw [this,if_neg h]
 refine⟨hx,?_⟩
 unfold qw
 rw [hx,if_neg h]
theorem Zi{f:Leg→Per→Leg}(hf:∀ s p,¬ s.e=0→(f s p).e=s.e){d:Deal}{l:List Per}{i:Nat}(hn:(if 40<l.length then 4 else qb (perE d l) l l.length)=0)(h:¬ (zz f 0 l i).e=0):qL f d l=(zz f 0 l i).e∧qw f d l=zero:=by
 have h4:¬ 40<l.length:=fun h4=>by rw [if_pos h4] at hn; cases hn
 rw [if_neg h4] at hn
 have hx:qL f d l=(zz f 0 l i).e:=by
  unfold qL
  rw [if_neg h4]
  have:(k8 f d l).e=(zz f 0 l i).e:=by
   unfold k8
   rw [hn]
   exact Qg hf h
  unfold resE
  rw [this,if_neg h]
 refine⟨hx,?_⟩
 unfold qw
 rw [hx,if_neg h]
theorem Wt{f:Leg→Per→Leg}{d:Deal}{l:List Per}(hn:(if 40<l.length then 4 else qb (perE d l) l l.length)=0)(h:(zz f 0 l l.length).e=0):qL f d l=(whole (zz f 0 l l.length).acc).errC∧qw f d l=if(whole (zz f 0 l l.length).acc).errC=0 then whole (zz f 0 l l.length).acc else zero:=by
 have h4:¬ 40<l.length:=fun h4=>by rw [if_pos h4] at hn; cases hn
 rw [if_neg h4] at hn
 have hr:k8 f d l=zz f 0 l l.length:=by unfold k8; rw [hn]
 have hx:qL f d l=(whole (zz f 0 l l.length).acc).errC:=by
  unfold qL resE
  rw [if_neg h4,hr,if_pos h]
 refine⟨hx,?_⟩
 unfold qw
 rw [hx,hr]
theorem zes{d:Deal}{s:Leg}{p:Per}(h:s.e=0):(legS d s p).e=if(mulR p.part d.zf).2=0 then(mulR d.zc (mulR p.part d.zf).1).2 else(mulR p.part d.zf).2:=by
 show(prod (prod s.e p.part d.zf).2 d.zc (prod s.e p.part d.zf).1).2=_
 rw [h,vD]
 by_cases h2:(mulR p.part d.zf).2=0
 ·rw [if_pos h2,h2,vD]
 ·rw [if_neg h2]; exact kR h2
theorem zfc{d:Deal}{s:Leg}{p:Per}(h:s.e=0)(h2:(mulR p.part d.zf).2=0):(legS d s p).acc=s.acc++[at_ p.pay (.mk 2 d.long d.short d.ccy (kon (mulR d.zc (mulR p.part d.zf).1).1) 0 [] []),at_ p.pay (pay d (fixg d.name p.fix) (mulR p.part d.zf).1)]:=by
 unfold legS
 simp only
 rw [h,vD,h2,vD]
theorem zg0{d:Deal}{fl:Bool}{s:Leg}{p:Per}(h:s.e=0):(legC d fl s p).e=(mulR p.part d.zf).2:=by
 show(prod s.e p.part d.zf).2=_
 rw [h,vD]
theorem zek{d:Deal}{fl:Bool}{s:Leg}{p:Per}(h:s.e=0):(legC d fl s p).acc=s.acc++[at_ p.pay (pay d (over d.zc (fixg d.name p.fix) fl) (mulR p.part d.zf).1)]:=by
 unfold legC
 simp only
 rw [h,vD]
end Tm
end Go.Nov
end
section
namespace Go.Nov
theorem zmz{l:List Nat}(h:∀ p,p<l.length→l.getD p 0<10):Ten.dig l:=by
 intro d hd
 obtain⟨i,hi,rfl⟩:=List.getElem_of_mem hd
 have:=h i hi
 simpa [List.getD,hi] using this
theorem zin{l:List Nat}{n:Nat}(hn:l.length=n+1)(h:∀ p,p<n→l.getD p 0<10)(hv:Ten.val l<10^(n+1)):Ten.dig l:=by
 refine zmz fun p hp=> ?_
 rcases Nat.lt_or_ge p n with h1 | h1
 ·exact h p h1
 ·have:p=n:=by omega
  subst this
  have e:=Ten.zm l p
  rw [List.take_of_length_le (by omega)] at e
  rw [Nat.pow_succ] at hv
  rcases Nat.lt_or_ge (l.getD p 0) 10 with h2 | h2
  ·exact h2
  ·have:10^p*10≤10^p*l.getD p 0:=Nat.mul_le_mul_left _ h2
   have hB:Ten.B=10:=rfl
   rw [hB] at e
   omega
def ze9(p:List Nat×List Nat)(r:List Nat):Prop:=r.length=max p.1.length p.2.length+1∧Ten.dig r∧Ten.val r=Ten.val p.1+Ten.val p.2
theorem zfy{l m o:List Nat}{c n:Nat}(hl:Ten.dig l)(hm:Ten.dig m)(hn:n=max l.length m.length+1)(he:Ten.val o+10^n*c=Ten.val (l.take n)+Ten.val (m.take n)):Ten.val o=Ten.val l+Ten.val m:=by
 rw [List.take_of_length_le (by omega),List.take_of_length_le (by omega)] at he
 have h1:=Ten.zG hl
 have h2:=Ten.zG hm
 have hB:Ten.B=10:=rfl
 rw [hB] at h1 h2
 have h3:10^l.length≤10^(max l.length m.length):=Nat.pow_le_pow_right (by decide) (by omega)
 have h4:10^m.length≤10^(max l.length m.length):=Nat.pow_le_pow_right (by decide) (by omega)
 have h5:10^n=10^(max l.length m.length)*10:=by rw [hn,Nat.pow_succ]
 rcases Nat.eq_zero_or_pos c with h | h
 ·rw [h] at he; omega
 ·have:10^n*1≤10^n*c:=Nat.mul_le_mul_left _ h
  omega
theorem zjl{l m:List Nat}(hl:Ten.dig l)(hm:Ten.dig m):∃ r,ze9 (l,m) r:=by
 have h1:=Ten.zG hl
 have h2:=Ten.zG hm
 have hB:Ten.B=10:=rfl
 rw [hB] at h1 h2
 have h3:10^l.length≤10^(max l.length m.length):=Nat.pow_le_pow_right (by decide) (by omega)
 have h4:10^m.length≤10^(max l.length m.length):=Nat.pow_le_pow_right (by decide) (by omega)
 have h5:10^(max l.length m.length+1)=10^(max l.length m.length)*10:=Nat.pow_succ _ _
 exact⟨decs (max l.length m.length+1) (Ten.val l+Ten.val m),wZ _ _,k5 _ _,kE _ _ (by omega)⟩
theorem UB{vo vl vm p a b c d c':Nat}(h:vo+p*c=vl+vm)(hd:d+10*c'=a+b+c):vo+p*d+p*10*c'=vl+p*a+(vm+p*b):=by
 have:=congrArg (p * ·) hd
 simp only [Nat.mul_add] at this
 rw [Nat.mul_assoc]
 omega
def Kq(p:List Nat×List Nat)(r:List Nat):Prop:=r.length=p.1.length+p.2.length∧Ten.dig r∧Ten.val r=Ten.val p.1*Ten.val p.2
theorem zan{l m:List Nat}(hl:Ten.dig l)(hm:Ten.dig m):Ten.val l*Ten.val m<10^(l.length+m.length):=by
 have h1:=Ten.zG hl
 have h2:=Ten.zG hm
 have hB:Ten.B=10:=rfl
 rw [hB] at h1 h2
 rw [Nat.pow_add]
 exact Nat.mul_lt_mul_of_lt_of_lt h1 h2
theorem zfi{l m:List Nat}(hl:Ten.dig l)(hm:Ten.dig m):∃ r,Kq (l,m) r:=
 ⟨decs (l.length+m.length) (Ten.val l*Ten.val m),wZ _ _,k5 _ _,kE _ _ (zan hl hm)⟩
theorem zez{o:List Nat}{i j V a vt b:Nat}(hp:i+j<o.length)(h:Ten.val o=V+10^i*(a*vt)):Ten.val (o.set (i+j) (o.getD (i+j) 0+a*b))=V+10^i*(a*(vt+10^j*b)):=by
 have hs:=Ten.kr o (i+j) (o.getD (i+j) 0+a*b) hp
 have hB:Ten.B=10:=rfl
 rw [hB,Nat.mul_add,Nat.pow_add] at hs
 have e:10^i*(a*(vt+10^j*b))=10^i*(a*vt)+10^i*10^j*(a*b):=by
  rw [Nat.mul_add,Nat.mul_add]
  congr 1
  rw [Nat.mul_assoc,Nat.mul_left_comm a]
 rw [e]
 omega
theorem U5{o:List Nat}{i:Nat}(hi:i+1<o.length):Ten.val ((o.set (i+1) (o.getD (i+1) 0+o.getD i 0/10)).set i (o.getD i 0%10))=Ten.val o:=by
 have h1:=Ten.kr o (i+1) (o.getD (i+1) 0+o.getD i 0/10) hi
 have h2:=Ten.kr (o.set (i+1) (o.getD (i+1) 0+o.getD i 0/10)) i (o.getD i 0%10) (by simp; omega)
 have e:(o.set (i+1) (o.getD (i+1) 0+o.getD i 0/10)).getD i 0=o.getD i 0:=by
  simp only [List.getD]
  rw [List.getElem?_set_ne (by omega)]
 have hB:Ten.B=10:=rfl
 rw [e,hB] at h2
 rw [hB,Nat.mul_add,Nat.pow_succ] at h1
 have hdm:=Nat.div_add_mod (o.getD i 0) 10
 have:10^i*o.getD i 0=10^i*10*(o.getD i 0/10)+10^i*(o.getD i 0%10):=by
  rw [Nat.mul_assoc,← Nat.mul_add,hdm]
 omega
theorem wV{o:List Nat}{i p x:Nat}(hi:i<o.length):(o.set i x).getD p 0=if p=i then x else o.getD p 0:=by
 simp only [List.getD]
 by_cases h:p=i
 ·subst h; simp [hi]
 ·rw [List.getElem?_set_ne (by omega),if_neg h]
end Go.Nov
end
section
set_option maxRecDepth 100000
open Go Go.Sx Go.Proofs Go.Nov
namespace Go.Proofs.Tryz
attribute [local simp] eqKV eqA eqA0 eqH eqB eqL eqL0
noncomputable def K257:List Go.Sx.Item:=[.code (Tryz.f257.body.getD .skip)]
noncomputable def K242:List Go.Sx.Item:=[.code (Tryz.f242.body.getD .skip)]
def zgo:Ctr:=ctrP true (fun p:List Nat×List Nat=>[nat6 p.1,nat6 p.2]) (fun p=>Ten.dig p.1∧Ten.dig p.2∧p.1.length<2^30∧p.2.length<2^30) ze9 (fun _ r=>(nat6 r,[]))
def SPp(l m o:List Nat)(c i:Nat):KV:=[(0,nat6 l),(1,nat6 m),(5,.osl 0 1 0 o.length),(6,.int .i64 (c:Int)),(7,.int .i64 (i:Int))]
noncomputable def GPp:Nat→Option Ctr:=fun f=>if f=256 then some (atC) else none
theorem zgr:∀ g c,GPp g=some c→zd Tryz.prog g c:=okIf zlb (zn)
theorem zi8:zd Tryz.prog 257 zgo:=by
 refine zh (fn:=Tryz.f257) (c:=Tryz.f257.body.getD .skip) rfl rfl rfl fun p hp O w0 Q hq=> ?_
 obtain⟨l,m⟩:=p
 obtain⟨hl,hm,hll,hml⟩:=hp
 simp only at hq hl hm hll hml
 refine zb.run hmix zgr [0,1,5,6,7] 400 (T:=.leaf (.loop (Prod.fst (lps K257 0)) (Prod.snd (lps K257 0)) [(0,.sl l.length 1 (natG .i64 l)),(1,.sl m.length 1 (natG .i64 m)),(5,.nils),(6,.int .i64 0),(7,.int .i64 0)] [])) (by kernel_rfl) ?_
 simp only [Tree.holds,ze,inR,lo,hi,Int.toNat_natCast]
 refine zb.bear 5 1 (natG .i64 []) rfl (by decide) (by kernel_rfl) ?_
 refine zb.loop (ι:={z:List Nat×Nat×Nat // z.1.length=z.2.2∧z.2.2≤max l.length m.length+1∧Ten.dig z.1∧z.2.1≤1∧Ten.val z.1+10^z.2.2*z.2.1=Ten.val (l.take z.2.2)+Ten.val (m.take z.2.2)}) (fun z=>SPp l m z.1.1 z.1.2.1 z.1.2.2) (fun z=>[.arr z.1.1.length 1 (natG .i64 z.1.1)]) (fun z=>max l.length m.length+1 - z.1.2.2) ⟨([],0,0),rfl,Nat.zero_le _,by simp [Ten.dig],Nat.zero_le _,by simp [Ten.val]⟩ 0 ?_ ?_ (by kernel_rfl)
 ·refine⟨by simp [SPp,natS,za,wW],by simp [za],by kernel_rfl,Nat.zero_le _⟩
 ·rintro⟨⟨o,b,i⟩,hol,hil,hod,hb,hv⟩
  refine zb.run hmix zgr [0,1,5,6,7] 400 (T:=.ite (decide ((↑i:Int)≤max (↑l.length:Int) (↑m.length:Int))) (.ex (fun(x:List Nat×Nat)=>eqL [AV.sl l.length 1 (natG .i64 l),AV.int .i64 i] [AV.sl x.1.length 1 (natG .i64 x.1),AV.int .i64 x.2]∧True) fun n=>.all (fun(r:Nat)=>r=List.getD n.1 n.2 0) fun n=>.ex (fun(x:List Nat×Nat)=>eqL [AV.sl m.length 1 (natG .i64 m),AV.int .i64 i] [AV.sl x.1.length 1 (natG .i64 x.1),AV.int .i64 x.2]∧True) fun n_1=>.all (fun(r:Nat)=>r=List.getD n_1.1 n_1.2 0) fun n_2=>.side (inR .i64 ((↑n:Int)+n_2)) (.side (inR .i64 ((↑n:Int)+n_2+(↑b:Int))) (.side ((10:Int)≠0) (.side (0=0∧o.length≤o.length∧(o.length+1)*8≤140737488355328) (.side ((10:Int)≠0∧inR .i64 (Int.tdiv ((↑n:Int)+n_2+(↑b:Int)) (10:Int))) (.side (inR .i64 ((↑i:Int)+(1:Int))) (.leaf (.back 0 [(0,.sl l.length 1 (natG .i64 l)),(1,.sl m.length 1 (natG .i64 m)),(5,.osl 0 1 0 (o.length+1)),(6,.int .i64 (Int.tdiv ((↑n:Int)+n_2+(↑b:Int)) (10:Int))),(7,.int .i64 ((↑i:Int)+(1:Int)))] [.arr (o.length+1) 1 (appG o.length (natG .i64 o) (zj (zi 1 [.int .i64 (Int.tmod ((↑n:Int)+n_2+(↑b:Int)) (10:Int))]) 0)),.arr 1 1 (zi 1 [.int .i64 (Int.tmod ((↑n:Int)+n_2+(↑b:Int)) (10:Int))])])))))))) (.leaf (.ret [.osl 0 1 0 o.length] [.arr o.length 1 (natG .i64 o)]))) (by kernel_rfl) ?_
  simp only [Tree.holds,ze,inR,lo,hi,Int.toNat_natCast]
  simp only at hol hil hod hb hv
  refine⟨fun hlt=> ?_,fun hge=> ?_⟩
  ·have hlt:i≤max l.length m.length:=by have:=of_decide_eq_true hlt; omega
   refine⟨(l,i),⟨by simp [za],trivial⟩,⟨_,rfl⟩,?_⟩
   rintro _ rfl
   refine⟨(m,i),⟨by simp [za],trivial⟩,⟨_,rfl⟩,?_⟩
   rintro _ rfl
   simp only
   have h1:l.getD i 0<10:=Ten.z9 hl i
   have h2:m.getD i 0<10:=Ten.z9 hm i
   have step:∀ d b',d+10*b'=l.getD i 0+m.getD i 0+b→Ten.val (o++[d])+10^(i+1)*b'=Ten.val (l.take (i+1))+Ten.val (m.take (i+1)):=by
    intro d b' h
    rw [Ten.z8,Ten.zm,Ten.zm,hol,Nat.pow_succ]
    have:=UB hv h
    simpa [Ten.val] using this
   obtain⟨x,hx⟩:∃ x,l.getD i 0=x:=⟨_,rfl⟩
   obtain⟨y,hy⟩:∃ y,m.getD i 0=y:=⟨_,rfl⟩
   simp only [hx,hy] at h1 h2 step ⊢
   obtain⟨v,hvv⟩:∃ v,x+y+b=v:=⟨_,rfl⟩
   have ev:(x:Int)+(y:Int)+(b:Int)=(v:Int):=by clear step; omega
   have ed:((v:Int)).tdiv 10=((v/10:Nat):Int):=rfl
   have em:((v:Int)).tmod 10=((v%10:Nat):Int):=rfl
   have hv2:v/10≤1∧v%10<10∧v%10+10*(v/10)=v:=⟨by clear step; omega,Nat.mod_lt _ (by decide),Nat.mod_add_div _ _⟩
   obtain⟨g1,g2,g3⟩:=hv2
   rw [ev,ed,em]
   have hstep:=step (v%10) (v/10) (by rw [g3,hvv])
   clear step
   generalize v/10=q at *
   generalize v%10=r at *
   refine⟨by omega,fun _=>⟨by omega,fun _=>⟨by decide,fun _=>⟨⟨trivial,Nat.le_refl _,by omega⟩,fun _=>⟨⟨by decide,by omega,by omega⟩,fun _=>⟨by omega,fun _=> ?_⟩⟩⟩⟩⟩⟩
   rw [if_pos trivial]
   refine⟨⟨(o++[r],q,i+1),by simp [hol],by simp only; omega,Ten.qe.2 ⟨hod,by simp only [Ten.dig,List.mem_singleton]; rintro _ rfl; exact g2⟩,g1,hstep⟩,by show max l.length m.length+1 - (i+1)<_; omega,by simp [SPp,natS,za],qK rfl,by kernel_rfl,Nat.zero_le _⟩
  ·have hge:i=max l.length m.length+1:=by have:=of_decide_eq_false hge; omega
   exact RetR.nats (hq o ⟨by rw [hol,hge],hod,zfy hl hm hge hv⟩) rfl
def VD:Ctr:=ctrP true (fun p:List Nat×List Nat=>[nat6 p.1,nat6 p.2]) (fun p=>Ten.dig p.1∧Ten.dig p.2∧0<p.1.length∧0<p.2.length∧p.1.length<2^30∧p.2.length<2^30) Kq (fun _ r=>(nat6 r,[]))
def STm(l m o:List Nat)(i:Nat):KV:=[(0,nat6 l),(1,nat6 m),(5,.osl 0 1 0 o.length),(6,.int .i64 (i:Int)),(7,.undef),(8,.undef)]
def STm2(l m o:List Nat)(i j:Nat):KV:=[(0,nat6 l),(1,nat6 m),(5,.osl 0 1 0 o.length),(6,.int .i64 (i:Int)),(7,.int .i64 (j:Int)),(8,.undef)]
def STm3(o:List Nat)(i:Nat):KV:=[(0,.undef),(1,.undef),(5,.osl 0 1 0 o.length),(6,.undef),(7,.undef),(8,.int .i64 (i:Int))]
theorem Ws{o:List Nat}{i:Nat}{v:Int}{x:Nat}(hv:v=x)(hi:i<o.length):eqG o.length 1 (updG (natG .i64 o) i 0 [.int .i64 v]) (natG .i64 (o.set i x)):=by
 have:=wF (k:=.i64) (l:=o) (v:=v) (by omega) hi
 subst hv
 simpa using this
theorem X5{O:Nat→Prop}{w0:World}{Q:AV×Heap→Prop}{Hs:Nat→KV→Heap→Prop}(l m o0:List Nat)(hl:Ten.dig l)(hm:Ten.dig m)(hll:0<l.length)(hml:0<m.length)(hl2:l.length<2^30)(hm2:m.length<2^30)(hlen:o0.length=l.length+m.length)(hv:Ten.val o0=Ten.val l*Ten.val m)(hb:∀ p,o0.getD p 0≤81*2^30)
  (hq:∀ r,Kq (l,m) r→Q (nat6 r,[])) (kv:KV) (h:Heap) (hle:LeK 0 Tryz.f242.ntmps kv h (STm3 o0 0) [.arr o0.length 1 (natG .i64 o0)]) :
  zb Tryz.prog Tryz.f242 O 0 w0 [] Hs (RetR VD 0 Q) (.code (.loop (lps (inside K242 0) 1).1)::(lps (inside K242 0) 1).2) (mk Tryz.f242.ntmps kv h):=by
 refine zb.loop (ι:={z:List Nat×Nat // z.1.length=l.length+m.length∧z.2<l.length+m.length∧Ten.val z.1=Ten.val l*Ten.val m∧(∀ p,p<z.2→z.1.getD p 0<10)∧(∀ p,z.2<p→z.1.getD p 0≤81*2^30)∧z.1.getD z.2 0≤2*(81*2^30)}) (fun z=>STm3 z.1.1 z.1.2) (fun z=>[.arr z.1.1.length 1 (natG .i64 z.1.1)]) (fun z=>l.length+m.length - z.1.2) ⟨(o0,0),hlen,by simp only; omega,hv,fun p hp=>by simp at hp,fun p _=>hb p,by have:=hb 0; simp only; omega⟩ 0 hle ?_ (by kernel_rfl)
 rintro⟨⟨o,i⟩,hol,hil,hov,h10,hM,h2M⟩
 simp only at hol hil hov h10 hM h2M
 by_cases hlt:i+1<o.length
 ·refine zb.seq (by kernel_rfl) (zb.cut (ι:=Unit) (fun _=>STm3 o i) (fun _=>[.arr o.length 1 (natG .i64 o)]) 1 ?_ (by kernel_rfl) fun _=> ?_)
  ·refine zb.run hmix zy [0,1,5,6,7,8] 400 (T:=.side (inR .i64 ((↑i:Int)+(1:Int))) (.ite (decide ((↑i:Int)+(1:Int)<o.length)) (.leaf (.back 1 [(0,.undef),(1,.undef),(5,.osl 0 1 0 o.length),(6,.undef),(7,.undef),(8,.int .i64 i)] [.arr o.length 1 (natG .i64 o)])) (.leaf (.ret [.osl 0 1 0 o.length] [.arr o.length 1 (natG .i64 o)])))) (by kernel_rfl) ?_
   simp only [Tree.holds,ze,inR,lo,hi,Int.toNat_natCast]
   refine⟨by omega,fun _=>⟨fun _=> ?_,fun hno=>absurd (of_decide_eq_false hno) (by omega)⟩⟩
   rw [if_pos trivial]
   exact⟨(),by simp [STm3],by simp [za],by kernel_rfl,Nat.zero_le _⟩
  have hx:o.getD i 0/10≤o.getD i 0:=Nat.div_le_self _ _
  have hnext:=hM (i+1) (by omega)
  have c1:((i:Int)+1)=((i+1:Nat):Int):=by omega
  have hl1:(o.set (i+1) (o.getD (i+1) 0+o.getD i 0/10)).length=o.length:=by simp
  refine zb.seq (by kernel_rfl) (zb.block (by kernel_rfl) (zb.seq (by kernel_rfl) (zb.cut (ι:=Unit) (fun _=>STm3 (o.set (i+1) (o.getD (i+1) 0+o.getD i 0/10)) i) (fun _=>[.arr (o.set (i+1) (o.getD (i+1) 0+o.getD i 0/10)).length 1 (natG .i64 (o.set (i+1) (o.getD (i+1) 0+o.getD i 0/10)))]) 1 ?_ (by kernel_rfl) fun _=> ?_)))
  ·refine zb.run hmix zy [0,1,5,6,7,8] 400 (T:=.side (inR .i64 ((↑i:Int)+(1:Int))) (.side (inR .i64 ((↑i:Int)+(1:Int))) (.side ((0:Int)≤i+(1:Int)∧(↑i:Int)+(1:Int)<o.length) (.side ((0:Int)≤i∧(↑i:Int)<o.length) (.side ((10:Int)≠0∧inR .i64 (Int.tdiv (↑(o.getD (0+Int.toNat (↑i:Int)) 0):Int) (10:Int))) (.side (inR .i64 ((↑(o.getD (0+Int.toNat ((↑i:Int)+(1:Int))) 0):Int)+Int.tdiv (↑(o.getD (0+Int.toNat (↑i:Int)) 0):Int) (10:Int))) (.side ((0:Int)≤i+(1:Int)∧(↑i:Int)+(1:Int)<o.length) (.leaf (.back 1 [(0,.undef),(1,.undef),(5,.osl 0 1 0 o.length),(6,.undef),(7,.undef),(8,.int .i64 i)] [.arr o.length 1 (updG (natG .i64 o) (0+Int.toNat ((↑i:Int)+(1:Int))) 0 [.int .i64 ((↑(o.getD (0+Int.toNat ((↑i:Int)+(1:Int))) 0):Int)+Int.tdiv (↑(o.getD (0+Int.toNat (↑i:Int)) 0):Int) (10:Int))])]))))))))) (by kernel_rfl) ?_
   simp only [Tree.holds,ze,inR,lo,hi,c1,Int.toNat_natCast,Nat.zero_add]
   have ed:((o.getD i 0:Nat):Int).tdiv 10=((o.getD i 0/10:Nat):Int):=rfl
   rw [ed]
   generalize ho1:o.getD (i+1) 0=x1 at *
   generalize ho0:o.getD i 0/10=x0 at *
   iterate 7 refine⟨by omega,fun _=> ?_⟩
   rw [if_pos trivial]
   refine⟨(),by simp [STm3],⟨⟨by simp,rfl,Ws (by omega) hlt⟩,trivial⟩,by kernel_rfl,Nat.zero_le _⟩
  obtain⟨o1,ho1⟩:∃ o1,o.set (i+1) (o.getD (i+1) 0+o.getD i 0/10)=o1:=⟨_,rfl⟩
  have hcar:=U5 hlt
  have g0:o1.getD i 0=o.getD i 0:=by rw [← ho1,wV hlt,if_neg (by omega)]
  have g1:o1.getD (i+1) 0=o.getD (i+1) 0+o.getD i 0/10:=by rw [← ho1,wV hlt,if_pos rfl]
  have gn:∀ p,p≠i+1→o1.getD p 0=o.getD p 0:=fun p hp=>by rw [← ho1,wV hlt,if_neg hp]
  have hl2':o1.length=o.length:=by rw [← ho1]; simp
  rw [ho1] at hcar ⊢
  rw [← g0] at hcar
  refine zb.run hmix zy [0,1,5,6,7,8] 400 (T:=.side ((0:Int)≤i∧(↑i:Int)<o1.length) (.side ((10:Int)≠0) (.side ((0:Int)≤i∧(↑i:Int)<o1.length) (.side (inR .i64 ((↑i:Int)+(1:Int))) (.leaf (.back 0 [(0,.undef),(1,.undef),(5,.osl 0 1 0 o1.length),(6,.undef),(7,.undef),(8,.int .i64 ((↑i:Int)+(1:Int)))] [.arr o1.length 1 (updG (natG .i64 o1) (0+Int.toNat (↑i:Int)) 0 [.int .i64 (Int.tmod (↑(o1.getD (0+Int.toNat (↑i:Int)) 0):Int) (10:Int))])])))))) (by kernel_rfl) ?_
  simp only [Tree.holds,ze,inR,lo,hi,c1,Int.toNat_natCast,Nat.zero_add]
  have em:((o1.getD i 0:Nat):Int).tmod 10=((o1.getD i 0%10:Nat):Int):=rfl
  rw [em]
  have hm10:o1.getD i 0%10<10:=Nat.mod_lt _ (by decide)
  iterate 4 refine⟨by first | omega | decide,fun _=> ?_⟩
  rw [if_pos trivial]
  refine⟨⟨(o1.set i (o1.getD i 0%10),i+1),by simp [hl2',hol],by omega,by rw [hcar]; exact hov,fun p hp=> ?_,fun p hp=> ?_,?_⟩,by show _ - (i+1)<_ - i; omega,by simp [STm3],⟨⟨by simp,rfl,Ws rfl (by omega)⟩,trivial⟩,by kernel_rfl,Nat.zero_le _⟩
  ·show(o1.set i _).getD p 0<10
   rw [wV (by omega)]
   split
   ·exact hm10
   ·rw [gn p (by have:p<i+1:=hp; omega)]; exact h10 p (by have:p<i+1:=hp; omega)
  ·have hp:i+1<p:=hp
   show(o1.set i _).getD p 0≤_
   rw [wV (by omega),if_neg (by omega),gn p (by omega)]
   exact hM p (by omega)
  ·show(o1.set i _).getD (i+1) 0≤_
   rw [wV (by omega),if_neg (by omega),g1]
   have:o.getD i 0/10≤2*(81*2^30)/10:=Nat.div_le_div_right h2M
   omega
 ·refine zb.seq (by kernel_rfl) (zb.cut (ι:={x:Unit // False}) (fun _=>[]) (fun _=>[]) 1 ?_ (by kernel_rfl) fun x=>x.2.elim)
  ·refine zb.run hmix zy [0,1,5,6,7,8] 400 (T:=.side (inR .i64 ((↑i:Int)+(1:Int))) (.ite (decide ((↑i:Int)+(1:Int)<o.length)) (.leaf (.back 1 [(0,.undef),(1,.undef),(5,.osl 0 1 0 o.length),(6,.undef),(7,.undef),(8,.int .i64 i)] [.arr o.length 1 (natG .i64 o)])) (.leaf (.ret [.osl 0 1 0 o.length] [.arr o.length 1 (natG .i64 o)])))) (by kernel_rfl) ?_
   simp only [Tree.holds,ze,inR,lo,hi,Int.toNat_natCast]
   refine⟨by omega,fun _=>⟨fun hno=>absurd (of_decide_eq_true hno) (by omega),fun _=> ?_⟩⟩
   refine RetR.nats (hq o ⟨hol,zin (n:=i) (by omega) h10 ?_,hov⟩) rfl
   rw [hov]
   have:=zan hl hm
   rw [show i+1=l.length+m.length by omega]
   exact this
theorem zcd{o:List Nat}{v:Int}{i d i':Nat}(hv:v=d)(hi:i<o.length)(hi':i'=i):eqH [.arr o.length 1 (updG (natG .i64 o) i' 0 [.int .i64 v])] [.arr (o.set i d).length 1 (natG .i64 (o.set i d))]:=heap_set hv hi hi'
theorem zci:zd Tryz.prog 242 VD:=by
 refine zh (fn:=Tryz.f242) (c:=Tryz.f242.body.getD .skip) rfl rfl rfl fun p hp O w0 Q hq=> ?_
 obtain⟨l,m⟩:=p
 obtain⟨hl,hm,hll,hml,hl2,hm2⟩:=hp
 simp only at hq hl hm hll hml hl2 hm2
 refine zb.run hmix zy [0,1,5,6,7,8] 400 (T:=.side (inR .i64 ((↑l.length:Int)+m.length)) (.side ((0:Int)≤l.length+(↑m.length:Int)∧(↑l.length:Int)+m.length≤(↑l.length:Int)+m.length∧inR .i64 ((↑l.length:Int)+m.length)∧Int.toNat ((↑l.length:Int)+m.length)*8≤140737488355328) (.leaf (.loop (Prod.fst (lps K242 0)) (Prod.snd (lps K242 0)) [(0,.sl l.length 1 (natG .i64 l)),(1,.sl m.length 1 (natG .i64 m)),(5,.osl 0 1 0 (Int.toNat ((↑l.length:Int)+m.length))),(6,.int .i64 0),(7,.undef),(8,.undef)] [.arr (Int.toNat ((↑l.length:Int)+m.length)) 1 (kp [.int .i64 0])])))) (by kernel_rfl) ?_
 have es:((l.length:Int)+(m.length:Int))=((l.length+m.length:Nat):Int):=by omega
 simp only [Tree.holds,ze,inR,lo,hi,es,Int.toNat_natCast]
 refine⟨by omega,fun _=>⟨by omega,fun _=> ?_⟩⟩
 have hrep:∀ p,(List.replicate (l.length+m.length) 0).getD p 0=0:=fun p=>by
  simp only [List.getD,List.getElem?_replicate]
  split<;>rfl
 refine zb.loop (ι:={z:List Nat×Nat // z.1.length=l.length+m.length∧z.2≤l.length∧Ten.val z.1=Ten.val (l.take z.2)*Ten.val m∧∀ p,z.1.getD p 0≤81*z.2}) (fun z=>STm l m z.1.1 z.1.2) (fun z=>[.arr z.1.1.length 1 (natG .i64 z.1.1)]) (fun z=>l.length - z.1.2) ⟨(List.replicate (l.length+m.length) 0,0),by simp,Nat.zero_le _,by simp [Ten.q6,Ten.val],fun p=>by simp only [hrep]; exact Nat.zero_le _⟩ 0 ?_ ?_ (by kernel_rfl)
 ·exact⟨by simp [STm,natS,za],by simp [yw],by kernel_rfl,Nat.zero_le _⟩
 rintro⟨⟨o,i⟩,hol,hil,hov,hob⟩
 simp only at hol hil hov hob
 refine zb.run hmix zy [0,1,5,6,7,8] 400 (T:=.ite (decide ((↑i:Int)<l.length)) (.leaf (.loop (Prod.fst (lps (inside K242 0) 0)) (Prod.snd (lps (inside K242 0) 0)) [(0,.sl l.length 1 (natG .i64 l)),(1,.sl m.length 1 (natG .i64 m)),(5,.osl 0 1 0 o.length),(6,.int .i64 i),(7,.int .i64 0),(8,.undef)] [.arr o.length 1 (natG .i64 o)])) (.leaf (.loop (Prod.fst (lps (inside K242 0) 1)) (Prod.snd (lps (inside K242 0) 1)) [(0,.sl l.length 1 (natG .i64 l)),(1,.sl m.length 1 (natG .i64 m)),(5,.osl 0 1 0 o.length),(6,.int .i64 i),(7,.undef),(8,.int .i64 0)] [.arr o.length 1 (natG .i64 o)]))) (by kernel_rfl) ?_
 simp only [Tree.holds,ze,inR,lo,hi,Int.toNat_natCast]
 refine⟨fun hlt=> ?_,fun hge=> ?_⟩
 ·have hlt:i<l.length:=by have:=of_decide_eq_true hlt; omega
  refine zb.loop (ι:={z:List Nat×Nat // z.1.length=l.length+m.length∧z.2≤m.length∧Ten.val z.1=Ten.val (l.take i)*Ten.val m+10^i*(l.getD i 0*Ten.val (m.take z.2))∧(∀ p,z.1.getD p 0≤81*i+81)∧∀ p,i+z.2≤p→z.1.getD p 0≤81*i}) (fun z=>STm2 l m z.1.1 i z.1.2) (fun z=>[.arr z.1.1.length 1 (natG .i64 z.1.1)]) (fun z=>m.length - z.1.2) ⟨(o,0),hol,Nat.zero_le _,by simp [hov,Ten.val],fun p=>by have:=hob p; simp only; omega,fun p _=>hob p⟩ 1 ?_ ?_ (by kernel_rfl)
  ·exact⟨by simp [STm2,natS,za],by simp [za],by kernel_rfl,Nat.zero_le _⟩
  rintro⟨⟨o2,j⟩,hol2,hjl,hov2,hob2,hob3⟩
  simp only at hol2 hjl hov2 hob2 hob3
  have e1:((i:Int)+(j:Int))=((i+j:Nat):Int):=by omega
  refine zb.run hmix zy [0,1,5,6,7,8] 400 (T:=.ite (decide ((↑j:Int)<m.length)) (.side (inR .i64 ((↑i:Int)+j)) (.side (inR .i64 ((↑i:Int)+j)) (.side ((0:Int)≤i+(↑j:Int)∧(↑i:Int)+j<(↑o2.length:Int)) (.side ((0:Int)≤i∧(↑i:Int)<l.length) (.side ((0:Int)≤j∧(↑j:Int)<m.length) (.side (inR .i64 ((↑(l.getD (↑i:Int).toNat 0):Int)*(↑(m.getD (↑j:Int).toNat 0):Int))) (.side (inR .i64 ((↑(o2.getD (0+Int.toNat ((↑i:Int)+j)) 0):Int)+(↑(l.getD (↑i:Int).toNat 0):Int)*(↑(m.getD (↑j:Int).toNat 0):Int))) (.side ((0:Int)≤i+(↑j:Int)∧(↑i:Int)+j<(↑o2.length:Int)) (.side (inR .i64 ((↑j:Int)+(1:Int))) (.leaf (.back 1 [(0,.sl l.length 1 (natG .i64 l)),(1,.sl m.length 1 (natG .i64 m)),(5,.osl 0 1 0 o2.length),(6,.int .i64 i),(7,.int .i64 ((↑j:Int)+(1:Int))),(8,.undef)] [.arr o2.length 1 (updG (natG .i64 o2) (0+Int.toNat ((↑i:Int)+j)) 0 [.int .i64 ((↑(o2.getD (0+Int.toNat ((↑i:Int)+j)) 0):Int)+(↑(l.getD (↑i:Int).toNat 0):Int)*(↑(m.getD (↑j:Int).toNat 0):Int))])]))))))))))) (.side (inR .i64 ((↑i:Int)+(1:Int))) (.leaf (.back 0 [(0,.sl l.length 1 (natG .i64 l)),(1,.sl m.length 1 (natG .i64 m)),(5,.osl 0 1 0 o2.length),(6,.int .i64 ((↑i:Int)+(1:Int))),(7,.int .i64 j),(8,.undef)] [.arr o2.length 1 (natG .i64 o2)])))) (by kernel_rfl) ?_
  simp only [Tree.holds,ze,inR,lo,hi,e1,Int.toNat_natCast,Nat.zero_add]
  have hx:l.getD i 0<10:=Ten.z9 hl i
  have hy:m.getD j 0<10:=Ten.z9 hm j
  have hxy:l.getD i 0*m.getD j 0≤9*9:=Nat.mul_le_mul (by omega) (by omega)
  have e3:(((l.getD i 0:Nat):Int))*((m.getD j 0:Nat):Int)=((l.getD i 0*m.getD j 0:Nat):Int):=by simp
  rw [e3]
  have hob3':=hob3 (i+j) (Nat.le_refl _)
  refine⟨fun hj=> ?_,fun hj=> ?_⟩
  ·have hj:j<m.length:=by have:=of_decide_eq_true hj; omega
   have hp:i+j<o2.length:=by omega
   have hcell:=zez (o:=o2) (i:=i) (j:=j) (V:=Ten.val (l.take i)*Ten.val m) (a:=l.getD i 0) (vt:=Ten.val (m.take j)) (b:=m.getD j 0) hp hov2
   have htk:=Ten.zm m j
   have hB:Ten.B=10:=rfl
   rw [hB] at htk
   rw [← htk] at hcell
   generalize hxyv:l.getD i 0*m.getD j 0=xy at *
   iterate 9 refine⟨by omega,fun _=> ?_⟩
   rw [if_pos trivial]
   refine⟨⟨(o2.set (i+j) (o2.getD (i+j) 0+xy),j+1),by simpa using hol2,hj,hcell,fun p=> ?_,fun p hp2=> ?_⟩,by show _ - (j+1)<_ - j; omega,by simp [STm2,natS,za],zcd (by omega) hp rfl,by kernel_rfl,Nat.zero_le _⟩
   ·show(o2.set _ _).getD p 0≤_
    rw [wV hp]
    split
    ·omega
    ·exact hob2 p
   ·have hp2:i+(j+1)≤p:=hp2
    show(o2.set _ _).getD p 0≤_
    rw [wV hp,if_neg (by omega)]
    exact hob3 p (by omega)
  ·have hj:j=m.length:=by have:=of_decide_eq_false hj; omega
   subst hj
   refine⟨by omega,fun _=> ?_⟩
   rw [if_neg (by decide),if_pos trivial]
   refine⟨⟨(o2,i+1),hol2,hlt,?_,fun p=>by have:=hob2 p; simp only; omega⟩,by show _ - (i+1)<_ - i; omega,by simp [STm,natS,za],by simp [za],by kernel_rfl,Nat.zero_le _⟩
   show Ten.val o2=Ten.val (l.take (i+1))*Ten.val m
   rw [List.take_length] at hov2
   have htk:=Ten.zm l i
   have hB:Ten.B=10:=rfl
   rw [hB] at htk
   rw [hov2,htk,Nat.add_mul,Nat.mul_assoc]
 ·have hge:i=l.length:=by have:=of_decide_eq_false hge; omega
  subst hge
  rw [List.take_length] at hov
  exact X5 l m o hl hm hll hml hl2 hm2 hol hov (fun p=>by have:=hob p; omega) hq _ _ ⟨by simp [STm3],by simp [za],by kernel_rfl,Nat.zero_le _⟩
theorem UZ(neg:Bool)(x:Nat):errI (qG neg x)=(wr neg x).2∧((wr neg x).2=0→qG neg x=(wr neg x).1):=by
 unfold qG wr
 by_cases h0:x=0
 ·rw [if_pos h0,if_pos h0]; exact⟨rfl,fun _=>rfl⟩
 ·rw [if_neg h0,if_neg h0]
  have e:errI (sgn neg (txt x))=if 1000<(dec x).length then 14 else 0:=by
   unfold errI
   rw [WQ h0]
   simp only [X4 h0,if_true]
   rw [y8 h0]
  by_cases h1:1000<(dec x).length
  ·rw [if_pos h1] at e ⊢
   exact⟨e,fun h=>(by cases h)⟩
  ·rw [if_neg h1] at e ⊢
   exact⟨e,fun _=>rfl⟩
theorem Zy{neg:Bool}{x:Nat}(h:room x):qG neg x=(wr neg x).1:=(UZ neg x).2 (kq h)
theorem zg3(neg:Bool)(x:Nat):(qG neg x).length≤1+(dec x).length:=by
 unfold qG
 by_cases h0:x=0
 ·rw [if_pos h0]; simp
 ·rw [if_neg h0]
  have:=zal neg (txt x)
  rw [y8 h0] at this
  omega
def zlh:Ctr:=ctrP true (fun p:List Nat×Bool=>[nat6 p.1,.bool p.2]) (fun p=>Ten.dig p.1∧p.1.length<2^31) (fun p r=>r=wr p.2 (Ten.val p.1)) (fun _ r=>(.tup [.str r.1,.int .i64 r.2],[]))
noncomputable def GRr:Nat→Option Ctr:=fun f=>if f=240 then some (Zu) else if f=249 then some (VC) else none
theorem zmh:∀ g c,GRr g=some c→zd Tryz.prog g c:=okIf uh (okIf W9 (zn))
theorem zkz:zd Tryz.prog 241 zlh:=by
 refine zh (fn:=Tryz.f241) (c:=Tryz.f241.body.getD .skip) rfl rfl rfl fun p hp O w0 Q hq=> ?_
 obtain⟨d,neg⟩:=p
 obtain⟨hd,hl⟩:=hp
 replace hq:=hq _ rfl
 simp only at hd hl hq
 refine zb.run hmix zmh [] 400 (T:=.ex (fun(x:List Nat×Bool)=>eqL [AV.sl d.length 1 (natG .i64 d),AV.bool neg] [AV.sl x.1.length 1 (natG .i64 x.1),AV.bool x.2]∧Ten.dig x.1∧x.1.length<1099511627776) fun n=>.all (fun(r:List UInt8)=>r=qG n.2 (Ten.val n.1)) fun n=>.ex (fun(x:List UInt8)=>eqL [AV.str n] [AV.str x]∧x.length<1099511627776) fun n_1=>.all (fun(r:Int)=>r=errI n_1) fun n_2=>.ite (!decide (n_2=0)) (.leaf (.ret [.str #[].toList,.int .i64 14] [])) (.leaf (.ret [.str n,.int .i64 0] []))) (by kernel_rfl) ?_
 simp only [Tree.holds,ze]
 have hlen:(dec (Ten.val d)).length≤d.length:=kM (by have:=Ten.zG hd; have hB:Ten.B=10:=rfl; rw [hB] at this; exact this)
 have htl:=zg3 neg (Ten.val d)
 obtain⟨t1,t2⟩:=UZ neg (Ten.val d)
 refine⟨(d,neg),⟨⟨⟨rfl,rfl,za _ _ _⟩,rfl,trivial⟩,hd,by show d.length<_; omega⟩,⟨_,rfl⟩,?_⟩
 rintro _ rfl
 refine⟨qG neg (Ten.val d),⟨by simp,by omega⟩,⟨_,rfl⟩,?_⟩
 intro e he
 rw [t1] at he
 refine⟨fun h=> ?_,fun h=> ?_⟩
 ·have h:e≠0:=by simpa using h
  rcases zi9 neg (Ten.val d) with g | g
  ·exact absurd (he.trans g) h
  ·rw [g] at hq
   exact RetR.scal hq rfl (by simp [resV])
 ·have h:e=0:=by simpa using h
  have g:(wr neg (Ten.val d)).2=0:=by rw [← he,h]
  have e2:wr neg (Ten.val d)=(qG neg (Ten.val d),0):=by rw [t2 g,← g]
  rw [e2] at hq
  exact RetR.scal hq rfl (by simp [resV])
def zlj:Ctr:=ctrP true (fun s:List UInt8=>[.str s]) (fun s=>errI s=0∧s.length<2^40) (fun s r=>r=(wz (-zI s)).1) (fun _ r=>(.str r,[]))
noncomputable def GRn:Nat→Option Ctr:=fun f=>if f=240 then some (Zu) else if f=201 then some (kn) else none
theorem zn7:∀ g c,GRn g=some c→zd Tryz.prog g c:=okIf uh (okIf kK (zn))
theorem zmg{s:List UInt8}(h:errI s=0):(wz (-zI s)).1=qG (!negI s) (numI s):=by
 rw [Zy (wQ h),zo6]
 congr 2
 unfold zI
 cases negI s<;>simp
theorem zk3:zd Tryz.prog 252 zlj:=by
 refine zh (fn:=Tryz.f252) (c:=Tryz.f252.body.getD .skip) rfl rfl rfl fun s hp O w0 Q hq=> ?_
 obtain⟨he,hl⟩:=hp
 replace hq:=hq _ rfl
 refine zb.run hmix zn7 [] 400 (T:=.ex (fun(x:List UInt8)=>eqL [AV.str s] [AV.str x]∧x.length<1099511627776) fun n=>.all (fun(r:List Nat×Bool×Bool)=>r=digR n) fun n=>.ex (fun(x:List Nat×Bool)=>eqL [AV.sl n.1.length 1 (natG .i64 n.1),AV.bool !Prod.fst n.2] [AV.sl x.1.length 1 (natG .i64 x.1),AV.bool x.2]∧Ten.dig x.1∧x.1.length<1099511627776) fun n=>.all (fun(r:List UInt8)=>r=qG n.2 (Ten.val n.1)) fun n=>.leaf (.ret [.str n] [])) (by kernel_rfl) ?_
 simp only [Tree.holds,ze]
 obtain⟨a1,a2,a3,a4⟩:=xk he
 rw [zmg he,← a4] at hq
 refine⟨s,⟨by simp,hl⟩,⟨_,rfl⟩,?_⟩
 rintro _ rfl
 rw [a1]
 refine⟨(dg (parse s).2,!(parse s).1),⟨⟨⟨rfl,rfl,za _ _ _⟩,rfl,trivial⟩,a2,by show(dg (parse s).2).length<_; omega⟩,⟨_,rfl⟩,?_⟩
 rintro _ rfl
 exact RetR.scal hq rfl (by simp [resV,negI])
noncomputable def GRa:Nat→Option Ctr:=fun f=>if f=237 then some (zay) else if f=201 then some (kn) else if f=257 then some (zgo) else if f=251 then some (K6) else if f=250 then some (uD) else if f=241 then some (zlh) else if f=242 then some (VD) else if f=238 then some (zfh) else if f=239 then some (XB) else if f=240 then some (Zu) else none
theorem zf8:∀ g c,GRa g=some c→zd Tryz.prog g c:=okIf V9 (okIf kK (okIf zi8 (okIf Vt (okIf yI (okIf zkz (okIf zci (okIf za1 (okIf zae (okIf uh (zn))))))))))
def zlc:Ctr:=ctrP true (fun p:List UInt8×List UInt8=>[.str p.1,.str p.2]) (fun p=>p.1.length<2^40∧p.2.length<2^40) (fun p r=>r=mulI p.1 p.2) (fun _ r=>(.tup [.str r.1,.int .i64 r.2],[]))
def rdmC:Ctr:=ctrP true (fun p:List UInt8×List UInt8=>[.str p.1,.str p.2]) (fun p=>p.1.length<2^40∧p.2.length<2^40) (fun p r=>r=dmI p.1 p.2) (fun _ r=>(.tup [.str r.1,.str r.2.1,.int .i64 r.2.2],[]))
theorem eqL2(a b:List Nat):eqL [AV.sl a.length 1 (natG .i64 a),AV.sl b.length 1 (natG .i64 b)] [nat6 a,nat6 b]:=⟨⟨rfl,rfl,za _ _ _⟩,⟨rfl,rfl,za _ _ _⟩,trivial⟩
theorem eqLb(a:List Nat)(b:Bool):eqL [AV.sl a.length 1 (natG .i64 a),.bool b] [nat6 a,.bool b]:=⟨⟨rfl,rfl,za _ _ _⟩,rfl,trivial⟩
theorem zgq{s:List UInt8}(h:errI s=0):0<(dg (parse s).2).length:=by
 obtain⟨_,_,h3,_⟩:=xL h
 rw [xn]
 exact List.length_pos_iff.2 h3
theorem zkd:zd Tryz.prog 218 zlc:=by
 refine zh (fn:=Tryz.f218) (c:=Tryz.f218.body.getD .skip) rfl rfl rfl fun p hp O w0 Q hq=> ?_
 obtain⟨s,t⟩:=p
 obtain⟨hs,ht⟩:=hp
 replace hq:=hq _ rfl
 simp only at hs ht hq
 refine zb.run hmix zf8 [] 400 (T:=.ex (fun(x:List UInt8×List UInt8)=>eqL [AV.str s,AV.str t] [AV.str x.1,AV.str x.2]∧x.1.length<1099511627776∧x.2.length<1099511627776) fun n=>.all (fun(r:Int)=>r=z0 n.1 n.2) fun n=>.ite (!decide (n=0)) (.leaf (.ret [.str #[].toList,.int .i64 n] [])) (.ex (fun(x:List UInt8)=>eqL [AV.str s] [AV.str x]∧x.length<1099511627776) fun n=>.all (fun(r:List Nat×Bool×Bool)=>r=digR n) fun n=>.ex (fun(x:List UInt8)=>eqL [AV.str t] [AV.str x]∧x.length<1099511627776) fun n_1=>.all (fun(r:List Nat×Bool×Bool)=>r=digR n_1) fun n_2=>.ex (fun(x:List Nat×List Nat)=>eqL [AV.sl n.1.length 1 (natG .i64 n.1),AV.sl n_2.1.length 1 (natG .i64 n_2.1)] [AV.sl x.1.length 1 (natG .i64 x.1),AV.sl x.2.length 1 (natG .i64 x.2)]∧Ten.dig x.1∧Ten.dig x.2∧0<x.1.length∧0<x.2.length∧x.1.length<1073741824∧x.2.length<1073741824) fun n_3=>.all (Kq n_3) fun n_4=>.ex (fun(x:List Nat×Bool)=>eqL [AV.sl n_4.length 1 (natG .i64 n_4),AV.bool !Prod.fst n.2 == n_2.2.1] [AV.sl x.1.length 1 (natG .i64 x.1),AV.bool x.2]∧Ten.dig x.1∧x.1.length<2147483648) fun n=>.all (fun(r:List UInt8×Int)=>r=wr n.2 (Ten.val n.1)) fun n=>.leaf (.ret [.str n.1,.int .i64 n.2] []))) (by kernel_rfl) ?_
 simp only [Tree.holds,ze]
 refine⟨(s,t),⟨by simp,hs,ht⟩,⟨_,rfl⟩,?_⟩
 rintro _ rfl
 simp only
 refine⟨fun he=> ?_,fun he=> ?_⟩
 ·have he:z0 s t≠0:=by
   intro h; simp [h] at he
  have e:mulI s t=([],z0 s t):=if_neg he
  rw [e] at hq
  exact RetR.scal hq rfl (by simp [resV])
 have he:z0 s t=0:=by
  refine Decidable.byContradiction fun h=> ?_
  simp [h] at he
 obtain⟨h1,h2⟩:=zM.1 he
 have e:mulI s t=wr (negI s != negI t) (numI s*numI t):=if_pos he
 rw [e] at hq
 refine⟨s,⟨by simp,hs⟩,⟨_,rfl⟩,?_⟩
 rintro _ rfl
 refine⟨t,⟨by simp,ht⟩,⟨_,rfl⟩,?_⟩
 rintro _ rfl
 obtain⟨a1,a2,a3,a4⟩:=xk h1
 obtain⟨b1,b2,b3,b4⟩:=xk h2
 have a5:=zgq h1
 have b5:=zgq h2
 rw [a1,b1]
 have ea:(parse s).1=negI s:=rfl
 have eb:(parse t).1=negI t:=rfl
 simp only [ea,eb]
 rw [← a4,← b4] at hq
 generalize dg (parse s).2=x at *
 generalize dg (parse t).2=y at *
 refine⟨(x,y),⟨eqL2 x y,a2,b2,a5,b5,by show x.length<_; omega,by show y.length<_; omega⟩,zfi a2 b2,?_⟩
 rintro z ⟨g1,g2,g3⟩
 simp only at g1 g3
 refine⟨(z,negI s != negI t),⟨eqLb z _,g2,by show z.length<_; omega⟩,⟨_,rfl⟩,?_⟩
 rintro _ rfl
 rw [← g3] at hq
 exact RetR.scal hq rfl (by simp [resV])
theorem zmr:zd Tryz.prog 253 rdmC:=by
 refine zh (fn:=Tryz.f253) (c:=Tryz.f253.body.getD .skip) rfl rfl rfl fun p hp O w0 Q hq=> ?_
 obtain⟨s,t⟩:=p
 obtain⟨hs,ht⟩:=hp
 replace hq:=hq _ rfl
 simp only at hs ht hq
 refine zb.run hmix zf8 [] 400 (T:=.ex (fun(x:List UInt8×List UInt8)=>eqL [AV.str s,AV.str t] [AV.str x.1,AV.str x.2]∧x.1.length<1099511627776∧x.2.length<1099511627776) fun n=>.all (fun(r:Int)=>r=z0 n.1 n.2) fun n=>.ite (!decide (n=0)) (.leaf (.ret [.str #[].toList,.str #[].toList,.int .i64 n] [])) (.ex (fun(x:List UInt8)=>eqL [AV.str s] [AV.str x]∧x.length<1099511627776) fun n=>.all (fun(r:List Nat×Bool×Bool)=>r=digR n) fun n=>.ex (fun(x:List UInt8)=>eqL [AV.str t] [AV.str x]∧x.length<1099511627776) fun n_1=>.all (fun(r:List Nat×Bool×Bool)=>r=digR n_1) fun n_2=>.ex (fun(x:List Nat)=>eqL [AV.sl n_2.1.length 1 (natG .i64 n_2.1)] [AV.sl x.length 1 (natG .i64 x)]∧Ten.dig x∧x.length<4611686018427387904) fun n_3=>.all (fun(r:Bool)=>r=decide (Ten.val n_3=0)) fun n_4=>.ite n_4 (.leaf (.ret [.str #[].toList,.str #[].toList,.int .i64 16] [])) (.ex (fun(x:List Nat×List Nat)=>eqL [AV.sl n.1.length 1 (natG .i64 n.1),AV.sl n_2.1.length 1 (natG .i64 n_2.1)] [AV.sl x.1.length 1 (natG .i64 x.1),AV.sl x.2.length 1 (natG .i64 x.2)]∧Ten.dig x.1∧Ten.dig x.2∧x.1.length<274877906944∧x.2.length<274877906944∧0<Ten.val x.2) fun n_5=>.all (fun(r:List Nat×List Nat)=>r.1.length=n_5.1.length∧Ten.dig r.1∧Ten.val r.1=Ten.val n_5.1/Ten.val n_5.2∧r.2.length≤n_5.1.length∧Ten.dig r.2∧Ten.val r.2=Ten.val n_5.1%Ten.val n_5.2) fun n_6=>.ex (fun(x:List Nat)=>n.2.1=true→eqL [AV.sl n_6.2.length 1 (natG .i64 n_6.2)] [AV.sl x.length 1 (natG .i64 x)]∧Ten.dig x∧x.length<4611686018427387904) fun n_7=>.all (fun(x:Bool)=>n.2.1=true→x=decide (Ten.val n_7=0)) fun n_8=>.ite (bif n.2.1 then !n_8 else false) (.ex (fun(x:List Nat×List Nat)=>eqL [AV.sl n_6.1.length 1 (natG .i64 n_6.1),AV.sl 1 1 (zj (zi 1 [AV.int .i64 1]) 0)] [AV.sl x.1.length 1 (natG .i64 x.1),AV.sl x.2.length 1 (natG .i64 x.2)]∧Ten.dig x.1∧Ten.dig x.2∧x.1.length<1073741824∧x.2.length<1073741824) fun n_9=>.all (ze9 n_9) fun n_10=>.ex (fun(x:List Nat×List Nat)=>eqL [AV.sl n_2.1.length 1 (natG .i64 n_2.1),AV.sl n_6.2.length 1 (natG .i64 n_6.2)] [AV.sl x.1.length 1 (natG .i64 x.1),AV.sl x.2.length 1 (natG .i64 x.2)]∧Ten.dig x.1∧Ten.dig x.2∧x.1.length<1099511627776∧Ten.val x.2≤Ten.val x.1) fun n_11=>.all (fun(r:List Nat)=>r.length=n_11.1.length∧Ten.dig r∧Ten.val r+Ten.val n_11.2=Ten.val n_11.1) fun n_12=>.ex (fun(x:List Nat×Bool)=>eqL [AV.sl n_10.length 1 (natG .i64 n_10),AV.bool !Prod.fst n.2 == n_2.2.1] [AV.sl x.1.length 1 (natG .i64 x.1),AV.bool x.2]∧Ten.dig x.1∧x.1.length<1099511627776) fun n=>.all (fun(r:List UInt8)=>r=qG n.2 (Ten.val n.1)) fun n=>.ex (fun(x:List Nat×Bool)=>eqL [AV.sl n_12.length 1 (natG .i64 n_12),AV.bool false] [AV.sl x.1.length 1 (natG .i64 x.1),AV.bool x.2]∧Ten.dig x.1∧x.1.length<1099511627776) fun n_13=>.all (fun(r:List UInt8)=>r=qG n_13.2 (Ten.val n_13.1)) fun n_14=>.leaf (.ret [.str n,.str n_14,.int .i64 0] [.arr 1 1 (zi 1 [.int .i64 1])])) (.ex (fun(x:List Nat×Bool)=>eqL [AV.sl n_6.1.length 1 (natG .i64 n_6.1),AV.bool !Prod.fst n.2 == n_2.2.1] [AV.sl x.1.length 1 (natG .i64 x.1),AV.bool x.2]∧Ten.dig x.1∧x.1.length<1099511627776) fun n=>.all (fun(r:List UInt8)=>r=qG n.2 (Ten.val n.1)) fun n=>.ex (fun(x:List Nat×Bool)=>eqL [AV.sl n_6.2.length 1 (natG .i64 n_6.2),AV.bool false] [AV.sl x.1.length 1 (natG .i64 x.1),AV.bool x.2]∧Ten.dig x.1∧x.1.length<1099511627776) fun n_9=>.all (fun(r:List UInt8)=>r=qG n_9.2 (Ten.val n_9.1)) fun n_10=>.leaf (.ret [.str n,.str n_10,.int .i64 0] []))))) (by kernel_rfl) ?_
 simp only [Tree.holds,ze]
 refine⟨(s,t),⟨by simp,hs,ht⟩,⟨_,rfl⟩,?_⟩
 rintro _ rfl
 simp only
 refine⟨fun he=> ?_,fun he=> ?_⟩
 ·have he:z0 s t≠0:=by
   intro h; simp [h] at he
  have e:dmI s t=([],[],z0 s t):=if_pos he
  rw [e] at hq
  exact RetR.scal hq rfl (by simp [resV])
 have he:z0 s t=0:=by
  refine Decidable.byContradiction fun h=> ?_
  simp [h] at he
 obtain⟨h1,h2⟩:=zM.1 he
 refine⟨s,⟨by simp,hs⟩,⟨_,rfl⟩,?_⟩
 rintro _ rfl
 refine⟨t,⟨by simp,ht⟩,⟨_,rfl⟩,?_⟩
 rintro _ rfl
 obtain⟨a1,a2,a3,a4⟩:=xk h1
 obtain⟨b1,b2,b3,b4⟩:=xk h2
 rw [a1,b1]
 have ea:(parse s).1=negI s:=rfl
 have eb:(parse t).1=negI t:=rfl
 simp only [ea,eb]
 generalize dg (parse s).2=x at *
 generalize dg (parse t).2=y at *
 refine⟨y,⟨⟨⟨rfl,rfl,za _ _ _⟩,trivial⟩,b2,by omega⟩,⟨_,rfl⟩,?_⟩
 rintro _ rfl
 refine⟨fun h0=> ?_,fun h0=> ?_⟩
 ·have h0:Ten.val y=0:=of_decide_eq_true h0
  have e:dmI s t=([],[],16):=by rw [dmI,if_neg (by rw [he]; decide),if_pos (by rw [← b4]; exact h0)]
  rw [e] at hq
  exact RetR.scal hq rfl (by simp [resV])
 have h0:Ten.val y≠0:=of_decide_eq_false h0
 have h0':numI t≠0:=by rw [← b4]; exact h0
 have e:dmI s t=((wr (negI s != negI t) (dmQ s t)).1,(wr false (dmM s t)).1,0):=by rw [dmI,if_neg (by rw [he]; decide),if_neg h0']
 rw [e] at hq
 have rq:=Xu h1 h0'
 have rm:=XV (s:=s) h2 h0'
 have hlt:=Nat.mod_lt (Ten.val x) (Nat.pos_of_ne_zero h0)
 have hex:∃ r,zau (x,y) r:=by
  obtain⟨g1,g2,g3⟩:=Q0 a2 (Nat.div_le_self (Ten.val x) (Ten.val y))
  obtain⟨g4,g5,g6⟩:=Q0 a2 (Nat.mod_le (Ten.val x) (Ten.val y))
  exact⟨(_,_),g1,g2,g3,Nat.le_of_eq g4,g5,g6⟩
 refine⟨(x,y),⟨eqL2 x y,a2,b2,by show x.length<_; omega,by show y.length<_; omega,Nat.pos_of_ne_zero h0⟩,hex,?_⟩
 rintro⟨q,r⟩ ⟨g1,g2,g3,g4,g5,g6⟩
 simp only at g1 g2 g3 g4 g5 g6
 have fin:∀ u v:List Nat,Ten.val u=dmQ s t→Ten.val v=dmM s t→∀ U V:List UInt8,U=qG (negI s != negI t) (Ten.val u)→V=qG false (Ten.val v)→∀ h:Heap,RetR rdmC 0 Q [.str U,.str V,.int .i64 0] h:=by
  rintro u v hu hv _ _ rfl rfl h
  rw [← hu] at hq rq
  rw [← hv] at hq rm
  rw [← Zy rq,← Zy rm] at hq
  exact RetR.scal hq rfl (by simp [resV])
 have hq1:Ten.val q=numI s/numI t:=by rw [g3,a4,b4]
 have hr1:Ten.val r=numI s%numI t:=by rw [g6,a4,b4]
 refine⟨r,fun _=>⟨⟨⟨rfl,rfl,za _ _ _⟩,trivial⟩,g5,by omega⟩,⟨_,fun _=>rfl⟩,?_⟩
 intro z hz
 refine⟨fun hc=> ?_,fun hc=> ?_⟩
 ·have hm:negI s=true:=by
   cases hn:negI s with
   | true=>rfl
   | false=>rw [hn] at hc; cases hc
  have hz:=hz hm
  rw [hm] at hc
  have hc:z=false:=by simpa using hc
  rw [hc] at hz
  have hr0:Ten.val r≠0:=of_decide_eq_false hz.symm
  have hcond:negI s=true∧0<numI s%numI t:=⟨hm,by omega⟩
  have eQ:dmQ s t=numI s/numI t+1:=if_pos hcond
  have eM:dmM s t=numI t - numI s%numI t:=if_pos hcond
  have h1d:Ten.dig [1]:=fun d hd=>by
   have:d=1:=by simpa using hd
   rw [this]; decide
  refine⟨(q,[1]),⟨⟨⟨rfl,rfl,za _ _ _⟩,⟨rfl,rfl,?_⟩,trivial⟩,g2,h1d,by show q.length<_; omega,by show 1<1073741824; decide⟩,zjl g2 h1d,?_⟩
  ·intro j o hj ho
   have:j=0:=by omega
   subst this
   have:o=0:=by omega
   subst this
   rfl
  rintro u ⟨u1,u2,u3⟩
  simp only at u1 u3
  have hle:Ten.val r≤Ten.val y:=by omega
  refine⟨(y,r),⟨eqL2 y r,b2,g5,by show y.length<_; omega,hle⟩,KN b2 hle,?_⟩
  rintro v ⟨v1,v2,v3⟩
  simp only at v1 v3
  have hone:Ten.val [1]=1:=rfl
  refine⟨(u,negI s != negI t),⟨eqLb u _,u2,by simp only [u1]; show max q.length 1+1<_; omega⟩,⟨_,rfl⟩,?_⟩
  intro U hU
  refine⟨(v,false),⟨eqLb v _,v2,by simp only; omega⟩,⟨_,rfl⟩,?_⟩
  intro V hV
  exact fin u v (by rw [u3,hone,hq1,eQ]) (by rw [eM]; omega) U V hU hV _
 ·have hcond:¬ (negI s=true∧0<numI s%numI t):=by
   rintro⟨hm,h5⟩
   have hz:=hz hm
   rw [hm] at hc
   have hc:z=true:=by simpa using hc
   rw [hc] at hz
   have:Ten.val r=0:=of_decide_eq_true hz.symm
   omega
  have eQ:dmQ s t=numI s/numI t:=if_neg hcond
  have eM:dmM s t=numI s%numI t:=if_neg hcond
  refine⟨(q,negI s != negI t),⟨eqLb q _,g2,by simp only; omega⟩,⟨_,rfl⟩,?_⟩
  intro U hU
  refine⟨(r,false),⟨eqLb r _,g5,by simp only; omega⟩,⟨_,rfl⟩,?_⟩
  intro V hV
  exact fin q r (by rw [hq1,eQ]) (by rw [hr1,eM]) U V hU hV _
def K8:Ctr:=ctrP true (fun p:List UInt8×List UInt8=>[.str p.1,.str p.2]) (fun p=>p.1.length<2^40∧p.2.length<2^40) (fun p r=>r=jz p.1 p.2) (fun _ r=>(.tup [.str r.1,.int .i64 r.2],[]))
noncomputable def GRm:Nat→Option Ctr:=fun f=>if f=237 then some (zay) else if f=252 then some (zlj) else if f=203 then some (zf7) else if f=253 then some (rdmC) else none
theorem zmm:∀ g c,GRm g=some c→zd Tryz.prog g c:=okIf V9 (okIf zk3 (okIf zb3 (okIf zmr (zn))))
theorem zg4(z:Int):(wz z).1.length≤1001:=wv _ _
theorem zg9:zd Tryz.prog 243 K8:=by
 refine zh (fn:=Tryz.f243) (c:=Tryz.f243.body.getD .skip) rfl rfl rfl fun p hp O w0 Q hq=> ?_
 obtain⟨s,t⟩:=p
 obtain⟨hs,ht⟩:=hp
 replace hq:=hq _ rfl
 simp only at hs ht hq
 refine zb.run hmix zmm [] 400 (T:=.ex (fun(x:List UInt8×List UInt8)=>eqL [AV.str s,AV.str t] [AV.str x.1,AV.str x.2]∧x.1.length<1099511627776∧x.2.length<1099511627776) fun n=>.all (fun(r:Int)=>r=z0 n.1 n.2) fun n=>.ite (!decide (n=0)) (.leaf (.ret [.str #[].toList,.int .i64 n] [])) (.ite (decide (t=#[(48:UInt8)].toList)) (.leaf (.ret [.str #[].toList,.int .i64 16] [])) (.side ((0:Int)≤0∧(0:Int)<t.length) (.ite (decide ((↑(UInt8.toNat (t.getD 0 (0:UInt8))):Int)=45)) (.ex (fun(x:List UInt8)=>eqL [AV.str s] [AV.str x]∧errI x=0∧x.length<1099511627776) fun n=>.all (fun(r:List UInt8)=>r=Prod.fst (wz (-zI n))) fun n=>.ex (fun(x:List UInt8)=>eqL [AV.str t] [AV.str x]∧errI x=0∧x.length<1099511627776) fun n_1=>.all (fun(r:List UInt8)=>r=Prod.fst (wz (-zI n_1))) fun n_2=>.ex (fun(x:List UInt8×List UInt8)=>eqL [AV.str n,AV.str n_2] [AV.str x.1,AV.str x.2]∧x.1.length<1099511627776∧x.2.length<1099511627776) fun n_3=>.all (fun(r:List UInt8×Int)=>r=gcdR n_3.1 n_3.2) fun n_4=>.ex (fun(x:List UInt8×List UInt8)=>eqL [AV.str n,AV.str n_4.1] [AV.str x.1,AV.str x.2]∧x.1.length<1099511627776∧x.2.length<1099511627776) fun n=>.all (fun(r:List UInt8×List UInt8×Int)=>r=dmI n.1 n.2) fun n=>.ex (fun(x:List UInt8×List UInt8)=>eqL [AV.str n_2,AV.str n_4.1] [AV.str x.1,AV.str x.2]∧x.1.length<1099511627776∧x.2.length<1099511627776) fun n_5=>.all (fun(r:List UInt8×List UInt8×Int)=>r=dmI n_5.1 n_5.2) fun n_6=>.ite (decide (n_6.1=#[(49:UInt8)].toList)) (.leaf (.ret [.str n.1,.int .i64 0] [])) (.side (n.1.length+1≤9223372036854775807) (.side (List.length (n.1++#[(47:UInt8)].toList)+n_6.1.length≤9223372036854775807) (.leaf (.ret [.str (n.1++#[(47:UInt8)].toList++n_6.1),.int .i64 0] []))))) (.ex (fun(x:List UInt8×List UInt8)=>eqL [AV.str s,AV.str t] [AV.str x.1,AV.str x.2]∧x.1.length<1099511627776∧x.2.length<1099511627776) fun n=>.all (fun(r:List UInt8×Int)=>r=gcdR n.1 n.2) fun n=>.ex (fun(x:List UInt8×List UInt8)=>eqL [AV.str s,AV.str n.1] [AV.str x.1,AV.str x.2]∧x.1.length<1099511627776∧x.2.length<1099511627776) fun n_1=>.all (fun(r:List UInt8×List UInt8×Int)=>r=dmI n_1.1 n_1.2) fun n_2=>.ex (fun(x:List UInt8×List UInt8)=>eqL [AV.str t,AV.str n.1] [AV.str x.1,AV.str x.2]∧x.1.length<1099511627776∧x.2.length<1099511627776) fun n=>.all (fun(r:List UInt8×List UInt8×Int)=>r=dmI n.1 n.2) fun n=>.ite (decide (n.1=#[(49:UInt8)].toList)) (.leaf (.ret [.str n_2.1,.int .i64 0] [])) (.side (n_2.1.length+1≤9223372036854775807) (.side (List.length (n_2.1++#[(47:UInt8)].toList)+n.1.length≤9223372036854775807) (.leaf (.ret [.str (n_2.1++#[(47:UInt8)].toList++n.1),.int .i64 0] []))))))))) (by kernel_rfl) ?_
 simp only [Tree.holds,ze,inR,lo,hi,Int.toNat_natCast]
 refine⟨(s,t),⟨by simp,hs,ht⟩,⟨_,rfl⟩,?_⟩
 rintro _ rfl
 simp only
 refine⟨fun he=> ?_,fun he=> ?_⟩
 ·have he:z0 s t≠0:=by
   intro h; simp [h] at he
  have e:jz s t=([],z0 s t):=if_pos he
  rw [e] at hq
  exact RetR.scal hq rfl (by simp [resV])
 have he:z0 s t=0:=by
  refine Decidable.byContradiction fun h=> ?_
  simp [h] at he
 obtain⟨h1,h2⟩:=zM.1 he
 refine⟨fun h0=> ?_,fun h0=> ?_⟩
 ·have h0:t=[48]:=by simpa using h0
  have e:jz s t=([],16):=by rw [jz,if_neg (by rw [he]; decide),if_pos ((k7 h2).1 h0)]
  rw [e] at hq
  exact RetR.scal hq rfl (by simp [resV])
 have ht0:t≠[48]:=fun h=>of_decide_eq_false h0 h
 have hn0:numI t≠0:=fun h=>ht0 ((k7 h2).2 h)
 have htn:t≠[]:=by rintro rfl; simp [JV] at h2
 have hneg:=Zq htn
 have e:jz s t=(Js (negI s != negI t) (numI s) (numI t),0):=by rw [jz,if_neg (by rw [he]; decide),if_neg hn0]
 rw [e,Js] at hq
 obtain⟨g0,gr⟩:=XQ (s:=s) h2 hn0
 have ds:Nat.gcd (numI s) (numI t) ∣ numI s:=Nat.gcd_dvd_left _ _
 have dt:Nat.gcd (numI s) (numI t) ∣ numI t:=Nat.gcd_dvd_right _ _
 have fin:∀ u v:List UInt8,errI u=0→errI v=0→numI u=numI s→numI v=numI t→negI v=false→(numI s≠0→negI u=(negI s != negI t))→u.length<2^40→v.length<2^40 →
   ∃ n:List UInt8×List UInt8,(eqL [AV.str u,AV.str v] [AV.str n.1,AV.str n.2]∧n.1.length<1099511627776∧n.2.length<1099511627776)∧(∃ r,r=gcdR n.1 n.2)∧∀ r:List UInt8×Int,r=gcdR n.1 n.2 →
    ∃ n:List UInt8×List UInt8,(eqL [AV.str u,AV.str r.1] [AV.str n.1,AV.str n.2]∧n.1.length<1099511627776∧n.2.length<1099511627776)∧(∃ r,r=dmI n.1 n.2)∧∀ z:List UInt8×List UInt8×Int,z=dmI n.1 n.2 →
     ∃ n:List UInt8×List UInt8,(eqL [AV.str v,AV.str r.1] [AV.str n.1,AV.str n.2]∧n.1.length<1099511627776∧n.2.length<1099511627776)∧(∃ r,r=dmI n.1 n.2)∧∀ w:List UInt8×List UInt8×Int,w=dmI n.1 n.2 →
      (decide (w.1=[49])=true→RetR K8 0 Q [.str z.1,.int .i64 0] [])∧(decide (w.1=[49])=false→z.1.length+1≤9223372036854775807∧(z.1.length+1≤9223372036854775807→(z.1++[47]).length+w.1.length≤9223372036854775807∧((z.1++[47]).length+w.1.length≤9223372036854775807→RetR K8 0 Q [.str (z.1++[47]++w.1),.int .i64 0] []))):=by
  intro u v eu ev nu nv sv su lu lv
  refine⟨(u,v),⟨⟨rfl,rfl,trivial⟩,by simpa using lu,by simpa using lv⟩,⟨_,rfl⟩,?_⟩
  rintro _ rfl
  have eg:gcdR u v=wr false (Nat.gcd (numI s) (numI t)):=by rw [gcdR,if_pos (zM.2 ⟨eu,ev⟩),nu,nv]
  rw [eg]
  generalize Nat.gcd (numI s) (numI t)=g at *
  have l1:=wv false g
  refine⟨(u,(wr false g).1),⟨⟨rfl,rfl,trivial⟩,by simpa using lu,by simp only; omega⟩,⟨_,rfl⟩,?_⟩
  rintro _ rfl
  refine⟨(v,(wr false g).1),⟨⟨rfl,rfl,trivial⟩,by simpa using lv,by simp only; omega⟩,⟨_,rfl⟩,?_⟩
  rintro _ rfl
  rw [uy eu g0 gr (by rw [nu]; exact ds),uy ev g0 gr (by rw [nv]; exact dt),nu,nv,sv]
  simp only
  have hb:(negI u != false)=negI u:=by cases negI u<;>rfl
  have hb2:(false != false)=false:=rfl
  rw [hb,hb2]
  have hw:wr (negI u) (numI s/g)=wr (negI s != negI t) (numI s/g):=K3 fun h=>su fun h5=>h (by rw [h5,Nat.zero_div])
  rw [hw]
  have rt:=room_le (Nat.div_le_self (numI t) g) (wQ h2)
  have k1:=wv (negI s != negI t) (numI s/g)
  have k2:=wv false (numI t/g)
  refine⟨fun h=> ?_,fun h=>⟨by omega,fun _=>⟨by simp<;>omega,fun _=> ?_⟩⟩⟩
  ·have h1:=(Kt rt).1 (of_decide_eq_true h)
   rw [if_pos h1] at hq
   exact RetR.scal hq rfl (by simp [resV])
  ·have h1:¬ numI t/g=1:=fun h1=>of_decide_eq_false h ((Kt rt).2 h1)
   rw [if_neg h1] at hq
   exact RetR.scal hq rfl (by simp [resV])
 have lt0:=List.length_pos_iff.2 htn
 refine⟨⟨by omega,by omega⟩,fun _=>⟨fun hb=> ?_,fun hb=> ?_⟩⟩
 ·have hn:negI t=true:=by
   rw [hneg,decide_eq_true_eq]
   exact uS (of_decide_eq_true hb)
  refine⟨s,⟨by simp,h1,hs⟩,⟨_,rfl⟩,?_⟩
  rintro _ rfl
  refine⟨t,⟨by simp,h2,ht⟩,⟨_,rfl⟩,?_⟩
  rintro _ rfl
  have zs:(wz (-zI s)).2=0:=by rw [QH,zb7 h1]
  have zt:(wz (-zI t)).2=0:=by rw [QH,zb7 h2]
  have ws:=zg4 (-zI s)
  have wt:=zg4 (-zI t)
  have es:=zla zs
  have et:=zla zt
  refine fin _ _ es et (by rw [← Z5,za0 zs,Int.natAbs_neg,Z5]) (by rw [← Z5,za0 zt,Int.natAbs_neg,Z5]) ?_ (fun h=> ?_) (by omega) (by omega)
  ·rw [We et,za0 zt]
   have:zI t<0:=by have:=We h2; rw [hn] at this; exact of_decide_eq_true this.symm
   exact decide_eq_false (by omega)
  ·rw [We es,za0 zs,hn]
   have ha:=Z5 s
   have hs2:=We h1
   cases hm:negI s with
   | true=>rw [hm] at hs2; have:=of_decide_eq_true hs2.symm; exact decide_eq_false (by omega)
   | false=>rw [hm] at hs2; have:=of_decide_eq_false hs2.symm; exact decide_eq_true (by omega)
 ·have hn:negI t=false:=by
   rw [hneg,decide_eq_false_iff_not]
   intro h
   apply of_decide_eq_false hb
   rw [h]; rfl
  exact fin s t h1 h2 rfl rfl hn (fun _=>by rw [hn]; cases negI s<;>rfl) hs ht
structure Q4 where
 n:List UInt8
 d:List UInt8
 m:List UInt8
 c:List UInt8
 e:Int
def zab(a b:List UInt8):Q4:=if wT a b≠0 then⟨[],[],[],[],wT a b⟩ else⟨numR a,denR a,numR b,denR b,0⟩
def zij:Ctr:=ctrP true (fun p:List UInt8×List UInt8=>[.str p.1,.str p.2]) (fun p=>p.1.length<2^40∧p.2.length<2^40) (fun p r=>r=zab p.1 p.2) (fun _ (r:Q4)=>(.tup [.str r.n,.str r.d,.str r.m,.str r.c,.int .i64 r.e],[]))
noncomputable def GRf:Nat→Option Ctr:=fun f=>if f=116 then some (yi) else if f=200 then some (JN) else none
theorem zmd:∀ g c,GRf g=some c→zd Tryz.prog g c:=okIf xv (okIf JO (zn))
theorem zil:zd Tryz.prog 217 zij:=by
 refine zh (fn:=Tryz.f217) (c:=Tryz.f217.body.getD .skip) rfl rfl rfl fun p hp O w0 Q hq=> ?_
 obtain⟨a,b⟩:=p
 obtain⟨ha,hb⟩:=hp
 replace hq:=hq _ rfl
 simp only at ha hb hq
 unfold zab wT at hq
 refine zb.run hmix zmd [] 400 (T:=.ex (fun(x:List UInt8)=>eqL [AV.str a] [AV.str x]∧x.length<1099511627776) fun n=>.all (fun(r:Int)=>r=errR n) fun n=>.ite (!decide (n=0)) (.ex (fun(x:List UInt8)=>eqL [AV.str a] [AV.str x]∧x.length<1099511627776) fun n=>.all (fun(r:Int)=>r=errR n) fun n=>.leaf (.ret [.str #[].toList,.str #[].toList,.str #[].toList,.str #[].toList,.int .i64 n] [])) (.ex (fun(x:List UInt8)=>eqL [AV.str b] [AV.str x]∧x.length<1099511627776) fun n=>.all (fun(r:Int)=>r=errR n) fun n=>.ite (!decide (n=0)) (.ex (fun(x:List UInt8)=>eqL [AV.str b] [AV.str x]∧x.length<1099511627776) fun n=>.all (fun(r:Int)=>r=errR n) fun n=>.leaf (.ret [.str #[].toList,.str #[].toList,.str #[].toList,.str #[].toList,.int .i64 n] [])) (.ex (fun(x:List UInt8)=>eqL [AV.str a] [AV.str x]∧x.length<4611686018427387904) fun n=>.all (fun(r:List UInt8×List UInt8)=>r=(Prod.fst (cutR n),if Prod.snd (Prod.snd (cutR n))=true then Prod.fst (Prod.snd (cutR n)) else [(49:UInt8)])) fun n=>.ex (fun(x:List UInt8)=>eqL [AV.str b] [AV.str x]∧x.length<4611686018427387904) fun n_1=>.all (fun(r:List UInt8×List UInt8)=>r=(Prod.fst (cutR n_1),if Prod.snd (Prod.snd (cutR n_1))=true then Prod.fst (Prod.snd (cutR n_1)) else [(49:UInt8)])) fun n_2=>.leaf (.ret [.str n.1,.str n.2,.str n_2.1,.str n_2.2,.int .i64 0] [])))) (by kernel_rfl) ?_
 simp only [Tree.holds,ze]
 refine⟨a,⟨by simp,ha⟩,⟨_,rfl⟩,?_⟩
 rintro _ rfl
 refine⟨fun h=> ?_,fun h=>⟨b,⟨by simp,hb⟩,⟨_,rfl⟩,?_⟩⟩
 ·have h:errR a≠0:=by simpa using h
  rw [if_neg h,if_pos h] at hq
  refine⟨a,⟨by simp,ha⟩,⟨_,rfl⟩,?_⟩
  rintro _ rfl
  exact RetR.scal hq rfl (by simp [resV])
 ·have h:errR a=0:=by simpa using h
  rw [if_pos h] at hq
  rintro _ rfl
  refine⟨fun g=> ?_,fun g=>⟨a,⟨by simp,by show a.length<_; omega⟩,⟨_,rfl⟩,?_⟩⟩
  ·have g:errR b≠0:=by simpa using g
   rw [if_pos g] at hq
   refine⟨b,⟨by simp,hb⟩,⟨_,rfl⟩,?_⟩
   rintro _ rfl
   exact RetR.scal hq rfl (by simp [resV])
  ·have g:errR b=0:=by simpa using g
   rw [if_neg (by rw [g]; simp)] at hq
   rintro _ rfl
   refine⟨b,⟨by simp,by show b.length<_; omega⟩,⟨_,rfl⟩,?_⟩
   rintro _ rfl
   exact RetR.scal hq rfl (by simp [resV,numR,denR])
structure QF where
 n:List UInt8
 d:List UInt8
 e:Int
 f:Int
def zf2:Ctr:=ctrP true (fun k:QF=>[.str k.n,.str k.d,.int .i64 k.e,.int .i64 k.f]) (fun k=>k.n.length<2^40∧k.d.length<2^40) (fun k r=>r=frac (k.n,k.e) (k.d,k.f)) (fun _ r=>(.tup [.str r.1,.int .i64 r.2],[]))
noncomputable def GRg:Nat→Option Ctr:=fun f=>if f=243 then some (K8) else none
theorem zmn:∀ g c,GRg g=some c→zd Tryz.prog g c:=okIf zg9 (zn)
theorem zge:zd Tryz.prog 219 zf2:=by
 refine zh (fn:=Tryz.f219) (c:=Tryz.f219.body.getD .skip) rfl rfl rfl fun k hk O w0 Q hq=> ?_
 obtain⟨n,d,e,f⟩:=k
 obtain⟨hn,hd⟩:=hk
 replace hq:=hq _ rfl
 simp only at hn hd hq
 unfold frac at hq
 refine zb.run hmix zmn [] 400 (T:=.ite (bif !decide (e=0) then true else !decide (f=0)) (.leaf (.ret [.str #[].toList,.int .i64 14] [])) (.ex (fun(x:List UInt8×List UInt8)=>eqL [AV.str n,AV.str d] [AV.str x.1,AV.str x.2]∧x.1.length<1099511627776∧x.2.length<1099511627776) fun n=>.all (fun(r:List UInt8×Int)=>r=jz n.1 n.2) fun n=>.leaf (.ret [.str n.1,.int .i64 n.2] []))) (by kernel_rfl) ?_
 simp only [Tree.holds,ze]
 by_cases h:e≠0∨f≠0
 ·rw [if_pos h] at hq
  refine⟨fun _=>RetR.scal hq rfl (by simp [resV]),fun g=> ?_⟩
  exfalso
  by_cases h1:e=0
  ·have h2:f≠0:=h.resolve_left (by simp [h1])
   simp [h1,h2] at g
  ·simp [h1] at g
 ·rw [if_neg h] at hq
  simp only [not_or,Classical.not_not] at h
  refine⟨fun g=>(by simp [h.1,h.2] at g),fun _=>⟨(n,d),⟨⟨rfl,rfl,trivial⟩,hn,hd⟩,⟨_,rfl⟩,?_⟩⟩
  rintro _ rfl
  exact RetR.scal hq rfl (by simp [resV])
def zhj:Ctr:=ctrP true (fun p:List UInt8×List UInt8=>[.str p.1,.str p.2]) (fun p=>p.1.length<2^39∧p.2.length<2^39) (fun p r=>r=mulR p.1 p.2) (fun _ r=>(.tup [.str r.1,.int .i64 r.2],[]))
noncomputable def GRh:Nat→Option Ctr:=fun f=>if f=217 then some (zij) else if f=218 then some (zlc) else if f=219 then some (zf2) else none
theorem zmf:∀ g c,GRh g=some c→zd Tryz.prog g c:=okIf zil (okIf zkd (okIf zge (zn)))
theorem ze8:zd Tryz.prog 162 zhj:=by
 refine zh (fn:=Tryz.f162) (c:=Tryz.f162.body.getD .skip) rfl rfl rfl fun p hp O w0 Q hq=> ?_
 obtain⟨a,b⟩:=p
 obtain⟨ha,hb⟩:=hp
 replace hq:=hq _ rfl
 simp only at ha hb hq
 unfold mulR at hq
 refine zb.run hmix zmf [] 400 (T:=.ex (fun(x:List UInt8×List UInt8)=>eqL [AV.str a,AV.str b] [AV.str x.1,AV.str x.2]∧x.1.length<1099511627776∧x.2.length<1099511627776) fun n=>.all (fun(r:Q4)=>r=zab n.1 n.2) fun n=>.ite (!decide (Q4.e n=0)) (.leaf (.ret [.str #[].toList,.int .i64 n.e] [])) (.ex (fun(x:List UInt8×List UInt8)=>eqL [AV.str n.n,AV.str n.m] [AV.str x.1,AV.str x.2]∧x.1.length<1099511627776∧x.2.length<1099511627776) fun n_1=>.all (fun(r:List UInt8×Int)=>r=mulI n_1.1 n_1.2) fun n_2=>.ex (fun(x:List UInt8×List UInt8)=>eqL [AV.str n.d,AV.str n.c] [AV.str x.1,AV.str x.2]∧x.1.length<1099511627776∧x.2.length<1099511627776) fun n=>.all (fun(r:List UInt8×Int)=>r=mulI n.1 n.2) fun n=>.ex (fun(x:QF)=>eqL [AV.str n_2.1,AV.str n.1,AV.int .i64 n_2.2,AV.int .i64 n.2] [AV.str x.n,AV.str x.d,AV.int .i64 x.e,AV.int .i64 x.f]∧x.n.length<1099511627776∧x.d.length<1099511627776) fun n=>.all (fun(r:List UInt8×Int)=>r=frac (QF.n n,QF.e n) (QF.d n,QF.f n)) fun n=>.leaf (.ret [.str n.1,.int .i64 n.2] []))) (by kernel_rfl) ?_
 simp only [Tree.holds,ze]
 refine⟨(a,b),⟨⟨rfl,rfl,trivial⟩,by show a.length<_; omega,by show b.length<_; omega⟩,⟨_,rfl⟩,?_⟩
 rintro _ rfl
 simp only [zab]
 by_cases he:wT a b=0
 ·rw [if_neg (by rw [he]; simp)] at hq ⊢
  refine⟨fun h=>(by cases h),fun _=> ?_⟩
  have l1:=uI a
  have l2:=uI b
  have l3:=uG a
  have l4:=uG b
  have l5:=yf (denR a) (denR b)
  have l6:=yf (numR a) (numR b)
  refine⟨(numR a,numR b),⟨⟨rfl,rfl,trivial⟩,by simp only; omega,by simp only; omega⟩,⟨_,rfl⟩,?_⟩
  rintro _ rfl
  refine⟨(denR a,denR b),⟨⟨rfl,rfl,trivial⟩,by simp only; omega,by simp only; omega⟩,⟨_,rfl⟩,?_⟩
  rintro _ rfl
  refine⟨⟨_,_,_,_⟩,⟨⟨rfl,rfl,⟨rfl,rfl⟩,⟨rfl,rfl⟩,trivial⟩,Nat.lt_of_le_of_lt (yf _ _) (by decide),Nat.lt_of_le_of_lt (yf _ _) (by decide)⟩,⟨_,rfl⟩,?_⟩
  rintro _ rfl
  exact RetR.scal hq rfl (by simp [resV])
 ·rw [if_pos he] at hq ⊢
  refine⟨fun _=>RetR.scal hq rfl (by simp [resV]),fun h=>(by simp [he] at h)⟩
end Go.Proofs.Tryz
end
