/- Part 8 of the proof. -/
import Derived.Test.YtlkbiennfpeoiaaGreatDoorSxb
import Derived.Test.YtlkbiennfpeoiaaGreatDoorSxg
set_option linter.unusedVariables false
set_option linter.unusedSimpArgs false
set_option linter.unusedSectionVars false
section
set_option maxRecDepth 100000
open Go Go.Sx Go.Proofs Go.Nov
namespace Go.Proofs.Tryz
attribute [local simp] eqKV eqA eqA0 eqH eqB eqL eqL0
noncomputable def K124:List Go.Sx.Item:=[.code (Tryz.f124.body.getD .skip)]
def HAd(a:Ca):Heap:=[.box [.str a.name,.str a.into,.int .i64 a.date,.str a.ratio,.str a.extra],.box [.fn 81 [] [.ptr 0 0,.ptr 1 0]]]
def adjC(n:Nat):Ctr:=ctrT false false (fun p:Ca×Ex=>[p.2.exA,.ptr 0 0,.ptr 1 0]) (fun p=>HAd p.1) (fun p=>p.2.size<n∧p.2.size<2^40) (fun _ (_:Unit)=>True) (fun p _=>(exD (p.1.adj p.2),HAd p.1))
def zn6(n:Nat):Ctr:=ctrT false false (fun p:Ca×List Ex=>[Ex.exS p.2,.fn 81 [] [.ptr 0 0,.ptr 1 0]]) (fun p=>HAd p.1) (fun p=>Ex.zo p.2<n∧Ex.zo p.2<2^40) (fun _ (_:Unit)=>True) (fun p _=>(Ex.exS (p.2.map (Ca.adj p.1)),HAd p.1))
def SMp(s:List Ex)(i:Nat):KV:=[(1,.fn 81 [] [.ptr 0 0,.ptr 1 0]),(5,.osl 2 5 0 i),(8,Ex.exS s),(9,.int .i64 (s.length:Int)),(10,.int .i64 (i:Int))]
def HMp(f:Ex→Ex)(a:Ca)(s:List Ex)(i:Nat):Heap:=[.box [.str a.name,.str a.into,.int .i64 a.date,.str a.ratio,.str a.extra],.box [.fn 81 [] [.ptr 0 0,.ptr 1 0]],.arr i 5 (Ex.exG (s.map f))]
theorem zk2(n:Nat)(ih:zc Tryz.prog 81 (adjC n)):zc Tryz.prog 124 (zn6 n):=by
 refine qD (fn:=Tryz.f124) (c:=Tryz.f124.body.getD .skip) rfl rfl rfl (fun h=>by cases h) fun p hp O w0 σ0 Q hl0 hq=> ?_
 obtain⟨a,s⟩:=p
 obtain⟨h1,h2⟩:=hp
 simp only at h1 h2
 replace hq:=hq () trivial
 have hlen:=Ex.zy s
 refine zb.run hmix (qj ih) [1,5,8,9,10] 400 (T:=.leaf (.loop (Prod.fst (lps K124 0)) (Prod.snd (lps K124 0)) [(1,.fn 81 [] [.ptr 0 0,.ptr 1 0]),(5,.nils),(8,.sl s.length 5 (Ex.exG s)),(9,.int .i64 s.length),(10,.int .i64 0)] [.box [.str (Ca.name a),.str (Ca.into a),.int .i64 (Ca.date a),.str (Ca.ratio a),.str (Ca.extra a)],.box [.fn 81 [] [.ptr 0 0,.ptr 1 0]]])) (by kernel_rfl) ?_
 simp only [Tree.holds,zd,inR,lo,hi,Int.toNat_natCast]
 show j8 none Tryz.prog Tryz.f124 O 2 w0 σ0 _ _ _ _
 refine zb.bear 5 5 (Ex.exG (s.map (Ca.adj a))) rfl (by decide) (by kernel_rfl) ?_
 refine zb.loop (ι:={i:Nat // i≤s.length}) (fun i=>SMp s i.1) (fun i=>HMp (Ca.adj a) a s i.1) (fun i=>s.length - i.1) ⟨0,Nat.zero_le _⟩ 0 ?_ ?_ (by kernel_rfl)
 ·exact⟨by simp [SMp,k5,Ex.exS,za],by simp [HMp,HAd,za],by kernel_rfl,by show 2≤3; decide⟩
 ·rintro⟨i,hil⟩
  refine zb.run hmix (qj ih) [1,5,8,9,10] 400 (T:=.ite (decide ((↑i:Int)<s.length)) (.side ((0:Int)≤i∧(↑i:Int)<s.length) (.ex (fun(x:Ca×Ex)=>eqL [(exD (s.getD (↑i:Int).toNat Ex.nil)),AV.ptr 0 0,AV.ptr 1 0] [x.2.exA,AV.ptr 0 0,AV.ptr 1 0]∧eqH [.box [AV.str (Ca.name a),AV.str (Ca.into a),AV.int .i64 (Ca.date a),AV.str (Ca.ratio a),AV.str (Ca.extra a)],.box [AV.fn 81 [] [AV.ptr 0 0,AV.ptr 1 0]]] [.box [AV.str (Ca.name x.1),AV.str (Ca.into x.1),AV.int .i64 (Ca.date x.1),AV.str (Ca.ratio x.1),AV.str (Ca.extra x.1)],.box [AV.fn 81 [] [AV.ptr 0 0,AV.ptr 1 0]]]∧2=2∧Ex.size x.2<n∧Ex.size x.2<1099511627776) fun n=>.all (fun(x:Unit)=>True) fun n_1=>.side (0=0∧i≤i∧(i+1)*72≤140737488355328) (.side (inR .i64 ((↑i:Int)+(1:Int))) (.leaf (.back 0 [(1,.fn 81 [] [.ptr 0 0,.ptr 1 0]),(5,.osl 2 5 0 (i+1)),(8,.sl s.length 5 (Ex.exG s)),(9,.int .i64 s.length),(10,.int .i64 ((↑i:Int)+(1:Int)))] [.box [.str (Ca.name n.1),.str (Ca.into n.1),.int .i64 (Ca.date n.1),.str (Ca.ratio n.1),.str (Ca.extra n.1)],.box [.fn 81 [] [.ptr 0 0,.ptr 1 0]],.arr (i+1) 5 (appG i (Ex.exG (List.map (Ca.adj a) s)) (zg (zh 5 (Ex.cellsD (Ca.adj n.1 n.2))) 0)),.box (Ex.cellsD (s.getD (↑i:Int).toNat Ex.nil)),.arr 1 5 (zh 5 (Ex.cellsD (Ca.adj n.1 n.2)))]))))) (.leaf (.ret [.osl 2 5 0 i] [.box [.str (Ca.name a),.str (Ca.into a),.int .i64 (Ca.date a),.str (Ca.ratio a),.str (Ca.extra a)],.box [.fn 81 [] [.ptr 0 0,.ptr 1 0]],.arr i 5 (Ex.exG (List.map (Ca.adj a) s))]))) (by kernel_rfl) ?_
  simp only [Tree.holds,zd,inR,lo,hi,Int.toNat_natCast]
  refine⟨fun hlt=> ?_,fun hge=> ?_⟩
  ·have hlt:i<s.length:=by have:=of_decide_eq_true hlt; omega
   have hg:=Ex.qg hlt
   have ha:eqH [.box [.str a.name,.str a.into,.int .i64 a.date,.str a.ratio,.str a.extra],.box [.fn 81 [] [.ptr 0 0,.ptr 1 0]]] [.box [.str a.name,.str a.into,.int .i64 a.date,.str a.ratio,.str a.extra],.box [.fn 81 [] [.ptr 0 0,.ptr 1 0]]]:=by simp
   refine⟨by omega,fun _=>⟨(a,s.getD i Ex.nil),⟨⟨xf _,⟨rfl,rfl⟩,⟨rfl,rfl⟩,trivial⟩,ha,trivial,by show Ex.size (s.getD i Ex.nil)<n; omega,by show Ex.size (s.getD i Ex.nil)<_; omega⟩,⟨(),trivial⟩,?_⟩⟩
   intro _ _
   refine⟨⟨trivial,Nat.le_refl _,by omega⟩,fun _=>⟨by omega,fun _=> ?_⟩⟩
   rw [if_pos trivial]
   refine⟨⟨i+1,hlt⟩,by show s.length - (i+1)<s.length - i; omega,by simp [SMp,Ex.exS,za],?_,by kernel_rfl,by show 2≤3; decide⟩
   refine⟨⟨rfl,rfl,⟨rfl,rfl⟩,rfl,rfl,trivial⟩,by simp,⟨rfl,rfl,ZB hlt⟩,trivial⟩
  ·have hge:i=(s.map (Ca.adj a)).length:=by have:=of_decide_eq_false hge; simp; omega
   subst hge
   exact RetR.xB [0,1] rfl rfl (by show ∀ j,j<2→_; decide) rfl hq (LeA.sl rfl fun j o hj ho=>by simp only [zg,Nat.zero_add]; exact LeA.refl _) (by simp [expH,expB,exp1,exp0,ren0,HAd,HMp,z6]) rfl
def zi0:Ctr:=ctrP false (fun r:List UInt8=>[.str r]) (fun _=>True) (fun _ (_:Unit)=>True) (fun r _=>(exD (Tm.kon r),[]))
theorem zak:zc Tryz.prog 82 zi0:=by
 refine zf (fn:=Tryz.f82) (c:=Tryz.f82.body.getD .skip) rfl rfl rfl fun r hp O w0 Q hq=> ?_
 replace hq:=hq () trivial
 refine zb.run hmix zF [] 400 (T:=.leaf (.ret [.agg [.int .u8 1,.str r,.str #[].toList,.int .i64 0,.nils]] [.box [.int .u8 1,.str r,.str #[].toList,.int .i64 0,.nils]])) (by kernel_rfl) ?_
 simp only [Tree.holds,zd]
 refine RetR.out0 hq (fun h=>by cases h) ?_
 exact⟨⟨rfl,rfl⟩,rfl,rfl,⟨rfl,rfl⟩,rfl,trivial⟩
def zfj(n:Nat):Ctr:=ctrT false false (fun p:Ca×Ex=>[p.2.exA,.fn 81 [] [.ptr 0 0,.ptr 1 0]]) (fun p=>HAd p.1) (fun p=>Ex.zo p.2.sub<n∧Ex.zo p.2.sub<2^40) (fun _ (_:Unit)=>True) (fun p _=>(exD (.mk p.2.kind p.2.rat p.2.name p.2.date (p.2.sub.map (Ca.adj p.1))),HAd p.1))
theorem zki(n:Nat)(ih:zc Tryz.prog 81 (adjC n)):zc Tryz.prog 83 (zfj n):=by
 refine qD (fn:=Tryz.f83) (c:=Tryz.f83.body.getD .skip) rfl rfl rfl (fun h=>by cases h) fun p hp O w0 σ0 Q hl0 hq=> ?_
 obtain⟨a,x⟩:=p
 replace hq:=hq () trivial
 refine zb.run hmix (qj (zk2 n ih)) [] 400 (T:=.ex (fun(x_1:Ca×List Ex)=>eqL [AV.sl x.sub.length 5 (Ex.exG x.sub),AV.fn 81 [] [AV.ptr 0 0,AV.ptr 1 0]] [AV.sl x_1.2.length 5 (Ex.exG x_1.2),AV.fn 81 [] [AV.ptr 0 0,AV.ptr 1 0]]∧eqH [.box [AV.str (Ca.name a),AV.str (Ca.into a),AV.int .i64 (Ca.date a),AV.str (Ca.ratio a),AV.str (Ca.extra a)],.box [AV.fn 81 [] [AV.ptr 0 0,AV.ptr 1 0]]] [.box [AV.str (Ca.name x_1.1),AV.str (Ca.into x_1.1),AV.int .i64 (Ca.date x_1.1),AV.str (Ca.ratio x_1.1),AV.str (Ca.extra x_1.1)],.box [AV.fn 81 [] [AV.ptr 0 0,AV.ptr 1 0]]]∧2=2∧Ex.zo x_1.2<n∧Ex.zo x_1.2<1099511627776) fun n=>.all (fun(x:Unit)=>True) fun n_1=>.leaf (.ret [.agg [.int .u8 x.kind,.str x.rat,.str x.name,.int .i64 x.date,.sl (List.length (List.map (Ca.adj n.1) n.2)) 5 (Ex.exG (List.map (Ca.adj n.1) n.2))]] [.box [.str (Ca.name n.1),.str (Ca.into n.1),.int .i64 (Ca.date n.1),.str (Ca.ratio n.1),.str (Ca.extra n.1)],.box [.fn 81 [] [.ptr 0 0,.ptr 1 0]],.box [.int .u8 x.kind,.str x.rat,.str x.name,.int .i64 x.date,.sl (List.length (List.map (Ca.adj n.1) n.2)) 5 (Ex.exG (List.map (Ca.adj n.1) n.2))],.box [.int .u8 x.kind,.str x.rat,.str x.name,.int .i64 x.date,.sl (List.length (List.map (Ca.adj n.1) n.2)) 5 (Ex.exG (List.map (Ca.adj n.1) n.2))]])) (by kernel_rfl) ?_
 simp only [Tree.holds,zd]
 refine⟨(a,x.sub),⟨⟨⟨rfl,rfl,za _ _ _⟩,by simp,trivial⟩,by simp,trivial,hp.1,hp.2⟩,⟨(),trivial⟩,fun _ _=> ?_⟩
 exact RetR.xB [0,1] rfl rfl (by show ∀ j,j<2→_; decide) rfl hq (LeA.agg ⟨LeA.refl _,LeA.refl _,LeA.refl _,LeA.refl _,Ex.js (.mk x.kind x.rat x.name x.date (x.sub.map (Ca.adj a))),trivial⟩) (by simp [expH,expB,exp1,exp0,ren0,HAd,z6]) rfl
noncomputable def K164:List Go.Sx.Item:=[.code (Tryz.f164.body.getD .skip)]
def zau:Ctr:=ctr2 true (fun x y=>(canon x).length<100000∧(canon y).length<100000) (fun x y d=>d=x+y) (fun _ _ d=>(magS d,[]))
def SPl(x y:Nat)(o:List Nat)(c i:Nat):KV:=[(1,magS y),(5,.osl 0 1 0 o.length),(6,.int .u32 (c:Int)),(21,magS x),(22,.int .i64 ((canon x).length:Int)),(23,.int .i64 (i:Int))]
structure IPl(x y:Nat) where
 o:List Nat
 c:Nat
 i:Nat
 len:o.length=i
 le:i≤(canon x).length
 dg:dig o
 c1:c≤1
 eq:val o+B^i*c=val ((canon x).take i)+val ((canon y).take i)
theorem zma{x y o c i d c':Nat}{l m:List Nat}(h:o+B^i*c=val (l.take i)+val (m.take i))(he:d+B*c'=l.getD i 0+m.getD i 0+c):o+B^i*d+B^(i+1)*c'=val (l.take (i+1))+val (m.take (i+1)):=by
 rw [zt,zt,Nat.pow_succ]
 have:=congrArg (B^i * ·) he
 simp only [Nat.mul_add] at this
 rw [Nat.mul_assoc]
 omega
theorem RetR.zn2{ctr:Ctr}{Q:AV×Heap→Prop}{h:Heap}{i m n:Nat}{k:IntKind}{l:List Nat}{G:Nat→Nat→AV}(hq:Q (natS k l,[]))(hb:h[i]?=some (.arr m 1 G))(hn:n≤m)(hl:l.length=n)(hG:∀ j,j<n→G j 0 = .int k ((l.getD j 0:Nat):Int)):RetR ctr 0 Q [.osl i 1 0 n] h:=by
 refine RetR.out0 hq (fun _=> ?_) ?_
 ·refine Je hb (by omega) fun j o hj ho=> ?_
  have:o=0:=by omega
  subst this
  simp only [zg,Nat.zero_add,hG j hj,qL]
 ·have e:exp2 h [] (resV [.osl i 1 0 n])=exp0 h [] (.osl i 1 0 n):=rfl
  rw [e,xA hb (by omega),UO]
  simp only [eqA2,natS]
  refine⟨hl.symm,rfl,fun j o hj ho=> ?_⟩
  have:o=0:=by omega
  subst this
  rw [hG j hj]; rfl
theorem XG{O:Nat→Prop}{w0:World}{Q:AV×Heap→Prop}(x y:Nat)(hx:(canon x).length<100000)(hlen:(canon y).length≤(canon x).length)(hq:Q (magS (x+y),[]))(kv:KV)(h:Heap)(hle:LeK 0 Tryz.f164.ntmps kv h (SPl x y [] 0 0) [.arr 0 1 (natG .u32 [])]) :
  zb Tryz.prog Tryz.f164 O 0 w0 [] (fun _ _ _=>False) (RetR zau 0 Q) (.code (.loop (lps K164 0).1)::(lps K164 0).2) (mk Tryz.f164.ntmps kv h):=by
 refine zb.loop (ι:=IPl x y) (fun s=>SPl x y s.o s.c s.i) (fun s=>[.arr s.o.length 1 (natG .u32 s.o)]) (fun s=>(canon x).length - s.i) ⟨[],0,0,rfl,Nat.zero_le _,by simp [dig],by omega,by simp [val]⟩ 0 hle ?_ (by kernel_rfl)
 rintro⟨o,c,i,ho,hle,hd,hc,he⟩
 subst ho
 have hB:B=1000000000:=rfl
 refine zb.run hmix ug [1,5,6,21,22,23] 400 (T:=.ite (decide ((↑o.length:Int)<(↑(canon x).length:Int))) (.side ((0:Int)≤o.length∧(↑o.length:Int)<(↑(canon x).length:Int)) (.side (inR .u32 ((↑(List.getD (canon x) (Int.toNat (↑o.length:Int)) 0):Int)+c)) (.ite (decide ((↑o.length:Int)<(↑(canon y).length:Int))) (.side ((0:Int)≤o.length∧(↑o.length:Int)<(↑(canon y).length:Int)) (.side (inR .u32 ((↑(List.getD (canon x) (Int.toNat (↑o.length:Int)) 0):Int)+c+(↑(List.getD (canon y) (Int.toNat (↑o.length:Int)) 0):Int))) (.side ((1000000000:Int)≠0∧inR .u32 (Int.tdiv ((↑(List.getD (canon x) (Int.toNat (↑o.length:Int)) 0):Int)+c+(↑(List.getD (canon y) (Int.toNat (↑o.length:Int)) 0):Int)) (1000000000:Int))) (.side ((1000000000:Int)≠0) (.side (0=0∧o.length≤o.length∧(o.length+1)*4≤140737488355328) (.side (inR .i64 ((↑o.length:Int)+(1:Int))) (.leaf (.back 0 [(1,.sl (canon y).length 1 (natG .u32 (canon y))),(5,.osl 0 1 0 (o.length+1)),(6,.int .u32 (Int.tdiv ((↑(List.getD (canon x) (Int.toNat (↑o.length:Int)) 0):Int)+c+(↑(List.getD (canon y) (Int.toNat (↑o.length:Int)) 0):Int)) (1000000000:Int))),(21,.sl (canon x).length 1 (natG .u32 (canon x))),(22,.int .i64 (↑(canon x).length:Int)),(23,.int .i64 ((↑o.length:Int)+(1:Int)))] [.arr (o.length+1) 1 (appG o.length (natG .u32 o) (zg (zh 1 [.int .u32 (Int.tmod ((↑(List.getD (canon x) (Int.toNat (↑o.length:Int)) 0):Int)+c+(↑(List.getD (canon y) (Int.toNat (↑o.length:Int)) 0):Int)) (1000000000:Int))]) 0)),.arr 1 1 (zh 1 [.int .u32 (Int.tmod ((↑(List.getD (canon x) (Int.toNat (↑o.length:Int)) 0):Int)+c+(↑(List.getD (canon y) (Int.toNat (↑o.length:Int)) 0):Int)) (1000000000:Int))])])))))))) (.side ((1000000000:Int)≠0∧inR .u32 (Int.tdiv ((↑(List.getD (canon x) (Int.toNat (↑o.length:Int)) 0):Int)+c) (1000000000:Int))) (.side ((1000000000:Int)≠0) (.side (0=0∧o.length≤o.length∧(o.length+1)*4≤140737488355328) (.side (inR .i64 ((↑o.length:Int)+(1:Int))) (.leaf (.back 0 [(1,.sl (canon y).length 1 (natG .u32 (canon y))),(5,.osl 0 1 0 (o.length+1)),(6,.int .u32 (Int.tdiv ((↑(List.getD (canon x) (Int.toNat (↑o.length:Int)) 0):Int)+c) (1000000000:Int))),(21,.sl (canon x).length 1 (natG .u32 (canon x))),(22,.int .i64 (↑(canon x).length:Int)),(23,.int .i64 ((↑o.length:Int)+(1:Int)))] [.arr (o.length+1) 1 (appG o.length (natG .u32 o) (zg (zh 1 [.int .u32 (Int.tmod ((↑(List.getD (canon x) (Int.toNat (↑o.length:Int)) 0):Int)+c) (1000000000:Int))]) 0)),.arr 1 1 (zh 1 [.int .u32 (Int.tmod ((↑(List.getD (canon x) (Int.toNat (↑o.length:Int)) 0):Int)+c) (1000000000:Int))])]))))))))) (.side (0=0∧o.length≤o.length∧(o.length+1)*4≤140737488355328) (.ex (fun(u:List Nat)=>u.length=o.length+1∧0+(o.length+1)≤o.length+1∧o.length+1<4611686018427387904∧eqG (o.length+1) 1 (appG o.length (natG .u32 o) (zg (zh 1 [AV.int .u32 c]) 0)) (natG .u32 u)∧dig (List.take (o.length+1) (List.drop 0 u))) fun n=>.all (fun(x:Nat)=>x=val (List.take (o.length+1) (List.drop 0 n))) fun n=>.leaf (.ret [.osl 0 1 0 (canon n).length] [.arr (o.length+1) 1 (appG o.length (natG .u32 o) (zg (zh 1 [.int .u32 c]) 0)),.arr 1 1 (zh 1 [.int .u32 c])])))) (by kernel_rfl) ?_
 simp only [Tree.holds,zd,inR,lo,hi,Int.toNat_natCast,yk]
 have ha:=zM (zi x) o.length
 have hb:=zM (zi y) o.length
 have hnext:∀ d c':Nat,d<B→c'≤1→o.length<(canon x).length→d+B*c'=(canon x).getD o.length 0+(canon y).getD o.length 0+c →
   ∃ s:IPl x y,s.o=o++[d]∧s.c=c'∧s.i=o.length+1:=fun d c' h1 h2 h3 h4=>
  ⟨⟨o++[d],c',o.length+1,by simp,h3,q8.2 ⟨hd,by simp [dig,h1]⟩,h2,by rw [JX]; exact zma (x:=x) (y:=y) he h4⟩,rfl,rfl,rfl⟩
 have hdiv:∀ v:Nat,(v:Int).tdiv 1000000000=((v/B:Nat):Int)∧(v:Int).tmod 1000000000=((v%B:Nat):Int):=fun v=>⟨rfl,rfl⟩
 have hq2:∀ v:Nat,v<2*B→v/B≤1∧v%B<B∧v%B+B*(v/B)=v:=fun v hv=>⟨by have:=Nat.div_lt_of_lt_mul (show v<B*2 by omega); omega,Nat.mod_lt _ (by omega),Nat.mod_add_div _ _⟩
 refine⟨fun hlt=> ?_,fun hge=> ?_⟩
 ·have hlt:o.length<(canon x).length:=by have:=of_decide_eq_true hlt; omega
  refine⟨by omega,fun _=>⟨by omega,fun _=>⟨fun hb2=> ?_,fun hb2=> ?_⟩⟩⟩
  ·have hb2:o.length<(canon y).length:=by have:=of_decide_eq_true hb2; omega
   refine⟨by omega,fun _=>⟨by omega,fun _=> ?_⟩⟩
   obtain⟨v,hv⟩:∃ v,(canon x).getD o.length 0+c+(canon y).getD o.length 0=v:=⟨_,rfl⟩
   have ev:(((canon x).getD o.length 0:Nat):Int)+(c:Int)+(((canon y).getD o.length 0:Nat):Int)=(v:Int):=by omega
   rw [ev,(hdiv v).1,(hdiv v).2]
   obtain⟨g1,g2,g3⟩:=hq2 v (by omega)
   generalize v/B=q at g1 g3 ⊢
   generalize v%B=r at g2 g3 ⊢
   refine⟨⟨by decide,by omega,by omega⟩,fun _=>⟨by decide,fun _=>⟨⟨trivial,Nat.le_refl _,by omega⟩,fun _=>⟨by omega,fun _=> ?_⟩⟩⟩⟩
   obtain⟨s,h1,h2,h3⟩:=hnext r q g2 g1 hlt (by omega)
   rw [if_pos trivial]
   exact⟨s,by show _ - s.i<_; omega,by simp [SPl,h1,h2,h3,magS,natS,za],by rw [h1]; exact ji rfl,by kernel_rfl,Nat.zero_le _⟩
  ·have hb2:(canon y).length≤o.length:=by have:=of_decide_eq_false hb2; omega
   have hb0:(canon y).getD o.length 0=0:=by simp [List.getD,List.getElem?_eq_none hb2]
   obtain⟨v,hv⟩:∃ v,(canon x).getD o.length 0+c=v:=⟨_,rfl⟩
   have ev:(((canon x).getD o.length 0:Nat):Int)+(c:Int)=(v:Int):=by omega
   rw [ev,(hdiv v).1,(hdiv v).2]
   obtain⟨g1,g2,g3⟩:=hq2 v (by omega)
   generalize v/B=q at g1 g3 ⊢
   generalize v%B=r at g2 g3 ⊢
   refine⟨⟨by decide,by omega,by omega⟩,fun _=>⟨by decide,fun _=>⟨⟨trivial,Nat.le_refl _,by omega⟩,fun _=>⟨by omega,fun _=> ?_⟩⟩⟩⟩
   obtain⟨s,h1,h2,h3⟩:=hnext r q g2 g1 hlt (by omega)
   rw [if_pos trivial]
   exact⟨s,by show _ - s.i<_; omega,by simp [SPl,h1,h2,h3,magS,natS,za],by rw [h1]; exact ji rfl,by kernel_rfl,Nat.zero_le _⟩
 ·have hge:o.length=(canon x).length:=by have:=of_decide_eq_false hge; omega
  have hv:val (o++[c])=x+y:=by
   rw [JX]
   rw [hge,List.take_length,List.take_of_length_le hlen,zl,zl] at he
   rw [hge]; exact he
  have hdo:dig (o++[c]):=q8.2 ⟨hd,by simp [dig]; omega⟩
  have hpush:eqG (o.length+1) 1 (appG o.length (natG .u32 o) (zg (zh 1 [.int .u32 (c:Int)]) 0)) (natG .u32 (o++[c])):=by
   have:=uk (k:=.u32) (l:=o) (v:=(c:Int)) (by omega)
   simpa using this
  have hall:List.take (o.length+1) (List.drop 0 (o++[c]))=o++[c]:=by rw [List.drop_zero]; exact List.take_of_length_le (by simp)
  refine⟨⟨trivial,Nat.le_refl _,by omega⟩,fun _=>⟨o++[c],⟨by simp,by omega,by omega,hpush,by rw [hall]; exact hdo⟩,⟨_,rfl⟩,?_⟩⟩
  intro X hX
  have hX:X=x+y:=by rw [hX,hall,hv]
  subst hX
  have htr:qK (o++[c])=canon (x+y):=by rw [zS hdo,hv]
  have htl:(canon (x+y)).length=tlen (o++[c]):=by rw [← htr,qK,List.length_take]; have:=qi (o++[c]); omega
  rw [htl]
  have hle2:=qi (o++[c])
  have hln:(o++[c]).length=o.length+1:=by simp
  refine RetR.zn2 (l:=canon (x+y)) (k:=.u32) hq rfl (by omega) htl fun j hj=> ?_
  have:=hpush j 0 (by omega) (by omega)
  rw [this,← htr]
  simp only [natG,qK]
  rw [uT hj]
theorem za6:zc Tryz.prog 164 zau:=by
 refine Zd (fn:=Tryz.f164) (c:=Tryz.f164.body.getD .skip) rfl rfl rfl fun x y hp O w0 Q hq=> ?_
 replace hq:=hq _ rfl
 obtain⟨hx,hy⟩:=hp
 refine zb.run hmix ug [1,5,6,21,22,23] 400 (T:=.ite (decide ((↑(canon x).length:Int)<(↑(canon y).length:Int))) (.side (inR .i64 ((↑(canon y).length:Int)+(1:Int))) (.side ((0:Int)≤0∧(0:Int)≤(↑(canon y).length:Int)+(1:Int)∧inR .i64 ((↑(canon y).length:Int)+(1:Int))∧Int.toNat ((↑(canon y).length:Int)+(1:Int))*4≤140737488355328) (.leaf (.loop (Prod.fst (lps K164 0)) (Prod.snd (lps K164 0)) [(1,.sl (canon x).length 1 (natG .u32 (canon x))),(5,.osl 0 1 0 0),(6,.int .u32 0),(21,.sl (canon y).length 1 (natG .u32 (canon y))),(22,.int .i64 (↑(canon y).length:Int)),(23,.int .i64 0)] [.arr 0 1 (kL [.int .u32 0])])))) (.side (inR .i64 ((↑(canon x).length:Int)+(1:Int))) (.side ((0:Int)≤0∧(0:Int)≤(↑(canon x).length:Int)+(1:Int)∧inR .i64 ((↑(canon x).length:Int)+(1:Int))∧Int.toNat ((↑(canon x).length:Int)+(1:Int))*4≤140737488355328) (.leaf (.loop (Prod.fst (lps K164 0)) (Prod.snd (lps K164 0)) [(1,.sl (canon y).length 1 (natG .u32 (canon y))),(5,.osl 0 1 0 0),(6,.int .u32 0),(21,.sl (canon x).length 1 (natG .u32 (canon x))),(22,.int .i64 (↑(canon x).length:Int)),(23,.int .i64 0)] [.arr 0 1 (kL [.int .u32 0])]))))) (by kernel_rfl) ?_
 simp only [Tree.holds,zd,inR,lo,hi]
 refine⟨fun h=> ?_,fun h=> ?_⟩
 ·have h:(canon x).length<(canon y).length:=by have:=of_decide_eq_true h; omega
  refine⟨by omega,fun _=>⟨⟨by omega,by omega,by omega,by omega⟩,fun _=> ?_⟩⟩
  rw [Nat.add_comm] at hq
  exact XG y x hy (by omega) hq _ _ ⟨by simp [SPl,magS,natS,za],by simp [eqG],by kernel_rfl,Nat.zero_le _⟩
 ·have h:(canon y).length≤(canon x).length:=by have:=of_decide_eq_false h; omega
  refine⟨by omega,fun _=>⟨⟨by omega,by omega,by omega,by omega⟩,fun _=> ?_⟩⟩
  exact XG x y hx h hq _ _ ⟨by simp [SPl,magS,natS,za],by simp [eqG],by kernel_rfl,Nat.zero_le _⟩
def zl6:Ctr:=ctrP false (fun p:Bool×Nat=>[.bool p.1,magS p.2]) (fun _=>True) (fun p r=>r=(p.1&&decide (0<p.2),p.2)) (fun _ (r:Bool×Nat)=>(numV r.1 r.2,[]))
theorem K5{x:Nat} : decide (0<((canon x).length:Int))=decide (0<x):=by
 by_cases h:x=0
 ·subst h; simp [canon]
 ·have h1:0<x:=Nat.pos_of_ne_zero h
  have h2:(canon x).length≠0:=fun h2=>h (yv.1 h2)
  rw [decide_eq_true (by omega),decide_eq_true h1]
theorem RetR.numV{ctr:Ctr}{Q:AV×Heap→Prop}{h:Heap}{b:Bool}{x:Nat}(hf:ctr.fresh=false)(hq:Q (numV b x,[])):RetR ctr 0 Q [.agg [.bool b,magS x]] h:=by
 refine RetR.out0 hq (fun h=>by rw [hf] at h; cases h) ?_
 simp [resV,exp2,exp1,exp0,ren0,frz1,eqA2,eqL1,eqA,eqL0,eqA0,Tryz.numV,magS,natS,za]
theorem zir:zc Tryz.prog 163 zl6:=by
 refine zf (fn:=Tryz.f163) (c:=Tryz.f163.body.getD .skip) rfl rfl rfl fun p hp O w0 Q hq=> ?_
 obtain⟨b,x⟩:=p
 replace hq:=hq _ rfl
 refine zb.run hmix zF [] 400 (T:=.leaf (.ret [.agg [.bool (bif b then decide ((0:Int)<(↑(canon x).length:Int)) else false),.sl (canon x).length 1 (natG .u32 (canon x))]] [.box [.bool (bif b then decide ((0:Int)<(↑(canon x).length:Int)) else false),.sl (canon x).length 1 (natG .u32 (canon x))]])) (by kernel_rfl) ?_
 simp only [Tree.holds,zd]
 rw [K5]
 have e:(bif b then decide (0<x) else false)=(b&&decide (0<x)):=by cases b<;>rfl
 rw [e]
 exact RetR.numV rfl hq
def sumC:Ctr:=ctrP false (fun p:(Bool×Nat)×(Bool×Nat)=>[numV p.1.1 p.1.2,numV p.2.1 p.2.2]) (fun p=>(canon p.1.2).length<100000∧(canon p.2.2).length<100000)
 (fun p r=>r=((sumS p.1.1 p.1.2 p.2.1 p.2.2).1&&decide (0<(sumS p.1.1 p.1.2 p.2.1 p.2.2).2),(sumS p.1.1 p.1.2 p.2.1 p.2.2).2)) (fun _ (r:Bool×Nat)=>(numV r.1 r.2,[]))
noncomputable def GSu:Nat→Option Ctr:=fun f=>if f=163 then some (zl6) else if f=164 then some (zau) else if f=134 then some (uy) else if f=152 then some (VH) else none
theorem zly:∀ g c,GSu g=some c→zc Tryz.prog g c:=okIf zir (okIf za6 (okIf yO (okIf Jz (zp))))
theorem zmp:zc Tryz.prog 157 sumC:=by
 refine zf (fn:=Tryz.f157) (c:=Tryz.f157.body.getD .skip) rfl rfl rfl fun p hp O w0 Q hq=> ?_
 obtain⟨⟨m,x⟩,⟨n,y⟩⟩:=p
 obtain⟨h1,h2⟩:=hp
 replace hq:=hq _ rfl
 simp only at h1 h2 hq
 refine zb.run hmix zly [] 400 (T:=.ite (m == n) (.ex (fun(x_1:Nat×Nat)=>eqL [AV.sl (canon x).length 1 (natG .u32 (canon x)),AV.sl (canon y).length 1 (natG .u32 (canon y))] [AV.sl (canon x_1.1).length 1 (natG .u32 (canon x_1.1)),AV.sl (canon x_1.2).length 1 (natG .u32 (canon x_1.2))]∧List.length (canon x_1.1)<100000∧List.length (canon x_1.2)<100000) fun n_1=>.all (fun(d:Nat)=>d=n_1.1+n_1.2) fun n_2=>.ex (fun(x:Bool×Nat)=>eqL [AV.bool m,AV.sl (canon n_2).length 1 (natG .u32 (canon n_2))] [AV.bool x.1,AV.sl (canon x.2).length 1 (natG .u32 (canon x.2))]∧True) fun n_3=>.all (fun(r:Bool×Nat)=>r=(n_3.1&&decide (0<n_3.2),n_3.2)) fun n_4=>.leaf (.ret [.agg [.bool n_4.1,.sl (canon n_4.2).length 1 (natG .u32 (canon n_4.2))]] [.box [.bool m,.sl (canon x).length 1 (natG .u32 (canon x))],.box [.bool n,.sl (canon y).length 1 (natG .u32 (canon y))],.box [.bool n_4.1,.sl (canon n_4.2).length 1 (natG .u32 (canon n_4.2))]])) (.ex (fun(x_1:Nat×Nat)=>eqL [AV.sl (canon x).length 1 (natG .u32 (canon x)),AV.sl (canon y).length 1 (natG .u32 (canon y))] [AV.sl (canon x_1.1).length 1 (natG .u32 (canon x_1.1)),AV.sl (canon x_1.2).length 1 (natG .u32 (canon x_1.2))]∧fits x_1.1∧fits x_1.2) fun n_1=>.all (fun(r:Int)=>r=cmp3 n_1.1 n_1.2) fun n_2=>.ite (decide ((0:Int)≤n_2)) (.ex (fun(x_1:Nat×Nat)=>eqL [AV.sl (canon x).length 1 (natG .u32 (canon x)),AV.sl (canon y).length 1 (natG .u32 (canon y))] [AV.sl (canon x_1.1).length 1 (natG .u32 (canon x_1.1)),AV.sl (canon x_1.2).length 1 (natG .u32 (canon x_1.2))]∧fits x_1.1∧x_1.2≤x_1.1) fun n_3=>.all (fun(d:Nat)=>d=n_3.1 - n_3.2) fun n_4=>.ex (fun(x:Bool×Nat)=>eqL [AV.bool m,AV.sl (canon n_4).length 1 (natG .u32 (canon n_4))] [AV.bool x.1,AV.sl (canon x.2).length 1 (natG .u32 (canon x.2))]∧True) fun n_5=>.all (fun(r:Bool×Nat)=>r=(n_5.1&&decide (0<n_5.2),n_5.2)) fun n_6=>.leaf (.ret [.agg [.bool n_6.1,.sl (canon n_6.2).length 1 (natG .u32 (canon n_6.2))]] [.box [.bool m,.sl (canon x).length 1 (natG .u32 (canon x))],.box [.bool n,.sl (canon y).length 1 (natG .u32 (canon y))],.box [.bool n_6.1,.sl (canon n_6.2).length 1 (natG .u32 (canon n_6.2))]])) (.ex (fun(x_1:Nat×Nat)=>eqL [AV.sl (canon y).length 1 (natG .u32 (canon y)),AV.sl (canon x).length 1 (natG .u32 (canon x))] [AV.sl (canon x_1.1).length 1 (natG .u32 (canon x_1.1)),AV.sl (canon x_1.2).length 1 (natG .u32 (canon x_1.2))]∧fits x_1.1∧x_1.2≤x_1.1) fun n_3=>.all (fun(d:Nat)=>d=n_3.1 - n_3.2) fun n_4=>.ex (fun(x:Bool×Nat)=>eqL [AV.bool n,AV.sl (canon n_4).length 1 (natG .u32 (canon n_4))] [AV.bool x.1,AV.sl (canon x.2).length 1 (natG .u32 (canon x.2))]∧True) fun n_5=>.all (fun(r:Bool×Nat)=>r=(n_5.1&&decide (0<n_5.2),n_5.2)) fun n_6=>.leaf (.ret [.agg [.bool n_6.1,.sl (canon n_6.2).length 1 (natG .u32 (canon n_6.2))]] [.box [.bool m,.sl (canon x).length 1 (natG .u32 (canon x))],.box [.bool n,.sl (canon y).length 1 (natG .u32 (canon y))],.box [.bool n_6.1,.sl (canon n_6.2).length 1 (natG .u32 (canon n_6.2))]])))) (by kernel_rfl) ?_
 simp only [Tree.holds,zd]
 have eL:∀ a b:Nat,eqL [AV.sl (canon a).length 1 (natG .u32 (canon a)),AV.sl (canon b).length 1 (natG .u32 (canon b))] [AV.sl (canon a).length 1 (natG .u32 (canon a)),AV.sl (canon b).length 1 (natG .u32 (canon b))]:=fun a b=>⟨⟨rfl,rfl,za _ _ _⟩,⟨rfl,rfl,za _ _ _⟩,trivial⟩
 have eK:∀ (b:Bool) (a:Nat),eqL [AV.bool b,AV.sl (canon a).length 1 (natG .u32 (canon a))] [AV.bool b,AV.sl (canon a).length 1 (natG .u32 (canon a))]:=fun b a=>⟨rfl,⟨rfl,rfl,za _ _ _⟩,trivial⟩
 have hcm:∀ v,v=cmp3 x y→(0≤v↔y≤x):=by
  rintro v rfl
  unfold cmp3
  split
  ·exact⟨fun h=>by omega,fun h=>by omega⟩
  ·split
   ·exact⟨fun h=>by omega,fun h=>by omega⟩
   ·exact⟨fun h=>by omega,fun h=>by omega⟩
 refine⟨fun h=> ?_,fun h=>⟨(x,y),⟨eL x y,by show(canon x).length<_; omega,by show(canon y).length<_; omega⟩,⟨_,rfl⟩,?_⟩⟩
 ·have h:m=n:=by simpa using h
  refine⟨(x,y),⟨eL x y,h1,h2⟩,⟨_,rfl⟩,?_⟩
  rintro _ rfl
  refine⟨(m,x+y),⟨eK m _,trivial⟩,⟨_,rfl⟩,?_⟩
  rintro _ rfl
  have e:sumS m x n y=(m,x+y):=if_pos h
  rw [e] at hq
  exact RetR.numV rfl hq
 ·have h:¬ m=n:=by simpa using h
  intro v hv
  have hv:=hcm v hv
  refine⟨fun g=> ?_,fun g=> ?_⟩
  ·have g:y≤x:=hv.1 (of_decide_eq_true g)
   refine⟨(x,y),⟨eL x y,by show(canon x).length<_; omega,g⟩,⟨_,rfl⟩,?_⟩
   rintro _ rfl
   refine⟨(m,x - y),⟨eK m _,trivial⟩,⟨_,rfl⟩,?_⟩
   rintro _ rfl
   have e:sumS m x n y=(m,x - y):=by rw [sumS,if_neg h,if_pos g]
   rw [e] at hq
   exact RetR.numV rfl hq
  ·have g:¬ y≤x:=fun h3=>of_decide_eq_false g (hv.2 h3)
   refine⟨(y,x),⟨eL y x,by show(canon y).length<_; omega,by show x≤y; omega⟩,⟨_,rfl⟩,?_⟩
   rintro _ rfl
   refine⟨(n,y - x),⟨eK n _,trivial⟩,⟨_,rfl⟩,?_⟩
   rintro _ rfl
   have e:sumS m x n y=(n,y - x):=by rw [sumS,if_neg h,if_neg g]
   rw [e] at hq
   exact RetR.numV rfl hq
theorem qA{x n:Nat}(h:x<B^n)(hn:n<100000):(canon x).length<100000:=by have:=z7 h; omega
theorem j9{s:List UInt8}(h:errI s=0):numI s<B^112:=jP.2 (yW h)
theorem zdv{x y:Nat}(hx:x<B^112)(hy:y<B^112):x+y<B^113∧x*y<B^224:=by
 constructor
 ·have:B^113=B^112*B:=Nat.pow_succ B 112
  have hB:B=1000000000:=rfl
  generalize B^112=p at *
  rw [this,hB]; omega
 ·have:B^224=B^112*B^112:=by rw [← Nat.pow_add]
  rw [this]
  exact Nat.mul_lt_mul_of_lt_of_lt hx hy
noncomputable def GAd:Nat→Option Ctr:=fun f=>if f=131 then some (ZZ) else if f=157 then some (sumC) else if f=132 then some (Jk) else if f=133 then some (YR) else if f=134 then some (uy) else none
theorem Us:∀ g c,GAd g=some c→zc Tryz.prog g c:=okIf VG (okIf zmp (okIf JE (okIf KN (okIf yO (zp)))))
def addC:Ctr:=ctrP true (fun p:List UInt8×List UInt8=>[.str p.1,.str p.2]) (fun p=>p.1.length<2^62∧p.2.length<2^62) (fun p r=>r=addI p.1 p.2) (fun _ r=>(.tup [.str r.1,.int .i64 r.2],[]))
def mulC:Ctr:=ctrP true (fun p:List UInt8×List UInt8=>[.str p.1,.str p.2]) (fun p=>p.1.length<2^62∧p.2.length<2^62) (fun p r=>r=mulI p.1 p.2) (fun _ r=>(.tup [.str r.1,.int .i64 r.2],[]))
def zkj:Ctr:=ctrP true (fun p:List UInt8×List UInt8=>[.str p.1,.str p.2]) (fun p=>p.1.length<2^62∧p.2.length<2^62) (fun p r=>r=Qb p.1 p.2) (fun _ r=>(.tup [.int .i64 r.1,.int .i64 r.2],[]))
theorem zm7:zc Tryz.prog 143 addC:=by
 refine zf (fn:=Tryz.f143) (c:=Tryz.f143.body.getD .skip) rfl rfl rfl fun p hp O w0 Q hq=> ?_
 obtain⟨s,t⟩:=p
 obtain⟨hs,ht⟩:=hp
 replace hq:=hq _ rfl
 simp only at hs ht hq
 refine zb.run hmix Us [] 400 (T:=.ex (fun(x:List UInt8×List UInt8)=>eqL [AV.str s,AV.str t] [AV.str x.1,AV.str x.2]∧x.1.length<4611686018427387904∧x.2.length<4611686018427387904) fun n=>.all (fun(r:Int×(Bool×Nat)×Bool×Nat)=>r=if zB n.1 n.2=0 then((0:Int),(negI n.1,numI n.1),negI n.2,numI n.2) else(zB n.1 n.2,(false,0),false,0)) fun n=>.ite (!decide (n.1=0)) (.leaf (.ret [.str #[].toList,.int .i64 n.1] [.box [.bool n.2.1.1,.sl (canon n.2.1.2).length 1 (natG .u32 (canon n.2.1.2))],.box [.bool n.2.2.1,.sl (canon n.2.2.2).length 1 (natG .u32 (canon n.2.2.2))]])) (.ex (fun(x:(Bool×Nat)×Bool×Nat)=>eqL [AV.agg [AV.bool n.2.1.1,AV.sl (canon n.2.1.2).length 1 (natG .u32 (canon n.2.1.2))],AV.agg [AV.bool n.2.2.1,AV.sl (canon n.2.2.2).length 1 (natG .u32 (canon n.2.2.2))]] [AV.agg [AV.bool x.1.1,AV.sl (canon x.1.2).length 1 (natG .u32 (canon x.1.2))],AV.agg [AV.bool x.2.1,AV.sl (canon x.2.2).length 1 (natG .u32 (canon x.2.2))]]∧List.length (canon x.1.2)<100000∧List.length (canon x.2.2)<100000) fun n_1=>.all (fun(r:Bool×Nat)=>r=(Prod.fst (sumS n_1.1.1 n_1.1.2 n_1.2.1 n_1.2.2)&&decide (0<Prod.snd (sumS n_1.1.1 n_1.1.2 n_1.2.1 n_1.2.2)),Prod.snd (sumS n_1.1.1 n_1.1.2 n_1.2.1 n_1.2.2))) fun n_2=>.ex (fun(x:Bool×Nat)=>eqL [AV.agg [AV.bool n_2.1,AV.sl (canon n_2.2).length 1 (natG .u32 (canon n_2.2))]] [AV.agg [AV.bool x.1,AV.sl (canon x.2).length 1 (natG .u32 (canon x.2))]]∧List.length (canon x.2)<1000000) fun n_3=>.all (fun(r:List UInt8×Int)=>r=wr n_3.1 n_3.2) fun n_4=>.leaf (.ret [.str n_4.1,.int .i64 n_4.2] [.box [.bool n.2.1.1,.sl (canon n.2.1.2).length 1 (natG .u32 (canon n.2.1.2))],.box [.bool n.2.2.1,.sl (canon n.2.2.2).length 1 (natG .u32 (canon n.2.2.2))]]))) (by kernel_rfl) ?_
 simp only [Tree.holds,zd]
 refine⟨(s,t),⟨by simp,by omega,by omega⟩,⟨_,rfl⟩,?_⟩
 rintro _ rfl
 simp only
 by_cases he:zB s t=0
 ·obtain⟨e1,e2⟩:=zK.1 he
  obtain⟨b1,b2⟩:=zdv (j9 e1) (j9 e2)
  have c1:=qA (j9 e1) (by decide)
  have c2:=qA (j9 e2) (by decide)
  simp only [if_pos he]
  refine⟨fun h=>(by simp at h),fun _=> ?_⟩
  refine⟨((negI s,numI s),(negI t,numI t)),⟨⟨⟨rfl,⟨rfl,rfl,za _ _ _⟩,trivial⟩,⟨rfl,⟨rfl,rfl,za _ _ _⟩,trivial⟩,trivial⟩,c1,c2⟩,⟨_,rfl⟩,?_⟩
  rintro _ rfl
  refine⟨((sumS (negI s) (numI s) (negI t) (numI t)).1&&decide (0<(sumS (negI s) (numI s) (negI t) (numI t)).2),(sumS (negI s) (numI s) (negI t) (numI t)).2),⟨⟨⟨rfl,⟨rfl,rfl,za _ _ _⟩,trivial⟩,trivial⟩,?_⟩,⟨_,rfl⟩,?_⟩
  ·have:=qA (Nat.lt_of_le_of_lt (ziv (negI s) (numI s) (negI t) (numI t)) b1) (by decide)
   show(canon (sumS (negI s) (numI s) (negI t) (numI t)).2).length<1000000
   omega
  rintro _ rfl
  rw [zj2]
  have e:addI s t=wr (sumS (negI s) (numI s) (negI t) (numI t)).1 (sumS (negI s) (numI s) (negI t) (numI t)).2:=if_pos he
  rw [e] at hq
  exact RetR.scal hq rfl (by simp [resV])
 ·simp only [if_neg he]
  refine⟨fun _=> ?_,fun h=>(by simp [he] at h)⟩
  have e:addI s t=([],zB s t):=if_neg he
  rw [e] at hq
  exact RetR.scal hq rfl (by simp [resV])
theorem zlr:zc Tryz.prog 92 mulC:=by
 refine zf (fn:=Tryz.f92) (c:=Tryz.f92.body.getD .skip) rfl rfl rfl fun p hp O w0 Q hq=> ?_
 obtain⟨s,t⟩:=p
 obtain⟨hs,ht⟩:=hp
 replace hq:=hq _ rfl
 simp only at hs ht hq
 refine zb.run hmix Us [] 400 (T:=.ex (fun(x:List UInt8×List UInt8)=>eqL [AV.str s,AV.str t] [AV.str x.1,AV.str x.2]∧x.1.length<4611686018427387904∧x.2.length<4611686018427387904) fun n=>.all (fun(r:Int×(Bool×Nat)×Bool×Nat)=>r=if zB n.1 n.2=0 then((0:Int),(negI n.1,numI n.1),negI n.2,numI n.2) else(zB n.1 n.2,(false,0),false,0)) fun n=>.ite (!decide (n.1=0)) (.leaf (.ret [.str #[].toList,.int .i64 n.1] [.box [.bool n.2.1.1,.sl (canon n.2.1.2).length 1 (natG .u32 (canon n.2.1.2))],.box [.bool n.2.2.1,.sl (canon n.2.2.2).length 1 (natG .u32 (canon n.2.2.2))]])) (.ex (fun(x:Nat×Nat)=>eqL [AV.sl (canon n.2.1.2).length 1 (natG .u32 (canon n.2.1.2)),AV.sl (canon n.2.2.2).length 1 (natG .u32 (canon n.2.2.2))] [AV.sl (canon x.1).length 1 (natG .u32 (canon x.1)),AV.sl (canon x.2).length 1 (natG .u32 (canon x.2))]∧fits x.1∧fits x.2) fun n_1=>.all (fun(p:Nat)=>p=n_1.1*n_1.2) fun n_2=>.ex (fun(x:Bool×Nat)=>eqL [AV.agg [AV.bool !Prod.fst n.2.1 == n.2.2.1,AV.sl (canon n_2).length 1 (zg (natG .u32 (padN (List.length (canon n_1.1)+List.length (canon n_1.2)) n_2)) 0)]] [AV.agg [AV.bool x.1,AV.sl (canon x.2).length 1 (natG .u32 (canon x.2))]]∧List.length (canon x.2)<1000000) fun n_3=>.all (fun(r:List UInt8×Int)=>r=wr n_3.1 n_3.2) fun n_4=>.leaf (.ret [.str n_4.1,.int .i64 n_4.2] [.box [.bool n.2.1.1,.sl (canon n.2.1.2).length 1 (natG .u32 (canon n.2.1.2))],.box [.bool n.2.2.1,.sl (canon n.2.2.2).length 1 (natG .u32 (canon n.2.2.2))],.arr (List.length (canon n_1.1)+List.length (canon n_1.2)) 1 (natG .u32 (padN (List.length (canon n_1.1)+List.length (canon n_1.2)) n_2))]))) (by kernel_rfl) ?_
 simp only [Tree.holds,zd]
 refine⟨(s,t),⟨by simp,by omega,by omega⟩,⟨_,rfl⟩,?_⟩
 rintro _ rfl
 simp only
 by_cases he:zB s t=0
 ·obtain⟨e1,e2⟩:=zK.1 he
  obtain⟨b1,b2⟩:=zdv (j9 e1) (j9 e2)
  have c1:=qA (j9 e1) (by decide)
  have c2:=qA (j9 e2) (by decide)
  simp only [if_pos he]
  refine⟨fun h=>(by simp at h),fun _=> ?_⟩
  refine⟨(numI s,numI t),⟨⟨⟨rfl,rfl,za _ _ _⟩,⟨rfl,rfl,za _ _ _⟩,trivial⟩,by show(canon (numI s)).length<1000000; omega,by show(canon (numI t)).length<1000000; omega⟩,⟨_,rfl⟩,?_⟩
  rintro _ rfl
  refine⟨(negI s != negI t,numI s*numI t),⟨⟨⟨rfl,⟨rfl,rfl,fun j o hj ho=>by simp only [zg,natG,Nat.zero_add,padN,xh hj]⟩,trivial⟩,trivial⟩,?_⟩,⟨_,rfl⟩,?_⟩
  ·have:=qA b2 (by decide)
   show(canon (numI s*numI t)).length<1000000
   omega
  rintro _ rfl
  have e:mulI s t=wr (negI s != negI t) (numI s*numI t):=if_pos he
  rw [e] at hq
  exact RetR.scal hq rfl (by simp [resV])
 ·simp only [if_neg he]
  refine⟨fun _=> ?_,fun h=>(by simp [he] at h)⟩
  have e:mulI s t=([],zB s t):=if_neg he
  rw [e] at hq
  exact RetR.scal hq rfl (by simp [resV])
theorem zk5:zc Tryz.prog 93 zkj:=by
 refine zf (fn:=Tryz.f93) (c:=Tryz.f93.body.getD .skip) rfl rfl rfl fun p hp O w0 Q hq=> ?_
 obtain⟨s,t⟩:=p
 obtain⟨hs,ht⟩:=hp
 replace hq:=hq _ rfl
 simp only at hs ht hq
 refine zb.run hmix Us [] 400 (T:=.ex (fun(x:List UInt8×List UInt8)=>eqL [AV.str s,AV.str t] [AV.str x.1,AV.str x.2]∧x.1.length<4611686018427387904∧x.2.length<4611686018427387904) fun n=>.all (fun(r:Int×(Bool×Nat)×Bool×Nat)=>r=if zB n.1 n.2=0 then((0:Int),(negI n.1,numI n.1),negI n.2,numI n.2) else(zB n.1 n.2,(false,0),false,0)) fun n=>.ite (!decide (n.1=0)) (.leaf (.ret [.int .i64 0,.int .i64 n.1] [.box [.bool n.2.1.1,.sl (canon n.2.1.2).length 1 (natG .u32 (canon n.2.1.2))],.box [.bool n.2.2.1,.sl (canon n.2.2.2).length 1 (natG .u32 (canon n.2.2.2))]])) (.ite (bif n.2.1.1 then !Prod.fst n.2.2 else false) (.leaf (.ret [.int .i64 (-1:Int),.int .i64 0] [.box [.bool n.2.1.1,.sl (canon n.2.1.2).length 1 (natG .u32 (canon n.2.1.2))],.box [.bool n.2.2.1,.sl (canon n.2.2.2).length 1 (natG .u32 (canon n.2.2.2))]])) (.ite (bif n.2.2.1 then !Prod.fst n.2.1 else false) (.leaf (.ret [.int .i64 1,.int .i64 0] [.box [.bool n.2.1.1,.sl (canon n.2.1.2).length 1 (natG .u32 (canon n.2.1.2))],.box [.bool n.2.2.1,.sl (canon n.2.2.2).length 1 (natG .u32 (canon n.2.2.2))]])) (.ite n.2.1.1 (.ex (fun(x:Nat×Nat)=>eqL [AV.sl (canon n.2.2.2).length 1 (natG .u32 (canon n.2.2.2)),AV.sl (canon n.2.1.2).length 1 (natG .u32 (canon n.2.1.2))] [AV.sl (canon x.1).length 1 (natG .u32 (canon x.1)),AV.sl (canon x.2).length 1 (natG .u32 (canon x.2))]∧fits x.1∧fits x.2) fun n_1=>.all (fun(r:Int)=>r=cmp3 n_1.1 n_1.2) fun n_2=>.leaf (.ret [.int .i64 n_2,.int .i64 0] [.box [.bool n.2.1.1,.sl (canon n.2.1.2).length 1 (natG .u32 (canon n.2.1.2))],.box [.bool n.2.2.1,.sl (canon n.2.2.2).length 1 (natG .u32 (canon n.2.2.2))]])) (.ex (fun(x:Nat×Nat)=>eqL [AV.sl (canon n.2.1.2).length 1 (natG .u32 (canon n.2.1.2)),AV.sl (canon n.2.2.2).length 1 (natG .u32 (canon n.2.2.2))] [AV.sl (canon x.1).length 1 (natG .u32 (canon x.1)),AV.sl (canon x.2).length 1 (natG .u32 (canon x.2))]∧fits x.1∧fits x.2) fun n_1=>.all (fun(r:Int)=>r=cmp3 n_1.1 n_1.2) fun n_2=>.leaf (.ret [.int .i64 n_2,.int .i64 0] [.box [.bool n.2.1.1,.sl (canon n.2.1.2).length 1 (natG .u32 (canon n.2.1.2))],.box [.bool n.2.2.1,.sl (canon n.2.2.2).length 1 (natG .u32 (canon n.2.2.2))]])))))) (by kernel_rfl) ?_
 simp only [Tree.holds,zd]
 refine⟨(s,t),⟨by simp,by omega,by omega⟩,⟨_,rfl⟩,?_⟩
 rintro _ rfl
 simp only
 by_cases he:zB s t=0
 ·obtain⟨e1,e2⟩:=zK.1 he
  obtain⟨b1,b2⟩:=zdv (j9 e1) (j9 e2)
  have c1:=qA (j9 e1) (by decide)
  have c2:=qA (j9 e2) (by decide)
  simp only [if_pos he]
  refine⟨fun h=>(by simp at h),fun _=> ?_⟩
  have e:Qb s t=(cmpZ (negI s) (numI s) (negI t) (numI t),0):=if_pos he
  rw [e] at hq
  have ec:∀ a b:Nat,cmp3 a b=cmpN a b:=fun _ _=>rfl
  simp only [cmpZ] at hq
  have f1:fits (numI s):=by show(canon (numI s)).length<1000000; omega
  have f2:fits (numI t):=by show(canon (numI t)).length<1000000; omega
  refine⟨fun h=> ?_,fun h1=>⟨fun h=> ?_,fun h2=>⟨fun h=>⟨(numI t,numI s),⟨⟨⟨rfl,rfl,za _ _ _⟩,⟨rfl,rfl,za _ _ _⟩,trivial⟩,f2,f1⟩,⟨_,rfl⟩,?_⟩,fun h=>⟨(numI s,numI t),⟨⟨⟨rfl,rfl,za _ _ _⟩,⟨rfl,rfl,za _ _ _⟩,trivial⟩,f1,f2⟩,⟨_,rfl⟩,?_⟩⟩⟩⟩
  ·cases hm:negI s<;>cases hn:negI t<;>rw [hm,hn] at h hq<;>first | (cases h; done) | exact RetR.scal hq rfl (by simp [resV])
  ·cases hm:negI s<;>cases hn:negI t<;>rw [hm,hn] at h h1 hq<;>first | (cases h; done) | (cases h1; done) | exact RetR.scal hq rfl (by simp [resV])
  ·rintro _ rfl
   rw [ec]
   cases hm:negI s<;>cases hn:negI t<;>rw [hm,hn] at h1 h2 hq<;>rw [hm] at h<;>first | (cases h; done) | (cases h1; done) | (cases h2; done) | exact RetR.scal hq rfl (by simp [resV])
  ·rintro _ rfl
   rw [ec]
   cases hm:negI s<;>cases hn:negI t<;>rw [hm,hn] at h1 h2 hq<;>rw [hm] at h<;>first | (cases h; done) | (cases h1; done) | (cases h2; done) | exact RetR.scal hq rfl (by simp [resV])
 ·simp only [if_neg he]
  refine⟨fun _=> ?_,fun h=>(by simp [he] at h)⟩
  have e:Qb s t=(0,zB s t):=if_neg he
  rw [e] at hq
  exact RetR.scal hq rfl (by simp [resV])
def dmC:Ctr:=ctrP true (fun p:List UInt8×List UInt8=>[.str p.1,.str p.2]) (fun p=>p.1.length<2^62∧p.2.length<2^62) (fun p r=>r=dmI p.1 p.2) (fun _ r=>(.tup [.str r.1,.str r.2.1,.int .i64 r.2.2],[]))
noncomputable def GDm:Nat→Option Ctr:=fun f=>if f=131 then some (ZZ) else if f=137 then some (uI) else if f=164 then some (zau) else if f=152 then some (VH) else if f=132 then some (Jk) else none
theorem zlz:∀ g c,GDm g=some c→zc Tryz.prog g c:=okIf VG (okIf WO (okIf za6 (okIf Jz (okIf JE (zp)))))
theorem zcp:zc Tryz.prog 162 dmC:=by
 refine zf (fn:=Tryz.f162) (c:=Tryz.f162.body.getD .skip) rfl rfl rfl fun p hp O w0 Q hq=> ?_
 obtain⟨s,t⟩:=p
 obtain⟨hs,ht⟩:=hp
 replace hq:=hq _ rfl
 simp only at hs ht hq
 refine zb.run hmix zlz [] 400 (T:=.ex (fun(x:List UInt8×List UInt8)=>eqL [AV.str s,AV.str t] [AV.str x.1,AV.str x.2]∧x.1.length<4611686018427387904∧x.2.length<4611686018427387904) fun n=>.all (fun(r:Int×(Bool×Nat)×Bool×Nat)=>r=if zB n.1 n.2=0 then((0:Int),(negI n.1,numI n.1),negI n.2,numI n.2) else(zB n.1 n.2,(false,0),false,0)) fun n=>.ite (!decide (n.1=0)) (.leaf (.ret [.str #[].toList,.str #[].toList,.int .i64 n.1] [.box [.bool n.2.1.1,.sl (canon n.2.1.2).length 1 (natG .u32 (canon n.2.1.2))],.box [.bool n.2.2.1,.sl (canon n.2.2.2).length 1 (natG .u32 (canon n.2.2.2))]])) (.ite (decide ((↑(canon n.2.2.2).length:Int)=0)) (.leaf (.ret [.str #[].toList,.str #[].toList,.int .i64 16] [.box [.bool n.2.1.1,.sl (canon n.2.1.2).length 1 (natG .u32 (canon n.2.1.2))],.box [.bool n.2.2.1,.sl (canon n.2.2.2).length 1 (natG .u32 (canon n.2.2.2))]])) (.ex (fun(x:Nat×Nat)=>eqL [AV.sl (canon n.2.1.2).length 1 (natG .u32 (canon n.2.1.2)),AV.sl (canon n.2.2.2).length 1 (natG .u32 (canon n.2.2.2))] [AV.sl (canon x.1).length 1 (natG .u32 (canon x.1)),AV.sl (canon x.2).length 1 (natG .u32 (canon x.2))]∧List.length (canon x.1)<100000∧List.length (canon x.2)<100000∧0<x.2) fun n_1=>.all (fun(r:Nat×Nat)=>r=(n_1.1/n_1.2,n_1.1%n_1.2)) fun n_2=>.ite (bif n.2.1.1 then decide ((0:Int)<(↑(canon n_2.2).length:Int)) else false) (.ex (fun(x:Nat×Nat)=>eqL [AV.sl (canon n_2.1).length 1 (natG .u32 (canon n_2.1)),AV.sl 1 1 (zg (zh 1 [AV.int .u32 1]) 0)] [AV.sl (canon x.1).length 1 (natG .u32 (canon x.1)),AV.sl (canon x.2).length 1 (natG .u32 (canon x.2))]∧List.length (canon x.1)<100000∧List.length (canon x.2)<100000) fun n_3=>.all (fun(d:Nat)=>d=n_3.1+n_3.2) fun n_4=>.ex (fun(x:Nat×Nat)=>eqL [AV.sl (canon n.2.2.2).length 1 (natG .u32 (canon n.2.2.2)),AV.sl (canon n_2.2).length 1 (natG .u32 (canon n_2.2))] [AV.sl (canon x.1).length 1 (natG .u32 (canon x.1)),AV.sl (canon x.2).length 1 (natG .u32 (canon x.2))]∧fits x.1∧x.2≤x.1) fun n_5=>.all (fun(d:Nat)=>d=n_5.1 - n_5.2) fun n_6=>.ex (fun(x:Bool×Nat)=>eqL [AV.agg [AV.bool !Prod.fst n.2.1 == n.2.2.1,AV.sl (canon n_4).length 1 (natG .u32 (canon n_4))]] [AV.agg [AV.bool x.1,AV.sl (canon x.2).length 1 (natG .u32 (canon x.2))]]∧List.length (canon x.2)<1000000) fun n_7=>.all (fun(r:List UInt8×Int)=>r=wr n_7.1 n_7.2) fun n_8=>.ite (!decide (n_8.2=0)) (.leaf (.ret [.str #[].toList,.str #[].toList,.int .i64 n_8.2] [.box [.bool n.2.1.1,.sl (canon n.2.1.2).length 1 (natG .u32 (canon n.2.1.2))],.box [.bool n.2.2.1,.sl (canon n.2.2.2).length 1 (natG .u32 (canon n.2.2.2))],.arr 1 1 (zh 1 [.int .u32 1])])) (.ex (fun(x:Bool×Nat)=>eqL [AV.agg [AV.bool false,AV.sl (canon n_6).length 1 (natG .u32 (canon n_6))]] [AV.agg [AV.bool x.1,AV.sl (canon x.2).length 1 (natG .u32 (canon x.2))]]∧List.length (canon x.2)<1000000) fun n_9=>.all (fun(r:List UInt8×Int)=>r=wr n_9.1 n_9.2) fun n_10=>.leaf (.ret [.str n_8.1,.str n_10.1,.int .i64 0] [.box [.bool n.2.1.1,.sl (canon n.2.1.2).length 1 (natG .u32 (canon n.2.1.2))],.box [.bool n.2.2.1,.sl (canon n.2.2.2).length 1 (natG .u32 (canon n.2.2.2))],.arr 1 1 (zh 1 [.int .u32 1])]))) (.ex (fun(x:Bool×Nat)=>eqL [AV.agg [AV.bool !Prod.fst n.2.1 == n.2.2.1,AV.sl (canon n_2.1).length 1 (natG .u32 (canon n_2.1))]] [AV.agg [AV.bool x.1,AV.sl (canon x.2).length 1 (natG .u32 (canon x.2))]]∧List.length (canon x.2)<1000000) fun n_3=>.all (fun(r:List UInt8×Int)=>r=wr n_3.1 n_3.2) fun n_4=>.ite (!decide (n_4.2=0)) (.leaf (.ret [.str #[].toList,.str #[].toList,.int .i64 n_4.2] [.box [.bool n.2.1.1,.sl (canon n.2.1.2).length 1 (natG .u32 (canon n.2.1.2))],.box [.bool n.2.2.1,.sl (canon n.2.2.2).length 1 (natG .u32 (canon n.2.2.2))]])) (.ex (fun(x:Bool×Nat)=>eqL [AV.agg [AV.bool false,AV.sl (canon n_2.2).length 1 (natG .u32 (canon n_2.2))]] [AV.agg [AV.bool x.1,AV.sl (canon x.2).length 1 (natG .u32 (canon x.2))]]∧List.length (canon x.2)<1000000) fun n_5=>.all (fun(r:List UInt8×Int)=>r=wr n_5.1 n_5.2) fun n_6=>.leaf (.ret [.str n_4.1,.str n_6.1,.int .i64 0] [.box [.bool n.2.1.1,.sl (canon n.2.1.2).length 1 (natG .u32 (canon n.2.1.2))],.box [.bool n.2.2.1,.sl (canon n.2.2.2).length 1 (natG .u32 (canon n.2.2.2))]])))))) (by kernel_rfl) ?_
 simp only [Tree.holds,zd]
 refine⟨(s,t),⟨by simp,by omega,by omega⟩,⟨_,rfl⟩,?_⟩
 rintro _ rfl
 simp only
 by_cases he:zB s t=0
 ·obtain⟨e1,e2⟩:=zK.1 he
  have c1:=qA (j9 e1) (by decide)
  have c2:=qA (j9 e2) (by decide)
  simp only [if_pos he]
  refine⟨fun h=>(by simp at h),fun _=> ?_⟩
  refine⟨fun h0=> ?_,fun h0=> ?_⟩
  ·have h0:numI t=0:=yv.1 (by have:=of_decide_eq_true h0; omega)
   have e:dmI s t=([],[],16):=by rw [dmI,if_neg (by rw [he]; decide),if_pos h0]
   rw [e] at hq
   exact RetR.scal hq rfl (by simp [resV])
  have h0:numI t≠0:=fun h=>of_decide_eq_false h0 (by rw [yv.2 h]; rfl)
  have e:dmI s t=((wr (negI s != negI t) (dmQ s t)).1,(wr false (dmM s t)).1,0):=by rw [dmI,if_neg (by rw [he]; decide),if_neg h0]
  rw [e] at hq
  have rq:=zf4 e1 h0
  have rm:=zh3 (s:=s) e2 h0
  have eL:∀ a b:Nat,eqL [AV.sl (canon a).length 1 (natG .u32 (canon a)),AV.sl (canon b).length 1 (natG .u32 (canon b))] [AV.sl (canon a).length 1 (natG .u32 (canon a)),AV.sl (canon b).length 1 (natG .u32 (canon b))]:=fun a b=>⟨⟨rfl,rfl,za _ _ _⟩,⟨rfl,rfl,za _ _ _⟩,trivial⟩
  have eV:∀ (b:Bool) (a:Nat),eqL [.agg [AV.bool b,AV.sl (canon a).length 1 (natG .u32 (canon a))]] [.agg [AV.bool b,AV.sl (canon a).length 1 (natG .u32 (canon a))]]:=fun b a=>⟨⟨rfl,⟨rfl,rfl,za _ _ _⟩,trivial⟩,trivial⟩
  have big:∀ {a:Nat},room a→(canon a).length<1000000:=fun {a} h=>by
   obtain⟨h3,h4,_⟩:=Vb (xm (neg:=false) h)
   have:=qA (j9 h3) (by decide)
   rw [h4] at this; omega
  refine⟨(numI s,numI t),⟨eL _ _,c1,c2,Nat.pos_of_ne_zero h0⟩,⟨_,rfl⟩,?_⟩
  rintro _ rfl
  simp only
  rw [K5]
  have hmod:=Nat.mod_lt (numI s) (Nat.pos_of_ne_zero h0)
  refine⟨fun hc=> ?_,fun hc=> ?_⟩
  ·have hc:negI s=true∧0<numI s%numI t:=by
    cases hn:negI s with
    | false=>rw [hn] at hc; cases hc
    | true=>rw [hn] at hc; exact⟨rfl,of_decide_eq_true hc⟩
   have eQ:dmQ s t=numI s/numI t+1:=if_pos hc
   have eM:dmM s t=numI t - numI s%numI t:=if_pos hc
   rw [eQ,eM] at hq
   rw [eQ] at rq
   rw [eM] at rm
   have hone:canon 1=[1]:=by
    rw [jb (by decide)]
    exact congrArg (1 :: ·) zT
   have rdiv:=room_le (Nat.div_le_self (numI s) (numI t)) (wW e1)
   have hdl:(canon (numI s/numI t)).length<100000:=by
    have:=qA (Nat.lt_of_le_of_lt (Nat.div_le_self (numI s) (numI t)) (j9 e1)) (by decide)
    exact this
   refine⟨(numI s/numI t,1),⟨⟨⟨rfl,rfl,za _ _ _⟩,⟨by rw [hone]; rfl,rfl,?_⟩,trivial⟩,hdl,by show(canon 1).length<100000; rw [hone]; decide⟩,⟨_,rfl⟩,?_⟩
   ·intro j o hj ho
    have:j=0:=by omega
    subst this
    have:o=0:=by omega
    subst this
    show AV.int .u32 1 = .int .u32 (((canon 1).getD 0 0:Nat):Int)
    rw [hone]; rfl
   rintro _ rfl
   refine⟨(numI t,numI s%numI t),⟨eL _ _,by show(canon (numI t)).length<1000000; omega,by show numI s%numI t≤numI t; omega⟩,⟨_,rfl⟩,?_⟩
   rintro _ rfl
   refine⟨(negI s != negI t,numI s/numI t+1),⟨eV _ _,big rq⟩,⟨_,rfl⟩,?_⟩
   rintro _ rfl
   have hz:=xm (neg:=(negI s != negI t)) rq
   refine⟨fun h=>by simp [hz] at h,fun _=>⟨(false,numI t - numI s%numI t),⟨eV _ _,big rm⟩,⟨_,rfl⟩,?_⟩⟩
   rintro _ rfl
   exact RetR.scal hq rfl (by simp [resV])
  ·have hc:¬ (negI s=true∧0<numI s%numI t):=by
    rintro⟨g1,g2⟩
    rw [g1,decide_eq_true g2] at hc
    cases hc
   have eQ:dmQ s t=numI s/numI t:=if_neg hc
   have eM:dmM s t=numI s%numI t:=if_neg hc
   rw [eQ,eM] at hq
   rw [eQ] at rq
   rw [eM] at rm
   refine⟨(negI s != negI t,numI s/numI t),⟨eV _ _,big rq⟩,⟨_,rfl⟩,?_⟩
   rintro _ rfl
   have hz:=xm (neg:=(negI s != negI t)) rq
   refine⟨fun h=>by simp [hz] at h,fun _=>⟨(false,numI s%numI t),⟨eV _ _,big rm⟩,⟨_,rfl⟩,?_⟩⟩
   rintro _ rfl
   exact RetR.scal hq rfl (by simp [resV])
 ·simp only [if_neg he]
  refine⟨fun _=> ?_,fun h=>(by simp [he] at h)⟩
  have e:dmI s t=([],[],zB s t):=if_pos he
  rw [e] at hq
  exact RetR.scal hq rfl (by simp [resV])
def ze4:Ctr:=ctrP true (fun s:List UInt8=>[.str s]) (fun s=>s.length<2^62) (fun s r=>r=if errR s=0 then(numR s,denR s,0) else([],[],errR s)) (fun _ (r:List UInt8×List UInt8×Int)=>(.tup [.str r.1,.str r.2.1,.int .i64 r.2.2],[]))
noncomputable def GPa:Nat→Option Ctr:=fun f=>if f=50 then some (Qo) else if f=96 then some (YK) else none
theorem zm2:∀ g c,GPa g=some c→zc Tryz.prog g c:=okIf Z7 (okIf KM (zp))
theorem zg9:zc Tryz.prog 129 ze4:=by
 refine zf (fn:=Tryz.f129) (c:=Tryz.f129.body.getD .skip) rfl rfl rfl fun s hs O w0 Q hq=> ?_
 replace hq:=hq _ rfl
 refine zb.run hmix zm2 [] 400 (T:=.ex (fun(x:List UInt8)=>eqL [AV.str s] [AV.str x]∧x.length<4611686018427387904) fun n=>.all (fun(r:Int)=>r=errR n) fun n=>.ite (!decide (n=0)) (.leaf (.ret [.str #[].toList,.str #[].toList,.int .i64 n] [])) (.ex (fun(x:List UInt8)=>eqL [AV.str s] [AV.str x]∧x.length<4611686018427387904) fun n=>.all (fun(r:List UInt8×List UInt8×Bool)=>r=cutR n) fun n=>.ite (!Prod.snd n.2) (.leaf (.ret [.str n.1,.str #[(49:UInt8)].toList,.int .i64 0] [])) (.leaf (.ret [.str n.1,.str n.2.1,.int .i64 0] [])))) (by kernel_rfl) ?_
 simp only [Tree.holds,zd]
 refine⟨s,⟨by simp,hs⟩,⟨_,rfl⟩,?_⟩
 rintro _ rfl
 refine⟨fun h=> ?_,fun h=>⟨s,⟨by simp,hs⟩,⟨_,rfl⟩,?_⟩⟩
 ·have h:errR s≠0:=by simpa using h
  rw [if_neg h] at hq
  exact RetR.scal hq rfl (by simp [resV])
 ·have h:errR s=0:=by simpa using h
  rw [if_pos h] at hq
  rintro _ rfl
  refine⟨fun g=> ?_,fun g=> ?_⟩
  ·have e:denR s=[49]:=by unfold denR; rw [if_neg (by simpa using g)]
   rw [e] at hq
   exact RetR.scal hq rfl (by simp [resV,numR])
  ·have e:denR s=(cutR s).2.1:=by unfold denR; rw [if_pos (by simpa using g)]
   rw [e] at hq
   exact RetR.scal hq rfl (by simp [resV,numR])
def zav:Ctr:=ctrP true (fun p:List UInt8×List UInt8=>[.str p.1,.str p.2]) (fun p=>p.1.length<2^62∧p.2.length<2^62) (fun p r=>r=xF p.1 p.2) (fun _ r=>(.tup [.str r.1,.int .i64 r.2],[]))
noncomputable def GMk:Nat→Option Ctr:=fun f=>if f=99 then some (gcdC) else if f=162 then some (dmC) else none
theorem zmm:∀ g c,GMk g=some c→zc Tryz.prog g c:=okIf zfm (okIf zcp (zp))
theorem zid:zc Tryz.prog 156 zav:=by
 refine zf (fn:=Tryz.f156) (c:=Tryz.f156.body.getD .skip) rfl rfl rfl fun p hp O w0 Q hq=> ?_
 obtain⟨s,t⟩:=p
 obtain⟨hs,ht⟩:=hp
 replace hq:=hq _ rfl
 simp only at hs ht hq
 refine zb.run hmix zmm [] 400 (T:=.ex (fun(x:List UInt8×List UInt8)=>eqL [AV.str s,AV.str t] [AV.str x.1,AV.str x.2]∧x.1.length<4611686018427387904∧x.2.length<4611686018427387904) fun n=>.all (fun(r:List UInt8×Int)=>r=gcdR n.1 n.2) fun n=>.ite (!decide (n.2=0)) (.leaf (.ret [.str #[].toList,.int .i64 n.2] [])) (.ite (decide (t=#[(48:UInt8)].toList)) (.leaf (.ret [.str #[].toList,.int .i64 16] [])) (.side ((0:Int)≤0∧(0:Int)<t.length) (.ite (decide ((↑(UInt8.toNat (t.getD 0 (0:UInt8))):Int)=45)) (.side (1+n.1.length≤9223372036854775807) (.ex (fun(x:List UInt8×List UInt8)=>eqL [AV.str s,AV.str (#[(45:UInt8)].toList++n.1)] [AV.str x.1,AV.str x.2]∧x.1.length<4611686018427387904∧x.2.length<4611686018427387904) fun n_1=>.all (fun(r:List UInt8×List UInt8×Int)=>r=dmI n_1.1 n_1.2) fun n_2=>.ex (fun(x:List UInt8×List UInt8)=>eqL [AV.str t,AV.str (#[(45:UInt8)].toList++n.1)] [AV.str x.1,AV.str x.2]∧x.1.length<4611686018427387904∧x.2.length<4611686018427387904) fun n=>.all (fun(r:List UInt8×List UInt8×Int)=>r=dmI n.1 n.2) fun n=>.ite (decide (n.1=#[(49:UInt8)].toList)) (.leaf (.ret [.str n_2.1,.int .i64 0] [])) (.side (n_2.1.length+1≤9223372036854775807) (.side (List.length (n_2.1++#[(47:UInt8)].toList)+n.1.length≤9223372036854775807) (.leaf (.ret [.str (n_2.1++#[(47:UInt8)].toList++n.1),.int .i64 0] [])))))) (.ex (fun(x:List UInt8×List UInt8)=>eqL [AV.str s,AV.str n.1] [AV.str x.1,AV.str x.2]∧x.1.length<4611686018427387904∧x.2.length<4611686018427387904) fun n_1=>.all (fun(r:List UInt8×List UInt8×Int)=>r=dmI n_1.1 n_1.2) fun n_2=>.ex (fun(x:List UInt8×List UInt8)=>eqL [AV.str t,AV.str n.1] [AV.str x.1,AV.str x.2]∧x.1.length<4611686018427387904∧x.2.length<4611686018427387904) fun n=>.all (fun(r:List UInt8×List UInt8×Int)=>r=dmI n.1 n.2) fun n=>.ite (decide (n.1=#[(49:UInt8)].toList)) (.leaf (.ret [.str n_2.1,.int .i64 0] [])) (.side (n_2.1.length+1≤9223372036854775807) (.side (List.length (n_2.1++#[(47:UInt8)].toList)+n.1.length≤9223372036854775807) (.leaf (.ret [.str (n_2.1++#[(47:UInt8)].toList++n.1),.int .i64 0] []))))))))) (by kernel_rfl) ?_
 simp only [Tree.holds,zd,inR,lo,hi,Int.toNat_natCast]
 refine⟨(s,t),⟨by simp,by omega,by omega⟩,⟨_,rfl⟩,?_⟩
 rintro _ rfl
 by_cases he:zB s t=0
 ·obtain⟨e1,e2⟩:=zK.1 he
  have eg:gcdR s t=wr false (Nat.gcd (numI s) (numI t)):=if_pos he
  by_cases h0:numI t=0
  ·have ht0:t=[48]:=(xG e2).2 h0
   have hg0:Nat.gcd (numI s) (numI t)=numI s:=by rw [h0,Nat.gcd_zero_right]
   have hz:(gcdR s t).2=0:=by rw [eg,hg0]; exact xm (wW e1)
   have e:xF s t=([],16):=by rw [xF,if_neg (by rw [he]; decide),if_pos h0]
   rw [e] at hq
   refine⟨fun h=>(by simp [hz] at h),fun _=>⟨fun _=>RetR.scal hq rfl (by simp [resV]),fun h=>(by simp [ht0] at h)⟩⟩
  ·obtain⟨g0,gr⟩:=XC (s:=s) e2 h0
   have hz:(gcdR s t).2=0:=by rw [eg]; exact xm gr
   have ht0:t≠[48]:=fun h=>h0 ((xG e2).1 h)
   have htn:t≠[]:=by rintro rfl; simp [XX] at e2
   have hneg:=W7 htn
   have e:xF s t=(zg5 (negI s != negI t) (numI s) (numI t),0):=by rw [xF,if_neg (by rw [he]; decide),if_neg h0]
   rw [e,zg5] at hq
   have ds:Nat.gcd (numI s) (numI t) ∣ numI s:=Nat.gcd_dvd_left _ _
   have dt:Nat.gcd (numI s) (numI t) ∣ numI t:=Nat.gcd_dvd_right _ _
   generalize hgg:Nat.gcd (numI s) (numI t)=g at *
   have rt:=room_le (Nat.div_le_self (numI t) g) (wW e2)
   have l1:=yQ false g
   have l2:=yQ true g
   have fin:∀ b:Bool,b=negI t→∀ (z w:List UInt8×List UInt8×Int),z=dmI s (wr b g).1→w=dmI t (wr b g).1 →
     (decide (w.1=[49])=true→RetR zav 0 Q [.str z.1,.int .i64 0] [])∧(decide (w.1=[49])=false→z.1.length+1≤9223372036854775807∧(z.1.length+1≤9223372036854775807→(z.1++[47]).length+w.1.length≤9223372036854775807∧((z.1++[47]).length+w.1.length≤9223372036854775807→RetR zav 0 Q [.str (z.1++[47]++w.1),.int .i64 0] []))):=by
    rintro b rfl z w rfl rfl
    rw [Xl e1 g0 gr ds,Xl e2 g0 gr dt]
    simp only
    have:(negI t != negI t)=false:=by simp
    rw [this]
    have k1:=yQ (negI s != negI t) (numI s/g)
    have k2:=yQ false (numI t/g)
    refine⟨fun h=> ?_,fun h=>⟨by omega,fun _=>⟨by simp; omega,fun _=> ?_⟩⟩⟩
    ·have h1:=(Uw rt).1 (of_decide_eq_true h)
     rw [if_pos h1] at hq
     exact RetR.scal hq rfl (by simp [resV])
    ·have h1:¬ numI t/g=1:=fun h1=>of_decide_eq_false h ((Uw rt).2 h1)
     rw [if_neg h1] at hq
     exact RetR.scal hq rfl (by simp [resV])
   rw [eg] at hz ⊢
   refine⟨fun h=>(by simp [hz] at h),fun _=>⟨fun h=>absurd (of_decide_eq_true h) ht0,fun _=>⟨⟨by omega,by have:=List.length_pos_iff.2 htn; omega⟩,fun _=>⟨fun hb=>⟨by omega,fun _=> ?_⟩,fun hb=> ?_⟩⟩⟩⟩
   ·have hn:negI t=true:=by
     rw [hneg,decide_eq_true_eq]
     exact ZY (of_decide_eq_true hb)
    rw [zf5 g0 gr]
    refine⟨(s,(wr true g).1),⟨by simp,by show s.length<_; omega,by show(wr true g).1.length<_; omega⟩,⟨_,rfl⟩,?_⟩
    intro z hz
    refine⟨(t,(wr true g).1),⟨by simp,by show t.length<_; omega,by show(wr true g).1.length<_; omega⟩,⟨_,rfl⟩,?_⟩
    intro w hw
    exact fin true hn.symm z w hz hw
   ·have hn:negI t=false:=by
     rw [hneg,decide_eq_false_iff_not]
     intro h
     apply of_decide_eq_false hb
     rw [h]; rfl
    refine⟨(s,(wr false g).1),⟨by simp,by show s.length<_; omega,by show(wr false g).1.length<_; omega⟩,⟨_,rfl⟩,?_⟩
    intro z hz
    refine⟨(t,(wr false g).1),⟨by simp,by show t.length<_; omega,by show(wr false g).1.length<_; omega⟩,⟨_,rfl⟩,?_⟩
    intro w hw
    exact fin false hn.symm z w hz hw
 ·have eg:gcdR s t=([],zB s t):=if_neg he
  have e:xF s t=([],zB s t):=if_pos he
  rw [e] at hq
  rw [eg]
  exact⟨fun _=>RetR.scal hq rfl (by simp [resV]),fun h=>by simp [he] at h⟩
noncomputable def K90:List Go.Sx.Item:=[.code (Tryz.f90.body.getD .skip)]
structure Pr where
 n:List UInt8
 m:List UInt8
 d:List UInt8
 c:List UInt8
 e:Int
def Pr.box(p:Pr):Blk:=.box [.str p.n,.str p.m,.str p.d,.str p.c,.int .i64 p.e]
def Pr.err(p:Pr)(e:Int):Pr:=⟨p.n,p.m,p.d,p.c,e⟩
inductive QOp where
 | add | sub | mul
def QOp.fn:QOp→Nat
 | .add=>143
 | .sub=>999999
 | .mul=>92
def QOp.has:QOp→Prop
 | .sub=>False
 | _=>True
def QOp.op:QOp→List UInt8→List UInt8→List UInt8×Int
 | .add=>addI
 | .sub=>subI
 | .mul=>mulI
def jO(a b:List UInt8):Pr:=if errR a≠0 then⟨[],[],[],[],errR a⟩ else if errR b≠0 then⟨numR a,[],denR a,[],errR b⟩ else⟨numR a,numR b,denR a,denR b,0⟩
def zhq:Ctr:=ctrT false false (fun p:List UInt8×List UInt8=>[.str p.1,.str p.2]) (fun _=>[]) (fun p=>p.1.length<2^62∧p.2.length<2^62) (fun p r=>r=jO p.1 p.2) (fun _ (r:Pr)=>(.ptr 0 0,[r.box]))
def zep:Ctr:=ctrT false false (fun p:Pr×QOp=>[.ptr 0 0,.fn p.2.fn [] []]) (fun p=>[p.1.box]) (fun _=>True) (fun _ (_:Unit)=>True) (fun p _=>(.fn 130 [] [.ptr 1 0,.ptr 2 0],[p.1.box,.box [.ptr 0 0],.box [.fn p.2.fn [] []]]))
structure KX where
 p:Pr
 o:QOp
 x:List UInt8
 y:List UInt8
def Yz:Ctr:=ctrT false false (fun k:KX=>[.str k.x,.str k.y,.ptr 0 0,.ptr 2 0]) (fun k=>[.box [.ptr 1 0],k.p.box,.box [.fn k.o.fn [] []]]) (fun k=>k.x.length<2^62∧k.y.length<2^62∧k.o.has) (fun k r=>r=if k.p.e≠0 then([],k.p.e) else k.o.op k.x k.y)
 (fun k (r:List UInt8×Int)=>(.str r.1,[.box [.ptr 1 0],(k.p.err r.2).box,.box [.fn k.o.fn [] []]]))
def zdj:Ctr:=ctrT false false (fun k:Pr×List UInt8×List UInt8=>[.ptr 0 0,.str k.2.1,.str k.2.2]) (fun k=>[k.1.box]) (fun k=>k.2.1.length<2^62∧k.2.2.length<2^62) (fun k r=>r=if k.1.e≠0 then([],k.1.e) else xF k.2.1 k.2.2)
 (fun k (r:List UInt8×Int)=>(.tup [.str r.1,.int .i64 r.2],[k.1.box]))
theorem zhr:zc Tryz.prog 91 zep:=by
 refine qD (fn:=Tryz.f91) (c:=Tryz.f91.body.getD .skip) rfl rfl rfl (fun h=>by cases h) fun p hp O w0 σ0 Q hl0 hq=> ?_
 obtain⟨p,o⟩:=p
 replace hq:=hq () trivial
 refine zb.run hmix zF [] 400 (T:=.leaf (.ret [.fn 130 [] [.ptr 1 0,.ptr 2 0]] [.box [.str p.n,.str p.m,.str p.d,.str p.c,.int .i64 p.e],.box [.ptr 0 0],.box [.fn (QOp.fn o) [] []]])) (by kernel_rfl) ?_
 simp only [Tree.holds,zd]
 refine RetR.keep [0,1,2] rfl rfl (by show ∀ j,j<1→_; decide) rfl hq ?_ ?_ rfl
 ·rfl
 ·exact⟨⟨rfl,rfl,rfl,rfl,⟨rfl,rfl⟩,trivial⟩,⟨⟨rfl,rfl⟩,trivial⟩,⟨rfl,trivial⟩,trivial⟩
noncomputable def GK1:Nat→Option Ctr:=fun f=>if f=143 then some (addC) else if f=92 then some (mulC) else none
theorem zh5:∀ g c,GK1 g=some c→zc Tryz.prog g c:=okIf zm7 (okIf zlr (zp))
theorem ze9:zc Tryz.prog 130 Yz:=by
 refine qD (fn:=Tryz.f130) (c:=Tryz.f130.body.getD .skip) rfl rfl rfl (fun h=>by cases h) fun k hk O w0 σ0 Q hl0 hq=> ?_
 obtain⟨⟨n,m,d,c,e⟩,o,x,y⟩:=k
 obtain⟨h1,h2,h3⟩:=hk
 replace hq:=hq _ rfl
 simp only at h1 h2 h3 hq
 have fin:∀ r:List UInt8×Int,(if e≠0 then([],e) else o.op x y)=r→RetR Yz 3 Q [.str r.1] [.box [.ptr 1 0],.box [.str n,.str m,.str d,.str c,.int .i64 r.2],.box [.fn o.fn [] []]]:=by
  rintro r rfl
  refine RetR.keep [0,1,2] rfl rfl (by show ∀ j,j<3→_; decide) rfl hq ?_ ?_ rfl
  ·rfl
  ·exact⟨⟨⟨rfl,rfl⟩,trivial⟩,⟨rfl,rfl,rfl,rfl,⟨rfl,rfl⟩,trivial⟩,⟨rfl,trivial⟩,trivial⟩
 cases o with
 | add=>
  refine zb.run hmix zh5 [] 400 (T:=.ite (!decide (e=0)) (.leaf (.ret [.str #[].toList] [.box [.ptr 1 0],.box [.str n,.str m,.str d,.str c,.int .i64 e],.box [.fn 143 [] []]])) (.ex (fun(x_1:List UInt8×List UInt8)=>eqL [AV.str x,AV.str y] [AV.str x_1.1,AV.str x_1.2]∧x_1.1.length<4611686018427387904∧x_1.2.length<4611686018427387904) fun n_1=>.all (fun(r:List UInt8×Int)=>r=addI n_1.1 n_1.2) fun n_2=>.leaf (.ret [.str n_2.1] [.box [.ptr 1 0],.box [.str n,.str m,.str d,.str c,.int .i64 n_2.2],.box [.fn 143 [] []]]))) (by kernel_rfl) ?_
  simp only [Tree.holds,zd]
  refine⟨fun h=> ?_,fun h=>⟨(x,y),⟨by simp,h1,h2⟩,⟨_,rfl⟩,?_⟩⟩
  ·have h:e≠0:=by simpa using h
   exact fin ([],e) (if_pos h)
  ·have h:e=0:=by simpa using h
   rintro _ rfl
   exact fin (addI x y) (if_neg (by simp [h]))
 | sub=>exact h3.elim
 | mul=>
  refine zb.run hmix zh5 [] 400 (T:=.ite (!decide (e=0)) (.leaf (.ret [.str #[].toList] [.box [.ptr 1 0],.box [.str n,.str m,.str d,.str c,.int .i64 e],.box [.fn 92 [] []]])) (.ex (fun(x_1:List UInt8×List UInt8)=>eqL [AV.str x,AV.str y] [AV.str x_1.1,AV.str x_1.2]∧x_1.1.length<4611686018427387904∧x_1.2.length<4611686018427387904) fun n_1=>.all (fun(r:List UInt8×Int)=>r=mulI n_1.1 n_1.2) fun n_2=>.leaf (.ret [.str n_2.1] [.box [.ptr 1 0],.box [.str n,.str m,.str d,.str c,.int .i64 n_2.2],.box [.fn 92 [] []]]))) (by kernel_rfl) ?_
  simp only [Tree.holds,zd]
  refine⟨fun h=> ?_,fun h=>⟨(x,y),⟨by simp,h1,h2⟩,⟨_,rfl⟩,?_⟩⟩
  ·have h:e≠0:=by simpa using h
   exact fin ([],e) (if_pos h)
  ·have h:e=0:=by simpa using h
   rintro _ rfl
   exact fin (mulI x y) (if_neg (by simp [h]))
noncomputable def GMd:Nat→Option Ctr:=fun f=>if f=156 then some (zav) else none
theorem zms:∀ g c,GMd g=some c→zc Tryz.prog g c:=okIf zid (zp)
theorem ziq:zc Tryz.prog 142 zdj:=by
 refine qD (fn:=Tryz.f142) (c:=Tryz.f142.body.getD .skip) rfl rfl rfl (fun h=>by cases h) fun k hk O w0 σ0 Q hl0 hq=> ?_
 obtain⟨⟨n,m,d,c,e⟩,x,y⟩:=k
 obtain⟨h1,h2⟩:=hk
 replace hq:=hq _ rfl
 simp only at h1 h2 hq
 have fin:∀ r:List UInt8×Int,(if e≠0 then([],e) else xF x y)=r→RetR zdj 1 Q [.str r.1,.int .i64 r.2] [.box [.str n,.str m,.str d,.str c,.int .i64 e]]:=by
  rintro r rfl
  refine RetR.keep [0] rfl rfl (by show ∀ j,j<1→_; decide) rfl hq ?_ ?_ rfl
  ·exact⟨rfl,⟨rfl,rfl⟩,trivial⟩
  ·exact⟨⟨rfl,rfl,rfl,rfl,⟨rfl,rfl⟩,trivial⟩,trivial⟩
 refine zb.run hmix zms [] 400 (T:=.ite (!decide (e=0)) (.leaf (.ret [.str #[].toList,.int .i64 e] [.box [.str n,.str m,.str d,.str c,.int .i64 e]])) (.ex (fun(x_1:List UInt8×List UInt8)=>eqL [AV.str x,AV.str y] [AV.str x_1.1,AV.str x_1.2]∧x_1.1.length<4611686018427387904∧x_1.2.length<4611686018427387904) fun n_1=>.all (fun(r:List UInt8×Int)=>r=xF n_1.1 n_1.2) fun n_2=>.leaf (.ret [.str n_2.1,.int .i64 n_2.2] [.box [.str n,.str m,.str d,.str c,.int .i64 e]]))) (by kernel_rfl) ?_
 simp only [Tree.holds,zd]
 refine⟨fun h=> ?_,fun h=>⟨(x,y),⟨by simp,h1,h2⟩,⟨_,rfl⟩,?_⟩⟩
 ·have h:e≠0:=by simpa using h
  exact fin ([],e) (if_pos h)
 ·have h:e=0:=by simpa using h
  rintro _ rfl
  exact fin (xF x y) (if_neg (by simp [h]))
def Pst(a b:List UInt8):Nat→Pr
 | 0=>⟨[],[],[],[],0⟩
 | 1=>if errR a≠0 then⟨[],[],[],[],errR a⟩ else⟨numR a,[],denR a,[],0⟩
 | _=>jO a b
def SBq(a b:List UInt8)(i:Nat):KV:=[(5,.ptr 0 0),(12,.agg [.str a,.str b]),(13,.int .i64 (i:Int))]
noncomputable def GBq:Nat→Option Ctr:=fun f=>if f=129 then some (ze4) else none
theorem V7:∀ g c,GBq g=some c→zc Tryz.prog g c:=okIf zg9 (zp)
theorem zdw:zc Tryz.prog 90 zhq:=by
 refine qD (fn:=Tryz.f90) (c:=Tryz.f90.body.getD .skip) rfl rfl rfl (fun h=>by cases h) fun p hp O w0 σ0 Q hl0 hq=> ?_
 obtain rfl:σ0=[]:=List.length_eq_zero_iff.1 hl0
 obtain⟨a,b⟩:=p
 obtain⟨h1,h2⟩:=hp
 replace hq:=hq _ rfl
 simp only at h1 h2 hq
 refine zb.run hmix V7 [5,12,13] 400 (T:=.leaf (.loop (Prod.fst (lps K90 0)) (Prod.snd (lps K90 0)) [(5,.ptr 0 0),(12,.agg [.str a,.str b]),(13,.int .i64 0)] [.box [.str #[].toList,.str #[].toList,.str #[].toList,.str #[].toList,.int .i64 0]])) (by kernel_rfl) ?_
 simp only [Tree.holds,zd]
 refine zb.loop (ι:={i:Nat // i≤2}) (fun i=>SBq a b i.1) (fun i=>[(Pst a b i.1).box]) (fun i=>2 - i.1) ⟨0,Nat.zero_le _⟩ 0 ?_ ?_ (by kernel_rfl)
 ·exact⟨by simp [SBq],by simp [Pst,Pr.box],by kernel_rfl,Nat.zero_le _⟩
 rintro⟨i,hil⟩
 match i,hil with
 | 0,_=>
  refine zb.run hmix V7 [5,12,13] 400 (T:=.ite true (.side ((0:Int)≤0∧(0:Int)<2∧1≤List.length [AV.str a,AV.str b]) (.ite true (.ex (fun(x:List UInt8)=>eqL [AV.str a] [AV.str x]∧x.length<4611686018427387904) fun n=>.all (fun(r:List UInt8×List UInt8×Int)=>r=if errR n=0 then(numR n,denR n,(0:Int)) else([],[],errR n)) fun n=>.side ((0:Int)≤0∧(0:Int)<2) (.side ((0:Int)≤0∧(0:Int)<2) (.side (inR .i64 (1:Int)) (.leaf (.back 0 [(5,.ptr 0 0),(12,.agg [.str a,.str b]),(13,.int .i64 1)] [.box [.str n.1,.str [],.str n.2.1,.str [],.int .i64 n.2.2]]))))) (.side (inR .i64 (1:Int)) (.leaf (.back 0 [(5,.ptr 0 0),(12,.agg [.str a,.str b]),(13,.int .i64 1)] [.box [.str [],.str [],.str [],.str [],.int .i64 0]]))))) (.leaf (.ret [.ptr 0 0] [.box [.str [],.str [],.str [],.str [],.int .i64 0]]))) (by kernel_rfl) ?_
  simp only [Tree.holds,zd,inR,lo,hi,Int.toNat_natCast]
  refine⟨fun _=>⟨by simp,fun _=>⟨fun _=>⟨a,⟨by simp,h1⟩,⟨_,rfl⟩,?_⟩,fun h=>(by cases h)⟩⟩,fun h=>(by cases h)⟩
  intro r hr
  refine⟨by decide,fun _=>⟨by decide,fun _=>⟨by decide,fun _=> ?_⟩⟩⟩
  rw [if_pos trivial]
  refine⟨⟨1,by decide⟩,by decide,by simp [SBq],?_,by kernel_rfl,Nat.zero_le _⟩
  have e:Pst a b 1=⟨r.1,[],r.2.1,[],r.2.2⟩:=by
   rw [hr]
   by_cases h:errR a=0
   ·simp [Pst,h]
   ·simp [Pst,h]
  show eqH _ [(Pst a b 1).box]
  rw [e]
  simp [Pr.box]
 | 1,_=>
  obtain⟨⟨n,m,d,c,e⟩,hp⟩:∃ p,Pst a b 1=p:=⟨_,rfl⟩
  simp only [hp]
  refine zb.run hmix V7 [5,12,13] 400 (T:=.ite true (.side ((0:Int)≤1∧(1:Int)<2∧2≤List.length [AV.str a,AV.str b]) (.ite (decide (e=0)) (.ex (fun(x:List UInt8)=>eqL [AV.str b] [AV.str x]∧x.length<4611686018427387904) fun n_1=>.all (fun(r:List UInt8×List UInt8×Int)=>r=if errR n_1=0 then(numR n_1,denR n_1,(0:Int)) else([],[],errR n_1)) fun n_2=>.side ((0:Int)≤1∧(1:Int)<2) (.side ((0:Int)≤1∧(1:Int)<2) (.side (inR .i64 (2:Int)) (.leaf (.back 0 [(5,.ptr 0 0),(12,.agg [.str a,.str b]),(13,.int .i64 2)] [.box [.str n,.str n_2.1,.str d,.str n_2.2.1,.int .i64 n_2.2.2]]))))) (.side (inR .i64 (2:Int)) (.leaf (.back 0 [(5,.ptr 0 0),(12,.agg [.str a,.str b]),(13,.int .i64 2)] [.box [.str n,.str m,.str d,.str c,.int .i64 e]]))))) (.leaf (.ret [.ptr 0 0] [.box [.str n,.str m,.str d,.str c,.int .i64 e]]))) (by kernel_rfl) ?_
  simp only [Tree.holds,zd,inR,lo,hi,Int.toNat_natCast]
  refine⟨fun _=>⟨by simp,fun _=>⟨fun h=>⟨b,⟨by simp,h2⟩,⟨_,rfl⟩,?_⟩,fun h=>⟨by decide,fun _=> ?_⟩⟩⟩,fun h=>(by cases h)⟩
  ·have h:e=0:=by simpa using h
   intro r hr
   refine⟨by decide,fun _=>⟨by decide,fun _=>⟨by decide,fun _=> ?_⟩⟩⟩
   rw [if_pos trivial]
   refine⟨⟨2,by decide⟩,by decide,by simp [SBq],?_,by kernel_rfl,Nat.zero_le _⟩
   have e2:Pst a b 2=⟨n,r.1,d,r.2.1,r.2.2⟩:=by
    rw [hr]
    by_cases ha:errR a=0
    ·simp only [Pst,ha] at hp
     simp at hp
     obtain⟨rfl,rfl,rfl,rfl,_⟩:=hp
     by_cases hb:errR b=0
     ·simp [Pst,jO,ha,hb]
     ·simp [Pst,jO,ha,hb]
    ·simp only [Pst] at hp
     rw [if_pos ha] at hp
     cases hp
     exact absurd h ha
   show eqH _ [(Pst a b 2).box]
   rw [e2]
   simp [Pr.box]
  ·have h:e≠0:=by simpa using h
   rw [if_pos trivial]
   refine⟨⟨2,by decide⟩,by decide,by simp [SBq],?_,by kernel_rfl,Nat.zero_le _⟩
   have e2:Pst a b 2=⟨n,m,d,c,e⟩:=by
    by_cases ha:errR a=0
    ·simp only [Pst,ha] at hp
     simp at hp
     exact absurd hp.2.2.2.2.symm h
    ·rw [← hp]
     simp only [Pst,jO]
     rw [if_pos ha,if_pos ha]
   show eqH _ [(Pst a b 2).box]
   rw [e2]
   simp [Pr.box]
 | 2,_=>
  obtain⟨⟨n,m,d,c,e⟩,hp⟩:∃ p,Pst a b 2=p:=⟨_,rfl⟩
  simp only [hp]
  refine zb.run hmix V7 [5,12,13] 400 (T:=.ite false (.side ((0:Int)≤2∧(2:Int)<2∧3≤List.length [AV.str a,AV.str b]) .fail) (.leaf (.ret [.ptr 0 0] [.box [.str n,.str m,.str d,.str c,.int .i64 e]]))) (by kernel_rfl) ?_
  simp only [Tree.holds,zd,inR,lo,hi,Int.toNat_natCast]
  refine⟨fun h=>(by cases h),fun _=> ?_⟩
  have hp:jO a b=⟨n,m,d,c,e⟩:=hp
  rw [hp] at hq
  refine RetR.out1 0 (by show 0<1; decide) hq (fun h=>by cases h) ?_ ?_
  ·exact⟨rfl,rfl⟩
  ·exact⟨rfl,rfl,rfl,rfl,⟨rfl,rfl⟩,trivial⟩
theorem KI(a b:List UInt8):((jO a b).e≠0∧kr a b=(jO a b).e)∨((jO a b).e=0∧errR a=0∧errR b=0∧(jO a b).n=numR a∧(jO a b).m=numR b∧(jO a b).d=denR a∧(jO a b).c=denR b):=by
 unfold jO
 by_cases ha:errR a=0
 ·rw [if_neg (by rw [ha]; simp)]
  by_cases hb:errR b=0
  ·rw [if_neg (by rw [hb]; simp)]
   exact .inr ⟨rfl,ha,hb,rfl,rfl,rfl,rfl⟩
  ·rw [if_pos hb]
   exact .inl ⟨hb,by unfold kr; rw [if_pos ha]⟩
 ·rw [if_pos ha]
  exact .inl ⟨ha,by unfold kr; rw [if_neg ha]⟩
theorem zc0(a b:List UInt8):(jO a b).n.length≤a.length∧(jO a b).m.length≤b.length∧(jO a b).d.length≤a.length+1∧(jO a b).c.length≤b.length+1:=by
 have h1:=Xw a
 have h2:=Xw b
 have h3:=Xt a
 have h4:=Xt b
 unfold jO
 split
 ·simp
 ·split
  ·simp; omega
  ·simp only; omega
theorem kx_l(x y:List UInt8):eqL [.str x,.str y,.ptr 0 0,.ptr 2 0] [.str x,.str y,.ptr 0 0,.ptr 2 0]:=⟨rfl,rfl,⟨rfl,rfl⟩,⟨rfl,rfl⟩,trivial⟩
theorem kx_b(p:Pr):eqH [.box [.str p.n,.str p.m,.str p.d,.str p.c,.int .i64 p.e]] [.box [.str p.n,.str p.m,.str p.d,.str p.c,.int .i64 p.e]]:=⟨⟨rfl,rfl,rfl,rfl,⟨rfl,rfl⟩,trivial⟩,trivial⟩
theorem kx_h(p:Pr)(f:Nat):eqH [.box [.ptr 1 0],.box [.str p.n,.str p.m,.str p.d,.str p.c,.int .i64 p.e],.box [.fn f [] []]] [.box [.ptr 1 0],.box [.str p.n,.str p.m,.str p.d,.str p.c,.int .i64 p.e],.box [.fn f [] []]]:=⟨⟨⟨rfl,rfl⟩,trivial⟩,(kx_b p).1,⟨rfl,trivial⟩,trivial⟩
theorem kx_k(f:Nat):eqL [.ptr 0 0,.fn f [] []] [.ptr 0 0,.fn f [] []]:=⟨⟨rfl,rfl⟩,rfl,trivial⟩
theorem WQ(p:Pr)(o:QOp)(x y:List UInt8){r:List UInt8×Int}(h:r=if p.e≠0 then([],p.e) else o.op x y):r.1.length≤1001:=by
 rw [h]
 refine zk4 ?_
 cases o
 ·exact zew x y
 ·exact zer x y
 ·exact zhk x y
noncomputable def GQA:Nat→Option Ctr:=fun f=>if f=90 then some (zhq) else if f=91 then some (zep) else if f=130 then some (Yz) else if f=142 then some (zdj) else if f=93 then some (zkj) else none
theorem zlt:∀ g c,GQA g=some c→zc Tryz.prog g c:=okIf zdw (okIf zhr (okIf ze9 (okIf ziq (okIf zk5 (zp)))))
def zl0:Ctr:=ctrP true (fun p:List UInt8×List UInt8=>[.str p.1,.str p.2]) (fun p=>p.1.length<2^61∧p.2.length<2^61) (fun p r=>r=cmpR p.1 p.2) (fun _ r=>(.tup [.int .i64 r.1,.int .i64 r.2],[]))
theorem zkg:zc Tryz.prog 47 zl0:=by
 refine zf (fn:=Tryz.f47) (c:=Tryz.f47.body.getD .skip) rfl rfl rfl fun p hp O w0 Q hq=> ?_
 obtain⟨a,b⟩:=p
 obtain⟨h1,h2⟩:=hp
 replace hq:=hq _ rfl
 simp only at h1 h2 hq
 refine zb.run hmix zlt [] 400 (T:=.ex (fun(x:List UInt8×List UInt8)=>eqL [AV.str a,AV.str b] [AV.str x.1,AV.str x.2]∧eqH [] []∧0=0∧x.1.length<4611686018427387904∧x.2.length<4611686018427387904) fun n=>.all (fun(r:Pr)=>r=jO n.1 n.2) fun n=>.ex (fun(x:Pr×QOp)=>eqL [AV.ptr 0 0,AV.fn 92 [] []] [AV.ptr 0 0,AV.fn (QOp.fn x.2) [] []]∧eqH [.box [AV.str n.n,AV.str n.m,AV.str n.d,AV.str n.c,AV.int .i64 n.e]] [.box [AV.str x.1.n,AV.str x.1.m,AV.str x.1.d,AV.str x.1.c,AV.int .i64 x.1.e]]∧1=1∧True) fun n=>.all (fun(x:Unit)=>True) fun n_1=>.side ((0:Int)≤0∧(0:Int)<2) (.side ((0:Int)≤1∧(1:Int)<2) (.side ((0:Int)≤1∧(1:Int)<2) (.side ((0:Int)≤0∧(0:Int)<2) (.ex (fun(x:KX)=>eqL [AV.str n.1.n,AV.str n.1.c,AV.ptr 0 0,AV.ptr 2 0] [AV.str x.x,AV.str x.y,AV.ptr 0 0,AV.ptr 2 0]∧eqH [.box [AV.ptr 1 0],.box [AV.str n.1.n,AV.str n.1.m,AV.str n.1.d,AV.str n.1.c,AV.int .i64 n.1.e],.box [AV.fn (QOp.fn n.2) [] []]] [.box [AV.ptr 1 0],.box [AV.str x.p.n,AV.str x.p.m,AV.str x.p.d,AV.str x.p.c,AV.int .i64 x.p.e],.box [AV.fn (QOp.fn x.o) [] []]]∧3=3∧x.x.length<4611686018427387904∧x.y.length<4611686018427387904∧QOp.has x.o) fun n_2=>.all (fun(r:List UInt8×Int)=>r=if Pr.e n_2.p≠0 then([],Pr.e n_2.p) else QOp.op n_2.o n_2.x n_2.y) fun n_3=>.side (Pr.d (Pr.err n_2.p n_3.2)=Pr.d n.1) (.side (Pr.m (Pr.err n_2.p n_3.2)=Pr.m n.1) (.ex (fun(x:KX)=>eqL [AV.str n.1.m,AV.str n.1.d,AV.ptr 0 0,AV.ptr 2 0] [AV.str x.x,AV.str x.y,AV.ptr 0 0,AV.ptr 2 0]∧eqH [.box [AV.ptr 1 0],.box [AV.str (Pr.n (Pr.err n_2.p n_3.2)),AV.str (Pr.m (Pr.err n_2.p n_3.2)),AV.str (Pr.d (Pr.err n_2.p n_3.2)),AV.str (Pr.c (Pr.err n_2.p n_3.2)),AV.int .i64 (Pr.e (Pr.err n_2.p n_3.2))],.box [AV.fn (QOp.fn n_2.o) [] []]] [.box [AV.ptr 1 0],.box [AV.str x.p.n,AV.str x.p.m,AV.str x.p.d,AV.str x.p.c,AV.int .i64 x.p.e],.box [AV.fn (QOp.fn x.o) [] []]]∧3=3∧x.x.length<4611686018427387904∧x.y.length<4611686018427387904∧QOp.has x.o) fun n=>.all (fun(r:List UInt8×Int)=>r=if Pr.e n.p≠0 then([],Pr.e n.p) else QOp.op n.o n.x n.y) fun n_4=>.ite (!decide (Pr.e (Pr.err n.p n_4.2)=(0:Int))) (.leaf (.ret [.int .i64 0,.int .i64 (Pr.e (Pr.err n.p n_4.2))] [.box [.str (Pr.n (Pr.err n.p n_4.2)),.str (Pr.m (Pr.err n.p n_4.2)),.str (Pr.d (Pr.err n.p n_4.2)),.str (Pr.c (Pr.err n.p n_4.2)),.int .i64 (Pr.e (Pr.err n.p n_4.2))],.box [.ptr 0 0],.box [.fn (QOp.fn n.o) [] []]])) (.ex (fun(x:List UInt8×List UInt8)=>eqL [AV.str n_3.1,AV.str n_4.1] [AV.str x.1,AV.str x.2]∧x.1.length<4611686018427387904∧x.2.length<4611686018427387904) fun n_5=>.all (fun(r:Int×Int)=>r=Qb n_5.1 n_5.2) fun n_6=>.leaf (.ret [.int .i64 n_6.1,.int .i64 n_6.2] [.box [.str (Pr.n (Pr.err n.p n_4.2)),.str (Pr.m (Pr.err n.p n_4.2)),.str (Pr.d (Pr.err n.p n_4.2)),.str (Pr.c (Pr.err n.p n_4.2)),.int .i64 (Pr.e (Pr.err n.p n_4.2))],.box [.ptr 0 0],.box [.fn (QOp.fn n.o) [] []]]))))))))) (by kernel_rfl) ?_
 simp only [Tree.holds,zd]
 refine⟨(a,b),⟨⟨rfl,rfl,trivial⟩,trivial,by trivial,by show a.length<_; omega,by show b.length<_; omega⟩,⟨_,rfl⟩,?_⟩
 intro p hp
 have hc:=KI a b
 obtain⟨l1,l2,l3,l4⟩:=zc0 a b
 rw [← hp] at hc l1 l2 l3 l4
 refine⟨(p,.mul),⟨kx_k _,kx_b p,by trivial,trivial⟩,⟨(),trivial⟩,?_⟩
 intro _ _
 iterate 4 refine⟨by decide,fun _=> ?_⟩
 refine⟨⟨p,.mul,p.n,p.c⟩,⟨kx_l _ _,kx_h (p) _,by trivial,by show(p.n).length<_; omega,by show(p.c).length<_; omega,by trivial⟩,⟨_,rfl⟩,?_⟩
 intro r1 hr1
 have kr1:=WQ _ _ _ _ hr1
 iterate 2 refine⟨rfl,fun _=> ?_⟩
 refine⟨⟨p.err r1.2,.mul,p.m,p.d⟩,⟨kx_l _ _,kx_h (p.err r1.2) _,by trivial,by show(p.m).length<_; omega,by show(p.d).length<_; omega,by trivial⟩,⟨_,rfl⟩,?_⟩
 intro r2 hr2
 have kr2:=WQ _ _ _ _ hr2
 have hfin:=zcm hc hr1 hr2
 refine⟨fun h=> ?_,fun h=>⟨(r1.1,r2.1),⟨⟨rfl,rfl,trivial⟩,by show r1.1.length<_; omega,by show r2.1.length<_; omega⟩,⟨_,rfl⟩,?_⟩⟩
 ·have h:r2.2≠0:=by
   intro h0
   have h':(!decide (r2.2=0))=true:=h
   rw [h0] at h'; cases h'
  rw [if_pos h] at hfin
  rw [← hfin] at hq
  exact RetR.scal hq rfl (by simp [resV,Pr.err])
 ·have h:r2.2=0:=by
   have h':(!decide (r2.2=0))=false:=h
   cases hd:decide (r2.2=0) with
   | true=>exact of_decide_eq_true hd
   | false=>rw [hd] at h'; cases h'
  rw [if_neg (by rw [h]; simp)] at hfin
  rintro _ rfl
  rw [← hfin] at hq
  exact RetR.scal hq rfl (by simp [resV])
end Go.Proofs.Tryz
end
section
namespace Go.Nov
end Go.Nov
end
section
set_option maxRecDepth 100000
open Go Go.Sx Go.Proofs Go.Nov
namespace Go.Proofs.Tryz
attribute [local simp] eqKV eqA eqA0 eqH eqB eqL eqL0
structure Q4 where
 n:List UInt8
 d:List UInt8
 m:List UInt8
 c:List UInt8
 e:Int
structure QF where
 n:List UInt8
 d:List UInt8
 e:Int
 f:Int
end Go.Proofs.Tryz
end
section
namespace Go.Sx
variable [Stat]
end Go.Sx
end
section
set_option maxRecDepth 100000
open Go Go.Sx Go.Proofs Go.Nov
namespace Go.Proofs.Tryz
attribute [local simp] eqKV eqA eqA0 eqH eqB eqL eqL0
theorem ky{f:List Fx}{c:List Ch}{x:Fx} : (putF f c x).1.1.length≤1000∧(putF f c x).1.2.length≤1000:=by
 unfold putF
 by_cases h0:errE f c≠0
 ·rw [if_pos h0]; simp
 ·rw [if_neg h0]
  have h:=zmw.1 (Classical.not_not.1 h0)
  split
  ·simp
  ·split
   ·simp
   ·split
    ·simp
    ·simp only; omega
noncomputable def K94:List Go.Sx.Item:=[.code (Tryz.f94.body.getD .skip)]
noncomputable def GOf0:Nat→Option Ctr:=fun f=>if f=135 then some (uV) else none
theorem zao:∀ g c,GOf0 g=some c→zc Tryz.prog g c:=okIf Jp (zp)
def iofC:Ctr:=ctrP true (fun n:Nat=>[.int .i64 (n:Int)]) (fun n=>n≤9) (fun n (r:List UInt8)=>r=[UInt8.ofNat (48+n)]) (fun _ (r:List UInt8)=>(.str r,[]))
def SOf(n:Nat):KV:=[(0,.int .i64 (n:Int)),(3,.nils),(4,.bool (decide ((n:Int)<0)))]
theorem zmg:zc Tryz.prog 94 iofC:=by
 refine zf (fn:=Tryz.f94) (c:=Tryz.f94.body.getD .skip) rfl rfl rfl fun n hn O w0 Q hq=> ?_
 replace hq:=hq _ rfl
 refine zb.run hmix zao [0,3,4] 400 (T:=.leaf (.loop (Prod.fst (lps K94 0)) (Prod.snd (lps K94 0)) [(0,.int .i64 n),(3,.nils),(4,.bool (decide ((↑n:Int)<0)))] [])) (by kernel_rfl) ?_
 simp only [Tree.holds,zd,inR,lo,hi,Int.toNat_natCast]
 refine zb.loop (ι:=Unit) (fun _=>SOf n) (fun _=>[]) (fun _=>0) () 0 ?_ ?_ (by kernel_rfl)
 ·exact⟨by simp [SOf],by simp,by kernel_rfl,Nat.zero_le _⟩
 rintro⟨⟩
 refine zb.run hmix zao [0,3,4] 400 (T:=.side ((10:Int)≠0) (.side (inR .i64 (-Int.tmod (↑n:Int) (10:Int))) (.side (inR .i64 ((48:Int)+max (Int.tmod (↑n:Int) (10:Int)) (-Int.tmod (↑n:Int) (10:Int)))) (.side (inR .u8 ((48:Int)+max (Int.tmod (↑n:Int) (10:Int)) (-Int.tmod (↑n:Int) (10:Int)))) (.side (1≤140737488355328) (.side ((10:Int)≠0∧inR .i64 (Int.tdiv (↑n:Int) (10:Int))) (.ite (decide (Int.tdiv (↑n:Int) (10:Int)=0)) (.ite (decide ((↑n:Int)<0)) (.side (0=0∧1≤1∧2≤140737488355328) (.ex (fun(x:List Nat×Nat)=>eqL [AV.osl 0 1 0 2] [AV.osl 0 1 0 x.2]∧eqH [.arr 2 1 (appG 1 (zg (zh 1 [AV.int .u8 ((48:Int)+max (Int.tmod (↑n:Int) (10:Int)) (-Int.tmod (↑n:Int) (10:Int)))]) 0) (zg (zh 1 [AV.int .u8 45]) 0))] [.arr x.1.length 1 (natG .u8 x.1)]∧1=1∧x.2≤x.1.length∧x.1.length<4611686018427387904) fun n_1=>.all (fun(x:Unit)=>True) fun n_2=>.side (∀ (j:Nat),j<2→∃ (b:UInt8),AV.int .u8 (↑(List.getD (List.reverse (List.take n_1.2 n_1.1)++List.drop n_1.2 n_1.1) (0+j) 0):Int)=AV.int .u8 (↑(UInt8.toNat b):Int)) (.leaf (.ret [.str (vj 2 (zg (natG .u8 (List.reverse (List.take n_1.2 n_1.1)++List.drop n_1.2 n_1.1)) 0))] [.arr 1 1 (zh 1 [.int .u8 ((48:Int)+max (Int.tmod (↑n:Int) (10:Int)) (-Int.tmod (↑n:Int) (10:Int)))]),.arr n_1.1.length 1 (natG .u8 (List.reverse (List.take n_1.2 n_1.1)++List.drop n_1.2 n_1.1)),.arr 1 1 (zh 1 [.int .u8 45])])))) (.ex (fun(x:List Nat×Nat)=>eqL [AV.osl 0 1 0 1] [AV.osl 0 1 0 x.2]∧eqH [.arr 1 1 (zg (zh 1 [AV.int .u8 ((48:Int)+max (Int.tmod (↑n:Int) (10:Int)) (-Int.tmod (↑n:Int) (10:Int)))]) 0)] [.arr x.1.length 1 (natG .u8 x.1)]∧1=1∧x.2≤x.1.length∧x.1.length<4611686018427387904) fun n_1=>.all (fun(x:Unit)=>True) fun n_2=>.side (∀ (j:Nat),j<1→∃ (b:UInt8),AV.int .u8 (↑(List.getD (List.reverse (List.take n_1.2 n_1.1)++List.drop n_1.2 n_1.1) (0+j) 0):Int)=AV.int .u8 (↑(UInt8.toNat b):Int)) (.leaf (.ret [.str (vj 1 (zg (natG .u8 (List.reverse (List.take n_1.2 n_1.1)++List.drop n_1.2 n_1.1)) 0))] [.arr 1 1 (zh 1 [.int .u8 ((48:Int)+max (Int.tmod (↑n:Int) (10:Int)) (-Int.tmod (↑n:Int) (10:Int)))]),.arr n_1.1.length 1 (natG .u8 (List.reverse (List.take n_1.2 n_1.1)++List.drop n_1.2 n_1.1))])))) (.leaf (.back 0 [(0,.int .i64 (Int.tdiv (↑n:Int) (10:Int))),(3,.osl 1 1 0 1),(4,.bool (decide ((↑n:Int)<0)))] [.arr 1 1 (zh 1 [.int .u8 ((48:Int)+max (Int.tmod (↑n:Int) (10:Int)) (-Int.tmod (↑n:Int) (10:Int)))]),.arr 1 1 (zg (zh 1 [.int .u8 ((48:Int)+max (Int.tmod (↑n:Int) (10:Int)) (-Int.tmod (↑n:Int) (10:Int)))]) 0)]))))))))) (by kernel_rfl) ?_
 simp only [Tree.holds,zd,inR,lo,hi,Int.toNat_natCast]
 have e1:(n:Int).tmod 10=n:=by rw [Int.tmod_eq_emod_of_nonneg (by omega)]; omega
 have e2:(n:Int).tdiv 10=0:=by rw [Int.tdiv_eq_ediv_of_nonneg (by omega)]; omega
 have e3:max (n:Int) (-(n:Int))=n:=by omega
 rw [e1,e2,e3]
 refine⟨by decide,fun _=>⟨by omega,fun _=>⟨by omega,fun _=>⟨by omega,fun _=>⟨by decide,fun _=>⟨by decide,fun _=>⟨fun _=>⟨fun h=> ?_,fun _=> ?_⟩,fun h=> ?_⟩⟩⟩⟩⟩⟩⟩
 ·have:=of_decide_eq_true h; omega
 ·refine⟨([48+n],1),⟨⟨⟨rfl,rfl,rfl,rfl⟩,trivial⟩,⟨⟨rfl,rfl,fun j o hj ho=> ?_⟩,trivial⟩,trivial,by simp,by simp⟩,⟨(),trivial⟩,fun _ _=>⟨fun j hj=>⟨UInt8.ofNat (48+n),?_⟩,fun _=> ?_⟩⟩
  ·have:j=0:=by omega
   subst this
   have:o=0:=by omega
   subst this
   simp [zg,zh,natG]
  ·have:j=0:=by omega
   subst this
   have:(UInt8.ofNat (48+n)).toNat=48+n:=by simp; omega
   simp only [this]
   rfl
  ·refine RetR.scal hq rfl ?_
   simp only [resV,vj,zg,natG,List.range_succ,List.range_zero,List.nil_append,List.map_cons,List.map_nil]
   show AV.str [UInt8.ofNat (48+n)]=_
   rfl
 ·simp at h
noncomputable def GOf1:Nat→Option Ctr:=fun f=>if f=94 then some (iofC) else none
theorem UT:∀ g c,GOf1 g=some c→zc Tryz.prog g c:=okIf zmg (zp)
noncomputable def qofI:Ctr:=inlC Tryz.prog GOf1 100 Tryz.f48
theorem zji:zc Tryz.prog 48 qofI:=zfv hmix UT rfl rfl
def wD(a:Ca):Prop:=a.name.length<2^38∧a.into.length<2^38∧a.ratio.length<2^38∧a.extra.length<2^38
def uA:Ctr:=ctrP true (fun a:Ca=>[a.av]) wD (fun a r=>r=if a.ok=true then 0 else 8) (fun _ (r:Int)=>(.int .i64 r,[]))
noncomputable def GCa0:Nat→Option Ctr:=fun f=>if f=48 then some (qofI) else if f=47 then some (zl0) else if f=50 then some (Qo) else if f=49 then some (yC) else none
theorem zik:∀ g c,GCa0 g=some c→zc Tryz.prog g c:=okIf zji (okIf zkg (okIf Z7 (okIf VE (zp))))
theorem yS:zc Tryz.prog 16 uA:=by
 refine zf (fn:=Tryz.f16) (c:=Tryz.f16.body.getD .skip) rfl rfl rfl fun a ha O w0 Q hq=> ?_
 obtain⟨h1,h2,h3,h4⟩:=ha
 replace hq:=hq _ rfl
 obtain⟨nm,io,d,rt,et⟩:=a
 refine zb.run hmix zik [] 400 (T:=.ex (fun(x:Nat)=>eqL [AV.int .i64 0] [AV.int .i64 x]∧x≤9) fun n=>.all (fun(r:List UInt8)=>r=[UInt8.ofNat (48+n)]) fun n=>.ex (fun(x:List UInt8×List UInt8)=>eqL [AV.str rt,AV.str n] [AV.str x.1,AV.str x.2]∧x.1.length<2305843009213693952∧x.2.length<2305843009213693952) fun n=>.all (fun(r:Int×Int)=>r=cmpR n.1 n.2) fun n=>.ex (fun(x:List UInt8)=>eqL [AV.str nm] [AV.str x]∧x.length<4611686018427387904) fun n_1=>.all (fun(r:Bool)=>r=zN n_1) fun n_2=>.ex (fun(x:List UInt8)=>(!n_2)=false→eqL [AV.str io] [AV.str x]∧x.length<4611686018427387904) fun n_3=>.all (fun(x:Bool)=>(!n_2)=false→x=zN n_3) fun n_4=>.ex (fun(x:List UInt8)=>(bif bif bif bif bif !n_2 then true else !n_4 then true else decide (d<0) then true else decide ((99999:Int)<d) then true else !decide (n.2=0) then true else decide (n.1≤0))=false→eqL [AV.str et] [AV.str x]∧x.length<4611686018427387904) fun n_5=>.all (fun(x:Int)=>(bif bif bif bif bif !n_2 then true else !n_4 then true else decide (d<0) then true else decide ((99999:Int)<d) then true else !decide (n.2=0) then true else decide (n.1≤0))=false→x=errR n_5) fun n_6=>.ite (bif bif bif bif bif bif !n_2 then true else !n_4 then true else decide (d<0) then true else decide ((99999:Int)<d) then true else !decide (n.2=0) then true else decide (n.1≤0) then true else !decide (n_6=0)) (.leaf (.ret [.int .i64 8] [.box [.str nm,.str io,.int .i64 d,.str rt,.str et]])) (.leaf (.ret [.int .i64 0] [.box [.str nm,.str io,.int .i64 d,.str rt,.str et]]))) (by kernel_rfl) ?_
 simp only [Tree.holds,zd,inR,lo,hi,Int.toNat_natCast]
 have e48:[UInt8.ofNat (48+0)]=[48]:=rfl
 refine⟨0,⟨⟨⟨rfl,rfl⟩,trivial⟩,by omega⟩,⟨_,rfl⟩,?_⟩
 rintro _ rfl
 rw [e48]
 refine⟨(rt,[48]),⟨⟨rfl,rfl,trivial⟩,by show rt.length<_; simp only at h3; omega,by simp⟩,⟨_,rfl⟩,?_⟩
 rintro r rfl
 refine⟨nm,⟨⟨rfl,trivial⟩,by simp only at h1; omega⟩,⟨_,rfl⟩,?_⟩
 rintro _ rfl
 refine⟨io,fun _=>⟨⟨rfl,trivial⟩,by simp only at h2; omega⟩,⟨_,fun _=>rfl⟩,fun b2 g2=> ?_⟩
 refine⟨et,fun _=>⟨⟨rfl,trivial⟩,by simp only at h4; omega⟩,⟨_,fun _=>rfl⟩,fun b3 g3=> ?_⟩
 have key:(bif bif bif bif bif bif !zN nm then true else !b2 then true else decide (d<0) then true else decide (99999<d) then true else !decide ((cmpR rt [48]).2=0) then true else decide ((cmpR rt [48]).1≤0) then true else !decide (b3=0)) = !(Ca.mk nm io d rt et).ok:=by
  obtain⟨z1,z2⟩:=zhu (a:=rt)
  unfold Ca.ok
  simp only
  cases hn:zN nm with
  | false=>simp
  | true=>
   rw [g2 (by rw [hn]; rfl)]
   cases hi2:zN io with
   | false=>simp
   | true=>
    by_cases hd:dayB d=true
    ·have hd':=hd
     unfold dayB at hd'
     simp only [Bool.and_eq_true,decide_eq_true_eq] at hd'
     have q1:decide (d<0)=false:=decide_eq_false (by omega)
     have q2:decide (99999<d)=false:=decide_eq_false (by omega)
     by_cases hr:errR rt=0
     ·obtain⟨y1,y2⟩:=z2 hr
      by_cases hp:0<qv rt
      ·have y3:(cmpR rt [48]).1=1:=by rw [y2,if_neg (by grind),if_pos hp]
       rw [g3 (by rw [hn,g2 (by rw [hn]; rfl),hi2,q1,q2,y1,y3]; rfl),hd,y1,y3,q1,q2]
       simp [hr,hp]
      ·have y3:(cmpR rt [48]).1≤0:=by rw [y2,if_neg hp]; split<;>decide
       rw [decide_eq_true y3]
       simp [hp]
     ·rw [decide_eq_false (z1 hr)]
      simp [hr]
    ·have:(decide (d<0)||decide (99999<d))=true:=by
      unfold dayB at hd
      simp at hd ⊢
      omega
     have hd:dayB d=false:=by simpa using hd
     rw [hd]
     rw [Bool.or_eq_true] at this
     rcases this with h | h<;>simp [h]
 rw [key]
 refine⟨fun h=> ?_,fun h=> ?_⟩
 ·rw [if_neg (by simpa using h)] at hq
  exact RetR.scal hq rfl rfl
 ·rw [if_pos (by simpa using h)] at hq
  exact RetR.scal hq rfl rfl
def uG:Ctr:=ctrP true (fun a:Ca=>[a.av]) wD (fun a r=>r=a.ok) (fun _ (r:Bool)=>(.bool r,[]))
noncomputable def GCa2:Nat→Option Ctr:=fun f=>if f=51 then some (yC) else if f=52 then some (xp) else if f=53 then some (JT) else none
theorem zjk:∀ g c,GCa2 g=some c→zc Tryz.prog g c:=okIf Jo (okIf Qn (okIf Wa (zp)))
theorem yL:zc Tryz.prog 17 uG:=by
 refine zf (fn:=Tryz.f17) (c:=Tryz.f17.body.getD .skip) rfl rfl rfl fun a ha O w0 Q hq=> ?_
 obtain⟨h1,h2,h3,h4⟩:=ha
 replace hq:=hq _ rfl
 obtain⟨nm,io,d,rt,et⟩:=a
 refine zb.run hmix zjk [] 400 (T:=.ex (fun(x:List UInt8)=>eqL [AV.str nm] [AV.str x]∧x.length<4611686018427387904) fun n=>.all (fun(r:Bool)=>r=zN n) fun n=>.ex (fun(x:List UInt8)=>(!n)=false→eqL [AV.str io] [AV.str x]∧x.length<4611686018427387904) fun n_1=>.all (fun(x:Bool)=>(!n)=false→x=zN n_1) fun n_2=>.ex (fun(x:Int)=>(bif !n then true else !n_2)=false→eqL [AV.int .i64 d] [AV.int .i64 x]∧True) fun n_3=>.all (fun(x:Bool)=>(bif !n then true else !n_2)=false→x=dayB n_3) fun n_4=>.ite (bif bif !n then true else !n_2 then true else !n_4) (.leaf (.ret [.bool false] [.box [.str nm,.str io,.int .i64 d,.str rt,.str et]])) (.ex (fun(x:List UInt8)=>eqL [AV.str rt] [AV.str x]∧x.length<1099511627776) fun n=>.all (fun(r:Int)=>r=errR n) fun n=>.ex (fun(x:List UInt8)=>(!decide (n=0))=false→eqL [AV.str et] [AV.str x]∧x.length<1099511627776) fun n_5=>.all (fun(x:Int)=>(!decide (n=0))=false→x=errR n_5) fun n_6=>.ite (bif !decide (n=0) then true else !decide (n_6=0)) (.leaf (.ret [.bool false] [.box [.str nm,.str io,.int .i64 d,.str rt,.str et]])) (.side ((!decide (rt=#[(48:UInt8)].toList))=true→(0:Int)≤0∧(0:Int)<rt.length) (.leaf (.ret [.bool (bif !decide (rt=#[(48:UInt8)].toList) then !decide ((↑(UInt8.toNat (rt.getD 0 (0:UInt8))):Int)=45) else false)] [.box [.str nm,.str io,.int .i64 d,.str rt,.str et]]))))) (by kernel_rfl) ?_
 simp only [Tree.holds,zd,inR,lo,hi,Int.toNat_natCast]
 refine⟨nm,⟨⟨rfl,trivial⟩,by simp only at h1; omega⟩,⟨_,rfl⟩,?_⟩
 rintro _ rfl
 refine⟨io,fun _=>⟨⟨rfl,trivial⟩,by simp only at h2; omega⟩,⟨_,fun _=>rfl⟩,fun b2 g2=> ?_⟩
 refine⟨d,fun _=>⟨⟨⟨rfl,rfl⟩,trivial⟩,trivial⟩,⟨_,fun _=>rfl⟩,fun b3 g3=>⟨fun h=> ?_,fun h=> ?_⟩⟩
 ·have:(Ca.mk nm io d rt et).ok=false:=by
   unfold Ca.ok
   simp only
   cases hn:zN nm with
   | false=>simp
   | true=>
    have e2:=g2 (by rw [hn]; rfl)
    cases hi2:zN io with
    | false=>simp
    | true=>
     have e3:=g3 (by rw [hn,e2,hi2]; rfl)
     rw [hn,e2,hi2,e3] at h
     have:dayB d=false:=by simpa using h
     simp [this]
  rw [this] at hq
  exact RetR.scal hq rfl rfl
 have hall:zN nm=true∧zN io=true∧dayB d=true:=by
  cases hn:zN nm with
  | false=>rw [hn] at h; simp at h
  | true=>
   have e2:=g2 (by rw [hn]; rfl)
   cases hi2:zN io with
   | false=>rw [hn,e2,hi2] at h; simp at h
   | true=>
    have e3:=g3 (by rw [hn,e2,hi2]; rfl)
    rw [hn,e2,hi2,e3] at h
    exact⟨rfl,rfl,by simpa using h⟩
 refine⟨rt,⟨⟨rfl,trivial⟩,by simp only at h3; omega⟩,⟨_,rfl⟩,?_⟩
 rintro _ rfl
 refine⟨et,fun _=>⟨⟨rfl,trivial⟩,by simp only at h4; omega⟩,⟨_,fun _=>rfl⟩,fun b4 g4=>⟨fun h=> ?_,fun h=> ?_⟩⟩
 ·have:(Ca.mk nm io d rt et).ok=false:=by
   unfold Ca.ok
   simp only
   by_cases hr:errR rt=0
   ·rw [g4 (by rw [decide_eq_true hr]; rfl),decide_eq_true hr] at h
    have:errR et≠0:=by simpa using h
    simp [this]
   ·simp [hr]
  rw [this] at hq
  exact RetR.scal hq rfl rfl
 ·have hr:errR rt=0:=by
   by_cases hr:errR rt=0
   ·exact hr
   ·rw [decide_eq_false hr] at h; simp at h
  have he:errR et=0:=by
   rw [g4 (by rw [decide_eq_true hr]; rfl),decide_eq_true hr] at h
   simpa using h
  obtain⟨t1,t2,t3⟩:=KF hr
  have hpos:0<rt.length:=List.length_pos_iff.2 t3
  refine⟨fun _=>by omega,fun _=> ?_⟩
  have key:(bif !decide (rt=[48]) then !decide ((((rt.getD 0 0).toNat:Nat):Int)=45) else false)=(Ca.mk nm io d rt et).ok:=by
   unfold Ca.ok
   simp only [hall.1,hall.2.1,hall.2.2,hr,he,decide_true,Bool.true_and,Bool.and_true]
   rw [Bool.eq_iff_iff,decide_eq_true_eq,zjv hr]
   have e:(((rt.getD 0 0).toNat:Nat):Int)=45↔rt.getD 0 0=45:=by
    constructor
    ·intro h; exact UInt8.toNat_inj.1 (by have:(45:UInt8).toNat=45:=rfl; omega)
    ·intro h; rw [h]; rfl
   rw [ne_eq (rt.getD 0 0),← e]
   clear e
   generalize (((rt.getD 0 0).toNat:Nat):Int)=X
   by_cases h1:rt=[48]<;>by_cases h2:X=45<;>simp [h1,h2]
  rw [key]
  exact RetR.scal hq rfl rfl
def zkl:Ctr:=ctrP true (fun a:Ca=>[a.av]) (fun _=>True) (fun a r=>r=false→a.name.length≤1000∧a.into.length≤1000∧a.ratio.length≤1000∧a.extra.length≤1000) (fun _ (r:Bool)=>(.bool r,[]))
theorem zj6:zc Tryz.prog 6 zkl:=by
 refine zf (fn:=Tryz.f6) (c:=Tryz.f6.body.getD .skip) rfl rfl rfl fun a ha O w0 Q hq=> ?_
 obtain⟨nm,io,d,rt,et⟩:=a
 refine zb.run hmix zF [] 400 (T:=.leaf (.ret [.bool (bif bif bif decide ((1000:Int)<nm.length) then true else decide ((1000:Int)<io.length) then true else decide ((1000:Int)<rt.length) then true else decide ((1000:Int)<et.length))] [.box [.str nm,.str io,.int .i64 d,.str rt,.str et]])) (by kernel_rfl) ?_
 simp only [Tree.holds,zd,inR,lo,hi,Int.toNat_natCast]
 refine RetR.scal (hq _ ?_) rfl rfl
 intro h
 by_cases g1:1000<nm.length
 ·rw [decide_eq_true (show(1000:Int)<nm.length by omega)] at h; simp at h
 by_cases g2:1000<io.length
 ·rw [decide_eq_true (show(1000:Int)<io.length by omega)] at h; simp at h
 by_cases g3:1000<rt.length
 ·rw [decide_eq_true (show(1000:Int)<rt.length by omega)] at h; simp at h
 by_cases g4:1000<et.length
 ·rw [decide_eq_true (show(1000:Int)<et.length by omega)] at h; simp at h
 exact⟨by simp only; omega,by simp only; omega,by simp only; omega,by simp only; omega⟩
def qofC:Ctr:=ctrP true (fun n:Nat=>[.int .i64 (n:Int)]) (fun n=>n≤9) (fun n (r:List UInt8)=>r=[UInt8.ofNat (48+n)]) (fun _ (r:List UInt8)=>(.str r,[]))
theorem zek:zc Tryz.prog 48 qofC:=by
 refine zf (fn:=Tryz.f48) (c:=Tryz.f48.body.getD .skip) rfl rfl rfl fun n hn O w0 Q hq=> ?_
 replace hq:=hq _ rfl
 refine zb.run hmix UT [] 400 (T:=.ex (fun(x:Nat)=>eqL [AV.int .i64 n] [AV.int .i64 x]∧x≤9) fun n=>.all (fun(r:List UInt8)=>r=[UInt8.ofNat (48+n)]) fun n=>.leaf (.ret [.str n] [])) (by kernel_rfl) ?_
 simp only [Tree.holds,zd]
 refine⟨n,⟨⟨⟨rfl,rfl⟩,trivial⟩,hn⟩,⟨_,rfl⟩,?_⟩
 rintro _ rfl
 exact RetR.scal hq rfl (by simp [resV])
noncomputable def GAj:Nat→Option Ctr:=fun f=>if f=82 then some (zi0) else if f=48 then some (qofC) else none
theorem zmo:∀ g c,GAj g=some c→zc Tryz.prog g c:=okIf zak (okIf zek (zp))
noncomputable def GAjc(n:Nat):Nat→Option Ctr:=fun f=>if f=83 then some (zfj n) else GAj f
theorem zi9{n:Nat}(h:zc Tryz.prog 83 (zfj n)):∀ f c,GAjc n f=some c→zc Tryz.prog f c:=by
 intro f c hf
 simp only [GAjc] at hf
 split at hf
 ·rename_i hg; subst hg; cases hf; exact h
 ·exact zmo f c hf
theorem zfp(n:Nat)(ih:zc Tryz.prog 81 (adjC n)):zc Tryz.prog 81 (adjC (n+1)):=by
 refine qD (fn:=Tryz.f81) (c:=Tryz.f81.body.getD .skip) rfl rfl rfl (fun h=>by cases h) fun p hp O w0 σ0 Q hl0 hq=> ?_
 obtain⟨a,x⟩:=p
 obtain⟨h1,h2⟩:=hp
 simp only at h1 h2
 rw [Ex.size_eq] at h1 h2
 replace hq:=hq () trivial
 simp only [Ca.Yp] at hq
 refine zb.run hmix (zi9 (zki n ih)) [] 400 (T:=.ite (bif decide (Ex.name x=Ca.name a) then bif decide (Ex.kind x=3) then true else bif decide (Ex.kind x=2) then decide (Ca.date a≤Ex.date x) else false else false) (.ex (fun(x:Nat)=>eqL [AV.int .i64 1] [AV.int .i64 x]∧x≤9) fun n=>.all (fun(r:List UInt8)=>r=[UInt8.ofNat (48+n)]) fun n=>.ite (!decide (Ca.ratio a=n)) (.ex (fun(x:List UInt8)=>eqL [AV.str (Ca.ratio a)] [AV.str x]∧True) fun n=>.all (fun(x:Unit)=>True) fun n_1=>.ex (fun(x:Nat)=>eqL [AV.int .i64 0] [AV.int .i64 x]∧x≤9) fun n_2=>.all (fun(r:List UInt8)=>r=[UInt8.ofNat (48+n_2)]) fun n_3=>.ite (!decide (Ca.extra a=n_3)) (.ex (fun(x:List UInt8)=>eqL [AV.str (Ca.extra a)] [AV.str x]∧True) fun n_4=>.all (fun(x:Unit)=>True) fun n_5=>.leaf (.ret [.agg [.int .u8 4,.str #[].toList,.str #[].toList,.int .i64 0,.osl 5 5 0 2]] [.box [.str (Ca.name a),.str (Ca.into a),.int .i64 (Ca.date a),.str (Ca.ratio a),.str (Ca.extra a)],.box [.fn 81 [] [.ptr 0 0,.ptr 1 0]],.box [.int .u8 4,.str #[].toList,.str #[].toList,.int .i64 0,.osl 5 5 0 2],.box [.int .u8 4,.str #[].toList,.str #[].toList,.int .i64 0,.osl 5 5 0 2],.arr 2 5 (zh 5 [.int .u8 (Ex.kind (Tm.kon n)),.str (Ex.rat (Tm.kon n)),.str (Ex.name (Tm.kon n)),.int .i64 (Ex.date (Tm.kon n)),.sl (List.length (Ex.sub (Tm.kon n))) 5 (Ex.deep (Tm.kon n)),.int .u8 x.kind,.str x.rat,.str (Ca.into a),.int .i64 x.date,.sl x.sub.length 5 (Ex.exG x.sub)]),.box [.int .u8 6,.str #[].toList,.str #[].toList,.int .i64 0,.osl 4 5 0 2,.int .u8 (Ex.kind (Tm.kon n_4)),.str (Ex.rat (Tm.kon n_4)),.str (Ex.name (Tm.kon n_4)),.int .i64 (Ex.date (Tm.kon n_4)),.sl (List.length (Ex.sub (Tm.kon n_4))) 5 (Ex.deep (Tm.kon n_4))]])) (.leaf (.ret [.agg [.int .u8 6,.str #[].toList,.str #[].toList,.int .i64 0,.osl 4 5 0 2]] [.box [.str (Ca.name a),.str (Ca.into a),.int .i64 (Ca.date a),.str (Ca.ratio a),.str (Ca.extra a)],.box [.fn 81 [] [.ptr 0 0,.ptr 1 0]],.box [.int .u8 6,.str #[].toList,.str #[].toList,.int .i64 0,.osl 4 5 0 2],.box [.int .u8 6,.str #[].toList,.str #[].toList,.int .i64 0,.osl 4 5 0 2],.arr 2 5 (zh 5 [.int .u8 (Ex.kind (Tm.kon n)),.str (Ex.rat (Tm.kon n)),.str (Ex.name (Tm.kon n)),.int .i64 (Ex.date (Tm.kon n)),.sl (List.length (Ex.sub (Tm.kon n))) 5 (Ex.deep (Tm.kon n)),.int .u8 x.kind,.str x.rat,.str (Ca.into a),.int .i64 x.date,.sl x.sub.length 5 (Ex.exG x.sub)])]))) (.ex (fun(x:Nat)=>eqL [AV.int .i64 0] [AV.int .i64 x]∧x≤9) fun n=>.all (fun(r:List UInt8)=>r=[UInt8.ofNat (48+n)]) fun n=>.ite (!decide (Ca.extra a=n)) (.ex (fun(x:List UInt8)=>eqL [AV.str (Ca.extra a)] [AV.str x]∧True) fun n=>.all (fun(x:Unit)=>True) fun n_1=>.leaf (.ret [.agg [.int .u8 4,.str #[].toList,.str #[].toList,.int .i64 0,.osl 4 5 0 2]] [.box [.str (Ca.name a),.str (Ca.into a),.int .i64 (Ca.date a),.str (Ca.ratio a),.str (Ca.extra a)],.box [.fn 81 [] [.ptr 0 0,.ptr 1 0]],.box [.int .u8 4,.str #[].toList,.str #[].toList,.int .i64 0,.osl 4 5 0 2],.box [.int .u8 4,.str #[].toList,.str #[].toList,.int .i64 0,.osl 4 5 0 2],.arr 2 5 (zh 5 [.int .u8 x.kind,.str x.rat,.str (Ca.into a),.int .i64 x.date,.sl x.sub.length 5 (Ex.exG x.sub),.int .u8 (Ex.kind (Tm.kon n)),.str (Ex.rat (Tm.kon n)),.str (Ex.name (Tm.kon n)),.int .i64 (Ex.date (Tm.kon n)),.sl (List.length (Ex.sub (Tm.kon n))) 5 (Ex.deep (Tm.kon n))])])) (.leaf (.ret [.agg [.int .u8 x.kind,.str x.rat,.str (Ca.into a),.int .i64 x.date,.sl x.sub.length 5 (Ex.exG x.sub)]] [.box [.str (Ca.name a),.str (Ca.into a),.int .i64 (Ca.date a),.str (Ca.ratio a),.str (Ca.extra a)],.box [.fn 81 [] [.ptr 0 0,.ptr 1 0]],.box [.int .u8 x.kind,.str x.rat,.str (Ca.into a),.int .i64 x.date,.sl x.sub.length 5 (Ex.exG x.sub)],.box [.int .u8 x.kind,.str x.rat,.str (Ca.into a),.int .i64 x.date,.sl x.sub.length 5 (Ex.exG x.sub)]])))) (.ex (fun(x_1:Ca×Ex)=>eqL [x.exA,AV.fn 81 [] [AV.ptr 0 0,AV.ptr 1 0]] [x_1.2.exA,AV.fn 81 [] [AV.ptr 0 0,AV.ptr 1 0]]∧eqH [.box [AV.str (Ca.name a),AV.str (Ca.into a),AV.int .i64 (Ca.date a),AV.str (Ca.ratio a),AV.str (Ca.extra a)],.box [AV.fn 81 [] [AV.ptr 0 0,AV.ptr 1 0]]] [.box [AV.str (Ca.name x_1.1),AV.str (Ca.into x_1.1),AV.int .i64 (Ca.date x_1.1),AV.str (Ca.ratio x_1.1),AV.str (Ca.extra x_1.1)],.box [AV.fn 81 [] [AV.ptr 0 0,AV.ptr 1 0]]]∧2=2∧Ex.zo x_1.2.sub<n∧Ex.zo x_1.2.sub<1099511627776) fun n=>.all (fun(x:Unit)=>True) fun n_1=>.leaf (.ret [(exD (Ex.mk n.2.kind n.2.rat n.2.name n.2.date (List.map (Ca.adj n.1) n.2.sub)))] [.box [.str (Ca.name n.1),.str (Ca.into n.1),.int .i64 (Ca.date n.1),.str (Ca.ratio n.1),.str (Ca.extra n.1)],.box [.fn 81 [] [.ptr 0 0,.ptr 1 0]],.box [.int .u8 x.kind,.str x.rat,.str x.name,.int .i64 x.date,.sl x.sub.length 5 (Ex.exG x.sub)],.box (Ex.cellsD (Ex.mk n.2.kind n.2.rat n.2.name n.2.date (List.map (Ca.adj n.1) n.2.sub)))]))) (by kernel_rfl) ?_
 simp only [Tree.holds,zd]
 obtain⟨c,hc⟩:∃ c,a.onX x.kind x.name x.date=c:=⟨_,rfl⟩
 rw [hc] at hq
 have hcc:(bif decide (x.name=a.name) then bif decide (x.kind=3) then true else bif decide (x.kind=2) then decide (a.date≤x.date) else false else false)=c:=by
  rw [← hc]; unfold Ca.onX
  cases decide (x.kind=3)<;>cases decide (x.kind=2)<;>cases decide (x.name=a.name)<;>cases decide (a.date≤x.date)<;>rfl
 rw [hcc]
 refine⟨fun h=> ?_,fun h=> ?_⟩
 ·rw [if_pos h] at hq
  have hq2:∀ y:Ex,Ca.rel a (.mk x.kind x.rat a.into x.date x.sub)=y→Q (exD y,HAd a):=fun y e=>by rw [← e]; exact hq
  unfold Ca.rel at hq2
  have e48:[UInt8.ofNat (48+0)]=[48]:=rfl
  have e49:[UInt8.ofNat (48+1)]=[49]:=rfl
  refine⟨1,⟨⟨⟨rfl,rfl⟩,trivial⟩,by decide⟩,⟨_,rfl⟩,?_⟩
  rintro _ rfl
  rw [e49]
  refine⟨fun h1=> ?_,fun h1=> ?_⟩<;>simp at h1
  ·refine⟨a.ratio,⟨⟨rfl,trivial⟩,trivial⟩,⟨(),trivial⟩,fun _ _=>⟨0,⟨⟨⟨rfl,rfl⟩,trivial⟩,by decide⟩,⟨_,rfl⟩,?_⟩⟩
   rintro _ rfl
   rw [e48]
   refine⟨fun h2=> ?_,fun h2=> ?_⟩<;>simp at h2
   ·rw [if_neg h2,if_neg h1] at hq2
    refine⟨a.extra,⟨⟨rfl,trivial⟩,trivial⟩,⟨(),trivial⟩,fun _ _=> ?_⟩
    exact RetR.xB [0,1] rfl rfl (by show ∀ j,j<2→_; decide) rfl (hq2 _ rfl) (LeA.agg ⟨LeA.refl _,LeA.refl _,LeA.refl _,LeA.refl _,Ex.vy (x:=Tm.opx 6 [Tm.kon a.ratio,Ex.mk x.kind x.rat a.into x.date x.sub]) (y:=Tm.kon a.extra) ⟨LeA.refl _,LeA.refl _,LeA.refl _,LeA.refl _,Ex.vy (x:=Tm.kon a.ratio) (y:=Ex.mk x.kind x.rat a.into x.date x.sub) ⟨LeA.refl _,LeA.refl _,LeA.refl _,LeA.refl _,LeA.refl _,LeA.refl _,LeA.refl _,LeA.refl _,LeA.refl _,Ex.js (Ex.mk x.kind x.rat a.into x.date x.sub),trivial⟩,LeA.refl _,LeA.refl _,LeA.refl _,LeA.refl _,LeA.refl _,trivial⟩,trivial⟩) (by simp [expH,expB,exp1,exp0,ren0,HAd,z6]) rfl
   ·rw [if_pos h2,if_neg h1] at hq2
    exact RetR.xB [0,1] rfl rfl (by show ∀ j,j<2→_; decide) rfl (hq2 _ rfl) (LeA.agg ⟨LeA.refl _,LeA.refl _,LeA.refl _,LeA.refl _,Ex.vy (x:=Tm.kon a.ratio) (y:=Ex.mk x.kind x.rat a.into x.date x.sub) ⟨LeA.refl _,LeA.refl _,LeA.refl _,LeA.refl _,LeA.refl _,LeA.refl _,LeA.refl _,LeA.refl _,LeA.refl _,Ex.js (Ex.mk x.kind x.rat a.into x.date x.sub),trivial⟩,trivial⟩) (by simp [expH,expB,exp1,exp0,ren0,HAd,z6]) rfl
  ·refine⟨0,⟨⟨⟨rfl,rfl⟩,trivial⟩,by decide⟩,⟨_,rfl⟩,?_⟩
   rintro _ rfl
   rw [e48]
   refine⟨fun h2=> ?_,fun h2=> ?_⟩<;>simp at h2
   ·rw [if_neg h2,if_pos h1] at hq2
    refine⟨a.extra,⟨⟨rfl,trivial⟩,trivial⟩,⟨(),trivial⟩,fun _ _=> ?_⟩
    exact RetR.xB [0,1] rfl rfl (by show ∀ j,j<2→_; decide) rfl (hq2 _ rfl) (LeA.agg ⟨LeA.refl _,LeA.refl _,LeA.refl _,LeA.refl _,Ex.vy (x:=Ex.mk x.kind x.rat a.into x.date x.sub) (y:=Tm.kon a.extra) ⟨LeA.refl _,LeA.refl _,LeA.refl _,LeA.refl _,Ex.js (Ex.mk x.kind x.rat a.into x.date x.sub),LeA.refl _,LeA.refl _,LeA.refl _,LeA.refl _,LeA.refl _,trivial⟩,trivial⟩) (by simp [expH,expB,exp1,exp0,ren0,HAd,z6]) rfl
   ·rw [if_pos h2,if_pos h1] at hq2
    exact RetR.xB [0,1] rfl rfl (by show ∀ j,j<2→_; decide) rfl (hq2 _ rfl) (LeA.agg ⟨LeA.refl _,LeA.refl _,LeA.refl _,LeA.refl _,Ex.js (Ex.mk x.kind x.rat a.into x.date x.sub),trivial⟩) (by simp [expH,expB,exp1,exp0,ren0,HAd,z6]) rfl
 rw [h,if_neg (by decide)] at hq
 refine⟨(a,x),⟨⟨zD x,by simp,trivial⟩,by simp,trivial,by show Ex.zo x.sub<n; omega,by show Ex.zo x.sub<_; omega⟩,⟨(),trivial⟩,fun _ _=> ?_⟩
 exact RetR.xB [0,1] rfl rfl (by show ∀ j,j<2→_; decide) rfl hq (LeA.refl _) (by simp [expH,expB,exp1,exp0,ren0,HAd,z6]) rfl
theorem zj8(n:Nat):zc Tryz.prog 81 (adjC n):=by
 induction n with
 | zero=>
  intro args hc Q hq _
  simp only [adjC,ctrT] at hq
  obtain⟨x,⟨_,_,_,h,_⟩,_⟩:=hq
  exact absurd h (Nat.not_lt_zero _)
 | succ n ih=>exact zfp n ih
def Yt:Ctr:=ctrT false false (fun p:Ca×Ex=>[p.2.exA,.ptr 0 0,.ptr 1 0]) (fun p=>HAd p.1) (fun p=>p.2.size<2^40) (fun _ (_:Unit)=>True) (fun p _=>(exD (p.1.adj p.2),HAd p.1))
theorem Uk:zc Tryz.prog 81 Yt:=by
 intro args hc Q hq hf
 simp only [Yt,ctrT] at hq
 obtain⟨x,⟨h1,h2,h3,h4⟩,h5⟩:=hq
 exact zj8 (x.2.size+1) args hc Q ⟨x,⟨h1,h2,h3,Nat.lt_succ_self _,h4⟩,h5⟩ hf
noncomputable def GAdj:Nat→Option Ctr:=fun f=>if f=81 then some (Yt) else none
theorem ziu:∀ g c,GAdj g=some c→zc Tryz.prog g c:=okIf Uk (zp)
def ZA:Ctr:=ctrP false (fun p:Ca×Ex=>[p.1.av,p.2.exA]) (fun p=>p.2.size<2^40) (fun _ (_:Unit)=>True) (fun p _=>(exD (p.1.adj p.2),[]))
theorem ZU:zc Tryz.prog 38 ZA:=by
 refine zf (fn:=Tryz.f38) (c:=Tryz.f38.body.getD .skip) rfl rfl rfl fun p hp O w0 Q hq=> ?_
 obtain⟨a,x⟩:=p
 replace hq:=hq () trivial
 refine zb.run hmix ziu [] 400 (T:=.ex (fun(x_1:Ca×Ex)=>eqL [x.exA,AV.ptr 0 0,AV.ptr 1 0] [x_1.2.exA,AV.ptr 0 0,AV.ptr 1 0]∧eqH [.box [AV.str (Ca.name a),AV.str (Ca.into a),AV.int .i64 (Ca.date a),AV.str (Ca.ratio a),AV.str (Ca.extra a)],.box [AV.fn 81 [] [AV.ptr 0 0,AV.ptr 1 0]]] [.box [AV.str (Ca.name x_1.1),AV.str (Ca.into x_1.1),AV.int .i64 (Ca.date x_1.1),AV.str (Ca.ratio x_1.1),AV.str (Ca.extra x_1.1)],.box [AV.fn 81 [] [AV.ptr 0 0,AV.ptr 1 0]]]∧2=2∧Ex.size x_1.2<1099511627776) fun n=>.all (fun(x:Unit)=>True) fun n_1=>.leaf (.ret [(exD (Ca.adj n.1 n.2))] [.box [.str (Ca.name n.1),.str (Ca.into n.1),.int .i64 (Ca.date n.1),.str (Ca.ratio n.1),.str (Ca.extra n.1)],.box [.int .u8 x.kind,.str x.rat,.str x.name,.int .i64 x.date,.sl x.sub.length 5 (Ex.exG x.sub)],.box (Ex.cellsD (Ca.adj n.1 n.2)),.box [.fn 81 [] [.ptr 0 0,.ptr 3 0]]])) (by kernel_rfl) ?_
 simp only [Tree.holds,zd]
 refine⟨(a,x),⟨⟨zD x,⟨rfl,rfl⟩,⟨rfl,rfl⟩,trivial⟩,by simp,trivial,hp⟩,⟨(),trivial⟩,fun _ _=> ?_⟩
 exact RetR.le0 hq (fun h=>by cases h) (LeA.refl _)
end Go.Proofs.Tryz
end
section
namespace Go.Nov
open Go.Sx
theorem Xd{k p:Int}(h:p∈qM k):p≠0:=by
 unfold qM ZQ at h
 cases e:shpL.find? (fun q=>q.1 == k) with
 | none=>rw [e] at h; simp at h
 | some q=>
  rw [e] at h
  simp only [Option.map_some,Option.getD_some] at h
  have hq:=List.mem_of_find?_eq_some e
  have all:∀ q∈shpL,∀ p∈q.2.1,p≠0:=by decide
  exact all q hq p h
theorem zf0{k d:Int}{r n:List UInt8}{ss:List Int}(h:jA k r n d ss≠0):∀ p∈ss,p≠0:=by
 unfold jA at h
 split at h
 ·split at h
  ·rename_i h2
   rw [h2.2.2.2]
   exact fun p hp=>Xd hp
  ·exact absurd rfl h
 ·split at h
  ·rename_i h2
   unfold qw at h2
   have:ss=[]:=by simp at h2; exact h2.1
   rw [this]; simp
  ·exact absurd rfl h
theorem V6{k d:Int}{r n:List UInt8}{ss:List Int}(h:jA k r n d ss≠0)(hk:k=3∨k=2):r=[]∧ss=[]:=by
 have hs:w5 k=false:=by rcases hk with rfl | rfl<;>decide
 rw [vR hs] at h
 split at h
 ·rename_i h2
  unfold qw at h2
  rcases hk with rfl | rfl<;>simp at h2
  ·exact⟨h2.2.1.1,h2.1⟩
  ·exact⟨h2.2.1.1,h2.1⟩
 ·exact absurd rfl h
namespace Ca
mutual
theorem Ko(a:Ca):∀ x:Ex,x.qn≠0→adj a x=chg a x
 | .mk k r n d s,h=>by
  rw [Ex.qn] at h
  rw [adj,chg]
  by_cases hh:a.onX k n d=true
  ·rw [if_pos hh,if_pos hh]
   have hk:k=3∨k=2:=by
    simp [onX] at hh
    rcases hh.2 with h1 | h1
    ·exact .inl h1
    ·exact .inr h1.1
   obtain⟨h1,h2⟩:=V6 h hk
   have:s=[]:=by
    cases s with
    | nil=>rfl
    | cons x s=>rw [Ex.qP] at h2; cases h2
   rw [h1,this]
  ·rw [if_neg hh,if_neg hh,Vu a s (zf0 h)]
theorem Vu(a:Ca):∀ s:List Ex,(∀ p∈Ex.qP s,p≠0)→adjs a s=chgs a s
 | [],_=>by rw [adjs,chgs]
 | x::s,h=>by
  rw [Ex.qP] at h
  rw [adjs,chgs,Ko a x (h _ (by simp)),Vu a s (fun p hp=>h p (by simp [hp]))]
end
theorem zfx(a:Ca)(y:Ex):(a.rel y).size≤y.size+4∧(a.rel y).zq≤y.zq+a.ratio.length+a.extra.length:=by
 unfold rel
 split<;>split<;>(try simp only [Tm.opx,Tm.kon,Ex.size,Ex.zo,Ex.zq,Ex.qc,List.length_nil])<;>omega
mutual
theorem Q5(a:Ca):∀ x:Ex,(chg a x).size≤5*x.size∧(chg a x).zq≤x.zq+x.size*(a.into.length+a.ratio.length+a.extra.length)
 | .mk k r n d s=>by
  rw [chg]
  by_cases hh:a.onX k n d=true
  ·rw [if_pos hh]
   have h:=zfx a (.mk k [] a.into d [])
   simp only [Ex.size,Ex.zo,Ex.zq,Ex.qc,List.length_nil] at h ⊢
   have hm:a.into.length+a.ratio.length+a.extra.length≤(1+Ex.zo s)*(a.into.length+a.ratio.length+a.extra.length):=Nat.le_mul_of_pos_left _ (by omega)
   omega
  ·rw [if_neg hh]
   have h:=W5 a s
   simp only [Ex.size,Ex.zq,Nat.add_mul,Nat.one_mul] at h ⊢
   omega
theorem W5(a:Ca):∀ s:List Ex,Ex.zo (chgs a s)≤5*Ex.zo s∧Ex.qc (chgs a s)≤Ex.qc s+Ex.zo s*(a.into.length+a.ratio.length+a.extra.length)
 | []=>by rw [chgs]; simp [Ex.zo,Ex.qc]
 | x::s=>by
  have h1:=Q5 a x
  have h2:=W5 a s
  rw [chgs]
  simp only [Ex.zo,Ex.qc,Nat.add_mul] at h1 h2 ⊢
  omega
end
theorem zje{k d:Int}{s t n:List UInt8}{x:Ex}{l:List Int}{m:Nat}(h:vN k s t n x d l m=true):q9 x=true∨x.qn≠0:=by
 have hn:numX x=true→x.qn≠0:=fun h=>by simp [numX] at h; omega
 have ht:truX x=true→x.qn≠0:=fun h=>by simp [truX] at h; omega
 unfold vN at h
 repeat' split at h
 all_goals simp only [Bool.and_eq_true,Bool.false_eq_true] at h
 all_goals first
  | exact h.elim
  | exact .inl h.2
  | exact .inr (hn h.2)
  | exact .inr (ht h.2)
  | exact .inr (hn h.1.1.2)
theorem zc1(a:Ca){x:Ex}(h:q9 x=true∨x.qn≠0):adj a x=chg a x:=by
 rcases h with h | h
 ·obtain⟨k,r,n,d,s⟩:=x
  simp [q9,Ex.kind,Ex.rat,Ex.name,Ex.date,Ex.sub] at h
  obtain⟨h0,_,_,_,rfl⟩:=h
  obtain rfl:k=0:=of_decide_eq_true h0
  rw [adj,chg,adjs,chgs]
  have:a.onX 0 n d=false:=by simp [onX]
  rw [this]; simp
 ·exact Ko a x h
mutual
theorem Zh(a:Ca):∀ c:Con,c.form=true→whole a.adj c=whole a.chg c
 | .mk k s t n x d l u,h=>by
  rw [Con.form,Bool.and_eq_true] at h
  rw [whole,whole,zc1 a (zje h.1),Ji a u h.2]
theorem Ji(a:Ca):∀ u:List Con,Con.wP u=true→jH a.adj u=jH a.chg u
 | [],_=>by rw [jH,jH]
 | c::u,h=>by
  rw [Con.wP,Bool.and_eq_true] at h
  rw [jH,jH,Zh a c h.1,Ji a u h.2]
end
mutual
theorem xd(a:Ca):∀ c:Con,(whole a.chg c).nodes=c.nodes∧(whole a.chg c).big≤5*c.big+c.big*(a.into.length+a.ratio.length+a.extra.length)
 | .mk k s t n x d l u=>by
  have h1:=Q5 a x
  have h2:=Qc a u
  rw [whole]
  simp only [Con.nodes,Con.big,Nat.add_mul] at h1 h2 ⊢
  omega
theorem Qc(a:Ca):∀ u:List Con,Con.zL (jH a.chg u)=Con.zL u∧Con.bigs (jH a.chg u)≤5*Con.bigs u+Con.bigs u*(a.into.length+a.ratio.length+a.extra.length)
 | []=>by rw [jH]; simp [Con.zL,Con.bigs]
 | c::u=>by
  have h1:=xd a c
  have h2:=Qc a u
  rw [jH]
  simp only [Con.zL,Con.bigs,Nat.add_mul] at h1 h2 ⊢
  omega
end
def expr(a:Ca)(x:Ex):Ex×Int:=if a.ok=true then(if x.errX=0 then(if(chg a x).errX=0 then(chg a x,0) else(Ex.nil,(chg a x).errX)) else(Ex.nil,x.errX)) else(Ex.nil,8)
def conv(a:Ca)(c:Con):Con×Int:=if a.ok=true then(if c.errC=0 then(if(whole a.chg c).errC=0 then(whole a.chg c,0) else(Con.nil,(whole a.chg c).errC)) else(Con.nil,c.errC)) else(Con.nil,8)
end Ca
end Go.Nov
end
section
set_option maxRecDepth 100000
open Go Go.Sx Go.Proofs Go.Nov
namespace Go.Proofs.Tryz
attribute [local simp] eqKV eqA eqA0 eqH eqB eqL eqL0
noncomputable def GRex:Nat→Option Ctr:=fun f=>if f=17 then some (uG) else if f=39 then some (ye) else if f=40 then some (Y9) else none
theorem zjx:∀ g c,GRex g=some c→zc Tryz.prog g c:=okIf yL (okIf J9 (okIf zgv (zp)))
noncomputable def GPex:Nat→Option Ctr:=fun f=>if f=16 then some (uA) else if f=37 then some (ye) else if f=38 then some (ZA) else none
theorem zkd:∀ g c,GPex g=some c→zc Tryz.prog g c:=okIf yS (okIf Vw (okIf ZU (zp)))
def kC(a:Ca):Prop:=a.name.length≤1000∧a.into.length≤1000∧a.ratio.length≤1000∧a.extra.length≤1000
theorem qF{a:Ca}(h:kC a):wD a:=by
 obtain⟨h1,h2,h3,h4⟩:=h
 exact⟨by omega,by omega,by omega,by omega⟩
theorem Jq{a:Ca}{x:Ex}(ha:kC a)(h1:x.size<2^20)(h2:x.zq<2^30):(a.chg x).size<2^40∧(a.chg x).zq<2^40:=by
 obtain⟨_,a2,a3,a4⟩:=ha
 obtain⟨s1,s2⟩:=Ca.Q5 a x
 have:x.size*(a.into.length+a.ratio.length+a.extra.length)≤2^20*3000:=Nat.mul_le_mul (by omega) (by omega)
 omega
theorem yn{e:Int} : eqA2 (.tup [.agg [.int .u8 0,.str [],.str [],.int .i64 0,.nils],.int .i64 e]) (.tup [exD Ex.nil,.int .i64 e]):=by
 simp [eqA2,eqL1,exD,Ex.nil,Ex.kind,Ex.rat,Ex.name,Ex.date,Ex.sub]
theorem zjy{x:Ex}(h:x.errX=0):x.qn≠0:=by
 intro e
 unfold Ex.errX at h
 rw [if_pos e] at h
 split at h<;>simp at h
def Kx:Ctr:=ctrP false (fun p:Ca×Ex=>[p.1.av,p.2.exA]) (fun p=>kC p.1∧p.2.size<2^20∧p.2.zq<2^30) (fun _ (_:Unit)=>True) (fun p _=>(.tup [exD (p.1.expr p.2).1,.int .i64 (p.1.expr p.2).2],[]))
theorem zdn:zc Tryz.prog 11 Kx:=by
 refine zf (fn:=Tryz.f11) (c:=Tryz.f11.body.getD .skip) rfl rfl rfl fun p hp O w0 Q hq=> ?_
 obtain⟨a,x⟩:=p
 replace hq:=hq () trivial
 refine zb.run hmix zjx [] 400 (T:=.ex (fun(x:Ca)=>eqL [AV.agg [AV.str (Ca.name a),AV.str (Ca.into a),AV.int .i64 (Ca.date a),AV.str (Ca.ratio a),AV.str (Ca.extra a)]] [AV.agg [AV.str (Ca.name x),AV.str (Ca.into x),AV.int .i64 (Ca.date x),AV.str (Ca.ratio x),AV.str (Ca.extra x)]]∧wD x) fun n=>.all (fun(r:Bool)=>r=Ca.ok n) fun n=>.ite (!n) (.leaf (.ret [.agg [.int .u8 0,.str #[].toList,.str #[].toList,.int .i64 0,.nils],.int .i64 8] [.box [.str (Ca.name a),.str (Ca.into a),.int .i64 (Ca.date a),.str (Ca.ratio a),.str (Ca.extra a)],.box [.int .u8 x.kind,.str x.rat,.str x.name,.int .i64 x.date,.sl x.sub.length 5 (Ex.exG x.sub)],.box [.int .u8 0,.str #[].toList,.str #[].toList,.int .i64 0,.nils]])) (.ex (fun(x_1:Ex)=>eqL [x.exA] [x_1.exA]∧Ex.size x_1<1099511627776∧Ex.zq x_1<1099511627776) fun n=>.all (fun(r:Int)=>r=Ex.errX n) fun n=>.ite (!decide (n=0)) (.leaf (.ret [.agg [.int .u8 0,.str #[].toList,.str #[].toList,.int .i64 0,.nils],.int .i64 n] [.box [.str (Ca.name a),.str (Ca.into a),.int .i64 (Ca.date a),.str (Ca.ratio a),.str (Ca.extra a)],.box [.int .u8 x.kind,.str x.rat,.str x.name,.int .i64 x.date,.sl x.sub.length 5 (Ex.exG x.sub)],.box [.int .u8 0,.str #[].toList,.str #[].toList,.int .i64 0,.nils]])) (.ex (fun(x_1:Ca×Ex)=>eqL [AV.agg [AV.str (Ca.name a),AV.str (Ca.into a),AV.int .i64 (Ca.date a),AV.str (Ca.ratio a),AV.str (Ca.extra a)],x.exA] [AV.agg [AV.str (Ca.name x_1.1),AV.str (Ca.into x_1.1),AV.int .i64 (Ca.date x_1.1),AV.str (Ca.ratio x_1.1),AV.str (Ca.extra x_1.1)],x_1.2.exA]∧Ex.size x_1.2<1099511627776) fun n=>.all (fun(x:Unit)=>True) fun n_1=>.ex (fun(x:Ex)=>eqL [(exD (Ca.chg n.1 n.2))] [x.exA]∧Ex.size x<1099511627776∧Ex.zq x<1099511627776) fun n_2=>.all (fun(r:Int)=>r=Ex.errX n_2) fun n_3=>.ite (!decide (n_3=0)) (.leaf (.ret [.agg [.int .u8 0,.str #[].toList,.str #[].toList,.int .i64 0,.nils],.int .i64 n_3] [.box [.str (Ca.name a),.str (Ca.into a),.int .i64 (Ca.date a),.str (Ca.ratio a),.str (Ca.extra a)],.box [.int .u8 x.kind,.str x.rat,.str x.name,.int .i64 x.date,.sl x.sub.length 5 (Ex.exG x.sub)],.box [.int .u8 0,.str #[].toList,.str #[].toList,.int .i64 0,.nils],.box (Ex.cellsD (Ca.chg n.1 n.2))])) (.leaf (.ret [(exD (Ca.chg n.1 n.2)),.int .i64 0] [.box [.str (Ca.name a),.str (Ca.into a),.int .i64 (Ca.date a),.str (Ca.ratio a),.str (Ca.extra a)],.box [.int .u8 x.kind,.str x.rat,.str x.name,.int .i64 x.date,.sl x.sub.length 5 (Ex.exG x.sub)],.box (Ex.cellsD (Ca.chg n.1 n.2)),.box (Ex.cellsD (Ca.chg n.1 n.2))]))))) (by kernel_rfl) ?_
 simp only [Tree.holds,zd]
 obtain⟨ht,hx1,hx2⟩:=hp
 simp only at ht hx1 hx2 hq
 obtain⟨c1,c2⟩:=Jq ht hx1 hx2
 unfold Ca.expr at hq
 have ha:eqA (.agg [.str a.name,.str a.into,.int .i64 a.date,.str a.ratio,.str a.extra]) a.av:=⟨rfl,rfl,⟨rfl,rfl⟩,rfl,rfl,trivial⟩
 refine⟨a,⟨⟨ha,trivial⟩,qF ht⟩,⟨_,rfl⟩,?_⟩
 rintro _ rfl
 refine⟨fun h=> ?_,fun h=> ?_⟩<;>simp at h
 ·rw [h,if_neg (by decide)] at hq
  exact RetR.out0 hq (fun h=>by cases h) yn
 rw [if_pos h] at hq
 refine⟨x,⟨⟨zD x,trivial⟩,by omega,by omega⟩,⟨_,rfl⟩,?_⟩
 rintro _ rfl
 refine⟨fun h=> ?_,fun h=> ?_⟩<;>simp at h
 ·rw [if_neg h] at hq
  exact RetR.out0 hq (fun h=>by cases h) yn
 rw [if_pos h] at hq
 refine⟨(a,x),⟨⟨ha,zD x,trivial⟩,by show x.size<_; omega⟩,⟨(),trivial⟩,fun _ _=> ?_⟩
 refine⟨a.chg x,⟨⟨xf _,trivial⟩,c1,c2⟩,⟨_,rfl⟩,?_⟩
 rintro _ rfl
 refine⟨fun h=> ?_,fun h=> ?_⟩<;>simp at h
 ·rw [if_neg h] at hq
  exact RetR.out0 hq (fun h=>by cases h) yn
 rw [if_pos h] at hq
 exact RetR.le0 hq (fun h=>by cases h) (LeA.refl _)
theorem zin:zc Tryz.prog 10 Kx:=by
 refine zf (fn:=Tryz.f10) (c:=Tryz.f10.body.getD .skip) rfl rfl rfl fun p hp O w0 Q hq=> ?_
 obtain⟨a,x⟩:=p
 replace hq:=hq () trivial
 refine zb.run hmix zkd [] 400 (T:=.ex (fun(x:Ca)=>eqL [AV.agg [AV.str (Ca.name a),AV.str (Ca.into a),AV.int .i64 (Ca.date a),AV.str (Ca.ratio a),AV.str (Ca.extra a)]] [AV.agg [AV.str (Ca.name x),AV.str (Ca.into x),AV.int .i64 (Ca.date x),AV.str (Ca.ratio x),AV.str (Ca.extra x)]]∧wD x) fun n=>.all (fun(r:Int)=>r=if Ca.ok n=true then(0:Int) else(8:Int)) fun n=>.ite (!decide (n=0)) (.leaf (.ret [.agg [.int .u8 0,.str #[].toList,.str #[].toList,.int .i64 0,.nils],.int .i64 n] [.box [.str (Ca.name a),.str (Ca.into a),.int .i64 (Ca.date a),.str (Ca.ratio a),.str (Ca.extra a)],.box [.int .u8 x.kind,.str x.rat,.str x.name,.int .i64 x.date,.sl x.sub.length 5 (Ex.exG x.sub)],.box [.int .u8 0,.str #[].toList,.str #[].toList,.int .i64 0,.nils]])) (.ex (fun(x_1:Ex)=>eqL [x.exA] [x_1.exA]∧Ex.size x_1<1099511627776∧Ex.zq x_1<1099511627776) fun n=>.all (fun(r:Int)=>r=Ex.errX n) fun n=>.ite (!decide (n=0)) (.leaf (.ret [.agg [.int .u8 0,.str #[].toList,.str #[].toList,.int .i64 0,.nils],.int .i64 n] [.box [.str (Ca.name a),.str (Ca.into a),.int .i64 (Ca.date a),.str (Ca.ratio a),.str (Ca.extra a)],.box [.int .u8 x.kind,.str x.rat,.str x.name,.int .i64 x.date,.sl x.sub.length 5 (Ex.exG x.sub)],.box [.int .u8 0,.str #[].toList,.str #[].toList,.int .i64 0,.nils]])) (.ex (fun(x_1:Ca×Ex)=>eqL [AV.agg [AV.str (Ca.name a),AV.str (Ca.into a),AV.int .i64 (Ca.date a),AV.str (Ca.ratio a),AV.str (Ca.extra a)],x.exA] [AV.agg [AV.str (Ca.name x_1.1),AV.str (Ca.into x_1.1),AV.int .i64 (Ca.date x_1.1),AV.str (Ca.ratio x_1.1),AV.str (Ca.extra x_1.1)],x_1.2.exA]∧Ex.size x_1.2<1099511627776) fun n=>.all (fun(x:Unit)=>True) fun n_1=>.ex (fun(x:Ex)=>eqL [(exD (Ca.adj n.1 n.2))] [x.exA]∧Ex.size x<1099511627776∧Ex.zq x<1099511627776) fun n_2=>.all (fun(r:Int)=>r=Ex.errX n_2) fun n_3=>.ite (!decide (n_3=0)) (.leaf (.ret [.agg [.int .u8 0,.str #[].toList,.str #[].toList,.int .i64 0,.nils],.int .i64 n_3] [.box [.str (Ca.name a),.str (Ca.into a),.int .i64 (Ca.date a),.str (Ca.ratio a),.str (Ca.extra a)],.box [.int .u8 x.kind,.str x.rat,.str x.name,.int .i64 x.date,.sl x.sub.length 5 (Ex.exG x.sub)],.box [.int .u8 0,.str #[].toList,.str #[].toList,.int .i64 0,.nils],.box (Ex.cellsD (Ca.adj n.1 n.2))])) (.leaf (.ret [(exD (Ca.adj n.1 n.2)),.int .i64 0] [.box [.str (Ca.name a),.str (Ca.into a),.int .i64 (Ca.date a),.str (Ca.ratio a),.str (Ca.extra a)],.box [.int .u8 x.kind,.str x.rat,.str x.name,.int .i64 x.date,.sl x.sub.length 5 (Ex.exG x.sub)],.box (Ex.cellsD (Ca.adj n.1 n.2)),.box (Ex.cellsD (Ca.adj n.1 n.2))]))))) (by kernel_rfl) ?_
 simp only [Tree.holds,zd]
 obtain⟨ht,hx1,hx2⟩:=hp
 simp only at ht hx1 hx2 hq
 obtain⟨c1,c2⟩:=Jq ht hx1 hx2
 unfold Ca.expr at hq
 have ha:eqA (.agg [.str a.name,.str a.into,.int .i64 a.date,.str a.ratio,.str a.extra]) a.av:=⟨rfl,rfl,⟨rfl,rfl⟩,rfl,rfl,trivial⟩
 refine⟨a,⟨⟨ha,trivial⟩,qF ht⟩,⟨_,rfl⟩,?_⟩
 rintro _ rfl
 by_cases hok:a.ok=true
 ·rw [if_pos hok] at hq ⊢
  refine⟨fun h=>by simp at h,fun _=> ?_⟩
  refine⟨x,⟨⟨zD x,trivial⟩,by omega,by omega⟩,⟨_,rfl⟩,?_⟩
  rintro _ rfl
  refine⟨fun h=> ?_,fun h=> ?_⟩<;>simp at h
  ·rw [if_neg h] at hq
   exact RetR.out0 hq (fun h=>by cases h) yn
  have e:a.adj x=a.chg x:=Ca.Ko a x (zjy h)
  rw [if_pos h] at hq
  refine⟨(a,x),⟨⟨ha,zD x,trivial⟩,by show x.size<_; omega⟩,⟨(),trivial⟩,fun _ _=> ?_⟩
  simp only [e]
  refine⟨a.chg x,⟨⟨xf _,trivial⟩,c1,c2⟩,⟨_,rfl⟩,?_⟩
  rintro _ rfl
  refine⟨fun h=> ?_,fun h=> ?_⟩<;>simp at h
  ·rw [if_neg h] at hq
   exact RetR.out0 hq (fun h=>by cases h) yn
  rw [if_pos h] at hq
  exact RetR.le0 hq (fun h=>by cases h) (LeA.refl _)
 ·rw [if_neg hok] at hq ⊢
  exact⟨fun _=>RetR.out0 hq (fun h=>by cases h) yn,fun h=>by simp at h⟩
noncomputable def GRad:Nat→Option Ctr:=fun f=>if f=17 then some (uG) else if f=44 then some (uz) else if f=45 then some (zh9) else none
theorem zjo:∀ g c,GRad g=some c→zc Tryz.prog g c:=okIf yL (okIf Uo (okIf zmj (zp)))
def zl3:Ctr:=ctrP false (fun p:Ca×Con=>[p.1.av,p.2.conA]) (fun p=>kC p.1∧p.2.big<2^26∧p.2.nodes≤1000000) (fun _ (_:Unit)=>True) (fun p _=>(.tup [(p.1.conv p.2).1.conD,.int .i64 (p.1.conv p.2).2],[]))
theorem yK{a:Ca}{c:Con}(ha:kC a)(h1:c.big<2^26):(Ca.whole a.chg c).big<2^39:=by
 obtain⟨_,a2,a3,a4⟩:=ha
 obtain⟨s1,s2⟩:=Ca.xd a c
 have:c.big*(a.into.length+a.ratio.length+a.extra.length)≤2^26*3000:=Nat.mul_le_mul (by omega) (by omega)
 omega
theorem VP{n:Int} : eqA2 (.tup [.agg [.int .u8 0,.str [],.str [],.str [],.int .u8 0,.str [],.str [],.int .i64 0,.nils,.int .i64 0,.nils,.nils],.int .i64 n]) (.tup [Con.nil.conD,.int .i64 n]):=by
 simp [eqA2,eqL1,Con.nil,Ex.nil,Con.conD,Con.outD,Con.dayS,Ex.exS,Con.kind,Con.src,Con.dst,Con.name,Con.x,Con.date,Con.days,Con.sub,Ex.kind,Ex.rat,Ex.name,Ex.date,Ex.sub]
theorem zi6:zc Tryz.prog 13 zl3:=by
 refine zf (fn:=Tryz.f13) (c:=Tryz.f13.body.getD .skip) rfl rfl rfl fun p hp O w0 Q hq=> ?_
 obtain⟨a,c⟩:=p
 replace hq:=hq () trivial
 obtain⟨ht,hx1,hx2⟩:=hp
 simp only at ht hx1 hx2 hq
 have c1:=yK ht hx1
 have c2:=(Ca.xd a c).1
 unfold Ca.conv at hq
 have ha:eqA (.agg [.str a.name,.str a.into,.int .i64 a.date,.str a.ratio,.str a.extra]) a.av:=⟨rfl,rfl,⟨rfl,rfl⟩,rfl,rfl,trivial⟩
 refine zb.run hmix zjo [] 400 (T:=.ex (fun(x:Ca)=>eqL [AV.agg [AV.str (Ca.name a),AV.str (Ca.into a),AV.int .i64 (Ca.date a),AV.str (Ca.ratio a),AV.str (Ca.extra a)]] [AV.agg [AV.str (Ca.name x),AV.str (Ca.into x),AV.int .i64 (Ca.date x),AV.str (Ca.ratio x),AV.str (Ca.extra x)]]∧wD x) fun n=>.all (fun(r:Bool)=>r=Ca.ok n) fun n=>.ite (!n) (.leaf (.ret [.agg [.int .u8 0,.str #[].toList,.str #[].toList,.str #[].toList,.int .u8 0,.str #[].toList,.str #[].toList,.int .i64 0,.nils,.int .i64 0,.nils,.nils],.int .i64 8] [.box [.str (Ca.name a),.str (Ca.into a),.int .i64 (Ca.date a),.str (Ca.ratio a),.str (Ca.extra a)],.box (Con.ze c),.box [.int .u8 0,.str #[].toList,.str #[].toList,.str #[].toList,.int .u8 0,.str #[].toList,.str #[].toList,.int .i64 0,.nils,.int .i64 0,.nils,.nils]])) (.ex (fun(x:Con)=>eqL [(Con.conA c)] [(Con.conA x)]∧Con.big x<1099511627776∧Con.nodes x≤1000000) fun n=>.all (fun(r:Int)=>r=Con.errC n) fun n=>.ite (!decide (n=0)) (.leaf (.ret [.agg [.int .u8 0,.str #[].toList,.str #[].toList,.str #[].toList,.int .u8 0,.str #[].toList,.str #[].toList,.int .i64 0,.nils,.int .i64 0,.nils,.nils],.int .i64 n] [.box [.str (Ca.name a),.str (Ca.into a),.int .i64 (Ca.date a),.str (Ca.ratio a),.str (Ca.extra a)],.box (Con.ze c),.box [.int .u8 0,.str #[].toList,.str #[].toList,.str #[].toList,.int .u8 0,.str #[].toList,.str #[].toList,.int .i64 0,.nils,.int .i64 0,.nils,.nils]])) (.ex (fun(x:Ca×Con)=>eqL [AV.agg [AV.str (Ca.name a),AV.str (Ca.into a),AV.int .i64 (Ca.date a),AV.str (Ca.ratio a),AV.str (Ca.extra a)],(Con.conA c)] [AV.agg [AV.str (Ca.name x.1),AV.str (Ca.into x.1),AV.int .i64 (Ca.date x.1),AV.str (Ca.ratio x.1),AV.str (Ca.extra x.1)],(Con.conA x.2)]∧Con.big x.2<274877906944) fun n=>.all (fun(x:Unit)=>True) fun n_1=>.ex (fun(x:Con)=>eqL [(Con.conD (Ca.whole (Ca.chg n.1) n.2))] [(Con.conA x)]∧Con.big x<1099511627776∧Con.nodes x≤1000000) fun n_2=>.all (fun(r:Int)=>r=Con.errC n_2) fun n_3=>.ite (!decide (n_3=0)) (.leaf (.ret [.agg [.int .u8 0,.str #[].toList,.str #[].toList,.str #[].toList,.int .u8 0,.str #[].toList,.str #[].toList,.int .i64 0,.nils,.int .i64 0,.nils,.nils],.int .i64 n_3] [.box [.str (Ca.name a),.str (Ca.into a),.int .i64 (Ca.date a),.str (Ca.ratio a),.str (Ca.extra a)],.box (Con.ze c),.box [.int .u8 0,.str #[].toList,.str #[].toList,.str #[].toList,.int .u8 0,.str #[].toList,.str #[].toList,.int .i64 0,.nils,.int .i64 0,.nils,.nils],.box (Con.zz (Ca.whole (Ca.chg n.1) n.2))])) (.leaf (.ret [(Con.conD (Ca.whole (Ca.chg n.1) n.2)),.int .i64 0] [.box [.str (Ca.name a),.str (Ca.into a),.int .i64 (Ca.date a),.str (Ca.ratio a),.str (Ca.extra a)],.box (Con.ze c),.box (Con.zz (Ca.whole (Ca.chg n.1) n.2)),.box (Con.zz (Ca.whole (Ca.chg n.1) n.2))]))))) (by kernel_rfl) ?_
 simp only [Tree.holds,zd]
 refine⟨a,⟨⟨ha,trivial⟩,qF ht⟩,⟨_,rfl⟩,?_⟩
 rintro _ rfl
 refine⟨fun h=> ?_,fun h=> ?_⟩<;>simp at h
 ·rw [h,if_neg (by decide)] at hq
  exact RetR.out0 hq (fun h=>by cases h) VP
 rw [if_pos h] at hq
 refine⟨c,⟨⟨zQ c,trivial⟩,by omega,by omega⟩,⟨_,rfl⟩,?_⟩
 rintro _ rfl
 refine⟨fun h=> ?_,fun h=> ?_⟩<;>simp at h
 ·rw [if_neg h] at hq
  exact RetR.out0 hq (fun h=>by cases h) VP
 rw [if_pos h] at hq
 refine⟨(a,c),⟨⟨ha,zQ c,trivial⟩,by show c.big<_; omega⟩,⟨(),trivial⟩,fun _ _=> ?_⟩
 refine⟨Ca.whole a.chg c,⟨⟨jm _,trivial⟩,by omega,by omega⟩,⟨_,rfl⟩,?_⟩
 rintro _ rfl
 refine⟨fun h=> ?_,fun h=> ?_⟩<;>simp at h
 ·rw [if_neg h] at hq
  exact RetR.out0 hq (fun h=>by cases h) VP
 rw [if_pos h] at hq
 exact RetR.le0 hq (fun h=>by cases h) (LeA.refl _)
noncomputable def K43:List Go.Sx.Item:=[.code (Tryz.f43.body.getD .skip)]
def HAw(a:Ca):Heap:=[.box [.str a.name,.str a.into,.int .i64 a.date,.str a.ratio,.str a.extra],.box [.fn 41 [] [.ptr 0 0,.ptr 1 0]]]
def wadC(n:Nat):Ctr:=ctrT false false (fun p:Ca×Con=>[p.2.conA,.ptr 0 0,.ptr 1 0]) (fun p=>HAw p.1) (fun p=>p.2.nodes<n∧p.2.big<2^38) (fun _ (_:Unit)=>True) (fun p _=>((Ca.whole p.1.adj p.2).conD,HAw p.1))
def zeu(n:Nat):Ctr:=ctrT false false (fun p:Ca×List Con=>[Con.conS p.2,.fn 41 [] [.ptr 0 0,.ptr 1 0]]) (fun p=>HAw p.1) (fun p=>Con.zL p.2<n∧Con.bigs p.2<2^38) (fun _ (_:Unit)=>True) (fun p _=>(Con.conS (p.2.map (Ca.whole p.1.adj)),HAw p.1))
def SMw(s:List Con)(i:Nat):KV:=[(1,.fn 41 [] [.ptr 0 0,.ptr 1 0]),(5,.osl 2 12 0 i),(8,Con.conS s),(9,.int .i64 (s.length:Int)),(10,.int .i64 (i:Int))]
def HMw(f:Con→Con)(a:Ca)(s:List Con)(i:Nat):Heap:=[.box [.str a.name,.str a.into,.int .i64 a.date,.str a.ratio,.str a.extra],.box [.fn 41 [] [.ptr 0 0,.ptr 1 0]],.arr i 12 (Con.conG (s.map f))]
theorem zkb(n:Nat)(ih:zc Tryz.prog 41 (wadC n)):zc Tryz.prog 43 (zeu n):=by
 refine qD (fn:=Tryz.f43) (c:=Tryz.f43.body.getD .skip) rfl rfl rfl (fun h=>by cases h) fun p hp O w0 σ0 Q hl0 hq=> ?_
 obtain⟨a,s⟩:=p
 obtain⟨h1,h2⟩:=hp
 simp only at h1 h2
 replace hq:=hq () trivial
 have hlen:=Con.qQ s
 refine zb.run hmix (qj ih) [1,5,8,9,10] 400 (T:=.leaf (.loop (Prod.fst (lps K43 0)) (Prod.snd (lps K43 0)) [(1,.fn 41 [] [.ptr 0 0,.ptr 1 0]),(5,.nils),(8,.sl s.length 12 (Con.conG s)),(9,.int .i64 s.length),(10,.int .i64 0)] [.box [.str (Ca.name a),.str (Ca.into a),.int .i64 (Ca.date a),.str (Ca.ratio a),.str (Ca.extra a)],.box [.fn 41 [] [.ptr 0 0,.ptr 1 0]]])) (by kernel_rfl) ?_
 simp only [Tree.holds,zd,inR,lo,hi,Int.toNat_natCast]
 show j8 none Tryz.prog Tryz.f43 O 2 w0 σ0 _ _ _ _
 refine zb.bear 5 12 (Con.conG (s.map (Ca.whole a.adj))) rfl (by decide) (by kernel_rfl) ?_
 refine zb.loop (ι:={i:Nat // i≤s.length}) (fun i=>SMw s i.1) (fun i=>HMw (Ca.whole a.adj) a s i.1) (fun i=>s.length - i.1) ⟨0,Nat.zero_le _⟩ 0 ?_ ?_ (by kernel_rfl)
 ·exact⟨by simp [SMw,k5,Con.conS,za],by simp [HMw,HAw,za],by kernel_rfl,by show 2≤3; decide⟩
 ·rintro⟨i,hil⟩
  refine zb.run hmix (qj ih) [1,5,8,9,10] 400 (T:=.ite (decide ((↑i:Int)<s.length)) (.side ((0:Int)≤i∧(↑i:Int)<s.length) (.ex (fun(x:Ca×Con)=>eqL [(Con.conD (s.getD (↑i:Int).toNat Con.nil)),AV.ptr 0 0,AV.ptr 1 0] [(Con.conA x.2),AV.ptr 0 0,AV.ptr 1 0]∧eqH [.box [AV.str (Ca.name a),AV.str (Ca.into a),AV.int .i64 (Ca.date a),AV.str (Ca.ratio a),AV.str (Ca.extra a)],.box [AV.fn 41 [] [AV.ptr 0 0,AV.ptr 1 0]]] [.box [AV.str (Ca.name x.1),AV.str (Ca.into x.1),AV.int .i64 (Ca.date x.1),AV.str (Ca.ratio x.1),AV.str (Ca.extra x.1)],.box [AV.fn 41 [] [AV.ptr 0 0,AV.ptr 1 0]]]∧2=2∧Con.nodes x.2<n∧Con.big x.2<274877906944) fun n=>.all (fun(x:Unit)=>True) fun n_1=>.side (0=0∧i≤i∧(i+1)*184≤140737488355328) (.side (inR .i64 ((↑i:Int)+(1:Int))) (.leaf (.back 0 [(1,.fn 41 [] [.ptr 0 0,.ptr 1 0]),(5,.osl 2 12 0 (i+1)),(8,.sl s.length 12 (Con.conG s)),(9,.int .i64 s.length),(10,.int .i64 ((↑i:Int)+(1:Int)))] [.box [.str (Ca.name n.1),.str (Ca.into n.1),.int .i64 (Ca.date n.1),.str (Ca.ratio n.1),.str (Ca.extra n.1)],.box [.fn 41 [] [.ptr 0 0,.ptr 1 0]],.arr (i+1) 12 (appG i (Con.conG (List.map (Ca.whole (Ca.adj a)) s)) (zg (zh 12 (Con.zz (Ca.whole (Ca.adj n.1) n.2))) 0)),.box (Con.zz (s.getD (↑i:Int).toNat Con.nil)),.arr 1 12 (zh 12 (Con.zz (Ca.whole (Ca.adj n.1) n.2)))]))))) (.leaf (.ret [.osl 2 12 0 i] [.box [.str (Ca.name a),.str (Ca.into a),.int .i64 (Ca.date a),.str (Ca.ratio a),.str (Ca.extra a)],.box [.fn 41 [] [.ptr 0 0,.ptr 1 0]],.arr i 12 (Con.conG (List.map (Ca.whole (Ca.adj a)) s))]))) (by kernel_rfl) ?_
  simp only [Tree.holds,zd,inR,lo,hi,Int.toNat_natCast]
  refine⟨fun hlt=> ?_,fun hge=> ?_⟩
  ·have hlt:i<s.length:=by have:=of_decide_eq_true hlt; omega
   have hg:=Con.qq hlt
   have hg2:=Con.jB hlt
   have ha:eqH [.box [.str a.name,.str a.into,.int .i64 a.date,.str a.ratio,.str a.extra],.box [.fn 41 [] [.ptr 0 0,.ptr 1 0]]] [.box [.str a.name,.str a.into,.int .i64 a.date,.str a.ratio,.str a.extra],.box [.fn 41 [] [.ptr 0 0,.ptr 1 0]]]:=by simp
   refine⟨by omega,fun _=>⟨(a,s.getD i Con.nil),⟨⟨jm _,⟨rfl,rfl⟩,⟨rfl,rfl⟩,trivial⟩,ha,trivial,by show Con.nodes (s.getD i Con.nil)<n; omega,by show Con.big (s.getD i Con.nil)<_; omega⟩,⟨(),trivial⟩,?_⟩⟩
   intro _ _
   refine⟨⟨trivial,Nat.le_refl _,by omega⟩,fun _=>⟨by omega,fun _=> ?_⟩⟩
   rw [if_pos trivial]
   refine⟨⟨i+1,hlt⟩,by show s.length - (i+1)<s.length - i; omega,by simp [SMw,Con.conS,za],?_,by kernel_rfl,by show 2≤3; decide⟩
   refine⟨⟨rfl,rfl,⟨rfl,rfl⟩,rfl,rfl,trivial⟩,by simp,⟨rfl,rfl,kR hlt⟩,trivial⟩
  ·have hge:i=(s.map (Ca.whole a.adj)).length:=by have:=of_decide_eq_false hge; simp; omega
   subst hge
   exact RetR.xB [0,1] rfl rfl (by show ∀ j,j<2→_; decide) rfl hq (LeA.sl rfl fun j o hj ho=>by simp only [zg,Nat.zero_add]; exact LeA.refl _) (by simp [expH,expB,exp1,exp0,ren0,HAw,HMw,z6]) rfl
noncomputable def GWd:Nat→Option Ctr:=fun f=>if f=38 then some (ZA) else if f=42 then some (VF) else none
theorem zmn:∀ g c,GWd g=some c→zc Tryz.prog g c:=okIf ZU (okIf WL (zp))
noncomputable def GWdc(n:Nat):Nat→Option Ctr:=fun f=>if f=43 then some (zeu n) else GWd f
theorem zjm{n:Nat}(h:zc Tryz.prog 43 (zeu n)):∀ f c,GWdc n f=some c→zc Tryz.prog f c:=by
 intro f c hf
 simp only [GWdc] at hf
 split at hf
 ·rename_i hg; subst hg; cases hf; exact h
 ·exact zmn f c hf
theorem zho(n:Nat)(ih:zc Tryz.prog 41 (wadC n)):zc Tryz.prog 41 (wadC (n+1)):=by
 refine qD (fn:=Tryz.f41) (c:=Tryz.f41.body.getD .skip) rfl rfl rfl (fun h=>by cases h) fun p hp O w0 σ0 Q hl0 hq=> ?_
 obtain⟨a,c⟩:=p
 obtain⟨h1,h2⟩:=hp
 simp only at h1 h2
 replace hq:=hq () trivial
 refine zb.run hmix (zjm (zkb n ih)) [] 400 (T:=.ex (fun(x:Ca×Ex)=>eqL [AV.agg [AV.str (Ca.name a),AV.str (Ca.into a),AV.int .i64 (Ca.date a),AV.str (Ca.ratio a),AV.str (Ca.extra a)],(Ex.exA c.x)] [AV.agg [AV.str (Ca.name x.1),AV.str (Ca.into x.1),AV.int .i64 (Ca.date x.1),AV.str (Ca.ratio x.1),AV.str (Ca.extra x.1)],x.2.exA]∧Ex.size x.2<1099511627776) fun n_1=>.all (fun(x:Unit)=>True) fun n_2=>.ex (fun(x:List Int)=>eqL [AV.sl c.days.length 1 (Con.dayG c.days)] [AV.sl x.length 1 (Con.dayG x)]∧x.length<1099511627776) fun n_3=>.all (fun(x:Unit)=>True) fun n_4=>.ex (fun(x:Ca×List Con)=>eqL [AV.sl c.sub.length 12 (Con.conG c.sub),AV.fn 41 [] [AV.ptr 0 0,AV.ptr 1 0]] [AV.sl x.2.length 12 (Con.conG x.2),AV.fn 41 [] [AV.ptr 0 0,AV.ptr 1 0]]∧eqH [.box [AV.str (Ca.name a),AV.str (Ca.into a),AV.int .i64 (Ca.date a),AV.str (Ca.ratio a),AV.str (Ca.extra a)],.box [AV.fn 41 [] [AV.ptr 0 0,AV.ptr 1 0]]] [.box [AV.str (Ca.name x.1),AV.str (Ca.into x.1),AV.int .i64 (Ca.date x.1),AV.str (Ca.ratio x.1),AV.str (Ca.extra x.1)],.box [AV.fn 41 [] [AV.ptr 0 0,AV.ptr 1 0]]]∧2=2∧Con.zL x.2<n∧Con.bigs x.2<274877906944) fun n=>.all (fun(x:Unit)=>True) fun n_5=>.leaf (.ret [.agg [.int .u8 c.kind,.str c.src,.str c.dst,.str c.name,.int .u8 (Ex.kind (Ca.adj n_1.1 n_1.2)),.str (Ex.rat (Ca.adj n_1.1 n_1.2)),.str (Ex.name (Ca.adj n_1.1 n_1.2)),.int .i64 (Ex.date (Ca.adj n_1.1 n_1.2)),.sl (List.length (Ex.sub (Ca.adj n_1.1 n_1.2))) 5 (Ex.deep (Ca.adj n_1.1 n_1.2)),.int .i64 c.date,.osl 4 1 0 n_3.length,.sl (List.length (List.map (Ca.whole (Ca.adj n.1)) n.2)) 12 (Con.conG (List.map (Ca.whole (Ca.adj n.1)) n.2))]] [.box [.str (Ca.name n.1),.str (Ca.into n.1),.int .i64 (Ca.date n.1),.str (Ca.ratio n.1),.str (Ca.extra n.1)],.box [.fn 41 [] [.ptr 0 0,.ptr 1 0]],.box [.int .u8 c.kind,.str c.src,.str c.dst,.str c.name,.int .u8 (Ex.kind (Ca.adj n_1.1 n_1.2)),.str (Ex.rat (Ca.adj n_1.1 n_1.2)),.str (Ex.name (Ca.adj n_1.1 n_1.2)),.int .i64 (Ex.date (Ca.adj n_1.1 n_1.2)),.sl (List.length (Ex.sub (Ca.adj n_1.1 n_1.2))) 5 (Ex.deep (Ca.adj n_1.1 n_1.2)),.int .i64 c.date,.osl 4 1 0 n_3.length,.sl (List.length (List.map (Ca.whole (Ca.adj n.1)) n.2)) 12 (Con.conG (List.map (Ca.whole (Ca.adj n.1)) n.2))],.box [.int .u8 c.kind,.str c.src,.str c.dst,.str c.name,.int .u8 (Ex.kind (Ca.adj n_1.1 n_1.2)),.str (Ex.rat (Ca.adj n_1.1 n_1.2)),.str (Ex.name (Ca.adj n_1.1 n_1.2)),.int .i64 (Ex.date (Ca.adj n_1.1 n_1.2)),.sl (List.length (Ex.sub (Ca.adj n_1.1 n_1.2))) 5 (Ex.deep (Ca.adj n_1.1 n_1.2)),.int .i64 c.date,.osl 4 1 0 n_3.length,.sl (List.length (List.map (Ca.whole (Ca.adj n.1)) n.2)) 12 (Con.conG (List.map (Ca.whole (Ca.adj n.1)) n.2))],.arr n_3.length 1 (Con.dayG n_3)])) (by kernel_rfl) ?_
 simp only [Tree.holds,zd]
 have hb:=h2
 rw [Con.ju] at hb
 rw [Con.qN] at h1
 simp only [Ca.kG] at hq
 have ha:eqA (.agg [.str a.name,.str a.into,.int .i64 a.date,.str a.ratio,.str a.extra]) a.av:=⟨rfl,rfl,⟨rfl,rfl⟩,rfl,rfl,trivial⟩
 refine⟨(a,c.x),⟨⟨ha,zD c.x,trivial⟩,by show c.x.size<_; omega⟩,⟨(),trivial⟩,fun _ _=> ?_⟩
 refine⟨c.days,⟨⟨⟨rfl,rfl,za _ _ _⟩,trivial⟩,by omega⟩,⟨(),trivial⟩,fun _ _=> ?_⟩
 refine⟨(a,c.sub),⟨⟨⟨rfl,rfl,za _ _ _⟩,by simp,trivial⟩,by simp,trivial,by show Con.zL c.sub<n; omega,by show Con.bigs c.sub<_; omega⟩,⟨(),trivial⟩,fun _ _=> ?_⟩
 exact RetR.xB [0,1] rfl rfl (by show ∀ j,j<2→_; decide) rfl hq (LeA.agg ⟨LeA.refl _,LeA.refl _,LeA.refl _,LeA.refl _,LeA.refl _,LeA.refl _,LeA.refl _,LeA.refl _,LeA.sl rfl fun j o hj ho=>by rw [Ex.zA _ j o hj ho]; exact LeA.refl _,LeA.refl _,LeA.sl rfl fun j o hj ho=>by simp only [zg,Nat.zero_add]; exact LeA.refl _,Con.js (Con.mk c.kind c.src c.dst c.name (a.adj c.x) c.date c.days (c.sub.map (Ca.whole a.adj))),trivial⟩) (by simp [expH,expB,exp1,exp0,ren0,HAw,z6]) rfl
def zn0:Ctr:=ctrT false false (fun p:Ca×List Ex=>[Ex.exS p.2,.fn 81 [] [.ptr 0 0,.ptr 1 0]]) (fun p=>HAd p.1) (fun p=>Ex.zo p.2<2^40) (fun _ (_:Unit)=>True) (fun p _=>(.osl 2 5 0 p.2.length,HAd p.1++[.arr p.2.length 5 (Ex.exG (p.2.map (Ca.adj p.1)))]))
theorem ze2:zc Tryz.prog 124 zn0:=by
 refine qD (fn:=Tryz.f124) (c:=Tryz.f124.body.getD .skip) rfl rfl rfl (fun h=>by cases h) fun p hp O w0 σ0 Q hl0 hq=> ?_
 obtain⟨a,s⟩:=p
 have h2:Ex.zo s<2^40:=hp
 replace hq:=hq () trivial
 have hlen:=Ex.zy s
 refine zb.run hmix (qj Uk) [1,5,8,9,10] 400 (T:=.leaf (.loop (Prod.fst (lps K124 0)) (Prod.snd (lps K124 0)) [(1,.fn 81 [] [.ptr 0 0,.ptr 1 0]),(5,.nils),(8,.sl s.length 5 (Ex.exG s)),(9,.int .i64 s.length),(10,.int .i64 0)] [.box [.str (Ca.name a),.str (Ca.into a),.int .i64 (Ca.date a),.str (Ca.ratio a),.str (Ca.extra a)],.box [.fn 81 [] [.ptr 0 0,.ptr 1 0]]])) (by kernel_rfl) ?_
 simp only [Tree.holds,zd,inR,lo,hi,Int.toNat_natCast]
 show j8 none Tryz.prog Tryz.f124 O 2 w0 σ0 _ _ _ _
 refine zb.bear 5 5 (Ex.exG (s.map (Ca.adj a))) rfl (by decide) (by kernel_rfl) ?_
 refine zb.loop (ι:={i:Nat // i≤s.length}) (fun i=>SMp s i.1) (fun i=>HMp (Ca.adj a) a s i.1) (fun i=>s.length - i.1) ⟨0,Nat.zero_le _⟩ 0 ?_ ?_ (by kernel_rfl)
 ·exact⟨by simp [SMp,k5,Ex.exS,za],by simp [HMp,HAd,za],by kernel_rfl,by show 2≤3; decide⟩
 ·rintro⟨i,hil⟩
  refine zb.run hmix (qj Uk) [1,5,8,9,10] 400 (T:=.ite (decide ((↑i:Int)<s.length)) (.side ((0:Int)≤i∧(↑i:Int)<s.length) (.ex (fun(x:Ca×Ex)=>eqL [(exD (s.getD (↑i:Int).toNat Ex.nil)),AV.ptr 0 0,AV.ptr 1 0] [x.2.exA,AV.ptr 0 0,AV.ptr 1 0]∧eqH [.box [AV.str (Ca.name a),AV.str (Ca.into a),AV.int .i64 (Ca.date a),AV.str (Ca.ratio a),AV.str (Ca.extra a)],.box [AV.fn 81 [] [AV.ptr 0 0,AV.ptr 1 0]]] [.box [AV.str (Ca.name x.1),AV.str (Ca.into x.1),AV.int .i64 (Ca.date x.1),AV.str (Ca.ratio x.1),AV.str (Ca.extra x.1)],.box [AV.fn 81 [] [AV.ptr 0 0,AV.ptr 1 0]]]∧2=2∧Ex.size x.2<1099511627776) fun n=>.all (fun(x:Unit)=>True) fun n_1=>.side (0=0∧i≤i∧(i+1)*72≤140737488355328) (.side (inR .i64 ((↑i:Int)+(1:Int))) (.leaf (.back 0 [(1,.fn 81 [] [.ptr 0 0,.ptr 1 0]),(5,.osl 2 5 0 (i+1)),(8,.sl s.length 5 (Ex.exG s)),(9,.int .i64 s.length),(10,.int .i64 ((↑i:Int)+(1:Int)))] [.box [.str (Ca.name n.1),.str (Ca.into n.1),.int .i64 (Ca.date n.1),.str (Ca.ratio n.1),.str (Ca.extra n.1)],.box [.fn 81 [] [.ptr 0 0,.ptr 1 0]],.arr (i+1) 5 (appG i (Ex.exG (List.map (Ca.adj a) s)) (zg (zh 5 (Ex.cellsD (Ca.adj n.1 n.2))) 0)),.box (Ex.cellsD (s.getD (↑i:Int).toNat Ex.nil)),.arr 1 5 (zh 5 (Ex.cellsD (Ca.adj n.1 n.2)))]))))) (.leaf (.ret [.osl 2 5 0 i] [.box [.str (Ca.name a),.str (Ca.into a),.int .i64 (Ca.date a),.str (Ca.ratio a),.str (Ca.extra a)],.box [.fn 81 [] [.ptr 0 0,.ptr 1 0]],.arr i 5 (Ex.exG (List.map (Ca.adj a) s))]))) (by kernel_rfl) ?_
  simp only [Tree.holds,zd,inR,lo,hi,Int.toNat_natCast]
  refine⟨fun hlt=> ?_,fun hge=> ?_⟩
  ·have hlt:i<s.length:=by have:=of_decide_eq_true hlt; omega
   have hg:=Ex.qg hlt
   have ha:eqH [.box [.str a.name,.str a.into,.int .i64 a.date,.str a.ratio,.str a.extra],.box [.fn 81 [] [.ptr 0 0,.ptr 1 0]]] [.box [.str a.name,.str a.into,.int .i64 a.date,.str a.ratio,.str a.extra],.box [.fn 81 [] [.ptr 0 0,.ptr 1 0]]]:=by simp
   refine⟨by omega,fun _=>⟨(a,s.getD i Ex.nil),⟨⟨xf _,⟨rfl,rfl⟩,⟨rfl,rfl⟩,trivial⟩,ha,trivial,by show Ex.size (s.getD i Ex.nil)<_; omega⟩,⟨(),trivial⟩,?_⟩⟩
   intro _ _
   refine⟨⟨trivial,Nat.le_refl _,by omega⟩,fun _=>⟨by omega,fun _=> ?_⟩⟩
   rw [if_pos trivial]
   refine⟨⟨i+1,hlt⟩,by show s.length - (i+1)<s.length - i; omega,by simp [SMp,Ex.exS,za],?_,by kernel_rfl,by show 2≤3; decide⟩
   refine⟨⟨rfl,rfl,⟨rfl,rfl⟩,rfl,rfl,trivial⟩,by simp,⟨rfl,rfl,ZB hlt⟩,trivial⟩
  ·have hge:i=s.length:=by have:=of_decide_eq_false hge; omega
   subst hge
   exact RetR.xB [0,1,2] rfl rfl (by show ∀ j,j<2→_; decide) rfl hq (LeA.refl _) (by simp [expH,expB,exp1,exp0,ren0,HAd,HMp,z6,za]) rfl
def exO(x:Ex)(v:AV):AV:=.agg [.int .u8 x.kind,.str x.rat,.str x.name,.int .i64 x.date,v]
def zks:Ctr:=ctrT false false (fun p:Ca×Ex=>[p.2.exA,.fn 81 [] [.ptr 0 0,.ptr 1 0]]) (fun p=>HAd p.1) (fun p=>Ex.zo p.2.sub<2^40) (fun _ (_:Unit)=>True) (fun p _=>(exO p.2 (.osl 2 5 0 p.2.sub.length),HAd p.1++[.arr p.2.sub.length 5 (Ex.exG (p.2.sub.map (Ca.adj p.1)))]))
theorem zfw:zc Tryz.prog 83 zks:=by
 refine qD (fn:=Tryz.f83) (c:=Tryz.f83.body.getD .skip) rfl rfl rfl (fun h=>by cases h) fun p hp O w0 σ0 Q hl0 hq=> ?_
 obtain⟨a,x⟩:=p
 replace hq:=hq () trivial
 refine zb.run hmix (qj ze2) [] 400 (T:=.ex (fun(x_1:Ca×List Ex)=>eqL [AV.sl x.sub.length 5 (Ex.exG x.sub),AV.fn 81 [] [AV.ptr 0 0,AV.ptr 1 0]] [AV.sl x_1.2.length 5 (Ex.exG x_1.2),AV.fn 81 [] [AV.ptr 0 0,AV.ptr 1 0]]∧eqH [.box [AV.str (Ca.name a),AV.str (Ca.into a),AV.int .i64 (Ca.date a),AV.str (Ca.ratio a),AV.str (Ca.extra a)],.box [AV.fn 81 [] [AV.ptr 0 0,AV.ptr 1 0]]] [.box [AV.str (Ca.name x_1.1),AV.str (Ca.into x_1.1),AV.int .i64 (Ca.date x_1.1),AV.str (Ca.ratio x_1.1),AV.str (Ca.extra x_1.1)],.box [AV.fn 81 [] [AV.ptr 0 0,AV.ptr 1 0]]]∧2=2∧Ex.zo x_1.2<1099511627776) fun n=>.all (fun(x:Unit)=>True) fun n_1=>.leaf (.ret [.agg [.int .u8 x.kind,.str x.rat,.str x.name,.int .i64 x.date,.osl 4 5 0 n.2.length]] [.box [.str (Ca.name n.1),.str (Ca.into n.1),.int .i64 (Ca.date n.1),.str (Ca.ratio n.1),.str (Ca.extra n.1)],.box [.fn 81 [] [.ptr 0 0,.ptr 1 0]],.box [.int .u8 x.kind,.str x.rat,.str x.name,.int .i64 x.date,.osl 4 5 0 n.2.length],.box [.int .u8 x.kind,.str x.rat,.str x.name,.int .i64 x.date,.osl 4 5 0 n.2.length],.arr n.2.length 5 (Ex.exG (List.map (Ca.adj n.1) n.2))])) (by kernel_rfl) ?_
 simp only [Tree.holds,zd]
 refine⟨(a,x.sub),⟨⟨⟨rfl,rfl,za _ _ _⟩,by simp,trivial⟩,by simp,trivial,hp⟩,⟨(),trivial⟩,fun _ _=> ?_⟩
 exact RetR.xB [0,1,4] rfl rfl (by show ∀ j,j<2→_; decide) rfl hq (LeA.refl _) (by simp [expH,expB,exp1,exp0,ren0,HAd,z6,za]) rfl
def on(a:Ca)(x:Ex):Bool:=a.onX x.kind x.name x.date
def vw(a:Ca):Bool:=decide (a.ratio=[49])&&decide (a.extra=[48])
def vr(a:Ca):Bool:= !decide (a.ratio=[49]) && !decide (a.extra=[48])
def zh7(a:Ca)(x:Ex):Tree (AV×Heap):=
 .ite (on a x&&vw a) (.leaf (exD (a.adj x),HAd a))
  (.ite (on a x&&vr a) (.leaf (exO (a.adj x) (.osl 2 5 0 2),HAd a++[.box (((a.adj x).sub.getD 0 Ex.nil).cellsD++((a.adj x).sub.getD 1 Ex.nil).cellsD)]))
   (.leaf (exO (a.adj x) (.osl 2 5 0 (a.adj x).sub.length),HAd a++[.arr (a.adj x).sub.length 5 (Ex.exG (a.adj x).sub)])))
def adjO:Ctr:=ctrG (fun p:Ca×Ex=>[p.2.exA,.ptr 0 0,.ptr 1 0]) (fun p=>HAd p.1) (fun p=>p.2.size<2^40) (fun p=>zh7 p.1 p.2)
theorem KZ{x y:Ex}{c:List AV}(h:LeL c (x.cellsD++y.cellsD)):∀ j o,j<2→o<5→LeA (zh 5 c j o) (Ex.exG [x,y] j o):=by
 intro j o hj ho
 have:=LeL.dAt (j*5+o) h
 simp only [zh]
 rcases(show j=0∨j=1 by omega) with rfl | rfl<;>rcases(show o=0∨o=1∨o=2∨o=3∨o=4 by omega) with rfl | rfl | rfl | rfl | rfl<;>exact this
noncomputable def GAjO:Nat→Option Ctr:=fun f=>if f=82 then some (zi0) else if f=48 then some (qofC) else if f=83 then some (zks) else none
theorem zk1:∀ g c,GAjO g=some c→zc Tryz.prog g c:=okIf zak (okIf zek (okIf zfw (zp)))
theorem zis:zc Tryz.prog 81 adjO:=by
 refine Qm (fn:=Tryz.f81) (c:=Tryz.f81.body.getD .skip) rfl rfl rfl fun p hp O w0 σ0 Q hl0 hq=> ?_
 obtain⟨a,x⟩:=p
 have h2:x.size<2^40:=hp
 rw [Ex.size_eq] at h2
 replace hq:(zh7 a x).holds Q:=hq
 unfold zh7 at hq
 simp only [Tree.holds,Ca.Yp] at hq
 refine zb.run hmix zk1 [] 400 (T:=.ite (bif decide (Ex.name x=Ca.name a) then bif decide (Ex.kind x=3) then true else bif decide (Ex.kind x=2) then decide (Ca.date a≤Ex.date x) else false else false) (.ex (fun(x:Nat)=>eqL [AV.int .i64 1] [AV.int .i64 x]∧x≤9) fun n=>.all (fun(r:List UInt8)=>r=[UInt8.ofNat (48+n)]) fun n=>.ite (!decide (Ca.ratio a=n)) (.ex (fun(x:List UInt8)=>eqL [AV.str (Ca.ratio a)] [AV.str x]∧True) fun n=>.all (fun(x:Unit)=>True) fun n_1=>.ex (fun(x:Nat)=>eqL [AV.int .i64 0] [AV.int .i64 x]∧x≤9) fun n_2=>.all (fun(r:List UInt8)=>r=[UInt8.ofNat (48+n_2)]) fun n_3=>.ite (!decide (Ca.extra a=n_3)) (.ex (fun(x:List UInt8)=>eqL [AV.str (Ca.extra a)] [AV.str x]∧True) fun n_4=>.all (fun(x:Unit)=>True) fun n_5=>.leaf (.ret [.agg [.int .u8 4,.str #[].toList,.str #[].toList,.int .i64 0,.osl 5 5 0 2]] [.box [.str (Ca.name a),.str (Ca.into a),.int .i64 (Ca.date a),.str (Ca.ratio a),.str (Ca.extra a)],.box [.fn 81 [] [.ptr 0 0,.ptr 1 0]],.box [.int .u8 4,.str #[].toList,.str #[].toList,.int .i64 0,.osl 5 5 0 2],.box [.int .u8 4,.str #[].toList,.str #[].toList,.int .i64 0,.osl 5 5 0 2],.arr 2 5 (zh 5 [.int .u8 (Ex.kind (Tm.kon n)),.str (Ex.rat (Tm.kon n)),.str (Ex.name (Tm.kon n)),.int .i64 (Ex.date (Tm.kon n)),.sl (List.length (Ex.sub (Tm.kon n))) 5 (Ex.deep (Tm.kon n)),.int .u8 x.kind,.str x.rat,.str (Ca.into a),.int .i64 x.date,.sl x.sub.length 5 (Ex.exG x.sub)]),.box [.int .u8 6,.str #[].toList,.str #[].toList,.int .i64 0,.osl 4 5 0 2,.int .u8 (Ex.kind (Tm.kon n_4)),.str (Ex.rat (Tm.kon n_4)),.str (Ex.name (Tm.kon n_4)),.int .i64 (Ex.date (Tm.kon n_4)),.sl (List.length (Ex.sub (Tm.kon n_4))) 5 (Ex.deep (Tm.kon n_4))]])) (.leaf (.ret [.agg [.int .u8 6,.str #[].toList,.str #[].toList,.int .i64 0,.osl 4 5 0 2]] [.box [.str (Ca.name a),.str (Ca.into a),.int .i64 (Ca.date a),.str (Ca.ratio a),.str (Ca.extra a)],.box [.fn 81 [] [.ptr 0 0,.ptr 1 0]],.box [.int .u8 6,.str #[].toList,.str #[].toList,.int .i64 0,.osl 4 5 0 2],.box [.int .u8 6,.str #[].toList,.str #[].toList,.int .i64 0,.osl 4 5 0 2],.arr 2 5 (zh 5 [.int .u8 (Ex.kind (Tm.kon n)),.str (Ex.rat (Tm.kon n)),.str (Ex.name (Tm.kon n)),.int .i64 (Ex.date (Tm.kon n)),.sl (List.length (Ex.sub (Tm.kon n))) 5 (Ex.deep (Tm.kon n)),.int .u8 x.kind,.str x.rat,.str (Ca.into a),.int .i64 x.date,.sl x.sub.length 5 (Ex.exG x.sub)])]))) (.ex (fun(x:Nat)=>eqL [AV.int .i64 0] [AV.int .i64 x]∧x≤9) fun n=>.all (fun(r:List UInt8)=>r=[UInt8.ofNat (48+n)]) fun n=>.ite (!decide (Ca.extra a=n)) (.ex (fun(x:List UInt8)=>eqL [AV.str (Ca.extra a)] [AV.str x]∧True) fun n=>.all (fun(x:Unit)=>True) fun n_1=>.leaf (.ret [.agg [.int .u8 4,.str #[].toList,.str #[].toList,.int .i64 0,.osl 4 5 0 2]] [.box [.str (Ca.name a),.str (Ca.into a),.int .i64 (Ca.date a),.str (Ca.ratio a),.str (Ca.extra a)],.box [.fn 81 [] [.ptr 0 0,.ptr 1 0]],.box [.int .u8 4,.str #[].toList,.str #[].toList,.int .i64 0,.osl 4 5 0 2],.box [.int .u8 4,.str #[].toList,.str #[].toList,.int .i64 0,.osl 4 5 0 2],.arr 2 5 (zh 5 [.int .u8 x.kind,.str x.rat,.str (Ca.into a),.int .i64 x.date,.sl x.sub.length 5 (Ex.exG x.sub),.int .u8 (Ex.kind (Tm.kon n)),.str (Ex.rat (Tm.kon n)),.str (Ex.name (Tm.kon n)),.int .i64 (Ex.date (Tm.kon n)),.sl (List.length (Ex.sub (Tm.kon n))) 5 (Ex.deep (Tm.kon n))])])) (.leaf (.ret [.agg [.int .u8 x.kind,.str x.rat,.str (Ca.into a),.int .i64 x.date,.sl x.sub.length 5 (Ex.exG x.sub)]] [.box [.str (Ca.name a),.str (Ca.into a),.int .i64 (Ca.date a),.str (Ca.ratio a),.str (Ca.extra a)],.box [.fn 81 [] [.ptr 0 0,.ptr 1 0]],.box [.int .u8 x.kind,.str x.rat,.str (Ca.into a),.int .i64 x.date,.sl x.sub.length 5 (Ex.exG x.sub)],.box [.int .u8 x.kind,.str x.rat,.str (Ca.into a),.int .i64 x.date,.sl x.sub.length 5 (Ex.exG x.sub)]])))) (.ex (fun(x_1:Ca×Ex)=>eqL [x.exA,AV.fn 81 [] [AV.ptr 0 0,AV.ptr 1 0]] [x_1.2.exA,AV.fn 81 [] [AV.ptr 0 0,AV.ptr 1 0]]∧eqH [.box [AV.str (Ca.name a),AV.str (Ca.into a),AV.int .i64 (Ca.date a),AV.str (Ca.ratio a),AV.str (Ca.extra a)],.box [AV.fn 81 [] [AV.ptr 0 0,AV.ptr 1 0]]] [.box [AV.str (Ca.name x_1.1),AV.str (Ca.into x_1.1),AV.int .i64 (Ca.date x_1.1),AV.str (Ca.ratio x_1.1),AV.str (Ca.extra x_1.1)],.box [AV.fn 81 [] [AV.ptr 0 0,AV.ptr 1 0]]]∧2=2∧Ex.zo x_1.2.sub<1099511627776) fun n=>.all (fun(x:Unit)=>True) fun n_1=>.leaf (.ret [.agg [.int .u8 n.2.kind,.str n.2.rat,.str n.2.name,.int .i64 n.2.date,.osl 4 5 0 n.2.sub.length]] [.box [.str (Ca.name n.1),.str (Ca.into n.1),.int .i64 (Ca.date n.1),.str (Ca.ratio n.1),.str (Ca.extra n.1)],.box [.fn 81 [] [.ptr 0 0,.ptr 1 0]],.box [.int .u8 x.kind,.str x.rat,.str x.name,.int .i64 x.date,.sl x.sub.length 5 (Ex.exG x.sub)],.box [.int .u8 n.2.kind,.str n.2.rat,.str n.2.name,.int .i64 n.2.date,.osl 4 5 0 n.2.sub.length],.arr n.2.sub.length 5 (Ex.exG (List.map (Ca.adj n.1) n.2.sub))]))) (by kernel_rfl) ?_
 simp only [Tree.holds,zd]
 obtain⟨c,hc⟩:∃ c,on a x=c:=⟨_,rfl⟩
 have hc':a.onX x.kind x.name x.date=c:=hc
 rw [hc,hc'] at hq
 have hcc:(bif decide (x.name=a.name) then bif decide (x.kind=3) then true else bif decide (x.kind=2) then decide (a.date≤x.date) else false else false)=c:=by
  rw [← hc']; unfold Ca.onX
  cases decide (x.kind=3)<;>cases decide (x.kind=2)<;>cases decide (x.name=a.name)<;>cases decide (a.date≤x.date)<;>rfl
 rw [hcc]
 refine⟨fun h=> ?_,fun h=> ?_⟩
 ·subst h
  simp only [if_true,Bool.true_and] at hq
  have e48:[UInt8.ofNat (48+0)]=[48]:=rfl
  have e49:[UInt8.ofNat (48+1)]=[49]:=rfl
  refine⟨1,⟨⟨⟨rfl,rfl⟩,trivial⟩,by decide⟩,⟨_,rfl⟩,?_⟩
  rintro _ rfl
  rw [e49]
  refine⟨fun h1=> ?_,fun h1=> ?_⟩<;>simp at h1
  ·refine⟨a.ratio,⟨⟨rfl,trivial⟩,trivial⟩,⟨(),trivial⟩,fun _ _=>⟨0,⟨⟨⟨rfl,rfl⟩,trivial⟩,by decide⟩,⟨_,rfl⟩,?_⟩⟩
   rintro _ rfl
   rw [e48]
   refine⟨fun h2=> ?_,fun h2=> ?_⟩<;>simp at h2
   ·replace hq:=(hq.2 (by simp [vw,h1])).1 (by simp [vr,h1,h2])
    unfold Ca.rel at hq
    simp only [if_neg h2,if_neg h1] at hq
    refine⟨a.extra,⟨⟨rfl,trivial⟩,trivial⟩,⟨(),trivial⟩,fun _ _=> ?_⟩
    refine RetR.vu [0,1,5] rfl rfl (by show ∀ j,j<2→_; decide) rfl (.inl hq) (LeA.refl _) ⟨LeB.refl _,LeB.refl _,LeB.box ?_,trivial⟩
    refine⟨LeA.refl _,LeA.refl _,LeA.refl _,LeA.refl _,Ex.vy (x:=Tm.kon a.ratio) (y:=Ex.mk x.kind x.rat a.into x.date x.sub) ⟨LeA.refl _,LeA.refl _,LeA.refl _,LeA.refl _,LeA.refl _,LeA.refl _,LeA.refl _,LeA.refl _,LeA.refl _,Ex.js (Ex.mk x.kind x.rat a.into x.date x.sub),trivial⟩,LeA.refl _,LeA.refl _,LeA.refl _,LeA.refl _,LeA.refl _,trivial⟩
   ·replace hq:=(hq.2 (by simp [vw,h1])).2 (by simp [vr,h1,h2])
    unfold Ca.rel at hq
    simp only [if_pos h2,if_neg h1] at hq
    refine RetR.vu [0,1,4] rfl rfl (by show ∀ j,j<2→_; decide) rfl (.inl hq) (LeA.refl _) ⟨LeB.refl _,LeB.refl _,LeB.arr (n:=2) (sz:=5) (KZ (x:=Tm.kon a.ratio) (y:=Ex.mk x.kind x.rat a.into x.date x.sub) ?_),trivial⟩
    exact⟨LeA.refl _,LeA.refl _,LeA.refl _,LeA.refl _,LeA.refl _,LeA.refl _,LeA.refl _,LeA.refl _,LeA.refl _,Ex.js (Ex.mk x.kind x.rat a.into x.date x.sub),trivial⟩
  ·refine⟨0,⟨⟨⟨rfl,rfl⟩,trivial⟩,by decide⟩,⟨_,rfl⟩,?_⟩
   rintro _ rfl
   rw [e48]
   refine⟨fun h2=> ?_,fun h2=> ?_⟩<;>simp at h2
   ·replace hq:=(hq.2 (by simp [vw,h1,h2])).2 (by simp [vr,h1,h2])
    unfold Ca.rel at hq
    simp only [if_neg h2,if_pos h1] at hq
    refine⟨a.extra,⟨⟨rfl,trivial⟩,trivial⟩,⟨(),trivial⟩,fun _ _=> ?_⟩
    refine RetR.vu [0,1,4] rfl rfl (by show ∀ j,j<2→_; decide) rfl (.inl hq) (LeA.refl _) ⟨LeB.refl _,LeB.refl _,LeB.arr (n:=2) (sz:=5) (KZ (x:=Ex.mk x.kind x.rat a.into x.date x.sub) (y:=Tm.kon a.extra) ?_),trivial⟩
    exact⟨LeA.refl _,LeA.refl _,LeA.refl _,LeA.refl _,Ex.js (Ex.mk x.kind x.rat a.into x.date x.sub),LeA.refl _,LeA.refl _,LeA.refl _,LeA.refl _,LeA.refl _,trivial⟩
   ·replace hq:=hq.1 (by simp [vw,h1,h2])
    unfold Ca.rel at hq
    simp only [if_pos h2,if_pos h1] at hq
    exact RetR.vu [0,1] rfl rfl (by show ∀ j,j<2→_; decide) rfl (.inl hq) (LeA.agg ⟨LeA.refl _,LeA.refl _,LeA.refl _,LeA.refl _,Ex.js (Ex.mk x.kind x.rat a.into x.date x.sub),trivial⟩) ⟨LeB.refl _,LeB.refl _,trivial⟩
 ·subst h
  replace hq:=(hq.2 rfl).2 rfl
  simp only [if_neg (show ¬ false=true by decide)] at hq
  refine⟨(a,x),⟨⟨zD x,by simp,trivial⟩,by simp,trivial,by show Ex.zo x.sub<_; omega⟩,⟨(),trivial⟩,fun _ _=> ?_⟩
  refine RetR.vu [0,1,4] rfl rfl (by show ∀ j,j<2→_; decide) rfl (.inl hq) ?_ ⟨LeB.refl _,LeB.refl _,LeB.of_eq ?_,trivial⟩
  ·simp [exp2,exp1,exp0,z6,resV,exO,Ex.sub,Ex.kind,Ex.rat,Ex.name,Ex.date]
   exact LeA.refl _
  ·simp [expB,eqB,Ex.sub,za]
def Y6(a:Ca)(x:Ex):Tree (AV×Heap):=
 .ite (on a x&&vw a) (.leaf (exD (a.adj x),[]))
  (.ite (on a x&&vr a) (.leaf (exO (a.adj x) (.osl 0 5 0 2),[.box (((a.adj x).sub.getD 0 Ex.nil).cellsD++((a.adj x).sub.getD 1 Ex.nil).cellsD)]))
   (.leaf (exO (a.adj x) (.osl 0 5 0 (a.adj x).sub.length),[.arr (a.adj x).sub.length 5 (Ex.exG (a.adj x).sub)])))
def Wo:Ctr:=ctrG (fun p:Ca×Ex=>[p.1.av,p.2.exA]) (fun _=>[]) (fun p=>p.2.size<2^40) (fun p=>Y6 p.1 p.2)
noncomputable def GAdO:Nat→Option Ctr:=fun f=>if f=81 then some (adjO) else none
theorem zka:∀ g c,GAdO g=some c→zc Tryz.prog g c:=okIf zis (zp)
theorem Kr:zc Tryz.prog 38 Wo:=by
 refine Qm (fn:=Tryz.f38) (c:=Tryz.f38.body.getD .skip) rfl rfl rfl fun p hp O w0 σ0 Q hl0 hq=> ?_
 obtain⟨a,x⟩:=p
 obtain rfl:σ0=[]:=List.length_eq_zero_iff.1 (by simpa using hl0)
 replace hq:(Y6 a x).holds Q:=hq
 unfold Y6 at hq
 simp only [Tree.holds] at hq
 refine zb.run hmix zka [] 400 (T:=.ex (fun(x_1:Ca×Ex)=>eqL [x.exA,AV.ptr 0 0,AV.ptr 1 0] [x_1.2.exA,AV.ptr 0 0,AV.ptr 1 0]∧eqH [.box [AV.str (Ca.name a),AV.str (Ca.into a),AV.int .i64 (Ca.date a),AV.str (Ca.ratio a),AV.str (Ca.extra a)],.box [AV.fn 81 [] [AV.ptr 0 0,AV.ptr 1 0]]] [.box [AV.str (Ca.name x_1.1),AV.str (Ca.into x_1.1),AV.int .i64 (Ca.date x_1.1),AV.str (Ca.ratio x_1.1),AV.str (Ca.extra x_1.1)],.box [AV.fn 81 [] [AV.ptr 0 0,AV.ptr 1 0]]]∧2=2∧Ex.size x_1.2<1099511627776) fun n=>.ite (on n.1 n.2&&vw n.1) (.leaf (.ret [(exD (Ca.adj n.1 n.2))] [.box [.str (Ca.name n.1),.str (Ca.into n.1),.int .i64 (Ca.date n.1),.str (Ca.ratio n.1),.str (Ca.extra n.1)],.box [.int .u8 x.kind,.str x.rat,.str x.name,.int .i64 x.date,.sl x.sub.length 5 (Ex.exG x.sub)],.box (Ex.cellsD (Ca.adj n.1 n.2)),.box [.fn 81 [] [.ptr 0 0,.ptr 3 0]]])) (.ite (on n.1 n.2&&vr n.1) (.leaf (.ret [.agg [.int .u8 (Ex.kind (Ca.adj n.1 n.2)),.str (Ex.rat (Ca.adj n.1 n.2)),.str (Ex.name (Ca.adj n.1 n.2)),.int .i64 (Ex.date (Ca.adj n.1 n.2)),.osl 4 5 0 2]] [.box [.str (Ca.name n.1),.str (Ca.into n.1),.int .i64 (Ca.date n.1),.str (Ca.ratio n.1),.str (Ca.extra n.1)],.box [.int .u8 x.kind,.str x.rat,.str x.name,.int .i64 x.date,.sl x.sub.length 5 (Ex.exG x.sub)],.box [.int .u8 (Ex.kind (Ca.adj n.1 n.2)),.str (Ex.rat (Ca.adj n.1 n.2)),.str (Ex.name (Ca.adj n.1 n.2)),.int .i64 (Ex.date (Ca.adj n.1 n.2)),.osl 4 5 0 2],.box [.fn 81 [] [.ptr 0 0,.ptr 3 0]],.box [.int .u8 (Ex.kind (List.getD (Ex.sub (Ca.adj n.1 n.2)) 0 Ex.nil)),.str (Ex.rat (List.getD (Ex.sub (Ca.adj n.1 n.2)) 0 Ex.nil)),.str (Ex.name (List.getD (Ex.sub (Ca.adj n.1 n.2)) 0 Ex.nil)),.int .i64 (Ex.date (List.getD (Ex.sub (Ca.adj n.1 n.2)) 0 Ex.nil)),.sl (List.length (Ex.sub (List.getD (Ex.sub (Ca.adj n.1 n.2)) 0 Ex.nil))) 5 (Ex.deep (List.getD (Ex.sub (Ca.adj n.1 n.2)) 0 Ex.nil)),.int .u8 (Ex.kind (List.getD (Ex.sub (Ca.adj n.1 n.2)) 1 Ex.nil)),.str (Ex.rat (List.getD (Ex.sub (Ca.adj n.1 n.2)) 1 Ex.nil)),.str (Ex.name (List.getD (Ex.sub (Ca.adj n.1 n.2)) 1 Ex.nil)),.int .i64 (Ex.date (List.getD (Ex.sub (Ca.adj n.1 n.2)) 1 Ex.nil)),.sl (List.length (Ex.sub (List.getD (Ex.sub (Ca.adj n.1 n.2)) 1 Ex.nil))) 5 (Ex.deep (List.getD (Ex.sub (Ca.adj n.1 n.2)) 1 Ex.nil))]])) (.leaf (.ret [.agg [.int .u8 (Ex.kind (Ca.adj n.1 n.2)),.str (Ex.rat (Ca.adj n.1 n.2)),.str (Ex.name (Ca.adj n.1 n.2)),.int .i64 (Ex.date (Ca.adj n.1 n.2)),.osl 4 5 0 (List.length (Ex.sub (Ca.adj n.1 n.2)))]] [.box [.str (Ca.name n.1),.str (Ca.into n.1),.int .i64 (Ca.date n.1),.str (Ca.ratio n.1),.str (Ca.extra n.1)],.box [.int .u8 x.kind,.str x.rat,.str x.name,.int .i64 x.date,.sl x.sub.length 5 (Ex.exG x.sub)],.box [.int .u8 (Ex.kind (Ca.adj n.1 n.2)),.str (Ex.rat (Ca.adj n.1 n.2)),.str (Ex.name (Ca.adj n.1 n.2)),.int .i64 (Ex.date (Ca.adj n.1 n.2)),.osl 4 5 0 (List.length (Ex.sub (Ca.adj n.1 n.2)))],.box [.fn 81 [] [.ptr 0 0,.ptr 3 0]],.arr (List.length (Ex.sub (Ca.adj n.1 n.2))) 5 (Ex.exG (Ex.sub (Ca.adj n.1 n.2)))])))) (by kernel_rfl) ?_
 simp only [Tree.holds,zd]
 refine⟨(a,x),⟨⟨zD x,⟨rfl,rfl⟩,⟨rfl,rfl⟩,trivial⟩,by simp,trivial,hp⟩,?_⟩
 refine⟨fun h=> ?_,fun h=>⟨fun h2=> ?_,fun h2=> ?_⟩⟩
 ·exact RetR.vu [] rfl rfl (by intro j hj; cases hj) rfl (.inl (hq.1 h)) (LeA.refl _) trivial
 ·exact RetR.vu [4] rfl rfl (by intro j hj; cases hj) rfl (.inl ((hq.2 h).1 h2)) (LeA.refl _) ⟨LeB.refl _,trivial⟩
 ·exact RetR.vu [4] rfl rfl (by intro j hj; cases hj) rfl (.inl ((hq.2 h).2 h2)) (LeA.refl _) ⟨LeB.refl _,trivial⟩
theorem zk3(n:Nat):zc Tryz.prog 41 (wadC n):=by
 induction n with
 | zero=>
  intro args hc Q hq _
  simp only [wadC,ctrT] at hq
  obtain⟨x,⟨_,_,_,h,_⟩,_⟩:=hq
  exact absurd h (Nat.not_lt_zero _)
 | succ n ih=>exact zho n ih
def zgf:Ctr:=ctrT false false (fun p:Ca×Con=>[p.2.conA,.ptr 0 0,.ptr 1 0]) (fun p=>HAw p.1) (fun p=>p.2.big<2^38) (fun _ (_:Unit)=>True) (fun p _=>((Ca.whole p.1.adj p.2).conD,HAw p.1))
theorem zez:zc Tryz.prog 41 zgf:=by
 intro args hc Q hq hf
 simp only [zgf,ctrT] at hq
 obtain⟨x,⟨h1,h2,h3,h4⟩,h5⟩:=hq
 exact zk3 (x.2.nodes+1) args hc Q ⟨x,⟨h1,h2,h3,Nat.lt_succ_self _,h4⟩,h5⟩ hf
def zkx:Ctr:=ctrT false false (fun p:Ca×List Con=>[Con.conS p.2,.fn 41 [] [.ptr 0 0,.ptr 1 0]]) (fun p=>HAw p.1) (fun p=>Con.bigs p.2<2^38) (fun _ (_:Unit)=>True) (fun p _=>(.osl 2 12 0 p.2.length,HAw p.1++[.arr p.2.length 12 (Con.conG (p.2.map (Ca.whole p.1.adj)))]))
theorem zgd:zc Tryz.prog 43 zkx:=by
 refine qD (fn:=Tryz.f43) (c:=Tryz.f43.body.getD .skip) rfl rfl rfl (fun h=>by cases h) fun p hp O w0 σ0 Q hl0 hq=> ?_
 obtain⟨a,s⟩:=p
 have h2:Con.bigs s<2^38:=hp
 replace hq:=hq () trivial
 have hlen:=Con.qQ s
 refine zb.run hmix (qj zez) [1,5,8,9,10] 400 (T:=.leaf (.loop (Prod.fst (lps K43 0)) (Prod.snd (lps K43 0)) [(1,.fn 41 [] [.ptr 0 0,.ptr 1 0]),(5,.nils),(8,.sl s.length 12 (Con.conG s)),(9,.int .i64 s.length),(10,.int .i64 0)] [.box [.str (Ca.name a),.str (Ca.into a),.int .i64 (Ca.date a),.str (Ca.ratio a),.str (Ca.extra a)],.box [.fn 41 [] [.ptr 0 0,.ptr 1 0]]])) (by kernel_rfl) ?_
 simp only [Tree.holds,zd,inR,lo,hi,Int.toNat_natCast]
 show j8 none Tryz.prog Tryz.f43 O 2 w0 σ0 _ _ _ _
 refine zb.bear 5 12 (Con.conG (s.map (Ca.whole a.adj))) rfl (by decide) (by kernel_rfl) ?_
 refine zb.loop (ι:={i:Nat // i≤s.length}) (fun i=>SMw s i.1) (fun i=>HMw (Ca.whole a.adj) a s i.1) (fun i=>s.length - i.1) ⟨0,Nat.zero_le _⟩ 0 ?_ ?_ (by kernel_rfl)
 ·exact⟨by simp [SMw,k5,Con.conS,za],by simp [HMw,HAw,za],by kernel_rfl,by show 2≤3; decide⟩
 ·rintro⟨i,hil⟩
  refine zb.run hmix (qj zez) [1,5,8,9,10] 400 (T:=.ite (decide ((↑i:Int)<s.length)) (.side ((0:Int)≤i∧(↑i:Int)<s.length) (.ex (fun(x:Ca×Con)=>eqL [(Con.conD (s.getD (↑i:Int).toNat Con.nil)),AV.ptr 0 0,AV.ptr 1 0] [(Con.conA x.2),AV.ptr 0 0,AV.ptr 1 0]∧eqH [.box [AV.str (Ca.name a),AV.str (Ca.into a),AV.int .i64 (Ca.date a),AV.str (Ca.ratio a),AV.str (Ca.extra a)],.box [AV.fn 41 [] [AV.ptr 0 0,AV.ptr 1 0]]] [.box [AV.str (Ca.name x.1),AV.str (Ca.into x.1),AV.int .i64 (Ca.date x.1),AV.str (Ca.ratio x.1),AV.str (Ca.extra x.1)],.box [AV.fn 41 [] [AV.ptr 0 0,AV.ptr 1 0]]]∧2=2∧Con.big x.2<274877906944) fun n=>.all (fun(x:Unit)=>True) fun n_1=>.side (0=0∧i≤i∧(i+1)*184≤140737488355328) (.side (inR .i64 ((↑i:Int)+(1:Int))) (.leaf (.back 0 [(1,.fn 41 [] [.ptr 0 0,.ptr 1 0]),(5,.osl 2 12 0 (i+1)),(8,.sl s.length 12 (Con.conG s)),(9,.int .i64 s.length),(10,.int .i64 ((↑i:Int)+(1:Int)))] [.box [.str (Ca.name n.1),.str (Ca.into n.1),.int .i64 (Ca.date n.1),.str (Ca.ratio n.1),.str (Ca.extra n.1)],.box [.fn 41 [] [.ptr 0 0,.ptr 1 0]],.arr (i+1) 12 (appG i (Con.conG (List.map (Ca.whole (Ca.adj a)) s)) (zg (zh 12 (Con.zz (Ca.whole (Ca.adj n.1) n.2))) 0)),.box (Con.zz (s.getD (↑i:Int).toNat Con.nil)),.arr 1 12 (zh 12 (Con.zz (Ca.whole (Ca.adj n.1) n.2)))]))))) (.leaf (.ret [.osl 2 12 0 i] [.box [.str (Ca.name a),.str (Ca.into a),.int .i64 (Ca.date a),.str (Ca.ratio a),.str (Ca.extra a)],.box [.fn 41 [] [.ptr 0 0,.ptr 1 0]],.arr i 12 (Con.conG (List.map (Ca.whole (Ca.adj a)) s))]))) (by kernel_rfl) ?_
  simp only [Tree.holds,zd,inR,lo,hi,Int.toNat_natCast]
  refine⟨fun hlt=> ?_,fun hge=> ?_⟩
  ·have hlt:i<s.length:=by have:=of_decide_eq_true hlt; omega
   have hg2:=Con.jB hlt
   have ha:eqH [.box [.str a.name,.str a.into,.int .i64 a.date,.str a.ratio,.str a.extra],.box [.fn 41 [] [.ptr 0 0,.ptr 1 0]]] [.box [.str a.name,.str a.into,.int .i64 a.date,.str a.ratio,.str a.extra],.box [.fn 41 [] [.ptr 0 0,.ptr 1 0]]]:=by simp
   refine⟨by omega,fun _=>⟨(a,s.getD i Con.nil),⟨⟨jm _,⟨rfl,rfl⟩,⟨rfl,rfl⟩,trivial⟩,ha,trivial,by show Con.big (s.getD i Con.nil)<_; omega⟩,⟨(),trivial⟩,?_⟩⟩
   intro _ _
   refine⟨⟨trivial,Nat.le_refl _,by omega⟩,fun _=>⟨by omega,fun _=> ?_⟩⟩
   rw [if_pos trivial]
   refine⟨⟨i+1,hlt⟩,by show s.length - (i+1)<s.length - i; omega,by simp [SMw,Con.conS,za],?_,by kernel_rfl,by show 2≤3; decide⟩
   refine⟨⟨rfl,rfl,⟨rfl,rfl⟩,rfl,rfl,trivial⟩,by simp,⟨rfl,rfl,kR hlt⟩,trivial⟩
  ·have hge:i=s.length:=by have:=of_decide_eq_false hge; omega
   subst hge
   exact RetR.vu [0,1,2] rfl rfl (by show ∀ j,j<2→_; decide) rfl hq (LeA.refl _) ⟨LeB.refl _,LeB.refl _,LeB.refl _,trivial⟩
def conT(k:Nat)(H:Heap)(h t u:Bool)(r:Con)(w:AV→AV):Tree (AV×Heap):=
 .ite (h&&t) (.leaf (w (r.outD (.sl r.x.sub.length 5 r.x.deep) (.osl (k+1) 1 0 r.days.length) (.osl (k+2) 12 0 r.sub.length)),H++[.dead,.arr r.days.length 1 (Con.dayG r.days),.arr r.sub.length 12 (Con.conG r.sub)]))
  (.ite (h&&u) (.leaf (w (r.outD (.osl k 5 0 2) (.osl (k+1) 1 0 r.days.length) (.osl (k+2) 12 0 r.sub.length)),H++[.box ((r.x.sub.getD 0 Ex.nil).cellsD++(r.x.sub.getD 1 Ex.nil).cellsD),.arr r.days.length 1 (Con.dayG r.days),.arr r.sub.length 12 (Con.conG r.sub)]))
   (.leaf (w (r.outD (.osl k 5 0 r.x.sub.length) (.osl (k+1) 1 0 r.days.length) (.osl (k+2) 12 0 r.sub.length)),H++[.arr r.x.sub.length 5 (Ex.exG r.x.sub),.arr r.days.length 1 (Con.dayG r.days),.arr r.sub.length 12 (Con.conG r.sub)])))
def wadO:Ctr:=ctrG (fun p:Ca×Con=>[p.2.conA,.ptr 0 0,.ptr 1 0]) (fun p=>HAw p.1) (fun p=>p.2.big<2^38) (fun p=>conT 2 (HAw p.1) (on p.1 p.2.x) (vw p.1) (vr p.1) (Ca.whole p.1.adj p.2) id)
noncomputable def GWdO:Nat→Option Ctr:=fun f=>if f=38 then some (Wo) else if f=42 then some (VF) else if f=43 then some (zkx) else none
theorem zic:∀ g c,GWdO g=some c→zc Tryz.prog g c:=okIf Kr (okIf WL (okIf zgd (zp)))
theorem zjt:zc Tryz.prog 41 wadO:=by
 refine Qm (fn:=Tryz.f41) (c:=Tryz.f41.body.getD .skip) rfl rfl rfl fun p hp O w0 σ0 Q hl0 hq=> ?_
 obtain⟨a,c⟩:=p
 have h2:c.big<2^38:=hp
 replace hq:(conT 2 (HAw a) (on a c.x) (vw a) (vr a) (Ca.whole a.adj c) id).holds Q:=hq
 unfold conT at hq
 simp only [Tree.holds,Ca.kG] at hq
 refine zb.run hmix zic [] 400 (T:=.ex (fun(x:Ca×Ex)=>eqL [AV.agg [AV.str (Ca.name a),AV.str (Ca.into a),AV.int .i64 (Ca.date a),AV.str (Ca.ratio a),AV.str (Ca.extra a)],(Ex.exA c.x)] [AV.agg [AV.str (Ca.name x.1),AV.str (Ca.into x.1),AV.int .i64 (Ca.date x.1),AV.str (Ca.ratio x.1),AV.str (Ca.extra x.1)],x.2.exA]∧eqH [] []∧0=0∧Ex.size x.2<1099511627776) fun n=>.ite (on n.1 n.2&&vw n.1) (.ex (fun(x:List Int)=>eqL [AV.sl c.days.length 1 (Con.dayG c.days)] [AV.sl x.length 1 (Con.dayG x)]∧x.length<1099511627776) fun n_1=>.all (fun(x:Unit)=>True) fun n_2=>.ex (fun(x:Ca×List Con)=>eqL [AV.sl c.sub.length 12 (Con.conG c.sub),AV.fn 41 [] [AV.ptr 0 0,AV.ptr 1 0]] [AV.sl x.2.length 12 (Con.conG x.2),AV.fn 41 [] [AV.ptr 0 0,AV.ptr 1 0]]∧eqH [.box [AV.str (Ca.name a),AV.str (Ca.into a),AV.int .i64 (Ca.date a),AV.str (Ca.ratio a),AV.str (Ca.extra a)],.box [AV.fn 41 [] [AV.ptr 0 0,AV.ptr 1 0]]] [.box [AV.str (Ca.name x.1),AV.str (Ca.into x.1),AV.int .i64 (Ca.date x.1),AV.str (Ca.ratio x.1),AV.str (Ca.extra x.1)],.box [AV.fn 41 [] [AV.ptr 0 0,AV.ptr 1 0]]]∧2=2∧Con.bigs x.2<274877906944) fun n_3=>.all (fun(x:Unit)=>True) fun n_4=>.leaf (.ret [.agg [.int .u8 c.kind,.str c.src,.str c.dst,.str c.name,.int .u8 (Ex.kind (Ca.adj n.1 n.2)),.str (Ex.rat (Ca.adj n.1 n.2)),.str (Ex.name (Ca.adj n.1 n.2)),.int .i64 (Ex.date (Ca.adj n.1 n.2)),.sl (List.length (Ex.sub (Ca.adj n.1 n.2))) 5 (Ex.deep (Ca.adj n.1 n.2)),.int .i64 c.date,.osl 4 1 0 n_1.length,.osl 5 12 0 n_3.2.length]] [.box [.str (Ca.name n_3.1),.str (Ca.into n_3.1),.int .i64 (Ca.date n_3.1),.str (Ca.ratio n_3.1),.str (Ca.extra n_3.1)],.box [.fn 41 [] [.ptr 0 0,.ptr 1 0]],.box [.int .u8 c.kind,.str c.src,.str c.dst,.str c.name,.int .u8 (Ex.kind (Ca.adj n.1 n.2)),.str (Ex.rat (Ca.adj n.1 n.2)),.str (Ex.name (Ca.adj n.1 n.2)),.int .i64 (Ex.date (Ca.adj n.1 n.2)),.sl (List.length (Ex.sub (Ca.adj n.1 n.2))) 5 (Ex.deep (Ca.adj n.1 n.2)),.int .i64 c.date,.osl 4 1 0 n_1.length,.osl 5 12 0 n_3.2.length],.box [.int .u8 c.kind,.str c.src,.str c.dst,.str c.name,.int .u8 (Ex.kind (Ca.adj n.1 n.2)),.str (Ex.rat (Ca.adj n.1 n.2)),.str (Ex.name (Ca.adj n.1 n.2)),.int .i64 (Ex.date (Ca.adj n.1 n.2)),.sl (List.length (Ex.sub (Ca.adj n.1 n.2))) 5 (Ex.deep (Ca.adj n.1 n.2)),.int .i64 c.date,.osl 4 1 0 n_1.length,.osl 5 12 0 n_3.2.length],.arr n_1.length 1 (Con.dayG n_1),.arr n_3.2.length 12 (Con.conG (List.map (Ca.whole (Ca.adj n_3.1)) n_3.2))])) (.ite (on n.1 n.2&&vr n.1) (.ex (fun(x:List Int)=>eqL [AV.sl c.days.length 1 (Con.dayG c.days)] [AV.sl x.length 1 (Con.dayG x)]∧x.length<1099511627776) fun n_1=>.all (fun(x:Unit)=>True) fun n_2=>.ex (fun(x:Ca×List Con)=>eqL [AV.sl c.sub.length 12 (Con.conG c.sub),AV.fn 41 [] [AV.ptr 0 0,AV.ptr 1 0]] [AV.sl x.2.length 12 (Con.conG x.2),AV.fn 41 [] [AV.ptr 0 0,AV.ptr 1 0]]∧eqH [.box [AV.str (Ca.name a),AV.str (Ca.into a),AV.int .i64 (Ca.date a),AV.str (Ca.ratio a),AV.str (Ca.extra a)],.box [AV.fn 41 [] [AV.ptr 0 0,AV.ptr 1 0]]] [.box [AV.str (Ca.name x.1),AV.str (Ca.into x.1),AV.int .i64 (Ca.date x.1),AV.str (Ca.ratio x.1),AV.str (Ca.extra x.1)],.box [AV.fn 41 [] [AV.ptr 0 0,AV.ptr 1 0]]]∧2=2∧Con.bigs x.2<274877906944) fun n_3=>.all (fun(x:Unit)=>True) fun n_4=>.leaf (.ret [.agg [.int .u8 c.kind,.str c.src,.str c.dst,.str c.name,.int .u8 (Ex.kind (Ca.adj n.1 n.2)),.str (Ex.rat (Ca.adj n.1 n.2)),.str (Ex.name (Ca.adj n.1 n.2)),.int .i64 (Ex.date (Ca.adj n.1 n.2)),.osl 4 5 0 2,.int .i64 c.date,.osl 5 1 0 n_1.length,.osl 6 12 0 n_3.2.length]] [.box [.str (Ca.name n_3.1),.str (Ca.into n_3.1),.int .i64 (Ca.date n_3.1),.str (Ca.ratio n_3.1),.str (Ca.extra n_3.1)],.box [.fn 41 [] [.ptr 0 0,.ptr 1 0]],.box [.int .u8 c.kind,.str c.src,.str c.dst,.str c.name,.int .u8 (Ex.kind (Ca.adj n.1 n.2)),.str (Ex.rat (Ca.adj n.1 n.2)),.str (Ex.name (Ca.adj n.1 n.2)),.int .i64 (Ex.date (Ca.adj n.1 n.2)),.osl 4 5 0 2,.int .i64 c.date,.osl 5 1 0 n_1.length,.osl 6 12 0 n_3.2.length],.box [.int .u8 c.kind,.str c.src,.str c.dst,.str c.name,.int .u8 (Ex.kind (Ca.adj n.1 n.2)),.str (Ex.rat (Ca.adj n.1 n.2)),.str (Ex.name (Ca.adj n.1 n.2)),.int .i64 (Ex.date (Ca.adj n.1 n.2)),.osl 4 5 0 2,.int .i64 c.date,.osl 5 1 0 n_1.length,.osl 6 12 0 n_3.2.length],.box [.int .u8 (Ex.kind (List.getD (Ex.sub (Ca.adj n.1 n.2)) 0 Ex.nil)),.str (Ex.rat (List.getD (Ex.sub (Ca.adj n.1 n.2)) 0 Ex.nil)),.str (Ex.name (List.getD (Ex.sub (Ca.adj n.1 n.2)) 0 Ex.nil)),.int .i64 (Ex.date (List.getD (Ex.sub (Ca.adj n.1 n.2)) 0 Ex.nil)),.sl (List.length (Ex.sub (List.getD (Ex.sub (Ca.adj n.1 n.2)) 0 Ex.nil))) 5 (Ex.deep (List.getD (Ex.sub (Ca.adj n.1 n.2)) 0 Ex.nil)),.int .u8 (Ex.kind (List.getD (Ex.sub (Ca.adj n.1 n.2)) 1 Ex.nil)),.str (Ex.rat (List.getD (Ex.sub (Ca.adj n.1 n.2)) 1 Ex.nil)),.str (Ex.name (List.getD (Ex.sub (Ca.adj n.1 n.2)) 1 Ex.nil)),.int .i64 (Ex.date (List.getD (Ex.sub (Ca.adj n.1 n.2)) 1 Ex.nil)),.sl (List.length (Ex.sub (List.getD (Ex.sub (Ca.adj n.1 n.2)) 1 Ex.nil))) 5 (Ex.deep (List.getD (Ex.sub (Ca.adj n.1 n.2)) 1 Ex.nil))],.arr n_1.length 1 (Con.dayG n_1),.arr n_3.2.length 12 (Con.conG (List.map (Ca.whole (Ca.adj n_3.1)) n_3.2))])) (.ex (fun(x:List Int)=>eqL [AV.sl c.days.length 1 (Con.dayG c.days)] [AV.sl x.length 1 (Con.dayG x)]∧x.length<1099511627776) fun n_1=>.all (fun(x:Unit)=>True) fun n_2=>.ex (fun(x:Ca×List Con)=>eqL [AV.sl c.sub.length 12 (Con.conG c.sub),AV.fn 41 [] [AV.ptr 0 0,AV.ptr 1 0]] [AV.sl x.2.length 12 (Con.conG x.2),AV.fn 41 [] [AV.ptr 0 0,AV.ptr 1 0]]∧eqH [.box [AV.str (Ca.name a),AV.str (Ca.into a),AV.int .i64 (Ca.date a),AV.str (Ca.ratio a),AV.str (Ca.extra a)],.box [AV.fn 41 [] [AV.ptr 0 0,AV.ptr 1 0]]] [.box [AV.str (Ca.name x.1),AV.str (Ca.into x.1),AV.int .i64 (Ca.date x.1),AV.str (Ca.ratio x.1),AV.str (Ca.extra x.1)],.box [AV.fn 41 [] [AV.ptr 0 0,AV.ptr 1 0]]]∧2=2∧Con.bigs x.2<274877906944) fun n_3=>.all (fun(x:Unit)=>True) fun n_4=>.leaf (.ret [.agg [.int .u8 c.kind,.str c.src,.str c.dst,.str c.name,.int .u8 (Ex.kind (Ca.adj n.1 n.2)),.str (Ex.rat (Ca.adj n.1 n.2)),.str (Ex.name (Ca.adj n.1 n.2)),.int .i64 (Ex.date (Ca.adj n.1 n.2)),.osl 4 5 0 (List.length (Ex.sub (Ca.adj n.1 n.2))),.int .i64 c.date,.osl 5 1 0 n_1.length,.osl 6 12 0 n_3.2.length]] [.box [.str (Ca.name n_3.1),.str (Ca.into n_3.1),.int .i64 (Ca.date n_3.1),.str (Ca.ratio n_3.1),.str (Ca.extra n_3.1)],.box [.fn 41 [] [.ptr 0 0,.ptr 1 0]],.box [.int .u8 c.kind,.str c.src,.str c.dst,.str c.name,.int .u8 (Ex.kind (Ca.adj n.1 n.2)),.str (Ex.rat (Ca.adj n.1 n.2)),.str (Ex.name (Ca.adj n.1 n.2)),.int .i64 (Ex.date (Ca.adj n.1 n.2)),.osl 4 5 0 (List.length (Ex.sub (Ca.adj n.1 n.2))),.int .i64 c.date,.osl 5 1 0 n_1.length,.osl 6 12 0 n_3.2.length],.box [.int .u8 c.kind,.str c.src,.str c.dst,.str c.name,.int .u8 (Ex.kind (Ca.adj n.1 n.2)),.str (Ex.rat (Ca.adj n.1 n.2)),.str (Ex.name (Ca.adj n.1 n.2)),.int .i64 (Ex.date (Ca.adj n.1 n.2)),.osl 4 5 0 (List.length (Ex.sub (Ca.adj n.1 n.2))),.int .i64 c.date,.osl 5 1 0 n_1.length,.osl 6 12 0 n_3.2.length],.arr (List.length (Ex.sub (Ca.adj n.1 n.2))) 5 (Ex.exG (Ex.sub (Ca.adj n.1 n.2))),.arr n_1.length 1 (Con.dayG n_1),.arr n_3.2.length 12 (Con.conG (List.map (Ca.whole (Ca.adj n_3.1)) n_3.2))])))) (by kernel_rfl) ?_
 simp only [Tree.holds,zd]
 have hb:=h2
 rw [Con.ju] at hb
 have ha:eqA (.agg [.str a.name,.str a.into,.int .i64 a.date,.str a.ratio,.str a.extra]) a.av:=⟨rfl,rfl,⟨rfl,rfl⟩,rfl,rfl,trivial⟩
 refine⟨(a,c.x),⟨⟨ha,zD c.x,trivial⟩,by simp,trivial,by show c.x.size<_; omega⟩,?_⟩
 refine⟨fun h=> ?_,fun h=>⟨fun h'=> ?_,fun h'=> ?_⟩⟩
 all_goals
  refine⟨c.days,⟨⟨⟨rfl,rfl,za _ _ _⟩,trivial⟩,by omega⟩,⟨(),trivial⟩,fun _ _=> ?_⟩
  refine⟨(a,c.sub),⟨⟨⟨rfl,rfl,za _ _ _⟩,by simp,trivial⟩,by simp,trivial,by show Con.bigs c.sub<_; omega⟩,⟨(),trivial⟩,fun _ _=> ?_⟩
 all_goals simp only [Con.sub,Con.x,Con.days,Con.outD,Con.kind,Con.src,Con.dst,Con.name,Con.date,List.length_map,id] at hq
 ·exact RetR.vu [0,1,2,4,5] rfl rfl (by show ∀ j,j<2→_; decide) rfl (.inl (hq.1 h)) (LeA.refl _) ⟨LeB.refl _,LeB.refl _,fun _ _ _ _ _=>trivial,LeB.refl _,LeB.refl _,trivial⟩
 ·exact RetR.vu [0,1,4,5,6] rfl rfl (by show ∀ j,j<2→_; decide) rfl (.inl ((hq.2 h).1 h')) (LeA.refl _) ⟨LeB.refl _,LeB.refl _,LeB.refl _,LeB.refl _,LeB.refl _,trivial⟩
 ·exact RetR.vu [0,1,4,5,6] rfl rfl (by show ∀ j,j<2→_; decide) rfl (.inl ((hq.2 h).2 h')) (LeA.refl _) ⟨LeB.refl _,LeB.refl _,LeB.refl _,LeB.refl _,LeB.refl _,trivial⟩
theorem Xm{a:Ca}{x:Ex}(h:(on a x&&vr a)=true):∃ p q,(a.adj x).sub=[p,q]:=by
 simp only [Bool.and_eq_true] at h
 obtain⟨h1,h2⟩:=h
 unfold vr at h2
 simp only [Bool.and_eq_true,Bool.not_eq_true',decide_eq_false_iff_not] at h2
 have h1:a.onX x.kind x.name x.date=true:=h1
 rw [Ca.Yp,if_pos h1]
 unfold Ca.rel
 rw [if_neg h2.2,if_neg h2.1]
 exact⟨_,_,rfl⟩
theorem zaa{c:Con}(h:c.errC=0):c.form=true:=by
 unfold Con.errC at h
 split at h
 ·simp at h
 ·split at h
  ·assumption
  ·simp at h
theorem xj{r:Con}{x d s:AV}(hx:eqA0 x (Ex.exS r.x.sub))(hd:eqA0 d (Con.dayS r.days))(hs:eqA0 s (Con.conS r.sub)):eqA (r.outD x d s) r.conA:=
 ⟨⟨rfl,rfl⟩,rfl,rfl,rfl,⟨rfl,rfl⟩,rfl,rfl,⟨rfl,rfl⟩,hx,⟨rfl,rfl⟩,hd,hs,trivial⟩
noncomputable def GAjS:Nat→Option Ctr:=fun f=>if f=16 then some (uA) else if f=22 then some (uz) else if f=41 then some (wadO) else none
theorem zjs:∀ g c,GAjS g=some c→zc Tryz.prog g c:=okIf yS (okIf zbl (okIf zjt (zp)))
def VV:Ctr:=ctrG (fun p:Ca×Con=>[p.1.av,p.2.conA]) (fun _=>[]) (fun p=>kC p.1∧p.2.big<2^26∧p.2.nodes≤1000000) (fun p=>conT 0 [] (decide ((p.1.conv p.2).2=0)&&on p.1 p.2.x) (vw p.1) (vr p.1) (p.1.conv p.2).1 fun v=>.tup [v,.int .i64 (p.1.conv p.2).2])
theorem zbg:zc Tryz.prog 12 VV:=by
 refine Qm (fn:=Tryz.f12) (c:=Tryz.f12.body.getD .skip) rfl rfl rfl fun p hp O w0 σ0 Q hl0 hq=> ?_
 obtain⟨a,c⟩:=p
 obtain rfl:σ0=[]:=List.length_eq_zero_iff.1 (by simpa using hl0)
 obtain⟨ht,hx1,hx2⟩:=hp
 simp only at ht hx1 hx2
 replace hq:(conT 0 [] (decide ((a.conv c).2=0)&&on a c.x) (vw a) (vr a) (a.conv c).1 fun v=>.tup [v,.int .i64 (a.conv c).2]).holds Q:=hq
 have c1:=yK ht hx1
 have c2:=(Ca.xd a c).1
 have ha:eqA (.agg [.str a.name,.str a.into,.int .i64 a.date,.str a.ratio,.str a.extra]) a.av:=⟨rfl,rfl,⟨rfl,rfl⟩,rfl,rfl,trivial⟩
 refine zb.run hmix zjs [] 400 (T:=.ex (fun(x:Ca)=>eqL [AV.agg [AV.str (Ca.name a),AV.str (Ca.into a),AV.int .i64 (Ca.date a),AV.str (Ca.ratio a),AV.str (Ca.extra a)]] [AV.agg [AV.str (Ca.name x),AV.str (Ca.into x),AV.int .i64 (Ca.date x),AV.str (Ca.ratio x),AV.str (Ca.extra x)]]∧wD x) fun n=>.all (fun(r:Int)=>r=if Ca.ok n=true then(0:Int) else(8:Int)) fun n=>.ite (!decide (n=0)) (.leaf (.ret [.agg [.int .u8 0,.str #[].toList,.str #[].toList,.str #[].toList,.int .u8 0,.str #[].toList,.str #[].toList,.int .i64 0,.nils,.int .i64 0,.nils,.nils],.int .i64 n] [.box [.str (Ca.name a),.str (Ca.into a),.int .i64 (Ca.date a),.str (Ca.ratio a),.str (Ca.extra a)],.box (Con.ze c),.box [.int .u8 0,.str #[].toList,.str #[].toList,.str #[].toList,.int .u8 0,.str #[].toList,.str #[].toList,.int .i64 0,.nils,.int .i64 0,.nils,.nils]])) (.ex (fun(x:Con)=>eqL [(Con.conA c)] [(Con.conA x)]∧Con.big x<1099511627776∧Con.nodes x≤1000000) fun n=>.all (fun(r:Int)=>r=Con.errC n) fun n=>.ite (!decide (n=0)) (.leaf (.ret [.agg [.int .u8 0,.str #[].toList,.str #[].toList,.str #[].toList,.int .u8 0,.str #[].toList,.str #[].toList,.int .i64 0,.nils,.int .i64 0,.nils,.nils],.int .i64 n] [.box [.str (Ca.name a),.str (Ca.into a),.int .i64 (Ca.date a),.str (Ca.ratio a),.str (Ca.extra a)],.box (Con.ze c),.box [.int .u8 0,.str #[].toList,.str #[].toList,.str #[].toList,.int .u8 0,.str #[].toList,.str #[].toList,.int .i64 0,.nils,.int .i64 0,.nils,.nils]])) (.ex (fun(x:Ca×Con)=>eqL [(Con.conA c),AV.ptr 0 0,AV.ptr 1 0] [(Con.conA x.2),AV.ptr 0 0,AV.ptr 1 0]∧eqH [.box [AV.str (Ca.name a),AV.str (Ca.into a),AV.int .i64 (Ca.date a),AV.str (Ca.ratio a),AV.str (Ca.extra a)],.box [AV.fn 41 [] [AV.ptr 0 0,AV.ptr 1 0]]] [.box [AV.str (Ca.name x.1),AV.str (Ca.into x.1),AV.int .i64 (Ca.date x.1),AV.str (Ca.ratio x.1),AV.str (Ca.extra x.1)],.box [AV.fn 41 [] [AV.ptr 0 0,AV.ptr 1 0]]]∧2=2∧Con.big x.2<274877906944) fun n=>.ite (on n.1 (Con.x n.2)&&vw n.1) (.ex (fun(x:Con)=>eqL [AV.agg [AV.int .u8 (Con.kind (Ca.whole (Ca.adj n.1) n.2)),AV.str (Con.src (Ca.whole (Ca.adj n.1) n.2)),AV.str (Con.dst (Ca.whole (Ca.adj n.1) n.2)),AV.str (Con.name (Ca.whole (Ca.adj n.1) n.2)),AV.int .u8 (Ex.kind (Con.x (Ca.whole (Ca.adj n.1) n.2))),AV.str (Ex.rat (Con.x (Ca.whole (Ca.adj n.1) n.2))),AV.str (Ex.name (Con.x (Ca.whole (Ca.adj n.1) n.2))),AV.int .i64 (Ex.date (Con.x (Ca.whole (Ca.adj n.1) n.2))),AV.sl (List.length (Ex.sub (Con.x (Ca.whole (Ca.adj n.1) n.2)))) 5 (Ex.deep (Con.x (Ca.whole (Ca.adj n.1) n.2))),AV.int .i64 (Con.date (Ca.whole (Ca.adj n.1) n.2)),AV.sl (List.length (Con.days (Ca.whole (Ca.adj n.1) n.2))) 1 (zg (Con.dayG (Con.days (Ca.whole (Ca.adj n.1) n.2))) 0),AV.sl (List.length (Con.sub (Ca.whole (Ca.adj n.1) n.2))) 12 (zg (Con.conG (Con.sub (Ca.whole (Ca.adj n.1) n.2))) 0)]] [(Con.conA x)]∧Con.big x<1099511627776∧Con.nodes x≤1000000) fun n_1=>.all (fun(r:Int)=>r=Con.errC n_1) fun n_2=>.ite (!decide (n_2=0)) (.leaf (.ret [.agg [.int .u8 0,.str #[].toList,.str #[].toList,.str #[].toList,.int .u8 0,.str #[].toList,.str #[].toList,.int .i64 0,.nils,.int .i64 0,.nils,.nils],.int .i64 n_2] [.box [.str (Ca.name n.1),.str (Ca.into n.1),.int .i64 (Ca.date n.1),.str (Ca.ratio n.1),.str (Ca.extra n.1)],.box (Con.ze c),.box [.int .u8 0,.str #[].toList,.str #[].toList,.str #[].toList,.int .u8 0,.str #[].toList,.str #[].toList,.int .i64 0,.nils,.int .i64 0,.nils,.nils],.box [.fn 41 [] [.ptr 0 0,.ptr 3 0]],.dead,.arr (List.length (Con.days (Ca.whole (Ca.adj n.1) n.2))) 1 (Con.dayG (Con.days (Ca.whole (Ca.adj n.1) n.2))),.arr (List.length (Con.sub (Ca.whole (Ca.adj n.1) n.2))) 12 (Con.conG (Con.sub (Ca.whole (Ca.adj n.1) n.2))),.box [.int .u8 (Con.kind (Ca.whole (Ca.adj n.1) n.2)),.str (Con.src (Ca.whole (Ca.adj n.1) n.2)),.str (Con.dst (Ca.whole (Ca.adj n.1) n.2)),.str (Con.name (Ca.whole (Ca.adj n.1) n.2)),.int .u8 (Ex.kind (Con.x (Ca.whole (Ca.adj n.1) n.2))),.str (Ex.rat (Con.x (Ca.whole (Ca.adj n.1) n.2))),.str (Ex.name (Con.x (Ca.whole (Ca.adj n.1) n.2))),.int .i64 (Ex.date (Con.x (Ca.whole (Ca.adj n.1) n.2))),.sl (List.length (Ex.sub (Con.x (Ca.whole (Ca.adj n.1) n.2)))) 5 (Ex.deep (Con.x (Ca.whole (Ca.adj n.1) n.2))),.int .i64 (Con.date (Ca.whole (Ca.adj n.1) n.2)),.osl 5 1 0 (List.length (Con.days (Ca.whole (Ca.adj n.1) n.2))),.osl 6 12 0 (List.length (Con.sub (Ca.whole (Ca.adj n.1) n.2)))]])) (.leaf (.ret [.agg [.int .u8 (Con.kind (Ca.whole (Ca.adj n.1) n.2)),.str (Con.src (Ca.whole (Ca.adj n.1) n.2)),.str (Con.dst (Ca.whole (Ca.adj n.1) n.2)),.str (Con.name (Ca.whole (Ca.adj n.1) n.2)),.int .u8 (Ex.kind (Con.x (Ca.whole (Ca.adj n.1) n.2))),.str (Ex.rat (Con.x (Ca.whole (Ca.adj n.1) n.2))),.str (Ex.name (Con.x (Ca.whole (Ca.adj n.1) n.2))),.int .i64 (Ex.date (Con.x (Ca.whole (Ca.adj n.1) n.2))),.sl (List.length (Ex.sub (Con.x (Ca.whole (Ca.adj n.1) n.2)))) 5 (Ex.deep (Con.x (Ca.whole (Ca.adj n.1) n.2))),.int .i64 (Con.date (Ca.whole (Ca.adj n.1) n.2)),.osl 5 1 0 (List.length (Con.days (Ca.whole (Ca.adj n.1) n.2))),.osl 6 12 0 (List.length (Con.sub (Ca.whole (Ca.adj n.1) n.2)))],.int .i64 0] [.box [.str (Ca.name n.1),.str (Ca.into n.1),.int .i64 (Ca.date n.1),.str (Ca.ratio n.1),.str (Ca.extra n.1)],.box (Con.ze c),.box [.int .u8 (Con.kind (Ca.whole (Ca.adj n.1) n.2)),.str (Con.src (Ca.whole (Ca.adj n.1) n.2)),.str (Con.dst (Ca.whole (Ca.adj n.1) n.2)),.str (Con.name (Ca.whole (Ca.adj n.1) n.2)),.int .u8 (Ex.kind (Con.x (Ca.whole (Ca.adj n.1) n.2))),.str (Ex.rat (Con.x (Ca.whole (Ca.adj n.1) n.2))),.str (Ex.name (Con.x (Ca.whole (Ca.adj n.1) n.2))),.int .i64 (Ex.date (Con.x (Ca.whole (Ca.adj n.1) n.2))),.sl (List.length (Ex.sub (Con.x (Ca.whole (Ca.adj n.1) n.2)))) 5 (Ex.deep (Con.x (Ca.whole (Ca.adj n.1) n.2))),.int .i64 (Con.date (Ca.whole (Ca.adj n.1) n.2)),.osl 5 1 0 (List.length (Con.days (Ca.whole (Ca.adj n.1) n.2))),.osl 6 12 0 (List.length (Con.sub (Ca.whole (Ca.adj n.1) n.2)))],.box [.fn 41 [] [.ptr 0 0,.ptr 3 0]],.dead,.arr (List.length (Con.days (Ca.whole (Ca.adj n.1) n.2))) 1 (Con.dayG (Con.days (Ca.whole (Ca.adj n.1) n.2))),.arr (List.length (Con.sub (Ca.whole (Ca.adj n.1) n.2))) 12 (Con.conG (Con.sub (Ca.whole (Ca.adj n.1) n.2))),.box [.int .u8 (Con.kind (Ca.whole (Ca.adj n.1) n.2)),.str (Con.src (Ca.whole (Ca.adj n.1) n.2)),.str (Con.dst (Ca.whole (Ca.adj n.1) n.2)),.str (Con.name (Ca.whole (Ca.adj n.1) n.2)),.int .u8 (Ex.kind (Con.x (Ca.whole (Ca.adj n.1) n.2))),.str (Ex.rat (Con.x (Ca.whole (Ca.adj n.1) n.2))),.str (Ex.name (Con.x (Ca.whole (Ca.adj n.1) n.2))),.int .i64 (Ex.date (Con.x (Ca.whole (Ca.adj n.1) n.2))),.sl (List.length (Ex.sub (Con.x (Ca.whole (Ca.adj n.1) n.2)))) 5 (Ex.deep (Con.x (Ca.whole (Ca.adj n.1) n.2))),.int .i64 (Con.date (Ca.whole (Ca.adj n.1) n.2)),.osl 5 1 0 (List.length (Con.days (Ca.whole (Ca.adj n.1) n.2))),.osl 6 12 0 (List.length (Con.sub (Ca.whole (Ca.adj n.1) n.2)))]]))) (.ite (on n.1 (Con.x n.2)&&vr n.1) (.ex (fun(x:Con)=>eqL [AV.agg [AV.int .u8 (Con.kind (Ca.whole (Ca.adj n.1) n.2)),AV.str (Con.src (Ca.whole (Ca.adj n.1) n.2)),AV.str (Con.dst (Ca.whole (Ca.adj n.1) n.2)),AV.str (Con.name (Ca.whole (Ca.adj n.1) n.2)),AV.int .u8 (Ex.kind (Con.x (Ca.whole (Ca.adj n.1) n.2))),AV.str (Ex.rat (Con.x (Ca.whole (Ca.adj n.1) n.2))),AV.str (Ex.name (Con.x (Ca.whole (Ca.adj n.1) n.2))),AV.int .i64 (Ex.date (Con.x (Ca.whole (Ca.adj n.1) n.2))),AV.sl 2 5 (zg (zh 5 [AV.int .u8 (Ex.kind (List.getD (Ex.sub (Con.x (Ca.whole (Ca.adj n.1) n.2))) 0 Ex.nil)),AV.str (Ex.rat (List.getD (Ex.sub (Con.x (Ca.whole (Ca.adj n.1) n.2))) 0 Ex.nil)),AV.str (Ex.name (List.getD (Ex.sub (Con.x (Ca.whole (Ca.adj n.1) n.2))) 0 Ex.nil)),AV.int .i64 (Ex.date (List.getD (Ex.sub (Con.x (Ca.whole (Ca.adj n.1) n.2))) 0 Ex.nil)),AV.sl (List.length (Ex.sub (List.getD (Ex.sub (Con.x (Ca.whole (Ca.adj n.1) n.2))) 0 Ex.nil))) 5 (Ex.deep (List.getD (Ex.sub (Con.x (Ca.whole (Ca.adj n.1) n.2))) 0 Ex.nil)),AV.int .u8 (Ex.kind (List.getD (Ex.sub (Con.x (Ca.whole (Ca.adj n.1) n.2))) 1 Ex.nil)),AV.str (Ex.rat (List.getD (Ex.sub (Con.x (Ca.whole (Ca.adj n.1) n.2))) 1 Ex.nil)),AV.str (Ex.name (List.getD (Ex.sub (Con.x (Ca.whole (Ca.adj n.1) n.2))) 1 Ex.nil)),AV.int .i64 (Ex.date (List.getD (Ex.sub (Con.x (Ca.whole (Ca.adj n.1) n.2))) 1 Ex.nil)),AV.sl (List.length (Ex.sub (List.getD (Ex.sub (Con.x (Ca.whole (Ca.adj n.1) n.2))) 1 Ex.nil))) 5 (Ex.deep (List.getD (Ex.sub (Con.x (Ca.whole (Ca.adj n.1) n.2))) 1 Ex.nil))]) 0),AV.int .i64 (Con.date (Ca.whole (Ca.adj n.1) n.2)),AV.sl (List.length (Con.days (Ca.whole (Ca.adj n.1) n.2))) 1 (zg (Con.dayG (Con.days (Ca.whole (Ca.adj n.1) n.2))) 0),AV.sl (List.length (Con.sub (Ca.whole (Ca.adj n.1) n.2))) 12 (zg (Con.conG (Con.sub (Ca.whole (Ca.adj n.1) n.2))) 0)]] [(Con.conA x)]∧Con.big x<1099511627776∧Con.nodes x≤1000000) fun n_1=>.all (fun(r:Int)=>r=Con.errC n_1) fun n_2=>.ite (!decide (n_2=0)) (.leaf (.ret [.agg [.int .u8 0,.str #[].toList,.str #[].toList,.str #[].toList,.int .u8 0,.str #[].toList,.str #[].toList,.int .i64 0,.nils,.int .i64 0,.nils,.nils],.int .i64 n_2] [.box [.str (Ca.name n.1),.str (Ca.into n.1),.int .i64 (Ca.date n.1),.str (Ca.ratio n.1),.str (Ca.extra n.1)],.box (Con.ze c),.box [.int .u8 0,.str #[].toList,.str #[].toList,.str #[].toList,.int .u8 0,.str #[].toList,.str #[].toList,.int .i64 0,.nils,.int .i64 0,.nils,.nils],.box [.fn 41 [] [.ptr 0 0,.ptr 3 0]],.box [.int .u8 (Ex.kind (List.getD (Ex.sub (Con.x (Ca.whole (Ca.adj n.1) n.2))) 0 Ex.nil)),.str (Ex.rat (List.getD (Ex.sub (Con.x (Ca.whole (Ca.adj n.1) n.2))) 0 Ex.nil)),.str (Ex.name (List.getD (Ex.sub (Con.x (Ca.whole (Ca.adj n.1) n.2))) 0 Ex.nil)),.int .i64 (Ex.date (List.getD (Ex.sub (Con.x (Ca.whole (Ca.adj n.1) n.2))) 0 Ex.nil)),.sl (List.length (Ex.sub (List.getD (Ex.sub (Con.x (Ca.whole (Ca.adj n.1) n.2))) 0 Ex.nil))) 5 (Ex.deep (List.getD (Ex.sub (Con.x (Ca.whole (Ca.adj n.1) n.2))) 0 Ex.nil)),.int .u8 (Ex.kind (List.getD (Ex.sub (Con.x (Ca.whole (Ca.adj n.1) n.2))) 1 Ex.nil)),.str (Ex.rat (List.getD (Ex.sub (Con.x (Ca.whole (Ca.adj n.1) n.2))) 1 Ex.nil)),.str (Ex.name (List.getD (Ex.sub (Con.x (Ca.whole (Ca.adj n.1) n.2))) 1 Ex.nil)),.int .i64 (Ex.date (List.getD (Ex.sub (Con.x (Ca.whole (Ca.adj n.1) n.2))) 1 Ex.nil)),.sl (List.length (Ex.sub (List.getD (Ex.sub (Con.x (Ca.whole (Ca.adj n.1) n.2))) 1 Ex.nil))) 5 (Ex.deep (List.getD (Ex.sub (Con.x (Ca.whole (Ca.adj n.1) n.2))) 1 Ex.nil))],.arr (List.length (Con.days (Ca.whole (Ca.adj n.1) n.2))) 1 (Con.dayG (Con.days (Ca.whole (Ca.adj n.1) n.2))),.arr (List.length (Con.sub (Ca.whole (Ca.adj n.1) n.2))) 12 (Con.conG (Con.sub (Ca.whole (Ca.adj n.1) n.2))),.box [.int .u8 (Con.kind (Ca.whole (Ca.adj n.1) n.2)),.str (Con.src (Ca.whole (Ca.adj n.1) n.2)),.str (Con.dst (Ca.whole (Ca.adj n.1) n.2)),.str (Con.name (Ca.whole (Ca.adj n.1) n.2)),.int .u8 (Ex.kind (Con.x (Ca.whole (Ca.adj n.1) n.2))),.str (Ex.rat (Con.x (Ca.whole (Ca.adj n.1) n.2))),.str (Ex.name (Con.x (Ca.whole (Ca.adj n.1) n.2))),.int .i64 (Ex.date (Con.x (Ca.whole (Ca.adj n.1) n.2))),.osl 4 5 0 2,.int .i64 (Con.date (Ca.whole (Ca.adj n.1) n.2)),.osl 5 1 0 (List.length (Con.days (Ca.whole (Ca.adj n.1) n.2))),.osl 6 12 0 (List.length (Con.sub (Ca.whole (Ca.adj n.1) n.2)))]])) (.leaf (.ret [.agg [.int .u8 (Con.kind (Ca.whole (Ca.adj n.1) n.2)),.str (Con.src (Ca.whole (Ca.adj n.1) n.2)),.str (Con.dst (Ca.whole (Ca.adj n.1) n.2)),.str (Con.name (Ca.whole (Ca.adj n.1) n.2)),.int .u8 (Ex.kind (Con.x (Ca.whole (Ca.adj n.1) n.2))),.str (Ex.rat (Con.x (Ca.whole (Ca.adj n.1) n.2))),.str (Ex.name (Con.x (Ca.whole (Ca.adj n.1) n.2))),.int .i64 (Ex.date (Con.x (Ca.whole (Ca.adj n.1) n.2))),.osl 4 5 0 2,.int .i64 (Con.date (Ca.whole (Ca.adj n.1) n.2)),.osl 5 1 0 (List.length (Con.days (Ca.whole (Ca.adj n.1) n.2))),.osl 6 12 0 (List.length (Con.sub (Ca.whole (Ca.adj n.1) n.2)))],.int .i64 0] [.box [.str (Ca.name n.1),.str (Ca.into n.1),.int .i64 (Ca.date n.1),.str (Ca.ratio n.1),.str (Ca.extra n.1)],.box (Con.ze c),.box [.int .u8 (Con.kind (Ca.whole (Ca.adj n.1) n.2)),.str (Con.src (Ca.whole (Ca.adj n.1) n.2)),.str (Con.dst (Ca.whole (Ca.adj n.1) n.2)),.str (Con.name (Ca.whole (Ca.adj n.1) n.2)),.int .u8 (Ex.kind (Con.x (Ca.whole (Ca.adj n.1) n.2))),.str (Ex.rat (Con.x (Ca.whole (Ca.adj n.1) n.2))),.str (Ex.name (Con.x (Ca.whole (Ca.adj n.1) n.2))),.int .i64 (Ex.date (Con.x (Ca.whole (Ca.adj n.1) n.2))),.osl 4 5 0 2,.int .i64 (Con.date (Ca.whole (Ca.adj n.1) n.2)),.osl 5 1 0 (List.length (Con.days (Ca.whole (Ca.adj n.1) n.2))),.osl 6 12 0 (List.length (Con.sub (Ca.whole (Ca.adj n.1) n.2)))],.box [.fn 41 [] [.ptr 0 0,.ptr 3 0]],.box [.int .u8 (Ex.kind (List.getD (Ex.sub (Con.x (Ca.whole (Ca.adj n.1) n.2))) 0 Ex.nil)),.str (Ex.rat (List.getD (Ex.sub (Con.x (Ca.whole (Ca.adj n.1) n.2))) 0 Ex.nil)),.str (Ex.name (List.getD (Ex.sub (Con.x (Ca.whole (Ca.adj n.1) n.2))) 0 Ex.nil)),.int .i64 (Ex.date (List.getD (Ex.sub (Con.x (Ca.whole (Ca.adj n.1) n.2))) 0 Ex.nil)),.sl (List.length (Ex.sub (List.getD (Ex.sub (Con.x (Ca.whole (Ca.adj n.1) n.2))) 0 Ex.nil))) 5 (Ex.deep (List.getD (Ex.sub (Con.x (Ca.whole (Ca.adj n.1) n.2))) 0 Ex.nil)),.int .u8 (Ex.kind (List.getD (Ex.sub (Con.x (Ca.whole (Ca.adj n.1) n.2))) 1 Ex.nil)),.str (Ex.rat (List.getD (Ex.sub (Con.x (Ca.whole (Ca.adj n.1) n.2))) 1 Ex.nil)),.str (Ex.name (List.getD (Ex.sub (Con.x (Ca.whole (Ca.adj n.1) n.2))) 1 Ex.nil)),.int .i64 (Ex.date (List.getD (Ex.sub (Con.x (Ca.whole (Ca.adj n.1) n.2))) 1 Ex.nil)),.sl (List.length (Ex.sub (List.getD (Ex.sub (Con.x (Ca.whole (Ca.adj n.1) n.2))) 1 Ex.nil))) 5 (Ex.deep (List.getD (Ex.sub (Con.x (Ca.whole (Ca.adj n.1) n.2))) 1 Ex.nil))],.arr (List.length (Con.days (Ca.whole (Ca.adj n.1) n.2))) 1 (Con.dayG (Con.days (Ca.whole (Ca.adj n.1) n.2))),.arr (List.length (Con.sub (Ca.whole (Ca.adj n.1) n.2))) 12 (Con.conG (Con.sub (Ca.whole (Ca.adj n.1) n.2))),.box [.int .u8 (Con.kind (Ca.whole (Ca.adj n.1) n.2)),.str (Con.src (Ca.whole (Ca.adj n.1) n.2)),.str (Con.dst (Ca.whole (Ca.adj n.1) n.2)),.str (Con.name (Ca.whole (Ca.adj n.1) n.2)),.int .u8 (Ex.kind (Con.x (Ca.whole (Ca.adj n.1) n.2))),.str (Ex.rat (Con.x (Ca.whole (Ca.adj n.1) n.2))),.str (Ex.name (Con.x (Ca.whole (Ca.adj n.1) n.2))),.int .i64 (Ex.date (Con.x (Ca.whole (Ca.adj n.1) n.2))),.osl 4 5 0 2,.int .i64 (Con.date (Ca.whole (Ca.adj n.1) n.2)),.osl 5 1 0 (List.length (Con.days (Ca.whole (Ca.adj n.1) n.2))),.osl 6 12 0 (List.length (Con.sub (Ca.whole (Ca.adj n.1) n.2)))]]))) (.ex (fun(x:Con)=>eqL [AV.agg [AV.int .u8 (Con.kind (Ca.whole (Ca.adj n.1) n.2)),AV.str (Con.src (Ca.whole (Ca.adj n.1) n.2)),AV.str (Con.dst (Ca.whole (Ca.adj n.1) n.2)),AV.str (Con.name (Ca.whole (Ca.adj n.1) n.2)),AV.int .u8 (Ex.kind (Con.x (Ca.whole (Ca.adj n.1) n.2))),AV.str (Ex.rat (Con.x (Ca.whole (Ca.adj n.1) n.2))),AV.str (Ex.name (Con.x (Ca.whole (Ca.adj n.1) n.2))),AV.int .i64 (Ex.date (Con.x (Ca.whole (Ca.adj n.1) n.2))),AV.sl (List.length (Ex.sub (Con.x (Ca.whole (Ca.adj n.1) n.2)))) 5 (zg (Ex.exG (Ex.sub (Con.x (Ca.whole (Ca.adj n.1) n.2)))) 0),AV.int .i64 (Con.date (Ca.whole (Ca.adj n.1) n.2)),AV.sl (List.length (Con.days (Ca.whole (Ca.adj n.1) n.2))) 1 (zg (Con.dayG (Con.days (Ca.whole (Ca.adj n.1) n.2))) 0),AV.sl (List.length (Con.sub (Ca.whole (Ca.adj n.1) n.2))) 12 (zg (Con.conG (Con.sub (Ca.whole (Ca.adj n.1) n.2))) 0)]] [(Con.conA x)]∧Con.big x<1099511627776∧Con.nodes x≤1000000) fun n_1=>.all (fun(r:Int)=>r=Con.errC n_1) fun n_2=>.ite (!decide (n_2=0)) (.leaf (.ret [.agg [.int .u8 0,.str #[].toList,.str #[].toList,.str #[].toList,.int .u8 0,.str #[].toList,.str #[].toList,.int .i64 0,.nils,.int .i64 0,.nils,.nils],.int .i64 n_2] [.box [.str (Ca.name n.1),.str (Ca.into n.1),.int .i64 (Ca.date n.1),.str (Ca.ratio n.1),.str (Ca.extra n.1)],.box (Con.ze c),.box [.int .u8 0,.str #[].toList,.str #[].toList,.str #[].toList,.int .u8 0,.str #[].toList,.str #[].toList,.int .i64 0,.nils,.int .i64 0,.nils,.nils],.box [.fn 41 [] [.ptr 0 0,.ptr 3 0]],.arr (List.length (Ex.sub (Con.x (Ca.whole (Ca.adj n.1) n.2)))) 5 (Ex.exG (Ex.sub (Con.x (Ca.whole (Ca.adj n.1) n.2)))),.arr (List.length (Con.days (Ca.whole (Ca.adj n.1) n.2))) 1 (Con.dayG (Con.days (Ca.whole (Ca.adj n.1) n.2))),.arr (List.length (Con.sub (Ca.whole (Ca.adj n.1) n.2))) 12 (Con.conG (Con.sub (Ca.whole (Ca.adj n.1) n.2))),.box [.int .u8 (Con.kind (Ca.whole (Ca.adj n.1) n.2)),.str (Con.src (Ca.whole (Ca.adj n.1) n.2)),.str (Con.dst (Ca.whole (Ca.adj n.1) n.2)),.str (Con.name (Ca.whole (Ca.adj n.1) n.2)),.int .u8 (Ex.kind (Con.x (Ca.whole (Ca.adj n.1) n.2))),.str (Ex.rat (Con.x (Ca.whole (Ca.adj n.1) n.2))),.str (Ex.name (Con.x (Ca.whole (Ca.adj n.1) n.2))),.int .i64 (Ex.date (Con.x (Ca.whole (Ca.adj n.1) n.2))),.osl 4 5 0 (List.length (Ex.sub (Con.x (Ca.whole (Ca.adj n.1) n.2)))),.int .i64 (Con.date (Ca.whole (Ca.adj n.1) n.2)),.osl 5 1 0 (List.length (Con.days (Ca.whole (Ca.adj n.1) n.2))),.osl 6 12 0 (List.length (Con.sub (Ca.whole (Ca.adj n.1) n.2)))]])) (.leaf (.ret [.agg [.int .u8 (Con.kind (Ca.whole (Ca.adj n.1) n.2)),.str (Con.src (Ca.whole (Ca.adj n.1) n.2)),.str (Con.dst (Ca.whole (Ca.adj n.1) n.2)),.str (Con.name (Ca.whole (Ca.adj n.1) n.2)),.int .u8 (Ex.kind (Con.x (Ca.whole (Ca.adj n.1) n.2))),.str (Ex.rat (Con.x (Ca.whole (Ca.adj n.1) n.2))),.str (Ex.name (Con.x (Ca.whole (Ca.adj n.1) n.2))),.int .i64 (Ex.date (Con.x (Ca.whole (Ca.adj n.1) n.2))),.osl 4 5 0 (List.length (Ex.sub (Con.x (Ca.whole (Ca.adj n.1) n.2)))),.int .i64 (Con.date (Ca.whole (Ca.adj n.1) n.2)),.osl 5 1 0 (List.length (Con.days (Ca.whole (Ca.adj n.1) n.2))),.osl 6 12 0 (List.length (Con.sub (Ca.whole (Ca.adj n.1) n.2)))],.int .i64 0] [.box [.str (Ca.name n.1),.str (Ca.into n.1),.int .i64 (Ca.date n.1),.str (Ca.ratio n.1),.str (Ca.extra n.1)],.box (Con.ze c),.box [.int .u8 (Con.kind (Ca.whole (Ca.adj n.1) n.2)),.str (Con.src (Ca.whole (Ca.adj n.1) n.2)),.str (Con.dst (Ca.whole (Ca.adj n.1) n.2)),.str (Con.name (Ca.whole (Ca.adj n.1) n.2)),.int .u8 (Ex.kind (Con.x (Ca.whole (Ca.adj n.1) n.2))),.str (Ex.rat (Con.x (Ca.whole (Ca.adj n.1) n.2))),.str (Ex.name (Con.x (Ca.whole (Ca.adj n.1) n.2))),.int .i64 (Ex.date (Con.x (Ca.whole (Ca.adj n.1) n.2))),.osl 4 5 0 (List.length (Ex.sub (Con.x (Ca.whole (Ca.adj n.1) n.2)))),.int .i64 (Con.date (Ca.whole (Ca.adj n.1) n.2)),.osl 5 1 0 (List.length (Con.days (Ca.whole (Ca.adj n.1) n.2))),.osl 6 12 0 (List.length (Con.sub (Ca.whole (Ca.adj n.1) n.2)))],.box [.fn 41 [] [.ptr 0 0,.ptr 3 0]],.arr (List.length (Ex.sub (Con.x (Ca.whole (Ca.adj n.1) n.2)))) 5 (Ex.exG (Ex.sub (Con.x (Ca.whole (Ca.adj n.1) n.2)))),.arr (List.length (Con.days (Ca.whole (Ca.adj n.1) n.2))) 1 (Con.dayG (Con.days (Ca.whole (Ca.adj n.1) n.2))),.arr (List.length (Con.sub (Ca.whole (Ca.adj n.1) n.2))) 12 (Con.conG (Con.sub (Ca.whole (Ca.adj n.1) n.2))),.box [.int .u8 (Con.kind (Ca.whole (Ca.adj n.1) n.2)),.str (Con.src (Ca.whole (Ca.adj n.1) n.2)),.str (Con.dst (Ca.whole (Ca.adj n.1) n.2)),.str (Con.name (Ca.whole (Ca.adj n.1) n.2)),.int .u8 (Ex.kind (Con.x (Ca.whole (Ca.adj n.1) n.2))),.str (Ex.rat (Con.x (Ca.whole (Ca.adj n.1) n.2))),.str (Ex.name (Con.x (Ca.whole (Ca.adj n.1) n.2))),.int .i64 (Ex.date (Con.x (Ca.whole (Ca.adj n.1) n.2))),.osl 4 5 0 (List.length (Ex.sub (Con.x (Ca.whole (Ca.adj n.1) n.2)))),.int .i64 (Con.date (Ca.whole (Ca.adj n.1) n.2)),.osl 5 1 0 (List.length (Con.days (Ca.whole (Ca.adj n.1) n.2))),.osl 6 12 0 (List.length (Con.sub (Ca.whole (Ca.adj n.1) n.2)))]]))))))) (by kernel_rfl) ?_
 simp only [Tree.holds,zd]
 have fail:∀ e:Int,e≠0→a.conv c=(Con.nil,e)→upQ Q (.tup [.agg [.int .u8 0,.str [],.str [],.str [],.int .u8 0,.str [],.str [],.int .i64 0,.nils,.int .i64 0,.nils,.nils],.int .i64 e],[]):=by
  intro e he hc
  rw [hc] at hq
  simp only [conT] at hq
  simp only [decide_eq_false he,Bool.false_and,Tree.holds,List.nil_append] at hq
  exact .inr ⟨.tup [Con.nil.outD (.osl 0 5 0 0) (.osl 1 1 0 0) (.osl 2 12 0 0),.int .i64 e],[(5,Ex.exG []),(1,Con.dayG []),(12,Con.conG [])],⟨⟨rfl,rfl,rfl,rfl,rfl,rfl,rfl,rfl,⟨(by show 0≤0∧0<3; decide),rfl,rfl⟩,rfl,⟨(by show 0≤1∧1<3; decide),rfl,rfl⟩,⟨(by show 0≤2∧2<3; decide),rfl,rfl⟩,trivial⟩,rfl,trivial⟩,(hq.2 trivial).2 trivial⟩
 have bad:∀ (e:Int) (h:Heap),e≠0→a.conv c=(Con.nil,e)→RetR VV 0 (upQ Q) [.agg [.int .u8 0,.str [],.str [],.str [],.int .u8 0,.str [],.str [],.int .i64 0,.nils,.int .i64 0,.nils,.nils],.int .i64 e] h:=fun e h he hc=>
  RetR.vu [] rfl rfl (by intro j hj; cases hj) rfl (fail e he hc) (LeA.refl _) trivial
 refine⟨a,⟨⟨ha,trivial⟩,qF ht⟩,⟨_,rfl⟩,?_⟩
 rintro _ rfl
 by_cases hok:a.ok=true
 ·rw [if_pos hok]
  refine⟨fun h=>by simp at h,fun _=> ?_⟩
  refine⟨c,⟨⟨zQ c,trivial⟩,by omega,by omega⟩,⟨_,rfl⟩,?_⟩
  rintro _ rfl
  refine⟨fun h=> ?_,fun h=> ?_⟩<;>simp at h
  ·exact bad _ _ h (by unfold Ca.conv; rw [if_pos hok,if_neg h])
  have hform:c.form=true:=zaa h
  have e:=Ca.Zh a c hform
  refine⟨(a,c),⟨⟨zQ c,⟨rfl,rfl⟩,⟨rfl,rfl⟩,trivial⟩,by simp,trivial,by show c.big<_; omega⟩,?_⟩
  have hcv:(Ca.whole a.chg c).errC≠0→a.conv c=(Con.nil,(Ca.whole a.chg c).errC):=fun g=>by unfold Ca.conv; rw [if_pos hok,if_pos h,if_neg g]
  have hcv0:(Ca.whole a.chg c).errC=0→a.conv c=(Ca.whole a.chg c,0):=fun g=>by unfold Ca.conv; rw [if_pos hok,if_pos h,if_pos g]
  have hx:(Ca.whole a.chg c).x=a.adj c.x:=by rw [← e,Ca.kG]; rfl
  simp only [e]
  refine⟨fun g=> ?_,fun g=>⟨fun g'=> ?_,fun g'=> ?_⟩⟩
  ·refine⟨Ca.whole a.chg c,⟨⟨xj ⟨rfl,rfl,Ex.zA _⟩ ⟨rfl,rfl,zP _ _ _⟩ ⟨rfl,rfl,zP _ _ _⟩,trivial⟩,by omega,by omega⟩,⟨_,rfl⟩,?_⟩
   rintro _ rfl
   refine⟨fun h=> ?_,fun h=> ?_⟩<;>simp at h
   ·exact bad _ _ h (hcv h)
   ·rw [hcv0 h] at hq
    replace hq:=hq.1 (by simpa using g)
    exact RetR.vu [4,5,6] rfl rfl (by intro j hj; cases hj) rfl (.inl hq) (LeA.refl _) ⟨LeB.refl _,LeB.refl _,LeB.refl _,trivial⟩
  ·obtain⟨x1,x2,hxx⟩:=Xm g'
   have hxx:(Ca.whole a.chg c).x.sub=[x1,x2]:=by rw [hx]; exact hxx
   refine⟨Ca.whole a.chg c,⟨⟨xj ⟨by rw [hxx]; rfl,rfl,by rw [hxx]; exact Ex.zaj x1 x2⟩ ⟨rfl,rfl,zP _ _ _⟩ ⟨rfl,rfl,zP _ _ _⟩,trivial⟩,by omega,by omega⟩,⟨_,rfl⟩,?_⟩
   rintro _ rfl
   refine⟨fun h=> ?_,fun h=> ?_⟩<;>simp at h
   ·exact bad _ _ h (hcv h)
   ·rw [hcv0 h] at hq
    replace hq:=(hq.2 (by simpa using g)).1 (by simpa using g')
    exact RetR.vu [4,5,6] rfl rfl (by intro j hj; cases hj) rfl (.inl hq) (LeA.refl _) ⟨LeB.refl _,LeB.refl _,LeB.refl _,trivial⟩
  ·refine⟨Ca.whole a.chg c,⟨⟨xj ⟨rfl,rfl,zP _ _ _⟩ ⟨rfl,rfl,zP _ _ _⟩ ⟨rfl,rfl,zP _ _ _⟩,trivial⟩,by omega,by omega⟩,⟨_,rfl⟩,?_⟩
   rintro _ rfl
   refine⟨fun h=> ?_,fun h=> ?_⟩<;>simp at h
   ·exact bad _ _ h (hcv h)
   ·rw [hcv0 h] at hq
    replace hq:=(hq.2 (by simpa using g)).2 (by simpa using g')
    exact RetR.vu [4,5,6] rfl rfl (by intro j hj; cases hj) rfl (.inl hq) (LeA.refl _) ⟨LeB.refl _,LeB.refl _,LeB.refl _,trivial⟩
 ·rw [if_neg hok]
  refine⟨fun _=>bad _ _ (by decide) (by unfold Ca.conv; rw [if_neg hok]),fun h=>by simp at h⟩
noncomputable def K34:List Go.Sx.Item:=[.code (Tryz.f34.body.getD .skip)]
noncomputable def K35:List Go.Sx.Item:=[.code (Tryz.f35.body.getD .skip)]
theorem Con.yF:∀ s:List Con,s.length≤Con.zL s
 | []=>by simp
 | c::s=>by rw [Con.zL]; have:=Con.yF s; have:=Con.ZF c; simp; omega
def zay(n:Nat):Ctr:=ctrP true (fun p:Con×Nat×Nat=>[p.1.conA,.int .i64 (p.2.1:Int),.int .i64 (p.2.2:Int)]) (fun p=>p.1.nodes<n∧p.2.1<2^40∧p.2.2<2^40)
 (fun p (r:Nat×Bool)=>1≤r.1∧r.1≤p.2.1+1∧(r.2=true→r.1≤p.2.1→r.1=p.1.nodes)) (fun _ (r:Nat×Bool)=>(.tup [.int .i64 (r.1:Int),.bool r.2],[]))
def SCk9(limit deep m i:Nat):KV:=[(1,.int .i64 (limit:Int)),(2,.int .i64 (deep:Int)),(3,.ptr 0 0),(8,.int .i64 (m:Int)),(9,.int .i64 (i:Int)),(20,.undef),(21,.undef),(22,.undef)]
theorem XH(n:Nat)(ih:zc Tryz.prog 34 (zay n)):zc Tryz.prog 34 (zay (n+1)):=by
 refine zf (fn:=Tryz.f34) (c:=Tryz.f34.body.getD .skip) rfl rfl rfl fun p hp O w0 Q hq=> ?_
 obtain⟨x,limit,deep⟩:=p
 obtain⟨hxn,hli,hde⟩:=hp
 simp only at hxn hli hde hq
 rw [Con.qN] at hxn hq
 have hlb:=Con.yF x.sub
 refine zb.run hmix (qj ih) [1,2,3,8,9,20,21,22] 400 (T:=.ite (decide ((↑deep:Int)=0)) (.leaf (.ret [.int .i64 1,.bool false] [.box (Con.ze x)])) (.leaf (.loop (Prod.fst (lps K34 0)) (Prod.snd (lps K34 0)) [(1,.int .i64 limit),(2,.int .i64 deep),(3,.ptr 0 0),(8,.int .i64 1),(9,.int .i64 0),(20,.undef),(21,.undef),(22,.undef)] [.box (Con.ze x)]))) (by kernel_rfl) ?_
 simp only [Tree.holds,zd]
 refine⟨fun h0=> ?_,fun h0=> ?_⟩
 ·exact RetR.scal (hq (1,false) ⟨Nat.le_refl _,by simp,fun h=>by cases h⟩) rfl (by simp [resV])
 ·have h0:0<deep:=by have:=of_decide_eq_false h0; omega
  refine zb.loop (ι:={q:Nat×Nat // q.1≤limit+1∧q.2<q.1∧q.2≤x.sub.length∧(q.1≤limit→q.1=1+Con.zL (x.sub.take q.2))}) (fun q=>SCk9 limit deep q.1.1 q.1.2) (fun _=>[.box x.ze]) (fun q=>x.sub.length - q.1.2) ⟨(1,0),by simp [Con.zL]⟩ 0 ?_ ?_ (by kernel_rfl)
  ·exact⟨by simp [SCk9],⟨zk x,trivial⟩,by kernel_rfl,Nat.zero_le _⟩
  ·rintro⟨⟨c,i⟩,h1,h2,h3,h4⟩
   simp only at h1 h2 h3 h4
   refine zb.run hmix (qj ih) [1,2,3,8,9,20,21,22] 400 (T:=.ite (bif decide ((↑i:Int)<(↑x.sub.length:Int)) then decide ((↑c:Int)≤limit) else false) (.side ((0:Int)≤i∧(↑i:Int)<(↑x.sub.length:Int)) (.side (inR .i64 ((↑limit:Int) - c)) (.side (inR .i64 ((↑deep:Int) - (1:Int))) (.ex (fun(x_1:Con×Nat×Nat)=>eqL [(Con.conD (List.getD x.sub (↑i:Int).toNat Con.nil)),AV.int .i64 ((↑limit:Int) - c),AV.int .i64 ((↑deep:Int) - (1:Int))] [(Con.conA x_1.1),AV.int .i64 x_1.2.1,AV.int .i64 x_1.2.2]∧Con.nodes x_1.1<n∧x_1.2.1<1099511627776∧x_1.2.2<1099511627776) fun n=>.all (fun(r:Nat×Bool)=>1≤r.1∧r.1≤n.2.1+1∧(r.2=true→r.1≤n.2.1→r.1=Con.nodes n.1)) fun n=>.ite (!Prod.snd n) (.leaf (.ret [.int .i64 c,.bool false] [.box (Con.ze x)])) (.side (inR .i64 ((↑c:Int)+n.1)) (.side (inR .i64 ((↑i:Int)+(1:Int))) (.leaf (.back 0 [(1,.int .i64 limit),(2,.int .i64 deep),(3,.ptr 0 0),(8,.int .i64 ((↑c:Int)+n.1)),(9,.int .i64 ((↑i:Int)+(1:Int))),(20,.undef),(21,.undef),(22,.undef)] [.box (Con.ze x)])))))))) (.leaf (.ret [.int .i64 c,.bool true] [.box (Con.ze x)]))) (by kernel_rfl) ?_
   simp only [Tree.holds,zd,inR,lo,hi,Int.toNat_natCast]
   refine⟨fun hlt=> ?_,fun hge=> ?_⟩
   ·have hlt1:i<x.sub.length∧c≤limit:=by
     by_cases g1:i<x.sub.length
     ·by_cases g2:c≤limit
      ·exact⟨g1,g2⟩
      ·rw [decide_eq_false (show ¬ (c:Int)≤limit by omega)] at hlt
       cases hx:decide ((i:Int)<x.sub.length)<;>rw [hx] at hlt<;>cases hlt
     ·rw [decide_eq_false (show ¬ (i:Int)<x.sub.length by omega)] at hlt
      cases hlt
    obtain⟨hlt,hcl⟩:=hlt1
    have hg:=Con.qq hlt
    have ht:=Con.ZL hlt
    have h4:=h4 hcl
    iterate 3 refine⟨by omega,fun _=> ?_⟩
    refine⟨(x.sub.getD i Con.nil,limit - c,deep - 1),⟨?_,by show(x.sub.getD i Con.nil).nodes<n; omega,by show limit - c<2^40; omega,by show deep - 1<2^40; omega⟩,⟨(1,false),Nat.le_refl _,by simp,fun h=>by cases h⟩,?_⟩
    ·have e1:(limit:Int) - c=((limit - c:Nat):Int):=by omega
     have e2:(deep:Int) - 1=((deep - 1:Nat):Int):=by omega
     rw [e1,e2]
     exact⟨jm _,⟨rfl,rfl⟩,⟨rfl,rfl⟩,trivial⟩
    rintro⟨m',b⟩ ⟨g1,g2,g3⟩
    simp only at g1 g2 g3
    refine⟨fun hb=> ?_,fun hb=> ?_⟩
    ·exact RetR.scal (hq (c,false) ⟨by show 1≤c; omega,by show c≤limit+1; omega,fun h=>by cases h⟩) rfl (by simp [resV])
    ·have hb:b=true:=by simpa using hb
     refine⟨by omega,fun _=>⟨by omega,fun _=> ?_⟩⟩
     rw [if_pos trivial]
     refine⟨⟨(c+m',i+1),?_,?_,hlt,?_⟩,by show x.sub.length - (i+1)<x.sub.length - i; omega,?_,⟨zk x,trivial⟩,by kernel_rfl,Nat.zero_le _⟩
     ·show c+m'≤limit+1; omega
     ·show i+1<c+m'; omega
     ·show c+m'≤limit→c+m'=1+Con.zL (x.sub.take (i+1))
      intro hle
      have:=g3 hb (by omega)
      omega
     ·simp [SCk9]
   ·refine RetR.scal (hq (c,true) ⟨by show 1≤c; omega,h1,fun _ hle=> ?_⟩) rfl (by simp [resV])
    simp only at hle
    have hge:i=x.sub.length:=by
     by_cases g1:i<x.sub.length
     ·rw [decide_eq_true (show(i:Int)<x.sub.length by omega),decide_eq_true (show(c:Int)≤limit by omega)] at hge
      cases hge
     ·omega
    have h4:=h4 hle
    rw [hge,List.take_length] at h4
    exact h4
def WB:Ctr:=ctrP true (fun p:Con×Nat×Nat=>[p.1.conA,.int .i64 (p.2.1:Int),.int .i64 (p.2.2:Int)]) (fun p=>p.2.1<2^40∧p.2.2<2^40)
 (fun p (r:Nat×Bool)=>1≤r.1∧r.1≤p.2.1+1∧(r.2=true→r.1≤p.2.1→r.1=p.1.nodes)) (fun _ (r:Nat×Bool)=>(.tup [.int .i64 (r.1:Int),.bool r.2],[]))
theorem zbx:zc Tryz.prog 34 WB:=zR (fun p=>p.1.nodes) XH
theorem Con.zia{c:Con}(h:c.thin):c.src.length≤2^48∧c.dst.length≤2^48∧c.name.length≤2^48∧c.x.thin∧c.days.length≤2^48∧c.sub.length≤2^48∧Con.wg c.sub:=by
 cases c; rw [Con.thin] at h; exact h
def Qu(n:Nat):Ctr:=ctrP true (fun x:Con=>[x.conA]) (fun x=>x.nodes<n∧x.nodes≤1000∧x.thin) (fun x r=>r≤2^51+100000*x.nodes∧(r<100000→x.big≤3001*x.nodes+r)) (fun _ (r:Nat)=>(.int .i64 (r:Int),[]))
noncomputable def GWt0:Nat→Option Ctr:=fun f=>if f=7 then some (Ut) else if f=77 then some (uD) else none
theorem zjf:∀ g c,GWt0 g=some c→zc Tryz.prog g c:=okIf Ws (okIf J3 (zp))
noncomputable def GWtc(n:Nat):Nat→Option Ctr:=fun f=>if f=35 then some (Qu n) else GWt0 f
theorem za7{n:Nat}(ih:zc Tryz.prog 35 (Qu n)):∀ g c,GWtc n g=some c→zc Tryz.prog g c:=fun g c h=>by
 unfold GWtc at h
 split at h
 ·rename_i e; cases h; subst e; exact ih
 ·exact zjf g c h
def SWt(m i:Nat):KV:=[(1,.ptr 0 0),(3,.int .i64 (m:Int)),(4,.int .i64 (i:Int)),(34,.undef),(35,.undef)]
theorem Ym(n:Nat)(ih:zc Tryz.prog 35 (Qu n)):zc Tryz.prog 35 (Qu (n+1)):=by
 refine zf (fn:=Tryz.f35) (c:=Tryz.f35.body.getD .skip) rfl rfl rfl fun x hp O w0 Q hq=> ?_
 obtain⟨hxn,hle,hth⟩:=hp
 refine zb.run hmix (za7 ih) [1,3,4,34,35] 400 (T:=.ex (fun(x_1:Ex)=>eqL [(Ex.exA x.x)] [x_1.exA]∧Ex.thin x_1) fun n=>.all (fun(r:Bool)=>r=false→Ex.size n≤600∧Ex.zq n≤3000) fun n=>.ite n (.leaf (.ret [.int .i64 200000] [.box (Con.ze x)])) (.side (inR .i64 ((↑x.src.length:Int)+(↑x.dst.length:Int))) (.side (inR .i64 ((↑x.src.length:Int)+(↑x.dst.length:Int)+(↑x.name.length:Int))) (.side (inR .i64 ((↑x.src.length:Int)+(↑x.dst.length:Int)+(↑x.name.length:Int)+(↑x.days.length:Int))) (.ex (fun(x_1:Ex)=>eqL [(Ex.exA x.x)] [x_1.exA]∧Ex.size x_1<4611686018427387904) fun n=>.all (fun(r:Nat)=>r=Ex.size n) fun n=>.side (inR .i64 ((4:Int)*n)) (.side (inR .i64 ((↑x.src.length:Int)+(↑x.dst.length:Int)+(↑x.name.length:Int)+(↑x.days.length:Int)+(4:Int)*n)) (.leaf (.loop (Prod.fst (lps K35 0)) (Prod.snd (lps K35 0)) [(1,.ptr 0 0),(3,.int .i64 ((↑x.src.length:Int)+(↑x.dst.length:Int)+(↑x.name.length:Int)+(↑x.days.length:Int)+(4:Int)*n)),(4,.int .i64 0),(34,.undef),(35,.undef)] [.box (Con.ze x)])))))))) (by kernel_rfl) ?_
 simp only [Tree.holds,zd,inR,lo,hi,Int.toNat_natCast]
 obtain⟨t1,t2,t3,t4,t5,t6,t7⟩:=Con.zia hth
 have hbig:=Con.ju x
 have hnod:=Con.qN x
 have hlb:=Con.yF x.sub
 refine⟨x.x,⟨⟨zD x.x,trivial⟩,t4⟩,⟨true,fun h=>by cases h⟩,fun b hb=>⟨fun h=> ?_,fun h=> ?_⟩⟩
 ·exact RetR.scal (hq 200000 ⟨by omega,fun h=>by omega⟩) rfl (by simp [resV])
 subst h
 obtain⟨b1,b2⟩:=hb rfl
 iterate 3 refine⟨by omega,fun _=> ?_⟩
 refine⟨x.x,⟨⟨zD x.x,trivial⟩,by omega⟩,⟨_,rfl⟩,?_⟩
 rintro _ rfl
 iterate 2 refine⟨by omega,fun _=> ?_⟩
 refine zb.loop (ι:={q:Nat×Nat // q.2≤x.sub.length∧q.1≤2^51+100000*(1+Con.zL (x.sub.take q.2))∧(q.1<100000→1+x.src.length+x.dst.length+x.name.length+x.days.length+x.x.size+x.x.zq+Con.bigs (x.sub.take q.2)≤3001*(1+Con.zL (x.sub.take q.2))+q.1)}) (fun q=>SWt q.1.1 q.1.2) (fun _=>[.box x.ze]) (fun q=>x.sub.length - q.1.2) ⟨(x.src.length+x.dst.length+x.name.length+x.days.length+4*x.x.size,0),Nat.zero_le _,by simp only [List.take_zero,Con.zL]; omega,by simp only [List.take_zero,Con.zL,Con.bigs]; omega⟩ 0 ?_ ?_ (by kernel_rfl)
 ·exact⟨by simp [SWt],⟨zk x,trivial⟩,by kernel_rfl,Nat.zero_le _⟩
 ·rintro⟨⟨m,i⟩,h1,h2,h3⟩
  simp only at h1 h2 h3
  refine zb.run hmix (za7 ih) [1,3,4,34,35] 400 (T:=.ite (bif decide ((↑i:Int)<(↑x.sub.length:Int)) then decide ((↑m:Int)<100000) else false) (.side ((0:Int)≤i∧(↑i:Int)<(↑x.sub.length:Int)) (.ex (fun(x_1:Con)=>eqL [(Con.conD (List.getD x.sub (↑i:Int).toNat Con.nil))] [(Con.conA x_1)]∧Con.nodes x_1<n∧Con.nodes x_1≤1000∧Con.thin x_1) fun n=>.all (fun(r:Nat)=>r≤2251799813685248+100000*Con.nodes n∧(r<100000→Con.big n≤3001*Con.nodes n+r)) fun n=>.side (inR .i64 ((↑m:Int)+n)) (.side (inR .i64 ((↑i:Int)+(1:Int))) (.leaf (.back 0 [(1,.ptr 0 0),(3,.int .i64 ((↑m:Int)+n)),(4,.int .i64 ((↑i:Int)+(1:Int))),(34,.undef),(35,.undef)] [.box (Con.ze x)]))))) (.leaf (.ret [.int .i64 m] [.box (Con.ze x)]))) (by kernel_rfl) ?_
  simp only [Tree.holds,zd,inR,lo,hi,Int.toNat_natCast]
  have hlt2:=Con.zbz x.sub i
  refine⟨fun hlt=> ?_,fun hge=> ?_⟩
  ·have hlt1:i<x.sub.length∧m<100000:=by
    by_cases g1:i<x.sub.length
    ·by_cases g2:m<100000
     ·exact⟨g1,g2⟩
     ·rw [decide_eq_false (show ¬ (m:Int)<100000 by omega)] at hlt
      cases hx:decide ((i:Int)<x.sub.length)<;>rw [hx] at hlt<;>cases hlt
    ·rw [decide_eq_false (show ¬ (i:Int)<x.sub.length by omega)] at hlt
     cases hlt
   obtain⟨hlt,hm⟩:=hlt1
   have h3:=h3 hm
   have e1:=Con.qq hlt
   have e2:=Con.ZL hlt
   have e3:=Con.zcn hlt
   refine⟨by omega,fun _=>⟨x.sub.getD i Con.nil,⟨⟨jm _,trivial⟩,by omega,by omega,Con.Zr hlt t7⟩,⟨200000,by omega,fun h=>by omega⟩,?_⟩⟩
   intro r hr
   obtain⟨r1,r2⟩:=hr
   refine⟨by omega,fun _=>⟨by omega,fun _=> ?_⟩⟩
   rw [if_pos trivial]
   refine⟨⟨(m+r,i+1),hlt,by simp only; omega,fun hlt2=> ?_⟩,by show x.sub.length - (i+1)<x.sub.length - i; omega,by simp [SWt],⟨zk x,trivial⟩,by kernel_rfl,Nat.zero_le _⟩
   simp only at hlt2 ⊢
   have:=r2 (by omega)
   omega
  ·refine RetR.scal (hq m ⟨by omega,fun hm=> ?_⟩) rfl (by simp [resV])
   have hge:i=x.sub.length:=by
    by_cases g1:i<x.sub.length
    ·rw [decide_eq_true (show(i:Int)<x.sub.length by omega),decide_eq_true (show(m:Int)<100000 by omega)] at hge
     cases hge
    ·omega
   have h3:=h3 hm
   rw [hge,List.take_length] at h3
   omega
def Wl:Ctr:=ctrP true (fun x:Con=>[x.conA]) (fun x=>x.nodes≤1000∧x.thin) (fun x r=>r≤2^51+100000*x.nodes∧(r<100000→x.big≤3001*x.nodes+r)) (fun _ (r:Nat)=>(.int .i64 (r:Int),[]))
theorem zch:zc Tryz.prog 35 Wl:=zR Con.nodes Ym
def zgq:Ctr:=ctrP true (fun x:Con=>[x.conA]) (fun x=>x.thin) (fun x r=>r=false→x.nodes≤600∧x.big≤1900000) (fun _ (r:Bool)=>(.bool r,[]))
noncomputable def GGk:Nat→Option Ctr:=fun f=>if f=34 then some (WB) else if f=35 then some (Wl) else none
theorem zlv:∀ g c,GGk g=some c→zc Tryz.prog g c:=okIf zbx (okIf zch (zp))
theorem zbm:zc Tryz.prog 8 zgq:=by
 refine zf (fn:=Tryz.f8) (c:=Tryz.f8.body.getD .skip) rfl rfl rfl fun x hx O w0 Q hq=> ?_
 refine zb.run hmix zlv [] 400 (T:=.ex (fun(x_1:Con×Nat×Nat)=>eqL [(Con.conA x),AV.int .i64 600,AV.int .i64 100] [(Con.conA x_1.1),AV.int .i64 x_1.2.1,AV.int .i64 x_1.2.2]∧x_1.2.1<1099511627776∧x_1.2.2<1099511627776) fun n=>.all (fun(r:Nat×Bool)=>1≤r.1∧r.1≤n.2.1+1∧(r.2=true→r.1≤n.2.1→r.1=Con.nodes n.1)) fun n=>.ex (fun(x_1:Con)=>(bif !Prod.snd n then true else decide ((600:Int)<n.1))=false→eqL [(Con.conA x)] [(Con.conA x_1)]∧Con.nodes x_1≤1000∧Con.thin x_1) fun n_1=>.all (fun(x:Nat)=>(bif !Prod.snd n then true else decide ((600:Int)<n.1))=false→x≤2251799813685248+100000*Con.nodes n_1∧(x<100000→Con.big n_1≤3001*Con.nodes n_1+x)) fun n_2=>.leaf (.ret [.bool (bif bif !Prod.snd n then true else decide ((600:Int)<n.1) then true else decide ((12000:Int)<n_2))] [.box (Con.ze x)])) (by kernel_rfl) ?_
 simp only [Tree.holds,zd,inR,lo,hi,Int.toNat_natCast]
 refine⟨(x,600,100),⟨⟨zQ x,⟨rfl,rfl⟩,⟨rfl,rfl⟩,trivial⟩,by show 600<1099511627776; omega,by show 100<1099511627776; omega⟩,⟨(1,false),Nat.le_refl _,by show 1≤600+1; omega,fun h=>by cases h⟩,?_⟩
 rintro⟨c,b⟩ ⟨g1,g2,g3⟩
 simp only at g1 g2 g3
 have hsz:(bif !b then true else decide (600<(c:Int)))=false→x.nodes≤600:=by
  intro h
  cases b with
  | false=>cases h
  | true=>
   have h:¬ 600<(c:Int):=of_decide_eq_false h
   have:=g3 rfl (by omega)
   omega
 refine⟨x,fun h=>⟨⟨zQ x,trivial⟩,by have:=hsz h; omega,hx⟩,⟨200000,fun _=>⟨by omega,fun h=>by omega⟩⟩,?_⟩
 intro c2 hc2
 refine RetR.scal (hq (bif (bif !b then true else decide (600<(c:Int))) then true else decide (12000<(c2:Int))) fun h=> ?_) rfl (by simp [resV])
 cases ht:(bif !b then true else decide (600<(c:Int))) with
 | true=>rw [ht] at h; cases h
 | false=>
  rw [ht] at h
  obtain⟨_,h2⟩:=hc2 ht
  have h:¬ 12000<(c2:Int):=of_decide_eq_false h
  have h3:=h2 (by omega)
  have h4:=hsz ht
  refine⟨h4,?_⟩
  omega
end Go.Proofs.Tryz
end
section
namespace Go.Sx
variable [Stat]
end Go.Sx
end
section
set_option maxRecDepth 100000
open Go Go.Sx Go.Proofs Go.Nov
namespace Go.Proofs.Tryz
attribute [local simp] eqKV eqA eqA0 eqH eqB eqL eqL0
end Go.Proofs.Tryz
end
section
namespace Go.Nov
open Go.Sx
structure Ev where
 v:List UInt8
 e:Int
 b:Bool
 g:Int
abbrev Ev.nil:Ev:=⟨[],0,false,0⟩
def zn7(k:Int)(a b:List UInt8):List UInt8×Int:=
 if k=7 then(if(cmpR a b).2≠0 then([],(cmpR a b).2) else(if(cmpR a b).1<0 then b else a,0))
 else(if(cmpR b a).2≠0 then([],(cmpR b a).2) else(if(cmpR b a).1<0 then b else a,0))
def opR(k:Int)(a b:List UInt8):List UInt8×Int:=if k=4 then addR a b else if k=5 then subR a b else if k=6 then mulR a b else zn7 k a b
def fixR(f:List Fx)(a:List UInt8)(d:Int):List UInt8×Int:=if(zkn f a d).2=true then((zkn f a d).1,0) else([],30)
def zkq{α:Type}(z:α)(l0 l1:Ev)(f:List UInt8→List UInt8→α×Int):α×Int:=if l0.e≠0 then(z,l0.e) else if l1.e≠0 then(z,l1.e) else f l0.v l1.v
def valN(f:List Fx)(day k:Int)(r n:List UInt8)(d:Int)(l:List Ev):List UInt8×Int:=
 if k=1 then(r,0) else if k=2 then fixR f n d else if k=3 then fixR f n day
 else if k=9 then(if(l.getD 0 Ev.nil).g≠0 then([],(l.getD 0 Ev.nil).g) else if(l.getD 0 Ev.nil).b then((l.getD 1 Ev.nil).v,(l.getD 1 Ev.nil).e) else((l.getD 2 Ev.nil).v,(l.getD 2 Ev.nil).e))
 else zkq [] (l.getD 0 Ev.nil) (l.getD 1 Ev.nil) (opR k)
def zn8(k:Int)(a b:List UInt8):Bool×Int:=if(cmpR a b).2≠0 then(false,(cmpR a b).2) else(if k=11 then decide ((cmpR a b).1<0) else decide ((cmpR a b).1=0),0)
def hldN(k:Int)(l:List Ev):Bool×Int:=
 if 13≤k then(if(l.getD 0 Ev.nil).g≠0 then(false,(l.getD 0 Ev.nil).g) else if k=15 then(!(l.getD 0 Ev.nil).b,0)
  else if(l.getD 0 Ev.nil).b=decide (k=14) then((l.getD 0 Ev.nil).b,0) else((l.getD 1 Ev.nil).b,(l.getD 1 Ev.nil).g))
 else zkq false (l.getD 0 Ev.nil) (l.getD 1 Ev.nil) (zn8 k)
def evN(f:List Fx)(day k:Int)(r n:List UInt8)(d:Int)(l:List Ev):Ev:=⟨(valN f day k r n d l).1,(valN f day k r n d l).2,(hldN k l).1,(hldN k l).2⟩
namespace Ex
mutual
def ev(f:List Fx)(day:Int):Ex→Ev
 | mk k r n d s=>evN f day k r n d (evs f day s)
def evs(f:List Fx)(day:Int):List Ex→List Ev
 | []=>[]
 | x::l=>ev f day x::evs f day l
end
end Ex
end Go.Nov
end
section
set_option maxRecDepth 100000
open Go Go.Sx Go.Proofs Go.Nov
namespace Go.Proofs.Tryz
attribute [local simp] eqKV eqA eqA0 eqH eqB eqL eqL0
end Go.Proofs.Tryz
end
section
open Go Go.Sx Go.Proofs Go.Nov
namespace Go.Proofs.Tryz
end Go.Proofs.Tryz
end
section
set_option maxRecDepth 100000
open Go Go.Sx Go.Proofs Go.Nov
namespace Go.Proofs.Tryz
attribute [local simp] eqKV eqA eqA0 eqH eqB eqL eqL0
end Go.Proofs.Tryz
end
