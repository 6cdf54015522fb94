/- Part 7 of the proof. -/
import Derived.Test.YtomonffoihofaaaGreatDoorSxb
import Derived.Test.YtomonffoihofaaaGreatDoorSxf
import Derived.SizedLaws
import Derived.ChangeArms
import Derived.Deep.Slices
import Derived.Carry
set_option linter.unusedVariables false
set_option linter.unusedSimpArgs false
set_option linter.unusedSectionVars false
section
set_option maxRecDepth 100000
open Go Go.Sx Go.Proofs Go.Nov
namespace Go.Proofs.Tryz
attribute [local simp] eqKV eqA eqA0 eqH eqB eqL eqL0
noncomputable def K44:List Go.Sx.Item:=[.code (Tryz.f44.body.getD .skip)]
structure Pr where
 n:List UInt8
 m:List UInt8
 d:List UInt8
 c:List UInt8
 e:Int
def Pr.box(p:Pr):Blk:=.box [.str p.n,.str p.m,.str p.d,.str p.c,.int .i64 p.e]
def Pr.err(p:Pr)(e:Int):Pr:=⟨p.n,p.m,p.d,p.c,e⟩
inductive QOp where
 | add | sub | mul
def QOp.fn:QOp→Nat
 | .add=>48
 | .sub=>999999
 | .mul=>46
def QOp.has:QOp→Prop
 | .sub=>False
 | _=>True
def QOp.op:QOp→List UInt8→List UInt8→List UInt8×Int
 | .add=>addI
 | .sub=>subI
 | .mul=>mulI
def qX(a b:List UInt8):Pr:=if errR a≠0 then⟨[],[],[],[],errR a⟩ else if errR b≠0 then⟨numR a,[],denR a,[],errR b⟩ else⟨numR a,numR b,denR a,denR b,0⟩
def zcd:Ctr:=ctrT false false (fun p:List UInt8×List UInt8=>[.str p.1,.str p.2]) (fun _=>[]) (fun p=>p.1.length<2^62∧p.2.length<2^62) (fun p r=>r=qX p.1 p.2) (fun _ (r:Pr)=>(.ptr 0 0,[r.box]))
def zbu:Ctr:=ctrT false false (fun p:Pr×QOp=>[.ptr 0 0,.fn p.2.fn [] []]) (fun p=>[p.1.box]) (fun _=>True) (fun _ (_:Unit)=>True) (fun p _=>(.fn 72 [] [.ptr 1 0,.ptr 2 0],[p.1.box,.box [.ptr 0 0],.box [.fn p.2.fn [] []]]))
structure KX where
 p:Pr
 o:QOp
 x:List UInt8
 y:List UInt8
def Ko:Ctr:=ctrT false false (fun k:KX=>[.str k.x,.str k.y,.ptr 0 0,.ptr 2 0]) (fun k=>[.box [.ptr 1 0],k.p.box,.box [.fn k.o.fn [] []]]) (fun k=>k.x.length<2^62∧k.y.length<2^62∧k.o.has) (fun k r=>r=if k.p.e≠0 then([],k.p.e) else k.o.op k.x k.y)
 (fun k (r:List UInt8×Int)=>(.str r.1,[.box [.ptr 1 0],(k.p.err r.2).box,.box [.fn k.o.fn [] []]]))
def U5:Ctr:=ctrT false false (fun k:Pr×List UInt8×List UInt8=>[.ptr 0 0,.str k.2.1,.str k.2.2]) (fun k=>[k.1.box]) (fun k=>k.2.1.length<2^62∧k.2.2.length<2^62) (fun k r=>r=if k.1.e≠0 then([],k.1.e) else jH k.2.1 k.2.2)
 (fun k (r:List UInt8×Int)=>(.tup [.str r.1,.int .i64 r.2],[k.1.box]))
theorem zci:zc Tryz.prog 45 zbu:=by
 refine wa (fn:=Tryz.f45) (c:=Tryz.f45.body.getD .skip) rfl rfl rfl (fun h=>by cases h) fun p hp O w0 σ0 Q hl0 hq=> ?_
 obtain⟨p,o⟩:=p
 replace hq:=hq () trivial
 refine zb.run hmix zB [] 400 (T:=.leaf (.ret [.fn 72 [] [.ptr 1 0,.ptr 2 0]] [.box [.str p.n,.str p.m,.str p.d,.str p.c,.int .i64 p.e],.box [.ptr 0 0],.box [.fn (QOp.fn o) [] []]])) (by kernel_rfl) ?_
 simp only [Tree.holds,zd]
 refine RetR.keep [0,1,2] rfl rfl (by show ∀ j,j<1→_; decide) rfl hq ?_ ?_ rfl
 ·rfl
 ·exact⟨⟨rfl,rfl,rfl,rfl,⟨rfl,rfl⟩,trivial⟩,⟨⟨rfl,rfl⟩,trivial⟩,⟨rfl,trivial⟩,trivial⟩
noncomputable def GK1:Nat→Option Ctr:=fun f=>if f=48 then some (addC) else if f=46 then some (mulC) else none
theorem zbf:∀ g c,GK1 g=some c→zc Tryz.prog g c:=okIf zg9 (okIf zgy (zt))
theorem zao:zc Tryz.prog 72 Ko:=by
 refine wa (fn:=Tryz.f72) (c:=Tryz.f72.body.getD .skip) rfl rfl rfl (fun h=>by cases h) fun k hk O w0 σ0 Q hl0 hq=> ?_
 obtain⟨⟨n,m,d,c,e⟩,o,x,y⟩:=k
 obtain⟨h1,h2,h3⟩:=hk
 replace hq:=hq _ rfl
 simp only at h1 h2 h3 hq
 have fin:∀ r:List UInt8×Int,(if e≠0 then([],e) else o.op x y)=r→RetR Ko 3 Q [.str r.1] [.box [.ptr 1 0],.box [.str n,.str m,.str d,.str c,.int .i64 r.2],.box [.fn o.fn [] []]]:=by
  rintro r rfl
  refine RetR.keep [0,1,2] rfl rfl (by show ∀ j,j<3→_; decide) rfl hq ?_ ?_ rfl
  ·rfl
  ·exact⟨⟨⟨rfl,rfl⟩,trivial⟩,⟨rfl,rfl,rfl,rfl,⟨rfl,rfl⟩,trivial⟩,⟨rfl,trivial⟩,trivial⟩
 cases o with
 | add=>
  refine zb.run hmix zbf [] 400 (T:=.ite (!decide (e=0)) (.leaf (.ret [.str #[].toList] [.box [.ptr 1 0],.box [.str n,.str m,.str d,.str c,.int .i64 e],.box [.fn 48 [] []]])) (.ex (fun(x_1:List UInt8×List UInt8)=>eqL [AV.str x,AV.str y] [AV.str x_1.1,AV.str x_1.2]∧x_1.1.length<4611686018427387904∧x_1.2.length<4611686018427387904) fun n_1=>.all (fun(r:List UInt8×Int)=>r=addI n_1.1 n_1.2) fun n_2=>.leaf (.ret [.str n_2.1] [.box [.ptr 1 0],.box [.str n,.str m,.str d,.str c,.int .i64 n_2.2],.box [.fn 48 [] []]]))) (by kernel_rfl) ?_
  simp only [Tree.holds,zd]
  refine⟨fun h=> ?_,fun h=>⟨(x,y),⟨by simp,h1,h2⟩,⟨_,rfl⟩,?_⟩⟩
  ·have h:e≠0:=by simpa using h
   exact fin ([],e) (if_pos h)
  ·have h:e=0:=by simpa using h
   rintro _ rfl
   exact fin (addI x y) (if_neg (by simp [h]))
 | sub=>exact h3.elim
 | mul=>
  refine zb.run hmix zbf [] 400 (T:=.ite (!decide (e=0)) (.leaf (.ret [.str #[].toList] [.box [.ptr 1 0],.box [.str n,.str m,.str d,.str c,.int .i64 e],.box [.fn 46 [] []]])) (.ex (fun(x_1:List UInt8×List UInt8)=>eqL [AV.str x,AV.str y] [AV.str x_1.1,AV.str x_1.2]∧x_1.1.length<4611686018427387904∧x_1.2.length<4611686018427387904) fun n_1=>.all (fun(r:List UInt8×Int)=>r=mulI n_1.1 n_1.2) fun n_2=>.leaf (.ret [.str n_2.1] [.box [.ptr 1 0],.box [.str n,.str m,.str d,.str c,.int .i64 n_2.2],.box [.fn 46 [] []]]))) (by kernel_rfl) ?_
  simp only [Tree.holds,zd]
  refine⟨fun h=> ?_,fun h=>⟨(x,y),⟨by simp,h1,h2⟩,⟨_,rfl⟩,?_⟩⟩
  ·have h:e≠0:=by simpa using h
   exact fin ([],e) (if_pos h)
  ·have h:e=0:=by simpa using h
   rintro _ rfl
   exact fin (mulI x y) (if_neg (by simp [h]))
noncomputable def GMd:Nat→Option Ctr:=fun f=>if f=76 then some (XS) else none
theorem zhc:∀ g c,GMd g=some c→zc Tryz.prog g c:=okIf zdi (zt)
theorem ze1:zc Tryz.prog 47 U5:=by
 refine wa (fn:=Tryz.f47) (c:=Tryz.f47.body.getD .skip) rfl rfl rfl (fun h=>by cases h) fun k hk O w0 σ0 Q hl0 hq=> ?_
 obtain⟨⟨n,m,d,c,e⟩,x,y⟩:=k
 obtain⟨h1,h2⟩:=hk
 replace hq:=hq _ rfl
 simp only at h1 h2 hq
 have fin:∀ r:List UInt8×Int,(if e≠0 then([],e) else jH x y)=r→RetR U5 1 Q [.str r.1,.int .i64 r.2] [.box [.str n,.str m,.str d,.str c,.int .i64 e]]:=by
  rintro r rfl
  refine RetR.keep [0] rfl rfl (by show ∀ j,j<1→_; decide) rfl hq ?_ ?_ rfl
  ·exact⟨rfl,⟨rfl,rfl⟩,trivial⟩
  ·exact⟨⟨rfl,rfl,rfl,rfl,⟨rfl,rfl⟩,trivial⟩,trivial⟩
 refine zb.run hmix zhc [] 400 (T:=.ite (!decide (e=0)) (.leaf (.ret [.str #[].toList,.int .i64 e] [.box [.str n,.str m,.str d,.str c,.int .i64 e]])) (.ex (fun(x_1:List UInt8×List UInt8)=>eqL [AV.str x,AV.str y] [AV.str x_1.1,AV.str x_1.2]∧x_1.1.length<4611686018427387904∧x_1.2.length<4611686018427387904) fun n_1=>.all (fun(r:List UInt8×Int)=>r=jH n_1.1 n_1.2) fun n_2=>.leaf (.ret [.str n_2.1,.int .i64 n_2.2] [.box [.str n,.str m,.str d,.str c,.int .i64 e]]))) (by kernel_rfl) ?_
 simp only [Tree.holds,zd]
 refine⟨fun h=> ?_,fun h=>⟨(x,y),⟨by simp,h1,h2⟩,⟨_,rfl⟩,?_⟩⟩
 ·have h:e≠0:=by simpa using h
  exact fin ([],e) (if_pos h)
 ·have h:e=0:=by simpa using h
  rintro _ rfl
  exact fin (jH x y) (if_neg (by simp [h]))
def Pst(a b:List UInt8):Nat→Pr
 | 0=>⟨[],[],[],[],0⟩
 | 1=>if errR a≠0 then⟨[],[],[],[],errR a⟩ else⟨numR a,[],denR a,[],0⟩
 | _=>qX a b
def SBq(a b:List UInt8)(i:Nat):KV:=[(5,.ptr 0 0),(12,.agg [.str a,.str b]),(13,.int .i64 (i:Int))]
noncomputable def GBq:Nat→Option Ctr:=fun f=>if f=71 then some (zag) else none
theorem J2:∀ g c,GBq g=some c→zc Tryz.prog g c:=okIf UP (zt)
theorem za4:zc Tryz.prog 44 zcd:=by
 refine wa (fn:=Tryz.f44) (c:=Tryz.f44.body.getD .skip) rfl rfl rfl (fun h=>by cases h) fun p hp O w0 σ0 Q hl0 hq=> ?_
 obtain rfl:σ0=[]:=List.length_eq_zero_iff.1 hl0
 obtain⟨a,b⟩:=p
 obtain⟨h1,h2⟩:=hp
 replace hq:=hq _ rfl
 simp only at h1 h2 hq
 refine zb.run hmix J2 [5,12,13] 400 (T:=.leaf (.loop (Prod.fst (lps K44 0)) (Prod.snd (lps K44 0)) [(5,.ptr 0 0),(12,.agg [.str a,.str b]),(13,.int .i64 0)] [.box [.str #[].toList,.str #[].toList,.str #[].toList,.str #[].toList,.int .i64 0]])) (by kernel_rfl) ?_
 simp only [Tree.holds,zd]
 refine zb.loop (ι:={i:Nat // i≤2}) (fun i=>SBq a b i.1) (fun i=>[(Pst a b i.1).box]) (fun i=>2 - i.1) ⟨0,Nat.zero_le _⟩ 0 ?_ ?_ (by kernel_rfl)
 ·exact⟨by simp [SBq],by simp [Pst,Pr.box],by kernel_rfl,Nat.zero_le _⟩
 rintro⟨i,hil⟩
 match i,hil with
 | 0,_=>
  refine zb.run hmix J2 [5,12,13] 400 (T:=.ite true (.side ((0:Int)≤0∧(0:Int)<2∧1≤List.length [AV.str a,AV.str b]) (.ite true (.ex (fun(x:List UInt8)=>eqL [AV.str a] [AV.str x]∧x.length<4611686018427387904) fun n=>.all (fun(r:List UInt8×List UInt8×Int)=>r=if errR n=0 then(numR n,denR n,(0:Int)) else([],[],errR n)) fun n=>.side ((0:Int)≤0∧(0:Int)<2) (.side ((0:Int)≤0∧(0:Int)<2) (.side (inR .i64 (1:Int)) (.leaf (.back 0 [(5,.ptr 0 0),(12,.agg [.str a,.str b]),(13,.int .i64 1)] [.box [.str n.1,.str [],.str n.2.1,.str [],.int .i64 n.2.2]]))))) (.side (inR .i64 (1:Int)) (.leaf (.back 0 [(5,.ptr 0 0),(12,.agg [.str a,.str b]),(13,.int .i64 1)] [.box [.str [],.str [],.str [],.str [],.int .i64 0]]))))) (.leaf (.ret [.ptr 0 0] [.box [.str [],.str [],.str [],.str [],.int .i64 0]]))) (by kernel_rfl) ?_
  simp only [Tree.holds,zd,inR,lo,hi,Int.toNat_natCast]
  refine⟨fun _=>⟨by simp,fun _=>⟨fun _=>⟨a,⟨by simp,h1⟩,⟨_,rfl⟩,?_⟩,fun h=>(by cases h)⟩⟩,fun h=>(by cases h)⟩
  intro r hr
  refine⟨by decide,fun _=>⟨by decide,fun _=>⟨by decide,fun _=> ?_⟩⟩⟩
  rw [if_pos trivial]
  refine⟨⟨1,by decide⟩,by decide,by simp [SBq],?_,by kernel_rfl,Nat.zero_le _⟩
  have e:Pst a b 1=⟨r.1,[],r.2.1,[],r.2.2⟩:=by
   rw [hr]
   by_cases h:errR a=0
   ·simp [Pst,h]
   ·simp [Pst,h]
  show eqH _ [(Pst a b 1).box]
  rw [e]
  simp [Pr.box]
 | 1,_=>
  obtain⟨⟨n,m,d,c,e⟩,hp⟩:∃ p,Pst a b 1=p:=⟨_,rfl⟩
  simp only [hp]
  refine zb.run hmix J2 [5,12,13] 400 (T:=.ite true (.side ((0:Int)≤1∧(1:Int)<2∧2≤List.length [AV.str a,AV.str b]) (.ite (decide (e=0)) (.ex (fun(x:List UInt8)=>eqL [AV.str b] [AV.str x]∧x.length<4611686018427387904) fun n_1=>.all (fun(r:List UInt8×List UInt8×Int)=>r=if errR n_1=0 then(numR n_1,denR n_1,(0:Int)) else([],[],errR n_1)) fun n_2=>.side ((0:Int)≤1∧(1:Int)<2) (.side ((0:Int)≤1∧(1:Int)<2) (.side (inR .i64 (2:Int)) (.leaf (.back 0 [(5,.ptr 0 0),(12,.agg [.str a,.str b]),(13,.int .i64 2)] [.box [.str n,.str n_2.1,.str d,.str n_2.2.1,.int .i64 n_2.2.2]]))))) (.side (inR .i64 (2:Int)) (.leaf (.back 0 [(5,.ptr 0 0),(12,.agg [.str a,.str b]),(13,.int .i64 2)] [.box [.str n,.str m,.str d,.str c,.int .i64 e]]))))) (.leaf (.ret [.ptr 0 0] [.box [.str n,.str m,.str d,.str c,.int .i64 e]]))) (by kernel_rfl) ?_
  simp only [Tree.holds,zd,inR,lo,hi,Int.toNat_natCast]
  refine⟨fun _=>⟨by simp,fun _=>⟨fun h=>⟨b,⟨by simp,h2⟩,⟨_,rfl⟩,?_⟩,fun h=>⟨by decide,fun _=> ?_⟩⟩⟩,fun h=>(by cases h)⟩
  ·have h:e=0:=by simpa using h
   intro r hr
   refine⟨by decide,fun _=>⟨by decide,fun _=>⟨by decide,fun _=> ?_⟩⟩⟩
   rw [if_pos trivial]
   refine⟨⟨2,by decide⟩,by decide,by simp [SBq],?_,by kernel_rfl,Nat.zero_le _⟩
   have e2:Pst a b 2=⟨n,r.1,d,r.2.1,r.2.2⟩:=by
    rw [hr]
    by_cases ha:errR a=0
    ·simp only [Pst,ha] at hp
     simp at hp
     obtain⟨rfl,rfl,rfl,rfl,_⟩:=hp
     by_cases hb:errR b=0
     ·simp [Pst,qX,ha,hb]
     ·simp [Pst,qX,ha,hb]
    ·simp only [Pst] at hp
     rw [if_pos ha] at hp
     cases hp
     exact absurd h ha
   show eqH _ [(Pst a b 2).box]
   rw [e2]
   simp [Pr.box]
  ·have h:e≠0:=by simpa using h
   rw [if_pos trivial]
   refine⟨⟨2,by decide⟩,by decide,by simp [SBq],?_,by kernel_rfl,Nat.zero_le _⟩
   have e2:Pst a b 2=⟨n,m,d,c,e⟩:=by
    by_cases ha:errR a=0
    ·simp only [Pst,ha] at hp
     simp at hp
     exact absurd hp.2.2.2.2.symm h
    ·rw [← hp]
     simp only [Pst,qX]
     rw [if_pos ha,if_pos ha]
   show eqH _ [(Pst a b 2).box]
   rw [e2]
   simp [Pr.box]
 | 2,_=>
  obtain⟨⟨n,m,d,c,e⟩,hp⟩:∃ p,Pst a b 2=p:=⟨_,rfl⟩
  simp only [hp]
  refine zb.run hmix J2 [5,12,13] 400 (T:=.ite false (.side ((0:Int)≤2∧(2:Int)<2∧3≤List.length [AV.str a,AV.str b]) .fail) (.leaf (.ret [.ptr 0 0] [.box [.str n,.str m,.str d,.str c,.int .i64 e]]))) (by kernel_rfl) ?_
  simp only [Tree.holds,zd,inR,lo,hi,Int.toNat_natCast]
  refine⟨fun h=>(by cases h),fun _=> ?_⟩
  have hp:qX a b=⟨n,m,d,c,e⟩:=hp
  rw [hp] at hq
  refine RetR.out1 0 (by show 0<1; decide) hq (fun h=>by cases h) ?_ ?_
  ·exact⟨rfl,rfl⟩
  ·exact⟨rfl,rfl,rfl,rfl,⟨rfl,rfl⟩,trivial⟩
theorem k9(a b:List UInt8):((qX a b).e≠0∧je a b=(qX a b).e)∨((qX a b).e=0∧errR a=0∧errR b=0∧(qX a b).n=numR a∧(qX a b).m=numR b∧(qX a b).d=denR a∧(qX a b).c=denR b):=by
 unfold qX
 by_cases ha:errR a=0
 ·rw [if_neg (by rw [ha]; simp)]
  by_cases hb:errR b=0
  ·rw [if_neg (by rw [hb]; simp)]
   exact .inr ⟨rfl,ha,hb,rfl,rfl,rfl,rfl⟩
  ·rw [if_pos hb]
   exact .inl ⟨hb,by unfold je; rw [if_pos ha]⟩
 ·rw [if_pos ha]
  exact .inl ⟨ha,by unfold je; rw [if_neg ha]⟩
theorem yU(a b:List UInt8):(qX a b).n.length≤a.length∧(qX a b).m.length≤b.length∧(qX a b).d.length≤a.length+1∧(qX a b).c.length≤b.length+1:=by
 have h1:=Wk a
 have h2:=Wk b
 have h3:=VM a
 have h4:=VM b
 unfold qX
 split
 ·simp
 ·split
  ·simp; omega
  ·simp only; omega
theorem kx_l(x y:List UInt8):eqL [.str x,.str y,.ptr 0 0,.ptr 2 0] [.str x,.str y,.ptr 0 0,.ptr 2 0]:=⟨rfl,rfl,⟨rfl,rfl⟩,⟨rfl,rfl⟩,trivial⟩
theorem kx_b(p:Pr):eqH [.box [.str p.n,.str p.m,.str p.d,.str p.c,.int .i64 p.e]] [.box [.str p.n,.str p.m,.str p.d,.str p.c,.int .i64 p.e]]:=⟨⟨rfl,rfl,rfl,rfl,⟨rfl,rfl⟩,trivial⟩,trivial⟩
theorem kx_h(p:Pr)(f:Nat):eqH [.box [.ptr 1 0],.box [.str p.n,.str p.m,.str p.d,.str p.c,.int .i64 p.e],.box [.fn f [] []]] [.box [.ptr 1 0],.box [.str p.n,.str p.m,.str p.d,.str p.c,.int .i64 p.e],.box [.fn f [] []]]:=⟨⟨⟨rfl,rfl⟩,trivial⟩,(kx_b p).1,⟨rfl,trivial⟩,trivial⟩
theorem kx_k(f:Nat):eqL [.ptr 0 0,.fn f [] []] [.ptr 0 0,.fn f [] []]:=⟨⟨rfl,rfl⟩,rfl,trivial⟩
theorem kx_m(x y:List UInt8):eqL [.ptr 0 0,.str x,.str y] [.ptr 0 0,.str x,.str y]:=⟨⟨rfl,rfl⟩,rfl,rfl,trivial⟩
theorem j2(p:Pr)(o:QOp)(x y:List UInt8){r:List UInt8×Int}(h:r=if p.e≠0 then([],p.e) else o.op x y):r.1.length≤1001:=by
 rw [h]
 refine zea ?_
 cases o
 ·exact zc7 x y
 ·exact zbv x y
 ·exact zc4 x y
noncomputable def GQA:Nat→Option Ctr:=fun f=>if f=44 then some (zcd) else if f=45 then some (zbu) else if f=72 then some (Ko) else if f=47 then some (U5) else if f=84 then some (zf4) else none
theorem KO:∀ g c,GQA g=some c→zc Tryz.prog g c:=okIf za4 (okIf zci (okIf zao (okIf ze1 (okIf zed (zt)))))
def zfp:Ctr:=ctrP true (fun p:List UInt8×List UInt8=>[.str p.1,.str p.2]) (fun p=>p.1.length<2^61∧p.2.length<2^61) (fun p r=>r=addR p.1 p.2) (fun _ r=>(.tup [.str r.1,.int .i64 r.2],[]))
def zfd:Ctr:=ctrP true (fun p:List UInt8×List UInt8=>[.str p.1,.str p.2]) (fun p=>p.1.length<2^61∧p.2.length<2^61) (fun p r=>r=mulR p.1 p.2) (fun _ r=>(.tup [.str r.1,.int .i64 r.2],[]))
def zfw:Ctr:=ctrP true (fun p:List UInt8×List UInt8=>[.str p.1,.str p.2]) (fun p=>p.1.length<2^61∧p.2.length<2^61) (fun p r=>r=cmpR p.1 p.2) (fun _ r=>(.tup [.int .i64 r.1,.int .i64 r.2],[]))
theorem zeo:zc Tryz.prog 12 zfp:=by
 refine ze (fn:=Tryz.f12) (c:=Tryz.f12.body.getD .skip) rfl rfl rfl fun p hp O w0 Q hq=> ?_
 obtain⟨a,b⟩:=p
 obtain⟨h1,h2⟩:=hp
 replace hq:=hq _ rfl
 simp only at h1 h2 hq
 refine zb.run hmix KO [] 400 (T:=.ex (fun(x:List UInt8×List UInt8)=>eqL [AV.str a,AV.str b] [AV.str x.1,AV.str x.2]∧eqH [] []∧0=0∧x.1.length<4611686018427387904∧x.2.length<4611686018427387904) fun n=>.all (fun(r:Pr)=>r=qX n.1 n.2) fun n=>.ex (fun(x:Pr×QOp)=>eqL [AV.ptr 0 0,AV.fn 46 [] []] [AV.ptr 0 0,AV.fn (QOp.fn x.2) [] []]∧eqH [.box [AV.str n.n,AV.str n.m,AV.str n.d,AV.str n.c,AV.int .i64 n.e]] [.box [AV.str x.1.n,AV.str x.1.m,AV.str x.1.d,AV.str x.1.c,AV.int .i64 x.1.e]]∧1=1∧True) fun n=>.all (fun(x:Unit)=>True) fun n_1=>.ex (fun(x:Pr×QOp)=>eqL [AV.ptr 0 0,AV.fn 48 [] []] [AV.ptr 0 0,AV.fn (QOp.fn x.2) [] []]∧eqH [.box [AV.str n.1.n,AV.str n.1.m,AV.str n.1.d,AV.str n.1.c,AV.int .i64 n.1.e]] [.box [AV.str x.1.n,AV.str x.1.m,AV.str x.1.d,AV.str x.1.c,AV.int .i64 x.1.e]]∧1=1∧True) fun n_2=>.all (fun(x:Unit)=>True) fun n_3=>.side ((0:Int)≤0∧(0:Int)<2) (.side ((0:Int)≤1∧(1:Int)<2) (.side ((0:Int)≤1∧(1:Int)<2) (.side ((0:Int)≤0∧(0:Int)<2) (.side ((0:Int)≤0∧(0:Int)<2) (.side ((0:Int)≤1∧(1:Int)<2) (.ex (fun(x:KX)=>eqL [AV.str n_2.1.n,AV.str n_2.1.c,AV.ptr 0 0,AV.ptr 2 0] [AV.str x.x,AV.str x.y,AV.ptr 0 0,AV.ptr 2 0]∧eqH [.box [AV.ptr 1 0],.box [AV.str n_2.1.n,AV.str n_2.1.m,AV.str n_2.1.d,AV.str n_2.1.c,AV.int .i64 n_2.1.e],.box [AV.fn (QOp.fn n.2) [] []]] [.box [AV.ptr 1 0],.box [AV.str x.p.n,AV.str x.p.m,AV.str x.p.d,AV.str x.p.c,AV.int .i64 x.p.e],.box [AV.fn (QOp.fn x.o) [] []]]∧3=3∧x.x.length<4611686018427387904∧x.y.length<4611686018427387904∧QOp.has x.o) fun n=>.all (fun(r:List UInt8×Int)=>r=if Pr.e n.p≠0 then([],Pr.e n.p) else QOp.op n.o n.x n.y) fun n_4=>.side (Pr.c (Pr.err n.p n_4.2)=Pr.c n_2.1) (.side (Pr.d (Pr.err n.p n_4.2)=Pr.d n_2.1) (.side (Pr.d (Pr.err n.p n_4.2)=Pr.d n_2.1) (.side (Pr.m (Pr.err n.p n_4.2)=Pr.m n_2.1) (.ex (fun(x:KX)=>eqL [AV.str n_2.1.m,AV.str n_2.1.d,AV.ptr 0 0,AV.ptr 2 0] [AV.str x.x,AV.str x.y,AV.ptr 0 0,AV.ptr 2 0]∧eqH [.box [AV.ptr 1 0],.box [AV.str (Pr.n (Pr.err n.p n_4.2)),AV.str (Pr.m (Pr.err n.p n_4.2)),AV.str (Pr.d (Pr.err n.p n_4.2)),AV.str (Pr.c (Pr.err n.p n_4.2)),AV.int .i64 (Pr.e (Pr.err n.p n_4.2))],.box [AV.fn (QOp.fn n.o) [] []]] [.box [AV.ptr 1 0],.box [AV.str x.p.n,AV.str x.p.m,AV.str x.p.d,AV.str x.p.c,AV.int .i64 x.p.e],.box [AV.fn (QOp.fn x.o) [] []]]∧3=3∧x.x.length<4611686018427387904∧x.y.length<4611686018427387904∧QOp.has x.o) fun n=>.all (fun(r:List UInt8×Int)=>r=if Pr.e n.p≠0 then([],Pr.e n.p) else QOp.op n.o n.x n.y) fun n_5=>.side (Pr.c (Pr.err n.p n_5.2)=Pr.c n_2.1) (.side (Pr.d (Pr.err n.p n_5.2)=Pr.d n_2.1) (.ex (fun(x:KX)=>eqL [AV.str n_4.1,AV.str n_5.1,AV.ptr 0 0,AV.ptr 2 0] [AV.str x.x,AV.str x.y,AV.ptr 0 0,AV.ptr 2 0]∧eqH [.box [AV.ptr 1 0],.box [AV.str (Pr.n (Pr.err n.p n_5.2)),AV.str (Pr.m (Pr.err n.p n_5.2)),AV.str (Pr.d (Pr.err n.p n_5.2)),AV.str (Pr.c (Pr.err n.p n_5.2)),AV.int .i64 (Pr.e (Pr.err n.p n_5.2))],.box [AV.fn (QOp.fn n_2.2) [] []]] [.box [AV.ptr 1 0],.box [AV.str x.p.n,AV.str x.p.m,AV.str x.p.d,AV.str x.p.c,AV.int .i64 x.p.e],.box [AV.fn (QOp.fn x.o) [] []]]∧3=3∧x.x.length<4611686018427387904∧x.y.length<4611686018427387904∧QOp.has x.o) fun n_6=>.all (fun(r:List UInt8×Int)=>r=if Pr.e n_6.p≠0 then([],Pr.e n_6.p) else QOp.op n_6.o n_6.x n_6.y) fun n_7=>.side (Pr.c (Pr.err n_6.p n_7.2)=Pr.c n_2.1) (.side (Pr.d (Pr.err n_6.p n_7.2)=Pr.d n_2.1) (.ex (fun(x:KX)=>eqL [AV.str n_2.1.d,AV.str n_2.1.c,AV.ptr 0 0,AV.ptr 2 0] [AV.str x.x,AV.str x.y,AV.ptr 0 0,AV.ptr 2 0]∧eqH [.box [AV.ptr 1 0],.box [AV.str (Pr.n (Pr.err n_6.p n_7.2)),AV.str (Pr.m (Pr.err n_6.p n_7.2)),AV.str (Pr.d (Pr.err n_6.p n_7.2)),AV.str (Pr.c (Pr.err n_6.p n_7.2)),AV.int .i64 (Pr.e (Pr.err n_6.p n_7.2))],.box [AV.fn (QOp.fn n.o) [] []]] [.box [AV.ptr 1 0],.box [AV.str x.p.n,AV.str x.p.m,AV.str x.p.d,AV.str x.p.c,AV.int .i64 x.p.e],.box [AV.fn (QOp.fn x.o) [] []]]∧3=3∧x.x.length<4611686018427387904∧x.y.length<4611686018427387904∧QOp.has x.o) fun n=>.all (fun(r:List UInt8×Int)=>r=if Pr.e n.p≠0 then([],Pr.e n.p) else QOp.op n.o n.x n.y) fun n_8=>.ex (fun(x:Pr×List UInt8×List UInt8)=>eqL [AV.ptr 0 0,AV.str n_7.1,AV.str n_8.1] [AV.ptr 0 0,AV.str x.2.1,AV.str x.2.2]∧eqH [.box [AV.str (Pr.n (Pr.err n.p n_8.2)),AV.str (Pr.m (Pr.err n.p n_8.2)),AV.str (Pr.d (Pr.err n.p n_8.2)),AV.str (Pr.c (Pr.err n.p n_8.2)),AV.int .i64 (Pr.e (Pr.err n.p n_8.2))]] [.box [AV.str x.1.n,AV.str x.1.m,AV.str x.1.d,AV.str x.1.c,AV.int .i64 x.1.e]]∧1=1∧x.2.1.length<4611686018427387904∧x.2.2.length<4611686018427387904) fun n_9=>.all (fun(r:List UInt8×Int)=>r=if Pr.e n_9.1≠0 then([],Pr.e n_9.1) else jH n_9.2.1 n_9.2.2) fun n_10=>.leaf (.ret [.str n_10.1,.int .i64 n_10.2] [.box [.str n_9.1.n,.str n_9.1.m,.str n_9.1.d,.str n_9.1.c,.int .i64 n_9.1.e],.box [.ptr 0 0],.box [.fn (QOp.fn n.o) [] []],.box [.ptr 0 0],.box [.fn (QOp.fn n_6.o) [] []]])))))))))))))))) (by kernel_rfl) ?_
 simp only [Tree.holds,zd]
 refine⟨(a,b),⟨⟨rfl,rfl,trivial⟩,trivial,by trivial,by show a.length<_; omega,by show b.length<_; omega⟩,⟨_,rfl⟩,?_⟩
 intro p hp
 have hc:=k9 a b
 obtain⟨l1,l2,l3,l4⟩:=yU a b
 rw [← hp] at hc l1 l2 l3 l4
 refine⟨(p,.mul),⟨kx_k _,kx_b p,by trivial,trivial⟩,⟨(),trivial⟩,?_⟩
 intro _ _
 refine⟨(p,.add),⟨kx_k _,kx_b p,by trivial,trivial⟩,⟨(),trivial⟩,?_⟩
 intro _ _
 iterate 6 refine⟨by decide,fun _=> ?_⟩
 refine⟨⟨p,.mul,p.n,p.c⟩,⟨kx_l _ _,kx_h (p) _,by trivial,by show(p.n).length<_; omega,by show(p.c).length<_; omega,by trivial⟩,⟨_,rfl⟩,?_⟩
 intro r1 hr1
 have kr1:=j2 _ _ _ _ hr1
 iterate 4 refine⟨rfl,fun _=> ?_⟩
 refine⟨⟨p.err r1.2,.mul,p.m,p.d⟩,⟨kx_l _ _,kx_h (p.err r1.2) _,by trivial,by show(p.m).length<_; omega,by show(p.d).length<_; omega,by trivial⟩,⟨_,rfl⟩,?_⟩
 intro r2 hr2
 have kr2:=j2 _ _ _ _ hr2
 iterate 2 refine⟨rfl,fun _=> ?_⟩
 refine⟨⟨(p.err r1.2).err r2.2,.add,r1.1,r2.1⟩,⟨kx_l _ _,kx_h ((p.err r1.2).err r2.2) _,by trivial,by show(r1.1).length<_; omega,by show(r2.1).length<_; omega,by trivial⟩,⟨_,rfl⟩,?_⟩
 intro r3 hr3
 have kr3:=j2 _ _ _ _ hr3
 iterate 2 refine⟨rfl,fun _=> ?_⟩
 refine⟨⟨((p.err r1.2).err r2.2).err r3.2,.mul,p.d,p.c⟩,⟨kx_l _ _,kx_h (((p.err r1.2).err r2.2).err r3.2) _,by trivial,by show(p.d).length<_; omega,by show(p.c).length<_; omega,by trivial⟩,⟨_,rfl⟩,?_⟩
 intro r4 hr4
 have kr4:=j2 _ _ _ _ hr4
 refine⟨((((p.err r1.2).err r2.2).err r3.2).err r4.2,r3.1,r4.1),⟨kx_m _ _,kx_b _,by trivial,by show(r3.1).length<_; omega,by show(r4.1).length<_; omega⟩,⟨_,rfl⟩,?_⟩
 intro r5 hr5
 have hfin:=Vq hc (fun {s t} =>za7 (s:=s) (t:=t)) hr1 hr2 hr3 hr4 hr5
 have e:r5=addR a b:=hfin
 rw [← e] at hq
 exact RetR.scal hq rfl (by simp [resV])
theorem zde:zc Tryz.prog 11 zfd:=by
 refine ze (fn:=Tryz.f11) (c:=Tryz.f11.body.getD .skip) rfl rfl rfl fun p hp O w0 Q hq=> ?_
 obtain⟨a,b⟩:=p
 obtain⟨h1,h2⟩:=hp
 replace hq:=hq _ rfl
 simp only at h1 h2 hq
 refine zb.run hmix KO [] 400 (T:=.ex (fun(x:List UInt8×List UInt8)=>eqL [AV.str a,AV.str b] [AV.str x.1,AV.str x.2]∧eqH [] []∧0=0∧x.1.length<4611686018427387904∧x.2.length<4611686018427387904) fun n=>.all (fun(r:Pr)=>r=qX n.1 n.2) fun n=>.ex (fun(x:Pr×QOp)=>eqL [AV.ptr 0 0,AV.fn 46 [] []] [AV.ptr 0 0,AV.fn (QOp.fn x.2) [] []]∧eqH [.box [AV.str n.n,AV.str n.m,AV.str n.d,AV.str n.c,AV.int .i64 n.e]] [.box [AV.str x.1.n,AV.str x.1.m,AV.str x.1.d,AV.str x.1.c,AV.int .i64 x.1.e]]∧1=1∧True) fun n=>.all (fun(x:Unit)=>True) fun n_1=>.side ((0:Int)≤0∧(0:Int)<2) (.side ((0:Int)≤1∧(1:Int)<2) (.side ((0:Int)≤0∧(0:Int)<2) (.side ((0:Int)≤1∧(1:Int)<2) (.ex (fun(x:KX)=>eqL [AV.str n.1.n,AV.str n.1.m,AV.ptr 0 0,AV.ptr 2 0] [AV.str x.x,AV.str x.y,AV.ptr 0 0,AV.ptr 2 0]∧eqH [.box [AV.ptr 1 0],.box [AV.str n.1.n,AV.str n.1.m,AV.str n.1.d,AV.str n.1.c,AV.int .i64 n.1.e],.box [AV.fn (QOp.fn n.2) [] []]] [.box [AV.ptr 1 0],.box [AV.str x.p.n,AV.str x.p.m,AV.str x.p.d,AV.str x.p.c,AV.int .i64 x.p.e],.box [AV.fn (QOp.fn x.o) [] []]]∧3=3∧x.x.length<4611686018427387904∧x.y.length<4611686018427387904∧QOp.has x.o) fun n_2=>.all (fun(r:List UInt8×Int)=>r=if Pr.e n_2.p≠0 then([],Pr.e n_2.p) else QOp.op n_2.o n_2.x n_2.y) fun n_3=>.side (Pr.c (Pr.err n_2.p n_3.2)=Pr.c n.1) (.side (Pr.d (Pr.err n_2.p n_3.2)=Pr.d n.1) (.ex (fun(x:KX)=>eqL [AV.str n.1.d,AV.str n.1.c,AV.ptr 0 0,AV.ptr 2 0] [AV.str x.x,AV.str x.y,AV.ptr 0 0,AV.ptr 2 0]∧eqH [.box [AV.ptr 1 0],.box [AV.str (Pr.n (Pr.err n_2.p n_3.2)),AV.str (Pr.m (Pr.err n_2.p n_3.2)),AV.str (Pr.d (Pr.err n_2.p n_3.2)),AV.str (Pr.c (Pr.err n_2.p n_3.2)),AV.int .i64 (Pr.e (Pr.err n_2.p n_3.2))],.box [AV.fn (QOp.fn n_2.o) [] []]] [.box [AV.ptr 1 0],.box [AV.str x.p.n,AV.str x.p.m,AV.str x.p.d,AV.str x.p.c,AV.int .i64 x.p.e],.box [AV.fn (QOp.fn x.o) [] []]]∧3=3∧x.x.length<4611686018427387904∧x.y.length<4611686018427387904∧QOp.has x.o) fun n=>.all (fun(r:List UInt8×Int)=>r=if Pr.e n.p≠0 then([],Pr.e n.p) else QOp.op n.o n.x n.y) fun n_4=>.ex (fun(x:Pr×List UInt8×List UInt8)=>eqL [AV.ptr 0 0,AV.str n_3.1,AV.str n_4.1] [AV.ptr 0 0,AV.str x.2.1,AV.str x.2.2]∧eqH [.box [AV.str (Pr.n (Pr.err n.p n_4.2)),AV.str (Pr.m (Pr.err n.p n_4.2)),AV.str (Pr.d (Pr.err n.p n_4.2)),AV.str (Pr.c (Pr.err n.p n_4.2)),AV.int .i64 (Pr.e (Pr.err n.p n_4.2))]] [.box [AV.str x.1.n,AV.str x.1.m,AV.str x.1.d,AV.str x.1.c,AV.int .i64 x.1.e]]∧1=1∧x.2.1.length<4611686018427387904∧x.2.2.length<4611686018427387904) fun n_5=>.all (fun(r:List UInt8×Int)=>r=if Pr.e n_5.1≠0 then([],Pr.e n_5.1) else jH n_5.2.1 n_5.2.2) fun n_6=>.leaf (.ret [.str n_6.1,.int .i64 n_6.2] [.box [.str n_5.1.n,.str n_5.1.m,.str n_5.1.d,.str n_5.1.c,.int .i64 n_5.1.e],.box [.ptr 0 0],.box [.fn (QOp.fn n.o) [] []]])))))))) (by kernel_rfl) ?_
 simp only [Tree.holds,zd]
 refine⟨(a,b),⟨⟨rfl,rfl,trivial⟩,trivial,by trivial,by show a.length<_; omega,by show b.length<_; omega⟩,⟨_,rfl⟩,?_⟩
 intro p hp
 have hc:=k9 a b
 obtain⟨l1,l2,l3,l4⟩:=yU a b
 rw [← hp] at hc l1 l2 l3 l4
 refine⟨(p,.mul),⟨kx_k _,kx_b p,by trivial,trivial⟩,⟨(),trivial⟩,?_⟩
 intro _ _
 iterate 4 refine⟨by decide,fun _=> ?_⟩
 refine⟨⟨p,.mul,p.n,p.m⟩,⟨kx_l _ _,kx_h (p) _,by trivial,by show(p.n).length<_; omega,by show(p.m).length<_; omega,by trivial⟩,⟨_,rfl⟩,?_⟩
 intro r1 hr1
 have kr1:=j2 _ _ _ _ hr1
 iterate 2 refine⟨rfl,fun _=> ?_⟩
 refine⟨⟨p.err r1.2,.mul,p.d,p.c⟩,⟨kx_l _ _,kx_h (p.err r1.2) _,by trivial,by show(p.d).length<_; omega,by show(p.c).length<_; omega,by trivial⟩,⟨_,rfl⟩,?_⟩
 intro r2 hr2
 have kr2:=j2 _ _ _ _ hr2
 refine⟨((p.err r1.2).err r2.2,r1.1,r2.1),⟨kx_m _ _,kx_b _,by trivial,by show(r1.1).length<_; omega,by show(r2.1).length<_; omega⟩,⟨_,rfl⟩,?_⟩
 intro r3 hr3
 have hv:errR a=0→errR b=0→zx p.n p.m=0∧zx p.d p.c=0:=by
  intro ha hb
  obtain⟨a1,a2,_⟩:=q5 ha
  obtain⟨b1,b2,_⟩:=q5 hb
  rcases hc with ⟨g1,g2⟩ | ⟨_,_,_,g1,g2,g3,g4⟩
  ·exact absurd g2 (by unfold je; rw [if_pos ha,hb]; exact fun h=>g1 h.symm)
  ·rw [g1,g2,g3,g4]; exact⟨zn.2 ⟨a1,b1⟩,zn.2 ⟨a2,b2⟩⟩
 have hfin:=Uf hc hr1 hr2 hr3 hv
 have e:r3=mulR a b:=by
  rw [hfin]
  unfold mulR
  rcases hc with ⟨g1,g2⟩ | ⟨_,_,_,g1,g2,g3,g4⟩
  ·rw [if_pos (by rw [g2]; exact g1),if_pos (by rw [g2]; exact g1)]
  ·rw [g1,g2,g3,g4]
 rw [← e] at hq
 exact RetR.scal hq rfl (by simp [resV])
theorem zex:zc Tryz.prog 57 zfw:=by
 refine ze (fn:=Tryz.f57) (c:=Tryz.f57.body.getD .skip) rfl rfl rfl fun p hp O w0 Q hq=> ?_
 obtain⟨a,b⟩:=p
 obtain⟨h1,h2⟩:=hp
 replace hq:=hq _ rfl
 simp only at h1 h2 hq
 refine zb.run hmix KO [] 400 (T:=.ex (fun(x:List UInt8×List UInt8)=>eqL [AV.str a,AV.str b] [AV.str x.1,AV.str x.2]∧eqH [] []∧0=0∧x.1.length<4611686018427387904∧x.2.length<4611686018427387904) fun n=>.all (fun(r:Pr)=>r=qX n.1 n.2) fun n=>.ex (fun(x:Pr×QOp)=>eqL [AV.ptr 0 0,AV.fn 46 [] []] [AV.ptr 0 0,AV.fn (QOp.fn x.2) [] []]∧eqH [.box [AV.str n.n,AV.str n.m,AV.str n.d,AV.str n.c,AV.int .i64 n.e]] [.box [AV.str x.1.n,AV.str x.1.m,AV.str x.1.d,AV.str x.1.c,AV.int .i64 x.1.e]]∧1=1∧True) fun n=>.all (fun(x:Unit)=>True) fun n_1=>.side ((0:Int)≤0∧(0:Int)<2) (.side ((0:Int)≤1∧(1:Int)<2) (.side ((0:Int)≤1∧(1:Int)<2) (.side ((0:Int)≤0∧(0:Int)<2) (.ex (fun(x:KX)=>eqL [AV.str n.1.n,AV.str n.1.c,AV.ptr 0 0,AV.ptr 2 0] [AV.str x.x,AV.str x.y,AV.ptr 0 0,AV.ptr 2 0]∧eqH [.box [AV.ptr 1 0],.box [AV.str n.1.n,AV.str n.1.m,AV.str n.1.d,AV.str n.1.c,AV.int .i64 n.1.e],.box [AV.fn (QOp.fn n.2) [] []]] [.box [AV.ptr 1 0],.box [AV.str x.p.n,AV.str x.p.m,AV.str x.p.d,AV.str x.p.c,AV.int .i64 x.p.e],.box [AV.fn (QOp.fn x.o) [] []]]∧3=3∧x.x.length<4611686018427387904∧x.y.length<4611686018427387904∧QOp.has x.o) fun n_2=>.all (fun(r:List UInt8×Int)=>r=if Pr.e n_2.p≠0 then([],Pr.e n_2.p) else QOp.op n_2.o n_2.x n_2.y) fun n_3=>.side (Pr.d (Pr.err n_2.p n_3.2)=Pr.d n.1) (.side (Pr.m (Pr.err n_2.p n_3.2)=Pr.m n.1) (.ex (fun(x:KX)=>eqL [AV.str n.1.m,AV.str n.1.d,AV.ptr 0 0,AV.ptr 2 0] [AV.str x.x,AV.str x.y,AV.ptr 0 0,AV.ptr 2 0]∧eqH [.box [AV.ptr 1 0],.box [AV.str (Pr.n (Pr.err n_2.p n_3.2)),AV.str (Pr.m (Pr.err n_2.p n_3.2)),AV.str (Pr.d (Pr.err n_2.p n_3.2)),AV.str (Pr.c (Pr.err n_2.p n_3.2)),AV.int .i64 (Pr.e (Pr.err n_2.p n_3.2))],.box [AV.fn (QOp.fn n_2.o) [] []]] [.box [AV.ptr 1 0],.box [AV.str x.p.n,AV.str x.p.m,AV.str x.p.d,AV.str x.p.c,AV.int .i64 x.p.e],.box [AV.fn (QOp.fn x.o) [] []]]∧3=3∧x.x.length<4611686018427387904∧x.y.length<4611686018427387904∧QOp.has x.o) fun n=>.all (fun(r:List UInt8×Int)=>r=if Pr.e n.p≠0 then([],Pr.e n.p) else QOp.op n.o n.x n.y) fun n_4=>.ite (!decide (Pr.e (Pr.err n.p n_4.2)=(0:Int))) (.leaf (.ret [.int .i64 0,.int .i64 (Pr.e (Pr.err n.p n_4.2))] [.box [.str (Pr.n (Pr.err n.p n_4.2)),.str (Pr.m (Pr.err n.p n_4.2)),.str (Pr.d (Pr.err n.p n_4.2)),.str (Pr.c (Pr.err n.p n_4.2)),.int .i64 (Pr.e (Pr.err n.p n_4.2))],.box [.ptr 0 0],.box [.fn (QOp.fn n.o) [] []]])) (.ex (fun(x:List UInt8×List UInt8)=>eqL [AV.str n_3.1,AV.str n_4.1] [AV.str x.1,AV.str x.2]∧x.1.length<4611686018427387904∧x.2.length<4611686018427387904) fun n_5=>.all (fun(r:Int×Int)=>r=ur n_5.1 n_5.2) fun n_6=>.leaf (.ret [.int .i64 n_6.1,.int .i64 n_6.2] [.box [.str (Pr.n (Pr.err n.p n_4.2)),.str (Pr.m (Pr.err n.p n_4.2)),.str (Pr.d (Pr.err n.p n_4.2)),.str (Pr.c (Pr.err n.p n_4.2)),.int .i64 (Pr.e (Pr.err n.p n_4.2))],.box [.ptr 0 0],.box [.fn (QOp.fn n.o) [] []]]))))))))) (by kernel_rfl) ?_
 simp only [Tree.holds,zd]
 refine⟨(a,b),⟨⟨rfl,rfl,trivial⟩,trivial,by trivial,by show a.length<_; omega,by show b.length<_; omega⟩,⟨_,rfl⟩,?_⟩
 intro p hp
 have hc:=k9 a b
 obtain⟨l1,l2,l3,l4⟩:=yU a b
 rw [← hp] at hc l1 l2 l3 l4
 refine⟨(p,.mul),⟨kx_k _,kx_b p,by trivial,trivial⟩,⟨(),trivial⟩,?_⟩
 intro _ _
 iterate 4 refine⟨by decide,fun _=> ?_⟩
 refine⟨⟨p,.mul,p.n,p.c⟩,⟨kx_l _ _,kx_h (p) _,by trivial,by show(p.n).length<_; omega,by show(p.c).length<_; omega,by trivial⟩,⟨_,rfl⟩,?_⟩
 intro r1 hr1
 have kr1:=j2 _ _ _ _ hr1
 iterate 2 refine⟨rfl,fun _=> ?_⟩
 refine⟨⟨p.err r1.2,.mul,p.m,p.d⟩,⟨kx_l _ _,kx_h (p.err r1.2) _,by trivial,by show(p.m).length<_; omega,by show(p.d).length<_; omega,by trivial⟩,⟨_,rfl⟩,?_⟩
 intro r2 hr2
 have kr2:=j2 _ _ _ _ hr2
 have hfin:=Y4 hc hr1 hr2
 refine⟨fun h=> ?_,fun h=>⟨(r1.1,r2.1),⟨⟨rfl,rfl,trivial⟩,by show r1.1.length<_; omega,by show r2.1.length<_; omega⟩,⟨_,rfl⟩,?_⟩⟩
 ·have h:r2.2≠0:=by
   intro h0
   have h':(!decide (r2.2=0))=true:=h
   rw [h0] at h'; cases h'
  rw [if_pos h] at hfin
  rw [← hfin] at hq
  exact RetR.scal hq rfl (by simp [resV,Pr.err])
 ·have h:r2.2=0:=by
   have h':(!decide (r2.2=0))=false:=h
   cases hd:decide (r2.2=0) with
   | true=>exact of_decide_eq_true hd
   | false=>rw [hd] at h'; cases h'
  rw [if_neg (by rw [h]; simp)] at hfin
  rintro _ rfl
  rw [← hfin] at hq
  exact RetR.scal hq rfl (by simp [resV])
end Go.Proofs.Tryz
end
section
namespace Go.Nov
end Go.Nov
end
section
set_option maxRecDepth 100000
open Go Go.Sx Go.Proofs Go.Nov
namespace Go.Proofs.Tryz
attribute [local simp] eqKV eqA eqA0 eqH eqB eqL eqL0
structure Q4 where
 n:List UInt8
 d:List UInt8
 m:List UInt8
 c:List UInt8
 e:Int
structure QF where
 n:List UInt8
 d:List UInt8
 e:Int
 f:Int
noncomputable def K67:List Go.Sx.Item:=[.code (Tryz.f67.body.getD .skip)]
def nanS:Ctr:=ctrP true (fun s:List UInt8=>[.str s]) (fun _=>True) (fun s r=>r=false) (fun _ (r:Bool)=>(.bool r,[]))
def nanI:Ctr:=ctrP true (fun x:Int=>[.int .i64 x]) (fun _=>True) (fun s r=>r=false) (fun _ (r:Bool)=>(.bool r,[]))
theorem zdq:zc Tryz.prog 88 nanS:=by
 refine ze (fn:=Tryz.f88) (c:=Tryz.f88.body.getD .skip) rfl rfl rfl fun s hs O w0 Q hq=> ?_
 replace hq:=hq _ rfl
 refine zb.run hmix zB [] 400 (T:=.leaf (.ret [.bool !decide (s=s)] [])) (by kernel_rfl) ?_
 simp only [Tree.holds,zd]
 exact RetR.scal hq rfl (by simp [resV])
theorem zee:zc Tryz.prog 89 nanI:=by
 refine ze (fn:=Tryz.f89) (c:=Tryz.f89.body.getD .skip) rfl rfl rfl fun s hs O w0 Q hq=> ?_
 replace hq:=hq _ rfl
 refine zb.run hmix zB [] 400 (T:=.leaf (.ret [.bool !decide (s=s)] [])) (by kernel_rfl) ?_
 simp only [Tree.holds,zd]
 exact RetR.scal hq rfl (by simp [resV])
def zfi:Ctr:=ctrP true (fun p:List UInt8×List UInt8=>[.str p.1,.str p.2]) (fun _=>True) (fun p r=>r=cmpS p.1 p.2) (fun _ (r:Int)=>(.int .i64 r,[]))
def zfu:Ctr:=ctrP true (fun p:Int×Int=>[.int .i64 p.1,.int .i64 p.2]) (fun _=>True) (fun p r=>r=cmpI p.1 p.2) (fun _ (r:Int)=>(.int .i64 r,[]))
noncomputable def GN2:Nat→Option Ctr:=fun f=>if f=88 then some (nanS) else if f=89 then some (nanI) else none
theorem Uu:∀ g c,GN2 g=some c→zc Tryz.prog g c:=okIf zdq (okIf zee (zt))
theorem zdu:zc Tryz.prog 68 zfi:=by
 refine ze (fn:=Tryz.f68) (c:=Tryz.f68.body.getD .skip) rfl rfl rfl fun p hs O w0 Q hq=> ?_
 obtain⟨s,t⟩:=p
 replace hq:=hq _ rfl
 simp only at hq
 refine zb.run hmix Uu [] 400 (T:=.ex (fun(x:List UInt8)=>eqL [AV.str s] [AV.str x]∧True) fun n=>.all (fun(r:Bool)=>r=false) fun n=>.ex (fun(x:List UInt8)=>eqL [AV.str t] [AV.str x]∧True) fun n_1=>.all (fun(r:Bool)=>r=false) fun n_2=>.ite n (.ite n_2 (.leaf (.ret [.int .i64 0] [])) (.leaf (.ret [.int .i64 (-1:Int)] []))) (.ite n_2 (.leaf (.ret [.int .i64 1] [])) (.ite (Op.bytesLess s t) (.leaf (.ret [.int .i64 (-1:Int)] [])) (.ite (!(Op.bytesLess s t||decide (s=t))) (.leaf (.ret [.int .i64 1] [])) (.leaf (.ret [.int .i64 0] [])))))) (by kernel_rfl) ?_
 simp only [Tree.holds,zd]
 refine⟨s,⟨by simp,trivial⟩,⟨_,rfl⟩,?_⟩
 rintro _ rfl
 refine⟨t,⟨by simp,trivial⟩,⟨_,rfl⟩,?_⟩
 rintro _ rfl
 refine⟨fun h=>(by cases h),fun _=>⟨fun h=>(by cases h),fun _=>⟨fun h=> ?_,fun h=>⟨fun h2=> ?_,fun h2=> ?_⟩⟩⟩⟩
 ·have:cmpS s t = -1:=by simp [cmpS,h]
  rw [this] at hq; exact RetR.scal hq rfl (by simp [resV])
 ·have h2:s≠t:=by simpa [h] using h2
  have:cmpS s t=1:=by simp [cmpS,h,h2]
  rw [this] at hq; exact RetR.scal hq rfl (by simp [resV])
 ·have h2:s=t:=by simpa [h] using h2
  subst h2
  have:cmpS s s=0:=by simp [cmpS,h]
  rw [this] at hq; exact RetR.scal hq rfl (by simp [resV])
theorem zdo:zc Tryz.prog 69 zfu:=by
 refine ze (fn:=Tryz.f69) (c:=Tryz.f69.body.getD .skip) rfl rfl rfl fun p hs O w0 Q hq=> ?_
 obtain⟨s,t⟩:=p
 replace hq:=hq _ rfl
 simp only at hq
 refine zb.run hmix Uu [] 400 (T:=.ex (fun(x:Int)=>eqL [AV.int .i64 s] [AV.int .i64 x]∧True) fun n=>.all (fun(r:Bool)=>r=false) fun n=>.ex (fun(x:Int)=>eqL [AV.int .i64 t] [AV.int .i64 x]∧True) fun n_1=>.all (fun(r:Bool)=>r=false) fun n_2=>.ite n (.ite n_2 (.leaf (.ret [.int .i64 0] [])) (.leaf (.ret [.int .i64 (-1:Int)] []))) (.ite n_2 (.leaf (.ret [.int .i64 1] [])) (.ite (decide (s<t)) (.leaf (.ret [.int .i64 (-1:Int)] [])) (.ite (decide (t<s)) (.leaf (.ret [.int .i64 1] [])) (.leaf (.ret [.int .i64 0] [])))))) (by kernel_rfl) ?_
 simp only [Tree.holds,zd]
 refine⟨s,⟨by simp,trivial⟩,⟨_,rfl⟩,?_⟩
 rintro _ rfl
 refine⟨t,⟨by simp,trivial⟩,⟨_,rfl⟩,?_⟩
 rintro _ rfl
 refine⟨fun h=>(by cases h),fun _=>⟨fun h=>(by cases h),fun _=>⟨fun h=> ?_,fun h=>⟨fun h2=> ?_,fun h2=> ?_⟩⟩⟩⟩
 ·have h:=of_decide_eq_true h
  have:cmpI s t = -1:=by simp [cmpI,h]
  rw [this] at hq; exact RetR.scal hq rfl (by simp [resV])
 ·have h:=of_decide_eq_false h
  have h2:=of_decide_eq_true h2
  have:cmpI s t=1:=by simp [cmpI,h,h2]
  rw [this] at hq; exact RetR.scal hq rfl (by simp [resV])
 ·have h:=of_decide_eq_false h
  have h2:=of_decide_eq_false h2
  have:cmpI s t=0:=by simp [cmpI,h,h2]
  rw [this] at hq; exact RetR.scal hq rfl (by simp [resV])
def orC:Ctr:=ctrP true (fun l:List Int=>[.sl l.length 1 (fun j _=>.int .i64 (l.getD j 0))]) (fun l=>l.length<2^40) (fun l r=>r=orI l) (fun _ (r:Int)=>(.int .i64 r,[]))
def SOr(l:List Int)(i:Nat):KV:=[(3,.int .i64 0),(6,.sl l.length 1 (fun j _=>.int .i64 (l.getD j 0))),(7,.int .i64 (l.length:Int)),(8,.int .i64 (i:Int))]
theorem zhq:zc Tryz.prog 67 orC:=by
 refine ze (fn:=Tryz.f67) (c:=Tryz.f67.body.getD .skip) rfl rfl rfl fun l hl O w0 Q hq=> ?_
 replace hq:=hq _ rfl
 refine zb.run hmix zB [3,6,7,8] 400 (T:=.leaf (.loop (Prod.fst (lps K67 0)) (Prod.snd (lps K67 0)) [(3,.int .i64 0),(6,.sl l.length 1 fun(j x:Nat)=>.int .i64 (l.getD j (0:Int))),(7,.int .i64 l.length),(8,.int .i64 0)] [])) (by kernel_rfl) ?_
 simp only [Tree.holds,zd]
 refine zb.loop (ι:={i:Nat // i≤l.length∧orI (l.drop i)=orI l}) (fun i=>SOr l i.1) (fun _=>[]) (fun i=>l.length - i.1) ⟨0,Nat.zero_le _,rfl⟩ 0 ?_ ?_ (by kernel_rfl)
 ·exact⟨by simp [SOr,za],by simp,by kernel_rfl,Nat.zero_le _⟩
 ·rintro⟨i,hil,hio⟩
  refine zb.run hmix zB [3,6,7,8] 400 (T:=.ite (decide ((↑i:Int)<l.length)) (.side ((0:Int)≤i∧(↑i:Int)<l.length) (.ite (!decide (l.getD (↑i:Int).toNat (0:Int)=0)) (.leaf (.ret [.int .i64 (l.getD (↑i:Int).toNat (0:Int))] [])) (.side (inR .i64 ((↑i:Int)+(1:Int))) (.leaf (.back 0 [(3,.int .i64 0),(6,.sl l.length 1 fun(j x:Nat)=>.int .i64 (l.getD j (0:Int))),(7,.int .i64 l.length),(8,.int .i64 ((↑i:Int)+(1:Int)))] []))))) (.leaf (.ret [.int .i64 0] []))) (by kernel_rfl) ?_
  simp only [Tree.holds,zd,inR,lo,hi,Int.toNat_natCast]
  refine⟨fun hlt=> ?_,fun hge=> ?_⟩
  ·have hlt:i<l.length:=by have:=of_decide_eq_true hlt; omega
   have hd:l.drop i=l.getD i 0::l.drop (i+1):=by
    rw [List.drop_eq_getElem_cons hlt]; simp [List.getD,hlt]
   rw [hd] at hio
   refine⟨by omega,fun _=>⟨fun h=> ?_,fun h=>⟨by omega,fun _=> ?_⟩⟩⟩
   ·have h:l.getD i 0≠0:=by simpa using h
    have:orI l=l.getD i 0:=by rw [← hio]; simp only [orI]; rw [if_neg h]
    rw [this] at hq; exact RetR.scal hq rfl (by simp [resV])
   ·have h:l.getD i 0=0:=by simpa using h
    rw [if_pos trivial]
    refine⟨⟨i+1,hlt,?_⟩,by show l.length - (i+1)<l.length - i; omega,by simp [SOr,za],by simp,by kernel_rfl,Nat.zero_le _⟩
    rw [← hio]; simp only [orI]; rw [if_pos h]
  ·have hge:i=l.length:=by have:=of_decide_eq_false hge; omega
   subst hge
   rw [List.drop_length] at hio
   rw [← hio] at hq; exact RetR.scal hq rfl (by simp [resV,orI])
def WT:Ctr:=ctrP true (fun p:Fx×Fx=>[p.1.av,p.2.av]) (fun _=>True) (fun p r=>r=cmpF p.1 p.2) (fun _ (r:Int)=>(.int .i64 r,[]))
def VH:Ctr:=ctrP true (fun p:Ch×Ch=>[p.1.av,p.2.av]) (fun _=>True) (fun p r=>r=cmpC p.1 p.2) (fun _ (r:Int)=>(.int .i64 r,[]))
noncomputable def GN3:Nat→Option Ctr:=fun f=>if f=68 then some (zfi) else if f=69 then some (zfu) else if f=67 then some (orC) else none
theorem zb3:∀ g c,GN3 g=some c→zc Tryz.prog g c:=okIf zdu (okIf zdo (okIf zhq (zt)))
theorem Uo(x y:Int):eqG 2 1 (zf (zg 1 [.int .i64 x,.int .i64 y]) 0) (fun j _=>.int .i64 ([x,y].getD j 0)):=by
 intro j o hj ho
 have ho:o=0:=by omega
 subst ho
 rcases j with _ | _ | j
 ·rfl
 ·rfl
 ·omega
theorem Ug(x y z:Int):eqG 3 1 (zf (zg 1 [.int .i64 x,.int .i64 y,.int .i64 z]) 0) (fun j _=>.int .i64 ([x,y,z].getD j 0)):=by
 intro j o hj ho
 have ho:o=0:=by omega
 subst ho
 rcases j with _ | _ | _ | j
 ·rfl
 ·rfl
 ·rfl
 ·omega
theorem VS:zc Tryz.prog 40 WT:=by
 refine ze (fn:=Tryz.f40) (c:=Tryz.f40.body.getD .skip) rfl rfl rfl fun p hs O w0 Q hq=> ?_
 obtain⟨⟨a,d,v⟩,⟨b,e,u⟩⟩:=p
 replace hq:=hq _ rfl
 simp only at hq
 refine zb.run hmix zb3 [] 400 (T:=.ex (fun(x:List UInt8×List UInt8)=>eqL [AV.str a,AV.str b] [AV.str x.1,AV.str x.2]∧True) fun n=>.all (fun(r:Int)=>r=cmpS n.1 n.2) fun n=>.ex (fun(x:Int×Int)=>eqL [AV.int .i64 d,AV.int .i64 e] [AV.int .i64 x.1,AV.int .i64 x.2]∧True) fun n_1=>.all (fun(r:Int)=>r=cmpI n_1.1 n_1.2) fun n_2=>.ex (fun(x:List Int)=>eqL [AV.sl 2 1 (zf (zg 1 [AV.int .i64 n,AV.int .i64 n_2]) 0)] [AV.sl x.length 1 fun(j x_1:Nat)=>AV.int .i64 (x.getD j (0:Int))]∧x.length<1099511627776) fun n_3=>.all (fun(r:Int)=>r=orI n_3) fun n_4=>.leaf (.ret [.int .i64 n_4] [.box [.str a,.int .i64 d,.str v],.box [.str b,.int .i64 e,.str u],.arr 2 1 (zg 1 [.int .i64 n,.int .i64 n_2])])) (by kernel_rfl) ?_
 simp only [Tree.holds,zd]
 refine⟨(a,b),⟨by simp,trivial⟩,⟨_,rfl⟩,?_⟩
 rintro _ rfl
 refine⟨(d,e),⟨by simp,trivial⟩,⟨_,rfl⟩,?_⟩
 rintro _ rfl
 refine⟨[cmpS a b,cmpI d e],⟨⟨⟨rfl,rfl,Uo _ _⟩,trivial⟩,by simp⟩,⟨_,rfl⟩,?_⟩
 rintro _ rfl
 have:orI [cmpS a b,cmpI d e]=cmpF ⟨a,d,v⟩ ⟨b,e,u⟩:=by
  simp only [orI,cmpF]
  by_cases h:cmpS a b=0
  ·simp only [h,if_true]; split<;>simp_all
  ·simp only [if_neg h]
 rw [this]
 exact RetR.scal hq rfl (by simp [resV])
theorem Xf:zc Tryz.prog 42 VH:=by
 refine ze (fn:=Tryz.f42) (c:=Tryz.f42.body.getD .skip) rfl rfl rfl fun p hs O w0 Q hq=> ?_
 obtain⟨⟨a,d,v,f⟩,⟨b,e,u,g⟩⟩:=p
 replace hq:=hq _ rfl
 simp only at hq
 refine zb.run hmix zb3 [] 400 (T:=.ex (fun(x:List UInt8×List UInt8)=>eqL [AV.str a,AV.str b] [AV.str x.1,AV.str x.2]∧True) fun n=>.all (fun(r:Int)=>r=cmpS n.1 n.2) fun n=>.ex (fun(x:List UInt8×List UInt8)=>eqL [AV.str d,AV.str e] [AV.str x.1,AV.str x.2]∧True) fun n_1=>.all (fun(r:Int)=>r=cmpS n_1.1 n_1.2) fun n_2=>.ex (fun(x:Int×Int)=>eqL [AV.int .i64 v,AV.int .i64 u] [AV.int .i64 x.1,AV.int .i64 x.2]∧True) fun n_3=>.all (fun(r:Int)=>r=cmpI n_3.1 n_3.2) fun n_4=>.ex (fun(x:List Int)=>eqL [AV.sl 3 1 (zf (zg 1 [AV.int .i64 n,AV.int .i64 n_2,AV.int .i64 n_4]) 0)] [AV.sl x.length 1 fun(j x_1:Nat)=>AV.int .i64 (x.getD j (0:Int))]∧x.length<1099511627776) fun n_5=>.all (fun(r:Int)=>r=orI n_5) fun n_6=>.leaf (.ret [.int .i64 n_6] [.box [.str a,.str d,.int .i64 v,.bool f],.box [.str b,.str e,.int .i64 u,.bool g],.arr 3 1 (zg 1 [.int .i64 n,.int .i64 n_2,.int .i64 n_4])])) (by kernel_rfl) ?_
 simp only [Tree.holds,zd]
 refine⟨(a,b),⟨by simp,trivial⟩,⟨_,rfl⟩,?_⟩
 rintro _ rfl
 refine⟨(d,e),⟨by simp,trivial⟩,⟨_,rfl⟩,?_⟩
 rintro _ rfl
 refine⟨(v,u),⟨by simp,trivial⟩,⟨_,rfl⟩,?_⟩
 rintro _ rfl
 refine⟨[cmpS a b,cmpS d e,cmpI v u],⟨⟨⟨rfl,rfl,Ug _ _ _⟩,trivial⟩,by simp⟩,⟨_,rfl⟩,?_⟩
 rintro _ rfl
 have:orI [cmpS a b,cmpS d e,cmpI v u]=cmpC ⟨a,d,v,f⟩ ⟨b,e,u,g⟩:=by
  simp only [orI,cmpC]
  by_cases h:cmpS a b=0
  ·simp only [h,if_true]
   by_cases h2:cmpS d e=0
   ·simp only [h2,if_true]; split<;>simp_all
   ·simp only [if_neg h2]
  ·simp only [if_neg h]
 rw [this]
 exact RetR.scal hq rfl (by simp [resV])
noncomputable def K65:List Go.Sx.Item:=[.code (Tryz.f65.body.getD .skip)]
noncomputable def K66:List Go.Sx.Item:=[.code (Tryz.f66.body.getD .skip)]
noncomputable def K39:List Go.Sx.Item:=[.code (Tryz.f39.body.getD .skip)]
noncomputable def K41:List Go.Sx.Item:=[.code (Tryz.f41.body.getD .skip)]
def xo(f:Fx):Prop:=f.name.length<2^40∧f.value.length<2^40
def xv(c:Ch):Prop:=c.j9.length<2^40∧c.name.length<2^40
def zfj:Ctr:=ctrP true (fun f:Fx=>[f.av]) xo (fun f r=>r = !okF f) (fun _ (r:Bool)=>(.bool r,[]))
def zfh:Ctr:=ctrP true (fun c:Ch=>[c.av]) xv (fun c r=>r = !okC c) (fun _ (r:Bool)=>(.bool r,[]))
noncomputable def GE1:Nat→Option Ctr:=fun f=>if f=33 then some (VG) else if f=34 then some (We) else if f=35 then some (yf) else none
theorem U7:∀ g c,GE1 g=some c→zc Tryz.prog g c:=okIf JL (okIf Jm (okIf kW (zt)))
theorem zdh:zc Tryz.prog 32 zfj:=by
 refine ze (fn:=Tryz.f32) (c:=Tryz.f32.body.getD .skip) rfl rfl rfl fun f hs O w0 Q hq=> ?_
 obtain⟨a,d,v⟩:=f
 obtain⟨h1,h2⟩:=hs
 replace hq:=hq _ rfl
 simp only [okF] at hq h1 h2
 refine zb.run hmix U7 [] 400 (T:=.ex (fun(x:List UInt8)=>eqL [AV.str a] [AV.str x]∧x.length<4611686018427387904) fun n=>.all (fun(r:Bool)=>r=qe n) fun n=>.ex (fun(x:Int)=>(!n)=false→eqL [AV.int .i64 d] [AV.int .i64 x]∧True) fun n_1=>.all (fun(x:Bool)=>(!n)=false→x=dayB n_1) fun n_2=>.ex (fun(x:List UInt8)=>(bif !n then true else !n_2)=false→eqL [AV.str v] [AV.str x]∧x.length<4611686018427387904) fun n_3=>.all (fun(x:Int)=>(bif !n then true else !n_2)=false→x=errR n_3) fun n_4=>.leaf (.ret [.bool (bif bif !n then true else !n_2 then true else !decide (n_4=0))] [.box [.str a,.int .i64 d,.str v]])) (by kernel_rfl) ?_
 simp only [Tree.holds,zd]
 refine⟨a,⟨by simp,by omega⟩,⟨_,rfl⟩,?_⟩
 rintro _ rfl
 refine⟨d,fun _=>⟨by simp,trivial⟩,⟨_,fun _=>rfl⟩,?_⟩
 intro x hx
 refine⟨v,fun _=>⟨by simp,by omega⟩,⟨_,fun _=>rfl⟩,?_⟩
 intro y hy
 refine RetR.scal hq rfl ?_
 simp only [resV]
 cases hn:qe a with
 | false=>rfl
 | true=>
  rw [hx (by rw [hn]; rfl)] at hy ⊢
  cases hd:dayB d with
  | false=>rfl
  | true=>rw [hy (by rw [hn,hd]; rfl)]; rfl
theorem zes:zc Tryz.prog 36 zfh:=by
 refine ze (fn:=Tryz.f36) (c:=Tryz.f36.body.getD .skip) rfl rfl rfl fun f hs O w0 Q hq=> ?_
 obtain⟨a,v,d,f⟩:=f
 obtain⟨h1,h2⟩:=hs
 replace hq:=hq _ rfl
 simp only [okC] at hq h1 h2
 refine zb.run hmix U7 [] 400 (T:=.ex (fun(x:List UInt8)=>eqL [AV.str a] [AV.str x]∧x.length<4611686018427387904) fun n=>.all (fun(r:Bool)=>r=qe n) fun n=>.ex (fun(x:List UInt8)=>(!n)=false→eqL [AV.str v] [AV.str x]∧x.length<4611686018427387904) fun n_1=>.all (fun(x:Bool)=>(!n)=false→x=qe n_1) fun n_2=>.ex (fun(x:Int)=>(bif !n then true else !n_2)=false→eqL [AV.int .i64 d] [AV.int .i64 x]∧True) fun n_3=>.all (fun(x:Bool)=>(bif !n then true else !n_2)=false→x=dayB n_3) fun n_4=>.leaf (.ret [.bool (bif bif !n then true else !n_2 then true else !n_4)] [.box [.str a,.str v,.int .i64 d,.bool f]])) (by kernel_rfl) ?_
 simp only [Tree.holds,zd]
 refine⟨a,⟨by simp,by omega⟩,⟨_,rfl⟩,?_⟩
 rintro _ rfl
 refine⟨v,fun _=>⟨by simp,by omega⟩,⟨_,fun _=>rfl⟩,?_⟩
 intro x hx
 refine⟨d,fun _=>⟨by simp,trivial⟩,⟨_,fun _=>rfl⟩,?_⟩
 intro y hy
 refine RetR.scal hq rfl ?_
 simp only [resV]
 cases hn:qe a with
 | false=>rfl
 | true=>
  rw [hx (by rw [hn]; rfl)] at hy ⊢
  cases hd:qe v with
  | false=>rfl
  | true=>rw [hy (by rw [hn,hd]; rfl)]; rfl
def zfl:Ctr:=ctrP true (fun l:List Fx=>[fxS l,.fn 32 [] []]) (fun l=>l.length<2^40∧∀ j,j<l.length→xo (l.getD j Fx.nil)) (fun l r=>r=idxB (fun x=> !okF x) l) (fun _ (r:Int)=>(.int .i64 r,[]))
def SIxF(l:List Fx)(i:Nat):KV:=[(0,fxS l),(1,.fn 32 [] []),(7,.int .i64 (l.length:Int)),(8,.int .i64 (i:Int))]
noncomputable def GE2F:Nat→Option Ctr:=fun f=>if f=32 then some (zfj) else none
theorem Xy:∀ g c,GE2F g=some c→zc Tryz.prog g c:=okIf zdh (zt)
theorem zdb:zc Tryz.prog 65 zfl:=by
 refine ze (fn:=Tryz.f65) (c:=Tryz.f65.body.getD .skip) rfl rfl rfl fun l hl O w0 Q hq=> ?_
 obtain⟨hl,hsm⟩:=hl
 replace hq:=hq _ rfl
 refine zb.run hmix Xy [0,1,7,8] 400 (T:=.leaf (.loop (Prod.fst (lps K65 0)) (Prod.snd (lps K65 0)) [(0,.sl l.length 3 (fxG l)),(1,.fn 32 [] []),(7,.int .i64 l.length),(8,.int .i64 0)] [])) (by kernel_rfl) ?_
 simp only [Tree.holds,zd]
 refine zb.loop (ι:={i:Nat // i≤l.length∧∀ j,j<i→(!okF (l.getD j Fx.nil))=false}) (fun i=>SIxF l i.1) (fun _=>[]) (fun i=>l.length - i.1) ⟨0,Nat.zero_le _,fun j hj=>by omega⟩ 0 ?_ ?_ (by kernel_rfl)
 ·exact⟨by simp [SIxF,fxS,za],by simp,by kernel_rfl,Nat.zero_le _⟩
 ·rintro⟨i,hil,hib⟩
  refine zb.run hmix Xy [0,1,7,8] 400 (T:=.ite (decide ((↑i:Int)<l.length)) (.side ((0:Int)≤i∧(↑i:Int)<l.length) (.ex (fun(x:Fx)=>eqL [AV.agg [AV.str (Fx.name (l.getD (↑i:Int).toNat Fx.nil)),AV.int .i64 (Fx.date (l.getD (↑i:Int).toNat Fx.nil)),AV.str (Fx.value (l.getD (↑i:Int).toNat Fx.nil))]] [AV.agg [AV.str x.name,AV.int .i64 x.date,AV.str x.value]]∧xo x) fun n=>.all (fun(r:Bool)=>r = !okF n) fun n=>.ite n (.leaf (.ret [.int .i64 i] [])) (.side (inR .i64 ((↑i:Int)+(1:Int))) (.leaf (.back 0 [(0,.sl l.length 3 (fxG l)),(1,.fn 32 [] []),(7,.int .i64 l.length),(8,.int .i64 ((↑i:Int)+(1:Int)))] []))))) (.leaf (.ret [.int .i64 (-1:Int)] []))) (by kernel_rfl) ?_
  simp only [Tree.holds,zd,inR,lo,hi,Int.toNat_natCast]
  refine⟨fun hlt=> ?_,fun hge=> ?_⟩
  ·have hlt:i<l.length:=by have:=of_decide_eq_true hlt; omega
   refine⟨by omega,fun _=>⟨l.getD i Fx.nil,⟨by simp,hsm i hlt⟩,⟨_,rfl⟩,?_⟩⟩
   rintro _ rfl
   refine⟨fun h=> ?_,fun h=>⟨by omega,fun _=> ?_⟩⟩
   ·rw [XZ hlt h hib] at hq
    exact RetR.scal hq rfl (by simp [resV])
   ·rw [if_pos trivial]
    refine⟨⟨i+1,hlt,fun j hj=> ?_⟩,by show l.length - (i+1)<l.length - i; omega,by simp [SIxF,fxS,za],by simp,by kernel_rfl,Nat.zero_le _⟩
    rcases Nat.lt_or_ge j i with h1 | h1
    ·exact hib j h1
    ·have:j=i:=by omega
     rw [this]; exact h
  ·have hge:i=l.length:=by have:=of_decide_eq_false hge; omega
   subst hge
   rw [Q2 hib] at hq
   exact RetR.scal hq rfl (by simp [resV])
def zfa:Ctr:=ctrP true (fun l:List Fx=>[fxS l,.fn 32 [] []]) (fun l=>l.length<2^40∧∀ j,j<l.length→xo (l.getD j Fx.nil)) (fun l r=>r=l.any fun x=> !okF x) (fun _ (r:Bool)=>(.bool r,[]))
noncomputable def GE3F:Nat→Option Ctr:=fun f=>if f=65 then some (zfl) else none
theorem zdg:∀ g c,GE3F g=some c→zc Tryz.prog g c:=okIf zdb (zt)
theorem ze2:zc Tryz.prog 37 zfa:=by
 refine ze (fn:=Tryz.f37) (c:=Tryz.f37.body.getD .skip) rfl rfl rfl fun l hl O w0 Q hq=> ?_
 replace hq:=hq _ rfl
 refine zb.run hmix zdg [] 400 (T:=.ex (fun(x:List Fx)=>eqL [AV.sl l.length 3 (fxG l),AV.fn 32 [] []] [AV.sl x.length 3 (fxG x),AV.fn 32 [] []]∧x.length<1099511627776∧∀ (j:Nat),j<x.length→xo (x.getD j Fx.nil)) fun n=>.all (fun(r:Int)=>r=idxB (fun(x:Fx)=> !okF x) n) fun n=>.leaf (.ret [.bool (decide ((0:Int)≤n))] [])) (by kernel_rfl) ?_
 simp only [Tree.holds,zd]
 refine⟨l,⟨by simp [za],hl⟩,⟨_,rfl⟩,?_⟩
 rintro _ rfl
 rw [← Wt] at hq
 exact RetR.scal hq rfl (by simp [resV])
def zfc:Ctr:=ctrP true (fun l:List Ch=>[chS l,.fn 36 [] []]) (fun l=>l.length<2^40∧∀ j,j<l.length→xv (l.getD j Ch.nil)) (fun l r=>r=idxB (fun x=> !okC x) l) (fun _ (r:Int)=>(.int .i64 r,[]))
def SIxC(l:List Ch)(i:Nat):KV:=[(0,chS l),(1,.fn 36 [] []),(7,.int .i64 (l.length:Int)),(8,.int .i64 (i:Int))]
noncomputable def GE2C:Nat→Option Ctr:=fun f=>if f=36 then some (zfh) else none
theorem X3:∀ g c,GE2C g=some c→zc Tryz.prog g c:=okIf zes (zt)
theorem zdj:zc Tryz.prog 66 zfc:=by
 refine ze (fn:=Tryz.f66) (c:=Tryz.f66.body.getD .skip) rfl rfl rfl fun l hl O w0 Q hq=> ?_
 obtain⟨hl,hsm⟩:=hl
 replace hq:=hq _ rfl
 refine zb.run hmix X3 [0,1,7,8] 400 (T:=.leaf (.loop (Prod.fst (lps K66 0)) (Prod.snd (lps K66 0)) [(0,.sl l.length 4 (chG l)),(1,.fn 36 [] []),(7,.int .i64 l.length),(8,.int .i64 0)] [])) (by kernel_rfl) ?_
 simp only [Tree.holds,zd]
 refine zb.loop (ι:={i:Nat // i≤l.length∧∀ j,j<i→(!okC (l.getD j Ch.nil))=false}) (fun i=>SIxC l i.1) (fun _=>[]) (fun i=>l.length - i.1) ⟨0,Nat.zero_le _,fun j hj=>by omega⟩ 0 ?_ ?_ (by kernel_rfl)
 ·exact⟨by simp [SIxC,chS,za],by simp,by kernel_rfl,Nat.zero_le _⟩
 ·rintro⟨i,hil,hib⟩
  refine zb.run hmix X3 [0,1,7,8] 400 (T:=.ite (decide ((↑i:Int)<l.length)) (.side ((0:Int)≤i∧(↑i:Int)<l.length) (.ex (fun(x:Ch)=>eqL [AV.agg [AV.str (Ch.j9 (l.getD (↑i:Int).toNat Ch.nil)),AV.str (Ch.name (l.getD (↑i:Int).toNat Ch.nil)),AV.int .i64 (Ch.date (l.getD (↑i:Int).toNat Ch.nil)),AV.bool (Ch.first (l.getD (↑i:Int).toNat Ch.nil))]] [AV.agg [AV.str x.j9,AV.str x.name,AV.int .i64 x.date,AV.bool x.first]]∧xv x) fun n=>.all (fun(r:Bool)=>r = !okC n) fun n=>.ite n (.leaf (.ret [.int .i64 i] [])) (.side (inR .i64 ((↑i:Int)+(1:Int))) (.leaf (.back 0 [(0,.sl l.length 4 (chG l)),(1,.fn 36 [] []),(7,.int .i64 l.length),(8,.int .i64 ((↑i:Int)+(1:Int)))] []))))) (.leaf (.ret [.int .i64 (-1:Int)] []))) (by kernel_rfl) ?_
  simp only [Tree.holds,zd,inR,lo,hi,Int.toNat_natCast]
  refine⟨fun hlt=> ?_,fun hge=> ?_⟩
  ·have hlt:i<l.length:=by have:=of_decide_eq_true hlt; omega
   refine⟨by omega,fun _=>⟨l.getD i Ch.nil,⟨by simp,hsm i hlt⟩,⟨_,rfl⟩,?_⟩⟩
   rintro _ rfl
   refine⟨fun h=> ?_,fun h=>⟨by omega,fun _=> ?_⟩⟩
   ·rw [XZ hlt h hib] at hq
    exact RetR.scal hq rfl (by simp [resV])
   ·rw [if_pos trivial]
    refine⟨⟨i+1,hlt,fun j hj=> ?_⟩,by show l.length - (i+1)<l.length - i; omega,by simp [SIxC,chS,za],by simp,by kernel_rfl,Nat.zero_le _⟩
    rcases Nat.lt_or_ge j i with h1 | h1
    ·exact hib j h1
    ·have:j=i:=by omega
     rw [this]; exact h
  ·have hge:i=l.length:=by have:=of_decide_eq_false hge; omega
   subst hge
   rw [Q2 hib] at hq
   exact RetR.scal hq rfl (by simp [resV])
def zfe:Ctr:=ctrP true (fun l:List Ch=>[chS l,.fn 36 [] []]) (fun l=>l.length<2^40∧∀ j,j<l.length→xv (l.getD j Ch.nil)) (fun l r=>r=l.any fun x=> !okC x) (fun _ (r:Bool)=>(.bool r,[]))
noncomputable def GE3C:Nat→Option Ctr:=fun f=>if f=66 then some (zfc) else none
theorem zec:∀ g c,GE3C g=some c→zc Tryz.prog g c:=okIf zdj (zt)
theorem zf2:zc Tryz.prog 38 zfe:=by
 refine ze (fn:=Tryz.f38) (c:=Tryz.f38.body.getD .skip) rfl rfl rfl fun l hl O w0 Q hq=> ?_
 replace hq:=hq _ rfl
 refine zb.run hmix zec [] 400 (T:=.ex (fun(x:List Ch)=>eqL [AV.sl l.length 4 (chG l),AV.fn 36 [] []] [AV.sl x.length 4 (chG x),AV.fn 36 [] []]∧x.length<1099511627776∧∀ (j:Nat),j<x.length→xv (x.getD j Ch.nil)) fun n=>.all (fun(r:Int)=>r=idxB (fun(x:Ch)=> !okC x) n) fun n=>.leaf (.ret [.bool (decide ((0:Int)≤n))] [])) (by kernel_rfl) ?_
 simp only [Tree.holds,zd]
 refine⟨l,⟨by simp [za],hl⟩,⟨_,rfl⟩,?_⟩
 rintro _ rfl
 rw [← Wt] at hq
 exact RetR.scal hq rfl (by simp [resV])
def zff:Ctr:=ctrP true (fun l:List Fx=>[fxS l,.fn 40 [] []]) (fun l=>l.length<2^40) (fun l r=>r=ordB cmpF Fx.nil l) (fun _ (r:Bool)=>(.bool r,[]))
def SOdF(l:List Fx)(i:Nat):KV:=[(0,fxS l),(1,.fn 40 [] []),(5,.int .i64 (i:Int))]
noncomputable def GE4F:Nat→Option Ctr:=fun f=>if f=40 then some (WT) else none
theorem Yp:∀ g c,GE4F g=some c→zc Tryz.prog g c:=okIf VS (zt)
theorem zds:zc Tryz.prog 39 zff:=by
 refine ze (fn:=Tryz.f39) (c:=Tryz.f39.body.getD .skip) rfl rfl rfl fun l hl O w0 Q hq=> ?_
 replace hq:=hq _ rfl
 refine zb.run hmix Yp [0,1,5] 400 (T:=.leaf (.loop (Prod.fst (lps K39 0)) (Prod.snd (lps K39 0)) [(0,.sl l.length 3 (fxG l)),(1,.fn 40 [] []),(5,.int .i64 1)] [])) (by kernel_rfl) ?_
 simp only [Tree.holds,zd]
 refine zb.loop (ι:={i:Nat // 0<i∧(i≤l.length∨i=1)∧∀ j,j+1<i→cmpF (l.getD j Fx.nil) (l.getD (j+1) Fx.nil)<0}) (fun i=>SOdF l i.1) (fun _=>[]) (fun i=>l.length - i.1) ⟨1,Nat.one_pos,.inr rfl,fun j hj=>by omega⟩ 0 ?_ ?_ (by kernel_rfl)
 ·exact⟨by simp [SOdF,fxS,za],by simp,by kernel_rfl,Nat.zero_le _⟩
 ·rintro⟨i,hi0,hil,hib⟩
  refine zb.run hmix Yp [0,1,5] 400 (T:=.ite (decide ((↑i:Int)<l.length)) (.side (inR .i64 ((↑i:Int) - (1:Int))) (.side ((0:Int)≤i - (1:Int)∧(↑i:Int) - (1:Int)<l.length) (.side ((0:Int)≤i∧(↑i:Int)<l.length) (.ex (fun(x:Fx×Fx)=>eqL [AV.agg [AV.str (Fx.name (l.getD (Int.toNat ((↑i:Int) - (1:Int))) Fx.nil)),AV.int .i64 (Fx.date (l.getD (Int.toNat ((↑i:Int) - (1:Int))) Fx.nil)),AV.str (Fx.value (l.getD (Int.toNat ((↑i:Int) - (1:Int))) Fx.nil))],AV.agg [AV.str (Fx.name (l.getD (↑i:Int).toNat Fx.nil)),AV.int .i64 (Fx.date (l.getD (↑i:Int).toNat Fx.nil)),AV.str (Fx.value (l.getD (↑i:Int).toNat Fx.nil))]] [AV.agg [AV.str x.1.name,AV.int .i64 x.1.date,AV.str x.1.value],AV.agg [AV.str x.2.name,AV.int .i64 x.2.date,AV.str x.2.value]]∧True) fun n=>.all (fun(r:Int)=>r=cmpF n.1 n.2) fun n=>.ite (decide ((0:Int)≤n)) (.leaf (.ret [.bool false] [])) (.side (inR .i64 ((↑i:Int)+(1:Int))) (.leaf (.back 0 [(0,.sl l.length 3 (fxG l)),(1,.fn 40 [] []),(5,.int .i64 ((↑i:Int)+(1:Int)))] []))))))) (.leaf (.ret [.bool true] []))) (by kernel_rfl) ?_
  simp only [Tree.holds,zd,inR,lo,hi,Int.toNat_natCast]
  have e:((i:Int) - 1).toNat=i - 1:=by omega
  have e2:i - 1+1=i:=by omega
  refine⟨fun hlt=> ?_,fun hge=> ?_⟩
  ·have hlt:i<l.length:=by have:=of_decide_eq_true hlt; omega
   simp only [e]
   refine⟨by omega,fun _=>⟨by omega,fun _=>⟨by omega,fun _=>⟨(l.getD (i - 1) Fx.nil,l.getD i Fx.nil),⟨by simp,trivial⟩,⟨_,rfl⟩,?_⟩⟩⟩⟩
   rintro _ rfl
   refine⟨fun h=> ?_,fun h=>⟨by omega,fun _=> ?_⟩⟩
   ·have h:=of_decide_eq_true h
    rw [Wj (z:=Fx.nil) (j:=i - 1) (by omega) (by rw [e2]; simp only at h; omega)] at hq
    exact RetR.scal hq rfl (by simp [resV])
   ·have h:=of_decide_eq_false h
    rw [if_pos trivial]
    refine⟨⟨i+1,by omega,.inl hlt,fun j hj=> ?_⟩,by show l.length - (i+1)<l.length - i; omega,by simp [SOdF,fxS,za],by simp,by kernel_rfl,Nat.zero_le _⟩
    rcases Nat.lt_or_ge (j+1) i with h1 | h1
    ·exact hib j h1
    ·have:j=i - 1:=by omega
     rw [this,e2]; simp only at h; omega
  ·have hge:l.length≤i:=by have:=of_decide_eq_false hge; omega
   rw [Vl (z:=Fx.nil) fun j hj=>hib j (by omega)] at hq
   exact RetR.scal hq rfl (by simp [resV])
def zfo:Ctr:=ctrP true (fun l:List Ch=>[chS l,.fn 42 [] []]) (fun l=>l.length<2^40) (fun l r=>r=ordB cmpC Ch.nil l) (fun _ (r:Bool)=>(.bool r,[]))
def SOdC(l:List Ch)(i:Nat):KV:=[(0,chS l),(1,.fn 42 [] []),(5,.int .i64 (i:Int))]
noncomputable def GE4C:Nat→Option Ctr:=fun f=>if f=42 then some (VH) else none
theorem XU:∀ g c,GE4C g=some c→zc Tryz.prog g c:=okIf Xf (zt)
theorem ze6:zc Tryz.prog 41 zfo:=by
 refine ze (fn:=Tryz.f41) (c:=Tryz.f41.body.getD .skip) rfl rfl rfl fun l hl O w0 Q hq=> ?_
 replace hq:=hq _ rfl
 refine zb.run hmix XU [0,1,5] 400 (T:=.leaf (.loop (Prod.fst (lps K41 0)) (Prod.snd (lps K41 0)) [(0,.sl l.length 4 (chG l)),(1,.fn 42 [] []),(5,.int .i64 1)] [])) (by kernel_rfl) ?_
 simp only [Tree.holds,zd]
 refine zb.loop (ι:={i:Nat // 0<i∧(i≤l.length∨i=1)∧∀ j,j+1<i→cmpC (l.getD j Ch.nil) (l.getD (j+1) Ch.nil)<0}) (fun i=>SOdC l i.1) (fun _=>[]) (fun i=>l.length - i.1) ⟨1,Nat.one_pos,.inr rfl,fun j hj=>by omega⟩ 0 ?_ ?_ (by kernel_rfl)
 ·exact⟨by simp [SOdC,chS,za],by simp,by kernel_rfl,Nat.zero_le _⟩
 ·rintro⟨i,hi0,hil,hib⟩
  refine zb.run hmix XU [0,1,5] 400 (T:=.ite (decide ((↑i:Int)<l.length)) (.side (inR .i64 ((↑i:Int) - (1:Int))) (.side ((0:Int)≤i - (1:Int)∧(↑i:Int) - (1:Int)<l.length) (.side ((0:Int)≤i∧(↑i:Int)<l.length) (.ex (fun(x:Ch×Ch)=>eqL [AV.agg [AV.str (Ch.j9 (l.getD (Int.toNat ((↑i:Int) - (1:Int))) Ch.nil)),AV.str (Ch.name (l.getD (Int.toNat ((↑i:Int) - (1:Int))) Ch.nil)),AV.int .i64 (Ch.date (l.getD (Int.toNat ((↑i:Int) - (1:Int))) Ch.nil)),AV.bool (Ch.first (l.getD (Int.toNat ((↑i:Int) - (1:Int))) Ch.nil))],AV.agg [AV.str (Ch.j9 (l.getD (↑i:Int).toNat Ch.nil)),AV.str (Ch.name (l.getD (↑i:Int).toNat Ch.nil)),AV.int .i64 (Ch.date (l.getD (↑i:Int).toNat Ch.nil)),AV.bool (Ch.first (l.getD (↑i:Int).toNat Ch.nil))]] [AV.agg [AV.str x.1.j9,AV.str x.1.name,AV.int .i64 x.1.date,AV.bool x.1.first],AV.agg [AV.str x.2.j9,AV.str x.2.name,AV.int .i64 x.2.date,AV.bool x.2.first]]∧True) fun n=>.all (fun(r:Int)=>r=cmpC n.1 n.2) fun n=>.ite (decide ((0:Int)≤n)) (.leaf (.ret [.bool false] [])) (.side (inR .i64 ((↑i:Int)+(1:Int))) (.leaf (.back 0 [(0,.sl l.length 4 (chG l)),(1,.fn 42 [] []),(5,.int .i64 ((↑i:Int)+(1:Int)))] []))))))) (.leaf (.ret [.bool true] []))) (by kernel_rfl) ?_
  simp only [Tree.holds,zd,inR,lo,hi,Int.toNat_natCast]
  have e:((i:Int) - 1).toNat=i - 1:=by omega
  have e2:i - 1+1=i:=by omega
  refine⟨fun hlt=> ?_,fun hge=> ?_⟩
  ·have hlt:i<l.length:=by have:=of_decide_eq_true hlt; omega
   simp only [e]
   refine⟨by omega,fun _=>⟨by omega,fun _=>⟨by omega,fun _=>⟨(l.getD (i - 1) Ch.nil,l.getD i Ch.nil),⟨by simp,trivial⟩,⟨_,rfl⟩,?_⟩⟩⟩⟩
   rintro _ rfl
   refine⟨fun h=> ?_,fun h=>⟨by omega,fun _=> ?_⟩⟩
   ·have h:=of_decide_eq_true h
    rw [Wj (z:=Ch.nil) (j:=i - 1) (by omega) (by rw [e2]; simp only at h; omega)] at hq
    exact RetR.scal hq rfl (by simp [resV])
   ·have h:=of_decide_eq_false h
    rw [if_pos trivial]
    refine⟨⟨i+1,by omega,.inl hlt,fun j hj=> ?_⟩,by show l.length - (i+1)<l.length - i; omega,by simp [SOdC,chS,za],by simp,by kernel_rfl,Nat.zero_le _⟩
    rcases Nat.lt_or_ge (j+1) i with h1 | h1
    ·exact hib j h1
    ·have:j=i - 1:=by omega
     rw [this,e2]; simp only at h; omega
  ·have hge:l.length≤i:=by have:=of_decide_eq_false hge; omega
   rw [Vl (z:=Ch.nil) fun j hj=>hib j (by omega)] at hq
   exact RetR.scal hq rfl (by simp [resV])
def envP(p:List Fx×List Ch):Prop:=p.1.length<2^40∧p.2.length<2^40∧(∀ j,j<p.1.length→xo (p.1.getD j Fx.nil))∧∀ j,j<p.2.length→xv (p.2.getD j Ch.nil)
def XP:Ctr:=ctrP true (fun p:List Fx×List Ch=>[envA p.1 p.2]) envP (fun p r=>r=errE p.1 p.2) (fun _ (r:Int)=>(.int .i64 r,[]))
noncomputable def GE5:Nat→Option Ctr:=fun f=>if f=37 then some (zfa) else if f=38 then some (zfe) else if f=39 then some (zff) else if f=41 then some (zfo) else none
theorem zgz:∀ g c,GE5 g=some c→zc Tryz.prog g c:=okIf ze2 (okIf zf2 (okIf zds (okIf ze6 (zt))))
theorem YE:zc Tryz.prog 9 XP:=by
 refine ze (fn:=Tryz.f9) (c:=Tryz.f9.body.getD .skip) rfl rfl rfl fun p hp O w0 Q hq=> ?_
 obtain⟨f,c⟩:=p
 obtain⟨h1,h2,h3,h4⟩:=hp
 replace hq:=hq _ rfl
 simp only at hq h1 h2 h3 h4
 refine zb.run hmix zgz [] 400 (T:=.ite (bif decide ((1000:Int)<f.length) then true else decide ((1000:Int)<c.length)) (.leaf (.ret [.int .i64 4] [.box [.sl f.length 3 (fxG f),.sl c.length 4 (chG c)]])) (.ex (fun(x:List Fx)=>eqL [AV.sl f.length 3 (fxG f),AV.fn 32 [] []] [AV.sl x.length 3 (fxG x),AV.fn 32 [] []]∧x.length<1099511627776∧∀ (j:Nat),j<x.length→xo (x.getD j Fx.nil)) fun n=>.all (fun(r:Bool)=>r=List.any n fun(x:Fx)=> !okF x) fun n=>.ex (fun(x:List Ch)=>n=false→eqL [AV.sl c.length 4 (chG c),AV.fn 36 [] []] [AV.sl x.length 4 (chG x),AV.fn 36 [] []]∧x.length<1099511627776∧∀ (j:Nat),j<x.length→xv (x.getD j Ch.nil)) fun n_1=>.all (fun(x:Bool)=>n=false→x=List.any n_1 fun(x:Ch)=> !okC x) fun n_2=>.ex (fun(x:List Fx)=>(bif n then true else n_2)=false→eqL [AV.sl f.length 3 (fxG f),AV.fn 40 [] []] [AV.sl x.length 3 (fxG x),AV.fn 40 [] []]∧x.length<1099511627776) fun n_3=>.all (fun(x:Bool)=>(bif n then true else n_2)=false→x=ordB cmpF Fx.nil n_3) fun n_4=>.ex (fun(x:List Ch)=>(bif bif n then true else n_2 then true else !n_4)=false→eqL [AV.sl c.length 4 (chG c),AV.fn 42 [] []] [AV.sl x.length 4 (chG x),AV.fn 42 [] []]∧x.length<1099511627776) fun n_5=>.all (fun(x:Bool)=>(bif bif n then true else n_2 then true else !n_4)=false→x=ordB cmpC Ch.nil n_5) fun n_6=>.ite (bif bif bif n then true else n_2 then true else !n_4 then true else !n_6) (.leaf (.ret [.int .i64 8] [.box [.sl f.length 3 (fxG f),.sl c.length 4 (chG c)]])) (.leaf (.ret [.int .i64 0] [.box [.sl f.length 3 (fxG f),.sl c.length 4 (chG c)]])))) (by kernel_rfl) ?_
 simp only [Tree.holds,zd]
 refine⟨fun h=> ?_,fun h=> ?_⟩
 ·have h:1000<f.length∨1000<c.length:=by
   rw [Bool.cond_eq_ite] at h
   split at h
   ·rename_i h1; left; have:=of_decide_eq_true h1; omega
   ·right; have:=of_decide_eq_true h; omega
  have:errE f c=4:=if_pos h
  rw [this] at hq; exact RetR.scal hq rfl (by simp [resV])
 ·have h:¬ (1000<f.length∨1000<c.length):=by
   rw [Bool.cond_eq_ite] at h
   split at h
   ·cases h
   ·rename_i h1
    have h2:=of_decide_eq_false h
    rintro(h3 | h3)
    ·exact h1 (decide_eq_true (by omega))
    ·omega
  have he:errE f c=if(f.all okF&&c.all okC&&ordB cmpF Fx.nil f&&ordB cmpC Ch.nil c)=true then 0 else 8:=if_neg h
  have a1:(f.any fun x=> !okF x) = !f.all okF:=by rw [List.not_all_eq_any_not]
  have a2:(c.any fun x=> !okC x) = !c.all okC:=by rw [List.not_all_eq_any_not]
  refine⟨f,⟨by simp [za],h1,h3⟩,⟨_,rfl⟩,?_⟩
  rintro _ rfl
  refine⟨c,fun _=>⟨by simp [za],h2,h4⟩,⟨_,fun _=>rfl⟩,?_⟩
  intro b1 g1
  refine⟨f,fun _=>⟨by simp [za],h1⟩,⟨_,fun _=>rfl⟩,?_⟩
  intro b2 g2
  refine⟨c,fun _=>⟨by simp [za],h2⟩,⟨_,fun _=>rfl⟩,?_⟩
  intro b3 g3
  rw [a1] at g1 g2 g3 ⊢
  rw [a2] at g1
  clear a1 a2
  generalize f.all okF=p1 at *
  generalize c.all okC=p2 at *
  generalize ordB cmpF Fx.nil f=p3 at *
  generalize ordB cmpC Ch.nil c=p4 at *
  have key:(bif bif bif !p1 then true else b1 then true else !b2 then true else !b3) = !(p1&&p2&&p3&&p4):=by
   cases p1 with
   | false=>rfl
   | true=>
    have g1:=g1 rfl
    subst g1
    cases p2 with
    | false=>rfl
    | true=>
     have g2:=g2 rfl
     subst g2
     cases b2 with
     | false=>rfl
     | true=>have g3:=g3 rfl; subst g3; rfl
  rw [key]
  clear key g1 g2 g3
  generalize (p1&&p2&&p3&&p4)=q at *
  refine⟨fun h=> ?_,fun h=> ?_⟩
  ·cases q with
   | true=>cases h
   | false=>rw [he,if_neg (by decide)] at hq; exact RetR.scal hq rfl (by simp [resV])
  ·cases q with
   | false=>cases h
   | true=>rw [he,if_pos rfl] at hq; exact RetR.scal hq rfl (by simp [resV])
noncomputable def K25:List Go.Sx.Item:=[.code (Tryz.f25.body.getD .skip)]
def SSE(i:Nat):KV:=[(2,.ptr 0 0),(3,.ptr 1 0),(5,.int .i64 (i:Int)),(6,.undef)]
def SSE2(i:Nat):KV:=[(2,.ptr 0 0),(3,.ptr 1 0),(5,.undef),(6,.int .i64 (i:Int))]
def HSE(f f2:List Fx)(c c2:List Ch):Heap:=[.box [fxS f,chS c],.box [fxS f2,chS c2]]
def VU:Ctr:=ctrP true (fun p:(List Fx×List Ch)×(List Fx×List Ch)=>[envA p.1.1 p.1.2,envA p.2.1 p.2.2]) (fun p=>p.1.1.length<2^40∧p.1.2.length<2^40) (fun p r=>(r=true↔p.1=p.2)) (fun _ (r:Bool)=>(.bool r,[]))
theorem W6{O:Nat→Prop}{w0:World}{Q:AV×Heap→Prop}{Hs:Nat→KV→Heap→Prop}(f f2:List Fx)(c c2:List Ch)(h2:c.length<2^40)(hf:f=f2)(hl:c.length=c2.length)(hq:∀ (r:Bool),(r=true↔(f,c)=(f2,c2))→Q (.bool r,[]))(kv:KV)(h:Heap)(hle:LeK 0 Tryz.f25.ntmps kv h (SSE2 0) (HSE f f2 c c2)) :
  zb Tryz.prog Tryz.f25 O 0 w0 [] Hs (RetR VU 0 Q) (.code (.loop (lps (inside K25 0) 0).1)::(lps (inside K25 0) 0).2) (mk Tryz.f25.ntmps kv h):=by
 refine zb.loop (ι:={i:Nat // i≤c.length∧∀ j,j<i→c.getD j Ch.nil=c2.getD j Ch.nil}) (fun i=>SSE2 i.1) (fun _=>HSE f f2 c c2) (fun i=>c.length - i.1) ⟨0,Nat.zero_le _,fun j hj=>by omega⟩ 0 hle ?_ (by kernel_rfl)
 rintro⟨i,hil,hib⟩
 refine zb.run hmix zB [2,3,5,6] 400 (T:=.ite (decide ((↑i:Int)<c.length)) (.side ((0:Int)≤i∧(↑i:Int)<c.length) (.side ((0:Int)≤i∧(↑i:Int)<c2.length) (.ite (!(decide (Ch.j9 (c.getD (↑i:Int).toNat Ch.nil)=Ch.j9 (c2.getD (↑i:Int).toNat Ch.nil))&&(decide (Ch.name (c.getD (↑i:Int).toNat Ch.nil)=Ch.name (c2.getD (↑i:Int).toNat Ch.nil))&&(decide (Ch.date (c.getD (↑i:Int).toNat Ch.nil)=Ch.date (c2.getD (↑i:Int).toNat Ch.nil))&&(Ch.first (c.getD (↑i:Int).toNat Ch.nil) == Ch.first (c2.getD (↑i:Int).toNat Ch.nil)&&true))))) (.leaf (.ret [.bool false] [.box [.sl f.length 3 (fxG f),.sl c.length 4 (chG c)],.box [.sl f2.length 3 (fxG f2),.sl c2.length 4 (chG c2)]])) (.side (inR .i64 ((↑i:Int)+(1:Int))) (.leaf (.back 0 [(2,.ptr 0 0),(3,.ptr 1 0),(5,.undef),(6,.int .i64 ((↑i:Int)+(1:Int)))] [.box [.sl f.length 3 (fxG f),.sl c.length 4 (chG c)],.box [.sl f2.length 3 (fxG f2),.sl c2.length 4 (chG c2)]])))))) (.leaf (.ret [.bool true] [.box [.sl f.length 3 (fxG f),.sl c.length 4 (chG c)],.box [.sl f2.length 3 (fxG f2),.sl c2.length 4 (chG c2)]]))) (by kernel_rfl) ?_
 simp only [Tree.holds,zd,inR,lo,hi,Int.toNat_natCast]
 refine⟨fun hlt=> ?_,fun hge=> ?_⟩
 ·have hlt:i<c.length:=by have:=of_decide_eq_true hlt; omega
  refine⟨by omega,fun _=>⟨by omega,fun _=>⟨fun h=> ?_,fun h=>⟨by omega,fun _=> ?_⟩⟩⟩⟩
  ·refine RetR.scal (hq false ⟨fun h=>(by cases h),fun he=> ?_⟩) rfl (by simp [resV])
   have hc:c=c2:=(Prod.mk.inj he).2
   have:=Ch.eq_iff.2 (show c.getD i Ch.nil=c2.getD i Ch.nil by rw [hc])
   rw [this] at h; cases h
  ·rw [if_pos trivial]
   have he:=Ch.eq_iff.1 (by simpa only [Bool.not_eq_false'] using h)
   refine⟨⟨i+1,hlt,fun j hj=> ?_⟩,by show c.length - (i+1)<c.length - i; omega,by simp [SSE2],by simp [HSE,fxS,chS,za],by kernel_rfl,Nat.zero_le _⟩
   rcases Nat.lt_or_ge j i with h1 | h1
   ·exact hib j h1
   ·have:j=i:=by omega
    rw [this]; exact he
 ·have hge:i=c.length:=by have:=of_decide_eq_false hge; omega
  subst hge
  have hc:=WL hl hib
  exact RetR.scal (hq true ⟨fun _=>by rw [hf,hc],fun _=>rfl⟩) rfl (by simp [resV])
theorem zcg:zc Tryz.prog 25 VU:=by
 refine ze (fn:=Tryz.f25) (c:=Tryz.f25.body.getD .skip) rfl rfl rfl fun p hp O w0 Q hq=> ?_
 obtain⟨⟨f,c⟩,⟨f2,c2⟩⟩:=p
 obtain⟨h1,h2⟩:=hp
 simp only at hq h1 h2
 refine zb.run hmix zB [2,3,5,6] 400 (T:=.ite (bif !decide ((↑f.length:Int)=f2.length) then true else !decide ((↑c.length:Int)=c2.length)) (.leaf (.ret [.bool false] [.box [.sl f.length 3 (fxG f),.sl c.length 4 (chG c)],.box [.sl f2.length 3 (fxG f2),.sl c2.length 4 (chG c2)]])) (.leaf (.loop (Prod.fst (lps K25 0)) (Prod.snd (lps K25 0)) [(2,.ptr 0 0),(3,.ptr 1 0),(5,.int .i64 0),(6,.undef)] [.box [.sl f.length 3 (fxG f),.sl c.length 4 (chG c)],.box [.sl f2.length 3 (fxG f2),.sl c2.length 4 (chG c2)]]))) (by kernel_rfl) ?_
 simp only [Tree.holds,zd]
 refine⟨fun h=> ?_,fun h=> ?_⟩
 ·refine RetR.scal (hq false ⟨fun h=>(by cases h),fun he=> ?_⟩) rfl (by simp [resV])
  obtain⟨e1,e2⟩:=Prod.mk.inj he
  subst e1; subst e2
  simp at h
 ·have hl:f.length=f2.length∧c.length=c2.length:=by
   by_cases e1:f.length=f2.length
   ·by_cases e2:c.length=c2.length
    ·exact⟨e1,e2⟩
    ·rw [decide_eq_false (show ¬ ((c.length:Nat):Int)=c2.length by omega)] at h
     rw [decide_eq_true (show((f.length:Nat):Int)=f2.length by omega)] at h
     cases h
   ·rw [decide_eq_false (show ¬ ((f.length:Nat):Int)=f2.length by omega)] at h
    cases h
  refine zb.loop (ι:={i:Nat // i≤f.length∧∀ j,j<i→f.getD j Fx.nil=f2.getD j Fx.nil}) (fun i=>SSE i.1) (fun _=>HSE f f2 c c2) (fun i=>f.length - i.1) ⟨0,Nat.zero_le _,fun j hj=>by omega⟩ 0 ?_ ?_ (by kernel_rfl)
  ·exact⟨by simp [SSE],by simp [HSE,fxS,chS,za],by kernel_rfl,Nat.zero_le _⟩
  ·rintro⟨i,hil,hib⟩
   refine zb.run hmix zB [2,3,5,6] 400 (T:=.ite (decide ((↑i:Int)<f.length)) (.side ((0:Int)≤i∧(↑i:Int)<f.length) (.side ((0:Int)≤i∧(↑i:Int)<f2.length) (.ite (!(decide (Fx.name (f.getD (↑i:Int).toNat Fx.nil)=Fx.name (f2.getD (↑i:Int).toNat Fx.nil))&&(decide (Fx.date (f.getD (↑i:Int).toNat Fx.nil)=Fx.date (f2.getD (↑i:Int).toNat Fx.nil))&&(decide (Fx.value (f.getD (↑i:Int).toNat Fx.nil)=Fx.value (f2.getD (↑i:Int).toNat Fx.nil))&&true)))) (.leaf (.ret [.bool false] [.box [.sl f.length 3 (fxG f),.sl c.length 4 (chG c)],.box [.sl f2.length 3 (fxG f2),.sl c2.length 4 (chG c2)]])) (.side (inR .i64 ((↑i:Int)+(1:Int))) (.leaf (.back 0 [(2,.ptr 0 0),(3,.ptr 1 0),(5,.int .i64 ((↑i:Int)+(1:Int))),(6,.undef)] [.box [.sl f.length 3 (fxG f),.sl c.length 4 (chG c)],.box [.sl f2.length 3 (fxG f2),.sl c2.length 4 (chG c2)]])))))) (.leaf (.loop (Prod.fst (lps (inside K25 0) 0)) (Prod.snd (lps (inside K25 0) 0)) [(2,.ptr 0 0),(3,.ptr 1 0),(5,.int .i64 i),(6,.int .i64 0)] [.box [.sl f.length 3 (fxG f),.sl c.length 4 (chG c)],.box [.sl f2.length 3 (fxG f2),.sl c2.length 4 (chG c2)]]))) (by kernel_rfl) ?_
   simp only [Tree.holds,zd,inR,lo,hi,Int.toNat_natCast]
   refine⟨fun hlt=> ?_,fun hge=> ?_⟩
   ·have hlt:i<f.length:=by have:=of_decide_eq_true hlt; omega
    refine⟨by omega,fun _=>⟨by omega,fun _=>⟨fun h=> ?_,fun h=>⟨by omega,fun _=> ?_⟩⟩⟩⟩
    ·refine RetR.scal (hq false ⟨fun h=>(by cases h),fun he=> ?_⟩) rfl (by simp [resV])
     have hc:f=f2:=(Prod.mk.inj he).1
     have:=Fx.eq_iff.2 (show f.getD i Fx.nil=f2.getD i Fx.nil by rw [hc])
     rw [this] at h; cases h
    ·rw [if_pos trivial]
     have he:=Fx.eq_iff.1 (by simpa only [Bool.not_eq_false'] using h)
     refine⟨⟨i+1,hlt,fun j hj=> ?_⟩,by show f.length - (i+1)<f.length - i; omega,by simp [SSE],by simp [HSE,fxS,chS,za],by kernel_rfl,Nat.zero_le _⟩
     rcases Nat.lt_or_ge j i with h1 | h1
     ·exact hib j h1
     ·have:j=i:=by omega
      rw [this]; exact he
   ·have hge:i=f.length:=by have:=of_decide_eq_false hge; omega
    subst hge
    have hf:=WL hl.1 hib
    exact W6 f f2 c c2 h2 hf hl.2 hq _ _ ⟨by simp [SSE2],by simp [HSE,fxS,chS,za],by kernel_rfl,Nat.zero_le _⟩
theorem zev{n:Nat}{g:Nat→Nat→AV}{l:List Fx}(h:eqG n 3 g (fxG l)):newB (.arr n 3 g):=fun j o hj ho=>by rw [h j o hj ho]; exact X0 l j o ho
theorem XY{n:Nat}{g:Nat→Nat→AV}{l:List Ch}(h:eqG n 4 g (chG l)):newB (.arr n 4 g):=fun j o hj ho=>by rw [h j o hj ho]; exact XF l j o ho
def X7:Ctr:=ctrP true (fun l:List Ch=>[chS l]) (fun l=>l.length<2^40) (fun _ (_:Unit)=>True) (fun l _=>(.osl 0 4 0 l.length,[.arr l.length 4 (chG l)]))
theorem Y7:zc Tryz.prog 27 X7:=by
 refine Wv (fn:=Tryz.f27) (c:=Tryz.f27.body.getD .skip) rfl rfl rfl fun l hl O w0 Q hq=> ?_
 replace hq:=hq () trivial
 refine zb.run hmix zB [] 400 (T:=.all (fun(b:Bool)=>0<l.length→b=false) fun n=>.ite n (.leaf (.ret [.nils] [])) (.side (0=0∧0≤0∧(0+l.length)*48≤140737488355328) (.leaf (.ret [.osl 0 4 0 (0+l.length)] [.arr (0+l.length) 4 (appG 0 (zg 4 []) (chG l))])))) (by kernel_rfl) ?_
 simp only [Tree.holds,zd]
 refine⟨⟨false,fun _=>rfl⟩,fun b hb=>⟨fun h=> ?_,fun h=>⟨⟨trivial,Nat.le_refl _,by omega⟩,fun _=> ?_⟩⟩⟩
 ·have h0:l=[]:=by
   rcases Nat.eq_zero_or_pos l.length with h0 | h0
   ·exact List.length_eq_zero_iff.1 h0
   ·rw [hb h0] at h; cases h
  subst h0
  refine RetR.scal (.inr ⟨.osl 0 4 0 0,[(4,chG [])],by simp [upA2,upA1,upA0],?_⟩) (r:=.nils) rfl (by simp [resV])
  exact hq
 ·refine RetR.outs [0] rfl rfl (.inl hq) (fun _=>⟨?_,?_⟩) ?_ ?_ rfl
  ·simp [resV,new2,new1,new0,zy]
  ·simp only [List.mem_cons,List.not_mem_nil,or_false,forall_eq]
   exact XY (W4 _ _ _ _)
  ·simp [resV,exp2,exp1,exp0,zy,eqA2,eqL1]
  ·exact⟨⟨by omega,rfl,W4 _ _ _ _⟩,trivial⟩
end Go.Proofs.Tryz
end
section
namespace Go.Sx
variable [Stat]
theorem yG{a b sz o:Nat}(h:a<b)(ho:o<sz):a*sz+o<b*sz:=by
 have:(a+1)*sz≤b*sz:=Nat.mul_le_mul_right _ h
 rw [Nat.succ_mul] at this; omega
end Go.Sx
end
section
set_option maxRecDepth 100000
open Go Go.Sx Go.Proofs Go.Nov
namespace Go.Proofs.Tryz
attribute [local simp] eqKV eqA eqA0 eqH eqB eqL eqL0
theorem kf{α:Type}{l m:List α}{a:Nat}(h:a+m.length≤l.length)(k:Nat):(l.take a++m++l.drop (a+m.length))[k]?=if k<a then l[k]? else if k<a+m.length then m[k - a]? else l[k]?:=by
 have hl:(l.take a).length=a:=by rw [List.length_take]; omega
 rw [List.getElem?_append,List.getElem?_append,hl]
 simp only [List.length_append,hl]
 by_cases h1:k<a
 ·rw [if_pos (by omega),if_pos h1,if_pos h1,List.getElem?_take,if_pos h1]
 ·rw [if_neg h1,if_neg h1]
  by_cases h2:k<a+m.length
  ·rw [if_pos h2,if_pos h2]
  ·rw [if_neg h2,if_neg h2,List.getElem?_drop]; congr 1; omega
theorem vM{l:List Value}{o k j:Nat} : ((l.drop o).take k)[j]?=if j<k then l[o+j]? else none:=by
 rw [List.getElem?_take]
 split
 ·rw [List.getElem?_drop]
 ·rfl
theorem ze3{ctr:Ctr}{Q:AV×Heap→Prop}(e:Int)(h:Heap)(hq:Q (.tup [.agg [.osl 0 3 0 ([]:List Fx).length,.osl 1 4 0 ([]:List Ch).length],.int .i64 e],[.arr ([]:List Fx).length 3 (fxG []),.arr ([]:List Ch).length 4 (chG [])])):RetR ctr 0 (upQ Q) [.agg [.nils,.nils],.int .i64 e] h:=by
 refine RetR.out0 (r:=.tup [.agg [.nils,.nils],.int .i64 e]) (.inr ⟨_,[(3,fxG []),(4,chG [])],?_,hq⟩) (fun _=>by simp [resV,new2,new1,new0,zR]) (by simp [resV,exp2,exp1,exp0,ren0,eqA2,eqL1])
 simp [upA2,upA1,upA0,upL1,upL0]
theorem v7{f:List Fx}{c:List Ch}{x:Fx} : (putF f c x).1.1.length≤1000∧(putF f c x).1.2.length≤1000:=by
 unfold putF
 by_cases h0:errE f c≠0
 ·rw [if_pos h0]; simp
 ·rw [if_neg h0]
  have h:=Wf.1 (Classical.not_not.1 h0)
  split
  ·simp
  ·split
   ·simp
   ·split
    ·simp
    ·simp only; omega
noncomputable def K83:List Go.Sx.Item:=[.code (Tryz.f83.body.getD .skip)]
noncomputable def GOf0:Nat→Option Ctr:=fun f=>if f=91 then some (yc) else none
theorem XH:∀ g c,GOf0 g=some c→zc Tryz.prog g c:=okIf uU (zt)
def iofC:Ctr:=ctrP true (fun n:Nat=>[.int .i64 (n:Int)]) (fun n=>n≤9) (fun n (r:List UInt8)=>r=[UInt8.ofNat (48+n)]) (fun _ (r:List UInt8)=>(.str r,[]))
def SOf(n:Nat):KV:=[(0,.int .i64 (n:Int)),(3,.nils),(4,.bool (decide ((n:Int)<0)))]
theorem zgs:zc Tryz.prog 83 iofC:=by
 refine ze (fn:=Tryz.f83) (c:=Tryz.f83.body.getD .skip) rfl rfl rfl fun n hn O w0 Q hq=> ?_
 replace hq:=hq _ rfl
 refine zb.run hmix XH [0,3,4] 400 (T:=.leaf (.loop (Prod.fst (lps K83 0)) (Prod.snd (lps K83 0)) [(0,.int .i64 n),(3,.nils),(4,.bool (decide ((↑n:Int)<0)))] [])) (by kernel_rfl) ?_
 simp only [Tree.holds,zd,inR,lo,hi,Int.toNat_natCast]
 refine zb.loop (ι:=Unit) (fun _=>SOf n) (fun _=>[]) (fun _=>0) () 0 ?_ ?_ (by kernel_rfl)
 ·exact⟨by simp [SOf],by simp,by kernel_rfl,Nat.zero_le _⟩
 rintro⟨⟩
 refine zb.run hmix XH [0,3,4] 400 (T:=.side ((10:Int)≠0) (.side (inR .i64 (-Int.tmod (↑n:Int) (10:Int))) (.side (inR .i64 ((48:Int)+max (Int.tmod (↑n:Int) (10:Int)) (-Int.tmod (↑n:Int) (10:Int)))) (.side (inR .u8 ((48:Int)+max (Int.tmod (↑n:Int) (10:Int)) (-Int.tmod (↑n:Int) (10:Int)))) (.side (1≤140737488355328) (.side ((10:Int)≠0∧inR .i64 (Int.tdiv (↑n:Int) (10:Int))) (.ite (decide (Int.tdiv (↑n:Int) (10:Int)=0)) (.ite (decide ((↑n:Int)<0)) (.side (0=0∧1≤1∧2≤140737488355328) (.ex (fun(x:List Nat×Nat)=>eqL [AV.osl 0 1 0 2] [AV.osl 0 1 0 x.2]∧eqH [.arr 2 1 (appG 1 (zf (zg 1 [AV.int .u8 ((48:Int)+max (Int.tmod (↑n:Int) (10:Int)) (-Int.tmod (↑n:Int) (10:Int)))]) 0) (zf (zg 1 [AV.int .u8 45]) 0))] [.arr x.1.length 1 (natG .u8 x.1)]∧1=1∧x.2≤x.1.length∧x.1.length<4611686018427387904) fun n_1=>.all (fun(x:Unit)=>True) fun n_2=>.side (∀ (j:Nat),j<2→∃ (b:UInt8),AV.int .u8 (↑(List.getD (List.reverse (List.take n_1.2 n_1.1)++List.drop n_1.2 n_1.1) (0+j) 0):Int)=AV.int .u8 (↑(UInt8.toNat b):Int)) (.leaf (.ret [.str (wN 2 (zf (natG .u8 (List.reverse (List.take n_1.2 n_1.1)++List.drop n_1.2 n_1.1)) 0))] [.arr 1 1 (zg 1 [.int .u8 ((48:Int)+max (Int.tmod (↑n:Int) (10:Int)) (-Int.tmod (↑n:Int) (10:Int)))]),.arr n_1.1.length 1 (natG .u8 (List.reverse (List.take n_1.2 n_1.1)++List.drop n_1.2 n_1.1)),.arr 1 1 (zg 1 [.int .u8 45])])))) (.ex (fun(x:List Nat×Nat)=>eqL [AV.osl 0 1 0 1] [AV.osl 0 1 0 x.2]∧eqH [.arr 1 1 (zf (zg 1 [AV.int .u8 ((48:Int)+max (Int.tmod (↑n:Int) (10:Int)) (-Int.tmod (↑n:Int) (10:Int)))]) 0)] [.arr x.1.length 1 (natG .u8 x.1)]∧1=1∧x.2≤x.1.length∧x.1.length<4611686018427387904) fun n_1=>.all (fun(x:Unit)=>True) fun n_2=>.side (∀ (j:Nat),j<1→∃ (b:UInt8),AV.int .u8 (↑(List.getD (List.reverse (List.take n_1.2 n_1.1)++List.drop n_1.2 n_1.1) (0+j) 0):Int)=AV.int .u8 (↑(UInt8.toNat b):Int)) (.leaf (.ret [.str (wN 1 (zf (natG .u8 (List.reverse (List.take n_1.2 n_1.1)++List.drop n_1.2 n_1.1)) 0))] [.arr 1 1 (zg 1 [.int .u8 ((48:Int)+max (Int.tmod (↑n:Int) (10:Int)) (-Int.tmod (↑n:Int) (10:Int)))]),.arr n_1.1.length 1 (natG .u8 (List.reverse (List.take n_1.2 n_1.1)++List.drop n_1.2 n_1.1))])))) (.leaf (.back 0 [(0,.int .i64 (Int.tdiv (↑n:Int) (10:Int))),(3,.osl 1 1 0 1),(4,.bool (decide ((↑n:Int)<0)))] [.arr 1 1 (zg 1 [.int .u8 ((48:Int)+max (Int.tmod (↑n:Int) (10:Int)) (-Int.tmod (↑n:Int) (10:Int)))]),.arr 1 1 (zf (zg 1 [.int .u8 ((48:Int)+max (Int.tmod (↑n:Int) (10:Int)) (-Int.tmod (↑n:Int) (10:Int)))]) 0)]))))))))) (by kernel_rfl) ?_
 simp only [Tree.holds,zd,inR,lo,hi,Int.toNat_natCast]
 have e1:(n:Int).tmod 10=n:=by rw [Int.tmod_eq_emod_of_nonneg (by omega)]; omega
 have e2:(n:Int).tdiv 10=0:=by rw [Int.tdiv_eq_ediv_of_nonneg (by omega)]; omega
 have e3:max (n:Int) (-(n:Int))=n:=by omega
 rw [e1,e2,e3]
 refine⟨by decide,fun _=>⟨by omega,fun _=>⟨by omega,fun _=>⟨by omega,fun _=>⟨by decide,fun _=>⟨by decide,fun _=>⟨fun _=>⟨fun h=> ?_,fun _=> ?_⟩,fun h=> ?_⟩⟩⟩⟩⟩⟩⟩
 ·have:=of_decide_eq_true h; omega
 ·refine⟨([48+n],1),⟨⟨⟨rfl,rfl,rfl,rfl⟩,trivial⟩,⟨⟨rfl,rfl,fun j o hj ho=> ?_⟩,trivial⟩,trivial,by simp,by simp⟩,⟨(),trivial⟩,fun _ _=>⟨fun j hj=>⟨UInt8.ofNat (48+n),?_⟩,fun _=> ?_⟩⟩
  ·have:j=0:=by omega
   subst this
   have:o=0:=by omega
   subst this
   simp [zf,zg,natG]
  ·have:j=0:=by omega
   subst this
   have:(UInt8.ofNat (48+n)).toNat=48+n:=by simp; omega
   simp only [this]
   rfl
  ·refine RetR.scal hq rfl ?_
   simp only [resV,wN,zf,natG,List.range_succ,List.range_zero,List.nil_append,List.map_cons,List.map_nil]
   show AV.str [UInt8.ofNat (48+n)]=_
   rfl
 ·simp at h
noncomputable def GOf1:Nat→Option Ctr:=fun f=>if f=83 then some (iofC) else none
theorem XA:∀ g c,GOf1 g=some c→zc Tryz.prog g c:=okIf zgs (zt)
noncomputable def qofI:Ctr:=inlC Tryz.prog GOf1 100 Tryz.f55
theorem zd8:zc Tryz.prog 55 qofI:=zga hmix XA rfl rfl
def jQ(a:Ca):Prop:=a.name.length<2^38∧a.into.length<2^38∧a.ratio.length<2^38∧a.extra.length<2^38
def yo:Ctr:=ctrP true (fun a:Ca=>[a.av]) jQ (fun a r=>r=if a.ok=true then 0 else 8) (fun _ (r:Int)=>(.int .i64 r,[]))
noncomputable def GCa0:Nat→Option Ctr:=fun f=>if f=55 then some (qofI) else if f=57 then some (zfw) else if f=35 then some (yf) else if f=33 then some (VG) else none
theorem zdp:∀ g c,GCa0 g=some c→zc Tryz.prog g c:=okIf zd8 (okIf zex (okIf kW (okIf JL (zt))))
theorem xn:zc Tryz.prog 26 yo:=by
 refine ze (fn:=Tryz.f26) (c:=Tryz.f26.body.getD .skip) rfl rfl rfl fun a ha O w0 Q hq=> ?_
 obtain⟨h1,h2,h3,h4⟩:=ha
 replace hq:=hq _ rfl
 obtain⟨nm,io,d,rt,et⟩:=a
 refine zb.run hmix zdp [] 400 (T:=.ex (fun(x:Nat)=>eqL [AV.int .i64 0] [AV.int .i64 x]∧x≤9) fun n=>.all (fun(r:List UInt8)=>r=[UInt8.ofNat (48+n)]) fun n=>.ex (fun(x:List UInt8×List UInt8)=>eqL [AV.str rt,AV.str n] [AV.str x.1,AV.str x.2]∧x.1.length<2305843009213693952∧x.2.length<2305843009213693952) fun n=>.all (fun(r:Int×Int)=>r=cmpR n.1 n.2) fun n=>.ex (fun(x:List UInt8)=>eqL [AV.str nm] [AV.str x]∧x.length<4611686018427387904) fun n_1=>.all (fun(r:Bool)=>r=qe n_1) fun n_2=>.ex (fun(x:List UInt8)=>(!n_2)=false→eqL [AV.str io] [AV.str x]∧x.length<4611686018427387904) fun n_3=>.all (fun(x:Bool)=>(!n_2)=false→x=qe n_3) fun n_4=>.ex (fun(x:List UInt8)=>(bif bif bif bif bif !n_2 then true else !n_4 then true else decide (d<0) then true else decide ((99999:Int)<d) then true else !decide (n.2=0) then true else decide (n.1≤0))=false→eqL [AV.str et] [AV.str x]∧x.length<4611686018427387904) fun n_5=>.all (fun(x:Int)=>(bif bif bif bif bif !n_2 then true else !n_4 then true else decide (d<0) then true else decide ((99999:Int)<d) then true else !decide (n.2=0) then true else decide (n.1≤0))=false→x=errR n_5) fun n_6=>.ite (bif bif bif bif bif bif !n_2 then true else !n_4 then true else decide (d<0) then true else decide ((99999:Int)<d) then true else !decide (n.2=0) then true else decide (n.1≤0) then true else !decide (n_6=0)) (.leaf (.ret [.int .i64 8] [.box [.str nm,.str io,.int .i64 d,.str rt,.str et]])) (.leaf (.ret [.int .i64 0] [.box [.str nm,.str io,.int .i64 d,.str rt,.str et]]))) (by kernel_rfl) ?_
 simp only [Tree.holds,zd,inR,lo,hi,Int.toNat_natCast]
 have e48:[UInt8.ofNat (48+0)]=[48]:=rfl
 refine⟨0,⟨⟨⟨rfl,rfl⟩,trivial⟩,by omega⟩,⟨_,rfl⟩,?_⟩
 rintro _ rfl
 rw [e48]
 refine⟨(rt,[48]),⟨⟨rfl,rfl,trivial⟩,by show rt.length<_; simp only at h3; omega,by simp⟩,⟨_,rfl⟩,?_⟩
 rintro r rfl
 refine⟨nm,⟨⟨rfl,trivial⟩,by simp only at h1; omega⟩,⟨_,rfl⟩,?_⟩
 rintro _ rfl
 refine⟨io,fun _=>⟨⟨rfl,trivial⟩,by simp only at h2; omega⟩,⟨_,fun _=>rfl⟩,fun b2 g2=> ?_⟩
 refine⟨et,fun _=>⟨⟨rfl,trivial⟩,by simp only at h4; omega⟩,⟨_,fun _=>rfl⟩,fun b3 g3=> ?_⟩
 have key:(bif bif bif bif bif bif !qe nm then true else !b2 then true else decide (d<0) then true else decide (99999<d) then true else !decide ((cmpR rt [48]).2=0) then true else decide ((cmpR rt [48]).1≤0) then true else !decide (b3=0)) = !(Ca.mk nm io d rt et).ok:=by
  obtain⟨z1,z2⟩:=zcn (a:=rt)
  unfold Ca.ok
  simp only
  cases hn:qe nm with
  | false=>simp
  | true=>
   rw [g2 (by rw [hn]; rfl)]
   cases hi2:qe io with
   | false=>simp
   | true=>
    by_cases hd:dayB d=true
    ·have hd':=hd
     unfold dayB at hd'
     simp only [Bool.and_eq_true,decide_eq_true_eq] at hd'
     have q1:decide (d<0)=false:=decide_eq_false (by omega)
     have q2:decide (99999<d)=false:=decide_eq_false (by omega)
     by_cases hr:errR rt=0
     ·obtain⟨y1,y2⟩:=z2 hr
      by_cases hp:0<qv rt
      ·have y3:(cmpR rt [48]).1=1:=by rw [y2,if_neg (by grind),if_pos hp]
       rw [g3 (by rw [hn,g2 (by rw [hn]; rfl),hi2,q1,q2,y1,y3]; rfl),hd,y1,y3,q1,q2]
       simp [hr,hp]
      ·have y3:(cmpR rt [48]).1≤0:=by rw [y2,if_neg hp]; split<;>decide
       rw [decide_eq_true y3]
       simp [hp]
     ·rw [decide_eq_false (z1 hr)]
      simp [hr]
    ·have:(decide (d<0)||decide (99999<d))=true:=by
      unfold dayB at hd
      simp at hd ⊢
      omega
     have hd:dayB d=false:=by simpa using hd
     rw [hd]
     rw [Bool.or_eq_true] at this
     rcases this with h | h<;>simp [h]
 rw [key]
 refine⟨fun h=> ?_,fun h=> ?_⟩
 ·rw [if_neg (by simpa using h)] at hq
  exact RetR.scal hq rfl rfl
 ·rw [if_pos (by simpa using h)] at hq
  exact RetR.scal hq rfl rfl
def oldC:Ctr:=ctrP true (fun p:Ca×List UInt8=>[p.1.av,.str p.2]) (fun p=>jQ p.1∧p.2.length<2^38) (fun p r=>r=p.1.old p.2) (fun _ (r:List UInt8×Int)=>(.tup [.str r.1,.int .i64 r.2],[]))
noncomputable def GCa1:Nat→Option Ctr:=fun f=>if f=11 then some (zfd) else if f=12 then some (zfp) else none
theorem zek:∀ g c,GCa1 g=some c→zc Tryz.prog g c:=okIf zde (okIf zeo (zt))
theorem zbj:zc Tryz.prog 28 oldC:=by
 refine ze (fn:=Tryz.f28) (c:=Tryz.f28.body.getD .skip) rfl rfl rfl fun p hp O w0 Q hq=> ?_
 obtain⟨⟨nm,io,d,rt,et⟩,x⟩:=p
 obtain⟨⟨h1,h2,h3,h4⟩,h5⟩:=hp
 replace hq:=hq _ rfl
 simp only at h1 h2 h3 h4 h5 hq
 refine zb.run hmix zek [] 400 (T:=.ex (fun(x_1:List UInt8×List UInt8)=>eqL [AV.str rt,AV.str x] [AV.str x_1.1,AV.str x_1.2]∧x_1.1.length<2305843009213693952∧x_1.2.length<2305843009213693952) fun n=>.all (fun(r:List UInt8×Int)=>r=mulR n.1 n.2) fun n=>.ite (!decide (n.2=0)) (.leaf (.ret [.str #[].toList,.int .i64 n.2] [.box [.str nm,.str io,.int .i64 d,.str rt,.str et]])) (.ex (fun(x:List UInt8×List UInt8)=>eqL [AV.str n.1,AV.str et] [AV.str x.1,AV.str x.2]∧x.1.length<2305843009213693952∧x.2.length<2305843009213693952) fun n=>.all (fun(r:List UInt8×Int)=>r=addR n.1 n.2) fun n=>.leaf (.ret [.str n.1,.int .i64 n.2] [.box [.str nm,.str io,.int .i64 d,.str rt,.str et]]))) (by kernel_rfl) ?_
 simp only [Tree.holds,zd,inR,lo,hi,Int.toNat_natCast]
 refine⟨(rt,x),⟨⟨rfl,rfl,trivial⟩,by show rt.length<_; omega,by show x.length<_; omega⟩,⟨_,rfl⟩,?_⟩
 rintro _ rfl
 refine⟨fun h=> ?_,fun h=> ?_⟩
 ·have h:(mulR rt x).2≠0:=by simpa using h
  have e:(Ca.mk nm io d rt et).old x=([],(mulR rt x).2):=if_pos h
  rw [e] at hq
  exact RetR.scal hq rfl rfl
 ·have h:(mulR rt x).2=0:=by simpa using h
  have e:(Ca.mk nm io d rt et).old x=addR (mulR rt x).1 et:=if_neg (by rw [h]; simp)
  rw [e] at hq
  have hl:(mulR rt x).1.length≤2003:=zat rt x
  refine⟨((mulR rt x).1,et),⟨⟨rfl,rfl,trivial⟩,by show(mulR rt x).1.length<_; omega,by show et.length<_; omega⟩,⟨_,rfl⟩,?_⟩
  rintro _ rfl
  exact RetR.scal hq rfl rfl
def zf7:Ctr:=ctrP true (fun a:Ca=>[a.av]) (fun _=>True) (fun a r=>r=false→a.name.length≤1000∧a.into.length≤1000∧a.ratio.length≤1000∧a.extra.length≤1000) (fun _ (r:Bool)=>(.bool r,[]))
theorem zel:zc Tryz.prog 6 zf7:=by
 refine ze (fn:=Tryz.f6) (c:=Tryz.f6.body.getD .skip) rfl rfl rfl fun a ha O w0 Q hq=> ?_
 obtain⟨nm,io,d,rt,et⟩:=a
 refine zb.run hmix zB [] 400 (T:=.leaf (.ret [.bool (bif bif bif decide ((1000:Int)<nm.length) then true else decide ((1000:Int)<io.length) then true else decide ((1000:Int)<rt.length) then true else decide ((1000:Int)<et.length))] [.box [.str nm,.str io,.int .i64 d,.str rt,.str et]])) (by kernel_rfl) ?_
 simp only [Tree.holds,zd,inR,lo,hi,Int.toNat_natCast]
 refine RetR.scal (hq _ ?_) rfl rfl
 intro h
 by_cases g1:1000<nm.length
 ·rw [decide_eq_true (show(1000:Int)<nm.length by omega)] at h; simp at h
 by_cases g2:1000<io.length
 ·rw [decide_eq_true (show(1000:Int)<io.length by omega)] at h; simp at h
 by_cases g3:1000<rt.length
 ·rw [decide_eq_true (show(1000:Int)<rt.length by omega)] at h; simp at h
 by_cases g4:1000<et.length
 ·rw [decide_eq_true (show(1000:Int)<et.length by omega)] at h; simp at h
 exact⟨by simp only; omega,by simp only; omega,by simp only; omega,by simp only; omega⟩
def qofC:Ctr:=ctrP true (fun n:Nat=>[.int .i64 (n:Int)]) (fun n=>n≤9) (fun n (r:List UInt8)=>r=[UInt8.ofNat (48+n)]) (fun _ (r:List UInt8)=>(.str r,[]))
theorem zbm:zc Tryz.prog 55 qofC:=by
 refine ze (fn:=Tryz.f55) (c:=Tryz.f55.body.getD .skip) rfl rfl rfl fun n hn O w0 Q hq=> ?_
 replace hq:=hq _ rfl
 refine zb.run hmix XA [] 400 (T:=.ex (fun(x:Nat)=>eqL [AV.int .i64 n] [AV.int .i64 x]∧x≤9) fun n=>.all (fun(r:List UInt8)=>r=[UInt8.ofNat (48+n)]) fun n=>.leaf (.ret [.str n] [])) (by kernel_rfl) ?_
 simp only [Tree.holds,zd]
 refine⟨n,⟨⟨⟨rfl,rfl⟩,trivial⟩,hn⟩,⟨_,rfl⟩,?_⟩
 rintro _ rfl
 exact RetR.scal hq rfl (by simp [resV])
noncomputable def GAj:Nat→Option Ctr:=fun f=>if f=80 then some (zfy) else if f=55 then some (qofC) else none
theorem zh3:∀ g c,GAj g=some c→zc Tryz.prog g c:=okIf zdf (okIf zbm (zt))
noncomputable def GAjc(n:Nat):Nat→Option Ctr:=fun f=>if f=81 then some (Uw n) else GAj f
theorem zdc{n:Nat}(h:zc Tryz.prog 81 (Uw n)):∀ f c,GAjc n f=some c→zc Tryz.prog f c:=by
 intro f c hf
 simp only [GAjc] at hf
 split at hf
 ·rename_i hg; subst hg; cases hf; exact h
 ·exact zh3 f c hf
theorem U2(n:Nat)(ih:zc Tryz.prog 79 (adjC n)):zc Tryz.prog 79 (adjC (n+1)):=by
 refine wa (fn:=Tryz.f79) (c:=Tryz.f79.body.getD .skip) rfl rfl rfl (fun h=>by cases h) fun p hp O w0 σ0 Q hl0 hq=> ?_
 obtain⟨a,x⟩:=p
 obtain⟨h1,h2⟩:=hp
 simp only at h1 h2
 rw [Ex.size_eq] at h1 h2
 replace hq:=hq () trivial
 simp only [Ca.zg2] at hq
 refine zb.run hmix (zdc (zf3 n ih)) [] 400 (T:=.ite (bif decide (Ex.name x=Ca.name a) then bif decide (Ex.kind x=3) then true else bif decide (Ex.kind x=2) then decide (Ca.date a≤Ex.date x) else false else false) (.ex (fun(x:Nat)=>eqL [AV.int .i64 1] [AV.int .i64 x]∧x≤9) fun n=>.all (fun(r:List UInt8)=>r=[UInt8.ofNat (48+n)]) fun n=>.ite (!decide (Ca.ratio a=n)) (.ex (fun(x:List UInt8)=>eqL [AV.str (Ca.ratio a)] [AV.str x]∧True) fun n=>.all (fun(x:Unit)=>True) fun n_1=>.ex (fun(x:Nat)=>eqL [AV.int .i64 0] [AV.int .i64 x]∧x≤9) fun n_2=>.all (fun(r:List UInt8)=>r=[UInt8.ofNat (48+n_2)]) fun n_3=>.ite (!decide (Ca.extra a=n_3)) (.ex (fun(x:List UInt8)=>eqL [AV.str (Ca.extra a)] [AV.str x]∧True) fun n_4=>.all (fun(x:Unit)=>True) fun n_5=>.leaf (.ret [.agg [.int .u8 4,.str #[].toList,.str #[].toList,.int .i64 0,.osl 5 5 0 2]] [.box [.str (Ca.name a),.str (Ca.into a),.int .i64 (Ca.date a),.str (Ca.ratio a),.str (Ca.extra a)],.box [.fn 79 [] [.ptr 0 0,.ptr 1 0]],.box [.int .u8 4,.str #[].toList,.str #[].toList,.int .i64 0,.osl 5 5 0 2],.box [.int .u8 4,.str #[].toList,.str #[].toList,.int .i64 0,.osl 5 5 0 2],.arr 2 5 (zg 5 [.int .u8 (Ex.kind (Tm.kon n)),.str (Ex.rat (Tm.kon n)),.str (Ex.name (Tm.kon n)),.int .i64 (Ex.date (Tm.kon n)),.sl (List.length (Ex.sub (Tm.kon n))) 5 (Ex.deep (Tm.kon n)),.int .u8 x.kind,.str x.rat,.str (Ca.into a),.int .i64 x.date,.sl x.sub.length 5 (Ex.exG x.sub)]),.box [.int .u8 6,.str #[].toList,.str #[].toList,.int .i64 0,.osl 4 5 0 2,.int .u8 (Ex.kind (Tm.kon n_4)),.str (Ex.rat (Tm.kon n_4)),.str (Ex.name (Tm.kon n_4)),.int .i64 (Ex.date (Tm.kon n_4)),.sl (List.length (Ex.sub (Tm.kon n_4))) 5 (Ex.deep (Tm.kon n_4))]])) (.leaf (.ret [.agg [.int .u8 6,.str #[].toList,.str #[].toList,.int .i64 0,.osl 4 5 0 2]] [.box [.str (Ca.name a),.str (Ca.into a),.int .i64 (Ca.date a),.str (Ca.ratio a),.str (Ca.extra a)],.box [.fn 79 [] [.ptr 0 0,.ptr 1 0]],.box [.int .u8 6,.str #[].toList,.str #[].toList,.int .i64 0,.osl 4 5 0 2],.box [.int .u8 6,.str #[].toList,.str #[].toList,.int .i64 0,.osl 4 5 0 2],.arr 2 5 (zg 5 [.int .u8 (Ex.kind (Tm.kon n)),.str (Ex.rat (Tm.kon n)),.str (Ex.name (Tm.kon n)),.int .i64 (Ex.date (Tm.kon n)),.sl (List.length (Ex.sub (Tm.kon n))) 5 (Ex.deep (Tm.kon n)),.int .u8 x.kind,.str x.rat,.str (Ca.into a),.int .i64 x.date,.sl x.sub.length 5 (Ex.exG x.sub)])]))) (.ex (fun(x:Nat)=>eqL [AV.int .i64 0] [AV.int .i64 x]∧x≤9) fun n=>.all (fun(r:List UInt8)=>r=[UInt8.ofNat (48+n)]) fun n=>.ite (!decide (Ca.extra a=n)) (.ex (fun(x:List UInt8)=>eqL [AV.str (Ca.extra a)] [AV.str x]∧True) fun n=>.all (fun(x:Unit)=>True) fun n_1=>.leaf (.ret [.agg [.int .u8 4,.str #[].toList,.str #[].toList,.int .i64 0,.osl 4 5 0 2]] [.box [.str (Ca.name a),.str (Ca.into a),.int .i64 (Ca.date a),.str (Ca.ratio a),.str (Ca.extra a)],.box [.fn 79 [] [.ptr 0 0,.ptr 1 0]],.box [.int .u8 4,.str #[].toList,.str #[].toList,.int .i64 0,.osl 4 5 0 2],.box [.int .u8 4,.str #[].toList,.str #[].toList,.int .i64 0,.osl 4 5 0 2],.arr 2 5 (zg 5 [.int .u8 x.kind,.str x.rat,.str (Ca.into a),.int .i64 x.date,.sl x.sub.length 5 (Ex.exG x.sub),.int .u8 (Ex.kind (Tm.kon n)),.str (Ex.rat (Tm.kon n)),.str (Ex.name (Tm.kon n)),.int .i64 (Ex.date (Tm.kon n)),.sl (List.length (Ex.sub (Tm.kon n))) 5 (Ex.deep (Tm.kon n))])])) (.leaf (.ret [.agg [.int .u8 x.kind,.str x.rat,.str (Ca.into a),.int .i64 x.date,.sl x.sub.length 5 (Ex.exG x.sub)]] [.box [.str (Ca.name a),.str (Ca.into a),.int .i64 (Ca.date a),.str (Ca.ratio a),.str (Ca.extra a)],.box [.fn 79 [] [.ptr 0 0,.ptr 1 0]],.box [.int .u8 x.kind,.str x.rat,.str (Ca.into a),.int .i64 x.date,.sl x.sub.length 5 (Ex.exG x.sub)],.box [.int .u8 x.kind,.str x.rat,.str (Ca.into a),.int .i64 x.date,.sl x.sub.length 5 (Ex.exG x.sub)]])))) (.ex (fun(x_1:Ca×Ex)=>eqL [x.exA,AV.fn 79 [] [AV.ptr 0 0,AV.ptr 1 0]] [x_1.2.exA,AV.fn 79 [] [AV.ptr 0 0,AV.ptr 1 0]]∧eqH [.box [AV.str (Ca.name a),AV.str (Ca.into a),AV.int .i64 (Ca.date a),AV.str (Ca.ratio a),AV.str (Ca.extra a)],.box [AV.fn 79 [] [AV.ptr 0 0,AV.ptr 1 0]]] [.box [AV.str (Ca.name x_1.1),AV.str (Ca.into x_1.1),AV.int .i64 (Ca.date x_1.1),AV.str (Ca.ratio x_1.1),AV.str (Ca.extra x_1.1)],.box [AV.fn 79 [] [AV.ptr 0 0,AV.ptr 1 0]]]∧2=2∧Ex.zm x_1.2.sub<n∧Ex.zm x_1.2.sub<1099511627776) fun n=>.all (fun(x:Unit)=>True) fun n_1=>.leaf (.ret [(exD (Ex.mk n.2.kind n.2.rat n.2.name n.2.date (List.map (Ca.adj n.1) n.2.sub)))] [.box [.str (Ca.name n.1),.str (Ca.into n.1),.int .i64 (Ca.date n.1),.str (Ca.ratio n.1),.str (Ca.extra n.1)],.box [.fn 79 [] [.ptr 0 0,.ptr 1 0]],.box [.int .u8 x.kind,.str x.rat,.str x.name,.int .i64 x.date,.sl x.sub.length 5 (Ex.exG x.sub)],.box (Ex.cellsD (Ex.mk n.2.kind n.2.rat n.2.name n.2.date (List.map (Ca.adj n.1) n.2.sub)))]))) (by kernel_rfl) ?_
 simp only [Tree.holds,zd]
 obtain⟨c,hc⟩:∃ c,a.onX x.kind x.name x.date=c:=⟨_,rfl⟩
 rw [hc] at hq
 have hcc:(bif decide (x.name=a.name) then bif decide (x.kind=3) then true else bif decide (x.kind=2) then decide (a.date≤x.date) else false else false)=c:=by
  rw [← hc]; unfold Ca.onX
  cases decide (x.kind=3)<;>cases decide (x.kind=2)<;>cases decide (x.name=a.name)<;>cases decide (a.date≤x.date)<;>rfl
 rw [hcc]
 refine⟨fun h=> ?_,fun h=> ?_⟩
 ·rw [if_pos h] at hq
  have hq2:∀ y:Ex,Ca.rel a (.mk x.kind x.rat a.into x.date x.sub)=y→Q (exD y,HAd a):=fun y e=>by rw [← e]; exact hq
  unfold Ca.rel at hq2
  have e48:[UInt8.ofNat (48+0)]=[48]:=rfl
  have e49:[UInt8.ofNat (48+1)]=[49]:=rfl
  refine⟨1,⟨⟨⟨rfl,rfl⟩,trivial⟩,by decide⟩,⟨_,rfl⟩,?_⟩
  rintro _ rfl
  rw [e49]
  refine⟨fun h1=> ?_,fun h1=> ?_⟩<;>simp at h1
  ·refine⟨a.ratio,⟨⟨rfl,trivial⟩,trivial⟩,⟨(),trivial⟩,fun _ _=>⟨0,⟨⟨⟨rfl,rfl⟩,trivial⟩,by decide⟩,⟨_,rfl⟩,?_⟩⟩
   rintro _ rfl
   rw [e48]
   refine⟨fun h2=> ?_,fun h2=> ?_⟩<;>simp at h2
   ·rw [if_neg h2,if_neg h1] at hq2
    refine⟨a.extra,⟨⟨rfl,trivial⟩,trivial⟩,⟨(),trivial⟩,fun _ _=> ?_⟩
    exact RetR.Zk [0,1] rfl rfl (by show ∀ j,j<2→_; decide) rfl (hq2 _ rfl) (LeA.agg ⟨LeA.refl _,LeA.refl _,LeA.refl _,LeA.refl _,Ex.xJ (x:=Tm.opx 6 [Tm.kon a.ratio,Ex.mk x.kind x.rat a.into x.date x.sub]) (y:=Tm.kon a.extra) ⟨LeA.refl _,LeA.refl _,LeA.refl _,LeA.refl _,Ex.xJ (x:=Tm.kon a.ratio) (y:=Ex.mk x.kind x.rat a.into x.date x.sub) ⟨LeA.refl _,LeA.refl _,LeA.refl _,LeA.refl _,LeA.refl _,LeA.refl _,LeA.refl _,LeA.refl _,LeA.refl _,Ex.wu (Ex.mk x.kind x.rat a.into x.date x.sub),trivial⟩,LeA.refl _,LeA.refl _,LeA.refl _,LeA.refl _,LeA.refl _,trivial⟩,trivial⟩) (by simp [expH,expB,exp1,exp0,ren0,HAd,zy]) rfl
   ·rw [if_pos h2,if_neg h1] at hq2
    exact RetR.Zk [0,1] rfl rfl (by show ∀ j,j<2→_; decide) rfl (hq2 _ rfl) (LeA.agg ⟨LeA.refl _,LeA.refl _,LeA.refl _,LeA.refl _,Ex.xJ (x:=Tm.kon a.ratio) (y:=Ex.mk x.kind x.rat a.into x.date x.sub) ⟨LeA.refl _,LeA.refl _,LeA.refl _,LeA.refl _,LeA.refl _,LeA.refl _,LeA.refl _,LeA.refl _,LeA.refl _,Ex.wu (Ex.mk x.kind x.rat a.into x.date x.sub),trivial⟩,trivial⟩) (by simp [expH,expB,exp1,exp0,ren0,HAd,zy]) rfl
  ·refine⟨0,⟨⟨⟨rfl,rfl⟩,trivial⟩,by decide⟩,⟨_,rfl⟩,?_⟩
   rintro _ rfl
   rw [e48]
   refine⟨fun h2=> ?_,fun h2=> ?_⟩<;>simp at h2
   ·rw [if_neg h2,if_pos h1] at hq2
    refine⟨a.extra,⟨⟨rfl,trivial⟩,trivial⟩,⟨(),trivial⟩,fun _ _=> ?_⟩
    exact RetR.Zk [0,1] rfl rfl (by show ∀ j,j<2→_; decide) rfl (hq2 _ rfl) (LeA.agg ⟨LeA.refl _,LeA.refl _,LeA.refl _,LeA.refl _,Ex.xJ (x:=Ex.mk x.kind x.rat a.into x.date x.sub) (y:=Tm.kon a.extra) ⟨LeA.refl _,LeA.refl _,LeA.refl _,LeA.refl _,Ex.wu (Ex.mk x.kind x.rat a.into x.date x.sub),LeA.refl _,LeA.refl _,LeA.refl _,LeA.refl _,LeA.refl _,trivial⟩,trivial⟩) (by simp [expH,expB,exp1,exp0,ren0,HAd,zy]) rfl
   ·rw [if_pos h2,if_pos h1] at hq2
    exact RetR.Zk [0,1] rfl rfl (by show ∀ j,j<2→_; decide) rfl (hq2 _ rfl) (LeA.agg ⟨LeA.refl _,LeA.refl _,LeA.refl _,LeA.refl _,Ex.wu (Ex.mk x.kind x.rat a.into x.date x.sub),trivial⟩) (by simp [expH,expB,exp1,exp0,ren0,HAd,zy]) rfl
 rw [h,if_neg (by decide)] at hq
 refine⟨(a,x),⟨⟨wm x,by simp,trivial⟩,by simp,trivial,by show Ex.zm x.sub<n; omega,by show Ex.zm x.sub<_; omega⟩,⟨(),trivial⟩,fun _ _=> ?_⟩
 exact RetR.Zk [0,1] rfl rfl (by show ∀ j,j<2→_; decide) rfl hq (LeA.refl _) (by simp [expH,expB,exp1,exp0,ren0,HAd,zy]) rfl
theorem zeq(n:Nat):zc Tryz.prog 79 (adjC n):=by
 induction n with
 | zero=>
  intro args hc Q hq _
  simp only [adjC,ctrT] at hq
  obtain⟨x,⟨_,_,_,h,_⟩,_⟩:=hq
  exact absurd h (Nat.not_lt_zero _)
 | succ n ih=>exact U2 n ih
def Kb:Ctr:=ctrT false false (fun p:Ca×Ex=>[p.2.exA,.ptr 0 0,.ptr 1 0]) (fun p=>HAd p.1) (fun p=>p.2.size<2^40) (fun _ (_:Unit)=>True) (fun p _=>(exD (p.1.adj p.2),HAd p.1))
theorem zgi:zc Tryz.prog 79 Kb:=by
 intro args hc Q hq hf
 simp only [Kb,ctrT] at hq
 obtain⟨x,⟨h1,h2,h3,h4⟩,h5⟩:=hq
 exact zeq (x.2.size+1) args hc Q ⟨x,⟨h1,h2,h3,Nat.lt_succ_self _,h4⟩,h5⟩ hf
noncomputable def GAdj:Nat→Option Ctr:=fun f=>if f=79 then some (Kb) else none
theorem ze9:∀ g c,GAdj g=some c→zc Tryz.prog g c:=okIf zgi (zt)
def QZ:Ctr:=ctrP false (fun p:Ca×Ex=>[p.1.av,p.2.exA]) (fun p=>p.2.size<2^40) (fun _ (_:Unit)=>True) (fun p _=>(exD (p.1.adj p.2),[]))
theorem V7:zc Tryz.prog 52 QZ:=by
 refine ze (fn:=Tryz.f52) (c:=Tryz.f52.body.getD .skip) rfl rfl rfl fun p hp O w0 Q hq=> ?_
 obtain⟨a,x⟩:=p
 replace hq:=hq () trivial
 refine zb.run hmix ze9 [] 400 (T:=.ex (fun(x_1:Ca×Ex)=>eqL [x.exA,AV.ptr 0 0,AV.ptr 1 0] [x_1.2.exA,AV.ptr 0 0,AV.ptr 1 0]∧eqH [.box [AV.str (Ca.name a),AV.str (Ca.into a),AV.int .i64 (Ca.date a),AV.str (Ca.ratio a),AV.str (Ca.extra a)],.box [AV.fn 79 [] [AV.ptr 0 0,AV.ptr 1 0]]] [.box [AV.str (Ca.name x_1.1),AV.str (Ca.into x_1.1),AV.int .i64 (Ca.date x_1.1),AV.str (Ca.ratio x_1.1),AV.str (Ca.extra x_1.1)],.box [AV.fn 79 [] [AV.ptr 0 0,AV.ptr 1 0]]]∧2=2∧Ex.size x_1.2<1099511627776) fun n=>.all (fun(x:Unit)=>True) fun n_1=>.leaf (.ret [(exD (Ca.adj n.1 n.2))] [.box [.str (Ca.name n.1),.str (Ca.into n.1),.int .i64 (Ca.date n.1),.str (Ca.ratio n.1),.str (Ca.extra n.1)],.box [.int .u8 x.kind,.str x.rat,.str x.name,.int .i64 x.date,.sl x.sub.length 5 (Ex.exG x.sub)],.box (Ex.cellsD (Ca.adj n.1 n.2)),.box [.fn 79 [] [.ptr 0 0,.ptr 3 0]]])) (by kernel_rfl) ?_
 simp only [Tree.holds,zd]
 refine⟨(a,x),⟨⟨wm x,⟨rfl,rfl⟩,⟨rfl,rfl⟩,trivial⟩,by simp,trivial,hp⟩,⟨(),trivial⟩,fun _ _=> ?_⟩
 exact RetR.le0 hq (fun h=>by cases h) (LeA.refl _)
end Go.Proofs.Tryz
end
section
namespace Go.Nov
open Go.Sx
theorem Vz{k p:Int}(h:p∈qL k):p≠0:=by
 unfold qL Q5 at h
 cases e:shpL.find? (fun q=>q.1 == k) with
 | none=>rw [e] at h; simp at h
 | some q=>
  rw [e] at h
  simp only [Option.map_some,Option.getD_some] at h
  have hq:=List.mem_of_find?_eq_some e
  have all:∀ q∈shpL,∀ p∈q.2.1,p≠0:=by decide
  exact all q hq p h
theorem V2{k d:Int}{r n:List UInt8}{ss:List Int}(h:jd k r n d ss≠0):∀ p∈ss,p≠0:=by
 unfold jd at h
 split at h
 ·split at h
  ·rename_i h2
   rw [h2.2.2.2]
   exact fun p hp=>Vz hp
  ·exact absurd rfl h
 ·split at h
  ·rename_i h2
   unfold jg at h2
   have:ss=[]:=by simp at h2; exact h2.1
   rw [this]; simp
  ·exact absurd rfl h
theorem xU{k d:Int}{r n:List UInt8}{ss:List Int}(h:jd k r n d ss≠0)(hk:k=3∨k=2):r=[]∧ss=[]:=by
 have hs:js k=false:=by rcases hk with rfl | rfl<;>decide
 rw [KG hs] at h
 split at h
 ·rename_i h2
  unfold jg at h2
  rcases hk with rfl | rfl<;>simp at h2
  ·exact⟨h2.2.1.1,h2.1⟩
  ·exact⟨h2.2.1.1,h2.1⟩
 ·exact absurd rfl h
namespace Ca
mutual
theorem JW(a:Ca):∀ x:Ex,x.zC≠0→adj a x=chg a x
 | .mk k r n d s,h=>by
  rw [Ex.zC] at h
  rw [adj,chg]
  by_cases hh:a.onX k n d=true
  ·rw [if_pos hh,if_pos hh]
   have hk:k=3∨k=2:=by
    simp [onX] at hh
    rcases hh.2 with h1 | h1
    ·exact .inl h1
    ·exact .inr h1.1
   obtain⟨h1,h2⟩:=xU h hk
   have:s=[]:=by
    cases s with
    | nil=>rfl
    | cons x s=>rw [Ex.qR] at h2; cases h2
   rw [h1,this]
  ·rw [if_neg hh,if_neg hh,Jh a s (V2 h)]
theorem Jh(a:Ca):∀ s:List Ex,(∀ p∈Ex.qR s,p≠0)→adjs a s=chgs a s
 | [],_=>by rw [adjs,chgs]
 | x::s,h=>by
  rw [Ex.qR] at h
  rw [adjs,chgs,JW a x (h _ (by simp)),Jh a s (fun p hp=>h p (by simp [hp]))]
end
theorem UB(a:Ca)(y:Ex):(a.rel y).size≤y.size+4∧(a.rel y).zo≤y.zo+a.ratio.length+a.extra.length:=by
 unfold rel
 split<;>split<;>(try simp only [Tm.opx,Tm.kon,Ex.size,Ex.zm,Ex.zo,Ex.zO,List.length_nil])<;>omega
mutual
theorem uT(a:Ca):∀ x:Ex,(chg a x).size≤5*x.size∧(chg a x).zo≤x.zo+x.size*(a.into.length+a.ratio.length+a.extra.length)
 | .mk k r n d s=>by
  rw [chg]
  by_cases hh:a.onX k n d=true
  ·rw [if_pos hh]
   have h:=UB a (.mk k [] a.into d [])
   simp only [Ex.size,Ex.zm,Ex.zo,Ex.zO,List.length_nil] at h ⊢
   have hm:a.into.length+a.ratio.length+a.extra.length≤(1+Ex.zm s)*(a.into.length+a.ratio.length+a.extra.length):=Nat.le_mul_of_pos_left _ (by omega)
   omega
  ·rw [if_neg hh]
   have h:=QK a s
   simp only [Ex.size,Ex.zo,Nat.add_mul,Nat.one_mul] at h ⊢
   omega
theorem QK(a:Ca):∀ s:List Ex,Ex.zm (chgs a s)≤5*Ex.zm s∧Ex.zO (chgs a s)≤Ex.zO s+Ex.zm s*(a.into.length+a.ratio.length+a.extra.length)
 | []=>by rw [chgs]; simp [Ex.zm,Ex.zO]
 | x::s=>by
  have h1:=uT a x
  have h2:=QK a s
  rw [chgs]
  simp only [Ex.zm,Ex.zO,Nat.add_mul] at h1 h2 ⊢
  omega
end
theorem zd1{k d:Int}{s t n:List UInt8}{x:Ex}{l:List Int}{m:Nat}(h:XI k s t n x d l m=true):kn x=true∨x.zC≠0:=by
 have hn:numX x=true→x.zC≠0:=fun h=>by simp [numX] at h; omega
 have ht:truX x=true→x.zC≠0:=fun h=>by simp [truX] at h; omega
 unfold XI at h
 repeat' split at h
 all_goals simp only [Bool.and_eq_true,Bool.false_eq_true] at h
 all_goals first
  | exact h.elim
  | exact .inl h.2
  | exact .inr (hn h.2)
  | exact .inr (ht h.2)
  | exact .inr (hn h.1.1.2)
theorem Ua(a:Ca){x:Ex}(h:kn x=true∨x.zC≠0):adj a x=chg a x:=by
 rcases h with h | h
 ·obtain⟨k,r,n,d,s⟩:=x
  simp [kn,Ex.kind,Ex.rat,Ex.name,Ex.date,Ex.sub] at h
  obtain⟨h0,_,_,_,rfl⟩:=h
  obtain rfl:k=0:=of_decide_eq_true h0
  rw [adj,chg,adjs,chgs]
  have:a.onX 0 n d=false:=by simp [onX]
  rw [this]; simp
 ·exact JW a x h
mutual
theorem Yy(a:Ca):∀ c:Con,c.form=true→whole a.adj c=whole a.chg c
 | .mk k s t n x d l u,h=>by
  rw [Con.form,Bool.and_eq_true] at h
  rw [whole,whole,Ua a (zd1 h.1),Qg a u h.2]
theorem Qg(a:Ca):∀ u:List Con,Con.uO u=true→wA a.adj u=wA a.chg u
 | [],_=>by rw [wA,wA]
 | c::u,h=>by
  rw [Con.uO,Bool.and_eq_true] at h
  rw [wA,wA,Yy a c h.1,Qg a u h.2]
end
mutual
theorem K3(a:Ca):∀ c:Con,(whole a.chg c).nodes=c.nodes∧(whole a.chg c).big≤5*c.big+c.big*(a.into.length+a.ratio.length+a.extra.length)
 | .mk k s t n x d l u=>by
  have h1:=uT a x
  have h2:=uv a u
  rw [whole]
  simp only [Con.nodes,Con.big,Nat.add_mul] at h1 h2 ⊢
  omega
theorem uv(a:Ca):∀ u:List Con,Con.ki (wA a.chg u)=Con.ki u∧Con.bigs (wA a.chg u)≤5*Con.bigs u+Con.bigs u*(a.into.length+a.ratio.length+a.extra.length)
 | []=>by rw [wA]; simp [Con.ki,Con.bigs]
 | c::u=>by
  have h1:=K3 a c
  have h2:=uv a u
  rw [wA]
  simp only [Con.ki,Con.bigs,Nat.add_mul] at h1 h2 ⊢
  omega
end
def expr(a:Ca)(x:Ex):Ex×Int:=if a.ok=true then(if x.errX=0 then(if(chg a x).errX=0 then(chg a x,0) else(Ex.nil,(chg a x).errX)) else(Ex.nil,x.errX)) else(Ex.nil,8)
def conv(a:Ca)(c:Con):Con×Int:=if a.ok=true then(if c.errC=0 then(if(whole a.chg c).errC=0 then(whole a.chg c,0) else(Con.nil,(whole a.chg c).errC)) else(Con.nil,c.errC)) else(Con.nil,8)
end Ca
end Go.Nov
end
section
set_option maxRecDepth 100000
open Go Go.Sx Go.Proofs Go.Nov
namespace Go.Proofs.Tryz
attribute [local simp] eqKV eqA eqA0 eqH eqB eqL eqL0
noncomputable def GPex:Nat→Option Ctr:=fun f=>if f=26 then some (yo) else if f=51 then some (J6) else if f=52 then some (QZ) else none
theorem zen:∀ g c,GPex g=some c→zc Tryz.prog g c:=okIf xn (okIf Jn (okIf V7 (zt)))
def wv(a:Ca):Prop:=a.name.length≤1000∧a.into.length≤1000∧a.ratio.length≤1000∧a.extra.length≤1000
theorem K7{a:Ca}(h:wv a):jQ a:=by
 obtain⟨h1,h2,h3,h4⟩:=h
 exact⟨by omega,by omega,by omega,by omega⟩
theorem Wp{a:Ca}{x:Ex}(ha:wv a)(h1:x.size<2^20)(h2:x.zo<2^30):(a.chg x).size<2^40∧(a.chg x).zo<2^40:=by
 obtain⟨_,a2,a3,a4⟩:=ha
 obtain⟨s1,s2⟩:=Ca.uT a x
 have:x.size*(a.into.length+a.ratio.length+a.extra.length)≤2^20*3000:=Nat.mul_le_mul (by omega) (by omega)
 omega
theorem JF{e:Int} : eqA2 (.tup [.agg [.int .u8 0,.str [],.str [],.int .i64 0,.nils],.int .i64 e]) (.tup [exD Ex.nil,.int .i64 e]):=by
 simp [eqA2,eqL1,exD,Ex.nil,Ex.kind,Ex.rat,Ex.name,Ex.date,Ex.sub]
theorem JE{x:Ex}(h:x.errX=0):x.zC≠0:=by
 intro e
 unfold Ex.errX at h
 rw [if_pos e] at h
 split at h<;>simp at h
def Xx:Ctr:=ctrP false (fun p:Ca×Ex=>[p.1.av,p.2.exA]) (fun p=>wv p.1∧p.2.size<2^20∧p.2.zo<2^30) (fun _ (_:Unit)=>True) (fun p _=>(.tup [exD (p.1.expr p.2).1,.int .i64 (p.1.expr p.2).2],[]))
theorem XQ:zc Tryz.prog 14 Xx:=by
 refine ze (fn:=Tryz.f14) (c:=Tryz.f14.body.getD .skip) rfl rfl rfl fun p hp O w0 Q hq=> ?_
 obtain⟨a,x⟩:=p
 replace hq:=hq () trivial
 refine zb.run hmix zen [] 400 (T:=.ex (fun(x:Ca)=>eqL [AV.agg [AV.str (Ca.name a),AV.str (Ca.into a),AV.int .i64 (Ca.date a),AV.str (Ca.ratio a),AV.str (Ca.extra a)]] [AV.agg [AV.str (Ca.name x),AV.str (Ca.into x),AV.int .i64 (Ca.date x),AV.str (Ca.ratio x),AV.str (Ca.extra x)]]∧jQ x) fun n=>.all (fun(r:Int)=>r=if Ca.ok n=true then(0:Int) else(8:Int)) fun n=>.ite (!decide (n=0)) (.leaf (.ret [.agg [.int .u8 0,.str #[].toList,.str #[].toList,.int .i64 0,.nils],.int .i64 n] [.box [.str (Ca.name a),.str (Ca.into a),.int .i64 (Ca.date a),.str (Ca.ratio a),.str (Ca.extra a)],.box [.int .u8 x.kind,.str x.rat,.str x.name,.int .i64 x.date,.sl x.sub.length 5 (Ex.exG x.sub)],.box [.int .u8 0,.str #[].toList,.str #[].toList,.int .i64 0,.nils]])) (.ex (fun(x_1:Ex)=>eqL [x.exA] [x_1.exA]∧Ex.size x_1<1099511627776∧Ex.zo x_1<1099511627776) fun n=>.all (fun(r:Int)=>r=Ex.errX n) fun n=>.ite (!decide (n=0)) (.leaf (.ret [.agg [.int .u8 0,.str #[].toList,.str #[].toList,.int .i64 0,.nils],.int .i64 n] [.box [.str (Ca.name a),.str (Ca.into a),.int .i64 (Ca.date a),.str (Ca.ratio a),.str (Ca.extra a)],.box [.int .u8 x.kind,.str x.rat,.str x.name,.int .i64 x.date,.sl x.sub.length 5 (Ex.exG x.sub)],.box [.int .u8 0,.str #[].toList,.str #[].toList,.int .i64 0,.nils]])) (.ex (fun(x_1:Ca×Ex)=>eqL [AV.agg [AV.str (Ca.name a),AV.str (Ca.into a),AV.int .i64 (Ca.date a),AV.str (Ca.ratio a),AV.str (Ca.extra a)],x.exA] [AV.agg [AV.str (Ca.name x_1.1),AV.str (Ca.into x_1.1),AV.int .i64 (Ca.date x_1.1),AV.str (Ca.ratio x_1.1),AV.str (Ca.extra x_1.1)],x_1.2.exA]∧Ex.size x_1.2<1099511627776) fun n=>.all (fun(x:Unit)=>True) fun n_1=>.ex (fun(x:Ex)=>eqL [(exD (Ca.adj n.1 n.2))] [x.exA]∧Ex.size x<1099511627776∧Ex.zo x<1099511627776) fun n_2=>.all (fun(r:Int)=>r=Ex.errX n_2) fun n_3=>.ite (!decide (n_3=0)) (.leaf (.ret [.agg [.int .u8 0,.str #[].toList,.str #[].toList,.int .i64 0,.nils],.int .i64 n_3] [.box [.str (Ca.name a),.str (Ca.into a),.int .i64 (Ca.date a),.str (Ca.ratio a),.str (Ca.extra a)],.box [.int .u8 x.kind,.str x.rat,.str x.name,.int .i64 x.date,.sl x.sub.length 5 (Ex.exG x.sub)],.box [.int .u8 0,.str #[].toList,.str #[].toList,.int .i64 0,.nils],.box (Ex.cellsD (Ca.adj n.1 n.2))])) (.leaf (.ret [(exD (Ca.adj n.1 n.2)),.int .i64 0] [.box [.str (Ca.name a),.str (Ca.into a),.int .i64 (Ca.date a),.str (Ca.ratio a),.str (Ca.extra a)],.box [.int .u8 x.kind,.str x.rat,.str x.name,.int .i64 x.date,.sl x.sub.length 5 (Ex.exG x.sub)],.box (Ex.cellsD (Ca.adj n.1 n.2)),.box (Ex.cellsD (Ca.adj n.1 n.2))]))))) (by kernel_rfl) ?_
 simp only [Tree.holds,zd]
 obtain⟨ht,hx1,hx2⟩:=hp
 simp only at ht hx1 hx2 hq
 obtain⟨c1,c2⟩:=Wp ht hx1 hx2
 unfold Ca.expr at hq
 have ha:eqA (.agg [.str a.name,.str a.into,.int .i64 a.date,.str a.ratio,.str a.extra]) a.av:=⟨rfl,rfl,⟨rfl,rfl⟩,rfl,rfl,trivial⟩
 refine⟨a,⟨⟨ha,trivial⟩,K7 ht⟩,⟨_,rfl⟩,?_⟩
 rintro _ rfl
 by_cases hok:a.ok=true
 ·rw [if_pos hok] at hq ⊢
  refine⟨fun h=>by simp at h,fun _=> ?_⟩
  refine⟨x,⟨⟨wm x,trivial⟩,by omega,by omega⟩,⟨_,rfl⟩,?_⟩
  rintro _ rfl
  refine⟨fun h=> ?_,fun h=> ?_⟩<;>simp at h
  ·rw [if_neg h] at hq
   exact RetR.out0 hq (fun h=>by cases h) JF
  have e:a.adj x=a.chg x:=Ca.JW a x (JE h)
  rw [if_pos h] at hq
  refine⟨(a,x),⟨⟨ha,wm x,trivial⟩,by show x.size<_; omega⟩,⟨(),trivial⟩,fun _ _=> ?_⟩
  simp only [e]
  refine⟨a.chg x,⟨⟨wh _,trivial⟩,c1,c2⟩,⟨_,rfl⟩,?_⟩
  rintro _ rfl
  refine⟨fun h=> ?_,fun h=> ?_⟩<;>simp at h
  ·rw [if_neg h] at hq
   exact RetR.out0 hq (fun h=>by cases h) JF
  rw [if_pos h] at hq
  exact RetR.le0 hq (fun h=>by cases h) (LeA.refl _)
 ·rw [if_neg hok] at hq ⊢
  exact⟨fun _=>RetR.out0 hq (fun h=>by cases h) JF,fun h=>by simp at h⟩
end Go.Proofs.Tryz
end
section
namespace Go.Sx
variable [Stat]
def W5(P:Program)(g sz bytes:Nat):Prop:=∀ (b off n c i m vb voff vc:Nat) (cur vcur:Array Value) (el vel:TypeId) (w:World),0<m→i<n→n≤c→(n+m)*bytes≤140737488355328→vb≠b →
 w.heap[b]?=some (.cells cur el (0,0))→w.heap[vb]?=some (.cells vcur vel (0,0))→off+c*sz≤cur.size→voff+m*sz≤vcur.size →
 (∀ (j:Nat) (v:Value),j<n*sz→cur[off+j]?=some v→v.oneCell'=true)→(∀ (j:Nat) (v:Value),j<m*sz→vcur[voff+j]?=some v→v.oneCell'=true) →
 Calls P g #[.slice (some ⟨b,off,none⟩) n c,.int .i64 i,.slice (some ⟨vb,voff,none⟩) m vc] w fun e w'=>∃ (b' o' c':Nat) (cur':Array Value) (el':TypeId),
  e = .returned (.slice (some ⟨b',o',none⟩) (n+m) c')∧n+m≤c'∧w'.heap[b']?=some (.cells cur' el' (0,0))∧o'+c'*sz≤cur'.size ∧
  (∀ j,j<(n+m)*sz→cur'[o'+j]?=if j<i*sz then cur[off+j]? else if j<i*sz+m*sz then vcur[voff+(j - i*sz)]? else cur[off+(j - m*sz)]?) ∧
  (b'=b∨w.heap.size≤b')∧w.heap.size≤w'.heap.size∧(∀ k,k<w.heap.size→k≠b→w'.heap[k]?=w.heap[k]?)∧w'.os=w.os∧w'.tape=w.tape∧w'.output=w.output
def Ws(i m:Nat)(gl gv:Nat→Nat→AV):Nat→Nat→AV:=fun j o=>if j<i then gl j o else if j<i+m then gv (j - i) o else gl (j - m) o
theorem zam{P:Program}{g:Nat}{fn:Func}{c:Code}(hf:P.funcs[g]?=some fn)(hb:fn.body=some c) (hn:(fn.name == "runtime.NumGoroutine")=false) {sz bytes:Nat} (hsz:0<sz) (W:W5 P g sz bytes)
  {gl gv gt:Nat→Nat→AV} {n i m:Nat} (hm:0<m) (hi:i<n) (hbig:(n+m)*bytes≤140737488355328) (hgt:eqG (n+m) sz (Ws i m gl gv) gt) {ctr:Ctr} (hfr:ctr.fresh=false) (hmv:ctr.wD=true) (hpi:ctr.pins=0) {Q:AV×Heap→Prop}
  (hq:Q (.osl 0 sz 0 (n+m),[.arr (n+m) sz gt,.dead])):qQ P g ctr [.osl 0 sz 0 n,.int .i64 i,.osl 1 sz 0 m] [.arr n sz gl,.arr m sz gv] Q:=by
 intro O w σ vals hg hh hr
 simp only [RepL] at hr
 obtain⟨v0,r0,rfl,h0,v1,r1,rfl,h1,v2,r2,rfl,h2,rfl⟩:=hr
 simp only [Rep] at h0 h1 h2
 subst h1
 obtain⟨e0,he0,hl0,a0,cap,rfl,hnc,hr0⟩:=h0
 obtain⟨e1,he1,hl1,a1,vc,rfl,hvc,hr1⟩:=h2
 rcases hr0 with hr0 | ⟨ad,had,rfl,cur,el,hcur,hsize⟩
 ·omega
 rcases hr1 with hr1 | ⟨vd,hvd,rfl,vcur,vel,hvcur,hvsize⟩
 ·omega
 obtain⟨hen0,hz0 | ⟨ad',cs0,el0,had',hcs0,hs0,hc0⟩⟩:=hh.blk 0 e0 _ he0 rfl
 ·omega
 rw [had] at had'; cases had'
 rw [hcur] at hcs0; cases hcs0
 obtain⟨hen1,hz1 | ⟨vd',cs1,el1,hvd',hcs1,hs1,hc1⟩⟩:=hh.blk 1 e1 _ he1 rfl
 ·omega
 rw [hvd] at hvd'; cases hvd'
 rw [hvcur] at hcs1; cases hcs1
 have hne:vd.block≠ad.block:=fun h=>hh.inj 0 1 e0 e1 ad vd he0 he1 had hvd (by decide) h.symm
 have hmb:Mine σ ad.block:=⟨e0,List.mem_of_getElem? he0,ad,had,rfl⟩
 have hbw:ad.block<w.heap.size:=hh.lt 0 e0 ad he0 had
 simp only [Nat.zero_mul,Nat.add_zero,Nat.zero_add] at hsize hvsize ⊢
 have hn':¬ fn.name = "runtime.NumGoroutine" :=by simpa using hn
 left
 refine⟨by simp [callFunc,hf,hn',hb],?_⟩
 have hvfit:vd.off+m*sz≤vcur.size:=by simpa using hs1
 refine(W ad.block ad.off n cap i m vd.block vd.off vc cur vcur el vel w hm hi hnc hbig hne hcur hvcur hsize hvfit ?_ ?_).mono ?_
 ·intro j v hj hv
  have ho:j%sz<sz:=Nat.mod_lt _ hsz
  have hjn:j/sz<n:=Nat.div_lt_of_lt_mul (by rw [Nat.mul_comm]; exact hj)
  obtain⟨c,g1,g2,_⟩:=hc0 (j/sz) (j%sz) hjn ho
  have:j/sz*sz+j%sz=j:=by rw [Nat.mul_comm]; exact Nat.div_add_mod j sz
  rw [this,hv] at g1
  cases g1; exact g2
 ·intro j v hj hv
  have ho:j%sz<sz:=Nat.mod_lt _ hsz
  have hjn:j/sz<m:=Nat.div_lt_of_lt_mul (by rw [Nat.mul_comm]; exact hj)
  obtain⟨c,g1,g2,_⟩:=hc1 (j/sz) (j%sz) hjn ho
  have:j/sz*sz+j%sz=j:=by rw [Nat.mul_comm]; exact Nat.div_add_mod j sz
  rw [this,hv] at g1
  cases g1; exact g2
 rintro e w' ⟨b',o',c',cur',el',rfl,hc',hcur',hsz',hel,hb',hws,hkeep,hos,htape,hout⟩
 refine⟨_,rfl,.osl 0 sz 0 (n+m),[.arr (n+m) sz gt,.dead],[⟨some ⟨b',o',none⟩,n+m⟩,⟨none,0⟩],hq,?_⟩
 have hlt':b'<w'.heap.size:=(Array.getElem?_eq_some_iff.1 hcur').1
 have hmine:∀ b,Mine [⟨some ⟨b',o',none⟩,n+m⟩,⟨none,0⟩] b→b=b':=by
  rintro b ⟨e,he,ad2,h1,h2⟩
  simp only [List.mem_cons,List.not_mem_nil,or_false] at he
  rcases he with rfl | rfl
  ·cases h1; exact h2.symm
  ·cases h1
 have hown:∀ b,Own O [⟨some ⟨b',o',none⟩,n+m⟩,⟨none,0⟩] b→O b∨b=b':=fun b hb=>hb.imp id fun h=>hmine b h
 have hx:Ext (Own O σ) w (fun b=>Own O [⟨some ⟨b',o',none⟩,n+m⟩,⟨none,0⟩] b∨(ctr.fresh=true∧b<w.heap.size)) w':=by
  refine⟨hos,htape,hout,hws,fun b hb hno=>hkeep b hb fun h=>hno (.inr (h▸hmb)),fun b hb=> ?_⟩
  rcases hb with hb | ⟨hb,_⟩
  ·rcases hown b hb with hb | rfl
   ·exact .inl (.inl hb)
   ·rcases hb' with rfl | hb'
    ·exact .inl (.inr hmb)
    ·exact .inr hb'
  ·rw [hfr] at hb; cases hb
 refine⟨?_,⟨rfl,?_,?_,?_⟩,⟨fun b hb=>Nat.lt_of_lt_of_le (hg.old b hb) hws,?_,hg.stat.ext ⟨hx.os,hx.tape,hx.output,hx.size,hx.keep,fun b hb=>hx.grow b (.inl hb)⟩⟩,Nat.le_refl _,?_,⟨hos,htape,hout,hws,fun b hb hno=>hkeep b hb fun h=>hno (h▸hmb),fun b hb=> ?_⟩⟩
 ·simp only [Rep]
  exact⟨⟨some ⟨b',o',none⟩,n+m⟩,rfl,by simp,some ⟨b',o',none⟩,c',rfl,hc',.inr ⟨⟨b',o',none⟩,rfl,by simp,cur',el',hcur',by simpa using hsz'⟩⟩
 ·intro i j e f a b he hf ha hb hij
  match i,j with
  | 0,0=>exact absurd rfl hij
  | 0,1=>simp at hf; subst hf; cases hb
  | 1,_=>simp at he; subst he; cases ha
  | 0,j+2=>simp at hf
  | i+2,_=>simp at he
 ·intro i e a he ha
  match i with
  | 0=>simp at he; subst he; cases ha; exact hlt'
  | 1=>simp at he; subst he; cases ha
  | i+2=>simp at he
 ·intro k e b he hb
  match k with
  | 0=>
   simp at he hb; subst he; subst hb
   refine⟨rfl,.inr ⟨_,cur',el',rfl,hcur',?_,fun j o hj ho=> ?_⟩⟩
   ·have:(n+m)*sz≤c'*sz:=Nat.mul_le_mul_right _ hc'
    simp only; omega
   ·have hlt:=yG hj ho
    have he:=hel (j*sz+o) hlt
    have hg2:=hgt j o hj ho
    simp only
    rw [he,← hg2]
    simp only [Ws]
    by_cases h1:j<i
    ·rw [if_pos (yG h1 ho),if_pos h1]
     obtain⟨c,g1,g2,g3⟩:=hc0 j o (by omega) ho
     exact⟨c,g1,g2,zj hx _ _ g3⟩
    ·have h2:¬ j*sz+o<i*sz:=by
      have:i*sz≤j*sz:=Nat.mul_le_mul_right _ (by omega)
      omega
     rw [if_neg h2,if_neg h1]
     have hmul:(i+m)*sz=i*sz+m*sz:=Nat.add_mul _ _ _
     by_cases h3:j<i+m
     ·have hjs:(j - i)*sz+i*sz=j*sz:=by rw [← Nat.add_mul]; congr 1; omega
      have:=yG (a:=j - i) (b:=m) (sz:=sz) (by omega) ho
      rw [if_pos (by omega),if_pos h3]
      obtain⟨c,g1,g2,g3⟩:=hc1 (j - i) o (by omega) ho
      refine⟨c,?_,g2,zj hx _ _ g3⟩
      rw [← g1]; congr 1; omega
     ·have h4:(i+m)*sz≤j*sz:=Nat.mul_le_mul_right _ (by omega)
      rw [if_neg (by omega),if_neg h3]
      obtain⟨c,g1,g2,g3⟩:=hc0 (j - m) o (by omega) ho
      refine⟨c,?_,g2,zj hx _ _ g3⟩
      rw [← g1]; congr 1
      have:(j - m)*sz+m*sz=j*sz:=by rw [← Nat.add_mul]; congr 1; omega
      omega
  | 1=>simp at hb; subst hb; trivial
  | k+2=>simp at he
 ·intro k e ad2 he had2
  match k with
  | 0=>
   simp at he; subst he; cases had2
   simp only
   rcases hb' with rfl | hb'
   ·exact hg.dis 0 e0 ad he0 had
   ·intro hO; have:=hg.old _ hO; omega
  | 1=>simp at he; subst he; cases had2
  | k+2=>simp at he
 ·rw [hmv,hpi]
  intro k e he hk
  simp only [if_true,List.drop_zero,List.mem_range] at hk
  have hlt:=(List.getElem?_eq_some_iff.1 he).1
  have hl:=hh.len
  simp at hl hk
  omega
 ·rcases hmine b hb with rfl
  rcases hb' with rfl | hb'
  ·exact .inl hmb
  ·exact .inr hb'
end Go.Sx
end
section
set_option maxRecDepth 100000
open Go Go.Sx Go.Proofs Go.Nov
namespace Go.Proofs.Tryz
attribute [local simp] eqKV eqA eqA0 eqH eqB eqL eqL0
theorem KB:W5 Tryz.prog 31 3 40:=by
 intro b off n c i m vb voff vc cur vcur el vel w hm hi hnc hbig hne hB hV hfit hvfit h1 h2
 have hcl:((cur.toList.drop off).take (n*3)).length=n*3:=by
  have:n*3≤c*3:=Nat.mul_le_mul_right _ hnc
  simp; omega
 have hvl:((vcur.toList.drop voff).take (m*3)).length=m*3:=by simp; omega
 have hcs:∀ j v,((cur.toList.drop off).take (n*3))[j]?=some v→w.cell? ⟨b,off+j,none⟩=some v:=fun j v hj=>by
  rw [vM] at hj
  split at hj
  ·simp only [World.cell?,hB]; simpa using hj
  ·cases hj
 have hvs:∀ j v,((vcur.toList.drop voff).take (m*3))[j]?=some v→w.cell? ⟨vb,voff+j,none⟩=some v:=fun j v hj=>by
  rw [vM] at hj
  split at hj
  ·simp only [World.cell?,hV]; simpa using hj
  ·cases hj
 have h1c:∀ v∈(cur.toList.drop off).take (n*3),v.oneCell'=true:=fun v hv=>by
  obtain⟨j,hj⟩:=List.getElem?_of_mem hv
  rw [vM] at hj
  split at hj
  ·rename_i hlt; exact h1 j v hlt (by simpa using hj)
  ·cases hj
 have h1v:∀ v∈(vcur.toList.drop voff).take (m*3),v.oneCell'=true:=fun v hv=>by
  obtain⟨j,hj⟩:=List.getElem?_of_mem hv
  rw [vM] at hj
  split at hj
  ·rename_i hlt; exact h2 j v hlt (by simpa using hj)
  ·cases hj
 have hcg:∀ j,j<n*3→((cur.toList.drop off).take (n*3))[j]?=cur[off+j]?:=fun j hj=>by rw [vM,if_pos hj]; simp
 have hvg:∀ j,j<m*3→((vcur.toList.drop voff).take (m*3))[j]?=vcur[voff+j]?:=fun j hj=>by rw [vM,if_pos hj]; simp
 generalize (cur.toList.drop off).take (n*3)=cs at hcl hcs h1c hcg
 generalize (vcur.toList.drop voff).take (m*3)=vs at hvl hvs h1v hvg
 have hin3:i*3+3≤n*3:=by have:=Nat.mul_le_mul_right 3 (show i+1≤n from hi); omega
 have him:(i+m)*3=i*3+m*3:=Nat.add_mul _ _ _
 have hnm3:(n+m)*3=n*3+m*3:=Nat.add_mul _ _ _
 have hdl:(cs.drop (i*3)).length=n*3 - i*3:=by rw [List.length_drop,hcl]
 have hbw:b<w.heap.size:=(Array.getElem?_eq_some_iff.1 hB).1
 by_cases hroom:n+m≤c
 ·have hcn:(n+m)*3≤c*3:=Nat.mul_le_mul_right _ hroom
  obtain⟨X1,hX1⟩:∃ X1,X1=cur.toList.take (off+(i+m)*3)++cs.drop (i*3)++cur.toList.drop (off+(i+m)*3+(cs.drop (i*3)).length):=⟨_,rfl⟩
  obtain⟨X2,hX2⟩:∃ X2,X2=X1.take (off+i*3)++vs++X1.drop (off+i*3+vs.length):=⟨_,rfl⟩
  have hX1l:X1.length=cur.size:=by rw [hX1]; simp only [List.length_append,List.length_take,List.length_drop,Array.length_toList,hdl,hcl]; omega
  have hX2l:X2.length=cur.size:=by rw [hX2]; simp only [List.length_append,List.length_take,List.length_drop,hX1l,hvl]; omega
  have g1:∀ k:Nat,X1[k]?=(if k<off+(i+m)*3 then cur.toList[k]? else if k<off+(i+m)*3+(cs.drop (i*3)).length then(cs.drop (i*3))[k - (off+(i+m)*3)]? else cur.toList[k]?):=fun k=>by rw [hX1]; exact kf (by simp only [Array.length_toList,hdl]; omega) k
  have g2:∀ k:Nat,X2[k]?=(if k<off+i*3 then X1[k]? else if k<off+i*3+(vs).length then(vs)[k - (off+i*3)]? else X1[k]?):=fun k=>by rw [hX2]; exact kf (by rw [hX1l,hvl]; omega) k
  refine(WK b off n c i m vb voff vc cur vcur el vel cs vs w hm hi hroom (by omega) hne hB hV hfit hcl hvl hcs hvs h1c h1v X1 X2 hX1 hX2).mono ?_
  rintro e w' ⟨he,hh,hos,htape,hout⟩
  refine⟨b,off,c,X2.toArray,el,he,hroom,?_,by simp only [List.size_toArray,hX2l]; omega,?_,.inl rfl,?_,?_,hos,htape,hout⟩
  ·rw [hh]; exact setRow_heap _ b _ _ el _ (setRow_heap w b cur _ el _ hB)
  ·intro j hj
   simp only [List.getElem?_toArray,g2,g1,hvl,hdl]
   by_cases k1:j<i*3
   ·rw [if_pos (by omega),if_pos (by omega),if_pos k1]; simp
   ·rw [if_neg (by omega),if_neg k1]
    by_cases k2:j<i*3+m*3
    ·rw [if_pos (by omega),if_pos k2,show off+j - (off+i*3)=j - i*3 by omega,hvg _ (by omega)]
    ·rw [if_neg (by omega),if_neg k2,if_neg (by omega),if_pos (by omega),List.getElem?_drop,hcg _ (by omega)]; congr 1; omega
  ·rw [hh]; simp
  ·intro k hk hkb
   rw [hh,setRow_other _ b k _ hkb,setRow_other _ b k _ hkb]
 ·have hc1:c<n+m:=by omega
  obtain⟨G,hG⟩:∃ G,G=grownCap w (n+m) c 56:=⟨_,rfl⟩
  have hGn:n+m≤G:=by rw [hG]; exact grownCap_ge w _ _ _
  obtain⟨zs,hz⟩:∃ zs:List Value,Builtin.zeroCells (Value.agg #[.string ⟨#[]⟩,.int .i64 0,.string ⟨#[]⟩]).cells (n+m - i)=zs.toArray:=⟨_,(Array.toArray_toList).symm⟩
  obtain⟨rest,hrest⟩:∃ zs:List Value,Builtin.zeroCells (Value.agg #[.string ⟨#[]⟩,.int .i64 0,.string ⟨#[]⟩]).cells (G - (n+m))=zs.toArray:=⟨_,(Array.toArray_toList).symm⟩
  have hzl:zs.length=(n+m - i)*3:=by
   have:=congrArg Array.size hz
   simpa [Builtin.zeroCells,Value.cells] using this.symm
  have hrl:rest.length=(G - (n+m))*3:=by
   have:=congrArg Array.size hrest
   simpa [Builtin.zeroCells,Value.cells] using this.symm
  obtain⟨ROW,hROW⟩:∃ ROW,ROW=cs.take (i*3)++zs++rest:=⟨_,rfl⟩
  obtain⟨X1,hX1⟩:∃ X1,X1=ROW.take (i*3)++vs++ROW.drop (i*3+vs.length):=⟨_,rfl⟩
  obtain⟨X2,hX2⟩:∃ X2,X2=X1.take ((i+m)*3)++cs.drop (i*3)++X1.drop ((i+m)*3+(cs.drop (i*3)).length):=⟨_,rfl⟩
  have hsum:(n+m)*3+(G - (n+m))*3=G*3:=by rw [← Nat.add_mul]; congr 1; omega
  have hsum2:i*3+(n+m - i)*3=(n+m)*3:=by rw [← Nat.add_mul]; congr 1; omega
  have hROWl:ROW.length=G*3:=by
   rw [hROW]; simp only [List.length_append,List.length_take,hcl,hzl,hrl]; omega
  have hX1l:X1.length=G*3:=by rw [hX1]; simp only [List.length_append,List.length_take,List.length_drop,hROWl,hvl]; omega
  have hX2l:X2.length=G*3:=by rw [hX2]; simp only [List.length_append,List.length_take,List.length_drop,hX1l,hdl,hcl]; omega
  have g1:∀ k:Nat,X1[k]?=(if k<i*3 then ROW[k]? else if k<i*3+(vs).length then(vs)[k - (i*3)]? else ROW[k]?):=fun k=>by rw [hX1]; exact kf (by rw [hROWl,hvl]; omega) k
  have g2:∀ k:Nat,X2[k]?=(if k<(i+m)*3 then X1[k]? else if k<(i+m)*3+(cs.drop (i*3)).length then(cs.drop (i*3))[k - ((i+m)*3)]? else X1[k]?):=fun k=>by rw [hX2]; exact kf (by rw [hX1l,hdl]; omega) k
  have g0:∀ k,k<i*3→ROW[k]?=cs[k]?:=fun k hk=>by
   rw [hROW,List.append_assoc,List.getElem?_append_left (by rw [List.length_take]; omega),List.getElem?_take,if_pos hk]
  refine(Kt b off n c i m vb voff vc cur vcur el vel cs vs w hm hi hnc hc1 hbig hB hV hcl hvl hcs hvs h1c h1v zs hz G hG rest hrest ROW X1 X2 hROW hX1 hX2).mono ?_
  rintro e w' ⟨he,hh,hos,htape,hout⟩
  refine⟨w.heap.size,0,G,X2.toArray,56,he,hGn,?_,by simp only [List.size_toArray,hX2l]; omega,?_,.inr (Nat.le_refl _),?_,?_,hos,htape,hout⟩
  ·rw [hh]
   exact setRow_heap _ w.heap.size _ _ _ _ (setRow_heap _ w.heap.size _ _ _ _ (show((w.heap.push _))[w.heap.size]?=some (.cells ROW.toArray 56 (0,0)) from Array.getElem?_push_size))
  ·intro j hj
   simp only [List.getElem?_toArray,Nat.zero_add,g2,g1,hvl,hdl]
   by_cases k1:j<i*3
   ·rw [if_pos (by omega),if_pos k1,if_pos k1,g0 j k1,hcg j (by omega)]
   ·simp only [if_neg k1]
    by_cases k2:j<i*3+m*3
    ·rw [if_pos (by omega)]
     simp only [if_pos k2]
     exact hvg _ (by omega)
    ·simp only [if_neg k2]
     rw [if_neg (by omega),if_pos (by omega),List.getElem?_drop,hcg _ (by omega)]; congr 1; omega
  ·rw [hh,setRow_size,setRow_size]
   show _≤(w.heap.push _).size
   rw [Array.size_push]; omega
  ·intro k hk hkb
   rw [hh,setRow_other _ _ k _ (by omega),setRow_other _ _ k _ (by omega)]
   show(w.heap.push _)[k]?=_
   rw [Array.getElem?_push,if_neg (by omega)]
theorem Vc{l x:List Fx}{i:Nat}(hi:i≤l.length):eqG (l.length+x.length) 3 (Ws i x.length (fxG l) (fxG x)) (fxG (l.take i++x++l.drop i)):=by
 intro j o hj ho
 have hlt:(l.take i).length=i:=by rw [List.length_take]; omega
 have e:fxG (l.take i++x++l.drop i) j o=((l.take i++x++l.drop i).getD j Fx.nil).cell o:=rfl
 simp only [Ws]
 rw [e]
 simp only [List.getD,List.getElem?_append,List.length_append,hlt]
 by_cases h1:j<i
 ·rw [if_pos h1,if_pos (by omega),if_pos h1,List.getElem?_take,if_pos h1]; rfl
 ·rw [if_neg h1]
  by_cases h2:j<i+x.length
  ·rw [if_pos h2,if_pos h2,if_neg h1]; rfl
  ·rw [if_neg h2,if_neg h2,List.getElem?_drop,show i+(j - (i+x.length))=j - x.length by omega]; rfl
def zf6:Ctr:=ctrT false true (fun p:List Fx×List Fx×Nat=>[.osl 0 3 0 p.1.length,.int .i64 (p.2.2:Int),.osl 1 3 0 p.2.1.length]) (fun p=>[.arr p.1.length 3 (fxG p.1),.arr p.2.1.length 3 (fxG p.2.1)]) (fun p=>p.2.2≤p.1.length∧p.1.length<2^40∧p.2.1.length<2^40) (fun _ (_:Unit)=>True) (fun p (_:Unit)=>(.osl 0 3 0 (p.1.length+p.2.1.length),[.arr (p.1.length+p.2.1.length) 3 (fxG (p.1.take p.2.2++p.2.1++p.1.drop p.2.2)),.dead]))
def zc2:Ctr:=ctrT false true (fun p:List Fx×List Fx×Nat=>[.osl 0 3 0 p.1.length,.int .i64 (p.2.2:Int),.osl 1 3 0 p.2.1.length]) (fun p=>[.arr p.1.length 3 (fxG p.1),.arr p.2.1.length 3 (fxG p.2.1)]) (fun p=>(p.2.2=p.1.length∨p.2.1=[])∧p.2.2≤p.1.length∧p.1.length<2^40∧p.2.1.length<2^40) (fun _ (_:Unit)=>True) (fun p (_:Unit)=>(.osl 0 3 0 (p.1.length+p.2.1.length),[.arr (p.1.length+p.2.1.length) 3 (fxG (p.1.take p.2.2++p.2.1++p.1.drop p.2.2)),.dead]))
theorem Vo:zc Tryz.prog 31 zc2:=by
 refine wa (fn:=Tryz.f31) (c:=Tryz.f31.body.getD .skip) rfl rfl rfl (fun h=>by cases h) fun p hp O w0 σ0 Q hl0 hq=> ?_
 obtain⟨l,x,i⟩:=p
 obtain⟨h0,h1,h2,h3⟩:=hp
 replace hq:=hq () trivial
 simp only at hq h0 h1 h2 h3
 refine zb.run hmix zB [] 400 (T:=.side ((0:Int)≤i∧(↑i:Int)≤l.length) (.ite (decide ((↑x.length:Int)=0)) (.leaf (.ret [.osl 0 3 0 l.length] [.arr l.length 3 (fxG l),.arr x.length 3 (fxG x)])) (.ite (decide ((↑i:Int)=l.length)) (.side (0=0∧l.length≤l.length∧(l.length+x.length)*40≤140737488355328) (.leaf (.ret [.osl 0 3 0 (l.length+x.length)] [.arr (l.length+x.length) 3 (appG l.length (fxG l) (zf (fxG x) 0)),.arr x.length 3 (fxG x)]))) (.side (inR .i64 ((↑l.length:Int)+x.length)) .fail)))) (by kernel_rfl) ?_
 simp only [Tree.holds,zd]
 have fin:∀ (h:Heap) (g:Nat→Nat→AV) (m:Nat),h=[.arr (l.length+x.length) 3 g,.arr m 3 (fxG x)]→eqG (l.length+x.length) 3 g (fxG (l.take i++x++l.drop i))→RetR zc2 2 Q [.osl 0 3 0 (l.length+x.length)] h:=by
  rintro h g m rfl hg
  refine RetR.keep [0,1] rfl rfl (by show ∀ j,j<2→_; decide) rfl hq (by simp [resV,exp2,exp1,exp0,zy,eqA2]) ?_ rfl
  exact⟨⟨rfl,rfl,hg⟩,trivial,trivial⟩
 refine⟨by omega,fun _=>⟨fun h=> ?_,fun h=>⟨fun h'=>⟨⟨trivial,Nat.le_refl _,by omega⟩,fun _=> ?_⟩,fun h'=> ?_⟩⟩⟩
 ·have hx:x=[]:=by have:=of_decide_eq_true h; exact List.length_eq_zero_iff.1 (by omega)
  subst hx
  exact fin _ (fxG l) 0 rfl (by simp [za])
 ·have e:i=l.length:=by have:=of_decide_eq_true h'; omega
  refine fin _ _ _ rfl ?_
  have:=Vc (x:=x) h1
  refine kR ?_ this
  intro j o hj ho
  simp only [appG,Ws,zf,Nat.zero_add,e]
  split
  ·rfl
  ·rfl
 ·rcases h0 with h0 | h0
  ·exact absurd h0 (by have:=of_decide_eq_false h'; omega)
  ·subst h0; simp at h
theorem zet:zc Tryz.prog 31 zf6:=by
 intro args hc Q hq hfr
 obtain⟨⟨l,x,i⟩,⟨h1,h2,h3,h4,h5,h8⟩,h6,h7⟩:=hq
 simp only at h1 h2 h3 h4 h5 h7 h8
 rcases Nat.lt_or_ge i l.length with hlt | hge
 ·rcases Nat.eq_zero_or_pos x.length with hx | hx
  ·exact Vo args hc Q ⟨(l,x,i),⟨h1,h2,h3,.inr (List.length_eq_zero_iff.1 hx),h4,h5,h8⟩,h6,h7⟩ hfr
  ·exact qQ.le h1 (qQ.leH h2 h3 (zam (fn:=Tryz.f31) (c:=Tryz.f31.body.getD .skip) rfl rfl rfl (by decide) KB hx hlt (by omega) (Vc h4) rfl rfl rfl (h7 () trivial)))
 ·exact Vo args hc Q ⟨(l,x,i),⟨h1,h2,h3,.inl (by show i=l.length; omega),h4,h5,h8⟩,h6,h7⟩ hfr
end Go.Proofs.Tryz
end
section
namespace Go.Nov
open Go.Sx
structure Ev where
 v:List UInt8
 e:Int
 b:Bool
 g:Int
abbrev Ev.nil:Ev:=⟨[],0,false,0⟩
def zhu(k:Int)(a b:List UInt8):List UInt8×Int:=
 if k=7 then(if(cmpR a b).2≠0 then([],(cmpR a b).2) else(if(cmpR a b).1<0 then b else a,0))
 else(if(cmpR b a).2≠0 then([],(cmpR b a).2) else(if(cmpR b a).1<0 then b else a,0))
def opR(k:Int)(a b:List UInt8):List UInt8×Int:=if k=4 then addR a b else if k=5 then subR a b else if k=6 then mulR a b else zhu k a b
def fixR(f:List Fx)(a:List UInt8)(d:Int):List UInt8×Int:=if(zf9 f a d).2=true then((zf9 f a d).1,0) else([],30)
def zfg{α:Type}(z:α)(l0 l1:Ev)(f:List UInt8→List UInt8→α×Int):α×Int:=if l0.e≠0 then(z,l0.e) else if l1.e≠0 then(z,l1.e) else f l0.v l1.v
def valN(f:List Fx)(day k:Int)(r n:List UInt8)(d:Int)(l:List Ev):List UInt8×Int:=
 if k=1 then(r,0) else if k=2 then fixR f n d else if k=3 then fixR f n day
 else if k=9 then(if(l.getD 0 Ev.nil).g≠0 then([],(l.getD 0 Ev.nil).g) else if(l.getD 0 Ev.nil).b then((l.getD 1 Ev.nil).v,(l.getD 1 Ev.nil).e) else((l.getD 2 Ev.nil).v,(l.getD 2 Ev.nil).e))
 else zfg [] (l.getD 0 Ev.nil) (l.getD 1 Ev.nil) (opR k)
def zhx(k:Int)(a b:List UInt8):Bool×Int:=if(cmpR a b).2≠0 then(false,(cmpR a b).2) else(if k=11 then decide ((cmpR a b).1<0) else decide ((cmpR a b).1=0),0)
def hldN(k:Int)(l:List Ev):Bool×Int:=
 if 13≤k then(if(l.getD 0 Ev.nil).g≠0 then(false,(l.getD 0 Ev.nil).g) else if k=15 then(!(l.getD 0 Ev.nil).b,0)
  else if(l.getD 0 Ev.nil).b=decide (k=14) then((l.getD 0 Ev.nil).b,0) else((l.getD 1 Ev.nil).b,(l.getD 1 Ev.nil).g))
 else zfg false (l.getD 0 Ev.nil) (l.getD 1 Ev.nil) (zhx k)
def evN(f:List Fx)(day k:Int)(r n:List UInt8)(d:Int)(l:List Ev):Ev:=⟨(valN f day k r n d l).1,(valN f day k r n d l).2,(hldN k l).1,(hldN k l).2⟩
namespace Ex
mutual
def ev(f:List Fx)(day:Int):Ex→Ev
 | mk k r n d s=>evN f day k r n d (evs f day s)
def evs(f:List Fx)(day:Int):List Ex→List Ev
 | []=>[]
 | x::l=>ev f day x::evs f day l
end
end Ex
theorem zb1{a:List UInt8}(h:errR a=0):a.length≤2003:=by
 have h1:=(ZZ h).2.2.1
 rw [← h1]
 unfold qstr wz
 have g1:=wO (decide ((qv a).num<0)) (qv a).num.natAbs
 have g2:=wO (decide (((qv a).den:Int)<0)) ((qv a).den:Int).natAbs
 split
 ·omega
 ·simp only [List.length_append,List.length_cons,List.length_nil]
  omega
end Go.Nov
end
section
set_option maxRecDepth 100000
open Go Go.Sx Go.Proofs Go.Nov
namespace Go.Proofs.Tryz
attribute [local simp] eqKV eqA eqA0 eqH eqB eqL eqL0
noncomputable def K29:List Go.Sx.Item:=[.code (Tryz.f29.body.getD .skip)]
noncomputable def K8:List Go.Sx.Item:=[.code (Tryz.f8.body.getD .skip)]
def bf1C:Ctr:=ctrP true (fun p:Fx×List UInt8=>[p.1.av,.str p.2]) (fun _=>True) (fun p r=>r=if Op.bytesLess p.2 p.1.name=true then 1 else -1) (fun _ (r:Int)=>(.int .i64 r,[]))
theorem zgk:zc Tryz.prog 30 bf1C:=by
 refine ze (fn:=Tryz.f30) (c:=Tryz.f30.body.getD .skip) rfl rfl rfl fun p hp O w0 Q hq=> ?_
 obtain⟨f,s⟩:=p
 replace hq:=hq _ rfl
 simp only at hq
 refine zb.run hmix zB [] 400 (T:=.ite (Op.bytesLess f.name s||decide (Fx.name f=s)) (.leaf (.ret [.int .i64 (-1:Int)] [.box [.str f.name,.int .i64 f.date,.str f.value]])) (.leaf (.ret [.int .i64 1] [.box [.str f.name,.int .i64 f.date,.str f.value]]))) (by kernel_rfl) ?_
 simp only [Tree.holds,zd]
 have key:(Op.bytesLess f.name s||decide (f.name=s)) = !Op.bytesLess s f.name:=by
  rcases zbe f.name s with h | h | h
  ·have h2:Op.bytesLess s f.name=false:=Bool.eq_false_iff.2 fun g=>by have:=kC h g; rw [xu] at this; cases this
   rw [h,h2]; rfl
  ·rw [h,xu]; simp
  ·have h2:Op.bytesLess f.name s=false:=Bool.eq_false_iff.2 fun g=>by have:=kC h g; rw [xu] at this; cases this
   rw [h,h2]
   have:f.name≠s:=fun e=>by rw [e,xu] at h; cases h
   simp [this]
 rw [key]
 cases hb:Op.bytesLess s f.name with
 | true=>
  rw [hb,if_pos rfl] at hq
  exact⟨fun h=>by simp at h,fun _=>RetR.scal hq rfl (by simp [resV])⟩
 | false=>
  rw [hb,if_neg (by simp)] at hq
  exact⟨fun _=>RetR.scal hq rfl (by simp [resV]),fun h=>by simp at h⟩
theorem zh5{a:Ca}{l:List Fx}(hs:l.Pairwise fun x y=>cmpF x y<0){j:Nat}(hj:j<l.length):Op.bytesLess a.name (l.getD j Fx.nil).name=decide (a.at_ l≤j):=by
 obtain⟨h1,h2⟩:=Ca.zhg (a:=a) hs
 have e:l.getD j Fx.nil=l[j]:=by simp [List.getD,hj]
 rw [e]
 by_cases h:a.at_ l≤j
 ·rw [decide_eq_true h]
  refine h2 _ ?_
  rw [List.mem_iff_getElem]
  exact⟨j - a.at_ l,by rw [List.length_drop]; omega,by rw [List.getElem_drop]; congr 1; omega⟩
 ·rw [decide_eq_false h]
  refine h1 _ ?_
  rw [List.mem_iff_getElem]
  exact⟨j,by rw [List.length_take]; omega,by rw [List.getElem_take]⟩
noncomputable def GBs:Nat→Option Ctr:=fun f=>if f=30 then some (bf1C) else none
theorem zbk:∀ g c,GBs g=some c→zc Tryz.prog g c:=okIf zgk (zt)
def bsC:Ctr:=ctrP true (fun p:List Fx×Ca=>[fxS p.1,.str p.2.name,.fn 30 [] []]) (fun p=>p.1.length<2^40∧p.1.Pairwise fun x y=>cmpF x y<0) (fun p (r:Nat×Bool)=>r.1=p.2.at_ p.1) (fun _ (r:Nat×Bool)=>(.tup [.int .i64 (r.1:Int),.bool r.2],[]))
def SBs(l:List Fx)(a:Ca)(i j:Nat):KV:=[(0,fxS l),(1,.str a.name),(2,.fn 30 [] []),(8,.int .i64 (l.length:Int)),(9,.int .i64 (i:Int)),(10,.int .i64 (j:Int)),(40,.undef),(41,.undef),(42,.undef),(43,.undef),(44,.undef),(45,.undef),(46,.undef),(47,.undef)]
theorem zhv:zc Tryz.prog 29 bsC:=by
 refine ze (fn:=Tryz.f29) (c:=Tryz.f29.body.getD .skip) rfl rfl rfl fun p hp O w0 Q hq=> ?_
 obtain⟨l,a⟩:=p
 obtain⟨hl,hs⟩:=hp
 simp only at hl hs hq
 refine zb.run hmix zbk [0,1,2,8,9,10,40,41,42,43,44,45,46,47] 400 (T:=.leaf (.loop (Prod.fst (lps K29 0)) (Prod.snd (lps K29 0)) [(0,.sl l.length 3 (fxG l)),(1,.str (Ca.name a)),(2,.fn 30 [] []),(8,.int .i64 l.length),(9,.int .i64 0),(10,.int .i64 l.length),(40,.undef),(41,.undef),(42,.undef),(43,.undef),(44,.undef),(45,.undef),(46,.undef),(47,.undef)] [])) (by kernel_rfl) ?_
 simp only [Tree.holds,zd,inR,lo,hi,Int.toNat_natCast]
 refine zb.loop (ι:={p:Nat×Nat // p.1≤p.2∧p.2≤l.length∧p.1≤a.at_ l∧a.at_ l≤p.2}) (fun i=>SBs l a i.1.1 i.1.2) (fun _=>[]) (fun i=>i.1.2 - i.1.1) ⟨(0,l.length),Nat.zero_le _,Nat.le_refl _,Nat.zero_le _,Ca.zbg⟩ 0 ?_ ?_ (by kernel_rfl)
 ·exact⟨by simp [SBs,fxS,za],trivial,by kernel_rfl,Nat.zero_le _⟩
 ·rintro⟨⟨i,j⟩,hij,hjl,hia,haj⟩
  simp only at hij hjl hia haj
  refine zb.run hmix zbk [0,1,2,8,9,10,40,41,42,43,44,45,46,47] 400 (T:=.ite (decide ((↑i:Int)<j)) (.side (inR .i64 ((↑i:Int)+j)) (.side (inR .u64 ((↑i:Int)+j)) (.side ((0:Int)≤1∧(1:Int)≤64) (.side (inR .i64 (Int.fdiv ((↑i:Int)+j) (2:Int))) (.side ((0:Int)≤Int.fdiv ((↑i:Int)+j) (2:Int)∧Int.fdiv ((↑i:Int)+j) (2:Int)<l.length) (.ex (fun(x:Fx×List UInt8)=>eqL [AV.agg [AV.str (Fx.name (l.getD (Int.toNat (Int.fdiv ((↑i:Int)+j) (2:Int))) Fx.nil)),AV.int .i64 (Fx.date (l.getD (Int.toNat (Int.fdiv ((↑i:Int)+j) (2:Int))) Fx.nil)),AV.str (Fx.value (l.getD (Int.toNat (Int.fdiv ((↑i:Int)+j) (2:Int))) Fx.nil))],AV.str (Ca.name a)] [AV.agg [AV.str x.1.name,AV.int .i64 x.1.date,AV.str x.1.value],AV.str x.2]∧True) fun n=>.all (fun(r:Int)=>r=if Op.bytesLess n.2 n.1.name=true then(1:Int) else(-1:Int)) fun n=>.ite (decide (n<0)) (.side (inR .i64 (Int.fdiv ((↑i:Int)+j) (2:Int)+(1:Int))) (.leaf (.back 0 [(0,.sl l.length 3 (fxG l)),(1,.str (Ca.name a)),(2,.fn 30 [] []),(8,.int .i64 l.length),(9,.int .i64 (Int.fdiv ((↑i:Int)+j) (2:Int)+(1:Int))),(10,.int .i64 j),(40,.undef),(41,.undef),(42,.undef),(43,.undef),(44,.undef),(45,.undef),(46,.undef),(47,.undef)] []))) (.leaf (.back 0 [(0,.sl l.length 3 (fxG l)),(1,.str (Ca.name a)),(2,.fn 30 [] []),(8,.int .i64 l.length),(9,.int .i64 i),(10,.int .i64 (Int.fdiv ((↑i:Int)+j) (2:Int))),(40,.undef),(41,.undef),(42,.undef),(43,.undef),(44,.undef),(45,.undef),(46,.undef),(47,.undef)] [])))))))) (.side (decide ((↑i:Int)<l.length)=true→(0:Int)≤i∧(↑i:Int)<l.length) (.ex (fun(x:Fx×List UInt8)=>decide ((↑i:Int)<l.length)=true→eqL [AV.agg [AV.str (Fx.name (l.getD (↑i:Int).toNat Fx.nil)),AV.int .i64 (Fx.date (l.getD (↑i:Int).toNat Fx.nil)),AV.str (Fx.value (l.getD (↑i:Int).toNat Fx.nil))],AV.str (Ca.name a)] [AV.agg [AV.str x.1.name,AV.int .i64 x.1.date,AV.str x.1.value],AV.str x.2]∧True) fun n=>.all (fun(x:Int)=>decide ((↑i:Int)<l.length)=true→x=if Op.bytesLess n.2 n.1.name=true then(1:Int) else(-1:Int)) fun n=>.leaf (.ret [.int .i64 i,.bool (bif decide ((↑i:Int)<l.length) then decide (n=0) else false)] [])))) (by kernel_rfl) ?_
  simp only [Tree.holds,zd,inR,lo,hi,Int.toNat_natCast]
  have hm:((i:Int)+j).fdiv 2=(((i+j)/2:Nat):Int):=by
   rw [Int.fdiv_eq_ediv_of_nonneg _ (by decide)]; omega
  refine⟨fun h=> ?_,fun h=> ?_⟩
  ·have h:=of_decide_eq_true h
   rw [hm]
   obtain⟨m,hmd⟩:∃ m,(i+j)/2=m:=⟨_,rfl⟩
   have hml:m<j:=by omega
   have hmi:i≤m:=by omega
   rw [hmd]
   simp only [Int.toNat_natCast]
   refine⟨by omega,fun _=>⟨by omega,fun _=>⟨by omega,fun _=>⟨by omega,fun _=>⟨by omega,fun _=>⟨(l.getD m Fx.nil,a.name),⟨by simp,trivial⟩,⟨_,rfl⟩,?_⟩⟩⟩⟩⟩⟩
   rintro _ rfl
   rw [zh5 hs (show m<l.length by omega)]
   refine⟨fun h2=>⟨by omega,fun _=> ?_⟩,fun h2=> ?_⟩
   ·have h2:=of_decide_eq_true h2
    have h3:¬ a.at_ l≤m:=fun g=>by rw [decide_eq_true g] at h2; simp at h2
    rw [if_pos trivial]
    exact⟨⟨(m+1,j),by show m+1≤j; omega,hjl,by show m+1≤a.at_ l; omega,haj⟩,by show j - (m+1)<j - i; omega,by simp [SBs,fxS,za],trivial,by kernel_rfl,Nat.zero_le _⟩
   ·have h2:=of_decide_eq_false h2
    have h3:a.at_ l≤m:=Classical.byContradiction fun g=>by rw [decide_eq_false g] at h2; simp at h2
    rw [if_pos trivial]
    exact⟨⟨(i,m),hmi,by show m≤l.length; omega,hia,h3⟩,by show m - i<j - i; omega,by simp [SBs,fxS,za],trivial,by kernel_rfl,Nat.zero_le _⟩
  ·have h:=of_decide_eq_false h
   have e:i=a.at_ l:=by omega
   refine⟨fun h=>by have:=of_decide_eq_true h; omega,fun _=>⟨(l.getD i Fx.nil,a.name),fun _=>⟨by simp,trivial⟩,⟨_,fun _=>rfl⟩,fun n hn=> ?_⟩⟩
   exact RetR.scal (hq (i,decide ((i:Int)<l.length)&&decide (n=0)) e) rfl (by simp [resV])
def SCb(f:List Fx)(k m i:Nat):KV:=[(2,.ptr 0 0),(4,.ptr 2 0),(8,.osl 5 3 0 m),(9,.ptr 4 0),(33,fxS f),(34,.int .i64 (f.length:Int)),(35,.int .i64 (i:Int)),(45,.undef),(46,.undef),(47,.undef),(48,.undef),(49,.undef),(77,.undef),(78,.undef),(79,.undef),(80,.undef),(81,.undef)]
def HCb(a:Ca)(f:List Fx)(c:List Ch)(k m:List Fx):Heap:=[.box [.str a.name,.str a.into,.int .i64 a.date,.str a.ratio,.str a.extra],.box [fxS f,chS c],.box [.nils,.nils],.arr c.length 4 (chG c),.box [.osl 6 3 0 k.length,.osl 3 4 0 c.length],.arr m.length 3 (fxG m),.arr k.length 3 (fxG k)]
def VD:Ctr:=ctrP true (fun p:Ca×(List Fx×List Ch)=>[p.1.av,envA p.2.1 p.2.2]) (fun p=>jQ p.1∧envP p.2∧p.2.1.length≤1000000) (fun p r=>r=p.1.before p.2.1 p.2.2) (fun _ (r:(List Fx×List Ch)×Int)=>(.tup [.agg [.osl 0 3 0 r.1.1.length,.osl 1 4 0 r.1.2.length],.int .i64 r.2],[.arr r.1.1.length 3 (fxG r.1.1),.arr r.1.2.length 4 (chG r.1.2)]))
noncomputable def GBf:Nat→Option Ctr:=fun f=>if f=26 then some (yo) else if f=9 then some (XP) else if f=27 then some (X7) else if f=28 then some (oldC) else if f=29 then some (bsC) else if f=31 then some (zf6) else none
theorem zb8:∀ g c,GBf g=some c→zc Tryz.prog g c:=okIf xn (okIf YE (okIf Y7 (okIf zbj (okIf zhv (okIf zet (zt))))))
theorem Xw:zc Tryz.prog 8 VD:=by
 refine Wv (fn:=Tryz.f8) (c:=Tryz.f8.body.getD .skip) rfl rfl rfl fun p hp O w0 Q hq=> ?_
 obtain⟨a,f,c⟩:=p
 obtain⟨ha,he,hfl⟩:=hp
 replace hq:=hq _ rfl
 simp only at ha he hfl hq
 refine zb.run hmix zb8 [2,4,8,9,33,34,35,45,46,47,48,49,77,78,79,80,81] 400 (T:=.ex (fun(x:Ca)=>eqL [AV.agg [AV.str (Ca.name a),AV.str (Ca.into a),AV.int .i64 (Ca.date a),AV.str (Ca.ratio a),AV.str (Ca.extra a)]] [AV.agg [AV.str (Ca.name x),AV.str (Ca.into x),AV.int .i64 (Ca.date x),AV.str (Ca.ratio x),AV.str (Ca.extra x)]]∧jQ x) fun n=>.all (fun(r:Int)=>r=if Ca.ok n=true then(0:Int) else(8:Int)) fun n=>.ite (!decide (n=0)) (.leaf (.ret [.agg [.nils,.nils],.int .i64 n] [.box [.str (Ca.name a),.str (Ca.into a),.int .i64 (Ca.date a),.str (Ca.ratio a),.str (Ca.extra a)],.box [.sl f.length 3 (fxG f),.sl c.length 4 (chG c)],.box [.nils,.nils]])) (.ex (fun(x:List Fx×List Ch)=>eqL [AV.agg [AV.sl f.length 3 (fxG f),AV.sl c.length 4 (chG c)]] [AV.agg [AV.sl x.1.length 3 (fxG x.1),AV.sl x.2.length 4 (chG x.2)]]∧envP x) fun n=>.all (fun(r:Int)=>r=errE n.1 n.2) fun n=>.ite (!decide (n=0)) (.leaf (.ret [.agg [.nils,.nils],.int .i64 n] [.box [.str (Ca.name a),.str (Ca.into a),.int .i64 (Ca.date a),.str (Ca.ratio a),.str (Ca.extra a)],.box [.sl f.length 3 (fxG f),.sl c.length 4 (chG c)],.box [.nils,.nils]])) (.ex (fun(x:List Ch)=>eqL [AV.sl c.length 4 (chG c)] [AV.sl x.length 4 (chG x)]∧x.length<1099511627776) fun n=>.all (fun(x:Unit)=>True) fun n_1=>.leaf (.loop (Prod.fst (lps K8 0)) (Prod.snd (lps K8 0)) [(2,.ptr 0 0),(4,.ptr 2 0),(8,.nils),(9,.ptr 4 0),(33,.sl f.length 3 (fxG f)),(34,.int .i64 f.length),(35,.int .i64 0),(45,.undef),(46,.undef),(47,.undef),(48,.undef),(49,.undef),(77,.undef),(78,.undef),(79,.undef),(80,.undef),(81,.undef)] [.box [.str (Ca.name a),.str (Ca.into a),.int .i64 (Ca.date a),.str (Ca.ratio a),.str (Ca.extra a)],.box [.sl f.length 3 (fxG f),.sl c.length 4 (chG c)],.box [.nils,.nils],.arr n.length 4 (chG n),.box [.nils,.osl 3 4 0 n.length]])))) (by kernel_rfl) ?_
 simp only [Tree.holds,zd,inR,lo,hi,Int.toNat_natCast]
 have bad:∀ (e:Int) (h:Heap),a.before f c=(([],[]),e)→RetR VD 0 (upQ Q) [.agg [.nils,.nils],.int .i64 e] h:=fun e h hr=>by
  rw [hr] at hq
  exact ze3 e h hq
 refine⟨a,⟨by simp [Ca.av],ha⟩,⟨_,rfl⟩,?_⟩
 rintro _ rfl
 by_cases hok:¬ a.ok=true
 ·rw [if_neg hok]
  refine⟨fun _=>bad _ _ ?_,fun h=>by simp at h⟩
  unfold Ca.before; rw [if_pos (by simpa using hok)]
 replace hok:a.ok=true:=Classical.not_not.1 hok
 rw [if_pos hok]
 refine⟨fun h=>by simp at h,fun _=>⟨(f,c),⟨by simp [za],he⟩,⟨_,rfl⟩,?_⟩⟩
 rintro _ rfl
 refine⟨fun h=> ?_,fun h=> ?_⟩
 ·have h:errE f c≠0:=by simpa using h
  refine bad _ _ ?_
  unfold Ca.before; rw [if_neg (by simp [hok]),if_pos h]
 have hE:errE f c=0:=by simpa using h
 clear h
 refine⟨c,⟨by simp [za],?_⟩,⟨(),trivial⟩,fun _ _=> ?_⟩
 ·have:=Wf.1 hE; omega
 refine zb.bear 8 3 (fxG []) rfl (by decide) (by kernel_rfl) ?_
 refine zb.zi4 4 0 3 (fxG []) rfl rfl (by kernel_rfl) ?_
 refine zb.loop (ι:={i:Nat // i≤f.length∧a.err (f.take i)=0}) (fun i=>SCb f (a.kept (f.take i.1)).length (a.fresh (f.take i.1)).length i.1) (fun i=>HCb a f c (a.kept (f.take i.1)) (a.fresh (f.take i.1))) (fun i=>f.length - i.1) ⟨0,Nat.zero_le _,rfl⟩ 0 ?_ ?_ (by kernel_rfl)
 ·exact⟨by simp [SCb,uw,fxS,za,Ca.fresh],by simp [HCb,fxS,chS,za,Ca.fresh,Ca.kept],by kernel_rfl,Nat.zero_le _⟩
 ·rintro⟨i,hil,hie⟩
  obtain⟨k,hk⟩:∃ k,a.kept (f.take i)=k:=⟨_,rfl⟩
  obtain⟨m,hm⟩:∃ m,a.fresh (f.take i)=m:=⟨_,rfl⟩
  have hkl:k.length≤f.length:=by rw [← hk]; exact Ca.zaq f i
  have hml:m.length≤f.length:=by rw [← hm]; exact Ca.Ul f i
  simp only [hk,hm]
  refine zb.run hmix zb8 [2,4,8,9,33,34,35,45,46,47,48,49,77,78,79,80,81] 400 (T:=.ite (decide ((↑i:Int)<f.length)) (.side ((0:Int)≤i∧(↑i:Int)<f.length) (.ite (bif decide (Fx.name (f.getD (↑i:Int).toNat Fx.nil)=Ca.into a) then decide (Ca.date a≤Fx.date (f.getD (↑i:Int).toNat Fx.nil)) else false) (.ex (fun(x:Ca×List UInt8)=>eqL [AV.agg [AV.str (Ca.name a),AV.str (Ca.into a),AV.int .i64 (Ca.date a),AV.str (Ca.ratio a),AV.str (Ca.extra a)],AV.str (Fx.value (f.getD (↑i:Int).toNat Fx.nil))] [AV.agg [AV.str (Ca.name x.1),AV.str (Ca.into x.1),AV.int .i64 (Ca.date x.1),AV.str (Ca.ratio x.1),AV.str (Ca.extra x.1)],AV.str x.2]∧jQ x.1∧x.2.length<274877906944) fun n=>.all (fun(r:List UInt8×Int)=>r=Ca.old n.1 n.2) fun n=>.ite (!decide (n.2=0)) (.leaf (.ret [.agg [.nils,.nils],.int .i64 n.2] [.box [.str (Ca.name a),.str (Ca.into a),.int .i64 (Ca.date a),.str (Ca.ratio a),.str (Ca.extra a)],.box [.sl f.length 3 (fxG f),.sl c.length 4 (chG c)],.box [.nils,.nils],.arr c.length 4 (chG c),.box [.osl 6 3 0 k.length,.osl 3 4 0 c.length],.arr m.length 3 (fxG m),.arr k.length 3 (fxG k),.box [.str (Fx.name (f.getD (↑i:Int).toNat Fx.nil)),.int .i64 (Fx.date (f.getD (↑i:Int).toNat Fx.nil)),.str (Fx.value (f.getD (↑i:Int).toNat Fx.nil))]])) (.side (0=0∧m.length≤m.length∧(m.length+1)*40≤140737488355328) (.ite (bif !decide (Fx.name (f.getD (↑i:Int).toNat Fx.nil)=Ca.name a) then true else decide (Fx.date (f.getD (↑i:Int).toNat Fx.nil)<Ca.date a)) (.side (0=0∧k.length≤k.length∧(k.length+1)*40≤140737488355328) (.side (inR .i64 ((↑i:Int)+(1:Int))) (.leaf (.back 0 [(2,.ptr 0 0),(4,.ptr 2 0),(8,.osl 5 3 0 (m.length+1)),(9,.ptr 4 0),(33,.sl f.length 3 (fxG f)),(34,.int .i64 f.length),(35,.int .i64 ((↑i:Int)+(1:Int))),(45,.undef),(46,.undef),(47,.undef),(48,.undef),(49,.undef),(77,.undef),(78,.undef),(79,.undef),(80,.undef),(81,.undef)] [.box [.str (Ca.name a),.str (Ca.into a),.int .i64 (Ca.date a),.str (Ca.ratio a),.str (Ca.extra a)],.box [.sl f.length 3 (fxG f),.sl c.length 4 (chG c)],.box [.nils,.nils],.arr c.length 4 (chG c),.box [.osl 6 3 0 (k.length+1),.osl 3 4 0 c.length],.arr (m.length+1) 3 (appG m.length (fxG m) (zf (zg 3 [.str (Ca.name a),.int .i64 (Fx.date (f.getD (↑i:Int).toNat Fx.nil)),.str n.1]) 0)),.arr (k.length+1) 3 (appG k.length (fxG k) (zf (zg 3 [.str (Fx.name (f.getD (↑i:Int).toNat Fx.nil)),.int .i64 (Fx.date (f.getD (↑i:Int).toNat Fx.nil)),.str (Fx.value (f.getD (↑i:Int).toNat Fx.nil))]) 0)),.box [.str (Fx.name (f.getD (↑i:Int).toNat Fx.nil)),.int .i64 (Fx.date (f.getD (↑i:Int).toNat Fx.nil)),.str (Fx.value (f.getD (↑i:Int).toNat Fx.nil))],.arr 1 3 (zg 3 [.str (Ca.name a),.int .i64 (Fx.date (f.getD (↑i:Int).toNat Fx.nil)),.str n.1]),.arr 1 3 (zg 3 [.str (Fx.name (f.getD (↑i:Int).toNat Fx.nil)),.int .i64 (Fx.date (f.getD (↑i:Int).toNat Fx.nil)),.str (Fx.value (f.getD (↑i:Int).toNat Fx.nil))])])))) (.side (inR .i64 ((↑i:Int)+(1:Int))) (.leaf (.back 0 [(2,.ptr 0 0),(4,.ptr 2 0),(8,.osl 5 3 0 (m.length+1)),(9,.ptr 4 0),(33,.sl f.length 3 (fxG f)),(34,.int .i64 f.length),(35,.int .i64 ((↑i:Int)+(1:Int))),(45,.undef),(46,.undef),(47,.undef),(48,.undef),(49,.undef),(77,.undef),(78,.undef),(79,.undef),(80,.undef),(81,.undef)] [.box [.str (Ca.name a),.str (Ca.into a),.int .i64 (Ca.date a),.str (Ca.ratio a),.str (Ca.extra a)],.box [.sl f.length 3 (fxG f),.sl c.length 4 (chG c)],.box [.nils,.nils],.arr c.length 4 (chG c),.box [.osl 6 3 0 k.length,.osl 3 4 0 c.length],.arr (m.length+1) 3 (appG m.length (fxG m) (zf (zg 3 [.str (Ca.name a),.int .i64 (Fx.date (f.getD (↑i:Int).toNat Fx.nil)),.str n.1]) 0)),.arr k.length 3 (fxG k),.box [.str (Fx.name (f.getD (↑i:Int).toNat Fx.nil)),.int .i64 (Fx.date (f.getD (↑i:Int).toNat Fx.nil)),.str (Fx.value (f.getD (↑i:Int).toNat Fx.nil))],.arr 1 3 (zg 3 [.str (Ca.name a),.int .i64 (Fx.date (f.getD (↑i:Int).toNat Fx.nil)),.str n.1])])))))) (.ite (bif !decide (Fx.name (f.getD (↑i:Int).toNat Fx.nil)=Ca.name a) then true else decide (Fx.date (f.getD (↑i:Int).toNat Fx.nil)<Ca.date a)) (.side (0=0∧k.length≤k.length∧(k.length+1)*40≤140737488355328) (.side (inR .i64 ((↑i:Int)+(1:Int))) (.leaf (.back 0 [(2,.ptr 0 0),(4,.ptr 2 0),(8,.osl 5 3 0 m.length),(9,.ptr 4 0),(33,.sl f.length 3 (fxG f)),(34,.int .i64 f.length),(35,.int .i64 ((↑i:Int)+(1:Int))),(45,.undef),(46,.undef),(47,.undef),(48,.undef),(49,.undef),(77,.undef),(78,.undef),(79,.undef),(80,.undef),(81,.undef)] [.box [.str (Ca.name a),.str (Ca.into a),.int .i64 (Ca.date a),.str (Ca.ratio a),.str (Ca.extra a)],.box [.sl f.length 3 (fxG f),.sl c.length 4 (chG c)],.box [.nils,.nils],.arr c.length 4 (chG c),.box [.osl 6 3 0 (k.length+1),.osl 3 4 0 c.length],.arr m.length 3 (fxG m),.arr (k.length+1) 3 (appG k.length (fxG k) (zf (zg 3 [.str (Fx.name (f.getD (↑i:Int).toNat Fx.nil)),.int .i64 (Fx.date (f.getD (↑i:Int).toNat Fx.nil)),.str (Fx.value (f.getD (↑i:Int).toNat Fx.nil))]) 0)),.box [.str (Fx.name (f.getD (↑i:Int).toNat Fx.nil)),.int .i64 (Fx.date (f.getD (↑i:Int).toNat Fx.nil)),.str (Fx.value (f.getD (↑i:Int).toNat Fx.nil))],.arr 1 3 (zg 3 [.str (Fx.name (f.getD (↑i:Int).toNat Fx.nil)),.int .i64 (Fx.date (f.getD (↑i:Int).toNat Fx.nil)),.str (Fx.value (f.getD (↑i:Int).toNat Fx.nil))])])))) (.side (inR .i64 ((↑i:Int)+(1:Int))) (.leaf (.back 0 [(2,.ptr 0 0),(4,.ptr 2 0),(8,.osl 5 3 0 m.length),(9,.ptr 4 0),(33,.sl f.length 3 (fxG f)),(34,.int .i64 f.length),(35,.int .i64 ((↑i:Int)+(1:Int))),(45,.undef),(46,.undef),(47,.undef),(48,.undef),(49,.undef),(77,.undef),(78,.undef),(79,.undef),(80,.undef),(81,.undef)] [.box [.str (Ca.name a),.str (Ca.into a),.int .i64 (Ca.date a),.str (Ca.ratio a),.str (Ca.extra a)],.box [.sl f.length 3 (fxG f),.sl c.length 4 (chG c)],.box [.nils,.nils],.arr c.length 4 (chG c),.box [.osl 6 3 0 k.length,.osl 3 4 0 c.length],.arr m.length 3 (fxG m),.arr k.length 3 (fxG k),.box [.str (Fx.name (f.getD (↑i:Int).toNat Fx.nil)),.int .i64 (Fx.date (f.getD (↑i:Int).toNat Fx.nil)),.str (Fx.value (f.getD (↑i:Int).toNat Fx.nil))]])))))) (.side (inR .i64 ((↑k.length:Int)+m.length)) (.ite (decide ((1000:Int)<k.length+(↑m.length:Int))) (.leaf (.ret [.agg [.nils,.nils],.int .i64 22] [.box [.str (Ca.name a),.str (Ca.into a),.int .i64 (Ca.date a),.str (Ca.ratio a),.str (Ca.extra a)],.box [.sl f.length 3 (fxG f),.sl c.length 4 (chG c)],.box [.nils,.nils],.arr c.length 4 (chG c),.box [.osl 6 3 0 k.length,.osl 3 4 0 c.length],.arr m.length 3 (fxG m),.arr k.length 3 (fxG k)])) (.ex (fun(x:List Fx×Ca)=>eqL [AV.sl k.length 3 (zf (fxG k) 0),AV.str (Ca.name a),AV.fn 30 [] []] [AV.sl x.1.length 3 (fxG x.1),AV.str (Ca.name x.2),AV.fn 30 [] []]∧x.1.length<1099511627776∧List.Pairwise (fun(x y:Fx)=>cmpF x y<0) x.1) fun n=>.all (fun(r:Nat×Bool)=>r.1=Ca.at_ n.2 n.1) fun n=>.ex (fun(x:List Fx×List Fx×Nat)=>eqL [AV.osl 0 3 0 k.length,AV.int .i64 n.1,AV.osl 1 3 0 m.length] [AV.osl 0 3 0 x.1.length,AV.int .i64 x.2.2,AV.osl 1 3 0 x.2.1.length]∧eqH [.arr k.length 3 (fxG k),.arr m.length 3 (fxG m)] [.arr x.1.length 3 (fxG x.1),.arr x.2.1.length 3 (fxG x.2.1)]∧2=2∧x.2.2≤x.1.length∧x.1.length<1099511627776∧x.2.1.length<1099511627776) fun n=>.all (fun(x:Unit)=>True) fun n_1=>.leaf (.ret [.agg [.osl 6 3 0 (n.1.length+n.2.1.length),.osl 3 4 0 c.length],.int .i64 0] [.box [.str (Ca.name a),.str (Ca.into a),.int .i64 (Ca.date a),.str (Ca.ratio a),.str (Ca.extra a)],.box [.sl f.length 3 (fxG f),.sl c.length 4 (chG c)],.box [.osl 6 3 0 (n.1.length+n.2.1.length),.osl 3 4 0 c.length],.arr c.length 4 (chG c),.box [.osl 6 3 0 (n.1.length+n.2.1.length),.osl 3 4 0 c.length],.dead,.arr (n.1.length+n.2.1.length) 3 (fxG (List.take n.2.2 n.1++n.2.1++List.drop n.2.2 n.1))]))))) (by kernel_rfl) ?_
  simp only [Tree.holds,zd,inR,lo,hi,Int.toNat_natCast]
  refine⟨fun h=> ?_,fun h=> ?_⟩
  ·have hlt:i<f.length:=by have:=of_decide_eq_true h; omega
   obtain⟨x,hx⟩:∃ x,f.getD i Fx.nil=x:=⟨_,rfl⟩
   have hxm:x∈f:=by rw [← hx]; simp [List.getD,hlt]
   have E:=Ca.UO hlt hie
   have K:=Ca.Y5 (a:=a) hlt
   have M:=Ca.Xi (a:=a) hlt
   rw [hx] at E K M
   rw [hk] at K
   rw [hm] at M
   have hhit:(bif decide (x.name=a.into) then decide (a.date≤x.date) else false)=a.hit x:=by unfold Ca.hit; cases decide (x.name=a.into)<;>rfl
   have hkeep:(bif !decide (x.name=a.name) then true else decide (x.date<a.date))=a.keep x:=by unfold Ca.keep; cases decide (x.name=a.name)<;>rfl
   simp only [hx,hhit,hkeep]
   refine⟨by omega,fun _=>⟨fun hH=> ?_,fun hH=> ?_⟩⟩
   ·rw [if_pos hH] at M
    refine⟨(a,x.value),⟨by simp [Ca.av],ha,?_⟩,⟨_,rfl⟩,?_⟩
    ·have h3:=Wf.1 hE
     have h4:=List.all_eq_true.1 h3.2.1 x hxm
     unfold okF at h4
     simp only [Bool.and_eq_true,decide_eq_true_eq] at h4
     have:=zb1 h4.2
     show x.value.length<2^38
     omega
    rintro _ rfl
    refine⟨fun h2=> ?_,fun h2=> ?_⟩
    ·have h2:(a.old x.value).2≠0:=by simpa using h2
     have hbd:a.bad x=true:=by unfold Ca.bad; rw [hH,Bool.true_and]; exact decide_eq_true h2
     have hst:=Ca.UA hlt hie (by rw [hx]; exact hbd)
     rw [hx] at hst
     refine bad _ _ ?_
     unfold Ca.before; rw [if_neg (by simp [hok]),if_neg (by simp [hE]),hst,if_pos h2]
    ·have h2:(a.old x.value).2=0:=by simpa using h2
     have hbd:¬ a.bad x=true:=by unfold Ca.bad; rw [hH,Bool.true_and]; simp [h2]
     rw [if_neg hbd] at E
     refine⟨⟨trivial,Nat.le_refl _,by omega⟩,fun _=>⟨fun hK=> ?_,fun hK=> ?_⟩⟩
     ·rw [if_pos hK] at K
      refine⟨⟨trivial,Nat.le_refl _,by omega⟩,fun _=>⟨by omega,fun _=> ?_⟩⟩
      rw [if_pos trivial]
      refine⟨⟨i+1,hlt,E⟩,by show f.length - (i+1)<f.length - i; omega,by simp [SCb,fxS,za,K,M],?_,by kernel_rfl,Nat.zero_le _⟩
      have p1:=uL (l:=m) (x:=⟨a.name,x.date,(a.old x.value).1⟩) (za _ _ (fxG m))
      have p2:=uL (l:=k) (x:=x) (za _ _ (fxG k))
      simp only at p1 p2
      simp [HCb,fxS,chS,K,M,za,p1,p2]
     ·rw [if_neg (by simpa using hK)] at K
      refine⟨by omega,fun _=> ?_⟩
      rw [if_pos trivial]
      refine⟨⟨i+1,hlt,E⟩,by show f.length - (i+1)<f.length - i; omega,by simp [SCb,fxS,za,K,M],?_,by kernel_rfl,Nat.zero_le _⟩
      have p1:=uL (l:=m) (x:=⟨a.name,x.date,(a.old x.value).1⟩) (za _ _ (fxG m))
      simp only at p1
      simp [HCb,fxS,chS,K,M,za,p1]
   ·rw [if_neg (by simpa using hH)] at M
    have hbd:¬ a.bad x=true:=by unfold Ca.bad; rw [hH]; simp
    rw [if_neg hbd] at E
    refine⟨fun hK=> ?_,fun hK=> ?_⟩
    ·rw [if_pos hK] at K
     refine⟨⟨trivial,Nat.le_refl _,by omega⟩,fun _=>⟨by omega,fun _=> ?_⟩⟩
     rw [if_pos trivial]
     refine⟨⟨i+1,hlt,E⟩,by show f.length - (i+1)<f.length - i; omega,by simp [SCb,fxS,za,K,M],?_,by kernel_rfl,Nat.zero_le _⟩
     have p2:=uL (l:=k) (x:=x) (za _ _ (fxG k))
     simp [HCb,fxS,chS,K,M,za,p2]
    ·rw [if_neg (by simpa using hK)] at K
     refine⟨by omega,fun _=> ?_⟩
     rw [if_pos trivial]
     exact⟨⟨i+1,hlt,E⟩,by show f.length - (i+1)<f.length - i; omega,by simp [SCb,fxS,za,K,M],by simp [HCb,fxS,chS,K,M,za],by kernel_rfl,Nat.zero_le _⟩
  ·have hge:i=f.length:=by have:=of_decide_eq_false h; omega
   rw [hge,List.take_length] at hk hm hie
   have hB:a.before f c=if 1000<k.length+m.length then(([],[]),22) else((a.join k m,c),0):=by
    unfold Ca.before
    rw [if_neg (by simp [hok]),if_neg (by simp [hE]),if_neg (by simp [hie]),hk,hm]
   refine⟨by omega,fun _=>⟨fun h2=> ?_,fun h2=> ?_⟩⟩
   ·have h2:=of_decide_eq_true h2
    rw [if_pos (by omega)] at hB
    exact bad _ _ hB
   ·have h2:=of_decide_eq_false h2
    rw [if_neg (by omega)] at hB
    have hpk:k.Pairwise fun x y=>cmpF x y<0:=by rw [← hk]; exact(Ca.zd9 hE).2
    refine⟨(k,a),⟨by simp [fxS,Ja],by show k.length<2^40; omega,hpk⟩,⟨(a.at_ k,false),rfl⟩,?_⟩
    rintro⟨n,b⟩ hn
    simp only at hn
    subst hn
    refine⟨(k,m,a.at_ k),⟨by simp,by simp [za],trivial,Ca.zbg,by show k.length<2^40; omega,by show m.length<2^40; omega⟩,⟨(),trivial⟩,fun _ _=> ?_⟩
    have hjl:(a.join k m).length=k.length+m.length:=by
     have:=Ca.zbg (a:=a) (l:=k)
     unfold Ca.join
     simp only [List.length_append,List.length_take,List.length_drop]
     omega
    rw [hB] at hq
    simp only [hjl] at hq
    refine RetR.outs [6,3] rfl rfl (.inl hq) (fun _=>⟨?_,?_⟩) ?_ ?_ rfl
    ·simp [resV,new2,new1,new0,zy,zR]
    ·simp only [List.mem_cons,List.not_mem_nil,or_false,forall_eq_or_imp,forall_eq]
     have:=zev (za (k.length+m.length) 3 (fxG (a.join k m)))
     exact⟨by rw [← hjl] at this ⊢; exact this,XY (za _ _ _)⟩
    ·simp [resV,exp2,exp1,exp0,zy,ren0,eqA2,eqL1]
    ·exact⟨⟨rfl,rfl,za _ _ _⟩,⟨rfl,rfl,za _ _ _⟩,trivial⟩
def Ca.nilA:Ca:=⟨[],[],0,[],[]⟩
def Ca.out(a:Ca):Ca:=if a.ok=true then a else Ca.nilA
def Yh:Ctr:=ctrP true (fun a:Ca=>[a.av]) jQ (fun _ (_:Unit)=>True) (fun a _=>(.tup [(Ca.out a).av,.int .i64 (if a.ok=true then 0 else 8)],[]))
noncomputable def GMdA:Nat→Option Ctr:=fun f=>if f=26 then some (yo) else none
theorem zd2:∀ g c,GMdA g=some c→zc Tryz.prog g c:=okIf xn (zt)
theorem Un:zc Tryz.prog 54 Yh:=by
 refine ze (fn:=Tryz.f54) (c:=Tryz.f54.body.getD .skip) rfl rfl rfl fun a ha O w0 Q hq=> ?_
 replace hq:=hq () trivial
 refine zb.run hmix zd2 [] 400 (T:=.ex (fun(x:Ca)=>eqL [AV.agg [AV.str (Ca.name a),AV.str (Ca.into a),AV.int .i64 (Ca.date a),AV.str (Ca.ratio a),AV.str (Ca.extra a)]] [AV.agg [AV.str (Ca.name x),AV.str (Ca.into x),AV.int .i64 (Ca.date x),AV.str (Ca.ratio x),AV.str (Ca.extra x)]]∧jQ x) fun n=>.all (fun(r:Int)=>r=if Ca.ok n=true then(0:Int) else(8:Int)) fun n=>.ite (!decide (n=0)) (.leaf (.ret [.agg [.str #[].toList,.str #[].toList,.int .i64 0,.str #[].toList,.str #[].toList],.int .i64 n] [.box [.str (Ca.name a),.str (Ca.into a),.int .i64 (Ca.date a),.str (Ca.ratio a),.str (Ca.extra a)],.box [.str #[].toList,.str #[].toList,.int .i64 0,.str #[].toList,.str #[].toList]])) (.leaf (.ret [.agg [.str (Ca.name a),.str (Ca.into a),.int .i64 (Ca.date a),.str (Ca.ratio a),.str (Ca.extra a)],.int .i64 0] [.box [.str (Ca.name a),.str (Ca.into a),.int .i64 (Ca.date a),.str (Ca.ratio a),.str (Ca.extra a)],.box [.str (Ca.name a),.str (Ca.into a),.int .i64 (Ca.date a),.str (Ca.ratio a),.str (Ca.extra a)]]))) (by kernel_rfl) ?_
 simp only [Tree.holds,zd]
 refine⟨a,⟨⟨by simp [Ca.av],trivial⟩,ha⟩,⟨_,rfl⟩,?_⟩
 rintro _ rfl
 cases ho:a.ok
 ·simp only [ho,Bool.false_eq_true,if_false,Ca.out] at hq ⊢
  refine⟨fun _=>RetR.out0 hq (fun _=>by simp [resV,new2,new1,new0,zR]) (by simp [resV,exp2,exp1,exp0,ren0,eqA2,eqL1,Ca.av,Ca.nilA]),fun h=>by simp at h⟩
 ·simp only [ho,if_true,Ca.out] at hq ⊢
  refine⟨fun h=>by simp at h,fun _=>RetR.out0 hq (fun _=>by simp [resV,new2,new1,new0,zR]) (by simp [resV,exp2,exp1,exp0,ren0,eqA2,eqL1,Ca.av])⟩
def splA(n:List UInt8)(d:Int)(r:List UInt8):Ca:=⟨n,n,d,r,[48]⟩
def divA(n:List UInt8)(d:Int)(r:List UInt8):Ca:=⟨n,n,d,[49],r⟩
structure SpA where
 n:List UInt8
 d:Int
 r:List UInt8
def splC:Ctr:=ctrP true (fun p:SpA=>[.str p.n,.int .i64 p.d,.str p.r]) (fun p=>p.n.length<2^38∧p.r.length<2^38) (fun _ (_:Unit)=>True) (fun p _=>(.tup [(Ca.out (splA p.n p.d p.r)).av,.int .i64 (if(splA p.n p.d p.r).ok=true then 0 else 8)],[]))
def divC:Ctr:=ctrP true (fun p:SpA=>[.str p.n,.int .i64 p.d,.str p.r]) (fun p=>p.n.length<2^38∧p.r.length<2^38) (fun _ (_:Unit)=>True) (fun p _=>(.tup [(Ca.out (divA p.n p.d p.r)).av,.int .i64 (if(divA p.n p.d p.r).ok=true then 0 else 8)],[]))
noncomputable def GSpl:Nat→Option Ctr:=fun f=>if f=54 then some (Yh) else if f=55 then some (qofC) else none
theorem XJ:∀ g c,GSpl g=some c→zc Tryz.prog g c:=okIf Un (okIf zbm (zt))
theorem zhh:zc Tryz.prog 19 splC:=by
 refine ze (fn:=Tryz.f19) (c:=Tryz.f19.body.getD .skip) rfl rfl rfl fun p hp O w0 Q hq=> ?_
 obtain⟨n,d,r⟩:=p
 obtain⟨h1,h2⟩:=hp
 replace hq:=hq () trivial
 simp only at hq h1 h2
 refine zb.run hmix XJ [] 400 (T:=.ex (fun(x:Nat)=>eqL [AV.int .i64 0] [AV.int .i64 x]∧x≤9) fun n_1=>.all (fun(r:List UInt8)=>r=[UInt8.ofNat (48+n_1)]) fun n_2=>.ex (fun(x:Ca)=>eqL [AV.agg [AV.str n,AV.str n,AV.int .i64 d,AV.str r,AV.str n_2]] [AV.agg [AV.str (Ca.name x),AV.str (Ca.into x),AV.int .i64 (Ca.date x),AV.str (Ca.ratio x),AV.str (Ca.extra x)]]∧jQ x) fun n=>.all (fun(x:Unit)=>True) fun n_3=>.leaf (.ret [.agg [.str (Ca.name (Ca.out n)),.str (Ca.into (Ca.out n)),.int .i64 (Ca.date (Ca.out n)),.str (Ca.ratio (Ca.out n)),.str (Ca.extra (Ca.out n))],.int .i64 (if Ca.ok n=true then(0:Int) else(8:Int))] [.box [.str (Ca.name (Ca.out n)),.str (Ca.into (Ca.out n)),.int .i64 (Ca.date (Ca.out n)),.str (Ca.ratio (Ca.out n)),.str (Ca.extra (Ca.out n))]])) (by kernel_rfl) ?_
 simp only [Tree.holds,zd]
 refine⟨0,⟨⟨⟨rfl,rfl⟩,trivial⟩,by decide⟩,⟨_,rfl⟩,?_⟩
 rintro _ rfl
 refine⟨splA n d r,⟨⟨by simp [Ca.av,splA],trivial⟩,⟨h1,h1,h2,by show 1<_; decide⟩⟩,⟨(),trivial⟩,fun _ _=> ?_⟩
 exact RetR.out0 hq (fun _=>by simp [resV,new2,new1,new0,zR,Ca.av]) (by simp [resV,exp2,exp1,exp0,ren0,eqA2,eqL1,Ca.av])
theorem zfz:zc Tryz.prog 23 divC:=by
 refine ze (fn:=Tryz.f23) (c:=Tryz.f23.body.getD .skip) rfl rfl rfl fun p hp O w0 Q hq=> ?_
 obtain⟨n,d,r⟩:=p
 obtain⟨h1,h2⟩:=hp
 replace hq:=hq () trivial
 simp only at hq h1 h2
 refine zb.run hmix XJ [] 400 (T:=.ex (fun(x:Nat)=>eqL [AV.int .i64 1] [AV.int .i64 x]∧x≤9) fun n_1=>.all (fun(r:List UInt8)=>r=[UInt8.ofNat (48+n_1)]) fun n_2=>.ex (fun(x:Ca)=>eqL [AV.agg [AV.str n,AV.str n,AV.int .i64 d,AV.str n_2,AV.str r]] [AV.agg [AV.str (Ca.name x),AV.str (Ca.into x),AV.int .i64 (Ca.date x),AV.str (Ca.ratio x),AV.str (Ca.extra x)]]∧jQ x) fun n=>.all (fun(x:Unit)=>True) fun n_3=>.leaf (.ret [.agg [.str (Ca.name (Ca.out n)),.str (Ca.into (Ca.out n)),.int .i64 (Ca.date (Ca.out n)),.str (Ca.ratio (Ca.out n)),.str (Ca.extra (Ca.out n))],.int .i64 (if Ca.ok n=true then(0:Int) else(8:Int))] [.box [.str (Ca.name (Ca.out n)),.str (Ca.into (Ca.out n)),.int .i64 (Ca.date (Ca.out n)),.str (Ca.ratio (Ca.out n)),.str (Ca.extra (Ca.out n))]])) (by kernel_rfl) ?_
 simp only [Tree.holds,zd]
 refine⟨1,⟨⟨⟨rfl,rfl⟩,trivial⟩,by decide⟩,⟨_,rfl⟩,?_⟩
 rintro _ rfl
 refine⟨divA n d r,⟨⟨by simp [Ca.av,divA],trivial⟩,⟨h1,h1,by show 1<_; decide,h2⟩⟩,⟨(),trivial⟩,fun _ _=> ?_⟩
 exact RetR.out0 hq (fun _=>by simp [resV,new2,new1,new0,zR,Ca.av]) (by simp [resV,exp2,exp1,exp0,ren0,eqA2,eqL1,Ca.av])
def nowC:Ctr:=ctrP true (fun _:Unit=>[]) (fun _=>True) (fun _ (_:Unit)=>True) (fun _ _=>(.agg [.int .u8 3,.str [],.str [65,67,77,69],.int .i64 0,.nils],[]))
theorem zg1:zc Tryz.prog 21 nowC:=by
 refine ze (fn:=Tryz.f21) (c:=Tryz.f21.body.getD .skip) rfl rfl rfl fun p hp O w0 Q hq=> ?_
 replace hq:=hq () trivial
 refine zb.run hmix zB [] 400 (T:=.leaf (.ret [.agg [.int .u8 3,.str #[].toList,.str #[(65:UInt8),(67:UInt8),(77:UInt8),(69:UInt8)].toList,.int .i64 0,.nils]] [.box [.int .u8 3,.str #[].toList,.str #[(65:UInt8),(67:UInt8),(77:UInt8),(69:UInt8)].toList,.int .i64 0,.nils]])) (by kernel_rfl) ?_
 simp only [Tree.holds,zd]
 exact RetR.out0 hq (fun _=>by simp [resV,new2,new1,new0,zR]) (by simp [resV,exp2,exp1,exp0,ren0,eqA2])
def Jk:Ctr:=ctrP true (fun r:List UInt8=>[.str r]) (fun _=>True) (fun _ (_:Unit)=>True) (fun r _=>(.agg [.int .u8 1,.str r,.str [],.int .i64 0,.nils],[]))
theorem W9:zc Tryz.prog 22 Jk:=by
 refine ze (fn:=Tryz.f22) (c:=Tryz.f22.body.getD .skip) rfl rfl rfl fun r hp O w0 Q hq=> ?_
 replace hq:=hq () trivial
 refine zb.run hmix zB [] 400 (T:=.leaf (.ret [.agg [.int .u8 1,.str r,.str #[].toList,.int .i64 0,.nils]] [.box [.int .u8 1,.str r,.str #[].toList,.int .i64 0,.nils]])) (by kernel_rfl) ?_
 simp only [Tree.holds,zd]
 exact RetR.out0 hq (fun _=>by simp [resV,new2,new1,new0,zR]) (by simp [resV,exp2,exp1,exp0,ren0,eqA2])
def ofC:Ctr:=ctrP false (fun p:Int×Ex×Ex=>[.int .u8 p.1,p.2.1.exA,p.2.2.exA]) (fun _=>True) (fun _ (_:Unit)=>True) (fun p _=>(exD (.mk p.1 [] [] 0 [p.2.1,p.2.2]),[]))
theorem zi1:zc Tryz.prog 20 ofC:=by
 refine ze (fn:=Tryz.f20) (c:=Tryz.f20.body.getD .skip) rfl rfl rfl fun p hp O w0 Q hq=> ?_
 obtain⟨k,x,y⟩:=p
 replace hq:=hq () trivial
 simp only at hq
 refine zb.run hmix zB [] 400 (T:=.leaf (.ret [.agg [.int .u8 k,.str #[].toList,.str #[].toList,.int .i64 0,.osl 3 5 0 2]] [.box [.int .u8 x.kind,.str x.rat,.str x.name,.int .i64 x.date,.sl x.sub.length 5 (Ex.exG x.sub)],.box [.int .u8 y.kind,.str y.rat,.str y.name,.int .i64 y.date,.sl y.sub.length 5 (Ex.exG y.sub)],.box [.int .u8 k,.str #[].toList,.str #[].toList,.int .i64 0,.osl 3 5 0 2],.arr 2 5 (zg 5 [.int .u8 x.kind,.str x.rat,.str x.name,.int .i64 x.date,.sl x.sub.length 5 (Ex.exG x.sub),.int .u8 y.kind,.str y.rat,.str y.name,.int .i64 y.date,.sl y.sub.length 5 (Ex.exG y.sub)])])) (by kernel_rfl) ?_
 simp only [Tree.holds,zd]
 exact RetR.le0 hq (fun h=>by cases h) (LeA.agg ⟨LeA.refl _,LeA.refl _,LeA.refl _,LeA.refl _,Ex.xJ (x:=x) (y:=y) ⟨LeA.refl _,LeA.refl _,LeA.refl _,LeA.refl _,Ex.wu x,LeA.refl _,LeA.refl _,LeA.refl _,LeA.refl _,Ex.wu y,trivial⟩,trivial⟩)
theorem zai{f:List Fx}{c:List Ch}{z:Int} : LeA (exp2 [.arr f.length 3 (fxG f),.arr c.length 4 (chG c)] [] (.tup [.agg [.osl 0 3 0 f.length,.osl 1 4 0 c.length],.int .i64 z])) (.tup [envA f c,.int .i64 z]):=by
 refine qh ?_
 simp [exp2,exp1,exp0,zy,frz1,jl,ren0,eqA2,eqL1,envA,fxS,chS,Ja]
theorem zbc{f:List Fx}{c:List Ch}{z:Int} : new2 [.arr f.length 3 (fxG f),.arr c.length 4 (chG c)] [] (.tup [.agg [.osl 0 3 0 f.length,.osl 1 4 0 c.length],.int .i64 z]):=by
 simp only [new2,List.mem_cons,List.not_mem_nil,or_false,forall_eq_or_imp,forall_eq,new1,new0]
 refine⟨⟨fun _=> ?_,fun _=> ?_⟩,rfl⟩
 ·simp only [exp0,zy,frz1,jl,List.getElem?_cons_zero,if_true,XC]
  exact fun j o hj ho=>X0 _ _ _ ho
 ·simp only [exp0,zy,frz1,jl,List.getElem?_cons_succ,List.getElem?_cons_zero,if_true,XC]
  exact fun j o hj ho=>XF _ _ _ ho
def WE:Ctr:=ctrP true (fun p:Ca×(List Fx×List Ch)=>[p.1.av,envA p.2.1 p.2.2]) (fun p=>jQ p.1∧envP p.2∧p.2.1.length≤1000000) (fun p r=>r=p.1.before p.2.1 p.2.2) (fun _ (r:(List Fx×List Ch)×Int)=>(.tup [envA r.1.1 r.1.2,.int .i64 r.2],[]))
theorem Kj:zc Tryz.prog 8 WE:=zc.frozen Xw (fun _ _ _ _=>zbc) (fun _ _ _ _=>zai)
def acme:List UInt8:=[65,67,77,69]
def xH:Ex:=.mk 3 [] acme 0 []
def yd(r:List UInt8):Ex:=.mk 1 r [] 0 []
def exOf(k:Int)(x y:Ex):Ex:=.mk k [] [] 0 [x,y]
def aSpl:Ca:=splA acme 10 [50]
def aDiv:Ca:=divA acme 10 [51,47,50]
def x1:Ex:=exOf 5 xH (yd [51,48])
def w1:Ex:=exOf 5 (exOf 6 (yd [50]) xH) (yd [51,48])
def w2:Ex:=exOf 4 xH (yd [51,47,50])
theorem zap:aSpl.ok=true:=by decide +kernel
theorem UJ:aDiv.ok=true:=by decide +kernel
theorem zi2:aSpl.expr x1=(w1,0):=by kernel_rfl
theorem zhk:aDiv.expr xH=(w2,0):=by kernel_rfl
theorem al_v:aSpl.before [⟨acme,12,[49,56]⟩] []=(([⟨acme,12,[51,54]⟩],[]),0):=by kernel_rfl
def WW:Ctr:=ctrP true (fun _:Unit=>[]) (fun _=>True) (fun _ r=>r=true) (fun _ (r:Bool)=>(.bool r,[]))
noncomputable def zhw:Nat→Option Ctr:=fun f=>if f=21 then some (nowC) else if f=22 then some (Jk) else if f=20 then some (ofC) else if f=19 then some (splC) else if f=23 then some (divC) else if f=14 then some (Xx) else if f=8 then some (WE) else if f=24 then some (Vk) else if f=25 then some (VU) else none
theorem wP:∀ g c,zhw g=some c→zc Tryz.prog g c:=okIf zg1 (okIf W9 (okIf zi1 (okIf zhh (okIf zfz (okIf XQ (okIf Kj (okIf UL (okIf zcg (zt)))))))))
noncomputable def LA0:List Go.Sx.Item:=yL 12 (Tryz.f5.body.getD .skip)
noncomputable def LA2:List Go.Sx.Item:=LA0.drop 2
noncomputable def LA3:List Go.Sx.Item:=LA0.drop 3
noncomputable def LA4:List Go.Sx.Item:=LA0.drop 4
noncomputable def LA5:List Go.Sx.Item:=LA0.drop 5
noncomputable def LA6:List Go.Sx.Item:=LA0.drop 6
noncomputable def LA7:List Go.Sx.Item:=LA0.drop 7
def bSpl:Blk:=.box [.str [65,67,77,69],.str [65,67,77,69],.int .i64 10,.str [50],.str [48]]
def bDiv:Blk:=.box [.str [65,67,77,69],.str [65,67,77,69],.int .i64 10,.str [49],.str [51,47,50]]
def bEx(x:Ex):Blk:=.box x.cellsD
def SA2:KV:=[(0,.bool false),(1,.ptr 0 0),(2,.int .i64 0)]
def SA3:KV:=[(0,.bool false),(1,.ptr 0 0),(2,.int .i64 0),(3,.ptr 1 0),(4,.int .i64 0)]
def SA4:KV:=[(0,.bool false),(1,.ptr 0 0),(2,.int .i64 0),(3,.ptr 1 0),(4,.int .i64 0),(5,.ptr 3 0),(6,.int .i64 0)]
def SA5:KV:=SA4++[(7,.ptr 4 0),(8,.int .i64 0)]
def SA6:KV:=SA4++[(7,.ptr 4 0),(8,.int .i64 0),(9,.ptr 5 0),(10,.int .i64 0)]
def SA7:KV:=SA4++[(7,.ptr 4 0),(8,.int .i64 0),(9,.ptr 5 0),(10,.int .i64 0),(11,.ptr 6 0)]
def HA4:Heap:=[bSpl,bEx w1,.dead,.box [fxS [⟨acme,12,[51,54]⟩],chS []]]
def HA5:Heap:=[bSpl,bEx w1,.dead,.box [fxS [⟨acme,12,[51,54]⟩],chS []],bDiv]
def HA6:Heap:=[bSpl,bEx w1,.dead,.box [fxS [⟨acme,12,[51,54]⟩],chS []],bDiv,bEx w2]
def HA7:Heap:=[bSpl,bEx w1,.dead,.box [fxS [⟨acme,12,[51,54]⟩],chS []],bDiv,bEx w2,bEx w1]
theorem JH{A B:Prop}(a:A)(b:B):(∃ _:Bool,True)∧∀ n:Bool,True→((n=true→A)∧(n=false→B)):=⟨⟨true,trivial⟩,fun _ _=>⟨fun _=>a,fun _=>b⟩⟩
theorem Kd{p:Unit→Prop}(h:p ()):∃ n:Unit,(eqL [] []∧True)∧(∃ _:Unit,True)∧∀ _:Unit,True→p n:=⟨(),⟨trivial,trivial⟩,⟨(),trivial⟩,fun _ _=>h⟩
theorem zb0{r:List UInt8}{p:List UInt8→Prop}(h:p r):∃ n:List UInt8,(eqL [.str r] [.str n]∧True)∧(∃ _:Unit,True)∧∀ _:Unit,True→p n:=⟨r,⟨⟨rfl,trivial⟩,trivial⟩,⟨(),trivial⟩,fun _ _=>h⟩
theorem uj{k d:Int}{r n:List UInt8} : eqA (.agg [.int .u8 k,.str r,.str n,.int .i64 d,.nils]) (Ex.mk k r n d []).exA:=by simp [Ex.exA,Ex.exS,Ex.kind,Ex.rat,Ex.name,Ex.date,Ex.sub]
theorem zbh{k:Int}{a b:AV}(x y:Ex)(ha:eqA a x.exA)(hb:eqA b y.exA){p:Int×Ex×Ex→Prop}(h:p (k,x,y)):∃ n:Int×Ex×Ex,(eqL [.int .u8 k,a,b] [.int .u8 n.1,n.2.1.exA,n.2.2.exA]∧True)∧(∃ _:Unit,True)∧∀ _:Unit,True→p n:=⟨(k,x,y),⟨⟨⟨rfl,rfl⟩,ha,hb,trivial⟩,trivial⟩,⟨(),trivial⟩,fun _ _=>h⟩
theorem X6{a b:AV}(c:Ca)(x:Ex)(ha:eqA a c.av)(hb:eqA b x.exA)(ht:wv c)(h1:x.size<1048576)(h2:x.zo<1073741824){p:Ca×Ex→Prop}(h:p (c,x)):∃ n:Ca×Ex,(eqL [a,b] [n.1.av,n.2.exA]∧wv n.1∧n.2.size<1048576∧n.2.zo<1073741824)∧(∃ _:Unit,True)∧∀ _:Unit,True→p n:=⟨(c,x),⟨⟨ha,hb,trivial⟩,ht,h1,h2⟩,⟨(),trivial⟩,fun _ _=>h⟩
theorem zfx:eqA (.agg [.str [65,67,77,69],.str [65,67,77,69],.int .i64 10,.str [50],.str [48]]) aSpl.av:=⟨rfl,rfl,⟨rfl,rfl⟩,rfl,rfl,trivial⟩
theorem zhm:eqA (.agg [.str [65,67,77,69],.str [65,67,77,69],.int .i64 10,.str [49],.str [51,47,50]]) aDiv.av:=⟨rfl,rfl,⟨rfl,rfl⟩,rfl,rfl,trivial⟩
theorem zcv{x:Fx} : eqG 1 3 (zf (zg 3 [.str x.name,.int .i64 x.date,.str x.value]) 0) (fxG [x]):=by
 intro j o hj ho
 obtain rfl:j=0:=by omega
 rcases(show o=0∨o=1∨o=2 by omega) with rfl | rfl | rfl<;>rfl
theorem zdd:Ca.out (splA acme 10 [50])=aSpl:=by unfold Ca.out; exact if_pos zap
theorem zey:Ca.out (divA acme 10 [51,47,50])=aDiv:=by unfold Ca.out; exact if_pos UJ
theorem Kl:zc Tryz.prog 5 WW:=by
 refine ze (fn:=Tryz.f5) (c:=Tryz.f5.body.getD .skip) rfl rfl rfl fun p hp O w0 Q hq=> ?_
 replace hq:=hq _ rfl
 have ht:wv aSpl:=⟨by decide,by decide,by decide,by decide⟩
 have ht2:wv aDiv:=⟨by decide,by decide,by decide,by decide⟩
 refine zb.spine 12 ?_
 refine zb.cutL (ι:=Unit) LA0 2 0 (fun _=>SA2) (fun _=>[bSpl]) (by kernel_rfl) (by kernel_rfl) ?_ fun _=> ?_
 ·refine zb.run hmix wP [0,1,2] 400 (T:=.ex (fun(x:SpA)=>eqL [AV.str #[(65:UInt8),(67:UInt8),(77:UInt8),(69:UInt8)].toList,AV.int .i64 10,AV.str #[(50:UInt8)].toList] [AV.str (SpA.n x),AV.int .i64 (SpA.d x),AV.str (SpA.r x)]∧List.length (SpA.n x)<274877906944∧List.length (SpA.r x)<274877906944) fun n=>.all (fun(x:Unit)=>True) fun n_1=>.leaf (.back 0 [(0,.bool false),(1,.ptr 0 0),(2,.int .i64 (if Ca.ok (splA (SpA.n n) (SpA.d n) (SpA.r n))=true then(0:Int) else(8:Int)))] [.box [.str (Ca.name (Ca.out (splA (SpA.n n) (SpA.d n) (SpA.r n)))),.str (Ca.into (Ca.out (splA (SpA.n n) (SpA.d n) (SpA.r n)))),.int .i64 (Ca.date (Ca.out (splA (SpA.n n) (SpA.d n) (SpA.r n)))),.str (Ca.ratio (Ca.out (splA (SpA.n n) (SpA.d n) (SpA.r n)))),.str (Ca.extra (Ca.out (splA (SpA.n n) (SpA.d n) (SpA.r n))))]])) (by kernel_rfl) ?_
  simp only [Tree.holds,zd]
  refine⟨⟨acme,10,[50]⟩,⟨⟨rfl,⟨rfl,rfl⟩,rfl,trivial⟩,by decide,by decide⟩,?_⟩
  have e8:(if(splA acme 10 [50]).ok=true then(0:Int) else 8)=0:=if_pos zap
  simp only [zdd,e8]
  refine⟨⟨(),trivial⟩,fun _ _=> ?_⟩
  rw [if_pos trivial]
  exact⟨(),by simp [SA2],by simp [bSpl,aSpl,splA,acme],by kernel_rfl,Nat.zero_le _⟩
 show wX none Tryz.prog Tryz.f5 O 0 w0 [] _ _ LA2 _
 refine zb.cutL (ι:=Unit) LA2 1 0 (fun _=>SA3) (fun _=>[bSpl,bEx w1]) (by kernel_rfl) (by kernel_rfl) ?_ fun _=> ?_
 ·refine zb.run hmix wP [0,1,2,3,4] 400 (T:=.all (fun(x:Bool)=>True) fun n=>.ite n (.ex (fun(x:Unit)=>eqL [] []∧True) fun n=>.all (fun(x:Unit)=>True) fun n=>.all (fun(x:Bool)=>True) fun n=>.ite n (.ex (fun(x:List UInt8)=>eqL [AV.str #[(51:UInt8),(48:UInt8)].toList] [AV.str x]∧True) fun n=>.all (fun(x:Unit)=>True) fun n_1=>.all (fun(x:Bool)=>True) fun n_2=>.ite n_2 (.ex (fun(x:Int×Ex×Ex)=>eqL [AV.int .u8 5,AV.agg [AV.int .u8 3,AV.str [],AV.str [(65:UInt8),(67:UInt8),(77:UInt8),(69:UInt8)],AV.int .i64 0,AV.nils],AV.agg [AV.int .u8 1,AV.str n,AV.str [],AV.int .i64 0,AV.nils]] [AV.int .u8 x.1,AV.agg [AV.int .u8 x.2.1.kind,AV.str x.2.1.rat,AV.str x.2.1.name,AV.int .i64 x.2.1.date,AV.sl x.2.1.sub.length 5 (Ex.exG x.2.1.sub)],AV.agg [AV.int .u8 x.2.2.kind,AV.str x.2.2.rat,AV.str x.2.2.name,AV.int .i64 x.2.2.date,AV.sl x.2.2.sub.length 5 (Ex.exG x.2.2.sub)]]∧True) fun n=>.all (fun(x:Unit)=>True) fun n_3=>.all (fun(x:Bool)=>True) fun n_4=>.ite n_4 (.ex (fun(x:Ca×Ex)=>eqL [AV.agg [AV.str [(65:UInt8),(67:UInt8),(77:UInt8),(69:UInt8)],AV.str [(65:UInt8),(67:UInt8),(77:UInt8),(69:UInt8)],AV.int .i64 10,AV.str [(50:UInt8)],AV.str [(48:UInt8)]],AV.agg [AV.int .u8 (Ex.kind (Ex.mk n.1 [] [] (0:Int) [n.2.1,n.2.2])),AV.str (Ex.rat (Ex.mk n.1 [] [] (0:Int) [n.2.1,n.2.2])),AV.str (Ex.name (Ex.mk n.1 [] [] (0:Int) [n.2.1,n.2.2])),AV.int .i64 (Ex.date (Ex.mk n.1 [] [] (0:Int) [n.2.1,n.2.2])),AV.sl (List.length (Ex.sub (Ex.mk n.1 [] [] (0:Int) [n.2.1,n.2.2]))) 5 (Ex.deep (Ex.mk n.1 [] [] (0:Int) [n.2.1,n.2.2]))]] [AV.agg [AV.str (Ca.name x.1),AV.str (Ca.into x.1),AV.int .i64 (Ca.date x.1),AV.str (Ca.ratio x.1),AV.str (Ca.extra x.1)],AV.agg [AV.int .u8 x.2.kind,AV.str x.2.rat,AV.str x.2.name,AV.int .i64 x.2.date,AV.sl x.2.sub.length 5 (Ex.exG x.2.sub)]]∧wv x.1∧Ex.size x.2<1048576∧Ex.zo x.2<1073741824) fun n=>.all (fun(x:Unit)=>True) fun n_5=>.leaf (.back 0 [(0,.bool false),(1,.ptr 0 0),(2,.int .i64 0),(3,.ptr 1 0),(4,.int .i64 (Prod.snd (Ca.expr n.1 n.2)))] [.box [.str [(65:UInt8),(67:UInt8),(77:UInt8),(69:UInt8)],.str [(65:UInt8),(67:UInt8),(77:UInt8),(69:UInt8)],.int .i64 10,.str [(50:UInt8)],.str [(48:UInt8)]],.box [.int .u8 (Ex.kind (Prod.fst (Ca.expr n.1 n.2))),.str (Ex.rat (Prod.fst (Ca.expr n.1 n.2))),.str (Ex.name (Prod.fst (Ca.expr n.1 n.2))),.int .i64 (Ex.date (Prod.fst (Ca.expr n.1 n.2))),.sl (List.length (Ex.sub (Prod.fst (Ca.expr n.1 n.2)))) 5 (Ex.deep (Prod.fst (Ca.expr n.1 n.2)))]])) (.ex (fun(x:Ca×Ex)=>eqL [AV.agg [AV.str [(65:UInt8),(67:UInt8),(77:UInt8),(69:UInt8)],AV.str [(65:UInt8),(67:UInt8),(77:UInt8),(69:UInt8)],AV.int .i64 10,AV.str [(50:UInt8)],AV.str [(48:UInt8)]],AV.agg [AV.int .u8 (Ex.kind (Ex.mk n.1 [] [] (0:Int) [n.2.1,n.2.2])),AV.str (Ex.rat (Ex.mk n.1 [] [] (0:Int) [n.2.1,n.2.2])),AV.str (Ex.name (Ex.mk n.1 [] [] (0:Int) [n.2.1,n.2.2])),AV.int .i64 (Ex.date (Ex.mk n.1 [] [] (0:Int) [n.2.1,n.2.2])),AV.sl (List.length (Ex.sub (Ex.mk n.1 [] [] (0:Int) [n.2.1,n.2.2]))) 5 (Ex.deep (Ex.mk n.1 [] [] (0:Int) [n.2.1,n.2.2]))]] [AV.agg [AV.str (Ca.name x.1),AV.str (Ca.into x.1),AV.int .i64 (Ca.date x.1),AV.str (Ca.ratio x.1),AV.str (Ca.extra x.1)],AV.agg [AV.int .u8 x.2.kind,AV.str x.2.rat,AV.str x.2.name,AV.int .i64 x.2.date,AV.sl x.2.sub.length 5 (Ex.exG x.2.sub)]]∧wv x.1∧Ex.size x.2<1048576∧Ex.zo x.2<1073741824) fun n=>.all (fun(x:Unit)=>True) fun n_5=>.leaf (.back 0 [(0,.bool false),(1,.ptr 0 0),(2,.int .i64 0),(3,.ptr 1 0),(4,.int .i64 (Prod.snd (Ca.expr n.1 n.2)))] [.box [.str [(65:UInt8),(67:UInt8),(77:UInt8),(69:UInt8)],.str [(65:UInt8),(67:UInt8),(77:UInt8),(69:UInt8)],.int .i64 10,.str [(50:UInt8)],.str [(48:UInt8)]],.box [.int .u8 (Ex.kind (Prod.fst (Ca.expr n.1 n.2))),.str (Ex.rat (Prod.fst (Ca.expr n.1 n.2))),.str (Ex.name (Prod.fst (Ca.expr n.1 n.2))),.int .i64 (Ex.date (Prod.fst (Ca.expr n.1 n.2))),.sl (List.length (Ex.sub (Prod.fst (Ca.expr n.1 n.2)))) 5 (Ex.deep (Prod.fst (Ca.expr n.1 n.2)))]]))) (.ex (fun(x:Int×Ex×Ex)=>eqL [AV.int .u8 5,AV.agg [AV.int .u8 3,AV.str [],AV.str [(65:UInt8),(67:UInt8),(77:UInt8),(69:UInt8)],AV.int .i64 0,AV.nils],AV.agg [AV.int .u8 1,AV.str n,AV.str [],AV.int .i64 0,AV.nils]] [AV.int .u8 x.1,AV.agg [AV.int .u8 x.2.1.kind,AV.str x.2.1.rat,AV.str x.2.1.name,AV.int .i64 x.2.1.date,AV.sl x.2.1.sub.length 5 (Ex.exG x.2.1.sub)],AV.agg [AV.int .u8 x.2.2.kind,AV.str x.2.2.rat,AV.str x.2.2.name,AV.int .i64 x.2.2.date,AV.sl x.2.2.sub.length 5 (Ex.exG x.2.2.sub)]]∧True) fun n=>.all (fun(x:Unit)=>True) fun n_3=>.ex (fun(x:Ca×Ex)=>eqL [AV.agg [AV.str [(65:UInt8),(67:UInt8),(77:UInt8),(69:UInt8)],AV.str [(65:UInt8),(67:UInt8),(77:UInt8),(69:UInt8)],AV.int .i64 10,AV.str [(50:UInt8)],AV.str [(48:UInt8)]],AV.agg [AV.int .u8 (Ex.kind (Ex.mk n.1 [] [] (0:Int) [n.2.1,n.2.2])),AV.str (Ex.rat (Ex.mk n.1 [] [] (0:Int) [n.2.1,n.2.2])),AV.str (Ex.name (Ex.mk n.1 [] [] (0:Int) [n.2.1,n.2.2])),AV.int .i64 (Ex.date (Ex.mk n.1 [] [] (0:Int) [n.2.1,n.2.2])),AV.sl (List.length (Ex.sub (Ex.mk n.1 [] [] (0:Int) [n.2.1,n.2.2]))) 5 (Ex.deep (Ex.mk n.1 [] [] (0:Int) [n.2.1,n.2.2]))]] [AV.agg [AV.str (Ca.name x.1),AV.str (Ca.into x.1),AV.int .i64 (Ca.date x.1),AV.str (Ca.ratio x.1),AV.str (Ca.extra x.1)],AV.agg [AV.int .u8 x.2.kind,AV.str x.2.rat,AV.str x.2.name,AV.int .i64 x.2.date,AV.sl x.2.sub.length 5 (Ex.exG x.2.sub)]]∧wv x.1∧Ex.size x.2<1048576∧Ex.zo x.2<1073741824) fun n=>.all (fun(x:Unit)=>True) fun n_4=>.leaf (.back 0 [(0,.bool false),(1,.ptr 0 0),(2,.int .i64 0),(3,.ptr 1 0),(4,.int .i64 (Prod.snd (Ca.expr n.1 n.2)))] [.box [.str [(65:UInt8),(67:UInt8),(77:UInt8),(69:UInt8)],.str [(65:UInt8),(67:UInt8),(77:UInt8),(69:UInt8)],.int .i64 10,.str [(50:UInt8)],.str [(48:UInt8)]],.box [.int .u8 (Ex.kind (Prod.fst (Ca.expr n.1 n.2))),.str (Ex.rat (Prod.fst (Ca.expr n.1 n.2))),.str (Ex.name (Prod.fst (Ca.expr n.1 n.2))),.int .i64 (Ex.date (Prod.fst (Ca.expr n.1 n.2))),.sl (List.length (Ex.sub (Prod.fst (Ca.expr n.1 n.2)))) 5 (Ex.deep (Prod.fst (Ca.expr n.1 n.2)))]]))) (.ex (fun(x:List UInt8)=>eqL [AV.str #[(51:UInt8),(48:UInt8)].toList] [AV.str x]∧True) fun n=>.all (fun(x:Unit)=>True) fun n_1=>.ex (fun(x:Int×Ex×Ex)=>eqL [AV.int .u8 5,AV.agg [AV.int .u8 3,AV.str [],AV.str [(65:UInt8),(67:UInt8),(77:UInt8),(69:UInt8)],AV.int .i64 0,AV.nils],AV.agg [AV.int .u8 1,AV.str n,AV.str [],AV.int .i64 0,AV.nils]] [AV.int .u8 x.1,AV.agg [AV.int .u8 x.2.1.kind,AV.str x.2.1.rat,AV.str x.2.1.name,AV.int .i64 x.2.1.date,AV.sl x.2.1.sub.length 5 (Ex.exG x.2.1.sub)],AV.agg [AV.int .u8 x.2.2.kind,AV.str x.2.2.rat,AV.str x.2.2.name,AV.int .i64 x.2.2.date,AV.sl x.2.2.sub.length 5 (Ex.exG x.2.2.sub)]]∧True) fun n=>.all (fun(x:Unit)=>True) fun n_2=>.ex (fun(x:Ca×Ex)=>eqL [AV.agg [AV.str [(65:UInt8),(67:UInt8),(77:UInt8),(69:UInt8)],AV.str [(65:UInt8),(67:UInt8),(77:UInt8),(69:UInt8)],AV.int .i64 10,AV.str [(50:UInt8)],AV.str [(48:UInt8)]],AV.agg [AV.int .u8 (Ex.kind (Ex.mk n.1 [] [] (0:Int) [n.2.1,n.2.2])),AV.str (Ex.rat (Ex.mk n.1 [] [] (0:Int) [n.2.1,n.2.2])),AV.str (Ex.name (Ex.mk n.1 [] [] (0:Int) [n.2.1,n.2.2])),AV.int .i64 (Ex.date (Ex.mk n.1 [] [] (0:Int) [n.2.1,n.2.2])),AV.sl (List.length (Ex.sub (Ex.mk n.1 [] [] (0:Int) [n.2.1,n.2.2]))) 5 (Ex.deep (Ex.mk n.1 [] [] (0:Int) [n.2.1,n.2.2]))]] [AV.agg [AV.str (Ca.name x.1),AV.str (Ca.into x.1),AV.int .i64 (Ca.date x.1),AV.str (Ca.ratio x.1),AV.str (Ca.extra x.1)],AV.agg [AV.int .u8 x.2.kind,AV.str x.2.rat,AV.str x.2.name,AV.int .i64 x.2.date,AV.sl x.2.sub.length 5 (Ex.exG x.2.sub)]]∧wv x.1∧Ex.size x.2<1048576∧Ex.zo x.2<1073741824) fun n=>.all (fun(x:Unit)=>True) fun n_3=>.leaf (.back 0 [(0,.bool false),(1,.ptr 0 0),(2,.int .i64 0),(3,.ptr 1 0),(4,.int .i64 (Prod.snd (Ca.expr n.1 n.2)))] [.box [.str [(65:UInt8),(67:UInt8),(77:UInt8),(69:UInt8)],.str [(65:UInt8),(67:UInt8),(77:UInt8),(69:UInt8)],.int .i64 10,.str [(50:UInt8)],.str [(48:UInt8)]],.box [.int .u8 (Ex.kind (Prod.fst (Ca.expr n.1 n.2))),.str (Ex.rat (Prod.fst (Ca.expr n.1 n.2))),.str (Ex.name (Prod.fst (Ca.expr n.1 n.2))),.int .i64 (Ex.date (Prod.fst (Ca.expr n.1 n.2))),.sl (List.length (Ex.sub (Prod.fst (Ca.expr n.1 n.2)))) 5 (Ex.deep (Prod.fst (Ca.expr n.1 n.2)))]]))) (.ex (fun(x:Unit)=>eqL [] []∧True) fun n=>.all (fun(x:Unit)=>True) fun n=>.ex (fun(x:List UInt8)=>eqL [AV.str #[(51:UInt8),(48:UInt8)].toList] [AV.str x]∧True) fun n=>.all (fun(x:Unit)=>True) fun n_1=>.ex (fun(x:Int×Ex×Ex)=>eqL [AV.int .u8 5,AV.agg [AV.int .u8 3,AV.str [],AV.str [(65:UInt8),(67:UInt8),(77:UInt8),(69:UInt8)],AV.int .i64 0,AV.nils],AV.agg [AV.int .u8 1,AV.str n,AV.str [],AV.int .i64 0,AV.nils]] [AV.int .u8 x.1,AV.agg [AV.int .u8 x.2.1.kind,AV.str x.2.1.rat,AV.str x.2.1.name,AV.int .i64 x.2.1.date,AV.sl x.2.1.sub.length 5 (Ex.exG x.2.1.sub)],AV.agg [AV.int .u8 x.2.2.kind,AV.str x.2.2.rat,AV.str x.2.2.name,AV.int .i64 x.2.2.date,AV.sl x.2.2.sub.length 5 (Ex.exG x.2.2.sub)]]∧True) fun n=>.all (fun(x:Unit)=>True) fun n_2=>.ex (fun(x:Ca×Ex)=>eqL [AV.agg [AV.str [(65:UInt8),(67:UInt8),(77:UInt8),(69:UInt8)],AV.str [(65:UInt8),(67:UInt8),(77:UInt8),(69:UInt8)],AV.int .i64 10,AV.str [(50:UInt8)],AV.str [(48:UInt8)]],AV.agg [AV.int .u8 (Ex.kind (Ex.mk n.1 [] [] (0:Int) [n.2.1,n.2.2])),AV.str (Ex.rat (Ex.mk n.1 [] [] (0:Int) [n.2.1,n.2.2])),AV.str (Ex.name (Ex.mk n.1 [] [] (0:Int) [n.2.1,n.2.2])),AV.int .i64 (Ex.date (Ex.mk n.1 [] [] (0:Int) [n.2.1,n.2.2])),AV.sl (List.length (Ex.sub (Ex.mk n.1 [] [] (0:Int) [n.2.1,n.2.2]))) 5 (Ex.deep (Ex.mk n.1 [] [] (0:Int) [n.2.1,n.2.2]))]] [AV.agg [AV.str (Ca.name x.1),AV.str (Ca.into x.1),AV.int .i64 (Ca.date x.1),AV.str (Ca.ratio x.1),AV.str (Ca.extra x.1)],AV.agg [AV.int .u8 x.2.kind,AV.str x.2.rat,AV.str x.2.name,AV.int .i64 x.2.date,AV.sl x.2.sub.length 5 (Ex.exG x.2.sub)]]∧wv x.1∧Ex.size x.2<1048576∧Ex.zo x.2<1073741824) fun n=>.all (fun(x:Unit)=>True) fun n_3=>.leaf (.back 0 [(0,.bool false),(1,.ptr 0 0),(2,.int .i64 0),(3,.ptr 1 0),(4,.int .i64 (Prod.snd (Ca.expr n.1 n.2)))] [.box [.str [(65:UInt8),(67:UInt8),(77:UInt8),(69:UInt8)],.str [(65:UInt8),(67:UInt8),(77:UInt8),(69:UInt8)],.int .i64 10,.str [(50:UInt8)],.str [(48:UInt8)]],.box [.int .u8 (Ex.kind (Prod.fst (Ca.expr n.1 n.2))),.str (Ex.rat (Prod.fst (Ca.expr n.1 n.2))),.str (Ex.name (Prod.fst (Ca.expr n.1 n.2))),.int .i64 (Ex.date (Prod.fst (Ca.expr n.1 n.2))),.sl (List.length (Ex.sub (Prod.fst (Ca.expr n.1 n.2)))) 5 (Ex.deep (Prod.fst (Ca.expr n.1 n.2)))]]))) (by kernel_rfl) ?_
  simp only [Tree.holds,zd]
  repeat' first
   | apply JH
   | apply Kd
   | apply zb0
   | apply zbh xH (yd [51,48]) uj uj
   | apply X6 aSpl x1 zfx (wh x1) ht (by decide) (by decide)
  all_goals
   simp only [zi2]
   rw [if_pos trivial]
  all_goals exact⟨(),by simp [SA3],⟨zu _,zu _,trivial⟩,by kernel_rfl,Nat.zero_le _⟩
 show wX none Tryz.prog Tryz.f5 O 0 w0 [] _ _ LA3 _
 refine zb.cutL (ι:=Unit) LA3 1 0 (fun _=>SA4) (fun _=>HA4) (by kernel_rfl) (by kernel_rfl) ?_ fun _=> ?_
 ·refine zb.run hmix wP [0,1,2,3,4,5,6] 400 (T:=.ex (fun(x:Ca×List Fx×List Ch)=>eqL [AV.agg [AV.str [(65:UInt8),(67:UInt8),(77:UInt8),(69:UInt8)],AV.str [(65:UInt8),(67:UInt8),(77:UInt8),(69:UInt8)],AV.int .i64 10,AV.str [(50:UInt8)],AV.str [(48:UInt8)]],AV.agg [AV.sl 1 3 (zf (zg 3 [AV.str #[(65:UInt8),(67:UInt8),(77:UInt8),(69:UInt8)].toList,AV.int .i64 12,AV.str #[(49:UInt8),(56:UInt8)].toList]) 0),AV.nils]] [AV.agg [AV.str (Ca.name x.1),AV.str (Ca.into x.1),AV.int .i64 (Ca.date x.1),AV.str (Ca.ratio x.1),AV.str (Ca.extra x.1)],AV.agg [AV.sl x.2.1.length 3 (fxG x.2.1),AV.sl x.2.2.length 4 (chG x.2.2)]]∧jQ x.1∧envP x.2∧x.2.1.length≤1000000) fun n=>.all (fun(r:(List Fx×List Ch)×Int)=>r=Ca.before n.1 n.2.1 n.2.2) fun n=>.leaf (.back 0 [(0,.bool false),(1,.ptr 0 0),(2,.int .i64 0),(3,.ptr 1 0),(4,.int .i64 0),(5,.ptr 3 0),(6,.int .i64 n.2)] [.box [.str [(65:UInt8),(67:UInt8),(77:UInt8),(69:UInt8)],.str [(65:UInt8),(67:UInt8),(77:UInt8),(69:UInt8)],.int .i64 10,.str [(50:UInt8)],.str [(48:UInt8)]],.box [.int .u8 5,.str w1.rat,.str w1.name,.int .i64 0,.sl 2 5 w1.deep],.arr 1 3 (zg 3 [.str #[(65:UInt8),(67:UInt8),(77:UInt8),(69:UInt8)].toList,.int .i64 12,.str #[(49:UInt8),(56:UInt8)].toList]),.box [.sl n.1.1.length 3 (fxG n.1.1),.sl n.1.2.length 4 (chG n.1.2)]])) (by kernel_rfl) ?_
  simp only [Tree.holds,zd]
  refine⟨(aSpl,[⟨acme,12,[49,56]⟩],[]),⟨⟨zfx,⟨⟨rfl,rfl,zcv (x:=⟨acme,12,[49,56]⟩)⟩,by simp [chS],trivial⟩,trivial⟩,⟨by decide,by decide,by decide,by decide⟩,⟨by decide,by decide,fun j hj=> ?_,fun j hj=>by cases hj⟩,by decide⟩,⟨_,rfl⟩,?_⟩
  ·have:j=0:=by have:j<1:=hj; omega
   subst this
   exact⟨by decide,by decide⟩
  rintro _ rfl
  rw [if_pos trivial]
  simp only [al_v]
  exact⟨(),by simp [SA4],⟨zu _,zu _,trivial,zu _,trivial⟩,by kernel_rfl,Nat.zero_le _⟩
 show wX none Tryz.prog Tryz.f5 O 0 w0 [] _ _ LA4 _
 refine zb.cutL (ι:=Unit) LA4 1 0 (fun _=>SA5) (fun _=>HA5) (by kernel_rfl) (by kernel_rfl) ?_ fun _=> ?_
 ·refine zb.run hmix wP [0,1,2,3,4,5,6,7,8] 400 (T:=.ex (fun(x:SpA)=>eqL [AV.str #[(65:UInt8),(67:UInt8),(77:UInt8),(69:UInt8)].toList,AV.int .i64 10,AV.str #[(51:UInt8),(47:UInt8),(50:UInt8)].toList] [AV.str (SpA.n x),AV.int .i64 (SpA.d x),AV.str (SpA.r x)]∧List.length (SpA.n x)<274877906944∧List.length (SpA.r x)<274877906944) fun n=>.all (fun(x:Unit)=>True) fun n_1=>.leaf (.back 0 [(0,.bool false),(1,.ptr 0 0),(2,.int .i64 0),(3,.ptr 1 0),(4,.int .i64 0),(5,.ptr 3 0),(6,.int .i64 0),(7,.ptr 4 0),(8,.int .i64 (if Ca.ok (divA (SpA.n n) (SpA.d n) (SpA.r n))=true then(0:Int) else(8:Int)))] [.box [.str [(65:UInt8),(67:UInt8),(77:UInt8),(69:UInt8)],.str [(65:UInt8),(67:UInt8),(77:UInt8),(69:UInt8)],.int .i64 10,.str [(50:UInt8)],.str [(48:UInt8)]],.box [.int .u8 5,.str w1.rat,.str w1.name,.int .i64 0,.sl 2 5 w1.deep],.dead,.box [.sl 1 3 (fxG [{ name:=acme,date:=(12:Int),value:=[(51:UInt8),(54:UInt8)] }]),.sl 0 4 (chG [])],.box [.str (Ca.name (Ca.out (divA (SpA.n n) (SpA.d n) (SpA.r n)))),.str (Ca.into (Ca.out (divA (SpA.n n) (SpA.d n) (SpA.r n)))),.int .i64 (Ca.date (Ca.out (divA (SpA.n n) (SpA.d n) (SpA.r n)))),.str (Ca.ratio (Ca.out (divA (SpA.n n) (SpA.d n) (SpA.r n)))),.str (Ca.extra (Ca.out (divA (SpA.n n) (SpA.d n) (SpA.r n))))]])) (by kernel_rfl) ?_
  simp only [Tree.holds,zd]
  refine⟨⟨acme,10,[51,47,50]⟩,⟨⟨rfl,⟨rfl,rfl⟩,rfl,trivial⟩,by decide,by decide⟩,?_⟩
  have e8:(if(divA acme 10 [51,47,50]).ok=true then(0:Int) else 8)=0:=if_pos UJ
  simp only [zey,e8]
  refine⟨⟨(),trivial⟩,fun _ _=> ?_⟩
  rw [if_pos trivial]
  exact⟨(),by simp [SA5,SA4],⟨zu _,zu _,trivial,zu _,zu _,trivial⟩,by kernel_rfl,Nat.zero_le _⟩
 show wX none Tryz.prog Tryz.f5 O 0 w0 [] _ _ LA5 _
 refine zb.cutL (ι:=Unit) LA5 1 0 (fun _=>SA6) (fun _=>HA6) (by kernel_rfl) (by kernel_rfl) ?_ fun _=> ?_
 ·refine zb.run hmix wP [0,1,2,3,4,5,6,7,8,9,10] 400 (T:=.all (fun(x:Bool)=>True) fun n=>.ite n (.ex (fun(x:Unit)=>eqL [] []∧True) fun n=>.all (fun(x:Unit)=>True) fun n=>.all (fun(x:Bool)=>True) fun n=>.ite n (.ex (fun(x:Ca×Ex)=>eqL [AV.agg [AV.str [(65:UInt8),(67:UInt8),(77:UInt8),(69:UInt8)],AV.str [(65:UInt8),(67:UInt8),(77:UInt8),(69:UInt8)],AV.int .i64 10,AV.str [(49:UInt8)],AV.str [(51:UInt8),(47:UInt8),(50:UInt8)]],AV.agg [AV.int .u8 3,AV.str [],AV.str [(65:UInt8),(67:UInt8),(77:UInt8),(69:UInt8)],AV.int .i64 0,AV.nils]] [AV.agg [AV.str (Ca.name x.1),AV.str (Ca.into x.1),AV.int .i64 (Ca.date x.1),AV.str (Ca.ratio x.1),AV.str (Ca.extra x.1)],AV.agg [AV.int .u8 x.2.kind,AV.str x.2.rat,AV.str x.2.name,AV.int .i64 x.2.date,AV.sl x.2.sub.length 5 (Ex.exG x.2.sub)]]∧wv x.1∧Ex.size x.2<1048576∧Ex.zo x.2<1073741824) fun n=>.all (fun(x:Unit)=>True) fun n_1=>.leaf (.back 0 [(0,.bool false),(1,.ptr 0 0),(2,.int .i64 0),(3,.ptr 1 0),(4,.int .i64 0),(5,.ptr 3 0),(6,.int .i64 0),(7,.ptr 4 0),(8,.int .i64 0),(9,.ptr 5 0),(10,.int .i64 (Prod.snd (Ca.expr n.1 n.2)))] [.box [.str [(65:UInt8),(67:UInt8),(77:UInt8),(69:UInt8)],.str [(65:UInt8),(67:UInt8),(77:UInt8),(69:UInt8)],.int .i64 10,.str [(50:UInt8)],.str [(48:UInt8)]],.box [.int .u8 5,.str w1.rat,.str w1.name,.int .i64 0,.sl 2 5 w1.deep],.dead,.box [.sl 1 3 (fxG [{ name:=acme,date:=(12:Int),value:=[(51:UInt8),(54:UInt8)] }]),.sl 0 4 (chG [])],.box [.str [(65:UInt8),(67:UInt8),(77:UInt8),(69:UInt8)],.str [(65:UInt8),(67:UInt8),(77:UInt8),(69:UInt8)],.int .i64 10,.str [(49:UInt8)],.str [(51:UInt8),(47:UInt8),(50:UInt8)]],.box [.int .u8 (Ex.kind (Prod.fst (Ca.expr n.1 n.2))),.str (Ex.rat (Prod.fst (Ca.expr n.1 n.2))),.str (Ex.name (Prod.fst (Ca.expr n.1 n.2))),.int .i64 (Ex.date (Prod.fst (Ca.expr n.1 n.2))),.sl (List.length (Ex.sub (Prod.fst (Ca.expr n.1 n.2)))) 5 (Ex.deep (Prod.fst (Ca.expr n.1 n.2)))]])) (.ex (fun(x:Ca×Ex)=>eqL [AV.agg [AV.str [(65:UInt8),(67:UInt8),(77:UInt8),(69:UInt8)],AV.str [(65:UInt8),(67:UInt8),(77:UInt8),(69:UInt8)],AV.int .i64 10,AV.str [(49:UInt8)],AV.str [(51:UInt8),(47:UInt8),(50:UInt8)]],AV.agg [AV.int .u8 3,AV.str [],AV.str [(65:UInt8),(67:UInt8),(77:UInt8),(69:UInt8)],AV.int .i64 0,AV.nils]] [AV.agg [AV.str (Ca.name x.1),AV.str (Ca.into x.1),AV.int .i64 (Ca.date x.1),AV.str (Ca.ratio x.1),AV.str (Ca.extra x.1)],AV.agg [AV.int .u8 x.2.kind,AV.str x.2.rat,AV.str x.2.name,AV.int .i64 x.2.date,AV.sl x.2.sub.length 5 (Ex.exG x.2.sub)]]∧wv x.1∧Ex.size x.2<1048576∧Ex.zo x.2<1073741824) fun n=>.all (fun(x:Unit)=>True) fun n_1=>.leaf (.back 0 [(0,.bool false),(1,.ptr 0 0),(2,.int .i64 0),(3,.ptr 1 0),(4,.int .i64 0),(5,.ptr 3 0),(6,.int .i64 0),(7,.ptr 4 0),(8,.int .i64 0),(9,.ptr 5 0),(10,.int .i64 (Prod.snd (Ca.expr n.1 n.2)))] [.box [.str [(65:UInt8),(67:UInt8),(77:UInt8),(69:UInt8)],.str [(65:UInt8),(67:UInt8),(77:UInt8),(69:UInt8)],.int .i64 10,.str [(50:UInt8)],.str [(48:UInt8)]],.box [.int .u8 5,.str w1.rat,.str w1.name,.int .i64 0,.sl 2 5 w1.deep],.dead,.box [.sl 1 3 (fxG [{ name:=acme,date:=(12:Int),value:=[(51:UInt8),(54:UInt8)] }]),.sl 0 4 (chG [])],.box [.str [(65:UInt8),(67:UInt8),(77:UInt8),(69:UInt8)],.str [(65:UInt8),(67:UInt8),(77:UInt8),(69:UInt8)],.int .i64 10,.str [(49:UInt8)],.str [(51:UInt8),(47:UInt8),(50:UInt8)]],.box [.int .u8 (Ex.kind (Prod.fst (Ca.expr n.1 n.2))),.str (Ex.rat (Prod.fst (Ca.expr n.1 n.2))),.str (Ex.name (Prod.fst (Ca.expr n.1 n.2))),.int .i64 (Ex.date (Prod.fst (Ca.expr n.1 n.2))),.sl (List.length (Ex.sub (Prod.fst (Ca.expr n.1 n.2)))) 5 (Ex.deep (Prod.fst (Ca.expr n.1 n.2)))]]))) (.ex (fun(x:Unit)=>eqL [] []∧True) fun n=>.all (fun(x:Unit)=>True) fun n=>.ex (fun(x:Ca×Ex)=>eqL [AV.agg [AV.str [(65:UInt8),(67:UInt8),(77:UInt8),(69:UInt8)],AV.str [(65:UInt8),(67:UInt8),(77:UInt8),(69:UInt8)],AV.int .i64 10,AV.str [(49:UInt8)],AV.str [(51:UInt8),(47:UInt8),(50:UInt8)]],AV.agg [AV.int .u8 3,AV.str [],AV.str [(65:UInt8),(67:UInt8),(77:UInt8),(69:UInt8)],AV.int .i64 0,AV.nils]] [AV.agg [AV.str (Ca.name x.1),AV.str (Ca.into x.1),AV.int .i64 (Ca.date x.1),AV.str (Ca.ratio x.1),AV.str (Ca.extra x.1)],AV.agg [AV.int .u8 x.2.kind,AV.str x.2.rat,AV.str x.2.name,AV.int .i64 x.2.date,AV.sl x.2.sub.length 5 (Ex.exG x.2.sub)]]∧wv x.1∧Ex.size x.2<1048576∧Ex.zo x.2<1073741824) fun n=>.all (fun(x:Unit)=>True) fun n_1=>.leaf (.back 0 [(0,.bool false),(1,.ptr 0 0),(2,.int .i64 0),(3,.ptr 1 0),(4,.int .i64 0),(5,.ptr 3 0),(6,.int .i64 0),(7,.ptr 4 0),(8,.int .i64 0),(9,.ptr 5 0),(10,.int .i64 (Prod.snd (Ca.expr n.1 n.2)))] [.box [.str [(65:UInt8),(67:UInt8),(77:UInt8),(69:UInt8)],.str [(65:UInt8),(67:UInt8),(77:UInt8),(69:UInt8)],.int .i64 10,.str [(50:UInt8)],.str [(48:UInt8)]],.box [.int .u8 5,.str w1.rat,.str w1.name,.int .i64 0,.sl 2 5 w1.deep],.dead,.box [.sl 1 3 (fxG [{ name:=acme,date:=(12:Int),value:=[(51:UInt8),(54:UInt8)] }]),.sl 0 4 (chG [])],.box [.str [(65:UInt8),(67:UInt8),(77:UInt8),(69:UInt8)],.str [(65:UInt8),(67:UInt8),(77:UInt8),(69:UInt8)],.int .i64 10,.str [(49:UInt8)],.str [(51:UInt8),(47:UInt8),(50:UInt8)]],.box [.int .u8 (Ex.kind (Prod.fst (Ca.expr n.1 n.2))),.str (Ex.rat (Prod.fst (Ca.expr n.1 n.2))),.str (Ex.name (Prod.fst (Ca.expr n.1 n.2))),.int .i64 (Ex.date (Prod.fst (Ca.expr n.1 n.2))),.sl (List.length (Ex.sub (Prod.fst (Ca.expr n.1 n.2)))) 5 (Ex.deep (Prod.fst (Ca.expr n.1 n.2)))]]))) (by kernel_rfl) ?_
  simp only [Tree.holds,zd]
  repeat' first
   | apply JH
   | apply Kd
   | apply X6 aDiv xH zhm uj ht2 (by decide) (by decide)
  all_goals
   simp only [zhk]
   rw [if_pos trivial]
  all_goals exact⟨(),by simp [SA6,SA4],⟨zu _,zu _,trivial,zu _,zu _,zu _,trivial⟩,by kernel_rfl,Nat.zero_le _⟩
 show wX none Tryz.prog Tryz.f5 O 0 w0 [] _ _ LA6 _
 refine zb.cutL (ι:=Unit) LA6 1 0 (fun _=>SA7) (fun _=>HA7) (by kernel_rfl) (by kernel_rfl) ?_ fun _=> ?_
 ·refine zb.run hmix wP [0,1,2,3,4,5,6,7,8,9,10,11] 400 (T:=.ex (fun(x:List UInt8)=>eqL [AV.str #[(50:UInt8)].toList] [AV.str x]∧True) fun n=>.all (fun(x:Unit)=>True) fun n_1=>.ex (fun(x:Unit)=>eqL [] []∧True) fun n_2=>.all (fun(x:Unit)=>True) fun n_3=>.ex (fun(x:Int×Ex×Ex)=>eqL [AV.int .u8 6,AV.agg [AV.int .u8 1,AV.str n,AV.str [],AV.int .i64 0,AV.nils],AV.agg [AV.int .u8 3,AV.str [],AV.str [(65:UInt8),(67:UInt8),(77:UInt8),(69:UInt8)],AV.int .i64 0,AV.nils]] [AV.int .u8 x.1,AV.agg [AV.int .u8 x.2.1.kind,AV.str x.2.1.rat,AV.str x.2.1.name,AV.int .i64 x.2.1.date,AV.sl x.2.1.sub.length 5 (Ex.exG x.2.1.sub)],AV.agg [AV.int .u8 x.2.2.kind,AV.str x.2.2.rat,AV.str x.2.2.name,AV.int .i64 x.2.2.date,AV.sl x.2.2.sub.length 5 (Ex.exG x.2.2.sub)]]∧True) fun n=>.all (fun(x:Unit)=>True) fun n_4=>.ex (fun(x:List UInt8)=>eqL [AV.str #[(51:UInt8),(48:UInt8)].toList] [AV.str x]∧True) fun n_5=>.all (fun(x:Unit)=>True) fun n_6=>.ex (fun(x:Int×Ex×Ex)=>eqL [AV.int .u8 5,AV.agg [AV.int .u8 (Ex.kind (Ex.mk n.1 [] [] (0:Int) [n.2.1,n.2.2])),AV.str (Ex.rat (Ex.mk n.1 [] [] (0:Int) [n.2.1,n.2.2])),AV.str (Ex.name (Ex.mk n.1 [] [] (0:Int) [n.2.1,n.2.2])),AV.int .i64 (Ex.date (Ex.mk n.1 [] [] (0:Int) [n.2.1,n.2.2])),AV.sl (List.length (Ex.sub (Ex.mk n.1 [] [] (0:Int) [n.2.1,n.2.2]))) 5 (Ex.deep (Ex.mk n.1 [] [] (0:Int) [n.2.1,n.2.2]))],AV.agg [AV.int .u8 1,AV.str n_5,AV.str [],AV.int .i64 0,AV.nils]] [AV.int .u8 x.1,AV.agg [AV.int .u8 x.2.1.kind,AV.str x.2.1.rat,AV.str x.2.1.name,AV.int .i64 x.2.1.date,AV.sl x.2.1.sub.length 5 (Ex.exG x.2.1.sub)],AV.agg [AV.int .u8 x.2.2.kind,AV.str x.2.2.rat,AV.str x.2.2.name,AV.int .i64 x.2.2.date,AV.sl x.2.2.sub.length 5 (Ex.exG x.2.2.sub)]]∧True) fun n=>.all (fun(x:Unit)=>True) fun n_7=>.leaf (.back 0 [(0,.bool false),(1,.ptr 0 0),(2,.int .i64 0),(3,.ptr 1 0),(4,.int .i64 0),(5,.ptr 3 0),(6,.int .i64 0),(7,.ptr 4 0),(8,.int .i64 0),(9,.ptr 5 0),(10,.int .i64 0),(11,.ptr 6 0)] [.box [.str [(65:UInt8),(67:UInt8),(77:UInt8),(69:UInt8)],.str [(65:UInt8),(67:UInt8),(77:UInt8),(69:UInt8)],.int .i64 10,.str [(50:UInt8)],.str [(48:UInt8)]],.box [.int .u8 5,.str w1.rat,.str w1.name,.int .i64 0,.sl 2 5 w1.deep],.dead,.box [.sl 1 3 (fxG [{ name:=acme,date:=(12:Int),value:=[(51:UInt8),(54:UInt8)] }]),.sl 0 4 (chG [])],.box [.str [(65:UInt8),(67:UInt8),(77:UInt8),(69:UInt8)],.str [(65:UInt8),(67:UInt8),(77:UInt8),(69:UInt8)],.int .i64 10,.str [(49:UInt8)],.str [(51:UInt8),(47:UInt8),(50:UInt8)]],.box [.int .u8 4,.str w2.rat,.str w2.name,.int .i64 0,.sl 2 5 w2.deep],.box [.int .u8 (Ex.kind (Ex.mk n.1 [] [] (0:Int) [n.2.1,n.2.2])),.str (Ex.rat (Ex.mk n.1 [] [] (0:Int) [n.2.1,n.2.2])),.str (Ex.name (Ex.mk n.1 [] [] (0:Int) [n.2.1,n.2.2])),.int .i64 (Ex.date (Ex.mk n.1 [] [] (0:Int) [n.2.1,n.2.2])),.sl (List.length (Ex.sub (Ex.mk n.1 [] [] (0:Int) [n.2.1,n.2.2]))) 5 (Ex.deep (Ex.mk n.1 [] [] (0:Int) [n.2.1,n.2.2]))]])) (by kernel_rfl) ?_
  simp only [Tree.holds,zd]
  repeat' first
   | apply JH
   | apply Kd
   | apply zb0
   | apply zbh (yd [50]) xH uj uj
   | apply zbh (exOf 6 (yd [50]) xH) (yd [51,48]) (wh _) uj
  all_goals rw [if_pos trivial]
  all_goals exact⟨(),by simp [SA7,SA4],⟨zu _,zu _,trivial,zu _,zu _,zu _,zu _,trivial⟩,by kernel_rfl,Nat.zero_le _⟩
 show wX none Tryz.prog Tryz.f5 O 0 w0 [] _ _ LA7 _
 refine zb.run hmix wP [0,1,2,3,4,5,6,7,8,9,10,11] 400 (T:=.ex (fun(x:Ex×Ex)=>(bif decide ((0:Int)=0) then decide ((0:Int)=0) else false)=true→eqL [AV.agg [AV.int .u8 5,AV.str w1.rat,AV.str w1.name,AV.int .i64 0,AV.sl 2 5 w1.deep],AV.agg [AV.int .u8 5,AV.str w1.rat,AV.str w1.name,AV.int .i64 0,AV.sl 2 5 w1.deep]] [AV.agg [AV.int .u8 x.1.kind,AV.str x.1.rat,AV.str x.1.name,AV.int .i64 x.1.date,AV.sl x.1.sub.length 5 (Ex.exG x.1.sub)],AV.agg [AV.int .u8 x.2.kind,AV.str x.2.rat,AV.str x.2.name,AV.int .i64 x.2.date,AV.sl x.2.sub.length 5 (Ex.exG x.2.sub)]]∧Ex.size x.1<1152921504606846976) fun n=>.all (fun(x:Bool)=>(bif decide ((0:Int)=0) then decide ((0:Int)=0) else false)=true→(x=true↔n.1=n.2)) fun n=>.ite ((bif bif bif decide ((0:Int)=0) then decide ((0:Int)=0) else false then n else false then decide ((0:Int)=0) else false) == true) (.ex (fun(x:(List Fx×List Ch)×List Fx×List Ch)=>(bif bif bif decide ((0:Int)=0) then decide ((0:Int)=0) else false then n else false then decide ((0:Int)=0) else false)=true→eqL [AV.agg [AV.sl 1 3 (fxG [{ name:=acme,date:=(12:Int),value:=[(51:UInt8),(54:UInt8)] }]),AV.sl 0 4 (chG [])],AV.agg [AV.sl 1 3 (zf (zg 3 [AV.str #[(65:UInt8),(67:UInt8),(77:UInt8),(69:UInt8)].toList,AV.int .i64 12,AV.str #[(51:UInt8),(54:UInt8)].toList]) 0),AV.nils]] [AV.agg [AV.sl x.1.1.length 3 (fxG x.1.1),AV.sl x.1.2.length 4 (chG x.1.2)],AV.agg [AV.sl x.2.1.length 3 (fxG x.2.1),AV.sl x.2.2.length 4 (chG x.2.2)]]∧x.1.1.length<1099511627776∧x.1.2.length<1099511627776) fun n_1=>.all (fun(x:Bool)=>(bif bif bif decide ((0:Int)=0) then decide ((0:Int)=0) else false then n else false then decide ((0:Int)=0) else false)=true→(x=true↔n_1.1=n_1.2)) fun n_2=>.ex (fun(x:Unit)=>(bif bif bif bif bif bif decide ((0:Int)=0) then decide ((0:Int)=0) else false then n else false then decide ((0:Int)=0) else false then n_2 else false then decide ((0:Int)=0) else false then decide ((0:Int)=0) else false)=true→eqL [] []∧True) fun n_3=>.all (fun(x:Unit)=>(bif bif bif bif bif bif decide ((0:Int)=0) then decide ((0:Int)=0) else false then n else false then decide ((0:Int)=0) else false then n_2 else false then decide ((0:Int)=0) else false then decide ((0:Int)=0) else false)=true→True) fun n_4=>.ex (fun(x:List UInt8)=>(bif bif bif bif bif bif decide ((0:Int)=0) then decide ((0:Int)=0) else false then n else false then decide ((0:Int)=0) else false then n_2 else false then decide ((0:Int)=0) else false then decide ((0:Int)=0) else false)=true→eqL [AV.str #[(51:UInt8),(47:UInt8),(50:UInt8)].toList] [AV.str x]∧True) fun n_5=>.all (fun(x:Unit)=>(bif bif bif bif bif bif decide ((0:Int)=0) then decide ((0:Int)=0) else false then n else false then decide ((0:Int)=0) else false then n_2 else false then decide ((0:Int)=0) else false then decide ((0:Int)=0) else false)=true→True) fun n_6=>.ex (fun(x:Int×Ex×Ex)=>(bif bif bif bif bif bif decide ((0:Int)=0) then decide ((0:Int)=0) else false then n else false then decide ((0:Int)=0) else false then n_2 else false then decide ((0:Int)=0) else false then decide ((0:Int)=0) else false)=true→eqL [AV.int .u8 4,AV.agg [AV.int .u8 3,AV.str [],AV.str [(65:UInt8),(67:UInt8),(77:UInt8),(69:UInt8)],AV.int .i64 0,AV.nils],AV.agg [AV.int .u8 1,AV.str n_5,AV.str [],AV.int .i64 0,AV.nils]] [AV.int .u8 x.1,AV.agg [AV.int .u8 x.2.1.kind,AV.str x.2.1.rat,AV.str x.2.1.name,AV.int .i64 x.2.1.date,AV.sl x.2.1.sub.length 5 (Ex.exG x.2.1.sub)],AV.agg [AV.int .u8 x.2.2.kind,AV.str x.2.2.rat,AV.str x.2.2.name,AV.int .i64 x.2.2.date,AV.sl x.2.2.sub.length 5 (Ex.exG x.2.2.sub)]]∧True) fun n_7=>.all (fun(x:Unit)=>(bif bif bif bif bif bif decide ((0:Int)=0) then decide ((0:Int)=0) else false then n else false then decide ((0:Int)=0) else false then n_2 else false then decide ((0:Int)=0) else false then decide ((0:Int)=0) else false)=true→True) fun n_8=>.ex (fun(x:Ex×Ex)=>(bif bif bif bif bif bif decide ((0:Int)=0) then decide ((0:Int)=0) else false then n else false then decide ((0:Int)=0) else false then n_2 else false then decide ((0:Int)=0) else false then decide ((0:Int)=0) else false)=true→eqL [AV.agg [AV.int .u8 4,AV.str w2.rat,AV.str w2.name,AV.int .i64 0,AV.sl 2 5 w2.deep],AV.agg [AV.int .u8 (Ex.kind (Ex.mk n_7.1 [] [] (0:Int) [n_7.2.1,n_7.2.2])),AV.str (Ex.rat (Ex.mk n_7.1 [] [] (0:Int) [n_7.2.1,n_7.2.2])),AV.str (Ex.name (Ex.mk n_7.1 [] [] (0:Int) [n_7.2.1,n_7.2.2])),AV.int .i64 (Ex.date (Ex.mk n_7.1 [] [] (0:Int) [n_7.2.1,n_7.2.2])),AV.sl (List.length (Ex.sub (Ex.mk n_7.1 [] [] (0:Int) [n_7.2.1,n_7.2.2]))) 5 (Ex.deep (Ex.mk n_7.1 [] [] (0:Int) [n_7.2.1,n_7.2.2]))]] [AV.agg [AV.int .u8 x.1.kind,AV.str x.1.rat,AV.str x.1.name,AV.int .i64 x.1.date,AV.sl x.1.sub.length 5 (Ex.exG x.1.sub)],AV.agg [AV.int .u8 x.2.kind,AV.str x.2.rat,AV.str x.2.name,AV.int .i64 x.2.date,AV.sl x.2.sub.length 5 (Ex.exG x.2.sub)]]∧Ex.size x.1<1152921504606846976) fun n_9=>.all (fun(x:Bool)=>(bif bif bif bif bif bif decide ((0:Int)=0) then decide ((0:Int)=0) else false then n else false then decide ((0:Int)=0) else false then n_2 else false then decide ((0:Int)=0) else false then decide ((0:Int)=0) else false)=true→(x=true↔n_9.1=n_9.2)) fun n_10=>.leaf (.ret [.bool (bif bif bif bif bif bif bif decide ((0:Int)=0) then decide ((0:Int)=0) else false then n else false then decide ((0:Int)=0) else false then n_2 else false then decide ((0:Int)=0) else false then decide ((0:Int)=0) else false then n_10 else false)] [.box [.str [(65:UInt8),(67:UInt8),(77:UInt8),(69:UInt8)],.str [(65:UInt8),(67:UInt8),(77:UInt8),(69:UInt8)],.int .i64 10,.str [(50:UInt8)],.str [(48:UInt8)]],.box [.int .u8 5,.str w1.rat,.str w1.name,.int .i64 0,.sl 2 5 w1.deep],.dead,.box [.sl 1 3 (fxG [{ name:=acme,date:=(12:Int),value:=[(51:UInt8),(54:UInt8)] }]),.sl 0 4 (chG [])],.box [.str [(65:UInt8),(67:UInt8),(77:UInt8),(69:UInt8)],.str [(65:UInt8),(67:UInt8),(77:UInt8),(69:UInt8)],.int .i64 10,.str [(49:UInt8)],.str [(51:UInt8),(47:UInt8),(50:UInt8)]],.box [.int .u8 4,.str w2.rat,.str w2.name,.int .i64 0,.sl 2 5 w2.deep],.box [.int .u8 5,.str w1.rat,.str w1.name,.int .i64 0,.sl 2 5 w1.deep],.arr 1 3 (zg 3 [.str #[(65:UInt8),(67:UInt8),(77:UInt8),(69:UInt8)].toList,.int .i64 12,.str #[(51:UInt8),(54:UInt8)].toList])])) (.ex (fun(x:(List Fx×List Ch)×List Fx×List Ch)=>(bif bif bif decide ((0:Int)=0) then decide ((0:Int)=0) else false then n else false then decide ((0:Int)=0) else false)=true→eqL [AV.agg [AV.sl 1 3 (fxG [{ name:=acme,date:=(12:Int),value:=[(51:UInt8),(54:UInt8)] }]),AV.sl 0 4 (chG [])],AV.agg [AV.nils,AV.nils]] [AV.agg [AV.sl x.1.1.length 3 (fxG x.1.1),AV.sl x.1.2.length 4 (chG x.1.2)],AV.agg [AV.sl x.2.1.length 3 (fxG x.2.1),AV.sl x.2.2.length 4 (chG x.2.2)]]∧x.1.1.length<1099511627776∧x.1.2.length<1099511627776) fun n_1=>.all (fun(x:Bool)=>(bif bif bif decide ((0:Int)=0) then decide ((0:Int)=0) else false then n else false then decide ((0:Int)=0) else false)=true→(x=true↔n_1.1=n_1.2)) fun n_2=>.ex (fun(x:Unit)=>(bif bif bif bif bif bif decide ((0:Int)=0) then decide ((0:Int)=0) else false then n else false then decide ((0:Int)=0) else false then n_2 else false then decide ((0:Int)=0) else false then decide ((0:Int)=0) else false)=true→eqL [] []∧True) fun n_3=>.all (fun(x:Unit)=>(bif bif bif bif bif bif decide ((0:Int)=0) then decide ((0:Int)=0) else false then n else false then decide ((0:Int)=0) else false then n_2 else false then decide ((0:Int)=0) else false then decide ((0:Int)=0) else false)=true→True) fun n_4=>.ex (fun(x:List UInt8)=>(bif bif bif bif bif bif decide ((0:Int)=0) then decide ((0:Int)=0) else false then n else false then decide ((0:Int)=0) else false then n_2 else false then decide ((0:Int)=0) else false then decide ((0:Int)=0) else false)=true→eqL [AV.str #[(51:UInt8),(47:UInt8),(50:UInt8)].toList] [AV.str x]∧True) fun n_5=>.all (fun(x:Unit)=>(bif bif bif bif bif bif decide ((0:Int)=0) then decide ((0:Int)=0) else false then n else false then decide ((0:Int)=0) else false then n_2 else false then decide ((0:Int)=0) else false then decide ((0:Int)=0) else false)=true→True) fun n_6=>.ex (fun(x:Int×Ex×Ex)=>(bif bif bif bif bif bif decide ((0:Int)=0) then decide ((0:Int)=0) else false then n else false then decide ((0:Int)=0) else false then n_2 else false then decide ((0:Int)=0) else false then decide ((0:Int)=0) else false)=true→eqL [AV.int .u8 4,AV.agg [AV.int .u8 3,AV.str [],AV.str [(65:UInt8),(67:UInt8),(77:UInt8),(69:UInt8)],AV.int .i64 0,AV.nils],AV.agg [AV.int .u8 1,AV.str n_5,AV.str [],AV.int .i64 0,AV.nils]] [AV.int .u8 x.1,AV.agg [AV.int .u8 x.2.1.kind,AV.str x.2.1.rat,AV.str x.2.1.name,AV.int .i64 x.2.1.date,AV.sl x.2.1.sub.length 5 (Ex.exG x.2.1.sub)],AV.agg [AV.int .u8 x.2.2.kind,AV.str x.2.2.rat,AV.str x.2.2.name,AV.int .i64 x.2.2.date,AV.sl x.2.2.sub.length 5 (Ex.exG x.2.2.sub)]]∧True) fun n_7=>.all (fun(x:Unit)=>(bif bif bif bif bif bif decide ((0:Int)=0) then decide ((0:Int)=0) else false then n else false then decide ((0:Int)=0) else false then n_2 else false then decide ((0:Int)=0) else false then decide ((0:Int)=0) else false)=true→True) fun n_8=>.ex (fun(x:Ex×Ex)=>(bif bif bif bif bif bif decide ((0:Int)=0) then decide ((0:Int)=0) else false then n else false then decide ((0:Int)=0) else false then n_2 else false then decide ((0:Int)=0) else false then decide ((0:Int)=0) else false)=true→eqL [AV.agg [AV.int .u8 4,AV.str w2.rat,AV.str w2.name,AV.int .i64 0,AV.sl 2 5 w2.deep],AV.agg [AV.int .u8 (Ex.kind (Ex.mk n_7.1 [] [] (0:Int) [n_7.2.1,n_7.2.2])),AV.str (Ex.rat (Ex.mk n_7.1 [] [] (0:Int) [n_7.2.1,n_7.2.2])),AV.str (Ex.name (Ex.mk n_7.1 [] [] (0:Int) [n_7.2.1,n_7.2.2])),AV.int .i64 (Ex.date (Ex.mk n_7.1 [] [] (0:Int) [n_7.2.1,n_7.2.2])),AV.sl (List.length (Ex.sub (Ex.mk n_7.1 [] [] (0:Int) [n_7.2.1,n_7.2.2]))) 5 (Ex.deep (Ex.mk n_7.1 [] [] (0:Int) [n_7.2.1,n_7.2.2]))]] [AV.agg [AV.int .u8 x.1.kind,AV.str x.1.rat,AV.str x.1.name,AV.int .i64 x.1.date,AV.sl x.1.sub.length 5 (Ex.exG x.1.sub)],AV.agg [AV.int .u8 x.2.kind,AV.str x.2.rat,AV.str x.2.name,AV.int .i64 x.2.date,AV.sl x.2.sub.length 5 (Ex.exG x.2.sub)]]∧Ex.size x.1<1152921504606846976) fun n_9=>.all (fun(x:Bool)=>(bif bif bif bif bif bif decide ((0:Int)=0) then decide ((0:Int)=0) else false then n else false then decide ((0:Int)=0) else false then n_2 else false then decide ((0:Int)=0) else false then decide ((0:Int)=0) else false)=true→(x=true↔n_9.1=n_9.2)) fun n_10=>.leaf (.ret [.bool (bif bif bif bif bif bif bif decide ((0:Int)=0) then decide ((0:Int)=0) else false then n else false then decide ((0:Int)=0) else false then n_2 else false then decide ((0:Int)=0) else false then decide ((0:Int)=0) else false then n_10 else false)] [.box [.str [(65:UInt8),(67:UInt8),(77:UInt8),(69:UInt8)],.str [(65:UInt8),(67:UInt8),(77:UInt8),(69:UInt8)],.int .i64 10,.str [(50:UInt8)],.str [(48:UInt8)]],.box [.int .u8 5,.str w1.rat,.str w1.name,.int .i64 0,.sl 2 5 w1.deep],.dead,.box [.sl 1 3 (fxG [{ name:=acme,date:=(12:Int),value:=[(51:UInt8),(54:UInt8)] }]),.sl 0 4 (chG [])],.box [.str [(65:UInt8),(67:UInt8),(77:UInt8),(69:UInt8)],.str [(65:UInt8),(67:UInt8),(77:UInt8),(69:UInt8)],.int .i64 10,.str [(49:UInt8)],.str [(51:UInt8),(47:UInt8),(50:UInt8)]],.box [.int .u8 4,.str w2.rat,.str w2.name,.int .i64 0,.sl 2 5 w2.deep],.box [.int .u8 5,.str w1.rat,.str w1.name,.int .i64 0,.sl 2 5 w1.deep]]))) (by kernel_rfl) ?_
 simp only [Tree.holds,zd]
 refine⟨(w1,w1),fun _=>⟨⟨wh w1,wh w1,trivial⟩,by decide⟩,⟨true,fun _=>by simp⟩,fun r1 h1=> ?_⟩
 obtain rfl:r1=true:=(h1 rfl).2 rfl
 refine⟨fun _=> ?_,fun h=>absurd h (by decide)⟩
 refine⟨(([⟨acme,12,[51,54]⟩],[]),([⟨acme,12,[51,54]⟩],[])),fun _=>⟨⟨⟨⟨rfl,rfl,za _ _ _⟩,⟨rfl,rfl,za _ _ _⟩,trivial⟩,⟨⟨rfl,rfl,zcv (x:=⟨acme,12,[51,54]⟩)⟩,by simp,trivial⟩,trivial⟩,by decide,by decide⟩,⟨true,fun _=>by simp⟩,fun r2 h2=> ?_⟩
 obtain rfl:r2=true:=(h2 rfl).2 rfl
 refine⟨(),fun _=>⟨trivial,trivial⟩,⟨(),fun _=>trivial⟩,fun _ _=> ?_⟩
 refine⟨[51,47,50],fun _=>⟨⟨rfl,trivial⟩,trivial⟩,⟨(),fun _=>trivial⟩,fun _ _=> ?_⟩
 refine⟨(4,xH,yd [51,47,50]),fun _=>⟨⟨⟨rfl,rfl⟩,uj,uj,trivial⟩,trivial⟩,⟨(),fun _=>trivial⟩,fun _ _=> ?_⟩
 refine⟨(w2,w2),fun _=>⟨⟨wh w2,wh w2,trivial⟩,by decide⟩,⟨true,fun _=>by simp⟩,fun r3 h3=> ?_⟩
 obtain rfl:r3=true:=(h3 rfl).2 rfl
 exact RetR.scal hq rfl (by simp [resV])
end Go.Proofs.Tryz
end
section
namespace Go.Nov
open Go.Sx
theorem UC{k d d':Int}{r n r' n':List UInt8}{ss ss':List Int}(h:jd k r n d ss≠0)(h':jd k r' n' d' ss'≠0):jd k r n d ss=jd k r' n' d' ss':=by
 unfold jd at h h' ⊢
 cases hs:js k
 ·simp only [hs,Bool.false_eq_true,if_false] at h h' ⊢
  split at h
  ·split at h'
   ·simp_all
   ·exact absurd rfl h'
  ·exact absurd rfl h
 ·simp only [hs,if_true] at h h' ⊢
  split at h
  ·split at h'
   ·simp_all
   ·exact absurd rfl h'
  ·exact absurd rfl h
theorem Jd{k d:Int}{r n:List UInt8}{ss:List Int}(hk:k=2∨k=3∨k=4∨k=6)(h:jd k r n d ss≠0):jd k r n d ss=1:=by
 unfold jd at h ⊢
 rcases hk with rfl | rfl | rfl | rfl
 ·have:js 2=false:=by decide
  simp only [this,Bool.false_eq_true,if_false] at h ⊢
  split at h
  ·rw [if_pos (by assumption)]
  ·exact absurd rfl h
 ·have:js 3=false:=by decide
  simp only [this,Bool.false_eq_true,if_false] at h ⊢
  split at h
  ·rw [if_pos (by assumption)]
  ·exact absurd rfl h
 ·have:js 4=true:=by decide
  simp only [this,if_true] at h ⊢
  split at h
  ·rw [if_pos (by assumption)]; decide
  ·exact absurd rfl h
 ·have:js 6=true:=by decide
  simp only [this,if_true] at h ⊢
  split at h
  ·rw [if_pos (by assumption)]; decide
  ·exact absurd rfl h
namespace Ca
def more(a:Ca):Nat:=(if a.ratio=[49] then 0 else 2)+(if a.extra=[48] then 0 else 2)
mutual
def grow(a:Ca):Ex→Nat
 | .mk k r n d s=>if a.onX k n d=true then a.more else jx a s
def jx(a:Ca):List Ex→Nat
 | []=>0
 | x::l=>grow a x+jx a l
end
theorem Yj(a:Ca)(x:Ex):grow a x=if a.onX x.kind x.name x.date=true then a.more else jx a x.sub:=by
 cases x; rw [grow]; rfl
theorem ZC{a:Ca}{k d:Int}{n:List UInt8}(h:a.onX k n d=true):k=3∨k=2:=by
 simp [onX] at h
 rcases h.2 with h1 | h1
 ·exact .inl h1
 ·exact .inr h1.1
theorem U3{a:Ca}{k d:Int}{r n:List UInt8}(hk:k=3∨k=2)(h:(a.rel (.mk k r n d [])).zC≠0):(a.rel (.mk k r n d [])).zC=1:=by
 unfold rel at h ⊢
 split<;>split<;>simp_all only [if_true,if_false,Tm.opx,Ex.zC,ite_true,ite_false]<;>refine Jd ?_ h<;>omega
theorem zbd{a:Ca}{x:Ex}(h:x.zC≠0)(h':(chg a x).zC≠0):(chg a x).zC=x.zC:=by
 obtain⟨k,r,n,d,s⟩:=x
 rw [chg] at h' ⊢
 by_cases hh:a.onX k n d=true
 ·rw [if_pos hh] at h' ⊢
  rw [U3 (ZC hh) h']
  rw [Ex.zC] at h ⊢
  rw [Jd (by have:=ZC hh; omega) h]
 ·rw [if_neg hh] at h' ⊢
  rw [Ex.zC] at h h' ⊢
  rw [Ex.zC]
  exact UC h' h
mutual
theorem WV(a:Ca):∀ x:Ex,x.zC≠0→(chg a x).size=x.size+grow a x
 | .mk k r n d s,h=>by
  rw [Ex.zC] at h
  rw [chg,grow]
  by_cases hh:a.onX k n d=true
  ·rw [if_pos hh,if_pos hh]
   obtain⟨_,h2⟩:=xU h (ZC hh)
   have:s=[]:=by
    cases s with
    | nil=>rfl
    | cons x s=>rw [Ex.qR] at h2; cases h2
   subst this
   unfold rel more
   split<;>split<;>simp [Tm.opx,Tm.kon,Ex.size,Ex.zm]
  ·rw [if_neg hh,if_neg hh]
   simp only [Ex.size]
   rw [Qx a s (V2 h)]
   omega
theorem Qx(a:Ca):∀ s:List Ex,(∀ p∈Ex.qR s,p≠0)→Ex.zm (chgs a s)=Ex.zm s+jx a s
 | [],_=>by rw [chgs,jx]; rfl
 | x::s,h=>by
  rw [Ex.qR] at h
  rw [chgs,jx]
  simp only [Ex.zm]
  rw [WV a x (h _ (by simp)),Qx a s (fun p hp=>h p (by simp [hp]))]
  omega
end
end Ca
end Go.Nov
end
section
set_option maxRecDepth 100000
open Go Go.Sx Go.Proofs Go.Nov
namespace Go.Proofs.Tryz
attribute [local simp] eqKV eqA eqA0 eqH eqB eqL eqL0
noncomputable def K18:List Go.Sx.Item:=[.code (Tryz.f18.body.getD .skip)]
theorem zgg{a:Ca}{x:Ex}(h:(a.expr x).2=0):(a.expr x).1=a.chg x∧x.errX=0∧(a.chg x).errX=0:=by
 unfold Ca.expr at h ⊢
 by_cases q1:a.ok=true
 ·rw [if_pos q1] at h ⊢
  by_cases q2:x.errX=0
  ·rw [if_pos q2] at h ⊢
   by_cases q3:(a.chg x).errX=0
   ·rw [if_pos q3] at h ⊢
    exact⟨rfl,q2,q3⟩
   ·rw [if_neg q3] at h; exact absurd h q3
  ·rw [if_neg q2] at h; exact absurd h q2
 ·rw [if_neg q1] at h; exact absurd h (show ¬ (8:Int)=0 by decide)
theorem zeh{a:Ca}{x:Ex}(h:¬ (a.expr x).2=0):(a.expr x).1=Ex.nil:=by
 unfold Ca.expr at h ⊢
 split
 ·split
  ·split
   ·rename_i q1 q2 q3
    rw [if_pos q1,if_pos q2,if_pos q3] at h
    exact absurd rfl h
   ·rfl
  ·rfl
 ·rfl
theorem uI(a:Ca):(∀ x:Ex,a.grow x≤4*x.size)∧∀ s:List Ex,a.jx s≤4*Ex.zm s:=by
 have hm:a.more≤4:=by unfold Ca.more; split<;>split<;>omega
 have key:∀ n:Nat,(∀ x:Ex,x.size≤n→a.grow x≤4*x.size):=by
  intro n
  induction n with
  | zero=>intro x hx; have:=Ex.size_pos x; omega
  | succ n ih=>
   intro x hx
   rw [Ca.Yj]
   rw [Ex.size_eq] at hx ⊢
   split
   ·omega
   ·have:∀ s:List Ex,Ex.zm s≤n→a.jx s≤4*Ex.zm s:=by
     intro s
     induction s with
     | nil=>intro _; rw [Ca.jx]; omega
     | cons y s ihs=>
      intro h
      rw [Ca.jx]
      simp only [Ex.zm] at h ⊢
      have:=ih y (by omega)
      have:=ihs (by omega)
      omega
    have:=this x.sub (by omega)
    omega
 refine⟨fun x=>key _ x (Nat.le_refl _),fun s=> ?_⟩
 induction s with
 | nil=>rw [Ca.jx]; omega
 | cons y s ihs=>rw [Ca.jx]; simp only [Ex.zm]; have:=key _ y (Nat.le_refl _); omega
theorem ZL(a:Ca):∀ (s:List Ex) (i:Nat),i<s.length→a.jx (s.take (i+1))=a.jx (s.take i)+a.grow (s.getD i Ex.nil)
 | [],_,h=>by simp at h
 | x::s,0,_=>by simp [Ca.jx]
 | x::s,i+1,hl=>by
  rw [List.take_succ_cons,Ca.jx,ZL a s i (by simpa using hl),List.take_succ_cons,Ca.jx,List.getD_cons_succ]; omega
def zcw(n:Nat):Ctr:=ctrP true (fun p:Ca×Ex=>[p.1.av,p.2.exA]) (fun p=>p.2.size<n∧p.2.size<2^40) (fun p r=>r=p.1.grow p.2) (fun _ (r:Nat)=>(.int .i64 (r:Int),[]))
def bCa(a:Ca):Blk:=.box [.str a.name,.str a.into,.int .i64 a.date,.str a.ratio,.str a.extra]
def bExA(x:Ex):Blk:=.box [.int .u8 x.kind,.str x.rat,.str x.name,.int .i64 x.date,.sl x.sub.length 5 (Ex.exG x.sub)]
def SGw(c i:Nat):KV:=[(2,.ptr 0 0),(3,.ptr 1 0),(6,.int .i64 (c:Int)),(7,.int .i64 (i:Int))]
theorem Ke(n:Nat)(ih:zc Tryz.prog 18 (zcw n)):zc Tryz.prog 18 (zcw (n+1)):=by
 refine ze (fn:=Tryz.f18) (c:=Tryz.f18.body.getD .skip) rfl rfl rfl fun p hp O w0 Q hq=> ?_
 obtain⟨a,x⟩:=p
 obtain⟨h1,h2⟩:=hp
 replace hq:=hq _ rfl
 simp only at h1 h2 hq
 rw [Ca.Yj] at hq
 rw [Ex.size_eq] at h1 h2
 refine zb.run hmix (j5 ih) [2,3,6,7] 400 (T:=.ite (bif bif decide (Ex.kind x=3) then decide (Ex.name x=Ca.name a) else false then true else bif bif decide (Ex.kind x=2) then decide (Ex.name x=Ca.name a) else false then decide (Ca.date a≤Ex.date x) else false) (.ite (!decide (Ca.ratio a=#[(49:UInt8)].toList)) (.side (inR .i64 (2:Int)) (.ite (!decide (Ca.extra a=#[(48:UInt8)].toList)) (.side (inR .i64 (4:Int)) (.leaf (.ret [.int .i64 4] [.box [.str (Ca.name a),.str (Ca.into a),.int .i64 (Ca.date a),.str (Ca.ratio a),.str (Ca.extra a)],.box [.int .u8 x.kind,.str x.rat,.str x.name,.int .i64 x.date,.sl x.sub.length 5 (Ex.exG x.sub)]]))) (.leaf (.ret [.int .i64 2] [.box [.str (Ca.name a),.str (Ca.into a),.int .i64 (Ca.date a),.str (Ca.ratio a),.str (Ca.extra a)],.box [.int .u8 x.kind,.str x.rat,.str x.name,.int .i64 x.date,.sl x.sub.length 5 (Ex.exG x.sub)]])))) (.ite (!decide (Ca.extra a=#[(48:UInt8)].toList)) (.side (inR .i64 (2:Int)) (.leaf (.ret [.int .i64 2] [.box [.str (Ca.name a),.str (Ca.into a),.int .i64 (Ca.date a),.str (Ca.ratio a),.str (Ca.extra a)],.box [.int .u8 x.kind,.str x.rat,.str x.name,.int .i64 x.date,.sl x.sub.length 5 (Ex.exG x.sub)]]))) (.leaf (.ret [.int .i64 0] [.box [.str (Ca.name a),.str (Ca.into a),.int .i64 (Ca.date a),.str (Ca.ratio a),.str (Ca.extra a)],.box [.int .u8 x.kind,.str x.rat,.str x.name,.int .i64 x.date,.sl x.sub.length 5 (Ex.exG x.sub)]])))) (.leaf (.loop (Prod.fst (lps K18 0)) (Prod.snd (lps K18 0)) [(2,.ptr 0 0),(3,.ptr 1 0),(6,.int .i64 0),(7,.int .i64 0)] [.box [.str (Ca.name a),.str (Ca.into a),.int .i64 (Ca.date a),.str (Ca.ratio a),.str (Ca.extra a)],.box [.int .u8 x.kind,.str x.rat,.str x.name,.int .i64 x.date,.sl x.sub.length 5 (Ex.exG x.sub)]]))) (by kernel_rfl) ?_
 simp only [Tree.holds,zd,inR,lo,hi,Int.toNat_natCast]
 have hcc:(bif bif decide (x.kind=3) then decide (x.name=a.name) else false then true else bif bif decide (x.kind=2) then decide (x.name=a.name) else false then decide (a.date≤x.date) else false)=a.onX x.kind x.name x.date:=by
  unfold Ca.onX
  cases decide (x.kind=3)<;>cases decide (x.kind=2)<;>cases decide (x.name=a.name)<;>cases decide (a.date≤x.date)<;>rfl
 rw [hcc]
 refine⟨fun h=> ?_,fun h=> ?_⟩
 ·rw [if_pos h] at hq
  unfold Ca.more at hq
  refine⟨fun g1=>⟨by omega,fun _=>⟨fun g2=>⟨by omega,fun _=> ?_⟩,fun g2=> ?_⟩⟩,fun g1=>⟨fun g2=>⟨by omega,fun _=> ?_⟩,fun g2=> ?_⟩⟩
  all_goals
   simp only [Bool.not_eq_true',decide_eq_false_iff_not,Bool.not_eq_false',decide_eq_true_eq] at g1 g2
   simp only [g1,g2,if_true,if_false] at hq
   exact RetR.scal hq rfl (by simp [resV])
 rw [if_neg (by rw [h]; decide)] at hq
 have hlen:=Ex.zS x.sub
 have hgr:=(uI a).2 x.sub
 refine zb.loop (ι:={i:Nat // i≤x.sub.length}) (fun i=>SGw (a.jx (x.sub.take i.1)) i.1) (fun _=>[bCa a,bExA x]) (fun i=>x.sub.length - i.1) ⟨0,Nat.zero_le _⟩ 0 ?_ ?_ (by kernel_rfl)
 ·exact⟨by simp [SGw,Ca.jx],⟨zu _,zu _,trivial⟩,by kernel_rfl,Nat.zero_le _⟩
 ·rintro⟨i,hil⟩
  obtain⟨c,hc⟩:∃ c,a.jx (x.sub.take i)=c:=⟨_,rfl⟩
  simp only [hc]
  refine zb.run hmix (j5 ih) [2,3,6,7] 400 (T:=.ite (decide ((↑i:Int)<x.sub.length)) (.side ((0:Int)≤i∧(↑i:Int)<x.sub.length) (.ex (fun(x_1:Ca×Ex)=>eqL [AV.agg [AV.str (Ca.name a),AV.str (Ca.into a),AV.int .i64 (Ca.date a),AV.str (Ca.ratio a),AV.str (Ca.extra a)],AV.agg [AV.int .u8 (Ex.kind (List.getD x.sub (↑i:Int).toNat Ex.nil)),AV.str (Ex.rat (List.getD x.sub (↑i:Int).toNat Ex.nil)),AV.str (Ex.name (List.getD x.sub (↑i:Int).toNat Ex.nil)),AV.int .i64 (Ex.date (List.getD x.sub (↑i:Int).toNat Ex.nil)),AV.sl (List.length (Ex.sub (List.getD x.sub (↑i:Int).toNat Ex.nil))) 5 (Ex.deep (List.getD x.sub (↑i:Int).toNat Ex.nil))]] [AV.agg [AV.str (Ca.name x_1.1),AV.str (Ca.into x_1.1),AV.int .i64 (Ca.date x_1.1),AV.str (Ca.ratio x_1.1),AV.str (Ca.extra x_1.1)],AV.agg [AV.int .u8 x_1.2.kind,AV.str x_1.2.rat,AV.str x_1.2.name,AV.int .i64 x_1.2.date,AV.sl x_1.2.sub.length 5 (Ex.exG x_1.2.sub)]]∧Ex.size x_1.2<n∧Ex.size x_1.2<1099511627776) fun n=>.all (fun(r:Nat)=>r=Ca.grow n.1 n.2) fun n=>.side (inR .i64 ((↑c:Int)+n)) (.side (inR .i64 ((↑i:Int)+(1:Int))) (.leaf (.back 0 [(2,.ptr 0 0),(3,.ptr 1 0),(6,.int .i64 ((↑c:Int)+n)),(7,.int .i64 ((↑i:Int)+(1:Int)))] [.box [.str (Ca.name a),.str (Ca.into a),.int .i64 (Ca.date a),.str (Ca.ratio a),.str (Ca.extra a)],.box [.int .u8 x.kind,.str x.rat,.str x.name,.int .i64 x.date,.sl x.sub.length 5 (Ex.exG x.sub)]]))))) (.leaf (.ret [.int .i64 c] [.box [.str (Ca.name a),.str (Ca.into a),.int .i64 (Ca.date a),.str (Ca.ratio a),.str (Ca.extra a)],.box [.int .u8 x.kind,.str x.rat,.str x.name,.int .i64 x.date,.sl x.sub.length 5 (Ex.exG x.sub)]]))) (by kernel_rfl) ?_
  simp only [Tree.holds,zd,inR,lo,hi,Int.toNat_natCast]
  refine⟨fun hlt=> ?_,fun hge=> ?_⟩
  ·have hlt:i<x.sub.length:=by have:=of_decide_eq_true hlt; omega
   have hg:=Ex.qT hlt
   have ht:=ZL a x.sub i hlt
   have hle:=(uI a).1 (x.sub.getD i Ex.nil)
   have hle2:=(uI a).2 (x.sub.take i)
   have hle3:Ex.zm (x.sub.take i)≤Ex.zm x.sub:=Ex.vE x.sub i
   refine⟨by omega,fun _=>⟨(a,x.sub.getD i Ex.nil),⟨⟨⟨rfl,rfl,⟨rfl,rfl⟩,rfl,rfl,trivial⟩,wh _,trivial⟩,by show(x.sub.getD i Ex.nil).size<n; omega,by show(x.sub.getD i Ex.nil).size<_; omega⟩,⟨_,rfl⟩,?_⟩⟩
   rintro _ rfl
   refine⟨by simp only; omega,fun _=>⟨by omega,fun _=> ?_⟩⟩
   rw [if_pos trivial]
   refine⟨⟨i+1,hlt⟩,by show x.sub.length - (i+1)<x.sub.length - i; omega,?_,⟨zu _,zu _,trivial⟩,by kernel_rfl,Nat.zero_le _⟩
   simp [SGw,ht,hc]
  ·have hge:i=x.sub.length:=by have:=of_decide_eq_false hge; omega
   subst hge
   rw [List.take_length] at hc
   rw [hc] at hq
   exact RetR.scal hq rfl (by simp [resV])
def W7:Ctr:=ctrP true (fun p:Ca×Ex=>[p.1.av,p.2.exA]) (fun p=>p.2.size<2^40) (fun p r=>r=p.1.grow p.2) (fun _ (r:Nat)=>(.int .i64 (r:Int),[]))
theorem zcx:zc Tryz.prog 18 W7:=vp (fun p=>p.2.size) Ke
noncomputable def GGr:Nat→Option Ctr:=fun f=>if f=5 then some (WW) else if f=6 then some (zf7) else if f=13 then some (zar) else if f=14 then some (Xx) else if f=15 then some ((Yi 1)) else if f=16 then some ((Yi 2)) else if f=17 then some (Vt) else if f=18 then some (W7) else none
theorem zgw:∀ g c,GGr g=some c→zc Tryz.prog g c:=okIf Kl (okIf zel (okIf YD (okIf XQ (okIf zhb (okIf UG (okIf Ye (okIf zcx (zt))))))))
def zgt:Ctr:=ctrP true (fun p:Ca×Ex=>[p.1.av,p.2.exA]) (fun p=>p.2.thin) (fun _ r=>r=true) (fun _ (r:Bool)=>(.bool r,[]))
theorem zch:zc Tryz.prog 4 zgt:=by
 refine ze (fn:=Tryz.f4) (c:=Tryz.f4.body.getD .skip) rfl rfl rfl fun p hp O w0 Q hq=> ?_
 obtain⟨a,x⟩:=p
 replace hp:x.thin:=hp
 replace hq:=hq _ rfl
 refine zb.run hmix zgw [] 400 (T:=.ex (fun(x:Unit)=>eqL [] []∧True) fun n=>.all (fun(r:Bool)=>r=true) fun n=>.ex (fun(x:Ca)=>eqL [AV.agg [AV.str (Ca.name a),AV.str (Ca.into a),AV.int .i64 (Ca.date a),AV.str (Ca.ratio a),AV.str (Ca.extra a)]] [AV.agg [AV.str (Ca.name x),AV.str (Ca.into x),AV.int .i64 (Ca.date x),AV.str (Ca.ratio x),AV.str (Ca.extra x)]]∧True) fun n_1=>.all (fun(r:Bool)=>r=false→List.length (Ca.name n_1)≤1000∧List.length (Ca.into n_1)≤1000∧List.length (Ca.ratio n_1)≤1000∧List.length (Ca.extra n_1)≤1000) fun n_2=>.ex (fun(x_1:Ex)=>n_2=false→eqL [AV.agg [AV.int .u8 x.kind,AV.str x.rat,AV.str x.name,AV.int .i64 x.date,AV.sl x.sub.length 5 (Ex.exG x.sub)]] [AV.agg [AV.int .u8 x_1.kind,AV.str x_1.rat,AV.str x_1.name,AV.int .i64 x_1.date,AV.sl x_1.sub.length 5 (Ex.exG x_1.sub)]]∧Ex.thin x_1) fun n_3=>.all (fun(x:Bool)=>n_2=false→x=false→Ex.size n_3≤600∧Ex.zo n_3≤3000) fun n_4=>.ite (bif bif n_2 then true else n_4 then true else !n) (.leaf (.ret [.bool n] [.box [.str (Ca.name a),.str (Ca.into a),.int .i64 (Ca.date a),.str (Ca.ratio a),.str (Ca.extra a)],.box [.int .u8 x.kind,.str x.rat,.str x.name,.int .i64 x.date,.sl x.sub.length 5 (Ex.exG x.sub)]])) (.ex (fun(x_1:Ca×Ex)=>eqL [AV.agg [AV.str (Ca.name a),AV.str (Ca.into a),AV.int .i64 (Ca.date a),AV.str (Ca.ratio a),AV.str (Ca.extra a)],AV.agg [AV.int .u8 x.kind,AV.str x.rat,AV.str x.name,AV.int .i64 x.date,AV.sl x.sub.length 5 (Ex.exG x.sub)]] [AV.agg [AV.str (Ca.name x_1.1),AV.str (Ca.into x_1.1),AV.int .i64 (Ca.date x_1.1),AV.str (Ca.ratio x_1.1),AV.str (Ca.extra x_1.1)],AV.agg [AV.int .u8 x_1.2.kind,AV.str x_1.2.rat,AV.str x_1.2.name,AV.int .i64 x_1.2.date,AV.sl x_1.2.sub.length 5 (Ex.exG x_1.2.sub)]]∧wv x_1.1∧Ex.size x_1.2<1048576∧Ex.zo x_1.2<1073741824) fun n_5=>.all (fun(x:Unit)=>True) fun n_6=>.ite (!decide (Prod.snd (Ca.expr n_5.1 n_5.2)=(0:Int))) (.leaf (.ret [.bool (bif bif n then decide (Ex.kind (Prod.fst (Ca.expr n_5.1 n_5.2))=(0:Int)) else false then decide ((↑(List.length (Ex.sub (Prod.fst (Ca.expr n_5.1 n_5.2)))):Int)=0) else false)] [.box [.str (Ca.name a),.str (Ca.into a),.int .i64 (Ca.date a),.str (Ca.ratio a),.str (Ca.extra a)],.box [.int .u8 x.kind,.str x.rat,.str x.name,.int .i64 x.date,.sl x.sub.length 5 (Ex.exG x.sub)],.box [.int .u8 (Ex.kind (Prod.fst (Ca.expr n_5.1 n_5.2))),.str (Ex.rat (Prod.fst (Ca.expr n_5.1 n_5.2))),.str (Ex.name (Prod.fst (Ca.expr n_5.1 n_5.2))),.int .i64 (Ex.date (Prod.fst (Ca.expr n_5.1 n_5.2))),.sl (List.length (Ex.sub (Prod.fst (Ca.expr n_5.1 n_5.2)))) 5 (Ex.deep (Prod.fst (Ca.expr n_5.1 n_5.2)))]])) (.ex (fun(x:Ex)=>n=true→eqL [AV.agg [AV.int .u8 (Ex.kind (Prod.fst (Ca.expr n_5.1 n_5.2))),AV.str (Ex.rat (Prod.fst (Ca.expr n_5.1 n_5.2))),AV.str (Ex.name (Prod.fst (Ca.expr n_5.1 n_5.2))),AV.int .i64 (Ex.date (Prod.fst (Ca.expr n_5.1 n_5.2))),AV.sl (List.length (Ex.sub (Prod.fst (Ca.expr n_5.1 n_5.2)))) 5 (Ex.deep (Prod.fst (Ca.expr n_5.1 n_5.2)))]] [AV.agg [AV.int .u8 x.kind,AV.str x.rat,AV.str x.name,AV.int .i64 x.date,AV.sl x.sub.length 5 (Ex.exG x.sub)]]∧Ex.size x<1099511627776∧Ex.zo x<1099511627776) fun n_7=>.all (fun(x:Bool)=>n=true→x=(decide (Ex.errX n_7=0)&&decide (Ex.zC n_7=1))) fun n_8=>.ex (fun(x_1:Ex)=>n=true→eqL [AV.agg [AV.int .u8 x.kind,AV.str x.rat,AV.str x.name,AV.int .i64 x.date,AV.sl x.sub.length 5 (Ex.exG x.sub)]] [AV.agg [AV.int .u8 x_1.kind,AV.str x_1.rat,AV.str x_1.name,AV.int .i64 x_1.date,AV.sl x_1.sub.length 5 (Ex.exG x_1.sub)]]∧Ex.size x_1<1099511627776∧Ex.zo x_1<1099511627776) fun n_9=>.all (fun(x:Bool)=>n=true→x=(decide (Ex.errX n_9=0)&&decide (Ex.zC n_9=1))) fun n_10=>.ex (fun(x:Ex)=>(bif n then n_8 == n_10 else false)=true→eqL [AV.agg [AV.int .u8 (Ex.kind (Prod.fst (Ca.expr n_5.1 n_5.2))),AV.str (Ex.rat (Prod.fst (Ca.expr n_5.1 n_5.2))),AV.str (Ex.name (Prod.fst (Ca.expr n_5.1 n_5.2))),AV.int .i64 (Ex.date (Prod.fst (Ca.expr n_5.1 n_5.2))),AV.sl (List.length (Ex.sub (Prod.fst (Ca.expr n_5.1 n_5.2)))) 5 (Ex.deep (Prod.fst (Ca.expr n_5.1 n_5.2)))]] [AV.agg [AV.int .u8 x.kind,AV.str x.rat,AV.str x.name,AV.int .i64 x.date,AV.sl x.sub.length 5 (Ex.exG x.sub)]]∧Ex.size x<1099511627776∧Ex.zo x<1099511627776) fun n_11=>.all (fun(x:Bool)=>(bif n then n_8 == n_10 else false)=true→x=(decide (Ex.errX n_11=0)&&decide (Ex.zC n_11=2))) fun n_12=>.ex (fun(x_1:Ex)=>(bif n then n_8 == n_10 else false)=true→eqL [AV.agg [AV.int .u8 x.kind,AV.str x.rat,AV.str x.name,AV.int .i64 x.date,AV.sl x.sub.length 5 (Ex.exG x.sub)]] [AV.agg [AV.int .u8 x_1.kind,AV.str x_1.rat,AV.str x_1.name,AV.int .i64 x_1.date,AV.sl x_1.sub.length 5 (Ex.exG x_1.sub)]]∧Ex.size x_1<1099511627776∧Ex.zo x_1<1099511627776) fun n_13=>.all (fun(x:Bool)=>(bif n then n_8 == n_10 else false)=true→x=(decide (Ex.errX n_13=0)&&decide (Ex.zC n_13=2))) fun n_14=>.ex (fun(x:Ex)=>(bif bif n then n_8 == n_10 else false then n_12 == n_14 else false)=true→eqL [AV.agg [AV.int .u8 (Ex.kind (Prod.fst (Ca.expr n_5.1 n_5.2))),AV.str (Ex.rat (Prod.fst (Ca.expr n_5.1 n_5.2))),AV.str (Ex.name (Prod.fst (Ca.expr n_5.1 n_5.2))),AV.int .i64 (Ex.date (Prod.fst (Ca.expr n_5.1 n_5.2))),AV.sl (List.length (Ex.sub (Prod.fst (Ca.expr n_5.1 n_5.2)))) 5 (Ex.deep (Prod.fst (Ca.expr n_5.1 n_5.2)))]] [AV.agg [AV.int .u8 x.kind,AV.str x.rat,AV.str x.name,AV.int .i64 x.date,AV.sl x.sub.length 5 (Ex.exG x.sub)]]∧Ex.size x<4611686018427387904) fun n_15=>.all (fun(x:Nat)=>(bif bif n then n_8 == n_10 else false then n_12 == n_14 else false)=true→x=Ex.size n_15) fun n_16=>.ex (fun(x_1:Ex)=>(bif bif n then n_8 == n_10 else false then n_12 == n_14 else false)=true→eqL [AV.agg [AV.int .u8 x.kind,AV.str x.rat,AV.str x.name,AV.int .i64 x.date,AV.sl x.sub.length 5 (Ex.exG x.sub)]] [AV.agg [AV.int .u8 x_1.kind,AV.str x_1.rat,AV.str x_1.name,AV.int .i64 x_1.date,AV.sl x_1.sub.length 5 (Ex.exG x_1.sub)]]∧Ex.size x_1<4611686018427387904) fun n_17=>.all (fun(x:Nat)=>(bif bif n then n_8 == n_10 else false then n_12 == n_14 else false)=true→x=Ex.size n_17) fun n_18=>.ex (fun(x_1:Ca×Ex)=>(bif bif n then n_8 == n_10 else false then n_12 == n_14 else false)=true→eqL [AV.agg [AV.str (Ca.name a),AV.str (Ca.into a),AV.int .i64 (Ca.date a),AV.str (Ca.ratio a),AV.str (Ca.extra a)],AV.agg [AV.int .u8 x.kind,AV.str x.rat,AV.str x.name,AV.int .i64 x.date,AV.sl x.sub.length 5 (Ex.exG x.sub)]] [AV.agg [AV.str (Ca.name x_1.1),AV.str (Ca.into x_1.1),AV.int .i64 (Ca.date x_1.1),AV.str (Ca.ratio x_1.1),AV.str (Ca.extra x_1.1)],AV.agg [AV.int .u8 x_1.2.kind,AV.str x_1.2.rat,AV.str x_1.2.name,AV.int .i64 x_1.2.date,AV.sl x_1.2.sub.length 5 (Ex.exG x_1.2.sub)]]∧Ex.size x_1.2<1099511627776) fun n_19=>.all (fun(x:Nat)=>(bif bif n then n_8 == n_10 else false then n_12 == n_14 else false)=true→x=Ca.grow n_19.1 n_19.2) fun n_20=>.side ((bif bif n then n_8 == n_10 else false then n_12 == n_14 else false)=true→inR .i64 ((↑n_18:Int)+n_20)) (.leaf (.ret [.bool (bif bif bif n then n_8 == n_10 else false then n_12 == n_14 else false then decide ((↑n_16:Int)=n_18+(↑n_20:Int)) else false)] [.box [.str (Ca.name a),.str (Ca.into a),.int .i64 (Ca.date a),.str (Ca.ratio a),.str (Ca.extra a)],.box [.int .u8 x.kind,.str x.rat,.str x.name,.int .i64 x.date,.sl x.sub.length 5 (Ex.exG x.sub)],.box [.int .u8 (Ex.kind (Prod.fst (Ca.expr n_5.1 n_5.2))),.str (Ex.rat (Prod.fst (Ca.expr n_5.1 n_5.2))),.str (Ex.name (Prod.fst (Ca.expr n_5.1 n_5.2))),.int .i64 (Ex.date (Prod.fst (Ca.expr n_5.1 n_5.2))),.sl (List.length (Ex.sub (Prod.fst (Ca.expr n_5.1 n_5.2)))) 5 (Ex.deep (Prod.fst (Ca.expr n_5.1 n_5.2)))]]))))) (by kernel_rfl) ?_
 simp only [Tree.holds,zd,inR,lo,hi,Int.toNat_natCast]
 refine⟨(),⟨trivial,trivial⟩,⟨true,rfl⟩,?_⟩
 rintro _ rfl
 have ha:eqA (.agg [.str a.name,.str a.into,.int .i64 a.date,.str a.ratio,.str a.extra]) a.av:=⟨rfl,rfl,⟨rfl,rfl⟩,rfl,rfl,trivial⟩
 refine⟨a,⟨⟨ha,trivial⟩,trivial⟩,⟨true,fun h=>by cases h⟩,fun b1 g1=> ?_⟩
 refine⟨x,fun _=>⟨⟨wm x,trivial⟩,hp⟩,⟨true,fun _ h=>by cases h⟩,fun b2 g2=>⟨fun _=>RetR.scal hq rfl (by simp [resV]),fun h=> ?_⟩⟩
 obtain⟨rfl,rfl⟩:b1=false∧b2=false:=by cases b1<;>cases b2<;>simp at h ⊢
 have ht:wv a:=g1 rfl
 obtain⟨x1,x2⟩:=g2 rfl rfl
 clear g1 g2 h
 refine⟨(a,x),⟨⟨ha,wm x,trivial⟩,ht,by simp only; omega,by simp only; omega⟩,⟨(),trivial⟩,fun _ _=>⟨fun h=> ?_,fun h=> ?_⟩⟩<;>simp at h
 ·have e:=zeh h
  simp only [e]
  exact RetR.scal hq rfl (by simp [resV,Ex.nil,Ex.kind,Ex.sub])
 obtain⟨e1,e2,e3⟩:=zgg h
 obtain⟨c1,c2⟩:=Wp ht (show x.size<2^20 by omega) (show x.zo<2^30 by omega)
 have hn:=JE e2
 have hn':=JE e3
 have hs:=Ca.zbd hn hn'
 have hz:=Ca.WV a x hn
 have hg:=(uI a).1 x
 simp only [e1]
 have yz:eqL [exD (a.chg x)] [(a.chg x).exA]:=⟨wh _,trivial⟩
 refine⟨a.chg x,fun _=>⟨yz,c1,c2⟩,⟨_,fun _=>rfl⟩,fun r1 h1=> ?_⟩
 have r1v:r1=(decide (x.errX=0)&&decide (x.zC=1)):=by rw [h1 trivial,e2,e3,hs]
 refine⟨x,fun _=>⟨⟨wm x,trivial⟩,by omega,by omega⟩,⟨_,fun _=>rfl⟩,fun r2 h2=> ?_⟩
 obtain rfl:r2=r1:=(h2 trivial).trans r1v.symm
 refine⟨a.chg x,fun _=>⟨yz,c1,c2⟩,⟨_,fun _=>rfl⟩,fun r3 h3=> ?_⟩
 have r3v:r3=(decide (x.errX=0)&&decide (x.zC=2)):=by rw [h3 (by simp),e2,e3,hs]
 refine⟨x,fun _=>⟨⟨wm x,trivial⟩,by omega,by omega⟩,⟨_,fun _=>rfl⟩,fun r4 h4=> ?_⟩
 obtain rfl:r4=r3:=(h4 (by simp)).trans r3v.symm
 refine⟨a.chg x,fun _=>⟨yz,by omega⟩,⟨_,fun _=>rfl⟩,fun r5 h5=> ?_⟩
 replace h5:=h5 (by simp)
 subst h5
 refine⟨x,fun _=>⟨⟨wm x,trivial⟩,by omega⟩,⟨_,fun _=>rfl⟩,fun r6 h6=> ?_⟩
 replace h6:=h6 (by simp)
 subst h6
 refine⟨(a,x),fun _=>⟨⟨ha,wm x,trivial⟩,by show x.size<_; omega⟩,⟨_,fun _=>rfl⟩,fun r7 h7=> ?_⟩
 replace h7:r7=a.grow x:=h7 (by simp)
 subst h7
 refine⟨fun _=>by omega,fun _=> ?_⟩
 refine RetR.scal hq rfl ?_
 simp [resV,hz]
end Go.Proofs.Tryz
end
section
open Go Go.Sx Go.Proofs Go.Nov
namespace Go.Proofs.Tryz
end Go.Proofs.Tryz
end
section
namespace Go.Sx
variable [Stat]
open Go.RowKit (Below)
def E0:Nat→Prop:=Own (fun _=>False) []
theorem Vy(b:Nat):¬ E0 b:=by
 rintro(h | ⟨e,he,_⟩)
 ·exact h
 ·simp at he
def Tw(P:Program)(W:World)(t:TypeId)(cs:List Value):Prop:=∃ (H:Type) (enc:TypeId×Value→H) (base fuel:Nat) (d:DataW H) (ps:List MemPlace),DataW.trod enc P W base (fun _=>true) true fuel t cs=some (d,ps)∧∀ n∈d.weights P t,n≤reachBytes
section
variable {P:Program} {W:World} {t e:TypeId} {cs:List Value}
theorem yO(ht:P.underlying t=some .string)(h:Tw P W t cs):∃ s:List UInt8,cs=[.string ⟨s.toArray⟩]∧s.length≤reachBytes:=by
 obtain⟨H,enc,base,fuel,d,ps,h,hw⟩:=h
 obtain⟨s,rfl,hx,_⟩:=DataW.trod_string ht h
 cases hx
 exact⟨s.data.toList,by simp,hw _ (by simp [DataW.weights])⟩
theorem K9{k:IntKind}(ht:P.underlying t=some (.int k))(h:Tw P W t cs):∃ n,cs=[.int k n]∧(Lit.int k n).wf=true:=by
 obtain⟨H,enc,base,fuel,d,ps,h,hw⟩:=h
 obtain⟨n,rfl,hx,hwf⟩:=DataW.trod_int ht h
 exact⟨n,rfl,hwf⟩
theorem Uj{fs:Array Field}(ht:P.underlying t=some (.struct fs))(h:Tw P W t cs):cs.length=P.cellsOf t∧∀ (i:Nat) (f:Field),fs[i]?=some f→Tw P W f.type ((cs.drop f.offset).take (P.cellsOf f.type)):=by
 obtain⟨H,enc,base,fuel,d,ps,h,hw⟩:=h
 obtain⟨xs,n,_,hx,hl,hlen,hf⟩:=DataW.trod_struct ht h
 cases hx
 refine⟨hl,fun i f hfi=> ?_⟩
 have hi:=hf i f hfi
 have hlt:i<xs.length:=by
  rw [hlen]; exact(Array.getElem?_eq_some_iff.1 hfi).1
 rw [List.getElem?_eq_getElem hlt] at hi
 refine⟨H,enc,base,n,xs[i].1,xs[i].2,hi,fun m hm=>hw m ?_⟩
 simp only [DataW.weights,ht]
 exact DataW.weights_mem_each (j:=i) (t:=f.type) (d:=xs[i].1) (by simp [hfi]) (by simp [hlt]) m hm
theorem k0{H:Type}{d:DataW H} : ∀ {l:List (DataW H)},d∈l→∀ n∈d.weights P e,n∈DataW.weightsAll P e l
 | x::l,hd,n,hn=>by
  simp only [DataW.weightsAll,List.mem_append]
  rcases List.mem_cons.1 hd with rfl | hd
  ·exact .inl hn
  ·exact .inr (k0 hd n hn)
theorem YY{g:Nat}{fn:Func}{c:Code}(hf:P.funcs[g]?=some fn)(hb:fn.body=some c) (hn:(fn.name == "runtime.NumGoroutine")=false) {ctr:Ctr} (hok:zc P g ctr) {args:List AV} {vals:List Value}
  (hspec:(ctr.spec args []).holds fun r=>r=(.bool true,[])) (hr:RepL E0 W args [] vals) (hst:wV E0 W):Calls P g vals.toArray W fun e W'=>e = .returned (.bool true)∧Below W.heap.size W W':=by
 have hn':¬ fn.name = "runtime.NumGoroutine" :=by simpa using hn
 have hg:Good (fun _=>False) W []:=⟨fun b h=>h.elim,fun i e ad he=>by simp at he,hst⟩
 have hh:HRep (Own (fun _=>False) []) W [] []:=⟨rfl,fun i j e f a b he=>by simp at he,fun i e a he=>by simp at he,fun i e b he=>by simp at he⟩
 rcases hok args [] _ hspec (fun _=>rfl) (fun _=>False) W [] vals hg hh hr with ⟨_,h⟩ | ⟨v,w',h,_⟩
 ·refine h.mono ?_
  rintro e W' ⟨v,rfl,r,hs,σ',hq,h1,_,_,_,_,hx⟩
  cases hq
  simp only [Rep] at h1
  subst h1
  exact⟨rfl,hx.os,hx.tape,hx.output,hx.size,fun k hk=>hx.keep k hk fun⟨e,he,_⟩=>by simp at he⟩
 ·simp [callFunc,hf,hn',hb] at h
end
end Go.Sx
end
