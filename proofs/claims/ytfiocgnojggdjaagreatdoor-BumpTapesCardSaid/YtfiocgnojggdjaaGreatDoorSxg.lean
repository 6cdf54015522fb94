/- Part 7 of the proof. -/
import Derived.Test.YtfiocgnojggdjaaGreatDoorSxf
set_option linter.unusedVariables false
set_option linter.unusedSimpArgs false
set_option linter.unusedSectionVars false
section
set_option maxRecDepth 100000
open Go Go.Sx Go.Proofs Go.Nov
namespace Go.Proofs.Tryz
attribute [local simp] eqKV eqA eqA0 eqH eqB eqL eqL0
def zms:Ctr:=ctrP true (λp:List Fx×List Ch=>[envA p.1 p.2]) (λp=>p.1.length<2^40/\p.2.length<2^40) (λp (_:Unit)=>True) (λp (_:Unit)=>(.agg [.osl 0 3 0 p.1.length,.osl 1 4 0 p.2.length],[.arr p.1.length 3 (fxG p.1),.arr p.2.length 4 (chG p.2)]))
theorem VW{n:Nat}{g:Nat->Nat->AV}{l:List Fx}(h:eqG n 3 g (fxG l)):newB (.arr n 3 g):=λj o hj ho=>by rw [h j o hj ho]; exact zki l j o ho
theorem Ks{n:Nat}{g:Nat->Nat->AV}{l:List Ch}(h:eqG n 4 g (chG l)):newB (.arr n 4 g):=λj o hj ho=>by rw [h j o hj ho]; exact zll l j o ho
theorem zl6:zc prog 9 zms:=by
 refine ze' f9 λp hp O w0 Q hq=> ?_
 obtain⟨f,c⟩:=p;obtain⟨h1,h2⟩:=hp;replace hq:=hq () trivial;simp only at hq h1 h2;refine zb.n zq [] (let v4:List AV:=[.sl f.length 3 (fxG f),.sl c.length 4 (chG c)];let v3:List AV:=[.osl 3 3 0 (0+f.length),.osl 2 4 0 (0+c.length)];let v2:List AV:=[.osl 2 3 0 (0+f.length),.osl 3 4 0 (0+c.length)];let v1:wi:=.ret [.agg v2] [.box v4,.box v2,.arr (0+f.length) 3 (appG 0 (zg 3 []) (fxG f)),.arr (0+c.length) 4 (appG 0 (zg 4 []) (chG c))];.all (λ(x:Bool)=>True) λn=>.ite n (.all (λ(x:Bool)=>True) λn=>.ite n (.side (0=0/\0<=0/\(0+f.length)*40<=140737488355328) (.side (0=0/\0<=0/\(0+c.length)*48<=140737488355328) (.leaf v1))) (.side (0=0/\0<=0/\(0+f.length)*40<=140737488355328) (.side (0=0/\0<=0/\(0+c.length)*48<=140737488355328) (.leaf v1)))) (.side (0=0/\0<=0/\(0+f.length)*40<=140737488355328) (.side (0=0/\0<=0/\(0+c.length)*48<=140737488355328) (.R [.agg v3] [.box v4,.box v3,.arr (0+c.length) 4 (appG 0 (zg 4 []) (chG c)),.arr (0+f.length) 3 (appG 0 (zg 3 []) (fxG f))])))) ?_;simp only [Tree.holds,zd];have e1:eqG (0+f.length) 3 (appG 0 (zg 3 []) (fxG f)) (fxG f):=XL _ _ _ _;have e2:eqG (0+c.length) 4 (appG 0 (zg 4 []) (chG c)) (chG c):=XL _ _ _ _;refine⟨⟨true,trivial⟩,λ_ _=>⟨λ_=>⟨⟨true,trivial⟩,λ_ _=>⟨λ_=> ?_,λ_=> ?_⟩⟩,λ_=> ?_⟩⟩
 ·refine⟨⟨trivial,aJ _,by omega⟩,λ_=>⟨⟨trivial,aJ _,by omega⟩,λ_=> ?_⟩⟩;refine RetR.outs [2,3] rfl rfl hq (λ_=>⟨?_,?_⟩) ?_ ?_ rfl
  ·simp [resV,new2,new1,new0,zz]
  ·simp only [aM,List.not_mem_nil,or_false,forall_eq_or_imp,forall_eq];exact⟨VW e1,Ks e2⟩
  ·simp [resV,exp2,exp1,exp0,zz,eqA2,eqL1]
  ·exact⟨⟨by omega,rfl,e1⟩,⟨by omega,rfl,e2⟩,trivial⟩
 ·refine⟨⟨trivial,aJ _,by omega⟩,λ_=>⟨⟨trivial,aJ _,by omega⟩,λ_=> ?_⟩⟩;refine RetR.outs [2,3] rfl rfl hq (λ_=>⟨?_,?_⟩) ?_ ?_ rfl
  ·simp [resV,new2,new1,new0,zz]
  ·simp only [aM,List.not_mem_nil,or_false,forall_eq_or_imp,forall_eq];exact⟨VW e1,Ks e2⟩
  ·simp [resV,exp2,exp1,exp0,zz,eqA2,eqL1]
  ·exact⟨⟨by omega,rfl,e1⟩,⟨by omega,rfl,e2⟩,trivial⟩
 ·refine⟨⟨trivial,aJ _,by omega⟩,λ_=>⟨⟨trivial,aJ _,by omega⟩,λ_=> ?_⟩⟩;refine RetR.outs [3,2] rfl rfl hq (λ_=>⟨?_,?_⟩) ?_ ?_ rfl
  ·simp [resV,new2,new1,new0,zz]
  ·simp only [aM,List.not_mem_nil,or_false,forall_eq_or_imp,forall_eq];exact⟨VW e1,Ks e2⟩
  ·simp [resV,exp2,exp1,exp0,zz,eqA2,eqL1]
  ·exact⟨⟨by omega,rfl,e1⟩,⟨by omega,rfl,e2⟩,trivial⟩
noncomputable def K7:=Go.Sx.aA f7
def zg1(f:Fx):Prop:=f.name.length<2^49/\f.value.length<2^49
def zaj(c:Ch):Prop:=c.zV.length<2^49/\c.name.length<2^49
def fitP(p:List Fx×List Ch):Prop:=p.1.length<=1100/\p.2.length<=1100/\(∀ j,j<p.1.length->(p.1.getD j Fx.nil).name.length<=20000/\(p.1.getD j Fx.nil).value.length<=20000)/\∀ j,j<p.2.length->(p.2.getD j Ch.nil).zV.length<=20000/\(p.2.getD j Ch.nil).name.length<=20000
def za3:Ctr:=ctrP true (λp:List Fx×List Ch=>[envA p.1 p.2]) (λp=>p.1.length<2^60/\p.2.length<2^60/\(∀ j,j<p.1.length->zg1 (p.1.getD j Fx.nil))/\∀ j,j<p.2.length->zaj (p.2.getD j Ch.nil)) (λp r=>r=false->fitP p) (λ_ (r:Bool)=>(.bool r,[]))
def SGq(n i:Nat):KV:=[(1,.ptr 0 0),(3,.i (n:Int)),(4,.i (i:Int)),Z 5]
def SGq2(n i:Nat):KV:=[(1,.ptr 0 0),(3,.i (n:Int)),Z 4,(5,.i (i:Int))]
theorem XF{O:Nat->Prop}{w0:World}{Q:AV×Heap->Prop}{Hs:Nat->KV->Heap->Prop}(f:List Fx)(c:List Ch)(n:Nat)(hf:f.length<=1100)(hc:c.length<=1100)(h3:∀ j,j<c.length->zaj (c.getD j Ch.nil))(hn:n<=1100*2^50)(hnf:∀ j,j<f.length->(f.getD j Fx.nil).name.length<=n/\(f.getD j Fx.nil).value.length<=n)
  (hq:∀ r:Bool,(r=false->fitP (f,c))->Q (.bool r,[])) (kv:KV) (h:Heap) (hle:LeK 0 f7.ntmps kv h (SGq2 n 0) (HE f c)) :
  zb prog f7 O 0 w0 [] Hs (RetR za3 0 Q) (.code (.loop (lps (inside K7 0) 0).1)::(lps (inside K7 0) 0).2) (mk f7.ntmps kv h):=by
 refine zb.loop (ι:={p:Nat×Nat // p.2<=c.length/\n<=p.1/\p.1<=(1100+p.2)*2^50/\∀ j,j<p.2->(c.getD j Ch.nil).zV.length<=p.1/\(c.getD j Ch.nil).name.length<=p.1}) (λp=>SGq2 p.1.1 p.1.2) (λ_=>HE f c) (λp=>c.length - p.1.2) ⟨(n,0),aI _,aJ _,by simpa using hn,λj hj=>by simp at hj⟩ 0 hle ?_ (by kernel_rfl);rintro⟨⟨m,i⟩,hil,hnm,hm,hib⟩;simp only at hil hnm hm hib;refine zb.n zq [1,3,4,5] (let v2:List Blk:=[.box [.sl f.length 3 (fxG f),.sl c.length 4 (chG c)]];let v1:=c.getD (i:Int).toNat Ch.nil;.D ((i:Int)<c.length) (.side ((0:Int)<=i/\(i:Int)<c.length) (.S ((m:Int)+(↑(List.length v1.zV):Int)) (.side ((0:Int)<=i/\(i:Int)<c.length) (.S ((m:Int)+(↑(List.length v1.zV):Int)+(↑(List.length v1.name):Int)) (.S (i+1) (.leaf (.back 0 [(1,.ptr 0 0),(3,.i ((m:Int)+(↑(List.length v1.zV):Int)+(↑(List.length v1.name):Int))),Z 4,(5,.i (i+1))] v2))))))) (.R [.bool (decide ((20000:Int)<m))] v2)) ?_;simp only [Tree.holds,zd,inR,lo,hi,aD];refine⟨λhlt=> ?_,λhge=> ?_⟩
 ·have hlt:i<c.length:=by have:=aB hlt; omega
  obtain⟨g1,g2⟩:=h3 i hlt
  iterate 5 refine⟨by omega,λ_=> ?_⟩
  rw [aP trivial];refine⟨⟨(m+(c.getD i Ch.nil).zV.length+(c.getD i Ch.nil).name.length,i+1),hlt,by simp only; omega,by simp only; omega,λj hj=> ?_⟩,by show c.length - (i+1)<c.length - i; omega,by simp [SGq2],by simp [HE,fxS,chS,za],by kernel_rfl,aI _⟩;simp only at hj ⊢;rcases aR j i with h1 | h1
  ·have:=hib j h1; omega
  ·have:j=i:=by omega
   rw [this]; omega
 ·have hge:i=c.length:=by have:=aC hge; omega
  subst hge;refine RetR.scal (hq (decide (20000<(m:Int))) λh=> ?_) rfl (by simp [resV]);have h:=aC h;exact⟨hf,hc,λj hj=>by have:=hnf j hj; simp only; omega,λj hj=>by have:=hib j hj; simp only; omega⟩
theorem zi9:zc prog 7 za3:=by
 refine ze' f7 λp hp O w0 Q hq=> ?_
 obtain⟨f,c⟩:=p;obtain⟨h1,h2,h3,h4⟩:=hp;simp only at hq h1 h2 h3 h4;refine zb.n zq [1,3,4,5] (let v1:List Blk:=[.box [.sl f.length 3 (fxG f),.sl c.length 4 (chG c)]];.ite (bif decide ((1100:Int)<f.length) then true else decide ((1100:Int)<c.length)) (.R [.bool true] v1) (.leaf (.loop (lps K7 0).1 (lps K7 0).2 [(1,.ptr 0 0),(3,.i 0),(4,.i 0),Z 5] v1))) ?_;simp only [Tree.holds,zd];refine⟨λh=> ?_,λh=> ?_⟩
 ·exact RetR.scal (hq true λh=>(by cases h)) rfl (by simp [resV])
 ·have hbig:f.length<=1100/\c.length<=1100:=by
   rw [Bool.cond_eq_ite] at h;split at h
   ·cases h
   ·rename_i g1;have g2:=aC h;have g1:=aC (by simpa using g1:decide (1100<(f.length:Int))=false);omega
  obtain⟨hf,hc⟩:=hbig;refine zb.loop (ι:={p:Nat×Nat // p.2<=f.length/\p.1<=p.2*2^50/\∀ j,j<p.2->(f.getD j Fx.nil).name.length<=p.1/\(f.getD j Fx.nil).value.length<=p.1}) (λp=>SGq p.1.1 p.1.2) (λ_=>HE f c) (λp=>f.length - p.1.2) ⟨(0,0),aI _,by simp,λj hj=>by simp at hj⟩ 0 ?_ ?_ (by kernel_rfl)
  ·exact⟨by simp [SGq],by simp [HE,fxS,chS,za],by kernel_rfl,aI _⟩
  ·rintro⟨⟨m,i⟩,hil,hm,hib⟩;simp only at hil hm hib;refine zb.n zq [1,3,4,5] (let v2:List Blk:=[.box [.sl f.length 3 (fxG f),.sl c.length 4 (chG c)]];let v1:=f.getD (i:Int).toNat Fx.nil;.D ((i:Int)<f.length) (.side ((0:Int)<=i/\(i:Int)<f.length) (.S ((m:Int)+(↑(List.length v1.name):Int)) (.side ((0:Int)<=i/\(i:Int)<f.length) (.S ((m:Int)+(↑(List.length v1.name):Int)+(↑(List.length v1.value):Int)) (.S (i+1) (.leaf (.back 0 [(1,.ptr 0 0),(3,.i ((m:Int)+(↑(List.length v1.name):Int)+(↑(List.length v1.value):Int))),(4,.i (i+1)),Z 5] v2))))))) (.leaf (.loop (lps (inside K7 0) 0).1 (lps (inside K7 0) 0).2 [(1,.ptr 0 0),(3,.i m),(4,.i i),(5,.i 0)] v2))) ?_;simp only [Tree.holds,zd,inR,lo,hi,aD];refine⟨λhlt=> ?_,λhge=> ?_⟩
   ·have hlt:i<f.length:=by have:=aB hlt; omega
    obtain⟨g1,g2⟩:=h3 i hlt
    iterate 5 refine⟨by omega,λ_=> ?_⟩
    rw [aP trivial];refine⟨⟨(m+(f.getD i Fx.nil).name.length+(f.getD i Fx.nil).value.length,i+1),hlt,by simp only; omega,λj hj=> ?_⟩,by show f.length - (i+1)<f.length - i; omega,by simp [SGq],by simp [HE,fxS,chS,za],by kernel_rfl,aI _⟩;simp only at hj ⊢;rcases aR j i with h1 | h1
    ·have:=hib j h1; omega
    ·have:j=i:=by omega
     rw [this]; omega
   ·have hge:i=f.length:=by have:=aC hge; omega
    subst hge;exact XF f c m hf hc h4 (bP hm (aT _ hf)) hib hq _ _ ⟨by simp [SGq2],by simp [HE,fxS,chS,za],by kernel_rfl,aI _⟩
def HIdF(x:Fx):Heap:=[.box [.fn 36 [] []],.box [.str x.name,.i x.date,.str x.value]]
def zn4:Ctr:=ctrT false false (λp:Fx×Fx=>[p.1.av,.ptr 0 0,.ptr 1 0]) (λp=>HIdF p.2) (λ_=>True) (λp r=>r=decide (cmpF p.1 p.2=0)) (λp (r:Bool)=>(.bool r,HIdF p.2))
noncomputable def GI1:=tb Jj (tb JR tz)
theorem zm2:zc prog 68 zn4:=by
 refine qi (fn:=f68) (c:=f68.body.getD .skip) rfl rfl rfl (λh=>by cases h) λp hp O w0 I0 Q hl0 hq=> ?_
 obtain⟨⟨a,d,v⟩,⟨b,e,u⟩⟩:=p;replace hq:=hq _ rfl;simp only at hq;refine zb.n GI1.h [] (.ex (q44 [.agg [.str a,.i d,.str v],.agg [.str b,.i e,.str u]]) λn=>.all (λ(r:Int)=>r=cmpF n.1 n.2) λn=>.R [.bool (decide (n=0))] [.box [.fn 36 [] []],.box [.str b,.i e,.str u],.box [.str a,.i d,.str v]]) ?_;simp only [q44,Tree.holds,zd];refine⟨(⟨a,d,v⟩,⟨b,e,u⟩),⟨by simp,trivial⟩,⟨_,rfl⟩,?_⟩;rintro _ rfl;exact RetR.keep [0,1] rfl rfl (by show ∀ j,j<2->_; decide) rfl hq (by simp [resV,exp2,exp1,exp0,ren0,eqA2]) (by simp [expH,expB,exp1,exp0,ren0,HIdF]) rfl
def SIdF(l:List Fx)(i:Nat):KV:=[(0,fxS l),(1,.fn 68 [] [.ptr 0 0,.ptr 1 0]),(7,.i (l.length:Int)),(8,.i (i:Int))]
def zjj:Ctr:=ctrT false false (λp:List Fx×Fx=>[fxS p.1,.fn 68 [] [.ptr 0 0,.ptr 1 0]]) (λp=>HIdF p.2) (λp=>p.1.length<2^40) (λp r=>r=idxB (λx=>decide (cmpF x p.2=0)) p.1) (λp (r:Int)=>(.i r,HIdF p.2))
noncomputable def GI2:=tb zm2 tz
theorem zlz:zc prog 67 zjj:=by
 refine qi (fn:=f67) (c:=f67.body.getD .skip) rfl rfl rfl (λh=>by cases h) λp hl O w0 I0 Q hl0 hq=> ?_
 obtain⟨l,x⟩:=p;replace hq:=hq _ rfl;simp only at hq hl;refine zb.n GI2.h [0,1,7,8] (.leaf (.loop (lps K67 0).1 (lps K67 0).2 [(0,.sl l.length 3 (fxG l)),(1,.fn 68 [] [.ptr 0 0,.ptr 1 0]),(7,.i l.length),(8,.i 0)] [.box [.fn 36 [] []],.box [.str x.name,.i x.date,.str x.value]])) ?_;simp only [Tree.holds,zd]
 have fin:∀ (i:Int) (h:Heap),i=idxB (λy=>decide (cmpF y x=0)) l->h=HIdF x->RetR zjj 2 Q [.i i] h:=by
  intro i h hi2 hh;subst hh;rw [<- hi2] at hq;exact RetR.keep [0,1] rfl rfl (by show ∀ j,j<2->_; decide) rfl hq (by simp [resV,exp2,exp1,exp0,ren0,eqA2]) (by simp [expH,expB,exp1,exp0,ren0,HIdF]) rfl
 refine zb.loop (ι:={i:Nat // i<=l.length/\∀ j,j<i->decide (cmpF (l.getD j Fx.nil) x=0)=false}) (λi=>SIdF l i.1) (λ_=>HIdF x) (λi=>l.length - i.1) ⟨0,aI _,λj hj=>by omega⟩ 0 ?_ ?_ (by kernel_rfl)
 ·exact⟨by simp [SIdF,fxS,za],by simp [HIdF],by kernel_rfl,aJ _⟩
 ·rintro⟨i,hil,hib⟩;refine zb.n GI2.h [0,1,7,8] (let v2:=l.getD (i:Int).toNat Fx.nil;.D ((i:Int)<l.length) (.side ((0:Int)<=i/\(i:Int)<l.length) (.ex (λ(x_1:Fx×Fx)=>eqL [.agg [.str v2.name,.i v2.date,.str v2.value],.ptr 0 0,.ptr 1 0] [.agg [.str x_1.1.name,.i x_1.1.date,.str x_1.1.value],.ptr 0 0,.ptr 1 0]/\eqH [.box [.fn 36 [] []],.box [.str x.name,.i x.date,.str x.value]] [.box [.fn 36 [] []],.box [.str x_1.2.name,.i x_1.2.date,.str x_1.2.value]]/\2=2/\True) λn=>let v1:List Blk:=[.box [.fn 36 [] []],.box [.str n.2.name,.i n.2.date,.str n.2.value]];.all (λ(r:Bool)=>r=decide (cmpF n.1 n.2=0)) λn_1=>.ite n_1 (.R [.i i] v1) (.S (i+1) (.leaf (.back 0 [(0,.sl l.length 3 (fxG l)),(1,.fn 68 [] [.ptr 0 0,.ptr 1 0]),(7,.i l.length),(8,.i (i+1))] v1))))) (.R [.i (-1:Int)] [.box [.fn 36 [] []],.box [.str x.name,.i x.date,.str x.value]])) ?_;simp only [Tree.holds,zd,inR,lo,hi,aD];refine⟨λhlt=> ?_,λhge=> ?_⟩
  ·have hlt:i<l.length:=by have:=aB hlt; omega
   refine⟨by omega,λ_=>⟨(l.getD i Fx.nil,x),⟨by simp,by simp,trivial,trivial⟩,⟨_,rfl⟩,?_⟩⟩;rintro _ rfl;refine⟨λh=> ?_,λh=>⟨by omega,λ_=> ?_⟩⟩
   ·exact fin _ _ (Ku hlt h hib).symm rfl
   ·rw [aP trivial];refine⟨⟨i+1,hlt,λj hj=> ?_⟩,by show l.length - (i+1)<l.length - i; omega,by simp [SIdF,fxS,za],by simp [HIdF],by kernel_rfl,aJ _⟩;rcases aR j i with h1 | h1
    ·exact hib j h1
    ·have:j=i:=by omega
     rw [this]; exact h
  ·have hge:i=l.length:=by have:=aC hge; omega
   subst hge;exact fin _ _ (Z2 (p:=λy=>decide (cmpF y x=0)) hib).symm rfl
def zbw:Ctr:=ctrP true (λp:List Fx×Fx=>[fxS p.1,p.2.av,.fn 36 [] []]) (λp=>p.1.length<2^40) (λp r=>r=idxB (λx=>decide (cmpF x p.2=0)) p.1) (λ_ (r:Int)=>(.i r,[]))
noncomputable def GI3:=tb zlz tz
theorem ze5:zc prog 35 zbw:=by
 refine ze' f35 λp hp O w0 Q hq=> ?_
 obtain⟨l,⟨a,d,v⟩⟩:=p;replace hq:=hq _ rfl;simp only at hq hp;refine zb.n GI3.h [] (.ex (λ(x:List Fx×Fx)=>eqL [.sl l.length 3 (fxG l),.fn 68 [] [.ptr 0 0,.ptr 1 0]] [.sl x.1.length 3 (fxG x.1),.fn 68 [] [.ptr 0 0,.ptr 1 0]]/\eqH [.box [.fn 36 [] []],.box [.str a,.i d,.str v]] [.box [.fn 36 [] []],.box [.str x.2.name,.i x.2.date,.str x.2.value]]/\2=2/\x.1.length<1099511627776) λn=>.all (λ(r:Int)=>r=idxB (λ(x:Fx)=>decide (cmpF x n.2=0)) n.1) λn_1=>.R [.i n_1] [.box [.str n.2.name,.i n.2.date,.str n.2.value],.box [.fn 36 [] []]]) ?_;simp only [Tree.holds,zd];refine⟨(l,⟨a,d,v⟩),⟨by simp [za],by simp,trivial,hp⟩,⟨_,rfl⟩,?_⟩;rintro _ rfl;exact RetR.scal hq rfl (by simp [resV])
noncomputable def GI4:=tb ze5 tz
theorem zaz:zc prog 18 WX:=by
 refine ze' f18 λp hp O w0 Q hq=> ?_
 obtain⟨⟨f,c⟩,⟨a,d⟩⟩:=p;replace hq:=hq _ rfl;simp only at hq hp;refine zb.n GI4.h [] (let v1:List Blk:=[.box [.sl f.length 3 (fxG f),.sl c.length 4 (chG c)]];.ex (λ(x:List Fx×Fx)=>eqL [.sl f.length 3 (fxG f),.agg [.str a,.i d,.str #[].toList],.fn 36 [] []] [.sl x.1.length 3 (fxG x.1),.agg [.str x.2.name,.i x.2.date,.str x.2.value],.fn 36 [] []]/\x.1.length<1099511627776) λn=>.all (λ(r:Int)=>r=idxB (λ(x:Fx)=>decide (cmpF x n.2=0)) n.1) λn=>.D (n<0) (.R [.str #[].toList,.bool false] v1) (.side ((0:Int)<=n/\n<(f.length:Int)) (.R [.str (Fx.value (f.getD (Int.toNat n) Fx.nil)),.bool true] v1))) ?_;simp only [Tree.holds,zd];refine⟨(f,⟨a,d,[]⟩),⟨by simp [za],hp⟩,⟨_,rfl⟩,?_⟩;rintro _ rfl;obtain⟨hlt,hr⟩:=zf4 f a d;simp only at hq ⊢;refine⟨λh=> ?_,λh=> ?_⟩
 ·rw [hr,aO (by have:=aB h; omega)] at hq;exact RetR.scal hq rfl (by simp [resV])
 ·have h:=aC h;refine⟨⟨by omega,hlt⟩,λ_=> ?_⟩;rw [hr,aP (by omega)] at hq;exact RetR.scal hq rfl (by simp [resV])
end Go.Proofs.Tryz
end
section
open Go Go.Sx Go.Proofs Go.Nov
namespace Go.Proofs.Tryz
def zmw(p:List Fx×List Ch):Prop:=p.1.length<2^60/\p.2.length<2^60/\(∀ j,j<p.1.length->zg1 (p.1.getD j Fx.nil))/\∀ j,j<p.2.length->zaj (p.2.getD j Ch.nil)
theorem zff{p:List Fx×List Ch}(h:fitP p):envP p:=by
 obtain⟨h1,h2,h3,h4⟩:=h;refine⟨by omega,by omega,λj hj=> ?_,λj hj=> ?_⟩
 ·obtain⟨a,b⟩:=h3 j hj; exact⟨by omega,by omega⟩
 ·obtain⟨a,b⟩:=h4 j hj; exact⟨by omega,by omega⟩
end Go.Proofs.Tryz
end
section
set_option maxRecDepth 100000
open Go Go.Sx Go.Proofs Go.Nov
namespace Go.Proofs.Tryz
attribute [local simp] eqKV eqA eqA0 eqH eqB eqL eqL0
theorem zod{n:L8}{d:Int}(x:Fx):decide (([.inr n,.inl d]:List Sc)=[.inr x.name,.inl x.date])=(decide (x.name=n)&&decide (x.date=d)):=by
 rw [Bool.eq_iff_iff];simp only [aK,bA,List.cons.injEq,Sum.inr.injEq,Sum.inl.injEq,and_true];exact⟨λh=>⟨h.1.symm,h.2.symm⟩,λh=>⟨h.1.symm,h.2.symm⟩⟩
theorem idx_eq{ops:List TOp}{inp:List Fx}{n:L8}{d:Int} : (inp.findIdx λx=>decide (([.inr n,.inl d]:List Sc)=[.inr x.name,.inl x.date]))=RS.idx ⟨ops,inp⟩ n d:=by
 unfold RS.idx;congr 1;funext x;exact zod x
theorem zc8{ops:List TOp}{inp:List Fx}{n:L8}{d:Int} : Wq inp [.inr n,.inl d]=true↔RS.idx ⟨ops,inp⟩ n d<inp.length:=by
 unfold Wq;rw [<- idx_eq (ops:=ops),List.findIdx_lt_length,List.any_eq_true]
theorem VJ{l:List Fx}{x:Fx} : eqG (l.length+1) 3 (appG l.length (fxG l) (zf (zg 3 [.str x.name,.i x.date,.str x.value]) 0)) (fxG (l++[x])):=by
 intro j p hj hp;simp only [appG,fxG,zf,zg];by_cases q:j<l.length
 ·rw [aP q];simp only [List.getD,bL q]
 ·rw [aO q];obtain rfl:j=l.length:=by omega
  have e:(l++[x]).getD l.length Fx.nil=x:=by simp [List.getD]
  rw [e];rcases(show p=0\/p=1\/p=2 by omega) with rfl | rfl | rfl<;>simp [Fx.cell]
structure XFi where
 s:RS
 day:Int
 f:List Fx
 c:List Ch
 n:L8
 d:Int
def zne:Ctr:=ctrM 1 (λp:XFi=>[.ptr 0 0,.str p.n,.i p.d]) (λp=>HRc p.s p.day p.f p.c)
 (λp=>p.s.ops.length<2^39/\p.s.inp.length<2^39/\p.f.length<2^40/\p.n.length<2^40) (λ_ (_:Unit)=>True) (λp _=>(.i (p.s.ops.length:Nat),HRc (p.s.fix p.f p.n p.d) p.day p.f p.c))
noncomputable def GRxB:=tb zaz (tb zbr tz)
abbrev q46(A:List AV)(x:(List Fx×List Ch)×L8×Int):Prop:=eqL A [.agg [.sl x.1.1.length 3 (fxG x.1.1),.sl x.1.2.length 4 (chG x.1.2)],.str x.2.1,.i x.2.2]/\x.1.1.length<1099511627776
theorem zkh:zc prog 51 zne:=by
 refine ym' f51 λp hp O w0 I0 Q hl0 hq=> ?_
 obtain⟨⟨ops,inp⟩,day,f,c,n,d⟩:=p;replace hq:=hq () trivial;obtain⟨h1,h2,h3,h4⟩:=hp;simp only at h1 h2 h3 h4 hq;refine zb.n GRxB.h [] (let v18:List AV:=[.str n,.i d];let v17:=inp.length+1;let v8:=[AV.ptr 0 0,AV.agg [.int .u8 1,.i inp.length,.i 0,.str #[].toList]];let v7:=q46 [.agg [.sl f.length 3 (fxG f),.sl c.length 4 (chG c)],.str n,.i d];let v6:=[AV.i 0,AV.osl 1 4 0 ops.length,AV.osl 2 3 0 inp.length,AV.omap 3,AV.i day,AV.sl f.length 3 (fxG f),AV.sl c.length 4 (chG c)];let v5:=[AV.i 0,AV.osl 1 4 0 ops.length,AV.osl 2 3 0 v17,AV.omap 3,AV.i day,AV.sl f.length 3 (fxG f),AV.sl c.length 4 (chG c)];.ite (Wq inp [Sum.inr n,Sum.inl d]) (.ite false (.ex v7 λn_1=>.all (λ(r:L8×Bool)=>r=zP n_1.1.1 n_1.2.1 n_1.2.2) λn_2=>.side (0=0/\inp.length<=inp.length/\v17 *40<=140737488355328) (.ex (λ(x:XRc)=>let v13:=RS.ops x.s;let v9:=RS.inp x.s;eqL v8 [.ptr 0 0,.agg [.int .u8 x.o.kind,.i x.o.a,.i x.o.b,.str x.o.rat]]/\eqH [.box v5,.arr ops.length 4 (opG ops),.arr v17 3 (appG inp.length (fxG inp) (zf (zg 3 [.str n,.i d,.str n_2.1]) 0)),Blk.map true [Sum.inr false,Sum.inl .i64] (zX (λ(k:List Sc)=>List.any inp λ(x:Fx)=>decide (k=[Sum.inr x.name,Sum.inl x.date])) [Sum.inr n,Sum.inl d]) (zL (λ(k:List Sc)=>AV.int .i64 ↑(List.findIdx (λ(x:Fx)=>decide (k=[Sum.inr x.name,Sum.inl x.date])) inp)) [Sum.inr n,Sum.inl d] (AV.i inp.length))] [.box [.i 0,.osl 1 4 0 (List.length v13),.osl 2 3 0 (List.length v9),AV.omap 3,.i x.day,.sl x.f.length 3 (fxG x.f),.sl x.c.length 4 (chG x.c)],.arr (List.length v13) 4 (opG v13),.arr (List.length v9) 3 (fxG v9),Blk.map true [Sum.inr false,Sum.inl .i64] (λ(k:List Sc)=>List.any v9 λx=>decide (k=[Sum.inr x.name,Sum.inl x.date])) λk=>AV.int .i64 ↑(List.findIdx (λ(x:Fx)=>decide (k=[Sum.inr x.name,Sum.inl x.date])) v9)]/\4=4/\List.length v13 <1099511627776) λn_3=>let v1:=RS.put n_3.s n_3.o;.A λn_4=>.R [.int .i64 ↑(List.length n_3.s.ops)] [.box [.i 0,.osl 1 4 0 (List.length v1.ops),.osl 2 3 0 (List.length v1.inp),.omap 3,.i n_3.day,.sl n_3.f.length 3 (fxG n_3.f),.sl n_3.c.length 4 (chG n_3.c)],.arr (List.length v1.ops) 4 (opG v1.ops),.arr (List.length v1.inp) 3 (fxG v1.inp),Blk.map true [Sum.inr false,Sum.inl .i64] (λ(k:List Sc)=>List.any v1.inp λx=>decide (k=[Sum.inr x.name,Sum.inl x.date])) λk=>.int .i64 ↑(List.findIdx (λ(x:Fx)=>decide (k=[Sum.inr x.name,Sum.inl x.date])) v1.inp),.box v18,.arr 1 3 (zg 3 [.str n,.i d,.str n_2.1])])) (.ex (λ(x:XRc)=>let v14:=RS.ops x.s;let v10:=RS.inp x.s;eqL [.ptr 0 0,.agg [.int .u8 1,.int .i64 ↑(List.findIdx (λ(x:Fx)=>decide ([Sum.inr n,Sum.inl d]=[Sum.inr x.name,Sum.inl x.date])) inp),.i 0,.str #[].toList]] [.ptr 0 0,.agg [.int .u8 x.o.kind,.i x.o.a,.i x.o.b,.str x.o.rat]]/\eqH [.box v6,.arr ops.length 4 (opG ops),.arr inp.length 3 (fxG inp),Blk.map true [Sum.inr false,Sum.inl .i64] (λ(k:List Sc)=>List.any inp λ(x:Fx)=>decide (k=[Sum.inr x.name,Sum.inl x.date])) λk=>AV.int .i64 ↑(List.findIdx (λ(x:Fx)=>decide (k=[Sum.inr x.name,Sum.inl x.date])) inp)] [.box [.i 0,.osl 1 4 0 (List.length v14),.osl 2 3 0 (List.length v10),AV.omap 3,.i x.day,.sl x.f.length 3 (fxG x.f),.sl x.c.length 4 (chG x.c)],.arr (List.length v14) 4 (opG v14),.arr (List.length v10) 3 (fxG v10),Blk.map true [Sum.inr false,Sum.inl .i64] (λ(k:List Sc)=>List.any v10 λx=>decide (k=[Sum.inr x.name,Sum.inl x.date])) λk=>AV.int .i64 ↑(List.findIdx (λ(x:Fx)=>decide (k=[Sum.inr x.name,Sum.inl x.date])) v10)]/\4=4/\List.length v14 <1099511627776) λn_1=>let v2:=RS.put n_1.s n_1.o;.A λn_2=>.R [.int .i64 ↑(List.length n_1.s.ops)] [.box [.i 0,.osl 1 4 0 (List.length v2.ops),.osl 2 3 0 (List.length v2.inp),.omap 3,.i n_1.day,.sl n_1.f.length 3 (fxG n_1.f),.sl n_1.c.length 4 (chG n_1.c)],.arr (List.length v2.ops) 4 (opG v2.ops),.arr (List.length v2.inp) 3 (fxG v2.inp),Blk.map true [Sum.inr false,Sum.inl .i64] (λ(k:List Sc)=>List.any v2.inp λx=>decide (k=[Sum.inr x.name,Sum.inl x.date])) λk=>.int .i64 ↑(List.findIdx (λ(x:Fx)=>decide (k=[Sum.inr x.name,Sum.inl x.date])) v2.inp),.box v18])) (.ite true (.ex v7 λn_1=>.all (λ(r:L8×Bool)=>r=zP n_1.1.1 n_1.2.1 n_1.2.2) λn_2=>.side (0=0/\inp.length<=inp.length/\v17 *40<=140737488355328) (.ex (λ(x:XRc)=>let v15:=RS.ops x.s;let v11:=RS.inp x.s;eqL v8 [.ptr 0 0,.agg [.int .u8 x.o.kind,.i x.o.a,.i x.o.b,.str x.o.rat]]/\eqH [.box v5,.arr ops.length 4 (opG ops),.arr v17 3 (appG inp.length (fxG inp) (zf (zg 3 [.str n,.i d,.str n_2.1]) 0)),Blk.map true [Sum.inr false,Sum.inl .i64] (zX (λ(k:List Sc)=>List.any inp λ(x:Fx)=>decide (k=[Sum.inr x.name,Sum.inl x.date])) [Sum.inr n,Sum.inl d]) (zL (λ(k:List Sc)=>AV.int .i64 ↑(List.findIdx (λ(x:Fx)=>decide (k=[Sum.inr x.name,Sum.inl x.date])) inp)) [Sum.inr n,Sum.inl d] (AV.i inp.length))] [.box [.i 0,.osl 1 4 0 (List.length v15),.osl 2 3 0 (List.length v11),AV.omap 3,.i x.day,.sl x.f.length 3 (fxG x.f),.sl x.c.length 4 (chG x.c)],.arr (List.length v15) 4 (opG v15),.arr (List.length v11) 3 (fxG v11),Blk.map true [Sum.inr false,Sum.inl .i64] (λ(k:List Sc)=>List.any v11 λx=>decide (k=[Sum.inr x.name,Sum.inl x.date])) λk=>AV.int .i64 ↑(List.findIdx (λ(x:Fx)=>decide (k=[Sum.inr x.name,Sum.inl x.date])) v11)]/\4=4/\List.length v15 <1099511627776) λn_3=>let v3:=RS.put n_3.s n_3.o;.A λn_4=>.R [.int .i64 ↑(List.length n_3.s.ops)] [.box [.i 0,.osl 1 4 0 (List.length v3.ops),.osl 2 3 0 (List.length v3.inp),.omap 3,.i n_3.day,.sl n_3.f.length 3 (fxG n_3.f),.sl n_3.c.length 4 (chG n_3.c)],.arr (List.length v3.ops) 4 (opG v3.ops),.arr (List.length v3.inp) 3 (fxG v3.inp),Blk.map true [Sum.inr false,Sum.inl .i64] (λ(k:List Sc)=>List.any v3.inp λx=>decide (k=[Sum.inr x.name,Sum.inl x.date])) λk=>.int .i64 ↑(List.findIdx (λ(x:Fx)=>decide (k=[Sum.inr x.name,Sum.inl x.date])) v3.inp),.box v18,.arr 1 3 (zg 3 [.str n,.i d,.str n_2.1])])) (.ex (λ(x:XRc)=>let v16:=RS.ops x.s;let v12:=RS.inp x.s;eqL [.ptr 0 0,.agg [.int .u8 1,.i 0,.i 0,.str #[].toList]] [.ptr 0 0,.agg [.int .u8 x.o.kind,.i x.o.a,.i x.o.b,.str x.o.rat]]/\eqH [.box v6,.arr ops.length 4 (opG ops),.arr inp.length 3 (fxG inp),Blk.map true [Sum.inr false,Sum.inl .i64] (λ(k:List Sc)=>List.any inp λ(x:Fx)=>decide (k=[Sum.inr x.name,Sum.inl x.date])) λk=>AV.int .i64 ↑(List.findIdx (λ(x:Fx)=>decide (k=[Sum.inr x.name,Sum.inl x.date])) inp)] [.box [.i 0,.osl 1 4 0 (List.length v16),.osl 2 3 0 (List.length v12),AV.omap 3,.i x.day,.sl x.f.length 3 (fxG x.f),.sl x.c.length 4 (chG x.c)],.arr (List.length v16) 4 (opG v16),.arr (List.length v12) 3 (fxG v12),Blk.map true [Sum.inr false,Sum.inl .i64] (λ(k:List Sc)=>List.any v12 λx=>decide (k=[Sum.inr x.name,Sum.inl x.date])) λk=>AV.int .i64 ↑(List.findIdx (λ(x:Fx)=>decide (k=[Sum.inr x.name,Sum.inl x.date])) v12)]/\4=4/\List.length v16 <1099511627776) λn_1=>let v4:=RS.put n_1.s n_1.o;.A λn_2=>.R [.int .i64 ↑(List.length n_1.s.ops)] [.box [.i 0,.osl 1 4 0 (List.length v4.ops),.osl 2 3 0 (List.length v4.inp),.omap 3,.i n_1.day,.sl n_1.f.length 3 (fxG n_1.f),.sl n_1.c.length 4 (chG n_1.c)],.arr (List.length v4.ops) 4 (opG v4.ops),.arr (List.length v4.inp) 3 (fxG v4.inp),Blk.map true [Sum.inr false,Sum.inl .i64] (λ(k:List Sc)=>List.any v4.inp λx=>decide (k=[Sum.inr x.name,Sum.inl x.date])) λk=>.int .i64 ↑(List.findIdx (λ(x:Fx)=>decide (k=[Sum.inr x.name,Sum.inl x.date])) v4.inp),.box v18]))) ?_;simp only [q46,Tree.holds,zd];refine⟨λhh=>⟨λg=>by simp at g,λ_=> ?_⟩,λhh=>⟨λ_=> ?_,λg=>by simp at g⟩⟩
 ·have hlt:RS.idx ⟨ops,inp⟩ n d<inp.length:=zc8.1 hh;have e1:(inp.findIdx λx=>decide (([.inr n,.inl d]:List Sc)=[.inr x.name,.inl x.date]))=RS.idx ⟨ops,inp⟩ n d:=idx_eq;rw [e1];refine⟨⟨⟨ops,inp⟩,day,f,c,⟨1,RS.idx ⟨ops,inp⟩ n d,0,[]⟩⟩,⟨by simp,by simp [za],trivial,by show ops.length<_; omega⟩,⟨(),trivial⟩,λ_ _=> ?_⟩;have e2:RS.fix f n d ⟨ops,inp⟩=RS.put ⟨ops,inp⟩ ⟨1,RS.idx ⟨ops,inp⟩ n d,0,[]⟩:=by unfold RS.fix; rw [aP hlt]
  rw [e2] at hq;refine RetR.keep [0,1,2,3] rfl (by simp) (by show ∀ j,j<4->_; decide) rfl hq (by simp [resV,exp2,exp1,exp0,ren0,eqA2,eqL1]) ?_ rfl;refine⟨?_,⟨rfl,rfl,za _ _ _⟩,⟨rfl,rfl,za _ _ _⟩,⟨⟨rfl,.inl rfl⟩,rfl,λ_=>rfl,λ_ _=>rfl⟩,trivial⟩;simp [expB,exp1,exp0,ren0,zz,RS.put,fxS,chS,za]
 ·refine⟨((f,c),n,d),⟨by simp [za],h3⟩,⟨_,rfl⟩,?_⟩;intro v hv;replace hv:v=zP f n d:=hv;refine⟨⟨trivial,aJ _,by omega⟩,λ_=> ?_⟩;have hge:¬ RS.idx ⟨ops,inp⟩ n d<inp.length:=λq=>by rw [zc8.2 q] at hh; cases hh
  have e2:RS.fix f n d ⟨ops,inp⟩=RS.put ⟨ops,inp++[⟨n,d,v.1⟩]⟩ ⟨1,inp.length,0,[]⟩:=by unfold RS.fix; rw [aO hge,hv]; rfl
  rw [e2] at hq;refine⟨⟨⟨ops,inp++[⟨n,d,v.1⟩]⟩,day,f,c,⟨1,inp.length,0,[]⟩⟩,⟨by simp,⟨by simp [za],by simp [za],⟨by simp,rfl,VJ (x:=⟨n,d,v.1⟩)⟩,⟨⟨rfl,.inl rfl⟩,rfl,?_,?_⟩,trivial⟩,trivial,by show ops.length<_; omega⟩,⟨(),trivial⟩,λ_ _=> ?_⟩
  ·intro k;simp only [zX,List.any_append,List.any_cons,List.any_nil,Bool.or_false];exact Bool.or_comm _ _
  ·intro k hk;simp only [zL];rw [List.findIdx_append];by_cases q:k=[.inr n,.inl d]
   ·subst q;rw [aP rfl,aO (by rw [idx_eq (ops:=ops)]; exact hge)];simp
   ·rw [aO q];simp only [zX,aW q,Bool.false_or] at hk;rw [aP];rw [List.findIdx_lt_length];exact List.any_eq_true.1 hk
  refine RetR.keep [0,1,2,3] rfl (by simp) (by show ∀ j,j<4->_; decide) rfl hq (by simp [resV,exp2,exp1,exp0,ren0,eqA2,eqL1]) ?_ rfl;refine⟨?_,⟨rfl,rfl,za _ _ _⟩,⟨rfl,rfl,za _ _ _⟩,⟨⟨rfl,.inl rfl⟩,rfl,λ_=>rfl,λ_ _=>rfl⟩,trivial⟩;simp [expB,exp1,exp0,ren0,zz,RS.put,fxS,chS,za]
end Go.Proofs.Tryz
end
section
namespace Go.Nov
open Go.Sx
inductive Con where
 | mk (kind:Int) (src dst name:L8) (x:Ex) (date:Int) (days:List Int) (sub:List Con)
def uw(x:Ex):Bool:=decide (x.kind=0)&&(decide (x.rat=[])&&(decide (x.name=[])&&(decide (x.date=0)&&decide (x.sub.length=0))))
def Jy(x:Ex):Nat:=bif uw x then 0 else x.size
def Kw(x:Ex):Nat:=bif uw x then 0 else x.depth
def numX(x:Ex):Bool:=decide (x.errX=0)&&decide (x.zu=1)
def truX(x:Ex):Bool:=decide (x.errX=0)&&decide (x.zu=2)
def incB(l:List Int):Bool:=ordB cmpI 0 l
def zmp(l:List Int):Bool:=decide (1<=l.length)&&(decide (l.length<=100)&&(l.all dayB&&incB l))
def zmt(k:Int)(a b n:L8)(x:Ex)(d:Int)(l:List Int)(m:Nat):Bool:=
 if k=1 then decide (m=0)&&decide (a=[])&&decide (b=[])&&decide (n=[])&&decide (d=0)&&decide (l=[])&&uw x
 else if k=2 then decide (m=0)&&zY a&&zY b&&decide (a≠b)&&zY n&&numX x&&decide (d=0)&&decide (l=[])
 else if k=3 then decide (m=2)&&decide (a=[])&&decide (b=[])&&decide (n=[])&&decide (d=0)&&decide (l=[])&&uw x
 else if k=4 then decide (m=1)&&decide (a=[])&&decide (b=[])&&decide (n=[])&&decide (d=0)&&decide (l=[])&&numX x
 else if k=5 then decide (m=2)&&decide (a=[])&&decide (b=[])&&decide (n=[])&&decide (d=0)&&decide (l=[])&&truX x
 else if k=6 then decide (m=1)&&decide (a=[])&&decide (b=[])&&decide (n=[])&&dayB d&&decide (l=[])&&uw x
 else if k=7 then decide (m=2)&&zY a&&decide (b=[])&&zY n&&decide (d=0)&&decide (l=[])&&uw x
 else if k=8 then decide (m=1)&&zY a&&decide (b=[])&&zY n&&decide (d=0)&&zmp l&&uw x
 else if k=9\/k=10 then decide (m=1)&&decide (a=[])&&decide (b=[])&&decide (n=[])&&decide (d=0)&&zmp l&&truX x
 else false
namespace Con
def kind:Con->Int | mk k _ _ _ _ _ _ _=>k
def src:Con->L8 | mk _ a _ _ _ _ _ _=>a
def dst:Con->L8 | mk _ _ b _ _ _ _ _=>b
def name:Con->L8 | mk _ _ _ n _ _ _ _=>n
def x:Con->Ex | mk _ _ _ _ x _ _ _=>x
def date:Con->Int | mk _ _ _ _ _ d _ _=>d
def days:Con->List Int | mk _ _ _ _ _ _ l _=>l
def sub:Con->List Con | mk _ _ _ _ _ _ _ s=>s
abbrev nil:Con:=mk 0 [] [] [] Ex.nil 0 [] []
mutual
def nodes:Con->Nat
 | mk _ _ _ _ _ _ _ s=>1+JY s
def JY:List Con->Nat
 | []=>0
 | c::l=>nodes c+JY l
end
mutual
def size:Con->Nat
 | mk _ _ _ _ x _ _ s=>1+Jy x+z6 s
def z6:List Con->Nat
 | []=>0
 | c::l=>size c+z6 l
end
mutual
def depth:Con->Nat
 | mk _ _ _ _ x _ _ s=>1+max (Kw x) (zS s)
def zS:List Con->Nat
 | []=>0
 | c::l=>max (depth c) (zS l)
end
mutual
def big:Con->Nat
 | mk _ a b n x _ l s=>1+a.length+b.length+n.length+l.length+x.size+x.z3+bigs s
def bigs:List Con->Nat
 | []=>0
 | c::l=>big c+bigs l
end
mutual
def form:Con->Bool
 | mk k a b n x d l s=>zmt k a b n x d l s.length&&KH s
def KH:List Con->Bool
 | []=>true
 | c::l=>form c&&KH l
end
mutual
def thin:Con->Prop
 | mk _ a b n x _ l s=>a.length<=2^48/\b.length<=2^48/\n.length<=2^48/\x.thin/\l.length<=2^48/\s.length<=2^48/\yF s
def yF:List Con->Prop
 | []=>True
 | c::l=>thin c/\yF l
end
theorem size_eq(c:Con):c.size=1+Jy c.x+z6 c.sub:=by cases c; rw [size]; rfl
theorem vZ(c:Con):c.depth=1+max (Kw c.x) (zS c.sub):=by cases c; rw [depth]; rfl
theorem size_pos(c:Con):0<c.size:=by rw [size_eq]; omega
section
variable {f:Con->Nat} {F:List Con->Nat}
theorem KU(h0:F []=0)(h1:∀ c l,F (c::l)=f c+F l):∀ (s:List Con) (i:Nat),i<s.length->F (s.take (i+1))=F (s.take i)+f (s.getD i nil)
 | [],i,h=>by simp at h
 | c::s,0,_=>by simp [h0,h1]
 | c::s,i+1,h=>by
  simp only [List.take_succ_cons,h1,List.getD_cons_succ];rw [KU h0 h1 s i (by simpa using h)];omega
theorem zbb(h0:F []=0)(h1:∀ c l,F (c::l)=f c+F l):∀ (s:List Con) (i:Nat),i<s.length->f (s.getD i nil)<=F s
 | [],i,h=>by simp at h
 | c::s,0,_=>by simp [h1]
 | c::s,i+1,h=>by
  simp only [List.getD_cons_succ,h1];have:=zbb h0 h1 s i (by simpa using h);omega
end
theorem xu{s:List Con}{i:Nat}(h:i<s.length):z6 (s.take (i+1))=z6 (s.take i)+(s.getD i nil).size:=KU (by rw [z6]) (λc l=>by rw [z6]) s i h
theorem z4{s:List Con}{i:Nat}(h:i<s.length):(s.getD i nil).size<=z6 s:=zbb (by rw [z6]) (λc l=>by rw [z6]) s i h
theorem kj:∀ (s:List Con) (i:Nat),i<s.length->zS (s.take (i+1))=max (zS (s.take i)) (s.getD i nil).depth
 | [],i,h=>by simp at h
 | c::s,0,_=>by simp [zS]
 | c::s,i+1,h=>by
  simp only [List.take_succ_cons,zS,List.getD_cons_succ];rw [kj s i (by simpa using h)];omega
def errC(c:Con):Int:=if 500<c.size\/60<c.depth then 4 else if c.form=true then 0 else 8
def dayG(l:List Int):Nat->Nat->AV:=λj _=>.i (l.getD j 0)
def cell(k:Int)(a b n:L8)(x:Ex)(d:Int)(l:List Int)(m:Nat)(g:Nat->Nat->AV):Nat->AV
 | 0=>.int .u8 k
 | 1=>.str a
 | 2=>.str b
 | 3=>.str n
 | 4=>.int .u8 x.kind
 | 5=>.str x.rat
 | 6=>.str x.name
 | 7=>.i x.date
 | 8=>.sl x.sub.length 5 (Ex.exG x.sub)
 | 9=>.i d
 | 10=>.sl l.length 1 (dayG l)
 | 11=>.sl m 12 g
 | _=>.undef
def deep:Con->Nat->Nat->AV
 | mk _ _ _ _ _ _ _ s=>λj=>(s.map λc=>cell c.kind c.src c.dst c.name c.x c.date c.days c.sub.length (deep c)).getD j λ_=>.undef
def conG(s:List Con):Nat->Nat->AV:=λj=>cell (s.getD j nil).kind (s.getD j nil).src (s.getD j nil).dst (s.getD j nil).name (s.getD j nil).x (s.getD j nil).date (s.getD j nil).days (s.getD j nil).sub.length (deep (s.getD j nil))
theorem zH(c:Con):eqG c.sub.length 12 (deep c) (conG c.sub):=by
 intro j o hj ho;cases c with
 | mk k a b n x d l s=>
  rw [deep];change j<s.length at hj;show _=conG s j o;simp [conG,List.getD,hj]
theorem KJ{c e:Con} : c=e↔c.kind=e.kind/\c.src=e.src/\c.dst=e.dst/\c.name=e.name/\c.x=e.x/\c.date=e.date/\c.days=e.days/\c.sub=e.sub:=by
 cases c; cases e;simp [kind,src,dst,name,x,date,days,sub]
theorem Vr{s t:List Con}(hl:s.length=t.length)(h:∀ j,j<s.length->s.getD j nil=t.getD j nil):s=t:=by
 apply List.ext_getElem hl;intro i g1 g2;have:=h i g1;simpa [List.getD,g1,g2] using this
mutual
def all:Con->List Con
 | mk k a b n x d l s=>mk k a b n x d l s::alls s
def alls:List Con->List Con
 | []=>[]
 | c::l=>all c++alls l
end
def zmu(c:Con):Bool:=zmt c.kind c.src c.dst c.name c.x c.date c.days c.sub.length
mutual
theorem zlx:∀ c:Con,c.all.length=c.nodes
 | mk k a b n x d l s=>by rw [all,nodes,aL,KL s]; omega
theorem KL:∀ s:List Con,(alls s).length=JY s
 | []=>by simp [alls,JY]
 | c::s=>by rw [alls,JY,bO,zlx c,KL s]
end
mutual
theorem zk7:∀ c:Con,c.form=c.all.all zmu
 | mk k a b n x d l s=>by rw [all,form,List.all_cons,WT s]; rfl
theorem WT:∀ s:List Con,KH s=(alls s).all zmu
 | []=>by simp [alls,KH]
 | c::s=>by rw [alls,KH,List.all_append,zk7 c,WT s]
end
def wt(c:Con):Nat:=1+Jy c.x
mutual
theorem zj7:∀ c:Con,c.size=(c.all.map wt).sum
 | mk k a b n x d l s=>by rw [all,size,List.map_cons,List.sum_cons,Wu s]; rfl
theorem Wu:∀ s:List Con,z6 s=((alls s).map wt).sum
 | []=>by simp [alls,z6]
 | c::s=>by rw [alls,z6,List.map_append,List.sum_append,zj7 c,Wu s]
end
mutual
theorem zlw:∀ c:Con,∀ e∈c.all,e.big<=c.big
 | mk k a b n x d l s,e,he=>by
  rw [all] at he;rcases aM.1 he with rfl | he
  ·exact aJ _
  ·have:=KK s e he;rw [big]; omega
theorem KK:∀ s:List Con,∀ e∈alls s,e.big<=bigs s
 | [],e,he=>by simp [alls] at he
 | c::s,e,he=>by
  rw [alls] at he;rw [bigs];rcases bY.1 he with he | he
  ·have:=zlw c e he; omega
  ·have:=KK s e he; omega
end
theorem zgk(x:Ex):Jy x<=x.size:=by unfold Jy; cases uw x<;>simp
theorem zdx(x:Ex):Kw x<=Jy x:=by
 unfold Jy Kw;cases uw x
 ·exact Ex.kC x
 ·exact aJ _
mutual
theorem zg0:∀ c:Con,c.size<=c.big
 | mk k a b n x d l s=>by
  have:=W8 s;have:=zgk x;rw [size,big]; omega
theorem W8:∀ s:List Con,z6 s<=bigs s
 | []=>by simp [z6,bigs]
 | c::s=>by rw [z6,bigs]; have:=zg0 c; have:=W8 s; omega
end
mutual
theorem Uf:∀ c:Con,c.depth<=c.size
 | mk k a b n x d l s=>by
  have:=ZN s;have:=zdx x;rw [depth,size]; omega
theorem ZN:∀ s:List Con,zS s<=z6 s
 | []=>by simp [zS,z6]
 | c::s=>by rw [zS,z6]; have:=Uf c; have:=ZN s; omega
end
end Con
end Go.Nov
end
section
namespace Go.Nov
open Go.Sx
structure Deal where
 long:L8
 short:L8
 ccy:L8
 name:L8
 Ke:L8
 zb5:L8
namespace Tm
def kon(r:L8):Ex:=.mk 1 r [] 0 []
def spot(n:L8):Ex:=.mk 3 [] n 0 []
def opx(k:Int)(s:List Ex):Ex:=.mk k [] [] 0 s
def over(k:L8)(x:Ex)(below:Bool):Ex:=opx 7 [kon [48],opx 5 (if below=true then [kon k,x] else [x,kon k])]
def pay(d:Deal)(x:Ex)(r:L8):Con:=.mk 2 d.short d.long d.ccy (opx 6 [x,kon r]) 0 [] []
def at_(day:Int)(c:Con):Con:=.mk 6 [] [] [] (.mk 0 [] [] 0 []) day [] [c]
def call(d:Deal)(ch:L8)(days:List Int)(c:Con):Con:=.mk 8 d.long [] ch (.mk 0 [] [] 0 []) 0 days [c]
def first(e:Int)(l:List L8):Int:=l.foldl (λe r=>if e=0 then errR r else e) e
def zero:Con:=.mk 0 [] [] [] (.mk 0 [] [] 0 []) 0 [] []
def fits(d:Deal):Prop:=d.long.length<=200/\d.short.length<=200/\d.ccy.length<=200/\d.name.length<=200/\d.Ke.length<=2500/\d.zb5.length<=2500
def res(d:Deal)(c:Con):Int:=if first 0 [d.Ke,d.zb5]=0 then c.errC else first 0 [d.Ke,d.zb5]
def out(e:Int)(c:Con):Con:=if e=0 then c else zero
def opt(d:Deal)(ch:L8)(days:List Int)(put:Bool):Con:=call d ch days (pay d (over d.Ke (spot d.name) put) d.zb5)
end Tm
end Go.Nov
end
section
namespace Go.Sx
open Go.Nov
variable [Stat]
end Go.Sx
namespace Go.Nov
open Go.Sx
variable [Go.Sx.Stat]
end Go.Nov
end
section
set_option maxRecDepth 100000
open Go Go.Sx Go.Proofs Go.Nov
namespace Go.Proofs.Tryz
attribute [local simp] eqKV eqA eqA0 eqH eqB eqL eqL0
noncomputable def K57:=Go.Sx.aA f57
def HRr(s:RS)(day:Int)(f:List Fx)(c:List Ch):Heap:=[.box [.i 0,.osl 1 4 0 s.ops.length,.osl 2 3 0 s.inp.length,.i day,fxS f,chS c],.arr s.ops.length 4 (opG s.ops),.arr s.inp.length 3 (fxG s.inp)]
def ropC:Ctr:=ctrM 1 (λp:XRc=>[.ptr 0 0,.agg [.int .u8 p.o.kind,.i p.o.a,.i p.o.b,.str p.o.rat]]) (λp=>HRr p.s p.day p.f p.c)
 (λp=>p.s.ops.length<2^40) (λ_ (_:Unit)=>True) (λp _=>(.i (p.s.ops.length:Nat),HRr (p.s.put p.o) p.day p.f p.c))
theorem zjv:zc prog 56 ropC:=by
 refine ym' f56 λp hp O w0 I0 Q hl0 hq=> ?_
 obtain⟨⟨ops,inp⟩,day,f,c,⟨ok,oa,ob,orat⟩⟩:=p;replace hq:=hq () trivial;simp only at hp hq;refine zb.n zq [] (let v1:List AV:=[.int .u8 ok,.i oa,.i ob,.str orat];.side (0=0/\ops.length<=ops.length/\(ops.length+1)*40<=140737488355328) (.S ((↑(ops.length+1):Int) - (1:Int)) (.R [.i ((↑(ops.length+1):Int) - (1:Int))] [.box [.i 0,.osl 1 4 0 (ops.length+1),.osl 2 3 0 inp.length,.i day,.sl f.length 3 (fxG f),.sl c.length 4 (chG c)],.arr (ops.length+1) 4 (appG ops.length (opG ops) (zf (zg 4 v1) 0)),.arr inp.length 3 (fxG inp),.box v1,.arr 1 4 (zg 4 v1)]))) ?_;simp only [Tree.holds,zd];have e1:((ops.length+1:Nat):Int) - 1=ops.length:=by omega
 refine⟨⟨trivial,aJ _,by omega⟩,λ_=>⟨by simp only [inR,lo,hi]; omega,λ_=> ?_⟩⟩;rw [e1];refine RetR.keep [0,1,2] rfl (by simp) (by show ∀ j,j<3->_; decide) rfl hq (by simp [resV,exp2,exp1,exp0,ren0,eqA2,eqL1]) ?_ rfl;refine⟨?_,⟨by simp [RS.put],rfl,Yw (o:=⟨ok,oa,ob,orat⟩)⟩,⟨rfl,rfl,za _ _ _⟩,trivial⟩;simp [expB,exp1,exp0,ren0,zz,RS.put,fxS,chS,za]
def rinC:Ctr:=ctrM 1 (λp:XFi=>[.ptr 0 0,.str p.n,.i p.d]) (λp=>HRr p.s p.day p.f p.c)
 (λp=>p.s.ops.length<2^39/\p.s.inp.length<2^39/\p.f.length<2^40/\p.n.length<2^40) (λ_ (_:Unit)=>True) (λp _=>(.i (p.s.ops.length:Nat),HRr (p.s.fix p.f p.n p.d) p.day p.f p.c))
noncomputable def GRnB:=tb XJ (tb zjv tz)
def SRin(n:L8)(d:Int)(i:Nat):KV:=[(0,.ptr 0 0),(1,.str n),(2,.i d),(7,.i (i:Int)),Z 30,Z 31,Z 32,Z 33,Z 34,Z 35,Z 36,Z 37,Z 38,Z 39]
abbrev q47(A:List AV)(H:Heap)(x:XRc):Prop:=eqL A [.ptr 0 0,.agg [.int .u8 x.o.kind,.i x.o.a,.i x.o.b,.str x.o.rat]]/\eqH H [.box [.i 0,.osl 1 4 0 (List.length x.s.ops),.osl 2 3 0 (List.length x.s.inp),.i x.day,.sl x.f.length 3 (fxG x.f),.sl x.c.length 4 (chG x.c)],.arr (List.length x.s.ops) 4 (opG x.s.ops),.arr (List.length x.s.inp) 3 (fxG x.s.inp)]/\3=3/\List.length x.s.ops<1099511627776
theorem zns:zc prog 57 rinC:=by
 refine ym' f57 λp hp O w0 I0 Q hl0 hq=> ?_
 obtain⟨⟨ops,inp⟩,day,f,c,n,d⟩:=p;replace hq:=hq () trivial;obtain⟨h1,h2,h3,h4⟩:=hp;simp only at h1 h2 h3 h4 hq;refine zb.n GRnB.h [0,1,2,7,30,31,32,33,34,35,36,37,38,39] (.leaf (.loop (lps K57 0).1 (lps K57 0).2 [(0,.ptr 0 0),(1,.str n),(2,.i d),(7,.i 0),Z 30,Z 31,Z 32,Z 33,Z 34,Z 35,Z 36,Z 37,Z 38,Z 39] [.box [.i 0,.osl 1 4 0 ops.length,.osl 2 3 0 inp.length,.i day,.sl f.length 3 (fxG f),.sl c.length 4 (chG c)],.arr ops.length 4 (opG ops),.arr inp.length 3 (fxG inp)])) ?_;simp only [Tree.holds,zd,inR,lo,hi,aD];refine zb.loop (ι:={i:Nat // i<=inp.length/\∀ j,j<i->¬ ((inp.getD j Fx.nil).name=n/\(inp.getD j Fx.nil).date=d)}) (λi=>SRin n d i.1) (λ_=>HRr ⟨ops,inp⟩ day f c) (λi=>inp.length - i.1) ⟨0,aI _,λj hj=>by omega⟩ 0 ?_ ?_ (by kernel_rfl)
 ·exact⟨by simp [SRin],⟨by simp [fxS,chS,za],⟨rfl,rfl,za _ _ _⟩,⟨rfl,rfl,za _ _ _⟩,trivial⟩,by kernel_rfl,by show 1<=3; decide⟩
 ·rintro⟨i,hil,hib⟩;refine zb.n GRnB.h [0,1,2,7,30,31,32,33,34,35,36,37,38,39] (let v3:=inp.getD (0+Int.toNat i) Fx.nil;.D ((i:Int)<inp.length) (.side ((0:Int)<=i/\(i:Int)<inp.length) (.side (decide (Fx.name v3=n)=true->(0:Int)<=i/\(i:Int)<inp.length) (.ite (bif decide (Fx.name v3=n) then decide (Fx.date v3=d) else false) (.ex (q47 [.ptr 0 0,.agg [.int .u8 1,.i i,.i 0,.str #[].toList]] [.box [.i 0,.osl 1 4 0 ops.length,.osl 2 3 0 inp.length,.i day,.sl f.length 3 (fxG f),.sl c.length 4 (chG c)],.arr ops.length 4 (opG ops),.arr inp.length 3 (fxG inp)]) λn=>let v2:=RS.put n.s n.o;.A λn_1=>.R [.int .i64 ↑(List.length n.s.ops)] [.box [.i 0,.osl 1 4 0 (List.length v2.ops),.osl 2 3 0 (List.length v2.inp),.i n.day,.sl n.f.length 3 (fxG n.f),.sl n.c.length 4 (chG n.c)],.arr (List.length v2.ops) 4 (opG v2.ops),.arr (List.length v2.inp) 3 (fxG v2.inp)]) (.S (i+1) (.leaf (.back 0 [(0,.ptr 0 0),(1,.str n),(2,.i d),(7,.i (i+1)),Z 30,Z 31,Z 32,Z 33,Z 34,Z 35,Z 36,Z 37,Z 38,Z 39] [.box [.i 0,.osl 1 4 0 ops.length,.osl 2 3 0 inp.length,.i day,.sl f.length 3 (fxG f),.sl c.length 4 (chG c)],.arr ops.length 4 (opG ops),.arr inp.length 3 (fxG inp)])))))) (.ex (q46 [.agg [.sl f.length 3 (fxG f),.sl c.length 4 (chG c)],.str n,.i d]) λn_1=>.all (λ(r:L8×Bool)=>r=zP n_1.1.1 n_1.2.1 n_1.2.2) λn_2=>.side (0=0/\inp.length<=inp.length/\(inp.length+1)*40<=140737488355328) (.S ((↑(inp.length+1):Int) - (1:Int)) (.ex (q47 [.ptr 0 0,.agg [.int .u8 1,.i ((↑(inp.length+1):Int) - (1:Int)),.i 0,.str #[].toList]] [.box [.i 0,.osl 1 4 0 ops.length,.osl 2 3 0 (inp.length+1),.i day,.sl f.length 3 (fxG f),.sl c.length 4 (chG c)],.arr ops.length 4 (opG ops),.arr (inp.length+1) 3 (appG inp.length (fxG inp) (zf (zg 3 [.str n,.i d,.str n_2.1]) 0))]) λn_3=>let v1:=RS.put n_3.s n_3.o;.A λn_4=>.R [.int .i64 ↑(List.length n_3.s.ops)] [.box [.i 0,.osl 1 4 0 (List.length v1.ops),.osl 2 3 0 (List.length v1.inp),.i n_3.day,.sl n_3.f.length 3 (fxG n_3.f),.sl n_3.c.length 4 (chG n_3.c)],.arr (List.length v1.ops) 4 (opG v1.ops),.arr (List.length v1.inp) 3 (fxG v1.inp),.arr 1 3 (zg 3 [.str n,.i d,.str n_2.1])])))) ?_;simp only [q46,q47,Tree.holds,zd,inR,lo,hi,aD];have hself:eqH (HRr ⟨ops,inp⟩ day f c) (HRr ⟨ops,inp⟩ day f c):=⟨by simp [fxS,chS,za],⟨rfl,rfl,za _ _ _⟩,⟨rfl,rfl,za _ _ _⟩,trivial⟩;refine⟨λhlt=> ?_,λhge=> ?_⟩
  ·have hlt:i<inp.length:=by have:=aB hlt; omega
   simp only [Nat.zero_add];refine⟨by omega,λ_=>⟨λ_=>by omega,λ_=>⟨λg=> ?_,λg=> ?_⟩⟩⟩
   ·have g:(inp.getD i Fx.nil).name=n/\(inp.getD i Fx.nil).date=d:=by
     by_cases g1:(inp.getD i Fx.nil).name=n
     ·rw [aX g1] at g; exact⟨g1,aB g⟩
     ·rw [aW g1] at g; cases g
    have hidx:RS.idx ⟨ops,inp⟩ n d=i:=by
     unfold RS.idx;rw [List.findIdx_eq hlt];have e:inp.getD i Fx.nil=inp[i]:=by simp [List.getD,hlt]
     rw [e] at g;refine⟨by simp [g],λj hj=> ?_⟩;have hb:=hib j hj;have e2:inp.getD j Fx.nil=inp[j]'(by omega):=by simp [List.getD,show j<inp.length by omega]
     rw [e2] at hb;simpa using hb
    have e2:RS.fix f n d ⟨ops,inp⟩=RS.put ⟨ops,inp⟩ ⟨1,i,0,[]⟩:=by
     unfold RS.fix;rw [hidx,aP (show i<(⟨ops,inp⟩:RS).inp.length from hlt)]
    rw [e2] at hq;refine⟨⟨⟨ops,inp⟩,day,f,c,⟨1,i,0,[]⟩⟩,⟨by simp,hself,trivial,by show ops.length<_; omega⟩,⟨(),trivial⟩,λ_ _=> ?_⟩;refine RetR.keep [0,1,2] rfl (by simp) (by show ∀ j,j<3->_; decide) rfl hq (by simp [resV,exp2,exp1,exp0,ren0,eqA2,eqL1]) ?_ rfl;refine⟨?_,⟨rfl,rfl,za _ _ _⟩,⟨rfl,rfl,za _ _ _⟩,trivial⟩;simp [expB,exp1,exp0,ren0,zz,RS.put,fxS,chS,za]
   ·refine⟨by omega,λ_=> ?_⟩;rw [aP trivial];refine⟨⟨i+1,hlt,λj hj=> ?_⟩,by show inp.length - (i+1)<_; omega,by simp [SRin],hself,by kernel_rfl,by show 1<=3; decide⟩;rcases aR j i with g1 | g1
    ·exact hib j g1
    ·have:j=i:=by omega
     subst this;intro h;rw [aX h.1,aX h.2] at g;cases g
  ·have hge:i=inp.length:=by have:=aC hge; omega
   have hno:¬ RS.idx ⟨ops,inp⟩ n d<inp.length:=λh=>by
    have hp:=List.findIdx_getElem (w:=h);simp only [bA,aK] at hp;have hb:=hib _ (by rw [hge]; exact h);have e:inp.getD (RS.idx ⟨ops,inp⟩ n d) Fx.nil=inp[RS.idx ⟨ops,inp⟩ n d]:=by simp [List.getD,h]
    rw [e] at hb;exact hb hp
   have e2:RS.fix f n d ⟨ops,inp⟩=⟨ops++[⟨1,inp.length,0,[]⟩],inp++[⟨n,d,(zP f n d).1⟩]⟩:=by unfold RS.fix; rw [aO hno]
   rw [e2] at hq;refine⟨((f,c),(n,d)),⟨⟨⟨⟨rfl,rfl,za _ _ _⟩,⟨rfl,rfl,za _ _ _⟩,trivial⟩,rfl,⟨rfl,rfl⟩,trivial⟩,h3⟩,⟨_,rfl⟩,?_⟩;rintro _ rfl;have e1:((inp.length+1:Nat):Int) - 1=inp.length:=by omega
   refine⟨⟨trivial,aJ _,by omega⟩,λ_=>⟨by omega,λ_=> ?_⟩⟩;rw [e1];refine⟨⟨⟨ops,inp++[⟨n,d,(zP f n d).1⟩]⟩,day,f,c,⟨1,inp.length,0,[]⟩⟩,⟨by simp,⟨by simp [fxS,chS,za],⟨rfl,rfl,za _ _ _⟩,⟨by simp,rfl,VJ (x:=⟨n,d,(zP f n d).1⟩)⟩,trivial⟩,trivial,by show ops.length<_; omega⟩,⟨(),trivial⟩,λ_ _=> ?_⟩;refine RetR.keep [0,1,2] rfl (by simp) (by show ∀ j,j<3->_; decide) rfl hq (by simp [resV,exp2,exp1,exp0,ren0,eqA2,eqL1]) ?_ rfl;refine⟨?_,⟨rfl,rfl,za _ _ _⟩,⟨rfl,rfl,za _ _ _⟩,trivial⟩;simp [expB,exp1,exp0,ren0,zz,RS.put,fxS,chS,za]
noncomputable def K98:=Go.Sx.aA f98
noncomputable def K122:=Go.Sx.aA f122
theorem jC{X R:Type}{P:Program}{g:Nat}{fresh:Bool}{inp:X->List AV}{pre:X->Prop}{post:X->R->Prop}{out:X->R->AV×Heap}(μ:X->Nat)
  (step:∀ n,zc P g (ctrP fresh inp (λx=>μ x<n/\pre x) post out)->zc P g (ctrP fresh inp (λx=>μ x<n+1/\pre x) post out)):zc P g (ctrP fresh inp pre post out):=by
 have all:∀ n,zc P g (ctrP fresh inp (λx=>μ x<n/\pre x) post out):=by
  intro n
  induction n with
  | zero=>
   intro args hc Q hq _;simp only [ctrP] at hq;split at hq
   ·obtain⟨x,⟨_,h,_⟩,_⟩:=hq;exact absurd h (Nat.not_lt_zero _)
   ·exact hq.elim
  | succ n ih=>exact step n ih
 intro args hc Q hq hf
 match hc,hq,hf with
 | [],hq,hf=>
  obtain⟨x,⟨h1,h2⟩,h3⟩:=hq;exact all (μ x+1) args [] Q ⟨x,⟨h1,Nat.lt_succ_self _,h2⟩,h3⟩ hf
 | _::_,hq,_=>exact hq.elim
def WH(n:Nat):Ctr:=ctrP true (λx:Ex=>[x.exA]) (λx=>x.size<n/\x.size<2^62) (λx r=>r=x.size) (λ_ (r:Nat)=>(.i (r:Int),[]))
def GSz(g n:Nat):Nat->Option Ctr:=λf=>if f=g then some (WH n) else none
theorem K5{g n:Nat}(h:zc prog g (WH n)):∀ f c,GSz g n f=some c->zc prog f c:=by
 intro f c hf;simp only [GSz] at hf;split at hf
 ·rename_i hg; subst hg; cases hf; exact h
 ·cases hf
theorem wG{x:Ex}{k d:Int}{r m:L8}{l:Nat}{g:Nat->Nat->AV}(hk:k=x.kind)(hr:r=x.rat)(hm:m=x.name)(hd:d=x.date)(hl:l=x.sub.length)(hg:eqG x.sub.length 5 g (Ex.exG x.sub)):eqL [.agg [.int .u8 k,.str r,.str m,.i d,.sl l 5 g]] [x.exA]:=by
 subst hk; subst hr; subst hm; subst hd; subst hl;exact⟨⟨⟨rfl,rfl⟩,rfl,rfl,⟨rfl,rfl⟩,⟨rfl,rfl,hg⟩,trivial⟩,trivial⟩
def SSz(s:List Ex)(c i:Nat):KV:=[(3,.i (c:Int)),(7,Ex.exS s),(8,.i (s.length:Int)),(9,.i (i:Int))]
theorem zd7(n:Nat)(ih:zc prog 98 (WH n)):zc prog 98 (WH (n+1)):=by
 refine ze' f98 λx hx O w0 Q hq=> ?_
 replace hq:=hq _ rfl;obtain⟨hxn,hxs⟩:=hx;rw [Ex.size_eq] at hxn hxs hq;obtain⟨k,r,m,d,s⟩:=x;simp only [Ex.sub] at hxn hxs hq;refine zb.n (K5 ih) [3,7,8,9] (.leaf (.loop (lps K98 0).1 (lps K98 0).2 [(3,.i 1),(7,.sl s.length 5 (Ex.exG s)),(8,.i s.length),(9,.i 0)] [.box [.int .u8 k,.str r,.str m,.i d,.sl s.length 5 (Ex.exG s)]])) ?_;simp only [Tree.holds,zd];have hlen:=Ex.zM s;refine zb.loop (ι:={i:Nat // i<=s.length}) (λi=>SSz s (1+Ex.z6 (s.take i.1)) i.1) (λ_=>[]) (λi=>s.length - i.1) ⟨0,aI _⟩ 0 ?_ ?_ (by kernel_rfl)
 ·exact⟨by simp [SSz,Ex.z6,Ex.exS,za],by simp,by kernel_rfl,aI _⟩
 ·rintro⟨i,hil⟩;have hle:=Ex.wH s i;obtain⟨c,hc⟩:∃ c,1+Ex.z6 (s.take i)=c:=⟨_,rfl⟩;simp only [hc];refine zb.n (K5 ih) [3,7,8,9] (let v1:=s.getD (i:Int).toNat Ex.nil;.D ((i:Int)<s.length) (.side ((0:Int)<=i/\(i:Int)<s.length) (.ex (λ(x:Ex)=>eqL [.agg [.int .u8 (Ex.kind v1),.str (Ex.rat v1),.str (Ex.name v1),.i (Ex.date v1),.sl (List.length (Ex.sub v1)) 5 (Ex.deep v1)]] [.agg [.int .u8 x.kind,.str x.rat,.str x.name,.i x.date,.sl x.sub.length 5 (Ex.exG x.sub)]]/\Ex.size x<n/\Ex.size x<4611686018427387904) λn=>.all (λ(r:Nat)=>r=Ex.size n) λn=>.S ((c:Int)+n) (.S (i+1) (.leaf (.back 0 [(3,.i ((c:Int)+n)),(7,.sl s.length 5 (Ex.exG s)),(8,.i s.length),(9,.i (i+1))] [.box [.int .u8 (Ex.kind v1),.str (Ex.rat v1),.str (Ex.name v1),.i (Ex.date v1),.sl (List.length (Ex.sub v1)) 5 (Ex.deep v1)]]))))) (.R [.i c] [])) ?_;simp only [Tree.holds,zd,inR,lo,hi,aD];refine⟨λhlt=> ?_,λhge=> ?_⟩
  ·have hlt:i<s.length:=by have:=aB hlt; omega
   have hg:=Ex.z4 hlt;have ht:=Ex.xu s i hlt;have hle2:=Ex.wH s (i+1);refine⟨by omega,λ_=>⟨s.getD i Ex.nil,⟨wG rfl rfl rfl rfl rfl (Ex.zH _),by omega,by omega⟩,⟨_,rfl⟩,?_⟩⟩;rintro _ rfl;refine⟨by omega,λ_=>⟨by omega,λ_=> ?_⟩⟩;rw [aP trivial];refine⟨⟨i+1,hlt⟩,by show s.length - (i+1)<s.length - i; omega,?_,by simp,by kernel_rfl,aI _⟩;simp [SSz,Ex.exS,za,ht]; omega
  ·have hge:i=s.length:=by have:=aC hge; omega
   subst hge;rw [bD] at hc;rw [hc] at hq;exact RetR.scal hq rfl (by simp [resV])
def zb7:Ctr:=ctrP true (λx:Ex=>[x.exA]) (λx=>x.size<2^62) (λx r=>r=x.size) (λ_ (r:Nat)=>(.i (r:Int),[]))
theorem zma:zc prog 98 zb7:=jC Ex.size zd7
def boxE(k:Int)(r m:L8)(d:Int)(s:List Ex):Heap:=[.box [.int .u8 k,.str r,.str m,.i d,Ex.exS s]]
def SSr(c i:Nat):KV:=[(1,.ptr 0 0),(3,.i (c:Int)),(4,.i (i:Int))]
theorem YD(n:Nat)(ih:zc prog 122 (WH n)):zc prog 122 (WH (n+1)):=by
 refine ze' f122 λx hx O w0 Q hq=> ?_
 replace hq:=hq _ rfl;obtain⟨hxn,hxs⟩:=hx;rw [Ex.size_eq] at hxn hxs hq;obtain⟨k,r,m,d,s⟩:=x;simp only [Ex.sub] at hxn hxs hq;refine zb.n (K5 ih) [1,3,4] (.leaf (.loop (lps K122 0).1 (lps K122 0).2 [(1,.ptr 0 0),(3,.i 1),(4,.i 0)] [.box [.int .u8 k,.str r,.str m,.i d,.sl s.length 5 (Ex.exG s)]])) ?_;simp only [Tree.holds,zd];have hlen:=Ex.zM s;refine zb.loop (ι:={i:Nat // i<=s.length}) (λi=>SSr (1+Ex.z6 (s.take i.1)) i.1) (λ_=>boxE k r m d s) (λi=>s.length - i.1) ⟨0,aI _⟩ 0 ?_ ?_ (by kernel_rfl)
 ·exact⟨by simp [SSr,Ex.z6],by simp [boxE,Ex.exS,za],by kernel_rfl,aI _⟩
 ·rintro⟨i,hil⟩;have hle:=Ex.wH s i;obtain⟨c,hc⟩:∃ c,1+Ex.z6 (s.take i)=c:=⟨_,rfl⟩;simp only [hc];refine zb.n (K5 ih) [1,3,4] (let v2:List Blk:=[.box [.int .u8 k,.str r,.str m,.i d,.sl s.length 5 (Ex.exG s)]];let v1:=s.getD (i:Int).toNat Ex.nil;.D ((i:Int)<s.length) (.side ((0:Int)<=i/\(i:Int)<s.length) (.ex (λ(x:Ex)=>eqL [.agg [.int .u8 (Ex.kind v1),.str (Ex.rat v1),.str (Ex.name v1),.i (Ex.date v1),.sl (List.length (Ex.sub v1)) 5 (Ex.deep v1)]] [.agg [.int .u8 x.kind,.str x.rat,.str x.name,.i x.date,.sl x.sub.length 5 (Ex.exG x.sub)]]/\Ex.size x<n/\Ex.size x<4611686018427387904) λn=>.all (λ(r:Nat)=>r=Ex.size n) λn=>.S ((c:Int)+n) (.S (i+1) (.leaf (.back 0 [(1,.ptr 0 0),(3,.i ((c:Int)+n)),(4,.i (i+1))] v2))))) (.R [.i c] v2)) ?_;simp only [Tree.holds,zd,inR,lo,hi,aD];refine⟨λhlt=> ?_,λhge=> ?_⟩
  ·have hlt:i<s.length:=by have:=aB hlt; omega
   have hg:=Ex.z4 hlt;have ht:=Ex.xu s i hlt;have hle2:=Ex.wH s (i+1);refine⟨by omega,λ_=>⟨s.getD i Ex.nil,⟨wG rfl rfl rfl rfl rfl (Ex.zH _),by omega,by omega⟩,⟨_,rfl⟩,?_⟩⟩;rintro _ rfl;refine⟨by omega,λ_=>⟨by omega,λ_=> ?_⟩⟩;rw [aP trivial];refine⟨⟨i+1,hlt⟩,by show s.length - (i+1)<s.length - i; omega,?_,by simp [boxE,Ex.exS,za],by kernel_rfl,aI _⟩;simp [SSr,ht]; omega
  ·have hge:i=s.length:=by have:=aC hge; omega
   subst hge;rw [bD] at hc;rw [hc] at hq;exact RetR.scal hq rfl (by simp [resV])
theorem zix:zc prog 122 zb7:=jC Ex.size YD
noncomputable def K27:=Go.Sx.aA f27
noncomputable def K28:=Go.Sx.aA f28
def G1c(g:Nat)(C:Ctr):Nat->Option Ctr:=λf=>if f=g then some C else none
theorem ve{g:Nat}{C:Ctr}(h:zc prog g C):∀ f c,G1c g C f=some c->zc prog f c:=by
 intro f c hf;simp only [G1c] at hf;split at hf
 ·rename_i hg; subst hg; cases hf; exact h
 ·cases hf
def zfi(n:Nat):Ctr:=ctrP true (λp:Ex×Nat×Nat=>[p.1.exA,.i (p.2.1:Int),.i (p.2.2:Int)]) (λp=>p.1.size<n/\p.2.1<2^40/\p.2.2<2^40)
 (λp (r:Nat×Bool)=>1<=r.1/\r.1<=p.2.1+1/\(r.2=true->r.1<=p.2.1->r.1=p.1.size)) (λ_ (r:Nat×Bool)=>(.tup [.i (r.1:Int),.bool r.2],[]))
def SCn(limit deep m i:Nat):KV:=[(1,.i (limit:Int)),(2,.i (deep:Int)),(3,.ptr 0 0),(8,.i (m:Int)),(9,.i (i:Int)),Z 20,Z 21,Z 22]
theorem U5(n:Nat)(ih:zc prog 27 (zfi n)):zc prog 27 (zfi (n+1)):=by
 refine ze' f27 λp hp O w0 Q hq=> ?_
 obtain⟨x,limit,deep⟩:=p;obtain⟨hxn,hli,hde⟩:=hp;simp only at hxn hli hde hq;rw [Ex.size_eq] at hxn hq;obtain⟨k,r,m,d,s⟩:=x;simp only [Ex.sub] at hxn hq;refine zb.n (ve ih) [1,2,3,8,9,20,21,22] (let v1:List Blk:=[.box [.int .u8 k,.str r,.str m,.i d,.sl s.length 5 (Ex.exG s)]];.D ((deep:Int)=0) (.R [.i 1,.bool false] v1) (.leaf (.loop (lps K27 0).1 (lps K27 0).2 [(1,.i limit),(2,.i deep),(3,.ptr 0 0),(8,.i 1),(9,.i 0),Z 20,Z 21,Z 22] v1))) ?_;simp only [Tree.holds,zd];refine⟨λh0=> ?_,λh0=> ?_⟩
 ·exact RetR.scal (hq (1,false) ⟨aJ _,by simp,λh=>by cases h⟩) rfl (by simp [resV])
 ·have h0:0<deep:=by have:=aC h0; omega
  refine zb.loop (ι:={q:Nat×Nat // q.1<=limit+1/\q.2<q.1/\q.2<=s.length/\(q.1<=limit->q.1=1+Ex.z6 (s.take q.2))}) (λq=>SCn limit deep q.1.1 q.1.2) (λ_=>boxE k r m d s) (λq=>s.length - q.1.2) ⟨(1,0),by simp [Ex.z6]⟩ 0 ?_ ?_ (by kernel_rfl)
  ·exact⟨by simp [SCn],by simp [boxE,Ex.exS,za],by kernel_rfl,aI _⟩
  ·rintro⟨⟨c,i⟩,h1,h2,h3,h4⟩;simp only at h1 h2 h3 h4;refine zb.n (ve ih) [1,2,3,8,9,20,21,22] (let v2:List Blk:=[.box [.int .u8 k,.str r,.str m,.i d,.sl s.length 5 (Ex.exG s)]];let v1:=s.getD (i:Int).toNat Ex.nil;.ite (bif decide ((i:Int)<s.length) then decide ((c:Int)<=limit) else false) (.side ((0:Int)<=i/\(i:Int)<s.length) (.S ((limit:Int) - c) (.S (deep-1) (.ex (λ(x:Ex×Nat×Nat)=>eqL [.agg [.int .u8 (Ex.kind v1),.str (Ex.rat v1),.str (Ex.name v1),.i (Ex.date v1),.sl (List.length (Ex.sub v1)) 5 (Ex.deep v1)],.i ((limit:Int) - c),.i (deep-1)] [.agg [.int .u8 x.1.kind,.str x.1.rat,.str x.1.name,.i x.1.date,.sl x.1.sub.length 5 (Ex.exG x.1.sub)],.i x.2.1,.i x.2.2]/\Ex.size x.1<n/\x.2.1<1099511627776/\x.2.2<1099511627776) λn=>.all (λ(r:Nat×Bool)=>1<=r.1/\r.1<=n.2.1+1/\(r.2=true->r.1<=n.2.1->r.1=Ex.size n.1)) λn=>.ite (!Prod.snd n) (.R [.i c,.bool false] v2) (.S ((c:Int)+n.1) (.S (i+1) (.leaf (.back 0 [(1,.i limit),(2,.i deep),(3,.ptr 0 0),(8,.i ((c:Int)+n.1)),(9,.i (i+1)),Z 20,Z 21,Z 22] v2)))))))) (.R [.i c,.bool true] v2)) ?_;simp only [Tree.holds,zd,inR,lo,hi,aD];refine⟨λhlt=> ?_,λhge=> ?_⟩
   ·have hlt1:i<s.length/\c<=limit:=by
     by_cases g1:i<s.length
     ·by_cases g2:c<=limit
      ·exact⟨g1,g2⟩
      ·rw [aW (show ¬ (c:Int)<=limit by omega)] at hlt;cases hx:decide ((i:Int)<s.length)<;>rw [hx] at hlt<;>cases hlt
     ·rw [aW (show ¬ (i:Int)<s.length by omega)] at hlt;cases hlt
    obtain⟨hlt,hcl⟩:=hlt1;have hg:=Ex.z4 hlt;have ht:=Ex.xu s i hlt;have h4:=h4 hcl
    iterate 3 refine⟨by omega,λ_=> ?_⟩
    refine⟨(s.getD i Ex.nil,limit - c,deep - 1),⟨?_,by show(s.getD i Ex.nil).size<n; omega,by show limit - c<2^40; omega,by show deep - 1<2^40; omega⟩,⟨(1,false),aJ _,by simp,λh=>by cases h⟩,?_⟩
    ·have e1:(limit:Int) - c=((limit - c:Nat):Int):=by omega
     have e2:(deep:Int) - 1=((deep - 1:Nat):Int):=by omega
     rw [e1,e2];exact⟨⟨⟨rfl,rfl⟩,rfl,rfl,⟨rfl,rfl⟩,⟨rfl,rfl,Ex.zH _⟩,trivial⟩,⟨rfl,rfl⟩,⟨rfl,rfl⟩,trivial⟩
    rintro⟨m',b⟩ ⟨g1,g2,g3⟩;simp only at g1 g2 g3;refine⟨λhb=> ?_,λhb=> ?_⟩
    ·exact RetR.scal (hq (c,false) ⟨by show 1<=c; omega,by show c<=limit+1; omega,λh=>by cases h⟩) rfl (by simp [resV])
    ·have hb:b=true:=by simpa using hb
     refine⟨by omega,λ_=>⟨by omega,λ_=> ?_⟩⟩;rw [aP trivial];refine⟨⟨(c+m',i+1),?_,?_,hlt,?_⟩,by show s.length - (i+1)<s.length - i; omega,?_,by simp [boxE,Ex.exS,za],by kernel_rfl,aI _⟩
     ·show c+m'<=limit+1; omega
     ·show i+1<c+m'; omega
     ·show c+m'<=limit->c+m'=1+Ex.z6 (s.take (i+1));intro hle;have:=g3 hb (by omega);omega
     ·simp [SCn]
   ·refine RetR.scal (hq (c,true) ⟨by show 1<=c; omega,h1,λ_ hle=> ?_⟩) rfl (by simp [resV]);simp only at hle
    have hge:i=s.length:=by
     by_cases g1:i<s.length
     ·rw [aX (show(i:Int)<s.length by omega),aX (show(c:Int)<=limit by omega)] at hge;cases hge
     ·omega
    have h4:=h4 hle;rw [hge,bD] at h4;exact h4
theorem zgo:zc prog 27 (ctrP true (λp:Ex×Nat×Nat=>[p.1.exA,.i (p.2.1:Int),.i (p.2.2:Int)]) (λp=>p.2.1<2^40/\p.2.2<2^40)
 (λp (r:Nat×Bool)=>1<=r.1/\r.1<=p.2.1+1/\(r.2=true->r.1<=p.2.1->r.1=p.1.size)) (λ_ (r:Nat×Bool)=>(.tup [.i (r.1:Int),.bool r.2],[]))):=jC (λp=>p.1.size) U5
def zfn(n:Nat):Ctr:=ctrP true (λx:Ex=>[x.exA]) (λx=>x.size<n/\x.size<2^60/\x.z3<2^60) (λx r=>r=x.z3) (λ_ (r:Nat)=>(.i (r:Int),[]))
def SBy(c i:Nat):KV:=[(1,.ptr 0 0),(3,.i (c:Int)),(4,.i (i:Int))]
theorem YX(n:Nat)(ih:zc prog 28 (zfn n)):zc prog 28 (zfn (n+1)):=by
 refine ze' f28 λx hx O w0 Q hq=> ?_
 replace hq:=hq _ rfl;obtain⟨hxn,hxs,hxb⟩:=hx;rw [Ex.w8] at hq hxb;rw [Ex.size_eq] at hxn hxs;obtain⟨k,r,m,d,s⟩:=x;simp only [Ex.sub,Ex.rat,Ex.name] at hxn hxs hq hxb;refine zb.n (ve ih) [1,3,4] (.S ((r.length:Int)+m.length) (.leaf (.loop (lps K28 0).1 (lps K28 0).2 [(1,.ptr 0 0),(3,.i ((r.length:Int)+m.length)),(4,.i 0)] [.box [.int .u8 k,.str r,.str m,.i d,.sl s.length 5 (Ex.exG s)]]))) ?_;simp only [Tree.holds,zd,inR,lo,hi,aD];have hlen:=Ex.zM s;refine⟨by omega,λ_=> ?_⟩;refine zb.loop (ι:={i:Nat // i<=s.length}) (λi=>SBy (r.length+m.length+Ex.q6 (s.take i.1)) i.1) (λ_=>boxE k r m d s) (λi=>s.length - i.1) ⟨0,aI _⟩ 0 ?_ ?_ (by kernel_rfl)
 ·exact⟨by simp [SBy,Ex.q6],by simp [boxE,Ex.exS,za],by kernel_rfl,aI _⟩
 ·rintro⟨i,hil⟩;have hle:=Ex.xF s i;obtain⟨c,hc⟩:∃ c,r.length+m.length+Ex.q6 (s.take i)=c:=⟨_,rfl⟩;simp only [hc];refine zb.n (ve ih) [1,3,4] (let v2:List Blk:=[.box [.int .u8 k,.str r,.str m,.i d,.sl s.length 5 (Ex.exG s)]];let v1:=s.getD (i:Int).toNat Ex.nil;.D ((i:Int)<s.length) (.side ((0:Int)<=i/\(i:Int)<s.length) (.ex (λ(x:Ex)=>eqL [.agg [.int .u8 (Ex.kind v1),.str (Ex.rat v1),.str (Ex.name v1),.i (Ex.date v1),.sl (List.length (Ex.sub v1)) 5 (Ex.deep v1)]] [.agg [.int .u8 x.kind,.str x.rat,.str x.name,.i x.date,.sl x.sub.length 5 (Ex.exG x.sub)]]/\Ex.size x<n/\Ex.size x<1152921504606846976/\Ex.z3 x<1152921504606846976) λn=>.all (λ(r:Nat)=>r=Ex.z3 n) λn=>.S ((c:Int)+n) (.S (i+1) (.leaf (.back 0 [(1,.ptr 0 0),(3,.i ((c:Int)+n)),(4,.i (i+1))] v2))))) (.R [.i c] v2)) ?_;simp only [Tree.holds,zd,inR,lo,hi,aD];refine⟨λhlt=> ?_,λhge=> ?_⟩
  ·have hlt:i<s.length:=by have:=aB hlt; omega
   have hg:=Ex.z4 hlt;have hg2:=Ex.vP hlt;have ht:=Ex.KT s i hlt;have hle2:=Ex.xF s (i+1);refine⟨by omega,λ_=>⟨s.getD i Ex.nil,⟨wG rfl rfl rfl rfl rfl (Ex.zH _),by omega,by omega,by omega⟩,⟨_,rfl⟩,?_⟩⟩;rintro _ rfl;refine⟨by omega,λ_=>⟨by omega,λ_=> ?_⟩⟩;rw [aP trivial];refine⟨⟨i+1,hlt⟩,by show s.length - (i+1)<s.length - i; omega,?_,by simp [boxE,Ex.exS,za],by kernel_rfl,aI _⟩;simp [SBy,ht]; omega
  ·have hge:i=s.length:=by have:=aC hge; omega
   subst hge;rw [bD] at hc;rw [hc] at hq;exact RetR.scal hq rfl (by simp [resV])
theorem zho:zc prog 28 (ctrP true (λx:Ex=>[x.exA]) (λx=>x.size<2^60/\x.z3<2^60) (λx r=>r=x.z3) (λ_ (r:Nat)=>(.i (r:Int),[]))):=jC Ex.size YX
noncomputable def K99:=Go.Sx.aA f99
noncomputable def K123:=Go.Sx.aA f123
def zfd(n:Nat):Ctr:=ctrP true (λp:Ex×Nat=>[p.1.exA,.i (p.2:Int)]) (λp=>p.1.size<n/\p.1.size<2^62/\p.2<2^40) (λp r=>r=min p.1.depth (p.2+1)) (λ_ (r:Nat)=>(.i (r:Int),[]))
def SDp(s:List Ex)(limit c i:Nat):KV:=[(1,.i (limit:Int)),(5,.i (c:Int)),(11,Ex.exS s),(12,.i (s.length:Int)),(13,.i (i:Int))]
theorem YV(n:Nat)(ih:zc prog 99 (zfd n)):zc prog 99 (zfd (n+1)):=by
 refine ze' f99 λp hp O w0 Q hq=> ?_
 obtain⟨x,limit⟩:=p;obtain⟨hxn,hxs,hli⟩:=hp;replace hq:=hq _ rfl;simp only at hxn hxs hli hq;have hds:=Ex.kC x;have hdp:=Ex.zem x;rw [Ex.vZ] at hq hds hdp;rw [Ex.size_eq] at hxn hxs hds;obtain⟨k,r,m,d,s⟩:=x;simp only [Ex.sub] at hxn hxs hq hds hdp;have hlen:=Ex.zM s;refine zb.n (ve ih) [1,5,11,12,13] (let v1:List Blk:=[.box [.int .u8 k,.str r,.str m,.i d,.sl s.length 5 (Ex.exG s)]];.D ((0:Int)<limit) (.leaf (.loop (lps K99 0).1 (lps K99 0).2 [(1,.i limit),(5,.i 0),(11,.sl s.length 5 (Ex.exG s)),(12,.i s.length),(13,.i 0)] v1)) (.S 1 (.R [.i 1] v1))) ?_;simp only [Tree.holds,zd,inR,lo,hi,aD];refine⟨λhl=> ?_,λhl=> ?_⟩
 ·have hl:0<limit:=by have:=aB hl; omega
  refine zb.loop (ι:={i:Nat // i<=s.length}) (λi=>SDp s limit (min (Ex.zS (s.take i.1)) limit) i.1) (λ_=>[]) (λi=>s.length - i.1) ⟨0,aI _⟩ 0 ?_ ?_ (by kernel_rfl)
  ·exact⟨by simp [SDp,Ex.zS,Ex.exS,za],by simp,by kernel_rfl,aI _⟩
  ·rintro⟨i,hil⟩;obtain⟨c,hc⟩:∃ c,min (Ex.zS (s.take i)) limit=c:=⟨_,rfl⟩;simp only [hc];refine zb.n (ve ih) [1,5,11,12,13] (let v1:=s.getD (i:Int).toNat Ex.nil;.D ((i:Int)<s.length) (.side ((0:Int)<=i/\(i:Int)<s.length) (.S (limit-1) (.ex (λ(x:Ex×Nat)=>eqL [.agg [.int .u8 (Ex.kind v1),.str (Ex.rat v1),.str (Ex.name v1),.i (Ex.date v1),.sl (List.length (Ex.sub v1)) 5 (Ex.deep v1)],.i (limit-1)] [.agg [.int .u8 x.1.kind,.str x.1.rat,.str x.1.name,.i x.1.date,.sl x.1.sub.length 5 (Ex.exG x.1.sub)],.i x.2]/\Ex.size x.1<n/\Ex.size x.1<4611686018427387904/\x.2<1099511627776) λn=>.all (λ(r:Nat)=>r=min n.1.depth (n.2+1)) λn=>.S (i+1) (.leaf (.back 0 [(1,.i limit),(5,.i (max (c:Int) (n:Int))),(11,.sl s.length 5 (Ex.exG s)),(12,.i s.length),(13,.i (i+1))] [.box [.int .u8 (Ex.kind v1),.str (Ex.rat v1),.str (Ex.name v1),.i (Ex.date v1),.sl (List.length (Ex.sub v1)) 5 (Ex.deep v1)]]))))) (.S (c+1) (.R [.i (c+1)] []))) ?_;simp only [Tree.holds,zd,inR,lo,hi,aD];refine⟨λhlt=> ?_,λhge=> ?_⟩
   ·have hlt:i<s.length:=by have:=aB hlt; omega
    have hg:=Ex.z4 hlt;have ht:=Ex.kj s i hlt;refine⟨by omega,λ_=>⟨by omega,λ_=>⟨(s.getD i Ex.nil,limit - 1),⟨?_,by show(s.getD i Ex.nil).size<n; omega,by show(s.getD i Ex.nil).size<2^62; omega,by show limit - 1<2^40; omega⟩,⟨_,rfl⟩,?_⟩⟩⟩
    ·have e1:(limit:Int) - 1=((limit - 1:Nat):Int):=by omega
     rw [e1];exact⟨⟨⟨rfl,rfl⟩,rfl,rfl,⟨rfl,rfl⟩,⟨rfl,rfl,Ex.zH _⟩,trivial⟩,⟨rfl,rfl⟩,trivial⟩
    rintro _ rfl;refine⟨by omega,λ_=> ?_⟩;rw [aP trivial];refine⟨⟨i+1,hlt⟩,by show s.length - (i+1)<s.length - i; omega,?_,by simp,by kernel_rfl,aI _⟩;simp [SDp,ht,Ex.exS,za]; omega
   ·have hge:i=s.length:=by have:=aC hge; omega
    subst hge;rw [bD] at hc;refine⟨by omega,λ_=> ?_⟩;exact RetR.scal hq rfl (by simp [resV]; omega)
 ·have hl:limit=0:=by have:=aC hl; omega
  refine⟨by decide,λ_=> ?_⟩;exact RetR.scal hq rfl (by simp [resV]; omega)
theorem zjl:zc prog 99 (ctrP true (λp:Ex×Nat=>[p.1.exA,.i (p.2:Int)]) (λp=>p.1.size<2^62/\p.2<2^40) (λp r=>r=min p.1.depth (p.2+1)) (λ_ (r:Nat)=>(.i (r:Int),[]))):=jC (λp=>p.1.size) YV
def zar(n:Nat):Ctr:=ctrP true (λx:Ex=>[x.exA]) (λx=>x.size<n/\x.size<2^62) (λx r=>r=x.depth) (λ_ (r:Nat)=>(.i (r:Int),[]))
def SDr(c i:Nat):KV:=[(1,.ptr 0 0),(3,.i (c:Int)),(4,.i (i:Int))]
theorem X6(n:Nat)(ih:zc prog 123 (zar n)):zc prog 123 (zar (n+1)):=by
 refine ze' f123 λx hx O w0 Q hq=> ?_
 replace hq:=hq _ rfl;obtain⟨hxn,hxs⟩:=hx;have hds:=Ex.kC x;rw [Ex.vZ] at hq hds;rw [Ex.size_eq] at hxn hxs hds;obtain⟨k,r,m,d,s⟩:=x;simp only [Ex.sub] at hxn hxs hq hds;refine zb.n (ve ih) [1,3,4] (.leaf (.loop (lps K123 0).1 (lps K123 0).2 [(1,.ptr 0 0),(3,.i 0),(4,.i 0)] [.box [.int .u8 k,.str r,.str m,.i d,.sl s.length 5 (Ex.exG s)]])) ?_;simp only [Tree.holds,zd];have hlen:=Ex.zM s;refine zb.loop (ι:={i:Nat // i<=s.length}) (λi=>SDr (Ex.zS (s.take i.1)) i.1) (λ_=>boxE k r m d s) (λi=>s.length - i.1) ⟨0,aI _⟩ 0 ?_ ?_ (by kernel_rfl)
 ·exact⟨by simp [SDr,Ex.zS],by simp [boxE,Ex.exS,za],by kernel_rfl,aI _⟩
 ·rintro⟨i,hil⟩;obtain⟨c,hc⟩:∃ c,Ex.zS (s.take i)=c:=⟨_,rfl⟩;simp only [hc];refine zb.n (ve ih) [1,3,4] (let v2:List Blk:=[.box [.int .u8 k,.str r,.str m,.i d,.sl s.length 5 (Ex.exG s)]];let v1:=s.getD (i:Int).toNat Ex.nil;.D ((i:Int)<s.length) (.side ((0:Int)<=i/\(i:Int)<s.length) (.ex (λ(x:Ex)=>eqL [.agg [.int .u8 (Ex.kind v1),.str (Ex.rat v1),.str (Ex.name v1),.i (Ex.date v1),.sl (List.length (Ex.sub v1)) 5 (Ex.deep v1)]] [.agg [.int .u8 x.kind,.str x.rat,.str x.name,.i x.date,.sl x.sub.length 5 (Ex.exG x.sub)]]/\Ex.size x<n/\Ex.size x<4611686018427387904) λn=>.all (λ(r:Nat)=>r=Ex.depth n) λn=>.S (i+1) (.leaf (.back 0 [(1,.ptr 0 0),(3,.i (max (c:Int) (n:Int))),(4,.i (i+1))] v2)))) (.S (c+1) (.R [.i (c+1)] v2))) ?_;simp only [Tree.holds,zd,inR,lo,hi,aD];refine⟨λhlt=> ?_,λhge=> ?_⟩
  ·have hlt:i<s.length:=by have:=aB hlt; omega
   have hg:=Ex.z4 hlt;have ht:=Ex.kj s i hlt;refine⟨by omega,λ_=>⟨s.getD i Ex.nil,⟨wG rfl rfl rfl rfl rfl (Ex.zH _),by omega,by omega⟩,⟨_,rfl⟩,?_⟩⟩;rintro _ rfl;refine⟨by omega,λ_=> ?_⟩;rw [aP trivial];refine⟨⟨i+1,hlt⟩,by show s.length - (i+1)<s.length - i; omega,?_,by simp [boxE,Ex.exS,za],by kernel_rfl,aI _⟩;simp [SDr,ht,hc]; omega
  ·have hge:i=s.length:=by have:=aC hge; omega
   subst hge;rw [bD] at hc;subst hc;refine⟨by omega,λ_=> ?_⟩;exact RetR.scal hq rfl (by simp [resV]; omega)
theorem zd6:zc prog 123 (ctrP true (λx:Ex=>[x.exA]) (λx=>x.size<2^62) (λx r=>r=x.depth) (λ_ (r:Nat)=>(.i (r:Int),[]))):=jC Ex.size X6
noncomputable def K61:=Go.Sx.aA f61
def zgj:Ctr:=ctrP true (λp:Ex×Nat×Nat=>[p.1.exA,.i (p.2.1:Int),.i (p.2.2:Int)]) (λp=>p.2.1<2^40/\p.2.2<2^40)
 (λp (r:Nat×Bool)=>1<=r.1/\r.1<=p.2.1+1/\(r.2=true->r.1<=p.2.1->r.1=p.1.size)) (λ_ (r:Nat×Bool)=>(.tup [.i (r.1:Int),.bool r.2],[]))
def zgw:Ctr:=ctrP true (λx:Ex=>[x.exA]) (λx=>x.size<2^60/\x.z3<2^60) (λx r=>r=x.z3) (λ_ (r:Nat)=>(.i (r:Int),[]))
def zj2:Ctr:=ctrP true (λx:Ex=>[x.exA]) (λx=>x.thin) (λx r=>r=false->x.size<=600/\x.z3<=3000) (λ_ (r:Bool)=>(.bool r,[]))
noncomputable def GGt:=tb zgo (tb zho tz)
theorem zct:zc prog 6 zj2:=by
 refine ze' f6 λx hx O w0 Q hq=> ?_
 have hb:=Ex.Ww x hx;obtain⟨k,r,m,d,s⟩:=x;refine zb.n GGt.h [] (let v1:=[AV.int .u8 k,AV.str r,AV.str m,AV.i d,AV.sl s.length 5 (Ex.exG s)];.ex (λ(x:Ex×Nat×Nat)=>eqL [.agg v1,.i 600,.i 100] [.agg [.int .u8 x.1.kind,.str x.1.rat,.str x.1.name,.i x.1.date,.sl x.1.sub.length 5 (Ex.exG x.1.sub)],.i x.2.1,.i x.2.2]/\x.2.1<1099511627776/\x.2.2<1099511627776) λn=>.all (λ(r:Nat×Bool)=>1<=r.1/\r.1<=n.2.1+1/\(r.2=true->r.1<=n.2.1->r.1=Ex.size n.1)) λn=>.ex (λ(x:Ex)=>(bif !Prod.snd n then true else decide ((600:Int)<n.1))=false->eqL [.agg v1] [.agg [.int .u8 x.kind,.str x.rat,.str x.name,.i x.date,.sl x.sub.length 5 (Ex.exG x.sub)]]/\Ex.size x<1152921504606846976/\Ex.z3 x<1152921504606846976) λn_1=>.all (λ(x:Nat)=>(bif !Prod.snd n then true else decide ((600:Int)<n.1))=false->x=Ex.z3 n_1) λn_2=>.R [.bool (bif bif !Prod.snd n then true else decide ((600:Int)<n.1) then true else decide ((3000:Int)<n_2))] [.box [.int .u8 k,.str r,.str m,.i d,.sl s.length 5 (Ex.exG s)]]) ?_;simp only [Tree.holds,zd,inR,lo,hi,aD];refine⟨(.mk k r m d s,600,100),⟨⟨⟨⟨rfl,rfl⟩,rfl,rfl,⟨rfl,rfl⟩,⟨rfl,rfl,za _ _ _⟩,trivial⟩,⟨rfl,rfl⟩,⟨rfl,rfl⟩,trivial⟩,by show 600<1099511627776; omega,by show 100<1099511627776; omega⟩,⟨(1,false),aJ _,by show 1<=600+1; omega,λh=>by cases h⟩,?_⟩;rintro⟨c,b⟩ ⟨g1,g2,g3⟩;simp only at g1 g2 g3
 have hsz:(bif !b then true else decide (600<(c:Int)))=false->(Ex.mk k r m d s).size<=600:=by
  intro h;cases b with
  | false=>cases h
  | true=>
   have h:¬ 600<(c:Int):=aC h;have:=g3 rfl (by omega);omega
 refine⟨.mk k r m d s,λh=>⟨⟨⟨⟨rfl,rfl⟩,rfl,rfl,⟨rfl,rfl⟩,⟨rfl,rfl,za _ _ _⟩,trivial⟩,trivial⟩,by have:=hsz h; omega,by have:=hsz h; omega⟩,⟨_,λ_=>rfl⟩,?_⟩;intro c2 hc2;refine RetR.scal (hq (bif (bif !b then true else decide (600<(c:Int))) then true else decide (3000<(c2:Int))) λh=> ?_) rfl (by simp [resV]);cases ht:(bif !b then true else decide (600<(c:Int))) with
 | true=>rw [ht] at h; cases h
 | false=>
  rw [ht] at h;have h2:=hc2 ht;have h:¬ 3000<(c2:Int):=aC h;exact⟨hsz ht,by omega⟩
def zni:Ctr:=ctrP true (λx:Ex=>[x.exA]) (λx=>x.rat.length<2^40/\x.name.length<2^40) (λx r=>r=bif qy x.kind x.rat x.name x.date x.sub.length then 1 else 0) (λ_ (r:Int)=>(.int .u8 r,[]))
noncomputable def GLf:=tb Z8 (tb zat (tb Zw tz))
theorem zmk:zc prog 100 zni:=by
 refine ze' f100 λx hx O w0 Q hq=> ?_
 obtain⟨k,r,m,d,s⟩:=x;replace hq:=hq _ rfl;obtain⟨h1,h2⟩:=hx;simp only [Ex.rat,Ex.name,Ex.kind,Ex.date,Ex.sub] at h1 h2 hq;refine zb.n GLf.h [] (let v2:=r=#[].toList;let v1:List Blk:=[.box [.int .u8 k,.str r,.str m,.i d,.sl s.length 5 (Ex.exG s)]];let v4:wi:=.ret [.int .u8 1] v1;let v3:wi:=.ret [.int .u8 0] v1;.D (k=1) (.ex (λ(x:L8)=>decide ((s.length:Int)=0)=true->q15 [.str r] x) λn=>.all (λ(x:Int)=>decide ((s.length:Int)=0)=true->x=errR n) λn=>.ite (!bif bif bif decide ((s.length:Int)=0) then decide (n=0) else false then decide (m=#[].toList) else false then decide (d=0) else false) (.leaf v3) (.leaf v4)) (.D (k=2) (.ex (λ(x:L8)=>(bif decide ((s.length:Int)=0) then decide v2 else false)=true->q15 [.str m] x) λn=>.all (λ(x:Bool)=>(bif decide ((s.length:Int)=0) then decide v2 else false)=true->x=zY n) λn=>.ex (λ(x:Int)=>(bif bif decide ((s.length:Int)=0) then decide v2 else false then n else false)=true->q41 [.i d] x) λn_1=>.all (λ(x:Bool)=>(bif bif decide ((s.length:Int)=0) then decide v2 else false then n else false)=true->x=dayB n_1) λn_2=>.ite (!bif bif bif decide ((s.length:Int)=0) then decide v2 else false then n else false then n_2 else false) (.leaf v3) (.leaf v4)) (.D (k=3) (.ex (λ(x:L8)=>(bif decide ((s.length:Int)=0) then decide v2 else false)=true->q15 [.str m] x) λn=>.all (λ(x:Bool)=>(bif decide ((s.length:Int)=0) then decide v2 else false)=true->x=zY n) λn=>.ite (!bif bif bif decide ((s.length:Int)=0) then decide v2 else false then n else false then decide (d=0) else false) (.leaf v3) (.leaf v4)) (.ite true (.leaf v3) (.leaf v4))))) ?_;simp only [q15,q41,Tree.holds,zd,inR,lo,hi,aD]
 have fin:∀ T:Bool,T=qy k r m d s.length->((!T)=true->Q (.int .u8 0,[]))/\((!T)=false->Q (.int .u8 1,[])):=by
  intro T hT;subst hT;cases hl:qy k r m d s.length with
  | true=>rw [hl] at hq; exact⟨λh=>(by cases h),λ_=>hq⟩
  | false=>rw [hl] at hq; exact⟨λ_=>hq,λh=>(by cases h)⟩
 refine⟨λhk=> ?_,λhk=> ?_⟩
 ·have hk:k=1:=aB hk;refine⟨r,λ_=>⟨by simp,by omega⟩,⟨_,λ_=>rfl⟩,?_⟩;intro e he
  have F:=fin (bif bif bif decide ((s.length:Int)=0) then decide (e=0) else false then decide (m=[]) else false then decide (d=0) else false) (by
   by_cases hl:s.length=0
   ·have:=he (by simp [hl]);subst this;simp [qy,hk,hl,Bool.and_assoc]
   ·simp [qy,hl])
  exact⟨λh=>RetR.scal (F.1 h) rfl (by simp [resV]),λh=>RetR.scal (F.2 h) rfl (by simp [resV])⟩
 ·have hk1:k≠1:=aC hk;refine⟨λhk=> ?_,λhk=> ?_⟩
  ·have hk:k=2:=aB hk;refine⟨m,λ_=>⟨by simp,by omega⟩,⟨_,λ_=>rfl⟩,?_⟩;intro e he;refine⟨d,λ_=>⟨by simp,trivial⟩,⟨_,λ_=>rfl⟩,?_⟩;intro f hf
   have F:=fin (bif bif bif decide ((s.length:Int)=0) then decide (r=[]) else false then e else false then f else false) (by
    by_cases hl:s.length=0
    ·by_cases hr:r=[]
     ·have:=he (by simp [hl,hr]);subst this;cases hn:zY m with
      | true=>
       have:=hf (by simp [hl,hr,hn]);subst this;simp [qy,hk,hl,hr,hn]
      | false=>simp [qy,hk,hl,hr,hn]
     ·simp [qy,hk,hl,hr]
    ·simp [qy,hl])
   exact⟨λh=>RetR.scal (F.1 h) rfl (by simp [resV]),λh=>RetR.scal (F.2 h) rfl (by simp [resV])⟩
  ·have hk2:k≠2:=aC hk;refine⟨λhk=> ?_,λhk=> ?_⟩
   ·have hk:k=3:=aB hk;refine⟨m,λ_=>⟨by simp,by omega⟩,⟨_,λ_=>rfl⟩,?_⟩;intro e he
    have F:=fin (bif bif bif decide ((s.length:Int)=0) then decide (r=[]) else false then e else false then decide (d=0) else false) (by
     by_cases hl:s.length=0
     ·by_cases hr:r=[]
      ·have:=he (by simp [hl,hr]);subst this;simp [qy,hk,hl,hr]
      ·simp [qy,hk,hl,hr]
     ·simp [qy,hl])
    exact⟨λh=>RetR.scal (F.1 h) rfl (by simp [resV]),λh=>RetR.scal (F.2 h) rfl (by simp [resV])⟩
   ·have hk3:k≠3:=aC hk;have F:=fin false (by simp [qy,hk1,hk2,hk3]);exact⟨λh=>RetR.scal (F.1 rfl) rfl (by simp [resV]),λh=>by cases h⟩
def SSo(s:List Ex)(i:Nat):KV:=[(3,.ptr 1 0),(41,Ex.exS s),(42,.i (s.length:Int)),(43,.i (i:Int))]
def HSo(k:Int):Heap:=[.dead,.box [.sl (j9 k) 1 λj _=>.int .u8 (qL k j),.int .u8 (jk k)]]
def zci(n:Nat):Ctr:=ctrP true (λx:Ex=>[x.exA]) (λx=>x.size<n/\x.size<2^60/\x.z3<2^40) (λx r=>r=x.zu) (λ_ (r:Int)=>(.int .u8 r,[]))
def GSo(n:Nat):Nat->Option Ctr:=λf=>if f=61 then some (zci n) else if f=100 then some zni else none
theorem zj9{n:Nat}(h:zc prog 61 (zci n)):∀ f c,GSo n f=some c->zc prog f c:=by
 intro f c hf;simp only [GSo] at hf;split at hf
 ·rename_i hg; subst hg; cases hf; exact h
 ·split at hf
  ·rename_i hg; subst hg; cases hf; exact zmk
  ·cases hf
abbrev q48(A:List AV)(x:Ex):Prop:=eqL A [.agg [.int .u8 x.kind,.str x.rat,.str x.name,.i x.date,.sl x.sub.length 5 (Ex.exG x.sub)]]/\x.rat.length<1099511627776/\x.name.length<1099511627776
theorem zd9(n:Nat)(ih:zc prog 61 (zci n)):zc prog 61 (zci (n+1)):=by
 refine ze' f61 λx hx O w0 Q hq=> ?_
 replace hq:=hq _ rfl;obtain⟨hxn,hxs,hxb⟩:=hx;rw [Ex.size_eq] at hxn hxs;rw [Ex.w8] at hxb;rw [Ex.uO] at hq;obtain⟨k,r,m,d,s⟩:=x;simp only [Ex.sub,Ex.rat,Ex.name,Ex.kind,Ex.date] at hxn hxs hq hxb;refine zb.n (zj9 ih) [3,41,42,43] (let v3:List (Nat×AV):=[(3,.ptr 1 0),(41,.sl s.length 5 (Ex.exG s)),(42,.i s.length),(43,.i 0)];let v2:=q48 [.agg [.int .u8 k,.str r,.str m,.i d,.sl s.length 5 (Ex.exG s)]];let v1:List AV:=[.int .u8 k,.str r,.str m,.i d,.sl s.length 5 (Ex.exG s)];let v4:List Blk:=[.box v1,.box [.nils,.int .u8 0]];.ite (js k) (.ite false (.ex v2 λn=>.all (λ(r:Int)=>r=bif qy n.kind n.rat n.name n.date n.sub.length then(1:Int) else(0:Int)) λn=>.R [.int .u8 n] [.box v1,.box [.sl (j9 k) 1 λ(j x:Nat)=>.int .u8 (qL k j),.int .u8 (jk k)]]) (.ite (bif bif bif !decide ((s.length:Int)=(↑(j9 k):Int)) then true else !decide (r=#[].toList) then true else !decide (m=#[].toList) then true else !decide (d=0)) (.R [.int .u8 0] [.box v1,.box [.sl (j9 k) 1 λ(j x:Nat)=>.int .u8 (qL k j),.int .u8 (jk k)]]) (.leaf (.loop (lps K61 0).1 (lps K61 0).2 v3 [.box v1,.box [.sl (j9 k) 1 λ(j x:Nat)=>.int .u8 (qL k j),.int .u8 (jk k)]])))) (.ite true (.ex v2 λn=>.all (λ(r:Int)=>r=bif qy n.kind n.rat n.name n.date n.sub.length then(1:Int) else(0:Int)) λn=>.R [.int .u8 n] v4) (.ite (bif bif bif !decide ((s.length:Int)=0) then true else !decide (r=#[].toList) then true else !decide (m=#[].toList) then true else !decide (d=0)) (.R [.int .u8 0] v4) (.leaf (.loop (lps K61 0).1 (lps K61 0).2 v3 v4))))) ?_;simp only [q48,Tree.holds,zd,inR,lo,hi,aD];refine⟨λhk=>⟨λh=>(by cases h),λ_=>⟨λh=> ?_,λh=> ?_⟩⟩,λhk=> ?_⟩
 ·have hn:¬ (r=[]/\m=[]/\d=0/\Ex.qS s=jn k):=by
   rintro⟨rfl,rfl,rfl,h4⟩;have:s.length=j9 k:=by rw [<- Ex.jz,h4]; rfl
   simp [this] at h
  have e:jP k r m d (Ex.qS s)=0:=by unfold jP; rw [aP hk,aO hn]
  exact RetR.scal hq rfl (by simp [resV,e])
 ·have hh:s.length=j9 k/\r=[]/\m=[]/\d=0:=by
   simp at h;obtain⟨⟨⟨h1,h2⟩,h3⟩,h4⟩:=h;exact⟨by omega,h2,h3,h4⟩
  obtain⟨hl,rfl,rfl,rfl⟩:=hh;have hlen:=Ex.zM s;have e1:jP k [] [] 0 (Ex.qS s)=if Ex.qS s=jn k then jk k else 0:=by unfold jP; rw [aP hk]; simp
  rw [e1] at hq;clear h e1;refine zb.loop (ι:={i:Nat // i<=s.length/\∀ j,j<i->(s.getD j Ex.nil).zu=qL k j}) (λi=>SSo s i.1) (λ_=>HSo k) (λi=>s.length - i.1) ⟨0,aI _,λj hj=>by omega⟩ 0 ?_ ?_ (by kernel_rfl)
  ·exact⟨by simp [SSo,Ex.exS,za],by simp [HSo,za],by kernel_rfl,aI _⟩
  ·rintro⟨i,hil,hib⟩;refine zb.n (zj9 ih) [3,41,42,43] (let v1:=s.getD (i:Int).toNat Ex.nil;let v2:List AV:=[.int .u8 (Ex.kind v1),.str (Ex.rat v1),.str (Ex.name v1),.i (Ex.date v1),.sl (List.length (Ex.sub v1)) 5 (Ex.deep v1)];.D ((i:Int)<s.length) (.side ((0:Int)<=i/\(i:Int)<s.length) (.side ((0:Int)<=i/\(i:Int)<(↑(j9 k):Int)) (.ex (λ(x:Ex)=>eqL [.agg [.int .u8 (Ex.kind v1),.str (Ex.rat v1),.str (Ex.name v1),.i (Ex.date v1),.sl (List.length (Ex.sub v1)) 5 (Ex.deep v1)]] [.agg [.int .u8 x.kind,.str x.rat,.str x.name,.i x.date,.sl x.sub.length 5 (Ex.exG x.sub)]]/\Ex.size x<n/\Ex.size x<1152921504606846976/\Ex.z3 x<1099511627776) λn=>.all (λ(r:Int)=>r=Ex.zu n) λn=>.N (n=qL k (i:Int).toNat) (.R [.int .u8 0] [.dead,.box [.sl (j9 k) 1 λ(j x:Nat)=>.int .u8 (qL k j),.int .u8 (jk k)],.box v2]) (.S (i+1) (.leaf (.back 0 [(3,.ptr 1 0),(41,.sl s.length 5 (Ex.exG s)),(42,.i s.length),(43,.i (i+1))] [.dead,.box [.sl (j9 k) 1 λ(j x:Nat)=>.int .u8 (qL k j),.int .u8 (jk k)],.box v2])))))) (.R [.int .u8 (jk k)] [.dead,.box [.sl (j9 k) 1 λ(j x:Nat)=>.int .u8 (qL k j),.int .u8 (jk k)]])) ?_;simp only [Tree.holds,zd,inR,lo,hi,aD];refine⟨λhlt=> ?_,λhge=> ?_⟩
   ·have hlt:i<s.length:=by have:=aB hlt; omega
    have hg:=Ex.z4 hlt;have hg2:=Ex.vP hlt;have hb0:Ex.q6 s<2^40:=by simpa using hxb
    refine⟨by omega,λ_=>⟨by omega,λ_=>⟨s.getD i Ex.nil,⟨wG rfl rfl rfl rfl rfl (Ex.zH _),by omega,by omega,by omega⟩,⟨_,rfl⟩,?_⟩⟩⟩;intro e he;refine⟨λh=> ?_,λh=>⟨by omega,λ_=> ?_⟩⟩
    ·have hne:¬ Ex.qS s=jn k:=by
      intro h2;have:=(Ex.uk.1 h2).2 i hlt;rw [<- he] at this;have h3:¬ e=qL k i:=by simpa using h
      exact h3 this
     rw [aO hne] at hq;exact RetR.scal hq rfl (by simp [resV])
    ·rw [aP trivial];have h3:e=qL k i:=by simpa using h
     refine⟨⟨i+1,hlt,λj hj=> ?_⟩,by show s.length - (i+1)<s.length - i; omega,by simp [SSo,Ex.exS,za],by simp [HSo,za],by kernel_rfl,aI _⟩;rcases aR j i with h1 | h1
     ·exact hib j h1
     ·have:j=i:=by omega
      rw [this,<- he,h3]
   ·have hge:i=s.length:=by have:=aC hge; omega
    subst hge;have:Ex.qS s=jn k:=Ex.uk.2 ⟨hl,hib⟩;rw [aP this] at hq;exact RetR.scal hq rfl (by simp [resV])
 ·refine⟨λ_=> ?_,λh=>(by cases h)⟩;refine⟨.mk k r m d s,⟨⟨⟨⟨rfl,rfl⟩,rfl,rfl,⟨rfl,rfl⟩,⟨rfl,rfl,za _ _ _⟩,trivial⟩,trivial⟩,by show r.length<_; omega,by show m.length<_; omega⟩,⟨_,rfl⟩,?_⟩;intro e he
  have e1:jP k r m d (Ex.qS s)=e:=by
   unfold jP;rw [aO (by rw [hk]; decide),he,Ex.jz];show _=bif qy k r m d s.length then 1 else 0
   cases qy k r m d s.length<;>rfl
  rw [e1] at hq;exact RetR.scal hq rfl (by simp [resV])
def Kq:Ctr:=ctrP true (λx:Ex=>[x.exA]) (λx=>x.size<2^60/\x.z3<2^40) (λx r=>r=x.zu) (λ_ (r:Int)=>(.int .u8 r,[]))
theorem zap:zc prog 61 Kq:=jC Ex.size zd9
noncomputable def K87:=Go.Sx.aA f87
def JC(n:Nat):Ctr:=ctrP true (λx:Ex=>[x.exA]) (λx=>x.size<n/\x.size<2^40/\x.z3<2^40) (λx r=>r=x.zu) (λ_ (r:Int)=>(.i r,[]))
def GRs(n:Nat):Nat->Option Ctr:=λf=>if f=87 then some (JC n) else if f=124 then some Zd else if f=125 then some ZS else if f=89 then some kA else none
theorem zhh{n:Nat}(h:zc prog 87 (JC n)):∀ f c,GRs n f=some c->zc prog f c:=by
 intro f c hf;simp only [GRs] at hf;by_cases hg:f=87
 ·subst hg; rw [aP rfl] at hf; cases hf; exact h
 rw [aO hg] at hf;by_cases hg:f=124
 ·subst hg; rw [aP rfl] at hf; cases hf; exact uc
 rw [aO hg] at hf;by_cases hg:f=125
 ·subst hg; rw [aP rfl] at hf; cases hf; exact XC
 rw [aO hg] at hf;by_cases hg:f=89
 ·subst hg; rw [aP rfl] at hf; cases hf; exact VC
 rw [aO hg] at hf;cases hf
def SRs(b:Bool)(i:Nat):KV:=[(1,.ptr 0 0),(3,.bool b),(4,.osl 1 1 0 i),(5,.i (i:Int)),Z 43,Z 44,Z 47,Z 48,Z 49,Z 52,Z 53,Z 54,Z 57,Z 58,Z 59,Z 60,Z 67,Z 68,Z 71,Z 72,Z 73,Z 76,Z 77,Z 78,Z 81,Z 82,Z 83,Z 90,Z 91,Z 94,Z 95,Z 96,Z 99,Z 100,Z 101,Z 104,Z 105,Z 106,Z 113,Z 114,Z 115,Z 118,Z 121,Z 122,Z 125,Z 126,Z 127,Z 128,Z 131,Z 132,Z 133,Z 134,Z 141,Z 144,Z 145,Z 148,Z 149,Z 150,Z 151,Z 154,Z 155,Z 156,Z 157,Z 160,Z 161,Z 162,Z 163,Z 170,Z 171,Z 172,Z 175,Z 178,Z 179,Z 182,Z 183,Z 184,Z 185,Z 188,Z 189,Z 190,Z 191,Z 198,Z 199,Z 200,Z 203,Z 206,Z 207,Z 210,Z 211,Z 212,Z 213,Z 216,Z 217,Z 218,Z 219,Z 226,Z 229,Z 230,Z 233,Z 234,Z 235,Z 236]
def HRs(k:Int)(r m:L8)(d:Int)(s:List Ex)(l:List Int)(i:Nat):Heap:=[.box [.int .u8 k,.str r,.str m,.i d,Ex.exS s],.arr i 1 (intG l)]
theorem zeo{l:List Int}{v:Int}{i:Nat}(hl:l.length=i):eqG (i+1) 1 (appG i (intG l) (zf (zg 1 [.i v]) 0)) (intG (l++[v])):=by
 subst hl;intro j o hj ho;simp only [appG,zf,zg,intG];by_cases h:j<l.length
 ·rw [aP h]; simp [List.getD,bL h]
 ·have:j=l.length:=by omega
  subst this;have:o=0:=by omega
  subst this;rw [aO h]; simp [List.getD]
theorem Un(n:Nat)(ih:zc prog 87 (JC n)):zc prog 87 (JC (n+1)):=by
 refine ze' f87 λx hx O w0 Q hq=> ?_
 replace hq:=hq _ rfl;obtain⟨hxn,hxs,hxb⟩:=hx;rw [Ex.size_eq] at hxn hxs;rw [Ex.w8] at hxb;rw [Ex.uO] at hq;obtain⟨k,r,m,d,s⟩:=x;simp only [Ex.sub,Ex.rat,Ex.name,Ex.kind,Ex.date] at hxn hxs hq hxb;have hlen:=Ex.zM s;refine zb.n (zhh ih) [1,3,4,5,43,44,47,48,49,52,53,54,57,58,59,60,67,68,71,72,73,76,77,78,81,82,83,90,91,94,95,96,99,100,101,104,105,106,113,114,115,118,121,122,125,126,127,128,131,132,133,134,141,144,145,148,149,150,151,154,155,156,157,160,161,162,163,170,171,172,175,178,179,182,183,184,185,188,189,190,191,198,199,200,203,206,207,210,211,212,213,216,217,218,219,226,229,230,233,234,235,236] (.leaf (.loop (lps K87 0).1 (lps K87 0).2 [(1,.ptr 0 0),(3,.bool (bif bif decide (r=#[].toList) then decide (m=#[].toList) else false then decide (d=0) else false)),(4,.nils),(5,.i 0),Z 43,Z 44,Z 47,Z 48,Z 49,Z 52,Z 53,Z 54,Z 57,Z 58,Z 59,Z 60,Z 67,Z 68,Z 71,Z 72,Z 73,Z 76,Z 77,Z 78,Z 81,Z 82,Z 83,Z 90,Z 91,Z 94,Z 95,Z 96,Z 99,Z 100,Z 101,Z 104,Z 105,Z 106,Z 113,Z 114,Z 115,Z 118,Z 121,Z 122,Z 125,Z 126,Z 127,Z 128,Z 131,Z 132,Z 133,Z 134,Z 141,Z 144,Z 145,Z 148,Z 149,Z 150,Z 151,Z 154,Z 155,Z 156,Z 157,Z 160,Z 161,Z 162,Z 163,Z 170,Z 171,Z 172,Z 175,Z 178,Z 179,Z 182,Z 183,Z 184,Z 185,Z 188,Z 189,Z 190,Z 191,Z 198,Z 199,Z 200,Z 203,Z 206,Z 207,Z 210,Z 211,Z 212,Z 213,Z 216,Z 217,Z 218,Z 219,Z 226,Z 229,Z 230,Z 233,Z 234,Z 235,Z 236] [.box [.int .u8 k,.str r,.str m,.i d,.sl s.length 5 (Ex.exG s)]])) ?_;simp only [Tree.holds,zd];refine zb.bear 4 1 (intG []) rfl (by decide) (by kernel_rfl) ?_;refine zb.loop (ι:={i:Nat // i<=s.length}) (λi=>SRs (yA r m d) i.1) (λi=>HRs k r m d s (Ex.qS (s.take i.1)) i.1) (λi=>s.length - i.1) ⟨0,aI _⟩ 0 ?_ ?_ (by kernel_rfl)
 ·exact⟨by simp [SRs,yc,yA],by simp [HRs,Ex.exS,Ex.qS,za],by kernel_rfl,aI _⟩
 ·rintro⟨i,hil⟩;obtain⟨b,hb⟩:∃ b,yA r m d=b:=⟨_,rfl⟩;obtain⟨l,hl⟩:∃ l,Ex.qS (s.take i)=l:=⟨_,rfl⟩;have hll:l.length=i:=by rw [<- hl,Ex.jz,aH]; omega
  simp only [hb,hl];refine zb.n (zhh ih) [1,3,4,5,43,44,47,48,49,52,53,54,57,58,59,60,67,68,71,72,73,76,77,78,81,82,83,90,91,94,95,96,99,100,101,104,105,106,113,114,115,118,121,122,125,126,127,128,131,132,133,134,141,144,145,148,149,150,151,154,155,156,157,160,161,162,163,170,171,172,175,178,179,182,183,184,185,188,189,190,191,198,199,200,203,206,207,210,211,212,213,216,217,218,219,226,229,230,233,234,235,236] (let v8:=l.getD 1 (0:Int)=1;let v7:=l.getD 0 (0:Int)=1;let v6:List AV:=[.int .u8 k,.str r,.str m,.i d,.sl s.length 5 (Ex.exG s)];let v5:=r=#[].toList;let v3:=l.getD 0 (0:Int)=2;let v2:=s.getD (i:Int).toNat Ex.nil;let v1:List Blk:=[.box v6,.arr i 1 (intG l)];let v9:wi:=.ret [.i 2] v1;let v4:wi:=.ret [.i 1] v1;.D ((i:Int)<s.length) (.side ((0:Int)<=i/\(i:Int)<s.length) (.ex (λ(x:Ex)=>eqL [.agg [.int .u8 (Ex.kind v2),.str (Ex.rat v2),.str (Ex.name v2),.i (Ex.date v2),.sl (List.length (Ex.sub v2)) 5 (Ex.deep v2)]] [.agg [.int .u8 x.kind,.str x.rat,.str x.name,.i x.date,.sl x.sub.length 5 (Ex.exG x.sub)]]/\Ex.size x<n/\Ex.size x<1099511627776/\Ex.z3 x<1099511627776) λn=>.all (λ(r:Int)=>r=Ex.zu n) λn=>.side (0=0/\i<=i/\(i+1)*8<=140737488355328) (.S (i+1) (.leaf (.back 0 [(1,.ptr 0 0),(3,.bool b),(4,.osl 1 1 0 (i+1)),(5,.i (i+1)),Z 43,Z 44,Z 47,Z 48,Z 49,Z 52,Z 53,Z 54,Z 57,Z 58,Z 59,Z 60,Z 67,Z 68,Z 71,Z 72,Z 73,Z 76,Z 77,Z 78,Z 81,Z 82,Z 83,Z 90,Z 91,Z 94,Z 95,Z 96,Z 99,Z 100,Z 101,Z 104,Z 105,Z 106,Z 113,Z 114,Z 115,Z 118,Z 121,Z 122,Z 125,Z 126,Z 127,Z 128,Z 131,Z 132,Z 133,Z 134,Z 141,Z 144,Z 145,Z 148,Z 149,Z 150,Z 151,Z 154,Z 155,Z 156,Z 157,Z 160,Z 161,Z 162,Z 163,Z 170,Z 171,Z 172,Z 175,Z 178,Z 179,Z 182,Z 183,Z 184,Z 185,Z 188,Z 189,Z 190,Z 191,Z 198,Z 199,Z 200,Z 203,Z 206,Z 207,Z 210,Z 211,Z 212,Z 213,Z 216,Z 217,Z 218,Z 219,Z 226,Z 229,Z 230,Z 233,Z 234,Z 235,Z 236] [.box v6,.arr (i+1) 1 (appG i (intG l) (zf (zg 1 [.i n]) 0)),.arr 1 1 (zg 1 [.i n])]))))) (.ex (λ(x:L8)=>(bif bif bif decide (k=1) then decide ((i:Int)=0) else false then decide (m=#[].toList) else false then decide (d=0) else false)=true->q22 [.str r] x) λn=>.all (λ(x:Int)=>(bif bif bif decide (k=1) then decide ((i:Int)=0) else false then decide (m=#[].toList) else false then decide (d=0) else false)=true->x=errR n) λn=>.ite (bif bif bif bif decide (k=1) then decide ((i:Int)=0) else false then decide (m=#[].toList) else false then decide (d=0) else false then decide (n=0) else false) (.leaf v4) (.ex (λ(x:L8)=>(bif bif decide (k=2) then decide ((i:Int)=0) else false then decide v5 else false)=true->q15 [.str m] x) λn=>.all (λ(x:Bool)=>(bif bif decide (k=2) then decide ((i:Int)=0) else false then decide v5 else false)=true->x=zY n) λn=>.ex (λ(x:Int)=>(bif bif bif decide (k=2) then decide ((i:Int)=0) else false then decide v5 else false then n else false)=true->q41 [.i d] x) λn_1=>.all (λ(x:Bool)=>(bif bif bif decide (k=2) then decide ((i:Int)=0) else false then decide v5 else false then n else false)=true->x=dayB n_1) λn_2=>.ite (bif bif bif bif decide (k=2) then decide ((i:Int)=0) else false then decide v5 else false then n else false then n_2 else false) (.leaf v4) (.ex (λ(x:L8)=>(bif bif decide (k=3) then decide ((i:Int)=0) else false then decide v5 else false)=true->q15 [.str m] x) λn=>.all (λ(x:Bool)=>(bif bif decide (k=3) then decide ((i:Int)=0) else false then decide v5 else false)=true->x=zY n) λn=>.ite (bif bif bif bif decide (k=3) then decide ((i:Int)=0) else false then decide v5 else false then n else false then decide (d=0) else false) (.leaf v4) (.side ((bif bif bif decide ((4:Int)<=k) then decide (k<=8) else false then b else false then decide ((i:Int)=2) else false)=true->(0:Int)<=0/\(0:Int)<i) (.side ((bif bif bif bif decide ((4:Int)<=k) then decide (k<=8) else false then b else false then decide ((i:Int)=2) else false then decide v7 else false)=true->(0:Int)<=1/\(1:Int)<i) (.ite (bif bif bif bif bif decide ((4:Int)<=k) then decide (k<=8) else false then b else false then decide ((i:Int)=2) else false then decide v7 else false then decide v8 else false) (.leaf v4) (.side ((bif bif decide (k=9) then b else false then decide ((i:Int)=3) else false)=true->(0:Int)<=0/\(0:Int)<i) (.side ((bif bif bif decide (k=9) then b else false then decide ((i:Int)=3) else false then decide v3 else false)=true->(0:Int)<=1/\(1:Int)<i) (.side ((bif bif bif bif decide (k=9) then b else false then decide ((i:Int)=3) else false then decide v3 else false then decide v8 else false)=true->(0:Int)<=2/\(2:Int)<i) (.ite (bif bif bif bif bif decide (k=9) then b else false then decide ((i:Int)=3) else false then decide v3 else false then decide v8 else false then decide (l.getD 2 (0:Int)=1) else false) (.leaf v4) (.side ((bif bif bif decide (k=11) then true else decide (k=12) then b else false then decide ((i:Int)=2) else false)=true->(0:Int)<=0/\(0:Int)<i) (.side ((bif bif bif bif decide (k=11) then true else decide (k=12) then b else false then decide ((i:Int)=2) else false then decide v7 else false)=true->(0:Int)<=1/\(1:Int)<i) (.ite (bif bif bif bif bif decide (k=11) then true else decide (k=12) then b else false then decide ((i:Int)=2) else false then decide v7 else false then decide v8 else false) (.leaf v9) (.side ((bif bif bif decide (k=13) then true else decide (k=14) then b else false then decide ((i:Int)=2) else false)=true->(0:Int)<=0/\(0:Int)<i) (.side ((bif bif bif bif decide (k=13) then true else decide (k=14) then b else false then decide ((i:Int)=2) else false then decide v3 else false)=true->(0:Int)<=1/\(1:Int)<i) (.ite (bif bif bif bif bif decide (k=13) then true else decide (k=14) then b else false then decide ((i:Int)=2) else false then decide v3 else false then decide (l.getD 1 (0:Int)=2) else false) (.leaf v9) (.side ((bif bif decide (k=15) then b else false then decide ((i:Int)=1) else false)=true->(0:Int)<=0/\(0:Int)<i) (.ite (bif bif bif decide (k=15) then b else false then decide ((i:Int)=1) else false then decide v3 else false) (.leaf v9) (.R [.i 0] v1)))))))))))))))))))) ?_;simp only [q15,q22,q41,Tree.holds,zd,inR,lo,hi,aD];refine⟨λhlt=> ?_,λhge=> ?_⟩
  ·have hlt:i<s.length:=by have:=aB hlt; omega
   have hg:=Ex.z4 hlt;have hg2:=Ex.vP hlt;have ht:=Ex.Uh s i hlt;refine⟨by omega,λ_=>⟨s.getD i Ex.nil,⟨wG rfl rfl rfl rfl rfl (Ex.zH _),by omega,by omega,by omega⟩,⟨_,rfl⟩,?_⟩⟩;intro e he;refine⟨⟨trivial,aJ _,by omega⟩,λ_=>⟨by omega,λ_=> ?_⟩⟩;rw [aP trivial];refine⟨⟨i+1,hlt⟩,by show s.length - (i+1)<s.length - i; omega,by simp [SRs],?_,by kernel_rfl,aI _⟩;have hp:=zeo (v:=e) hll;rw [ht,hl,<- he];exact⟨⟨⟨rfl,rfl⟩,rfl,rfl,⟨rfl,rfl⟩,⟨rfl,rfl,za _ _ _⟩,trivial⟩,⟨rfl,rfl,hp⟩,trivial⟩
  ·have hge:i=s.length:=by have:=aC hge; omega
   subst hge;rw [bD] at hl;clear hge hil hxn ih
   have fin:∀ z:Int,z=jP k r m d l->RetR (JC (n+1)) 0 Q [.i z] (HRs k r m d s l s.length):=by
    intro z hz;rw [hl,<- hz] at hq;exact RetR.scal hq rfl (by simp [resV])
   have hls:((s.length:Nat):Int)=l.length:=by rw [hll]
   have hn0:s.length=0↔s=[]:=aU;have q1:∀ a:Int,l=[a]↔((s.length:Nat):Int)=1/\l[0]?.getD 0=a:=λa=>by rw [hls]; exact zpx
   have q2:∀ a c:Int,l=[a,c]↔((s.length:Nat):Int)=2/\l[0]?.getD 0=a/\l[1]?.getD 0=c:=λa c=>by rw [hls]; exact zpt
   have q3:∀ a c e:Int,l=[a,c,e]↔((s.length:Nat):Int)=3/\l[0]?.getD 0=a/\l[1]?.getD 0=c/\l[2]?.getD 0=e:=λa c e=>by rw [hls]; exact zps
   by_cases k1:k=1
   ·subst k1;have hs:=wq (k:=1) (r:=r) (m:=m) (d:=d) (l:=l) (by decide);rw [hll] at hs;simp;refine⟨r,λ_ _ _=>⟨rfl,by omega⟩,⟨_,λ_ _ _=>rfl⟩,?_⟩;intro e he;refine⟨λg1 g2 g3 g4=>fin 1 ?_,λh=>fin 0 ?_⟩
    ·rw [hs,aP];have:=he g1 g2 g3;simp [qy,g1,g2,g3,<- this,g4]
    ·rw [hs,aO];intro hL;simp [qy] at hL;obtain⟨g1,⟨g4,g2⟩,g3⟩:=hL;exact h g1 g2 g3 ((he g1 g2 g3).trans g4)
   by_cases k2:k=2
   ·subst k2;have hs:=wq (k:=2) (r:=r) (m:=m) (d:=d) (l:=l) (by decide);rw [hll] at hs;simp;refine⟨m,λ_ _=>⟨rfl,by omega⟩,?_,λhn=>fin 0 ?_,λhn=>⟨d,λ_ _=>rfl,?_,λhd=>fin 0 ?_,λhd=>⟨λg1 g2=>fin 1 ?_,λh=>fin 0 ?_⟩⟩⟩
    ·cases zY m
     ·exact .inl λ_ _=>rfl
     ·exact .inr λ_ _=>rfl
    ·rw [hs,aO];intro hL;simp [qy] at hL;rw [hn hL.1 hL.2.1.1] at hL;exact absurd hL.2.1.2 (by decide)
    ·cases dayB d
     ·exact .inl λ_ _=>rfl
     ·exact .inr λ_ _=>rfl
    ·rw [hs,aO];intro hL;simp [qy] at hL;rw [hd hL.1 hL.2.1.1] at hL;exact absurd hL.2.2 (by decide)
    ·rw [hs,aP];simp [qy,g1,g2,hn g1 g2,hd g1 g2]
    ·rw [hs,aO];intro hL;simp [qy] at hL;exact h hL.1 hL.2.1.1
   by_cases k3:k=3
   ·subst k3;have hs:=wq (k:=3) (r:=r) (m:=m) (d:=d) (l:=l) (by decide);rw [hll] at hs;simp;refine⟨m,λ_ _=>⟨rfl,by omega⟩,?_,λhn=>fin 0 ?_,λhn=>⟨λg1 g2 g3=>fin 1 ?_,λh=>fin 0 ?_⟩⟩
    ·cases zY m
     ·exact .inl λ_ _=>rfl
     ·exact .inr λ_ _=>rfl
    ·rw [hs,aO];intro hL;simp [qy] at hL;rw [hn hL.1 hL.2.1.1] at hL;exact absurd hL.2.1.2 (by decide)
    ·rw [hs,aP];simp [qy,g1,g2,g3,hn g1 g2]
    ·rw [hs,aO];intro hL;simp [qy] at hL;exact h hL.1 hL.2.1.1 hL.2.2
   by_cases k4:4<=k/\k<=8
   ·have hs:jP k r m d l=if yA r m d=true/\l=[1,1] then 1 else 0:=w6 (by
     have:k=4\/k=5\/k=6\/k=7\/k=8:=by omega
     rcases this with rfl | rfl | rfl | rfl | rfl<;>rfl)
    simp [k1,k2,k3,k4,show ¬ k=9 by omega,show ¬ k=11 by omega,show ¬ k=12 by omega,show ¬ k=13 by omega,show ¬ k=14 by omega,show ¬ k=15 by omega];refine⟨λ_ h=>by omega,λ_=>⟨λ_ h _=>by omega,λ_=>⟨λh1 h2 h3 h4=>fin 1 ?_,λh=>fin 0 ?_⟩⟩⟩
    ·rw [hs,aP ⟨hb.trans h1,(q2 _ _).2 ⟨h2,h3,h4⟩⟩]
    ·rw [hs,aO λg=>h (hb.symm.trans g.1) ((q2 _ _).1 g.2).1 ((q2 _ _).1 g.2).2.1 ((q2 _ _).1 g.2).2.2]
   by_cases k9:k=9
   ·subst k9;have hs:jP 9 r m d l=if yA r m d=true/\l=[2,1,1] then 1 else 0:=w6 rfl
    simp;refine⟨λ_ h=>by omega,λ_=>⟨λ_ h _=>by omega,λ_=>⟨λ_ h _ _=>by omega,λ_=>⟨λh1 h2 h3 h4 h5=>fin 1 ?_,λh=>fin 0 ?_⟩⟩⟩⟩
    ·rw [hs,aP ⟨hb.trans h1,(q3 _ _ _).2 ⟨h2,h3,h4,h5⟩⟩]
    ·rw [hs,aO λg=>h (hb.symm.trans g.1) ((q3 _ _ _).1 g.2).1 ((q3 _ _ _).1 g.2).2.1 ((q3 _ _ _).1 g.2).2.2.1 ((q3 _ _ _).1 g.2).2.2.2]
   by_cases k11:k=11\/k=12
   ·have hs:jP k r m d l=if yA r m d=true/\l=[1,1] then 2 else 0:=w6 (by rcases k11 with rfl | rfl<;>rfl)
    simp [k1,k2,k3,k4,k9,k11,show ¬ k<=8 by omega,show ¬ k=13 by omega,show ¬ k=14 by omega,show ¬ k=15 by omega];refine⟨λ_ h=>by omega,λ_=>⟨λ_ h _=>by omega,λ_=>⟨λh1 h2 h3 h4=>fin 2 ?_,λh=>fin 0 ?_⟩⟩⟩
    ·rw [hs,aP ⟨hb.trans h1,(q2 _ _).2 ⟨h2,h3,h4⟩⟩]
    ·rw [hs,aO λg=>h (hb.symm.trans g.1) ((q2 _ _).1 g.2).1 ((q2 _ _).1 g.2).2.1 ((q2 _ _).1 g.2).2.2]
   by_cases k13:k=13\/k=14
   ·have hs:jP k r m d l=if yA r m d=true/\l=[2,2] then 2 else 0:=w6 (by rcases k13 with rfl | rfl<;>rfl)
    simp [k1,k2,k3,k4,k9,k11,k13,show ¬ k<=8 by omega,show ¬ k=15 by omega];refine⟨λ_ h=>by omega,λ_=>⟨λ_ h _=>by omega,λ_=>⟨λh1 h2 h3 h4=>fin 2 ?_,λh=>fin 0 ?_⟩⟩⟩
    ·rw [hs,aP ⟨hb.trans h1,(q2 _ _).2 ⟨h2,h3,h4⟩⟩]
    ·rw [hs,aO λg=>h (hb.symm.trans g.1) ((q2 _ _).1 g.2).1 ((q2 _ _).1 g.2).2.1 ((q2 _ _).1 g.2).2.2]
   by_cases k15:k=15
   ·subst k15;have hs:jP 15 r m d l=if yA r m d=true/\l=[2] then 2 else 0:=w6 rfl
    simp;refine⟨λ_ h=>by omega,λ_=>⟨λh1 h2 h3=>fin 2 ?_,λh=>fin 0 ?_⟩⟩
    ·rw [hs,aP ⟨hb.trans h1,(q1 _).2 ⟨h2,h3⟩⟩]
    ·rw [hs,aO λg=>h (hb.symm.trans g.1) ((q1 _).1 g.2).1 ((q1 _).1 g.2).2]
   ·have hs:=wq (k:=k) (r:=r) (m:=m) (d:=d) (l:=l) (za9 (by omega) (by omega));have hlf:qy k r m d l.length=false:=by simp [qy,k1,k2,k3]
    rw [hlf] at hs;simp [k1,k2,k3,k4,k9,k11,k13,k15];exact fin 0 (by rw [hs]; rfl)
def Jh:Ctr:=ctrP true (λx:Ex=>[x.exA]) (λx=>x.size<2^40/\x.z3<2^40) (λx r=>r=x.zu) (λ_ (r:Int)=>(.i r,[]))
theorem XS:zc prog 87 Jh:=jC Ex.size Un
def Xr:Ctr:=ctrP true (λx:Ex=>[x.exA]) (λx=>x.size<2^62) (λx r=>r=x.size) (λ_ (r:Nat)=>(.i (r:Int),[]))
def zjc:Ctr:=ctrP true (λp:Ex×Nat=>[p.1.exA,.i (p.2:Int)]) (λp=>p.1.size<2^62/\p.2<2^40) (λp r=>r=min p.1.depth (p.2+1)) (λ_ (r:Nat)=>(.i (r:Int),[]))
def zd1:Ctr:=ctrP true (λx:Ex=>[x.exA]) (λx=>x.size<2^62) (λx r=>r=x.depth) (λ_ (r:Nat)=>(.i (r:Int),[]))
def Qo:Ctr:=ctrP true (λx:Ex=>[x.exA]) (λx=>x.size<2^40/\x.z3<2^40) (λx r=>r=x.errX) (λ_ (r:Int)=>(.i r,[]))
theorem eqX(x:Ex):eqL [.agg [.int .u8 x.kind,.str x.rat,.str x.name,.i x.date,.sl x.sub.length 5 (Ex.exG x.sub)]] [x.exA]:=wG rfl rfl rfl rfl rfl (za _ _ _)
theorem WO{x:Ex}{n:Nat}(hn:decide (500<(x.size:Int))=false->(60<n↔60<x.depth)) :
  ((bif decide (500<(x.size:Int)) then true else decide (60<(n:Int)))=true->x.errX=4)/\((bif decide (500<(x.size:Int)) then true else decide (60<(n:Int)))=false->x.errX=if x.zu=0 then 8 else 0):=by
 by_cases h:500<x.size
 ·have e:decide (500<(x.size:Int))=true:=aX (by omega);rw [e];exact⟨λ_=>aP (.inl h),λh=>by cases h⟩
 ·have e:decide (500<(x.size:Int))=false:=aW (by omega);have h2:=hn e;rw [e];simp only [cond_false];by_cases h3:60<n
  ·exact⟨λ_=>aP (.inr (h2.1 h3)),λh=>by have:=aC h; omega⟩
  ·refine⟨λh=>by have:=aB h; omega,λ_=> ?_⟩;unfold Ex.errX;rw [aO];rintro(h4 | h4)
   ·exact h h4
   ·exact h3 (h2.2 h4)
noncomputable def GCk:=tb zma (tb zjl (tb zap tz))
abbrev q50(A:List AV)(x:Ex):Prop:=eqL A [.agg [.int .u8 x.kind,.str x.rat,.str x.name,.i x.date,.sl x.sub.length 5 (Ex.exG x.sub)]]/\Ex.size x<1152921504606846976/\Ex.z3 x<1099511627776
abbrev q49(A:List AV)(x:Ex):Prop:=eqL A [.agg [.int .u8 x.kind,.str x.rat,.str x.name,.i x.date,.sl x.sub.length 5 (Ex.exG x.sub)]]/\Ex.size x<4611686018427387904
theorem zes:zc prog 60 Qo:=by
 refine ze' f60 λx hx O w0 Q hq=> ?_
 replace hq:=hq _ rfl;obtain⟨h1,h2⟩:=hx;refine zb.n GCk.h [] (let v2:List Blk:=[.box [.int .u8 x.kind,.str x.rat,.str x.name,.i x.date,.sl x.sub.length 5 (Ex.exG x.sub)]];let v1:=[AV.int .u8 x.kind,AV.str x.rat,AV.str x.name,AV.i x.date,AV.sl x.sub.length 5 (Ex.exG x.sub)];.ex (q49 [.agg v1]) λn=>.all (λ(r:Nat)=>r=Ex.size n) λn=>.ex (λ(x_1:Ex×Nat)=>decide ((500:Int)<n)=false->eqL [.agg v1,.i 60] [.agg [.int .u8 x_1.1.kind,.str x_1.1.rat,.str x_1.1.name,.i x_1.1.date,.sl x_1.1.sub.length 5 (Ex.exG x_1.1.sub)],.i x_1.2]/\Ex.size x_1.1<4611686018427387904/\x_1.2<1099511627776) λn_1=>.all (λ(x:Nat)=>decide ((500:Int)<n)=false->x=min n_1.1.depth (n_1.2+1)) λn_2=>.ite (bif decide ((500:Int)<n) then true else decide ((60:Int)<n_2)) (.R [.i 4] v2) (.ex (q50 [.agg v1]) λn=>.all (λ(r:Int)=>r=Ex.zu n) λn=>.D (n=0) (.R [.i 8] v2) (.R [.i 0] v2))) ?_;simp only [q49,q50,Tree.holds,zd,inR,lo,hi,aD];refine⟨x,⟨wG rfl rfl rfl rfl rfl (za _ _ _),by omega⟩,⟨_,rfl⟩,?_⟩;rintro _ rfl;refine⟨(x,60),λ_=>⟨⟨⟨⟨rfl,rfl⟩,rfl,rfl,⟨rfl,rfl⟩,⟨rfl,rfl,za _ _ _⟩,trivial⟩,⟨rfl,rfl⟩,trivial⟩,by show x.size<_; omega,by show 60<1099511627776; omega⟩,⟨_,λ_=>rfl⟩,?_⟩;intro c hc;have em:=WO (x:=x) (n:=c) λh=>by have:=hc h; simp only at this; omega
 refine⟨λh=> ?_,λh=>⟨x,⟨eqX x,by omega,by omega⟩,⟨_,rfl⟩,?_⟩⟩
 ·rw [em.1 h] at hq;exact RetR.scal hq rfl (by simp [resV])
 ·have e:=em.2 h;rintro _ rfl;refine⟨λg=> ?_,λg=> ?_⟩
  ·rw [e,aP (aB g)] at hq;exact RetR.scal hq rfl (by simp [resV])
  ·rw [e,aO (aC g)] at hq;exact RetR.scal hq rfl (by simp [resV])
noncomputable def GCr:=tb zix (tb zd6 (tb XS tz))
abbrev q51(A:List AV)(x:Ex):Prop:=eqL A [.agg [.int .u8 x.kind,.str x.rat,.str x.name,.i x.date,.sl x.sub.length 5 (Ex.exG x.sub)]]/\Ex.size x<1099511627776/\Ex.z3 x<1099511627776
theorem UC:zc prog 86 Qo:=by
 refine ze' f86 λx hx O w0 Q hq=> ?_
 replace hq:=hq _ rfl;obtain⟨h1,h2⟩:=hx;refine zb.n GCr.h [] (let v2:List Blk:=[.box [.int .u8 x.kind,.str x.rat,.str x.name,.i x.date,.sl x.sub.length 5 (Ex.exG x.sub)]];let v1:=[AV.agg [.int .u8 x.kind,.str x.rat,.str x.name,.i x.date,.sl x.sub.length 5 (Ex.exG x.sub)]];.ex (q49 v1) λn=>.all (λ(r:Nat)=>r=Ex.size n) λn=>.ex (λ(x_1:Ex)=>decide ((500:Int)<n)=false->eqL v1 [.agg [.int .u8 x_1.kind,.str x_1.rat,.str x_1.name,.i x_1.date,.sl x_1.sub.length 5 (Ex.exG x_1.sub)]]/\Ex.size x_1<4611686018427387904) λn_1=>.all (λ(x:Nat)=>decide ((500:Int)<n)=false->x=Ex.depth n_1) λn_2=>.ite (bif decide ((500:Int)<n) then true else decide ((60:Int)<n_2)) (.R [.i 4] v2) (.ex (q51 v1) λn=>.all (λ(r:Int)=>r=Ex.zu n) λn=>.D (n=0) (.R [.i 8] v2) (.R [.i 0] v2))) ?_;simp only [q49,q51,Tree.holds,zd,inR,lo,hi,aD];refine⟨x,⟨wG rfl rfl rfl rfl rfl (za _ _ _),by omega⟩,⟨_,rfl⟩,?_⟩;rintro _ rfl;refine⟨x,λ_=>⟨eqX x,by omega⟩,⟨_,λ_=>rfl⟩,?_⟩;intro c hc;have em:=WO (x:=x) (n:=c) λh=>by have:=hc h; omega
 refine⟨λh=> ?_,λh=>⟨x,⟨eqX x,by omega,by omega⟩,⟨_,rfl⟩,?_⟩⟩
 ·rw [em.1 h] at hq;exact RetR.scal hq rfl (by simp [resV])
 ·have e:=em.2 h;rintro _ rfl;refine⟨λg=> ?_,λg=> ?_⟩
  ·rw [e,aP (aB g)] at hq;exact RetR.scal hq rfl (by simp [resV])
  ·rw [e,aO (aC g)] at hq;exact RetR.scal hq rfl (by simp [resV])
structure St8 where
 f:List Fx
 c:List Ch
 day:Int
 e:Int
def St8.box(s:St8):Blk:=.box [fxS s.f,chS s.c,.i s.day,.i s.e]
def St8.err(s:St8)(e:Int):St8:=⟨s.f,s.c,s.day,e⟩
theorem qA(f:List Fx)(c:List Ch)(day e:Int):eqH [.box [.sl f.length 3 (fxG f),.sl c.length 4 (chG c),.i day,.i e]] [(St8.mk f c day e).box]:=⟨⟨⟨rfl,rfl,za _ _ _⟩,⟨rfl,rfl,za _ _ _⟩,⟨rfl,rfl⟩,⟨rfl,rfl⟩,trivial⟩,trivial⟩
theorem RetR.st8{ctr:Ctr}{Q:AV×Heap->Prop}{rs:List AV}{f:List Fx}{c:List Ch}{day e:Int}{r:AV}(hf:ctr.fresh=false)(hq:Q (r,[(St8.mk f c day e).box]))(hs:uZ r=true)(hr:resV rs=r)(h2:exp2 [.box [.sl f.length 3 (fxG f),.sl c.length 4 (chG c),.i day,.i e]] [0] r=r:=by rfl):RetR ctr 1 Q rs [.box [.sl f.length 3 (fxG f),.sl c.length 4 (chG c),.i day,.i e]]:=by
 subst hr;refine RetR.keep [0] rfl rfl (by decide) hf hq ?_ ?_ rfl
 ·rw [h2]; exact Vl hs
 ·exact qA f c day e
structure KS where
 s:St8
 x:L8
 e:Int
def Y3:Ctr:=ctrT false false (λk:KS=>[.ptr 0 0,.str k.x,.i k.e]) (λk=>[k.s.box]) (λ_=>True) (λk r=>r=if k.s.e=0 then k.e else k.s.e) (λk (r:Int)=>(.str k.x,[(k.s.err r).box]))
def zh8:Ctr:=ctrT false false (λk:St8×Int×Int=>[.ptr 0 0,.i k.2.1,.i k.2.2]) (λk=>[k.1.box]) (λ_=>True) (λk r=>r=if k.1.e=0 then k.2.2 else k.1.e) (λk (r:Int)=>(.i k.2.1,[(k.1.err r).box]))
theorem XH:zc prog 66 Y3:=by
 refine qi (fn:=f66) (c:=f66.body.getD .skip) rfl rfl rfl (λh=>by cases h) λk hk O w0 I0 Q hl0 hq=> ?_
 obtain⟨⟨f,c,day,e⟩,x,e'⟩:=k;replace hq:=hq _ rfl;simp only at hq;refine zb.n zq [] (.D (e=0) (.R [.str x] [.box [.sl f.length 3 (fxG f),.sl c.length 4 (chG c),.i day,.i e']]) (.R [.str x] [.box [.sl f.length 3 (fxG f),.sl c.length 4 (chG c),.i day,.i e]])) ?_;simp only [Tree.holds,zd];refine⟨λh=> ?_,λh=> ?_⟩
 ·rw [aP (aB h)] at hq;exact RetR.st8 rfl hq rfl rfl
 ·rw [aO (aC h)] at hq;exact RetR.st8 rfl hq rfl rfl
theorem zkb:zc prog 138 zh8:=by
 refine qi (fn:=f138) (c:=f138.body.getD .skip) rfl rfl rfl (λh=>by cases h) λk hk O w0 I0 Q hl0 hq=> ?_
 obtain⟨⟨f,c,day,e⟩,x,e'⟩:=k;replace hq:=hq _ rfl;simp only at hq;refine zb.n zq [] (.D (e=0) (.R [.i x] [.box [.sl f.length 3 (fxG f),.sl c.length 4 (chG c),.i day,.i e']]) (.R [.i x] [.box [.sl f.length 3 (fxG f),.sl c.length 4 (chG c),.i day,.i e]])) ?_;simp only [Tree.holds,zd];refine⟨λh=> ?_,λh=> ?_⟩
 ·rw [aP (aB h)] at hq;exact RetR.st8 rfl hq rfl rfl
 ·rw [aO (aC h)] at hq;exact RetR.st8 rfl hq rfl rfl
def fixC:Ctr:=ctrT false false (λk:KS=>[.ptr 0 0,.str k.x,.i k.e]) (λk=>[k.s.box]) (λk=>k.s.f.length<2^40/\k.s.e=0) (λk r=>r=fixR k.s.f k.x k.e) (λk (r:L8×Int)=>(.str r.1,[(k.s.err r.2).box]))
noncomputable def GFx:=tb zaz (tb XH tz)
abbrev q52(A:List AV)(H:Heap)(x:KS):Prop:=eqL A [.ptr 0 0,.str x.x,.i x.e]/\eqH H [.box [.sl x.s.f.length 3 (fxG x.s.f),.sl x.s.c.length 4 (chG x.s.c),.i x.s.day,.i x.s.e]]/\1=1/\True
theorem zde:zc prog 64 fixC:=by
 refine qi (fn:=f64) (c:=f64.body.getD .skip) rfl rfl rfl (λh=>by cases h) λk hk O w0 I0 Q hl0 hq=> ?_
 obtain⟨⟨f,c,day,e⟩,x,d⟩:=k;obtain⟨h1,h2⟩:=hk;replace hq:=hq _ rfl;simp only at h1 h2 hq;subst h2;refine zb.n GFx.h [] (.ex (q46 [.agg [.sl f.length 3 (fxG f),.sl c.length 4 (chG c)],.str x,.i d]) λn=>.all (λ(r:L8×Bool)=>r=zP n.1.1 n.2.1 n.2.2) λn=>.ite (!Prod.snd n) (.ex (q52 [.ptr 0 0,.str n.1,.i 30] [.box [.sl f.length 3 (fxG f),.sl c.length 4 (chG c),.i day,.i 0]]) λn=>.all (λ(r:Int)=>r=if St8.e n.s=0 then KS.e n else St8.e n.s) λn_1=>let v1:=n.s.err n_1;.R [.str n.x] [.box [.sl (List.length v1.f) 3 (fxG v1.f),.sl (List.length v1.c) 4 (chG v1.c),.i v1.day,.i v1.e]]) (.R [.str n.1] [.box [.sl f.length 3 (fxG f),.sl c.length 4 (chG c),.i day,.i 0]])) ?_;simp only [q46,q52,Tree.holds,zd];refine⟨((f,c),(x,d)),⟨⟨⟨⟨rfl,rfl,za _ _ _⟩,⟨rfl,rfl,za _ _ _⟩,trivial⟩,rfl,⟨rfl,rfl⟩,trivial⟩,h1⟩,⟨_,rfl⟩,?_⟩;rintro _ rfl;unfold fixR at hq;refine⟨λh=> ?_,λh=> ?_⟩
 ·have h:(zP f x d).2=false:=by simpa using h
  have h0:(zP f x d).1=[]:=zjk h;rw [aO (by rw [h]; decide)] at hq;refine⟨⟨⟨f,c,day,0⟩,[],30⟩,⟨⟨⟨rfl,rfl⟩,h0,⟨rfl,rfl⟩,trivial⟩,qA f c day 0,trivial,trivial⟩,⟨_,rfl⟩,?_⟩;rintro _ rfl;exact RetR.st8 rfl hq rfl rfl
 ·have h:(zP f x d).2=true:=by simpa using h
  rw [aP h] at hq;exact RetR.st8 rfl hq rfl rfl
structure K2 where
 s:St8
 a:L8
 b:L8
def cmpE(e:Int)(a b:L8):Int×Int:=if e≠0 then(0,e) else cmpR a b
def zih:Ctr:=ctrT false false (λk:K2=>[.ptr 0 0,.str k.a,.str k.b]) (λk=>[k.s.box]) (λk=>k.s.e=0->k.a.length<2^61/\k.b.length<2^61) (λk r=>r=cmpE k.s.e k.a k.b) (λk (r:Int×Int)=>(.i r.1,[(k.s.err r.2).box]))
noncomputable def GCq:=tb zcm (tb zkb tz)
abbrev q53(A:List AV)(x:L8×L8):Prop:=eqL A [.str x.1,.str x.2]/\x.1.length<2305843009213693952/\x.2.length<2305843009213693952
theorem zbg:zc prog 109 zih:=by
 refine qi (fn:=f109) (c:=f109.body.getD .skip) rfl rfl rfl (λh=>by cases h) λk hk O w0 I0 Q hl0 hq=> ?_
 obtain⟨⟨f,c,day,e⟩,a,b⟩:=k;replace hq:=hq _ rfl;simp only at hk hq;unfold cmpE at hq;refine zb.n GCq.h [] (.N (e=0) (.R [.i 0] [.box [.sl f.length 3 (fxG f),.sl c.length 4 (chG c),.i day,.i e]]) (.ex (q53 [.str a,.str b]) λn=>.all (λ(r:Int×Int)=>r=cmpR n.1 n.2) λn=>.ex (λ(x:St8×Int×Int)=>eqL [.ptr 0 0,.i n.1,.i n.2] [.ptr 0 0,.i x.2.1,.i x.2.2]/\eqH [.box [.sl f.length 3 (fxG f),.sl c.length 4 (chG c),.i day,.i e]] [.box [.sl x.1.f.length 3 (fxG x.1.f),.sl x.1.c.length 4 (chG x.1.c),.i x.1.day,.i x.1.e]]/\1=1/\True) λn=>.all (λ(r:Int)=>r=if St8.e n.1=0 then n.2.2 else St8.e n.1) λn_1=>let v1:=n.1.err n_1;.R [.i n.2.1] [.box [.sl (List.length v1.f) 3 (fxG v1.f),.sl (List.length v1.c) 4 (chG v1.c),.i v1.day,.i v1.e]])) ?_;simp only [q53,Tree.holds,zd];refine⟨λh=> ?_,λh=> ?_⟩
 ·have h:e≠0:=by simpa using h
  rw [aP h] at hq;exact RetR.st8 rfl hq rfl rfl
 ·have h:e=0:=by simpa using h
  subst h;obtain⟨h1,h2⟩:=hk rfl;rw [aO (by simp)] at hq;refine⟨(a,b),⟨⟨rfl,rfl,trivial⟩,h1,h2⟩,⟨_,rfl⟩,?_⟩;rintro _ rfl;refine⟨(⟨f,c,day,0⟩,(cmpR a b).1,(cmpR a b).2),⟨⟨⟨rfl,rfl⟩,⟨rfl,rfl⟩,⟨rfl,rfl⟩,trivial⟩,qA f c day 0,trivial,trivial⟩,⟨_,rfl⟩,?_⟩;rintro _ rfl;exact RetR.st8 rfl hq rfl rfl
def sopC(F:L8->L8->L8×Int)(same:Bool):Ctr:=ctrT false false (λk:K2=>[.ptr 0 0,.str k.a,.str k.b]) (λk=>[k.s.box]) (λk=>k.s.e=0/\k.a.length<2^61/\k.b.length<2^61) (λk r=>r.2=(F k.a k.b).2/\(r.2=0->r.1=(F k.a k.b).1)) (λk (r:L8×Int)=>(.tup [.str r.1,.i r.2],[(bif same then k.s else k.s.err r.2).box]))
noncomputable def zpw:=tb VV (tb KA (tb Vx tz))
theorem zm0:zc prog 190 (sopC addR true):=by
 refine qi (fn:=f190) (c:=f190.body.getD .skip) rfl rfl rfl (λh=>by cases h) λk hk O w0 I0 Q hl0 hq=> ?_
 obtain⟨⟨f,c,day,e⟩,a,b⟩:=k;replace hq:=hq (addR a b) ⟨rfl,λ_=>rfl⟩;obtain⟨h0,h1,h2⟩:=hk;simp only at h0 h1 h2 hq;refine zb.n zpw.h [] (.ex (q53 [.str a,.str b]) λn=>.all (λ(r:L8×Int)=>r=addR n.1 n.2) λn=>.R [.str n.1,.i n.2] [.box [.sl f.length 3 (fxG f),.sl c.length 4 (chG c),.i day,.i e]]) ?_;simp only [q53,Tree.holds,zd];refine⟨(a,b),⟨⟨rfl,rfl,trivial⟩,h1,h2⟩,⟨_,rfl⟩,?_⟩;rintro _ rfl;exact RetR.st8 rfl hq rfl rfl
noncomputable def zq0:=tb VV (tb KA (tb Vx tz))
theorem zm4:zc prog 191 (sopC subR true):=by
 refine qi (fn:=f191) (c:=f191.body.getD .skip) rfl rfl rfl (λh=>by cases h) λk hk O w0 I0 Q hl0 hq=> ?_
 obtain⟨⟨f,c,day,e⟩,a,b⟩:=k;replace hq:=hq (subR a b) ⟨rfl,λ_=>rfl⟩;obtain⟨h0,h1,h2⟩:=hk;simp only at h0 h1 h2 hq;refine zb.n zq0.h [] (.ex (q53 [.str a,.str b]) λn=>.all (λ(r:L8×Int)=>r=subR n.1 n.2) λn=>.R [.str n.1,.i n.2] [.box [.sl f.length 3 (fxG f),.sl c.length 4 (chG c),.i day,.i e]]) ?_;simp only [q53,Tree.holds,zd];refine⟨(a,b),⟨⟨rfl,rfl,trivial⟩,h1,h2⟩,⟨_,rfl⟩,?_⟩;rintro _ rfl;exact RetR.st8 rfl hq rfl rfl
noncomputable def zpo:=tb VV (tb KA (tb Vx tz))
theorem zl2:zc prog 192 (sopC mulR true):=by
 refine qi (fn:=f192) (c:=f192.body.getD .skip) rfl rfl rfl (λh=>by cases h) λk hk O w0 I0 Q hl0 hq=> ?_
 obtain⟨⟨f,c,day,e⟩,a,b⟩:=k;replace hq:=hq (mulR a b) ⟨rfl,λ_=>rfl⟩;obtain⟨h0,h1,h2⟩:=hk;simp only at h0 h1 h2 hq;refine zb.n zpo.h [] (.ex (q53 [.str a,.str b]) λn=>.all (λ(r:L8×Int)=>r=mulR n.1 n.2) λn=>.R [.str n.1,.i n.2] [.box [.sl f.length 3 (fxG f),.sl c.length 4 (chG c),.i day,.i e]]) ?_;simp only [q53,Tree.holds,zd];refine⟨(a,b),⟨⟨rfl,rfl,trivial⟩,h1,h2⟩,⟨_,rfl⟩,?_⟩;rintro _ rfl;exact RetR.st8 rfl hq rfl rfl
noncomputable def GGr:=tb zbg tz
abbrev q54(A:List AV)(H:Heap)(x:K2):Prop:=eqL A [.ptr 0 0,.str x.a,.str x.b]/\eqH H [.box [.sl x.s.f.length 3 (fxG x.s.f),.sl x.s.c.length 4 (chG x.s.c),.i x.s.day,.i x.s.e]]/\1=1/\(St8.e x.s=0->x.a.length<2305843009213693952/\x.b.length<2305843009213693952)
theorem Xn:zc prog 193 (sopC (jB 7) false):=by
 refine qi (fn:=f193) (c:=f193.body.getD .skip) rfl rfl rfl (λh=>by cases h) λk hk O w0 I0 Q hl0 hq=> ?_
 obtain⟨⟨f,c,day,e⟩,a,b⟩:=k;obtain⟨h0,h1,h2⟩:=hk;simp only at h0 h1 h2 hq;subst h0;refine zb.n GGr.h [] (.ex (q54 [.ptr 0 0,.str a,.str b] [.box [.sl f.length 3 (fxG f),.sl c.length 4 (chG c),.i day,.i 0]]) λn=>.all (λ(r:Int×Int)=>r=cmpE n.s.e n.a n.b) λn_1=>let v2:=n.s.err n_1.2;let v1:List Blk:=[.box [.sl (List.length v2.f) 3 (fxG v2.f),.sl (List.length v2.c) 4 (chG v2.c),.i v2.day,.i v2.e]];.D (n_1.1<0) (.R [.str b,.i v2.e] v1) (.R [.str a,.i v2.e] v1)) ?_;simp only [q54,Tree.holds,zd];refine⟨⟨⟨f,c,day,0⟩,a,b⟩,⟨⟨⟨rfl,rfl⟩,rfl,rfl,trivial⟩,qA f c day 0,trivial,λ_=>⟨h1,h2⟩⟩,⟨_,rfl⟩,?_⟩;have e1:cmpE 0 a b=cmpR a b:=aO (by simp);rw [e1];rintro _ rfl;unfold jB at hq;rw [aP rfl] at hq;refine⟨λh=> ?_,λh=> ?_⟩
 ·have h:(cmpR a b).1<0:=aB h;refine RetR.st8 rfl (hq (b,(cmpR a b).2) ?_) rfl rfl;by_cases g:(cmpR a b).2=0
  ·rw [aO (by rw [g]; simp),aP h]; exact⟨g,λ_=>rfl⟩
  ·rw [aP g]; exact⟨rfl,λh=>absurd h g⟩
 ·have h:¬ (cmpR a b).1<0:=aC h;refine RetR.st8 rfl (hq (a,(cmpR a b).2) ?_) rfl rfl;by_cases g:(cmpR a b).2=0
  ·rw [aO (by rw [g]; simp),aO h]; exact⟨g,λ_=>rfl⟩
  ·rw [aP g]; exact⟨rfl,λh=>absurd h g⟩
theorem Xa:zc prog 194 (sopC (jB 8) false):=by
 refine qi (fn:=f194) (c:=f194.body.getD .skip) rfl rfl rfl (λh=>by cases h) λk hk O w0 I0 Q hl0 hq=> ?_
 obtain⟨⟨f,c,day,e⟩,a,b⟩:=k;obtain⟨h0,h1,h2⟩:=hk;simp only at h0 h1 h2 hq;subst h0;refine zb.n GGr.h [] (.ex (q54 [.ptr 0 0,.str b,.str a] [.box [.sl f.length 3 (fxG f),.sl c.length 4 (chG c),.i day,.i 0]]) λn=>.all (λ(r:Int×Int)=>r=cmpE n.s.e n.a n.b) λn_1=>let v2:=n.s.err n_1.2;let v1:List Blk:=[.box [.sl (List.length v2.f) 3 (fxG v2.f),.sl (List.length v2.c) 4 (chG v2.c),.i v2.day,.i v2.e]];.D (n_1.1<0) (.R [.str b,.i v2.e] v1) (.R [.str a,.i v2.e] v1)) ?_;simp only [q54,Tree.holds,zd];refine⟨⟨⟨f,c,day,0⟩,b,a⟩,⟨⟨⟨rfl,rfl⟩,rfl,rfl,trivial⟩,qA f c day 0,trivial,λ_=>⟨h2,h1⟩⟩,⟨_,rfl⟩,?_⟩;have e1:cmpE 0 b a=cmpR b a:=aO (by simp);rw [e1];rintro _ rfl;unfold jB at hq;rw [aO (by decide)] at hq;refine⟨λh=> ?_,λh=> ?_⟩
 ·have h:(cmpR b a).1<0:=aB h;refine RetR.st8 rfl (hq (b,(cmpR b a).2) ?_) rfl rfl;by_cases g:(cmpR b a).2=0
  ·rw [aO (by rw [g]; simp),aP h]; exact⟨g,λ_=>rfl⟩
  ·rw [aP g]; exact⟨rfl,λh=>absurd h g⟩
 ·have h:¬ (cmpR b a).1<0:=aC h;refine RetR.st8 rfl (hq (a,(cmpR b a).2) ?_) rfl rfl;by_cases g:(cmpR b a).2=0
  ·rw [aO (by rw [g]; simp),aO h]; exact⟨g,λ_=>rfl⟩
  ·rw [aP g]; exact⟨rfl,λh=>absurd h g⟩
theorem zeh{X R Y S:Type}{P:Program}{g h:Nat}{fr mo fr' mo':Bool}{inp:X->List AV}{hin:X->Heap}{pre:X->Prop}{post:X->R->Prop}{out:X->R->AV×Heap}{inp':Y->List AV}{hin':Y->Heap}{pre':Y->Prop}{post':Y->S->Prop}{out':Y->S->AV×Heap}(μ:X->Nat)(ν : Y->Nat)
  (step:∀ n,zc P g (ctrT fr mo inp hin (λx=>μ x<n/\pre x) post out)->zc P h (ctrT fr' mo' inp' hin' (λy=> ν y<n/\pre' y) post' out') ->
   zc P g (ctrT fr mo inp hin (λx=>μ x<n+1/\pre x) post out)/\zc P h (ctrT fr' mo' inp' hin' (λy=> ν y<n+1/\pre' y) post' out')) :
  zc P g (ctrT fr mo inp hin pre post out)/\zc P h (ctrT fr' mo' inp' hin' pre' post' out'):=by
 have all:∀ n,zc P g (ctrT fr mo inp hin (λx=>μ x<n/\pre x) post out)/\zc P h (ctrT fr' mo' inp' hin' (λy=> ν y<n/\pre' y) post' out'):=by
  intro n
  induction n with
  | zero=>
   constructor
   ·intro args hc Q hq _;obtain⟨x,⟨_,_,_,h,_⟩,_⟩:=hq;exact absurd h (Nat.not_lt_zero _)
   ·intro args hc Q hq _;obtain⟨x,⟨_,_,_,h,_⟩,_⟩:=hq;exact absurd h (Nat.not_lt_zero _)
  | succ n ih=>exact step n ih.1 ih.2
 constructor
 ·intro args hc Q hq hf;obtain⟨x,⟨h1,h2,h3,h4⟩,h5⟩:=hq;exact(all (μ x+1)).1 args hc Q ⟨x,⟨h1,h2,h3,Nat.lt_succ_self _,h4⟩,h5⟩ hf
 ·intro args hc Q hq hf;obtain⟨x,⟨h1,h2,h3,h4⟩,h5⟩:=hq;exact(all (ν x+1)).2 args hc Q ⟨x,⟨h1,h2,h3,Nat.lt_succ_self _,h4⟩,h5⟩ hf
structure VX where
 s:St8
 x:Ex
def evA(k:VX):Ev:=k.x.ev k.s.f k.s.day
def valC(p:VX->Prop):Ctr:=ctrT false false (λk:VX=>[.ptr 0 0,k.x.exA]) (λk=>[k.s.box]) p (λk r=>(k.s.e≠0->r.2=k.s.e)/\(k.s.e=0->r.2=(evA k).e/\(r.2=0->r.1=(evA k).v))) (λk (r:L8×Int)=>(.str r.1,[(k.s.err r.2).box]))
def hldC(p:VX->Prop):Ctr:=ctrT false false (λk:VX=>[.ptr 0 0,k.x.exA]) (λk=>[k.s.box]) p (λk r=>(k.s.e≠0->r.2=k.s.e)/\(k.s.e=0->r.2=(evA k).g/\(r.2=0->r.1=(evA k).b))) (λk (r:Bool×Int)=>(.bool r.1,[(k.s.err r.2).box]))
def VPre(z:Int)(k:VX):Prop:=k.s.e=0->k.x.zu=z/\k.s.f.all okF=true/\k.s.f.length<2^40
def GVa(n:Nat):Nat->Option Ctr:=λf=>if f=34 then some (valC λk=>k.x.size<n/\VPre 1 k) else if f=65 then some (hldC λk=>k.x.size<n/\VPre 2 k)
 else if f=64 then some fixC else if f=109 then some zih else if f=66 then some Y3
 else if f=190 then some (sopC addR true) else if f=191 then some (sopC subR true) else if f=192 then some (sopC mulR true) else if f=193 then some (sopC (jB 7) false) else if f=194 then some (sopC (jB 8) false) else none
theorem zjd{n:Nat}(h1:zc prog 34 (valC λk=>k.x.size<n/\VPre 1 k))(h2:zc prog 65 (hldC λk=>k.x.size<n/\VPre 2 k)):∀ f c,GVa n f=some c->zc prog f c:=by
 intro f c hf;unfold GVa at hf
 iterate 10
  split at hf
  ·rename_i hg; subst hg; cases hf; first | exact h1 | exact h2 | exact zde | exact zbg | exact XH | exact zm0 | exact zm4 | exact zl2 | exact Xn | exact Xa
 cases hf
theorem eqX2(x:Ex):eqL [.ptr 0 0,.agg [.int .u8 x.kind,.str x.rat,.str x.name,.i x.date,.sl x.sub.length 5 x.deep]] [.ptr 0 0,x.exA]:=⟨⟨rfl,rfl⟩,⟨⟨rfl,rfl⟩,rfl,rfl,⟨rfl,rfl⟩,⟨rfl,rfl,Ex.zH _⟩,trivial⟩,trivial⟩
theorem zmo(x:Ex):eqL [.ptr 0 0,x.exA] [.ptr 0 0,x.exA]:=⟨⟨rfl,rfl⟩,⟨⟨rfl,rfl⟩,rfl,rfl,⟨rfl,rfl⟩,⟨rfl,rfl,za _ _ _⟩,trivial⟩,trivial⟩
theorem RetR.st9{ctr:Ctr}{Q:AV×Heap->Prop}{rs:List AV}{f:List Fx}{c:List Ch}{day e:Int}{b:Blk}{r:AV}(hf:ctr.fresh=false)(hq:Q (r,[(St8.mk f c day e).box]))(hs:uZ r=true)(hr:resV rs=r)(h2:exp2 [.box [.sl f.length 3 (fxG f),.sl c.length 4 (chG c),.i day,.i e],b] [0] r=r:=by rfl):RetR ctr 1 Q rs [.box [.sl f.length 3 (fxG f),.sl c.length 4 (chG c),.i day,.i e],b]:=by
 subst hr;refine RetR.keep [0] rfl rfl (by decide) hf hq ?_ ?_ rfl
 ·rw [h2]; exact Vl hs
 ·exact qA f c day e
theorem xt(e e0:Int)(v:L8):∃ r:L8×Int,(e≠0->r.2=e)/\(e=0->r.2=e0/\(r.2=0->r.1=v)):=by
 by_cases h:e=0
 ·exact⟨(v,e0),λg=>absurd h g,λ_=>⟨rfl,λ_=>rfl⟩⟩
 ·exact⟨(v,e),λ_=>rfl,λg=>absurd g h⟩
theorem Zp(e e0:Int)(v:Bool):∃ r:Bool×Int,(e≠0->r.2=e)/\(e=0->r.2=e0/\(r.2=0->r.1=v)):=by
 by_cases h:e=0
 ·exact⟨(v,e0),λg=>absurd h g,λ_=>⟨rfl,λ_=>rfl⟩⟩
 ·exact⟨(v,e),λ_=>rfl,λg=>absurd g h⟩
section
variable (n:Nat) (h1:zc prog 34 (valC λk=>k.x.size<n/\VPre 1 k)) (h2:zc prog 65 (hldC λk=>k.x.size<n/\VPre 2 k))
include h1 h2
abbrev q56(A:List AV)(H:Heap)(x:K2):Prop:=eqL A [.ptr 0 0,.str x.a,.str x.b]/\eqH H [.box [.sl x.s.f.length 3 (fxG x.s.f),.sl x.s.c.length 4 (chG x.s.c),.i x.s.day,.i x.s.e]]/\1=1/\St8.e x.s=0/\x.a.length<2305843009213693952/\x.b.length<2305843009213693952
abbrev q55(A:List AV)(H:Heap)(x:KS):Prop:=eqL A [.ptr 0 0,.str x.x,.i x.e]/\eqH H [.box [.sl x.s.f.length 3 (fxG x.s.f),.sl x.s.c.length 4 (chG x.s.c),.i x.s.day,.i x.s.e]]/\1=1/\x.s.f.length<1099511627776/\St8.e x.s=0
theorem UN:zc prog 34 (valC λk=>k.x.size<n+1/\VPre 1 k):=by
 refine qi (fn:=f34) (c:=f34.body.getD .skip) rfl rfl rfl (λh=>by cases h) λk hk O w0 I0 Q hl0 hq=> ?_
 obtain⟨⟨f,c,day,e⟩,⟨k,r,m,d,s⟩⟩:=k;obtain⟨hn,hv⟩:=hk;simp only at hn hv hq;refine zb.n (zjd h1 h2) [] (let v17:=s.getD 2 Ex.nil;let v15:=s.getD 0 Ex.nil;let v14:=s.getD 1 Ex.nil;let v5:=[AV.ptr 0 0,AV.agg [.int .u8 (Ex.kind v14),.str (Ex.rat v14),.str (Ex.name v14),.i (Ex.date v14),.sl (List.length (Ex.sub v14)) 5 (Ex.deep v14)]];let v4:=[AV.ptr 0 0,AV.agg [.int .u8 (Ex.kind v15),.str (Ex.rat v15),.str (Ex.name v15),.i (Ex.date v15),.sl (List.length (Ex.sub v15)) 5 (Ex.deep v15)]];let v3:List Blk:=[.box [.sl f.length 3 (fxG f),.sl c.length 4 (chG c),.i day,.i e]];let v2:List AV:=[.int .u8 k,.str r,.str m,.i d,.sl s.length 5 (Ex.exG s)];let v13:List Blk:=[.box [.sl f.length 3 (fxG f),.sl c.length 4 (chG c),.i day,.i e],.box v2];.N (e=0) (.R [.str #[].toList] v13) (.D (k=1) (.R [.str r] v13) (.D (k=2) (.ex (q55 [.ptr 0 0,.str m,.i d] v3) λn=>.all (λ(r:L8×Int)=>r=fixR n.s.f n.x n.e) λn_1=>let v19:=n.s.err n_1.2;.R [.str n_1.1] [.box [.sl (List.length v19.f) 3 (fxG v19.f),.sl (List.length v19.c) 4 (chG v19.c),.i v19.day,.i v19.e],.box v2]) (.D (k=3) (.ex (q55 [.ptr 0 0,.str m,.i day] v3) λn=>.all (λ(r:L8×Int)=>r=fixR n.s.f n.x n.e) λn_1=>let v20:=n.s.err n_1.2;.R [.str n_1.1] [.box [.sl (List.length v20.f) 3 (fxG v20.f),.sl (List.length v20.c) 4 (chG v20.c),.i v20.day,.i v20.e],.box v2]) (.D (k=9) (.side ((0:Int)<=0/\(0:Int)<s.length) (.ex (λ(x:VX)=>eqL v4 [.ptr 0 0,.agg [.int .u8 x.x.kind,.str x.x.rat,.str x.x.name,.i x.x.date,.sl x.x.sub.length 5 (Ex.exG x.x.sub)]]/\eqH v3 [.box [.sl x.s.f.length 3 (fxG x.s.f),.sl x.s.c.length 4 (chG x.s.c),.i x.s.day,.i x.s.e]]/\1=1/\Ex.size x.x<n/\VPre (2:Int) x) λn_1=>.all (λ(r:Bool×Int)=>(St8.e n_1.s≠0->r.2=St8.e n_1.s)/\(St8.e n_1.s=0->r.2=Ev.g (evA n_1)/\(r.2=0->r.1=Ev.b (evA n_1)))) λn_2=>let v16:=n_1.s.err n_2.2;let v6:=[AV.sl (List.length v16.f) 3 (fxG v16.f),AV.sl (List.length v16.c) 4 (chG v16.c),AV.i v16.day,AV.i v16.e];.ite n_2.1 (.side ((0:Int)<=1/\(1:Int)<s.length) (.ex (λ(x:VX)=>eqL v5 [.ptr 0 0,.agg [.int .u8 x.x.kind,.str x.x.rat,.str x.x.name,.i x.x.date,.sl x.x.sub.length 5 (Ex.exG x.x.sub)]]/\eqH [.box v6] [.box [.sl x.s.f.length 3 (fxG x.s.f),.sl x.s.c.length 4 (chG x.s.c),.i x.s.day,.i x.s.e]]/\1=1/\Ex.size x.x<n/\VPre (1:Int) x) λn=>.all (λ(r:L8×Int)=>(St8.e n.s≠0->r.2=St8.e n.s)/\(St8.e n.s=0->r.2=Ev.e (evA n)/\(r.2=0->r.1=Ev.v (evA n)))) λn_3=>let v21:=n.s.err n_3.2;.R [.str n_3.1] [.box [.sl (List.length v21.f) 3 (fxG v21.f),.sl (List.length v21.c) 4 (chG v21.c),.i v21.day,.i v21.e],.box v2])) (.side ((0:Int)<=2/\(2:Int)<s.length) (.ex (λ(x:VX)=>eqL [.ptr 0 0,.agg [.int .u8 (Ex.kind v17),.str (Ex.rat v17),.str (Ex.name v17),.i (Ex.date v17),.sl (List.length (Ex.sub v17)) 5 (Ex.deep v17)]] [.ptr 0 0,.agg [.int .u8 x.x.kind,.str x.x.rat,.str x.x.name,.i x.x.date,.sl x.x.sub.length 5 (Ex.exG x.x.sub)]]/\eqH [.box v6] [.box [.sl x.s.f.length 3 (fxG x.s.f),.sl x.s.c.length 4 (chG x.s.c),.i x.s.day,.i x.s.e]]/\1=1/\Ex.size x.x<n/\VPre (1:Int) x) λn=>.all (λ(r:L8×Int)=>(St8.e n.s≠0->r.2=St8.e n.s)/\(St8.e n.s=0->r.2=Ev.e (evA n)/\(r.2=0->r.1=Ev.v (evA n)))) λn_3=>let v22:=n.s.err n_3.2;.R [.str n_3.1] [.box [.sl (List.length v22.f) 3 (fxG v22.f),.sl (List.length v22.c) 4 (chG v22.c),.i v22.day,.i v22.e],.box v2])))) (.side ((0:Int)<=0/\(0:Int)<s.length) (.ex (λ(x:VX)=>eqL v4 [.ptr 0 0,.agg [.int .u8 x.x.kind,.str x.x.rat,.str x.x.name,.i x.x.date,.sl x.x.sub.length 5 (Ex.exG x.x.sub)]]/\eqH v3 [.box [.sl x.s.f.length 3 (fxG x.s.f),.sl x.s.c.length 4 (chG x.s.c),.i x.s.day,.i x.s.e]]/\1=1/\Ex.size x.x<n/\VPre (1:Int) x) λn_1=>.all (λ(r:L8×Int)=>(St8.e n_1.s≠0->r.2=St8.e n_1.s)/\(St8.e n_1.s=0->r.2=Ev.e (evA n_1)/\(r.2=0->r.1=Ev.v (evA n_1)))) λn_2=>let v18:=n_1.s.err n_2.2;.side ((0:Int)<=1/\(1:Int)<s.length) (.ex (λ(x:VX)=>eqL v5 [.ptr 0 0,.agg [.int .u8 x.x.kind,.str x.x.rat,.str x.x.name,.i x.x.date,.sl x.x.sub.length 5 (Ex.exG x.x.sub)]]/\eqH [.box [.sl (List.length v18.f) 3 (fxG v18.f),.sl (List.length v18.c) 4 (chG v18.c),.i v18.day,.i v18.e]] [.box [.sl x.s.f.length 3 (fxG x.s.f),.sl x.s.c.length 4 (chG x.s.c),.i x.s.day,.i x.s.e]]/\1=1/\Ex.size x.x<n/\VPre (1:Int) x) λn=>.all (λ(r:L8×Int)=>(St8.e n.s≠0->r.2=St8.e n.s)/\(St8.e n.s=0->r.2=Ev.e (evA n)/\(r.2=0->r.1=Ev.v (evA n)))) λn_3=>let v12:=n.s.err n_3.2;let v1:=q56 [.ptr 0 0,.str n_2.1,.str n_3.1] [.box [.sl (List.length v12.f) 3 (fxG v12.f),.sl (List.length v12.c) 4 (chG v12.c),.i v12.day,.i v12.e]];.N (St8.e v12=(0:Int)) (.R [.str #[].toList] [.box [.sl (List.length v12.f) 3 (fxG v12.f),.sl (List.length v12.c) 4 (chG v12.c),.i v12.day,.i v12.e],.box v2]) (.D ((4:Int)<=k/\k<=8) (.D (k=4) (.ex v1 λn=>.all (λ(r:L8×Int)=>r.2=Prod.snd (addR n.a n.b)/\(r.2=0->r.1=Prod.fst (addR n.a n.b))) λn_4=>let v9:=bif true then K2.s n else St8.err n.s n_4.2;.ex (q52 [.ptr 0 0,.str n_4.1,.i n_4.2] [.box [.sl (List.length v9.f) 3 (fxG v9.f),.sl (List.length v9.c) 4 (chG v9.c),.i v9.day,.i v9.e]]) λn=>.all (λ(r:Int)=>r=if St8.e n.s=0 then KS.e n else St8.e n.s) λn_5=>let v23:=n.s.err n_5;.R [.str n.x] [.box [.sl (List.length v23.f) 3 (fxG v23.f),.sl (List.length v23.c) 4 (chG v23.c),.i v23.day,.i v23.e],.box v2]) (.D (k=5) (.ex v1 λn=>.all (λ(r:L8×Int)=>r.2=Prod.snd (subR n.a n.b)/\(r.2=0->r.1=Prod.fst (subR n.a n.b))) λn_4=>let v10:=bif true then K2.s n else St8.err n.s n_4.2;.ex (q52 [.ptr 0 0,.str n_4.1,.i n_4.2] [.box [.sl (List.length v10.f) 3 (fxG v10.f),.sl (List.length v10.c) 4 (chG v10.c),.i v10.day,.i v10.e]]) λn=>.all (λ(r:Int)=>r=if St8.e n.s=0 then KS.e n else St8.e n.s) λn_5=>let v24:=n.s.err n_5;.R [.str n.x] [.box [.sl (List.length v24.f) 3 (fxG v24.f),.sl (List.length v24.c) 4 (chG v24.c),.i v24.day,.i v24.e],.box v2]) (.D (k=6) (.ex v1 λn=>.all (λ(r:L8×Int)=>r.2=Prod.snd (mulR n.a n.b)/\(r.2=0->r.1=Prod.fst (mulR n.a n.b))) λn_4=>let v11:=bif true then K2.s n else St8.err n.s n_4.2;.ex (q52 [.ptr 0 0,.str n_4.1,.i n_4.2] [.box [.sl (List.length v11.f) 3 (fxG v11.f),.sl (List.length v11.c) 4 (chG v11.c),.i v11.day,.i v11.e]]) λn=>.all (λ(r:Int)=>r=if St8.e n.s=0 then KS.e n else St8.e n.s) λn_5=>let v25:=n.s.err n_5;.R [.str n.x] [.box [.sl (List.length v25.f) 3 (fxG v25.f),.sl (List.length v25.c) 4 (chG v25.c),.i v25.day,.i v25.e],.box v2]) (.D (k=7) (.ex v1 λn=>.all (λ(r:L8×Int)=>r.2=Prod.snd (jB (7:Int) n.a n.b)/\(r.2=0->r.1=Prod.fst (jB (7:Int) n.a n.b))) λn_4=>let v7:=bif false then K2.s n else St8.err n.s n_4.2;.ex (q52 [.ptr 0 0,.str n_4.1,.i n_4.2] [.box [.sl (List.length v7.f) 3 (fxG v7.f),.sl (List.length v7.c) 4 (chG v7.c),.i v7.day,.i v7.e]]) λn=>.all (λ(r:Int)=>r=if St8.e n.s=0 then KS.e n else St8.e n.s) λn_5=>let v26:=n.s.err n_5;.R [.str n.x] [.box [.sl (List.length v26.f) 3 (fxG v26.f),.sl (List.length v26.c) 4 (chG v26.c),.i v26.day,.i v26.e],.box v2]) (.D (k=8) (.ex v1 λn=>.all (λ(r:L8×Int)=>r.2=Prod.snd (jB (8:Int) n.a n.b)/\(r.2=0->r.1=Prod.fst (jB (8:Int) n.a n.b))) λn_4=>let v8:=bif false then K2.s n else St8.err n.s n_4.2;.ex (q52 [.ptr 0 0,.str n_4.1,.i n_4.2] [.box [.sl (List.length v8.f) 3 (fxG v8.f),.sl (List.length v8.c) 4 (chG v8.c),.i v8.day,.i v8.e]]) λn=>.all (λ(r:Int)=>r=if St8.e n.s=0 then KS.e n else St8.e n.s) λn_5=>let v27:=n.s.err n_5;.R [.str n.x] [.box [.sl (List.length v27.f) 3 (fxG v27.f),.sl (List.length v27.c) 4 (chG v27.c),.i v27.day,.i v27.e],.box v2]) .fail))))) .fail))))))))) ?_;simp only [q52,q55,q56,Tree.holds,zd];refine⟨λh=> ?_,λh=> ?_⟩
 ·have h:e≠0:=by simpa using h
  exact RetR.st9 rfl (hq ([],e) ⟨λ_=>rfl,λh0=>absurd h0 h⟩) rfl rfl
 have h:e=0:=by simpa using h
 subst h;obtain⟨hs,hf,hfl⟩:=hv rfl;simp only at hs hf hfl;have hq0:∀ t:L8×Int,t.2=((Ex.mk k r m d s).ev f day).e->(t.2=0->t.1=((Ex.mk k r m d s).ev f day).v)->Q (.str t.1,[(St8.mk f c day t.2).box]):=λt h1 h2=>hq t ⟨λh=>absurd rfl h,λ_=>⟨h1,h2⟩⟩
 clear hq;have hev:(Ex.mk k r m d s).ev f day=evN f day k r m d (Ex.evs f day s):=by rw [Ex.ev]
 have hc:=Ex.v9 hs;simp only [Ex.kind,Ex.sub,Ex.rat] at hc;rw [Ex.size] at hn;have z0:=λg=>Ex.z4 (s:=s) (i:=0) g
 have z1:=λg=>Ex.z4 (s:=s) (i:=1) g
 have z2:=λg=>Ex.z4 (s:=s) (i:=2) g
 have hfix:∀ (x:L8) (y:Int) (b:Blk),fixR f x y=(((Ex.mk k r m d s).ev f day).v,((Ex.mk k r m d s).ev f day).e)->∀ z,z=fixR f x y->RetR (valC λk=>k.x.size<n+1/\VPre 1 k) 1 Q [.str z.1] [.box [.sl f.length 3 (fxG f),.sl c.length 4 (chG c),.i day,.i z.2],b]:=by
  rintro x y b h1 z rfl;exact RetR.st9 rfl (hq0 _ (congrArg Prod.snd h1) λ_=>congrArg Prod.fst h1) rfl rfl
 rcases hc with ⟨rfl,hr⟩ | rfl | rfl | ⟨⟨k1,k2⟩,hl,hs0,hs1⟩ | ⟨rfl,hl,hs0,hs1,hs2⟩
 ·refine⟨λ_=> ?_,λh=>(by cases h)⟩;exact RetR.st9 rfl (hq0 (r,0) (by rw [hev]; rfl) λ_=>by rw [hev]; rfl) rfl rfl
 ·refine⟨λh=>(by cases h),λ_=>⟨λ_=> ?_,λh=>(by cases h)⟩⟩;refine⟨⟨⟨f,c,day,0⟩,m,d⟩,⟨⟨⟨rfl,rfl⟩,rfl,⟨rfl,rfl⟩,trivial⟩,qA f c day 0,by trivial,hfl,rfl⟩,⟨_,rfl⟩,?_⟩;exact hfix m d _ (by rw [hev]; rfl)
 ·refine⟨λh=>(by cases h),λ_=>⟨λh=>(by cases h),λ_=>⟨λ_=> ?_,λh=>(by cases h)⟩⟩⟩;refine⟨⟨⟨f,c,day,0⟩,m,day⟩,⟨⟨⟨rfl,rfl⟩,rfl,⟨rfl,rfl⟩,trivial⟩,qA f c day 0,by trivial,hfl,rfl⟩,⟨_,rfl⟩,?_⟩;exact hfix m day _ (by rw [hev]; rfl)
 ·iterate 4 refine⟨λh=>absurd (aB h) (by omega),λ_=> ?_⟩
  have z0:=z0 (by omega);have z1:=z1 (by omega)
  have he:(((Ex.mk k r m d s).ev f day).v,((Ex.mk k r m d s).ev f day).e)=jT [] ((s.getD 0 Ex.nil).ev f day) ((s.getD 1 Ex.nil).ev f day) (opR k):=by
   rw [hev];simp only [evN,valN];rw [aO (by omega),aO (by omega),aO (by omega),aO (by omega),Ex.zD (by omega),Ex.zD (by omega)]
  unfold jT at he;refine⟨⟨by decide,by omega⟩,λ_=>⟨⟨⟨f,c,day,0⟩,s.getD 0 Ex.nil⟩,⟨eqX2 _,qA f c day 0,by trivial,by show(s.getD 0 Ex.nil).size<n; omega,λ_=>⟨hs0,hf,hfl⟩⟩,xt _ _ _,?_⟩⟩;intro r0 g0;obtain⟨g0,k0⟩:=g0.2 rfl;simp only [evA] at g0 k0;refine⟨⟨by decide,by omega⟩,λ_=>⟨⟨⟨f,c,day,r0.2⟩,s.getD 1 Ex.nil⟩,⟨eqX2 _,qA f c day r0.2,by trivial,by show(s.getD 1 Ex.nil).size<n; omega,λ_=>⟨hs1,hf,hfl⟩⟩,xt _ _ _,?_⟩⟩;intro r1 g1;simp only [evA] at g1;refine⟨λh=> ?_,λh=> ?_⟩
  ·have h:r1.2≠0:=by
    intro h0;have h':(!decide (r1.2=0))=true:=h;rw [h0] at h'; cases h'
   refine RetR.st9 rfl (hq0 ([],r1.2) ?_ λh0=>absurd h0 h) rfl rfl;have he:=congrArg Prod.snd he;simp only at he ⊢;rw [he];by_cases h3:r0.2=0
   ·obtain⟨q1,_⟩:=g1.2 h3;rw [aO (by rw [<- g0]; simpa using h3),aP (by rw [<- q1]; exact h),q1]
   ·rw [aP (by rw [<- g0]; exact h3),g1.1 h3,g0]
  ·have h:r1.2=0:=by
    have h':(!decide (r1.2=0))=false:=h;simpa using h'
   have h3:r0.2=0:=by
    refine bM λh3=> ?_
    exact h3 (by rw [<- g1.1 h3]; exact h)
   obtain⟨q1,k1'⟩:=g1.2 h3;have k0:=k0 h3;have k1':=k1' h;rw [aO (by rw [<- g0]; simpa using h3),aO (by rw [<- q1]; simpa using h),<- k0,<- k1'] at he;have l0:=q9 (by rw [k0]; exact Ex.wm hf day _ hs0 (by rw [<- g0]; exact h3):errR r0.1=0);have l1:=q9 (by rw [k1']; exact Ex.wm hf day _ hs1 (by rw [<- q1]; exact h):errR r1.1=0);refine⟨λ_=> ?_,λhno=>absurd (aC hno) (by simp only [Classical.not_not]; exact⟨k1,k2⟩)⟩;refine⟨λhk=> ?_,λhk=> ?_⟩
   ·have hk:k=4:=aB hk;subst hk;have ho:opR 4 r0.1 r1.1=addR r0.1 r1.1:=rfl;rw [ho] at he;refine⟨⟨⟨f,c,day,0⟩,r0.1,r1.1⟩,⟨⟨⟨rfl,rfl⟩,rfl,rfl,trivial⟩,⟨⟨⟨rfl,rfl,za _ _ _⟩,⟨rfl,rfl,za _ _ _⟩,⟨rfl,rfl⟩,⟨rfl,h⟩,trivial⟩,trivial⟩,by trivial,rfl,by show r0.1.length<_; omega,by show r1.1.length<_; omega⟩,⟨addR r0.1 r1.1,rfl,λ_=>rfl⟩,?_⟩;intro t ht;obtain⟨t1,t2⟩:=ht;simp only at t1 t2;refine⟨⟨⟨f,c,day,0⟩,t.1,t.2⟩,⟨⟨⟨rfl,rfl⟩,rfl,⟨rfl,rfl⟩,trivial⟩,qA f c day _,by trivial,trivial⟩,⟨_,rfl⟩,?_⟩;intro z hz
    have hz:z=t.2:=by
     rw [hz];show(if 0=(0:Int) then t.2 else 0)=t.2;by_cases g:t.2=0<;>simp [g]
    subst hz;exact RetR.st9 rfl (hq0 t (by rw [t1]; exact(congrArg Prod.snd he).symm) λg=>by rw [t2 g]; exact(congrArg Prod.fst he).symm) rfl rfl
   have hk:¬ k=4:=aC hk;refine⟨λhk=> ?_,λhk=> ?_⟩
   ·have hk:k=5:=aB hk;subst hk;have ho:opR 5 r0.1 r1.1=subR r0.1 r1.1:=rfl;rw [ho] at he;refine⟨⟨⟨f,c,day,0⟩,r0.1,r1.1⟩,⟨⟨⟨rfl,rfl⟩,rfl,rfl,trivial⟩,⟨⟨⟨rfl,rfl,za _ _ _⟩,⟨rfl,rfl,za _ _ _⟩,⟨rfl,rfl⟩,⟨rfl,h⟩,trivial⟩,trivial⟩,by trivial,rfl,by show r0.1.length<_; omega,by show r1.1.length<_; omega⟩,⟨subR r0.1 r1.1,rfl,λ_=>rfl⟩,?_⟩;intro t ht;obtain⟨t1,t2⟩:=ht;simp only at t1 t2;refine⟨⟨⟨f,c,day,0⟩,t.1,t.2⟩,⟨⟨⟨rfl,rfl⟩,rfl,⟨rfl,rfl⟩,trivial⟩,qA f c day _,by trivial,trivial⟩,⟨_,rfl⟩,?_⟩;intro z hz
    have hz:z=t.2:=by
     rw [hz];show(if 0=(0:Int) then t.2 else 0)=t.2;by_cases g:t.2=0<;>simp [g]
    subst hz;exact RetR.st9 rfl (hq0 t (by rw [t1]; exact(congrArg Prod.snd he).symm) λg=>by rw [t2 g]; exact(congrArg Prod.fst he).symm) rfl rfl
   have hk:¬ k=5:=aC hk;refine⟨λhk=> ?_,λhk=> ?_⟩
   ·have hk:k=6:=aB hk;subst hk;have ho:opR 6 r0.1 r1.1=mulR r0.1 r1.1:=rfl;rw [ho] at he;refine⟨⟨⟨f,c,day,0⟩,r0.1,r1.1⟩,⟨⟨⟨rfl,rfl⟩,rfl,rfl,trivial⟩,⟨⟨⟨rfl,rfl,za _ _ _⟩,⟨rfl,rfl,za _ _ _⟩,⟨rfl,rfl⟩,⟨rfl,h⟩,trivial⟩,trivial⟩,by trivial,rfl,by show r0.1.length<_; omega,by show r1.1.length<_; omega⟩,⟨mulR r0.1 r1.1,rfl,λ_=>rfl⟩,?_⟩;intro t ht;obtain⟨t1,t2⟩:=ht;simp only at t1 t2;refine⟨⟨⟨f,c,day,0⟩,t.1,t.2⟩,⟨⟨⟨rfl,rfl⟩,rfl,⟨rfl,rfl⟩,trivial⟩,qA f c day _,by trivial,trivial⟩,⟨_,rfl⟩,?_⟩;intro z hz
    have hz:z=t.2:=by
     rw [hz];show(if 0=(0:Int) then t.2 else 0)=t.2;by_cases g:t.2=0<;>simp [g]
    subst hz;exact RetR.st9 rfl (hq0 t (by rw [t1]; exact(congrArg Prod.snd he).symm) λg=>by rw [t2 g]; exact(congrArg Prod.fst he).symm) rfl rfl
   have hk:¬ k=6:=aC hk;refine⟨λhk=> ?_,λhk=> ?_⟩
   ·have hk:k=7:=aB hk;subst hk;have ho:opR 7 r0.1 r1.1=(jB 7) r0.1 r1.1:=rfl;rw [ho] at he;refine⟨⟨⟨f,c,day,0⟩,r0.1,r1.1⟩,⟨⟨⟨rfl,rfl⟩,rfl,rfl,trivial⟩,⟨⟨⟨rfl,rfl,za _ _ _⟩,⟨rfl,rfl,za _ _ _⟩,⟨rfl,rfl⟩,⟨rfl,h⟩,trivial⟩,trivial⟩,by trivial,rfl,by show r0.1.length<_; omega,by show r1.1.length<_; omega⟩,⟨(jB 7) r0.1 r1.1,rfl,λ_=>rfl⟩,?_⟩;intro t ht;obtain⟨t1,t2⟩:=ht;simp only at t1 t2;refine⟨⟨⟨f,c,day,t.2⟩,t.1,t.2⟩,⟨⟨⟨rfl,rfl⟩,rfl,⟨rfl,rfl⟩,trivial⟩,qA f c day _,by trivial,trivial⟩,⟨_,rfl⟩,?_⟩;intro z hz
    have hz:z=t.2:=by
     rw [hz];show(if t.2=(0:Int) then t.2 else t.2)=t.2;by_cases g:t.2=0<;>simp [g]
    subst hz;exact RetR.st9 rfl (hq0 t (by rw [t1]; exact(congrArg Prod.snd he).symm) λg=>by rw [t2 g]; exact(congrArg Prod.fst he).symm) rfl rfl
   have hk:¬ k=7:=aC hk;refine⟨λhk=> ?_,λhk=> ?_⟩
   ·have hk:k=8:=aB hk;subst hk;have ho:opR 8 r0.1 r1.1=(jB 8) r0.1 r1.1:=rfl;rw [ho] at he;refine⟨⟨⟨f,c,day,0⟩,r0.1,r1.1⟩,⟨⟨⟨rfl,rfl⟩,rfl,rfl,trivial⟩,⟨⟨⟨rfl,rfl,za _ _ _⟩,⟨rfl,rfl,za _ _ _⟩,⟨rfl,rfl⟩,⟨rfl,h⟩,trivial⟩,trivial⟩,by trivial,rfl,by show r0.1.length<_; omega,by show r1.1.length<_; omega⟩,⟨(jB 8) r0.1 r1.1,rfl,λ_=>rfl⟩,?_⟩;intro t ht;obtain⟨t1,t2⟩:=ht;simp only at t1 t2;refine⟨⟨⟨f,c,day,t.2⟩,t.1,t.2⟩,⟨⟨⟨rfl,rfl⟩,rfl,⟨rfl,rfl⟩,trivial⟩,qA f c day _,by trivial,trivial⟩,⟨_,rfl⟩,?_⟩;intro z hz
    have hz:z=t.2:=by
     rw [hz];show(if t.2=(0:Int) then t.2 else t.2)=t.2;by_cases g:t.2=0<;>simp [g]
    subst hz;exact RetR.st9 rfl (hq0 t (by rw [t1]; exact(congrArg Prod.snd he).symm) λg=>by rw [t2 g]; exact(congrArg Prod.fst he).symm) rfl rfl
   have hk:¬ k=8:=aC hk;omega
 ·iterate 3 refine⟨λh=>(by cases h),λ_=> ?_⟩
  refine⟨λ_=> ?_,λh=>(by cases h)⟩;have z0:=z0 (by omega);have z1:=z1 (by omega);have z2:=z2 (by omega)
  have he:(((Ex.mk 9 r m d s).ev f day).v,((Ex.mk 9 r m d s).ev f day).e)=if((s.getD 0 Ex.nil).ev f day).g≠0 then([],((s.getD 0 Ex.nil).ev f day).g) else if((s.getD 0 Ex.nil).ev f day).b then(((s.getD 1 Ex.nil).ev f day).v,((s.getD 1 Ex.nil).ev f day).e) else(((s.getD 2 Ex.nil).ev f day).v,((s.getD 2 Ex.nil).ev f day).e):=by
   rw [hev];simp only [evN,valN];rw [aO (by decide),aO (by decide),aO (by decide),aP trivial,Ex.zD (by omega),Ex.zD (by omega),Ex.zD (by omega)]
  refine⟨⟨by decide,by omega⟩,λ_=>⟨⟨⟨f,c,day,0⟩,s.getD 0 Ex.nil⟩,⟨eqX2 _,qA f c day 0,by trivial,by show(s.getD 0 Ex.nil).size<n; omega,λ_=>⟨hs0,hf,hfl⟩⟩,Zp _ _ _,?_⟩⟩;intro r0 g0;obtain⟨g0,k0⟩:=g0.2 rfl;simp only [evA] at g0 k0
  have fin:∀ (y:Ex),(r0.2=0->(((Ex.mk 9 r m d s).ev f day).v,((Ex.mk 9 r m d s).ev f day).e)=((y.ev f day).v,(y.ev f day).e))->∀ (b:Blk) (t:L8×Int),((r0.2≠0->t.2=r0.2)/\(r0.2=0->t.2=(y.ev f day).e/\(t.2=0->t.1=(y.ev f day).v))) ->
    RetR (valC λk=>k.x.size<n+1/\VPre 1 k) 1 Q [.str t.1] [.box [.sl f.length 3 (fxG f),.sl c.length 4 (chG c),.i day,.i t.2],b]:=by
   intro y hy b t ht;refine RetR.st9 rfl (hq0 t ?_ λh0=> ?_) rfl rfl
   ·by_cases h3:r0.2=0
    ·rw [(ht.2 h3).1]; exact(congrArg Prod.snd (hy h3)).symm
    ·rw [ht.1 h3,g0];rw [aP (by rw [<- g0]; exact h3)] at he;exact(congrArg Prod.snd he).symm
   ·have h3:r0.2=0:=by
     refine bM λh3=> ?_
     exact h3 (by rw [<- ht.1 h3]; exact h0)
    rw [(ht.2 h3).2 h0]; exact(congrArg Prod.fst (hy h3)).symm
  refine⟨λhb=> ?_,λhb=> ?_⟩
  ·refine⟨⟨by decide,by omega⟩,λ_=>⟨⟨⟨f,c,day,r0.2⟩,s.getD 1 Ex.nil⟩,⟨eqX2 _,qA f c day r0.2,by trivial,by show(s.getD 1 Ex.nil).size<n; omega,λ_=>⟨hs1,hf,hfl⟩⟩,xt _ _ _,?_⟩⟩;intro t ht;exact fin _ (λh3=>by rw [he,aO (by rw [<- g0]; simpa using h3),aP (by rw [<- k0 h3]; exact hb)]) _ t ht
  ·refine⟨⟨by decide,by omega⟩,λ_=>⟨⟨⟨f,c,day,r0.2⟩,s.getD 2 Ex.nil⟩,⟨eqX2 _,qA f c day r0.2,by trivial,by show(s.getD 2 Ex.nil).size<n; omega,λ_=>⟨hs2,hf,hfl⟩⟩,xt _ _ _,?_⟩⟩;intro t ht;exact fin _ (λh3=>by rw [he,aO (by rw [<- g0]; simpa using h3),aO (by rw [<- k0 h3,hb]; decide)]) _ t ht
theorem YA:zc prog 65 (hldC λk=>k.x.size<n+1/\VPre 2 k):=by
 refine qi (fn:=f65) (c:=f65.body.getD .skip) rfl rfl rfl (λh=>by cases h) λk hk O w0 I0 Q hl0 hq=> ?_
 obtain⟨⟨f,c,day,e⟩,⟨k,r,m,d,s⟩⟩:=k;obtain⟨hn,hv⟩:=hk;simp only at hn hv hq;refine zb.n (zjd h1 h2) [] (let v11:=s.getD 0 Ex.nil;let v10:=s.getD 1 Ex.nil;let v4:List Blk:=[.box [.sl f.length 3 (fxG f),.sl c.length 4 (chG c),.i day,.i e]];let v3:List AV:=[.int .u8 k,.str r,.str m,.i d,.sl s.length 5 (Ex.exG s)];let v2:=[AV.ptr 0 0,AV.agg [.int .u8 (Ex.kind v10),.str (Ex.rat v10),.str (Ex.name v10),.i (Ex.date v10),.sl (List.length (Ex.sub v10)) 5 (Ex.deep v10)]];let v1:=[AV.ptr 0 0,AV.agg [.int .u8 (Ex.kind v11),.str (Ex.rat v11),.str (Ex.name v11),.i (Ex.date v11),.sl (List.length (Ex.sub v11)) 5 (Ex.deep v11)]];.N (e=0) (.R [.bool false] [.box [.sl f.length 3 (fxG f),.sl c.length 4 (chG c),.i day,.i e],.box v3]) (.D (k=13) (.side ((0:Int)<=0/\(0:Int)<s.length) (.ex (λ(x:VX)=>eqL v1 [.ptr 0 0,.agg [.int .u8 x.x.kind,.str x.x.rat,.str x.x.name,.i x.x.date,.sl x.x.sub.length 5 (Ex.exG x.x.sub)]]/\eqH v4 [.box [.sl x.s.f.length 3 (fxG x.s.f),.sl x.s.c.length 4 (chG x.s.c),.i x.s.day,.i x.s.e]]/\1=1/\Ex.size x.x<n/\VPre (2:Int) x) λn_1=>.all (λ(r:Bool×Int)=>(St8.e n_1.s≠0->r.2=St8.e n_1.s)/\(St8.e n_1.s=0->r.2=Ev.g (evA n_1)/\(r.2=0->r.1=Ev.b (evA n_1)))) λn_2=>let v6:=n_1.s.err n_2.2;.side (n_2.1=true->(0:Int)<=1/\(1:Int)<s.length) (.ite (n_2.1 == true) (.ex (λ(x:VX)=>eqL v2 [.ptr 0 0,.agg [.int .u8 x.x.kind,.str x.x.rat,.str x.x.name,.i x.x.date,.sl x.x.sub.length 5 (Ex.exG x.x.sub)]]/\eqH [.box [.sl (List.length v6.f) 3 (fxG v6.f),.sl (List.length v6.c) 4 (chG v6.c),.i v6.day,.i v6.e]] [.box [.sl x.s.f.length 3 (fxG x.s.f),.sl x.s.c.length 4 (chG x.s.c),.i x.s.day,.i x.s.e]]/\1=1/\Ex.size x.x<n/\VPre (2:Int) x) λn=>.all (λ(r:Bool×Int)=>(St8.e n.s≠0->r.2=St8.e n.s)/\(St8.e n.s=0->r.2=Ev.g (evA n)/\(r.2=0->r.1=Ev.b (evA n)))) λn_3=>let v13:=n.s.err n_3.2;.R [.bool (bif n_2.1 then n_3.1 else false)] [.box [.sl (List.length v13.f) 3 (fxG v13.f),.sl (List.length v13.c) 4 (chG v13.c),.i v13.day,.i v13.e],.box v3]) (.R [.bool (bif n_2.1 then false else false)] [.box [.sl (List.length v6.f) 3 (fxG v6.f),.sl (List.length v6.c) 4 (chG v6.c),.i v6.day,.i v6.e],.box v3])))) (.D (k=14) (.side ((0:Int)<=0/\(0:Int)<s.length) (.ex (λ(x:VX)=>eqL v1 [.ptr 0 0,.agg [.int .u8 x.x.kind,.str x.x.rat,.str x.x.name,.i x.x.date,.sl x.x.sub.length 5 (Ex.exG x.x.sub)]]/\eqH v4 [.box [.sl x.s.f.length 3 (fxG x.s.f),.sl x.s.c.length 4 (chG x.s.c),.i x.s.day,.i x.s.e]]/\1=1/\Ex.size x.x<n/\VPre (2:Int) x) λn_1=>.all (λ(r:Bool×Int)=>(St8.e n_1.s≠0->r.2=St8.e n_1.s)/\(St8.e n_1.s=0->r.2=Ev.g (evA n_1)/\(r.2=0->r.1=Ev.b (evA n_1)))) λn_2=>let v7:=n_1.s.err n_2.2;.side (n_2.1=false->(0:Int)<=1/\(1:Int)<s.length) (.ite (n_2.1 == false) (.ex (λ(x:VX)=>eqL v2 [.ptr 0 0,.agg [.int .u8 x.x.kind,.str x.x.rat,.str x.x.name,.i x.x.date,.sl x.x.sub.length 5 (Ex.exG x.x.sub)]]/\eqH [.box [.sl (List.length v7.f) 3 (fxG v7.f),.sl (List.length v7.c) 4 (chG v7.c),.i v7.day,.i v7.e]] [.box [.sl x.s.f.length 3 (fxG x.s.f),.sl x.s.c.length 4 (chG x.s.c),.i x.s.day,.i x.s.e]]/\1=1/\Ex.size x.x<n/\VPre (2:Int) x) λn=>.all (λ(r:Bool×Int)=>(St8.e n.s≠0->r.2=St8.e n.s)/\(St8.e n.s=0->r.2=Ev.g (evA n)/\(r.2=0->r.1=Ev.b (evA n)))) λn_3=>let v14:=n.s.err n_3.2;.R [.bool (bif n_2.1 then true else n_3.1)] [.box [.sl (List.length v14.f) 3 (fxG v14.f),.sl (List.length v14.c) 4 (chG v14.c),.i v14.day,.i v14.e],.box v3]) (.R [.bool (bif n_2.1 then true else false)] [.box [.sl (List.length v7.f) 3 (fxG v7.f),.sl (List.length v7.c) 4 (chG v7.c),.i v7.day,.i v7.e],.box v3])))) (.D (k=15) (.side ((0:Int)<=0/\(0:Int)<s.length) (.ex (λ(x:VX)=>eqL v1 [.ptr 0 0,.agg [.int .u8 x.x.kind,.str x.x.rat,.str x.x.name,.i x.x.date,.sl x.x.sub.length 5 (Ex.exG x.x.sub)]]/\eqH v4 [.box [.sl x.s.f.length 3 (fxG x.s.f),.sl x.s.c.length 4 (chG x.s.c),.i x.s.day,.i x.s.e]]/\1=1/\Ex.size x.x<n/\VPre (2:Int) x) λn=>.all (λ(r:Bool×Int)=>(St8.e n.s≠0->r.2=St8.e n.s)/\(St8.e n.s=0->r.2=Ev.g (evA n)/\(r.2=0->r.1=Ev.b (evA n)))) λn_1=>let v8:=n.s.err n_1.2;.R [.bool (bif !Prod.fst n_1 then decide (St8.e v8=(0:Int)) else false)] [.box [.sl (List.length v8.f) 3 (fxG v8.f),.sl (List.length v8.c) 4 (chG v8.c),.i v8.day,.i v8.e],.box v3])) (.side ((0:Int)<=0/\(0:Int)<s.length) (.ex (λ(x:VX)=>eqL v1 [.ptr 0 0,.agg [.int .u8 x.x.kind,.str x.x.rat,.str x.x.name,.i x.x.date,.sl x.x.sub.length 5 (Ex.exG x.x.sub)]]/\eqH v4 [.box [.sl x.s.f.length 3 (fxG x.s.f),.sl x.s.c.length 4 (chG x.s.c),.i x.s.day,.i x.s.e]]/\1=1/\Ex.size x.x<n/\VPre (1:Int) x) λn_1=>.all (λ(r:L8×Int)=>(St8.e n_1.s≠0->r.2=St8.e n_1.s)/\(St8.e n_1.s=0->r.2=Ev.e (evA n_1)/\(r.2=0->r.1=Ev.v (evA n_1)))) λn_2=>let v12:=n_1.s.err n_2.2;.side ((0:Int)<=1/\(1:Int)<s.length) (.ex (λ(x:VX)=>eqL v2 [.ptr 0 0,.agg [.int .u8 x.x.kind,.str x.x.rat,.str x.x.name,.i x.x.date,.sl x.x.sub.length 5 (Ex.exG x.x.sub)]]/\eqH [.box [.sl (List.length v12.f) 3 (fxG v12.f),.sl (List.length v12.c) 4 (chG v12.c),.i v12.day,.i v12.e]] [.box [.sl x.s.f.length 3 (fxG x.s.f),.sl x.s.c.length 4 (chG x.s.c),.i x.s.day,.i x.s.e]]/\1=1/\Ex.size x.x<n/\VPre (1:Int) x) λn=>.all (λ(r:L8×Int)=>(St8.e n.s≠0->r.2=St8.e n.s)/\(St8.e n.s=0->r.2=Ev.e (evA n)/\(r.2=0->r.1=Ev.v (evA n)))) λn_3=>let v15:=n.s.err n_3.2;.ex (q54 [.ptr 0 0,.str n_2.1,.str n_3.1] [.box [.sl (List.length v15.f) 3 (fxG v15.f),.sl (List.length v15.c) 4 (chG v15.c),.i v15.day,.i v15.e]]) λn=>.all (λ(r:Int×Int)=>r=cmpE n.s.e n.a n.b) λn_4=>let v9:=n.s.err n_4.2;let v5:List Blk:=[.box [.sl (List.length v9.f) 3 (fxG v9.f),.sl (List.length v9.c) 4 (chG v9.c),.i v9.day,.i v9.e],.box v3];.D (k=11) (.R [.bool (decide (n_4.1<0))] v5) (.R [.bool (bif decide (n_4.1=0) then decide (St8.e v9=(0:Int)) else false)] v5)))))))) ?_;simp only [q54,Tree.holds,zd];refine⟨λh=> ?_,λh=> ?_⟩
 ·have h:e≠0:=by simpa using h
  exact RetR.st9 rfl (hq (false,e) ⟨λ_=>rfl,λh0=>absurd h0 h⟩) rfl rfl
 have h:e=0:=by simpa using h
 subst h;obtain⟨hs,hf,hfl⟩:=hv rfl;simp only at hs hf hfl;have hq0:∀ t:Bool×Int,t.2=((Ex.mk k r m d s).ev f day).g->(t.2=0->t.1=((Ex.mk k r m d s).ev f day).b)->Q (.bool t.1,[(St8.mk f c day t.2).box]):=λt h1 h2=>hq t ⟨λh=>absurd rfl h,λ_=>⟨h1,h2⟩⟩
 clear hq;have hev:(Ex.mk k r m d s).ev f day=evN f day k r m d (Ex.evs f day s):=by rw [Ex.ev]
 have hc:=Ex.ZO hs;simp only [Ex.kind,Ex.sub,Ex.rat] at hc;rw [Ex.size] at hn;have z0:=λg=>Ex.z4 (s:=s) (i:=0) g
 have z1:=λg=>Ex.z4 (s:=s) (i:=1) g
 have fin:∀ (t:Bool×Int) (b:Blk),t.2=((Ex.mk k r m d s).ev f day).g->(t.2=0->t.1=((Ex.mk k r m d s).ev f day).b)->RetR (hldC λk=>k.x.size<n+1/\VPre 2 k) 1 Q [.bool t.1] [.box [.sl f.length 3 (fxG f),.sl c.length 4 (chG c),.i day,.i t.2],b]:=λt b h1 h2=>RetR.st9 rfl (hq0 t h1 h2) rfl rfl
 rcases hc with ⟨hk,hl,hs0,hs1⟩ | ⟨hk,hl,hs0,hs1⟩ | ⟨rfl,hl,hs0⟩
 ·iterate 3 refine⟨λh=>absurd (aB h) (by omega),λ_=> ?_⟩
  have z0:=z0 (by omega);have z1:=z1 (by omega)
  have he:(((Ex.mk k r m d s).ev f day).b,((Ex.mk k r m d s).ev f day).g)=jT false ((s.getD 0 Ex.nil).ev f day) ((s.getD 1 Ex.nil).ev f day) (QI k):=by
   rw [hev];simp only [evN,hldN];rw [aO (by omega),Ex.zD (by omega),Ex.zD (by omega)]
  unfold jT at he;refine⟨⟨by decide,by omega⟩,λ_=>⟨⟨⟨f,c,day,0⟩,s.getD 0 Ex.nil⟩,⟨eqX2 _,qA f c day 0,by trivial,by show(s.getD 0 Ex.nil).size<n; omega,λ_=>⟨hs0,hf,hfl⟩⟩,xt _ _ _,?_⟩⟩;intro r0 g0;obtain⟨g0,k0⟩:=g0.2 rfl;simp only [evA] at g0 k0;refine⟨⟨by decide,by omega⟩,λ_=>⟨⟨⟨f,c,day,r0.2⟩,s.getD 1 Ex.nil⟩,⟨eqX2 _,qA f c day r0.2,by trivial,by show(s.getD 1 Ex.nil).size<n; omega,λ_=>⟨hs1,hf,hfl⟩⟩,xt _ _ _,?_⟩⟩;intro r1 g1;simp only [evA] at g1
  have hboth:r1.2=0->r0.2=0/\r0.1=((s.getD 0 Ex.nil).ev f day).v/\r1.1=((s.getD 1 Ex.nil).ev f day).v/\errR r0.1=0/\errR r1.1=0/\((Ex.mk k r m d s).ev f day).b=(QI k r0.1 r1.1).1/\((Ex.mk k r m d s).ev f day).g=(QI k r0.1 r1.1).2:=by
   intro h
   have h3:r0.2=0:=by
    refine bM λh3=> ?_
    exact h3 (by rw [<- g1.1 h3]; exact h)
   obtain⟨q1,k1'⟩:=g1.2 h3;have k0:=k0 h3;have k1':=k1' h;rw [aO (by rw [<- g0]; simpa using h3),aO (by rw [<- q1]; simpa using h),<- k0,<- k1'] at he;have l0:errR r0.1=0:=by rw [k0]; exact Ex.wm hf day _ hs0 (by rw [<- g0]; exact h3)
   have l1:errR r1.1=0:=by rw [k1']; exact Ex.wm hf day _ hs1 (by rw [<- q1]; exact h)
   exact⟨h3,k0,k1',l0,l1,congrArg Prod.fst he,congrArg Prod.snd he⟩
  refine⟨⟨⟨f,c,day,r1.2⟩,r0.1,r1.1⟩,⟨⟨⟨rfl,rfl⟩,rfl,rfl,trivial⟩,qA f c day r1.2,by trivial,λh=> ?_⟩,⟨_,rfl⟩,?_⟩
  ·obtain⟨_,_,_,l0,l1,_⟩:=hboth h;have l0:=q9 l0;have l1:=q9 l1;exact⟨by show r0.1.length<_; omega,by show r1.1.length<_; omega⟩
  intro z hz;simp only at hz;by_cases h:r1.2=0
  ·obtain⟨h3,k0,k1',l0,l1,e1,e2⟩:=hboth h;have hz:z=cmpR r0.1 r1.1:=by rw [hz]; unfold cmpE; rw [aO (by rw [h]; simp)]
   unfold QI at e1 e2;refine⟨λhk=> ?_,λhk=> ?_⟩
   ·have hk:k=11:=aB hk;refine fin (decide (z.1<0),z.2) _ ?_ λh0=> ?_
    ·rw [e2,hz];by_cases g:(cmpR r0.1 r1.1).2=0
     ·rw [aO (by rw [g]; simp)]; exact g
     ·rw [aP g]
    ·have h0:z.2=0:=h0;rw [hz] at h0 ⊢;rw [e1,aO (by rw [h0]; simp),aP hk]
   ·have hk:¬ k=11:=aC hk;refine fin ((bif decide (z.1=0) then decide (z.2=0) else false),z.2) _ ?_ λh0=> ?_
    ·rw [e2,hz];by_cases g:(cmpR r0.1 r1.1).2=0
     ·rw [aO (by rw [g]; simp)]; exact g
     ·rw [aP g]
    ·have h0:z.2=0:=h0;rw [hz] at h0 ⊢;rw [e1,aO (by rw [h0]; simp),aO hk];simp only [h0];cases decide ((cmpR r0.1 r1.1).1=0)<;>rfl
  ·have hz:z=(0,r1.2):=by rw [hz]; unfold cmpE; rw [aP h]
   have hg:((Ex.mk k r m d s).ev f day).g=r1.2:=by
    have he:=congrArg Prod.snd he;simp only at he;rw [he];by_cases h3:r0.2=0
    ·obtain⟨q1,_⟩:=g1.2 h3;rw [aO (by rw [<- g0]; simpa using h3),aP (by rw [<- q1]; exact h),q1]
    ·rw [aP (by rw [<- g0]; exact h3),g1.1 h3,g0]
   subst hz;refine⟨λhk=> ?_,λhk=> ?_⟩
   ·exact fin (false,r1.2) _ hg.symm λh0=>absurd h0 h
   ·refine fin ((bif decide ((0:Int)=0) then decide (r1.2=0) else false),r1.2) _ hg.symm λh0=>absurd h0 h
 ·have z0:=z0 (by omega);have z1:=z1 (by omega)
  have he:(((Ex.mk k r m d s).ev f day).b,((Ex.mk k r m d s).ev f day).g)=if((s.getD 0 Ex.nil).ev f day).g≠0 then(false,((s.getD 0 Ex.nil).ev f day).g) else if((s.getD 0 Ex.nil).ev f day).b=decide (k=14) then(((s.getD 0 Ex.nil).ev f day).b,0) else(((s.getD 1 Ex.nil).ev f day).b,((s.getD 1 Ex.nil).ev f day).g):=by
   rw [hev];simp only [evN,hldN];rw [aP (by omega),aO (show ¬ k=15 by omega),Ex.zD (by omega),Ex.zD (by omega)]
  have go:∀ (r0:Bool×Int),r0.2=((s.getD 0 Ex.nil).ev f day).g->(r0.2=0->r0.1=((s.getD 0 Ex.nil).ev f day).b) ->
    (r0.1=decide (k=14)->r0.2=((Ex.mk k r m d s).ev f day).g/\(r0.2=0->r0.1=((Ex.mk k r m d s).ev f day).b)) /\
    (r0.1≠decide (k=14)->∀ r1:Bool×Int,((r0.2≠0->r1.2=r0.2)/\(r0.2=0->r1.2=((s.getD 1 Ex.nil).ev f day).g/\(r1.2=0->r1.1=((s.getD 1 Ex.nil).ev f day).b)))->r1.2=((Ex.mk k r m d s).ev f day).g/\(r1.2=0->r1.1=((Ex.mk k r m d s).ev f day).b)):=by
   intro r0 g0 k0;have e1:=congrArg Prod.fst he;have e2:=congrArg Prod.snd he;simp only at e1 e2;rw [e1,e2];by_cases h3:r0.2=0
   ·rw [aO (by rw [<- g0]; simpa using h3),<- k0 h3];refine⟨λh=> ?_,λh r1 g1=> ?_⟩
    ·rw [aP h]; exact⟨h3,λ_=>rfl⟩
    ·rw [aO h]; exact g1.2 h3
   ·rw [aP (by rw [<- g0]; exact h3)];refine⟨λh=>⟨g0,λh0=>absurd h0 h3⟩,λh r1 g1=> ?_⟩;rw [g1.1 h3];exact⟨g0,λh0=>absurd h0 h3⟩
  have first:∃ r:Bool×Int,((0:Int)≠0->r.2=0)/\((0:Int)=0->r.2=(evA ⟨⟨f,c,day,0⟩,s.getD 0 Ex.nil⟩).g/\(r.2=0->r.1=(evA ⟨⟨f,c,day,0⟩,s.getD 0 Ex.nil⟩).b)):=Zp _ _ _;rcases hk with rfl | rfl
  ·refine⟨λ_=> ?_,λh=>(by cases h)⟩;refine⟨⟨by decide,by omega⟩,λ_=>⟨⟨⟨f,c,day,0⟩,s.getD 0 Ex.nil⟩,⟨eqX2 _,qA f c day 0,by trivial,by show(s.getD 0 Ex.nil).size<n; omega,λ_=>⟨hs0,hf,hfl⟩⟩,first,?_⟩⟩;intro r0 g0;obtain⟨g0,k0⟩:=g0.2 rfl;obtain⟨go1,go2⟩:=go r0 g0 k0;refine⟨λ_=>⟨by decide,by omega⟩,λ_=>⟨λhb=> ?_,λhb=> ?_⟩⟩
   ·have hb:r0.1=true:=by simpa using hb
    refine⟨⟨⟨f,c,day,r0.2⟩,s.getD 1 Ex.nil⟩,⟨eqX2 _,qA f c day r0.2,by trivial,by show(s.getD 1 Ex.nil).size<n; omega,λ_=>⟨hs1,hf,hfl⟩⟩,Zp _ _ _,?_⟩;intro r1 g1;rw [hb];obtain⟨u1,u2⟩:=go2 (by rw [hb]; decide) r1 g1;exact fin r1 _ u1 u2
   ·have hb:r0.1=false:=by simpa using hb
    rw [hb];obtain⟨u1,u2⟩:=go1 (by rw [hb]; rfl);exact fin (false,r0.2) _ u1 (λh0=>by rw [<- u2 h0,hb])
  ·refine⟨λh=>(by cases h),λ_=>⟨λ_=> ?_,λh=>(by cases h)⟩⟩;refine⟨⟨by decide,by omega⟩,λ_=>⟨⟨⟨f,c,day,0⟩,s.getD 0 Ex.nil⟩,⟨eqX2 _,qA f c day 0,by trivial,by show(s.getD 0 Ex.nil).size<n; omega,λ_=>⟨hs0,hf,hfl⟩⟩,first,?_⟩⟩;intro r0 g0;obtain⟨g0,k0⟩:=g0.2 rfl;obtain⟨go1,go2⟩:=go r0 g0 k0;refine⟨λ_=>⟨by decide,by omega⟩,λ_=>⟨λhb=> ?_,λhb=> ?_⟩⟩
   ·have hb:r0.1=false:=by simpa using hb
    refine⟨⟨⟨f,c,day,r0.2⟩,s.getD 1 Ex.nil⟩,⟨eqX2 _,qA f c day r0.2,by trivial,by show(s.getD 1 Ex.nil).size<n; omega,λ_=>⟨hs1,hf,hfl⟩⟩,Zp _ _ _,?_⟩;intro r1 g1;rw [hb];obtain⟨u1,u2⟩:=go2 (by rw [hb]; decide) r1 g1;exact fin r1 _ u1 u2
   ·have hb:r0.1=true:=by simpa using hb
    rw [hb];obtain⟨u1,u2⟩:=go1 (by rw [hb]; rfl);exact fin (true,r0.2) _ u1 (λh0=>by rw [<- u2 h0,hb])
 ·iterate 2 refine⟨λh=>(by cases h),λ_=> ?_⟩
  refine⟨λ_=> ?_,λh=>(by cases h)⟩;have z0:=z0 (by omega)
  have he:(((Ex.mk 15 r m d s).ev f day).b,((Ex.mk 15 r m d s).ev f day).g)=if((s.getD 0 Ex.nil).ev f day).g≠0 then(false,((s.getD 0 Ex.nil).ev f day).g) else(!((s.getD 0 Ex.nil).ev f day).b,0):=by
   rw [hev];simp only [evN,hldN];rw [aP (by decide),aP trivial,Ex.zD (by omega)]
  refine⟨⟨by decide,by omega⟩,λ_=>⟨⟨⟨f,c,day,0⟩,s.getD 0 Ex.nil⟩,⟨eqX2 _,qA f c day 0,by trivial,by show(s.getD 0 Ex.nil).size<n; omega,λ_=>⟨hs0,hf,hfl⟩⟩,Zp _ _ _,?_⟩⟩;intro r0 g0;obtain⟨g0,k0⟩:=g0.2 rfl;simp only [evA] at g0 k0;have e1:=congrArg Prod.fst he;have e2:=congrArg Prod.snd he;simp only at e1 e2;refine fin ((bif !r0.1 then decide (r0.2=0) else false),r0.2) _ ?_ λh3=> ?_
  ·rw [e2];by_cases h3:r0.2=0
   ·rw [aO (by rw [<- g0]; simpa using h3)]; exact h3
   ·rw [aP (by rw [<- g0]; exact h3)]; exact g0
  ·have h3:r0.2=0:=h3;rw [e1,aO (by rw [<- g0]; simpa using h3),<- k0 h3];simp only [h3];cases r0.1<;>rfl
end
theorem zc3:zc prog 34 (valC (VPre 1))/\zc prog 65 (hldC (VPre 2)):=
 zeh (λk:VX=>k.x.size) (λk:VX=>k.x.size) λn h1 h2=>⟨UN n h1 h2,YA n h1 h2⟩
theorem zfo:zc prog 34 (valC (VPre 1)):=zc3.1
theorem zg9:zc prog 65 (hldC (VPre 2)):=zc3.2
end Go.Proofs.Tryz
end
section
set_option maxRecDepth 100000
open Go Go.Sx Go.Proofs Go.Nov
namespace Go.Proofs.Tryz
attribute [local simp] eqKV eqA eqA0 eqH eqB eqL eqL0
structure BX where
 x:Ex
 want:Int
 day:Int
 f:List Fx
 c:List Ch
def BX.ask(b:BX):Int:=askE b.x b.want b.day b.f b.c
def yM:Ctr:=ctrT false false (λb:BX=>[b.x.exA,.int .u8 b.want,.i b.day,envA b.f b.c]) (λ_=>[]) (λb=>b.x.size<2^40/\b.x.z3<2^40/\envP (b.f,b.c)) (λb r=>r=b.ask) (λb (r:Int)=>(.ptr 0 0,[(St8.mk b.f b.c b.day r).box]))
noncomputable def GBe:=tb zes (tb zap (tb zcv (tb Zw tz)))
abbrev q57(A:List AV)(x:List Fx×List Ch):Prop:=eqL A [.agg [.sl x.1.length 3 (fxG x.1),.sl x.2.length 4 (chG x.2)]]/\envP x
theorem zjh:zc prog 33 yM:=by
 refine qi (fn:=f33) (c:=f33.body.getD .skip) rfl rfl rfl (λh=>by cases h) λb hb O w0 I0 Q hl0 hq=> ?_
 obtain rfl:I0=[]:=aU.1 hl0;obtain⟨x,want,day,f,c⟩:=b;obtain⟨h1,h2,h3⟩:=hb;replace hq:=hq _ rfl;simp only [BX.ask] at h1 h2 h3 hq;refine zb.n GBe.h [] (let v6:=[AV.i day];let v5:=q57 [.agg [.sl f.length 3 (fxG f),.sl c.length 4 (chG c)]];let v4:=[AV.agg [.int .u8 x.kind,.str x.rat,.str x.name,.i x.date,.sl x.sub.length 5 (Ex.exG x.sub)]];let v3:List AV:=[.sl f.length 3 (fxG f),.sl c.length 4 (chG c)];let v2:List AV:=[.int .u8 x.kind,.str x.rat,.str x.name,.i x.date,.sl x.sub.length 5 (Ex.exG x.sub)];let v1:wi:=.ret [.ptr 2 0] [.box v2,.box v3,.box [.sl f.length 3 (fxG f),.sl c.length 4 (chG c),.i day,.i 2]];.ex (q51 v4) λn=>.all (λ(r:Int)=>r=Ex.errX n) λn=>.ex (λ(x9:Ex)=>decide (n=0)=true->q50 v4 x9) λn_1=>.all (λ(x:Int)=>decide (n=0)=true->x=Ex.zu n_1) λn_2=>.ite (bif decide (n=0) then !decide (n_2=want) else false) (.ite false (.ex v5 λn=>.all (λ(r:Int)=>r=errE n.1 n.2) λn=>.ex (λ(x:Int)=>decide (n=0)=true->q41 v6 x) λn_3=>.all (λ(x:Bool)=>decide (n=0)=true->x=dayB n_3) λn_4=>.ite (bif decide (n=0) then !n_4 else false) (.leaf v1) (.R [.ptr 2 0] [.box v2,.box v3,.box [.sl f.length 3 (fxG f),.sl c.length 4 (chG c),.i day,.i n]])) (.ex (λ(x:Int)=>decide ((32:Int)=0)=true->q41 v6 x) λn=>.all (λ(x:Bool)=>decide ((32:Int)=0)=true->x=dayB n) λn=>.ite (bif decide ((32:Int)=0) then !n else false) (.leaf v1) (.R [.ptr 2 0] [.box v2,.box v3,.box [.sl f.length 3 (fxG f),.sl c.length 4 (chG c),.i day,.i 32]]))) (.D (n=0) (.ex v5 λn=>.all (λ(r:Int)=>r=errE n.1 n.2) λn=>.ex (λ(x:Int)=>decide (n=0)=true->q41 v6 x) λn_3=>.all (λ(x:Bool)=>decide (n=0)=true->x=dayB n_3) λn_4=>.ite (bif decide (n=0) then !n_4 else false) (.leaf v1) (.R [.ptr 2 0] [.box v2,.box v3,.box [.sl f.length 3 (fxG f),.sl c.length 4 (chG c),.i day,.i n]])) (.ex (λ(x:Int)=>decide (n=0)=true->q41 v6 x) λn_3=>.all (λ(x:Bool)=>decide (n=0)=true->x=dayB n_3) λn_4=>.ite (bif decide (n=0) then !n_4 else false) (.leaf v1) (.R [.ptr 2 0] [.box v2,.box v3,.box [.sl f.length 3 (fxG f),.sl c.length 4 (chG c),.i day,.i n]])))) ?_;simp only [q41,q50,q51,q57,Tree.holds,zd];have eE:eqL [.agg [.sl f.length 3 (fxG f),.sl c.length 4 (chG c)]] [envA f c]:=⟨⟨⟨rfl,rfl,za _ _ _⟩,⟨rfl,rfl,za _ _ _⟩,trivial⟩,trivial⟩;have eX:eqL [x.exA] [x.exA]:=⟨⟨⟨rfl,rfl⟩,rfl,rfl,⟨rfl,rfl⟩,⟨rfl,rfl,za _ _ _⟩,trivial⟩,trivial⟩;generalize hask:askE x want day f c=ask at hq
 have ret:∀ (b0 b1:Blk),RetR yM 0 Q [.ptr 2 0] [b0,b1,.box [.sl f.length 3 (fxG f),.sl c.length 4 (chG c),.i day,.i ask]]:=by
  intro b0 b1;refine RetR.outs [2] rfl rfl hq (λh=>by cases h) ?_ ?_ rfl
  ·exact⟨rfl,rfl⟩
  ·exact qA f c day ask
 have tail:∀ (e0:Int) (b0 b1:Blk),(if e0=0 then(if dayB day=true then 0 else 2) else e0)=ask->∃ n3:Int,((decide (e0=0)=true->eqL [.i day] [.i n3]/\True)/\(∃ b:Bool,decide (e0=0)=true->b=dayB n3)/\∀ b:Bool,(decide (e0=0)=true->b=dayB n3) ->
   ((bif decide (e0=0) then !b else false)=true->RetR yM 0 Q [.ptr 2 0] [b0,b1,.box [.sl f.length 3 (fxG f),.sl c.length 4 (chG c),.i day,.i 2]]) /\
   ((bif decide (e0=0) then !b else false)=false->RetR yM 0 Q [.ptr 2 0] [b0,b1,.box [.sl f.length 3 (fxG f),.sl c.length 4 (chG c),.i day,.i e0]])):=by
  intro e0 b0 b1 h;refine⟨day,λ_=>⟨⟨⟨rfl,rfl⟩,trivial⟩,trivial⟩,⟨_,λ_=>rfl⟩,λb hb=> ?_⟩;by_cases h0:e0=0
  ·have hb:=hb (aX h0);rw [aP h0] at h;rw [aX h0,hb,h0];cases hd:dayB day with
   | true=>
    rw [hd,aP rfl] at h;rw [h];exact⟨λh=>(by cases h),λ_=>ret _ _⟩
   | false=>
    rw [hd,aO (by decide)] at h;rw [h];exact⟨λ_=>ret _ _,λh=>(by cases h)⟩
  ·rw [aO h0] at h;rw [aW h0,h];exact⟨λh=>(by cases h),λ_=>ret _ _⟩
 have chk:∀ (b0 b1:Blk),x.errX=0->x.zu=want->∃ n:List Fx×List Ch,(eqL [.agg [.sl f.length 3 (fxG f),.sl c.length 4 (chG c)]] [.agg [.sl n.1.length 3 (fxG n.1),.sl n.2.length 4 (chG n.2)]]/\envP n)/\(∃ r,r=errE n.1 n.2)/\∀ r:Int,r=errE n.1 n.2 ->
   ∃ n3:Int,((decide (r=0)=true->eqL [.i day] [.i n3]/\True)/\(∃ b:Bool,decide (r=0)=true->b=dayB n3)/\∀ b:Bool,(decide (r=0)=true->b=dayB n3) ->
   ((bif decide (r=0) then !b else false)=true->RetR yM 0 Q [.ptr 2 0] [b0,b1,.box [.sl f.length 3 (fxG f),.sl c.length 4 (chG c),.i day,.i 2]]) /\
   ((bif decide (r=0) then !b else false)=false->RetR yM 0 Q [.ptr 2 0] [b0,b1,.box [.sl f.length 3 (fxG f),.sl c.length 4 (chG c),.i day,.i r]])):=by
  intro b0 b1 g1 g2;refine⟨(f,c),⟨eE,h3⟩,⟨_,rfl⟩,?_⟩;rintro _ rfl;refine tail _ _ _ ?_;rw [<- hask,zba g1 g2]
 refine⟨x,⟨eX,h1,h2⟩,⟨_,rfl⟩,?_⟩;rintro _ rfl;refine⟨x,λ_=>⟨eX,by omega,h2⟩,⟨_,λ_=>rfl⟩,?_⟩;intro z hz;by_cases g1:x.errX=0
 ·have hz:=hz (aX g1);subst hz;refine⟨λhc=>⟨λh=>(by cases h),λ_=> ?_⟩,λhc=>⟨λ_=> ?_,λh=>absurd g1 (aC h)⟩⟩
  ·have g2:¬ x.zu=want:=by
    rw [aX g1] at hc;simpa using hc
   refine tail 32 _ _ ?_;rw [<- hask,znb g1 g2];rfl
  ·have g2:x.zu=want:=by
    rw [aX g1] at hc;simpa using hc
   exact chk _ _ g1 g2
 ·refine⟨λhc=> ?_,λ_=>⟨λh=>absurd (aB h) g1,λ_=> ?_⟩⟩
  ·rw [aW g1] at hc; cases hc
  ·refine tail _ _ _ ?_;rw [<- hask,zn7 g1,aO g1]
structure VI where
 x:Ex
 day:Int
 f:List Fx
 c:List Ch
def VI.ok(k:VI):Prop:=k.x.size<2^40/\k.x.z3<2^40/\envP (k.f,k.c)
def Z5:Ctr:=ctrP true (λk:VI=>[k.x.exA,.i k.day,envA k.f k.c]) VI.ok (λk r=>r=zG k.x k.day k.f k.c) (λ_ (r:L8×Int)=>(.tup [.str r.1,.i r.2],[]))
def Vz:Ctr:=ctrP true (λk:VI=>[k.x.exA,.i k.day,envA k.f k.c]) VI.ok (λk r=>r=vE k.x k.day k.f k.c) (λ_ (r:Bool×Int)=>(.tup [.bool r.1,.i r.2],[]))
noncomputable def GVh:=tb zjh (tb zfo (tb zg9 tz))
abbrev q58(A:List AV)(H:Heap)(x:BX):Prop:=eqL A [.agg [.int .u8 x.x.kind,.str x.x.rat,.str x.x.name,.i x.x.date,.sl x.x.sub.length 5 (Ex.exG x.x.sub)],.int .u8 x.want,.i x.day,.agg [.sl x.f.length 3 (fxG x.f),.sl x.c.length 4 (chG x.c)]]/\eqH H []/\0=0/\Ex.size x.x<1099511627776/\Ex.z3 x.x<1099511627776/\envP (BX.f x,BX.c x)
theorem Xk:zc prog 17 Z5:=by
 refine ze' f17 λk hk O w0 Q hq=> ?_
 obtain⟨x,day,f,c⟩:=k;obtain⟨h1,h2,h3⟩:=hk;replace hq:=hq _ rfl;simp only at h1 h2 h3 hq;unfold zG at hq;refine zb.n GVh.h [] (let v2:=[AV.int .u8 x.kind,AV.str x.rat,AV.str x.name,AV.i x.date,AV.sl x.sub.length 5 (Ex.exG x.sub)];.ex (q58 [.agg v2,.int .u8 1,.i day,.agg [.sl f.length 3 (fxG f),.sl c.length 4 (chG c)]] []) λn=>.all (λ(r:Int)=>r=BX.ask n) λn_1=>.ex (λ(x_1:VX)=>eqL [.ptr 0 0,.agg v2] [.ptr 0 0,.agg [.int .u8 x_1.x.kind,.str x_1.x.rat,.str x_1.x.name,.i x_1.x.date,.sl x_1.x.sub.length 5 (Ex.exG x_1.x.sub)]]/\eqH [.box [.sl n.f.length 3 (fxG n.f),.sl n.c.length 4 (chG n.c),.i n.day,.i n_1]] [.box [.sl x_1.s.f.length 3 (fxG x_1.s.f),.sl x_1.s.c.length 4 (chG x_1.s.c),.i x_1.s.day,.i x_1.s.e]]/\1=1/\VPre (1:Int) x_1) λn=>.all (λ(r:L8×Int)=>(St8.e n.s≠0->r.2=St8.e n.s)/\(St8.e n.s=0->r.2=Ev.e (evA n)/\(r.2=0->r.1=Ev.v (evA n)))) λn_2=>let v3:=n.s.err n_2.2;let v1:List Blk:=[.box [.int .u8 x.kind,.str x.rat,.str x.name,.i x.date,.sl x.sub.length 5 (Ex.exG x.sub)],.box [.sl f.length 3 (fxG f),.sl c.length 4 (chG c)],.box [.sl (List.length v3.f) 3 (fxG v3.f),.sl (List.length v3.c) 4 (chG v3.c),.i v3.day,.i v3.e]];.N (St8.e v3=(0:Int)) (.R [.str #[].toList,.i v3.e] v1) (.R [.str n_2.1,.i 0] v1)) ?_;simp only [q58,Tree.holds,zd];have eB:eqL [x.exA,.int .u8 1,.i day,envA f c] [x.exA,.int .u8 1,.i day,envA f c]:=⟨⟨⟨rfl,rfl⟩,rfl,rfl,⟨rfl,rfl⟩,⟨rfl,rfl,za _ _ _⟩,trivial⟩,⟨rfl,rfl⟩,⟨rfl,rfl⟩,⟨⟨rfl,rfl,za _ _ _⟩,⟨rfl,rfl,za _ _ _⟩,trivial⟩,trivial⟩;refine⟨⟨x,1,day,f,c⟩,⟨eB,trivial,trivial,h1,h2,h3⟩,⟨_,rfl⟩,?_⟩;rintro e he;have he:e=askE x 1 day f c:=he;rw [<- he] at hq
 have hv:VPre 1 ⟨⟨f,c,day,e⟩,x⟩:=by
  intro h0;have h0:e=0:=h0;obtain⟨_,g2,g3,_⟩:=yb (he.symm.trans h0);obtain⟨g4,g5,_⟩:=vj.1 g3;refine⟨g2,g5,?_⟩;show f.length<2^40;omega
 refine⟨⟨⟨f,c,day,e⟩,x⟩,⟨zmo x,qA f c day e,trivial,hv⟩,xt _ _ _,?_⟩;intro r hr;simp only [evA] at hr;refine⟨λh=> ?_,λh=> ?_⟩
 ·have h:r.2≠0:=by
   intro h0;have h':(!decide (r.2=0))=true:=h;rw [h0] at h'; cases h'
  have eq:(if e≠0 then([],e) else if(x.ev f day).e≠0 then([],(x.ev f day).e) else((x.ev f day).v,0))=(([]:L8),r.2):=by
   by_cases h0:e=0
   ·obtain⟨q1,_⟩:=hr.2 h0;rw [aO (by rw [h0]; simp),aP (by rw [<- q1]; exact h),q1]
   ·rw [aP h0,hr.1 h0]
  rw [eq] at hq;exact RetR.scal hq rfl (by simp [resV,St8.err])
 ·have h:r.2=0:=by
   have h':(!decide (r.2=0))=false:=h;simpa using h'
  have h0:e=0:=bM λh0=>h0 (by rw [<- hr.1 h0]; exact h)
  obtain⟨q1,k1⟩:=hr.2 h0
  have eq:(if e≠0 then([],e) else if(x.ev f day).e≠0 then([],(x.ev f day).e) else((x.ev f day).v,0))=(r.1,0):=by
   rw [aO (by rw [h0]; simp),aO (by rw [<- q1,h]; simp),k1 h]
  rw [eq] at hq;exact RetR.scal hq rfl (by simp [resV])
theorem zf9:zc prog 52 Vz:=by
 refine ze' f52 λk hk O w0 Q hq=> ?_
 obtain⟨x,day,f,c⟩:=k;obtain⟨h1,h2,h3⟩:=hk;replace hq:=hq _ rfl;simp only at h1 h2 h3 hq;unfold vE at hq;refine zb.n GVh.h [] (let v2:=[AV.int .u8 x.kind,AV.str x.rat,AV.str x.name,AV.i x.date,AV.sl x.sub.length 5 (Ex.exG x.sub)];.ex (q58 [.agg v2,.int .u8 2,.i day,.agg [.sl f.length 3 (fxG f),.sl c.length 4 (chG c)]] []) λn=>.all (λ(r:Int)=>r=BX.ask n) λn_1=>.ex (λ(x_1:VX)=>eqL [.ptr 0 0,.agg v2] [.ptr 0 0,.agg [.int .u8 x_1.x.kind,.str x_1.x.rat,.str x_1.x.name,.i x_1.x.date,.sl x_1.x.sub.length 5 (Ex.exG x_1.x.sub)]]/\eqH [.box [.sl n.f.length 3 (fxG n.f),.sl n.c.length 4 (chG n.c),.i n.day,.i n_1]] [.box [.sl x_1.s.f.length 3 (fxG x_1.s.f),.sl x_1.s.c.length 4 (chG x_1.s.c),.i x_1.s.day,.i x_1.s.e]]/\1=1/\VPre (2:Int) x_1) λn=>.all (λ(r:Bool×Int)=>(St8.e n.s≠0->r.2=St8.e n.s)/\(St8.e n.s=0->r.2=Ev.g (evA n)/\(r.2=0->r.1=Ev.b (evA n)))) λn_2=>let v3:=n.s.err n_2.2;let v1:List Blk:=[.box [.int .u8 x.kind,.str x.rat,.str x.name,.i x.date,.sl x.sub.length 5 (Ex.exG x.sub)],.box [.sl f.length 3 (fxG f),.sl c.length 4 (chG c)],.box [.sl (List.length v3.f) 3 (fxG v3.f),.sl (List.length v3.c) 4 (chG v3.c),.i v3.day,.i v3.e]];.N (St8.e v3=(0:Int)) (.R [.bool false,.i v3.e] v1) (.R [.bool n_2.1,.i 0] v1)) ?_;simp only [q58,Tree.holds,zd];have eB:eqL [x.exA,.int .u8 2,.i day,envA f c] [x.exA,.int .u8 2,.i day,envA f c]:=⟨⟨⟨rfl,rfl⟩,rfl,rfl,⟨rfl,rfl⟩,⟨rfl,rfl,za _ _ _⟩,trivial⟩,⟨rfl,rfl⟩,⟨rfl,rfl⟩,⟨⟨rfl,rfl,za _ _ _⟩,⟨rfl,rfl,za _ _ _⟩,trivial⟩,trivial⟩;refine⟨⟨x,2,day,f,c⟩,⟨eB,trivial,trivial,h1,h2,h3⟩,⟨_,rfl⟩,?_⟩;rintro e he;have he:e=askE x 2 day f c:=he;rw [<- he] at hq
 have hv:VPre 2 ⟨⟨f,c,day,e⟩,x⟩:=by
  intro h0;have h0:e=0:=h0;obtain⟨_,g2,g3,_⟩:=yb (he.symm.trans h0);obtain⟨g4,g5,_⟩:=vj.1 g3;refine⟨g2,g5,?_⟩;show f.length<2^40;omega
 refine⟨⟨⟨f,c,day,e⟩,x⟩,⟨zmo x,qA f c day e,trivial,hv⟩,Zp _ _ _,?_⟩;intro r hr;simp only [evA] at hr;refine⟨λh=> ?_,λh=> ?_⟩
 ·have h:r.2≠0:=by
   intro h0;have h':(!decide (r.2=0))=true:=h;rw [h0] at h'; cases h'
  have eq:(if e≠0 then(false,e) else if(x.ev f day).g≠0 then(false,(x.ev f day).g) else((x.ev f day).b,0))=(false,r.2):=by
   by_cases h0:e=0
   ·obtain⟨q1,_⟩:=hr.2 h0;rw [aO (by rw [h0]; simp),aP (by rw [<- q1]; exact h),q1]
   ·rw [aP h0,hr.1 h0]
  rw [eq] at hq;exact RetR.scal hq rfl (by simp [resV,St8.err])
 ·have h:r.2=0:=by
   have h':(!decide (r.2=0))=false:=h;simpa using h'
  have h0:e=0:=bM λh0=>h0 (by rw [<- hr.1 h0]; exact h)
  obtain⟨q1,k1⟩:=hr.2 h0
  have eq:(if e≠0 then(false,e) else if(x.ev f day).g≠0 then(false,(x.ev f day).g) else((x.ev f day).b,0))=(r.1,0):=by
   rw [aO (by rw [h0]; simp),aO (by rw [<- q1,h]; simp),k1 h]
  rw [eq] at hq;exact RetR.scal hq rfl (by simp [resV])
end Go.Proofs.Tryz
end
section
namespace Go.Nov
open Go.Sx
def recS(f:List Fx)(day:Int)(x:Ex):RS:=x.rc f day ⟨[],[]⟩
def recT(f:List Fx)(day:Int)(x:Ex):Tp:=⟨(recS f day x).inp.length,(recS f day x).ops⟩
theorem zp5{f:List Fx}(hf:f.all okF=true){day:Int}{x:Ex}(hz:x.size<=500)(hs:x.zu=1)(he:(x.ev f day).e=0):qP (recT f day x)=0/\(recS f day x).ops.length<=500/\(recS f day x).inp.length<=500/\InvR f (recS f day x)/\q5 (recT f day x) ((recS f day x).inp.map Fx.value)=((x.ev f day).v,0):=by
 obtain⟨new,ext,S,I⟩:=zoj hf x.size x (aJ _) hs he ⟨[],[]⟩ ⟨λi j _ h=>absurd h (Nat.not_lt_zero j),λj h=>absurd h (Nat.not_lt_zero j)⟩;have o1:(recS f day x).ops=new:=by have:=S.ops; simpa [recS] using this
 have o2:(recS f day x).inp=ext:=by have:=S.inp; simpa [recS] using this
 have hp:=S.pos;have hl:=S.le;have hx:=S.ext;have hok:=S.ok;have hrun:=S.run;have I:InvR f (recS f day x):=I;have e0:x.rc f day ⟨[],[]⟩=recS f day x:=rfl;rw [e0] at hok hrun;rw [o2] at hok
 have hc:qP (recT f day x)=0:=by
  refine vd.2 ⟨?_,?_,?_,?_,?_⟩
  ·show(recS f day x).ops.length<=500; rw [o1]; omega
  ·show(0:Int)<=((recS f day x).inp.length:Int); omega
  ·show((recS f day x).inp.length:Int)<=500; rw [o2]; omega
  ·show 0<(recS f day x).ops.length; rw [o1]; exact hp
  ·refine Yn ?_;show jG ((recS f day x).inp.length:Int) 0 (recS f day x).ops;rw [o1,o2]; exact hok
 refine⟨hc,by rw [o1]; omega,by rw [o2]; omega,I,?_⟩
 have hq:allQ ((recS f day x).inp.map Fx.value):=by
  intro v hv;obtain⟨y,hy,rfl⟩:=List.mem_map.1 hv;obtain⟨j,hj,rfl⟩:=List.getElem_of_mem hy;have h:=I.2 j hj;have e:(recS f day x).inp.getD j Fx.nil=(recS f day x).inp[j]:=by simp [List.getD,hj]
  rw [e] at h;unfold zP at h;split at h
  ·rename_i z hz2;have hm:=List.mem_of_find?_eq_some hz2;have:=bG.1 hf z hm;have hv2:z.value=(recS f day x).inp[j].value:=congrArg Prod.fst h;rw [<- hv2];unfold okF at this;simp only [bA,aK] at this;exact this.2
  ·exact absurd (congrArg Prod.snd h) (by simp)
 rw [Qn hc (by simp [recT]) hq];obtain⟨vals,r,l,z⟩:=hrun ((recS f day x).inp.map Fx.value) [] (λj hj=>by simp [List.getD,hj]) rfl;show jA (runF _ (recS f day x).ops [])=_;rw [o1,r];unfold jA;rw [aO (λq=>q rfl)];simp only [List.nil_append] at z ⊢;rw [l,show new.length - 1=([]:List TOp).length+new.length - 1 by simp,z]
end Go.Nov
end
section
namespace Go.Nov
open Go.Sx
section
variable {x:Ex} {day:Int} {f:List Fx} {c:List Ch}
end
structure Lg(p q x y:Ex):Prop where
 p0:p.errX=0
 p1:p.zu=2
 q0:q.errX=0
 q1:q.zu=2
 x0:x.errX=0
 x1:x.zu=1
 y0:y.errX=0
 y1:y.zu=1
 s:p.size+q.size+x.size+y.size<500
 dp:p.depth<60
 dq:q.depth<60
 dx:x.depth<60
 dy:y.depth<60
section
variable {p q x y:Ex} {day:Int} {f:List Fx} {c:List Ch} (h:Lg p q x y)
include h
end
end Go.Nov
end
section
namespace Go.Nov
open Go.Sx
theorem yo(f:List Fx)(n:L8)(d:Int)(s:RS):(s.fix f n d).ops.length=s.ops.length+1/\s.inp.length<=(s.fix f n d).inp.length/\(s.fix f n d).inp.length<=s.inp.length+1:=by
 unfold RS.fix RS.put;split<;>simp
theorem Kv(f:List Fx)(day:Int):∀ (N:Nat) (x:Ex),x.size<=N->∀ s:RS,(s.ops.length<=(x.rc f day s).ops.length/\(x.rc f day s).ops.length<=s.ops.length+x.size)/\(x.rc f day s).inp.length<=s.inp.length+x.size:=by
 intro N
 induction N with
 | zero=>intro x h; have:=Ex.size_pos x; omega
 | succ N ih=>
  intro x hN s;have hpos:=Ex.size_pos x;have hsz:=Ex.size_eq x
  have part:∀ (i:Nat) (s:RS),(s.ops.length<=((Ex.rcs f day x.sub).getD i id s).ops.length/\((Ex.rcs f day x.sub).getD i id s).ops.length<=s.ops.length+(if i<x.sub.length then(x.sub.getD i Ex.nil).size else 0))/\((Ex.rcs f day x.sub).getD i id s).inp.length<=s.inp.length+(if i<x.sub.length then(x.sub.getD i Ex.nil).size else 0):=by
   intro i s;by_cases hi:i<x.sub.length
   ·rw [Ex.xa hi,aP hi];have:=vF hi;exact ih _ (by omega) s
   ·have hl:∀ l:List Ex,(Ex.rcs f day l).length=l.length:=λl=>by induction l with
     | nil=>rfl
     | cons y l ihl=>rw [Ex.rcs,aL,aL,ihl]
    have:(Ex.rcs f day x.sub).getD i id=id:=by rw [List.getD,aZ (by rw [hl]; omega)]; rfl
    rw [this,aO hi];exact⟨⟨aJ _,aJ _⟩,aJ _⟩
  have one:∀ i,(if i<x.sub.length then(x.sub.getD i Ex.nil).size else 0)<=Ex.z6 x.sub:=λi=>by
   split
   ·rename_i h; have:=Ex.z4 h; omega
   ·omega
  have two:(if 0<x.sub.length then(x.sub.getD 0 Ex.nil).size else 0)+(if 1<x.sub.length then(x.sub.getD 1 Ex.nil).size else 0)<=Ex.z6 x.sub:=by
   match x.sub with
   | []=>simp
   | [a]=>simp [Ex.z6]
   | a::b::l=>simp [Ex.z6]
  rw [Ex.zbs];unfold rcN;split
  ·simp only [RS.put,bO,List.length_singleton]; omega
  split
  ·have:=yo f x.name x.date s; omega
  split
  ·have:=yo f x.name day s; omega
  split
  ·split
   ·have h1:=part 1 s; have h2:=one 1; omega
   ·have h1:=part 2 s; have h2:=one 2; omega
  split
  ·split
   ·have h1:=part 1 s; have h2:=one 1; omega
   ·have h1:=part 0 s; have h2:=one 0; omega
  split
  ·split
   ·have h1:=part 1 s; have h2:=one 1; omega
   ·have h1:=part 0 s; have h2:=one 0; omega
  ·have h1:=part 0 s;have h2:=part 1 ((Ex.rcs f day x.sub).getD 0 id s);simp only [RS.put,bO,List.length_singleton];omega
theorem JL{x:Ex}{f:List Fx}{c:List Ch}{day:Int}(h1:x.zu=1)(h2:x.size<=500)(h3:x.depth<=60)(h4:errE f c=0)(h5:dayB day=true)(h6:(x.ev f day).e=0):zG x day f c=((x.ev f day).v,0):=by
 have hx:x.errX=0:=by unfold Ex.errX; rw [aO (by omega),aO (by omega)]
 unfold zG;rw [zba hx h1,aP h4,aP h5];simp [h6]
theorem Yf{x:Ex}{f:List Fx}{c:List Ch}{day:Int}(h1:x.zu=2)(h2:x.size<=500)(h3:x.depth<=60)(h4:errE f c=0)(h5:dayB day=true)(h6:(x.ev f day).g=0):vE x day f c=((x.ev f day).b,0):=by
 have hx:x.errX=0:=by unfold Ex.errX; rw [aO (by omega),aO (by omega)]
 unfold vE;rw [zba hx h1,aP h4,aP h5];simp [h6]
end Go.Nov
end
section
namespace Go.Sx
variable [Stat]
section
variable {O:Nat->Prop} {pin:Nat} {w0:World} {I0:List SE} {P:Program} {fn:Func} {Xp:List PanicEntry->Prop}
def xZ:Nat->Code->List Item
 | n+1,.seq a b=>.code a::xZ n b
 | _,c=>[.code c]
theorem JK{M:Option Nat}{H:Nat->Act->World->Prop}{B:Exit->Act->World->Prop}{k:List Item}{e:Exit}(he:e≠.normal){a:Act}{w:World} : ∀ (n:Nat) (c:Code),wpK M P H B (xZ n c++k) e a w->wpK M P H B k e a w
 | 0,c,h=>by cases c<;>cases e<;>first | exact absurd rfl he | exact h
 | n+1,c,h=>by
  cases c with
  | seq x y=>cases e<;>first | exact absurd rfl he | exact JK he n y h
  | _=>cases e<;>first | exact absurd rfl he | exact h
theorem WQ{M:Option Nat}{H:Nat->Act->World->Prop}{B:Exit->Act->World->Prop} : ∀ (n:Nat) (c:Code) (k:List Item) (a:Act) (w:World),wpK M P H B (xZ n c++k) .normal a w->wpK M P H B (.code c::k) .normal a w
 | 0,c,k,a,w,h=>by cases c<;>exact h
 | n+1,c,k,a,w,h=>by
  cases c with
  | seq x y=>
   simp only [xZ,List.cons_append,wpK] at h ⊢;refine wpIn_seq (wpIn_mono h λe a w h=> ?_);cases e with
   | normal=>exact WQ n y k a w h
   | _=>exact JK (by simp) n y h
  | _=>exact h
theorem zb.spine{M:Option Nat}{Hs:Nat->KV->Heap->Prop}{R:List AV->Heap->Prop}{k:List Item}{c:Code}{st:St}(n:Nat)(h:zA Xp M P fn O pin w0 I0 Hs R (Go.Sx.xZ n c++k) st):zA Xp M P fn O pin w0 I0 Hs R (.code c::k) st:=
 λw σ a hm=>WQ n c k a w (h w σ a hm)
def Q9:Item->Bool
 | .inLoop=>false
 | _=>true
theorem x3{M:Option Nat}{H H':Nat->Act->World->Prop}{B:Exit->Act->World->Prop}{k:List Item}(h1:∀ a w,H' (jy k) a w->wpK M P H B k .normal a w)(h2:∀ d a w,d<jy k->H' d a w->H d a w) :
  ∀ (ks:List Item),ks.all Q9=true->∀ (e:Exit) (a:Act) (w:World),wpK M P H' B (ks++.inLoop::k) e a w->wpK M P H B (ks++k) e a w
 | [],_,e,a,w,h=>by
  cases e with
  | normal=>exact h1 a w h
  | _=>exact jh (k:=k) (λd a w hd h=>h2 d a w hd h) h
 | .code c::ks,hf,e,a,w,h=>by
  have hf':ks.all Q9=true:=by simpa [Q9] using hf
  cases e with
  | normal=>exact wpIn_mono h λe a w h=>x3 h1 h2 ks hf' e a w h
  | _=>exact x3 h1 h2 ks hf' _ a w h
 | .inBlock id::ks,hf,e,a,w,h=>by
  have hf':ks.all Q9=true:=by simpa [Q9] using hf
  cases e with
  | normal=>exact x3 h1 h2 ks hf' _ a w h
  | exit i=>
   simp only [List.cons_append,wpK] at h ⊢;split at h
   ·rename_i hi; rw [aP hi]; exact x3 h1 h2 ks hf' _ a w h
   ·rename_i hi; rw [aO hi]; exact x3 h1 h2 ks hf' _ a w h
  | _=>exact x3 h1 h2 ks hf' _ a w h
 | .inLoop::ks,hf,e,a,w,h=>by simp [Q9] at hf
theorem zb.cutL{M:Option Nat}{ι:Type}{Hs:Nat->KV->Heap->Prop}{R:List AV->Heap->Prop}{st:St}(L:List Item)(m dk:Nat)(S:ι->KV)(H:ι->Heap)(hf:(L.take m).all Q9=true)(hd:jy (L.drop m)=dk)
  (h1:zA Xp M P fn O pin w0 I0 (λd kv h=>if d=dk then ∃ x,LeK pin fn.ntmps kv h (S x) (H x) else Hs d kv h) R (L.take m++.inLoop::L.drop m) st)
  (h2:∀ x,zA Xp M P fn O pin w0 I0 Hs R (L.drop m) (mk fn.ntmps (S x) (H x))):zA Xp M P fn O pin w0 I0 Hs R L st:=by
 subst hd;intro w σ a hm;have:=h1 w σ a hm;rw [<- bU m L];refine x3 ?_ ?_ (L.take m) hf .normal a w this
 ·rintro a' w' ⟨st',Z',⟨kv,h,hh,rfl⟩,hm'⟩;rw [aP rfl] at hh;obtain⟨x,hle⟩:=hh;exact h2 x w' _ a' (hle.le.mod hm')
 ·rintro d a' w' hd ⟨st',Z',⟨kv,h,hh,rfl⟩,hm'⟩;rw [aO (by omega)] at hh;exact⟨_,Z',⟨kv,h,hh,rfl⟩,hm'⟩
end
end Go.Sx
end
