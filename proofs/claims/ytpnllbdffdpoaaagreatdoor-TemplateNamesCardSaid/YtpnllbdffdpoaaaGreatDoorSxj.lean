/- Part 10 of the proof. -/
import Derived.Test.YtpnllbdffdpoaaaGreatDoorSxc
import Derived.Test.YtpnllbdffdpoaaaGreatDoorSxi
import Derived.DefersIn
set_option linter.unusedVariables false
set_option linter.unusedSimpArgs false
set_option linter.unusedSectionVars false
section
set_option maxRecDepth 100000
open Go Go.Sx Go.Proofs Go.Nov
namespace Go.Proofs.Tryz
attribute [local simp] eqKV eqA eqA0 eqH eqB eqL eqL0
noncomputable def K126:=Go.Sx.aA f126
def holT(k:FI):Int->Except Int Bool:=λt=>holM k.c.x t k.f k.h
def Kk(Xp:List PanicEntry->Prop):Ctr:=ctrS (λk:FI=>[k.c.conA,.i k.day,.i k.fin,.fn 118 [] [.ptr 0 0,.ptr 1 0]]) (λk=>k.hH) (λk=>(∀ d,VI.ok ⟨k.c.x,d,k.f,k.h⟩)/\k.c.days.length<2^40/\qA Xp (firstM (holT k) k.day k.fin k.c.days)) (λk=>okM (firstM (holT k) k.day k.fin k.c.days)) (λk=>(.i (getM 0 (firstM (holT k) k.day k.fin k.c.days)),k.hH))
def SFh(k:FI)(i:Nat):KV:=[(1,.i k.day),(2,.i k.fin),(3,.fn 118 [] [.ptr 0 0,.ptr 1 0]),(12,Con.dayS k.c.days),(13,.i (k.c.days.length:Int)),(14,.i (i:Int)),Z 25,Z 26,Z 27]
def HFh(k:FI):Heap:=[.box k.c.zi,.box [fxS k.f,chS k.h],.box k.c.zi]
noncomputable def GFf(Xp:List PanicEntry->Prop):Nat->Option Ctr:=λf=>if f=118 then some (zai Xp) else none
theorem zkt(Xp:List PanicEntry->Prop):∀ f c,GFf Xp f=some c->zA Xp prog f c:=vF (VM Xp) yv
theorem JM{T:Int->Except Int Bool}{day fin d:Int}{l:List Int}(h1:fin<=d):firstM T day fin (d::l) = .ok fin:=by rw [firstM,aP h1]
theorem U2{T:Int->Except Int Bool}{day fin d e:Int}{l:List Int}(h1:¬ fin<=d)(h2:day<=d)(h:T d = .error e):firstM T day fin (d::l) = .error e:=by rw [firstM,aO h1,aP h2,h]
theorem JY{T:Int->Except Int Bool}{day fin d:Int}{l:List Int}(h1:¬ fin<=d)(h2:day<=d)(h:T d = .ok true):firstM T day fin (d::l) = .ok d:=by rw [firstM,aO h1,aP h2,h]
theorem Qu{T:Int->Except Int Bool}{day fin d:Int}{l:List Int}(h1:¬ fin<=d)(h2:day<=d)(h:T d = .ok false):firstM T day fin (d::l)=firstM T day fin l:=by rw [firstM,aO h1,aP h2,h]
theorem JI{T:Int->Except Int Bool}{day fin d:Int}{l:List Int}(h1:¬ fin<=d)(h2:¬ day<=d):firstM T day fin (d::l)=firstM T day fin l:=by rw [firstM,aO h1,aO h2]
theorem qS{α:Type}{d:α}{m:Except Int α}(h:okM m=true):m = .ok (getM d m):=by cases m with
 | ok a=>rfl
 | error e=>cases h
theorem FI.ztc(k:FI):eqH (expH [.box k.c.zi,.box [fxS k.f,chS k.h],.box k.c.zi] [0,1]) k.hH:=by
 simp [expH,expB,exp1,exp0,ren0,FI.hH,zK,Con.zi,Con.qK,fxS,chS,Ex.exS,Con.dayS,Con.conS,za]
theorem FI.h2(k:FI):eqH [.box k.c.zi,.box [fxS k.f,chS k.h]] [.box k.c.zi,.box [fxS k.f,chS k.h]]:=by
 simp [Con.zi,Con.qK,fxS,chS,Ex.exS,Con.dayS,Con.conS,za]
theorem FI.h5(k:FI):eqH [.box k.c.zi,.box [fxS k.f,chS k.h],.box k.c.zi] (HFh k):=by
 simp [HFh,Con.zi,Con.qK,fxS,chS,Ex.exS,Con.dayS,Con.conS,za]
theorem zfk(Xp:List PanicEntry->Prop):zA Xp prog 126 (Kk Xp):=by
 refine yh (fn:=f126) (c:=f126.body.getD .skip) rfl rfl rfl λp hp O w0 I0 Q hl0 hq=> ?_
 obtain⟨c,day,fin,f,h⟩:=p;obtain⟨h1,h2,h3⟩:=hp;simp only at h1 h2 h3 hq;refine zd.runX hmix (zkt Xp) [1,2,3,12,13,14,25,26,27] 400 (T:=.leaf (.loop (lps K126 0).1 (lps K126 0).2 [(1,.i day),(2,.i fin),(3,.fn 118 [] [.ptr 0 0,.ptr 1 0]),(12,.sl c.days.length 1 (Con.dayG c.days)),(13,.i c.days.length),(14,.i 0),Z 25,Z 26,Z 27] [.box (Con.zi c),.box [.sl f.length 3 (fxG f),.sl h.length 4 (chG h)],.box (Con.zi c)])) (by kernel_rfl) ?_;simp only [Tree.holds,zh,inR,lo,hi,aD];refine zd.loop (ι:={i:Nat // i<=c.days.length/\firstM (holT ⟨c,day,fin,f,h⟩) day fin (c.days.drop i)=firstM (holT ⟨c,day,fin,f,h⟩) day fin c.days}) (λi=>SFh ⟨c,day,fin,f,h⟩ i.1) (λ_=>HFh ⟨c,day,fin,f,h⟩) (λi=>c.days.length - i.1) ⟨0,aI _,rfl⟩ 0 ?_ ?_ (by kernel_rfl)
 ·exact⟨by simp [SFh,Con.dayS,za],FI.h5 ⟨c,day,fin,f,h⟩,by kernel_rfl,by show 2<=3; decide⟩
 ·rintro⟨i,hil,hi⟩;refine zd.runX hmix (zkt Xp) [1,2,3,12,13,14,25,26,27] 400 (T:=let v6:=inR .i64 (i+1);let v5:=List.getD c.days (i:Int).toNat (0:Int);let v4:=day<=List.getD c.days (i:Int).toNat (0:Int);let v1:List Blk:=[.box (Con.zi c),.box [.sl f.length 3 (fxG f),.sl h.length 4 (chG h)],.box (Con.zi c)];.D ((i:Int)<(c.days.length:Int)) (.side ((0:Int)<=i/\(i:Int)<(c.days.length:Int)) (.D (fin<=List.getD c.days (i:Int).toNat (0:Int)) (.R [.i fin] v1) (.ite (decide v4 == true) (.ex (λ(x:FI×Int)=>eqL [.i v5,.ptr 0 0,.ptr 1 0] [.i x.2,.ptr 0 0,.ptr 1 0]/\eqH [.box (Con.zi c),.box [.sl f.length 3 (fxG f),.sl h.length 4 (chG h)]] [.box (Con.zi x.1.c),.box [.sl x.1.f.length 3 (fxG x.1.f),.sl x.1.h.length 4 (chG x.1.h)]]/\2=2/\VI.ok { x:=Con.x x.1.c,day:=x.2,f:=FI.f x.1,c:=FI.h x.1 } /\ qA Xp (holM (Con.x x.1.c) x.2 x.1.f x.1.h)) λn=>let v3:=holM (Con.x n.1.c) n.2 n.1.f n.1.h;let v2:List Blk:=[.box (Con.zi n.1.c),.box [.sl n.1.f.length 3 (fxG n.1.f),.sl n.1.h.length 4 (chG n.1.h)],.box (Con.zi c)];.ite (okM v3) (.ite (bif decide v4 then getM false v3 else false) (.R [.i v5] v2) (.side v6 (.leaf (.back 0 [(1,.i day),(2,.i fin),(3,.fn 118 [] [.ptr 0 0,.ptr 1 0]),(12,.sl c.days.length 1 (Con.dayG c.days)),(13,.i c.days.length),(14,.i (i+1)),Z 25,Z 26,(27,.bool (getM false v3))] v2)))) (.leaf qe.gone)) (.ite (bif decide v4 then false else false) (.R [.i v5] v1) (.side v6 (.leaf (.back 0 [(1,.i day),(2,.i fin),(3,.fn 118 [] [.ptr 0 0,.ptr 1 0]),(12,.sl c.days.length 1 (Con.dayG c.days)),(13,.i c.days.length),(14,.i (i+1)),Z 25,Z 26,Z 27] v1))))))) (.R [.i fin] v1)) (by kernel_rfl) ?_;simp only [Tree.holds,zh,inR,lo,hi,aD]
  have hRet:∀ e:Int,firstM (holT ⟨c,day,fin,f,h⟩) day fin c.days = .ok e->RetR (Kk Xp) (FI.hH ⟨c,day,fin,f,h⟩).length Q [.i e] [.box c.zi,.box [fxS f,chS h],.box c.zi]:=by
   intro e he;rw [he] at hq;exact RetR.xO [0,1] rfl rfl (by show ∀ j,j<2->_; decide) rfl (hq rfl) (LeA.refl _) (FI.ztc ⟨c,day,fin,f,h⟩) rfl
  refine⟨λhlt=> ?_,λhge=> ?_⟩
  ·have hlt:i<c.days.length:=by have:=aB hlt; omega
   have hd:c.days.drop i=c.days.getD i 0::c.days.drop (i+1):=by
    rw [List.drop_eq_getElem_cons hlt]; simp [List.getD,hlt]
   rw [hd] at hi
   have hstep:firstM (holT ⟨c,day,fin,f,h⟩) day fin (c.days.drop (i+1))=firstM (holT ⟨c,day,fin,f,h⟩) day fin c.days->∀ x:Bool,∃ x':{i:Nat // i<=c.days.length/\firstM (holT ⟨c,day,fin,f,h⟩) day fin (c.days.drop i)=firstM (holT ⟨c,day,fin,f,h⟩) day fin c.days},c.days.length - x'.val<c.days.length - i/\LeK (FI.hH ⟨c,day,fin,f,h⟩).length f126.ntmps [(1,.i day),(2,.i fin),(3,.fn 118 [] [.ptr 0 0,.ptr 1 0]),(12,Con.dayS c.days),(13,.i (c.days.length:Int)),(14,.i ((i:Int)+1)),Z 25,Z 26,(27,.bool x)] [.box c.zi,.box [fxS f,chS h],.box c.zi] (SFh ⟨c,day,fin,f,h⟩ x'.val) (HFh ⟨c,day,fin,f,h⟩):=by
    intro he x;refine⟨⟨i+1,hlt,he⟩,by show _ - (i+1)<_; omega,?_,FI.h5 ⟨c,day,fin,f,h⟩,by kernel_rfl,by show 2<=3; decide⟩;simp [SFh,Con.dayS,za]
   have hstepU:firstM (holT ⟨c,day,fin,f,h⟩) day fin (c.days.drop (i+1))=firstM (holT ⟨c,day,fin,f,h⟩) day fin c.days->∃ x':{i:Nat // i<=c.days.length/\firstM (holT ⟨c,day,fin,f,h⟩) day fin (c.days.drop i)=firstM (holT ⟨c,day,fin,f,h⟩) day fin c.days},c.days.length - x'.val<c.days.length - i/\LeK (FI.hH ⟨c,day,fin,f,h⟩).length f126.ntmps [(1,.i day),(2,.i fin),(3,.fn 118 [] [.ptr 0 0,.ptr 1 0]),(12,Con.dayS c.days),(13,.i (c.days.length:Int)),(14,.i ((i:Int)+1)),Z 25,Z 26,Z 27] [.box c.zi,.box [fxS f,chS h],.box c.zi] (SFh ⟨c,day,fin,f,h⟩ x'.val) (HFh ⟨c,day,fin,f,h⟩):=by
    intro he;refine⟨⟨i+1,hlt,he⟩,by show _ - (i+1)<_; omega,?_,FI.h5 ⟨c,day,fin,f,h⟩,by kernel_rfl,by show 2<=3; decide⟩;simp [SFh,Con.dayS,za]
   refine⟨⟨by omega,by omega⟩,λ_=>⟨λg=> ?_,λg=> ?_⟩⟩
   ·rw [JM (aB g)] at hi;exact hRet _ hi.symm
   ·have g:=aC g;refine⟨λg2=> ?_,λg2=> ?_⟩
    ·have g2:day<=c.days.getD i 0:=by simpa using g2
     have hs:qA Xp (holM c.x (c.days.getD i 0) f h):=by
      intro e he;refine h3 e ?_;rw [<- hi];exact U2 g g2 he
     refine⟨(⟨c,day,fin,f,h⟩,c.days.getD i 0),⟨⟨⟨rfl,rfl⟩,⟨rfl,rfl⟩,⟨rfl,rfl⟩,trivial⟩,FI.h2 ⟨c,day,fin,f,h⟩,trivial,h1 _,hs⟩,λhk=> ?_,λ_=>trivial⟩;have hk:=qS (d:=false) hk;simp only at hk ⊢;rw [aX g2,cond_true];refine⟨λg3=> ?_,λg3=>⟨⟨by omega,by show _<=(9223372036854775807:Int); omega⟩,λ_=> ?_⟩⟩
     ·rw [g3] at hk;rw [JY g g2 hk] at hi;exact hRet _ hi.symm
     ·rw [aP trivial,g3];rw [g3] at hk;rw [Qu g g2 hk] at hi;exact hstep hi _
    ·have g2:¬ day<=c.days.getD i 0:=by simpa using g2
     rw [JI g g2] at hi;rw [aW g2,cond_false];refine⟨λg3=>absurd g3 (by decide),λ_=>⟨⟨by omega,by show _<=(9223372036854775807:Int); omega⟩,λ_=> ?_⟩⟩;rw [aP trivial];exact hstepU hi
  ·have hge:i=c.days.length:=by have:=aC hge; omega
   subst hge;rw [List.drop_length] at hi;exact hRet _ hi.symm
def choT(k:FI):Int->Except Int Bool:=λt=>.ok (qo k.h k.c.src k.c.name t)
def Xl(Xp:List PanicEntry->Prop):Ctr:=ctrS (λk:FI=>[k.c.conA,.i k.day,.i k.fin,.fn 116 [] [.ptr 0 0,.ptr 1 0]]) (λk=>k.hC) (λk=>k.h.length<2^40/\k.c.days.length<2^40/\qA Xp (firstM (choT k) k.day k.fin k.c.days)) (λk=>okM (firstM (choT k) k.day k.fin k.c.days)) (λk=>(.i (getM 0 (firstM (choT k) k.day k.fin k.c.days)),k.hC))
def SFc(k:FI)(i:Nat):KV:=[(1,.i k.day),(2,.i k.fin),(3,.fn 116 [] [.ptr 0 0,.ptr 1 0]),(12,Con.dayS k.c.days),(13,.i (k.c.days.length:Int)),(14,.i (i:Int)),Z 25,Z 26,Z 27]
def HFc(k:FI):Heap:=[.box [fxS k.f,chS k.h],.box k.c.zi,.box k.c.zi]
noncomputable def GFg(Xp:List PanicEntry->Prop):Nat->Option Ctr:=λf=>if f=116 then some Xt else none
theorem zhj(Xp:List PanicEntry->Prop):∀ f c,GFg Xp f=some c->zA Xp prog f c:=vF (Wq.x) yv
theorem FI.zss(k:FI):eqH (expH [.box [fxS k.f,chS k.h],.box k.c.zi,.box k.c.zi] [0,1]) k.hC:=by
 simp [expH,expB,exp1,exp0,ren0,FI.hC,zK,Con.zi,Con.qK,fxS,chS,Ex.exS,Con.dayS,Con.conS,za]
theorem FI.hC2(k:FI):eqH [.box [fxS k.f,chS k.h],.box k.c.zi] [.box [fxS k.f,chS k.h],.box k.c.zi]:=by
 simp [Con.zi,Con.qK,fxS,chS,Ex.exS,Con.dayS,Con.conS,za]
theorem FI.hC5(k:FI):eqH [.box [fxS k.f,chS k.h],.box k.c.zi,.box k.c.zi] (HFc k):=by
 simp [HFc,Con.zi,Con.qK,fxS,chS,Ex.exS,Con.dayS,Con.conS,za]
abbrev q61(A:List AV)(H:Heap)(x:FI×Int):Prop:=eqL A [.i x.2,.ptr 0 0,.ptr 1 0]/\eqH H [.box [.sl x.1.f.length 3 (fxG x.1.f),.sl x.1.h.length 4 (chG x.1.h)],.box (Con.zi x.1.c)]/\2=2/\List.length x.1.h<1099511627776
theorem zfh(Xp:List PanicEntry->Prop):zA Xp prog 126 (Xl Xp):=by
 refine yh (fn:=f126) (c:=f126.body.getD .skip) rfl rfl rfl λp hp O w0 I0 Q hl0 hq=> ?_
 obtain⟨c,day,fin,f,h⟩:=p;obtain⟨h1,h2,h3⟩:=hp;simp only at h1 h2 h3 hq;refine zd.runX hmix (zhj Xp) [1,2,3,12,13,14,25,26,27] 400 (T:=.leaf (.loop (lps K126 0).1 (lps K126 0).2 [(1,.i day),(2,.i fin),(3,.fn 116 [] [.ptr 0 0,.ptr 1 0]),(12,.sl c.days.length 1 (Con.dayG c.days)),(13,.i c.days.length),(14,.i 0),Z 25,Z 26,Z 27] [.box [.sl f.length 3 (fxG f),.sl h.length 4 (chG h)],.box (Con.zi c),.box (Con.zi c)])) (by kernel_rfl) ?_;simp only [Tree.holds,zh,inR,lo,hi,aD];refine zd.loop (ι:={i:Nat // i<=c.days.length/\firstM (choT ⟨c,day,fin,f,h⟩) day fin (c.days.drop i)=firstM (choT ⟨c,day,fin,f,h⟩) day fin c.days}) (λi=>SFc ⟨c,day,fin,f,h⟩ i.1) (λ_=>HFc ⟨c,day,fin,f,h⟩) (λi=>c.days.length - i.1) ⟨0,aI _,rfl⟩ 0 ?_ ?_ (by kernel_rfl)
 ·exact⟨by simp [SFc,Con.dayS,za],FI.hC5 ⟨c,day,fin,f,h⟩,by kernel_rfl,by show 2<=3; decide⟩
 ·rintro⟨i,hil,hi⟩;refine zd.runX hmix (zhj Xp) [1,2,3,12,13,14,25,26,27] 400 (T:=let v5:=inR .i64 (i+1);let v4:=List.getD c.days (i:Int).toNat (0:Int);let v3:=day<=List.getD c.days (i:Int).toNat (0:Int);let v1:List Blk:=[.box [.sl f.length 3 (fxG f),.sl h.length 4 (chG h)],.box (Con.zi c),.box (Con.zi c)];.D ((i:Int)<(c.days.length:Int)) (.side ((0:Int)<=i/\(i:Int)<(c.days.length:Int)) (.D (fin<=List.getD c.days (i:Int).toNat (0:Int)) (.R [.i fin] v1) (.ite (decide v3 == true) (.ex (q61 [.i v4,.ptr 0 0,.ptr 1 0] [.box [.sl f.length 3 (fxG f),.sl h.length 4 (chG h)],.box (Con.zi c)]) λn=>let v2:List Blk:=[.box [.sl n.1.f.length 3 (fxG n.1.f),.sl n.1.h.length 4 (chG n.1.h)],.box (Con.zi n.1.c),.box (Con.zi c)];.A λn_1=>.ite (bif decide v3 then qo n.1.h (Con.src n.1.c) (Con.name n.1.c) n.2 else false) (.R [.i v4] v2) (.side v5 (.leaf (.back 0 [(1,.i day),(2,.i fin),(3,.fn 116 [] [.ptr 0 0,.ptr 1 0]),(12,.sl c.days.length 1 (Con.dayG c.days)),(13,.i c.days.length),(14,.i (i+1)),Z 25,Z 26,(27,.bool (qo n.1.h (Con.src n.1.c) (Con.name n.1.c) n.2))] v2)))) (.ite (bif decide v3 then false else false) (.R [.i v4] v1) (.side v5 (.leaf (.back 0 [(1,.i day),(2,.i fin),(3,.fn 116 [] [.ptr 0 0,.ptr 1 0]),(12,.sl c.days.length 1 (Con.dayG c.days)),(13,.i c.days.length),(14,.i (i+1)),Z 25,Z 26,Z 27] v1))))))) (.R [.i fin] v1)) (by kernel_rfl) ?_;simp only [q61,Tree.holds,zh,inR,lo,hi,aD]
  have hRet:∀ e:Int,firstM (choT ⟨c,day,fin,f,h⟩) day fin c.days = .ok e->RetR (Xl Xp) (FI.hC ⟨c,day,fin,f,h⟩).length Q [.i e] [.box [fxS f,chS h],.box c.zi,.box c.zi]:=by
   intro e he;rw [he] at hq;exact RetR.xO [0,1] rfl rfl (by show ∀ j,j<2->_; decide) rfl (hq rfl) (LeA.refl _) (FI.zss ⟨c,day,fin,f,h⟩) rfl
  refine⟨λhlt=> ?_,λhge=> ?_⟩
  ·have hlt:i<c.days.length:=by have:=aB hlt; omega
   have hd:c.days.drop i=c.days.getD i 0::c.days.drop (i+1):=by
    rw [List.drop_eq_getElem_cons hlt]; simp [List.getD,hlt]
   rw [hd] at hi
   have hstep:firstM (choT ⟨c,day,fin,f,h⟩) day fin (c.days.drop (i+1))=firstM (choT ⟨c,day,fin,f,h⟩) day fin c.days->∀ x:Bool,∃ x':{i:Nat // i<=c.days.length/\firstM (choT ⟨c,day,fin,f,h⟩) day fin (c.days.drop i)=firstM (choT ⟨c,day,fin,f,h⟩) day fin c.days},c.days.length - x'.val<c.days.length - i/\LeK (FI.hC ⟨c,day,fin,f,h⟩).length f126.ntmps [(1,.i day),(2,.i fin),(3,.fn 116 [] [.ptr 0 0,.ptr 1 0]),(12,Con.dayS c.days),(13,.i (c.days.length:Int)),(14,.i ((i:Int)+1)),Z 25,Z 26,(27,.bool x)] [.box [fxS f,chS h],.box c.zi,.box c.zi] (SFc ⟨c,day,fin,f,h⟩ x'.val) (HFc ⟨c,day,fin,f,h⟩):=by
    intro he x;refine⟨⟨i+1,hlt,he⟩,by show _ - (i+1)<_; omega,?_,FI.hC5 ⟨c,day,fin,f,h⟩,by kernel_rfl,by show 2<=3; decide⟩;simp [SFc,Con.dayS,za]
   have hstepU:firstM (choT ⟨c,day,fin,f,h⟩) day fin (c.days.drop (i+1))=firstM (choT ⟨c,day,fin,f,h⟩) day fin c.days->∃ x':{i:Nat // i<=c.days.length/\firstM (choT ⟨c,day,fin,f,h⟩) day fin (c.days.drop i)=firstM (choT ⟨c,day,fin,f,h⟩) day fin c.days},c.days.length - x'.val<c.days.length - i/\LeK (FI.hC ⟨c,day,fin,f,h⟩).length f126.ntmps [(1,.i day),(2,.i fin),(3,.fn 116 [] [.ptr 0 0,.ptr 1 0]),(12,Con.dayS c.days),(13,.i (c.days.length:Int)),(14,.i ((i:Int)+1)),Z 25,Z 26,Z 27] [.box [fxS f,chS h],.box c.zi,.box c.zi] (SFc ⟨c,day,fin,f,h⟩ x'.val) (HFc ⟨c,day,fin,f,h⟩):=by
    intro he;refine⟨⟨i+1,hlt,he⟩,by show _ - (i+1)<_; omega,?_,FI.hC5 ⟨c,day,fin,f,h⟩,by kernel_rfl,by show 2<=3; decide⟩;simp [SFc,Con.dayS,za]
   refine⟨⟨by omega,by omega⟩,λ_=>⟨λg=> ?_,λg=> ?_⟩⟩
   ·rw [JM (aB g)] at hi;exact hRet _ hi.symm
   ·have g:=aC g;refine⟨λg2=> ?_,λg2=> ?_⟩
    ·have g2:day<=c.days.getD i 0:=by simpa using g2
     refine⟨(⟨c,day,fin,f,h⟩,c.days.getD i 0),⟨⟨⟨rfl,rfl⟩,⟨rfl,rfl⟩,⟨rfl,rfl⟩,trivial⟩,FI.hC2 ⟨c,day,fin,f,h⟩,trivial,h1⟩,⟨(),trivial⟩,λ_ _=> ?_⟩;have hk:choT ⟨c,day,fin,f,h⟩ (c.days.getD i 0) = .ok (qo h c.src c.name (c.days.getD i 0)):=rfl;simp only;rw [aX g2,cond_true];refine⟨λg3=> ?_,λg3=>⟨⟨by omega,by show _<=(9223372036854775807:Int); omega⟩,λ_=> ?_⟩⟩
     ·rw [g3] at hk;rw [JY g g2 hk] at hi;exact hRet _ hi.symm
     ·rw [aP trivial,g3];rw [g3] at hk;rw [Qu g g2 hk] at hi;exact hstep hi _
    ·have g2:¬ day<=c.days.getD i 0:=by simpa using g2
     rw [JI g g2] at hi;rw [aW g2,cond_false];refine⟨λg3=>absurd g3 (by decide),λ_=>⟨⟨by omega,by show _<=(9223372036854775807:Int); omega⟩,λ_=> ?_⟩⟩;rw [aP trivial];exact hstepU hi
  ·have hge:i=c.days.length:=by have:=aC hge; omega
   subst hge;rw [List.drop_length] at hi;exact hRet _ hi.symm
def zal(Xp:List PanicEntry->Prop):Ctr where
 fresh:=false
 spec args hc:=match args with
  | [_,_,_,.fn g _ _]=>if g=116 then(Xl Xp).spec args hc else(Kk Xp).spec args hc
  | _=>.fail
theorem zdj(Xp:List PanicEntry->Prop):zA Xp prog 126 (zal Xp):=by
 intro args hc Q hq hf;simp only [zal] at hq;split at hq
 ·split at hq
  ·exact zfh Xp _ hc Q hq (λh=>by cases h)
  ·exact zfk Xp _ hc Q hq (λh=>by cases h)
 ·exact hq.elim
theorem vg(c:Con):eqA c.conD c.conA:=by
 simp only [Con.conD,Con.outD,Con.conA,eqA];exact⟨⟨rfl,rfl⟩,rfl,rfl,rfl,⟨rfl,rfl⟩,rfl,rfl,⟨rfl,rfl⟩,⟨rfl,rfl,λ_ _ _ _=>rfl⟩,⟨rfl,rfl⟩,⟨rfl,rfl,λ_ _ _ _=>rfl⟩,⟨rfl,rfl,Con.zQ c⟩,trivial⟩
def FI.val(k:FI):Except Int (List Fl):=flM k.f k.h k.c k.day k.fin
def flC(G:FI->Prop)(n:Nat)(Xp:List PanicEntry->Prop):Ctr:=ctrS (λk:FI=>[k.c.conA,.i k.day,.i k.fin,envA k.f k.h]) (λ_=>[]) (λk=>G k/\k.c.nodes<n/\qA Xp k.val) (λk=>okM k.val) (λk=>(.osl 0 5 0 (getM [] k.val).length,[.arr (getM [] k.val).length 5 (flG (getM [] k.val))]))
def FI.kid(k:FI)(i:Nat):FI:=⟨k.c.sub.getD i Con.nil,k.day,k.fin,k.f,k.h⟩
theorem FI.zth(k:FI)(n:Nat)(g:Nat->Nat->AV):eqH (expH (k.heap++[.arr n 5 g]) [0,1,2,3,4]) (k.heap++[.arr n 5 g]):=by
 simp [expH,expB,exp1,exp0,ren0,FI.heap,zK,Con.zi,Con.qK,fxS,chS,Ex.exS,Con.dayS,Con.conS,za]
def zh5(G:FI->Prop)(n:Nat)(Xp:List PanicEntry->Prop):Ctr:=ctrS (λp:FI×Bool=>[.bool p.2,.ptr 0 0,.ptr 1 0,.ptr 2 0,.ptr 3 0]) (λp=>p.1.heap) (λp=>p.2.toNat<p.1.c.sub.length/\G (p.1.kid p.2.toNat)/\(p.1.kid p.2.toNat).c.nodes<n/\qA Xp (p.1.kid p.2.toNat).val) (λp=>okM (p.1.kid p.2.toNat).val) (λp=>(.osl 4 5 0 (getM [] (p.1.kid p.2.toNat).val).length,p.1.heap++[.arr (getM [] (p.1.kid p.2.toNat).val).length 5 (flG (getM [] (p.1.kid p.2.toNat).val))]))
noncomputable def GFp(G:FI->Prop)(n:Nat)(Xp:List PanicEntry->Prop):Nat->Option Ctr:=λf=>if f=85 then some (flC G n Xp) else none
theorem zra{G:FI->Prop}{n:Nat}{Xp:List PanicEntry->Prop}(ih:zA Xp prog 85 (flC G n Xp)):∀ f c,GFp G n Xp f=some c->zA Xp prog f c:=vF ih yv
theorem zbb{G:FI->Prop}{n:Nat}{Xp:List PanicEntry->Prop}(ih:zA Xp prog 85 (flC G n Xp)):zA Xp prog 124 (zh5 G n Xp):=by
 refine yh (fn:=f124) (c:=f124.body.getD .skip) rfl rfl rfl λp hp O w0 I0 Q hl0 hq=> ?_
 obtain⟨⟨c,day,fin,f,h⟩,b⟩:=p;obtain⟨h1,h2,h3,h4⟩:=hp;simp only at h1 h2 h3 h4 hq;refine zd.runX hmix (zra ih) [] 400 (T:=let v2:List AV:=[.sl f.length 3 (fxG f),.sl h.length 4 (chG h)];let v1:=[AV.sl f.length 3 (fxG f),AV.sl h.length 4 (chG h)];.ite b (.side ((0:Int)<=1/\(1:Int)<(c.sub.length:Int)) (.ex (λ(x:FI)=>eqL [(Con.conD (List.getD c.sub 1 Con.nil)),.i day,.i fin,.agg v1] [(Con.conA x.c),.i x.day,.i x.fin,.agg [.sl x.f.length 3 (fxG x.f),.sl x.h.length 4 (chG x.h)]]/\eqH [] []/\0=0/\G x/\Con.nodes x.c<n/\qA Xp x.val) λn=>let v3:=getM [] n.val;.ite (okM n.val) (.R [.osl 4 5 0 (List.length v3)] [.box (Con.zi c),.box [.i day],.box [.i fin],.box v2,.arr (List.length v3) 5 (flG v3)]) (.leaf qe.gone))) (.side ((0:Int)<=0/\(0:Int)<(c.sub.length:Int)) (.ex (λ(x:FI)=>eqL [(Con.conD (List.getD c.sub 0 Con.nil)),.i day,.i fin,.agg v1] [(Con.conA x.c),.i x.day,.i x.fin,.agg [.sl x.f.length 3 (fxG x.f),.sl x.h.length 4 (chG x.h)]]/\eqH [] []/\0=0/\G x/\Con.nodes x.c<n/\qA Xp x.val) λn=>let v4:=getM [] n.val;.ite (okM n.val) (.R [.osl 4 5 0 (List.length v4)] [.box (Con.zi c),.box [.i day],.box [.i fin],.box v2,.arr (List.length v4) 5 (flG v4)]) (.leaf qe.gone)))) (by kernel_rfl) ?_;simp only [Tree.holds,zh,inR,lo,hi,aD]
 have fin1:∀ (i:Nat) (Q':Prop),i<c.sub.length->b.toNat=i->(okM (FI.kid ⟨c,day,fin,f,h⟩ i).val=true->RetR (zh5 G n Xp) (FI.heap ⟨c,day,fin,f,h⟩).length Q [.osl 4 5 0 (getM [] (FI.kid ⟨c,day,fin,f,h⟩ i).val).length] (FI.heap ⟨c,day,fin,f,h⟩++[.arr (getM [] (FI.kid ⟨c,day,fin,f,h⟩ i).val).length 5 (flG (getM [] (FI.kid ⟨c,day,fin,f,h⟩ i).val))])):=by
  intro i _ hi hb ho;rw [hb] at hq;exact RetR.xO [0,1,2,3,4] rfl rfl (by show ∀ j,j<4->_; decide) rfl (hq ho) (LeA.refl _) (FI.zth ⟨c,day,fin,f,h⟩ _ _) rfl
 have argE:eqA (envA f h) (envA f h):=⟨⟨rfl,rfl,λ_ _ _ _=>rfl⟩,⟨rfl,rfl,λ_ _ _ _=>rfl⟩,trivial⟩;refine⟨λhb=> ?_,λhb=> ?_⟩
 ·subst hb;refine⟨⟨by decide,by have:1<c.sub.length:=h1; omega⟩,λ_=>⟨FI.kid ⟨c,day,fin,f,h⟩ 1,⟨⟨vg _,⟨rfl,rfl⟩,⟨rfl,rfl⟩,argE,trivial⟩,trivial,trivial,h2,h3,h4⟩,fin1 1 True h1 rfl,λ_=>trivial⟩⟩
 ·subst hb;refine⟨⟨by decide,by have:0<c.sub.length:=h1; omega⟩,λ_=>⟨FI.kid ⟨c,day,fin,f,h⟩ 0,⟨⟨vg _,⟨rfl,rfl⟩,⟨rfl,rfl⟩,argE,trivial⟩,trivial,trivial,h2,h3,h4⟩,fin1 0 True h1 rfl,λ_=>trivial⟩⟩
end Go.Proofs.Tryz
end
section
namespace Go.Nov
open Go.Sx
structure Pt(x y:Ex):Prop where
 x0:x.errX=0
 x1:x.z8=1
 y0:y.errX=0
 y1:y.z8=1
 s:x.size+y.size<500
 d1:x.depth<60
 d2:y.depth<60
section
variable {x y:Ex} {day:Int} {f:List Fx} {c:List Ch} (h:Pt x y)
include h
end
theorem Uh{x:Ex}{day:Int}{f:List Fx}{c:List Ch}(h:(jR x day f c).2=0):errR (jR x day f c).1=0:=by
 have ha:askE x 1 day f c=0:=bM λg=>g (by unfold jR at h; rw [aP g] at h; exact h)
 obtain⟨g1,g2,g3,_⟩:=Wr ha;have n0:¬ (0:Int)≠0:=by simp
 have he:(x.ev f day).e=0:=bM λg=>g (by unfold jR at h; rw [ha,aO n0,aP g] at h; exact h)
 have hv:jR x day f c=((x.ev f day).v,0):=by unfold jR; rw [ha,he,aO n0,aO n0]
 rw [hv];exact Ex.Zj (zat.1 g3).2.1 day x g2 he
end Go.Nov
end
section
namespace Go.Nov
open Go.Sx
theorem Con.zoq{P:Con->Prop}(h:∀ c:Con,(∀ i,i<c.sub.length->P (c.sub.getD i Con.nil))->P c)(c:Con):P c:=by
 generalize hn:c.nodes=n
 induction n using Nat.strongRecOn generalizing c with
 | _ n ih=>
  refine h c λi hi=>ih _ ?_ _ rfl
  have:=Con.wT hi;rw [Con.vV] at hn;omega
theorem yF{α:Type}{l:List α}{d:α}{i:Nat}(h:l.length<=i):l.getD i d=d:=by simp [List.getD,h]
theorem KD(f:List Fx)(h:List Ch)(day fin:Int):flM f h Con.nil day fin = .ok []:=by
 show flM f h (.mk 0 [] [] [] Ex.nil 0 [] []) day fin=_;rw [flM];simp
theorem zej(f:List Fx)(h:List Ch)(s:List Con)(i:Nat):(flMs f h s).getD i (λ_ _=>.ok [])=flM f h (s.getD i Con.nil):=by
 by_cases hi:i<s.length
 ·exact X3 f h s i hi
 ·have e:∀ (s:List Con),(flMs f h s).length=s.length:=by
   intro s; induction s with
   | nil=>rw [flMs]; rfl
   | cons a s ih=>rw [flMs]; simp [ih]
  rw [yF (by rw [e]; omega),yF (by omega)];funext day fin;rw [KD]
theorem QW(f:List Fx)(h:List Ch)(c:Con)(day fin:Int):flM f h c day fin =
  if fin<=day then .ok []
  else if c.kind=2 then andM (valM c.x day f h) λr=>.ok (payF day c.src c.dst c.name r)
  else if c.kind=3 then andM (flM f h (c.sub.getD 0 Con.nil) day fin) λu=>andM (flM f h (c.sub.getD 1 Con.nil) day fin) λv=>.ok (u++v)
  else if c.kind=4 then andM (valM c.x day f h) λr=>andM (flM f h (c.sub.getD 0 Con.nil) day fin) λu=>jv r u
  else if c.kind=5 then andM (holM c.x day f h) λt=>flM f h (c.sub.getD (if t=true then 0 else 1) Con.nil) day fin
  else if c.kind=6 then(if day<=c.date then flM f h (c.sub.getD 0 Con.nil) c.date fin else .ok [])
  else if c.kind=7 then flM f h (c.sub.getD (if qo h c.src c.name day=true then 0 else 1) Con.nil) day fin
  else if c.kind=8 then andM (firstM (λt=>.ok (qo h c.src c.name t)) day fin c.days) λt=>flM f h (c.sub.getD 0 Con.nil) t fin
  else if c.kind=9 then andM (firstM (λt=>holM c.x t f h) day fin c.days) λt=>flM f h (c.sub.getD 0 Con.nil) day t
  else if c.kind=10 then andM (firstM (λt=>holM c.x t f h) day fin c.days) λt=>flM f h (c.sub.getD 0 Con.nil) t fin
  else .ok []:=by
 cases c;rw [flM];simp only [zej];rfl
theorem vK{α β:Type}{x:Except Int α}{k:α->Except Int β}{r:β}(h:andM x k = .ok r):∃ a,x = .ok a/\k a = .ok r:=by
 cases x with
 | error e=>cases h
 | ok a=>exact⟨a,rfl,h⟩
theorem J9(d:Int)(a b n r:L8):(payF d a b n r).length<=1:=by unfold payF; split; simp; split<;>simp
theorem JU{k:L8} : ∀ {l m:List Fl},jv k l = .ok m->m.length<=l.length
 | [],m,h=>by cases h; simp
 | f::l,m,h=>by
  rw [jv] at h;split at h
  ·cases h
  ·split at h
   ·cases h
   ·rename_i m' hm;cases h;have:=JU hm;have:=J9 f.date f.src f.dst f.ccy (mulR f.amt k).1;simp; omega
def okFl(x:Fl):Prop:=errR x.amt=0/\0<qv x.amt
theorem zcz{d:Int}{a b n r:L8}(hr:errR r=0):∀ x∈payF d a b n r,okFl x:=by
 intro x hx;obtain⟨s1,s2,s3⟩:=uK hr;unfold payF at hx;split at hx
 ·simp at hx
 ·rename_i h0;split at hx
  ·rename_i h1;simp only [List.mem_singleton] at hx;subst hx;have e:negS r=r.drop 1:=by unfold negS; rw [aO h0,aP h1]
   obtain⟨n1,n2,_⟩:=znk hr;rw [e] at n1 n2;refine⟨n1,?_⟩;show 0<qv (r.drop 1);rw [n2];have:=s1.1 h1;grind
  ·rename_i h1;simp only [List.mem_singleton] at hx;subst hx;refine⟨hr,(zo5 hr).2 ⟨h0,h1⟩⟩
theorem Q3{x:Ex}{d:Int}{f:List Fx}{h:List Ch}{r:L8}(hv:valM x d f h = .ok r):errR r=0:=by
 unfold valM at hv;split at hv
 ·rename_i h0; cases hv; exact Uh h0
 ·cases hv
theorem VK{k:L8}(hk:errR k=0):∀ {l m:List Fl},(∀ x∈l,okFl x)->jv k l = .ok m->∀ x∈m,okFl x
 | [],m,_,h=>by cases h; simp
 | f::l,m,hl,h=>by
  rw [jv] at h;split at h
  ·cases h
  ·rename_i h0;split at h
   ·cases h
   ·rename_i m' hm;cases h;intro x hx;rcases bZ.1 hx with hx | hx
    ·exact zcz (Xb (hl f (by simp)).1 hk (by simpa using h0)).1 x hx
    ·exact VK hk (λy hy=>hl y (by simp [hy])) hm x hx
theorem KP{f:List Fx}{h:List Ch} : ∀ (c:Con) {day fin:Int} {l:List Fl},flM f h c day fin = .ok l->l.length<=c.nodes/\∀ x∈l,okFl x:=by
 refine Con.zoq ?_;intro c ih day fin l hl;have nl:=Con.vV c
 have kid:∀ (i:Nat) {day fin:Int} {l:List Fl},flM f h (c.sub.getD i Con.nil) day fin = .ok l->l.length<=Con.zu c.sub/\∀ x∈l,okFl x:=by
  intro i day fin l hl;by_cases hi:i<c.sub.length
  ·have:=ih i hi hl;exact⟨bP this.1 (Con.wT hi),this.2⟩
  ·rw [yF (by omega),KD] at hl;cases hl;simp
 have kid':∀ (i:Nat) {day fin:Int} {l:List Fl},flM f h (c.sub.getD i Con.nil) day fin = .ok l->l.length<=c.nodes/\∀ x∈l,okFl x:=λi day fin l hl=>⟨by have:=(kid i hl).1; omega,(kid i hl).2⟩
 have non:∀ l:List Fl,(Except.ok []:Except Int (List Fl)) = .ok l->l.length<=c.nodes/\∀ x∈l,okFl x:=by
  intro l hl; cases hl; simp
 rw [QW] at hl;split at hl
 ·exact non l hl
 split at hl
 ·obtain⟨r,h1,h2⟩:=vK hl;cases h2;have:=J9 day c.src c.dst c.name r;exact⟨by omega,zcz (Q3 h1)⟩
 split at hl
 ·obtain⟨u,h1,h2⟩:=vK hl;obtain⟨v,h3,h4⟩:=vK h2;cases h4;refine⟨?_,λx hx=>(bZ.1 hx).elim ((kid 0 h1).2 x) ((kid 1 h3).2 x)⟩;rw [bO];by_cases hi:1<c.sub.length
  ·have a1:=(ih 0 (by omega) h1).1;have a2:=(ih 1 hi h3).1;have t1:Con.zu (c.sub.take 1)=_:=Con.ZY (s:=c.sub) (i:=0) (by omega);have t2:Con.zu (c.sub.take 2)=_:=Con.ZY (s:=c.sub) (i:=1) hi;have t3:=Con.ze5 c.sub 2;have t4:Con.zu (c.sub.take 0)=0:=by rw [List.take_zero,Con.zu]
   omega
  ·rw [yF (by omega:c.sub.length<=1),KD] at h3;cases h3;have:=(kid' 0 h1).1;simpa using this
 split at hl
 ·obtain⟨r,h1,h2⟩:=vK hl;obtain⟨u,h3,h4⟩:=vK h2;have:=JU h4;have:=(kid' 0 h3).1;exact⟨by omega,VK (Q3 h1) (kid' 0 h3).2 h4⟩
 split at hl
 ·obtain⟨t,h1,h2⟩:=vK hl;exact kid' _ h2
 split at hl
 ·split at hl
  ·exact kid' _ hl
  ·exact non l hl
 split at hl
 ·exact kid' _ hl
 split at hl
 ·obtain⟨t,h1,h2⟩:=vK hl;exact kid' _ h2
 split at hl
 ·obtain⟨t,h1,h2⟩:=vK hl;exact kid' _ h2
 split at hl
 ·obtain⟨t,h1,h2⟩:=vK hl;exact kid' _ h2
 ·exact non l hl
end Go.Nov
end
section
set_option maxRecDepth 100000
open Go Go.Sx Go.Proofs Go.Nov
namespace Go.Proofs.Tryz
attribute [local simp] eqKV eqA eqA0 eqH eqB eqL eqL0
noncomputable def K85:=Go.Sx.aA f85
def FI.G(k:FI):Prop:=k.c.form=true/\k.c.big<2^40/\k.c.nodes<2^20/\envP (k.f,k.h)
theorem jC{α β:Type}{Xp:List PanicEntry->Prop}{x:Except Int α}{k:α->Except Int β}(h:qA Xp (andM x k)):qA Xp x/\∀ a,x = .ok a->qA Xp (k a):=
 ⟨λe he=>h e (by rw [he]; rfl),λa ha e he=>h e (by rw [ha]; exact he)⟩
noncomputable def GFl(n:Nat)(Xp:List PanicEntry->Prop):Nat->Option Ctr:=λf=>if f=116 then some Xt else if f=118 then some (zai Xp) else if f=121 then some (zlp Xp) else if f=124 then some (zh5 FI.G n Xp) else if f=126 then some (zal Xp) else if f=125 then some zq1 else if f=85 then some (flC FI.G n Xp) else if f=42 then some VA else if f=122 then some (UG Xp) else none
theorem zkk{n:Nat}{Xp:List PanicEntry->Prop}(ih:zA Xp prog 85 (flC FI.G n Xp)):∀ f c,GFl n Xp f=some c->zA Xp prog f c:=
 vF Wq.x (vF (VM Xp) (vF (zdr Xp) (vF (zbb ih) (vF (zdj Xp) (vF zmv.x (vF ih (vF uD.x (vF (V1 Xp) yv))))))))
theorem ztl{α β:Type}{a:α}{k:α->Except Int β} : Go.Nov.andM (.ok a) k=k a:=rfl
def SFl(r:L8)(u:List Fl)(m i:Nat):KV:=[(13,.str r),(14,.osl 5 5 0 m),(50,.osl 4 5 0 u.length),(51,.i (u.length:Int)),(52,.i (i:Int))]
def HFl(c:Con)(day fin:Int)(f:List Fx)(h:List Ch)(u m:List Fl):Heap:=[.box c.zi,.box [.i day],.box [.i fin],.box [.sl f.length 3 (fxG f),.sl h.length 4 (chG h)],.arr u.length 5 (flG u),.arr m.length 5 (flG m)]
abbrev q62(A:List AV)(x:Fl):Prop:=eqL A [.i x.date,.str x.src,.str x.dst,.str x.ccy,.str x.amt]/\Fl.amt x≠[]/\List.length x.amt<1099511627776
theorem UZ{n:Nat}{Xp:List PanicEntry->Prop}(ih:zA Xp prog 85 (flC FI.G n Xp)){c:Con}{day fin:Int}{f:List Fx}{h:List Ch}{r:L8}{u:List Fl}(hfl:flM f h c day fin=jv r u)(hst:qA Xp (jv r u))(hlen:u.length<2^20)(hok:∀ x∈u,okFl x)(hr:errR r=0){Q:AV×Heap->Prop}(hQ:∀ l,flM f h c day fin = .ok l->Q (.osl 0 5 0 l.length,[.arr l.length 5 (flG l)])){O:Nat->Prop}{w0:World}{I0:List SE} :
  qj Xp none prog f85 O 0 w0 I0 (λ_ _ _=>False) (RetR (flC FI.G (n+1) Xp) 0 (upQ Q)) (.code (.loop (lps K85 0).1)::(lps K85 0).2) (mk f85.ntmps [(13,.str r),(14,.nils),(50,.osl 4 5 0 u.length),(51,.i (u.length:Int)),(52,.i 0)] [.box c.zi,.box [.i day],.box [.i fin],.box [.sl f.length 3 (fxG f),.sl h.length 4 (chG h)],.arr u.length 5 (flG u)]):=by
 refine zd.bear 14 5 (flG []) rfl (by decide) (by kernel_rfl) ?_
 refine zd.loop (ι:={z:Nat×List Fl // z.1<=u.length/\z.2.length<=z.1/\jv r u=andM (jv r (u.drop z.1)) λl=>.ok (z.2++l)}) (λz=>SFl r u z.1.2.length z.1.1) (λz=>HFl c day fin f h u z.1.2) (λz=>u.length - z.1.1) ⟨(0,[]),aI _,aJ _,by
  show jv r u=_;rw [List.drop_zero];cases jv r u<;>rfl⟩ 0 ?_ ?_ (by kernel_rfl)
 ·exact⟨by simp [SFl,xE,za],by simp [HFl,za,Con.zi,Con.qK,fxS,chS,Ex.exS,Con.dayS,Con.conS],by kernel_rfl,aI _⟩
 ·rintro⟨⟨i,m⟩,hi,hm,hs⟩;simp only at hi hm hs;refine zd.runX hmix (zkk ih) [13,14,50,51,52] 400 (T:=let v4:List AV:=[.sl f.length 3 (fxG f),.sl h.length 4 (chG h)];let v1:=u.getD (0+Int.toNat i) Fl.nil;.D ((i:Int)<u.length) (.side ((0:Int)<=i/\(i:Int)<u.length) (.ex (q46 [.str v1.amt,.str r]) λn=>.all (λ(r:L8×Int)=>r=mulR n.1 n.2) λn=>.ex (λ(x:L8×Int)=>eqL [.str n.1,.i n.2] [.str x.1,.i x.2]/\eqH [] []/\0=0/\(x.2≠0->Xp (Za yP x.2))) λn=>.D (n.2=0) (.ex (q62 [.i v1.date,.str v1.src,.str v1.dst,.str v1.ccy,.str n.1]) λn=>let v2:=payF n.date n.src n.dst n.ccy n.amt;let v3:=m.length+List.length v2;.A λn_1=>.side (0=0/\m.length<=m.length/\v3 *72<=140737488355328) (.S (i+1) (.leaf (.back 0 [(13,.str r),(14,.osl 5 5 0 v3),(50,.osl 4 5 0 u.length),(51,.i u.length),(52,.i (i+1))] [.box (Con.zi c),.box [.i day],.box [.i fin],.box v4,.arr u.length 5 (flG u),.arr v3 5 (appG m.length (flG m) (zf (flG v2) 0)),.box [.i v1.date,.str v1.src,.str v1.dst,.str v1.ccy,.str v1.amt],.arr (List.length v2) 5 (flG v2)])))) (.leaf qe.gone))) (.R [.osl 5 5 0 m.length] [.box (Con.zi c),.box [.i day],.box [.i fin],.box v4,.arr u.length 5 (flG u),.arr m.length 5 (flG m)])) (by kernel_rfl) ?_;simp only [q46,q62,Tree.holds,zh,inR,lo,hi,aD];refine⟨λhlt=> ?_,λhge=> ?_⟩
  ·have hlt:i<u.length:=by have:=aB hlt; omega
   have hd:u.drop i=u.getD i Fl.nil::u.drop (i+1):=by
    rw [List.drop_eq_getElem_cons hlt]; simp [List.getD,hlt]
   have hmem:u.getD i Fl.nil∈u:=by simp [List.getD,hlt]
   rw [hd,jv] at hs;rw [Nat.zero_add];have hx:=hok _ hmem;refine⟨⟨by omega,by omega⟩,λ_=>⟨((u.getD i Fl.nil).amt,r),⟨⟨rfl,rfl,trivial⟩,by have:=vk hx.1; show(u.getD i Fl.nil).amt.length<_; omega,by have:=vk hr; show r.length<_; omega⟩,⟨_,rfl⟩,?_⟩⟩;rintro _ rfl;refine⟨mulR (u.getD i Fl.nil).amt r,⟨⟨rfl,⟨rfl,rfl⟩,trivial⟩,trivial,trivial,λhe=> ?_⟩,λhe=> ?_,λ_=>trivial⟩
   ·refine hst _ ?_;rw [hs,aP he]; rfl
   ·have he:=aB he;have hmr:=(Xb hx.1 hr he).1;rw [aO (λhne=>hne he)] at hs;have hpl:=J9 (u.getD i Fl.nil).date (u.getD i Fl.nil).src (u.getD i Fl.nil).dst (u.getD i Fl.nil).ccy (mulR (u.getD i Fl.nil).amt r).1;refine⟨⟨(u.getD i Fl.nil).date,(u.getD i Fl.nil).src,(u.getD i Fl.nil).dst,(u.getD i Fl.nil).ccy,(mulR (u.getD i Fl.nil).amt r).1⟩,⟨⟨⟨rfl,rfl⟩,rfl,rfl,rfl,rfl,trivial⟩,(uK hmr).2.2,by have:=vk hmr; show List.length (mulR (u.getD i Fl.nil).amt r).1<_; omega⟩,⟨(),trivial⟩,λ_ _=>⟨⟨trivial,aJ _,?_⟩,λ_=>⟨⟨by omega,by show _<=(9223372036854775807:Int); omega⟩,λ_=> ?_⟩⟩⟩
    ·show(m.length+(payF (u.getD i Fl.nil).date (u.getD i Fl.nil).src (u.getD i Fl.nil).dst (u.getD i Fl.nil).ccy (mulR (u.getD i Fl.nil).amt r).1).length)*72<=_;omega
    ·rw [aP trivial];simp only;generalize payF (u.getD i Fl.nil).date (u.getD i Fl.nil).src (u.getD i Fl.nil).dst (u.getD i Fl.nil).ccy (mulR (u.getD i Fl.nil).amt r).1=p at hs hpl ⊢;refine⟨⟨(i+1,m++p),hlt,by simp only [bO]; omega,?_⟩,by show _ - (i+1)<_; omega,?_,?_,by kernel_rfl,aI _⟩
     ·rw [hs];cases jv r (u.drop (i+1)) with
      | error e=>rfl
      | ok l=>simp [ztl,List.append_assoc]
     ·simp [SFl]
     ·refine⟨by simp [Con.zi,Con.qK,Ex.exS,Con.dayS,Con.conS,za],by simp,by simp,by simp [za],⟨rfl,rfl,za _ _ _⟩,⟨by simp,rfl,?_⟩,trivial⟩;intro j k hj hk;have:=Q4 (o:=m) (a:=p) rfl rfl j k hj hk;show _=flG (m++p) j k;rw [<- this];simp only [appG,zf,Nat.zero_add]
  ·have hge:i=u.length:=by have:=aC hge; omega
   subst hge;rw [List.drop_length,jv] at hs;have hs:jv r u = .ok m:=by rw [hs]; show Except.ok (m++[])=_; rw [List.append_nil]
   exact RetR.zc8 (Q:=upQ Q) [5] rfl (by simp [HFl]) (by simp) rfl (.inl (hQ m (by rw [hfl,hs]))) (LeA.refl _) ⟨LeB.refl _,trivial⟩
theorem Uk{n:Nat}{Xp:List PanicEntry->Prop}(ih:zA Xp prog 85 (flC FI.G n Xp)):zA Xp prog 85 (flC FI.G (n+1) Xp):=by
 refine zh0 (fn:=f85) (c:=f85.body.getD .skip) rfl rfl rfl λp hp O w0 I0 Q hl0 hq=> ?_
 obtain⟨c,day,fin,f,h⟩:=p;obtain⟨h1,h2,h3⟩:=hp;simp only at h1 h2 h3 hq;refine zd.runX hmix (zkk ih) [13,14,50,51,52] 400 (T:=let v31:=[AV.i day,AV.ptr 0 0,AV.ptr 1 0];let v30:List AV:=[.sl f.length 3 (fxG f),.sl h.length 4 (chG h)];let v28:List AV:=[.i day];let v27:=[AV.i fin];let v20:List AV:=[.i fin];let v18:=[AV.bool false,AV.ptr 0 0,AV.ptr 1 0,AV.ptr 2 0,AV.ptr 3 0];let v17:=[AV.i day];let v11:=[AV.ptr 0 0,AV.ptr 1 0,AV.ptr 2 0];let v10:=[AV.ptr 0 0,AV.ptr 1 0];let v9:=Con.conD (List.getD c.sub 0 Con.nil);let v3:qe:=.ret [.nils] [.box (Con.zi c),.box v28,.box v20,.box v30];let v1:=[AV.sl f.length 3 (fxG f),AV.sl h.length 4 (chG h)];let v33:List Blk:=[.box (Con.zi c),.box v1];.D (fin<=day) (.leaf v3) (.D (Con.kind c=2) (.ex (λ(x:FI)=>eqL v11 v11/\eqH [.box (Con.zi c),.box v17,.box v1] [.box (Con.zi x.c),.box [.i x.day],.box [.sl x.f.length 3 (fxG x.f),.sl x.h.length 4 (chG x.h)]]/\3=3/\VI.ok { x:=Con.x x.c,day:=FI.day x,f:=FI.f x,c:=FI.h x } /\ qA Xp (valM (Con.x x.c) x.day x.f x.h)) λn=>let v26:=valM (Con.x n.c) n.day n.f n.h;.ite (okM v26) (.side (Con.name n.c=Con.name c) (.side (Con.dst n.c=Con.dst c) (.side (Con.src n.c=Con.src c) (.side (FI.day n=day) (.ex (q62 [.i day,.str c.src,.str c.dst,.str c.name,.str (getM [] v26)]) λn_1=>let v6:=payF n_1.date n_1.src n_1.dst n_1.ccy n_1.amt;.A λn_2=>.R [.osl 4 5 0 (List.length v6)] [.box (Con.zi n.c),.box [.i n.day],.box v20,.box [.sl n.f.length 3 (fxG n.f),.sl n.h.length 4 (chG n.h)],.arr (List.length v6) 5 (flG v6)]))))) (.leaf qe.gone)) (.D (Con.kind c=3) (.ex (λ(x:FI×Bool)=>let v21:=FI.kid x.1 (Bool.toNat x.2);eqL v18 [.bool x.2,.ptr 0 0,.ptr 1 0,.ptr 2 0,.ptr 3 0]/\eqH [.box (Con.zi c),.box v17,.box v27,.box v1] [.box (Con.zi x.1.c),.box [.i x.1.day],.box [.i x.1.fin],.box [.sl x.1.f.length 3 (fxG x.1.f),.sl x.1.h.length 4 (chG x.1.h)]]/\4=4/\Bool.toNat x.2<List.length (Con.sub x.1.c)/\FI.G v21/\Con.nodes v21.c<n/\qA Xp v21.val) λn_1=>let v29:=FI.val (FI.kid n_1.1 (Bool.toNat n_1.2));let v2:=getM [] v29;.ite (okM v29) (.ex (λ(x:FI×Bool)=>let v22:=FI.kid x.1 (Bool.toNat x.2);eqL [.bool true,.ptr 0 0,.ptr 1 0,.ptr 2 0,.ptr 3 0] [.bool x.2,.ptr 0 0,.ptr 1 0,.ptr 2 0,.ptr 3 0]/\eqH [.box (Con.zi n_1.1.c),.box [.i n_1.1.day],.box [.i n_1.1.fin],.box [.sl n_1.1.f.length 3 (fxG n_1.1.f),.sl n_1.1.h.length 4 (chG n_1.1.h)]] [.box (Con.zi x.1.c),.box [.i x.1.day],.box [.i x.1.fin],.box [.sl x.1.f.length 3 (fxG x.1.f),.sl x.1.h.length 4 (chG x.1.h)]]/\4=4/\Bool.toNat x.2<List.length (Con.sub x.1.c)/\FI.G v22/\Con.nodes v22.c<n/\qA Xp v22.val) λn=>let v32:=FI.val (FI.kid n.1 (Bool.toNat n.2));let v4:=getM [] v32;let v15:=List.length v2 +List.length v4;.ite (okM v32) (.side (0=0/\List.length v2 <=List.length v2/\v15 *72<=140737488355328) (.R [.osl 4 5 0 v15] [.box (Con.zi n.1.c),.box [.i n.1.day],.box [.i n.1.fin],.box [.sl n.1.f.length 3 (fxG n.1.f),.sl n.1.h.length 4 (chG n.1.h)],.arr v15 5 (appG (List.length v2) (flG v2) (zf (flG v4) 0)),.arr (List.length v4) 5 (flG v4)])) (.leaf qe.gone)) (.leaf qe.gone)) (.D (Con.kind c=4) (.ex (λ(x:FI)=>eqL v11 v11/\eqH [.box (Con.zi c),.box v17,.box v1] [.box (Con.zi x.c),.box [.i x.day],.box [.sl x.f.length 3 (fxG x.f),.sl x.h.length 4 (chG x.h)]]/\3=3/\VI.ok { x:=Con.x x.c,day:=FI.day x,f:=FI.f x,c:=FI.h x } /\ qA Xp (valM (Con.x x.c) x.day x.f x.h)) λn_1=>let v16:=valM (Con.x n_1.c) n_1.day n_1.f n_1.h;.ite (okM v16) (.ex (λ(x:FI×Bool)=>let v23:=FI.kid x.1 (Bool.toNat x.2);eqL v18 [.bool x.2,.ptr 0 0,.ptr 1 0,.ptr 2 0,.ptr 3 0]/\eqH [.box (Con.zi n_1.c),.box [.i n_1.day],.box v27,.box [.sl n_1.f.length 3 (fxG n_1.f),.sl n_1.h.length 4 (chG n_1.h)]] [.box (Con.zi x.1.c),.box [.i x.1.day],.box [.i x.1.fin],.box [.sl x.1.f.length 3 (fxG x.1.f),.sl x.1.h.length 4 (chG x.1.h)]]/\4=4/\Bool.toNat x.2<List.length (Con.sub x.1.c)/\FI.G v23/\Con.nodes v23.c<n/\qA Xp v23.val) λn=>let v5:=FI.val (FI.kid n.1 (Bool.toNat n.2));let v38:=getM [] v5;.ite (okM v5) (.leaf (.loop (lps K85 0).1 (lps K85 0).2 [(13,.str (getM [] v16)),(14,.nils),(50,.osl 4 5 0 (List.length v38)),(51,.int .i64 ↑(List.length v38)),(52,.i 0)] [.box (Con.zi n.1.c),.box [.i n.1.day],.box [.i n.1.fin],.box [.sl n.1.f.length 3 (fxG n.1.f),.sl n.1.h.length 4 (chG n.1.h)],.arr (List.length v38) 5 (flG v38)])) (.leaf qe.gone)) (.leaf qe.gone)) (.D (Con.kind c=5) (.ex (λ(x:FI×Int)=>eqL v31 [.i x.2,.ptr 0 0,.ptr 1 0]/\eqH v33 [.box (Con.zi x.1.c),.box [.sl x.1.f.length 3 (fxG x.1.f),.sl x.1.h.length 4 (chG x.1.h)]]/\2=2/\VI.ok { x:=Con.x x.1.c,day:=x.2,f:=FI.f x.1,c:=FI.h x.1 } /\ qA Xp (holM (Con.x x.1.c) x.2 x.1.f x.1.h)) λn_1=>let v19:=holM (Con.x n_1.1.c) n_1.2 n_1.1.f n_1.1.h;.ite (okM v19) (.ex (λ(x:FI×Bool)=>let v24:=FI.kid x.1 (Bool.toNat x.2);eqL [.bool !getM false v19,.ptr 0 0,.ptr 1 0,.ptr 2 0,.ptr 3 0] [.bool x.2,.ptr 0 0,.ptr 1 0,.ptr 2 0,.ptr 3 0]/\eqH [.box (Con.zi n_1.1.c),.box v17,.box v27,.box [.sl n_1.1.f.length 3 (fxG n_1.1.f),.sl n_1.1.h.length 4 (chG n_1.1.h)]] [.box (Con.zi x.1.c),.box [.i x.1.day],.box [.i x.1.fin],.box [.sl x.1.f.length 3 (fxG x.1.f),.sl x.1.h.length 4 (chG x.1.h)]]/\4=4/\Bool.toNat x.2<List.length (Con.sub x.1.c)/\FI.G v24/\Con.nodes v24.c<n/\qA Xp v24.val) λn=>let v7:=FI.val (FI.kid n.1 (Bool.toNat n.2));.ite (okM v7) (.R [.osl 4 5 0 (List.length (getM [] v7))] [.box (Con.zi n.1.c),.box [.i n.1.day],.box [.i n.1.fin],.box [.sl n.1.f.length 3 (fxG n.1.f),.sl n.1.h.length 4 (chG n.1.h)],.arr (List.length (getM [] v7)) 5 (flG (getM [] v7))]) (.leaf qe.gone)) (.leaf qe.gone)) (.D (Con.kind c=7) (.ex (q61 v31 [.box v1,.box (Con.zi c)]) λn_1=>.A λn_2=>.ex (λ(x:FI×Bool)=>let v25:=FI.kid x.1 (Bool.toNat x.2);eqL [.bool !qo n_1.1.h (Con.src n_1.1.c) (Con.name n_1.1.c) n_1.2,.ptr 0 0,.ptr 1 0,.ptr 2 0,.ptr 3 0] [.bool x.2,.ptr 0 0,.ptr 1 0,.ptr 2 0,.ptr 3 0]/\eqH [.box (Con.zi n_1.1.c),.box v17,.box v27,.box [.sl n_1.1.f.length 3 (fxG n_1.1.f),.sl n_1.1.h.length 4 (chG n_1.1.h)]] [.box (Con.zi x.1.c),.box [.i x.1.day],.box [.i x.1.fin],.box [.sl x.1.f.length 3 (fxG x.1.f),.sl x.1.h.length 4 (chG x.1.h)]]/\4=4/\Bool.toNat x.2<List.length (Con.sub x.1.c)/\FI.G v25/\Con.nodes v25.c<n/\qA Xp v25.val) λn=>let v8:=FI.val (FI.kid n.1 (Bool.toNat n.2));.ite (okM v8) (.R [.osl 4 5 0 (List.length (getM [] v8))] [.box (Con.zi n.1.c),.box [.i n.1.day],.box [.i n.1.fin],.box [.sl n.1.f.length 3 (fxG n.1.f),.sl n.1.h.length 4 (chG n.1.h)],.arr (List.length (getM [] v8)) 5 (flG (getM [] v8))]) (.leaf qe.gone)) (.D (Con.kind c=6) (.D (day<=Con.date c) (.side ((0:Int)<=0/\(0:Int)<(c.sub.length:Int)) (.ex (λ(x:FI)=>eqL [v9,.i c.date,.i fin,.agg v1] [(Con.conA x.c),.i x.day,.i x.fin,.agg [.sl x.f.length 3 (fxG x.f),.sl x.h.length 4 (chG x.h)]]/\eqH [] []/\0=0/\FI.G x/\Con.nodes x.c<n/\qA Xp x.val) λn=>let v34:=getM [] n.val;.ite (okM n.val) (.R [.osl 4 5 0 (List.length v34)] [.box (Con.zi c),.box v28,.box v20,.box v30,.arr (List.length v34) 5 (flG v34)]) (.leaf qe.gone))) (.leaf v3)) (.D (Con.kind c=8) (.side ((0:Int)<=0/\(0:Int)<(c.sub.length:Int)) (.ex (λ(x:FI)=>eqL [(Con.conA c),.i day,.i fin,.fn 116 [] v10] [(Con.conA x.c),.i x.day,.i x.fin,.fn 116 [] v10]/\eqH [.box v1,.box (Con.zi c)] [.box [.sl x.f.length 3 (fxG x.f),.sl x.h.length 4 (chG x.h)],.box (Con.zi x.c)]/\2=2/\List.length x.h<1099511627776/\List.length (Con.days x.c)<1099511627776/\qA Xp (firstM (choT x) x.day x.fin (Con.days x.c))) λn_1=>let v12:=firstM (choT n_1) n_1.day n_1.fin (Con.days n_1.c);.ite (okM v12) (.side ((List.length n_1.f=f.length/\3=3/\fxG n_1.f=fxG f)/\(List.length n_1.h=h.length/\4=4/\chG n_1.h=chG h)/\True) (.side (List.length (Con.sub n_1.c)=List.length c.sub/\12=12/\Con.conG (Con.sub n_1.c)=Con.conG c.sub) (.ex (λ(x:FI)=>eqL [v9,.i (getM (0:Int) v12),.i fin,.agg v1] [(Con.conA x.c),.i x.day,.i x.fin,.agg [.sl x.f.length 3 (fxG x.f),.sl x.h.length 4 (chG x.h)]]/\eqH [] []/\0=0/\FI.G x/\Con.nodes x.c<n/\qA Xp x.val) λn=>let v35:=getM [] n.val;.ite (okM n.val) (.R [.osl 4 5 0 (List.length v35)] [.box (Con.zi n_1.c),.box v28,.box v20,.box [.sl n_1.f.length 3 (fxG n_1.f),.sl n_1.h.length 4 (chG n_1.h)],.arr (List.length v35) 5 (flG v35)]) (.leaf qe.gone)))) (.leaf qe.gone))) (.D (Con.kind c=9) (.side ((0:Int)<=0/\(0:Int)<(c.sub.length:Int)) (.ex (λ(x:FI)=>eqL [(Con.conA c),.i day,.i fin,.fn 118 [] v10] [(Con.conA x.c),.i x.day,.i x.fin,.fn 118 [] v10]/\eqH v33 [.box (Con.zi x.c),.box [.sl x.f.length 3 (fxG x.f),.sl x.h.length 4 (chG x.h)]]/\2=2/\(∀ (d:Int),VI.ok { x:=Con.x x.c,day:=d,f:=FI.f x,c:=FI.h x })/\List.length (Con.days x.c)<1099511627776/\qA Xp (firstM (holT x) x.day x.fin (Con.days x.c))) λn_1=>let v13:=firstM (holT n_1) n_1.day n_1.fin (Con.days n_1.c);.ite (okM v13) (.side ((List.length n_1.f=f.length/\3=3/\fxG n_1.f=fxG f)/\(List.length n_1.h=h.length/\4=4/\chG n_1.h=chG h)/\True) (.side (List.length (Con.sub n_1.c)=List.length c.sub/\12=12/\Con.conG (Con.sub n_1.c)=Con.conG c.sub) (.ex (λ(x:FI)=>eqL [v9,.i day,.i (getM (0:Int) v13),.agg v1] [(Con.conA x.c),.i x.day,.i x.fin,.agg [.sl x.f.length 3 (fxG x.f),.sl x.h.length 4 (chG x.h)]]/\eqH [] []/\0=0/\FI.G x/\Con.nodes x.c<n/\qA Xp x.val) λn=>let v36:=getM [] n.val;.ite (okM n.val) (.R [.osl 4 5 0 (List.length v36)] [.box (Con.zi n_1.c),.box v28,.box v20,.box [.sl n_1.f.length 3 (fxG n_1.f),.sl n_1.h.length 4 (chG n_1.h)],.arr (List.length v36) 5 (flG v36)]) (.leaf qe.gone)))) (.leaf qe.gone))) (.D (Con.kind c=10) (.side ((0:Int)<=0/\(0:Int)<(c.sub.length:Int)) (.ex (λ(x:FI)=>eqL [(Con.conA c),.i day,.i fin,.fn 118 [] v10] [(Con.conA x.c),.i x.day,.i x.fin,.fn 118 [] v10]/\eqH v33 [.box (Con.zi x.c),.box [.sl x.f.length 3 (fxG x.f),.sl x.h.length 4 (chG x.h)]]/\2=2/\(∀ (d:Int),VI.ok { x:=Con.x x.c,day:=d,f:=FI.f x,c:=FI.h x })/\List.length (Con.days x.c)<1099511627776/\qA Xp (firstM (holT x) x.day x.fin (Con.days x.c))) λn_1=>let v14:=firstM (holT n_1) n_1.day n_1.fin (Con.days n_1.c);.ite (okM v14) (.side ((List.length n_1.f=f.length/\3=3/\fxG n_1.f=fxG f)/\(List.length n_1.h=h.length/\4=4/\chG n_1.h=chG h)/\True) (.side (List.length (Con.sub n_1.c)=List.length c.sub/\12=12/\Con.conG (Con.sub n_1.c)=Con.conG c.sub) (.ex (λ(x:FI)=>eqL [v9,.i (getM (0:Int) v14),.i fin,.agg v1] [(Con.conA x.c),.i x.day,.i x.fin,.agg [.sl x.f.length 3 (fxG x.f),.sl x.h.length 4 (chG x.h)]]/\eqH [] []/\0=0/\FI.G x/\Con.nodes x.c<n/\qA Xp x.val) λn=>let v37:=getM [] n.val;.ite (okM n.val) (.R [.osl 4 5 0 (List.length v37)] [.box (Con.zi n_1.c),.box v28,.box v20,.box [.sl n_1.f.length 3 (fxG n_1.f),.sl n_1.h.length 4 (chG n_1.h)],.arr (List.length v37) 5 (flG v37)]) (.leaf qe.gone)))) (.leaf qe.gone))) (.leaf v3))))))))))) (by kernel_rfl) ?_;simp only [q61,q62,Tree.holds,zh,inR,lo,hi,aD];obtain⟨g1,g2,g3,g4⟩:=h1;simp only at g1 g2 g3 g4;have hv:FI.val ⟨c,day,fin,f,h⟩=flM f h c day fin:=rfl;rw [hv] at h3
 have hQ:∀ l,flM f h c day fin = .ok l->Q (.osl 0 5 0 l.length,[.arr l.length 5 (flG l)]):=by
  intro l hl;have:=hq (by rw [hv,hl]; rfl);rw [hv,hl] at this;exact this
 clear hq
 have ret:∀ (l:List Fl) (m:Nat) (g:Nat->Nat->AV) (b0 b1 b2 b3:Blk) (rest:Heap),flM f h c day fin = .ok l->m=l.length->eqG m 5 g (flG l)->RetR (flC FI.G (n+1) Xp) 0 (upQ Q) [.osl 4 5 0 m] (b0::b1::b2::b3::.arr m 5 g::rest):=by
  intro l m g b0 b1 b2 b3 rest hl hm hg;subst hm;exact RetR.zc8 (Q:=upQ Q) [4] rfl (by simp) (by simp) rfl (.inl (hQ l hl)) (LeA.refl _) ⟨LeB.arr λj o hj ho=>by rw [hg j o hj ho]; exact LeA.refl _,trivial⟩
 have nil:∀ hs:Heap,flM f h c day fin = .ok []->RetR (flC FI.G (n+1) Xp) 0 (upQ Q) [.nils] hs:=by
  intro hs hl;exact RetR.le0 (Q:=upQ Q) (r:=.nils) (.inr ⟨.osl 0 5 0 0,[(5,flG [])],⟨⟨aJ _,Nat.zero_lt_one⟩,rfl,rfl⟩,hQ [] hl⟩) (λh=>by cases h) (LeA.refl _)
 have hbig:=Con.yR c;have hnod:=Con.vV c;have hform:=g1;rw [Con.znx,bA] at hform;obtain⟨hnb,hfs⟩:=hform
 have kidG:∀ (i:Nat) (d e:Int),i<c.sub.length->FI.G ⟨c.sub.getD i Con.nil,d,e,f,h⟩/\(c.sub.getD i Con.nil).nodes<n:=by
  intro i d e hi;have k1:=Con.wT hi;have k2:=Con.JJ hi;refine⟨⟨?_,by show(c.sub.getD i Con.nil).big<_; omega,by show(c.sub.getD i Con.nil).nodes<_; omega,g4⟩,by omega⟩;cases hf:(c.sub.getD i Con.nil).form with
  | true=>rfl
  | false=>rw [Con.VZ c.sub i hi hf] at hfs; cases hfs
 have okx:∀ d,VI.ok ⟨c.x,d,f,h⟩:=λd=>⟨by show c.x.size<_; omega,by show c.x.z9<_; omega,g4⟩
 have hhl:h.length<2^40:=g4.2.1;have hdl:c.days.length<2^40:=by omega
 have eC:eqH (FI.mk c day fin f h).hC (FI.mk c day fin f h).hC:=by simp [FI.hC,Con.zi,Con.qK,fxS,chS,Ex.exS,Con.dayS,Con.conS,za]
 have eT:eqH (FI.mk c day fin f h).hH (FI.mk c day fin f h).hH:=by simp [FI.hH,Con.zi,Con.qK,fxS,chS,Ex.exS,Con.dayS,Con.conS,za]
 have eV:eqH (FI.mk c day fin f h).hV (FI.mk c day fin f h).hV:=by simp [FI.hV,Con.zi,Con.qK,fxS,chS,Ex.exS,Con.dayS,Con.conS,za]
 have eH:eqH (FI.mk c day fin f h).heap (FI.mk c day fin f h).heap:=by simp [FI.heap,Con.zi,Con.qK,fxS,chS,Ex.exS,Con.dayS,Con.conS,za]
 have eA:eqA (envA f h) (envA f h):=⟨⟨rfl,rfl,λ_ _ _ _=>rfl⟩,⟨rfl,rfl,λ_ _ _ _=>rfl⟩,trivial⟩;have hst:=h3;refine⟨λh0=> ?_,λh0=> ?_⟩
 ·refine nil _ ?_;rw [QW,aP (aB h0)]
 have h0:=aC h0;have hfl:=QW f h c day fin;rw [aO h0] at hfl;refine⟨λhk=> ?_,λnk2=>⟨λhk=> ?_,λnk3=>⟨λhk=> ?_,λnk4=>⟨λhk=> ?_,λnk5=>⟨λhk=> ?_,λnk7=>⟨λhk=> ?_,λnk6=>⟨λhk=> ?_,λnk8=>⟨λhk=> ?_,λnk9=>⟨λhk=> ?_,λnk10=> ?_⟩⟩⟩⟩⟩⟩⟩⟩⟩
 ·have hk:=aB hk;simp only [hk,Int.reduceEq,if_true,if_false,reduceIte] at hfl;rw [hfl] at h3;refine⟨⟨c,day,fin,f,h⟩,⟨by simp,eV,trivial,okx _,(jC h3).1⟩,λho=>⟨rfl,λ_=>⟨rfl,λ_=>⟨rfl,λ_=>⟨rfl,λ_=> ?_⟩⟩⟩⟩,λ_=>trivial⟩;have hr:valM c.x day f h = .ok (getM [] (valM c.x day f h)):=qS ho;have hr2:=Q3 hr;refine⟨⟨day,c.src,c.dst,c.name,getM [] (valM c.x day f h)⟩,⟨by simp,(uK hr2).2.2,?_⟩,⟨(),trivial⟩,λ_ _=> ?_⟩
  ·show List.length (getM [] (valM c.x day f h))<_;have:=vk hr2;omega
  ·refine ret (payF day c.src c.dst c.name (getM [] (valM c.x day f h))) _ _ _ _ _ _ _ ?_ rfl (za _ _ _);rw [hfl,hr];rfl
 ·have hk:=aB hk;simp only [hk,vG] at hnb;have hl:c.sub.length=2:=by simp at hnb; omega
  simp only [hk,Int.reduceEq,if_true,if_false,reduceIte] at hfl;rw [hfl] at h3;obtain⟨s1,s2⟩:=jC h3;refine⟨(⟨c,day,fin,f,h⟩,false),⟨by simp,eH,trivial,by show 0<c.sub.length; omega,(kidG 0 _ _ (by omega)).1,(kidG 0 day fin (by omega)).2,s1⟩,λho=> ?_,λ_=>trivial⟩;have hr:flM f h (c.sub.getD 0 Con.nil) day fin = .ok (getM [] (flM f h (c.sub.getD 0 Con.nil) day fin)):=qS ho;obtain⟨s3,s4⟩:=jC (s2 _ hr);refine⟨(⟨c,day,fin,f,h⟩,true),⟨by simp,eH,trivial,by show 1<c.sub.length; omega,(kidG 1 _ _ (by omega)).1,(kidG 1 day fin (by omega)).2,s3⟩,λho2=> ?_,λ_=>trivial⟩;have hr2:flM f h (c.sub.getD 1 Con.nil) day fin = .ok (getM [] (flM f h (c.sub.getD 1 Con.nil) day fin)):=qS ho2;have l1:=(KP _ hr).1;have l2:=(KP _ hr2).1;have n1:(c.sub.getD 0 Con.nil).nodes<2^20:=(kidG 0 day fin (by omega)).1.2.2.1;have n2:(c.sub.getD 1 Con.nil).nodes<2^20:=(kidG 1 day fin (by omega)).1.2.2.1;refine⟨⟨trivial,aJ _,?_⟩,λ_=> ?_⟩
  ·show((getM [] (flM f h (c.sub.getD 0 Con.nil) day fin)).length+(getM [] (flM f h (c.sub.getD 1 Con.nil) day fin)).length)*72<=_;omega
  ·refine ret (getM [] (flM f h (c.sub.getD 0 Con.nil) day fin)++getM [] (flM f h (c.sub.getD 1 Con.nil) day fin)) _ _ _ _ _ _ _ ?_ (by rw [bO]; rfl) ?_
   ·rw [hfl,hr,hr2]; rfl
   ·intro j k hj hk;show appG (getM [] (flM f h (c.sub.getD 0 Con.nil) day fin)).length (flG (getM [] (flM f h (c.sub.getD 0 Con.nil) day fin))) (zf (flG (getM [] (flM f h (c.sub.getD 1 Con.nil) day fin))) 0) j k=_;have:=Q4 (o:=getM [] (flM f h (c.sub.getD 0 Con.nil) day fin)) (a:=getM [] (flM f h (c.sub.getD 1 Con.nil) day fin)) rfl rfl j k hj hk;rw [<- this];simp only [appG,zf,Nat.zero_add]
 ·have hk:=aB hk;simp only [hk,vG] at hnb;have hl:c.sub.length=1:=by simp at hnb; omega
  simp only [hk,Int.reduceEq,if_true,if_false,reduceIte] at hfl;rw [hfl] at h3;obtain⟨s1,s2⟩:=jC h3;refine⟨⟨c,day,fin,f,h⟩,⟨by simp,eV,trivial,okx _,s1⟩,λho=> ?_,λ_=>trivial⟩;have hr:valM c.x day f h = .ok (getM [] (valM c.x day f h)):=qS ho;obtain⟨s3,s4⟩:=jC (s2 _ hr);refine⟨(⟨c,day,fin,f,h⟩,false),⟨by simp,eH,trivial,by show 0<c.sub.length; omega,(kidG 0 _ _ (by omega)).1,(kidG 0 day fin (by omega)).2,s3⟩,λho2=> ?_,λ_=>trivial⟩;have hr2:flM f h (c.sub.getD 0 Con.nil) day fin = .ok (getM [] (flM f h (c.sub.getD 0 Con.nil) day fin)):=qS ho2;have s5:=s4 _ hr2;have n1:(c.sub.getD 0 Con.nil).nodes<2^20:=(kidG 0 day fin (by omega)).1.2.2.1;obtain⟨l1,l2⟩:=KP _ hr2;have hr3:=Q3 hr;rw [hr,hr2] at hfl;show qj Xp none prog f85 O 0 w0 I0 (λ_ _ _=>False) (RetR (flC FI.G (n+1) Xp) 0 (upQ Q)) (.code (.loop (lps K85 0).1)::(lps K85 0).2) (mk f85.ntmps [(13,.str (getM [] (valM c.x day f h))),(14,.nils),(50,.osl 4 5 0 (getM [] (flM f h (c.sub.getD 0 Con.nil) day fin)).length),(51,.i ((getM [] (flM f h (c.sub.getD 0 Con.nil) day fin)).length:Int)),(52,.i 0)] [.box c.zi,.box [.i day],.box [.i fin],.box [.sl f.length 3 (fxG f),.sl h.length 4 (chG h)],.arr (getM [] (flM f h (c.sub.getD 0 Con.nil) day fin)).length 5 (flG (getM [] (flM f h (c.sub.getD 0 Con.nil) day fin)))]);change flM f h c day fin=jv (getM [] (valM c.x day f h)) (getM [] (flM f h (c.sub.getD 0 Con.nil) day fin)) at hfl;generalize getM [] (flM f h (c.sub.getD 0 Con.nil) day fin)=u at hfl s5 l1 l2 ⊢;generalize getM [] (valM c.x day f h)=r at hfl s5 hr3 ⊢;exact UZ ih hfl s5 (by omega) l2 hr3 hQ
 ·have hk:=aB hk;simp only [hk,vG] at hnb;have hl:c.sub.length=2:=by simp at hnb; omega
  simp only [hk,Int.reduceEq,if_true,if_false,reduceIte] at hfl;rw [hfl] at h3;obtain⟨s1,s2⟩:=jC h3;refine⟨(⟨c,day,fin,f,h⟩,day),⟨by simp,eT,trivial,okx _,s1⟩,λho=> ?_,λ_=>trivial⟩;have hr:holM c.x day f h = .ok (getM false (holM c.x day f h)):=qS ho;have s3:=s2 _ hr;have eb:(if getM false (holM c.x day f h)=true then 0 else 1)=(!getM false (holM c.x day f h)).toNat:=by cases getM false (holM c.x day f h)<;>rfl
  have hb:(!getM false (holM c.x day f h)).toNat<c.sub.length:=by rw [hl]; cases getM false (holM c.x day f h)<;>decide
  rw [eb] at s3;refine⟨(⟨c,day,fin,f,h⟩,!getM false (holM c.x day f h)),⟨by simp,eH,trivial,hb,(kidG _ _ _ hb).1,(kidG _ day fin hb).2,s3⟩,λho2=> ?_,λ_=>trivial⟩;have hr2:=qS (d:=[]) ho2;refine ret _ _ _ _ _ _ _ _ ?_ rfl (za _ _ _);rw [hfl,hr];show flM f h (c.sub.getD (if getM false (holM c.x day f h)=true then 0 else 1) Con.nil) day fin=_;rw [eb];exact hr2
 ·have hk:=aB hk;simp only [hk,vG] at hnb;have hl:c.sub.length=2:=by simp at hnb; omega
  simp only [hk,Int.reduceEq,if_true,if_false,reduceIte] at hfl;rw [hfl] at h3;refine⟨(⟨c,day,fin,f,h⟩,day),⟨by simp,eC,trivial,hhl⟩,⟨(),trivial⟩,λ_ _=> ?_⟩;have eb:(if qo h c.src c.name day=true then 0 else 1)=(!qo h c.src c.name day).toNat:=by cases qo h c.src c.name day<;>rfl
  have hb:(!qo h c.src c.name day).toNat<c.sub.length:=by rw [hl]; cases qo h c.src c.name day<;>decide
  rw [eb] at h3 hfl;refine⟨(⟨c,day,fin,f,h⟩,!qo h c.src c.name day),⟨by simp,eH,trivial,hb,(kidG _ _ _ hb).1,(kidG _ day fin hb).2,h3⟩,λho2=> ?_,λ_=>trivial⟩;have hr2:=qS (d:=[]) ho2;refine ret _ _ _ _ _ _ _ _ ?_ rfl (za _ _ _);rw [hfl];exact hr2
 ·have hk:=aB hk;simp only [hk,vG] at hnb;have hl:c.sub.length=1:=by simp at hnb; omega
  simp only [hk,Int.reduceEq,if_true,if_false,reduceIte] at hfl;refine⟨λhd=> ?_,λhd=> ?_⟩
  ·rw [aP (aB hd)] at hfl;rw [hfl] at h3;refine⟨⟨by decide,by omega⟩,λ_=>⟨⟨c.sub.getD 0 Con.nil,c.date,fin,f,h⟩,⟨⟨vg _,⟨rfl,rfl⟩,⟨rfl,rfl⟩,eA,trivial⟩,trivial,trivial,(kidG 0 _ _ (by omega)).1,(kidG 0 day fin (by omega)).2,h3⟩,λho2=> ?_,λ_=>trivial⟩⟩;have hr2:=qS (d:=[]) ho2;refine ret _ _ _ _ _ _ _ _ ?_ rfl (za _ _ _);rw [hfl];exact hr2
  ·rw [aO (aC hd)] at hfl;exact nil _ hfl
 ·have hk:=aB hk;simp only [hk,vG] at hnb;have hl:c.sub.length=1:=by simp at hnb; omega
  simp only [hk,Int.reduceEq,if_true,if_false,reduceIte] at hfl;rw [hfl] at h3;obtain⟨s1,s2⟩:=jC h3;refine⟨⟨by decide,by omega⟩,λ_=>⟨⟨c,day,fin,f,h⟩,⟨⟨qW c,⟨rfl,rfl⟩,⟨rfl,rfl⟩,by simp,trivial⟩,eC,trivial,hhl,hdl,s1⟩,λho=>⟨⟨⟨rfl,trivial,rfl⟩,⟨rfl,trivial,rfl⟩,trivial⟩,λ_=>⟨⟨rfl,trivial,rfl⟩,λ_=> ?_⟩⟩,λ_=>trivial⟩⟩;have hr:=qS (d:=0) ho;refine⟨⟨c.sub.getD 0 Con.nil,getM 0 (firstM (choT ⟨c,day,fin,f,h⟩) day fin c.days),fin,f,h⟩,⟨⟨vg _,⟨rfl,rfl⟩,⟨rfl,rfl⟩,eA,trivial⟩,trivial,trivial,(kidG 0 _ _ (by omega)).1,(kidG 0 day fin (by omega)).2,s2 _ hr⟩,λho2=> ?_,λ_=>trivial⟩;have hr2:=qS (d:=[]) ho2;refine ret _ _ _ _ _ _ _ _ ?_ rfl (za _ _ _);rw [hfl];have hr':firstM (λt=>.ok (qo h c.src c.name t)) day fin c.days = .ok (getM 0 (firstM (choT ⟨c,day,fin,f,h⟩) day fin c.days)):=hr;rw [hr'];exact hr2
 ·have hk:=aB hk;simp only [hk,vG] at hnb;have hl:c.sub.length=1:=by simp at hnb; omega
  simp only [hk,Int.reduceEq,if_true,if_false,reduceIte] at hfl;rw [hfl] at h3;obtain⟨s1,s2⟩:=jC h3;refine⟨⟨by decide,by omega⟩,λ_=>⟨⟨c,day,fin,f,h⟩,⟨⟨qW c,⟨rfl,rfl⟩,⟨rfl,rfl⟩,by simp,trivial⟩,eT,trivial,okx,hdl,s1⟩,λho=>⟨⟨⟨rfl,trivial,rfl⟩,⟨rfl,trivial,rfl⟩,trivial⟩,λ_=>⟨⟨rfl,trivial,rfl⟩,λ_=> ?_⟩⟩,λ_=>trivial⟩⟩;have hr:=qS (d:=0) ho;refine⟨⟨c.sub.getD 0 Con.nil,day,getM 0 (firstM (holT ⟨c,day,fin,f,h⟩) day fin c.days),f,h⟩,⟨⟨vg _,⟨rfl,rfl⟩,⟨rfl,rfl⟩,eA,trivial⟩,trivial,trivial,(kidG 0 _ _ (by omega)).1,(kidG 0 day fin (by omega)).2,s2 _ hr⟩,λho2=> ?_,λ_=>trivial⟩;have hr2:=qS (d:=[]) ho2;refine ret _ _ _ _ _ _ _ _ ?_ rfl (za _ _ _);rw [hfl];have hr':firstM (λt=>holM c.x t f h) day fin c.days = .ok (getM 0 (firstM (holT ⟨c,day,fin,f,h⟩) day fin c.days)):=hr;rw [hr'];exact hr2
 ·have hk:=aB hk;simp only [hk,vG] at hnb;have hl:c.sub.length=1:=by simp at hnb; omega
  simp only [hk,Int.reduceEq,if_true,if_false,reduceIte] at hfl;rw [hfl] at h3;obtain⟨s1,s2⟩:=jC h3;refine⟨⟨by decide,by omega⟩,λ_=>⟨⟨c,day,fin,f,h⟩,⟨⟨qW c,⟨rfl,rfl⟩,⟨rfl,rfl⟩,by simp,trivial⟩,eT,trivial,okx,hdl,s1⟩,λho=>⟨⟨⟨rfl,trivial,rfl⟩,⟨rfl,trivial,rfl⟩,trivial⟩,λ_=>⟨⟨rfl,trivial,rfl⟩,λ_=> ?_⟩⟩,λ_=>trivial⟩⟩;have hr:=qS (d:=0) ho;refine⟨⟨c.sub.getD 0 Con.nil,getM 0 (firstM (holT ⟨c,day,fin,f,h⟩) day fin c.days),fin,f,h⟩,⟨⟨vg _,⟨rfl,rfl⟩,⟨rfl,rfl⟩,eA,trivial⟩,trivial,trivial,(kidG 0 _ _ (by omega)).1,(kidG 0 day fin (by omega)).2,s2 _ hr⟩,λho2=> ?_,λ_=>trivial⟩;have hr2:=qS (d:=[]) ho2;refine ret _ _ _ _ _ _ _ _ ?_ rfl (za _ _ _);rw [hfl];have hr':firstM (λt=>holM c.x t f h) day fin c.days = .ok (getM 0 (firstM (holT ⟨c,day,fin,f,h⟩) day fin c.days)):=hr;rw [hr'];exact hr2
 ·refine nil _ ?_;have n2:=aC nk2;have n3:=aC nk3;have n4:=aC nk4;have n5:=aC nk5;have n6:=aC nk6;have n7:=aC nk7;have n8:=aC nk8;have n9:=aC nk9;have n10:=aC nk10;rw [hfl,aO n2,aO n3,aO n4,aO n5,aO n6,aO n7,aO n8,aO n9,aO n10]
theorem zey(Xp:List PanicEntry->Prop)(n:Nat):zA Xp prog 85 (flC FI.G n Xp):=by
 induction n with
 | zero=>
  intro args hc Q hq _;obtain⟨x,⟨_,_,_,_,h,_⟩,_⟩:=hq;exact absurd h (Nat.not_lt_zero _)
 | succ n ih=>exact Uk ih
def flR(Xp:List PanicEntry->Prop):Ctr:=ctrS (λk:FI=>[k.c.conA,.i k.day,.i k.fin,envA k.f k.h]) (λ_=>[]) (λk=>k.G/\qA Xp k.val) (λk=>okM k.val) (λk=>(flS (getM [] k.val),[]))
theorem Uc(Xp:List PanicEntry->Prop):zA Xp prog 85 (flR Xp):=by
 intro args hc Q hq hf;obtain⟨x,⟨h1,h2,h3,h4,h5⟩,h6⟩:=hq;refine zA.znp (out':=λk=>flS (getM [] k.val)) (zey Xp (x.c.nodes+1)) (λk=>LeA.sl rfl λj o _ _=> ?_) args hc Q ⟨x,⟨h1,h2,h3,h4,Nat.lt_succ_self _,h5⟩,h6⟩ hf;simp only [zf,Nat.zero_add];exact LeA.refl _
end Go.Proofs.Tryz
end
section
namespace Go.Sx
variable [Stat]
section
variable {F:Fence} {n:Nat} {P:Program} {ops:Array Oper} {Q Q':Exit->Act->World->Prop}
end
def ug(O:Nat->Prop)(w:World)(I0:List SE)(ctr:Ctr)(hc:Heap)(Q:AV×Heap->Prop)(e:Ending)(w':World):Prop:=
 ∃ v',e = .returned v'/\∃ r hs Z',Q (r,hs)/\Rep (λb=>Own O Z' b\/(ctr.fresh=true/\b<w.heap.size)) w' r Z' v' /\
  HRep (λb=>Own O Z' b\/(ctr.fresh=true/\b<w.heap.size)) w' Z' hs/\Good O w' Z'/\hc.length<=hs.length/\Hold (if ctr.vw=true then(List.range hc.length).drop ctr.pins else []) w I0 w' Z'/\Ext (Mine I0) w (Mine Z') w'
theorem zdf{P:Program}{fn:Func}{ctr:Ctr}{hc:Heap}{Q:AV×Heap->Prop}{O:Nat->Prop}{w:World}{I0:List SE}(hh:I0.length=hc.length)(hfr:ctr.fresh=true->hc=[]) :
  ∀ (st:St) (σ:List SE) (a':Act) (w':World),((resX P st fn.results.toList).holds λrs=>RetR ctr hc.length Q rs st.heap)->Mod O (vH ctr hc) w I0 w' σ st a'->∃ v,(results fn a'.tmps).run P w' = .ok v w'/\ug O w I0 ctr hc Q (.returned v) w':=by
 intro st σ a' w' hR hm;obtain⟨rs,v,h1,⟨M,h2,h3,h4,h5,r0,hs0,hq1,hq2,hq3,h6⟩,h7⟩:=yL hm hR
 let EM:List SE:=M.map λi=>σ.getD i ⟨none,0⟩
 have hMZ:∀ i∈M,i<σ.length:=λi hi=>by rw [hm.hp.len]; exact h3 i hi
 have hget:∀ j:Nat,EM[j]?=(M[j]?).bind λi=>σ[i]?:=by
  intro j;simp only [EM,aN];cases hj:M[j]? with
  | none=>rfl
  | some i=>
   have:=hMZ i (aY hj);simp [this]
 have hnewO:ctr.fresh=true->∀ b,Mine σ b->w.heap.size<=b:=by
  intro hf b hb;have h0:=hfr hf;have hZ0:I0=[]:=by have:=hh; rw [h0] at this; exact aU.1 (by simpa using this)
  obtain⟨i,e,ad,g1,g2,g3⟩:=z7.1 hb;rcases hm.since.ext.grow b (.inr hb) with hx | hx
  ·rcases hx with hx | ⟨e',he',_⟩
   ·exact absurd (g3▸hx) (hm.good.dis i e ad g1 g2)
   ·rw [hZ0] at he'; simp at he'
  ·exact hx
 have X:Exp O w' σ st.heap M EM (λb=>Own O EM b\/(ctr.fresh=true/\b<w.heap.size)):=⟨hm.good,hm.hp,h2,h3,hget,λb hb=>by
  rcases hb with hb | ⟨hf,hb⟩
  ·exact .inl hb
  ·exact .inr λhmn=>by have:=hnewO hf b hmn; omega⟩
 have hor:∀ {p:Prop},(ctr.fresh=true->p)->(∀ b,(Own O EM b\/(ctr.fresh=true/\b<w.heap.size))->Own O σ b)\/p:=by
  intro p hp;cases hf:ctr.fresh with
  | true=>exact .inr (hp hf)
  | false=>
   left;rintro b (hb | ⟨hf',_⟩)
   ·exact X.sub hb
   ·cases hf'
 have hmlen:hc.length<=M.length:=by
  rcases aR M.length hc.length with hlt | hge
  ·have:=h4 M.length hlt;simp at this
  ·exact hge
 refine⟨v,h1,v,rfl,r0,hs0,EM,h6,hq1 _ _ _ _ (ux X (hor λhf=>(h5 hf).1) h7),⟨?_,?_,?_,?_⟩,⟨?_,?_,hm.good.stat.own λb hb=>hb.imp id λ⟨e,he,ad,h1,h2⟩=>by
  obtain⟨j,hj⟩:=List.mem_iff_getElem?.1 he;obtain⟨i,_,g2⟩:=X.get' hj;exact⟨e,aY g2,ad,h1,h2⟩⟩,by omega,?_,?_⟩
 ·simp [EM,hq3]
 ·intro i j e f a b he hf ha hb' hij;obtain⟨i',g1,g2⟩:=X.get' he;obtain⟨j',g3,g4⟩:=X.get' hf;refine hm.hp.inj i' j' e f a b g2 g4 ha hb' ?_;rintro rfl;have g5:=w8 h2 g1;have g6:=w8 h2 g3;rw [g5] at g6; cases g6; exact hij rfl
 ·intro i e a he ha;obtain⟨i',g1,g2⟩:=X.get' he;exact hm.hp.lt i' e a g2 ha
 ·intro j e b he hb';obtain⟨i,g1,g2⟩:=X.get' he;have hb2:(expH st.heap M)[j]?=some (expB st.heap M (st.heap.getD i .dead)):=by simp only [expH,aN,g1,Option.map_some]
  refine(hq2.elim (λhq2=>LeB.of_eq (yu hq2 hb2 hb')) λhq2=>J6 hq2 hb2 hb') _ _ _ _ ?_;have hlt:=h3 i (aY g1);have hgd:st.heap.getD i .dead=st.heap[i]:=by simp [hlt]
  have hbr:=hm.hp.blk i e _ g2 (aF hlt);rw [<- hgd] at hbr;exact WD X (hor λhf=>(h5 hf).2 i (aY g1)) hbr
 ·exact hm.good.old
 ·intro i e ad he had;obtain⟨i',g1,g2⟩:=X.get' he;exact hm.good.dis i' e ad g2 had
 ·cases hmv:ctr.vw with
  | true=>
   intro i e he hi;have hlt:=(aG.1 he).1;rw [hh] at hlt
   have hip:i<ctr.pins:=by
    refine bM λg=>hi ?_
    rw [aP rfl];refine List.mem_iff_getElem?.2 ⟨i - ctr.pins,?_⟩;rw [List.getElem?_drop,show ctr.pins+(i - ctr.pins)=i by omega];exact List.getElem?_range hlt
   obtain⟨g1,g2⟩:=hm.since.hold i e (by simpa [vH,hmv] using hip) he;exact⟨by rw [hget,h4 i hlt]; exact g1,g2⟩
  | false=>
   intro i e he _;have hlt:=(aG.1 he).1;rw [hh] at hlt;obtain⟨g1,g2⟩:=hm.since.hold i e (by simpa [vH,hmv] using hlt) he;exact⟨by rw [hget,h4 i hlt]; exact g1,g2⟩
 ·refine⟨hm.since.ext.os,hm.since.ext.tape,hm.since.ext.output,hm.since.ext.size,λb hb' hno=> ?_,λb hb'=> ?_⟩
  ·by_cases hOb:O b
   ·exact hm.since.wa b hOb hb'
   ·exact hm.since.ext.keep b hb' (λhx=>by rcases hx with hx | hx; exact hOb hx; exact hno hx)
  ·rcases X.sub (.inr hb') with hx | hx
   ·obtain⟨j,e,ad,g1,g2,g3⟩:=z7.1 hb';obtain⟨i,_,g4⟩:=X.get' g1;exact absurd (g3▸hx) (hm.good.dis i e ad g4 g2)
   ·obtain⟨i,e,ad,g1,g2,g3⟩:=z7.1 hx;rcases hm.since.ext.grow b (.inr hx) with hy | hy
    ·rcases hy with hy | hy
     ·exact absurd (g3▸hy) (hm.good.dis i e ad g1 g2)
     ·exact .inl hy
    ·exact .inr hy
theorem jZ{M:Option Nat}{P:Program}{H:Nat->Act->World->Prop}{B B':Exit->Act->World->Prop}(hB:∀ e a w,B e a w->B' e a w):∀ {k:List Item} {e:Exit} {a:Act} {w:World},wpK M P H B k e a w->wpK M P H B' k e a w
 | [],e,a,w,h=>hB _ _ _ h
 | .code c::k,e,a,w,h=>by
  cases e with
  | normal=>exact wpIn_mono h λe a w h=>jZ hB h
  | _=>exact jZ (k:=k) hB h
 | .inBlock id::k,e,a,w,h=>by
  cases e with
  | normal=>exact jZ (k:=k) hB h
  | exit i=>
   simp only [wpK] at h ⊢;split at h
   ·rename_i hi; rw [aP hi]; exact jZ hB h
   ·rename_i hi; rw [aO hi]; exact jZ hB h
  | _=>exact jZ (k:=k) hB h
 | .inLoop::k,e,a,w,h=>by
  cases e with
  | normal=>exact h
  | _=>exact jZ (k:=k) hB h
theorem door{P:Program}{fn:Func}{g:Nat}{c:Code}{ctr:Ctr}(hf:P.funcs[g]?=some fn)(hb:fn.body=some c) (hn:(fn.name == "runtime.NumGoroutine")=false)
  {args:List AV} {hc:Heap} {Q:AV×Heap->Prop} (hfr:ctr.fresh=true->hc=[]) {ι:Type} (S:ι->KV) (H:ι->Heap) (n m:Nat) (hfl:((ju n c).take m).all Qf=true) (hd:j9 ((ju n c).drop m)=0)
  (h1:∀ (O:Nat->Prop) (w0:World) (I0:List SE),I0.length=hc.length->zd P fn O (vH ctr hc) w0 I0 (λ_ kv h=>∃ x,LeK (vH ctr hc) fn.ntmps kv h (S x) (H x)) (RetR ctr hc.length Q) ((ju n c).take m++.inLoop::(ju n c).drop m) (wM fn args hc))
  (h2:∀ (x:ι) (O:Nat->Prop) (w0:World) (I0:List SE) (w:World) (σ:List SE) (a:Act),I0.length=hc.length->Mod O (vH ctr hc) w0 I0 w σ (mk fn.ntmps (S x) (H x)) a ->
   wpK none P (λ_ _ _=>False) (bodyPostM Fence.wide 0 P fn (ug O w0 I0 ctr hc Q)) ((ju n c).drop m) .normal a w):j6 P g ctr args hc Q:=by
 intro O w I0 vals hg hh hr;left;have hn':¬ fn.name = "runtime.NumGoroutine" :=by simpa using hn
 refine⟨by simp [callFunc,hf,hn',hb],?_⟩;refine callsIn_wide.1 (callsIn_of_wp_marks (F:=Fence.wide) (n:=0) (R:=ug O w I0 ctr hc Q) hf hb trivial ?_);show wpK none P (λ_ _ _=>False) (bodyPostM Fence.wide 0 P fn (ug O w I0 ctr hc Q)) [.code c] .normal _ w;refine ZH n c [] _ w ?_;rw [List.append_nil,<- bU m (ju n c)];refine kH (H':=λd a w'=>∃ st σ,(∃ kv h,(∃ x,LeK (vH ctr hc) fn.ntmps kv h (S x) (H x))/\st=mk fn.ntmps kv h)/\Mod O (vH ctr hc) w I0 w' σ st a) ?_ ?_ _ hfl .normal _ w (jZ ?_ (h1 O w I0 hh.len w I0 _ (Vd hg hh hr)))
 ·rintro a w1 ⟨st,σ,⟨kv,h,⟨x,hle⟩,rfl⟩,hm⟩;exact h2 x O w I0 w1 _ a hh.len (hle.le.mod hm)
 ·intro d a w1 hlt;rw [hd] at hlt;omega
 ·intro e a1 w1 h
  have hend:∀ (st:St) (σ:List SE),((resX P st fn.results.toList).holds λrs=>RetR ctr hc.length Q rs st.heap)->Mod O (vH ctr hc) w I0 w1 σ st a1->LeavesInM Fence.wide 0 P fn a1.tmps (ug O w I0 ctr hc Q) a1.defers .returning w1:=by
   intro st σ hR hm;refine vL a1.defers w1 hm λw' hm'=> ?_
   obtain⟨v,h1,h2⟩:=zdf hh.len hfr st σ _ _ hR hm';exact⟨v,h1,h2⟩
  rcases h with ⟨rfl | rfl,st,σ,hR,hm⟩ | ⟨ch,_,h,_⟩
  ·exact hend st σ hR hm
  ·exact hend st σ hR hm
  ·exact h.elim
structure Kept(w w':World):Prop where
 os:w'.os=w.os
 tape:w'.tape=w.tape
 output:w'.output=w.output
 size:w.heap.size<=w'.heap.size
 keep:∀ b,b<w.heap.size->w'.heap[b]?=w.heap[b]?
theorem Kept.of{w w':World}{p:Nat->Prop}(h:Ext (Mine []) w p w'):Kept w w':=⟨h.os,h.tape,h.output,h.size,λb hb=>h.keep b hb λhm=>by obtain⟨_,he,_⟩:=hm; simp at he⟩
theorem Kept.ext{w w':World}(h:Kept w w')(own:Nat->Prop):Ext own w own w':=⟨h.os,h.tape,h.output,h.size,λb hb _=>h.keep b hb,λb hb=>.inl hb⟩
theorem Kept.hold{w w':World}(h:Kept w w')(K:List Nat)(σ:List SE):Hold K w σ w' σ:=λi e he _=>⟨he,λad had cs el hcs=>⟨cs,el,by rw [h.keep _ (aQ.1 hcs).1]; exact hcs,rfl⟩⟩
theorem Kept.good{O:Nat->Prop}{w w':World}{σ:List SE}(h:Kept w w')(hg:Good O w σ):Good O w' σ:=⟨λb hb=>bB (hg.old b hb) h.size,hg.dis,hg.stat.ext (h.ext _)⟩
theorem Kept.rep{own:Nat->Prop}{w w':World}{σ:List SE}{a:AV}{v:Value}(h:Kept w w')(hr:Rep own w a σ v):Rep own w' a σ v:=zV (h.ext own) (h.hold [] σ) a v (jb a) hr
theorem Kept.hrep{own:Nat->Prop}{w w':World}{σ:List SE}{hp:Heap}(h:Kept w w')(hh:HRep own w σ hp):HRep own w' σ hp:=
 ⟨hh.len,hh.inj,λi e a he ha=>bB (hh.lt i e a he ha) h.size,λi e b he hb=>by
  have:=jn (K:=[]) (h.ext own) (h.hold [] σ) (hh.blk i e b he hb) λad had=>h.keep _ (hh.lt i e ad he had)
  rwa [j0] at this⟩
theorem Kept.trans{w1 w2 w3:World}(h:Kept w1 w2)(k:Kept w2 w3):Kept w1 w3:=⟨k.os.trans h.os,k.tape.trans h.tape,k.output.trans h.output,bP h.size k.size,λb hb=>(k.keep b (bB hb h.size)).trans (h.keep b hb)⟩
theorem Kept.alloc(w:World)(o:Obj):Kept w (w.alloc o):=⟨rfl,rfl,rfl,by show _<=(w.heap.push o).size; simp,λb hb=>by
 show(w.heap.push o)[b]?=_;rw [Array.getElem?_push,aO (Nat.ne_of_lt hb)]⟩
theorem Z2{Xp:List PanicEntry->Prop}{P:Program}{g:Nat}{c:Ctr}{args:List AV}{r:AV}{O:Nat->Prop}{w:World}{σ:List SE}{vals:List Value}(hc:zA Xp P g c)(hq:(c.spec args []).holds λp=>p=(r,[])\/p=(.bot,[]))(hg:Good O w σ){hp:Heap}(hh:HRep (Own O σ) w σ hp)(hr:RepL (Own O σ) w args [] vals) :
  qG Xp (Kept w) P g vals.toArray w λv w'=>Kept w w'/\Rep (Own O σ) w' r [] v:=by
 have hO:∀ b,Own (Own O σ) [] b->Own O σ b:=λb hb=>hb.elim id λ⟨e,he,_⟩=>by simp at he
 have hg':Good (Own O σ) w []:=⟨?_,λi e ad he=>by simp at he,hg.stat.own hO⟩
 ·refine qG.map (λw' h=>Kept.of h) ?_ (hc args [] _ hq (λ_=>rfl) (Own O σ) w [] vals hg' ⟨rfl,λi j e f a b he=>by simp at he,λi e a he=>by simp at he,λi e b he=>by simp at he⟩ (qV (K:=[]) ⟨rfl,rfl,rfl,aJ _,λ_ _ _=>rfl,λb hb=>.inl (hO b hb)⟩ (λi e he=>by simp at he) _ _ (wk _) hr));rintro v w' ⟨r',hs,Z',h1,h2,h3,h4,h5,h6,h7⟩;rcases h1 with h1 | h1
  ·cases h1;have hZ:Z'=[]:=aU.1 h3.len;subst hZ;exact⟨Kept.of h7,wq (λb hb=>.inl (.inl hb)) h2⟩
  ·cases h1;exact h2.elim
 ·intro b hb;rcases hb with hb | ⟨e,he,ad,h1,rfl⟩
  ·exact hg.old b hb
  ·obtain⟨i,hi⟩:=List.mem_iff_getElem?.1 he;exact hh.lt i e ad hi h1
theorem LeA.tup{l m:List AV}(h:LeL l m):LeA (.tup l) (.tup m):=by
 intro own w σ v hr;simp only [Rep] at hr ⊢;obtain⟨vs,hv,hr⟩:=hr;exact⟨vs,hv,h.rep hr⟩
section
variable {P:Program} {ops:Array Oper} {rest:List Oper} {o:Oper} {a:Act} {w w':World} {Q:Exit->Act->World->Prop}
theorem YN{v:Value}(hg:o.guard=none)(hd:∀ c,o.op≠.defer c)(hrun:(execOp a.eval o).run P w = .ok (.value v) w')(h:wpListIn Fence.wide 0 P ops Q rest (a.put o.dst v) w'):wpListIn Fence.wide 0 P ops Q (o::rest) a w:=
 wpListIn_plain hg λK hK=>jQ (M:=none) hd (by unfold Oper.wp; rw [hrun]; exact hK _ _ h)
theorem step_skip(hg:o.guard=none)(hd:∀ c,o.op≠.defer c)(hrun:(execOp a.eval o).run P w = .ok .skip w')(h:wpListIn Fence.wide 0 P ops Q rest (a.put o.dst undef) w'):wpListIn Fence.wide 0 P ops Q (o::rest) a w:=
 wpListIn_plain hg λK hK=>jQ (M:=none) hd (by unfold Oper.wp; rw [hrun]; exact hK _ _ h)
theorem V0{x:Operand}(hg:o.guard=none)(ho:o.op = .move x)(h:wpListIn Fence.wide 0 P ops Q rest (a.put o.dst (a.eval x)) w):wpListIn Fence.wide 0 P ops Q (o::rest) a w:=
 YN hg (by simp [ho]) (by simp only [execOp,ho]; rfl) h
theorem VN{O:Nat->Prop}{σ:List SE}{hp:Heap}{t:TypeId}{x:Operand}{p r:AV}(hh:HRep (Own O σ) w σ hp)(hg:o.guard=none)(ho:o.op = .load t x)(hx:Rep (Own O σ) w p σ (a.eval x))(hq:uO P hp t p = .leaf r)
  (h:∀ v,Rep (Own O σ) w r σ v->wpListIn Fence.wide 0 P ops Q rest (a.put o.dst v) w):wpListIn Fence.wide 0 P ops Q (o::rest) a w:=by
 obtain⟨r',v,h1,h2,h3⟩:=ua (P:=P) hh hx (Q:=(· = r)) (by rw [hq]; exact rfl);subst h2;refine YN hg (by simp [ho]) ?_ (h v h3);simp only [execOp,ho,Sem.run_bind,h1,Result.andThen_ok,Sem.run_pure]
theorem WG{O:Nat->Prop}{σ:List SE}{hp:Heap}{t:TypeId}{x y:Operand}{i:Nat}{c r:AV}(hgd:Good O w σ)(hh:HRep (Own O σ) w σ hp)(hg:o.guard=none)(ho:o.op = .store t x y)(hx:Rep (Own O σ) w (.ptr i 0) σ (a.eval x))(hb:hp[i]?=some (.box [c]))(hn:qg P t=some 1)(hy:Rep (Own O σ) w r σ (a.eval y))(hc:cellsOf r=some [r])(h1:oneA r=true)
  (h:∀ w',Post O w σ hp ⟨.undef,[(i,.box [r])],[]⟩ undef w' σ->wpListIn Fence.wide 0 P ops Q rest (a.put o.dst undef) w'):wpListIn Fence.wide 0 P ops Q (o::rest) a w:=by
 obtain⟨w',h2,h3⟩:=kQ (P:=P) hgd hh hx hb hn (qh hc hy) rfl (aJ _) (by simp [h1]);refine step_skip hg (by simp [ho]) ?_ (h w' h3);simp only [execOp,ho,Sem.run_bind,h2,Result.andThen_ok,Sem.run_pure]
theorem Vw{Xp:List PanicEntry->Prop}{D:World->Prop}{R:Value->World->Prop}{c:Call}{f:Operand}{g:Nat}(hg:o.guard=none)(ho:o.op = .call c)(hc:c.callee = .value f)(hf:a.eval f = .func (.func g) #[] #[])(h:qG Xp D P g (c.args.toList.map a.eval).toArray w R)
  (hK:∀ v w',R v w'->wpListIn Fence.wide 0 P ops Q rest (a.put o.dst v) w') (hP:∀ ch w',Xp ch->D w'->Q (.panic ch) a w'):wpListIn Fence.wide 0 P ops Q (o::rest) a w:=
 wpListIn_plain hg λK hKK=>jQ (M:=none) (by simp [ho]) (by
  have hcall:(execOp a.eval o).run P w=(callFunc g (c.args.toList.map a.eval).toArray).run P w:=by
   obtain⟨callee,args,ats⟩:=c;simp only at hc;subst hc;simp only [execOp,ho,resolve,hf,Deferred.ofValue,Sem.run_bind,Sem.run_pure,Result.andThen_ok,invoke];congr 2;simp [<- Array.toList_inj]
  unfold Oper.wp;rcases h with ⟨h3,h4⟩ | ⟨v,w',h3,h4⟩
  ·rw [hcall,h3];refine h4.mono λe w' he=> ?_
   rcases he with ⟨v,he,hR⟩ | ⟨ch,he,h5,h6⟩
   ·subst he; exact hKK _ _ (hK _ _ hR)
   ·subst he; exact hP ch w' h5 h6
  ·rw [hcall,h3];exact hKK _ _ (hK _ _ h4))
theorem step_defer{c:Call}{f:Operand}{g:Nat}(hg:o.guard=none)(ho:o.op = .defer c)(hdst:o.dst=none)(hc:c.callee = .value f)(hf:a.eval f = .func (.func g) #[] #[])
  (h:wpListIn Fence.wide 0 P ops Q rest { a with defers:={ target:=.fn (.func g) #[],args:=(c.args.toList.map a.eval).toArray } :: a.defers } w):wpListIn Fence.wide 0 P ops Q (o::rest) a w:=
 wpListIn_plain hg λK hKK=>by
  obtain⟨callee,args,ats⟩:=c;simp only at hc;subst hc;refine⟨λf _=>trivial,?_⟩
  have:(Oper.semAt Fence.wide.round a.eval o).run P w = .ok (.defer { target:=.fn (.func g) #[],args:=(args.toList.map a.eval).toArray }) w:=by
   show(execOp a.eval o).run P w=_;simp only [execOp,ho,resolve,hf,Deferred.ofValue,Sem.run_bind,Sem.run_pure,Result.andThen_ok];congr 3;simp [<- Array.toList_inj]
  rw [this];simp only [Oper.uponIn,hdst];exact hKK _ _ h
theorem Je{t:TypeId}{b:Nat}{old v:Value}(hn:qg P t=some 1)(hv:v.cells = #[v])(hc:w.cell? ⟨b,0,none⟩=some old)(hz:w.frozen? ⟨b,0,none⟩=false)(h1:v.oneCell'=true) :
  (Instr.storeAt t (.pointer (some ⟨b,0,none⟩)) v).run P w = .ok () (w.setCell ⟨b,0,none⟩ v):=by
 simp only [Instr.storeAt,Instr.sureAddr,Sem.run_bind,Sem.run_pure,Result.andThen_ok,storeVar,zE hn,hv];simp [storeCells,go_sem,hc,hz];rw [run_store _ _ _ _ _ h1,hc];simp [hz]
end
theorem ye{O:Nat->Prop}{w:World}{σ:List SE}{hp:Heap}{i:Nat}{c:AV}{v:Value}(hh:HRep (Own O σ) w σ hp)(hx:Rep (Own O σ) w (.ptr i 0) σ v)(hb:hp[i]?=some (.box [c])) :
  ∃ b u,v = .pointer (some ⟨b,0,none⟩)/\w.cell? ⟨b,0,none⟩=some u/\w.frozen? ⟨b,0,none⟩=false/\Rep (Own O σ) w c σ u/\∃ e ad,σ[i]?=some e/\e.ad=some ad/\ad.block=b:=by
 simp only [Rep] at hx;obtain⟨e,ad,he,had,rfl⟩:=hx;obtain⟨ad',vs,el,had',h0,hcs,hr⟩:=hh.blk i e _ he hb;rw [had] at had';cases had';simp only [RepL] at hr;obtain⟨u,r,rfl,h1,rfl⟩:=hr;refine⟨ad.block,u,by rw [h0],?_,?_,h1,e,ad,he,had,rfl⟩
 ·simp [World.cell?,hcs]
 ·simp [World.frozen?,hcs]
end Go.Sx
end
section
set_option maxRecDepth 100000
open Go Go.Sx Go.Proofs Go.Nov
namespace Go.Proofs.Tryz
attribute [local simp] eqKV eqA eqA0 eqH eqB eqL eqL0
def FI.pre(k:FI):Prop:=k.c.big<2^40/\k.c.nodes<=1000000/\envP (k.f,k.h)
def vM:Ctr:=ctrP false (λk:FI=>[k.c.conA,.i k.day,.i k.fin,envA k.f k.h]) FI.pre (λk r=>r=befM k.c k.day k.fin k.f k.h) (λ_ (r:List Fl×Int)=>(.tup [flS r.1,.i r.2],[]))
noncomputable def LB:List Go.Sx.Item:=(ju 6 (f52.body.getD .skip)).take 4++.inLoop::(ju 6 (f52.body.getD .skip)).drop 4
noncomputable def GBef:=tb Z4 (tb Vb tz)
def SBe(day fin:Int):KV:=[(1,.i day),(2,.i fin),(4,.ptr 0 0),(7,.ptr 1 0),(8,.ptr 2 0),(9,.ptr 3 0)]
def HBe(c:Con)(f:List Fx)(h:List Ch):Heap:=[.box c.zi,.box [fxS f,chS h],.box [.nils],.box [.i 0]]
theorem zge(c:Con)(day fin:Int)(f:List Fx)(h:List Ch)(hp:FI.pre ⟨c,day,fin,f,h⟩){Q:AV×Heap->Prop}(hq:Q (.tup [flS (befM c day fin f h).1,.i (befM c day fin f h).2],[])){O:Nat->Prop}{w0:World}{I0:List SE} :
  zd prog f52 O 0 w0 I0 (λ_ kv hh=>∃ x:{u:Unit // c.errC=0/\errE f h=0/\0<=day/\day<=99999/\0<=fin/\fin<=100000},LeK 0 f52.ntmps kv hh (SBe day fin) (HBe c f h)) (RetR vM 0 Q) LB (wM f52 [c.conA,.i day,.i fin,envA f h] []):=by
 obtain⟨p1,p2,p3⟩:=hp;simp only at p1 p2 p3;refine zd.n GBef.h [1,2,4,7,8,9] (let v1:List AV:=[.sl f.length 3 (fxG f),.sl h.length 4 (chG h)];.ex (q31 [(Con.conA c)]) λn=>.all (λ(r:Int)=>r=Con.errC n) λn=>.N (n=0) (.R [.nils,.i n] [.box (Con.zi c),.box v1,.box [.nils],.box [.i n]]) (.ex (q58 [.agg [.sl f.length 3 (fxG f),.sl h.length 4 (chG h)]]) λn=>.all (λ(r:Int)=>r=errE n.1 n.2) λn=>.N (n=0) (.R [.nils,.i n] [.box (Con.zi c),.box v1,.box [.nils],.box [.i n]]) (.ite (bif bif bif decide (day<0) then true else decide ((99999:Int)<day) then true else decide (fin<0) then true else decide ((100000:Int)<fin)) (.R [.nils,.i 2] [.box (Con.zi c),.box v1,.box [.nils],.box [.i 2]]) (.leaf (.back 0 [(1,.i day),(2,.i fin),(4,.ptr 0 0),(7,.ptr 1 0),(8,.ptr 2 0),(9,.ptr 3 0)] [.box (Con.zi c),.box v1,.box [.nils],.box [.i 0]]))))) ?_;simp only [q31,q58,Tree.holds,zh,inR,lo,hi,aD]
 have ret:∀ (e:Int) (hs:Heap),befM c day fin f h=([],e)->RetR vM 0 Q [.nils,.i e] hs:=by
  intro e hs he;rw [he] at hq;exact RetR.le0 hq (λh=>by cases h) (LeA.tup ⟨LeA.nils,LeA.refl _,trivial⟩)
 refine⟨c,⟨⟨qW c,trivial⟩,p1,p2⟩,⟨_,rfl⟩,?_⟩;rintro _ rfl;refine⟨λhe=>ret _ _ ?_,λhe=>⟨(f,h),⟨⟨⟨⟨rfl,rfl,λ_ _ _ _=>rfl⟩,⟨rfl,rfl,λ_ _ _ _=>rfl⟩,trivial⟩,trivial⟩,p3⟩,⟨_,rfl⟩,?_⟩⟩
 ·have he:c.errC≠0:=by simpa using he
  unfold befM; rw [aP he]
 have he:c.errC=0:=by simpa using he
 rintro _ rfl;refine⟨λhE=>ret _ _ ?_,λhE=>⟨λhr=>ret _ _ ?_,λhr=>⟨⟨(),?_⟩,?_⟩⟩⟩
 ·have hE:errE f h≠0:=by simpa using hE
  unfold befM; rw [aO (by simp [he]),aP hE]
 ·have hE:errE f h=0:=by simpa using hE
  have hr:day<0\/99999<day\/fin<0\/100000<fin:=by
   by_cases a:day<0
   ·exact .inl a
   by_cases b:99999<day
   ·exact .inr (.inl b)
   by_cases d:fin<0
   ·exact .inr (.inr (.inl d))
   ·simpa [a,b,d] using hr
  unfold befM; rw [aO (by simp [he]),aO (by simp [hE]),aP hr]
 ·have hE:errE f h=0:=by simpa using hE
  by_cases a:day<0
  ·simp [a] at hr
  by_cases b:99999<day
  ·simp [a,b] at hr
  by_cases d:fin<0
  ·simp [a,b,d] at hr
  by_cases e:100000<fin
  ·simp [a,b,d,e] at hr
  exact⟨he,hE,by omega,by omega,by omega,by omega⟩
 ·exact⟨by simp [SBe],by simp [HBe,za,Con.zi,Con.qK,fxS,chS,Ex.exS,Con.dayS,Con.conS],by kernel_rfl,aI _⟩
noncomputable def LBt:List Go.Sx.Item:=(ju 6 (f52.body.getD .skip)).drop 4
def opsI:Go.Sx.Item->List Oper
 | .code (.region _ ops _)=>ops.toList
 | _=>[]
def ztk:Oper:={ dst:=none,op:=.move (.const undef),type:=0,pos:= "",after:= #[],guard:=none }
noncomputable def opB(r k:Nat):Oper:=(opsI (LBt.getD r .inLoop)).getD k ztk
theorem zs0:LBt=[.code (.region 9 #[opB 0 0] false),.code (.region 10 #[opB 1 0,opB 1 1,opB 1 2,opB 1 3,opB 1 4,opB 1 5,opB 1 6,opB 1 7] false),.code .ret]:=by kernel_rfl
theorem opD:(opB 0 0).guard=none/\(opB 0 0).dst=none/\(opB 0 0).op = .defer { callee:=.value (.func 83),args:= #[.tmp 9,.tmp 8],argTypes:= #[140,141] } :=⟨by kernel_rfl,by kernel_rfl,by kernel_rfl⟩
theorem opB0:(opB 1 0).guard=none/\(opB 1 0).dst=some 36/\(opB 1 0).op = .load 39 (.tmp 4):=⟨by kernel_rfl,by kernel_rfl,by kernel_rfl⟩
theorem opB1:(opB 1 1).guard=none/\(opB 1 1).dst=some 37/\(opB 1 1).op = .move (.tmp 1):=⟨by kernel_rfl,by kernel_rfl,by kernel_rfl⟩
theorem opB2:(opB 1 2).guard=none/\(opB 1 2).dst=some 38/\(opB 1 2).op = .move (.tmp 2):=⟨by kernel_rfl,by kernel_rfl,by kernel_rfl⟩
theorem opB3:(opB 1 3).guard=none/\(opB 1 3).dst=some 39/\(opB 1 3).op = .load 28 (.tmp 7):=⟨by kernel_rfl,by kernel_rfl,by kernel_rfl⟩
theorem opB4:(opB 1 4).guard=none/\(opB 1 4).dst=some 40/\(opB 1 4).op = .call { callee:=.value (.func 85),args:= #[.tmp 36,.tmp 37,.tmp 38,.tmp 39],argTypes:= #[39,3,3,28] } :=⟨by kernel_rfl,by kernel_rfl,by kernel_rfl⟩
def argT(o:Oper):Array TypeId:=match o.op with
 | .call c=>c.argTypes
 | _=> #[]
theorem opB5:(opB 1 5).guard=none/\(opB 1 5).dst=some 41/\(opB 1 5).op = .call { callee:=.value (.func 84),args:= #[.tmp 40,.func 86],argTypes:=argT (opB 1 5) } :=⟨by kernel_rfl,by kernel_rfl,by kernel_rfl⟩
theorem opB6:(opB 1 6).guard=none/\(opB 1 6).dst=none/\(opB 1 6).op = .store 56 (.tmp 8) (.tmp 41):=⟨by kernel_rfl,by kernel_rfl,by kernel_rfl⟩
theorem opB7:(opB 1 7).guard=none/\(opB 1 7).dst=none/\(opB 1 7).op = .store 40 (.tmp 9) (.const (.i 0)):=⟨by kernel_rfl,by kernel_rfl,by kernel_rfl⟩
theorem zcy{a:Act}{d t:Nat}{v:Value} : (a.put (some d) v).tmps.getD t undef=if t=d/\d<a.tmps.size then v else a.tmps.getD t undef:=by
 simp only [Act.put,bQ,Array.getElem?_setIfInBounds];by_cases h:d=t
 ·subst h;by_cases h2:d<a.tmps.size
  ·simp [h2]
  ·simp [h2]
 ·rw [aO h,aO (λx=>h x.1.symm)]
theorem size_put{a:Act}{d:Nat}{v:Value} : (a.put (some d) v).tmps.size=a.tmps.size:=by simp [Act.put]
theorem yE{a:Act}{d:Nat}{v:Value}{P:Act->Prop}(h:∀ b:Act,b.defers=a.defers->b.tmps.size=a.tmps.size->(d<a.tmps.size->b.tmps.getD d undef=v)->(∀ t,t≠d->b.tmps.getD t undef=a.tmps.getD t undef)->P b):P (a.put (some d) v):=
 h _ rfl size_put (λhd=>by rw [zcy,aP ⟨rfl,hd⟩]) λt ht=>by rw [zcy,aO (λx=>ht x.1)]
theorem zcv{c:Con}{day fin:Int}{f:List Fx}{h:List Ch}{Q:AV×Heap->Prop}(hq:Q (.tup [flS (befM c day fin f h).1,.i (befM c day fin f h).2],[])){O:Nat->Prop}{w0 w:World}{σ:List SE}{a:Act}(hm:Mod O 0 w0 [] w σ (mk f52.ntmps (SBe day fin) (HBe c f h)) a)
  {w4:World} {T:Array Value} {x:AV} {e:Int} (g1:Go.Sx.Good O w4 σ) (g2:HRep (Go.Sx.Own O σ) w4 σ [.box c.zi,.box [fxS f,chS h],.box [x],.box [.i e]]) (g3:Ext (Go.Sx.Own O σ) w (Go.Sx.Own O σ) w4) (g4:∀ b,O b->b<w.heap.size->w4.heap[b]?=w.heap[b]?)
  (g5:T.getD 8 undef=a.tmps.getD 8 undef) (g6:T.getD 9 undef=a.tmps.getD 9 undef) (g7:T.size=a.tmps.size) (hx:x = .nils/\(befM c day fin f h).1=[]\/x=flS (befM c day fin f h).1) (he:e=(befM c day fin f h).2) :
  LeavesInM Fence.wide 0 prog f52 T (ug O w0 [] vM [] Q) a.defers .returning w4:=by
 have hm4:Mod O 0 w0 [] w4 σ (mk f52.ntmps [(8,.ptr 2 0),(9,.ptr 3 0)] [.box c.zi,.box [fxS f,chS h],.box [x],.box [.i e]]) { tmps:=T,defers:=a.defers } :=by
  refine⟨g1,g2,?_,λt=> ?_,hm.df.ext g3,hm.since.trans ⟨g3,g4,λi e hi _=>absurd hi (Nat.not_lt_zero i)⟩,hm.lim⟩
  ·rw [show({ tmps:=T,defers:=a.defers } : Act).tmps=T from rfl,g7,hm.size];simp [mk,pk]
  ·by_cases h8:t=8
   ·subst h8;show Rep (Go.Sx.Own O σ) w4 (.ptr 2 0) σ (T.getD 8 undef);rw [g5];have:Rep (Go.Sx.Own O σ) w (.ptr 2 0) σ (a.tmps.getD 8 undef):=hm.tm 8;simpa only [Rep] using this
   ·by_cases h9:t=9
    ·subst h9;show Rep (Go.Sx.Own O σ) w4 (.ptr 3 0) σ (T.getD 9 undef);rw [g6];have:Rep (Go.Sx.Own O σ) w (.ptr 3 0) σ (a.tmps.getD 9 undef):=hm.tm 9;simpa only [Rep] using this
    ·have:(mk f52.ntmps [(8,.ptr 2 0),(9,.ptr 3 0)] [.box c.zi,.box [fxS f,chS h],.box [x],.box [.i e]]).tmps.getD t .undef = .undef:=by
      simp only [mk];by_cases hlt:t<f52.ntmps
      ·rw [wj hlt]; simp [Go.Sx.look,Ne.symm h8,Ne.symm h9]
      ·have:(pk f52.ntmps [(8,.ptr 2 0),(9,.ptr 3 0)])[t]?=none:=aZ (by simp [pk]; exact Nat.not_lt.1 hlt);rw [List.getD_eq_getElem?_getD,this]; rfl
     rw [this];simp [TRep,Rep]
 refine vL a.defers w4 hm4 λw' hm'=> ?_
 refine zdf (ctr:=vM) (hc:=[]) rfl (λhh=>by cases hh) _ σ _ _ ?_ hm';subst he;rcases hx with ⟨rfl,hx⟩ | rfl
 ·have e1:resX prog (mk f52.ntmps [(8,.ptr 2 0),(9,.ptr 3 0)] [.box c.zi,.box [fxS f,chS h],.box [.nils],.box [.i (befM c day fin f h).2]]) f52.results.toList = .leaf [.nils,.i (befM c day fin f h).2]:=by kernel_rfl
  rw [e1];rw [hx] at hq;exact RetR.le0 hq (λh=>by cases h) (LeA.tup ⟨LeA.nils,LeA.refl _,trivial⟩)
 ·have e1:resX prog (mk f52.ntmps [(8,.ptr 2 0),(9,.ptr 3 0)] [.box c.zi,.box [fxS f,chS h],.box [flS (befM c day fin f h).1],.box [.i (befM c day fin f h).2]]) f52.results.toList = .leaf [flS (befM c day fin f h).1,.i (befM c day fin f h).2]:=by kernel_rfl
  rw [e1];exact RetR.le0 hq (λh=>by cases h) (LeA.refl _)
def zb7(c:Con)(day fin:Int)(f:List Fx)(h:List Ch)(ch:List PanicEntry):Prop:=∃ x,flM f h c day fin = .error x/\ch=Za yP x
theorem zij{c:Con}{day fin:Int}{f:List Fx}{h:List Ch}(hp:FI.pre ⟨c,day,fin,f,h⟩)(hx:c.errC=0/\errE f h=0/\0<=day/\day<=99999/\0<=fin/\fin<=100000){Q:AV×Heap->Prop}(hq:Q (.tup [flS (befM c day fin f h).1,.i (befM c day fin f h).2],[])){O:Nat->Prop}{w0 w:World}{σ:List SE}{a:Act}(hm:Mod O 0 w0 [] w σ (mk f52.ntmps (SBe day fin) (HBe c f h)) a) :
  wpK none prog (λ_ _ _=>False) (bodyPostM Fence.wide 0 prog f52 (ug O w0 [] vM [] Q)) LBt .normal a w:=by
 obtain⟨p1,p2,p3⟩:=hp;obtain⟨x1,x2,x3,x4,x5,x6⟩:=hx;simp only at p1 p2 p3
 have hform:c.form=true/\c.size<=500:=by
  unfold Con.errC at x1;split at x1
  ·cases x1
  ·rename_i hs;split at x1
   ·rename_i hf; exact⟨hf,by omega⟩
   ·cases x1
 have hG:FI.G ⟨c,day,fin,f,h⟩:=⟨hform.1,p1,by have:=Con.yQ c; show c.nodes<_; omega,p3⟩
 have hbef:befM c day fin f h=match flM f h c day fin with
  | .error e=>([],e)
  | .ok l=>(ordM l,0):=by
  unfold befM; rw [aO (by simp [x1]),aO (by simp [x2]),aO (by omega)];cases flM f h c day fin<;>rfl
 have sz:a.tmps.size=42:=by rw [hm.size]; simp only [mk,pk,List.length_map,List.length_range]; rfl
 have t1:a.tmps.getD 1 undef = .i day:=hm.tm 1;have t2:a.tmps.getD 2 undef = .i fin:=hm.tm 2;have t4:Rep (Go.Sx.Own O σ) w (.ptr 0 0) σ (a.tmps.getD 4 undef):=hm.tm 4;have t7:Rep (Go.Sx.Own O σ) w (.ptr 1 0) σ (a.tmps.getD 7 undef):=hm.tm 7;have t8:Rep (Go.Sx.Own O σ) w (.ptr 2 0) σ (a.tmps.getD 8 undef):=hm.tm 8;have t9:Rep (Go.Sx.Own O σ) w (.ptr 3 0) σ (a.tmps.getD 9 undef):=hm.tm 9;have hhp:HRep (Go.Sx.Own O σ) w σ (HBe c f h):=hm.hp;rw [zs0];simp only [wpK];obtain⟨d1,d2,d3⟩:=opD;refine wpIn_region_list (Go.Sx.step_defer d1 d3 d2 rfl rfl ?_);refine wpListIn_nil ?_;simp only [wpK];obtain⟨bl,ul,hl1,hl2,hl3,hl4,el,adl,hl5,hl6,hl7⟩:=ye hhp t8 rfl;obtain⟨be,ue,he1,he2,he3,he4,ee,ade,he5,he6,he7⟩:=ye hhp t9 rfl
 have hne:be≠bl:=by
  rw [<- he7,<- hl7];exact hhp.inj 3 2 _ _ _ _ he5 hl5 he6 hl6 (by decide)
 have hnl:¬ O bl:=by rw [<- hl7]; exact hm.good.dis 2 _ _ hl5 hl6
 have hne2:¬ O be:=by rw [<- he7]; exact hm.good.dis 3 _ _ he5 he6
 obtain⟨o0g,o0d,o0o⟩:=opB0;obtain⟨o1g,o1d,o1o⟩:=opB1;obtain⟨o2g,o2d,o2o⟩:=opB2;obtain⟨o3g,o3d,o3o⟩:=opB3;obtain⟨o4g,o4d,o4o⟩:=opB4;obtain⟨o5g,o5d,o5o⟩:=opB5;obtain⟨o6g,o6d,o6o⟩:=opB6;obtain⟨o7g,o7d,o7o⟩:=opB7
 have hD:(([.tmp 9,.tmp 8]:List Operand).map a.eval).toArray = #[.pointer (some ⟨be,0,none⟩),.pointer (some ⟨bl,0,none⟩)]:=by
  show #[a.tmps.getD 9 undef,a.tmps.getD 8 undef]=_;rw [hl1,he1]
 refine wpIn_region_list ?_;obtain⟨b0,hb0⟩:∃ b:Act,b={ a with defers:={ target:=.fn (.func 83) #[],args:=(([.tmp 9,.tmp 8]:List Operand).map a.eval).toArray } :: a.defers } :=⟨_,rfl⟩;have s0:b0.tmps=a.tmps:=by rw [hb0]
 have f0:b0.defers={ target:=.fn (.func 83) #[],args:= #[.pointer (some ⟨be,0,none⟩),.pointer (some ⟨bl,0,none⟩)] } :: a.defers:=by rw [hb0,<- hD]
 show wpListIn _ _ _ _ _ _ { a with defers:={ target:=.fn (.func 83) #[],args:=(([.tmp 9,.tmp 8]:List Operand).map a.eval).toArray } :: a.defers } w;rw [<- hb0];clear hb0;show wpListIn Fence.wide 0 _ _ _ [opB 1 0,opB 1 1,opB 1 2,opB 1 3,opB 1 4,opB 1 5,opB 1 6,opB 1 7] b0 w;refine VN (r:=c.conA) hhp o0g o0o (p:=.ptr 0 0) (by show Rep _ _ _ _ (b0.tmps.getD 4 undef); rw [s0]; exact t4) (by kernel_rfl) λv36 r36=> ?_
 rw [o0d];refine yE (P:=λb=>wpListIn _ _ _ _ _ _ b w) λb1 f1 z1 v1 u1=> ?_
 rw [s0] at z1 v1 u1;refine V0 o1g o1o ?_;rw [o1d,show b1.eval (.tmp 1) = .i day from(u1 1 (by decide)).trans t1];refine yE (P:=λb=>wpListIn _ _ _ _ _ _ b w) λb2 f2 z2 v2 u2=> ?_
 refine V0 o2g o2o ?_;rw [o2d,show b2.eval (.tmp 2) = .i fin from(u2 2 (by decide)).trans ((u1 2 (by decide)).trans t2)];refine yE (P:=λb=>wpListIn _ _ _ _ _ _ b w) λb3 f3 z3 v3 u3=> ?_
 have k7:b3.eval (.tmp 7)=a.tmps.getD 7 undef:=(u3 7 (by decide)).trans ((u2 7 (by decide)).trans (u1 7 (by decide)));refine VN (r:=envA f h) hhp o3g o3o (p:=.ptr 1 0) (by rw [k7]; exact t7) (by kernel_rfl) λv39 r39=> ?_
 rw [o3d];refine yE (P:=λb=>wpListIn _ _ _ _ _ _ b w) λb4 f4 z4 v4 u4=> ?_
 have k36:b4.eval (.tmp 36)=v36:=(u4 36 (by decide)).trans ((u3 36 (by decide)).trans ((u2 36 (by decide)).trans (v1 (by omega))));have k37:b4.eval (.tmp 37) = .i day:=(u4 37 (by decide)).trans ((u3 37 (by decide)).trans (v2 (by omega)));have k38:b4.eval (.tmp 38) = .i fin:=(u4 38 (by decide)).trans (v3 (by omega));have k39:b4.eval (.tmp 39)=v39:=v4 (by omega);have fb4:b4.defers={ target:=.fn (.func 83) #[],args:= #[.pointer (some ⟨be,0,none⟩),.pointer (some ⟨bl,0,none⟩)] } :: a.defers:=f4.trans (f3.trans (f2.trans (f1.trans f0)));have u8:∀ t,t<36->b4.tmps.getD t undef=a.tmps.getD t undef:=λt ht=>(u4 t (by omega)).trans ((u3 t (by omega)).trans ((u2 t (by omega)).trans (u1 t (by omega))))
 have zb4:b4.tmps.size=a.tmps.size:=z4.trans (z3.trans (z2.trans z1))
 have nil36:Rep (Go.Sx.Own O σ) w c.conA [] v36:=by
  simp only [Con.conA,Ex.exS,Con.dayS,Con.conS,Rep] at r36 ⊢;obtain⟨vs,hv,hr⟩:=r36;exact⟨vs,hv,y7 rfl hr⟩
 have nil39:Rep (Go.Sx.Own O σ) w (envA f h) [] v39:=by
  simp only [envA,Rep] at r39 ⊢;obtain⟨vs,hv,hr⟩:=r39;exact⟨vs,hv,y7 rfl hr⟩
 refine Vw (Xp:=zb7 c day fin f h) (D:=Kept w) (R:=λv w'=>∃ l,flM f h c day fin = .ok l/\Kept w w'/\Rep (Go.Sx.Own O σ) w' (flS l) [] v) o4g o4o rfl rfl ?_ ?_ ?_
 ·show qG _ _ _ _ [b4.eval (.tmp 36),b4.eval (.tmp 37),b4.eval (.tmp 38),b4.eval (.tmp 39)].toArray w _;rw [k36,k37,k38,k39]
  have hr4:RepL (Go.Sx.Own O σ) w [c.conA,.i day,.i fin,envA f h] [] [v36,.i day,.i fin,v39]:=by
   simp only [RepL];exact⟨_,_,rfl,nil36,_,_,rfl,rfl,_,_,rfl,rfl,_,_,rfl,nil39,rfl⟩
  have hst:qA (zb7 c day fin f h) (FI.val ⟨c,day,fin,f,h⟩):=λe he=>⟨e,he,rfl⟩
  have eA:eqA (envA f h) (envA f h):=⟨⟨rfl,rfl,λ_ _ _ _=>rfl⟩,⟨rfl,rfl,λ_ _ _ _=>rfl⟩,trivial⟩;cases hfl:flM f h c day fin with
  | error e=>
   refine qG.map (λ_ h=>h) ?_ (Z2 (args:=[c.conA,.i day,.i fin,envA f h]) (r:=.bot) (Uc (zb7 c day fin f h)) ⟨⟨c,day,fin,f,h⟩,⟨⟨qW c,⟨rfl,rfl⟩,⟨rfl,rfl⟩,eA,trivial⟩,trivial,rfl,hG,hst⟩,λho=> ?_,λ_=>.inr rfl⟩ hm.good hhp hr4)
   ·rintro v w' ⟨_,hb⟩;exact hb.elim
   ·have ho:okM (flM f h c day fin)=true:=ho;rw [hfl] at ho; cases ho
  | ok l=>
   refine qG.map (λ_ h=>h) ?_ (Z2 (args:=[c.conA,.i day,.i fin,envA f h]) (r:=flS l) (Uc (zb7 c day fin f h)) ⟨⟨c,day,fin,f,h⟩,⟨⟨qW c,⟨rfl,rfl⟩,⟨rfl,rfl⟩,eA,trivial⟩,trivial,rfl,hG,hst⟩,λ_=>.inl ?_,λ_=>.inr rfl⟩ hm.good hhp hr4)
   ·rintro v w' ⟨h1,h2⟩;exact⟨l,rfl,h1,h2⟩
   ·show(flS (getM [] (flM f h c day fin)),[])=_;rw [hfl]; rfl
 ·rintro v40 w1 ⟨l,hfl,k1,r40⟩;rw [o4d];refine yE (P:=λb=>wpListIn _ _ _ _ _ _ b w1) λb5 f5 z5 v5 u5=> ?_
  have g1:=k1.good hm.good;have hh1:=k1.hrep hhp;refine Vw (Xp:=λ_=>False) (D:=Kept w1) (R:=λv w'=>Kept w1 w'/\Rep (Go.Sx.Own O σ) w' (flS (ordM l)) [] v) o5g o5o rfl rfl ?_ ?_ (λ_ _ h=>h.elim)
  ·show qG _ _ _ _ [b5.eval (.tmp 40),.func (.func 86) #[] #[]].toArray w1 _;rw [show b5.eval (.tmp 40)=v40 from v5 (by omega)];refine Z2 (args:=[flS l,.fn 86 [] []]) (r:=flS (ordM l)) (zqv).x ⟨l,⟨⟨⟨rfl,rfl,λ_ _ _ _=>rfl⟩,rfl,trivial⟩,?_⟩,⟨(),trivial⟩,λ_ _=>.inl rfl⟩ g1 hh1 ?_
   ·have:=(KP c hfl).1;have:=Con.yQ c;show l.length<_;omega
   ·simp only [RepL];exact⟨_,_,rfl,r40,_,_,rfl,⟨[],[],rfl,rfl,rfl⟩,rfl⟩
  ·rintro v41 w2 ⟨k2,r41⟩;rw [o5d];refine yE (P:=λb=>wpListIn _ _ _ _ _ _ b w2) λb6 f6 z6 v6 u6=> ?_
   have u68:∀ t,t<36->b6.tmps.getD t undef=a.tmps.getD t undef:=λt ht=>(u6 t (by omega)).trans ((u5 t (by omega)).trans (u8 t ht))
   have g2:=k2.good g1;have hh2:=k2.hrep hh1;have k12:=k1.trans k2;refine WG (i:=2) (c:=.nils) (r:=flS (ordM l)) g2 hh2 o6g o6o (by show Rep _ _ _ _ (b6.tmps.getD 8 undef); rw [u68 8 (by decide)]; exact k12.rep t8) rfl (by kernel_rfl) (by rw [show b6.eval (.tmp 41)=v41 from v6 (by omega)]; exact Rep.any r41 σ) rfl rfl λw3 P3=> ?_
   rw [o6d]
   refine WG (i:=3) (c:=.i 0) (r:=.i 0) P3.good P3.hp o7g o7o (by
    show Rep _ _ _ _ (b6.tmps.getD 9 undef);rw [u68 9 (by decide)];exact zV (K:=[]) P3.ext P3.hold _ _ (jb _) (k12.rep t9)) rfl (by kernel_rfl) rfl rfl rfl λw4 P4=> ?_
   rw [o7d];refine wpListIn_nil ?_;show Code.ret.wpIn (FM none) 0 _ _ _ w4;refine wpIn_ret ?_;show LeavesInM _ _ _ _ b6.tmps _ b6.defers .returning w4;rw [f6.trans (f5.trans fb4)];refine⟨by simp,.inr ⟨λhh=>(by cases hh),.func 83,#[],83,#[.pointer (some ⟨be,0,none⟩),.pointer (some ⟨bl,0,none⟩)],rfl,?_,λ_ _=>trivial,?_⟩⟩
   ·simp [go_sem]
   ·refine(Yb ⟨be,0,none⟩ ⟨bl,0,none⟩ w4).mono ?_;rintro e u' w5 ⟨rfl,rfl,rfl⟩;show LeavesInM _ _ _ _ _ _ _ .returning _;refine zcv hq hm (x:=flS (ordM l)) (e:=0) P4.good P4.hp ((k12.ext _).trans (P3.ext.trans P4.ext)) (λb hO hb=> ?_) (u68 8 (by decide)) (u68 9 (by decide)) ?_ (.inr ?_) ?_
    ·have h2:b<w2.heap.size:=bB hb k12.size;rw [P4.wa b hO (bB h2 P3.ext.size),P3.wa b hO h2,k12.keep b hb]
    ·rw [z6,z5,zb4]
    ·rw [hbef,hfl]
    ·rw [hbef,hfl]
 ·rintro ch w1 ⟨x,hfl,rfl⟩ k1;have g1:=k1.good hm.good;have hh1:=k1.hrep hhp;have t8':=k1.rep t8;have t9':=k1.rep t9;show LeavesInM _ _ _ _ b4.tmps _ b4.defers (.panicking (Za yP x)) w1;rw [fb4];refine⟨by simp,.inr ⟨λhh=>(by cases hh),.func 83,#[],83,#[.pointer (some ⟨be,0,none⟩),.pointer (some ⟨bl,0,none⟩)],rfl,?_,λ_ _=>trivial,?_⟩⟩
  ·simp [go_sem]
  ·obtain⟨bl',ul',a1,a2,a3,a4,_⟩:=ye hh1 t8' rfl;obtain⟨be',ue',c1,c2,c3,c4,_⟩:=ye hh1 t9' rfl;rw [hl1] at a1;rw [he1] at c1;cases a1;cases c1;simp only [Rep] at c4;subst c4;refine(XB be bl x 0 ul' [] w1 c2 c3 a2 a3 hne).mono ?_;rintro e u' w5 ⟨rfl,rfl,rfl⟩;show LeavesInM _ _ _ _ _ _ _ .returning _;rw [he1] at t9';obtain⟨ws1,q1,P1⟩:=kQ (P:=prog) (t:=40) (cv:=[.i x]) (v:=.i x) (n:=1) g1 hh1 t9' (cells:=[.i 0]) rfl (by kernel_rfl) ⟨_,_,rfl,rfl,rfl⟩ rfl (aJ _) rfl;rw [Je (P:=prog) (by kernel_rfl) rfl c2 c3 rfl] at q1;cases q1;have t8'':Rep (Go.Sx.Own O σ) (w1.setCell ⟨be,0,none⟩ (.i x)) (.ptr 2 0) σ (a.tmps.getD 8 undef):=zV (K:=[]) P1.ext P1.hold _ _ (jb _) t8';obtain⟨bl2,ul2,d1,d2,d3,d4,_⟩:=ye P1.hp t8'' rfl;rw [hl1] at d1;cases d1;rw [hl1] at t8'';obtain⟨ws2,q2,P2⟩:=kQ (P:=prog) (t:=56) (cv:=[.nils]) (v:=.slice none 0 0) (n:=1) P1.good P1.hp t8'' (cells:=[.nils]) rfl (by kernel_rfl) ⟨_,_,rfl,by simp [Rep],rfl⟩ rfl (aJ _) rfl;rw [Je (P:=prog) (by kernel_rfl) rfl d2 d3 rfl] at q2;cases q2;have k3:=Kept.alloc ((w1.setCell ⟨be,0,none⟩ (.i x)).setCell ⟨bl,0,none⟩ (.slice none 0 0)) (.cells #[.i x] 180);refine zcv hq hm (x:=.nils) (e:=x) (k3.good P2.good) (k3.hrep P2.hp) ((k1.ext _).trans (P1.ext.trans (P2.ext.trans (k3.ext _)))) (λb hO hb=> ?_) (u8 8 (by decide)) (u8 9 (by decide)) zb4 (.inl ⟨rfl,?_⟩) ?_
   ·have h2:b<w1.heap.size:=bB hb k1.size;have h3:=bB h2 P1.ext.size;rw [k3.keep b (bB h3 P2.ext.size),P2.wa b hO h3,P1.wa b hO h2,k1.keep b hb]
   ·rw [hbef,hfl]
   ·rw [hbef,hfl]
theorem ze0:zg prog 52 vM:=by
 intro args hc Q hq _;simp only [vM,ctrP] at hq;split at hq
 ·obtain⟨⟨c,day,fin,f,h⟩,⟨h1,h2⟩,h3,h4⟩:=hq;have hq:=h4 _ rfl;refine j6.le h1 (door (fn:=f52) (c:=f52.body.getD .skip) (ctr:=vM) rfl rfl rfl (λhh=>by cases hh) (ι:={u:Unit // c.errC=0/\errE f h=0/\0<=day/\day<=99999/\0<=fin/\fin<=100000}) (λ_=>SBe day fin) (λ_=>HBe c f h) 6 4 (by kernel_rfl) (by kernel_rfl) ?_ ?_)
  ·intro O w0 I0 hl;exact zge c day fin f h h2 hq
  ·rintro⟨_,hx⟩ O w0 I0 w σ a hl hm;have h0:I0=[]:=aU.1 (by simpa using hl);subst h0;exact zij h2 hx hq hm
 ·exact hq.elim
noncomputable def K23:=Go.Sx.aA f23
def zkw:Ctr:=ctrP false (λk:FI=>[k.c.conA,.i k.day,envA k.f k.h]) FI.pre (λk r=>r=zL k.c k.day k.f k.h) (λ_ (r:List Fl×Int)=>(.tup [flS r.1,.i r.2],[]))
noncomputable def GFs:=tb ze0 tz
theorem U3:zg prog 22 zkw:=by
 refine zm' f22 λk hp O w0 Q hq=> ?_
 obtain⟨c,day,fin,f,h⟩:=k;replace hq:=hq _ rfl;simp only at hq;refine zd.n GFs.h [] (.ex (λ(x:FI)=>eqL [(Con.conA c),.i day,.i 100000,.agg [.sl f.length 3 (fxG f),.sl h.length 4 (chG h)]] [(Con.conA x.c),.i x.day,.i x.fin,.agg [.sl x.f.length 3 (fxG x.f),.sl x.h.length 4 (chG x.h)]]/\FI.pre x) λn=>.all (λ(r:List Fl×Int)=>r=befM n.c n.day n.fin n.f n.h) λn=>.R [.sl n.1.length 5 (flG n.1),.i n.2] [.box (Con.zi c),.box [.sl f.length 3 (fxG f),.sl h.length 4 (chG h)]]) ?_;simp only [Tree.holds,zh];refine⟨⟨c,day,100000,f,h⟩,⟨⟨qW c,⟨rfl,rfl⟩,⟨rfl,rfl⟩,⟨⟨rfl,rfl,λ_ _ _ _=>rfl⟩,⟨rfl,rfl,λ_ _ _ _=>rfl⟩,trivial⟩,trivial⟩,hp⟩,⟨_,rfl⟩,?_⟩;rintro _ rfl;exact RetR.le0 hq (λh=>by cases h) (LeA.refl _)
theorem Fl.same{x y:Fl}(h1:x.date=y.date)(h2:x.src=y.src)(h3:x.dst=y.dst)(h4:x.ccy=y.ccy)(h5:x.amt=y.amt):x=y:=by
 cases x; cases y; simp_all
def zhz:Ctr:=ctrP true (λp:List Fl×List Fl=>[flS p.1,flS p.2]) (λp=>p.1.length<2^40) (λp r=>(r=true↔p.1=p.2)) (λ_ (r:Bool)=>(.bool r,[]))
def SSf(l m:List Fl)(i:Nat):KV:=[(0,flS l),(1,flS m),(5,.i (i:Int))]
theorem zk6:zg prog 23 zhz:=by
 refine zm' f23 λp hp O w0 Q hq=> ?_
 obtain⟨l,m⟩:=p;simp only at hp hq;refine zd.n zJ [0,1,5] (.N ((l.length:Int)=m.length) (.R [.bool false] []) (.leaf (.loop (lps K23 0).1 (lps K23 0).2 [(0,.sl l.length 5 (flG l)),(1,.sl m.length 5 (flG m)),(5,.i 0)] []))) ?_;simp only [Tree.holds,zh];refine⟨λh=> ?_,λh=> ?_⟩
 ·refine RetR.scal (hq false ⟨λh=>(by cases h),λhe=> ?_⟩) rfl (by simp [resV]);subst he;simp at h
 ·have hl:l.length=m.length:=by simp at h; omega
  refine zd.loop (ι:={i:Nat // i<=l.length/\∀ j,j<i->l.getD j Fl.nil=m.getD j Fl.nil}) (λi=>SSf l m i.1) (λ_=>[]) (λi=>l.length - i.1) ⟨0,aI _,λj hj=>by omega⟩ 0 ?_ ?_ (by kernel_rfl)
  ·exact⟨by simp [SSf,flS,za],trivial,by kernel_rfl,aI _⟩
  ·rintro⟨i,hil,hib⟩;refine zd.n zJ [0,1,5] (let v2:=m.getD (i:Int).toNat Fl.nil;let v1:=l.getD (i:Int).toNat Fl.nil;.D ((i:Int)<l.length) (.side ((0:Int)<=i/\(i:Int)<l.length) (.side ((0:Int)<=i/\(i:Int)<m.length) (.ite (!(decide (Fl.date v1=Fl.date v2)&&(decide (Fl.src v1=Fl.src v2)&&(decide (Fl.dst v1=Fl.dst v2)&&(decide (Fl.ccy v1=Fl.ccy v2)&&(decide (Fl.amt v1=Fl.amt v2)&&true)))))) (.R [.bool false] []) (.S (i+1) (.leaf (.back 0 [(0,.sl l.length 5 (flG l)),(1,.sl m.length 5 (flG m)),(5,.i (i+1))] [])))))) (.R [.bool true] [])) ?_;simp only [Tree.holds,zh,inR,lo,hi,aD];refine⟨λhlt=> ?_,λhge=> ?_⟩
   ·have hlt:i<l.length:=by have:=aB hlt; omega
    refine⟨by omega,λ_=>⟨by omega,λ_=>⟨λg=> ?_,λg=>⟨by omega,λ_=> ?_⟩⟩⟩⟩
    ·refine RetR.scal (hq false ⟨λh=>(by cases h),λh3=> ?_⟩) rfl (by simp [resV]);subst h3; simp at g
    ·have g:l.getD i Fl.nil=m.getD i Fl.nil:=by
      rw [Bool.not_eq_false'] at g;simp only [bA,aK,and_true] at g;exact Fl.same g.1 g.2.1 g.2.2.1 g.2.2.2.1 g.2.2.2.2
     rw [aP trivial];refine⟨⟨i+1,hlt,λj hj=> ?_⟩,by show l.length - (i+1)<l.length - i; omega,by simp [SSf,flS,za],trivial,by kernel_rfl,aI _⟩;rcases aR j i with h1 | h1
     ·exact hib j h1
     ·have:j=i:=by omega
      rw [this]; exact g
   ·have hge:i=l.length:=by have:=aC hge; omega
    subst hge;refine RetR.scal (hq true ⟨λ_=> ?_,λ_=>rfl⟩) rfl (by simp [resV]);apply List.ext_getElem hl;intro j g1 g2;have:=hib j g1;simpa [List.getD,g1,g2] using this
end Go.Proofs.Tryz
end
section
namespace Go.Nov
open Go.Sx
section
variable {x:Ex} {day:Int} {f:List Fx} {c:List Ch}
end
structure Lg(p q x y:Ex):Prop where
 p0:p.errX=0
 p1:p.z8=2
 q0:q.errX=0
 q1:q.z8=2
 x0:x.errX=0
 x1:x.z8=1
 y0:y.errX=0
 y1:y.z8=1
 s:p.size+q.size+x.size+y.size<500
 dp:p.depth<60
 dq:q.depth<60
 dx:x.depth<60
 dy:y.depth<60
section
variable {p q x y:Ex} {day:Int} {f:List Fx} {c:List Ch} (h:Lg p q x y)
include h
end
end Go.Nov
end
section
namespace Go.Nov
open Go.Sx
namespace Tm
theorem zel{x:Ex}(h:x.size<=50):numX x=decide (x.z8=1):=by
 unfold numX;by_cases hs:x.z8=1
 ·have hd:=Ex.jK x;have:x.errX=0:=by unfold Ex.errX; rw [aO (by omega),aO (by omega)]
  simp [this,hs]
 ·simp [hs]
theorem zdh{x:Ex}(h:x.size<=50)(hs:x.z8=1):x.errX=0:=by
 have hd:=Ex.jK x;unfold Ex.errX;rw [aO (by omega),aO (by omega)]
theorem zr4(f:List Fx)(h:List Ch)(day:Int)(c:Con)(fr fin:Int):flM f h (at_ day c) fr fin=if fin<=fr then .ok [] else if fr<=day then flM f h c day fin else .ok []:=by
 rw [QW];simp [at_,Con.kind,Con.date,Con.sub]
theorem zmu(f:List Fx)(h:List Ch)(a b n:L8)(x:Ex)(fr fin:Int):flM f h (.mk 2 a b n x 0 [] []) fr fin=if fin<=fr then .ok [] else Go.Nov.andM (valM x fr f h) λr=>.ok (payF fr a b n r):=by
 rw [QW];simp [Con.kind,Con.x,Con.src,Con.dst,Con.name]
theorem zfd{x:Ex}{day:Int}{f:List Fx}{h:List Ch}(hx:x.size<=50)(hs:x.z8=1)(he:errE f h=0)(hd:dayB day=true):valM x day f h=if(x.ev f day).e≠0 then .error (x.ev f day).e else .ok (x.ev f day).v:=by
 unfold valM jR;have ha:askE x 1 day f h=0:=by rw [zpp (zdh hx hs) hs,aP he,aP hd]
 simp only [ha,ne_eq,not_true_eq_false,if_false];by_cases g:(x.ev f day).e=0<;>simp [g]
theorem zn2(n:L8)(d:Int)(f:List Fx)(day:Int):((fixg n d).ev f day).v=(fixR f n d).1/\((fixg n d).ev f day).e=(fixR f n d).2:=by
 unfold fixg; rw [Ex.ev,Ex.evs]; exact⟨rfl,rfl⟩
end Tm
end Go.Nov
end
section
set_option maxRecDepth 100000
open Go Go.Sx Go.Proofs Go.Nov
namespace Go.Proofs.Tryz
attribute [local simp] eqKV eqA eqA0 eqH eqB eqL eqL0
structure FlA where
 c:Con
 e:Int
 day:Int
 f:List Fx
 h:List Ch
 l:List Fl
def zb6:Ctr:=ctrP true (λp:FlA=>[p.c.conA,.i p.e,.i p.day,envA p.f p.h,flS p.l]) (λp=>FI.pre ⟨p.c,p.day,100000,p.f,p.h⟩/\p.e=0/\zL p.c p.day p.f p.h=(p.l,0)/\p.l.length<2^40) (λ_ r=>r=true) (λ_ (r:Bool)=>(.bool r,[]))
noncomputable def GFlL:=tb U3 (tb zk6 tz)
theorem VO:zg prog 29 zb6:=by
 refine zm' f29 λp hp O w0 Q hq=> ?_
 obtain⟨c,e,day,f,h,l⟩:=p;obtain⟨p1,p2,p3,p4⟩:=hp;replace hq:=hq _ rfl;simp only at hq p1 p2 p3 p4;subst p2;refine zd.n GFlL.h [] (.ex (λ(x:FI)=>eqL [(Con.conA c),.i day,.agg [.sl f.length 3 (fxG f),.sl h.length 4 (chG h)]] [(Con.conA x.c),.i x.day,.agg [.sl x.f.length 3 (fxG x.f),.sl x.h.length 4 (chG x.h)]]/\FI.pre x) λn=>.all (λ(r:List Fl×Int)=>r=zL n.c n.day n.f n.h) λn=>.ex (λ(x:List Fl×List Fl)=>(bif decide ((0:Int)=0) then decide (n.2=0) else false)=true->eqL [.sl n.1.length 5 (flG n.1),.sl l.length 5 (flG l)] [.sl x.1.length 5 (flG x.1),.sl x.2.length 5 (flG x.2)]/\x.1.length<1099511627776) λn_1=>.all (λ(x:Bool)=>(bif decide ((0:Int)=0) then decide (n.2=0) else false)=true->(x=true↔n_1.1=n_1.2)) λn_2=>.R [.bool (bif bif decide ((0:Int)=0) then decide (n.2=0) else false then n_2 else false)] [.box (Con.zi c),.box [.sl f.length 3 (fxG f),.sl h.length 4 (chG h)]]) ?_;simp only [Tree.holds,zh];refine⟨⟨c,day,100000,f,h⟩,⟨⟨qW c,⟨rfl,rfl⟩,⟨⟨rfl,rfl,λ_ _ _ _=>rfl⟩,⟨rfl,rfl,λ_ _ _ _=>rfl⟩,trivial⟩,trivial⟩,p1⟩,⟨_,rfl⟩,?_⟩;rintro _ rfl;simp only [p3];refine⟨(l,l),λ_=>⟨⟨⟨rfl,rfl,λ_ _ _ _=>rfl⟩,⟨rfl,rfl,λ_ _ _ _=>rfl⟩,trivial⟩,p4⟩,⟨true,λ_=>by simp⟩,λr hr=> ?_⟩;obtain rfl:r=true:=(hr (by simp)).2 rfl;exact RetR.scal hq rfl (by simp [resV])
noncomputable def zk4:Ctr:=inlC prog noG 100 f27
theorem YI:zg prog 27 zk4:=ub hmix zJ rfl rfl
def UJ:Ctr:=ctrP true (λp:Fl=>[.i p.date,.str p.src,.str p.dst,.str p.amt]) (λ_=>True) (λ_ (_:Unit)=>True) (λp _=>(.agg [.i p.date,.str p.src,.str p.dst,.str [85,83,68],.str p.amt],[]))
theorem Ud:zg prog 30 UJ:=by
 refine zm' f30 λp hp O w0 Q hq=> ?_
 obtain⟨d,a,b,n,r⟩:=p;replace hq:=hq () trivial;simp only at hq;refine zd.n zJ [] (.R [.agg [.i d,.str a,.str b,.str #[(85:UInt8),(83:UInt8),(68:UInt8)].toList,.str r]] [.box [.i d,.str a,.str b,.str #[(85:UInt8),(83:UInt8),(68:UInt8)].toList,.str r]]) ?_;simp only [Tree.holds,zh];exact RetR.scal hq rfl (by simp [resV])
def zon:Ctr:=ctrP true (λ_:Unit=>[]) (λ_=>True) (λ_ r=>r=true) (λ_ (r:Bool)=>(.bool r,[]))
def zho:Ctr:={ zpr with sinks:=true }
theorem Xy:zg prog 19 zho:=zop.sink
noncomputable def GAlT:=tb VO (tb YI (tb Ud (tb JH (tb Xy tz))))
def dAl1:Deal:=⟨[65,110,110],[66,111,98],[85,83,68],[115,112,111,116],[51],[49,48]⟩
def dAl2:Deal:=⟨[65,110,110],[66,111,98],[85,83,68],[105,100,120],[49,47,50,48],[49,48,48]⟩
def lAl2:List Per:=[⟨1,9,[49,47,50]⟩]
def cAl1:Con:=Tm.fwd dAl1 5
def cAl2:Con:=Tm.jy (Tm.legS dAl2) dAl2 lAl2
theorem znt:Tm.res dAl1 (Tm.fwd dAl1 5)=0:=by decide +kernel
theorem zn7:Tm.out 0 (Tm.fwd dAl1 5)=cAl1:=by unfold Tm.out cAl1; rw [aP rfl]
theorem zn6:Tm.qU (Tm.legS dAl2) dAl2 lAl2=0:=by decide +kernel
def zli:Fl:=⟨5,[66,111,98],[65,110,110],[85,83,68],[53]⟩
def zhg:Fl:=⟨9,[65,110,110],[66,111,98],[85,83,68],[53,47,50]⟩
def zlg:Fl:=⟨9,[66,111,98],[65,110,110],[85,83,68],[53]⟩
def fxAl:List Fx:=[⟨[105,100,120],1,[49,47,49,48]⟩,⟨[115,112,111,116],5,[55,47,50]⟩]
theorem zk2:zL cAl1 2 fxAl []=([zli],0):=by kernel_rfl
theorem zkc:zL cAl2 2 fxAl []=([zhg,zlg],0):=by kernel_rfl
theorem zg3:envP (fxAl,[]):=⟨by decide,by decide,by unfold xc; decide,λj hj=>absurd hj (Nat.not_lt_zero j)⟩
theorem zn3:FI.pre ⟨cAl1,2,100000,fxAl,[]⟩:=⟨by show cAl1.big<_; decide +kernel,by show cAl1.nodes<=_; decide +kernel,zg3⟩
theorem zm8:FI.pre ⟨cAl2,2,100000,fxAl,[]⟩:=⟨by show cAl2.big<_; decide +kernel,by show cAl2.nodes<=_; decide +kernel,zg3⟩
noncomputable def LAt:List Go.Sx.Item:=ju 12 (f8.body.getD .skip)
noncomputable def LAt2:List Go.Sx.Item:=LAt.drop 2
def SAt3:KV:=[(1,.ptr 1 0),(2,.ptr 3 0),(3,.i 0)]
def HAt3:Heap:=[.arr 2 3 (fxG fxAl),.box [.osl 0 3 0 2,.nils],.dead,.box cAl1.zc]
noncomputable def LAt3:List Go.Sx.Item:=LAt2.drop 1
def SAt4:KV:=[(1,.ptr 1 0),(2,.ptr 3 0),(3,.i 0),(4,.ptr 6 0),(5,.i 0)]
def HAt4:Heap:=[.arr 2 3 (fxG fxAl),.box [.osl 0 3 0 2,.nils],.dead,.box cAl1.zc,.dead,.dead,.box cAl2.zc]
noncomputable def LAt4:List Go.Sx.Item:=LAt3.drop 1
def SAt2:KV:=[(1,.ptr 1 0)]
def HAt2:Heap:=[.arr 2 3 (fxG fxAl),.box [.osl 0 3 0 2,.nils]]
abbrev q65(A:List AV)(x:Fl):Prop:=eqL A [.i x.date,.str x.src,.str x.dst,.str x.amt]/\True
abbrev q64(A:List AV)(x:PeA):Prop:=eqL A [x.d.av,.sl x.l.length 3 (perG x.l)]/\PeA.ok x
abbrev q63(A:List AV)(x:Deal×Int):Prop:=eqL A [x.1.av,.i x.2]/\Tm.fits x.1
theorem zdw:zg prog 8 zon:=by
 refine zm' f8 λp hp O w0 Q hq=> ?_
 replace hq:=hq true rfl;refine zd.spine 12 ?_;refine zd.cutL (ι:=Unit) LAt 2 0 (λ_=>SAt2) (λ_=>HAt2) (by kernel_rfl) (by kernel_rfl) ?_ λ_=> ?_
 ·refine zd.n GAlT.h [1] (.leaf (.back 0 [(1,.ptr 1 0)] [.arr 2 3 (zj 3 [.str #[(105:UInt8),(100:UInt8),(120:UInt8)].toList,.i 1,.str #[(49:UInt8),(47:UInt8),(49:UInt8),(48:UInt8)].toList,.str #[(115:UInt8),(112:UInt8),(111:UInt8),(116:UInt8)].toList,.i 5,.str #[(55:UInt8),(47:UInt8),(50:UInt8)].toList]),.box [.osl 0 3 0 2,.nils]])) ?_;simp only [Tree.holds,zh];rw [aP trivial];refine⟨(),by simp [SAt2],⟨⟨rfl,rfl,?_⟩,by simp,trivial⟩,by kernel_rfl,aI _⟩;intro j o hj ho;rcases(show j=0\/j=1 by omega) with rfl | rfl<;>rcases(show o=0\/o=1\/o=2 by omega) with rfl | rfl | rfl<;>rfl
 show zN none prog f8 O 0 w0 [] _ _ LAt2 _;refine zd.cutL (ι:=Unit) LAt2 1 0 (λ_=>SAt3) (λ_=>HAt3) (by kernel_rfl) (by kernel_rfl) ?_ λ_=> ?_
 ·refine zd.n GAlT.h [1,2,3] (.ex (q63 [.agg [.str #[(65:UInt8),(110:UInt8),(110:UInt8)].toList,.str #[(66:UInt8),(111:UInt8),(98:UInt8)].toList,.str #[(85:UInt8),(83:UInt8),(68:UInt8)].toList,.str #[(115:UInt8),(112:UInt8),(111:UInt8),(116:UInt8)].toList,.str #[(51:UInt8)].toList,.str #[(49:UInt8),(48:UInt8)].toList],.i 5]) λn=>.A λn_1=>.leaf (.back 0 [(1,.ptr 1 0),(2,.ptr 3 0),(3,.i (Tm.res n.1 (Tm.fwd n.1 n.2)))] [.arr 2 3 (fxG fxAl),.box [.osl 0 3 0 2,.nils],.box [.str #[(65:UInt8),(110:UInt8),(110:UInt8)].toList,.str #[(66:UInt8),(111:UInt8),(98:UInt8)].toList,.str #[(85:UInt8),(83:UInt8),(68:UInt8)].toList,.str #[(115:UInt8),(112:UInt8),(111:UInt8),(116:UInt8)].toList,.str #[(51:UInt8)].toList,.str #[(49:UInt8),(48:UInt8)].toList],.box (Con.zc (Tm.out (Tm.res n.1 (Tm.fwd n.1 n.2)) (Tm.fwd n.1 n.2)))])) ?_;simp only [q63,Tree.holds,zh];refine⟨(dAl1,5),⟨⟨⟨rfl,rfl,rfl,rfl,rfl,rfl,trivial⟩,⟨rfl,rfl⟩,trivial⟩,by unfold Tm.fits; decide⟩,⟨(),trivial⟩,λ_ _=> ?_⟩;rw [aP trivial];simp only [znt,zn7];exact⟨(),by simp [SAt3],⟨zk _,zk _,trivial,zk _,trivial⟩,by kernel_rfl,aI _⟩
 show zN none prog f8 O 0 w0 [] _ _ LAt3 _;refine zd.cutL (ι:=Unit) LAt3 1 0 (λ_=>SAt4) (λ_=>HAt4) (by kernel_rfl) (by kernel_rfl) ?_ λ_=> ?_
 ·refine zd.n GAlT.h [1,2,3,4,5] (.ex (q64 [.agg [.str #[(65:UInt8),(110:UInt8),(110:UInt8)].toList,.str #[(66:UInt8),(111:UInt8),(98:UInt8)].toList,.str #[(85:UInt8),(83:UInt8),(68:UInt8)].toList,.str #[(105:UInt8),(100:UInt8),(120:UInt8)].toList,.str #[(49:UInt8),(47:UInt8),(50:UInt8),(48:UInt8)].toList,.str #[(49:UInt8),(48:UInt8),(48:UInt8)].toList],.sl 1 3 (zf (zj 3 [.i 1,.i 9,.str #[(49:UInt8),(47:UInt8),(50:UInt8)].toList]) 0)]) λn=>.A λn_1=>.leaf (.back 0 [(1,.ptr 1 0),(2,.ptr 3 0),(3,.i 0),(4,.ptr 6 0),(5,.i (Tm.qU (Tm.legS n.d) n.d n.l))] [.arr 2 3 (fxG fxAl),.box [.osl 0 3 0 2,.nils],.dead,.box [.int .u8 6,.str cAl1.src,.str cAl1.dst,.str cAl1.name,.int .u8 0,.str (Ex.rat cAl1.x),.str (Ex.name cAl1.x),.i 0,.sl 0 5 (Ex.exG (Ex.sub cAl1.x)),.i 5,.sl 0 1 (Con.dayG cAl1.days),.sl 1 12 (Con.deep cAl1)],.box [.str #[(65:UInt8),(110:UInt8),(110:UInt8)].toList,.str #[(66:UInt8),(111:UInt8),(98:UInt8)].toList,.str #[(85:UInt8),(83:UInt8),(68:UInt8)].toList,.str #[(105:UInt8),(100:UInt8),(120:UInt8)].toList,.str #[(49:UInt8),(47:UInt8),(50:UInt8),(48:UInt8)].toList,.str #[(49:UInt8),(48:UInt8),(48:UInt8)].toList],.dead,.box (Con.zc (Tm.jy (Tm.legS n.d) n.d n.l))])) ?_;simp only [q64,Tree.holds,zh];refine⟨⟨dAl2,lAl2,false⟩,⟨⟨⟨rfl,rfl,rfl,rfl,rfl,rfl,trivial⟩,⟨rfl,rfl,?_⟩,trivial⟩,by unfold Tm.fits; decide,by decide,by decide⟩,⟨(),trivial⟩,λ_ _=> ?_⟩
  ·intro j o hj ho;rcases(show j=0 by omega) with rfl;rcases(show o=0\/o=1\/o=2 by omega) with rfl | rfl | rfl<;>rfl
  rw [aP trivial];simp only [zn6];exact⟨(),by simp [SAt4],⟨zk _,zk _,trivial,zk _,trivial,trivial,zk _,trivial⟩,by kernel_rfl,aI _⟩
 show zN none prog f8 O 0 w0 [] _ _ LAt4 _;refine zd.n GAlT.h [] (let v5:=[AV.sl 2 3 (zf (fxG fxAl) 0),AV.nils];let v3:List AV:=[.int .u8 3,.str cAl2.src,.str cAl2.dst,.str cAl2.name,.int .u8 0,.str (Ex.rat cAl2.x),.str (Ex.name cAl2.x),.i 0,.sl 0 5 (Ex.exG (Ex.sub cAl2.x)),.i 0,.sl 0 1 (Con.dayG cAl2.days),.sl 2 12 (Con.deep cAl2)];let v2:List AV:=[.int .u8 6,.str cAl1.src,.str cAl1.dst,.str cAl1.name,.int .u8 0,.str (Ex.rat cAl1.x),.str (Ex.name cAl1.x),.i 0,.sl 0 5 (Ex.exG (Ex.sub cAl1.x)),.i 5,.sl 0 1 (Con.dayG cAl1.days),.sl 1 12 (Con.deep cAl1)];let v1:=[AV.int .u8 3,AV.str cAl2.src,AV.str cAl2.dst,AV.str cAl2.name,AV.int .u8 0,AV.str (Ex.rat cAl2.x),AV.str (Ex.name cAl2.x),AV.i 0,AV.sl 0 5 (Ex.exG (Ex.sub cAl2.x)),AV.i 0,AV.sl 0 1 (Con.dayG cAl2.days),AV.sl 2 12 (Con.deep cAl2)];.ex (q65 [.i 5,.str #[(66:UInt8),(111:UInt8),(98:UInt8)].toList,.str #[(65:UInt8),(110:UInt8),(110:UInt8)].toList,.str #[(53:UInt8)].toList]) λn=>let v4:=zj 5 [.i n.date,.str n.src,.str n.dst,.str [(85:UInt8),(83:UInt8),(68:UInt8)],.str n.amt];.A λn_1=>.ex (λ(x:FlA)=>eqL [.agg [.int .u8 6,.str cAl1.src,.str cAl1.dst,.str cAl1.name,.int .u8 0,.str (Ex.rat cAl1.x),.str (Ex.name cAl1.x),.i 0,.sl 0 5 (Ex.exG (Ex.sub cAl1.x)),.i 5,.sl 0 1 (Con.dayG cAl1.days),.sl 1 12 (Con.deep cAl1)],.i 0,.i 2,.agg v5,.sl 1 5 (zf (zj 5 [.i n.date,.str n.src,.str n.dst,.str [(85:UInt8),(83:UInt8),(68:UInt8)],.str n.amt]) 0)] [(Con.conA x.c),.i x.e,.i x.day,.agg [.sl x.f.length 3 (fxG x.f),.sl x.h.length 4 (chG x.h)],.sl x.l.length 5 (flG x.l)]/\FI.pre { c:=FlA.c x,day:=FlA.day x,fin:=(100000:Int),f:=FlA.f x,h:=FlA.h x } /\ FlA.e x=0/\zL x.c x.day x.f x.h=(FlA.l x,(0:Int))/\List.length x.l<1099511627776) λn_2=>.all (λ(r:Bool)=>r=true) λn_3=>.ex (λ(x:Fl)=>n_3=true->q65 [.i 9,.str #[(65:UInt8),(110:UInt8),(110:UInt8)].toList,.str #[(66:UInt8),(111:UInt8),(98:UInt8)].toList,.str #[(53:UInt8),(47:UInt8),(50:UInt8)].toList] x) λn_4=>.all (λ(x:Unit)=>n_3=true->True) λn_5=>.ex (λ(x:Fl)=>n_3=true->q65 [.i 9,.str #[(66:UInt8),(111:UInt8),(98:UInt8)].toList,.str #[(65:UInt8),(110:UInt8),(110:UInt8)].toList,.str #[(53:UInt8)].toList] x) λn_6=>.all (λ(x:Unit)=>n_3=true->True) λn_7=>.ite (n_3 == true) (.ex (λ(x:FlA)=>n_3=true->eqL [.agg v1,.i 0,.i 2,.agg v5,.sl 2 5 (zf (zj 5 [.i n_4.date,.str n_4.src,.str n_4.dst,.str [(85:UInt8),(83:UInt8),(68:UInt8)],.str n_4.amt,.i n_6.date,.str n_6.src,.str n_6.dst,.str [(85:UInt8),(83:UInt8),(68:UInt8)],.str n_6.amt]) 0)] [(Con.conA x.c),.i x.e,.i x.day,.agg [.sl x.f.length 3 (fxG x.f),.sl x.h.length 4 (chG x.h)],.sl x.l.length 5 (flG x.l)]/\FI.pre { c:=FlA.c x,day:=FlA.day x,fin:=(100000:Int),f:=FlA.f x,h:=FlA.h x } /\ FlA.e x=0/\zL x.c x.day x.f x.h=(FlA.l x,(0:Int))/\List.length x.l<1099511627776) λn_8=>.all (λ(x:Bool)=>n_3=true->x=true) λn_9=>.R [.bool (bif n_3 then n_9 else false)] [.arr 2 3 (fxG fxAl),.box [.osl 0 3 0 2,.nils],.dead,.box v2,.dead,.dead,.box v3,.arr 1 5 v4,.arr 2 5 (zj 5 [.i n_4.date,.str n_4.src,.str n_4.dst,.str [(85:UInt8),(83:UInt8),(68:UInt8)],.str n_4.amt,.i n_6.date,.str n_6.src,.str n_6.dst,.str [(85:UInt8),(83:UInt8),(68:UInt8)],.str n_6.amt])]) (.ex (λ(x:FlA)=>n_3=true->eqL [.agg v1,.i 0,.i 2,.agg v5,AV.nils] [(Con.conA x.c),.i x.e,.i x.day,.agg [.sl x.f.length 3 (fxG x.f),.sl x.h.length 4 (chG x.h)],.sl x.l.length 5 (flG x.l)]/\FI.pre { c:=FlA.c x,day:=FlA.day x,fin:=(100000:Int),f:=FlA.f x,h:=FlA.h x } /\ FlA.e x=0/\zL x.c x.day x.f x.h=(FlA.l x,(0:Int))/\List.length x.l<1099511627776) λn_8=>.all (λ(x:Bool)=>n_3=true->x=true) λn_9=>.R [.bool (bif n_3 then n_9 else false)] [.arr 2 3 (fxG fxAl),.box [.osl 0 3 0 2,.nils],.dead,.box v2,.dead,.dead,.box v3,.arr 1 5 v4])) ?_;simp only [q65,Tree.holds,zh];refine⟨zli,⟨⟨⟨rfl,rfl⟩,rfl,rfl,rfl,trivial⟩,trivial⟩,⟨(),trivial⟩,λ_ _=> ?_⟩;have eF:eqA (.agg [.sl 2 3 (zf (fxG fxAl) 0),.nils]) (envA fxAl []):=⟨⟨rfl,rfl,λj o _ _=>by simp only [zf,Nat.zero_add]⟩,by simp [chS],trivial⟩;refine⟨⟨cAl1,0,2,fxAl,[],[zli]⟩,⟨⟨qc cAl1,⟨rfl,rfl⟩,⟨rfl,rfl⟩,eF,⟨rfl,rfl,?_⟩,trivial⟩,zn3,rfl,zk2,by show(1:Nat)<_; decide⟩,⟨true,rfl⟩,?_⟩
 ·intro j o hj ho;rcases(show j=0 by omega) with rfl;rcases(show o=0\/o=1\/o=2\/o=3\/o=4 by omega) with rfl | rfl | rfl | rfl | rfl<;>rfl
 rintro _ rfl;refine⟨zhg,λ_=>⟨⟨⟨rfl,rfl⟩,rfl,rfl,rfl,trivial⟩,trivial⟩,⟨(),λ_=>trivial⟩,λ_ _=> ?_⟩;refine⟨zlg,λ_=>⟨⟨⟨rfl,rfl⟩,rfl,rfl,rfl,trivial⟩,trivial⟩,⟨(),λ_=>trivial⟩,λ_ _=> ?_⟩;refine⟨λ_=> ?_,λg=>absurd g (by decide)⟩;refine⟨⟨cAl2,0,2,fxAl,[],[zhg,zlg]⟩,λ_=>⟨⟨qc cAl2,⟨rfl,rfl⟩,⟨rfl,rfl⟩,eF,⟨rfl,rfl,?_⟩,trivial⟩,zm8,rfl,zkc,by show(2:Nat)<_; decide⟩,⟨true,λ_=>rfl⟩,λr hr=> ?_⟩
 ·intro j o hj ho;rcases(show j=0\/j=1 by omega) with rfl | rfl<;>rcases(show o=0\/o=1\/o=2\/o=3\/o=4 by omega) with rfl | rfl | rfl | rfl | rfl<;>rfl
 ·obtain rfl:=hr rfl;exact RetR.scal hq rfl (by simp [resV])
end Go.Proofs.Tryz
end
section
namespace Go.Nov
open Go.Sx
end Go.Nov
end
section
set_option maxRecDepth 100000
open Go Go.Sx Go.Proofs Go.Nov
namespace Go.Proofs.Tryz
attribute [local simp] eqKV eqA eqA0 eqH eqB eqL eqL0
def zcc:Ctr:=ctrP true (λ_:Unit=>[]) (λ_=>True) (λ_ (_:Unit)=>True) (λ_ _=>(.bool true,[]))
theorem zdx:zg prog 8 zcc:=by
 intro args hc Q h hf;refine zdw args hc Q ?_ hf;cases hc with
 | nil=>
  obtain⟨x,hx,_,hk⟩:=h;refine⟨x,hx,⟨true,rfl⟩,?_⟩;rintro _ rfl;exact hk () trivial
 | cons b l=>exact h.elim
end Go.Proofs.Tryz
end
section
namespace Go.Nov
open Go.Sx
namespace Tm
theorem zmx{a b n:L8}{x:Ex}{day:Int}(hs:x.size<=50)(hf:(at_ day (.mk 2 a b n x 0 [] [])).form=true):dayB day=true/\x.z8=1:=by
 unfold at_ at hf;rw [Con.form,Con.vE,Con.vE,Con.form,Con.vE] at hf;simp only [vG,aL,List.length_nil,zel hs] at hf;have hb:jf (.mk 0 [] [] 0 [])=true:=by decide
 rw [hb] at hf;by_cases e1:dayB day=true<;>by_cases e6:x.z8=1<;>simp_all
theorem zbb{a b n:L8}{x:Ex}{day fr:Int}{v:L8}{f:List Fx}{h:List Ch}(hs:x.size<=50)(hf:(at_ day (.mk 2 a b n x 0 [] [])).form=true)(he:errE f h=0)(h1:fr<=99999)(hv:¬ day<fr->(x.ev f day).e=0/\(x.ev f day).v=v) :
  flM f h (at_ day (.mk 2 a b n x 0 [] [])) fr 100000 = .ok (if day<fr then [] else payF day a b n v):=by
 obtain⟨h2,h3⟩:=zmx hs hf;have hd:0<=day/\day<=99999:=by simpa [dayB] using h2
 rw [zr4,aO (by omega)];by_cases g:day<fr
 ·rw [aP g,aO (by omega)]
 ·obtain⟨v1,v2⟩:=hv g;rw [aO g,aP (by omega),zmu,aO (by omega),zfd hs h3 he h2,aO (by simp [v1]),v2];rfl
def Uu(d:Deal)(fl:Bool)(p:Per):List Con:=[at_ p.pay (pay d (over d.zb (fixg d.name p.fix) fl) (mulR p.part d.ze).1)]
theorem zlh{n:L8}{z day:Int}{f:List Fx}(hk:(vW f n z).2=true):((fixg n z).ev f day).v=(vW f n z).1/\((fixg n z).ev f day).e=0:=by
 obtain⟨s1,s2⟩:=zn2 n z f day;unfold fixR at s1 s2;rw [hk,aP rfl] at s1 s2;exact⟨s1,s2⟩
end Tm
end Go.Nov
end
section
namespace Go.Nov
open Go.Sx
namespace Ca
def rel(a:Ca)(y:Ex):Ex:=
 if a.extra=[48] then(if a.ratio=[49] then y else Tm.opx 6 [Tm.kon a.ratio,y])
 else Tm.opx 4 [if a.ratio=[49] then y else Tm.opx 6 [Tm.kon a.ratio,y],Tm.kon a.extra]
def onX(a:Ca)(k:Int)(n:L8)(d:Int):Bool:=decide (n=a.name)&&(decide (k=3)||decide (k=2)&&decide (a.date<=d))
mutual
def chg(a:Ca):Ex->Ex
 | .mk k r n d s=>if a.onX k n d=true then a.rel (.mk k [] a.into d []) else .mk k r n d (chgs a s)
def chgs(a:Ca):List Ex->List Ex
 | []=>[]
 | x::l=>chg a x::chgs a l
end
mutual
def adj(a:Ca):Ex->Ex
 | .mk k r n d s=>if a.onX k n d=true then a.rel (.mk k r a.into d s) else .mk k r n d (adjs a s)
def adjs(a:Ca):List Ex->List Ex
 | []=>[]
 | x::l=>adj a x::adjs a l
end
mutual
def whole(f:Ex->Ex):Con->Con
 | .mk k a b n x d l s=>.mk k a b n (f x) d l (qM f s)
def qM(f:Ex->Ex):List Con->List Con
 | []=>[]
 | c::l=>whole f c::qM f l
end
theorem Jp(f:Ex->Ex):∀ l,qM f l=l.map (whole f)
 | []=>by rw [qM]; rfl
 | x::l=>by rw [qM,Jp f l]; rfl
theorem JG(f:Ex->Ex)(c:Con):whole f c = .mk c.kind c.src c.dst c.name (f c.x) c.date c.days (c.sub.map (whole f)):=by
 cases c; rw [whole,Jp]; rfl
end Ca
end Go.Nov
end
section
namespace Go.Nov
open Go.Sx
theorem Yd{k p:Int}(h:p∈q5 k):p≠0:=by
 unfold q5 yK at h;cases e:shpL.find? (λq=>q.1 == k) with
 | none=>rw [e] at h; simp at h
 | some q=>
  rw [e] at h;simp only [Option.map_some,Option.getD_some] at h;have hq:=List.mem_of_find?_eq_some e;have all:∀ q∈shpL,∀ p∈q.2.1,p≠0:=by decide
  exact all q hq p h
theorem Jv{k d:Int}{r n:L8}{ss:List Int}(h:wH k r n d ss≠0):∀ p∈ss,p≠0:=by
 unfold wH at h;split at h
 ·split at h
  ·rename_i h2;rw [h2.2.2.2];exactλp hp=>Yd hp
  ·exact absurd rfl h
 ·split at h
  ·rename_i h2;unfold jk at h2;have:ss=[]:=by simp at h2; exact h2.1
   rw [this]; simp
  ·exact absurd rfl h
theorem xb{k d:Int}{r n:L8}{ss:List Int}(h:wH k r n d ss≠0)(hk:k=3\/k=2):r=[]/\ss=[]:=by
 have hs:qN k=false:=by rcases hk with rfl | rfl<;>decide
 rw [wJ hs] at h;split at h
 ·rename_i h2;unfold jk at h2;rcases hk with rfl | rfl<;>simp at h2
  ·exact⟨h2.2.1.1,h2.1⟩
  ·exact⟨h2.2.1.1,h2.1⟩
 ·exact absurd rfl h
namespace Ca
mutual
theorem zd2(a:Ca):∀ x:Ex,x.z8≠0->adj a x=chg a x
 | .mk k r n d s,h=>by
  rw [Ex.z8] at h;rw [adj,chg];by_cases hh:a.onX k n d=true
  ·rw [aP hh,aP hh]
   have hk:k=3\/k=2:=by
    simp [onX] at hh;rcases hh.2 with h1 | h1
    ·exact .inl h1
    ·exact .inr h1.1
   obtain⟨h1,h2⟩:=xb h hk
   have:s=[]:=by
    cases s with
    | nil=>rfl
    | cons x s=>rw [Ex.qf] at h2; cases h2
   rw [h1,this]
  ·rw [aO hh,aO hh,Kb a s (Jv h)]
theorem Kb(a:Ca):∀ s:List Ex,(∀ p∈Ex.qf s,p≠0)->adjs a s=chgs a s
 | [],_=>by rw [adjs,chgs]
 | x::s,h=>by
  rw [Ex.qf] at h;rw [adjs,chgs,zd2 a x (h _ (by simp)),Kb a s (λp hp=>h p (by simp [hp]))]
end
theorem zje(a:Ca)(y:Ex):(a.rel y).size<=y.size+4/\(a.rel y).z9<=y.z9+a.ratio.length+a.extra.length:=by
 unfold rel;split<;>split<;>(try simp only [Tm.opx,Tm.kon,Ex.size,Ex.zz,Ex.z9,Ex.zY,List.length_nil])<;>omega
mutual
theorem X2(a:Ca):∀ x:Ex,(chg a x).size<=5*x.size/\(chg a x).z9<=x.z9+x.size*(a.into.length+a.ratio.length+a.extra.length)
 | .mk k r n d s=>by
  rw [chg];by_cases hh:a.onX k n d=true
  ·rw [aP hh];have h:=zje a (.mk k [] a.into d []);simp only [Ex.size,Ex.zz,Ex.z9,Ex.zY,List.length_nil] at h ⊢;have hm:a.into.length+a.ratio.length+a.extra.length<=(1+Ex.zz s)*(a.into.length+a.ratio.length+a.extra.length):=Nat.le_mul_of_pos_left _ (by omega);omega
  ·rw [aO hh];have h:=Vh a s;simp only [Ex.size,Ex.z9,bH,Nat.one_mul] at h ⊢;omega
theorem Vh(a:Ca):∀ s:List Ex,Ex.zz (chgs a s)<=5*Ex.zz s/\Ex.zY (chgs a s)<=Ex.zY s+Ex.zz s*(a.into.length+a.ratio.length+a.extra.length)
 | []=>by rw [chgs]; simp [Ex.zz,Ex.zY]
 | x::s=>by
  have h1:=X2 a x;have h2:=Vh a s;rw [chgs];simp only [Ex.zz,Ex.zY,bH] at h1 h2 ⊢;omega
end
theorem zc4{k d:Int}{s t n:L8}{x:Ex}{l:List Int}{m:Nat}(h:vG k s t n x d l m=true):jf x=true\/x.z8≠0:=by
 have hn:numX x=true->x.z8≠0:=λh=>by simp [numX] at h; omega
 have ht:truX x=true->x.z8≠0:=λh=>by simp [truX] at h; omega
 unfold vG at h
 repeat' split at h
 all_goals simp only [bA,Bool.false_eq_true] at h
 all_goals first
  | exact h.elim
  | exact .inl h.2
  | exact .inr (hn h.2)
  | exact .inr (ht h.2)
  | exact .inr (hn h.1.1.2)
theorem ze8(a:Ca){x:Ex}(h:jf x=true\/x.z8≠0):adj a x=chg a x:=by
 rcases h with h | h
 ·obtain⟨k,r,n,d,s⟩:=x;simp [jf,Ex.kind,Ex.rat,Ex.name,Ex.date,Ex.sub] at h;obtain⟨h0,_,_,_,rfl⟩:=h;obtain rfl:k=0:=aB h0;rw [adj,chg,adjs,chgs];have:a.onX 0 n d=false:=by simp [onX]
  rw [this]; simp
 ·exact zd2 a x h
mutual
theorem zdi(a:Ca):∀ c:Con,c.form=true->whole a.adj c=whole a.chg c
 | .mk k s t n x d l u,h=>by
  rw [Con.form,bA] at h;rw [whole,whole,ze8 a (zc4 h.1),JB a u h.2]
theorem JB(a:Ca):∀ u:List Con,Con.vE u=true->qM a.adj u=qM a.chg u
 | [],_=>by rw [qM,qM]
 | c::u,h=>by
  rw [Con.vE,bA] at h;rw [qM,qM,zdi a c h.1,JB a u h.2]
end
mutual
theorem xu(a:Ca):∀ c:Con,(whole a.chg c).nodes=c.nodes/\(whole a.chg c).big<=5*c.big+c.big*(a.into.length+a.ratio.length+a.extra.length)
 | .mk k s t n x d l u=>by
  have h1:=X2 a x;have h2:=Qp a u;rw [whole];simp only [Con.nodes,Con.big,bH] at h1 h2 ⊢;omega
theorem Qp(a:Ca):∀ u:List Con,Con.zu (qM a.chg u)=Con.zu u/\Con.bigs (qM a.chg u)<=5*Con.bigs u+Con.bigs u*(a.into.length+a.ratio.length+a.extra.length)
 | []=>by rw [qM]; simp [Con.zu,Con.bigs]
 | c::u=>by
  have h1:=xu a c;have h2:=Qp a u;rw [qM];simp only [Con.zu,Con.bigs,bH] at h1 h2 ⊢;omega
end
def conv(a:Ca)(c:Con):Con×Int:=if a.ok=true then(if c.errC=0 then(if(whole a.chg c).errC=0 then(whole a.chg c,0) else(Con.nil,(whole a.chg c).errC)) else(Con.nil,c.errC)) else(Con.nil,8)
end Ca
end Go.Nov
end
section
namespace Go.Nov
open Go.Sx
namespace Ca
def more(a:Ca):Nat:=(if a.ratio=[49] then 0 else 2)+(if a.extra=[48] then 0 else 2)
mutual
def grow(a:Ca):Ex->Nat
 | .mk k r n d s=>if a.onX k n d=true then a.more else YH a s
def YH(a:Ca):List Ex->Nat
 | []=>0
 | x::l=>grow a x+YH a l
end
theorem XZ{a:Ca}{k d:Int}{n:L8}(h:a.onX k n d=true):k=3\/k=2:=by
 simp [onX] at h;rcases h.2 with h1 | h1
 ·exact .inl h1
 ·exact .inr h1.1
mutual
theorem zkh(a:Ca):∀ x:Ex,x.z8≠0->(chg a x).size=x.size+grow a x
 | .mk k r n d s,h=>by
  rw [Ex.z8] at h;rw [chg,grow];by_cases hh:a.onX k n d=true
  ·rw [aP hh,aP hh];obtain⟨_,h2⟩:=xb h (XZ hh)
   have:s=[]:=by
    cases s with
    | nil=>rfl
    | cons x s=>rw [Ex.qf] at h2; cases h2
   subst this;unfold rel more;split<;>split<;>simp [Tm.opx,Tm.kon,Ex.size,Ex.zz]
  ·rw [aO hh,aO hh];simp only [Ex.size];rw [WW a s (Jv h)];omega
theorem WW(a:Ca):∀ s:List Ex,(∀ p∈Ex.qf s,p≠0)->Ex.zz (chgs a s)=Ex.zz s+YH a s
 | [],_=>by rw [chgs,YH]; rfl
 | x::s,h=>by
  rw [Ex.qf] at h;rw [chgs,YH];simp only [Ex.zz];rw [zkh a x (h _ (by simp)),WW a s (λp hp=>h p (by simp [hp]))];omega
end
end Ca
end Go.Nov
end
section
namespace Go.Nov
open Go.Sx
namespace Ex
mutual
def men(a:L8):Ex->Bool
 | mk _ _ n _ s=>decide (n=a)||mens a s
def mens(a:L8):List Ex->Bool
 | []=>false
 | x::l=>men a x||mens a l
end
mutual
def fixX(day:Int):Ex->Ex
 | mk k r n d s=>mk (if k=3 then 2 else k) r n (if k=3 then day else d) (fixs day s)
def fixs(day:Int):List Ex->List Ex
 | []=>[]
 | x::l=>fixX day x::fixs day l
end
mutual
theorem zgq(day:Int):∀ x:Ex,(fixX day x).size=x.size
 | mk k r n d s=>by rw [fixX,size,size,Vl day s]
theorem Vl(day:Int):∀ s:List Ex,zz (fixs day s)=zz s
 | []=>rfl
 | x::l=>by rw [fixs,zz,zz,zgq day x,Vl day l]
end
mutual
theorem zdk(day:Int):∀ x:Ex,(fixX day x).depth=x.depth
 | mk k r n d s=>by rw [fixX,depth,depth,Jy day s]
theorem Jy(day:Int):∀ s:List Ex,zB (fixs day s)=zB s
 | []=>rfl
 | x::l=>by rw [fixs,zB,zB,zdk day x,Jy day l]
end
mutual
theorem zfz(day:Int):∀ x:Ex,(fixX day x).z9=x.z9
 | mk k r n d s=>by rw [fixX,z9,z9,J4 day s]
theorem J4(day:Int):∀ s:List Ex,zY (fixs day s)=zY s
 | []=>rfl
 | x::l=>by rw [fixs,zY,zY,zfz day x,J4 day l]
end
theorem zjg{k v:Int}(hk:qN k=true)(h:v∈q5 k):v≠0:=by
 have h2:(4<=k/\k<=9)\/(11<=k/\k<=15):=by
  by_cases h1:4<=k/\k<=9
  ·exact .inl h1
  ·by_cases h2:11<=k/\k<=15
   ·exact .inr h2
   ·rw [zax h1 h2] at hk; cases hk
 have h3:k=4\/k=5\/k=6\/k=7\/k=8\/k=9\/k=11\/k=12\/k=13\/k=14\/k=15:=by omega
 rcases h3 with rfl | rfl | rfl | rfl | rfl | rfl | rfl | rfl | rfl | rfl | rfl<;>(revert v; decide)
mutual
theorem zib{day:Int}(hd:dayB day=true):∀ x:Ex,x.z8≠0->(fixX day x).z8=x.z8
 | mk k r n d s,h=>by
  rw [fixX,z8,z8];rw [z8] at h;by_cases hk:qN k=true
  ·have k3:k≠3:=λg=>by rw [g] at hk; cases hk
   rw [aO k3,aO k3]
   have hs:qf s=q5 k:=by
    unfold wH at h;rw [aP hk] at h;by_cases g:r=[]/\n=[]/\d=0/\qf s=q5 k
    ·exact g.2.2.2
    ·rw [aO g] at h; exact absurd rfl h
   rw [VE hd s λv hv=>zjg hk (by rw [<- hs]; exact hv)]
  ·have hk:qN k=false:=by simpa using hk
   rw [wJ hk] at h ⊢;by_cases g:jk k r n d (qf s).length=true
   ·have hl:(qf s).length=0:=by
     unfold jk at g;simp only [bA,aK] at g;exact g.1
    have hs:s=[]:=aU.1 (by rw [<- jA s]; exact hl);subst hs;by_cases k3:k=3
    ·rw [aP k3,aP k3,aP g];subst k3;rw [wJ (by rfl),aP];unfold jk at g ⊢;simp only [bA,aK,show ¬ (3:Int)=1 by decide,show ¬ (3:Int)=2 by decide,show ¬ (2:Int)=1 by decide,if_false,if_true] at g ⊢;exact⟨rfl,⟨g.2.1.1,g.2.1.2⟩,hd⟩
    ·rw [aO k3,aO k3,fixs,wJ hk]
   ·rw [aO g] at h; exact absurd rfl h
theorem VE{day:Int}(hd:dayB day=true):∀ s:List Ex,(∀ v∈qf s,v≠0)->qf (fixs day s)=qf s
 | [],_=>rfl
 | x::l,h=>by
  rw [fixs,qf,qf];rw [qf] at h;rw [zib hd x (h _ (by simp)),VE hd l λv hv=>h v (by simp [hv])]
end
theorem zna(f:List Fx)(day k:Int)(r n:L8)(d:Int)(l:List Ev):evN f day (if k=3 then 2 else k) r n (if k=3 then day else d) l=evN f day k r n d l:=by
 by_cases k3:k=3
 ·subst k3;rw [aP rfl,aP rfl];rfl
 ·rw [aO k3,aO k3]
mutual
theorem zlh(f:List Fx)(day:Int):∀ x:Ex,(fixX day x).ev f day=x.ev f day
 | mk k r n d s=>by rw [fixX,ev,ev,zcl f day s,zna]
theorem zcl(f:List Fx)(day:Int):∀ s:List Ex,evs f day (fixs day s)=evs f day s
 | []=>rfl
 | x::l=>by rw [fixs,evs,evs,zlh f day x,zcl f day l]
end
mutual
theorem zqm{f g:List Fx}{a:L8}(hf:∀ (n:L8) (d:Int),n≠a->fixR g n d=fixR f n d)(day:Int):∀ x:Ex,x.men a=false->x.ev g day=x.ev f day
 | mk k r n d s,h=>by
  rw [men,Bool.or_eq_false_iff] at h;have hn:n≠a:=aC h.1;rw [ev,ev,zb9 hf day s h.2];unfold evN valN;rw [hf n d hn,hf n day hn]
theorem zb9{f g:List Fx}{a:L8}(hf:∀ (n:L8) (d:Int),n≠a->fixR g n d=fixR f n d)(day:Int):∀ s:List Ex,mens a s=false->evs g day s=evs f day s
 | [],_=>rfl
 | x::l,h=>by
  rw [mens,Bool.or_eq_false_iff] at h;rw [evs,evs,zqm hf day x h.1,zb9 hf day l h.2]
end
end Ex
end Go.Nov
end
section
namespace Go.Nov
open Go.Sx
namespace Ca
def isNone(a:Ca):Prop:=a.ratio=[49]/\a.extra=[48]/\a.into=a.name
mutual
theorem Xw{a:Ca}(h:a.isNone):∀ x:Ex,x.z8≠0->chg a x=x
 | .mk k r n d s,hs=>by
  rw [Ex.z8] at hs;rw [chg];by_cases hh:a.onX k n d=true
  ·rw [aP hh];obtain⟨h1,h2⟩:=xb hs (XZ hh)
   have h3:s=[]:=by
    cases s with
    | nil=>rfl
    | cons x s=>rw [Ex.qf] at h2; cases h2
   have h4:n=a.name:=by simp [onX] at hh; exact hh.1
   unfold rel;rw [aP h.2.1,aP h.1,h.2.2,h1,h3,h4]
  ·rw [aO hh,Kf h s (Jv hs)]
theorem Kf{a:Ca}(h:a.isNone):∀ s:List Ex,(∀ p∈Ex.qf s,p≠0)->chgs a s=s
 | [],_=>by rw [chgs]
 | x::s,hs=>by
  rw [Ex.qf] at hs;rw [chgs,Xw h x (hs _ (by simp)),Kf h s (λp hp=>hs p (by simp [hp]))]
end
theorem zk9{a:Ca}{x:Ex}(h:jf x=true):chg a x=x:=by
 obtain⟨k,r,n,d,s⟩:=x;simp [jf,Ex.kind,Ex.rat,Ex.name,Ex.date,Ex.sub] at h;obtain⟨h0,_,_,_,rfl⟩:=h;obtain rfl:k=0:=aB h0;rw [chg,chgs];have:a.onX 0 n d=false:=by simp [onX]
 rw [this]; simp
mutual
theorem U4{a:Ca}(h:a.isNone):∀ c:Con,c.form=true->whole a.chg c=c
 | .mk k s t n x d l u,hf=>by
  rw [Con.form,bA] at hf;rw [whole,Qc h u hf.2];rcases zc4 hf.1 with hx | hx
  ·rw [zk9 hx]
  ·rw [Xw h x hx]
theorem Qc{a:Ca}(h:a.isNone):∀ u:List Con,Con.vE u=true->qM a.chg u=u
 | [],_=>by rw [qM]
 | c::u,hf=>by
  rw [Con.vE,bA] at hf;rw [qM,U4 h c hf.1,Qc h u hf.2]
end
mutual
theorem zba{a:Ca} : ∀ x:Ex,x.men a.name=false->chg a x=x
 | .mk k r n d s,h=>by
  rw [Ex.men,Bool.or_eq_false_iff] at h;have h1:¬ n=a.name:=aC h.1;rw [chg,aO (by simp [onX,h1]),Xx s h.2]
theorem Xx{a:Ca} : ∀ s:List Ex,Ex.mens a.name s=false->chgs a s=s
 | [],_=>by rw [chgs]
 | x::s,h=>by
  rw [Ex.mens,Bool.or_eq_false_iff] at h;rw [chgs,zba x h.1,Xx s h.2]
end
end Ca
namespace Con
mutual
def men(a:L8):Con->Bool
 | mk _ _ _ _ x _ _ s=>x.men a||mens a s
def mens(a:L8):List Con->Bool
 | []=>false
 | c::l=>men a c||mens a l
end
end Con
namespace Ca
mutual
theorem zf1{a:Ca} : ∀ c:Con,c.men a.name=false->whole a.chg c=c
 | .mk k s t n x d l u,h=>by
  rw [Con.men,Bool.or_eq_false_iff] at h;rw [whole,zba x h.1,QY u h.2]
theorem QY{a:Ca} : ∀ u:List Con,Con.mens a.name u=false->qM a.chg u=u
 | [],_=>by rw [qM]
 | c::u,h=>by
  rw [Con.mens,Bool.or_eq_false_iff] at h;rw [qM,zf1 c h.1,QY u h.2]
end
end Ca
end Go.Nov
end
section
namespace Go.Nov
open Go.Sx
namespace Tm
def turn(d:Deal):Deal:=⟨d.short,d.long,d.ccy,d.name,d.zb,d.ze⟩
end Tm
end Go.Nov
end
section
set_option maxRecDepth 100000
open Go Go.Sx Go.Proofs Go.Nov
namespace Go.Proofs.Tryz
attribute [local simp] eqKV eqA eqA0 eqH eqB eqL eqL0
namespace Tm
end Tm
noncomputable def GAL:=tb uT (tb zjy tz)
end Go.Proofs.Tryz
end
section
namespace Go.Nov
open Go.Sx
inductive AllX where
 | few (l:List Con)
 | many (n:Nat) (g:Nat->Nat->AV)
def AllX.len:AllX->Nat
 | few l=>l.length
 | many n _=>n
def AllX.gen:AllX->Nat->Nat->AV
 | few l=>Con.conG l
 | many _ g=>g
def AllX.ok:AllX->Prop
 | few l=>l.length<=500/\(Tm.whole l).big<5000000/\(Tm.whole l).nodes<=1000000
 | many n _=>500<n/\n<2^40
def AllX.con:AllX->Con
 | few l=>Tm.out (Tm.whole l).errC (Tm.whole l)
 | many _ _=>Tm.zero
def AllX.err:AllX->Int
 | few l=>(Tm.whole l).errC
 | many _ _=>4
end Go.Nov
end
