/- The law returns true for every input, and each argument reads afterwards as it read before; no condition. -/
import Derived.Test.YtpnllbdffdpoaaaGreatDoorSxc
import Derived.Test.YtpnllbdffdpoaaaGreatDoorSxb
import Derived.Test.YtpnllbdffdpoaaaGreatDoorSxi
import Derived.DefersIn
import Derived.SizedLaws
import Derived.ChangeArms
import Derived.Deep.Slices
import Derived.Carry
import Derived.LaidMore
import Derived.WideKeyElems2
import Derived.ProofKit
import Derived.OpenShut
import Derived.ReadAgain
import Derived.Test.YtpnllbdffdpoaaaGreatDoorRows
import Derived.MakeChecks
import Derived.Test.YtpnllbdffdpoaaaGreatDoorCards
import Derived.Test.YtpnllbdffdpoaaaGreatDoorTie
import Derived.Stop.Joined
import Derived.SevenTiedAt
set_option linter.unusedVariables false
set_option linter.unusedSimpArgs false
set_option linter.unusedSectionVars false
section
set_option maxRecDepth 100000
open Go Go.Sx Go.Proofs Go.Nov
namespace Go.Proofs.Tryz
attribute [local simp] eqKV eqA eqA0 eqH eqB eqL eqL0
structure FI where
 c:Con
 day:Int
 fin:Int
 f:List Fx
 h:List Ch
def yT:TypeId:=180
def FI.hC(k:FI):Heap:=[.box [fxS k.f,chS k.h],.box k.c.ze]
def FI.hH(k:FI):Heap:=[.box k.c.ze,.box [fxS k.f,chS k.h]]
def FI.hV(k:FI):Heap:=[.box k.c.ze,.box [.i k.day],.box [fxS k.f,chS k.h]]
def FI.heap(k:FI):Heap:=[.box k.c.ze,.box [.i k.day],.box [.i k.fin],.box [fxS k.f,chS k.h]]
def qy{α:Type}(Xp:List PanicEntry->Prop)(m:Except Int α):Prop:=∀ e,m = .error e->Xp (Zg yT e)
def zjz(Xp:List PanicEntry->Prop):Ctr:=ctrS (λ(x:Bool×Int)=>[.bool x.1,.i x.2]) (λ_=>[]) (λx=>x.2≠0->Xp (Zg yT x.2)) (λx=>decide (x.2=0)) (λx=>(.bool x.1,[]))
def UK(Xp:List PanicEntry->Prop):Ctr:=ctrS (λ(x:L8×Int)=>[.str x.1,.i x.2]) (λ_=>[]) (λx=>x.2≠0->Xp (Zg yT x.2)) (λx=>decide (x.2=0)) (λx=>(.str x.1,[]))
theorem zds(Xp:List PanicEntry->Prop):zy Xp Tryz.prog 119 (zjz Xp):=
 Yt (fn:=Tryz.f119) (c:=Tryz.f119.body.getD .skip) rfl rfl rfl (T:=yT) (λb:Bool=>.bool b) (λb=>.bool b) (λ_ _ _ _ _=>by simp [Rep]) λx e w=>Tryz.zg5 x e w
theorem V9(Xp:List PanicEntry->Prop):zy Xp Tryz.prog 122 (UK Xp):=
 Yt (fn:=Tryz.f122) (c:=Tryz.f122.body.getD .skip) rfl rfl rfl (T:=yT) (λs:L8=>.str s) (λs=>.string ⟨s.toArray⟩) (λ_ _ _ _ _=>by simp [Rep]) λx e w=>Tryz.zfu ⟨x.toArray⟩ e w
theorem FI.zcy(k:FI):eqH (expH k.hC [0,1]) k.hC:=by
 simp [expH,expB,exp1,exp0,ren0,FI.hC,zG,Con.ze,Con.qH,fxS,chS,Ex.exS,Con.dayS,Con.conS,za]
theorem FI.zsh(k:FI):eqH (expH k.hH [0,1]) k.hH:=by
 simp [expH,expB,exp1,exp0,ren0,FI.hH,zG,Con.ze,Con.qH,fxS,chS,Ex.exS,Con.dayS,Con.conS,za]
theorem FI.zru(k:FI):eqH (expH k.hV [0,1,2]) k.hV:=by
 simp [expH,expB,exp1,exp0,ren0,FI.hV,zG,Con.ze,Con.qH,fxS,chS,Ex.exS,Con.dayS,Con.conS,za]
def Xz:Ctr:=ctrT false false (λp:FI×Int=>[.i p.2,.ptr 0 0,.ptr 1 0]) (λp=>p.1.hC) (λp=>p.1.h.length<2^40) (λ_ (_:Unit)=>True) (λp _=>(.bool (qg p.1.h p.1.c.src p.1.c.name p.2),p.1.hC))
noncomputable def GFc:=tb zf5 tz
theorem Wx:zd Tryz.prog 116 Xz:=by
 refine z7 (fn:=Tryz.f116) (c:=Tryz.f116.body.getD .skip) rfl rfl rfl (λh=>by cases h) λp hp O w0 I0 Q hl0 hq=> ?_
 obtain⟨⟨c,day,fin,f,h⟩,d⟩:=p;replace hq:=hq () trivial;simp only at hp hq;refine zb.n GFc.h [] (.ex (λ(x:(List Fx×List Ch)×L8×L8×Int)=>eqL [.agg [.sl f.length 3 (fxG f),.sl h.length 4 (chG h)],.str c.src,.str c.name,.i d] [.agg [.sl x.1.1.length 3 (fxG x.1.1),.sl x.1.2.length 4 (chG x.1.2)],.str x.2.1,.str x.2.2.1,.i x.2.2.2]/\x.1.2.length<1099511627776) λn=>.all (λ(r:Bool)=>r=qg n.1.2 n.2.1 n.2.2.1 n.2.2.2) λn=>.R [.bool n] [.box [.sl f.length 3 (fxG f),.sl h.length 4 (chG h)],.box c.ze]) ?_;simp only [Tree.holds,zf];refine⟨((f,h),(c.src,c.name,d)),⟨⟨⟨⟨rfl,rfl,λ_ _ _ _=>rfl⟩,⟨rfl,rfl,λ_ _ _ _=>rfl⟩,trivial⟩,rfl,rfl,⟨rfl,rfl⟩,trivial⟩,hp⟩,⟨_,rfl⟩,?_⟩;rintro _ rfl;exact RetR.xP [0,1] rfl rfl (by show ∀ j,j<2->_; decide) rfl hq (LeA.refl _) (FI.zcy ⟨c,day,fin,f,h⟩) rfl
def zao(Xp:List PanicEntry->Prop):Ctr:=ctrS (λp:FI×Int=>[.i p.2,.ptr 0 0,.ptr 1 0]) (λp=>p.1.hH) (λp=>VI.ok ⟨p.1.c.x,p.2,p.1.f,p.1.h⟩/\qy Xp (holM p.1.c.x p.2 p.1.f p.1.h)) (λp=>okM (holM p.1.c.x p.2 p.1.f p.1.h)) (λp=>(.bool (getM false (holM p.1.c.x p.2 p.1.f p.1.h)),p.1.hH))
noncomputable def GFh(Xp:List PanicEntry->Prop):Nat->Option Ctr:=λf=>if f=119 then some (zjz Xp) else if f=120 then some zg8 else none
theorem zpt(Xp:List PanicEntry->Prop):∀ f c,GFh Xp f=some c->zy Xp Tryz.prog f c:=vF (zds Xp) (vF zg4.x yw)
abbrev q58(A:List AV)(x:VI):Prop:=eqL A [x.x.exA,.i x.day,.agg [.sl x.f.length 3 (fxG x.f),.sl x.c.length 4 (chG x.c)]]/\VI.ok x
theorem VV(Xp:List PanicEntry->Prop):zy Xp Tryz.prog 118 (zao Xp):=by
 refine yh (fn:=Tryz.f118) (c:=Tryz.f118.body.getD .skip) rfl rfl rfl λp hp O w0 I0 Q hl0 hq=> ?_
 obtain⟨⟨c,day,fin,f,h⟩,d⟩:=p;obtain⟨h1,h2⟩:=hp;simp only at h1 h2 hq;refine zb.runX hmix (zpt Xp) [] 400 (T:=.ex (q58 [(Ex.exA c.x),.i d,.agg [.sl f.length 3 (fxG f),.sl h.length 4 (chG h)]]) λn=>.all (λ(r:Bool×Int)=>r=xI n.x n.day n.f n.c) λn=>.ex (λ(x:Bool×Int)=>eqL [.bool n.1,.i n.2] [.bool x.1,.i x.2]/\eqH [] []/\0=0/\(x.2≠0->Xp (Zg yT x.2))) λn=>.D (n.2=0) (.R [.bool n.1] [.box c.ze,.box [.sl f.length 3 (fxG f),.sl h.length 4 (chG h)]]) (.leaf zY.gone)) (by kernel_rfl) ?_;simp only [q58,Tree.holds,zf];refine⟨⟨c.x,d,f,h⟩,⟨⟨wW c.x,⟨rfl,rfl⟩,⟨⟨rfl,rfl,λ_ _ _ _=>rfl⟩,⟨rfl,rfl,λ_ _ _ _=>rfl⟩,trivial⟩,trivial⟩,h1⟩,⟨_,rfl⟩,?_⟩;rintro _ rfl;refine⟨xI c.x d f h,⟨⟨rfl,⟨rfl,rfl⟩,trivial⟩,trivial,trivial,λhe=>h2 _ (by unfold holM; rw [if_neg he])⟩,λhe=> ?_,λ_=>trivial⟩;have he:=of_decide_eq_true he;have hm:holM c.x d f h = .ok (xI c.x d f h).1:=by unfold holM; rw [if_pos he]
 rw [hm] at hq;exact RetR.xP [0,1] rfl rfl (by show ∀ j,j<2->_; decide) rfl (hq rfl) (LeA.refl _) (FI.zsh ⟨c,day,fin,f,h⟩) rfl
def zl9(Xp:List PanicEntry->Prop):Ctr:=ctrS (λk:FI=>[.ptr 0 0,.ptr 1 0,.ptr 2 0]) (λk=>k.hV) (λk=>VI.ok ⟨k.c.x,k.day,k.f,k.h⟩/\qy Xp (valM k.c.x k.day k.f k.h)) (λk=>okM (valM k.c.x k.day k.f k.h)) (λk=>(.str (getM [] (valM k.c.x k.day k.f k.h)),k.hV))
noncomputable def GFv(Xp:List PanicEntry->Prop):Nat->Option Ctr:=λf=>if f=122 then some (UK Xp) else if f=123 then some zk1 else none
theorem zqz(Xp:List PanicEntry->Prop):∀ f c,GFv Xp f=some c->zy Xp Tryz.prog f c:=vF (V9 Xp) (vF zgz.x yw)
theorem zdg(Xp:List PanicEntry->Prop):zy Xp Tryz.prog 121 (zl9 Xp):=by
 refine yh (fn:=Tryz.f121) (c:=Tryz.f121.body.getD .skip) rfl rfl rfl λp hp O w0 I0 Q hl0 hq=> ?_
 obtain⟨c,day,fin,f,h⟩:=p;obtain⟨h1,h2⟩:=hp;simp only at h1 h2 hq;refine zb.runX hmix (zqz Xp) [] 400 (T:=.ex (q58 [(Ex.exA c.x),.i day,.agg [.sl f.length 3 (fxG f),.sl h.length 4 (chG h)]]) λn=>.all (λ(r:L8×Int)=>r=wx n.x n.day n.f n.c) λn=>.ex (λ(x:L8×Int)=>eqL [.str n.1,.i n.2] [.str x.1,.i x.2]/\eqH [] []/\0=0/\(x.2≠0->Xp (Zg yT x.2))) λn=>.D (n.2=0) (.R [.str n.1] [.box c.ze,.box [.i day],.box [.sl f.length 3 (fxG f),.sl h.length 4 (chG h)]]) (.leaf zY.gone)) (by kernel_rfl) ?_;simp only [q58,Tree.holds,zf];refine⟨⟨c.x,day,f,h⟩,⟨⟨wW c.x,⟨rfl,rfl⟩,⟨⟨rfl,rfl,λ_ _ _ _=>rfl⟩,⟨rfl,rfl,λ_ _ _ _=>rfl⟩,trivial⟩,trivial⟩,h1⟩,⟨_,rfl⟩,?_⟩;rintro _ rfl;refine⟨wx c.x day f h,⟨⟨rfl,⟨rfl,rfl⟩,trivial⟩,trivial,trivial,λhe=>h2 _ (by unfold valM; rw [if_neg he])⟩,λhe=> ?_,λ_=>trivial⟩;have he:=of_decide_eq_true he;have hm:valM c.x day f h = .ok (wx c.x day f h).1:=by unfold valM; rw [if_pos he]
 rw [hm] at hq;exact RetR.xP [0,1,2] rfl rfl (by show ∀ j,j<3->_; decide) rfl (hq rfl) (LeA.refl _) (FI.zru ⟨c,day,fin,f,h⟩) rfl
noncomputable def K126:List Go.Sx.Item:=[.code (Tryz.f126.body.getD .skip)]
def holT(k:FI):Int->Except Int Bool:=λt=>holM k.c.x t k.f k.h
def Kr(Xp:List PanicEntry->Prop):Ctr:=ctrS (λk:FI=>[k.c.conA,.i k.day,.i k.fin,.fn 118 [] [.ptr 0 0,.ptr 1 0]]) (λk=>k.hH) (λk=>(∀ d,VI.ok ⟨k.c.x,d,k.f,k.h⟩)/\k.c.days.length<2^40/\qy Xp (firstM (holT k) k.day k.fin k.c.days)) (λk=>okM (firstM (holT k) k.day k.fin k.c.days)) (λk=>(.i (getM 0 (firstM (holT k) k.day k.fin k.c.days)),k.hH))
def SFh(k:FI)(i:Nat):KV:=[(1,.i k.day),(2,.i k.fin),(3,.fn 118 [] [.ptr 0 0,.ptr 1 0]),(12,Con.dayS k.c.days),(13,.i (k.c.days.length:Int)),(14,.i (i:Int)),Z 25,Z 26,Z 27]
def HFh(k:FI):Heap:=[.box k.c.ze,.box [fxS k.f,chS k.h],.box k.c.ze]
noncomputable def GFf(Xp:List PanicEntry->Prop):Nat->Option Ctr:=λf=>if f=118 then some (zao Xp) else none
theorem zkc(Xp:List PanicEntry->Prop):∀ f c,GFf Xp f=some c->zy Xp Tryz.prog f c:=vF (VV Xp) yw
theorem JR{T:Int->Except Int Bool}{day fin d:Int}{l:List Int}(h1:fin<=d):firstM T day fin (d::l) = .ok fin:=by rw [firstM,if_pos h1]
theorem U6{T:Int->Except Int Bool}{day fin d e:Int}{l:List Int}(h1:¬ fin<=d)(h2:day<=d)(h:T d = .error e):firstM T day fin (d::l) = .error e:=by rw [firstM,if_neg h1,if_pos h2,h]
theorem We{T:Int->Except Int Bool}{day fin d:Int}{l:List Int}(h1:¬ fin<=d)(h2:day<=d)(h:T d = .ok true):firstM T day fin (d::l) = .ok d:=by rw [firstM,if_neg h1,if_pos h2,h]
theorem Q4{T:Int->Except Int Bool}{day fin d:Int}{l:List Int}(h1:¬ fin<=d)(h2:day<=d)(h:T d = .ok false):firstM T day fin (d::l)=firstM T day fin l:=by rw [firstM,if_neg h1,if_pos h2,h]
theorem JN{T:Int->Except Int Bool}{day fin d:Int}{l:List Int}(h1:¬ fin<=d)(h2:¬ day<=d):firstM T day fin (d::l)=firstM T day fin l:=by rw [firstM,if_neg h1,if_neg h2]
theorem qN{α:Type}{d:α}{m:Except Int α}(h:okM m=true):m = .ok (getM d m):=by cases m with
 | ok a=>rfl
 | error e=>cases h
theorem FI.zs7(k:FI):eqH (expH [.box k.c.ze,.box [fxS k.f,chS k.h],.box k.c.ze] [0,1]) k.hH:=by
 simp [expH,expB,exp1,exp0,ren0,FI.hH,zG,Con.ze,Con.qH,fxS,chS,Ex.exS,Con.dayS,Con.conS,za]
theorem FI.h2(k:FI):eqH [.box k.c.ze,.box [fxS k.f,chS k.h]] [.box k.c.ze,.box [fxS k.f,chS k.h]]:=by
 simp [Con.ze,Con.qH,fxS,chS,Ex.exS,Con.dayS,Con.conS,za]
theorem FI.h5(k:FI):eqH [.box k.c.ze,.box [fxS k.f,chS k.h],.box k.c.ze] (HFh k):=by
 simp [HFh,Con.ze,Con.qH,fxS,chS,Ex.exS,Con.dayS,Con.conS,za]
theorem zf7(Xp:List PanicEntry->Prop):zy Xp Tryz.prog 126 (Kr Xp):=by
 refine yh (fn:=Tryz.f126) (c:=Tryz.f126.body.getD .skip) rfl rfl rfl λp hp O w0 I0 Q hl0 hq=> ?_
 obtain⟨c,day,fin,f,h⟩:=p;obtain⟨h1,h2,h3⟩:=hp;simp only at h1 h2 h3 hq;refine zb.runX hmix (zkc Xp) [1,2,3,12,13,14,25,26,27] 400 (T:=.leaf (.loop (lps K126 0).1 (lps K126 0).2 [(1,.i day),(2,.i fin),(3,.fn 118 [] [.ptr 0 0,.ptr 1 0]),(12,.sl c.days.length 1 (Con.dayG c.days)),(13,.i c.days.length),(14,.i 0),Z 25,Z 26,Z 27] [.box c.ze,.box [.sl f.length 3 (fxG f),.sl h.length 4 (chG h)],.box c.ze])) (by kernel_rfl) ?_;simp only [Tree.holds,zf,inR,lo,hi,Int.toNat_natCast];refine zb.loop (ι:={i:Nat // i<=c.days.length/\firstM (holT ⟨c,day,fin,f,h⟩) day fin (c.days.drop i)=firstM (holT ⟨c,day,fin,f,h⟩) day fin c.days}) (λi=>SFh ⟨c,day,fin,f,h⟩ i.1) (λ_=>HFh ⟨c,day,fin,f,h⟩) (λi=>c.days.length - i.1) ⟨0,Nat.zero_le _,rfl⟩ 0 ?_ ?_ (by kernel_rfl)
 ·exact⟨by simp [SFh,Con.dayS,za],FI.h5 ⟨c,day,fin,f,h⟩,by kernel_rfl,by show 2<=3; decide⟩
 ·rintro⟨i,hil,hi⟩;refine zb.runX hmix (zkc Xp) [1,2,3,12,13,14,25,26,27] 400 (T:=let v6:=inR .i64 (i+1);let v5:=List.getD c.days (i:Int).toNat (0:Int);let v4:=day<=List.getD c.days (i:Int).toNat (0:Int);let v1:List Blk:=[.box c.ze,.box [.sl f.length 3 (fxG f),.sl h.length 4 (chG h)],.box c.ze];.D ((i:Int)<(c.days.length:Int)) (.side ((0:Int)<=i/\(i:Int)<(c.days.length:Int)) (.D (fin<=List.getD c.days (i:Int).toNat (0:Int)) (.R [.i fin] v1) (.ite (decide v4 == true) (.ex (λ(x:FI×Int)=>eqL [.i v5,.ptr 0 0,.ptr 1 0] [.i x.2,.ptr 0 0,.ptr 1 0]/\eqH [.box c.ze,.box [.sl f.length 3 (fxG f),.sl h.length 4 (chG h)]] [.box x.1.c.ze,.box [.sl x.1.f.length 3 (fxG x.1.f),.sl x.1.h.length 4 (chG x.1.h)]]/\2=2/\VI.ok { x:=Con.x x.1.c,day:=x.2,f:=FI.f x.1,c:=FI.h x.1 } /\ qy Xp (holM (Con.x x.1.c) x.2 x.1.f x.1.h)) λn=>let v3:=holM (Con.x n.1.c) n.2 n.1.f n.1.h;let v2:List Blk:=[.box n.1.c.ze,.box [.sl n.1.f.length 3 (fxG n.1.f),.sl n.1.h.length 4 (chG n.1.h)],.box c.ze];.ite (okM v3) (.ite (bif decide v4 then getM false v3 else false) (.R [.i v5] v2) (.side v6 (.leaf (.back 0 [(1,.i day),(2,.i fin),(3,.fn 118 [] [.ptr 0 0,.ptr 1 0]),(12,.sl c.days.length 1 (Con.dayG c.days)),(13,.i c.days.length),(14,.i (i+1)),Z 25,Z 26,(27,.bool (getM false v3))] v2)))) (.leaf zY.gone)) (.ite (bif decide v4 then false else false) (.R [.i v5] v1) (.side v6 (.leaf (.back 0 [(1,.i day),(2,.i fin),(3,.fn 118 [] [.ptr 0 0,.ptr 1 0]),(12,.sl c.days.length 1 (Con.dayG c.days)),(13,.i c.days.length),(14,.i (i+1)),Z 25,Z 26,Z 27] v1))))))) (.R [.i fin] v1)) (by kernel_rfl) ?_;simp only [Tree.holds,zf,inR,lo,hi,Int.toNat_natCast]
  have hRet:∀ e:Int,firstM (holT ⟨c,day,fin,f,h⟩) day fin c.days = .ok e->RetR (Kr Xp) (FI.hH ⟨c,day,fin,f,h⟩).length Q [.i e] [.box c.ze,.box [fxS f,chS h],.box c.ze]:=by
   intro e he;rw [he] at hq;exact RetR.xP [0,1] rfl rfl (by show ∀ j,j<2->_; decide) rfl (hq rfl) (LeA.refl _) (FI.zs7 ⟨c,day,fin,f,h⟩) rfl
  refine⟨λhlt=> ?_,λhge=> ?_⟩
  ·have hlt:i<c.days.length:=by have:=of_decide_eq_true hlt; omega
   have hd:c.days.drop i=c.days.getD i 0::c.days.drop (i+1):=by
    rw [List.drop_eq_getElem_cons hlt]; simp [List.getD,hlt]
   rw [hd] at hi
   have hstep:firstM (holT ⟨c,day,fin,f,h⟩) day fin (c.days.drop (i+1))=firstM (holT ⟨c,day,fin,f,h⟩) day fin c.days->∀ x:Bool,∃ x':{i:Nat // i<=c.days.length/\firstM (holT ⟨c,day,fin,f,h⟩) day fin (c.days.drop i)=firstM (holT ⟨c,day,fin,f,h⟩) day fin c.days},c.days.length - x'.val<c.days.length - i/\LeK (FI.hH ⟨c,day,fin,f,h⟩).length Tryz.f126.ntmps [(1,.i day),(2,.i fin),(3,.fn 118 [] [.ptr 0 0,.ptr 1 0]),(12,Con.dayS c.days),(13,.i (c.days.length:Int)),(14,.i ((i:Int)+1)),Z 25,Z 26,(27,.bool x)] [.box c.ze,.box [fxS f,chS h],.box c.ze] (SFh ⟨c,day,fin,f,h⟩ x'.val) (HFh ⟨c,day,fin,f,h⟩):=by
    intro he x;refine⟨⟨i+1,hlt,he⟩,by show _ - (i+1)<_; omega,?_,FI.h5 ⟨c,day,fin,f,h⟩,by kernel_rfl,by show 2<=3; decide⟩;simp [SFh,Con.dayS,za]
   have hstepU:firstM (holT ⟨c,day,fin,f,h⟩) day fin (c.days.drop (i+1))=firstM (holT ⟨c,day,fin,f,h⟩) day fin c.days->∃ x':{i:Nat // i<=c.days.length/\firstM (holT ⟨c,day,fin,f,h⟩) day fin (c.days.drop i)=firstM (holT ⟨c,day,fin,f,h⟩) day fin c.days},c.days.length - x'.val<c.days.length - i/\LeK (FI.hH ⟨c,day,fin,f,h⟩).length Tryz.f126.ntmps [(1,.i day),(2,.i fin),(3,.fn 118 [] [.ptr 0 0,.ptr 1 0]),(12,Con.dayS c.days),(13,.i (c.days.length:Int)),(14,.i ((i:Int)+1)),Z 25,Z 26,Z 27] [.box c.ze,.box [fxS f,chS h],.box c.ze] (SFh ⟨c,day,fin,f,h⟩ x'.val) (HFh ⟨c,day,fin,f,h⟩):=by
    intro he;refine⟨⟨i+1,hlt,he⟩,by show _ - (i+1)<_; omega,?_,FI.h5 ⟨c,day,fin,f,h⟩,by kernel_rfl,by show 2<=3; decide⟩;simp [SFh,Con.dayS,za]
   refine⟨⟨by omega,by omega⟩,λ_=>⟨λg=> ?_,λg=> ?_⟩⟩
   ·rw [JR (of_decide_eq_true g)] at hi;exact hRet _ hi.symm
   ·have g:=of_decide_eq_false g;refine⟨λg2=> ?_,λg2=> ?_⟩
    ·have g2:day<=c.days.getD i 0:=by simpa using g2
     have hs:qy Xp (holM c.x (c.days.getD i 0) f h):=by
      intro e he;refine h3 e ?_;rw [<- hi];exact U6 g g2 he
     refine⟨(⟨c,day,fin,f,h⟩,c.days.getD i 0),⟨⟨⟨rfl,rfl⟩,⟨rfl,rfl⟩,⟨rfl,rfl⟩,trivial⟩,FI.h2 ⟨c,day,fin,f,h⟩,trivial,h1 _,hs⟩,λhk=> ?_,λ_=>trivial⟩;have hk:=qN (d:=false) hk;simp only at hk ⊢;rw [decide_eq_true g2,cond_true];refine⟨λg3=> ?_,λg3=>⟨⟨by omega,by show _<=(9223372036854775807:Int); omega⟩,λ_=> ?_⟩⟩
     ·rw [g3] at hk;rw [We g g2 hk] at hi;exact hRet _ hi.symm
     ·rw [if_pos trivial,g3];rw [g3] at hk;rw [Q4 g g2 hk] at hi;exact hstep hi _
    ·have g2:¬ day<=c.days.getD i 0:=by simpa using g2
     rw [JN g g2] at hi;rw [decide_eq_false g2,cond_false];refine⟨λg3=>absurd g3 (by decide),λ_=>⟨⟨by omega,by show _<=(9223372036854775807:Int); omega⟩,λ_=> ?_⟩⟩;rw [if_pos trivial];exact hstepU hi
  ·have hge:i=c.days.length:=by have:=of_decide_eq_false hge; omega
   subst hge;rw [List.drop_length] at hi;exact hRet _ hi.symm
def choT(k:FI):Int->Except Int Bool:=λt=>.ok (qg k.h k.c.src k.c.name t)
def Xr(Xp:List PanicEntry->Prop):Ctr:=ctrS (λk:FI=>[k.c.conA,.i k.day,.i k.fin,.fn 116 [] [.ptr 0 0,.ptr 1 0]]) (λk=>k.hC) (λk=>k.h.length<2^40/\k.c.days.length<2^40/\qy Xp (firstM (choT k) k.day k.fin k.c.days)) (λk=>okM (firstM (choT k) k.day k.fin k.c.days)) (λk=>(.i (getM 0 (firstM (choT k) k.day k.fin k.c.days)),k.hC))
def SFc(k:FI)(i:Nat):KV:=[(1,.i k.day),(2,.i k.fin),(3,.fn 116 [] [.ptr 0 0,.ptr 1 0]),(12,Con.dayS k.c.days),(13,.i (k.c.days.length:Int)),(14,.i (i:Int)),Z 25,Z 26,Z 27]
def HFc(k:FI):Heap:=[.box [fxS k.f,chS k.h],.box k.c.ze,.box k.c.ze]
noncomputable def GFg(Xp:List PanicEntry->Prop):Nat->Option Ctr:=λf=>if f=116 then some Xz else none
theorem zh6(Xp:List PanicEntry->Prop):∀ f c,GFg Xp f=some c->zy Xp Tryz.prog f c:=vF (Wx.x) yw
theorem FI.zrm(k:FI):eqH (expH [.box [fxS k.f,chS k.h],.box k.c.ze,.box k.c.ze] [0,1]) k.hC:=by
 simp [expH,expB,exp1,exp0,ren0,FI.hC,zG,Con.ze,Con.qH,fxS,chS,Ex.exS,Con.dayS,Con.conS,za]
theorem FI.hC2(k:FI):eqH [.box [fxS k.f,chS k.h],.box k.c.ze] [.box [fxS k.f,chS k.h],.box k.c.ze]:=by
 simp [Con.ze,Con.qH,fxS,chS,Ex.exS,Con.dayS,Con.conS,za]
theorem FI.hC5(k:FI):eqH [.box [fxS k.f,chS k.h],.box k.c.ze,.box k.c.ze] (HFc k):=by
 simp [HFc,Con.ze,Con.qH,fxS,chS,Ex.exS,Con.dayS,Con.conS,za]
abbrev q59(A:List AV)(H:Heap)(x:FI×Int):Prop:=eqL A [.i x.2,.ptr 0 0,.ptr 1 0]/\eqH H [.box [.sl x.1.f.length 3 (fxG x.1.f),.sl x.1.h.length 4 (chG x.1.h)],.box x.1.c.ze]/\2=2/\List.length x.1.h<1099511627776
theorem zf4(Xp:List PanicEntry->Prop):zy Xp Tryz.prog 126 (Xr Xp):=by
 refine yh (fn:=Tryz.f126) (c:=Tryz.f126.body.getD .skip) rfl rfl rfl λp hp O w0 I0 Q hl0 hq=> ?_
 obtain⟨c,day,fin,f,h⟩:=p;obtain⟨h1,h2,h3⟩:=hp;simp only at h1 h2 h3 hq;refine zb.runX hmix (zh6 Xp) [1,2,3,12,13,14,25,26,27] 400 (T:=.leaf (.loop (lps K126 0).1 (lps K126 0).2 [(1,.i day),(2,.i fin),(3,.fn 116 [] [.ptr 0 0,.ptr 1 0]),(12,.sl c.days.length 1 (Con.dayG c.days)),(13,.i c.days.length),(14,.i 0),Z 25,Z 26,Z 27] [.box [.sl f.length 3 (fxG f),.sl h.length 4 (chG h)],.box c.ze,.box c.ze])) (by kernel_rfl) ?_;simp only [Tree.holds,zf,inR,lo,hi,Int.toNat_natCast];refine zb.loop (ι:={i:Nat // i<=c.days.length/\firstM (choT ⟨c,day,fin,f,h⟩) day fin (c.days.drop i)=firstM (choT ⟨c,day,fin,f,h⟩) day fin c.days}) (λi=>SFc ⟨c,day,fin,f,h⟩ i.1) (λ_=>HFc ⟨c,day,fin,f,h⟩) (λi=>c.days.length - i.1) ⟨0,Nat.zero_le _,rfl⟩ 0 ?_ ?_ (by kernel_rfl)
 ·exact⟨by simp [SFc,Con.dayS,za],FI.hC5 ⟨c,day,fin,f,h⟩,by kernel_rfl,by show 2<=3; decide⟩
 ·rintro⟨i,hil,hi⟩;refine zb.runX hmix (zh6 Xp) [1,2,3,12,13,14,25,26,27] 400 (T:=let v5:=inR .i64 (i+1);let v4:=List.getD c.days (i:Int).toNat (0:Int);let v3:=day<=List.getD c.days (i:Int).toNat (0:Int);let v1:List Blk:=[.box [.sl f.length 3 (fxG f),.sl h.length 4 (chG h)],.box c.ze,.box c.ze];.D ((i:Int)<(c.days.length:Int)) (.side ((0:Int)<=i/\(i:Int)<(c.days.length:Int)) (.D (fin<=List.getD c.days (i:Int).toNat (0:Int)) (.R [.i fin] v1) (.ite (decide v3 == true) (.ex (q59 [.i v4,.ptr 0 0,.ptr 1 0] [.box [.sl f.length 3 (fxG f),.sl h.length 4 (chG h)],.box c.ze]) λn=>let v2:List Blk:=[.box [.sl n.1.f.length 3 (fxG n.1.f),.sl n.1.h.length 4 (chG n.1.h)],.box n.1.c.ze,.box c.ze];.A λn_1=>.ite (bif decide v3 then qg n.1.h (Con.src n.1.c) (Con.name n.1.c) n.2 else false) (.R [.i v4] v2) (.side v5 (.leaf (.back 0 [(1,.i day),(2,.i fin),(3,.fn 116 [] [.ptr 0 0,.ptr 1 0]),(12,.sl c.days.length 1 (Con.dayG c.days)),(13,.i c.days.length),(14,.i (i+1)),Z 25,Z 26,(27,.bool (qg n.1.h (Con.src n.1.c) (Con.name n.1.c) n.2))] v2)))) (.ite (bif decide v3 then false else false) (.R [.i v4] v1) (.side v5 (.leaf (.back 0 [(1,.i day),(2,.i fin),(3,.fn 116 [] [.ptr 0 0,.ptr 1 0]),(12,.sl c.days.length 1 (Con.dayG c.days)),(13,.i c.days.length),(14,.i (i+1)),Z 25,Z 26,Z 27] v1))))))) (.R [.i fin] v1)) (by kernel_rfl) ?_;simp only [q59,Tree.holds,zf,inR,lo,hi,Int.toNat_natCast]
  have hRet:∀ e:Int,firstM (choT ⟨c,day,fin,f,h⟩) day fin c.days = .ok e->RetR (Xr Xp) (FI.hC ⟨c,day,fin,f,h⟩).length Q [.i e] [.box [fxS f,chS h],.box c.ze,.box c.ze]:=by
   intro e he;rw [he] at hq;exact RetR.xP [0,1] rfl rfl (by show ∀ j,j<2->_; decide) rfl (hq rfl) (LeA.refl _) (FI.zrm ⟨c,day,fin,f,h⟩) rfl
  refine⟨λhlt=> ?_,λhge=> ?_⟩
  ·have hlt:i<c.days.length:=by have:=of_decide_eq_true hlt; omega
   have hd:c.days.drop i=c.days.getD i 0::c.days.drop (i+1):=by
    rw [List.drop_eq_getElem_cons hlt]; simp [List.getD,hlt]
   rw [hd] at hi
   have hstep:firstM (choT ⟨c,day,fin,f,h⟩) day fin (c.days.drop (i+1))=firstM (choT ⟨c,day,fin,f,h⟩) day fin c.days->∀ x:Bool,∃ x':{i:Nat // i<=c.days.length/\firstM (choT ⟨c,day,fin,f,h⟩) day fin (c.days.drop i)=firstM (choT ⟨c,day,fin,f,h⟩) day fin c.days},c.days.length - x'.val<c.days.length - i/\LeK (FI.hC ⟨c,day,fin,f,h⟩).length Tryz.f126.ntmps [(1,.i day),(2,.i fin),(3,.fn 116 [] [.ptr 0 0,.ptr 1 0]),(12,Con.dayS c.days),(13,.i (c.days.length:Int)),(14,.i ((i:Int)+1)),Z 25,Z 26,(27,.bool x)] [.box [fxS f,chS h],.box c.ze,.box c.ze] (SFc ⟨c,day,fin,f,h⟩ x'.val) (HFc ⟨c,day,fin,f,h⟩):=by
    intro he x;refine⟨⟨i+1,hlt,he⟩,by show _ - (i+1)<_; omega,?_,FI.hC5 ⟨c,day,fin,f,h⟩,by kernel_rfl,by show 2<=3; decide⟩;simp [SFc,Con.dayS,za]
   have hstepU:firstM (choT ⟨c,day,fin,f,h⟩) day fin (c.days.drop (i+1))=firstM (choT ⟨c,day,fin,f,h⟩) day fin c.days->∃ x':{i:Nat // i<=c.days.length/\firstM (choT ⟨c,day,fin,f,h⟩) day fin (c.days.drop i)=firstM (choT ⟨c,day,fin,f,h⟩) day fin c.days},c.days.length - x'.val<c.days.length - i/\LeK (FI.hC ⟨c,day,fin,f,h⟩).length Tryz.f126.ntmps [(1,.i day),(2,.i fin),(3,.fn 116 [] [.ptr 0 0,.ptr 1 0]),(12,Con.dayS c.days),(13,.i (c.days.length:Int)),(14,.i ((i:Int)+1)),Z 25,Z 26,Z 27] [.box [fxS f,chS h],.box c.ze,.box c.ze] (SFc ⟨c,day,fin,f,h⟩ x'.val) (HFc ⟨c,day,fin,f,h⟩):=by
    intro he;refine⟨⟨i+1,hlt,he⟩,by show _ - (i+1)<_; omega,?_,FI.hC5 ⟨c,day,fin,f,h⟩,by kernel_rfl,by show 2<=3; decide⟩;simp [SFc,Con.dayS,za]
   refine⟨⟨by omega,by omega⟩,λ_=>⟨λg=> ?_,λg=> ?_⟩⟩
   ·rw [JR (of_decide_eq_true g)] at hi;exact hRet _ hi.symm
   ·have g:=of_decide_eq_false g;refine⟨λg2=> ?_,λg2=> ?_⟩
    ·have g2:day<=c.days.getD i 0:=by simpa using g2
     refine⟨(⟨c,day,fin,f,h⟩,c.days.getD i 0),⟨⟨⟨rfl,rfl⟩,⟨rfl,rfl⟩,⟨rfl,rfl⟩,trivial⟩,FI.hC2 ⟨c,day,fin,f,h⟩,trivial,h1⟩,⟨(),trivial⟩,λ_ _=> ?_⟩;have hk:choT ⟨c,day,fin,f,h⟩ (c.days.getD i 0) = .ok (qg h c.src c.name (c.days.getD i 0)):=rfl;simp only;rw [decide_eq_true g2,cond_true];refine⟨λg3=> ?_,λg3=>⟨⟨by omega,by show _<=(9223372036854775807:Int); omega⟩,λ_=> ?_⟩⟩
     ·rw [g3] at hk;rw [We g g2 hk] at hi;exact hRet _ hi.symm
     ·rw [if_pos trivial,g3];rw [g3] at hk;rw [Q4 g g2 hk] at hi;exact hstep hi _
    ·have g2:¬ day<=c.days.getD i 0:=by simpa using g2
     rw [JN g g2] at hi;rw [decide_eq_false g2,cond_false];refine⟨λg3=>absurd g3 (by decide),λ_=>⟨⟨by omega,by show _<=(9223372036854775807:Int); omega⟩,λ_=> ?_⟩⟩;rw [if_pos trivial];exact hstepU hi
  ·have hge:i=c.days.length:=by have:=of_decide_eq_false hge; omega
   subst hge;rw [List.drop_length] at hi;exact hRet _ hi.symm
def zar(Xp:List PanicEntry->Prop):Ctr where
 fresh:=false
 spec args hc:=match args with
  | [_,_,_,.fn g _ _]=>if g=116 then(Xr Xp).spec args hc else(Kr Xp).spec args hc
  | _=>.fail
theorem zdc(Xp:List PanicEntry->Prop):zy Xp Tryz.prog 126 (zar Xp):=by
 intro args hc Q hq hf;simp only [zar] at hq;split at hq
 ·split at hq
  ·exact zf4 Xp _ hc Q hq (λh=>by cases h)
  ·exact zf7 Xp _ hc Q hq (λh=>by cases h)
 ·exact hq.elim
theorem wa(c:Con):eqA c.conD c.conA:=by
 simp only [Con.conD,Con.outD,Con.conA,eqA];exact⟨⟨rfl,rfl⟩,rfl,rfl,rfl,⟨rfl,rfl⟩,rfl,rfl,⟨rfl,rfl⟩,⟨rfl,rfl,λ_ _ _ _=>rfl⟩,⟨rfl,rfl⟩,⟨rfl,rfl,λ_ _ _ _=>rfl⟩,⟨rfl,rfl,Con.qc c⟩,trivial⟩
def FI.val(k:FI):Except Int (List Fl):=flM k.f k.h k.c k.day k.fin
def flC(G:FI->Prop)(n:Nat)(Xp:List PanicEntry->Prop):Ctr:=ctrS (λk:FI=>[k.c.conA,.i k.day,.i k.fin,envA k.f k.h]) (λ_=>[]) (λk=>G k/\k.c.nodes<n/\qy Xp k.val) (λk=>okM k.val) (λk=>(.osl 0 5 0 (getM [] k.val).length,[.arr (getM [] k.val).length 5 (flG (getM [] k.val))]))
def FI.kid(k:FI)(i:Nat):FI:=⟨k.c.sub.getD i Con.nil,k.day,k.fin,k.f,k.h⟩
theorem FI.zsb(k:FI)(n:Nat)(g:Nat->Nat->AV):eqH (expH (k.heap++[.arr n 5 g]) [0,1,2,3,4]) (k.heap++[.arr n 5 g]):=by
 simp [expH,expB,exp1,exp0,ren0,FI.heap,zG,Con.ze,Con.qH,fxS,chS,Ex.exS,Con.dayS,Con.conS,za]
def zgq(G:FI->Prop)(n:Nat)(Xp:List PanicEntry->Prop):Ctr:=ctrS (λp:FI×Bool=>[.bool p.2,.ptr 0 0,.ptr 1 0,.ptr 2 0,.ptr 3 0]) (λp=>p.1.heap) (λp=>p.2.toNat<p.1.c.sub.length/\G (p.1.kid p.2.toNat)/\(p.1.kid p.2.toNat).c.nodes<n/\qy Xp (p.1.kid p.2.toNat).val) (λp=>okM (p.1.kid p.2.toNat).val) (λp=>(.osl 4 5 0 (getM [] (p.1.kid p.2.toNat).val).length,p.1.heap++[.arr (getM [] (p.1.kid p.2.toNat).val).length 5 (flG (getM [] (p.1.kid p.2.toNat).val))]))
noncomputable def GFp(G:FI->Prop)(n:Nat)(Xp:List PanicEntry->Prop):Nat->Option Ctr:=λf=>if f=85 then some (flC G n Xp) else none
theorem zqf{G:FI->Prop}{n:Nat}{Xp:List PanicEntry->Prop}(ih:zy Xp Tryz.prog 85 (flC G n Xp)):∀ f c,GFp G n Xp f=some c->zy Xp Tryz.prog f c:=vF ih yw
theorem zmf{G:FI->Prop}{n:Nat}{Xp:List PanicEntry->Prop}(ih:zy Xp Tryz.prog 85 (flC G n Xp)):zy Xp Tryz.prog 124 (zgq G n Xp):=by
 refine yh (fn:=Tryz.f124) (c:=Tryz.f124.body.getD .skip) rfl rfl rfl λp hp O w0 I0 Q hl0 hq=> ?_
 obtain⟨⟨c,day,fin,f,h⟩,b⟩:=p;obtain⟨h1,h2,h3,h4⟩:=hp;simp only at h1 h2 h3 h4 hq;refine zb.runX hmix (zqf ih) [] 400 (T:=let v2:List AV:=[.sl f.length 3 (fxG f),.sl h.length 4 (chG h)];let v1:=[AV.sl f.length 3 (fxG f),AV.sl h.length 4 (chG h)];.ite b (.side ((0:Int)<=1/\(1:Int)<(c.sub.length:Int)) (.ex (λ(x:FI)=>eqL [(Con.conD (List.getD c.sub 1 Con.nil)),.i day,.i fin,.agg v1] [(Con.conA x.c),.i x.day,.i x.fin,.agg [.sl x.f.length 3 (fxG x.f),.sl x.h.length 4 (chG x.h)]]/\eqH [] []/\0=0/\G x/\Con.nodes x.c<n/\qy Xp x.val) λn=>let v3:=getM [] n.val;.ite (okM n.val) (.R [.osl 4 5 0 (List.length v3)] [.box c.ze,.box [.i day],.box [.i fin],.box v2,.arr (List.length v3) 5 (flG v3)]) (.leaf zY.gone))) (.side ((0:Int)<=0/\(0:Int)<(c.sub.length:Int)) (.ex (λ(x:FI)=>eqL [(Con.conD (List.getD c.sub 0 Con.nil)),.i day,.i fin,.agg v1] [(Con.conA x.c),.i x.day,.i x.fin,.agg [.sl x.f.length 3 (fxG x.f),.sl x.h.length 4 (chG x.h)]]/\eqH [] []/\0=0/\G x/\Con.nodes x.c<n/\qy Xp x.val) λn=>let v4:=getM [] n.val;.ite (okM n.val) (.R [.osl 4 5 0 (List.length v4)] [.box c.ze,.box [.i day],.box [.i fin],.box v2,.arr (List.length v4) 5 (flG v4)]) (.leaf zY.gone)))) (by kernel_rfl) ?_;simp only [Tree.holds,zf,inR,lo,hi,Int.toNat_natCast]
 have fin1:∀ (i:Nat) (Q':Prop),i<c.sub.length->b.toNat=i->(okM (FI.kid ⟨c,day,fin,f,h⟩ i).val=true->RetR (zgq G n Xp) (FI.heap ⟨c,day,fin,f,h⟩).length Q [.osl 4 5 0 (getM [] (FI.kid ⟨c,day,fin,f,h⟩ i).val).length] (FI.heap ⟨c,day,fin,f,h⟩++[.arr (getM [] (FI.kid ⟨c,day,fin,f,h⟩ i).val).length 5 (flG (getM [] (FI.kid ⟨c,day,fin,f,h⟩ i).val))])):=by
  intro i _ hi hb ho;rw [hb] at hq;exact RetR.xP [0,1,2,3,4] rfl rfl (by show ∀ j,j<4->_; decide) rfl (hq ho) (LeA.refl _) (FI.zsb ⟨c,day,fin,f,h⟩ _ _) rfl
 have argE:eqA (envA f h) (envA f h):=⟨⟨rfl,rfl,λ_ _ _ _=>rfl⟩,⟨rfl,rfl,λ_ _ _ _=>rfl⟩,trivial⟩;refine⟨λhb=> ?_,λhb=> ?_⟩
 ·subst hb;refine⟨⟨by decide,by have:1<c.sub.length:=h1; omega⟩,λ_=>⟨FI.kid ⟨c,day,fin,f,h⟩ 1,⟨⟨wa _,⟨rfl,rfl⟩,⟨rfl,rfl⟩,argE,trivial⟩,trivial,trivial,h2,h3,h4⟩,fin1 1 True h1 rfl,λ_=>trivial⟩⟩
 ·subst hb;refine⟨⟨by decide,by have:0<c.sub.length:=h1; omega⟩,λ_=>⟨FI.kid ⟨c,day,fin,f,h⟩ 0,⟨⟨wa _,⟨rfl,rfl⟩,⟨rfl,rfl⟩,argE,trivial⟩,trivial,trivial,h2,h3,h4⟩,fin1 0 True h1 rfl,λ_=>trivial⟩⟩
end Go.Proofs.Tryz
end
section
namespace Go.Nov
open Go.Sx
structure Pt(x y:Ex):Prop where
 x0:x.errX=0
 x1:x.zK=1
 y0:y.errX=0
 y1:y.zK=1
 s:x.size+y.size<500
 d1:x.depth<60
 d2:y.depth<60
section
variable {x y:Ex} {day:Int} {f:List Fx} {c:List Ch} (h:Pt x y)
include h
end
theorem Uk{x:Ex}{day:Int}{f:List Fx}{c:List Ch}(h:(wx x day f c).2=0):errR (wx x day f c).1=0:=by
 have ha:askE x 1 day f c=0:=Decidable.byContradiction λg=>g (by unfold wx at h; rw [if_pos g] at h; exact h)
 obtain⟨g1,g2,g3,_⟩:=Wy ha;have n0:¬ (0:Int)≠0:=by simp
 have he:(x.ev f day).e=0:=Decidable.byContradiction λg=>g (by unfold wx at h; rw [ha,if_neg n0,if_pos g] at h; exact h)
 have hv:wx x day f c=((x.ev f day).v,0):=by unfold wx; rw [ha,he,if_neg n0,if_neg n0]
 rw [hv];exact Ex.Zq (zb0.1 g3).2.1 day x g2 he
end Go.Nov
end
section
namespace Go.Nov
open Go.Sx
theorem Con.zcq{P:Con->Prop}(h:∀ c:Con,(∀ i,i<c.sub.length->P (c.sub.getD i Con.nil))->P c)(c:Con):P c:=by
 generalize hn:c.nodes=n
 induction n using Nat.strongRecOn generalizing c with
 | _ n ih=>
  refine h c λi hi=>ih _ ?_ _ rfl
  have:=Con.wS hi;rw [Con.vS] at hn;omega
theorem xb{α:Type}{l:List α}{d:α}{i:Nat}(h:l.length<=i):l.getD i d=d:=by simp [List.getD,h]
theorem QG(f:List Fx)(h:List Ch)(day fin:Int):flM f h Con.nil day fin = .ok []:=by
 show flM f h (.mk 0 [] [] [] Ex.nil 0 [] []) day fin=_;rw [flM];simp
theorem ze8(f:List Fx)(h:List Ch)(s:List Con)(i:Nat):(flMs f h s).getD i (λ_ _=>.ok [])=flM f h (s.getD i Con.nil):=by
 by_cases hi:i<s.length
 ·exact X6 f h s i hi
 ·have e:∀ (s:List Con),(flMs f h s).length=s.length:=by
   intro s; induction s with
   | nil=>rw [flMs]; rfl
   | cons a s ih=>rw [flMs]; simp [ih]
  rw [xb (by rw [e]; omega),xb (by omega)];funext day fin;rw [QG]
theorem kH(f:List Fx)(h:List Ch)(c:Con)(day fin:Int):flM f h c day fin =
  if fin<=day then .ok []
  else if c.kind=2 then andM (valM c.x day f h) λr=>.ok (payF day c.src c.dst c.name r)
  else if c.kind=3 then andM (flM f h (c.sub.getD 0 Con.nil) day fin) λu=>andM (flM f h (c.sub.getD 1 Con.nil) day fin) λv=>.ok (u++v)
  else if c.kind=4 then andM (valM c.x day f h) λr=>andM (flM f h (c.sub.getD 0 Con.nil) day fin) λu=>qV r u
  else if c.kind=5 then andM (holM c.x day f h) λt=>flM f h (c.sub.getD (if t=true then 0 else 1) Con.nil) day fin
  else if c.kind=6 then(if day<=c.date then flM f h (c.sub.getD 0 Con.nil) c.date fin else .ok [])
  else if c.kind=7 then flM f h (c.sub.getD (if qg h c.src c.name day=true then 0 else 1) Con.nil) day fin
  else if c.kind=8 then andM (firstM (λt=>.ok (qg h c.src c.name t)) day fin c.days) λt=>flM f h (c.sub.getD 0 Con.nil) t fin
  else if c.kind=9 then andM (firstM (λt=>holM c.x t f h) day fin c.days) λt=>flM f h (c.sub.getD 0 Con.nil) day t
  else if c.kind=10 then andM (firstM (λt=>holM c.x t f h) day fin c.days) λt=>flM f h (c.sub.getD 0 Con.nil) t fin
  else .ok []:=by
 cases c;rw [flM];simp only [ze8];rfl
theorem jo{α β:Type}{x:Except Int α}{k:α->Except Int β}{r:β}(h:andM x k = .ok r):∃ a,x = .ok a/\k a = .ok r:=by
 cases x with
 | error e=>cases h
 | ok a=>exact⟨a,rfl,h⟩
theorem JF(d:Int)(a b n r:L8):(payF d a b n r).length<=1:=by unfold payF; split; simp; split<;>simp
theorem Wb{k:L8} : ∀ {l m:List Fl},qV k l = .ok m->m.length<=l.length
 | [],m,h=>by cases h; simp
 | f::l,m,h=>by
  rw [qV] at h;split at h
  ·cases h
  ·split at h
   ·cases h
   ·rename_i m' hm;cases h;have:=Wb hm;have:=JF f.date f.src f.dst f.ccy (mulR f.amt k).1;simp; omega
def okFl(x:Fl):Prop:=errR x.amt=0/\0<qv x.amt
theorem zcw{d:Int}{a b n r:L8}(hr:errR r=0):∀ x∈payF d a b n r,okFl x:=by
 intro x hx;obtain⟨s1,s2,s3⟩:=uR hr;unfold payF at hx;split at hx
 ·simp at hx
 ·rename_i h0;split at hx
  ·rename_i h1;simp only [List.mem_singleton] at hx;subst hx;have e:negS r=r.drop 1:=by unfold negS; rw [if_neg h0,if_pos h1]
   obtain⟨n1,n2,_⟩:=zn5 hr;rw [e] at n1 n2;refine⟨n1,?_⟩;show 0<qv (r.drop 1);rw [n2];have:=s1.1 h1;grind
  ·rename_i h1;simp only [List.mem_singleton] at hx;subst hx;refine⟨hr,(zno hr).2 ⟨h0,h1⟩⟩
theorem QC{x:Ex}{d:Int}{f:List Fx}{h:List Ch}{r:L8}(hv:valM x d f h = .ok r):errR r=0:=by
 unfold valM at hv;split at hv
 ·rename_i h0; cases hv; exact Uk h0
 ·cases hv
theorem VT{k:L8}(hk:errR k=0):∀ {l m:List Fl},(∀ x∈l,okFl x)->qV k l = .ok m->∀ x∈m,okFl x
 | [],m,_,h=>by cases h; simp
 | f::l,m,hl,h=>by
  rw [qV] at h;split at h
  ·cases h
  ·rename_i h0;split at h
   ·cases h
   ·rename_i m' hm;cases h;intro x hx;rcases List.mem_append.1 hx with hx | hx
    ·exact zcw (Xh (hl f (by simp)).1 hk (by simpa using h0)).1 x hx
    ·exact VT hk (λy hy=>hl y (by simp [hy])) hm x hx
theorem JX{f:List Fx}{h:List Ch} : ∀ (c:Con) {day fin:Int} {l:List Fl},flM f h c day fin = .ok l->l.length<=c.nodes/\∀ x∈l,okFl x:=by
 refine Con.zcq ?_;intro c ih day fin l hl;have nl:=Con.vS c
 have kid:∀ (i:Nat) {day fin:Int} {l:List Fl},flM f h (c.sub.getD i Con.nil) day fin = .ok l->l.length<=Con.zq c.sub/\∀ x∈l,okFl x:=by
  intro i day fin l hl;by_cases hi:i<c.sub.length
  ·have:=ih i hi hl;exact⟨Nat.le_trans this.1 (Con.wS hi),this.2⟩
  ·rw [xb (by omega),QG] at hl;cases hl;simp
 have kid':∀ (i:Nat) {day fin:Int} {l:List Fl},flM f h (c.sub.getD i Con.nil) day fin = .ok l->l.length<=c.nodes/\∀ x∈l,okFl x:=λi day fin l hl=>⟨by have:=(kid i hl).1; omega,(kid i hl).2⟩
 have non:∀ l:List Fl,(Except.ok []:Except Int (List Fl)) = .ok l->l.length<=c.nodes/\∀ x∈l,okFl x:=by
  intro l hl; cases hl; simp
 rw [kH] at hl;split at hl
 ·exact non l hl
 split at hl
 ·obtain⟨r,h1,h2⟩:=jo hl;cases h2;have:=JF day c.src c.dst c.name r;exact⟨by omega,zcw (QC h1)⟩
 split at hl
 ·obtain⟨u,h1,h2⟩:=jo hl;obtain⟨v,h3,h4⟩:=jo h2;cases h4;refine⟨?_,λx hx=>(List.mem_append.1 hx).elim ((kid 0 h1).2 x) ((kid 1 h3).2 x)⟩;rw [List.length_append];by_cases hi:1<c.sub.length
  ·have a1:=(ih 0 (by omega) h1).1;have a2:=(ih 1 hi h3).1;have t1:Con.zq (c.sub.take 1)=_:=Con.Qk (s:=c.sub) (i:=0) (by omega);have t2:Con.zq (c.sub.take 2)=_:=Con.Qk (s:=c.sub) (i:=1) hi;have t3:=Con.zdw c.sub 2;have t4:Con.zq (c.sub.take 0)=0:=by rw [List.take_zero,Con.zq]
   omega
  ·rw [xb (by omega:c.sub.length<=1),QG] at h3;cases h3;have:=(kid' 0 h1).1;simpa using this
 split at hl
 ·obtain⟨r,h1,h2⟩:=jo hl;obtain⟨u,h3,h4⟩:=jo h2;have:=Wb h4;have:=(kid' 0 h3).1;exact⟨by omega,VT (QC h1) (kid' 0 h3).2 h4⟩
 split at hl
 ·obtain⟨t,h1,h2⟩:=jo hl;exact kid' _ h2
 split at hl
 ·split at hl
  ·exact kid' _ hl
  ·exact non l hl
 split at hl
 ·exact kid' _ hl
 split at hl
 ·obtain⟨t,h1,h2⟩:=jo hl;exact kid' _ h2
 split at hl
 ·obtain⟨t,h1,h2⟩:=jo hl;exact kid' _ h2
 split at hl
 ·obtain⟨t,h1,h2⟩:=jo hl;exact kid' _ h2
 ·exact non l hl
end Go.Nov
end
section
set_option maxRecDepth 100000
open Go Go.Sx Go.Proofs Go.Nov
namespace Go.Proofs.Tryz
attribute [local simp] eqKV eqA eqA0 eqH eqB eqL eqL0
noncomputable def K85:List Go.Sx.Item:=[.code (Tryz.f85.body.getD .skip)]
def FI.G(k:FI):Prop:=k.c.form=true/\k.c.big<2^40/\k.c.nodes<2^20/\envP (k.f,k.h)
theorem j6{α β:Type}{Xp:List PanicEntry->Prop}{x:Except Int α}{k:α->Except Int β}(h:qy Xp (andM x k)):qy Xp x/\∀ a,x = .ok a->qy Xp (k a):=
 ⟨λe he=>h e (by rw [he]; rfl),λa ha e he=>h e (by rw [ha]; exact he)⟩
noncomputable def GFl(n:Nat)(Xp:List PanicEntry->Prop):Nat->Option Ctr:=λf=>if f=116 then some Xz else if f=118 then some (zao Xp) else if f=121 then some (zl9 Xp) else if f=124 then some (zgq FI.G n Xp) else if f=126 then some (zar Xp) else if f=125 then some zpf else if f=85 then some (flC FI.G n Xp) else if f=42 then some VK else if f=122 then some (UK Xp) else none
theorem zk2{n:Nat}{Xp:List PanicEntry->Prop}(ih:zy Xp Tryz.prog 85 (flC FI.G n Xp)):∀ f c,GFl n Xp f=some c->zy Xp Tryz.prog f c:=
 vF Wx.x (vF (VV Xp) (vF (zdg Xp) (vF (zmf ih) (vF (zdc Xp) (vF zmj.x (vF ih (vF uJ.x (vF (V9 Xp) yw))))))))
theorem zsf{α β:Type}{a:α}{k:α->Except Int β} : Go.Nov.andM (.ok a) k=k a:=rfl
def SFl(r:L8)(u:List Fl)(m i:Nat):KV:=[(13,.str r),(14,.osl 5 5 0 m),(50,.osl 4 5 0 u.length),(51,.i (u.length:Int)),(52,.i (i:Int))]
def HFl(c:Con)(day fin:Int)(f:List Fx)(h:List Ch)(u m:List Fl):Heap:=[.box c.ze,.box [.i day],.box [.i fin],.box [.sl f.length 3 (fxG f),.sl h.length 4 (chG h)],.arr u.length 5 (flG u),.arr m.length 5 (flG m)]
abbrev q60(A:List AV)(x:Fl):Prop:=eqL A [.i x.date,.str x.src,.str x.dst,.str x.ccy,.str x.amt]/\Fl.amt x≠[]/\List.length x.amt<1099511627776
theorem za3{n:Nat}{Xp:List PanicEntry->Prop}(ih:zy Xp Tryz.prog 85 (flC FI.G n Xp)){c:Con}{day fin:Int}{f:List Fx}{h:List Ch}{r:L8}{u:List Fl}(hfl:flM f h c day fin=qV r u)(hst:qy Xp (qV r u))(hlen:u.length<2^20)(hok:∀ x∈u,okFl x)(hr:errR r=0){Q:AV×Heap->Prop}(hQ:∀ l,flM f h c day fin = .ok l->Q (.osl 0 5 0 l.length,[.arr l.length 5 (flG l)])){O:Nat->Prop}{w0:World}{I0:List SE} :
  qn Xp none Tryz.prog Tryz.f85 O 0 w0 I0 (λ_ _ _=>False) (RetR (flC FI.G (n+1) Xp) 0 (upQ Q)) (.code (.loop (lps K85 0).1)::(lps K85 0).2) (mk Tryz.f85.ntmps [(13,.str r),(14,.nils),(50,.osl 4 5 0 u.length),(51,.i (u.length:Int)),(52,.i 0)] [.box c.ze,.box [.i day],.box [.i fin],.box [.sl f.length 3 (fxG f),.sl h.length 4 (chG h)],.arr u.length 5 (flG u)]):=by
 refine zb.bear 14 5 (flG []) rfl (by decide) (by kernel_rfl) ?_
 refine zb.loop (ι:={z:Nat×List Fl // z.1<=u.length/\z.2.length<=z.1/\qV r u=andM (qV r (u.drop z.1)) λl=>.ok (z.2++l)}) (λz=>SFl r u z.1.2.length z.1.1) (λz=>HFl c day fin f h u z.1.2) (λz=>u.length - z.1.1) ⟨(0,[]),Nat.zero_le _,Nat.le_refl _,by
  show qV r u=_;rw [List.drop_zero];cases qV r u<;>rfl⟩ 0 ?_ ?_ (by kernel_rfl)
 ·exact⟨by simp [SFl,xD,za],by simp [HFl,za,Con.ze,Con.qH,fxS,chS,Ex.exS,Con.dayS,Con.conS],by kernel_rfl,Nat.zero_le _⟩
 ·rintro⟨⟨i,m⟩,hi,hm,hs⟩;simp only at hi hm hs;refine zb.runX hmix (zk2 ih) [13,14,50,51,52] 400 (T:=let v4:List AV:=[.sl f.length 3 (fxG f),.sl h.length 4 (chG h)];let v1:=u.getD (0+Int.toNat i) Fl.nil;.D ((i:Int)<u.length) (.side ((0:Int)<=i/\(i:Int)<u.length) (.ex (q44 [.str v1.amt,.str r]) λn=>.all (λ(r:L8×Int)=>r=mulR n.1 n.2) λn=>.ex (λ(x:L8×Int)=>eqL [.str n.1,.i n.2] [.str x.1,.i x.2]/\eqH [] []/\0=0/\(x.2≠0->Xp (Zg yT x.2))) λn=>.D (n.2=0) (.ex (q60 [.i v1.date,.str v1.src,.str v1.dst,.str v1.ccy,.str n.1]) λn=>let v2:=payF n.date n.src n.dst n.ccy n.amt;let v3:=m.length+List.length v2;.A λn_1=>.side (0=0/\m.length<=m.length/\v3 *72<=140737488355328) (.S (i+1) (.leaf (.back 0 [(13,.str r),(14,.osl 5 5 0 v3),(50,.osl 4 5 0 u.length),(51,.i u.length),(52,.i (i+1))] [.box c.ze,.box [.i day],.box [.i fin],.box v4,.arr u.length 5 (flG u),.arr v3 5 (appG m.length (flG m) (zi (flG v2) 0)),.box [.i v1.date,.str v1.src,.str v1.dst,.str v1.ccy,.str v1.amt],.arr (List.length v2) 5 (flG v2)])))) (.leaf zY.gone))) (.R [.osl 5 5 0 m.length] [.box c.ze,.box [.i day],.box [.i fin],.box v4,.arr u.length 5 (flG u),.arr m.length 5 (flG m)])) (by kernel_rfl) ?_;simp only [q44,q60,Tree.holds,zf,inR,lo,hi,Int.toNat_natCast];refine⟨λhlt=> ?_,λhge=> ?_⟩
  ·have hlt:i<u.length:=by have:=of_decide_eq_true hlt; omega
   have hd:u.drop i=u.getD i Fl.nil::u.drop (i+1):=by
    rw [List.drop_eq_getElem_cons hlt]; simp [List.getD,hlt]
   have hmem:u.getD i Fl.nil∈u:=by simp [List.getD,hlt]
   rw [hd,qV] at hs;rw [Nat.zero_add];have hx:=hok _ hmem;refine⟨⟨by omega,by omega⟩,λ_=>⟨((u.getD i Fl.nil).amt,r),⟨⟨rfl,rfl,trivial⟩,by have:=vj hx.1; show(u.getD i Fl.nil).amt.length<_; omega,by have:=vj hr; show r.length<_; omega⟩,⟨_,rfl⟩,?_⟩⟩;rintro _ rfl;refine⟨mulR (u.getD i Fl.nil).amt r,⟨⟨rfl,⟨rfl,rfl⟩,trivial⟩,trivial,trivial,λhe=> ?_⟩,λhe=> ?_,λ_=>trivial⟩
   ·refine hst _ ?_;rw [hs,if_pos he]; rfl
   ·have he:=of_decide_eq_true he;have hmr:=(Xh hx.1 hr he).1;rw [if_neg (λhne=>hne he)] at hs;have hpl:=JF (u.getD i Fl.nil).date (u.getD i Fl.nil).src (u.getD i Fl.nil).dst (u.getD i Fl.nil).ccy (mulR (u.getD i Fl.nil).amt r).1;refine⟨⟨(u.getD i Fl.nil).date,(u.getD i Fl.nil).src,(u.getD i Fl.nil).dst,(u.getD i Fl.nil).ccy,(mulR (u.getD i Fl.nil).amt r).1⟩,⟨⟨⟨rfl,rfl⟩,rfl,rfl,rfl,rfl,trivial⟩,(uR hmr).2.2,by have:=vj hmr; show List.length (mulR (u.getD i Fl.nil).amt r).1<_; omega⟩,⟨(),trivial⟩,λ_ _=>⟨⟨trivial,Nat.le_refl _,?_⟩,λ_=>⟨⟨by omega,by show _<=(9223372036854775807:Int); omega⟩,λ_=> ?_⟩⟩⟩
    ·show(m.length+(payF (u.getD i Fl.nil).date (u.getD i Fl.nil).src (u.getD i Fl.nil).dst (u.getD i Fl.nil).ccy (mulR (u.getD i Fl.nil).amt r).1).length)*72<=_;omega
    ·rw [if_pos trivial];simp only;generalize payF (u.getD i Fl.nil).date (u.getD i Fl.nil).src (u.getD i Fl.nil).dst (u.getD i Fl.nil).ccy (mulR (u.getD i Fl.nil).amt r).1=p at hs hpl ⊢;refine⟨⟨(i+1,m++p),hlt,by simp only [List.length_append]; omega,?_⟩,by show _ - (i+1)<_; omega,?_,?_,by kernel_rfl,Nat.zero_le _⟩
     ·rw [hs];cases qV r (u.drop (i+1)) with
      | error e=>rfl
      | ok l=>simp [zsf,List.append_assoc]
     ·simp [SFl]
     ·refine⟨by simp [Con.ze,Con.qH,Ex.exS,Con.dayS,Con.conS,za],by simp,by simp,by simp [za],⟨rfl,rfl,za _ _ _⟩,⟨by simp,rfl,?_⟩,trivial⟩;intro j k hj hk;have:=uV (o:=m) (a:=p) rfl rfl j k hj hk;show _=flG (m++p) j k;rw [<- this];simp only [appG,zi,Nat.zero_add]
  ·have hge:i=u.length:=by have:=of_decide_eq_false hge; omega
   subst hge;rw [List.drop_length,qV] at hs;have hs:qV r u = .ok m:=by rw [hs]; show Except.ok (m++[])=_; rw [List.append_nil]
   exact RetR.zc4 (Q:=upQ Q) [5] rfl (by simp [HFl]) (by simp) rfl (.inl (hQ m (by rw [hfl,hs]))) (LeA.refl _) ⟨LeB.refl _,trivial⟩
theorem Un{n:Nat}{Xp:List PanicEntry->Prop}(ih:zy Xp Tryz.prog 85 (flC FI.G n Xp)):zy Xp Tryz.prog 85 (flC FI.G (n+1) Xp):=by
 refine zgl (fn:=Tryz.f85) (c:=Tryz.f85.body.getD .skip) rfl rfl rfl λp hp O w0 I0 Q hl0 hq=> ?_
 obtain⟨c,day,fin,f,h⟩:=p;obtain⟨h1,h2,h3⟩:=hp;simp only at h1 h2 h3 hq;refine zb.runX hmix (zk2 ih) [13,14,50,51,52] 400 (T:=let v31:=[AV.i day,AV.ptr 0 0,AV.ptr 1 0];let v30:List AV:=[.sl f.length 3 (fxG f),.sl h.length 4 (chG h)];let v28:List AV:=[.i day];let v27:=[AV.i fin];let v20:List AV:=[.i fin];let v18:=[AV.bool false,AV.ptr 0 0,AV.ptr 1 0,AV.ptr 2 0,AV.ptr 3 0];let v17:=[AV.i day];let v11:=[AV.ptr 0 0,AV.ptr 1 0,AV.ptr 2 0];let v10:=[AV.ptr 0 0,AV.ptr 1 0];let v9:=Con.conD (List.getD c.sub 0 Con.nil);let v3:zY:=.ret [.nils] [.box c.ze,.box v28,.box v20,.box v30];let v1:=[AV.sl f.length 3 (fxG f),AV.sl h.length 4 (chG h)];let v33:List Blk:=[.box c.ze,.box v1];.D (fin<=day) (.leaf v3) (.D (Con.kind c=2) (.ex (λ(x:FI)=>eqL v11 v11/\eqH [.box c.ze,.box v17,.box v1] [.box x.c.ze,.box [.i x.day],.box [.sl x.f.length 3 (fxG x.f),.sl x.h.length 4 (chG x.h)]]/\3=3/\VI.ok { x:=Con.x x.c,day:=FI.day x,f:=FI.f x,c:=FI.h x } /\ qy Xp (valM (Con.x x.c) x.day x.f x.h)) λn=>let v26:=valM (Con.x n.c) n.day n.f n.h;.ite (okM v26) (.side (Con.name n.c=Con.name c) (.side (Con.dst n.c=Con.dst c) (.side (Con.src n.c=Con.src c) (.side (FI.day n=day) (.ex (q60 [.i day,.str c.src,.str c.dst,.str c.name,.str (getM [] v26)]) λn_1=>let v6:=payF n_1.date n_1.src n_1.dst n_1.ccy n_1.amt;.A λn_2=>.R [.osl 4 5 0 (List.length v6)] [.box n.c.ze,.box [.i n.day],.box v20,.box [.sl n.f.length 3 (fxG n.f),.sl n.h.length 4 (chG n.h)],.arr (List.length v6) 5 (flG v6)]))))) (.leaf zY.gone)) (.D (Con.kind c=3) (.ex (λ(x:FI×Bool)=>let v21:=FI.kid x.1 (Bool.toNat x.2);eqL v18 [.bool x.2,.ptr 0 0,.ptr 1 0,.ptr 2 0,.ptr 3 0]/\eqH [.box c.ze,.box v17,.box v27,.box v1] [.box x.1.c.ze,.box [.i x.1.day],.box [.i x.1.fin],.box [.sl x.1.f.length 3 (fxG x.1.f),.sl x.1.h.length 4 (chG x.1.h)]]/\4=4/\Bool.toNat x.2<List.length (Con.sub x.1.c)/\FI.G v21/\Con.nodes v21.c<n/\qy Xp v21.val) λn_1=>let v29:=FI.val (FI.kid n_1.1 (Bool.toNat n_1.2));let v2:=getM [] v29;.ite (okM v29) (.ex (λ(x:FI×Bool)=>let v22:=FI.kid x.1 (Bool.toNat x.2);eqL [.bool true,.ptr 0 0,.ptr 1 0,.ptr 2 0,.ptr 3 0] [.bool x.2,.ptr 0 0,.ptr 1 0,.ptr 2 0,.ptr 3 0]/\eqH [.box n_1.1.c.ze,.box [.i n_1.1.day],.box [.i n_1.1.fin],.box [.sl n_1.1.f.length 3 (fxG n_1.1.f),.sl n_1.1.h.length 4 (chG n_1.1.h)]] [.box x.1.c.ze,.box [.i x.1.day],.box [.i x.1.fin],.box [.sl x.1.f.length 3 (fxG x.1.f),.sl x.1.h.length 4 (chG x.1.h)]]/\4=4/\Bool.toNat x.2<List.length (Con.sub x.1.c)/\FI.G v22/\Con.nodes v22.c<n/\qy Xp v22.val) λn=>let v32:=FI.val (FI.kid n.1 (Bool.toNat n.2));let v4:=getM [] v32;let v15:=List.length v2 +List.length v4;.ite (okM v32) (.side (0=0/\List.length v2 <=List.length v2/\v15 *72<=140737488355328) (.R [.osl 4 5 0 v15] [.box n.1.c.ze,.box [.i n.1.day],.box [.i n.1.fin],.box [.sl n.1.f.length 3 (fxG n.1.f),.sl n.1.h.length 4 (chG n.1.h)],.arr v15 5 (appG (List.length v2) (flG v2) (zi (flG v4) 0)),.arr (List.length v4) 5 (flG v4)])) (.leaf zY.gone)) (.leaf zY.gone)) (.D (Con.kind c=4) (.ex (λ(x:FI)=>eqL v11 v11/\eqH [.box c.ze,.box v17,.box v1] [.box x.c.ze,.box [.i x.day],.box [.sl x.f.length 3 (fxG x.f),.sl x.h.length 4 (chG x.h)]]/\3=3/\VI.ok { x:=Con.x x.c,day:=FI.day x,f:=FI.f x,c:=FI.h x } /\ qy Xp (valM (Con.x x.c) x.day x.f x.h)) λn_1=>let v16:=valM (Con.x n_1.c) n_1.day n_1.f n_1.h;.ite (okM v16) (.ex (λ(x:FI×Bool)=>let v23:=FI.kid x.1 (Bool.toNat x.2);eqL v18 [.bool x.2,.ptr 0 0,.ptr 1 0,.ptr 2 0,.ptr 3 0]/\eqH [.box n_1.c.ze,.box [.i n_1.day],.box v27,.box [.sl n_1.f.length 3 (fxG n_1.f),.sl n_1.h.length 4 (chG n_1.h)]] [.box x.1.c.ze,.box [.i x.1.day],.box [.i x.1.fin],.box [.sl x.1.f.length 3 (fxG x.1.f),.sl x.1.h.length 4 (chG x.1.h)]]/\4=4/\Bool.toNat x.2<List.length (Con.sub x.1.c)/\FI.G v23/\Con.nodes v23.c<n/\qy Xp v23.val) λn=>let v5:=FI.val (FI.kid n.1 (Bool.toNat n.2));let v38:=getM [] v5;.ite (okM v5) (.leaf (.loop (lps K85 0).1 (lps K85 0).2 [(13,.str (getM [] v16)),(14,.nils),(50,.osl 4 5 0 (List.length v38)),(51,.int .i64 ↑(List.length v38)),(52,.i 0)] [.box n.1.c.ze,.box [.i n.1.day],.box [.i n.1.fin],.box [.sl n.1.f.length 3 (fxG n.1.f),.sl n.1.h.length 4 (chG n.1.h)],.arr (List.length v38) 5 (flG v38)])) (.leaf zY.gone)) (.leaf zY.gone)) (.D (Con.kind c=5) (.ex (λ(x:FI×Int)=>eqL v31 [.i x.2,.ptr 0 0,.ptr 1 0]/\eqH v33 [.box x.1.c.ze,.box [.sl x.1.f.length 3 (fxG x.1.f),.sl x.1.h.length 4 (chG x.1.h)]]/\2=2/\VI.ok { x:=Con.x x.1.c,day:=x.2,f:=FI.f x.1,c:=FI.h x.1 } /\ qy Xp (holM (Con.x x.1.c) x.2 x.1.f x.1.h)) λn_1=>let v19:=holM (Con.x n_1.1.c) n_1.2 n_1.1.f n_1.1.h;.ite (okM v19) (.ex (λ(x:FI×Bool)=>let v24:=FI.kid x.1 (Bool.toNat x.2);eqL [.bool !getM false v19,.ptr 0 0,.ptr 1 0,.ptr 2 0,.ptr 3 0] [.bool x.2,.ptr 0 0,.ptr 1 0,.ptr 2 0,.ptr 3 0]/\eqH [.box n_1.1.c.ze,.box v17,.box v27,.box [.sl n_1.1.f.length 3 (fxG n_1.1.f),.sl n_1.1.h.length 4 (chG n_1.1.h)]] [.box x.1.c.ze,.box [.i x.1.day],.box [.i x.1.fin],.box [.sl x.1.f.length 3 (fxG x.1.f),.sl x.1.h.length 4 (chG x.1.h)]]/\4=4/\Bool.toNat x.2<List.length (Con.sub x.1.c)/\FI.G v24/\Con.nodes v24.c<n/\qy Xp v24.val) λn=>let v7:=FI.val (FI.kid n.1 (Bool.toNat n.2));.ite (okM v7) (.R [.osl 4 5 0 (List.length (getM [] v7))] [.box n.1.c.ze,.box [.i n.1.day],.box [.i n.1.fin],.box [.sl n.1.f.length 3 (fxG n.1.f),.sl n.1.h.length 4 (chG n.1.h)],.arr (List.length (getM [] v7)) 5 (flG (getM [] v7))]) (.leaf zY.gone)) (.leaf zY.gone)) (.D (Con.kind c=7) (.ex (q59 v31 [.box v1,.box c.ze]) λn_1=>.A λn_2=>.ex (λ(x:FI×Bool)=>let v25:=FI.kid x.1 (Bool.toNat x.2);eqL [.bool !qg n_1.1.h (Con.src n_1.1.c) (Con.name n_1.1.c) n_1.2,.ptr 0 0,.ptr 1 0,.ptr 2 0,.ptr 3 0] [.bool x.2,.ptr 0 0,.ptr 1 0,.ptr 2 0,.ptr 3 0]/\eqH [.box n_1.1.c.ze,.box v17,.box v27,.box [.sl n_1.1.f.length 3 (fxG n_1.1.f),.sl n_1.1.h.length 4 (chG n_1.1.h)]] [.box x.1.c.ze,.box [.i x.1.day],.box [.i x.1.fin],.box [.sl x.1.f.length 3 (fxG x.1.f),.sl x.1.h.length 4 (chG x.1.h)]]/\4=4/\Bool.toNat x.2<List.length (Con.sub x.1.c)/\FI.G v25/\Con.nodes v25.c<n/\qy Xp v25.val) λn=>let v8:=FI.val (FI.kid n.1 (Bool.toNat n.2));.ite (okM v8) (.R [.osl 4 5 0 (List.length (getM [] v8))] [.box n.1.c.ze,.box [.i n.1.day],.box [.i n.1.fin],.box [.sl n.1.f.length 3 (fxG n.1.f),.sl n.1.h.length 4 (chG n.1.h)],.arr (List.length (getM [] v8)) 5 (flG (getM [] v8))]) (.leaf zY.gone)) (.D (Con.kind c=6) (.D (day<=Con.date c) (.side ((0:Int)<=0/\(0:Int)<(c.sub.length:Int)) (.ex (λ(x:FI)=>eqL [v9,.i c.date,.i fin,.agg v1] [(Con.conA x.c),.i x.day,.i x.fin,.agg [.sl x.f.length 3 (fxG x.f),.sl x.h.length 4 (chG x.h)]]/\eqH [] []/\0=0/\FI.G x/\Con.nodes x.c<n/\qy Xp x.val) λn=>let v34:=getM [] n.val;.ite (okM n.val) (.R [.osl 4 5 0 (List.length v34)] [.box c.ze,.box v28,.box v20,.box v30,.arr (List.length v34) 5 (flG v34)]) (.leaf zY.gone))) (.leaf v3)) (.D (Con.kind c=8) (.side ((0:Int)<=0/\(0:Int)<(c.sub.length:Int)) (.ex (λ(x:FI)=>eqL [(Con.conA c),.i day,.i fin,.fn 116 [] v10] [(Con.conA x.c),.i x.day,.i x.fin,.fn 116 [] v10]/\eqH [.box v1,.box c.ze] [.box [.sl x.f.length 3 (fxG x.f),.sl x.h.length 4 (chG x.h)],.box x.c.ze]/\2=2/\List.length x.h<1099511627776/\List.length (Con.days x.c)<1099511627776/\qy Xp (firstM (choT x) x.day x.fin (Con.days x.c))) λn_1=>let v12:=firstM (choT n_1) n_1.day n_1.fin (Con.days n_1.c);.ite (okM v12) (.side ((List.length n_1.f=f.length/\3=3/\fxG n_1.f=fxG f)/\(List.length n_1.h=h.length/\4=4/\chG n_1.h=chG h)/\True) (.side (List.length (Con.sub n_1.c)=List.length c.sub/\12=12/\Con.conG (Con.sub n_1.c)=Con.conG c.sub) (.ex (λ(x:FI)=>eqL [v9,.i (getM (0:Int) v12),.i fin,.agg v1] [(Con.conA x.c),.i x.day,.i x.fin,.agg [.sl x.f.length 3 (fxG x.f),.sl x.h.length 4 (chG x.h)]]/\eqH [] []/\0=0/\FI.G x/\Con.nodes x.c<n/\qy Xp x.val) λn=>let v35:=getM [] n.val;.ite (okM n.val) (.R [.osl 4 5 0 (List.length v35)] [.box n_1.c.ze,.box v28,.box v20,.box [.sl n_1.f.length 3 (fxG n_1.f),.sl n_1.h.length 4 (chG n_1.h)],.arr (List.length v35) 5 (flG v35)]) (.leaf zY.gone)))) (.leaf zY.gone))) (.D (Con.kind c=9) (.side ((0:Int)<=0/\(0:Int)<(c.sub.length:Int)) (.ex (λ(x:FI)=>eqL [(Con.conA c),.i day,.i fin,.fn 118 [] v10] [(Con.conA x.c),.i x.day,.i x.fin,.fn 118 [] v10]/\eqH v33 [.box x.c.ze,.box [.sl x.f.length 3 (fxG x.f),.sl x.h.length 4 (chG x.h)]]/\2=2/\(∀ (d:Int),VI.ok { x:=Con.x x.c,day:=d,f:=FI.f x,c:=FI.h x })/\List.length (Con.days x.c)<1099511627776/\qy Xp (firstM (holT x) x.day x.fin (Con.days x.c))) λn_1=>let v13:=firstM (holT n_1) n_1.day n_1.fin (Con.days n_1.c);.ite (okM v13) (.side ((List.length n_1.f=f.length/\3=3/\fxG n_1.f=fxG f)/\(List.length n_1.h=h.length/\4=4/\chG n_1.h=chG h)/\True) (.side (List.length (Con.sub n_1.c)=List.length c.sub/\12=12/\Con.conG (Con.sub n_1.c)=Con.conG c.sub) (.ex (λ(x:FI)=>eqL [v9,.i day,.i (getM (0:Int) v13),.agg v1] [(Con.conA x.c),.i x.day,.i x.fin,.agg [.sl x.f.length 3 (fxG x.f),.sl x.h.length 4 (chG x.h)]]/\eqH [] []/\0=0/\FI.G x/\Con.nodes x.c<n/\qy Xp x.val) λn=>let v36:=getM [] n.val;.ite (okM n.val) (.R [.osl 4 5 0 (List.length v36)] [.box n_1.c.ze,.box v28,.box v20,.box [.sl n_1.f.length 3 (fxG n_1.f),.sl n_1.h.length 4 (chG n_1.h)],.arr (List.length v36) 5 (flG v36)]) (.leaf zY.gone)))) (.leaf zY.gone))) (.D (Con.kind c=10) (.side ((0:Int)<=0/\(0:Int)<(c.sub.length:Int)) (.ex (λ(x:FI)=>eqL [(Con.conA c),.i day,.i fin,.fn 118 [] v10] [(Con.conA x.c),.i x.day,.i x.fin,.fn 118 [] v10]/\eqH v33 [.box x.c.ze,.box [.sl x.f.length 3 (fxG x.f),.sl x.h.length 4 (chG x.h)]]/\2=2/\(∀ (d:Int),VI.ok { x:=Con.x x.c,day:=d,f:=FI.f x,c:=FI.h x })/\List.length (Con.days x.c)<1099511627776/\qy Xp (firstM (holT x) x.day x.fin (Con.days x.c))) λn_1=>let v14:=firstM (holT n_1) n_1.day n_1.fin (Con.days n_1.c);.ite (okM v14) (.side ((List.length n_1.f=f.length/\3=3/\fxG n_1.f=fxG f)/\(List.length n_1.h=h.length/\4=4/\chG n_1.h=chG h)/\True) (.side (List.length (Con.sub n_1.c)=List.length c.sub/\12=12/\Con.conG (Con.sub n_1.c)=Con.conG c.sub) (.ex (λ(x:FI)=>eqL [v9,.i (getM (0:Int) v14),.i fin,.agg v1] [(Con.conA x.c),.i x.day,.i x.fin,.agg [.sl x.f.length 3 (fxG x.f),.sl x.h.length 4 (chG x.h)]]/\eqH [] []/\0=0/\FI.G x/\Con.nodes x.c<n/\qy Xp x.val) λn=>let v37:=getM [] n.val;.ite (okM n.val) (.R [.osl 4 5 0 (List.length v37)] [.box n_1.c.ze,.box v28,.box v20,.box [.sl n_1.f.length 3 (fxG n_1.f),.sl n_1.h.length 4 (chG n_1.h)],.arr (List.length v37) 5 (flG v37)]) (.leaf zY.gone)))) (.leaf zY.gone))) (.leaf v3))))))))))) (by kernel_rfl) ?_;simp only [q59,q60,Tree.holds,zf,inR,lo,hi,Int.toNat_natCast];obtain⟨g1,g2,g3,g4⟩:=h1;simp only at g1 g2 g3 g4;have hv:FI.val ⟨c,day,fin,f,h⟩=flM f h c day fin:=rfl;rw [hv] at h3
 have hQ:∀ l,flM f h c day fin = .ok l->Q (.osl 0 5 0 l.length,[.arr l.length 5 (flG l)]):=by
  intro l hl;have:=hq (by rw [hv,hl]; rfl);rw [hv,hl] at this;exact this
 clear hq
 have ret:∀ (l:List Fl) (m:Nat) (g:Nat->Nat->AV) (b0 b1 b2 b3:Blk) (rest:Heap),flM f h c day fin = .ok l->m=l.length->eqG m 5 g (flG l)->RetR (flC FI.G (n+1) Xp) 0 (upQ Q) [.osl 4 5 0 m] (b0::b1::b2::b3::.arr m 5 g::rest):=by
  intro l m g b0 b1 b2 b3 rest hl hm hg;subst hm;exact RetR.zc4 (Q:=upQ Q) [4] rfl (by simp) (by simp) rfl (.inl (hQ l hl)) (LeA.refl _) ⟨LeB.arr λj o hj ho=>by rw [hg j o hj ho]; exact LeA.refl _,trivial⟩
 have nil:∀ hs:Heap,flM f h c day fin = .ok []->RetR (flC FI.G (n+1) Xp) 0 (upQ Q) [.nils] hs:=by
  intro hs hl;exact RetR.le0 (Q:=upQ Q) (r:=.nils) (.inr ⟨.osl 0 5 0 0,[(5,flG [])],⟨⟨Nat.le_refl _,Nat.zero_lt_one⟩,rfl,rfl⟩,hQ [] hl⟩) (λh=>by cases h) (LeA.refl _)
 have hbig:=Con.yV c;have hnod:=Con.vS c;have hform:=g1;rw [Con.znh,Bool.and_eq_true] at hform;obtain⟨hnb,hfs⟩:=hform
 have kidG:∀ (i:Nat) (d e:Int),i<c.sub.length->FI.G ⟨c.sub.getD i Con.nil,d,e,f,h⟩/\(c.sub.getD i Con.nil).nodes<n:=by
  intro i d e hi;have k1:=Con.wS hi;have k2:=Con.JO hi;refine⟨⟨?_,by show(c.sub.getD i Con.nil).big<_; omega,by show(c.sub.getD i Con.nil).nodes<_; omega,g4⟩,by omega⟩;cases hf:(c.sub.getD i Con.nil).form with
  | true=>rfl
  | false=>rw [Con.Ki c.sub i hi hf] at hfs; cases hfs
 have okx:∀ d,VI.ok ⟨c.x,d,f,h⟩:=λd=>⟨by show c.x.size<_; omega,by show c.x.zH<_; omega,g4⟩
 have hhl:h.length<2^40:=g4.2.1;have hdl:c.days.length<2^40:=by omega
 have eC:eqH (FI.mk c day fin f h).hC (FI.mk c day fin f h).hC:=by simp [FI.hC,Con.ze,Con.qH,fxS,chS,Ex.exS,Con.dayS,Con.conS,za]
 have eT:eqH (FI.mk c day fin f h).hH (FI.mk c day fin f h).hH:=by simp [FI.hH,Con.ze,Con.qH,fxS,chS,Ex.exS,Con.dayS,Con.conS,za]
 have eV:eqH (FI.mk c day fin f h).hV (FI.mk c day fin f h).hV:=by simp [FI.hV,Con.ze,Con.qH,fxS,chS,Ex.exS,Con.dayS,Con.conS,za]
 have eH:eqH (FI.mk c day fin f h).heap (FI.mk c day fin f h).heap:=by simp [FI.heap,Con.ze,Con.qH,fxS,chS,Ex.exS,Con.dayS,Con.conS,za]
 have eA:eqA (envA f h) (envA f h):=⟨⟨rfl,rfl,λ_ _ _ _=>rfl⟩,⟨rfl,rfl,λ_ _ _ _=>rfl⟩,trivial⟩;have hst:=h3;refine⟨λh0=> ?_,λh0=> ?_⟩
 ·refine nil _ ?_;rw [kH,if_pos (of_decide_eq_true h0)]
 have h0:=of_decide_eq_false h0;have hfl:=kH f h c day fin;rw [if_neg h0] at hfl;refine⟨λhk=> ?_,λnk2=>⟨λhk=> ?_,λnk3=>⟨λhk=> ?_,λnk4=>⟨λhk=> ?_,λnk5=>⟨λhk=> ?_,λnk7=>⟨λhk=> ?_,λnk6=>⟨λhk=> ?_,λnk8=>⟨λhk=> ?_,λnk9=>⟨λhk=> ?_,λnk10=> ?_⟩⟩⟩⟩⟩⟩⟩⟩⟩
 ·have hk:=of_decide_eq_true hk;simp only [hk,Int.reduceEq,if_true,if_false,reduceIte] at hfl;rw [hfl] at h3;refine⟨⟨c,day,fin,f,h⟩,⟨by simp,eV,trivial,okx _,(j6 h3).1⟩,λho=>⟨rfl,λ_=>⟨rfl,λ_=>⟨rfl,λ_=>⟨rfl,λ_=> ?_⟩⟩⟩⟩,λ_=>trivial⟩;have hr:valM c.x day f h = .ok (getM [] (valM c.x day f h)):=qN ho;have hr2:=QC hr;refine⟨⟨day,c.src,c.dst,c.name,getM [] (valM c.x day f h)⟩,⟨by simp,(uR hr2).2.2,?_⟩,⟨(),trivial⟩,λ_ _=> ?_⟩
  ·show List.length (getM [] (valM c.x day f h))<_;have:=vj hr2;omega
  ·refine ret (payF day c.src c.dst c.name (getM [] (valM c.x day f h))) _ _ _ _ _ _ _ ?_ rfl (za _ _ _);rw [hfl,hr];rfl
 ·have hk:=of_decide_eq_true hk;simp only [hk,ky] at hnb;have hl:c.sub.length=2:=by simp at hnb; omega
  simp only [hk,Int.reduceEq,if_true,if_false,reduceIte] at hfl;rw [hfl] at h3;obtain⟨s1,s2⟩:=j6 h3;refine⟨(⟨c,day,fin,f,h⟩,false),⟨by simp,eH,trivial,by show 0<c.sub.length; omega,(kidG 0 _ _ (by omega)).1,(kidG 0 day fin (by omega)).2,s1⟩,λho=> ?_,λ_=>trivial⟩;have hr:flM f h (c.sub.getD 0 Con.nil) day fin = .ok (getM [] (flM f h (c.sub.getD 0 Con.nil) day fin)):=qN ho;obtain⟨s3,s4⟩:=j6 (s2 _ hr);refine⟨(⟨c,day,fin,f,h⟩,true),⟨by simp,eH,trivial,by show 1<c.sub.length; omega,(kidG 1 _ _ (by omega)).1,(kidG 1 day fin (by omega)).2,s3⟩,λho2=> ?_,λ_=>trivial⟩;have hr2:flM f h (c.sub.getD 1 Con.nil) day fin = .ok (getM [] (flM f h (c.sub.getD 1 Con.nil) day fin)):=qN ho2;have l1:=(JX _ hr).1;have l2:=(JX _ hr2).1;have n1:(c.sub.getD 0 Con.nil).nodes<2^20:=(kidG 0 day fin (by omega)).1.2.2.1;have n2:(c.sub.getD 1 Con.nil).nodes<2^20:=(kidG 1 day fin (by omega)).1.2.2.1;refine⟨⟨trivial,Nat.le_refl _,?_⟩,λ_=> ?_⟩
  ·show((getM [] (flM f h (c.sub.getD 0 Con.nil) day fin)).length+(getM [] (flM f h (c.sub.getD 1 Con.nil) day fin)).length)*72<=_;omega
  ·refine ret (getM [] (flM f h (c.sub.getD 0 Con.nil) day fin)++getM [] (flM f h (c.sub.getD 1 Con.nil) day fin)) _ _ _ _ _ _ _ ?_ (by rw [List.length_append]; rfl) ?_
   ·rw [hfl,hr,hr2]; rfl
   ·intro j k hj hk;show appG (getM [] (flM f h (c.sub.getD 0 Con.nil) day fin)).length (flG (getM [] (flM f h (c.sub.getD 0 Con.nil) day fin))) (zi (flG (getM [] (flM f h (c.sub.getD 1 Con.nil) day fin))) 0) j k=_;have:=uV (o:=getM [] (flM f h (c.sub.getD 0 Con.nil) day fin)) (a:=getM [] (flM f h (c.sub.getD 1 Con.nil) day fin)) rfl rfl j k hj hk;rw [<- this];simp only [appG,zi,Nat.zero_add]
 ·have hk:=of_decide_eq_true hk;simp only [hk,ky] at hnb;have hl:c.sub.length=1:=by simp at hnb; omega
  simp only [hk,Int.reduceEq,if_true,if_false,reduceIte] at hfl;rw [hfl] at h3;obtain⟨s1,s2⟩:=j6 h3;refine⟨⟨c,day,fin,f,h⟩,⟨by simp,eV,trivial,okx _,s1⟩,λho=> ?_,λ_=>trivial⟩;have hr:valM c.x day f h = .ok (getM [] (valM c.x day f h)):=qN ho;obtain⟨s3,s4⟩:=j6 (s2 _ hr);refine⟨(⟨c,day,fin,f,h⟩,false),⟨by simp,eH,trivial,by show 0<c.sub.length; omega,(kidG 0 _ _ (by omega)).1,(kidG 0 day fin (by omega)).2,s3⟩,λho2=> ?_,λ_=>trivial⟩;have hr2:flM f h (c.sub.getD 0 Con.nil) day fin = .ok (getM [] (flM f h (c.sub.getD 0 Con.nil) day fin)):=qN ho2;have s5:=s4 _ hr2;have n1:(c.sub.getD 0 Con.nil).nodes<2^20:=(kidG 0 day fin (by omega)).1.2.2.1;obtain⟨l1,l2⟩:=JX _ hr2;have hr3:=QC hr;rw [hr,hr2] at hfl;show qn Xp none Tryz.prog Tryz.f85 O 0 w0 I0 (λ_ _ _=>False) (RetR (flC FI.G (n+1) Xp) 0 (upQ Q)) (.code (.loop (lps K85 0).1)::(lps K85 0).2) (mk Tryz.f85.ntmps [(13,.str (getM [] (valM c.x day f h))),(14,.nils),(50,.osl 4 5 0 (getM [] (flM f h (c.sub.getD 0 Con.nil) day fin)).length),(51,.i ((getM [] (flM f h (c.sub.getD 0 Con.nil) day fin)).length:Int)),(52,.i 0)] [.box c.ze,.box [.i day],.box [.i fin],.box [.sl f.length 3 (fxG f),.sl h.length 4 (chG h)],.arr (getM [] (flM f h (c.sub.getD 0 Con.nil) day fin)).length 5 (flG (getM [] (flM f h (c.sub.getD 0 Con.nil) day fin)))]);change flM f h c day fin=qV (getM [] (valM c.x day f h)) (getM [] (flM f h (c.sub.getD 0 Con.nil) day fin)) at hfl;generalize getM [] (flM f h (c.sub.getD 0 Con.nil) day fin)=u at hfl s5 l1 l2 ⊢;generalize getM [] (valM c.x day f h)=r at hfl s5 hr3 ⊢;exact za3 ih hfl s5 (by omega) l2 hr3 hQ
 ·have hk:=of_decide_eq_true hk;simp only [hk,ky] at hnb;have hl:c.sub.length=2:=by simp at hnb; omega
  simp only [hk,Int.reduceEq,if_true,if_false,reduceIte] at hfl;rw [hfl] at h3;obtain⟨s1,s2⟩:=j6 h3;refine⟨(⟨c,day,fin,f,h⟩,day),⟨by simp,eT,trivial,okx _,s1⟩,λho=> ?_,λ_=>trivial⟩;have hr:holM c.x day f h = .ok (getM false (holM c.x day f h)):=qN ho;have s3:=s2 _ hr;have eb:(if getM false (holM c.x day f h)=true then 0 else 1)=(!getM false (holM c.x day f h)).toNat:=by cases getM false (holM c.x day f h)<;>rfl
  have hb:(!getM false (holM c.x day f h)).toNat<c.sub.length:=by rw [hl]; cases getM false (holM c.x day f h)<;>decide
  rw [eb] at s3;refine⟨(⟨c,day,fin,f,h⟩,!getM false (holM c.x day f h)),⟨by simp,eH,trivial,hb,(kidG _ _ _ hb).1,(kidG _ day fin hb).2,s3⟩,λho2=> ?_,λ_=>trivial⟩;have hr2:=qN (d:=[]) ho2;refine ret _ _ _ _ _ _ _ _ ?_ rfl (za _ _ _);rw [hfl,hr];show flM f h (c.sub.getD (if getM false (holM c.x day f h)=true then 0 else 1) Con.nil) day fin=_;rw [eb];exact hr2
 ·have hk:=of_decide_eq_true hk;simp only [hk,ky] at hnb;have hl:c.sub.length=2:=by simp at hnb; omega
  simp only [hk,Int.reduceEq,if_true,if_false,reduceIte] at hfl;rw [hfl] at h3;refine⟨(⟨c,day,fin,f,h⟩,day),⟨by simp,eC,trivial,hhl⟩,⟨(),trivial⟩,λ_ _=> ?_⟩;have eb:(if qg h c.src c.name day=true then 0 else 1)=(!qg h c.src c.name day).toNat:=by cases qg h c.src c.name day<;>rfl
  have hb:(!qg h c.src c.name day).toNat<c.sub.length:=by rw [hl]; cases qg h c.src c.name day<;>decide
  rw [eb] at h3 hfl;refine⟨(⟨c,day,fin,f,h⟩,!qg h c.src c.name day),⟨by simp,eH,trivial,hb,(kidG _ _ _ hb).1,(kidG _ day fin hb).2,h3⟩,λho2=> ?_,λ_=>trivial⟩;have hr2:=qN (d:=[]) ho2;refine ret _ _ _ _ _ _ _ _ ?_ rfl (za _ _ _);rw [hfl];exact hr2
 ·have hk:=of_decide_eq_true hk;simp only [hk,ky] at hnb;have hl:c.sub.length=1:=by simp at hnb; omega
  simp only [hk,Int.reduceEq,if_true,if_false,reduceIte] at hfl;refine⟨λhd=> ?_,λhd=> ?_⟩
  ·rw [if_pos (of_decide_eq_true hd)] at hfl;rw [hfl] at h3;refine⟨⟨by decide,by omega⟩,λ_=>⟨⟨c.sub.getD 0 Con.nil,c.date,fin,f,h⟩,⟨⟨wa _,⟨rfl,rfl⟩,⟨rfl,rfl⟩,eA,trivial⟩,trivial,trivial,(kidG 0 _ _ (by omega)).1,(kidG 0 day fin (by omega)).2,h3⟩,λho2=> ?_,λ_=>trivial⟩⟩;have hr2:=qN (d:=[]) ho2;refine ret _ _ _ _ _ _ _ _ ?_ rfl (za _ _ _);rw [hfl];exact hr2
  ·rw [if_neg (of_decide_eq_false hd)] at hfl;exact nil _ hfl
 ·have hk:=of_decide_eq_true hk;simp only [hk,ky] at hnb;have hl:c.sub.length=1:=by simp at hnb; omega
  simp only [hk,Int.reduceEq,if_true,if_false,reduceIte] at hfl;rw [hfl] at h3;obtain⟨s1,s2⟩:=j6 h3;refine⟨⟨by decide,by omega⟩,λ_=>⟨⟨c,day,fin,f,h⟩,⟨⟨qQ c,⟨rfl,rfl⟩,⟨rfl,rfl⟩,by simp,trivial⟩,eC,trivial,hhl,hdl,s1⟩,λho=>⟨⟨⟨rfl,trivial,rfl⟩,⟨rfl,trivial,rfl⟩,trivial⟩,λ_=>⟨⟨rfl,trivial,rfl⟩,λ_=> ?_⟩⟩,λ_=>trivial⟩⟩;have hr:=qN (d:=0) ho;refine⟨⟨c.sub.getD 0 Con.nil,getM 0 (firstM (choT ⟨c,day,fin,f,h⟩) day fin c.days),fin,f,h⟩,⟨⟨wa _,⟨rfl,rfl⟩,⟨rfl,rfl⟩,eA,trivial⟩,trivial,trivial,(kidG 0 _ _ (by omega)).1,(kidG 0 day fin (by omega)).2,s2 _ hr⟩,λho2=> ?_,λ_=>trivial⟩;have hr2:=qN (d:=[]) ho2;refine ret _ _ _ _ _ _ _ _ ?_ rfl (za _ _ _);rw [hfl];have hr':firstM (λt=>.ok (qg h c.src c.name t)) day fin c.days = .ok (getM 0 (firstM (choT ⟨c,day,fin,f,h⟩) day fin c.days)):=hr;rw [hr'];exact hr2
 ·have hk:=of_decide_eq_true hk;simp only [hk,ky] at hnb;have hl:c.sub.length=1:=by simp at hnb; omega
  simp only [hk,Int.reduceEq,if_true,if_false,reduceIte] at hfl;rw [hfl] at h3;obtain⟨s1,s2⟩:=j6 h3;refine⟨⟨by decide,by omega⟩,λ_=>⟨⟨c,day,fin,f,h⟩,⟨⟨qQ c,⟨rfl,rfl⟩,⟨rfl,rfl⟩,by simp,trivial⟩,eT,trivial,okx,hdl,s1⟩,λho=>⟨⟨⟨rfl,trivial,rfl⟩,⟨rfl,trivial,rfl⟩,trivial⟩,λ_=>⟨⟨rfl,trivial,rfl⟩,λ_=> ?_⟩⟩,λ_=>trivial⟩⟩;have hr:=qN (d:=0) ho;refine⟨⟨c.sub.getD 0 Con.nil,day,getM 0 (firstM (holT ⟨c,day,fin,f,h⟩) day fin c.days),f,h⟩,⟨⟨wa _,⟨rfl,rfl⟩,⟨rfl,rfl⟩,eA,trivial⟩,trivial,trivial,(kidG 0 _ _ (by omega)).1,(kidG 0 day fin (by omega)).2,s2 _ hr⟩,λho2=> ?_,λ_=>trivial⟩;have hr2:=qN (d:=[]) ho2;refine ret _ _ _ _ _ _ _ _ ?_ rfl (za _ _ _);rw [hfl];have hr':firstM (λt=>holM c.x t f h) day fin c.days = .ok (getM 0 (firstM (holT ⟨c,day,fin,f,h⟩) day fin c.days)):=hr;rw [hr'];exact hr2
 ·have hk:=of_decide_eq_true hk;simp only [hk,ky] at hnb;have hl:c.sub.length=1:=by simp at hnb; omega
  simp only [hk,Int.reduceEq,if_true,if_false,reduceIte] at hfl;rw [hfl] at h3;obtain⟨s1,s2⟩:=j6 h3;refine⟨⟨by decide,by omega⟩,λ_=>⟨⟨c,day,fin,f,h⟩,⟨⟨qQ c,⟨rfl,rfl⟩,⟨rfl,rfl⟩,by simp,trivial⟩,eT,trivial,okx,hdl,s1⟩,λho=>⟨⟨⟨rfl,trivial,rfl⟩,⟨rfl,trivial,rfl⟩,trivial⟩,λ_=>⟨⟨rfl,trivial,rfl⟩,λ_=> ?_⟩⟩,λ_=>trivial⟩⟩;have hr:=qN (d:=0) ho;refine⟨⟨c.sub.getD 0 Con.nil,getM 0 (firstM (holT ⟨c,day,fin,f,h⟩) day fin c.days),fin,f,h⟩,⟨⟨wa _,⟨rfl,rfl⟩,⟨rfl,rfl⟩,eA,trivial⟩,trivial,trivial,(kidG 0 _ _ (by omega)).1,(kidG 0 day fin (by omega)).2,s2 _ hr⟩,λho2=> ?_,λ_=>trivial⟩;have hr2:=qN (d:=[]) ho2;refine ret _ _ _ _ _ _ _ _ ?_ rfl (za _ _ _);rw [hfl];have hr':firstM (λt=>holM c.x t f h) day fin c.days = .ok (getM 0 (firstM (holT ⟨c,day,fin,f,h⟩) day fin c.days)):=hr;rw [hr'];exact hr2
 ·refine nil _ ?_;have n2:=of_decide_eq_false nk2;have n3:=of_decide_eq_false nk3;have n4:=of_decide_eq_false nk4;have n5:=of_decide_eq_false nk5;have n6:=of_decide_eq_false nk6;have n7:=of_decide_eq_false nk7;have n8:=of_decide_eq_false nk8;have n9:=of_decide_eq_false nk9;have n10:=of_decide_eq_false nk10;rw [hfl,if_neg n2,if_neg n3,if_neg n4,if_neg n5,if_neg n6,if_neg n7,if_neg n8,if_neg n9,if_neg n10]
theorem zel(Xp:List PanicEntry->Prop)(n:Nat):zy Xp Tryz.prog 85 (flC FI.G n Xp):=by
 induction n with
 | zero=>
  intro args hc Q hq _;obtain⟨x,⟨_,_,_,_,h,_⟩,_⟩:=hq;exact absurd h (Nat.not_lt_zero _)
 | succ n ih=>exact Un ih
def flR(Xp:List PanicEntry->Prop):Ctr:=ctrS (λk:FI=>[k.c.conA,.i k.day,.i k.fin,envA k.f k.h]) (λ_=>[]) (λk=>k.G/\qy Xp k.val) (λk=>okM k.val) (λk=>(flS (getM [] k.val),[]))
theorem Ug(Xp:List PanicEntry->Prop):zy Xp Tryz.prog 85 (flR Xp):=by
 intro args hc Q hq hf;obtain⟨x,⟨h1,h2,h3,h4,h5⟩,h6⟩:=hq;refine zy.zn9 (out':=λk=>flS (getM [] k.val)) (zel Xp (x.c.nodes+1)) (λk=>LeA.sl rfl λj o _ _=> ?_) args hc Q ⟨x,⟨h1,h2,h3,h4,Nat.lt_succ_self _,h5⟩,h6⟩ hf;simp only [zi,Nat.zero_add];exact LeA.refl _
end Go.Proofs.Tryz
end
section
namespace Go.Sx
variable [Stat]
section
variable {F:Fence} {n:Nat} {P:Program} {ops:Array Oper} {Q Q':Exit->Act->World->Prop}
end
def uj(O:Nat->Prop)(w:World)(I0:List SE)(ctr:Ctr)(hc:Heap)(Q:AV×Heap->Prop)(e:Ending)(w':World):Prop:=
 ∃ v',e = .returned v'/\∃ r hs Z',Q (r,hs)/\Rep (λb=>Own O Z' b\/(ctr.fresh=true/\b<w.heap.size)) w' r Z' v' /\
  HRep (λb=>Own O Z' b\/(ctr.fresh=true/\b<w.heap.size)) w' Z' hs/\Good O w' Z'/\hc.length<=hs.length/\Hold (if ctr.vw=true then(List.range hc.length).drop ctr.pins else []) w I0 w' Z'/\Ext (Mine I0) w (Mine Z') w'
theorem zda{P:Program}{fn:Func}{ctr:Ctr}{hc:Heap}{Q:AV×Heap->Prop}{O:Nat->Prop}{w:World}{I0:List SE}(hh:I0.length=hc.length)(hfr:ctr.fresh=true->hc=[]) :
  ∀ (st:St) (σ:List SE) (a':Act) (w':World),((resX P st fn.results.toList).holds λrs=>RetR ctr hc.length Q rs st.heap)->Mod O (vG ctr hc) w I0 w' σ st a'->∃ v,(results fn a'.tmps).run P w' = .ok v w'/\uj O w I0 ctr hc Q (.returned v) w':=by
 intro st σ a' w' hR hm;obtain⟨rs,v,h1,⟨M,h2,h3,h4,h5,r0,hs0,hq1,hq2,hq3,h6⟩,h7⟩:=yP hm hR
 let EM:List SE:=M.map λi=>σ.getD i ⟨none,0⟩
 have hMZ:∀ i∈M,i<σ.length:=λi hi=>by rw [hm.hp.len]; exact h3 i hi
 have hget:∀ j:Nat,EM[j]?=(M[j]?).bind λi=>σ[i]?:=by
  intro j;simp only [EM,List.getElem?_map];cases hj:M[j]? with
  | none=>rfl
  | some i=>
   have:=hMZ i (List.mem_of_getElem? hj);simp [this]
 have hnewO:ctr.fresh=true->∀ b,Mine σ b->w.heap.size<=b:=by
  intro hf b hb;have h0:=hfr hf;have hZ0:I0=[]:=by have:=hh; rw [h0] at this; exact List.length_eq_zero_iff.1 (by simpa using this)
  obtain⟨i,e,ad,g1,g2,g3⟩:=zx.1 hb;rcases hm.since.ext.grow b (.inr hb) with hx | hx
  ·rcases hx with hx | ⟨e',he',_⟩
   ·exact absurd (g3▸hx) (hm.good.dis i e ad g1 g2)
   ·rw [hZ0] at he'; simp at he'
  ·exact hx
 have X:Exp O w' σ st.heap M EM (λb=>Own O EM b\/(ctr.fresh=true/\b<w.heap.size)):=⟨hm.good,hm.hp,h2,h3,hget,λb hb=>by
  rcases hb with hb | ⟨hf,hb⟩
  ·exact .inl hb
  ·exact .inr λhmn=>by have:=hnewO hf b hmn; omega⟩
 have hor:∀ {p:Prop},(ctr.fresh=true->p)->(∀ b,(Own O EM b\/(ctr.fresh=true/\b<w.heap.size))->Own O σ b)\/p:=by
  intro p hp;cases hf:ctr.fresh with
  | true=>exact .inr (hp hf)
  | false=>
   left;rintro b (hb | ⟨hf',_⟩)
   ·exact X.sub hb
   ·cases hf'
 have hmlen:hc.length<=M.length:=by
  rcases Nat.lt_or_ge M.length hc.length with hlt | hge
  ·have:=h4 M.length hlt;simp at this
  ·exact hge
 refine⟨v,h1,v,rfl,r0,hs0,EM,h6,hq1 _ _ _ _ (uC X (hor λhf=>(h5 hf).1) h7),⟨?_,?_,?_,?_⟩,⟨?_,?_,hm.good.stat.own λb hb=>hb.imp id λ⟨e,he,ad,h1,h2⟩=>by
  obtain⟨j,hj⟩:=List.mem_iff_getElem?.1 he;obtain⟨i,_,g2⟩:=X.get' hj;exact⟨e,List.mem_of_getElem? g2,ad,h1,h2⟩⟩,by omega,?_,?_⟩
 ·simp [EM,hq3]
 ·intro i j e f a b he hf ha hb' hij;obtain⟨i',g1,g2⟩:=X.get' he;obtain⟨j',g3,g4⟩:=X.get' hf;refine hm.hp.inj i' j' e f a b g2 g4 ha hb' ?_;rintro rfl;have g5:=w7 h2 g1;have g6:=w7 h2 g3;rw [g5] at g6; cases g6; exact hij rfl
 ·intro i e a he ha;obtain⟨i',g1,g2⟩:=X.get' he;exact hm.hp.lt i' e a g2 ha
 ·intro j e b he hb';obtain⟨i,g1,g2⟩:=X.get' he;have hb2:(expH st.heap M)[j]?=some (expB st.heap M (st.heap.getD i .dead)):=by simp only [expH,List.getElem?_map,g1,Option.map_some]
  refine(hq2.elim (λhq2=>LeB.of_eq (yv hq2 hb2 hb')) λhq2=>JC hq2 hb2 hb') _ _ _ _ ?_;have hlt:=h3 i (List.mem_of_getElem? g1);have hgd:st.heap.getD i .dead=st.heap[i]:=by simp [hlt]
  have hbr:=hm.hp.blk i e _ g2 (List.getElem?_eq_getElem hlt);rw [<- hgd] at hbr;exact WL X (hor λhf=>(h5 hf).2 i (List.mem_of_getElem? g1)) hbr
 ·exact hm.good.old
 ·intro i e ad he had;obtain⟨i',g1,g2⟩:=X.get' he;exact hm.good.dis i' e ad g2 had
 ·cases hmv:ctr.vw with
  | true=>
   intro i e he hi;have hlt:=(List.getElem?_eq_some_iff.1 he).1;rw [hh] at hlt
   have hip:i<ctr.pins:=by
    refine Decidable.byContradiction λg=>hi ?_
    rw [if_pos rfl];refine List.mem_iff_getElem?.2 ⟨i - ctr.pins,?_⟩;rw [List.getElem?_drop,show ctr.pins+(i - ctr.pins)=i by omega];exact List.getElem?_range hlt
   obtain⟨g1,g2⟩:=hm.since.hold i e (by simpa [vG,hmv] using hip) he;exact⟨by rw [hget,h4 i hlt]; exact g1,g2⟩
  | false=>
   intro i e he _;have hlt:=(List.getElem?_eq_some_iff.1 he).1;rw [hh] at hlt;obtain⟨g1,g2⟩:=hm.since.hold i e (by simpa [vG,hmv] using hlt) he;exact⟨by rw [hget,h4 i hlt]; exact g1,g2⟩
 ·refine⟨hm.since.ext.os,hm.since.ext.tape,hm.since.ext.output,hm.since.ext.size,λb hb' hno=> ?_,λb hb'=> ?_⟩
  ·by_cases hOb:O b
   ·exact hm.since.jT b hOb hb'
   ·exact hm.since.ext.keep b hb' (λhx=>by rcases hx with hx | hx; exact hOb hx; exact hno hx)
  ·rcases X.sub (.inr hb') with hx | hx
   ·obtain⟨j,e,ad,g1,g2,g3⟩:=zx.1 hb';obtain⟨i,_,g4⟩:=X.get' g1;exact absurd (g3▸hx) (hm.good.dis i e ad g4 g2)
   ·obtain⟨i,e,ad,g1,g2,g3⟩:=zx.1 hx;rcases hm.since.ext.grow b (.inr hx) with hy | hy
    ·rcases hy with hy | hy
     ·exact absurd (g3▸hy) (hm.good.dis i e ad g1 g2)
     ·exact .inl hy
    ·exact .inr hy
theorem jS{M:Option Nat}{P:Program}{H:Nat->Act->World->Prop}{B B':Exit->Act->World->Prop}(hB:∀ e a w,B e a w->B' e a w):∀ {k:List Item} {e:Exit} {a:Act} {w:World},wpK M P H B k e a w->wpK M P H B' k e a w
 | [],e,a,w,h=>hB _ _ _ h
 | .code c::k,e,a,w,h=>by
  cases e with
  | normal=>exact wpIn_mono h λe a w h=>jS hB h
  | _=>exact jS (k:=k) hB h
 | .inBlock id::k,e,a,w,h=>by
  cases e with
  | normal=>exact jS (k:=k) hB h
  | exit i=>
   simp only [wpK] at h ⊢;split at h
   ·rename_i hi; rw [if_pos hi]; exact jS hB h
   ·rename_i hi; rw [if_neg hi]; exact jS hB h
  | _=>exact jS (k:=k) hB h
 | .inLoop::k,e,a,w,h=>by
  cases e with
  | normal=>exact h
  | _=>exact jS (k:=k) hB h
theorem door{P:Program}{fn:Func}{g:Nat}{c:Code}{ctr:Ctr}(hf:P.funcs[g]?=some fn)(hb:fn.body=some c) (hn:(fn.name == "runtime.NumGoroutine")=false)
  {args:List AV} {hc:Heap} {Q:AV×Heap->Prop} (hfr:ctr.fresh=true->hc=[]) {ι:Type} (S:ι->KV) (H:ι->Heap) (n m:Nat) (hfl:((jm n c).take m).all Qp=true) (hd:j4 ((jm n c).drop m)=0)
  (h1:∀ (O:Nat->Prop) (w0:World) (I0:List SE),I0.length=hc.length->zb P fn O (vG ctr hc) w0 I0 (λ_ kv h=>∃ x,LeK (vG ctr hc) fn.ntmps kv h (S x) (H x)) (RetR ctr hc.length Q) ((jm n c).take m++.inLoop::(jm n c).drop m) (wL fn args hc))
  (h2:∀ (x:ι) (O:Nat->Prop) (w0:World) (I0:List SE) (w:World) (σ:List SE) (a:Act),I0.length=hc.length->Mod O (vG ctr hc) w0 I0 w σ (mk fn.ntmps (S x) (H x)) a ->
   wpK none P (λ_ _ _=>False) (bodyPostM Fence.wide 0 P fn (uj O w0 I0 ctr hc Q)) ((jm n c).drop m) .normal a w):jA P g ctr args hc Q:=by
 intro O w I0 vals hg hh hr;left;have hn':¬ fn.name = "runtime.NumGoroutine" :=by simpa using hn
 refine⟨by simp [callFunc,hf,hn',hb],?_⟩;refine callsIn_wide.1 (callsIn_of_wp_marks (F:=Fence.wide) (n:=0) (R:=uj O w I0 ctr hc Q) hf hb trivial ?_);show wpK none P (λ_ _ _=>False) (bodyPostM Fence.wide 0 P fn (uj O w I0 ctr hc Q)) [.code c] .normal _ w;refine ZO n c [] _ w ?_;rw [List.append_nil,<- List.take_append_drop m (jm n c)];refine kD (H':=λd a w'=>∃ st σ,(∃ kv h,(∃ x,LeK (vG ctr hc) fn.ntmps kv h (S x) (H x))/\st=mk fn.ntmps kv h)/\Mod O (vG ctr hc) w I0 w' σ st a) ?_ ?_ _ hfl .normal _ w (jS ?_ (h1 O w I0 hh.len w I0 _ (Vl hg hh hr)))
 ·rintro a w1 ⟨st,σ,⟨kv,h,⟨x,hle⟩,rfl⟩,hm⟩;exact h2 x O w I0 w1 _ a hh.len (hle.le.mod hm)
 ·intro d a w1 hlt;rw [hd] at hlt;omega
 ·intro e a1 w1 h
  have hend:∀ (st:St) (σ:List SE),((resX P st fn.results.toList).holds λrs=>RetR ctr hc.length Q rs st.heap)->Mod O (vG ctr hc) w I0 w1 σ st a1->LeavesInM Fence.wide 0 P fn a1.tmps (uj O w I0 ctr hc Q) a1.defers .returning w1:=by
   intro st σ hR hm;refine vJ a1.defers w1 hm λw' hm'=> ?_
   obtain⟨v,h1,h2⟩:=zda hh.len hfr st σ _ _ hR hm';exact⟨v,h1,h2⟩
  rcases h with ⟨rfl | rfl,st,σ,hR,hm⟩ | ⟨ch,_,h,_⟩
  ·exact hend st σ hR hm
  ·exact hend st σ hR hm
  ·exact h.elim
structure Kept(w w':World):Prop where
 os:w'.os=w.os
 tape:w'.tape=w.tape
 output:w'.output=w.output
 size:w.heap.size<=w'.heap.size
 keep:∀ b,b<w.heap.size->w'.heap[b]?=w.heap[b]?
theorem Kept.of{w w':World}{p:Nat->Prop}(h:Ext (Mine []) w p w'):Kept w w':=⟨h.os,h.tape,h.output,h.size,λb hb=>h.keep b hb λhm=>by obtain⟨_,he,_⟩:=hm; simp at he⟩
theorem Kept.ext{w w':World}(h:Kept w w')(own:Nat->Prop):Ext own w own w':=⟨h.os,h.tape,h.output,h.size,λb hb _=>h.keep b hb,λb hb=>.inl hb⟩
theorem Kept.hold{w w':World}(h:Kept w w')(K:List Nat)(σ:List SE):Hold K w σ w' σ:=λi e he _=>⟨he,λad had cs el hcs=>⟨cs,el,by rw [h.keep _ (Array.getElem?_eq_some_iff.1 hcs).1]; exact hcs,rfl⟩⟩
theorem Kept.good{O:Nat->Prop}{w w':World}{σ:List SE}(h:Kept w w')(hg:Good O w σ):Good O w' σ:=⟨λb hb=>Nat.lt_of_lt_of_le (hg.old b hb) h.size,hg.dis,hg.stat.ext (h.ext _)⟩
theorem Kept.rep{own:Nat->Prop}{w w':World}{σ:List SE}{a:AV}{v:Value}(h:Kept w w')(hr:Rep own w a σ v):Rep own w' a σ v:=zS (h.ext own) (h.hold [] σ) a v (qW a) hr
theorem Kept.hrep{own:Nat->Prop}{w w':World}{σ:List SE}{hp:Heap}(h:Kept w w')(hh:HRep own w σ hp):HRep own w' σ hp:=
 ⟨hh.len,hh.inj,λi e a he ha=>Nat.lt_of_lt_of_le (hh.lt i e a he ha) h.size,λi e b he hb=>by
  have:=jh (K:=[]) (h.ext own) (h.hold [] σ) (hh.blk i e b he hb) λad had=>h.keep _ (hh.lt i e ad he had)
  rwa [ju] at this⟩
theorem Kept.trans{w1 w2 w3:World}(h:Kept w1 w2)(k:Kept w2 w3):Kept w1 w3:=⟨k.os.trans h.os,k.tape.trans h.tape,k.output.trans h.output,Nat.le_trans h.size k.size,λb hb=>(k.keep b (Nat.lt_of_lt_of_le hb h.size)).trans (h.keep b hb)⟩
theorem Kept.alloc(w:World)(o:Obj):Kept w (w.alloc o):=⟨rfl,rfl,rfl,by show _<=(w.heap.push o).size; simp,λb hb=>by
 show(w.heap.push o)[b]?=_;rw [Array.getElem?_push,if_neg (Nat.ne_of_lt hb)]⟩
theorem Z9{Xp:List PanicEntry->Prop}{P:Program}{g:Nat}{c:Ctr}{args:List AV}{r:AV}{O:Nat->Prop}{w:World}{σ:List SE}{vals:List Value}(hc:zy Xp P g c)(hq:(c.spec args []).holds λp=>p=(r,[])\/p=(.bot,[]))(hg:Good O w σ){hp:Heap}(hh:HRep (Own O σ) w σ hp)(hr:RepL (Own O σ) w args [] vals) :
  qD Xp (Kept w) P g vals.toArray w λv w'=>Kept w w'/\Rep (Own O σ) w' r [] v:=by
 have hO:∀ b,Own (Own O σ) [] b->Own O σ b:=λb hb=>hb.elim id λ⟨e,he,_⟩=>by simp at he
 have hg':Good (Own O σ) w []:=⟨?_,λi e ad he=>by simp at he,hg.stat.own hO⟩
 ·refine qD.map (λw' h=>Kept.of h) ?_ (hc args [] _ hq (λ_=>rfl) (Own O σ) w [] vals hg' ⟨rfl,λi j e f a b he=>by simp at he,λi e a he=>by simp at he,λi e b he=>by simp at he⟩ (qP (K:=[]) ⟨rfl,rfl,rfl,Nat.le_refl _,λ_ _ _=>rfl,λb hb=>.inl (hO b hb)⟩ (λi e he=>by simp at he) _ _ (we _) hr));rintro v w' ⟨r',hs,Z',h1,h2,h3,h4,h5,h6,h7⟩;rcases h1 with h1 | h1
  ·cases h1;have hZ:Z'=[]:=List.length_eq_zero_iff.1 h3.len;subst hZ;exact⟨Kept.of h7,wj (λb hb=>.inl (.inl hb)) h2⟩
  ·cases h1;exact h2.elim
 ·intro b hb;rcases hb with hb | ⟨e,he,ad,h1,rfl⟩
  ·exact hg.old b hb
  ·obtain⟨i,hi⟩:=List.mem_iff_getElem?.1 he;exact hh.lt i e ad hi h1
theorem LeA.tup{l m:List AV}(h:LeL l m):LeA (.tup l) (.tup m):=by
 intro own w σ v hr;simp only [Rep] at hr ⊢;obtain⟨vs,hv,hr⟩:=hr;exact⟨vs,hv,h.rep hr⟩
section
variable {P:Program} {ops:Array Oper} {rest:List Oper} {o:Oper} {a:Act} {w w':World} {Q:Exit->Act->World->Prop}
theorem YS{v:Value}(hg:o.guard=none)(hd:∀ c,o.op≠.defer c)(hrun:(execOp a.eval o).run P w = .ok (.value v) w')(h:wpListIn Fence.wide 0 P ops Q rest (a.put o.dst v) w'):wpListIn Fence.wide 0 P ops Q (o::rest) a w:=
 wpListIn_plain hg λK hK=>jJ (M:=none) hd (by unfold Oper.wp; rw [hrun]; exact hK _ _ h)
theorem step_skip(hg:o.guard=none)(hd:∀ c,o.op≠.defer c)(hrun:(execOp a.eval o).run P w = .ok .skip w')(h:wpListIn Fence.wide 0 P ops Q rest (a.put o.dst undef) w'):wpListIn Fence.wide 0 P ops Q (o::rest) a w:=
 wpListIn_plain hg λK hK=>jJ (M:=none) hd (by unfold Oper.wp; rw [hrun]; exact hK _ _ h)
theorem V8{x:Operand}(hg:o.guard=none)(ho:o.op = .move x)(h:wpListIn Fence.wide 0 P ops Q rest (a.put o.dst (a.eval x)) w):wpListIn Fence.wide 0 P ops Q (o::rest) a w:=
 YS hg (by simp [ho]) (by simp only [execOp,ho]; rfl) h
theorem VW{O:Nat->Prop}{σ:List SE}{hp:Heap}{t:TypeId}{x:Operand}{p r:AV}(hh:HRep (Own O σ) w σ hp)(hg:o.guard=none)(ho:o.op = .load t x)(hx:Rep (Own O σ) w p σ (a.eval x))(hq:uW P hp t p = .leaf r)
  (h:∀ v,Rep (Own O σ) w r σ v->wpListIn Fence.wide 0 P ops Q rest (a.put o.dst v) w):wpListIn Fence.wide 0 P ops Q (o::rest) a w:=by
 obtain⟨r',v,h1,h2,h3⟩:=ug (P:=P) hh hx (Q:=(· = r)) (by rw [hq]; exact rfl);subst h2;refine YS hg (by simp [ho]) ?_ (h v h3);simp only [execOp,ho,Sem.run_bind,h1,Result.andThen_ok,Sem.run_pure]
theorem WN{O:Nat->Prop}{σ:List SE}{hp:Heap}{t:TypeId}{x y:Operand}{i:Nat}{c r:AV}(hgd:Good O w σ)(hh:HRep (Own O σ) w σ hp)(hg:o.guard=none)(ho:o.op = .store t x y)(hx:Rep (Own O σ) w (.ptr i 0) σ (a.eval x))(hb:hp[i]?=some (.box [c]))(hn:zZ P t=some 1)(hy:Rep (Own O σ) w r σ (a.eval y))(hc:cellsOf r=some [r])(h1:oneA r=true)
  (h:∀ w',Post O w σ hp ⟨.undef,[(i,.box [r])],[]⟩ undef w' σ->wpListIn Fence.wide 0 P ops Q rest (a.put o.dst undef) w'):wpListIn Fence.wide 0 P ops Q (o::rest) a w:=by
 obtain⟨w',h2,h3⟩:=kQ (P:=P) hgd hh hx hb hn (qa hc hy) rfl (Nat.le_refl _) (by simp [h1]);refine step_skip hg (by simp [ho]) ?_ (h w' h3);simp only [execOp,ho,Sem.run_bind,h2,Result.andThen_ok,Sem.run_pure]
theorem V3{Xp:List PanicEntry->Prop}{D:World->Prop}{R:Value->World->Prop}{c:Call}{f:Operand}{g:Nat}(hg:o.guard=none)(ho:o.op = .call c)(hc:c.callee = .value f)(hf:a.eval f = .func (.func g) #[] #[])(h:qD Xp D P g (c.args.toList.map a.eval).toArray w R)
  (hK:∀ v w',R v w'->wpListIn Fence.wide 0 P ops Q rest (a.put o.dst v) w') (hP:∀ ch w',Xp ch->D w'->Q (.panic ch) a w'):wpListIn Fence.wide 0 P ops Q (o::rest) a w:=
 wpListIn_plain hg λK hKK=>jJ (M:=none) (by simp [ho]) (by
  have hcall:(execOp a.eval o).run P w=(callFunc g (c.args.toList.map a.eval).toArray).run P w:=by
   obtain⟨callee,args,ats⟩:=c;simp only at hc;subst hc;simp only [execOp,ho,resolve,hf,Deferred.ofValue,Sem.run_bind,Sem.run_pure,Result.andThen_ok,invoke];congr 2;simp [<- Array.toList_inj]
  unfold Oper.wp;rcases h with ⟨h3,h4⟩ | ⟨v,w',h3,h4⟩
  ·rw [hcall,h3];refine h4.mono λe w' he=> ?_
   rcases he with ⟨v,he,hR⟩ | ⟨ch,he,h5,h6⟩
   ·subst he; exact hKK _ _ (hK _ _ hR)
   ·subst he; exact hP ch w' h5 h6
  ·rw [hcall,h3];exact hKK _ _ (hK _ _ h4))
theorem step_defer{c:Call}{f:Operand}{g:Nat}(hg:o.guard=none)(ho:o.op = .defer c)(hdst:o.dst=none)(hc:c.callee = .value f)(hf:a.eval f = .func (.func g) #[] #[])
  (h:wpListIn Fence.wide 0 P ops Q rest { a with defers:={ target:=.fn (.func g) #[],args:=(c.args.toList.map a.eval).toArray } :: a.defers } w):wpListIn Fence.wide 0 P ops Q (o::rest) a w:=
 wpListIn_plain hg λK hKK=>by
  obtain⟨callee,args,ats⟩:=c;simp only at hc;subst hc;refine⟨λf _=>trivial,?_⟩
  have:(Oper.semAt Fence.wide.round a.eval o).run P w = .ok (.defer { target:=.fn (.func g) #[],args:=(args.toList.map a.eval).toArray }) w:=by
   show(execOp a.eval o).run P w=_;simp only [execOp,ho,resolve,hf,Deferred.ofValue,Sem.run_bind,Sem.run_pure,Result.andThen_ok];congr 3;simp [<- Array.toList_inj]
  rw [this];simp only [Oper.uponIn,hdst];exact hKK _ _ h
theorem Jp{t:TypeId}{b:Nat}{old v:Value}(hn:zZ P t=some 1)(hv:v.cells = #[v])(hc:w.cell? ⟨b,0,none⟩=some old)(hz:w.frozen? ⟨b,0,none⟩=false)(h1:v.oneCell'=true) :
  (Instr.storeAt t (.pointer (some ⟨b,0,none⟩)) v).run P w = .ok () (w.setCell ⟨b,0,none⟩ v):=by
 simp only [Instr.storeAt,Instr.sureAddr,Sem.run_bind,Sem.run_pure,Result.andThen_ok,storeVar,z8 hn,hv];simp [storeCells,go_sem,hc,hz];rw [run_store _ _ _ _ _ h1,hc];simp [hz]
end
theorem yd{O:Nat->Prop}{w:World}{σ:List SE}{hp:Heap}{i:Nat}{c:AV}{v:Value}(hh:HRep (Own O σ) w σ hp)(hx:Rep (Own O σ) w (.ptr i 0) σ v)(hb:hp[i]?=some (.box [c])) :
  ∃ b u,v = .pointer (some ⟨b,0,none⟩)/\w.cell? ⟨b,0,none⟩=some u/\w.frozen? ⟨b,0,none⟩=false/\Rep (Own O σ) w c σ u/\∃ e ad,σ[i]?=some e/\e.ad=some ad/\ad.block=b:=by
 simp only [Rep] at hx;obtain⟨e,ad,he,had,rfl⟩:=hx;obtain⟨ad',vs,el,had',h0,hcs,hr⟩:=hh.blk i e _ he hb;rw [had] at had';cases had';simp only [RepL] at hr;obtain⟨u,r,rfl,h1,rfl⟩:=hr;refine⟨ad.block,u,by rw [h0],?_,?_,h1,e,ad,he,had,rfl⟩
 ·simp [World.cell?,hcs]
 ·simp [World.frozen?,hcs]
end Go.Sx
end
section
set_option maxRecDepth 100000
open Go Go.Sx Go.Proofs Go.Nov
namespace Go.Proofs.Tryz
attribute [local simp] eqKV eqA eqA0 eqH eqB eqL eqL0
def FI.pre(k:FI):Prop:=k.c.big<2^40/\k.c.nodes<=1000000/\envP (k.f,k.h)
def vK:Ctr:=ctrP false (λk:FI=>[k.c.conA,.i k.day,.i k.fin,envA k.f k.h]) FI.pre (λk r=>r=befM k.c k.day k.fin k.f k.h) (λ_ (r:List Fl×Int)=>(.tup [flS r.1,.i r.2],[]))
noncomputable def LB:List Go.Sx.Item:=(jm 6 (Tryz.f52.body.getD .skip)).take 4++.inLoop::(jm 6 (Tryz.f52.body.getD .skip)).drop 4
noncomputable def GBef:=tb Vo (tb Vj tz)
def SBe(day fin:Int):KV:=[(1,.i day),(2,.i fin),(4,.ptr 0 0),(7,.ptr 1 0),(8,.ptr 2 0),(9,.ptr 3 0)]
def HBe(c:Con)(f:List Fx)(h:List Ch):Heap:=[.box c.ze,.box [fxS f,chS h],.box [.nils],.box [.i 0]]
theorem zfz(c:Con)(day fin:Int)(f:List Fx)(h:List Ch)(hp:FI.pre ⟨c,day,fin,f,h⟩){Q:AV×Heap->Prop}(hq:Q (.tup [flS (befM c day fin f h).1,.i (befM c day fin f h).2],[])){O:Nat->Prop}{w0:World}{I0:List SE} :
  zb Tryz.prog Tryz.f52 O 0 w0 I0 (λ_ kv hh=>∃ x:{u:Unit // c.errC=0/\errE f h=0/\0<=day/\day<=99999/\0<=fin/\fin<=100000},LeK 0 Tryz.f52.ntmps kv hh (SBe day fin) (HBe c f h)) (RetR vK 0 Q) LB (wL Tryz.f52 [c.conA,.i day,.i fin,envA f h] []):=by
 obtain⟨p1,p2,p3⟩:=hp;simp only at p1 p2 p3;refine zb.n GBef.h [1,2,4,7,8,9] (let v1:List AV:=[.sl f.length 3 (fxG f),.sl h.length 4 (chG h)];.ex (q31 [(Con.conA c)]) λn=>.all (λ(r:Int)=>r=Con.errC n) λn=>.N (n=0) (.R [.nils,.i n] [.box c.ze,.box v1,.box [.nils],.box [.i n]]) (.ex (q56 [.agg [.sl f.length 3 (fxG f),.sl h.length 4 (chG h)]]) λn=>.all (λ(r:Int)=>r=errE n.1 n.2) λn=>.N (n=0) (.R [.nils,.i n] [.box c.ze,.box v1,.box [.nils],.box [.i n]]) (.ite (bif bif bif decide (day<0) then true else decide ((99999:Int)<day) then true else decide (fin<0) then true else decide ((100000:Int)<fin)) (.R [.nils,.i 2] [.box c.ze,.box v1,.box [.nils],.box [.i 2]]) (.leaf (.back 0 [(1,.i day),(2,.i fin),(4,.ptr 0 0),(7,.ptr 1 0),(8,.ptr 2 0),(9,.ptr 3 0)] [.box c.ze,.box v1,.box [.nils],.box [.i 0]]))))) ?_;simp only [q31,q56,Tree.holds,zf,inR,lo,hi,Int.toNat_natCast]
 have ret:∀ (e:Int) (hs:Heap),befM c day fin f h=([],e)->RetR vK 0 Q [.nils,.i e] hs:=by
  intro e hs he;rw [he] at hq;exact RetR.le0 hq (λh=>by cases h) (LeA.tup ⟨LeA.nils,LeA.refl _,trivial⟩)
 refine⟨c,⟨⟨qQ c,trivial⟩,p1,p2⟩,⟨_,rfl⟩,?_⟩;rintro _ rfl;refine⟨λhe=>ret _ _ ?_,λhe=>⟨(f,h),⟨⟨⟨⟨rfl,rfl,λ_ _ _ _=>rfl⟩,⟨rfl,rfl,λ_ _ _ _=>rfl⟩,trivial⟩,trivial⟩,p3⟩,⟨_,rfl⟩,?_⟩⟩
 ·have he:c.errC≠0:=by simpa using he
  unfold befM; rw [if_pos he]
 have he:c.errC=0:=by simpa using he
 rintro _ rfl;refine⟨λhE=>ret _ _ ?_,λhE=>⟨λhr=>ret _ _ ?_,λhr=>⟨⟨(),?_⟩,?_⟩⟩⟩
 ·have hE:errE f h≠0:=by simpa using hE
  unfold befM; rw [if_neg (by simp [he]),if_pos hE]
 ·have hE:errE f h=0:=by simpa using hE
  have hr:day<0\/99999<day\/fin<0\/100000<fin:=by
   by_cases a:day<0
   ·exact .inl a
   by_cases b:99999<day
   ·exact .inr (.inl b)
   by_cases d:fin<0
   ·exact .inr (.inr (.inl d))
   ·simpa [a,b,d] using hr
  unfold befM; rw [if_neg (by simp [he]),if_neg (by simp [hE]),if_pos hr]
 ·have hE:errE f h=0:=by simpa using hE
  by_cases a:day<0
  ·simp [a] at hr
  by_cases b:99999<day
  ·simp [a,b] at hr
  by_cases d:fin<0
  ·simp [a,b,d] at hr
  by_cases e:100000<fin
  ·simp [a,b,d,e] at hr
  exact⟨he,hE,by omega,by omega,by omega,by omega⟩
 ·exact⟨by simp [SBe],by simp [HBe,za,Con.ze,Con.qH,fxS,chS,Ex.exS,Con.dayS,Con.conS],by kernel_rfl,Nat.zero_le _⟩
noncomputable def LBt:List Go.Sx.Item:=(jm 6 (Tryz.f52.body.getD .skip)).drop 4
def opsI:Go.Sx.Item->List Oper
 | .code (.region _ ops _)=>ops.toList
 | _=>[]
def zse:Oper:={ dst:=none,op:=.move (.const undef),type:=0,pos:= "",after:= #[],guard:=none }
noncomputable def opB(r k:Nat):Oper:=(opsI (LBt.getD r .inLoop)).getD k zse
theorem zr2:LBt=[.code (.region 9 #[opB 0 0] false),.code (.region 10 #[opB 1 0,opB 1 1,opB 1 2,opB 1 3,opB 1 4,opB 1 5,opB 1 6,opB 1 7] false),.code .ret]:=by kernel_rfl
theorem opD:(opB 0 0).guard=none/\(opB 0 0).dst=none/\(opB 0 0).op = .defer { callee:=.value (.func 83),args:= #[.tmp 9,.tmp 8],argTypes:= #[140,141] } :=⟨by kernel_rfl,by kernel_rfl,by kernel_rfl⟩
theorem opB0:(opB 1 0).guard=none/\(opB 1 0).dst=some 36/\(opB 1 0).op = .load 39 (.tmp 4):=⟨by kernel_rfl,by kernel_rfl,by kernel_rfl⟩
theorem opB1:(opB 1 1).guard=none/\(opB 1 1).dst=some 37/\(opB 1 1).op = .move (.tmp 1):=⟨by kernel_rfl,by kernel_rfl,by kernel_rfl⟩
theorem opB2:(opB 1 2).guard=none/\(opB 1 2).dst=some 38/\(opB 1 2).op = .move (.tmp 2):=⟨by kernel_rfl,by kernel_rfl,by kernel_rfl⟩
theorem opB3:(opB 1 3).guard=none/\(opB 1 3).dst=some 39/\(opB 1 3).op = .load 28 (.tmp 7):=⟨by kernel_rfl,by kernel_rfl,by kernel_rfl⟩
theorem opB4:(opB 1 4).guard=none/\(opB 1 4).dst=some 40/\(opB 1 4).op = .call { callee:=.value (.func 85),args:= #[.tmp 36,.tmp 37,.tmp 38,.tmp 39],argTypes:= #[39,3,3,28] } :=⟨by kernel_rfl,by kernel_rfl,by kernel_rfl⟩
def argT(o:Oper):Array TypeId:=match o.op with
 | .call c=>c.argTypes
 | _=> #[]
theorem opB5:(opB 1 5).guard=none/\(opB 1 5).dst=some 41/\(opB 1 5).op = .call { callee:=.value (.func 84),args:= #[.tmp 40,.func 86],argTypes:=argT (opB 1 5) } :=⟨by kernel_rfl,by kernel_rfl,by kernel_rfl⟩
theorem opB6:(opB 1 6).guard=none/\(opB 1 6).dst=none/\(opB 1 6).op = .store 56 (.tmp 8) (.tmp 41):=⟨by kernel_rfl,by kernel_rfl,by kernel_rfl⟩
theorem opB7:(opB 1 7).guard=none/\(opB 1 7).dst=none/\(opB 1 7).op = .store 40 (.tmp 9) (.const (.i 0)):=⟨by kernel_rfl,by kernel_rfl,by kernel_rfl⟩
theorem zcv{a:Act}{d t:Nat}{v:Value} : (a.put (some d) v).tmps.getD t undef=if t=d/\d<a.tmps.size then v else a.tmps.getD t undef:=by
 simp only [Act.put,Array.getD_eq_getD_getElem?,Array.getElem?_setIfInBounds];by_cases h:d=t
 ·subst h;by_cases h2:d<a.tmps.size
  ·simp [h2]
  ·simp [h2]
 ·rw [if_neg h,if_neg (λx=>h x.1.symm)]
theorem size_put{a:Act}{d:Nat}{v:Value} : (a.put (some d) v).tmps.size=a.tmps.size:=by simp [Act.put]
theorem yJ{a:Act}{d:Nat}{v:Value}{P:Act->Prop}(h:∀ b:Act,b.defers=a.defers->b.tmps.size=a.tmps.size->(d<a.tmps.size->b.tmps.getD d undef=v)->(∀ t,t≠d->b.tmps.getD t undef=a.tmps.getD t undef)->P b):P (a.put (some d) v):=
 h _ rfl size_put (λhd=>by rw [zcv,if_pos ⟨rfl,hd⟩]) λt ht=>by rw [zcv,if_neg (λx=>ht x.1)]
theorem zcs{c:Con}{day fin:Int}{f:List Fx}{h:List Ch}{Q:AV×Heap->Prop}(hq:Q (.tup [flS (befM c day fin f h).1,.i (befM c day fin f h).2],[])){O:Nat->Prop}{w0 w:World}{σ:List SE}{a:Act}(hm:Mod O 0 w0 [] w σ (mk Tryz.f52.ntmps (SBe day fin) (HBe c f h)) a)
  {w4:World} {T:Array Value} {x:AV} {e:Int} (g1:Go.Sx.Good O w4 σ) (g2:HRep (Go.Sx.Own O σ) w4 σ [.box c.ze,.box [fxS f,chS h],.box [x],.box [.i e]]) (g3:Ext (Go.Sx.Own O σ) w (Go.Sx.Own O σ) w4) (g4:∀ b,O b->b<w.heap.size->w4.heap[b]?=w.heap[b]?)
  (g5:T.getD 8 undef=a.tmps.getD 8 undef) (g6:T.getD 9 undef=a.tmps.getD 9 undef) (g7:T.size=a.tmps.size) (hx:x = .nils/\(befM c day fin f h).1=[]\/x=flS (befM c day fin f h).1) (he:e=(befM c day fin f h).2) :
  LeavesInM Fence.wide 0 Tryz.prog Tryz.f52 T (uj O w0 [] vK [] Q) a.defers .returning w4:=by
 have hm4:Mod O 0 w0 [] w4 σ (mk Tryz.f52.ntmps [(8,.ptr 2 0),(9,.ptr 3 0)] [.box c.ze,.box [fxS f,chS h],.box [x],.box [.i e]]) { tmps:=T,defers:=a.defers } :=by
  refine⟨g1,g2,?_,λt=> ?_,hm.df.ext g3,hm.since.trans ⟨g3,g4,λi e hi _=>absurd hi (Nat.not_lt_zero i)⟩,hm.lim⟩
  ·rw [show({ tmps:=T,defers:=a.defers } : Act).tmps=T from rfl,g7,hm.size];simp [mk,pk]
  ·by_cases h8:t=8
   ·subst h8;show Rep (Go.Sx.Own O σ) w4 (.ptr 2 0) σ (T.getD 8 undef);rw [g5];have:Rep (Go.Sx.Own O σ) w (.ptr 2 0) σ (a.tmps.getD 8 undef):=hm.tm 8;simpa only [Rep] using this
   ·by_cases h9:t=9
    ·subst h9;show Rep (Go.Sx.Own O σ) w4 (.ptr 3 0) σ (T.getD 9 undef);rw [g6];have:Rep (Go.Sx.Own O σ) w (.ptr 3 0) σ (a.tmps.getD 9 undef):=hm.tm 9;simpa only [Rep] using this
    ·have:(mk Tryz.f52.ntmps [(8,.ptr 2 0),(9,.ptr 3 0)] [.box c.ze,.box [fxS f,chS h],.box [x],.box [.i e]]).tmps.getD t .undef = .undef:=by
      simp only [mk];by_cases hlt:t<Tryz.f52.ntmps
      ·rw [jZ hlt]; simp [Go.Sx.look,Ne.symm h8,Ne.symm h9]
      ·have:(pk Tryz.f52.ntmps [(8,.ptr 2 0),(9,.ptr 3 0)])[t]?=none:=List.getElem?_eq_none (by simp [pk]; exact Nat.not_lt.1 hlt);rw [List.getD_eq_getElem?_getD,this]; rfl
     rw [this];simp [TRep,Rep]
 refine vJ a.defers w4 hm4 λw' hm'=> ?_
 refine zda (ctr:=vK) (hc:=[]) rfl (λhh=>by cases hh) _ σ _ _ ?_ hm';subst he;rcases hx with ⟨rfl,hx⟩ | rfl
 ·have e1:resX Tryz.prog (mk Tryz.f52.ntmps [(8,.ptr 2 0),(9,.ptr 3 0)] [.box c.ze,.box [fxS f,chS h],.box [.nils],.box [.i (befM c day fin f h).2]]) Tryz.f52.results.toList = .leaf [.nils,.i (befM c day fin f h).2]:=by kernel_rfl
  rw [e1];rw [hx] at hq;exact RetR.le0 hq (λh=>by cases h) (LeA.tup ⟨LeA.nils,LeA.refl _,trivial⟩)
 ·have e1:resX Tryz.prog (mk Tryz.f52.ntmps [(8,.ptr 2 0),(9,.ptr 3 0)] [.box c.ze,.box [fxS f,chS h],.box [flS (befM c day fin f h).1],.box [.i (befM c day fin f h).2]]) Tryz.f52.results.toList = .leaf [flS (befM c day fin f h).1,.i (befM c day fin f h).2]:=by kernel_rfl
  rw [e1];exact RetR.le0 hq (λh=>by cases h) (LeA.refl _)
def zbc(c:Con)(day fin:Int)(f:List Fx)(h:List Ch)(ch:List PanicEntry):Prop:=∃ x,flM f h c day fin = .error x/\ch=Zg yT x
theorem zi1{c:Con}{day fin:Int}{f:List Fx}{h:List Ch}(hp:FI.pre ⟨c,day,fin,f,h⟩)(hx:c.errC=0/\errE f h=0/\0<=day/\day<=99999/\0<=fin/\fin<=100000){Q:AV×Heap->Prop}(hq:Q (.tup [flS (befM c day fin f h).1,.i (befM c day fin f h).2],[])){O:Nat->Prop}{w0 w:World}{σ:List SE}{a:Act}(hm:Mod O 0 w0 [] w σ (mk Tryz.f52.ntmps (SBe day fin) (HBe c f h)) a) :
  wpK none Tryz.prog (λ_ _ _=>False) (bodyPostM Fence.wide 0 Tryz.prog Tryz.f52 (uj O w0 [] vK [] Q)) LBt .normal a w:=by
 obtain⟨p1,p2,p3⟩:=hp;obtain⟨x1,x2,x3,x4,x5,x6⟩:=hx;simp only at p1 p2 p3
 have hform:c.form=true/\c.size<=500:=by
  unfold Con.errC at x1;split at x1
  ·cases x1
  ·rename_i hs;split at x1
   ·rename_i hf; exact⟨hf,by omega⟩
   ·cases x1
 have hG:FI.G ⟨c,day,fin,f,h⟩:=⟨hform.1,p1,by have:=Con.yU c; show c.nodes<_; omega,p3⟩
 have hbef:befM c day fin f h=match flM f h c day fin with
  | .error e=>([],e)
  | .ok l=>(ordM l,0):=by
  unfold befM; rw [if_neg (by simp [x1]),if_neg (by simp [x2]),if_neg (by omega)];cases flM f h c day fin<;>rfl
 have sz:a.tmps.size=42:=by rw [hm.size]; simp only [mk,pk,List.length_map,List.length_range]; rfl
 have t1:a.tmps.getD 1 undef = .i day:=hm.tm 1;have t2:a.tmps.getD 2 undef = .i fin:=hm.tm 2;have t4:Rep (Go.Sx.Own O σ) w (.ptr 0 0) σ (a.tmps.getD 4 undef):=hm.tm 4;have t7:Rep (Go.Sx.Own O σ) w (.ptr 1 0) σ (a.tmps.getD 7 undef):=hm.tm 7;have t8:Rep (Go.Sx.Own O σ) w (.ptr 2 0) σ (a.tmps.getD 8 undef):=hm.tm 8;have t9:Rep (Go.Sx.Own O σ) w (.ptr 3 0) σ (a.tmps.getD 9 undef):=hm.tm 9;have hhp:HRep (Go.Sx.Own O σ) w σ (HBe c f h):=hm.hp;rw [zr2];simp only [wpK];obtain⟨d1,d2,d3⟩:=opD;refine wpIn_region_list (Go.Sx.step_defer d1 d3 d2 rfl rfl ?_);refine wpListIn_nil ?_;simp only [wpK];obtain⟨bl,ul,hl1,hl2,hl3,hl4,el,adl,hl5,hl6,hl7⟩:=yd hhp t8 rfl;obtain⟨be,ue,he1,he2,he3,he4,ee,ade,he5,he6,he7⟩:=yd hhp t9 rfl
 have hne:be≠bl:=by
  rw [<- he7,<- hl7];exact hhp.inj 3 2 _ _ _ _ he5 hl5 he6 hl6 (by decide)
 have hnl:¬ O bl:=by rw [<- hl7]; exact hm.good.dis 2 _ _ hl5 hl6
 have hne2:¬ O be:=by rw [<- he7]; exact hm.good.dis 3 _ _ he5 he6
 obtain⟨o0g,o0d,o0o⟩:=opB0;obtain⟨o1g,o1d,o1o⟩:=opB1;obtain⟨o2g,o2d,o2o⟩:=opB2;obtain⟨o3g,o3d,o3o⟩:=opB3;obtain⟨o4g,o4d,o4o⟩:=opB4;obtain⟨o5g,o5d,o5o⟩:=opB5;obtain⟨o6g,o6d,o6o⟩:=opB6;obtain⟨o7g,o7d,o7o⟩:=opB7
 have hD:(([.tmp 9,.tmp 8]:List Operand).map a.eval).toArray = #[.pointer (some ⟨be,0,none⟩),.pointer (some ⟨bl,0,none⟩)]:=by
  show #[a.tmps.getD 9 undef,a.tmps.getD 8 undef]=_;rw [hl1,he1]
 refine wpIn_region_list ?_;obtain⟨b0,hb0⟩:∃ b:Act,b={ a with defers:={ target:=.fn (.func 83) #[],args:=(([.tmp 9,.tmp 8]:List Operand).map a.eval).toArray } :: a.defers } :=⟨_,rfl⟩;have s0:b0.tmps=a.tmps:=by rw [hb0]
 have f0:b0.defers={ target:=.fn (.func 83) #[],args:= #[.pointer (some ⟨be,0,none⟩),.pointer (some ⟨bl,0,none⟩)] } :: a.defers:=by rw [hb0,<- hD]
 show wpListIn _ _ _ _ _ _ { a with defers:={ target:=.fn (.func 83) #[],args:=(([.tmp 9,.tmp 8]:List Operand).map a.eval).toArray } :: a.defers } w;rw [<- hb0];clear hb0;show wpListIn Fence.wide 0 _ _ _ [opB 1 0,opB 1 1,opB 1 2,opB 1 3,opB 1 4,opB 1 5,opB 1 6,opB 1 7] b0 w;refine VW (r:=c.conA) hhp o0g o0o (p:=.ptr 0 0) (by show Rep _ _ _ _ (b0.tmps.getD 4 undef); rw [s0]; exact t4) (by kernel_rfl) λv36 r36=> ?_
 rw [o0d];refine yJ (P:=λb=>wpListIn _ _ _ _ _ _ b w) λb1 f1 z1 v1 u1=> ?_
 rw [s0] at z1 v1 u1;refine V8 o1g o1o ?_;rw [o1d,show b1.eval (.tmp 1) = .i day from(u1 1 (by decide)).trans t1];refine yJ (P:=λb=>wpListIn _ _ _ _ _ _ b w) λb2 f2 z2 v2 u2=> ?_
 refine V8 o2g o2o ?_;rw [o2d,show b2.eval (.tmp 2) = .i fin from(u2 2 (by decide)).trans ((u1 2 (by decide)).trans t2)];refine yJ (P:=λb=>wpListIn _ _ _ _ _ _ b w) λb3 f3 z3 v3 u3=> ?_
 have k7:b3.eval (.tmp 7)=a.tmps.getD 7 undef:=(u3 7 (by decide)).trans ((u2 7 (by decide)).trans (u1 7 (by decide)));refine VW (r:=envA f h) hhp o3g o3o (p:=.ptr 1 0) (by rw [k7]; exact t7) (by kernel_rfl) λv39 r39=> ?_
 rw [o3d];refine yJ (P:=λb=>wpListIn _ _ _ _ _ _ b w) λb4 f4 z4 v4 u4=> ?_
 have k36:b4.eval (.tmp 36)=v36:=(u4 36 (by decide)).trans ((u3 36 (by decide)).trans ((u2 36 (by decide)).trans (v1 (by omega))));have k37:b4.eval (.tmp 37) = .i day:=(u4 37 (by decide)).trans ((u3 37 (by decide)).trans (v2 (by omega)));have k38:b4.eval (.tmp 38) = .i fin:=(u4 38 (by decide)).trans (v3 (by omega));have k39:b4.eval (.tmp 39)=v39:=v4 (by omega);have fb4:b4.defers={ target:=.fn (.func 83) #[],args:= #[.pointer (some ⟨be,0,none⟩),.pointer (some ⟨bl,0,none⟩)] } :: a.defers:=f4.trans (f3.trans (f2.trans (f1.trans f0)));have u8:∀ t,t<36->b4.tmps.getD t undef=a.tmps.getD t undef:=λt ht=>(u4 t (by omega)).trans ((u3 t (by omega)).trans ((u2 t (by omega)).trans (u1 t (by omega))))
 have zb4:b4.tmps.size=a.tmps.size:=z4.trans (z3.trans (z2.trans z1))
 have nil36:Rep (Go.Sx.Own O σ) w c.conA [] v36:=by
  simp only [Con.conA,Ex.exS,Con.dayS,Con.conS,Rep] at r36 ⊢;obtain⟨vs,hv,hr⟩:=r36;exact⟨vs,hv,yC rfl hr⟩
 have nil39:Rep (Go.Sx.Own O σ) w (envA f h) [] v39:=by
  simp only [envA,Rep] at r39 ⊢;obtain⟨vs,hv,hr⟩:=r39;exact⟨vs,hv,yC rfl hr⟩
 refine V3 (Xp:=zbc c day fin f h) (D:=Kept w) (R:=λv w'=>∃ l,flM f h c day fin = .ok l/\Kept w w'/\Rep (Go.Sx.Own O σ) w' (flS l) [] v) o4g o4o rfl rfl ?_ ?_ ?_
 ·show qD _ _ _ _ [b4.eval (.tmp 36),b4.eval (.tmp 37),b4.eval (.tmp 38),b4.eval (.tmp 39)].toArray w _;rw [k36,k37,k38,k39]
  have hr4:RepL (Go.Sx.Own O σ) w [c.conA,.i day,.i fin,envA f h] [] [v36,.i day,.i fin,v39]:=by
   simp only [RepL];exact⟨_,_,rfl,nil36,_,_,rfl,rfl,_,_,rfl,rfl,_,_,rfl,nil39,rfl⟩
  have hst:qy (zbc c day fin f h) (FI.val ⟨c,day,fin,f,h⟩):=λe he=>⟨e,he,rfl⟩
  have eA:eqA (envA f h) (envA f h):=⟨⟨rfl,rfl,λ_ _ _ _=>rfl⟩,⟨rfl,rfl,λ_ _ _ _=>rfl⟩,trivial⟩;cases hfl:flM f h c day fin with
  | error e=>
   refine qD.map (λ_ h=>h) ?_ (Z9 (args:=[c.conA,.i day,.i fin,envA f h]) (r:=.bot) (Ug (zbc c day fin f h)) ⟨⟨c,day,fin,f,h⟩,⟨⟨qQ c,⟨rfl,rfl⟩,⟨rfl,rfl⟩,eA,trivial⟩,trivial,rfl,hG,hst⟩,λho=> ?_,λ_=>.inr rfl⟩ hm.good hhp hr4)
   ·rintro v w' ⟨_,hb⟩;exact hb.elim
   ·have ho:okM (flM f h c day fin)=true:=ho;rw [hfl] at ho; cases ho
  | ok l=>
   refine qD.map (λ_ h=>h) ?_ (Z9 (args:=[c.conA,.i day,.i fin,envA f h]) (r:=flS l) (Ug (zbc c day fin f h)) ⟨⟨c,day,fin,f,h⟩,⟨⟨qQ c,⟨rfl,rfl⟩,⟨rfl,rfl⟩,eA,trivial⟩,trivial,rfl,hG,hst⟩,λ_=>.inl ?_,λ_=>.inr rfl⟩ hm.good hhp hr4)
   ·rintro v w' ⟨h1,h2⟩;exact⟨l,rfl,h1,h2⟩
   ·show(flS (getM [] (flM f h c day fin)),[])=_;rw [hfl]; rfl
 ·rintro v40 w1 ⟨l,hfl,k1,r40⟩;rw [o4d];refine yJ (P:=λb=>wpListIn _ _ _ _ _ _ b w1) λb5 f5 z5 v5 u5=> ?_
  have g1:=k1.good hm.good;have hh1:=k1.hrep hhp;refine V3 (Xp:=λ_=>False) (D:=Kept w1) (R:=λv w'=>Kept w1 w'/\Rep (Go.Sx.Own O σ) w' (flS (ordM l)) [] v) o5g o5o rfl rfl ?_ ?_ (λ_ _ h=>h.elim)
  ·show qD _ _ _ _ [b5.eval (.tmp 40),.func (.func 86) #[] #[]].toArray w1 _;rw [show b5.eval (.tmp 40)=v40 from v5 (by omega)];refine Z9 (args:=[flS l,.fn 86 [] []]) (r:=flS (ordM l)) (zq1).x ⟨l,⟨⟨⟨rfl,rfl,λ_ _ _ _=>rfl⟩,rfl,trivial⟩,?_⟩,⟨(),trivial⟩,λ_ _=>.inl rfl⟩ g1 hh1 ?_
   ·have:=(JX c hfl).1;have:=Con.yU c;show l.length<_;omega
   ·simp only [RepL];exact⟨_,_,rfl,r40,_,_,rfl,⟨[],[],rfl,rfl,rfl⟩,rfl⟩
  ·rintro v41 w2 ⟨k2,r41⟩;rw [o5d];refine yJ (P:=λb=>wpListIn _ _ _ _ _ _ b w2) λb6 f6 z6 v6 u6=> ?_
   have u68:∀ t,t<36->b6.tmps.getD t undef=a.tmps.getD t undef:=λt ht=>(u6 t (by omega)).trans ((u5 t (by omega)).trans (u8 t ht))
   have g2:=k2.good g1;have hh2:=k2.hrep hh1;have k12:=k1.trans k2;refine WN (i:=2) (c:=.nils) (r:=flS (ordM l)) g2 hh2 o6g o6o (by show Rep _ _ _ _ (b6.tmps.getD 8 undef); rw [u68 8 (by decide)]; exact k12.rep t8) rfl (by kernel_rfl) (by rw [show b6.eval (.tmp 41)=v41 from v6 (by omega)]; exact Rep.any r41 σ) rfl rfl λw3 P3=> ?_
   rw [o6d]
   refine WN (i:=3) (c:=.i 0) (r:=.i 0) P3.good P3.hp o7g o7o (by
    show Rep _ _ _ _ (b6.tmps.getD 9 undef);rw [u68 9 (by decide)];exact zS (K:=[]) P3.ext P3.hold _ _ (qW _) (k12.rep t9)) rfl (by kernel_rfl) rfl rfl rfl λw4 P4=> ?_
   rw [o7d];refine wpListIn_nil ?_;show Code.ret.wpIn (FM none) 0 _ _ _ w4;refine wpIn_ret ?_;show LeavesInM _ _ _ _ b6.tmps _ b6.defers .returning w4;rw [f6.trans (f5.trans fb4)];refine⟨by simp,.inr ⟨λhh=>(by cases hh),.func 83,#[],83,#[.pointer (some ⟨be,0,none⟩),.pointer (some ⟨bl,0,none⟩)],rfl,?_,λ_ _=>trivial,?_⟩⟩
   ·simp [go_sem]
   ·refine(Yi ⟨be,0,none⟩ ⟨bl,0,none⟩ w4).mono ?_;rintro e u' w5 ⟨rfl,rfl,rfl⟩;show LeavesInM _ _ _ _ _ _ _ .returning _;refine zcs hq hm (x:=flS (ordM l)) (e:=0) P4.good P4.hp ((k12.ext _).trans (P3.ext.trans P4.ext)) (λb hO hb=> ?_) (u68 8 (by decide)) (u68 9 (by decide)) ?_ (.inr ?_) ?_
    ·have h2:b<w2.heap.size:=Nat.lt_of_lt_of_le hb k12.size;rw [P4.jT b hO (Nat.lt_of_lt_of_le h2 P3.ext.size),P3.jT b hO h2,k12.keep b hb]
    ·rw [z6,z5,zb4]
    ·rw [hbef,hfl]
    ·rw [hbef,hfl]
 ·rintro ch w1 ⟨x,hfl,rfl⟩ k1;have g1:=k1.good hm.good;have hh1:=k1.hrep hhp;have t8':=k1.rep t8;have t9':=k1.rep t9;show LeavesInM _ _ _ _ b4.tmps _ b4.defers (.panicking (Zg yT x)) w1;rw [fb4];refine⟨by simp,.inr ⟨λhh=>(by cases hh),.func 83,#[],83,#[.pointer (some ⟨be,0,none⟩),.pointer (some ⟨bl,0,none⟩)],rfl,?_,λ_ _=>trivial,?_⟩⟩
  ·simp [go_sem]
  ·obtain⟨bl',ul',a1,a2,a3,a4,_⟩:=yd hh1 t8' rfl;obtain⟨be',ue',c1,c2,c3,c4,_⟩:=yd hh1 t9' rfl;rw [hl1] at a1;rw [he1] at c1;cases a1;cases c1;simp only [Rep] at c4;subst c4;refine(XF be bl x 0 ul' [] w1 c2 c3 a2 a3 hne).mono ?_;rintro e u' w5 ⟨rfl,rfl,rfl⟩;show LeavesInM _ _ _ _ _ _ _ .returning _;rw [he1] at t9';obtain⟨ws1,q1,P1⟩:=kQ (P:=Tryz.prog) (t:=40) (cv:=[.i x]) (v:=.i x) (n:=1) g1 hh1 t9' (cells:=[.i 0]) rfl (by kernel_rfl) ⟨_,_,rfl,rfl,rfl⟩ rfl (Nat.le_refl _) rfl;rw [Jp (P:=Tryz.prog) (by kernel_rfl) rfl c2 c3 rfl] at q1;cases q1;have t8'':Rep (Go.Sx.Own O σ) (w1.setCell ⟨be,0,none⟩ (.i x)) (.ptr 2 0) σ (a.tmps.getD 8 undef):=zS (K:=[]) P1.ext P1.hold _ _ (qW _) t8';obtain⟨bl2,ul2,d1,d2,d3,d4,_⟩:=yd P1.hp t8'' rfl;rw [hl1] at d1;cases d1;rw [hl1] at t8'';obtain⟨ws2,q2,P2⟩:=kQ (P:=Tryz.prog) (t:=56) (cv:=[.nils]) (v:=.slice none 0 0) (n:=1) P1.good P1.hp t8'' (cells:=[.nils]) rfl (by kernel_rfl) ⟨_,_,rfl,by simp [Rep],rfl⟩ rfl (Nat.le_refl _) rfl;rw [Jp (P:=Tryz.prog) (by kernel_rfl) rfl d2 d3 rfl] at q2;cases q2;have k3:=Kept.alloc ((w1.setCell ⟨be,0,none⟩ (.i x)).setCell ⟨bl,0,none⟩ (.slice none 0 0)) (.cells #[.i x] 180);refine zcs hq hm (x:=.nils) (e:=x) (k3.good P2.good) (k3.hrep P2.hp) ((k1.ext _).trans (P1.ext.trans (P2.ext.trans (k3.ext _)))) (λb hO hb=> ?_) (u8 8 (by decide)) (u8 9 (by decide)) zb4 (.inl ⟨rfl,?_⟩) ?_
   ·have h2:b<w1.heap.size:=Nat.lt_of_lt_of_le hb k1.size;have h3:=Nat.lt_of_lt_of_le h2 P1.ext.size;rw [k3.keep b (Nat.lt_of_lt_of_le h3 P2.ext.size),P2.jT b hO h3,P1.jT b hO h2,k1.keep b hb]
   ·rw [hbef,hfl]
   ·rw [hbef,hfl]
theorem zdq:zd Tryz.prog 52 vK:=by
 intro args hc Q hq _;simp only [vK,ctrP] at hq;split at hq
 ·obtain⟨⟨c,day,fin,f,h⟩,⟨h1,h2⟩,h3,h4⟩:=hq;have hq:=h4 _ rfl;refine jA.le h1 (door (fn:=Tryz.f52) (c:=Tryz.f52.body.getD .skip) (ctr:=vK) rfl rfl rfl (λhh=>by cases hh) (ι:={u:Unit // c.errC=0/\errE f h=0/\0<=day/\day<=99999/\0<=fin/\fin<=100000}) (λ_=>SBe day fin) (λ_=>HBe c f h) 6 4 (by kernel_rfl) (by kernel_rfl) ?_ ?_)
  ·intro O w0 I0 hl;exact zfz c day fin f h h2 hq
  ·rintro⟨_,hx⟩ O w0 I0 w σ a hl hm;have h0:I0=[]:=List.length_eq_zero_iff.1 (by simpa using hl);subst h0;exact zi1 h2 hx hq hm
 ·exact hq.elim
noncomputable def K23:List Go.Sx.Item:=[.code (Tryz.f23.body.getD .skip)]
def zai:Ctr:=ctrP false (λk:FI=>[k.c.conA,.i k.day,envA k.f k.h]) FI.pre (λk r=>r=jc k.c k.day k.f k.h) (λ_ (r:List Fl×Int)=>(.tup [flS r.1,.i r.2],[]))
noncomputable def GFs:=tb zdq tz
theorem Jz:zd Tryz.prog 22 zai:=by
 refine zk (fn:=Tryz.f22) (c:=Tryz.f22.body.getD .skip) rfl rfl rfl λk hp O w0 Q hq=> ?_
 obtain⟨c,day,fin,f,h⟩:=k;replace hq:=hq _ rfl;simp only at hq;refine zb.n GFs.h [] (.ex (λ(x:FI)=>eqL [(Con.conA c),.i day,.i 100000,.agg [.sl f.length 3 (fxG f),.sl h.length 4 (chG h)]] [(Con.conA x.c),.i x.day,.i x.fin,.agg [.sl x.f.length 3 (fxG x.f),.sl x.h.length 4 (chG x.h)]]/\FI.pre x) λn=>.all (λ(r:List Fl×Int)=>r=befM n.c n.day n.fin n.f n.h) λn=>.R [.sl n.1.length 5 (flG n.1),.i n.2] [.box c.ze,.box [.sl f.length 3 (fxG f),.sl h.length 4 (chG h)]]) ?_;simp only [Tree.holds,zf];refine⟨⟨c,day,100000,f,h⟩,⟨⟨qQ c,⟨rfl,rfl⟩,⟨rfl,rfl⟩,⟨⟨rfl,rfl,λ_ _ _ _=>rfl⟩,⟨rfl,rfl,λ_ _ _ _=>rfl⟩,trivial⟩,trivial⟩,hp⟩,⟨_,rfl⟩,?_⟩;rintro _ rfl;exact RetR.le0 hq (λh=>by cases h) (LeA.refl _)
theorem Fl.same{x y:Fl}(h1:x.date=y.date)(h2:x.src=y.src)(h3:x.dst=y.dst)(h4:x.ccy=y.ccy)(h5:x.amt=y.amt):x=y:=by
 cases x; cases y; simp_all
def U5:Ctr:=ctrP true (λp:List Fl×List Fl=>[flS p.1,flS p.2]) (λp=>p.1.length<2^40) (λp r=>(r=true↔p.1=p.2)) (λ_ (r:Bool)=>(.bool r,[]))
def SSf(l m:List Fl)(i:Nat):KV:=[(0,flS l),(1,flS m),(5,.i (i:Int))]
theorem YC:zd Tryz.prog 23 U5:=by
 refine zk (fn:=Tryz.f23) (c:=Tryz.f23.body.getD .skip) rfl rfl rfl λp hp O w0 Q hq=> ?_
 obtain⟨l,m⟩:=p;simp only at hp hq;refine zb.n z9 [0,1,5] (.N ((l.length:Int)=m.length) (.R [.bool false] []) (.leaf (.loop (lps K23 0).1 (lps K23 0).2 [(0,.sl l.length 5 (flG l)),(1,.sl m.length 5 (flG m)),(5,.i 0)] []))) ?_;simp only [Tree.holds,zf];refine⟨λh=> ?_,λh=> ?_⟩
 ·refine RetR.scal (hq false ⟨λh=>(by cases h),λhe=> ?_⟩) rfl (by simp [resV]);subst he;simp at h
 ·have hl:l.length=m.length:=by simp at h; omega
  refine zb.loop (ι:={i:Nat // i<=l.length/\∀ j,j<i->l.getD j Fl.nil=m.getD j Fl.nil}) (λi=>SSf l m i.1) (λ_=>[]) (λi=>l.length - i.1) ⟨0,Nat.zero_le _,λj hj=>by omega⟩ 0 ?_ ?_ (by kernel_rfl)
  ·exact⟨by simp [SSf,flS,za],trivial,by kernel_rfl,Nat.zero_le _⟩
  ·rintro⟨i,hil,hib⟩;refine zb.n z9 [0,1,5] (let v2:=m.getD (i:Int).toNat Fl.nil;let v1:=l.getD (i:Int).toNat Fl.nil;.D ((i:Int)<l.length) (.side ((0:Int)<=i/\(i:Int)<l.length) (.side ((0:Int)<=i/\(i:Int)<m.length) (.ite (!(decide (Fl.date v1=Fl.date v2)&&(decide (Fl.src v1=Fl.src v2)&&(decide (Fl.dst v1=Fl.dst v2)&&(decide (Fl.ccy v1=Fl.ccy v2)&&(decide (Fl.amt v1=Fl.amt v2)&&true)))))) (.R [.bool false] []) (.S (i+1) (.leaf (.back 0 [(0,.sl l.length 5 (flG l)),(1,.sl m.length 5 (flG m)),(5,.i (i+1))] [])))))) (.R [.bool true] [])) ?_;simp only [Tree.holds,zf,inR,lo,hi,Int.toNat_natCast];refine⟨λhlt=> ?_,λhge=> ?_⟩
   ·have hlt:i<l.length:=by have:=of_decide_eq_true hlt; omega
    refine⟨by omega,λ_=>⟨by omega,λ_=>⟨λg=> ?_,λg=>⟨by omega,λ_=> ?_⟩⟩⟩⟩
    ·refine RetR.scal (hq false ⟨λh=>(by cases h),λh3=> ?_⟩) rfl (by simp [resV]);subst h3; simp at g
    ·have g:l.getD i Fl.nil=m.getD i Fl.nil:=by
      rw [Bool.not_eq_false'] at g;simp only [Bool.and_eq_true,decide_eq_true_eq,and_true] at g;exact Fl.same g.1 g.2.1 g.2.2.1 g.2.2.2.1 g.2.2.2.2
     rw [if_pos trivial];refine⟨⟨i+1,hlt,λj hj=> ?_⟩,by show l.length - (i+1)<l.length - i; omega,by simp [SSf,flS,za],trivial,by kernel_rfl,Nat.zero_le _⟩;rcases Nat.lt_or_ge j i with h1 | h1
     ·exact hib j h1
     ·have:j=i:=by omega
      rw [this]; exact g
   ·have hge:i=l.length:=by have:=of_decide_eq_false hge; omega
    subst hge;refine RetR.scal (hq true ⟨λ_=> ?_,λ_=>rfl⟩) rfl (by simp [resV]);apply List.ext_getElem hl;intro j g1 g2;have:=hib j g1;simpa [List.getD,g1,g2] using this
end Go.Proofs.Tryz
end
section
namespace Go.Nov
open Go.Sx
section
variable {x:Ex} {day:Int} {f:List Fx} {c:List Ch}
end
structure Lg(p q x y:Ex):Prop where
 p0:p.errX=0
 p1:p.zK=2
 q0:q.errX=0
 q1:q.zK=2
 x0:x.errX=0
 x1:x.zK=1
 y0:y.errX=0
 y1:y.zK=1
 s:p.size+q.size+x.size+y.size<500
 dp:p.depth<60
 dq:q.depth<60
 dx:x.depth<60
 dy:y.depth<60
section
variable {p q x y:Ex} {day:Int} {f:List Fx} {c:List Ch} (h:Lg p q x y)
include h
end
end Go.Nov
end
section
namespace Go.Nov
open Go.Sx
namespace Tm
theorem zqa(f:List Fx)(h:List Ch)(day:Int)(c:Con)(fr fin:Int):flM f h (at_ day c) fr fin=if fin<=fr then .ok [] else if fr<=day then flM f h c day fin else .ok []:=by
 rw [kH];simp [at_,Con.kind,Con.date,Con.sub]
theorem zmi(f:List Fx)(h:List Ch)(a b n:L8)(x:Ex)(fr fin:Int):flM f h (.mk 2 a b n x 0 [] []) fr fin=if fin<=fr then .ok [] else Go.Nov.andM (valM x fr f h) λr=>.ok (payF fr a b n r):=by
 rw [kH];simp [Con.kind,Con.x,Con.src,Con.dst,Con.name]
end Tm
end Go.Nov
end
section
set_option maxRecDepth 100000
open Go Go.Sx Go.Proofs Go.Nov
namespace Go.Proofs.Tryz
attribute [local simp] eqKV eqA eqA0 eqH eqB eqL eqL0
structure FlA where
 c:Con
 e:Int
 day:Int
 f:List Fx
 h:List Ch
 l:List Fl
def zba:Ctr:=ctrP true (λp:FlA=>[p.c.conA,.i p.e,.i p.day,envA p.f p.h,flS p.l]) (λp=>FI.pre ⟨p.c,p.day,100000,p.f,p.h⟩/\p.e=0/\jc p.c p.day p.f p.h=(p.l,0)/\p.l.length<2^40) (λ_ r=>r=true) (λ_ (r:Bool)=>(.bool r,[]))
noncomputable def GFlL:=tb Jz (tb YC tz)
abbrev q62(A:List AV)(x:List Fl×List Fl):Prop:=eqL A [.sl x.1.length 5 (flG x.1),.sl x.2.length 5 (flG x.2)]/\x.1.length<1099511627776
abbrev q61(A:List AV)(x:FI):Prop:=eqL A [(Con.conA x.c),.i x.day,.agg [.sl x.f.length 3 (fxG x.f),.sl x.h.length 4 (chG x.h)]]/\FI.pre x
theorem zf9:zd Tryz.prog 29 zba:=by
 refine zk (fn:=Tryz.f29) (c:=Tryz.f29.body.getD .skip) rfl rfl rfl λp hp O w0 Q hq=> ?_
 obtain⟨c,e,day,f,h,l⟩:=p;obtain⟨p1,p2,p3,p4⟩:=hp;replace hq:=hq _ rfl;simp only at hq p1 p2 p3 p4;subst p2;refine zb.n GFlL.h [] (.ex (q61 [(Con.conA c),.i day,.agg [.sl f.length 3 (fxG f),.sl h.length 4 (chG h)]]) λn=>.all (λ(r:List Fl×Int)=>r=jc n.c n.day n.f n.h) λn=>.ex (λ(x:List Fl×List Fl)=>(bif decide ((0:Int)=0) then decide (n.2=0) else false)=true->q62 [.sl n.1.length 5 (flG n.1),.sl l.length 5 (flG l)] x) λn_1=>.all (λ(x:Bool)=>(bif decide ((0:Int)=0) then decide (n.2=0) else false)=true->(x=true↔n_1.1=n_1.2)) λn_2=>.R [.bool (bif bif decide ((0:Int)=0) then decide (n.2=0) else false then n_2 else false)] [.box c.ze,.box [.sl f.length 3 (fxG f),.sl h.length 4 (chG h)]]) ?_;simp only [q61,q62,Tree.holds,zf];refine⟨⟨c,day,100000,f,h⟩,⟨⟨qQ c,⟨rfl,rfl⟩,⟨⟨rfl,rfl,λ_ _ _ _=>rfl⟩,⟨rfl,rfl,λ_ _ _ _=>rfl⟩,trivial⟩,trivial⟩,p1⟩,⟨_,rfl⟩,?_⟩;rintro _ rfl;simp only [p3];refine⟨(l,l),λ_=>⟨⟨⟨rfl,rfl,λ_ _ _ _=>rfl⟩,⟨rfl,rfl,λ_ _ _ _=>rfl⟩,trivial⟩,p4⟩,⟨true,λ_=>by simp⟩,λr hr=> ?_⟩;obtain rfl:r=true:=(hr (by simp)).2 rfl;exact RetR.scal hq rfl (by simp [resV])
noncomputable def zpb:Ctr:=inlC Tryz.prog noG 100 Tryz.f27
theorem zkg:zd Tryz.prog 27 zpb:=ZP hmix z9 rfl rfl
def zih:Ctr:=ctrP true (λp:Fl=>[.i p.date,.str p.src,.str p.dst,.str p.amt]) (λ_=>True) (λ_ (_:Unit)=>True) (λp _=>(.agg [.i p.date,.str p.src,.str p.dst,.str [85,83,68],.str p.amt],[]))
theorem zlj:zd Tryz.prog 30 zih:=by
 refine zk (fn:=Tryz.f30) (c:=Tryz.f30.body.getD .skip) rfl rfl rfl λp hp O w0 Q hq=> ?_
 obtain⟨d,a,b,n,r⟩:=p;replace hq:=hq () trivial;simp only at hq;refine zb.n z9 [] (.R [.agg [.i d,.str a,.str b,.str #[(85:UInt8),(83:UInt8),(68:UInt8)].toList,.str r]] [.box [.i d,.str a,.str b,.str #[(85:UInt8),(83:UInt8),(68:UInt8)].toList,.str r]]) ?_;simp only [Tree.holds,zf];exact RetR.scal hq rfl (by simp [resV])
def zo3:Ctr:=ctrP true (λ_:Unit=>[]) (λ_=>True) (λ_ r=>r=true) (λ_ (r:Bool)=>(.bool r,[]))
def zou:Ctr:={ zit with sinks:=true }
theorem zfo:zd Tryz.prog 19 zou:=zcp.sink
noncomputable def GAlT:=tb zf9 (tb zkg (tb zlj (tb UW (tb zfo tz))))
def dAl1:Deal:=⟨[65,110,110],[66,111,98],[85,83,68],[115,112,111,116],[51],[49,48]⟩
def dAl2:Deal:=⟨[65,110,110],[66,111,98],[85,83,68],[105,100,120],[49,47,50,48],[49,48,48]⟩
def lAl2:List Per:=[⟨1,9,[49,47,50]⟩]
def cAl1:Con:=Tm.fwd dAl1 5
def cAl2:Con:=Tm.wA (Tm.legS dAl2) dAl2 lAl2
theorem znd:Tm.res dAl1 (Tm.fwd dAl1 5)=0:=by decide +kernel
theorem zms:Tm.out 0 (Tm.fwd dAl1 5)=cAl1:=by unfold Tm.out cAl1; rw [if_pos rfl]
theorem zmr:Tm.ku (Tm.legS dAl2) dAl2 lAl2=0:=by decide +kernel
def zkz:Fl:=⟨5,[66,111,98],[65,110,110],[85,83,68],[53]⟩
def zh2:Fl:=⟨9,[65,110,110],[66,111,98],[85,83,68],[53,47,50]⟩
def zky:Fl:=⟨9,[66,111,98],[65,110,110],[85,83,68],[53]⟩
def fxAl:List Fx:=[⟨[105,100,120],1,[49,47,49,48]⟩,⟨[115,112,111,116],5,[55,47,50]⟩]
theorem zjk:jc cAl1 2 fxAl []=([zkz],0):=by kernel_rfl
theorem zjv:jc cAl2 2 fxAl []=([zh2,zky],0):=by kernel_rfl
theorem zfn:envP (fxAl,[]):=⟨by decide,by decide,by unfold xO; decide,λj hj=>absurd hj (Nat.not_lt_zero j)⟩
theorem zmo:FI.pre ⟨cAl1,2,100000,fxAl,[]⟩:=⟨by show cAl1.big<_; decide +kernel,by show cAl1.nodes<=_; decide +kernel,zfn⟩
theorem zlw:FI.pre ⟨cAl2,2,100000,fxAl,[]⟩:=⟨by show cAl2.big<_; decide +kernel,by show cAl2.nodes<=_; decide +kernel,zfn⟩
noncomputable def LAt:List Go.Sx.Item:=jm 12 (Tryz.f8.body.getD .skip)
noncomputable def LAt2:List Go.Sx.Item:=LAt.drop 2
def SAt3:KV:=[(1,.ptr 1 0),(2,.ptr 3 0),(3,.i 0)]
def HAt3:Heap:=[.arr 2 3 (fxG fxAl),.box [.osl 0 3 0 2,.nils],.dead,.box cAl1.zg]
noncomputable def LAt3:List Go.Sx.Item:=LAt2.drop 1
def SAt4:KV:=[(1,.ptr 1 0),(2,.ptr 3 0),(3,.i 0),(4,.ptr 6 0),(5,.i 0)]
def HAt4:Heap:=[.arr 2 3 (fxG fxAl),.box [.osl 0 3 0 2,.nils],.dead,.box cAl1.zg,.dead,.dead,.box cAl2.zg]
noncomputable def LAt4:List Go.Sx.Item:=LAt3.drop 1
def SAt2:KV:=[(1,.ptr 1 0)]
def HAt2:Heap:=[.arr 2 3 (fxG fxAl),.box [.osl 0 3 0 2,.nils]]
abbrev q64(A:List AV)(x:Fl):Prop:=eqL A [.i x.date,.str x.src,.str x.dst,.str x.amt]/\True
abbrev q63(A:List AV)(x:PeA):Prop:=eqL A [x.d.av,.sl x.l.length 3 (perG x.l)]/\PeA.ok x
theorem zdm:zd Tryz.prog 8 zo3:=by
 refine zk (fn:=Tryz.f8) (c:=Tryz.f8.body.getD .skip) rfl rfl rfl λp hp O w0 Q hq=> ?_
 replace hq:=hq true rfl;refine zb.spine 12 ?_;refine zb.cutL (ι:=Unit) LAt 2 0 (λ_=>SAt2) (λ_=>HAt2) (by kernel_rfl) (by kernel_rfl) ?_ λ_=> ?_
 ·refine zb.n GAlT.h [1] (.leaf (.back 0 [(1,.ptr 1 0)] [.arr 2 3 (zj 3 [.str #[(105:UInt8),(100:UInt8),(120:UInt8)].toList,.i 1,.str #[(49:UInt8),(47:UInt8),(49:UInt8),(48:UInt8)].toList,.str #[(115:UInt8),(112:UInt8),(111:UInt8),(116:UInt8)].toList,.i 5,.str #[(55:UInt8),(47:UInt8),(50:UInt8)].toList]),.box [.osl 0 3 0 2,.nils]])) ?_;simp only [Tree.holds,zf];rw [if_pos trivial];refine⟨(),by simp [SAt2],⟨⟨rfl,rfl,?_⟩,by simp,trivial⟩,by kernel_rfl,Nat.zero_le _⟩;intro j o hj ho;rcases(show j=0\/j=1 by omega) with rfl | rfl<;>rcases(show o=0\/o=1\/o=2 by omega) with rfl | rfl | rfl<;>rfl
 show qY none Tryz.prog Tryz.f8 O 0 w0 [] _ _ LAt2 _;refine zb.cutL (ι:=Unit) LAt2 1 0 (λ_=>SAt3) (λ_=>HAt3) (by kernel_rfl) (by kernel_rfl) ?_ λ_=> ?_
 ·refine zb.n GAlT.h [1,2,3] (.ex (λ(x:Deal×Int)=>eqL [.agg [.str #[(65:UInt8),(110:UInt8),(110:UInt8)].toList,.str #[(66:UInt8),(111:UInt8),(98:UInt8)].toList,.str #[(85:UInt8),(83:UInt8),(68:UInt8)].toList,.str #[(115:UInt8),(112:UInt8),(111:UInt8),(116:UInt8)].toList,.str #[(51:UInt8)].toList,.str #[(49:UInt8),(48:UInt8)].toList],.i 5] [x.1.av,.i x.2]/\Tm.fits x.1) λn=>.A λn_1=>.leaf (.back 0 [(1,.ptr 1 0),(2,.ptr 3 0),(3,.i (Tm.res n.1 (Tm.fwd n.1 n.2)))] [.arr 2 3 (fxG fxAl),.box [.osl 0 3 0 2,.nils],.box [.str #[(65:UInt8),(110:UInt8),(110:UInt8)].toList,.str #[(66:UInt8),(111:UInt8),(98:UInt8)].toList,.str #[(85:UInt8),(83:UInt8),(68:UInt8)].toList,.str #[(115:UInt8),(112:UInt8),(111:UInt8),(116:UInt8)].toList,.str #[(51:UInt8)].toList,.str #[(49:UInt8),(48:UInt8)].toList],.box (Con.zg (Tm.out (Tm.res n.1 (Tm.fwd n.1 n.2)) (Tm.fwd n.1 n.2)))])) ?_;simp only [Tree.holds,zf];refine⟨(dAl1,5),⟨⟨⟨rfl,rfl,rfl,rfl,rfl,rfl,trivial⟩,⟨rfl,rfl⟩,trivial⟩,by unfold Tm.fits; decide⟩,⟨(),trivial⟩,λ_ _=> ?_⟩;rw [if_pos trivial];simp only [znd,zms];exact⟨(),by simp [SAt3],⟨zF _,zF _,trivial,zF _,trivial⟩,by kernel_rfl,Nat.zero_le _⟩
 show qY none Tryz.prog Tryz.f8 O 0 w0 [] _ _ LAt3 _;refine zb.cutL (ι:=Unit) LAt3 1 0 (λ_=>SAt4) (λ_=>HAt4) (by kernel_rfl) (by kernel_rfl) ?_ λ_=> ?_
 ·refine zb.n GAlT.h [1,2,3,4,5] (.ex (q63 [.agg [.str #[(65:UInt8),(110:UInt8),(110:UInt8)].toList,.str #[(66:UInt8),(111:UInt8),(98:UInt8)].toList,.str #[(85:UInt8),(83:UInt8),(68:UInt8)].toList,.str #[(105:UInt8),(100:UInt8),(120:UInt8)].toList,.str #[(49:UInt8),(47:UInt8),(50:UInt8),(48:UInt8)].toList,.str #[(49:UInt8),(48:UInt8),(48:UInt8)].toList],.sl 1 3 (zi (zj 3 [.i 1,.i 9,.str #[(49:UInt8),(47:UInt8),(50:UInt8)].toList]) 0)]) λn=>.A λn_1=>.leaf (.back 0 [(1,.ptr 1 0),(2,.ptr 3 0),(3,.i 0),(4,.ptr 6 0),(5,.i (Tm.ku (Tm.legS n.d) n.d n.l))] [.arr 2 3 (fxG fxAl),.box [.osl 0 3 0 2,.nils],.dead,.box [.int .u8 6,.str cAl1.src,.str cAl1.dst,.str cAl1.name,.int .u8 0,.str (Ex.rat cAl1.x),.str (Ex.name cAl1.x),.i 0,.sl 0 5 (Ex.exG (Ex.sub cAl1.x)),.i 5,.sl 0 1 (Con.dayG cAl1.days),.sl 1 12 (Con.deep cAl1)],.box [.str #[(65:UInt8),(110:UInt8),(110:UInt8)].toList,.str #[(66:UInt8),(111:UInt8),(98:UInt8)].toList,.str #[(85:UInt8),(83:UInt8),(68:UInt8)].toList,.str #[(105:UInt8),(100:UInt8),(120:UInt8)].toList,.str #[(49:UInt8),(47:UInt8),(50:UInt8),(48:UInt8)].toList,.str #[(49:UInt8),(48:UInt8),(48:UInt8)].toList],.dead,.box (Con.zg (Tm.wA (Tm.legS n.d) n.d n.l))])) ?_;simp only [q63,Tree.holds,zf];refine⟨⟨dAl2,lAl2,false⟩,⟨⟨⟨rfl,rfl,rfl,rfl,rfl,rfl,trivial⟩,⟨rfl,rfl,?_⟩,trivial⟩,by unfold Tm.fits; decide,by decide,by decide⟩,⟨(),trivial⟩,λ_ _=> ?_⟩
  ·intro j o hj ho;rcases(show j=0 by omega) with rfl;rcases(show o=0\/o=1\/o=2 by omega) with rfl | rfl | rfl<;>rfl
  rw [if_pos trivial];simp only [zmr];exact⟨(),by simp [SAt4],⟨zF _,zF _,trivial,zF _,trivial,trivial,zF _,trivial⟩,by kernel_rfl,Nat.zero_le _⟩
 show qY none Tryz.prog Tryz.f8 O 0 w0 [] _ _ LAt4 _;refine zb.n GAlT.h [] (let v5:=[AV.sl 2 3 (zi (fxG fxAl) 0),AV.nils];let v3:List AV:=[.int .u8 3,.str cAl2.src,.str cAl2.dst,.str cAl2.name,.int .u8 0,.str (Ex.rat cAl2.x),.str (Ex.name cAl2.x),.i 0,.sl 0 5 (Ex.exG (Ex.sub cAl2.x)),.i 0,.sl 0 1 (Con.dayG cAl2.days),.sl 2 12 (Con.deep cAl2)];let v2:List AV:=[.int .u8 6,.str cAl1.src,.str cAl1.dst,.str cAl1.name,.int .u8 0,.str (Ex.rat cAl1.x),.str (Ex.name cAl1.x),.i 0,.sl 0 5 (Ex.exG (Ex.sub cAl1.x)),.i 5,.sl 0 1 (Con.dayG cAl1.days),.sl 1 12 (Con.deep cAl1)];let v1:=[AV.int .u8 3,AV.str cAl2.src,AV.str cAl2.dst,AV.str cAl2.name,AV.int .u8 0,AV.str (Ex.rat cAl2.x),AV.str (Ex.name cAl2.x),AV.i 0,AV.sl 0 5 (Ex.exG (Ex.sub cAl2.x)),AV.i 0,AV.sl 0 1 (Con.dayG cAl2.days),AV.sl 2 12 (Con.deep cAl2)];.ex (q64 [.i 5,.str #[(66:UInt8),(111:UInt8),(98:UInt8)].toList,.str #[(65:UInt8),(110:UInt8),(110:UInt8)].toList,.str #[(53:UInt8)].toList]) λn=>let v4:=zj 5 [.i n.date,.str n.src,.str n.dst,.str [(85:UInt8),(83:UInt8),(68:UInt8)],.str n.amt];.A λn_1=>.ex (λ(x:FlA)=>eqL [.agg [.int .u8 6,.str cAl1.src,.str cAl1.dst,.str cAl1.name,.int .u8 0,.str (Ex.rat cAl1.x),.str (Ex.name cAl1.x),.i 0,.sl 0 5 (Ex.exG (Ex.sub cAl1.x)),.i 5,.sl 0 1 (Con.dayG cAl1.days),.sl 1 12 (Con.deep cAl1)],.i 0,.i 2,.agg v5,.sl 1 5 (zi (zj 5 [.i n.date,.str n.src,.str n.dst,.str [(85:UInt8),(83:UInt8),(68:UInt8)],.str n.amt]) 0)] [(Con.conA x.c),.i x.e,.i x.day,.agg [.sl x.f.length 3 (fxG x.f),.sl x.h.length 4 (chG x.h)],.sl x.l.length 5 (flG x.l)]/\FI.pre { c:=FlA.c x,day:=FlA.day x,fin:=(100000:Int),f:=FlA.f x,h:=FlA.h x } /\ FlA.e x=0/\jc x.c x.day x.f x.h=(FlA.l x,(0:Int))/\List.length x.l<1099511627776) λn_2=>.all (λ(r:Bool)=>r=true) λn_3=>.ex (λ(x:Fl)=>n_3=true->q64 [.i 9,.str #[(65:UInt8),(110:UInt8),(110:UInt8)].toList,.str #[(66:UInt8),(111:UInt8),(98:UInt8)].toList,.str #[(53:UInt8),(47:UInt8),(50:UInt8)].toList] x) λn_4=>.all (λ(x:Unit)=>n_3=true->True) λn_5=>.ex (λ(x:Fl)=>n_3=true->q64 [.i 9,.str #[(66:UInt8),(111:UInt8),(98:UInt8)].toList,.str #[(65:UInt8),(110:UInt8),(110:UInt8)].toList,.str #[(53:UInt8)].toList] x) λn_6=>.all (λ(x:Unit)=>n_3=true->True) λn_7=>.ite (n_3 == true) (.ex (λ(x:FlA)=>n_3=true->eqL [.agg v1,.i 0,.i 2,.agg v5,.sl 2 5 (zi (zj 5 [.i n_4.date,.str n_4.src,.str n_4.dst,.str [(85:UInt8),(83:UInt8),(68:UInt8)],.str n_4.amt,.i n_6.date,.str n_6.src,.str n_6.dst,.str [(85:UInt8),(83:UInt8),(68:UInt8)],.str n_6.amt]) 0)] [(Con.conA x.c),.i x.e,.i x.day,.agg [.sl x.f.length 3 (fxG x.f),.sl x.h.length 4 (chG x.h)],.sl x.l.length 5 (flG x.l)]/\FI.pre { c:=FlA.c x,day:=FlA.day x,fin:=(100000:Int),f:=FlA.f x,h:=FlA.h x } /\ FlA.e x=0/\jc x.c x.day x.f x.h=(FlA.l x,(0:Int))/\List.length x.l<1099511627776) λn_8=>.all (λ(x:Bool)=>n_3=true->x=true) λn_9=>.R [.bool (bif n_3 then n_9 else false)] [.arr 2 3 (fxG fxAl),.box [.osl 0 3 0 2,.nils],.dead,.box v2,.dead,.dead,.box v3,.arr 1 5 v4,.arr 2 5 (zj 5 [.i n_4.date,.str n_4.src,.str n_4.dst,.str [(85:UInt8),(83:UInt8),(68:UInt8)],.str n_4.amt,.i n_6.date,.str n_6.src,.str n_6.dst,.str [(85:UInt8),(83:UInt8),(68:UInt8)],.str n_6.amt])]) (.ex (λ(x:FlA)=>n_3=true->eqL [.agg v1,.i 0,.i 2,.agg v5,AV.nils] [(Con.conA x.c),.i x.e,.i x.day,.agg [.sl x.f.length 3 (fxG x.f),.sl x.h.length 4 (chG x.h)],.sl x.l.length 5 (flG x.l)]/\FI.pre { c:=FlA.c x,day:=FlA.day x,fin:=(100000:Int),f:=FlA.f x,h:=FlA.h x } /\ FlA.e x=0/\jc x.c x.day x.f x.h=(FlA.l x,(0:Int))/\List.length x.l<1099511627776) λn_8=>.all (λ(x:Bool)=>n_3=true->x=true) λn_9=>.R [.bool (bif n_3 then n_9 else false)] [.arr 2 3 (fxG fxAl),.box [.osl 0 3 0 2,.nils],.dead,.box v2,.dead,.dead,.box v3,.arr 1 5 v4])) ?_;simp only [q64,Tree.holds,zf];refine⟨zkz,⟨⟨⟨rfl,rfl⟩,rfl,rfl,rfl,trivial⟩,trivial⟩,⟨(),trivial⟩,λ_ _=> ?_⟩;have eF:eqA (.agg [.sl 2 3 (zi (fxG fxAl) 0),.nils]) (envA fxAl []):=⟨⟨rfl,rfl,λj o _ _=>by simp only [zi,Nat.zero_add]⟩,by simp [chS],trivial⟩;refine⟨⟨cAl1,0,2,fxAl,[],[zkz]⟩,⟨⟨j3 cAl1,⟨rfl,rfl⟩,⟨rfl,rfl⟩,eF,⟨rfl,rfl,?_⟩,trivial⟩,zmo,rfl,zjk,by show(1:Nat)<_; decide⟩,⟨true,rfl⟩,?_⟩
 ·intro j o hj ho;rcases(show j=0 by omega) with rfl;rcases(show o=0\/o=1\/o=2\/o=3\/o=4 by omega) with rfl | rfl | rfl | rfl | rfl<;>rfl
 rintro _ rfl;refine⟨zh2,λ_=>⟨⟨⟨rfl,rfl⟩,rfl,rfl,rfl,trivial⟩,trivial⟩,⟨(),λ_=>trivial⟩,λ_ _=> ?_⟩;refine⟨zky,λ_=>⟨⟨⟨rfl,rfl⟩,rfl,rfl,rfl,trivial⟩,trivial⟩,⟨(),λ_=>trivial⟩,λ_ _=> ?_⟩;refine⟨λ_=> ?_,λg=>absurd g (by decide)⟩;refine⟨⟨cAl2,0,2,fxAl,[],[zh2,zky]⟩,λ_=>⟨⟨j3 cAl2,⟨rfl,rfl⟩,⟨rfl,rfl⟩,eF,⟨rfl,rfl,?_⟩,trivial⟩,zlw,rfl,zjv,by show(2:Nat)<_; decide⟩,⟨true,λ_=>rfl⟩,λr hr=> ?_⟩
 ·intro j o hj ho;rcases(show j=0\/j=1 by omega) with rfl | rfl<;>rcases(show o=0\/o=1\/o=2\/o=3\/o=4 by omega) with rfl | rfl | rfl | rfl | rfl<;>rfl
 ·obtain rfl:=hr rfl;exact RetR.scal hq rfl (by simp [resV])
theorem znb{p:List Fx×List Ch}(h:fitP p):envP p:=by
 obtain⟨a,b,c,d⟩:=h;exact⟨by omega,by omega,λj hj=>⟨by have:=(c j hj).1; omega,by have:=(c j hj).2; omega⟩,λj hj=>⟨by have:=(d j hj).1; omega,by have:=(d j hj).2; omega⟩⟩
end Go.Proofs.Tryz
end
section
namespace Go.Nov
open Go.Sx
def Lad(f:List Fx)(h:List Ch)(c:Con):Prop:=∀ (fr fin:Int) (l:List Fl),flM f h c fr fin = .ok l->(∀ x∈l,fr<=x.date/\x.date<fin)/\∀ (t:Int) (y z:List Fl),fr<=t->t<=fin->flM f h c fr t = .ok y->flM f h c t fin = .ok z->∀ d,onF d l=onF d y++onF d z
theorem zkw{f:List Fx}{h:List Ch}{c:Con}(hc:∀ fr fin,flM f h c fr fin = .ok []):Lad f h c:=by
 intro fr fin l hl;rw [hc] at hl;cases hl;refine⟨by simp,λt y z _ _ hy hz d=> ?_⟩;rw [hc] at hy hz;cases hy; cases hz;simp [onF]
theorem Ya(f:List Fx)(h:List Ch):Lad f h Tm.VS:=zkw λfr fin=>by
 rw [kH];simp [Tm.VS,Con.kind]
theorem zez{d:Int}{a b n r:L8} : ∀ x∈payF d a b n r,x.date=d:=by
 unfold payF;split
 ·simp
 ·split<;>simp
theorem Xv(f:List Fx)(h:List Ch)(day:Int)(a b n:L8)(x:Ex):Lad f h (Tm.at_ day (.mk 2 a b n x 0 [] [])):=by
 have key:∀ fr fin,flM f h (Tm.at_ day (.mk 2 a b n x 0 [] [])) fr fin=if fr<=day/\day<fin then Go.Nov.andM (valM x day f h) λr=>.ok (payF day a b n r) else .ok []:=by
  intro fr fin;rw [Tm.zqa,Tm.zmi];by_cases h1:fin<=fr
  ·rw [if_pos h1,if_neg (by omega)]
  ·rw [if_neg h1];by_cases h2:fr<=day
   ·rw [if_pos h2];by_cases h3:fin<=day
    ·rw [if_pos h3,if_neg (by omega)]
    ·rw [if_neg h3,if_pos (by omega)]
   ·rw [if_neg h2,if_neg (by omega)]
 intro fr fin l hl;rw [key] at hl;by_cases h1:fr<=day/\day<fin
 ·rw [if_pos h1] at hl;refine⟨?_,λt y z ha hb hy hz d=> ?_⟩
  ·obtain⟨r,_,hr⟩:=jo hl;cases hr;intro x hx;rw [zez x hx];exact h1
  ·rw [key] at hy hz;by_cases h2:day<t
   ·rw [if_pos ⟨h1.1,h2⟩,hl] at hy;rw [if_neg (by omega)] at hz;cases hy; cases hz;simp [onF]
   ·rw [if_neg (by omega)] at hy;rw [if_pos ⟨by omega,h1.2⟩,hl] at hz;cases hy; cases hz;simp [onF]
 ·rw [if_neg h1] at hl;cases hl;refine⟨by simp,λt y z ha hb hy hz d=> ?_⟩;rw [key,if_neg (by omega)] at hy hz;cases hy; cases hz;simp [onF]
theorem QQ{d:Int}{l:List Fl}(h:∀ x∈l,x.date≠d):onF d l=[]:=by
 unfold onF;rw [List.filter_eq_nil_iff];intro y hy;have:=h y hy;simpa using this
theorem ziy{f:List Fx}{h:List Ch}{a b:Con}(ha:Lad f h a)(hb:Lad f h b):Lad f h (Tm.both a b):=by
 have key:∀ fr fin l,flM f h (Tm.both a b) fr fin = .ok l->∃ u v,l=u++v/\(fin<=fr/\u=[]/\v=[]\/flM f h a fr fin = .ok u/\flM f h b fr fin = .ok v):=by
  intro fr fin l hl;rw [kH] at hl;by_cases h1:fin<=fr
  ·rw [if_pos h1] at hl; cases hl;exact⟨[],[],rfl,.inl ⟨h1,rfl,rfl⟩⟩
  ·rw [if_neg h1,if_neg (by simp [Tm.both,Con.kind]),if_pos (by simp [Tm.both,Con.kind])] at hl;obtain⟨u,h2,h3⟩:=jo hl;obtain⟨v,h4,h5⟩:=jo h3;cases h5;exact⟨u,v,rfl,.inr ⟨h2,h4⟩⟩
 have dates:∀ {c:Con},Lad f h c->∀ {fr fin:Int} {u:List Fl},flM f h c fr fin = .ok u->∀ x∈u,fr<=x.date/\x.date<fin:=λ{c} hc {fr fin u} hu=>(hc fr fin u hu).1
 have emp:∀ (c:Con) (fr fin:Int),fin<=fr->flM f h c fr fin = .ok []:=λc fr fin hle=>by rw [kH,if_pos hle]
 have key2:∀ fr fin l,flM f h (Tm.both a b) fr fin = .ok l->∃ u v,l=u++v/\flM f h a fr fin = .ok u/\flM f h b fr fin = .ok v:=by
  intro fr fin l hl;obtain⟨u,v,e,hh⟩:=key fr fin l hl;rcases hh with ⟨h1,rfl,rfl⟩ | ⟨h1,h2⟩
  ·exact⟨[],[],e,emp a fr fin h1,emp b fr fin h1⟩
  ·exact⟨u,v,e,h1,h2⟩
 intro fr fin l hl;obtain⟨u,v,rfl,hu,hv⟩:=key2 fr fin l hl;refine⟨λx hx=>(List.mem_append.1 hx).elim (dates ha hu x) (dates hb hv x),λt y z h1 h2 hy hz d=> ?_⟩;obtain⟨y1,y2,rfl,hy1,hy2⟩:=key2 _ _ _ hy;obtain⟨z1,z2,rfl,hz1,hz2⟩:=key2 _ _ _ hz;have ea:=(ha fr fin u hu).2 t y1 z1 h1 h2 hy1 hz1 d;have eb:=(hb fr fin v hv).2 t y2 z2 h1 h2 hy2 hz2 d;simp only [QD,ea,eb];by_cases hd:d<t
 ·have e1:onF d z1=[]:=QQ λx hx=>by have:=dates ha hz1 x hx; omega
  have e2:onF d z2=[]:=QQ λx hx=>by have:=dates hb hz2 x hx; omega
  simp [e1,e2]
 ·have e1:onF d y1=[]:=QQ λx hx=>by have:=dates ha hy1 x hx; omega
  have e2:onF d y2=[]:=QQ λx hx=>by have:=dates hb hy2 x hx; omega
  simp [e1,e2]
theorem Qf{f:List Fx}{h:List Ch} : ∀ (n:Nat) (l:List Con),l.length<=n->(∀ c∈l,Lad f h c)->Lad f h (Tm.whole l)
 | 0,l,hn,_=>by
  rw [Tm.Zh,if_pos (by omega)];exact Ya f h
 | n+1,l,hn,hc=>by
  rw [Tm.Zh];by_cases h0:l.length=0
  ·rw [if_pos h0]; exact Ya f h
  ·rw [if_neg h0];by_cases h1:l.length=1
   ·rw [if_pos h1]
    match l,h1,hc with
    | [c],_,hc=>exact hc c (by simp)
   ·rw [if_neg h1];exact ziy (Qf n _ (by rw [List.length_take]; omega) λc hm=>hc c (List.mem_of_mem_take hm)) (Qf n _ (by rw [List.length_drop]; omega) λc hm=>hc c (List.mem_of_mem_drop hm))
theorem YD{f:List Fx}{h:List Ch}{g:Tm.Leg->Per->Tm.Leg}(hg:∀ s p,(∀ c∈s.acc,Lad f h c)->∀ c∈(g s p).acc,Lad f h c):∀ (l:List Per) (s:Tm.Leg),(∀ c∈s.acc,Lad f h c)->∀ c∈(l.foldl g s).acc,Lad f h c
 | [],s,hs=>hs
 | p::l,s,hs=>YD hg l (g s p) (hg s p hs)
theorem zl4{f:List Fx}{h:List Ch}{d:Deal}(s:Tm.Leg)(p:Per)(hs:∀ c∈s.acc,Lad f h c):∀ c∈(Tm.legS d s p).acc,Lad f h c:=by
 intro c hc;simp only [Tm.legS,List.mem_append,List.mem_cons,List.not_mem_nil,or_false] at hc;rcases hc with hc | rfl | rfl
 ·exact hs c hc
 ·exact Xv _ _ _ _ _ _ _
 ·exact Xv _ _ _ _ _ _ _
theorem zhg{f:List Fx}{h:List Ch}{d:Deal}{fl:Bool}(s:Tm.Leg)(p:Per)(hs:∀ c∈s.acc,Lad f h c):∀ c∈(Tm.legC d fl s p).acc,Lad f h c:=by
 intro c hc;simp only [Tm.legC,List.mem_append,List.mem_cons,List.not_mem_nil,or_false] at hc;rcases hc with hc | rfl
 ·exact hs c hc
 ·exact Xv _ _ _ _ _ _ _
theorem zbb{x:Fl}{l:List Fl}(h:x∈ordM l):x∈l:=by
 have h1:x∈onF x.date (ordM l):=List.mem_filter.2 ⟨h,by simp⟩;rw [JH] at h1;exact(List.mem_filter.1 h1).1
theorem w9{α β:Type}{x:Except Int α}{k:α->Except Int β}{e:Int}(h:Go.Nov.andM x k = .error e):x = .error e\/∃ a,x = .ok a/\k a = .error e:=by
 cases x with
 | error e'=>cases h; exact .inl rfl
 | ok a=>exact .inr ⟨a,rfl,h⟩
theorem XC{x:Ex}{d:Int}{f:List Fx}{h:List Ch}{e:Int}(hv:valM x d f h = .error e):e≠0:=by
 unfold valM at hv;split at hv
 ·cases hv
 ·rename_i h0; cases hv; exact h0
theorem Wq{x:Ex}{d:Int}{f:List Fx}{h:List Ch}{e:Int}(hv:holM x d f h = .error e):e≠0:=by
 unfold holM at hv;split at hv
 ·cases hv
 ·rename_i h0; cases hv; exact h0
theorem WB{k:L8}{e:Int} : ∀ {l:List Fl},qV k l = .error e->e≠0
 | [],h=>by cases h
 | f::l,h=>by
  rw [qV] at h;split at h
  ·rename_i h0; cases h; exact h0
  ·split at h
   ·rename_i e' he; cases h; exact WB he
   ·cases h
theorem ka{is:Int->Except Int Bool}{day fin e:Int}(his:∀ d e,is d = .error e->e≠0):∀ {l:List Int},firstM is day fin l = .error e->e≠0
 | [],h=>by cases h
 | d::l,h=>by
  rw [firstM] at h;split at h
  ·cases h
  ·split at h
   ·split at h
    ·rename_i e' he; cases h; exact his _ _ he
    ·cases h
    ·exact ka his h
   ·exact ka his h
theorem zna{f:List Fx}{h:List Ch} : ∀ (c:Con) {day fin e:Int},flM f h c day fin = .error e->e≠0:=by
 refine Con.zcq ?_;intro c ih day fin e hl
 have kid:∀ (i:Nat) {day fin e:Int},flM f h (c.sub.getD i Con.nil) day fin = .error e->e≠0:=by
  intro i day fin e hl;by_cases hi:i<c.sub.length
  ·exact ih i hi hl
  ·rw [xb (by omega),QG] at hl;cases hl
 rw [kH] at hl;split at hl
 ·cases hl
 split at hl
 ·rcases w9 hl with h1 | ⟨a,_,h2⟩
  ·exact XC h1
  ·cases h2
 split at hl
 ·rcases w9 hl with h1 | ⟨a,_,h2⟩
  ·exact kid 0 h1
  ·rcases w9 h2 with h1 | ⟨a,_,h2⟩
   ·exact kid 1 h1
   ·cases h2
 split at hl
 ·rcases w9 hl with h1 | ⟨a,_,h2⟩
  ·exact XC h1
  ·rcases w9 h2 with h1 | ⟨a,_,h2⟩
   ·exact kid 0 h1
   ·exact WB h2
 split at hl
 ·rcases w9 hl with h1 | ⟨a,_,h2⟩
  ·exact Wq h1
  ·exact kid _ h2
 split at hl
 ·split at hl
  ·exact kid _ hl
  ·cases hl
 split at hl
 ·exact kid _ hl
 split at hl
 ·rcases w9 hl with h1 | ⟨a,_,h2⟩
  ·exact ka (λ_ _ h=>by cases h) h1
  ·exact kid _ h2
 split at hl
 ·rcases w9 hl with h1 | ⟨a,_,h2⟩
  ·exact ka (λ_ _ h=>Wq h) h1
  ·exact kid _ h2
 split at hl
 ·rcases w9 hl with h1 | ⟨a,_,h2⟩
  ·exact ka (λ_ _ h=>Wq h) h1
  ·exact kid _ h2
 ·cases hl
theorem U8{c:Con}{day fin:Int}{f:List Fx}{h:List Ch}{l:List Fl}(hb:befM c day fin f h=(l,0)):∃ u,flM f h c day fin = .ok u/\l=ordM u/\0<=day/\day<=99999:=by
 unfold befM at hb;split at hb
 ·rename_i h1; exact absurd (Prod.mk.inj hb).2 h1
 split at hb
 ·rename_i h1; exact absurd (Prod.mk.inj hb).2 h1
 split at hb
 ·exact absurd (Prod.mk.inj hb).2 (by decide)
 rename_i h3;split at hb
 ·rename_i e he;exact absurd (Prod.mk.inj hb).2 (zna c he)
 ·rename_i u hu;exact⟨u,hu,(Prod.mk.inj hb).1.symm,by omega,by omega⟩
theorem yj{is:Int->Except Int Bool}{day fin:Int} : ∀ {l:List Int} {t:Int},firstM is day fin l = .ok t->t=fin\/day<=t/\t<fin
 | [],t,h=>by cases h; exact .inl rfl
 | d::l,t,h=>by
  rw [firstM] at h;split at h
  ·cases h; exact .inl rfl
  ·split at h
   ·split at h
    ·cases h
    ·cases h; exact .inr ⟨by omega,by omega⟩
    ·exact yj h
   ·exact yj h
theorem zrv{c:Con}{x:Ex}{days:List Int}{fr:Int}{f:List Fx}{h:List Ch}{lx ly lz:List Fl}(hL:Lad f h c)(h1:jc c fr f h=(lx,0))(h2:jc (.mk 9 [] [] [] x 0 days [c]) fr f h=(ly,0))(h3:jc (.mk 10 [] [] [] x 0 days [c]) fr f h=(lz,0)):lx=ly++lz:=by
 obtain⟨u,hu,rfl,hf0,hf1⟩:=U8 h1;obtain⟨v,hv,rfl,_,_⟩:=U8 h2;obtain⟨w,hw,rfl,_,_⟩:=U8 h3;rw [kH,if_neg (by omega)] at hv hw;simp only [Con.kind,Con.x,Con.days,Con.sub,List.getD_cons_zero] at hv hw;simp only [show ¬ (9:Int)=2 by decide,show ¬ (9:Int)=3 by decide,show ¬ (9:Int)=4 by decide,show ¬ (9:Int)=5 by decide,show ¬ (9:Int)=6 by decide,show ¬ (9:Int)=7 by decide,show ¬ (9:Int)=8 by decide,if_false,if_true] at hv;simp only [show ¬ (10:Int)=2 by decide,show ¬ (10:Int)=3 by decide,show ¬ (10:Int)=4 by decide,show ¬ (10:Int)=5 by decide,show ¬ (10:Int)=6 by decide,show ¬ (10:Int)=7 by decide,show ¬ (10:Int)=8 by decide,show ¬ (10:Int)=9 by decide,if_false,if_true] at hw;obtain⟨t,ht,hv⟩:=jo hv;obtain⟨t',ht',hw⟩:=jo hw;rw [ht] at ht';cases ht';have hr:=yj ht;have hd:=(hL fr 100000 u hu).2 t v w (by omega) (by omega) hv hw;have dv:=(hL fr t v hv).1;have dw:=(hL t 100000 w hw).1;refine ZS (uT u) ?_ λd=> ?_
 ·unfold j0;rw [List.pairwise_append];refine⟨uT v,uT w,λa ha b hb=> ?_⟩;have:=dv a (zbb ha);have:=dw b (zbb hb);omega
 ·rw [QD,JH,JH,JH,hd d]
end Go.Nov
end
section
set_option maxRecDepth 100000
open Go Go.Sx Go.Proofs Go.Nov
namespace Go.Proofs.Tryz
attribute [local simp] eqKV eqA eqA0 eqH eqB eqL eqL0
structure InoA where
 d:Deal
 l:List Per
 n:L8
 days:List Int
 r:L8
 up:Bool
 sw:Bool
 fr:Int
 f:List Fx
 h:List Ch
def zro:Ctr:=ctrP true (λp:InoA=>[p.d.av,perS p.l,.str p.n,Con.dayS p.days,.str p.r,.bool p.up,.bool p.sw,.i p.fr,envA p.f p.h]) (λp=>p.l.length<2^60/\(p.f.length<2^60/\p.h.length<2^60/\(∀ j,j<p.f.length->zbf (p.f.getD j Fx.nil))/\∀ j,j<p.h.length->XD (p.h.getD j Ch.nil))) (λ_ r=>r=true) (λ_ (r:Bool)=>(.bool r,[]))
def zc9:Ctr:=ctrP true (λ_:Unit=>[]) (λ_=>True) (λ_ (_:Unit)=>True) (λ_ _=>(.bool true,[]))
theorem zdn:zd Tryz.prog 8 zc9:=by
 intro args hc Q h hf;refine zdm args hc Q ?_ hf;cases hc with
 | nil=>
  obtain⟨x,hx,_,hk⟩:=h;refine⟨x,hx,⟨true,rfl⟩,?_⟩;rintro _ rfl;exact hk () trivial
 | cons b l=>exact h.elim
noncomputable def GIo:=tb zdn (tb zmz (tb ziz (tb zcp (tb zpq (tb zpv (tb Jz (tb YC tz)))))))
theorem Qs{f:Tm.Leg->Per->Tm.Leg}(hf:∀ s p,(f s p).acc.length<=s.acc.length+2/\Con.bigs (f s p).acc<=Con.bigs s.acc+30000/\Con.zq (f s p).acc<=Con.zq s.acc+4){d:Deal}{l:List Per}(hl:l.length<=60):(Tm.wA f d l).big<4000000/\(Tm.wA f d l).nodes<=900000:=by
 unfold Tm.wA;split
 ·have h1:=Tm.uB hf (Tm.ja (Tm.perE d l) l l.length) l l.length hl;have h2:=Tm.ur (Tm.Qu f d l).acc;unfold Tm.Qu at h2 ⊢;omega
 ·have:=Tm.zkb; have:Tm.zero.nodes<=900000:=by decide +kernel
  omega
theorem VH{f:List Fx}{h:List Ch}{g:Tm.Leg->Per->Tm.Leg}(hg:∀ s p,(∀ c∈s.acc,Lad f h c)->∀ c∈(g s p).acc,Lad f h c){d:Deal}{l:List Per}(he:Tm.ku g d l=0):Lad f h (Tm.wA g d l):=by
 unfold Tm.wA;rw [if_pos he];refine Qf _ _ (Nat.le_refl _) ?_;unfold Tm.Qu Tm.zN;exact YD hg _ _ (by simp)
theorem Yg(x:Fl):∀ l:List Fl,(insF x l).length=l.length+1
 | []=>rfl
 | y::l=>by rw [insF]; split<;>simp [Yg x l]
theorem V5:∀ (l m:List Fl),(l.foldl (λm x=>insF x m) m).length=m.length+l.length
 | [],m=>rfl
 | x::l,m=>by rw [List.foldl_cons,V5 l,Yg,List.length_cons]; omega
theorem zlb(l:List Fl):(ordM l).length=l.length:=by
 unfold ordM; rw [V5]; simp
structure IoX(n:L8)(days:List Int)(r:L8)(f:List Fx)(h:List Ch) where
 c:Con
 e:Int
 lad:e=0->Lad f h c
 big:c.big<4000000
 nod:c.nodes<=900000
 hn:n.length<=200
 hr:r.length<=2500
 hd:days.length<=200
 fit:fitP (f,h)
theorem Bar.small{c:Con}{n r:L8}{days:List Int}{up i:Bool}(h:BarA.ok ⟨c,n,days,r,up,i⟩):(Bar.con c n days r up i).big<5000000/\(Bar.con c n days r up i).nodes<=1000000:=by
 obtain⟨h1,h2,h3,h4,h5⟩:=h;simp only at h1 h2 h3 h4 h5;constructor
 ·cases up<;>simp only [Bar.con,Con.big,Con.bigs,Tm.opx,Tm.spot,Tm.kon,Ex.size,Ex.zD,Ex.zH,Ex.jn,List.length_nil,List.length_cons,if_pos,Bool.false_eq_true,if_false]<;>omega
 ·simp only [Bar.con,Con.nodes,Con.zq]; omega
theorem Bar.same(c:Con)(n:L8)(days:List Int)(r:L8)(up:Bool):Bar.res r (Bar.con c n days r up false)=Bar.res r (Bar.con c n days r up true):=by
 have hf:(Bar.con c n days r up false).form=(Bar.con c n days r up true).form:=by
  simp only [Bar.con,if_true,Bool.false_eq_true,if_false,Con.form,Con.yL,ky];simp
 have hs:(Bar.con c n days r up false).size=(Bar.con c n days r up true).size:=by
  simp only [Bar.con,Con.size]
 have hd:(Bar.con c n days r up false).depth=(Bar.con c n days r up true).depth:=by
  simp only [Bar.con,Con.depth]
 unfold Bar.res Con.errC;rw [hf,hs,hd]
theorem Jf(c:Con)(fr:Int)(f:List Fx)(h:List Ch):(jc c fr f h).1.length<=c.nodes:=by
 unfold jc befM;split
 ·simp
 split
 ·simp
 split
 ·simp
 split
 ·simp
 ·rename_i u hu;have:=(JX c hu).1;simp only [zlb];omega
noncomputable def LIo:List Go.Sx.Item:=jm 20 (Tryz.f5.body.getD .skip)
noncomputable def LIo2:List Go.Sx.Item:=LIo.drop 5
def SIo(n:L8)(days:List Int)(r:L8)(up:Bool)(fr e:Int):KV:=[(2,.str n),(3,Con.dayS days),(4,.str r),(5,.bool up),(7,.i fr),(17,.ptr 1 0),(19,.bool true),(20,.ptr 2 0),(21,.i e)]
def HIo(d:Deal)(f:List Fx)(h:List Ch)(c:Con):Heap:=[.box [.str d.long,.str d.short,.str d.ccy,.str d.name,.str d.zc,.str d.zh],.box [.sl f.length 3 (fxG f),.sl h.length 4 (chG h)],.box c.zg]
abbrev q65(A:List AV)(x:BarA):Prop:=eqL A [x.c.conD,.str x.n,.sl x.days.length 1 (Con.dayG x.days),.str x.r,.bool x.up,.bool x.inn]/\BarA.ok x
theorem zl2:zd Tryz.prog 5 zro:=by
 refine zk (fn:=Tryz.f5) (c:=Tryz.f5.body.getD .skip) rfl rfl rfl λp hp O w0 Q hq=> ?_
 obtain⟨d,l,n,days,r,up,sw,fr,f,h⟩:=p;replace hq:=hq true rfl;simp only at hp;obtain⟨hl,hfh⟩:=hp;have eF:eqA (.agg [.sl f.length 3 (fxG f),.sl h.length 4 (chG h)]) (envA f h):=⟨⟨rfl,rfl,λ_ _ _ _=>rfl⟩,⟨rfl,rfl,λ_ _ _ _=>rfl⟩,trivial⟩;have e0:eqA (.agg [.str d.long,.str d.short,.str d.ccy,.str d.name,.str d.zc,.str d.zh]) d.av:=⟨rfl,rfl,rfl,rfl,rfl,rfl,trivial⟩;refine zb.spine 20 ?_;refine zb.cutL (ι:=IoX n days r f h) LIo 5 0 (λx=>SIo n days r up fr x.e) (λx=>HIo d f h x.c) (by kernel_rfl) (by kernel_rfl) ?_ λx=> ?_
 ·refine zb.n GIo.h [2,3,4,5,7,17,19,20,21] (let v2:List AV:=[.sl f.length 3 (fxG f),.sl h.length 4 (chG h)];let v1:List AV:=[.str d.long,.str d.short,.str d.ccy,.str d.name,.str d.zc,.str d.zh];.ex (λ(x:Unit)=>eqL [] []/\True) λn_1=>.A λn_2=>.ex (λ(x:xH)=>eqL [d.av,.sl l.length 3 (perG l),.sl days.length 1 (Con.dayG days)] [(Deal.av (xH.d x)),.sl (xH.l x).length 3 (perG (xH.l x)),.sl (xH.days x).length 1 (Con.dayG (xH.days x))]/\List.length (xH.l x)<1152921504606846976) λn_3=>.all (λ(r:Bool)=>r=false->Tm.short (xH.d n_3) (xH.l n_3) (xH.days n_3)) λn_4=>.ex (λ(x:List Fx×List Ch)=>(bif bif n_4 then true else decide ((200:Int)<n.length) then true else decide ((2500:Int)<r.length))=false->eqL [.agg [.sl f.length 3 (fxG f),.sl h.length 4 (chG h)]] [.agg [.sl x.1.length 3 (fxG x.1),.sl x.2.length 4 (chG x.2)]]/\x.1.length<1152921504606846976/\x.2.length<1152921504606846976/\(∀ (j:Nat),j<x.1.length->zbf (List.getD x.1 j Fx.nil))/\∀ (j:Nat),j<x.2.length->XD (List.getD x.2 j Ch.nil)) λn_5=>.all (λ(x:Bool)=>(bif bif n_4 then true else decide ((200:Int)<n.length) then true else decide ((2500:Int)<r.length))=false->x=false->fitP n_5) λn_6=>.ite (bif bif bif bif n_4 then true else decide ((200:Int)<n.length) then true else decide ((2500:Int)<r.length) then true else n_6 then true else !true) (.R [.bool true] [.box v1,.box v2]) (.ex (λ(x:PeA)=>eqL [d.av,.sl l.length 3 (perG l),.bool false] [x.d.av,.sl x.l.length 3 (perG x.l),.bool x.fl]/\PeA.ok x) λn_7=>let v3:=Tm.legC n_7.d n_7.fl;.A λn_8=>.ite sw (.ex (q63 [d.av,.sl l.length 3 (perG l)]) λn_9=>.A λn_10=>.leaf (.back 0 [(2,.str n),(3,.sl days.length 1 (Con.dayG days)),(4,.str r),(5,.bool up),(7,.i fr),(17,.ptr 1 0),(19,.bool true),(20,.ptr 2 0),(21,.i (Tm.ku (Tm.legS n_9.d) n_9.d n_9.l))] [.box v1,.box v2,.box (Con.zg (Tm.wA (Tm.legS n_9.d) n_9.d n_9.l))])) (.leaf (.back 0 [(2,.str n),(3,.sl days.length 1 (Con.dayG days)),(4,.str r),(5,.bool up),(7,.i fr),(17,.ptr 1 0),(19,.bool true),(20,.ptr 2 0),(21,.i (Tm.ku v3 n_7.d n_7.l))] [.box v1,.box v2,.box (Con.zg (Tm.wA v3 n_7.d n_7.l))])))) ?_;simp only [q63,Tree.holds,zf];refine⟨(),⟨trivial,trivial⟩,⟨(),trivial⟩,λ_ _=> ?_⟩;refine⟨⟨d,l,days⟩,⟨⟨⟨rfl,rfl,rfl,rfl,rfl,rfl,trivial⟩,⟨rfl,rfl,za _ _ _⟩,⟨rfl,rfl,za _ _ _⟩,trivial⟩,by show l.length<_; omega⟩,⟨true,λh=>by cases h⟩,λb1 hb1=> ?_⟩;refine⟨(f,h),λ_=>⟨⟨eF,trivial⟩,hfh⟩,⟨true,λ_ h=>by cases h⟩,λb2 hb2=>⟨λ_=>RetR.scal hq rfl rfl,λhu=> ?_⟩⟩
  have hu':b1=false/\n.length<=200/\r.length<=2500/\b2=false:=by
   cases b1<;>cases b2<;>simp at hu ⊢ <;> omega
  obtain⟨rfl,hn,hr,rfl⟩:=hu';have hsh:=hb1 rfl;have hfit:fitP (f,h):=hb2 (by simp; omega) rfl;obtain⟨s1,s2,s3,s4⟩:=hsh;simp only at s1 s2 s3 s4;refine⟨⟨d,l,false⟩,⟨⟨e0,⟨rfl,rfl,za _ _ _⟩,rfl,trivial⟩,s1,s2,s4⟩,⟨(),trivial⟩,λ_ _=>⟨λhs=> ?_,λhs=> ?_⟩⟩
  ·refine⟨⟨d,l,false⟩,⟨⟨e0,⟨rfl,rfl,za _ _ _⟩,trivial⟩,s1,s2,s4⟩,⟨(),trivial⟩,λ_ _=> ?_⟩;rw [if_pos trivial];have hsm:=Qs (Tm.Vi s1) (d:=d) (l:=l) s2;exact⟨⟨_,_,VH (λs p=>zl4 s p),hsm.1,hsm.2,hn,hr,s3,hfit⟩,by simp [SIo,Con.dayS,za],⟨zF _,zF _,zF _,trivial⟩,by kernel_rfl,Nat.zero_le _⟩
  ·rw [if_pos trivial];have hsm:=Qs (Tm.Vd (fl:=false) s1) (d:=d) (l:=l) s2;exact⟨⟨_,_,VH (λs p=>zhg s p),hsm.1,hsm.2,hn,hr,s3,hfit⟩,by simp [SIo,Con.dayS,za],⟨zF _,zF _,zF _,trivial⟩,by kernel_rfl,Nat.zero_le _⟩
 obtain⟨c,e,hlad,hbig,hnod,hn,hr,hd,hfit⟩:=x;show qY none Tryz.prog Tryz.f5 O 0 w0 [] _ _ LIo2 _;simp only;refine zb.n GIo.h [] (let v6:=[AV.sl f.length 3 (fxG f),AV.sl h.length 4 (chG h)];let v4:List AV:=[.sl f.length 3 (fxG f),.sl h.length 4 (chG h)];let v1:List AV:=[.str d.long,.str d.short,.str d.ccy,.str d.name,.str d.zc,.str d.zh];.N (e=0) (.R [.bool true] [.box v1,.box v4,.box c.zg]) (.ex (q65 [c.conD,.str n,.sl days.length 1 (Con.dayG days),.str r,.bool up,.bool false]) λn_1=>let v14:=BarA.con n_1;let v10:=Tm.out (Bar.res n_1.r v14) v14;let v2:=Con.zg v10;.A λn_2=>.ex (q65 [c.conD,.str n,.sl days.length 1 (Con.dayG days),.str r,.bool up,.bool true]) λn=>let v16:=BarA.con n;let v11:=Tm.out (Bar.res n.r v16) v16;let v3:=Con.zg v11;let v7:List Blk:=[.box v1,.box v4,.box c.zg,.box v2,.box v3];.A λn_3=>.ite (bif !decide (Bar.res n_1.r v14=(0:Int)) then true else !decide (Bar.res n.r v16=(0:Int))) (.R [.bool (bif true then decide (Bar.res n_1.r v14=Bar.res n.r v16) else false)] v7) (.ex (q61 [c.conD,.i fr,.agg v6]) λn_4=>.all (λ(r:List Fl×Int)=>r=jc n_4.c n_4.day n_4.f n_4.h) λn_5=>let v5:=[AV.sl n_5.1.length 5 (flG n_5.1),AV.nils];.ex (q61 [v10.conD,.i fr,.agg v6]) λn_6=>.all (λ(r:List Fl×Int)=>r=jc n_6.c n_6.day n_6.f n_6.h) λn_7=>let v17:=appG 0 (zj 5 []) (flG n_7.1);.ex (q61 [v11.conD,.i fr,.agg v6]) λn_8=>.all (λ(r:List Fl×Int)=>r=jc n_8.c n_8.day n_8.f n_8.h) λn_9=>let v15:=n_9.1.length*72<=140737488355328;let v13:=appG n_7.1.length (flG n_7.1) (flG n_9.1);let v12:=n_7.1.length+n_9.1.length;let v9:=appG (0+n_7.1.length) v17 (flG n_9.1);let v8:=[AV.sl n_5.1.length 5 (flG n_5.1),AV.sl n_9.1.length 5 (zi (flG n_9.1) 0)];.ite (bif bif !decide (n_5.2=0) then true else !decide (n_7.2=0) then true else !decide (n_9.2=0)) (.R [.bool true] v7) (.ite true (.ite true (.side (0=0/\0<=0/\(0+n_7.1.length)*72<=140737488355328) (.ite true (.side (0=0/\0+n_7.1.length<=0+n_7.1.length/\(0+n_7.1.length+n_9.1.length)*72<=140737488355328) (.ex (λ(x:List Fl×List Fl)=>true=true->q62 [.sl n_5.1.length 5 (flG n_5.1),.sl (0+n_7.1.length+n_9.1.length) 5 (zi v9 0)] x) λn_10=>.all (λ(x:Bool)=>true=true->(x=true↔n_10.1=n_10.2)) λn_11=>.R [.bool (bif true then n_11 else false)] [.box v1,.box v4,.box c.zg,.box v2,.box v3,.arr (0+n_7.1.length+n_9.1.length) 5 v9])) (.ex (λ(x:List Fl×List Fl)=>true=true->q62 v5 x) λn_10=>.all (λ(x:Bool)=>true=true->(x=true↔n_10.1=n_10.2)) λn_11=>.R [.bool (bif true then n_11 else false)] [.box v1,.box v4,.box c.zg,.box v2,.box v3,.arr (0+n_7.1.length) 5 v17]))) (.ite true (.side v15 (.ex (λ(x:List Fl×List Fl)=>true=true->q62 v8 x) λn_10=>.all (λ(x:Bool)=>true=true->(x=true↔n_10.1=n_10.2)) λn_11=>.R [.bool (bif true then n_11 else false)] [.box v1,.box v4,.box c.zg,.box v2,.box v3,.arr 0 5 (zj 5 []),.arr n_9.1.length 5 (flG n_9.1)])) (.ex (λ(x:List Fl×List Fl)=>true=true->q62 v5 x) λn_10=>.all (λ(x:Bool)=>true=true->(x=true↔n_10.1=n_10.2)) λn_11=>.R [.bool (bif true then n_11 else false)] [.box v1,.box v4,.box c.zg,.box v2,.box v3,.arr 0 5 (zj 5 [])]))) (.ite true (.side (n_7.1.length*72<=140737488355328) (.ite true (.side (0=0/\n_7.1.length<=n_7.1.length/\v12 *72<=140737488355328) (.ex (λ(x:List Fl×List Fl)=>true=true->q62 [.sl n_5.1.length 5 (flG n_5.1),.sl v12 5 (zi v13 0)] x) λn_10=>.all (λ(x:Bool)=>true=true->(x=true↔n_10.1=n_10.2)) λn_11=>.R [.bool (bif true then n_11 else false)] [.box v1,.box v4,.box c.zg,.box v2,.box v3,.arr v12 5 v13])) (.ex (λ(x:List Fl×List Fl)=>true=true->q62 v5 x) λn_10=>.all (λ(x:Bool)=>true=true->(x=true↔n_10.1=n_10.2)) λn_11=>.R [.bool (bif true then n_11 else false)] [.box v1,.box v4,.box c.zg,.box v2,.box v3,.arr n_7.1.length 5 (flG n_7.1)]))) (.ite true (.side v15 (.ex (λ(x:List Fl×List Fl)=>true=true->q62 v8 x) λn_10=>.all (λ(x:Bool)=>true=true->(x=true↔n_10.1=n_10.2)) λn_11=>.R [.bool (bif true then n_11 else false)] [.box v1,.box v4,.box c.zg,.box v2,.box v3,.arr n_9.1.length 5 (flG n_9.1)])) (.ex (λ(x:List Fl×List Fl)=>true=true->q62 v5 x) λn_10=>.all (λ(x:Bool)=>true=true->(x=true↔n_10.1=n_10.2)) λn_11=>.R [.bool (bif true then n_11 else false)] v7))))))) ?_;simp only [q61,q62,q65,Tree.holds,zf];refine⟨λ_=>RetR.scal hq rfl rfl,λhe=> ?_⟩;have he:e=0:=by simpa using he
 have hL:=hlad he;have okb:∀ i,BarA.ok ⟨c,n,days,r,up,i⟩:=λi=>⟨hbig,hnod,hn,hd,hr⟩
 refine⟨⟨c,n,days,r,up,false⟩,⟨⟨JV _,rfl,⟨rfl,rfl,za _ _ _⟩,rfl,rfl,rfl,trivial⟩,okb false⟩,⟨(),trivial⟩,λ_ _=> ?_⟩;refine⟨⟨c,n,days,r,up,true⟩,⟨⟨JV _,rfl,⟨rfl,rfl,za _ _ _⟩,rfl,rfl,rfl,trivial⟩,okb true⟩,⟨(),trivial⟩,λ_ _=> ?_⟩;have hres:=Bar.same c n days r up;have hs1:=Bar.small (i:=false) (okb false);have hs2:=Bar.small (i:=true) (okb true);have henv:envP (f,h):=znb hfit;have hdec:decide (Bar.res r (Bar.con c n days r up false)=Bar.res r (Bar.con c n days r up true))=true:=decide_eq_true hres;refine⟨λg=>RetR.scal hq rfl (by show resV [.bool (decide (Bar.res r (Bar.con c n days r up false)=Bar.res r (Bar.con c n days r up true)))]=_; rw [hdec]; rfl),λg=> ?_⟩;have g':(bif !decide (Bar.res r (Bar.con c n days r up false)=0) then true else !decide (Bar.res r (Bar.con c n days r up true)=0))=false:=g;clear g
 have hr0:Bar.res r (Bar.con c n days r up true)=0:=by
  by_cases a:Bar.res r (Bar.con c n days r up true)=0
  ·exact a
  ·rw [hres] at g'; simp [a] at g'
 have ho1:Tm.out (Bar.res r (Bar.con c n days r up false)) (Bar.con c n days r up false)=Bar.con c n days r up false:=by unfold Tm.out; rw [hres,if_pos hr0]
 have ho2:Tm.out (Bar.res r (Bar.con c n days r up true)) (Bar.con c n days r up true)=Bar.con c n days r up true:=by unfold Tm.out; rw [if_pos hr0]
 refine⟨⟨c,fr,100000,f,h⟩,⟨⟨wa _,⟨rfl,rfl⟩,eF,trivial⟩,by show c.big<_; omega,by show c.nodes<=_; omega,henv⟩,⟨_,rfl⟩,?_⟩;rintro _ rfl;refine⟨⟨Bar.con c n days r up false,fr,100000,f,h⟩,⟨⟨by show eqA (Tm.out (Bar.res r (Bar.con c n days r up false)) (Bar.con c n days r up false)).conD _; rw [ho1]; exact wa _,⟨rfl,rfl⟩,eF,trivial⟩,by show(Bar.con c n days r up false).big<_; omega,by show(Bar.con c n days r up false).nodes<=_; omega,henv⟩,⟨_,rfl⟩,?_⟩;rintro _ rfl;refine⟨⟨Bar.con c n days r up true,fr,100000,f,h⟩,⟨⟨by show eqA (Tm.out (Bar.res r (Bar.con c n days r up true)) (Bar.con c n days r up true)).conD _; rw [ho2]; exact wa _,⟨rfl,rfl⟩,eF,trivial⟩,by show(Bar.con c n days r up true).big<_; omega,by show(Bar.con c n days r up true).nodes<=_; omega,henv⟩,⟨_,rfl⟩,?_⟩;rintro _ rfl;have l1:=Jf c fr f h;have l2:=Jf (Bar.con c n days r up false) fr f h;have l3:=Jf (Bar.con c n days r up true) fr f h
 have hio:(jc c fr f h).2=0->(jc (Bar.con c n days r up false) fr f h).2=0->(jc (Bar.con c n days r up true) fr f h).2=0->(jc c fr f h).1=(jc (Bar.con c n days r up false) fr f h).1++(jc (Bar.con c n days r up true) fr f h).1:=
  λa b d=>zrv hL (Prod.ext rfl a) (Prod.ext rfl b) (Prod.ext rfl d)
 generalize jc c fr f h=m1 at l1 hio ⊢;generalize jc (Bar.con c n days r up false) fr f h=m2 at l2 hio ⊢;generalize jc (Bar.con c n days r up true) fr f h=m3 at l3 hio ⊢;refine⟨λ_=>RetR.scal hq rfl rfl,λg=> ?_⟩
 have g':m1.2=0/\m2.2=0/\m3.2=0:=by
  by_cases a:m1.2=0<;>by_cases b:m2.2=0<;>by_cases d:m3.2=0<;>simp [a,b,d] at g ⊢
 have e1:=hio g'.1 g'.2.1 g'.2.2;refine⟨λ_=>⟨λ_=>⟨⟨by trivial,by omega,by omega⟩,λ_=>⟨λ_=>⟨⟨by trivial,by omega,by omega⟩,λ_=> ?_⟩,λh=>by cases h⟩⟩,λh=>by cases h⟩,λh=>by cases h⟩;refine⟨(m1.1,m2.1++m3.1),λ_=>⟨⟨⟨rfl,rfl,za _ _ _⟩,⟨by simp,rfl,?_⟩,trivial⟩,by show m1.1.length<_; omega⟩,⟨true,λ_=>⟨λ_=>e1,λ_=>rfl⟩⟩,λb hb=> ?_⟩
 ·intro j o hj ho;have:=uV (o:=m2.1) (a:=m3.1) rfl rfl j o (by simpa using hj) ho;simp only [zi,appG,Nat.zero_add,Nat.sub_zero,Nat.not_lt_zero,if_false] at this ⊢;exact this
 ·have:b=true:=(hb trivial).2 e1;subst this;exact RetR.scal hq rfl rfl
end Go.Proofs.Tryz
end
section
open Go Go.Sx Go.Proofs Go.Nov
namespace Go.Proofs.Tryz
def zrw(p:List Fx×List Ch):Prop:=p.1.length<2^60/\p.2.length<2^60/\(∀ j,j<p.1.length->zbf (p.1.getD j Fx.nil))/\∀ j,j<p.2.length->XD (p.2.getD j Ch.nil)
end Go.Proofs.Tryz
end
section
namespace Go.Sx
variable [Stat]
open Go.RowKit (Below)
def E0:Nat->Prop:=Own (λ_=>False) []
theorem YV(b:Nat):¬ E0 b:=by
 rintro(h | ⟨e,he,_⟩)
 ·exact h
 ·simp at he
def Tw(P:Program)(W:World)(t:TypeId)(cs:List Value):Prop:=∃ (H:Type) (enc:TypeId×Value->H) (base fuel:Nat) (d:DataW H) (ps:List MemPlace),DataW.trod enc P W base (λ_=>true) true fuel t cs=some (d,ps)/\∀ n∈d.weights P t,n<=reachBytes
section
variable {P:Program} {W:World} {t e:TypeId} {cs:List Value}
theorem vD(ht:P.underlying t=some .string)(h:Tw P W t cs):∃ s:L8,cs=[.string ⟨s.toArray⟩]/\s.length<=reachBytes:=by
 obtain⟨H,enc,base,fuel,d,ps,h,hw⟩:=h;obtain⟨s,rfl,hx,_⟩:=DataW.trod_string ht h;cases hx;exact⟨s.data.toList,by simp,hw _ (by simp [DataW.weights])⟩
theorem ZY{k:IntKind}(ht:P.underlying t=some (.int k))(h:Tw P W t cs):∃ n,cs=[.int k n]/\(Lit.int k n).wf=true:=by
 obtain⟨H,enc,base,fuel,d,ps,h,hw⟩:=h;obtain⟨n,rfl,hx,hwf⟩:=DataW.trod_int ht h;exact⟨n,rfl,hwf⟩
theorem zco(ht:P.underlying t=some .bool)(h:Tw P W t cs):∃ b,cs=[.bool b]:=by
 obtain⟨H,enc,base,fuel,d,ps,h,hw⟩:=h;obtain⟨b,rfl,hx⟩:=DataW.trod_bool ht h;exact⟨b,rfl⟩
theorem kR{fs:Array Field}(ht:P.underlying t=some (.struct fs))(h:Tw P W t cs):cs.length=P.cellsOf t/\∀ (i:Nat) (f:Field),fs[i]?=some f->Tw P W f.type ((cs.drop f.offset).take (P.cellsOf f.type)):=by
 obtain⟨H,enc,base,fuel,d,ps,h,hw⟩:=h;obtain⟨xs,n,_,hx,hl,hlen,hf⟩:=DataW.trod_struct ht h;cases hx;refine⟨hl,λi f hfi=> ?_⟩;have hi:=hf i f hfi
 have hlt:i<xs.length:=by
  rw [hlen]; exact(Array.getElem?_eq_some_iff.1 hfi).1
 rw [List.getElem?_eq_getElem hlt] at hi;refine⟨H,enc,base,n,xs[i].1,xs[i].2,hi,λm hm=>hw m ?_⟩;simp only [DataW.weights,ht];exact DataW.weights_mem_each (j:=i) (t:=f.type) (d:=xs[i].1) (by simp [hfi]) (by simp [hlt]) m hm
theorem ye{H:Type}{d:DataW H} : ∀ {l:List (DataW H)},d∈l->∀ n∈d.weights P e,n∈DataW.weightsAll P e l
 | x::l,hd,n,hn=>by
  simp only [DataW.weightsAll,List.mem_append];rcases List.mem_cons.1 hd with rfl | hd
  ·exact .inl hn
  ·exact .inr (ye hd n hn)
theorem zjl(ht:P.underlying t=some (.slice e))(h:Tw P W t cs):cs=[.slice none 0 0]\/∃ (a:Addr) (len cap:Nat),cs=[.slice (some a) len cap]/\len<=cap/\cap*P.bytesOf e<=reachBytes /\
  ∀ i,i<len->∃ cs',cs'.length=P.cellsOf e/\(∀ o,o<P.cellsOf e->W.cell? ((a.add (i*P.cellsOf e)).add o)=cs'[o]?)/\Tw P W e cs':=by
 obtain⟨H,enc,base,fuel,d,ps,h,hw⟩:=h;rcases DataW.trod_slice ht h with ⟨rfl,_⟩ | ⟨a,len,cap,elems,rest,n,_,rfl,hx,hb,hl,hm,hlen,hel,hsp,_⟩
 ·exact .inl rfl
 ·right;cases hx;obtain⟨hrl,_⟩:=hsp rfl;simp only [DataW.weights,ht] at hw;refine⟨a,len,cap,rfl,hl,?_,λi hi=> ?_⟩
  ·have:=hw _ (List.mem_cons_self);simp only [List.length_map,hlen,hrl] at this
   rwa [show len+(cap - len)=cap by omega] at this
  ·have h1:=hel i hi;have hlt:i<elems.length:=by rw [hlen]; exact hi
   rw [List.getElem?_eq_getElem hlt,Option.bind_eq_some_iff] at h1;obtain⟨cs',h2,h3⟩:=h1;obtain⟨_,h4,h5⟩:=World.cells?_some h2;refine⟨cs',h4,h5,H,enc,base,n,elems[i].1,elems[i].2,h3,λm hm2=>hw m ?_⟩;simp only [List.mem_cons,List.mem_append];exact .inr (.inl (ye (d:=elems[i].1) (List.mem_map.2 ⟨elems[i],List.getElem_mem hlt,rfl⟩) m hm2))
theorem yo{α:Type}(z:α)(cell:α->Nat->AV)(good:α->Prop){sz:Nat}(ht:P.underlying t=some (.slice e))(hsz:P.cellsOf e=sz)(hpos:0<sz)
  (hel:∀ cs',Tw P W e cs'->∃ x:α,good x/\∀ o,o<sz->∃ c,cs'[o]?=some c/\c.oneCell'=true/\Rep E0 W (cell x o) [] c) (h:Tw P W t cs) :
  ∃ (l:List α) (v:Value),cs=[v]/\(∀ x∈l,good x)/\l.length*P.bytesOf e<=reachBytes/\v.oneCell'=true/\Rep E0 W (.sl l.length sz λj=>cell (l.getD j z)) [] v:=by
 rcases zjl ht h with rfl | ⟨a,len,cap,rfl,hl,hw,hx⟩
 ·refine⟨[],_,rfl,by simp,by simp,rfl,?_⟩;simp only [Rep];exact⟨none,0,rfl,Nat.le_refl _,.inl rfl⟩
 ·rw [hsz] at hx
  have hx2:∀ i,∃ x:α,i<len->good x/\∀ o,o<sz->∃ c,W.cell? ((a.add (i*sz)).add o)=some c/\c.oneCell'=true/\Rep E0 W (cell x o) [] c:=λi=>by
   by_cases hi:i<len
   ·obtain⟨cs',h1,h2,h3⟩:=hx i hi;obtain⟨x,hg,hc⟩:=hel cs' h3
    exact⟨x,λ_=>⟨hg,λo ho=>by
     obtain⟨c,g1,g2,g3⟩:=hc o ho;exact⟨c,by rw [h2 o ho,g1],g2,g3⟩⟩⟩
   ·exact⟨z,λh=>absurd h hi⟩
  obtain⟨f,hf⟩:=Classical.axiomOfChoice hx2;have hgd:∀ j,j<len->((List.range len).map f).getD j z=f j:=λj hj=>by simp [List.getD,hj]
  refine⟨(List.range len).map f,_,rfl,λx hxm=> ?_,?_,rfl,?_⟩
  ·obtain⟨i,hi,rfl⟩:=List.mem_map.1 hxm;exact(hf i (List.mem_range.1 hi)).1
  ·simp only [List.length_map,List.length_range];exact Nat.le_trans (Nat.mul_le_mul_right _ hl) hw
  ·simp only [Rep,List.length_map,List.length_range];refine⟨some a,cap,rfl,hl,?_⟩;rcases Nat.eq_zero_or_pos len with h0 | h0
   ·exact .inl h0
   ·right
    have hspot:a.spot=none:=by
     obtain⟨c,g1,_⟩:=(hf 0 h0).2 0 hpos;have:=World.cell?_spot g1;simpa [Addr.add] using this
    refine⟨a,rfl,hspot,λj o hj ho=>⟨YV _,?_⟩⟩;obtain⟨c,g1,g2,g3⟩:=(hf j hj).2 o ho;refine⟨c,?_,g2,by rw [hgd j hj]; exact g3⟩;rw [<- g1];obtain⟨b,off,spot⟩:=a;simp only at hspot;subst hspot;congr 1;simp only [Addr.add];split<;>split<;>simp_all<;>omega
theorem zfd{g:Nat}{fn:Func}{c:Code}(hf:P.funcs[g]?=some fn)(hb:fn.body=some c) (hn:(fn.name == "runtime.NumGoroutine")=false) {ctr:Ctr} (hok:zd P g ctr) {args:List AV} {vals:List Value}
  (hspec:(ctr.spec args []).holds λr=>r=(.bool true,[])) (hr:RepL E0 W args [] vals) (hst:ki E0 W):Calls P g vals.toArray W λe W'=>e = .returned (.bool true)/\Below W.heap.size W W':=by
 have hn':¬ fn.name = "runtime.NumGoroutine" :=by simpa using hn
 have hg:Good (λ_=>False) W []:=⟨λb h=>h.elim,λi e ad he=>by simp at he,hst⟩;have hh:HRep (Own (λ_=>False) []) W [] []:=⟨rfl,λi j e f a b he=>by simp at he,λi e a he=>by simp at he,λi e b he=>by simp at he⟩;rcases hok args [] _ hspec (λ_=>rfl) (λ_=>False) W [] vals hg hh hr with ⟨_,h⟩ | ⟨v,w',h,_⟩
 ·refine h.mono ?_;rintro e W' ⟨v,rfl,r,hs,Z',hq,h1,_,_,_,_,hx⟩;cases hq;simp only [Rep] at h1;subst h1;exact⟨rfl,hx.os,hx.tape,hx.output,hx.size,λk hk=>hx.keep k hk λ⟨e,he,_⟩=>by simp at he⟩
 ·simp [callFunc,hf,hn',hb] at h
end
end Go.Sx
end
section
namespace Go.Sx
variable [Stat]
section
variable {P:Program} {W:World} {t e:TypeId} {cs:List Value}
theorem zhd{H:Type}{enc:TypeId×Value->H}{base:Nat}{sp:Nat->Bool}{held:Bool}{fuel:Nat}{kd:IntKind}{ps:List Int}{q:List MemPlace}(ht:P.underlying t=some (.slice e))(he:P.underlying e=some (.int kd))(hc:P.cellsOf e=1)(hne:ps≠[])
  (h:DataW.trod enc P W base sp held fuel t cs=some (.slice (ps.map λz=>.lit (.int kd z)) [],q)):∃ c,cs=[c]/\c.oneCell'=true/\Rep E0 W (.sl ps.length 1 λj _=>.int kd (ps.getD j 0)) [] c:=by
 obtain⟨a,cap,rfl,hl,hel⟩:=open_row ht hc h;refine⟨_,rfl,rfl,?_⟩;simp only [List.length_map] at hl
 have hv:∀ j,j<ps.length->W.cell? (a.add j)=some (.int kd (ps.getD j 0)):=λj hj=>by
  obtain⟨v,n,q',h1,h2⟩:=hel j (.lit (.int kd (ps.getD j 0))) (by simp [List.getD,hj]);obtain⟨m,h3,h4,_⟩:=DataW.trod_int he h2;simp only [List.cons.injEq,and_true] at h3;simp only [Prod.mk.injEq,DataW.lit.injEq,Lit.int.injEq,true_and] at h4;rw [h1,h3,h4.1]
 simp only [Rep,List.length_map];refine⟨some a,cap,rfl,hl,.inr ⟨a,rfl,?_,λj o hj ho=>⟨YV _,.int kd (ps.getD j 0),?_,rfl,rfl⟩⟩⟩
 ·have:=World.cell?_spot (hv 0 (List.length_pos_iff.2 hne));simpa [Addr.add] using this
 ·have:o=0:=by omega
  subst this
  have hs:a.spot=none:=by
   have:=World.cell?_spot (hv 0 (List.length_pos_iff.2 hne));simpa [Addr.add] using this
  rw [<- hv j hj];obtain⟨b,off,spot⟩:=a;simp only at hs;subst hs;congr 1;simp only [Addr.add];split<;>simp_all
end
section
open Go.WideElems Go.ChangeMaps
variable {H:Type} {enc:TypeId×Value->H} {P:Program} {W:World} {base:Nat} {sp:Nat->Bool} {held:Bool}
theorem Jk{x:Lit×DataW H} : ∀ {l:List (Lit×DataW H)},x∈l.foldr DataW.insert []↔x∈l
 | []=>Iff.rfl
 | y::l=>by rw [List.foldr_cons,mem_insert_iff,Jk,List.mem_cons]
theorem KO{g:Nat}{t k e:TypeId}{kd:IntKind}{ag:Bool}{sz:Nat}{ks:List Int}{has:Int->Bool}{get:Int->Nat->AV}{fuel:Nat}{c:Value}{es0:List (Lit×DataW H)}{q:List MemPlace}
  (hg:(Stat.z g).isSome=true) (ht:P.underlying t=some (.map k e)) (hk:P.underlying k=some (.int kd)) (hc:W.cell? ⟨g,0,none⟩=some c) (hne:es0≠[])
  (h:DataW.trod enc P W base sp held fuel t [c]=some (.map es0,q))
  (hin:∀ (n:Int) (d:DataW H),(.int kd n,d)∈es0->has n=true/\∀ (v:Value) (m:Nat) (q:List MemPlace),v.formed P e=true->DataW.trod enc P W base sp held m e v.cells.toList=some (d,q) ->
   match ag with
   | true=>∃ vs:List Value,v = .agg vs.toArray/\vs.length=sz/\∀ o,o<sz->∃ c,vs[o]?=some c/\Rep E0 W (get n o) [] c
   | false=>Rep E0 W (get n 0) [] v)
  (hout:∀ n,has n=true->∃ d,(.int kd n,d)∈es0):Rep E0 W (.mp kd ag sz ks has get) [] c/\∀ b,c = .map (some b)->b<W.heap.size:=by
 rcases open_map ht h with ⟨_,hx⟩ | ⟨b,es,clock,n,_,hcs,hb,_,F,hx⟩
 ·simp at hx
 ·simp only [List.cons.injEq,and_true] at hcs;subst hcs;simp only [Prod.mk.injEq,DataW.map.injEq] at hx
  have hkey:∀ x∈es.toList,∃ (m:Int) (z:DataW H×List MemPlace),x.key = .int kd m/\elemAt enc P W base sp held n e x.val=some z/\(.int kd m,z.1)∈es0:=by
   intro x hxm;obtain⟨y,hy⟩:=F.reads x hxm;have h1:=rd_key hy;obtain⟨z,h2,h3⟩:=rd_val hy;have h4:y∈es0:=by rw [hx.1,Jk]; exact List.mem_map.2 ⟨x,hxm,rg_of hy⟩
   have h5:mapKey P k x.key=some y.1:=by
    simp only [keyOf,hk] at h1;exact h1
   unfold mapKey at h5;rw [hk] at h5;cases hxk:x.key with
   | int k' m=>
    rw [hxk] at h5;simp only at h5;split at h5
    ·rename_i hc2;have h6:=Option.some.inj h5;obtain⟨rfl,_⟩:=hc2;refine⟨m,z,rfl,h2,?_⟩;rw [h6,<- h3]; exact h4
    ·cases h5
   | _=>rw [hxk] at h5; simp at h5
  have hlt:b<W.heap.size:=(Array.getElem?_eq_some_iff.1 hb).1;refine⟨?_,λb' hb'=>by cases hb'; exact hlt⟩;simp only [Rep];refine⟨b,es,clock,rfl,YV _,⟨g,YV _,hg,hc⟩,hb,λm=> ?_⟩
  have hspec:=MapKept.findNow_spec (d:=.int kd) (k:=.int kd m) (by simp [MapKept.IsKey]) es.toList 0 (λx hxm=>by
   obtain⟨m',z,h1,_⟩:=hkey x hxm;rw [h1]; simp [MapKept.IsKey])
  rcases hspec with ⟨h1,h2⟩ | ⟨j,x,h1,h2,h3⟩
  ·refine⟨λ_=>h1,λhm=> ?_⟩;obtain⟨d,hd⟩:=hout m hm;rw [hx.1,Jk] at hd;obtain⟨x,hxm,hrx⟩:=List.mem_map.1 hd;obtain⟨y,hy⟩:=F.reads x hxm;rw [rg_of hy] at hrx;have h5:=rd_key hy;rw [hrx] at h5;obtain⟨m',z,g1,_⟩:=hkey x hxm
   have:keyOf P k x.key=some (.int kd m'):=by
    rw [g1] at h5 ⊢;simp only [keyOf,hk,mapKey] at h5 ⊢;split at h5
    ·rename_i hwf; rw [if_pos hwf]
    ·cases h5
   rw [this] at h5;cases h5;exact absurd g1 (h2 x hxm)
  ·have hxm:x∈es.toList:=List.mem_of_getElem? h2;obtain⟨m',z,g1,g2,g3⟩:=hkey x hxm;rw [h3] at g1;cases g1;obtain⟨hh,hrep⟩:=hin m z.1 g3;refine⟨λhf=>(by rw [hf] at hh; cases hh),λ_=>⟨_,x.val,h1,?_⟩⟩;unfold elemAt at g2;split at g2
   ·rename_i hfm;exact hrep x.val n z.2 hfm g2
   ·cases g2
end
end Go.Sx
end
section
set_option maxRecDepth 100000
namespace Go.Proofs.YtpnllbdffdpoaaaGreatDoor
open Go Go.Sx Go.Nov Go.Proofs.Tryz Go.ChangeShapes Go.WideShapes Go.ChangeAt Go.RowKit
theorem wT:Tryz.prog.cellsOf 9=1:=by kernel_rfl
theorem y9:Tryz.prog.cellsOf 22=1:=by kernel_rfl
theorem xa:Tryz.prog.cellsOf 3=1:=by kernel_rfl
theorem Uy:Tryz.prog.cellsOf 4=1:=by kernel_rfl
theorem Yu:Tryz.prog.cellsOf 70=3:=by kernel_rfl
theorem YB:Tryz.prog.cellsOf 72=4:=by kernel_rfl
theorem zla:Tryz.prog.cellsOf 25=1:=by kernel_rfl
theorem zg1:Tryz.prog.cellsOf 26=1:=by kernel_rfl
theorem zf2:Tryz.prog.cellsOf 28=2:=by kernel_rfl
def zh4(x:Fx):Prop:=x.name.length<=reachBytes/\x.value.length<=reachBytes
def zld(x:Ch):Prop:=x.zM.length<=reachBytes/\x.name.length<=reachBytes
theorem zjr{W:World}{cs:List Value}(h:Tw Tryz.prog W 70 cs):∃ x:Fx,zh4 x/\cs=[.string ⟨x.name.toArray⟩,.i x.date,.string ⟨x.value.toArray⟩]:=by
 obtain⟨hl,hf⟩:=kR Tryz.underlying70 h;rw [Yu] at hl
 match cs,hl with
 | [a,b,c],_=>
  have h0:Tw Tryz.prog W 9 (([a,b,c].drop 0).take (Tryz.prog.cellsOf 9)):=hf 0 _ rfl;rw [wT] at h0;replace h0:Tw Tryz.prog W 9 [a]:=h0;have h1:Tw Tryz.prog W 3 (([a,b,c].drop 1).take (Tryz.prog.cellsOf 3)):=hf 1 _ rfl;rw [xa] at h1;replace h1:Tw Tryz.prog W 3 [b]:=h1;have h2:Tw Tryz.prog W 22 (([a,b,c].drop 2).take (Tryz.prog.cellsOf 22)):=hf 2 _ rfl;rw [y9] at h2;replace h2:Tw Tryz.prog W 22 [c]:=h2;obtain⟨s,e0,w0⟩:=vD Tryz.underlying9 h0;obtain⟨n,e1,w1⟩:=ZY Tryz.underlying3 h1;obtain⟨u,e2,w2⟩:=vD Tryz.underlying22 h2;cases e0; cases e1; cases e2;exact⟨⟨s,n,u⟩,⟨w0,w2⟩,rfl⟩
theorem zi9{W:World}{cs:List Value}(h:Tw Tryz.prog W 72 cs):∃ x:Ch,zld x/\cs=[.string ⟨x.zM.toArray⟩,.string ⟨x.name.toArray⟩,.i x.date,.bool x.first]:=by
 obtain⟨hl,hf⟩:=kR Tryz.underlying72 h;rw [YB] at hl
 match cs,hl with
 | [a,b,c,d],_=>
  have h0:Tw Tryz.prog W 9 (([a,b,c,d].drop 0).take (Tryz.prog.cellsOf 9)):=hf 0 _ rfl;rw [wT] at h0;replace h0:Tw Tryz.prog W 9 [a]:=h0;have h1:Tw Tryz.prog W 9 (([a,b,c,d].drop 1).take (Tryz.prog.cellsOf 9)):=hf 1 _ rfl;rw [wT] at h1;replace h1:Tw Tryz.prog W 9 [b]:=h1;have h2:Tw Tryz.prog W 3 (([a,b,c,d].drop 2).take (Tryz.prog.cellsOf 3)):=hf 2 _ rfl;rw [xa] at h2;replace h2:Tw Tryz.prog W 3 [c]:=h2;have h3:Tw Tryz.prog W 4 (([a,b,c,d].drop 3).take (Tryz.prog.cellsOf 4)):=hf 3 _ rfl;rw [Uy] at h3;replace h3:Tw Tryz.prog W 4 [d]:=h3;obtain⟨s,e0,w0⟩:=vD Tryz.underlying9 h0;obtain⟨u,e1,w1⟩:=vD Tryz.underlying9 h1;obtain⟨n,e2,w2⟩:=ZY Tryz.underlying3 h2;obtain⟨b,e3⟩:=zco Tryz.underlying4 h3;cases e0; cases e1; cases e2; cases e3;exact⟨⟨s,u,n,b⟩,⟨w0,w1⟩,rfl⟩
theorem zdk{W:World}{cs:List Value}(h:Tw Tryz.prog W 28 cs):∃ (f:List Fx) (c:List Ch) (u v:Value),cs=[u,v]/\(∀ x∈f,zh4 x)/\(∀ x∈c,zld x)/\f.length*40<=reachBytes/\c.length*48<=reachBytes/\Rep E0 W (fxS f) [] u/\Rep E0 W (chS c) [] v:=by
 obtain⟨hl,hf⟩:=kR Tryz.underlying28 h;rw [zf2] at hl
 match cs,hl with
 | [a,b],_=>
  have h0:Tw Tryz.prog W 25 (([a,b].drop 0).take (Tryz.prog.cellsOf 25)):=hf 0 _ rfl;rw [zla] at h0;replace h0:Tw Tryz.prog W 25 [a]:=h0;have h1:Tw Tryz.prog W 26 (([a,b].drop 1).take (Tryz.prog.cellsOf 26)):=hf 1 _ rfl;rw [zg1] at h1;replace h1:Tw Tryz.prog W 26 [b]:=h1
  obtain⟨f,u,e0,gf,wf,_,rf⟩:=yo Fx.nil Fx.cell zh4 Tryz.underlying25 Yu (by decide) (λcs' h'=>by
   obtain⟨x,hx,rfl⟩:=zjr h';refine⟨x,hx,λo ho=> ?_⟩
   match o,ho with
   | 0,_=>exact⟨_,rfl,rfl,by simp [Fx.cell,Rep]⟩
   | 1,_=>exact⟨_,rfl,rfl,by simp [Fx.cell,Rep]⟩
   | 2,_=>exact⟨_,rfl,rfl,by simp [Fx.cell,Rep]⟩) h0
  obtain⟨c,v,e1,gc,wc,_,rc⟩:=yo Ch.nil Ch.cell zld Tryz.underlying26 YB (by decide) (λcs' h'=>by
   obtain⟨x,hx,rfl⟩:=zi9 h';refine⟨x,hx,λo ho=> ?_⟩
   match o,ho with
   | 0,_=>exact⟨_,rfl,rfl,by simp [Ch.cell,Rep]⟩
   | 1,_=>exact⟨_,rfl,rfl,by simp [Ch.cell,Rep]⟩
   | 2,_=>exact⟨_,rfl,rfl,by simp [Ch.cell,Rep]⟩
   | 3,_=>exact⟨_,rfl,rfl,by simp [Ch.cell,Rep]⟩) h1
  cases e0; cases e1;have b1:Tryz.prog.bytesOf 70=40:=by kernel_rfl
  have b2:Tryz.prog.bytesOf 72=48:=by kernel_rfl
  rw [b1] at wf;rw [b2] at wc;exact⟨f,c,_,_,rfl,gf,gc,wf,wc,rf,rc⟩
theorem zod{W:World}{cs:List Value}(h:Tw Tryz.prog W 28 cs):∃ p:List Fx×List Ch,zrw p/\Rep E0 W (envA p.1 p.2) [] (.agg cs.toArray):=by
 obtain⟨f,c,u,v,rfl,gf,gc,wf,wc,rf,rc⟩:=zdk h;have hr:=reachBytes_lt;refine⟨(f,c),⟨by show f.length<_; omega,by show c.length<_; omega,λj hj=> ?_,λj hj=> ?_⟩,?_⟩
 ·have:=gf (f.getD j Fx.nil) (by simp only at hj; simp [List.getD,hj]);exact⟨by have:=this.1; show(f.getD j Fx.nil).name.length<_; omega,by have:=this.2; show(f.getD j Fx.nil).value.length<_; omega⟩
 ·have:=gc (c.getD j Ch.nil) (by simp only at hj; simp [List.getD,hj]);exact⟨by have:=this.1; show(c.getD j Ch.nil).zM.length<_; omega,by have:=this.2; show(c.getD j Ch.nil).name.length<_; omega⟩
 ·simp only [RepL,Rep,envA];exact⟨[u,v],rfl,u,_,rfl,rf,v,_,rfl,rc,rfl⟩
theorem zc5{W:World}{t:TypeId}{cs:List Value}(ht:Tryz.prog.underlying t=some .string)(h:Tw Tryz.prog W t cs):∃ s:L8,cs=[.string ⟨s.toArray⟩]/\s.length<2^49/\Rep E0 W (.str s) [] (.string ⟨s.toArray⟩):=by
 obtain⟨s,rfl,hs⟩:=vD ht h;have hr:=reachBytes_lt;exact⟨s,rfl,by omega,by simp [Rep]⟩
theorem zmc{W:World}{cs:List Value}(h:Tw Tryz.prog W 3 cs):∃ n:Int,cs=[.i n]/\inR .i64 n/\Rep E0 W (.i n) [] (.i n):=by
 obtain⟨n,rfl,hn⟩:=ZY Tryz.underlying3 h;refine⟨n,rfl,?_,by simp [Rep]⟩;simp only [Lit.wf,Bool.and_eq_true,decide_eq_true_eq] at hn;exact hn
theorem XJ{W:World}{cs:List Value}(h:Tw Tryz.prog W 4 cs):∃ b:Bool,cs=[.bool b]/\True/\Rep E0 W (.bool b) [] (.bool b):=by
 obtain⟨b,rfl⟩:=zco Tryz.underlying4 h;exact⟨b,rfl,trivial,by simp [Rep]⟩
theorem zab:Tryz.prog.cellsOf 24=6:=by kernel_rfl
theorem zfp{W:World}{cs:List Value}(h:Tw Tryz.prog W 24 cs):∃ x:Deal,True/\Rep E0 W x.av [] (.agg cs.toArray):=by
 obtain⟨hl,hf⟩:=kR Tryz.underlying24 h;rw [zab] at hl
 match cs,hl with
 | [a,b,c,d,e,f],_=>
  have h0:Tw Tryz.prog W 9 (([a,b,c,d,e,f].drop 0).take (Tryz.prog.cellsOf 9)):=hf 0 _ rfl;rw [wT] at h0;replace h0:Tw Tryz.prog W 9 [a]:=h0;have h1:Tw Tryz.prog W 9 (([a,b,c,d,e,f].drop 1).take (Tryz.prog.cellsOf 9)):=hf 1 _ rfl;rw [wT] at h1;replace h1:Tw Tryz.prog W 9 [b]:=h1;have h2:Tw Tryz.prog W 9 (([a,b,c,d,e,f].drop 2).take (Tryz.prog.cellsOf 9)):=hf 2 _ rfl;rw [wT] at h2;replace h2:Tw Tryz.prog W 9 [c]:=h2;have h3:Tw Tryz.prog W 9 (([a,b,c,d,e,f].drop 3).take (Tryz.prog.cellsOf 9)):=hf 3 _ rfl;rw [wT] at h3;replace h3:Tw Tryz.prog W 9 [d]:=h3;have h4:Tw Tryz.prog W 22 (([a,b,c,d,e,f].drop 4).take (Tryz.prog.cellsOf 22)):=hf 4 _ rfl;rw [y9] at h4;replace h4:Tw Tryz.prog W 22 [e]:=h4;have h5:Tw Tryz.prog W 22 (([a,b,c,d,e,f].drop 5).take (Tryz.prog.cellsOf 22)):=hf 5 _ rfl;rw [y9] at h5;replace h5:Tw Tryz.prog W 22 [f]:=h5;obtain⟨x0,y0,w0⟩:=vD Tryz.underlying9 h0;obtain⟨x1,y1,w1⟩:=vD Tryz.underlying9 h1;obtain⟨x2,y2,w2⟩:=vD Tryz.underlying9 h2;obtain⟨x3,y3,w3⟩:=vD Tryz.underlying9 h3;obtain⟨x4,y4,w4⟩:=vD Tryz.underlying22 h4;obtain⟨x5,y5,w5⟩:=vD Tryz.underlying22 h5;cases y0; cases y1; cases y2; cases y3; cases y4; cases y5;refine⟨⟨x0,x1,x2,x3,x4,x5⟩,trivial,?_⟩;simp only [RepL,Rep,Deal.av];exact⟨_,rfl,_,_,rfl,rfl,_,_,rfl,rfl,_,_,rfl,rfl,_,_,rfl,rfl,_,_,rfl,rfl,_,_,rfl,rfl,rfl⟩
theorem zg2{W:World}{cs:List Value}(h:Tw Tryz.prog W 36 cs):∃ (v:Value) (l:List Int),cs=[v]/\l.length<2^45/\Rep E0 W (Con.dayS l) [] v:=by
 obtain⟨l,v,e1,gl,wl,_,rl⟩:=yo 0 (λ(x:Int) _=>AV.i x) (λ_=>True) Tryz.underlying36 xa (by decide) (λcs' h'=>by
   obtain⟨x,rfl,hx⟩:=ZY Tryz.underlying3 h';refine⟨x,trivial,λo ho=> ?_⟩
   match o,ho with
   | 0,_=>exact⟨_,rfl,rfl,by simp [Rep]⟩) h
 have b1:Tryz.prog.bytesOf 3=8:=by kernel_rfl
 rw [b1] at wl;have hr:=reachBytes_lt;exact⟨v,l,e1,by omega,rl⟩
theorem VF:Tryz.prog.cellsOf 58=3:=by kernel_rfl
theorem zdr{W:World}{cs:List Value}(h:Tw Tryz.prog W 58 cs):∃ x:Per,True/\cs=[.i x.fix,.i x.pay,.string ⟨x.part.toArray⟩]:=by
 obtain⟨hl,hf⟩:=kR Tryz.underlying58 h;rw [VF] at hl
 match cs,hl with
 | [a,b,c],_=>
  have h0:Tw Tryz.prog W 3 (([a,b,c].drop 0).take (Tryz.prog.cellsOf 3)):=hf 0 _ rfl;rw [xa] at h0;replace h0:Tw Tryz.prog W 3 [a]:=h0;have h1:Tw Tryz.prog W 3 (([a,b,c].drop 1).take (Tryz.prog.cellsOf 3)):=hf 1 _ rfl;rw [xa] at h1;replace h1:Tw Tryz.prog W 3 [b]:=h1;have h2:Tw Tryz.prog W 22 (([a,b,c].drop 2).take (Tryz.prog.cellsOf 22)):=hf 2 _ rfl;rw [y9] at h2;replace h2:Tw Tryz.prog W 22 [c]:=h2;obtain⟨m,e0,_⟩:=ZY Tryz.underlying3 h0;obtain⟨n,e1,_⟩:=ZY Tryz.underlying3 h1;obtain⟨u,e2,_⟩:=vD Tryz.underlying22 h2;cases e0; cases e1; cases e2;exact⟨⟨m,n,u⟩,trivial,rfl⟩
theorem zjt{W:World}{cs:List Value}(h:Tw Tryz.prog W 53 cs):∃ (v:Value) (l:List Per),cs=[v]/\l.length<2^45/\Rep E0 W (perS l) [] v:=by
 obtain⟨l,v,e1,gl,wl,_,rl⟩:=yo Per.nil Per.cell (λ_=>True) Tryz.underlying53 VF (by decide) (λcs' h'=>by
   obtain⟨x,hx,rfl⟩:=zdr h';refine⟨x,hx,λo ho=> ?_⟩
   match o,ho with
   | 0,_=>exact⟨_,rfl,rfl,by simp [Per.cell,Rep]⟩
   | 1,_=>exact⟨_,rfl,rfl,by simp [Per.cell,Rep]⟩
   | 2,_=>exact⟨_,rfl,rfl,by simp [Per.cell,Rep]⟩) h
 have b1:Tryz.prog.bytesOf 58=32:=by kernel_rfl
 rw [b1] at wl;have hr:=reachBytes_lt;exact⟨v,l,e1,by omega,rl⟩
theorem YT:Tryz.prog.cellsOf 220=1:=by kernel_rfl
theorem zlf:Tryz.prog.cellsOf 239=1:=by kernel_rfl
theorem zju:Tryz.prog.cellsOf 241=2:=by kernel_rfl
def shpE(H:Type):List (Lit×DataW H):=shpL.map λp=>(.int .u8 p.1,.agg [.slice (p.2.1.map λz=>.lit (.int .u8 z)) [],.lit (.int .u8 p.2.2)])
theorem zlo:∀ p∈shpL,uP p.1=some p.2/\p.2.1≠[]:=by decide
theorem zm7{k:Int}(h:jx k=true):∃ q,(k,q)∈shpL:=by
 unfold jx uP at h;rw [Option.isSome_map] at h;obtain⟨p,hp⟩:=Option.isSome_iff_exists.1 h;have h1:=List.find?_some hp;have h2:=List.mem_of_find?_eq_some hp;have:p.1=k:=by simpa using h1
 exact⟨p.2,by rw [<- this]; exact h2⟩
theorem U2{W:World}{cs:List Value}{fuel:Nat}{q:List MemPlace}{c:Value}(hc:W.cell? ⟨2,0,none⟩=some c)
  (h:DataW.trod (λ_=>()) Tryz.prog W 0 (λ_=>true) false fuel 243 [c]=some (.map (shpE Unit),q)) :
  Rep E0 W (.mp .u8 true 2 [] (λk=>jx k) λk o=>match o with
   | 0=>.sl (jD k) 1 λj _=>.int .u8 (qM k j)
   | _=>.int .u8 (jk k)) [] c/\∀ b,c = .map (some b)->b<W.heap.size:=by
 refine KO (g:=2) rfl Tryz.underlying243 Tryz.underlying5 hc (by decide) h ?_ ?_
 ·intro n d hd;obtain⟨p,hp,he⟩:=List.mem_map.1 hd;obtain⟨h1,h2⟩:=zlo p hp;simp only [Prod.mk.injEq,Lit.int.injEq,true_and] at he;obtain⟨rfl,rfl⟩:=he;refine⟨by simp [jx,h1],λv m q' hf ht=> ?_⟩;obtain⟨xs,n',_,hx,hl,hlen,hfs⟩:=DataW.trod_struct Tryz.underlying241 ht;rw [zju] at hl;cases v with
  | agg cs=>
   simp only [Value.cells] at hl hfs;obtain⟨cs⟩:=cs;simp only at hl hfs
   match cs,hl with
   | [a,b],_=>
    have f0:DataW.trod _ Tryz.prog W 0 _ false n' 239 (([a,b].drop 0).take (Tryz.prog.cellsOf 239))=xs[0]?:=hfs 0 _ rfl;have f1:DataW.trod _ Tryz.prog W 0 _ false n' 220 (([a,b].drop 1).take (Tryz.prog.cellsOf 220))=xs[1]?:=hfs 1 _ rfl;rw [zlf] at f0;rw [YT] at f1
    match xs,hlen with
    | [x0,x1],_=>
     simp only [List.map_cons,List.map_nil,Prod.mk.injEq,DataW.agg.injEq,List.cons.injEq,and_true] at hx;obtain⟨⟨hx0,hx1⟩,_⟩:=hx;have f0:DataW.trod _ Tryz.prog W 0 _ false n' 239 [a]=some x0:=f0;have f1:DataW.trod _ Tryz.prog W 0 _ false n' 220 [b]=some x1:=f1;obtain⟨x0a,x0b⟩:=x0;obtain⟨x1a,x1b⟩:=x1;simp only at hx0 hx1;subst hx0; subst hx1;obtain⟨c0,e0,_,hr⟩:=zhd Tryz.underlying239 Tryz.underlying220 YT h2 f0;cases e0;obtain⟨z,e1,e2,_⟩:=DataW.trod_int Tryz.underlying220 f1;cases e1;simp only [Prod.mk.injEq,DataW.lit.injEq,Lit.int.injEq,true_and] at e2;refine⟨[a,.int .u8 z],rfl,rfl,λo ho=> ?_⟩;have g1:jt p.1=p.2.1:=by simp [jt,h1]
     have g2:jk p.1=p.2.2:=by simp [jk,h1]
     match o,ho with
     | 0,_=>
      refine⟨a,rfl,?_⟩;show Rep E0 W (.sl (jD p.1) 1 λj _=>.int .u8 (qM p.1 j)) [] a;unfold jD qM;rw [g1];exact hr
     | 1,_=>
      refine⟨_,rfl,?_⟩;show Rep E0 W (.int .u8 (jk p.1)) [] _;simp only [Rep];rw [g2,e2.1]
  | _=>simp [Value.formed,Tryz.underlying241] at hf
 ·intro n hn;obtain⟨q',hq⟩:=zm7 hn;exact⟨_,List.mem_map.2 ⟨_,hq,rfl⟩⟩
theorem zn2:Tryz.prog.globalNamed "novation/observable.shapes" = some 2:=by kernel_rfl
theorem zoa:(Tryz.prog.globals[2]?).map (·.type)=some 243:=by kernel_rfl
theorem zm0:(Rows.laid_novation_observable_shapes:DataW Unit) = .map (shpE Unit):=rfl
theorem zr7:Tryz.prog.globalNamed "novation/contract.parts" = some 0:=by kernel_rfl
theorem zq3:(Tryz.prog.globals[0]?).map (·.type)=some 199:=by kernel_rfl
def prtE:List (Lit×DataW Unit):=[(.int .u8 1,.lit (.int .i64 0)),(.int .u8 2,.lit (.int .i64 15)),(.int .u8 3,.lit (.int .i64 256)),(.int .u8 4,.lit (.int .i64 136)),(.int .u8 5,.lit (.int .i64 272)),(.int .u8 6,.lit (.int .i64 160)),(.int .u8 7,.lit (.int .i64 261)),(.int .u8 8,.lit (.int .i64 197)),(.int .u8 9,.lit (.int .i64 208)),(.int .u8 10,.lit (.int .i64 208))]
theorem zj4:(Rows.laid_novation_contract_parts:DataW Unit) = .map prtE:=rfl
abbrev Ko:List (String×DataW Unit):=[("novation/observable.shapes",Rows.laid_novation_observable_shapes),("novation/observable.operations",Rows.laid_novation_observable_operations),("novation/contract.parts",Rows.laid_novation_contract_parts)]
theorem ze4{W:World}{cs:List Value}{fuel:Nat}{q:List MemPlace}{c:Value}(hc:W.cell? ⟨0,0,none⟩=some c)
  (h:DataW.trod (λ_=>()) Tryz.prog W 0 (λ_=>true) false fuel 199 [c]=some (.map prtE,q)) :
  Rep E0 W (.mp .u8 false 1 [] (λk=>decide (1<=k/\k<=10)) λk _=>.i (kI k)) [] c/\∀ b,c = .map (some b)->b<W.heap.size:=by
 refine KO (g:=0) rfl Tryz.underlying199 Tryz.underlying5 hc (by decide) h ?_ ?_
 ·intro n d hd
  have one:∀ {v:Value} {m:Nat} {q:List MemPlace} {z:Int},v.formed Tryz.prog 3=true->DataW.trod (λ_=>()) Tryz.prog W 0 (λ_=>true) false m 3 v.cells.toList=some (.lit (.int .i64 z),q)->Rep E0 W (.i z) [] v:=by
   intro v m q z hf ht
   have hcell:v.cells.toList=[v]:=by
    cases v with
    | agg _=>simp [Value.formed,Tryz.underlying3] at hf
    | _=>rfl
   rw [hcell] at ht;obtain⟨z',e1,e2,_⟩:=DataW.trod_int Tryz.underlying3 ht;cases e1;simp only [Prod.mk.injEq,DataW.lit.injEq,Lit.int.injEq,true_and] at e2;simp only [Rep];rw [e2.1]
  simp only [prtE,List.mem_cons,Prod.mk.injEq,Lit.int.injEq,true_and,List.not_mem_nil,or_false] at hd;rcases hd with ⟨rfl,rfl⟩ | ⟨rfl,rfl⟩ | ⟨rfl,rfl⟩ | ⟨rfl,rfl⟩ | ⟨rfl,rfl⟩ | ⟨rfl,rfl⟩ | ⟨rfl,rfl⟩ | ⟨rfl,rfl⟩ | ⟨rfl,rfl⟩ | ⟨rfl,rfl⟩<;>exact⟨rfl,λv m q hf ht=>one hf ht⟩
 ·intro n hn;have hn:=of_decide_eq_true hn;have:n=1\/n=2\/n=3\/n=4\/n=5\/n=6\/n=7\/n=8\/n=9\/n=10:=by omega
  rcases this with rfl | rfl | rfl | rfl | rfl | rfl | rfl | rfl | rfl | rfl<;>exact⟨_,by unfold prtE; simp; rfl⟩
theorem zi4{W:World} (h:laidMet Tryz.prog [("novation/observable.shapes",Rows.laid_novation_observable_shapes),("novation/contract.parts",Rows.laid_novation_contract_parts)] W):(∃ c,W.cell? ⟨2,0,none⟩=some c /\
  Rep E0 W (.mp .u8 true 2 [] (λk=>jx k) λk o=>match o with
   | 0=>.sl (jD k) 1 λj _=>.int .u8 (qM k j)
   | _=>.int .u8 (jk k)) [] c/\∀ b,c = .map (some b)->b<W.heap.size)/\∃ c,W.cell? ⟨0,0,none⟩=some c /\
  Rep E0 W (.mp .u8 false 1 [] (λk=>decide (1<=k/\k<=10)) λk _=>.i (kI k)) [] c/\∀ b,c = .map (some b)->b<W.heap.size:=by
 obtain⟨ps,⟨g0,t0,cs0,f0,p0,q0,hg0,ht0,hv0,hd0,hr0,_⟩,_,_⟩:=h;obtain⟨g1,t1,cs1,f1,p1,q1,hg1,ht1,hv1,hd1,_,_⟩:=hr0;obtain rfl:=Option.some.inj (zn2.symm.trans hg0);obtain rfl:=Option.some.inj (zoa.symm.trans ht0);obtain rfl:=Option.some.inj (zr7.symm.trans hg1);obtain rfl:=Option.some.inj (zq3.symm.trans ht1);rw [zm0] at hd0;rw [zj4] at hd1
 have hone:∃ c,cs0.toList=[c]:=by
  rcases Go.WideElems.open_map Tryz.underlying243 hd0 with ⟨hcs,_⟩ | ⟨b,es,clock,n,_,hcs,_⟩
  ·exact⟨_,hcs⟩
  ·exact⟨_,hcs⟩
 have hone1:∃ c,cs1.toList=[c]:=by
  rcases Go.WideElems.open_map Tryz.underlying199 hd1 with ⟨hcs,_⟩ | ⟨b,es,clock,n,_,hcs,_⟩
  ·exact⟨_,hcs⟩
  ·exact⟨_,hcs⟩
 obtain⟨c,hcs⟩:=hone;obtain⟨c',hcs'⟩:=hone1;rw [hcs] at hd0;rw [hcs'] at hd1
 have k1:W.cell? ⟨2,0,none⟩=some c:=by
  have:=World.var?_cell hg0 hv0 0;rw [Array.eq_one_of_toList hcs] at this;simpa using this
 have k2:W.cell? ⟨0,0,none⟩=some c':=by
  have:=World.var?_cell hg1 hv1 0;rw [Array.eq_one_of_toList hcs'] at this;simpa using this
 obtain⟨r1,b1⟩:=U2 (cs:=[c]) k1 hd0;obtain⟨r2,b2⟩:=ze4 (cs:=[c']) k2 hd1;exact⟨⟨c,k1,r1,b1⟩,c',k2,r2,b2⟩
theorem gOps:Tryz.prog.globalNamed "novation/observable.operations" = some 1:=by kernel_rfl
theorem tOps:(Tryz.prog.globals[1]?).map (·.type)=some 236:=by kernel_rfl
def opNm(b:L8):L8:=[40,42,110,111,118,97,116,105,111,110,47,111,98,115,101,114,118,97,98,108,101,46,115,116,97,116,101,41,46]++b
def opEs:List (Lit×DataW L8):=[(.int .u8 4,.held (opNm [97,100,100])),(.int .u8 5,.held (opNm [115,117,98])),(.int .u8 6,.held (opNm [109,117,108])),(.int .u8 7,.held (opNm [103,114,101,97,116,101,114])),(.int .u8 8,.held (opNm [115,109,97,108,108,101,114]))]
def opsD:DataW Unit:=.map [(.int .u8 4,.iface "func" (.lit (.string (opNm [97,100,100])))),(.int .u8 5,.iface "func" (.lit (.string (opNm [115,117,98])))),(.int .u8 6,.iface "func" (.lit (.string (opNm [109,117,108])))),(.int .u8 7,.iface "func" (.lit (.string (opNm [103,114,101,97,116,101,114])))),(.int .u8 8,.iface "func" (.lit (.string (opNm [115,109,97,108,108,101,114]))))]
theorem zns:(Rows.laid_novation_observable_operations:DataW Unit) = .iface "func table" opsD:=rfl
theorem zir:opsD.funcsOut = .map opEs:=rfl
theorem zn0{W:World}{cs:List Value}{fuel:Nat}{q:List MemPlace}{c:Value}(hc:W.cell? ⟨1,0,none⟩=some c)
  (h:DataW.trod (funcToken Tryz.prog) Tryz.prog W 0 (λ_=>true) true fuel 236 [c]=some (.map opEs,q)) :
  Rep E0 W (.mp .u8 false 1 [4,5,6,7,8] (λk=>decide (4<=k/\k<=8)) λk _=>
  if k=4 then .fn 201 [] [] else if k=5 then .fn 202 [] [] else if k=6 then .fn 203 [] []
  else if k=7 then .fn 204 [] [] else .fn 205 [] []) [] c/\∀ b,c = .map (some b)->b<W.heap.size:=by
 refine KO (g:=1) rfl Tryz.underlying236 Tryz.underlying5 hc (by decide) h ?_ ?_
 ·intro n d hd
  have one:∀ {v:Value} {m:Nat} {q:List MemPlace} {bs:L8} {f0:Nat},((List.range Tryz.prog.funcs.size).filter λf=>(Tryz.prog.funcs[f]?).any (·.name.toUTF8.data.toList == 40::bs))=[f0] ->
    v.formed Tryz.prog 235=true->DataW.trod (funcToken Tryz.prog) Tryz.prog W 0 (λ_=>true) true m 235 v.cells.toList=some (.held (40::bs),q)->Rep E0 W (.fn f0 [] []) [] v:=by
   intro v m q bs f0 hone hf ht
   have hcell:v.cells.toList=[v]:=by
    cases v with
    | agg _=>simp [Value.formed,Tryz.underlying235] at hf
    | _=>rfl
   rw [hcell] at ht;have:=func_of_trod Tryz.underlying235 hone ht;subst this;simp [Rep,RepL]
  simp only [opEs,List.mem_cons,Prod.mk.injEq,Lit.int.injEq,true_and,List.not_mem_nil,or_false] at hd;rcases hd with ⟨rfl,rfl⟩ | ⟨rfl,rfl⟩ | ⟨rfl,rfl⟩ | ⟨rfl,rfl⟩ | ⟨rfl,rfl⟩
  ·exact⟨rfl,λv m q hf ht=>one (f0:=201) (by kernel_rfl) hf ht⟩
  ·exact⟨rfl,λv m q hf ht=>one (f0:=202) (by kernel_rfl) hf ht⟩
  ·exact⟨rfl,λv m q hf ht=>one (f0:=203) (by kernel_rfl) hf ht⟩
  ·exact⟨rfl,λv m q hf ht=>one (f0:=204) (by kernel_rfl) hf ht⟩
  ·exact⟨rfl,λv m q hf ht=>one (f0:=205) (by kernel_rfl) hf ht⟩
 ·intro n hn;have hn:=of_decide_eq_true hn;have:n=4\/n=5\/n=6\/n=7\/n=8:=by omega
  rcases this with rfl | rfl | rfl | rfl | rfl
  ·exact⟨_,.head _⟩
  ·exact⟨_,.tail _ (.head _)⟩
  ·exact⟨_,.tail _ (.tail _ (.head _))⟩
  ·exact⟨_,.tail _ (.tail _ (.tail _ (.head _)))⟩
  ·exact⟨_,.tail _ (.tail _ (.tail _ (.tail _ (.head _))))⟩
theorem zmn{W:World}(h:laidMetH Tryz.prog Ko W):ki E0 W:=by
 have h1:laidMet Tryz.prog [("novation/observable.shapes",Rows.laid_novation_observable_shapes),("novation/contract.parts",Rows.laid_novation_contract_parts)] W:=h.1;have h2:=laidMetH.funcs h (n:= "novation/observable.operations") (d:=opsD) (by simp [Ko,zns]);obtain⟨⟨c1,k1,r1,b1⟩,c3,k3,r3,b3⟩:=zi4 h1;obtain⟨g0,t0,cs0,f0,p0,hg0,ht0,hv0,hd0⟩:=h2;obtain rfl:=Option.some.inj (gOps.symm.trans hg0);obtain rfl:=Option.some.inj (tOps.symm.trans ht0);rw [zir] at hd0
 have hone:∃ c,cs0.toList=[c]:=by
  rcases Go.WideElems.open_map Tryz.underlying236 hd0 with ⟨hcs,_⟩ | ⟨b,es,clock,n,_,hcs,_⟩
  ·exact⟨_,hcs⟩
  ·exact⟨_,hcs⟩
 obtain⟨c2,hcs⟩:=hone;rw [hcs] at hd0
 have k2:W.cell? ⟨1,0,none⟩=some c2:=by
  have:=World.var?_cell hg0 hv0 0;rw [Array.eq_one_of_toList hcs] at this;simpa using this
 obtain⟨r2,b2⟩:=zn0 (cs:=[c2]) k2 hd0;refine⟨λg a hz=>⟨YV _,?_⟩⟩;by_cases hg:g=2
 ·subst hg;cases hz;exact⟨c1,k1,r1,b1⟩
 ·by_cases hg2:g=1
  ·subst hg2;cases hz;exact⟨c2,k2,r2,b2⟩
  ·by_cases hg3:g=0
   ·subst hg3;cases hz;exact⟨c3,k3,r3,b3⟩
   ·have:Stat.z g=none:=by
     show(if _ then _ else if _ then _ else if _ then _ else _)=_;rw [if_neg hg,if_neg hg3,if_neg hg2]
    rw [this] at hz; cases hz
theorem walk{W:World}{v0 v1 v2 v3 v4 v5 v6 v7 v8:List Value}(h0:Tw Tryz.prog W 24 v0)(h1:Tw Tryz.prog W 53 v1)(h2:Tw Tryz.prog W 9 v2)(h3:Tw Tryz.prog W 36 v3)(h4:Tw Tryz.prog W 22 v4)(h5:Tw Tryz.prog W 4 v5)(h6:Tw Tryz.prog W 4 v6)(h7:Tw Tryz.prog W 3 v7)(h8:Tw Tryz.prog W 28 v8)(hst:ki E0 W) :
  ∃ s1:Value,v1=[s1]/\∃ s2:Value,v2=[s2]/\∃ s3:Value,v3=[s3]/\∃ s4:Value,v4=[s4]/\∃ s5:Value,v5=[s5]/\∃ s6:Value,v6=[s6]/\∃ s7:Value,v7=[s7]/\Calls Tryz.prog 5 #[.agg v0.toArray,s1,s2,s3,s4,s5,s6,s7,.agg v8.toArray] W λe W'=>e = .returned (.bool true)/\Below W.heap.size W W':=by
 obtain⟨d,dg,dr⟩:=zfp h0;obtain⟨s1,l,rfl,lg,lr⟩:=zjt h1;obtain⟨name,rfl,nameg,namer⟩:=zc5 Tryz.underlying9 h2;obtain⟨s3,days,rfl,daysg,daysr⟩:=zg2 h3;obtain⟨level,rfl,levelg,levelr⟩:=zc5 Tryz.underlying22 h4;obtain⟨up,rfl,upg,upr⟩:=XJ h5;obtain⟨swap_,rfl,swap_g,swap_r⟩:=XJ h6;obtain⟨from_,rfl,from_g,from_r⟩:=zmc h7;obtain⟨v,vg,vr⟩:=zod h8;refine⟨_,rfl,?_⟩;refine⟨_,rfl,?_⟩;refine⟨_,rfl,?_⟩;refine⟨_,rfl,?_⟩;refine⟨_,rfl,?_⟩;refine⟨_,rfl,?_⟩;refine⟨_,rfl,?_⟩;refine zfd (fn:=Tryz.f5) (c:=Tryz.f5.body.getD .skip) rfl rfl rfl zl2 (args:=[d.av,perS l,.str name,Con.dayS days,.str level,.bool up,.bool swap_,.i from_,envA v.1 v.2]) (vals:=[.agg v0.toArray,s1,.string ⟨name.toArray⟩,s3,.string ⟨level.toArray⟩,.bool up,.bool swap_,.i from_,.agg v8.toArray]) ?_ ?_ hst
 ·refine⟨⟨d,l,name,days,level,up,swap_,from_,v.1,v.2⟩,⟨?_,⟨by show l.length<_; omega,vg⟩⟩,⟨true,rfl⟩,?_⟩
  ·simp [eqL,eqA,eqA0,eqL0,envA,fxS,chS,Fx.av,Ch.av,Ex.exA,Ex.exS,Deal.av,perS,Con.dayS,za]
  ·rintro _ rfl;rfl
 ·exact⟨_,_,rfl,dr,⟨_,_,rfl,lr,⟨_,_,rfl,namer,⟨_,_,rfl,daysr,⟨_,_,rfl,levelr,⟨_,_,rfl,upr,⟨_,_,rfl,swap_r,⟨_,_,rfl,from_r,⟨_,_,rfl,vr,rfl⟩⟩⟩⟩⟩⟩⟩⟩⟩
theorem own:ownKnob Tryz.prog.godebug=none:=by kernel_rfl
theorem laid:laidOutB Tryz.prog=true:=by kernel_rfl
theorem zgb(os:Os)(args:Array Value):laidMetH Tryz.prog Ko ((World.doorLaid Tryz.prog 400 os).forCall (λ_ _=>0) ⟨#[],args,[]⟩).memory:=
 laidMetH_of_parts3 (fuel:=8) (laidMet_of_run' 8 (by kernel_rfl) (by kernel_rfl)) (by kernel_rfl) (by kernel_rfl)
theorem lifted(os:Os)(started:os.Started)(H:Type)(enc:TypeId×Value->H) :
  ReturnsInHanded {} Tryz.checked os 5 .any (λw args=>(Rows.templateInOutSpec.pre enc Tryz.prog Tryz.f5 [] false w args/\laidMetH Tryz.prog Ko w)/\sizedMet enc Tryz.prog Tryz.f5 (OpenSpec.ofChange Rows.templateInOutSpec) false w args)
   (Rows.templateInOutSpec.post enc Tryz.prog Tryz.f5 false true false false):=by
 refine returnsInHanded_of_change_and (C:=Tryz.checked) (X:=λw _=>laidMetH Tryz.prog Ko w) (λ_ _ _ hh h=>h.of_heap hh) own started (by kernel_rfl) Tryz.func5
  (ChangeSpec.witness_shaped (enc:=enc) (C:=Tryz.checked) (os:=os) (X:=λw _=>laidMetH Tryz.prog Ko w) false (World.doorLaid Tryz.prog 400 os) #[.agg #[.string ⟨#[]⟩,.string ⟨#[]⟩,.string ⟨#[]⟩,.string ⟨#[]⟩,.string ⟨#[]⟩,.string ⟨#[]⟩],.slice none 0 0,.string ⟨#[]⟩,.slice none 0 0,.string ⟨#[]⟩,.bool false,.bool false,.i 0,.agg #[.slice none 0 0,.slice none 0 0]] 8 rfl (World.shaped_of_RefB (by kernel_rfl) (by kernel_rfl)) (by kernel_rfl) (by kernel_rfl) (by kernel_rfl) (zgb os _)) ?_
 intro W base args ds gs before hval0 hW hcnd hwt hL _;have hval:∀ (j:Nat) t v,Tryz.f5.params[j]?=some t->args[j]?=some v->Value.okWide Tryz.prog W .any base t v:=hval0;have hW':=hW;obtain⟨p,q,hA0,hV,rfl,hfz,hnd⟩:=hW;have hA:DataW.TrodAll enc Tryz.prog W 0 (λ_=>true) true Tryz.f5.params.toList args.toList ds p:=hA0;rw [Tryz.params5] at hA hval;obtain⟨v0,vs0,d0,ds0,p0,q0,hargs,rfl,rfl,h0,r0⟩:=trodAll_cons hA;obtain⟨v1,vs1,d1,ds1,p1,q1,rfl,rfl,rfl,h1,r1⟩:=trodAll_cons r0;obtain⟨v2,vs2,d2,ds2,p2,q2,rfl,rfl,rfl,h2,r2⟩:=trodAll_cons r1;obtain⟨v3,vs3,d3,ds3,p3,q3,rfl,rfl,rfl,h3,r3⟩:=trodAll_cons r2;obtain⟨v4,vs4,d4,ds4,p4,q4,rfl,rfl,rfl,h4,r4⟩:=trodAll_cons r3;obtain⟨v5,vs5,d5,ds5,p5,q5,rfl,rfl,rfl,h5,r5⟩:=trodAll_cons r4;obtain⟨v6,vs6,d6,ds6,p6,q6,rfl,rfl,rfl,h6,r6⟩:=trodAll_cons r5;obtain⟨v7,vs7,d7,ds7,p7,q7,rfl,rfl,rfl,h7,r7⟩:=trodAll_cons r6;obtain⟨v8,vs8,d8,ds8,p8,q8,rfl,rfl,rfl,h8,r8⟩:=trodAll_cons r7;obtain⟨rfl,rfl,rfl⟩:=trodAll_nil r8;obtain rfl:args = #[v0,v1,v2,v3,v4,v5,v6,v7,v8]:=by cases args; simp_all
 obtain⟨rfl,rfl⟩:=trodVars_none hV;clear hA0 hval0;simp only [List.append_nil] at hW' hwt
 have hw:∀ (j:Nat) (t:TypeId) (d:DataW H),[24,53,9,36,22,4,4,3,28][j]?=some t->[d0,d1,d2,d3,d4,d5,d6,d7,d8][j]?=some d->∀ n∈d.weights Tryz.prog t,n<=reachBytes:=λj t d ht hd n hn=>by
  have:=List.all_eq_true.1 hwt n (DataW.weights_mem_each (j:=j) (t:=t) (d:=d) (by exact ht) (by exact hd) n hn);simpa using this
 obtain⟨c0,rfl,_⟩:=okWide_struct Tryz.underlying24 (hval 0 24 v0 rfl rfl);obtain⟨a1,l1,k1,rfl⟩:=okWide_slice Tryz.underlying53 (hval 1 53 v1 rfl rfl);obtain⟨c2,rfl⟩:=okWide_string Tryz.underlying9 (hval 2 9 v2 rfl rfl);obtain⟨a3,l3,k3,rfl⟩:=okWide_slice Tryz.underlying36 (hval 3 36 v3 rfl rfl);obtain⟨c4,rfl⟩:=okWide_string Tryz.underlying22 (hval 4 22 v4 rfl rfl);obtain⟨c5,rfl⟩:=okWide_bool Tryz.underlying4 (hval 5 4 v5 rfl rfl);obtain⟨c6,rfl⟩:=okWide_bool Tryz.underlying4 (hval 6 4 v6 rfl rfl);obtain⟨c7,rfl⟩:=okWide_int Tryz.underlying3 (hval 7 3 v7 rfl rfl);obtain⟨c8,rfl,_⟩:=okWide_struct Tryz.underlying28 (hval 8 28 v8 rfl rfl)
 have t0:Tw Tryz.prog W 24 c0.toList:=by
  obtain⟨fuel,hf⟩:=h0;exact⟨H,enc,0,fuel,d0,p0,by simpa [Value.cells] using hf,hw 0 _ d0 rfl rfl⟩
 have t1:Tw Tryz.prog W 53 [.slice a1 l1 k1]:=by
  obtain⟨fuel,hf⟩:=h1;exact⟨H,enc,0,fuel,d1,p1,by simpa [Value.cells] using hf,hw 1 _ d1 rfl rfl⟩
 have t2:Tw Tryz.prog W 9 [.string c2]:=by
  obtain⟨fuel,hf⟩:=h2;exact⟨H,enc,0,fuel,d2,p2,by simpa [Value.cells] using hf,hw 2 _ d2 rfl rfl⟩
 have t3:Tw Tryz.prog W 36 [.slice a3 l3 k3]:=by
  obtain⟨fuel,hf⟩:=h3;exact⟨H,enc,0,fuel,d3,p3,by simpa [Value.cells] using hf,hw 3 _ d3 rfl rfl⟩
 have t4:Tw Tryz.prog W 22 [.string c4]:=by
  obtain⟨fuel,hf⟩:=h4;exact⟨H,enc,0,fuel,d4,p4,by simpa [Value.cells] using hf,hw 4 _ d4 rfl rfl⟩
 have t5:Tw Tryz.prog W 4 [.bool c5]:=by
  obtain⟨fuel,hf⟩:=h5;exact⟨H,enc,0,fuel,d5,p5,by simpa [Value.cells] using hf,hw 5 _ d5 rfl rfl⟩
 have t6:Tw Tryz.prog W 4 [.bool c6]:=by
  obtain⟨fuel,hf⟩:=h6;exact⟨H,enc,0,fuel,d6,p6,by simpa [Value.cells] using hf,hw 6 _ d6 rfl rfl⟩
 have t7:Tw Tryz.prog W 3 [.i c7]:=by
  obtain⟨fuel,hf⟩:=h7;exact⟨H,enc,0,fuel,d7,p7,by simpa [Value.cells] using hf,hw 7 _ d7 rfl rfl⟩
 have t8:Tw Tryz.prog W 28 c8.toList:=by
  obtain⟨fuel,hf⟩:=h8;exact⟨H,enc,0,fuel,d8,p8,by simpa [Value.cells] using hf,hw 8 _ d8 rfl rfl⟩
 have hlt:∀ x∈p0++(p1++(p2++(p3++(p4++(p5++(p6++(p7++p8))))))),x.block<W.heap.size:=λx hx=>by simpa using hW'.lt x (by simpa using hx)
 obtain⟨s1,e1,s2,e2,s3,e3,s4,e4,s5,e5,s6,e6,s7,e7,hcall⟩:=walk t0 t1 t2 t3 t4 t5 t6 t7 t8 (zmn hL);cases e1;cases e2;cases e3;cases e4;cases e5;cases e6;cases e7;simp only [Array.toArray_toList] at hcall;refine hcall.mono λe W' ⟨he,hb⟩=> ?_
 subst he;refine⟨_,rfl,_,_,_,[],p0++(p1++(p2++(p3++(p4++(p5++(p6++(p7++p8))))))),[],hW',trodAll_mk1 (shut_bool Tryz.underlying4 true),?_,rfl,hb.frame _,λh=>by cases h⟩;have H:=trodAll_cons_mk (Below.trod laid (by kernel_rfl) (of_decide_eq_true (by kernel_rfl)) h0 hb λx hx=>hlt x (by simp [hx])) (trodAll_cons_mk (Below.trod laid (by kernel_rfl) (of_decide_eq_true (by kernel_rfl)) h1 hb λx hx=>hlt x (by simp [hx])) (trodAll_cons_mk (Below.trod laid (by kernel_rfl) (of_decide_eq_true (by kernel_rfl)) h2 hb λx hx=>hlt x (by simp [hx])) (trodAll_cons_mk (Below.trod laid (by kernel_rfl) (of_decide_eq_true (by kernel_rfl)) h3 hb λx hx=>hlt x (by simp [hx])) (trodAll_cons_mk (Below.trod laid (by kernel_rfl) (of_decide_eq_true (by kernel_rfl)) h4 hb λx hx=>hlt x (by simp [hx])) (trodAll_cons_mk (Below.trod laid (by kernel_rfl) (of_decide_eq_true (by kernel_rfl)) h5 hb λx hx=>hlt x (by simp [hx])) (trodAll_cons_mk (Below.trod laid (by kernel_rfl) (of_decide_eq_true (by kernel_rfl)) h6 hb λx hx=>hlt x (by simp [hx])) (trodAll_cons_mk (Below.trod laid (by kernel_rfl) (of_decide_eq_true (by kernel_rfl)) h7 hb λx hx=>hlt x (by simp [hx])) (trodAll_cons_mk (Below.trod laid (by kernel_rfl) (of_decide_eq_true (by kernel_rfl)) h8 hb λx hx=>hlt x (by simp [hx])) (trodAll_mk0)))))))));simp only [List.append_nil] at H;exact H
theorem over:Rows.templateInOutRow.holds Tryz.pinned (OpenSpec.ofChange Rows.templateInOutSpec):=
 OpenClaim.holds_of_wide 5 Tryz.f5 rfl rfl rfl rfl rfl rfl rfl ⟨rfl,rfl,rfl,rfl,rfl⟩ rfl rfl rfl rfl rfl (by kernel_rfl) Tryz.func5 (by kernel_rfl)
  (of_decide_eq_true (by kernel_rfl)) (by unfold Func.isWrapper; first | (rw [if_pos (by decide +kernel)]; kernel_rfl) | (rw [if_neg (by decide +kernel)]; exact⟨rfl,rfl⟩))
  (λos started H enc _=>lifted os started H enc)
theorem uh:Rows.TemplateInOutSaid:=over
theorem templateInOut_holds:Rows.TemplateInOutCardSaid:=
 Claim7.holds_tied_plain_at .later [] [.mappedDeep,.funcs,.mapped] true (true, "47370d2515ba6a51d1609e58d5aa5405615658d069b08cae6c05f31fd91428f6") true
  uh (λ_ h=>by cases h) (by kernel_rfl) (λ_ h=>by cases h) templateInOut_row_tie rfl ⟨rfl,rfl⟩ (by kernel_rfl) rfl
  (λf fn hf hfn=>by
   obtain rfl:f=5:=Option.some.inj ((show Tryz.prog.funcNamed "novation/novationlaw16.TemplateInOut" = some 5 by kernel_rfl).symm.trans hf) |>.symm;obtain rfl:fn=Tryz.f5:=(Option.some.inj (Tryz.func5.symm.trans hfn)).symm
   exact⟨by kernel_rfl,λj t ht=>by
    rw [Tryz.params5] at ht;have hm:t∈[24,53,9,36,22,4,4,3,28]:=by simpa using Array.mem_of_getElem? ht
    have hall:([24,53,9,36,22,4,4,3,28].all λu=> !Tryz.prog.wantsStandIn u)=true:=by kernel_rfl
    exact(show Tryz.prog.wantsStandIn t=false by simpa using List.all_eq_true.1 hall t hm)⟩)
  (by kernel_rfl)
end Go.Proofs.YtpnllbdffdpoaaaGreatDoor
end
