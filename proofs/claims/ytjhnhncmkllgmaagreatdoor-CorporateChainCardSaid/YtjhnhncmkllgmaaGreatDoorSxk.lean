/- The law returns true for every input, and each argument reads afterwards as it read before; no condition. -/
import Derived.Test.YtjhnhncmkllgmaaGreatDoorSxd
import Derived.Test.YtjhnhncmkllgmaaGreatDoorSxc
import Derived.Test.YtjhnhncmkllgmaaGreatDoorSxj
import Derived.DefersIn
import Derived.SizedLaws
import Derived.ChangeArms
import Derived.Deep.Slices
import Derived.Carry
import Derived.LaidMore
import Derived.WideKeyElems2
import Derived.ProofKit
import Derived.OpenShut
import Derived.ReadAgain
import Derived.Test.YtjhnhncmkllgmaaGreatDoorRows
import Derived.MakeChecks
import Derived.Test.YtjhnhncmkllgmaaGreatDoorCards
import Derived.Test.YtjhnhncmkllgmaaGreatDoorTie
import Derived.Stop.Joined
import Derived.SevenTiedAt
set_option linter.unusedVariables false
set_option linter.unusedSimpArgs false
set_option linter.unusedSectionVars false
section
set_option maxRecDepth 100000
open Go Go.Sx Go.Proofs Go.Nov
namespace Go.Proofs.Tryz
attribute [local simp] eqKV eqA eqA0 eqH eqB eqL eqL0
structure BX where
 x:Ex
 want:Int
 day:Int
 f:List Fx
 c:List Ch
def BX.ask(b:BX):Int:=askE b.x b.want b.day b.f b.c
def uB:Ctr:=ctrT false false (λb:BX=>[b.x.exA,.int .u8 b.want,.i b.day,envA b.f b.c]) (λ_=>[]) (λb=>b.x.size<2^40/\b.x.zo<2^40/\envP (b.f,b.c)) (λb r=>r=b.ask) (λb (r:Int)=>(.ptr 0 0,[(St8.mk b.f b.c b.day r).box]))
noncomputable def GBe:=tb Q3 (tb Xf (tb ZZ (tb Qj tz)))
theorem zng:zc prog 134 uB:=by
 refine zH (fn:=f134) (c:=f134.body.getD .skip) rfl rfl rfl (λh=>by cases h) λb hb O w0 I0 Q hl0 hq=> ?_
 obtain rfl:I0=[]:=aU.1 hl0;obtain⟨x,want,day,f,c⟩:=b;obtain⟨h1,h2,h3⟩:=hb;replace hq:=hq _ rfl;simp only [BX.ask] at h1 h2 h3 hq;refine zb.n GBe.h [] (let v6:=[AV.i day];let v5:=q50 [.agg [.sl f.length 3 (fxG f),.sl c.length 4 (chG c)]];let v4:=[AV.agg [.int .u8 x.kind,.str x.rat,.str x.name,.i x.date,.sl x.sub.length 5 (Ex.exG x.sub)]];let v3:List AV:=[.sl f.length 3 (fxG f),.sl c.length 4 (chG c)];let v2:List AV:=[.int .u8 x.kind,.str x.rat,.str x.name,.i x.date,.sl x.sub.length 5 (Ex.exG x.sub)];let v1:qa:=.ret [.ptr 2 0] [.box v2,.box v3,.box [.sl f.length 3 (fxG f),.sl c.length 4 (chG c),.i day,.i 2]];.ex (q24 v4) λn=>.all (λ(r:Int)=>r=Ex.errX n) λn=>.ex (λ(x9:Ex)=>decide (n=0)=true->q23 v4 x9) λn_1=>.all (λ(x:Int)=>decide (n=0)=true->x=Ex.zu n_1) λn_2=>.ite (bif decide (n=0) then !decide (n_2=want) else false) (.ite false (.ex v5 λn=>.all (λ(r:Int)=>r=errE n.1 n.2) λn=>.ex (λ(x:Int)=>decide (n=0)=true->q21 v6 x) λn_3=>.all (λ(x:Bool)=>decide (n=0)=true->x=dayB n_3) λn_4=>.ite (bif decide (n=0) then !n_4 else false) (.leaf v1) (.R [.ptr 2 0] [.box v2,.box v3,.box [.sl f.length 3 (fxG f),.sl c.length 4 (chG c),.i day,.i n]])) (.ex (λ(x:Int)=>decide ((32:Int)=0)=true->q21 v6 x) λn=>.all (λ(x:Bool)=>decide ((32:Int)=0)=true->x=dayB n) λn=>.ite (bif decide ((32:Int)=0) then !n else false) (.leaf v1) (.R [.ptr 2 0] [.box v2,.box v3,.box [.sl f.length 3 (fxG f),.sl c.length 4 (chG c),.i day,.i 32]]))) (.D (n=0) (.ex v5 λn=>.all (λ(r:Int)=>r=errE n.1 n.2) λn=>.ex (λ(x:Int)=>decide (n=0)=true->q21 v6 x) λn_3=>.all (λ(x:Bool)=>decide (n=0)=true->x=dayB n_3) λn_4=>.ite (bif decide (n=0) then !n_4 else false) (.leaf v1) (.R [.ptr 2 0] [.box v2,.box v3,.box [.sl f.length 3 (fxG f),.sl c.length 4 (chG c),.i day,.i n]])) (.ex (λ(x:Int)=>decide (n=0)=true->q21 v6 x) λn_3=>.all (λ(x:Bool)=>decide (n=0)=true->x=dayB n_3) λn_4=>.ite (bif decide (n=0) then !n_4 else false) (.leaf v1) (.R [.ptr 2 0] [.box v2,.box v3,.box [.sl f.length 3 (fxG f),.sl c.length 4 (chG c),.i day,.i n]])))) ?_;simp only [q21,q23,q24,q50,Tree.holds,ze];have eE:eqL [.agg [.sl f.length 3 (fxG f),.sl c.length 4 (chG c)]] [envA f c]:=⟨⟨⟨rfl,rfl,za _ _ _⟩,⟨rfl,rfl,za _ _ _⟩,trivial⟩,trivial⟩;have eX:eqL [x.exA] [x.exA]:=⟨⟨⟨rfl,rfl⟩,rfl,rfl,⟨rfl,rfl⟩,⟨rfl,rfl,za _ _ _⟩,trivial⟩,trivial⟩;generalize hask:askE x want day f c=ask at hq
 have ret:∀ (b0 b1:Blk),RetR uB 0 Q [.ptr 2 0] [b0,b1,.box [.sl f.length 3 (fxG f),.sl c.length 4 (chG c),.i day,.i ask]]:=by
  intro b0 b1;refine RetR.outs [2] rfl rfl hq (λh=>by cases h) ?_ ?_ rfl
  ·exact⟨rfl,rfl⟩
  ·exact qH f c day ask
 have tail:∀ (e0:Int) (b0 b1:Blk),(if e0=0 then(if dayB day=true then 0 else 2) else e0)=ask->∃ n3:Int,((decide (e0=0)=true->eqL [.i day] [.i n3]/\True)/\(∃ b:Bool,decide (e0=0)=true->b=dayB n3)/\∀ b:Bool,(decide (e0=0)=true->b=dayB n3) ->
   ((bif decide (e0=0) then !b else false)=true->RetR uB 0 Q [.ptr 2 0] [b0,b1,.box [.sl f.length 3 (fxG f),.sl c.length 4 (chG c),.i day,.i 2]]) /\
   ((bif decide (e0=0) then !b else false)=false->RetR uB 0 Q [.ptr 2 0] [b0,b1,.box [.sl f.length 3 (fxG f),.sl c.length 4 (chG c),.i day,.i e0]])):=by
  intro e0 b0 b1 h;refine⟨day,λ_=>⟨⟨⟨rfl,rfl⟩,trivial⟩,trivial⟩,⟨_,λ_=>rfl⟩,λb hb=> ?_⟩;by_cases h0:e0=0
  ·have hb:=hb (aX h0);rw [aP h0] at h;rw [aX h0,hb,h0];cases hd:dayB day with
   | true=>
    rw [hd,aP rfl] at h;rw [h];exact⟨λh=>(by cases h),λ_=>ret _ _⟩
   | false=>
    rw [hd,aO (by decide)] at h;rw [h];exact⟨λ_=>ret _ _,λh=>(by cases h)⟩
  ·rw [aO h0] at h;rw [aW h0,h];exact⟨λh=>(by cases h),λ_=>ret _ _⟩
 have chk:∀ (b0 b1:Blk),x.errX=0->x.zu=want->∃ n:List Fx×List Ch,(eqL [.agg [.sl f.length 3 (fxG f),.sl c.length 4 (chG c)]] [.agg [.sl n.1.length 3 (fxG n.1),.sl n.2.length 4 (chG n.2)]]/\envP n)/\(∃ r,r=errE n.1 n.2)/\∀ r:Int,r=errE n.1 n.2 ->
   ∃ n3:Int,((decide (r=0)=true->eqL [.i day] [.i n3]/\True)/\(∃ b:Bool,decide (r=0)=true->b=dayB n3)/\∀ b:Bool,(decide (r=0)=true->b=dayB n3) ->
   ((bif decide (r=0) then !b else false)=true->RetR uB 0 Q [.ptr 2 0] [b0,b1,.box [.sl f.length 3 (fxG f),.sl c.length 4 (chG c),.i day,.i 2]]) /\
   ((bif decide (r=0) then !b else false)=false->RetR uB 0 Q [.ptr 2 0] [b0,b1,.box [.sl f.length 3 (fxG f),.sl c.length 4 (chG c),.i day,.i r]])):=by
  intro b0 b1 g1 g2;refine⟨(f,c),⟨eE,h3⟩,⟨_,rfl⟩,?_⟩;rintro _ rfl;refine tail _ _ _ ?_;rw [<- hask,Kb g1 g2]
 refine⟨x,⟨eX,h1,h2⟩,⟨_,rfl⟩,?_⟩;rintro _ rfl;refine⟨x,λ_=>⟨eX,by omega,h2⟩,⟨_,λ_=>rfl⟩,?_⟩;intro z hz;by_cases g1:x.errX=0
 ·have hz:=hz (aX g1);subst hz;refine⟨λhc=>⟨λh=>(by cases h),λ_=> ?_⟩,λhc=>⟨λ_=> ?_,λh=>absurd g1 (aC h)⟩⟩
  ·have g2:¬ x.zu=want:=by
    rw [aX g1] at hc;simpa using hc
   refine tail 32 _ _ ?_;rw [<- hask,zvl g1 g2];rfl
  ·have g2:x.zu=want:=by
    rw [aX g1] at hc;simpa using hc
   exact chk _ _ g1 g2
 ·refine⟨λhc=> ?_,λ_=>⟨λh=>absurd (aB h) g1,λ_=> ?_⟩⟩
  ·rw [aW g1] at hc; cases hc
  ·refine tail _ _ _ ?_;rw [<- hask,zvg g1,aO g1]
structure VI where
 x:Ex
 day:Int
 f:List Fx
 c:List Ch
def VI.ok(k:VI):Prop:=k.x.size<2^40/\k.x.zo<2^40/\envP (k.f,k.c)
def zmz:Ctr:=ctrP true (λk:VI=>[k.x.exA,.i k.day,envA k.f k.c]) VI.ok (λk r=>r=jD k.x k.day k.f k.c) (λ_ (r:L8×Int)=>(.tup [.str r.1,.i r.2],[]))
def zif:Ctr:=ctrP true (λk:VI=>[k.x.exA,.i k.day,envA k.f k.c]) VI.ok (λk r=>r=xl k.x k.day k.f k.c) (λ_ (r:Bool×Int)=>(.tup [.bool r.1,.i r.2],[]))
noncomputable def GVh:=tb zng (tb zj0 (tb zjp tz))
abbrev q62(A:List AV)(H:Heap)(x:BX):Prop:=eqL A [.agg [.int .u8 x.x.kind,.str x.x.rat,.str x.x.name,.i x.x.date,.sl x.x.sub.length 5 (Ex.exG x.x.sub)],.int .u8 x.want,.i x.day,.agg [.sl x.f.length 3 (fxG x.f),.sl x.c.length 4 (chG x.c)]]/\eqH H []/\0=0/\Ex.size x.x<1099511627776/\Ex.zo x.x<1099511627776/\envP (BX.f x,BX.c x)
theorem zjf:zc prog 114 zmz:=by
 refine zf' f114 λk hk O w0 Q hq=> ?_
 obtain⟨x,day,f,c⟩:=k;obtain⟨h1,h2,h3⟩:=hk;replace hq:=hq _ rfl;simp only at h1 h2 h3 hq;unfold jD at hq;refine zb.n GVh.h [] (let v2:=[AV.int .u8 x.kind,AV.str x.rat,AV.str x.name,AV.i x.date,AV.sl x.sub.length 5 (Ex.exG x.sub)];.ex (q62 [.agg v2,.int .u8 1,.i day,.agg [.sl f.length 3 (fxG f),.sl c.length 4 (chG c)]] []) λn=>.all (λ(r:Int)=>r=BX.ask n) λn_1=>.ex (λ(x_1:VX)=>eqL [.ptr 0 0,.agg v2] [.ptr 0 0,.agg [.int .u8 x_1.x.kind,.str x_1.x.rat,.str x_1.x.name,.i x_1.x.date,.sl x_1.x.sub.length 5 (Ex.exG x_1.x.sub)]]/\eqH [.box [.sl n.f.length 3 (fxG n.f),.sl n.c.length 4 (chG n.c),.i n.day,.i n_1]] [.box [.sl x_1.s.f.length 3 (fxG x_1.s.f),.sl x_1.s.c.length 4 (chG x_1.s.c),.i x_1.s.day,.i x_1.s.e]]/\1=1/\VPre (1:Int) x_1) λn=>.all (λ(r:L8×Int)=>(St8.e n.s≠0->r.2=St8.e n.s)/\(St8.e n.s=0->r.2=Ev.e (evA n)/\(r.2=0->r.1=Ev.v (evA n)))) λn_2=>let v3:=n.s.err n_2.2;let v1:List Blk:=[.box [.int .u8 x.kind,.str x.rat,.str x.name,.i x.date,.sl x.sub.length 5 (Ex.exG x.sub)],.box [.sl f.length 3 (fxG f),.sl c.length 4 (chG c)],.box [.sl (List.length v3.f) 3 (fxG v3.f),.sl (List.length v3.c) 4 (chG v3.c),.i v3.day,.i v3.e]];.N (St8.e v3=(0:Int)) (.R [.str #[].toList,.i v3.e] v1) (.R [.str n_2.1,.i 0] v1)) ?_;simp only [q62,Tree.holds,ze];have eB:eqL [x.exA,.int .u8 1,.i day,envA f c] [x.exA,.int .u8 1,.i day,envA f c]:=⟨⟨⟨rfl,rfl⟩,rfl,rfl,⟨rfl,rfl⟩,⟨rfl,rfl,za _ _ _⟩,trivial⟩,⟨rfl,rfl⟩,⟨rfl,rfl⟩,⟨⟨rfl,rfl,za _ _ _⟩,⟨rfl,rfl,za _ _ _⟩,trivial⟩,trivial⟩;refine⟨⟨x,1,day,f,c⟩,⟨eB,trivial,trivial,h1,h2,h3⟩,⟨_,rfl⟩,?_⟩;rintro e he;have he:e=askE x 1 day f c:=he;rw [<- he] at hq
 have hv:VPre 1 ⟨⟨f,c,day,e⟩,x⟩:=by
  intro h0;have h0:e=0:=h0;obtain⟨_,g2,g3,_⟩:=WV (he.symm.trans h0);obtain⟨g4,g5,_⟩:=jG.1 g3;refine⟨g2,g5,?_⟩;show f.length<2^40;omega
 refine⟨⟨⟨f,c,day,e⟩,x⟩,⟨zrr x,qH f c day e,trivial,hv⟩,uM _ _ _,?_⟩;intro r hr;simp only [evA] at hr;refine⟨λh=> ?_,λh=> ?_⟩
 ·have h:r.2≠0:=by
   intro h0;have h':(!decide (r.2=0))=true:=h;rw [h0] at h'; cases h'
  have eq:(if e≠0 then([],e) else if(x.ev f day).e≠0 then([],(x.ev f day).e) else((x.ev f day).v,0))=(([]:L8),r.2):=by
   by_cases h0:e=0
   ·obtain⟨q1,_⟩:=hr.2 h0;rw [aO (by rw [h0]; simp),aP (by rw [<- q1]; exact h),q1]
   ·rw [aP h0,hr.1 h0]
  rw [eq] at hq;exact RetR.scal hq rfl (by simp [resV,St8.err])
 ·have h:r.2=0:=by
   have h':(!decide (r.2=0))=false:=h;simpa using h'
  have h0:e=0:=bM λh0=>h0 (by rw [<- hr.1 h0]; exact h)
  obtain⟨q1,k1⟩:=hr.2 h0
  have eq:(if e≠0 then([],e) else if(x.ev f day).e≠0 then([],(x.ev f day).e) else((x.ev f day).v,0))=(r.1,0):=by
   rw [aO (by rw [h0]; simp),aO (by rw [<- q1,h]; simp),k1 h]
  rw [eq] at hq;exact RetR.scal hq rfl (by simp [resV])
theorem zic:zc prog 111 zif:=by
 refine zf' f111 λk hk O w0 Q hq=> ?_
 obtain⟨x,day,f,c⟩:=k;obtain⟨h1,h2,h3⟩:=hk;replace hq:=hq _ rfl;simp only at h1 h2 h3 hq;unfold xl at hq;refine zb.n GVh.h [] (let v2:=[AV.int .u8 x.kind,AV.str x.rat,AV.str x.name,AV.i x.date,AV.sl x.sub.length 5 (Ex.exG x.sub)];.ex (q62 [.agg v2,.int .u8 2,.i day,.agg [.sl f.length 3 (fxG f),.sl c.length 4 (chG c)]] []) λn=>.all (λ(r:Int)=>r=BX.ask n) λn_1=>.ex (λ(x_1:VX)=>eqL [.ptr 0 0,.agg v2] [.ptr 0 0,.agg [.int .u8 x_1.x.kind,.str x_1.x.rat,.str x_1.x.name,.i x_1.x.date,.sl x_1.x.sub.length 5 (Ex.exG x_1.x.sub)]]/\eqH [.box [.sl n.f.length 3 (fxG n.f),.sl n.c.length 4 (chG n.c),.i n.day,.i n_1]] [.box [.sl x_1.s.f.length 3 (fxG x_1.s.f),.sl x_1.s.c.length 4 (chG x_1.s.c),.i x_1.s.day,.i x_1.s.e]]/\1=1/\VPre (2:Int) x_1) λn=>.all (λ(r:Bool×Int)=>(St8.e n.s≠0->r.2=St8.e n.s)/\(St8.e n.s=0->r.2=Ev.g (evA n)/\(r.2=0->r.1=Ev.b (evA n)))) λn_2=>let v3:=n.s.err n_2.2;let v1:List Blk:=[.box [.int .u8 x.kind,.str x.rat,.str x.name,.i x.date,.sl x.sub.length 5 (Ex.exG x.sub)],.box [.sl f.length 3 (fxG f),.sl c.length 4 (chG c)],.box [.sl (List.length v3.f) 3 (fxG v3.f),.sl (List.length v3.c) 4 (chG v3.c),.i v3.day,.i v3.e]];.N (St8.e v3=(0:Int)) (.R [.bool false,.i v3.e] v1) (.R [.bool n_2.1,.i 0] v1)) ?_;simp only [q62,Tree.holds,ze];have eB:eqL [x.exA,.int .u8 2,.i day,envA f c] [x.exA,.int .u8 2,.i day,envA f c]:=⟨⟨⟨rfl,rfl⟩,rfl,rfl,⟨rfl,rfl⟩,⟨rfl,rfl,za _ _ _⟩,trivial⟩,⟨rfl,rfl⟩,⟨rfl,rfl⟩,⟨⟨rfl,rfl,za _ _ _⟩,⟨rfl,rfl,za _ _ _⟩,trivial⟩,trivial⟩;refine⟨⟨x,2,day,f,c⟩,⟨eB,trivial,trivial,h1,h2,h3⟩,⟨_,rfl⟩,?_⟩;rintro e he;have he:e=askE x 2 day f c:=he;rw [<- he] at hq
 have hv:VPre 2 ⟨⟨f,c,day,e⟩,x⟩:=by
  intro h0;have h0:e=0:=h0;obtain⟨_,g2,g3,_⟩:=WV (he.symm.trans h0);obtain⟨g4,g5,_⟩:=jG.1 g3;refine⟨g2,g5,?_⟩;show f.length<2^40;omega
 refine⟨⟨⟨f,c,day,e⟩,x⟩,⟨zrr x,qH f c day e,trivial,hv⟩,Qf _ _ _,?_⟩;intro r hr;simp only [evA] at hr;refine⟨λh=> ?_,λh=> ?_⟩
 ·have h:r.2≠0:=by
   intro h0;have h':(!decide (r.2=0))=true:=h;rw [h0] at h'; cases h'
  have eq:(if e≠0 then(false,e) else if(x.ev f day).g≠0 then(false,(x.ev f day).g) else((x.ev f day).b,0))=(false,r.2):=by
   by_cases h0:e=0
   ·obtain⟨q1,_⟩:=hr.2 h0;rw [aO (by rw [h0]; simp),aP (by rw [<- q1]; exact h),q1]
   ·rw [aP h0,hr.1 h0]
  rw [eq] at hq;exact RetR.scal hq rfl (by simp [resV,St8.err])
 ·have h:r.2=0:=by
   have h':(!decide (r.2=0))=false:=h;simpa using h'
  have h0:e=0:=bM λh0=>h0 (by rw [<- hr.1 h0]; exact h)
  obtain⟨q1,k1⟩:=hr.2 h0
  have eq:(if e≠0 then(false,e) else if(x.ev f day).g≠0 then(false,(x.ev f day).g) else((x.ev f day).b,0))=(r.1,0):=by
   rw [aO (by rw [h0]; simp),aO (by rw [<- q1,h]; simp),k1 h]
  rw [eq] at hq;exact RetR.scal hq rfl (by simp [resV])
structure FI where
 c:Con
 day:Int
 fin:Int
 f:List Fx
 h:List Ch
def uw:TypeId:=151
def FI.hC(k:FI):Heap:=[.box [fxS k.f,chS k.h],.box k.c.zd]
def FI.hH(k:FI):Heap:=[.box k.c.zd,.box [fxS k.f,chS k.h]]
def FI.hV(k:FI):Heap:=[.box k.c.zd,.box [.i k.day],.box [fxS k.f,chS k.h]]
def FI.heap(k:FI):Heap:=[.box k.c.zd,.box [.i k.day],.box [.i k.fin],.box [fxS k.f,chS k.h]]
def q7{α:Type}(Xp:List PanicEntry->Prop)(m:Except Int α):Prop:=∀ e,m = .error e->Xp (Zx uw e)
def zmw(Xp:List PanicEntry->Prop):Ctr:=ctrS (λ(x:Bool×Int)=>[.bool x.1,.i x.2]) (λ_=>[]) (λx=>x.2≠0->Xp (Zx uw x.2)) (λx=>decide (x.2=0)) (λx=>(.bool x.1,[]))
def zbd(Xp:List PanicEntry->Prop):Ctr:=ctrS (λ(x:L8×Int)=>[.str x.1,.i x.2]) (λ_=>[]) (λx=>x.2≠0->Xp (Zx uw x.2)) (λx=>decide (x.2=0)) (λx=>(.str x.1,[]))
theorem zfp(Xp:List PanicEntry->Prop):zz Xp prog 110 (zmw Xp):=
 Uf (fn:=f110) (c:=f110.body.getD .skip) rfl rfl rfl (T:=uw) (λb:Bool=>.bool b) (λb=>.bool b) (λ_ _ _ _ _=>by simp [Rep]) λx e w=>Tryz.zid x e w
theorem Kg(Xp:List PanicEntry->Prop):zz Xp prog 113 (zbd Xp):=
 Uf (fn:=f113) (c:=f113.body.getD .skip) rfl rfl rfl (T:=uw) (λs:L8=>.str s) (λs=>.string ⟨s.toArray⟩) (λ_ _ _ _ _=>by simp [Rep]) λx e w=>Tryz.zi4 ⟨x.toArray⟩ e w
theorem FI.zes(k:FI):eqH (expH k.hC [0,1]) k.hC:=by
 simp [expH,expB,exp1,exp0,ren0,FI.hC,zy,Con.zd,Con.qI,fxS,chS,Ex.exS,Con.dayS,Con.conS,za]
theorem FI.zvw(k:FI):eqH (expH k.hH [0,1]) k.hH:=by
 simp [expH,expB,exp1,exp0,ren0,FI.hH,zy,Con.zd,Con.qI,fxS,chS,Ex.exS,Con.dayS,Con.conS,za]
theorem FI.zv6(k:FI):eqH (expH k.hV [0,1,2]) k.hV:=by
 simp [expH,expB,exp1,exp0,ren0,FI.hV,zy,Con.zd,Con.qI,fxS,chS,Ex.exS,Con.dayS,Con.conS,za]
def Ya:Ctr:=ctrT false false (λp:FI×Int=>[.i p.2,.ptr 0 0,.ptr 1 0]) (λp=>p.1.hC) (λp=>p.1.h.length<2^40) (λ_ (_:Unit)=>True) (λp _=>(.bool (qc p.1.h p.1.c.src p.1.c.name p.2),p.1.hC))
noncomputable def GFc:=tb zhc tz
theorem WU:zc prog 107 Ya:=by
 refine zH (fn:=f107) (c:=f107.body.getD .skip) rfl rfl rfl (λh=>by cases h) λp hp O w0 I0 Q hl0 hq=> ?_
 obtain⟨⟨c,day,fin,f,h⟩,d⟩:=p;replace hq:=hq () trivial;simp only at hp hq;refine zb.n GFc.h [] (.ex (λ(x:(List Fx×List Ch)×L8×L8×Int)=>eqL [.agg [.sl f.length 3 (fxG f),.sl h.length 4 (chG h)],.str c.src,.str c.name,.i d] [.agg [.sl x.1.1.length 3 (fxG x.1.1),.sl x.1.2.length 4 (chG x.1.2)],.str x.2.1,.str x.2.2.1,.i x.2.2.2]/\x.1.2.length<1099511627776) λn=>.all (λ(r:Bool)=>r=qc n.1.2 n.2.1 n.2.2.1 n.2.2.2) λn=>.R [.bool n] [.box [.sl f.length 3 (fxG f),.sl h.length 4 (chG h)],.box (Con.zd c)]) ?_;simp only [Tree.holds,ze];refine⟨((f,h),(c.src,c.name,d)),⟨⟨⟨⟨rfl,rfl,λ_ _ _ _=>rfl⟩,⟨rfl,rfl,λ_ _ _ _=>rfl⟩,trivial⟩,rfl,rfl,⟨rfl,rfl⟩,trivial⟩,hp⟩,⟨_,rfl⟩,?_⟩;rintro _ rfl;exact RetR.km [0,1] rfl rfl (by show ∀ j,j<2->_; decide) rfl hq (LeA.refl _) (FI.zes ⟨c,day,fin,f,h⟩) rfl
def zcg(Xp:List PanicEntry->Prop):Ctr:=ctrS (λp:FI×Int=>[.i p.2,.ptr 0 0,.ptr 1 0]) (λp=>p.1.hH) (λp=>VI.ok ⟨p.1.c.x,p.2,p.1.f,p.1.h⟩/\q7 Xp (holM p.1.c.x p.2 p.1.f p.1.h)) (λp=>okM (holM p.1.c.x p.2 p.1.f p.1.h)) (λp=>(.bool (getM false (holM p.1.c.x p.2 p.1.f p.1.h)),p.1.hH))
noncomputable def GFh(Xp:List PanicEntry->Prop):Nat->Option Ctr:=λf=>if f=110 then some (zmw Xp) else if f=111 then some zif else none
theorem zss(Xp:List PanicEntry->Prop):∀ f c,GFh Xp f=some c->zz Xp prog f c:=vO (zfp Xp) (vO zic.x yG)
abbrev q63(A:List AV)(x:VI):Prop:=eqL A [x.x.exA,.i x.day,.agg [.sl x.f.length 3 (fxG x.f),.sl x.c.length 4 (chG x.c)]]/\VI.ok x
theorem K3(Xp:List PanicEntry->Prop):zz Xp prog 109 (zcg Xp):=by
 refine yv (fn:=f109) (c:=f109.body.getD .skip) rfl rfl rfl λp hp O w0 I0 Q hl0 hq=> ?_
 obtain⟨⟨c,day,fin,f,h⟩,d⟩:=p;obtain⟨h1,h2⟩:=hp;simp only at h1 h2 hq;refine zb.runX hmix (zss Xp) [] 400 (T:=.ex (q63 [(Ex.exA c.x),.i d,.agg [.sl f.length 3 (fxG f),.sl h.length 4 (chG h)]]) λn=>.all (λ(r:Bool×Int)=>r=xl n.x n.day n.f n.c) λn=>.ex (λ(x:Bool×Int)=>eqL [.bool n.1,.i n.2] [.bool x.1,.i x.2]/\eqH [] []/\0=0/\(x.2≠0->Xp (Zx uw x.2))) λn=>.D (n.2=0) (.R [.bool n.1] [.box (Con.zd c),.box [.sl f.length 3 (fxG f),.sl h.length 4 (chG h)]]) (.leaf qa.gone)) (by kernel_rfl) ?_;simp only [q63,Tree.holds,ze];refine⟨⟨c.x,d,f,h⟩,⟨⟨qF c.x,⟨rfl,rfl⟩,⟨⟨rfl,rfl,λ_ _ _ _=>rfl⟩,⟨rfl,rfl,λ_ _ _ _=>rfl⟩,trivial⟩,trivial⟩,h1⟩,⟨_,rfl⟩,?_⟩;rintro _ rfl;refine⟨xl c.x d f h,⟨⟨rfl,⟨rfl,rfl⟩,trivial⟩,trivial,trivial,λhe=>h2 _ (by unfold holM; rw [aO he])⟩,λhe=> ?_,λ_=>trivial⟩;have he:=aB he;have hm:holM c.x d f h = .ok (xl c.x d f h).1:=by unfold holM; rw [aP he]
 rw [hm] at hq;exact RetR.km [0,1] rfl rfl (by show ∀ j,j<2->_; decide) rfl (hq rfl) (LeA.refl _) (FI.zvw ⟨c,day,fin,f,h⟩) rfl
def zo9(Xp:List PanicEntry->Prop):Ctr:=ctrS (λk:FI=>[.ptr 0 0,.ptr 1 0,.ptr 2 0]) (λk=>k.hV) (λk=>VI.ok ⟨k.c.x,k.day,k.f,k.h⟩/\q7 Xp (valM k.c.x k.day k.f k.h)) (λk=>okM (valM k.c.x k.day k.f k.h)) (λk=>(.str (getM [] (valM k.c.x k.day k.f k.h)),k.hV))
noncomputable def GFv(Xp:List PanicEntry->Prop):Nat->Option Ctr:=λf=>if f=113 then some (zbd Xp) else if f=114 then some zmz else none
theorem zu8(Xp:List PanicEntry->Prop):∀ f c,GFv Xp f=some c->zz Xp prog f c:=vO (Kg Xp) (vO zjf.x yG)
theorem zfe(Xp:List PanicEntry->Prop):zz Xp prog 112 (zo9 Xp):=by
 refine yv (fn:=f112) (c:=f112.body.getD .skip) rfl rfl rfl λp hp O w0 I0 Q hl0 hq=> ?_
 obtain⟨c,day,fin,f,h⟩:=p;obtain⟨h1,h2⟩:=hp;simp only at h1 h2 hq;refine zb.runX hmix (zu8 Xp) [] 400 (T:=.ex (q63 [(Ex.exA c.x),.i day,.agg [.sl f.length 3 (fxG f),.sl h.length 4 (chG h)]]) λn=>.all (λ(r:L8×Int)=>r=jD n.x n.day n.f n.c) λn=>.ex (λ(x:L8×Int)=>eqL [.str n.1,.i n.2] [.str x.1,.i x.2]/\eqH [] []/\0=0/\(x.2≠0->Xp (Zx uw x.2))) λn=>.D (n.2=0) (.R [.str n.1] [.box (Con.zd c),.box [.i day],.box [.sl f.length 3 (fxG f),.sl h.length 4 (chG h)]]) (.leaf qa.gone)) (by kernel_rfl) ?_;simp only [q63,Tree.holds,ze];refine⟨⟨c.x,day,f,h⟩,⟨⟨qF c.x,⟨rfl,rfl⟩,⟨⟨rfl,rfl,λ_ _ _ _=>rfl⟩,⟨rfl,rfl,λ_ _ _ _=>rfl⟩,trivial⟩,trivial⟩,h1⟩,⟨_,rfl⟩,?_⟩;rintro _ rfl;refine⟨jD c.x day f h,⟨⟨rfl,⟨rfl,rfl⟩,trivial⟩,trivial,trivial,λhe=>h2 _ (by unfold valM; rw [aO he])⟩,λhe=> ?_,λ_=>trivial⟩;have he:=aB he;have hm:valM c.x day f h = .ok (jD c.x day f h).1:=by unfold valM; rw [aP he]
 rw [hm] at hq;exact RetR.km [0,1,2] rfl rfl (by show ∀ j,j<3->_; decide) rfl (hq rfl) (LeA.refl _) (FI.zv6 ⟨c,day,fin,f,h⟩) rfl
noncomputable def K117:=Go.Sx.aA f117
def holT(k:FI):Int->Except Int Bool:=λt=>holM k.c.x t k.f k.h
def KQ(Xp:List PanicEntry->Prop):Ctr:=ctrS (λk:FI=>[k.c.conA,.i k.day,.i k.fin,.fn 109 [] [.ptr 0 0,.ptr 1 0]]) (λk=>k.hH) (λk=>(∀ d,VI.ok ⟨k.c.x,d,k.f,k.h⟩)/\k.c.days.length<2^40/\q7 Xp (firstM (holT k) k.day k.fin k.c.days)) (λk=>okM (firstM (holT k) k.day k.fin k.c.days)) (λk=>(.i (getM 0 (firstM (holT k) k.day k.fin k.c.days)),k.hH))
def SFh(k:FI)(i:Nat):KV:=[(1,.i k.day),(2,.i k.fin),(3,.fn 109 [] [.ptr 0 0,.ptr 1 0]),(12,Con.dayS k.c.days),(13,.i (k.c.days.length:Int)),(14,.i (i:Int)),Z 25,Z 26,Z 27]
def HFh(k:FI):Heap:=[.box k.c.zd,.box [fxS k.f,chS k.h],.box k.c.zd]
noncomputable def GFf(Xp:List PanicEntry->Prop):Nat->Option Ctr:=λf=>if f=109 then some (zcg Xp) else none
theorem zna(Xp:List PanicEntry->Prop):∀ f c,GFf Xp f=some c->zz Xp prog f c:=vO (K3 Xp) yG
theorem Wy{T:Int->Except Int Bool}{day fin d:Int}{l:List Int}(h1:fin<=d):firstM T day fin (d::l) = .ok fin:=by rw [firstM,aP h1]
theorem zaw{T:Int->Except Int Bool}{day fin d e:Int}{l:List Int}(h1:¬ fin<=d)(h2:day<=d)(h:T d = .error e):firstM T day fin (d::l) = .error e:=by rw [firstM,aO h1,aP h2,h]
theorem WE{T:Int->Except Int Bool}{day fin d:Int}{l:List Int}(h1:¬ fin<=d)(h2:day<=d)(h:T d = .ok true):firstM T day fin (d::l) = .ok d:=by rw [firstM,aO h1,aP h2,h]
theorem QT{T:Int->Except Int Bool}{day fin d:Int}{l:List Int}(h1:¬ fin<=d)(h2:day<=d)(h:T d = .ok false):firstM T day fin (d::l)=firstM T day fin l:=by rw [firstM,aO h1,aP h2,h]
theorem Wu{T:Int->Except Int Bool}{day fin d:Int}{l:List Int}(h1:¬ fin<=d)(h2:¬ day<=d):firstM T day fin (d::l)=firstM T day fin l:=by rw [firstM,aO h1,aO h2]
theorem qP{α:Type}{d:α}{m:Except Int α}(h:okM m=true):m = .ok (getM d m):=by cases m with
 | ok a=>rfl
 | error e=>cases h
theorem FI.zvi(k:FI):eqH (expH [.box k.c.zd,.box [fxS k.f,chS k.h],.box k.c.zd] [0,1]) k.hH:=by
 simp [expH,expB,exp1,exp0,ren0,FI.hH,zy,Con.zd,Con.qI,fxS,chS,Ex.exS,Con.dayS,Con.conS,za]
theorem FI.h2(k:FI):eqH [.box k.c.zd,.box [fxS k.f,chS k.h]] [.box k.c.zd,.box [fxS k.f,chS k.h]]:=by
 simp [Con.zd,Con.qI,fxS,chS,Ex.exS,Con.dayS,Con.conS,za]
theorem FI.h5(k:FI):eqH [.box k.c.zd,.box [fxS k.f,chS k.h],.box k.c.zd] (HFh k):=by
 simp [HFh,Con.zd,Con.qI,fxS,chS,Ex.exS,Con.dayS,Con.conS,za]
theorem zhe(Xp:List PanicEntry->Prop):zz Xp prog 117 (KQ Xp):=by
 refine yv (fn:=f117) (c:=f117.body.getD .skip) rfl rfl rfl λp hp O w0 I0 Q hl0 hq=> ?_
 obtain⟨c,day,fin,f,h⟩:=p;obtain⟨h1,h2,h3⟩:=hp;simp only at h1 h2 h3 hq;refine zb.runX hmix (zna Xp) [1,2,3,12,13,14,25,26,27] 400 (T:=.leaf (.loop (lps K117 0).1 (lps K117 0).2 [(1,.i day),(2,.i fin),(3,.fn 109 [] [.ptr 0 0,.ptr 1 0]),(12,.sl c.days.length 1 (Con.dayG c.days)),(13,.i c.days.length),(14,.i 0),Z 25,Z 26,Z 27] [.box (Con.zd c),.box [.sl f.length 3 (fxG f),.sl h.length 4 (chG h)],.box (Con.zd c)])) (by kernel_rfl) ?_;simp only [Tree.holds,ze,inR,lo,hi,aD];refine zb.loop (ι:={i:Nat // i<=c.days.length/\firstM (holT ⟨c,day,fin,f,h⟩) day fin (c.days.drop i)=firstM (holT ⟨c,day,fin,f,h⟩) day fin c.days}) (λi=>SFh ⟨c,day,fin,f,h⟩ i.1) (λ_=>HFh ⟨c,day,fin,f,h⟩) (λi=>c.days.length - i.1) ⟨0,aI _,rfl⟩ 0 ?_ ?_ (by kernel_rfl)
 ·exact⟨by simp [SFh,Con.dayS,za],FI.h5 ⟨c,day,fin,f,h⟩,by kernel_rfl,by show 2<=3; decide⟩
 ·rintro⟨i,hil,hi⟩;refine zb.runX hmix (zna Xp) [1,2,3,12,13,14,25,26,27] 400 (T:=let v6:=inR .i64 (i+1);let v5:=List.getD c.days (i:Int).toNat (0:Int);let v4:=day<=List.getD c.days (i:Int).toNat (0:Int);let v1:List Blk:=[.box (Con.zd c),.box [.sl f.length 3 (fxG f),.sl h.length 4 (chG h)],.box (Con.zd c)];.D ((i:Int)<(c.days.length:Int)) (.side ((0:Int)<=i/\(i:Int)<(c.days.length:Int)) (.D (fin<=List.getD c.days (i:Int).toNat (0:Int)) (.R [.i fin] v1) (.ite (decide v4 == true) (.ex (λ(x:FI×Int)=>eqL [.i v5,.ptr 0 0,.ptr 1 0] [.i x.2,.ptr 0 0,.ptr 1 0]/\eqH [.box (Con.zd c),.box [.sl f.length 3 (fxG f),.sl h.length 4 (chG h)]] [.box (Con.zd x.1.c),.box [.sl x.1.f.length 3 (fxG x.1.f),.sl x.1.h.length 4 (chG x.1.h)]]/\2=2/\VI.ok { x:=Con.x x.1.c,day:=x.2,f:=FI.f x.1,c:=FI.h x.1 } /\ q7 Xp (holM (Con.x x.1.c) x.2 x.1.f x.1.h)) λn=>let v3:=holM (Con.x n.1.c) n.2 n.1.f n.1.h;let v2:List Blk:=[.box (Con.zd n.1.c),.box [.sl n.1.f.length 3 (fxG n.1.f),.sl n.1.h.length 4 (chG n.1.h)],.box (Con.zd c)];.ite (okM v3) (.ite (bif decide v4 then getM false v3 else false) (.R [.i v5] v2) (.side v6 (.leaf (.back 0 [(1,.i day),(2,.i fin),(3,.fn 109 [] [.ptr 0 0,.ptr 1 0]),(12,.sl c.days.length 1 (Con.dayG c.days)),(13,.i c.days.length),(14,.i (i+1)),Z 25,Z 26,(27,.bool (getM false v3))] v2)))) (.leaf qa.gone)) (.ite (bif decide v4 then false else false) (.R [.i v5] v1) (.side v6 (.leaf (.back 0 [(1,.i day),(2,.i fin),(3,.fn 109 [] [.ptr 0 0,.ptr 1 0]),(12,.sl c.days.length 1 (Con.dayG c.days)),(13,.i c.days.length),(14,.i (i+1)),Z 25,Z 26,Z 27] v1))))))) (.R [.i fin] v1)) (by kernel_rfl) ?_;simp only [Tree.holds,ze,inR,lo,hi,aD]
  have hRet:∀ e:Int,firstM (holT ⟨c,day,fin,f,h⟩) day fin c.days = .ok e->RetR (KQ Xp) (FI.hH ⟨c,day,fin,f,h⟩).length Q [.i e] [.box c.zd,.box [fxS f,chS h],.box c.zd]:=by
   intro e he;rw [he] at hq;exact RetR.km [0,1] rfl rfl (by show ∀ j,j<2->_; decide) rfl (hq rfl) (LeA.refl _) (FI.zvi ⟨c,day,fin,f,h⟩) rfl
  refine⟨λhlt=> ?_,λhge=> ?_⟩
  ·have hlt:i<c.days.length:=by have:=aB hlt; omega
   have hd:c.days.drop i=c.days.getD i 0::c.days.drop (i+1):=by
    rw [List.drop_eq_getElem_cons hlt]; simp [List.getD,hlt]
   rw [hd] at hi
   have hstep:firstM (holT ⟨c,day,fin,f,h⟩) day fin (c.days.drop (i+1))=firstM (holT ⟨c,day,fin,f,h⟩) day fin c.days->∀ x:Bool,∃ x':{i:Nat // i<=c.days.length/\firstM (holT ⟨c,day,fin,f,h⟩) day fin (c.days.drop i)=firstM (holT ⟨c,day,fin,f,h⟩) day fin c.days},c.days.length - x'.val<c.days.length - i/\LeK (FI.hH ⟨c,day,fin,f,h⟩).length f117.ntmps [(1,.i day),(2,.i fin),(3,.fn 109 [] [.ptr 0 0,.ptr 1 0]),(12,Con.dayS c.days),(13,.i (c.days.length:Int)),(14,.i ((i:Int)+1)),Z 25,Z 26,(27,.bool x)] [.box c.zd,.box [fxS f,chS h],.box c.zd] (SFh ⟨c,day,fin,f,h⟩ x'.val) (HFh ⟨c,day,fin,f,h⟩):=by
    intro he x;refine⟨⟨i+1,hlt,he⟩,by show _ - (i+1)<_; omega,?_,FI.h5 ⟨c,day,fin,f,h⟩,by kernel_rfl,by show 2<=3; decide⟩;simp [SFh,Con.dayS,za]
   have hstepU:firstM (holT ⟨c,day,fin,f,h⟩) day fin (c.days.drop (i+1))=firstM (holT ⟨c,day,fin,f,h⟩) day fin c.days->∃ x':{i:Nat // i<=c.days.length/\firstM (holT ⟨c,day,fin,f,h⟩) day fin (c.days.drop i)=firstM (holT ⟨c,day,fin,f,h⟩) day fin c.days},c.days.length - x'.val<c.days.length - i/\LeK (FI.hH ⟨c,day,fin,f,h⟩).length f117.ntmps [(1,.i day),(2,.i fin),(3,.fn 109 [] [.ptr 0 0,.ptr 1 0]),(12,Con.dayS c.days),(13,.i (c.days.length:Int)),(14,.i ((i:Int)+1)),Z 25,Z 26,Z 27] [.box c.zd,.box [fxS f,chS h],.box c.zd] (SFh ⟨c,day,fin,f,h⟩ x'.val) (HFh ⟨c,day,fin,f,h⟩):=by
    intro he;refine⟨⟨i+1,hlt,he⟩,by show _ - (i+1)<_; omega,?_,FI.h5 ⟨c,day,fin,f,h⟩,by kernel_rfl,by show 2<=3; decide⟩;simp [SFh,Con.dayS,za]
   refine⟨⟨by omega,by omega⟩,λ_=>⟨λg=> ?_,λg=> ?_⟩⟩
   ·rw [Wy (aB g)] at hi;exact hRet _ hi.symm
   ·have g:=aC g;refine⟨λg2=> ?_,λg2=> ?_⟩
    ·have g2:day<=c.days.getD i 0:=by simpa using g2
     have hs:q7 Xp (holM c.x (c.days.getD i 0) f h):=by
      intro e he;refine h3 e ?_;rw [<- hi];exact zaw g g2 he
     refine⟨(⟨c,day,fin,f,h⟩,c.days.getD i 0),⟨⟨⟨rfl,rfl⟩,⟨rfl,rfl⟩,⟨rfl,rfl⟩,trivial⟩,FI.h2 ⟨c,day,fin,f,h⟩,trivial,h1 _,hs⟩,λhk=> ?_,λ_=>trivial⟩;have hk:=qP (d:=false) hk;simp only at hk ⊢;rw [aX g2,cond_true];refine⟨λg3=> ?_,λg3=>⟨⟨by omega,by show _<=(9223372036854775807:Int); omega⟩,λ_=> ?_⟩⟩
     ·rw [g3] at hk;rw [WE g g2 hk] at hi;exact hRet _ hi.symm
     ·rw [aP trivial,g3];rw [g3] at hk;rw [QT g g2 hk] at hi;exact hstep hi _
    ·have g2:¬ day<=c.days.getD i 0:=by simpa using g2
     rw [Wu g g2] at hi;rw [aW g2,cond_false];refine⟨λg3=>absurd g3 (by decide),λ_=>⟨⟨by omega,by show _<=(9223372036854775807:Int); omega⟩,λ_=> ?_⟩⟩;rw [aP trivial];exact hstepU hi
  ·have hge:i=c.days.length:=by have:=aC hge; omega
   subst hge;rw [List.drop_length] at hi;exact hRet _ hi.symm
def choT(k:FI):Int->Except Int Bool:=λt=>.ok (qc k.h k.c.src k.c.name t)
def XQ(Xp:List PanicEntry->Prop):Ctr:=ctrS (λk:FI=>[k.c.conA,.i k.day,.i k.fin,.fn 107 [] [.ptr 0 0,.ptr 1 0]]) (λk=>k.hC) (λk=>k.h.length<2^40/\k.c.days.length<2^40/\q7 Xp (firstM (choT k) k.day k.fin k.c.days)) (λk=>okM (firstM (choT k) k.day k.fin k.c.days)) (λk=>(.i (getM 0 (firstM (choT k) k.day k.fin k.c.days)),k.hC))
def SFc(k:FI)(i:Nat):KV:=[(1,.i k.day),(2,.i k.fin),(3,.fn 107 [] [.ptr 0 0,.ptr 1 0]),(12,Con.dayS k.c.days),(13,.i (k.c.days.length:Int)),(14,.i (i:Int)),Z 25,Z 26,Z 27]
def HFc(k:FI):Heap:=[.box [fxS k.f,chS k.h],.box k.c.zd,.box k.c.zd]
noncomputable def GFg(Xp:List PanicEntry->Prop):Nat->Option Ctr:=λf=>if f=107 then some Ya else none
theorem zjk(Xp:List PanicEntry->Prop):∀ f c,GFg Xp f=some c->zz Xp prog f c:=vO (WU.x) yG
theorem FI.zuy(k:FI):eqH (expH [.box [fxS k.f,chS k.h],.box k.c.zd,.box k.c.zd] [0,1]) k.hC:=by
 simp [expH,expB,exp1,exp0,ren0,FI.hC,zy,Con.zd,Con.qI,fxS,chS,Ex.exS,Con.dayS,Con.conS,za]
theorem FI.hC2(k:FI):eqH [.box [fxS k.f,chS k.h],.box k.c.zd] [.box [fxS k.f,chS k.h],.box k.c.zd]:=by
 simp [Con.zd,Con.qI,fxS,chS,Ex.exS,Con.dayS,Con.conS,za]
theorem FI.hC5(k:FI):eqH [.box [fxS k.f,chS k.h],.box k.c.zd,.box k.c.zd] (HFc k):=by
 simp [HFc,Con.zd,Con.qI,fxS,chS,Ex.exS,Con.dayS,Con.conS,za]
abbrev q64(A:List AV)(H:Heap)(x:FI×Int):Prop:=eqL A [.i x.2,.ptr 0 0,.ptr 1 0]/\eqH H [.box [.sl x.1.f.length 3 (fxG x.1.f),.sl x.1.h.length 4 (chG x.1.h)],.box (Con.zd x.1.c)]/\2=2/\List.length x.1.h<1099511627776
theorem zhb(Xp:List PanicEntry->Prop):zz Xp prog 117 (XQ Xp):=by
 refine yv (fn:=f117) (c:=f117.body.getD .skip) rfl rfl rfl λp hp O w0 I0 Q hl0 hq=> ?_
 obtain⟨c,day,fin,f,h⟩:=p;obtain⟨h1,h2,h3⟩:=hp;simp only at h1 h2 h3 hq;refine zb.runX hmix (zjk Xp) [1,2,3,12,13,14,25,26,27] 400 (T:=.leaf (.loop (lps K117 0).1 (lps K117 0).2 [(1,.i day),(2,.i fin),(3,.fn 107 [] [.ptr 0 0,.ptr 1 0]),(12,.sl c.days.length 1 (Con.dayG c.days)),(13,.i c.days.length),(14,.i 0),Z 25,Z 26,Z 27] [.box [.sl f.length 3 (fxG f),.sl h.length 4 (chG h)],.box (Con.zd c),.box (Con.zd c)])) (by kernel_rfl) ?_;simp only [Tree.holds,ze,inR,lo,hi,aD];refine zb.loop (ι:={i:Nat // i<=c.days.length/\firstM (choT ⟨c,day,fin,f,h⟩) day fin (c.days.drop i)=firstM (choT ⟨c,day,fin,f,h⟩) day fin c.days}) (λi=>SFc ⟨c,day,fin,f,h⟩ i.1) (λ_=>HFc ⟨c,day,fin,f,h⟩) (λi=>c.days.length - i.1) ⟨0,aI _,rfl⟩ 0 ?_ ?_ (by kernel_rfl)
 ·exact⟨by simp [SFc,Con.dayS,za],FI.hC5 ⟨c,day,fin,f,h⟩,by kernel_rfl,by show 2<=3; decide⟩
 ·rintro⟨i,hil,hi⟩;refine zb.runX hmix (zjk Xp) [1,2,3,12,13,14,25,26,27] 400 (T:=let v5:=inR .i64 (i+1);let v4:=List.getD c.days (i:Int).toNat (0:Int);let v3:=day<=List.getD c.days (i:Int).toNat (0:Int);let v1:List Blk:=[.box [.sl f.length 3 (fxG f),.sl h.length 4 (chG h)],.box (Con.zd c),.box (Con.zd c)];.D ((i:Int)<(c.days.length:Int)) (.side ((0:Int)<=i/\(i:Int)<(c.days.length:Int)) (.D (fin<=List.getD c.days (i:Int).toNat (0:Int)) (.R [.i fin] v1) (.ite (decide v3 == true) (.ex (q64 [.i v4,.ptr 0 0,.ptr 1 0] [.box [.sl f.length 3 (fxG f),.sl h.length 4 (chG h)],.box (Con.zd c)]) λn=>let v2:List Blk:=[.box [.sl n.1.f.length 3 (fxG n.1.f),.sl n.1.h.length 4 (chG n.1.h)],.box (Con.zd n.1.c),.box (Con.zd c)];.A λn_1=>.ite (bif decide v3 then qc n.1.h (Con.src n.1.c) (Con.name n.1.c) n.2 else false) (.R [.i v4] v2) (.side v5 (.leaf (.back 0 [(1,.i day),(2,.i fin),(3,.fn 107 [] [.ptr 0 0,.ptr 1 0]),(12,.sl c.days.length 1 (Con.dayG c.days)),(13,.i c.days.length),(14,.i (i+1)),Z 25,Z 26,(27,.bool (qc n.1.h (Con.src n.1.c) (Con.name n.1.c) n.2))] v2)))) (.ite (bif decide v3 then false else false) (.R [.i v4] v1) (.side v5 (.leaf (.back 0 [(1,.i day),(2,.i fin),(3,.fn 107 [] [.ptr 0 0,.ptr 1 0]),(12,.sl c.days.length 1 (Con.dayG c.days)),(13,.i c.days.length),(14,.i (i+1)),Z 25,Z 26,Z 27] v1))))))) (.R [.i fin] v1)) (by kernel_rfl) ?_;simp only [q64,Tree.holds,ze,inR,lo,hi,aD]
  have hRet:∀ e:Int,firstM (choT ⟨c,day,fin,f,h⟩) day fin c.days = .ok e->RetR (XQ Xp) (FI.hC ⟨c,day,fin,f,h⟩).length Q [.i e] [.box [fxS f,chS h],.box c.zd,.box c.zd]:=by
   intro e he;rw [he] at hq;exact RetR.km [0,1] rfl rfl (by show ∀ j,j<2->_; decide) rfl (hq rfl) (LeA.refl _) (FI.zuy ⟨c,day,fin,f,h⟩) rfl
  refine⟨λhlt=> ?_,λhge=> ?_⟩
  ·have hlt:i<c.days.length:=by have:=aB hlt; omega
   have hd:c.days.drop i=c.days.getD i 0::c.days.drop (i+1):=by
    rw [List.drop_eq_getElem_cons hlt]; simp [List.getD,hlt]
   rw [hd] at hi
   have hstep:firstM (choT ⟨c,day,fin,f,h⟩) day fin (c.days.drop (i+1))=firstM (choT ⟨c,day,fin,f,h⟩) day fin c.days->∀ x:Bool,∃ x':{i:Nat // i<=c.days.length/\firstM (choT ⟨c,day,fin,f,h⟩) day fin (c.days.drop i)=firstM (choT ⟨c,day,fin,f,h⟩) day fin c.days},c.days.length - x'.val<c.days.length - i/\LeK (FI.hC ⟨c,day,fin,f,h⟩).length f117.ntmps [(1,.i day),(2,.i fin),(3,.fn 107 [] [.ptr 0 0,.ptr 1 0]),(12,Con.dayS c.days),(13,.i (c.days.length:Int)),(14,.i ((i:Int)+1)),Z 25,Z 26,(27,.bool x)] [.box [fxS f,chS h],.box c.zd,.box c.zd] (SFc ⟨c,day,fin,f,h⟩ x'.val) (HFc ⟨c,day,fin,f,h⟩):=by
    intro he x;refine⟨⟨i+1,hlt,he⟩,by show _ - (i+1)<_; omega,?_,FI.hC5 ⟨c,day,fin,f,h⟩,by kernel_rfl,by show 2<=3; decide⟩;simp [SFc,Con.dayS,za]
   have hstepU:firstM (choT ⟨c,day,fin,f,h⟩) day fin (c.days.drop (i+1))=firstM (choT ⟨c,day,fin,f,h⟩) day fin c.days->∃ x':{i:Nat // i<=c.days.length/\firstM (choT ⟨c,day,fin,f,h⟩) day fin (c.days.drop i)=firstM (choT ⟨c,day,fin,f,h⟩) day fin c.days},c.days.length - x'.val<c.days.length - i/\LeK (FI.hC ⟨c,day,fin,f,h⟩).length f117.ntmps [(1,.i day),(2,.i fin),(3,.fn 107 [] [.ptr 0 0,.ptr 1 0]),(12,Con.dayS c.days),(13,.i (c.days.length:Int)),(14,.i ((i:Int)+1)),Z 25,Z 26,Z 27] [.box [fxS f,chS h],.box c.zd,.box c.zd] (SFc ⟨c,day,fin,f,h⟩ x'.val) (HFc ⟨c,day,fin,f,h⟩):=by
    intro he;refine⟨⟨i+1,hlt,he⟩,by show _ - (i+1)<_; omega,?_,FI.hC5 ⟨c,day,fin,f,h⟩,by kernel_rfl,by show 2<=3; decide⟩;simp [SFc,Con.dayS,za]
   refine⟨⟨by omega,by omega⟩,λ_=>⟨λg=> ?_,λg=> ?_⟩⟩
   ·rw [Wy (aB g)] at hi;exact hRet _ hi.symm
   ·have g:=aC g;refine⟨λg2=> ?_,λg2=> ?_⟩
    ·have g2:day<=c.days.getD i 0:=by simpa using g2
     refine⟨(⟨c,day,fin,f,h⟩,c.days.getD i 0),⟨⟨⟨rfl,rfl⟩,⟨rfl,rfl⟩,⟨rfl,rfl⟩,trivial⟩,FI.hC2 ⟨c,day,fin,f,h⟩,trivial,h1⟩,⟨(),trivial⟩,λ_ _=> ?_⟩;have hk:choT ⟨c,day,fin,f,h⟩ (c.days.getD i 0) = .ok (qc h c.src c.name (c.days.getD i 0)):=rfl;simp only;rw [aX g2,cond_true];refine⟨λg3=> ?_,λg3=>⟨⟨by omega,by show _<=(9223372036854775807:Int); omega⟩,λ_=> ?_⟩⟩
     ·rw [g3] at hk;rw [WE g g2 hk] at hi;exact hRet _ hi.symm
     ·rw [aP trivial,g3];rw [g3] at hk;rw [QT g g2 hk] at hi;exact hstep hi _
    ·have g2:¬ day<=c.days.getD i 0:=by simpa using g2
     rw [Wu g g2] at hi;rw [aW g2,cond_false];refine⟨λg3=>absurd g3 (by decide),λ_=>⟨⟨by omega,by show _<=(9223372036854775807:Int); omega⟩,λ_=> ?_⟩⟩;rw [aP trivial];exact hstepU hi
  ·have hge:i=c.days.length:=by have:=aC hge; omega
   subst hge;rw [List.drop_length] at hi;exact hRet _ hi.symm
def zcj(Xp:List PanicEntry->Prop):Ctr where
 fresh:=false
 spec args hc:=match args with
  | [_,_,_,.fn g _ _]=>if g=107 then(XQ Xp).spec args hc else(KQ Xp).spec args hc
  | _=>.fail
theorem zf8(Xp:List PanicEntry->Prop):zz Xp prog 117 (zcj Xp):=by
 intro args hc Q hq hf;simp only [zcj] at hq;split at hq
 ·split at hq
  ·exact zhb Xp _ hc Q hq (λh=>by cases h)
  ·exact zhe Xp _ hc Q hq (λh=>by cases h)
 ·exact hq.elim
theorem wo(c:Con):eqA c.conD c.conA:=by
 simp only [Con.conD,Con.outD,Con.conA,eqA];exact⟨⟨rfl,rfl⟩,rfl,rfl,rfl,⟨rfl,rfl⟩,rfl,rfl,⟨rfl,rfl⟩,⟨rfl,rfl,λ_ _ _ _=>rfl⟩,⟨rfl,rfl⟩,⟨rfl,rfl,λ_ _ _ _=>rfl⟩,⟨rfl,rfl,Con.qb c⟩,trivial⟩
def FI.val(k:FI):Except Int (List Fl):=flM k.f k.h k.c k.day k.fin
def flC(G:FI->Prop)(n:Nat)(Xp:List PanicEntry->Prop):Ctr:=ctrS (λk:FI=>[k.c.conA,.i k.day,.i k.fin,envA k.f k.h]) (λ_=>[]) (λk=>G k/\k.c.nodes<n/\q7 Xp k.val) (λk=>okM k.val) (λk=>(.osl 0 5 0 (getM [] k.val).length,[.arr (getM [] k.val).length 5 (flG (getM [] k.val))]))
def FI.kid(k:FI)(i:Nat):FI:=⟨k.c.sub.getD i Con.nil,k.day,k.fin,k.f,k.h⟩
theorem FI.zvm(k:FI)(n:Nat)(g:Nat->Nat->AV):eqH (expH (k.heap++[.arr n 5 g]) [0,1,2,3,4]) (k.heap++[.arr n 5 g]):=by
 simp [expH,expB,exp1,exp0,ren0,FI.heap,zy,Con.zd,Con.qI,fxS,chS,Ex.exS,Con.dayS,Con.conS,za]
def zj5(G:FI->Prop)(n:Nat)(Xp:List PanicEntry->Prop):Ctr:=ctrS (λp:FI×Bool=>[.bool p.2,.ptr 0 0,.ptr 1 0,.ptr 2 0,.ptr 3 0]) (λp=>p.1.heap) (λp=>p.2.toNat<p.1.c.sub.length/\G (p.1.kid p.2.toNat)/\(p.1.kid p.2.toNat).c.nodes<n/\q7 Xp (p.1.kid p.2.toNat).val) (λp=>okM (p.1.kid p.2.toNat).val) (λp=>(.osl 4 5 0 (getM [] (p.1.kid p.2.toNat).val).length,p.1.heap++[.arr (getM [] (p.1.kid p.2.toNat).val).length 5 (flG (getM [] (p.1.kid p.2.toNat).val))]))
noncomputable def GFp(G:FI->Prop)(n:Nat)(Xp:List PanicEntry->Prop):Nat->Option Ctr:=λf=>if f=70 then some (flC G n Xp) else none
theorem ztg{G:FI->Prop}{n:Nat}{Xp:List PanicEntry->Prop}(ih:zz Xp prog 70 (flC G n Xp)):∀ f c,GFp G n Xp f=some c->zz Xp prog f c:=vO ih yG
theorem zdg{G:FI->Prop}{n:Nat}{Xp:List PanicEntry->Prop}(ih:zz Xp prog 70 (flC G n Xp)):zz Xp prog 115 (zj5 G n Xp):=by
 refine yv (fn:=f115) (c:=f115.body.getD .skip) rfl rfl rfl λp hp O w0 I0 Q hl0 hq=> ?_
 obtain⟨⟨c,day,fin,f,h⟩,b⟩:=p;obtain⟨h1,h2,h3,h4⟩:=hp;simp only at h1 h2 h3 h4 hq;refine zb.runX hmix (ztg ih) [] 400 (T:=let v2:List AV:=[.sl f.length 3 (fxG f),.sl h.length 4 (chG h)];let v1:=[AV.sl f.length 3 (fxG f),AV.sl h.length 4 (chG h)];.ite b (.side ((0:Int)<=1/\(1:Int)<(c.sub.length:Int)) (.ex (λ(x:FI)=>eqL [(Con.conD (List.getD c.sub 1 Con.nil)),.i day,.i fin,.agg v1] [(Con.conA x.c),.i x.day,.i x.fin,.agg [.sl x.f.length 3 (fxG x.f),.sl x.h.length 4 (chG x.h)]]/\eqH [] []/\0=0/\G x/\Con.nodes x.c<n/\q7 Xp x.val) λn=>let v3:=getM [] n.val;.ite (okM n.val) (.R [.osl 4 5 0 (List.length v3)] [.box (Con.zd c),.box [.i day],.box [.i fin],.box v2,.arr (List.length v3) 5 (flG v3)]) (.leaf qa.gone))) (.side ((0:Int)<=0/\(0:Int)<(c.sub.length:Int)) (.ex (λ(x:FI)=>eqL [(Con.conD (List.getD c.sub 0 Con.nil)),.i day,.i fin,.agg v1] [(Con.conA x.c),.i x.day,.i x.fin,.agg [.sl x.f.length 3 (fxG x.f),.sl x.h.length 4 (chG x.h)]]/\eqH [] []/\0=0/\G x/\Con.nodes x.c<n/\q7 Xp x.val) λn=>let v4:=getM [] n.val;.ite (okM n.val) (.R [.osl 4 5 0 (List.length v4)] [.box (Con.zd c),.box [.i day],.box [.i fin],.box v2,.arr (List.length v4) 5 (flG v4)]) (.leaf qa.gone)))) (by kernel_rfl) ?_;simp only [Tree.holds,ze,inR,lo,hi,aD]
 have fin1:∀ (i:Nat) (Q':Prop),i<c.sub.length->b.toNat=i->(okM (FI.kid ⟨c,day,fin,f,h⟩ i).val=true->RetR (zj5 G n Xp) (FI.heap ⟨c,day,fin,f,h⟩).length Q [.osl 4 5 0 (getM [] (FI.kid ⟨c,day,fin,f,h⟩ i).val).length] (FI.heap ⟨c,day,fin,f,h⟩++[.arr (getM [] (FI.kid ⟨c,day,fin,f,h⟩ i).val).length 5 (flG (getM [] (FI.kid ⟨c,day,fin,f,h⟩ i).val))])):=by
  intro i _ hi hb ho;rw [hb] at hq;exact RetR.km [0,1,2,3,4] rfl rfl (by show ∀ j,j<4->_; decide) rfl (hq ho) (LeA.refl _) (FI.zvm ⟨c,day,fin,f,h⟩ _ _) rfl
 have argE:eqA (envA f h) (envA f h):=⟨⟨rfl,rfl,λ_ _ _ _=>rfl⟩,⟨rfl,rfl,λ_ _ _ _=>rfl⟩,trivial⟩;refine⟨λhb=> ?_,λhb=> ?_⟩
 ·subst hb;refine⟨⟨by decide,by have:1<c.sub.length:=h1; omega⟩,λ_=>⟨FI.kid ⟨c,day,fin,f,h⟩ 1,⟨⟨wo _,⟨rfl,rfl⟩,⟨rfl,rfl⟩,argE,trivial⟩,trivial,trivial,h2,h3,h4⟩,fin1 1 True h1 rfl,λ_=>trivial⟩⟩
 ·subst hb;refine⟨⟨by decide,by have:0<c.sub.length:=h1; omega⟩,λ_=>⟨FI.kid ⟨c,day,fin,f,h⟩ 0,⟨⟨wo _,⟨rfl,rfl⟩,⟨rfl,rfl⟩,argE,trivial⟩,trivial,trivial,h2,h3,h4⟩,fin1 0 True h1 rfl,λ_=>trivial⟩⟩
end Go.Proofs.Tryz
end
section
namespace Go.Nov
open Go.Sx
theorem Con.zem{P:Con->Prop}(h:∀ c:Con,(∀ i,i<c.sub.length->P (c.sub.getD i Con.nil))->P c)(c:Con):P c:=by
 generalize hn:c.nodes=n
 induction n using Nat.strongRecOn generalizing c with
 | _ n ih=>
  refine h c λi hi=>ih _ ?_ _ rfl
  have:=Con.qZ hi;rw [Con.jH] at hn;omega
theorem kh{α:Type}{l:List α}{d:α}{i:Nat}(h:l.length<=i):l.getD i d=d:=by simp [List.getD,h]
theorem Zs(f:List Fx)(h:List Ch)(day fin:Int):flM f h Con.nil day fin = .ok []:=by
 show flM f h (.mk 0 [] [] [] Ex.nil 0 [] []) day fin=_;rw [flM];simp
theorem zg7(f:List Fx)(h:List Ch)(s:List Con)(i:Nat):(flMs f h s).getD i (λ_ _=>.ok [])=flM f h (s.getD i Con.nil):=by
 by_cases hi:i<s.length
 ·exact Yj f h s i hi
 ·have e:∀ (s:List Con),(flMs f h s).length=s.length:=by
   intro s; induction s with
   | nil=>rw [flMs]; rfl
   | cons a s ih=>rw [flMs]; simp [ih]
  rw [kh (by rw [e]; omega),kh (by omega)];funext day fin;rw [Zs]
theorem uz(f:List Fx)(h:List Ch)(c:Con)(day fin:Int):flM f h c day fin =
  if fin<=day then .ok []
  else if c.kind=2 then andM (valM c.x day f h) λr=>.ok (payF day c.src c.dst c.name r)
  else if c.kind=3 then andM (flM f h (c.sub.getD 0 Con.nil) day fin) λu=>andM (flM f h (c.sub.getD 1 Con.nil) day fin) λv=>.ok (u++v)
  else if c.kind=4 then andM (valM c.x day f h) λr=>andM (flM f h (c.sub.getD 0 Con.nil) day fin) λu=>ja r u
  else if c.kind=5 then andM (holM c.x day f h) λt=>flM f h (c.sub.getD (if t=true then 0 else 1) Con.nil) day fin
  else if c.kind=6 then(if day<=c.date then flM f h (c.sub.getD 0 Con.nil) c.date fin else .ok [])
  else if c.kind=7 then flM f h (c.sub.getD (if qc h c.src c.name day=true then 0 else 1) Con.nil) day fin
  else if c.kind=8 then andM (firstM (λt=>.ok (qc h c.src c.name t)) day fin c.days) λt=>flM f h (c.sub.getD 0 Con.nil) t fin
  else if c.kind=9 then andM (firstM (λt=>holM c.x t f h) day fin c.days) λt=>flM f h (c.sub.getD 0 Con.nil) day t
  else if c.kind=10 then andM (firstM (λt=>holM c.x t f h) day fin c.days) λt=>flM f h (c.sub.getD 0 Con.nil) t fin
  else .ok []:=by
 cases c;rw [flM];simp only [zg7];rfl
theorem vU{α β:Type}{x:Except Int α}{k:α->Except Int β}{r:β}(h:andM x k = .ok r):∃ a,x = .ok a/\k a = .ok r:=by
 cases x with
 | error e=>cases h
 | ok a=>exact⟨a,rfl,h⟩
theorem Wk(d:Int)(a b n r:L8):(payF d a b n r).length<=1:=by unfold payF; split; simp; split<;>simp
theorem WB{k:L8} : ∀ {l m:List Fl},ja k l = .ok m->m.length<=l.length
 | [],m,h=>by cases h; simp
 | f::l,m,h=>by
  rw [ja] at h;split at h
  ·cases h
  ·split at h
   ·cases h
   ·rename_i m' hm;cases h;have:=WB hm;have:=Wk f.date f.src f.dst f.ccy (mulR f.amt k).1;simp; omega
def okFl(x:Fl):Prop:=errR x.amt=0/\0<qv x.amt
theorem zer{d:Int}{a b n r:L8}(hr:errR r=0):∀ x∈payF d a b n r,okFl x:=by
 intro x hx;obtain⟨s1,s2,s3⟩:=Zg hr;unfold payF at hx;split at hx
 ·simp at hx
 ·rename_i h0;split at hx
  ·rename_i h1;simp only [List.mem_singleton] at hx;subst hx;have e:negS r=r.drop 1:=by unfold negS; rw [aO h0,aP h1]
   obtain⟨n1,n2,_⟩:=zq3 hr;rw [e] at n1 n2;refine⟨n1,?_⟩;show 0<qv (r.drop 1);rw [n2];have:=s1.1 h1;grind
  ·rename_i h1;simp only [List.mem_singleton] at hx;subst hx;refine⟨hr,(zqo hr).2 ⟨h0,h1⟩⟩
theorem Jc{x:Ex}{d:Int}{f:List Fx}{h:List Ch}{r:L8}(hv:valM x d f h = .ok r):errR r=0:=by
 unfold valM at hv;split at hv
 ·rename_i h0; cases hv; exact za4 h0
 ·cases hv
theorem K0{k:L8}(hk:errR k=0):∀ {l m:List Fl},(∀ x∈l,okFl x)->ja k l = .ok m->∀ x∈m,okFl x
 | [],m,_,h=>by cases h; simp
 | f::l,m,hl,h=>by
  rw [ja] at h;split at h
  ·cases h
  ·rename_i h0;split at h
   ·cases h
   ·rename_i m' hm;cases h;intro x hx;rcases bZ.1 hx with hx | hx
    ·exact zer (yT (hl f (by simp)).1 hk (by simpa using h0)).1 x hx
    ·exact K0 hk (λy hy=>hl y (by simp [hy])) hm x hx
theorem W7{f:List Fx}{h:List Ch} : ∀ (c:Con) {day fin:Int} {l:List Fl},flM f h c day fin = .ok l->l.length<=c.nodes/\∀ x∈l,okFl x:=by
 refine Con.zem ?_;intro c ih day fin l hl;have nl:=Con.jH c
 have kid:∀ (i:Nat) {day fin:Int} {l:List Fl},flM f h (c.sub.getD i Con.nil) day fin = .ok l->l.length<=Con.zw c.sub/\∀ x∈l,okFl x:=by
  intro i day fin l hl;by_cases hi:i<c.sub.length
  ·have:=ih i hi hl;exact⟨bP this.1 (Con.qZ hi),this.2⟩
  ·rw [kh (by omega),Zs] at hl;cases hl;simp
 have kid':∀ (i:Nat) {day fin:Int} {l:List Fl},flM f h (c.sub.getD i Con.nil) day fin = .ok l->l.length<=c.nodes/\∀ x∈l,okFl x:=λi day fin l hl=>⟨by have:=(kid i hl).1; omega,(kid i hl).2⟩
 have non:∀ l:List Fl,(Except.ok []:Except Int (List Fl)) = .ok l->l.length<=c.nodes/\∀ x∈l,okFl x:=by
  intro l hl; cases hl; simp
 rw [uz] at hl;split at hl
 ·exact non l hl
 split at hl
 ·obtain⟨r,h1,h2⟩:=vU hl;cases h2;have:=Wk day c.src c.dst c.name r;exact⟨by omega,zer (Jc h1)⟩
 split at hl
 ·obtain⟨u,h1,h2⟩:=vU hl;obtain⟨v,h3,h4⟩:=vU h2;cases h4;refine⟨?_,λx hx=>(bZ.1 hx).elim ((kid 0 h1).2 x) ((kid 1 h3).2 x)⟩;rw [bO];by_cases hi:1<c.sub.length
  ·have a1:=(ih 0 (by omega) h1).1;have a2:=(ih 1 hi h3).1;have t1:Con.zw (c.sub.take 1)=_:=Con.vD (s:=c.sub) (i:=0) (by omega);have t2:Con.zw (c.sub.take 2)=_:=Con.vD (s:=c.sub) (i:=1) hi;have t3:=Con.Qh c.sub 2;have t4:Con.zw (c.sub.take 0)=0:=by rw [List.take_zero,Con.zw]
   omega
  ·rw [kh (by omega:c.sub.length<=1),Zs] at h3;cases h3;have:=(kid' 0 h1).1;simpa using this
 split at hl
 ·obtain⟨r,h1,h2⟩:=vU hl;obtain⟨u,h3,h4⟩:=vU h2;have:=WB h4;have:=(kid' 0 h3).1;exact⟨by omega,K0 (Jc h1) (kid' 0 h3).2 h4⟩
 split at hl
 ·obtain⟨t,h1,h2⟩:=vU hl;exact kid' _ h2
 split at hl
 ·split at hl
  ·exact kid' _ hl
  ·exact non l hl
 split at hl
 ·exact kid' _ hl
 split at hl
 ·obtain⟨t,h1,h2⟩:=vU hl;exact kid' _ h2
 split at hl
 ·obtain⟨t,h1,h2⟩:=vU hl;exact kid' _ h2
 split at hl
 ·obtain⟨t,h1,h2⟩:=vU hl;exact kid' _ h2
 ·exact non l hl
end Go.Nov
end
section
set_option maxRecDepth 100000
open Go Go.Sx Go.Proofs Go.Nov
namespace Go.Proofs.Tryz
attribute [local simp] eqKV eqA eqA0 eqH eqB eqL eqL0
noncomputable def K70:=Go.Sx.aA f70
def FI.G(k:FI):Prop:=k.c.form=true/\k.c.big<2^40/\k.c.nodes<2^20/\envP (k.f,k.h)
theorem j3{α β:Type}{Xp:List PanicEntry->Prop}{x:Except Int α}{k:α->Except Int β}(h:q7 Xp (andM x k)):q7 Xp x/\∀ a,x = .ok a->q7 Xp (k a):=
 ⟨λe he=>h e (by rw [he]; rfl),λa ha e he=>h e (by rw [ha]; exact he)⟩
noncomputable def GFl(n:Nat)(Xp:List PanicEntry->Prop):Nat->Option Ctr:=λf=>if f=107 then some Ya else if f=109 then some (zcg Xp) else if f=112 then some (zo9 Xp) else if f=115 then some (zj5 FI.G n Xp) else if f=117 then some (zcj Xp) else if f=116 then some zsg else if f=70 then some (flC FI.G n Xp) else if f=64 then some Kr else if f=113 then some (zbd Xp) else none
theorem zn0{n:Nat}{Xp:List PanicEntry->Prop}(ih:zz Xp prog 70 (flC FI.G n Xp)):∀ f c,GFl n Xp f=some c->zz Xp prog f c:=
 vO WU.x (vO (K3 Xp) (vO (zfe Xp) (vO (zdg ih) (vO (zf8 Xp) (vO zph.x (vO ih (vO uY.x (vO (Kg Xp) yG))))))))
theorem zvt{α β:Type}{a:α}{k:α->Except Int β} : Go.Nov.andM (.ok a) k=k a:=rfl
def SFl(r:L8)(u:List Fl)(m i:Nat):KV:=[(13,.str r),(14,.osl 5 5 0 m),(50,.osl 4 5 0 u.length),(51,.i (u.length:Int)),(52,.i (i:Int))]
def HFl(c:Con)(day fin:Int)(f:List Fx)(h:List Ch)(u m:List Fl):Heap:=[.box c.zd,.box [.i day],.box [.i fin],.box [.sl f.length 3 (fxG f),.sl h.length 4 (chG h)],.arr u.length 5 (flG u),.arr m.length 5 (flG m)]
abbrev q65(A:List AV)(x:Fl):Prop:=eqL A [.i x.date,.str x.src,.str x.dst,.str x.ccy,.str x.amt]/\Fl.amt x≠[]/\List.length x.amt<1099511627776
theorem zbt{n:Nat}{Xp:List PanicEntry->Prop}(ih:zz Xp prog 70 (flC FI.G n Xp)){c:Con}{day fin:Int}{f:List Fx}{h:List Ch}{r:L8}{u:List Fl}(hfl:flM f h c day fin=ja r u)(hst:q7 Xp (ja r u))(hlen:u.length<2^20)(hok:∀ x∈u,okFl x)(hr:errR r=0){Q:AV×Heap->Prop}(hQ:∀ l,flM f h c day fin = .ok l->Q (.osl 0 5 0 l.length,[.arr l.length 5 (flG l)])){O:Nat->Prop}{w0:World}{I0:List SE} :
  qt Xp none prog f70 O 0 w0 I0 (λ_ _ _=>False) (RetR (flC FI.G (n+1) Xp) 0 (upQ Q)) (.code (.loop (lps K70 0).1)::(lps K70 0).2) (mk f70.ntmps [(13,.str r),(14,.nils),(50,.osl 4 5 0 u.length),(51,.i (u.length:Int)),(52,.i 0)] [.box c.zd,.box [.i day],.box [.i fin],.box [.sl f.length 3 (fxG f),.sl h.length 4 (chG h)],.arr u.length 5 (flG u)]):=by
 refine zb.bear 14 5 (flG []) rfl (by decide) (by kernel_rfl) ?_
 refine zb.loop (ι:={z:Nat×List Fl // z.1<=u.length/\z.2.length<=z.1/\ja r u=andM (ja r (u.drop z.1)) λl=>.ok (z.2++l)}) (λz=>SFl r u z.1.2.length z.1.1) (λz=>HFl c day fin f h u z.1.2) (λz=>u.length - z.1.1) ⟨(0,[]),aI _,aJ _,by
  show ja r u=_;rw [List.drop_zero];cases ja r u<;>rfl⟩ 0 ?_ ?_ (by kernel_rfl)
 ·exact⟨by simp [SFl,yy,za],by simp [HFl,za,Con.zd,Con.qI,fxS,chS,Ex.exS,Con.dayS,Con.conS],by kernel_rfl,aI _⟩
 ·rintro⟨⟨i,m⟩,hi,hm,hs⟩;simp only at hi hm hs;refine zb.runX hmix (zn0 ih) [13,14,50,51,52] 400 (T:=let v4:List AV:=[.sl f.length 3 (fxG f),.sl h.length 4 (chG h)];let v1:=u.getD (0+Int.toNat i) Fl.nil;.D ((i:Int)<u.length) (.side ((0:Int)<=i/\(i:Int)<u.length) (.ex (q46 [.str v1.amt,.str r]) λn=>.all (λ(r:L8×Int)=>r=mulR n.1 n.2) λn=>.ex (λ(x:L8×Int)=>eqL [.str n.1,.i n.2] [.str x.1,.i x.2]/\eqH [] []/\0=0/\(x.2≠0->Xp (Zx uw x.2))) λn=>.D (n.2=0) (.ex (q65 [.i v1.date,.str v1.src,.str v1.dst,.str v1.ccy,.str n.1]) λn=>let v2:=payF n.date n.src n.dst n.ccy n.amt;let v3:=m.length+List.length v2;.A λn_1=>.side (0=0/\m.length<=m.length/\v3 *72<=140737488355328) (.S (i+1) (.leaf (.back 0 [(13,.str r),(14,.osl 5 5 0 v3),(50,.osl 4 5 0 u.length),(51,.i u.length),(52,.i (i+1))] [.box (Con.zd c),.box [.i day],.box [.i fin],.box v4,.arr u.length 5 (flG u),.arr v3 5 (appG m.length (flG m) (zg (flG v2) 0)),.box [.i v1.date,.str v1.src,.str v1.dst,.str v1.ccy,.str v1.amt],.arr (List.length v2) 5 (flG v2)])))) (.leaf qa.gone))) (.R [.osl 5 5 0 m.length] [.box (Con.zd c),.box [.i day],.box [.i fin],.box v4,.arr u.length 5 (flG u),.arr m.length 5 (flG m)])) (by kernel_rfl) ?_;simp only [q46,q65,Tree.holds,ze,inR,lo,hi,aD];refine⟨λhlt=> ?_,λhge=> ?_⟩
  ·have hlt:i<u.length:=by have:=aB hlt; omega
   have hd:u.drop i=u.getD i Fl.nil::u.drop (i+1):=by
    rw [List.drop_eq_getElem_cons hlt]; simp [List.getD,hlt]
   have hmem:u.getD i Fl.nil∈u:=by simp [List.getD,hlt]
   rw [hd,ja] at hs;rw [Nat.zero_add];have hx:=hok _ hmem;refine⟨⟨by omega,by omega⟩,λ_=>⟨((u.getD i Fl.nil).amt,r),⟨⟨rfl,rfl,trivial⟩,by have:=jL hx.1; show(u.getD i Fl.nil).amt.length<_; omega,by have:=jL hr; show r.length<_; omega⟩,⟨_,rfl⟩,?_⟩⟩;rintro _ rfl;refine⟨mulR (u.getD i Fl.nil).amt r,⟨⟨rfl,⟨rfl,rfl⟩,trivial⟩,trivial,trivial,λhe=> ?_⟩,λhe=> ?_,λ_=>trivial⟩
   ·refine hst _ ?_;rw [hs,aP he]; rfl
   ·have he:=aB he;have hmr:=(yT hx.1 hr he).1;rw [aO (λhne=>hne he)] at hs;have hpl:=Wk (u.getD i Fl.nil).date (u.getD i Fl.nil).src (u.getD i Fl.nil).dst (u.getD i Fl.nil).ccy (mulR (u.getD i Fl.nil).amt r).1;refine⟨⟨(u.getD i Fl.nil).date,(u.getD i Fl.nil).src,(u.getD i Fl.nil).dst,(u.getD i Fl.nil).ccy,(mulR (u.getD i Fl.nil).amt r).1⟩,⟨⟨⟨rfl,rfl⟩,rfl,rfl,rfl,rfl,trivial⟩,(Zg hmr).2.2,by have:=jL hmr; show List.length (mulR (u.getD i Fl.nil).amt r).1<_; omega⟩,⟨(),trivial⟩,λ_ _=>⟨⟨trivial,aJ _,?_⟩,λ_=>⟨⟨by omega,by show _<=(9223372036854775807:Int); omega⟩,λ_=> ?_⟩⟩⟩
    ·show(m.length+(payF (u.getD i Fl.nil).date (u.getD i Fl.nil).src (u.getD i Fl.nil).dst (u.getD i Fl.nil).ccy (mulR (u.getD i Fl.nil).amt r).1).length)*72<=_;omega
    ·rw [aP trivial];simp only;generalize payF (u.getD i Fl.nil).date (u.getD i Fl.nil).src (u.getD i Fl.nil).dst (u.getD i Fl.nil).ccy (mulR (u.getD i Fl.nil).amt r).1=p at hs hpl ⊢;refine⟨⟨(i+1,m++p),hlt,by simp only [bO]; omega,?_⟩,by show _ - (i+1)<_; omega,?_,?_,by kernel_rfl,aI _⟩
     ·rw [hs];cases ja r (u.drop (i+1)) with
      | error e=>rfl
      | ok l=>simp [zvt,List.append_assoc]
     ·simp [SFl]
     ·refine⟨by simp [Con.zd,Con.qI,Ex.exS,Con.dayS,Con.conS,za],by simp,by simp,by simp [za],⟨rfl,rfl,za _ _ _⟩,⟨by simp,rfl,?_⟩,trivial⟩;intro j k hj hk;have:=Je (o:=m) (a:=p) rfl rfl j k hj hk;show _=flG (m++p) j k;rw [<- this];simp only [appG,zg,Nat.zero_add]
  ·have hge:i=u.length:=by have:=aC hge; omega
   subst hge;rw [List.drop_length,ja] at hs;have hs:ja r u = .ok m:=by rw [hs]; show Except.ok (m++[])=_; rw [List.append_nil]
   exact RetR.ze2 (Q:=upQ Q) [5] rfl (by simp [HFl]) (by simp) rfl (.inl (hQ m (by rw [hfl,hs]))) (LeA.refl _) ⟨LeB.refl _,trivial⟩
theorem za7{n:Nat}{Xp:List PanicEntry->Prop}(ih:zz Xp prog 70 (flC FI.G n Xp)):zz Xp prog 70 (flC FI.G (n+1) Xp):=by
 refine ziy (fn:=f70) (c:=f70.body.getD .skip) rfl rfl rfl λp hp O w0 I0 Q hl0 hq=> ?_
 obtain⟨c,day,fin,f,h⟩:=p;obtain⟨h1,h2,h3⟩:=hp;simp only at h1 h2 h3 hq;refine zb.runX hmix (zn0 ih) [13,14,50,51,52] 400 (T:=let v31:=[AV.i day,AV.ptr 0 0,AV.ptr 1 0];let v30:List AV:=[.sl f.length 3 (fxG f),.sl h.length 4 (chG h)];let v28:List AV:=[.i day];let v27:=[AV.i fin];let v20:List AV:=[.i fin];let v18:=[AV.bool false,AV.ptr 0 0,AV.ptr 1 0,AV.ptr 2 0,AV.ptr 3 0];let v17:=[AV.i day];let v11:=[AV.ptr 0 0,AV.ptr 1 0,AV.ptr 2 0];let v10:=[AV.ptr 0 0,AV.ptr 1 0];let v9:=Con.conD (List.getD c.sub 0 Con.nil);let v3:qa:=.ret [.nils] [.box (Con.zd c),.box v28,.box v20,.box v30];let v1:=[AV.sl f.length 3 (fxG f),AV.sl h.length 4 (chG h)];let v33:List Blk:=[.box (Con.zd c),.box v1];.D (fin<=day) (.leaf v3) (.D (Con.kind c=2) (.ex (λ(x:FI)=>eqL v11 v11/\eqH [.box (Con.zd c),.box v17,.box v1] [.box (Con.zd x.c),.box [.i x.day],.box [.sl x.f.length 3 (fxG x.f),.sl x.h.length 4 (chG x.h)]]/\3=3/\VI.ok { x:=Con.x x.c,day:=FI.day x,f:=FI.f x,c:=FI.h x } /\ q7 Xp (valM (Con.x x.c) x.day x.f x.h)) λn=>let v26:=valM (Con.x n.c) n.day n.f n.h;.ite (okM v26) (.side (Con.name n.c=Con.name c) (.side (Con.dst n.c=Con.dst c) (.side (Con.src n.c=Con.src c) (.side (FI.day n=day) (.ex (q65 [.i day,.str c.src,.str c.dst,.str c.name,.str (getM [] v26)]) λn_1=>let v6:=payF n_1.date n_1.src n_1.dst n_1.ccy n_1.amt;.A λn_2=>.R [.osl 4 5 0 (List.length v6)] [.box (Con.zd n.c),.box [.i n.day],.box v20,.box [.sl n.f.length 3 (fxG n.f),.sl n.h.length 4 (chG n.h)],.arr (List.length v6) 5 (flG v6)]))))) (.leaf qa.gone)) (.D (Con.kind c=3) (.ex (λ(x:FI×Bool)=>let v21:=FI.kid x.1 (Bool.toNat x.2);eqL v18 [.bool x.2,.ptr 0 0,.ptr 1 0,.ptr 2 0,.ptr 3 0]/\eqH [.box (Con.zd c),.box v17,.box v27,.box v1] [.box (Con.zd x.1.c),.box [.i x.1.day],.box [.i x.1.fin],.box [.sl x.1.f.length 3 (fxG x.1.f),.sl x.1.h.length 4 (chG x.1.h)]]/\4=4/\Bool.toNat x.2<List.length (Con.sub x.1.c)/\FI.G v21/\Con.nodes v21.c<n/\q7 Xp v21.val) λn_1=>let v29:=FI.val (FI.kid n_1.1 (Bool.toNat n_1.2));let v2:=getM [] v29;.ite (okM v29) (.ex (λ(x:FI×Bool)=>let v22:=FI.kid x.1 (Bool.toNat x.2);eqL [.bool true,.ptr 0 0,.ptr 1 0,.ptr 2 0,.ptr 3 0] [.bool x.2,.ptr 0 0,.ptr 1 0,.ptr 2 0,.ptr 3 0]/\eqH [.box (Con.zd n_1.1.c),.box [.i n_1.1.day],.box [.i n_1.1.fin],.box [.sl n_1.1.f.length 3 (fxG n_1.1.f),.sl n_1.1.h.length 4 (chG n_1.1.h)]] [.box (Con.zd x.1.c),.box [.i x.1.day],.box [.i x.1.fin],.box [.sl x.1.f.length 3 (fxG x.1.f),.sl x.1.h.length 4 (chG x.1.h)]]/\4=4/\Bool.toNat x.2<List.length (Con.sub x.1.c)/\FI.G v22/\Con.nodes v22.c<n/\q7 Xp v22.val) λn=>let v32:=FI.val (FI.kid n.1 (Bool.toNat n.2));let v4:=getM [] v32;let v15:=List.length v2 +List.length v4;.ite (okM v32) (.side (0=0/\List.length v2 <=List.length v2/\v15 *72<=140737488355328) (.R [.osl 4 5 0 v15] [.box (Con.zd n.1.c),.box [.i n.1.day],.box [.i n.1.fin],.box [.sl n.1.f.length 3 (fxG n.1.f),.sl n.1.h.length 4 (chG n.1.h)],.arr v15 5 (appG (List.length v2) (flG v2) (zg (flG v4) 0)),.arr (List.length v4) 5 (flG v4)])) (.leaf qa.gone)) (.leaf qa.gone)) (.D (Con.kind c=4) (.ex (λ(x:FI)=>eqL v11 v11/\eqH [.box (Con.zd c),.box v17,.box v1] [.box (Con.zd x.c),.box [.i x.day],.box [.sl x.f.length 3 (fxG x.f),.sl x.h.length 4 (chG x.h)]]/\3=3/\VI.ok { x:=Con.x x.c,day:=FI.day x,f:=FI.f x,c:=FI.h x } /\ q7 Xp (valM (Con.x x.c) x.day x.f x.h)) λn_1=>let v16:=valM (Con.x n_1.c) n_1.day n_1.f n_1.h;.ite (okM v16) (.ex (λ(x:FI×Bool)=>let v23:=FI.kid x.1 (Bool.toNat x.2);eqL v18 [.bool x.2,.ptr 0 0,.ptr 1 0,.ptr 2 0,.ptr 3 0]/\eqH [.box (Con.zd n_1.c),.box [.i n_1.day],.box v27,.box [.sl n_1.f.length 3 (fxG n_1.f),.sl n_1.h.length 4 (chG n_1.h)]] [.box (Con.zd x.1.c),.box [.i x.1.day],.box [.i x.1.fin],.box [.sl x.1.f.length 3 (fxG x.1.f),.sl x.1.h.length 4 (chG x.1.h)]]/\4=4/\Bool.toNat x.2<List.length (Con.sub x.1.c)/\FI.G v23/\Con.nodes v23.c<n/\q7 Xp v23.val) λn=>let v5:=FI.val (FI.kid n.1 (Bool.toNat n.2));let v38:=getM [] v5;.ite (okM v5) (.leaf (.loop (lps K70 0).1 (lps K70 0).2 [(13,.str (getM [] v16)),(14,.nils),(50,.osl 4 5 0 (List.length v38)),(51,.int .i64 ↑(List.length v38)),(52,.i 0)] [.box (Con.zd n.1.c),.box [.i n.1.day],.box [.i n.1.fin],.box [.sl n.1.f.length 3 (fxG n.1.f),.sl n.1.h.length 4 (chG n.1.h)],.arr (List.length v38) 5 (flG v38)])) (.leaf qa.gone)) (.leaf qa.gone)) (.D (Con.kind c=5) (.ex (λ(x:FI×Int)=>eqL v31 [.i x.2,.ptr 0 0,.ptr 1 0]/\eqH v33 [.box (Con.zd x.1.c),.box [.sl x.1.f.length 3 (fxG x.1.f),.sl x.1.h.length 4 (chG x.1.h)]]/\2=2/\VI.ok { x:=Con.x x.1.c,day:=x.2,f:=FI.f x.1,c:=FI.h x.1 } /\ q7 Xp (holM (Con.x x.1.c) x.2 x.1.f x.1.h)) λn_1=>let v19:=holM (Con.x n_1.1.c) n_1.2 n_1.1.f n_1.1.h;.ite (okM v19) (.ex (λ(x:FI×Bool)=>let v24:=FI.kid x.1 (Bool.toNat x.2);eqL [.bool !getM false v19,.ptr 0 0,.ptr 1 0,.ptr 2 0,.ptr 3 0] [.bool x.2,.ptr 0 0,.ptr 1 0,.ptr 2 0,.ptr 3 0]/\eqH [.box (Con.zd n_1.1.c),.box v17,.box v27,.box [.sl n_1.1.f.length 3 (fxG n_1.1.f),.sl n_1.1.h.length 4 (chG n_1.1.h)]] [.box (Con.zd x.1.c),.box [.i x.1.day],.box [.i x.1.fin],.box [.sl x.1.f.length 3 (fxG x.1.f),.sl x.1.h.length 4 (chG x.1.h)]]/\4=4/\Bool.toNat x.2<List.length (Con.sub x.1.c)/\FI.G v24/\Con.nodes v24.c<n/\q7 Xp v24.val) λn=>let v7:=FI.val (FI.kid n.1 (Bool.toNat n.2));.ite (okM v7) (.R [.osl 4 5 0 (List.length (getM [] v7))] [.box (Con.zd n.1.c),.box [.i n.1.day],.box [.i n.1.fin],.box [.sl n.1.f.length 3 (fxG n.1.f),.sl n.1.h.length 4 (chG n.1.h)],.arr (List.length (getM [] v7)) 5 (flG (getM [] v7))]) (.leaf qa.gone)) (.leaf qa.gone)) (.D (Con.kind c=7) (.ex (q64 v31 [.box v1,.box (Con.zd c)]) λn_1=>.A λn_2=>.ex (λ(x:FI×Bool)=>let v25:=FI.kid x.1 (Bool.toNat x.2);eqL [.bool !qc n_1.1.h (Con.src n_1.1.c) (Con.name n_1.1.c) n_1.2,.ptr 0 0,.ptr 1 0,.ptr 2 0,.ptr 3 0] [.bool x.2,.ptr 0 0,.ptr 1 0,.ptr 2 0,.ptr 3 0]/\eqH [.box (Con.zd n_1.1.c),.box v17,.box v27,.box [.sl n_1.1.f.length 3 (fxG n_1.1.f),.sl n_1.1.h.length 4 (chG n_1.1.h)]] [.box (Con.zd x.1.c),.box [.i x.1.day],.box [.i x.1.fin],.box [.sl x.1.f.length 3 (fxG x.1.f),.sl x.1.h.length 4 (chG x.1.h)]]/\4=4/\Bool.toNat x.2<List.length (Con.sub x.1.c)/\FI.G v25/\Con.nodes v25.c<n/\q7 Xp v25.val) λn=>let v8:=FI.val (FI.kid n.1 (Bool.toNat n.2));.ite (okM v8) (.R [.osl 4 5 0 (List.length (getM [] v8))] [.box (Con.zd n.1.c),.box [.i n.1.day],.box [.i n.1.fin],.box [.sl n.1.f.length 3 (fxG n.1.f),.sl n.1.h.length 4 (chG n.1.h)],.arr (List.length (getM [] v8)) 5 (flG (getM [] v8))]) (.leaf qa.gone)) (.D (Con.kind c=6) (.D (day<=Con.date c) (.side ((0:Int)<=0/\(0:Int)<(c.sub.length:Int)) (.ex (λ(x:FI)=>eqL [v9,.i c.date,.i fin,.agg v1] [(Con.conA x.c),.i x.day,.i x.fin,.agg [.sl x.f.length 3 (fxG x.f),.sl x.h.length 4 (chG x.h)]]/\eqH [] []/\0=0/\FI.G x/\Con.nodes x.c<n/\q7 Xp x.val) λn=>let v34:=getM [] n.val;.ite (okM n.val) (.R [.osl 4 5 0 (List.length v34)] [.box (Con.zd c),.box v28,.box v20,.box v30,.arr (List.length v34) 5 (flG v34)]) (.leaf qa.gone))) (.leaf v3)) (.D (Con.kind c=8) (.side ((0:Int)<=0/\(0:Int)<(c.sub.length:Int)) (.ex (λ(x:FI)=>eqL [(Con.conA c),.i day,.i fin,.fn 107 [] v10] [(Con.conA x.c),.i x.day,.i x.fin,.fn 107 [] v10]/\eqH [.box v1,.box (Con.zd c)] [.box [.sl x.f.length 3 (fxG x.f),.sl x.h.length 4 (chG x.h)],.box (Con.zd x.c)]/\2=2/\List.length x.h<1099511627776/\List.length (Con.days x.c)<1099511627776/\q7 Xp (firstM (choT x) x.day x.fin (Con.days x.c))) λn_1=>let v12:=firstM (choT n_1) n_1.day n_1.fin (Con.days n_1.c);.ite (okM v12) (.side ((List.length n_1.f=f.length/\3=3/\fxG n_1.f=fxG f)/\(List.length n_1.h=h.length/\4=4/\chG n_1.h=chG h)/\True) (.side (List.length (Con.sub n_1.c)=List.length c.sub/\12=12/\Con.conG (Con.sub n_1.c)=Con.conG c.sub) (.ex (λ(x:FI)=>eqL [v9,.i (getM (0:Int) v12),.i fin,.agg v1] [(Con.conA x.c),.i x.day,.i x.fin,.agg [.sl x.f.length 3 (fxG x.f),.sl x.h.length 4 (chG x.h)]]/\eqH [] []/\0=0/\FI.G x/\Con.nodes x.c<n/\q7 Xp x.val) λn=>let v35:=getM [] n.val;.ite (okM n.val) (.R [.osl 4 5 0 (List.length v35)] [.box (Con.zd n_1.c),.box v28,.box v20,.box [.sl n_1.f.length 3 (fxG n_1.f),.sl n_1.h.length 4 (chG n_1.h)],.arr (List.length v35) 5 (flG v35)]) (.leaf qa.gone)))) (.leaf qa.gone))) (.D (Con.kind c=9) (.side ((0:Int)<=0/\(0:Int)<(c.sub.length:Int)) (.ex (λ(x:FI)=>eqL [(Con.conA c),.i day,.i fin,.fn 109 [] v10] [(Con.conA x.c),.i x.day,.i x.fin,.fn 109 [] v10]/\eqH v33 [.box (Con.zd x.c),.box [.sl x.f.length 3 (fxG x.f),.sl x.h.length 4 (chG x.h)]]/\2=2/\(∀ (d:Int),VI.ok { x:=Con.x x.c,day:=d,f:=FI.f x,c:=FI.h x })/\List.length (Con.days x.c)<1099511627776/\q7 Xp (firstM (holT x) x.day x.fin (Con.days x.c))) λn_1=>let v13:=firstM (holT n_1) n_1.day n_1.fin (Con.days n_1.c);.ite (okM v13) (.side ((List.length n_1.f=f.length/\3=3/\fxG n_1.f=fxG f)/\(List.length n_1.h=h.length/\4=4/\chG n_1.h=chG h)/\True) (.side (List.length (Con.sub n_1.c)=List.length c.sub/\12=12/\Con.conG (Con.sub n_1.c)=Con.conG c.sub) (.ex (λ(x:FI)=>eqL [v9,.i day,.i (getM (0:Int) v13),.agg v1] [(Con.conA x.c),.i x.day,.i x.fin,.agg [.sl x.f.length 3 (fxG x.f),.sl x.h.length 4 (chG x.h)]]/\eqH [] []/\0=0/\FI.G x/\Con.nodes x.c<n/\q7 Xp x.val) λn=>let v36:=getM [] n.val;.ite (okM n.val) (.R [.osl 4 5 0 (List.length v36)] [.box (Con.zd n_1.c),.box v28,.box v20,.box [.sl n_1.f.length 3 (fxG n_1.f),.sl n_1.h.length 4 (chG n_1.h)],.arr (List.length v36) 5 (flG v36)]) (.leaf qa.gone)))) (.leaf qa.gone))) (.D (Con.kind c=10) (.side ((0:Int)<=0/\(0:Int)<(c.sub.length:Int)) (.ex (λ(x:FI)=>eqL [(Con.conA c),.i day,.i fin,.fn 109 [] v10] [(Con.conA x.c),.i x.day,.i x.fin,.fn 109 [] v10]/\eqH v33 [.box (Con.zd x.c),.box [.sl x.f.length 3 (fxG x.f),.sl x.h.length 4 (chG x.h)]]/\2=2/\(∀ (d:Int),VI.ok { x:=Con.x x.c,day:=d,f:=FI.f x,c:=FI.h x })/\List.length (Con.days x.c)<1099511627776/\q7 Xp (firstM (holT x) x.day x.fin (Con.days x.c))) λn_1=>let v14:=firstM (holT n_1) n_1.day n_1.fin (Con.days n_1.c);.ite (okM v14) (.side ((List.length n_1.f=f.length/\3=3/\fxG n_1.f=fxG f)/\(List.length n_1.h=h.length/\4=4/\chG n_1.h=chG h)/\True) (.side (List.length (Con.sub n_1.c)=List.length c.sub/\12=12/\Con.conG (Con.sub n_1.c)=Con.conG c.sub) (.ex (λ(x:FI)=>eqL [v9,.i (getM (0:Int) v14),.i fin,.agg v1] [(Con.conA x.c),.i x.day,.i x.fin,.agg [.sl x.f.length 3 (fxG x.f),.sl x.h.length 4 (chG x.h)]]/\eqH [] []/\0=0/\FI.G x/\Con.nodes x.c<n/\q7 Xp x.val) λn=>let v37:=getM [] n.val;.ite (okM n.val) (.R [.osl 4 5 0 (List.length v37)] [.box (Con.zd n_1.c),.box v28,.box v20,.box [.sl n_1.f.length 3 (fxG n_1.f),.sl n_1.h.length 4 (chG n_1.h)],.arr (List.length v37) 5 (flG v37)]) (.leaf qa.gone)))) (.leaf qa.gone))) (.leaf v3))))))))))) (by kernel_rfl) ?_;simp only [q64,q65,Tree.holds,ze,inR,lo,hi,aD];obtain⟨g1,g2,g3,g4⟩:=h1;simp only at g1 g2 g3 g4;have hv:FI.val ⟨c,day,fin,f,h⟩=flM f h c day fin:=rfl;rw [hv] at h3
 have hQ:∀ l,flM f h c day fin = .ok l->Q (.osl 0 5 0 l.length,[.arr l.length 5 (flG l)]):=by
  intro l hl;have:=hq (by rw [hv,hl]; rfl);rw [hv,hl] at this;exact this
 clear hq
 have ret:∀ (l:List Fl) (m:Nat) (g:Nat->Nat->AV) (b0 b1 b2 b3:Blk) (rest:Heap),flM f h c day fin = .ok l->m=l.length->eqG m 5 g (flG l)->RetR (flC FI.G (n+1) Xp) 0 (upQ Q) [.osl 4 5 0 m] (b0::b1::b2::b3::.arr m 5 g::rest):=by
  intro l m g b0 b1 b2 b3 rest hl hm hg;subst hm;exact RetR.ze2 (Q:=upQ Q) [4] rfl (by simp) (by simp) rfl (.inl (hQ l hl)) (LeA.refl _) ⟨LeB.arr λj o hj ho=>by rw [hg j o hj ho]; exact LeA.refl _,trivial⟩
 have nil:∀ hs:Heap,flM f h c day fin = .ok []->RetR (flC FI.G (n+1) Xp) 0 (upQ Q) [.nils] hs:=by
  intro hs hl;exact RetR.le0 (Q:=upQ Q) (r:=.nils) (.inr ⟨.osl 0 5 0 0,[(5,flG [])],⟨⟨aJ _,Nat.zero_lt_one⟩,rfl,rfl⟩,hQ [] hl⟩) (λh=>by cases h) (LeA.refl _)
 have hbig:=Con.xm c;have hnod:=Con.jH c;have hform:=g1;rw [Con.X8,bA] at hform;obtain⟨hnb,hfs⟩:=hform
 have kidG:∀ (i:Nat) (d e:Int),i<c.sub.length->FI.G ⟨c.sub.getD i Con.nil,d,e,f,h⟩/\(c.sub.getD i Con.nil).nodes<n:=by
  intro i d e hi;have k1:=Con.qZ hi;have k2:=Con.Z4 hi;refine⟨⟨?_,by show(c.sub.getD i Con.nil).big<_; omega,by show(c.sub.getD i Con.nil).nodes<_; omega,g4⟩,by omega⟩;cases hf:(c.sub.getD i Con.nil).form with
  | true=>rfl
  | false=>rw [Con.yZ c.sub i hi hf] at hfs; cases hfs
 have okx:∀ d,VI.ok ⟨c.x,d,f,h⟩:=λd=>⟨by show c.x.size<_; omega,by show c.x.zo<_; omega,g4⟩
 have hhl:h.length<2^40:=g4.2.1;have hdl:c.days.length<2^40:=by omega
 have eC:eqH (FI.mk c day fin f h).hC (FI.mk c day fin f h).hC:=by simp [FI.hC,Con.zd,Con.qI,fxS,chS,Ex.exS,Con.dayS,Con.conS,za]
 have eT:eqH (FI.mk c day fin f h).hH (FI.mk c day fin f h).hH:=by simp [FI.hH,Con.zd,Con.qI,fxS,chS,Ex.exS,Con.dayS,Con.conS,za]
 have eV:eqH (FI.mk c day fin f h).hV (FI.mk c day fin f h).hV:=by simp [FI.hV,Con.zd,Con.qI,fxS,chS,Ex.exS,Con.dayS,Con.conS,za]
 have eH:eqH (FI.mk c day fin f h).heap (FI.mk c day fin f h).heap:=by simp [FI.heap,Con.zd,Con.qI,fxS,chS,Ex.exS,Con.dayS,Con.conS,za]
 have eA:eqA (envA f h) (envA f h):=⟨⟨rfl,rfl,λ_ _ _ _=>rfl⟩,⟨rfl,rfl,λ_ _ _ _=>rfl⟩,trivial⟩;have hst:=h3;refine⟨λh0=> ?_,λh0=> ?_⟩
 ·refine nil _ ?_;rw [uz,aP (aB h0)]
 have h0:=aC h0;have hfl:=uz f h c day fin;rw [aO h0] at hfl;refine⟨λhk=> ?_,λnk2=>⟨λhk=> ?_,λnk3=>⟨λhk=> ?_,λnk4=>⟨λhk=> ?_,λnk5=>⟨λhk=> ?_,λnk7=>⟨λhk=> ?_,λnk6=>⟨λhk=> ?_,λnk8=>⟨λhk=> ?_,λnk9=>⟨λhk=> ?_,λnk10=> ?_⟩⟩⟩⟩⟩⟩⟩⟩⟩
 ·have hk:=aB hk;simp only [hk,Int.reduceEq,if_true,if_false,reduceIte] at hfl;rw [hfl] at h3;refine⟨⟨c,day,fin,f,h⟩,⟨by simp,eV,trivial,okx _,(j3 h3).1⟩,λho=>⟨rfl,λ_=>⟨rfl,λ_=>⟨rfl,λ_=>⟨rfl,λ_=> ?_⟩⟩⟩⟩,λ_=>trivial⟩;have hr:valM c.x day f h = .ok (getM [] (valM c.x day f h)):=qP ho;have hr2:=Jc hr;refine⟨⟨day,c.src,c.dst,c.name,getM [] (valM c.x day f h)⟩,⟨by simp,(Zg hr2).2.2,?_⟩,⟨(),trivial⟩,λ_ _=> ?_⟩
  ·show List.length (getM [] (valM c.x day f h))<_;have:=jL hr2;omega
  ·refine ret (payF day c.src c.dst c.name (getM [] (valM c.x day f h))) _ _ _ _ _ _ _ ?_ rfl (za _ _ _);rw [hfl,hr];rfl
 ·have hk:=aB hk;simp only [hk,j7] at hnb;have hl:c.sub.length=2:=by simp at hnb; omega
  simp only [hk,Int.reduceEq,if_true,if_false,reduceIte] at hfl;rw [hfl] at h3;obtain⟨s1,s2⟩:=j3 h3;refine⟨(⟨c,day,fin,f,h⟩,false),⟨by simp,eH,trivial,by show 0<c.sub.length; omega,(kidG 0 _ _ (by omega)).1,(kidG 0 day fin (by omega)).2,s1⟩,λho=> ?_,λ_=>trivial⟩;have hr:flM f h (c.sub.getD 0 Con.nil) day fin = .ok (getM [] (flM f h (c.sub.getD 0 Con.nil) day fin)):=qP ho;obtain⟨s3,s4⟩:=j3 (s2 _ hr);refine⟨(⟨c,day,fin,f,h⟩,true),⟨by simp,eH,trivial,by show 1<c.sub.length; omega,(kidG 1 _ _ (by omega)).1,(kidG 1 day fin (by omega)).2,s3⟩,λho2=> ?_,λ_=>trivial⟩;have hr2:flM f h (c.sub.getD 1 Con.nil) day fin = .ok (getM [] (flM f h (c.sub.getD 1 Con.nil) day fin)):=qP ho2;have l1:=(W7 _ hr).1;have l2:=(W7 _ hr2).1;have n1:(c.sub.getD 0 Con.nil).nodes<2^20:=(kidG 0 day fin (by omega)).1.2.2.1;have n2:(c.sub.getD 1 Con.nil).nodes<2^20:=(kidG 1 day fin (by omega)).1.2.2.1;refine⟨⟨trivial,aJ _,?_⟩,λ_=> ?_⟩
  ·show((getM [] (flM f h (c.sub.getD 0 Con.nil) day fin)).length+(getM [] (flM f h (c.sub.getD 1 Con.nil) day fin)).length)*72<=_;omega
  ·refine ret (getM [] (flM f h (c.sub.getD 0 Con.nil) day fin)++getM [] (flM f h (c.sub.getD 1 Con.nil) day fin)) _ _ _ _ _ _ _ ?_ (by rw [bO]; rfl) ?_
   ·rw [hfl,hr,hr2]; rfl
   ·intro j k hj hk;show appG (getM [] (flM f h (c.sub.getD 0 Con.nil) day fin)).length (flG (getM [] (flM f h (c.sub.getD 0 Con.nil) day fin))) (zg (flG (getM [] (flM f h (c.sub.getD 1 Con.nil) day fin))) 0) j k=_;have:=Je (o:=getM [] (flM f h (c.sub.getD 0 Con.nil) day fin)) (a:=getM [] (flM f h (c.sub.getD 1 Con.nil) day fin)) rfl rfl j k hj hk;rw [<- this];simp only [appG,zg,Nat.zero_add]
 ·have hk:=aB hk;simp only [hk,j7] at hnb;have hl:c.sub.length=1:=by simp at hnb; omega
  simp only [hk,Int.reduceEq,if_true,if_false,reduceIte] at hfl;rw [hfl] at h3;obtain⟨s1,s2⟩:=j3 h3;refine⟨⟨c,day,fin,f,h⟩,⟨by simp,eV,trivial,okx _,s1⟩,λho=> ?_,λ_=>trivial⟩;have hr:valM c.x day f h = .ok (getM [] (valM c.x day f h)):=qP ho;obtain⟨s3,s4⟩:=j3 (s2 _ hr);refine⟨(⟨c,day,fin,f,h⟩,false),⟨by simp,eH,trivial,by show 0<c.sub.length; omega,(kidG 0 _ _ (by omega)).1,(kidG 0 day fin (by omega)).2,s3⟩,λho2=> ?_,λ_=>trivial⟩;have hr2:flM f h (c.sub.getD 0 Con.nil) day fin = .ok (getM [] (flM f h (c.sub.getD 0 Con.nil) day fin)):=qP ho2;have s5:=s4 _ hr2;have n1:(c.sub.getD 0 Con.nil).nodes<2^20:=(kidG 0 day fin (by omega)).1.2.2.1;obtain⟨l1,l2⟩:=W7 _ hr2;have hr3:=Jc hr;rw [hr,hr2] at hfl;show qt Xp none prog f70 O 0 w0 I0 (λ_ _ _=>False) (RetR (flC FI.G (n+1) Xp) 0 (upQ Q)) (.code (.loop (lps K70 0).1)::(lps K70 0).2) (mk f70.ntmps [(13,.str (getM [] (valM c.x day f h))),(14,.nils),(50,.osl 4 5 0 (getM [] (flM f h (c.sub.getD 0 Con.nil) day fin)).length),(51,.i ((getM [] (flM f h (c.sub.getD 0 Con.nil) day fin)).length:Int)),(52,.i 0)] [.box c.zd,.box [.i day],.box [.i fin],.box [.sl f.length 3 (fxG f),.sl h.length 4 (chG h)],.arr (getM [] (flM f h (c.sub.getD 0 Con.nil) day fin)).length 5 (flG (getM [] (flM f h (c.sub.getD 0 Con.nil) day fin)))]);change flM f h c day fin=ja (getM [] (valM c.x day f h)) (getM [] (flM f h (c.sub.getD 0 Con.nil) day fin)) at hfl;generalize getM [] (flM f h (c.sub.getD 0 Con.nil) day fin)=u at hfl s5 l1 l2 ⊢;generalize getM [] (valM c.x day f h)=r at hfl s5 hr3 ⊢;exact zbt ih hfl s5 (by omega) l2 hr3 hQ
 ·have hk:=aB hk;simp only [hk,j7] at hnb;have hl:c.sub.length=2:=by simp at hnb; omega
  simp only [hk,Int.reduceEq,if_true,if_false,reduceIte] at hfl;rw [hfl] at h3;obtain⟨s1,s2⟩:=j3 h3;refine⟨(⟨c,day,fin,f,h⟩,day),⟨by simp,eT,trivial,okx _,s1⟩,λho=> ?_,λ_=>trivial⟩;have hr:holM c.x day f h = .ok (getM false (holM c.x day f h)):=qP ho;have s3:=s2 _ hr;have eb:(if getM false (holM c.x day f h)=true then 0 else 1)=(!getM false (holM c.x day f h)).toNat:=by cases getM false (holM c.x day f h)<;>rfl
  have hb:(!getM false (holM c.x day f h)).toNat<c.sub.length:=by rw [hl]; cases getM false (holM c.x day f h)<;>decide
  rw [eb] at s3;refine⟨(⟨c,day,fin,f,h⟩,!getM false (holM c.x day f h)),⟨by simp,eH,trivial,hb,(kidG _ _ _ hb).1,(kidG _ day fin hb).2,s3⟩,λho2=> ?_,λ_=>trivial⟩;have hr2:=qP (d:=[]) ho2;refine ret _ _ _ _ _ _ _ _ ?_ rfl (za _ _ _);rw [hfl,hr];show flM f h (c.sub.getD (if getM false (holM c.x day f h)=true then 0 else 1) Con.nil) day fin=_;rw [eb];exact hr2
 ·have hk:=aB hk;simp only [hk,j7] at hnb;have hl:c.sub.length=2:=by simp at hnb; omega
  simp only [hk,Int.reduceEq,if_true,if_false,reduceIte] at hfl;rw [hfl] at h3;refine⟨(⟨c,day,fin,f,h⟩,day),⟨by simp,eC,trivial,hhl⟩,⟨(),trivial⟩,λ_ _=> ?_⟩;have eb:(if qc h c.src c.name day=true then 0 else 1)=(!qc h c.src c.name day).toNat:=by cases qc h c.src c.name day<;>rfl
  have hb:(!qc h c.src c.name day).toNat<c.sub.length:=by rw [hl]; cases qc h c.src c.name day<;>decide
  rw [eb] at h3 hfl;refine⟨(⟨c,day,fin,f,h⟩,!qc h c.src c.name day),⟨by simp,eH,trivial,hb,(kidG _ _ _ hb).1,(kidG _ day fin hb).2,h3⟩,λho2=> ?_,λ_=>trivial⟩;have hr2:=qP (d:=[]) ho2;refine ret _ _ _ _ _ _ _ _ ?_ rfl (za _ _ _);rw [hfl];exact hr2
 ·have hk:=aB hk;simp only [hk,j7] at hnb;have hl:c.sub.length=1:=by simp at hnb; omega
  simp only [hk,Int.reduceEq,if_true,if_false,reduceIte] at hfl;refine⟨λhd=> ?_,λhd=> ?_⟩
  ·rw [aP (aB hd)] at hfl;rw [hfl] at h3;refine⟨⟨by decide,by omega⟩,λ_=>⟨⟨c.sub.getD 0 Con.nil,c.date,fin,f,h⟩,⟨⟨wo _,⟨rfl,rfl⟩,⟨rfl,rfl⟩,eA,trivial⟩,trivial,trivial,(kidG 0 _ _ (by omega)).1,(kidG 0 day fin (by omega)).2,h3⟩,λho2=> ?_,λ_=>trivial⟩⟩;have hr2:=qP (d:=[]) ho2;refine ret _ _ _ _ _ _ _ _ ?_ rfl (za _ _ _);rw [hfl];exact hr2
  ·rw [aO (aC hd)] at hfl;exact nil _ hfl
 ·have hk:=aB hk;simp only [hk,j7] at hnb;have hl:c.sub.length=1:=by simp at hnb; omega
  simp only [hk,Int.reduceEq,if_true,if_false,reduceIte] at hfl;rw [hfl] at h3;obtain⟨s1,s2⟩:=j3 h3;refine⟨⟨by decide,by omega⟩,λ_=>⟨⟨c,day,fin,f,h⟩,⟨⟨zQ c,⟨rfl,rfl⟩,⟨rfl,rfl⟩,by simp,trivial⟩,eC,trivial,hhl,hdl,s1⟩,λho=>⟨⟨⟨rfl,trivial,rfl⟩,⟨rfl,trivial,rfl⟩,trivial⟩,λ_=>⟨⟨rfl,trivial,rfl⟩,λ_=> ?_⟩⟩,λ_=>trivial⟩⟩;have hr:=qP (d:=0) ho;refine⟨⟨c.sub.getD 0 Con.nil,getM 0 (firstM (choT ⟨c,day,fin,f,h⟩) day fin c.days),fin,f,h⟩,⟨⟨wo _,⟨rfl,rfl⟩,⟨rfl,rfl⟩,eA,trivial⟩,trivial,trivial,(kidG 0 _ _ (by omega)).1,(kidG 0 day fin (by omega)).2,s2 _ hr⟩,λho2=> ?_,λ_=>trivial⟩;have hr2:=qP (d:=[]) ho2;refine ret _ _ _ _ _ _ _ _ ?_ rfl (za _ _ _);rw [hfl];have hr':firstM (λt=>.ok (qc h c.src c.name t)) day fin c.days = .ok (getM 0 (firstM (choT ⟨c,day,fin,f,h⟩) day fin c.days)):=hr;rw [hr'];exact hr2
 ·have hk:=aB hk;simp only [hk,j7] at hnb;have hl:c.sub.length=1:=by simp at hnb; omega
  simp only [hk,Int.reduceEq,if_true,if_false,reduceIte] at hfl;rw [hfl] at h3;obtain⟨s1,s2⟩:=j3 h3;refine⟨⟨by decide,by omega⟩,λ_=>⟨⟨c,day,fin,f,h⟩,⟨⟨zQ c,⟨rfl,rfl⟩,⟨rfl,rfl⟩,by simp,trivial⟩,eT,trivial,okx,hdl,s1⟩,λho=>⟨⟨⟨rfl,trivial,rfl⟩,⟨rfl,trivial,rfl⟩,trivial⟩,λ_=>⟨⟨rfl,trivial,rfl⟩,λ_=> ?_⟩⟩,λ_=>trivial⟩⟩;have hr:=qP (d:=0) ho;refine⟨⟨c.sub.getD 0 Con.nil,day,getM 0 (firstM (holT ⟨c,day,fin,f,h⟩) day fin c.days),f,h⟩,⟨⟨wo _,⟨rfl,rfl⟩,⟨rfl,rfl⟩,eA,trivial⟩,trivial,trivial,(kidG 0 _ _ (by omega)).1,(kidG 0 day fin (by omega)).2,s2 _ hr⟩,λho2=> ?_,λ_=>trivial⟩;have hr2:=qP (d:=[]) ho2;refine ret _ _ _ _ _ _ _ _ ?_ rfl (za _ _ _);rw [hfl];have hr':firstM (λt=>holM c.x t f h) day fin c.days = .ok (getM 0 (firstM (holT ⟨c,day,fin,f,h⟩) day fin c.days)):=hr;rw [hr'];exact hr2
 ·have hk:=aB hk;simp only [hk,j7] at hnb;have hl:c.sub.length=1:=by simp at hnb; omega
  simp only [hk,Int.reduceEq,if_true,if_false,reduceIte] at hfl;rw [hfl] at h3;obtain⟨s1,s2⟩:=j3 h3;refine⟨⟨by decide,by omega⟩,λ_=>⟨⟨c,day,fin,f,h⟩,⟨⟨zQ c,⟨rfl,rfl⟩,⟨rfl,rfl⟩,by simp,trivial⟩,eT,trivial,okx,hdl,s1⟩,λho=>⟨⟨⟨rfl,trivial,rfl⟩,⟨rfl,trivial,rfl⟩,trivial⟩,λ_=>⟨⟨rfl,trivial,rfl⟩,λ_=> ?_⟩⟩,λ_=>trivial⟩⟩;have hr:=qP (d:=0) ho;refine⟨⟨c.sub.getD 0 Con.nil,getM 0 (firstM (holT ⟨c,day,fin,f,h⟩) day fin c.days),fin,f,h⟩,⟨⟨wo _,⟨rfl,rfl⟩,⟨rfl,rfl⟩,eA,trivial⟩,trivial,trivial,(kidG 0 _ _ (by omega)).1,(kidG 0 day fin (by omega)).2,s2 _ hr⟩,λho2=> ?_,λ_=>trivial⟩;have hr2:=qP (d:=[]) ho2;refine ret _ _ _ _ _ _ _ _ ?_ rfl (za _ _ _);rw [hfl];have hr':firstM (λt=>holM c.x t f h) day fin c.days = .ok (getM 0 (firstM (holT ⟨c,day,fin,f,h⟩) day fin c.days)):=hr;rw [hr'];exact hr2
 ·refine nil _ ?_;have n2:=aC nk2;have n3:=aC nk3;have n4:=aC nk4;have n5:=aC nk5;have n6:=aC nk6;have n7:=aC nk7;have n8:=aC nk8;have n9:=aC nk9;have n10:=aC nk10;rw [hfl,aO n2,aO n3,aO n4,aO n5,aO n6,aO n7,aO n8,aO n9,aO n10]
theorem zgm(Xp:List PanicEntry->Prop)(n:Nat):zz Xp prog 70 (flC FI.G n Xp):=by
 induction n with
 | zero=>
  intro args hc Q hq _;obtain⟨x,⟨_,_,_,_,h,_⟩,_⟩:=hq;exact absurd h (Nat.not_lt_zero _)
 | succ n ih=>exact za7 ih
def flR(Xp:List PanicEntry->Prop):Ctr:=ctrS (λk:FI=>[k.c.conA,.i k.day,.i k.fin,envA k.f k.h]) (λ_=>[]) (λk=>k.G/\q7 Xp k.val) (λk=>okM k.val) (λk=>(flS (getM [] k.val),[]))
theorem za0(Xp:List PanicEntry->Prop):zz Xp prog 70 (flR Xp):=by
 intro args hc Q hq hf;obtain⟨x,⟨h1,h2,h3,h4,h5⟩,h6⟩:=hq;refine zz.zqc (out':=λk=>flS (getM [] k.val)) (zgm Xp (x.c.nodes+1)) (λk=>LeA.sl rfl λj o _ _=> ?_) args hc Q ⟨x,⟨h1,h2,h3,h4,Nat.lt_succ_self _,h5⟩,h6⟩ hf;simp only [zg,Nat.zero_add];exact LeA.refl _
end Go.Proofs.Tryz
end
section
namespace Go.Sx
variable [Stat]
section
variable {F:Fence} {n:Nat} {P:Program} {ops:Array Oper} {Q Q':Exit->Act->World->Prop}
end
def uK(O:Nat->Prop)(w:World)(I0:List SE)(ctr:Ctr)(hc:Heap)(Q:AV×Heap->Prop)(e:Ending)(w':World):Prop:=
 ∃ v',e = .returned v'/\∃ r hs Z',Q (r,hs)/\Rep (λb=>Own O Z' b\/(ctr.fresh=true/\b<w.heap.size)) w' r Z' v' /\
  HRep (λb=>Own O Z' b\/(ctr.fresh=true/\b<w.heap.size)) w' Z' hs/\Good O w' Z'/\hc.length<=hs.length/\Hold (if ctr.wK=true then(List.range hc.length).drop ctr.pins else []) w I0 w' Z'/\Ext (Mine I0) w (Mine Z') w'
theorem zf5{P:Program}{fn:Func}{ctr:Ctr}{hc:Heap}{Q:AV×Heap->Prop}{O:Nat->Prop}{w:World}{I0:List SE}(hh:I0.length=hc.length)(hfr:ctr.fresh=true->hc=[]) :
  ∀ (st:St) (σ:List SE) (a':Act) (w':World),((resX P st fn.results.toList).holds λrs=>RetR ctr hc.length Q rs st.heap)->Mod O (vP ctr hc) w I0 w' σ st a'->∃ v,(results fn a'.tmps).run P w' = .ok v w'/\uK O w I0 ctr hc Q (.returned v) w':=by
 intro st σ a' w' hR hm;obtain⟨rs,v,h1,⟨M,h2,h3,h4,h5,r0,hs0,hq1,hq2,hq3,h6⟩,h7⟩:=uk hm hR
 let EM:List SE:=M.map λi=>σ.getD i ⟨none,0⟩
 have hMZ:∀ i∈M,i<σ.length:=λi hi=>by rw [hm.hp.len]; exact h3 i hi
 have hget:∀ j:Nat,EM[j]?=(M[j]?).bind λi=>σ[i]?:=by
  intro j;simp only [EM,aN];cases hj:M[j]? with
  | none=>rfl
  | some i=>
   have:=hMZ i (aY hj);simp [this]
 have hnewO:ctr.fresh=true->∀ b,Mine σ b->w.heap.size<=b:=by
  intro hf b hb;have h0:=hfr hf;have hZ0:I0=[]:=by have:=hh; rw [h0] at this; exact aU.1 (by simpa using this)
  obtain⟨i,e,ad,g1,g2,g3⟩:=zx.1 hb;rcases hm.since.ext.grow b (.inr hb) with hx | hx
  ·rcases hx with hx | ⟨e',he',_⟩
   ·exact absurd (g3▸hx) (hm.good.dis i e ad g1 g2)
   ·rw [hZ0] at he'; simp at he'
  ·exact hx
 have X:Exp O w' σ st.heap M EM (λb=>Own O EM b\/(ctr.fresh=true/\b<w.heap.size)):=⟨hm.good,hm.hp,h2,h3,hget,λb hb=>by
  rcases hb with hb | ⟨hf,hb⟩
  ·exact .inl hb
  ·exact .inr λhmn=>by have:=hnewO hf b hmn; omega⟩
 have hor:∀ {p:Prop},(ctr.fresh=true->p)->(∀ b,(Own O EM b\/(ctr.fresh=true/\b<w.heap.size))->Own O σ b)\/p:=by
  intro p hp;cases hf:ctr.fresh with
  | true=>exact .inr (hp hf)
  | false=>
   left;rintro b (hb | ⟨hf',_⟩)
   ·exact X.sub hb
   ·cases hf'
 have hmlen:hc.length<=M.length:=by
  rcases aR M.length hc.length with hlt | hge
  ·have:=h4 M.length hlt;simp at this
  ·exact hge
 refine⟨v,h1,v,rfl,r0,hs0,EM,h6,hq1 _ _ _ _ (xM X (hor λhf=>(h5 hf).1) h7),⟨?_,?_,?_,?_⟩,⟨?_,?_,hm.good.stat.own λb hb=>hb.imp id λ⟨e,he,ad,h1,h2⟩=>by
  obtain⟨j,hj⟩:=List.mem_iff_getElem?.1 he;obtain⟨i,_,g2⟩:=X.get' hj;exact⟨e,aY g2,ad,h1,h2⟩⟩,by omega,?_,?_⟩
 ·simp [EM,hq3]
 ·intro i j e f a b he hf ha hb' hij;obtain⟨i',g1,g2⟩:=X.get' he;obtain⟨j',g3,g4⟩:=X.get' hf;refine hm.hp.inj i' j' e f a b g2 g4 ha hb' ?_;rintro rfl;have g5:=wA h2 g1;have g6:=wA h2 g3;rw [g5] at g6; cases g6; exact hij rfl
 ·intro i e a he ha;obtain⟨i',g1,g2⟩:=X.get' he;exact hm.hp.lt i' e a g2 ha
 ·intro j e b he hb';obtain⟨i,g1,g2⟩:=X.get' he;have hb2:(expH st.heap M)[j]?=some (expB st.heap M (st.heap.getD i .dead)):=by simp only [expH,aN,g1,Option.map_some]
  refine(hq2.elim (λhq2=>LeB.of_eq (yF hq2 hb2 hb')) λhq2=>Wh hq2 hb2 hb') _ _ _ _ ?_;have hlt:=h3 i (aY g1);have hgd:st.heap.getD i .dead=st.heap[i]:=by simp [hlt]
  have hbr:=hm.hp.blk i e _ g2 (aF hlt);rw [<- hgd] at hbr;exact Vk X (hor λhf=>(h5 hf).2 i (aY g1)) hbr
 ·exact hm.good.old
 ·intro i e ad he had;obtain⟨i',g1,g2⟩:=X.get' he;exact hm.good.dis i' e ad g2 had
 ·cases hmv:ctr.wK with
  | true=>
   intro i e he hi;have hlt:=(aG.1 he).1;rw [hh] at hlt
   have hip:i<ctr.pins:=by
    refine bM λg=>hi ?_
    rw [aP rfl];refine List.mem_iff_getElem?.2 ⟨i - ctr.pins,?_⟩;rw [List.getElem?_drop,show ctr.pins+(i - ctr.pins)=i by omega];exact List.getElem?_range hlt
   obtain⟨g1,g2⟩:=hm.since.hold i e (by simpa [vP,hmv] using hip) he;exact⟨by rw [hget,h4 i hlt]; exact g1,g2⟩
  | false=>
   intro i e he _;have hlt:=(aG.1 he).1;rw [hh] at hlt;obtain⟨g1,g2⟩:=hm.since.hold i e (by simpa [vP,hmv] using hlt) he;exact⟨by rw [hget,h4 i hlt]; exact g1,g2⟩
 ·refine⟨hm.since.ext.os,hm.since.ext.tape,hm.since.ext.output,hm.since.ext.size,λb hb' hno=> ?_,λb hb'=> ?_⟩
  ·by_cases hOb:O b
   ·exact hm.since.wg b hOb hb'
   ·exact hm.since.ext.keep b hb' (λhx=>by rcases hx with hx | hx; exact hOb hx; exact hno hx)
  ·rcases X.sub (.inr hb') with hx | hx
   ·obtain⟨j,e,ad,g1,g2,g3⟩:=zx.1 hb';obtain⟨i,_,g4⟩:=X.get' g1;exact absurd (g3▸hx) (hm.good.dis i e ad g4 g2)
   ·obtain⟨i,e,ad,g1,g2,g3⟩:=zx.1 hx;rcases hm.since.ext.grow b (.inr hx) with hy | hy
    ·rcases hy with hy | hy
     ·exact absurd (g3▸hy) (hm.good.dis i e ad g1 g2)
     ·exact .inl hy
    ·exact .inr hy
theorem we{M:Option Nat}{P:Program}{H:Nat->Act->World->Prop}{B B':Exit->Act->World->Prop}(hB:∀ e a w,B e a w->B' e a w):∀ {k:List Item} {e:Exit} {a:Act} {w:World},wpK M P H B k e a w->wpK M P H B' k e a w
 | [],e,a,w,h=>hB _ _ _ h
 | .code c::k,e,a,w,h=>by
  cases e with
  | normal=>exact wpIn_mono h λe a w h=>we hB h
  | _=>exact we (k:=k) hB h
 | .inBlock id::k,e,a,w,h=>by
  cases e with
  | normal=>exact we (k:=k) hB h
  | exit i=>
   simp only [wpK] at h ⊢;split at h
   ·rename_i hi; rw [aP hi]; exact we hB h
   ·rename_i hi; rw [aO hi]; exact we hB h
  | _=>exact we (k:=k) hB h
 | .inLoop::k,e,a,w,h=>by
  cases e with
  | normal=>exact h
  | _=>exact we (k:=k) hB h
theorem door{P:Program}{fn:Func}{g:Nat}{c:Code}{ctr:Ctr}(hf:P.funcs[g]?=some fn)(hb:fn.body=some c) (hn:(fn.name == "runtime.NumGoroutine")=false)
  {args:List AV} {hc:Heap} {Q:AV×Heap->Prop} (hfr:ctr.fresh=true->hc=[]) {ι:Type} (S:ι->KV) (H:ι->Heap) (n m:Nat) (hfl:((jF n c).take m).all QA=true) (hd:j0 ((jF n c).drop m)=0)
  (h1:∀ (O:Nat->Prop) (w0:World) (I0:List SE),I0.length=hc.length->zb P fn O (vP ctr hc) w0 I0 (λ_ kv h=>∃ x,LeK (vP ctr hc) fn.ntmps kv h (S x) (H x)) (RetR ctr hc.length Q) ((jF n c).take m++.inLoop::(jF n c).drop m) (wR fn args hc))
  (h2:∀ (x:ι) (O:Nat->Prop) (w0:World) (I0:List SE) (w:World) (σ:List SE) (a:Act),I0.length=hc.length->Mod O (vP ctr hc) w0 I0 w σ (mk fn.ntmps (S x) (H x)) a ->
   wpK none P (λ_ _ _=>False) (bodyPostM Fence.wide 0 P fn (uK O w0 I0 ctr hc Q)) ((jF n c).drop m) .normal a w):jd P g ctr args hc Q:=by
 intro O w I0 vals hg hh hr;left;have hn':¬ fn.name = "runtime.NumGoroutine" :=by simpa using hn
 refine⟨by simp [callFunc,hf,hn',hb],?_⟩;refine callsIn_wide.1 (callsIn_of_wp_marks (F:=Fence.wide) (n:=0) (R:=uK O w I0 ctr hc Q) hf hb trivial ?_);show wpK none P (λ_ _ _=>False) (bodyPostM Fence.wide 0 P fn (uK O w I0 ctr hc Q)) [.code c] .normal _ w;refine Qo n c [] _ w ?_;rw [List.append_nil,<- bU m (jF n c)];refine kU (H':=λd a w'=>∃ st σ,(∃ kv h,(∃ x,LeK (vP ctr hc) fn.ntmps kv h (S x) (H x))/\st=mk fn.ntmps kv h)/\Mod O (vP ctr hc) w I0 w' σ st a) ?_ ?_ _ hfl .normal _ w (we ?_ (h1 O w I0 hh.len w I0 _ (VA hg hh hr)))
 ·rintro a w1 ⟨st,σ,⟨kv,h,⟨x,hle⟩,rfl⟩,hm⟩;exact h2 x O w I0 w1 _ a hh.len (hle.le.mod hm)
 ·intro d a w1 hlt;rw [hd] at hlt;omega
 ·intro e a1 w1 h
  have hend:∀ (st:St) (σ:List SE),((resX P st fn.results.toList).holds λrs=>RetR ctr hc.length Q rs st.heap)->Mod O (vP ctr hc) w I0 w1 σ st a1->LeavesInM Fence.wide 0 P fn a1.tmps (uK O w I0 ctr hc Q) a1.defers .returning w1:=by
   intro st σ hR hm;refine vV a1.defers w1 hm λw' hm'=> ?_
   obtain⟨v,h1,h2⟩:=zf5 hh.len hfr st σ _ _ hR hm';exact⟨v,h1,h2⟩
  rcases h with ⟨rfl | rfl,st,σ,hR,hm⟩ | ⟨ch,_,h,_⟩
  ·exact hend st σ hR hm
  ·exact hend st σ hR hm
  ·exact h.elim
structure Kept(w w':World):Prop where
 os:w'.os=w.os
 tape:w'.tape=w.tape
 output:w'.output=w.output
 size:w.heap.size<=w'.heap.size
 keep:∀ b,b<w.heap.size->w'.heap[b]?=w.heap[b]?
theorem Kept.of{w w':World}{p:Nat->Prop}(h:Ext (Mine []) w p w'):Kept w w':=⟨h.os,h.tape,h.output,h.size,λb hb=>h.keep b hb λhm=>by obtain⟨_,he,_⟩:=hm; simp at he⟩
theorem Kept.ext{w w':World}(h:Kept w w')(own:Nat->Prop):Ext own w own w':=⟨h.os,h.tape,h.output,h.size,λb hb _=>h.keep b hb,λb hb=>.inl hb⟩
theorem Kept.hold{w w':World}(h:Kept w w')(K:List Nat)(σ:List SE):Hold K w σ w' σ:=λi e he _=>⟨he,λad had cs el hcs=>⟨cs,el,by rw [h.keep _ (aQ.1 hcs).1]; exact hcs,rfl⟩⟩
theorem Kept.good{O:Nat->Prop}{w w':World}{σ:List SE}(h:Kept w w')(hg:Good O w σ):Good O w' σ:=⟨λb hb=>bB (hg.old b hb) h.size,hg.dis,hg.stat.ext (h.ext _)⟩
theorem Kept.rep{own:Nat->Prop}{w w':World}{σ:List SE}{a:AV}{v:Value}(h:Kept w w')(hr:Rep own w a σ v):Rep own w' a σ v:=zO (h.ext own) (h.hold [] σ) a v (qO a) hr
theorem Kept.hrep{own:Nat->Prop}{w w':World}{σ:List SE}{hp:Heap}(h:Kept w w')(hh:HRep own w σ hp):HRep own w' σ hp:=
 ⟨hh.len,hh.inj,λi e a he ha=>bB (hh.lt i e a he ha) h.size,λi e b he hb=>by
  have:=ji (K:=[]) (h.ext own) (h.hold [] σ) (hh.blk i e b he hb) λad had=>h.keep _ (hh.lt i e ad he had)
  rwa [js] at this⟩
theorem Kept.trans{w1 w2 w3:World}(h:Kept w1 w2)(k:Kept w2 w3):Kept w1 w3:=⟨k.os.trans h.os,k.tape.trans h.tape,k.output.trans h.output,bP h.size k.size,λb hb=>(k.keep b (bB hb h.size)).trans (h.keep b hb)⟩
theorem Kept.alloc(w:World)(o:Obj):Kept w (w.alloc o):=⟨rfl,rfl,rfl,by show _<=(w.heap.push o).size; simp,λb hb=>by
 show(w.heap.push o)[b]?=_;rw [Array.getElem?_push,aO (Nat.ne_of_lt hb)]⟩
theorem ZY{Xp:List PanicEntry->Prop}{P:Program}{g:Nat}{c:Ctr}{args:List AV}{r:AV}{O:Nat->Prop}{w:World}{σ:List SE}{vals:List Value}(hc:zz Xp P g c)(hq:(c.spec args []).holds λp=>p=(r,[])\/p=(.bot,[]))(hg:Good O w σ){hp:Heap}(hh:HRep (Own O σ) w σ hp)(hr:RepL (Own O σ) w args [] vals) :
  qC Xp (Kept w) P g vals.toArray w λv w'=>Kept w w'/\Rep (Own O σ) w' r [] v:=by
 have hO:∀ b,Own (Own O σ) [] b->Own O σ b:=λb hb=>hb.elim id λ⟨e,he,_⟩=>by simp at he
 have hg':Good (Own O σ) w []:=⟨?_,λi e ad he=>by simp at he,hg.stat.own hO⟩
 ·refine qC.map (λw' h=>Kept.of h) ?_ (hc args [] _ hq (λ_=>rfl) (Own O σ) w [] vals hg' ⟨rfl,λi j e f a b he=>by simp at he,λi e a he=>by simp at he,λi e b he=>by simp at he⟩ (qT (K:=[]) ⟨rfl,rfl,rfl,aJ _,λ_ _ _=>rfl,λb hb=>.inl (hO b hb)⟩ (λi e he=>by simp at he) _ _ (wq _) hr));rintro v w' ⟨r',hs,Z',h1,h2,h3,h4,h5,h6,h7⟩;rcases h1 with h1 | h1
  ·cases h1;have hZ:Z'=[]:=aU.1 h3.len;subst hZ;exact⟨Kept.of h7,jQ (λb hb=>.inl (.inl hb)) h2⟩
  ·cases h1;exact h2.elim
 ·intro b hb;rcases hb with hb | ⟨e,he,ad,h1,rfl⟩
  ·exact hg.old b hb
  ·obtain⟨i,hi⟩:=List.mem_iff_getElem?.1 he;exact hh.lt i e ad hi h1
theorem LeA.tup{l m:List AV}(h:LeL l m):LeA (.tup l) (.tup m):=by
 intro own w σ v hr;simp only [Rep] at hr ⊢;obtain⟨vs,hv,hr⟩:=hr;exact⟨vs,hv,h.rep hr⟩
section
variable {P:Program} {ops:Array Oper} {rest:List Oper} {o:Oper} {a:Act} {w w':World} {Q:Exit->Act->World->Prop}
theorem UK{v:Value}(hg:o.guard=none)(hd:∀ c,o.op≠.defer c)(hrun:(execOp a.eval o).run P w = .ok (.value v) w')(h:wpListIn Fence.wide 0 P ops Q rest (a.put o.dst v) w'):wpListIn Fence.wide 0 P ops Q (o::rest) a w:=
 wpListIn_plain hg λK hK=>jT (M:=none) hd (by unfold Oper.wp; rw [hrun]; exact hK _ _ h)
theorem step_skip(hg:o.guard=none)(hd:∀ c,o.op≠.defer c)(hrun:(execOp a.eval o).run P w = .ok .skip w')(h:wpListIn Fence.wide 0 P ops Q rest (a.put o.dst undef) w'):wpListIn Fence.wide 0 P ops Q (o::rest) a w:=
 wpListIn_plain hg λK hK=>jT (M:=none) hd (by unfold Oper.wp; rw [hrun]; exact hK _ _ h)
theorem Kf{x:Operand}(hg:o.guard=none)(ho:o.op = .move x)(h:wpListIn Fence.wide 0 P ops Q rest (a.put o.dst (a.eval x)) w):wpListIn Fence.wide 0 P ops Q (o::rest) a w:=
 UK hg (by simp [ho]) (by simp only [execOp,ho]; rfl) h
theorem K4{O:Nat->Prop}{σ:List SE}{hp:Heap}{t:TypeId}{x:Operand}{p r:AV}(hh:HRep (Own O σ) w σ hp)(hg:o.guard=none)(ho:o.op = .load t x)(hx:Rep (Own O σ) w p σ (a.eval x))(hq:Zl P hp t p = .leaf r)
  (h:∀ v,Rep (Own O σ) w r σ v->wpListIn Fence.wide 0 P ops Q rest (a.put o.dst v) w):wpListIn Fence.wide 0 P ops Q (o::rest) a w:=by
 obtain⟨r',v,h1,h2,h3⟩:=uI (P:=P) hh hx (Q:=(· = r)) (by rw [hq]; exact rfl);subst h2;refine UK hg (by simp [ho]) ?_ (h v h3);simp only [execOp,ho,Sem.run_bind,h1,Result.andThen_ok,Sem.run_pure]
theorem Vm{O:Nat->Prop}{σ:List SE}{hp:Heap}{t:TypeId}{x y:Operand}{i:Nat}{c r:AV}(hgd:Good O w σ)(hh:HRep (Own O σ) w σ hp)(hg:o.guard=none)(ho:o.op = .store t x y)(hx:Rep (Own O σ) w (.ptr i 0) σ (a.eval x))(hb:hp[i]?=some (.box [c]))(hn:qg P t=some 1)(hy:Rep (Own O σ) w r σ (a.eval y))(hc:cellsOf r=some [r])(h1:oneA r=true)
  (h:∀ w',Post O w σ hp ⟨.undef,[(i,.box [r])],[]⟩ undef w' σ->wpListIn Fence.wide 0 P ops Q rest (a.put o.dst undef) w'):wpListIn Fence.wide 0 P ops Q (o::rest) a w:=by
 obtain⟨w',h2,h3⟩:=xd (P:=P) hgd hh hx hb hn (qi hc hy) rfl (aJ _) (by simp [h1]);refine step_skip hg (by simp [ho]) ?_ (h w' h3);simp only [execOp,ho,Sem.run_bind,h2,Result.andThen_ok,Sem.run_pure]
theorem VZ{Xp:List PanicEntry->Prop}{D:World->Prop}{R:Value->World->Prop}{c:Call}{f:Operand}{g:Nat}(hg:o.guard=none)(ho:o.op = .call c)(hc:c.callee = .value f)(hf:a.eval f = .func (.func g) #[] #[])(h:qC Xp D P g (c.args.toList.map a.eval).toArray w R)
  (hK:∀ v w',R v w'->wpListIn Fence.wide 0 P ops Q rest (a.put o.dst v) w') (hP:∀ ch w',Xp ch->D w'->Q (.panic ch) a w'):wpListIn Fence.wide 0 P ops Q (o::rest) a w:=
 wpListIn_plain hg λK hKK=>jT (M:=none) (by simp [ho]) (by
  have hcall:(execOp a.eval o).run P w=(callFunc g (c.args.toList.map a.eval).toArray).run P w:=by
   obtain⟨callee,args,ats⟩:=c;simp only at hc;subst hc;simp only [execOp,ho,resolve,hf,Deferred.ofValue,Sem.run_bind,Sem.run_pure,Result.andThen_ok,invoke];congr 2;simp [<- Array.toList_inj]
  unfold Oper.wp;rcases h with ⟨h3,h4⟩ | ⟨v,w',h3,h4⟩
  ·rw [hcall,h3];refine h4.mono λe w' he=> ?_
   rcases he with ⟨v,he,hR⟩ | ⟨ch,he,h5,h6⟩
   ·subst he; exact hKK _ _ (hK _ _ hR)
   ·subst he; exact hP ch w' h5 h6
  ·rw [hcall,h3];exact hKK _ _ (hK _ _ h4))
theorem step_defer{c:Call}{f:Operand}{g:Nat}(hg:o.guard=none)(ho:o.op = .defer c)(hdst:o.dst=none)(hc:c.callee = .value f)(hf:a.eval f = .func (.func g) #[] #[])
  (h:wpListIn Fence.wide 0 P ops Q rest { a with defers:={ target:=.fn (.func g) #[],args:=(c.args.toList.map a.eval).toArray } :: a.defers } w):wpListIn Fence.wide 0 P ops Q (o::rest) a w:=
 wpListIn_plain hg λK hKK=>by
  obtain⟨callee,args,ats⟩:=c;simp only at hc;subst hc;refine⟨λf _=>trivial,?_⟩
  have:(Oper.semAt Fence.wide.round a.eval o).run P w = .ok (.defer { target:=.fn (.func g) #[],args:=(args.toList.map a.eval).toArray }) w:=by
   show(execOp a.eval o).run P w=_;simp only [execOp,ho,resolve,hf,Deferred.ofValue,Sem.run_bind,Sem.run_pure,Result.andThen_ok];congr 3;simp [<- Array.toList_inj]
  rw [this];simp only [Oper.uponIn,hdst];exact hKK _ _ h
theorem JI{t:TypeId}{b:Nat}{old v:Value}(hn:qg P t=some 1)(hv:v.cells = #[v])(hc:w.cell? ⟨b,0,none⟩=some old)(hz:w.frozen? ⟨b,0,none⟩=false)(h1:v.oneCell'=true) :
  (Instr.storeAt t (.pointer (some ⟨b,0,none⟩)) v).run P w = .ok () (w.setCell ⟨b,0,none⟩ v):=by
 simp only [Instr.storeAt,Instr.sureAddr,Sem.run_bind,Sem.run_pure,Result.andThen_ok,storeVar,zC hn,hv];simp [storeCells,go_sem,hc,hz];rw [run_store _ _ _ _ _ h1,hc];simp [hz]
end
theorem yq{O:Nat->Prop}{w:World}{σ:List SE}{hp:Heap}{i:Nat}{c:AV}{v:Value}(hh:HRep (Own O σ) w σ hp)(hx:Rep (Own O σ) w (.ptr i 0) σ v)(hb:hp[i]?=some (.box [c])) :
  ∃ b u,v = .pointer (some ⟨b,0,none⟩)/\w.cell? ⟨b,0,none⟩=some u/\w.frozen? ⟨b,0,none⟩=false/\Rep (Own O σ) w c σ u/\∃ e ad,σ[i]?=some e/\e.ad=some ad/\ad.block=b:=by
 simp only [Rep] at hx;obtain⟨e,ad,he,had,rfl⟩:=hx;obtain⟨ad',vs,el,had',h0,hcs,hr⟩:=hh.blk i e _ he hb;rw [had] at had';cases had';simp only [RepL] at hr;obtain⟨u,r,rfl,h1,rfl⟩:=hr;refine⟨ad.block,u,by rw [h0],?_,?_,h1,e,ad,he,had,rfl⟩
 ·simp [World.cell?,hcs]
 ·simp [World.frozen?,hcs]
end Go.Sx
end
section
set_option maxRecDepth 100000
open Go Go.Sx Go.Proofs Go.Nov
namespace Go.Proofs.Tryz
attribute [local simp] eqKV eqA eqA0 eqH eqB eqL eqL0
def FI.pre(k:FI):Prop:=k.c.big<2^40/\k.c.nodes<=1000000/\envP (k.f,k.h)
def vW:Ctr:=ctrP false (λk:FI=>[k.c.conA,.i k.day,.i k.fin,envA k.f k.h]) FI.pre (λk r=>r=befM k.c k.day k.fin k.f k.h) (λ_ (r:List Fl×Int)=>(.tup [flS r.1,.i r.2],[]))
noncomputable def LB:List Go.Sx.Item:=(jF 6 (f37.body.getD .skip)).take 4++.inLoop::(jF 6 (f37.body.getD .skip)).drop 4
noncomputable def GBef:=tb VD (tb ZZ tz)
def SBe(day fin:Int):KV:=[(1,.i day),(2,.i fin),(4,.ptr 0 0),(7,.ptr 1 0),(8,.ptr 2 0),(9,.ptr 3 0)]
def HBe(c:Con)(f:List Fx)(h:List Ch):Heap:=[.box c.zd,.box [fxS f,chS h],.box [.nils],.box [.i 0]]
theorem zi9(c:Con)(day fin:Int)(f:List Fx)(h:List Ch)(hp:FI.pre ⟨c,day,fin,f,h⟩){Q:AV×Heap->Prop}(hq:Q (.tup [flS (befM c day fin f h).1,.i (befM c day fin f h).2],[])){O:Nat->Prop}{w0:World}{I0:List SE} :
  zb prog f37 O 0 w0 I0 (λ_ kv hh=>∃ x:{u:Unit // c.errC=0/\errE f h=0/\0<=day/\day<=99999/\0<=fin/\fin<=100000},LeK 0 f37.ntmps kv hh (SBe day fin) (HBe c f h)) (RetR vW 0 Q) LB (wR f37 [c.conA,.i day,.i fin,envA f h] []):=by
 obtain⟨p1,p2,p3⟩:=hp;simp only at p1 p2 p3;refine zb.n GBef.h [1,2,4,7,8,9] (let v1:List AV:=[.sl f.length 3 (fxG f),.sl h.length 4 (chG h)];.ex (q31 [(Con.conA c)]) λn=>.all (λ(r:Int)=>r=Con.errC n) λn=>.N (n=0) (.R [.nils,.i n] [.box (Con.zd c),.box v1,.box [.nils],.box [.i n]]) (.ex (q50 [.agg [.sl f.length 3 (fxG f),.sl h.length 4 (chG h)]]) λn=>.all (λ(r:Int)=>r=errE n.1 n.2) λn=>.N (n=0) (.R [.nils,.i n] [.box (Con.zd c),.box v1,.box [.nils],.box [.i n]]) (.ite (bif bif bif decide (day<0) then true else decide ((99999:Int)<day) then true else decide (fin<0) then true else decide ((100000:Int)<fin)) (.R [.nils,.i 2] [.box (Con.zd c),.box v1,.box [.nils],.box [.i 2]]) (.leaf (.back 0 [(1,.i day),(2,.i fin),(4,.ptr 0 0),(7,.ptr 1 0),(8,.ptr 2 0),(9,.ptr 3 0)] [.box (Con.zd c),.box v1,.box [.nils],.box [.i 0]]))))) ?_;simp only [q31,q50,Tree.holds,ze,inR,lo,hi,aD]
 have ret:∀ (e:Int) (hs:Heap),befM c day fin f h=([],e)->RetR vW 0 Q [.nils,.i e] hs:=by
  intro e hs he;rw [he] at hq;exact RetR.le0 hq (λh=>by cases h) (LeA.tup ⟨LeA.nils,LeA.refl _,trivial⟩)
 refine⟨c,⟨⟨zQ c,trivial⟩,p1,p2⟩,⟨_,rfl⟩,?_⟩;rintro _ rfl;refine⟨λhe=>ret _ _ ?_,λhe=>⟨(f,h),⟨⟨⟨⟨rfl,rfl,λ_ _ _ _=>rfl⟩,⟨rfl,rfl,λ_ _ _ _=>rfl⟩,trivial⟩,trivial⟩,p3⟩,⟨_,rfl⟩,?_⟩⟩
 ·have he:c.errC≠0:=by simpa using he
  unfold befM; rw [aP he]
 have he:c.errC=0:=by simpa using he
 rintro _ rfl;refine⟨λhE=>ret _ _ ?_,λhE=>⟨λhr=>ret _ _ ?_,λhr=>⟨⟨(),?_⟩,?_⟩⟩⟩
 ·have hE:errE f h≠0:=by simpa using hE
  unfold befM; rw [aO (by simp [he]),aP hE]
 ·have hE:errE f h=0:=by simpa using hE
  have hr:day<0\/99999<day\/fin<0\/100000<fin:=by
   by_cases a:day<0
   ·exact .inl a
   by_cases b:99999<day
   ·exact .inr (.inl b)
   by_cases d:fin<0
   ·exact .inr (.inr (.inl d))
   ·simpa [a,b,d] using hr
  unfold befM; rw [aO (by simp [he]),aO (by simp [hE]),aP hr]
 ·have hE:errE f h=0:=by simpa using hE
  by_cases a:day<0
  ·simp [a] at hr
  by_cases b:99999<day
  ·simp [a,b] at hr
  by_cases d:fin<0
  ·simp [a,b,d] at hr
  by_cases e:100000<fin
  ·simp [a,b,d,e] at hr
  exact⟨he,hE,by omega,by omega,by omega,by omega⟩
 ·exact⟨by simp [SBe],by simp [HBe,za,Con.zd,Con.qI,fxS,chS,Ex.exS,Con.dayS,Con.conS],by kernel_rfl,aI _⟩
noncomputable def LBt:List Go.Sx.Item:=(jF 6 (f37.body.getD .skip)).drop 4
def opsI:Go.Sx.Item->List Oper
 | .code (.region _ ops _)=>ops.toList
 | _=>[]
def zvr:Oper:={ dst:=none,op:=.move (.const undef),type:=0,pos:= "",after:= #[],guard:=none }
noncomputable def opB(r k:Nat):Oper:=(opsI (LBt.getD r .inLoop)).getD k zvr
theorem zua:LBt=[.code (.region 9 #[opB 0 0] false),.code (.region 10 #[opB 1 0,opB 1 1,opB 1 2,opB 1 3,opB 1 4,opB 1 5,opB 1 6,opB 1 7] false),.code .ret]:=by kernel_rfl
theorem opD:(opB 0 0).guard=none/\(opB 0 0).dst=none/\(opB 0 0).op = .defer { callee:=.value (.func 68),args:= #[.tmp 9,.tmp 8],argTypes:= #[112,113] } :=⟨by kernel_rfl,by kernel_rfl,by kernel_rfl⟩
theorem opB0:(opB 1 0).guard=none/\(opB 1 0).dst=some 36/\(opB 1 0).op = .load 31 (.tmp 4):=⟨by kernel_rfl,by kernel_rfl,by kernel_rfl⟩
theorem opB1:(opB 1 1).guard=none/\(opB 1 1).dst=some 37/\(opB 1 1).op = .move (.tmp 1):=⟨by kernel_rfl,by kernel_rfl,by kernel_rfl⟩
theorem opB2:(opB 1 2).guard=none/\(opB 1 2).dst=some 38/\(opB 1 2).op = .move (.tmp 2):=⟨by kernel_rfl,by kernel_rfl,by kernel_rfl⟩
theorem opB3:(opB 1 3).guard=none/\(opB 1 3).dst=some 39/\(opB 1 3).op = .load 35 (.tmp 7):=⟨by kernel_rfl,by kernel_rfl,by kernel_rfl⟩
theorem opB4:(opB 1 4).guard=none/\(opB 1 4).dst=some 40/\(opB 1 4).op = .call { callee:=.value (.func 70),args:= #[.tmp 36,.tmp 37,.tmp 38,.tmp 39],argTypes:= #[31,3,3,35] } :=⟨by kernel_rfl,by kernel_rfl,by kernel_rfl⟩
def argT(o:Oper):Array TypeId:=match o.op with
 | .call c=>c.argTypes
 | _=> #[]
theorem opB5:(opB 1 5).guard=none/\(opB 1 5).dst=some 41/\(opB 1 5).op = .call { callee:=.value (.func 69),args:= #[.tmp 40,.func 71],argTypes:=argT (opB 1 5) } :=⟨by kernel_rfl,by kernel_rfl,by kernel_rfl⟩
theorem opB6:(opB 1 6).guard=none/\(opB 1 6).dst=none/\(opB 1 6).op = .store 46 (.tmp 8) (.tmp 41):=⟨by kernel_rfl,by kernel_rfl,by kernel_rfl⟩
theorem opB7:(opB 1 7).guard=none/\(opB 1 7).dst=none/\(opB 1 7).op = .store 41 (.tmp 9) (.const (.i 0)):=⟨by kernel_rfl,by kernel_rfl,by kernel_rfl⟩
theorem zeq{a:Act}{d t:Nat}{v:Value} : (a.put (some d) v).tmps.getD t undef=if t=d/\d<a.tmps.size then v else a.tmps.getD t undef:=by
 simp only [Act.put,bQ,Array.getElem?_setIfInBounds];by_cases h:d=t
 ·subst h;by_cases h2:d<a.tmps.size
  ·simp [h2]
  ·simp [h2]
 ·rw [aO h,aO (λx=>h x.1.symm)]
theorem size_put{a:Act}{d:Nat}{v:Value} : (a.put (some d) v).tmps.size=a.tmps.size:=by simp [Act.put]
theorem ub{a:Act}{d:Nat}{v:Value}{P:Act->Prop}(h:∀ b:Act,b.defers=a.defers->b.tmps.size=a.tmps.size->(d<a.tmps.size->b.tmps.getD d undef=v)->(∀ t,t≠d->b.tmps.getD t undef=a.tmps.getD t undef)->P b):P (a.put (some d) v):=
 h _ rfl size_put (λhd=>by rw [zeq,aP ⟨rfl,hd⟩]) λt ht=>by rw [zeq,aO (λx=>ht x.1)]
theorem zen{c:Con}{day fin:Int}{f:List Fx}{h:List Ch}{Q:AV×Heap->Prop}(hq:Q (.tup [flS (befM c day fin f h).1,.i (befM c day fin f h).2],[])){O:Nat->Prop}{w0 w:World}{σ:List SE}{a:Act}(hm:Mod O 0 w0 [] w σ (mk f37.ntmps (SBe day fin) (HBe c f h)) a)
  {w4:World} {T:Array Value} {x:AV} {e:Int} (g1:Go.Sx.Good O w4 σ) (g2:HRep (Go.Sx.Own O σ) w4 σ [.box c.zd,.box [fxS f,chS h],.box [x],.box [.i e]]) (g3:Ext (Go.Sx.Own O σ) w (Go.Sx.Own O σ) w4) (g4:∀ b,O b->b<w.heap.size->w4.heap[b]?=w.heap[b]?)
  (g5:T.getD 8 undef=a.tmps.getD 8 undef) (g6:T.getD 9 undef=a.tmps.getD 9 undef) (g7:T.size=a.tmps.size) (hx:x = .nils/\(befM c day fin f h).1=[]\/x=flS (befM c day fin f h).1) (he:e=(befM c day fin f h).2) :
  LeavesInM Fence.wide 0 prog f37 T (uK O w0 [] vW [] Q) a.defers .returning w4:=by
 have hm4:Mod O 0 w0 [] w4 σ (mk f37.ntmps [(8,.ptr 2 0),(9,.ptr 3 0)] [.box c.zd,.box [fxS f,chS h],.box [x],.box [.i e]]) { tmps:=T,defers:=a.defers } :=by
  refine⟨g1,g2,?_,λt=> ?_,hm.df.ext g3,hm.since.trans ⟨g3,g4,λi e hi _=>absurd hi (Nat.not_lt_zero i)⟩,hm.lim⟩
  ·rw [show({ tmps:=T,defers:=a.defers } : Act).tmps=T from rfl,g7,hm.size];simp [mk,pk]
  ·by_cases h8:t=8
   ·subst h8;show Rep (Go.Sx.Own O σ) w4 (.ptr 2 0) σ (T.getD 8 undef);rw [g5];have:Rep (Go.Sx.Own O σ) w (.ptr 2 0) σ (a.tmps.getD 8 undef):=hm.tm 8;simpa only [Rep] using this
   ·by_cases h9:t=9
    ·subst h9;show Rep (Go.Sx.Own O σ) w4 (.ptr 3 0) σ (T.getD 9 undef);rw [g6];have:Rep (Go.Sx.Own O σ) w (.ptr 3 0) σ (a.tmps.getD 9 undef):=hm.tm 9;simpa only [Rep] using this
    ·have:(mk f37.ntmps [(8,.ptr 2 0),(9,.ptr 3 0)] [.box c.zd,.box [fxS f,chS h],.box [x],.box [.i e]]).tmps.getD t .undef = .undef:=by
      simp only [mk];by_cases hlt:t<f37.ntmps
      ·rw [wm hlt]; simp [Go.Sx.look,Ne.symm h8,Ne.symm h9]
      ·have:(pk f37.ntmps [(8,.ptr 2 0),(9,.ptr 3 0)])[t]?=none:=aZ (by simp [pk]; exact Nat.not_lt.1 hlt);rw [List.getD_eq_getElem?_getD,this]; rfl
     rw [this];simp [TRep,Rep]
 refine vV a.defers w4 hm4 λw' hm'=> ?_
 refine zf5 (ctr:=vW) (hc:=[]) rfl (λhh=>by cases hh) _ σ _ _ ?_ hm';subst he;rcases hx with ⟨rfl,hx⟩ | rfl
 ·have e1:resX prog (mk f37.ntmps [(8,.ptr 2 0),(9,.ptr 3 0)] [.box c.zd,.box [fxS f,chS h],.box [.nils],.box [.i (befM c day fin f h).2]]) f37.results.toList = .leaf [.nils,.i (befM c day fin f h).2]:=by kernel_rfl
  rw [e1];rw [hx] at hq;exact RetR.le0 hq (λh=>by cases h) (LeA.tup ⟨LeA.nils,LeA.refl _,trivial⟩)
 ·have e1:resX prog (mk f37.ntmps [(8,.ptr 2 0),(9,.ptr 3 0)] [.box c.zd,.box [fxS f,chS h],.box [flS (befM c day fin f h).1],.box [.i (befM c day fin f h).2]]) f37.results.toList = .leaf [flS (befM c day fin f h).1,.i (befM c day fin f h).2]:=by kernel_rfl
  rw [e1];exact RetR.le0 hq (λh=>by cases h) (LeA.refl _)
def zdd(c:Con)(day fin:Int)(f:List Fx)(h:List Ch)(ch:List PanicEntry):Prop:=∃ x,flM f h c day fin = .error x/\ch=Zx uw x
theorem zkp{c:Con}{day fin:Int}{f:List Fx}{h:List Ch}(hp:FI.pre ⟨c,day,fin,f,h⟩)(hx:c.errC=0/\errE f h=0/\0<=day/\day<=99999/\0<=fin/\fin<=100000){Q:AV×Heap->Prop}(hq:Q (.tup [flS (befM c day fin f h).1,.i (befM c day fin f h).2],[])){O:Nat->Prop}{w0 w:World}{σ:List SE}{a:Act}(hm:Mod O 0 w0 [] w σ (mk f37.ntmps (SBe day fin) (HBe c f h)) a) :
  wpK none prog (λ_ _ _=>False) (bodyPostM Fence.wide 0 prog f37 (uK O w0 [] vW [] Q)) LBt .normal a w:=by
 obtain⟨p1,p2,p3⟩:=hp;obtain⟨x1,x2,x3,x4,x5,x6⟩:=hx;simp only at p1 p2 p3
 have hform:c.form=true/\c.size<=500:=by
  unfold Con.errC at x1;split at x1
  ·cases x1
  ·rename_i hs;split at x1
   ·rename_i hf; exact⟨hf,by omega⟩
   ·cases x1
 have hG:FI.G ⟨c,day,fin,f,h⟩:=⟨hform.1,p1,by have:=Con.ux c; show c.nodes<_; omega,p3⟩
 have hbef:befM c day fin f h=match flM f h c day fin with
  | .error e=>([],e)
  | .ok l=>(ordM l,0):=by
  unfold befM; rw [aO (by simp [x1]),aO (by simp [x2]),aO (by omega)];cases flM f h c day fin<;>rfl
 have sz:a.tmps.size=42:=by rw [hm.size]; simp only [mk,pk,List.length_map,List.length_range]; rfl
 have t1:a.tmps.getD 1 undef = .i day:=hm.tm 1;have t2:a.tmps.getD 2 undef = .i fin:=hm.tm 2;have t4:Rep (Go.Sx.Own O σ) w (.ptr 0 0) σ (a.tmps.getD 4 undef):=hm.tm 4;have t7:Rep (Go.Sx.Own O σ) w (.ptr 1 0) σ (a.tmps.getD 7 undef):=hm.tm 7;have t8:Rep (Go.Sx.Own O σ) w (.ptr 2 0) σ (a.tmps.getD 8 undef):=hm.tm 8;have t9:Rep (Go.Sx.Own O σ) w (.ptr 3 0) σ (a.tmps.getD 9 undef):=hm.tm 9;have hhp:HRep (Go.Sx.Own O σ) w σ (HBe c f h):=hm.hp;rw [zua];simp only [wpK];obtain⟨d1,d2,d3⟩:=opD;refine wpIn_region_list (Go.Sx.step_defer d1 d3 d2 rfl rfl ?_);refine wpListIn_nil ?_;simp only [wpK];obtain⟨bl,ul,hl1,hl2,hl3,hl4,el,adl,hl5,hl6,hl7⟩:=yq hhp t8 rfl;obtain⟨be,ue,he1,he2,he3,he4,ee,ade,he5,he6,he7⟩:=yq hhp t9 rfl
 have hne:be≠bl:=by
  rw [<- he7,<- hl7];exact hhp.inj 3 2 _ _ _ _ he5 hl5 he6 hl6 (by decide)
 have hnl:¬ O bl:=by rw [<- hl7]; exact hm.good.dis 2 _ _ hl5 hl6
 have hne2:¬ O be:=by rw [<- he7]; exact hm.good.dis 3 _ _ he5 he6
 obtain⟨o0g,o0d,o0o⟩:=opB0;obtain⟨o1g,o1d,o1o⟩:=opB1;obtain⟨o2g,o2d,o2o⟩:=opB2;obtain⟨o3g,o3d,o3o⟩:=opB3;obtain⟨o4g,o4d,o4o⟩:=opB4;obtain⟨o5g,o5d,o5o⟩:=opB5;obtain⟨o6g,o6d,o6o⟩:=opB6;obtain⟨o7g,o7d,o7o⟩:=opB7
 have hD:(([.tmp 9,.tmp 8]:List Operand).map a.eval).toArray = #[.pointer (some ⟨be,0,none⟩),.pointer (some ⟨bl,0,none⟩)]:=by
  show #[a.tmps.getD 9 undef,a.tmps.getD 8 undef]=_;rw [hl1,he1]
 refine wpIn_region_list ?_;obtain⟨b0,hb0⟩:∃ b:Act,b={ a with defers:={ target:=.fn (.func 68) #[],args:=(([.tmp 9,.tmp 8]:List Operand).map a.eval).toArray } :: a.defers } :=⟨_,rfl⟩;have s0:b0.tmps=a.tmps:=by rw [hb0]
 have f0:b0.defers={ target:=.fn (.func 68) #[],args:= #[.pointer (some ⟨be,0,none⟩),.pointer (some ⟨bl,0,none⟩)] } :: a.defers:=by rw [hb0,<- hD]
 show wpListIn _ _ _ _ _ _ { a with defers:={ target:=.fn (.func 68) #[],args:=(([.tmp 9,.tmp 8]:List Operand).map a.eval).toArray } :: a.defers } w;rw [<- hb0];clear hb0;show wpListIn Fence.wide 0 _ _ _ [opB 1 0,opB 1 1,opB 1 2,opB 1 3,opB 1 4,opB 1 5,opB 1 6,opB 1 7] b0 w;refine K4 (r:=c.conA) hhp o0g o0o (p:=.ptr 0 0) (by show Rep _ _ _ _ (b0.tmps.getD 4 undef); rw [s0]; exact t4) (by kernel_rfl) λv36 r36=> ?_
 rw [o0d];refine ub (P:=λb=>wpListIn _ _ _ _ _ _ b w) λb1 f1 z1 v1 u1=> ?_
 rw [s0] at z1 v1 u1;refine Kf o1g o1o ?_;rw [o1d,show b1.eval (.tmp 1) = .i day from(u1 1 (by decide)).trans t1];refine ub (P:=λb=>wpListIn _ _ _ _ _ _ b w) λb2 f2 z2 v2 u2=> ?_
 refine Kf o2g o2o ?_;rw [o2d,show b2.eval (.tmp 2) = .i fin from(u2 2 (by decide)).trans ((u1 2 (by decide)).trans t2)];refine ub (P:=λb=>wpListIn _ _ _ _ _ _ b w) λb3 f3 z3 v3 u3=> ?_
 have k7:b3.eval (.tmp 7)=a.tmps.getD 7 undef:=(u3 7 (by decide)).trans ((u2 7 (by decide)).trans (u1 7 (by decide)));refine K4 (r:=envA f h) hhp o3g o3o (p:=.ptr 1 0) (by rw [k7]; exact t7) (by kernel_rfl) λv39 r39=> ?_
 rw [o3d];refine ub (P:=λb=>wpListIn _ _ _ _ _ _ b w) λb4 f4 z4 v4 u4=> ?_
 have k36:b4.eval (.tmp 36)=v36:=(u4 36 (by decide)).trans ((u3 36 (by decide)).trans ((u2 36 (by decide)).trans (v1 (by omega))));have k37:b4.eval (.tmp 37) = .i day:=(u4 37 (by decide)).trans ((u3 37 (by decide)).trans (v2 (by omega)));have k38:b4.eval (.tmp 38) = .i fin:=(u4 38 (by decide)).trans (v3 (by omega));have k39:b4.eval (.tmp 39)=v39:=v4 (by omega);have fb4:b4.defers={ target:=.fn (.func 68) #[],args:= #[.pointer (some ⟨be,0,none⟩),.pointer (some ⟨bl,0,none⟩)] } :: a.defers:=f4.trans (f3.trans (f2.trans (f1.trans f0)));have u8:∀ t,t<36->b4.tmps.getD t undef=a.tmps.getD t undef:=λt ht=>(u4 t (by omega)).trans ((u3 t (by omega)).trans ((u2 t (by omega)).trans (u1 t (by omega))))
 have zb4:b4.tmps.size=a.tmps.size:=z4.trans (z3.trans (z2.trans z1))
 have nil36:Rep (Go.Sx.Own O σ) w c.conA [] v36:=by
  simp only [Con.conA,Ex.exS,Con.dayS,Con.conS,Rep] at r36 ⊢;obtain⟨vs,hv,hr⟩:=r36;exact⟨vs,hv,yR rfl hr⟩
 have nil39:Rep (Go.Sx.Own O σ) w (envA f h) [] v39:=by
  simp only [envA,Rep] at r39 ⊢;obtain⟨vs,hv,hr⟩:=r39;exact⟨vs,hv,yR rfl hr⟩
 refine VZ (Xp:=zdd c day fin f h) (D:=Kept w) (R:=λv w'=>∃ l,flM f h c day fin = .ok l/\Kept w w'/\Rep (Go.Sx.Own O σ) w' (flS l) [] v) o4g o4o rfl rfl ?_ ?_ ?_
 ·show qC _ _ _ _ [b4.eval (.tmp 36),b4.eval (.tmp 37),b4.eval (.tmp 38),b4.eval (.tmp 39)].toArray w _;rw [k36,k37,k38,k39]
  have hr4:RepL (Go.Sx.Own O σ) w [c.conA,.i day,.i fin,envA f h] [] [v36,.i day,.i fin,v39]:=by
   simp only [RepL];exact⟨_,_,rfl,nil36,_,_,rfl,rfl,_,_,rfl,rfl,_,_,rfl,nil39,rfl⟩
  have hst:q7 (zdd c day fin f h) (FI.val ⟨c,day,fin,f,h⟩):=λe he=>⟨e,he,rfl⟩
  have eA:eqA (envA f h) (envA f h):=⟨⟨rfl,rfl,λ_ _ _ _=>rfl⟩,⟨rfl,rfl,λ_ _ _ _=>rfl⟩,trivial⟩;cases hfl:flM f h c day fin with
  | error e=>
   refine qC.map (λ_ h=>h) ?_ (ZY (args:=[c.conA,.i day,.i fin,envA f h]) (r:=.bot) (za0 (zdd c day fin f h)) ⟨⟨c,day,fin,f,h⟩,⟨⟨zQ c,⟨rfl,rfl⟩,⟨rfl,rfl⟩,eA,trivial⟩,trivial,rfl,hG,hst⟩,λho=> ?_,λ_=>.inr rfl⟩ hm.good hhp hr4)
   ·rintro v w' ⟨_,hb⟩;exact hb.elim
   ·have ho:okM (flM f h c day fin)=true:=ho;rw [hfl] at ho; cases ho
  | ok l=>
   refine qC.map (λ_ h=>h) ?_ (ZY (args:=[c.conA,.i day,.i fin,envA f h]) (r:=flS l) (za0 (zdd c day fin f h)) ⟨⟨c,day,fin,f,h⟩,⟨⟨zQ c,⟨rfl,rfl⟩,⟨rfl,rfl⟩,eA,trivial⟩,trivial,rfl,hG,hst⟩,λ_=>.inl ?_,λ_=>.inr rfl⟩ hm.good hhp hr4)
   ·rintro v w' ⟨h1,h2⟩;exact⟨l,rfl,h1,h2⟩
   ·show(flS (getM [] (flM f h c day fin)),[])=_;rw [hfl]; rfl
 ·rintro v40 w1 ⟨l,hfl,k1,r40⟩;rw [o4d];refine ub (P:=λb=>wpListIn _ _ _ _ _ _ b w1) λb5 f5 z5 v5 u5=> ?_
  have g1:=k1.good hm.good;have hh1:=k1.hrep hhp;refine VZ (Xp:=λ_=>False) (D:=Kept w1) (R:=λv w'=>Kept w1 w'/\Rep (Go.Sx.Own O σ) w' (flS (ordM l)) [] v) o5g o5o rfl rfl ?_ ?_ (λ_ _ h=>h.elim)
  ·show qC _ _ _ _ [b5.eval (.tmp 40),.func (.func 71) #[] #[]].toArray w1 _;rw [show b5.eval (.tmp 40)=v40 from v5 (by omega)];refine ZY (args:=[flS l,.fn 71 [] []]) (r:=flS (ordM l)) (zt2).x ⟨l,⟨⟨⟨rfl,rfl,λ_ _ _ _=>rfl⟩,rfl,trivial⟩,?_⟩,⟨(),trivial⟩,λ_ _=>.inl rfl⟩ g1 hh1 ?_
   ·have:=(W7 c hfl).1;have:=Con.ux c;show l.length<_;omega
   ·simp only [RepL];exact⟨_,_,rfl,r40,_,_,rfl,⟨[],[],rfl,rfl,rfl⟩,rfl⟩
  ·rintro v41 w2 ⟨k2,r41⟩;rw [o5d];refine ub (P:=λb=>wpListIn _ _ _ _ _ _ b w2) λb6 f6 z6 v6 u6=> ?_
   have u68:∀ t,t<36->b6.tmps.getD t undef=a.tmps.getD t undef:=λt ht=>(u6 t (by omega)).trans ((u5 t (by omega)).trans (u8 t ht))
   have g2:=k2.good g1;have hh2:=k2.hrep hh1;have k12:=k1.trans k2;refine Vm (i:=2) (c:=.nils) (r:=flS (ordM l)) g2 hh2 o6g o6o (by show Rep _ _ _ _ (b6.tmps.getD 8 undef); rw [u68 8 (by decide)]; exact k12.rep t8) rfl (by kernel_rfl) (by rw [show b6.eval (.tmp 41)=v41 from v6 (by omega)]; exact Rep.any r41 σ) rfl rfl λw3 P3=> ?_
   rw [o6d]
   refine Vm (i:=3) (c:=.i 0) (r:=.i 0) P3.good P3.hp o7g o7o (by
    show Rep _ _ _ _ (b6.tmps.getD 9 undef);rw [u68 9 (by decide)];exact zO (K:=[]) P3.ext P3.hold _ _ (qO _) (k12.rep t9)) rfl (by kernel_rfl) rfl rfl rfl λw4 P4=> ?_
   rw [o7d];refine wpListIn_nil ?_;show Code.ret.wpIn (FM none) 0 _ _ _ w4;refine wpIn_ret ?_;show LeavesInM _ _ _ _ b6.tmps _ b6.defers .returning w4;rw [f6.trans (f5.trans fb4)];refine⟨by simp,.inr ⟨λhh=>(by cases hh),.func 68,#[],68,#[.pointer (some ⟨be,0,none⟩),.pointer (some ⟨bl,0,none⟩)],rfl,?_,λ_ _=>trivial,?_⟩⟩
   ·simp [go_sem]
   ·refine(YS ⟨be,0,none⟩ ⟨bl,0,none⟩ w4).mono ?_;rintro e u' w5 ⟨rfl,rfl,rfl⟩;show LeavesInM _ _ _ _ _ _ _ .returning _;refine zen hq hm (x:=flS (ordM l)) (e:=0) P4.good P4.hp ((k12.ext _).trans (P3.ext.trans P4.ext)) (λb hO hb=> ?_) (u68 8 (by decide)) (u68 9 (by decide)) ?_ (.inr ?_) ?_
    ·have h2:b<w2.heap.size:=bB hb k12.size;rw [P4.wg b hO (bB h2 P3.ext.size),P3.wg b hO h2,k12.keep b hb]
    ·rw [z6,z5,zb4]
    ·rw [hbef,hfl]
    ·rw [hbef,hfl]
 ·rintro ch w1 ⟨x,hfl,rfl⟩ k1;have g1:=k1.good hm.good;have hh1:=k1.hrep hhp;have t8':=k1.rep t8;have t9':=k1.rep t9;show LeavesInM _ _ _ _ b4.tmps _ b4.defers (.panicking (Zx uw x)) w1;rw [fb4];refine⟨by simp,.inr ⟨λhh=>(by cases hh),.func 68,#[],68,#[.pointer (some ⟨be,0,none⟩),.pointer (some ⟨bl,0,none⟩)],rfl,?_,λ_ _=>trivial,?_⟩⟩
  ·simp [go_sem]
  ·obtain⟨bl',ul',a1,a2,a3,a4,_⟩:=yq hh1 t8' rfl;obtain⟨be',ue',c1,c2,c3,c4,_⟩:=yq hh1 t9' rfl;rw [hl1] at a1;rw [he1] at c1;cases a1;cases c1;simp only [Rep] at c4;subst c4;refine(Yq be bl x 0 ul' [] w1 c2 c3 a2 a3 hne).mono ?_;rintro e u' w5 ⟨rfl,rfl,rfl⟩;show LeavesInM _ _ _ _ _ _ _ .returning _;rw [he1] at t9';obtain⟨ws1,q1,P1⟩:=xd (P:=prog) (t:=41) (cv:=[.i x]) (v:=.i x) (n:=1) g1 hh1 t9' (cells:=[.i 0]) rfl (by kernel_rfl) ⟨_,_,rfl,rfl,rfl⟩ rfl (aJ _) rfl;rw [JI (P:=prog) (by kernel_rfl) rfl c2 c3 rfl] at q1;cases q1;have t8'':Rep (Go.Sx.Own O σ) (w1.setCell ⟨be,0,none⟩ (.i x)) (.ptr 2 0) σ (a.tmps.getD 8 undef):=zO (K:=[]) P1.ext P1.hold _ _ (qO _) t8';obtain⟨bl2,ul2,d1,d2,d3,d4,_⟩:=yq P1.hp t8'' rfl;rw [hl1] at d1;cases d1;rw [hl1] at t8'';obtain⟨ws2,q2,P2⟩:=xd (P:=prog) (t:=46) (cv:=[.nils]) (v:=.slice none 0 0) (n:=1) P1.good P1.hp t8'' (cells:=[.nils]) rfl (by kernel_rfl) ⟨_,_,rfl,by simp [Rep],rfl⟩ rfl (aJ _) rfl;rw [JI (P:=prog) (by kernel_rfl) rfl d2 d3 rfl] at q2;cases q2;have k3:=Kept.alloc ((w1.setCell ⟨be,0,none⟩ (.i x)).setCell ⟨bl,0,none⟩ (.slice none 0 0)) (.cells #[.i x] 151);refine zen hq hm (x:=.nils) (e:=x) (k3.good P2.good) (k3.hrep P2.hp) ((k1.ext _).trans (P1.ext.trans (P2.ext.trans (k3.ext _)))) (λb hO hb=> ?_) (u8 8 (by decide)) (u8 9 (by decide)) zb4 (.inl ⟨rfl,?_⟩) ?_
   ·have h2:b<w1.heap.size:=bB hb k1.size;have h3:=bB h2 P1.ext.size;rw [k3.keep b (bB h3 P2.ext.size),P2.wg b hO h3,P1.wg b hO h2,k1.keep b hb]
   ·rw [hbef,hfl]
   ·rw [hbef,hfl]
theorem zfo:zc prog 37 vW:=by
 intro args hc Q hq _;simp only [vW,ctrP] at hq;split at hq
 ·obtain⟨⟨c,day,fin,f,h⟩,⟨h1,h2⟩,h3,h4⟩:=hq;have hq:=h4 _ rfl;refine jd.le h1 (door (fn:=f37) (c:=f37.body.getD .skip) (ctr:=vW) rfl rfl rfl (λhh=>by cases hh) (ι:={u:Unit // c.errC=0/\errE f h=0/\0<=day/\day<=99999/\0<=fin/\fin<=100000}) (λ_=>SBe day fin) (λ_=>HBe c f h) 6 4 (by kernel_rfl) (by kernel_rfl) ?_ ?_)
  ·intro O w0 I0 hl;exact zi9 c day fin f h h2 hq
  ·rintro⟨_,hx⟩ O w0 I0 w σ a hl hm;have h0:I0=[]:=aU.1 (by simpa using hl);subst h0;exact zkp h2 hx hq hm
 ·exact hq.elim
noncomputable def K38:=Go.Sx.aA f38
def znh:Ctr:=ctrP false (λk:FI=>[k.c.conA,.i k.day,envA k.f k.h]) FI.pre (λk r=>r=Zr k.c k.day k.f k.h) (λ_ (r:List Fl×Int)=>(.tup [flS r.1,.i r.2],[]))
noncomputable def GFs:=tb zfo tz
theorem zax:zc prog 12 znh:=by
 refine zf' f12 λk hp O w0 Q hq=> ?_
 obtain⟨c,day,fin,f,h⟩:=k;replace hq:=hq _ rfl;simp only at hq;refine zb.n GFs.h [] (.ex (λ(x:FI)=>eqL [(Con.conA c),.i day,.i 100000,.agg [.sl f.length 3 (fxG f),.sl h.length 4 (chG h)]] [(Con.conA x.c),.i x.day,.i x.fin,.agg [.sl x.f.length 3 (fxG x.f),.sl x.h.length 4 (chG x.h)]]/\FI.pre x) λn=>.all (λ(r:List Fl×Int)=>r=befM n.c n.day n.fin n.f n.h) λn=>.R [.sl n.1.length 5 (flG n.1),.i n.2] [.box (Con.zd c),.box [.sl f.length 3 (fxG f),.sl h.length 4 (chG h)]]) ?_;simp only [Tree.holds,ze];refine⟨⟨c,day,100000,f,h⟩,⟨⟨zQ c,⟨rfl,rfl⟩,⟨rfl,rfl⟩,⟨⟨rfl,rfl,λ_ _ _ _=>rfl⟩,⟨rfl,rfl,λ_ _ _ _=>rfl⟩,trivial⟩,trivial⟩,hp⟩,⟨_,rfl⟩,?_⟩;rintro _ rfl;exact RetR.le0 hq (λh=>by cases h) (LeA.refl _)
theorem Fl.same{x y:Fl}(h1:x.date=y.date)(h2:x.src=y.src)(h3:x.dst=y.dst)(h4:x.ccy=y.ccy)(h5:x.amt=y.amt):x=y:=by
 cases x; cases y; simp_all
def zjz:Ctr:=ctrP true (λp:List Fl×List Fl=>[flS p.1,flS p.2]) (λp=>p.1.length<2^40) (λp r=>(r=true↔p.1=p.2)) (λ_ (r:Bool)=>(.bool r,[]))
def SSf(l m:List Fl)(i:Nat):KV:=[(0,flS l),(1,flS m),(5,.i (i:Int))]
theorem zmi:zc prog 38 zjz:=by
 refine zf' f38 λp hp O w0 Q hq=> ?_
 obtain⟨l,m⟩:=p;simp only at hp hq;refine zb.n zD [0,1,5] (.N ((l.length:Int)=m.length) (.R [.bool false] []) (.leaf (.loop (lps K38 0).1 (lps K38 0).2 [(0,.sl l.length 5 (flG l)),(1,.sl m.length 5 (flG m)),(5,.i 0)] []))) ?_;simp only [Tree.holds,ze];refine⟨λh=> ?_,λh=> ?_⟩
 ·refine RetR.scal (hq false ⟨λh=>(by cases h),λhe=> ?_⟩) rfl (by simp [resV]);subst he;simp at h
 ·have hl:l.length=m.length:=by simp at h; omega
  refine zb.loop (ι:={i:Nat // i<=l.length/\∀ j,j<i->l.getD j Fl.nil=m.getD j Fl.nil}) (λi=>SSf l m i.1) (λ_=>[]) (λi=>l.length - i.1) ⟨0,aI _,λj hj=>by omega⟩ 0 ?_ ?_ (by kernel_rfl)
  ·exact⟨by simp [SSf,flS,za],trivial,by kernel_rfl,aI _⟩
  ·rintro⟨i,hil,hib⟩;refine zb.n zD [0,1,5] (let v2:=m.getD (i:Int).toNat Fl.nil;let v1:=l.getD (i:Int).toNat Fl.nil;.D ((i:Int)<l.length) (.side ((0:Int)<=i/\(i:Int)<l.length) (.side ((0:Int)<=i/\(i:Int)<m.length) (.ite (!(decide (Fl.date v1=Fl.date v2)&&(decide (Fl.src v1=Fl.src v2)&&(decide (Fl.dst v1=Fl.dst v2)&&(decide (Fl.ccy v1=Fl.ccy v2)&&(decide (Fl.amt v1=Fl.amt v2)&&true)))))) (.R [.bool false] []) (.S (i+1) (.leaf (.back 0 [(0,.sl l.length 5 (flG l)),(1,.sl m.length 5 (flG m)),(5,.i (i+1))] [])))))) (.R [.bool true] [])) ?_;simp only [Tree.holds,ze,inR,lo,hi,aD];refine⟨λhlt=> ?_,λhge=> ?_⟩
   ·have hlt:i<l.length:=by have:=aB hlt; omega
    refine⟨by omega,λ_=>⟨by omega,λ_=>⟨λg=> ?_,λg=>⟨by omega,λ_=> ?_⟩⟩⟩⟩
    ·refine RetR.scal (hq false ⟨λh=>(by cases h),λh3=> ?_⟩) rfl (by simp [resV]);subst h3; simp at g
    ·have g:l.getD i Fl.nil=m.getD i Fl.nil:=by
      rw [Bool.not_eq_false'] at g;simp only [bA,aK,and_true] at g;exact Fl.same g.1 g.2.1 g.2.2.1 g.2.2.2.1 g.2.2.2.2
     rw [aP trivial];refine⟨⟨i+1,hlt,λj hj=> ?_⟩,by show l.length - (i+1)<l.length - i; omega,by simp [SSf,flS,za],trivial,by kernel_rfl,aI _⟩;rcases aR j i with h1 | h1
     ·exact hib j h1
     ·have:j=i:=by omega
      rw [this]; exact g
   ·have hge:i=l.length:=by have:=aC hge; omega
    subst hge;refine RetR.scal (hq true ⟨λ_=> ?_,λ_=>rfl⟩) rfl (by simp [resV]);apply List.ext_getElem hl;intro j g1 g2;have:=hib j g1;simpa [List.getD,g1,g2] using this
end Go.Proofs.Tryz
end
section
namespace Go.Nov
open Go.Sx
namespace Tm
end Tm
end Go.Nov
end
section
namespace Go.Nov
open Go.Sx
structure Per where
 fix:Int
 pay:Int
 part:L8
namespace Per
def nil:Per:=⟨0,0,[]⟩
def cell(p:Per):Nat->AV
 | 0=>.i p.fix
 | 1=>.i p.pay
 | 2=>.str p.part
 | _=>.undef
def av(p:Per):AV:=.agg [.i p.fix,.i p.pay,.str p.part]
end Per
namespace Tm
def short(d:Deal)(l:List Per)(days:List Int):Prop:=fits d/\l.length<=60/\days.length<=200/\∀ i,i<l.length->(l.getD i Per.nil).part.length<=300
end Tm
end Go.Nov
end
section
namespace Go.Nov
open Go.Sx
namespace Tm
def zn4:Con:=.mk 1 [] [] [] (.mk 0 [] [] 0 []) 0 [] []
def both(a b:Con):Con:=.mk 3 [] [] [] (.mk 0 [] [] 0 []) 0 [] [a,b]
def xw:Nat->List Con->Con
 | 0,_=>zn4
 | n+1,l=>if l.length=0 then zn4 else if l.length=1 then l.getD 0 Con.nil else both (xw n (l.take ((l.length+1)/2))) (xw n (l.drop ((l.length+1)/2)))
theorem xg:∀ (n m:Nat) (l:List Con),l.length<=n->l.length<=m->xw n l=xw m l
 | 0,0,l,_,_=>rfl
 | 0,m+1,l,h,_=>by
  have:l.length=0:=by omega
  simp [xw,this]
 | n+1,0,l,_,h=>by
  have:l.length=0:=by omega
  simp [xw,this]
 | n+1,m+1,l,h1,h2=>by
  simp only [xw];by_cases h:l.length=0
  ·rw [aP h,aP h]
  ·rw [aO h,aO h];by_cases g:l.length=1
   ·rw [aP g,aP g]
   ·rw [aO g,aO g,xg n m _ (by rw [aH]; omega) (by rw [aH]; omega),xg n m _ (by rw [bV]; omega) (by rw [bV]; omega)]
def whole(l:List Con):Con:=xw l.length l
theorem Zy(l:List Con):whole l=if l.length=0 then zn4 else if l.length=1 then l.getD 0 Con.nil else both (whole (l.take ((l.length+1)/2))) (whole (l.drop ((l.length+1)/2))):=by
 unfold whole;rw [xg l.length (l.length+1) l (aJ _) (Nat.le_succ _)];simp only [xw];by_cases h:l.length=0
 ·rw [aP h,aP h]
 ·rw [aO h,aO h];by_cases g:l.length=1
  ·rw [aP g,aP g]
  ·rw [aO g,aO g,xg l.length _ _ (by rw [aH]; omega) (aJ _),xg l.length _ _ (by rw [bV]; omega) (aJ _)]
theorem zne(l m:List Con):Con.bigs (l++m)=Con.bigs l+Con.bigs m:=by
 induction l with
 | nil=>simp [Con.bigs]
 | cons c l ih=>simp only [List.cons_append,Con.bigs,ih]; omega
theorem zh4(l m:List Con):Con.zw (l++m)=Con.zw l+Con.zw m:=by
 induction l with
 | nil=>simp [Con.zw]
 | cons c l ih=>simp only [List.cons_append,Con.zw,ih]; omega
theorem xW:∀ (n:Nat) (l:List Con),l.length<=n->1<=l.length->(whole l).big<=Con.bigs l+2*(l.length - 1)/\(whole l).nodes<=Con.zw l+(l.length - 1)
 | 0,l,h,h'=>by omega
 | n+1,l,h,h'=>by
  rw [Zy,aO (by omega:¬ l.length=0)];by_cases h1:l.length=1
  ·rw [aP h1]
   match l,h1 with
   | [c],_=>simp [Con.bigs,Con.zw]
  ·rw [aO h1];obtain⟨a1,a2⟩:=xW n (l.take ((l.length+1)/2)) (by rw [aH]; omega) (by rw [aH]; omega);obtain⟨b1,b2⟩:=xW n (l.drop ((l.length+1)/2)) (by rw [bV]; omega) (by rw [bV]; omega);have e1:=zne (l.take ((l.length+1)/2)) (l.drop ((l.length+1)/2));have e2:=zh4 (l.take ((l.length+1)/2)) (l.drop ((l.length+1)/2));rw [bU] at e1 e2;rw [aH] at a1 a2;rw [bV] at b1 b2;simp only [both,Con.big,Con.bigs,Con.nodes,Con.zw,Ex.size,Ex.zp,Ex.zo,Ex.zN,List.length_nil];omega
theorem wY(l:List Con):(whole l).big<=Con.bigs l+2*l.length+2/\(whole l).nodes<=Con.zw l+l.length+1:=by
 by_cases h:l.length=0
 ·have:l=[]:=aU.1 h;subst this;decide
 ·have:=xW l.length l (aJ _) (by omega);omega
theorem zga{x:Ex}(h:x.size<=50):numX x=decide (x.zu=1):=by
 unfold numX;by_cases hs:x.zu=1
 ·have hd:=Ex.jI x;have:x.errX=0:=by unfold Ex.errX; rw [aO (by omega),aO (by omega)]
  simp [this,hs]
 ·simp [hs]
theorem zf7{x:Ex}(h:x.size<=50)(hs:x.zu=1):x.errX=0:=by
 have hd:=Ex.jI x;unfold Ex.errX;rw [aO (by omega),aO (by omega)]
theorem zta(f:List Fx)(h:List Ch)(day:Int)(c:Con)(fr fin:Int):flM f h (at_ day c) fr fin=if fin<=fr then .ok [] else if fr<=day then flM f h c day fin else .ok []:=by
 rw [uz];simp [at_,Con.kind,Con.date,Con.sub]
theorem zpg(f:List Fx)(h:List Ch)(a b n:L8)(x:Ex)(fr fin:Int):flM f h (.mk 2 a b n x 0 [] []) fr fin=if fin<=fr then .ok [] else Go.Nov.andM (valM x fr f h) λr=>.ok (payF fr a b n r):=by
 rw [uz];simp [Con.kind,Con.x,Con.src,Con.dst,Con.name]
theorem zh7{x:Ex}{day:Int}{f:List Fx}{h:List Ch}(hx:x.size<=50)(hs:x.zu=1)(he:errE f h=0)(hd:dayB day=true):valM x day f h=if(x.ev f day).e≠0 then .error (x.ev f day).e else .ok (x.ev f day).v:=by
 unfold valM jD;have ha:askE x 1 day f h=0:=by rw [Kb (zf7 hx hs) hs,aP he,aP hd]
 simp only [ha,ne_eq,not_true_eq_false,if_false];by_cases g:(x.ev f day).e=0<;>simp [g]
theorem zks(r:L8)(f:List Fx)(day:Int):((kon r).ev f day).v=r/\((kon r).ev f day).e=0:=by
 unfold kon; rw [Ex.ev,Ex.evs]; exact⟨rfl,rfl⟩
theorem zpl(n:L8)(d:Int)(f:List Fx)(day:Int):((fixg n d).ev f day).v=(fixR f n d).1/\((fixg n d).ev f day).e=(fixR f n d).2:=by
 unfold fixg; rw [Ex.ev,Ex.evs]; exact⟨rfl,rfl⟩
end Tm
end Go.Nov
end
section
namespace Go.Nov
open Go.Sx
theorem kT{is:Int->Except Int Bool}{day fin:Int} : ∀ {l:List Int} {t:Int},firstM is day fin l = .ok t->t=fin\/day<=t/\t<fin
 | [],t,h=>by cases h; exact .inl rfl
 | d::l,t,h=>by
  rw [firstM] at h;split at h
  ·cases h; exact .inl rfl
  ·split at h
   ·split at h
    ·cases h
    ·cases h; exact .inr ⟨by omega,by omega⟩
    ·exact kT h
   ·exact kT h
end Go.Nov
end
section
namespace Go.Nov
open Go.Sx
namespace Tm
theorem zpi{a b n:L8}{x:Ex}{day:Int}(hs:x.size<=50)(hf:(at_ day (.mk 2 a b n x 0 [] [])).form=true):dayB day=true/\x.zu=1:=by
 unfold at_ at hf;rw [Con.form,Con.vA,Con.vA,Con.form,Con.vA] at hf;simp only [j7,aL,List.length_nil,zga hs] at hf;have hb:qR (.mk 0 [] [] 0 [])=true:=by decide
 rw [hb] at hf;by_cases e1:dayB day=true<;>by_cases e6:x.zu=1<;>simp_all
theorem zdg{a b n:L8}{x:Ex}{day fr:Int}{v:L8}{f:List Fx}{h:List Ch}(hs:x.size<=50)(hf:(at_ day (.mk 2 a b n x 0 [] [])).form=true)(he:errE f h=0)(h1:fr<=99999)(hv:¬ day<fr->(x.ev f day).e=0/\(x.ev f day).v=v) :
  flM f h (at_ day (.mk 2 a b n x 0 [] [])) fr 100000 = .ok (if day<fr then [] else payF day a b n v):=by
 obtain⟨h2,h3⟩:=zpi hs hf;have hd:0<=day/\day<=99999:=by simpa [dayB] using h2
 rw [zta,aO (by omega)];by_cases g:day<fr
 ·rw [aP g,aO (by omega)]
 ·obtain⟨v1,v2⟩:=hv g;rw [aO g,aP (by omega),zpg,aO (by omega),zh7 hs h3 he h2,aO (by simp [v1]),v2];rfl
def zak(d:Deal)(fl:Bool)(p:Per):List Con:=[at_ p.pay (pay d (over d.Wt (fixg d.name p.fix) fl) (mulR p.part d.YX).1)]
theorem YF{c:Con}(h:c.errC=0):c.form=true:=by
 unfold Con.errC at h;split at h
 ·cases h
 ·split at h
  ·assumption
  ·cases h
theorem zo2{n:L8}{z day:Int}{f:List Fx}(hk:(zF f n z).2=true):((fixg n z).ev f day).v=(zF f n z).1/\((fixg n z).ev f day).e=0:=by
 obtain⟨s1,s2⟩:=zpl n z f day;unfold fixR at s1 s2;rw [hk,aP rfl] at s1 s2;exact⟨s1,s2⟩
end Tm
end Go.Nov
end
section
namespace Go.Nov
open Go.Sx
namespace Ca
structure Wd(a:Ca)(f w:List Fx):Prop where
 re:errR a.ratio=0
 off:∀ n d,¬ (n=a.name/\a.date<=d)->zF f n d=zF w n d
 no:∀ d,a.date<=d->(zF f a.into d).2=false->(zF w a.name d).2=false
 yes:∀ d,a.date<=d->(zF f a.into d).2=true->errR (zF f a.into d).1=0/\(mulR a.ratio (zF f a.into d).1).2=0/\(addR (mulR a.ratio (zF f a.into d).1).1 a.extra).2=0/\zF w a.name d=((addR (mulR a.ratio (zF f a.into d).1).1 a.extra).1,true)
theorem Xl{k:Int}(hk:k=4\/k=6)(x y:Ex)(f:List Fx)(day:Int):((Tm.opx k [x,y]).ev f day).v=(wv [] (x.ev f day) (y.ev f day) (opR k)).1/\((Tm.opx k [x,y]).ev f day).e=(wv [] (x.ev f day) (y.ev f day) (opR k)).2:=by
 unfold Tm.opx;rw [Ex.ev,Ex.evs,Ex.evs,Ex.evs];rcases hk with rfl | rfl<;>exact⟨rfl,rfl⟩
theorem zt4{x y:Ev}{F:L8->L8->L8×Int}(h:x.e≠0):wv [] x y F=([],x.e):=by unfold wv; rw [aP h]
theorem zuk{x y:Ev}{F:L8->L8->L8×Int}(h:x.e=0)(h2:y.e≠0):wv [] x y F=([],y.e):=by unfold wv; rw [aO (λg=>g h),aP h2]
theorem zhz{x y:Ev}{F:L8->L8->L8×Int}(h:x.e=0)(h2:y.e=0):wv [] x y F=F x.v y.v:=by unfold wv; rw [aO (λg=>g h),aO (λg=>g h2)]
theorem zni{a:Ca}{f w:List Fx}(W:Wd a f w){y:Ex}{t D:Int}(h1:(y.ev f t).v=(fixR f a.into D).1)(h2:(y.ev f t).e=(fixR f a.into D).2)(hD:a.date<=D) :
  ((a.rel y).ev f t).v=(fixR w a.name D).1/\((a.rel y).ev f t).e=(fixR w a.name D).2:=by
 obtain⟨k1,k2⟩:=Tm.zks a.ratio f t;obtain⟨e1,e2⟩:=Tm.zks a.extra f t;unfold fixR at h1 h2 ⊢;cases hf:(zF f a.into D).2 with
 | false=>
  rw [hf,aO (by decide)] at h1 h2;have hw:=W.no D hD hf;rw [hw,aO (by decide)]
  have hm:((if a.ratio=[49] then y else Tm.opx 6 [Tm.kon a.ratio,y]).ev f t).v=[]/\((if a.ratio=[49] then y else Tm.opx 6 [Tm.kon a.ratio,y]).ev f t).e=30:=by
   split
   ·exact⟨h1,h2⟩
   ·obtain⟨b1,b2⟩:=Xl (.inr rfl) (Tm.kon a.ratio) y f t;rw [zuk k2 (by rw [h2]; decide)] at b1 b2;exact⟨b1,by rw [b2,h2]⟩
  unfold rel;split
  ·exact hm
  ·obtain⟨b1,b2⟩:=Xl (.inl rfl) (if a.ratio=[49] then y else Tm.opx 6 [Tm.kon a.ratio,y]) (Tm.kon a.extra) f t;rw [zt4 (by rw [hm.2]; decide)] at b1 b2;exact⟨b1,by rw [b2,hm.2]⟩
 | true=>
  rw [hf,aP rfl] at h1 h2;obtain⟨y1,y2,y3,y4⟩:=W.yes D hD hf;rw [y4,aP rfl]
  have hm:((if a.ratio=[49] then y else Tm.opx 6 [Tm.kon a.ratio,y]).ev f t).v=(mulR a.ratio (zF f a.into D).1).1/\((if a.ratio=[49] then y else Tm.opx 6 [Tm.kon a.ratio,y]).ev f t).e=0:=by
   split
   ·rename_i g;rw [g,zn2 y1];exact⟨h1,h2⟩
   ·obtain⟨b1,b2⟩:=Xl (.inr rfl) (Tm.kon a.ratio) y f t;rw [zhz k2 h2,k1,h1] at b1 b2;exact⟨b1,b2.trans y2⟩
  unfold rel;split
  ·rename_i g;have hr:=(yT W.re y1 y2).1;rw [g,add_zero' hr];exact hm
  ·obtain⟨b1,b2⟩:=Xl (.inl rfl) (if a.ratio=[49] then y else Tm.opx 6 [Tm.kon a.ratio,y]) (Tm.kon a.extra) f t;rw [zhz hm.2 e2,hm.1,e1] at b1 b2;exact⟨b1,b2.trans y3⟩
theorem YM{f:List Fx}{day k d:Int}{r n:L8}{l:List Ev}(h:4<=k/\k<=8):valN f day k r n d l=wv [] (l.getD 0 Ev.nil) (l.getD 1 Ev.nil) (opR k):=by
 unfold valN;rw [aO (by omega),aO (by omega),aO (by omega),aO (by omega)]
theorem J5{α:Type}{z:α}{p q p' q':Ev}{F:L8->L8->α×Int}(h1:p.v=p'.v)(h2:p.e=p'.e)(h3:q.v=q'.v)(h4:q.e=q'.e):wv z p q F=wv z p' q' F:=by
 unfold wv; rw [h1,h2,h3,h4]
theorem zqz{a:Ca}{f:List Fx}{t:Int}{s:List Ex}{i:Nat}(h:i<s.length):(Ex.evs f t (s.map (chg a))).getD i Ev.nil=(chg a (s.getD i Ex.nil)).ev f t:=by
 rw [Ex.qG (by simpa using h)];congr 1;simp [List.getD,h]
theorem zc3{a:Ca}{f w:List Fx}(W:Wd a f w){t:Int}(ht:a.date<=t):∀ (n:Nat) (x:Ex),x.size<=n ->
  (x.zu=1->((chg a x).ev f t).v=(x.ev w t).v/\((chg a x).ev f t).e=(x.ev w t).e)/\(x.zu=2->((chg a x).ev f t).b=(x.ev w t).b/\((chg a x).ev f t).g=(x.ev w t).g)
 | 0,x,hn=>by have:=Ex.size_pos x; omega
 | n+1,.mk k r nm d s,hn=>by
  have ih:∀ i,i<s.length->((s.getD i Ex.nil).zu=1->((Ex.evs f t (s.map (chg a))).getD i Ev.nil).v=((Ex.evs w t s).getD i Ev.nil).v/\((Ex.evs f t (s.map (chg a))).getD i Ev.nil).e=((Ex.evs w t s).getD i Ev.nil).e) /\
    ((s.getD i Ex.nil).zu=2->((Ex.evs f t (s.map (chg a))).getD i Ev.nil).b=((Ex.evs w t s).getD i Ev.nil).b/\((Ex.evs f t (s.map (chg a))).getD i Ev.nil).g=((Ex.evs w t s).getD i Ev.nil).g):=λi hi=>by
   rw [zqz hi,Ex.qG hi];refine zc3 W ht n _ ?_;have h1:=Ex.zM hi;rw [Ex.size] at hn;omega
  have off:k≠2->k≠3->chg a (.mk k r nm d s) = .mk k r nm d (s.map (chg a)):=λh2 h3=>by
   rw [chg,aO,UW];simp [onX,h2,h3]
  have e2:∀ (g:List Fx) (r n:L8) (d:Int) (s:List Ex),((Ex.mk 2 r n d s).ev g t).v=(fixR g n d).1/\((Ex.mk 2 r n d s).ev g t).e=(fixR g n d).2:=λg r n d s=>by rw [Ex.ev]; exact⟨rfl,rfl⟩
  have e3:∀ (g:List Fx) (r n:L8) (d:Int) (s:List Ex),((Ex.mk 3 r n d s).ev g t).v=(fixR g n t).1/\((Ex.mk 3 r n d s).ev g t).e=(fixR g n t).2:=λg r n d s=>by rw [Ex.ev]; exact⟨rfl,rfl⟩
  constructor
  ·intro hs;rcases Ex.Qa hs with ⟨hk,_⟩ | hk | hk | ⟨hk,hl,s0,s1⟩ | ⟨hk,hl,s0,s1,s2⟩
   ·obtain rfl:k=1:=hk;rw [off (by decide) (by decide),Ex.ev,Ex.ev];exact⟨rfl,rfl⟩
   ·obtain rfl:k=2:=hk;rw [chg];by_cases hh:a.onX 2 nm d=true
    ·rw [aP hh];have hh2:nm=a.name/\a.date<=d:=by simpa [onX] using hh
     rw [(e2 w r nm d s).1,(e2 w r nm d s).2,hh2.1];exact zni W (e2 f [] a.into d []).1 (e2 f [] a.into d []).2 hh2.2
    ·rw [aO hh,(e2 w r nm d s).1,(e2 w r nm d s).2,(e2 f _ _ _ _).1,(e2 f _ _ _ _).2];have hh2:¬ (nm=a.name/\a.date<=d):=by simpa [onX] using hh
     unfold fixR;rw [W.off nm d hh2];exact⟨rfl,rfl⟩
   ·obtain rfl:k=3:=hk;rw [chg];by_cases hh:a.onX 3 nm d=true
    ·rw [aP hh];have hh2:nm=a.name:=by simpa [onX] using hh
     rw [(e3 w r nm d s).1,(e3 w r nm d s).2,hh2];exact zni W (e3 f [] a.into d []).1 (e3 f [] a.into d []).2 ht
    ·rw [aO hh,(e3 w r nm d s).1,(e3 w r nm d s).2,(e3 f _ _ _ _).1,(e3 f _ _ _ _).2];have hh2:¬ nm=a.name:=by simpa [onX] using hh
     unfold fixR;rw [W.off nm t (λg=>hh2 g.1)];exact⟨rfl,rfl⟩
   ·have hk:4<=k/\k<=8:=hk;have hl:s.length=2:=hl;rw [off (by omega) (by omega),Ex.ev,Ex.ev];simp only [evN];rw [YM hk,YM hk];obtain⟨a1,a2⟩:=(ih 0 (by omega)).1 s0;obtain⟨b1,b2⟩:=(ih 1 (by omega)).1 s1;rw [J5 a1 a2 b1 b2];exact⟨rfl,rfl⟩
   ·obtain rfl:k=9:=hk;have hl:s.length=3:=hl;rw [off (by decide) (by decide),Ex.ev,Ex.ev];obtain⟨a1,a2⟩:=(ih 0 (by omega)).2 s0;obtain⟨b1,b2⟩:=(ih 1 (by omega)).1 s1;obtain⟨c1,c2⟩:=(ih 2 (by omega)).1 s2
    have key:∀ (l l':List Ev),(l.getD 0 Ev.nil).b=(l'.getD 0 Ev.nil).b->(l.getD 0 Ev.nil).g=(l'.getD 0 Ev.nil).g->(l.getD 1 Ev.nil).v=(l'.getD 1 Ev.nil).v->(l.getD 1 Ev.nil).e=(l'.getD 1 Ev.nil).e->(l.getD 2 Ev.nil).v=(l'.getD 2 Ev.nil).v->(l.getD 2 Ev.nil).e=(l'.getD 2 Ev.nil).e ->
      valN f t 9 r nm d l=valN w t 9 r nm d l':=by
     intro l l' h1 h2 h3 h4 h5 h6;have v9:∀ (g:List Fx) (l:List Ev),valN g t 9 r nm d l=(if(l.getD 0 Ev.nil).g≠0 then([],(l.getD 0 Ev.nil).g) else if(l.getD 0 Ev.nil).b then((l.getD 1 Ev.nil).v,(l.getD 1 Ev.nil).e) else((l.getD 2 Ev.nil).v,(l.getD 2 Ev.nil).e)):=λg l=>rfl
     rw [v9,v9,h1,h2,h3,h4,h5,h6]
    simp only [evN];rw [key _ _ a1 a2 b1 b2 c1 c2];exact⟨rfl,rfl⟩
  ·intro hs;rcases Ex.QD hs with ⟨hk,hl,s0,s1⟩ | ⟨hk,hl,s0,s1⟩ | ⟨hk,hl,s0⟩
   ·have hk:k=11\/k=12:=hk;have hl:s.length=2:=hl;rw [off (by omega) (by omega),Ex.ev,Ex.ev];obtain⟨a1,a2⟩:=(ih 0 (by omega)).1 s0;obtain⟨b1,b2⟩:=(ih 1 (by omega)).1 s1
    have key:hldN k (Ex.evs f t (s.map (chg a)))=hldN k (Ex.evs w t s):=by
     unfold hldN;have h13:¬ 13<=k:=by omega
     rw [aO h13,aO h13,J5 a1 a2 b1 b2]
    simp only [evN,key];exact⟨trivial,trivial⟩
   ·have hk:k=13\/k=14:=hk;have hl:s.length=2:=hl;rw [off (by omega) (by omega),Ex.ev,Ex.ev];obtain⟨a1,a2⟩:=(ih 0 (by omega)).2 s0;obtain⟨b1,b2⟩:=(ih 1 (by omega)).2 s1
    have key:hldN k (Ex.evs f t (s.map (chg a)))=hldN k (Ex.evs w t s):=by
     unfold hldN;have h13:13<=k:=by omega
     rw [aP h13,aP h13,a1,a2,b1,b2]
    simp only [evN,key];exact⟨trivial,trivial⟩
   ·obtain rfl:k=15:=hk;have hl:s.length=1:=hl;rw [off (by decide) (by decide),Ex.ev,Ex.ev];obtain⟨a1,a2⟩:=(ih 0 (by omega)).2 s0
    have key:hldN 15 (Ex.evs f t (s.map (chg a)))=hldN 15 (Ex.evs w t s):=by
     have v15:∀ l:List Ev,hldN 15 l=if(l.getD 0 Ev.nil).g≠0 then(false,(l.getD 0 Ev.nil).g) else(!(l.getD 0 Ev.nil).b,0):=λl=>rfl
     rw [v15,v15,a1,a2]
    simp only [evN,key];exact⟨trivial,trivial⟩
theorem zqa{a:Ca}{f w:List Fx}{h:List Ch}(W:Wd a f w)(hf:errE f h=0)(hw:errE w h=0){t:Int}(ht:a.date<=t){x:Ex}(h1:numX (chg a x)=true)(h2:numX x=true):valM (chg a x) t f h=valM x t w h:=by
 simp only [numX,bA,aK] at h1 h2;obtain⟨c1,c2⟩:=(zc3 W ht _ x (aJ _)).1 h2.2;unfold valM jD;rw [Kb h1.1 h1.2,Kb h2.1 h2.2,aP hf,aP hw,c1,c2]
theorem zqx{a:Ca}{f w:List Fx}{h:List Ch}(W:Wd a f w)(hf:errE f h=0)(hw:errE w h=0){t:Int}(ht:a.date<=t){x:Ex}(h1:truX (chg a x)=true)(h2:truX x=true):holM (chg a x) t f h=holM x t w h:=by
 simp only [truX,bA,aK] at h1 h2;obtain⟨c1,c2⟩:=(zc3 W ht _ x (aJ _)).2 h2.2;unfold holM xl;rw [Kb h1.1 h1.2,Kb h2.1 h2.2,aP hf,aP hw,c1,c2]
theorem uC{is is':Int->Except Int Bool}{day fin:Int}(hi:∀ t,day<=t->is t=is' t):∀ l:List Int,firstM is day fin l=firstM is' day fin l
 | []=>by rw [firstM,firstM]
 | d::l=>by
  rw [firstM,firstM,uC hi l];by_cases h:day<=d
  ·rw [hi d h]
  ·rw [aO h,aO h]
theorem zhy{k d:Int}{s t n:L8}{x:Ex}{l:List Int}{m:Nat}(h:j7 k s t n x d l m=true):((k=2\/k=4)->numX x=true)/\((k=5\/k=9\/k=10)->truX x=true):=by
 constructor
 ·rintro(rfl | rfl)
  ·rw [j7,aO (by decide),aP rfl] at h;simp only [bA] at h;exact h.1.1.2
  ·rw [j7,aO (by decide),aO (by decide),aO (by decide),aP rfl] at h;simp only [bA] at h;exact h.2
 ·rintro(rfl | rfl | rfl)
  ·rw [j7,aO (by decide),aO (by decide),aO (by decide),aO (by decide),aP rfl] at h;simp only [bA] at h;exact h.2
  all_goals
   rw [j7,aO (by decide),aO (by decide),aO (by decide),aO (by decide),aO (by decide),aO (by decide),aO (by decide),aO (by decide),aP (by decide)] at h;simp only [bA] at h;exact h.2
theorem zhi{a:Ca}{f w:List Fx}{h:List Ch}(W:Wd a f w)(hf:errE f h=0)(hw:errE w h=0):∀ c:Con,c.form=true->(whole a.chg c).form=true->∀ day fin,a.date<=day->flM f h (whole a.chg c) day fin=flM w h c day fin:=by
 refine Con.zem ?_;intro c ih h1 h2 day fin hd;have hw0:=Zy a.chg c;rw [Con.X8,bA] at h1;rw [hw0,Con.X8,bA] at h2;obtain⟨n1,f1⟩:=h1;obtain⟨n2,f2⟩:=h2;have n2:j7 c.kind c.src c.dst c.name (chg a c.x) c.date c.days (c.sub.map (whole a.chg)).length=true:=n2;have f2:Con.vA (c.sub.map (whole a.chg))=true:=f2
 have kid:∀ i day fin,a.date<=day->flM f h ((c.sub.map (whole a.chg)).getD i Con.nil) day fin=flM w h (c.sub.getD i Con.nil) day fin:=λi day fin hd=>by
  by_cases hi:i<c.sub.length
  ·have e:(c.sub.map (whole a.chg)).getD i Con.nil=whole a.chg (c.sub.getD i Con.nil):=by simp [List.getD,hi]
   rw [e];refine ih i hi ?_ ?_ day fin hd
   ·cases g:(c.sub.getD i Con.nil).form with
    | true=>rfl
    | false=>rw [Con.yZ c.sub i hi g] at f1; cases f1
   ·rw [<- e];cases g:((c.sub.map (whole a.chg)).getD i Con.nil).form with
    | true=>rfl
    | false=>rw [Con.yZ _ i (by simpa using hi) g] at f2; cases f2
  ·rw [kh (by simpa using hi),kh (by simpa using hi),Zs,Zs]
 obtain⟨x1,x2⟩:=zhy n1;obtain⟨x3,x4⟩:=zhy n2;rw [hw0,uz w,uz f]
 show(if fin<=day then _ else if c.kind=2 then Go.Nov.andM (valM (chg a c.x) day f h) λr=>.ok (payF day c.src c.dst c.name r)
  else if c.kind=3 then Go.Nov.andM (flM f h ((c.sub.map (whole a.chg)).getD 0 Con.nil) day fin) λu=>Go.Nov.andM (flM f h ((c.sub.map (whole a.chg)).getD 1 Con.nil) day fin) λv=>.ok (u++v)
  else if c.kind=4 then Go.Nov.andM (valM (chg a c.x) day f h) λr=>Go.Nov.andM (flM f h ((c.sub.map (whole a.chg)).getD 0 Con.nil) day fin) λu=>ja r u
  else if c.kind=5 then Go.Nov.andM (holM (chg a c.x) day f h) λt=>flM f h ((c.sub.map (whole a.chg)).getD (if t=true then 0 else 1) Con.nil) day fin
  else if c.kind=6 then(if day<=c.date then flM f h ((c.sub.map (whole a.chg)).getD 0 Con.nil) c.date fin else .ok [])
  else if c.kind=7 then flM f h ((c.sub.map (whole a.chg)).getD (if qc h c.src c.name day=true then 0 else 1) Con.nil) day fin
  else if c.kind=8 then Go.Nov.andM (firstM (λt=>.ok (qc h c.src c.name t)) day fin c.days) λt=>flM f h ((c.sub.map (whole a.chg)).getD 0 Con.nil) t fin
  else if c.kind=9 then Go.Nov.andM (firstM (λt=>holM (chg a c.x) t f h) day fin c.days) λt=>flM f h ((c.sub.map (whole a.chg)).getD 0 Con.nil) day t
  else if c.kind=10 then Go.Nov.andM (firstM (λt=>holM (chg a c.x) t f h) day fin c.days) λt=>flM f h ((c.sub.map (whole a.chg)).getD 0 Con.nil) t fin
  else .ok [])=_
 have val:(c.kind=2\/c.kind=4)->valM (chg a c.x) day f h=valM c.x day w h:=λg=>zqa W hf hw hd (x3 g) (x1 g)
 have hol:(c.kind=5\/c.kind=9\/c.kind=10)->∀ t,day<=t->holM (chg a c.x) t f h=holM c.x t w h:=λg t ht=>zqx W hf hw (by omega) (x4 g) (x2 g)
 by_cases g0:fin<=day
 ·rw [aP g0,aP g0]
 rw [aO g0,aO g0];by_cases g2:c.kind=2
 ·rw [aP g2,aP g2,val (.inl g2)]
 rw [aO g2,aO g2];by_cases g3:c.kind=3
 ·rw [aP g3,aP g3,kid 0 day fin hd,kid 1 day fin hd]
 rw [aO g3,aO g3];by_cases g4:c.kind=4
 ·rw [aP g4,aP g4,val (.inr g4),kid 0 day fin hd]
 rw [aO g4,aO g4];by_cases g5:c.kind=5
 ·rw [aP g5,aP g5,hol (.inl g5) day (Int.le_refl _)];congr 1;funext t;exact kid _ day fin hd
 rw [aO g5,aO g5];by_cases g6:c.kind=6
 ·rw [aP g6,aP g6];by_cases hdd:day<=c.date
  ·rw [aP hdd,aP hdd,kid 0 c.date fin (by omega)]
  ·rw [aO hdd,aO hdd]
 rw [aO g6,aO g6];by_cases g7:c.kind=7
 ·rw [aP g7,aP g7,kid _ day fin hd]
 rw [aO g7,aO g7]
 have bind:∀ (X:Except Int Int) (F G:Int->Except Int (List Fl)),(∀ t,X = .ok t->F t=G t)->Go.Nov.andM X F=Go.Nov.andM X G:=by
  intro X F G hX;cases X with
  | error e=>rfl
  | ok t=>exact hX t rfl
 by_cases g8:c.kind=8
 ·rw [aP g8,aP g8];refine bind _ _ _ λt ht=>kid 0 t fin ?_
  rcases kT ht with rfl | ht<;>omega
 rw [aO g8,aO g8];by_cases g9:c.kind=9
 ·rw [aP g9,aP g9,uC (hol (.inr (.inl g9))) c.days];refine bind _ _ _ λt ht=>kid 0 day t hd
 rw [aO g9,aO g9];by_cases g10:c.kind=10
 ·rw [aP g10,aP g10,uC (hol (.inr (.inr g10))) c.days];refine bind _ _ _ λt ht=>kid 0 t fin ?_
  rcases kT ht with rfl | ht<;>omega
 rw [aO g10,aO g10]
theorem zvf{a:Ca}{f:List Fx}{h:List Ch}(hb:(a.before f h).2=0):Wd a f (a.before f h).1.1/\(a.before f h).1.2=h/\errE f h=0/\errE (a.before f h).1.1 h=0:=by
 obtain⟨h1,h2,h3,h4,h5⟩:=YR hb;have e2:(a.before f h).1.2=h:=by rw [h5]
 have hj:=(jt hb [] 0).1;rw [e2] at hj;refine⟨⟨?_,λn d=>(jt hb n d).2.2.1,λd hd=>((jt hb a.name d).2.2.2 rfl hd).1,λd hd hf=> ?_⟩,e2,h2,hj⟩
 ·unfold ok at h1;simp only [bA,aK] at h1;exact h1.2.2.2.1
 ·obtain⟨g1,g2,g3⟩:=((jt hb a.name d).2.2.2 rfl hd).2 hf;refine⟨?_,g1,g2,g3⟩;have e:fixR f a.into d=((zF f a.into d).1,0):=by unfold fixR; rw [aP hf]
  have:=XP (jG.1 h2).2.1 (a:=a.into) (d:=d) (by rw [e]);rw [e] at this;exact this
theorem Ju{a:Ca}{f:List Fx}{h:List Ch}{c:Con}{day:Int}(hb:(a.before f h).2=0)(hc:(a.conv c).2=0)(hd:a.date<=day):Zr (a.conv c).1 day f h=Zr c day (a.before f h).1.1 (a.before f h).1.2:=by
 obtain⟨W,e2,e3,e4⟩:=zvf hb;rw [e2]
 have hcc:c.errC=0/\(whole a.chg c).errC=0/\(a.conv c).1=whole a.chg c:=by
  unfold conv at hc ⊢;by_cases h1:a.ok=true
  ·rw [aP h1] at hc ⊢;by_cases h2:c.errC=0
   ·rw [aP h2] at hc ⊢;by_cases h3:(whole a.chg c).errC=0
    ·rw [aP h3]; exact⟨h2,h3,rfl⟩
    ·rw [aO h3] at hc; exact absurd hc h3
   ·rw [aO h2] at hc; exact absurd hc h2
  ·rw [aO h1] at hc; cases hc
 obtain⟨c1,c2,c3⟩:=hcc;rw [c3];unfold Zr befM;simp only [c1,c2,e3,e4,ne_eq,not_true_eq_false,if_false,zhi W e3 e4 c (Tm.YF c1) (Tm.YF c2) day 100000 hd]
theorem zod(x:Ex):x.size<=vJ x+1:=by
 unfold vJ;cases h:qR x with
 | false=>simp
 | true=>
  obtain⟨k,r,n,d,s⟩:=x;simp [qR,Ex.kind,Ex.rat,Ex.name,Ex.date,Ex.sub] at h;obtain⟨_,_,_,_,rfl⟩:=h;simp [Ex.size,Ex.zp]
mutual
theorem uE(a:Ca):∀ c:Con,(whole a.chg c).big<=5*c.big+(c.size+c.nodes)*(a.into.length+a.ratio.length+a.extra.length)
 | .mk k s t n x d l u=>by
  have h1:=uV a x;have h2:=QH a u;have h3:=zod x;have h4:x.size*(a.into.length+a.ratio.length+a.extra.length)<=(1+vJ x+1)*(a.into.length+a.ratio.length+a.extra.length):=aT _ (by omega);rw [whole];simp only [Con.nodes,Con.size,Con.big,bH] at h1 h2 h4 ⊢;omega
theorem QH(a:Ca):∀ u:List Con,Con.bigs (qx a.chg u)<=5*Con.bigs u+(Con.zp u+Con.zw u)*(a.into.length+a.ratio.length+a.extra.length)
 | []=>by rw [qx]; simp [Con.zw,Con.bigs,Con.zp]
 | c::u=>by
  have h1:=uE a c;have h2:=QH a u;rw [qx];simp only [Con.zw,Con.bigs,Con.zp,bH] at h1 h2 ⊢;omega
end
theorem ZN{c:Con}(h:c.errC=0):c.size<=500:=by
 unfold Con.errC at h;split at h
 ·cases h
 ·rename_i g; omega
theorem zff{a:Ca}{c:Con}(h1:a.into.length<=1000/\a.ratio.length<=1000/\a.extra.length<=1000)(h2:c.nodes<=600)(h3:c.big<=1900000):(a.conv c).1.big<=13000000/\(a.conv c).1.nodes<=600/\(a.conv c).1.size<=500:=by
 have n1:Con.nil.big<=13000000/\Con.nil.nodes<=600/\Con.nil.size<=500:=by decide +kernel
 unfold conv;split
 ·split
  ·rename_i g;split
   ·rename_i g2;have e1:=ZN g;have e2:=uE a c;have e3:=(wY a c).1;have e4:(c.size+c.nodes)*(a.into.length+a.ratio.length+a.extra.length)<=1100*3000:=Nat.mul_le_mul (by omega) (by omega);exact⟨by show(whole a.chg c).big<=_; omega,by show(whole a.chg c).nodes<=_; omega,ZN g2⟩
   ·exact n1
  ·exact n1
 ·exact n1
theorem zav{a:Ca}{c:Con}(h1:a.into.length<=1000/\a.ratio.length<=1000/\a.extra.length<=1000)(h2:c.nodes<=600)(h3:c.big<=13000000):(a.conv c).1.big<=70000000/\(a.conv c).1.nodes<=600/\(a.conv c).1.size<=500:=by
 have n1:Con.nil.big<=70000000/\Con.nil.nodes<=600/\Con.nil.size<=500:=by decide +kernel
 unfold conv;split
 ·split
  ·rename_i g;split
   ·rename_i g2;have e1:=ZN g;have e2:=uE a c;have e3:=(wY a c).1;have e4:(c.size+c.nodes)*(a.into.length+a.ratio.length+a.extra.length)<=1100*3000:=Nat.mul_le_mul (by omega) (by omega);exact⟨by show(whole a.chg c).big<=_; omega,by show(whole a.chg c).nodes<=_; omega,ZN g2⟩
   ·exact n1
  ·exact n1
 ·exact n1
theorem J9{a:Ca}{f:List Fx}{h:List Ch}(hb:(a.before f h).2=0):(a.before f h).1.1.length<=1000:=by
 have:=(jG.1 (jt hb [] 0).1).1;exact Nat.le_of_not_lt λq=>this (.inl q)
end Ca
end Go.Nov
end
section
set_option maxRecDepth 100000
open Go Go.Sx Go.Proofs Go.Nov
namespace Go.Proofs.Tryz
attribute [local simp] eqKV eqA eqA0 eqH eqB eqL eqL0
noncomputable def K24:=Go.Sx.aA f24
def JA(x:Con):Prop:=x.nodes<=1000/\x.big<2^38/\x.size<2^21
def zd9(n:Nat):Ctr:=ctrP true (λx:Con=>[x.conA]) (λx=>x.nodes<n/\JA x) (λx r=>r<=2^60+100000*x.nodes) (λ_ (r:Nat)=>(.i (r:Int),[]))
def SWk(m i:Nat):KV:=[(1,.ptr 0 0),(3,.i (m:Int)),(4,.i (i:Int)),Z 20,Z 21]
noncomputable def GWk0:=tb U2 tz
noncomputable def GWkc(n:Nat):Nat->Option Ctr:=λf=>if f=24 then some (zd9 n) else GWk0.g f
theorem zd6{n:Nat}(ih:zc prog 24 (zd9 n)):∀ g c,GWkc n g=some c->zc prog g c:=λg c h=>by
 unfold GWkc at h;split at h
 ·rename_i e; cases h; subst e; exact ih
 ·exact GWk0.h g c h
theorem zhr(n:Nat)(ih:zc prog 24 (zd9 n)):zc prog 24 (zd9 (n+1)):=by
 refine zf' f24 λx hp O w0 Q hq=> ?_
 obtain⟨hxn,hle,hbg,hsz⟩:=hp;refine zb.n (zd6 ih) [1,3,4,20,21] (.ex (q26 [(Ex.exA x.x)]) λn=>.all (λ(r:Nat)=>r=Ex.size n) λn=>.S ((n:Int)*max (1:Int) (x.days.length:Int)) (.S ((1:Int)+n*max (1:Int) (x.days.length:Int)) (.leaf (.loop (lps K24 0).1 (lps K24 0).2 [(1,.ptr 0 0),(3,.i ((1:Int)+n*max (1:Int) (x.days.length:Int))),(4,.i 0),Z 20,Z 21] [.box (Con.zd x)])))) ?_;simp only [q26,Tree.holds,ze,inR,lo,hi,aD];have hbig:=Con.xm x;have hnod:=Con.jH x;have hsze:=Con.size_eq x;have hxs:=Ca.zod x.x;have hW:x.x.size*max 1 x.days.length<=2^21*2^38:=Nat.mul_le_mul (by omega) (by omega);refine⟨x.x,⟨⟨qF x.x,trivial⟩,by omega⟩,⟨_,rfl⟩,?_⟩;rintro _ rfl;obtain⟨W,hWe⟩:∃ W,x.x.size*max 1 x.days.length=W:=⟨_,rfl⟩;have e1:(x.x.size:Int)*max 1 (x.days.length:Int)=(W:Int):=by rw [<- hWe]; simp only [Int.natCast_mul]; congr 1; omega
 rw [hWe] at hW;simp only [e1];refine⟨by omega,λ_=>⟨by omega,λ_=> ?_⟩⟩;refine zb.loop (ι:={q:Nat×Nat // q.2<=x.sub.length/\q.1<=2^60+100000*(1+Con.zw (x.sub.take q.2))}) (λq=>SWk q.1.1 q.1.2) (λ_=>[.box x.zd]) (λq=>x.sub.length - q.1.2) ⟨(1+W,0),aI _,by simp only [List.take_zero,Con.zw]; omega⟩ 0 ?_ ?_ (by kernel_rfl)
 ·exact⟨by simp [SWk],⟨zB x,trivial⟩,by kernel_rfl,aI _⟩
 ·rintro⟨⟨m,i⟩,h1,h2⟩;simp only at h1 h2;refine zb.n (zd6 ih) [1,3,4,20,21] (.ite (bif decide ((i:Int)<(x.sub.length:Int)) then decide ((m:Int)<100000) else false) (.side ((0:Int)<=i/\(i:Int)<(x.sub.length:Int)) (.ex (λ(x_1:Con)=>eqL [(Con.conD (List.getD x.sub (i:Int).toNat Con.nil))] [(Con.conA x_1)]/\Con.nodes x_1<n/\JA x_1) λn=>.all (λ(r:Nat)=>r<=1152921504606846976+100000*Con.nodes n) λn=>.S ((m:Int)+n) (.S (i+1) (.leaf (.back 0 [(1,.ptr 0 0),(3,.i ((m:Int)+n)),(4,.i (i+1)),Z 20,Z 21] [.box (Con.zd x)]))))) (.R [.i m] [.box (Con.zd x)])) ?_;simp only [Tree.holds,ze,inR,lo,hi,aD];have hlt2:=Con.Qh x.sub i;refine⟨λhlt=> ?_,λhge=> ?_⟩
  ·have hlt1:i<x.sub.length/\m<100000:=by
    by_cases g1:i<x.sub.length
    ·by_cases g2:m<100000
     ·exact⟨g1,g2⟩
     ·rw [aW (show ¬ (m:Int)<100000 by omega)] at hlt;cases hx:decide ((i:Int)<x.sub.length)<;>rw [hx] at hlt<;>cases hlt
    ·rw [aW (show ¬ (i:Int)<x.sub.length by omega)] at hlt;cases hlt
   obtain⟨hlt,hm⟩:=hlt1;have g1:=Con.qZ hlt;have g2:=Con.vD hlt;have g3:=Con.Z4 hlt;have g4:=Con.zM hlt;refine⟨by omega,λ_=>⟨x.sub.getD i Con.nil,⟨⟨yH _,trivial⟩,by omega,by omega,by omega,by omega⟩,⟨0,aI _⟩,?_⟩⟩;intro r hr;have hlb:=Con.xq x.sub;refine⟨by omega,λ_=>⟨by omega,λ_=> ?_⟩⟩;rw [aP trivial];exact⟨⟨(m+r,i+1),hlt,by simp only; omega⟩,by show x.sub.length - (i+1)<x.sub.length - i; omega,by simp [SWk],⟨zB x,trivial⟩,by kernel_rfl,aI _⟩
  ·exact RetR.scal (hq m (by omega)) rfl (by simp [resV])
def zd8:Ctr:=ctrP true (λx:Con=>[x.conA]) JA (λx r=>r<=2^60+100000*x.nodes) (λ_ (r:Nat)=>(.i (r:Int),[]))
theorem zrm:zc prog 24 zd8:=jf Con.nodes zhr
def zmh:Ctr:=ctrP true (λp:Con×(List Fx×List Ch)=>[p.1.conA,envA p.2.1 p.2.2]) (λp=>JA p.1/\p.2.1.length<=2000/\p.2.2.length<=2000) (λ_ (_:Bool)=>True) (λ_ (r:Bool)=>(.bool r,[]))
noncomputable def GHv:=tb zrm tz
theorem zj2:zc prog 9 zmh:=by
 refine zf' f9 λp hp O w0 Q hq=> ?_
 obtain⟨c,f,h⟩:=p;obtain⟨hw,hf,hh⟩:=hp;simp only at hw hf hh;have hn:=hw.1;refine zb.n GHv.h [] (.ex (λ(x:Con)=>eqL [(Con.conA c)] [(Con.conA x)]/\JA x) λn=>.all (λ(r:Nat)=>r<=1152921504606846976+100000*Con.nodes n) λn=>.side (decide ((60000:Int)<n)=false->inR .i64 ((10:Int)+f.length)) (.side (decide ((60000:Int)<n)=false->inR .i64 ((10:Int)+f.length+(h.length:Int))) (.side (decide ((60000:Int)<n)=false->inR .i64 ((n:Int)*((10:Int)+f.length+(h.length:Int)))) (.R [.bool (bif decide ((60000:Int)<n) then true else decide ((600000:Int)<n*((10:Int)+f.length+(h.length:Int))))] [.box (Con.zd c),.box [.sl f.length 3 (fxG f),.sl h.length 4 (chG h)]])))) ?_;simp only [Tree.holds,ze,inR,lo,hi,aD];refine⟨c,⟨⟨zQ c,trivial⟩,hw⟩,⟨0,aI _⟩,λr hr=> ?_⟩;refine⟨λ_=>by omega,λ_=>⟨λ_=>by omega,λ_=>⟨λg=> ?_,λ_=>RetR.scal (hq (bif decide (60000<(r:Int)) then true else decide (600000<(r:Int)*(10+(f.length:Int)+(h.length:Int)))) trivial) rfl (by simp [resV])⟩⟩⟩;have g:¬ 60000<(r:Int):=aC g;obtain⟨K,hK⟩:∃ K,10+f.length+h.length=K:=⟨_,rfl⟩;have e1:(10:Int)+f.length+h.length=(K:Int):=by omega
 have hm:r*K<=60000*4010:=Nat.mul_le_mul (by omega) (by omega);have e2:(r:Int)*(K:Int)=((r*K:Nat):Int):=(Int.natCast_mul r K).symm;rw [e1,e2];omega
structure AlkA where
 l:List Fl
 m:List Fl
 e:Int
 f:Int
def zkc:Ctr:=ctrP true (λp:AlkA=>[flS p.l,flS p.m,.i p.e,.i p.f]) (λp=>p.l.length<2^40/\p.m.length<2^40) (λp r=>p.e=p.f->p.l=p.m->r=true) (λ_ (r:Bool)=>(.bool r,[]))
noncomputable def GAk:=tb zmi tz
theorem zij:zc prog 13 zkc:=by
 refine zf' f13 λp hp O w0 Q hq=> ?_
 obtain⟨l,m,e,f⟩:=p;obtain⟨hl,hm⟩:=hp;simp only at hl hm hq;refine zb.n GAk.h [] (.ex (λ(x:List Fl×List Fl)=>(bif decide (e=14) then true else decide (f=14))=false/\decide (e=f)=true->eqL [.sl l.length 5 (flG l),.sl m.length 5 (flG m)] [.sl x.1.length 5 (flG x.1),.sl x.2.length 5 (flG x.2)]/\x.1.length<1099511627776) λn=>.all (λ(x:Bool)=>(bif decide (e=14) then true else decide (f=14))=false/\decide (e=f)=true->(x=true↔n.1=n.2)) λn=>.R [.bool (bif bif decide (e=14) then true else decide (f=14) then true else bif decide (e=f) then n else false)] []) ?_;simp only [Tree.holds,ze,inR,lo,hi,aD];refine⟨(l,m),λ_=>⟨⟨⟨rfl,rfl,za _ _ _⟩,⟨rfl,rfl,za _ _ _⟩,trivial⟩,hl⟩,(X5 _).imp λ_ h _=>h,λb hb=> ?_⟩;refine RetR.scal (hq (bif (bif decide (e=14) then true else decide (f=14)) then true else(bif decide (e=f) then b else false)) λhe hlm=> ?_) rfl (by simp [resV]);cases hc:(bif decide (e=14) then true else decide (f=14)) with
 | true=>rfl
 | false=>
  have:b=true:=(hb ⟨hc,aX he⟩).2 hlm;rw [this,aX he]; rfl
theorem YO(x:Fl):∀ l:List Fl,(insF x l).length=l.length+1
 | []=>rfl
 | y::l=>by rw [insF]; split<;>simp [YO x l]
theorem Ka:∀ (l m:List Fl),(l.foldl (λm x=>insF x m) m).length=m.length+l.length
 | [],m=>rfl
 | x::l,m=>by rw [List.foldl_cons,Ka l,YO,aL]; omega
theorem zoc(l:List Fl):(ordM l).length=l.length:=by
 unfold ordM; rw [Ka]; simp
theorem zim(c:Con)(fr:Int)(f:List Fx)(h:List Ch):(Zr c fr f h).1.length<=c.nodes:=by
 unfold Zr befM;split
 ·simp
 split
 ·simp
 split
 ·simp
 split
 ·simp
 ·rename_i u hu;have:=(W7 c hu).1;simp only [zoc];omega
noncomputable def GCf:=tb zbs (tb zpv (tb zfi (tb zlr (tb zj2 (tb zq7 (tb J3 (tb zax (tb zij tz))))))))
structure CcA where
 a:Ca
 b:Ca
 c:Con
 day:Int
 v:List Fx×List Ch
def ztw:Ctr:=ctrP true (λp:CcA=>[p.a.av,p.b.av,p.c.conA,.i p.day,envA p.v.1 p.v.2]) (λp=>p.c.thin/\zrw p.v) (λ_ r=>r=true) (λ_ (r:Bool)=>(.bool r,[]))
abbrev q67(A:List AV)(x:FI):Prop:=eqL A [(Con.conA x.c),.i x.day,.agg [.sl x.f.length 3 (fxG x.f),.sl x.h.length 4 (chG x.h)]]/\FI.pre x
abbrev q66(A:List AV)(x:Ca×Con):Prop:=eqL A [.agg [.str x.1.name,.str x.1.into,.i x.1.date,.str x.1.ratio,.str x.1.extra],(Con.conA x.2)]/\jK x.1/\Con.big x.2<67108864/\Con.nodes x.2<=1000000
theorem zkq:zc prog 4 ztw:=by
 refine zf' f4 λp hp O w0 Q hq=> ?_
 obtain⟨a,b,c,day,f,h⟩:=p;obtain⟨hc,hv⟩:=hp;replace hq:=hq _ rfl;simp only at hc hv;refine zb.n GCf.h [] (let v12:=Con.conA c;let v9:List AV:=[.sl f.length 3 (fxG f),.sl h.length 4 (chG h)];let v7:List AV:=[.str b.name,.str b.into,.i b.date,.str b.ratio,.str b.extra];let v6:List AV:=[.str a.name,.str a.into,.i a.date,.str a.ratio,.str a.extra];let v4:=[AV.sl f.length 3 (fxG f),AV.sl h.length 4 (chG h)];let v3:=[AV.str b.name,AV.str b.into,AV.i b.date,AV.str b.ratio,AV.str b.extra];let v2:=[AV.str a.name,AV.str a.into,AV.i a.date,AV.str a.ratio,AV.str a.extra];.ex (q52 []) λn=>.all (λ(r:Bool)=>r=true) λn=>.ex (λ(x:Ca)=>eqL [.agg v2] [.agg [.str x.name,.str x.into,.i x.date,.str x.ratio,.str x.extra]]/\True) λn_1=>.all (λ(r:Bool)=>r=false->List.length n_1.name<=1000/\List.length n_1.into<=1000/\List.length n_1.ratio<=1000/\List.length n_1.extra<=1000) λn_2=>.ex (λ(x:Ca)=>n_2=false->eqL [.agg v3] [.agg [.str x.name,.str x.into,.i x.date,.str x.ratio,.str x.extra]]/\True) λn_3=>.all (λ(x:Bool)=>n_2=false->x=false->List.length n_3.name<=1000/\List.length n_3.into<=1000/\List.length n_3.ratio<=1000/\List.length n_3.extra<=1000) λn_4=>.ex (λ(x:Con)=>(bif n_2 then true else n_4)=false->eqL [v12] [(Con.conA x)]/\Con.thin x) λn_5=>.all (λ(x:Bool)=>(bif n_2 then true else n_4)=false->x=false->Con.nodes n_5<=600/\Con.big n_5<=1900000) λn_6=>.ex (λ(x:List Fx×List Ch)=>(bif bif n_2 then true else n_4 then true else n_6)=false->eqL [.agg v4] [.agg [.sl x.1.length 3 (fxG x.1),.sl x.2.length 4 (chG x.2)]]/\x.1.length<1152921504606846976/\x.2.length<1152921504606846976/\(∀ (j:Nat),j<x.1.length->zjh (List.getD x.1 j Fx.nil))/\∀ (j:Nat),j<x.2.length->zda (List.getD x.2 j Ch.nil)) λn_7=>.all (λ(x:Bool)=>(bif bif n_2 then true else n_4 then true else n_6)=false->x=false->fitP n_7) λn_8=>.ex (λ(x:Con×List Fx×List Ch)=>(bif bif bif n_2 then true else n_4 then true else n_6 then true else n_8)=false->eqL [v12,.agg v4] [(Con.conA x.1),.agg [.sl x.2.1.length 3 (fxG x.2.1),.sl x.2.2.length 4 (chG x.2.2)]]/\JA x.1/\x.2.1.length<=2000/\x.2.2.length<=2000) λn_9=>.all (λ(x:Bool)=>(bif bif bif n_2 then true else n_4 then true else n_6 then true else n_8)=false->True) λn_10=>.ite (bif bif bif bif bif bif bif bif n_2 then true else n_4 then true else n_6 then true else n_8 then true else n_10 then true else decide (day<Ca.date a) then true else decide (day<Ca.date b) then true else decide (Ca.date b<Ca.date a) then true else !n) (.R [.bool n] [.box v6,.box v7,.box (Con.zd c),.box v9]) (.ex (q66 [.agg v2,v12]) λn_11=>let v8:=Ca.conv n_11.1 n_11.2;let v10:=Prod.snd v8=(0:Int);.A λn_12=>.ex (q66 [.agg v3,(Con.conD v8.1)]) λn_13=>let v5:=Ca.conv n_13.1 n_13.2;let v11:=Prod.snd v5=(0:Int);.A λn_14=>.ex (q55 [.agg v3,.agg v4]) λn_15=>.all (λ(r:(List Fx×List Ch)×Int)=>r=Ca.before n_15.1 n_15.2.1 n_15.2.2) λn_16=>.ex (q55 [.agg v2,.agg [.sl n_16.1.1.length 3 (fxG n_16.1.1),.sl n_16.1.2.length 4 (chG n_16.1.2)]]) λn_17=>.all (λ(r:(List Fx×List Ch)×Int)=>r=Ca.before n_17.1 n_17.2.1 n_17.2.2) λn_18=>let v1:List Blk:=[.box v6,.box v7,.box (Con.zd c),.box v9,.box (Con.vM v8.1),.box (Con.vM v5.1),.box [.sl n_16.1.1.length 3 (fxG n_16.1.1),.sl n_16.1.2.length 4 (chG n_16.1.2)],.box [.sl n_18.1.1.length 3 (fxG n_18.1.1),.sl n_18.1.2.length 4 (chG n_18.1.2)]];.ex (λ(x:Con×List Fx×List Ch)=>(bif bif bif !decide v10 then true else !decide v11 then true else !decide (n_16.2=0) then true else !decide (n_18.2=0))=false->eqL [(Con.conD v5.1),.agg v4] [(Con.conA x.1),.agg [.sl x.2.1.length 3 (fxG x.2.1),.sl x.2.2.length 4 (chG x.2.2)]]/\JA x.1/\x.2.1.length<=2000/\x.2.2.length<=2000) λn_19=>.all (λ(x:Bool)=>(bif bif bif !decide v10 then true else !decide v11 then true else !decide (n_16.2=0) then true else !decide (n_18.2=0))=false->True) λn_20=>.ite (bif bif bif bif !decide v10 then true else !decide v11 then true else !decide (n_16.2=0) then true else !decide (n_18.2=0) then true else n_20) (.R [.bool n] v1) (.ex (q67 [(Con.conD v5.1),.i day,.agg v4]) λn_21=>.all (λ(r:List Fl×Int)=>r=Zr n_21.c n_21.day n_21.f n_21.h) λn_22=>.ex (q67 [v12,.i day,.agg [.sl n_18.1.1.length 3 (fxG n_18.1.1),.sl n_18.1.2.length 4 (chG n_18.1.2)]]) λn_23=>.all (λ(r:List Fl×Int)=>r=Zr n_23.c n_23.day n_23.f n_23.h) λn_24=>.ex (λ(x:AlkA)=>n=true->eqL [.sl n_22.1.length 5 (flG n_22.1),.sl n_24.1.length 5 (flG n_24.1),.i n_22.2,.i n_24.2] [.sl x.l.length 5 (flG x.l),.sl x.m.length 5 (flG x.m),.i x.e,.i x.f]/\List.length x.l<1099511627776/\List.length x.m<1099511627776) λn_25=>.all (λ(x:Bool)=>n=true->AlkA.e n_25=AlkA.f n_25->AlkA.l n_25=AlkA.m n_25->x=true) λn_26=>.R [.bool (bif n then n_26 else false)] v1))) ?_;simp only [q52,q55,q66,q67,Tree.holds,ze,inR,lo,hi,aD];refine⟨(),⟨trivial,trivial⟩,⟨true,rfl⟩,?_⟩;rintro _ rfl;have ha:∀ a:Ca,eqA (.agg [.str a.name,.str a.into,.i a.date,.str a.ratio,.str a.extra]) a.av:=λa=>⟨rfl,rfl,⟨rfl,rfl⟩,rfl,rfl,trivial⟩
 have he:∀ (f:List Fx) (c:List Ch),eqA (.agg [.sl f.length 3 (fxG f),.sl c.length 4 (chG c)]) (envA f c):=λf c=>⟨⟨rfl,rfl,za _ _ _⟩,⟨rfl,rfl,za _ _ _⟩,trivial⟩
 refine⟨a,⟨⟨ha a,trivial⟩,trivial⟩,⟨true,λh=>by cases h⟩,λb0 g0=> ?_⟩;refine⟨b,λ_=>⟨⟨ha b,trivial⟩,trivial⟩,⟨true,λ_ h=>by cases h⟩,λb1 g1=> ?_⟩;refine⟨c,λ_=>⟨⟨zQ c,trivial⟩,hc⟩,⟨true,λ_ h=>by cases h⟩,λb2 g2=> ?_⟩;refine⟨(f,h),λ_=>⟨⟨he f h,trivial⟩,hv⟩,⟨true,λ_ h=>by cases h⟩,λb3 g3=> ?_⟩;have hsz:=Con.Y5 c;refine⟨(c,f,h),λg=> ?_,⟨true,λ_=>trivial⟩,λb4 _=> ?_⟩
 ·obtain⟨rfl,rfl,rfl,rfl⟩:b0=false/\b1=false/\b2=false/\b3=false:=by
   cases b0<;>cases b1<;>cases b2<;>cases b3<;>simp at g ⊢
  obtain⟨k1,k2⟩:=g2 rfl rfl;have hfit:fitP (f,h):=g3 rfl rfl;exact⟨⟨zQ c,he f h,trivial⟩,⟨by show c.nodes<=_; omega,by show c.big<_; omega,by show c.size<_; omega⟩,by have:=hfit.1; show f.length<=_; simp only at this; omega,by have:=hfit.2.1; show h.length<=_; simp only at this; omega⟩
 refine⟨λ_=>RetR.scal hq rfl rfl,λg=> ?_⟩
 obtain⟨rfl,rfl,rfl,rfl,rfl,hday,hdb⟩:b0=false/\b1=false/\b2=false/\b3=false/\b4=false/\a.date<=day/\b.date<=day:=by
  cases b0<;>cases b1<;>cases b2<;>cases b3<;>cases b4<;>simp at g ⊢
  omega
 clear g;have ht:jK a:=g0 rfl;have htb:jK b:=g1 rfl rfl;obtain⟨k1,k2⟩:=g2 rfl rfl;have hfit:fitP (f,h):=g3 rfl rfl;clear g0 g1 g2 g3;have hE:envP (f,h):=ziq hfit;have hf1:f.length<=1100:=hfit.1;have hh1:h.length<=1100:=hfit.2.1;obtain⟨d1,d2,d3⟩:=Ca.zff ht.2 k1 k2;obtain⟨t1,t2,t3⟩:=Ca.zav htb.2 d2 d1;refine⟨(a,c),⟨⟨ha a,zQ c,trivial⟩,ht,by simp only; omega,by simp only; omega⟩,⟨(),trivial⟩,λ_ _=> ?_⟩;refine⟨(b,(a.conv c).1),⟨⟨ha b,wo _,trivial⟩,htb,by simp only; omega,by simp only; omega⟩,⟨(),trivial⟩,λ_ _=> ?_⟩;refine⟨(b,f,h),⟨⟨ha b,he f h,trivial⟩,xr htb,hE,by simp only; omega⟩,⟨_,rfl⟩,?_⟩;rintro _ rfl
 have hn1:envP (b.before f h).1/\(b.before f h).1.1.length<=1000000:=by
  by_cases x:(b.before f h).2=0
  ·exact⟨Qc (Ca.jt x [] 0).1,by have:=Ca.J9 x; omega⟩
  ·rw [Ca.zh2 x]; exact⟨Qc (f:=[]) (c:=[]) (by decide +kernel),aI _⟩
 refine⟨(a,(b.before f h).1.1,(b.before f h).1.2),⟨⟨ha a,he _ _,trivial⟩,xr ht,hn1.1,hn1.2⟩,⟨_,rfl⟩,?_⟩;rintro _ rfl;refine⟨((b.conv (a.conv c).1).1,f,h),λ_=>⟨⟨wo _,he f h,trivial⟩,⟨by show(b.conv (a.conv c).1).1.nodes<=_; omega,by show(b.conv (a.conv c).1).1.big<_; omega,by show(b.conv (a.conv c).1).1.size<_; omega⟩,by show f.length<=_; omega,by show h.length<=_; omega⟩,⟨true,λ_=>trivial⟩,λb5 _=> ?_⟩;refine⟨λg=>RetR.scal hq rfl (by simp [resV]),λg=> ?_⟩
 obtain⟨q1,q2,q3,q4,rfl⟩:(a.conv c).2=0/\(b.conv (a.conv c).1).2=0/\(b.before f h).2=0/\(a.before (b.before f h).1.1 (b.before f h).1.2).2=0/\b5=false:=by
  by_cases x:(a.conv c).2=0<;>by_cases y:(b.conv (a.conv c).1).2=0<;>by_cases z:(b.before f h).2=0<;>by_cases w:(a.before (b.before f h).1.1 (b.before f h).1.2).2=0<;>cases b5<;>simp [x,y,z,w] at g ⊢
 have hm1:=Ca.Ju (day:=day) q3 q2 hdb;have hm2:=Ca.Ju (day:=day) q4 q1 hday;have hw:=Qc (Ca.jt q4 [] 0).1;refine⟨⟨(b.conv (a.conv c).1).1,day,100000,f,h⟩,⟨⟨wo _,⟨rfl,rfl⟩,he f h,trivial⟩,by show(b.conv (a.conv c).1).1.big<_; omega,by show(b.conv (a.conv c).1).1.nodes<=_; omega,hE⟩,⟨_,rfl⟩,?_⟩;rintro _ rfl;refine⟨⟨c,day,100000,(a.before (b.before f h).1.1 (b.before f h).1.2).1.1,(a.before (b.before f h).1.1 (b.before f h).1.2).1.2⟩,⟨⟨zQ c,⟨rfl,rfl⟩,he _ _,trivial⟩,by show c.big<_; omega,by show c.nodes<=_; omega,hw⟩,⟨_,rfl⟩,?_⟩;rintro _ rfl;have l1:=zim (b.conv (a.conv c).1).1 day f h;simp only;rw [<- hm2,<- hm1];generalize Zr (b.conv (a.conv c).1).1 day f h=m at l1 ⊢;refine⟨⟨m.1,m.1,m.2,m.2⟩,λ_=>⟨⟨⟨rfl,rfl,za _ _ _⟩,⟨rfl,rfl,za _ _ _⟩,⟨rfl,rfl⟩,⟨rfl,rfl⟩,trivial⟩,by show m.1.length<_; omega,by show m.1.length<_; omega⟩,⟨true,λ_ _ _=>rfl⟩,λb hb=> ?_⟩;obtain rfl:b=true:=hb trivial rfl rfl;exact RetR.scal hq rfl (by simp [resV])
end Go.Proofs.Tryz
end
section
namespace Go.Sx
variable [Stat]
open Go.RowKit (Below)
def E0:Nat->Prop:=Own (λ_=>False) []
theorem KE(b:Nat):¬ E0 b:=by
 rintro(h | ⟨e,he,_⟩)
 ·exact h
 ·simp at he
def Tw(P:Program)(W:World)(t:TypeId)(cs:List Value):Prop:=∃ (H:Type) (enc:TypeId×Value->H) (base fuel:Nat) (d:DataW H) (ps:List MemPlace),DataW.trod enc P W base (λ_=>true) true fuel t cs=some (d,ps)/\∀ n∈d.weights P t,n<=reachBytes
section
variable {P:Program} {W:World} {t e:TypeId} {cs:List Value}
theorem wP(ht:P.underlying t=some .string)(h:Tw P W t cs):∃ s:L8,cs=[.string ⟨s.toArray⟩]/\s.length<=reachBytes:=by
 obtain⟨H,enc,base,fuel,d,ps,h,hw⟩:=h;obtain⟨s,rfl,hx,_⟩:=DataW.trod_string ht h;cases hx;exact⟨s.data.toList,by simp,hw _ (by simp [DataW.weights])⟩
theorem xH{k:IntKind}(ht:P.underlying t=some (.int k))(h:Tw P W t cs):∃ n,cs=[.int k n]/\(Lit.int k n).wf=true:=by
 obtain⟨H,enc,base,fuel,d,ps,h,hw⟩:=h;obtain⟨n,rfl,hx,hwf⟩:=DataW.trod_int ht h;exact⟨n,rfl,hwf⟩
theorem zr6(ht:P.underlying t=some .bool)(h:Tw P W t cs):∃ b,cs=[.bool b]:=by
 obtain⟨H,enc,base,fuel,d,ps,h,hw⟩:=h;obtain⟨b,rfl,hx⟩:=DataW.trod_bool ht h;exact⟨b,rfl⟩
theorem yM{fs:Array Field}(ht:P.underlying t=some (.struct fs))(h:Tw P W t cs):cs.length=P.cellsOf t/\∀ (i:Nat) (f:Field),fs[i]?=some f->Tw P W f.type ((cs.drop f.offset).take (P.cellsOf f.type)):=by
 obtain⟨H,enc,base,fuel,d,ps,h,hw⟩:=h;obtain⟨xs,n,_,hx,hl,hlen,hf⟩:=DataW.trod_struct ht h;cases hx;refine⟨hl,λi f hfi=> ?_⟩;have hi:=hf i f hfi
 have hlt:i<xs.length:=by
  rw [hlen]; exact(aQ.1 hfi).1
 rw [aF hlt] at hi;refine⟨H,enc,base,n,xs[i].1,xs[i].2,hi,λm hm=>hw m ?_⟩;simp only [DataW.weights,ht];exact DataW.weights_mem_each (j:=i) (t:=f.type) (d:=xs[i].1) (by simp [hfi]) (by simp [hlt]) m hm
theorem kA{H:Type}{d:DataW H} : ∀ {l:List (DataW H)},d∈l->∀ n∈d.weights P e,n∈DataW.weightsAll P e l
 | x::l,hd,n,hn=>by
  simp only [DataW.weightsAll,bZ];rcases aM.1 hd with rfl | hd
  ·exact .inl hn
  ·exact .inr (kA hd n hn)
theorem zme(ht:P.underlying t=some (.slice e))(h:Tw P W t cs):cs=[.slice none 0 0]\/∃ (a:Addr) (len cap:Nat),cs=[.slice (some a) len cap]/\len<=cap/\cap*P.bytesOf e<=reachBytes /\
  ∀ i,i<len->∃ cs',cs'.length=P.cellsOf e/\(∀ o,o<P.cellsOf e->W.cell? ((a.add (i*P.cellsOf e)).add o)=cs'[o]?)/\Tw P W e cs':=by
 obtain⟨H,enc,base,fuel,d,ps,h,hw⟩:=h;rcases DataW.trod_slice ht h with ⟨rfl,_⟩ | ⟨a,len,cap,elems,rest,n,_,rfl,hx,hb,hl,hm,hlen,hel,hsp,_⟩
 ·exact .inl rfl
 ·right;cases hx;obtain⟨hrl,_⟩:=hsp rfl;simp only [DataW.weights,ht] at hw;refine⟨a,len,cap,rfl,hl,?_,λi hi=> ?_⟩
  ·have:=hw _ (List.mem_cons_self);simp only [List.length_map,hlen,hrl] at this
   rwa [show len+(cap - len)=cap by omega] at this
  ·have h1:=hel i hi;have hlt:i<elems.length:=by rw [hlen]; exact hi
   rw [aF hlt,Option.bind_eq_some_iff] at h1;obtain⟨cs',h2,h3⟩:=h1;obtain⟨_,h4,h5⟩:=World.cells?_some h2;refine⟨cs',h4,h5,H,enc,base,n,elems[i].1,elems[i].2,h3,λm hm2=>hw m ?_⟩;simp only [aM,bZ];exact .inr (.inl (kA (d:=elems[i].1) (List.mem_map.2 ⟨elems[i],bK hlt,rfl⟩) m hm2))
theorem ZV{α:Type}(z:α)(cell:α->Nat->AV)(good:α->Prop){sz:Nat}(ht:P.underlying t=some (.slice e))(hsz:P.cellsOf e=sz)(hpos:0<sz)
  (hel:∀ cs',Tw P W e cs'->∃ x:α,good x/\∀ o,o<sz->∃ c,cs'[o]?=some c/\c.oneCell'=true/\Rep E0 W (cell x o) [] c) (h:Tw P W t cs) :
  ∃ (l:List α) (v:Value),cs=[v]/\(∀ x∈l,good x)/\l.length*P.bytesOf e<=reachBytes/\v.oneCell'=true/\Rep E0 W (.sl l.length sz λj=>cell (l.getD j z)) [] v:=by
 rcases zme ht h with rfl | ⟨a,len,cap,rfl,hl,hw,hx⟩
 ·refine⟨[],_,rfl,by simp,by simp,rfl,?_⟩;simp only [Rep];exact⟨none,0,rfl,aJ _,.inl rfl⟩
 ·rw [hsz] at hx
  have hx2:∀ i,∃ x:α,i<len->good x/\∀ o,o<sz->∃ c,W.cell? ((a.add (i*sz)).add o)=some c/\c.oneCell'=true/\Rep E0 W (cell x o) [] c:=λi=>by
   by_cases hi:i<len
   ·obtain⟨cs',h1,h2,h3⟩:=hx i hi;obtain⟨x,hg,hc⟩:=hel cs' h3
    exact⟨x,λ_=>⟨hg,λo ho=>by
     obtain⟨c,g1,g2,g3⟩:=hc o ho;exact⟨c,by rw [h2 o ho,g1],g2,g3⟩⟩⟩
   ·exact⟨z,λh=>absurd h hi⟩
  obtain⟨f,hf⟩:=Classical.axiomOfChoice hx2;have hgd:∀ j,j<len->((List.range len).map f).getD j z=f j:=λj hj=>by simp [List.getD,hj]
  refine⟨(List.range len).map f,_,rfl,λx hxm=> ?_,?_,rfl,?_⟩
  ·obtain⟨i,hi,rfl⟩:=List.mem_map.1 hxm;exact(hf i (List.mem_range.1 hi)).1
  ·simp only [List.length_map,List.length_range];exact bP (aT _ hl) hw
  ·simp only [Rep,List.length_map,List.length_range];refine⟨some a,cap,rfl,hl,?_⟩;rcases bC len with h0 | h0
   ·exact .inl h0
   ·right
    have hspot:a.spot=none:=by
     obtain⟨c,g1,_⟩:=(hf 0 h0).2 0 hpos;have:=World.cell?_spot g1;simpa [Addr.add] using this
    refine⟨a,rfl,hspot,λj o hj ho=>⟨KE _,?_⟩⟩;obtain⟨c,g1,g2,g3⟩:=(hf j hj).2 o ho;refine⟨c,?_,g2,by rw [hgd j hj]; exact g3⟩;rw [<- g1];obtain⟨b,off,spot⟩:=a;simp only at hspot;subst hspot;congr 1;simp only [Addr.add];split<;>split<;>simp_all<;>omega
theorem zhm{g:Nat}{fn:Func}{c:Code}(hf:P.funcs[g]?=some fn)(hb:fn.body=some c) (hn:(fn.name == "runtime.NumGoroutine")=false) {ctr:Ctr} (hok:zc P g ctr) {args:List AV} {vals:List Value}
  (hspec:(ctr.spec args []).holds λr=>r=(.bool true,[])) (hr:RepL E0 W args [] vals) (hst:kC E0 W):Calls P g vals.toArray W λe W'=>e = .returned (.bool true)/\Below W.heap.size W W':=by
 have hn':¬ fn.name = "runtime.NumGoroutine" :=by simpa using hn
 have hg:Good (λ_=>False) W []:=⟨λb h=>h.elim,λi e ad he=>by simp at he,hst⟩;have hh:HRep (Own (λ_=>False) []) W [] []:=⟨rfl,λi j e f a b he=>by simp at he,λi e a he=>by simp at he,λi e b he=>by simp at he⟩;rcases hok args [] _ hspec (λ_=>rfl) (λ_=>False) W [] vals hg hh hr with ⟨_,h⟩ | ⟨v,w',h,_⟩
 ·refine h.mono ?_;rintro e W' ⟨v,rfl,r,hs,Z',hq,h1,_,_,_,_,hx⟩;cases hq;simp only [Rep] at h1;subst h1;exact⟨rfl,hx.os,hx.tape,hx.output,hx.size,λk hk=>hx.keep k hk λ⟨e,he,_⟩=>by simp at he⟩
 ·simp [callFunc,hf,hn',hb] at h
end
end Go.Sx
end
section
namespace Go.Sx
variable [Stat]
def TwN(P:Program)(W:World)(fuel:Nat)(t:TypeId)(cs:List Value):Prop:=∃ (H:Type) (enc:TypeId×Value->H) (base:Nat) (d:DataW H) (ps:List MemPlace),DataW.trod enc P W base (λ_=>true) true fuel t cs=some (d,ps)/\∀ n∈d.weights P t,n<=reachBytes
section
variable {P:Program} {W:World} {t e:TypeId} {cs:List Value}
theorem TwN.tw{fuel:Nat}(h:TwN P W fuel t cs):Tw P W t cs:=by
 obtain⟨H,enc,base,d,ps,h,hw⟩:=h;exact⟨H,enc,base,fuel,d,ps,h,hw⟩
theorem Tw.twn(h:Tw P W t cs):∃ fuel,TwN P W fuel t cs:=by
 obtain⟨H,enc,base,fuel,d,ps,h,hw⟩:=h;exact⟨fuel,H,enc,base,d,ps,h,hw⟩
theorem Jy{fuel:Nat}{fs:Array Field}(ht:P.underlying t=some (.struct fs))(h:TwN P W fuel t cs):cs.length=P.cellsOf t/\∃ n,n<fuel/\∀ (i:Nat) (f:Field),fs[i]?=some f->TwN P W n f.type ((cs.drop f.offset).take (P.cellsOf f.type)):=by
 obtain⟨H,enc,base,d,ps,h,hw⟩:=h;obtain⟨xs,n,hn,hx,hl,hlen,hf⟩:=DataW.trod_struct ht h;cases hx;refine⟨hl,n,by omega,λi f hfi=> ?_⟩;have hi:=hf i f hfi
 have hlt:i<xs.length:=by
  rw [hlen]; exact(aQ.1 hfi).1
 rw [aF hlt] at hi;refine⟨H,enc,base,xs[i].1,xs[i].2,hi,λm hm=>hw m ?_⟩;simp only [DataW.weights,ht];exact DataW.weights_mem_each (j:=i) (t:=f.type) (d:=xs[i].1) (by simp [hfi]) (by simp [hlt]) m hm
theorem zfu{fuel:Nat}(ht:P.underlying t=some (.slice e))(h:TwN P W fuel t cs):cs=[.slice none 0 0]\/∃ (a:Addr) (len cap n:Nat),n<fuel/\cs=[.slice (some a) len cap]/\len<=cap/\cap*P.bytesOf e<=reachBytes /\
  ∀ i,i<len->∃ cs',cs'.length=P.cellsOf e/\(∀ o,o<P.cellsOf e->W.cell? ((a.add (i*P.cellsOf e)).add o)=cs'[o]?)/\TwN P W n e cs':=by
 obtain⟨H,enc,base,d,ps,h,hw⟩:=h;rcases DataW.trod_slice ht h with ⟨rfl,_⟩ | ⟨a,len,cap,elems,rest,n,hn,rfl,hx,hb,hl,hm,hlen,hel,hsp,_⟩
 ·exact .inl rfl
 ·right;cases hx;obtain⟨hrl,_⟩:=hsp rfl;simp only [DataW.weights,ht] at hw;refine⟨a,len,cap,n,by omega,rfl,hl,?_,λi hi=> ?_⟩
  ·have:=hw _ (List.mem_cons_self);simp only [List.length_map,hlen,hrl] at this
   rwa [show len+(cap - len)=cap by omega] at this
  ·have h1:=hel i hi;have hlt:i<elems.length:=by rw [hlen]; exact hi
   rw [aF hlt,Option.bind_eq_some_iff] at h1;obtain⟨cs',h2,h3⟩:=h1;obtain⟨_,h4,h5⟩:=World.cells?_some h2;refine⟨cs',h4,h5,H,enc,base,elems[i].1,elems[i].2,h3,λm hm2=>hw m ?_⟩;simp only [aM,bZ];exact .inr (.inl (kA (d:=elems[i].1) (List.mem_map.2 ⟨elems[i],bK hlt,rfl⟩) m hm2))
theorem J7{α:Type}(z:α)(cell:α->Nat->AV)(good:α->Prop){sz fuel:Nat}(ht:P.underlying t=some (.slice e))(hsz:P.cellsOf e=sz)(hpos:0<sz)
  (hel:∀ n cs',n<fuel->TwN P W n e cs'->∃ x:α,good x/\∀ o,o<sz->∃ c,cs'[o]?=some c/\c.oneCell'=true/\Rep E0 W (cell x o) [] c) (h:TwN P W fuel t cs) :
  ∃ (l:List α) (v:Value),cs=[v]/\(∀ x∈l,good x)/\l.length*P.bytesOf e<=reachBytes/\v.oneCell'=true/\Rep E0 W (.sl l.length sz λj=>cell (l.getD j z)) [] v:=by
 rcases zfu ht h with rfl | ⟨a,len,cap,n,hn,rfl,hl,hw,hx⟩
 ·refine⟨[],_,rfl,by simp,by simp,rfl,?_⟩;simp only [Rep];exact⟨none,0,rfl,aJ _,.inl rfl⟩
 ·rw [hsz] at hx
  have hx2:∀ i,∃ x:α,i<len->good x/\∀ o,o<sz->∃ c,W.cell? ((a.add (i*sz)).add o)=some c/\c.oneCell'=true/\Rep E0 W (cell x o) [] c:=λi=>by
   by_cases hi:i<len
   ·obtain⟨cs',h1,h2,h3⟩:=hx i hi;obtain⟨x,hg,hc⟩:=hel n cs' hn h3
    exact⟨x,λ_=>⟨hg,λo ho=>by
     obtain⟨c,g1,g2,g3⟩:=hc o ho;exact⟨c,by rw [h2 o ho,g1],g2,g3⟩⟩⟩
   ·exact⟨z,λh=>absurd h hi⟩
  obtain⟨f,hf⟩:=Classical.axiomOfChoice hx2;have hgd:∀ j,j<len->((List.range len).map f).getD j z=f j:=λj hj=>by simp [List.getD,hj]
  refine⟨(List.range len).map f,_,rfl,λx hxm=> ?_,?_,rfl,?_⟩
  ·obtain⟨i,hi,rfl⟩:=List.mem_map.1 hxm;exact(hf i (List.mem_range.1 hi)).1
  ·simp only [List.length_map,List.length_range];exact bP (aT _ hl) hw
  ·simp only [Rep,List.length_map,List.length_range];refine⟨some a,cap,rfl,hl,?_⟩;rcases bC len with h0 | h0
   ·exact .inl h0
   ·right
    have hspot:a.spot=none:=by
     obtain⟨c,g1,_⟩:=(hf 0 h0).2 0 hpos;have:=World.cell?_spot g1;simpa [Addr.add] using this
    refine⟨a,rfl,hspot,λj o hj ho=>⟨KE _,?_⟩⟩;obtain⟨c,g1,g2,g3⟩:=(hf j hj).2 o ho;refine⟨c,?_,g2,by rw [hgd j hj]; exact g3⟩;rw [<- g1];obtain⟨b,off,spot⟩:=a;simp only at hspot;subst hspot;congr 1;simp only [Addr.add];split<;>split<;>simp_all<;>omega
theorem zjs{H:Type}{enc:TypeId×Value->H}{base:Nat}{sp:Nat->Bool}{held:Bool}{fuel:Nat}{kd:IntKind}{ps:List Int}{q:List MemPlace}(ht:P.underlying t=some (.slice e))(he:P.underlying e=some (.int kd))(hc:P.cellsOf e=1)(hne:ps≠[])
  (h:DataW.trod enc P W base sp held fuel t cs=some (.slice (ps.map λz=>.lit (.int kd z)) [],q)):∃ c,cs=[c]/\c.oneCell'=true/\Rep E0 W (.sl ps.length 1 λj _=>.int kd (ps.getD j 0)) [] c:=by
 obtain⟨a,cap,rfl,hl,hel⟩:=open_row ht hc h;refine⟨_,rfl,rfl,?_⟩;simp only [List.length_map] at hl
 have hv:∀ j,j<ps.length->W.cell? (a.add j)=some (.int kd (ps.getD j 0)):=λj hj=>by
  obtain⟨v,n,q',h1,h2⟩:=hel j (.lit (.int kd (ps.getD j 0))) (by simp [List.getD,hj]);obtain⟨m,h3,h4,_⟩:=DataW.trod_int he h2;simp only [List.cons.injEq,and_true] at h3;simp only [bE,DataW.lit.injEq,Lit.int.injEq,true_and] at h4;rw [h1,h3,h4.1]
 simp only [Rep,List.length_map];refine⟨some a,cap,rfl,hl,.inr ⟨a,rfl,?_,λj o hj ho=>⟨KE _,.int kd (ps.getD j 0),?_,rfl,rfl⟩⟩⟩
 ·have:=World.cell?_spot (hv 0 (List.length_pos_iff.2 hne));simpa [Addr.add] using this
 ·have:o=0:=by omega
  subst this
  have hs:a.spot=none:=by
   have:=World.cell?_spot (hv 0 (List.length_pos_iff.2 hne));simpa [Addr.add] using this
  rw [<- hv j hj];obtain⟨b,off,spot⟩:=a;simp only at hs;subst hs;congr 1;simp only [Addr.add];split<;>simp_all
end
section
open Go.WideElems Go.ChangeMaps
variable {H:Type} {enc:TypeId×Value->H} {P:Program} {W:World} {base:Nat} {sp:Nat->Bool} {held:Bool}
theorem JF{x:Lit×DataW H} : ∀ {l:List (Lit×DataW H)},x∈l.foldr DataW.insert []↔x∈l
 | []=>Iff.rfl
 | y::l=>by rw [List.foldr_cons,mem_insert_iff,JF,aM]
theorem Xz{g:Nat}{t k e:TypeId}{kd:IntKind}{ag:Bool}{sz:Nat}{ks:List Int}{has:Int->Bool}{get:Int->Nat->AV}{fuel:Nat}{c:Value}{es0:List (Lit×DataW H)}{q:List MemPlace}
  (hg:(Stat.z g).isSome=true) (ht:P.underlying t=some (.map k e)) (hk:P.underlying k=some (.int kd)) (hc:W.cell? ⟨g,0,none⟩=some c) (hne:es0≠[])
  (h:DataW.trod enc P W base sp held fuel t [c]=some (.map es0,q))
  (hin:∀ (n:Int) (d:DataW H),(.int kd n,d)∈es0->has n=true/\∀ (v:Value) (m:Nat) (q:List MemPlace),v.formed P e=true->DataW.trod enc P W base sp held m e v.cells.toList=some (d,q) ->
   match ag with
   | true=>∃ vs:List Value,v = .agg vs.toArray/\vs.length=sz/\∀ o,o<sz->∃ c,vs[o]?=some c/\Rep E0 W (get n o) [] c
   | false=>Rep E0 W (get n 0) [] v)
  (hout:∀ n,has n=true->∃ d,(.int kd n,d)∈es0):Rep E0 W (.mp kd ag sz ks has get) [] c/\∀ b,c = .map (some b)->b<W.heap.size:=by
 rcases open_map ht h with ⟨_,hx⟩ | ⟨b,es,clock,n,_,hcs,hb,_,F,hx⟩
 ·simp at hx
 ·simp only [List.cons.injEq,and_true] at hcs;subst hcs;simp only [bE,DataW.map.injEq] at hx
  have hkey:∀ x∈es.toList,∃ (m:Int) (z:DataW H×List MemPlace),x.key = .int kd m/\elemAt enc P W base sp held n e x.val=some z/\(.int kd m,z.1)∈es0:=by
   intro x hxm;obtain⟨y,hy⟩:=F.reads x hxm;have h1:=rd_key hy;obtain⟨z,h2,h3⟩:=rd_val hy;have h4:y∈es0:=by rw [hx.1,JF]; exact List.mem_map.2 ⟨x,hxm,rg_of hy⟩
   have h5:mapKey P k x.key=some y.1:=by
    simp only [keyOf,hk] at h1;exact h1
   unfold mapKey at h5;rw [hk] at h5;cases hxk:x.key with
   | int k' m=>
    rw [hxk] at h5;simp only at h5;split at h5
    ·rename_i hc2;have h6:=Option.some.inj h5;obtain⟨rfl,_⟩:=hc2;refine⟨m,z,rfl,h2,?_⟩;rw [h6,<- h3]; exact h4
    ·cases h5
   | _=>rw [hxk] at h5; simp at h5
  have hlt:b<W.heap.size:=(aQ.1 hb).1;refine⟨?_,λb' hb'=>by cases hb'; exact hlt⟩;simp only [Rep];refine⟨b,es,clock,rfl,KE _,⟨g,KE _,hg,hc⟩,hb,λm=> ?_⟩
  have hspec:=MapKept.findNow_spec (d:=.int kd) (k:=.int kd m) (by simp [MapKept.IsKey]) es.toList 0 (λx hxm=>by
   obtain⟨m',z,h1,_⟩:=hkey x hxm;rw [h1]; simp [MapKept.IsKey])
  rcases hspec with ⟨h1,h2⟩ | ⟨j,x,h1,h2,h3⟩
  ·refine⟨λ_=>h1,λhm=> ?_⟩;obtain⟨d,hd⟩:=hout m hm;rw [hx.1,JF] at hd;obtain⟨x,hxm,hrx⟩:=List.mem_map.1 hd;obtain⟨y,hy⟩:=F.reads x hxm;rw [rg_of hy] at hrx;have h5:=rd_key hy;rw [hrx] at h5;obtain⟨m',z,g1,_⟩:=hkey x hxm
   have:keyOf P k x.key=some (.int kd m'):=by
    rw [g1] at h5 ⊢;simp only [keyOf,hk,mapKey] at h5 ⊢;split at h5
    ·rename_i hwf; rw [aP hwf]
    ·cases h5
   rw [this] at h5;cases h5;exact absurd g1 (h2 x hxm)
  ·have hxm:x∈es.toList:=aY h2;obtain⟨m',z,g1,g2,g3⟩:=hkey x hxm;rw [h3] at g1;cases g1;obtain⟨hh,hrep⟩:=hin m z.1 g3;refine⟨λhf=>(by rw [hf] at hh; cases hh),λ_=>⟨_,x.val,h1,?_⟩⟩;unfold elemAt at g2;split at g2
   ·rename_i hfm;exact hrep x.val n z.2 hfm g2
   ·cases g2
end
end Go.Sx
end
section
set_option maxRecDepth 100000
namespace Go.Proofs.YtjhnhncmkllgmaaGreatDoor
open Go Go.Sx Go.Nov Go.Proofs.Tryz Go.ChangeShapes Go.WideShapes Go.ChangeAt Go.RowKit
theorem j5:Tryz.prog.cellsOf 9=1:=by kernel_rfl
theorem yN:Tryz.prog.cellsOf 22=1:=by kernel_rfl
theorem kg:Tryz.prog.cellsOf 3=1:=by kernel_rfl
theorem zam:Tryz.prog.cellsOf 4=1:=by kernel_rfl
theorem Ug:Tryz.prog.cellsOf 60=3:=by kernel_rfl
theorem U1:Tryz.prog.cellsOf 67=4:=by kernel_rfl
theorem zob:Tryz.prog.cellsOf 32=1:=by kernel_rfl
theorem zib:Tryz.prog.cellsOf 33=1:=by kernel_rfl
theorem zha:Tryz.prog.cellsOf 35=2:=by kernel_rfl
def zjj(x:Fx):Prop:=x.name.length<=reachBytes/\x.value.length<=reachBytes
def zof(x:Ch):Prop:=x.zL.length<=reachBytes/\x.name.length<=reachBytes
theorem zmm{W:World}{cs:List Value}(h:Tw Tryz.prog W 60 cs):∃ x:Fx,zjj x/\cs=[.string ⟨x.name.toArray⟩,.i x.date,.string ⟨x.value.toArray⟩]:=by
 obtain⟨hl,hf⟩:=yM Tryz.underlying60 h;rw [Ug] at hl
 match cs,hl with
 | [a,b,c],_=>
  have h0:Tw Tryz.prog W 9 (([a,b,c].drop 0).take (Tryz.prog.cellsOf 9)):=hf 0 _ rfl;rw [j5] at h0;replace h0:Tw Tryz.prog W 9 [a]:=h0;have h1:Tw Tryz.prog W 3 (([a,b,c].drop 1).take (Tryz.prog.cellsOf 3)):=hf 1 _ rfl;rw [kg] at h1;replace h1:Tw Tryz.prog W 3 [b]:=h1;have h2:Tw Tryz.prog W 22 (([a,b,c].drop 2).take (Tryz.prog.cellsOf 22)):=hf 2 _ rfl;rw [yN] at h2;replace h2:Tw Tryz.prog W 22 [c]:=h2;obtain⟨s,e0,w0⟩:=wP Tryz.underlying9 h0;obtain⟨n,e1,w1⟩:=xH Tryz.underlying3 h1;obtain⟨u,e2,w2⟩:=wP Tryz.underlying22 h2;cases e0; cases e1; cases e2;exact⟨⟨s,n,u⟩,⟨w0,w2⟩,rfl⟩
theorem zky{W:World}{cs:List Value}(h:Tw Tryz.prog W 67 cs):∃ x:Ch,zof x/\cs=[.string ⟨x.zL.toArray⟩,.string ⟨x.name.toArray⟩,.i x.date,.bool x.first]:=by
 obtain⟨hl,hf⟩:=yM Tryz.underlying67 h;rw [U1] at hl
 match cs,hl with
 | [a,b,c,d],_=>
  have h0:Tw Tryz.prog W 9 (([a,b,c,d].drop 0).take (Tryz.prog.cellsOf 9)):=hf 0 _ rfl;rw [j5] at h0;replace h0:Tw Tryz.prog W 9 [a]:=h0;have h1:Tw Tryz.prog W 9 (([a,b,c,d].drop 1).take (Tryz.prog.cellsOf 9)):=hf 1 _ rfl;rw [j5] at h1;replace h1:Tw Tryz.prog W 9 [b]:=h1;have h2:Tw Tryz.prog W 3 (([a,b,c,d].drop 2).take (Tryz.prog.cellsOf 3)):=hf 2 _ rfl;rw [kg] at h2;replace h2:Tw Tryz.prog W 3 [c]:=h2;have h3:Tw Tryz.prog W 4 (([a,b,c,d].drop 3).take (Tryz.prog.cellsOf 4)):=hf 3 _ rfl;rw [zam] at h3;replace h3:Tw Tryz.prog W 4 [d]:=h3;obtain⟨s,e0,w0⟩:=wP Tryz.underlying9 h0;obtain⟨u,e1,w1⟩:=wP Tryz.underlying9 h1;obtain⟨n,e2,w2⟩:=xH Tryz.underlying3 h2;obtain⟨b,e3⟩:=zr6 Tryz.underlying4 h3;cases e0; cases e1; cases e2; cases e3;exact⟨⟨s,u,n,b⟩,⟨w0,w1⟩,rfl⟩
theorem zfj{W:World}{cs:List Value}(h:Tw Tryz.prog W 35 cs):∃ (f:List Fx) (c:List Ch) (u v:Value),cs=[u,v]/\(∀ x∈f,zjj x)/\(∀ x∈c,zof x)/\f.length*40<=reachBytes/\c.length*48<=reachBytes/\Rep E0 W (fxS f) [] u/\Rep E0 W (chS c) [] v:=by
 obtain⟨hl,hf⟩:=yM Tryz.underlying35 h;rw [zha] at hl
 match cs,hl with
 | [a,b],_=>
  have h0:Tw Tryz.prog W 32 (([a,b].drop 0).take (Tryz.prog.cellsOf 32)):=hf 0 _ rfl;rw [zob] at h0;replace h0:Tw Tryz.prog W 32 [a]:=h0;have h1:Tw Tryz.prog W 33 (([a,b].drop 1).take (Tryz.prog.cellsOf 33)):=hf 1 _ rfl;rw [zib] at h1;replace h1:Tw Tryz.prog W 33 [b]:=h1
  obtain⟨f,u,e0,gf,wf,_,rf⟩:=ZV Fx.nil Fx.cell zjj Tryz.underlying32 Ug (by decide) (λcs' h'=>by
   obtain⟨x,hx,rfl⟩:=zmm h';refine⟨x,hx,λo ho=> ?_⟩
   match o,ho with
   | 0,_=>exact⟨_,rfl,rfl,by simp [Fx.cell,Rep]⟩
   | 1,_=>exact⟨_,rfl,rfl,by simp [Fx.cell,Rep]⟩
   | 2,_=>exact⟨_,rfl,rfl,by simp [Fx.cell,Rep]⟩) h0
  obtain⟨c,v,e1,gc,wc,_,rc⟩:=ZV Ch.nil Ch.cell zof Tryz.underlying33 U1 (by decide) (λcs' h'=>by
   obtain⟨x,hx,rfl⟩:=zky h';refine⟨x,hx,λo ho=> ?_⟩
   match o,ho with
   | 0,_=>exact⟨_,rfl,rfl,by simp [Ch.cell,Rep]⟩
   | 1,_=>exact⟨_,rfl,rfl,by simp [Ch.cell,Rep]⟩
   | 2,_=>exact⟨_,rfl,rfl,by simp [Ch.cell,Rep]⟩
   | 3,_=>exact⟨_,rfl,rfl,by simp [Ch.cell,Rep]⟩) h1
  cases e0; cases e1;have b1:Tryz.prog.bytesOf 60=40:=by kernel_rfl
  have b2:Tryz.prog.bytesOf 67=48:=by kernel_rfl
  rw [b1] at wf;rw [b2] at wc;exact⟨f,c,_,_,rfl,gf,gc,wf,wc,rf,rc⟩
theorem zrg{W:World}{cs:List Value}(h:Tw Tryz.prog W 35 cs):∃ p:List Fx×List Ch,zrw p/\Rep E0 W (envA p.1 p.2) [] (.agg cs.toArray):=by
 obtain⟨f,c,u,v,rfl,gf,gc,wf,wc,rf,rc⟩:=zfj h;have hr:=reachBytes_lt;refine⟨(f,c),⟨by show f.length<_; omega,by show c.length<_; omega,λj hj=> ?_,λj hj=> ?_⟩,?_⟩
 ·have:=gf (f.getD j Fx.nil) (by simp only at hj; simp [List.getD,hj]);exact⟨by have:=this.1; show(f.getD j Fx.nil).name.length<_; omega,by have:=this.2; show(f.getD j Fx.nil).value.length<_; omega⟩
 ·have:=gc (c.getD j Ch.nil) (by simp only at hj; simp [List.getD,hj]);exact⟨by have:=this.1; show(c.getD j Ch.nil).zL.length<_; omega,by have:=this.2; show(c.getD j Ch.nil).name.length<_; omega⟩
 ·simp only [RepL,Rep,envA];exact⟨[u,v],rfl,u,_,rfl,rf,v,_,rfl,rc,rfl⟩
theorem zpc{W:World}{cs:List Value}(h:Tw Tryz.prog W 3 cs):∃ n:Int,cs=[.i n]/\inR .i64 n/\Rep E0 W (.i n) [] (.i n):=by
 obtain⟨n,rfl,hn⟩:=xH Tryz.underlying3 h;refine⟨n,rfl,?_,by simp [Rep]⟩;simp only [Lit.wf,bA,aK] at hn;exact hn
theorem UL:Tryz.prog.cellsOf 5=1:=by kernel_rfl
theorem zhx:Tryz.prog.cellsOf 25=1:=by kernel_rfl
theorem Wg:Tryz.prog.cellsOf 27=5:=by kernel_rfl
theorem Y4:∀ {l:List Ex},(∀ x∈l,x.thin)->Ex.wC l
 | [],_=>by rw [Ex.wC]; trivial
 | x::l,h=>by rw [Ex.wC]; exact⟨h x (by simp),Y4 λy hy=>h y (by simp [hy])⟩
theorem zjw{W:World} : ∀ (fuel:Nat) {cs:List Value},TwN Tryz.prog W fuel 27 cs ->
  ∃ (x:Ex) (v:Value),x.thin/\cs=[.int .u8 x.kind,.string ⟨x.rat.toArray⟩,.string ⟨x.name.toArray⟩,.i x.date,v]/\v.oneCell'=true/\Rep E0 W (.sl x.sub.length 5 x.deep) [] v:=by
 intro fuel
 induction fuel using Nat.strongRecOn with
 | ind fuel ih=>
  intro cs h;obtain⟨hl,n,hn,hf⟩:=Jy Tryz.underlying27 h;rw [Wg] at hl
  match cs,hl with
  | [a,b,c,d,e],_=>
   have h0:TwN Tryz.prog W n 5 (([a,b,c,d,e].drop 0).take (Tryz.prog.cellsOf 5)):=hf 0 _ rfl;rw [UL] at h0;replace h0:TwN Tryz.prog W n 5 [a]:=h0;have h1:TwN Tryz.prog W n 22 (([a,b,c,d,e].drop 1).take (Tryz.prog.cellsOf 22)):=hf 1 _ rfl;rw [yN] at h1;replace h1:TwN Tryz.prog W n 22 [b]:=h1;have h2:TwN Tryz.prog W n 9 (([a,b,c,d,e].drop 2).take (Tryz.prog.cellsOf 9)):=hf 2 _ rfl;rw [j5] at h2;replace h2:TwN Tryz.prog W n 9 [c]:=h2;have h3:TwN Tryz.prog W n 3 (([a,b,c,d,e].drop 3).take (Tryz.prog.cellsOf 3)):=hf 3 _ rfl;rw [kg] at h3;replace h3:TwN Tryz.prog W n 3 [d]:=h3;have h4:TwN Tryz.prog W n 25 (([a,b,c,d,e].drop 4).take (Tryz.prog.cellsOf 25)):=hf 4 _ rfl;rw [zhx] at h4;replace h4:TwN Tryz.prog W n 25 [e]:=h4;obtain⟨k,e0,_⟩:=xH Tryz.underlying5 h0.tw;obtain⟨r,e1,w1⟩:=wP Tryz.underlying22 h1.tw;obtain⟨m,e2,w2⟩:=wP Tryz.underlying9 h2.tw;obtain⟨z,e3,_⟩:=xH Tryz.underlying3 h3.tw
   obtain⟨l,v,e4,gl,_,hone,hr⟩:=J7 Ex.nil (λx=>Ex.cell x.kind x.rat x.name x.date x.sub.length x.deep) Ex.thin Tryz.underlying25 Wg (by decide) (λn' cs' hn' h'=>by
    obtain⟨x,v,hx,rfl,hv,hr⟩:=ih n' (by omega) h';refine⟨x,hx,λo ho=> ?_⟩
    match o,ho with
    | 0,_=>exact⟨_,rfl,rfl,by simp [Ex.cell,Rep]⟩
    | 1,_=>exact⟨_,rfl,rfl,by simp [Ex.cell,Rep]⟩
    | 2,_=>exact⟨_,rfl,rfl,by simp [Ex.cell,Rep]⟩
    | 3,_=>exact⟨_,rfl,rfl,by simp [Ex.cell,Rep]⟩
    | 4,_=>exact⟨v,rfl,hv,hr⟩) h4
   cases e0; cases e1; cases e2; cases e3; cases e4;have hb:reachBytes<=2^48:=by decide
   refine⟨.mk k r m z l,_,?_,rfl,hone,?_⟩
   ·rw [Ex.thin]; exact⟨bP w1 hb,bP w2 hb,Y4 gl⟩
   ·have hq:=Ex.qb (.mk k r m z l);simp only [Ex.sub] at hq ⊢;simp only [Rep] at hr ⊢;obtain⟨a,cap,hv,hle,hcase⟩:=hr;refine⟨a,cap,hv,hle,hcase.imp id λ⟨ad,g1,g2,g3⟩=>⟨ad,g1,g2,λj o hj ho=> ?_⟩⟩;obtain⟨g4,c,g5,g6,g7⟩:=g3 j o hj ho;refine⟨g4,c,g5,g6,?_⟩;rw [hq j o hj ho];exact g7
theorem zm7:Tryz.prog.cellsOf 24=5:=by kernel_rfl
theorem zlk{W:World}{cs:List Value}(h:Tw Tryz.prog W 24 cs):∃ x:Ca,True/\Rep E0 W x.av [] (.agg cs.toArray):=by
 obtain⟨hl,hf⟩:=yM Tryz.underlying24 h;rw [zm7] at hl
 match cs,hl with
 | [a,b,c,d,e],_=>
  have h0:Tw Tryz.prog W 9 (([a,b,c,d,e].drop 0).take (Tryz.prog.cellsOf 9)):=hf 0 _ rfl;rw [j5] at h0;replace h0:Tw Tryz.prog W 9 [a]:=h0;have h1:Tw Tryz.prog W 9 (([a,b,c,d,e].drop 1).take (Tryz.prog.cellsOf 9)):=hf 1 _ rfl;rw [j5] at h1;replace h1:Tw Tryz.prog W 9 [b]:=h1;have h2:Tw Tryz.prog W 3 (([a,b,c,d,e].drop 2).take (Tryz.prog.cellsOf 3)):=hf 2 _ rfl;rw [kg] at h2;replace h2:Tw Tryz.prog W 3 [c]:=h2;have h3:Tw Tryz.prog W 22 (([a,b,c,d,e].drop 3).take (Tryz.prog.cellsOf 22)):=hf 3 _ rfl;rw [yN] at h3;replace h3:Tw Tryz.prog W 22 [d]:=h3;have h4:Tw Tryz.prog W 22 (([a,b,c,d,e].drop 4).take (Tryz.prog.cellsOf 22)):=hf 4 _ rfl;rw [yN] at h4;replace h4:Tw Tryz.prog W 22 [e]:=h4;obtain⟨x0,y0,w0⟩:=wP Tryz.underlying9 h0;obtain⟨x1,y1,w1⟩:=wP Tryz.underlying9 h1;obtain⟨x2,y2,w2⟩:=xH Tryz.underlying3 h2;obtain⟨x3,y3,w3⟩:=wP Tryz.underlying22 h3;obtain⟨x4,y4,w4⟩:=wP Tryz.underlying22 h4;cases y0; cases y1; cases y2; cases y3; cases y4;refine⟨⟨x0,x1,x2,x3,x4⟩,trivial,?_⟩;simp only [RepL,Rep,Ca.av];exact⟨_,rfl,_,_,rfl,rfl,_,_,rfl,rfl,_,_,rfl,rfl,_,_,rfl,rfl,_,_,rfl,rfl,rfl⟩
theorem zlu:Tryz.prog.cellsOf 28=1:=by kernel_rfl
theorem zl3:Tryz.prog.cellsOf 29=1:=by kernel_rfl
theorem Kw:Tryz.prog.cellsOf 31=12:=by kernel_rfl
theorem K6:∀ {l:List Con},(∀ x∈l,x.thin)->Con.wC l
 | [],_=>by rw [Con.wC]; trivial
 | x::l,h=>by rw [Con.wC]; exact⟨h x (by simp),K6 λy hy=>h y (by simp [hy])⟩
theorem Ws{W:World}{n sz:Nat}{g g':Nat->Nat->AV}{v:Value}(hq:eqG n sz g g')(hr:Rep E0 W (.sl n sz g') [] v):Rep E0 W (.sl n sz g) [] v:=by
 simp only [Rep] at hr ⊢;obtain⟨a,cap,hv,hle,hcase⟩:=hr;refine⟨a,cap,hv,hle,hcase.imp id λ⟨ad,g1,g2,g3⟩=>⟨ad,g1,g2,λj o hj ho=> ?_⟩⟩;obtain⟨g4,c,g5,g6,g7⟩:=g3 j o hj ho;exact⟨g4,c,g5,g6,by rw [hq j o hj ho]; exact g7⟩
theorem zgx{W:World} : ∀ (fuel:Nat) {cs:List Value},TwN Tryz.prog W fuel 31 cs ->
  ∃ (x:Con) (u v w:Value),x.thin/\cs=[.int .u8 x.kind,.string ⟨x.src.toArray⟩,.string ⟨x.dst.toArray⟩,.string ⟨x.name.toArray⟩,.int .u8 x.x.kind,.string ⟨x.x.rat.toArray⟩,.string ⟨x.x.name.toArray⟩,.i x.x.date,u,.i x.date,v,w] /\
   (u.oneCell'=true/\v.oneCell'=true/\w.oneCell'=true)/\Rep E0 W (.sl x.x.sub.length 5 (Ex.exG x.x.sub)) [] u/\Rep E0 W (.sl x.days.length 1 (Con.dayG x.days)) [] v/\Rep E0 W (.sl x.sub.length 12 x.deep) [] w:=by
 intro fuel
 induction fuel using Nat.strongRecOn with
 | ind fuel ih=>
  intro cs h;obtain⟨hl,n,hn,hf⟩:=Jy Tryz.underlying31 h;rw [Kw] at hl
  match cs,hl with
  | [a,b,c,d,e0,e1,e2,e3,e4,f,g,k],_=>
   have h0:TwN Tryz.prog W n 5 (([a,b,c,d,e0,e1,e2,e3,e4,f,g,k].drop 0).take (Tryz.prog.cellsOf 5)):=hf 0 _ rfl;rw [UL] at h0;replace h0:TwN Tryz.prog W n 5 [a]:=h0;have h1:TwN Tryz.prog W n 9 (([a,b,c,d,e0,e1,e2,e3,e4,f,g,k].drop 1).take (Tryz.prog.cellsOf 9)):=hf 1 _ rfl;rw [j5] at h1;replace h1:TwN Tryz.prog W n 9 [b]:=h1;have h2:TwN Tryz.prog W n 9 (([a,b,c,d,e0,e1,e2,e3,e4,f,g,k].drop 2).take (Tryz.prog.cellsOf 9)):=hf 2 _ rfl;rw [j5] at h2;replace h2:TwN Tryz.prog W n 9 [c]:=h2;have h3:TwN Tryz.prog W n 9 (([a,b,c,d,e0,e1,e2,e3,e4,f,g,k].drop 3).take (Tryz.prog.cellsOf 9)):=hf 3 _ rfl;rw [j5] at h3;replace h3:TwN Tryz.prog W n 9 [d]:=h3;have h4:TwN Tryz.prog W n 27 (([a,b,c,d,e0,e1,e2,e3,e4,f,g,k].drop 4).take (Tryz.prog.cellsOf 27)):=hf 4 _ rfl;rw [Wg] at h4;replace h4:TwN Tryz.prog W n 27 [e0,e1,e2,e3,e4]:=h4;have h5:TwN Tryz.prog W n 3 (([a,b,c,d,e0,e1,e2,e3,e4,f,g,k].drop 9).take (Tryz.prog.cellsOf 3)):=hf 5 _ rfl;rw [kg] at h5;replace h5:TwN Tryz.prog W n 3 [f]:=h5;have h6:TwN Tryz.prog W n 28 (([a,b,c,d,e0,e1,e2,e3,e4,f,g,k].drop 10).take (Tryz.prog.cellsOf 28)):=hf 6 _ rfl;rw [zlu] at h6;replace h6:TwN Tryz.prog W n 28 [g]:=h6;have h7:TwN Tryz.prog W n 29 (([a,b,c,d,e0,e1,e2,e3,e4,f,g,k].drop 11).take (Tryz.prog.cellsOf 29)):=hf 7 _ rfl;rw [zl3] at h7;replace h7:TwN Tryz.prog W n 29 [k]:=h7;obtain⟨x0,y0,_⟩:=xH Tryz.underlying5 h0.tw;obtain⟨x1,y1,w1⟩:=wP Tryz.underlying9 h1.tw;obtain⟨x2,y2,w2⟩:=wP Tryz.underlying9 h2.tw;obtain⟨x3,y3,w3⟩:=wP Tryz.underlying9 h3.tw;obtain⟨x4,u,g4,y4,o4,r4⟩:=zjw n h4;obtain⟨x5,y5,_⟩:=xH Tryz.underlying3 h5.tw
   obtain⟨x6,v,y6,_,l6,o6,r6⟩:=ZV 0 (λ(x:Int) _=>AV.i x) (λ_=>True) Tryz.underlying28 kg (by decide) (λcs' h'=>by
    obtain⟨x,rfl,hx⟩:=xH Tryz.underlying3 h';refine⟨x,trivial,λo ho=> ?_⟩
    match o,ho with
    | 0,_=>exact⟨_,rfl,rfl,by simp [Rep]⟩) h6.tw
   obtain⟨x7,w,y7,g7,l7,o7,r7⟩:=J7 Con.nil (λx=>Con.cell x.kind x.src x.dst x.name x.x x.date x.days x.sub.length x.deep) Con.thin Tryz.underlying29 Kw (by decide) (λn' cs' hn' h'=>by
    obtain⟨x,u,v,w,hx,rfl,⟨hu,hv,hw⟩,ru,rv,rz⟩:=ih n' (by omega) h';refine⟨x,hx,λo ho=> ?_⟩
    match o,ho with
    | 0,_=>exact⟨_,rfl,rfl,by simp [Con.cell,Rep]⟩
    | 1,_=>exact⟨_,rfl,rfl,by simp [Con.cell,Rep]⟩
    | 2,_=>exact⟨_,rfl,rfl,by simp [Con.cell,Rep]⟩
    | 3,_=>exact⟨_,rfl,rfl,by simp [Con.cell,Rep]⟩
    | 4,_=>exact⟨_,rfl,rfl,by simp [Con.cell,Rep]⟩
    | 5,_=>exact⟨_,rfl,rfl,by simp [Con.cell,Rep]⟩
    | 6,_=>exact⟨_,rfl,rfl,by simp [Con.cell,Rep]⟩
    | 7,_=>exact⟨_,rfl,rfl,by simp [Con.cell,Rep]⟩
    | 8,_=>exact⟨u,rfl,hu,ru⟩
    | 9,_=>exact⟨_,rfl,rfl,by simp [Con.cell,Rep]⟩
    | 10,_=>exact⟨v,rfl,hv,rv⟩
    | 11,_=>exact⟨w,rfl,hw,rz⟩) h7
   have b6:Tryz.prog.bytesOf 3=8:=by kernel_rfl
   have b7:Tryz.prog.bytesOf 31=184:=by kernel_rfl
   rw [b6] at l6;rw [b7] at l7;have hb:reachBytes<=2^48:=by decide
   cases y0; cases y1; cases y2; cases y3; cases y4; cases y5; cases y6; cases y7;refine⟨.mk x0 x1 x2 x3 x4 x5 x6 x7,_,_,_,?_,rfl,⟨o4,o6,o7⟩,?_,r6,?_⟩
   ·rw [Con.thin]; exact⟨bP w1 hb,bP w2 hb,bP w3 hb,g4,by omega,by omega,K6 g7⟩
   ·exact Ws (λj o hj ho=>(Ex.qb x4 j o hj ho).symm) r4
   ·exact Ws (Con.qb (.mk x0 x1 x2 x3 x4 x5 x6 x7)) r7
theorem zq5{W:World}{cs:List Value}(h:Tw Tryz.prog W 31 cs):∃ x:Con,x.thin/\Rep E0 W x.conA [] (.agg cs.toArray):=by
 obtain⟨fuel,h⟩:=h.twn;obtain⟨x,u,v,w,hx,rfl,_,r1,r2,r3⟩:=zgx fuel h;refine⟨x,hx,?_⟩;have r4:Rep E0 W (Con.conS x.sub) [] w:=Ws (λj o hj ho=>(Con.qb x j o hj ho).symm) r3;simp only [Con.conA,Rep,RepL];exact⟨_,rfl,_,_,rfl,rfl,_,_,rfl,rfl,_,_,rfl,rfl,_,_,rfl,rfl,_,_,rfl,rfl,_,_,rfl,rfl,_,_,rfl,rfl,_,_,rfl,rfl,_,_,rfl,r1,_,_,rfl,rfl,_,_,rfl,r2,_,_,rfl,r4,rfl⟩
theorem UM:Tryz.prog.cellsOf 122=1:=by kernel_rfl
theorem zoh:Tryz.prog.cellsOf 165=1:=by kernel_rfl
theorem zmr:Tryz.prog.cellsOf 167=2:=by kernel_rfl
def shpE(H:Type):List (Lit×DataW H):=shpL.map λp=>(.int .u8 p.1,.agg [.slice (p.2.1.map λz=>.lit (.int .u8 z)) [],.lit (.int .u8 p.2.2)])
theorem zon:∀ p∈shpL,uj p.1=some p.2/\p.2.1≠[]:=by decide
theorem zp8{k:Int}(h:qK k=true):∃ q,(k,q)∈shpL:=by
 unfold qK uj at h;rw [Option.isSome_map] at h;obtain⟨p,hp⟩:=Option.isSome_iff_exists.1 h;have h1:=List.find?_some hp;have h2:=List.mem_of_find?_eq_some hp;have:p.1=k:=by simpa using h1
 exact⟨p.2,by rw [<- this]; exact h2⟩
theorem zaq{W:World}{cs:List Value}{fuel:Nat}{q:List MemPlace}{c:Value}(hc:W.cell? ⟨1,0,none⟩=some c)
  (h:DataW.trod (λ_=>()) Tryz.prog W 0 (λ_=>true) false fuel 169 [c]=some (.map (shpE Unit),q)) :
  Rep E0 W (.mp .u8 true 2 [] (λk=>qK k) λk o=>match o with
   | 0=>.sl (jC k) 1 λj _=>.int .u8 (qN k j)
   | _=>.int .u8 (jm k)) [] c/\∀ b,c = .map (some b)->b<W.heap.size:=by
 refine Xz (g:=1) rfl Tryz.underlying169 Tryz.underlying5 hc (by decide) h ?_ ?_
 ·intro n d hd;obtain⟨p,hp,he⟩:=List.mem_map.1 hd;obtain⟨h1,h2⟩:=zon p hp;simp only [bE,Lit.int.injEq,true_and] at he;obtain⟨rfl,rfl⟩:=he;refine⟨by simp [qK,h1],λv m q' hf ht=> ?_⟩;obtain⟨xs,n',_,hx,hl,hlen,hfs⟩:=DataW.trod_struct Tryz.underlying167 ht;rw [zmr] at hl;cases v with
  | agg cs=>
   simp only [Value.cells] at hl hfs;obtain⟨cs⟩:=cs;simp only at hl hfs
   match cs,hl with
   | [a,b],_=>
    have f0:DataW.trod _ Tryz.prog W 0 _ false n' 165 (([a,b].drop 0).take (Tryz.prog.cellsOf 165))=xs[0]?:=hfs 0 _ rfl;have f1:DataW.trod _ Tryz.prog W 0 _ false n' 122 (([a,b].drop 1).take (Tryz.prog.cellsOf 122))=xs[1]?:=hfs 1 _ rfl;rw [zoh] at f0;rw [UM] at f1
    match xs,hlen with
    | [x0,x1],_=>
     simp only [List.map_cons,List.map_nil,bE,DataW.agg.injEq,List.cons.injEq,and_true] at hx;obtain⟨⟨hx0,hx1⟩,_⟩:=hx;have f0:DataW.trod _ Tryz.prog W 0 _ false n' 165 [a]=some x0:=f0;have f1:DataW.trod _ Tryz.prog W 0 _ false n' 122 [b]=some x1:=f1;obtain⟨x0a,x0b⟩:=x0;obtain⟨x1a,x1b⟩:=x1;simp only at hx0 hx1;subst hx0; subst hx1;obtain⟨c0,e0,_,hr⟩:=zjs Tryz.underlying165 Tryz.underlying122 UM h2 f0;cases e0;obtain⟨z,e1,e2,_⟩:=DataW.trod_int Tryz.underlying122 f1;cases e1;simp only [bE,DataW.lit.injEq,Lit.int.injEq,true_and] at e2;refine⟨[a,.int .u8 z],rfl,rfl,λo ho=> ?_⟩;have g1:qw p.1=p.2.1:=by simp [qw,h1]
     have g2:jm p.1=p.2.2:=by simp [jm,h1]
     match o,ho with
     | 0,_=>
      refine⟨a,rfl,?_⟩;show Rep E0 W (.sl (jC p.1) 1 λj _=>.int .u8 (qN p.1 j)) [] a;unfold jC qN;rw [g1];exact hr
     | 1,_=>
      refine⟨_,rfl,?_⟩;show Rep E0 W (.int .u8 (jm p.1)) [] _;simp only [Rep];rw [g2,e2.1]
  | _=>simp [Value.formed,Tryz.underlying167] at hf
 ·intro n hn;obtain⟨q',hq⟩:=zp8 hn;exact⟨_,List.mem_map.2 ⟨_,hq,rfl⟩⟩
theorem zpx:Tryz.prog.globalNamed "novation/observable.shapes" = some 1:=by kernel_rfl
theorem zrc:(Tryz.prog.globals[1]?).map (·.type)=some 169:=by kernel_rfl
theorem zp2:(Rows.laid_novation_observable_shapes:DataW Unit) = .map (shpE Unit):=rfl
theorem zuf:Tryz.prog.globalNamed "novation/contract.parts" = some 0:=by kernel_rfl
theorem zt5:(Tryz.prog.globals[0]?).map (·.type)=some 140:=by kernel_rfl
def prtE:List (Lit×DataW Unit):=[(.int .u8 1,.lit (.int .i64 0)),(.int .u8 2,.lit (.int .i64 15)),(.int .u8 3,.lit (.int .i64 256)),(.int .u8 4,.lit (.int .i64 136)),(.int .u8 5,.lit (.int .i64 272)),(.int .u8 6,.lit (.int .i64 160)),(.int .u8 7,.lit (.int .i64 261)),(.int .u8 8,.lit (.int .i64 197)),(.int .u8 9,.lit (.int .i64 208)),(.int .u8 10,.lit (.int .i64 208))]
theorem zly:(Rows.laid_novation_contract_parts:DataW Unit) = .map prtE:=rfl
abbrev KN:List (String×DataW Unit):=[("novation/observable.shapes",Rows.laid_novation_observable_shapes),("novation/observable.operations",Rows.laid_novation_observable_operations),("novation/contract.parts",Rows.laid_novation_contract_parts)]
theorem zg3{W:World}{cs:List Value}{fuel:Nat}{q:List MemPlace}{c:Value}(hc:W.cell? ⟨0,0,none⟩=some c)
  (h:DataW.trod (λ_=>()) Tryz.prog W 0 (λ_=>true) false fuel 140 [c]=some (.map prtE,q)) :
  Rep E0 W (.mp .u8 false 1 [] (λk=>decide (1<=k/\k<=10)) λk _=>.i (kX k)) [] c/\∀ b,c = .map (some b)->b<W.heap.size:=by
 refine Xz (g:=0) rfl Tryz.underlying140 Tryz.underlying5 hc (by decide) h ?_ ?_
 ·intro n d hd
  have one:∀ {v:Value} {m:Nat} {q:List MemPlace} {z:Int},v.formed Tryz.prog 3=true->DataW.trod (λ_=>()) Tryz.prog W 0 (λ_=>true) false m 3 v.cells.toList=some (.lit (.int .i64 z),q)->Rep E0 W (.i z) [] v:=by
   intro v m q z hf ht
   have hcell:v.cells.toList=[v]:=by
    cases v with
    | agg _=>simp [Value.formed,Tryz.underlying3] at hf
    | _=>rfl
   rw [hcell] at ht;obtain⟨z',e1,e2,_⟩:=DataW.trod_int Tryz.underlying3 ht;cases e1;simp only [bE,DataW.lit.injEq,Lit.int.injEq,true_and] at e2;simp only [Rep];rw [e2.1]
  simp only [prtE,aM,bE,Lit.int.injEq,true_and,List.not_mem_nil,or_false] at hd;rcases hd with ⟨rfl,rfl⟩ | ⟨rfl,rfl⟩ | ⟨rfl,rfl⟩ | ⟨rfl,rfl⟩ | ⟨rfl,rfl⟩ | ⟨rfl,rfl⟩ | ⟨rfl,rfl⟩ | ⟨rfl,rfl⟩ | ⟨rfl,rfl⟩ | ⟨rfl,rfl⟩<;>exact⟨rfl,λv m q hf ht=>one hf ht⟩
 ·intro n hn;have hn:=aB hn;have:n=1\/n=2\/n=3\/n=4\/n=5\/n=6\/n=7\/n=8\/n=9\/n=10:=by omega
  rcases this with rfl | rfl | rfl | rfl | rfl | rfl | rfl | rfl | rfl | rfl<;>exact⟨_,by unfold prtE; simp; rfl⟩
theorem zku{W:World} (h:laidMet Tryz.prog [("novation/observable.shapes",Rows.laid_novation_observable_shapes),("novation/contract.parts",Rows.laid_novation_contract_parts)] W):(∃ c,W.cell? ⟨1,0,none⟩=some c /\
  Rep E0 W (.mp .u8 true 2 [] (λk=>qK k) λk o=>match o with
   | 0=>.sl (jC k) 1 λj _=>.int .u8 (qN k j)
   | _=>.int .u8 (jm k)) [] c/\∀ b,c = .map (some b)->b<W.heap.size)/\∃ c,W.cell? ⟨0,0,none⟩=some c /\
  Rep E0 W (.mp .u8 false 1 [] (λk=>decide (1<=k/\k<=10)) λk _=>.i (kX k)) [] c/\∀ b,c = .map (some b)->b<W.heap.size:=by
 obtain⟨ps,⟨g0,t0,cs0,f0,p0,q0,hg0,ht0,hv0,hd0,hr0,_⟩,_,_⟩:=h;obtain⟨g1,t1,cs1,f1,p1,q1,hg1,ht1,hv1,hd1,_,_⟩:=hr0;obtain rfl:=Option.some.inj (zpx.symm.trans hg0);obtain rfl:=Option.some.inj (zrc.symm.trans ht0);obtain rfl:=Option.some.inj (zuf.symm.trans hg1);obtain rfl:=Option.some.inj (zt5.symm.trans ht1);rw [zp2] at hd0;rw [zly] at hd1
 have hone:∃ c,cs0.toList=[c]:=by
  rcases Go.WideElems.open_map Tryz.underlying169 hd0 with ⟨hcs,_⟩ | ⟨b,es,clock,n,_,hcs,_⟩
  ·exact⟨_,hcs⟩
  ·exact⟨_,hcs⟩
 have hone1:∃ c,cs1.toList=[c]:=by
  rcases Go.WideElems.open_map Tryz.underlying140 hd1 with ⟨hcs,_⟩ | ⟨b,es,clock,n,_,hcs,_⟩
  ·exact⟨_,hcs⟩
  ·exact⟨_,hcs⟩
 obtain⟨c,hcs⟩:=hone;obtain⟨c',hcs'⟩:=hone1;rw [hcs] at hd0;rw [hcs'] at hd1
 have k1:W.cell? ⟨1,0,none⟩=some c:=by
  have:=World.var?_cell hg0 hv0 0;rw [Array.eq_one_of_toList hcs] at this;simpa using this
 have k2:W.cell? ⟨0,0,none⟩=some c':=by
  have:=World.var?_cell hg1 hv1 0;rw [Array.eq_one_of_toList hcs'] at this;simpa using this
 obtain⟨r1,b1⟩:=zaq (cs:=[c]) k1 hd0;obtain⟨r2,b2⟩:=zg3 (cs:=[c']) k2 hd1;exact⟨⟨c,k1,r1,b1⟩,c',k2,r2,b2⟩
theorem gOps:Tryz.prog.globalNamed "novation/observable.operations" = some 2:=by kernel_rfl
theorem tOps:(Tryz.prog.globals[2]?).map (·.type)=some 205:=by kernel_rfl
def opNm(b:L8):L8:=[40,42,110,111,118,97,116,105,111,110,47,111,98,115,101,114,118,97,98,108,101,46,115,116,97,116,101,41,46]++b
def opEs:List (Lit×DataW L8):=[(.int .u8 4,.held (opNm [97,100,100])),(.int .u8 5,.held (opNm [115,117,98])),(.int .u8 6,.held (opNm [109,117,108])),(.int .u8 7,.held (opNm [103,114,101,97,116,101,114])),(.int .u8 8,.held (opNm [115,109,97,108,108,101,114]))]
def opsD:DataW Unit:=.map [(.int .u8 4,.iface "func" (.lit (.string (opNm [97,100,100])))),(.int .u8 5,.iface "func" (.lit (.string (opNm [115,117,98])))),(.int .u8 6,.iface "func" (.lit (.string (opNm [109,117,108])))),(.int .u8 7,.iface "func" (.lit (.string (opNm [103,114,101,97,116,101,114])))),(.int .u8 8,.iface "func" (.lit (.string (opNm [115,109,97,108,108,101,114]))))]
theorem zqr:(Rows.laid_novation_observable_operations:DataW Unit) = .iface "func table" opsD:=rfl
theorem zlh:opsD.funcsOut = .map opEs:=rfl
theorem zpw{W:World}{cs:List Value}{fuel:Nat}{q:List MemPlace}{c:Value}(hc:W.cell? ⟨2,0,none⟩=some c)
  (h:DataW.trod (funcToken Tryz.prog) Tryz.prog W 0 (λ_=>true) true fuel 205 [c]=some (.map opEs,q)) :
  Rep E0 W (.mp .u8 false 1 [4,5,6,7,8] (λk=>decide (4<=k/\k<=8)) λk _=>
  if k=4 then .fn 180 [] [] else if k=5 then .fn 181 [] [] else if k=6 then .fn 182 [] []
  else if k=7 then .fn 183 [] [] else .fn 184 [] []) [] c/\∀ b,c = .map (some b)->b<W.heap.size:=by
 refine Xz (g:=2) rfl Tryz.underlying205 Tryz.underlying5 hc (by decide) h ?_ ?_
 ·intro n d hd
  have one:∀ {v:Value} {m:Nat} {q:List MemPlace} {bs:L8} {f0:Nat},((List.range Tryz.prog.funcs.size).filter λf=>(Tryz.prog.funcs[f]?).any (·.name.toUTF8.data.toList == 40::bs))=[f0] ->
    v.formed Tryz.prog 204=true->DataW.trod (funcToken Tryz.prog) Tryz.prog W 0 (λ_=>true) true m 204 v.cells.toList=some (.held (40::bs),q)->Rep E0 W (.fn f0 [] []) [] v:=by
   intro v m q bs f0 hone hf ht
   have hcell:v.cells.toList=[v]:=by
    cases v with
    | agg _=>simp [Value.formed,Tryz.underlying204] at hf
    | _=>rfl
   rw [hcell] at ht;have:=func_of_trod Tryz.underlying204 hone ht;subst this;simp [Rep,RepL]
  simp only [opEs,aM,bE,Lit.int.injEq,true_and,List.not_mem_nil,or_false] at hd;rcases hd with ⟨rfl,rfl⟩ | ⟨rfl,rfl⟩ | ⟨rfl,rfl⟩ | ⟨rfl,rfl⟩ | ⟨rfl,rfl⟩
  ·exact⟨rfl,λv m q hf ht=>one (f0:=180) (by kernel_rfl) hf ht⟩
  ·exact⟨rfl,λv m q hf ht=>one (f0:=181) (by kernel_rfl) hf ht⟩
  ·exact⟨rfl,λv m q hf ht=>one (f0:=182) (by kernel_rfl) hf ht⟩
  ·exact⟨rfl,λv m q hf ht=>one (f0:=183) (by kernel_rfl) hf ht⟩
  ·exact⟨rfl,λv m q hf ht=>one (f0:=184) (by kernel_rfl) hf ht⟩
 ·intro n hn;have hn:=aB hn;have:n=4\/n=5\/n=6\/n=7\/n=8:=by omega
  rcases this with rfl | rfl | rfl | rfl | rfl
  ·exact⟨_,.head _⟩
  ·exact⟨_,.tail _ (.head _)⟩
  ·exact⟨_,.tail _ (.tail _ (.head _))⟩
  ·exact⟨_,.tail _ (.tail _ (.tail _ (.head _)))⟩
  ·exact⟨_,.tail _ (.tail _ (.tail _ (.tail _ (.head _))))⟩
theorem zpk{W:World}(h:laidMetH Tryz.prog KN W):kC E0 W:=by
 have h1:laidMet Tryz.prog [("novation/observable.shapes",Rows.laid_novation_observable_shapes),("novation/contract.parts",Rows.laid_novation_contract_parts)] W:=h.1;have h2:=laidMetH.funcs h (n:= "novation/observable.operations") (d:=opsD) (by simp [KN,zqr]);obtain⟨⟨c1,k1,r1,b1⟩,c3,k3,r3,b3⟩:=zku h1;obtain⟨g0,t0,cs0,f0,p0,hg0,ht0,hv0,hd0⟩:=h2;obtain rfl:=Option.some.inj (gOps.symm.trans hg0);obtain rfl:=Option.some.inj (tOps.symm.trans ht0);rw [zlh] at hd0
 have hone:∃ c,cs0.toList=[c]:=by
  rcases Go.WideElems.open_map Tryz.underlying205 hd0 with ⟨hcs,_⟩ | ⟨b,es,clock,n,_,hcs,_⟩
  ·exact⟨_,hcs⟩
  ·exact⟨_,hcs⟩
 obtain⟨c2,hcs⟩:=hone;rw [hcs] at hd0
 have k2:W.cell? ⟨2,0,none⟩=some c2:=by
  have:=World.var?_cell hg0 hv0 0;rw [Array.eq_one_of_toList hcs] at this;simpa using this
 obtain⟨r2,b2⟩:=zpw (cs:=[c2]) k2 hd0;refine⟨λg a hz=>⟨KE _,?_⟩⟩;by_cases hg:g=1
 ·subst hg;cases hz;exact⟨c1,k1,r1,b1⟩
 ·by_cases hg2:g=2
  ·subst hg2;cases hz;exact⟨c2,k2,r2,b2⟩
  ·by_cases hg3:g=0
   ·subst hg3;cases hz;exact⟨c3,k3,r3,b3⟩
   ·have:Stat.z g=none:=by
     show(if _ then _ else if _ then _ else if _ then _ else _)=_;rw [aO hg,aO hg3,aO hg2]
    rw [this] at hz; cases hz
theorem walk{W:World}{v0 v1 v2 v3 v4:List Value}(h0:Tw Tryz.prog W 24 v0)(h1:Tw Tryz.prog W 24 v1)(h2:Tw Tryz.prog W 31 v2)(h3:Tw Tryz.prog W 3 v3)(h4:Tw Tryz.prog W 35 v4)(hst:kC E0 W) :
  ∃ s3:Value,v3=[s3]/\Calls Tryz.prog 4 #[.agg v0.toArray,.agg v1.toArray,.agg v2.toArray,s3,.agg v4.toArray] W λe W'=>e = .returned (.bool true)/\Below W.heap.size W W':=by
 obtain⟨a,ag,ar⟩:=zlk h0;obtain⟨b,bg,br⟩:=zlk h1;obtain⟨c,cg,cr⟩:=zq5 h2;obtain⟨day,rfl,dayg,dayr⟩:=zpc h3;obtain⟨v,vg,vr⟩:=zrg h4;refine⟨_,rfl,?_⟩;refine zhm (fn:=Tryz.f4) (c:=Tryz.f4.body.getD .skip) rfl rfl rfl zkq (args:=[a.av,b.av,c.conA,.i day,envA v.1 v.2]) (vals:=[.agg v0.toArray,.agg v1.toArray,.agg v2.toArray,.i day,.agg v4.toArray]) ?_ ?_ hst
 ·refine⟨⟨a,b,c,day,v.1,v.2⟩,⟨?_,⟨cg,vg⟩⟩,⟨true,rfl⟩,?_⟩
  ·simp [eqL,eqA,eqA0,eqL0,envA,fxS,chS,Fx.av,Ch.av,Ex.exA,Ex.exS,Ca.av,Con.conA,Con.dayS,Con.conS,za]
  ·rintro _ rfl;rfl
 ·exact⟨_,_,rfl,ar,⟨_,_,rfl,br,⟨_,_,rfl,cr,⟨_,_,rfl,dayr,⟨_,_,rfl,vr,rfl⟩⟩⟩⟩⟩
theorem own:ownKnob Tryz.prog.godebug=none:=by kernel_rfl
theorem laid:laidOutB Tryz.prog=true:=by kernel_rfl
theorem zii(os:Os)(args:Array Value):laidMetH Tryz.prog KN ((World.doorLaid Tryz.prog 400 os).forCall (λ_ _=>0) ⟨#[],args,[]⟩).memory:=
 laidMetH_of_parts3 (fuel:=8) (laidMet_of_run' 8 (by kernel_rfl) (by kernel_rfl)) (by kernel_rfl) (by kernel_rfl)
theorem lifted(os:Os)(started:os.Started)(H:Type)(enc:TypeId×Value->H) :
  ReturnsInHanded {} Tryz.checked os 4 .any (λw args=>(Rows.corporateChainSpec.pre enc Tryz.prog Tryz.f4 [] false w args/\laidMetH Tryz.prog KN w)/\sizedMet enc Tryz.prog Tryz.f4 (OpenSpec.ofChange Rows.corporateChainSpec) false w args)
   (Rows.corporateChainSpec.post enc Tryz.prog Tryz.f4 false true false false):=by
 refine returnsInHanded_of_change_and (C:=Tryz.checked) (X:=λw _=>laidMetH Tryz.prog KN w) (λ_ _ _ hh h=>h.of_heap hh) own started (by kernel_rfl) Tryz.func4
  (ChangeSpec.witness_shaped (enc:=enc) (C:=Tryz.checked) (os:=os) (X:=λw _=>laidMetH Tryz.prog KN w) false (World.doorLaid Tryz.prog 400 os) #[.agg #[.string ⟨#[]⟩,.string ⟨#[]⟩,.i 0,.string ⟨#[]⟩,.string ⟨#[]⟩],.agg #[.string ⟨#[]⟩,.string ⟨#[]⟩,.i 0,.string ⟨#[]⟩,.string ⟨#[]⟩],.agg #[.int .u8 0,.string ⟨#[]⟩,.string ⟨#[]⟩,.string ⟨#[]⟩,.int .u8 0,.string ⟨#[]⟩,.string ⟨#[]⟩,.i 0,.slice none 0 0,.i 0,.slice none 0 0,.slice none 0 0],.i 0,.agg #[.slice none 0 0,.slice none 0 0]] 8 rfl (World.shaped_of_RefB (by kernel_rfl) (by kernel_rfl)) (by kernel_rfl) (by kernel_rfl) (by kernel_rfl) (zii os _)) ?_
 intro W base args ds gs before hval0 hW hcnd hwt hL _;have hval:∀ (j:Nat) t v,Tryz.f4.params[j]?=some t->args[j]?=some v->Value.okWide Tryz.prog W .any base t v:=hval0;have hW':=hW;obtain⟨p,q,hA0,hV,rfl,hfz,hnd⟩:=hW;have hA:DataW.TrodAll enc Tryz.prog W 0 (λ_=>true) true Tryz.f4.params.toList args.toList ds p:=hA0;rw [Tryz.params4] at hA hval;obtain⟨v0,vs0,d0,ds0,p0,q0,hargs,rfl,rfl,h0,r0⟩:=trodAll_cons hA;obtain⟨v1,vs1,d1,ds1,p1,q1,rfl,rfl,rfl,h1,r1⟩:=trodAll_cons r0;obtain⟨v2,vs2,d2,ds2,p2,q2,rfl,rfl,rfl,h2,r2⟩:=trodAll_cons r1;obtain⟨v3,vs3,d3,ds3,p3,q3,rfl,rfl,rfl,h3,r3⟩:=trodAll_cons r2;obtain⟨v4,vs4,d4,ds4,p4,q4,rfl,rfl,rfl,h4,r4⟩:=trodAll_cons r3;obtain⟨rfl,rfl,rfl⟩:=trodAll_nil r4;obtain rfl:args = #[v0,v1,v2,v3,v4]:=by cases args; simp_all
 obtain⟨rfl,rfl⟩:=trodVars_none hV;clear hA0 hval0;simp only [List.append_nil] at hW' hwt
 have hw:∀ (j:Nat) (t:TypeId) (d:DataW H),[24,24,31,3,35][j]?=some t->[d0,d1,d2,d3,d4][j]?=some d->∀ n∈d.weights Tryz.prog t,n<=reachBytes:=λj t d ht hd n hn=>by
  have:=bG.1 hwt n (DataW.weights_mem_each (j:=j) (t:=t) (d:=d) (by exact ht) (by exact hd) n hn);simpa using this
 obtain⟨c0,rfl,_⟩:=okWide_struct Tryz.underlying24 (hval 0 24 v0 rfl rfl);obtain⟨c1,rfl,_⟩:=okWide_struct Tryz.underlying24 (hval 1 24 v1 rfl rfl);obtain⟨c2,rfl,_⟩:=okWide_struct Tryz.underlying31 (hval 2 31 v2 rfl rfl);obtain⟨c3,rfl⟩:=okWide_int Tryz.underlying3 (hval 3 3 v3 rfl rfl);obtain⟨c4,rfl,_⟩:=okWide_struct Tryz.underlying35 (hval 4 35 v4 rfl rfl)
 have t0:Tw Tryz.prog W 24 c0.toList:=by
  obtain⟨fuel,hf⟩:=h0;exact⟨H,enc,0,fuel,d0,p0,by simpa [Value.cells] using hf,hw 0 _ d0 rfl rfl⟩
 have t1:Tw Tryz.prog W 24 c1.toList:=by
  obtain⟨fuel,hf⟩:=h1;exact⟨H,enc,0,fuel,d1,p1,by simpa [Value.cells] using hf,hw 1 _ d1 rfl rfl⟩
 have t2:Tw Tryz.prog W 31 c2.toList:=by
  obtain⟨fuel,hf⟩:=h2;exact⟨H,enc,0,fuel,d2,p2,by simpa [Value.cells] using hf,hw 2 _ d2 rfl rfl⟩
 have t3:Tw Tryz.prog W 3 [.i c3]:=by
  obtain⟨fuel,hf⟩:=h3;exact⟨H,enc,0,fuel,d3,p3,by simpa [Value.cells] using hf,hw 3 _ d3 rfl rfl⟩
 have t4:Tw Tryz.prog W 35 c4.toList:=by
  obtain⟨fuel,hf⟩:=h4;exact⟨H,enc,0,fuel,d4,p4,by simpa [Value.cells] using hf,hw 4 _ d4 rfl rfl⟩
 have hlt:∀ x∈p0++(p1++(p2++(p3++p4))),x.block<W.heap.size:=λx hx=>by simpa using hW'.lt x (by simpa using hx)
 obtain⟨s3,e3,hcall⟩:=walk t0 t1 t2 t3 t4 (zpk hL);cases e3;simp only [Array.toArray_toList] at hcall;refine hcall.mono λe W' ⟨he,hb⟩=> ?_
 subst he;refine⟨_,rfl,_,_,_,[],p0++(p1++(p2++(p3++p4))),[],hW',trodAll_mk1 (shut_bool Tryz.underlying4 true),?_,rfl,hb.frame _,λh=>by cases h⟩;have H:=trodAll_cons_mk (Below.trod laid (by kernel_rfl) (aB (by kernel_rfl)) h0 hb λx hx=>hlt x (by simp [hx])) (trodAll_cons_mk (Below.trod laid (by kernel_rfl) (aB (by kernel_rfl)) h1 hb λx hx=>hlt x (by simp [hx])) (trodAll_cons_mk (Below.trod laid (by kernel_rfl) (aB (by kernel_rfl)) h2 hb λx hx=>hlt x (by simp [hx])) (trodAll_cons_mk (Below.trod laid (by kernel_rfl) (aB (by kernel_rfl)) h3 hb λx hx=>hlt x (by simp [hx])) (trodAll_cons_mk (Below.trod laid (by kernel_rfl) (aB (by kernel_rfl)) h4 hb λx hx=>hlt x (by simp [hx])) (trodAll_mk0)))));simp only [List.append_nil] at H;exact H
theorem over:Rows.corporateChainRow.holds Tryz.pinned (OpenSpec.ofChange Rows.corporateChainSpec):=
 OpenClaim.holds_of_wide 4 Tryz.f4 rfl rfl rfl rfl rfl rfl rfl ⟨rfl,rfl,rfl,rfl,rfl⟩ rfl rfl rfl rfl rfl (by kernel_rfl) Tryz.func4 (by kernel_rfl)
  (aB (by kernel_rfl)) (by unfold Func.isWrapper; first | (rw [aP (by decide +kernel)]; kernel_rfl) | (rw [aO (by decide +kernel)]; exact⟨rfl,rfl⟩))
  (λos started H enc _=>lifted os started H enc)
theorem ug:Rows.CorporateChainSaid:=over
theorem corporateChain_holds:Rows.CorporateChainCardSaid:=
 Claim7.holds_tied_plain_at .later [] [.mappedDeep,.funcs,.mapped] true (true, "00600166dce18979989580a86775c7876ed7784e2f6a6f652b783daefcc17c3d") true
  ug (λ_ h=>by cases h) (by kernel_rfl) (λ_ h=>by cases h) corporateChain_row_tie rfl ⟨rfl,rfl⟩ (by kernel_rfl) rfl
  (λf fn hf hfn=>by
   obtain rfl:f=4:=Option.some.inj ((show Tryz.prog.funcNamed "novation/novationlaw22.CorporateChain" = some 4 by kernel_rfl).symm.trans hf) |>.symm;obtain rfl:fn=Tryz.f4:=(Option.some.inj (Tryz.func4.symm.trans hfn)).symm
   exact⟨by kernel_rfl,λj t ht=>by
    rw [Tryz.params4] at ht;have hm:t∈[24,24,31,3,35]:=by simpa using Array.mem_of_getElem? ht
    have hall:([24,24,31,3,35].all λu=> !Tryz.prog.wantsStandIn u)=true:=by kernel_rfl
    exact(show Tryz.prog.wantsStandIn t=false by simpa using bG.1 hall t hm)⟩)
  (by kernel_rfl)
end Go.Proofs.YtjhnhncmkllgmaaGreatDoor
end
