/- The law returns true for every input, and each argument reads afterwards as it read before; no condition. -/
import Derived.Test.YtfiocgnojggdjaaGreatDoorSxh
import Derived.SizedLaws
import Derived.ChangeArms
import Derived.Deep.Slices
import Derived.Carry
import Derived.LaidMore
import Derived.WideKeyElems2
import Derived.ProofKit
import Derived.OpenShut
import Derived.ReadAgain
import Derived.Test.YtfiocgnojggdjaaGreatDoorRows
import Derived.MakeChecks
import Derived.Test.YtfiocgnojggdjaaGreatDoorCards
import Derived.Test.YtfiocgnojggdjaaGreatDoorTie
import Derived.Stop.Joined
import Derived.SevenTiedAt
set_option linter.unusedVariables false
set_option linter.unusedSimpArgs false
set_option linter.unusedSectionVars false
section
set_option maxRecDepth 100000
open Go Go.Sx Go.Proofs Go.Nov
namespace Go.Proofs.Tryz
attribute [local simp] eqKV eqA eqA0 eqH eqB eqL eqL0
noncomputable def LTv:List Go.Sx.Item:=xZ 6 (f11.body.getD .skip)
def STv1:KV:=[(3,.ptr 0 0),(6,.ptr 2 0),(7,.nils),(8,.i 0),(11,.ptr 3 0)]
def HTv1(x:Ex)(day:Int)(f:List Fx)(c:List Ch):Heap:=HRc0 x f c++[.box [.i 0,.nils,.nils,.i day,fxS f,chS c]]
def HTv2(x:Ex)(day:Int)(f:List Fx)(c:List Ch)(s:RS):Heap:=HRc0 x f c++[.box [.i s.inp.length,.osl 4 4 0 s.ops.length,.osl 5 3 0 s.inp.length,.i day,fxS f,chS c],.arr s.ops.length 4 (opG s.ops),.arr s.inp.length 3 (fxG s.inp)]
noncomputable def GTv:=tb WR (tb zph tz)
theorem UG:zc prog 11 recC:=by
 refine ze' f11 λk hk O w0 Q hq=> ?_
 obtain⟨x,day,f,c⟩:=k;obtain⟨h1,h2,h3⟩:=hk;replace hq:=hq _ rfl;simp only at h1 h2 h3 hq;refine zb.spine 6 ?_;refine zb.cutL (ι:={u:Unit // (zG x day f c).2=0}) LTv 4 0 (λ_=>STv1) (λ_=>HTv1 x day f c) (by kernel_rfl) (by kernel_rfl) ?_ λ⟨_,hv⟩=> ?_
 ·refine zb.n GTv.h [3,6,7,8,11] (let v2:List AV:=[.sl f.length 3 (fxG f),.sl c.length 4 (chG c)];let v1:List AV:=[.int .u8 x.kind,.str x.rat,.str x.name,.i x.date,.sl x.sub.length 5 (Ex.exG x.sub)];.ex (q59 [.agg [.int .u8 x.kind,.str x.rat,.str x.name,.i x.date,.sl x.sub.length 5 (Ex.exG x.sub)],.i day,.agg [.sl f.length 3 (fxG f),.sl c.length 4 (chG c)]]) λn=>.all (λ(r:L8×Int)=>r=zG n.x n.day n.f n.c) λn=>.N (n.2=0) (.R [.agg [.i 0,.nils],.nils,.i n.2] [.box v1,.box v2,.box [.i 0,.nils]]) (.leaf (.back 0 [(3,.ptr 0 0),(6,.ptr 2 0),(7,.nils),(8,.i 0),(11,.ptr 3 0)] [.box v1,.box v2,.box [.i 0,.nils],.box [.i 0,.nils,.nils,.i day,.sl f.length 3 (fxG f),.sl c.length 4 (chG c)]]))) ?_;simp only [q59,Tree.holds,zd];refine⟨⟨x,day,f,c⟩,⟨⟨⟨⟨rfl,rfl⟩,rfl,rfl,⟨rfl,rfl⟩,⟨rfl,rfl,za _ _ _⟩,trivial⟩,⟨rfl,rfl⟩,⟨⟨rfl,rfl,za _ _ _⟩,⟨rfl,rfl,za _ _ _⟩,trivial⟩,trivial⟩,h1,h2,h3⟩,⟨_,rfl⟩,?_⟩;intro v hv;replace hv:v=zG x day f c:=hv;refine⟨λg=> ?_,λg=> ?_⟩
  ·have g:¬ v.2=0:=by simpa using g
   rw [hv] at g;rw [show recV x day f c=(⟨[],[]⟩,(zG x day f c).2) by unfold recV; rw [aO g]] at hq;rw [hv];exact RetR.le0 hq (λh=>by cases h) (LeA.tup ⟨LeA.agg ⟨LeA.refl _,LeA.nils,trivial⟩,LeA.nils,LeA.refl _,trivial⟩)
  ·have g:v.2=0:=by simpa using g
   rw [hv] at g;rw [aP trivial];refine⟨⟨(),g⟩,by simp [STv1],?_,by kernel_rfl,aI _⟩;refine⟨by simp [za],by simp [za],by simp [za],by simp [fxS,chS,za],trivial⟩
 show kE none prog f11 O 0 w0 [] _ _ (LTv.drop 4) _;refine zb.zck 3 1 4 (opG []) rfl rfl (by kernel_rfl) ?_;refine zb.zck 3 2 3 (fxG []) rfl rfl (by kernel_rfl) ?_;refine zb.cutL (ι:=Unit) (LTv.drop 4) 2 0 (λ_=>STv1) (λ_=>HTv2 x day f c (recS f day x)) (by kernel_rfl) (by kernel_rfl) ?_ λ_=> ?_
 ·refine zb.n GTv.h [3,6,7,8,11] (.ex (λ(x_1:XEx)=>let v3:=RS.inp x_1.s;let v2:=RS.ops x_1.s;eqL [.ptr 0 0,.agg [.int .u8 x.kind,.str x.rat,.str x.name,.i x.date,.sl x.sub.length 5 (Ex.exG x.sub)]] [.ptr 0 0,.agg [.int .u8 (Ex.kind x_1.x),.str (Ex.rat x_1.x),.str (Ex.name x_1.x),.i (Ex.date x_1.x),.sl (List.length (Ex.sub x_1.x)) 5 (Ex.exG (Ex.sub x_1.x))]]/\eqH [.box [.i 0,.osl 1 4 0 0,.osl 2 3 0 0,.i day,.sl f.length 3 (fxG f),.sl c.length 4 (chG c)],.arr 0 4 (opG []),.arr 0 3 (fxG [])] [.box [.i 0,.osl 1 4 0 (List.length v2),.osl 2 3 0 (List.length v3),.i x_1.day,.sl x_1.f.length 3 (fxG x_1.f),.sl x_1.c.length 4 (chG x_1.c)],.arr (List.length v2) 4 (opG v2),.arr (List.length v3) 3 (fxG v3)]/\3=3/\XEx.pre x_1) λn=>let v1:=Ex.rc n.f n.day n.x n.s;.A λn_1=>.leaf (.back 0 [(3,.ptr 0 0),(6,.ptr 2 0),(7,.nils),(8,.i 0),(11,.ptr 3 0)] [.box [.int .u8 x.kind,.str x.rat,.str x.name,.i x.date,.sl x.sub.length 5 (Ex.exG x.sub)],.box [.sl f.length 3 (fxG f),.sl c.length 4 (chG c)],.box [.i 0,.nils],.box [.int .i64 ↑(List.length v1.inp),.osl 4 4 0 (List.length v1.ops),.osl 5 3 0 (List.length v1.inp),.i n.day,.sl n.f.length 3 (fxG n.f),.sl n.c.length 4 (chG n.c)],.arr (List.length v1.ops) 4 (opG v1.ops),.arr (List.length v1.inp) 3 (fxG v1.inp)])) ?_;simp only [Tree.holds,zd];obtain⟨⟨g1,g2,g3,g4⟩,g5,g6⟩:=Zm hv;have e0:x.rc f day ⟨[],[]⟩=recS f day x:=rfl;refine⟨⟨x,⟨[],[]⟩,day,f,c⟩,⟨⟨⟨rfl,rfl⟩,⟨⟨rfl,rfl⟩,rfl,rfl,⟨rfl,rfl⟩,⟨rfl,rfl,za _ _ _⟩,trivial⟩,trivial⟩,by simp [fxS,chS,za],trivial,⟨g1,g2,g3,g4,h2⟩,g5,g6,h3,by show 0+x.size<_; omega,by show 0+x.size<_; omega⟩,⟨(),trivial⟩,λ_ _=> ?_⟩;rw [aP trivial,e0];refine⟨(),by simp [STv1],?_,by kernel_rfl,aI _⟩;exact⟨by simp [za],by simp [za],by simp [za],by simp [fxS,chS,za],⟨rfl,rfl,za _ _ _⟩,⟨rfl,rfl,za _ _ _⟩,trivial⟩
 show kE none prog f11 O 0 w0 [] _ _ ((LTv.drop 4).drop 2) _;generalize hs:recS f day x=s;refine zb.zag [4,5] (by simp) (by kernel_rfl) ?_;refine zb.n GTv.h [3,6,7,8,11] (let v1:List AV:=[.i s.inp.length,.sl s.ops.length 4 (zf (opG s.ops) 0)];.R [.agg v1,.sl s.inp.length 3 (zf (fxG s.inp) 0),.i 0] [.box [.int .u8 x.kind,.str x.rat,.str x.name,.i x.date,.sl x.sub.length 5 (Ex.exG x.sub)],.box [.sl f.length 3 (fxG f),.sl c.length 4 (chG c)],.box v1,.box [.i s.inp.length,.sl s.ops.length 4 (zf (opG s.ops) 0),.sl s.inp.length 3 (zf (fxG s.inp) 0),.i day,.sl f.length 3 (fxG f),.sl c.length 4 (chG c)],.dead,.dead]) ?_;simp only [Tree.holds,zd];rw [show recV x day f c=(s,0) by unfold recV; rw [aP hv,hs]] at hq;refine RetR.le0 hq (λh=>by cases h) (LeA.tup ⟨LeA.agg ⟨LeA.refl _,LeA.sl rfl λj o hj ho=> ?_,trivial⟩,LeA.sl rfl λj o hj ho=> ?_,LeA.refl _,trivial⟩)
 ·show LeA (opG s.ops (0+j) o) (opG s.ops j o);rw [Nat.zero_add];exact LeA.refl _
 ·show LeA (fxG s.inp (0+j) o) (fxG s.inp j o);rw [Nat.zero_add];exact LeA.refl _
end Go.Proofs.Tryz
end
section
namespace Go.Nov
open Go.Sx
theorem zco{t:Tp}(h:qP t=0){j:Nat}(hj:j<t.ops.length):(t.ops.getD j TOp.nil).rat.length<2^39:=by
 obtain⟨-,-,-,-,h⟩:=vd.1 h;unfold u6 at h;have h:=bG.1 h j (List.mem_range.2 hj);unfold okOp at h;split at h
 ·simp only [bA,aK] at h;rw [h.2]; decide
 ·split at h
  ·simp only [bA,aK] at h;have:=q9 h.1.1;omega
  ·split at h
   ·simp only [bA,aK] at h;rw [h.2]; decide
   ·cases h
theorem zl1{f:List Fx}(hf:f.all okF=true){n:L8}{d:Int}{v:L8}(h:zP f n d=(v,true)):v.length<2^39:=by
 unfold zP at h;split at h
 ·rename_i z hz;have:=bG.1 hf z (List.mem_of_find?_eq_some hz);unfold okF at this;simp only [bA,aK] at this;have h2:=q9 this.2;have:z.value=v:=congrArg Prod.fst h;rw [<- this]; omega
 ·exact absurd (congrArg Prod.snd h) (by simp)
theorem zl9{x:Ex}{day:Int}{f:List Fx}{c:List Ch}(h:(zG x day f c).2=0):recV x day f c=(recS f day x,0)/\zG x day f c=((x.ev f day).v,0)/\qP (recT f day x)=0/\(recS f day x).ops.length<=500/\(recS f day x).inp.length<=500/\InvR f (recS f day x)/\q5 (recT f day x) ((recS f day x).inp.map Fx.value)=((x.ev f day).v,0)/\(∀ j,j<(recS f day x).ops.length->((recS f day x).ops.getD j TOp.nil).rat.length<2^39)/\∀ j,j<(recS f day x).inp.length->((recS f day x).inp.getD j Fx.nil).value.length<2^39:=by
 obtain⟨⟨g1,g2,g3,g4⟩,g5,g6⟩:=Zm h;have hf:f.all okF=true:=(vj.1 g5).2.1;obtain⟨a1,a2,a3,a4,a5⟩:=zp5 hf g3 g1 g2;refine⟨by unfold recV; rw [aP h],JL g1 g3 g4 g5 g6 g2,a1,a2,a3,a4,a5,λj hj=>zco a1 hj,λj hj=> ?_⟩;exact zl1 hf (a4.2 j hj)
theorem zlg{x:Ex}{day:Int}{f:List Fx}{c:List Ch}(h:¬ (zG x day f c).2=0):recV x day f c=(⟨[],[]⟩,(zG x day f c).2):=by unfold recV; rw [aO h]
theorem za5(x:Ex)(day:Int)(f:List Fx)(c:List Ch):(recV x day f c).1.ops.length<=500/\(recV x day f c).1.inp.length<=500:=by
 by_cases h:(zG x day f c).2=0
 ·obtain⟨a,_,_,b,c,_⟩:=zl9 h;rw [a]; exact⟨b,c⟩
 ·rw [zlg h]; exact⟨aI _,aI _⟩
end Go.Nov
end
section
set_option maxRecDepth 100000
open Go Go.Sx Go.Proofs Go.Nov
namespace Go.Proofs.Tryz
attribute [local simp] eqKV eqA eqA0 eqH eqB eqL eqL0
noncomputable def K14:=Go.Sx.aA f14
def ziu(n:Nat):Ctr:=ctrP true (λp:Ex×Ex=>[p.1.exA,p.2.exA]) (λp=>p.1.size<n/\p.1.size<2^60) (λp r=>(r=true↔p.1=p.2)) (λ_ (r:Bool)=>(.bool r,[]))
theorem zlh(p:Prop):∃ b:Bool,b=true↔p:=by
 by_cases h:p
 ·exact⟨true,by simp [h]⟩
 ·exact⟨false,by simp [h]⟩
def Yi:Ctr:=ctrP true (λp:Ex×Ex=>[p.1.exA,p.2.exA]) (λp=>p.1.size<2^60) (λp r=>(r=true↔p.1=p.2)) (λ_ (r:Bool)=>(.bool r,[]))
def SSm(i:Nat):KV:=[(2,.ptr 0 0),(3,.ptr 1 0),(5,.i (i:Int))]
def HSm(x y:Ex):Heap:=[.box [.int .u8 x.kind,.str x.rat,.str x.name,.i x.date,Ex.exS x.sub],.box [.int .u8 y.kind,.str y.rat,.str y.name,.i y.date,Ex.exS y.sub]]
theorem X0(n:Nat)(ih:zc prog 14 (ziu n)):zc prog 14 (ziu (n+1)):=by
 refine ze' f14 λp hp O w0 Q hq=> ?_
 obtain⟨x,y⟩:=p;obtain⟨h1,h2⟩:=hp;simp only at h1 h2 hq;rw [Ex.size_eq] at h1 h2;have hlen:=Ex.zM x.sub;refine zb.n (ve ih) [2,3,5] (let v1:List Blk:=[.box [.int .u8 x.kind,.str x.rat,.str x.name,.i x.date,.sl x.sub.length 5 (Ex.exG x.sub)],.box [.int .u8 y.kind,.str y.rat,.str y.name,.i y.date,.sl y.sub.length 5 (Ex.exG y.sub)]];.ite (bif bif bif bif !decide (Ex.kind x=Ex.kind y) then true else !decide (Ex.rat x=Ex.rat y) then true else !decide (Ex.name x=Ex.name y) then true else !decide (Ex.date x=Ex.date y) then true else !decide ((x.sub.length:Int)=y.sub.length)) (.R [.bool false] v1) (.leaf (.loop (lps K14 0).1 (lps K14 0).2 [(2,.ptr 0 0),(3,.ptr 1 0),(5,.i 0)] v1))) ?_;simp only [Tree.holds,zd,inR,lo,hi,aD];refine⟨λh=> ?_,λh=> ?_⟩
 ·refine RetR.scal (hq false ⟨λh=>(by cases h),λhe=> ?_⟩) rfl (by simp [resV]);subst he;simp at h
 ·simp at h;obtain⟨⟨⟨⟨g1,g2⟩,g3⟩,g4⟩,g5⟩:=h;have g5:x.sub.length=y.sub.length:=by omega
  refine zb.loop (ι:={i:Nat // i<=x.sub.length/\∀ j,j<i->x.sub.getD j Ex.nil=y.sub.getD j Ex.nil}) (λi=>SSm i.1) (λ_=>HSm x y) (λi=>x.sub.length - i.1) ⟨0,aI _,λj hj=>by omega⟩ 0 ?_ ?_ (by kernel_rfl)
  ·exact⟨by simp [SSm],by simp [HSm,Ex.exS,za],by kernel_rfl,aI _⟩
  ·rintro⟨i,hil,hib⟩;refine zb.n (ve ih) [2,3,5] (let v3:=List.getD y.sub (i:Int).toNat Ex.nil;let v2:=List.getD x.sub (i:Int).toNat Ex.nil;let v1:List Blk:=[.box [.int .u8 x.kind,.str x.rat,.str x.name,.i x.date,.sl x.sub.length 5 (Ex.exG x.sub)],.box [.int .u8 y.kind,.str y.rat,.str y.name,.i y.date,.sl y.sub.length 5 (Ex.exG y.sub)]];.D ((i:Int)<x.sub.length) (.side ((0:Int)<=i/\(i:Int)<x.sub.length) (.side ((0:Int)<=i/\(i:Int)<y.sub.length) (.ex (λ(x_1:Ex×Ex)=>eqL [.agg [.int .u8 (Ex.kind v2),.str (Ex.rat v2),.str (Ex.name v2),.i (Ex.date v2),.sl (List.length (Ex.sub v2)) 5 (Ex.deep v2)],.agg [.int .u8 (Ex.kind v3),.str (Ex.rat v3),.str (Ex.name v3),.i (Ex.date v3),.sl (List.length (Ex.sub v3)) 5 (Ex.deep v3)]] [.agg [.int .u8 x_1.1.kind,.str x_1.1.rat,.str x_1.1.name,.i x_1.1.date,.sl x_1.1.sub.length 5 (Ex.exG x_1.1.sub)],.agg [.int .u8 x_1.2.kind,.str x_1.2.rat,.str x_1.2.name,.i x_1.2.date,.sl x_1.2.sub.length 5 (Ex.exG x_1.2.sub)]]/\Ex.size x_1.1<n/\Ex.size x_1.1<1152921504606846976) λn=>.all (λ(r:Bool)=>r=true↔n.1=n.2) λn=>.ite (!n) (.R [.bool false] v1) (.S (i+1) (.leaf (.back 0 [(2,.ptr 0 0),(3,.ptr 1 0),(5,.i (i+1))] v1)))))) (.R [.bool true] v1)) ?_;simp only [Tree.holds,zd,inR,lo,hi,aD];refine⟨λhlt=> ?_,λhge=> ?_⟩
   ·have hlt:i<x.sub.length:=by have:=aB hlt; omega
    have hg:=Ex.z4 hlt;refine⟨by omega,λ_=>⟨by omega,λ_=>⟨(x.sub.getD i Ex.nil,y.sub.getD i Ex.nil),⟨⟨⟨⟨rfl,rfl⟩,rfl,rfl,⟨rfl,rfl⟩,⟨rfl,rfl,Ex.zH _⟩,trivial⟩,⟨⟨rfl,rfl⟩,rfl,rfl,⟨rfl,rfl⟩,⟨rfl,rfl,Ex.zH _⟩,trivial⟩,trivial⟩,by show(x.sub.getD i Ex.nil).size<n; omega,by show(x.sub.getD i Ex.nil).size<_; omega⟩,zlh _,?_⟩⟩⟩;intro e he;simp only at he;refine⟨λg=> ?_,λg=>⟨by omega,λ_=> ?_⟩⟩
    ·refine RetR.scal (hq false ⟨λh=>(by cases h),λh3=> ?_⟩) rfl (by simp [resV]);have:e=true:=he.2 (by rw [h3]);rw [this] at g; cases g
    ·rw [aP trivial];have g:e=true:=by simpa using g
     refine⟨⟨i+1,hlt,λj hj=> ?_⟩,by show x.sub.length - (i+1)<x.sub.length - i; omega,by simp [SSm],by simp [HSm,Ex.exS,za],by kernel_rfl,aI _⟩;rcases aR j i with h1 | h1
     ·exact hib j h1
     ·have:j=i:=by omega
      rw [this]; exact he.1 g
   ·have hge:i=x.sub.length:=by have:=aC hge; omega
    subst hge;exact RetR.scal (hq true ⟨λ_=>Ex.KJ.2 ⟨g1,g2,g3,g4,Ex.Vr g5 hib⟩,λ_=>rfl⟩) rfl (by simp [resV])
theorem zdf:zc prog 14 Yi:=jC (λp=>p.1.size) X0
noncomputable def K8:=Go.Sx.aA f8
def exD(x:Ex):AV:=.agg [.int .u8 x.kind,.str x.rat,.str x.name,.i x.date,.sl x.sub.length 5 x.deep]
def zia(n:Nat):Ctr:=ctrP false (λx:Ex=>[x.exA]) (λx=>x.size<n/\x.size<2^40) (λ_ (_:Unit)=>True) (λx _=>(exD x,[]))
theorem zie{s:List Ex}{i:Nat} : eqG (i+1) 5 (appG i (Ex.exG s) (zf (zg 5 [.int .u8 (s.getD i Ex.nil).kind,.str (s.getD i Ex.nil).rat,.str (s.getD i Ex.nil).name,.i (s.getD i Ex.nil).date,.sl (s.getD i Ex.nil).sub.length 5 (s.getD i Ex.nil).deep]) 0)) (Ex.exG s):=by
 intro j o hj ho;simp only [appG,zf,zg];by_cases h:j<i
 ·rw [aP h]
 ·have:j=i:=by omega
  subst this;rw [aO h];have e:j - j=0:=by omega
  match o,ho with
  | 0,_=>simp [e,Ex.exG,Ex.cell]
  | 1,_=>simp [e,Ex.exG,Ex.cell]
  | 2,_=>simp [e,Ex.exG,Ex.cell]
  | 3,_=>simp [e,Ex.exG,Ex.cell]
  | 4,_=>simp [e,Ex.exG,Ex.cell]
theorem zgy{C:Ctr}{Q:AV×Heap->Prop}{x:Ex}{h:Heap}{b:Nat}(hC:C.fresh=false)(hb:h[b]?=some (.arr x.sub.length 5 (Ex.exG x.sub)))(hq:Q (exD x,[])):RetR C 0 Q [.agg [.int .u8 x.kind,.str x.rat,.str x.name,.i x.date,.osl b 5 0 x.sub.length]] h:=by
 refine RetR.out0 hq (λh=>by rw [hC] at h; cases h) ?_;simp only [resV,exp2,exp1,List.map_cons,List.map_nil,exp0,ren0,zz,frz1,jW,hb,eqA2,eqA,eqL0,eqA0,exD,true_and,and_true];simp only [if_true];refine⟨trivial,trivial,λj o hj ho=> ?_⟩;have:=Ex.zH x j o hj ho;simpa [zf] using this.symm
def SRt(i:Nat):KV:=[(1,.ptr 0 0),(2,.ptr 1 0),(3,.ptr 2 0),(4,.i (i:Int))]
def HRt1(x:Ex):Heap:=[.box [.int .u8 x.kind,.str x.rat,.str x.name,.i x.date,Ex.exS x.sub],.box [.int .u8 0,.str [],.str [],.i 0,.nils],.box [.int .u8 x.kind,.str x.rat,.str x.name,.i x.date,.osl 3 5 0 0]]
def HRt(x:Ex)(i:Nat):Heap:=[.box [.int .u8 x.kind,.str x.rat,.str x.name,.i x.date,Ex.exS x.sub],.box [.int .u8 0,.str [],.str [],.i 0,.nils],.box [.int .u8 x.kind,.str x.rat,.str x.name,.i x.date,.osl 3 5 0 i],.arr i 5 (Ex.exG x.sub)]
theorem YQ(n:Nat)(ih:zc prog 8 (zia n)):zc prog 8 (zia (n+1)):=by
 refine ze' f8 λx hx O w0 Q hq=> ?_
 obtain⟨h1,h2⟩:=hx;replace hq:=hq () trivial;rw [Ex.size_eq] at h1 h2;have hlen:=Ex.zM x.sub;refine zb.n (ve ih) [1,2,3,4] (.leaf (.loop (lps K8 0).1 (lps K8 0).2 [(1,.ptr 0 0),(2,.ptr 1 0),(3,.ptr 2 0),(4,.i 0)] [.box [.int .u8 x.kind,.str x.rat,.str x.name,.i x.date,.sl x.sub.length 5 (Ex.exG x.sub)],.box [.int .u8 0,.str #[].toList,.str #[].toList,.i 0,.nils],.box [.int .u8 x.kind,.str x.rat,.str x.name,.i x.date,.nils]])) ?_;simp only [Tree.holds,zd,inR,lo,hi,aD];refine zb.up [(5,Ex.exG x.sub)] (SRt 0) (HRt1 x) (by simp [SRt,upKV,upA2,upA1,upA0]) (by simp [HRt1,upH,upB,upL1,upA1,upA0,Ex.exS]) (by kernel_rfl) (by kernel_rfl) ?_;refine zb.loop (ι:={i:Nat // i<=x.sub.length}) (λi=>SRt i.1) (λi=>HRt x i.1) (λi=>x.sub.length - i.1) ⟨0,aI _⟩ 0 ?_ ?_ (by kernel_rfl)
 ·exact⟨by simp [SRt],by simp [HRt,HRt1,ZY,Ex.exS,za],by kernel_rfl,aI _⟩
 ·rintro⟨i,hil⟩;refine zb.n (ve ih) [1,2,3,4] (let v4:List AV:=[.int .u8 x.kind,.str x.rat,.str x.name,.i x.date,.sl x.sub.length 5 (Ex.exG x.sub)];let v2:List AV:=[.int .u8 x.kind,.str x.rat,.str x.name,.i x.date,.osl 3 5 0 i];let v1:=List.getD x.sub (i:Int).toNat Ex.nil;.D ((i:Int)<x.sub.length) (.side ((0:Int)<=i/\(i:Int)<x.sub.length) (.ex (λ(x_1:Ex)=>eqL [.agg [.int .u8 (Ex.kind v1),.str (Ex.rat v1),.str (Ex.name v1),.i (Ex.date v1),.sl (List.length (Ex.sub v1)) 5 (Ex.deep v1)]] [.agg [.int .u8 x_1.kind,.str x_1.rat,.str x_1.name,.i x_1.date,.sl x_1.sub.length 5 (Ex.exG x_1.sub)]]/\Ex.size x_1<n/\Ex.size x_1<1099511627776) λn=>let v3:=zg 5 [.int .u8 n.kind,.str n.rat,.str n.name,.i n.date,.sl n.sub.length 5 n.deep];.A λn_1=>.side (0=0/\i<=i/\(i+1)*72<=140737488355328) (.S (i+1) (.leaf (.back 0 [(1,.ptr 0 0),(2,.ptr 1 0),(3,.ptr 2 0),(4,.i (i+1))] [.box v4,.box [.int .u8 0,.str [],.str [],.i 0,.nils],.box [.int .u8 x.kind,.str x.rat,.str x.name,.i x.date,.osl 3 5 0 (i+1)],.arr (i+1) 5 (appG i (Ex.exG x.sub) (zf v3 0)),.arr 1 5 v3]))))) (.R [.agg v2] [.box v4,.box v2,.box v2,.arr i 5 (Ex.exG x.sub)])) ?_;simp only [Tree.holds,zd,inR,lo,hi,aD];refine⟨λhlt=> ?_,λhge=> ?_⟩
  ·have hlt:i<x.sub.length:=by have:=aB hlt; omega
   have hg:=Ex.z4 hlt;refine⟨by omega,λ_=>⟨x.sub.getD i Ex.nil,⟨wG rfl rfl rfl rfl rfl (Ex.zH _),by omega,by omega⟩,⟨(),trivial⟩,?_⟩⟩;intro _ _;refine⟨⟨trivial,aJ _,by omega⟩,λ_=>⟨by omega,λ_=> ?_⟩⟩;rw [aP trivial];refine⟨⟨i+1,hlt⟩,by show x.sub.length - (i+1)<x.sub.length - i; omega,by simp [SRt],?_,by kernel_rfl,aI _⟩;exact⟨⟨⟨rfl,rfl⟩,rfl,rfl,⟨rfl,rfl⟩,⟨rfl,rfl,za _ _ _⟩,trivial⟩,⟨⟨rfl,rfl⟩,rfl,rfl,⟨rfl,rfl⟩,by simp,trivial⟩,⟨⟨rfl,rfl⟩,rfl,rfl,⟨rfl,rfl⟩,⟨rfl,rfl,rfl,rfl⟩,trivial⟩,⟨rfl,rfl,zie⟩,trivial⟩
  ·have hge:i=x.sub.length:=by have:=aC hge; omega
   subst hge;exact zgy rfl rfl hq
def KP:Ctr:=ctrP false (λx:Ex=>[x.exA]) (λx=>x.size<2^40) (λ_ (_:Unit)=>True) (λx _=>(exD x,[]))
theorem zef:zc prog 8 KP:=jC Ex.size YQ
def zo4:Ctr:=ctrP true (λp:Ex×Int×(List Fx×List Ch)=>[p.1.exA,.i p.2.1,envA p.2.2.1 p.2.2.2]) (λp=>p.1.thin/\inR .i64 p.2.1/\zmw p.2.2) (λ_ r=>r=true) (λ_ (r:Bool)=>(.bool r,[]))
theorem zoo{A B:Prop}(a:A)(b:B):(∃ _:Bool,True)/\∀ n:Bool,True->(n=true->A)/\(n=false->B):=⟨⟨true,trivial⟩,λ_ _=>⟨λ_=>a,λ_=>b⟩⟩
theorem zot{l:List AV}(x:Ex)(e:eqL l [x.exA])(hx:x.size<2^40){p:Ex->Unit->Prop}(h:p x ()):∃ n:Ex,(eqL l [n.exA]/\n.size<2^40)/\(∃ _:Unit,True)/\∀ r:Unit,True->p n r:=⟨x,⟨e,hx⟩,⟨(),trivial⟩,λ_ _=>h⟩
theorem zpy{l:List AV}(y:List Fx×List Ch)(e:eqL l [envA y.1 y.2])(hx:y.1.length<2^40/\y.2.length<2^40){p:List Fx×List Ch->Unit->Prop}(h:p y ()):∃ n:List Fx×List Ch,(eqL l [envA n.1 n.2]/\n.1.length<2^40/\n.2.length<2^40)/\(∃ _:Unit,True)/\∀ r:Unit,True->p n r:=⟨y,⟨e,hx⟩,⟨(),trivial⟩,λ_ _=>h⟩
noncomputable def GTt:=tb zct (tb zi9 (tb zef (tb zl6 (tb zcp (tb UG (tb zi7 (tb zit (tb zdf (tb zk4 tz)))))))))
abbrev q67(A:List AV)(x:(List Fx×List Ch)×List Fx×List Ch):Prop:=eqL A [.agg [.sl x.1.1.length 3 (fxG x.1.1),.sl x.1.2.length 4 (chG x.1.2)],.agg [.sl x.2.1.length 3 (fxG x.2.1),.sl x.2.2.length 4 (chG x.2.2)]]/\x.1.1.length<1099511627776/\x.1.2.length<1099511627776
abbrev q66(A:List AV)(x:Ex×Ex):Prop:=eqL A [.agg [.int .u8 x.1.kind,.str x.1.rat,.str x.1.name,.i x.1.date,.sl x.1.sub.length 5 (Ex.exG x.1.sub)],.agg [.int .u8 x.2.kind,.str x.2.rat,.str x.2.name,.i x.2.date,.sl x.2.sub.length 5 (Ex.exG x.2.sub)]]/\Ex.size x.1<1152921504606846976
abbrev q65(A:List AV)(x:List Fx×List Fx):Prop:=eqL A [.sl x.1.length 3 (fxG x.1),.sl x.2.length 3 (fxG x.2)]/\x.1.length<1152921504606846976
abbrev q64(A:List AV)(x:Tp×Tp):Prop:=eqL A [.agg [.i x.1.n,.sl x.1.ops.length 4 (opG x.1.ops)],.agg [.i x.2.n,.sl x.2.ops.length 4 (opG x.2.ops)]]/\x.1.ops.length<1152921504606846976
abbrev q63(A:List AV)(x:List Fx×List Ch):Prop:=eqL A [.agg [.sl x.1.length 3 (fxG x.1),.sl x.2.length 4 (chG x.2)]]/\x.1.length<1099511627776/\x.2.length<1099511627776
abbrev q62(A:List AV)(x:Ex):Prop:=eqL A [.agg [.int .u8 x.kind,.str x.rat,.str x.name,.i x.date,.sl x.sub.length 5 (Ex.exG x.sub)]]/\Ex.size x<1099511627776
theorem zid:zc prog 3 zo4:=by
 refine ze' f3 λp hp O w0 Q hq=> ?_
 obtain⟨x,day,f,c⟩:=p;obtain⟨hx,_,he⟩:=hp;replace hq:=hq _ rfl;simp only at hx he hq;refine zb.n GTt.h [] (let v6:List AV:=[.sl f.length 3 (fxG f),.sl c.length 4 (chG c)];let v4:List AV:=[.int .u8 x.kind,.str x.rat,.str x.name,.i x.date,.sl x.sub.length 5 (Ex.exG x.sub)];let v3:=[AV.sl f.length 3 (fxG f),AV.sl c.length 4 (chG c)];let v8:=q63 [.agg v3];let v2:=[AV.int .u8 x.kind,AV.str x.rat,AV.str x.name,AV.i x.date,AV.sl x.sub.length 5 (Ex.exG x.sub)];let v14:=q62 [.agg v2];let v1:=q59 [.agg v2,.i day,.agg v3];.ex (λ(x_1:Ex)=>eqL [.agg v2] [.agg [.int .u8 x_1.kind,.str x_1.rat,.str x_1.name,.i x_1.date,.sl x_1.sub.length 5 (Ex.exG x_1.sub)]]/\Ex.thin x_1) λn=>.all (λ(r:Bool)=>r=false->Ex.size n<=600/\Ex.z3 n<=3000) λn=>.ex (λ(x:List Fx×List Ch)=>n=false->eqL [.agg v3] [.agg [.sl x.1.length 3 (fxG x.1),.sl x.2.length 4 (chG x.2)]]/\x.1.length<1152921504606846976/\x.2.length<1152921504606846976/\(∀ (j:Nat),j<x.1.length->zg1 (List.getD x.1 j Fx.nil))/\∀ (j:Nat),j<x.2.length->zaj (List.getD x.2 j Ch.nil)) λn_1=>.all (λ(x:Bool)=>n=false->x=false->fitP n_1) λn_2=>.ite (bif n then true else n_2) (.R [.bool true] [.box v4,.box v6]) (.all (λ(x:Bool)=>True) λn=>.ite n (.ex v14 λn=>let v7:List AV:=[.int .u8 n.kind,.str n.rat,.str n.name,.i n.date,.sl n.sub.length 5 n.deep];let v5:=[AV.agg v2,AV.agg [.int .u8 n.kind,.str n.rat,.str n.name,.i n.date,.sl n.sub.length 5 n.deep]];.A λn_3=>.all (λ(x:Bool)=>True) λn_4=>.ite n_4 (.ex v8 λn_5=>let v27:List AV:=[.osl 2 3 0 n_5.1.length,.osl 3 4 0 n_5.2.length];let v11:=[AV.agg v3,AV.agg [.sl n_5.1.length 3 (zf (fxG n_5.1) 0),.sl n_5.2.length 4 (zf (chG n_5.2) 0)]];.A λn_6=>.all (λ(x:Bool)=>True) λn_7=>.ite n_7 (.ex v1 λn_8=>.all (λ(r:RS×Int)=>r=recV n_8.x n_8.day n_8.f n_8.c) λn_9=>let v42:=RS.ops n_9.1;.ex v1 λn_10=>.all (λ(r:RS×Int)=>r=recV n_10.x n_10.day n_10.f n_10.c) λn_11=>let v28:=RS.ops n_11.1;let v19:=n_9.2=n_11.2;.ex (q64 [.agg [.i n_9.1.inp.length,.sl v42.length 4 (opG v42)],.agg [.i n_11.1.inp.length,.sl v28.length 4 (opG v28)]]) λn_12=>.all (λ(r:Bool)=>r=true↔n_12.1=n_12.2) λn_13=>.ex (λ(x:List Fx×List Fx)=>n_13=true->q65 [.sl n_9.1.inp.length 3 (fxG n_9.1.inp),.sl n_11.1.inp.length 3 (fxG n_11.1.inp)] x) λn_14=>.all (λ(x:Bool)=>n_13=true->(x=true↔n_14.1=n_14.2)) λn_15=>.ex (λ(x9:Ex×Ex)=>(bif bif n_13 then n_15 else false then decide v19 else false)=true->q66 v5 x9) λn_16=>.all (λ(x:Bool)=>(bif bif n_13 then n_15 else false then decide v19 else false)=true->(x=true↔n_16.1=n_16.2)) λn_17=>.ex (λ(x:(List Fx×List Ch)×List Fx×List Ch)=>(bif bif bif n_13 then n_15 else false then decide v19 else false then n_17 else false)=true->q67 v11 x) λn_18=>.all (λ(x:Bool)=>(bif bif bif n_13 then n_15 else false then decide v19 else false then n_17 else false)=true->(x=true↔n_18.1=n_18.2)) λn_19=>.R [.bool (bif bif bif bif n_13 then n_15 else false then decide v19 else false then n_17 else false then n_19 else false)] [.box v4,.box v6,.arr n_5.1.length 3 (fxG n_5.1),.arr n_5.2.length 4 (chG n_5.2),.box v7,.box v27,.box [.i n_9.1.inp.length,.sl v42.length 4 (opG v42)],.box [.i n_11.1.inp.length,.sl v28.length 4 (opG v28)]]) (.ex v1 λn_8=>.all (λ(r:RS×Int)=>r=recV n_8.x n_8.day n_8.f n_8.c) λn_9=>let v43:=RS.ops n_9.1;.ex v1 λn_10=>.all (λ(r:RS×Int)=>r=recV n_10.x n_10.day n_10.f n_10.c) λn_11=>let v29:=RS.ops n_11.1;let v20:=n_9.2=n_11.2;.ex (q64 [.agg [.i n_9.1.inp.length,.sl v43.length 4 (opG v43)],.agg [.i n_11.1.inp.length,.sl v29.length 4 (opG v29)]]) λn_12=>.all (λ(r:Bool)=>r=true↔n_12.1=n_12.2) λn_13=>.ex (λ(x:List Fx×List Fx)=>n_13=true->q65 [.sl n_9.1.inp.length 3 (fxG n_9.1.inp),.sl n_11.1.inp.length 3 (fxG n_11.1.inp)] x) λn_14=>.all (λ(x:Bool)=>n_13=true->(x=true↔n_14.1=n_14.2)) λn_15=>.ex (λ(x9:Ex×Ex)=>(bif bif n_13 then n_15 else false then decide v20 else false)=true->q66 v5 x9) λn_16=>.all (λ(x:Bool)=>(bif bif n_13 then n_15 else false then decide v20 else false)=true->(x=true↔n_16.1=n_16.2)) λn_17=>.ex (λ(x:(List Fx×List Ch)×List Fx×List Ch)=>(bif bif bif n_13 then n_15 else false then decide v20 else false then n_17 else false)=true->q67 v11 x) λn_18=>.all (λ(x:Bool)=>(bif bif bif n_13 then n_15 else false then decide v20 else false then n_17 else false)=true->(x=true↔n_18.1=n_18.2)) λn_19=>.R [.bool (bif bif bif bif n_13 then n_15 else false then decide v20 else false then n_17 else false then n_19 else false)] [.box v4,.box v6,.arr n_5.1.length 3 (fxG n_5.1),.arr n_5.2.length 4 (chG n_5.2),.box v27,.box v7,.box [.i n_9.1.inp.length,.sl v43.length 4 (opG v43)],.box [.i n_11.1.inp.length,.sl v29.length 4 (opG v29)]])) (.all (λ(x:Bool)=>True) λn_5=>.ite n_5 (.all (λ(x:Bool)=>True) λn_6=>.ite n_6 (.ex v8 λn_7=>.A λn_8=>.ex v1 λn_9=>.all (λ(r:RS×Int)=>r=recV n_9.x n_9.day n_9.f n_9.c) λn_10=>let v30:=RS.ops n_10.1;.ex v1 λn_11=>.all (λ(r:RS×Int)=>r=recV n_11.x n_11.day n_11.f n_11.c) λn_12=>let v31:=RS.ops n_12.1;let v15:=n_10.2=n_12.2;.ex (q64 [.agg [.i n_10.1.inp.length,.sl v30.length 4 (opG v30)],.agg [.i n_12.1.inp.length,.sl v31.length 4 (opG v31)]]) λn_13=>.all (λ(r:Bool)=>r=true↔n_13.1=n_13.2) λn_14=>.ex (λ(x:List Fx×List Fx)=>n_14=true->q65 [.sl n_10.1.inp.length 3 (fxG n_10.1.inp),.sl n_12.1.inp.length 3 (fxG n_12.1.inp)] x) λn_15=>.all (λ(x:Bool)=>n_14=true->(x=true↔n_15.1=n_15.2)) λn_16=>.ex (λ(x9:Ex×Ex)=>(bif bif n_14 then n_16 else false then decide v15 else false)=true->q66 v5 x9) λn_17=>.all (λ(x:Bool)=>(bif bif n_14 then n_16 else false then decide v15 else false)=true->(x=true↔n_17.1=n_17.2)) λn_18=>.ex (λ(x:(List Fx×List Ch)×List Fx×List Ch)=>(bif bif bif n_14 then n_16 else false then decide v15 else false then n_18 else false)=true->q67 [.agg v3,.agg [.sl n_7.1.length 3 (zf (fxG n_7.1) 0),.sl n_7.2.length 4 (zf (chG n_7.2) 0)]] x) λn_19=>.all (λ(x:Bool)=>(bif bif bif n_14 then n_16 else false then decide v15 else false then n_18 else false)=true->(x=true↔n_19.1=n_19.2)) λn_20=>.R [.bool (bif bif bif bif n_14 then n_16 else false then decide v15 else false then n_18 else false then n_20 else false)] [.box v4,.box v6,.box v7,.arr n_7.1.length 3 (fxG n_7.1),.arr n_7.2.length 4 (chG n_7.2),.box [.osl 3 3 0 n_7.1.length,.osl 4 4 0 n_7.2.length],.box [.i n_10.1.inp.length,.sl v30.length 4 (opG v30)],.box [.i n_12.1.inp.length,.sl v31.length 4 (opG v31)]]) (.ex v8 λn_7=>.A λn_8=>.ex v1 λn_9=>.all (λ(r:RS×Int)=>r=recV n_9.x n_9.day n_9.f n_9.c) λn_10=>let v32:=RS.ops n_10.1;.ex v1 λn_11=>.all (λ(r:RS×Int)=>r=recV n_11.x n_11.day n_11.f n_11.c) λn_12=>let v33:=RS.ops n_12.1;let v16:=n_10.2=n_12.2;.ex (q64 [.agg [.i n_10.1.inp.length,.sl v32.length 4 (opG v32)],.agg [.i n_12.1.inp.length,.sl v33.length 4 (opG v33)]]) λn_13=>.all (λ(r:Bool)=>r=true↔n_13.1=n_13.2) λn_14=>.ex (λ(x:List Fx×List Fx)=>n_14=true->q65 [.sl n_10.1.inp.length 3 (fxG n_10.1.inp),.sl n_12.1.inp.length 3 (fxG n_12.1.inp)] x) λn_15=>.all (λ(x:Bool)=>n_14=true->(x=true↔n_15.1=n_15.2)) λn_16=>.ex (λ(x9:Ex×Ex)=>(bif bif n_14 then n_16 else false then decide v16 else false)=true->q66 v5 x9) λn_17=>.all (λ(x:Bool)=>(bif bif n_14 then n_16 else false then decide v16 else false)=true->(x=true↔n_17.1=n_17.2)) λn_18=>.ex (λ(x:(List Fx×List Ch)×List Fx×List Ch)=>(bif bif bif n_14 then n_16 else false then decide v16 else false then n_18 else false)=true->q67 [.agg v3,.agg [.sl n_7.1.length 3 (zf (fxG n_7.1) 0),.sl n_7.2.length 4 (zf (chG n_7.2) 0)]] x) λn_19=>.all (λ(x:Bool)=>(bif bif bif n_14 then n_16 else false then decide v16 else false then n_18 else false)=true->(x=true↔n_19.1=n_19.2)) λn_20=>.R [.bool (bif bif bif bif n_14 then n_16 else false then decide v16 else false then n_18 else false then n_20 else false)] [.box v4,.box v6,.box v7,.box [.osl 4 3 0 n_7.1.length,.osl 5 4 0 n_7.2.length],.arr n_7.1.length 3 (fxG n_7.1),.arr n_7.2.length 4 (chG n_7.2),.box [.i n_10.1.inp.length,.sl v32.length 4 (opG v32)],.box [.i n_12.1.inp.length,.sl v33.length 4 (opG v33)]])) (.all (λ(x:Bool)=>True) λn_6=>.ite n_6 (.ex v8 λn_7=>.A λn_8=>.ex v1 λn_9=>.all (λ(r:RS×Int)=>r=recV n_9.x n_9.day n_9.f n_9.c) λn_10=>let v34:=RS.ops n_10.1;.ex v1 λn_11=>.all (λ(r:RS×Int)=>r=recV n_11.x n_11.day n_11.f n_11.c) λn_12=>let v35:=RS.ops n_12.1;let v17:=n_10.2=n_12.2;.ex (q64 [.agg [.i n_10.1.inp.length,.sl v34.length 4 (opG v34)],.agg [.i n_12.1.inp.length,.sl v35.length 4 (opG v35)]]) λn_13=>.all (λ(r:Bool)=>r=true↔n_13.1=n_13.2) λn_14=>.ex (λ(x:List Fx×List Fx)=>n_14=true->q65 [.sl n_10.1.inp.length 3 (fxG n_10.1.inp),.sl n_12.1.inp.length 3 (fxG n_12.1.inp)] x) λn_15=>.all (λ(x:Bool)=>n_14=true->(x=true↔n_15.1=n_15.2)) λn_16=>.ex (λ(x9:Ex×Ex)=>(bif bif n_14 then n_16 else false then decide v17 else false)=true->q66 v5 x9) λn_17=>.all (λ(x:Bool)=>(bif bif n_14 then n_16 else false then decide v17 else false)=true->(x=true↔n_17.1=n_17.2)) λn_18=>.ex (λ(x:(List Fx×List Ch)×List Fx×List Ch)=>(bif bif bif n_14 then n_16 else false then decide v17 else false then n_18 else false)=true->q67 [.agg v3,.agg [.sl n_7.1.length 3 (zf (fxG n_7.1) 0),.sl n_7.2.length 4 (zf (chG n_7.2) 0)]] x) λn_19=>.all (λ(x:Bool)=>(bif bif bif n_14 then n_16 else false then decide v17 else false then n_18 else false)=true->(x=true↔n_19.1=n_19.2)) λn_20=>.R [.bool (bif bif bif bif n_14 then n_16 else false then decide v17 else false then n_18 else false then n_20 else false)] [.box v4,.box v6,.box [.osl 3 3 0 n_7.1.length,.osl 4 4 0 n_7.2.length],.arr n_7.1.length 3 (fxG n_7.1),.arr n_7.2.length 4 (chG n_7.2),.box v7,.box [.i n_10.1.inp.length,.sl v34.length 4 (opG v34)],.box [.i n_12.1.inp.length,.sl v35.length 4 (opG v35)]]) (.ex v8 λn_7=>.A λn_8=>.ex v1 λn_9=>.all (λ(r:RS×Int)=>r=recV n_9.x n_9.day n_9.f n_9.c) λn_10=>let v36:=RS.ops n_10.1;.ex v1 λn_11=>.all (λ(r:RS×Int)=>r=recV n_11.x n_11.day n_11.f n_11.c) λn_12=>let v37:=RS.ops n_12.1;let v18:=n_10.2=n_12.2;.ex (q64 [.agg [.i n_10.1.inp.length,.sl v36.length 4 (opG v36)],.agg [.i n_12.1.inp.length,.sl v37.length 4 (opG v37)]]) λn_13=>.all (λ(r:Bool)=>r=true↔n_13.1=n_13.2) λn_14=>.ex (λ(x:List Fx×List Fx)=>n_14=true->q65 [.sl n_10.1.inp.length 3 (fxG n_10.1.inp),.sl n_12.1.inp.length 3 (fxG n_12.1.inp)] x) λn_15=>.all (λ(x:Bool)=>n_14=true->(x=true↔n_15.1=n_15.2)) λn_16=>.ex (λ(x9:Ex×Ex)=>(bif bif n_14 then n_16 else false then decide v18 else false)=true->q66 v5 x9) λn_17=>.all (λ(x:Bool)=>(bif bif n_14 then n_16 else false then decide v18 else false)=true->(x=true↔n_17.1=n_17.2)) λn_18=>.ex (λ(x:(List Fx×List Ch)×List Fx×List Ch)=>(bif bif bif n_14 then n_16 else false then decide v18 else false then n_18 else false)=true->q67 [.agg v3,.agg [.sl n_7.1.length 3 (zf (fxG n_7.1) 0),.sl n_7.2.length 4 (zf (chG n_7.2) 0)]] x) λn_19=>.all (λ(x:Bool)=>(bif bif bif n_14 then n_16 else false then decide v18 else false then n_18 else false)=true->(x=true↔n_19.1=n_19.2)) λn_20=>.R [.bool (bif bif bif bif n_14 then n_16 else false then decide v18 else false then n_18 else false then n_20 else false)] [.box v4,.box v6,.box [.osl 4 3 0 n_7.1.length,.osl 5 4 0 n_7.2.length],.box v7,.arr n_7.1.length 3 (fxG n_7.1),.arr n_7.2.length 4 (chG n_7.2),.box [.i n_10.1.inp.length,.sl v36.length 4 (opG v36)],.box [.i n_12.1.inp.length,.sl v37.length 4 (opG v37)]])))) (.all (λ(x:Bool)=>True) λn=>.ite n (.all (λ(x:Bool)=>True) λn=>.ite n (.ex v14 λn=>let v12:List AV:=[.int .u8 n.kind,.str n.rat,.str n.name,.i n.date,.sl n.sub.length 5 n.deep];let v9:=[AV.agg v2,AV.agg [.int .u8 n.kind,.str n.rat,.str n.name,.i n.date,.sl n.sub.length 5 n.deep]];.A λn_3=>.all (λ(x:Bool)=>True) λn_4=>.ite n_4 (.ex v8 λn_5=>.A λn_6=>.ex v1 λn_7=>.all (λ(r:RS×Int)=>r=recV n_7.x n_7.day n_7.f n_7.c) λn_8=>let v44:=RS.ops n_8.1;.ex v1 λn_9=>.all (λ(r:RS×Int)=>r=recV n_9.x n_9.day n_9.f n_9.c) λn_10=>let v38:=RS.ops n_10.1;let v21:=n_8.2=n_10.2;.ex (q64 [.agg [.i n_8.1.inp.length,.sl v44.length 4 (opG v44)],.agg [.i n_10.1.inp.length,.sl v38.length 4 (opG v38)]]) λn_11=>.all (λ(r:Bool)=>r=true↔n_11.1=n_11.2) λn_12=>.ex (λ(x:List Fx×List Fx)=>n_12=true->q65 [.sl n_8.1.inp.length 3 (fxG n_8.1.inp),.sl n_10.1.inp.length 3 (fxG n_10.1.inp)] x) λn_13=>.all (λ(x:Bool)=>n_12=true->(x=true↔n_13.1=n_13.2)) λn_14=>.ex (λ(x9:Ex×Ex)=>(bif bif n_12 then n_14 else false then decide v21 else false)=true->q66 v9 x9) λn_15=>.all (λ(x:Bool)=>(bif bif n_12 then n_14 else false then decide v21 else false)=true->(x=true↔n_15.1=n_15.2)) λn_16=>.ex (λ(x:(List Fx×List Ch)×List Fx×List Ch)=>(bif bif bif n_12 then n_14 else false then decide v21 else false then n_16 else false)=true->q67 [.agg v3,.agg [.sl n_5.1.length 3 (zf (fxG n_5.1) 0),.sl n_5.2.length 4 (zf (chG n_5.2) 0)]] x) λn_17=>.all (λ(x:Bool)=>(bif bif bif n_12 then n_14 else false then decide v21 else false then n_16 else false)=true->(x=true↔n_17.1=n_17.2)) λn_18=>.R [.bool (bif bif bif bif n_12 then n_14 else false then decide v21 else false then n_16 else false then n_18 else false)] [.box v4,.box v6,.box v12,.arr n_5.1.length 3 (fxG n_5.1),.arr n_5.2.length 4 (chG n_5.2),.box [.osl 3 3 0 n_5.1.length,.osl 4 4 0 n_5.2.length],.box [.i n_8.1.inp.length,.sl v44.length 4 (opG v44)],.box [.i n_10.1.inp.length,.sl v38.length 4 (opG v38)]]) (.ex v8 λn_5=>.A λn_6=>.ex v1 λn_7=>.all (λ(r:RS×Int)=>r=recV n_7.x n_7.day n_7.f n_7.c) λn_8=>let v45:=RS.ops n_8.1;.ex v1 λn_9=>.all (λ(r:RS×Int)=>r=recV n_9.x n_9.day n_9.f n_9.c) λn_10=>let v39:=RS.ops n_10.1;let v22:=n_8.2=n_10.2;.ex (q64 [.agg [.i n_8.1.inp.length,.sl v45.length 4 (opG v45)],.agg [.i n_10.1.inp.length,.sl v39.length 4 (opG v39)]]) λn_11=>.all (λ(r:Bool)=>r=true↔n_11.1=n_11.2) λn_12=>.ex (λ(x:List Fx×List Fx)=>n_12=true->q65 [.sl n_8.1.inp.length 3 (fxG n_8.1.inp),.sl n_10.1.inp.length 3 (fxG n_10.1.inp)] x) λn_13=>.all (λ(x:Bool)=>n_12=true->(x=true↔n_13.1=n_13.2)) λn_14=>.ex (λ(x9:Ex×Ex)=>(bif bif n_12 then n_14 else false then decide v22 else false)=true->q66 v9 x9) λn_15=>.all (λ(x:Bool)=>(bif bif n_12 then n_14 else false then decide v22 else false)=true->(x=true↔n_15.1=n_15.2)) λn_16=>.ex (λ(x:(List Fx×List Ch)×List Fx×List Ch)=>(bif bif bif n_12 then n_14 else false then decide v22 else false then n_16 else false)=true->q67 [.agg v3,.agg [.sl n_5.1.length 3 (zf (fxG n_5.1) 0),.sl n_5.2.length 4 (zf (chG n_5.2) 0)]] x) λn_17=>.all (λ(x:Bool)=>(bif bif bif n_12 then n_14 else false then decide v22 else false then n_16 else false)=true->(x=true↔n_17.1=n_17.2)) λn_18=>.R [.bool (bif bif bif bif n_12 then n_14 else false then decide v22 else false then n_16 else false then n_18 else false)] [.box v4,.box v6,.box v12,.box [.osl 4 3 0 n_5.1.length,.osl 5 4 0 n_5.2.length],.arr n_5.1.length 3 (fxG n_5.1),.arr n_5.2.length 4 (chG n_5.2),.box [.i n_8.1.inp.length,.sl v45.length 4 (opG v45)],.box [.i n_10.1.inp.length,.sl v39.length 4 (opG v39)]])) (.ex v14 λn=>.A λn_3=>.ex v8 λn_4=>.A λn_5=>.ex v1 λn_6=>.all (λ(r:RS×Int)=>r=recV n_6.x n_6.day n_6.f n_6.c) λn_7=>let v46:=RS.ops n_7.1;.ex v1 λn_8=>.all (λ(r:RS×Int)=>r=recV n_8.x n_8.day n_8.f n_8.c) λn_9=>let v47:=RS.ops n_9.1;let v25:=n_7.2=n_9.2;.ex (q64 [.agg [.i n_7.1.inp.length,.sl v46.length 4 (opG v46)],.agg [.i n_9.1.inp.length,.sl v47.length 4 (opG v47)]]) λn_10=>.all (λ(r:Bool)=>r=true↔n_10.1=n_10.2) λn_11=>.ex (λ(x:List Fx×List Fx)=>n_11=true->q65 [.sl n_7.1.inp.length 3 (fxG n_7.1.inp),.sl n_9.1.inp.length 3 (fxG n_9.1.inp)] x) λn_12=>.all (λ(x:Bool)=>n_11=true->(x=true↔n_12.1=n_12.2)) λn_13=>.ex (λ(x9:Ex×Ex)=>(bif bif n_11 then n_13 else false then decide v25 else false)=true->q66 [.agg v2,.agg [.int .u8 n.kind,.str n.rat,.str n.name,.i n.date,.sl n.sub.length 5 n.deep]] x9) λn_14=>.all (λ(x:Bool)=>(bif bif n_11 then n_13 else false then decide v25 else false)=true->(x=true↔n_14.1=n_14.2)) λn_15=>.ex (λ(x:(List Fx×List Ch)×List Fx×List Ch)=>(bif bif bif n_11 then n_13 else false then decide v25 else false then n_15 else false)=true->q67 [.agg v3,.agg [.sl n_4.1.length 3 (zf (fxG n_4.1) 0),.sl n_4.2.length 4 (zf (chG n_4.2) 0)]] x) λn_16=>.all (λ(x:Bool)=>(bif bif bif n_11 then n_13 else false then decide v25 else false then n_15 else false)=true->(x=true↔n_16.1=n_16.2)) λn_17=>.R [.bool (bif bif bif bif n_11 then n_13 else false then decide v25 else false then n_15 else false then n_17 else false)] [.box v4,.box v6,.box [.int .u8 n.kind,.str n.rat,.str n.name,.i n.date,.sl n.sub.length 5 n.deep],.box [.osl 4 3 0 n_4.1.length,.osl 5 4 0 n_4.2.length],.arr n_4.1.length 3 (fxG n_4.1),.arr n_4.2.length 4 (chG n_4.2),.box [.i n_7.1.inp.length,.sl v46.length 4 (opG v46)],.box [.i n_9.1.inp.length,.sl v47.length 4 (opG v47)]])) (.all (λ(x:Bool)=>True) λn=>.ite n (.ex v14 λn=>let v13:List AV:=[.int .u8 n.kind,.str n.rat,.str n.name,.i n.date,.sl n.sub.length 5 n.deep];let v10:=[AV.agg v2,AV.agg [.int .u8 n.kind,.str n.rat,.str n.name,.i n.date,.sl n.sub.length 5 n.deep]];.A λn_3=>.all (λ(x:Bool)=>True) λn_4=>.ite n_4 (.ex v8 λn_5=>.A λn_6=>.ex v1 λn_7=>.all (λ(r:RS×Int)=>r=recV n_7.x n_7.day n_7.f n_7.c) λn_8=>let v48:=RS.ops n_8.1;.ex v1 λn_9=>.all (λ(r:RS×Int)=>r=recV n_9.x n_9.day n_9.f n_9.c) λn_10=>let v40:=RS.ops n_10.1;let v23:=n_8.2=n_10.2;.ex (q64 [.agg [.i n_8.1.inp.length,.sl v48.length 4 (opG v48)],.agg [.i n_10.1.inp.length,.sl v40.length 4 (opG v40)]]) λn_11=>.all (λ(r:Bool)=>r=true↔n_11.1=n_11.2) λn_12=>.ex (λ(x:List Fx×List Fx)=>n_12=true->q65 [.sl n_8.1.inp.length 3 (fxG n_8.1.inp),.sl n_10.1.inp.length 3 (fxG n_10.1.inp)] x) λn_13=>.all (λ(x:Bool)=>n_12=true->(x=true↔n_13.1=n_13.2)) λn_14=>.ex (λ(x9:Ex×Ex)=>(bif bif n_12 then n_14 else false then decide v23 else false)=true->q66 v10 x9) λn_15=>.all (λ(x:Bool)=>(bif bif n_12 then n_14 else false then decide v23 else false)=true->(x=true↔n_15.1=n_15.2)) λn_16=>.ex (λ(x:(List Fx×List Ch)×List Fx×List Ch)=>(bif bif bif n_12 then n_14 else false then decide v23 else false then n_16 else false)=true->q67 [.agg v3,.agg [.sl n_5.1.length 3 (zf (fxG n_5.1) 0),.sl n_5.2.length 4 (zf (chG n_5.2) 0)]] x) λn_17=>.all (λ(x:Bool)=>(bif bif bif n_12 then n_14 else false then decide v23 else false then n_16 else false)=true->(x=true↔n_17.1=n_17.2)) λn_18=>.R [.bool (bif bif bif bif n_12 then n_14 else false then decide v23 else false then n_16 else false then n_18 else false)] [.box v4,.box v6,.box [.osl 3 3 0 n_5.1.length,.osl 4 4 0 n_5.2.length],.arr n_5.1.length 3 (fxG n_5.1),.arr n_5.2.length 4 (chG n_5.2),.box v13,.box [.i n_8.1.inp.length,.sl v48.length 4 (opG v48)],.box [.i n_10.1.inp.length,.sl v40.length 4 (opG v40)]]) (.ex v8 λn_5=>.A λn_6=>.ex v1 λn_7=>.all (λ(r:RS×Int)=>r=recV n_7.x n_7.day n_7.f n_7.c) λn_8=>let v49:=RS.ops n_8.1;.ex v1 λn_9=>.all (λ(r:RS×Int)=>r=recV n_9.x n_9.day n_9.f n_9.c) λn_10=>let v41:=RS.ops n_10.1;let v24:=n_8.2=n_10.2;.ex (q64 [.agg [.i n_8.1.inp.length,.sl v49.length 4 (opG v49)],.agg [.i n_10.1.inp.length,.sl v41.length 4 (opG v41)]]) λn_11=>.all (λ(r:Bool)=>r=true↔n_11.1=n_11.2) λn_12=>.ex (λ(x:List Fx×List Fx)=>n_12=true->q65 [.sl n_8.1.inp.length 3 (fxG n_8.1.inp),.sl n_10.1.inp.length 3 (fxG n_10.1.inp)] x) λn_13=>.all (λ(x:Bool)=>n_12=true->(x=true↔n_13.1=n_13.2)) λn_14=>.ex (λ(x9:Ex×Ex)=>(bif bif n_12 then n_14 else false then decide v24 else false)=true->q66 v10 x9) λn_15=>.all (λ(x:Bool)=>(bif bif n_12 then n_14 else false then decide v24 else false)=true->(x=true↔n_15.1=n_15.2)) λn_16=>.ex (λ(x:(List Fx×List Ch)×List Fx×List Ch)=>(bif bif bif n_12 then n_14 else false then decide v24 else false then n_16 else false)=true->q67 [.agg v3,.agg [.sl n_5.1.length 3 (zf (fxG n_5.1) 0),.sl n_5.2.length 4 (zf (chG n_5.2) 0)]] x) λn_17=>.all (λ(x:Bool)=>(bif bif bif n_12 then n_14 else false then decide v24 else false then n_16 else false)=true->(x=true↔n_17.1=n_17.2)) λn_18=>.R [.bool (bif bif bif bif n_12 then n_14 else false then decide v24 else false then n_16 else false then n_18 else false)] [.box v4,.box v6,.box [.osl 4 3 0 n_5.1.length,.osl 5 4 0 n_5.2.length],.box v13,.arr n_5.1.length 3 (fxG n_5.1),.arr n_5.2.length 4 (chG n_5.2),.box [.i n_8.1.inp.length,.sl v49.length 4 (opG v49)],.box [.i n_10.1.inp.length,.sl v41.length 4 (opG v41)]])) (.ex v14 λn=>.A λn_3=>.ex v8 λn_4=>.A λn_5=>.ex v1 λn_6=>.all (λ(r:RS×Int)=>r=recV n_6.x n_6.day n_6.f n_6.c) λn_7=>let v50:=RS.ops n_7.1;.ex v1 λn_8=>.all (λ(r:RS×Int)=>r=recV n_8.x n_8.day n_8.f n_8.c) λn_9=>let v51:=RS.ops n_9.1;let v26:=n_7.2=n_9.2;.ex (q64 [.agg [.i n_7.1.inp.length,.sl v50.length 4 (opG v50)],.agg [.i n_9.1.inp.length,.sl v51.length 4 (opG v51)]]) λn_10=>.all (λ(r:Bool)=>r=true↔n_10.1=n_10.2) λn_11=>.ex (λ(x:List Fx×List Fx)=>n_11=true->q65 [.sl n_7.1.inp.length 3 (fxG n_7.1.inp),.sl n_9.1.inp.length 3 (fxG n_9.1.inp)] x) λn_12=>.all (λ(x:Bool)=>n_11=true->(x=true↔n_12.1=n_12.2)) λn_13=>.ex (λ(x9:Ex×Ex)=>(bif bif n_11 then n_13 else false then decide v26 else false)=true->q66 [.agg v2,.agg [.int .u8 n.kind,.str n.rat,.str n.name,.i n.date,.sl n.sub.length 5 n.deep]] x9) λn_14=>.all (λ(x:Bool)=>(bif bif n_11 then n_13 else false then decide v26 else false)=true->(x=true↔n_14.1=n_14.2)) λn_15=>.ex (λ(x:(List Fx×List Ch)×List Fx×List Ch)=>(bif bif bif n_11 then n_13 else false then decide v26 else false then n_15 else false)=true->q67 [.agg v3,.agg [.sl n_4.1.length 3 (zf (fxG n_4.1) 0),.sl n_4.2.length 4 (zf (chG n_4.2) 0)]] x) λn_16=>.all (λ(x:Bool)=>(bif bif bif n_11 then n_13 else false then decide v26 else false then n_15 else false)=true->(x=true↔n_16.1=n_16.2)) λn_17=>.R [.bool (bif bif bif bif n_11 then n_13 else false then decide v26 else false then n_15 else false then n_17 else false)] [.box v4,.box v6,.box [.osl 4 3 0 n_4.1.length,.osl 5 4 0 n_4.2.length],.box [.int .u8 n.kind,.str n.rat,.str n.name,.i n.date,.sl n.sub.length 5 n.deep],.arr n_4.1.length 3 (fxG n_4.1),.arr n_4.2.length 4 (chG n_4.2),.box [.i n_7.1.inp.length,.sl v50.length 4 (opG v50)],.box [.i n_9.1.inp.length,.sl v51.length 4 (opG v51)]]))))) ?_;simp only [q59,q62,q63,q64,q65,q66,q67,Tree.holds,zd];have eE:eqL [.agg [.sl f.length 3 (fxG f),.sl c.length 4 (chG c)]] [envA f c]:=⟨⟨⟨rfl,rfl,za _ _ _⟩,⟨rfl,rfl,za _ _ _⟩,trivial⟩,trivial⟩;have eX:eqL [x.exA] [x.exA]:=⟨⟨⟨rfl,rfl⟩,rfl,rfl,⟨rfl,rfl⟩,⟨rfl,rfl,za _ _ _⟩,trivial⟩,trivial⟩;have eV:eqL [x.exA,.i day,envA f c] [x.exA,.i day,envA f c]:=⟨⟨⟨rfl,rfl⟩,rfl,rfl,⟨rfl,rfl⟩,⟨rfl,rfl,za _ _ _⟩,trivial⟩,⟨rfl,rfl⟩,⟨⟨rfl,rfl,za _ _ _⟩,⟨rfl,rfl,za _ _ _⟩,trivial⟩,trivial⟩;refine⟨x,⟨eX,hx⟩,⟨true,λh=>(by cases h)⟩,?_⟩;intro g1 hg1;refine⟨(f,c),λ_=>⟨eE,he⟩,⟨true,λ_ h=>(by cases h)⟩,?_⟩;intro g2 hg2;refine⟨λ_=>RetR.scal hq rfl (by simp [resV]),λh=> ?_⟩
 have h1:g1=false:=by
  cases g1 with
  | false=>rfl
  | true=>cases h
 rw [h1] at h;have h2:g2=false:=h;obtain⟨s1,s2⟩:=hg1 h1;have hp:=zff (hg2 h1 h2);have hok:VI.ok ⟨x,day,f,c⟩:=⟨by show x.size<_; omega,by show x.z3<_; omega,hp⟩;have rs:=za5 x day f c;have eT:∀ t:RS,eqA (.agg [.i t.inp.length,.sl t.ops.length 4 (opG t.ops)]) (Tp.mk t.inp.length t.ops).av:=λt=>⟨⟨rfl,rfl⟩,⟨rfl,rfl,za _ _ _⟩,trivial⟩
 repeat' first
  | apply zoo
  | apply zot x eX (by omega)
  | apply zpy (f,c) eE ⟨hp.1,hp.2.1⟩
 all_goals
  refine⟨⟨x,day,f,c⟩,⟨eV,hok⟩,⟨_,rfl⟩,?_⟩;rintro _ rfl;refine⟨⟨x,day,f,c⟩,⟨eV,hok⟩,⟨_,rfl⟩,?_⟩;rintro _ rfl;refine⟨(⟨(recV x day f c).1.inp.length,(recV x day f c).1.ops⟩,⟨(recV x day f c).1.inp.length,(recV x day f c).1.ops⟩),⟨⟨eT _,eT _,trivial⟩,by show(recV x day f c).1.ops.length<_; omega⟩,⟨true,by simp⟩,?_⟩;intro b1 hb1;obtain rfl:b1=true:=hb1.2 rfl;refine⟨((recV x day f c).1.inp,(recV x day f c).1.inp),λ_=>⟨⟨⟨rfl,rfl,za _ _ _⟩,⟨rfl,rfl,za _ _ _⟩,trivial⟩,by show(recV x day f c).1.inp.length<_; omega⟩,⟨true,by simp⟩,?_⟩;intro b2 hb2;obtain rfl:b2=true:=(hb2 rfl).2 rfl;refine⟨(x,x),λ_=>⟨⟨eX.1,⟨⟨rfl,rfl⟩,rfl,rfl,⟨rfl,rfl⟩,⟨rfl,rfl,Ex.zH x⟩,trivial⟩,trivial⟩,by show x.size<_; omega⟩,⟨true,λ_=>by simp⟩,?_⟩;intro b3 hb3;obtain rfl:b3=true:=(hb3 (by simp)).2 rfl;refine⟨((f,c),(f,c)),λ_=>⟨⟨eE.1,⟨⟨rfl,rfl,λj o _ _=>by simp only [zf,Nat.zero_add]⟩,⟨rfl,rfl,λj o _ _=>by simp only [zf,Nat.zero_add]⟩,trivial⟩,trivial⟩,hp.1,hp.2.1⟩,⟨true,λ_=>by simp⟩,?_⟩;intro b4 hb4;obtain rfl:b4=true:=(hb4 (by simp)).2 rfl;exact RetR.scal hq rfl (by simp [resV])
end Go.Proofs.Tryz
end
section
namespace Go.Sx
variable [Stat]
open Go.RowKit (Below)
def E0:Nat->Prop:=Own (λ_=>False) []
theorem Vm(b:Nat):¬ E0 b:=by
 rintro(h | ⟨e,he,_⟩)
 ·exact h
 ·simp at he
def Tw(P:Program)(W:World)(t:TypeId)(cs:List Value):Prop:=∃ (H:Type) (enc:TypeId×Value->H) (base fuel:Nat) (d:DataW H) (ps:List MemPlace),DataW.trod enc P W base (λ_=>true) true fuel t cs=some (d,ps)/\∀ n∈d.weights P t,n<=reachBytes
section
variable {P:Program} {W:World} {t e:TypeId} {cs:List Value}
theorem Zr(ht:P.underlying t=some .string)(h:Tw P W t cs):∃ s:L8,cs=[.string ⟨s.toArray⟩]/\s.length<=reachBytes:=by
 obtain⟨H,enc,base,fuel,d,ps,h,hw⟩:=h;obtain⟨s,rfl,hx,_⟩:=DataW.trod_string ht h;cases hx;exact⟨s.data.toList,by simp,hw _ (by simp [DataW.weights])⟩
theorem J7{k:IntKind}(ht:P.underlying t=some (.int k))(h:Tw P W t cs):∃ n,cs=[.int k n]/\(Lit.int k n).wf=true:=by
 obtain⟨H,enc,base,fuel,d,ps,h,hw⟩:=h;obtain⟨n,rfl,hx,hwf⟩:=DataW.trod_int ht h;exact⟨n,rfl,hwf⟩
theorem zm7(ht:P.underlying t=some .bool)(h:Tw P W t cs):∃ b,cs=[.bool b]:=by
 obtain⟨H,enc,base,fuel,d,ps,h,hw⟩:=h;obtain⟨b,rfl,hx⟩:=DataW.trod_bool ht h;exact⟨b,rfl⟩
theorem Zu{fs:Array Field}(ht:P.underlying t=some (.struct fs))(h:Tw P W t cs):cs.length=P.cellsOf t/\∀ (i:Nat) (f:Field),fs[i]?=some f->Tw P W f.type ((cs.drop f.offset).take (P.cellsOf f.type)):=by
 obtain⟨H,enc,base,fuel,d,ps,h,hw⟩:=h;obtain⟨xs,n,_,hx,hl,hlen,hf⟩:=DataW.trod_struct ht h;cases hx;refine⟨hl,λi f hfi=> ?_⟩;have hi:=hf i f hfi
 have hlt:i<xs.length:=by
  rw [hlen]; exact(aQ.1 hfi).1
 rw [aF hlt] at hi;refine⟨H,enc,base,n,xs[i].1,xs[i].2,hi,λm hm=>hw m ?_⟩;simp only [DataW.weights,ht];exact DataW.weights_mem_each (j:=i) (t:=f.type) (d:=xs[i].1) (by simp [hfi]) (by simp [hlt]) m hm
theorem vU{H:Type}{d:DataW H} : ∀ {l:List (DataW H)},d∈l->∀ n∈d.weights P e,n∈DataW.weightsAll P e l
 | x::l,hd,n,hn=>by
  simp only [DataW.weightsAll,bY];rcases aM.1 hd with rfl | hd
  ·exact .inl hn
  ·exact .inr (vU hd n hn)
theorem ziq(ht:P.underlying t=some (.slice e))(h:Tw P W t cs):cs=[.slice none 0 0]\/∃ (a:Addr) (len cap:Nat),cs=[.slice (some a) len cap]/\len<=cap/\cap*P.bytesOf e<=reachBytes /\
  ∀ i,i<len->∃ cs',cs'.length=P.cellsOf e/\(∀ o,o<P.cellsOf e->W.cell? ((a.add (i*P.cellsOf e)).add o)=cs'[o]?)/\Tw P W e cs':=by
 obtain⟨H,enc,base,fuel,d,ps,h,hw⟩:=h;rcases DataW.trod_slice ht h with ⟨rfl,_⟩ | ⟨a,len,cap,elems,rest,n,_,rfl,hx,hb,hl,hm,hlen,hel,hsp,_⟩
 ·exact .inl rfl
 ·right;cases hx;obtain⟨hrl,_⟩:=hsp rfl;simp only [DataW.weights,ht] at hw;refine⟨a,len,cap,rfl,hl,?_,λi hi=> ?_⟩
  ·have:=hw _ (List.mem_cons_self);simp only [List.length_map,hlen,hrl] at this
   rwa [show len+(cap - len)=cap by omega] at this
  ·have h1:=hel i hi;have hlt:i<elems.length:=by rw [hlen]; exact hi
   rw [aF hlt,Option.bind_eq_some_iff] at h1;obtain⟨cs',h2,h3⟩:=h1;obtain⟨_,h4,h5⟩:=World.cells?_some h2;refine⟨cs',h4,h5,H,enc,base,n,elems[i].1,elems[i].2,h3,λm hm2=>hw m ?_⟩;simp only [aM,bY];exact .inr (.inl (vU (d:=elems[i].1) (List.mem_map.2 ⟨elems[i],bK hlt,rfl⟩) m hm2))
theorem Wp{α:Type}(z:α)(cell:α->Nat->AV)(good:α->Prop){sz:Nat}(ht:P.underlying t=some (.slice e))(hsz:P.cellsOf e=sz)(hpos:0<sz)
  (hel:∀ cs',Tw P W e cs'->∃ x:α,good x/\∀ o,o<sz->∃ c,cs'[o]?=some c/\c.oneCell'=true/\Rep E0 W (cell x o) [] c) (h:Tw P W t cs) :
  ∃ (l:List α) (v:Value),cs=[v]/\(∀ x∈l,good x)/\l.length*P.bytesOf e<=reachBytes/\v.oneCell'=true/\Rep E0 W (.sl l.length sz λj=>cell (l.getD j z)) [] v:=by
 rcases ziq ht h with rfl | ⟨a,len,cap,rfl,hl,hw,hx⟩
 ·refine⟨[],_,rfl,by simp,by simp,rfl,?_⟩;simp only [Rep];exact⟨none,0,rfl,aJ _,.inl rfl⟩
 ·rw [hsz] at hx
  have hx2:∀ i,∃ x:α,i<len->good x/\∀ o,o<sz->∃ c,W.cell? ((a.add (i*sz)).add o)=some c/\c.oneCell'=true/\Rep E0 W (cell x o) [] c:=λi=>by
   by_cases hi:i<len
   ·obtain⟨cs',h1,h2,h3⟩:=hx i hi;obtain⟨x,hg,hc⟩:=hel cs' h3
    exact⟨x,λ_=>⟨hg,λo ho=>by
     obtain⟨c,g1,g2,g3⟩:=hc o ho;exact⟨c,by rw [h2 o ho,g1],g2,g3⟩⟩⟩
   ·exact⟨z,λh=>absurd h hi⟩
  obtain⟨f,hf⟩:=Classical.axiomOfChoice hx2;have hgd:∀ j,j<len->((List.range len).map f).getD j z=f j:=λj hj=>by simp [List.getD,hj]
  refine⟨(List.range len).map f,_,rfl,λx hxm=> ?_,?_,rfl,?_⟩
  ·obtain⟨i,hi,rfl⟩:=List.mem_map.1 hxm;exact(hf i (List.mem_range.1 hi)).1
  ·simp only [List.length_map,List.length_range];exact bP (aT _ hl) hw
  ·simp only [Rep,List.length_map,List.length_range];refine⟨some a,cap,rfl,hl,?_⟩;rcases bC len with h0 | h0
   ·exact .inl h0
   ·right
    have hspot:a.spot=none:=by
     obtain⟨c,g1,_⟩:=(hf 0 h0).2 0 hpos;have:=World.cell?_spot g1;simpa [Addr.add] using this
    refine⟨a,rfl,hspot,λj o hj ho=>⟨Vm _,?_⟩⟩;obtain⟨c,g1,g2,g3⟩:=(hf j hj).2 o ho;refine⟨c,?_,g2,by rw [hgd j hj]; exact g3⟩;rw [<- g1];obtain⟨b,off,spot⟩:=a;simp only at hspot;subst hspot;congr 1;simp only [Addr.add];split<;>split<;>simp_all<;>omega
theorem zek{g:Nat}{fn:Func}{c:Code}(hf:P.funcs[g]?=some fn)(hb:fn.body=some c) (hn:(fn.name == "runtime.NumGoroutine")=false) {ctr:Ctr} (hok:zc P g ctr) {args:List AV} {vals:List Value}
  (hspec:(ctr.spec args []).holds λr=>r=(.bool true,[])) (hr:RepL E0 W args [] vals) (hst:vX E0 W):Calls P g vals.toArray W λe W'=>e = .returned (.bool true)/\Below W.heap.size W W':=by
 have hn':¬ fn.name = "runtime.NumGoroutine" :=by simpa using hn
 have hg:Good (λ_=>False) W []:=⟨λb h=>h.elim,λi e ad he=>by simp at he,hst⟩;have hh:HRep (Own (λ_=>False) []) W [] []:=⟨rfl,λi j e f a b he=>by simp at he,λi e a he=>by simp at he,λi e b he=>by simp at he⟩;rcases hok args [] _ hspec (λ_=>rfl) (λ_=>False) W [] vals hg hh hr with ⟨_,h⟩ | ⟨v,w',h,_⟩
 ·refine h.mono ?_;rintro e W' ⟨v,rfl,r,hs,Z',hq,h1,_,_,_,_,hx⟩;cases hq;simp only [Rep] at h1;subst h1;exact⟨rfl,hx.os,hx.tape,hx.output,hx.size,λk hk=>hx.keep k hk λ⟨e,he,_⟩=>by simp at he⟩
 ·simp [callFunc,hf,hn',hb] at h
end
end Go.Sx
end
section
namespace Go.Sx
variable [Stat]
def TwN(P:Program)(W:World)(fuel:Nat)(t:TypeId)(cs:List Value):Prop:=∃ (H:Type) (enc:TypeId×Value->H) (base:Nat) (d:DataW H) (ps:List MemPlace),DataW.trod enc P W base (λ_=>true) true fuel t cs=some (d,ps)/\∀ n∈d.weights P t,n<=reachBytes
section
variable {P:Program} {W:World} {t e:TypeId} {cs:List Value}
theorem TwN.tw{fuel:Nat}(h:TwN P W fuel t cs):Tw P W t cs:=by
 obtain⟨H,enc,base,d,ps,h,hw⟩:=h;exact⟨H,enc,base,fuel,d,ps,h,hw⟩
theorem Tw.twn(h:Tw P W t cs):∃ fuel,TwN P W fuel t cs:=by
 obtain⟨H,enc,base,fuel,d,ps,h,hw⟩:=h;exact⟨fuel,H,enc,base,d,ps,h,hw⟩
theorem Y5{fuel:Nat}{fs:Array Field}(ht:P.underlying t=some (.struct fs))(h:TwN P W fuel t cs):cs.length=P.cellsOf t/\∃ n,n<fuel/\∀ (i:Nat) (f:Field),fs[i]?=some f->TwN P W n f.type ((cs.drop f.offset).take (P.cellsOf f.type)):=by
 obtain⟨H,enc,base,d,ps,h,hw⟩:=h;obtain⟨xs,n,hn,hx,hl,hlen,hf⟩:=DataW.trod_struct ht h;cases hx;refine⟨hl,n,by omega,λi f hfi=> ?_⟩;have hi:=hf i f hfi
 have hlt:i<xs.length:=by
  rw [hlen]; exact(aQ.1 hfi).1
 rw [aF hlt] at hi;refine⟨H,enc,base,xs[i].1,xs[i].2,hi,λm hm=>hw m ?_⟩;simp only [DataW.weights,ht];exact DataW.weights_mem_each (j:=i) (t:=f.type) (d:=xs[i].1) (by simp [hfi]) (by simp [hlt]) m hm
theorem zda{fuel:Nat}(ht:P.underlying t=some (.slice e))(h:TwN P W fuel t cs):cs=[.slice none 0 0]\/∃ (a:Addr) (len cap n:Nat),n<fuel/\cs=[.slice (some a) len cap]/\len<=cap/\cap*P.bytesOf e<=reachBytes /\
  ∀ i,i<len->∃ cs',cs'.length=P.cellsOf e/\(∀ o,o<P.cellsOf e->W.cell? ((a.add (i*P.cellsOf e)).add o)=cs'[o]?)/\TwN P W n e cs':=by
 obtain⟨H,enc,base,d,ps,h,hw⟩:=h;rcases DataW.trod_slice ht h with ⟨rfl,_⟩ | ⟨a,len,cap,elems,rest,n,hn,rfl,hx,hb,hl,hm,hlen,hel,hsp,_⟩
 ·exact .inl rfl
 ·right;cases hx;obtain⟨hrl,_⟩:=hsp rfl;simp only [DataW.weights,ht] at hw;refine⟨a,len,cap,n,by omega,rfl,hl,?_,λi hi=> ?_⟩
  ·have:=hw _ (List.mem_cons_self);simp only [List.length_map,hlen,hrl] at this
   rwa [show len+(cap - len)=cap by omega] at this
  ·have h1:=hel i hi;have hlt:i<elems.length:=by rw [hlen]; exact hi
   rw [aF hlt,Option.bind_eq_some_iff] at h1;obtain⟨cs',h2,h3⟩:=h1;obtain⟨_,h4,h5⟩:=World.cells?_some h2;refine⟨cs',h4,h5,H,enc,base,elems[i].1,elems[i].2,h3,λm hm2=>hw m ?_⟩;simp only [aM,bY];exact .inr (.inl (vU (d:=elems[i].1) (List.mem_map.2 ⟨elems[i],bK hlt,rfl⟩) m hm2))
theorem YG{α:Type}(z:α)(cell:α->Nat->AV)(good:α->Prop){sz fuel:Nat}(ht:P.underlying t=some (.slice e))(hsz:P.cellsOf e=sz)(hpos:0<sz)
  (hel:∀ n cs',n<fuel->TwN P W n e cs'->∃ x:α,good x/\∀ o,o<sz->∃ c,cs'[o]?=some c/\c.oneCell'=true/\Rep E0 W (cell x o) [] c) (h:TwN P W fuel t cs) :
  ∃ (l:List α) (v:Value),cs=[v]/\(∀ x∈l,good x)/\l.length*P.bytesOf e<=reachBytes/\v.oneCell'=true/\Rep E0 W (.sl l.length sz λj=>cell (l.getD j z)) [] v:=by
 rcases zda ht h with rfl | ⟨a,len,cap,n,hn,rfl,hl,hw,hx⟩
 ·refine⟨[],_,rfl,by simp,by simp,rfl,?_⟩;simp only [Rep];exact⟨none,0,rfl,aJ _,.inl rfl⟩
 ·rw [hsz] at hx
  have hx2:∀ i,∃ x:α,i<len->good x/\∀ o,o<sz->∃ c,W.cell? ((a.add (i*sz)).add o)=some c/\c.oneCell'=true/\Rep E0 W (cell x o) [] c:=λi=>by
   by_cases hi:i<len
   ·obtain⟨cs',h1,h2,h3⟩:=hx i hi;obtain⟨x,hg,hc⟩:=hel n cs' hn h3
    exact⟨x,λ_=>⟨hg,λo ho=>by
     obtain⟨c,g1,g2,g3⟩:=hc o ho;exact⟨c,by rw [h2 o ho,g1],g2,g3⟩⟩⟩
   ·exact⟨z,λh=>absurd h hi⟩
  obtain⟨f,hf⟩:=Classical.axiomOfChoice hx2;have hgd:∀ j,j<len->((List.range len).map f).getD j z=f j:=λj hj=>by simp [List.getD,hj]
  refine⟨(List.range len).map f,_,rfl,λx hxm=> ?_,?_,rfl,?_⟩
  ·obtain⟨i,hi,rfl⟩:=List.mem_map.1 hxm;exact(hf i (List.mem_range.1 hi)).1
  ·simp only [List.length_map,List.length_range];exact bP (aT _ hl) hw
  ·simp only [Rep,List.length_map,List.length_range];refine⟨some a,cap,rfl,hl,?_⟩;rcases bC len with h0 | h0
   ·exact .inl h0
   ·right
    have hspot:a.spot=none:=by
     obtain⟨c,g1,_⟩:=(hf 0 h0).2 0 hpos;have:=World.cell?_spot g1;simpa [Addr.add] using this
    refine⟨a,rfl,hspot,λj o hj ho=>⟨Vm _,?_⟩⟩;obtain⟨c,g1,g2,g3⟩:=(hf j hj).2 o ho;refine⟨c,?_,g2,by rw [hgd j hj]; exact g3⟩;rw [<- g1];obtain⟨b,off,spot⟩:=a;simp only at hspot;subst hspot;congr 1;simp only [Addr.add];split<;>split<;>simp_all<;>omega
theorem zga{H:Type}{enc:TypeId×Value->H}{base:Nat}{sp:Nat->Bool}{held:Bool}{fuel:Nat}{kd:IntKind}{ps:List Int}{q:List MemPlace}(ht:P.underlying t=some (.slice e))(he:P.underlying e=some (.int kd))(hc:P.cellsOf e=1)(hne:ps≠[])
  (h:DataW.trod enc P W base sp held fuel t cs=some (.slice (ps.map λz=>.lit (.int kd z)) [],q)):∃ c,cs=[c]/\c.oneCell'=true/\Rep E0 W (.sl ps.length 1 λj _=>.int kd (ps.getD j 0)) [] c:=by
 obtain⟨a,cap,rfl,hl,hel⟩:=open_row ht hc h;refine⟨_,rfl,rfl,?_⟩;simp only [List.length_map] at hl
 have hv:∀ j,j<ps.length->W.cell? (a.add j)=some (.int kd (ps.getD j 0)):=λj hj=>by
  obtain⟨v,n,q',h1,h2⟩:=hel j (.lit (.int kd (ps.getD j 0))) (by simp [List.getD,hj]);obtain⟨m,h3,h4,_⟩:=DataW.trod_int he h2;simp only [List.cons.injEq,and_true] at h3;simp only [bE,DataW.lit.injEq,Lit.int.injEq,true_and] at h4;rw [h1,h3,h4.1]
 simp only [Rep,List.length_map];refine⟨some a,cap,rfl,hl,.inr ⟨a,rfl,?_,λj o hj ho=>⟨Vm _,.int kd (ps.getD j 0),?_,rfl,rfl⟩⟩⟩
 ·have:=World.cell?_spot (hv 0 (List.length_pos_iff.2 hne));simpa [Addr.add] using this
 ·have:o=0:=by omega
  subst this
  have hs:a.spot=none:=by
   have:=World.cell?_spot (hv 0 (List.length_pos_iff.2 hne));simpa [Addr.add] using this
  rw [<- hv j hj];obtain⟨b,off,spot⟩:=a;simp only at hs;subst hs;congr 1;simp only [Addr.add];split<;>simp_all
end
section
open Go.WideElems Go.ChangeMaps
variable {H:Type} {enc:TypeId×Value->H} {P:Program} {W:World} {base:Nat} {sp:Nat->Bool} {held:Bool}
theorem QE{x:Lit×DataW H} : ∀ {l:List (Lit×DataW H)},x∈l.foldr DataW.insert []↔x∈l
 | []=>Iff.rfl
 | y::l=>by rw [List.foldr_cons,mem_insert_iff,QE,aM]
theorem zbd{g:Nat}{t k e:TypeId}{kd:IntKind}{ag:Bool}{sz:Nat}{ks:List Int}{has:Int->Bool}{get:Int->Nat->AV}{fuel:Nat}{c:Value}{es0:List (Lit×DataW H)}{q:List MemPlace}
  (hg:(Stat.z g).isSome=true) (ht:P.underlying t=some (.map k e)) (hk:P.underlying k=some (.int kd)) (hc:W.cell? ⟨g,0,none⟩=some c) (hne:es0≠[])
  (h:DataW.trod enc P W base sp held fuel t [c]=some (.map es0,q))
  (hin:∀ (n:Int) (d:DataW H),(.int kd n,d)∈es0->has n=true/\∀ (v:Value) (m:Nat) (q:List MemPlace),v.formed P e=true->DataW.trod enc P W base sp held m e v.cells.toList=some (d,q) ->
   match ag with
   | true=>∃ vs:List Value,v = .agg vs.toArray/\vs.length=sz/\∀ o,o<sz->∃ c,vs[o]?=some c/\Rep E0 W (get n o) [] c
   | false=>Rep E0 W (get n 0) [] v)
  (hout:∀ n,has n=true->∃ d,(.int kd n,d)∈es0):Rep E0 W (.mp kd ag sz ks has get) [] c/\∀ b,c = .map (some b)->b<W.heap.size:=by
 rcases open_map ht h with ⟨_,hx⟩ | ⟨b,es,clock,n,_,hcs,hb,_,F,hx⟩
 ·simp at hx
 ·simp only [List.cons.injEq,and_true] at hcs;subst hcs;simp only [bE,DataW.map.injEq] at hx
  have hkey:∀ x∈es.toList,∃ (m:Int) (z:DataW H×List MemPlace),x.key = .int kd m/\elemAt enc P W base sp held n e x.val=some z/\(.int kd m,z.1)∈es0:=by
   intro x hxm;obtain⟨y,hy⟩:=F.reads x hxm;have h1:=rd_key hy;obtain⟨z,h2,h3⟩:=rd_val hy;have h4:y∈es0:=by rw [hx.1,QE]; exact List.mem_map.2 ⟨x,hxm,rg_of hy⟩
   have h5:mapKey P k x.key=some y.1:=by
    simp only [keyOf,hk] at h1;exact h1
   unfold mapKey at h5;rw [hk] at h5;cases hxk:x.key with
   | int k' m=>
    rw [hxk] at h5;simp only at h5;split at h5
    ·rename_i hc2;have h6:=Option.some.inj h5;obtain⟨rfl,_⟩:=hc2;refine⟨m,z,rfl,h2,?_⟩;rw [h6,<- h3]; exact h4
    ·cases h5
   | _=>rw [hxk] at h5; simp at h5
  have hlt:b<W.heap.size:=(aQ.1 hb).1;refine⟨?_,λb' hb'=>by cases hb'; exact hlt⟩;simp only [Rep];refine⟨b,es,clock,rfl,Vm _,⟨g,Vm _,hg,hc⟩,hb,λm=> ?_⟩
  have hspec:=MapKept.findNow_spec (d:=.int kd) (k:=.int kd m) (by simp [MapKept.IsKey]) es.toList 0 (λx hxm=>by
   obtain⟨m',z,h1,_⟩:=hkey x hxm;rw [h1]; simp [MapKept.IsKey])
  rcases hspec with ⟨h1,h2⟩ | ⟨j,x,h1,h2,h3⟩
  ·refine⟨λ_=>h1,λhm=> ?_⟩;obtain⟨d,hd⟩:=hout m hm;rw [hx.1,QE] at hd;obtain⟨x,hxm,hrx⟩:=List.mem_map.1 hd;obtain⟨y,hy⟩:=F.reads x hxm;rw [rg_of hy] at hrx;have h5:=rd_key hy;rw [hrx] at h5;obtain⟨m',z,g1,_⟩:=hkey x hxm
   have:keyOf P k x.key=some (.int kd m'):=by
    rw [g1] at h5 ⊢;simp only [keyOf,hk,mapKey] at h5 ⊢;split at h5
    ·rename_i hwf; rw [aP hwf]
    ·cases h5
   rw [this] at h5;cases h5;exact absurd g1 (h2 x hxm)
  ·have hxm:x∈es.toList:=aY h2;obtain⟨m',z,g1,g2,g3⟩:=hkey x hxm;rw [h3] at g1;cases g1;obtain⟨hh,hrep⟩:=hin m z.1 g3;refine⟨λhf=>(by rw [hf] at hh; cases hh),λ_=>⟨_,x.val,h1,?_⟩⟩;unfold elemAt at g2;split at g2
   ·rename_i hfm;exact hrep x.val n z.2 hfm g2
   ·cases g2
end
end Go.Sx
end
section
set_option maxRecDepth 100000
namespace Go.Proofs.YtfiocgnojggdjaaGreatDoor
open Go Go.Sx Go.Nov Go.Proofs.Tryz Go.ChangeShapes Go.WideShapes Go.ChangeAt Go.RowKit
theorem yz:Tryz.prog.cellsOf 9=1:=by kernel_rfl
theorem WK:Tryz.prog.cellsOf 22=1:=by kernel_rfl
theorem ZB:Tryz.prog.cellsOf 3=1:=by kernel_rfl
theorem YO:Tryz.prog.cellsOf 4=1:=by kernel_rfl
theorem X4:Tryz.prog.cellsOf 54=3:=by kernel_rfl
theorem XT:Tryz.prog.cellsOf 70=4:=by kernel_rfl
theorem zka:Tryz.prog.cellsOf 26=1:=by kernel_rfl
theorem zf7:Tryz.prog.cellsOf 27=1:=by kernel_rfl
theorem ze9:Tryz.prog.cellsOf 29=2:=by kernel_rfl
def zg2(x:Fx):Prop:=x.name.length<=reachBytes/\x.value.length<=reachBytes
def zkc(x:Ch):Prop:=x.zV.length<=reachBytes/\x.name.length<=reachBytes
theorem ziy{W:World}{cs:List Value}(h:Tw Tryz.prog W 54 cs):∃ x:Fx,zg2 x/\cs=[.string ⟨x.name.toArray⟩,.i x.date,.string ⟨x.value.toArray⟩]:=by
 obtain⟨hl,hf⟩:=Zu Tryz.underlying54 h;rw [X4] at hl
 match cs,hl with
 | [a,b,c],_=>
  have h0:Tw Tryz.prog W 9 (([a,b,c].drop 0).take (Tryz.prog.cellsOf 9)):=hf 0 _ rfl;rw [yz] at h0;replace h0:Tw Tryz.prog W 9 [a]:=h0;have h1:Tw Tryz.prog W 3 (([a,b,c].drop 1).take (Tryz.prog.cellsOf 3)):=hf 1 _ rfl;rw [ZB] at h1;replace h1:Tw Tryz.prog W 3 [b]:=h1;have h2:Tw Tryz.prog W 22 (([a,b,c].drop 2).take (Tryz.prog.cellsOf 22)):=hf 2 _ rfl;rw [WK] at h2;replace h2:Tw Tryz.prog W 22 [c]:=h2;obtain⟨s,e0,w0⟩:=Zr Tryz.underlying9 h0;obtain⟨n,e1,w1⟩:=J7 Tryz.underlying3 h1;obtain⟨u,e2,w2⟩:=Zr Tryz.underlying22 h2;cases e0; cases e1; cases e2;exact⟨⟨s,n,u⟩,⟨w0,w2⟩,rfl⟩
theorem zhf{W:World}{cs:List Value}(h:Tw Tryz.prog W 70 cs):∃ x:Ch,zkc x/\cs=[.string ⟨x.zV.toArray⟩,.string ⟨x.name.toArray⟩,.i x.date,.bool x.first]:=by
 obtain⟨hl,hf⟩:=Zu Tryz.underlying70 h;rw [XT] at hl
 match cs,hl with
 | [a,b,c,d],_=>
  have h0:Tw Tryz.prog W 9 (([a,b,c,d].drop 0).take (Tryz.prog.cellsOf 9)):=hf 0 _ rfl;rw [yz] at h0;replace h0:Tw Tryz.prog W 9 [a]:=h0;have h1:Tw Tryz.prog W 9 (([a,b,c,d].drop 1).take (Tryz.prog.cellsOf 9)):=hf 1 _ rfl;rw [yz] at h1;replace h1:Tw Tryz.prog W 9 [b]:=h1;have h2:Tw Tryz.prog W 3 (([a,b,c,d].drop 2).take (Tryz.prog.cellsOf 3)):=hf 2 _ rfl;rw [ZB] at h2;replace h2:Tw Tryz.prog W 3 [c]:=h2;have h3:Tw Tryz.prog W 4 (([a,b,c,d].drop 3).take (Tryz.prog.cellsOf 4)):=hf 3 _ rfl;rw [YO] at h3;replace h3:Tw Tryz.prog W 4 [d]:=h3;obtain⟨s,e0,w0⟩:=Zr Tryz.underlying9 h0;obtain⟨u,e1,w1⟩:=Zr Tryz.underlying9 h1;obtain⟨n,e2,w2⟩:=J7 Tryz.underlying3 h2;obtain⟨b,e3⟩:=zm7 Tryz.underlying4 h3;cases e0; cases e1; cases e2; cases e3;exact⟨⟨s,u,n,b⟩,⟨w0,w1⟩,rfl⟩
theorem zcy{W:World}{cs:List Value}(h:Tw Tryz.prog W 29 cs):∃ (f:List Fx) (c:List Ch) (u v:Value),cs=[u,v]/\(∀ x∈f,zg2 x)/\(∀ x∈c,zkc x)/\f.length*40<=reachBytes/\c.length*48<=reachBytes/\Rep E0 W (fxS f) [] u/\Rep E0 W (chS c) [] v:=by
 obtain⟨hl,hf⟩:=Zu Tryz.underlying29 h;rw [ze9] at hl
 match cs,hl with
 | [a,b],_=>
  have h0:Tw Tryz.prog W 26 (([a,b].drop 0).take (Tryz.prog.cellsOf 26)):=hf 0 _ rfl;rw [zka] at h0;replace h0:Tw Tryz.prog W 26 [a]:=h0;have h1:Tw Tryz.prog W 27 (([a,b].drop 1).take (Tryz.prog.cellsOf 27)):=hf 1 _ rfl;rw [zf7] at h1;replace h1:Tw Tryz.prog W 27 [b]:=h1
  obtain⟨f,u,e0,gf,wf,_,rf⟩:=Wp Fx.nil Fx.cell zg2 Tryz.underlying26 X4 (by decide) (λcs' h'=>by
   obtain⟨x,hx,rfl⟩:=ziy h';refine⟨x,hx,λo ho=> ?_⟩
   match o,ho with
   | 0,_=>exact⟨_,rfl,rfl,by simp [Fx.cell,Rep]⟩
   | 1,_=>exact⟨_,rfl,rfl,by simp [Fx.cell,Rep]⟩
   | 2,_=>exact⟨_,rfl,rfl,by simp [Fx.cell,Rep]⟩) h0
  obtain⟨c,v,e1,gc,wc,_,rc⟩:=Wp Ch.nil Ch.cell zkc Tryz.underlying27 XT (by decide) (λcs' h'=>by
   obtain⟨x,hx,rfl⟩:=zhf h';refine⟨x,hx,λo ho=> ?_⟩
   match o,ho with
   | 0,_=>exact⟨_,rfl,rfl,by simp [Ch.cell,Rep]⟩
   | 1,_=>exact⟨_,rfl,rfl,by simp [Ch.cell,Rep]⟩
   | 2,_=>exact⟨_,rfl,rfl,by simp [Ch.cell,Rep]⟩
   | 3,_=>exact⟨_,rfl,rfl,by simp [Ch.cell,Rep]⟩) h1
  cases e0; cases e1;have b1:Tryz.prog.bytesOf 54=40:=by kernel_rfl
  have b2:Tryz.prog.bytesOf 70=48:=by kernel_rfl
  rw [b1] at wf;rw [b2] at wc;exact⟨f,c,_,_,rfl,gf,gc,wf,wc,rf,rc⟩
theorem zmh{W:World}{cs:List Value}(h:Tw Tryz.prog W 29 cs):∃ p:List Fx×List Ch,zmw p/\Rep E0 W (envA p.1 p.2) [] (.agg cs.toArray):=by
 obtain⟨f,c,u,v,rfl,gf,gc,wf,wc,rf,rc⟩:=zcy h;have hr:=reachBytes_lt;refine⟨(f,c),⟨by show f.length<_; omega,by show c.length<_; omega,λj hj=> ?_,λj hj=> ?_⟩,?_⟩
 ·have:=gf (f.getD j Fx.nil) (by simp only at hj; simp [List.getD,hj]);exact⟨by have:=this.1; show(f.getD j Fx.nil).name.length<_; omega,by have:=this.2; show(f.getD j Fx.nil).value.length<_; omega⟩
 ·have:=gc (c.getD j Ch.nil) (by simp only at hj; simp [List.getD,hj]);exact⟨by have:=this.1; show(c.getD j Ch.nil).zV.length<_; omega,by have:=this.2; show(c.getD j Ch.nil).name.length<_; omega⟩
 ·simp only [RepL,Rep,envA];exact⟨[u,v],rfl,u,_,rfl,rf,v,_,rfl,rc,rfl⟩
theorem zkw{W:World}{cs:List Value}(h:Tw Tryz.prog W 3 cs):∃ n:Int,cs=[.i n]/\inR .i64 n/\Rep E0 W (.i n) [] (.i n):=by
 obtain⟨n,rfl,hn⟩:=J7 Tryz.underlying3 h;refine⟨n,rfl,?_,by simp [Rep]⟩;simp only [Lit.wf,bA,aK] at hn;exact hn
theorem zju:Tryz.prog.cellsOf 5=1:=by kernel_rfl
theorem zex:Tryz.prog.cellsOf 23=1:=by kernel_rfl
theorem X3:Tryz.prog.cellsOf 25=5:=by kernel_rfl
theorem Xj:∀ {l:List Ex},(∀ x∈l,x.thin)->Ex.yF l
 | [],_=>by rw [Ex.yF]; trivial
 | x::l,h=>by rw [Ex.yF]; exact⟨h x (by simp),Xj λy hy=>h y (by simp [hy])⟩
theorem zgc{W:World} : ∀ (fuel:Nat) {cs:List Value},TwN Tryz.prog W fuel 25 cs ->
  ∃ (x:Ex) (v:Value),x.thin/\cs=[.int .u8 x.kind,.string ⟨x.rat.toArray⟩,.string ⟨x.name.toArray⟩,.i x.date,v]/\v.oneCell'=true/\Rep E0 W (.sl x.sub.length 5 x.deep) [] v:=by
 intro fuel
 induction fuel using Nat.strongRecOn with
 | ind fuel ih=>
  intro cs h;obtain⟨hl,n,hn,hf⟩:=Y5 Tryz.underlying25 h;rw [X3] at hl
  match cs,hl with
  | [a,b,c,d,e],_=>
   have h0:TwN Tryz.prog W n 5 (([a,b,c,d,e].drop 0).take (Tryz.prog.cellsOf 5)):=hf 0 _ rfl;rw [zju] at h0;replace h0:TwN Tryz.prog W n 5 [a]:=h0;have h1:TwN Tryz.prog W n 22 (([a,b,c,d,e].drop 1).take (Tryz.prog.cellsOf 22)):=hf 1 _ rfl;rw [WK] at h1;replace h1:TwN Tryz.prog W n 22 [b]:=h1;have h2:TwN Tryz.prog W n 9 (([a,b,c,d,e].drop 2).take (Tryz.prog.cellsOf 9)):=hf 2 _ rfl;rw [yz] at h2;replace h2:TwN Tryz.prog W n 9 [c]:=h2;have h3:TwN Tryz.prog W n 3 (([a,b,c,d,e].drop 3).take (Tryz.prog.cellsOf 3)):=hf 3 _ rfl;rw [ZB] at h3;replace h3:TwN Tryz.prog W n 3 [d]:=h3;have h4:TwN Tryz.prog W n 23 (([a,b,c,d,e].drop 4).take (Tryz.prog.cellsOf 23)):=hf 4 _ rfl;rw [zex] at h4;replace h4:TwN Tryz.prog W n 23 [e]:=h4;obtain⟨k,e0,_⟩:=J7 Tryz.underlying5 h0.tw;obtain⟨r,e1,w1⟩:=Zr Tryz.underlying22 h1.tw;obtain⟨m,e2,w2⟩:=Zr Tryz.underlying9 h2.tw;obtain⟨z,e3,_⟩:=J7 Tryz.underlying3 h3.tw
   obtain⟨l,v,e4,gl,_,hone,hr⟩:=YG Ex.nil (λx=>Ex.cell x.kind x.rat x.name x.date x.sub.length x.deep) Ex.thin Tryz.underlying23 X3 (by decide) (λn' cs' hn' h'=>by
    obtain⟨x,v,hx,rfl,hv,hr⟩:=ih n' (by omega) h';refine⟨x,hx,λo ho=> ?_⟩
    match o,ho with
    | 0,_=>exact⟨_,rfl,rfl,by simp [Ex.cell,Rep]⟩
    | 1,_=>exact⟨_,rfl,rfl,by simp [Ex.cell,Rep]⟩
    | 2,_=>exact⟨_,rfl,rfl,by simp [Ex.cell,Rep]⟩
    | 3,_=>exact⟨_,rfl,rfl,by simp [Ex.cell,Rep]⟩
    | 4,_=>exact⟨v,rfl,hv,hr⟩) h4
   cases e0; cases e1; cases e2; cases e3; cases e4;have hb:reachBytes<=2^48:=by decide
   refine⟨.mk k r m z l,_,?_,rfl,hone,?_⟩
   ·rw [Ex.thin]; exact⟨bP w1 hb,bP w2 hb,Xj gl⟩
   ·have hq:=Ex.zH (.mk k r m z l);simp only [Ex.sub] at hq ⊢;simp only [Rep] at hr ⊢;obtain⟨a,cap,hv,hle,hcase⟩:=hr;refine⟨a,cap,hv,hle,hcase.imp id λ⟨ad,g1,g2,g3⟩=>⟨ad,g1,g2,λj o hj ho=> ?_⟩⟩;obtain⟨g4,c,g5,g6,g7⟩:=g3 j o hj ho;refine⟨g4,c,g5,g6,?_⟩;rw [hq j o hj ho];exact g7
theorem xt{W:World}{cs:List Value}(h:Tw Tryz.prog W 25 cs):∃ x:Ex,x.thin/\Rep E0 W x.exA [] (.agg cs.toArray):=by
 obtain⟨fuel,h⟩:=h.twn;obtain⟨x,v,hx,rfl,_,hr⟩:=zgc fuel h;refine⟨x,hx,?_⟩;have hq:=Ex.zH x
 have hr2:Rep E0 W (Ex.exS x.sub) [] v:=by
  simp only [Ex.exS,Rep] at hr ⊢;obtain⟨a,cap,hv,hle,hcase⟩:=hr;refine⟨a,cap,hv,hle,hcase.imp id λ⟨ad,g1,g2,g3⟩=>⟨ad,g1,g2,λj o hj ho=> ?_⟩⟩;obtain⟨g4,c,g5,g6,g7⟩:=g3 j o hj ho;exact⟨g4,c,g5,g6,by rw [<- hq j o hj ho]; exact g7⟩
 simp only [Ex.exA,Rep,RepL];exact⟨_,rfl,_,_,rfl,rfl,_,_,rfl,rfl,_,_,rfl,rfl,_,_,rfl,rfl,_,_,rfl,hr2,rfl⟩
theorem Yo:Tryz.prog.cellsOf 83=1:=by kernel_rfl
theorem zkd:Tryz.prog.cellsOf 154=1:=by kernel_rfl
theorem zj1:Tryz.prog.cellsOf 156=2:=by kernel_rfl
def shpE(H:Type):List (Lit×DataW H):=shpL.map λp=>(.int .u8 p.1,.agg [.slice (p.2.1.map λz=>.lit (.int .u8 z)) [],.lit (.int .u8 p.2.2)])
theorem zkj:∀ p∈shpL,uo p.1=some p.2/\p.2.1≠[]:=by decide
theorem zku{k:Int}(h:js k=true):∃ q,(k,q)∈shpL:=by
 unfold js uo at h;rw [Option.isSome_map] at h;obtain⟨p,hp⟩:=Option.isSome_iff_exists.1 h;have h1:=List.find?_some hp;have h2:=List.mem_of_find?_eq_some hp;have:p.1=k:=by simpa using h1
 exact⟨p.2,by rw [<- this]; exact h2⟩
theorem YS{W:World}{cs:List Value}{fuel:Nat}{q:List MemPlace}{c:Value}(hc:W.cell? ⟨1,0,none⟩=some c)
  (h:DataW.trod (λ_=>()) Tryz.prog W 0 (λ_=>true) false fuel 158 [c]=some (.map (shpE Unit),q)) :
  Rep E0 W (.mp .u8 true 2 [] (λk=>js k) λk o=>match o with
   | 0=>.sl (j9 k) 1 λj _=>.int .u8 (qL k j)
   | _=>.int .u8 (jk k)) [] c/\∀ b,c = .map (some b)->b<W.heap.size:=by
 refine zbd (g:=1) rfl Tryz.underlying158 Tryz.underlying5 hc (by decide) h ?_ ?_
 ·intro n d hd;obtain⟨p,hp,he⟩:=List.mem_map.1 hd;obtain⟨h1,h2⟩:=zkj p hp;simp only [bE,Lit.int.injEq,true_and] at he;obtain⟨rfl,rfl⟩:=he;refine⟨by simp [js,h1],λv m q' hf ht=> ?_⟩;obtain⟨xs,n',_,hx,hl,hlen,hfs⟩:=DataW.trod_struct Tryz.underlying156 ht;rw [zj1] at hl;cases v with
  | agg cs=>
   simp only [Value.cells] at hl hfs;obtain⟨cs⟩:=cs;simp only at hl hfs
   match cs,hl with
   | [a,b],_=>
    have f0:DataW.trod _ Tryz.prog W 0 _ false n' 154 (([a,b].drop 0).take (Tryz.prog.cellsOf 154))=xs[0]?:=hfs 0 _ rfl;have f1:DataW.trod _ Tryz.prog W 0 _ false n' 83 (([a,b].drop 1).take (Tryz.prog.cellsOf 83))=xs[1]?:=hfs 1 _ rfl;rw [zkd] at f0;rw [Yo] at f1
    match xs,hlen with
    | [x0,x1],_=>
     simp only [List.map_cons,List.map_nil,bE,DataW.agg.injEq,List.cons.injEq,and_true] at hx;obtain⟨⟨hx0,hx1⟩,_⟩:=hx;have f0:DataW.trod _ Tryz.prog W 0 _ false n' 154 [a]=some x0:=f0;have f1:DataW.trod _ Tryz.prog W 0 _ false n' 83 [b]=some x1:=f1;obtain⟨x0a,x0b⟩:=x0;obtain⟨x1a,x1b⟩:=x1;simp only at hx0 hx1;subst hx0; subst hx1;obtain⟨c0,e0,_,hr⟩:=zga Tryz.underlying154 Tryz.underlying83 Yo h2 f0;cases e0;obtain⟨z,e1,e2,_⟩:=DataW.trod_int Tryz.underlying83 f1;cases e1;simp only [bE,DataW.lit.injEq,Lit.int.injEq,true_and] at e2;refine⟨[a,.int .u8 z],rfl,rfl,λo ho=> ?_⟩;have g1:jn p.1=p.2.1:=by simp [jn,h1]
     have g2:jk p.1=p.2.2:=by simp [jk,h1]
     match o,ho with
     | 0,_=>
      refine⟨a,rfl,?_⟩;show Rep E0 W (.sl (j9 p.1) 1 λj _=>.int .u8 (qL p.1 j)) [] a;unfold j9 qL;rw [g1];exact hr
     | 1,_=>
      refine⟨_,rfl,?_⟩;show Rep E0 W (.int .u8 (jk p.1)) [] _;simp only [Rep];rw [g2,e2.1]
  | _=>simp [Value.formed,Tryz.underlying156] at hf
 ·intro n hn;obtain⟨q',hq⟩:=zku hn;exact⟨_,List.mem_map.2 ⟨_,hq,rfl⟩⟩
theorem zl7:Tryz.prog.globalNamed "novation/observable.shapes" = some 1:=by kernel_rfl
theorem zme:(Tryz.prog.globals[1]?).map (·.type)=some 158:=by kernel_rfl
theorem zkr:(Rows.laid_novation_observable_shapes:DataW Unit) = .map (shpE Unit):=rfl
theorem Y0{W:World} (h:laidMet Tryz.prog [("novation/observable.shapes",Rows.laid_novation_observable_shapes)] W):∃ c,W.cell? ⟨1,0,none⟩=some c /\
  Rep E0 W (.mp .u8 true 2 [] (λk=>js k) λk o=>match o with
   | 0=>.sl (j9 k) 1 λj _=>.int .u8 (qL k j)
   | _=>.int .u8 (jk k)) [] c/\∀ b,c = .map (some b)->b<W.heap.size:=by
 obtain⟨ps,⟨g0,t0,cs0,f0,p0,q0,hg0,ht0,hv0,hd0,_,_⟩,_,_⟩:=h;obtain rfl:=Option.some.inj (zl7.symm.trans hg0);obtain rfl:=Option.some.inj (zme.symm.trans ht0);rw [zkr] at hd0
 have hone:∃ c,cs0.toList=[c]:=by
  rcases Go.WideElems.open_map Tryz.underlying158 hd0 with ⟨hcs,_⟩ | ⟨b,es,clock,n,_,hcs,_⟩
  ·exact⟨_,hcs⟩
  ·exact⟨_,hcs⟩
 obtain⟨c,hcs⟩:=hone;rw [hcs] at hd0
 have hcell:W.cell? ⟨1,0,none⟩=some c:=by
  have:=World.var?_cell hg0 hv0 0;rw [Array.eq_one_of_toList hcs] at this;simpa using this
 obtain⟨h1,h2⟩:=YS (cs:=[c]) hcell hd0;exact⟨c,hcell,h1,h2⟩
theorem gOps:Tryz.prog.globalNamed "novation/observable.operations" = some 0:=by kernel_rfl
theorem tOps:(Tryz.prog.globals[0]?).map (·.type)=some 116:=by kernel_rfl
def opNm(b:L8):L8:=[40,42,110,111,118,97,116,105,111,110,47,111,98,115,101,114,118,97,98,108,101,46,115,116,97,116,101,41,46]++b
def opEs:List (Lit×DataW L8):=[(.int .u8 4,.held (opNm [97,100,100])),(.int .u8 5,.held (opNm [115,117,98])),(.int .u8 6,.held (opNm [109,117,108])),(.int .u8 7,.held (opNm [103,114,101,97,116,101,114])),(.int .u8 8,.held (opNm [115,109,97,108,108,101,114]))]
abbrev Vs:List (String×DataW Unit):=[("novation/observable.shapes",Rows.laid_novation_observable_shapes),("novation/observable.operations",Rows.laid_novation_observable_operations)]
def opsD:DataW Unit:=.map [(.int .u8 4,.iface "func" (.lit (.string (opNm [97,100,100])))),(.int .u8 5,.iface "func" (.lit (.string (opNm [115,117,98])))),(.int .u8 6,.iface "func" (.lit (.string (opNm [109,117,108])))),(.int .u8 7,.iface "func" (.lit (.string (opNm [103,114,101,97,116,101,114])))),(.int .u8 8,.iface "func" (.lit (.string (opNm [115,109,97,108,108,101,114]))))]
theorem zlv:(Rows.laid_novation_observable_operations:DataW Unit) = .iface "func table" opsD:=rfl
theorem zhz:opsD.funcsOut = .map opEs:=rfl
theorem zl5{W:World}{cs:List Value}{fuel:Nat}{q:List MemPlace}{c:Value}(hc:W.cell? ⟨0,0,none⟩=some c)
  (h:DataW.trod (funcToken Tryz.prog) Tryz.prog W 0 (λ_=>true) true fuel 116 [c]=some (.map opEs,q)) :
  Rep E0 W (.mp .u8 false 1 [4,5,6,7,8] (λk=>decide (4<=k/\k<=8)) λk _=>
  if k=4 then .fn 190 [] [] else if k=5 then .fn 191 [] [] else if k=6 then .fn 192 [] []
  else if k=7 then .fn 193 [] [] else .fn 194 [] []) [] c/\∀ b,c = .map (some b)->b<W.heap.size:=by
 refine zbd (g:=0) rfl Tryz.underlying116 Tryz.underlying5 hc (by decide) h ?_ ?_
 ·intro n d hd
  have one:∀ {v:Value} {m:Nat} {q:List MemPlace} {bs:L8} {f0:Nat},((List.range Tryz.prog.funcs.size).filter λf=>(Tryz.prog.funcs[f]?).any (·.name.toUTF8.data.toList == 40::bs))=[f0] ->
    v.formed Tryz.prog 115=true->DataW.trod (funcToken Tryz.prog) Tryz.prog W 0 (λ_=>true) true m 115 v.cells.toList=some (.held (40::bs),q)->Rep E0 W (.fn f0 [] []) [] v:=by
   intro v m q bs f0 hone hf ht
   have hcell:v.cells.toList=[v]:=by
    cases v with
    | agg _=>simp [Value.formed,Tryz.underlying115] at hf
    | _=>rfl
   rw [hcell] at ht;have:=func_of_trod Tryz.underlying115 hone ht;subst this;simp [Rep,RepL]
  simp only [opEs,aM,bE,Lit.int.injEq,true_and,List.not_mem_nil,or_false] at hd;rcases hd with ⟨rfl,rfl⟩ | ⟨rfl,rfl⟩ | ⟨rfl,rfl⟩ | ⟨rfl,rfl⟩ | ⟨rfl,rfl⟩
  ·exact⟨rfl,λv m q hf ht=>one (f0:=190) (by kernel_rfl) hf ht⟩
  ·exact⟨rfl,λv m q hf ht=>one (f0:=191) (by kernel_rfl) hf ht⟩
  ·exact⟨rfl,λv m q hf ht=>one (f0:=192) (by kernel_rfl) hf ht⟩
  ·exact⟨rfl,λv m q hf ht=>one (f0:=193) (by kernel_rfl) hf ht⟩
  ·exact⟨rfl,λv m q hf ht=>one (f0:=194) (by kernel_rfl) hf ht⟩
 ·intro n hn;have hn:=aB hn;have:n=4\/n=5\/n=6\/n=7\/n=8:=by omega
  rcases this with rfl | rfl | rfl | rfl | rfl
  ·exact⟨_,.head _⟩
  ·exact⟨_,.tail _ (.head _)⟩
  ·exact⟨_,.tail _ (.tail _ (.head _))⟩
  ·exact⟨_,.tail _ (.tail _ (.tail _ (.head _)))⟩
  ·exact⟨_,.tail _ (.tail _ (.tail _ (.tail _ (.head _))))⟩
theorem zl0{W:World}(h:laidMetH Tryz.prog Vs W):vX E0 W:=by
 have h1:laidMet Tryz.prog [("novation/observable.shapes",Rows.laid_novation_observable_shapes)] W:=h.1;have h2:=laidMetH.funcs h (n:= "novation/observable.operations") (d:=opsD) (by simp [Vs,zlv]);obtain⟨c1,k1,r1,b1⟩:=Y0 h1;obtain⟨g0,t0,cs0,f0,p0,hg0,ht0,hv0,hd0⟩:=h2;obtain rfl:=Option.some.inj (gOps.symm.trans hg0);obtain rfl:=Option.some.inj (tOps.symm.trans ht0);rw [zhz] at hd0
 have hone:∃ c,cs0.toList=[c]:=by
  rcases Go.WideElems.open_map Tryz.underlying116 hd0 with ⟨hcs,_⟩ | ⟨b,es,clock,n,_,hcs,_⟩
  ·exact⟨_,hcs⟩
  ·exact⟨_,hcs⟩
 obtain⟨c2,hcs⟩:=hone;rw [hcs] at hd0
 have k2:W.cell? ⟨0,0,none⟩=some c2:=by
  have:=World.var?_cell hg0 hv0 0;rw [Array.eq_one_of_toList hcs] at this;simpa using this
 obtain⟨r2,b2⟩:=zl5 (cs:=[c2]) k2 hd0;refine⟨λg a hz=>⟨Vm _,?_⟩⟩;by_cases hg:g=1
 ·subst hg;cases hz;exact⟨c1,k1,r1,b1⟩
 ·by_cases hg2:g=0
  ·subst hg2;cases hz;exact⟨c2,k2,r2,b2⟩
  ·have:Stat.z g=none:=by
    show(if _ then _ else if _ then _ else _)=_;rw [aO hg,aO hg2]
   rw [this] at hz; cases hz
theorem walk{W:World}{v0 v1 v2:List Value}(h0:Tw Tryz.prog W 25 v0)(h1:Tw Tryz.prog W 3 v1)(h2:Tw Tryz.prog W 29 v2)(hst:vX E0 W) :
  ∃ s1:Value,v1=[s1]/\Calls Tryz.prog 3 #[.agg v0.toArray,s1,.agg v2.toArray] W λe W'=>e = .returned (.bool true)/\Below W.heap.size W W':=by
 obtain⟨x,xg,xr⟩:=xt h0;obtain⟨day,rfl,dayg,dayr⟩:=zkw h1;obtain⟨v,vg,vr⟩:=zmh h2;refine⟨_,rfl,?_⟩;refine zek (fn:=Tryz.f3) (c:=Tryz.f3.body.getD .skip) rfl rfl rfl zid (args:=[x.exA,.i day,envA v.1 v.2]) (vals:=[.agg v0.toArray,.i day,.agg v2.toArray]) ?_ ?_ hst
 ·refine⟨(x,day,v),⟨?_,⟨xg,dayg,vg⟩⟩,⟨true,rfl⟩,?_⟩
  ·simp [eqL,eqA,eqA0,eqL0,envA,fxS,chS,Fx.av,Ch.av,Ex.exA,Ex.exS,za]
  ·rintro _ rfl;rfl
 ·exact⟨_,_,rfl,xr,⟨_,_,rfl,dayr,⟨_,_,rfl,vr,rfl⟩⟩⟩
theorem own:ownKnob Tryz.prog.godebug=none:=by kernel_rfl
theorem laid:laidOutB Tryz.prog=true:=by kernel_rfl
theorem zfb(os:Os)(args:Array Value):laidMetH Tryz.prog Vs ((World.doorLaid Tryz.prog 400 os).forCall (λ_ _=>0) ⟨#[],args,[]⟩).memory:=
 laidMetH_of_parts3 (fuel:=8) (laidMet_of_run' 8 (by kernel_rfl) (by kernel_rfl)) (by kernel_rfl) (by kernel_rfl)
theorem lifted(os:Os)(started:os.Started)(H:Type)(enc:TypeId×Value->H) :
  ReturnsInHanded {} Tryz.checked os 3 .any (λw args=>(Rows.bumpTapesSpec.pre enc Tryz.prog Tryz.f3 [] false w args/\laidMetH Tryz.prog Vs w)/\sizedMet enc Tryz.prog Tryz.f3 (OpenSpec.ofChange Rows.bumpTapesSpec) false w args)
   (Rows.bumpTapesSpec.post enc Tryz.prog Tryz.f3 false true false false):=by
 refine returnsInHanded_of_change_and (C:=Tryz.checked) (X:=λw _=>laidMetH Tryz.prog Vs w) (λ_ _ _ hh h=>h.of_heap hh) own started (by kernel_rfl) Tryz.func3
  (ChangeSpec.witness_shaped (enc:=enc) (C:=Tryz.checked) (os:=os) (X:=λw _=>laidMetH Tryz.prog Vs w) false (World.doorLaid Tryz.prog 400 os) #[.agg #[.int .u8 0,.string ⟨#[]⟩,.string ⟨#[]⟩,.i 0,.slice none 0 0],.i 0,.agg #[.slice none 0 0,.slice none 0 0]] 8 rfl (World.shaped_of_RefB (by kernel_rfl) (by kernel_rfl)) (by kernel_rfl) (by kernel_rfl) (by kernel_rfl) (zfb os _)) ?_
 intro W base args ds gs before hval0 hW hcnd hwt hL _;have hval:∀ (j:Nat) t v,Tryz.f3.params[j]?=some t->args[j]?=some v->Value.okWide Tryz.prog W .any base t v:=hval0;have hW':=hW;obtain⟨p,q,hA0,hV,rfl,hfz,hnd⟩:=hW;have hA:DataW.TrodAll enc Tryz.prog W 0 (λ_=>true) true Tryz.f3.params.toList args.toList ds p:=hA0;rw [Tryz.params3] at hA hval;obtain⟨v0,vs0,d0,ds0,p0,q0,hargs,rfl,rfl,h0,r0⟩:=trodAll_cons hA;obtain⟨v1,vs1,d1,ds1,p1,q1,rfl,rfl,rfl,h1,r1⟩:=trodAll_cons r0;obtain⟨v2,vs2,d2,ds2,p2,q2,rfl,rfl,rfl,h2,r2⟩:=trodAll_cons r1;obtain⟨rfl,rfl,rfl⟩:=trodAll_nil r2;obtain rfl:args = #[v0,v1,v2]:=by cases args; simp_all
 obtain⟨rfl,rfl⟩:=trodVars_none hV;clear hA0 hval0;simp only [List.append_nil] at hW' hwt
 have hw:∀ (j:Nat) (t:TypeId) (d:DataW H),[25,3,29][j]?=some t->[d0,d1,d2][j]?=some d->∀ n∈d.weights Tryz.prog t,n<=reachBytes:=λj t d ht hd n hn=>by
  have:=bG.1 hwt n (DataW.weights_mem_each (j:=j) (t:=t) (d:=d) (by exact ht) (by exact hd) n hn);simpa using this
 obtain⟨c0,rfl,_⟩:=okWide_struct Tryz.underlying25 (hval 0 25 v0 rfl rfl);obtain⟨c1,rfl⟩:=okWide_int Tryz.underlying3 (hval 1 3 v1 rfl rfl);obtain⟨c2,rfl,_⟩:=okWide_struct Tryz.underlying29 (hval 2 29 v2 rfl rfl)
 have t0:Tw Tryz.prog W 25 c0.toList:=by
  obtain⟨fuel,hf⟩:=h0;exact⟨H,enc,0,fuel,d0,p0,by simpa [Value.cells] using hf,hw 0 _ d0 rfl rfl⟩
 have t1:Tw Tryz.prog W 3 [.i c1]:=by
  obtain⟨fuel,hf⟩:=h1;exact⟨H,enc,0,fuel,d1,p1,by simpa [Value.cells] using hf,hw 1 _ d1 rfl rfl⟩
 have t2:Tw Tryz.prog W 29 c2.toList:=by
  obtain⟨fuel,hf⟩:=h2;exact⟨H,enc,0,fuel,d2,p2,by simpa [Value.cells] using hf,hw 2 _ d2 rfl rfl⟩
 have hlt:∀ x∈p0++(p1++p2),x.block<W.heap.size:=λx hx=>by simpa using hW'.lt x (by simpa using hx)
 obtain⟨s1,e1,hcall⟩:=walk t0 t1 t2 (zl0 hL);cases e1;simp only [Array.toArray_toList] at hcall;refine hcall.mono λe W' ⟨he,hb⟩=> ?_
 subst he;refine⟨_,rfl,_,_,_,[],p0++(p1++p2),[],hW',trodAll_mk1 (shut_bool Tryz.underlying4 true),?_,rfl,hb.frame _,λh=>by cases h⟩;exact trodAll_mk3 (Below.trod laid (by kernel_rfl) (aB (by kernel_rfl)) h0 hb λx hx=>hlt x (by simp [hx])) (Below.trod laid (by kernel_rfl) (aB (by kernel_rfl)) h1 hb λx hx=>hlt x (by simp [hx])) (Below.trod laid (by kernel_rfl) (aB (by kernel_rfl)) h2 hb λx hx=>hlt x (by simp [hx]))
theorem over:Rows.bumpTapesRow.holds Tryz.pinned (OpenSpec.ofChange Rows.bumpTapesSpec):=
 OpenClaim.holds_of_wide 3 Tryz.f3 rfl rfl rfl rfl rfl rfl rfl ⟨rfl,rfl,rfl,rfl,rfl⟩ rfl rfl rfl rfl rfl (by kernel_rfl) Tryz.func3 (by kernel_rfl)
  (aB (by kernel_rfl)) (by unfold Func.isWrapper; first | (rw [aP (by decide +kernel)]; kernel_rfl) | (rw [aO (by decide +kernel)]; exact⟨rfl,rfl⟩))
  (λos started H enc _=>lifted os started H enc)
theorem Jk:Rows.BumpTapesSaid:=over
theorem bumpTapes_holds:Rows.BumpTapesCardSaid:=
 Claim7.holds_tied_plain_at .later [] [.mappedDeep,.funcs] true (true, "ab2de770cc5703e3626adf37d196ff22d575b6acd973fdd82550c7802670e158") false
  Jk (λ_ h=>by cases h) (by kernel_rfl) (λ_ h=>by cases h) bumpTapes_row_tie rfl ⟨rfl,rfl⟩ (by kernel_rfl) rfl
  (λf fn hf hfn=>by
   obtain rfl:f=3:=Option.some.inj ((show Tryz.prog.funcNamed "novation/novationlaw30.BumpTapes" = some 3 by kernel_rfl).symm.trans hf) |>.symm;obtain rfl:fn=Tryz.f3:=(Option.some.inj (Tryz.func3.symm.trans hfn)).symm
   exact⟨by kernel_rfl,λj t ht=>by
    rw [Tryz.params3] at ht;have hm:t∈[25,3,29]:=by simpa using Array.mem_of_getElem? ht
    have hall:([25,3,29].all λu=> !Tryz.prog.wantsStandIn u)=true:=by kernel_rfl
    exact(show Tryz.prog.wantsStandIn t=false by simpa using bG.1 hall t hm)⟩)
  (by kernel_rfl)
end Go.Proofs.YtfiocgnojggdjaaGreatDoor
end
