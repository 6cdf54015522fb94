/- The law returns true for every input, and each argument reads afterwards as it read before; no condition. -/
import Derived.Test.YtpnllbdffdpoaaaGreatDoorSxj
import Derived.SizedLaws
import Derived.ChangeArms
import Derived.Deep.Slices
import Derived.Carry
import Derived.LaidMore
import Derived.WideKeyElems2
import Derived.ProofKit
import Derived.OpenShut
import Derived.ReadAgain
import Derived.Test.YtpnllbdffdpoaaaGreatDoorRows
import Derived.MakeChecks
import Derived.Test.YtpnllbdffdpoaaaGreatDoorCards
import Derived.Test.YtpnllbdffdpoaaaGreatDoorTie
import Derived.Stop.Joined
import Derived.SevenTiedAt
set_option linter.unusedVariables false
set_option linter.unusedSimpArgs false
set_option linter.unusedSectionVars false
section
set_option maxRecDepth 100000
open Go Go.Sx Go.Proofs Go.Nov
namespace Go.Proofs.Tryz
attribute [local simp] eqKV eqA eqA0 eqH eqB eqL eqL0
noncomputable def K4:=Go.Sx.aA f4
structure LgpA where
 d:Deal
 l:List Per
 fl:Bool
 fr:Int
 f:List Fx
 h:List Ch
def zt0:Ctr:=ctrP true (λp:LgpA=>[p.d.av,perS p.l,.bool p.fl,.i p.fr,envA p.f p.h]) (λp=>p.l.length<2^60/\(p.f.length<2^60/\p.h.length<2^60/\(∀ j,j<p.f.length->zdq (p.f.getD j Fx.nil))/\∀ j,j<p.h.length->YF (p.h.getD j Ch.nil))) (λ_ r=>r=true) (λ_ (r:Bool)=>(.bool r,[]))
def zfh:Ctr:=ctrP true (λ_:Unit=>[]) (λ_=>True) (λ_ (_:Unit)=>True) (λ_ _=>(.bool true,[]))
theorem zhh:ze prog 8 zfh:=by
 intro args hc Q h hf;refine zg7 args hc Q ?_ hf;cases hc with
 | nil=>
  obtain⟨x,hx,_,hk⟩:=h;refine⟨x,hx,⟨true,rfl⟩,?_⟩;rintro _ rfl;exact hk () trivial
 | cons b l=>exact h.elim
noncomputable def GLg:=tb zhh (tb zqh (tb zmd (tb zhi (tb zf7 (tb ztm (tb ze0 (tb zq2 (tb zqg (tb zrf (tb zb8 (tb Wm (tb UH tz))))))))))))
theorem zfa{g:Tm.Leg->Per->Tm.Leg}{fr:Int}{f:List Fx}{h:List Ch}(henv:envP (f,h))(hf:∀ s p,(g s p).acc.length<=s.acc.length+2/\Con.bigs (g s p).acc<=Con.bigs s.acc+30000/\Con.zz (g s p).acc<=Con.zz s.acc+4){d:Deal}{l:List Per}(hl:l.length<=60):FI.pre ⟨Tm.q7 g d l,fr,100000,f,h⟩:=by
 refine⟨?_,?_,henv⟩
 ·show(Tm.q7 g d l).big<_;unfold Tm.q7;split
  ·have h1:=Tm.xQ hf (Tm.qL (Tm.perE d l) l l.length) l l.length hl;have h2:=Tm.xJ (Tm.w9 g d l).acc;unfold Tm.w9 at h2 ⊢;omega
  ·have:=Tm.znp; omega
 ·show(Tm.q7 g d l).nodes<=_;unfold Tm.q7;split
  ·have h1:=Tm.xQ hf (Tm.qL (Tm.perE d l) l l.length) l l.length hl;have h2:=Tm.xJ (Tm.w9 g d l).acc;unfold Tm.w9 at h2 ⊢;omega
  ·decide +kernel
theorem Qx{α:Type}{F:Per->List α}{l:List Per}{i:Nat}(h:i<l.length):(l.take (i+1)).flatMap F=(l.take i).flatMap F++F (l.getD i Per.nil):=by
 have:l.take (i+1)=l.take i++[l.getD i Per.nil]:=by rw [List.take_add_one]; simp [List.getD,h]
 rw [this,List.flatMap_append]; simp
theorem WM{α:Type}{F:Per->List α}{k:Nat}(hF:∀ p,(F p).length<=k)(l:List Per):∀ i,((l.take i).flatMap F).length<=k*i
 | 0=>by simp
 | i+1=>by
  have ih:=WM hF l i;by_cases h:i<l.length
  ·rw [Qx h,bO,Nat.mul_succ];have:=hF (l.getD i Per.nil);omega
  ·rw [bF (by omega)];rw [bF (by omega)] at ih;rw [Nat.mul_succ]; omega
theorem zu8(d:Deal)(f:List Fx)(fr:Int)(p:Per):(Tm.swF d f fr p).length<=2:=by
 unfold Tm.swF;split
 ·simp
 ·have:=jm p.pay d.long d.short d.ccy (mulR d.zb (mulR p.part d.zd).1).1;have:=jm p.pay d.short d.long d.ccy (mulR (zo f d.name p.fix).1 (mulR p.part d.zd).1).1;rw [bO]; omega
theorem zuq(d:Deal)(fl:Bool)(f:List Fx)(fr:Int)(p:Per):(Tm.cpF d fl f fr p).length<=1:=by
 unfold Tm.cpF;split
 ·simp
 ·exact jm _ _ _ _ _
def dB(d:Deal):Blk:=.box [.str d.long,.str d.short,.str d.ccy,.str d.name,.str d.zb,.str d.zd]
def eB(f:List Fx)(h:List Ch):Blk:=.box [.sl f.length 3 (fxG f),.sl h.length 4 (chG h)]
def HLg(d:Deal)(f:List Fx)(h:List Ch)(a b:Con)(u v:List Fl):Heap:=[dB d,eB f h,.box a.zl,.box b.zl,.box [.bool true],.arr u.length 5 (flG u),.arr v.length 5 (flG v)]
def SLg(l:List Per)(fl:Bool)(fr:Int)(n m i:Nat):KV:=[(1,perS l),(2,.bool fl),(3,.i fr),(5,.ptr 0 0),(9,.ptr 1 0),(11,.bool true),(12,.ptr 2 0),(14,.ptr 3 0),(16,.ptr 4 0),(17,.osl 5 5 0 n),(18,.osl 6 5 0 m),(19,.i (i:Int))]
theorem zaq{f:List Fx}{h:List Ch}{n:L8}{z:Int}(hfit:fitP (f,h)):(zo f n z).1.length<=20000:=by
 unfold zo;cases hf:f.find? λx=>decide (x.name=n)&&decide (x.date=z) with
 | none=>simp
 | some y=>
  obtain⟨j,hj⟩:=List.mem_iff_getElem?.1 (List.mem_of_find?_eq_some hf);have hlt:=(aG.1 hj).1;have:=(hfit.2.2.1 j hlt).2;have e:f.getD j Fx.nil=y:=by simp [List.getD,hj]
  rw [e] at this;exact this
theorem Ku{f:List Fx}{h:List Ch}{n:L8}{z:Int}(he:errE f h=0)(hf:(zo f n z).2=true):errR (zo f n z).1=0:=by
 have e:fixR f n z=((zo f n z).1,0):=by unfold fixR; rw [aP hf]
 have:=Ys (Y2.1 he).2.1 (a:=n) (d:=z) (by rw [e]);rw [e] at this;exact this
theorem zoh(u a b:List Fl):eqG (u.length+a.length+b.length) 5 (appG (u.length+a.length) (appG u.length (flG u) (flG a)) (flG b)) (flG (u++(a++b))):=by
 intro j o hj ho;have h2:=xx (o:=u++a) (a:=b) (m:=u.length+a.length) (n:=b.length) (by simp) rfl j o hj ho;rw [List.append_assoc] at h2;rw [<- h2];simp only [appG];by_cases hlt:j<u.length+a.length
 ·rw [aP hlt,aP hlt];have:=xx (o:=u) (a:=a) rfl rfl j o hlt ho;simpa only [appG] using this
 ·rw [aO hlt,aO hlt]
theorem lgLe(d:Deal)(l:List Per)(fl:Bool)(fr:Int)(f:List Fx)(h:List Ch)(a b:Con)(u v x y z:List Fl)(i:Nat){t:Bool}(ht:t=true):LeK 0 f4.ntmps
  [(1,.sl l.length 3 (perG l)),(2,.bool fl),(3,.i fr),(5,.ptr 0 0),(9,.ptr 1 0),(11,.bool true),(12,.ptr 2 0),(14,.ptr 3 0),(16,.ptr 4 0),(17,.osl 5 5 0 (u.length+x.length+y.length)),(18,.osl 6 5 0 (v.length+z.length)),(19,.i ((i:Int)+1))]
  [dB d,eB f h,.box a.zl,.box b.zl,.box [.bool t],.arr (u.length+x.length+y.length) 5 (appG (u.length+x.length) (appG u.length (flG u) (flG x)) (flG y)),.arr (v.length+z.length) 5 (appG v.length (flG v) (flG z))]
  (SLg l fl fr (u++(x++y)).length (v++z).length (i+1)) (HLg d f h a b (u++(x++y)) (v++z)):=by
 subst ht;refine⟨by simp [SLg,perS,za,Nat.add_assoc],⟨zA _,zA _,zA _,zA _,zA _,⟨by simp [Nat.add_assoc],rfl,zoh u x y⟩,⟨by simp,rfl,xx rfl rfl⟩,trivial⟩,by kernel_rfl,aI _⟩
def lgK(d:Deal)(fl:Bool)(f:List Fx)(fr:Int)(p:Per):Prop:=¬ p.pay<fr->(zo f d.name p.fix).2=true/\(mulR (zo f d.name p.fix).1 (mulR p.part d.zd).1).2=0/\(Tm.xW fl (zo f d.name p.fix).1 d.zb).2=0/\(mulR (Tm.posR (Tm.xW fl (zo f d.name p.fix).1 d.zb).1) (mulR p.part d.zd).1).2=0
abbrev q73(A:List AV)(x:Fl):Prop:=eqL A [.i x.date,.str x.src,.str x.dst,.str x.ccy,.str x.amt]/\errR x.amt=(0:Int)
abbrev q72(A:List AV)(H:Heap)(x:Bool×L8):Prop:=eqL A [.ptr 0 0,.str x.2]/\eqH H [.box [.bool x.1]]/\1=1/\x.2.length<1152921504606846976
abbrev q71(A:List AV)(H:Heap)(x:NumA):Prop:=eqL A [.ptr 0 0,.str x.a,.str x.b]/\eqH H [.box [.bool x.ok]]/\1=1/\List.length x.a<1152921504606846976/\List.length x.b<1152921504606846976
theorem zqw{d:Deal}{l:List Per}{fl:Bool}{fr:Int}{f:List Fx}{h:List Ch}{a b:Con}{u v:List Fl}{i:Nat}{O:Nat->Prop}{w0:World}{Hs:Nat->KV->Heap->Prop}{R:List AV->Heap->Prop}
  (hil:i<=l.length) (hl:l.length<=60) (hd:Tm.fits d) (hpt:∀ i,i<l.length->(l.getD i Per.nil).part.length<=300) (hfit:fitP (f,h)) (he:errE f h=0) (hk:errR d.zb=0) (hun:errR d.zd=0) (hpa:∀ p∈l,errR p.part=0) (hu:u.length<=2*i) (hv:v.length<=i)
  (ha:FI.pre ⟨a,fr,100000,f,h⟩) (hb:FI.pre ⟨b,fr,100000,f,h⟩) (hret:∀ hp,R [.bool true] hp)
  (hfin:i=l.length->wO a fr f h=(u,0)/\wO b fr f h=(v,0))
  (hnext:i<l.length->lgK d fl f fr (l.getD i Per.nil)->∀ u' v',u'=u++Tm.swF d f fr (l.getD i Per.nil)->v'=v++Tm.cpF d fl f fr (l.getD i Per.nil)->∀ kv hp,LeK 0 f4.ntmps kv hp (SLg l fl fr u'.length v'.length (i+1)) (HLg d f h a b u' v')->Hs 0 kv hp) :
  zc prog f4 O 0 w0 [] Hs R (inside K4 0) (mk f4.ntmps (SLg l fl fr u.length v.length i) (HLg d f h a b u v)):=by
 have eF:eqA (.agg [.sl f.length 3 (fxG f),.sl h.length 4 (chG h)]) (envA f h):=⟨⟨rfl,rfl,λ_ _ _ _=>rfl⟩,⟨rfl,rfl,λ_ _ _ _=>rfl⟩,trivial⟩;refine zc.n GLg.h [1,2,3,5,9,11,12,14,16,17,18,19] (let v21:=Deal.ccy d;let v20:=inR .i64 (i+1);let v17:=Deal.long d;let v16:=Deal.short d;let v14:=[AV.sl f.length 3 (fxG f),AV.sl h.length 4 (chG h)];let v11:List AV:=[.sl f.length 3 (fxG f),.sl h.length 4 (chG h)];let v5:=l.getD (i:Int).toNat Per.nil;let v22:=Per.pay v5;let v1:List AV:=[.str v17,.str v16,.str v21,.str d.name,.str d.zb,.str d.zd];let v4:List Blk:=[.box v1,.box v11,.box a.zl,.box b.zl,.box [.bool true],.arr u.length 5 (flG u),.arr v.length 5 (flG v)];.D ((i:Int)<l.length) (.side ((0:Int)<=i/\(i:Int)<l.length) (.D (Per.pay v5 <fr) (.side v20 (.leaf (.back 0 [(1,.sl l.length 3 (perG l)),(2,.bool fl),(3,.i fr),(5,.ptr 0 0),(9,.ptr 1 0),(11,.bool true),(12,.ptr 2 0),(14,.ptr 3 0),(16,.ptr 4 0),(17,.osl 5 5 0 u.length),(18,.osl 6 5 0 v.length),(19,.i (i+1))] v4))) (.side ((0:Int)<=i/\(i:Int)<l.length) (.ex (q42 [.agg v14,.str d.name,.i v5.fix]) λn=>.all (λ(r:L8×Bool)=>r=zo n.1.1 n.2.1 n.2.2) λn=>.ite (!Prod.snd n) (.R [.bool true] v4) (.side ((0:Int)<=i/\(i:Int)<l.length) (.ex (q71 [.ptr 0 0,.str v5.part,.str d.zd] [.box [.bool true]]) λn_1=>let v29:=mulR n_1.a n_1.b;let v8:=Prod.fst v29;let v28:=[AV.ptr 0 0,AV.str n.1,AV.str v8];let v25:=[AV.ptr 0 0,AV.str d.zb,AV.str v8];.A λn_2=>.ex (q71 [.ptr 0 0,.str n.1,.str d.zb] [.box [.bool (NumA.ok n_1&&decide (Prod.snd v29=(0:Int)))]]) λn_3=>let v30:=subR n_3.a n_3.b;let v15:=[AV.bool (NumA.ok n_3&&decide (Prod.snd v30=(0:Int)))];.A λn_4=>.ite fl (.ex (q71 [.ptr 0 0,.str d.zb,.str n.1] [.box v15]) λn_5=>let v31:=subR n_5.a n_5.b;.A λn_6=>.ex (q71 v25 [.box [.bool (NumA.ok n_5&&decide (Prod.snd v31=(0:Int)))]]) λn_7=>let v32:=mulR n_7.a n_7.b;.A λn_8=>.ex (q71 v28 [.box [.bool (NumA.ok n_7&&decide (Prod.snd v32=(0:Int)))]]) λn=>.A λn_9=>.ex (q72 [.ptr 0 0,.str v31.1] [.box [.bool (NumA.ok n&&decide (Prod.snd (mulR n.a n.b)=(0:Int)))]]) λn_10=>.A λn_11=>.ex (q71 [.ptr 0 0,.str (Tm.posR n_10.2),.str v8] [.box [.bool (n_10.1&&decide (Prod.snd (cmpR n_10.2 [(48:UInt8)])=(0:Int)))]]) λn_12=>let v26:=mulR n_12.a n_12.b;let v12:=Prod.snd v26=(0:Int);.A λn_13=>.ite (!(NumA.ok n_12&&decide v12)) (.R [.bool true] [.box v1,.box v11,.box a.zl,.box b.zl,.box [.bool (NumA.ok n_12&&decide v12)],.arr u.length 5 (flG u),.arr v.length 5 (flG v)]) (.side ((0:Int)<=i/\(i:Int)<l.length) (.ex (q73 [.i v22,.str v17,.str v16,.str v21,.str v32.1]) λn_14=>let v2:=payF n_14.date n_14.src n_14.dst n_14.ccy n_14.amt;.A λn_15=>.side (0=0/\u.length<=u.length/\(u.length+List.length v2)*72<=140737488355328) (.side ((0:Int)<=i/\(i:Int)<l.length) (.ex (q73 [.i v22,.str v16,.str v17,.str v21,.str (Prod.fst (mulR n.a n.b))]) λn=>let v18:=payF n.date n.src n.dst n.ccy n.amt;let v9:=u.length+List.length v2 +List.length v18;.A λn_16=>.side (0=0/\u.length+List.length v2 <=u.length+List.length v2/\v9 *72<=140737488355328) (.side ((0:Int)<=i/\(i:Int)<l.length) (.ex (q73 [.i v22,.str v16,.str v17,.str v21,.str v26.1]) λn_17=>let v6:=payF n_17.date n_17.src n_17.dst n_17.ccy n_17.amt;let v23:=v.length+List.length v6;.A λn_18=>.side (0=0/\v.length<=v.length/\v23 *72<=140737488355328) (.side v20 (.leaf (.back 0 [(1,.sl l.length 3 (perG l)),(2,.bool fl),(3,.i fr),(5,.ptr 0 0),(9,.ptr 1 0),(11,.bool true),(12,.ptr 2 0),(14,.ptr 3 0),(16,.ptr 4 0),(17,.osl 5 5 0 v9),(18,.osl 6 5 0 v23),(19,.i (i+1))] [.box v1,.box v11,.box a.zl,.box b.zl,.box [.bool (NumA.ok n_12&&decide v12)],.arr v9 5 (appG (u.length+List.length v2) (appG u.length (flG u) (flG v2)) (flG v18)),.arr v23 5 (appG v.length (flG v) (flG v6))])))))))))) (.ex (q71 v25 [.box v15]) λn_5=>let v33:=mulR n_5.a n_5.b;.A λn_6=>.ex (q71 v28 [.box [.bool (NumA.ok n_5&&decide (Prod.snd v33=(0:Int)))]]) λn=>.A λn_7=>.ex (q72 [.ptr 0 0,.str v30.1] [.box [.bool (NumA.ok n&&decide (Prod.snd (mulR n.a n.b)=(0:Int)))]]) λn_8=>.A λn_9=>.ex (q71 [.ptr 0 0,.str (Tm.posR n_8.2),.str v8] [.box [.bool (n_8.1&&decide (Prod.snd (cmpR n_8.2 [(48:UInt8)])=(0:Int)))]]) λn_10=>let v27:=mulR n_10.a n_10.b;let v13:=Prod.snd v27=(0:Int);.A λn_11=>.ite (!(NumA.ok n_10&&decide v13)) (.R [.bool true] [.box v1,.box v11,.box a.zl,.box b.zl,.box [.bool (NumA.ok n_10&&decide v13)],.arr u.length 5 (flG u),.arr v.length 5 (flG v)]) (.side ((0:Int)<=i/\(i:Int)<l.length) (.ex (q73 [.i v22,.str v17,.str v16,.str v21,.str v33.1]) λn_12=>let v3:=payF n_12.date n_12.src n_12.dst n_12.ccy n_12.amt;.A λn_13=>.side (0=0/\u.length<=u.length/\(u.length+List.length v3)*72<=140737488355328) (.side ((0:Int)<=i/\(i:Int)<l.length) (.ex (q73 [.i v22,.str v16,.str v17,.str v21,.str (Prod.fst (mulR n.a n.b))]) λn=>let v19:=payF n.date n.src n.dst n.ccy n.amt;let v10:=u.length+List.length v3 +List.length v19;.A λn_14=>.side (0=0/\u.length+List.length v3 <=u.length+List.length v3/\v10 *72<=140737488355328) (.side ((0:Int)<=i/\(i:Int)<l.length) (.ex (q73 [.i v22,.str v16,.str v17,.str v21,.str v27.1]) λn_15=>let v7:=payF n_15.date n_15.src n_15.dst n_15.ccy n_15.amt;let v24:=v.length+List.length v7;.A λn_16=>.side (0=0/\v.length<=v.length/\v24 *72<=140737488355328) (.side v20 (.leaf (.back 0 [(1,.sl l.length 3 (perG l)),(2,.bool fl),(3,.i fr),(5,.ptr 0 0),(9,.ptr 1 0),(11,.bool true),(12,.ptr 2 0),(14,.ptr 3 0),(16,.ptr 4 0),(17,.osl 5 5 0 v10),(18,.osl 6 5 0 v24),(19,.i (i+1))] [.box v1,.box v11,.box a.zl,.box b.zl,.box [.bool (NumA.ok n_10&&decide v13)],.arr v10 5 (appG (u.length+List.length v3) (appG u.length (flG u) (flG v3)) (flG v19)),.arr v24 5 (appG v.length (flG v) (flG v7))])))))))))))))))) (.ex (q67 [a.conD,.i fr,.agg v14]) λn=>.all (λ(r:List Fl×Int)=>r=wO n.c n.day n.f n.h) λn=>.ex (q67 [b.conD,.i fr,.agg v14]) λn_1=>.all (λ(r:List Fl×Int)=>r=wO n_1.c n_1.day n_1.f n_1.h) λn_2=>.ex (λ(x:List Fl×List Fl)=>(bif true then decide (n.2=0) else false)=true->q68 [.sl n.1.length 5 (flG n.1),.sl u.length 5 (zi (flG u) 0)] x) λn_3=>.all (λ(x:Bool)=>(bif true then decide (n.2=0) else false)=true->(x=true↔n_3.1=n_3.2)) λn_4=>.ex (λ(x:List Fl×List Fl)=>(bif bif bif true then decide (n.2=0) else false then n_4 else false then decide (n_2.2=0) else false)=true->q68 [.sl n_2.1.length 5 (flG n_2.1),.sl v.length 5 (zi (flG v) 0)] x) λn_5=>.all (λ(x:Bool)=>(bif bif bif true then decide (n.2=0) else false then n_4 else false then decide (n_2.2=0) else false)=true->(x=true↔n_5.1=n_5.2)) λn_6=>.R [.bool (bif bif bif bif true then decide (n.2=0) else false then n_4 else false then decide (n_2.2=0) else false then n_6 else false)] v4)) ?_;simp only [q42,q67,q68,q71,q72,q73,Tree.holds,zf,inR,lo,hi,aD];refine⟨λhlt=> ?_,λhge=> ?_⟩
 ·have hlt:i<l.length:=by have:=aB hlt; omega
  have hp1:=hpt i hlt;have hp2:=hpa (l.getD i Per.nil) (by simp [List.getD,hlt]);have hn0:=hnext hlt;clear hnext hfin hpt hpa;refine⟨by omega,λ_=>⟨λhpast=>⟨by omega,λ_=> ?_⟩,λhpast=>⟨by omega,λ_=> ?_⟩⟩⟩
  ·have hpast:=aB hpast;refine hn0 (λg=>absurd hpast g) u v (by unfold Tm.swF; rw [aP hpast]; simp) (by unfold Tm.cpF; rw [aP hpast]; simp) _ _ ⟨by simp [SLg,perS,za],⟨zA _,zA _,zA _,zA _,zA _,zA _,zA _,trivial⟩,by kernel_rfl,aI _⟩
  ·have hpast:=aC hpast;refine⟨((f,h),d.name,(l.getD i Per.nil).fix),⟨⟨eF,rfl,⟨rfl,rfl⟩,trivial⟩,by have:f.length<=1100:=hfit.1; show f.length<_; omega⟩,⟨_,rfl⟩,?_⟩;rintro _ rfl;refine⟨λ_=>hret _,λhkn=> ?_⟩;have hkn:(zo f d.name (l.getD i Per.nil).fix).2=true:=by rw [Bool.not_eq_false'] at hkn; exact hkn
   have hsl:(zo f d.name (l.getD i Per.nil).fix).1.length<=20000:=zaq hfit;have hsv:errR (zo f d.name (l.getD i Per.nil).fix).1=0:=Ku he hkn;unfold lgK Tm.swF Tm.cpF at hn0;rw [aO hpast,aO hpast] at hn0;obtain⟨d1,d2,d3,d4,d5,d6⟩:=hd;have l0:=UM (l.getD i Per.nil).part d.zd;have l1:=Tm.YC (zo f d.name (l.getD i Per.nil).fix).1 d.zb;have l2:=Tm.YC d.zb (zo f d.name (l.getD i Per.nil).fix).1;have l3:=Tm.UO l1 (by decide);have l4:=Tm.UO l2 (by decide);refine⟨by omega,λ_=> ?_⟩;refine⟨⟨true,(l.getD i Per.nil).part,d.zd⟩,⟨⟨⟨rfl,rfl⟩,rfl,rfl,trivial⟩,jB _,trivial,by show List.length (l.getD i Per.nil).part<_; omega,by show List.length d.zd<_; omega⟩,⟨(),trivial⟩,λ_ _=> ?_⟩;refine⟨⟨(true&&decide ((mulR (l.getD i Per.nil).part d.zd).2=0)),(zo f d.name (l.getD i Per.nil).fix).1,d.zb⟩,⟨⟨⟨rfl,rfl⟩,rfl,rfl,trivial⟩,jB _,trivial,by show List.length (zo f d.name (l.getD i Per.nil).fix).1<_; omega,by show List.length d.zb<_; omega⟩,⟨(),trivial⟩,λ_ _=> ?_⟩;refine⟨λhfl=> ?_,λhfl=> ?_⟩
   ·subst hfl;refine⟨⟨((true&&decide ((mulR (l.getD i Per.nil).part d.zd).2=0))&&decide ((subR (zo f d.name (l.getD i Per.nil).fix).1 d.zb).2=0)),d.zb,(zo f d.name (l.getD i Per.nil).fix).1⟩,⟨⟨⟨rfl,rfl⟩,rfl,rfl,trivial⟩,jB _,trivial,by show List.length d.zb<_; omega,by show List.length (zo f d.name (l.getD i Per.nil).fix).1<_; omega⟩,⟨(),trivial⟩,λ_ _=> ?_⟩;refine⟨⟨(((true&&decide ((mulR (l.getD i Per.nil).part d.zd).2=0))&&decide ((subR (zo f d.name (l.getD i Per.nil).fix).1 d.zb).2=0))&&decide ((subR d.zb (zo f d.name (l.getD i Per.nil).fix).1).2=0)),d.zb,(mulR (l.getD i Per.nil).part d.zd).1⟩,⟨⟨⟨rfl,rfl⟩,rfl,rfl,trivial⟩,jB _,trivial,by show List.length d.zb<_; omega,by show List.length (mulR (l.getD i Per.nil).part d.zd).1<_; omega⟩,⟨(),trivial⟩,λ_ _=> ?_⟩;refine⟨⟨((((true&&decide ((mulR (l.getD i Per.nil).part d.zd).2=0))&&decide ((subR (zo f d.name (l.getD i Per.nil).fix).1 d.zb).2=0))&&decide ((subR d.zb (zo f d.name (l.getD i Per.nil).fix).1).2=0))&&decide ((mulR d.zb (mulR (l.getD i Per.nil).part d.zd).1).2=0)),(zo f d.name (l.getD i Per.nil).fix).1,(mulR (l.getD i Per.nil).part d.zd).1⟩,⟨⟨⟨rfl,rfl⟩,rfl,rfl,trivial⟩,jB _,trivial,by show List.length (zo f d.name (l.getD i Per.nil).fix).1<_; omega,by show List.length (mulR (l.getD i Per.nil).part d.zd).1<_; omega⟩,⟨(),trivial⟩,λ_ _=> ?_⟩;refine⟨((((((true&&decide ((mulR (l.getD i Per.nil).part d.zd).2=0))&&decide ((subR (zo f d.name (l.getD i Per.nil).fix).1 d.zb).2=0))&&decide ((subR d.zb (zo f d.name (l.getD i Per.nil).fix).1).2=0))&&decide ((mulR d.zb (mulR (l.getD i Per.nil).part d.zd).1).2=0))&&decide ((mulR (zo f d.name (l.getD i Per.nil).fix).1 (mulR (l.getD i Per.nil).part d.zd).1).2=0)),(subR d.zb (zo f d.name (l.getD i Per.nil).fix).1).1),⟨⟨⟨rfl,rfl⟩,rfl,trivial⟩,jB _,trivial,by show List.length (subR d.zb (zo f d.name (l.getD i Per.nil).fix).1).1<_; omega⟩,⟨(),trivial⟩,λ_ _=> ?_⟩;refine⟨⟨((((((true&&decide ((mulR (l.getD i Per.nil).part d.zd).2=0))&&decide ((subR (zo f d.name (l.getD i Per.nil).fix).1 d.zb).2=0))&&decide ((subR d.zb (zo f d.name (l.getD i Per.nil).fix).1).2=0))&&decide ((mulR d.zb (mulR (l.getD i Per.nil).part d.zd).1).2=0))&&decide ((mulR (zo f d.name (l.getD i Per.nil).fix).1 (mulR (l.getD i Per.nil).part d.zd).1).2=0))&&decide ((cmpR (subR d.zb (zo f d.name (l.getD i Per.nil).fix).1).1 [48]).2=0)),(Tm.posR (subR d.zb (zo f d.name (l.getD i Per.nil).fix).1).1),(mulR (l.getD i Per.nil).part d.zd).1⟩,⟨⟨⟨rfl,rfl⟩,rfl,rfl,trivial⟩,jB _,trivial,by show List.length (Tm.posR (subR d.zb (zo f d.name (l.getD i Per.nil).fix).1).1)<_; omega,by show List.length (mulR (l.getD i Per.nil).part d.zd).1<_; omega⟩,⟨(),trivial⟩,λ_ _=> ?_⟩;refine⟨λ_=>hret _,λg=> ?_⟩;have g:(((((((true&&decide ((mulR (l.getD i Per.nil).part d.zd).2=0))&&decide ((subR (zo f d.name (l.getD i Per.nil).fix).1 d.zb).2=0))&&decide ((subR d.zb (zo f d.name (l.getD i Per.nil).fix).1).2=0))&&decide ((mulR d.zb (mulR (l.getD i Per.nil).part d.zd).1).2=0))&&decide ((mulR (zo f d.name (l.getD i Per.nil).fix).1 (mulR (l.getD i Per.nil).part d.zd).1).2=0))&&decide ((cmpR (subR d.zb (zo f d.name (l.getD i Per.nil).fix).1).1 [48]).2=0))&&decide ((mulR (Tm.posR (subR d.zb (zo f d.name (l.getD i Per.nil).fix).1).1) (mulR (l.getD i Per.nil).part d.zd).1).2=0))=true:=by rw [Bool.not_eq_false'] at g; exact g
    have g0:=g;simp only [bA,aK,true_and] at g;obtain⟨⟨⟨⟨⟨⟨y1,y2⟩,y3⟩,y4⟩,y5⟩,y6⟩,y7⟩:=g;have v0:=(wG hp2 hun y1).1;have v1:=(wG hk v0 y4).1;have v2:=(wG hsv v0 y5).1;have v3:=(Tm.WC (Qb hk hsv y3).1).2.2;have v4:=(wG v3 v0 y7).1;have hn:=hn0 (λ_=>⟨hkn,y5,y3,y7⟩) (u++(payF (l.getD i Per.nil).pay d.long d.short d.ccy (mulR d.zb (mulR (l.getD i Per.nil).part d.zd).1).1++payF (l.getD i Per.nil).pay d.short d.long d.ccy (mulR (zo f d.name (l.getD i Per.nil).fix).1 (mulR (l.getD i Per.nil).part d.zd).1).1)) (v++payF (l.getD i Per.nil).pay d.short d.long d.ccy (mulR (Tm.posR (subR d.zb (zo f d.name (l.getD i Per.nil).fix).1).1) (mulR (l.getD i Per.nil).part d.zd).1).1) rfl rfl;have p1:=jm (l.getD i Per.nil).pay d.long d.short d.ccy (mulR d.zb (mulR (l.getD i Per.nil).part d.zd).1).1;have p2:=jm (l.getD i Per.nil).pay d.short d.long d.ccy (mulR (zo f d.name (l.getD i Per.nil).fix).1 (mulR (l.getD i Per.nil).part d.zd).1).1;have p3:=jm (l.getD i Per.nil).pay d.short d.long d.ccy (mulR (Tm.posR (subR d.zb (zo f d.name (l.getD i Per.nil).fix).1).1) (mulR (l.getD i Per.nil).part d.zd).1).1;clear hn0;refine⟨by omega,λ_=>⟨⟨(l.getD i Per.nil).pay,d.long,d.short,d.ccy,(mulR d.zb (mulR (l.getD i Per.nil).part d.zd).1).1⟩,⟨⟨⟨rfl,rfl⟩,rfl,rfl,rfl,rfl,trivial⟩,v1⟩,⟨(),trivial⟩,λ_ _=> ?_⟩⟩;refine⟨⟨trivial,aJ _,by show(u.length+(payF (l.getD i Per.nil).pay d.long d.short d.ccy (mulR d.zb (mulR (l.getD i Per.nil).part d.zd).1).1).length)*72<=_; omega⟩,λ_=> ?_⟩;refine⟨by omega,λ_=>⟨⟨(l.getD i Per.nil).pay,d.short,d.long,d.ccy,(mulR (zo f d.name (l.getD i Per.nil).fix).1 (mulR (l.getD i Per.nil).part d.zd).1).1⟩,⟨⟨⟨rfl,rfl⟩,rfl,rfl,rfl,rfl,trivial⟩,v2⟩,⟨(),trivial⟩,λ_ _=> ?_⟩⟩;refine⟨⟨trivial,aJ _,by show(u.length+(payF (l.getD i Per.nil).pay d.long d.short d.ccy (mulR d.zb (mulR (l.getD i Per.nil).part d.zd).1).1).length+(payF (l.getD i Per.nil).pay d.short d.long d.ccy (mulR (zo f d.name (l.getD i Per.nil).fix).1 (mulR (l.getD i Per.nil).part d.zd).1).1).length)*72<=_; omega⟩,λ_=> ?_⟩;refine⟨by omega,λ_=>⟨⟨(l.getD i Per.nil).pay,d.short,d.long,d.ccy,(mulR (Tm.posR (subR d.zb (zo f d.name (l.getD i Per.nil).fix).1).1) (mulR (l.getD i Per.nil).part d.zd).1).1⟩,⟨⟨⟨rfl,rfl⟩,rfl,rfl,rfl,rfl,trivial⟩,v4⟩,⟨(),trivial⟩,λ_ _=> ?_⟩⟩;refine⟨⟨trivial,aJ _,by show(v.length+(payF (l.getD i Per.nil).pay d.short d.long d.ccy (mulR (Tm.posR (subR d.zb (zo f d.name (l.getD i Per.nil).fix).1).1) (mulR (l.getD i Per.nil).part d.zd).1).1).length)*72<=_; omega⟩,λ_=> ?_⟩;refine⟨by omega,λ_=> ?_⟩;exact hn _ _ (lgLe d l true fr f h a b u v _ _ _ i g0)
   ·subst hfl;refine⟨⟨((true&&decide ((mulR (l.getD i Per.nil).part d.zd).2=0))&&decide ((subR (zo f d.name (l.getD i Per.nil).fix).1 d.zb).2=0)),d.zb,(mulR (l.getD i Per.nil).part d.zd).1⟩,⟨⟨⟨rfl,rfl⟩,rfl,rfl,trivial⟩,jB _,trivial,by show List.length d.zb<_; omega,by show List.length (mulR (l.getD i Per.nil).part d.zd).1<_; omega⟩,⟨(),trivial⟩,λ_ _=> ?_⟩;refine⟨⟨(((true&&decide ((mulR (l.getD i Per.nil).part d.zd).2=0))&&decide ((subR (zo f d.name (l.getD i Per.nil).fix).1 d.zb).2=0))&&decide ((mulR d.zb (mulR (l.getD i Per.nil).part d.zd).1).2=0)),(zo f d.name (l.getD i Per.nil).fix).1,(mulR (l.getD i Per.nil).part d.zd).1⟩,⟨⟨⟨rfl,rfl⟩,rfl,rfl,trivial⟩,jB _,trivial,by show List.length (zo f d.name (l.getD i Per.nil).fix).1<_; omega,by show List.length (mulR (l.getD i Per.nil).part d.zd).1<_; omega⟩,⟨(),trivial⟩,λ_ _=> ?_⟩;refine⟨(((((true&&decide ((mulR (l.getD i Per.nil).part d.zd).2=0))&&decide ((subR (zo f d.name (l.getD i Per.nil).fix).1 d.zb).2=0))&&decide ((mulR d.zb (mulR (l.getD i Per.nil).part d.zd).1).2=0))&&decide ((mulR (zo f d.name (l.getD i Per.nil).fix).1 (mulR (l.getD i Per.nil).part d.zd).1).2=0)),(subR (zo f d.name (l.getD i Per.nil).fix).1 d.zb).1),⟨⟨⟨rfl,rfl⟩,rfl,trivial⟩,jB _,trivial,by show List.length (subR (zo f d.name (l.getD i Per.nil).fix).1 d.zb).1<_; omega⟩,⟨(),trivial⟩,λ_ _=> ?_⟩;refine⟨⟨(((((true&&decide ((mulR (l.getD i Per.nil).part d.zd).2=0))&&decide ((subR (zo f d.name (l.getD i Per.nil).fix).1 d.zb).2=0))&&decide ((mulR d.zb (mulR (l.getD i Per.nil).part d.zd).1).2=0))&&decide ((mulR (zo f d.name (l.getD i Per.nil).fix).1 (mulR (l.getD i Per.nil).part d.zd).1).2=0))&&decide ((cmpR (subR (zo f d.name (l.getD i Per.nil).fix).1 d.zb).1 [48]).2=0)),(Tm.posR (subR (zo f d.name (l.getD i Per.nil).fix).1 d.zb).1),(mulR (l.getD i Per.nil).part d.zd).1⟩,⟨⟨⟨rfl,rfl⟩,rfl,rfl,trivial⟩,jB _,trivial,by show List.length (Tm.posR (subR (zo f d.name (l.getD i Per.nil).fix).1 d.zb).1)<_; omega,by show List.length (mulR (l.getD i Per.nil).part d.zd).1<_; omega⟩,⟨(),trivial⟩,λ_ _=> ?_⟩;refine⟨λ_=>hret _,λg=> ?_⟩;have g:((((((true&&decide ((mulR (l.getD i Per.nil).part d.zd).2=0))&&decide ((subR (zo f d.name (l.getD i Per.nil).fix).1 d.zb).2=0))&&decide ((mulR d.zb (mulR (l.getD i Per.nil).part d.zd).1).2=0))&&decide ((mulR (zo f d.name (l.getD i Per.nil).fix).1 (mulR (l.getD i Per.nil).part d.zd).1).2=0))&&decide ((cmpR (subR (zo f d.name (l.getD i Per.nil).fix).1 d.zb).1 [48]).2=0))&&decide ((mulR (Tm.posR (subR (zo f d.name (l.getD i Per.nil).fix).1 d.zb).1) (mulR (l.getD i Per.nil).part d.zd).1).2=0))=true:=by rw [Bool.not_eq_false'] at g; exact g
    have g0:=g;simp only [bA,aK,true_and] at g;obtain⟨⟨⟨⟨⟨y1,y2⟩,y3⟩,y4⟩,y5⟩,y6⟩:=g;have v0:=(wG hp2 hun y1).1;have v1:=(wG hk v0 y3).1;have v2:=(wG hsv v0 y4).1;have v3:=(Tm.WC (Qb hsv hk y2).1).2.2;have v4:=(wG v3 v0 y6).1;have hn:=hn0 (λ_=>⟨hkn,y4,y2,y6⟩) (u++(payF (l.getD i Per.nil).pay d.long d.short d.ccy (mulR d.zb (mulR (l.getD i Per.nil).part d.zd).1).1++payF (l.getD i Per.nil).pay d.short d.long d.ccy (mulR (zo f d.name (l.getD i Per.nil).fix).1 (mulR (l.getD i Per.nil).part d.zd).1).1)) (v++payF (l.getD i Per.nil).pay d.short d.long d.ccy (mulR (Tm.posR (subR (zo f d.name (l.getD i Per.nil).fix).1 d.zb).1) (mulR (l.getD i Per.nil).part d.zd).1).1) rfl rfl;have p1:=jm (l.getD i Per.nil).pay d.long d.short d.ccy (mulR d.zb (mulR (l.getD i Per.nil).part d.zd).1).1;have p2:=jm (l.getD i Per.nil).pay d.short d.long d.ccy (mulR (zo f d.name (l.getD i Per.nil).fix).1 (mulR (l.getD i Per.nil).part d.zd).1).1;have p3:=jm (l.getD i Per.nil).pay d.short d.long d.ccy (mulR (Tm.posR (subR (zo f d.name (l.getD i Per.nil).fix).1 d.zb).1) (mulR (l.getD i Per.nil).part d.zd).1).1;clear hn0;refine⟨by omega,λ_=>⟨⟨(l.getD i Per.nil).pay,d.long,d.short,d.ccy,(mulR d.zb (mulR (l.getD i Per.nil).part d.zd).1).1⟩,⟨⟨⟨rfl,rfl⟩,rfl,rfl,rfl,rfl,trivial⟩,v1⟩,⟨(),trivial⟩,λ_ _=> ?_⟩⟩;refine⟨⟨trivial,aJ _,by show(u.length+(payF (l.getD i Per.nil).pay d.long d.short d.ccy (mulR d.zb (mulR (l.getD i Per.nil).part d.zd).1).1).length)*72<=_; omega⟩,λ_=> ?_⟩;refine⟨by omega,λ_=>⟨⟨(l.getD i Per.nil).pay,d.short,d.long,d.ccy,(mulR (zo f d.name (l.getD i Per.nil).fix).1 (mulR (l.getD i Per.nil).part d.zd).1).1⟩,⟨⟨⟨rfl,rfl⟩,rfl,rfl,rfl,rfl,trivial⟩,v2⟩,⟨(),trivial⟩,λ_ _=> ?_⟩⟩;refine⟨⟨trivial,aJ _,by show(u.length+(payF (l.getD i Per.nil).pay d.long d.short d.ccy (mulR d.zb (mulR (l.getD i Per.nil).part d.zd).1).1).length+(payF (l.getD i Per.nil).pay d.short d.long d.ccy (mulR (zo f d.name (l.getD i Per.nil).fix).1 (mulR (l.getD i Per.nil).part d.zd).1).1).length)*72<=_; omega⟩,λ_=> ?_⟩;refine⟨by omega,λ_=>⟨⟨(l.getD i Per.nil).pay,d.short,d.long,d.ccy,(mulR (Tm.posR (subR (zo f d.name (l.getD i Per.nil).fix).1 d.zb).1) (mulR (l.getD i Per.nil).part d.zd).1).1⟩,⟨⟨⟨rfl,rfl⟩,rfl,rfl,rfl,rfl,trivial⟩,v4⟩,⟨(),trivial⟩,λ_ _=> ?_⟩⟩;refine⟨⟨trivial,aJ _,by show(v.length+(payF (l.getD i Per.nil).pay d.short d.long d.ccy (mulR (Tm.posR (subR (zo f d.name (l.getD i Per.nil).fix).1 d.zb).1) (mulR (l.getD i Per.nil).part d.zd).1).1).length)*72<=_; omega⟩,λ_=> ?_⟩;refine⟨by omega,λ_=> ?_⟩;exact hn _ _ (lgLe d l false fr f h a b u v _ _ _ i g0)
 ·have hge:i=l.length:=by have:=aC hge; omega
  obtain⟨m1,m2⟩:=hfin hge;refine⟨⟨a,fr,100000,f,h⟩,⟨⟨vF _,⟨rfl,rfl⟩,eF,trivial⟩,ha⟩,⟨_,rfl⟩,?_⟩;rintro _ rfl;refine⟨⟨b,fr,100000,f,h⟩,⟨⟨vF _,⟨rfl,rfl⟩,eF,trivial⟩,hb⟩,⟨_,rfl⟩,?_⟩;rintro _ rfl;have n1:wO a fr f h=(u,0):=m1;have n2:wO b fr f h=(v,0):=m2;simp only [n1,n2];refine⟨(u,u),λ_=>⟨⟨⟨rfl,rfl,za _ _ _⟩,⟨rfl,rfl,λj o _ _=>by simp only [zi,Nat.zero_add]⟩,trivial⟩,by show u.length<_; omega⟩,⟨true,λ_=>⟨λ_=>rfl,λ_=>rfl⟩⟩,λb1 hb1=> ?_⟩;have t1:b1=true:=(hb1 (by simp)).2 rfl;subst t1;refine⟨(v,v),λ_=>⟨⟨⟨rfl,rfl,za _ _ _⟩,⟨rfl,rfl,λj o _ _=>by simp only [zi,Nat.zero_add]⟩,trivial⟩,by show v.length<_; omega⟩,⟨true,λ_=>⟨λ_=>rfl,λ_=>rfl⟩⟩,λb2 hb2=> ?_⟩;have t2:b2=true:=(hb2 (by simp)).2 rfl;subst t2;exact hret _
theorem zl3:ze prog 4 zt0:=by
 refine zh' f4 λp hp O w0 Q hq=> ?_
 obtain⟨d,l,fl,fr,f,h⟩:=p;replace hq:=hq true rfl;simp only at hp;obtain⟨hl,hfh⟩:=hp;have eF:eqA (.agg [.sl f.length 3 (fxG f),.sl h.length 4 (chG h)]) (envA f h):=⟨⟨rfl,rfl,λ_ _ _ _=>rfl⟩,⟨rfl,rfl,λ_ _ _ _=>rfl⟩,trivial⟩;have e0:eqA (.agg [.str d.long,.str d.short,.str d.ccy,.str d.name,.str d.zb,.str d.zd]) d.av:=⟨rfl,rfl,rfl,rfl,rfl,rfl,trivial⟩;refine zc.n GLg.h [1,2,3,5,9,11,12,14,16,17,18,19] (let v5:=[AV.sl f.length 3 (fxG f),AV.sl h.length 4 (chG h)];let v2:List AV:=[.sl f.length 3 (fxG f),.sl h.length 4 (chG h)];let v1:List AV:=[.str d.long,.str d.short,.str d.ccy,.str d.name,.str d.zb,.str d.zd];.ex (λ(x:Unit)=>eqL [] []/\True) λn=>.A λn=>.ex (λ(x:yg)=>eqL [d.av,.sl l.length 3 (perG l),AV.nils] [(Deal.av (yg.d x)),.sl (yg.l x).length 3 (perG (yg.l x)),.sl (yg.days x).length 1 (Con.dayG (yg.days x))]/\List.length (yg.l x)<1152921504606846976) λn=>.all (λ(r:Bool)=>r=false->Tm.short (yg.d n) (yg.l n) (yg.days n)) λn=>.ex (λ(x:List Fx×List Ch)=>n=false->eqL [.agg v5] [.agg [.sl x.1.length 3 (fxG x.1),.sl x.2.length 4 (chG x.2)]]/\x.1.length<1152921504606846976/\x.2.length<1152921504606846976/\(∀ (j:Nat),j<x.1.length->zdq (List.getD x.1 j Fx.nil))/\∀ (j:Nat),j<x.2.length->YF (List.getD x.2 j Ch.nil)) λn_1=>.all (λ(x:Bool)=>n=false->x=false->fitP n_1) λn_2=>.ex (λ(x:Int×List Fx×List Ch)=>(bif bif n then true else n_2 then true else !true)=false->eqL [.i fr,.agg v5] [.i x.1,.agg [.sl x.2.1.length 3 (fxG x.2.1),.sl x.2.2.length 4 (chG x.2.2)]]/\envP x.2) λn_3=>.all (λ(x:Bool)=>(bif bif n then true else n_2 then true else !true)=false->x=(decide ((0:Int)<=n_3.1)&&(decide (n_3.1<=99999)&&decide (errE n_3.2.1 n_3.2.2=0)))) λn_4=>.ite (bif bif bif n then true else n_2 then true else !true then true else !n_4) (.R [.bool true] [.box v1,.box v2]) (.ex (q69 [d.av,.sl l.length 3 (perG l)]) λn=>let v4:=Con.zl (Tm.q7 (Tm.legS n.d) n.d n.l);.A λn_5=>.ex (λ(x:PeA)=>eqL [d.av,.sl l.length 3 (perG l),.bool fl] [x.d.av,.sl x.l.length 3 (perG x.l),.bool x.fl]/\PeA.ok x) λn_6=>let v6:=Tm.legC n_6.d n_6.fl;let v3:=Con.zl (Tm.q7 v6 n_6.d n_6.l);.A λn_7=>.ite (bif !decide (Tm.ji (Tm.legS n.d) n.d n.l=(0:Int)) then true else !decide (Tm.ji v6 n_6.d n_6.l=(0:Int))) (.R [.bool true] [.box v1,.box v2,.box v4,.box v3]) (.leaf (.loop (lps K4 0).1 (lps K4 0).2 [(1,.sl l.length 3 (perG l)),(2,.bool fl),(3,.i fr),(5,.ptr 0 0),(9,.ptr 1 0),(11,.bool true),(12,.ptr 2 0),(14,.ptr 3 0),(16,.ptr 4 0),(17,.nils),(18,.nils),(19,.i 0)] [.box v1,.box v2,.box v4,.box v3,.box [.bool true]])))) ?_;simp only [q69,Tree.holds,zf];refine⟨(),⟨trivial,trivial⟩,⟨(),trivial⟩,λ_ _=> ?_⟩;refine⟨⟨d,l,[]⟩,⟨⟨⟨rfl,rfl,rfl,rfl,rfl,rfl,trivial⟩,⟨rfl,rfl,za _ _ _⟩,by simp [Con.dayS],trivial⟩,by show l.length<_; omega⟩,⟨true,λh=>by cases h⟩,λb1 hb1=> ?_⟩;refine⟨(f,h),λ_=>⟨⟨eF,trivial⟩,hfh⟩,⟨true,λ_ h=>by cases h⟩,λb2 hb2=> ?_⟩;cases b1 with
 | true=>exact⟨(fr,f,h),λh=>(by cases h),⟨true,λh=>(by cases h)⟩,λb3 hb3=>⟨λ_=>RetR.scal hq rfl rfl,λh=>by cases h⟩⟩
 | false=>
 cases b2 with
 | true=>exact⟨(fr,f,h),λh=>(by cases h),⟨true,λh=>(by cases h)⟩,λb3 hb3=>⟨λ_=>RetR.scal hq rfl rfl,λh=>by cases h⟩⟩
 | false=>
 have hfit:fitP (f,h):=hb2 rfl rfl;obtain⟨s1,s2,s3,s4⟩:=hb1 rfl;simp only at s1 s2 s3 s4;have henv:envP (f,h):=zqv hfit;refine⟨(fr,f,h),λ_=>⟨⟨⟨rfl,rfl⟩,eF,trivial⟩,henv⟩,⟨_,λ_=>rfl⟩,λb3 hb3=> ?_⟩;obtain rfl:=hb3 rfl;refine⟨λ_=>RetR.scal hq rfl rfl,λhu=> ?_⟩;have hu:(decide (0<=fr)&&(decide (fr<=99999)&&decide (errE f h=0)))=true:=by simpa using hu
 simp only [bA,aK] at hu;obtain⟨u1,u2,u3⟩:=hu;refine⟨⟨d,l,false⟩,⟨⟨e0,⟨rfl,rfl,za _ _ _⟩,trivial⟩,s1,s2,s4⟩,⟨(),trivial⟩,λ_ _=> ?_⟩;refine⟨⟨d,l,fl⟩,⟨⟨e0,⟨rfl,rfl,za _ _ _⟩,rfl,trivial⟩,s1,s2,s4⟩,⟨(),trivial⟩,λ_ _=> ?_⟩;refine⟨λ_=>RetR.scal hq rfl rfl,λg=> ?_⟩;have g:(bif !decide (Tm.ji (Tm.legS d) d l=0) then true else !decide (Tm.ji (Tm.legC d fl) d l=0))=false:=g
 have hx1:Tm.ji (Tm.legS d) d l=0:=by
  by_cases a:Tm.ji (Tm.legS d) d l=0
  ·exact a
  ·simp [a] at g
 have hx2:Tm.ji (Tm.legC d fl) d l=0:=by
  by_cases a:Tm.ji (Tm.legC d fl) d l=0
  ·exact a
  ·simp [a] at g
 clear g;show zH (λx=>False) none prog f4 O 0 w0 [] (λx x_1 x_2=>False) (RetR zt0 0 Q) _ (mk f4.ntmps [(1,.sl l.length 3 (perG l)),(2,.bool fl),(3,.i fr),(5,.ptr 0 0),(9,.ptr 1 0),(11,.bool true),(12,.ptr 2 0),(14,.ptr 3 0),(16,.ptr 4 0),(17,.nils),(18,.nils),(19,.i 0)] [dB d,eB f h,.box (Tm.q7 (Tm.legS d) d l).zl,.box (Tm.q7 (Tm.legC d fl) d l).zl,.box [.bool true]]);have p1:=zfa (fr:=fr) henv (Tm.VZ s1) (d:=d) (l:=l) s2;have p2:=zfa (fr:=fr) henv (Tm.VT (fl:=fl) s1) (d:=d) (l:=l) s2;have z:=(Tm.uE hx1).1
 have hz:(l.foldl (Tm.legS d) ⟨Tm.qL (Tm.perE d l) l l.length,[]⟩).e=0:=by
  unfold Tm.w9 Tm.zR at z; rw [bD] at z; exact z
 obtain⟨w1,w2,w3,_⟩:=Tm.Qz (Tm.zkf d l _ hz).1;have m1:=λhk=>Tm.zg5 (d:=d) (l:=l) (fr:=fr) (f:=f) (h:=h) hx1 u3 u1 u2 hk
 have m2:=λhk=>Tm.zob (d:=d) (fl:=fl) (l:=l) (fr:=fr) (f:=f) (h:=h) hx2 u3 u1 u2 hk
 generalize Tm.q7 (Tm.legS d) d l=a at p1 m1 ⊢;generalize Tm.q7 (Tm.legC d fl) d l=b at p2 m2 ⊢;refine zc.up [(5,flG []),(5,flG [])] (SLg l fl fr 0 0 0) [dB d,eB f h,.box a.zl,.box b.zl,.box [.bool true]] (by simp [SLg,upKV,upA2,upA1,upA0,perS]) (by simp [upH,upB,upL1,upA1,upA0,dB,eB,Con.zl]) (by kernel_rfl) (by kernel_rfl) ?_;show j4 none prog f4 O 0 w0 [] _ _ _ (mk f4.ntmps (SLg l fl fr 0 0 0) (HLg d f h a b [] []));refine zc.loop (ι:={i:Nat // i<=l.length/\∀ j,j<i->lgK d fl f fr (l.getD j Per.nil)}) (λi=>SLg l fl fr ((l.take i.1).flatMap (Tm.swF d f fr)).length ((l.take i.1).flatMap (Tm.cpF d fl f fr)).length i.1) (λi=>HLg d f h a b ((l.take i.1).flatMap (Tm.swF d f fr)) ((l.take i.1).flatMap (Tm.cpF d fl f fr))) (λi=>l.length - i.1) ⟨0,aI _,λj hj=>absurd hj (Nat.not_lt_zero j)⟩ 0 ?_ ?_ (by kernel_rfl)
 ·exact⟨by simp [SLg,perS,za],⟨zA _,zA _,zA _,zA _,zA _,zA _,zA _,trivial⟩,by kernel_rfl,aI _⟩
 ·rintro⟨i,hil,hki⟩;refine zqw hil s2 s1 s4 hfit u3 w1 w2 w3 (WM (k:=2) (λp=>zu8 d f fr p) l i) (by have:=WM (k:=1) (λp=>zuq d fl f fr p) l i; simp only; omega) p1 p2 (λhp=>RetR.scal hq rfl rfl) (λhi=> ?_) λhlt hK u' v' e1 e2 kv hp hle=> ?_
  ·subst hi;simp only [bD]
   have hall:∀ p∈l,lgK d fl f fr p:=λp hp=>by
    obtain⟨j,hj,rfl⟩:=List.mem_iff_getElem.1 hp;have:=hki j hj;simpa [List.getD,hj] using this
   exact⟨m1 λp hp g=>⟨(hall p hp g).1,(hall p hp g).2.1⟩,m2 λp hp g=>⟨(hall p hp g).1,Ku u3 (hall p hp g).1,(hall p hp g).2.2.1,(hall p hp g).2.2.2⟩⟩
  ·have hlt':i<l.length:=hlt;rw [aP rfl];refine⟨⟨i+1,hlt',λj hj=> ?_⟩,by show l.length - (i+1)<l.length - i; omega,?_⟩
   ·by_cases h1:j<i
    ·exact hki j h1
    ·have h2:j=i:=by omega
     subst h2; exact hK
   ·have e1:u'=(l.take i).flatMap (Tm.swF d f fr)++Tm.swF d f fr (l.getD i Per.nil):=e1;have e2:v'=(l.take i).flatMap (Tm.cpF d fl f fr)++Tm.cpF d fl f fr (l.getD i Per.nil):=e2;rw [Qx hlt',Qx hlt',<- e1,<- e2];exact hle
end Go.Proofs.Tryz
end
section
open Go Go.Sx Go.Proofs Go.Nov
namespace Go.Proofs.Tryz
def zw9(p:List Fx×List Ch):Prop:=p.1.length<2^60/\p.2.length<2^60/\(∀ j,j<p.1.length->zdq (p.1.getD j Fx.nil))/\∀ j,j<p.2.length->YF (p.2.getD j Ch.nil)
end Go.Proofs.Tryz
end
section
namespace Go.Sx
variable [Stat]
open Go.RowKit (Below)
def E0:Nat->Prop:=Own (λ_=>False) []
theorem za2(b:Nat):¬ E0 b:=by
 rintro(h | ⟨e,he,_⟩)
 ·exact h
 ·simp at he
def Tw(P:Program)(W:World)(t:TypeId)(cs:List Value):Prop:=∃ (H:Type) (enc:TypeId×Value->H) (base fuel:Nat) (d:DataW H) (ps:List MemPlace),DataW.trod enc P W base (λ_=>true) true fuel t cs=some (d,ps)/\∀ n∈d.weights P t,n<=reachBytes
section
variable {P:Program} {W:World} {t e:TypeId} {cs:List Value}
theorem kp(ht:P.underlying t=some .string)(h:Tw P W t cs):∃ s:L8,cs=[.string ⟨s.toArray⟩]/\s.length<=reachBytes:=by
 obtain⟨H,enc,base,fuel,d,ps,h,hw⟩:=h;obtain⟨s,rfl,hx,_⟩:=DataW.trod_string ht h;cases hx;exact⟨s.data.toList,by simp,hw _ (by simp [DataW.weights])⟩
theorem Vi{k:IntKind}(ht:P.underlying t=some (.int k))(h:Tw P W t cs):∃ n,cs=[.int k n]/\(Lit.int k n).wf=true:=by
 obtain⟨H,enc,base,fuel,d,ps,h,hw⟩:=h;obtain⟨n,rfl,hx,hwf⟩:=DataW.trod_int ht h;exact⟨n,rfl,hwf⟩
theorem zf6(ht:P.underlying t=some .bool)(h:Tw P W t cs):∃ b,cs=[.bool b]:=by
 obtain⟨H,enc,base,fuel,d,ps,h,hw⟩:=h;obtain⟨b,rfl,hx⟩:=DataW.trod_bool ht h;exact⟨b,rfl⟩
theorem xg{fs:Array Field}(ht:P.underlying t=some (.struct fs))(h:Tw P W t cs):cs.length=P.cellsOf t/\∀ (i:Nat) (f:Field),fs[i]?=some f->Tw P W f.type ((cs.drop f.offset).take (P.cellsOf f.type)):=by
 obtain⟨H,enc,base,fuel,d,ps,h,hw⟩:=h;obtain⟨xs,n,_,hx,hl,hlen,hf⟩:=DataW.trod_struct ht h;cases hx;refine⟨hl,λi f hfi=> ?_⟩;have hi:=hf i f hfi
 have hlt:i<xs.length:=by
  rw [hlen]; exact(aQ.1 hfi).1
 rw [aF hlt] at hi;refine⟨H,enc,base,n,xs[i].1,xs[i].2,hi,λm hm=>hw m ?_⟩;simp only [DataW.weights,ht];exact DataW.weights_mem_each (j:=i) (t:=f.type) (d:=xs[i].1) (by simp [hfi]) (by simp [hlt]) m hm
theorem yM{H:Type}{d:DataW H} : ∀ {l:List (DataW H)},d∈l->∀ n∈d.weights P e,n∈DataW.weightsAll P e l
 | x::l,hd,n,hn=>by
  simp only [DataW.weightsAll,bZ];rcases aM.1 hd with rfl | hd
  ·exact .inl hn
  ·exact .inr (yM hd n hn)
theorem zn1(ht:P.underlying t=some (.slice e))(h:Tw P W t cs):cs=[.slice none 0 0]\/∃ (a:Addr) (len cap:Nat),cs=[.slice (some a) len cap]/\len<=cap/\cap*P.bytesOf e<=reachBytes /\
  ∀ i,i<len->∃ cs',cs'.length=P.cellsOf e/\(∀ o,o<P.cellsOf e->W.cell? ((a.add (i*P.cellsOf e)).add o)=cs'[o]?)/\Tw P W e cs':=by
 obtain⟨H,enc,base,fuel,d,ps,h,hw⟩:=h;rcases DataW.trod_slice ht h with ⟨rfl,_⟩ | ⟨a,len,cap,elems,rest,n,_,rfl,hx,hb,hl,hm,hlen,hel,hsp,_⟩
 ·exact .inl rfl
 ·right;cases hx;obtain⟨hrl,_⟩:=hsp rfl;simp only [DataW.weights,ht] at hw;refine⟨a,len,cap,rfl,hl,?_,λi hi=> ?_⟩
  ·have:=hw _ (List.mem_cons_self);simp only [List.length_map,hlen,hrl] at this
   rwa [show len+(cap - len)=cap by omega] at this
  ·have h1:=hel i hi;have hlt:i<elems.length:=by rw [hlen]; exact hi
   rw [aF hlt,Option.bind_eq_some_iff] at h1;obtain⟨cs',h2,h3⟩:=h1;obtain⟨_,h4,h5⟩:=World.cells?_some h2;refine⟨cs',h4,h5,H,enc,base,n,elems[i].1,elems[i].2,h3,λm hm2=>hw m ?_⟩;simp only [aM,bZ];exact .inr (.inl (yM (d:=elems[i].1) (List.mem_map.2 ⟨elems[i],bK hlt,rfl⟩) m hm2))
theorem Qs{α:Type}(z:α)(cell:α->Nat->AV)(good:α->Prop){sz:Nat}(ht:P.underlying t=some (.slice e))(hsz:P.cellsOf e=sz)(hpos:0<sz)
  (hel:∀ cs',Tw P W e cs'->∃ x:α,good x/\∀ o,o<sz->∃ c,cs'[o]?=some c/\c.oneCell'=true/\Rep E0 W (cell x o) [] c) (h:Tw P W t cs) :
  ∃ (l:List α) (v:Value),cs=[v]/\(∀ x∈l,good x)/\l.length*P.bytesOf e<=reachBytes/\v.oneCell'=true/\Rep E0 W (.sl l.length sz λj=>cell (l.getD j z)) [] v:=by
 rcases zn1 ht h with rfl | ⟨a,len,cap,rfl,hl,hw,hx⟩
 ·refine⟨[],_,rfl,by simp,by simp,rfl,?_⟩;simp only [Rep];exact⟨none,0,rfl,aJ _,.inl rfl⟩
 ·rw [hsz] at hx
  have hx2:∀ i,∃ x:α,i<len->good x/\∀ o,o<sz->∃ c,W.cell? ((a.add (i*sz)).add o)=some c/\c.oneCell'=true/\Rep E0 W (cell x o) [] c:=λi=>by
   by_cases hi:i<len
   ·obtain⟨cs',h1,h2,h3⟩:=hx i hi;obtain⟨x,hg,hc⟩:=hel cs' h3
    exact⟨x,λ_=>⟨hg,λo ho=>by
     obtain⟨c,g1,g2,g3⟩:=hc o ho;exact⟨c,by rw [h2 o ho,g1],g2,g3⟩⟩⟩
   ·exact⟨z,λh=>absurd h hi⟩
  obtain⟨f,hf⟩:=Classical.axiomOfChoice hx2;have hgd:∀ j,j<len->((List.range len).map f).getD j z=f j:=λj hj=>by simp [List.getD,hj]
  refine⟨(List.range len).map f,_,rfl,λx hxm=> ?_,?_,rfl,?_⟩
  ·obtain⟨i,hi,rfl⟩:=List.mem_map.1 hxm;exact(hf i (List.mem_range.1 hi)).1
  ·simp only [List.length_map,List.length_range];exact bP (aT _ hl) hw
  ·simp only [Rep,List.length_map,List.length_range];refine⟨some a,cap,rfl,hl,?_⟩;rcases bC len with h0 | h0
   ·exact .inl h0
   ·right
    have hspot:a.spot=none:=by
     obtain⟨c,g1,_⟩:=(hf 0 h0).2 0 hpos;have:=World.cell?_spot g1;simpa [Addr.add] using this
    refine⟨a,rfl,hspot,λj o hj ho=>⟨za2 _,?_⟩⟩;obtain⟨c,g1,g2,g3⟩:=(hf j hj).2 o ho;refine⟨c,?_,g2,by rw [hgd j hj]; exact g3⟩;rw [<- g1];obtain⟨b,off,spot⟩:=a;simp only at hspot;subst hspot;congr 1;simp only [Addr.add];split<;>split<;>simp_all<;>omega
theorem zi9{g:Nat}{fn:Func}{c:Code}(hf:P.funcs[g]?=some fn)(hb:fn.body=some c) (hn:(fn.name == "runtime.NumGoroutine")=false) {ctr:Ctr} (hok:ze P g ctr) {args:List AV} {vals:List Value}
  (hspec:(ctr.spec args []).holds λr=>r=(.bool true,[])) (hr:RepL E0 W args [] vals) (hst:k9 E0 W):Calls P g vals.toArray W λe W'=>e = .returned (.bool true)/\Below W.heap.size W W':=by
 have hn':¬ fn.name = "runtime.NumGoroutine" :=by simpa using hn
 have hg:Good (λ_=>False) W []:=⟨λb h=>h.elim,λi e ad he=>by simp at he,hst⟩;have hh:HRep (Own (λ_=>False) []) W [] []:=⟨rfl,λi j e f a b he=>by simp at he,λi e a he=>by simp at he,λi e b he=>by simp at he⟩;rcases hok args [] _ hspec (λ_=>rfl) (λ_=>False) W [] vals hg hh hr with ⟨_,h⟩ | ⟨v,w',h,_⟩
 ·refine h.mono ?_;rintro e W' ⟨v,rfl,r,hs,Z',hq,h1,_,_,_,_,hx⟩;cases hq;simp only [Rep] at h1;subst h1;exact⟨rfl,hx.os,hx.tape,hx.output,hx.size,λk hk=>hx.keep k hk λ⟨e,he,_⟩=>by simp at he⟩
 ·simp [callFunc,hf,hn',hb] at h
end
end Go.Sx
end
section
namespace Go.Sx
variable [Stat]
section
variable {P:Program} {W:World} {t e:TypeId} {cs:List Value}
theorem zkj{H:Type}{enc:TypeId×Value->H}{base:Nat}{sp:Nat->Bool}{held:Bool}{fuel:Nat}{kd:IntKind}{ps:List Int}{q:List MemPlace}(ht:P.underlying t=some (.slice e))(he:P.underlying e=some (.int kd))(hc:P.cellsOf e=1)(hne:ps≠[])
  (h:DataW.trod enc P W base sp held fuel t cs=some (.slice (ps.map λz=>.lit (.int kd z)) [],q)):∃ c,cs=[c]/\c.oneCell'=true/\Rep E0 W (.sl ps.length 1 λj _=>.int kd (ps.getD j 0)) [] c:=by
 obtain⟨a,cap,rfl,hl,hel⟩:=open_row ht hc h;refine⟨_,rfl,rfl,?_⟩;simp only [List.length_map] at hl
 have hv:∀ j,j<ps.length->W.cell? (a.add j)=some (.int kd (ps.getD j 0)):=λj hj=>by
  obtain⟨v,n,q',h1,h2⟩:=hel j (.lit (.int kd (ps.getD j 0))) (by simp [List.getD,hj]);obtain⟨m,h3,h4,_⟩:=DataW.trod_int he h2;simp only [List.cons.injEq,and_true] at h3;simp only [bE,DataW.lit.injEq,Lit.int.injEq,true_and] at h4;rw [h1,h3,h4.1]
 simp only [Rep,List.length_map];refine⟨some a,cap,rfl,hl,.inr ⟨a,rfl,?_,λj o hj ho=>⟨za2 _,.int kd (ps.getD j 0),?_,rfl,rfl⟩⟩⟩
 ·have:=World.cell?_spot (hv 0 (List.length_pos_iff.2 hne));simpa [Addr.add] using this
 ·have:o=0:=by omega
  subst this
  have hs:a.spot=none:=by
   have:=World.cell?_spot (hv 0 (List.length_pos_iff.2 hne));simpa [Addr.add] using this
  rw [<- hv j hj];obtain⟨b,off,spot⟩:=a;simp only at hs;subst hs;congr 1;simp only [Addr.add];split<;>simp_all
end
section
open Go.WideElems Go.ChangeMaps
variable {H:Type} {enc:TypeId×Value->H} {P:Program} {W:World} {base:Nat} {sp:Nat->Bool} {held:Bool}
theorem JZ{x:Lit×DataW H} : ∀ {l:List (Lit×DataW H)},x∈l.foldr DataW.insert []↔x∈l
 | []=>Iff.rfl
 | y::l=>by rw [List.foldr_cons,mem_insert_iff,JZ,aM]
theorem XR{g:Nat}{t k e:TypeId}{kd:IntKind}{ag:Bool}{sz:Nat}{ks:List Int}{has:Int->Bool}{get:Int->Nat->AV}{fuel:Nat}{c:Value}{es0:List (Lit×DataW H)}{q:List MemPlace}
  (hg:(Stat.z g).isSome=true) (ht:P.underlying t=some (.map k e)) (hk:P.underlying k=some (.int kd)) (hc:W.cell? ⟨g,0,none⟩=some c) (hne:es0≠[])
  (h:DataW.trod enc P W base sp held fuel t [c]=some (.map es0,q))
  (hin:∀ (n:Int) (d:DataW H),(.int kd n,d)∈es0->has n=true/\∀ (v:Value) (m:Nat) (q:List MemPlace),v.formed P e=true->DataW.trod enc P W base sp held m e v.cells.toList=some (d,q) ->
   match ag with
   | true=>∃ vs:List Value,v = .agg vs.toArray/\vs.length=sz/\∀ o,o<sz->∃ c,vs[o]?=some c/\Rep E0 W (get n o) [] c
   | false=>Rep E0 W (get n 0) [] v)
  (hout:∀ n,has n=true->∃ d,(.int kd n,d)∈es0):Rep E0 W (.mp kd ag sz ks has get) [] c/\∀ b,c = .map (some b)->b<W.heap.size:=by
 rcases open_map ht h with ⟨_,hx⟩ | ⟨b,es,clock,n,_,hcs,hb,_,F,hx⟩
 ·simp at hx
 ·simp only [List.cons.injEq,and_true] at hcs;subst hcs;simp only [bE,DataW.map.injEq] at hx
  have hkey:∀ x∈es.toList,∃ (m:Int) (z:DataW H×List MemPlace),x.key = .int kd m/\elemAt enc P W base sp held n e x.val=some z/\(.int kd m,z.1)∈es0:=by
   intro x hxm;obtain⟨y,hy⟩:=F.reads x hxm;have h1:=rd_key hy;obtain⟨z,h2,h3⟩:=rd_val hy;have h4:y∈es0:=by rw [hx.1,JZ]; exact List.mem_map.2 ⟨x,hxm,rg_of hy⟩
   have h5:mapKey P k x.key=some y.1:=by
    simp only [keyOf,hk] at h1;exact h1
   unfold mapKey at h5;rw [hk] at h5;cases hxk:x.key with
   | int k' m=>
    rw [hxk] at h5;simp only at h5;split at h5
    ·rename_i hc2;have h6:=Option.some.inj h5;obtain⟨rfl,_⟩:=hc2;refine⟨m,z,rfl,h2,?_⟩;rw [h6,<- h3]; exact h4
    ·cases h5
   | _=>rw [hxk] at h5; simp at h5
  have hlt:b<W.heap.size:=(aQ.1 hb).1;refine⟨?_,λb' hb'=>by cases hb'; exact hlt⟩;simp only [Rep];refine⟨b,es,clock,rfl,za2 _,⟨g,za2 _,hg,hc⟩,hb,λm=> ?_⟩
  have hspec:=MapKept.findNow_spec (d:=.int kd) (k:=.int kd m) (by simp [MapKept.IsKey]) es.toList 0 (λx hxm=>by
   obtain⟨m',z,h1,_⟩:=hkey x hxm;rw [h1]; simp [MapKept.IsKey])
  rcases hspec with ⟨h1,h2⟩ | ⟨j,x,h1,h2,h3⟩
  ·refine⟨λ_=>h1,λhm=> ?_⟩;obtain⟨d,hd⟩:=hout m hm;rw [hx.1,JZ] at hd;obtain⟨x,hxm,hrx⟩:=List.mem_map.1 hd;obtain⟨y,hy⟩:=F.reads x hxm;rw [rg_of hy] at hrx;have h5:=rd_key hy;rw [hrx] at h5;obtain⟨m',z,g1,_⟩:=hkey x hxm
   have:keyOf P k x.key=some (.int kd m'):=by
    rw [g1] at h5 ⊢;simp only [keyOf,hk,mapKey] at h5 ⊢;split at h5
    ·rename_i hwf; rw [aP hwf]
    ·cases h5
   rw [this] at h5;cases h5;exact absurd g1 (h2 x hxm)
  ·have hxm:x∈es.toList:=aY h2;obtain⟨m',z,g1,g2,g3⟩:=hkey x hxm;rw [h3] at g1;cases g1;obtain⟨hh,hrep⟩:=hin m z.1 g3;refine⟨λhf=>(by rw [hf] at hh; cases hh),λ_=>⟨_,x.val,h1,?_⟩⟩;unfold elemAt at g2;split at g2
   ·rename_i hfm;exact hrep x.val n z.2 hfm g2
   ·cases g2
end
end Go.Sx
end
section
set_option maxRecDepth 100000
namespace Go.Proofs.YtpnllbdffdpoaaaGreatDoor
open Go Go.Sx Go.Nov Go.Proofs.Tryz Go.ChangeShapes Go.WideShapes Go.ChangeAt Go.RowKit
theorem vj:Tryz.prog.cellsOf 9=1:=by kernel_rfl
theorem uw:Tryz.prog.cellsOf 22=1:=by kernel_rfl
theorem uI:Tryz.prog.cellsOf 3=1:=by kernel_rfl
theorem zb5:Tryz.prog.cellsOf 4=1:=by kernel_rfl
theorem Uw:Tryz.prog.cellsOf 70=3:=by kernel_rfl
theorem UG:Tryz.prog.cellsOf 72=4:=by kernel_rfl
theorem zoq:Tryz.prog.cellsOf 25=1:=by kernel_rfl
theorem zj0:Tryz.prog.cellsOf 26=1:=by kernel_rfl
theorem zhu:Tryz.prog.cellsOf 28=2:=by kernel_rfl
def zk7(x:Fx):Prop:=x.name.length<=reachBytes/\x.value.length<=reachBytes
def zos(x:Ch):Prop:=x.zT.length<=reachBytes/\x.name.length<=reachBytes
theorem zn6{W:World}{cs:List Value}(h:Tw Tryz.prog W 70 cs):∃ x:Fx,zk7 x/\cs=[.string ⟨x.name.toArray⟩,.i x.date,.string ⟨x.value.toArray⟩]:=by
 obtain⟨hl,hf⟩:=xg Tryz.underlying70 h;rw [Uw] at hl
 match cs,hl with
 | [a,b,c],_=>
  have h0:Tw Tryz.prog W 9 (([a,b,c].drop 0).take (Tryz.prog.cellsOf 9)):=hf 0 _ rfl;rw [vj] at h0;replace h0:Tw Tryz.prog W 9 [a]:=h0;have h1:Tw Tryz.prog W 3 (([a,b,c].drop 1).take (Tryz.prog.cellsOf 3)):=hf 1 _ rfl;rw [uI] at h1;replace h1:Tw Tryz.prog W 3 [b]:=h1;have h2:Tw Tryz.prog W 22 (([a,b,c].drop 2).take (Tryz.prog.cellsOf 22)):=hf 2 _ rfl;rw [uw] at h2;replace h2:Tw Tryz.prog W 22 [c]:=h2;obtain⟨s,e0,w0⟩:=kp Tryz.underlying9 h0;obtain⟨n,e1,w1⟩:=Vi Tryz.underlying3 h1;obtain⟨u,e2,w2⟩:=kp Tryz.underlying22 h2;cases e0; cases e1; cases e2;exact⟨⟨s,n,u⟩,⟨w0,w2⟩,rfl⟩
theorem zlj{W:World}{cs:List Value}(h:Tw Tryz.prog W 72 cs):∃ x:Ch,zos x/\cs=[.string ⟨x.zT.toArray⟩,.string ⟨x.name.toArray⟩,.i x.date,.bool x.first]:=by
 obtain⟨hl,hf⟩:=xg Tryz.underlying72 h;rw [UG] at hl
 match cs,hl with
 | [a,b,c,d],_=>
  have h0:Tw Tryz.prog W 9 (([a,b,c,d].drop 0).take (Tryz.prog.cellsOf 9)):=hf 0 _ rfl;rw [vj] at h0;replace h0:Tw Tryz.prog W 9 [a]:=h0;have h1:Tw Tryz.prog W 9 (([a,b,c,d].drop 1).take (Tryz.prog.cellsOf 9)):=hf 1 _ rfl;rw [vj] at h1;replace h1:Tw Tryz.prog W 9 [b]:=h1;have h2:Tw Tryz.prog W 3 (([a,b,c,d].drop 2).take (Tryz.prog.cellsOf 3)):=hf 2 _ rfl;rw [uI] at h2;replace h2:Tw Tryz.prog W 3 [c]:=h2;have h3:Tw Tryz.prog W 4 (([a,b,c,d].drop 3).take (Tryz.prog.cellsOf 4)):=hf 3 _ rfl;rw [zb5] at h3;replace h3:Tw Tryz.prog W 4 [d]:=h3;obtain⟨s,e0,w0⟩:=kp Tryz.underlying9 h0;obtain⟨u,e1,w1⟩:=kp Tryz.underlying9 h1;obtain⟨n,e2,w2⟩:=Vi Tryz.underlying3 h2;obtain⟨b,e3⟩:=zf6 Tryz.underlying4 h3;cases e0; cases e1; cases e2; cases e3;exact⟨⟨s,u,n,b⟩,⟨w0,w1⟩,rfl⟩
theorem zg4{W:World}{cs:List Value}(h:Tw Tryz.prog W 28 cs):∃ (f:List Fx) (c:List Ch) (u v:Value),cs=[u,v]/\(∀ x∈f,zk7 x)/\(∀ x∈c,zos x)/\f.length*40<=reachBytes/\c.length*48<=reachBytes/\Rep E0 W (fxS f) [] u/\Rep E0 W (chS c) [] v:=by
 obtain⟨hl,hf⟩:=xg Tryz.underlying28 h;rw [zhu] at hl
 match cs,hl with
 | [a,b],_=>
  have h0:Tw Tryz.prog W 25 (([a,b].drop 0).take (Tryz.prog.cellsOf 25)):=hf 0 _ rfl;rw [zoq] at h0;replace h0:Tw Tryz.prog W 25 [a]:=h0;have h1:Tw Tryz.prog W 26 (([a,b].drop 1).take (Tryz.prog.cellsOf 26)):=hf 1 _ rfl;rw [zj0] at h1;replace h1:Tw Tryz.prog W 26 [b]:=h1
  obtain⟨f,u,e0,gf,wf,_,rf⟩:=Qs Fx.nil Fx.cell zk7 Tryz.underlying25 Uw (by decide) (λcs' h'=>by
   obtain⟨x,hx,rfl⟩:=zn6 h';refine⟨x,hx,λo ho=> ?_⟩
   match o,ho with
   | 0,_=>exact⟨_,rfl,rfl,by simp [Fx.cell,Rep]⟩
   | 1,_=>exact⟨_,rfl,rfl,by simp [Fx.cell,Rep]⟩
   | 2,_=>exact⟨_,rfl,rfl,by simp [Fx.cell,Rep]⟩) h0
  obtain⟨c,v,e1,gc,wc,_,rc⟩:=Qs Ch.nil Ch.cell zos Tryz.underlying26 UG (by decide) (λcs' h'=>by
   obtain⟨x,hx,rfl⟩:=zlj h';refine⟨x,hx,λo ho=> ?_⟩
   match o,ho with
   | 0,_=>exact⟨_,rfl,rfl,by simp [Ch.cell,Rep]⟩
   | 1,_=>exact⟨_,rfl,rfl,by simp [Ch.cell,Rep]⟩
   | 2,_=>exact⟨_,rfl,rfl,by simp [Ch.cell,Rep]⟩
   | 3,_=>exact⟨_,rfl,rfl,by simp [Ch.cell,Rep]⟩) h1
  cases e0; cases e1;have b1:Tryz.prog.bytesOf 70=40:=by kernel_rfl
  have b2:Tryz.prog.bytesOf 72=48:=by kernel_rfl
  rw [b1] at wf;rw [b2] at wc;exact⟨f,c,_,_,rfl,gf,gc,wf,wc,rf,rc⟩
theorem zs3{W:World}{cs:List Value}(h:Tw Tryz.prog W 28 cs):∃ p:List Fx×List Ch,zw9 p/\Rep E0 W (envA p.1 p.2) [] (.agg cs.toArray):=by
 obtain⟨f,c,u,v,rfl,gf,gc,wf,wc,rf,rc⟩:=zg4 h;have hr:=reachBytes_lt;refine⟨(f,c),⟨by show f.length<_; omega,by show c.length<_; omega,λj hj=> ?_,λj hj=> ?_⟩,?_⟩
 ·have:=gf (f.getD j Fx.nil) (by simp only at hj; simp [List.getD,hj]);exact⟨by have:=this.1; show(f.getD j Fx.nil).name.length<_; omega,by have:=this.2; show(f.getD j Fx.nil).value.length<_; omega⟩
 ·have:=gc (c.getD j Ch.nil) (by simp only at hj; simp [List.getD,hj]);exact⟨by have:=this.1; show(c.getD j Ch.nil).zT.length<_; omega,by have:=this.2; show(c.getD j Ch.nil).name.length<_; omega⟩
 ·simp only [RepL,Rep,envA];exact⟨[u,v],rfl,u,_,rfl,rf,v,_,rfl,rc,rfl⟩
theorem zpt{W:World}{cs:List Value}(h:Tw Tryz.prog W 3 cs):∃ n:Int,cs=[.i n]/\inR .i64 n/\Rep E0 W (.i n) [] (.i n):=by
 obtain⟨n,rfl,hn⟩:=Vi Tryz.underlying3 h;refine⟨n,rfl,?_,by simp [Rep]⟩;simp only [Lit.wf,bA,aK] at hn;exact hn
theorem zjh{W:World}{cs:List Value}(h:Tw Tryz.prog W 4 cs):∃ b:Bool,cs=[.bool b]/\True/\Rep E0 W (.bool b) [] (.bool b):=by
 obtain⟨b,rfl⟩:=zf6 Tryz.underlying4 h;exact⟨b,rfl,trivial,by simp [Rep]⟩
theorem zcj:Tryz.prog.cellsOf 24=6:=by kernel_rfl
theorem zin{W:World}{cs:List Value}(h:Tw Tryz.prog W 24 cs):∃ x:Deal,True/\Rep E0 W x.av [] (.agg cs.toArray):=by
 obtain⟨hl,hf⟩:=xg Tryz.underlying24 h;rw [zcj] at hl
 match cs,hl with
 | [a,b,c,d,e,f],_=>
  have h0:Tw Tryz.prog W 9 (([a,b,c,d,e,f].drop 0).take (Tryz.prog.cellsOf 9)):=hf 0 _ rfl;rw [vj] at h0;replace h0:Tw Tryz.prog W 9 [a]:=h0;have h1:Tw Tryz.prog W 9 (([a,b,c,d,e,f].drop 1).take (Tryz.prog.cellsOf 9)):=hf 1 _ rfl;rw [vj] at h1;replace h1:Tw Tryz.prog W 9 [b]:=h1;have h2:Tw Tryz.prog W 9 (([a,b,c,d,e,f].drop 2).take (Tryz.prog.cellsOf 9)):=hf 2 _ rfl;rw [vj] at h2;replace h2:Tw Tryz.prog W 9 [c]:=h2;have h3:Tw Tryz.prog W 9 (([a,b,c,d,e,f].drop 3).take (Tryz.prog.cellsOf 9)):=hf 3 _ rfl;rw [vj] at h3;replace h3:Tw Tryz.prog W 9 [d]:=h3;have h4:Tw Tryz.prog W 22 (([a,b,c,d,e,f].drop 4).take (Tryz.prog.cellsOf 22)):=hf 4 _ rfl;rw [uw] at h4;replace h4:Tw Tryz.prog W 22 [e]:=h4;have h5:Tw Tryz.prog W 22 (([a,b,c,d,e,f].drop 5).take (Tryz.prog.cellsOf 22)):=hf 5 _ rfl;rw [uw] at h5;replace h5:Tw Tryz.prog W 22 [f]:=h5;obtain⟨x0,y0,w0⟩:=kp Tryz.underlying9 h0;obtain⟨x1,y1,w1⟩:=kp Tryz.underlying9 h1;obtain⟨x2,y2,w2⟩:=kp Tryz.underlying9 h2;obtain⟨x3,y3,w3⟩:=kp Tryz.underlying9 h3;obtain⟨x4,y4,w4⟩:=kp Tryz.underlying22 h4;obtain⟨x5,y5,w5⟩:=kp Tryz.underlying22 h5;cases y0; cases y1; cases y2; cases y3; cases y4; cases y5;refine⟨⟨x0,x1,x2,x3,x4,x5⟩,trivial,?_⟩;simp only [RepL,Rep,Deal.av];exact⟨_,rfl,_,_,rfl,rfl,_,_,rfl,rfl,_,_,rfl,rfl,_,_,rfl,rfl,_,_,rfl,rfl,_,_,rfl,rfl,rfl⟩
theorem KI:Tryz.prog.cellsOf 58=3:=by kernel_rfl
theorem zgd{W:World}{cs:List Value}(h:Tw Tryz.prog W 58 cs):∃ x:Per,True/\cs=[.i x.fix,.i x.pay,.string ⟨x.part.toArray⟩]:=by
 obtain⟨hl,hf⟩:=xg Tryz.underlying58 h;rw [KI] at hl
 match cs,hl with
 | [a,b,c],_=>
  have h0:Tw Tryz.prog W 3 (([a,b,c].drop 0).take (Tryz.prog.cellsOf 3)):=hf 0 _ rfl;rw [uI] at h0;replace h0:Tw Tryz.prog W 3 [a]:=h0;have h1:Tw Tryz.prog W 3 (([a,b,c].drop 1).take (Tryz.prog.cellsOf 3)):=hf 1 _ rfl;rw [uI] at h1;replace h1:Tw Tryz.prog W 3 [b]:=h1;have h2:Tw Tryz.prog W 22 (([a,b,c].drop 2).take (Tryz.prog.cellsOf 22)):=hf 2 _ rfl;rw [uw] at h2;replace h2:Tw Tryz.prog W 22 [c]:=h2;obtain⟨m,e0,_⟩:=Vi Tryz.underlying3 h0;obtain⟨n,e1,_⟩:=Vi Tryz.underlying3 h1;obtain⟨u,e2,_⟩:=kp Tryz.underlying22 h2;cases e0; cases e1; cases e2;exact⟨⟨m,n,u⟩,trivial,rfl⟩
theorem zn8{W:World}{cs:List Value}(h:Tw Tryz.prog W 53 cs):∃ (v:Value) (l:List Per),cs=[v]/\l.length<2^45/\Rep E0 W (perS l) [] v:=by
 obtain⟨l,v,e1,gl,wl,_,rl⟩:=Qs Per.nil Per.cell (λ_=>True) Tryz.underlying53 KI (by decide) (λcs' h'=>by
   obtain⟨x,hx,rfl⟩:=zgd h';refine⟨x,hx,λo ho=> ?_⟩
   match o,ho with
   | 0,_=>exact⟨_,rfl,rfl,by simp [Per.cell,Rep]⟩
   | 1,_=>exact⟨_,rfl,rfl,by simp [Per.cell,Rep]⟩
   | 2,_=>exact⟨_,rfl,rfl,by simp [Per.cell,Rep]⟩) h
 have b1:Tryz.prog.bytesOf 58=32:=by kernel_rfl
 rw [b1] at wl;have hr:=reachBytes_lt;exact⟨v,l,e1,by omega,rl⟩
theorem za0:Tryz.prog.cellsOf 220=1:=by kernel_rfl
theorem zou:Tryz.prog.cellsOf 239=1:=by kernel_rfl
theorem zn9:Tryz.prog.cellsOf 241=2:=by kernel_rfl
def shpE(H:Type):List (Lit×DataW H):=shpL.map λp=>(.int .u8 p.1,.agg [.slice (p.2.1.map λz=>.lit (.int .u8 z)) [],.lit (.int .u8 p.2.2)])
theorem zp3:∀ p∈shpL,Z7 p.1=some p.2/\p.2.1≠[]:=by decide
theorem zpo{k:Int}(h:j6 k=true):∃ q,(k,q)∈shpL:=by
 unfold j6 Z7 at h;rw [Option.isSome_map] at h;obtain⟨p,hp⟩:=Option.isSome_iff_exists.1 h;have h1:=List.find?_some hp;have h2:=List.mem_of_find?_eq_some hp;have:p.1=k:=by simpa using h1
 exact⟨p.2,by rw [<- this]; exact h2⟩
theorem zb9{W:World}{cs:List Value}{fuel:Nat}{q:List MemPlace}{c:Value}(hc:W.cell? ⟨2,0,none⟩=some c)
  (h:DataW.trod (λ_=>()) Tryz.prog W 0 (λ_=>true) false fuel 243 [c]=some (.map (shpE Unit),q)) :
  Rep E0 W (.mp .u8 true 2 [] (λk=>j6 k) λk o=>match o with
   | 0=>.sl (jL k) 1 λj _=>.int .u8 (qV k j)
   | _=>.int .u8 (jw k)) [] c/\∀ b,c = .map (some b)->b<W.heap.size:=by
 refine XR (g:=2) rfl Tryz.underlying243 Tryz.underlying5 hc (by decide) h ?_ ?_
 ·intro n d hd;obtain⟨p,hp,he⟩:=List.mem_map.1 hd;obtain⟨h1,h2⟩:=zp3 p hp;simp only [bE,Lit.int.injEq,true_and] at he;obtain⟨rfl,rfl⟩:=he;refine⟨by simp [j6,h1],λv m q' hf ht=> ?_⟩;obtain⟨xs,n',_,hx,hl,hlen,hfs⟩:=DataW.trod_struct Tryz.underlying241 ht;rw [zn9] at hl;cases v with
  | agg cs=>
   simp only [Value.cells] at hl hfs;obtain⟨cs⟩:=cs;simp only at hl hfs
   match cs,hl with
   | [a,b],_=>
    have f0:DataW.trod _ Tryz.prog W 0 _ false n' 239 (([a,b].drop 0).take (Tryz.prog.cellsOf 239))=xs[0]?:=hfs 0 _ rfl;have f1:DataW.trod _ Tryz.prog W 0 _ false n' 220 (([a,b].drop 1).take (Tryz.prog.cellsOf 220))=xs[1]?:=hfs 1 _ rfl;rw [zou] at f0;rw [za0] at f1
    match xs,hlen with
    | [x0,x1],_=>
     simp only [List.map_cons,List.map_nil,bE,DataW.agg.injEq,List.cons.injEq,and_true] at hx;obtain⟨⟨hx0,hx1⟩,_⟩:=hx;have f0:DataW.trod _ Tryz.prog W 0 _ false n' 239 [a]=some x0:=f0;have f1:DataW.trod _ Tryz.prog W 0 _ false n' 220 [b]=some x1:=f1;obtain⟨x0a,x0b⟩:=x0;obtain⟨x1a,x1b⟩:=x1;simp only at hx0 hx1;subst hx0; subst hx1;obtain⟨c0,e0,_,hr⟩:=zkj Tryz.underlying239 Tryz.underlying220 za0 h2 f0;cases e0;obtain⟨z,e1,e2,_⟩:=DataW.trod_int Tryz.underlying220 f1;cases e1;simp only [bE,DataW.lit.injEq,Lit.int.injEq,true_and] at e2;refine⟨[a,.int .u8 z],rfl,rfl,λo ho=> ?_⟩;have g1:j2 p.1=p.2.1:=by simp [j2,h1]
     have g2:jw p.1=p.2.2:=by simp [jw,h1]
     match o,ho with
     | 0,_=>
      refine⟨a,rfl,?_⟩;show Rep E0 W (.sl (jL p.1) 1 λj _=>.int .u8 (qV p.1 j)) [] a;unfold jL qV;rw [g1];exact hr
     | 1,_=>
      refine⟨_,rfl,?_⟩;show Rep E0 W (.int .u8 (jw p.1)) [] _;simp only [Rep];rw [g2,e2.1]
  | _=>simp [Value.formed,Tryz.underlying241] at hf
 ·intro n hn;obtain⟨q',hq⟩:=zpo hn;exact⟨_,List.mem_map.2 ⟨_,hq,rfl⟩⟩
theorem zqm:Tryz.prog.globalNamed "novation/observable.shapes" = some 2:=by kernel_rfl
theorem zry:(Tryz.prog.globals[2]?).map (·.type)=some 243:=by kernel_rfl
theorem zpg:(Rows.laid_novation_observable_shapes:DataW Unit) = .map (shpE Unit):=rfl
theorem zvh:Tryz.prog.globalNamed "novation/contract.parts" = some 0:=by kernel_rfl
theorem zu3:(Tryz.prog.globals[0]?).map (·.type)=some 199:=by kernel_rfl
def prtE:List (Lit×DataW Unit):=[(.int .u8 1,.lit (.int .i64 0)),(.int .u8 2,.lit (.int .i64 15)),(.int .u8 3,.lit (.int .i64 256)),(.int .u8 4,.lit (.int .i64 136)),(.int .u8 5,.lit (.int .i64 272)),(.int .u8 6,.lit (.int .i64 160)),(.int .u8 7,.lit (.int .i64 261)),(.int .u8 8,.lit (.int .i64 197)),(.int .u8 9,.lit (.int .i64 208)),(.int .u8 10,.lit (.int .i64 208))]
theorem zmj:(Rows.laid_novation_contract_parts:DataW Unit) = .map prtE:=rfl
abbrev Xr:List (String×DataW Unit):=[("novation/observable.shapes",Rows.laid_novation_observable_shapes),("novation/observable.operations",Rows.laid_novation_observable_operations),("novation/contract.parts",Rows.laid_novation_contract_parts)]
theorem zgr{W:World}{cs:List Value}{fuel:Nat}{q:List MemPlace}{c:Value}(hc:W.cell? ⟨0,0,none⟩=some c)
  (h:DataW.trod (λ_=>()) Tryz.prog W 0 (λ_=>true) false fuel 199 [c]=some (.map prtE,q)) :
  Rep E0 W (.mp .u8 false 1 [] (λk=>decide (1<=k/\k<=10)) λk _=>.i (kY k)) [] c/\∀ b,c = .map (some b)->b<W.heap.size:=by
 refine XR (g:=0) rfl Tryz.underlying199 Tryz.underlying5 hc (by decide) h ?_ ?_
 ·intro n d hd
  have one:∀ {v:Value} {m:Nat} {q:List MemPlace} {z:Int},v.formed Tryz.prog 3=true->DataW.trod (λ_=>()) Tryz.prog W 0 (λ_=>true) false m 3 v.cells.toList=some (.lit (.int .i64 z),q)->Rep E0 W (.i z) [] v:=by
   intro v m q z hf ht
   have hcell:v.cells.toList=[v]:=by
    cases v with
    | agg _=>simp [Value.formed,Tryz.underlying3] at hf
    | _=>rfl
   rw [hcell] at ht;obtain⟨z',e1,e2,_⟩:=DataW.trod_int Tryz.underlying3 ht;cases e1;simp only [bE,DataW.lit.injEq,Lit.int.injEq,true_and] at e2;simp only [Rep];rw [e2.1]
  simp only [prtE,aM,bE,Lit.int.injEq,true_and,List.not_mem_nil,or_false] at hd;rcases hd with ⟨rfl,rfl⟩ | ⟨rfl,rfl⟩ | ⟨rfl,rfl⟩ | ⟨rfl,rfl⟩ | ⟨rfl,rfl⟩ | ⟨rfl,rfl⟩ | ⟨rfl,rfl⟩ | ⟨rfl,rfl⟩ | ⟨rfl,rfl⟩ | ⟨rfl,rfl⟩<;>exact⟨rfl,λv m q hf ht=>one hf ht⟩
 ·intro n hn;have hn:=aB hn;have:n=1\/n=2\/n=3\/n=4\/n=5\/n=6\/n=7\/n=8\/n=9\/n=10:=by omega
  rcases this with rfl | rfl | rfl | rfl | rfl | rfl | rfl | rfl | rfl | rfl<;>exact⟨_,by unfold prtE; simp; rfl⟩
theorem zle{W:World} (h:laidMet Tryz.prog [("novation/observable.shapes",Rows.laid_novation_observable_shapes),("novation/contract.parts",Rows.laid_novation_contract_parts)] W):(∃ c,W.cell? ⟨2,0,none⟩=some c /\
  Rep E0 W (.mp .u8 true 2 [] (λk=>j6 k) λk o=>match o with
   | 0=>.sl (jL k) 1 λj _=>.int .u8 (qV k j)
   | _=>.int .u8 (jw k)) [] c/\∀ b,c = .map (some b)->b<W.heap.size)/\∃ c,W.cell? ⟨0,0,none⟩=some c /\
  Rep E0 W (.mp .u8 false 1 [] (λk=>decide (1<=k/\k<=10)) λk _=>.i (kY k)) [] c/\∀ b,c = .map (some b)->b<W.heap.size:=by
 obtain⟨ps,⟨g0,t0,cs0,f0,p0,q0,hg0,ht0,hv0,hd0,hr0,_⟩,_,_⟩:=h;obtain⟨g1,t1,cs1,f1,p1,q1,hg1,ht1,hv1,hd1,_,_⟩:=hr0;obtain rfl:=Option.some.inj (zqm.symm.trans hg0);obtain rfl:=Option.some.inj (zry.symm.trans ht0);obtain rfl:=Option.some.inj (zvh.symm.trans hg1);obtain rfl:=Option.some.inj (zu3.symm.trans ht1);rw [zpg] at hd0;rw [zmj] at hd1
 have hone:∃ c,cs0.toList=[c]:=by
  rcases Go.WideElems.open_map Tryz.underlying243 hd0 with ⟨hcs,_⟩ | ⟨b,es,clock,n,_,hcs,_⟩
  ·exact⟨_,hcs⟩
  ·exact⟨_,hcs⟩
 have hone1:∃ c,cs1.toList=[c]:=by
  rcases Go.WideElems.open_map Tryz.underlying199 hd1 with ⟨hcs,_⟩ | ⟨b,es,clock,n,_,hcs,_⟩
  ·exact⟨_,hcs⟩
  ·exact⟨_,hcs⟩
 obtain⟨c,hcs⟩:=hone;obtain⟨c',hcs'⟩:=hone1;rw [hcs] at hd0;rw [hcs'] at hd1
 have k1:W.cell? ⟨2,0,none⟩=some c:=by
  have:=World.var?_cell hg0 hv0 0;rw [Array.eq_one_of_toList hcs] at this;simpa using this
 have k2:W.cell? ⟨0,0,none⟩=some c':=by
  have:=World.var?_cell hg1 hv1 0;rw [Array.eq_one_of_toList hcs'] at this;simpa using this
 obtain⟨r1,b1⟩:=zb9 (cs:=[c]) k1 hd0;obtain⟨r2,b2⟩:=zgr (cs:=[c']) k2 hd1;exact⟨⟨c,k1,r1,b1⟩,c',k2,r2,b2⟩
theorem gOps:Tryz.prog.globalNamed "novation/observable.operations" = some 1:=by kernel_rfl
theorem tOps:(Tryz.prog.globals[1]?).map (·.type)=some 236:=by kernel_rfl
def opNm(b:L8):L8:=[40,42,110,111,118,97,116,105,111,110,47,111,98,115,101,114,118,97,98,108,101,46,115,116,97,116,101,41,46]++b
def opEs:List (Lit×DataW L8):=[(.int .u8 4,.held (opNm [97,100,100])),(.int .u8 5,.held (opNm [115,117,98])),(.int .u8 6,.held (opNm [109,117,108])),(.int .u8 7,.held (opNm [103,114,101,97,116,101,114])),(.int .u8 8,.held (opNm [115,109,97,108,108,101,114]))]
def opsD:DataW Unit:=.map [(.int .u8 4,.iface "func" (.lit (.string (opNm [97,100,100])))),(.int .u8 5,.iface "func" (.lit (.string (opNm [115,117,98])))),(.int .u8 6,.iface "func" (.lit (.string (opNm [109,117,108])))),(.int .u8 7,.iface "func" (.lit (.string (opNm [103,114,101,97,116,101,114])))),(.int .u8 8,.iface "func" (.lit (.string (opNm [115,109,97,108,108,101,114]))))]
theorem zrg:(Rows.laid_novation_observable_operations:DataW Unit) = .iface "func table" opsD:=rfl
theorem zm3:opsD.funcsOut = .map opEs:=rfl
theorem zqj{W:World}{cs:List Value}{fuel:Nat}{q:List MemPlace}{c:Value}(hc:W.cell? ⟨1,0,none⟩=some c)
  (h:DataW.trod (funcToken Tryz.prog) Tryz.prog W 0 (λ_=>true) true fuel 236 [c]=some (.map opEs,q)) :
  Rep E0 W (.mp .u8 false 1 [4,5,6,7,8] (λk=>decide (4<=k/\k<=8)) λk _=>
  if k=4 then .fn 201 [] [] else if k=5 then .fn 202 [] [] else if k=6 then .fn 203 [] []
  else if k=7 then .fn 204 [] [] else .fn 205 [] []) [] c/\∀ b,c = .map (some b)->b<W.heap.size:=by
 refine XR (g:=1) rfl Tryz.underlying236 Tryz.underlying5 hc (by decide) h ?_ ?_
 ·intro n d hd
  have one:∀ {v:Value} {m:Nat} {q:List MemPlace} {bs:L8} {f0:Nat},((List.range Tryz.prog.funcs.size).filter λf=>(Tryz.prog.funcs[f]?).any (·.name.toUTF8.data.toList == 40::bs))=[f0] ->
    v.formed Tryz.prog 235=true->DataW.trod (funcToken Tryz.prog) Tryz.prog W 0 (λ_=>true) true m 235 v.cells.toList=some (.held (40::bs),q)->Rep E0 W (.fn f0 [] []) [] v:=by
   intro v m q bs f0 hone hf ht
   have hcell:v.cells.toList=[v]:=by
    cases v with
    | agg _=>simp [Value.formed,Tryz.underlying235] at hf
    | _=>rfl
   rw [hcell] at ht;have:=func_of_trod Tryz.underlying235 hone ht;subst this;simp [Rep,RepL]
  simp only [opEs,aM,bE,Lit.int.injEq,true_and,List.not_mem_nil,or_false] at hd;rcases hd with ⟨rfl,rfl⟩ | ⟨rfl,rfl⟩ | ⟨rfl,rfl⟩ | ⟨rfl,rfl⟩ | ⟨rfl,rfl⟩
  ·exact⟨rfl,λv m q hf ht=>one (f0:=201) (by kernel_rfl) hf ht⟩
  ·exact⟨rfl,λv m q hf ht=>one (f0:=202) (by kernel_rfl) hf ht⟩
  ·exact⟨rfl,λv m q hf ht=>one (f0:=203) (by kernel_rfl) hf ht⟩
  ·exact⟨rfl,λv m q hf ht=>one (f0:=204) (by kernel_rfl) hf ht⟩
  ·exact⟨rfl,λv m q hf ht=>one (f0:=205) (by kernel_rfl) hf ht⟩
 ·intro n hn;have hn:=aB hn;have:n=4\/n=5\/n=6\/n=7\/n=8:=by omega
  rcases this with rfl | rfl | rfl | rfl | rfl
  ·exact⟨_,.head _⟩
  ·exact⟨_,.tail _ (.head _)⟩
  ·exact⟨_,.tail _ (.tail _ (.head _))⟩
  ·exact⟨_,.tail _ (.tail _ (.tail _ (.head _)))⟩
  ·exact⟨_,.tail _ (.tail _ (.tail _ (.tail _ (.head _))))⟩
theorem zq5{W:World}(h:laidMetH Tryz.prog Xr W):k9 E0 W:=by
 have h1:laidMet Tryz.prog [("novation/observable.shapes",Rows.laid_novation_observable_shapes),("novation/contract.parts",Rows.laid_novation_contract_parts)] W:=h.1;have h2:=laidMetH.funcs h (n:= "novation/observable.operations") (d:=opsD) (by simp [Xr,zrg]);obtain⟨⟨c1,k1,r1,b1⟩,c3,k3,r3,b3⟩:=zle h1;obtain⟨g0,t0,cs0,f0,p0,hg0,ht0,hv0,hd0⟩:=h2;obtain rfl:=Option.some.inj (gOps.symm.trans hg0);obtain rfl:=Option.some.inj (tOps.symm.trans ht0);rw [zm3] at hd0
 have hone:∃ c,cs0.toList=[c]:=by
  rcases Go.WideElems.open_map Tryz.underlying236 hd0 with ⟨hcs,_⟩ | ⟨b,es,clock,n,_,hcs,_⟩
  ·exact⟨_,hcs⟩
  ·exact⟨_,hcs⟩
 obtain⟨c2,hcs⟩:=hone;rw [hcs] at hd0
 have k2:W.cell? ⟨1,0,none⟩=some c2:=by
  have:=World.var?_cell hg0 hv0 0;rw [Array.eq_one_of_toList hcs] at this;simpa using this
 obtain⟨r2,b2⟩:=zqj (cs:=[c2]) k2 hd0;refine⟨λg a hz=>⟨za2 _,?_⟩⟩;by_cases hg:g=2
 ·subst hg;cases hz;exact⟨c1,k1,r1,b1⟩
 ·by_cases hg2:g=1
  ·subst hg2;cases hz;exact⟨c2,k2,r2,b2⟩
  ·by_cases hg3:g=0
   ·subst hg3;cases hz;exact⟨c3,k3,r3,b3⟩
   ·have:Stat.z g=none:=by
     show(if _ then _ else if _ then _ else if _ then _ else _)=_;rw [aO hg,aO hg3,aO hg2]
    rw [this] at hz; cases hz
theorem walk{W:World}{v0 v1 v2 v3 v4:List Value}(h0:Tw Tryz.prog W 24 v0)(h1:Tw Tryz.prog W 53 v1)(h2:Tw Tryz.prog W 4 v2)(h3:Tw Tryz.prog W 3 v3)(h4:Tw Tryz.prog W 28 v4)(hst:k9 E0 W) :
  ∃ s1:Value,v1=[s1]/\∃ s2:Value,v2=[s2]/\∃ s3:Value,v3=[s3]/\Calls Tryz.prog 4 #[.agg v0.toArray,s1,s2,s3,.agg v4.toArray] W λe W'=>e = .returned (.bool true)/\Below W.heap.size W W':=by
 obtain⟨d,dg,dr⟩:=zin h0;obtain⟨s1,l,rfl,lg,lr⟩:=zn8 h1;obtain⟨floor,rfl,floorg,floorr⟩:=zjh h2;obtain⟨from_,rfl,from_g,from_r⟩:=zpt h3;obtain⟨v,vg,vr⟩:=zs3 h4;refine⟨_,rfl,?_⟩;refine⟨_,rfl,?_⟩;refine⟨_,rfl,?_⟩;refine zi9 (fn:=Tryz.f4) (c:=Tryz.f4.body.getD .skip) rfl rfl rfl zl3 (args:=[d.av,perS l,.bool floor,.i from_,envA v.1 v.2]) (vals:=[.agg v0.toArray,s1,.bool floor,.i from_,.agg v4.toArray]) ?_ ?_ hst
 ·refine⟨⟨d,l,floor,from_,v.1,v.2⟩,⟨?_,⟨by show l.length<_; omega,vg⟩⟩,⟨true,rfl⟩,?_⟩
  ·simp [eqL,eqA,eqA0,eqL0,envA,fxS,chS,Fx.av,Ch.av,Ex.exA,Ex.exS,Deal.av,perS,Con.dayS,za]
  ·rintro _ rfl;rfl
 ·exact⟨_,_,rfl,dr,⟨_,_,rfl,lr,⟨_,_,rfl,floorr,⟨_,_,rfl,from_r,⟨_,_,rfl,vr,rfl⟩⟩⟩⟩⟩
theorem own:ownKnob Tryz.prog.godebug=none:=by kernel_rfl
theorem laid:laidOutB Tryz.prog=true:=by kernel_rfl
theorem zj8(os:Os)(args:Array Value):laidMetH Tryz.prog Xr ((World.doorLaid Tryz.prog 400 os).forCall (λ_ _=>0) ⟨#[],args,[]⟩).memory:=
 laidMetH_of_parts3 (fuel:=8) (laidMet_of_run' 8 (by kernel_rfl) (by kernel_rfl)) (by kernel_rfl) (by kernel_rfl)
theorem lifted(os:Os)(started:os.Started)(H:Type)(enc:TypeId×Value->H) :
  ReturnsInHanded {} Tryz.checked os 4 .any (λw args=>(Rows.templateLegsPaySpec.pre enc Tryz.prog Tryz.f4 [] false w args/\laidMetH Tryz.prog Xr w)/\sizedMet enc Tryz.prog Tryz.f4 (OpenSpec.ofChange Rows.templateLegsPaySpec) false w args)
   (Rows.templateLegsPaySpec.post enc Tryz.prog Tryz.f4 false true false false):=by
 refine returnsInHanded_of_change_and (C:=Tryz.checked) (X:=λw _=>laidMetH Tryz.prog Xr w) (λ_ _ _ hh h=>h.of_heap hh) own started (by kernel_rfl) Tryz.func4
  (ChangeSpec.witness_shaped (enc:=enc) (C:=Tryz.checked) (os:=os) (X:=λw _=>laidMetH Tryz.prog Xr w) false (World.doorLaid Tryz.prog 400 os) #[.agg #[.string ⟨#[]⟩,.string ⟨#[]⟩,.string ⟨#[]⟩,.string ⟨#[]⟩,.string ⟨#[]⟩,.string ⟨#[]⟩],.slice none 0 0,.bool false,.i 0,.agg #[.slice none 0 0,.slice none 0 0]] 8 rfl (World.shaped_of_RefB (by kernel_rfl) (by kernel_rfl)) (by kernel_rfl) (by kernel_rfl) (by kernel_rfl) (zj8 os _)) ?_
 intro W base args ds gs before hval0 hW hcnd hwt hL _;have hval:∀ (j:Nat) t v,Tryz.f4.params[j]?=some t->args[j]?=some v->Value.okWide Tryz.prog W .any base t v:=hval0;have hW':=hW;obtain⟨p,q,hA0,hV,rfl,hfz,hnd⟩:=hW;have hA:DataW.TrodAll enc Tryz.prog W 0 (λ_=>true) true Tryz.f4.params.toList args.toList ds p:=hA0;rw [Tryz.params4] at hA hval;obtain⟨v0,vs0,d0,ds0,p0,q0,hargs,rfl,rfl,h0,r0⟩:=trodAll_cons hA;obtain⟨v1,vs1,d1,ds1,p1,q1,rfl,rfl,rfl,h1,r1⟩:=trodAll_cons r0;obtain⟨v2,vs2,d2,ds2,p2,q2,rfl,rfl,rfl,h2,r2⟩:=trodAll_cons r1;obtain⟨v3,vs3,d3,ds3,p3,q3,rfl,rfl,rfl,h3,r3⟩:=trodAll_cons r2;obtain⟨v4,vs4,d4,ds4,p4,q4,rfl,rfl,rfl,h4,r4⟩:=trodAll_cons r3;obtain⟨rfl,rfl,rfl⟩:=trodAll_nil r4;obtain rfl:args = #[v0,v1,v2,v3,v4]:=by cases args; simp_all
 obtain⟨rfl,rfl⟩:=trodVars_none hV;clear hA0 hval0;simp only [List.append_nil] at hW' hwt
 have hw:∀ (j:Nat) (t:TypeId) (d:DataW H),[24,53,4,3,28][j]?=some t->[d0,d1,d2,d3,d4][j]?=some d->∀ n∈d.weights Tryz.prog t,n<=reachBytes:=λj t d ht hd n hn=>by
  have:=bG.1 hwt n (DataW.weights_mem_each (j:=j) (t:=t) (d:=d) (by exact ht) (by exact hd) n hn);simpa using this
 obtain⟨c0,rfl,_⟩:=okWide_struct Tryz.underlying24 (hval 0 24 v0 rfl rfl);obtain⟨a1,l1,k1,rfl⟩:=okWide_slice Tryz.underlying53 (hval 1 53 v1 rfl rfl);obtain⟨c2,rfl⟩:=okWide_bool Tryz.underlying4 (hval 2 4 v2 rfl rfl);obtain⟨c3,rfl⟩:=okWide_int Tryz.underlying3 (hval 3 3 v3 rfl rfl);obtain⟨c4,rfl,_⟩:=okWide_struct Tryz.underlying28 (hval 4 28 v4 rfl rfl)
 have t0:Tw Tryz.prog W 24 c0.toList:=by
  obtain⟨fuel,hf⟩:=h0;exact⟨H,enc,0,fuel,d0,p0,by simpa [Value.cells] using hf,hw 0 _ d0 rfl rfl⟩
 have t1:Tw Tryz.prog W 53 [.slice a1 l1 k1]:=by
  obtain⟨fuel,hf⟩:=h1;exact⟨H,enc,0,fuel,d1,p1,by simpa [Value.cells] using hf,hw 1 _ d1 rfl rfl⟩
 have t2:Tw Tryz.prog W 4 [.bool c2]:=by
  obtain⟨fuel,hf⟩:=h2;exact⟨H,enc,0,fuel,d2,p2,by simpa [Value.cells] using hf,hw 2 _ d2 rfl rfl⟩
 have t3:Tw Tryz.prog W 3 [.i c3]:=by
  obtain⟨fuel,hf⟩:=h3;exact⟨H,enc,0,fuel,d3,p3,by simpa [Value.cells] using hf,hw 3 _ d3 rfl rfl⟩
 have t4:Tw Tryz.prog W 28 c4.toList:=by
  obtain⟨fuel,hf⟩:=h4;exact⟨H,enc,0,fuel,d4,p4,by simpa [Value.cells] using hf,hw 4 _ d4 rfl rfl⟩
 have hlt:∀ x∈p0++(p1++(p2++(p3++p4))),x.block<W.heap.size:=λx hx=>by simpa using hW'.lt x (by simpa using hx)
 obtain⟨s1,e1,s2,e2,s3,e3,hcall⟩:=walk t0 t1 t2 t3 t4 (zq5 hL);cases e1;cases e2;cases e3;simp only [Array.toArray_toList] at hcall;refine hcall.mono λe W' ⟨he,hb⟩=> ?_
 subst he;refine⟨_,rfl,_,_,_,[],p0++(p1++(p2++(p3++p4))),[],hW',trodAll_mk1 (shut_bool Tryz.underlying4 true),?_,rfl,hb.frame _,λh=>by cases h⟩;have H:=trodAll_cons_mk (Below.trod laid (by kernel_rfl) (aB (by kernel_rfl)) h0 hb λx hx=>hlt x (by simp [hx])) (trodAll_cons_mk (Below.trod laid (by kernel_rfl) (aB (by kernel_rfl)) h1 hb λx hx=>hlt x (by simp [hx])) (trodAll_cons_mk (Below.trod laid (by kernel_rfl) (aB (by kernel_rfl)) h2 hb λx hx=>hlt x (by simp [hx])) (trodAll_cons_mk (Below.trod laid (by kernel_rfl) (aB (by kernel_rfl)) h3 hb λx hx=>hlt x (by simp [hx])) (trodAll_cons_mk (Below.trod laid (by kernel_rfl) (aB (by kernel_rfl)) h4 hb λx hx=>hlt x (by simp [hx])) (trodAll_mk0)))));simp only [List.append_nil] at H;exact H
theorem over:Rows.templateLegsPayRow.holds Tryz.pinned (OpenSpec.ofChange Rows.templateLegsPaySpec):=
 OpenClaim.holds_of_wide 4 Tryz.f4 rfl rfl rfl rfl rfl rfl rfl ⟨rfl,rfl,rfl,rfl,rfl⟩ rfl rfl rfl rfl rfl (by kernel_rfl) Tryz.func4 (by kernel_rfl)
  (aB (by kernel_rfl)) (by unfold Func.isWrapper; first | (rw [aP (by decide +kernel)]; kernel_rfl) | (rw [aO (by decide +kernel)]; exact⟨rfl,rfl⟩))
  (λos started H enc _=>lifted os started H enc)
theorem yy:Rows.TemplateLegsPaySaid:=over
theorem templateLegsPay_holds:Rows.TemplateLegsPayCardSaid:=
 Claim7.holds_tied_plain_at .later [] [.mappedDeep,.funcs,.mapped] true (true, "47370d2515ba6a51d1609e58d5aa5405615658d069b08cae6c05f31fd91428f6") true
  yy (λ_ h=>by cases h) (by kernel_rfl) (λ_ h=>by cases h) templateLegsPay_row_tie rfl ⟨rfl,rfl⟩ (by kernel_rfl) rfl
  (λf fn hf hfn=>by
   obtain rfl:f=4:=Option.some.inj ((show Tryz.prog.funcNamed "novation/novationlaw16.TemplateLegsPay" = some 4 by kernel_rfl).symm.trans hf) |>.symm;obtain rfl:fn=Tryz.f4:=(Option.some.inj (Tryz.func4.symm.trans hfn)).symm
   exact⟨by kernel_rfl,λj t ht=>by
    rw [Tryz.params4] at ht;have hm:t∈[24,53,4,3,28]:=by simpa using Array.mem_of_getElem? ht
    have hall:([24,53,4,3,28].all λu=> !Tryz.prog.wantsStandIn u)=true:=by kernel_rfl
    exact(show Tryz.prog.wantsStandIn t=false by simpa using bG.1 hall t hm)⟩)
  (by kernel_rfl)
end Go.Proofs.YtpnllbdffdpoaaaGreatDoor
end
