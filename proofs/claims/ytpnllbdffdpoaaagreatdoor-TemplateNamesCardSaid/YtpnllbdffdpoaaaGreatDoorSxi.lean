/- Part 9 of the proof. -/
import Derived.Test.YtpnllbdffdpoaaaGreatDoorSxb
import Derived.Test.YtpnllbdffdpoaaaGreatDoorSxh
set_option linter.unusedVariables false
set_option linter.unusedSimpArgs false
set_option linter.unusedSectionVars false
section
set_option maxRecDepth 100000
open Go Go.Sx Go.Proofs Go.Nov
namespace Go.Proofs.Tryz
attribute [local simp] eqKV eqA eqA0 eqH eqB eqL eqL0
def Bar.con(c:Con)(n:L8)(days:List Int)(r:L8)(up inn:Bool):Con:=.mk (if inn=true then 10 else 9) [] [] [] (Tm.opx 15 [Tm.opx 11 (if up=true then [Tm.spot n,Tm.kon r] else [Tm.kon r,Tm.spot n])]) 0 days [c]
def Bar.res(r:L8)(b:Con):Int:=if errR r=0 then b.errC else errR r
structure BarA where
 c:Con
 n:L8
 days:List Int
 r:L8
 up:Bool
 inn:Bool
def BarA.con(p:BarA):Con:=Bar.con p.c p.n p.days p.r p.up p.inn
def BarA.ok(p:BarA):Prop:=p.c.big<4000000/\p.c.nodes<=900000/\p.n.length<=200/\p.days.length<=200/\p.r.length<=2500
def barC:Ctr:=ctrP false (λp:BarA=>[p.c.conD,.str p.n,Con.dayS p.days,.str p.r,.bool p.up,.bool p.inn]) BarA.ok (λ_ (_:Unit)=>True) (λp _=>(.tup [(Tm.out (Bar.res p.r p.con) p.con).conD,.i (Bar.res p.r p.con)],[]))
noncomputable def GTn1:=tb kW (tb vX tz)
def SNb1(l:List L8)(i:Nat):KV:=[(0,.ptr 0 0),(6,.osl 1 1 0 l.length),(7,.i (l.length:Int)),(8,.i (i:Int))]
def Ue:Ctr:=ctrT false false (λp:Int×List (L8)=>[.ptr 0 0,.osl 1 1 0 p.2.length]) (λp=>[.box [.i p.1],.arr p.2.length 1 (ratG p.2)]) (λp=>p.2.length<2^40/\∀ r∈p.2,r.length<2^40) (λ_ (_:Unit)=>True) (λp _=>(.tup [],[.box [.i (Tm.first p.1 p.2)],.arr p.2.length 1 (ratG p.2)]))
theorem za0:zg prog 53 Ue:=by
 refine zD (fn:=f53) (c:=f53.body.getD .skip) rfl rfl rfl (λh=>by cases h) λp hp O w0 I0 Q hl0 hq=> ?_
 obtain⟨e,l⟩:=p;obtain⟨hl,hr⟩:=hp;replace hq:=hq () trivial;simp only at hl hr hq;refine zd.n GTn1.h [0,6,7,8] (.leaf (.loop (lps K53 0).1 (lps K53 0).2 [(0,.ptr 0 0),(6,.osl 1 1 0 l.length),(7,.i l.length),(8,.i 0)] [.box [.i e],.arr l.length 1 (ratG l)])) ?_;simp only [Tree.holds,zh,inR,lo,hi,aD];show zN none prog f53 O 2 w0 I0 _ _ _ _;refine zd.loop (ι:={i:Nat // i<=l.length}) (λi=>SNb1 l i.1) (λi=>[.box [.i (Tm.first e (l.take i.1))],.arr l.length 1 (ratG l)]) (λi=>l.length - i.1) ⟨0,aI _⟩ 0 ?_ ?_ (by kernel_rfl)
 ·exact⟨by simp [SNb1],by simp [Tm.first,za],by kernel_rfl,aJ _⟩
 ·rintro⟨i,hil⟩;obtain⟨e',he'⟩:∃ e',Tm.first e (l.take i)=e':=⟨_,rfl⟩;simp only [he'];refine zd.n GTn1.h [0,6,7,8] (let v3:=inR .i64 (i+1);let v2:List Blk:=[.box [.i e'],.arr l.length 1 (ratG l)];let v1:List (Nat×AV):=[(0,.ptr 0 0),(6,.osl 1 1 0 l.length),(7,.i l.length),(8,.i (i+1))];.D ((i:Int)<l.length) (.side ((0:Int)<=i/\(i:Int)<l.length) (.ex (q15 [.str (l.getD (0+Int.toNat i) [])]) λn=>.all (λ(r:Int)=>r=errR n) λn=>.D (e'=(0:Int)) (.side v3 (.leaf (.back 0 v1 [.box [.i n],.arr l.length 1 (ratG l)]))) (.side v3 (.leaf (.back 0 v1 v2))))) (.R [] v2)) ?_;simp only [q15,Tree.holds,zh,inR,lo,hi,aD];refine⟨λhlt=> ?_,λhge=> ?_⟩
  ·have hlt:i<l.length:=by have:=aB hlt; omega
   have ht:=Tm.xo (e:=e) hlt;rw [he'] at ht;have hrl:=hr (l.getD i []) (by simp [List.getD,hlt]);refine⟨by omega,λ_=>⟨l.getD i [],⟨by simp,by omega⟩,⟨_,rfl⟩,?_⟩⟩;rintro _ rfl;refine⟨λh=>⟨by omega,λ_=> ?_⟩,λh=>⟨by omega,λ_=> ?_⟩⟩
   ·rw [aP (aB h)] at ht;rw [aP trivial];exact⟨⟨i+1,hlt⟩,by show l.length - (i+1)<l.length - i; omega,by simp [SNb1],by simp [ht,za],by kernel_rfl,aJ _⟩
   ·rw [aO (aC h)] at ht;rw [aP trivial];exact⟨⟨i+1,hlt⟩,by show l.length - (i+1)<l.length - i; omega,by simp [SNb1],by simp [ht,za],by kernel_rfl,aJ _⟩
  ·have hge:i=l.length:=by have:=aC hge; omega
   rw [hge,bD] at he';rw [he'] at hq;exact RetR.keep [0,1] rfl rfl (by show ∀ j,j<2->_; decide) rfl hq (by simp [resV,exp2,exp1,exp0,ren0,eqA2,eqL1]) (by simp [expH,expB,exp1,exp0,ren0,za]) rfl
noncomputable def LBa:List Go.Sx.Item:=ju 12 (f24.body.getD .skip)
noncomputable def LBa2:List Go.Sx.Item:=LBa.drop 7
def SBa(days:List Int)(k:Int):KV:=[(2,Con.dayS days),(6,.ptr 0 0),(12,.ptr 1 0),(13,.i 0),(14,.ptr 2 0),(15,.ptr 4 0),(16,.ptr 5 0),(17,.int .u8 k)]
def HBa(c:Con)(e:Int)(r:L8)(x y:Ex):Heap:=[.box c.zc,.box [.int .u8 0,.str [],.str [],.str [],.int .u8 0,.str [],.str [],.i 0,.nils,.i 0,.nils,.nils],.box [.i e],.arr 1 1 (ratG [r]),.box x.cellsD,.box y.cellsD]
theorem Ex.uV(e:Ex):eqG 1 5 (zf (zj 5 e.cellsD) 0) (Ex.exG [e]):=by
 intro j o hj ho;rcases(show j=0 by omega) with rfl;simp only [zf,zj,Nat.zero_add];rcases(show o=0\/o=1\/o=2\/o=3\/o=4 by omega) with rfl | rfl | rfl | rfl | rfl<;>rfl
noncomputable def GBr:=tb za0 (tb uT (tb UF (tb Jh tz)))
theorem zqk:zg prog 24 barC:=by
 refine zm' f24 λp hp O w0 Q hq=> ?_
 obtain⟨c,n,days,r,up,inn⟩:=p;replace hq:=hq () trivial;obtain⟨h1,h2,h3,h4,h5⟩:=hp;simp only [BarA.con] at h1 h2 h3 h4 h5 hq;refine zd.spine 12 ?_;refine zd.cutL (ι:=Unit) LBa 7 0 (λ_=>SBa days (if inn=true then 10 else 9)) (λ_=>HBa c (errR r) r (if up=true then Tm.spot n else Tm.kon r) (if up=true then Tm.kon r else Tm.spot n)) (by kernel_rfl) (by kernel_rfl) ?_ λ_=> ?_
 ·refine zd.n GBr.h [2,6,12,13,14,15,16,17] (let v6:List AV:=[.int .u8 3,.str #[].toList,.str n,.i 0,.nils];let v5:List (Nat×AV):=[(2,.sl days.length 1 (Con.dayG days)),(6,.ptr 0 0),(12,.ptr 1 0),(13,.i 0),(14,.ptr 2 0),(15,.ptr 4 0),(16,.ptr 5 0),(17,.int .u8 9)];let v4:List (Nat×AV):=[(2,.sl days.length 1 (Con.dayG days)),(6,.ptr 0 0),(12,.ptr 1 0),(13,.i 0),(14,.ptr 2 0),(15,.ptr 4 0),(16,.ptr 5 0),(17,.int .u8 10)];let v1:List AV:=[.int .u8 0,.str #[].toList,.str #[].toList,.str #[].toList,.int .u8 0,.str #[].toList,.str #[].toList,.i 0,.nils,.i 0,.nils,.nils];.ex (λ(x:Int×List L8)=>eqL [.ptr 0 0,.osl 1 1 0 1] [.ptr 0 0,.osl 1 1 0 x.2.length]/\eqH [.box [.i 0],.arr 1 1 (zj 1 [.str r])] [.box [.i x.1],.arr x.2.length 1 (ratG x.2)]/\2=2/\x.2.length<1099511627776/\∀ (r:L8),r∈x.2->r.length<1099511627776) λn_1=>.A λn_2=>.ex (q32 [.str r]) λn_3=>let v3:List Blk:=[.box (Con.zc c),.box v1,.box [.i (Tm.first n_1.1 n_1.2)],.arr n_1.2.length 1 (ratG n_1.2),.box (Ex.cellsD (Tm.kon n_3)),.box v6];let v2:List Blk:=[.box (Con.zc c),.box v1,.box [.i (Tm.first n_1.1 n_1.2)],.arr n_1.2.length 1 (ratG n_1.2),.box v6,.box (Ex.cellsD (Tm.kon n_3))];.A λn_4=>.ite up (.ite inn (.leaf (.back 0 v4 v2)) (.leaf (.back 0 v5 v2))) (.ite inn (.leaf (.back 0 v4 v3)) (.leaf (.back 0 v5 v3)))) ?_;simp only [q32,Tree.holds,zh];refine⟨(0,[r]),⟨by simp,by simp [KC],trivial,by show 1<2^40; decide,λr' hr=>by simp at hr; subst hr; omega⟩,⟨(),trivial⟩,λ_ _=>⟨r,⟨⟨rfl,trivial⟩,trivial⟩,⟨(),trivial⟩,λ_ _=>⟨?_,?_⟩⟩⟩
  all_goals
   intro hu;subst hu;refine⟨?_,?_⟩
   all_goals
    intro hu;subst hu;rw [aP trivial]
    first
     | exact⟨(),by simp [SBa,Con.dayS,za],⟨zk _,zk _,⟨⟨rfl,rfl⟩,trivial⟩,zk _,⟨⟨rfl,rfl⟩,rfl,rfl,⟨rfl,rfl⟩,rfl,trivial⟩,zk _,trivial⟩,by kernel_rfl,aI _⟩
     | exact⟨(),by simp [SBa,Con.dayS,za],⟨zk _,zk _,⟨⟨rfl,rfl⟩,trivial⟩,zk _,zk (.box (Tm.kon r).cellsD),⟨⟨rfl,rfl⟩,rfl,rfl,⟨rfl,rfl⟩,rfl,trivial⟩,trivial⟩,by kernel_rfl,aI _⟩
 show zN none prog f24 O 0 w0 [] _ _ LBa2 _
 have hbig:(Bar.con c n days r up inn).big<5000000:=by
  cases up<;>simp only [Bar.con,Con.big,Con.bigs,Tm.opx,Tm.spot,Tm.kon,Ex.size,Ex.zz,Ex.z9,Ex.zY,List.length_nil,aL,aP,Bool.false_eq_true,if_false]<;>omega
 have hn:(Bar.con c n days r up inn).nodes<=1000000:=by
  simp only [Bar.con,Con.nodes,Con.zu]; omega
 have hb:∃ b,Bar.con c n days r up inn=b:=⟨_,rfl⟩;obtain⟨b,hb⟩:=hb
 have hb':b = .mk (if inn=true then(10:Int) else 9) [] [] [] (Tm.opx 15 [Tm.opx 11 [if up=true then Tm.spot n else Tm.kon r,if up=true then Tm.kon r else Tm.spot n]]) 0 days [c]:=by
  rw [<- hb]; cases up<;>rfl
 rw [hb] at hbig hn hq;obtain⟨e,he0⟩:∃ e,errR r=e:=⟨_,rfl⟩;unfold Bar.res at hq;simp only [he0] at hq ⊢;generalize hk:(if inn=true then(10:Int) else 9)=k;generalize hx:(if up=true then Tm.spot n else Tm.kon r)=x;generalize hy:(if up=true then Tm.kon r else Tm.spot n)=y;refine zd.n GBr.h [] (let v30:=decide (e=0);let v29:=Con.dayG days;let v16:List AV:=[.i e];let v15:=zf (zj 12 (Con.zc c)) 0;let v14:=Ex.cellsD y;let v13:=Ex.cellsD x;let v12:=q34 [.int .u8 11,.sl 2 5 (zf (zj 5 [.int .u8 x.kind,.str x.rat,.str x.name,.i x.date,.sl x.sub.length 5 x.deep,.int .u8 y.kind,.str y.rat,.str y.name,.i y.date,.sl y.sub.length 5 y.deep]) 0)];let v1:List AV:=[.int .u8 0,.str #[].toList,.str #[].toList,.str #[].toList,.int .u8 0,.str #[].toList,.str #[].toList,.i 0,.nils,.i 0,.nils,.nils];let v17:List AV:=[.agg v1,.i e];.all (λ(x:Bool)=>True) λn=>.ite n (.all (λ(x:Bool)=>True) λn=>.ite n (.ex v12 λn=>let v23:=q34 [.int .u8 15,.sl 1 5 (zf (zj 5 (Ex.cellsD (Tm.opx n.1 n.2))) 0)];.A λn_1=>.all (λ(x:Bool)=>True) λn_2=>.ite n_2 (.all (λ(x:Bool)=>True) λn_3=>.ite n_3 (.ex v23 λn=>let v18:=Tm.opx n.1 n.2;let v7:=[AV.agg [.int .u8 k,.str #[].toList,.str #[].toList,.str #[].toList,.int .u8 (Ex.kind v18),.str (Ex.rat v18),.str (Ex.name v18),.i (Ex.date v18),.sl (List.length (Ex.sub v18)) 5 (Ex.deep v18),.i 0,.sl days.length 1 v29,.sl 1 12 v15]];let v2:List AV:=[.int .u8 k,.str #[].toList,.str #[].toList,.str #[].toList,.int .u8 (Ex.kind v18),.str (Ex.rat v18),.str (Ex.name v18),.i (Ex.date v18),.sl (List.length (Ex.sub v18)) 5 (Ex.deep v18),.i 0,.sl days.length 1 v29,.sl 1 12 v15];let v24:qe:=.ret v17 [.box (Con.zc c),.box v1,.box v16,.arr 1 1 (ratG [r]),.box v13,.box v14,.dead,.dead,.dead,.box v2,.box v1];.A λn_4=>.ite v30 (.ex (q31 v7) λn_5=>.all (λ(r:Int)=>r=Con.errC n_5) λn_6=>.ite v30 (.N (n_6=0) (.R [.agg v1,.i n_6] [.box (Con.zc c),.box v1,.box [.i n_6],.arr 1 1 (ratG [r]),.box v13,.box v14,.dead,.dead,.dead,.box v2,.box v1]) (.ex (q37 v7) λn_7=>.A λn_8=>.R [(Con.conD n_7),.i 0] [.box (Con.zc c),.box (Con.zc n_7),.box [.i n_6],.arr 1 1 (ratG [r]),.box v13,.box v14,.dead,.dead,.dead,.box v2,.box (Con.zc n_7)])) (.N (e=0) (.leaf v24) (.ex (q37 v7) λn_7=>.A λn_8=>.R [(Con.conD n_7),.i 0] [.box (Con.zc c),.box (Con.zc n_7),.box v16,.arr 1 1 (ratG [r]),.box v13,.box v14,.dead,.dead,.dead,.box v2,.box (Con.zc n_7)]))) (.N (e=0) (.leaf v24) (.ex (q37 v7) λn_5=>.A λn_6=>.R [(Con.conD n_5),.i 0] [.box (Con.zc c),.box (Con.zc n_5),.box v16,.arr 1 1 (ratG [r]),.box v13,.box v14,.dead,.dead,.dead,.box v2,.box (Con.zc n_5)]))) (.ex v23 λn=>let v19:=Tm.opx n.1 n.2;let v8:=[AV.agg [.int .u8 k,.str #[].toList,.str #[].toList,.str #[].toList,.int .u8 (Ex.kind v19),.str (Ex.rat v19),.str (Ex.name v19),.i (Ex.date v19),.sl (List.length (Ex.sub v19)) 5 (Ex.deep v19),.i 0,.sl days.length 1 v29,.sl 1 12 v15]];let v3:List AV:=[.int .u8 k,.str #[].toList,.str #[].toList,.str #[].toList,.int .u8 (Ex.kind v19),.str (Ex.rat v19),.str (Ex.name v19),.i (Ex.date v19),.sl (List.length (Ex.sub v19)) 5 (Ex.deep v19),.i 0,.sl days.length 1 v29,.sl 1 12 v15];let v25:qe:=.ret v17 [.box (Con.zc c),.box v1,.box v16,.arr 1 1 (ratG [r]),.box v13,.box v14,.dead,.dead,.dead,.box v3,.box v1];.A λn_4=>.ite v30 (.ex (q31 v8) λn_5=>.all (λ(r:Int)=>r=Con.errC n_5) λn_6=>.ite v30 (.N (n_6=0) (.R [.agg v1,.i n_6] [.box (Con.zc c),.box v1,.box [.i n_6],.arr 1 1 (ratG [r]),.box v13,.box v14,.dead,.dead,.dead,.box v3,.box v1]) (.ex (q37 v8) λn_7=>.A λn_8=>.R [(Con.conD n_7),.i 0] [.box (Con.zc c),.box (Con.zc n_7),.box [.i n_6],.arr 1 1 (ratG [r]),.box v13,.box v14,.dead,.dead,.dead,.box v3,.box (Con.zc n_7)])) (.N (e=0) (.leaf v25) (.ex (q37 v8) λn_7=>.A λn_8=>.R [(Con.conD n_7),.i 0] [.box (Con.zc c),.box (Con.zc n_7),.box v16,.arr 1 1 (ratG [r]),.box v13,.box v14,.dead,.dead,.dead,.box v3,.box (Con.zc n_7)]))) (.N (e=0) (.leaf v25) (.ex (q37 v8) λn_5=>.A λn_6=>.R [(Con.conD n_5),.i 0] [.box (Con.zc c),.box (Con.zc n_5),.box v16,.arr 1 1 (ratG [r]),.box v13,.box v14,.dead,.dead,.dead,.box v3,.box (Con.zc n_5)])))) (.ex v23 λn=>let v20:=Tm.opx n.1 n.2;let v9:=[AV.agg [.int .u8 k,.str #[].toList,.str #[].toList,.str #[].toList,.int .u8 (Ex.kind v20),.str (Ex.rat v20),.str (Ex.name v20),.i (Ex.date v20),.sl (List.length (Ex.sub v20)) 5 (Ex.deep v20),.i 0,.sl days.length 1 v29,.sl 1 12 v15]];let v4:List AV:=[.int .u8 k,.str #[].toList,.str #[].toList,.str #[].toList,.int .u8 (Ex.kind v20),.str (Ex.rat v20),.str (Ex.name v20),.i (Ex.date v20),.sl (List.length (Ex.sub v20)) 5 (Ex.deep v20),.i 0,.sl days.length 1 v29,.sl 1 12 v15];let v26:qe:=.ret v17 [.box (Con.zc c),.box v1,.box v16,.arr 1 1 (ratG [r]),.box v13,.box v14,.dead,.dead,.dead,.box v4,.box v1];.A λn_3=>.ite v30 (.ex (q31 v9) λn_4=>.all (λ(r:Int)=>r=Con.errC n_4) λn_5=>.ite v30 (.N (n_5=0) (.R [.agg v1,.i n_5] [.box (Con.zc c),.box v1,.box [.i n_5],.arr 1 1 (ratG [r]),.box v13,.box v14,.dead,.dead,.dead,.box v4,.box v1]) (.ex (q37 v9) λn_6=>.A λn_7=>.R [(Con.conD n_6),.i 0] [.box (Con.zc c),.box (Con.zc n_6),.box [.i n_5],.arr 1 1 (ratG [r]),.box v13,.box v14,.dead,.dead,.dead,.box v4,.box (Con.zc n_6)])) (.N (e=0) (.leaf v26) (.ex (q37 v9) λn_6=>.A λn_7=>.R [(Con.conD n_6),.i 0] [.box (Con.zc c),.box (Con.zc n_6),.box v16,.arr 1 1 (ratG [r]),.box v13,.box v14,.dead,.dead,.dead,.box v4,.box (Con.zc n_6)]))) (.N (e=0) (.leaf v26) (.ex (q37 v9) λn_4=>.A λn_5=>.R [(Con.conD n_4),.i 0] [.box (Con.zc c),.box (Con.zc n_4),.box v16,.arr 1 1 (ratG [r]),.box v13,.box v14,.dead,.dead,.dead,.box v4,.box (Con.zc n_4)])))) (.ex v12 λn=>.A λn_1=>.ex (q34 [.int .u8 15,.sl 1 5 (zf (zj 5 (Ex.cellsD (Tm.opx n.1 n.2))) 0)]) λn=>let v21:=Tm.opx n.1 n.2;let v10:=[AV.agg [.int .u8 k,.str #[].toList,.str #[].toList,.str #[].toList,.int .u8 (Ex.kind v21),.str (Ex.rat v21),.str (Ex.name v21),.i (Ex.date v21),.sl (List.length (Ex.sub v21)) 5 (Ex.deep v21),.i 0,.sl days.length 1 v29,.sl 1 12 v15]];let v5:List AV:=[.int .u8 k,.str #[].toList,.str #[].toList,.str #[].toList,.int .u8 (Ex.kind v21),.str (Ex.rat v21),.str (Ex.name v21),.i (Ex.date v21),.sl (List.length (Ex.sub v21)) 5 (Ex.deep v21),.i 0,.sl days.length 1 v29,.sl 1 12 v15];let v27:qe:=.ret v17 [.box (Con.zc c),.box v1,.box v16,.arr 1 1 (ratG [r]),.box v13,.box v14,.dead,.dead,.dead,.box v5,.box v1];.A λn_2=>.ite v30 (.ex (q31 v10) λn_3=>.all (λ(r:Int)=>r=Con.errC n_3) λn_4=>.ite v30 (.N (n_4=0) (.R [.agg v1,.i n_4] [.box (Con.zc c),.box v1,.box [.i n_4],.arr 1 1 (ratG [r]),.box v13,.box v14,.dead,.dead,.dead,.box v5,.box v1]) (.ex (q37 v10) λn_5=>.A λn_6=>.R [(Con.conD n_5),.i 0] [.box (Con.zc c),.box (Con.zc n_5),.box [.i n_4],.arr 1 1 (ratG [r]),.box v13,.box v14,.dead,.dead,.dead,.box v5,.box (Con.zc n_5)])) (.N (e=0) (.leaf v27) (.ex (q37 v10) λn_5=>.A λn_6=>.R [(Con.conD n_5),.i 0] [.box (Con.zc c),.box (Con.zc n_5),.box v16,.arr 1 1 (ratG [r]),.box v13,.box v14,.dead,.dead,.dead,.box v5,.box (Con.zc n_5)]))) (.N (e=0) (.leaf v27) (.ex (q37 v10) λn_3=>.A λn_4=>.R [(Con.conD n_3),.i 0] [.box (Con.zc c),.box (Con.zc n_3),.box v16,.arr 1 1 (ratG [r]),.box v13,.box v14,.dead,.dead,.dead,.box v5,.box (Con.zc n_3)])))) (.ex v12 λn=>.A λn_1=>.ex (q34 [.int .u8 15,.sl 1 5 (zf (zj 5 (Ex.cellsD (Tm.opx n.1 n.2))) 0)]) λn=>let v22:=Tm.opx n.1 n.2;let v11:=[AV.agg [.int .u8 k,.str #[].toList,.str #[].toList,.str #[].toList,.int .u8 (Ex.kind v22),.str (Ex.rat v22),.str (Ex.name v22),.i (Ex.date v22),.sl (List.length (Ex.sub v22)) 5 (Ex.deep v22),.i 0,.sl days.length 1 v29,.sl 1 12 v15]];let v6:List AV:=[.int .u8 k,.str #[].toList,.str #[].toList,.str #[].toList,.int .u8 (Ex.kind v22),.str (Ex.rat v22),.str (Ex.name v22),.i (Ex.date v22),.sl (List.length (Ex.sub v22)) 5 (Ex.deep v22),.i 0,.sl days.length 1 v29,.sl 1 12 v15];let v28:qe:=.ret v17 [.box (Con.zc c),.box v1,.box v16,.arr 1 1 (ratG [r]),.box v13,.box v14,.dead,.dead,.dead,.box v6,.box v1];.A λn_2=>.ite v30 (.ex (q31 v11) λn_3=>.all (λ(r:Int)=>r=Con.errC n_3) λn_4=>.ite v30 (.N (n_4=0) (.R [.agg v1,.i n_4] [.box (Con.zc c),.box v1,.box [.i n_4],.arr 1 1 (ratG [r]),.box v13,.box v14,.dead,.dead,.dead,.box v6,.box v1]) (.ex (q37 v11) λn_5=>.A λn_6=>.R [(Con.conD n_5),.i 0] [.box (Con.zc c),.box (Con.zc n_5),.box [.i n_4],.arr 1 1 (ratG [r]),.box v13,.box v14,.dead,.dead,.dead,.box v6,.box (Con.zc n_5)])) (.N (e=0) (.leaf v28) (.ex (q37 v11) λn_5=>.A λn_6=>.R [(Con.conD n_5),.i 0] [.box (Con.zc c),.box (Con.zc n_5),.box v16,.arr 1 1 (ratG [r]),.box v13,.box v14,.dead,.dead,.dead,.box v6,.box (Con.zc n_5)]))) (.N (e=0) (.leaf v28) (.ex (q37 v11) λn_3=>.A λn_4=>.R [(Con.conD n_3),.i 0] [.box (Con.zc c),.box (Con.zc n_3),.box v16,.arr 1 1 (ratG [r]),.box v13,.box v14,.dead,.dead,.dead,.box v6,.box (Con.zc n_3)])))) ?_;simp only [q31,q34,q37,Tree.holds,zh];rw [hk,hx,hy] at hb'
 have hq1:e≠0->Q (.tup [Tm.zero.conD,.i e],[]):=λh=>by
  unfold Tm.out at hq; rw [aO h,aO h] at hq; exact hq
 have hq2:e=0->b.errC≠0->Q (.tup [Tm.zero.conD,.i b.errC],[]):=λh h2=>by
  unfold Tm.out at hq; rw [aP h,aO h2] at hq; exact hq
 have hq3:e=0->b.errC=0->Q (.tup [b.conD,.i 0],[]):=λh h2=>by
  unfold Tm.out at hq; rw [aP h,aP h2,h2] at hq; exact hq
 clear hq;have hone:eqG 1 5 (zf (zj 5 (Tm.opx 11 [x,y]).cellsD) 0) (Ex.exG [Tm.opx 11 [x,y]]):=Ex.uV _
 have harg:eqA (.agg [.int .u8 k,.str [],.str [],.str [],.int .u8 15,.str [],.str [],.i 0,.sl 1 5 (Tm.opx 15 [Tm.opx 11 [x,y]]).deep,.i 0,.sl days.length 1 (Con.dayG days),.sl 1 12 (zf (zj 12 c.zc) 0)]) b.conA:=by
  rw [hb'];exact⟨⟨rfl,rfl⟩,rfl,rfl,rfl,⟨rfl,rfl⟩,rfl,rfl,⟨rfl,rfl⟩,⟨rfl,rfl,Ex.zQ (Tm.opx 15 [Tm.opx 11 [x,y]])⟩,⟨rfl,rfl⟩,⟨rfl,rfl,za _ _ _⟩,⟨rfl,rfl,Con.uV _⟩,trivial⟩
 clear hb' hk hx hy hb he0;refine⟨⟨true,trivial⟩,λ_ _=>⟨λ_=>⟨⟨true,trivial⟩,λ_ _=>⟨λ_=> ?_,λ_=> ?_⟩⟩,λ_=> ?_⟩⟩
 all_goals
  refine⟨(11,[x,y]),⟨⟨⟨rfl,rfl⟩,⟨rfl,rfl,Ex.QB _ _⟩,trivial⟩,trivial⟩,⟨(),trivial⟩,λ_ _=> ?_⟩
  first
   | refine⟨⟨true,trivial⟩,λ_ _=>⟨λ_=>⟨⟨true,trivial⟩,λ_ _=>⟨λ_=> ?_,λ_=> ?_⟩⟩,λ_=> ?_⟩⟩
   | refine⟨⟨true,trivial⟩,λ_ _=>⟨λ_=> ?_,λ_=> ?_⟩⟩
   | skip
  all_goals
   refine⟨(15,[Tm.opx 11 [x,y]]),⟨⟨⟨rfl,rfl⟩,⟨rfl,rfl,hone⟩,trivial⟩,trivial⟩,⟨(),trivial⟩,λ_ _=>⟨λh=> ?_,λh=> ?_⟩⟩
   ·have he:=aB h;refine⟨b,⟨⟨harg,trivial⟩,by omega,hn⟩,⟨_,rfl⟩,?_⟩;rintro _ rfl;refine⟨λ_=>⟨λh1=> ?_,λh1=> ?_⟩,λh1=>absurd (h.symm.trans h1) (by decide)⟩
    ·exact RetR.out0 (hq2 he (by simpa using h1)) (λh=>by cases h) zero_eq
    ·refine⟨b,⟨⟨harg,trivial⟩,by omega⟩,⟨(),trivial⟩,λ_ _=> ?_⟩;exact RetR.le0 (hq3 he (by simpa using h1)) (λh=>by cases h) (LeA.refl _)
   ·have he:=aC h;refine⟨λ_=>RetR.out0 (hq1 he) (λh=>by cases h) zero_eq,λh1=>absurd h1 (by simp [he])⟩
end Go.Proofs.Tryz
end
section
namespace Go.Nov
open Go.Sx
structure Ev where
 v:L8
 e:Int
 b:Bool
 g:Int
abbrev Ev.nil:Ev:=⟨[],0,false,0⟩
def wE(k:Int)(a b:L8):L8×Int:=
 if k=7 then(if(cmpR a b).2≠0 then([],(cmpR a b).2) else(if(cmpR a b).1<0 then b else a,0))
 else(if(cmpR b a).2≠0 then([],(cmpR b a).2) else(if(cmpR b a).1<0 then b else a,0))
def opR(k:Int)(a b:L8):L8×Int:=if k=4 then addR a b else if k=5 then subR a b else if k=6 then mulR a b else wE k a b
def fixR(f:List Fx)(a:L8)(d:Int):L8×Int:=if(vW f a d).2=true then((vW f a d).1,0) else([],30)
def QU{α:Type}(z:α)(l0 l1:Ev)(f:L8->L8->α×Int):α×Int:=if l0.e≠0 then(z,l0.e) else if l1.e≠0 then(z,l1.e) else f l0.v l1.v
def valN(f:List Fx)(day k:Int)(r n:L8)(d:Int)(l:List Ev):L8×Int:=
 if k=1 then(r,0) else if k=2 then fixR f n d else if k=3 then fixR f n day
 else if k=9 then(if(l.getD 0 Ev.nil).g≠0 then([],(l.getD 0 Ev.nil).g) else if(l.getD 0 Ev.nil).b then((l.getD 1 Ev.nil).v,(l.getD 1 Ev.nil).e) else((l.getD 2 Ev.nil).v,(l.getD 2 Ev.nil).e))
 else QU [] (l.getD 0 Ev.nil) (l.getD 1 Ev.nil) (opR k)
def XQ(k:Int)(a b:L8):Bool×Int:=if(cmpR a b).2≠0 then(false,(cmpR a b).2) else(if k=11 then decide ((cmpR a b).1<0) else decide ((cmpR a b).1=0),0)
def hldN(k:Int)(l:List Ev):Bool×Int:=
 if 13<=k then(if(l.getD 0 Ev.nil).g≠0 then(false,(l.getD 0 Ev.nil).g) else if k=15 then(!(l.getD 0 Ev.nil).b,0)
  else if(l.getD 0 Ev.nil).b=decide (k=14) then((l.getD 0 Ev.nil).b,0) else((l.getD 1 Ev.nil).b,(l.getD 1 Ev.nil).g))
 else QU false (l.getD 0 Ev.nil) (l.getD 1 Ev.nil) (XQ k)
def evN(f:List Fx)(day k:Int)(r n:L8)(d:Int)(l:List Ev):Ev:=⟨(valN f day k r n d l).1,(valN f day k r n d l).2,(hldN k l).1,(hldN k l).2⟩
namespace Ex
mutual
def ev(f:List Fx)(day:Int):Ex->Ev
 | mk k r n d s=>evN f day k r n d (evs f day s)
def evs(f:List Fx)(day:Int):List Ex->List Ev
 | []=>[]
 | x::l=>ev f day x::evs f day l
end
theorem jd{f:List Fx}{day:Int}{s:List Ex}{i:Nat}(h:i<s.length):(evs f day s).getD i Ev.nil=(s.getD i nil).ev f day:=by
 induction s generalizing i with
 | nil=>simp at h
 | cons x s ih=>
  rw [evs];cases i with
  | zero=>rfl
  | succ i=>exact ih (by simpa using h)
theorem Vj{x:Ex}(h:x.z8=1):(x.kind=1/\errR x.rat=0)\/x.kind=2\/x.kind=3 \/
  ((4<=x.kind/\x.kind<=8)/\x.sub.length=2/\(x.sub.getD 0 nil).z8=1/\(x.sub.getD 1 nil).z8=1) \/
  (x.kind=9/\x.sub.length=3/\(x.sub.getD 0 nil).z8=2/\(x.sub.getD 1 nil).z8=1/\(x.sub.getD 2 nil).z8=1):=by
 rw [JN] at h;by_cases hk:qN x.kind=true
 ·have hk2:(4<=x.kind/\x.kind<=9)\/(11<=x.kind/\x.kind<=15):=by
   by_cases h1:4<=x.kind/\x.kind<=9
   ·exact .inl h1
   ·by_cases h2:11<=x.kind/\x.kind<=15
    ·exact .inr h2
    ·rw [zax h1 h2] at hk; cases hk
  have two:∀ {k:Int} {ps:List Int} {w:Int},yK k=some (ps,w)->wH k x.rat x.name x.date (qf x.sub)=1->w=1/\x.sub.length=ps.length/\∀ i,i<x.sub.length->(x.sub.getD i nil).z8=ps.getD i 0:=by
   intro k ps w hs hn;rw [Vz hs] at hn;split at hn
   ·rename_i hc;exact⟨hn,uI.1 hc.2⟩
   ·cases hn
  generalize x.kind=k at h hk2 ⊢;have hk3:k=4\/k=5\/k=6\/k=7\/k=8\/k=9\/k=11\/k=12\/k=13\/k=14\/k=15:=by omega
  right; right; right;rcases hk3 with rfl | rfl | rfl | rfl | rfl | rfl | rfl | rfl | rfl | rfl | rfl
  iterate 5
   ·left;obtain⟨_,h2,h3⟩:=two rfl h;exact⟨by decide,h2,h3 0 (by rw [h2]; decide),h3 1 (by rw [h2]; decide)⟩
  ·right;obtain⟨_,h2,h3⟩:=two rfl h;exact⟨rfl,h2,h3 0 (by rw [h2]; decide),h3 1 (by rw [h2]; decide),h3 2 (by rw [h2]; decide)⟩
  all_goals
   obtain⟨h1,_⟩:=two rfl h;cases h1
 ·have hk:qN x.kind=false:=by simpa using hk
  rw [wJ hk] at h;split at h
  ·rename_i hl;simp only [jk,bA] at hl;obtain⟨_,hl⟩:=hl;split at hl
   ·rename_i h1;simp only [bA,aK] at hl;exact .inl ⟨h1,hl.1.1⟩
   ·split at hl
    ·rename_i h2; exact .inr (.inl h2)
    ·split at hl
     ·rename_i h3; exact .inr (.inr (.inl h3))
     ·cases hl
  ·cases h
theorem XK{x:Ex}(h:x.z8=2):((x.kind=11\/x.kind=12)/\x.sub.length=2/\(x.sub.getD 0 nil).z8=1/\(x.sub.getD 1 nil).z8=1) \/
  ((x.kind=13\/x.kind=14)/\x.sub.length=2/\(x.sub.getD 0 nil).z8=2/\(x.sub.getD 1 nil).z8=2)\/(x.kind=15/\x.sub.length=1/\(x.sub.getD 0 nil).z8=2):=by
 rw [JN] at h;by_cases hk:qN x.kind=true
 ·have hk2:(4<=x.kind/\x.kind<=9)\/(11<=x.kind/\x.kind<=15):=by
   by_cases h1:4<=x.kind/\x.kind<=9
   ·exact .inl h1
   ·by_cases h2:11<=x.kind/\x.kind<=15
    ·exact .inr h2
    ·rw [zax h1 h2] at hk; cases hk
  have two:∀ {k:Int} {ps:List Int} {w:Int},yK k=some (ps,w)->wH k x.rat x.name x.date (qf x.sub)=2->w=2/\x.sub.length=ps.length/\∀ i,i<x.sub.length->(x.sub.getD i nil).z8=ps.getD i 0:=by
   intro k ps w hs hn;rw [Vz hs] at hn;split at hn
   ·rename_i hc;exact⟨hn,uI.1 hc.2⟩
   ·cases hn
  generalize x.kind=k at h hk2 ⊢;have hk3:k=4\/k=5\/k=6\/k=7\/k=8\/k=9\/k=11\/k=12\/k=13\/k=14\/k=15:=by omega
  rcases hk3 with rfl | rfl | rfl | rfl | rfl | rfl | rfl | rfl | rfl | rfl | rfl
  iterate 6
   ·obtain⟨h1,_⟩:=two rfl h;cases h1
  ·obtain⟨_,h2,h3⟩:=two rfl h;exact .inl ⟨.inl rfl,h2,h3 0 (by rw [h2]; decide),h3 1 (by rw [h2]; decide)⟩
  ·obtain⟨_,h2,h3⟩:=two rfl h;exact .inl ⟨.inr rfl,h2,h3 0 (by rw [h2]; decide),h3 1 (by rw [h2]; decide)⟩
  ·obtain⟨_,h2,h3⟩:=two rfl h;exact .inr (.inl ⟨.inl rfl,h2,h3 0 (by rw [h2]; decide),h3 1 (by rw [h2]; decide)⟩)
  ·obtain⟨_,h2,h3⟩:=two rfl h;exact .inr (.inl ⟨.inr rfl,h2,h3 0 (by rw [h2]; decide),h3 1 (by rw [h2]; decide)⟩)
  ·obtain⟨_,h2,h3⟩:=two rfl h;exact .inr (.inr ⟨rfl,h2,h3 0 (by rw [h2]; decide)⟩)
 ·have hk:qN x.kind=false:=by simpa using hk
  rw [wJ hk] at h;split at h<;>cases h
end Ex
theorem zl1{f:List Fx}{a:L8}{d:Int}(h:(vW f a d).2=false):(vW f a d).1=[]:=by
 unfold vW at h ⊢;split
 ·rename_i y hy; rw [hy] at h; cases h
 ·rfl
theorem zd1{f:List Fx}(hf:f.all okF=true){a:L8}{d:Int}(h:(fixR f a d).2=0):errR (fixR f a d).1=0:=by
 unfold fixR at h ⊢;split
 ·rename_i h1;unfold vW at h1 ⊢;split at h1
  ·rename_i y hy;have hm:=List.mem_of_find?_eq_some hy;have:=bG.1 hf _ hm;simp only [okF,bA,aK] at this;exact this.2
  ·cases h1
 ·rename_i h1;rw [aO h1] at h;cases h
theorem zif{k:Int}{a b:L8}(ha:errR a=0)(hb:errR b=0)(h:(wE k a b).2=0):errR (wE k a b).1=0:=by
 unfold wE at h ⊢;split
 ·rename_i h1;rw [aP h1] at h;split
  ·rename_i h2; rw [aP h2] at h; exact absurd h h2
  ·simp only; split<;>assumption
 ·rename_i h1;rw [aO h1] at h;split
  ·rename_i h2; rw [aP h2] at h; exact absurd h h2
  ·simp only; split<;>assumption
theorem zse{k:Int}{a b:L8}(ha:errR a=0)(hb:errR b=0)(h:(opR k a b).2=0):errR (opR k a b).1=0:=by
 unfold opR at h ⊢;split
 ·rename_i h1; rw [aP h1] at h; exact(zmo ha hb h).1
 ·rename_i h1;rw [aO h1] at h;split
  ·rename_i h2; rw [aP h2] at h; exact(zof ha hb h).1
  ·rename_i h2;rw [aO h2] at h;split
   ·rename_i h3; rw [aP h3] at h; exact(Xb ha hb h).1
   ·rename_i h3;rw [aO h3] at h;exact zif ha hb h
theorem vk{a:L8}(h:errR a=0):a.length<=2003:=by
 have h1:=(WC h).2.2.1;rw [<- h1];unfold qstr wz;have g1:=kj (decide ((qv a).num<0)) (qv a).num.natAbs;have g2:=kj (decide (((qv a).den:Int)<0)) ((qv a).den:Int).natAbs;split
 ·omega
 ·simp only [bO,aL,List.length_nil];omega
theorem Ex.Zj{f:List Fx}(hf:f.all okF=true)(day:Int):∀ x:Ex,x.z8=1->(x.ev f day).e=0->errR (x.ev f day).v=0
 | .mk k r n d s,hs,he=>by
  have hc:=Ex.Vj hs;simp only [Ex.kind,Ex.rat,Ex.sub] at hc;rw [Ex.ev] at he ⊢;simp only [evN] at he ⊢;unfold valN at he ⊢;rcases hc with ⟨rfl,h1⟩ | rfl | rfl | ⟨⟨h1,h2⟩,h3,h4,h5⟩ | ⟨rfl,h3,h4,h5,h6⟩
  ·simpa using h1
  ·simp only [show ¬ (2:Int)=1 by decide,if_false,if_true] at he ⊢;exact zd1 hf he
  ·simp only [show ¬ (3:Int)=1 by decide,show ¬ (3:Int)=2 by decide,if_false,if_true] at he ⊢;exact zd1 hf he
  ·rw [aO (by omega),aO (by omega),aO (by omega),aO (by omega)] at he ⊢;rw [Ex.jd (by omega),Ex.jd (by omega)] at he ⊢;unfold QU at he ⊢;have w0:s.getD 0 Ex.nil∈s:=by simp [List.getD,aF (show 0<s.length by omega)]
   have w1:s.getD 1 Ex.nil∈s:=by simp [List.getD,aF (show 1<s.length by omega)]
   split
   ·rename_i g; rw [aP g] at he; exact absurd he g
   ·rename_i g;rw [aO g] at he;split
    ·rename_i g2; rw [aP g2] at he; exact absurd he g2
    ·rename_i g2;rw [aO g2] at he;rw [Classical.not_not] at g g2;exact zse (Ex.Zj hf day _ h4 g) (Ex.Zj hf day _ h5 g2) he
  ·simp only [show ¬ (9:Int)=1 by decide,show ¬ (9:Int)=2 by decide,show ¬ (9:Int)=3 by decide,if_false,if_true] at he ⊢;rw [Ex.jd (by omega),Ex.jd (by omega),Ex.jd (by omega)] at he ⊢;have w1:s.getD 1 Ex.nil∈s:=by simp [List.getD,aF (show 1<s.length by omega)]
   have w2:s.getD 2 Ex.nil∈s:=by simp [List.getD,aF (show 2<s.length by omega)]
   split
   ·rename_i g; rw [aP g] at he; exact absurd he g
   ·rename_i g;rw [aO g] at he;split
    ·rename_i g2; rw [aP g2] at he; exact Ex.Zj hf day _ h5 he
    ·rename_i g2; rw [aO g2] at he; exact Ex.Zj hf day _ h6 he
termination_by x=>x.size
decreasing_by
 all_goals
  rw [Ex.size];have a0:=Ex.qw (s:=s) (i:=0);have a1:=Ex.qw (s:=s) (i:=1);have a2:=Ex.qw (s:=s) (i:=2)
  first
  | (have:=a0 (by omega); omega)
  | (have:=a1 (by omega); omega)
  | (have:=a2 (by omega); omega)
end Go.Nov
end
section
namespace Go.Nov
def askE(x:Ex)(want day:Int)(f:List Fx)(c:List Ch):Int:=if x.errX≠0 then x.errX else if x.z8≠want then 32 else if errE f c≠0 then errE f c else if dayB day then 0 else 2
def jR(x:Ex)(day:Int)(f:List Fx)(c:List Ch):L8×Int:=if askE x 1 day f c≠0 then([],askE x 1 day f c) else if(x.ev f day).e≠0 then([],(x.ev f day).e) else((x.ev f day).v,0)
def xI(x:Ex)(day:Int)(f:List Fx)(c:List Ch):Bool×Int:=if askE x 2 day f c≠0 then(false,askE x 2 day f c) else if(x.ev f day).g≠0 then(false,(x.ev f day).g) else((x.ev f day).b,0)
theorem zt9{x:Ex}{want day:Int}{f:List Fx}{c:List Ch}(h:x.errX≠0):askE x want day f c=x.errX:=by unfold askE; rw [aP h]
theorem ztg{x:Ex}{want day:Int}{f:List Fx}{c:List Ch}(h:x.errX=0)(h2:¬ x.z8=want):askE x want day f c=32:=by unfold askE; rw [aO (by rw [h]; simp),aP h2]
theorem zpp{x:Ex}{want day:Int}{f:List Fx}{c:List Ch}(h:x.errX=0)(h2:x.z8=want):askE x want day f c=if errE f c=0 then(if dayB day=true then 0 else 2) else errE f c:=by
 unfold askE;rw [aO (by rw [h]; simp),aO (by rw [h2]; simp)];by_cases g:errE f c=0
 ·rw [aP g,aO (by rw [g]; simp)]
 ·rw [aO g,aP g]
theorem Wr{x:Ex}{want day:Int}{f:List Fx}{c:List Ch}(h:askE x want day f c=0):x.errX=0/\x.z8=want/\errE f c=0/\dayB day=true:=by
 unfold askE at h;split at h
 ·rename_i g; exact absurd h g
 ·rename_i g1;split at h
  ·cases h
  ·rename_i g2;split at h
   ·rename_i g; exact absurd h g
   ·rename_i g3;split at h
    ·rename_i g4;exact⟨Classical.not_not.1 g1,Classical.not_not.1 g2,Classical.not_not.1 g3,g4⟩
    ·cases h
end Go.Nov
end
section
namespace Go.Nov
open Go.Sx
structure Fl where
 date:Int
 src:L8
 dst:L8
 ccy:L8
 amt:L8
def Fl.nil:Fl:=⟨0,[],[],[],[]⟩
def Fl.cell(f:Fl):Nat->AV
 | 0=>.i f.date
 | 1=>.str f.src
 | 2=>.str f.dst
 | 3=>.str f.ccy
 | 4=>.str f.amt
 | _=>.undef
def flG(l:List Fl):Nat->Nat->AV:=λj=>(l.getD j Fl.nil).cell
def flS(l:List Fl):AV:=.sl l.length 5 (flG l)
def Fl.av(f:Fl):AV:=.agg [.i f.date,.str f.src,.str f.dst,.str f.ccy,.str f.amt]
def payF(d:Int)(a b n r:L8):List Fl:=if r=[48] then [] else if r.getD 0 0=45 then [⟨d,b,a,n,r.drop 1⟩] else [⟨d,a,b,n,r⟩]
def firstM(is:Int->Except Int Bool)(day fin:Int):List Int->Except Int Int
 | []=>.ok fin
 | d::l=>if fin<=d then .ok fin else if day<=d then(match is d with
  | .error e=>.error e
  | .ok true=>.ok d
  | .ok false=>firstM is day fin l) else firstM is day fin l
def jv(k:L8):List Fl->Except Int (List Fl)
 | []=>.ok []
 | f::l=>if(mulR f.amt k).2≠0 then .error (mulR f.amt k).2 else match jv k l with
  | .error e=>.error e
  | .ok m=>.ok (payF f.date f.src f.dst f.ccy (mulR f.amt k).1++m)
def valM(x:Ex)(d:Int)(f:List Fx)(c:List Ch):Except Int (L8):=if(jR x d f c).2=0 then .ok (jR x d f c).1 else .error (jR x d f c).2
def holM(x:Ex)(d:Int)(f:List Fx)(c:List Ch):Except Int Bool:=if(xI x d f c).2=0 then .ok (xI x d f c).1 else .error (xI x d f c).2
def andM{α β:Type}(x:Except Int α)(k:α->Except Int β):Except Int β:=match x with
 | .error e=>.error e
 | .ok a=>k a
mutual
def flM(f:List Fx)(c:List Ch):Con->Int->Int->Except Int (List Fl)
 | .mk k a b n x d l s=>λday fin=>
  if fin<=day then .ok []
  else if k=2 then andM (valM x day f c) λr=>.ok (payF day a b n r)
  else if k=3 then andM ((flMs f c s).getD 0 (λ_ _=>.ok []) day fin) λu=>andM ((flMs f c s).getD 1 (λ_ _=>.ok []) day fin) λv=>.ok (u++v)
  else if k=4 then andM (valM x day f c) λr=>andM ((flMs f c s).getD 0 (λ_ _=>.ok []) day fin) λu=>jv r u
  else if k=5 then andM (holM x day f c) λt=>(flMs f c s).getD (if t=true then 0 else 1) (λ_ _=>.ok []) day fin
  else if k=6 then(if day<=d then(flMs f c s).getD 0 (λ_ _=>.ok []) d fin else .ok [])
  else if k=7 then(flMs f c s).getD (if qo c a n day=true then 0 else 1) (λ_ _=>.ok []) day fin
  else if k=8 then andM (firstM (λt=>.ok (qo c a n t)) day fin l) λt=>(flMs f c s).getD 0 (λ_ _=>.ok []) t fin
  else if k=9 then andM (firstM (λt=>holM x t f c) day fin l) λt=>(flMs f c s).getD 0 (λ_ _=>.ok []) day t
  else if k=10 then andM (firstM (λt=>holM x t f c) day fin l) λt=>(flMs f c s).getD 0 (λ_ _=>.ok []) t fin
  else .ok []
def flMs(f:List Fx)(c:List Ch):List Con->List (Int->Int->Except Int (List Fl))
 | []=>[]
 | e::s=>flM f c e::flMs f c s
end
theorem X3(f:List Fx)(c:List Ch):∀ (s:List Con) (i:Nat),i<s.length->(flMs f c s).getD i (λ_ _=>.ok [])=flM f c (s.getD i Con.nil)
 | [],_,h=>by simp at h
 | e::s,0,_=>by rw [flMs]; rfl
 | e::s,i+1,h=>by rw [flMs,List.getD_cons_succ,List.getD_cons_succ]; exact X3 f c s i (by simpa using h)
def insF(x:Fl):List Fl->List Fl
 | []=>[x]
 | y::l=>if y.date<=x.date then y::insF x l else x::y::l
def ordM(l:List Fl):List Fl:=l.foldl (λm x=>insF x m) []
def befM(c:Con)(day fin:Int)(f:List Fx)(h:List Ch):List Fl×Int:=
 if c.errC≠0 then([],c.errC) else if errE f h≠0 then([],errE f h) else if day<0\/99999<day\/fin<0\/100000<fin then([],2) else match flM f h c day fin with
  | .error e=>([],e)
  | .ok l=>(ordM l,0)
def zL(c:Con)(day:Int)(f:List Fx)(h:List Ch):List Fl×Int:=befM c day 100000 f h
def jG(l:List Fl):Prop:=l.Pairwise λx y=>x.date<=y.date
def onF(d:Int)(l:List Fl):List Fl:=l.filter λy=>decide (y.date=d)
theorem qq(d:Int)(x:Fl)(l:List Fl):onF d (x::l)=if x.date=d then x::onF d l else onF d l:=by
 unfold onF; rw [List.filter_cons]; by_cases h:x.date=d<;>simp [h]
theorem zbp(d:Int)(l m:List Fl):onF d (l++m)=onF d l++onF d m:=by unfold onF; rw [List.filter_append]
theorem YY{d:Int}{l:List Fl}(h:∀ y∈l,d<y.date):onF d l=[]:=by
 unfold onF;rw [List.filter_eq_nil_iff];intro y hy;have:=h y hy;simp; omega
theorem V5:∀ {l m:List Fl},jG l->jG m->(∀ d,onF d l=onF d m)->l=m
 | [],[],_,_,_=>rfl
 | [],y::m,_,_,h=>by have:=h y.date; rw [qq,aP rfl] at this; cases this
 | x::l,[],_,_,h=>by have:=h x.date; rw [qq,aP rfl] at this; cases this
 | x::l,y::m,hl,hm,h=>by
  unfold jG at hl hm;rw [List.pairwise_cons] at hl hm;have mem:∀ {z:Fl} {n:List Fl},z∈onF z.date n->z∈n:=λhz=>(List.mem_filter.1 hz).1
  have h1:y.date<=x.date:=by
   have:x∈onF x.date (y::m):=by rw [<- h,qq,aP rfl]; simp
   rcases aM.1 (mem this) with e | e
   ·rw [e]; exact Int.le_refl _
   ·exact hm.1 x e
  have h2:x.date<=y.date:=by
   have:y∈onF y.date (x::l):=by rw [h,qq,aP rfl]; simp
   rcases aM.1 (mem this) with e | e
   ·rw [e]; exact Int.le_refl _
   ·exact hl.1 y e
  have h3:y.date=x.date:=by omega
  have h4:=h x.date;rw [qq,qq,aP rfl,aP h3] at h4;have h5:x=y:=(List.cons.inj h4).1;subst h5;congr 1;refine V5 hl.2 hm.2 λd=> ?_
  have:=h d;rw [qq,qq] at this;split at this
  ·exact(List.cons.inj this).2
  ·exact this
theorem zd8(x z:Fl):∀ l:List Fl,z∈insF x l↔z=x\/z∈l
 | []=>by simp [insF]
 | y::l=>by
  rw [insF];split
  ·rw [aM,zd8 x z l,aM];exact⟨λh=>by rcases h with h | h | h<;>simp [h],λh=>by rcases h with h | h | h<;>simp [h]⟩
  ·simp
theorem Uf(x:Fl):∀ {l:List Fl},jG l->jG (insF x l)
 | [],_=>by unfold jG; simp [insF]
 | y::l,h=>by
  unfold jG at h;rw [List.pairwise_cons] at h;rw [insF];split
  ·rename_i hle;unfold jG;rw [List.pairwise_cons];refine⟨λz hz=> ?_,Uf x h.2⟩;rcases(zd8 x z l).1 hz with e | e
   ·rw [e]; exact hle
   ·exact h.1 z e
  ·rename_i hlt;unfold jG;rw [List.pairwise_cons,List.pairwise_cons];refine⟨λz hz=> ?_,h⟩;rcases aM.1 hz with e | e
   ·rw [e]; omega
   ·have:=h.1 z e; omega
theorem zk0(x:Fl)(d:Int):∀ {l:List Fl},jG l->onF d (insF x l)=onF d l++onF d [x]
 | [],_=>by rw [insF]; rfl
 | y::l,h=>by
  have h0:=h;unfold jG at h;rw [List.pairwise_cons] at h;rw [insF];split
  ·rw [qq,qq,zk0 x d h.2];split<;>simp
  ·rename_i hlt;rw [qq d x];by_cases hx:x.date=d
   ·have hn:onF d (y::l)=[]:=YY λz hz=>by
     rcases aM.1 hz with e | e
     ·rw [e]; omega
     ·have:=h.1 z e; omega
    rw [aP hx,hn,qq,aP hx]; rfl
   ·rw [aO hx,qq d x,aO hx];show _=_++[];rw [List.append_nil]
theorem Xh:∀ (l m:List Fl),jG m->jG (l.foldl (λm x=>insF x m) m)/\∀ d,onF d (l.foldl (λm x=>insF x m) m)=onF d m++onF d l
 | [],m,h=>⟨h,λd=>by show onF d m=onF d m++[]; rw [List.append_nil]⟩
 | x::l,m,h=>by
  obtain⟨h1,h2⟩:=Xh l (insF x m) (Uf x h);refine⟨h1,λd=> ?_⟩;rw [List.foldl_cons,h2,zk0 x d h,List.append_assoc,<- zbp]; rfl
theorem zhr(l:List Fl):jG (ordM l):=(Xh l [] List.Pairwise.nil).1
theorem zrj(d:Int)(l:List Fl):onF d (ordM l)=onF d l:=by
 have:=(Xh l [] List.Pairwise.nil).2 d;simpa [ordM,onF] using this
def q6:Nat->List Fl->List Fl->List Fl
 | n+1,x::a,y::b=>if y.date<x.date then y::q6 n (x::a) b else x::q6 n a (y::b)
 | _,a,b=>a++b
theorem yD(n:Nat)(a:List Fl):q6 n a []=a:=by cases n<;>cases a<;>simp [q6]
theorem xm(n:Nat)(b:List Fl):q6 n [] b=b:=by cases n<;>simp [q6]
theorem yy(z:Fl):∀ (n:Nat) (a b:List Fl),z∈q6 n a b↔z∈a\/z∈b
 | 0,a,b=>by simp [q6]
 | n+1,[],b=>by rw [xm]; simp
 | n+1,x::a,[]=>by rw [yD]; simp
 | n+1,x::a,y::b=>by
  rw [q6];split
  ·rw [aM,yy z n (x::a) b,aM (l:=b)];exact⟨λh=>by rcases h with h | h | h<;>simp [h],λh=>by rcases h with h | h | h<;>simp [h]⟩
  ·rw [aM,yy z n a (y::b),aM (l:=a)];exact⟨λh=>by rcases h with h | h | h<;>simp [h],λh=>by rcases h with (h | h) | h<;>simp [h]⟩
theorem ZC:∀ (n:Nat) (a b:List Fl),a.length+b.length<=n->jG a->jG b->jG (q6 n a b)/\∀ d,onF d (q6 n a b)=onF d a++onF d b
 | n,[],b,_,_,hb=>by rw [xm]; exact⟨hb,λd=>rfl⟩
 | n,x::a,[],_,ha,_=>by rw [yD]; exact⟨ha,λd=>by show _=_++[]; rw [List.append_nil]⟩
 | 0,x::a,y::b,h,_,_=>by simp at h
 | n+1,x::a,y::b,h,ha,hb=>by
  have ha':=ha;have hb':=hb;unfold jG at ha' hb';rw [List.pairwise_cons] at ha' hb';simp only [aL] at h;rw [q6];split
  ·rename_i hlt;obtain⟨h1,h2⟩:=ZC n (x::a) b (by simp only [aL]; omega) ha hb'.2;refine⟨?_,λd=> ?_⟩
   ·unfold jG;rw [List.pairwise_cons];refine⟨λz hz=> ?_,h1⟩;rcases(yy z n _ _).1 hz with e | e
    ·rcases aM.1 e with e | e
     ·rw [e]; omega
     ·have:=ha'.1 z e; omega
    ·exact hb'.1 z e
   ·rw [qq,h2,qq d y b];by_cases hy:y.date=d
    ·have hn:onF d (x::a)=[]:=YY λz hz=>by
      rcases aM.1 hz with e | e
      ·rw [e]; omega
      ·have:=ha'.1 z e; omega
     rw [aP hy,aP hy,hn]; rfl
    ·rw [aO hy,aO hy]
  ·rename_i hge;obtain⟨h1,h2⟩:=ZC n a (y::b) (by simp only [aL]; omega) ha'.2 hb;refine⟨?_,λd=> ?_⟩
   ·unfold jG;rw [List.pairwise_cons];refine⟨λz hz=> ?_,h1⟩;rcases(yy z n _ _).1 hz with e | e
    ·exact ha'.1 z e
    ·rcases aM.1 e with e | e
     ·rw [e]; omega
     ·have:=hb'.1 z e; omega
   ·rw [qq,h2,qq d x a];split<;>simp
def ordP:Nat->List Fl->List Fl
 | 0,l=>l
 | n+1,l=>if l.length<2 then l else q6 l.length (ordP n (l.take (l.length/2))) (ordP n (l.drop (l.length/2)))
theorem Zf:∀ (n:Nat) (l:List Fl),l.length<=n->jG (ordP n l)/\(∀ d,onF d (ordP n l)=onF d l)/\(ordP n l).length=l.length
 | 0,l,h=>by
  obtain rfl:l=[]:=aU.1 (by omega);exact⟨List.Pairwise.nil,λd=>rfl,rfl⟩
 | n+1,l,h=>by
  rw [ordP];split
  ·rename_i h2;refine⟨?_,λd=>rfl,rfl⟩
   match l,h2 with
   | [],_=>exact List.Pairwise.nil
   | [x],_=>unfold jG; simp
  ·have e1:(l.take (l.length/2)).length<=n:=by rw [aH]; omega
   have e2:(l.drop (l.length/2)).length<=n:=by rw [bV]; omega
   obtain⟨a1,a2,a3⟩:=Zf n _ e1;obtain⟨b1,b2,b3⟩:=Zf n _ e2
   have hlen:(ordP n (l.take (l.length/2))).length+(ordP n (l.drop (l.length/2))).length=l.length:=by
    rw [a3,b3,aH,bV]; omega
   obtain⟨c1,c2⟩:=ZC l.length _ _ (by omega) a1 b1;refine⟨c1,λd=> ?_,?_⟩
   ·rw [c2,a2,b2,<- zbp,bU]
   ·rw [ZX,hlen]
where
 ZX:∀ {n:Nat} {a b:List Fl},(q6 n a b).length=a.length+b.length
  | 0,a,b=>by simp [q6]
  | n+1,[],b=>by rw [xm]; simp
  | n+1,x::a,[]=>by rw [yD]; simp
  | n+1,x::a,y::b=>by
   rw [q6];split
   ·rw [aL,ZX]; simp; omega
   ·rw [aL,ZX]; simp; omega
theorem Zc{n:Nat}{l:List Fl}(h:l.length<=n):ordP n l=ordM l:=by
 obtain⟨h1,h2,_⟩:=Zf n l h;exact V5 h1 (zhr l) λd=>by rw [h2,zrj]
end Go.Nov
end
section
namespace Go.Sx
variable [Stat]
def Za(T:TypeId)(e:Int):List PanicEntry:=[{ v:=.iface T (.agg #[.i e]),recovered:=false }]
def okM{α:Type} : Except Int α->Bool
 | .ok _=>true
 | .error _=>false
def getM{α:Type}(d:α):Except Int α->α
 | .ok a=>a
 | .error _=>d
def ctrS{X:Type}(inp:X->List AV)(hin:X->Heap)(pre:X->Prop)(ok:X->Bool)(out:X->AV×Heap):Ctr where
 fresh:=false
 spec args hc:=.ex (λx=>eqL args (inp x)/\eqH hc (hin x)/\hc.length=(hin x).length/\pre x) λx=>.ite (ok x) (.leaf (out x)) (.leaf (.bot,hin x))
theorem yh{Xp:List PanicEntry->Prop}{P:Program}{fn:Func}{X:Type}{inp:X->List AV}{hin:X->Heap}{pre:X->Prop}{ok:X->Bool}{out:X->AV×Heap}{g:Nat}{c:Code}(hf:P.funcs[g]?=some fn)(hb:fn.body=some c) (hn:(fn.name == "runtime.NumGoroutine")=false)
  (H:∀ x,pre x->∀ (O:Nat->Prop) (w0:World) (I0:List SE) (Q:AV×Heap->Prop),I0.length=(hin x).length->(ok x=true->Q (out x)) ->
   Uv Xp P fn O (hin x).length w0 I0 (λ_ _ _=>False) (RetR (ctrS inp hin pre ok out) (hin x).length Q) [.code c] (wM fn (inp x) (hin x))):zA Xp P g (ctrS inp hin pre ok out):=by
 intro args hc Q hq _;obtain⟨x,⟨h1,h2,h3,h4⟩,h5,h6⟩:=hq;refine qL.le h1 (qL.leH h2 h3 (zh2 hf hb hn (λh=>by cases h) λO w0 I0 hl=> ?_));exact H x h4 O w0 I0 Q hl h5
theorem qL.up{P:Program}{Xp:List PanicEntry->Prop}{g:Nat}{c:Ctr}{args:List AV}{hc:Heap}{Q:AV×Heap->Prop}(h:qL Xp P g c args hc (upQ Q)):qL Xp P g c args hc Q:=by
 intro O w σ vals hg hh hr;refine qG.map (λ_ h=>h) ?_ (h O w σ vals hg hh hr);rintro v w' ⟨r,hs,Z',hq,h1,h2,h3,h4,h5,h6⟩;rcases hq with hq | ⟨r',szs,hu,hq⟩
 ·exact⟨r,hs,Z',hq,h1,h2,h3,h4,h5,h6⟩
 ·have hx:Ext (λb=>Own O Z' b\/(c.fresh=true/\b<w.heap.size)) w' (λb=>Own O (Z'++vj szs.length) b\/(c.fresh=true/\b<w.heap.size)) w':=
   ⟨rfl,rfl,rfl,aJ _,λ_ _ _=>rfl,λb hb=>.inl (hb.imp yC id)⟩
  have hl:hs.length=Z'.length:=h2.len.symm;refine⟨r',hs++VL szs,Z'++vj szs.length,hq,VJ hx (by rw [<- hl]; exact hu) h1,zc0 hx h2 szs,⟨h3.old,λi e ad he had=> ?_,h3.stat.own λb hb=>yC hb⟩,by simp; omega,h5.KF (xy [] w' Z' _),?_⟩
  ·rcases vQ he with ⟨_,he⟩ | ⟨_,rfl⟩
   ·exact h3.dis i e ad he had
   ·cases had
  ·exact⟨h6.os,h6.tape,h6.output,h6.size,h6.keep,λb hb=>h6.grow b (uk hb)⟩
theorem zh0{Xp:List PanicEntry->Prop}{P:Program}{fn:Func}{X:Type}{inp:X->List AV}{hin:X->Heap}{pre:X->Prop}{ok:X->Bool}{out:X->AV×Heap}{g:Nat}{c:Code}(hf:P.funcs[g]?=some fn)(hb:fn.body=some c) (hn:(fn.name == "runtime.NumGoroutine")=false)
  (H:∀ x,pre x->∀ (O:Nat->Prop) (w0:World) (I0:List SE) (Q:AV×Heap->Prop),I0.length=(hin x).length->(ok x=true->Q (out x)) ->
   Uv Xp P fn O (hin x).length w0 I0 (λ_ _ _=>False) (RetR (ctrS inp hin pre ok out) (hin x).length (upQ Q)) [.code c] (wM fn (inp x) (hin x))):zA Xp P g (ctrS inp hin pre ok out):=by
 intro args hc Q hq _;obtain⟨x,⟨h1,h2,h3,h4⟩,h5,h6⟩:=hq;refine qL.le h1 (qL.leH h2 h3 (qL.up (zh2 hf hb hn (λh=>by cases h) λO w0 I0 hl=> ?_)));exact H x h4 O w0 I0 Q hl h5
theorem zA.znp{Xp:List PanicEntry->Prop}{P:Program}{X:Type}{inp:X->List AV}{pre:X->Prop}{ok:X->Bool}{out:X->AV×Heap}{out':X->AV}{g:Nat}(h:zA Xp P g (ctrS inp (λ_=>[]) pre ok out))
  (he:∀ x,LeA (exp2 (out x).2 [] (out x).1) (out' x)):zA Xp P g (ctrS inp (λ_=>[]) pre ok λx=>(out' x,[])):=by
 intro args hc Q hq _;obtain⟨x,⟨h1,h2,h3,h4⟩,h5,h6⟩:=hq;have h0:hc=[]:=aU.1 h3;subst h0;have k:=h args [] (λp=>(ok x=true/\p=out x)\/p=(.bot,[])) ⟨x,⟨h1,h2,h3,h4⟩,λho=>.inl ⟨ho,rfl⟩,λho=>.inr rfl⟩ (λh=>by cases h);intro O w σ vals hg hh hr;have hZ:σ=[]:=aU.1 (by simpa using hh.len);subst hZ;refine qG.map (λ_ h=>h) ?_ (k O w [] vals hg hh hr);rintro v w' ⟨a,hs,Z',hq,g1,g2,g3,g4,g5,g6⟩;rcases hq with ⟨ho,e⟩ | e
 ·have ea:a=(out x).1:=by rw [<- e]
  have eh:hs=(out x).2:=by rw [<- e]
  have sub:∀ b,Own O Z' b->(Own O Z' b\/((ctrS inp (λ_=>[]) pre ok out).fresh=true/\b<w.heap.size)):=λb hb=>.inl hb
  have XX:Exp O w' Z' hs [] [] (λb=>Own O [] b\/((ctrS inp (λ_=>[]) pre ok λx=>(out' x,([]:Heap))).fresh=true/\b<w.heap.size)):=
   ⟨g3,⟨g2.len,g2.inj,g2.lt,λi e b he hb=>Wt sub (g2.blk i e b he hb)⟩,rfl,by simp,λj=>by simp,λb hb=>by
    rcases hb with hb | ⟨hb,_⟩
    ·exact .inl hb
    ·cases hb⟩
  have hin':∀ b,(Own O [] b\/((ctrS inp (λ_=>[]) pre ok λx=>(out' x,([]:Heap))).fresh=true/\b<w.heap.size))->Own O Z' b:=λb hb=>by
   rcases hb with (hb | ⟨e,he,_⟩) | ⟨hb,_⟩
   ·exact .inl hb
   ·simp at he
   ·cases hb
  refine⟨out' x,[],[],h5 ho,he x _ _ _ _ ?_,⟨rfl,λi j e f a b he=>by simp at he,λi e a he=>by simp at he,λi e b he=>by simp at he⟩,⟨g3.old,λi e ad he=>by simp at he,g3.stat.own λb hb=>by
   rcases hb with hb | ⟨e,he,_⟩
   ·exact .inl hb
   ·simp at he⟩,aJ _,λi e he=>by simp at he,⟨g6.os,g6.tape,g6.output,g6.size,λb hb hno=>g6.keep b hb hno,λb hb=>by obtain⟨_,he,_⟩:=hb; simp at he⟩⟩
  rw [<- ea,<- eh];exact ux XX (.inl hin') (wq sub g1)
 ·cases e;exact g1.elim
theorem Yp{P:Program}{g:Nat}{fn:Func}{c:Code}(hf:P.funcs[g]?=some fn)(hb:fn.body=some c) (hn:(fn.name == "runtime.NumGoroutine")=false) {T:TypeId} {Xp:List PanicEntry->Prop} {X:Type} (av:X->AV) (val:X->Value)
  (hav:∀ x own w σ v,Rep own w (av x) σ v↔v=val x)
  (W:∀ x e w,Calls P g #[val x,.i e] w λen w'=>w'=w/\((e=0/\en = .returned (val x))\/(e≠0/\en = .panicked [{ v:=.iface T (.agg #[.i e]),recovered:=false }]))) :
  zA Xp P g (ctrS (λ(x:X×Int)=>[av x.1,.i x.2]) (λ_=>[]) (λx=>x.2≠0->Xp (Za T x.2)) (λx=>decide (x.2=0)) (λx=>(av x.1,[]))):=by
 intro args hc Q hq _;obtain⟨⟨x,e⟩,⟨h1,h2,h3,h4⟩,h5,h6⟩:=hq;obtain rfl:hc=[]:=aU.1 h3;refine qL.le h1 ?_;intro O w σ vals hg hh hr;simp only [RepL] at hr;obtain⟨v0,r0,rfl,h0,v1,r1,rfl,h1,rfl⟩:=hr;rw [hav] at h0;simp only [Rep] at h1;subst h0 h1;have hn':¬ fn.name = "runtime.NumGoroutine" :=by simpa using hn
 left;refine⟨by simp [callFunc,hf,hn',hb],?_⟩;refine(W x e w).mono ?_;rintro en w' ⟨rfl,⟨he,rfl⟩ | ⟨he,rfl⟩⟩
 ·left;refine⟨_,rfl,av x,[],σ,h5 (aX he),(hav ..).2 rfl,⟨hh.len,hh.inj,hh.lt,λ_ _ _ _ h=>by simp at h⟩,hg,aJ _,WR _ _ _,Ext.refl _ _⟩
 ·right;exact⟨_,rfl,h4 he,rfl,rfl,rfl,aJ _,λ_ _ _=>rfl,λ_ h=>h.elim⟩
end Go.Sx
end
section
set_option maxRecDepth 100000
open Go Go.Sx Go.Proofs Go.Nov
namespace Go.Proofs.Tryz
attribute [local simp] eqKV eqA eqA0 eqH eqB eqL eqL0
def zq1:Ctr:=ctrP false (λp:Fl=>[.i p.date,.str p.src,.str p.dst,.str p.ccy,.str p.amt]) (λp=>p.amt≠[]/\p.amt.length<2^40) (λ_ (_:Unit)=>True) (λp _=>(.osl 0 5 0 (payF p.date p.src p.dst p.ccy p.amt).length,[.arr (payF p.date p.src p.dst p.ccy p.amt).length 5 (flG (payF p.date p.src p.dst p.ccy p.amt))]))
theorem zmv:zg prog 125 zq1:=by
 refine X6 (fn:=f125) (c:=f125.body.getD .skip) rfl rfl rfl λp hp O w0 Q hq=> ?_
 obtain⟨d,a,b,n,r⟩:=p;obtain⟨h1,h2⟩:=hp;simp only at h1 h2;replace hq:=hq () trivial;simp only at hq;refine zd.n zJ [] (.D (r=#[(48:UInt8)].toList) (.R [.nils] []) (.side ((0:Int)<=0/\(0:Int)<r.length) (.D ((↑(UInt8.toNat (r.getD 0 (0:UInt8))):Int)=45) (.side ((0:Int)<=1/\(1:Int)<=r.length) (.R [.osl 0 5 0 1] [.arr 1 5 (zj 5 [.i d,.str b,.str a,.str n,.str (List.drop 1 (List.take r.length r))])])) (.R [.osl 0 5 0 1] [.arr 1 5 (zj 5 [.i d,.str a,.str b,.str n,.str r])])))) ?_;simp only [Tree.holds,zh];have hl:0<r.length:=List.length_pos_iff.2 h1
 have e45:decide (((r.getD 0 0).toNat:Int)=45)=decide (r.getD 0 0=45):=by
  by_cases e:r.getD 0 0=45
  ·rw [e]; rfl
  ·rw [aW e,aW];intro h;refine e (UInt8.toNat_inj.1 ?_);show _=45;omega
 rw [e45];unfold payF at hq;refine⟨λh=> ?_,λh=>⟨⟨Int.le_refl _,by omega⟩,λ_=>⟨λh'=>⟨⟨by decide,by omega⟩,λ_=> ?_⟩,λh'=> ?_⟩⟩⟩
 ·rw [aP (aB h)] at hq;exact RetR.le0 (Q:=upQ Q) (r:=.nils) (.inr ⟨.osl 0 5 0 0,[(5,flG [])],⟨⟨aJ _,Nat.zero_lt_one⟩,rfl,rfl⟩,hq⟩) (λh=>by cases h) (LeA.refl _)
 ·rw [aO (aC h),aP (aB h')] at hq;rw [bD]
  exact RetR.zc8 (Q:=upQ Q) [0] rfl rfl (by simp) rfl (.inl hq) (LeA.refl _) ⟨LeB.arr λj o hj ho=>by
   rcases(show j=0 by omega) with rfl;rcases(show o=0\/o=1\/o=2\/o=3\/o=4 by omega) with rfl | rfl | rfl | rfl | rfl<;>exact LeA.refl _,trivial⟩
 ·rw [aO (aC h),aO (aC h')] at hq
  exact RetR.zc8 (Q:=upQ Q) [0] rfl rfl (by simp) rfl (.inl hq) (LeA.refl _) ⟨LeB.arr λj o hj ho=>by
   rcases(show j=0 by omega) with rfl;rcases(show o=0\/o=1\/o=2\/o=3\/o=4 by omega) with rfl | rfl | rfl | rfl | rfl<;>exact LeA.refl _,trivial⟩
noncomputable def K115:=Go.Sx.aA f115
def zpy:Ctr:=ctrP true (λp:Fl×Fl=>[p.1.av,p.2.av]) (λ_=>True) (λ_ (_:Unit)=>True) (λp _=>(.bool (decide (p.1.date<p.2.date)),[]))
theorem zmb:zg prog 86 zpy:=by
 refine zm' f86 λp hp O w0 Q hq=> ?_
 obtain⟨⟨d,a,b,n,r⟩,⟨d',a',b',n',r'⟩⟩:=p;replace hq:=hq () trivial;refine zd.n zJ [] (.R [.bool (decide (d<d'))] [.box [.i d,.str a,.str b,.str n,.str r],.box [.i d',.str a',.str b',.str n',.str r']]) ?_;simp only [Tree.holds,zh];exact RetR.scal hq rfl (by simp [resV])
theorem Q4{o a:List Fl}{m n:Nat}(hm:m=o.length)(hn:n=a.length):eqG (m+n) 5 (appG m (flG o) (flG a)) (flG (o++a)):=by
 intro j k hj hk;subst hm hn;simp only [appG,flG,List.getD_eq_getElem?_getD,bT];split<;>rfl
theorem YT{o:List Fl}{x:Fl} : eqG (o.length+1) 5 (appG o.length (flG o) (zf (zj 5 [.i x.date,.str x.src,.str x.dst,.str x.ccy,.str x.amt]) 0)) (flG (o++[x])):=by
 intro j k hj hk;simp only [appG,flG,List.getD_eq_getElem?_getD,bT];split
 ·rfl
 ·have e:j - o.length=0:=by omega
  rw [e];rcases(show k=0\/k=1\/k=2\/k=3\/k=4 by omega) with rfl | rfl | rfl | rfl | rfl<;>rfl
theorem XV{x:Fl}{l:List Fl}{n:Nat} : eqG n 5 (zf (flG (x::l)) 1) (flG l):=by
 intro j k hj hk;simp only [zf,flG,Nat.add_comm 1 j,List.getD_cons_succ]
def SMg(a b:List Fl)(n:Nat):KV:=[(0,flS a),(1,flS b),(2,.fn 86 [] []),(7,.osl 0 5 0 n),Z 12,Z 13,Z 14]
def zh4:Ctr:=ctrP false (λp:List Fl×List Fl=>[flS p.1,flS p.2,.fn 86 [] []]) (λp=>p.1.length+p.2.length<2^36) (λ_ (_:Unit)=>True) (λp _=>(flS (q6 (p.1.length+p.2.length) p.1 p.2),[]))
noncomputable def GBx:=tb zmb tz
theorem zg5:zg prog 115 zh4:=by
 refine zm' f115 λp hp O w0 Q hq=> ?_
 obtain⟨a,b⟩:=p;simp only at hp;replace hq:=hq () trivial;simp only at hq;refine zd.n GBx.h [0,1,2,7,12,13,14] (.leaf (.loop (lps K115 0).1 (lps K115 0).2 [(0,.sl a.length 5 (flG a)),(1,.sl b.length 5 (flG b)),(2,.fn 86 [] []),(7,.nils),Z 12,Z 13,Z 14] [])) ?_;simp only [Tree.holds,zh,inR,lo,hi,aD];refine zd.bear 7 5 (flG []) rfl (by decide) (by kernel_rfl) ?_;refine zd.loop (ι:={z:List Fl×List Fl×List Fl // z.1++q6 (z.2.1.length+z.2.2.length) z.2.1 z.2.2=q6 (a.length+b.length) a b/\z.1.length+z.2.1.length+z.2.2.length=a.length+b.length}) (λz=>SMg z.1.2.1 z.1.2.2 z.1.1.length) (λz=>[.arr z.1.1.length 5 (flG z.1.1)]) (λz=>z.1.2.1.length+z.1.2.2.length) ⟨([],a,b),by simp⟩ 0 ?_ ?_ (by kernel_rfl)
 ·exact⟨by simp [SMg,xE,za,flS],by simp [za],by kernel_rfl,aI _⟩
 ·rintro⟨⟨o,a',b'⟩,h1,h2⟩;simp only at h1 h2;refine zd.n GBx.h [0,1,2,7,12,13,14] (let v6:=o.length+1;let v5:=o.length+List.length a'+List.length b';let v2:=a'.getD 0 Fl.nil;let v4:=zj 5 [.i v2.date,.str v2.src,.str v2.dst,.str v2.ccy,.str v2.amt];let v1:=b'.getD 0 Fl.nil;let v3:=zj 5 [.i v1.date,.str v1.src,.str v1.dst,.str v1.ccy,.str v1.amt];.ite (bif decide ((0:Int)<(a'.length:Int)) then decide ((0:Int)<(b'.length:Int)) else false) (.side ((0:Int)<=0/\(0:Int)<(b'.length:Int)) (.side ((0:Int)<=0/\(0:Int)<(a'.length:Int)) (.ex (λ(x:Fl×Fl)=>eqL [.agg [.i v1.date,.str v1.src,.str v1.dst,.str v1.ccy,.str v1.amt],.agg [.i v2.date,.str v2.src,.str v2.dst,.str v2.ccy,.str v2.amt]] [.agg [.i x.1.date,.str x.1.src,.str x.1.dst,.str x.1.ccy,.str x.1.amt],.agg [.i x.2.date,.str x.2.src,.str x.2.dst,.str x.2.ccy,.str x.2.amt]]/\True) λn=>.A λn_1=>.D (Fl.date n.1<Fl.date n.2) (.side ((0:Int)<=0/\(0:Int)<(b'.length:Int)) (.side ((0:Int)<=1/\(1:Int)<=(b'.length:Int)) (.side (0=0/\o.length<=o.length/\v6 *72<=140737488355328) (.leaf (.back 0 [(0,.sl a'.length 5 (flG a')),(1,.sl (List.length b' - 1) 5 (zf (flG b') 1)),(2,.fn 86 [] []),(7,.osl 0 5 0 v6),Z 12,Z 13,Z 14] [.arr v6 5 (appG o.length (flG o) (zf v3 0)),.arr 1 5 v3]))))) (.side ((0:Int)<=0/\(0:Int)<(a'.length:Int)) (.side ((0:Int)<=1/\(1:Int)<=(a'.length:Int)) (.side (0=0/\o.length<=o.length/\v6 *72<=140737488355328) (.leaf (.back 0 [(0,.sl (List.length a' - 1) 5 (zf (flG a') 1)),(1,.sl b'.length 5 (flG b')),(2,.fn 86 [] []),(7,.osl 0 5 0 v6),Z 12,Z 13,Z 14] [.arr v6 5 (appG o.length (flG o) (zf v4 0)),.arr 1 5 v4])))))))) (.side (0=0/\o.length<=o.length/\(o.length+List.length a')*72<=140737488355328) (.side (0=0/\o.length+List.length a'<=o.length+List.length a'/\v5 *72<=140737488355328) (.R [.osl 0 5 0 v5] [.arr v5 5 (appG (o.length+List.length a') (appG o.length (flG o) (flG a')) (flG b'))])))) ?_;simp only [Tree.holds,zh,inR,lo,hi,aD];refine⟨λhlt=> ?_,λhge=> ?_⟩
  ·match a',b' with
   | [],_=>simp at hlt
   | x::a',[]=>simp at hlt
   | x::a',y::b'=>
    simp only [aL] at h1 h2 ⊢;have e1:(x::a').getD 0 Fl.nil=x:=rfl;have e2:(y::b').getD 0 Fl.nil=y:=rfl;rw [e1,e2];rw [show a'.length+1+(b'.length+1)=(a'.length+b'.length+1)+1 by omega,q6] at h1;refine⟨⟨Int.le_refl _,by omega⟩,λ_=>⟨⟨Int.le_refl _,by omega⟩,λ_=>⟨(y,x),⟨by simp,trivial⟩,⟨(),trivial⟩,λ_ _=>⟨λh=> ?_,λh=> ?_⟩⟩⟩⟩
    ·replace h:=aB h;rw [aP h] at h1;refine⟨⟨Int.le_refl _,by omega⟩,λ_=>⟨⟨by decide,by omega⟩,λ_=>⟨⟨trivial,aJ _,by omega⟩,λ_=> ?_⟩⟩⟩;rw [aP trivial];refine⟨⟨(o++[y],x::a',b'),?_,?_⟩,?_,?_,?_,by kernel_rfl,aI _⟩
     ·show _=_;rw [<- h1]; simp; try congr 1; try omega
     ·show _=_;simp; omega
     ·show _<_;simp
     ·refine⟨rfl,⟨rfl,rfl,λ_ _ _ _=>rfl⟩,rfl,⟨rfl,rfl,XV⟩,rfl,rfl,rfl,⟨rfl,rfl,rfl,by simp⟩,by simp⟩
     ·exact⟨⟨by simp,rfl,YT⟩,trivial⟩
    ·replace h:=aC h;rw [aO h] at h1;refine⟨⟨Int.le_refl _,by omega⟩,λ_=>⟨⟨by decide,by omega⟩,λ_=>⟨⟨trivial,aJ _,by omega⟩,λ_=> ?_⟩⟩⟩;rw [aP trivial];refine⟨⟨(o++[x],a',y::b'),?_,?_⟩,?_,?_,?_,by kernel_rfl,aI _⟩
     ·show _=_;rw [<- h1]; simp; try congr 1; try omega
     ·show _=_;simp; omega
     ·show _<_;simp
     ·exact⟨rfl,⟨rfl,rfl,XV⟩,rfl,⟨rfl,rfl,λ_ _ _ _=>rfl⟩,rfl,rfl,rfl,⟨rfl,rfl,rfl,by simp⟩,by simp⟩
     ·exact⟨⟨by simp,rfl,YT⟩,trivial⟩
  ·have he:q6 (a'.length+b'.length) a' b'=a'++b':=by
    match a',b' with
    | [],b'=>rw [xm]; rfl
    | a',[]=>rw [yD]; simp
    | x::a',y::b'=>
     have:decide ((0:Int)<((x::a').length:Int))=true:=aX (by simp);rw [this] at hge;have:decide ((0:Int)<((y::b').length:Int))=true:=aX (by simp);rw [this] at hge;cases hge
   rw [he] at h1;rw [<- h1] at hq;refine⟨⟨trivial,aJ _,by omega⟩,λ_=>⟨⟨trivial,aJ _,by omega⟩,λ_=> ?_⟩⟩;refine RetR.le0 hq (λh=>by cases h) (LeA.sl (by simp; omega) λj k hj hk=> ?_);rw [<- List.append_assoc];have:=Q4 (o:=o++a') (a:=b') (m:=o.length+a'.length) (n:=b'.length) (by simp) rfl j k hj hk;rw [<- this];simp only [zf,Nat.zero_add,appG];split
   ·rename_i hlt;have:=Q4 (o:=o) (a:=a') rfl rfl j k hlt hk;simp only [appG] at this;rw [this];exact LeA.refl _
   ·exact LeA.refl _
def ordC(n:Nat):Ctr:=ctrP false (λl:List Fl=>[flS l,.fn 86 [] []]) (λl=>l.length<n/\l.length<2^36) (λ_ (_:Unit)=>True) (λl _=>(flS (ordM l),[]))
noncomputable def GMg:=tb zg5 tz
noncomputable def GOr(n:Nat):Nat->Option Ctr:=λf=>if f=84 then some (ordC n) else GMg.g f
theorem zs3{n:Nat}(h:zg prog 84 (ordC n)):∀ f c,GOr n f=some c->zg prog f c:=by
 intro f c hf;simp only [GOr] at hf;split at hf
 ·rename_i hg; subst hg; cases hf; exact h
 ·exact GMg.h f c hf
theorem zhc(n:Nat)(ih:zg prog 84 (ordC n)):zg prog 84 (ordC (n+1)):=by
 refine zm' f84 λl hp O w0 Q hq=> ?_
 obtain⟨h1,h2⟩:=hp;replace hq:=hq () trivial;refine zd.n (zs3 ih) [] (let v1:=Int.tdiv (l.length:Int) (2:Int);.D ((l.length:Int)<2) (.R [.sl l.length 5 (flG l)] []) (.side ((2:Int)≠0/\inR .i64 v1) (.side ((0:Int)<=Int.tdiv (l.length:Int) (2:Int)/\Int.tdiv (l.length:Int) (2:Int)<=l.length) (.side ((0:Int)<=Int.tdiv (l.length:Int) (2:Int)/\Int.tdiv (l.length:Int) (2:Int)<=l.length) (.ex (λ(x:List Fl)=>eqL [.sl (Int.toNat v1 - 0) 5 (zf (flG l) 0),.fn 86 [] []] [.sl x.length 5 (flG x),.fn 86 [] []]/\x.length<n/\x.length<68719476736) λn_1=>.A λn_2=>.ex (λ(x:List Fl)=>eqL [.sl (l.length - Int.toNat v1) 5 (zf (flG l) (Int.toNat v1)),.fn 86 [] []] [.sl x.length 5 (flG x),.fn 86 [] []]/\x.length<n/\x.length<68719476736) λn=>.A λn_3=>.ex (λ(x:List Fl×List Fl)=>eqL [.sl (ordM n_1).length 5 (flG (ordM n_1)),.sl (ordM n).length 5 (flG (ordM n)),.fn 86 [] []] [.sl x.1.length 5 (flG x.1),.sl x.2.length 5 (flG x.2),.fn 86 [] []]/\x.1.length+x.2.length<68719476736) λn=>let v2:=q6 (n.1.length+n.2.length) n.1 n.2;.A λn_4=>.R [.sl (List.length v2) 5 (flG v2)] []))))) ?_;simp only [Tree.holds,zh,inR,lo,hi,aD];have et:((l.length:Int).tdiv 2)=((l.length/2:Nat):Int):=rfl;rw [et];simp only [aD];refine⟨λh=> ?_,λh=> ?_⟩
 ·have hl:l.length<2:=by have:=aB h; omega
  have he:ordM l=l:=by rw [<- Zc (n:=2) (by omega),ordP,aP hl]
  rw [he] at hq;exact RetR.le0 hq (λh=>by cases h) (LeA.refl _)
 ·have hl:2<=l.length:=by have:=aC h; omega
  have ho:∀ m:List Fl,(ordM m).length=m.length:=λm=>by rw [<- Zc (aJ _)]; exact(Zf m.length m (aJ _)).2.2
  have he:ordM l=q6 ((ordM (l.take (l.length/2))).length+(ordM (l.drop (l.length/2))).length) (ordM (l.take (l.length/2))) (ordM (l.drop (l.length/2))):=by
   rw [<- Zc (l:=l) (n:=l.length+1) (by omega),ordP,aO (by omega),Zc (by rw [aH]; omega),Zc (by rw [bV]; omega),ho,ho,aH,bV];congr 1; omega
  rw [he] at hq;refine⟨⟨by decide,by omega,by omega⟩,λ_=>⟨⟨by omega,by omega⟩,λ_=>⟨⟨by omega,by omega⟩,λ_=>⟨l.take (l.length/2),⟨⟨⟨by rw [aH]; omega,rfl,?_⟩,rfl,trivial⟩,by rw [aH]; omega,by rw [aH]; omega⟩,⟨(),trivial⟩,λ_ _=>⟨l.drop (l.length/2),⟨⟨⟨by rw [bV],rfl,?_⟩,rfl,trivial⟩,by rw [bV]; omega,by rw [bV]; omega⟩,⟨(),trivial⟩,λ_ _=>⟨(ordM (l.take (l.length/2)),ordM (l.drop (l.length/2))),⟨⟨⟨rfl,rfl,λ_ _ _ _=>rfl⟩,⟨rfl,rfl,λ_ _ _ _=>rfl⟩,rfl,trivial⟩,by simp only [ho,aH,bV]; omega⟩,⟨(),trivial⟩,λ_ _=> ?_⟩⟩⟩⟩⟩⟩
  ·intro j k hj hk;simp only [zf,flG,Nat.zero_add,List.getD_eq_getElem?_getD,bR];rw [aP (by omega)]
  ·intro j k hj hk;simp only [zf,flG,List.getD_eq_getElem?_getD,List.getElem?_drop]
  ·exact RetR.le0 hq (λh=>by cases h) (LeA.refl _)
theorem zn8(n:Nat):zg prog 84 (ordC n):=by
 induction n with
 | zero=>
  intro args hc Q hq _;simp only [ordC,ctrP] at hq;split at hq
  ·obtain⟨x,⟨_,h,_⟩,_⟩:=hq;exact absurd h (Nat.not_lt_zero _)
  ·exact hq.elim
 | succ n ih=>exact zhc n ih
def zia:Ctr:=ctrP false (λl:List Fl=>[flS l,.fn 86 [] []]) (λl=>l.length<2^36) (λ_ (_:Unit)=>True) (λl _=>(flS (ordM l),[]))
theorem zqv:zg prog 84 zia:=by
 intro args hc Q hq hf;refine zn8 (2^36) args hc Q ?_ hf;simp only [zia,ordC,ctrP] at hq ⊢;split at hq
 ·obtain⟨x,⟨h1,h2⟩,h3⟩:=hq;exact⟨x,⟨h1,h2,h2⟩,h3⟩
 ·exact hq.elim
noncomputable def K72:=Go.Sx.aA f72
def nanS:Ctr:=ctrP true (λs:L8=>[.str s]) (λ_=>True) (λs r=>r=false) (λ_ (r:Bool)=>(.bool r,[]))
def nanI:Ctr:=ctrP true (λx:Int=>[.i x]) (λ_=>True) (λs r=>r=false) (λ_ (r:Bool)=>(.bool r,[]))
theorem zmg:zg prog 100 nanS:=by
 refine zm' f100 λs hs O w0 Q hq=> ?_
 replace hq:=hq _ rfl;refine zd.n zJ [] (.R [.bool !decide (s=s)] []) ?_;simp only [Tree.holds,zh];exact RetR.scal hq rfl (by simp [resV])
theorem zou:zg prog 101 nanI:=by
 refine zm' f101 λs hs O w0 Q hq=> ?_
 replace hq:=hq _ rfl;refine zd.n zJ [] (.R [.bool !decide (s=s)] []) ?_;simp only [Tree.holds,zh];exact RetR.scal hq rfl (by simp [resV])
def zq0:Ctr:=ctrP true (λp:L8×L8=>[.str p.1,.str p.2]) (λ_=>True) (λp r=>r=cmpS p.1 p.2) (λ_ (r:Int)=>(.i r,[]))
def zq6:Ctr:=ctrP true (λp:Int×Int=>[.i p.1,.i p.2]) (λ_=>True) (λp r=>r=cmpI p.1 p.2) (λ_ (r:Int)=>(.i r,[]))
noncomputable def GN2:=tb zmg (tb zou tz)
theorem zo7:zg prog 73 zq0:=by
 refine zm' f73 λp hs O w0 Q hq=> ?_
 obtain⟨s,t⟩:=p;replace hq:=hq _ rfl;simp only at hq;refine zd.n GN2.h [] (.ex (q32 [.str s]) λn=>.all (λ(r:Bool)=>r=false) λn=>.ex (q32 [.str t]) λn_1=>.all (λ(r:Bool)=>r=false) λn_2=>.ite n (.ite n_2 (.R [.int .i64 0] []) (.R [.int .i64 (-1:Int)] [])) (.ite n_2 (.R [.int .i64 1] []) (.ite (Op.bytesLess s t) (.R [.int .i64 (-1:Int)] []) (.ite (!(Op.bytesLess s t||decide (s=t))) (.R [.int .i64 1] []) (.R [.int .i64 0] []))))) ?_;simp only [q32,Tree.holds,zh];refine⟨s,⟨by simp,trivial⟩,⟨_,rfl⟩,?_⟩;rintro _ rfl;refine⟨t,⟨by simp,trivial⟩,⟨_,rfl⟩,?_⟩;rintro _ rfl;refine⟨λh=>(by cases h),λ_=>⟨λh=>(by cases h),λ_=>⟨λh=> ?_,λh=>⟨λh2=> ?_,λh2=> ?_⟩⟩⟩⟩
 ·have:cmpS s t = -1:=by simp [cmpS,h]
  rw [this] at hq; exact RetR.scal hq rfl (by simp [resV])
 ·have h2:s≠t:=by simpa [h] using h2
  have:cmpS s t=1:=by simp [cmpS,h,h2]
  rw [this] at hq; exact RetR.scal hq rfl (by simp [resV])
 ·have h2:s=t:=by simpa [h] using h2
  subst h2;have:cmpS s s=0:=by simp [cmpS,h]
  rw [this] at hq; exact RetR.scal hq rfl (by simp [resV])
theorem zo2:zg prog 74 zq6:=by
 refine zm' f74 λp hs O w0 Q hq=> ?_
 obtain⟨s,t⟩:=p;replace hq:=hq _ rfl;simp only at hq;refine zd.n GN2.h [] (.ex (q21 [.i s]) λn=>.all (λ(r:Bool)=>r=false) λn=>.ex (q21 [.i t]) λn_1=>.all (λ(r:Bool)=>r=false) λn_2=>.ite n (.ite n_2 (.R [.i 0] []) (.R [.i (-1:Int)] [])) (.ite n_2 (.R [.i 1] []) (.D (s<t) (.R [.i (-1:Int)] []) (.D (t<s) (.R [.i 1] []) (.R [.i 0] []))))) ?_;simp only [q21,Tree.holds,zh];refine⟨s,⟨by simp,trivial⟩,⟨_,rfl⟩,?_⟩;rintro _ rfl;refine⟨t,⟨by simp,trivial⟩,⟨_,rfl⟩,?_⟩;rintro _ rfl;refine⟨λh=>(by cases h),λ_=>⟨λh=>(by cases h),λ_=>⟨λh=> ?_,λh=>⟨λh2=> ?_,λh2=> ?_⟩⟩⟩⟩
 ·have h:=aB h;have:cmpI s t = -1:=by simp [cmpI,h]
  rw [this] at hq; exact RetR.scal hq rfl (by simp [resV])
 ·have h:=aC h;have h2:=aB h2;have:cmpI s t=1:=by simp [cmpI,h,h2]
  rw [this] at hq; exact RetR.scal hq rfl (by simp [resV])
 ·have h:=aC h;have h2:=aC h2;have:cmpI s t=0:=by simp [cmpI,h,h2]
  rw [this] at hq; exact RetR.scal hq rfl (by simp [resV])
def orC:Ctr:=ctrP true (λl:List Int=>[.sl l.length 1 (λj _=>.i (l.getD j 0))]) (λl=>l.length<2^40) (λl r=>r=orI l) (λ_ (r:Int)=>(.i r,[]))
def SOr(l:List Int)(i:Nat):KV:=[(3,.i 0),(6,.sl l.length 1 (λj _=>.i (l.getD j 0))),(7,.i (l.length:Int)),(8,.i (i:Int))]
theorem zsz:zg prog 72 orC:=by
 refine zm' f72 λl hl O w0 Q hq=> ?_
 replace hq:=hq _ rfl;refine zd.n zJ [3,6,7,8] (.leaf (.loop (lps K72 0).1 (lps K72 0).2 [(3,.i 0),(6,.sl l.length 1 λ(j x:Nat)=>.i (l.getD j (0:Int))),(7,.i l.length),(8,.i 0)] [])) ?_;simp only [Tree.holds,zh];refine zd.loop (ι:={i:Nat // i<=l.length/\orI (l.drop i)=orI l}) (λi=>SOr l i.1) (λ_=>[]) (λi=>l.length - i.1) ⟨0,aI _,rfl⟩ 0 ?_ ?_ (by kernel_rfl)
 ·exact⟨by simp [SOr,za],by simp,by kernel_rfl,aI _⟩
 ·rintro⟨i,hil,hio⟩;refine zd.n zJ [3,6,7,8] (.D ((i:Int)<l.length) (.side ((0:Int)<=i/\(i:Int)<l.length) (.N (l.getD (i:Int).toNat (0:Int)=0) (.R [.i (l.getD (i:Int).toNat (0:Int))] []) (.S (i+1) (.leaf (.back 0 [(3,.i 0),(6,.sl l.length 1 λ(j x:Nat)=>.i (l.getD j (0:Int))),(7,.i l.length),(8,.i (i+1))] []))))) (.R [.i 0] [])) ?_;simp only [Tree.holds,zh,inR,lo,hi,aD];refine⟨λhlt=> ?_,λhge=> ?_⟩
  ·have hlt:i<l.length:=by have:=aB hlt; omega
   have hd:l.drop i=l.getD i 0::l.drop (i+1):=by
    rw [List.drop_eq_getElem_cons hlt]; simp [List.getD,hlt]
   rw [hd] at hio;refine⟨by omega,λ_=>⟨λh=> ?_,λh=>⟨by omega,λ_=> ?_⟩⟩⟩
   ·have h:l.getD i 0≠0:=by simpa using h
    have:orI l=l.getD i 0:=by rw [<- hio]; simp only [orI]; rw [aO h]
    rw [this] at hq; exact RetR.scal hq rfl (by simp [resV])
   ·have h:l.getD i 0=0:=by simpa using h
    rw [aP trivial];refine⟨⟨i+1,hlt,?_⟩,by show l.length - (i+1)<l.length - i; omega,by simp [SOr,za],by simp,by kernel_rfl,aI _⟩;rw [<- hio]; simp only [orI]; rw [aP h]
  ·have hge:i=l.length:=by have:=aC hge; omega
   subst hge;rw [List.drop_length] at hio;rw [<- hio] at hq; exact RetR.scal hq rfl (by simp [resV,orI])
def Wd:Ctr:=ctrP true (λp:Fx×Fx=>[p.1.av,p.2.av]) (λ_=>True) (λp r=>r=cmpF p.1 p.2) (λ_ (r:Int)=>(.i r,[]))
def WB:Ctr:=ctrP true (λp:Ch×Ch=>[p.1.av,p.2.av]) (λ_=>True) (λp r=>r=cmpC p.1 p.2) (λ_ (r:Int)=>(.i r,[]))
noncomputable def GN3:=tb zo7 (tb zo2 (tb zsz tz))
theorem zem(x y:Int):eqG 2 1 (zf (zj 1 [.i x,.i y]) 0) (λj _=>.i ([x,y].getD j 0)):=by
 intro j o hj ho;have ho:o=0:=by omega
 subst ho;rcases j with _ | _ | j
 ·rfl
 ·rfl
 ·omega
theorem zfw(x y z:Int):eqG 3 1 (zf (zj 1 [.i x,.i y,.i z]) 0) (λj _=>.i ([x,y,z].getD j 0)):=by
 intro j o hj ho;have ho:o=0:=by omega
 subst ho;rcases j with _ | _ | _ | j
 ·rfl
 ·rfl
 ·rfl
 ·omega
abbrev q51(A:List AV)(x:Int×Int):Prop:=eqL A [.i x.1,.i x.2]/\True
abbrev q50(A:List AV)(x:L8×L8):Prop:=eqL A [.str x.1,.str x.2]/\True
theorem JE:zg prog 41 Wd:=by
 refine zm' f41 λp hs O w0 Q hq=> ?_
 obtain⟨⟨a,d,v⟩,⟨b,e,u⟩⟩:=p;replace hq:=hq _ rfl;simp only at hq;refine zd.n GN3.h [] (.ex (q50 [.str a,.str b]) λn=>.all (λ(r:Int)=>r=cmpS n.1 n.2) λn=>.ex (q51 [.i d,.i e]) λn_1=>.all (λ(r:Int)=>r=cmpI n_1.1 n_1.2) λn_2=>.ex (λ(x:List Int)=>eqL [.sl 2 1 (zf (zj 1 [.i n,.i n_2]) 0)] [.sl x.length 1 λ(j x_1:Nat)=>AV.i (x.getD j (0:Int))]/\x.length<1099511627776) λn_3=>.all (λ(r:Int)=>r=orI n_3) λn_4=>.R [.i n_4] [.box [.str a,.i d,.str v],.box [.str b,.i e,.str u],.arr 2 1 (zj 1 [.i n,.i n_2])]) ?_;simp only [q50,q51,Tree.holds,zh];refine⟨(a,b),⟨by simp,trivial⟩,⟨_,rfl⟩,?_⟩;rintro _ rfl;refine⟨(d,e),⟨by simp,trivial⟩,⟨_,rfl⟩,?_⟩;rintro _ rfl;refine⟨[cmpS a b,cmpI d e],⟨⟨⟨rfl,rfl,zem _ _⟩,trivial⟩,by simp⟩,⟨_,rfl⟩,?_⟩;rintro _ rfl
 have:orI [cmpS a b,cmpI d e]=cmpF ⟨a,d,v⟩ ⟨b,e,u⟩:=by
  simp only [orI,cmpF];by_cases h:cmpS a b=0
  ·simp only [h,if_true]; split<;>simp_all
  ·simp only [aO h]
 rw [this];exact RetR.scal hq rfl (by simp [resV])
theorem W7:zg prog 66 WB:=by
 refine zm' f66 λp hs O w0 Q hq=> ?_
 obtain⟨⟨a,d,v,f⟩,⟨b,e,u,g⟩⟩:=p;replace hq:=hq _ rfl;simp only at hq;refine zd.n GN3.h [] (.ex (q50 [.str a,.str b]) λn=>.all (λ(r:Int)=>r=cmpS n.1 n.2) λn=>.ex (q50 [.str d,.str e]) λn_1=>.all (λ(r:Int)=>r=cmpS n_1.1 n_1.2) λn_2=>.ex (q51 [.i v,.i u]) λn_3=>.all (λ(r:Int)=>r=cmpI n_3.1 n_3.2) λn_4=>.ex (λ(x:List Int)=>eqL [.sl 3 1 (zf (zj 1 [.i n,.i n_2,.i n_4]) 0)] [.sl x.length 1 λ(j x_1:Nat)=>AV.i (x.getD j (0:Int))]/\x.length<1099511627776) λn_5=>.all (λ(r:Int)=>r=orI n_5) λn_6=>.R [.i n_6] [.box [.str a,.str d,.i v,.bool f],.box [.str b,.str e,.i u,.bool g],.arr 3 1 (zj 1 [.i n,.i n_2,.i n_4])]) ?_;simp only [q50,q51,Tree.holds,zh];refine⟨(a,b),⟨by simp,trivial⟩,⟨_,rfl⟩,?_⟩;rintro _ rfl;refine⟨(d,e),⟨by simp,trivial⟩,⟨_,rfl⟩,?_⟩;rintro _ rfl;refine⟨(v,u),⟨by simp,trivial⟩,⟨_,rfl⟩,?_⟩;rintro _ rfl;refine⟨[cmpS a b,cmpS d e,cmpI v u],⟨⟨⟨rfl,rfl,zfw _ _ _⟩,trivial⟩,by simp⟩,⟨_,rfl⟩,?_⟩;rintro _ rfl
 have:orI [cmpS a b,cmpS d e,cmpI v u]=cmpC ⟨a,d,v,f⟩ ⟨b,e,u,g⟩:=by
  simp only [orI,cmpC];by_cases h:cmpS a b=0
  ·simp only [h,if_true];by_cases h2:cmpS d e=0
   ·simp only [h2,if_true]; split<;>simp_all
   ·simp only [aO h2]
  ·simp only [aO h]
 rw [this];exact RetR.scal hq rfl (by simp [resV])
noncomputable def K70:=Go.Sx.aA f70
noncomputable def K93:=Go.Sx.aA f93
noncomputable def K64:=Go.Sx.aA f64
noncomputable def K65:=Go.Sx.aA f65
def xc(f:Fx):Prop:=f.name.length<2^40/\f.value.length<2^40
def yj(c:Ch):Prop:=c.qt.length<2^40/\c.name.length<2^40
def zpg:Ctr:=ctrP true (λf:Fx=>[f.av]) xc (λf r=>r = !okF f) (λ_ (r:Bool)=>(.bool r,[]))
def zpz:Ctr:=ctrP true (λc:Ch=>[c.av]) yj (λc r=>r = !okC c) (λ_ (r:Bool)=>(.bool r,[]))
noncomputable def GE1:=tb K0 (tb ZB (tb kW tz))
theorem zns:zg prog 58 zpg:=by
 refine zm' f58 λf hs O w0 Q hq=> ?_
 obtain⟨a,d,v⟩:=f;obtain⟨h1,h2⟩:=hs;replace hq:=hq _ rfl;simp only [okF] at hq h1 h2;refine zd.n GE1.h [] (.ex (q15 [.str a]) λn=>.all (λ(r:Bool)=>r=qE n) λn=>.ex (λ(x:Int)=>(!n)=false->eqL [.i d] [.i x]/\True) λn_1=>.all (λ(x:Bool)=>(!n)=false->x=dayB n_1) λn_2=>.ex (λ(x:L8)=>(bif !n then true else !n_2)=false->eqL [.str v] [.str x]/\x.length<4611686018427387904) λn_3=>.all (λ(x:Int)=>(bif !n then true else !n_2)=false->x=errR n_3) λn_4=>.R [.bool (bif bif !n then true else !n_2 then true else !decide (n_4=0))] [.box [.str a,.i d,.str v]]) ?_;simp only [q15,Tree.holds,zh];refine⟨a,⟨by simp,by omega⟩,⟨_,rfl⟩,?_⟩;rintro _ rfl;refine⟨d,λ_=>⟨by simp,trivial⟩,⟨_,λ_=>rfl⟩,?_⟩;intro x hx;refine⟨v,λ_=>⟨by simp,by omega⟩,⟨_,λ_=>rfl⟩,?_⟩;intro y hy;refine RetR.scal hq rfl ?_;simp only [resV];cases hn:qE a with
 | false=>rfl
 | true=>
  rw [hx (by rw [hn]; rfl)] at hy ⊢;cases hd:dayB d with
  | false=>rfl
  | true=>rw [hy (by rw [hn,hd]; rfl)]; rfl
theorem zp0:zg prog 61 zpz:=by
 refine zm' f61 λf hs O w0 Q hq=> ?_
 obtain⟨a,v,d,f⟩:=f;obtain⟨h1,h2⟩:=hs;replace hq:=hq _ rfl;simp only [okC] at hq h1 h2;refine zd.n GE1.h [] (.ex (q15 [.str a]) λn=>.all (λ(r:Bool)=>r=qE n) λn=>.ex (λ(x:L8)=>(!n)=false->eqL [.str v] [.str x]/\x.length<4611686018427387904) λn_1=>.all (λ(x:Bool)=>(!n)=false->x=qE n_1) λn_2=>.ex (λ(x:Int)=>(bif !n then true else !n_2)=false->eqL [.i d] [.i x]/\True) λn_3=>.all (λ(x:Bool)=>(bif !n then true else !n_2)=false->x=dayB n_3) λn_4=>.R [.bool (bif bif !n then true else !n_2 then true else !n_4)] [.box [.str a,.str v,.i d,.bool f]]) ?_;simp only [q15,Tree.holds,zh];refine⟨a,⟨by simp,by omega⟩,⟨_,rfl⟩,?_⟩;rintro _ rfl;refine⟨v,λ_=>⟨by simp,by omega⟩,⟨_,λ_=>rfl⟩,?_⟩;intro x hx;refine⟨d,λ_=>⟨by simp,trivial⟩,⟨_,λ_=>rfl⟩,?_⟩;intro y hy;refine RetR.scal hq rfl ?_;simp only [resV];cases hn:qE a with
 | false=>rfl
 | true=>
  rw [hx (by rw [hn]; rfl)] at hy ⊢;cases hd:qE v with
  | false=>rfl
  | true=>rw [hy (by rw [hn,hd]; rfl)]; rfl
def zpi:Ctr:=ctrP true (λl:List Fx=>[fxS l,.fn 58 [] []]) (λl=>l.length<2^40/\∀ j,j<l.length->xc (l.getD j Fx.nil)) (λl r=>r=idxB (λx=> !okF x) l) (λ_ (r:Int)=>(.i r,[]))
def SIxF(l:List Fx)(i:Nat):KV:=[(0,fxS l),(1,.fn 58 [] []),(7,.i (l.length:Int)),(8,.i (i:Int))]
noncomputable def GE2F:=tb zns tz
theorem zm5:zg prog 70 zpi:=by
 refine zm' f70 λl hl O w0 Q hq=> ?_
 obtain⟨hl,hsm⟩:=hl;replace hq:=hq _ rfl;refine zd.n GE2F.h [0,1,7,8] (.leaf (.loop (lps K70 0).1 (lps K70 0).2 [(0,.sl l.length 3 (fxG l)),(1,.fn 58 [] []),(7,.i l.length),(8,.i 0)] [])) ?_;simp only [Tree.holds,zh];refine zd.loop (ι:={i:Nat // i<=l.length/\∀ j,j<i->(!okF (l.getD j Fx.nil))=false}) (λi=>SIxF l i.1) (λ_=>[]) (λi=>l.length - i.1) ⟨0,aI _,λj hj=>by omega⟩ 0 ?_ ?_ (by kernel_rfl)
 ·exact⟨by simp [SIxF,fxS,za],by simp,by kernel_rfl,aI _⟩
 ·rintro⟨i,hil,hib⟩;refine zd.n GE2F.h [0,1,7,8] (let v1:=l.getD (i:Int).toNat Fx.nil;.D ((i:Int)<l.length) (.side ((0:Int)<=i/\(i:Int)<l.length) (.ex (λ(x:Fx)=>eqL [.agg [.str v1.name,.i v1.date,.str v1.value]] [.agg [.str x.name,.i x.date,.str x.value]]/\xc x) λn=>.all (λ(r:Bool)=>r = !okF n) λn=>.ite n (.R [.i i] []) (.S (i+1) (.leaf (.back 0 [(0,.sl l.length 3 (fxG l)),(1,.fn 58 [] []),(7,.i l.length),(8,.i (i+1))] []))))) (.R [.i (-1:Int)] [])) ?_;simp only [Tree.holds,zh,inR,lo,hi,aD];refine⟨λhlt=> ?_,λhge=> ?_⟩
  ·have hlt:i<l.length:=by have:=aB hlt; omega
   refine⟨by omega,λ_=>⟨l.getD i Fx.nil,⟨by simp,hsm i hlt⟩,⟨_,rfl⟩,?_⟩⟩;rintro _ rfl;refine⟨λh=> ?_,λh=>⟨by omega,λ_=> ?_⟩⟩
   ·rw [QG hlt h hib] at hq;exact RetR.scal hq rfl (by simp [resV])
   ·rw [aP trivial];refine⟨⟨i+1,hlt,λj hj=> ?_⟩,by show l.length - (i+1)<l.length - i; omega,by simp [SIxF,fxS,za],by simp,by kernel_rfl,aI _⟩;rcases aR j i with h1 | h1
    ·exact hib j h1
    ·have:j=i:=by omega
     rw [this]; exact h
  ·have hge:i=l.length:=by have:=aC hge; omega
   subst hge;rw [y6 hib] at hq;exact RetR.scal hq rfl (by simp [resV])
def zpt:Ctr:=ctrP true (λl:List Fx=>[fxS l,.fn 58 [] []]) (λl=>l.length<2^40/\∀ j,j<l.length->xc (l.getD j Fx.nil)) (λl r=>r=l.any λx=> !okF x) (λ_ (r:Bool)=>(.bool r,[]))
noncomputable def GE3F:=tb zm5 tz
theorem zoa:zg prog 62 zpt:=by
 refine zm' f62 λl hl O w0 Q hq=> ?_
 replace hq:=hq _ rfl;refine zd.n GE3F.h [] (.ex (λ(x:List Fx)=>eqL [.sl l.length 3 (fxG l),.fn 58 [] []] [.sl x.length 3 (fxG x),.fn 58 [] []]/\x.length<1099511627776/\∀ (j:Nat),j<x.length->xc (x.getD j Fx.nil)) λn=>.all (λ(r:Int)=>r=idxB (λ(x:Fx)=> !okF x) n) λn=>.R [.bool (decide ((0:Int)<=n))] []) ?_;simp only [Tree.holds,zh];refine⟨l,⟨by simp [za],hl⟩,⟨_,rfl⟩,?_⟩;rintro _ rfl;rw [<- Yx] at hq;exact RetR.scal hq rfl (by simp [resV])
def zpv:Ctr:=ctrP true (λl:List Ch=>[chS l,.fn 61 [] []]) (λl=>l.length<2^40/\∀ j,j<l.length->yj (l.getD j Ch.nil)) (λl r=>r=idxB (λx=> !okC x) l) (λ_ (r:Int)=>(.i r,[]))
def SIxC(l:List Ch)(i:Nat):KV:=[(0,chS l),(1,.fn 61 [] []),(7,.i (l.length:Int)),(8,.i (i:Int))]
noncomputable def GE2C:=tb zp0 tz
theorem znu:zg prog 93 zpv:=by
 refine zm' f93 λl hl O w0 Q hq=> ?_
 obtain⟨hl,hsm⟩:=hl;replace hq:=hq _ rfl;refine zd.n GE2C.h [0,1,7,8] (.leaf (.loop (lps K93 0).1 (lps K93 0).2 [(0,.sl l.length 4 (chG l)),(1,.fn 61 [] []),(7,.i l.length),(8,.i 0)] [])) ?_;simp only [Tree.holds,zh];refine zd.loop (ι:={i:Nat // i<=l.length/\∀ j,j<i->(!okC (l.getD j Ch.nil))=false}) (λi=>SIxC l i.1) (λ_=>[]) (λi=>l.length - i.1) ⟨0,aI _,λj hj=>by omega⟩ 0 ?_ ?_ (by kernel_rfl)
 ·exact⟨by simp [SIxC,chS,za],by simp,by kernel_rfl,aI _⟩
 ·rintro⟨i,hil,hib⟩;refine zd.n GE2C.h [0,1,7,8] (let v1:=l.getD (i:Int).toNat Ch.nil;.D ((i:Int)<l.length) (.side ((0:Int)<=i/\(i:Int)<l.length) (.ex (λ(x:Ch)=>eqL [.agg [.str v1.qt,.str v1.name,.i v1.date,.bool v1.first]] [.agg [.str x.qt,.str x.name,.i x.date,.bool x.first]]/\yj x) λn=>.all (λ(r:Bool)=>r = !okC n) λn=>.ite n (.R [.i i] []) (.S (i+1) (.leaf (.back 0 [(0,.sl l.length 4 (chG l)),(1,.fn 61 [] []),(7,.i l.length),(8,.i (i+1))] []))))) (.R [.i (-1:Int)] [])) ?_;simp only [Tree.holds,zh,inR,lo,hi,aD];refine⟨λhlt=> ?_,λhge=> ?_⟩
  ·have hlt:i<l.length:=by have:=aB hlt; omega
   refine⟨by omega,λ_=>⟨l.getD i Ch.nil,⟨by simp,hsm i hlt⟩,⟨_,rfl⟩,?_⟩⟩;rintro _ rfl;refine⟨λh=> ?_,λh=>⟨by omega,λ_=> ?_⟩⟩
   ·rw [QG hlt h hib] at hq;exact RetR.scal hq rfl (by simp [resV])
   ·rw [aP trivial];refine⟨⟨i+1,hlt,λj hj=> ?_⟩,by show l.length - (i+1)<l.length - i; omega,by simp [SIxC,chS,za],by simp,by kernel_rfl,aI _⟩;rcases aR j i with h1 | h1
    ·exact hib j h1
    ·have:j=i:=by omega
     rw [this]; exact h
  ·have hge:i=l.length:=by have:=aC hge; omega
   subst hge;rw [y6 hib] at hq;exact RetR.scal hq rfl (by simp [resV])
def zpw:Ctr:=ctrP true (λl:List Ch=>[chS l,.fn 61 [] []]) (λl=>l.length<2^40/\∀ j,j<l.length->yj (l.getD j Ch.nil)) (λl r=>r=l.any λx=> !okC x) (λ_ (r:Bool)=>(.bool r,[]))
noncomputable def GE3C:=tb znu tz
theorem zp8:zg prog 63 zpw:=by
 refine zm' f63 λl hl O w0 Q hq=> ?_
 replace hq:=hq _ rfl;refine zd.n GE3C.h [] (.ex (λ(x:List Ch)=>eqL [.sl l.length 4 (chG l),.fn 61 [] []] [.sl x.length 4 (chG x),.fn 61 [] []]/\x.length<1099511627776/\∀ (j:Nat),j<x.length->yj (x.getD j Ch.nil)) λn=>.all (λ(r:Int)=>r=idxB (λ(x:Ch)=> !okC x) n) λn=>.R [.bool (decide ((0:Int)<=n))] []) ?_;simp only [Tree.holds,zh];refine⟨l,⟨by simp [za],hl⟩,⟨_,rfl⟩,?_⟩;rintro _ rfl;rw [<- Yx] at hq;exact RetR.scal hq rfl (by simp [resV])
def zpx:Ctr:=ctrP true (λl:List Fx=>[fxS l,.fn 41 [] []]) (λl=>l.length<2^40) (λl r=>r=ordB cmpF Fx.nil l) (λ_ (r:Bool)=>(.bool r,[]))
def SOdF(l:List Fx)(i:Nat):KV:=[(0,fxS l),(1,.fn 41 [] []),(5,.i (i:Int))]
noncomputable def GE4F:=tb JE tz
abbrev q52(A:List AV)(x:Fx×Fx):Prop:=eqL A [.agg [.str x.1.name,.i x.1.date,.str x.1.value],.agg [.str x.2.name,.i x.2.date,.str x.2.value]]/\True
theorem zmi:zg prog 64 zpx:=by
 refine zm' f64 λl hl O w0 Q hq=> ?_
 replace hq:=hq _ rfl;refine zd.n GE4F.h [0,1,5] (.leaf (.loop (lps K64 0).1 (lps K64 0).2 [(0,.sl l.length 3 (fxG l)),(1,.fn 41 [] []),(5,.i 1)] [])) ?_;simp only [Tree.holds,zh];refine zd.loop (ι:={i:Nat // 0<i/\(i<=l.length\/i=1)/\∀ j,j+1<i->cmpF (l.getD j Fx.nil) (l.getD (j+1) Fx.nil)<0}) (λi=>SOdF l i.1) (λ_=>[]) (λi=>l.length - i.1) ⟨1,Nat.one_pos,.inr rfl,λj hj=>by omega⟩ 0 ?_ ?_ (by kernel_rfl)
 ·exact⟨by simp [SOdF,fxS,za],by simp,by kernel_rfl,aI _⟩
 ·rintro⟨i,hi0,hil,hib⟩;refine zd.n GE4F.h [0,1,5] (let v2:=l.getD (i:Int).toNat Fx.nil;let v1:=l.getD (Int.toNat (i-1)) Fx.nil;.D ((i:Int)<l.length) (.S (i-1) (.side ((0:Int)<=i - (1:Int)/\(i:Int) - (1:Int)<l.length) (.side ((0:Int)<=i/\(i:Int)<l.length) (.ex (q52 [.agg [.str v1.name,.i v1.date,.str v1.value],.agg [.str v2.name,.i v2.date,.str v2.value]]) λn=>.all (λ(r:Int)=>r=cmpF n.1 n.2) λn=>.D ((0:Int)<=n) (.R [.bool false] []) (.S (i+1) (.leaf (.back 0 [(0,.sl l.length 3 (fxG l)),(1,.fn 41 [] []),(5,.i (i+1))] []))))))) (.R [.bool true] [])) ?_;simp only [q52,Tree.holds,zh,inR,lo,hi,aD];have e:((i:Int) - 1).toNat=i - 1:=by omega
  have e2:i - 1+1=i:=by omega
  refine⟨λhlt=> ?_,λhge=> ?_⟩
  ·have hlt:i<l.length:=by have:=aB hlt; omega
   simp only [e];refine⟨by omega,λ_=>⟨by omega,λ_=>⟨by omega,λ_=>⟨(l.getD (i - 1) Fx.nil,l.getD i Fx.nil),⟨by simp,trivial⟩,⟨_,rfl⟩,?_⟩⟩⟩⟩;rintro _ rfl;refine⟨λh=> ?_,λh=>⟨by omega,λ_=> ?_⟩⟩
   ·have h:=aB h;rw [QK (z:=Fx.nil) (j:=i - 1) (by omega) (by rw [e2]; simp only at h; omega)] at hq;exact RetR.scal hq rfl (by simp [resV])
   ·have h:=aC h;rw [aP trivial];refine⟨⟨i+1,by omega,.inl hlt,λj hj=> ?_⟩,by show l.length - (i+1)<l.length - i; omega,by simp [SOdF,fxS,za],by simp,by kernel_rfl,aI _⟩;rcases aR (j+1) i with h1 | h1
    ·exact hib j h1
    ·have:j=i - 1:=by omega
     rw [this,e2]; simp only at h; omega
  ·have hge:l.length<=i:=by have:=aC hge; omega
   rw [Ji (z:=Fx.nil) λj hj=>hib j (by omega)] at hq;exact RetR.scal hq rfl (by simp [resV])
def zpl:Ctr:=ctrP true (λl:List Ch=>[chS l,.fn 66 [] []]) (λl=>l.length<2^40) (λl r=>r=ordB cmpC Ch.nil l) (λ_ (r:Bool)=>(.bool r,[]))
def SOdC(l:List Ch)(i:Nat):KV:=[(0,chS l),(1,.fn 66 [] []),(5,.i (i:Int))]
noncomputable def GE4C:=tb W7 tz
abbrev q53(A:List AV)(x:Ch×Ch):Prop:=eqL A [.agg [.str x.1.qt,.str x.1.name,.i x.1.date,.bool x.1.first],.agg [.str x.2.qt,.str x.2.name,.i x.2.date,.bool x.2.first]]/\True
theorem zmy:zg prog 65 zpl:=by
 refine zm' f65 λl hl O w0 Q hq=> ?_
 replace hq:=hq _ rfl;refine zd.n GE4C.h [0,1,5] (.leaf (.loop (lps K65 0).1 (lps K65 0).2 [(0,.sl l.length 4 (chG l)),(1,.fn 66 [] []),(5,.i 1)] [])) ?_;simp only [Tree.holds,zh];refine zd.loop (ι:={i:Nat // 0<i/\(i<=l.length\/i=1)/\∀ j,j+1<i->cmpC (l.getD j Ch.nil) (l.getD (j+1) Ch.nil)<0}) (λi=>SOdC l i.1) (λ_=>[]) (λi=>l.length - i.1) ⟨1,Nat.one_pos,.inr rfl,λj hj=>by omega⟩ 0 ?_ ?_ (by kernel_rfl)
 ·exact⟨by simp [SOdC,chS,za],by simp,by kernel_rfl,aI _⟩
 ·rintro⟨i,hi0,hil,hib⟩;refine zd.n GE4C.h [0,1,5] (let v2:=l.getD (i:Int).toNat Ch.nil;let v1:=l.getD (Int.toNat (i-1)) Ch.nil;.D ((i:Int)<l.length) (.S (i-1) (.side ((0:Int)<=i - (1:Int)/\(i:Int) - (1:Int)<l.length) (.side ((0:Int)<=i/\(i:Int)<l.length) (.ex (q53 [.agg [.str v1.qt,.str v1.name,.i v1.date,.bool v1.first],.agg [.str v2.qt,.str v2.name,.i v2.date,.bool v2.first]]) λn=>.all (λ(r:Int)=>r=cmpC n.1 n.2) λn=>.D ((0:Int)<=n) (.R [.bool false] []) (.S (i+1) (.leaf (.back 0 [(0,.sl l.length 4 (chG l)),(1,.fn 66 [] []),(5,.i (i+1))] []))))))) (.R [.bool true] [])) ?_;simp only [q53,Tree.holds,zh,inR,lo,hi,aD];have e:((i:Int) - 1).toNat=i - 1:=by omega
  have e2:i - 1+1=i:=by omega
  refine⟨λhlt=> ?_,λhge=> ?_⟩
  ·have hlt:i<l.length:=by have:=aB hlt; omega
   simp only [e];refine⟨by omega,λ_=>⟨by omega,λ_=>⟨by omega,λ_=>⟨(l.getD (i - 1) Ch.nil,l.getD i Ch.nil),⟨by simp,trivial⟩,⟨_,rfl⟩,?_⟩⟩⟩⟩;rintro _ rfl;refine⟨λh=> ?_,λh=>⟨by omega,λ_=> ?_⟩⟩
   ·have h:=aB h;rw [QK (z:=Ch.nil) (j:=i - 1) (by omega) (by rw [e2]; simp only at h; omega)] at hq;exact RetR.scal hq rfl (by simp [resV])
   ·have h:=aC h;rw [aP trivial];refine⟨⟨i+1,by omega,.inl hlt,λj hj=> ?_⟩,by show l.length - (i+1)<l.length - i; omega,by simp [SOdC,chS,za],by simp,by kernel_rfl,aI _⟩;rcases aR (j+1) i with h1 | h1
    ·exact hib j h1
    ·have:j=i - 1:=by omega
     rw [this,e2]; simp only at h; omega
  ·have hge:l.length<=i:=by have:=aC hge; omega
   rw [Ji (z:=Ch.nil) λj hj=>hib j (by omega)] at hq;exact RetR.scal hq rfl (by simp [resV])
def envP(p:List Fx×List Ch):Prop:=p.1.length<2^40/\p.2.length<2^40/\(∀ j,j<p.1.length->xc (p.1.getD j Fx.nil))/\∀ j,j<p.2.length->yj (p.2.getD j Ch.nil)
def Kw:Ctr:=ctrP true (λp:List Fx×List Ch=>[envA p.1 p.2]) envP (λp r=>r=errE p.1 p.2) (λ_ (r:Int)=>(.i r,[]))
noncomputable def GE5:=tb zoa (tb zp8 (tb zmi (tb zmy tz)))
theorem Vb:zg prog 31 Kw:=by
 refine zm' f31 λp hp O w0 Q hq=> ?_
 obtain⟨f,c⟩:=p;obtain⟨h1,h2,h3,h4⟩:=hp;replace hq:=hq _ rfl;simp only at hq h1 h2 h3 h4;refine zd.n GE5.h [] (let v1:List Blk:=[.box [.sl f.length 3 (fxG f),.sl c.length 4 (chG c)]];.ite (bif decide ((1000:Int)<f.length) then true else decide ((1000:Int)<c.length)) (.R [.i 4] v1) (.ex (λ(x:List Fx)=>eqL [.sl f.length 3 (fxG f),.fn 58 [] []] [.sl x.length 3 (fxG x),.fn 58 [] []]/\x.length<1099511627776/\∀ (j:Nat),j<x.length->xc (x.getD j Fx.nil)) λn=>.all (λ(r:Bool)=>r=List.any n λ(x:Fx)=> !okF x) λn=>.ex (λ(x:List Ch)=>n=false->eqL [.sl c.length 4 (chG c),.fn 61 [] []] [.sl x.length 4 (chG x),.fn 61 [] []]/\x.length<1099511627776/\∀ (j:Nat),j<x.length->yj (x.getD j Ch.nil)) λn_1=>.all (λ(x:Bool)=>n=false->x=List.any n_1 λ(x:Ch)=> !okC x) λn_2=>.ex (λ(x:List Fx)=>(bif n then true else n_2)=false->eqL [.sl f.length 3 (fxG f),.fn 41 [] []] [.sl x.length 3 (fxG x),.fn 41 [] []]/\x.length<1099511627776) λn_3=>.all (λ(x:Bool)=>(bif n then true else n_2)=false->x=ordB cmpF Fx.nil n_3) λn_4=>.ex (λ(x:List Ch)=>(bif bif n then true else n_2 then true else !n_4)=false->eqL [.sl c.length 4 (chG c),.fn 66 [] []] [.sl x.length 4 (chG x),.fn 66 [] []]/\x.length<1099511627776) λn_5=>.all (λ(x:Bool)=>(bif bif n then true else n_2 then true else !n_4)=false->x=ordB cmpC Ch.nil n_5) λn_6=>.ite (bif bif bif n then true else n_2 then true else !n_4 then true else !n_6) (.R [.i 8] v1) (.R [.i 0] v1))) ?_;simp only [Tree.holds,zh];refine⟨λh=> ?_,λh=> ?_⟩
 ·have h:1000<f.length\/1000<c.length:=by
   rw [Bool.cond_eq_ite] at h;split at h
   ·rename_i h1; left; have:=aB h1; omega
   ·right; have:=aB h; omega
  have:errE f c=4:=aP h;rw [this] at hq; exact RetR.scal hq rfl (by simp [resV])
 ·have h:¬ (1000<f.length\/1000<c.length):=by
   rw [Bool.cond_eq_ite] at h;split at h
   ·cases h
   ·rename_i h1;have h2:=aC h;rintro(h3 | h3)
    ·exact h1 (aX (by omega))
    ·omega
  have he:errE f c=if(f.all okF&&c.all okC&&ordB cmpF Fx.nil f&&ordB cmpC Ch.nil c)=true then 0 else 8:=aO h
  have a1:(f.any λx=> !okF x) = !f.all okF:=by rw [List.not_all_eq_any_not]
  have a2:(c.any λx=> !okC x) = !c.all okC:=by rw [List.not_all_eq_any_not]
  refine⟨f,⟨by simp [za],h1,h3⟩,⟨_,rfl⟩,?_⟩;rintro _ rfl;refine⟨c,λ_=>⟨by simp [za],h2,h4⟩,⟨_,λ_=>rfl⟩,?_⟩;intro b1 g1;refine⟨f,λ_=>⟨by simp [za],h1⟩,⟨_,λ_=>rfl⟩,?_⟩;intro b2 g2;refine⟨c,λ_=>⟨by simp [za],h2⟩,⟨_,λ_=>rfl⟩,?_⟩;intro b3 g3;rw [a1] at g1 g2 g3 ⊢;rw [a2] at g1;clear a1 a2;generalize f.all okF=p1 at *
  generalize c.all okC=p2 at *
  generalize ordB cmpF Fx.nil f=p3 at *
  generalize ordB cmpC Ch.nil c=p4 at *
  have key:(bif bif bif !p1 then true else b1 then true else !b2 then true else !b3) = !(p1&&p2&&p3&&p4):=by
   cases p1 with
   | false=>rfl
   | true=>
    have g1:=g1 rfl;subst g1;cases p2 with
    | false=>rfl
    | true=>
     have g2:=g2 rfl;subst g2;cases b2 with
     | false=>rfl
     | true=>have g3:=g3 rfl; subst g3; rfl
  rw [key];clear key g1 g2 g3;generalize (p1&&p2&&p3&&p4)=q at *
  refine⟨λh=> ?_,λh=> ?_⟩
  ·cases q with
   | true=>cases h
   | false=>rw [he,aO (by decide)] at hq; exact RetR.scal hq rfl (by simp [resV])
  ·cases q with
   | false=>cases h
   | true=>rw [he,aP rfl] at hq; exact RetR.scal hq rfl (by simp [resV])
def zpu:Ctr:=ctrP true (λp:(List Fx×List Ch)×(L8×Int)=>[envA p.1.1 p.1.2,.str p.2.1,.i p.2.2]) (λp=>p.1.1.length<2^40) (λp r=>r=vW p.1.1 p.2.1 p.2.2) (λ_ r=>(.tup [.str r.1,.bool r.2],[]))
def zbz:Ctr:=ctrP true (λp:(List Fx×List Ch)×(L8×L8×Int)=>[envA p.1.1 p.1.2,.str p.2.1,.str p.2.2.1,.i p.2.2.2]) (λp=>p.1.2.length<2^40) (λp r=>r=qo p.1.2 p.2.1 p.2.2.1 p.2.2.2) (λ_ r=>(.bool r,[]))
def HIdF(x:Fx):Heap:=[.box [.fn 41 [] []],.box [.str x.name,.i x.date,.str x.value]]
def HIdC(x:Ch):Heap:=[.box [.fn 66 [] []],.box [.str x.qt,.str x.name,.i x.date,.bool x.first]]
def zpq:Ctr:=ctrT false false (λp:Fx×Fx=>[p.1.av,.ptr 0 0,.ptr 1 0]) (λp=>HIdF p.2) (λ_=>True) (λp r=>r=decide (cmpF p.1 p.2=0)) (λp (r:Bool)=>(.bool r,HIdF p.2))
def zpe:Ctr:=ctrT false false (λp:Ch×Ch=>[p.1.av,.ptr 0 0,.ptr 1 0]) (λp=>HIdC p.2) (λ_=>True) (λp r=>r=decide (cmpC p.1 p.2=0)) (λp (r:Bool)=>(.bool r,HIdC p.2))
noncomputable def GI1:=tb JE (tb W7 tz)
theorem zoe:zg prog 71 zpq:=by
 refine zD (fn:=f71) (c:=f71.body.getD .skip) rfl rfl rfl (λh=>by cases h) λp hp O w0 I0 Q hl0 hq=> ?_
 obtain⟨⟨a,d,v⟩,⟨b,e,u⟩⟩:=p;replace hq:=hq _ rfl;simp only at hq;refine zd.n GI1.h [] (.ex (q52 [.agg [.str a,.i d,.str v],.agg [.str b,.i e,.str u]]) λn=>.all (λ(r:Int)=>r=cmpF n.1 n.2) λn=>.R [.bool (decide (n=0))] [.box [.fn 41 [] []],.box [.str b,.i e,.str u],.box [.str a,.i d,.str v]]) ?_;simp only [q52,Tree.holds,zh];refine⟨(⟨a,d,v⟩,⟨b,e,u⟩),⟨by simp,trivial⟩,⟨_,rfl⟩,?_⟩;rintro _ rfl;exact RetR.keep [0,1] rfl rfl (by show ∀ j,j<2->_; decide) rfl hq (by simp [resV,exp2,exp1,exp0,ren0,eqA2]) (by simp [expH,expB,exp1,exp0,ren0,HIdF]) rfl
theorem zp1:zg prog 166 zpe:=by
 refine zD (fn:=f166) (c:=f166.body.getD .skip) rfl rfl rfl (λh=>by cases h) λp hp O w0 I0 Q hl0 hq=> ?_
 obtain⟨⟨a,v,d,x⟩,⟨b,u,e,y⟩⟩:=p;replace hq:=hq _ rfl;simp only at hq;refine zd.n GI1.h [] (.ex (q53 [.agg [.str a,.str v,.i d,.bool x],.agg [.str b,.str u,.i e,.bool y]]) λn=>.all (λ(r:Int)=>r=cmpC n.1 n.2) λn=>.R [.bool (decide (n=0))] [.box [.fn 66 [] []],.box [.str b,.str u,.i e,.bool y],.box [.str a,.str v,.i d,.bool x]]) ?_;simp only [q53,Tree.holds,zh];refine⟨(⟨a,v,d,x⟩,⟨b,u,e,y⟩),⟨by simp,trivial⟩,⟨_,rfl⟩,?_⟩;rintro _ rfl;exact RetR.keep [0,1] rfl rfl (by show ∀ j,j<2->_; decide) rfl hq (by simp [resV,exp2,exp1,exp0,ren0,eqA2]) (by simp [expH,expB,exp1,exp0,ren0,HIdC]) rfl
def SIdF(l:List Fx)(i:Nat):KV:=[(0,fxS l),(1,.fn 71 [] [.ptr 0 0,.ptr 1 0]),(7,.i (l.length:Int)),(8,.i (i:Int))]
def SIdC(l:List Ch)(i:Nat):KV:=[(0,chS l),(1,.fn 166 [] [.ptr 0 0,.ptr 1 0]),(7,.i (l.length:Int)),(8,.i (i:Int))]
def zl0:Ctr:=ctrT false false (λp:List Fx×Fx=>[fxS p.1,.fn 71 [] [.ptr 0 0,.ptr 1 0]]) (λp=>HIdF p.2) (λp=>p.1.length<2^40) (λp r=>r=idxB (λx=>decide (cmpF x p.2=0)) p.1) (λp (r:Int)=>(.i r,HIdF p.2))
def zir:Ctr:=ctrT false false (λp:List Ch×Ch=>[chS p.1,.fn 166 [] [.ptr 0 0,.ptr 1 0]]) (λp=>HIdC p.2) (λp=>p.1.length<2^40) (λp r=>r=idxB (λx=>decide (cmpC x p.2=0)) p.1) (λp (r:Int)=>(.i r,HIdC p.2))
noncomputable def GI2:=tb zoe (tb zp1 tz)
theorem zob:zg prog 70 zl0:=by
 refine zD (fn:=f70) (c:=f70.body.getD .skip) rfl rfl rfl (λh=>by cases h) λp hl O w0 I0 Q hl0 hq=> ?_
 obtain⟨l,x⟩:=p;replace hq:=hq _ rfl;simp only at hq hl;refine zd.n GI2.h [0,1,7,8] (.leaf (.loop (lps K70 0).1 (lps K70 0).2 [(0,.sl l.length 3 (fxG l)),(1,.fn 71 [] [.ptr 0 0,.ptr 1 0]),(7,.i l.length),(8,.i 0)] [.box [.fn 41 [] []],.box [.str x.name,.i x.date,.str x.value]])) ?_;simp only [Tree.holds,zh]
 have fin:∀ (i:Int) (h:Heap),i=idxB (λy=>decide (cmpF y x=0)) l->h=HIdF x->RetR zl0 2 Q [.i i] h:=by
  intro i h hi2 hh;subst hh;rw [<- hi2] at hq;exact RetR.keep [0,1] rfl rfl (by show ∀ j,j<2->_; decide) rfl hq (by simp [resV,exp2,exp1,exp0,ren0,eqA2]) (by simp [expH,expB,exp1,exp0,ren0,HIdF]) rfl
 refine zd.loop (ι:={i:Nat // i<=l.length/\∀ j,j<i->decide (cmpF (l.getD j Fx.nil) x=0)=false}) (λi=>SIdF l i.1) (λ_=>HIdF x) (λi=>l.length - i.1) ⟨0,aI _,λj hj=>by omega⟩ 0 ?_ ?_ (by kernel_rfl)
 ·exact⟨by simp [SIdF,fxS,za],by simp [HIdF],by kernel_rfl,aJ _⟩
 ·rintro⟨i,hil,hib⟩;refine zd.n GI2.h [0,1,7,8] (let v2:=l.getD (i:Int).toNat Fx.nil;.D ((i:Int)<l.length) (.side ((0:Int)<=i/\(i:Int)<l.length) (.ex (λ(x_1:Fx×Fx)=>eqL [.agg [.str v2.name,.i v2.date,.str v2.value],.ptr 0 0,.ptr 1 0] [.agg [.str x_1.1.name,.i x_1.1.date,.str x_1.1.value],.ptr 0 0,.ptr 1 0]/\eqH [.box [.fn 41 [] []],.box [.str x.name,.i x.date,.str x.value]] [.box [.fn 41 [] []],.box [.str x_1.2.name,.i x_1.2.date,.str x_1.2.value]]/\2=2/\True) λn=>let v1:List Blk:=[.box [.fn 41 [] []],.box [.str n.2.name,.i n.2.date,.str n.2.value]];.all (λ(r:Bool)=>r=decide (cmpF n.1 n.2=0)) λn_1=>.ite n_1 (.R [.i i] v1) (.S (i+1) (.leaf (.back 0 [(0,.sl l.length 3 (fxG l)),(1,.fn 71 [] [.ptr 0 0,.ptr 1 0]),(7,.i l.length),(8,.i (i+1))] v1))))) (.R [.i (-1:Int)] [.box [.fn 41 [] []],.box [.str x.name,.i x.date,.str x.value]])) ?_;simp only [Tree.holds,zh,inR,lo,hi,aD];refine⟨λhlt=> ?_,λhge=> ?_⟩
  ·have hlt:i<l.length:=by have:=aB hlt; omega
   refine⟨by omega,λ_=>⟨(l.getD i Fx.nil,x),⟨by simp,by simp,trivial,trivial⟩,⟨_,rfl⟩,?_⟩⟩;rintro _ rfl;refine⟨λh=> ?_,λh=>⟨by omega,λ_=> ?_⟩⟩
   ·exact fin _ _ (QG hlt h hib).symm rfl
   ·rw [aP trivial];refine⟨⟨i+1,hlt,λj hj=> ?_⟩,by show l.length - (i+1)<l.length - i; omega,by simp [SIdF,fxS,za],by simp [HIdF],by kernel_rfl,aJ _⟩;rcases aR j i with h1 | h1
    ·exact hib j h1
    ·have:j=i:=by omega
     rw [this]; exact h
  ·have hge:i=l.length:=by have:=aC hge; omega
   subst hge;exact fin _ _ (y6 (p:=λy=>decide (cmpF y x=0)) hib).symm rfl
theorem znz:zg prog 93 zir:=by
 refine zD (fn:=f93) (c:=f93.body.getD .skip) rfl rfl rfl (λh=>by cases h) λp hl O w0 I0 Q hl0 hq=> ?_
 obtain⟨l,x⟩:=p;replace hq:=hq _ rfl;simp only at hq hl;refine zd.n GI2.h [0,1,7,8] (.leaf (.loop (lps K93 0).1 (lps K93 0).2 [(0,.sl l.length 4 (chG l)),(1,.fn 166 [] [.ptr 0 0,.ptr 1 0]),(7,.i l.length),(8,.i 0)] [.box [.fn 66 [] []],.box [.str x.qt,.str x.name,.i x.date,.bool x.first]])) ?_;simp only [Tree.holds,zh]
 have fin:∀ (i:Int) (h:Heap),i=idxB (λy=>decide (cmpC y x=0)) l->h=HIdC x->RetR zir 2 Q [.i i] h:=by
  intro i h hi2 hh;subst hh;rw [<- hi2] at hq;exact RetR.keep [0,1] rfl rfl (by show ∀ j,j<2->_; decide) rfl hq (by simp [resV,exp2,exp1,exp0,ren0,eqA2]) (by simp [expH,expB,exp1,exp0,ren0,HIdC]) rfl
 refine zd.loop (ι:={i:Nat // i<=l.length/\∀ j,j<i->decide (cmpC (l.getD j Ch.nil) x=0)=false}) (λi=>SIdC l i.1) (λ_=>HIdC x) (λi=>l.length - i.1) ⟨0,aI _,λj hj=>by omega⟩ 0 ?_ ?_ (by kernel_rfl)
 ·exact⟨by simp [SIdC,chS,za],by simp [HIdC],by kernel_rfl,aJ _⟩
 ·rintro⟨i,hil,hib⟩;refine zd.n GI2.h [0,1,7,8] (let v1:=l.getD (i:Int).toNat Ch.nil;.D ((i:Int)<l.length) (.side ((0:Int)<=i/\(i:Int)<l.length) (.ex (λ(x_1:Ch×Ch)=>eqL [.agg [.str v1.qt,.str v1.name,.i v1.date,.bool v1.first],.ptr 0 0,.ptr 1 0] [.agg [.str x_1.1.qt,.str x_1.1.name,.i x_1.1.date,.bool x_1.1.first],.ptr 0 0,.ptr 1 0]/\eqH [.box [.fn 66 [] []],.box [.str x.qt,.str x.name,.i x.date,.bool x.first]] [.box [.fn 66 [] []],.box [.str x_1.2.qt,.str x_1.2.name,.i x_1.2.date,.bool x_1.2.first]]/\2=2/\True) λn=>let v2:List Blk:=[.box [.fn 66 [] []],.box [.str n.2.qt,.str n.2.name,.i n.2.date,.bool n.2.first]];.all (λ(r:Bool)=>r=decide (cmpC n.1 n.2=0)) λn_1=>.ite n_1 (.R [.i i] v2) (.S (i+1) (.leaf (.back 0 [(0,.sl l.length 4 (chG l)),(1,.fn 166 [] [.ptr 0 0,.ptr 1 0]),(7,.i l.length),(8,.i (i+1))] v2))))) (.R [.i (-1:Int)] [.box [.fn 66 [] []],.box [.str x.qt,.str x.name,.i x.date,.bool x.first]])) ?_;simp only [Tree.holds,zh,inR,lo,hi,aD];refine⟨λhlt=> ?_,λhge=> ?_⟩
  ·have hlt:i<l.length:=by have:=aB hlt; omega
   refine⟨by omega,λ_=>⟨(l.getD i Ch.nil,x),⟨by simp,by simp,trivial,trivial⟩,⟨_,rfl⟩,?_⟩⟩;rintro _ rfl;refine⟨λh=> ?_,λh=>⟨by omega,λ_=> ?_⟩⟩
   ·exact fin _ _ (QG hlt h hib).symm rfl
   ·rw [aP trivial];refine⟨⟨i+1,hlt,λj hj=> ?_⟩,by show l.length - (i+1)<l.length - i; omega,by simp [SIdC,chS,za],by simp [HIdC],by kernel_rfl,aJ _⟩;rcases aR j i with h1 | h1
    ·exact hib j h1
    ·have:j=i:=by omega
     rw [this]; exact h
  ·have hge:i=l.length:=by have:=aC hge; omega
   subst hge;exact fin _ _ (y6 (p:=λy=>decide (cmpC y x=0)) hib).symm rfl
def zch:Ctr:=ctrP true (λp:List Fx×Fx=>[fxS p.1,p.2.av,.fn 41 [] []]) (λp=>p.1.length<2^40) (λp r=>r=idxB (λx=>decide (cmpF x p.2=0)) p.1) (λ_ (r:Int)=>(.i r,[]))
def zbx:Ctr:=ctrP true (λp:List Ch×Ch=>[chS p.1,p.2.av,.fn 66 [] []]) (λp=>p.1.length<2^40) (λp r=>r=idxB (λx=>decide (cmpC x p.2=0)) p.1) (λ_ (r:Int)=>(.i r,[]))
noncomputable def GI3:=tb zob (tb znz tz)
theorem zfc:zg prog 40 zch:=by
 refine zm' f40 λp hp O w0 Q hq=> ?_
 obtain⟨l,⟨a,d,v⟩⟩:=p;replace hq:=hq _ rfl;simp only at hq hp;refine zd.n GI3.h [] (.ex (λ(x:List Fx×Fx)=>eqL [.sl l.length 3 (fxG l),.fn 71 [] [.ptr 0 0,.ptr 1 0]] [.sl x.1.length 3 (fxG x.1),.fn 71 [] [.ptr 0 0,.ptr 1 0]]/\eqH [.box [.fn 41 [] []],.box [.str a,.i d,.str v]] [.box [.fn 41 [] []],.box [.str x.2.name,.i x.2.date,.str x.2.value]]/\2=2/\x.1.length<1099511627776) λn=>.all (λ(r:Int)=>r=idxB (λ(x:Fx)=>decide (cmpF x n.2=0)) n.1) λn_1=>.R [.i n_1] [.box [.str n.2.name,.i n.2.date,.str n.2.value],.box [.fn 41 [] []]]) ?_;simp only [Tree.holds,zh];refine⟨(l,⟨a,d,v⟩),⟨by simp [za],by simp,trivial,hp⟩,⟨_,rfl⟩,?_⟩;rintro _ rfl;exact RetR.scal hq rfl (by simp [resV])
theorem zff:zg prog 153 zbx:=by
 refine zm' f153 λp hp O w0 Q hq=> ?_
 obtain⟨l,⟨a,v,d,b⟩⟩:=p;replace hq:=hq _ rfl;simp only at hq hp;refine zd.n GI3.h [] (.ex (λ(x:List Ch×Ch)=>eqL [.sl l.length 4 (chG l),.fn 166 [] [.ptr 0 0,.ptr 1 0]] [.sl x.1.length 4 (chG x.1),.fn 166 [] [.ptr 0 0,.ptr 1 0]]/\eqH [.box [.fn 66 [] []],.box [.str a,.str v,.i d,.bool b]] [.box [.fn 66 [] []],.box [.str x.2.qt,.str x.2.name,.i x.2.date,.bool x.2.first]]/\2=2/\x.1.length<1099511627776) λn=>.all (λ(r:Int)=>r=idxB (λ(x:Ch)=>decide (cmpC x n.2=0)) n.1) λn_1=>.R [.i n_1] [.box [.str n.2.qt,.str n.2.name,.i n.2.date,.bool n.2.first],.box [.fn 66 [] []]]) ?_;simp only [Tree.holds,zh];refine⟨(l,⟨a,v,d,b⟩),⟨by simp [za],by simp,trivial,hp⟩,⟨_,rfl⟩,?_⟩;rintro _ rfl;exact RetR.scal hq rfl (by simp [resV])
noncomputable def GI4:=tb zfc (tb zff tz)
theorem znc:zg prog 14 zpu:=by
 refine zm' f14 λp hp O w0 Q hq=> ?_
 obtain⟨⟨f,c⟩,⟨a,d⟩⟩:=p;replace hq:=hq _ rfl;simp only at hq hp;refine zd.n GI4.h [] (let v1:List Blk:=[.box [.sl f.length 3 (fxG f),.sl c.length 4 (chG c)]];.ex (λ(x:List Fx×Fx)=>eqL [.sl f.length 3 (fxG f),.agg [.str a,.i d,.str #[].toList],.fn 41 [] []] [.sl x.1.length 3 (fxG x.1),.agg [.str x.2.name,.i x.2.date,.str x.2.value],.fn 41 [] []]/\x.1.length<1099511627776) λn=>.all (λ(r:Int)=>r=idxB (λ(x:Fx)=>decide (cmpF x n.2=0)) n.1) λn=>.D (n<0) (.R [.str #[].toList,.bool false] v1) (.side ((0:Int)<=n/\n<(f.length:Int)) (.R [.str (Fx.value (f.getD (Int.toNat n) Fx.nil)),.bool true] v1))) ?_;simp only [Tree.holds,zh];refine⟨(f,⟨a,d,[]⟩),⟨by simp [za],hp⟩,⟨_,rfl⟩,?_⟩;rintro _ rfl;obtain⟨hlt,hr⟩:=zgc f a d;simp only at hq ⊢;refine⟨λh=> ?_,λh=> ?_⟩
 ·rw [hr,aO (by have:=aB h; omega)] at hq;exact RetR.scal hq rfl (by simp [resV])
 ·have h:=aC h;refine⟨⟨by omega,hlt⟩,λ_=> ?_⟩;rw [hr,aP (by omega)] at hq;exact RetR.scal hq rfl (by simp [resV])
theorem zfi:zg prog 117 zbz:=by
 refine zm' f117 λp hp O w0 Q hq=> ?_
 obtain⟨⟨f,c⟩,⟨a,v,d⟩⟩:=p;replace hq:=hq _ rfl;simp only at hq hp;refine zd.n GI4.h [] (.ex (λ(x:List Ch×Ch)=>eqL [.sl c.length 4 (chG c),.agg [.str a,.str v,.i d,.bool false],.fn 66 [] []] [.sl x.1.length 4 (chG x.1),.agg [.str x.2.qt,.str x.2.name,.i x.2.date,.bool x.2.first],.fn 66 [] []]/\x.1.length<1099511627776) λn=>.all (λ(r:Int)=>r=idxB (λ(x:Ch)=>decide (cmpC x n.2=0)) n.1) λn=>.side (decide ((0:Int)<=n)=true->(0:Int)<=n/\n<(c.length:Int)) (.R [.bool (bif decide ((0:Int)<=n) then Ch.first (c.getD (Int.toNat n) Ch.nil) else false)] [.box [.sl f.length 3 (fxG f),.sl c.length 4 (chG c)]])) ?_;simp only [Tree.holds,zh];refine⟨(c,⟨a,v,d,false⟩),⟨by simp [za],hp⟩,⟨_,rfl⟩,?_⟩;rintro _ rfl;obtain⟨hlt,hr⟩:=Ux c a v d;simp only at hq ⊢;refine⟨λh=>⟨aB h,hlt⟩,λ_=> ?_⟩;refine RetR.scal hq rfl ?_;rw [hr];simp only [resV];by_cases h:0<=idxB (λx=>decide (cmpC x ⟨a,v,d,false⟩=0)) c
 ·rw [aX h,aP h]; rfl
 ·rw [aW h,aO h]; rfl
structure St8 where
 f:List Fx
 c:List Ch
 day:Int
 e:Int
def St8.box(s:St8):Blk:=.box [fxS s.f,chS s.c,.i s.day,.i s.e]
def St8.err(s:St8)(e:Int):St8:=⟨s.f,s.c,s.day,e⟩
theorem qJ(f:List Fx)(c:List Ch)(day e:Int):eqH [.box [.sl f.length 3 (fxG f),.sl c.length 4 (chG c),.i day,.i e]] [(St8.mk f c day e).box]:=⟨⟨⟨rfl,rfl,za _ _ _⟩,⟨rfl,rfl,za _ _ _⟩,⟨rfl,rfl⟩,⟨rfl,rfl⟩,trivial⟩,trivial⟩
theorem RetR.st8{ctr:Ctr}{Q:AV×Heap->Prop}{rs:List AV}{f:List Fx}{c:List Ch}{day e:Int}{r:AV}(hf:ctr.fresh=false)(hq:Q (r,[(St8.mk f c day e).box]))(hs:Zm r=true)(hr:resV rs=r)(h2:exp2 [.box [.sl f.length 3 (fxG f),.sl c.length 4 (chG c),.i day,.i e]] [0] r=r:=by rfl):RetR ctr 1 Q rs [.box [.sl f.length 3 (fxG f),.sl c.length 4 (chG c),.i day,.i e]]:=by
 subst hr;refine RetR.keep [0] rfl rfl (by decide) hf hq ?_ ?_ rfl
 ·rw [h2]; exact VU hs
 ·exact qJ f c day e
structure KS where
 s:St8
 x:L8
 e:Int
def Ui:Ctr:=ctrT false false (λk:KS=>[.ptr 0 0,.str k.x,.i k.e]) (λk=>[k.s.box]) (λ_=>True) (λk r=>r=if k.s.e=0 then k.e else k.s.e) (λk (r:Int)=>(.str k.x,[(k.s.err r).box]))
def zio:Ctr:=ctrT false false (λk:St8×Int×Int=>[.ptr 0 0,.i k.2.1,.i k.2.2]) (λk=>[k.1.box]) (λ_=>True) (λk r=>r=if k.1.e=0 then k.2.2 else k.1.e) (λk (r:Int)=>(.i k.2.1,[(k.1.err r).box]))
theorem Yw:zg prog 169 Ui:=by
 refine zD (fn:=f169) (c:=f169.body.getD .skip) rfl rfl rfl (λh=>by cases h) λk hk O w0 I0 Q hl0 hq=> ?_
 obtain⟨⟨f,c,day,e⟩,x,e'⟩:=k;replace hq:=hq _ rfl;simp only at hq;refine zd.n zJ [] (.D (e=0) (.R [.str x] [.box [.sl f.length 3 (fxG f),.sl c.length 4 (chG c),.i day,.i e']]) (.R [.str x] [.box [.sl f.length 3 (fxG f),.sl c.length 4 (chG c),.i day,.i e]])) ?_;simp only [Tree.holds,zh];refine⟨λh=> ?_,λh=> ?_⟩
 ·rw [aP (aB h)] at hq;exact RetR.st8 rfl hq rfl rfl
 ·rw [aO (aC h)] at hq;exact RetR.st8 rfl hq rfl rfl
theorem zlq:zg prog 176 zio:=by
 refine zD (fn:=f176) (c:=f176.body.getD .skip) rfl rfl rfl (λh=>by cases h) λk hk O w0 I0 Q hl0 hq=> ?_
 obtain⟨⟨f,c,day,e⟩,x,e'⟩:=k;replace hq:=hq _ rfl;simp only at hq;refine zd.n zJ [] (.D (e=0) (.R [.i x] [.box [.sl f.length 3 (fxG f),.sl c.length 4 (chG c),.i day,.i e']]) (.R [.i x] [.box [.sl f.length 3 (fxG f),.sl c.length 4 (chG c),.i day,.i e]])) ?_;simp only [Tree.holds,zh];refine⟨λh=> ?_,λh=> ?_⟩
 ·rw [aP (aB h)] at hq;exact RetR.st8 rfl hq rfl rfl
 ·rw [aO (aC h)] at hq;exact RetR.st8 rfl hq rfl rfl
def fixC:Ctr:=ctrT false false (λk:KS=>[.ptr 0 0,.str k.x,.i k.e]) (λk=>[k.s.box]) (λk=>k.s.f.length<2^40/\k.s.e=0) (λk r=>r=fixR k.s.f k.x k.e) (λk (r:L8×Int)=>(.str r.1,[(k.s.err r.2).box]))
noncomputable def GFx:=tb znc (tb Yw tz)
abbrev q54(A:List AV)(H:Heap)(x:KS):Prop:=eqL A [.ptr 0 0,.str x.x,.i x.e]/\eqH H [.box [.sl x.s.f.length 3 (fxG x.s.f),.sl x.s.c.length 4 (chG x.s.c),.i x.s.day,.i x.s.e]]/\1=1/\True
theorem ze6:zg prog 168 fixC:=by
 refine zD (fn:=f168) (c:=f168.body.getD .skip) rfl rfl rfl (λh=>by cases h) λk hk O w0 I0 Q hl0 hq=> ?_
 obtain⟨⟨f,c,day,e⟩,x,d⟩:=k;obtain⟨h1,h2⟩:=hk;replace hq:=hq _ rfl;simp only at h1 h2 hq;subst h2;refine zd.n GFx.h [] (.ex (λ(x_1:(List Fx×List Ch)×L8×Int)=>eqL [.agg [.sl f.length 3 (fxG f),.sl c.length 4 (chG c)],.str x,.i d] [.agg [.sl x_1.1.1.length 3 (fxG x_1.1.1),.sl x_1.1.2.length 4 (chG x_1.1.2)],.str x_1.2.1,.i x_1.2.2]/\x_1.1.1.length<1099511627776) λn=>.all (λ(r:L8×Bool)=>r=vW n.1.1 n.2.1 n.2.2) λn=>.ite (!Prod.snd n) (.ex (q54 [.ptr 0 0,.str n.1,.i 30] [.box [.sl f.length 3 (fxG f),.sl c.length 4 (chG c),.i day,.i 0]]) λn=>.all (λ(r:Int)=>r=if St8.e n.s=0 then KS.e n else St8.e n.s) λn_1=>let v1:=n.s.err n_1;.R [.str n.x] [.box [.sl (List.length v1.f) 3 (fxG v1.f),.sl (List.length v1.c) 4 (chG v1.c),.i v1.day,.i v1.e]]) (.R [.str n.1] [.box [.sl f.length 3 (fxG f),.sl c.length 4 (chG c),.i day,.i 0]])) ?_;simp only [q54,Tree.holds,zh];refine⟨((f,c),(x,d)),⟨⟨⟨⟨rfl,rfl,za _ _ _⟩,⟨rfl,rfl,za _ _ _⟩,trivial⟩,rfl,⟨rfl,rfl⟩,trivial⟩,h1⟩,⟨_,rfl⟩,?_⟩;rintro _ rfl;unfold fixR at hq;refine⟨λh=> ?_,λh=> ?_⟩
 ·have h:(vW f x d).2=false:=by simpa using h
  have h0:(vW f x d).1=[]:=zl1 h;rw [aO (by rw [h]; decide)] at hq;refine⟨⟨⟨f,c,day,0⟩,[],30⟩,⟨⟨⟨rfl,rfl⟩,h0,⟨rfl,rfl⟩,trivial⟩,qJ f c day 0,trivial,trivial⟩,⟨_,rfl⟩,?_⟩;rintro _ rfl;exact RetR.st8 rfl hq rfl rfl
 ·have h:(vW f x d).2=true:=by simpa using h
  rw [aP h] at hq;exact RetR.st8 rfl hq rfl rfl
structure K2 where
 s:St8
 a:L8
 b:L8
def cmpE(e:Int)(a b:L8):Int×Int:=if e≠0 then(0,e) else cmpR a b
def zjr:Ctr:=ctrT false false (λk:K2=>[.ptr 0 0,.str k.a,.str k.b]) (λk=>[k.s.box]) (λk=>k.s.e=0->k.a.length<2^61/\k.b.length<2^61) (λk r=>r=cmpE k.s.e k.a k.b) (λk (r:Int×Int)=>(.i r.1,[(k.s.err r.2).box]))
noncomputable def GCq:=tb zp4 (tb zlq tz)
theorem zc3:zg prog 167 zjr:=by
 refine zD (fn:=f167) (c:=f167.body.getD .skip) rfl rfl rfl (λh=>by cases h) λk hk O w0 I0 Q hl0 hq=> ?_
 obtain⟨⟨f,c,day,e⟩,a,b⟩:=k;replace hq:=hq _ rfl;simp only at hk hq;unfold cmpE at hq;refine zd.n GCq.h [] (.N (e=0) (.R [.i 0] [.box [.sl f.length 3 (fxG f),.sl c.length 4 (chG c),.i day,.i e]]) (.ex (q46 [.str a,.str b]) λn=>.all (λ(r:Int×Int)=>r=cmpR n.1 n.2) λn=>.ex (λ(x:St8×Int×Int)=>eqL [.ptr 0 0,.i n.1,.i n.2] [.ptr 0 0,.i x.2.1,.i x.2.2]/\eqH [.box [.sl f.length 3 (fxG f),.sl c.length 4 (chG c),.i day,.i e]] [.box [.sl x.1.f.length 3 (fxG x.1.f),.sl x.1.c.length 4 (chG x.1.c),.i x.1.day,.i x.1.e]]/\1=1/\True) λn=>.all (λ(r:Int)=>r=if St8.e n.1=0 then n.2.2 else St8.e n.1) λn_1=>let v1:=n.1.err n_1;.R [.i n.2.1] [.box [.sl (List.length v1.f) 3 (fxG v1.f),.sl (List.length v1.c) 4 (chG v1.c),.i v1.day,.i v1.e]])) ?_;simp only [q46,Tree.holds,zh];refine⟨λh=> ?_,λh=> ?_⟩
 ·have h:e≠0:=by simpa using h
  rw [aP h] at hq;exact RetR.st8 rfl hq rfl rfl
 ·have h:e=0:=by simpa using h
  subst h;obtain⟨h1,h2⟩:=hk rfl;rw [aO (by simp)] at hq;refine⟨(a,b),⟨⟨rfl,rfl,trivial⟩,h1,h2⟩,⟨_,rfl⟩,?_⟩;rintro _ rfl;refine⟨(⟨f,c,day,0⟩,(cmpR a b).1,(cmpR a b).2),⟨⟨⟨rfl,rfl⟩,⟨rfl,rfl⟩,⟨rfl,rfl⟩,trivial⟩,qJ f c day 0,trivial,trivial⟩,⟨_,rfl⟩,?_⟩;rintro _ rfl;exact RetR.st8 rfl hq rfl rfl
def sopC(F:L8->L8->L8×Int)(same:Bool):Ctr:=ctrT false false (λk:K2=>[.ptr 0 0,.str k.a,.str k.b]) (λk=>[k.s.box]) (λk=>k.s.e=0/\k.a.length<2^61/\k.b.length<2^61) (λk r=>r.2=(F k.a k.b).2/\(r.2=0->r.1=(F k.a k.b).1)) (λk (r:L8×Int)=>(.tup [.str r.1,.i r.2],[(bif same then k.s else k.s.err r.2).box]))
noncomputable def ztd:=tb KB (tb Xs (tb uD tz))
theorem zoc:zg prog 201 (sopC addR true):=by
 refine zD (fn:=f201) (c:=f201.body.getD .skip) rfl rfl rfl (λh=>by cases h) λk hk O w0 I0 Q hl0 hq=> ?_
 obtain⟨⟨f,c,day,e⟩,a,b⟩:=k;replace hq:=hq (addR a b) ⟨rfl,λ_=>rfl⟩;obtain⟨h0,h1,h2⟩:=hk;simp only at h0 h1 h2 hq;refine zd.n ztd.h [] (.ex (q46 [.str a,.str b]) λn=>.all (λ(r:L8×Int)=>r=addR n.1 n.2) λn=>.R [.str n.1,.i n.2] [.box [.sl f.length 3 (fxG f),.sl c.length 4 (chG c),.i day,.i e]]) ?_;simp only [q46,Tree.holds,zh];refine⟨(a,b),⟨⟨rfl,rfl,trivial⟩,h1,h2⟩,⟨_,rfl⟩,?_⟩;rintro _ rfl;exact RetR.st8 rfl hq rfl rfl
noncomputable def ztj:=tb KB (tb Xs (tb uD tz))
theorem zoj:zg prog 202 (sopC subR true):=by
 refine zD (fn:=f202) (c:=f202.body.getD .skip) rfl rfl rfl (λh=>by cases h) λk hk O w0 I0 Q hl0 hq=> ?_
 obtain⟨⟨f,c,day,e⟩,a,b⟩:=k;replace hq:=hq (subR a b) ⟨rfl,λ_=>rfl⟩;obtain⟨h0,h1,h2⟩:=hk;simp only at h0 h1 h2 hq;refine zd.n ztj.h [] (.ex (q46 [.str a,.str b]) λn=>.all (λ(r:L8×Int)=>r=subR n.1 n.2) λn=>.R [.str n.1,.i n.2] [.box [.sl f.length 3 (fxG f),.sl c.length 4 (chG c),.i day,.i e]]) ?_;simp only [q46,Tree.holds,zh];refine⟨(a,b),⟨⟨rfl,rfl,trivial⟩,h1,h2⟩,⟨_,rfl⟩,?_⟩;rintro _ rfl;exact RetR.st8 rfl hq rfl rfl
noncomputable def zt1:=tb KB (tb Xs (tb uD tz))
theorem zn9:zg prog 203 (sopC mulR true):=by
 refine zD (fn:=f203) (c:=f203.body.getD .skip) rfl rfl rfl (λh=>by cases h) λk hk O w0 I0 Q hl0 hq=> ?_
 obtain⟨⟨f,c,day,e⟩,a,b⟩:=k;replace hq:=hq (mulR a b) ⟨rfl,λ_=>rfl⟩;obtain⟨h0,h1,h2⟩:=hk;simp only at h0 h1 h2 hq;refine zd.n zt1.h [] (.ex (q46 [.str a,.str b]) λn=>.all (λ(r:L8×Int)=>r=mulR n.1 n.2) λn=>.R [.str n.1,.i n.2] [.box [.sl f.length 3 (fxG f),.sl c.length 4 (chG c),.i day,.i e]]) ?_;simp only [q46,Tree.holds,zh];refine⟨(a,b),⟨⟨rfl,rfl,trivial⟩,h1,h2⟩,⟨_,rfl⟩,?_⟩;rintro _ rfl;exact RetR.st8 rfl hq rfl rfl
noncomputable def GGr:=tb zc3 tz
abbrev q55(A:List AV)(H:Heap)(x:K2):Prop:=eqL A [.ptr 0 0,.str x.a,.str x.b]/\eqH H [.box [.sl x.s.f.length 3 (fxG x.s.f),.sl x.s.c.length 4 (chG x.s.c),.i x.s.day,.i x.s.e]]/\1=1/\(St8.e x.s=0->x.a.length<2305843009213693952/\x.b.length<2305843009213693952)
theorem XR:zg prog 204 (sopC (wE 7) false):=by
 refine zD (fn:=f204) (c:=f204.body.getD .skip) rfl rfl rfl (λh=>by cases h) λk hk O w0 I0 Q hl0 hq=> ?_
 obtain⟨⟨f,c,day,e⟩,a,b⟩:=k;obtain⟨h0,h1,h2⟩:=hk;simp only at h0 h1 h2 hq;subst h0;refine zd.n GGr.h [] (.ex (q55 [.ptr 0 0,.str a,.str b] [.box [.sl f.length 3 (fxG f),.sl c.length 4 (chG c),.i day,.i 0]]) λn=>.all (λ(r:Int×Int)=>r=cmpE n.s.e n.a n.b) λn_1=>let v2:=n.s.err n_1.2;let v1:List Blk:=[.box [.sl (List.length v2.f) 3 (fxG v2.f),.sl (List.length v2.c) 4 (chG v2.c),.i v2.day,.i v2.e]];.D (n_1.1<0) (.R [.str b,.i v2.e] v1) (.R [.str a,.i v2.e] v1)) ?_;simp only [q55,Tree.holds,zh];refine⟨⟨⟨f,c,day,0⟩,a,b⟩,⟨⟨⟨rfl,rfl⟩,rfl,rfl,trivial⟩,qJ f c day 0,trivial,λ_=>⟨h1,h2⟩⟩,⟨_,rfl⟩,?_⟩;have e1:cmpE 0 a b=cmpR a b:=aO (by simp);rw [e1];rintro _ rfl;unfold wE at hq;rw [aP rfl] at hq;refine⟨λh=> ?_,λh=> ?_⟩
 ·have h:(cmpR a b).1<0:=aB h;refine RetR.st8 rfl (hq (b,(cmpR a b).2) ?_) rfl rfl;by_cases g:(cmpR a b).2=0
  ·rw [aO (by rw [g]; simp),aP h]; exact⟨g,λ_=>rfl⟩
  ·rw [aP g]; exact⟨rfl,λh=>absurd h g⟩
 ·have h:¬ (cmpR a b).1<0:=aC h;refine RetR.st8 rfl (hq (a,(cmpR a b).2) ?_) rfl rfl;by_cases g:(cmpR a b).2=0
  ·rw [aO (by rw [g]; simp),aO h]; exact⟨g,λ_=>rfl⟩
  ·rw [aP g]; exact⟨rfl,λh=>absurd h g⟩
theorem XD:zg prog 205 (sopC (wE 8) false):=by
 refine zD (fn:=f205) (c:=f205.body.getD .skip) rfl rfl rfl (λh=>by cases h) λk hk O w0 I0 Q hl0 hq=> ?_
 obtain⟨⟨f,c,day,e⟩,a,b⟩:=k;obtain⟨h0,h1,h2⟩:=hk;simp only at h0 h1 h2 hq;subst h0;refine zd.n GGr.h [] (.ex (q55 [.ptr 0 0,.str b,.str a] [.box [.sl f.length 3 (fxG f),.sl c.length 4 (chG c),.i day,.i 0]]) λn=>.all (λ(r:Int×Int)=>r=cmpE n.s.e n.a n.b) λn_1=>let v2:=n.s.err n_1.2;let v1:List Blk:=[.box [.sl (List.length v2.f) 3 (fxG v2.f),.sl (List.length v2.c) 4 (chG v2.c),.i v2.day,.i v2.e]];.D (n_1.1<0) (.R [.str b,.i v2.e] v1) (.R [.str a,.i v2.e] v1)) ?_;simp only [q55,Tree.holds,zh];refine⟨⟨⟨f,c,day,0⟩,b,a⟩,⟨⟨⟨rfl,rfl⟩,rfl,rfl,trivial⟩,qJ f c day 0,trivial,λ_=>⟨h2,h1⟩⟩,⟨_,rfl⟩,?_⟩;have e1:cmpE 0 b a=cmpR b a:=aO (by simp);rw [e1];rintro _ rfl;unfold wE at hq;rw [aO (by decide)] at hq;refine⟨λh=> ?_,λh=> ?_⟩
 ·have h:(cmpR b a).1<0:=aB h;refine RetR.st8 rfl (hq (b,(cmpR b a).2) ?_) rfl rfl;by_cases g:(cmpR b a).2=0
  ·rw [aO (by rw [g]; simp),aP h]; exact⟨g,λ_=>rfl⟩
  ·rw [aP g]; exact⟨rfl,λh=>absurd h g⟩
 ·have h:¬ (cmpR b a).1<0:=aC h;refine RetR.st8 rfl (hq (a,(cmpR b a).2) ?_) rfl rfl;by_cases g:(cmpR b a).2=0
  ·rw [aO (by rw [g]; simp),aO h]; exact⟨g,λ_=>rfl⟩
  ·rw [aP g]; exact⟨rfl,λh=>absurd h g⟩
theorem zfn{X R Y S:Type}{P:Program}{g h:Nat}{fr mo fr' mo':Bool}{inp:X->List AV}{hin:X->Heap}{pre:X->Prop}{post:X->R->Prop}{out:X->R->AV×Heap}{inp':Y->List AV}{hin':Y->Heap}{pre':Y->Prop}{post':Y->S->Prop}{out':Y->S->AV×Heap}(μ:X->Nat)(ν : Y->Nat)
  (step:∀ n,zg P g (ctrT fr mo inp hin (λx=>μ x<n/\pre x) post out)->zg P h (ctrT fr' mo' inp' hin' (λy=> ν y<n/\pre' y) post' out') ->
   zg P g (ctrT fr mo inp hin (λx=>μ x<n+1/\pre x) post out)/\zg P h (ctrT fr' mo' inp' hin' (λy=> ν y<n+1/\pre' y) post' out')) :
  zg P g (ctrT fr mo inp hin pre post out)/\zg P h (ctrT fr' mo' inp' hin' pre' post' out'):=by
 have all:∀ n,zg P g (ctrT fr mo inp hin (λx=>μ x<n/\pre x) post out)/\zg P h (ctrT fr' mo' inp' hin' (λy=> ν y<n/\pre' y) post' out'):=by
  intro n
  induction n with
  | zero=>
   constructor
   ·intro args hc Q hq _;obtain⟨x,⟨_,_,_,h,_⟩,_⟩:=hq;exact absurd h (Nat.not_lt_zero _)
   ·intro args hc Q hq _;obtain⟨x,⟨_,_,_,h,_⟩,_⟩:=hq;exact absurd h (Nat.not_lt_zero _)
  | succ n ih=>exact step n ih.1 ih.2
 constructor
 ·intro args hc Q hq hf;obtain⟨x,⟨h1,h2,h3,h4⟩,h5⟩:=hq;exact(all (μ x+1)).1 args hc Q ⟨x,⟨h1,h2,h3,Nat.lt_succ_self _,h4⟩,h5⟩ hf
 ·intro args hc Q hq hf;obtain⟨x,⟨h1,h2,h3,h4⟩,h5⟩:=hq;exact(all (ν x+1)).2 args hc Q ⟨x,⟨h1,h2,h3,Nat.lt_succ_self _,h4⟩,h5⟩ hf
structure VX where
 s:St8
 x:Ex
def evA(k:VX):Ev:=k.x.ev k.s.f k.s.day
def valC(p:VX->Prop):Ctr:=ctrT false false (λk:VX=>[.ptr 0 0,k.x.exA]) (λk=>[k.s.box]) p (λk r=>(k.s.e≠0->r.2=k.s.e)/\(k.s.e=0->r.2=(evA k).e/\(r.2=0->r.1=(evA k).v))) (λk (r:L8×Int)=>(.str r.1,[(k.s.err r.2).box]))
def hldC(p:VX->Prop):Ctr:=ctrT false false (λk:VX=>[.ptr 0 0,k.x.exA]) (λk=>[k.s.box]) p (λk r=>(k.s.e≠0->r.2=k.s.e)/\(k.s.e=0->r.2=(evA k).g/\(r.2=0->r.1=(evA k).b))) (λk (r:Bool×Int)=>(.bool r.1,[(k.s.err r.2).box]))
def VPre(z:Int)(k:VX):Prop:=k.s.e=0->k.x.z8=z/\k.s.f.all okF=true/\k.s.f.length<2^40
def GVa(n:Nat):Nat->Option Ctr:=λf=>if f=156 then some (valC λk=>k.x.size<n/\VPre 1 k) else if f=155 then some (hldC λk=>k.x.size<n/\VPre 2 k)
 else if f=168 then some fixC else if f=167 then some zjr else if f=169 then some Ui
 else if f=201 then some (sopC addR true) else if f=202 then some (sopC subR true) else if f=203 then some (sopC mulR true) else if f=204 then some (sopC (wE 7) false) else if f=205 then some (sopC (wE 8) false) else none
theorem zkr{n:Nat}(h1:zg prog 156 (valC λk=>k.x.size<n/\VPre 1 k))(h2:zg prog 155 (hldC λk=>k.x.size<n/\VPre 2 k)):∀ f c,GVa n f=some c->zg prog f c:=by
 intro f c hf;unfold GVa at hf
 iterate 10
  split at hf
  ·rename_i hg; subst hg; cases hf; first | exact h1 | exact h2 | exact ze6 | exact zc3 | exact Yw | exact zoc | exact zoj | exact zn9 | exact XR | exact XD
 cases hf
theorem eqX2(x:Ex):eqL [.ptr 0 0,.agg [.int .u8 x.kind,.str x.rat,.str x.name,.i x.date,.sl x.sub.length 5 x.deep]] [.ptr 0 0,x.exA]:=⟨⟨rfl,rfl⟩,⟨⟨rfl,rfl⟩,rfl,rfl,⟨rfl,rfl⟩,⟨rfl,rfl,Ex.zQ _⟩,trivial⟩,trivial⟩
theorem zpa(x:Ex):eqL [.ptr 0 0,x.exA] [.ptr 0 0,x.exA]:=⟨⟨rfl,rfl⟩,⟨⟨rfl,rfl⟩,rfl,rfl,⟨rfl,rfl⟩,⟨rfl,rfl,za _ _ _⟩,trivial⟩,trivial⟩
theorem RetR.st9{ctr:Ctr}{Q:AV×Heap->Prop}{rs:List AV}{f:List Fx}{c:List Ch}{day e:Int}{b:Blk}{r:AV}(hf:ctr.fresh=false)(hq:Q (r,[(St8.mk f c day e).box]))(hs:Zm r=true)(hr:resV rs=r)(h2:exp2 [.box [.sl f.length 3 (fxG f),.sl c.length 4 (chG c),.i day,.i e],b] [0] r=r:=by rfl):RetR ctr 1 Q rs [.box [.sl f.length 3 (fxG f),.sl c.length 4 (chG c),.i day,.i e],b]:=by
 subst hr;refine RetR.keep [0] rfl rfl (by decide) hf hq ?_ ?_ rfl
 ·rw [h2]; exact VU hs
 ·exact qJ f c day e
theorem ui(e e0:Int)(v:L8):∃ r:L8×Int,(e≠0->r.2=e)/\(e=0->r.2=e0/\(r.2=0->r.1=v)):=by
 by_cases h:e=0
 ·exact⟨(v,e0),λg=>absurd h g,λ_=>⟨rfl,λ_=>rfl⟩⟩
 ·exact⟨(v,e),λ_=>rfl,λg=>absurd g h⟩
theorem Z7(e e0:Int)(v:Bool):∃ r:Bool×Int,(e≠0->r.2=e)/\(e=0->r.2=e0/\(r.2=0->r.1=v)):=by
 by_cases h:e=0
 ·exact⟨(v,e0),λg=>absurd h g,λ_=>⟨rfl,λ_=>rfl⟩⟩
 ·exact⟨(v,e),λ_=>rfl,λg=>absurd g h⟩
section
variable (n:Nat) (h1:zg prog 156 (valC λk=>k.x.size<n/\VPre 1 k)) (h2:zg prog 155 (hldC λk=>k.x.size<n/\VPre 2 k))
include h1 h2
abbrev q57(A:List AV)(H:Heap)(x:K2):Prop:=eqL A [.ptr 0 0,.str x.a,.str x.b]/\eqH H [.box [.sl x.s.f.length 3 (fxG x.s.f),.sl x.s.c.length 4 (chG x.s.c),.i x.s.day,.i x.s.e]]/\1=1/\St8.e x.s=0/\x.a.length<2305843009213693952/\x.b.length<2305843009213693952
abbrev q56(A:List AV)(H:Heap)(x:KS):Prop:=eqL A [.ptr 0 0,.str x.x,.i x.e]/\eqH H [.box [.sl x.s.f.length 3 (fxG x.s.f),.sl x.s.c.length 4 (chG x.s.c),.i x.s.day,.i x.s.e]]/\1=1/\x.s.f.length<1099511627776/\St8.e x.s=0
theorem zae:zg prog 156 (valC λk=>k.x.size<n+1/\VPre 1 k):=by
 refine zD (fn:=f156) (c:=f156.body.getD .skip) rfl rfl rfl (λh=>by cases h) λk hk O w0 I0 Q hl0 hq=> ?_
 obtain⟨⟨f,c,day,e⟩,⟨k,r,m,d,s⟩⟩:=k;obtain⟨hn,hv⟩:=hk;simp only at hn hv hq;refine zd.n (zkr h1 h2) [] (let v17:=s.getD 2 Ex.nil;let v15:=s.getD 0 Ex.nil;let v14:=s.getD 1 Ex.nil;let v5:=[AV.ptr 0 0,AV.agg [.int .u8 (Ex.kind v14),.str (Ex.rat v14),.str (Ex.name v14),.i (Ex.date v14),.sl (List.length (Ex.sub v14)) 5 (Ex.deep v14)]];let v4:=[AV.ptr 0 0,AV.agg [.int .u8 (Ex.kind v15),.str (Ex.rat v15),.str (Ex.name v15),.i (Ex.date v15),.sl (List.length (Ex.sub v15)) 5 (Ex.deep v15)]];let v3:List Blk:=[.box [.sl f.length 3 (fxG f),.sl c.length 4 (chG c),.i day,.i e]];let v2:List AV:=[.int .u8 k,.str r,.str m,.i d,.sl s.length 5 (Ex.exG s)];let v13:List Blk:=[.box [.sl f.length 3 (fxG f),.sl c.length 4 (chG c),.i day,.i e],.box v2];.N (e=0) (.R [.str #[].toList] v13) (.D (k=1) (.R [.str r] v13) (.D (k=2) (.ex (q56 [.ptr 0 0,.str m,.i d] v3) λn=>.all (λ(r:L8×Int)=>r=fixR n.s.f n.x n.e) λn_1=>let v19:=n.s.err n_1.2;.R [.str n_1.1] [.box [.sl (List.length v19.f) 3 (fxG v19.f),.sl (List.length v19.c) 4 (chG v19.c),.i v19.day,.i v19.e],.box v2]) (.D (k=3) (.ex (q56 [.ptr 0 0,.str m,.i day] v3) λn=>.all (λ(r:L8×Int)=>r=fixR n.s.f n.x n.e) λn_1=>let v20:=n.s.err n_1.2;.R [.str n_1.1] [.box [.sl (List.length v20.f) 3 (fxG v20.f),.sl (List.length v20.c) 4 (chG v20.c),.i v20.day,.i v20.e],.box v2]) (.D (k=9) (.side ((0:Int)<=0/\(0:Int)<s.length) (.ex (λ(x:VX)=>eqL v4 [.ptr 0 0,.agg [.int .u8 x.x.kind,.str x.x.rat,.str x.x.name,.i x.x.date,.sl x.x.sub.length 5 (Ex.exG x.x.sub)]]/\eqH v3 [.box [.sl x.s.f.length 3 (fxG x.s.f),.sl x.s.c.length 4 (chG x.s.c),.i x.s.day,.i x.s.e]]/\1=1/\Ex.size x.x<n/\VPre (2:Int) x) λn_1=>.all (λ(r:Bool×Int)=>(St8.e n_1.s≠0->r.2=St8.e n_1.s)/\(St8.e n_1.s=0->r.2=Ev.g (evA n_1)/\(r.2=0->r.1=Ev.b (evA n_1)))) λn_2=>let v16:=n_1.s.err n_2.2;let v6:=[AV.sl (List.length v16.f) 3 (fxG v16.f),AV.sl (List.length v16.c) 4 (chG v16.c),AV.i v16.day,AV.i v16.e];.ite n_2.1 (.side ((0:Int)<=1/\(1:Int)<s.length) (.ex (λ(x:VX)=>eqL v5 [.ptr 0 0,.agg [.int .u8 x.x.kind,.str x.x.rat,.str x.x.name,.i x.x.date,.sl x.x.sub.length 5 (Ex.exG x.x.sub)]]/\eqH [.box v6] [.box [.sl x.s.f.length 3 (fxG x.s.f),.sl x.s.c.length 4 (chG x.s.c),.i x.s.day,.i x.s.e]]/\1=1/\Ex.size x.x<n/\VPre (1:Int) x) λn=>.all (λ(r:L8×Int)=>(St8.e n.s≠0->r.2=St8.e n.s)/\(St8.e n.s=0->r.2=Ev.e (evA n)/\(r.2=0->r.1=Ev.v (evA n)))) λn_3=>let v21:=n.s.err n_3.2;.R [.str n_3.1] [.box [.sl (List.length v21.f) 3 (fxG v21.f),.sl (List.length v21.c) 4 (chG v21.c),.i v21.day,.i v21.e],.box v2])) (.side ((0:Int)<=2/\(2:Int)<s.length) (.ex (λ(x:VX)=>eqL [.ptr 0 0,.agg [.int .u8 (Ex.kind v17),.str (Ex.rat v17),.str (Ex.name v17),.i (Ex.date v17),.sl (List.length (Ex.sub v17)) 5 (Ex.deep v17)]] [.ptr 0 0,.agg [.int .u8 x.x.kind,.str x.x.rat,.str x.x.name,.i x.x.date,.sl x.x.sub.length 5 (Ex.exG x.x.sub)]]/\eqH [.box v6] [.box [.sl x.s.f.length 3 (fxG x.s.f),.sl x.s.c.length 4 (chG x.s.c),.i x.s.day,.i x.s.e]]/\1=1/\Ex.size x.x<n/\VPre (1:Int) x) λn=>.all (λ(r:L8×Int)=>(St8.e n.s≠0->r.2=St8.e n.s)/\(St8.e n.s=0->r.2=Ev.e (evA n)/\(r.2=0->r.1=Ev.v (evA n)))) λn_3=>let v22:=n.s.err n_3.2;.R [.str n_3.1] [.box [.sl (List.length v22.f) 3 (fxG v22.f),.sl (List.length v22.c) 4 (chG v22.c),.i v22.day,.i v22.e],.box v2])))) (.side ((0:Int)<=0/\(0:Int)<s.length) (.ex (λ(x:VX)=>eqL v4 [.ptr 0 0,.agg [.int .u8 x.x.kind,.str x.x.rat,.str x.x.name,.i x.x.date,.sl x.x.sub.length 5 (Ex.exG x.x.sub)]]/\eqH v3 [.box [.sl x.s.f.length 3 (fxG x.s.f),.sl x.s.c.length 4 (chG x.s.c),.i x.s.day,.i x.s.e]]/\1=1/\Ex.size x.x<n/\VPre (1:Int) x) λn_1=>.all (λ(r:L8×Int)=>(St8.e n_1.s≠0->r.2=St8.e n_1.s)/\(St8.e n_1.s=0->r.2=Ev.e (evA n_1)/\(r.2=0->r.1=Ev.v (evA n_1)))) λn_2=>let v18:=n_1.s.err n_2.2;.side ((0:Int)<=1/\(1:Int)<s.length) (.ex (λ(x:VX)=>eqL v5 [.ptr 0 0,.agg [.int .u8 x.x.kind,.str x.x.rat,.str x.x.name,.i x.x.date,.sl x.x.sub.length 5 (Ex.exG x.x.sub)]]/\eqH [.box [.sl (List.length v18.f) 3 (fxG v18.f),.sl (List.length v18.c) 4 (chG v18.c),.i v18.day,.i v18.e]] [.box [.sl x.s.f.length 3 (fxG x.s.f),.sl x.s.c.length 4 (chG x.s.c),.i x.s.day,.i x.s.e]]/\1=1/\Ex.size x.x<n/\VPre (1:Int) x) λn=>.all (λ(r:L8×Int)=>(St8.e n.s≠0->r.2=St8.e n.s)/\(St8.e n.s=0->r.2=Ev.e (evA n)/\(r.2=0->r.1=Ev.v (evA n)))) λn_3=>let v12:=n.s.err n_3.2;let v1:=q57 [.ptr 0 0,.str n_2.1,.str n_3.1] [.box [.sl (List.length v12.f) 3 (fxG v12.f),.sl (List.length v12.c) 4 (chG v12.c),.i v12.day,.i v12.e]];.N (St8.e v12=(0:Int)) (.R [.str #[].toList] [.box [.sl (List.length v12.f) 3 (fxG v12.f),.sl (List.length v12.c) 4 (chG v12.c),.i v12.day,.i v12.e],.box v2]) (.D ((4:Int)<=k/\k<=8) (.D (k=4) (.ex v1 λn=>.all (λ(r:L8×Int)=>r.2=Prod.snd (addR n.a n.b)/\(r.2=0->r.1=Prod.fst (addR n.a n.b))) λn_4=>let v9:=bif true then K2.s n else St8.err n.s n_4.2;.ex (q54 [.ptr 0 0,.str n_4.1,.i n_4.2] [.box [.sl (List.length v9.f) 3 (fxG v9.f),.sl (List.length v9.c) 4 (chG v9.c),.i v9.day,.i v9.e]]) λn=>.all (λ(r:Int)=>r=if St8.e n.s=0 then KS.e n else St8.e n.s) λn_5=>let v23:=n.s.err n_5;.R [.str n.x] [.box [.sl (List.length v23.f) 3 (fxG v23.f),.sl (List.length v23.c) 4 (chG v23.c),.i v23.day,.i v23.e],.box v2]) (.D (k=5) (.ex v1 λn=>.all (λ(r:L8×Int)=>r.2=Prod.snd (subR n.a n.b)/\(r.2=0->r.1=Prod.fst (subR n.a n.b))) λn_4=>let v10:=bif true then K2.s n else St8.err n.s n_4.2;.ex (q54 [.ptr 0 0,.str n_4.1,.i n_4.2] [.box [.sl (List.length v10.f) 3 (fxG v10.f),.sl (List.length v10.c) 4 (chG v10.c),.i v10.day,.i v10.e]]) λn=>.all (λ(r:Int)=>r=if St8.e n.s=0 then KS.e n else St8.e n.s) λn_5=>let v24:=n.s.err n_5;.R [.str n.x] [.box [.sl (List.length v24.f) 3 (fxG v24.f),.sl (List.length v24.c) 4 (chG v24.c),.i v24.day,.i v24.e],.box v2]) (.D (k=6) (.ex v1 λn=>.all (λ(r:L8×Int)=>r.2=Prod.snd (mulR n.a n.b)/\(r.2=0->r.1=Prod.fst (mulR n.a n.b))) λn_4=>let v11:=bif true then K2.s n else St8.err n.s n_4.2;.ex (q54 [.ptr 0 0,.str n_4.1,.i n_4.2] [.box [.sl (List.length v11.f) 3 (fxG v11.f),.sl (List.length v11.c) 4 (chG v11.c),.i v11.day,.i v11.e]]) λn=>.all (λ(r:Int)=>r=if St8.e n.s=0 then KS.e n else St8.e n.s) λn_5=>let v25:=n.s.err n_5;.R [.str n.x] [.box [.sl (List.length v25.f) 3 (fxG v25.f),.sl (List.length v25.c) 4 (chG v25.c),.i v25.day,.i v25.e],.box v2]) (.D (k=7) (.ex v1 λn=>.all (λ(r:L8×Int)=>r.2=Prod.snd (wE (7:Int) n.a n.b)/\(r.2=0->r.1=Prod.fst (wE (7:Int) n.a n.b))) λn_4=>let v7:=bif false then K2.s n else St8.err n.s n_4.2;.ex (q54 [.ptr 0 0,.str n_4.1,.i n_4.2] [.box [.sl (List.length v7.f) 3 (fxG v7.f),.sl (List.length v7.c) 4 (chG v7.c),.i v7.day,.i v7.e]]) λn=>.all (λ(r:Int)=>r=if St8.e n.s=0 then KS.e n else St8.e n.s) λn_5=>let v26:=n.s.err n_5;.R [.str n.x] [.box [.sl (List.length v26.f) 3 (fxG v26.f),.sl (List.length v26.c) 4 (chG v26.c),.i v26.day,.i v26.e],.box v2]) (.D (k=8) (.ex v1 λn=>.all (λ(r:L8×Int)=>r.2=Prod.snd (wE (8:Int) n.a n.b)/\(r.2=0->r.1=Prod.fst (wE (8:Int) n.a n.b))) λn_4=>let v8:=bif false then K2.s n else St8.err n.s n_4.2;.ex (q54 [.ptr 0 0,.str n_4.1,.i n_4.2] [.box [.sl (List.length v8.f) 3 (fxG v8.f),.sl (List.length v8.c) 4 (chG v8.c),.i v8.day,.i v8.e]]) λn=>.all (λ(r:Int)=>r=if St8.e n.s=0 then KS.e n else St8.e n.s) λn_5=>let v27:=n.s.err n_5;.R [.str n.x] [.box [.sl (List.length v27.f) 3 (fxG v27.f),.sl (List.length v27.c) 4 (chG v27.c),.i v27.day,.i v27.e],.box v2]) .fail))))) .fail))))))))) ?_;simp only [q54,q56,q57,Tree.holds,zh];refine⟨λh=> ?_,λh=> ?_⟩
 ·have h:e≠0:=by simpa using h
  exact RetR.st9 rfl (hq ([],e) ⟨λ_=>rfl,λh0=>absurd h0 h⟩) rfl rfl
 have h:e=0:=by simpa using h
 subst h;obtain⟨hs,hf,hfl⟩:=hv rfl;simp only at hs hf hfl;have hq0:∀ t:L8×Int,t.2=((Ex.mk k r m d s).ev f day).e->(t.2=0->t.1=((Ex.mk k r m d s).ev f day).v)->Q (.str t.1,[(St8.mk f c day t.2).box]):=λt h1 h2=>hq t ⟨λh=>absurd rfl h,λ_=>⟨h1,h2⟩⟩
 clear hq;have hev:(Ex.mk k r m d s).ev f day=evN f day k r m d (Ex.evs f day s):=by rw [Ex.ev]
 have hc:=Ex.Vj hs;simp only [Ex.kind,Ex.sub,Ex.rat] at hc;rw [Ex.size] at hn;have z0:=λg=>Ex.qw (s:=s) (i:=0) g
 have z1:=λg=>Ex.qw (s:=s) (i:=1) g
 have z2:=λg=>Ex.qw (s:=s) (i:=2) g
 have hfix:∀ (x:L8) (y:Int) (b:Blk),fixR f x y=(((Ex.mk k r m d s).ev f day).v,((Ex.mk k r m d s).ev f day).e)->∀ z,z=fixR f x y->RetR (valC λk=>k.x.size<n+1/\VPre 1 k) 1 Q [.str z.1] [.box [.sl f.length 3 (fxG f),.sl c.length 4 (chG c),.i day,.i z.2],b]:=by
  rintro x y b h1 z rfl;exact RetR.st9 rfl (hq0 _ (congrArg Prod.snd h1) λ_=>congrArg Prod.fst h1) rfl rfl
 rcases hc with ⟨rfl,hr⟩ | rfl | rfl | ⟨⟨k1,k2⟩,hl,hs0,hs1⟩ | ⟨rfl,hl,hs0,hs1,hs2⟩
 ·refine⟨λ_=> ?_,λh=>(by cases h)⟩;exact RetR.st9 rfl (hq0 (r,0) (by rw [hev]; rfl) λ_=>by rw [hev]; rfl) rfl rfl
 ·refine⟨λh=>(by cases h),λ_=>⟨λ_=> ?_,λh=>(by cases h)⟩⟩;refine⟨⟨⟨f,c,day,0⟩,m,d⟩,⟨⟨⟨rfl,rfl⟩,rfl,⟨rfl,rfl⟩,trivial⟩,qJ f c day 0,by trivial,hfl,rfl⟩,⟨_,rfl⟩,?_⟩;exact hfix m d _ (by rw [hev]; rfl)
 ·refine⟨λh=>(by cases h),λ_=>⟨λh=>(by cases h),λ_=>⟨λ_=> ?_,λh=>(by cases h)⟩⟩⟩;refine⟨⟨⟨f,c,day,0⟩,m,day⟩,⟨⟨⟨rfl,rfl⟩,rfl,⟨rfl,rfl⟩,trivial⟩,qJ f c day 0,by trivial,hfl,rfl⟩,⟨_,rfl⟩,?_⟩;exact hfix m day _ (by rw [hev]; rfl)
 ·iterate 4 refine⟨λh=>absurd (aB h) (by omega),λ_=> ?_⟩
  have z0:=z0 (by omega);have z1:=z1 (by omega)
  have he:(((Ex.mk k r m d s).ev f day).v,((Ex.mk k r m d s).ev f day).e)=QU [] ((s.getD 0 Ex.nil).ev f day) ((s.getD 1 Ex.nil).ev f day) (opR k):=by
   rw [hev];simp only [evN,valN];rw [aO (by omega),aO (by omega),aO (by omega),aO (by omega),Ex.jd (by omega),Ex.jd (by omega)]
  unfold QU at he;refine⟨⟨by decide,by omega⟩,λ_=>⟨⟨⟨f,c,day,0⟩,s.getD 0 Ex.nil⟩,⟨eqX2 _,qJ f c day 0,by trivial,by show(s.getD 0 Ex.nil).size<n; omega,λ_=>⟨hs0,hf,hfl⟩⟩,ui _ _ _,?_⟩⟩;intro r0 g0;obtain⟨g0,k0⟩:=g0.2 rfl;simp only [evA] at g0 k0;refine⟨⟨by decide,by omega⟩,λ_=>⟨⟨⟨f,c,day,r0.2⟩,s.getD 1 Ex.nil⟩,⟨eqX2 _,qJ f c day r0.2,by trivial,by show(s.getD 1 Ex.nil).size<n; omega,λ_=>⟨hs1,hf,hfl⟩⟩,ui _ _ _,?_⟩⟩;intro r1 g1;simp only [evA] at g1;refine⟨λh=> ?_,λh=> ?_⟩
  ·have h:r1.2≠0:=by
    intro h0;have h':(!decide (r1.2=0))=true:=h;rw [h0] at h'; cases h'
   refine RetR.st9 rfl (hq0 ([],r1.2) ?_ λh0=>absurd h0 h) rfl rfl;have he:=congrArg Prod.snd he;simp only at he ⊢;rw [he];by_cases h3:r0.2=0
   ·obtain⟨q1,_⟩:=g1.2 h3;rw [aO (by rw [<- g0]; simpa using h3),aP (by rw [<- q1]; exact h),q1]
   ·rw [aP (by rw [<- g0]; exact h3),g1.1 h3,g0]
  ·have h:r1.2=0:=by
    have h':(!decide (r1.2=0))=false:=h;simpa using h'
   have h3:r0.2=0:=by
    refine bM λh3=> ?_
    exact h3 (by rw [<- g1.1 h3]; exact h)
   obtain⟨q1,k1'⟩:=g1.2 h3;have k0:=k0 h3;have k1':=k1' h;rw [aO (by rw [<- g0]; simpa using h3),aO (by rw [<- q1]; simpa using h),<- k0,<- k1'] at he;have l0:=vk (by rw [k0]; exact Ex.Zj hf day _ hs0 (by rw [<- g0]; exact h3):errR r0.1=0);have l1:=vk (by rw [k1']; exact Ex.Zj hf day _ hs1 (by rw [<- q1]; exact h):errR r1.1=0);refine⟨λ_=> ?_,λhno=>absurd (aC hno) (by simp only [Classical.not_not]; exact⟨k1,k2⟩)⟩;refine⟨λhk=> ?_,λhk=> ?_⟩
   ·have hk:k=4:=aB hk;subst hk;have ho:opR 4 r0.1 r1.1=addR r0.1 r1.1:=rfl;rw [ho] at he;refine⟨⟨⟨f,c,day,0⟩,r0.1,r1.1⟩,⟨⟨⟨rfl,rfl⟩,rfl,rfl,trivial⟩,⟨⟨⟨rfl,rfl,za _ _ _⟩,⟨rfl,rfl,za _ _ _⟩,⟨rfl,rfl⟩,⟨rfl,h⟩,trivial⟩,trivial⟩,by trivial,rfl,by show r0.1.length<_; omega,by show r1.1.length<_; omega⟩,⟨addR r0.1 r1.1,rfl,λ_=>rfl⟩,?_⟩;intro t ht;obtain⟨t1,t2⟩:=ht;simp only at t1 t2;refine⟨⟨⟨f,c,day,0⟩,t.1,t.2⟩,⟨⟨⟨rfl,rfl⟩,rfl,⟨rfl,rfl⟩,trivial⟩,qJ f c day _,by trivial,trivial⟩,⟨_,rfl⟩,?_⟩;intro z hz
    have hz:z=t.2:=by
     rw [hz];show(if 0=(0:Int) then t.2 else 0)=t.2;by_cases g:t.2=0<;>simp [g]
    subst hz;exact RetR.st9 rfl (hq0 t (by rw [t1]; exact(congrArg Prod.snd he).symm) λg=>by rw [t2 g]; exact(congrArg Prod.fst he).symm) rfl rfl
   have hk:¬ k=4:=aC hk;refine⟨λhk=> ?_,λhk=> ?_⟩
   ·have hk:k=5:=aB hk;subst hk;have ho:opR 5 r0.1 r1.1=subR r0.1 r1.1:=rfl;rw [ho] at he;refine⟨⟨⟨f,c,day,0⟩,r0.1,r1.1⟩,⟨⟨⟨rfl,rfl⟩,rfl,rfl,trivial⟩,⟨⟨⟨rfl,rfl,za _ _ _⟩,⟨rfl,rfl,za _ _ _⟩,⟨rfl,rfl⟩,⟨rfl,h⟩,trivial⟩,trivial⟩,by trivial,rfl,by show r0.1.length<_; omega,by show r1.1.length<_; omega⟩,⟨subR r0.1 r1.1,rfl,λ_=>rfl⟩,?_⟩;intro t ht;obtain⟨t1,t2⟩:=ht;simp only at t1 t2;refine⟨⟨⟨f,c,day,0⟩,t.1,t.2⟩,⟨⟨⟨rfl,rfl⟩,rfl,⟨rfl,rfl⟩,trivial⟩,qJ f c day _,by trivial,trivial⟩,⟨_,rfl⟩,?_⟩;intro z hz
    have hz:z=t.2:=by
     rw [hz];show(if 0=(0:Int) then t.2 else 0)=t.2;by_cases g:t.2=0<;>simp [g]
    subst hz;exact RetR.st9 rfl (hq0 t (by rw [t1]; exact(congrArg Prod.snd he).symm) λg=>by rw [t2 g]; exact(congrArg Prod.fst he).symm) rfl rfl
   have hk:¬ k=5:=aC hk;refine⟨λhk=> ?_,λhk=> ?_⟩
   ·have hk:k=6:=aB hk;subst hk;have ho:opR 6 r0.1 r1.1=mulR r0.1 r1.1:=rfl;rw [ho] at he;refine⟨⟨⟨f,c,day,0⟩,r0.1,r1.1⟩,⟨⟨⟨rfl,rfl⟩,rfl,rfl,trivial⟩,⟨⟨⟨rfl,rfl,za _ _ _⟩,⟨rfl,rfl,za _ _ _⟩,⟨rfl,rfl⟩,⟨rfl,h⟩,trivial⟩,trivial⟩,by trivial,rfl,by show r0.1.length<_; omega,by show r1.1.length<_; omega⟩,⟨mulR r0.1 r1.1,rfl,λ_=>rfl⟩,?_⟩;intro t ht;obtain⟨t1,t2⟩:=ht;simp only at t1 t2;refine⟨⟨⟨f,c,day,0⟩,t.1,t.2⟩,⟨⟨⟨rfl,rfl⟩,rfl,⟨rfl,rfl⟩,trivial⟩,qJ f c day _,by trivial,trivial⟩,⟨_,rfl⟩,?_⟩;intro z hz
    have hz:z=t.2:=by
     rw [hz];show(if 0=(0:Int) then t.2 else 0)=t.2;by_cases g:t.2=0<;>simp [g]
    subst hz;exact RetR.st9 rfl (hq0 t (by rw [t1]; exact(congrArg Prod.snd he).symm) λg=>by rw [t2 g]; exact(congrArg Prod.fst he).symm) rfl rfl
   have hk:¬ k=6:=aC hk;refine⟨λhk=> ?_,λhk=> ?_⟩
   ·have hk:k=7:=aB hk;subst hk;have ho:opR 7 r0.1 r1.1=(wE 7) r0.1 r1.1:=rfl;rw [ho] at he;refine⟨⟨⟨f,c,day,0⟩,r0.1,r1.1⟩,⟨⟨⟨rfl,rfl⟩,rfl,rfl,trivial⟩,⟨⟨⟨rfl,rfl,za _ _ _⟩,⟨rfl,rfl,za _ _ _⟩,⟨rfl,rfl⟩,⟨rfl,h⟩,trivial⟩,trivial⟩,by trivial,rfl,by show r0.1.length<_; omega,by show r1.1.length<_; omega⟩,⟨(wE 7) r0.1 r1.1,rfl,λ_=>rfl⟩,?_⟩;intro t ht;obtain⟨t1,t2⟩:=ht;simp only at t1 t2;refine⟨⟨⟨f,c,day,t.2⟩,t.1,t.2⟩,⟨⟨⟨rfl,rfl⟩,rfl,⟨rfl,rfl⟩,trivial⟩,qJ f c day _,by trivial,trivial⟩,⟨_,rfl⟩,?_⟩;intro z hz
    have hz:z=t.2:=by
     rw [hz];show(if t.2=(0:Int) then t.2 else t.2)=t.2;by_cases g:t.2=0<;>simp [g]
    subst hz;exact RetR.st9 rfl (hq0 t (by rw [t1]; exact(congrArg Prod.snd he).symm) λg=>by rw [t2 g]; exact(congrArg Prod.fst he).symm) rfl rfl
   have hk:¬ k=7:=aC hk;refine⟨λhk=> ?_,λhk=> ?_⟩
   ·have hk:k=8:=aB hk;subst hk;have ho:opR 8 r0.1 r1.1=(wE 8) r0.1 r1.1:=rfl;rw [ho] at he;refine⟨⟨⟨f,c,day,0⟩,r0.1,r1.1⟩,⟨⟨⟨rfl,rfl⟩,rfl,rfl,trivial⟩,⟨⟨⟨rfl,rfl,za _ _ _⟩,⟨rfl,rfl,za _ _ _⟩,⟨rfl,rfl⟩,⟨rfl,h⟩,trivial⟩,trivial⟩,by trivial,rfl,by show r0.1.length<_; omega,by show r1.1.length<_; omega⟩,⟨(wE 8) r0.1 r1.1,rfl,λ_=>rfl⟩,?_⟩;intro t ht;obtain⟨t1,t2⟩:=ht;simp only at t1 t2;refine⟨⟨⟨f,c,day,t.2⟩,t.1,t.2⟩,⟨⟨⟨rfl,rfl⟩,rfl,⟨rfl,rfl⟩,trivial⟩,qJ f c day _,by trivial,trivial⟩,⟨_,rfl⟩,?_⟩;intro z hz
    have hz:z=t.2:=by
     rw [hz];show(if t.2=(0:Int) then t.2 else t.2)=t.2;by_cases g:t.2=0<;>simp [g]
    subst hz;exact RetR.st9 rfl (hq0 t (by rw [t1]; exact(congrArg Prod.snd he).symm) λg=>by rw [t2 g]; exact(congrArg Prod.fst he).symm) rfl rfl
   have hk:¬ k=8:=aC hk;omega
 ·iterate 3 refine⟨λh=>(by cases h),λ_=> ?_⟩
  refine⟨λ_=> ?_,λh=>(by cases h)⟩;have z0:=z0 (by omega);have z1:=z1 (by omega);have z2:=z2 (by omega)
  have he:(((Ex.mk 9 r m d s).ev f day).v,((Ex.mk 9 r m d s).ev f day).e)=if((s.getD 0 Ex.nil).ev f day).g≠0 then([],((s.getD 0 Ex.nil).ev f day).g) else if((s.getD 0 Ex.nil).ev f day).b then(((s.getD 1 Ex.nil).ev f day).v,((s.getD 1 Ex.nil).ev f day).e) else(((s.getD 2 Ex.nil).ev f day).v,((s.getD 2 Ex.nil).ev f day).e):=by
   rw [hev];simp only [evN,valN];rw [aO (by decide),aO (by decide),aO (by decide),aP trivial,Ex.jd (by omega),Ex.jd (by omega),Ex.jd (by omega)]
  refine⟨⟨by decide,by omega⟩,λ_=>⟨⟨⟨f,c,day,0⟩,s.getD 0 Ex.nil⟩,⟨eqX2 _,qJ f c day 0,by trivial,by show(s.getD 0 Ex.nil).size<n; omega,λ_=>⟨hs0,hf,hfl⟩⟩,Z7 _ _ _,?_⟩⟩;intro r0 g0;obtain⟨g0,k0⟩:=g0.2 rfl;simp only [evA] at g0 k0
  have fin:∀ (y:Ex),(r0.2=0->(((Ex.mk 9 r m d s).ev f day).v,((Ex.mk 9 r m d s).ev f day).e)=((y.ev f day).v,(y.ev f day).e))->∀ (b:Blk) (t:L8×Int),((r0.2≠0->t.2=r0.2)/\(r0.2=0->t.2=(y.ev f day).e/\(t.2=0->t.1=(y.ev f day).v))) ->
    RetR (valC λk=>k.x.size<n+1/\VPre 1 k) 1 Q [.str t.1] [.box [.sl f.length 3 (fxG f),.sl c.length 4 (chG c),.i day,.i t.2],b]:=by
   intro y hy b t ht;refine RetR.st9 rfl (hq0 t ?_ λh0=> ?_) rfl rfl
   ·by_cases h3:r0.2=0
    ·rw [(ht.2 h3).1]; exact(congrArg Prod.snd (hy h3)).symm
    ·rw [ht.1 h3,g0];rw [aP (by rw [<- g0]; exact h3)] at he;exact(congrArg Prod.snd he).symm
   ·have h3:r0.2=0:=by
     refine bM λh3=> ?_
     exact h3 (by rw [<- ht.1 h3]; exact h0)
    rw [(ht.2 h3).2 h0]; exact(congrArg Prod.fst (hy h3)).symm
  refine⟨λhb=> ?_,λhb=> ?_⟩
  ·refine⟨⟨by decide,by omega⟩,λ_=>⟨⟨⟨f,c,day,r0.2⟩,s.getD 1 Ex.nil⟩,⟨eqX2 _,qJ f c day r0.2,by trivial,by show(s.getD 1 Ex.nil).size<n; omega,λ_=>⟨hs1,hf,hfl⟩⟩,ui _ _ _,?_⟩⟩;intro t ht;exact fin _ (λh3=>by rw [he,aO (by rw [<- g0]; simpa using h3),aP (by rw [<- k0 h3]; exact hb)]) _ t ht
  ·refine⟨⟨by decide,by omega⟩,λ_=>⟨⟨⟨f,c,day,r0.2⟩,s.getD 2 Ex.nil⟩,⟨eqX2 _,qJ f c day r0.2,by trivial,by show(s.getD 2 Ex.nil).size<n; omega,λ_=>⟨hs2,hf,hfl⟩⟩,ui _ _ _,?_⟩⟩;intro t ht;exact fin _ (λh3=>by rw [he,aO (by rw [<- g0]; simpa using h3),aO (by rw [<- k0 h3,hb]; decide)]) _ t ht
theorem Un:zg prog 155 (hldC λk=>k.x.size<n+1/\VPre 2 k):=by
 refine zD (fn:=f155) (c:=f155.body.getD .skip) rfl rfl rfl (λh=>by cases h) λk hk O w0 I0 Q hl0 hq=> ?_
 obtain⟨⟨f,c,day,e⟩,⟨k,r,m,d,s⟩⟩:=k;obtain⟨hn,hv⟩:=hk;simp only at hn hv hq;refine zd.n (zkr h1 h2) [] (let v11:=s.getD 0 Ex.nil;let v10:=s.getD 1 Ex.nil;let v4:List Blk:=[.box [.sl f.length 3 (fxG f),.sl c.length 4 (chG c),.i day,.i e]];let v3:List AV:=[.int .u8 k,.str r,.str m,.i d,.sl s.length 5 (Ex.exG s)];let v2:=[AV.ptr 0 0,AV.agg [.int .u8 (Ex.kind v10),.str (Ex.rat v10),.str (Ex.name v10),.i (Ex.date v10),.sl (List.length (Ex.sub v10)) 5 (Ex.deep v10)]];let v1:=[AV.ptr 0 0,AV.agg [.int .u8 (Ex.kind v11),.str (Ex.rat v11),.str (Ex.name v11),.i (Ex.date v11),.sl (List.length (Ex.sub v11)) 5 (Ex.deep v11)]];.N (e=0) (.R [.bool false] [.box [.sl f.length 3 (fxG f),.sl c.length 4 (chG c),.i day,.i e],.box v3]) (.D (k=13) (.side ((0:Int)<=0/\(0:Int)<s.length) (.ex (λ(x:VX)=>eqL v1 [.ptr 0 0,.agg [.int .u8 x.x.kind,.str x.x.rat,.str x.x.name,.i x.x.date,.sl x.x.sub.length 5 (Ex.exG x.x.sub)]]/\eqH v4 [.box [.sl x.s.f.length 3 (fxG x.s.f),.sl x.s.c.length 4 (chG x.s.c),.i x.s.day,.i x.s.e]]/\1=1/\Ex.size x.x<n/\VPre (2:Int) x) λn_1=>.all (λ(r:Bool×Int)=>(St8.e n_1.s≠0->r.2=St8.e n_1.s)/\(St8.e n_1.s=0->r.2=Ev.g (evA n_1)/\(r.2=0->r.1=Ev.b (evA n_1)))) λn_2=>let v6:=n_1.s.err n_2.2;.side (n_2.1=true->(0:Int)<=1/\(1:Int)<s.length) (.ite (n_2.1 == true) (.ex (λ(x:VX)=>eqL v2 [.ptr 0 0,.agg [.int .u8 x.x.kind,.str x.x.rat,.str x.x.name,.i x.x.date,.sl x.x.sub.length 5 (Ex.exG x.x.sub)]]/\eqH [.box [.sl (List.length v6.f) 3 (fxG v6.f),.sl (List.length v6.c) 4 (chG v6.c),.i v6.day,.i v6.e]] [.box [.sl x.s.f.length 3 (fxG x.s.f),.sl x.s.c.length 4 (chG x.s.c),.i x.s.day,.i x.s.e]]/\1=1/\Ex.size x.x<n/\VPre (2:Int) x) λn=>.all (λ(r:Bool×Int)=>(St8.e n.s≠0->r.2=St8.e n.s)/\(St8.e n.s=0->r.2=Ev.g (evA n)/\(r.2=0->r.1=Ev.b (evA n)))) λn_3=>let v13:=n.s.err n_3.2;.R [.bool (bif n_2.1 then n_3.1 else false)] [.box [.sl (List.length v13.f) 3 (fxG v13.f),.sl (List.length v13.c) 4 (chG v13.c),.i v13.day,.i v13.e],.box v3]) (.R [.bool (bif n_2.1 then false else false)] [.box [.sl (List.length v6.f) 3 (fxG v6.f),.sl (List.length v6.c) 4 (chG v6.c),.i v6.day,.i v6.e],.box v3])))) (.D (k=14) (.side ((0:Int)<=0/\(0:Int)<s.length) (.ex (λ(x:VX)=>eqL v1 [.ptr 0 0,.agg [.int .u8 x.x.kind,.str x.x.rat,.str x.x.name,.i x.x.date,.sl x.x.sub.length 5 (Ex.exG x.x.sub)]]/\eqH v4 [.box [.sl x.s.f.length 3 (fxG x.s.f),.sl x.s.c.length 4 (chG x.s.c),.i x.s.day,.i x.s.e]]/\1=1/\Ex.size x.x<n/\VPre (2:Int) x) λn_1=>.all (λ(r:Bool×Int)=>(St8.e n_1.s≠0->r.2=St8.e n_1.s)/\(St8.e n_1.s=0->r.2=Ev.g (evA n_1)/\(r.2=0->r.1=Ev.b (evA n_1)))) λn_2=>let v7:=n_1.s.err n_2.2;.side (n_2.1=false->(0:Int)<=1/\(1:Int)<s.length) (.ite (n_2.1 == false) (.ex (λ(x:VX)=>eqL v2 [.ptr 0 0,.agg [.int .u8 x.x.kind,.str x.x.rat,.str x.x.name,.i x.x.date,.sl x.x.sub.length 5 (Ex.exG x.x.sub)]]/\eqH [.box [.sl (List.length v7.f) 3 (fxG v7.f),.sl (List.length v7.c) 4 (chG v7.c),.i v7.day,.i v7.e]] [.box [.sl x.s.f.length 3 (fxG x.s.f),.sl x.s.c.length 4 (chG x.s.c),.i x.s.day,.i x.s.e]]/\1=1/\Ex.size x.x<n/\VPre (2:Int) x) λn=>.all (λ(r:Bool×Int)=>(St8.e n.s≠0->r.2=St8.e n.s)/\(St8.e n.s=0->r.2=Ev.g (evA n)/\(r.2=0->r.1=Ev.b (evA n)))) λn_3=>let v14:=n.s.err n_3.2;.R [.bool (bif n_2.1 then true else n_3.1)] [.box [.sl (List.length v14.f) 3 (fxG v14.f),.sl (List.length v14.c) 4 (chG v14.c),.i v14.day,.i v14.e],.box v3]) (.R [.bool (bif n_2.1 then true else false)] [.box [.sl (List.length v7.f) 3 (fxG v7.f),.sl (List.length v7.c) 4 (chG v7.c),.i v7.day,.i v7.e],.box v3])))) (.D (k=15) (.side ((0:Int)<=0/\(0:Int)<s.length) (.ex (λ(x:VX)=>eqL v1 [.ptr 0 0,.agg [.int .u8 x.x.kind,.str x.x.rat,.str x.x.name,.i x.x.date,.sl x.x.sub.length 5 (Ex.exG x.x.sub)]]/\eqH v4 [.box [.sl x.s.f.length 3 (fxG x.s.f),.sl x.s.c.length 4 (chG x.s.c),.i x.s.day,.i x.s.e]]/\1=1/\Ex.size x.x<n/\VPre (2:Int) x) λn=>.all (λ(r:Bool×Int)=>(St8.e n.s≠0->r.2=St8.e n.s)/\(St8.e n.s=0->r.2=Ev.g (evA n)/\(r.2=0->r.1=Ev.b (evA n)))) λn_1=>let v8:=n.s.err n_1.2;.R [.bool (bif !Prod.fst n_1 then decide (St8.e v8=(0:Int)) else false)] [.box [.sl (List.length v8.f) 3 (fxG v8.f),.sl (List.length v8.c) 4 (chG v8.c),.i v8.day,.i v8.e],.box v3])) (.side ((0:Int)<=0/\(0:Int)<s.length) (.ex (λ(x:VX)=>eqL v1 [.ptr 0 0,.agg [.int .u8 x.x.kind,.str x.x.rat,.str x.x.name,.i x.x.date,.sl x.x.sub.length 5 (Ex.exG x.x.sub)]]/\eqH v4 [.box [.sl x.s.f.length 3 (fxG x.s.f),.sl x.s.c.length 4 (chG x.s.c),.i x.s.day,.i x.s.e]]/\1=1/\Ex.size x.x<n/\VPre (1:Int) x) λn_1=>.all (λ(r:L8×Int)=>(St8.e n_1.s≠0->r.2=St8.e n_1.s)/\(St8.e n_1.s=0->r.2=Ev.e (evA n_1)/\(r.2=0->r.1=Ev.v (evA n_1)))) λn_2=>let v12:=n_1.s.err n_2.2;.side ((0:Int)<=1/\(1:Int)<s.length) (.ex (λ(x:VX)=>eqL v2 [.ptr 0 0,.agg [.int .u8 x.x.kind,.str x.x.rat,.str x.x.name,.i x.x.date,.sl x.x.sub.length 5 (Ex.exG x.x.sub)]]/\eqH [.box [.sl (List.length v12.f) 3 (fxG v12.f),.sl (List.length v12.c) 4 (chG v12.c),.i v12.day,.i v12.e]] [.box [.sl x.s.f.length 3 (fxG x.s.f),.sl x.s.c.length 4 (chG x.s.c),.i x.s.day,.i x.s.e]]/\1=1/\Ex.size x.x<n/\VPre (1:Int) x) λn=>.all (λ(r:L8×Int)=>(St8.e n.s≠0->r.2=St8.e n.s)/\(St8.e n.s=0->r.2=Ev.e (evA n)/\(r.2=0->r.1=Ev.v (evA n)))) λn_3=>let v15:=n.s.err n_3.2;.ex (q55 [.ptr 0 0,.str n_2.1,.str n_3.1] [.box [.sl (List.length v15.f) 3 (fxG v15.f),.sl (List.length v15.c) 4 (chG v15.c),.i v15.day,.i v15.e]]) λn=>.all (λ(r:Int×Int)=>r=cmpE n.s.e n.a n.b) λn_4=>let v9:=n.s.err n_4.2;let v5:List Blk:=[.box [.sl (List.length v9.f) 3 (fxG v9.f),.sl (List.length v9.c) 4 (chG v9.c),.i v9.day,.i v9.e],.box v3];.D (k=11) (.R [.bool (decide (n_4.1<0))] v5) (.R [.bool (bif decide (n_4.1=0) then decide (St8.e v9=(0:Int)) else false)] v5)))))))) ?_;simp only [q55,Tree.holds,zh];refine⟨λh=> ?_,λh=> ?_⟩
 ·have h:e≠0:=by simpa using h
  exact RetR.st9 rfl (hq (false,e) ⟨λ_=>rfl,λh0=>absurd h0 h⟩) rfl rfl
 have h:e=0:=by simpa using h
 subst h;obtain⟨hs,hf,hfl⟩:=hv rfl;simp only at hs hf hfl;have hq0:∀ t:Bool×Int,t.2=((Ex.mk k r m d s).ev f day).g->(t.2=0->t.1=((Ex.mk k r m d s).ev f day).b)->Q (.bool t.1,[(St8.mk f c day t.2).box]):=λt h1 h2=>hq t ⟨λh=>absurd rfl h,λ_=>⟨h1,h2⟩⟩
 clear hq;have hev:(Ex.mk k r m d s).ev f day=evN f day k r m d (Ex.evs f day s):=by rw [Ex.ev]
 have hc:=Ex.XK hs;simp only [Ex.kind,Ex.sub,Ex.rat] at hc;rw [Ex.size] at hn;have z0:=λg=>Ex.qw (s:=s) (i:=0) g
 have z1:=λg=>Ex.qw (s:=s) (i:=1) g
 have fin:∀ (t:Bool×Int) (b:Blk),t.2=((Ex.mk k r m d s).ev f day).g->(t.2=0->t.1=((Ex.mk k r m d s).ev f day).b)->RetR (hldC λk=>k.x.size<n+1/\VPre 2 k) 1 Q [.bool t.1] [.box [.sl f.length 3 (fxG f),.sl c.length 4 (chG c),.i day,.i t.2],b]:=λt b h1 h2=>RetR.st9 rfl (hq0 t h1 h2) rfl rfl
 rcases hc with ⟨hk,hl,hs0,hs1⟩ | ⟨hk,hl,hs0,hs1⟩ | ⟨rfl,hl,hs0⟩
 ·iterate 3 refine⟨λh=>absurd (aB h) (by omega),λ_=> ?_⟩
  have z0:=z0 (by omega);have z1:=z1 (by omega)
  have he:(((Ex.mk k r m d s).ev f day).b,((Ex.mk k r m d s).ev f day).g)=QU false ((s.getD 0 Ex.nil).ev f day) ((s.getD 1 Ex.nil).ev f day) (XQ k):=by
   rw [hev];simp only [evN,hldN];rw [aO (by omega),Ex.jd (by omega),Ex.jd (by omega)]
  unfold QU at he;refine⟨⟨by decide,by omega⟩,λ_=>⟨⟨⟨f,c,day,0⟩,s.getD 0 Ex.nil⟩,⟨eqX2 _,qJ f c day 0,by trivial,by show(s.getD 0 Ex.nil).size<n; omega,λ_=>⟨hs0,hf,hfl⟩⟩,ui _ _ _,?_⟩⟩;intro r0 g0;obtain⟨g0,k0⟩:=g0.2 rfl;simp only [evA] at g0 k0;refine⟨⟨by decide,by omega⟩,λ_=>⟨⟨⟨f,c,day,r0.2⟩,s.getD 1 Ex.nil⟩,⟨eqX2 _,qJ f c day r0.2,by trivial,by show(s.getD 1 Ex.nil).size<n; omega,λ_=>⟨hs1,hf,hfl⟩⟩,ui _ _ _,?_⟩⟩;intro r1 g1;simp only [evA] at g1
  have hboth:r1.2=0->r0.2=0/\r0.1=((s.getD 0 Ex.nil).ev f day).v/\r1.1=((s.getD 1 Ex.nil).ev f day).v/\errR r0.1=0/\errR r1.1=0/\((Ex.mk k r m d s).ev f day).b=(XQ k r0.1 r1.1).1/\((Ex.mk k r m d s).ev f day).g=(XQ k r0.1 r1.1).2:=by
   intro h
   have h3:r0.2=0:=by
    refine bM λh3=> ?_
    exact h3 (by rw [<- g1.1 h3]; exact h)
   obtain⟨q1,k1'⟩:=g1.2 h3;have k0:=k0 h3;have k1':=k1' h;rw [aO (by rw [<- g0]; simpa using h3),aO (by rw [<- q1]; simpa using h),<- k0,<- k1'] at he;have l0:errR r0.1=0:=by rw [k0]; exact Ex.Zj hf day _ hs0 (by rw [<- g0]; exact h3)
   have l1:errR r1.1=0:=by rw [k1']; exact Ex.Zj hf day _ hs1 (by rw [<- q1]; exact h)
   exact⟨h3,k0,k1',l0,l1,congrArg Prod.fst he,congrArg Prod.snd he⟩
  refine⟨⟨⟨f,c,day,r1.2⟩,r0.1,r1.1⟩,⟨⟨⟨rfl,rfl⟩,rfl,rfl,trivial⟩,qJ f c day r1.2,by trivial,λh=> ?_⟩,⟨_,rfl⟩,?_⟩
  ·obtain⟨_,_,_,l0,l1,_⟩:=hboth h;have l0:=vk l0;have l1:=vk l1;exact⟨by show r0.1.length<_; omega,by show r1.1.length<_; omega⟩
  intro z hz;simp only at hz;by_cases h:r1.2=0
  ·obtain⟨h3,k0,k1',l0,l1,e1,e2⟩:=hboth h;have hz:z=cmpR r0.1 r1.1:=by rw [hz]; unfold cmpE; rw [aO (by rw [h]; simp)]
   unfold XQ at e1 e2;refine⟨λhk=> ?_,λhk=> ?_⟩
   ·have hk:k=11:=aB hk;refine fin (decide (z.1<0),z.2) _ ?_ λh0=> ?_
    ·rw [e2,hz];by_cases g:(cmpR r0.1 r1.1).2=0
     ·rw [aO (by rw [g]; simp)]; exact g
     ·rw [aP g]
    ·have h0:z.2=0:=h0;rw [hz] at h0 ⊢;rw [e1,aO (by rw [h0]; simp),aP hk]
   ·have hk:¬ k=11:=aC hk;refine fin ((bif decide (z.1=0) then decide (z.2=0) else false),z.2) _ ?_ λh0=> ?_
    ·rw [e2,hz];by_cases g:(cmpR r0.1 r1.1).2=0
     ·rw [aO (by rw [g]; simp)]; exact g
     ·rw [aP g]
    ·have h0:z.2=0:=h0;rw [hz] at h0 ⊢;rw [e1,aO (by rw [h0]; simp),aO hk];simp only [h0];cases decide ((cmpR r0.1 r1.1).1=0)<;>rfl
  ·have hz:z=(0,r1.2):=by rw [hz]; unfold cmpE; rw [aP h]
   have hg:((Ex.mk k r m d s).ev f day).g=r1.2:=by
    have he:=congrArg Prod.snd he;simp only at he;rw [he];by_cases h3:r0.2=0
    ·obtain⟨q1,_⟩:=g1.2 h3;rw [aO (by rw [<- g0]; simpa using h3),aP (by rw [<- q1]; exact h),q1]
    ·rw [aP (by rw [<- g0]; exact h3),g1.1 h3,g0]
   subst hz;refine⟨λhk=> ?_,λhk=> ?_⟩
   ·exact fin (false,r1.2) _ hg.symm λh0=>absurd h0 h
   ·refine fin ((bif decide ((0:Int)=0) then decide (r1.2=0) else false),r1.2) _ hg.symm λh0=>absurd h0 h
 ·have z0:=z0 (by omega);have z1:=z1 (by omega)
  have he:(((Ex.mk k r m d s).ev f day).b,((Ex.mk k r m d s).ev f day).g)=if((s.getD 0 Ex.nil).ev f day).g≠0 then(false,((s.getD 0 Ex.nil).ev f day).g) else if((s.getD 0 Ex.nil).ev f day).b=decide (k=14) then(((s.getD 0 Ex.nil).ev f day).b,0) else(((s.getD 1 Ex.nil).ev f day).b,((s.getD 1 Ex.nil).ev f day).g):=by
   rw [hev];simp only [evN,hldN];rw [aP (by omega),aO (show ¬ k=15 by omega),Ex.jd (by omega),Ex.jd (by omega)]
  have go:∀ (r0:Bool×Int),r0.2=((s.getD 0 Ex.nil).ev f day).g->(r0.2=0->r0.1=((s.getD 0 Ex.nil).ev f day).b) ->
    (r0.1=decide (k=14)->r0.2=((Ex.mk k r m d s).ev f day).g/\(r0.2=0->r0.1=((Ex.mk k r m d s).ev f day).b)) /\
    (r0.1≠decide (k=14)->∀ r1:Bool×Int,((r0.2≠0->r1.2=r0.2)/\(r0.2=0->r1.2=((s.getD 1 Ex.nil).ev f day).g/\(r1.2=0->r1.1=((s.getD 1 Ex.nil).ev f day).b)))->r1.2=((Ex.mk k r m d s).ev f day).g/\(r1.2=0->r1.1=((Ex.mk k r m d s).ev f day).b)):=by
   intro r0 g0 k0;have e1:=congrArg Prod.fst he;have e2:=congrArg Prod.snd he;simp only at e1 e2;rw [e1,e2];by_cases h3:r0.2=0
   ·rw [aO (by rw [<- g0]; simpa using h3),<- k0 h3];refine⟨λh=> ?_,λh r1 g1=> ?_⟩
    ·rw [aP h]; exact⟨h3,λ_=>rfl⟩
    ·rw [aO h]; exact g1.2 h3
   ·rw [aP (by rw [<- g0]; exact h3)];refine⟨λh=>⟨g0,λh0=>absurd h0 h3⟩,λh r1 g1=> ?_⟩;rw [g1.1 h3];exact⟨g0,λh0=>absurd h0 h3⟩
  have first:∃ r:Bool×Int,((0:Int)≠0->r.2=0)/\((0:Int)=0->r.2=(evA ⟨⟨f,c,day,0⟩,s.getD 0 Ex.nil⟩).g/\(r.2=0->r.1=(evA ⟨⟨f,c,day,0⟩,s.getD 0 Ex.nil⟩).b)):=Z7 _ _ _;rcases hk with rfl | rfl
  ·refine⟨λ_=> ?_,λh=>(by cases h)⟩;refine⟨⟨by decide,by omega⟩,λ_=>⟨⟨⟨f,c,day,0⟩,s.getD 0 Ex.nil⟩,⟨eqX2 _,qJ f c day 0,by trivial,by show(s.getD 0 Ex.nil).size<n; omega,λ_=>⟨hs0,hf,hfl⟩⟩,first,?_⟩⟩;intro r0 g0;obtain⟨g0,k0⟩:=g0.2 rfl;obtain⟨go1,go2⟩:=go r0 g0 k0;refine⟨λ_=>⟨by decide,by omega⟩,λ_=>⟨λhb=> ?_,λhb=> ?_⟩⟩
   ·have hb:r0.1=true:=by simpa using hb
    refine⟨⟨⟨f,c,day,r0.2⟩,s.getD 1 Ex.nil⟩,⟨eqX2 _,qJ f c day r0.2,by trivial,by show(s.getD 1 Ex.nil).size<n; omega,λ_=>⟨hs1,hf,hfl⟩⟩,Z7 _ _ _,?_⟩;intro r1 g1;rw [hb];obtain⟨u1,u2⟩:=go2 (by rw [hb]; decide) r1 g1;exact fin r1 _ u1 u2
   ·have hb:r0.1=false:=by simpa using hb
    rw [hb];obtain⟨u1,u2⟩:=go1 (by rw [hb]; rfl);exact fin (false,r0.2) _ u1 (λh0=>by rw [<- u2 h0,hb])
  ·refine⟨λh=>(by cases h),λ_=>⟨λ_=> ?_,λh=>(by cases h)⟩⟩;refine⟨⟨by decide,by omega⟩,λ_=>⟨⟨⟨f,c,day,0⟩,s.getD 0 Ex.nil⟩,⟨eqX2 _,qJ f c day 0,by trivial,by show(s.getD 0 Ex.nil).size<n; omega,λ_=>⟨hs0,hf,hfl⟩⟩,first,?_⟩⟩;intro r0 g0;obtain⟨g0,k0⟩:=g0.2 rfl;obtain⟨go1,go2⟩:=go r0 g0 k0;refine⟨λ_=>⟨by decide,by omega⟩,λ_=>⟨λhb=> ?_,λhb=> ?_⟩⟩
   ·have hb:r0.1=false:=by simpa using hb
    refine⟨⟨⟨f,c,day,r0.2⟩,s.getD 1 Ex.nil⟩,⟨eqX2 _,qJ f c day r0.2,by trivial,by show(s.getD 1 Ex.nil).size<n; omega,λ_=>⟨hs1,hf,hfl⟩⟩,Z7 _ _ _,?_⟩;intro r1 g1;rw [hb];obtain⟨u1,u2⟩:=go2 (by rw [hb]; decide) r1 g1;exact fin r1 _ u1 u2
   ·have hb:r0.1=true:=by simpa using hb
    rw [hb];obtain⟨u1,u2⟩:=go1 (by rw [hb]; rfl);exact fin (true,r0.2) _ u1 (λh0=>by rw [<- u2 h0,hb])
 ·iterate 2 refine⟨λh=>(by cases h),λ_=> ?_⟩
  refine⟨λ_=> ?_,λh=>(by cases h)⟩;have z0:=z0 (by omega)
  have he:(((Ex.mk 15 r m d s).ev f day).b,((Ex.mk 15 r m d s).ev f day).g)=if((s.getD 0 Ex.nil).ev f day).g≠0 then(false,((s.getD 0 Ex.nil).ev f day).g) else(!((s.getD 0 Ex.nil).ev f day).b,0):=by
   rw [hev];simp only [evN,hldN];rw [aP (by decide),aP trivial,Ex.jd (by omega)]
  refine⟨⟨by decide,by omega⟩,λ_=>⟨⟨⟨f,c,day,0⟩,s.getD 0 Ex.nil⟩,⟨eqX2 _,qJ f c day 0,by trivial,by show(s.getD 0 Ex.nil).size<n; omega,λ_=>⟨hs0,hf,hfl⟩⟩,Z7 _ _ _,?_⟩⟩;intro r0 g0;obtain⟨g0,k0⟩:=g0.2 rfl;simp only [evA] at g0 k0;have e1:=congrArg Prod.fst he;have e2:=congrArg Prod.snd he;simp only at e1 e2;refine fin ((bif !r0.1 then decide (r0.2=0) else false),r0.2) _ ?_ λh3=> ?_
  ·rw [e2];by_cases h3:r0.2=0
   ·rw [aO (by rw [<- g0]; simpa using h3)]; exact h3
   ·rw [aP (by rw [<- g0]; exact h3)]; exact g0
  ·have h3:r0.2=0:=h3;rw [e1,aO (by rw [<- g0]; simpa using h3),<- k0 h3];simp only [h3];cases r0.1<;>rfl
end
theorem zcn:zg prog 156 (valC (VPre 1))/\zg prog 155 (hldC (VPre 2)):=
 zfn (λk:VX=>k.x.size) (λk:VX=>k.x.size) λn h1 h2=>⟨zae n h1 h2,Un n h1 h2⟩
theorem zh1:zg prog 156 (valC (VPre 1)):=zcn.1
theorem zhp:zg prog 155 (hldC (VPre 2)):=zcn.2
end Go.Proofs.Tryz
end
section
set_option maxRecDepth 100000
open Go Go.Sx Go.Proofs Go.Nov
namespace Go.Proofs.Tryz
attribute [local simp] eqKV eqA eqA0 eqH eqB eqL eqL0
structure BX where
 x:Ex
 want:Int
 day:Int
 f:List Fx
 c:List Ch
def BX.ask(b:BX):Int:=askE b.x b.want b.day b.f b.c
def yU:Ctr:=ctrT false false (λb:BX=>[b.x.exA,.int .u8 b.want,.i b.day,envA b.f b.c]) (λ_=>[]) (λb=>b.x.size<2^40/\b.x.z9<2^40/\envP (b.f,b.c)) (λb r=>r=b.ask) (λb (r:Int)=>(.ptr 0 0,[(St8.mk b.f b.c b.day r).box]))
noncomputable def GBe:=tb Ke (tb Kx (tb Vb (tb ZB tz)))
abbrev q58(A:List AV)(x:List Fx×List Ch):Prop:=eqL A [.agg [.sl x.1.length 3 (fxG x.1),.sl x.2.length 4 (chG x.2)]]/\envP x
theorem zkv:zg prog 154 yU:=by
 refine zD (fn:=f154) (c:=f154.body.getD .skip) rfl rfl rfl (λh=>by cases h) λb hb O w0 I0 Q hl0 hq=> ?_
 obtain rfl:I0=[]:=aU.1 hl0;obtain⟨x,want,day,f,c⟩:=b;obtain⟨h1,h2,h3⟩:=hb;replace hq:=hq _ rfl;simp only [BX.ask] at h1 h2 h3 hq;refine zd.n GBe.h [] (let v6:=[AV.i day];let v5:=q58 [.agg [.sl f.length 3 (fxG f),.sl c.length 4 (chG c)]];let v4:=[AV.agg [.int .u8 x.kind,.str x.rat,.str x.name,.i x.date,.sl x.sub.length 5 (Ex.exG x.sub)]];let v3:List AV:=[.sl f.length 3 (fxG f),.sl c.length 4 (chG c)];let v2:List AV:=[.int .u8 x.kind,.str x.rat,.str x.name,.i x.date,.sl x.sub.length 5 (Ex.exG x.sub)];let v1:qe:=.ret [.ptr 2 0] [.box v2,.box v3,.box [.sl f.length 3 (fxG f),.sl c.length 4 (chG c),.i day,.i 2]];.ex (q24 v4) λn=>.all (λ(r:Int)=>r=Ex.errX n) λn=>.ex (λ(x9:Ex)=>decide (n=0)=true->q23 v4 x9) λn_1=>.all (λ(x:Int)=>decide (n=0)=true->x=Ex.z8 n_1) λn_2=>.ite (bif decide (n=0) then !decide (n_2=want) else false) (.ite false (.ex v5 λn=>.all (λ(r:Int)=>r=errE n.1 n.2) λn=>.ex (λ(x:Int)=>decide (n=0)=true->q21 v6 x) λn_3=>.all (λ(x:Bool)=>decide (n=0)=true->x=dayB n_3) λn_4=>.ite (bif decide (n=0) then !n_4 else false) (.leaf v1) (.R [.ptr 2 0] [.box v2,.box v3,.box [.sl f.length 3 (fxG f),.sl c.length 4 (chG c),.i day,.i n]])) (.ex (λ(x:Int)=>decide ((32:Int)=0)=true->q21 v6 x) λn=>.all (λ(x:Bool)=>decide ((32:Int)=0)=true->x=dayB n) λn=>.ite (bif decide ((32:Int)=0) then !n else false) (.leaf v1) (.R [.ptr 2 0] [.box v2,.box v3,.box [.sl f.length 3 (fxG f),.sl c.length 4 (chG c),.i day,.i 32]]))) (.D (n=0) (.ex v5 λn=>.all (λ(r:Int)=>r=errE n.1 n.2) λn=>.ex (λ(x:Int)=>decide (n=0)=true->q21 v6 x) λn_3=>.all (λ(x:Bool)=>decide (n=0)=true->x=dayB n_3) λn_4=>.ite (bif decide (n=0) then !n_4 else false) (.leaf v1) (.R [.ptr 2 0] [.box v2,.box v3,.box [.sl f.length 3 (fxG f),.sl c.length 4 (chG c),.i day,.i n]])) (.ex (λ(x:Int)=>decide (n=0)=true->q21 v6 x) λn_3=>.all (λ(x:Bool)=>decide (n=0)=true->x=dayB n_3) λn_4=>.ite (bif decide (n=0) then !n_4 else false) (.leaf v1) (.R [.ptr 2 0] [.box v2,.box v3,.box [.sl f.length 3 (fxG f),.sl c.length 4 (chG c),.i day,.i n]])))) ?_;simp only [q21,q23,q24,q58,Tree.holds,zh];have eE:eqL [.agg [.sl f.length 3 (fxG f),.sl c.length 4 (chG c)]] [envA f c]:=⟨⟨⟨rfl,rfl,za _ _ _⟩,⟨rfl,rfl,za _ _ _⟩,trivial⟩,trivial⟩;have eX:eqL [x.exA] [x.exA]:=⟨⟨⟨rfl,rfl⟩,rfl,rfl,⟨rfl,rfl⟩,⟨rfl,rfl,za _ _ _⟩,trivial⟩,trivial⟩;generalize hask:askE x want day f c=ask at hq
 have ret:∀ (b0 b1:Blk),RetR yU 0 Q [.ptr 2 0] [b0,b1,.box [.sl f.length 3 (fxG f),.sl c.length 4 (chG c),.i day,.i ask]]:=by
  intro b0 b1;refine RetR.outs [2] rfl rfl hq (λh=>by cases h) ?_ ?_ rfl
  ·exact⟨rfl,rfl⟩
  ·exact qJ f c day ask
 have tail:∀ (e0:Int) (b0 b1:Blk),(if e0=0 then(if dayB day=true then 0 else 2) else e0)=ask->∃ n3:Int,((decide (e0=0)=true->eqL [.i day] [.i n3]/\True)/\(∃ b:Bool,decide (e0=0)=true->b=dayB n3)/\∀ b:Bool,(decide (e0=0)=true->b=dayB n3) ->
   ((bif decide (e0=0) then !b else false)=true->RetR yU 0 Q [.ptr 2 0] [b0,b1,.box [.sl f.length 3 (fxG f),.sl c.length 4 (chG c),.i day,.i 2]]) /\
   ((bif decide (e0=0) then !b else false)=false->RetR yU 0 Q [.ptr 2 0] [b0,b1,.box [.sl f.length 3 (fxG f),.sl c.length 4 (chG c),.i day,.i e0]])):=by
  intro e0 b0 b1 h;refine⟨day,λ_=>⟨⟨⟨rfl,rfl⟩,trivial⟩,trivial⟩,⟨_,λ_=>rfl⟩,λb hb=> ?_⟩;by_cases h0:e0=0
  ·have hb:=hb (aX h0);rw [aP h0] at h;rw [aX h0,hb,h0];cases hd:dayB day with
   | true=>
    rw [hd,aP rfl] at h;rw [h];exact⟨λh=>(by cases h),λ_=>ret _ _⟩
   | false=>
    rw [hd,aO (by decide)] at h;rw [h];exact⟨λ_=>ret _ _,λh=>(by cases h)⟩
  ·rw [aO h0] at h;rw [aW h0,h];exact⟨λh=>(by cases h),λ_=>ret _ _⟩
 have chk:∀ (b0 b1:Blk),x.errX=0->x.z8=want->∃ n:List Fx×List Ch,(eqL [.agg [.sl f.length 3 (fxG f),.sl c.length 4 (chG c)]] [.agg [.sl n.1.length 3 (fxG n.1),.sl n.2.length 4 (chG n.2)]]/\envP n)/\(∃ r,r=errE n.1 n.2)/\∀ r:Int,r=errE n.1 n.2 ->
   ∃ n3:Int,((decide (r=0)=true->eqL [.i day] [.i n3]/\True)/\(∃ b:Bool,decide (r=0)=true->b=dayB n3)/\∀ b:Bool,(decide (r=0)=true->b=dayB n3) ->
   ((bif decide (r=0) then !b else false)=true->RetR yU 0 Q [.ptr 2 0] [b0,b1,.box [.sl f.length 3 (fxG f),.sl c.length 4 (chG c),.i day,.i 2]]) /\
   ((bif decide (r=0) then !b else false)=false->RetR yU 0 Q [.ptr 2 0] [b0,b1,.box [.sl f.length 3 (fxG f),.sl c.length 4 (chG c),.i day,.i r]])):=by
  intro b0 b1 g1 g2;refine⟨(f,c),⟨eE,h3⟩,⟨_,rfl⟩,?_⟩;rintro _ rfl;refine tail _ _ _ ?_;rw [<- hask,zpp g1 g2]
 refine⟨x,⟨eX,h1,h2⟩,⟨_,rfl⟩,?_⟩;rintro _ rfl;refine⟨x,λ_=>⟨eX,by omega,h2⟩,⟨_,λ_=>rfl⟩,?_⟩;intro z hz;by_cases g1:x.errX=0
 ·have hz:=hz (aX g1);subst hz;refine⟨λhc=>⟨λh=>(by cases h),λ_=> ?_⟩,λhc=>⟨λ_=> ?_,λh=>absurd g1 (aC h)⟩⟩
  ·have g2:¬ x.z8=want:=by
    rw [aX g1] at hc;simpa using hc
   refine tail 32 _ _ ?_;rw [<- hask,ztg g1 g2];rfl
  ·have g2:x.z8=want:=by
    rw [aX g1] at hc;simpa using hc
   exact chk _ _ g1 g2
 ·refine⟨λhc=> ?_,λ_=>⟨λh=>absurd (aB h) g1,λ_=> ?_⟩⟩
  ·rw [aW g1] at hc; cases hc
  ·refine tail _ _ _ ?_;rw [<- hask,zt9 g1,aO g1]
structure VI where
 x:Ex
 day:Int
 f:List Fx
 c:List Ch
def VI.ok(k:VI):Prop:=k.x.size<2^40/\k.x.z9<2^40/\envP (k.f,k.c)
def zkj:Ctr:=ctrP true (λk:VI=>[k.x.exA,.i k.day,envA k.f k.c]) VI.ok (λk r=>r=jR k.x k.day k.f k.c) (λ_ (r:L8×Int)=>(.tup [.str r.1,.i r.2],[]))
def zgk:Ctr:=ctrP true (λk:VI=>[k.x.exA,.i k.day,envA k.f k.c]) VI.ok (λk r=>r=xI k.x k.day k.f k.c) (λ_ (r:Bool×Int)=>(.tup [.bool r.1,.i r.2],[]))
noncomputable def GVh:=tb zkv (tb zh1 (tb zhp tz))
abbrev q59(A:List AV)(H:Heap)(x:BX):Prop:=eqL A [.agg [.int .u8 x.x.kind,.str x.x.rat,.str x.x.name,.i x.x.date,.sl x.x.sub.length 5 (Ex.exG x.x.sub)],.int .u8 x.want,.i x.day,.agg [.sl x.f.length 3 (fxG x.f),.sl x.c.length 4 (chG x.c)]]/\eqH H []/\0=0/\Ex.size x.x<1099511627776/\Ex.z9 x.x<1099511627776/\envP (BX.f x,BX.c x)
theorem zhd:zg prog 123 zkj:=by
 refine zm' f123 λk hk O w0 Q hq=> ?_
 obtain⟨x,day,f,c⟩:=k;obtain⟨h1,h2,h3⟩:=hk;replace hq:=hq _ rfl;simp only at h1 h2 h3 hq;unfold jR at hq;refine zd.n GVh.h [] (let v2:=[AV.int .u8 x.kind,AV.str x.rat,AV.str x.name,AV.i x.date,AV.sl x.sub.length 5 (Ex.exG x.sub)];.ex (q59 [.agg v2,.int .u8 1,.i day,.agg [.sl f.length 3 (fxG f),.sl c.length 4 (chG c)]] []) λn=>.all (λ(r:Int)=>r=BX.ask n) λn_1=>.ex (λ(x_1:VX)=>eqL [.ptr 0 0,.agg v2] [.ptr 0 0,.agg [.int .u8 x_1.x.kind,.str x_1.x.rat,.str x_1.x.name,.i x_1.x.date,.sl x_1.x.sub.length 5 (Ex.exG x_1.x.sub)]]/\eqH [.box [.sl n.f.length 3 (fxG n.f),.sl n.c.length 4 (chG n.c),.i n.day,.i n_1]] [.box [.sl x_1.s.f.length 3 (fxG x_1.s.f),.sl x_1.s.c.length 4 (chG x_1.s.c),.i x_1.s.day,.i x_1.s.e]]/\1=1/\VPre (1:Int) x_1) λn=>.all (λ(r:L8×Int)=>(St8.e n.s≠0->r.2=St8.e n.s)/\(St8.e n.s=0->r.2=Ev.e (evA n)/\(r.2=0->r.1=Ev.v (evA n)))) λn_2=>let v3:=n.s.err n_2.2;let v1:List Blk:=[.box [.int .u8 x.kind,.str x.rat,.str x.name,.i x.date,.sl x.sub.length 5 (Ex.exG x.sub)],.box [.sl f.length 3 (fxG f),.sl c.length 4 (chG c)],.box [.sl (List.length v3.f) 3 (fxG v3.f),.sl (List.length v3.c) 4 (chG v3.c),.i v3.day,.i v3.e]];.N (St8.e v3=(0:Int)) (.R [.str #[].toList,.i v3.e] v1) (.R [.str n_2.1,.i 0] v1)) ?_;simp only [q59,Tree.holds,zh];have eB:eqL [x.exA,.int .u8 1,.i day,envA f c] [x.exA,.int .u8 1,.i day,envA f c]:=⟨⟨⟨rfl,rfl⟩,rfl,rfl,⟨rfl,rfl⟩,⟨rfl,rfl,za _ _ _⟩,trivial⟩,⟨rfl,rfl⟩,⟨rfl,rfl⟩,⟨⟨rfl,rfl,za _ _ _⟩,⟨rfl,rfl,za _ _ _⟩,trivial⟩,trivial⟩;refine⟨⟨x,1,day,f,c⟩,⟨eB,trivial,trivial,h1,h2,h3⟩,⟨_,rfl⟩,?_⟩;rintro e he;have he:e=askE x 1 day f c:=he;rw [<- he] at hq
 have hv:VPre 1 ⟨⟨f,c,day,e⟩,x⟩:=by
  intro h0;have h0:e=0:=h0;obtain⟨_,g2,g3,_⟩:=Wr (he.symm.trans h0);obtain⟨g4,g5,_⟩:=zat.1 g3;refine⟨g2,g5,?_⟩;show f.length<2^40;omega
 refine⟨⟨⟨f,c,day,e⟩,x⟩,⟨zpa x,qJ f c day e,trivial,hv⟩,ui _ _ _,?_⟩;intro r hr;simp only [evA] at hr;refine⟨λh=> ?_,λh=> ?_⟩
 ·have h:r.2≠0:=by
   intro h0;have h':(!decide (r.2=0))=true:=h;rw [h0] at h'; cases h'
  have eq:(if e≠0 then([],e) else if(x.ev f day).e≠0 then([],(x.ev f day).e) else((x.ev f day).v,0))=(([]:L8),r.2):=by
   by_cases h0:e=0
   ·obtain⟨q1,_⟩:=hr.2 h0;rw [aO (by rw [h0]; simp),aP (by rw [<- q1]; exact h),q1]
   ·rw [aP h0,hr.1 h0]
  rw [eq] at hq;exact RetR.scal hq rfl (by simp [resV,St8.err])
 ·have h:r.2=0:=by
   have h':(!decide (r.2=0))=false:=h;simpa using h'
  have h0:e=0:=bM λh0=>h0 (by rw [<- hr.1 h0]; exact h)
  obtain⟨q1,k1⟩:=hr.2 h0
  have eq:(if e≠0 then([],e) else if(x.ev f day).e≠0 then([],(x.ev f day).e) else((x.ev f day).v,0))=(r.1,0):=by
   rw [aO (by rw [h0]; simp),aO (by rw [<- q1,h]; simp),k1 h]
  rw [eq] at hq;exact RetR.scal hq rfl (by simp [resV])
theorem zgh:zg prog 120 zgk:=by
 refine zm' f120 λk hk O w0 Q hq=> ?_
 obtain⟨x,day,f,c⟩:=k;obtain⟨h1,h2,h3⟩:=hk;replace hq:=hq _ rfl;simp only at h1 h2 h3 hq;unfold xI at hq;refine zd.n GVh.h [] (let v2:=[AV.int .u8 x.kind,AV.str x.rat,AV.str x.name,AV.i x.date,AV.sl x.sub.length 5 (Ex.exG x.sub)];.ex (q59 [.agg v2,.int .u8 2,.i day,.agg [.sl f.length 3 (fxG f),.sl c.length 4 (chG c)]] []) λn=>.all (λ(r:Int)=>r=BX.ask n) λn_1=>.ex (λ(x_1:VX)=>eqL [.ptr 0 0,.agg v2] [.ptr 0 0,.agg [.int .u8 x_1.x.kind,.str x_1.x.rat,.str x_1.x.name,.i x_1.x.date,.sl x_1.x.sub.length 5 (Ex.exG x_1.x.sub)]]/\eqH [.box [.sl n.f.length 3 (fxG n.f),.sl n.c.length 4 (chG n.c),.i n.day,.i n_1]] [.box [.sl x_1.s.f.length 3 (fxG x_1.s.f),.sl x_1.s.c.length 4 (chG x_1.s.c),.i x_1.s.day,.i x_1.s.e]]/\1=1/\VPre (2:Int) x_1) λn=>.all (λ(r:Bool×Int)=>(St8.e n.s≠0->r.2=St8.e n.s)/\(St8.e n.s=0->r.2=Ev.g (evA n)/\(r.2=0->r.1=Ev.b (evA n)))) λn_2=>let v3:=n.s.err n_2.2;let v1:List Blk:=[.box [.int .u8 x.kind,.str x.rat,.str x.name,.i x.date,.sl x.sub.length 5 (Ex.exG x.sub)],.box [.sl f.length 3 (fxG f),.sl c.length 4 (chG c)],.box [.sl (List.length v3.f) 3 (fxG v3.f),.sl (List.length v3.c) 4 (chG v3.c),.i v3.day,.i v3.e]];.N (St8.e v3=(0:Int)) (.R [.bool false,.i v3.e] v1) (.R [.bool n_2.1,.i 0] v1)) ?_;simp only [q59,Tree.holds,zh];have eB:eqL [x.exA,.int .u8 2,.i day,envA f c] [x.exA,.int .u8 2,.i day,envA f c]:=⟨⟨⟨rfl,rfl⟩,rfl,rfl,⟨rfl,rfl⟩,⟨rfl,rfl,za _ _ _⟩,trivial⟩,⟨rfl,rfl⟩,⟨rfl,rfl⟩,⟨⟨rfl,rfl,za _ _ _⟩,⟨rfl,rfl,za _ _ _⟩,trivial⟩,trivial⟩;refine⟨⟨x,2,day,f,c⟩,⟨eB,trivial,trivial,h1,h2,h3⟩,⟨_,rfl⟩,?_⟩;rintro e he;have he:e=askE x 2 day f c:=he;rw [<- he] at hq
 have hv:VPre 2 ⟨⟨f,c,day,e⟩,x⟩:=by
  intro h0;have h0:e=0:=h0;obtain⟨_,g2,g3,_⟩:=Wr (he.symm.trans h0);obtain⟨g4,g5,_⟩:=zat.1 g3;refine⟨g2,g5,?_⟩;show f.length<2^40;omega
 refine⟨⟨⟨f,c,day,e⟩,x⟩,⟨zpa x,qJ f c day e,trivial,hv⟩,Z7 _ _ _,?_⟩;intro r hr;simp only [evA] at hr;refine⟨λh=> ?_,λh=> ?_⟩
 ·have h:r.2≠0:=by
   intro h0;have h':(!decide (r.2=0))=true:=h;rw [h0] at h'; cases h'
  have eq:(if e≠0 then(false,e) else if(x.ev f day).g≠0 then(false,(x.ev f day).g) else((x.ev f day).b,0))=(false,r.2):=by
   by_cases h0:e=0
   ·obtain⟨q1,_⟩:=hr.2 h0;rw [aO (by rw [h0]; simp),aP (by rw [<- q1]; exact h),q1]
   ·rw [aP h0,hr.1 h0]
  rw [eq] at hq;exact RetR.scal hq rfl (by simp [resV,St8.err])
 ·have h:r.2=0:=by
   have h':(!decide (r.2=0))=false:=h;simpa using h'
  have h0:e=0:=bM λh0=>h0 (by rw [<- hr.1 h0]; exact h)
  obtain⟨q1,k1⟩:=hr.2 h0
  have eq:(if e≠0 then(false,e) else if(x.ev f day).g≠0 then(false,(x.ev f day).g) else((x.ev f day).b,0))=(r.1,0):=by
   rw [aO (by rw [h0]; simp),aO (by rw [<- q1,h]; simp),k1 h]
  rw [eq] at hq;exact RetR.scal hq rfl (by simp [resV])
structure FI where
 c:Con
 day:Int
 fin:Int
 f:List Fx
 h:List Ch
def yP:TypeId:=180
def FI.hC(k:FI):Heap:=[.box [fxS k.f,chS k.h],.box k.c.zi]
def FI.hH(k:FI):Heap:=[.box k.c.zi,.box [fxS k.f,chS k.h]]
def FI.hV(k:FI):Heap:=[.box k.c.zi,.box [.i k.day],.box [fxS k.f,chS k.h]]
def FI.heap(k:FI):Heap:=[.box k.c.zi,.box [.i k.day],.box [.i k.fin],.box [fxS k.f,chS k.h]]
def qA{α:Type}(Xp:List PanicEntry->Prop)(m:Except Int α):Prop:=∀ e,m = .error e->Xp (Za yP e)
def zkg(Xp:List PanicEntry->Prop):Ctr:=ctrS (λ(x:Bool×Int)=>[.bool x.1,.i x.2]) (λ_=>[]) (λx=>x.2≠0->Xp (Za yP x.2)) (λx=>decide (x.2=0)) (λx=>(.bool x.1,[]))
def UG(Xp:List PanicEntry->Prop):Ctr:=ctrS (λ(x:L8×Int)=>[.str x.1,.i x.2]) (λ_=>[]) (λx=>x.2≠0->Xp (Za yP x.2)) (λx=>decide (x.2=0)) (λx=>(.str x.1,[]))
theorem ze1(Xp:List PanicEntry->Prop):zA Xp prog 119 (zkg Xp):=
 Yp (fn:=f119) (c:=f119.body.getD .skip) rfl rfl rfl (T:=yP) (λb:Bool=>.bool b) (λb=>.bool b) (λ_ _ _ _ _=>by simp [Rep]) λx e w=>Tryz.zgi x e w
theorem V1(Xp:List PanicEntry->Prop):zA Xp prog 122 (UG Xp):=
 Yp (fn:=f122) (c:=f122.body.getD .skip) rfl rfl rfl (T:=yP) (λs:L8=>.str s) (λs=>.string ⟨s.toArray⟩) (λ_ _ _ _ _=>by simp [Rep]) λx e w=>Tryz.zg9 ⟨x.toArray⟩ e w
theorem FI.zd3(k:FI):eqH (expH k.hC [0,1]) k.hC:=by
 simp [expH,expB,exp1,exp0,ren0,FI.hC,zK,Con.zi,Con.qK,fxS,chS,Ex.exS,Con.dayS,Con.conS,za]
theorem FI.zto(k:FI):eqH (expH k.hH [0,1]) k.hH:=by
 simp [expH,expB,exp1,exp0,ren0,FI.hH,zK,Con.zi,Con.qK,fxS,chS,Ex.exS,Con.dayS,Con.conS,za]
theorem FI.zt0(k:FI):eqH (expH k.hV [0,1,2]) k.hV:=by
 simp [expH,expB,exp1,exp0,ren0,FI.hV,zK,Con.zi,Con.qK,fxS,chS,Ex.exS,Con.dayS,Con.conS,za]
def Xt:Ctr:=ctrT false false (λp:FI×Int=>[.i p.2,.ptr 0 0,.ptr 1 0]) (λp=>p.1.hC) (λp=>p.1.h.length<2^40) (λ_ (_:Unit)=>True) (λp _=>(.bool (qo p.1.h p.1.c.src p.1.c.name p.2),p.1.hC))
noncomputable def GFc:=tb zfi tz
theorem Wq:zg prog 116 Xt:=by
 refine zD (fn:=f116) (c:=f116.body.getD .skip) rfl rfl rfl (λh=>by cases h) λp hp O w0 I0 Q hl0 hq=> ?_
 obtain⟨⟨c,day,fin,f,h⟩,d⟩:=p;replace hq:=hq () trivial;simp only at hp hq;refine zd.n GFc.h [] (.ex (λ(x:(List Fx×List Ch)×L8×L8×Int)=>eqL [.agg [.sl f.length 3 (fxG f),.sl h.length 4 (chG h)],.str c.src,.str c.name,.i d] [.agg [.sl x.1.1.length 3 (fxG x.1.1),.sl x.1.2.length 4 (chG x.1.2)],.str x.2.1,.str x.2.2.1,.i x.2.2.2]/\x.1.2.length<1099511627776) λn=>.all (λ(r:Bool)=>r=qo n.1.2 n.2.1 n.2.2.1 n.2.2.2) λn=>.R [.bool n] [.box [.sl f.length 3 (fxG f),.sl h.length 4 (chG h)],.box (Con.zi c)]) ?_;simp only [Tree.holds,zh];refine⟨((f,h),(c.src,c.name,d)),⟨⟨⟨⟨rfl,rfl,λ_ _ _ _=>rfl⟩,⟨rfl,rfl,λ_ _ _ _=>rfl⟩,trivial⟩,rfl,rfl,⟨rfl,rfl⟩,trivial⟩,hp⟩,⟨_,rfl⟩,?_⟩;rintro _ rfl;exact RetR.xO [0,1] rfl rfl (by show ∀ j,j<2->_; decide) rfl hq (LeA.refl _) (FI.zd3 ⟨c,day,fin,f,h⟩) rfl
def zai(Xp:List PanicEntry->Prop):Ctr:=ctrS (λp:FI×Int=>[.i p.2,.ptr 0 0,.ptr 1 0]) (λp=>p.1.hH) (λp=>VI.ok ⟨p.1.c.x,p.2,p.1.f,p.1.h⟩/\qA Xp (holM p.1.c.x p.2 p.1.f p.1.h)) (λp=>okM (holM p.1.c.x p.2 p.1.f p.1.h)) (λp=>(.bool (getM false (holM p.1.c.x p.2 p.1.f p.1.h)),p.1.hH))
noncomputable def GFh(Xp:List PanicEntry->Prop):Nat->Option Ctr:=λf=>if f=119 then some (zkg Xp) else if f=120 then some zgk else none
theorem zqh(Xp:List PanicEntry->Prop):∀ f c,GFh Xp f=some c->zA Xp prog f c:=vF (ze1 Xp) (vF zgh.x yv)
abbrev q60(A:List AV)(x:VI):Prop:=eqL A [x.x.exA,.i x.day,.agg [.sl x.f.length 3 (fxG x.f),.sl x.c.length 4 (chG x.c)]]/\VI.ok x
theorem VM(Xp:List PanicEntry->Prop):zA Xp prog 118 (zai Xp):=by
 refine yh (fn:=f118) (c:=f118.body.getD .skip) rfl rfl rfl λp hp O w0 I0 Q hl0 hq=> ?_
 obtain⟨⟨c,day,fin,f,h⟩,d⟩:=p;obtain⟨h1,h2⟩:=hp;simp only at h1 h2 hq;refine zd.runX hmix (zqh Xp) [] 400 (T:=.ex (q60 [(Ex.exA c.x),.i d,.agg [.sl f.length 3 (fxG f),.sl h.length 4 (chG h)]]) λn=>.all (λ(r:Bool×Int)=>r=xI n.x n.day n.f n.c) λn=>.ex (λ(x:Bool×Int)=>eqL [.bool n.1,.i n.2] [.bool x.1,.i x.2]/\eqH [] []/\0=0/\(x.2≠0->Xp (Za yP x.2))) λn=>.D (n.2=0) (.R [.bool n.1] [.box (Con.zi c),.box [.sl f.length 3 (fxG f),.sl h.length 4 (chG h)]]) (.leaf qe.gone)) (by kernel_rfl) ?_;simp only [q60,Tree.holds,zh];refine⟨⟨c.x,d,f,h⟩,⟨⟨wW c.x,⟨rfl,rfl⟩,⟨⟨rfl,rfl,λ_ _ _ _=>rfl⟩,⟨rfl,rfl,λ_ _ _ _=>rfl⟩,trivial⟩,trivial⟩,h1⟩,⟨_,rfl⟩,?_⟩;rintro _ rfl;refine⟨xI c.x d f h,⟨⟨rfl,⟨rfl,rfl⟩,trivial⟩,trivial,trivial,λhe=>h2 _ (by unfold holM; rw [aO he])⟩,λhe=> ?_,λ_=>trivial⟩;have he:=aB he;have hm:holM c.x d f h = .ok (xI c.x d f h).1:=by unfold holM; rw [aP he]
 rw [hm] at hq;exact RetR.xO [0,1] rfl rfl (by show ∀ j,j<2->_; decide) rfl (hq rfl) (LeA.refl _) (FI.zto ⟨c,day,fin,f,h⟩) rfl
def zlp(Xp:List PanicEntry->Prop):Ctr:=ctrS (λk:FI=>[.ptr 0 0,.ptr 1 0,.ptr 2 0]) (λk=>k.hV) (λk=>VI.ok ⟨k.c.x,k.day,k.f,k.h⟩/\qA Xp (valM k.c.x k.day k.f k.h)) (λk=>okM (valM k.c.x k.day k.f k.h)) (λk=>(.str (getM [] (valM k.c.x k.day k.f k.h)),k.hV))
noncomputable def GFv(Xp:List PanicEntry->Prop):Nat->Option Ctr:=λf=>if f=122 then some (UG Xp) else if f=123 then some zkj else none
theorem zrx(Xp:List PanicEntry->Prop):∀ f c,GFv Xp f=some c->zA Xp prog f c:=vF (V1 Xp) (vF zhd.x yv)
theorem zdr(Xp:List PanicEntry->Prop):zA Xp prog 121 (zlp Xp):=by
 refine yh (fn:=f121) (c:=f121.body.getD .skip) rfl rfl rfl λp hp O w0 I0 Q hl0 hq=> ?_
 obtain⟨c,day,fin,f,h⟩:=p;obtain⟨h1,h2⟩:=hp;simp only at h1 h2 hq;refine zd.runX hmix (zrx Xp) [] 400 (T:=.ex (q60 [(Ex.exA c.x),.i day,.agg [.sl f.length 3 (fxG f),.sl h.length 4 (chG h)]]) λn=>.all (λ(r:L8×Int)=>r=jR n.x n.day n.f n.c) λn=>.ex (λ(x:L8×Int)=>eqL [.str n.1,.i n.2] [.str x.1,.i x.2]/\eqH [] []/\0=0/\(x.2≠0->Xp (Za yP x.2))) λn=>.D (n.2=0) (.R [.str n.1] [.box (Con.zi c),.box [.i day],.box [.sl f.length 3 (fxG f),.sl h.length 4 (chG h)]]) (.leaf qe.gone)) (by kernel_rfl) ?_;simp only [q60,Tree.holds,zh];refine⟨⟨c.x,day,f,h⟩,⟨⟨wW c.x,⟨rfl,rfl⟩,⟨⟨rfl,rfl,λ_ _ _ _=>rfl⟩,⟨rfl,rfl,λ_ _ _ _=>rfl⟩,trivial⟩,trivial⟩,h1⟩,⟨_,rfl⟩,?_⟩;rintro _ rfl;refine⟨jR c.x day f h,⟨⟨rfl,⟨rfl,rfl⟩,trivial⟩,trivial,trivial,λhe=>h2 _ (by unfold valM; rw [aO he])⟩,λhe=> ?_,λ_=>trivial⟩;have he:=aB he;have hm:valM c.x day f h = .ok (jR c.x day f h).1:=by unfold valM; rw [aP he]
 rw [hm] at hq;exact RetR.xO [0,1,2] rfl rfl (by show ∀ j,j<3->_; decide) rfl (hq rfl) (LeA.refl _) (FI.zt0 ⟨c,day,fin,f,h⟩) rfl
end Go.Proofs.Tryz
end
