/- The law returns true for every input, and each argument reads afterwards as it read before; no condition. -/
import Derived.Test.YtfiocgnojggdjaaGreatDoorSxg
import Derived.KernelRfl
import Derived.SizedLaws
import Derived.ChangeArms
import Derived.Deep.Slices
import Derived.Carry
import Derived.LaidMore
import Derived.WideKeyElems2
import Derived.ProofKit
import Derived.OpenShut
import Derived.ReadAgain
import Derived.Test.YtfiocgnojggdjaaGreatDoorRows
import Derived.MakeChecks
import Derived.Test.YtfiocgnojggdjaaGreatDoorCards
import Derived.Test.YtfiocgnojggdjaaGreatDoorTie
import Derived.Stop.Joined
import Derived.SevenTiedAt
set_option linter.unusedVariables false
set_option linter.unusedSimpArgs false
set_option linter.unusedSectionVars false
section
set_option maxRecDepth 100000
open Go Go.Sx Go.Proofs Go.Nov
namespace Go.Proofs.Tryz
attribute [local simp] eqKV eqA eqA0 eqH eqB eqL eqL0
noncomputable def zi9:Ctr:=inlC prog noG 100 f32
theorem zh7:zc prog 32 zi9:=kE hmix zA rfl rfl
noncomputable def isI:Ctr:=inlC prog noG 100 f21
theorem ziq:zc prog 21 isI:=kE hmix zA rfl rfl
def kq:Tp:=⟨2,[⟨1,0,0,[]⟩,⟨1,1,0,[]⟩,⟨5,0,1,[]⟩]⟩
theorem al1:zF kq [[51],[53]] 0 [49,47,50]=([53],0):=by decide +kernel
theorem al2:zF kq [[51],[53]] 1 [49,47,50]=([51],0):=by decide +kernel
theorem al3:croT kq [[51],[53]] 0 1 [49,47,50]=([49],0):=by decide +kernel
theorem al4:degT kq 0=(1,0):=by decide +kernel
theorem al5:degT kq 1=(1,0):=by decide +kernel
theorem zkd:eqG 3 4 (zf (zd 4 [.int .u8 1,.i 0,.i 0,.str [],.int .u8 1,.i 1,.i 0,.str [],.int .u8 5,.i 0,.i 1,.str []]) 0) (opG kq.ops):=by
 intro j o hj ho;rcases(show j=0\/j=1\/j=2 by omega) with rfl | rfl | rfl<;>rcases(show o=0\/o=1\/o=2\/o=3 by omega) with rfl | rfl | rfl | rfl<;>rfl
theorem QI:zi kq:=by
 refine⟨by decide,λj hj=> ?_⟩;have hj:j<3:=hj;rcases(show j=0\/j=1\/j=2 by omega) with rfl | rfl | rfl<;>(show([]:L8).length<2^60; decide)
def inR2:List (L8):=[[51],[53]]
theorem in_G:eqG 2 1 (zf (zd 1 [.str [51],.str [53]]) 0) (ratG inR2):=by
 intro j o hj ho;obtain rfl:o=0:=by omega
 rcases(show j=0\/j=1 by omega) with rfl | rfl<;>rfl
theorem in_s:zC inR2:=by
 refine⟨by decide,λj hj=> ?_⟩;have hj:j<2:=hj;rcases(show j=0\/j=1 by omega) with rfl | rfl<;>(show([0]:L8).length<2^60; decide)
def zci:Ctr:=ctrP true (λ_:Unit=>[]) (λ_=>True) (λ_ r=>r=true) (λ_ (r:Bool)=>(.bool r,[]))
noncomputable def GA1:=tb zh7 (tb YI (tb zbz (tb Ux (tb ziq tz))))
abbrev q49(A:List AV)(x:Tp×Int):Prop:=eqL A [.agg [.i x.1.n,.sl x.1.ops.length 4 (opG x.1.ops)],.i x.2]/\zi x.1
abbrev q48(A:List AV)(x:Tp×List L8×Int×Int×L8):Prop:=eqL A [.agg [.i x.1.n,.sl x.1.ops.length 4 (opG x.1.ops)],.sl x.2.1.length 1 (ratG x.2.1),.i x.2.2.1,.i x.2.2.2.1,.str x.2.2.2.2]/\zi x.1/\zC x.2.1/\x.2.2.2.2.length<562949953421312
abbrev q47(A:List AV)(x:Tp×List L8×Int×L8):Prop:=eqL A [.agg [.i x.1.n,.sl x.1.ops.length 4 (opG x.1.ops)],.sl x.2.1.length 1 (ratG x.2.1),.i x.2.2.1,.str x.2.2.2]/\zi x.1/\zC x.2.1/\x.2.2.2.length<562949953421312
theorem zcl:zc prog 16 zci:=by
 refine zh' f16 λp hp O w0 Q hq=> ?_
 replace hq:=hq _ rfl;refine zb.n GA1.h [] (let v3:=zf (zd 1 [.str #[(51:UInt8)].toList,.str #[(53:UInt8)].toList]) 0;let v2:=zd 4 [.int .u8 1,.i 0,.i 0,.str #[].toList,.int .u8 1,.i 1,.i 0,.str #[].toList,.int .u8 5,.i 0,.i 1,.str #[].toList];let v1:=[AV.i 2,AV.sl 3 4 (zf (zd 4 [.int .u8 1,.i 0,.i 0,.str #[].toList,.int .u8 1,.i 1,.i 0,.str #[].toList,.int .u8 5,.i 0,.i 1,.str #[].toList]) 0)];.ex (q47 [.agg v1,.sl 2 1 v3,.i 0,.str #[(49:UInt8),(47:UInt8),(50:UInt8)].toList]) λn=>.all (λ(r:L8×Int)=>r=zF n.1 n.2.1 n.2.2.1 n.2.2.2) λn=>.ex (q47 [.agg v1,.sl 2 1 v3,.i 1,.str #[(49:UInt8),(47:UInt8),(50:UInt8)].toList]) λn_1=>.all (λ(r:L8×Int)=>r=zF n_1.1 n_1.2.1 n_1.2.2.1 n_1.2.2.2) λn_2=>.ex (q48 [.agg v1,.sl 2 1 v3,.i 0,.i 1,.str #[(49:UInt8),(47:UInt8),(50:UInt8)].toList]) λn_3=>.all (λ(r:L8×Int)=>r=croT n_3.1 n_3.2.1 n_3.2.2.1 n_3.2.2.2.1 n_3.2.2.2.2) λn_4=>.ex (q49 [.agg v1,.i 0]) λn_5=>.all (λ(r:Int×Int)=>r=degT n_5.1 n_5.2) λn_6=>.ex (q49 [.agg v1,.i 1]) λn_7=>.all (λ(r:Int×Int)=>r=degT n_7.1 n_7.2) λn_8=>.R [.bool (bif bif bif bif bif bif bif decide (n.2=0) then decide (n.1=#[(53:UInt8)].toList) else false then bif decide (n_2.2=0) then decide (n_2.1=#[(51:UInt8)].toList) else false else false then bif decide (n_4.2=0) then decide (n_4.1=#[(49:UInt8)].toList) else false else false then decide (n_6.2=0) else false then decide (n_6.1=1) else false then decide (n_8.2=0) else false then decide (n_8.1=1) else false)] [.arr 2 1 (zd 1 [.str #[(51:UInt8)].toList,.str #[(53:UInt8)].toList]),.box [.i 2,.osl 2 4 0 3],.arr 3 4 v2,.box [.i 2,.osl 4 4 0 3],.arr 3 4 v2,.box [.i 2,.osl 6 4 0 3],.arr 3 4 v2,.box [.i 2,.osl 8 4 0 3],.arr 3 4 v2,.box [.i 2,.osl 10 4 0 3],.arr 3 4 v2]) ?_;simp only [q47,q48,q49,Tree.holds,ze];have e1:eqL [.agg [.i 2,.sl 3 4 (zf (zd 4 [.int .u8 1,.i 0,.i 0,.str [],.int .u8 1,.i 1,.i 0,.str [],.int .u8 5,.i 0,.i 1,.str []]) 0)]] [kq.av]:=⟨⟨⟨rfl,rfl⟩,⟨rfl,rfl,zkd⟩,trivial⟩,trivial⟩;refine⟨(kq,inR2,0,[49,47,50]),⟨⟨e1.1,⟨rfl,rfl,in_G⟩,⟨rfl,rfl⟩,rfl,trivial⟩,QI,in_s,by decide⟩,⟨_,rfl⟩,?_⟩;intro r1 g1;refine⟨(kq,inR2,1,[49,47,50]),⟨⟨e1.1,⟨rfl,rfl,in_G⟩,⟨rfl,rfl⟩,rfl,trivial⟩,QI,in_s,by decide⟩,⟨_,rfl⟩,?_⟩;intro r2 g2;refine⟨(kq,inR2,0,1,[49,47,50]),⟨⟨e1.1,⟨rfl,rfl,in_G⟩,⟨rfl,rfl⟩,⟨rfl,rfl⟩,rfl,trivial⟩,QI,in_s,by decide⟩,⟨_,rfl⟩,?_⟩;intro r3 g3;refine⟨(kq,0),⟨⟨e1.1,⟨rfl,rfl⟩,trivial⟩,QI⟩,⟨_,rfl⟩,?_⟩;intro r4 g4;refine⟨(kq,1),⟨⟨e1.1,⟨rfl,rfl⟩,trivial⟩,QI⟩,⟨_,rfl⟩,?_⟩;intro r5 g5;replace g1:r1=([53],0):=g1.trans al1;replace g2:r2=([51],0):=g2.trans al2;replace g3:r3=([49],0):=g3.trans al3;replace g4:r4=(1,0):=g4.trans al4;replace g5:r5=(1,0):=g5.trans al5;subst g1 g2 g3 g4 g5;exact RetR.scal hq rfl (by simp [resV])
end Go.Proofs.Tryz
end
section
namespace Go.Nov
open Go.Sx
def sqO:List TOp:=[⟨1,0,0,[]⟩,⟨5,0,0,[]⟩]
def sqT:Tp:=⟨1,sqO⟩
def paO:List TOp:=[⟨2,0,0,[49]⟩,⟨1,0,0,[]⟩,⟨6,0,1,[]⟩]
def paT:Tp:=⟨1,paO⟩
def thR:List (L8):=[[51]]
theorem bn1:zF sqT thR 0 [49,47,50]=([49,51,47,50],0):=by decide +kernel
theorem bn2:cenT sqT thR 0 [49,47,50]=([54],0):=by decide +kernel
theorem bn3:croT sqT thR 0 0 [49,47,50]=([50],0):=by decide +kernel
theorem bn4:degT sqT 0=(2,0):=by decide +kernel
theorem bn5:degT paT 0=(-1,0):=by decide +kernel
theorem bn6:zF paT thR 0 [51]=([45,49,47,49,56],0):=by decide +kernel
theorem bn7:(zF paT thR 0 [45,51]).2=16:=by decide +kernel
theorem bn8:(z9 paT [[48]]).2=16:=by decide +kernel
theorem bn9:(zF sqT thR 0 [48]).2=16:=by decide +kernel
theorem bn10:(zF sqT thR 1 [120]).2=2:=by decide +kernel
theorem bn11:(zF sqT thR 0 [50,47,52]).2=12:=by decide +kernel
theorem bn12:(trun sqT []).2=2:=by decide +kernel
theorem bn13:(trun sqT [[120]]).2=12:=by decide +kernel
theorem bn14:(trun ⟨0,[]⟩ thR).2=8:=by decide +kernel
theorem bn15:(degT sqT (-1)).2=2:=by decide +kernel
def zeT:Tp:=⟨0,List.replicate 501 TOp.nil⟩
theorem bn16:zg zeT=4:=by decide +kernel
def b1T:Tp:=⟨1,[⟨1,1,0,[]⟩]⟩
def b2T:Tp:=⟨0,[⟨3,0,0,[]⟩]⟩
def b3T:Tp:=⟨0,[⟨2,0,1,[49]⟩]⟩
def b4T:Tp:=⟨0,[⟨2,0,0,[]⟩]⟩
theorem bn17:zg b1T=8:=by decide +kernel
theorem bn18:zg b2T=8:=by decide +kernel
theorem bn19:zg b3T=8:=by decide +kernel
theorem bn20:zg b4T=8:=by decide +kernel
def nowX:Ex:=.mk 3 [] [120] 0 []
def maxX:Ex:=.mk 7 [] [] 0 [nowX,.mk 4 [] [] 0 [nowX,.mk 2 [] [121] 2 []]]
def vF:List Fx:=[⟨[120],1,[53]⟩,⟨[121],2,[49,47,50]⟩]
def Y6:List TOp:=[⟨1,0,0,[]⟩,⟨1,1,0,[]⟩,⟨3,0,1,[]⟩]
theorem bn21:recV maxX 1 vF []=(⟨Y6,vF⟩,0):=by kernel_rfl
end Go.Nov
end
section
namespace Go.Sx
variable [Stat]
section
variable {O:Nat->Prop} {pin:Nat} {w0:World} {I0:List SE} {P:Program} {fn:Func} {Xp:List PanicEntry->Prop}
theorem zb.wkH{M:Option Nat}{Hs:Nat->KV->Heap->Prop}{R:List AV->Heap->Prop}{k:List Item}{kv:KV}{h h':Heap}(hb:leHs h h')
  (H:zS Xp M P fn O pin w0 I0 Hs R k (mk fn.ntmps kv h')):zS Xp M P fn O pin w0 I0 Hs R k (mk fn.ntmps kv h):=by
 intro w σ a hm;have hl:=Vt hb;refine H w σ a ⟨hm.good,?_,hm.size,hm.tm,hm.df,hm.since,hm.lim⟩;have hh:HRep (Own O σ) w σ h:=hm.hp;refine⟨by show σ.length=h'.length; rw [hh.len,hl],hh.inj,hh.lt,λi e b he hb'=> ?_⟩;have hb':h'[i]?=some b:=hb'
 have hi:i<h.length:=by
  rw [<- hl];exact(aG.1 hb').1
 have h1:h[i]?=some h[i]:=aF hi;exact ZQ hb h1 hb' _ _ _ _ (hh.blk i e _ he h1)
end
end Go.Sx
end
section
namespace Go.Nov
open Go.Sx
inductive Con where
 | mk (kind:Int) (src dst name:L8) (x:Ex) (date:Int) (days:List Int) (sub:List Con)
def yz(x:Ex):Bool:=decide (x.kind=0)&&(decide (x.rat=[])&&(decide (x.name=[])&&(decide (x.date=0)&&decide (x.sub.length=0))))
def Qq(x:Ex):Nat:=bif yz x then 0 else x.size
def WS(x:Ex):Nat:=bif yz x then 0 else x.depth
def numX(x:Ex):Bool:=decide (x.errX=0)&&decide (x.zz=1)
def truX(x:Ex):Bool:=decide (x.errX=0)&&decide (x.zz=2)
def incB(l:List Int):Bool:=ordB cmpI 0 l
def zhy(l:List Int):Bool:=decide (1<=l.length)&&(decide (l.length<=100)&&(l.all dayB&&incB l))
def zi0(k:Int)(a b n:L8)(x:Ex)(d:Int)(l:List Int)(m:Nat):Bool:=
 if k=1 then decide (m=0)&&decide (a=[])&&decide (b=[])&&decide (n=[])&&decide (d=0)&&decide (l=[])&&yz x
 else if k=2 then decide (m=0)&&jb a&&jb b&&decide (a≠b)&&jb n&&numX x&&decide (d=0)&&decide (l=[])
 else if k=3 then decide (m=2)&&decide (a=[])&&decide (b=[])&&decide (n=[])&&decide (d=0)&&decide (l=[])&&yz x
 else if k=4 then decide (m=1)&&decide (a=[])&&decide (b=[])&&decide (n=[])&&decide (d=0)&&decide (l=[])&&numX x
 else if k=5 then decide (m=2)&&decide (a=[])&&decide (b=[])&&decide (n=[])&&decide (d=0)&&decide (l=[])&&truX x
 else if k=6 then decide (m=1)&&decide (a=[])&&decide (b=[])&&decide (n=[])&&dayB d&&decide (l=[])&&yz x
 else if k=7 then decide (m=2)&&jb a&&decide (b=[])&&jb n&&decide (d=0)&&decide (l=[])&&yz x
 else if k=8 then decide (m=1)&&jb a&&decide (b=[])&&jb n&&decide (d=0)&&zhy l&&yz x
 else if k=9\/k=10 then decide (m=1)&&decide (a=[])&&decide (b=[])&&decide (n=[])&&decide (d=0)&&zhy l&&truX x
 else false
namespace Con
def kind:Con->Int | mk k _ _ _ _ _ _ _=>k
def src:Con->L8 | mk _ a _ _ _ _ _ _=>a
def dst:Con->L8 | mk _ _ b _ _ _ _ _=>b
def name:Con->L8 | mk _ _ _ n _ _ _ _=>n
def x:Con->Ex | mk _ _ _ _ x _ _ _=>x
def date:Con->Int | mk _ _ _ _ _ d _ _=>d
def days:Con->List Int | mk _ _ _ _ _ _ l _=>l
def sub:Con->List Con | mk _ _ _ _ _ _ _ s=>s
abbrev nil:Con:=mk 0 [] [] [] Ex.nil 0 [] []
mutual
def nodes:Con->Nat
 | mk _ _ _ _ _ _ _ s=>1+QS s
def QS:List Con->Nat
 | []=>0
 | c::l=>nodes c+QS l
end
mutual
def size:Con->Nat
 | mk _ _ _ _ x _ _ s=>1+Qq x+z6 s
def z6:List Con->Nat
 | []=>0
 | c::l=>size c+z6 l
end
mutual
def depth:Con->Nat
 | mk _ _ _ _ x _ _ s=>1+max (WS x) (zT s)
def zT:List Con->Nat
 | []=>0
 | c::l=>max (depth c) (zT l)
end
mutual
def big:Con->Nat
 | mk _ a b n x _ l s=>1+a.length+b.length+n.length+l.length+x.size+x.qH+bigs s
def bigs:List Con->Nat
 | []=>0
 | c::l=>big c+bigs l
end
mutual
def form:Con->Bool
 | mk k a b n x d l s=>zi0 k a b n x d l s.length&&Ve s
def Ve:List Con->Bool
 | []=>true
 | c::l=>form c&&Ve l
end
mutual
def thin:Con->Prop
 | mk _ a b n x _ l s=>a.length<=2^48/\b.length<=2^48/\n.length<=2^48/\x.thin/\l.length<=2^48/\s.length<=2^48/\xN s
def xN:List Con->Prop
 | []=>True
 | c::l=>thin c/\xN l
end
theorem size_eq(c:Con):c.size=1+Qq c.x+z6 c.sub:=by cases c; rw [size]; rfl
theorem xu(c:Con):c.depth=1+max (WS c.x) (zT c.sub):=by cases c; rw [depth]; rfl
theorem size_pos(c:Con):0<c.size:=by rw [size_eq]; omega
section
variable {f:Con->Nat} {F:List Con->Nat}
theorem Vn(h0:F []=0)(h1:∀ c l,F (c::l)=f c+F l):∀ (s:List Con) (i:Nat),i<s.length->F (s.take (i+1))=F (s.take i)+f (s.getD i nil)
 | [],i,h=>by simp at h
 | c::s,0,_=>by simp [h0,h1]
 | c::s,i+1,h=>by
  simp only [List.take_succ_cons,h1,List.getD_cons_succ];rw [Vn h0 h1 s i (by simpa using h)];omega
theorem YK(h0:F []=0)(h1:∀ c l,F (c::l)=f c+F l):∀ (s:List Con) (i:Nat),i<s.length->f (s.getD i nil)<=F s
 | [],i,h=>by simp at h
 | c::s,0,_=>by simp [h1]
 | c::s,i+1,h=>by
  simp only [List.getD_cons_succ,h1];have:=YK h0 h1 s i (by simpa using h);omega
end
theorem Qp{s:List Con}{i:Nat}(h:i<s.length):z6 (s.take (i+1))=z6 (s.take i)+(s.getD i nil).size:=Vn (by rw [z6]) (λc l=>by rw [z6]) s i h
theorem qf{s:List Con}{i:Nat}(h:i<s.length):(s.getD i nil).size<=z6 s:=YK (by rw [z6]) (λc l=>by rw [z6]) s i h
theorem kZ:∀ (s:List Con) (i:Nat),i<s.length->zT (s.take (i+1))=max (zT (s.take i)) (s.getD i nil).depth
 | [],i,h=>by simp at h
 | c::s,0,_=>by simp [zT]
 | c::s,i+1,h=>by
  simp only [List.take_succ_cons,zT,List.getD_cons_succ];rw [kZ s i (by simpa using h)];omega
def errC(c:Con):Int:=if 500<c.size\/60<c.depth then 4 else if c.form=true then 0 else 8
def dayG(l:List Int):Nat->Nat->AV:=λj _=>.i (l.getD j 0)
def cell(k:Int)(a b n:L8)(x:Ex)(d:Int)(l:List Int)(m:Nat)(g:Nat->Nat->AV):Nat->AV
 | 0=>.int .u8 k
 | 1=>.str a
 | 2=>.str b
 | 3=>.str n
 | 4=>.int .u8 x.kind
 | 5=>.str x.rat
 | 6=>.str x.name
 | 7=>.i x.date
 | 8=>.sl x.sub.length 5 (Ex.exG x.sub)
 | 9=>.i d
 | 10=>.sl l.length 1 (dayG l)
 | 11=>.sl m 12 g
 | _=>.undef
def deep:Con->Nat->Nat->AV
 | mk _ _ _ _ _ _ _ s=>λj=>(s.map λc=>cell c.kind c.src c.dst c.name c.x c.date c.days c.sub.length (deep c)).getD j λ_=>.undef
def conG(s:List Con):Nat->Nat->AV:=λj=>cell (s.getD j nil).kind (s.getD j nil).src (s.getD j nil).dst (s.getD j nil).name (s.getD j nil).x (s.getD j nil).date (s.getD j nil).days (s.getD j nil).sub.length (deep (s.getD j nil))
theorem qY(c:Con):eqG c.sub.length 12 (deep c) (conG c.sub):=by
 intro j o hj ho;cases c with
 | mk k a b n x d l s=>
  rw [deep];change j<s.length at hj;show _=conG s j o;simp [conG,List.getD,hj]
mutual
def all:Con->List Con
 | mk k a b n x d l s=>mk k a b n x d l s::alls s
def alls:List Con->List Con
 | []=>[]
 | c::l=>all c++alls l
end
def zi1(c:Con):Bool:=zi0 c.kind c.src c.dst c.name c.x c.date c.days c.sub.length
mutual
theorem zha:∀ c:Con,c.all.length=c.nodes
 | mk k a b n x d l s=>by rw [all,nodes,aL,Vh s]; omega
theorem Vh:∀ s:List Con,(alls s).length=QS s
 | []=>by simp [alls,QS]
 | c::s=>by rw [alls,QS,bO,zha c,Vh s]
end
mutual
theorem zfk:∀ c:Con,c.form=c.all.all zi1
 | mk k a b n x d l s=>by rw [all,form,List.all_cons,JC s]; rfl
theorem JC:∀ s:List Con,Ve s=(alls s).all zi1
 | []=>by simp [alls,Ve]
 | c::s=>by rw [alls,Ve,List.all_append,zfk c,JC s]
end
def wt(c:Con):Nat:=1+Qq c.x
mutual
theorem zea:∀ c:Con,c.size=(c.all.map wt).sum
 | mk k a b n x d l s=>by rw [all,size,List.map_cons,List.sum_cons,Jl s]; rfl
theorem Jl:∀ s:List Con,z6 s=((alls s).map wt).sum
 | []=>by simp [alls,z6]
 | c::s=>by rw [alls,z6,List.map_append,List.sum_append,zea c,Jl s]
end
mutual
theorem zh8:∀ c:Con,∀ e∈c.all,e.big<=c.big
 | mk k a b n x d l s,e,he=>by
  rw [all] at he;rcases aM.1 he with rfl | he
  ·exact aJ _
  ·have:=Vg s e he;rw [big]; omega
theorem Vg:∀ s:List Con,∀ e∈alls s,e.big<=bigs s
 | [],e,he=>by simp [alls] at he
 | c::s,e,he=>by
  rw [alls] at he;rw [bigs];rcases bY.1 he with he | he
  ·have:=zh8 c e he; omega
  ·have:=Vg s e he; omega
end
theorem zcb(x:Ex):Qq x<=x.size:=by unfold Qq; cases yz x<;>simp
theorem za3(x:Ex):WS x<=Qq x:=by
 unfold Qq WS;cases yz x
 ·exact Ex.xG x
 ·exact aJ _
mutual
theorem zbt:∀ c:Con,c.size<=c.big
 | mk k a b n x d l s=>by
  have:=Jt s;have:=zcb x;rw [size,big]; omega
theorem Jt:∀ s:List Con,z6 s<=bigs s
 | []=>by simp [z6,bigs]
 | c::s=>by rw [z6,bigs]; have:=zbt c; have:=Jt s; omega
end
mutual
theorem Xr:∀ c:Con,c.depth<=c.size
 | mk k a b n x d l s=>by
  have:=uO s;have:=za3 x;rw [depth,size]; omega
theorem uO:∀ s:List Con,zT s<=z6 s
 | []=>by simp [zT,z6]
 | c::s=>by rw [zT,z6]; have:=Xr c; have:=uO s; omega
end
end Con
end Go.Nov
end
section
namespace Go.Nov
open Go.Sx
structure Deal where
 long:L8
 short:L8
 ccy:L8
 name:L8
 WC:L8
 YG:L8
namespace Tm
def kon(r:L8):Ex:=.mk 1 r [] 0 []
def spot(n:L8):Ex:=.mk 3 [] n 0 []
def opx(k:Int)(s:List Ex):Ex:=.mk k [] [] 0 s
def over(k:L8)(x:Ex)(below:Bool):Ex:=opx 7 [kon [48],opx 5 (if below=true then [kon k,x] else [x,kon k])]
def pay(d:Deal)(x:Ex)(r:L8):Con:=.mk 2 d.short d.long d.ccy (opx 6 [x,kon r]) 0 [] []
def at_(day:Int)(c:Con):Con:=.mk 6 [] [] [] (.mk 0 [] [] 0 []) day [] [c]
def call(d:Deal)(ch:L8)(days:List Int)(c:Con):Con:=.mk 8 d.long [] ch (.mk 0 [] [] 0 []) 0 days [c]
def first(e:Int)(l:List L8):Int:=l.foldl (λe r=>if e=0 then errR r else e) e
def zero:Con:=.mk 0 [] [] [] (.mk 0 [] [] 0 []) 0 [] []
def fits(d:Deal):Prop:=d.long.length<=200/\d.short.length<=200/\d.ccy.length<=200/\d.name.length<=200/\d.WC.length<=2500/\d.YG.length<=2500
def res(d:Deal)(c:Con):Int:=if first 0 [d.WC,d.YG]=0 then c.errC else first 0 [d.WC,d.YG]
def out(e:Int)(c:Con):Con:=if e=0 then c else zero
def opt(d:Deal)(ch:L8)(days:List Int)(put:Bool):Con:=call d ch days (pay d (over d.WC (spot d.name) put) d.YG)
end Tm
end Go.Nov
end
section
namespace Go.Sx
open Go.Nov
variable [Stat]
theorem zc.sink{P:Go.Program}{g:Nat}{c:Ctr}(h:zc P g c):zc P g { c with sinks:=true } :=h
end Go.Sx
namespace Go.Nov
open Go.Sx
variable [Go.Sx.Stat]
end Go.Nov
end
section
set_option maxRecDepth 100000
open Go Go.Sx Go.Proofs Go.Nov
namespace Go.Proofs.Tryz
attribute [local simp] eqKV eqA eqA0 eqH eqB eqL eqL0
def zj2:Ctr:=ctrP true (λ_:Unit=>[]) (λ_=>True) (λ_ r=>r=true) (λ_ (r:Bool)=>(.bool r,[]))
def zin:Ctr:=ctrP true (λp:Tp×List (L8)=>[p.1.av,ratS p.2]) (λp=>zi p.1/\zC p.2) (λp r=>r=trun p.1 p.2) (λ_ (r:List L8×Int)=>(.tup [ratS r.1,.i r.2],[]))
theorem zg5:zc prog 26 zin:=zc.frozen Yy (λp r _ _=>by
  simp only [new2,aM,List.not_mem_nil,or_false,forall_eq_or_imp,forall_eq,new1,new0];refine⟨λ_=> ?_,rfl⟩;simp only [exp0,z4,frz1,jI,List.getElem?_cons_zero,if_true,zb7];intro j o hj ho;obtain rfl:o=0:=by omega
  rfl) (λp r _ _=>qw (by simp [exp2,exp1,exp0,z4,frz1,jI,ren0,eqA2,eqL1,ratS,zal]))
def zih:Ctr:={ recC with sinks:=true }
theorem zgg:zc prog 10 zih:=zc.sink (c:=recC) Uz
noncomputable def GBn:=tb zcl (tb YI (tb zk2 (tb zbz (tb Ux (tb Zk (tb zg5 (tb uo (tb ziq (tb zgg (tb zdg (tb ze2 tz)))))))))))
noncomputable def LBn:List Go.Sx.Item:=xt 40 (f5.body.getD .skip)
noncomputable def LBn4:List Go.Sx.Item:=LBn.drop 4
noncomputable def zi2:List Go.Sx.Item:=LBn.drop 21
noncomputable def zbd:List Go.Sx.Item:=LBn.drop 25
noncomputable def zig:List Go.Sx.Item:=LBn.drop 22
def SBn4:KV:=[(0,.bool false),(1,.ptr 1 0),(2,.ptr 3 0),(3,.osl 4 1 0 1)]
def HBn4:Heap:=[.arr 2 4 (opG sqO),.box [.i 1,.osl 0 4 0 2],.arr 3 4 (opG paO),.box [.i 1,.osl 2 4 0 3],.arr 1 1 (ratG thR)]
def zie:KV:=[(0,.bool false),(34,.bool true),(35,.bool true)]
def zio:KV:=[(0,.bool false),(34,.bool true),(35,.bool true),(36,.bool true)]
theorem one4(a b c:Int)(r:L8):eqA (.sl 1 4 (zf (zd 4 [.int .u8 a,.i b,.i c,.str r]) 0)) (opS [⟨a,b,c,r⟩]):=⟨rfl,rfl,λj o hj ho=>by
 obtain rfl:j=0:=by omega
 rcases(show o=0\/o=1\/o=2\/o=3 by omega) with rfl | rfl | rfl | rfl<;>rfl⟩
theorem W7{n:Int}{o:TOp}(h:o.rat.length<2^60):zi ⟨n,[o]⟩:=⟨by show 1<_; decide,λj hj=>by
 have hj:j<1:=hj;obtain rfl:j=0:=by omega
 exact h⟩
theorem aB1:eqA (.agg [.i 1,.sl 1 4 (zf (zd 4 [.int .u8 1,.i 1,.i 0,.str []]) 0)]) b1T.av:=⟨⟨rfl,rfl⟩,one4 _ _ _ _,trivial⟩
theorem aB2:eqA (.agg [.i 0,.sl 1 4 (zf (zd 4 [.int .u8 3,.i 0,.i 0,.str []]) 0)]) b2T.av:=⟨⟨rfl,rfl⟩,one4 _ _ _ _,trivial⟩
theorem aB3:eqA (.agg [.i 0,.sl 1 4 (zf (zd 4 [.int .u8 2,.i 0,.i 1,.str [49]]) 0)]) b3T.av:=⟨⟨rfl,rfl⟩,one4 _ _ _ _,trivial⟩
theorem aB4:eqA (.agg [.i 0,.sl 1 4 (zf (zd 4 [.int .u8 2,.i 0,.i 0,.str []]) 0)]) b4T.av:=⟨⟨rfl,rfl⟩,one4 _ _ _ _,trivial⟩
theorem aB1s:zi b1T:=W7 (by decide)
theorem aB2s:zi b2T:=W7 (by decide)
theorem aB3s:zi b3T:=W7 (by decide)
theorem aB4s:zi b4T:=W7 (by decide)
theorem zdb(j:Nat):zeT.ops.getD j TOp.nil=TOp.nil:=by
 show(List.replicate 501 TOp.nil).getD j TOp.nil=_;generalize 501=n;by_cases h:j<n
 ·simp [List.getD,h]
 ·simp [List.getD,h]
theorem aZe:eqA (.agg [.i 0,.sl 501 4 (zf (qb [.int .u8 0,.i 0,.i 0,.str []]) 0)]) zeT.av:=⟨⟨rfl,rfl⟩,⟨by show 501=(List.replicate 501 TOp.nil).length; rw [List.length_replicate],rfl,λj o hj ho=>by
 simp only [zf,Nat.zero_add,opG,zdb];rcases(show o=0\/o=1\/o=2\/o=3 by omega) with rfl | rfl | rfl | rfl<;>rfl⟩,trivial⟩
theorem aZes:zi zeT:=⟨by show(List.replicate 501 TOp.nil).length<_; rw [List.length_replicate]; decide,λj hj=>by rw [zdb]; show([]:L8).length<2^60; decide⟩
def Y1:KV:=[(0,.bool false),(34,.bool true),(35,.bool true),(36,.bool true),(37,.ptr 5 0),(38,.ptr 8 0),(39,.ptr 10 0)]
def zky:Heap:=HBn4++[.box [.int .u8 3,.str [],.str [120],.i 0,.nils],.arr 2 5 (zd 5 [.int .u8 3,.str [],.str [120],.i 0,.nils,.int .u8 2,.str [],.str [121],.i 2,.nils]),.box [.int .u8 3,.str [],.str [120],.i 0,.nils,.int .u8 4,.str [],.str [],.i 0,.osl 6 5 0 2],.box [.int .u8 7,.str [],.str [],.i 0,.osl 7 5 0 2],.arr 2 3 (fxG vF),.box [.osl 9 3 0 2,.nils]]
theorem waG:eqG 3 4 (zf (zd 4 [.int .u8 1,.i 0,.i 0,.str [],.int .u8 1,.i 1,.i 0,.str [],.int .u8 3,.i 0,.i 1,.str []]) 0) (opG Y6):=by
 intro j o hj ho;rcases(show j=0\/j=1\/j=2 by omega) with rfl | rfl | rfl<;>rcases(show o=0\/o=1\/o=2\/o=3 by omega) with rfl | rfl | rfl | rfl<;>rfl
theorem zl6:VI.ok ⟨maxX,1,vF,[]⟩:=⟨by decide,by decide,by decide,by decide,λj hj=>by
 have hj:j<2:=hj;rcases(show j=0\/j=1 by omega) with rfl | rfl<;>exact⟨by decide,by decide⟩,λj hj=>absurd hj (Nat.not_lt_zero _)⟩
def zj7:Heap:=HBn4++[.box [.int .u8 3,.str [],.str [120],.i 0,.nils],.dead,.dead,.box [.int .u8 7,.str [],.str [],.i 0,.sl 2 5 (zf (zd 5 [.int .u8 3,.str [],.str [120],.i 0,.nils,.int .u8 4,.str [],.str [],.i 0,.sl 2 5 (zf (zd 5 [.int .u8 3,.str [],.str [120],.i 0,.nils,.int .u8 2,.str [],.str [121],.i 2,.nils]) 0)]) 0)],.dead,.box [.sl 2 3 (zf (fxG vF) 0),.nils]]
def zew:Heap:=HBn4++[.box [.int .u8 3,.str [],.str [120],.i 0,.nils],.dead,.dead,.box [.int .u8 7,.str [],.str [],.i 0,.sl 2 5 (Ex.exG maxX.sub)],.dead,.box [.sl 2 3 (zf (fxG vF) 0),.nils]]
theorem zl4:LeA (.sl 2 5 (zf (zd 5 [.int .u8 3,.str [],.str [120],.i 0,.nils,.int .u8 4,.str [],.str [],.i 0,.sl 2 5 (zf (zd 5 [.int .u8 3,.str [],.str [120],.i 0,.nils,.int .u8 2,.str [],.str [121],.i 2,.nils]) 0)]) 0)) (.sl 2 5 (Ex.exG maxX.sub)):=by
 have hin:LeA (.sl 2 5 (zf (zd 5 [.int .u8 3,.str [],.str [120],.i 0,.nils,.int .u8 2,.str [],.str [121],.i 2,.nils]) 0)) (.sl 2 5 (Ex.mk 4 [] [] 0 [nowX,.mk 2 [] [121] 2 []]).deep):=LeA.sl rfl λj o hj ho=>by
  rw [Ex.qY (Ex.mk 4 [] [] 0 [nowX,.mk 2 [] [121] 2 []]) j o hj ho];rcases(show j=0\/j=1 by omega) with rfl | rfl<;>rcases(show o=0\/o=1\/o=2\/o=3\/o=4 by omega) with rfl | rfl | rfl | rfl | rfl<;>first | exact LeA.refl _ | exact LeA.nils
 refine LeA.sl rfl λj o hj ho=> ?_
 rcases(show j=0\/j=1 by omega) with rfl | rfl<;>rcases(show o=0\/o=1\/o=2\/o=3\/o=4 by omega) with rfl | rfl | rfl | rfl | rfl<;>first | exact LeA.refl _ | exact LeA.nils | exact hin
theorem vfG:eqG 2 3 (zd 3 [.str [120],.i 1,.str [53],.str [121],.i 2,.str [49,47,50]]) (fxG vF):=by
 intro j o hj ho;rcases(show j=0\/j=1 by omega) with rfl | rfl<;>rcases(show o=0\/o=1\/o=2 by omega) with rfl | rfl | rfl<;>rfl
theorem sqG:eqG 2 4 (zd 4 [.int .u8 1,.i 0,.i 0,.str [],.int .u8 5,.i 0,.i 0,.str []]) (opG sqO):=by
 intro j o hj ho;rcases(show j=0\/j=1 by omega) with rfl | rfl<;>rcases(show o=0\/o=1\/o=2\/o=3 by omega) with rfl | rfl | rfl | rfl<;>rfl
theorem paG:eqG 3 4 (zd 4 [.int .u8 2,.i 0,.i 0,.str [49],.int .u8 1,.i 0,.i 0,.str [],.int .u8 6,.i 0,.i 1,.str []]) (opG paO):=by
 intro j o hj ho;rcases(show j=0\/j=1\/j=2 by omega) with rfl | rfl | rfl<;>rcases(show o=0\/o=1\/o=2\/o=3 by omega) with rfl | rfl | rfl | rfl<;>rfl
theorem oneG(s:L8):eqG 1 1 (zd 1 [.str s]) (ratG [s]):=by
 intro j o hj ho;obtain rfl:j=0:=by omega
 obtain rfl:o=0:=by omega
 rfl
theorem aSq:eqA (.agg [.i 1,.sl 2 4 (zf (opG sqO) 0)]) sqT.av:=⟨⟨rfl,rfl⟩,⟨rfl,rfl,λj o _ _=>by simp only [zf,Nat.zero_add]; rfl⟩,trivial⟩
theorem aPa:eqA (.agg [.i 1,.sl 3 4 (zf (opG paO) 0)]) paT.av:=⟨⟨rfl,rfl⟩,⟨rfl,rfl,λj o _ _=>by simp only [zf,Nat.zero_add]; rfl⟩,trivial⟩
theorem aTh:eqA (.sl 1 1 (zf (ratG thR) 0)) (ratS thR):=⟨rfl,rfl,λj o _ _=>by simp only [zf,Nat.zero_add]⟩
theorem aOne(s:L8):eqA (.sl 1 1 (zf (zd 1 [.str s]) 0)) (ratS [s]):=⟨rfl,rfl,λj o hj ho=>by
 simp only [zf,Nat.zero_add];exact oneG s j o hj ho⟩
theorem sSq:zi sqT:=⟨by decide,λj hj=>by
 have hj:j<2:=hj;rcases(show j=0\/j=1 by omega) with rfl | rfl<;>(show([]:L8).length<2^60; decide)⟩
theorem sPa:zi paT:=⟨by decide,λj hj=>by
 have hj:j<3:=hj;rcases(show j=0\/j=1\/j=2 by omega) with rfl | rfl | rfl
 ·show([49]:L8).length<2^60; decide
 all_goals (show([]:L8).length<2^60; decide)⟩
theorem sOne{s:L8}(h:s.length<2^60):zC [s]:=⟨by show 1<_; decide,λj hj=>by
 have hj:j<1:=hj;obtain rfl:j=0:=by omega
 exact h⟩
theorem sTh:zC thR:=sOne (by decide)
theorem zb0:zc prog 5 zj2:=by
 refine zh' f5 λp hp O w0 Q hq=> ?_
 replace hq:=hq true rfl;refine zb.spine 40 ?_;refine zb.cutL (ι:=Unit) LBn 4 0 (λ_=>SBn4) (λ_=>HBn4) (by kernel_rfl) (by kernel_rfl) ?_ λ_=> ?_
 ·refine zb.n GBn.h [0,1,2,3] (.leaf (.back 0 [(0,.bool false),(1,.ptr 1 0),(2,.ptr 3 0),(3,.osl 4 1 0 1)] [.arr 2 4 (zd 4 [.int .u8 1,.i 0,.i 0,.str #[].toList,.int .u8 5,.i 0,.i 0,.str #[].toList]),.box [.i 1,.osl 0 4 0 2],.arr 3 4 (zd 4 [.int .u8 2,.i 0,.i 0,.str #[(49:UInt8)].toList,.int .u8 1,.i 0,.i 0,.str #[].toList,.int .u8 6,.i 0,.i 1,.str #[].toList]),.box [.i 1,.osl 2 4 0 3],.arr 1 1 (zd 1 [.str #[(51:UInt8)].toList])])) ?_;simp only [Tree.holds,ze,inR,lo,hi,aD];rw [aP trivial];exact⟨(),by simp [SBn4],⟨⟨rfl,rfl,sqG⟩,z5 _,⟨rfl,rfl,paG⟩,z5 _,⟨rfl,rfl,oneG _⟩,trivial⟩,by kernel_rfl,aI _⟩
 show jP none prog f5 O 0 w0 [] _ _ LBn4 _;refine zb.cutL (ι:=Unit) LBn4 17 0 (λ_=>zie) (λ_=>HBn4) (by kernel_rfl) (by kernel_rfl) ?_ λ_=> ?_
 ·refine zb.n GBn.h [0,34,35] (let v3:=zf (ratG thR) 0;let v2:=[AV.i 1,AV.sl 3 4 (zf (opG paO) 0)];let v1:=[AV.i 1,AV.sl 2 4 (zf (opG sqO) 0)];let v4:=q47 [.agg v1,.sl 1 1 v3,.i 0,.str #[(49:UInt8),(47:UInt8),(50:UInt8)].toList];.ex v4 λn=>.all (λ(r:L8×Int)=>r=zF n.1 n.2.1 n.2.2.1 n.2.2.2) λn=>.ex v4 λn_1=>.all (λ(r:L8×Int)=>r=cenT n_1.1 n_1.2.1 n_1.2.2.1 n_1.2.2.2) λn_2=>.ex (q48 [.agg v1,.sl 1 1 v3,.i 0,.i 0,.str #[(49:UInt8),(47:UInt8),(50:UInt8)].toList]) λn_3=>.all (λ(r:L8×Int)=>r=croT n_3.1 n_3.2.1 n_3.2.2.1 n_3.2.2.2.1 n_3.2.2.2.2) λn_4=>.ex (q49 [.agg v1,.i 0]) λn_5=>.all (λ(r:Int×Int)=>r=degT n_5.1 n_5.2) λn_6=>.ex (q49 [.agg v2,.i 0]) λn_7=>.all (λ(r:Int×Int)=>r=degT n_7.1 n_7.2) λn_8=>.ex (q47 [.agg v2,.sl 1 1 v3,.i 0,.str #[(51:UInt8)].toList]) λn_9=>.all (λ(r:L8×Int)=>r=zF n_9.1 n_9.2.1 n_9.2.2.1 n_9.2.2.2) λn_10=>.ex (q47 [.agg v2,.sl 1 1 v3,.i 0,.str #[(45:UInt8),(51:UInt8)].toList]) λn_11=>.all (λ(r:L8×Int)=>r=zF n_11.1 n_11.2.1 n_11.2.2.1 n_11.2.2.2) λn_12=>.ex (q31 [.agg v2,.sl 1 1 (zf (zd 1 [.str #[(48:UInt8)].toList]) 0)]) λn_13=>.all (λ(r:L8×Int)=>r=z9 n_13.1 n_13.2) λn_14=>.ex (q47 [.agg v1,.sl 1 1 v3,.i 0,.str #[(48:UInt8)].toList]) λn_15=>.all (λ(r:L8×Int)=>r=zF n_15.1 n_15.2.1 n_15.2.2.1 n_15.2.2.2) λn_16=>.ex (q47 [.agg v1,.sl 1 1 v3,.i 1,.str #[(120:UInt8)].toList]) λn_17=>.all (λ(r:L8×Int)=>r=zF n_17.1 n_17.2.1 n_17.2.2.1 n_17.2.2.2) λn_18=>.ex (q47 [.agg v1,.sl 1 1 v3,.i 0,.str #[(50:UInt8),(47:UInt8),(52:UInt8)].toList]) λn_19=>.all (λ(r:L8×Int)=>r=zF n_19.1 n_19.2.1 n_19.2.2.1 n_19.2.2.2) λn_20=>.ex (q31 [.agg v1,AV.nils]) λn_21=>.all (λ(r:List L8×Int)=>r=trun n_21.1 n_21.2) λn_22=>.ex (q31 [.agg v1,.sl 1 1 (zf (zd 1 [.str #[(120:UInt8)].toList]) 0)]) λn_23=>.all (λ(r:List L8×Int)=>r=trun n_23.1 n_23.2) λn_24=>.ex (q31 [.agg [.i 0,AV.nils],.sl 1 1 v3]) λn_25=>.all (λ(r:List L8×Int)=>r=trun n_25.1 n_25.2) λn_26=>.ex (q49 [.agg v1,.i (-1:Int)]) λn_27=>.all (λ(r:Int×Int)=>r=degT n_27.1 n_27.2) λn_28=>.leaf (.back 0 [(0,.bool false),(34,.bool (bif bif bif bif bif bif bif bif decide (n.2=0) then decide (n.1=#[(49:UInt8),(51:UInt8),(47:UInt8),(50:UInt8)].toList) else false then bif decide (n_2.2=0) then decide (n_2.1=#[(54:UInt8)].toList) else false else false then bif decide (n_4.2=0) then decide (n_4.1=#[(50:UInt8)].toList) else false else false then decide (n_6.1=2) else false then decide (n_6.2=0) else false then decide (n_8.1=(-1:Int)) else false then decide (n_8.2=0) else false then bif decide (n_10.2=0) then decide (n_10.1=#[(45:UInt8),(49:UInt8),(47:UInt8),(49:UInt8),(56:UInt8)].toList) else false else false)),(35,.bool (bif bif bif bif bif bif bif bif decide (n_12.2=16) then decide (n_14.2=16) else false then decide (n_16.2=16) else false then decide (n_18.2=2) else false then decide (n_20.2=12) else false then decide (n_22.2=2) else false then decide (n_24.2=12) else false then decide (n_26.2=8) else false then decide (n_28.2=2) else false))] [.arr 2 4 (opG sqO),.box [.i 1,.osl 0 4 0 2],.arr 3 4 (opG paO),.box [.i 1,.osl 2 4 0 3],.arr 1 1 (ratG thR),.arr 1 1 (zd 1 [.str #[(48:UInt8)].toList]),.arr 1 1 (zd 1 [.str #[(120:UInt8)].toList])])) ?_;simp only [q31,q47,q48,q49,Tree.holds,ze,inR,lo,hi,aD];refine⟨(sqT,thR,0,[49,47,50]),⟨⟨aSq,aTh,⟨rfl,rfl⟩,rfl,trivial⟩,sSq,sTh,by decide⟩,⟨_,rfl⟩,?_⟩;intro r1 g1;obtain rfl:=g1.trans bn1;refine⟨(sqT,thR,0,[49,47,50]),⟨⟨aSq,aTh,⟨rfl,rfl⟩,rfl,trivial⟩,sSq,sTh,by decide⟩,⟨_,rfl⟩,?_⟩;intro r2 g2;obtain rfl:=g2.trans bn2;refine⟨(sqT,thR,0,0,[49,47,50]),⟨⟨aSq,aTh,⟨rfl,rfl⟩,⟨rfl,rfl⟩,rfl,trivial⟩,sSq,sTh,by decide⟩,⟨_,rfl⟩,?_⟩;intro r3 g3;obtain rfl:=g3.trans bn3;refine⟨(sqT,0),⟨⟨aSq,⟨rfl,rfl⟩,trivial⟩,sSq⟩,⟨_,rfl⟩,?_⟩;intro r4 g4;obtain rfl:=g4.trans bn4;refine⟨(paT,0),⟨⟨aPa,⟨rfl,rfl⟩,trivial⟩,sPa⟩,⟨_,rfl⟩,?_⟩;intro r5 g5;obtain rfl:=g5.trans bn5;refine⟨(paT,thR,0,[51]),⟨⟨aPa,aTh,⟨rfl,rfl⟩,rfl,trivial⟩,sPa,sTh,by decide⟩,⟨_,rfl⟩,?_⟩;intro r6 g6;obtain rfl:=g6.trans bn6;refine⟨(paT,thR,0,[45,51]),⟨⟨aPa,aTh,⟨rfl,rfl⟩,rfl,trivial⟩,sPa,sTh,by decide⟩,⟨_,rfl⟩,?_⟩;intro r7 g7;replace g7:r7.2=_:=(congrArg Prod.snd g7).trans bn7;refine⟨(paT,[[48]]),⟨⟨aPa,aOne _,trivial⟩,sPa,sOne (by decide)⟩,⟨_,rfl⟩,?_⟩;intro r8 g8;replace g8:r8.2=_:=(congrArg Prod.snd g8).trans bn8;refine⟨(sqT,thR,0,[48]),⟨⟨aSq,aTh,⟨rfl,rfl⟩,rfl,trivial⟩,sSq,sTh,by decide⟩,⟨_,rfl⟩,?_⟩;intro r9 g9;replace g9:r9.2=_:=(congrArg Prod.snd g9).trans bn9;refine⟨(sqT,thR,1,[120]),⟨⟨aSq,aTh,⟨rfl,rfl⟩,rfl,trivial⟩,sSq,sTh,by decide⟩,⟨_,rfl⟩,?_⟩;intro r10 g10;replace g10:r10.2=_:=(congrArg Prod.snd g10).trans bn10;refine⟨(sqT,thR,0,[50,47,52]),⟨⟨aSq,aTh,⟨rfl,rfl⟩,rfl,trivial⟩,sSq,sTh,by decide⟩,⟨_,rfl⟩,?_⟩;intro r11 g11;replace g11:r11.2=_:=(congrArg Prod.snd g11).trans bn11;refine⟨(sqT,[]),⟨⟨aSq,by simp [ratS],trivial⟩,sSq,⟨by decide,λj hj=>absurd hj (Nat.not_lt_zero _)⟩⟩,⟨_,rfl⟩,?_⟩;intro r12 g12;replace g12:r12.2=_:=(congrArg Prod.snd g12).trans bn12;refine⟨(sqT,[[120]]),⟨⟨aSq,aOne _,trivial⟩,sSq,sOne (by decide)⟩,⟨_,rfl⟩,?_⟩;intro r13 g13;replace g13:r13.2=_:=(congrArg Prod.snd g13).trans bn13;refine⟨(⟨0,[]⟩,thR),⟨⟨by simp [Tp.av,opS],aTh,trivial⟩,⟨by decide,λj hj=>absurd hj (Nat.not_lt_zero _)⟩,sTh⟩,⟨_,rfl⟩,?_⟩;intro r14 g14;replace g14:r14.2=_:=(congrArg Prod.snd g14).trans bn14;refine⟨(sqT,(-1)),⟨⟨aSq,⟨rfl,rfl⟩,trivial⟩,sSq⟩,⟨_,rfl⟩,?_⟩;intro r15 g15;replace g15:r15.2=_:=(congrArg Prod.snd g15).trans bn15;rw [aP trivial];exact⟨(),by simp [zie,g7,g8,g9,g10,g11,g12,g13,g14,g15],⟨z5 _,z5 _,z5 _,z5 _,z5 _,trivial⟩,by kernel_rfl,aI _⟩
 show jP none prog f5 O 0 w0 [] _ _ zi2 _;refine zb.cutL (ι:=Unit) zi2 1 0 (λ_=>zio) (λ_=>HBn4) (by kernel_rfl) (by kernel_rfl) ?_ λ_=> ?_
 ·refine zb.n GBn.h [0,34,35,36] (let v11:=[AV.agg [.i 0,.sl 1 4 (zf (zd 4 [.int .u8 3,.i 0,.i 0,.str #[].toList]) 0)]];let v10:List AV:=[.i 1,.osl 2 4 0 3];let v9:List AV:=[.i 1,.osl 0 4 0 2];let v8:=[AV.agg [.i 0,.sl 1 4 (zf (zd 4 [.int .u8 2,.i 0,.i 1,.str #[(49:UInt8)].toList]) 0)]];let v7:=[AV.agg [.i 0,AV.nils]];let v6:=zd 4 [.int .u8 2,.i 0,.i 0,.str #[].toList];let v5:=zd 4 [.int .u8 3,.i 0,.i 0,.str #[].toList];let v4:=zd 4 [.int .u8 1,.i 1,.i 0,.str #[].toList];let v3:=zd 4 [.int .u8 2,.i 0,.i 1,.str #[(49:UInt8)].toList];let v2:=[AV.agg [.i 0,.sl 1 4 (zf (zd 4 [.int .u8 2,.i 0,.i 0,.str #[].toList]) 0)]];let v1:=qb [.int .u8 0,.i 0,.i 0,.str #[].toList];.side ((0:Int)<=501/\(501:Int)<=501/\inR .i64 501/\20040<=140737488355328) (.ex (q29 [.agg [.i 0,.sl 501 4 (zf (qb [.int .u8 0,.i 0,.i 0,.str #[].toList]) 0)]]) λn=>.all (λ(r:Int)=>r=zg n) λn=>.ite (decide (n=4) == true) (.ex (λ(x:Tp)=>decide (n=4)=true->q29 [.agg [.i 1,.sl 1 4 (zf (zd 4 [.int .u8 1,.i 1,.i 0,.str #[].toList]) 0)]] x) λn_1=>.all (λ(x:Int)=>decide (n=4)=true->x=zg n_1) λn_2=>.ite ((bif decide (n=4) then decide (n_2=8) else false) == true) (.ex (λ(x:Tp)=>(bif decide (n=4) then decide (n_2=8) else false)=true->q29 v11 x) λn_3=>.all (λ(x:Int)=>(bif decide (n=4) then decide (n_2=8) else false)=true->x=zg n_3) λn_4=>.ite ((bif bif decide (n=4) then decide (n_2=8) else false then decide (n_4=8) else false) == true) (.ex (λ(x:Tp)=>(bif bif decide (n=4) then decide (n_2=8) else false then decide (n_4=8) else false)=true->q29 v8 x) λn_5=>.all (λ(x:Int)=>(bif bif decide (n=4) then decide (n_2=8) else false then decide (n_4=8) else false)=true->x=zg n_5) λn_6=>.ite ((bif bif bif decide (n=4) then decide (n_2=8) else false then decide (n_4=8) else false then decide (n_6=8) else false) == true) (.ex (λ(x:Tp)=>(bif bif bif decide (n=4) then decide (n_2=8) else false then decide (n_4=8) else false then decide (n_6=8) else false)=true->q29 v2 x) λn_7=>.all (λ(x:Int)=>(bif bif bif decide (n=4) then decide (n_2=8) else false then decide (n_4=8) else false then decide (n_6=8) else false)=true->x=zg n_7) λn_8=>.leaf (.back 0 [(0,.bool false),(34,.bool true),(35,.bool true),(36,.bool (bif bif bif bif decide (n=4) then decide (n_2=8) else false then decide (n_4=8) else false then decide (n_6=8) else false then decide (n_8=8) else false))] [.arr 2 4 (opG sqO),.box v9,.arr 3 4 (opG paO),.box v10,.arr 1 1 (ratG thR),.arr 501 4 v1,.arr 1 4 v4,.arr 1 4 v5,.arr 1 4 v3,.arr 1 4 v6])) (.ex (λ(x:Tp)=>(bif bif bif decide (n=4) then decide (n_2=8) else false then decide (n_4=8) else false then decide (n_6=8) else false)=true->q29 v7 x) λn_7=>.all (λ(x:Int)=>(bif bif bif decide (n=4) then decide (n_2=8) else false then decide (n_4=8) else false then decide (n_6=8) else false)=true->x=zg n_7) λn_8=>.leaf (.back 0 [(0,.bool false),(34,.bool true),(35,.bool true),(36,.bool (bif bif bif bif decide (n=4) then decide (n_2=8) else false then decide (n_4=8) else false then decide (n_6=8) else false then decide (n_8=8) else false))] [.arr 2 4 (opG sqO),.box v9,.arr 3 4 (opG paO),.box v10,.arr 1 1 (ratG thR),.arr 501 4 v1,.arr 1 4 v4,.arr 1 4 v5,.arr 1 4 v3]))) (.ex (λ(x:Tp)=>(bif bif decide (n=4) then decide (n_2=8) else false then decide (n_4=8) else false)=true->q29 v7 x) λn_5=>.all (λ(x:Int)=>(bif bif decide (n=4) then decide (n_2=8) else false then decide (n_4=8) else false)=true->x=zg n_5) λn_6=>.ite ((bif bif bif decide (n=4) then decide (n_2=8) else false then decide (n_4=8) else false then decide (n_6=8) else false) == true) (.ex (λ(x:Tp)=>(bif bif bif decide (n=4) then decide (n_2=8) else false then decide (n_4=8) else false then decide (n_6=8) else false)=true->q29 v2 x) λn_7=>.all (λ(x:Int)=>(bif bif bif decide (n=4) then decide (n_2=8) else false then decide (n_4=8) else false then decide (n_6=8) else false)=true->x=zg n_7) λn_8=>.leaf (.back 0 [(0,.bool false),(34,.bool true),(35,.bool true),(36,.bool (bif bif bif bif decide (n=4) then decide (n_2=8) else false then decide (n_4=8) else false then decide (n_6=8) else false then decide (n_8=8) else false))] [.arr 2 4 (opG sqO),.box v9,.arr 3 4 (opG paO),.box v10,.arr 1 1 (ratG thR),.arr 501 4 v1,.arr 1 4 v4,.arr 1 4 v5,.arr 1 4 v6])) (.ex (λ(x:Tp)=>(bif bif bif decide (n=4) then decide (n_2=8) else false then decide (n_4=8) else false then decide (n_6=8) else false)=true->q29 v7 x) λn_7=>.all (λ(x:Int)=>(bif bif bif decide (n=4) then decide (n_2=8) else false then decide (n_4=8) else false then decide (n_6=8) else false)=true->x=zg n_7) λn_8=>.leaf (.back 0 [(0,.bool false),(34,.bool true),(35,.bool true),(36,.bool (bif bif bif bif decide (n=4) then decide (n_2=8) else false then decide (n_4=8) else false then decide (n_6=8) else false then decide (n_8=8) else false))] [.arr 2 4 (opG sqO),.box v9,.arr 3 4 (opG paO),.box v10,.arr 1 1 (ratG thR),.arr 501 4 v1,.arr 1 4 v4,.arr 1 4 v5])))) (.ex (λ(x:Tp)=>(bif decide (n=4) then decide (n_2=8) else false)=true->q29 v7 x) λn_3=>.all (λ(x:Int)=>(bif decide (n=4) then decide (n_2=8) else false)=true->x=zg n_3) λn_4=>.ite ((bif bif decide (n=4) then decide (n_2=8) else false then decide (n_4=8) else false) == true) (.ex (λ(x:Tp)=>(bif bif decide (n=4) then decide (n_2=8) else false then decide (n_4=8) else false)=true->q29 v8 x) λn_5=>.all (λ(x:Int)=>(bif bif decide (n=4) then decide (n_2=8) else false then decide (n_4=8) else false)=true->x=zg n_5) λn_6=>.ite ((bif bif bif decide (n=4) then decide (n_2=8) else false then decide (n_4=8) else false then decide (n_6=8) else false) == true) (.ex (λ(x:Tp)=>(bif bif bif decide (n=4) then decide (n_2=8) else false then decide (n_4=8) else false then decide (n_6=8) else false)=true->q29 v2 x) λn_7=>.all (λ(x:Int)=>(bif bif bif decide (n=4) then decide (n_2=8) else false then decide (n_4=8) else false then decide (n_6=8) else false)=true->x=zg n_7) λn_8=>.leaf (.back 0 [(0,.bool false),(34,.bool true),(35,.bool true),(36,.bool (bif bif bif bif decide (n=4) then decide (n_2=8) else false then decide (n_4=8) else false then decide (n_6=8) else false then decide (n_8=8) else false))] [.arr 2 4 (opG sqO),.box v9,.arr 3 4 (opG paO),.box v10,.arr 1 1 (ratG thR),.arr 501 4 v1,.arr 1 4 v4,.arr 1 4 v3,.arr 1 4 v6])) (.ex (λ(x:Tp)=>(bif bif bif decide (n=4) then decide (n_2=8) else false then decide (n_4=8) else false then decide (n_6=8) else false)=true->q29 v7 x) λn_7=>.all (λ(x:Int)=>(bif bif bif decide (n=4) then decide (n_2=8) else false then decide (n_4=8) else false then decide (n_6=8) else false)=true->x=zg n_7) λn_8=>.leaf (.back 0 [(0,.bool false),(34,.bool true),(35,.bool true),(36,.bool (bif bif bif bif decide (n=4) then decide (n_2=8) else false then decide (n_4=8) else false then decide (n_6=8) else false then decide (n_8=8) else false))] [.arr 2 4 (opG sqO),.box v9,.arr 3 4 (opG paO),.box v10,.arr 1 1 (ratG thR),.arr 501 4 v1,.arr 1 4 v4,.arr 1 4 v3]))) (.ex (λ(x:Tp)=>(bif bif decide (n=4) then decide (n_2=8) else false then decide (n_4=8) else false)=true->q29 v7 x) λn_5=>.all (λ(x:Int)=>(bif bif decide (n=4) then decide (n_2=8) else false then decide (n_4=8) else false)=true->x=zg n_5) λn_6=>.ite ((bif bif bif decide (n=4) then decide (n_2=8) else false then decide (n_4=8) else false then decide (n_6=8) else false) == true) (.ex (λ(x:Tp)=>(bif bif bif decide (n=4) then decide (n_2=8) else false then decide (n_4=8) else false then decide (n_6=8) else false)=true->q29 v2 x) λn_7=>.all (λ(x:Int)=>(bif bif bif decide (n=4) then decide (n_2=8) else false then decide (n_4=8) else false then decide (n_6=8) else false)=true->x=zg n_7) λn_8=>.leaf (.back 0 [(0,.bool false),(34,.bool true),(35,.bool true),(36,.bool (bif bif bif bif decide (n=4) then decide (n_2=8) else false then decide (n_4=8) else false then decide (n_6=8) else false then decide (n_8=8) else false))] [.arr 2 4 (opG sqO),.box v9,.arr 3 4 (opG paO),.box v10,.arr 1 1 (ratG thR),.arr 501 4 v1,.arr 1 4 v4,.arr 1 4 v6])) (.ex (λ(x:Tp)=>(bif bif bif decide (n=4) then decide (n_2=8) else false then decide (n_4=8) else false then decide (n_6=8) else false)=true->q29 v7 x) λn_7=>.all (λ(x:Int)=>(bif bif bif decide (n=4) then decide (n_2=8) else false then decide (n_4=8) else false then decide (n_6=8) else false)=true->x=zg n_7) λn_8=>.leaf (.back 0 [(0,.bool false),(34,.bool true),(35,.bool true),(36,.bool (bif bif bif bif decide (n=4) then decide (n_2=8) else false then decide (n_4=8) else false then decide (n_6=8) else false then decide (n_8=8) else false))] [.arr 2 4 (opG sqO),.box v9,.arr 3 4 (opG paO),.box v10,.arr 1 1 (ratG thR),.arr 501 4 v1,.arr 1 4 v4]))))) (.ex (λ(x:Tp)=>decide (n=4)=true->q29 [.agg [.i 1,AV.nils]] x) λn_1=>.all (λ(x:Int)=>decide (n=4)=true->x=zg n_1) λn_2=>.ite ((bif decide (n=4) then decide (n_2=8) else false) == true) (.ex (λ(x:Tp)=>(bif decide (n=4) then decide (n_2=8) else false)=true->q29 v11 x) λn_3=>.all (λ(x:Int)=>(bif decide (n=4) then decide (n_2=8) else false)=true->x=zg n_3) λn_4=>.ite ((bif bif decide (n=4) then decide (n_2=8) else false then decide (n_4=8) else false) == true) (.ex (λ(x:Tp)=>(bif bif decide (n=4) then decide (n_2=8) else false then decide (n_4=8) else false)=true->q29 v8 x) λn_5=>.all (λ(x:Int)=>(bif bif decide (n=4) then decide (n_2=8) else false then decide (n_4=8) else false)=true->x=zg n_5) λn_6=>.ite ((bif bif bif decide (n=4) then decide (n_2=8) else false then decide (n_4=8) else false then decide (n_6=8) else false) == true) (.ex (λ(x:Tp)=>(bif bif bif decide (n=4) then decide (n_2=8) else false then decide (n_4=8) else false then decide (n_6=8) else false)=true->q29 v2 x) λn_7=>.all (λ(x:Int)=>(bif bif bif decide (n=4) then decide (n_2=8) else false then decide (n_4=8) else false then decide (n_6=8) else false)=true->x=zg n_7) λn_8=>.leaf (.back 0 [(0,.bool false),(34,.bool true),(35,.bool true),(36,.bool (bif bif bif bif decide (n=4) then decide (n_2=8) else false then decide (n_4=8) else false then decide (n_6=8) else false then decide (n_8=8) else false))] [.arr 2 4 (opG sqO),.box v9,.arr 3 4 (opG paO),.box v10,.arr 1 1 (ratG thR),.arr 501 4 v1,.arr 1 4 v5,.arr 1 4 v3,.arr 1 4 v6])) (.ex (λ(x:Tp)=>(bif bif bif decide (n=4) then decide (n_2=8) else false then decide (n_4=8) else false then decide (n_6=8) else false)=true->q29 v7 x) λn_7=>.all (λ(x:Int)=>(bif bif bif decide (n=4) then decide (n_2=8) else false then decide (n_4=8) else false then decide (n_6=8) else false)=true->x=zg n_7) λn_8=>.leaf (.back 0 [(0,.bool false),(34,.bool true),(35,.bool true),(36,.bool (bif bif bif bif decide (n=4) then decide (n_2=8) else false then decide (n_4=8) else false then decide (n_6=8) else false then decide (n_8=8) else false))] [.arr 2 4 (opG sqO),.box v9,.arr 3 4 (opG paO),.box v10,.arr 1 1 (ratG thR),.arr 501 4 v1,.arr 1 4 v5,.arr 1 4 v3]))) (.ex (λ(x:Tp)=>(bif bif decide (n=4) then decide (n_2=8) else false then decide (n_4=8) else false)=true->q29 v7 x) λn_5=>.all (λ(x:Int)=>(bif bif decide (n=4) then decide (n_2=8) else false then decide (n_4=8) else false)=true->x=zg n_5) λn_6=>.ite ((bif bif bif decide (n=4) then decide (n_2=8) else false then decide (n_4=8) else false then decide (n_6=8) else false) == true) (.ex (λ(x:Tp)=>(bif bif bif decide (n=4) then decide (n_2=8) else false then decide (n_4=8) else false then decide (n_6=8) else false)=true->q29 v2 x) λn_7=>.all (λ(x:Int)=>(bif bif bif decide (n=4) then decide (n_2=8) else false then decide (n_4=8) else false then decide (n_6=8) else false)=true->x=zg n_7) λn_8=>.leaf (.back 0 [(0,.bool false),(34,.bool true),(35,.bool true),(36,.bool (bif bif bif bif decide (n=4) then decide (n_2=8) else false then decide (n_4=8) else false then decide (n_6=8) else false then decide (n_8=8) else false))] [.arr 2 4 (opG sqO),.box v9,.arr 3 4 (opG paO),.box v10,.arr 1 1 (ratG thR),.arr 501 4 v1,.arr 1 4 v5,.arr 1 4 v6])) (.ex (λ(x:Tp)=>(bif bif bif decide (n=4) then decide (n_2=8) else false then decide (n_4=8) else false then decide (n_6=8) else false)=true->q29 v7 x) λn_7=>.all (λ(x:Int)=>(bif bif bif decide (n=4) then decide (n_2=8) else false then decide (n_4=8) else false then decide (n_6=8) else false)=true->x=zg n_7) λn_8=>.leaf (.back 0 [(0,.bool false),(34,.bool true),(35,.bool true),(36,.bool (bif bif bif bif decide (n=4) then decide (n_2=8) else false then decide (n_4=8) else false then decide (n_6=8) else false then decide (n_8=8) else false))] [.arr 2 4 (opG sqO),.box v9,.arr 3 4 (opG paO),.box v10,.arr 1 1 (ratG thR),.arr 501 4 v1,.arr 1 4 v5])))) (.ex (λ(x:Tp)=>(bif decide (n=4) then decide (n_2=8) else false)=true->q29 v7 x) λn_3=>.all (λ(x:Int)=>(bif decide (n=4) then decide (n_2=8) else false)=true->x=zg n_3) λn_4=>.ite ((bif bif decide (n=4) then decide (n_2=8) else false then decide (n_4=8) else false) == true) (.ex (λ(x:Tp)=>(bif bif decide (n=4) then decide (n_2=8) else false then decide (n_4=8) else false)=true->q29 v8 x) λn_5=>.all (λ(x:Int)=>(bif bif decide (n=4) then decide (n_2=8) else false then decide (n_4=8) else false)=true->x=zg n_5) λn_6=>.ite ((bif bif bif decide (n=4) then decide (n_2=8) else false then decide (n_4=8) else false then decide (n_6=8) else false) == true) (.ex (λ(x:Tp)=>(bif bif bif decide (n=4) then decide (n_2=8) else false then decide (n_4=8) else false then decide (n_6=8) else false)=true->q29 v2 x) λn_7=>.all (λ(x:Int)=>(bif bif bif decide (n=4) then decide (n_2=8) else false then decide (n_4=8) else false then decide (n_6=8) else false)=true->x=zg n_7) λn_8=>.leaf (.back 0 [(0,.bool false),(34,.bool true),(35,.bool true),(36,.bool (bif bif bif bif decide (n=4) then decide (n_2=8) else false then decide (n_4=8) else false then decide (n_6=8) else false then decide (n_8=8) else false))] [.arr 2 4 (opG sqO),.box v9,.arr 3 4 (opG paO),.box v10,.arr 1 1 (ratG thR),.arr 501 4 v1,.arr 1 4 v3,.arr 1 4 v6])) (.ex (λ(x:Tp)=>(bif bif bif decide (n=4) then decide (n_2=8) else false then decide (n_4=8) else false then decide (n_6=8) else false)=true->q29 v7 x) λn_7=>.all (λ(x:Int)=>(bif bif bif decide (n=4) then decide (n_2=8) else false then decide (n_4=8) else false then decide (n_6=8) else false)=true->x=zg n_7) λn_8=>.leaf (.back 0 [(0,.bool false),(34,.bool true),(35,.bool true),(36,.bool (bif bif bif bif decide (n=4) then decide (n_2=8) else false then decide (n_4=8) else false then decide (n_6=8) else false then decide (n_8=8) else false))] [.arr 2 4 (opG sqO),.box v9,.arr 3 4 (opG paO),.box v10,.arr 1 1 (ratG thR),.arr 501 4 v1,.arr 1 4 v3]))) (.ex (λ(x:Tp)=>(bif bif decide (n=4) then decide (n_2=8) else false then decide (n_4=8) else false)=true->q29 v7 x) λn_5=>.all (λ(x:Int)=>(bif bif decide (n=4) then decide (n_2=8) else false then decide (n_4=8) else false)=true->x=zg n_5) λn_6=>.ite ((bif bif bif decide (n=4) then decide (n_2=8) else false then decide (n_4=8) else false then decide (n_6=8) else false) == true) (.ex (λ(x:Tp)=>(bif bif bif decide (n=4) then decide (n_2=8) else false then decide (n_4=8) else false then decide (n_6=8) else false)=true->q29 v2 x) λn_7=>.all (λ(x:Int)=>(bif bif bif decide (n=4) then decide (n_2=8) else false then decide (n_4=8) else false then decide (n_6=8) else false)=true->x=zg n_7) λn_8=>.leaf (.back 0 [(0,.bool false),(34,.bool true),(35,.bool true),(36,.bool (bif bif bif bif decide (n=4) then decide (n_2=8) else false then decide (n_4=8) else false then decide (n_6=8) else false then decide (n_8=8) else false))] [.arr 2 4 (opG sqO),.box v9,.arr 3 4 (opG paO),.box v10,.arr 1 1 (ratG thR),.arr 501 4 v1,.arr 1 4 v6])) (.ex (λ(x:Tp)=>(bif bif bif decide (n=4) then decide (n_2=8) else false then decide (n_4=8) else false then decide (n_6=8) else false)=true->q29 v7 x) λn_7=>.all (λ(x:Int)=>(bif bif bif decide (n=4) then decide (n_2=8) else false then decide (n_4=8) else false then decide (n_6=8) else false)=true->x=zg n_7) λn_8=>.leaf (.back 0 [(0,.bool false),(34,.bool true),(35,.bool true),(36,.bool (bif bif bif bif decide (n=4) then decide (n_2=8) else false then decide (n_4=8) else false then decide (n_6=8) else false then decide (n_8=8) else false))] [.arr 2 4 (opG sqO),.box v9,.arr 3 4 (opG paO),.box v10,.arr 1 1 (ratG thR),.arr 501 4 v1]))))))) ?_;simp only [q29,Tree.holds,ze,inR,lo,hi,aD];refine⟨by decide,λ_=>⟨zeT,⟨⟨aZe,trivial⟩,aZes⟩,⟨_,rfl⟩,?_⟩⟩;intro r16 g16;obtain rfl:=g16.trans bn16;refine⟨λ_=> ?_,λg=>absurd g (by decide)⟩;refine⟨b1T,λ_=>⟨⟨aB1,trivial⟩,aB1s⟩,⟨_,λ_=>rfl⟩,?_⟩;intro r17 g17;obtain rfl:=(g17 (by decide)).trans bn17;refine⟨λ_=> ?_,λg=>absurd g (by decide)⟩;refine⟨b2T,λ_=>⟨⟨aB2,trivial⟩,aB2s⟩,⟨_,λ_=>rfl⟩,?_⟩;intro r18 g18;obtain rfl:=(g18 (by decide)).trans bn18;refine⟨λ_=> ?_,λg=>absurd g (by decide)⟩;refine⟨b3T,λ_=>⟨⟨aB3,trivial⟩,aB3s⟩,⟨_,λ_=>rfl⟩,?_⟩;intro r19 g19;obtain rfl:=(g19 (by decide)).trans bn19;refine⟨λ_=> ?_,λg=>absurd g (by decide)⟩;refine⟨b4T,λ_=>⟨⟨aB4,trivial⟩,aB4s⟩,⟨_,λ_=>rfl⟩,?_⟩;intro r20 g20;obtain rfl:=(g20 (by decide)).trans bn20;rw [aP trivial];exact⟨(),by simp [zio],⟨z5 _,z5 _,z5 _,z5 _,z5 _,trivial⟩,by kernel_rfl,aI _⟩
 show jP none prog f5 O 0 w0 [] _ _ zig _;refine zb.cutL (ι:=Unit) zig 3 0 (λ_=>Y1) (λ_=>zky) (by kernel_rfl) (by kernel_rfl) ?_ λ_=> ?_
 ·refine zb.n GBn.h [0,34,35,36,37,38,39] (.leaf (.back 0 [(0,.bool false),(34,.bool true),(35,.bool true),(36,.bool true),(37,.ptr 5 0),(38,.ptr 8 0),(39,.ptr 10 0)] [.arr 2 4 (opG sqO),.box [.i 1,.osl 0 4 0 2],.arr 3 4 (opG paO),.box [.i 1,.osl 2 4 0 3],.arr 1 1 (ratG thR),.box [.int .u8 3,.str #[].toList,.str #[(120:UInt8)].toList,.i 0,.nils],.arr 2 5 (zd 5 [.int .u8 3,.str #[].toList,.str #[(120:UInt8)].toList,.i 0,.nils,.int .u8 2,.str #[].toList,.str #[(121:UInt8)].toList,.i 2,.nils]),.box [.int .u8 3,.str #[].toList,.str #[(120:UInt8)].toList,.i 0,.nils,.int .u8 4,.str #[].toList,.str #[].toList,.i 0,.osl 6 5 0 2],.box [.int .u8 7,.str #[].toList,.str #[].toList,.i 0,.osl 7 5 0 2],.arr 2 3 (zd 3 [.str #[(120:UInt8)].toList,.i 1,.str #[(53:UInt8)].toList,.str #[(121:UInt8)].toList,.i 2,.str #[(49:UInt8),(47:UInt8),(50:UInt8)].toList]),.box [.osl 9 3 0 2,.nils]])) ?_;simp only [Tree.holds,ze,inR,lo,hi,aD];rw [aP trivial];exact⟨(),by simp [Y1],⟨z5 _,z5 _,z5 _,z5 _,z5 _,z5 _,z5 _,z5 _,z5 _,⟨rfl,rfl,vfG⟩,z5 _,trivial⟩,by kernel_rfl,aI _⟩
 show jP none prog f5 O 0 w0 [] _ _ zbd _;refine zb.Ys [6,7,9] (by simp) (by kernel_rfl) ?_;show jP none prog f5 O 0 w0 [] _ _ zbd (mk f5.ntmps Y1 zj7);refine zb.wkH (h':=zew) ⟨LeB.refl _,LeB.refl _,LeB.refl _,LeB.refl _,LeB.refl _,LeB.refl _,LeB.refl _,LeB.refl _,LeB.box ⟨LeA.refl _,LeA.refl _,LeA.refl _,LeA.refl _,zl4,trivial⟩,LeB.refl _,LeB.refl _,trivial⟩ ?_;show jP none prog f5 O 0 w0 [] _ _ zbd (mk f5.ntmps Y1 zew);refine zb.n GBn.h [0,34,35,36,39,40,41,42,43] (.ex (q45 [.agg [.int .u8 7,.str [],.str [],.i 0,.sl 2 5 (Ex.exG maxX.sub)],.i 1,.agg [.sl 2 3 (zf (fxG vF) 0),AV.nils]]) λn=>.all (λ(r:RS×Int)=>r=recV n.x n.day n.f n.c) λn=>let v1:=RS.ops n.1;.ex (λ(x:Unit)=>true=true->eqL [] []/\True) λn_1=>.all (λ(x:Bool)=>true=true->x=true) λn_2=>.ex (λ(x:Tp×Tp)=>(bif bif bif bif bif true then n_2 else false then true else false then true else false then true else false then decide (n.2=0) else false)=true->eqL [.agg [.i n.1.inp.length,.sl v1.length 4 (opG v1)],.agg [.i 2,.sl 3 4 (zf (zd 4 [.int .u8 1,.i 0,.i 0,.str #[].toList,.int .u8 1,.i 1,.i 0,.str #[].toList,.int .u8 3,.i 0,.i 1,.str #[].toList]) 0)]] [.agg [.i x.1.n,.sl x.1.ops.length 4 (opG x.1.ops)],.agg [.i x.2.n,.sl x.2.ops.length 4 (opG x.2.ops)]]/\x.1.ops.length<1152921504606846976) λn_3=>.all (λ(x:Bool)=>(bif bif bif bif bif true then n_2 else false then true else false then true else false then true else false then decide (n.2=0) else false)=true->(x=true↔n_3.1=n_3.2)) λn_4=>.ex (λ(x:List Fx×List Fx)=>(bif bif bif bif bif bif true then n_2 else false then true else false then true else false then true else false then decide (n.2=0) else false then n_4 else false)=true->eqL [.sl n.1.inp.length 3 (fxG n.1.inp),.sl 2 3 (zf (fxG vF) 0)] [.sl x.1.length 3 (fxG x.1),.sl x.2.length 3 (fxG x.2)]/\x.1.length<1152921504606846976) λn_5=>.all (λ(x:Bool)=>(bif bif bif bif bif bif true then n_2 else false then true else false then true else false then true else false then decide (n.2=0) else false then n_4 else false)=true->(x=true↔n_5.1=n_5.2)) λn_6=>.R [.bool (bif bif bif bif bif bif bif true then n_2 else false then true else false then true else false then true else false then decide (n.2=0) else false then n_4 else false then n_6 else false)] [.arr 2 4 (opG sqO),.box [.i 1,.osl 0 4 0 2],.arr 3 4 (opG paO),.box [.i 1,.osl 2 4 0 3],.arr 1 1 (ratG thR),.box [.int .u8 3,.str [],.str [(120:UInt8)],.i 0,.nils],.dead,.dead,.box [.int .u8 7,.str [],.str [],.i 0,.sl 2 5 (Ex.exG maxX.sub)],.dead,.box [.sl 2 3 (zf (fxG vF) 0),.nils],.box [.i n.1.inp.length,.sl v1.length 4 (opG v1)],.arr 3 4 (zd 4 [.int .u8 1,.i 0,.i 0,.str #[].toList,.int .u8 1,.i 1,.i 0,.str #[].toList,.int .u8 3,.i 0,.i 1,.str #[].toList]),.box [.i 2,.osl 12 4 0 3]]) ?_;simp only [q45,Tree.holds,ze,inR,lo,hi,aD];have eX:eqA (.agg [.int .u8 7,.str [],.str [],.i 0,.sl 2 5 (Ex.exG maxX.sub)]) maxX.exA:=⟨⟨rfl,rfl⟩,rfl,rfl,⟨rfl,rfl⟩,⟨rfl,rfl,za _ _ _⟩,trivial⟩;have eV:eqA (.agg [.sl 2 3 (zf (fxG vF) 0),.nils]) (envA vF []):=⟨⟨rfl,rfl,λj o _ _=>by simp only [zf,Nat.zero_add]⟩,by simp [chS],trivial⟩;refine⟨⟨maxX,1,vF,[]⟩,⟨⟨eX,⟨rfl,rfl⟩,eV,trivial⟩,zl6⟩,⟨_,rfl⟩,?_⟩;intro r hr;obtain rfl:=hr.trans bn21;refine⟨(),λ_=>⟨trivial,trivial⟩,⟨true,λ_=>rfl⟩,?_⟩;intro b hb;obtain rfl:=hb trivial;refine⟨(⟨2,Y6⟩,⟨2,Y6⟩),λ_=>⟨⟨⟨⟨rfl,rfl⟩,⟨rfl,rfl,za _ _ _⟩,trivial⟩,⟨⟨rfl,rfl⟩,⟨rfl,rfl,waG⟩,trivial⟩,trivial⟩,by decide⟩,⟨true,λ_=>by simp⟩,?_⟩;intro b2 hb2;obtain rfl:=(hb2 (by decide)).2 rfl;refine⟨(vF,vF),λ_=>⟨⟨⟨rfl,rfl,za _ _ _⟩,⟨rfl,rfl,λj o _ _=>by simp only [zf,Nat.zero_add]⟩,trivial⟩,by decide⟩,⟨true,λ_=>by simp⟩,?_⟩;intro b3 hb3;obtain rfl:=(hb3 (by decide)).2 rfl;exact RetR.scal hq rfl (by simp [resV])
end Go.Proofs.Tryz
end
section
namespace Go.Sx
variable [Stat]
open Go.RowKit (Below)
def E0:Nat->Prop:=Own (λ_=>False) []
theorem K8(b:Nat):¬ E0 b:=by
 rintro(h | ⟨e,he,_⟩)
 ·exact h
 ·simp at he
def Tw(P:Program)(W:World)(t:TypeId)(cs:List Value):Prop:=∃ (H:Type) (enc:TypeId×Value->H) (base fuel:Nat) (d:DataW H) (ps:List MemPlace),DataW.trod enc P W base (λ_=>true) true fuel t cs=some (d,ps)/\∀ n∈d.weights P t,n<=reachBytes
section
variable {P:Program} {W:World} {t e:TypeId} {cs:List Value}
theorem zcc(ht:P.underlying t=some .string)(h:Tw P W t cs):∃ s:L8,cs=[.string ⟨s.toArray⟩]/\s.length<=reachBytes:=by
 obtain⟨H,enc,base,fuel,d,ps,h,hw⟩:=h;obtain⟨s,rfl,hx,_⟩:=DataW.trod_string ht h;cases hx;exact⟨s.data.toList,by simp,hw _ (by simp [DataW.weights])⟩
theorem zed{k:IntKind}(ht:P.underlying t=some (.int k))(h:Tw P W t cs):∃ n,cs=[.int k n]/\(Lit.int k n).wf=true:=by
 obtain⟨H,enc,base,fuel,d,ps,h,hw⟩:=h;obtain⟨n,rfl,hx,hwf⟩:=DataW.trod_int ht h;exact⟨n,rfl,hwf⟩
theorem xn{H:Type}{d:DataW H} : ∀ {l:List (DataW H)},d∈l->∀ n∈d.weights P e,n∈DataW.weightsAll P e l
 | x::l,hd,n,hn=>by
  simp only [DataW.weightsAll,bY];rcases aM.1 hd with rfl | hd
  ·exact .inl hn
  ·exact .inr (xn hd n hn)
theorem zak{g:Nat}{fn:Func}{c:Code}(hf:P.funcs[g]?=some fn)(hb:fn.body=some c) (hn:(fn.name == "runtime.NumGoroutine")=false) {ctr:Ctr} (hok:zc P g ctr) {args:List AV} {vals:List Value}
  (hspec:(ctr.spec args []).holds λr=>r=(.bool true,[])) (hr:RepL E0 W args [] vals) (hst:vC E0 W):Calls P g vals.toArray W λe W'=>e = .returned (.bool true)/\Below W.heap.size W W':=by
 have hn':¬ fn.name = "runtime.NumGoroutine" :=by simpa using hn
 have hg:Good (λ_=>False) W []:=⟨λb h=>h.elim,λi e ad he=>by simp at he,hst⟩;have hh:HRep (Own (λ_=>False) []) W [] []:=⟨rfl,λi j e f a b he=>by simp at he,λi e a he=>by simp at he,λi e b he=>by simp at he⟩;rcases hok args [] _ hspec (λ_=>rfl) (λ_=>False) W [] vals hg hh hr with ⟨_,h⟩ | ⟨v,w',h,_⟩
 ·refine h.mono ?_;rintro e W' ⟨v,rfl,r,hs,Z',hq,h1,_,_,_,_,hx⟩;cases hq;simp only [Rep] at h1;subst h1;exact⟨rfl,hx.os,hx.tape,hx.output,hx.size,λk hk=>hx.keep k hk λ⟨e,he,_⟩=>by simp at he⟩
 ·simp [callFunc,hf,hn',hb] at h
end
end Go.Sx
end
section
namespace Go.Sx
variable [Stat]
def TwN(P:Program)(W:World)(fuel:Nat)(t:TypeId)(cs:List Value):Prop:=∃ (H:Type) (enc:TypeId×Value->H) (base:Nat) (d:DataW H) (ps:List MemPlace),DataW.trod enc P W base (λ_=>true) true fuel t cs=some (d,ps)/\∀ n∈d.weights P t,n<=reachBytes
section
variable {P:Program} {W:World} {t e:TypeId} {cs:List Value}
theorem TwN.tw{fuel:Nat}(h:TwN P W fuel t cs):Tw P W t cs:=by
 obtain⟨H,enc,base,d,ps,h,hw⟩:=h;exact⟨H,enc,base,fuel,d,ps,h,hw⟩
theorem Tw.twn(h:Tw P W t cs):∃ fuel,TwN P W fuel t cs:=by
 obtain⟨H,enc,base,fuel,d,ps,h,hw⟩:=h;exact⟨fuel,H,enc,base,d,ps,h,hw⟩
theorem KL{fuel:Nat}{fs:Array Field}(ht:P.underlying t=some (.struct fs))(h:TwN P W fuel t cs):cs.length=P.cellsOf t/\∃ n,n<fuel/\∀ (i:Nat) (f:Field),fs[i]?=some f->TwN P W n f.type ((cs.drop f.offset).take (P.cellsOf f.type)):=by
 obtain⟨H,enc,base,d,ps,h,hw⟩:=h;obtain⟨xs,n,hn,hx,hl,hlen,hf⟩:=DataW.trod_struct ht h;cases hx;refine⟨hl,n,by omega,λi f hfi=> ?_⟩;have hi:=hf i f hfi
 have hlt:i<xs.length:=by
  rw [hlen]; exact(aQ.1 hfi).1
 rw [aF hlt] at hi;refine⟨H,enc,base,xs[i].1,xs[i].2,hi,λm hm=>hw m ?_⟩;simp only [DataW.weights,ht];exact DataW.weights_mem_each (j:=i) (t:=f.type) (d:=xs[i].1) (by simp [hfi]) (by simp [hlt]) m hm
theorem UG{fuel:Nat}(ht:P.underlying t=some (.slice e))(h:TwN P W fuel t cs):cs=[.slice none 0 0]\/∃ (a:Addr) (len cap n:Nat),n<fuel/\cs=[.slice (some a) len cap]/\len<=cap/\cap*P.bytesOf e<=reachBytes /\
  ∀ i,i<len->∃ cs',cs'.length=P.cellsOf e/\(∀ o,o<P.cellsOf e->W.cell? ((a.add (i*P.cellsOf e)).add o)=cs'[o]?)/\TwN P W n e cs':=by
 obtain⟨H,enc,base,d,ps,h,hw⟩:=h;rcases DataW.trod_slice ht h with ⟨rfl,_⟩ | ⟨a,len,cap,elems,rest,n,hn,rfl,hx,hb,hl,hm,hlen,hel,hsp,_⟩
 ·exact .inl rfl
 ·right;cases hx;obtain⟨hrl,_⟩:=hsp rfl;simp only [DataW.weights,ht] at hw;refine⟨a,len,cap,n,by omega,rfl,hl,?_,λi hi=> ?_⟩
  ·have:=hw _ (List.mem_cons_self);simp only [List.length_map,hlen,hrl] at this
   rwa [show len+(cap - len)=cap by omega] at this
  ·have h1:=hel i hi;have hlt:i<elems.length:=by rw [hlen]; exact hi
   rw [aF hlt,Option.bind_eq_some_iff] at h1;obtain⟨cs',h2,h3⟩:=h1;obtain⟨_,h4,h5⟩:=World.cells?_some h2;refine⟨cs',h4,h5,H,enc,base,elems[i].1,elems[i].2,h3,λm hm2=>hw m ?_⟩;simp only [aM,bY];exact .inr (.inl (xn (d:=elems[i].1) (List.mem_map.2 ⟨elems[i],bK hlt,rfl⟩) m hm2))
theorem KT{α:Type}(z:α)(cell:α->Nat->AV)(good:α->Prop){sz fuel:Nat}(ht:P.underlying t=some (.slice e))(hsz:P.cellsOf e=sz)(hpos:0<sz)
  (hel:∀ n cs',n<fuel->TwN P W n e cs'->∃ x:α,good x/\∀ o,o<sz->∃ c,cs'[o]?=some c/\c.oneCell'=true/\Rep E0 W (cell x o) [] c) (h:TwN P W fuel t cs) :
  ∃ (l:List α) (v:Value),cs=[v]/\(∀ x∈l,good x)/\l.length*P.bytesOf e<=reachBytes/\v.oneCell'=true/\Rep E0 W (.sl l.length sz λj=>cell (l.getD j z)) [] v:=by
 rcases UG ht h with rfl | ⟨a,len,cap,n,hn,rfl,hl,hw,hx⟩
 ·refine⟨[],_,rfl,by simp,by simp,rfl,?_⟩;simp only [Rep];exact⟨none,0,rfl,aJ _,.inl rfl⟩
 ·rw [hsz] at hx
  have hx2:∀ i,∃ x:α,i<len->good x/\∀ o,o<sz->∃ c,W.cell? ((a.add (i*sz)).add o)=some c/\c.oneCell'=true/\Rep E0 W (cell x o) [] c:=λi=>by
   by_cases hi:i<len
   ·obtain⟨cs',h1,h2,h3⟩:=hx i hi;obtain⟨x,hg,hc⟩:=hel n cs' hn h3
    exact⟨x,λ_=>⟨hg,λo ho=>by
     obtain⟨c,g1,g2,g3⟩:=hc o ho;exact⟨c,by rw [h2 o ho,g1],g2,g3⟩⟩⟩
   ·exact⟨z,λh=>absurd h hi⟩
  obtain⟨f,hf⟩:=Classical.axiomOfChoice hx2;have hgd:∀ j,j<len->((List.range len).map f).getD j z=f j:=λj hj=>by simp [List.getD,hj]
  refine⟨(List.range len).map f,_,rfl,λx hxm=> ?_,?_,rfl,?_⟩
  ·obtain⟨i,hi,rfl⟩:=List.mem_map.1 hxm;exact(hf i (List.mem_range.1 hi)).1
  ·simp only [List.length_map,List.length_range];exact bP (aT _ hl) hw
  ·simp only [Rep,List.length_map,List.length_range];refine⟨some a,cap,rfl,hl,?_⟩;rcases bC len with h0 | h0
   ·exact .inl h0
   ·right
    have hspot:a.spot=none:=by
     obtain⟨c,g1,_⟩:=(hf 0 h0).2 0 hpos;have:=World.cell?_spot g1;simpa [Addr.add] using this
    refine⟨a,rfl,hspot,λj o hj ho=>⟨K8 _,?_⟩⟩;obtain⟨c,g1,g2,g3⟩:=(hf j hj).2 o ho;refine⟨c,?_,g2,by rw [hgd j hj]; exact g3⟩;rw [<- g1];obtain⟨b,off,spot⟩:=a;simp only at hspot;subst hspot;congr 1;simp only [Addr.add];split<;>split<;>simp_all<;>omega
theorem zc2{H:Type}{enc:TypeId×Value->H}{base:Nat}{sp:Nat->Bool}{held:Bool}{fuel:Nat}{kd:IntKind}{ps:List Int}{q:List MemPlace}(ht:P.underlying t=some (.slice e))(he:P.underlying e=some (.int kd))(hc:P.cellsOf e=1)(hne:ps≠[])
  (h:DataW.trod enc P W base sp held fuel t cs=some (.slice (ps.map λz=>.lit (.int kd z)) [],q)):∃ c,cs=[c]/\c.oneCell'=true/\Rep E0 W (.sl ps.length 1 λj _=>.int kd (ps.getD j 0)) [] c:=by
 obtain⟨a,cap,rfl,hl,hel⟩:=open_row ht hc h;refine⟨_,rfl,rfl,?_⟩;simp only [List.length_map] at hl
 have hv:∀ j,j<ps.length->W.cell? (a.add j)=some (.int kd (ps.getD j 0)):=λj hj=>by
  obtain⟨v,n,q',h1,h2⟩:=hel j (.lit (.int kd (ps.getD j 0))) (by simp [List.getD,hj]);obtain⟨m,h3,h4,_⟩:=DataW.trod_int he h2;simp only [List.cons.injEq,and_true] at h3;simp only [bE,DataW.lit.injEq,Lit.int.injEq,true_and] at h4;rw [h1,h3,h4.1]
 simp only [Rep,List.length_map];refine⟨some a,cap,rfl,hl,.inr ⟨a,rfl,?_,λj o hj ho=>⟨K8 _,.int kd (ps.getD j 0),?_,rfl,rfl⟩⟩⟩
 ·have:=World.cell?_spot (hv 0 (List.length_pos_iff.2 hne));simpa [Addr.add] using this
 ·have:o=0:=by omega
  subst this
  have hs:a.spot=none:=by
   have:=World.cell?_spot (hv 0 (List.length_pos_iff.2 hne));simpa [Addr.add] using this
  rw [<- hv j hj];obtain⟨b,off,spot⟩:=a;simp only at hs;subst hs;congr 1;simp only [Addr.add];split<;>simp_all
end
section
open Go.WideElems Go.ChangeMaps
variable {H:Type} {enc:TypeId×Value->H} {P:Program} {W:World} {base:Nat} {sp:Nat->Bool} {held:Bool}
theorem Z5{x:Lit×DataW H} : ∀ {l:List (Lit×DataW H)},x∈l.foldr DataW.insert []↔x∈l
 | []=>Iff.rfl
 | y::l=>by rw [List.foldr_cons,mem_insert_iff,Z5,aM]
theorem YM{g:Nat}{t k e:TypeId}{kd:IntKind}{ag:Bool}{sz:Nat}{ks:List Int}{has:Int->Bool}{get:Int->Nat->AV}{fuel:Nat}{c:Value}{es0:List (Lit×DataW H)}{q:List MemPlace}
  (hg:(Stat.z g).isSome=true) (ht:P.underlying t=some (.map k e)) (hk:P.underlying k=some (.int kd)) (hc:W.cell? ⟨g,0,none⟩=some c) (hne:es0≠[])
  (h:DataW.trod enc P W base sp held fuel t [c]=some (.map es0,q))
  (hin:∀ (n:Int) (d:DataW H),(.int kd n,d)∈es0->has n=true/\∀ (v:Value) (m:Nat) (q:List MemPlace),v.formed P e=true->DataW.trod enc P W base sp held m e v.cells.toList=some (d,q) ->
   match ag with
   | true=>∃ vs:List Value,v = .agg vs.toArray/\vs.length=sz/\∀ o,o<sz->∃ c,vs[o]?=some c/\Rep E0 W (get n o) [] c
   | false=>Rep E0 W (get n 0) [] v)
  (hout:∀ n,has n=true->∃ d,(.int kd n,d)∈es0):Rep E0 W (.mp kd ag sz ks has get) [] c/\∀ b,c = .map (some b)->b<W.heap.size:=by
 rcases open_map ht h with ⟨_,hx⟩ | ⟨b,es,clock,n,_,hcs,hb,_,F,hx⟩
 ·simp at hx
 ·simp only [List.cons.injEq,and_true] at hcs;subst hcs;simp only [bE,DataW.map.injEq] at hx
  have hkey:∀ x∈es.toList,∃ (m:Int) (z:DataW H×List MemPlace),x.key = .int kd m/\elemAt enc P W base sp held n e x.val=some z/\(.int kd m,z.1)∈es0:=by
   intro x hxm;obtain⟨y,hy⟩:=F.reads x hxm;have h1:=rd_key hy;obtain⟨z,h2,h3⟩:=rd_val hy;have h4:y∈es0:=by rw [hx.1,Z5]; exact List.mem_map.2 ⟨x,hxm,rg_of hy⟩
   have h5:mapKey P k x.key=some y.1:=by
    simp only [keyOf,hk] at h1;exact h1
   unfold mapKey at h5;rw [hk] at h5;cases hxk:x.key with
   | int k' m=>
    rw [hxk] at h5;simp only at h5;split at h5
    ·rename_i hc2;have h6:=Option.some.inj h5;obtain⟨rfl,_⟩:=hc2;refine⟨m,z,rfl,h2,?_⟩;rw [h6,<- h3]; exact h4
    ·cases h5
   | _=>rw [hxk] at h5; simp at h5
  have hlt:b<W.heap.size:=(aQ.1 hb).1;refine⟨?_,λb' hb'=>by cases hb'; exact hlt⟩;simp only [Rep];refine⟨b,es,clock,rfl,K8 _,⟨g,K8 _,hg,hc⟩,hb,λm=> ?_⟩
  have hspec:=MapKept.findNow_spec (d:=.int kd) (k:=.int kd m) (by simp [MapKept.IsKey]) es.toList 0 (λx hxm=>by
   obtain⟨m',z,h1,_⟩:=hkey x hxm;rw [h1]; simp [MapKept.IsKey])
  rcases hspec with ⟨h1,h2⟩ | ⟨j,x,h1,h2,h3⟩
  ·refine⟨λ_=>h1,λhm=> ?_⟩;obtain⟨d,hd⟩:=hout m hm;rw [hx.1,Z5] at hd;obtain⟨x,hxm,hrx⟩:=List.mem_map.1 hd;obtain⟨y,hy⟩:=F.reads x hxm;rw [rg_of hy] at hrx;have h5:=rd_key hy;rw [hrx] at h5;obtain⟨m',z,g1,_⟩:=hkey x hxm
   have:keyOf P k x.key=some (.int kd m'):=by
    rw [g1] at h5 ⊢;simp only [keyOf,hk,mapKey] at h5 ⊢;split at h5
    ·rename_i hwf; rw [aP hwf]
    ·cases h5
   rw [this] at h5;cases h5;exact absurd g1 (h2 x hxm)
  ·have hxm:x∈es.toList:=aY h2;obtain⟨m',z,g1,g2,g3⟩:=hkey x hxm;rw [h3] at g1;cases g1;obtain⟨hh,hrep⟩:=hin m z.1 g3;refine⟨λhf=>(by rw [hf] at hh; cases hh),λ_=>⟨_,x.val,h1,?_⟩⟩;unfold elemAt at g2;split at g2
   ·rename_i hfm;exact hrep x.val n z.2 hfm g2
   ·cases g2
end
end Go.Sx
end
section
set_option maxRecDepth 100000
namespace Go.Proofs.YtfiocgnojggdjaaGreatDoor
open Go Go.Sx Go.Nov Go.Proofs.Tryz Go.ChangeShapes Go.WideShapes Go.ChangeAt Go.RowKit
theorem zah:Tryz.prog.cellsOf 9=1:=by kernel_rfl
theorem UP:Tryz.prog.cellsOf 22=1:=by kernel_rfl
theorem zag:Tryz.prog.cellsOf 3=1:=by kernel_rfl
theorem zf7:Tryz.prog.cellsOf 5=1:=by kernel_rfl
theorem zau:Tryz.prog.cellsOf 23=1:=by kernel_rfl
theorem VO:Tryz.prog.cellsOf 25=5:=by kernel_rfl
theorem V2:∀ {l:List Ex},(∀ x∈l,x.thin)->Ex.xN l
 | [],_=>by rw [Ex.xN]; trivial
 | x::l,h=>by rw [Ex.xN]; exact⟨h x (by simp),V2 λy hy=>h y (by simp [hy])⟩
theorem zc3{W:World} : ∀ (fuel:Nat) {cs:List Value},TwN Tryz.prog W fuel 25 cs ->
  ∃ (x:Ex) (v:Value),x.thin/\cs=[.int .u8 x.kind,.string ⟨x.rat.toArray⟩,.string ⟨x.name.toArray⟩,.i x.date,v]/\v.oneCell'=true/\Rep E0 W (.sl x.sub.length 5 x.deep) [] v:=by
 intro fuel
 induction fuel using Nat.strongRecOn with
 | ind fuel ih=>
  intro cs h;obtain⟨hl,n,hn,hf⟩:=KL Tryz.underlying25 h;rw [VO] at hl
  match cs,hl with
  | [a,b,c,d,e],_=>
   have h0:TwN Tryz.prog W n 5 (([a,b,c,d,e].drop 0).take (Tryz.prog.cellsOf 5)):=hf 0 _ rfl;rw [zf7] at h0;replace h0:TwN Tryz.prog W n 5 [a]:=h0;have h1:TwN Tryz.prog W n 22 (([a,b,c,d,e].drop 1).take (Tryz.prog.cellsOf 22)):=hf 1 _ rfl;rw [UP] at h1;replace h1:TwN Tryz.prog W n 22 [b]:=h1;have h2:TwN Tryz.prog W n 9 (([a,b,c,d,e].drop 2).take (Tryz.prog.cellsOf 9)):=hf 2 _ rfl;rw [zah] at h2;replace h2:TwN Tryz.prog W n 9 [c]:=h2;have h3:TwN Tryz.prog W n 3 (([a,b,c,d,e].drop 3).take (Tryz.prog.cellsOf 3)):=hf 3 _ rfl;rw [zag] at h3;replace h3:TwN Tryz.prog W n 3 [d]:=h3;have h4:TwN Tryz.prog W n 23 (([a,b,c,d,e].drop 4).take (Tryz.prog.cellsOf 23)):=hf 4 _ rfl;rw [zau] at h4;replace h4:TwN Tryz.prog W n 23 [e]:=h4;obtain⟨k,e0,_⟩:=zed Tryz.underlying5 h0.tw;obtain⟨r,e1,w1⟩:=zcc Tryz.underlying22 h1.tw;obtain⟨m,e2,w2⟩:=zcc Tryz.underlying9 h2.tw;obtain⟨z,e3,_⟩:=zed Tryz.underlying3 h3.tw
   obtain⟨l,v,e4,gl,_,hone,hr⟩:=KT Ex.nil (λx=>Ex.cell x.kind x.rat x.name x.date x.sub.length x.deep) Ex.thin Tryz.underlying23 VO (by decide) (λn' cs' hn' h'=>by
    obtain⟨x,v,hx,rfl,hv,hr⟩:=ih n' (by omega) h';refine⟨x,hx,λo ho=> ?_⟩
    match o,ho with
    | 0,_=>exact⟨_,rfl,rfl,by simp [Ex.cell,Rep]⟩
    | 1,_=>exact⟨_,rfl,rfl,by simp [Ex.cell,Rep]⟩
    | 2,_=>exact⟨_,rfl,rfl,by simp [Ex.cell,Rep]⟩
    | 3,_=>exact⟨_,rfl,rfl,by simp [Ex.cell,Rep]⟩
    | 4,_=>exact⟨v,rfl,hv,hr⟩) h4
   cases e0; cases e1; cases e2; cases e3; cases e4;have hb:reachBytes<=2^48:=by decide
   refine⟨.mk k r m z l,_,?_,rfl,hone,?_⟩
   ·rw [Ex.thin]; exact⟨bP w1 hb,bP w2 hb,V2 gl⟩
   ·have hq:=Ex.qY (.mk k r m z l);simp only [Ex.sub] at hq ⊢;simp only [Rep] at hr ⊢;obtain⟨a,cap,hv,hle,hcase⟩:=hr;refine⟨a,cap,hv,hle,hcase.imp id λ⟨ad,g1,g2,g3⟩=>⟨ad,g1,g2,λj o hj ho=> ?_⟩⟩;obtain⟨g4,c,g5,g6,g7⟩:=g3 j o hj ho;refine⟨g4,c,g5,g6,?_⟩;rw [hq j o hj ho];exact g7
theorem xp{W:World}{cs:List Value}(h:Tw Tryz.prog W 25 cs):∃ x:Ex,x.thin/\Rep E0 W x.exA [] (.agg cs.toArray):=by
 obtain⟨fuel,h⟩:=h.twn;obtain⟨x,v,hx,rfl,_,hr⟩:=zc3 fuel h;refine⟨x,hx,?_⟩;have hq:=Ex.qY x
 have hr2:Rep E0 W (Ex.exS x.sub) [] v:=by
  simp only [Ex.exS,Rep] at hr ⊢;obtain⟨a,cap,hv,hle,hcase⟩:=hr;refine⟨a,cap,hv,hle,hcase.imp id λ⟨ad,g1,g2,g3⟩=>⟨ad,g1,g2,λj o hj ho=> ?_⟩⟩;obtain⟨g4,c,g5,g6,g7⟩:=g3 j o hj ho;exact⟨g4,c,g5,g6,by rw [<- hq j o hj ho]; exact g7⟩
 simp only [Ex.exA,Rep,RepL];exact⟨_,rfl,_,_,rfl,rfl,_,_,rfl,rfl,_,_,rfl,rfl,_,_,rfl,rfl,_,_,rfl,hr2,rfl⟩
theorem K6:Tryz.prog.cellsOf 83=1:=by kernel_rfl
theorem zfo:Tryz.prog.cellsOf 154=1:=by kernel_rfl
theorem ze7:Tryz.prog.cellsOf 156=2:=by kernel_rfl
def shpE(H:Type):List (Lit×DataW H):=shpL.map λp=>(.int .u8 p.1,.agg [.slice (p.2.1.map λz=>.lit (.int .u8 z)) [],.lit (.int .u8 p.2.2)])
theorem zfx:∀ p∈shpL,yx p.1=some p.2/\p.2.1≠[]:=by decide
theorem zgb{k:Int}(h:jh k=true):∃ q,(k,q)∈shpL:=by
 unfold jh yx at h;rw [Option.isSome_map] at h;obtain⟨p,hp⟩:=Option.isSome_iff_exists.1 h;have h1:=List.find?_some hp;have h2:=List.mem_of_find?_eq_some hp;have:p.1=k:=by simpa using h1
 exact⟨p.2,by rw [<- this]; exact h2⟩
theorem Xe{W:World}{cs:List Value}{fuel:Nat}{q:List MemPlace}{c:Value}(hc:W.cell? ⟨1,0,none⟩=some c)
  (h:DataW.trod (λ_=>()) Tryz.prog W 0 (λ_=>true) false fuel 158 [c]=some (.map (shpE Unit),q)) :
  Rep E0 W (.mp .u8 true 2 [] (λk=>jh k) λk o=>match o with
   | 0=>.sl (j1 k) 1 λj _=>.int .u8 (q7 k j)
   | _=>.int .u8 (qV k)) [] c/\∀ b,c = .map (some b)->b<W.heap.size:=by
 refine YM (g:=1) rfl Tryz.underlying158 Tryz.underlying5 hc (by decide) h ?_ ?_
 ·intro n d hd;obtain⟨p,hp,he⟩:=List.mem_map.1 hd;obtain⟨h1,h2⟩:=zfx p hp;simp only [bE,Lit.int.injEq,true_and] at he;obtain⟨rfl,rfl⟩:=he;refine⟨by simp [jh,h1],λv m q' hf ht=> ?_⟩;obtain⟨xs,n',_,hx,hl,hlen,hfs⟩:=DataW.trod_struct Tryz.underlying156 ht;rw [ze7] at hl;cases v with
  | agg cs=>
   simp only [Value.cells] at hl hfs;obtain⟨cs⟩:=cs;simp only at hl hfs
   match cs,hl with
   | [a,b],_=>
    have f0:DataW.trod _ Tryz.prog W 0 _ false n' 154 (([a,b].drop 0).take (Tryz.prog.cellsOf 154))=xs[0]?:=hfs 0 _ rfl;have f1:DataW.trod _ Tryz.prog W 0 _ false n' 83 (([a,b].drop 1).take (Tryz.prog.cellsOf 83))=xs[1]?:=hfs 1 _ rfl;rw [zfo] at f0;rw [K6] at f1
    match xs,hlen with
    | [x0,x1],_=>
     simp only [List.map_cons,List.map_nil,bE,DataW.agg.injEq,List.cons.injEq,and_true] at hx;obtain⟨⟨hx0,hx1⟩,_⟩:=hx;have f0:DataW.trod _ Tryz.prog W 0 _ false n' 154 [a]=some x0:=f0;have f1:DataW.trod _ Tryz.prog W 0 _ false n' 83 [b]=some x1:=f1;obtain⟨x0a,x0b⟩:=x0;obtain⟨x1a,x1b⟩:=x1;simp only at hx0 hx1;subst hx0; subst hx1;obtain⟨c0,e0,_,hr⟩:=zc2 Tryz.underlying154 Tryz.underlying83 K6 h2 f0;cases e0;obtain⟨z,e1,e2,_⟩:=DataW.trod_int Tryz.underlying83 f1;cases e1;simp only [bE,DataW.lit.injEq,Lit.int.injEq,true_and] at e2;refine⟨[a,.int .u8 z],rfl,rfl,λo ho=> ?_⟩;have g1:ja p.1=p.2.1:=by simp [ja,h1]
     have g2:qV p.1=p.2.2:=by simp [qV,h1]
     match o,ho with
     | 0,_=>
      refine⟨a,rfl,?_⟩;show Rep E0 W (.sl (j1 p.1) 1 λj _=>.int .u8 (q7 p.1 j)) [] a;unfold j1 q7;rw [g1];exact hr
     | 1,_=>
      refine⟨_,rfl,?_⟩;show Rep E0 W (.int .u8 (qV p.1)) [] _;simp only [Rep];rw [g2,e2.1]
  | _=>simp [Value.formed,Tryz.underlying156] at hf
 ·intro n hn;obtain⟨q',hq⟩:=zgb hn;exact⟨_,List.mem_map.2 ⟨_,hq,rfl⟩⟩
theorem zgl:Tryz.prog.globalNamed "novation/observable.shapes" = some 1:=by kernel_rfl
theorem zhq:(Tryz.prog.globals[1]?).map (·.type)=some 158:=by kernel_rfl
theorem zg7:(Rows.laid_novation_observable_shapes:DataW Unit) = .map (shpE Unit):=rfl
theorem KG{W:World} (h:laidMet Tryz.prog [("novation/observable.shapes",Rows.laid_novation_observable_shapes)] W):∃ c,W.cell? ⟨1,0,none⟩=some c /\
  Rep E0 W (.mp .u8 true 2 [] (λk=>jh k) λk o=>match o with
   | 0=>.sl (j1 k) 1 λj _=>.int .u8 (q7 k j)
   | _=>.int .u8 (qV k)) [] c/\∀ b,c = .map (some b)->b<W.heap.size:=by
 obtain⟨ps,⟨g0,t0,cs0,f0,p0,q0,hg0,ht0,hv0,hd0,_,_⟩,_,_⟩:=h;obtain rfl:=Option.some.inj (zgl.symm.trans hg0);obtain rfl:=Option.some.inj (zhq.symm.trans ht0);rw [zg7] at hd0
 have hone:∃ c,cs0.toList=[c]:=by
  rcases Go.WideElems.open_map Tryz.underlying158 hd0 with ⟨hcs,_⟩ | ⟨b,es,clock,n,_,hcs,_⟩
  ·exact⟨_,hcs⟩
  ·exact⟨_,hcs⟩
 obtain⟨c,hcs⟩:=hone;rw [hcs] at hd0
 have hcell:W.cell? ⟨1,0,none⟩=some c:=by
  have:=World.var?_cell hg0 hv0 0;rw [Array.eq_one_of_toList hcs] at this;simpa using this
 obtain⟨h1,h2⟩:=Xe (cs:=[c]) hcell hd0;exact⟨c,hcell,h1,h2⟩
theorem gOps:Tryz.prog.globalNamed "novation/observable.operations" = some 0:=by kernel_rfl
theorem tOps:(Tryz.prog.globals[0]?).map (·.type)=some 116:=by kernel_rfl
def opNm(b:L8):L8:=[40,42,110,111,118,97,116,105,111,110,47,111,98,115,101,114,118,97,98,108,101,46,115,116,97,116,101,41,46]++b
def opEs:List (Lit×DataW L8):=[(.int .u8 4,.held (opNm [97,100,100])),(.int .u8 5,.held (opNm [115,117,98])),(.int .u8 6,.held (opNm [109,117,108])),(.int .u8 7,.held (opNm [103,114,101,97,116,101,114])),(.int .u8 8,.held (opNm [115,109,97,108,108,101,114]))]
abbrev Wa:List (String×DataW Unit):=[("novation/observable.shapes",Rows.laid_novation_observable_shapes),("novation/observable.operations",Rows.laid_novation_observable_operations)]
def opsD:DataW Unit:=.map [(.int .u8 4,.iface "func" (.lit (.string (opNm [97,100,100])))),(.int .u8 5,.iface "func" (.lit (.string (opNm [115,117,98])))),(.int .u8 6,.iface "func" (.lit (.string (opNm [109,117,108])))),(.int .u8 7,.iface "func" (.lit (.string (opNm [103,114,101,97,116,101,114])))),(.int .u8 8,.iface "func" (.lit (.string (opNm [115,109,97,108,108,101,114]))))]
theorem zh6:(Rows.laid_novation_observable_operations:DataW Unit) = .iface "func table" opsD:=rfl
theorem zd8:opsD.funcsOut = .map opEs:=rfl
theorem zgk{W:World}{cs:List Value}{fuel:Nat}{q:List MemPlace}{c:Value}(hc:W.cell? ⟨0,0,none⟩=some c)
  (h:DataW.trod (funcToken Tryz.prog) Tryz.prog W 0 (λ_=>true) true fuel 116 [c]=some (.map opEs,q)) :
  Rep E0 W (.mp .u8 false 1 [4,5,6,7,8] (λk=>decide (4<=k/\k<=8)) λk _=>
  if k=4 then .fn 190 [] [] else if k=5 then .fn 191 [] [] else if k=6 then .fn 192 [] []
  else if k=7 then .fn 193 [] [] else .fn 194 [] []) [] c/\∀ b,c = .map (some b)->b<W.heap.size:=by
 refine YM (g:=0) rfl Tryz.underlying116 Tryz.underlying5 hc (by decide) h ?_ ?_
 ·intro n d hd
  have one:∀ {v:Value} {m:Nat} {q:List MemPlace} {bs:L8} {f0:Nat},((List.range Tryz.prog.funcs.size).filter λf=>(Tryz.prog.funcs[f]?).any (·.name.toUTF8.data.toList == 40::bs))=[f0] ->
    v.formed Tryz.prog 115=true->DataW.trod (funcToken Tryz.prog) Tryz.prog W 0 (λ_=>true) true m 115 v.cells.toList=some (.held (40::bs),q)->Rep E0 W (.fn f0 [] []) [] v:=by
   intro v m q bs f0 hone hf ht
   have hcell:v.cells.toList=[v]:=by
    cases v with
    | agg _=>simp [Value.formed,Tryz.underlying115] at hf
    | _=>rfl
   rw [hcell] at ht;have:=func_of_trod Tryz.underlying115 hone ht;subst this;simp [Rep,RepL]
  simp only [opEs,aM,bE,Lit.int.injEq,true_and,List.not_mem_nil,or_false] at hd;rcases hd with ⟨rfl,rfl⟩ | ⟨rfl,rfl⟩ | ⟨rfl,rfl⟩ | ⟨rfl,rfl⟩ | ⟨rfl,rfl⟩
  ·exact⟨rfl,λv m q hf ht=>one (f0:=190) (by kernel_rfl) hf ht⟩
  ·exact⟨rfl,λv m q hf ht=>one (f0:=191) (by kernel_rfl) hf ht⟩
  ·exact⟨rfl,λv m q hf ht=>one (f0:=192) (by kernel_rfl) hf ht⟩
  ·exact⟨rfl,λv m q hf ht=>one (f0:=193) (by kernel_rfl) hf ht⟩
  ·exact⟨rfl,λv m q hf ht=>one (f0:=194) (by kernel_rfl) hf ht⟩
 ·intro n hn;have hn:=aB hn;have:n=4\/n=5\/n=6\/n=7\/n=8:=by omega
  rcases this with rfl | rfl | rfl | rfl | rfl
  ·exact⟨_,.head _⟩
  ·exact⟨_,.tail _ (.head _)⟩
  ·exact⟨_,.tail _ (.tail _ (.head _))⟩
  ·exact⟨_,.tail _ (.tail _ (.tail _ (.head _)))⟩
  ·exact⟨_,.tail _ (.tail _ (.tail _ (.tail _ (.head _))))⟩
theorem zgf{W:World}(h:laidMetH Tryz.prog Wa W):vC E0 W:=by
 have h1:laidMet Tryz.prog [("novation/observable.shapes",Rows.laid_novation_observable_shapes)] W:=h.1;have h2:=laidMetH.funcs h (n:= "novation/observable.operations") (d:=opsD) (by simp [Wa,zh6]);obtain⟨c1,k1,r1,b1⟩:=KG h1;obtain⟨g0,t0,cs0,f0,p0,hg0,ht0,hv0,hd0⟩:=h2;obtain rfl:=Option.some.inj (gOps.symm.trans hg0);obtain rfl:=Option.some.inj (tOps.symm.trans ht0);rw [zd8] at hd0
 have hone:∃ c,cs0.toList=[c]:=by
  rcases Go.WideElems.open_map Tryz.underlying116 hd0 with ⟨hcs,_⟩ | ⟨b,es,clock,n,_,hcs,_⟩
  ·exact⟨_,hcs⟩
  ·exact⟨_,hcs⟩
 obtain⟨c2,hcs⟩:=hone;rw [hcs] at hd0
 have k2:W.cell? ⟨0,0,none⟩=some c2:=by
  have:=World.var?_cell hg0 hv0 0;rw [Array.eq_one_of_toList hcs] at this;simpa using this
 obtain⟨r2,b2⟩:=zgk (cs:=[c2]) k2 hd0;refine⟨λg a hz=>⟨K8 _,?_⟩⟩;by_cases hg:g=1
 ·subst hg;cases hz;exact⟨c1,k1,r1,b1⟩
 ·by_cases hg2:g=0
  ·subst hg2;cases hz;exact⟨c2,k2,r2,b2⟩
  ·have:Stat.z g=none:=by
    show(if _ then _ else if _ then _ else _)=_;rw [aO hg,aO hg2]
   rw [this] at hz; cases hz
theorem walk{W:World}  (hst:vC E0 W) :
  Calls Tryz.prog 5 #[] W λe W'=>e = .returned (.bool true)/\Below W.heap.size W W':=by
 refine zak (fn:=Tryz.f5) (c:=Tryz.f5.body.getD .skip) rfl rfl rfl zb0 (args:=[]) (vals:=[]) ?_ ?_ hst
 ·refine⟨(),⟨?_,trivial⟩,⟨true,rfl⟩,?_⟩
  ·simp [eqL,eqA,eqA0,eqL0,envA,fxS,chS,Fx.av,Ch.av,Ex.exA,Ex.exS,za]
  ·rintro _ rfl;rfl
 ·exact rfl
theorem own:ownKnob Tryz.prog.godebug=none:=by kernel_rfl
theorem zbc(os:Os)(args:Array Value):laidMetH Tryz.prog Wa ((World.doorLaid Tryz.prog 400 os).forCall (λ_ _=>0) ⟨#[],args,[]⟩).memory:=
 laidMetH_of_parts3 (fuel:=8) (laidMet_of_run' 8 (by kernel_rfl) (by kernel_rfl)) (by kernel_rfl) (by kernel_rfl)
theorem lifted(os:Os)(started:os.Started)(H:Type)(enc:TypeId×Value->H) :
  ReturnsInHanded {} Tryz.checked os 5 .any (λw args=>(Rows.bumpNamesSpec.pre enc Tryz.prog Tryz.f5 [] false w args/\laidMetH Tryz.prog Wa w)/\sizedMet enc Tryz.prog Tryz.f5 (OpenSpec.ofChange Rows.bumpNamesSpec) false w args)
   (Rows.bumpNamesSpec.post enc Tryz.prog Tryz.f5 false true false false):=by
 refine returnsInHanded_of_change_and (C:=Tryz.checked) (X:=λw _=>laidMetH Tryz.prog Wa w) (λ_ _ _ hh h=>h.of_heap hh) own started (by kernel_rfl) Tryz.func5
  (ChangeSpec.witness_shaped (enc:=enc) (C:=Tryz.checked) (os:=os) (X:=λw _=>laidMetH Tryz.prog Wa w) false (World.doorLaid Tryz.prog 400 os) #[] 8 rfl (World.shaped_of_RefB (by kernel_rfl) (by kernel_rfl)) (by kernel_rfl) (by kernel_rfl) (by kernel_rfl) (zbc os _)) ?_
 intro W base args ds gs before hval0 hW hcnd hwt hL _;have hval:∀ (j:Nat) t v,Tryz.f5.params[j]?=some t->args[j]?=some v->Value.okWide Tryz.prog W .any base t v:=hval0;have hW':=hW;obtain⟨p,q,hA0,hV,rfl,hfz,hnd⟩:=hW;have hA:DataW.TrodAll enc Tryz.prog W 0 (λ_=>true) true Tryz.f5.params.toList args.toList ds p:=hA0;rw [Tryz.params5] at hA hval;obtain⟨hargs,rfl,rfl⟩:=trodAll_nil hA;obtain rfl:args = #[]:=by cases args; simp_all
 obtain⟨rfl,rfl⟩:=trodVars_none hV;clear hA0 hval0;simp only [List.append_nil] at hW' hwt;have hcall:=walk (W:=W)  (zgf hL);refine hcall.mono λe W' ⟨he,hb⟩=> ?_
 subst he;refine⟨_,rfl,_,_,_,[],[],[],hW',trodAll_mk1 (shut_bool Tryz.underlying4 true),?_,rfl,hb.frame _,λh=>by cases h⟩;exact trodAll_mk0
theorem over:Rows.bumpNamesRow.holds Tryz.pinned (OpenSpec.ofChange Rows.bumpNamesSpec):=
 OpenClaim.holds_of_wide 5 Tryz.f5 rfl rfl rfl rfl rfl rfl rfl ⟨rfl,rfl,rfl,rfl,rfl⟩ rfl rfl rfl rfl rfl (by kernel_rfl) Tryz.func5 (by kernel_rfl)
  (aB (by kernel_rfl)) (by unfold Func.isWrapper; first | (rw [aP (by decide +kernel)]; kernel_rfl) | (rw [aO (by decide +kernel)]; exact⟨rfl,rfl⟩))
  (λos started H enc _=>lifted os started H enc)
theorem QE:Rows.BumpNamesSaid:=over
theorem bumpNames_holds:Rows.BumpNamesCardSaid:=
 Claim7.holds_tied_plain_at .later [] [.mappedDeep,.funcs] true (true, "ab2de770cc5703e3626adf37d196ff22d575b6acd973fdd82550c7802670e158") false
  QE (λ_ h=>by cases h) (by kernel_rfl) (λ_ h=>by cases h) bumpNames_row_tie rfl ⟨rfl,rfl⟩ (by kernel_rfl) rfl
  (λf fn hf hfn=>by
   obtain rfl:f=5:=Option.some.inj ((show Tryz.prog.funcNamed "novation/novationlaw30.BumpNames" = some 5 by kernel_rfl).symm.trans hf) |>.symm;obtain rfl:fn=Tryz.f5:=(Option.some.inj (Tryz.func5.symm.trans hfn)).symm
   exact⟨by kernel_rfl,λj t ht=>by
    rw [Tryz.params5] at ht;simp at ht⟩)
  (by kernel_rfl)
end Go.Proofs.YtfiocgnojggdjaaGreatDoor
end
