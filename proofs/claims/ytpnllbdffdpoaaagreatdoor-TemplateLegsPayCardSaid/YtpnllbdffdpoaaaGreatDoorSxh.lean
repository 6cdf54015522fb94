/- Part 8 of the proof. -/
import Derived.Test.YtpnllbdffdpoaaaGreatDoorSxg
import Derived.RangeFuncKeeps
import Derived.RangeFuncNested
import Derived.RangeFuncBound
import Derived.RangeFuncCalls
import Derived.RangeFuncLeaves
import Derived.Shelf.Abstract
import Derived.Shelf.RegionOpen
import Derived.WalkKit
import Derived.OwnWalkIn
import Derived.TacticsInMore
import Derived.LoopNIn
import Derived.LoopIn
import Derived.Lib.Hide
import Derived.Test.YtpnllbdffdpoaaaGreatDoorProg
set_option linter.unusedVariables false
set_option linter.unusedSimpArgs false
set_option linter.unusedSectionVars false
section
set_option maxRecDepth 100000
open Go Go.Sx Go.Proofs Go.Nov
namespace Go.Proofs.Tryz
attribute [local simp] eqKV eqA eqA0 eqH eqB eqL eqL0
theorem kM(a b:L8):((j5 a b).e≠0/\qG a b=(j5 a b).e)\/((j5 a b).e=0/\errR a=0/\errR b=0/\(j5 a b).n=numR a/\(j5 a b).m=numR b/\(j5 a b).d=denR a/\(j5 a b).c=denR b):=by
 unfold j5;by_cases ha:errR a=0
 ·rw [aO (by rw [ha]; simp)];by_cases hb:errR b=0
  ·rw [aO (by rw [hb]; simp)];exact .inr ⟨rfl,ha,hb,rfl,rfl,rfl,rfl⟩
  ·rw [aP hb];exact .inl ⟨hb,by unfold qG; rw [aP ha]⟩
 ·rw [aP ha];exact .inl ⟨ha,by unfold qG; rw [aO ha]⟩
theorem ur(a b:L8):(j5 a b).n.length<=a.length/\(j5 a b).m.length<=b.length/\(j5 a b).d.length<=a.length+1/\(j5 a b).c.length<=b.length+1:=by
 have h1:=ZQ a;have h2:=ZQ b;have h3:=ZO a;have h4:=ZO b;unfold j5;split
 ·simp
 ·split
  ·simp; omega
  ·simp only; omega
theorem kx_l(x y:L8):eqL [.str x,.str y,.ptr 0 0,.ptr 2 0] [.str x,.str y,.ptr 0 0,.ptr 2 0]:=⟨rfl,rfl,⟨rfl,rfl⟩,⟨rfl,rfl⟩,trivial⟩
theorem kx_b(p:Pr):eqH [.box [.str p.n,.str p.m,.str p.d,.str p.c,.i p.e]] [.box [.str p.n,.str p.m,.str p.d,.str p.c,.i p.e]]:=⟨⟨rfl,rfl,rfl,rfl,⟨rfl,rfl⟩,trivial⟩,trivial⟩
theorem kx_h(p:Pr)(f:Nat):eqH [.box [.ptr 1 0],.box [.str p.n,.str p.m,.str p.d,.str p.c,.i p.e],.box [.fn f [] []]] [.box [.ptr 1 0],.box [.str p.n,.str p.m,.str p.d,.str p.c,.i p.e],.box [.fn f [] []]]:=⟨⟨⟨rfl,rfl⟩,trivial⟩,(kx_b p).1,⟨rfl,trivial⟩,trivial⟩
theorem kx_k(f:Nat):eqL [.ptr 0 0,.fn f [] []] [.ptr 0 0,.fn f [] []]:=⟨⟨rfl,rfl⟩,rfl,trivial⟩
theorem kx_m(x y:L8):eqL [.ptr 0 0,.str x,.str y] [.ptr 0 0,.str x,.str y]:=⟨⟨rfl,rfl⟩,rfl,rfl,trivial⟩
theorem qJ(p:Pr)(o:QOp)(x y:L8){r:L8×Int}(h:r=if p.e≠0 then([],p.e) else o.op x y):r.1.length<=1001:=by
 rw [h];refine zrn ?_;cases o
 ·exact zl1 x y
 ·exact zkx x y
 ·exact V0 x y
noncomputable def GQA:=tb zje (tb zoj (tb zjx (tb zpu (tb zru tz))))
def ze6:Ctr:=ctrP true (λp:L8×L8=>[.str p.1,.str p.2]) (λp=>p.1.length<2^61/\p.2.length<2^61) (λp r=>r=addR p.1 p.2) (λ_ r=>(.tup [.str r.1,.i r.2],[]))
def za6:Ctr:=ctrP true (λp:L8×L8=>[.str p.1,.str p.2]) (λp=>p.1.length<2^61/\p.2.length<2^61) (λp r=>r=subR p.1 p.2) (λ_ r=>(.tup [.str r.1,.i r.2],[]))
def WQ:Ctr:=ctrP true (λp:L8×L8=>[.str p.1,.str p.2]) (λp=>p.1.length<2^61/\p.2.length<2^61) (λp r=>r=mulR p.1 p.2) (λ_ r=>(.tup [.str r.1,.i r.2],[]))
def zl9:Ctr:=ctrP true (λp:L8×L8=>[.str p.1,.str p.2]) (λp=>p.1.length<2^61/\p.2.length<2^61) (λp r=>r=cmpR p.1 p.2) (λ_ r=>(.tup [.i r.1,.i r.2],[]))
abbrev q32(A:List AV)(H:Heap)(x:Pr×L8×L8):Prop:=eqL A [.ptr 0 0,.str x.2.1,.str x.2.2]/\eqH H [.box [.str x.1.n,.str x.1.m,.str x.1.d,.str x.1.c,.i x.1.e]]/\1=1/\x.2.1.length<4611686018427387904/\x.2.2.length<4611686018427387904
abbrev q31(A:List AV)(H:Heap)(x:KX):Prop:=eqL A [.str x.x,.str x.y,.ptr 0 0,.ptr 2 0]/\eqH H [.box [.ptr 1 0],.box [.str x.p.n,.str x.p.m,.str x.p.d,.str x.p.c,.i x.p.e],.box [.fn (QOp.fn x.o) [] []]]/\3=3/\x.x.length<4611686018427387904/\x.y.length<4611686018427387904/\QOp.has x.o
abbrev q30(A:List AV)(H:Heap)(x:Pr×QOp):Prop:=eqL A [.ptr 0 0,.fn (QOp.fn x.2) [] []]/\eqH H [.box [.str x.1.n,.str x.1.m,.str x.1.d,.str x.1.c,.i x.1.e]]/\1=1/\True
abbrev q29(A:List AV)(H:Heap)(x:L8×L8):Prop:=eqL A [.str x.1,.str x.2]/\eqH H []/\0=0/\x.1.length<4611686018427387904/\x.2.length<4611686018427387904
theorem XN:ze prog 57 ze6:=by
 refine zh' f57 λp hp O w0 Q hq=> ?_
 obtain⟨a,b⟩:=p;obtain⟨h1,h2⟩:=hp;replace hq:=hq _ rfl;simp only at h1 h2 hq;refine zc.n GQA.h [] (let v5:=[AV.ptr 1 0];.ex (q29 [.str a,.str b] []) λn=>.all (λ(r:Pr)=>r=j5 n.1 n.2) λn=>.ex (q30 [.ptr 0 0,.fn 77 [] []] [.box [.str n.n,.str n.m,.str n.d,.str n.c,.i n.e]]) λn=>.A λn_1=>.ex (q30 [.ptr 0 0,.fn 88 [] []] [.box [.str n.1.n,.str n.1.m,.str n.1.d,.str n.1.c,.i n.1.e]]) λn_2=>.A λn_3=>.side ((0:Int)<=0/\(0:Int)<2) (.side ((0:Int)<=1/\(1:Int)<2) (.side ((0:Int)<=1/\(1:Int)<2) (.side ((0:Int)<=0/\(0:Int)<2) (.side ((0:Int)<=0/\(0:Int)<2) (.side ((0:Int)<=1/\(1:Int)<2) (.ex (q31 [.str n_2.1.n,.str n_2.1.c,.ptr 0 0,.ptr 2 0] [.box v5,.box [.str n_2.1.n,.str n_2.1.m,.str n_2.1.d,.str n_2.1.c,.i n_2.1.e],.box [.fn (QOp.fn n.2) [] []]]) λn=>.all (λ(r:L8×Int)=>r=if Pr.e n.p≠0 then([],Pr.e n.p) else QOp.op n.o n.x n.y) λn_4=>let v1:=Pr.err n.p n_4.2;.side (Pr.c v1=Pr.c n_2.1) (.side (Pr.d v1=Pr.d n_2.1) (.side (Pr.d v1=Pr.d n_2.1) (.side (Pr.m v1=Pr.m n_2.1) (.ex (q31 [.str n_2.1.m,.str n_2.1.d,.ptr 0 0,.ptr 2 0] [.box v5,.box [.str v1.n,.str v1.m,.str v1.d,.str v1.c,.i v1.e],.box [.fn (QOp.fn n.o) [] []]]) λn=>.all (λ(r:L8×Int)=>r=if Pr.e n.p≠0 then([],Pr.e n.p) else QOp.op n.o n.x n.y) λn_5=>let v3:=Pr.err n.p n_5.2;.side (Pr.c v3=Pr.c n_2.1) (.side (Pr.d v3=Pr.d n_2.1) (.ex (q31 [.str n_4.1,.str n_5.1,.ptr 0 0,.ptr 2 0] [.box v5,.box [.str v3.n,.str v3.m,.str v3.d,.str v3.c,.i v3.e],.box [.fn (QOp.fn n_2.2) [] []]]) λn_6=>.all (λ(r:L8×Int)=>r=if Pr.e n_6.p≠0 then([],Pr.e n_6.p) else QOp.op n_6.o n_6.x n_6.y) λn_7=>let v2:=Pr.err n_6.p n_7.2;.side (Pr.c v2=Pr.c n_2.1) (.side (Pr.d v2=Pr.d n_2.1) (.ex (q31 [.str n_2.1.d,.str n_2.1.c,.ptr 0 0,.ptr 2 0] [.box v5,.box [.str v2.n,.str v2.m,.str v2.d,.str v2.c,.i v2.e],.box [.fn (QOp.fn n.o) [] []]]) λn=>.all (λ(r:L8×Int)=>r=if Pr.e n.p≠0 then([],Pr.e n.p) else QOp.op n.o n.x n.y) λn_8=>let v4:=Pr.err n.p n_8.2;.ex (q32 [.ptr 0 0,.str n_7.1,.str n_8.1] [.box [.str v4.n,.str v4.m,.str v4.d,.str v4.c,.i v4.e]]) λn_9=>.all (λ(r:L8×Int)=>r=if Pr.e n_9.1≠0 then([],Pr.e n_9.1) else wy n_9.2.1 n_9.2.2) λn_10=>.R [.str n_10.1,.i n_10.2] [.box [.str n_9.1.n,.str n_9.1.m,.str n_9.1.d,.str n_9.1.c,.i n_9.1.e],.box [.ptr 0 0],.box [.fn (QOp.fn n.o) [] []],.box [.ptr 0 0],.box [.fn (QOp.fn n_6.o) [] []]]))))))))))))))) ?_;simp only [q29,q30,q31,q32,Tree.holds,zf];refine⟨(a,b),⟨⟨rfl,rfl,trivial⟩,trivial,by trivial,by show a.length<_; omega,by show b.length<_; omega⟩,⟨_,rfl⟩,?_⟩;intro p hp;have hc:=kM a b;obtain⟨l1,l2,l3,l4⟩:=ur a b;rw [<- hp] at hc l1 l2 l3 l4;refine⟨(p,.mul),⟨kx_k _,kx_b p,by trivial,trivial⟩,⟨(),trivial⟩,?_⟩;intro _ _;refine⟨(p,.add),⟨kx_k _,kx_b p,by trivial,trivial⟩,⟨(),trivial⟩,?_⟩;intro _ _
 iterate 6 refine⟨by decide,λ_=> ?_⟩
 refine⟨⟨p,.mul,p.n,p.c⟩,⟨kx_l _ _,kx_h (p) _,by trivial,by show(p.n).length<_; omega,by show(p.c).length<_; omega,by trivial⟩,⟨_,rfl⟩,?_⟩;intro r1 hr1;have kr1:=qJ _ _ _ _ hr1
 iterate 4 refine⟨rfl,λ_=> ?_⟩
 refine⟨⟨p.err r1.2,.mul,p.m,p.d⟩,⟨kx_l _ _,kx_h (p.err r1.2) _,by trivial,by show(p.m).length<_; omega,by show(p.d).length<_; omega,by trivial⟩,⟨_,rfl⟩,?_⟩;intro r2 hr2;have kr2:=qJ _ _ _ _ hr2
 iterate 2 refine⟨rfl,λ_=> ?_⟩
 refine⟨⟨(p.err r1.2).err r2.2,.add,r1.1,r2.1⟩,⟨kx_l _ _,kx_h ((p.err r1.2).err r2.2) _,by trivial,by show(r1.1).length<_; omega,by show(r2.1).length<_; omega,by trivial⟩,⟨_,rfl⟩,?_⟩;intro r3 hr3;have kr3:=qJ _ _ _ _ hr3
 iterate 2 refine⟨rfl,λ_=> ?_⟩
 refine⟨⟨((p.err r1.2).err r2.2).err r3.2,.mul,p.d,p.c⟩,⟨kx_l _ _,kx_h (((p.err r1.2).err r2.2).err r3.2) _,by trivial,by show(p.d).length<_; omega,by show(p.c).length<_; omega,by trivial⟩,⟨_,rfl⟩,?_⟩;intro r4 hr4;have kr4:=qJ _ _ _ _ hr4;refine⟨((((p.err r1.2).err r2.2).err r3.2).err r4.2,r3.1,r4.1),⟨kx_m _ _,kx_b _,by trivial,by show(r3.1).length<_; omega,by show(r4.1).length<_; omega⟩,⟨_,rfl⟩,?_⟩;intro r5 hr5;have hfin:=Jn hc (λ{s t} =>zji (s:=s) (t:=t)) hr1 hr2 hr3 hr4 hr5;have e:r5=addR a b:=hfin;rw [<- e] at hq;exact RetR.scal hq rfl (by simp [resV])
theorem JK:ze prog 43 za6:=by
 refine zh' f43 λp hp O w0 Q hq=> ?_
 obtain⟨a,b⟩:=p;obtain⟨h1,h2⟩:=hp;replace hq:=hq _ rfl;simp only at h1 h2 hq;refine zc.n GQA.h [] (let v5:=[AV.ptr 1 0];.ex (q29 [.str a,.str b] []) λn=>.all (λ(r:Pr)=>r=j5 n.1 n.2) λn=>.ex (q30 [.ptr 0 0,.fn 77 [] []] [.box [.str n.n,.str n.m,.str n.d,.str n.c,.i n.e]]) λn=>.A λn_1=>.ex (q30 [.ptr 0 0,.fn 79 [] []] [.box [.str n.1.n,.str n.1.m,.str n.1.d,.str n.1.c,.i n.1.e]]) λn_2=>.A λn_3=>.side ((0:Int)<=0/\(0:Int)<2) (.side ((0:Int)<=1/\(1:Int)<2) (.side ((0:Int)<=1/\(1:Int)<2) (.side ((0:Int)<=0/\(0:Int)<2) (.side ((0:Int)<=0/\(0:Int)<2) (.side ((0:Int)<=1/\(1:Int)<2) (.ex (q31 [.str n_2.1.n,.str n_2.1.c,.ptr 0 0,.ptr 2 0] [.box v5,.box [.str n_2.1.n,.str n_2.1.m,.str n_2.1.d,.str n_2.1.c,.i n_2.1.e],.box [.fn (QOp.fn n.2) [] []]]) λn=>.all (λ(r:L8×Int)=>r=if Pr.e n.p≠0 then([],Pr.e n.p) else QOp.op n.o n.x n.y) λn_4=>let v1:=Pr.err n.p n_4.2;.side (Pr.c v1=Pr.c n_2.1) (.side (Pr.d v1=Pr.d n_2.1) (.side (Pr.d v1=Pr.d n_2.1) (.side (Pr.m v1=Pr.m n_2.1) (.ex (q31 [.str n_2.1.m,.str n_2.1.d,.ptr 0 0,.ptr 2 0] [.box v5,.box [.str v1.n,.str v1.m,.str v1.d,.str v1.c,.i v1.e],.box [.fn (QOp.fn n.o) [] []]]) λn=>.all (λ(r:L8×Int)=>r=if Pr.e n.p≠0 then([],Pr.e n.p) else QOp.op n.o n.x n.y) λn_5=>let v3:=Pr.err n.p n_5.2;.side (Pr.c v3=Pr.c n_2.1) (.side (Pr.d v3=Pr.d n_2.1) (.ex (q31 [.str n_4.1,.str n_5.1,.ptr 0 0,.ptr 2 0] [.box v5,.box [.str v3.n,.str v3.m,.str v3.d,.str v3.c,.i v3.e],.box [.fn (QOp.fn n_2.2) [] []]]) λn_6=>.all (λ(r:L8×Int)=>r=if Pr.e n_6.p≠0 then([],Pr.e n_6.p) else QOp.op n_6.o n_6.x n_6.y) λn_7=>let v2:=Pr.err n_6.p n_7.2;.side (Pr.c v2=Pr.c n_2.1) (.side (Pr.d v2=Pr.d n_2.1) (.ex (q31 [.str n_2.1.d,.str n_2.1.c,.ptr 0 0,.ptr 2 0] [.box v5,.box [.str v2.n,.str v2.m,.str v2.d,.str v2.c,.i v2.e],.box [.fn (QOp.fn n.o) [] []]]) λn=>.all (λ(r:L8×Int)=>r=if Pr.e n.p≠0 then([],Pr.e n.p) else QOp.op n.o n.x n.y) λn_8=>let v4:=Pr.err n.p n_8.2;.ex (q32 [.ptr 0 0,.str n_7.1,.str n_8.1] [.box [.str v4.n,.str v4.m,.str v4.d,.str v4.c,.i v4.e]]) λn_9=>.all (λ(r:L8×Int)=>r=if Pr.e n_9.1≠0 then([],Pr.e n_9.1) else wy n_9.2.1 n_9.2.2) λn_10=>.R [.str n_10.1,.i n_10.2] [.box [.str n_9.1.n,.str n_9.1.m,.str n_9.1.d,.str n_9.1.c,.i n_9.1.e],.box [.ptr 0 0],.box [.fn (QOp.fn n.o) [] []],.box [.ptr 0 0],.box [.fn (QOp.fn n_6.o) [] []]]))))))))))))))) ?_;simp only [q29,q30,q31,q32,Tree.holds,zf];refine⟨(a,b),⟨⟨rfl,rfl,trivial⟩,trivial,by trivial,by show a.length<_; omega,by show b.length<_; omega⟩,⟨_,rfl⟩,?_⟩;intro p hp;have hc:=kM a b;obtain⟨l1,l2,l3,l4⟩:=ur a b;rw [<- hp] at hc l1 l2 l3 l4;refine⟨(p,.mul),⟨kx_k _,kx_b p,by trivial,trivial⟩,⟨(),trivial⟩,?_⟩;intro _ _;refine⟨(p,.sub),⟨kx_k _,kx_b p,by trivial,trivial⟩,⟨(),trivial⟩,?_⟩;intro _ _
 iterate 6 refine⟨by decide,λ_=> ?_⟩
 refine⟨⟨p,.mul,p.n,p.c⟩,⟨kx_l _ _,kx_h (p) _,by trivial,by show(p.n).length<_; omega,by show(p.c).length<_; omega,by trivial⟩,⟨_,rfl⟩,?_⟩;intro r1 hr1;have kr1:=qJ _ _ _ _ hr1
 iterate 4 refine⟨rfl,λ_=> ?_⟩
 refine⟨⟨p.err r1.2,.mul,p.m,p.d⟩,⟨kx_l _ _,kx_h (p.err r1.2) _,by trivial,by show(p.m).length<_; omega,by show(p.d).length<_; omega,by trivial⟩,⟨_,rfl⟩,?_⟩;intro r2 hr2;have kr2:=qJ _ _ _ _ hr2
 iterate 2 refine⟨rfl,λ_=> ?_⟩
 refine⟨⟨(p.err r1.2).err r2.2,.sub,r1.1,r2.1⟩,⟨kx_l _ _,kx_h ((p.err r1.2).err r2.2) _,by trivial,by show(r1.1).length<_; omega,by show(r2.1).length<_; omega,by trivial⟩,⟨_,rfl⟩,?_⟩;intro r3 hr3;have kr3:=qJ _ _ _ _ hr3
 iterate 2 refine⟨rfl,λ_=> ?_⟩
 refine⟨⟨((p.err r1.2).err r2.2).err r3.2,.mul,p.d,p.c⟩,⟨kx_l _ _,kx_h (((p.err r1.2).err r2.2).err r3.2) _,by trivial,by show(p.d).length<_; omega,by show(p.c).length<_; omega,by trivial⟩,⟨_,rfl⟩,?_⟩;intro r4 hr4;have kr4:=qJ _ _ _ _ hr4;refine⟨((((p.err r1.2).err r2.2).err r3.2).err r4.2,r3.1,r4.1),⟨kx_m _ _,kx_b _,by trivial,by show(r3.1).length<_; omega,by show(r4.1).length<_; omega⟩,⟨_,rfl⟩,?_⟩;intro r5 hr5;have hfin:=Jn hc (λ{s t} =>zov (s:=s) (t:=t)) hr1 hr2 hr3 hr4 hr5;have e:r5=subR a b:=hfin;rw [<- e] at hq;exact RetR.scal hq rfl (by simp [resV])
theorem yY:ze prog 42 WQ:=by
 refine zh' f42 λp hp O w0 Q hq=> ?_
 obtain⟨a,b⟩:=p;obtain⟨h1,h2⟩:=hp;replace hq:=hq _ rfl;simp only at h1 h2 hq;refine zc.n GQA.h [] (.ex (q29 [.str a,.str b] []) λn=>.all (λ(r:Pr)=>r=j5 n.1 n.2) λn=>.ex (q30 [.ptr 0 0,.fn 77 [] []] [.box [.str n.n,.str n.m,.str n.d,.str n.c,.i n.e]]) λn=>.A λn_1=>.side ((0:Int)<=0/\(0:Int)<2) (.side ((0:Int)<=1/\(1:Int)<2) (.side ((0:Int)<=0/\(0:Int)<2) (.side ((0:Int)<=1/\(1:Int)<2) (.ex (q31 [.str n.1.n,.str n.1.m,.ptr 0 0,.ptr 2 0] [.box [.ptr 1 0],.box [.str n.1.n,.str n.1.m,.str n.1.d,.str n.1.c,.i n.1.e],.box [.fn (QOp.fn n.2) [] []]]) λn_2=>.all (λ(r:L8×Int)=>r=if Pr.e n_2.p≠0 then([],Pr.e n_2.p) else QOp.op n_2.o n_2.x n_2.y) λn_3=>let v1:=Pr.err n_2.p n_3.2;.side (Pr.c v1=Pr.c n.1) (.side (Pr.d v1=Pr.d n.1) (.ex (q31 [.str n.1.d,.str n.1.c,.ptr 0 0,.ptr 2 0] [.box [.ptr 1 0],.box [.str v1.n,.str v1.m,.str v1.d,.str v1.c,.i v1.e],.box [.fn (QOp.fn n_2.o) [] []]]) λn=>.all (λ(r:L8×Int)=>r=if Pr.e n.p≠0 then([],Pr.e n.p) else QOp.op n.o n.x n.y) λn_4=>let v2:=Pr.err n.p n_4.2;.ex (q32 [.ptr 0 0,.str n_3.1,.str n_4.1] [.box [.str v2.n,.str v2.m,.str v2.d,.str v2.c,.i v2.e]]) λn_5=>.all (λ(r:L8×Int)=>r=if Pr.e n_5.1≠0 then([],Pr.e n_5.1) else wy n_5.2.1 n_5.2.2) λn_6=>.R [.str n_6.1,.i n_6.2] [.box [.str n_5.1.n,.str n_5.1.m,.str n_5.1.d,.str n_5.1.c,.i n_5.1.e],.box [.ptr 0 0],.box [.fn (QOp.fn n.o) [] []]]))))))) ?_;simp only [q29,q30,q31,q32,Tree.holds,zf];refine⟨(a,b),⟨⟨rfl,rfl,trivial⟩,trivial,by trivial,by show a.length<_; omega,by show b.length<_; omega⟩,⟨_,rfl⟩,?_⟩;intro p hp;have hc:=kM a b;obtain⟨l1,l2,l3,l4⟩:=ur a b;rw [<- hp] at hc l1 l2 l3 l4;refine⟨(p,.mul),⟨kx_k _,kx_b p,by trivial,trivial⟩,⟨(),trivial⟩,?_⟩;intro _ _
 iterate 4 refine⟨by decide,λ_=> ?_⟩
 refine⟨⟨p,.mul,p.n,p.m⟩,⟨kx_l _ _,kx_h (p) _,by trivial,by show(p.n).length<_; omega,by show(p.m).length<_; omega,by trivial⟩,⟨_,rfl⟩,?_⟩;intro r1 hr1;have kr1:=qJ _ _ _ _ hr1
 iterate 2 refine⟨rfl,λ_=> ?_⟩
 refine⟨⟨p.err r1.2,.mul,p.d,p.c⟩,⟨kx_l _ _,kx_h (p.err r1.2) _,by trivial,by show(p.d).length<_; omega,by show(p.c).length<_; omega,by trivial⟩,⟨_,rfl⟩,?_⟩;intro r2 hr2;have kr2:=qJ _ _ _ _ hr2;refine⟨((p.err r1.2).err r2.2,r1.1,r2.1),⟨kx_m _ _,kx_b _,by trivial,by show(r1.1).length<_; omega,by show(r2.1).length<_; omega⟩,⟨_,rfl⟩,?_⟩;intro r3 hr3
 have hv:errR a=0->errR b=0->zx p.n p.m=0/\zx p.d p.c=0:=by
  intro ha hb;obtain⟨a1,a2,_⟩:=qR ha;obtain⟨b1,b2,_⟩:=qR hb;rcases hc with ⟨g1,g2⟩ | ⟨_,_,_,g1,g2,g3,g4⟩
  ·exact absurd g2 (by unfold qG; rw [aP ha,hb]; exactλh=>g1 h.symm)
  ·rw [g1,g2,g3,g4]; exact⟨zn.2 ⟨a1,b1⟩,zn.2 ⟨a2,b2⟩⟩
 have hfin:=zid hc hr1 hr2 hr3 hv
 have e:r3=mulR a b:=by
  rw [hfin];unfold mulR;rcases hc with ⟨g1,g2⟩ | ⟨_,_,_,g1,g2,g3,g4⟩
  ·rw [aP (by rw [g2]; exact g1),aP (by rw [g2]; exact g1)]
  ·rw [g1,g2,g3,g4]
 rw [<- e] at hq;exact RetR.scal hq rfl (by simp [resV])
theorem zfr:ze prog 44 zl9:=by
 refine zh' f44 λp hp O w0 Q hq=> ?_
 obtain⟨a,b⟩:=p;obtain⟨h1,h2⟩:=hp;replace hq:=hq _ rfl;simp only at h1 h2 hq;refine zc.n GQA.h [] (.ex (q29 [.str a,.str b] []) λn=>.all (λ(r:Pr)=>r=j5 n.1 n.2) λn=>.ex (q30 [.ptr 0 0,.fn 77 [] []] [.box [.str n.n,.str n.m,.str n.d,.str n.c,.i n.e]]) λn=>.A λn_1=>.side ((0:Int)<=0/\(0:Int)<2) (.side ((0:Int)<=1/\(1:Int)<2) (.side ((0:Int)<=1/\(1:Int)<2) (.side ((0:Int)<=0/\(0:Int)<2) (.ex (q31 [.str n.1.n,.str n.1.c,.ptr 0 0,.ptr 2 0] [.box [.ptr 1 0],.box [.str n.1.n,.str n.1.m,.str n.1.d,.str n.1.c,.i n.1.e],.box [.fn (QOp.fn n.2) [] []]]) λn_2=>.all (λ(r:L8×Int)=>r=if Pr.e n_2.p≠0 then([],Pr.e n_2.p) else QOp.op n_2.o n_2.x n_2.y) λn_3=>let v2:=Pr.err n_2.p n_3.2;.side (Pr.d v2=Pr.d n.1) (.side (Pr.m v2=Pr.m n.1) (.ex (q31 [.str n.1.m,.str n.1.d,.ptr 0 0,.ptr 2 0] [.box [.ptr 1 0],.box [.str v2.n,.str v2.m,.str v2.d,.str v2.c,.i v2.e],.box [.fn (QOp.fn n_2.o) [] []]]) λn=>.all (λ(r:L8×Int)=>r=if Pr.e n.p≠0 then([],Pr.e n.p) else QOp.op n.o n.x n.y) λn_4=>let v3:=Pr.err n.p n_4.2;let v1:List Blk:=[.box [.str v3.n,.str v3.m,.str v3.d,.str v3.c,.i v3.e],.box [.ptr 0 0],.box [.fn (QOp.fn n.o) [] []]];.N (Pr.e v3=(0:Int)) (.R [.i 0,.i v3.e] v1) (.ex (q17 [.str n_3.1,.str n_4.1]) λn_5=>.all (λ(r:Int×Int)=>r=kB n_5.1 n_5.2) λn_6=>.R [.i n_6.1,.i n_6.2] v1)))))))) ?_;simp only [q17,q29,q30,q31,Tree.holds,zf];refine⟨(a,b),⟨⟨rfl,rfl,trivial⟩,trivial,by trivial,by show a.length<_; omega,by show b.length<_; omega⟩,⟨_,rfl⟩,?_⟩;intro p hp;have hc:=kM a b;obtain⟨l1,l2,l3,l4⟩:=ur a b;rw [<- hp] at hc l1 l2 l3 l4;refine⟨(p,.mul),⟨kx_k _,kx_b p,by trivial,trivial⟩,⟨(),trivial⟩,?_⟩;intro _ _
 iterate 4 refine⟨by decide,λ_=> ?_⟩
 refine⟨⟨p,.mul,p.n,p.c⟩,⟨kx_l _ _,kx_h (p) _,by trivial,by show(p.n).length<_; omega,by show(p.c).length<_; omega,by trivial⟩,⟨_,rfl⟩,?_⟩;intro r1 hr1;have kr1:=qJ _ _ _ _ hr1
 iterate 2 refine⟨rfl,λ_=> ?_⟩
 refine⟨⟨p.err r1.2,.mul,p.m,p.d⟩,⟨kx_l _ _,kx_h (p.err r1.2) _,by trivial,by show(p.m).length<_; omega,by show(p.d).length<_; omega,by trivial⟩,⟨_,rfl⟩,?_⟩;intro r2 hr2;have kr2:=qJ _ _ _ _ hr2;have hfin:=zhb hc hr1 hr2;refine⟨λh=> ?_,λh=>⟨(r1.1,r2.1),⟨⟨rfl,rfl,trivial⟩,by show r1.1.length<_; omega,by show r2.1.length<_; omega⟩,⟨_,rfl⟩,?_⟩⟩
 ·have h:r2.2≠0:=by
   intro h0;have h':(!decide (r2.2=0))=true:=h;rw [h0] at h'; cases h'
  rw [aP h] at hfin;rw [<- hfin] at hq;exact RetR.scal hq rfl (by simp [resV,Pr.err])
 ·have h:r2.2=0:=by
   have h':(!decide (r2.2=0))=false:=h;cases hd:decide (r2.2=0) with
   | true=>exact aB hd
   | false=>rw [hd] at h'; cases h'
  rw [aO (by rw [h]; simp)] at hfin;rintro _ rfl;rw [<- hfin] at hq;exact RetR.scal hq rfl (by simp [resV])
noncomputable def K72:=Go.Sx.aA f72
def nanS:Ctr:=ctrP true (λs:L8=>[.str s]) (λ_=>True) (λs r=>r=false) (λ_ (r:Bool)=>(.bool r,[]))
def nanI:Ctr:=ctrP true (λx:Int=>[.i x]) (λ_=>True) (λs r=>r=false) (λ_ (r:Bool)=>(.bool r,[]))
theorem zpj:ze prog 100 nanS:=by
 refine zh' f100 λs hs O w0 Q hq=> ?_
 replace hq:=hq _ rfl;refine zc.n zw [] (.R [.bool !decide (s=s)] []) ?_;simp only [Tree.holds,zf];exact RetR.scal hq rfl (by simp [resV])
theorem zrw:ze prog 101 nanI:=by
 refine zh' f101 λs hs O w0 Q hq=> ?_
 replace hq:=hq _ rfl;refine zc.n zw [] (.R [.bool !decide (s=s)] []) ?_;simp only [Tree.holds,zf];exact RetR.scal hq rfl (by simp [resV])
def zta:Ctr:=ctrP true (λp:L8×L8=>[.str p.1,.str p.2]) (λ_=>True) (λp r=>r=cmpS p.1 p.2) (λ_ (r:Int)=>(.i r,[]))
def ztg:Ctr:=ctrP true (λp:Int×Int=>[.i p.1,.i p.2]) (λ_=>True) (λp r=>r=cmpI p.1 p.2) (λ_ (r:Int)=>(.i r,[]))
noncomputable def GN2:=tb zpj (tb zrw tz)
abbrev q33(A:List AV)(x:L8):Prop:=eqL A [.str x]/\True
theorem zrd:ze prog 73 zta:=by
 refine zh' f73 λp hs O w0 Q hq=> ?_
 obtain⟨s,t⟩:=p;replace hq:=hq _ rfl;simp only at hq;refine zc.n GN2.h [] (.ex (q33 [.str s]) λn=>.all (λ(r:Bool)=>r=false) λn=>.ex (q33 [.str t]) λn_1=>.all (λ(r:Bool)=>r=false) λn_2=>.ite n (.ite n_2 (.R [.int .i64 0] []) (.R [.int .i64 (-1:Int)] [])) (.ite n_2 (.R [.int .i64 1] []) (.ite (Op.bytesLess s t) (.R [.int .i64 (-1:Int)] []) (.ite (!(Op.bytesLess s t||decide (s=t))) (.R [.int .i64 1] []) (.R [.int .i64 0] []))))) ?_;simp only [q33,Tree.holds,zf];refine⟨s,⟨by simp,trivial⟩,⟨_,rfl⟩,?_⟩;rintro _ rfl;refine⟨t,⟨by simp,trivial⟩,⟨_,rfl⟩,?_⟩;rintro _ rfl;refine⟨λh=>(by cases h),λ_=>⟨λh=>(by cases h),λ_=>⟨λh=> ?_,λh=>⟨λh2=> ?_,λh2=> ?_⟩⟩⟩⟩
 ·have:cmpS s t = -1:=by simp [cmpS,h]
  rw [this] at hq; exact RetR.scal hq rfl (by simp [resV])
 ·have h2:s≠t:=by simpa [h] using h2
  have:cmpS s t=1:=by simp [cmpS,h,h2]
  rw [this] at hq; exact RetR.scal hq rfl (by simp [resV])
 ·have h2:s=t:=by simpa [h] using h2
  subst h2;have:cmpS s s=0:=by simp [cmpS,h]
  rw [this] at hq; exact RetR.scal hq rfl (by simp [resV])
abbrev q34(A:List AV)(x:Int):Prop:=eqL A [.i x]/\True
theorem zr8:ze prog 74 ztg:=by
 refine zh' f74 λp hs O w0 Q hq=> ?_
 obtain⟨s,t⟩:=p;replace hq:=hq _ rfl;simp only at hq;refine zc.n GN2.h [] (.ex (q34 [.i s]) λn=>.all (λ(r:Bool)=>r=false) λn=>.ex (q34 [.i t]) λn_1=>.all (λ(r:Bool)=>r=false) λn_2=>.ite n (.ite n_2 (.R [.i 0] []) (.R [.i (-1:Int)] [])) (.ite n_2 (.R [.i 1] []) (.D (s<t) (.R [.i (-1:Int)] []) (.D (t<s) (.R [.i 1] []) (.R [.i 0] []))))) ?_;simp only [q34,Tree.holds,zf];refine⟨s,⟨by simp,trivial⟩,⟨_,rfl⟩,?_⟩;rintro _ rfl;refine⟨t,⟨by simp,trivial⟩,⟨_,rfl⟩,?_⟩;rintro _ rfl;refine⟨λh=>(by cases h),λ_=>⟨λh=>(by cases h),λ_=>⟨λh=> ?_,λh=>⟨λh2=> ?_,λh2=> ?_⟩⟩⟩⟩
 ·have h:=aB h;have:cmpI s t = -1:=by simp [cmpI,h]
  rw [this] at hq; exact RetR.scal hq rfl (by simp [resV])
 ·have h:=aC h;have h2:=aB h2;have:cmpI s t=1:=by simp [cmpI,h,h2]
  rw [this] at hq; exact RetR.scal hq rfl (by simp [resV])
 ·have h:=aC h;have h2:=aC h2;have:cmpI s t=0:=by simp [cmpI,h,h2]
  rw [this] at hq; exact RetR.scal hq rfl (by simp [resV])
def orC:Ctr:=ctrP true (λl:List Int=>[.sl l.length 1 (λj _=>.i (l.getD j 0))]) (λl=>l.length<2^40) (λl r=>r=orI l) (λ_ (r:Int)=>(.i r,[]))
def SOr(l:List Int)(i:Nat):KV:=[(3,.i 0),(6,.sl l.length 1 (λj _=>.i (l.getD j 0))),(7,.i (l.length:Int)),(8,.i (i:Int))]
theorem zw7:ze prog 72 orC:=by
 refine zh' f72 λl hl O w0 Q hq=> ?_
 replace hq:=hq _ rfl;refine zc.n zw [3,6,7,8] (.leaf (.loop (lps K72 0).1 (lps K72 0).2 [(3,.i 0),(6,.sl l.length 1 λ(j x:Nat)=>.i (l.getD j (0:Int))),(7,.i l.length),(8,.i 0)] [])) ?_;simp only [Tree.holds,zf];refine zc.loop (ι:={i:Nat // i<=l.length/\orI (l.drop i)=orI l}) (λi=>SOr l i.1) (λ_=>[]) (λi=>l.length - i.1) ⟨0,aI _,rfl⟩ 0 ?_ ?_ (by kernel_rfl)
 ·exact⟨by simp [SOr,za],by simp,by kernel_rfl,aI _⟩
 ·rintro⟨i,hil,hio⟩;refine zc.n zw [3,6,7,8] (.D ((i:Int)<l.length) (.side ((0:Int)<=i/\(i:Int)<l.length) (.N (l.getD (i:Int).toNat (0:Int)=0) (.R [.i (l.getD (i:Int).toNat (0:Int))] []) (.S (i+1) (.leaf (.back 0 [(3,.i 0),(6,.sl l.length 1 λ(j x:Nat)=>.i (l.getD j (0:Int))),(7,.i l.length),(8,.i (i+1))] []))))) (.R [.i 0] [])) ?_;simp only [Tree.holds,zf,inR,lo,hi,aD];refine⟨λhlt=> ?_,λhge=> ?_⟩
  ·have hlt:i<l.length:=by have:=aB hlt; omega
   have hd:l.drop i=l.getD i 0::l.drop (i+1):=by
    rw [List.drop_eq_getElem_cons hlt]; simp [List.getD,hlt]
   rw [hd] at hio;refine⟨by omega,λ_=>⟨λh=> ?_,λh=>⟨by omega,λ_=> ?_⟩⟩⟩
   ·have h:l.getD i 0≠0:=by simpa using h
    have:orI l=l.getD i 0:=by rw [<- hio]; simp only [orI]; rw [aO h]
    rw [this] at hq; exact RetR.scal hq rfl (by simp [resV])
   ·have h:l.getD i 0=0:=by simpa using h
    rw [aP trivial];refine⟨⟨i+1,hlt,?_⟩,by show l.length - (i+1)<l.length - i; omega,by simp [SOr,za],by simp,by kernel_rfl,aI _⟩;rw [<- hio]; simp only [orI]; rw [aP h]
  ·have hge:i=l.length:=by have:=aC hge; omega
   subst hge;rw [List.drop_length] at hio;rw [<- hio] at hq; exact RetR.scal hq rfl (by simp [resV,orI])
def Vc:Ctr:=ctrP true (λp:Fx×Fx=>[p.1.av,p.2.av]) (λ_=>True) (λp r=>r=cmpF p.1 p.2) (λ_ (r:Int)=>(.i r,[]))
def V9:Ctr:=ctrP true (λp:Ch×Ch=>[p.1.av,p.2.av]) (λ_=>True) (λp r=>r=cmpC p.1 p.2) (λ_ (r:Int)=>(.i r,[]))
noncomputable def GN3:=tb zrd (tb zr8 (tb zw7 tz))
theorem zgy(x y:Int):eqG 2 1 (zi (zj 1 [.i x,.i y]) 0) (λj _=>.i ([x,y].getD j 0)):=by
 intro j o hj ho;have ho:o=0:=by omega
 subst ho;rcases j with _ | _ | j
 ·rfl
 ·rfl
 ·omega
theorem zie(x y z:Int):eqG 3 1 (zi (zj 1 [.i x,.i y,.i z]) 0) (λj _=>.i ([x,y,z].getD j 0)):=by
 intro j o hj ho;have ho:o=0:=by omega
 subst ho;rcases j with _ | _ | _ | j
 ·rfl
 ·rfl
 ·rfl
 ·omega
abbrev q36(A:List AV)(x:Int×Int):Prop:=eqL A [.i x.1,.i x.2]/\True
abbrev q35(A:List AV)(x:L8×L8):Prop:=eqL A [.str x.1,.str x.2]/\True
theorem W9:ze prog 41 Vc:=by
 refine zh' f41 λp hs O w0 Q hq=> ?_
 obtain⟨⟨a,d,v⟩,⟨b,e,u⟩⟩:=p;replace hq:=hq _ rfl;simp only at hq;refine zc.n GN3.h [] (.ex (q35 [.str a,.str b]) λn=>.all (λ(r:Int)=>r=cmpS n.1 n.2) λn=>.ex (q36 [.i d,.i e]) λn_1=>.all (λ(r:Int)=>r=cmpI n_1.1 n_1.2) λn_2=>.ex (λ(x:List Int)=>eqL [.sl 2 1 (zi (zj 1 [.i n,.i n_2]) 0)] [.sl x.length 1 λ(j x_1:Nat)=>AV.i (x.getD j (0:Int))]/\x.length<1099511627776) λn_3=>.all (λ(r:Int)=>r=orI n_3) λn_4=>.R [.i n_4] [.box [.str a,.i d,.str v],.box [.str b,.i e,.str u],.arr 2 1 (zj 1 [.i n,.i n_2])]) ?_;simp only [q35,q36,Tree.holds,zf];refine⟨(a,b),⟨by simp,trivial⟩,⟨_,rfl⟩,?_⟩;rintro _ rfl;refine⟨(d,e),⟨by simp,trivial⟩,⟨_,rfl⟩,?_⟩;rintro _ rfl;refine⟨[cmpS a b,cmpI d e],⟨⟨⟨rfl,rfl,zgy _ _⟩,trivial⟩,by simp⟩,⟨_,rfl⟩,?_⟩;rintro _ rfl
 have:orI [cmpS a b,cmpI d e]=cmpF ⟨a,d,v⟩ ⟨b,e,u⟩:=by
  simp only [orI,cmpF];by_cases h:cmpS a b=0
  ·simp only [h,if_true]; split<;>simp_all
  ·simp only [aO h]
 rw [this];exact RetR.scal hq rfl (by simp [resV])
theorem V5:ze prog 66 V9:=by
 refine zh' f66 λp hs O w0 Q hq=> ?_
 obtain⟨⟨a,d,v,f⟩,⟨b,e,u,g⟩⟩:=p;replace hq:=hq _ rfl;simp only at hq;refine zc.n GN3.h [] (.ex (q35 [.str a,.str b]) λn=>.all (λ(r:Int)=>r=cmpS n.1 n.2) λn=>.ex (q35 [.str d,.str e]) λn_1=>.all (λ(r:Int)=>r=cmpS n_1.1 n_1.2) λn_2=>.ex (q36 [.i v,.i u]) λn_3=>.all (λ(r:Int)=>r=cmpI n_3.1 n_3.2) λn_4=>.ex (λ(x:List Int)=>eqL [.sl 3 1 (zi (zj 1 [.i n,.i n_2,.i n_4]) 0)] [.sl x.length 1 λ(j x_1:Nat)=>AV.i (x.getD j (0:Int))]/\x.length<1099511627776) λn_5=>.all (λ(r:Int)=>r=orI n_5) λn_6=>.R [.i n_6] [.box [.str a,.str d,.i v,.bool f],.box [.str b,.str e,.i u,.bool g],.arr 3 1 (zj 1 [.i n,.i n_2,.i n_4])]) ?_;simp only [q35,q36,Tree.holds,zf];refine⟨(a,b),⟨by simp,trivial⟩,⟨_,rfl⟩,?_⟩;rintro _ rfl;refine⟨(d,e),⟨by simp,trivial⟩,⟨_,rfl⟩,?_⟩;rintro _ rfl;refine⟨(v,u),⟨by simp,trivial⟩,⟨_,rfl⟩,?_⟩;rintro _ rfl;refine⟨[cmpS a b,cmpS d e,cmpI v u],⟨⟨⟨rfl,rfl,zie _ _ _⟩,trivial⟩,by simp⟩,⟨_,rfl⟩,?_⟩;rintro _ rfl
 have:orI [cmpS a b,cmpS d e,cmpI v u]=cmpC ⟨a,d,v,f⟩ ⟨b,e,u,g⟩:=by
  simp only [orI,cmpC];by_cases h:cmpS a b=0
  ·simp only [h,if_true];by_cases h2:cmpS d e=0
   ·simp only [h2,if_true]; split<;>simp_all
   ·simp only [aO h2]
  ·simp only [aO h]
 rw [this];exact RetR.scal hq rfl (by simp [resV])
noncomputable def K70:=Go.Sx.aA f70
noncomputable def K93:=Go.Sx.aA f93
noncomputable def K64:=Go.Sx.aA f64
noncomputable def K65:=Go.Sx.aA f65
def yo(f:Fx):Prop:=f.name.length<2^40/\f.value.length<2^40
def Zp(c:Ch):Prop:=c.zT.length<2^40/\c.name.length<2^40
def zso:Ctr:=ctrP true (λf:Fx=>[f.av]) yo (λf r=>r = !okF f) (λ_ (r:Bool)=>(.bool r,[]))
def zt9:Ctr:=ctrP true (λc:Ch=>[c.av]) Zp (λc r=>r = !okC c) (λ_ (r:Bool)=>(.bool r,[]))
noncomputable def GE1:=tb XC (tb Q8 (tb uG tz))
theorem zqx:ze prog 58 zso:=by
 refine zh' f58 λf hs O w0 Q hq=> ?_
 obtain⟨a,d,v⟩:=f;obtain⟨h1,h2⟩:=hs;replace hq:=hq _ rfl;simp only [okF] at hq h1 h2;refine zc.n GE1.h [] (.ex (q15 [.str a]) λn=>.all (λ(r:Bool)=>r=qH n) λn=>.ex (λ(x:Int)=>(!n)=false->eqL [.i d] [.i x]/\True) λn_1=>.all (λ(x:Bool)=>(!n)=false->x=dayB n_1) λn_2=>.ex (λ(x:L8)=>(bif !n then true else !n_2)=false->eqL [.str v] [.str x]/\x.length<4611686018427387904) λn_3=>.all (λ(x:Int)=>(bif !n then true else !n_2)=false->x=errR n_3) λn_4=>.R [.bool (bif bif !n then true else !n_2 then true else !decide (n_4=0))] [.box [.str a,.i d,.str v]]) ?_;simp only [q15,Tree.holds,zf];refine⟨a,⟨by simp,by omega⟩,⟨_,rfl⟩,?_⟩;rintro _ rfl;refine⟨d,λ_=>⟨by simp,trivial⟩,⟨_,λ_=>rfl⟩,?_⟩;intro x hx;refine⟨v,λ_=>⟨by simp,by omega⟩,⟨_,λ_=>rfl⟩,?_⟩;intro y hy;refine RetR.scal hq rfl ?_;simp only [resV];cases hn:qH a with
 | false=>rfl
 | true=>
  rw [hx (by rw [hn]; rfl)] at hy ⊢;cases hd:dayB d with
  | false=>rfl
  | true=>rw [hy (by rw [hn,hd]; rfl)]; rfl
theorem zs6:ze prog 61 zt9:=by
 refine zh' f61 λf hs O w0 Q hq=> ?_
 obtain⟨a,v,d,f⟩:=f;obtain⟨h1,h2⟩:=hs;replace hq:=hq _ rfl;simp only [okC] at hq h1 h2;refine zc.n GE1.h [] (.ex (q15 [.str a]) λn=>.all (λ(r:Bool)=>r=qH n) λn=>.ex (λ(x:L8)=>(!n)=false->eqL [.str v] [.str x]/\x.length<4611686018427387904) λn_1=>.all (λ(x:Bool)=>(!n)=false->x=qH n_1) λn_2=>.ex (λ(x:Int)=>(bif !n then true else !n_2)=false->eqL [.i d] [.i x]/\True) λn_3=>.all (λ(x:Bool)=>(bif !n then true else !n_2)=false->x=dayB n_3) λn_4=>.R [.bool (bif bif !n then true else !n_2 then true else !n_4)] [.box [.str a,.str v,.i d,.bool f]]) ?_;simp only [q15,Tree.holds,zf];refine⟨a,⟨by simp,by omega⟩,⟨_,rfl⟩,?_⟩;rintro _ rfl;refine⟨v,λ_=>⟨by simp,by omega⟩,⟨_,λ_=>rfl⟩,?_⟩;intro x hx;refine⟨d,λ_=>⟨by simp,trivial⟩,⟨_,λ_=>rfl⟩,?_⟩;intro y hy;refine RetR.scal hq rfl ?_;simp only [resV];cases hn:qH a with
 | false=>rfl
 | true=>
  rw [hx (by rw [hn]; rfl)] at hy ⊢;cases hd:qH v with
  | false=>rfl
  | true=>rw [hy (by rw [hn,hd]; rfl)]; rfl
def zsq:Ctr:=ctrP true (λl:List Fx=>[fxS l,.fn 58 [] []]) (λl=>l.length<2^40/\∀ j,j<l.length->yo (l.getD j Fx.nil)) (λl r=>r=idxB (λx=> !okF x) l) (λ_ (r:Int)=>(.i r,[]))
def SIxF(l:List Fx)(i:Nat):KV:=[(0,fxS l),(1,.fn 58 [] []),(7,.i (l.length:Int)),(8,.i (i:Int))]
noncomputable def GE2F:=tb zqx tz
theorem zp9:ze prog 70 zsq:=by
 refine zh' f70 λl hl O w0 Q hq=> ?_
 obtain⟨hl,hsm⟩:=hl;replace hq:=hq _ rfl;refine zc.n GE2F.h [0,1,7,8] (.leaf (.loop (lps K70 0).1 (lps K70 0).2 [(0,.sl l.length 3 (fxG l)),(1,.fn 58 [] []),(7,.i l.length),(8,.i 0)] [])) ?_;simp only [Tree.holds,zf];refine zc.loop (ι:={i:Nat // i<=l.length/\∀ j,j<i->(!okF (l.getD j Fx.nil))=false}) (λi=>SIxF l i.1) (λ_=>[]) (λi=>l.length - i.1) ⟨0,aI _,λj hj=>by omega⟩ 0 ?_ ?_ (by kernel_rfl)
 ·exact⟨by simp [SIxF,fxS,za],by simp,by kernel_rfl,aI _⟩
 ·rintro⟨i,hil,hib⟩;refine zc.n GE2F.h [0,1,7,8] (let v1:=l.getD (i:Int).toNat Fx.nil;.D ((i:Int)<l.length) (.side ((0:Int)<=i/\(i:Int)<l.length) (.ex (λ(x:Fx)=>eqL [.agg [.str v1.name,.i v1.date,.str v1.value]] [.agg [.str x.name,.i x.date,.str x.value]]/\yo x) λn=>.all (λ(r:Bool)=>r = !okF n) λn=>.ite n (.R [.i i] []) (.S (i+1) (.leaf (.back 0 [(0,.sl l.length 3 (fxG l)),(1,.fn 58 [] []),(7,.i l.length),(8,.i (i+1))] []))))) (.R [.i (-1:Int)] [])) ?_;simp only [Tree.holds,zf,inR,lo,hi,aD];refine⟨λhlt=> ?_,λhge=> ?_⟩
  ·have hlt:i<l.length:=by have:=aB hlt; omega
   refine⟨by omega,λ_=>⟨l.getD i Fx.nil,⟨by simp,hsm i hlt⟩,⟨_,rfl⟩,?_⟩⟩;rintro _ rfl;refine⟨λh=> ?_,λh=>⟨by omega,λ_=> ?_⟩⟩
   ·rw [JJ hlt h hib] at hq;exact RetR.scal hq rfl (by simp [resV])
   ·rw [aP trivial];refine⟨⟨i+1,hlt,λj hj=> ?_⟩,by show l.length - (i+1)<l.length - i; omega,by simp [SIxF,fxS,za],by simp,by kernel_rfl,aI _⟩;rcases aR j i with h1 | h1
    ·exact hib j h1
    ·have:j=i:=by omega
     rw [this]; exact h
  ·have hge:i=l.length:=by have:=aC hge; omega
   subst hge;rw [uy hib] at hq;exact RetR.scal hq rfl (by simp [resV])
def zt1:Ctr:=ctrP true (λl:List Fx=>[fxS l,.fn 58 [] []]) (λl=>l.length<2^40/\∀ j,j<l.length->yo (l.getD j Fx.nil)) (λl r=>r=l.any λx=> !okF x) (λ_ (r:Bool)=>(.bool r,[]))
noncomputable def GE3F:=tb zp9 tz
theorem zrh:ze prog 62 zt1:=by
 refine zh' f62 λl hl O w0 Q hq=> ?_
 replace hq:=hq _ rfl;refine zc.n GE3F.h [] (.ex (λ(x:List Fx)=>eqL [.sl l.length 3 (fxG l),.fn 58 [] []] [.sl x.length 3 (fxG x),.fn 58 [] []]/\x.length<1099511627776/\∀ (j:Nat),j<x.length->yo (x.getD j Fx.nil)) λn=>.all (λ(r:Int)=>r=idxB (λ(x:Fx)=> !okF x) n) λn=>.R [.bool (decide ((0:Int)<=n))] []) ?_;simp only [Tree.holds,zf];refine⟨l,⟨by simp [za],hl⟩,⟨_,rfl⟩,?_⟩;rintro _ rfl;rw [<- U6] at hq;exact RetR.scal hq rfl (by simp [resV])
def zt2:Ctr:=ctrP true (λl:List Ch=>[chS l,.fn 61 [] []]) (λl=>l.length<2^40/\∀ j,j<l.length->Zp (l.getD j Ch.nil)) (λl r=>r=idxB (λx=> !okC x) l) (λ_ (r:Int)=>(.i r,[]))
def SIxC(l:List Ch)(i:Nat):KV:=[(0,chS l),(1,.fn 61 [] []),(7,.i (l.length:Int)),(8,.i (i:Int))]
noncomputable def GE2C:=tb zs6 tz
theorem zr0:ze prog 93 zt2:=by
 refine zh' f93 λl hl O w0 Q hq=> ?_
 obtain⟨hl,hsm⟩:=hl;replace hq:=hq _ rfl;refine zc.n GE2C.h [0,1,7,8] (.leaf (.loop (lps K93 0).1 (lps K93 0).2 [(0,.sl l.length 4 (chG l)),(1,.fn 61 [] []),(7,.i l.length),(8,.i 0)] [])) ?_;simp only [Tree.holds,zf];refine zc.loop (ι:={i:Nat // i<=l.length/\∀ j,j<i->(!okC (l.getD j Ch.nil))=false}) (λi=>SIxC l i.1) (λ_=>[]) (λi=>l.length - i.1) ⟨0,aI _,λj hj=>by omega⟩ 0 ?_ ?_ (by kernel_rfl)
 ·exact⟨by simp [SIxC,chS,za],by simp,by kernel_rfl,aI _⟩
 ·rintro⟨i,hil,hib⟩;refine zc.n GE2C.h [0,1,7,8] (let v1:=l.getD (i:Int).toNat Ch.nil;.D ((i:Int)<l.length) (.side ((0:Int)<=i/\(i:Int)<l.length) (.ex (λ(x:Ch)=>eqL [.agg [.str v1.zT,.str v1.name,.i v1.date,.bool v1.first]] [.agg [.str x.zT,.str x.name,.i x.date,.bool x.first]]/\Zp x) λn=>.all (λ(r:Bool)=>r = !okC n) λn=>.ite n (.R [.i i] []) (.S (i+1) (.leaf (.back 0 [(0,.sl l.length 4 (chG l)),(1,.fn 61 [] []),(7,.i l.length),(8,.i (i+1))] []))))) (.R [.i (-1:Int)] [])) ?_;simp only [Tree.holds,zf,inR,lo,hi,aD];refine⟨λhlt=> ?_,λhge=> ?_⟩
  ·have hlt:i<l.length:=by have:=aB hlt; omega
   refine⟨by omega,λ_=>⟨l.getD i Ch.nil,⟨by simp,hsm i hlt⟩,⟨_,rfl⟩,?_⟩⟩;rintro _ rfl;refine⟨λh=> ?_,λh=>⟨by omega,λ_=> ?_⟩⟩
   ·rw [JJ hlt h hib] at hq;exact RetR.scal hq rfl (by simp [resV])
   ·rw [aP trivial];refine⟨⟨i+1,hlt,λj hj=> ?_⟩,by show l.length - (i+1)<l.length - i; omega,by simp [SIxC,chS,za],by simp,by kernel_rfl,aI _⟩;rcases aR j i with h1 | h1
    ·exact hib j h1
    ·have:j=i:=by omega
     rw [this]; exact h
  ·have hge:i=l.length:=by have:=aC hge; omega
   subst hge;rw [uy hib] at hq;exact RetR.scal hq rfl (by simp [resV])
def zt3:Ctr:=ctrP true (λl:List Ch=>[chS l,.fn 61 [] []]) (λl=>l.length<2^40/\∀ j,j<l.length->Zp (l.getD j Ch.nil)) (λl r=>r=l.any λx=> !okC x) (λ_ (r:Bool)=>(.bool r,[]))
noncomputable def GE3C:=tb zr0 tz
theorem zsc:ze prog 63 zt3:=by
 refine zh' f63 λl hl O w0 Q hq=> ?_
 replace hq:=hq _ rfl;refine zc.n GE3C.h [] (.ex (λ(x:List Ch)=>eqL [.sl l.length 4 (chG l),.fn 61 [] []] [.sl x.length 4 (chG x),.fn 61 [] []]/\x.length<1099511627776/\∀ (j:Nat),j<x.length->Zp (x.getD j Ch.nil)) λn=>.all (λ(r:Int)=>r=idxB (λ(x:Ch)=> !okC x) n) λn=>.R [.bool (decide ((0:Int)<=n))] []) ?_;simp only [Tree.holds,zf];refine⟨l,⟨by simp [za],hl⟩,⟨_,rfl⟩,?_⟩;rintro _ rfl;rw [<- U6] at hq;exact RetR.scal hq rfl (by simp [resV])
def zt4:Ctr:=ctrP true (λl:List Fx=>[fxS l,.fn 41 [] []]) (λl=>l.length<2^40) (λl r=>r=ordB cmpF Fx.nil l) (λ_ (r:Bool)=>(.bool r,[]))
def SOdF(l:List Fx)(i:Nat):KV:=[(0,fxS l),(1,.fn 41 [] []),(5,.i (i:Int))]
noncomputable def GE4F:=tb W9 tz
abbrev q37(A:List AV)(x:Fx×Fx):Prop:=eqL A [.agg [.str x.1.name,.i x.1.date,.str x.1.value],.agg [.str x.2.name,.i x.2.date,.str x.2.value]]/\True
theorem zpk:ze prog 64 zt4:=by
 refine zh' f64 λl hl O w0 Q hq=> ?_
 replace hq:=hq _ rfl;refine zc.n GE4F.h [0,1,5] (.leaf (.loop (lps K64 0).1 (lps K64 0).2 [(0,.sl l.length 3 (fxG l)),(1,.fn 41 [] []),(5,.i 1)] [])) ?_;simp only [Tree.holds,zf];refine zc.loop (ι:={i:Nat // 0<i/\(i<=l.length\/i=1)/\∀ j,j+1<i->cmpF (l.getD j Fx.nil) (l.getD (j+1) Fx.nil)<0}) (λi=>SOdF l i.1) (λ_=>[]) (λi=>l.length - i.1) ⟨1,Nat.one_pos,.inr rfl,λj hj=>by omega⟩ 0 ?_ ?_ (by kernel_rfl)
 ·exact⟨by simp [SOdF,fxS,za],by simp,by kernel_rfl,aI _⟩
 ·rintro⟨i,hi0,hil,hib⟩;refine zc.n GE4F.h [0,1,5] (let v2:=l.getD (i:Int).toNat Fx.nil;let v1:=l.getD (Int.toNat (i-1)) Fx.nil;.D ((i:Int)<l.length) (.S (i-1) (.side ((0:Int)<=i - (1:Int)/\(i:Int) - (1:Int)<l.length) (.side ((0:Int)<=i/\(i:Int)<l.length) (.ex (q37 [.agg [.str v1.name,.i v1.date,.str v1.value],.agg [.str v2.name,.i v2.date,.str v2.value]]) λn=>.all (λ(r:Int)=>r=cmpF n.1 n.2) λn=>.D ((0:Int)<=n) (.R [.bool false] []) (.S (i+1) (.leaf (.back 0 [(0,.sl l.length 3 (fxG l)),(1,.fn 41 [] []),(5,.i (i+1))] []))))))) (.R [.bool true] [])) ?_;simp only [q37,Tree.holds,zf,inR,lo,hi,aD];have e:((i:Int) - 1).toNat=i - 1:=by omega
  have e2:i - 1+1=i:=by omega
  refine⟨λhlt=> ?_,λhge=> ?_⟩
  ·have hlt:i<l.length:=by have:=aB hlt; omega
   simp only [e];refine⟨by omega,λ_=>⟨by omega,λ_=>⟨by omega,λ_=>⟨(l.getD (i - 1) Fx.nil,l.getD i Fx.nil),⟨by simp,trivial⟩,⟨_,rfl⟩,?_⟩⟩⟩⟩;rintro _ rfl;refine⟨λh=> ?_,λh=>⟨by omega,λ_=> ?_⟩⟩
   ·have h:=aB h;rw [JM (z:=Fx.nil) (j:=i - 1) (by omega) (by rw [e2]; simp only at h; omega)] at hq;exact RetR.scal hq rfl (by simp [resV])
   ·have h:=aC h;rw [aP trivial];refine⟨⟨i+1,by omega,.inl hlt,λj hj=> ?_⟩,by show l.length - (i+1)<l.length - i; omega,by simp [SOdF,fxS,za],by simp,by kernel_rfl,aI _⟩;rcases aR (j+1) i with h1 | h1
    ·exact hib j h1
    ·have:j=i - 1:=by omega
     rw [this,e2]; simp only at h; omega
  ·have hge:l.length<=i:=by have:=aC hge; omega
   rw [Wg (z:=Fx.nil) λj hj=>hib j (by omega)] at hq;exact RetR.scal hq rfl (by simp [resV])
def zst:Ctr:=ctrP true (λl:List Ch=>[chS l,.fn 66 [] []]) (λl=>l.length<2^40) (λl r=>r=ordB cmpC Ch.nil l) (λ_ (r:Bool)=>(.bool r,[]))
def SOdC(l:List Ch)(i:Nat):KV:=[(0,chS l),(1,.fn 66 [] []),(5,.i (i:Int))]
noncomputable def GE4C:=tb V5 tz
abbrev q38(A:List AV)(x:Ch×Ch):Prop:=eqL A [.agg [.str x.1.zT,.str x.1.name,.i x.1.date,.bool x.1.first],.agg [.str x.2.zT,.str x.2.name,.i x.2.date,.bool x.2.first]]/\True
theorem zq3:ze prog 65 zst:=by
 refine zh' f65 λl hl O w0 Q hq=> ?_
 replace hq:=hq _ rfl;refine zc.n GE4C.h [0,1,5] (.leaf (.loop (lps K65 0).1 (lps K65 0).2 [(0,.sl l.length 4 (chG l)),(1,.fn 66 [] []),(5,.i 1)] [])) ?_;simp only [Tree.holds,zf];refine zc.loop (ι:={i:Nat // 0<i/\(i<=l.length\/i=1)/\∀ j,j+1<i->cmpC (l.getD j Ch.nil) (l.getD (j+1) Ch.nil)<0}) (λi=>SOdC l i.1) (λ_=>[]) (λi=>l.length - i.1) ⟨1,Nat.one_pos,.inr rfl,λj hj=>by omega⟩ 0 ?_ ?_ (by kernel_rfl)
 ·exact⟨by simp [SOdC,chS,za],by simp,by kernel_rfl,aI _⟩
 ·rintro⟨i,hi0,hil,hib⟩;refine zc.n GE4C.h [0,1,5] (let v2:=l.getD (i:Int).toNat Ch.nil;let v1:=l.getD (Int.toNat (i-1)) Ch.nil;.D ((i:Int)<l.length) (.S (i-1) (.side ((0:Int)<=i - (1:Int)/\(i:Int) - (1:Int)<l.length) (.side ((0:Int)<=i/\(i:Int)<l.length) (.ex (q38 [.agg [.str v1.zT,.str v1.name,.i v1.date,.bool v1.first],.agg [.str v2.zT,.str v2.name,.i v2.date,.bool v2.first]]) λn=>.all (λ(r:Int)=>r=cmpC n.1 n.2) λn=>.D ((0:Int)<=n) (.R [.bool false] []) (.S (i+1) (.leaf (.back 0 [(0,.sl l.length 4 (chG l)),(1,.fn 66 [] []),(5,.i (i+1))] []))))))) (.R [.bool true] [])) ?_;simp only [q38,Tree.holds,zf,inR,lo,hi,aD];have e:((i:Int) - 1).toNat=i - 1:=by omega
  have e2:i - 1+1=i:=by omega
  refine⟨λhlt=> ?_,λhge=> ?_⟩
  ·have hlt:i<l.length:=by have:=aB hlt; omega
   simp only [e];refine⟨by omega,λ_=>⟨by omega,λ_=>⟨by omega,λ_=>⟨(l.getD (i - 1) Ch.nil,l.getD i Ch.nil),⟨by simp,trivial⟩,⟨_,rfl⟩,?_⟩⟩⟩⟩;rintro _ rfl;refine⟨λh=> ?_,λh=>⟨by omega,λ_=> ?_⟩⟩
   ·have h:=aB h;rw [JM (z:=Ch.nil) (j:=i - 1) (by omega) (by rw [e2]; simp only at h; omega)] at hq;exact RetR.scal hq rfl (by simp [resV])
   ·have h:=aC h;rw [aP trivial];refine⟨⟨i+1,by omega,.inl hlt,λj hj=> ?_⟩,by show l.length - (i+1)<l.length - i; omega,by simp [SOdC,chS,za],by simp,by kernel_rfl,aI _⟩;rcases aR (j+1) i with h1 | h1
    ·exact hib j h1
    ·have:j=i - 1:=by omega
     rw [this,e2]; simp only at h; omega
  ·have hge:l.length<=i:=by have:=aC hge; omega
   rw [Wg (z:=Ch.nil) λj hj=>hib j (by omega)] at hq;exact RetR.scal hq rfl (by simp [resV])
def envP(p:List Fx×List Ch):Prop:=p.1.length<2^40/\p.2.length<2^40/\(∀ j,j<p.1.length->yo (p.1.getD j Fx.nil))/\∀ j,j<p.2.length->Zp (p.2.getD j Ch.nil)
def J1:Ctr:=ctrP true (λp:List Fx×List Ch=>[envA p.1 p.2]) envP (λp r=>r=errE p.1 p.2) (λ_ (r:Int)=>(.i r,[]))
noncomputable def GE5:=tb zrh (tb zsc (tb zpk (tb zq3 tz)))
theorem Qy:ze prog 31 J1:=by
 refine zh' f31 λp hp O w0 Q hq=> ?_
 obtain⟨f,c⟩:=p;obtain⟨h1,h2,h3,h4⟩:=hp;replace hq:=hq _ rfl;simp only at hq h1 h2 h3 h4;refine zc.n GE5.h [] (let v1:List Blk:=[.box [.sl f.length 3 (fxG f),.sl c.length 4 (chG c)]];.ite (bif decide ((1000:Int)<f.length) then true else decide ((1000:Int)<c.length)) (.R [.i 4] v1) (.ex (λ(x:List Fx)=>eqL [.sl f.length 3 (fxG f),.fn 58 [] []] [.sl x.length 3 (fxG x),.fn 58 [] []]/\x.length<1099511627776/\∀ (j:Nat),j<x.length->yo (x.getD j Fx.nil)) λn=>.all (λ(r:Bool)=>r=List.any n λ(x:Fx)=> !okF x) λn=>.ex (λ(x:List Ch)=>n=false->eqL [.sl c.length 4 (chG c),.fn 61 [] []] [.sl x.length 4 (chG x),.fn 61 [] []]/\x.length<1099511627776/\∀ (j:Nat),j<x.length->Zp (x.getD j Ch.nil)) λn_1=>.all (λ(x:Bool)=>n=false->x=List.any n_1 λ(x:Ch)=> !okC x) λn_2=>.ex (λ(x:List Fx)=>(bif n then true else n_2)=false->eqL [.sl f.length 3 (fxG f),.fn 41 [] []] [.sl x.length 3 (fxG x),.fn 41 [] []]/\x.length<1099511627776) λn_3=>.all (λ(x:Bool)=>(bif n then true else n_2)=false->x=ordB cmpF Fx.nil n_3) λn_4=>.ex (λ(x:List Ch)=>(bif bif n then true else n_2 then true else !n_4)=false->eqL [.sl c.length 4 (chG c),.fn 66 [] []] [.sl x.length 4 (chG x),.fn 66 [] []]/\x.length<1099511627776) λn_5=>.all (λ(x:Bool)=>(bif bif n then true else n_2 then true else !n_4)=false->x=ordB cmpC Ch.nil n_5) λn_6=>.ite (bif bif bif n then true else n_2 then true else !n_4 then true else !n_6) (.R [.i 8] v1) (.R [.i 0] v1))) ?_;simp only [Tree.holds,zf];refine⟨λh=> ?_,λh=> ?_⟩
 ·have h:1000<f.length\/1000<c.length:=by
   rw [Bool.cond_eq_ite] at h;split at h
   ·rename_i h1; left; have:=aB h1; omega
   ·right; have:=aB h; omega
  have:errE f c=4:=aP h;rw [this] at hq; exact RetR.scal hq rfl (by simp [resV])
 ·have h:¬ (1000<f.length\/1000<c.length):=by
   rw [Bool.cond_eq_ite] at h;split at h
   ·cases h
   ·rename_i h1;have h2:=aC h;rintro(h3 | h3)
    ·exact h1 (aX (by omega))
    ·omega
  have he:errE f c=if(f.all okF&&c.all okC&&ordB cmpF Fx.nil f&&ordB cmpC Ch.nil c)=true then 0 else 8:=aO h
  have a1:(f.any λx=> !okF x) = !f.all okF:=by rw [List.not_all_eq_any_not]
  have a2:(c.any λx=> !okC x) = !c.all okC:=by rw [List.not_all_eq_any_not]
  refine⟨f,⟨by simp [za],h1,h3⟩,⟨_,rfl⟩,?_⟩;rintro _ rfl;refine⟨c,λ_=>⟨by simp [za],h2,h4⟩,⟨_,λ_=>rfl⟩,?_⟩;intro b1 g1;refine⟨f,λ_=>⟨by simp [za],h1⟩,⟨_,λ_=>rfl⟩,?_⟩;intro b2 g2;refine⟨c,λ_=>⟨by simp [za],h2⟩,⟨_,λ_=>rfl⟩,?_⟩;intro b3 g3;rw [a1] at g1 g2 g3 ⊢;rw [a2] at g1;clear a1 a2;generalize f.all okF=p1 at *
  generalize c.all okC=p2 at *
  generalize ordB cmpF Fx.nil f=p3 at *
  generalize ordB cmpC Ch.nil c=p4 at *
  have key:(bif bif bif !p1 then true else b1 then true else !b2 then true else !b3) = !(p1&&p2&&p3&&p4):=by
   cases p1 with
   | false=>rfl
   | true=>
    have g1:=g1 rfl;subst g1;cases p2 with
    | false=>rfl
    | true=>
     have g2:=g2 rfl;subst g2;cases b2 with
     | false=>rfl
     | true=>have g3:=g3 rfl; subst g3; rfl
  rw [key];clear key g1 g2 g3;generalize (p1&&p2&&p3&&p4)=q at *
  refine⟨λh=> ?_,λh=> ?_⟩
  ·cases q with
   | true=>cases h
   | false=>rw [he,aO (by decide)] at hq; exact RetR.scal hq rfl (by simp [resV])
  ·cases q with
   | false=>cases h
   | true=>rw [he,aP rfl] at hq; exact RetR.scal hq rfl (by simp [resV])
def HE(f:List Fx)(c:List Ch):Heap:=[.box [fxS f,chS c]]
def zml:Ctr:=ctrP true (λp:(List Fx×List Ch)×(L8×Int)=>[envA p.1.1 p.1.2,.str p.2.1,.i p.2.2]) (λp=>p.1.1.length<2^40) (λp r=>r=zo p.1.1 p.2.1 p.2.2) (λ_ r=>(.tup [.str r.1,.bool r.2],[]))
def zee:Ctr:=ctrP true (λp:(List Fx×List Ch)×(L8×L8×Int)=>[envA p.1.1 p.1.2,.str p.2.1,.str p.2.2.1,.i p.2.2.2]) (λp=>p.1.2.length<2^40) (λp r=>r=qn p.1.2 p.2.1 p.2.2.1 p.2.2.2) (λ_ r=>(.bool r,[]))
end Go.Proofs.Tryz
end
section
namespace Go.Nov
open Go.Sx
theorem zmk(n sz:Nat)(g g':Nat->Nat->AV):eqG (0+n) sz (appG 0 g g') g':=by
 intro j o _ _;simp [appG]
theorem KJ{α:Type}{p:α->Bool}(z:α)(l:List α):idxB p l<l.length/\l.find? p=if 0<=idxB p l then some (l.getD (idxB p l).toNat z) else none:=by
 unfold idxB;by_cases h:l.findIdx p<l.length
 ·rw [aP h];refine⟨by omega,?_⟩;rw [aP (by omega),aD];refine zrv h ?_ λj hj=> ?_
  ·have:=List.findIdx_getElem (w:=h);simpa [List.getD,h] using this
  ·have:=List.not_of_lt_findIdx hj;have hjl:j<l.length:=by omega
   simpa [List.getD,hjl] using this
 ·rw [aO h];refine⟨by omega,?_⟩;rw [aO (by omega),List.find?_eq_none];intro x hx hpx;exact h (List.findIdx_lt_length_of_exists ⟨x,hx,hpx⟩)
theorem ziw(f:List Fx)(a:L8)(d:Int):idxB (λx=>decide (cmpF x ⟨a,d,[]⟩=0)) f<f.length/\zo f a d=if 0<=idxB (λx=>decide (cmpF x ⟨a,d,[]⟩=0)) f then((f.getD (idxB (λx=>decide (cmpF x ⟨a,d,[]⟩=0)) f).toNat Fx.nil).value,true) else([],false):=by
 obtain⟨h1,h2⟩:=KJ (p:=λx=>decide (cmpF x ⟨a,d,[]⟩=0)) Fx.nil f;refine⟨h1,?_⟩
 have e:(λx:Fx=>decide (x.name=a)&&decide (x.date=d))=λx=>decide (cmpF x ⟨a,d,[]⟩=0):=by
  funext x;rw [<- Bool.decide_and]; exact decide_eq_decide.2 (@zp6 x ⟨a,d,[]⟩).symm
 unfold zo;rw [e,h2];by_cases h:0<=idxB (λx=>decide (cmpF x ⟨a,d,[]⟩=0)) f
 ·rw [aP h,aP h]
 ·rw [aO h,aO h]
theorem zb7(c:List Ch)(a v:L8)(d:Int):idxB (λx=>decide (cmpC x ⟨a,v,d,false⟩=0)) c<c.length/\qn c a v d=if 0<=idxB (λx=>decide (cmpC x ⟨a,v,d,false⟩=0)) c then(c.getD (idxB (λx=>decide (cmpC x ⟨a,v,d,false⟩=0)) c).toNat Ch.nil).first else false:=by
 obtain⟨h1,h2⟩:=KJ (p:=λx=>decide (cmpC x ⟨a,v,d,false⟩=0)) Ch.nil c;refine⟨h1,?_⟩
 have e:(λx:Ch=>decide (x.zT=a)&&(decide (x.name=v)&&decide (x.date=d)))=λx=>decide (cmpC x ⟨a,v,d,false⟩=0):=by
  funext x;rw [<- Bool.decide_and,<- Bool.decide_and]; exact decide_eq_decide.2 (@zqo x ⟨a,v,d,false⟩).symm
 unfold qn;rw [e,h2];by_cases h:0<=idxB (λx=>decide (cmpC x ⟨a,v,d,false⟩=0)) c
 ·rw [aP h,aP h]
 ·rw [aO h,aO h]
end Go.Nov
end
section
set_option maxRecDepth 100000
open Go Go.Sx Go.Proofs Go.Nov
namespace Go.Proofs.Tryz
attribute [local simp] eqKV eqA eqA0 eqH eqB eqL eqL0
noncomputable def K10:=Go.Sx.aA f10
def zdq(f:Fx):Prop:=f.name.length<2^49/\f.value.length<2^49
def YF(c:Ch):Prop:=c.zT.length<2^49/\c.name.length<2^49
def fitP(p:List Fx×List Ch):Prop:=p.1.length<=1100/\p.2.length<=1100/\(∀ j,j<p.1.length->(p.1.getD j Fx.nil).name.length<=20000/\(p.1.getD j Fx.nil).value.length<=20000)/\∀ j,j<p.2.length->(p.2.getD j Ch.nil).zT.length<=20000/\(p.2.getD j Ch.nil).name.length<=20000
def zd7:Ctr:=ctrP true (λp:List Fx×List Ch=>[envA p.1 p.2]) (λp=>p.1.length<2^60/\p.2.length<2^60/\(∀ j,j<p.1.length->zdq (p.1.getD j Fx.nil))/\∀ j,j<p.2.length->YF (p.2.getD j Ch.nil)) (λp r=>r=false->fitP p) (λ_ (r:Bool)=>(.bool r,[]))
def SGq(n i:Nat):KV:=[(1,.ptr 0 0),(3,.i (n:Int)),(4,.i (i:Int)),Z 5]
def SGq2(n i:Nat):KV:=[(1,.ptr 0 0),(3,.i (n:Int)),Z 4,(5,.i (i:Int))]
theorem U4{O:Nat->Prop}{w0:World}{Q:AV×Heap->Prop}{Hs:Nat->KV->Heap->Prop}(f:List Fx)(c:List Ch)(n:Nat)(hf:f.length<=1100)(hc:c.length<=1100)(h3:∀ j,j<c.length->YF (c.getD j Ch.nil))(hn:n<=1100*2^50)(hnf:∀ j,j<f.length->(f.getD j Fx.nil).name.length<=n/\(f.getD j Fx.nil).value.length<=n)
  (hq:∀ r:Bool,(r=false->fitP (f,c))->Q (.bool r,[])) (kv:KV) (h:Heap) (hle:LeK 0 f10.ntmps kv h (SGq2 n 0) (HE f c)) :
  zc prog f10 O 0 w0 [] Hs (RetR zd7 0 Q) (.code (.loop (lps (inside K10 0) 0).1)::(lps (inside K10 0) 0).2) (mk f10.ntmps kv h):=by
 refine zc.loop (ι:={p:Nat×Nat // p.2<=c.length/\n<=p.1/\p.1<=(1100+p.2)*2^50/\∀ j,j<p.2->(c.getD j Ch.nil).zT.length<=p.1/\(c.getD j Ch.nil).name.length<=p.1}) (λp=>SGq2 p.1.1 p.1.2) (λ_=>HE f c) (λp=>c.length - p.1.2) ⟨(n,0),aI _,aJ _,by simpa using hn,λj hj=>by simp at hj⟩ 0 hle ?_ (by kernel_rfl);rintro⟨⟨m,i⟩,hil,hnm,hm,hib⟩;simp only at hil hnm hm hib;refine zc.n zw [1,3,4,5] (let v2:List Blk:=[.box [.sl f.length 3 (fxG f),.sl c.length 4 (chG c)]];let v1:=c.getD (i:Int).toNat Ch.nil;.D ((i:Int)<c.length) (.side ((0:Int)<=i/\(i:Int)<c.length) (.S ((m:Int)+(↑(List.length v1.zT):Int)) (.side ((0:Int)<=i/\(i:Int)<c.length) (.S ((m:Int)+(↑(List.length v1.zT):Int)+(↑(List.length v1.name):Int)) (.S (i+1) (.leaf (.back 0 [(1,.ptr 0 0),(3,.i ((m:Int)+(↑(List.length v1.zT):Int)+(↑(List.length v1.name):Int))),Z 4,(5,.i (i+1))] v2))))))) (.R [.bool (decide ((20000:Int)<m))] v2)) ?_;simp only [Tree.holds,zf,inR,lo,hi,aD];refine⟨λhlt=> ?_,λhge=> ?_⟩
 ·have hlt:i<c.length:=by have:=aB hlt; omega
  obtain⟨g1,g2⟩:=h3 i hlt
  iterate 5 refine⟨by omega,λ_=> ?_⟩
  rw [aP trivial];refine⟨⟨(m+(c.getD i Ch.nil).zT.length+(c.getD i Ch.nil).name.length,i+1),hlt,by simp only; omega,by simp only; omega,λj hj=> ?_⟩,by show c.length - (i+1)<c.length - i; omega,by simp [SGq2],by simp [HE,fxS,chS,za],by kernel_rfl,aI _⟩;simp only at hj ⊢;rcases aR j i with h1 | h1
  ·have:=hib j h1; omega
  ·have:j=i:=by omega
   rw [this]; omega
 ·have hge:i=c.length:=by have:=aC hge; omega
  subst hge;refine RetR.scal (hq (decide (20000<(m:Int))) λh=> ?_) rfl (by simp [resV]);have h:=aC h;exact⟨hf,hc,λj hj=>by have:=hnf j hj; simp only; omega,λj hj=>by have:=hib j hj; simp only; omega⟩
theorem zmd:ze prog 10 zd7:=by
 refine zh' f10 λp hp O w0 Q hq=> ?_
 obtain⟨f,c⟩:=p;obtain⟨h1,h2,h3,h4⟩:=hp;simp only at hq h1 h2 h3 h4;refine zc.n zw [1,3,4,5] (let v1:List Blk:=[.box [.sl f.length 3 (fxG f),.sl c.length 4 (chG c)]];.ite (bif decide ((1100:Int)<f.length) then true else decide ((1100:Int)<c.length)) (.R [.bool true] v1) (.leaf (.loop (lps K10 0).1 (lps K10 0).2 [(1,.ptr 0 0),(3,.i 0),(4,.i 0),Z 5] v1))) ?_;simp only [Tree.holds,zf];refine⟨λh=> ?_,λh=> ?_⟩
 ·exact RetR.scal (hq true λh=>(by cases h)) rfl (by simp [resV])
 ·have hbig:f.length<=1100/\c.length<=1100:=by
   rw [Bool.cond_eq_ite] at h;split at h
   ·cases h
   ·rename_i g1;have g2:=aC h;have g1:=aC (by simpa using g1:decide (1100<(f.length:Int))=false);omega
  obtain⟨hf,hc⟩:=hbig;refine zc.loop (ι:={p:Nat×Nat // p.2<=f.length/\p.1<=p.2*2^50/\∀ j,j<p.2->(f.getD j Fx.nil).name.length<=p.1/\(f.getD j Fx.nil).value.length<=p.1}) (λp=>SGq p.1.1 p.1.2) (λ_=>HE f c) (λp=>f.length - p.1.2) ⟨(0,0),aI _,by simp,λj hj=>by simp at hj⟩ 0 ?_ ?_ (by kernel_rfl)
  ·exact⟨by simp [SGq],by simp [HE,fxS,chS,za],by kernel_rfl,aI _⟩
  ·rintro⟨⟨m,i⟩,hil,hm,hib⟩;simp only at hil hm hib;refine zc.n zw [1,3,4,5] (let v2:List Blk:=[.box [.sl f.length 3 (fxG f),.sl c.length 4 (chG c)]];let v1:=f.getD (i:Int).toNat Fx.nil;.D ((i:Int)<f.length) (.side ((0:Int)<=i/\(i:Int)<f.length) (.S ((m:Int)+(↑(List.length v1.name):Int)) (.side ((0:Int)<=i/\(i:Int)<f.length) (.S ((m:Int)+(↑(List.length v1.name):Int)+(↑(List.length v1.value):Int)) (.S (i+1) (.leaf (.back 0 [(1,.ptr 0 0),(3,.i ((m:Int)+(↑(List.length v1.name):Int)+(↑(List.length v1.value):Int))),(4,.i (i+1)),Z 5] v2))))))) (.leaf (.loop (lps (inside K10 0) 0).1 (lps (inside K10 0) 0).2 [(1,.ptr 0 0),(3,.i m),(4,.i i),(5,.i 0)] v2))) ?_;simp only [Tree.holds,zf,inR,lo,hi,aD];refine⟨λhlt=> ?_,λhge=> ?_⟩
   ·have hlt:i<f.length:=by have:=aB hlt; omega
    obtain⟨g1,g2⟩:=h3 i hlt
    iterate 5 refine⟨by omega,λ_=> ?_⟩
    rw [aP trivial];refine⟨⟨(m+(f.getD i Fx.nil).name.length+(f.getD i Fx.nil).value.length,i+1),hlt,by simp only; omega,λj hj=> ?_⟩,by show f.length - (i+1)<f.length - i; omega,by simp [SGq],by simp [HE,fxS,chS,za],by kernel_rfl,aI _⟩;simp only at hj ⊢;rcases aR j i with h1 | h1
    ·have:=hib j h1; omega
    ·have:j=i:=by omega
     rw [this]; omega
   ·have hge:i=f.length:=by have:=aC hge; omega
    subst hge;exact U4 f c m hf hc h4 (bP hm (aT _ hf)) hib hq _ _ ⟨by simp [SGq2],by simp [HE,fxS,chS,za],by kernel_rfl,aI _⟩
def HIdF(x:Fx):Heap:=[.box [.fn 41 [] []],.box [.str x.name,.i x.date,.str x.value]]
def HIdC(x:Ch):Heap:=[.box [.fn 66 [] []],.box [.str x.zT,.str x.name,.i x.date,.bool x.first]]
def zsz:Ctr:=ctrT false false (λp:Fx×Fx=>[p.1.av,.ptr 0 0,.ptr 1 0]) (λp=>HIdF p.2) (λ_=>True) (λp r=>r=decide (cmpF p.1 p.2=0)) (λp (r:Bool)=>(.bool r,HIdF p.2))
def zsk:Ctr:=ctrT false false (λp:Ch×Ch=>[p.1.av,.ptr 0 0,.ptr 1 0]) (λp=>HIdC p.2) (λ_=>True) (λp r=>r=decide (cmpC p.1 p.2=0)) (λp (r:Bool)=>(.bool r,HIdC p.2))
noncomputable def GI1:=tb W9 (tb V5 tz)
theorem zrl:ze prog 71 zsz:=by
 refine z9 (fn:=f71) (c:=f71.body.getD .skip) rfl rfl rfl (λh=>by cases h) λp hp O w0 I0 Q hl0 hq=> ?_
 obtain⟨⟨a,d,v⟩,⟨b,e,u⟩⟩:=p;replace hq:=hq _ rfl;simp only at hq;refine zc.n GI1.h [] (.ex (q37 [.agg [.str a,.i d,.str v],.agg [.str b,.i e,.str u]]) λn=>.all (λ(r:Int)=>r=cmpF n.1 n.2) λn=>.R [.bool (decide (n=0))] [.box [.fn 41 [] []],.box [.str b,.i e,.str u],.box [.str a,.i d,.str v]]) ?_;simp only [q37,Tree.holds,zf];refine⟨(⟨a,d,v⟩,⟨b,e,u⟩),⟨by simp,trivial⟩,⟨_,rfl⟩,?_⟩;rintro _ rfl;exact RetR.keep [0,1] rfl rfl (by show ∀ j,j<2->_; decide) rfl hq (by simp [resV,exp2,exp1,exp0,ren0,eqA2]) (by simp [expH,expB,exp1,exp0,ren0,HIdF]) rfl
theorem zs7:ze prog 166 zsk:=by
 refine z9 (fn:=f166) (c:=f166.body.getD .skip) rfl rfl rfl (λh=>by cases h) λp hp O w0 I0 Q hl0 hq=> ?_
 obtain⟨⟨a,v,d,x⟩,⟨b,u,e,y⟩⟩:=p;replace hq:=hq _ rfl;simp only at hq;refine zc.n GI1.h [] (.ex (q38 [.agg [.str a,.str v,.i d,.bool x],.agg [.str b,.str u,.i e,.bool y]]) λn=>.all (λ(r:Int)=>r=cmpC n.1 n.2) λn=>.R [.bool (decide (n=0))] [.box [.fn 66 [] []],.box [.str b,.str u,.i e,.bool y],.box [.str a,.str v,.i d,.bool x]]) ?_;simp only [q38,Tree.holds,zf];refine⟨(⟨a,v,d,x⟩,⟨b,u,e,y⟩),⟨by simp,trivial⟩,⟨_,rfl⟩,?_⟩;rintro _ rfl;exact RetR.keep [0,1] rfl rfl (by show ∀ j,j<2->_; decide) rfl hq (by simp [resV,exp2,exp1,exp0,ren0,eqA2]) (by simp [expH,expB,exp1,exp0,ren0,HIdC]) rfl
def SIdF(l:List Fx)(i:Nat):KV:=[(0,fxS l),(1,.fn 71 [] [.ptr 0 0,.ptr 1 0]),(7,.i (l.length:Int)),(8,.i (i:Int))]
def SIdC(l:List Ch)(i:Nat):KV:=[(0,chS l),(1,.fn 166 [] [.ptr 0 0,.ptr 1 0]),(7,.i (l.length:Int)),(8,.i (i:Int))]
def znw:Ctr:=ctrT false false (λp:List Fx×Fx=>[fxS p.1,.fn 71 [] [.ptr 0 0,.ptr 1 0]]) (λp=>HIdF p.2) (λp=>p.1.length<2^40) (λp r=>r=idxB (λx=>decide (cmpF x p.2=0)) p.1) (λp (r:Int)=>(.i r,HIdF p.2))
def zlg:Ctr:=ctrT false false (λp:List Ch×Ch=>[chS p.1,.fn 166 [] [.ptr 0 0,.ptr 1 0]]) (λp=>HIdC p.2) (λp=>p.1.length<2^40) (λp r=>r=idxB (λx=>decide (cmpC x p.2=0)) p.1) (λp (r:Int)=>(.i r,HIdC p.2))
noncomputable def GI2:=tb zrl (tb zs7 tz)
theorem zri:ze prog 70 znw:=by
 refine z9 (fn:=f70) (c:=f70.body.getD .skip) rfl rfl rfl (λh=>by cases h) λp hl O w0 I0 Q hl0 hq=> ?_
 obtain⟨l,x⟩:=p;replace hq:=hq _ rfl;simp only at hq hl;refine zc.n GI2.h [0,1,7,8] (.leaf (.loop (lps K70 0).1 (lps K70 0).2 [(0,.sl l.length 3 (fxG l)),(1,.fn 71 [] [.ptr 0 0,.ptr 1 0]),(7,.i l.length),(8,.i 0)] [.box [.fn 41 [] []],.box [.str x.name,.i x.date,.str x.value]])) ?_;simp only [Tree.holds,zf]
 have fin:∀ (i:Int) (h:Heap),i=idxB (λy=>decide (cmpF y x=0)) l->h=HIdF x->RetR znw 2 Q [.i i] h:=by
  intro i h hi2 hh;subst hh;rw [<- hi2] at hq;exact RetR.keep [0,1] rfl rfl (by show ∀ j,j<2->_; decide) rfl hq (by simp [resV,exp2,exp1,exp0,ren0,eqA2]) (by simp [expH,expB,exp1,exp0,ren0,HIdF]) rfl
 refine zc.loop (ι:={i:Nat // i<=l.length/\∀ j,j<i->decide (cmpF (l.getD j Fx.nil) x=0)=false}) (λi=>SIdF l i.1) (λ_=>HIdF x) (λi=>l.length - i.1) ⟨0,aI _,λj hj=>by omega⟩ 0 ?_ ?_ (by kernel_rfl)
 ·exact⟨by simp [SIdF,fxS,za],by simp [HIdF],by kernel_rfl,aJ _⟩
 ·rintro⟨i,hil,hib⟩;refine zc.n GI2.h [0,1,7,8] (let v2:=l.getD (i:Int).toNat Fx.nil;.D ((i:Int)<l.length) (.side ((0:Int)<=i/\(i:Int)<l.length) (.ex (λ(x_1:Fx×Fx)=>eqL [.agg [.str v2.name,.i v2.date,.str v2.value],.ptr 0 0,.ptr 1 0] [.agg [.str x_1.1.name,.i x_1.1.date,.str x_1.1.value],.ptr 0 0,.ptr 1 0]/\eqH [.box [.fn 41 [] []],.box [.str x.name,.i x.date,.str x.value]] [.box [.fn 41 [] []],.box [.str x_1.2.name,.i x_1.2.date,.str x_1.2.value]]/\2=2/\True) λn=>let v1:List Blk:=[.box [.fn 41 [] []],.box [.str n.2.name,.i n.2.date,.str n.2.value]];.all (λ(r:Bool)=>r=decide (cmpF n.1 n.2=0)) λn_1=>.ite n_1 (.R [.i i] v1) (.S (i+1) (.leaf (.back 0 [(0,.sl l.length 3 (fxG l)),(1,.fn 71 [] [.ptr 0 0,.ptr 1 0]),(7,.i l.length),(8,.i (i+1))] v1))))) (.R [.i (-1:Int)] [.box [.fn 41 [] []],.box [.str x.name,.i x.date,.str x.value]])) ?_;simp only [Tree.holds,zf,inR,lo,hi,aD];refine⟨λhlt=> ?_,λhge=> ?_⟩
  ·have hlt:i<l.length:=by have:=aB hlt; omega
   refine⟨by omega,λ_=>⟨(l.getD i Fx.nil,x),⟨by simp,by simp,trivial,trivial⟩,⟨_,rfl⟩,?_⟩⟩;rintro _ rfl;refine⟨λh=> ?_,λh=>⟨by omega,λ_=> ?_⟩⟩
   ·exact fin _ _ (JJ hlt h hib).symm rfl
   ·rw [aP trivial];refine⟨⟨i+1,hlt,λj hj=> ?_⟩,by show l.length - (i+1)<l.length - i; omega,by simp [SIdF,fxS,za],by simp [HIdF],by kernel_rfl,aJ _⟩;rcases aR j i with h1 | h1
    ·exact hib j h1
    ·have:j=i:=by omega
     rw [this]; exact h
  ·have hge:i=l.length:=by have:=aC hge; omega
   subst hge;exact fin _ _ (uy (p:=λy=>decide (cmpF y x=0)) hib).symm rfl
theorem zr4:ze prog 93 zlg:=by
 refine z9 (fn:=f93) (c:=f93.body.getD .skip) rfl rfl rfl (λh=>by cases h) λp hl O w0 I0 Q hl0 hq=> ?_
 obtain⟨l,x⟩:=p;replace hq:=hq _ rfl;simp only at hq hl;refine zc.n GI2.h [0,1,7,8] (.leaf (.loop (lps K93 0).1 (lps K93 0).2 [(0,.sl l.length 4 (chG l)),(1,.fn 166 [] [.ptr 0 0,.ptr 1 0]),(7,.i l.length),(8,.i 0)] [.box [.fn 66 [] []],.box [.str x.zT,.str x.name,.i x.date,.bool x.first]])) ?_;simp only [Tree.holds,zf]
 have fin:∀ (i:Int) (h:Heap),i=idxB (λy=>decide (cmpC y x=0)) l->h=HIdC x->RetR zlg 2 Q [.i i] h:=by
  intro i h hi2 hh;subst hh;rw [<- hi2] at hq;exact RetR.keep [0,1] rfl rfl (by show ∀ j,j<2->_; decide) rfl hq (by simp [resV,exp2,exp1,exp0,ren0,eqA2]) (by simp [expH,expB,exp1,exp0,ren0,HIdC]) rfl
 refine zc.loop (ι:={i:Nat // i<=l.length/\∀ j,j<i->decide (cmpC (l.getD j Ch.nil) x=0)=false}) (λi=>SIdC l i.1) (λ_=>HIdC x) (λi=>l.length - i.1) ⟨0,aI _,λj hj=>by omega⟩ 0 ?_ ?_ (by kernel_rfl)
 ·exact⟨by simp [SIdC,chS,za],by simp [HIdC],by kernel_rfl,aJ _⟩
 ·rintro⟨i,hil,hib⟩;refine zc.n GI2.h [0,1,7,8] (let v1:=l.getD (i:Int).toNat Ch.nil;.D ((i:Int)<l.length) (.side ((0:Int)<=i/\(i:Int)<l.length) (.ex (λ(x_1:Ch×Ch)=>eqL [.agg [.str v1.zT,.str v1.name,.i v1.date,.bool v1.first],.ptr 0 0,.ptr 1 0] [.agg [.str x_1.1.zT,.str x_1.1.name,.i x_1.1.date,.bool x_1.1.first],.ptr 0 0,.ptr 1 0]/\eqH [.box [.fn 66 [] []],.box [.str x.zT,.str x.name,.i x.date,.bool x.first]] [.box [.fn 66 [] []],.box [.str x_1.2.zT,.str x_1.2.name,.i x_1.2.date,.bool x_1.2.first]]/\2=2/\True) λn=>let v2:List Blk:=[.box [.fn 66 [] []],.box [.str n.2.zT,.str n.2.name,.i n.2.date,.bool n.2.first]];.all (λ(r:Bool)=>r=decide (cmpC n.1 n.2=0)) λn_1=>.ite n_1 (.R [.i i] v2) (.S (i+1) (.leaf (.back 0 [(0,.sl l.length 4 (chG l)),(1,.fn 166 [] [.ptr 0 0,.ptr 1 0]),(7,.i l.length),(8,.i (i+1))] v2))))) (.R [.i (-1:Int)] [.box [.fn 66 [] []],.box [.str x.zT,.str x.name,.i x.date,.bool x.first]])) ?_;simp only [Tree.holds,zf,inR,lo,hi,aD];refine⟨λhlt=> ?_,λhge=> ?_⟩
  ·have hlt:i<l.length:=by have:=aB hlt; omega
   refine⟨by omega,λ_=>⟨(l.getD i Ch.nil,x),⟨by simp,by simp,trivial,trivial⟩,⟨_,rfl⟩,?_⟩⟩;rintro _ rfl;refine⟨λh=> ?_,λh=>⟨by omega,λ_=> ?_⟩⟩
   ·exact fin _ _ (JJ hlt h hib).symm rfl
   ·rw [aP trivial];refine⟨⟨i+1,hlt,λj hj=> ?_⟩,by show l.length - (i+1)<l.length - i; omega,by simp [SIdC,chS,za],by simp [HIdC],by kernel_rfl,aJ _⟩;rcases aR j i with h1 | h1
    ·exact hib j h1
    ·have:j=i:=by omega
     rw [this]; exact h
  ·have hge:i=l.length:=by have:=aC hge; omega
   subst hge;exact fin _ _ (uy (p:=λy=>decide (cmpC y x=0)) hib).symm rfl
def zeu:Ctr:=ctrP true (λp:List Fx×Fx=>[fxS p.1,p.2.av,.fn 41 [] []]) (λp=>p.1.length<2^40) (λp r=>r=idxB (λx=>decide (cmpF x p.2=0)) p.1) (λ_ (r:Int)=>(.i r,[]))
def zec:Ctr:=ctrP true (λp:List Ch×Ch=>[chS p.1,p.2.av,.fn 66 [] []]) (λp=>p.1.length<2^40) (λp r=>r=idxB (λx=>decide (cmpC x p.2=0)) p.1) (λ_ (r:Int)=>(.i r,[]))
noncomputable def GI3:=tb zri (tb zr4 tz)
theorem zhp:ze prog 40 zeu:=by
 refine zh' f40 λp hp O w0 Q hq=> ?_
 obtain⟨l,⟨a,d,v⟩⟩:=p;replace hq:=hq _ rfl;simp only at hq hp;refine zc.n GI3.h [] (.ex (λ(x:List Fx×Fx)=>eqL [.sl l.length 3 (fxG l),.fn 71 [] [.ptr 0 0,.ptr 1 0]] [.sl x.1.length 3 (fxG x.1),.fn 71 [] [.ptr 0 0,.ptr 1 0]]/\eqH [.box [.fn 41 [] []],.box [.str a,.i d,.str v]] [.box [.fn 41 [] []],.box [.str x.2.name,.i x.2.date,.str x.2.value]]/\2=2/\x.1.length<1099511627776) λn=>.all (λ(r:Int)=>r=idxB (λ(x:Fx)=>decide (cmpF x n.2=0)) n.1) λn_1=>.R [.i n_1] [.box [.str n.2.name,.i n.2.date,.str n.2.value],.box [.fn 41 [] []]]) ?_;simp only [Tree.holds,zf];refine⟨(l,⟨a,d,v⟩),⟨by simp [za],by simp,trivial,hp⟩,⟨_,rfl⟩,?_⟩;rintro _ rfl;exact RetR.scal hq rfl (by simp [resV])
theorem zht:ze prog 153 zec:=by
 refine zh' f153 λp hp O w0 Q hq=> ?_
 obtain⟨l,⟨a,v,d,b⟩⟩:=p;replace hq:=hq _ rfl;simp only at hq hp;refine zc.n GI3.h [] (.ex (λ(x:List Ch×Ch)=>eqL [.sl l.length 4 (chG l),.fn 166 [] [.ptr 0 0,.ptr 1 0]] [.sl x.1.length 4 (chG x.1),.fn 166 [] [.ptr 0 0,.ptr 1 0]]/\eqH [.box [.fn 66 [] []],.box [.str a,.str v,.i d,.bool b]] [.box [.fn 66 [] []],.box [.str x.2.zT,.str x.2.name,.i x.2.date,.bool x.2.first]]/\2=2/\x.1.length<1099511627776) λn=>.all (λ(r:Int)=>r=idxB (λ(x:Ch)=>decide (cmpC x n.2=0)) n.1) λn_1=>.R [.i n_1] [.box [.str n.2.zT,.str n.2.name,.i n.2.date,.bool n.2.first],.box [.fn 66 [] []]]) ?_;simp only [Tree.holds,zf];refine⟨(l,⟨a,v,d,b⟩),⟨by simp [za],by simp,trivial,hp⟩,⟨_,rfl⟩,?_⟩;rintro _ rfl;exact RetR.scal hq rfl (by simp [resV])
noncomputable def GI4:=tb zhp (tb zht tz)
theorem ze0:ze prog 14 zml:=by
 refine zh' f14 λp hp O w0 Q hq=> ?_
 obtain⟨⟨f,c⟩,⟨a,d⟩⟩:=p;replace hq:=hq _ rfl;simp only at hq hp;refine zc.n GI4.h [] (let v1:List Blk:=[.box [.sl f.length 3 (fxG f),.sl c.length 4 (chG c)]];.ex (λ(x:List Fx×Fx)=>eqL [.sl f.length 3 (fxG f),.agg [.str a,.i d,.str #[].toList],.fn 41 [] []] [.sl x.1.length 3 (fxG x.1),.agg [.str x.2.name,.i x.2.date,.str x.2.value],.fn 41 [] []]/\x.1.length<1099511627776) λn=>.all (λ(r:Int)=>r=idxB (λ(x:Fx)=>decide (cmpF x n.2=0)) n.1) λn=>.D (n<0) (.R [.str #[].toList,.bool false] v1) (.side ((0:Int)<=n/\n<(f.length:Int)) (.R [.str (Fx.value (f.getD (Int.toNat n) Fx.nil)),.bool true] v1))) ?_;simp only [Tree.holds,zf];refine⟨(f,⟨a,d,[]⟩),⟨by simp [za],hp⟩,⟨_,rfl⟩,?_⟩;rintro _ rfl;obtain⟨hlt,hr⟩:=ziw f a d;simp only at hq ⊢;refine⟨λh=> ?_,λh=> ?_⟩
 ·rw [hr,aO (by have:=aB h; omega)] at hq;exact RetR.scal hq rfl (by simp [resV])
 ·have h:=aC h;refine⟨⟨by omega,hlt⟩,λ_=> ?_⟩;rw [hr,aP (by omega)] at hq;exact RetR.scal hq rfl (by simp [resV])
theorem zhz:ze prog 117 zee:=by
 refine zh' f117 λp hp O w0 Q hq=> ?_
 obtain⟨⟨f,c⟩,⟨a,v,d⟩⟩:=p;replace hq:=hq _ rfl;simp only at hq hp;refine zc.n GI4.h [] (.ex (λ(x:List Ch×Ch)=>eqL [.sl c.length 4 (chG c),.agg [.str a,.str v,.i d,.bool false],.fn 66 [] []] [.sl x.1.length 4 (chG x.1),.agg [.str x.2.zT,.str x.2.name,.i x.2.date,.bool x.2.first],.fn 66 [] []]/\x.1.length<1099511627776) λn=>.all (λ(r:Int)=>r=idxB (λ(x:Ch)=>decide (cmpC x n.2=0)) n.1) λn=>.side (decide ((0:Int)<=n)=true->(0:Int)<=n/\n<(c.length:Int)) (.R [.bool (bif decide ((0:Int)<=n) then Ch.first (c.getD (Int.toNat n) Ch.nil) else false)] [.box [.sl f.length 3 (fxG f),.sl c.length 4 (chG c)]])) ?_;simp only [Tree.holds,zf];refine⟨(c,⟨a,v,d,false⟩),⟨by simp [za],hp⟩,⟨_,rfl⟩,?_⟩;rintro _ rfl;obtain⟨hlt,hr⟩:=zb7 c a v d;simp only at hq ⊢;refine⟨λh=>⟨aB h,hlt⟩,λ_=> ?_⟩;refine RetR.scal hq rfl ?_;rw [hr];simp only [resV];by_cases h:0<=idxB (λx=>decide (cmpC x ⟨a,v,d,false⟩=0)) c
 ·rw [aX h,aP h]; rfl
 ·rw [aW h,aO h]; rfl
noncomputable def K130:=Go.Sx.aA f130
theorem vN{X R:Type}{P:Program}{g:Nat}{fresh:Bool}{inp:X->List AV}{pre:X->Prop}{post:X->R->Prop}{out:X->R->AV×Heap}(μ:X->Nat)
  (step:∀ n,ze P g (ctrP fresh inp (λx=>μ x<n/\pre x) post out)->ze P g (ctrP fresh inp (λx=>μ x<n+1/\pre x) post out)):ze P g (ctrP fresh inp pre post out):=by
 have all:∀ n,ze P g (ctrP fresh inp (λx=>μ x<n/\pre x) post out):=by
  intro n
  induction n with
  | zero=>
   intro args hc Q hq _;simp only [ctrP] at hq;split at hq
   ·obtain⟨x,⟨_,h,_⟩,_⟩:=hq;exact absurd h (Nat.not_lt_zero _)
   ·exact hq.elim
  | succ n ih=>exact step n ih
 intro args hc Q hq hf
 match hc,hq,hf with
 | [],hq,hf=>
  obtain⟨x,⟨h1,h2⟩,h3⟩:=hq;exact all (μ x+1) args [] Q ⟨x,⟨h1,Nat.lt_succ_self _,h2⟩,h3⟩ hf
 | _::_,hq,_=>exact hq.elim
def ze9(n:Nat):Ctr:=ctrP true (λx:Ex=>[x.exA]) (λx=>x.size<n/\x.size<2^62) (λx r=>r=x.size) (λ_ (r:Nat)=>(.i (r:Int),[]))
def GSz(g n:Nat):Nat->Option Ctr:=λf=>if f=g then some (ze9 n) else none
theorem zog{g n:Nat}(h:ze prog g (ze9 n)):∀ f c,GSz g n f=some c->ze prog f c:=by
 intro f c hf;simp only [GSz] at hf;split at hf
 ·rename_i hg; subst hg; cases hf; exact h
 ·cases hf
theorem Z0{x:Ex}{k d:Int}{r m:L8}{l:Nat}{g:Nat->Nat->AV}(hk:k=x.kind)(hr:r=x.rat)(hm:m=x.name)(hd:d=x.date)(hl:l=x.sub.length)(hg:eqG x.sub.length 5 g (Ex.exG x.sub)):eqL [.agg [.int .u8 k,.str r,.str m,.i d,.sl l 5 g]] [x.exA]:=by
 subst hk; subst hr; subst hm; subst hd; subst hl;exact⟨⟨⟨rfl,rfl⟩,rfl,rfl,⟨rfl,rfl⟩,⟨rfl,rfl,hg⟩,trivial⟩,trivial⟩
def SSz(s:List Ex)(c i:Nat):KV:=[(3,.i (c:Int)),(7,Ex.exS s),(8,.i (s.length:Int)),(9,.i (i:Int))]
theorem zgf(n:Nat)(ih:ze prog 130 (ze9 n)):ze prog 130 (ze9 (n+1)):=by
 refine zh' f130 λx hx O w0 Q hq=> ?_
 replace hq:=hq _ rfl;obtain⟨hxn,hxs⟩:=hx;rw [Ex.size_eq] at hxn hxs hq;obtain⟨k,r,m,d,s⟩:=x;simp only [Ex.sub] at hxn hxs hq;refine zc.n (zog ih) [3,7,8,9] (.leaf (.loop (lps K130 0).1 (lps K130 0).2 [(3,.i 1),(7,.sl s.length 5 (Ex.exG s)),(8,.i s.length),(9,.i 0)] [.box [.int .u8 k,.str r,.str m,.i d,.sl s.length 5 (Ex.exG s)]])) ?_;simp only [Tree.holds,zf];have hlen:=Ex.jo s;refine zc.loop (ι:={i:Nat // i<=s.length}) (λi=>SSz s (1+Ex.zK (s.take i.1)) i.1) (λ_=>[]) (λi=>s.length - i.1) ⟨0,aI _⟩ 0 ?_ ?_ (by kernel_rfl)
 ·exact⟨by simp [SSz,Ex.zK,Ex.exS,za],by simp,by kernel_rfl,aI _⟩
 ·rintro⟨i,hil⟩;have hle:=Ex.uR s i;obtain⟨c,hc⟩:∃ c,1+Ex.zK (s.take i)=c:=⟨_,rfl⟩;simp only [hc];refine zc.n (zog ih) [3,7,8,9] (let v1:=s.getD (i:Int).toNat Ex.nil;.D ((i:Int)<s.length) (.side ((0:Int)<=i/\(i:Int)<s.length) (.ex (λ(x:Ex)=>eqL [.agg [.int .u8 (Ex.kind v1),.str (Ex.rat v1),.str (Ex.name v1),.i (Ex.date v1),.sl (List.length (Ex.sub v1)) 5 (Ex.deep v1)]] [.agg [.int .u8 x.kind,.str x.rat,.str x.name,.i x.date,.sl x.sub.length 5 (Ex.exG x.sub)]]/\Ex.size x<n/\Ex.size x<4611686018427387904) λn=>.all (λ(r:Nat)=>r=Ex.size n) λn=>.S ((c:Int)+n) (.S (i+1) (.leaf (.back 0 [(3,.i ((c:Int)+n)),(7,.sl s.length 5 (Ex.exG s)),(8,.i s.length),(9,.i (i+1))] [.box [.int .u8 (Ex.kind v1),.str (Ex.rat v1),.str (Ex.name v1),.i (Ex.date v1),.sl (List.length (Ex.sub v1)) 5 (Ex.deep v1)]]))))) (.R [.i c] [])) ?_;simp only [Tree.holds,zf,inR,lo,hi,aD];refine⟨λhlt=> ?_,λhge=> ?_⟩
  ·have hlt:i<s.length:=by have:=aB hlt; omega
   have hg:=Ex.qu hlt;have ht:=Ex.WZ s i hlt;have hle2:=Ex.uR s (i+1);refine⟨by omega,λ_=>⟨s.getD i Ex.nil,⟨Z0 rfl rfl rfl rfl rfl (Ex.qm _),by omega,by omega⟩,⟨_,rfl⟩,?_⟩⟩;rintro _ rfl;refine⟨by omega,λ_=>⟨by omega,λ_=> ?_⟩⟩;rw [aP trivial];refine⟨⟨i+1,hlt⟩,by show s.length - (i+1)<s.length - i; omega,?_,by simp,by kernel_rfl,aI _⟩;simp [SSz,Ex.exS,za,ht]; omega
  ·have hge:i=s.length:=by have:=aC hge; omega
   subst hge;rw [bD] at hc;rw [hc] at hq;exact RetR.scal hq rfl (by simp [resV])
def zeb:Ctr:=ctrP true (λx:Ex=>[x.exA]) (λx=>x.size<2^62) (λx r=>r=x.size) (λ_ (r:Nat)=>(.i (r:Int),[]))
theorem zfc:ze prog 130 zeb:=vN Ex.size zgf
def G1c(g:Nat)(C:Ctr):Nat->Option Ctr:=λf=>if f=g then some C else none
theorem Qq{g:Nat}{C:Ctr}(h:ze prog g C):∀ f c,G1c g C f=some c->ze prog f c:=by
 intro f c hf;simp only [G1c] at hf;split at hf
 ·rename_i hg; subst hg; cases hf; exact h
 ·cases hf
noncomputable def K171:=Go.Sx.aA f171
def zja(n:Nat):Ctr:=ctrP true (λp:Ex×Nat=>[p.1.exA,.i (p.2:Int)]) (λp=>p.1.size<n/\p.1.size<2^62/\p.2<2^40) (λp r=>r=min p.1.depth (p.2+1)) (λ_ (r:Nat)=>(.i (r:Int),[]))
def SDp(s:List Ex)(limit c i:Nat):KV:=[(1,.i (limit:Int)),(5,.i (c:Int)),(11,Ex.exS s),(12,.i (s.length:Int)),(13,.i (i:Int))]
theorem zbb(n:Nat)(ih:ze prog 171 (zja n)):ze prog 171 (zja (n+1)):=by
 refine zh' f171 λp hp O w0 Q hq=> ?_
 obtain⟨x,limit⟩:=p;obtain⟨hxn,hxs,hli⟩:=hp;replace hq:=hq _ rfl;simp only at hxn hxs hli hq;have hds:=Ex.jO x;have hdp:=Ex.zib x;rw [Ex.xn] at hq hds hdp;rw [Ex.size_eq] at hxn hxs hds;obtain⟨k,r,m,d,s⟩:=x;simp only [Ex.sub] at hxn hxs hq hds hdp;have hlen:=Ex.jo s;refine zc.n (Qq ih) [1,5,11,12,13] (let v1:List Blk:=[.box [.int .u8 k,.str r,.str m,.i d,.sl s.length 5 (Ex.exG s)]];.D ((0:Int)<limit) (.leaf (.loop (lps K171 0).1 (lps K171 0).2 [(1,.i limit),(5,.i 0),(11,.sl s.length 5 (Ex.exG s)),(12,.i s.length),(13,.i 0)] v1)) (.S 1 (.R [.i 1] v1))) ?_;simp only [Tree.holds,zf,inR,lo,hi,aD];refine⟨λhl=> ?_,λhl=> ?_⟩
 ·have hl:0<limit:=by have:=aB hl; omega
  refine zc.loop (ι:={i:Nat // i<=s.length}) (λi=>SDp s limit (min (Ex.zC (s.take i.1)) limit) i.1) (λ_=>[]) (λi=>s.length - i.1) ⟨0,aI _⟩ 0 ?_ ?_ (by kernel_rfl)
  ·exact⟨by simp [SDp,Ex.zC,Ex.exS,za],by simp,by kernel_rfl,aI _⟩
  ·rintro⟨i,hil⟩;obtain⟨c,hc⟩:∃ c,min (Ex.zC (s.take i)) limit=c:=⟨_,rfl⟩;simp only [hc];refine zc.n (Qq ih) [1,5,11,12,13] (let v1:=s.getD (i:Int).toNat Ex.nil;.D ((i:Int)<s.length) (.side ((0:Int)<=i/\(i:Int)<s.length) (.S (limit-1) (.ex (λ(x:Ex×Nat)=>eqL [.agg [.int .u8 (Ex.kind v1),.str (Ex.rat v1),.str (Ex.name v1),.i (Ex.date v1),.sl (List.length (Ex.sub v1)) 5 (Ex.deep v1)],.i (limit-1)] [.agg [.int .u8 x.1.kind,.str x.1.rat,.str x.1.name,.i x.1.date,.sl x.1.sub.length 5 (Ex.exG x.1.sub)],.i x.2]/\Ex.size x.1<n/\Ex.size x.1<4611686018427387904/\x.2<1099511627776) λn=>.all (λ(r:Nat)=>r=min n.1.depth (n.2+1)) λn=>.S (i+1) (.leaf (.back 0 [(1,.i limit),(5,.i (max (c:Int) (n:Int))),(11,.sl s.length 5 (Ex.exG s)),(12,.i s.length),(13,.i (i+1))] [.box [.int .u8 (Ex.kind v1),.str (Ex.rat v1),.str (Ex.name v1),.i (Ex.date v1),.sl (List.length (Ex.sub v1)) 5 (Ex.deep v1)]]))))) (.S (c+1) (.R [.i (c+1)] []))) ?_;simp only [Tree.holds,zf,inR,lo,hi,aD];refine⟨λhlt=> ?_,λhge=> ?_⟩
   ·have hlt:i<s.length:=by have:=aB hlt; omega
    have hg:=Ex.qu hlt;have ht:=Ex.vD s i hlt;refine⟨by omega,λ_=>⟨by omega,λ_=>⟨(s.getD i Ex.nil,limit - 1),⟨?_,by show(s.getD i Ex.nil).size<n; omega,by show(s.getD i Ex.nil).size<2^62; omega,by show limit - 1<2^40; omega⟩,⟨_,rfl⟩,?_⟩⟩⟩
    ·have e1:(limit:Int) - 1=((limit - 1:Nat):Int):=by omega
     rw [e1];exact⟨⟨⟨rfl,rfl⟩,rfl,rfl,⟨rfl,rfl⟩,⟨rfl,rfl,Ex.qm _⟩,trivial⟩,⟨rfl,rfl⟩,trivial⟩
    rintro _ rfl;refine⟨by omega,λ_=> ?_⟩;rw [aP trivial];refine⟨⟨i+1,hlt⟩,by show s.length - (i+1)<s.length - i; omega,?_,by simp,by kernel_rfl,aI _⟩;simp [SDp,ht,Ex.exS,za]; omega
   ·have hge:i=s.length:=by have:=aC hge; omega
    subst hge;rw [bD] at hc;refine⟨by omega,λ_=> ?_⟩;exact RetR.scal hq rfl (by simp [resV]; omega)
 ·have hl:limit=0:=by have:=aC hl; omega
  refine⟨by decide,λ_=> ?_⟩;exact RetR.scal hq rfl (by simp [resV]; omega)
theorem znz:ze prog 171 (ctrP true (λp:Ex×Nat=>[p.1.exA,.i (p.2:Int)]) (λp=>p.1.size<2^62/\p.2<2^40) (λp r=>r=min p.1.depth (p.2+1)) (λ_ (r:Nat)=>(.i (r:Int),[]))):=vN (λp=>p.1.size) zbb
noncomputable def K161:=Go.Sx.aA f161
def zte:Ctr:=ctrP true (λx:Ex=>[x.exA]) (λx=>x.rat.length<2^40/\x.name.length<2^40) (λx r=>r=bif wm x.kind x.rat x.name x.date x.sub.length then 1 else 0) (λ_ (r:Int)=>(.int .u8 r,[]))
noncomputable def GLf:=tb uG (tb XC (tb Q8 tz))
theorem zs9:ze prog 172 zte:=by
 refine zh' f172 λx hx O w0 Q hq=> ?_
 obtain⟨k,r,m,d,s⟩:=x;replace hq:=hq _ rfl;obtain⟨h1,h2⟩:=hx;simp only [Ex.rat,Ex.name,Ex.kind,Ex.date,Ex.sub] at h1 h2 hq;refine zc.n GLf.h [] (let v2:=r=#[].toList;let v1:List Blk:=[.box [.int .u8 k,.str r,.str m,.i d,.sl s.length 5 (Ex.exG s)]];let v4:qe:=.ret [.int .u8 1] v1;let v3:qe:=.ret [.int .u8 0] v1;.D (k=1) (.ex (λ(x:L8)=>decide ((s.length:Int)=0)=true->q15 [.str r] x) λn=>.all (λ(x:Int)=>decide ((s.length:Int)=0)=true->x=errR n) λn=>.ite (!bif bif bif decide ((s.length:Int)=0) then decide (n=0) else false then decide (m=#[].toList) else false then decide (d=0) else false) (.leaf v3) (.leaf v4)) (.D (k=2) (.ex (λ(x:L8)=>(bif decide ((s.length:Int)=0) then decide v2 else false)=true->q15 [.str m] x) λn=>.all (λ(x:Bool)=>(bif decide ((s.length:Int)=0) then decide v2 else false)=true->x=qH n) λn=>.ex (λ(x:Int)=>(bif bif decide ((s.length:Int)=0) then decide v2 else false then n else false)=true->q34 [.i d] x) λn_1=>.all (λ(x:Bool)=>(bif bif decide ((s.length:Int)=0) then decide v2 else false then n else false)=true->x=dayB n_1) λn_2=>.ite (!bif bif bif decide ((s.length:Int)=0) then decide v2 else false then n else false then n_2 else false) (.leaf v3) (.leaf v4)) (.D (k=3) (.ex (λ(x:L8)=>(bif decide ((s.length:Int)=0) then decide v2 else false)=true->q15 [.str m] x) λn=>.all (λ(x:Bool)=>(bif decide ((s.length:Int)=0) then decide v2 else false)=true->x=qH n) λn=>.ite (!bif bif bif decide ((s.length:Int)=0) then decide v2 else false then n else false then decide (d=0) else false) (.leaf v3) (.leaf v4)) (.ite true (.leaf v3) (.leaf v4))))) ?_;simp only [q15,q34,Tree.holds,zf,inR,lo,hi,aD]
 have fin:∀ T:Bool,T=wm k r m d s.length->((!T)=true->Q (.int .u8 0,[]))/\((!T)=false->Q (.int .u8 1,[])):=by
  intro T hT;subst hT;cases hl:wm k r m d s.length with
  | true=>rw [hl] at hq; exact⟨λh=>(by cases h),λ_=>hq⟩
  | false=>rw [hl] at hq; exact⟨λ_=>hq,λh=>(by cases h)⟩
 refine⟨λhk=> ?_,λhk=> ?_⟩
 ·have hk:k=1:=aB hk;refine⟨r,λ_=>⟨by simp,by omega⟩,⟨_,λ_=>rfl⟩,?_⟩;intro e he
  have F:=fin (bif bif bif decide ((s.length:Int)=0) then decide (e=0) else false then decide (m=[]) else false then decide (d=0) else false) (by
   by_cases hl:s.length=0
   ·have:=he (by simp [hl]);subst this;simp [wm,hk,hl,Bool.and_assoc]
   ·simp [wm,hl])
  exact⟨λh=>RetR.scal (F.1 h) rfl (by simp [resV]),λh=>RetR.scal (F.2 h) rfl (by simp [resV])⟩
 ·have hk1:k≠1:=aC hk;refine⟨λhk=> ?_,λhk=> ?_⟩
  ·have hk:k=2:=aB hk;refine⟨m,λ_=>⟨by simp,by omega⟩,⟨_,λ_=>rfl⟩,?_⟩;intro e he;refine⟨d,λ_=>⟨by simp,trivial⟩,⟨_,λ_=>rfl⟩,?_⟩;intro f hf
   have F:=fin (bif bif bif decide ((s.length:Int)=0) then decide (r=[]) else false then e else false then f else false) (by
    by_cases hl:s.length=0
    ·by_cases hr:r=[]
     ·have:=he (by simp [hl,hr]);subst this;cases hn:qH m with
      | true=>
       have:=hf (by simp [hl,hr,hn]);subst this;simp [wm,hk,hl,hr,hn]
      | false=>simp [wm,hk,hl,hr,hn]
     ·simp [wm,hk,hl,hr]
    ·simp [wm,hl])
   exact⟨λh=>RetR.scal (F.1 h) rfl (by simp [resV]),λh=>RetR.scal (F.2 h) rfl (by simp [resV])⟩
  ·have hk2:k≠2:=aC hk;refine⟨λhk=> ?_,λhk=> ?_⟩
   ·have hk:k=3:=aB hk;refine⟨m,λ_=>⟨by simp,by omega⟩,⟨_,λ_=>rfl⟩,?_⟩;intro e he
    have F:=fin (bif bif bif decide ((s.length:Int)=0) then decide (r=[]) else false then e else false then decide (d=0) else false) (by
     by_cases hl:s.length=0
     ·by_cases hr:r=[]
      ·have:=he (by simp [hl,hr]);subst this;simp [wm,hk,hl,hr]
      ·simp [wm,hk,hl,hr]
     ·simp [wm,hl])
    exact⟨λh=>RetR.scal (F.1 h) rfl (by simp [resV]),λh=>RetR.scal (F.2 h) rfl (by simp [resV])⟩
   ·have hk3:k≠3:=aC hk;have F:=fin false (by simp [wm,hk1,hk2,hk3]);exact⟨λh=>RetR.scal (F.1 rfl) rfl (by simp [resV]),λh=>by cases h⟩
def SSo(s:List Ex)(i:Nat):KV:=[(3,.ptr 1 0),(41,Ex.exS s),(42,.i (s.length:Int)),(43,.i (i:Int))]
def HSo(k:Int):Heap:=[.dead,.box [.sl (jL k) 1 λj _=>.int .u8 (qV k j),.int .u8 (jw k)]]
def zfo(n:Nat):Ctr:=ctrP true (λx:Ex=>[x.exA]) (λx=>x.size<n/\x.size<2^60/\x.zQ<2^40) (λx r=>r=x.zL) (λ_ (r:Int)=>(.int .u8 r,[]))
def GSo(n:Nat):Nat->Option Ctr:=λf=>if f=161 then some (zfo n) else if f=172 then some zte else none
theorem znh{n:Nat}(h:ze prog 161 (zfo n)):∀ f c,GSo n f=some c->ze prog f c:=by
 intro f c hf;simp only [GSo] at hf;split at hf
 ·rename_i hg; subst hg; cases hf; exact h
 ·split at hf
  ·rename_i hg; subst hg; cases hf; exact zs9
  ·cases hf
abbrev q39(A:List AV)(x:Ex):Prop:=eqL A [.agg [.int .u8 x.kind,.str x.rat,.str x.name,.i x.date,.sl x.sub.length 5 (Ex.exG x.sub)]]/\x.rat.length<1099511627776/\x.name.length<1099511627776
theorem zgh(n:Nat)(ih:ze prog 161 (zfo n)):ze prog 161 (zfo (n+1)):=by
 refine zh' f161 λx hx O w0 Q hq=> ?_
 replace hq:=hq _ rfl;obtain⟨hxn,hxs,hxb⟩:=hx;rw [Ex.size_eq] at hxn hxs;rw [Ex.zh6] at hxb;rw [Ex.WK] at hq;obtain⟨k,r,m,d,s⟩:=x;simp only [Ex.sub,Ex.rat,Ex.name,Ex.kind,Ex.date] at hxn hxs hq hxb;refine zc.n (znh ih) [3,41,42,43] (let v5:=lps K161 0;let v3:List (Nat×AV):=[(3,.ptr 1 0),(41,.sl s.length 5 (Ex.exG s)),(42,.i s.length),(43,.i 0)];let v2:=q39 [.agg [.int .u8 k,.str r,.str m,.i d,.sl s.length 5 (Ex.exG s)]];let v1:List AV:=[.int .u8 k,.str r,.str m,.i d,.sl s.length 5 (Ex.exG s)];let v4:List Blk:=[.box v1,.box [.nils,.int .u8 0]];.ite (j6 k) (.ite false (.ex v2 λn=>.all (λ(r:Int)=>r=bif wm n.kind n.rat n.name n.date n.sub.length then(1:Int) else(0:Int)) λn=>.R [.int .u8 n] [.box v1,.box [.sl (jL k) 1 λ(j x:Nat)=>.int .u8 (qV k j),.int .u8 (jw k)]]) (.ite (bif bif bif !decide ((s.length:Int)=(↑(jL k):Int)) then true else !decide (r=#[].toList) then true else !decide (m=#[].toList) then true else !decide (d=0)) (.R [.int .u8 0] [.box v1,.box [.sl (jL k) 1 λ(j x:Nat)=>.int .u8 (qV k j),.int .u8 (jw k)]]) (.leaf (.loop v5.1 v5.2 v3 [.box v1,.box [.sl (jL k) 1 λ(j x:Nat)=>.int .u8 (qV k j),.int .u8 (jw k)]])))) (.ite true (.ex v2 λn=>.all (λ(r:Int)=>r=bif wm n.kind n.rat n.name n.date n.sub.length then(1:Int) else(0:Int)) λn=>.R [.int .u8 n] v4) (.ite (bif bif bif !decide ((s.length:Int)=0) then true else !decide (r=#[].toList) then true else !decide (m=#[].toList) then true else !decide (d=0)) (.R [.int .u8 0] v4) (.leaf (.loop v5.1 v5.2 v3 v4))))) ?_;simp only [q39,Tree.holds,zf,inR,lo,hi,aD];refine⟨λhk=>⟨λh=>(by cases h),λ_=>⟨λh=> ?_,λh=> ?_⟩⟩,λhk=> ?_⟩
 ·have hn:¬ (r=[]/\m=[]/\d=0/\Ex.w8 s=j2 k):=by
   rintro⟨rfl,rfl,rfl,h4⟩;have:s.length=jL k:=by rw [<- Ex.wA,h4]; rfl
   simp [this] at h
  have e:kQ k r m d (Ex.w8 s)=0:=by unfold kQ; rw [aP hk,aO hn]
  exact RetR.scal hq rfl (by simp [resV,e])
 ·have hh:s.length=jL k/\r=[]/\m=[]/\d=0:=by
   simp at h;obtain⟨⟨⟨h1,h2⟩,h3⟩,h4⟩:=h;exact⟨by omega,h2,h3,h4⟩
  obtain⟨hl,rfl,rfl,rfl⟩:=hh;have hlen:=Ex.jo s;have e1:kQ k [] [] 0 (Ex.w8 s)=if Ex.w8 s=j2 k then jw k else 0:=by unfold kQ; rw [aP hk]; simp
  rw [e1] at hq;clear h e1;refine zc.loop (ι:={i:Nat // i<=s.length/\∀ j,j<i->(s.getD j Ex.nil).zL=qV k j}) (λi=>SSo s i.1) (λ_=>HSo k) (λi=>s.length - i.1) ⟨0,aI _,λj hj=>by omega⟩ 0 ?_ ?_ (by kernel_rfl)
  ·exact⟨by simp [SSo,Ex.exS,za],by simp [HSo,za],by kernel_rfl,aI _⟩
  ·rintro⟨i,hil,hib⟩;refine zc.n (znh ih) [3,41,42,43] (let v1:=s.getD (i:Int).toNat Ex.nil;let v2:List AV:=[.int .u8 (Ex.kind v1),.str (Ex.rat v1),.str (Ex.name v1),.i (Ex.date v1),.sl (List.length (Ex.sub v1)) 5 (Ex.deep v1)];.D ((i:Int)<s.length) (.side ((0:Int)<=i/\(i:Int)<s.length) (.side ((0:Int)<=i/\(i:Int)<(↑(jL k):Int)) (.ex (λ(x:Ex)=>eqL [.agg [.int .u8 (Ex.kind v1),.str (Ex.rat v1),.str (Ex.name v1),.i (Ex.date v1),.sl (List.length (Ex.sub v1)) 5 (Ex.deep v1)]] [.agg [.int .u8 x.kind,.str x.rat,.str x.name,.i x.date,.sl x.sub.length 5 (Ex.exG x.sub)]]/\Ex.size x<n/\Ex.size x<1152921504606846976/\Ex.zQ x<1099511627776) λn=>.all (λ(r:Int)=>r=Ex.zL n) λn=>.N (n=qV k (i:Int).toNat) (.R [.int .u8 0] [.dead,.box [.sl (jL k) 1 λ(j x:Nat)=>.int .u8 (qV k j),.int .u8 (jw k)],.box v2]) (.S (i+1) (.leaf (.back 0 [(3,.ptr 1 0),(41,.sl s.length 5 (Ex.exG s)),(42,.i s.length),(43,.i (i+1))] [.dead,.box [.sl (jL k) 1 λ(j x:Nat)=>.int .u8 (qV k j),.int .u8 (jw k)],.box v2])))))) (.R [.int .u8 (jw k)] [.dead,.box [.sl (jL k) 1 λ(j x:Nat)=>.int .u8 (qV k j),.int .u8 (jw k)]])) ?_;simp only [Tree.holds,zf,inR,lo,hi,aD];refine⟨λhlt=> ?_,λhge=> ?_⟩
   ·have hlt:i<s.length:=by have:=aB hlt; omega
    have hg:=Ex.qu hlt;have hg2:=Ex.zbm hlt;have hb0:Ex.jN s<2^40:=by simpa using hxb
    refine⟨by omega,λ_=>⟨by omega,λ_=>⟨s.getD i Ex.nil,⟨Z0 rfl rfl rfl rfl rfl (Ex.qm _),by omega,by omega,by omega⟩,⟨_,rfl⟩,?_⟩⟩⟩;intro e he;refine⟨λh=> ?_,λh=>⟨by omega,λ_=> ?_⟩⟩
    ·have hne:¬ Ex.w8 s=j2 k:=by
      intro h2;have:=(Ex.Z6.1 h2).2 i hlt;rw [<- he] at this;have h3:¬ e=qV k i:=by simpa using h
      exact h3 this
     rw [aO hne] at hq;exact RetR.scal hq rfl (by simp [resV])
    ·rw [aP trivial];have h3:e=qV k i:=by simpa using h
     refine⟨⟨i+1,hlt,λj hj=> ?_⟩,by show s.length - (i+1)<s.length - i; omega,by simp [SSo,Ex.exS,za],by simp [HSo,za],by kernel_rfl,aI _⟩;rcases aR j i with h1 | h1
     ·exact hib j h1
     ·have:j=i:=by omega
      rw [this,<- he,h3]
   ·have hge:i=s.length:=by have:=aC hge; omega
    subst hge;have:Ex.w8 s=j2 k:=Ex.Z6.2 ⟨hl,hib⟩;rw [aP this] at hq;exact RetR.scal hq rfl (by simp [resV])
 ·refine⟨λ_=> ?_,λh=>(by cases h)⟩;refine⟨.mk k r m d s,⟨⟨⟨⟨rfl,rfl⟩,rfl,rfl,⟨rfl,rfl⟩,⟨rfl,rfl,za _ _ _⟩,trivial⟩,trivial⟩,by show r.length<_; omega,by show m.length<_; omega⟩,⟨_,rfl⟩,?_⟩;intro e he
  have e1:kQ k r m d (Ex.w8 s)=e:=by
   unfold kQ;rw [aO (by rw [hk]; decide),he,Ex.wA];show _=bif wm k r m d s.length then 1 else 0
   cases wm k r m d s.length<;>rfl
  rw [e1] at hq;exact RetR.scal hq rfl (by simp [resV])
def JH:Ctr:=ctrP true (λx:Ex=>[x.exA]) (λx=>x.size<2^60/\x.zQ<2^40) (λx r=>r=x.zL) (λ_ (r:Int)=>(.int .u8 r,[]))
theorem X9:ze prog 161 JH:=vN Ex.size zgh
def zkt:Ctr:=ctrP true (λx:Ex=>[x.exA]) (λx=>x.size<2^62) (λx r=>r=x.size) (λ_ (r:Nat)=>(.i (r:Int),[]))
def znm:Ctr:=ctrP true (λp:Ex×Nat=>[p.1.exA,.i (p.2:Int)]) (λp=>p.1.size<2^62/\p.2<2^40) (λp r=>r=min p.1.depth (p.2+1)) (λ_ (r:Nat)=>(.i (r:Int),[]))
def X4:Ctr:=ctrP true (λx:Ex=>[x.exA]) (λx=>x.size<2^40/\x.zQ<2^40) (λx r=>r=x.errX) (λ_ (r:Int)=>(.i r,[]))
def zfg(z:Int):Ctr:=ctrP true (λx:Ex=>[x.exA]) (λx=>x.size<2^40/\x.zQ<2^40) (λx r=>r=(decide (x.errX=0)&&decide (x.zL=z))) (λ_ (r:Bool)=>(.bool r,[]))
theorem eqX(x:Ex):eqL [.agg [.int .u8 x.kind,.str x.rat,.str x.name,.i x.date,.sl x.sub.length 5 (Ex.exG x.sub)]] [x.exA]:=Z0 rfl rfl rfl rfl rfl (za _ _ _)
theorem zh2{x:Ex}{n:Nat}(hn:decide (500<(x.size:Int))=false->(60<n↔60<x.depth)) :
  ((bif decide (500<(x.size:Int)) then true else decide (60<(n:Int)))=true->x.errX=4)/\((bif decide (500<(x.size:Int)) then true else decide (60<(n:Int)))=false->x.errX=if x.zL=0 then 8 else 0):=by
 by_cases h:500<x.size
 ·have e:decide (500<(x.size:Int))=true:=aX (by omega);rw [e];exact⟨λ_=>aP (.inl h),λh=>by cases h⟩
 ·have e:decide (500<(x.size:Int))=false:=aW (by omega);have h2:=hn e;rw [e];simp only [cond_false];by_cases h3:60<n
  ·exact⟨λ_=>aP (.inr (h2.1 h3)),λh=>by have:=aC h; omega⟩
  ·refine⟨λh=>by have:=aB h; omega,λ_=> ?_⟩;unfold Ex.errX;rw [aO];rintro(h4 | h4)
   ·exact h h4
   ·exact h3 (h2.2 h4)
noncomputable def GCk:=tb zfc (tb znz (tb X9 tz))
abbrev q40(A:List AV)(x:Ex):Prop:=eqL A [.agg [.int .u8 x.kind,.str x.rat,.str x.name,.i x.date,.sl x.sub.length 5 (Ex.exG x.sub)]]/\Ex.size x<1152921504606846976/\Ex.zQ x<1099511627776
theorem Xn:ze prog 160 X4:=by
 refine zh' f160 λx hx O w0 Q hq=> ?_
 replace hq:=hq _ rfl;obtain⟨h1,h2⟩:=hx;refine zc.n GCk.h [] (let v2:List Blk:=[.box [.int .u8 x.kind,.str x.rat,.str x.name,.i x.date,.sl x.sub.length 5 (Ex.exG x.sub)]];let v1:=[AV.int .u8 x.kind,AV.str x.rat,AV.str x.name,AV.i x.date,AV.sl x.sub.length 5 (Ex.exG x.sub)];.ex (λ(x_1:Ex)=>eqL [.agg v1] [.agg [.int .u8 x_1.kind,.str x_1.rat,.str x_1.name,.i x_1.date,.sl x_1.sub.length 5 (Ex.exG x_1.sub)]]/\Ex.size x_1<4611686018427387904) λn=>.all (λ(r:Nat)=>r=Ex.size n) λn=>.ex (λ(x_1:Ex×Nat)=>decide ((500:Int)<n)=false->eqL [.agg v1,.i 60] [.agg [.int .u8 x_1.1.kind,.str x_1.1.rat,.str x_1.1.name,.i x_1.1.date,.sl x_1.1.sub.length 5 (Ex.exG x_1.1.sub)],.i x_1.2]/\Ex.size x_1.1<4611686018427387904/\x_1.2<1099511627776) λn_1=>.all (λ(x:Nat)=>decide ((500:Int)<n)=false->x=min n_1.1.depth (n_1.2+1)) λn_2=>.ite (bif decide ((500:Int)<n) then true else decide ((60:Int)<n_2)) (.R [.i 4] v2) (.ex (q40 [.agg v1]) λn=>.all (λ(r:Int)=>r=Ex.zL n) λn=>.D (n=0) (.R [.i 8] v2) (.R [.i 0] v2))) ?_;simp only [q40,Tree.holds,zf,inR,lo,hi,aD];refine⟨x,⟨Z0 rfl rfl rfl rfl rfl (za _ _ _),by omega⟩,⟨_,rfl⟩,?_⟩;rintro _ rfl;refine⟨(x,60),λ_=>⟨⟨⟨⟨rfl,rfl⟩,rfl,rfl,⟨rfl,rfl⟩,⟨rfl,rfl,za _ _ _⟩,trivial⟩,⟨rfl,rfl⟩,trivial⟩,by show x.size<_; omega,by show 60<1099511627776; omega⟩,⟨_,λ_=>rfl⟩,?_⟩;intro c hc;have em:=zh2 (x:=x) (n:=c) λh=>by have:=hc h; simp only at this; omega
 refine⟨λh=> ?_,λh=>⟨x,⟨eqX x,by omega,by omega⟩,⟨_,rfl⟩,?_⟩⟩
 ·rw [em.1 h] at hq;exact RetR.scal hq rfl (by simp [resV])
 ·have e:=em.2 h;rintro _ rfl;refine⟨λg=> ?_,λg=> ?_⟩
  ·rw [e,aP (aB g)] at hq;exact RetR.scal hq rfl (by simp [resV])
  ·rw [e,aO (aC g)] at hq;exact RetR.scal hq rfl (by simp [resV])
noncomputable def GNu:=tb Xn (tb X9 tz)
abbrev q41(A:List AV)(x:Ex):Prop:=eqL A [.agg [.int .u8 x.kind,.str x.rat,.str x.name,.i x.date,.sl x.sub.length 5 (Ex.exG x.sub)]]/\Ex.size x<1099511627776/\Ex.zQ x<1099511627776
theorem zur:ze prog 136 (zfg 1):=by
 refine zh' f136 λx hx O w0 Q hq=> ?_
 replace hq:=hq _ rfl;obtain⟨h1,h2⟩:=hx;refine zc.n GNu.h [] (let v1:=[AV.agg [.int .u8 x.kind,.str x.rat,.str x.name,.i x.date,.sl x.sub.length 5 (Ex.exG x.sub)]];.ex (q41 v1) λn=>.all (λ(r:Int)=>r=Ex.errX n) λn=>.ex (λ(x9:Ex)=>decide (n=0)=true->q40 v1 x9) λn_1=>.all (λ(x:Int)=>decide (n=0)=true->x=Ex.zL n_1) λn_2=>.R [.bool (bif decide (n=0) then decide (n_2=1) else false)] [.box [.int .u8 x.kind,.str x.rat,.str x.name,.i x.date,.sl x.sub.length 5 (Ex.exG x.sub)]]) ?_;simp only [q40,q41,Tree.holds,zf,inR,lo,hi,aD];refine⟨x,⟨eqX x,by omega,by omega⟩,⟨_,rfl⟩,?_⟩;rintro _ rfl;refine⟨x,λ_=>⟨eqX x,by omega,by omega⟩,⟨_,λ_=>rfl⟩,?_⟩;intro c hc;refine RetR.scal hq rfl ?_;cases h:decide (x.errX=0) with
 | false=>rfl
 | true=>rw [hc h]; rfl
theorem zmf:ze prog 137 (zfg 2):=by
 refine zh' f137 λx hx O w0 Q hq=> ?_
 replace hq:=hq _ rfl;obtain⟨h1,h2⟩:=hx;refine zc.n GNu.h [] (let v1:=[AV.agg [.int .u8 x.kind,.str x.rat,.str x.name,.i x.date,.sl x.sub.length 5 (Ex.exG x.sub)]];.ex (q41 v1) λn=>.all (λ(r:Int)=>r=Ex.errX n) λn=>.ex (λ(x9:Ex)=>decide (n=0)=true->q40 v1 x9) λn_1=>.all (λ(x:Int)=>decide (n=0)=true->x=Ex.zL n_1) λn_2=>.R [.bool (bif decide (n=0) then decide (n_2=2) else false)] [.box [.int .u8 x.kind,.str x.rat,.str x.name,.i x.date,.sl x.sub.length 5 (Ex.exG x.sub)]]) ?_;simp only [q40,q41,Tree.holds,zf,inR,lo,hi,aD];refine⟨x,⟨eqX x,by omega,by omega⟩,⟨_,rfl⟩,?_⟩;rintro _ rfl;refine⟨x,λ_=>⟨eqX x,by omega,by omega⟩,⟨_,λ_=>rfl⟩,?_⟩;intro c hc;refine RetR.scal hq rfl ?_;cases h:decide (x.errX=0) with
 | false=>rfl
 | true=>rw [hc h]; rfl
structure St8 where
 f:List Fx
 c:List Ch
 day:Int
 e:Int
def St8.box(s:St8):Blk:=.box [fxS s.f,chS s.c,.i s.day,.i s.e]
def St8.err(s:St8)(e:Int):St8:=⟨s.f,s.c,s.day,e⟩
theorem qM(f:List Fx)(c:List Ch)(day e:Int):eqH [.box [.sl f.length 3 (fxG f),.sl c.length 4 (chG c),.i day,.i e]] [(St8.mk f c day e).box]:=⟨⟨⟨rfl,rfl,za _ _ _⟩,⟨rfl,rfl,za _ _ _⟩,⟨rfl,rfl⟩,⟨rfl,rfl⟩,trivial⟩,trivial⟩
theorem RetR.st8{ctr:Ctr}{Q:AV×Heap->Prop}{rs:List AV}{f:List Fx}{c:List Ch}{day e:Int}{r:AV}(hf:ctr.fresh=false)(hq:Q (r,[(St8.mk f c day e).box]))(hs:Qg r=true)(hr:resV rs=r)(h2:exp2 [.box [.sl f.length 3 (fxG f),.sl c.length 4 (chG c),.i day,.i e]] [0] r=r:=by rfl):RetR ctr 1 Q rs [.box [.sl f.length 3 (fxG f),.sl c.length 4 (chG c),.i day,.i e]]:=by
 subst hr;refine RetR.keep [0] rfl rfl (by decide) hf hq ?_ ?_ rfl
 ·rw [h2]; exact Xf hs
 ·exact qM f c day e
structure KS where
 s:St8
 x:L8
 e:Int
def zao:Ctr:=ctrT false false (λk:KS=>[.ptr 0 0,.str k.x,.i k.e]) (λk=>[k.s.box]) (λ_=>True) (λk r=>r=if k.s.e=0 then k.e else k.s.e) (λk (r:Int)=>(.str k.x,[(k.s.err r).box]))
def zlf:Ctr:=ctrT false false (λk:St8×Int×Int=>[.ptr 0 0,.i k.2.1,.i k.2.2]) (λk=>[k.1.box]) (λ_=>True) (λk r=>r=if k.1.e=0 then k.2.2 else k.1.e) (λk (r:Int)=>(.i k.2.1,[(k.1.err r).box]))
theorem U5:ze prog 169 zao:=by
 refine z9 (fn:=f169) (c:=f169.body.getD .skip) rfl rfl rfl (λh=>by cases h) λk hk O w0 I0 Q hl0 hq=> ?_
 obtain⟨⟨f,c,day,e⟩,x,e'⟩:=k;replace hq:=hq _ rfl;simp only at hq;refine zc.n zw [] (.D (e=0) (.R [.str x] [.box [.sl f.length 3 (fxG f),.sl c.length 4 (chG c),.i day,.i e']]) (.R [.str x] [.box [.sl f.length 3 (fxG f),.sl c.length 4 (chG c),.i day,.i e]])) ?_;simp only [Tree.holds,zf];refine⟨λh=> ?_,λh=> ?_⟩
 ·rw [aP (aB h)] at hq;exact RetR.st8 rfl hq rfl rfl
 ·rw [aO (aC h)] at hq;exact RetR.st8 rfl hq rfl rfl
theorem zor:ze prog 176 zlf:=by
 refine z9 (fn:=f176) (c:=f176.body.getD .skip) rfl rfl rfl (λh=>by cases h) λk hk O w0 I0 Q hl0 hq=> ?_
 obtain⟨⟨f,c,day,e⟩,x,e'⟩:=k;replace hq:=hq _ rfl;simp only at hq;refine zc.n zw [] (.D (e=0) (.R [.i x] [.box [.sl f.length 3 (fxG f),.sl c.length 4 (chG c),.i day,.i e']]) (.R [.i x] [.box [.sl f.length 3 (fxG f),.sl c.length 4 (chG c),.i day,.i e]])) ?_;simp only [Tree.holds,zf];refine⟨λh=> ?_,λh=> ?_⟩
 ·rw [aP (aB h)] at hq;exact RetR.st8 rfl hq rfl rfl
 ·rw [aO (aC h)] at hq;exact RetR.st8 rfl hq rfl rfl
def fixC:Ctr:=ctrT false false (λk:KS=>[.ptr 0 0,.str k.x,.i k.e]) (λk=>[k.s.box]) (λk=>k.s.f.length<2^40/\k.s.e=0) (λk r=>r=fixR k.s.f k.x k.e) (λk (r:L8×Int)=>(.str r.1,[(k.s.err r.2).box]))
noncomputable def GFx:=tb ze0 (tb U5 tz)
abbrev q43(A:List AV)(H:Heap)(x:KS):Prop:=eqL A [.ptr 0 0,.str x.x,.i x.e]/\eqH H [.box [.sl x.s.f.length 3 (fxG x.s.f),.sl x.s.c.length 4 (chG x.s.c),.i x.s.day,.i x.s.e]]/\1=1/\True
abbrev q42(A:List AV)(x:(List Fx×List Ch)×L8×Int):Prop:=eqL A [.agg [.sl x.1.1.length 3 (fxG x.1.1),.sl x.1.2.length 4 (chG x.1.2)],.str x.2.1,.i x.2.2]/\x.1.1.length<1099511627776
theorem zgk:ze prog 168 fixC:=by
 refine z9 (fn:=f168) (c:=f168.body.getD .skip) rfl rfl rfl (λh=>by cases h) λk hk O w0 I0 Q hl0 hq=> ?_
 obtain⟨⟨f,c,day,e⟩,x,d⟩:=k;obtain⟨h1,h2⟩:=hk;replace hq:=hq _ rfl;simp only at h1 h2 hq;subst h2;refine zc.n GFx.h [] (.ex (q42 [.agg [.sl f.length 3 (fxG f),.sl c.length 4 (chG c)],.str x,.i d]) λn=>.all (λ(r:L8×Bool)=>r=zo n.1.1 n.2.1 n.2.2) λn=>.ite (!Prod.snd n) (.ex (q43 [.ptr 0 0,.str n.1,.i 30] [.box [.sl f.length 3 (fxG f),.sl c.length 4 (chG c),.i day,.i 0]]) λn=>.all (λ(r:Int)=>r=if St8.e n.s=0 then KS.e n else St8.e n.s) λn_1=>let v1:=n.s.err n_1;.R [.str n.x] [.box [.sl (List.length v1.f) 3 (fxG v1.f),.sl (List.length v1.c) 4 (chG v1.c),.i v1.day,.i v1.e]]) (.R [.str n.1] [.box [.sl f.length 3 (fxG f),.sl c.length 4 (chG c),.i day,.i 0]])) ?_;simp only [q42,q43,Tree.holds,zf];refine⟨((f,c),(x,d)),⟨⟨⟨⟨rfl,rfl,za _ _ _⟩,⟨rfl,rfl,za _ _ _⟩,trivial⟩,rfl,⟨rfl,rfl⟩,trivial⟩,h1⟩,⟨_,rfl⟩,?_⟩;rintro _ rfl;unfold fixR at hq;refine⟨λh=> ?_,λh=> ?_⟩
 ·have h:(zo f x d).2=false:=by simpa using h
  have h0:(zo f x d).1=[]:=znx h;rw [aO (by rw [h]; decide)] at hq;refine⟨⟨⟨f,c,day,0⟩,[],30⟩,⟨⟨⟨rfl,rfl⟩,h0,⟨rfl,rfl⟩,trivial⟩,qM f c day 0,trivial,trivial⟩,⟨_,rfl⟩,?_⟩;rintro _ rfl;exact RetR.st8 rfl hq rfl rfl
 ·have h:(zo f x d).2=true:=by simpa using h
  rw [aP h] at hq;exact RetR.st8 rfl hq rfl rfl
structure K2 where
 s:St8
 a:L8
 b:L8
def cmpE(e:Int)(a b:L8):Int×Int:=if e≠0 then(0,e) else cmpR a b
def zmq:Ctr:=ctrT false false (λk:K2=>[.ptr 0 0,.str k.a,.str k.b]) (λk=>[k.s.box]) (λk=>k.s.e=0->k.a.length<2^61/\k.b.length<2^61) (λk r=>r=cmpE k.s.e k.a k.b) (λk (r:Int×Int)=>(.i r.1,[(k.s.err r.2).box]))
noncomputable def GCq:=tb zfr (tb zor tz)
abbrev q44(A:List AV)(x:L8×L8):Prop:=eqL A [.str x.1,.str x.2]/\x.1.length<2305843009213693952/\x.2.length<2305843009213693952
theorem zej:ze prog 167 zmq:=by
 refine z9 (fn:=f167) (c:=f167.body.getD .skip) rfl rfl rfl (λh=>by cases h) λk hk O w0 I0 Q hl0 hq=> ?_
 obtain⟨⟨f,c,day,e⟩,a,b⟩:=k;replace hq:=hq _ rfl;simp only at hk hq;unfold cmpE at hq;refine zc.n GCq.h [] (.N (e=0) (.R [.i 0] [.box [.sl f.length 3 (fxG f),.sl c.length 4 (chG c),.i day,.i e]]) (.ex (q44 [.str a,.str b]) λn=>.all (λ(r:Int×Int)=>r=cmpR n.1 n.2) λn=>.ex (λ(x:St8×Int×Int)=>eqL [.ptr 0 0,.i n.1,.i n.2] [.ptr 0 0,.i x.2.1,.i x.2.2]/\eqH [.box [.sl f.length 3 (fxG f),.sl c.length 4 (chG c),.i day,.i e]] [.box [.sl x.1.f.length 3 (fxG x.1.f),.sl x.1.c.length 4 (chG x.1.c),.i x.1.day,.i x.1.e]]/\1=1/\True) λn=>.all (λ(r:Int)=>r=if St8.e n.1=0 then n.2.2 else St8.e n.1) λn_1=>let v1:=n.1.err n_1;.R [.i n.2.1] [.box [.sl (List.length v1.f) 3 (fxG v1.f),.sl (List.length v1.c) 4 (chG v1.c),.i v1.day,.i v1.e]])) ?_;simp only [q44,Tree.holds,zf];refine⟨λh=> ?_,λh=> ?_⟩
 ·have h:e≠0:=by simpa using h
  rw [aP h] at hq;exact RetR.st8 rfl hq rfl rfl
 ·have h:e=0:=by simpa using h
  subst h;obtain⟨h1,h2⟩:=hk rfl;rw [aO (by simp)] at hq;refine⟨(a,b),⟨⟨rfl,rfl,trivial⟩,h1,h2⟩,⟨_,rfl⟩,?_⟩;rintro _ rfl;refine⟨(⟨f,c,day,0⟩,(cmpR a b).1,(cmpR a b).2),⟨⟨⟨rfl,rfl⟩,⟨rfl,rfl⟩,⟨rfl,rfl⟩,trivial⟩,qM f c day 0,trivial,trivial⟩,⟨_,rfl⟩,?_⟩;rintro _ rfl;exact RetR.st8 rfl hq rfl rfl
def sopC(F:L8->L8->L8×Int)(same:Bool):Ctr:=ctrT false false (λk:K2=>[.ptr 0 0,.str k.a,.str k.b]) (λk=>[k.s.box]) (λk=>k.s.e=0/\k.a.length<2^61/\k.b.length<2^61) (λk r=>r.2=(F k.a k.b).2/\(r.2=0->r.1=(F k.a k.b).1)) (λk (r:L8×Int)=>(.tup [.str r.1,.i r.2],[(bif same then k.s else k.s.err r.2).box]))
noncomputable def zwl:=tb XN (tb JK (tb yY tz))
theorem zrj:ze prog 201 (sopC addR true):=by
 refine z9 (fn:=f201) (c:=f201.body.getD .skip) rfl rfl rfl (λh=>by cases h) λk hk O w0 I0 Q hl0 hq=> ?_
 obtain⟨⟨f,c,day,e⟩,a,b⟩:=k;replace hq:=hq (addR a b) ⟨rfl,λ_=>rfl⟩;obtain⟨h0,h1,h2⟩:=hk;simp only at h0 h1 h2 hq;refine zc.n zwl.h [] (.ex (q44 [.str a,.str b]) λn=>.all (λ(r:L8×Int)=>r=addR n.1 n.2) λn=>.R [.str n.1,.i n.2] [.box [.sl f.length 3 (fxG f),.sl c.length 4 (chG c),.i day,.i e]]) ?_;simp only [q44,Tree.holds,zf];refine⟨(a,b),⟨⟨rfl,rfl,trivial⟩,h1,h2⟩,⟨_,rfl⟩,?_⟩;rintro _ rfl;exact RetR.st8 rfl hq rfl rfl
noncomputable def zwq:=tb XN (tb JK (tb yY tz))
theorem zro:ze prog 202 (sopC subR true):=by
 refine z9 (fn:=f202) (c:=f202.body.getD .skip) rfl rfl rfl (λh=>by cases h) λk hk O w0 I0 Q hl0 hq=> ?_
 obtain⟨⟨f,c,day,e⟩,a,b⟩:=k;replace hq:=hq (subR a b) ⟨rfl,λ_=>rfl⟩;obtain⟨h0,h1,h2⟩:=hk;simp only at h0 h1 h2 hq;refine zc.n zwq.h [] (.ex (q44 [.str a,.str b]) λn=>.all (λ(r:L8×Int)=>r=subR n.1 n.2) λn=>.R [.str n.1,.i n.2] [.box [.sl f.length 3 (fxG f),.sl c.length 4 (chG c),.i day,.i e]]) ?_;simp only [q44,Tree.holds,zf];refine⟨(a,b),⟨⟨rfl,rfl,trivial⟩,h1,h2⟩,⟨_,rfl⟩,?_⟩;rintro _ rfl;exact RetR.st8 rfl hq rfl rfl
noncomputable def zwa:=tb XN (tb JK (tb yY tz))
theorem zqd:ze prog 203 (sopC mulR true):=by
 refine z9 (fn:=f203) (c:=f203.body.getD .skip) rfl rfl rfl (λh=>by cases h) λk hk O w0 I0 Q hl0 hq=> ?_
 obtain⟨⟨f,c,day,e⟩,a,b⟩:=k;replace hq:=hq (mulR a b) ⟨rfl,λ_=>rfl⟩;obtain⟨h0,h1,h2⟩:=hk;simp only at h0 h1 h2 hq;refine zc.n zwa.h [] (.ex (q44 [.str a,.str b]) λn=>.all (λ(r:L8×Int)=>r=mulR n.1 n.2) λn=>.R [.str n.1,.i n.2] [.box [.sl f.length 3 (fxG f),.sl c.length 4 (chG c),.i day,.i e]]) ?_;simp only [q44,Tree.holds,zf];refine⟨(a,b),⟨⟨rfl,rfl,trivial⟩,h1,h2⟩,⟨_,rfl⟩,?_⟩;rintro _ rfl;exact RetR.st8 rfl hq rfl rfl
noncomputable def GGr:=tb zej tz
abbrev q45(A:List AV)(H:Heap)(x:K2):Prop:=eqL A [.ptr 0 0,.str x.a,.str x.b]/\eqH H [.box [.sl x.s.f.length 3 (fxG x.s.f),.sl x.s.c.length 4 (chG x.s.c),.i x.s.day,.i x.s.e]]/\1=1/\(St8.e x.s=0->x.a.length<2305843009213693952/\x.b.length<2305843009213693952)
theorem YY:ze prog 204 (sopC (jY 7) false):=by
 refine z9 (fn:=f204) (c:=f204.body.getD .skip) rfl rfl rfl (λh=>by cases h) λk hk O w0 I0 Q hl0 hq=> ?_
 obtain⟨⟨f,c,day,e⟩,a,b⟩:=k;obtain⟨h0,h1,h2⟩:=hk;simp only at h0 h1 h2 hq;subst h0;refine zc.n GGr.h [] (.ex (q45 [.ptr 0 0,.str a,.str b] [.box [.sl f.length 3 (fxG f),.sl c.length 4 (chG c),.i day,.i 0]]) λn=>.all (λ(r:Int×Int)=>r=cmpE n.s.e n.a n.b) λn_1=>let v2:=n.s.err n_1.2;let v1:List Blk:=[.box [.sl (List.length v2.f) 3 (fxG v2.f),.sl (List.length v2.c) 4 (chG v2.c),.i v2.day,.i v2.e]];.D (n_1.1<0) (.R [.str b,.i v2.e] v1) (.R [.str a,.i v2.e] v1)) ?_;simp only [q45,Tree.holds,zf];refine⟨⟨⟨f,c,day,0⟩,a,b⟩,⟨⟨⟨rfl,rfl⟩,rfl,rfl,trivial⟩,qM f c day 0,trivial,λ_=>⟨h1,h2⟩⟩,⟨_,rfl⟩,?_⟩;have e1:cmpE 0 a b=cmpR a b:=aO (by simp);rw [e1];rintro _ rfl;unfold jY at hq;rw [aP rfl] at hq;refine⟨λh=> ?_,λh=> ?_⟩
 ·have h:(cmpR a b).1<0:=aB h;refine RetR.st8 rfl (hq (b,(cmpR a b).2) ?_) rfl rfl;by_cases g:(cmpR a b).2=0
  ·rw [aO (by rw [g]; simp),aP h]; exact⟨g,λ_=>rfl⟩
  ·rw [aP g]; exact⟨rfl,λh=>absurd h g⟩
 ·have h:¬ (cmpR a b).1<0:=aC h;refine RetR.st8 rfl (hq (a,(cmpR a b).2) ?_) rfl rfl;by_cases g:(cmpR a b).2=0
  ·rw [aO (by rw [g]; simp),aO h]; exact⟨g,λ_=>rfl⟩
  ·rw [aP g]; exact⟨rfl,λh=>absurd h g⟩
theorem YK:ze prog 205 (sopC (jY 8) false):=by
 refine z9 (fn:=f205) (c:=f205.body.getD .skip) rfl rfl rfl (λh=>by cases h) λk hk O w0 I0 Q hl0 hq=> ?_
 obtain⟨⟨f,c,day,e⟩,a,b⟩:=k;obtain⟨h0,h1,h2⟩:=hk;simp only at h0 h1 h2 hq;subst h0;refine zc.n GGr.h [] (.ex (q45 [.ptr 0 0,.str b,.str a] [.box [.sl f.length 3 (fxG f),.sl c.length 4 (chG c),.i day,.i 0]]) λn=>.all (λ(r:Int×Int)=>r=cmpE n.s.e n.a n.b) λn_1=>let v2:=n.s.err n_1.2;let v1:List Blk:=[.box [.sl (List.length v2.f) 3 (fxG v2.f),.sl (List.length v2.c) 4 (chG v2.c),.i v2.day,.i v2.e]];.D (n_1.1<0) (.R [.str b,.i v2.e] v1) (.R [.str a,.i v2.e] v1)) ?_;simp only [q45,Tree.holds,zf];refine⟨⟨⟨f,c,day,0⟩,b,a⟩,⟨⟨⟨rfl,rfl⟩,rfl,rfl,trivial⟩,qM f c day 0,trivial,λ_=>⟨h2,h1⟩⟩,⟨_,rfl⟩,?_⟩;have e1:cmpE 0 b a=cmpR b a:=aO (by simp);rw [e1];rintro _ rfl;unfold jY at hq;rw [aO (by decide)] at hq;refine⟨λh=> ?_,λh=> ?_⟩
 ·have h:(cmpR b a).1<0:=aB h;refine RetR.st8 rfl (hq (b,(cmpR b a).2) ?_) rfl rfl;by_cases g:(cmpR b a).2=0
  ·rw [aO (by rw [g]; simp),aP h]; exact⟨g,λ_=>rfl⟩
  ·rw [aP g]; exact⟨rfl,λh=>absurd h g⟩
 ·have h:¬ (cmpR b a).1<0:=aC h;refine RetR.st8 rfl (hq (a,(cmpR b a).2) ?_) rfl rfl;by_cases g:(cmpR b a).2=0
  ·rw [aO (by rw [g]; simp),aO h]; exact⟨g,λ_=>rfl⟩
  ·rw [aP g]; exact⟨rfl,λh=>absurd h g⟩
theorem zi7{X R Y S:Type}{P:Program}{g h:Nat}{fr mo fr' mo':Bool}{inp:X->List AV}{hin:X->Heap}{pre:X->Prop}{post:X->R->Prop}{out:X->R->AV×Heap}{inp':Y->List AV}{hin':Y->Heap}{pre':Y->Prop}{post':Y->S->Prop}{out':Y->S->AV×Heap}(μ:X->Nat)(ν : Y->Nat)
  (step:∀ n,ze P g (ctrT fr mo inp hin (λx=>μ x<n/\pre x) post out)->ze P h (ctrT fr' mo' inp' hin' (λy=> ν y<n/\pre' y) post' out') ->
   ze P g (ctrT fr mo inp hin (λx=>μ x<n+1/\pre x) post out)/\ze P h (ctrT fr' mo' inp' hin' (λy=> ν y<n+1/\pre' y) post' out')) :
  ze P g (ctrT fr mo inp hin pre post out)/\ze P h (ctrT fr' mo' inp' hin' pre' post' out'):=by
 have all:∀ n,ze P g (ctrT fr mo inp hin (λx=>μ x<n/\pre x) post out)/\ze P h (ctrT fr' mo' inp' hin' (λy=> ν y<n/\pre' y) post' out'):=by
  intro n
  induction n with
  | zero=>
   constructor
   ·intro args hc Q hq _;obtain⟨x,⟨_,_,_,h,_⟩,_⟩:=hq;exact absurd h (Nat.not_lt_zero _)
   ·intro args hc Q hq _;obtain⟨x,⟨_,_,_,h,_⟩,_⟩:=hq;exact absurd h (Nat.not_lt_zero _)
  | succ n ih=>exact step n ih.1 ih.2
 constructor
 ·intro args hc Q hq hf;obtain⟨x,⟨h1,h2,h3,h4⟩,h5⟩:=hq;exact(all (μ x+1)).1 args hc Q ⟨x,⟨h1,h2,h3,Nat.lt_succ_self _,h4⟩,h5⟩ hf
 ·intro args hc Q hq hf;obtain⟨x,⟨h1,h2,h3,h4⟩,h5⟩:=hq;exact(all (ν x+1)).2 args hc Q ⟨x,⟨h1,h2,h3,Nat.lt_succ_self _,h4⟩,h5⟩ hf
structure VX where
 s:St8
 x:Ex
def evA(k:VX):Ev:=k.x.ev k.s.f k.s.day
def valC(p:VX->Prop):Ctr:=ctrT false false (λk:VX=>[.ptr 0 0,k.x.exA]) (λk=>[k.s.box]) p (λk r=>(k.s.e≠0->r.2=k.s.e)/\(k.s.e=0->r.2=(evA k).e/\(r.2=0->r.1=(evA k).v))) (λk (r:L8×Int)=>(.str r.1,[(k.s.err r.2).box]))
def hldC(p:VX->Prop):Ctr:=ctrT false false (λk:VX=>[.ptr 0 0,k.x.exA]) (λk=>[k.s.box]) p (λk r=>(k.s.e≠0->r.2=k.s.e)/\(k.s.e=0->r.2=(evA k).g/\(r.2=0->r.1=(evA k).b))) (λk (r:Bool×Int)=>(.bool r.1,[(k.s.err r.2).box]))
def VPre(z:Int)(k:VX):Prop:=k.s.e=0->k.x.zL=z/\k.s.f.all okF=true/\k.s.f.length<2^40
def GVa(n:Nat):Nat->Option Ctr:=λf=>if f=156 then some (valC λk=>k.x.size<n/\VPre 1 k) else if f=155 then some (hldC λk=>k.x.size<n/\VPre 2 k)
 else if f=168 then some fixC else if f=167 then some zmq else if f=169 then some zao
 else if f=201 then some (sopC addR true) else if f=202 then some (sopC subR true) else if f=203 then some (sopC mulR true) else if f=204 then some (sopC (jY 7) false) else if f=205 then some (sopC (jY 8) false) else none
theorem znn{n:Nat}(h1:ze prog 156 (valC λk=>k.x.size<n/\VPre 1 k))(h2:ze prog 155 (hldC λk=>k.x.size<n/\VPre 2 k)):∀ f c,GVa n f=some c->ze prog f c:=by
 intro f c hf;unfold GVa at hf
 iterate 10
  split at hf
  ·rename_i hg; subst hg; cases hf; first | exact h1 | exact h2 | exact zgk | exact zej | exact U5 | exact zrj | exact zro | exact zqd | exact YY | exact YK
 cases hf
theorem eqX2(x:Ex):eqL [.ptr 0 0,.agg [.int .u8 x.kind,.str x.rat,.str x.name,.i x.date,.sl x.sub.length 5 x.deep]] [.ptr 0 0,x.exA]:=⟨⟨rfl,rfl⟩,⟨⟨rfl,rfl⟩,rfl,rfl,⟨rfl,rfl⟩,⟨rfl,rfl,Ex.qm _⟩,trivial⟩,trivial⟩
theorem zsf(x:Ex):eqL [.ptr 0 0,x.exA] [.ptr 0 0,x.exA]:=⟨⟨rfl,rfl⟩,⟨⟨rfl,rfl⟩,rfl,rfl,⟨rfl,rfl⟩,⟨rfl,rfl,za _ _ _⟩,trivial⟩,trivial⟩
theorem RetR.st9{ctr:Ctr}{Q:AV×Heap->Prop}{rs:List AV}{f:List Fx}{c:List Ch}{day e:Int}{b:Blk}{r:AV}(hf:ctr.fresh=false)(hq:Q (r,[(St8.mk f c day e).box]))(hs:Qg r=true)(hr:resV rs=r)(h2:exp2 [.box [.sl f.length 3 (fxG f),.sl c.length 4 (chG c),.i day,.i e],b] [0] r=r:=by rfl):RetR ctr 1 Q rs [.box [.sl f.length 3 (fxG f),.sl c.length 4 (chG c),.i day,.i e],b]:=by
 subst hr;refine RetR.keep [0] rfl rfl (by decide) hf hq ?_ ?_ rfl
 ·rw [h2]; exact Xf hs
 ·exact qM f c day e
theorem Zo(e e0:Int)(v:L8):∃ r:L8×Int,(e≠0->r.2=e)/\(e=0->r.2=e0/\(r.2=0->r.1=v)):=by
 by_cases h:e=0
 ·exact⟨(v,e0),λg=>absurd h g,λ_=>⟨rfl,λ_=>rfl⟩⟩
 ·exact⟨(v,e),λ_=>rfl,λg=>absurd g h⟩
theorem Q3(e e0:Int)(v:Bool):∃ r:Bool×Int,(e≠0->r.2=e)/\(e=0->r.2=e0/\(r.2=0->r.1=v)):=by
 by_cases h:e=0
 ·exact⟨(v,e0),λg=>absurd h g,λ_=>⟨rfl,λ_=>rfl⟩⟩
 ·exact⟨(v,e),λ_=>rfl,λg=>absurd g h⟩
section
variable (n:Nat) (h1:ze prog 156 (valC λk=>k.x.size<n/\VPre 1 k)) (h2:ze prog 155 (hldC λk=>k.x.size<n/\VPre 2 k))
include h1 h2
abbrev q47(A:List AV)(H:Heap)(x:K2):Prop:=eqL A [.ptr 0 0,.str x.a,.str x.b]/\eqH H [.box [.sl x.s.f.length 3 (fxG x.s.f),.sl x.s.c.length 4 (chG x.s.c),.i x.s.day,.i x.s.e]]/\1=1/\St8.e x.s=0/\x.a.length<2305843009213693952/\x.b.length<2305843009213693952
abbrev q46(A:List AV)(H:Heap)(x:KS):Prop:=eqL A [.ptr 0 0,.str x.x,.i x.e]/\eqH H [.box [.sl x.s.f.length 3 (fxG x.s.f),.sl x.s.c.length 4 (chG x.s.c),.i x.s.day,.i x.s.e]]/\1=1/\x.s.f.length<1099511627776/\St8.e x.s=0
theorem zcs:ze prog 156 (valC λk=>k.x.size<n+1/\VPre 1 k):=by
 refine z9 (fn:=f156) (c:=f156.body.getD .skip) rfl rfl rfl (λh=>by cases h) λk hk O w0 I0 Q hl0 hq=> ?_
 obtain⟨⟨f,c,day,e⟩,⟨k,r,m,d,s⟩⟩:=k;obtain⟨hn,hv⟩:=hk;simp only at hn hv hq;refine zc.n (znn h1 h2) [] (let v17:=s.getD 2 Ex.nil;let v15:=s.getD 0 Ex.nil;let v14:=s.getD 1 Ex.nil;let v5:=[AV.ptr 0 0,AV.agg [.int .u8 (Ex.kind v14),.str (Ex.rat v14),.str (Ex.name v14),.i (Ex.date v14),.sl (List.length (Ex.sub v14)) 5 (Ex.deep v14)]];let v4:=[AV.ptr 0 0,AV.agg [.int .u8 (Ex.kind v15),.str (Ex.rat v15),.str (Ex.name v15),.i (Ex.date v15),.sl (List.length (Ex.sub v15)) 5 (Ex.deep v15)]];let v3:List Blk:=[.box [.sl f.length 3 (fxG f),.sl c.length 4 (chG c),.i day,.i e]];let v2:List AV:=[.int .u8 k,.str r,.str m,.i d,.sl s.length 5 (Ex.exG s)];let v13:List Blk:=[.box [.sl f.length 3 (fxG f),.sl c.length 4 (chG c),.i day,.i e],.box v2];.N (e=0) (.R [.str #[].toList] v13) (.D (k=1) (.R [.str r] v13) (.D (k=2) (.ex (q46 [.ptr 0 0,.str m,.i d] v3) λn=>.all (λ(r:L8×Int)=>r=fixR n.s.f n.x n.e) λn_1=>let v19:=n.s.err n_1.2;.R [.str n_1.1] [.box [.sl (List.length v19.f) 3 (fxG v19.f),.sl (List.length v19.c) 4 (chG v19.c),.i v19.day,.i v19.e],.box v2]) (.D (k=3) (.ex (q46 [.ptr 0 0,.str m,.i day] v3) λn=>.all (λ(r:L8×Int)=>r=fixR n.s.f n.x n.e) λn_1=>let v20:=n.s.err n_1.2;.R [.str n_1.1] [.box [.sl (List.length v20.f) 3 (fxG v20.f),.sl (List.length v20.c) 4 (chG v20.c),.i v20.day,.i v20.e],.box v2]) (.D (k=9) (.side ((0:Int)<=0/\(0:Int)<s.length) (.ex (λ(x:VX)=>eqL v4 [.ptr 0 0,.agg [.int .u8 x.x.kind,.str x.x.rat,.str x.x.name,.i x.x.date,.sl x.x.sub.length 5 (Ex.exG x.x.sub)]]/\eqH v3 [.box [.sl x.s.f.length 3 (fxG x.s.f),.sl x.s.c.length 4 (chG x.s.c),.i x.s.day,.i x.s.e]]/\1=1/\Ex.size x.x<n/\VPre (2:Int) x) λn_1=>.all (λ(r:Bool×Int)=>(St8.e n_1.s≠0->r.2=St8.e n_1.s)/\(St8.e n_1.s=0->r.2=Ev.g (evA n_1)/\(r.2=0->r.1=Ev.b (evA n_1)))) λn_2=>let v16:=n_1.s.err n_2.2;let v6:=[AV.sl (List.length v16.f) 3 (fxG v16.f),AV.sl (List.length v16.c) 4 (chG v16.c),AV.i v16.day,AV.i v16.e];.ite n_2.1 (.side ((0:Int)<=1/\(1:Int)<s.length) (.ex (λ(x:VX)=>eqL v5 [.ptr 0 0,.agg [.int .u8 x.x.kind,.str x.x.rat,.str x.x.name,.i x.x.date,.sl x.x.sub.length 5 (Ex.exG x.x.sub)]]/\eqH [.box v6] [.box [.sl x.s.f.length 3 (fxG x.s.f),.sl x.s.c.length 4 (chG x.s.c),.i x.s.day,.i x.s.e]]/\1=1/\Ex.size x.x<n/\VPre (1:Int) x) λn=>.all (λ(r:L8×Int)=>(St8.e n.s≠0->r.2=St8.e n.s)/\(St8.e n.s=0->r.2=Ev.e (evA n)/\(r.2=0->r.1=Ev.v (evA n)))) λn_3=>let v21:=n.s.err n_3.2;.R [.str n_3.1] [.box [.sl (List.length v21.f) 3 (fxG v21.f),.sl (List.length v21.c) 4 (chG v21.c),.i v21.day,.i v21.e],.box v2])) (.side ((0:Int)<=2/\(2:Int)<s.length) (.ex (λ(x:VX)=>eqL [.ptr 0 0,.agg [.int .u8 (Ex.kind v17),.str (Ex.rat v17),.str (Ex.name v17),.i (Ex.date v17),.sl (List.length (Ex.sub v17)) 5 (Ex.deep v17)]] [.ptr 0 0,.agg [.int .u8 x.x.kind,.str x.x.rat,.str x.x.name,.i x.x.date,.sl x.x.sub.length 5 (Ex.exG x.x.sub)]]/\eqH [.box v6] [.box [.sl x.s.f.length 3 (fxG x.s.f),.sl x.s.c.length 4 (chG x.s.c),.i x.s.day,.i x.s.e]]/\1=1/\Ex.size x.x<n/\VPre (1:Int) x) λn=>.all (λ(r:L8×Int)=>(St8.e n.s≠0->r.2=St8.e n.s)/\(St8.e n.s=0->r.2=Ev.e (evA n)/\(r.2=0->r.1=Ev.v (evA n)))) λn_3=>let v22:=n.s.err n_3.2;.R [.str n_3.1] [.box [.sl (List.length v22.f) 3 (fxG v22.f),.sl (List.length v22.c) 4 (chG v22.c),.i v22.day,.i v22.e],.box v2])))) (.side ((0:Int)<=0/\(0:Int)<s.length) (.ex (λ(x:VX)=>eqL v4 [.ptr 0 0,.agg [.int .u8 x.x.kind,.str x.x.rat,.str x.x.name,.i x.x.date,.sl x.x.sub.length 5 (Ex.exG x.x.sub)]]/\eqH v3 [.box [.sl x.s.f.length 3 (fxG x.s.f),.sl x.s.c.length 4 (chG x.s.c),.i x.s.day,.i x.s.e]]/\1=1/\Ex.size x.x<n/\VPre (1:Int) x) λn_1=>.all (λ(r:L8×Int)=>(St8.e n_1.s≠0->r.2=St8.e n_1.s)/\(St8.e n_1.s=0->r.2=Ev.e (evA n_1)/\(r.2=0->r.1=Ev.v (evA n_1)))) λn_2=>let v18:=n_1.s.err n_2.2;.side ((0:Int)<=1/\(1:Int)<s.length) (.ex (λ(x:VX)=>eqL v5 [.ptr 0 0,.agg [.int .u8 x.x.kind,.str x.x.rat,.str x.x.name,.i x.x.date,.sl x.x.sub.length 5 (Ex.exG x.x.sub)]]/\eqH [.box [.sl (List.length v18.f) 3 (fxG v18.f),.sl (List.length v18.c) 4 (chG v18.c),.i v18.day,.i v18.e]] [.box [.sl x.s.f.length 3 (fxG x.s.f),.sl x.s.c.length 4 (chG x.s.c),.i x.s.day,.i x.s.e]]/\1=1/\Ex.size x.x<n/\VPre (1:Int) x) λn=>.all (λ(r:L8×Int)=>(St8.e n.s≠0->r.2=St8.e n.s)/\(St8.e n.s=0->r.2=Ev.e (evA n)/\(r.2=0->r.1=Ev.v (evA n)))) λn_3=>let v12:=n.s.err n_3.2;let v1:=q47 [.ptr 0 0,.str n_2.1,.str n_3.1] [.box [.sl (List.length v12.f) 3 (fxG v12.f),.sl (List.length v12.c) 4 (chG v12.c),.i v12.day,.i v12.e]];.N (St8.e v12=(0:Int)) (.R [.str #[].toList] [.box [.sl (List.length v12.f) 3 (fxG v12.f),.sl (List.length v12.c) 4 (chG v12.c),.i v12.day,.i v12.e],.box v2]) (.D ((4:Int)<=k/\k<=8) (.D (k=4) (.ex v1 λn=>.all (λ(r:L8×Int)=>r.2=Prod.snd (addR n.a n.b)/\(r.2=0->r.1=Prod.fst (addR n.a n.b))) λn_4=>let v9:=bif true then K2.s n else St8.err n.s n_4.2;.ex (q43 [.ptr 0 0,.str n_4.1,.i n_4.2] [.box [.sl (List.length v9.f) 3 (fxG v9.f),.sl (List.length v9.c) 4 (chG v9.c),.i v9.day,.i v9.e]]) λn=>.all (λ(r:Int)=>r=if St8.e n.s=0 then KS.e n else St8.e n.s) λn_5=>let v23:=n.s.err n_5;.R [.str n.x] [.box [.sl (List.length v23.f) 3 (fxG v23.f),.sl (List.length v23.c) 4 (chG v23.c),.i v23.day,.i v23.e],.box v2]) (.D (k=5) (.ex v1 λn=>.all (λ(r:L8×Int)=>r.2=Prod.snd (subR n.a n.b)/\(r.2=0->r.1=Prod.fst (subR n.a n.b))) λn_4=>let v10:=bif true then K2.s n else St8.err n.s n_4.2;.ex (q43 [.ptr 0 0,.str n_4.1,.i n_4.2] [.box [.sl (List.length v10.f) 3 (fxG v10.f),.sl (List.length v10.c) 4 (chG v10.c),.i v10.day,.i v10.e]]) λn=>.all (λ(r:Int)=>r=if St8.e n.s=0 then KS.e n else St8.e n.s) λn_5=>let v24:=n.s.err n_5;.R [.str n.x] [.box [.sl (List.length v24.f) 3 (fxG v24.f),.sl (List.length v24.c) 4 (chG v24.c),.i v24.day,.i v24.e],.box v2]) (.D (k=6) (.ex v1 λn=>.all (λ(r:L8×Int)=>r.2=Prod.snd (mulR n.a n.b)/\(r.2=0->r.1=Prod.fst (mulR n.a n.b))) λn_4=>let v11:=bif true then K2.s n else St8.err n.s n_4.2;.ex (q43 [.ptr 0 0,.str n_4.1,.i n_4.2] [.box [.sl (List.length v11.f) 3 (fxG v11.f),.sl (List.length v11.c) 4 (chG v11.c),.i v11.day,.i v11.e]]) λn=>.all (λ(r:Int)=>r=if St8.e n.s=0 then KS.e n else St8.e n.s) λn_5=>let v25:=n.s.err n_5;.R [.str n.x] [.box [.sl (List.length v25.f) 3 (fxG v25.f),.sl (List.length v25.c) 4 (chG v25.c),.i v25.day,.i v25.e],.box v2]) (.D (k=7) (.ex v1 λn=>.all (λ(r:L8×Int)=>r.2=Prod.snd (jY (7:Int) n.a n.b)/\(r.2=0->r.1=Prod.fst (jY (7:Int) n.a n.b))) λn_4=>let v7:=bif false then K2.s n else St8.err n.s n_4.2;.ex (q43 [.ptr 0 0,.str n_4.1,.i n_4.2] [.box [.sl (List.length v7.f) 3 (fxG v7.f),.sl (List.length v7.c) 4 (chG v7.c),.i v7.day,.i v7.e]]) λn=>.all (λ(r:Int)=>r=if St8.e n.s=0 then KS.e n else St8.e n.s) λn_5=>let v26:=n.s.err n_5;.R [.str n.x] [.box [.sl (List.length v26.f) 3 (fxG v26.f),.sl (List.length v26.c) 4 (chG v26.c),.i v26.day,.i v26.e],.box v2]) (.D (k=8) (.ex v1 λn=>.all (λ(r:L8×Int)=>r.2=Prod.snd (jY (8:Int) n.a n.b)/\(r.2=0->r.1=Prod.fst (jY (8:Int) n.a n.b))) λn_4=>let v8:=bif false then K2.s n else St8.err n.s n_4.2;.ex (q43 [.ptr 0 0,.str n_4.1,.i n_4.2] [.box [.sl (List.length v8.f) 3 (fxG v8.f),.sl (List.length v8.c) 4 (chG v8.c),.i v8.day,.i v8.e]]) λn=>.all (λ(r:Int)=>r=if St8.e n.s=0 then KS.e n else St8.e n.s) λn_5=>let v27:=n.s.err n_5;.R [.str n.x] [.box [.sl (List.length v27.f) 3 (fxG v27.f),.sl (List.length v27.c) 4 (chG v27.c),.i v27.day,.i v27.e],.box v2]) .fail))))) .fail))))))))) ?_;simp only [q43,q46,q47,Tree.holds,zf];refine⟨λh=> ?_,λh=> ?_⟩
 ·have h:e≠0:=by simpa using h
  exact RetR.st9 rfl (hq ([],e) ⟨λ_=>rfl,λh0=>absurd h0 h⟩) rfl rfl
 have h:e=0:=by simpa using h
 subst h;obtain⟨hs,hf,hfl⟩:=hv rfl;simp only at hs hf hfl;have hq0:∀ t:L8×Int,t.2=((Ex.mk k r m d s).ev f day).e->(t.2=0->t.1=((Ex.mk k r m d s).ev f day).v)->Q (.str t.1,[(St8.mk f c day t.2).box]):=λt h1 h2=>hq t ⟨λh=>absurd rfl h,λ_=>⟨h1,h2⟩⟩
 clear hq;have hev:(Ex.mk k r m d s).ev f day=evN f day k r m d (Ex.evs f day s):=by rw [Ex.ev]
 have hc:=Ex.Kl hs;simp only [Ex.kind,Ex.sub,Ex.rat] at hc;rw [Ex.size] at hn;have z0:=λg=>Ex.qu (s:=s) (i:=0) g
 have z1:=λg=>Ex.qu (s:=s) (i:=1) g
 have z2:=λg=>Ex.qu (s:=s) (i:=2) g
 have hfix:∀ (x:L8) (y:Int) (b:Blk),fixR f x y=(((Ex.mk k r m d s).ev f day).v,((Ex.mk k r m d s).ev f day).e)->∀ z,z=fixR f x y->RetR (valC λk=>k.x.size<n+1/\VPre 1 k) 1 Q [.str z.1] [.box [.sl f.length 3 (fxG f),.sl c.length 4 (chG c),.i day,.i z.2],b]:=by
  rintro x y b h1 z rfl;exact RetR.st9 rfl (hq0 _ (congrArg Prod.snd h1) λ_=>congrArg Prod.fst h1) rfl rfl
 rcases hc with ⟨rfl,hr⟩ | rfl | rfl | ⟨⟨k1,k2⟩,hl,hs0,hs1⟩ | ⟨rfl,hl,hs0,hs1,hs2⟩
 ·refine⟨λ_=> ?_,λh=>(by cases h)⟩;exact RetR.st9 rfl (hq0 (r,0) (by rw [hev]; rfl) λ_=>by rw [hev]; rfl) rfl rfl
 ·refine⟨λh=>(by cases h),λ_=>⟨λ_=> ?_,λh=>(by cases h)⟩⟩;refine⟨⟨⟨f,c,day,0⟩,m,d⟩,⟨⟨⟨rfl,rfl⟩,rfl,⟨rfl,rfl⟩,trivial⟩,qM f c day 0,by trivial,hfl,rfl⟩,⟨_,rfl⟩,?_⟩;exact hfix m d _ (by rw [hev]; rfl)
 ·refine⟨λh=>(by cases h),λ_=>⟨λh=>(by cases h),λ_=>⟨λ_=> ?_,λh=>(by cases h)⟩⟩⟩;refine⟨⟨⟨f,c,day,0⟩,m,day⟩,⟨⟨⟨rfl,rfl⟩,rfl,⟨rfl,rfl⟩,trivial⟩,qM f c day 0,by trivial,hfl,rfl⟩,⟨_,rfl⟩,?_⟩;exact hfix m day _ (by rw [hev]; rfl)
 ·iterate 4 refine⟨λh=>absurd (aB h) (by omega),λ_=> ?_⟩
  have z0:=z0 (by omega);have z1:=z1 (by omega)
  have he:(((Ex.mk k r m d s).ev f day).v,((Ex.mk k r m d s).ev f day).e)=uT [] ((s.getD 0 Ex.nil).ev f day) ((s.getD 1 Ex.nil).ev f day) (opR k):=by
   rw [hev];simp only [evN,valN];rw [aO (by omega),aO (by omega),aO (by omega),aO (by omega),Ex.jh (by omega),Ex.jh (by omega)]
  unfold uT at he;refine⟨⟨by decide,by omega⟩,λ_=>⟨⟨⟨f,c,day,0⟩,s.getD 0 Ex.nil⟩,⟨eqX2 _,qM f c day 0,by trivial,by show(s.getD 0 Ex.nil).size<n; omega,λ_=>⟨hs0,hf,hfl⟩⟩,Zo _ _ _,?_⟩⟩;intro r0 g0;obtain⟨g0,k0⟩:=g0.2 rfl;simp only [evA] at g0 k0;refine⟨⟨by decide,by omega⟩,λ_=>⟨⟨⟨f,c,day,r0.2⟩,s.getD 1 Ex.nil⟩,⟨eqX2 _,qM f c day r0.2,by trivial,by show(s.getD 1 Ex.nil).size<n; omega,λ_=>⟨hs1,hf,hfl⟩⟩,Zo _ _ _,?_⟩⟩;intro r1 g1;simp only [evA] at g1;refine⟨λh=> ?_,λh=> ?_⟩
  ·have h:r1.2≠0:=by
    intro h0;have h':(!decide (r1.2=0))=true:=h;rw [h0] at h'; cases h'
   refine RetR.st9 rfl (hq0 ([],r1.2) ?_ λh0=>absurd h0 h) rfl rfl;have he:=congrArg Prod.snd he;simp only at he ⊢;rw [he];by_cases h3:r0.2=0
   ·obtain⟨q1,_⟩:=g1.2 h3;rw [aO (by rw [<- g0]; simpa using h3),aP (by rw [<- q1]; exact h),q1]
   ·rw [aP (by rw [<- g0]; exact h3),g1.1 h3,g0]
  ·have h:r1.2=0:=by
    have h':(!decide (r1.2=0))=false:=h;simpa using h'
   have h3:r0.2=0:=by
    refine bM λh3=> ?_
    exact h3 (by rw [<- g1.1 h3]; exact h)
   obtain⟨q1,k1'⟩:=g1.2 h3;have k0:=k0 h3;have k1':=k1' h;rw [aO (by rw [<- g0]; simpa using h3),aO (by rw [<- q1]; simpa using h),<- k0,<- k1'] at he;have l0:=wx (by rw [k0]; exact Ex.Qc hf day _ hs0 (by rw [<- g0]; exact h3):errR r0.1=0);have l1:=wx (by rw [k1']; exact Ex.Qc hf day _ hs1 (by rw [<- q1]; exact h):errR r1.1=0);refine⟨λ_=> ?_,λhno=>absurd (aC hno) (by simp only [Classical.not_not]; exact⟨k1,k2⟩)⟩;refine⟨λhk=> ?_,λhk=> ?_⟩
   ·have hk:k=4:=aB hk;subst hk;have ho:opR 4 r0.1 r1.1=addR r0.1 r1.1:=rfl;rw [ho] at he;refine⟨⟨⟨f,c,day,0⟩,r0.1,r1.1⟩,⟨⟨⟨rfl,rfl⟩,rfl,rfl,trivial⟩,⟨⟨⟨rfl,rfl,za _ _ _⟩,⟨rfl,rfl,za _ _ _⟩,⟨rfl,rfl⟩,⟨rfl,h⟩,trivial⟩,trivial⟩,by trivial,rfl,by show r0.1.length<_; omega,by show r1.1.length<_; omega⟩,⟨addR r0.1 r1.1,rfl,λ_=>rfl⟩,?_⟩;intro t ht;obtain⟨t1,t2⟩:=ht;simp only at t1 t2;refine⟨⟨⟨f,c,day,0⟩,t.1,t.2⟩,⟨⟨⟨rfl,rfl⟩,rfl,⟨rfl,rfl⟩,trivial⟩,qM f c day _,by trivial,trivial⟩,⟨_,rfl⟩,?_⟩;intro z hz
    have hz:z=t.2:=by
     rw [hz];show(if 0=(0:Int) then t.2 else 0)=t.2;by_cases g:t.2=0<;>simp [g]
    subst hz;exact RetR.st9 rfl (hq0 t (by rw [t1]; exact(congrArg Prod.snd he).symm) λg=>by rw [t2 g]; exact(congrArg Prod.fst he).symm) rfl rfl
   have hk:¬ k=4:=aC hk;refine⟨λhk=> ?_,λhk=> ?_⟩
   ·have hk:k=5:=aB hk;subst hk;have ho:opR 5 r0.1 r1.1=subR r0.1 r1.1:=rfl;rw [ho] at he;refine⟨⟨⟨f,c,day,0⟩,r0.1,r1.1⟩,⟨⟨⟨rfl,rfl⟩,rfl,rfl,trivial⟩,⟨⟨⟨rfl,rfl,za _ _ _⟩,⟨rfl,rfl,za _ _ _⟩,⟨rfl,rfl⟩,⟨rfl,h⟩,trivial⟩,trivial⟩,by trivial,rfl,by show r0.1.length<_; omega,by show r1.1.length<_; omega⟩,⟨subR r0.1 r1.1,rfl,λ_=>rfl⟩,?_⟩;intro t ht;obtain⟨t1,t2⟩:=ht;simp only at t1 t2;refine⟨⟨⟨f,c,day,0⟩,t.1,t.2⟩,⟨⟨⟨rfl,rfl⟩,rfl,⟨rfl,rfl⟩,trivial⟩,qM f c day _,by trivial,trivial⟩,⟨_,rfl⟩,?_⟩;intro z hz
    have hz:z=t.2:=by
     rw [hz];show(if 0=(0:Int) then t.2 else 0)=t.2;by_cases g:t.2=0<;>simp [g]
    subst hz;exact RetR.st9 rfl (hq0 t (by rw [t1]; exact(congrArg Prod.snd he).symm) λg=>by rw [t2 g]; exact(congrArg Prod.fst he).symm) rfl rfl
   have hk:¬ k=5:=aC hk;refine⟨λhk=> ?_,λhk=> ?_⟩
   ·have hk:k=6:=aB hk;subst hk;have ho:opR 6 r0.1 r1.1=mulR r0.1 r1.1:=rfl;rw [ho] at he;refine⟨⟨⟨f,c,day,0⟩,r0.1,r1.1⟩,⟨⟨⟨rfl,rfl⟩,rfl,rfl,trivial⟩,⟨⟨⟨rfl,rfl,za _ _ _⟩,⟨rfl,rfl,za _ _ _⟩,⟨rfl,rfl⟩,⟨rfl,h⟩,trivial⟩,trivial⟩,by trivial,rfl,by show r0.1.length<_; omega,by show r1.1.length<_; omega⟩,⟨mulR r0.1 r1.1,rfl,λ_=>rfl⟩,?_⟩;intro t ht;obtain⟨t1,t2⟩:=ht;simp only at t1 t2;refine⟨⟨⟨f,c,day,0⟩,t.1,t.2⟩,⟨⟨⟨rfl,rfl⟩,rfl,⟨rfl,rfl⟩,trivial⟩,qM f c day _,by trivial,trivial⟩,⟨_,rfl⟩,?_⟩;intro z hz
    have hz:z=t.2:=by
     rw [hz];show(if 0=(0:Int) then t.2 else 0)=t.2;by_cases g:t.2=0<;>simp [g]
    subst hz;exact RetR.st9 rfl (hq0 t (by rw [t1]; exact(congrArg Prod.snd he).symm) λg=>by rw [t2 g]; exact(congrArg Prod.fst he).symm) rfl rfl
   have hk:¬ k=6:=aC hk;refine⟨λhk=> ?_,λhk=> ?_⟩
   ·have hk:k=7:=aB hk;subst hk;have ho:opR 7 r0.1 r1.1=(jY 7) r0.1 r1.1:=rfl;rw [ho] at he;refine⟨⟨⟨f,c,day,0⟩,r0.1,r1.1⟩,⟨⟨⟨rfl,rfl⟩,rfl,rfl,trivial⟩,⟨⟨⟨rfl,rfl,za _ _ _⟩,⟨rfl,rfl,za _ _ _⟩,⟨rfl,rfl⟩,⟨rfl,h⟩,trivial⟩,trivial⟩,by trivial,rfl,by show r0.1.length<_; omega,by show r1.1.length<_; omega⟩,⟨(jY 7) r0.1 r1.1,rfl,λ_=>rfl⟩,?_⟩;intro t ht;obtain⟨t1,t2⟩:=ht;simp only at t1 t2;refine⟨⟨⟨f,c,day,t.2⟩,t.1,t.2⟩,⟨⟨⟨rfl,rfl⟩,rfl,⟨rfl,rfl⟩,trivial⟩,qM f c day _,by trivial,trivial⟩,⟨_,rfl⟩,?_⟩;intro z hz
    have hz:z=t.2:=by
     rw [hz];show(if t.2=(0:Int) then t.2 else t.2)=t.2;by_cases g:t.2=0<;>simp [g]
    subst hz;exact RetR.st9 rfl (hq0 t (by rw [t1]; exact(congrArg Prod.snd he).symm) λg=>by rw [t2 g]; exact(congrArg Prod.fst he).symm) rfl rfl
   have hk:¬ k=7:=aC hk;refine⟨λhk=> ?_,λhk=> ?_⟩
   ·have hk:k=8:=aB hk;subst hk;have ho:opR 8 r0.1 r1.1=(jY 8) r0.1 r1.1:=rfl;rw [ho] at he;refine⟨⟨⟨f,c,day,0⟩,r0.1,r1.1⟩,⟨⟨⟨rfl,rfl⟩,rfl,rfl,trivial⟩,⟨⟨⟨rfl,rfl,za _ _ _⟩,⟨rfl,rfl,za _ _ _⟩,⟨rfl,rfl⟩,⟨rfl,h⟩,trivial⟩,trivial⟩,by trivial,rfl,by show r0.1.length<_; omega,by show r1.1.length<_; omega⟩,⟨(jY 8) r0.1 r1.1,rfl,λ_=>rfl⟩,?_⟩;intro t ht;obtain⟨t1,t2⟩:=ht;simp only at t1 t2;refine⟨⟨⟨f,c,day,t.2⟩,t.1,t.2⟩,⟨⟨⟨rfl,rfl⟩,rfl,⟨rfl,rfl⟩,trivial⟩,qM f c day _,by trivial,trivial⟩,⟨_,rfl⟩,?_⟩;intro z hz
    have hz:z=t.2:=by
     rw [hz];show(if t.2=(0:Int) then t.2 else t.2)=t.2;by_cases g:t.2=0<;>simp [g]
    subst hz;exact RetR.st9 rfl (hq0 t (by rw [t1]; exact(congrArg Prod.snd he).symm) λg=>by rw [t2 g]; exact(congrArg Prod.fst he).symm) rfl rfl
   have hk:¬ k=8:=aC hk;omega
 ·iterate 3 refine⟨λh=>(by cases h),λ_=> ?_⟩
  refine⟨λ_=> ?_,λh=>(by cases h)⟩;have z0:=z0 (by omega);have z1:=z1 (by omega);have z2:=z2 (by omega)
  have he:(((Ex.mk 9 r m d s).ev f day).v,((Ex.mk 9 r m d s).ev f day).e)=if((s.getD 0 Ex.nil).ev f day).g≠0 then([],((s.getD 0 Ex.nil).ev f day).g) else if((s.getD 0 Ex.nil).ev f day).b then(((s.getD 1 Ex.nil).ev f day).v,((s.getD 1 Ex.nil).ev f day).e) else(((s.getD 2 Ex.nil).ev f day).v,((s.getD 2 Ex.nil).ev f day).e):=by
   rw [hev];simp only [evN,valN];rw [aO (by decide),aO (by decide),aO (by decide),aP trivial,Ex.jh (by omega),Ex.jh (by omega),Ex.jh (by omega)]
  refine⟨⟨by decide,by omega⟩,λ_=>⟨⟨⟨f,c,day,0⟩,s.getD 0 Ex.nil⟩,⟨eqX2 _,qM f c day 0,by trivial,by show(s.getD 0 Ex.nil).size<n; omega,λ_=>⟨hs0,hf,hfl⟩⟩,Q3 _ _ _,?_⟩⟩;intro r0 g0;obtain⟨g0,k0⟩:=g0.2 rfl;simp only [evA] at g0 k0
  have fin:∀ (y:Ex),(r0.2=0->(((Ex.mk 9 r m d s).ev f day).v,((Ex.mk 9 r m d s).ev f day).e)=((y.ev f day).v,(y.ev f day).e))->∀ (b:Blk) (t:L8×Int),((r0.2≠0->t.2=r0.2)/\(r0.2=0->t.2=(y.ev f day).e/\(t.2=0->t.1=(y.ev f day).v))) ->
    RetR (valC λk=>k.x.size<n+1/\VPre 1 k) 1 Q [.str t.1] [.box [.sl f.length 3 (fxG f),.sl c.length 4 (chG c),.i day,.i t.2],b]:=by
   intro y hy b t ht;refine RetR.st9 rfl (hq0 t ?_ λh0=> ?_) rfl rfl
   ·by_cases h3:r0.2=0
    ·rw [(ht.2 h3).1]; exact(congrArg Prod.snd (hy h3)).symm
    ·rw [ht.1 h3,g0];rw [aP (by rw [<- g0]; exact h3)] at he;exact(congrArg Prod.snd he).symm
   ·have h3:r0.2=0:=by
     refine bM λh3=> ?_
     exact h3 (by rw [<- ht.1 h3]; exact h0)
    rw [(ht.2 h3).2 h0]; exact(congrArg Prod.fst (hy h3)).symm
  refine⟨λhb=> ?_,λhb=> ?_⟩
  ·refine⟨⟨by decide,by omega⟩,λ_=>⟨⟨⟨f,c,day,r0.2⟩,s.getD 1 Ex.nil⟩,⟨eqX2 _,qM f c day r0.2,by trivial,by show(s.getD 1 Ex.nil).size<n; omega,λ_=>⟨hs1,hf,hfl⟩⟩,Zo _ _ _,?_⟩⟩;intro t ht;exact fin _ (λh3=>by rw [he,aO (by rw [<- g0]; simpa using h3),aP (by rw [<- k0 h3]; exact hb)]) _ t ht
  ·refine⟨⟨by decide,by omega⟩,λ_=>⟨⟨⟨f,c,day,r0.2⟩,s.getD 2 Ex.nil⟩,⟨eqX2 _,qM f c day r0.2,by trivial,by show(s.getD 2 Ex.nil).size<n; omega,λ_=>⟨hs2,hf,hfl⟩⟩,Zo _ _ _,?_⟩⟩;intro t ht;exact fin _ (λh3=>by rw [he,aO (by rw [<- g0]; simpa using h3),aO (by rw [<- k0 h3,hb]; decide)]) _ t ht
theorem zau:ze prog 155 (hldC λk=>k.x.size<n+1/\VPre 2 k):=by
 refine z9 (fn:=f155) (c:=f155.body.getD .skip) rfl rfl rfl (λh=>by cases h) λk hk O w0 I0 Q hl0 hq=> ?_
 obtain⟨⟨f,c,day,e⟩,⟨k,r,m,d,s⟩⟩:=k;obtain⟨hn,hv⟩:=hk;simp only at hn hv hq;refine zc.n (znn h1 h2) [] (let v11:=s.getD 0 Ex.nil;let v10:=s.getD 1 Ex.nil;let v4:List Blk:=[.box [.sl f.length 3 (fxG f),.sl c.length 4 (chG c),.i day,.i e]];let v3:List AV:=[.int .u8 k,.str r,.str m,.i d,.sl s.length 5 (Ex.exG s)];let v2:=[AV.ptr 0 0,AV.agg [.int .u8 (Ex.kind v10),.str (Ex.rat v10),.str (Ex.name v10),.i (Ex.date v10),.sl (List.length (Ex.sub v10)) 5 (Ex.deep v10)]];let v1:=[AV.ptr 0 0,AV.agg [.int .u8 (Ex.kind v11),.str (Ex.rat v11),.str (Ex.name v11),.i (Ex.date v11),.sl (List.length (Ex.sub v11)) 5 (Ex.deep v11)]];.N (e=0) (.R [.bool false] [.box [.sl f.length 3 (fxG f),.sl c.length 4 (chG c),.i day,.i e],.box v3]) (.D (k=13) (.side ((0:Int)<=0/\(0:Int)<s.length) (.ex (λ(x:VX)=>eqL v1 [.ptr 0 0,.agg [.int .u8 x.x.kind,.str x.x.rat,.str x.x.name,.i x.x.date,.sl x.x.sub.length 5 (Ex.exG x.x.sub)]]/\eqH v4 [.box [.sl x.s.f.length 3 (fxG x.s.f),.sl x.s.c.length 4 (chG x.s.c),.i x.s.day,.i x.s.e]]/\1=1/\Ex.size x.x<n/\VPre (2:Int) x) λn_1=>.all (λ(r:Bool×Int)=>(St8.e n_1.s≠0->r.2=St8.e n_1.s)/\(St8.e n_1.s=0->r.2=Ev.g (evA n_1)/\(r.2=0->r.1=Ev.b (evA n_1)))) λn_2=>let v6:=n_1.s.err n_2.2;.side (n_2.1=true->(0:Int)<=1/\(1:Int)<s.length) (.ite (n_2.1 == true) (.ex (λ(x:VX)=>eqL v2 [.ptr 0 0,.agg [.int .u8 x.x.kind,.str x.x.rat,.str x.x.name,.i x.x.date,.sl x.x.sub.length 5 (Ex.exG x.x.sub)]]/\eqH [.box [.sl (List.length v6.f) 3 (fxG v6.f),.sl (List.length v6.c) 4 (chG v6.c),.i v6.day,.i v6.e]] [.box [.sl x.s.f.length 3 (fxG x.s.f),.sl x.s.c.length 4 (chG x.s.c),.i x.s.day,.i x.s.e]]/\1=1/\Ex.size x.x<n/\VPre (2:Int) x) λn=>.all (λ(r:Bool×Int)=>(St8.e n.s≠0->r.2=St8.e n.s)/\(St8.e n.s=0->r.2=Ev.g (evA n)/\(r.2=0->r.1=Ev.b (evA n)))) λn_3=>let v13:=n.s.err n_3.2;.R [.bool (bif n_2.1 then n_3.1 else false)] [.box [.sl (List.length v13.f) 3 (fxG v13.f),.sl (List.length v13.c) 4 (chG v13.c),.i v13.day,.i v13.e],.box v3]) (.R [.bool (bif n_2.1 then false else false)] [.box [.sl (List.length v6.f) 3 (fxG v6.f),.sl (List.length v6.c) 4 (chG v6.c),.i v6.day,.i v6.e],.box v3])))) (.D (k=14) (.side ((0:Int)<=0/\(0:Int)<s.length) (.ex (λ(x:VX)=>eqL v1 [.ptr 0 0,.agg [.int .u8 x.x.kind,.str x.x.rat,.str x.x.name,.i x.x.date,.sl x.x.sub.length 5 (Ex.exG x.x.sub)]]/\eqH v4 [.box [.sl x.s.f.length 3 (fxG x.s.f),.sl x.s.c.length 4 (chG x.s.c),.i x.s.day,.i x.s.e]]/\1=1/\Ex.size x.x<n/\VPre (2:Int) x) λn_1=>.all (λ(r:Bool×Int)=>(St8.e n_1.s≠0->r.2=St8.e n_1.s)/\(St8.e n_1.s=0->r.2=Ev.g (evA n_1)/\(r.2=0->r.1=Ev.b (evA n_1)))) λn_2=>let v7:=n_1.s.err n_2.2;.side (n_2.1=false->(0:Int)<=1/\(1:Int)<s.length) (.ite (n_2.1 == false) (.ex (λ(x:VX)=>eqL v2 [.ptr 0 0,.agg [.int .u8 x.x.kind,.str x.x.rat,.str x.x.name,.i x.x.date,.sl x.x.sub.length 5 (Ex.exG x.x.sub)]]/\eqH [.box [.sl (List.length v7.f) 3 (fxG v7.f),.sl (List.length v7.c) 4 (chG v7.c),.i v7.day,.i v7.e]] [.box [.sl x.s.f.length 3 (fxG x.s.f),.sl x.s.c.length 4 (chG x.s.c),.i x.s.day,.i x.s.e]]/\1=1/\Ex.size x.x<n/\VPre (2:Int) x) λn=>.all (λ(r:Bool×Int)=>(St8.e n.s≠0->r.2=St8.e n.s)/\(St8.e n.s=0->r.2=Ev.g (evA n)/\(r.2=0->r.1=Ev.b (evA n)))) λn_3=>let v14:=n.s.err n_3.2;.R [.bool (bif n_2.1 then true else n_3.1)] [.box [.sl (List.length v14.f) 3 (fxG v14.f),.sl (List.length v14.c) 4 (chG v14.c),.i v14.day,.i v14.e],.box v3]) (.R [.bool (bif n_2.1 then true else false)] [.box [.sl (List.length v7.f) 3 (fxG v7.f),.sl (List.length v7.c) 4 (chG v7.c),.i v7.day,.i v7.e],.box v3])))) (.D (k=15) (.side ((0:Int)<=0/\(0:Int)<s.length) (.ex (λ(x:VX)=>eqL v1 [.ptr 0 0,.agg [.int .u8 x.x.kind,.str x.x.rat,.str x.x.name,.i x.x.date,.sl x.x.sub.length 5 (Ex.exG x.x.sub)]]/\eqH v4 [.box [.sl x.s.f.length 3 (fxG x.s.f),.sl x.s.c.length 4 (chG x.s.c),.i x.s.day,.i x.s.e]]/\1=1/\Ex.size x.x<n/\VPre (2:Int) x) λn=>.all (λ(r:Bool×Int)=>(St8.e n.s≠0->r.2=St8.e n.s)/\(St8.e n.s=0->r.2=Ev.g (evA n)/\(r.2=0->r.1=Ev.b (evA n)))) λn_1=>let v8:=n.s.err n_1.2;.R [.bool (bif !Prod.fst n_1 then decide (St8.e v8=(0:Int)) else false)] [.box [.sl (List.length v8.f) 3 (fxG v8.f),.sl (List.length v8.c) 4 (chG v8.c),.i v8.day,.i v8.e],.box v3])) (.side ((0:Int)<=0/\(0:Int)<s.length) (.ex (λ(x:VX)=>eqL v1 [.ptr 0 0,.agg [.int .u8 x.x.kind,.str x.x.rat,.str x.x.name,.i x.x.date,.sl x.x.sub.length 5 (Ex.exG x.x.sub)]]/\eqH v4 [.box [.sl x.s.f.length 3 (fxG x.s.f),.sl x.s.c.length 4 (chG x.s.c),.i x.s.day,.i x.s.e]]/\1=1/\Ex.size x.x<n/\VPre (1:Int) x) λn_1=>.all (λ(r:L8×Int)=>(St8.e n_1.s≠0->r.2=St8.e n_1.s)/\(St8.e n_1.s=0->r.2=Ev.e (evA n_1)/\(r.2=0->r.1=Ev.v (evA n_1)))) λn_2=>let v12:=n_1.s.err n_2.2;.side ((0:Int)<=1/\(1:Int)<s.length) (.ex (λ(x:VX)=>eqL v2 [.ptr 0 0,.agg [.int .u8 x.x.kind,.str x.x.rat,.str x.x.name,.i x.x.date,.sl x.x.sub.length 5 (Ex.exG x.x.sub)]]/\eqH [.box [.sl (List.length v12.f) 3 (fxG v12.f),.sl (List.length v12.c) 4 (chG v12.c),.i v12.day,.i v12.e]] [.box [.sl x.s.f.length 3 (fxG x.s.f),.sl x.s.c.length 4 (chG x.s.c),.i x.s.day,.i x.s.e]]/\1=1/\Ex.size x.x<n/\VPre (1:Int) x) λn=>.all (λ(r:L8×Int)=>(St8.e n.s≠0->r.2=St8.e n.s)/\(St8.e n.s=0->r.2=Ev.e (evA n)/\(r.2=0->r.1=Ev.v (evA n)))) λn_3=>let v15:=n.s.err n_3.2;.ex (q45 [.ptr 0 0,.str n_2.1,.str n_3.1] [.box [.sl (List.length v15.f) 3 (fxG v15.f),.sl (List.length v15.c) 4 (chG v15.c),.i v15.day,.i v15.e]]) λn=>.all (λ(r:Int×Int)=>r=cmpE n.s.e n.a n.b) λn_4=>let v9:=n.s.err n_4.2;let v5:List Blk:=[.box [.sl (List.length v9.f) 3 (fxG v9.f),.sl (List.length v9.c) 4 (chG v9.c),.i v9.day,.i v9.e],.box v3];.D (k=11) (.R [.bool (decide (n_4.1<0))] v5) (.R [.bool (bif decide (n_4.1=0) then decide (St8.e v9=(0:Int)) else false)] v5)))))))) ?_;simp only [q45,Tree.holds,zf];refine⟨λh=> ?_,λh=> ?_⟩
 ·have h:e≠0:=by simpa using h
  exact RetR.st9 rfl (hq (false,e) ⟨λ_=>rfl,λh0=>absurd h0 h⟩) rfl rfl
 have h:e=0:=by simpa using h
 subst h;obtain⟨hs,hf,hfl⟩:=hv rfl;simp only at hs hf hfl;have hq0:∀ t:Bool×Int,t.2=((Ex.mk k r m d s).ev f day).g->(t.2=0->t.1=((Ex.mk k r m d s).ev f day).b)->Q (.bool t.1,[(St8.mk f c day t.2).box]):=λt h1 h2=>hq t ⟨λh=>absurd rfl h,λ_=>⟨h1,h2⟩⟩
 clear hq;have hev:(Ex.mk k r m d s).ev f day=evN f day k r m d (Ex.evs f day s):=by rw [Ex.ev]
 have hc:=Ex.YR hs;simp only [Ex.kind,Ex.sub,Ex.rat] at hc;rw [Ex.size] at hn;have z0:=λg=>Ex.qu (s:=s) (i:=0) g
 have z1:=λg=>Ex.qu (s:=s) (i:=1) g
 have fin:∀ (t:Bool×Int) (b:Blk),t.2=((Ex.mk k r m d s).ev f day).g->(t.2=0->t.1=((Ex.mk k r m d s).ev f day).b)->RetR (hldC λk=>k.x.size<n+1/\VPre 2 k) 1 Q [.bool t.1] [.box [.sl f.length 3 (fxG f),.sl c.length 4 (chG c),.i day,.i t.2],b]:=λt b h1 h2=>RetR.st9 rfl (hq0 t h1 h2) rfl rfl
 rcases hc with ⟨hk,hl,hs0,hs1⟩ | ⟨hk,hl,hs0,hs1⟩ | ⟨rfl,hl,hs0⟩
 ·iterate 3 refine⟨λh=>absurd (aB h) (by omega),λ_=> ?_⟩
  have z0:=z0 (by omega);have z1:=z1 (by omega)
  have he:(((Ex.mk k r m d s).ev f day).b,((Ex.mk k r m d s).ev f day).g)=uT false ((s.getD 0 Ex.nil).ev f day) ((s.getD 1 Ex.nil).ev f day) (YX k):=by
   rw [hev];simp only [evN,hldN];rw [aO (by omega),Ex.jh (by omega),Ex.jh (by omega)]
  unfold uT at he;refine⟨⟨by decide,by omega⟩,λ_=>⟨⟨⟨f,c,day,0⟩,s.getD 0 Ex.nil⟩,⟨eqX2 _,qM f c day 0,by trivial,by show(s.getD 0 Ex.nil).size<n; omega,λ_=>⟨hs0,hf,hfl⟩⟩,Zo _ _ _,?_⟩⟩;intro r0 g0;obtain⟨g0,k0⟩:=g0.2 rfl;simp only [evA] at g0 k0;refine⟨⟨by decide,by omega⟩,λ_=>⟨⟨⟨f,c,day,r0.2⟩,s.getD 1 Ex.nil⟩,⟨eqX2 _,qM f c day r0.2,by trivial,by show(s.getD 1 Ex.nil).size<n; omega,λ_=>⟨hs1,hf,hfl⟩⟩,Zo _ _ _,?_⟩⟩;intro r1 g1;simp only [evA] at g1
  have hboth:r1.2=0->r0.2=0/\r0.1=((s.getD 0 Ex.nil).ev f day).v/\r1.1=((s.getD 1 Ex.nil).ev f day).v/\errR r0.1=0/\errR r1.1=0/\((Ex.mk k r m d s).ev f day).b=(YX k r0.1 r1.1).1/\((Ex.mk k r m d s).ev f day).g=(YX k r0.1 r1.1).2:=by
   intro h
   have h3:r0.2=0:=by
    refine bM λh3=> ?_
    exact h3 (by rw [<- g1.1 h3]; exact h)
   obtain⟨q1,k1'⟩:=g1.2 h3;have k0:=k0 h3;have k1':=k1' h;rw [aO (by rw [<- g0]; simpa using h3),aO (by rw [<- q1]; simpa using h),<- k0,<- k1'] at he;have l0:errR r0.1=0:=by rw [k0]; exact Ex.Qc hf day _ hs0 (by rw [<- g0]; exact h3)
   have l1:errR r1.1=0:=by rw [k1']; exact Ex.Qc hf day _ hs1 (by rw [<- q1]; exact h)
   exact⟨h3,k0,k1',l0,l1,congrArg Prod.fst he,congrArg Prod.snd he⟩
  refine⟨⟨⟨f,c,day,r1.2⟩,r0.1,r1.1⟩,⟨⟨⟨rfl,rfl⟩,rfl,rfl,trivial⟩,qM f c day r1.2,by trivial,λh=> ?_⟩,⟨_,rfl⟩,?_⟩
  ·obtain⟨_,_,_,l0,l1,_⟩:=hboth h;have l0:=wx l0;have l1:=wx l1;exact⟨by show r0.1.length<_; omega,by show r1.1.length<_; omega⟩
  intro z hz;simp only at hz;by_cases h:r1.2=0
  ·obtain⟨h3,k0,k1',l0,l1,e1,e2⟩:=hboth h;have hz:z=cmpR r0.1 r1.1:=by rw [hz]; unfold cmpE; rw [aO (by rw [h]; simp)]
   unfold YX at e1 e2;refine⟨λhk=> ?_,λhk=> ?_⟩
   ·have hk:k=11:=aB hk;refine fin (decide (z.1<0),z.2) _ ?_ λh0=> ?_
    ·rw [e2,hz];by_cases g:(cmpR r0.1 r1.1).2=0
     ·rw [aO (by rw [g]; simp)]; exact g
     ·rw [aP g]
    ·have h0:z.2=0:=h0;rw [hz] at h0 ⊢;rw [e1,aO (by rw [h0]; simp),aP hk]
   ·have hk:¬ k=11:=aC hk;refine fin ((bif decide (z.1=0) then decide (z.2=0) else false),z.2) _ ?_ λh0=> ?_
    ·rw [e2,hz];by_cases g:(cmpR r0.1 r1.1).2=0
     ·rw [aO (by rw [g]; simp)]; exact g
     ·rw [aP g]
    ·have h0:z.2=0:=h0;rw [hz] at h0 ⊢;rw [e1,aO (by rw [h0]; simp),aO hk];simp only [h0];cases decide ((cmpR r0.1 r1.1).1=0)<;>rfl
  ·have hz:z=(0,r1.2):=by rw [hz]; unfold cmpE; rw [aP h]
   have hg:((Ex.mk k r m d s).ev f day).g=r1.2:=by
    have he:=congrArg Prod.snd he;simp only at he;rw [he];by_cases h3:r0.2=0
    ·obtain⟨q1,_⟩:=g1.2 h3;rw [aO (by rw [<- g0]; simpa using h3),aP (by rw [<- q1]; exact h),q1]
    ·rw [aP (by rw [<- g0]; exact h3),g1.1 h3,g0]
   subst hz;refine⟨λhk=> ?_,λhk=> ?_⟩
   ·exact fin (false,r1.2) _ hg.symm λh0=>absurd h0 h
   ·refine fin ((bif decide ((0:Int)=0) then decide (r1.2=0) else false),r1.2) _ hg.symm λh0=>absurd h0 h
 ·have z0:=z0 (by omega);have z1:=z1 (by omega)
  have he:(((Ex.mk k r m d s).ev f day).b,((Ex.mk k r m d s).ev f day).g)=if((s.getD 0 Ex.nil).ev f day).g≠0 then(false,((s.getD 0 Ex.nil).ev f day).g) else if((s.getD 0 Ex.nil).ev f day).b=decide (k=14) then(((s.getD 0 Ex.nil).ev f day).b,0) else(((s.getD 1 Ex.nil).ev f day).b,((s.getD 1 Ex.nil).ev f day).g):=by
   rw [hev];simp only [evN,hldN];rw [aP (by omega),aO (show ¬ k=15 by omega),Ex.jh (by omega),Ex.jh (by omega)]
  have go:∀ (r0:Bool×Int),r0.2=((s.getD 0 Ex.nil).ev f day).g->(r0.2=0->r0.1=((s.getD 0 Ex.nil).ev f day).b) ->
    (r0.1=decide (k=14)->r0.2=((Ex.mk k r m d s).ev f day).g/\(r0.2=0->r0.1=((Ex.mk k r m d s).ev f day).b)) /\
    (r0.1≠decide (k=14)->∀ r1:Bool×Int,((r0.2≠0->r1.2=r0.2)/\(r0.2=0->r1.2=((s.getD 1 Ex.nil).ev f day).g/\(r1.2=0->r1.1=((s.getD 1 Ex.nil).ev f day).b)))->r1.2=((Ex.mk k r m d s).ev f day).g/\(r1.2=0->r1.1=((Ex.mk k r m d s).ev f day).b)):=by
   intro r0 g0 k0;have e1:=congrArg Prod.fst he;have e2:=congrArg Prod.snd he;simp only at e1 e2;rw [e1,e2];by_cases h3:r0.2=0
   ·rw [aO (by rw [<- g0]; simpa using h3),<- k0 h3];refine⟨λh=> ?_,λh r1 g1=> ?_⟩
    ·rw [aP h]; exact⟨h3,λ_=>rfl⟩
    ·rw [aO h]; exact g1.2 h3
   ·rw [aP (by rw [<- g0]; exact h3)];refine⟨λh=>⟨g0,λh0=>absurd h0 h3⟩,λh r1 g1=> ?_⟩;rw [g1.1 h3];exact⟨g0,λh0=>absurd h0 h3⟩
  have first:∃ r:Bool×Int,((0:Int)≠0->r.2=0)/\((0:Int)=0->r.2=(evA ⟨⟨f,c,day,0⟩,s.getD 0 Ex.nil⟩).g/\(r.2=0->r.1=(evA ⟨⟨f,c,day,0⟩,s.getD 0 Ex.nil⟩).b)):=Q3 _ _ _;rcases hk with rfl | rfl
  ·refine⟨λ_=> ?_,λh=>(by cases h)⟩;refine⟨⟨by decide,by omega⟩,λ_=>⟨⟨⟨f,c,day,0⟩,s.getD 0 Ex.nil⟩,⟨eqX2 _,qM f c day 0,by trivial,by show(s.getD 0 Ex.nil).size<n; omega,λ_=>⟨hs0,hf,hfl⟩⟩,first,?_⟩⟩;intro r0 g0;obtain⟨g0,k0⟩:=g0.2 rfl;obtain⟨go1,go2⟩:=go r0 g0 k0;refine⟨λ_=>⟨by decide,by omega⟩,λ_=>⟨λhb=> ?_,λhb=> ?_⟩⟩
   ·have hb:r0.1=true:=by simpa using hb
    refine⟨⟨⟨f,c,day,r0.2⟩,s.getD 1 Ex.nil⟩,⟨eqX2 _,qM f c day r0.2,by trivial,by show(s.getD 1 Ex.nil).size<n; omega,λ_=>⟨hs1,hf,hfl⟩⟩,Q3 _ _ _,?_⟩;intro r1 g1;rw [hb];obtain⟨u1,u2⟩:=go2 (by rw [hb]; decide) r1 g1;exact fin r1 _ u1 u2
   ·have hb:r0.1=false:=by simpa using hb
    rw [hb];obtain⟨u1,u2⟩:=go1 (by rw [hb]; rfl);exact fin (false,r0.2) _ u1 (λh0=>by rw [<- u2 h0,hb])
  ·refine⟨λh=>(by cases h),λ_=>⟨λ_=> ?_,λh=>(by cases h)⟩⟩;refine⟨⟨by decide,by omega⟩,λ_=>⟨⟨⟨f,c,day,0⟩,s.getD 0 Ex.nil⟩,⟨eqX2 _,qM f c day 0,by trivial,by show(s.getD 0 Ex.nil).size<n; omega,λ_=>⟨hs0,hf,hfl⟩⟩,first,?_⟩⟩;intro r0 g0;obtain⟨g0,k0⟩:=g0.2 rfl;obtain⟨go1,go2⟩:=go r0 g0 k0;refine⟨λ_=>⟨by decide,by omega⟩,λ_=>⟨λhb=> ?_,λhb=> ?_⟩⟩
   ·have hb:r0.1=false:=by simpa using hb
    refine⟨⟨⟨f,c,day,r0.2⟩,s.getD 1 Ex.nil⟩,⟨eqX2 _,qM f c day r0.2,by trivial,by show(s.getD 1 Ex.nil).size<n; omega,λ_=>⟨hs1,hf,hfl⟩⟩,Q3 _ _ _,?_⟩;intro r1 g1;rw [hb];obtain⟨u1,u2⟩:=go2 (by rw [hb]; decide) r1 g1;exact fin r1 _ u1 u2
   ·have hb:r0.1=true:=by simpa using hb
    rw [hb];obtain⟨u1,u2⟩:=go1 (by rw [hb]; rfl);exact fin (true,r0.2) _ u1 (λh0=>by rw [<- u2 h0,hb])
 ·iterate 2 refine⟨λh=>(by cases h),λ_=> ?_⟩
  refine⟨λ_=> ?_,λh=>(by cases h)⟩;have z0:=z0 (by omega)
  have he:(((Ex.mk 15 r m d s).ev f day).b,((Ex.mk 15 r m d s).ev f day).g)=if((s.getD 0 Ex.nil).ev f day).g≠0 then(false,((s.getD 0 Ex.nil).ev f day).g) else(!((s.getD 0 Ex.nil).ev f day).b,0):=by
   rw [hev];simp only [evN,hldN];rw [aP (by decide),aP trivial,Ex.jh (by omega)]
  refine⟨⟨by decide,by omega⟩,λ_=>⟨⟨⟨f,c,day,0⟩,s.getD 0 Ex.nil⟩,⟨eqX2 _,qM f c day 0,by trivial,by show(s.getD 0 Ex.nil).size<n; omega,λ_=>⟨hs0,hf,hfl⟩⟩,Q3 _ _ _,?_⟩⟩;intro r0 g0;obtain⟨g0,k0⟩:=g0.2 rfl;simp only [evA] at g0 k0;have e1:=congrArg Prod.fst he;have e2:=congrArg Prod.snd he;simp only at e1 e2;refine fin ((bif !r0.1 then decide (r0.2=0) else false),r0.2) _ ?_ λh3=> ?_
  ·rw [e2];by_cases h3:r0.2=0
   ·rw [aO (by rw [<- g0]; simpa using h3)]; exact h3
   ·rw [aP (by rw [<- g0]; exact h3)]; exact g0
  ·have h3:r0.2=0:=h3;rw [e1,aO (by rw [<- g0]; simpa using h3),<- k0 h3];simp only [h3];cases r0.1<;>rfl
end
theorem zf0:ze prog 156 (valC (VPre 1))/\ze prog 155 (hldC (VPre 2)):=
 zi7 (λk:VX=>k.x.size) (λk:VX=>k.x.size) λn h1 h2=>⟨zcs n h1 h2,zau n h1 h2⟩
theorem zjl:ze prog 156 (valC (VPre 1)):=zf0.1
theorem zkh:ze prog 155 (hldC (VPre 2)):=zf0.2
end Go.Proofs.Tryz
end
section
set_option maxRecDepth 100000
open Go Go.Sx Go.Proofs Go.Nov
namespace Go.Proofs.Tryz
attribute [local simp] eqKV eqA eqA0 eqH eqB eqL eqL0
structure BX where
 x:Ex
 want:Int
 day:Int
 f:List Fx
 c:List Ch
def BX.ask(b:BX):Int:=askE b.x b.want b.day b.f b.c
def Ze:Ctr:=ctrT false false (λb:BX=>[b.x.exA,.int .u8 b.want,.i b.day,envA b.f b.c]) (λ_=>[]) (λb=>b.x.size<2^40/\b.x.zQ<2^40/\envP (b.f,b.c)) (λb r=>r=b.ask) (λb (r:Int)=>(.ptr 0 0,[(St8.mk b.f b.c b.day r).box]))
noncomputable def GBe:=tb Xn (tb X9 (tb Qy (tb Q8 tz)))
abbrev q48(A:List AV)(x:List Fx×List Ch):Prop:=eqL A [.agg [.sl x.1.length 3 (fxG x.1),.sl x.2.length 4 (chG x.2)]]/\envP x
theorem zns:ze prog 154 Ze:=by
 refine z9 (fn:=f154) (c:=f154.body.getD .skip) rfl rfl rfl (λh=>by cases h) λb hb O w0 I0 Q hl0 hq=> ?_
 obtain rfl:I0=[]:=aU.1 hl0;obtain⟨x,want,day,f,c⟩:=b;obtain⟨h1,h2,h3⟩:=hb;replace hq:=hq _ rfl;simp only [BX.ask] at h1 h2 h3 hq;refine zc.n GBe.h [] (let v6:=[AV.i day];let v5:=q48 [.agg [.sl f.length 3 (fxG f),.sl c.length 4 (chG c)]];let v4:=[AV.agg [.int .u8 x.kind,.str x.rat,.str x.name,.i x.date,.sl x.sub.length 5 (Ex.exG x.sub)]];let v3:List AV:=[.sl f.length 3 (fxG f),.sl c.length 4 (chG c)];let v2:List AV:=[.int .u8 x.kind,.str x.rat,.str x.name,.i x.date,.sl x.sub.length 5 (Ex.exG x.sub)];let v1:qe:=.ret [.ptr 2 0] [.box v2,.box v3,.box [.sl f.length 3 (fxG f),.sl c.length 4 (chG c),.i day,.i 2]];.ex (q41 v4) λn=>.all (λ(r:Int)=>r=Ex.errX n) λn=>.ex (λ(x9:Ex)=>decide (n=0)=true->q40 v4 x9) λn_1=>.all (λ(x:Int)=>decide (n=0)=true->x=Ex.zL n_1) λn_2=>.ite (bif decide (n=0) then !decide (n_2=want) else false) (.ite false (.ex v5 λn=>.all (λ(r:Int)=>r=errE n.1 n.2) λn=>.ex (λ(x:Int)=>decide (n=0)=true->q34 v6 x) λn_3=>.all (λ(x:Bool)=>decide (n=0)=true->x=dayB n_3) λn_4=>.ite (bif decide (n=0) then !n_4 else false) (.leaf v1) (.R [.ptr 2 0] [.box v2,.box v3,.box [.sl f.length 3 (fxG f),.sl c.length 4 (chG c),.i day,.i n]])) (.ex (λ(x:Int)=>decide ((32:Int)=0)=true->q34 v6 x) λn=>.all (λ(x:Bool)=>decide ((32:Int)=0)=true->x=dayB n) λn=>.ite (bif decide ((32:Int)=0) then !n else false) (.leaf v1) (.R [.ptr 2 0] [.box v2,.box v3,.box [.sl f.length 3 (fxG f),.sl c.length 4 (chG c),.i day,.i 32]]))) (.D (n=0) (.ex v5 λn=>.all (λ(r:Int)=>r=errE n.1 n.2) λn=>.ex (λ(x:Int)=>decide (n=0)=true->q34 v6 x) λn_3=>.all (λ(x:Bool)=>decide (n=0)=true->x=dayB n_3) λn_4=>.ite (bif decide (n=0) then !n_4 else false) (.leaf v1) (.R [.ptr 2 0] [.box v2,.box v3,.box [.sl f.length 3 (fxG f),.sl c.length 4 (chG c),.i day,.i n]])) (.ex (λ(x:Int)=>decide (n=0)=true->q34 v6 x) λn_3=>.all (λ(x:Bool)=>decide (n=0)=true->x=dayB n_3) λn_4=>.ite (bif decide (n=0) then !n_4 else false) (.leaf v1) (.R [.ptr 2 0] [.box v2,.box v3,.box [.sl f.length 3 (fxG f),.sl c.length 4 (chG c),.i day,.i n]])))) ?_;simp only [q34,q40,q41,q48,Tree.holds,zf];have eE:eqL [.agg [.sl f.length 3 (fxG f),.sl c.length 4 (chG c)]] [envA f c]:=⟨⟨⟨rfl,rfl,za _ _ _⟩,⟨rfl,rfl,za _ _ _⟩,trivial⟩,trivial⟩;have eX:eqL [x.exA] [x.exA]:=⟨⟨⟨rfl,rfl⟩,rfl,rfl,⟨rfl,rfl⟩,⟨rfl,rfl,za _ _ _⟩,trivial⟩,trivial⟩;generalize hask:askE x want day f c=ask at hq
 have ret:∀ (b0 b1:Blk),RetR Ze 0 Q [.ptr 2 0] [b0,b1,.box [.sl f.length 3 (fxG f),.sl c.length 4 (chG c),.i day,.i ask]]:=by
  intro b0 b1;refine RetR.outs [2] rfl rfl hq (λh=>by cases h) ?_ ?_ rfl
  ·exact⟨rfl,rfl⟩
  ·exact qM f c day ask
 have tail:∀ (e0:Int) (b0 b1:Blk),(if e0=0 then(if dayB day=true then 0 else 2) else e0)=ask->∃ n3:Int,((decide (e0=0)=true->eqL [.i day] [.i n3]/\True)/\(∃ b:Bool,decide (e0=0)=true->b=dayB n3)/\∀ b:Bool,(decide (e0=0)=true->b=dayB n3) ->
   ((bif decide (e0=0) then !b else false)=true->RetR Ze 0 Q [.ptr 2 0] [b0,b1,.box [.sl f.length 3 (fxG f),.sl c.length 4 (chG c),.i day,.i 2]]) /\
   ((bif decide (e0=0) then !b else false)=false->RetR Ze 0 Q [.ptr 2 0] [b0,b1,.box [.sl f.length 3 (fxG f),.sl c.length 4 (chG c),.i day,.i e0]])):=by
  intro e0 b0 b1 h;refine⟨day,λ_=>⟨⟨⟨rfl,rfl⟩,trivial⟩,trivial⟩,⟨_,λ_=>rfl⟩,λb hb=> ?_⟩;by_cases h0:e0=0
  ·have hb:=hb (aX h0);rw [aP h0] at h;rw [aX h0,hb,h0];cases hd:dayB day with
   | true=>
    rw [hd,aP rfl] at h;rw [h];exact⟨λh=>(by cases h),λ_=>ret _ _⟩
   | false=>
    rw [hd,aO (by decide)] at h;rw [h];exact⟨λ_=>ret _ _,λh=>(by cases h)⟩
  ·rw [aO h0] at h;rw [aW h0,h];exact⟨λh=>(by cases h),λ_=>ret _ _⟩
 have chk:∀ (b0 b1:Blk),x.errX=0->x.zL=want->∃ n:List Fx×List Ch,(eqL [.agg [.sl f.length 3 (fxG f),.sl c.length 4 (chG c)]] [.agg [.sl n.1.length 3 (fxG n.1),.sl n.2.length 4 (chG n.2)]]/\envP n)/\(∃ r,r=errE n.1 n.2)/\∀ r:Int,r=errE n.1 n.2 ->
   ∃ n3:Int,((decide (r=0)=true->eqL [.i day] [.i n3]/\True)/\(∃ b:Bool,decide (r=0)=true->b=dayB n3)/\∀ b:Bool,(decide (r=0)=true->b=dayB n3) ->
   ((bif decide (r=0) then !b else false)=true->RetR Ze 0 Q [.ptr 2 0] [b0,b1,.box [.sl f.length 3 (fxG f),.sl c.length 4 (chG c),.i day,.i 2]]) /\
   ((bif decide (r=0) then !b else false)=false->RetR Ze 0 Q [.ptr 2 0] [b0,b1,.box [.sl f.length 3 (fxG f),.sl c.length 4 (chG c),.i day,.i r]])):=by
  intro b0 b1 g1 g2;refine⟨(f,c),⟨eE,h3⟩,⟨_,rfl⟩,?_⟩;rintro _ rfl;refine tail _ _ _ ?_;rw [<- hask,zsx g1 g2]
 refine⟨x,⟨eX,h1,h2⟩,⟨_,rfl⟩,?_⟩;rintro _ rfl;refine⟨x,λ_=>⟨eX,by omega,h2⟩,⟨_,λ_=>rfl⟩,?_⟩;intro z hz;by_cases g1:x.errX=0
 ·have hz:=hz (aX g1);subst hz;refine⟨λhc=>⟨λh=>(by cases h),λ_=> ?_⟩,λhc=>⟨λ_=> ?_,λh=>absurd g1 (aC h)⟩⟩
  ·have g2:¬ x.zL=want:=by
    rw [aX g1] at hc;simpa using hc
   refine tail 32 _ _ ?_;rw [<- hask,zwn g1 g2];rfl
  ·have g2:x.zL=want:=by
    rw [aX g1] at hc;simpa using hc
   exact chk _ _ g1 g2
 ·refine⟨λhc=> ?_,λ_=>⟨λh=>absurd (aB h) g1,λ_=> ?_⟩⟩
  ·rw [aW g1] at hc; cases hc
  ·refine tail _ _ _ ?_;rw [<- hask,zwh g1,aO g1]
structure VI where
 x:Ex
 day:Int
 f:List Fx
 c:List Ch
def VI.ok(k:VI):Prop:=k.x.size<2^40/\k.x.zQ<2^40/\envP (k.f,k.c)
def znf:Ctr:=ctrP true (λk:VI=>[k.x.exA,.i k.day,envA k.f k.c]) VI.ok (λk r=>r=jT k.x k.day k.f k.c) (λ_ (r:L8×Int)=>(.tup [.str r.1,.i r.2],[]))
def zj6:Ctr:=ctrP true (λk:VI=>[k.x.exA,.i k.day,envA k.f k.c]) VI.ok (λk r=>r=yh k.x k.day k.f k.c) (λ_ (r:Bool×Int)=>(.tup [.bool r.1,.i r.2],[]))
noncomputable def GVh:=tb zns (tb zjl (tb zkh tz))
abbrev q49(A:List AV)(H:Heap)(x:BX):Prop:=eqL A [.agg [.int .u8 x.x.kind,.str x.x.rat,.str x.x.name,.i x.x.date,.sl x.x.sub.length 5 (Ex.exG x.x.sub)],.int .u8 x.want,.i x.day,.agg [.sl x.f.length 3 (fxG x.f),.sl x.c.length 4 (chG x.c)]]/\eqH H []/\0=0/\Ex.size x.x<1099511627776/\Ex.zQ x.x<1099511627776/\envP (BX.f x,BX.c x)
theorem zk2:ze prog 123 znf:=by
 refine zh' f123 λk hk O w0 Q hq=> ?_
 obtain⟨x,day,f,c⟩:=k;obtain⟨h1,h2,h3⟩:=hk;replace hq:=hq _ rfl;simp only at h1 h2 h3 hq;unfold jT at hq;refine zc.n GVh.h [] (let v2:=[AV.int .u8 x.kind,AV.str x.rat,AV.str x.name,AV.i x.date,AV.sl x.sub.length 5 (Ex.exG x.sub)];.ex (q49 [.agg v2,.int .u8 1,.i day,.agg [.sl f.length 3 (fxG f),.sl c.length 4 (chG c)]] []) λn=>.all (λ(r:Int)=>r=BX.ask n) λn_1=>.ex (λ(x_1:VX)=>eqL [.ptr 0 0,.agg v2] [.ptr 0 0,.agg [.int .u8 x_1.x.kind,.str x_1.x.rat,.str x_1.x.name,.i x_1.x.date,.sl x_1.x.sub.length 5 (Ex.exG x_1.x.sub)]]/\eqH [.box [.sl n.f.length 3 (fxG n.f),.sl n.c.length 4 (chG n.c),.i n.day,.i n_1]] [.box [.sl x_1.s.f.length 3 (fxG x_1.s.f),.sl x_1.s.c.length 4 (chG x_1.s.c),.i x_1.s.day,.i x_1.s.e]]/\1=1/\VPre (1:Int) x_1) λn=>.all (λ(r:L8×Int)=>(St8.e n.s≠0->r.2=St8.e n.s)/\(St8.e n.s=0->r.2=Ev.e (evA n)/\(r.2=0->r.1=Ev.v (evA n)))) λn_2=>let v3:=n.s.err n_2.2;let v1:List Blk:=[.box [.int .u8 x.kind,.str x.rat,.str x.name,.i x.date,.sl x.sub.length 5 (Ex.exG x.sub)],.box [.sl f.length 3 (fxG f),.sl c.length 4 (chG c)],.box [.sl (List.length v3.f) 3 (fxG v3.f),.sl (List.length v3.c) 4 (chG v3.c),.i v3.day,.i v3.e]];.N (St8.e v3=(0:Int)) (.R [.str #[].toList,.i v3.e] v1) (.R [.str n_2.1,.i 0] v1)) ?_;simp only [q49,Tree.holds,zf];have eB:eqL [x.exA,.int .u8 1,.i day,envA f c] [x.exA,.int .u8 1,.i day,envA f c]:=⟨⟨⟨rfl,rfl⟩,rfl,rfl,⟨rfl,rfl⟩,⟨rfl,rfl,za _ _ _⟩,trivial⟩,⟨rfl,rfl⟩,⟨rfl,rfl⟩,⟨⟨rfl,rfl,za _ _ _⟩,⟨rfl,rfl,za _ _ _⟩,trivial⟩,trivial⟩;refine⟨⟨x,1,day,f,c⟩,⟨eB,trivial,trivial,h1,h2,h3⟩,⟨_,rfl⟩,?_⟩;rintro e he;have he:e=askE x 1 day f c:=he;rw [<- he] at hq
 have hv:VPre 1 ⟨⟨f,c,day,e⟩,x⟩:=by
  intro h0;have h0:e=0:=h0;obtain⟨_,g2,g3,_⟩:=Vp (he.symm.trans h0);obtain⟨g4,g5,_⟩:=Y2.1 g3;refine⟨g2,g5,?_⟩;show f.length<2^40;omega
 refine⟨⟨⟨f,c,day,e⟩,x⟩,⟨zsf x,qM f c day e,trivial,hv⟩,Zo _ _ _,?_⟩;intro r hr;simp only [evA] at hr;refine⟨λh=> ?_,λh=> ?_⟩
 ·have h:r.2≠0:=by
   intro h0;have h':(!decide (r.2=0))=true:=h;rw [h0] at h'; cases h'
  have eq:(if e≠0 then([],e) else if(x.ev f day).e≠0 then([],(x.ev f day).e) else((x.ev f day).v,0))=(([]:L8),r.2):=by
   by_cases h0:e=0
   ·obtain⟨q1,_⟩:=hr.2 h0;rw [aO (by rw [h0]; simp),aP (by rw [<- q1]; exact h),q1]
   ·rw [aP h0,hr.1 h0]
  rw [eq] at hq;exact RetR.scal hq rfl (by simp [resV,St8.err])
 ·have h:r.2=0:=by
   have h':(!decide (r.2=0))=false:=h;simpa using h'
  have h0:e=0:=bM λh0=>h0 (by rw [<- hr.1 h0]; exact h)
  obtain⟨q1,k1⟩:=hr.2 h0
  have eq:(if e≠0 then([],e) else if(x.ev f day).e≠0 then([],(x.ev f day).e) else((x.ev f day).v,0))=(r.1,0):=by
   rw [aO (by rw [h0]; simp),aO (by rw [<- q1,h]; simp),k1 h]
  rw [eq] at hq;exact RetR.scal hq rfl (by simp [resV])
theorem zj2:ze prog 120 zj6:=by
 refine zh' f120 λk hk O w0 Q hq=> ?_
 obtain⟨x,day,f,c⟩:=k;obtain⟨h1,h2,h3⟩:=hk;replace hq:=hq _ rfl;simp only at h1 h2 h3 hq;unfold yh at hq;refine zc.n GVh.h [] (let v2:=[AV.int .u8 x.kind,AV.str x.rat,AV.str x.name,AV.i x.date,AV.sl x.sub.length 5 (Ex.exG x.sub)];.ex (q49 [.agg v2,.int .u8 2,.i day,.agg [.sl f.length 3 (fxG f),.sl c.length 4 (chG c)]] []) λn=>.all (λ(r:Int)=>r=BX.ask n) λn_1=>.ex (λ(x_1:VX)=>eqL [.ptr 0 0,.agg v2] [.ptr 0 0,.agg [.int .u8 x_1.x.kind,.str x_1.x.rat,.str x_1.x.name,.i x_1.x.date,.sl x_1.x.sub.length 5 (Ex.exG x_1.x.sub)]]/\eqH [.box [.sl n.f.length 3 (fxG n.f),.sl n.c.length 4 (chG n.c),.i n.day,.i n_1]] [.box [.sl x_1.s.f.length 3 (fxG x_1.s.f),.sl x_1.s.c.length 4 (chG x_1.s.c),.i x_1.s.day,.i x_1.s.e]]/\1=1/\VPre (2:Int) x_1) λn=>.all (λ(r:Bool×Int)=>(St8.e n.s≠0->r.2=St8.e n.s)/\(St8.e n.s=0->r.2=Ev.g (evA n)/\(r.2=0->r.1=Ev.b (evA n)))) λn_2=>let v3:=n.s.err n_2.2;let v1:List Blk:=[.box [.int .u8 x.kind,.str x.rat,.str x.name,.i x.date,.sl x.sub.length 5 (Ex.exG x.sub)],.box [.sl f.length 3 (fxG f),.sl c.length 4 (chG c)],.box [.sl (List.length v3.f) 3 (fxG v3.f),.sl (List.length v3.c) 4 (chG v3.c),.i v3.day,.i v3.e]];.N (St8.e v3=(0:Int)) (.R [.bool false,.i v3.e] v1) (.R [.bool n_2.1,.i 0] v1)) ?_;simp only [q49,Tree.holds,zf];have eB:eqL [x.exA,.int .u8 2,.i day,envA f c] [x.exA,.int .u8 2,.i day,envA f c]:=⟨⟨⟨rfl,rfl⟩,rfl,rfl,⟨rfl,rfl⟩,⟨rfl,rfl,za _ _ _⟩,trivial⟩,⟨rfl,rfl⟩,⟨rfl,rfl⟩,⟨⟨rfl,rfl,za _ _ _⟩,⟨rfl,rfl,za _ _ _⟩,trivial⟩,trivial⟩;refine⟨⟨x,2,day,f,c⟩,⟨eB,trivial,trivial,h1,h2,h3⟩,⟨_,rfl⟩,?_⟩;rintro e he;have he:e=askE x 2 day f c:=he;rw [<- he] at hq
 have hv:VPre 2 ⟨⟨f,c,day,e⟩,x⟩:=by
  intro h0;have h0:e=0:=h0;obtain⟨_,g2,g3,_⟩:=Vp (he.symm.trans h0);obtain⟨g4,g5,_⟩:=Y2.1 g3;refine⟨g2,g5,?_⟩;show f.length<2^40;omega
 refine⟨⟨⟨f,c,day,e⟩,x⟩,⟨zsf x,qM f c day e,trivial,hv⟩,Q3 _ _ _,?_⟩;intro r hr;simp only [evA] at hr;refine⟨λh=> ?_,λh=> ?_⟩
 ·have h:r.2≠0:=by
   intro h0;have h':(!decide (r.2=0))=true:=h;rw [h0] at h'; cases h'
  have eq:(if e≠0 then(false,e) else if(x.ev f day).g≠0 then(false,(x.ev f day).g) else((x.ev f day).b,0))=(false,r.2):=by
   by_cases h0:e=0
   ·obtain⟨q1,_⟩:=hr.2 h0;rw [aO (by rw [h0]; simp),aP (by rw [<- q1]; exact h),q1]
   ·rw [aP h0,hr.1 h0]
  rw [eq] at hq;exact RetR.scal hq rfl (by simp [resV,St8.err])
 ·have h:r.2=0:=by
   have h':(!decide (r.2=0))=false:=h;simpa using h'
  have h0:e=0:=bM λh0=>h0 (by rw [<- hr.1 h0]; exact h)
  obtain⟨q1,k1⟩:=hr.2 h0
  have eq:(if e≠0 then(false,e) else if(x.ev f day).g≠0 then(false,(x.ev f day).g) else((x.ev f day).b,0))=(r.1,0):=by
   rw [aO (by rw [h0]; simp),aO (by rw [<- q1,h]; simp),k1 h]
  rw [eq] at hq;exact RetR.scal hq rfl (by simp [resV])
end Go.Proofs.Tryz
end
section
namespace Go.Proofs
open Go.RowKit Go.Shelf
attribute [local go_sem] Oper.semAt_some
theorem zby{F:Fence}(hd:F.depth=none)(k:Nat):F.room k:=λd h=>by rw [hd] at h; cases h
theorem zcb{F:Fence}(hd:F.depth=none){m:Nat}(m':Nat){P:Program}{l:Nat}{args:Array Value}{W:World}{R:Ending->World->Prop}(h:YieldAt F m P l args W R):YieldAt F m' P l args W R:=by
 obtain⟨fn,tmps,assign,body,hy,hR⟩:=h;exact⟨fn,tmps,assign,body,hy,hR.1,λc cs _=>hR.2 c cs (zby hd _)⟩
inductive CT where
 | mk (u0:Int) (u1 u2 u3:ByteArray) (u4:Int) (u5 u6:ByteArray) (u7:Int) (up:Option Addr) (ul uc:Nat) (u9:Int) (uq:Option Addr) (um ud:Nat) (a:Option Addr) (cap:Nat) (kids:List CT)
namespace CT
def val:CT->Value
 | mk u0 u1 u2 u3 u4 u5 u6 u7 up ul uc u9 uq um ud a cap kids=>.agg #[.int .u8 u0,.string u1,.string u2,.string u3,.int .u8 u4,.string u5,.string u6,.i u7,.slice up ul uc,.i u9,.slice uq um ud,.slice a kids.length cap]
def cells:CT->List Value
 | mk u0 u1 u2 u3 u4 u5 u6 u7 up ul uc u9 uq um ud a cap kids=>[.int .u8 u0,.string u1,.string u2,.string u3,.int .u8 u4,.string u5,.string u6,.i u7,.slice up ul uc,.i u9,.slice uq um ud,.slice a kids.length cap]
mutual
def all:CT->List CT
 | mk u0 u1 u2 u3 u4 u5 u6 u7 up ul uc u9 uq um ud a cap kids=>mk u0 u1 u2 u3 u4 u5 u6 u7 up ul uc u9 uq um ud a cap kids::alls kids
def alls:List CT->List CT
 | []=>[]
 | t::l=>all t++alls l
end
mutual
def mem(K:World->Prop):CT->Prop
 | mk u0 u1 u2 u3 u4 u5 u6 u7 up ul uc u9 uq um ud a cap kids=>kids.length<=1000000/\mems K a 0 kids
def mems(K:World->Prop)(a:Option Addr):Nat->List CT->Prop
 | _,[]=>True
 | j,t::l=>(∃ ad B o,a=some ad/\ad.add (j*12)=⟨B,o,none⟩/\∀ W,K W->∀ (k:Nat) (v:Value),t.cells[k]?=some v->W.cell? ⟨B,o+k,none⟩=some v)/\mem K t/\mems K a (j+1) l
end
mutual
def QU:CT->Nat
 | mk _ _ _ _ _ _ _ _ _ _ _ _ _ _ _ _ _ kids=>1+Qk kids
def Qk:List CT->Nat
 | []=>0
 | t::l=>QU t+Qk l
end
end CT
theorem CT.Jk:∀ {l:List CT} {j:Nat} {t:CT},l[j]?=some t->t.QU<=CT.Qk l
 | [],j,t,h=>by simp at h
 | x::l,0,t,h=>by simp at h; subst h; rw [CT.Qk]; omega
 | x::l,j+1,t,h=>by
  have:=CT.Jk (l:=l) (j:=j) (by simpa using h);rw [CT.Qk]; omega
theorem CT.Uk{K:World->Prop}{a:Option Addr} : ∀ {l:List CT} {i j:Nat} {t:CT},CT.mems K a i l->l[j]?=some t->(∃ ad B o,a=some ad/\ad.add ((i+j)*12)=⟨B,o,none⟩/\∀ W,K W->∀ (k:Nat) (v:Value),t.cells[k]?=some v->W.cell? ⟨B,o+k,none⟩=some v)/\t.mem K
 | [],i,j,t,_,h=>by simp at h
 | x::l,i,0,t,hm,h=>by
  simp at h; subst h;rw [CT.mems] at hm;exact⟨hm.1,hm.2.1⟩
 | x::l,i,j+1,t,hm,h=>by
  rw [CT.mems] at hm;have:=CT.Uk (j:=j) hm.2.2 (by simpa using h);rw [show i+(j+1)=i+1+j by omega];exact this
theorem CT.KN:∀ {l:List CT} {j:Nat} {t:CT},l[j]?=some t->CT.alls (l.take (j+1))=CT.alls (l.take j)++t.all
 | [],j,t,h=>by simp at h
 | x::l,0,t,h=>by simp at h; subst h; simp [CT.alls]
 | x::l,j+1,t,h=>by
  simp only [List.take_succ_cons,CT.alls];rw [CT.KN (l:=l) (j:=j) (by simpa using h),List.append_assoc]
theorem CT.Uc(l:List CT)(j:Nat):CT.alls (l.take j) <+: CT.alls l:=by
 induction l generalizing j with
 | nil=>simp [CT.alls]
 | cons t l ih=>
  cases j with
  | zero=>simp [CT.alls]
  | succ j=>
   simp only [List.take_succ_cons,CT.alls];obtain⟨r,hr⟩:=ih j;exact⟨r,by rw [<- hr,List.append_assoc]⟩
set_option maxRecDepth 100000 in
set_option maxHeartbeats 4000000 in
theorem Tryz.zkk(F:Fence)(hd:F.depth=none)(h6:F.fn 133)(hro:F.round=none)(l n₀:Nat)(ALL:List CT)(K:World->Prop)(Kp:World->World->Prop)(J Jx:List CT->World->Prop)(hJ:∀ pre W W',J pre W->W.grownBy W' none->J pre W')
  (hKt:∀ A B C,Kp A B->Kp B C->Kp A C) (hKg:∀ W W',W.grownBy W' none->Kp W W') (hKc:∀ A B b cs el,Kp A B->n₀<=b->A.heap[b]?=some (.cells cs el (0,0))->B.heap[b]?=some (.cells cs el (0,0))) (hKK:∀ A B,K A->Kp A B->K B) (hKn:∀ W,K W->n₀<=W.heap.size)
  (hY:∀ m pre t W,J pre W->K W->pre++[t] <+: ALL->YieldAt F m Tryz.prog l #[t.val] W λe W'=>
   (e = .returned (.bool true)/\J (pre++[t]) W'/\Kp W W')\/(e = .returned (.bool false)/\Jx (pre++[t]) W')) :
  ∀ (m:Nat) (t:CT) (n:Nat) (pre:List CT) (W:World),t.QU<=m->t.mem K->K W->J pre W->pre++t.all <+: ALL ->
   CallsIn F n Tryz.prog 133 #[t.val,.func (.yield l) #[] #[]] W λe W'=>
    (e = .returned (.bool true)/\J (pre++t.all) W'/\Kp W W')\/(e = .returned (.bool false)/\∃ q,q <+: t.all/\Jx (pre++q) W'):=by
 intro m
 induction m with
 | zero=>intro t n pre W hh; cases t; rw [CT.QU] at hh; omega
 | succ m ih=>
  intro t n pre W hh hm hK hJ0 hN;obtain⟨u0,u1,u2,u3,u4,u5,u6,u7,up,ul,uc,u9,uq,um,ud,a,cap,kids⟩:=t;rw [CT.mem] at hm;obtain⟨hkl,hks⟩:=hm;rw [CT.QU] at hh;have hdd:∀ k:Nat,(F.depth.isSome=true->1<=k):=λk h=>by rw [hd] at h; cases h
  have hall:(CT.mk u0 u1 u2 u3 u4 u5 u6 u7 up ul uc u9 uq um ud a cap kids).all = .mk u0 u1 u2 u3 u4 u5 u6 u7 up ul uc u9 uq um ud a cap kids::CT.alls kids:=by rw [CT.all]
  rw [hall] at hN ⊢;obtain⟨rest,hrest⟩:=hN;have hB0:(W.alloc (.cells #[.int .u8 u0,.string u1,.string u2,.string u3,.int .u8 u4,.string u5,.string u6,.i u7,.slice up ul uc,.i u9,.slice uq um ud,.slice a kids.length cap] 39)).heap[W.heap.size]?=some (.cells #[.int .u8 u0,.string u1,.string u2,.string u3,.int .u8 u4,.string u5,.string u6,.i u7,.slice up ul uc,.i u9,.slice uq um ud,.slice a kids.length cap] 39 (0,0)):=World.alloc_heap_new W _
  have hY1:YieldAt F (n - 1) Tryz.prog l #[.agg #[.int .u8 u0,.string u1,.string u2,.string u3,.int .u8 u4,.string u5,.string u6,.i u7,.slice up ul uc,.i u9,.slice uq um ud,.slice a kids.length cap]] (W.alloc (.cells #[.int .u8 u0,.string u1,.string u2,.string u3,.int .u8 u4,.string u5,.string u6,.i u7,.slice up ul uc,.i u9,.slice uq um ud,.slice a kids.length cap] 39)) λe W'=>
    (e = .returned (.bool true)/\J (pre++[.mk u0 u1 u2 u3 u4 u5 u6 u7 up ul uc u9 uq um ud a cap kids]) W'/\Kp W W'/\W'.cell? ⟨W.heap.size,11,none⟩=some (.slice a kids.length cap))\/(e = .returned (.bool false)/\Jx (pre++[.mk u0 u1 u2 u3 u4 u5 u6 u7 up ul uc u9 uq um ud a cap kids]) W'):=by
   have hg:=hKg _ _ (World.grownBy_alloc W (.cells #[.int .u8 u0,.string u1,.string u2,.string u3,.int .u8 u4,.string u5,.string u6,.i u7,.slice up ul uc,.i u9,.slice uq um ud,.slice a kids.length cap] 39) none);have h0:=hY (n - 1) pre (.mk u0 u1 u2 u3 u4 u5 u6 u7 up ul uc u9 uq um ud a cap kids) _ (hJ _ _ _ hJ0 (World.grownBy_alloc W _ none)) (hKK _ _ hK hg) ⟨CT.alls kids++rest,by rw [<- hrest]; simp⟩;simp only [CT.val] at h0;refine YieldAt.mono h0 ?_;rintro e W2 (⟨he,hj,hk⟩ | h)
   ·refine .inl ⟨he,hj,hKt _ _ _ hg hk,?_⟩;have:=hKc _ _ _ _ _ hk (hKn W hK) hB0;simp [World.cell?,this]
   ·exact .inr h
  generalize hroot:CT.mk u0 u1 u2 u3 u4 u5 u6 u7 up ul uc u9 uq um ud a cap kids=root at hY1 hall hrest ⊢;have hv:root.val = .agg #[.int .u8 u0,.string u1,.string u2,.string u3,.int .u8 u4,.string u5,.string u6,.i u7,.slice up ul uc,.i u9,.slice uq um ud,.slice a kids.length cap]:=by rw [<- hroot]; rfl
  rw [hv];refine callsIn_of_wp Tryz.func133 rfl h6 ?_ hro;simp only [Tryz.ntmps133,List.size_toArray,aL,List.length_nil,Nat.reduceAdd,Nat.reduceSub,Array.replicate_succ,Array.replicate_zero,List.push_toArray,List.append_toArray,List.nil_append,List.cons_append];obtain⟨fn,tmps,assign,body,hy,hR⟩:=hY1
  gi_wp2
  refine hR.mono ?_;clear hR;rintro e W1 (⟨rfl,hJ1,hK1,hc1⟩ | ⟨rfl,hx1⟩)
  ·gi_wp2
   gi_loopw [14] (λe wr=>∃ i:Nat,e = .i i/\i<=kids.length/\J (pre++root::CT.alls (kids.take i)) wr/\Kp W wr)
    (λe wr=>kids.length - (intOf e).toNat)
   case atStart=>exact⟨0,rfl,aI _,by simpa [CT.alls] using hJ1,hK1⟩
   case round=>
    obtain⟨i,rfl,hi,hJi,hKi⟩:=hrel;by_cases hlt:i<kids.length
    ·obtain⟨⟨ad,B1,o1,hae,hq,hload⟩,hmk⟩:=CT.Uk (j:=i) hks (aF hlt);have htk:=CT.KN (j:=i) (aF hlt);have hhk:=CT.Jk (j:=i) (aF hlt);generalize kids[i]=kid at hload hmk htk hhk;obtain⟨v0,v1,v2,v3,v4,v5,v6,v7,vp,vl,vc,v9,vq,vm,vd,b,bap,bkids⟩:=kid;have hld:=hload wr (hKK _ _ hK hKi);have c0:=hld 0 (.int .u8 v0) rfl;have c1:=hld 1 (.string v1) rfl;have c2:=hld 2 (.string v2) rfl;have c3:=hld 3 (.string v3) rfl;have c4:=hld 4 (.int .u8 v4) rfl;have c5:=hld 5 (.string v5) rfl;have c6:=hld 6 (.string v6) rfl;have c7:=hld 7 (.i v7) rfl;have c8:=hld 8 (.slice vp vl vc) rfl;have c9:=hld 9 (.i v9) rfl;have c10:=hld 10 (.slice vq vm vd) rfl;have c11:=hld 11 (.slice b bkids.length bap) rfl;simp only [Nat.zero_add,Nat.add_zero] at hq c0;clear hld hload;subst hae
     have hpre:(pre++root::CT.alls (kids.take i))++(CT.mk v0 v1 v2 v3 v4 v5 v6 v7 vp vl vc v9 vq vm vd b bap bkids).all <+: ALL:=by
      obtain⟨r,hr⟩:=CT.Uc kids (i+1);rw [htk] at hr;exact⟨r++rest,by rw [<- hrest,<- hr]; simp⟩
     have hgr:=World.grownBy_alloc wr (.cells #[.int .u8 v0,.string v1,.string v2,.string v3,.int .u8 v4,.string v5,.string v6,.i v7,.slice vp vl vc,.i v9,.slice vq vm vd,.slice b bkids.length bap] 39) none;have hrec:=ih (.mk v0 v1 v2 v3 v4 v5 v6 v7 vp vl vc v9 vq vm vd b bap bkids) (n - 1) _ _ (by omega) hmk (hKK _ _ hK (hKt _ _ _ hKi (hKg _ _ hgr))) (hJ _ _ _ hJi hgr) hpre;rw [List.append_assoc,List.cons_append,<- htk] at hrec;simp only [CT.val] at hrec;have HTK:=Lib.hid htk;have HRE:=Lib.hid hrest;clear htk hrest ih hY hpre hroot hv hall hmk
     gi_wp2
     refine hrec.mono ?_;clear hrec;rintro e W3 (⟨rfl,hJ3,hK3⟩ | ⟨rfl,q,hq3,hx3⟩)
     ·gi_wp2
      go_roundw
      case rel=>exact⟨i+1,by simp,hlt,hJ3,hKt _ _ _ (hKt _ _ _ hKi (hKg _ _ hgr)) hK3⟩
      case measure=>simp [intOf]; omega
     ·gi_wp2
      go_ret
      refine .inr ⟨rfl,root::(CT.alls (kids.take i)++q),?_,by simpa [List.append_assoc] using hx3⟩;obtain⟨r1,hr1⟩:=hq3;obtain⟨r2,hr2⟩:=CT.Uc kids (i+1);exact⟨r1++r2,by rw [<- hr2,HTK.out,<- hr1]; simp⟩
    ·have hge:i=kids.length:=by omega
     subst hge;rw [bD] at hJi
     gi_wp2
     go_ret
     exact .inl ⟨rfl,hJi,hKi⟩
  ·gi_wp2
   go_ret
   exact .inr ⟨rfl,[root],⟨CT.alls kids,by simp⟩,hx1⟩
set_option maxRecDepth 100000 in
set_option maxHeartbeats 4000000 in
theorem Tryz.zgz(F:Fence)(hd:F.depth=none)(h5:F.fn 132)(h6:F.fn 133)(hro:F.round=none)(l n₀ n Bt:Nat)(t:CT)(K:World->Prop)(Kp:World->World->Prop)(J Jx:List CT->World->Prop)(hJ:∀ pre W W',J pre W->W.grownBy W' none->J pre W')
  (hKt:∀ A B C,Kp A B->Kp B C->Kp A C) (hKg:∀ W W',W.grownBy W' none->Kp W W') (hKc:∀ A B b cs el,Kp A B->n₀<=b->A.heap[b]?=some (.cells cs el (0,0))->B.heap[b]?=some (.cells cs el (0,0))) (hKK:∀ A B,K A->Kp A B->K B) (hKn:∀ W,K W->n₀<=W.heap.size)
  (hY:∀ m pre t' W,J pre W->K W->pre++[t'] <+: t.all->YieldAt F m Tryz.prog l #[t'.val] W λe W'=>
   (e = .returned (.bool true)/\J (pre++[t']) W'/\Kp W W')\/(e = .returned (.bool false)/\Jx (pre++[t']) W')) (W:World) (hm:t.mem K) (hK:K W) (h0:J [] W)
  (hc:∀ k v,t.cells[k]?=some v->W.cell? ⟨Bt,k,none⟩=some v) :
  CallsIn F n Tryz.prog 132 #[.func (.yield l) #[] #[],.pointer (some ⟨Bt,0,none⟩)] W λe W'=>(∃ v,e = .returned v)/\(J t.all W'\/∃ q,q <+: t.all/\Jx q W'):=by
 have hv:=Tryz.zkk F hd h6 hro l n₀ t.all K Kp J Jx hJ hKt hKg hKc hKK hKn hY t.QU t (n - 1) [] W (aJ _) hm hK h0 (by simp);obtain⟨u0,u1,u2,u3,u4,u5,u6,u7,up,ul,uc,u9,uq,um,ud,a,cap,kids⟩:=t;have c0:=hc 0 _ rfl;have c1:=hc 1 _ rfl;have c2:=hc 2 _ rfl;have c3:=hc 3 _ rfl;have c4:=hc 4 _ rfl;have c5:=hc 5 _ rfl;have c6:=hc 6 _ rfl;have c7:=hc 7 _ rfl;have c8:=hc 8 _ rfl;have c9:=hc 9 _ rfl;have c10:=hc 10 _ rfl;have c11:=hc 11 _ rfl;clear hc hm hY;have hdd:∀ k:Nat,(F.depth.isSome=true->1<=k):=λk h=>by rw [hd] at h; cases h
 generalize hall:(CT.mk u0 u1 u2 u3 u4 u5 u6 u7 up ul uc u9 uq um ud a cap kids).all=ALL at hv ⊢;clear hall;simp only [CT.val,List.nil_append] at hv;refine callsIn_of_wp Tryz.func132 rfl h5 ?_ hro;simp only [Tryz.ntmps132,List.size_toArray,aL,List.length_nil,Nat.reduceAdd,Nat.reduceSub,Array.replicate_succ,Array.replicate_zero,List.push_toArray,List.append_toArray,List.nil_append,List.cons_append]
 gi_wp2
 refine hv.mono ?_;clear hv;rintro e W1 (⟨rfl,hJ1,_⟩ | ⟨rfl,q,hq,hx⟩)
 ·gi_wp2
  go_end0
  exact⟨⟨_,rfl⟩,.inl hJ1⟩
 ·gi_wp2
  go_end0
  exact⟨⟨_,rfl⟩,.inr ⟨q,hq,hx⟩⟩
end Go.Proofs
end
section
namespace Go.Sx
variable [Stat]
open Go.RowKit (Below)
def Xy(c:Code)(tg tp td t:Nat):Bool:=match c with
 | .rangeFunc (.tmp g) ps (.region _ ops false) _=>decide (g=tg)&&decide (ps.toList=[tp])&&match ops.toList with
  | [o1,o2]=>(decide (o1.dst=some td)&&o1.guard.isNone&&decide (o2.dst=none)&&o2.guard.isNone)&&(match o1.op with
   | .alloc u=>decide (u=t)
   | _=>false)&&(match o2.op with
   | .store u (.tmp p) (.tmp q)=>decide (u=t)&&decide (p=td)&&decide (q=tp)
   | _=>false)
  | _=>false
 | _=>false
theorem YJ{c:Code}{tg tp td t:Nat}(h:Xy c tg tp td t=true):∃ id o1 o2,c = .rangeFunc (.tmp tg) #[tp] (.region id #[o1,o2] false) (ym c)/\(o1.dst=some td/\o1.guard=none/\o1.op = .alloc t)/\o2.dst=none/\o2.guard=none/\o2.op = .store t (.tmp td) (.tmp tp):=by
 unfold Xy at h;split at h
 ·rename_i g ps id ops body;simp only [bA,aK] at h;obtain⟨⟨rfl,h2⟩,h3⟩:=h;split at h3
  ·rename_i o1 o2 ho;simp only [bA,aK,Option.isNone_iff_eq_none] at h3;obtain⟨⟨⟨⟨⟨h4,h5⟩,h6⟩,h7⟩,h8⟩,h9⟩:=h3;split at h8
   ·rename_i u hu;simp only [aK] at h8;subst h8;split at h9
    ·rename_i v p q hv;simp only [bA,aK] at h9;obtain⟨⟨rfl,rfl⟩,rfl⟩:=h9;refine⟨id,o1,o2,?_,⟨h4,h5,hu⟩,h6,h7,hv⟩;have e1:ps = #[q]:=by rw [<- Array.toList_inj]; exact h2
     have e2:ops = #[o1,o2]:=by rw [<- Array.toList_inj]; exact ho
     rw [e1,e2]; rfl
    ·cases h9
   ·cases h8
  ·cases h3
 ·cases h
def j0(own:Nat->Prop)(w W:World):Prop:=w.heap.size<=W.heap.size/\∀ b cs el fr,¬ own b->w.heap[b]?=some (.cells cs el fr)->W.heap[b]?=some (.cells cs el fr)
theorem j0.cell{own:Nat->Prop}{w W:World}(h:j0 own w W){b o:Nat}{v:Value}(hb:¬ own b)(hc:w.cell? ⟨b,o,none⟩=some v):W.cell? ⟨b,o,none⟩=some v:=by
 unfold World.cell? at hc ⊢;cases ho:w.heap[b]? with
 | none=>simp [ho] at hc
 | some ob=>
  simp only [ho] at hc;cases ob with
  | cells cs el fr=>simp only [h.2 b cs el fr hb ho]; exact hc
  | _=>simp at hc
theorem j0.trans{own:Nat->Prop}{A B C:World}(h:j0 own A B)(k:j0 own B C):j0 own A C:=⟨bP h.1 k.1,λb cs el fr hb hc=>k.2 b cs el fr hb (h.2 b cs el fr hb hc)⟩
theorem j0.grown{own:Nat->Prop}{A B:World}{row:Option Nat}(hg:A.grownBy B row)(hr:∀ r,row=some r->∃ o:Obj,A.heap[r]?=some o/\o.isCells=false):j0 own A B:=by
 refine⟨hg.size,λb cs el fr _ hc=> ?_⟩
 rw [hg.block b (aQ.1 hc).1 λe=>by
  obtain⟨o,h1,h2⟩:=hr b e.symm;rw [hc] at h1; cases h1; simp [Obj.isCells] at h2]
 exact hc
theorem j0.ext{own own':Nat->Prop}{A B:World}(h:Ext own A own' B):j0 own A B:=⟨h.size,λb cs el fr hb hc=>by rw [h.keep b (aQ.1 hc).1 hb]; exact hc⟩
def YN:AV->Bool
 | .bool _=>true
 | .int _ _=>true
 | .str _=>true
 | .nils=>true
 | .sl _ _ _=>true
 | .nilp=>true
 | .nilf=>true
 | _=>false
theorem zai{own:Nat->Prop}{w:World}{σ:List SE}{a:AV}{v:Value}(h:YN a=true)(hr:Rep own w a σ v):Rep own w a [] v:=by
 cases a<;>first | (simp [YN] at h; done) | (simp only [Rep] at hr ⊢; exact hr)
section
variable {O:Nat->Prop} {pin:Nat} {w0:World} {I0:List SE} {w:World} {σ:List SE} {P:Program} {a:Act} {fn:Func} {Γ:Nat->Option Ctr}
theorem zc0{n:Nat}{h:Heap}(t:Nat):(mk n [] h).tmps.getD t .undef = .undef:=by
 simp only [mk,pk,List.getD,aN];cases (List.range n)[t]?<;>simp [look]
theorem zig{pinR:Nat}{W1 W':World}{E1 τ:List SE}{st:St}{a':Act}{n:Nat}(hM:Mod O pinR W1 E1 W' τ st a'):Mod O pinR W1 E1 W' τ (mk n [] st.heap) { tmps:=Array.replicate n undef,defers:=[] } :=by
 refine⟨hM.good,hM.hp,by simp [mk,pk],λt=> ?_,Marks.nil _ _ _,hM.since,hM.lim⟩;rw [zc0]; simp [TRep,Rep]
theorem zkw{pinR:Nat}{kv:KV}{H1 H2:Heap}{W W':World}{E1 τ:List SE}(hM:Mod O pin w0 I0 W E1 (mk fn.ntmps kv H1) a)(hlow:(pk fn.ntmps kv).all (lowB pinR)=true)(hpin:pin<=pinR)(h2:Mod O pinR W E1 W' τ (mk fn.ntmps [] H2) { tmps:=Array.replicate fn.ntmps undef,defers:=[] }) :
  Mod O pin w0 I0 W' τ (mk fn.ntmps kv H2) a:=by
 have hx:=h2.since.ext;refine⟨h2.good,h2.hp,hM.size,λt=> ?_,hM.df.ext hx,hM.since.trans ⟨hx,h2.since.wi,h2.since.hold.le hpin⟩,hM.lim⟩;have ht:=hM.tm t;by_cases htn:t<fn.ntmps
 ·simp only [mk] at ht ⊢;rw [jC htn] at ht ⊢;have hl:lowB pinR (look kv t)=true:=bG.1 hlow (look kv t) (by simp only [pk,List.mem_map,List.mem_range]; exact⟨t,htn,rfl⟩);generalize look kv t=y at ht hl;cases y with
  | opt u b z=>exact absurd rfl (kr hl u b z)
  | _=>simp only [TRep] at ht ⊢; exact zU hx h2.since.hold.hold _ _ (Ql hl) ht
 ·have:(mk fn.ntmps kv H2).tmps.getD t .undef = .undef:=by simp [mk,pk,List.getD,htn]
  rw [this]; simp [TRep,Rep]
theorem VK{st:St}{W W':World}{τ:List SE}(hm:Mod O pin w0 I0 W τ st a){row:Option Nat}(hg:W.grownBy W' row)(hr:∀ r,row=some r->w0.heap.size<=r/\∃ o:Obj,W.heap[r]?=some o/\o.isCells=false):wj W W':=
 ZD hg λr h=>⟨λg hg=>by
  obtain⟨h1,h2⟩:=hg;obtain⟨a,ha⟩:=Option.isSome_iff_exists.1 h1;obtain⟨h3,c,h4,_,h5⟩:=hm.lim.at_ g a ha;have h6:=hm.since.ext.cell (a:=⟨g,0,none⟩) h3 h4;rw [h2] at h6;have:=h5 r (by cases h6; rfl);have:=(hr r h).1;omega,(hr r h).2⟩
theorem zls{H1:Heap}{kv:KV}{pinR:Nat}{W W':World}{E1 τ:List SE}{st:St}{a':Act}(B:Nat)(hM:Mod O pin w0 I0 W E1 (mk fn.ntmps kv H1) a)(hal:∀ b∈H1,alive b)(h2:Mod O pinR W E1 W' τ st a'):KeepsFrom B W W':=by
 have hx:=h2.since.ext;refine⟨hx.size,λb o hb ho hoc=> ?_⟩;have hlt:=(aQ.1 ho).1;rw [<- ho];by_cases hO:O b
 ·exact h2.since.wi b hO hlt
 ·refine hx.keep b hlt ?_;rintro(h3 | h3)
  ·exact hO h3
  ·obtain⟨cs,el,fr,hcs⟩:=xK hM.hp hal h3;rw [ho] at hcs; cases hcs; simp [Obj.isCells] at hoc
theorem zhg{pinR:Nat}{W W':World}{E1 τ:List SE}(hl:E1.length=pinR)(hh:vQ pinR W E1 W' τ):τ.take pinR=E1:=by
 apply List.ext_getElem?;intro i;rw [bR];by_cases hi:i<pinR
 ·rw [aP hi];have he:E1[i]?=some (E1[i]'(by omega)):=aF _;rw [he];exact(hh i _ hi he).1
 ·rw [aO hi,aZ (by omega)]
theorem zcv{w:World}{b:Nat}{cs vs:Array Value}{el:TypeId}(h:w.heap[b]?=some (.cells cs el (0,0))):(w.setRow b vs).heap[b]?=some (.cells vs el (0,0)):=setRow_heap w _ _ _ _ _ h
theorem zp5{M:Option Nat}{td tp t id n:Nat}{o1 o2:Oper}{zs:List AV}(h1:o1.dst=some td/\o1.guard=none/\o1.op = .alloc t)(h2:o2.dst=none/\o2.guard=none/\o2.op = .store t (.tmp td) (.tmp tp))(hz:zeroCells P t=some zs)(hn:qf P t=some n)(hzl:zs.length=n)(hne:td≠tp)(htd:td<a.tmps.size)
  (hvl:(a.tmps.getD tp undef).cells.size=n) (hone:∀ u∈(a.tmps.getD tp undef).cells.toList,u.oneCell'=true) {K:Act->World->Prop} {Qe:Exit->Act->World->Prop}
  (h:∀ W',W'.heap[w.heap.size]?=some (.cells (a.tmps.getD tp undef).cells t (0,0))->w.grownBy W' none->K { a with tmps:=a.tmps.setIfInBounds td (.pointer (some ⟨w.heap.size,0,none⟩)) } W') :
  (Code.region id #[o1,o2] false).wpIn (FM M) 0 P (Exit.then K Qe) a w:=by
 obtain⟨y,hy⟩:∃ y,a.tmps.getD tp undef=y:=⟨_,rfl⟩;rw [hy] at hvl hone h;refine wpIn_region_list ?_;simp only [Array.toList];refine wpListIn_step λK' hK'=> ?_
 rw [aP (by simp [Region.wanted,h1.2.1])];refine jS (by simp [h1.2.2]) ?_;unfold Oper.wp;obtain⟨v,hv,hr⟩:=wS (P:=P) (own:=λ_=>False) (w:=w) (σ:=[]) hz;have hvn:v.cells.size=n:=by have:=hr.length; simp at this; omega
 have hrun:(execOp a.eval o1).run P w = .ok (.value (.pointer (some ⟨w.heap.size,0,none⟩))) (w.alloc (.cells v.cells t)):=by
  simp only [execOp,h1.2.2,Instr.alloc,Sem.run_bind,hv,Result.andThen_ok];simp [newVar,newRow]
 rw [hrun];have e:a.put o1.dst (.pointer (some ⟨w.heap.size,0,none⟩))={ a with tmps:=a.tmps.setIfInBounds td (.pointer (some ⟨w.heap.size,0,none⟩)) } :=by rw [h1.1]; rfl
 show K' (a.put o1.dst (.pointer (some ⟨w.heap.size,0,none⟩))) (w.alloc (.cells v.cells t));rw [e];refine hK' _ _ ?_;refine wpListIn_step λK'' hK''=> ?_
 rw [aP (by simp [Region.wanted,h2.2.1])];refine jS (by simp [h2.2.2]) ?_;unfold Oper.wp;have hB:(w.alloc (.cells v.cells t)).heap[w.heap.size]?=some (.cells v.cells t (0,0)):=heap_alloc_new w _;have hst:=run_storeCells_at P w.heap.size 0 t y.cells.toList 0 v.cells (w.alloc (.cells v.cells t)) hB (by simp; omega) hone;have g1:(a.tmps.setIfInBounds td (.pointer (some ⟨w.heap.size,0,none⟩))).getD td undef = .pointer (some ⟨w.heap.size,0,none⟩):=by simp [htd]
 have g2:(a.tmps.setIfInBounds td (.pointer (some ⟨w.heap.size,0,none⟩))).getD tp undef=y:=by
  rw [<- hy];simp only [bQ];rw [Array.getElem?_setIfInBounds_ne hne]
 have hrun2:(execOp ({ a with tmps:=a.tmps.setIfInBounds td (.pointer (some ⟨w.heap.size,0,none⟩)) } : Act).eval o2).run P (w.alloc (.cells v.cells t)) = .ok .skip ((w.alloc (.cells v.cells t)).setRow w.heap.size y.cells):=by
  have hs:(Instr.storeAt t (.pointer (some ⟨w.heap.size,0,none⟩)) y).run P (w.alloc (.cells v.cells t)) = .ok () ((w.alloc (.cells v.cells t)).setRow w.heap.size y.cells):=by
   simp only [Instr.storeAt,Instr.sureAddr,Sem.run_bind,Sem.run_pure,Result.andThen_ok,storeVar,zB hn];rw [aO (by omega)];rw [hst];congr 2;have hd:List.drop n v.cells.toList=[]:=List.drop_eq_nil_of_le (by simp [hvn]);simp [hvl,hd]
  simp only [execOp,h2.2.2,Act.eval,g1,g2,Sem.run_bind,hs,Result.andThen_ok,Sem.run_pure]
 rw [hrun2];refine hK'' _ _ ?_;have e2:({ a with tmps:=a.tmps.setIfInBounds td (.pointer (some ⟨w.heap.size,0,none⟩)) } : Act).put o2.dst undef={ a with tmps:=a.tmps.setIfInBounds td (.pointer (some ⟨w.heap.size,0,none⟩)) } :=by rw [h2.1]; rfl
 rw [e2];refine h _ (zcv hB) ?_;refine⟨rfl,rfl,rfl,by rw [setRow_size]; simp,λk hk _=> ?_⟩;rw [setRow_other _ _ _ _ (by omega)];exact Below.heap_alloc w _ k hk
theorem zc.zlw{α:Type}{Hs:Nat->KV->Heap->Prop}{R:List AV->Heap->Prop}{k:List Item}{c:Code}{kv:KV}{h:Heap}{tg tp td t n gf:Nat}{cap:List AV}{zs:List AV}(hc:Xy c tg tp td t=true)(hz:zeroCells P t=some zs)(hn:qf P t=some n)(hzl:zs.length=n)
  (he:∀ args w,(callFunc gf args).run P w = .ok (.enter gf args) w) (av:α->AV) (cs:α->List AV) (hcs:∀ x,cellsOf (av x)=some (cs x)/\(cs x).length=n/\(cs x).all oneA=true/\(cs x).all YN=true) (H Hx:List α->Heap) (X S Sp:List α->Prop) (N pinR:Nat)
  (hg:look kv tg = .fn gf [] cap) (htg:tg<fn.ntmps) (htp:tp<fn.ntmps) (htd:td<fn.ntmps) (hne:td≠tp) (hle:LeK pin fn.ntmps kv h kv (H [])) (hlow:(pk fn.ntmps kv).all (lowB pinR)=true) (hpin:pin<=pinR) (hlen:∀ pre,(H pre).length=pinR)
  (halive:∀ pre,∀ b∈H pre,alive b) (halivex:∀ pre,∀ b∈Hx pre,alive b)
  (iter:∀ w σ a,Mod O pin w0 I0 w σ (mk fn.ntmps kv (H [])) a->∀ vb,RepL (Own O σ) w cap σ vb->∃ ev:α->Value,SeqStopsK Fence.wide 0 P gf vb.toArray (λx=> #[ev x]) (j0 (Own O σ)) S Sp N w/\∀ x,Rep (Own O σ) w (av x) [] (ev x))
  (round:∀ l pre x,pre.length<N->∀ (W:World) (E1:List SE),j4 (some l) P (bare fn) O pinR W E1 (λd kv' h'=>LeK pinR fn.ntmps [] h' [] (H (pre++[x]))) (λ_ h'=>X (pre++[x])/\LeK pinR fn.ntmps [] h' [] (Hx (pre++[x]))) [.code (ym c),.inLoop] (mk fn.ntmps ((td,.iptr n λo=>(cs x).getD o .undef)::(tp,av x)::kv) (H pre)))
  (done:∀ xs,S xs->zc P fn O pin w0 I0 Hs R k (mk fn.ntmps kv (H xs)))
  (stop:∀ pre,Sp pre->X pre->(resX P (mk fn.ntmps kv (Hx pre)) fn.results.toList).holds λrs=>R rs (Hx pre)) :
  zc P fn O pin w0 I0 Hs R (.code c::k) (mk fn.ntmps kv h):=by
 obtain⟨id,o1,o2,hco,ho1,ho2⟩:=YJ hc;generalize ym c=body at *
 subst hco;clear hc;intro w σ a hm0;have hm:=hle.le.mod hm0;clear hm0;generalize σ.take (mk fn.ntmps kv (H [])).heap.length=σ at hm;have hZl:σ.length=pinR:=by rw [hm.hp.len]; exact hlen []
 simp only [wpK];have hgt:=hm.tm tg;have hev:(mk fn.ntmps kv (H [])).tmps.getD tg .undef = .fn gf [] cap:=by simp only [mk]; rw [jC htg]; exact hg
 rw [hev] at hgt;simp only [TRep,Rep] at hgt;obtain⟨va,vb,hval,hva,hvb⟩:=hgt;have hva:va=[]:=by simpa [RepL] using hva
 subst hva;obtain⟨ev,hseq,hev0⟩:=iter w σ a hm vb hvb;have hkeep:∀ W,Ext (Own O σ) w (Own O σ) W->∀ x,Rep (Own O σ) W (av x) σ (ev x):=λW hx x=>zU (K:=[]) (E1:=[]) hx (λi e h=>by simp at h) _ _ (qW _) (hev0 x)
 have extG:∀ {W W':World} {row:Option Nat},W.grownBy W' row->(∀ r,row=some r->w.heap.size<=r/\∃ o:Obj,W.heap[r]?=some o/\o.isCells=false)->Ext (Own O σ) w (Own O σ) W->Ext (Own O σ) w (Own O σ) W':=λhg hr hx=>
  ⟨hg.os.trans hx.os,hg.tape.trans hx.tape,hg.output.trans hx.output,bP hx.size hg.size,λb hb hn=>by
   rw [hg.block b (bB hb hx.size) λe=>by have:=(hr b e.symm).1; omega];exact hx.keep b hb hn,λb hb=>.inl hb⟩
 have hB:∀ d∈a.defers,∃ D,d={ target:=.collected D,args:= #[] } /\ D<w.heap.size:=by
  intro d hd;obtain⟨D,h1,_,_,h4⟩:=hm.df.2 d hd;exact⟨D,h1,(aQ.1 h4).1⟩
 have hOB:∀ b,O b->b<w.heap.size:=hm.good.old;have hsz:a.tmps.size=fn.ntmps:=by rw [hm.size]; simp [mk,pk]
 have turnM:∀ {Hh:Heap} {τ:List SE} {W W':World} {row:Option Nat},(∀ b∈Hh,alive b)->W.grownBy W' row->(∀ r,row=some r->w.heap.size<=r/\∃ o:Obj,W.heap[r]?=some o/\o.isCells=false)->Mod O pin w0 I0 W τ (mk fn.ntmps kv Hh) a->Mod O pin w0 I0 W' τ (mk fn.ntmps kv Hh) a:=by
  intro Hh τ W W' row hal hgr hr hM
  have:=hM.turn hgr (ds:=a.defers) (λr e=>⟨bP hm.since.ext.size (hr r e).1,(hr r e).2⟩) (.inl (Ja hal)) (hM.df.turn hgr λr e hmem=>by
   obtain⟨D,h1,h2⟩:=hB _ hmem;have:=(hr r e).1;simp only [Deferred.mk.injEq,Target.collected.injEq,and_true] at h1;omega)
  exact this
 have push:∀ (D:Nat) (Hh:Heap) (W:World) (Z':List SE),(∀ b∈Hh,alive b)->w.heap.size<=D->W.heap[D]?=some (.deferred (some []))->Mod O pin w0 I0 W Z' (mk fn.ntmps kv Hh) a->Mod O pin w0 I0 W Z' (mk fn.ntmps kv Hh) { a with defers:={ target:=.collected D,args:= #[] } :: a.defers } :=by
  intro D Hh W Z' hal hD hWD hM;refine⟨hM.good,hM.hp,hM.size,hM.tm,⟨List.nodup_cons.2 ⟨λhmem=> ?_,hM.df.1⟩,λd hd=> ?_⟩,hM.since,hM.lim⟩
  ·obtain⟨D',h1,h2⟩:=hB _ hmem;simp only [Deferred.mk.injEq,Target.collected.injEq,and_true] at h1;omega
  ·rcases aM.1 hd with rfl | hd
   ·refine⟨D,rfl,bP hm.since.ext.size hD,?_,hWD⟩;rintro(hO | hM')
    ·have:=hOB D hO; omega
    ·obtain⟨cs,el,fr,hcs⟩:=xK hM.hp hal hM';rw [hWD] at hcs; cases hcs
   ·exact hM.df.2 d hd
 let act:α->Nat->Act:=λx B=>{ tmps:=(a.tmps.setIfInBounds tp (ev x)).setIfInBounds td (.pointer (some ⟨B,0,none⟩)),defers:=[] }
 refine WS 1 0 ?_
 refine wpIn_rangeFunc_ownH (F:=Fence.wide) rfl (aJ 1) (gf:=gf) (lb:=vb.toArray) (by simp only [Act.eval]; exact hval) trivial he (encs:=λx=> #[ev x]) (Kp:=j0 (Own O σ)) (S:=S) (Sp:=Sp) (N:=N) (w0:=w) hseq
  (λh1 h2=>h1.trans h2) (λW l o o' h1 h2 h3 _=>j0.grown (grownBy_putObj' W l o') λr e=>by cases e; exact⟨o,h2,h3⟩) (Below.refl _ _) (λ_=>rfl)
  (λpre W=>Ext (Own O σ) w (Own O σ) W/\Mod O pin w0 I0 W σ (mk fn.ntmps kv (H pre)) a) (λc pre W=>c = .ret/\X pre/\∃ Z',Mod O pin w0 I0 W Z' (mk fn.ntmps kv (Hx pre)) a)
  (λpre W W' row hI hgr hr=>⟨extG hgr hr hI.1,turnM (halive pre) hgr hr hI.2⟩) (λc pre W W' row hI hgr hr=>⟨hI.1,hI.2.1,hI.2.2.imp λ_ h=>turnM (halivex pre) hgr hr h⟩) ⟨Ext.refl _ _,hm⟩
  (λx a' W=>∃ B,a'=act x B/\¬ Own O σ B/\(∃ pre,Mod O pin w0 I0 W σ (mk fn.ntmps kv (H pre)) a)/\W.heap[B]?=some (.cells (ev x).cells t (0,0)))
  ?_ ?_ ?_ ?_ ?_
 ·
  rintro x a' _ W W' row ⟨B,h1,h2,⟨pre,h0⟩,h3⟩ hgr hr;have hk:=VK h0 hgr λr e=>⟨bP hm.since.ext.size (hr r e).1,(hr r e).2⟩
  exact⟨B,h1,h2,⟨pre,turnM (halive pre) hgr hr h0⟩,hk.cells _ _ _ _ h3⟩
 ·
  rintro l pre x W K ⟨hxt,hM⟩ hK;have htpv:(a.tmps.setIfInBounds tp (ev x)).getD tp undef=ev x:=by simp [hsz,htp]
  have hx:=hkeep W hxt x;have hcl:=qg (hcs x).1 hx
  suffices hgoal:Code.wpIn (FM (some l)) 0 P (.region id #[o1,o2] false) (Exit.then K (λ_ _ _=>False)) { tmps:=a.tmps.setIfInBounds tp (ev x),defers:=[] } W by simpa [FM] using hgoal
  refine zp5 ho1 ho2 hz hn hzl hne (by simp [hsz,htd]) (by rw [htpv]; have:=hcl.length; simp at this; rw [<- (hcs x).2.1]; omega) ?_ λW' hB hgr=> ?_
  ·rw [htpv];intro u hu;obtain⟨j,hj,hju⟩:=List.mem_iff_getElem.1 hu;have hl:=hcl.length;have hj':j<(cs x).length:=by omega
   exact jU (bG.1 (hcs x).2.2.1 _ (bK hj')) ((zy.1 hcl).2 j (cs x)[j] u (aF hj') (by rw [aF hj,hju]))
  ·rw [htpv] at hB;have hI:=turnM (halive pre) hgr (λr e=>by cases e) hM;refine hK _ W' ⟨hgr.size,λk o _ ho _=> ?_⟩ (j0.grown hgr λr e=>by cases e) ⟨extG hgr (λr e=>by cases e) hxt,hI⟩ ⟨W.heap.size,rfl,?_,⟨pre,hI⟩,hB⟩
   ·rw [hgr.block k (aQ.1 ho).1 (by simp)]; exact ho
   ·rintro(hO | ⟨e,he,ad,h1,h2⟩)
    ·exact Nat.lt_irrefl _ (hM.good.old _ hO)
    ·obtain⟨j,hj⟩:=List.getElem?_of_mem he;have:=hM.hp.lt j e ad hj h1;omega
 ·
  rintro l pre x a' W hl _ ⟨hxt,hM⟩ ⟨B,rfl,hnB,⟨pre',hM'⟩,hB⟩ hpre;have hx:=hkeep W hxt x;have hcl:=qg (hcs x).1 hx;have hno:∀ u b y,av x≠.opt u b y:=λu b y e=>by have:=(hcs x).1; rw [e] at this; simp [cellsOf] at this
  have hxT:∀ T,TRep (Own O σ) W σ T (av x) (ev x):=by
   intro T;generalize av x=y at hx hno;cases y with
   | opt t b z=>exact absurd rfl (hno t b z)
   | _=>simpa only [TRep] using hx
  have hptr:Rep (Own O σ) W (.iptr n λo=>(cs x).getD o .undef) σ (.pointer (some ⟨B,0,none⟩)):=by
   simp only [Rep];refine⟨⟨B,0,none⟩,rfl,rfl,λo ho=>⟨hnB,?_⟩⟩;have hlen2:=hcl.length;have ho':o<(cs x).length:=by rw [(hcs x).2.1]; exact ho
   refine⟨(ev x).cells.toList[o]'(by omega),?_,?_⟩
   ·simp only [World.cell?,hB,Nat.zero_add];simp
   ·have:=(zy.1 hcl).2 o (cs x)[o] _ (aF ho') (aF (by omega));have hf:=bG.1 (hcs x).2.2.2 _ (bK ho');simp only [List.getD,aF ho',Option.getD_some];exact zai hf this
  have hM2:Mod O pinR W σ W σ (mk fn.ntmps ((td,.iptr n λo=>(cs x).getD o .undef)::(tp,av x)::kv) (H pre)) (act x B):=by
   refine⟨hM.good,hM.hp,by simp [act,mk,pk,hsz],λu=> ?_,Marks.nil _ _ _,Stp.refl _ _ _ _,hM.good.stat⟩;by_cases hu:u<fn.ntmps
   ·simp only [mk];rw [jC hu];by_cases h1:td=u
    ·subst h1;simp only [look,if_true];have:(act x B).tmps.getD td undef = .pointer (some ⟨B,0,none⟩):=by simp [act,hsz,hu]
     rw [this]; simpa only [TRep] using hptr
    ·have e1:(act x B).tmps.getD u undef=(a.tmps.setIfInBounds tp (ev x)).getD u undef:=by
      simp only [act,bQ];rw [Array.getElem?_setIfInBounds_ne h1]
     rw [e1];by_cases h2:tp=u
     ·subst h2;simp only [look,aO h1,if_true];have:(a.tmps.setIfInBounds tp (ev x)).getD tp undef=ev x:=by simp [hsz,hu]
      rw [this]; exact hxT _
     ·simp only [look,aO h1,aO h2]
      have e2:(a.tmps.setIfInBounds tp (ev x)).getD u undef=a.tmps.getD u undef:=by
       simp only [bQ];rw [Array.getElem?_setIfInBounds_ne h2]
      rw [e2];have:=hM.tm u;simp only [mk] at this;rw [jC hu] at this;have hl:lowB pinR (look kv u)=true:=bG.1 hlow (look kv u) (by simp only [pk,List.mem_map,List.mem_range]; exact⟨u,hu,rfl⟩);generalize look kv u=y at this hl;cases y with
      | opt u b z=>exact absurd rfl (kr hl u b z)
      | _=>simpa only [TRep] using this
   ·have:(mk fn.ntmps ((td,.iptr n λo=>(cs x).getD o .undef)::(tp,av x)::kv) (H pre)).tmps.getD u .undef = .undef:=by simp [mk,pk,List.getD,hu]
    rw [this]; simp [TRep,Rep]
  have hr:=round l pre x hpre W σ W σ _ hM2;simp only [wpK] at hr
  have fin:∀ (Hh:Heap) (st':St) (W':World) (τ:List SE) (a':Act),LeK pinR fn.ntmps [] st'.heap [] Hh->Mod O pinR W σ W' τ st' a'->KeepsFrom w.heap.size W W'/\Mod O pinR W σ W' (τ.take (mk fn.ntmps [] Hh).heap.length) (mk fn.ntmps [] Hh) { tmps:=Array.replicate fn.ntmps undef,defers:=[] } /\ Mod O pin w0 I0 W' (τ.take (mk fn.ntmps [] Hh).heap.length) (mk fn.ntmps kv Hh) a:=by
   intro Hh st' W' τ a' hL hM';have h1:=zig (n:=fn.ntmps) hM';have h2:=hL.le.mod h1;exact⟨zls _ hM (halive pre) hM',h2,zkw hM hlow hpin h2⟩
  refine wpIn_mono hr λe a' W' h=> ?_
  cases e with
  | normal=>
   simp only [wpK] at h;obtain⟨st,τ,⟨kv',h',hL,rfl⟩,hM'⟩:=h;obtain⟨h1,h2,h3⟩:=fin _ (mk fn.ntmps kv' h') _ _ _ hL hM'
   have htk:τ.take (mk fn.ntmps [] (H (pre++[x]))).heap.length=σ:=by
    rw [show(mk fn.ntmps [] (H (pre++[x]))).heap.length=pinR from hlen _];exact zhg hZl hM'.since.hold
   rw [htk] at h2 h3;exact⟨h1,j0.ext h2.since.ext,hxt.trans h2.since.ext,h3⟩
  | ret=>
   simp only [wpK] at h;rcases h with ⟨_,st,τ,⟨hX,hL⟩,hM'⟩ | ⟨_,_,h,_⟩
   rotate_left
   ·exact h.elim
   obtain⟨h1,_,h3⟩:=fin _ st _ _ _ hL hM';exact⟨h1,rfl,hX,_,h3⟩
  | exit i=>simp only [wpK] at h; exact absurd h (by simp)
  | goto t=>simp only [wpK] at h; exact absurd h (by simp)
  | panic ch=>simp only [wpK] at h; exact absurd h (by simp)
  | outgrown=>simp only [wpK] at h; exact absurd h (by simp)
 ·
  rintro D xs W hD hS ⟨_,hM⟩ hWD;exact done xs hS W σ _ (push D _ W σ (halive xs) hD hWD hM)
 ·rintro D c pre W hD hSp ⟨rfl,hX,E1,hM⟩ hWD;refine wpIn_ret (uF (.inl ⟨.inl rfl,mk fn.ntmps kv (Hx pre),E1,stop pre hSp hX,push D _ W E1 (halivex pre) hD hWD hM⟩))
end
end Go.Sx
end
section
namespace Go.Sx
variable [Stat]
section
variable {O:Nat->Prop} {pin:Nat} {w0:World} {I0:List SE} {w:World} {σ:List SE} {P:Program} {st:St} {a:Act} {fn:Func} {Xp:List PanicEntry->Prop}
end
end Go.Sx
end
