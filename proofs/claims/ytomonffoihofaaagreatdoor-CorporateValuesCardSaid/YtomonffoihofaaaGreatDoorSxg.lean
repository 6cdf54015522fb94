/- Part 7 of the proof. -/
import Derived.Test.YtomonffoihofaaaGreatDoorSxb
import Derived.Test.YtomonffoihofaaaGreatDoorSxf
set_option linter.unusedVariables false
set_option linter.unusedSimpArgs false
set_option linter.unusedSectionVars false
section
set_option maxRecDepth 100000
open Go Go.Sx Go.Proofs Go.Nov
namespace Go.Proofs.Tryz
attribute [local simp] eqKV eqA eqA0 eqH eqB eqL eqL0
theorem kF(a b:List UInt8):((qW a b).e≠0∧jd a b=(qW a b).e)∨((qW a b).e=0∧errR a=0∧errR b=0∧(qW a b).n=numR a∧(qW a b).m=numR b∧(qW a b).d=denR a∧(qW a b).c=denR b):=by
 unfold qW
 by_cases ha:errR a=0
 ·rw [if_neg (by rw [ha]; simp)]
  by_cases hb:errR b=0
  ·rw [if_neg (by rw [hb]; simp)]
   exact .inr ⟨rfl,ha,hb,rfl,rfl,rfl,rfl⟩
  ·rw [if_pos hb]
   exact .inl ⟨hb,by unfold jd; rw [if_pos ha]⟩
 ·rw [if_pos ha]
  exact .inl ⟨ha,by unfold jd; rw [if_neg ha]⟩
theorem yX(a b:List UInt8):(qW a b).n.length≤a.length∧(qW a b).m.length≤b.length∧(qW a b).d.length≤a.length+1∧(qW a b).c.length≤b.length+1:=by
 have h1:=Wu a
 have h2:=Wu b
 have h3:=VU a
 have h4:=VU b
 unfold qW
 split
 ·simp
 ·split
  ·simp; omega
  ·simp only; omega
theorem kx_l(x y:List UInt8):eqL [.str x,.str y,.ptr 0 0,.ptr 2 0] [.str x,.str y,.ptr 0 0,.ptr 2 0]:=⟨rfl,rfl,⟨rfl,rfl⟩,⟨rfl,rfl⟩,trivial⟩
theorem kx_b(p:Pr):eqH [.box [.str p.n,.str p.m,.str p.d,.str p.c,.int .i64 p.e]] [.box [.str p.n,.str p.m,.str p.d,.str p.c,.int .i64 p.e]]:=⟨⟨rfl,rfl,rfl,rfl,⟨rfl,rfl⟩,trivial⟩,trivial⟩
theorem kx_h(p:Pr)(f:Nat):eqH [.box [.ptr 1 0],.box [.str p.n,.str p.m,.str p.d,.str p.c,.int .i64 p.e],.box [.fn f [] []]] [.box [.ptr 1 0],.box [.str p.n,.str p.m,.str p.d,.str p.c,.int .i64 p.e],.box [.fn f [] []]]:=⟨⟨⟨rfl,rfl⟩,trivial⟩,(kx_b p).1,⟨rfl,trivial⟩,trivial⟩
theorem kx_k(f:Nat):eqL [.ptr 0 0,.fn f [] []] [.ptr 0 0,.fn f [] []]:=⟨⟨rfl,rfl⟩,rfl,trivial⟩
theorem kx_m(x y:List UInt8):eqL [.ptr 0 0,.str x,.str y] [.ptr 0 0,.str x,.str y]:=⟨⟨rfl,rfl⟩,rfl,rfl,trivial⟩
theorem j1(p:Pr)(o:QOp)(x y:List UInt8){r:List UInt8×Int}(h:r=if p.e≠0 then([],p.e) else o.op x y):r.1.length≤1001:=by
 rw [h]
 refine zes ?_
 cases o
 ·exact zch x y
 ·exact zc5 x y
 ·exact zce x y
noncomputable def GQA:Nat→Option Ctr:=fun f=>if f=44 then some (zco) else if f=45 then some (zc4) else if f=72 then some (Kt) else if f=47 then some (UD) else if f=84 then some (zfq) else none
theorem KT:∀ g c,GQA g=some c→zd Tryz.prog g c:=okIf zae (okIf zcs (okIf zb1 (okIf zef (okIf zew (zq)))))
def zci:Ctr:=ctrP true (fun p:List UInt8×List UInt8=>[.str p.1,.str p.2]) (fun p=>p.1.length<2^61∧p.2.length<2^61) (fun p r=>r=addR p.1 p.2) (fun _ r=>(.tup [.str r.1,.int .i64 r.2],[]))
def zag:Ctr:=ctrP true (fun p:List UInt8×List UInt8=>[.str p.1,.str p.2]) (fun p=>p.1.length<2^61∧p.2.length<2^61) (fun p r=>r=mulR p.1 p.2) (fun _ r=>(.tup [.str r.1,.int .i64 r.2],[]))
def zgg:Ctr:=ctrP true (fun p:List UInt8×List UInt8=>[.str p.1,.str p.2]) (fun p=>p.1.length<2^61∧p.2.length<2^61) (fun p r=>r=cmpR p.1 p.2) (fun _ r=>(.tup [.int .i64 r.1,.int .i64 r.2],[]))
theorem Yt:zd Tryz.prog 12 zci:=by
 refine ze (fn:=Tryz.f12) (c:=Tryz.f12.body.getD .skip) rfl rfl rfl fun p hp O w0 Q hq=> ?_
 obtain⟨a,b⟩:=p
 obtain⟨h1,h2⟩:=hp
 replace hq:=hq _ rfl
 simp only at h1 h2 hq
 refine zb.run hmix KT [] 400 (T:=.ex (fun(x:List UInt8×List UInt8)=>eqL [AV.str a,AV.str b] [AV.str x.1,AV.str x.2]∧eqH [] []∧0=0∧x.1.length<4611686018427387904∧x.2.length<4611686018427387904) fun n=>.all (fun(r:Pr)=>r=qW n.1 n.2) fun n=>.ex (fun(x:Pr×QOp)=>eqL [AV.ptr 0 0,AV.fn 46 [] []] [AV.ptr 0 0,AV.fn (QOp.fn x.2) [] []]∧eqH [.box [AV.str n.n,AV.str n.m,AV.str n.d,AV.str n.c,AV.int .i64 n.e]] [.box [AV.str x.1.n,AV.str x.1.m,AV.str x.1.d,AV.str x.1.c,AV.int .i64 x.1.e]]∧1=1∧True) fun n=>.all (fun(x:Unit)=>True) fun n_1=>.ex (fun(x:Pr×QOp)=>eqL [AV.ptr 0 0,AV.fn 48 [] []] [AV.ptr 0 0,AV.fn (QOp.fn x.2) [] []]∧eqH [.box [AV.str n.1.n,AV.str n.1.m,AV.str n.1.d,AV.str n.1.c,AV.int .i64 n.1.e]] [.box [AV.str x.1.n,AV.str x.1.m,AV.str x.1.d,AV.str x.1.c,AV.int .i64 x.1.e]]∧1=1∧True) fun n_2=>.all (fun(x:Unit)=>True) fun n_3=>.side ((0:Int)≤0∧(0:Int)<2) (.side ((0:Int)≤1∧(1:Int)<2) (.side ((0:Int)≤1∧(1:Int)<2) (.side ((0:Int)≤0∧(0:Int)<2) (.side ((0:Int)≤0∧(0:Int)<2) (.side ((0:Int)≤1∧(1:Int)<2) (.ex (fun(x:KX)=>eqL [AV.str n_2.1.n,AV.str n_2.1.c,AV.ptr 0 0,AV.ptr 2 0] [AV.str x.x,AV.str x.y,AV.ptr 0 0,AV.ptr 2 0]∧eqH [.box [AV.ptr 1 0],.box [AV.str n_2.1.n,AV.str n_2.1.m,AV.str n_2.1.d,AV.str n_2.1.c,AV.int .i64 n_2.1.e],.box [AV.fn (QOp.fn n.2) [] []]] [.box [AV.ptr 1 0],.box [AV.str x.p.n,AV.str x.p.m,AV.str x.p.d,AV.str x.p.c,AV.int .i64 x.p.e],.box [AV.fn (QOp.fn x.o) [] []]]∧3=3∧x.x.length<4611686018427387904∧x.y.length<4611686018427387904∧QOp.has x.o) fun n=>.all (fun(r:List UInt8×Int)=>r=if Pr.e n.p≠0 then([],Pr.e n.p) else QOp.op n.o n.x n.y) fun n_4=>.side (Pr.c (Pr.err n.p n_4.2)=Pr.c n_2.1) (.side (Pr.d (Pr.err n.p n_4.2)=Pr.d n_2.1) (.side (Pr.d (Pr.err n.p n_4.2)=Pr.d n_2.1) (.side (Pr.m (Pr.err n.p n_4.2)=Pr.m n_2.1) (.ex (fun(x:KX)=>eqL [AV.str n_2.1.m,AV.str n_2.1.d,AV.ptr 0 0,AV.ptr 2 0] [AV.str x.x,AV.str x.y,AV.ptr 0 0,AV.ptr 2 0]∧eqH [.box [AV.ptr 1 0],.box [AV.str (Pr.n (Pr.err n.p n_4.2)),AV.str (Pr.m (Pr.err n.p n_4.2)),AV.str (Pr.d (Pr.err n.p n_4.2)),AV.str (Pr.c (Pr.err n.p n_4.2)),AV.int .i64 (Pr.e (Pr.err n.p n_4.2))],.box [AV.fn (QOp.fn n.o) [] []]] [.box [AV.ptr 1 0],.box [AV.str x.p.n,AV.str x.p.m,AV.str x.p.d,AV.str x.p.c,AV.int .i64 x.p.e],.box [AV.fn (QOp.fn x.o) [] []]]∧3=3∧x.x.length<4611686018427387904∧x.y.length<4611686018427387904∧QOp.has x.o) fun n=>.all (fun(r:List UInt8×Int)=>r=if Pr.e n.p≠0 then([],Pr.e n.p) else QOp.op n.o n.x n.y) fun n_5=>.side (Pr.c (Pr.err n.p n_5.2)=Pr.c n_2.1) (.side (Pr.d (Pr.err n.p n_5.2)=Pr.d n_2.1) (.ex (fun(x:KX)=>eqL [AV.str n_4.1,AV.str n_5.1,AV.ptr 0 0,AV.ptr 2 0] [AV.str x.x,AV.str x.y,AV.ptr 0 0,AV.ptr 2 0]∧eqH [.box [AV.ptr 1 0],.box [AV.str (Pr.n (Pr.err n.p n_5.2)),AV.str (Pr.m (Pr.err n.p n_5.2)),AV.str (Pr.d (Pr.err n.p n_5.2)),AV.str (Pr.c (Pr.err n.p n_5.2)),AV.int .i64 (Pr.e (Pr.err n.p n_5.2))],.box [AV.fn (QOp.fn n_2.2) [] []]] [.box [AV.ptr 1 0],.box [AV.str x.p.n,AV.str x.p.m,AV.str x.p.d,AV.str x.p.c,AV.int .i64 x.p.e],.box [AV.fn (QOp.fn x.o) [] []]]∧3=3∧x.x.length<4611686018427387904∧x.y.length<4611686018427387904∧QOp.has x.o) fun n_6=>.all (fun(r:List UInt8×Int)=>r=if Pr.e n_6.p≠0 then([],Pr.e n_6.p) else QOp.op n_6.o n_6.x n_6.y) fun n_7=>.side (Pr.c (Pr.err n_6.p n_7.2)=Pr.c n_2.1) (.side (Pr.d (Pr.err n_6.p n_7.2)=Pr.d n_2.1) (.ex (fun(x:KX)=>eqL [AV.str n_2.1.d,AV.str n_2.1.c,AV.ptr 0 0,AV.ptr 2 0] [AV.str x.x,AV.str x.y,AV.ptr 0 0,AV.ptr 2 0]∧eqH [.box [AV.ptr 1 0],.box [AV.str (Pr.n (Pr.err n_6.p n_7.2)),AV.str (Pr.m (Pr.err n_6.p n_7.2)),AV.str (Pr.d (Pr.err n_6.p n_7.2)),AV.str (Pr.c (Pr.err n_6.p n_7.2)),AV.int .i64 (Pr.e (Pr.err n_6.p n_7.2))],.box [AV.fn (QOp.fn n.o) [] []]] [.box [AV.ptr 1 0],.box [AV.str x.p.n,AV.str x.p.m,AV.str x.p.d,AV.str x.p.c,AV.int .i64 x.p.e],.box [AV.fn (QOp.fn x.o) [] []]]∧3=3∧x.x.length<4611686018427387904∧x.y.length<4611686018427387904∧QOp.has x.o) fun n=>.all (fun(r:List UInt8×Int)=>r=if Pr.e n.p≠0 then([],Pr.e n.p) else QOp.op n.o n.x n.y) fun n_8=>.ex (fun(x:Pr×List UInt8×List UInt8)=>eqL [AV.ptr 0 0,AV.str n_7.1,AV.str n_8.1] [AV.ptr 0 0,AV.str x.2.1,AV.str x.2.2]∧eqH [.box [AV.str (Pr.n (Pr.err n.p n_8.2)),AV.str (Pr.m (Pr.err n.p n_8.2)),AV.str (Pr.d (Pr.err n.p n_8.2)),AV.str (Pr.c (Pr.err n.p n_8.2)),AV.int .i64 (Pr.e (Pr.err n.p n_8.2))]] [.box [AV.str x.1.n,AV.str x.1.m,AV.str x.1.d,AV.str x.1.c,AV.int .i64 x.1.e]]∧1=1∧x.2.1.length<4611686018427387904∧x.2.2.length<4611686018427387904) fun n_9=>.all (fun(r:List UInt8×Int)=>r=if Pr.e n_9.1≠0 then([],Pr.e n_9.1) else jE n_9.2.1 n_9.2.2) fun n_10=>.leaf (.ret [.str n_10.1,.int .i64 n_10.2] [.box [.str n_9.1.n,.str n_9.1.m,.str n_9.1.d,.str n_9.1.c,.int .i64 n_9.1.e],.box [.ptr 0 0],.box [.fn (QOp.fn n.o) [] []],.box [.ptr 0 0],.box [.fn (QOp.fn n_6.o) [] []]])))))))))))))))) (by kernel_rfl) ?_
 simp only [Tree.holds,zc]
 refine⟨(a,b),⟨⟨rfl,rfl,trivial⟩,trivial,by trivial,by show a.length<_; omega,by show b.length<_; omega⟩,⟨_,rfl⟩,?_⟩
 intro p hp
 have hc:=kF a b
 obtain⟨l1,l2,l3,l4⟩:=yX a b
 rw [← hp] at hc l1 l2 l3 l4
 refine⟨(p,.mul),⟨kx_k _,kx_b p,by trivial,trivial⟩,⟨(),trivial⟩,?_⟩
 intro _ _
 refine⟨(p,.add),⟨kx_k _,kx_b p,by trivial,trivial⟩,⟨(),trivial⟩,?_⟩
 intro _ _
 iterate 6 refine⟨by decide,fun _=> ?_⟩
 refine⟨⟨p,.mul,p.n,p.c⟩,⟨kx_l _ _,kx_h (p) _,by trivial,by show(p.n).length<_; omega,by show(p.c).length<_; omega,by trivial⟩,⟨_,rfl⟩,?_⟩
 intro r1 hr1
 have kr1:=j1 _ _ _ _ hr1
 iterate 4 refine⟨rfl,fun _=> ?_⟩
 refine⟨⟨p.err r1.2,.mul,p.m,p.d⟩,⟨kx_l _ _,kx_h (p.err r1.2) _,by trivial,by show(p.m).length<_; omega,by show(p.d).length<_; omega,by trivial⟩,⟨_,rfl⟩,?_⟩
 intro r2 hr2
 have kr2:=j1 _ _ _ _ hr2
 iterate 2 refine⟨rfl,fun _=> ?_⟩
 refine⟨⟨(p.err r1.2).err r2.2,.add,r1.1,r2.1⟩,⟨kx_l _ _,kx_h ((p.err r1.2).err r2.2) _,by trivial,by show(r1.1).length<_; omega,by show(r2.1).length<_; omega,by trivial⟩,⟨_,rfl⟩,?_⟩
 intro r3 hr3
 have kr3:=j1 _ _ _ _ hr3
 iterate 2 refine⟨rfl,fun _=> ?_⟩
 refine⟨⟨((p.err r1.2).err r2.2).err r3.2,.mul,p.d,p.c⟩,⟨kx_l _ _,kx_h (((p.err r1.2).err r2.2).err r3.2) _,by trivial,by show(p.d).length<_; omega,by show(p.c).length<_; omega,by trivial⟩,⟨_,rfl⟩,?_⟩
 intro r4 hr4
 have kr4:=j1 _ _ _ _ hr4
 refine⟨((((p.err r1.2).err r2.2).err r3.2).err r4.2,r3.1,r4.1),⟨kx_m _ _,kx_b _,by trivial,by show(r3.1).length<_; omega,by show(r4.1).length<_; omega⟩,⟨_,rfl⟩,?_⟩
 intro r5 hr5
 have hfin:=V0 hc (fun {s t} =>zai (s:=s) (t:=t)) hr1 hr2 hr3 hr4 hr5
 have e:r5=addR a b:=hfin
 rw [← e] at hq
 exact RetR.scal hq rfl (by simp [resV])
theorem XF:zd Tryz.prog 11 zag:=by
 refine ze (fn:=Tryz.f11) (c:=Tryz.f11.body.getD .skip) rfl rfl rfl fun p hp O w0 Q hq=> ?_
 obtain⟨a,b⟩:=p
 obtain⟨h1,h2⟩:=hp
 replace hq:=hq _ rfl
 simp only at h1 h2 hq
 refine zb.run hmix KT [] 400 (T:=.ex (fun(x:List UInt8×List UInt8)=>eqL [AV.str a,AV.str b] [AV.str x.1,AV.str x.2]∧eqH [] []∧0=0∧x.1.length<4611686018427387904∧x.2.length<4611686018427387904) fun n=>.all (fun(r:Pr)=>r=qW n.1 n.2) fun n=>.ex (fun(x:Pr×QOp)=>eqL [AV.ptr 0 0,AV.fn 46 [] []] [AV.ptr 0 0,AV.fn (QOp.fn x.2) [] []]∧eqH [.box [AV.str n.n,AV.str n.m,AV.str n.d,AV.str n.c,AV.int .i64 n.e]] [.box [AV.str x.1.n,AV.str x.1.m,AV.str x.1.d,AV.str x.1.c,AV.int .i64 x.1.e]]∧1=1∧True) fun n=>.all (fun(x:Unit)=>True) fun n_1=>.side ((0:Int)≤0∧(0:Int)<2) (.side ((0:Int)≤1∧(1:Int)<2) (.side ((0:Int)≤0∧(0:Int)<2) (.side ((0:Int)≤1∧(1:Int)<2) (.ex (fun(x:KX)=>eqL [AV.str n.1.n,AV.str n.1.m,AV.ptr 0 0,AV.ptr 2 0] [AV.str x.x,AV.str x.y,AV.ptr 0 0,AV.ptr 2 0]∧eqH [.box [AV.ptr 1 0],.box [AV.str n.1.n,AV.str n.1.m,AV.str n.1.d,AV.str n.1.c,AV.int .i64 n.1.e],.box [AV.fn (QOp.fn n.2) [] []]] [.box [AV.ptr 1 0],.box [AV.str x.p.n,AV.str x.p.m,AV.str x.p.d,AV.str x.p.c,AV.int .i64 x.p.e],.box [AV.fn (QOp.fn x.o) [] []]]∧3=3∧x.x.length<4611686018427387904∧x.y.length<4611686018427387904∧QOp.has x.o) fun n_2=>.all (fun(r:List UInt8×Int)=>r=if Pr.e n_2.p≠0 then([],Pr.e n_2.p) else QOp.op n_2.o n_2.x n_2.y) fun n_3=>.side (Pr.c (Pr.err n_2.p n_3.2)=Pr.c n.1) (.side (Pr.d (Pr.err n_2.p n_3.2)=Pr.d n.1) (.ex (fun(x:KX)=>eqL [AV.str n.1.d,AV.str n.1.c,AV.ptr 0 0,AV.ptr 2 0] [AV.str x.x,AV.str x.y,AV.ptr 0 0,AV.ptr 2 0]∧eqH [.box [AV.ptr 1 0],.box [AV.str (Pr.n (Pr.err n_2.p n_3.2)),AV.str (Pr.m (Pr.err n_2.p n_3.2)),AV.str (Pr.d (Pr.err n_2.p n_3.2)),AV.str (Pr.c (Pr.err n_2.p n_3.2)),AV.int .i64 (Pr.e (Pr.err n_2.p n_3.2))],.box [AV.fn (QOp.fn n_2.o) [] []]] [.box [AV.ptr 1 0],.box [AV.str x.p.n,AV.str x.p.m,AV.str x.p.d,AV.str x.p.c,AV.int .i64 x.p.e],.box [AV.fn (QOp.fn x.o) [] []]]∧3=3∧x.x.length<4611686018427387904∧x.y.length<4611686018427387904∧QOp.has x.o) fun n=>.all (fun(r:List UInt8×Int)=>r=if Pr.e n.p≠0 then([],Pr.e n.p) else QOp.op n.o n.x n.y) fun n_4=>.ex (fun(x:Pr×List UInt8×List UInt8)=>eqL [AV.ptr 0 0,AV.str n_3.1,AV.str n_4.1] [AV.ptr 0 0,AV.str x.2.1,AV.str x.2.2]∧eqH [.box [AV.str (Pr.n (Pr.err n.p n_4.2)),AV.str (Pr.m (Pr.err n.p n_4.2)),AV.str (Pr.d (Pr.err n.p n_4.2)),AV.str (Pr.c (Pr.err n.p n_4.2)),AV.int .i64 (Pr.e (Pr.err n.p n_4.2))]] [.box [AV.str x.1.n,AV.str x.1.m,AV.str x.1.d,AV.str x.1.c,AV.int .i64 x.1.e]]∧1=1∧x.2.1.length<4611686018427387904∧x.2.2.length<4611686018427387904) fun n_5=>.all (fun(r:List UInt8×Int)=>r=if Pr.e n_5.1≠0 then([],Pr.e n_5.1) else jE n_5.2.1 n_5.2.2) fun n_6=>.leaf (.ret [.str n_6.1,.int .i64 n_6.2] [.box [.str n_5.1.n,.str n_5.1.m,.str n_5.1.d,.str n_5.1.c,.int .i64 n_5.1.e],.box [.ptr 0 0],.box [.fn (QOp.fn n.o) [] []]])))))))) (by kernel_rfl) ?_
 simp only [Tree.holds,zc]
 refine⟨(a,b),⟨⟨rfl,rfl,trivial⟩,trivial,by trivial,by show a.length<_; omega,by show b.length<_; omega⟩,⟨_,rfl⟩,?_⟩
 intro p hp
 have hc:=kF a b
 obtain⟨l1,l2,l3,l4⟩:=yX a b
 rw [← hp] at hc l1 l2 l3 l4
 refine⟨(p,.mul),⟨kx_k _,kx_b p,by trivial,trivial⟩,⟨(),trivial⟩,?_⟩
 intro _ _
 iterate 4 refine⟨by decide,fun _=> ?_⟩
 refine⟨⟨p,.mul,p.n,p.m⟩,⟨kx_l _ _,kx_h (p) _,by trivial,by show(p.n).length<_; omega,by show(p.m).length<_; omega,by trivial⟩,⟨_,rfl⟩,?_⟩
 intro r1 hr1
 have kr1:=j1 _ _ _ _ hr1
 iterate 2 refine⟨rfl,fun _=> ?_⟩
 refine⟨⟨p.err r1.2,.mul,p.d,p.c⟩,⟨kx_l _ _,kx_h (p.err r1.2) _,by trivial,by show(p.d).length<_; omega,by show(p.c).length<_; omega,by trivial⟩,⟨_,rfl⟩,?_⟩
 intro r2 hr2
 have kr2:=j1 _ _ _ _ hr2
 refine⟨((p.err r1.2).err r2.2,r1.1,r2.1),⟨kx_m _ _,kx_b _,by trivial,by show(r1.1).length<_; omega,by show(r2.1).length<_; omega⟩,⟨_,rfl⟩,?_⟩
 intro r3 hr3
 have hv:errR a=0→errR b=0→zu p.n p.m=0∧zu p.d p.c=0:=by
  intro ha hb
  obtain⟨a1,a2,_⟩:=qz ha
  obtain⟨b1,b2,_⟩:=qz hb
  rcases hc with ⟨g1,g2⟩ | ⟨_,_,_,g1,g2,g3,g4⟩
  ·exact absurd g2 (by unfold jd; rw [if_pos ha,hb]; exact fun h=>g1 h.symm)
  ·rw [g1,g2,g3,g4]; exact⟨zm.2 ⟨a1,b1⟩,zm.2 ⟨a2,b2⟩⟩
 have hfin:=Uq hc hr1 hr2 hr3 hv
 have e:r3=mulR a b:=by
  rw [hfin]
  unfold mulR
  rcases hc with ⟨g1,g2⟩ | ⟨_,_,_,g1,g2,g3,g4⟩
  ·rw [if_pos (by rw [g2]; exact g1),if_pos (by rw [g2]; exact g1)]
  ·rw [g1,g2,g3,g4]
 rw [← e] at hq
 exact RetR.scal hq rfl (by simp [resV])
theorem zfi:zd Tryz.prog 57 zgg:=by
 refine ze (fn:=Tryz.f57) (c:=Tryz.f57.body.getD .skip) rfl rfl rfl fun p hp O w0 Q hq=> ?_
 obtain⟨a,b⟩:=p
 obtain⟨h1,h2⟩:=hp
 replace hq:=hq _ rfl
 simp only at h1 h2 hq
 refine zb.run hmix KT [] 400 (T:=.ex (fun(x:List UInt8×List UInt8)=>eqL [AV.str a,AV.str b] [AV.str x.1,AV.str x.2]∧eqH [] []∧0=0∧x.1.length<4611686018427387904∧x.2.length<4611686018427387904) fun n=>.all (fun(r:Pr)=>r=qW n.1 n.2) fun n=>.ex (fun(x:Pr×QOp)=>eqL [AV.ptr 0 0,AV.fn 46 [] []] [AV.ptr 0 0,AV.fn (QOp.fn x.2) [] []]∧eqH [.box [AV.str n.n,AV.str n.m,AV.str n.d,AV.str n.c,AV.int .i64 n.e]] [.box [AV.str x.1.n,AV.str x.1.m,AV.str x.1.d,AV.str x.1.c,AV.int .i64 x.1.e]]∧1=1∧True) fun n=>.all (fun(x:Unit)=>True) fun n_1=>.side ((0:Int)≤0∧(0:Int)<2) (.side ((0:Int)≤1∧(1:Int)<2) (.side ((0:Int)≤1∧(1:Int)<2) (.side ((0:Int)≤0∧(0:Int)<2) (.ex (fun(x:KX)=>eqL [AV.str n.1.n,AV.str n.1.c,AV.ptr 0 0,AV.ptr 2 0] [AV.str x.x,AV.str x.y,AV.ptr 0 0,AV.ptr 2 0]∧eqH [.box [AV.ptr 1 0],.box [AV.str n.1.n,AV.str n.1.m,AV.str n.1.d,AV.str n.1.c,AV.int .i64 n.1.e],.box [AV.fn (QOp.fn n.2) [] []]] [.box [AV.ptr 1 0],.box [AV.str x.p.n,AV.str x.p.m,AV.str x.p.d,AV.str x.p.c,AV.int .i64 x.p.e],.box [AV.fn (QOp.fn x.o) [] []]]∧3=3∧x.x.length<4611686018427387904∧x.y.length<4611686018427387904∧QOp.has x.o) fun n_2=>.all (fun(r:List UInt8×Int)=>r=if Pr.e n_2.p≠0 then([],Pr.e n_2.p) else QOp.op n_2.o n_2.x n_2.y) fun n_3=>.side (Pr.d (Pr.err n_2.p n_3.2)=Pr.d n.1) (.side (Pr.m (Pr.err n_2.p n_3.2)=Pr.m n.1) (.ex (fun(x:KX)=>eqL [AV.str n.1.m,AV.str n.1.d,AV.ptr 0 0,AV.ptr 2 0] [AV.str x.x,AV.str x.y,AV.ptr 0 0,AV.ptr 2 0]∧eqH [.box [AV.ptr 1 0],.box [AV.str (Pr.n (Pr.err n_2.p n_3.2)),AV.str (Pr.m (Pr.err n_2.p n_3.2)),AV.str (Pr.d (Pr.err n_2.p n_3.2)),AV.str (Pr.c (Pr.err n_2.p n_3.2)),AV.int .i64 (Pr.e (Pr.err n_2.p n_3.2))],.box [AV.fn (QOp.fn n_2.o) [] []]] [.box [AV.ptr 1 0],.box [AV.str x.p.n,AV.str x.p.m,AV.str x.p.d,AV.str x.p.c,AV.int .i64 x.p.e],.box [AV.fn (QOp.fn x.o) [] []]]∧3=3∧x.x.length<4611686018427387904∧x.y.length<4611686018427387904∧QOp.has x.o) fun n=>.all (fun(r:List UInt8×Int)=>r=if Pr.e n.p≠0 then([],Pr.e n.p) else QOp.op n.o n.x n.y) fun n_4=>.ite (!decide (Pr.e (Pr.err n.p n_4.2)=(0:Int))) (.leaf (.ret [.int .i64 0,.int .i64 (Pr.e (Pr.err n.p n_4.2))] [.box [.str (Pr.n (Pr.err n.p n_4.2)),.str (Pr.m (Pr.err n.p n_4.2)),.str (Pr.d (Pr.err n.p n_4.2)),.str (Pr.c (Pr.err n.p n_4.2)),.int .i64 (Pr.e (Pr.err n.p n_4.2))],.box [.ptr 0 0],.box [.fn (QOp.fn n.o) [] []]])) (.ex (fun(x:List UInt8×List UInt8)=>eqL [AV.str n_3.1,AV.str n_4.1] [AV.str x.1,AV.str x.2]∧x.1.length<4611686018427387904∧x.2.length<4611686018427387904) fun n_5=>.all (fun(r:Int×Int)=>r=ux n_5.1 n_5.2) fun n_6=>.leaf (.ret [.int .i64 n_6.1,.int .i64 n_6.2] [.box [.str (Pr.n (Pr.err n.p n_4.2)),.str (Pr.m (Pr.err n.p n_4.2)),.str (Pr.d (Pr.err n.p n_4.2)),.str (Pr.c (Pr.err n.p n_4.2)),.int .i64 (Pr.e (Pr.err n.p n_4.2))],.box [.ptr 0 0],.box [.fn (QOp.fn n.o) [] []]]))))))))) (by kernel_rfl) ?_
 simp only [Tree.holds,zc]
 refine⟨(a,b),⟨⟨rfl,rfl,trivial⟩,trivial,by trivial,by show a.length<_; omega,by show b.length<_; omega⟩,⟨_,rfl⟩,?_⟩
 intro p hp
 have hc:=kF a b
 obtain⟨l1,l2,l3,l4⟩:=yX a b
 rw [← hp] at hc l1 l2 l3 l4
 refine⟨(p,.mul),⟨kx_k _,kx_b p,by trivial,trivial⟩,⟨(),trivial⟩,?_⟩
 intro _ _
 iterate 4 refine⟨by decide,fun _=> ?_⟩
 refine⟨⟨p,.mul,p.n,p.c⟩,⟨kx_l _ _,kx_h (p) _,by trivial,by show(p.n).length<_; omega,by show(p.c).length<_; omega,by trivial⟩,⟨_,rfl⟩,?_⟩
 intro r1 hr1
 have kr1:=j1 _ _ _ _ hr1
 iterate 2 refine⟨rfl,fun _=> ?_⟩
 refine⟨⟨p.err r1.2,.mul,p.m,p.d⟩,⟨kx_l _ _,kx_h (p.err r1.2) _,by trivial,by show(p.m).length<_; omega,by show(p.d).length<_; omega,by trivial⟩,⟨_,rfl⟩,?_⟩
 intro r2 hr2
 have kr2:=j1 _ _ _ _ hr2
 have hfin:=Y7 hc hr1 hr2
 refine⟨fun h=> ?_,fun h=>⟨(r1.1,r2.1),⟨⟨rfl,rfl,trivial⟩,by show r1.1.length<_; omega,by show r2.1.length<_; omega⟩,⟨_,rfl⟩,?_⟩⟩
 ·have h:r2.2≠0:=by
   intro h0
   have h':(!decide (r2.2=0))=true:=h
   rw [h0] at h'; cases h'
  rw [if_pos h] at hfin
  rw [← hfin] at hq
  exact RetR.scal hq rfl (by simp [resV,Pr.err])
 ·have h:r2.2=0:=by
   have h':(!decide (r2.2=0))=false:=h
   cases hd:decide (r2.2=0) with
   | true=>exact of_decide_eq_true hd
   | false=>rw [hd] at h'; cases h'
  rw [if_neg (by rw [h]; simp)] at hfin
  rintro _ rfl
  rw [← hfin] at hq
  exact RetR.scal hq rfl (by simp [resV])
end Go.Proofs.Tryz
end
section
namespace Go.Nov
end Go.Nov
end
section
set_option maxRecDepth 100000
open Go Go.Sx Go.Proofs Go.Nov
namespace Go.Proofs.Tryz
attribute [local simp] eqKV eqA eqA0 eqH eqB eqL eqL0
structure Q4 where
 n:List UInt8
 d:List UInt8
 m:List UInt8
 c:List UInt8
 e:Int
structure QF where
 n:List UInt8
 d:List UInt8
 e:Int
 f:Int
noncomputable def K67:List Go.Sx.Item:=[.code (Tryz.f67.body.getD .skip)]
def nanS:Ctr:=ctrP true (fun s:List UInt8=>[.str s]) (fun _=>True) (fun s r=>r=false) (fun _ (r:Bool)=>(.bool r,[]))
def nanI:Ctr:=ctrP true (fun x:Int=>[.int .i64 x]) (fun _=>True) (fun s r=>r=false) (fun _ (r:Bool)=>(.bool r,[]))
theorem ze2:zd Tryz.prog 88 nanS:=by
 refine ze (fn:=Tryz.f88) (c:=Tryz.f88.body.getD .skip) rfl rfl rfl fun s hs O w0 Q hq=> ?_
 replace hq:=hq _ rfl
 refine zb.run hmix z7 [] 400 (T:=.leaf (.ret [.bool !decide (s=s)] [])) (by kernel_rfl) ?_
 simp only [Tree.holds,zc]
 exact RetR.scal hq rfl (by simp [resV])
theorem zez:zd Tryz.prog 89 nanI:=by
 refine ze (fn:=Tryz.f89) (c:=Tryz.f89.body.getD .skip) rfl rfl rfl fun s hs O w0 Q hq=> ?_
 replace hq:=hq _ rfl
 refine zb.run hmix z7 [] 400 (T:=.leaf (.ret [.bool !decide (s=s)] [])) (by kernel_rfl) ?_
 simp only [Tree.holds,zc]
 exact RetR.scal hq rfl (by simp [resV])
def zg3:Ctr:=ctrP true (fun p:List UInt8×List UInt8=>[.str p.1,.str p.2]) (fun _=>True) (fun p r=>r=cmpS p.1 p.2) (fun _ (r:Int)=>(.int .i64 r,[]))
def zge:Ctr:=ctrP true (fun p:Int×Int=>[.int .i64 p.1,.int .i64 p.2]) (fun _=>True) (fun p r=>r=cmpI p.1 p.2) (fun _ (r:Int)=>(.int .i64 r,[]))
noncomputable def GN2:Nat→Option Ctr:=fun f=>if f=88 then some (nanS) else if f=89 then some (nanI) else none
theorem U5:∀ g c,GN2 g=some c→zd Tryz.prog g c:=okIf ze2 (okIf zez (zq))
theorem ze6:zd Tryz.prog 68 zg3:=by
 refine ze (fn:=Tryz.f68) (c:=Tryz.f68.body.getD .skip) rfl rfl rfl fun p hs O w0 Q hq=> ?_
 obtain⟨s,t⟩:=p
 replace hq:=hq _ rfl
 simp only at hq
 refine zb.run hmix U5 [] 400 (T:=.ex (fun(x:List UInt8)=>eqL [AV.str s] [AV.str x]∧True) fun n=>.all (fun(r:Bool)=>r=false) fun n=>.ex (fun(x:List UInt8)=>eqL [AV.str t] [AV.str x]∧True) fun n_1=>.all (fun(r:Bool)=>r=false) fun n_2=>.ite n (.ite n_2 (.leaf (.ret [.int .i64 0] [])) (.leaf (.ret [.int .i64 (-1:Int)] []))) (.ite n_2 (.leaf (.ret [.int .i64 1] [])) (.ite (Op.bytesLess s t) (.leaf (.ret [.int .i64 (-1:Int)] [])) (.ite (!(Op.bytesLess s t||decide (s=t))) (.leaf (.ret [.int .i64 1] [])) (.leaf (.ret [.int .i64 0] [])))))) (by kernel_rfl) ?_
 simp only [Tree.holds,zc]
 refine⟨s,⟨by simp,trivial⟩,⟨_,rfl⟩,?_⟩
 rintro _ rfl
 refine⟨t,⟨by simp,trivial⟩,⟨_,rfl⟩,?_⟩
 rintro _ rfl
 refine⟨fun h=>(by cases h),fun _=>⟨fun h=>(by cases h),fun _=>⟨fun h=> ?_,fun h=>⟨fun h2=> ?_,fun h2=> ?_⟩⟩⟩⟩
 ·have:cmpS s t = -1:=by simp [cmpS,h]
  rw [this] at hq; exact RetR.scal hq rfl (by simp [resV])
 ·have h2:s≠t:=by simpa [h] using h2
  have:cmpS s t=1:=by simp [cmpS,h,h2]
  rw [this] at hq; exact RetR.scal hq rfl (by simp [resV])
 ·have h2:s=t:=by simpa [h] using h2
  subst h2
  have:cmpS s s=0:=by simp [cmpS,h]
  rw [this] at hq; exact RetR.scal hq rfl (by simp [resV])
theorem ze0:zd Tryz.prog 69 zge:=by
 refine ze (fn:=Tryz.f69) (c:=Tryz.f69.body.getD .skip) rfl rfl rfl fun p hs O w0 Q hq=> ?_
 obtain⟨s,t⟩:=p
 replace hq:=hq _ rfl
 simp only at hq
 refine zb.run hmix U5 [] 400 (T:=.ex (fun(x:Int)=>eqL [AV.int .i64 s] [AV.int .i64 x]∧True) fun n=>.all (fun(r:Bool)=>r=false) fun n=>.ex (fun(x:Int)=>eqL [AV.int .i64 t] [AV.int .i64 x]∧True) fun n_1=>.all (fun(r:Bool)=>r=false) fun n_2=>.ite n (.ite n_2 (.leaf (.ret [.int .i64 0] [])) (.leaf (.ret [.int .i64 (-1:Int)] []))) (.ite n_2 (.leaf (.ret [.int .i64 1] [])) (.ite (decide (s<t)) (.leaf (.ret [.int .i64 (-1:Int)] [])) (.ite (decide (t<s)) (.leaf (.ret [.int .i64 1] [])) (.leaf (.ret [.int .i64 0] [])))))) (by kernel_rfl) ?_
 simp only [Tree.holds,zc]
 refine⟨s,⟨by simp,trivial⟩,⟨_,rfl⟩,?_⟩
 rintro _ rfl
 refine⟨t,⟨by simp,trivial⟩,⟨_,rfl⟩,?_⟩
 rintro _ rfl
 refine⟨fun h=>(by cases h),fun _=>⟨fun h=>(by cases h),fun _=>⟨fun h=> ?_,fun h=>⟨fun h2=> ?_,fun h2=> ?_⟩⟩⟩⟩
 ·have h:=of_decide_eq_true h
  have:cmpI s t = -1:=by simp [cmpI,h]
  rw [this] at hq; exact RetR.scal hq rfl (by simp [resV])
 ·have h:=of_decide_eq_false h
  have h2:=of_decide_eq_true h2
  have:cmpI s t=1:=by simp [cmpI,h,h2]
  rw [this] at hq; exact RetR.scal hq rfl (by simp [resV])
 ·have h:=of_decide_eq_false h
  have h2:=of_decide_eq_false h2
  have:cmpI s t=0:=by simp [cmpI,h,h2]
  rw [this] at hq; exact RetR.scal hq rfl (by simp [resV])
def orC:Ctr:=ctrP true (fun l:List Int=>[.sl l.length 1 (fun j _=>.int .i64 (l.getD j 0))]) (fun l=>l.length<2^40) (fun l r=>r=orI l) (fun _ (r:Int)=>(.int .i64 r,[]))
def SOr(l:List Int)(i:Nat):KV:=[(3,.int .i64 0),(6,.sl l.length 1 (fun j _=>.int .i64 (l.getD j 0))),(7,.int .i64 (l.length:Int)),(8,.int .i64 (i:Int))]
theorem zi8:zd Tryz.prog 67 orC:=by
 refine ze (fn:=Tryz.f67) (c:=Tryz.f67.body.getD .skip) rfl rfl rfl fun l hl O w0 Q hq=> ?_
 replace hq:=hq _ rfl
 refine zb.run hmix z7 [3,6,7,8] 400 (T:=.leaf (.loop (Prod.fst (lps K67 0)) (Prod.snd (lps K67 0)) [(3,.int .i64 0),(6,.sl l.length 1 fun(j x:Nat)=>.int .i64 (l.getD j (0:Int))),(7,.int .i64 l.length),(8,.int .i64 0)] [])) (by kernel_rfl) ?_
 simp only [Tree.holds,zc]
 refine zb.loop (ι:={i:Nat // i≤l.length∧orI (l.drop i)=orI l}) (fun i=>SOr l i.1) (fun _=>[]) (fun i=>l.length - i.1) ⟨0,Nat.zero_le _,rfl⟩ 0 ?_ ?_ (by kernel_rfl)
 ·exact⟨by simp [SOr,za],by simp,by kernel_rfl,Nat.zero_le _⟩
 ·rintro⟨i,hil,hio⟩
  refine zb.run hmix z7 [3,6,7,8] 400 (T:=.ite (decide ((↑i:Int)<l.length)) (.side ((0:Int)≤i∧(↑i:Int)<l.length) (.ite (!decide (l.getD (↑i:Int).toNat (0:Int)=0)) (.leaf (.ret [.int .i64 (l.getD (↑i:Int).toNat (0:Int))] [])) (.side (inR .i64 ((↑i:Int)+(1:Int))) (.leaf (.back 0 [(3,.int .i64 0),(6,.sl l.length 1 fun(j x:Nat)=>.int .i64 (l.getD j (0:Int))),(7,.int .i64 l.length),(8,.int .i64 ((↑i:Int)+(1:Int)))] []))))) (.leaf (.ret [.int .i64 0] []))) (by kernel_rfl) ?_
  simp only [Tree.holds,zc,inR,lo,hi,Int.toNat_natCast]
  refine⟨fun hlt=> ?_,fun hge=> ?_⟩
  ·have hlt:i<l.length:=by have:=of_decide_eq_true hlt; omega
   have hd:l.drop i=l.getD i 0::l.drop (i+1):=by
    rw [List.drop_eq_getElem_cons hlt]; simp [List.getD,hlt]
   rw [hd] at hio
   refine⟨by omega,fun _=>⟨fun h=> ?_,fun h=>⟨by omega,fun _=> ?_⟩⟩⟩
   ·have h:l.getD i 0≠0:=by simpa using h
    have:orI l=l.getD i 0:=by rw [← hio]; simp only [orI]; rw [if_neg h]
    rw [this] at hq; exact RetR.scal hq rfl (by simp [resV])
   ·have h:l.getD i 0=0:=by simpa using h
    rw [if_pos trivial]
    refine⟨⟨i+1,hlt,?_⟩,by show l.length - (i+1)<l.length - i; omega,by simp [SOr,za],by simp,by kernel_rfl,Nat.zero_le _⟩
    rw [← hio]; simp only [orI]; rw [if_pos h]
  ·have hge:i=l.length:=by have:=of_decide_eq_false hge; omega
   subst hge
   rw [List.drop_length] at hio
   rw [← hio] at hq; exact RetR.scal hq rfl (by simp [resV,orI])
def Z1:Ctr:=ctrP true (fun p:Fx×Fx=>[p.1.av,p.2.av]) (fun _=>True) (fun p r=>r=cmpF p.1 p.2) (fun _ (r:Int)=>(.int .i64 r,[]))
def Qk:Ctr:=ctrP true (fun p:Ch×Ch=>[p.1.av,p.2.av]) (fun _=>True) (fun p r=>r=cmpC p.1 p.2) (fun _ (r:Int)=>(.int .i64 r,[]))
noncomputable def GN3:Nat→Option Ctr:=fun f=>if f=68 then some (zg3) else if f=69 then some (zge) else if f=67 then some (orC) else none
theorem zbf:∀ g c,GN3 g=some c→zd Tryz.prog g c:=okIf ze6 (okIf ze0 (okIf zi8 (zq)))
theorem Uz(x y:Int):eqG 2 1 (zf (zg 1 [.int .i64 x,.int .i64 y]) 0) (fun j _=>.int .i64 ([x,y].getD j 0)):=by
 intro j o hj ho
 have ho:o=0:=by omega
 subst ho
 rcases j with _ | _ | j
 ·rfl
 ·rfl
 ·omega
theorem Ur(x y z:Int):eqG 3 1 (zf (zg 1 [.int .i64 x,.int .i64 y,.int .i64 z]) 0) (fun j _=>.int .i64 ([x,y,z].getD j 0)):=by
 intro j o hj ho
 have ho:o=0:=by omega
 subst ho
 rcases j with _ | _ | _ | j
 ·rfl
 ·rfl
 ·rfl
 ·omega
theorem uV:zd Tryz.prog 40 Z1:=by
 refine ze (fn:=Tryz.f40) (c:=Tryz.f40.body.getD .skip) rfl rfl rfl fun p hs O w0 Q hq=> ?_
 obtain⟨⟨a,d,v⟩,⟨b,e,u⟩⟩:=p
 replace hq:=hq _ rfl
 simp only at hq
 refine zb.run hmix zbf [] 400 (T:=.ex (fun(x:List UInt8×List UInt8)=>eqL [AV.str a,AV.str b] [AV.str x.1,AV.str x.2]∧True) fun n=>.all (fun(r:Int)=>r=cmpS n.1 n.2) fun n=>.ex (fun(x:Int×Int)=>eqL [AV.int .i64 d,AV.int .i64 e] [AV.int .i64 x.1,AV.int .i64 x.2]∧True) fun n_1=>.all (fun(r:Int)=>r=cmpI n_1.1 n_1.2) fun n_2=>.ex (fun(x:List Int)=>eqL [AV.sl 2 1 (zf (zg 1 [AV.int .i64 n,AV.int .i64 n_2]) 0)] [AV.sl x.length 1 fun(j x_1:Nat)=>AV.int .i64 (x.getD j (0:Int))]∧x.length<1099511627776) fun n_3=>.all (fun(r:Int)=>r=orI n_3) fun n_4=>.leaf (.ret [.int .i64 n_4] [.box [.str a,.int .i64 d,.str v],.box [.str b,.int .i64 e,.str u],.arr 2 1 (zg 1 [.int .i64 n,.int .i64 n_2])])) (by kernel_rfl) ?_
 simp only [Tree.holds,zc]
 refine⟨(a,b),⟨by simp,trivial⟩,⟨_,rfl⟩,?_⟩
 rintro _ rfl
 refine⟨(d,e),⟨by simp,trivial⟩,⟨_,rfl⟩,?_⟩
 rintro _ rfl
 refine⟨[cmpS a b,cmpI d e],⟨⟨⟨rfl,rfl,Uz _ _⟩,trivial⟩,by simp⟩,⟨_,rfl⟩,?_⟩
 rintro _ rfl
 have:orI [cmpS a b,cmpI d e]=cmpF ⟨a,d,v⟩ ⟨b,e,u⟩:=by
  simp only [orI,cmpF]
  by_cases h:cmpS a b=0
  ·simp only [h,if_true]; split<;>simp_all
  ·simp only [if_neg h]
 rw [this]
 exact RetR.scal hq rfl (by simp [resV])
theorem Qb:zd Tryz.prog 42 Qk:=by
 refine ze (fn:=Tryz.f42) (c:=Tryz.f42.body.getD .skip) rfl rfl rfl fun p hs O w0 Q hq=> ?_
 obtain⟨⟨a,d,v,f⟩,⟨b,e,u,g⟩⟩:=p
 replace hq:=hq _ rfl
 simp only at hq
 refine zb.run hmix zbf [] 400 (T:=.ex (fun(x:List UInt8×List UInt8)=>eqL [AV.str a,AV.str b] [AV.str x.1,AV.str x.2]∧True) fun n=>.all (fun(r:Int)=>r=cmpS n.1 n.2) fun n=>.ex (fun(x:List UInt8×List UInt8)=>eqL [AV.str d,AV.str e] [AV.str x.1,AV.str x.2]∧True) fun n_1=>.all (fun(r:Int)=>r=cmpS n_1.1 n_1.2) fun n_2=>.ex (fun(x:Int×Int)=>eqL [AV.int .i64 v,AV.int .i64 u] [AV.int .i64 x.1,AV.int .i64 x.2]∧True) fun n_3=>.all (fun(r:Int)=>r=cmpI n_3.1 n_3.2) fun n_4=>.ex (fun(x:List Int)=>eqL [AV.sl 3 1 (zf (zg 1 [AV.int .i64 n,AV.int .i64 n_2,AV.int .i64 n_4]) 0)] [AV.sl x.length 1 fun(j x_1:Nat)=>AV.int .i64 (x.getD j (0:Int))]∧x.length<1099511627776) fun n_5=>.all (fun(r:Int)=>r=orI n_5) fun n_6=>.leaf (.ret [.int .i64 n_6] [.box [.str a,.str d,.int .i64 v,.bool f],.box [.str b,.str e,.int .i64 u,.bool g],.arr 3 1 (zg 1 [.int .i64 n,.int .i64 n_2,.int .i64 n_4])])) (by kernel_rfl) ?_
 simp only [Tree.holds,zc]
 refine⟨(a,b),⟨by simp,trivial⟩,⟨_,rfl⟩,?_⟩
 rintro _ rfl
 refine⟨(d,e),⟨by simp,trivial⟩,⟨_,rfl⟩,?_⟩
 rintro _ rfl
 refine⟨(v,u),⟨by simp,trivial⟩,⟨_,rfl⟩,?_⟩
 rintro _ rfl
 refine⟨[cmpS a b,cmpS d e,cmpI v u],⟨⟨⟨rfl,rfl,Ur _ _ _⟩,trivial⟩,by simp⟩,⟨_,rfl⟩,?_⟩
 rintro _ rfl
 have:orI [cmpS a b,cmpS d e,cmpI v u]=cmpC ⟨a,d,v,f⟩ ⟨b,e,u,g⟩:=by
  simp only [orI,cmpC]
  by_cases h:cmpS a b=0
  ·simp only [h,if_true]
   by_cases h2:cmpS d e=0
   ·simp only [h2,if_true]; split<;>simp_all
   ·simp only [if_neg h2]
  ·simp only [if_neg h]
 rw [this]
 exact RetR.scal hq rfl (by simp [resV])
noncomputable def K65:List Go.Sx.Item:=[.code (Tryz.f65.body.getD .skip)]
noncomputable def K66:List Go.Sx.Item:=[.code (Tryz.f66.body.getD .skip)]
noncomputable def K39:List Go.Sx.Item:=[.code (Tryz.f39.body.getD .skip)]
noncomputable def K41:List Go.Sx.Item:=[.code (Tryz.f41.body.getD .skip)]
def ka(f:Fx):Prop:=f.name.length<2^40∧f.value.length<2^40
def kJ(c:Ch):Prop:=c.qi.length<2^40∧c.name.length<2^40
def zg4:Ctr:=ctrP true (fun f:Fx=>[f.av]) ka (fun f r=>r = !okF f) (fun _ (r:Bool)=>(.bool r,[]))
def zg2:Ctr:=ctrP true (fun c:Ch=>[c.av]) kJ (fun c r=>r = !okC c) (fun _ (r:Bool)=>(.bool r,[]))
noncomputable def GE1:Nat→Option Ctr:=fun f=>if f=33 then some (VP) else if f=34 then some (Wp) else if f=35 then some (yh) else none
theorem UG:∀ g c,GE1 g=some c→zd Tryz.prog g c:=okIf JV (okIf Jy (okIf xe (zq)))
theorem zdt:zd Tryz.prog 32 zg4:=by
 refine ze (fn:=Tryz.f32) (c:=Tryz.f32.body.getD .skip) rfl rfl rfl fun f hs O w0 Q hq=> ?_
 obtain⟨a,d,v⟩:=f
 obtain⟨h1,h2⟩:=hs
 replace hq:=hq _ rfl
 simp only [okF] at hq h1 h2
 refine zb.run hmix UG [] 400 (T:=.ex (fun(x:List UInt8)=>eqL [AV.str a] [AV.str x]∧x.length<4611686018427387904) fun n=>.all (fun(r:Bool)=>r=zS n) fun n=>.ex (fun(x:Int)=>(!n)=false→eqL [AV.int .i64 d] [AV.int .i64 x]∧True) fun n_1=>.all (fun(x:Bool)=>(!n)=false→x=dayB n_1) fun n_2=>.ex (fun(x:List UInt8)=>(bif !n then true else !n_2)=false→eqL [AV.str v] [AV.str x]∧x.length<4611686018427387904) fun n_3=>.all (fun(x:Int)=>(bif !n then true else !n_2)=false→x=errR n_3) fun n_4=>.leaf (.ret [.bool (bif bif !n then true else !n_2 then true else !decide (n_4=0))] [.box [.str a,.int .i64 d,.str v]])) (by kernel_rfl) ?_
 simp only [Tree.holds,zc]
 refine⟨a,⟨by simp,by omega⟩,⟨_,rfl⟩,?_⟩
 rintro _ rfl
 refine⟨d,fun _=>⟨by simp,trivial⟩,⟨_,fun _=>rfl⟩,?_⟩
 intro x hx
 refine⟨v,fun _=>⟨by simp,by omega⟩,⟨_,fun _=>rfl⟩,?_⟩
 intro y hy
 refine RetR.scal hq rfl ?_
 simp only [resV]
 cases hn:zS a with
 | false=>rfl
 | true=>
  rw [hx (by rw [hn]; rfl)] at hy ⊢
  cases hd:dayB d with
  | false=>rfl
  | true=>rw [hy (by rw [hn,hd]; rfl)]; rfl
theorem zfd:zd Tryz.prog 36 zg2:=by
 refine ze (fn:=Tryz.f36) (c:=Tryz.f36.body.getD .skip) rfl rfl rfl fun f hs O w0 Q hq=> ?_
 obtain⟨a,v,d,f⟩:=f
 obtain⟨h1,h2⟩:=hs
 replace hq:=hq _ rfl
 simp only [okC] at hq h1 h2
 refine zb.run hmix UG [] 400 (T:=.ex (fun(x:List UInt8)=>eqL [AV.str a] [AV.str x]∧x.length<4611686018427387904) fun n=>.all (fun(r:Bool)=>r=zS n) fun n=>.ex (fun(x:List UInt8)=>(!n)=false→eqL [AV.str v] [AV.str x]∧x.length<4611686018427387904) fun n_1=>.all (fun(x:Bool)=>(!n)=false→x=zS n_1) fun n_2=>.ex (fun(x:Int)=>(bif !n then true else !n_2)=false→eqL [AV.int .i64 d] [AV.int .i64 x]∧True) fun n_3=>.all (fun(x:Bool)=>(bif !n then true else !n_2)=false→x=dayB n_3) fun n_4=>.leaf (.ret [.bool (bif bif !n then true else !n_2 then true else !n_4)] [.box [.str a,.str v,.int .i64 d,.bool f]])) (by kernel_rfl) ?_
 simp only [Tree.holds,zc]
 refine⟨a,⟨by simp,by omega⟩,⟨_,rfl⟩,?_⟩
 rintro _ rfl
 refine⟨v,fun _=>⟨by simp,by omega⟩,⟨_,fun _=>rfl⟩,?_⟩
 intro x hx
 refine⟨d,fun _=>⟨by simp,trivial⟩,⟨_,fun _=>rfl⟩,?_⟩
 intro y hy
 refine RetR.scal hq rfl ?_
 simp only [resV]
 cases hn:zS a with
 | false=>rfl
 | true=>
  rw [hx (by rw [hn]; rfl)] at hy ⊢
  cases hd:zS v with
  | false=>rfl
  | true=>rw [hy (by rw [hn,hd]; rfl)]; rfl
def zg6:Ctr:=ctrP true (fun l:List Fx=>[fxS l,.fn 32 [] []]) (fun l=>l.length<2^40∧∀ j,j<l.length→ka (l.getD j Fx.nil)) (fun l r=>r=idxB (fun x=> !okF x) l) (fun _ (r:Int)=>(.int .i64 r,[]))
def SIxF(l:List Fx)(i:Nat):KV:=[(0,fxS l),(1,.fn 32 [] []),(7,.int .i64 (l.length:Int)),(8,.int .i64 (i:Int))]
noncomputable def GE2F:Nat→Option Ctr:=fun f=>if f=32 then some (zg4) else none
theorem X3:∀ g c,GE2F g=some c→zd Tryz.prog g c:=okIf zdt (zq)
theorem zdo:zd Tryz.prog 65 zg6:=by
 refine ze (fn:=Tryz.f65) (c:=Tryz.f65.body.getD .skip) rfl rfl rfl fun l hl O w0 Q hq=> ?_
 obtain⟨hl,hsm⟩:=hl
 replace hq:=hq _ rfl
 refine zb.run hmix X3 [0,1,7,8] 400 (T:=.leaf (.loop (Prod.fst (lps K65 0)) (Prod.snd (lps K65 0)) [(0,.sl l.length 3 (fxG l)),(1,.fn 32 [] []),(7,.int .i64 l.length),(8,.int .i64 0)] [])) (by kernel_rfl) ?_
 simp only [Tree.holds,zc]
 refine zb.loop (ι:={i:Nat // i≤l.length∧∀ j,j<i→(!okF (l.getD j Fx.nil))=false}) (fun i=>SIxF l i.1) (fun _=>[]) (fun i=>l.length - i.1) ⟨0,Nat.zero_le _,fun j hj=>by omega⟩ 0 ?_ ?_ (by kernel_rfl)
 ·exact⟨by simp [SIxF,fxS,za],by simp,by kernel_rfl,Nat.zero_le _⟩
 ·rintro⟨i,hil,hib⟩
  refine zb.run hmix X3 [0,1,7,8] 400 (T:=.ite (decide ((↑i:Int)<l.length)) (.side ((0:Int)≤i∧(↑i:Int)<l.length) (.ex (fun(x:Fx)=>eqL [AV.agg [AV.str (Fx.name (l.getD (↑i:Int).toNat Fx.nil)),AV.int .i64 (Fx.date (l.getD (↑i:Int).toNat Fx.nil)),AV.str (Fx.value (l.getD (↑i:Int).toNat Fx.nil))]] [AV.agg [AV.str x.name,AV.int .i64 x.date,AV.str x.value]]∧ka x) fun n=>.all (fun(r:Bool)=>r = !okF n) fun n=>.ite n (.leaf (.ret [.int .i64 i] [])) (.side (inR .i64 ((↑i:Int)+(1:Int))) (.leaf (.back 0 [(0,.sl l.length 3 (fxG l)),(1,.fn 32 [] []),(7,.int .i64 l.length),(8,.int .i64 ((↑i:Int)+(1:Int)))] []))))) (.leaf (.ret [.int .i64 (-1:Int)] []))) (by kernel_rfl) ?_
  simp only [Tree.holds,zc,inR,lo,hi,Int.toNat_natCast]
  refine⟨fun hlt=> ?_,fun hge=> ?_⟩
  ·have hlt:i<l.length:=by have:=of_decide_eq_true hlt; omega
   refine⟨by omega,fun _=>⟨l.getD i Fx.nil,⟨by simp,hsm i hlt⟩,⟨_,rfl⟩,?_⟩⟩
   rintro _ rfl
   refine⟨fun h=> ?_,fun h=>⟨by omega,fun _=> ?_⟩⟩
   ·rw [JX hlt h hib] at hq
    exact RetR.scal hq rfl (by simp [resV])
   ·rw [if_pos trivial]
    refine⟨⟨i+1,hlt,fun j hj=> ?_⟩,by show l.length - (i+1)<l.length - i; omega,by simp [SIxF,fxS,za],by simp,by kernel_rfl,Nat.zero_le _⟩
    rcases Nat.lt_or_ge j i with h1 | h1
    ·exact hib j h1
    ·have:j=i:=by omega
     rw [this]; exact h
  ·have hge:i=l.length:=by have:=of_decide_eq_false hge; omega
   subst hge
   rw [yK hib] at hq
   exact RetR.scal hq rfl (by simp [resV])
def zfv:Ctr:=ctrP true (fun l:List Fx=>[fxS l,.fn 32 [] []]) (fun l=>l.length<2^40∧∀ j,j<l.length→ka (l.getD j Fx.nil)) (fun l r=>r=l.any fun x=> !okF x) (fun _ (r:Bool)=>(.bool r,[]))
noncomputable def GE3F:Nat→Option Ctr:=fun f=>if f=65 then some (zg6) else none
theorem zds:∀ g c,GE3F g=some c→zd Tryz.prog g c:=okIf zdo (zq)
theorem zeg:zd Tryz.prog 37 zfv:=by
 refine ze (fn:=Tryz.f37) (c:=Tryz.f37.body.getD .skip) rfl rfl rfl fun l hl O w0 Q hq=> ?_
 replace hq:=hq _ rfl
 refine zb.run hmix zds [] 400 (T:=.ex (fun(x:List Fx)=>eqL [AV.sl l.length 3 (fxG l),AV.fn 32 [] []] [AV.sl x.length 3 (fxG x),AV.fn 32 [] []]∧x.length<1099511627776∧∀ (j:Nat),j<x.length→ka (x.getD j Fx.nil)) fun n=>.all (fun(r:Int)=>r=idxB (fun(x:Fx)=> !okF x) n) fun n=>.leaf (.ret [.bool (decide ((0:Int)≤n))] [])) (by kernel_rfl) ?_
 simp only [Tree.holds,zc]
 refine⟨l,⟨by simp [za],hl⟩,⟨_,rfl⟩,?_⟩
 rintro _ rfl
 rw [← W5] at hq
 exact RetR.scal hq rfl (by simp [resV])
def zfy:Ctr:=ctrP true (fun l:List Ch=>[chS l,.fn 36 [] []]) (fun l=>l.length<2^40∧∀ j,j<l.length→kJ (l.getD j Ch.nil)) (fun l r=>r=idxB (fun x=> !okC x) l) (fun _ (r:Int)=>(.int .i64 r,[]))
def SIxC(l:List Ch)(i:Nat):KV:=[(0,chS l),(1,.fn 36 [] []),(7,.int .i64 (l.length:Int)),(8,.int .i64 (i:Int))]
noncomputable def GE2C:Nat→Option Ctr:=fun f=>if f=36 then some (zg2) else none
theorem X6:∀ g c,GE2C g=some c→zd Tryz.prog g c:=okIf zfd (zq)
theorem zdv:zd Tryz.prog 66 zfy:=by
 refine ze (fn:=Tryz.f66) (c:=Tryz.f66.body.getD .skip) rfl rfl rfl fun l hl O w0 Q hq=> ?_
 obtain⟨hl,hsm⟩:=hl
 replace hq:=hq _ rfl
 refine zb.run hmix X6 [0,1,7,8] 400 (T:=.leaf (.loop (Prod.fst (lps K66 0)) (Prod.snd (lps K66 0)) [(0,.sl l.length 4 (chG l)),(1,.fn 36 [] []),(7,.int .i64 l.length),(8,.int .i64 0)] [])) (by kernel_rfl) ?_
 simp only [Tree.holds,zc]
 refine zb.loop (ι:={i:Nat // i≤l.length∧∀ j,j<i→(!okC (l.getD j Ch.nil))=false}) (fun i=>SIxC l i.1) (fun _=>[]) (fun i=>l.length - i.1) ⟨0,Nat.zero_le _,fun j hj=>by omega⟩ 0 ?_ ?_ (by kernel_rfl)
 ·exact⟨by simp [SIxC,chS,za],by simp,by kernel_rfl,Nat.zero_le _⟩
 ·rintro⟨i,hil,hib⟩
  refine zb.run hmix X6 [0,1,7,8] 400 (T:=.ite (decide ((↑i:Int)<l.length)) (.side ((0:Int)≤i∧(↑i:Int)<l.length) (.ex (fun(x:Ch)=>eqL [AV.agg [AV.str (Ch.qi (l.getD (↑i:Int).toNat Ch.nil)),AV.str (Ch.name (l.getD (↑i:Int).toNat Ch.nil)),AV.int .i64 (Ch.date (l.getD (↑i:Int).toNat Ch.nil)),AV.bool (Ch.first (l.getD (↑i:Int).toNat Ch.nil))]] [AV.agg [AV.str x.qi,AV.str x.name,AV.int .i64 x.date,AV.bool x.first]]∧kJ x) fun n=>.all (fun(r:Bool)=>r = !okC n) fun n=>.ite n (.leaf (.ret [.int .i64 i] [])) (.side (inR .i64 ((↑i:Int)+(1:Int))) (.leaf (.back 0 [(0,.sl l.length 4 (chG l)),(1,.fn 36 [] []),(7,.int .i64 l.length),(8,.int .i64 ((↑i:Int)+(1:Int)))] []))))) (.leaf (.ret [.int .i64 (-1:Int)] []))) (by kernel_rfl) ?_
  simp only [Tree.holds,zc,inR,lo,hi,Int.toNat_natCast]
  refine⟨fun hlt=> ?_,fun hge=> ?_⟩
  ·have hlt:i<l.length:=by have:=of_decide_eq_true hlt; omega
   refine⟨by omega,fun _=>⟨l.getD i Ch.nil,⟨by simp,hsm i hlt⟩,⟨_,rfl⟩,?_⟩⟩
   rintro _ rfl
   refine⟨fun h=> ?_,fun h=>⟨by omega,fun _=> ?_⟩⟩
   ·rw [JX hlt h hib] at hq
    exact RetR.scal hq rfl (by simp [resV])
   ·rw [if_pos trivial]
    refine⟨⟨i+1,hlt,fun j hj=> ?_⟩,by show l.length - (i+1)<l.length - i; omega,by simp [SIxC,chS,za],by simp,by kernel_rfl,Nat.zero_le _⟩
    rcases Nat.lt_or_ge j i with h1 | h1
    ·exact hib j h1
    ·have:j=i:=by omega
     rw [this]; exact h
  ·have hge:i=l.length:=by have:=of_decide_eq_false hge; omega
   subst hge
   rw [yK hib] at hq
   exact RetR.scal hq rfl (by simp [resV])
def zfz:Ctr:=ctrP true (fun l:List Ch=>[chS l,.fn 36 [] []]) (fun l=>l.length<2^40∧∀ j,j<l.length→kJ (l.getD j Ch.nil)) (fun l r=>r=l.any fun x=> !okC x) (fun _ (r:Bool)=>(.bool r,[]))
noncomputable def GE3C:Nat→Option Ctr:=fun f=>if f=66 then some (zfy) else none
theorem zeu:∀ g c,GE3C g=some c→zd Tryz.prog g c:=okIf zdv (zq)
theorem zfn:zd Tryz.prog 38 zfz:=by
 refine ze (fn:=Tryz.f38) (c:=Tryz.f38.body.getD .skip) rfl rfl rfl fun l hl O w0 Q hq=> ?_
 replace hq:=hq _ rfl
 refine zb.run hmix zeu [] 400 (T:=.ex (fun(x:List Ch)=>eqL [AV.sl l.length 4 (chG l),AV.fn 36 [] []] [AV.sl x.length 4 (chG x),AV.fn 36 [] []]∧x.length<1099511627776∧∀ (j:Nat),j<x.length→kJ (x.getD j Ch.nil)) fun n=>.all (fun(r:Int)=>r=idxB (fun(x:Ch)=> !okC x) n) fun n=>.leaf (.ret [.bool (decide ((0:Int)≤n))] [])) (by kernel_rfl) ?_
 simp only [Tree.holds,zc]
 refine⟨l,⟨by simp [za],hl⟩,⟨_,rfl⟩,?_⟩
 rintro _ rfl
 rw [← W5] at hq
 exact RetR.scal hq rfl (by simp [resV])
def zg0:Ctr:=ctrP true (fun l:List Fx=>[fxS l,.fn 40 [] []]) (fun l=>l.length<2^40) (fun l r=>r=ordB cmpF Fx.nil l) (fun _ (r:Bool)=>(.bool r,[]))
def SOdF(l:List Fx)(i:Nat):KV:=[(0,fxS l),(1,.fn 40 [] []),(5,.int .i64 (i:Int))]
noncomputable def GE4F:Nat→Option Ctr:=fun f=>if f=40 then some (Z1) else none
theorem Yq:∀ g c,GE4F g=some c→zd Tryz.prog g c:=okIf uV (zq)
theorem ze4:zd Tryz.prog 39 zg0:=by
 refine ze (fn:=Tryz.f39) (c:=Tryz.f39.body.getD .skip) rfl rfl rfl fun l hl O w0 Q hq=> ?_
 replace hq:=hq _ rfl
 refine zb.run hmix Yq [0,1,5] 400 (T:=.leaf (.loop (Prod.fst (lps K39 0)) (Prod.snd (lps K39 0)) [(0,.sl l.length 3 (fxG l)),(1,.fn 40 [] []),(5,.int .i64 1)] [])) (by kernel_rfl) ?_
 simp only [Tree.holds,zc]
 refine zb.loop (ι:={i:Nat // 0<i∧(i≤l.length∨i=1)∧∀ j,j+1<i→cmpF (l.getD j Fx.nil) (l.getD (j+1) Fx.nil)<0}) (fun i=>SOdF l i.1) (fun _=>[]) (fun i=>l.length - i.1) ⟨1,Nat.one_pos,.inr rfl,fun j hj=>by omega⟩ 0 ?_ ?_ (by kernel_rfl)
 ·exact⟨by simp [SOdF,fxS,za],by simp,by kernel_rfl,Nat.zero_le _⟩
 ·rintro⟨i,hi0,hil,hib⟩
  refine zb.run hmix Yq [0,1,5] 400 (T:=.ite (decide ((↑i:Int)<l.length)) (.side (inR .i64 ((↑i:Int) - (1:Int))) (.side ((0:Int)≤i - (1:Int)∧(↑i:Int) - (1:Int)<l.length) (.side ((0:Int)≤i∧(↑i:Int)<l.length) (.ex (fun(x:Fx×Fx)=>eqL [AV.agg [AV.str (Fx.name (l.getD (Int.toNat ((↑i:Int) - (1:Int))) Fx.nil)),AV.int .i64 (Fx.date (l.getD (Int.toNat ((↑i:Int) - (1:Int))) Fx.nil)),AV.str (Fx.value (l.getD (Int.toNat ((↑i:Int) - (1:Int))) Fx.nil))],AV.agg [AV.str (Fx.name (l.getD (↑i:Int).toNat Fx.nil)),AV.int .i64 (Fx.date (l.getD (↑i:Int).toNat Fx.nil)),AV.str (Fx.value (l.getD (↑i:Int).toNat Fx.nil))]] [AV.agg [AV.str x.1.name,AV.int .i64 x.1.date,AV.str x.1.value],AV.agg [AV.str x.2.name,AV.int .i64 x.2.date,AV.str x.2.value]]∧True) fun n=>.all (fun(r:Int)=>r=cmpF n.1 n.2) fun n=>.ite (decide ((0:Int)≤n)) (.leaf (.ret [.bool false] [])) (.side (inR .i64 ((↑i:Int)+(1:Int))) (.leaf (.back 0 [(0,.sl l.length 3 (fxG l)),(1,.fn 40 [] []),(5,.int .i64 ((↑i:Int)+(1:Int)))] []))))))) (.leaf (.ret [.bool true] []))) (by kernel_rfl) ?_
  simp only [Tree.holds,zc,inR,lo,hi,Int.toNat_natCast]
  have e:((i:Int) - 1).toNat=i - 1:=by omega
  have e2:i - 1+1=i:=by omega
  refine⟨fun hlt=> ?_,fun hge=> ?_⟩
  ·have hlt:i<l.length:=by have:=of_decide_eq_true hlt; omega
   simp only [e]
   refine⟨by omega,fun _=>⟨by omega,fun _=>⟨by omega,fun _=>⟨(l.getD (i - 1) Fx.nil,l.getD i Fx.nil),⟨by simp,trivial⟩,⟨_,rfl⟩,?_⟩⟩⟩⟩
   rintro _ rfl
   refine⟨fun h=> ?_,fun h=>⟨by omega,fun _=> ?_⟩⟩
   ·have h:=of_decide_eq_true h
    rw [Wt (z:=Fx.nil) (j:=i - 1) (by omega) (by rw [e2]; simp only at h; omega)] at hq
    exact RetR.scal hq rfl (by simp [resV])
   ·have h:=of_decide_eq_false h
    rw [if_pos trivial]
    refine⟨⟨i+1,by omega,.inl hlt,fun j hj=> ?_⟩,by show l.length - (i+1)<l.length - i; omega,by simp [SOdF,fxS,za],by simp,by kernel_rfl,Nat.zero_le _⟩
    rcases Nat.lt_or_ge (j+1) i with h1 | h1
    ·exact hib j h1
    ·have:j=i - 1:=by omega
     rw [this,e2]; simp only at h; omega
  ·have hge:l.length≤i:=by have:=of_decide_eq_false hge; omega
   rw [ZK (z:=Fx.nil) fun j hj=>hib j (by omega)] at hq
   exact RetR.scal hq rfl (by simp [resV])
def zg9:Ctr:=ctrP true (fun l:List Ch=>[chS l,.fn 42 [] []]) (fun l=>l.length<2^40) (fun l r=>r=ordB cmpC Ch.nil l) (fun _ (r:Bool)=>(.bool r,[]))
def SOdC(l:List Ch)(i:Nat):KV:=[(0,chS l),(1,.fn 42 [] []),(5,.int .i64 (i:Int))]
noncomputable def GE4C:Nat→Option Ctr:=fun f=>if f=42 then some (Qk) else none
theorem Ya:∀ g c,GE4C g=some c→zd Tryz.prog g c:=okIf Qb (zq)
theorem zeo:zd Tryz.prog 41 zg9:=by
 refine ze (fn:=Tryz.f41) (c:=Tryz.f41.body.getD .skip) rfl rfl rfl fun l hl O w0 Q hq=> ?_
 replace hq:=hq _ rfl
 refine zb.run hmix Ya [0,1,5] 400 (T:=.leaf (.loop (Prod.fst (lps K41 0)) (Prod.snd (lps K41 0)) [(0,.sl l.length 4 (chG l)),(1,.fn 42 [] []),(5,.int .i64 1)] [])) (by kernel_rfl) ?_
 simp only [Tree.holds,zc]
 refine zb.loop (ι:={i:Nat // 0<i∧(i≤l.length∨i=1)∧∀ j,j+1<i→cmpC (l.getD j Ch.nil) (l.getD (j+1) Ch.nil)<0}) (fun i=>SOdC l i.1) (fun _=>[]) (fun i=>l.length - i.1) ⟨1,Nat.one_pos,.inr rfl,fun j hj=>by omega⟩ 0 ?_ ?_ (by kernel_rfl)
 ·exact⟨by simp [SOdC,chS,za],by simp,by kernel_rfl,Nat.zero_le _⟩
 ·rintro⟨i,hi0,hil,hib⟩
  refine zb.run hmix Ya [0,1,5] 400 (T:=.ite (decide ((↑i:Int)<l.length)) (.side (inR .i64 ((↑i:Int) - (1:Int))) (.side ((0:Int)≤i - (1:Int)∧(↑i:Int) - (1:Int)<l.length) (.side ((0:Int)≤i∧(↑i:Int)<l.length) (.ex (fun(x:Ch×Ch)=>eqL [AV.agg [AV.str (Ch.qi (l.getD (Int.toNat ((↑i:Int) - (1:Int))) Ch.nil)),AV.str (Ch.name (l.getD (Int.toNat ((↑i:Int) - (1:Int))) Ch.nil)),AV.int .i64 (Ch.date (l.getD (Int.toNat ((↑i:Int) - (1:Int))) Ch.nil)),AV.bool (Ch.first (l.getD (Int.toNat ((↑i:Int) - (1:Int))) Ch.nil))],AV.agg [AV.str (Ch.qi (l.getD (↑i:Int).toNat Ch.nil)),AV.str (Ch.name (l.getD (↑i:Int).toNat Ch.nil)),AV.int .i64 (Ch.date (l.getD (↑i:Int).toNat Ch.nil)),AV.bool (Ch.first (l.getD (↑i:Int).toNat Ch.nil))]] [AV.agg [AV.str x.1.qi,AV.str x.1.name,AV.int .i64 x.1.date,AV.bool x.1.first],AV.agg [AV.str x.2.qi,AV.str x.2.name,AV.int .i64 x.2.date,AV.bool x.2.first]]∧True) fun n=>.all (fun(r:Int)=>r=cmpC n.1 n.2) fun n=>.ite (decide ((0:Int)≤n)) (.leaf (.ret [.bool false] [])) (.side (inR .i64 ((↑i:Int)+(1:Int))) (.leaf (.back 0 [(0,.sl l.length 4 (chG l)),(1,.fn 42 [] []),(5,.int .i64 ((↑i:Int)+(1:Int)))] []))))))) (.leaf (.ret [.bool true] []))) (by kernel_rfl) ?_
  simp only [Tree.holds,zc,inR,lo,hi,Int.toNat_natCast]
  have e:((i:Int) - 1).toNat=i - 1:=by omega
  have e2:i - 1+1=i:=by omega
  refine⟨fun hlt=> ?_,fun hge=> ?_⟩
  ·have hlt:i<l.length:=by have:=of_decide_eq_true hlt; omega
   simp only [e]
   refine⟨by omega,fun _=>⟨by omega,fun _=>⟨by omega,fun _=>⟨(l.getD (i - 1) Ch.nil,l.getD i Ch.nil),⟨by simp,trivial⟩,⟨_,rfl⟩,?_⟩⟩⟩⟩
   rintro _ rfl
   refine⟨fun h=> ?_,fun h=>⟨by omega,fun _=> ?_⟩⟩
   ·have h:=of_decide_eq_true h
    rw [Wt (z:=Ch.nil) (j:=i - 1) (by omega) (by rw [e2]; simp only at h; omega)] at hq
    exact RetR.scal hq rfl (by simp [resV])
   ·have h:=of_decide_eq_false h
    rw [if_pos trivial]
    refine⟨⟨i+1,by omega,.inl hlt,fun j hj=> ?_⟩,by show l.length - (i+1)<l.length - i; omega,by simp [SOdC,chS,za],by simp,by kernel_rfl,Nat.zero_le _⟩
    rcases Nat.lt_or_ge (j+1) i with h1 | h1
    ·exact hib j h1
    ·have:j=i - 1:=by omega
     rw [this,e2]; simp only at h; omega
  ·have hge:l.length≤i:=by have:=of_decide_eq_false hge; omega
   rw [ZK (z:=Ch.nil) fun j hj=>hib j (by omega)] at hq
   exact RetR.scal hq rfl (by simp [resV])
def envP(p:List Fx×List Ch):Prop:=p.1.length<2^40∧p.2.length<2^40∧(∀ j,j<p.1.length→ka (p.1.getD j Fx.nil))∧∀ j,j<p.2.length→kJ (p.2.getD j Ch.nil)
def JN:Ctr:=ctrP true (fun p:List Fx×List Ch=>[envA p.1 p.2]) envP (fun p r=>r=errE p.1 p.2) (fun _ (r:Int)=>(.int .i64 r,[]))
noncomputable def GE5:Nat→Option Ctr:=fun f=>if f=37 then some (zfv) else if f=38 then some (zfz) else if f=39 then some (zg0) else if f=41 then some (zg9) else none
theorem zhi:∀ g c,GE5 g=some c→zd Tryz.prog g c:=okIf zeg (okIf zfn (okIf ze4 (okIf zeo (zq))))
theorem QO:zd Tryz.prog 9 JN:=by
 refine ze (fn:=Tryz.f9) (c:=Tryz.f9.body.getD .skip) rfl rfl rfl fun p hp O w0 Q hq=> ?_
 obtain⟨f,c⟩:=p
 obtain⟨h1,h2,h3,h4⟩:=hp
 replace hq:=hq _ rfl
 simp only at hq h1 h2 h3 h4
 refine zb.run hmix zhi [] 400 (T:=.ite (bif decide ((1000:Int)<f.length) then true else decide ((1000:Int)<c.length)) (.leaf (.ret [.int .i64 4] [.box [.sl f.length 3 (fxG f),.sl c.length 4 (chG c)]])) (.ex (fun(x:List Fx)=>eqL [AV.sl f.length 3 (fxG f),AV.fn 32 [] []] [AV.sl x.length 3 (fxG x),AV.fn 32 [] []]∧x.length<1099511627776∧∀ (j:Nat),j<x.length→ka (x.getD j Fx.nil)) fun n=>.all (fun(r:Bool)=>r=List.any n fun(x:Fx)=> !okF x) fun n=>.ex (fun(x:List Ch)=>n=false→eqL [AV.sl c.length 4 (chG c),AV.fn 36 [] []] [AV.sl x.length 4 (chG x),AV.fn 36 [] []]∧x.length<1099511627776∧∀ (j:Nat),j<x.length→kJ (x.getD j Ch.nil)) fun n_1=>.all (fun(x:Bool)=>n=false→x=List.any n_1 fun(x:Ch)=> !okC x) fun n_2=>.ex (fun(x:List Fx)=>(bif n then true else n_2)=false→eqL [AV.sl f.length 3 (fxG f),AV.fn 40 [] []] [AV.sl x.length 3 (fxG x),AV.fn 40 [] []]∧x.length<1099511627776) fun n_3=>.all (fun(x:Bool)=>(bif n then true else n_2)=false→x=ordB cmpF Fx.nil n_3) fun n_4=>.ex (fun(x:List Ch)=>(bif bif n then true else n_2 then true else !n_4)=false→eqL [AV.sl c.length 4 (chG c),AV.fn 42 [] []] [AV.sl x.length 4 (chG x),AV.fn 42 [] []]∧x.length<1099511627776) fun n_5=>.all (fun(x:Bool)=>(bif bif n then true else n_2 then true else !n_4)=false→x=ordB cmpC Ch.nil n_5) fun n_6=>.ite (bif bif bif n then true else n_2 then true else !n_4 then true else !n_6) (.leaf (.ret [.int .i64 8] [.box [.sl f.length 3 (fxG f),.sl c.length 4 (chG c)]])) (.leaf (.ret [.int .i64 0] [.box [.sl f.length 3 (fxG f),.sl c.length 4 (chG c)]])))) (by kernel_rfl) ?_
 simp only [Tree.holds,zc]
 refine⟨fun h=> ?_,fun h=> ?_⟩
 ·have h:1000<f.length∨1000<c.length:=by
   rw [Bool.cond_eq_ite] at h
   split at h
   ·rename_i h1; left; have:=of_decide_eq_true h1; omega
   ·right; have:=of_decide_eq_true h; omega
  have:errE f c=4:=if_pos h
  rw [this] at hq; exact RetR.scal hq rfl (by simp [resV])
 ·have h:¬ (1000<f.length∨1000<c.length):=by
   rw [Bool.cond_eq_ite] at h
   split at h
   ·cases h
   ·rename_i h1
    have h2:=of_decide_eq_false h
    rintro(h3 | h3)
    ·exact h1 (decide_eq_true (by omega))
    ·omega
  have he:errE f c=if(f.all okF&&c.all okC&&ordB cmpF Fx.nil f&&ordB cmpC Ch.nil c)=true then 0 else 8:=if_neg h
  have a1:(f.any fun x=> !okF x) = !f.all okF:=by rw [List.not_all_eq_any_not]
  have a2:(c.any fun x=> !okC x) = !c.all okC:=by rw [List.not_all_eq_any_not]
  refine⟨f,⟨by simp [za],h1,h3⟩,⟨_,rfl⟩,?_⟩
  rintro _ rfl
  refine⟨c,fun _=>⟨by simp [za],h2,h4⟩,⟨_,fun _=>rfl⟩,?_⟩
  intro b1 g1
  refine⟨f,fun _=>⟨by simp [za],h1⟩,⟨_,fun _=>rfl⟩,?_⟩
  intro b2 g2
  refine⟨c,fun _=>⟨by simp [za],h2⟩,⟨_,fun _=>rfl⟩,?_⟩
  intro b3 g3
  rw [a1] at g1 g2 g3 ⊢
  rw [a2] at g1
  clear a1 a2
  generalize f.all okF=p1 at *
  generalize c.all okC=p2 at *
  generalize ordB cmpF Fx.nil f=p3 at *
  generalize ordB cmpC Ch.nil c=p4 at *
  have key:(bif bif bif !p1 then true else b1 then true else !b2 then true else !b3) = !(p1&&p2&&p3&&p4):=by
   cases p1 with
   | false=>rfl
   | true=>
    have g1:=g1 rfl
    subst g1
    cases p2 with
    | false=>rfl
    | true=>
     have g2:=g2 rfl
     subst g2
     cases b2 with
     | false=>rfl
     | true=>have g3:=g3 rfl; subst g3; rfl
  rw [key]
  clear key g1 g2 g3
  generalize (p1&&p2&&p3&&p4)=q at *
  refine⟨fun h=> ?_,fun h=> ?_⟩
  ·cases q with
   | true=>cases h
   | false=>rw [he,if_neg (by decide)] at hq; exact RetR.scal hq rfl (by simp [resV])
  ·cases q with
   | false=>cases h
   | true=>rw [he,if_pos rfl] at hq; exact RetR.scal hq rfl (by simp [resV])
noncomputable def K25:List Go.Sx.Item:=[.code (Tryz.f25.body.getD .skip)]
def SSE(i:Nat):KV:=[(2,.ptr 0 0),(3,.ptr 1 0),(5,.int .i64 (i:Int)),(6,.undef)]
def SSE2(i:Nat):KV:=[(2,.ptr 0 0),(3,.ptr 1 0),(5,.undef),(6,.int .i64 (i:Int))]
def HSE(f f2:List Fx)(c c2:List Ch):Heap:=[.box [fxS f,chS c],.box [fxS f2,chS c2]]
def Kb:Ctr:=ctrP true (fun p:(List Fx×List Ch)×(List Fx×List Ch)=>[envA p.1.1 p.1.2,envA p.2.1 p.2.2]) (fun p=>p.1.1.length<2^40∧p.1.2.length<2^40) (fun p r=>(r=true↔p.1=p.2)) (fun _ (r:Bool)=>(.bool r,[]))
theorem WI{O:Nat→Prop}{w0:World}{Q:AV×Heap→Prop}{Hs:Nat→KV→Heap→Prop}(f f2:List Fx)(c c2:List Ch)(h2:c.length<2^40)(hf:f=f2)(hl:c.length=c2.length)(hq:∀ (r:Bool),(r=true↔(f,c)=(f2,c2))→Q (.bool r,[]))(kv:KV)(h:Heap)(hle:LeK 0 Tryz.f25.ntmps kv h (SSE2 0) (HSE f f2 c c2)) :
  zb Tryz.prog Tryz.f25 O 0 w0 [] Hs (RetR Kb 0 Q) (.code (.loop (lps (inside K25 0) 0).1)::(lps (inside K25 0) 0).2) (mk Tryz.f25.ntmps kv h):=by
 refine zb.loop (ι:={i:Nat // i≤c.length∧∀ j,j<i→c.getD j Ch.nil=c2.getD j Ch.nil}) (fun i=>SSE2 i.1) (fun _=>HSE f f2 c c2) (fun i=>c.length - i.1) ⟨0,Nat.zero_le _,fun j hj=>by omega⟩ 0 hle ?_ (by kernel_rfl)
 rintro⟨i,hil,hib⟩
 refine zb.run hmix z7 [2,3,5,6] 400 (T:=.ite (decide ((↑i:Int)<c.length)) (.side ((0:Int)≤i∧(↑i:Int)<c.length) (.side ((0:Int)≤i∧(↑i:Int)<c2.length) (.ite (!(decide (Ch.qi (c.getD (↑i:Int).toNat Ch.nil)=Ch.qi (c2.getD (↑i:Int).toNat Ch.nil))&&(decide (Ch.name (c.getD (↑i:Int).toNat Ch.nil)=Ch.name (c2.getD (↑i:Int).toNat Ch.nil))&&(decide (Ch.date (c.getD (↑i:Int).toNat Ch.nil)=Ch.date (c2.getD (↑i:Int).toNat Ch.nil))&&(Ch.first (c.getD (↑i:Int).toNat Ch.nil) == Ch.first (c2.getD (↑i:Int).toNat Ch.nil)&&true))))) (.leaf (.ret [.bool false] [.box [.sl f.length 3 (fxG f),.sl c.length 4 (chG c)],.box [.sl f2.length 3 (fxG f2),.sl c2.length 4 (chG c2)]])) (.side (inR .i64 ((↑i:Int)+(1:Int))) (.leaf (.back 0 [(2,.ptr 0 0),(3,.ptr 1 0),(5,.undef),(6,.int .i64 ((↑i:Int)+(1:Int)))] [.box [.sl f.length 3 (fxG f),.sl c.length 4 (chG c)],.box [.sl f2.length 3 (fxG f2),.sl c2.length 4 (chG c2)]])))))) (.leaf (.ret [.bool true] [.box [.sl f.length 3 (fxG f),.sl c.length 4 (chG c)],.box [.sl f2.length 3 (fxG f2),.sl c2.length 4 (chG c2)]]))) (by kernel_rfl) ?_
 simp only [Tree.holds,zc,inR,lo,hi,Int.toNat_natCast]
 refine⟨fun hlt=> ?_,fun hge=> ?_⟩
 ·have hlt:i<c.length:=by have:=of_decide_eq_true hlt; omega
  refine⟨by omega,fun _=>⟨by omega,fun _=>⟨fun h=> ?_,fun h=>⟨by omega,fun _=> ?_⟩⟩⟩⟩
  ·refine RetR.scal (hq false ⟨fun h=>(by cases h),fun he=> ?_⟩) rfl (by simp [resV])
   have hc:c=c2:=(Prod.mk.inj he).2
   have:=Ch.eq_iff.2 (show c.getD i Ch.nil=c2.getD i Ch.nil by rw [hc])
   rw [this] at h; cases h
  ·rw [if_pos trivial]
   have he:=Ch.eq_iff.1 (by simpa only [Bool.not_eq_false'] using h)
   refine⟨⟨i+1,hlt,fun j hj=> ?_⟩,by show c.length - (i+1)<c.length - i; omega,by simp [SSE2],by simp [HSE,fxS,chS,za],by kernel_rfl,Nat.zero_le _⟩
   rcases Nat.lt_or_ge j i with h1 | h1
   ·exact hib j h1
   ·have:j=i:=by omega
    rw [this]; exact he
 ·have hge:i=c.length:=by have:=of_decide_eq_false hge; omega
  subst hge
  have hc:=WW hl hib
  exact RetR.scal (hq true ⟨fun _=>by rw [hf,hc],fun _=>rfl⟩) rfl (by simp [resV])
theorem zcr:zd Tryz.prog 25 Kb:=by
 refine ze (fn:=Tryz.f25) (c:=Tryz.f25.body.getD .skip) rfl rfl rfl fun p hp O w0 Q hq=> ?_
 obtain⟨⟨f,c⟩,⟨f2,c2⟩⟩:=p
 obtain⟨h1,h2⟩:=hp
 simp only at hq h1 h2
 refine zb.run hmix z7 [2,3,5,6] 400 (T:=.ite (bif !decide ((↑f.length:Int)=f2.length) then true else !decide ((↑c.length:Int)=c2.length)) (.leaf (.ret [.bool false] [.box [.sl f.length 3 (fxG f),.sl c.length 4 (chG c)],.box [.sl f2.length 3 (fxG f2),.sl c2.length 4 (chG c2)]])) (.leaf (.loop (Prod.fst (lps K25 0)) (Prod.snd (lps K25 0)) [(2,.ptr 0 0),(3,.ptr 1 0),(5,.int .i64 0),(6,.undef)] [.box [.sl f.length 3 (fxG f),.sl c.length 4 (chG c)],.box [.sl f2.length 3 (fxG f2),.sl c2.length 4 (chG c2)]]))) (by kernel_rfl) ?_
 simp only [Tree.holds,zc]
 refine⟨fun h=> ?_,fun h=> ?_⟩
 ·refine RetR.scal (hq false ⟨fun h=>(by cases h),fun he=> ?_⟩) rfl (by simp [resV])
  obtain⟨e1,e2⟩:=Prod.mk.inj he
  subst e1; subst e2
  simp at h
 ·have hl:f.length=f2.length∧c.length=c2.length:=by
   by_cases e1:f.length=f2.length
   ·by_cases e2:c.length=c2.length
    ·exact⟨e1,e2⟩
    ·rw [decide_eq_false (show ¬ ((c.length:Nat):Int)=c2.length by omega)] at h
     rw [decide_eq_true (show((f.length:Nat):Int)=f2.length by omega)] at h
     cases h
   ·rw [decide_eq_false (show ¬ ((f.length:Nat):Int)=f2.length by omega)] at h
    cases h
  refine zb.loop (ι:={i:Nat // i≤f.length∧∀ j,j<i→f.getD j Fx.nil=f2.getD j Fx.nil}) (fun i=>SSE i.1) (fun _=>HSE f f2 c c2) (fun i=>f.length - i.1) ⟨0,Nat.zero_le _,fun j hj=>by omega⟩ 0 ?_ ?_ (by kernel_rfl)
  ·exact⟨by simp [SSE],by simp [HSE,fxS,chS,za],by kernel_rfl,Nat.zero_le _⟩
  ·rintro⟨i,hil,hib⟩
   refine zb.run hmix z7 [2,3,5,6] 400 (T:=.ite (decide ((↑i:Int)<f.length)) (.side ((0:Int)≤i∧(↑i:Int)<f.length) (.side ((0:Int)≤i∧(↑i:Int)<f2.length) (.ite (!(decide (Fx.name (f.getD (↑i:Int).toNat Fx.nil)=Fx.name (f2.getD (↑i:Int).toNat Fx.nil))&&(decide (Fx.date (f.getD (↑i:Int).toNat Fx.nil)=Fx.date (f2.getD (↑i:Int).toNat Fx.nil))&&(decide (Fx.value (f.getD (↑i:Int).toNat Fx.nil)=Fx.value (f2.getD (↑i:Int).toNat Fx.nil))&&true)))) (.leaf (.ret [.bool false] [.box [.sl f.length 3 (fxG f),.sl c.length 4 (chG c)],.box [.sl f2.length 3 (fxG f2),.sl c2.length 4 (chG c2)]])) (.side (inR .i64 ((↑i:Int)+(1:Int))) (.leaf (.back 0 [(2,.ptr 0 0),(3,.ptr 1 0),(5,.int .i64 ((↑i:Int)+(1:Int))),(6,.undef)] [.box [.sl f.length 3 (fxG f),.sl c.length 4 (chG c)],.box [.sl f2.length 3 (fxG f2),.sl c2.length 4 (chG c2)]])))))) (.leaf (.loop (Prod.fst (lps (inside K25 0) 0)) (Prod.snd (lps (inside K25 0) 0)) [(2,.ptr 0 0),(3,.ptr 1 0),(5,.int .i64 i),(6,.int .i64 0)] [.box [.sl f.length 3 (fxG f),.sl c.length 4 (chG c)],.box [.sl f2.length 3 (fxG f2),.sl c2.length 4 (chG c2)]]))) (by kernel_rfl) ?_
   simp only [Tree.holds,zc,inR,lo,hi,Int.toNat_natCast]
   refine⟨fun hlt=> ?_,fun hge=> ?_⟩
   ·have hlt:i<f.length:=by have:=of_decide_eq_true hlt; omega
    refine⟨by omega,fun _=>⟨by omega,fun _=>⟨fun h=> ?_,fun h=>⟨by omega,fun _=> ?_⟩⟩⟩⟩
    ·refine RetR.scal (hq false ⟨fun h=>(by cases h),fun he=> ?_⟩) rfl (by simp [resV])
     have hc:f=f2:=(Prod.mk.inj he).1
     have:=Fx.eq_iff.2 (show f.getD i Fx.nil=f2.getD i Fx.nil by rw [hc])
     rw [this] at h; cases h
    ·rw [if_pos trivial]
     have he:=Fx.eq_iff.1 (by simpa only [Bool.not_eq_false'] using h)
     refine⟨⟨i+1,hlt,fun j hj=> ?_⟩,by show f.length - (i+1)<f.length - i; omega,by simp [SSE],by simp [HSE,fxS,chS,za],by kernel_rfl,Nat.zero_le _⟩
     rcases Nat.lt_or_ge j i with h1 | h1
     ·exact hib j h1
     ·have:j=i:=by omega
      rw [this]; exact he
   ·have hge:i=f.length:=by have:=of_decide_eq_false hge; omega
    subst hge
    have hf:=WW hl.1 hib
    exact WI f f2 c c2 h2 hf hl.2 hq _ _ ⟨by simp [SSE2],by simp [HSE,fxS,chS,za],by kernel_rfl,Nat.zero_le _⟩
def HE(f:List Fx)(c:List Ch):Heap:=[.box [fxS f,chS c]]
def zfw:Ctr:=ctrP true (fun p:(List Fx×List Ch)×(List UInt8×Int)=>[envA p.1.1 p.1.2,.str p.2.1,.int .i64 p.2.2]) (fun p=>p.1.1.length<2^40) (fun p r=>r=zF p.1.1 p.2.1 p.2.2) (fun _ r=>(.tup [.str r.1,.bool r.2],[]))
theorem zfg{n:Nat}{g:Nat→Nat→AV}{l:List Fx}(h:eqG n 3 g (fxG l)):newB (.arr n 3 g):=fun j o hj ho=>by rw [h j o hj ho]; exact X5 l j o ho
theorem Yd{n:Nat}{g:Nat→Nat→AV}{l:List Ch}(h:eqG n 4 g (chG l)):newB (.arr n 4 g):=fun j o hj ho=>by rw [h j o hj ho]; exact XK l j o ho
noncomputable def K7:List Go.Sx.Item:=[.code (Tryz.f7.body.getD .skip)]
def zba(f:Fx):Prop:=f.name.length<2^49∧f.value.length<2^49
def XJ(c:Ch):Prop:=c.qi.length<2^49∧c.name.length<2^49
def fitP(p:List Fx×List Ch):Prop:=p.1.length≤1100∧p.2.length≤1100∧(∀ j,j<p.1.length→(p.1.getD j Fx.nil).name.length≤20000∧(p.1.getD j Fx.nil).value.length≤20000)∧∀ j,j<p.2.length→(p.2.getD j Ch.nil).qi.length≤20000∧(p.2.getD j Ch.nil).name.length≤20000
def Xt:Ctr:=ctrP true (fun p:List Fx×List Ch=>[envA p.1 p.2]) (fun p=>p.1.length<2^60∧p.2.length<2^60∧(∀ j,j<p.1.length→zba (p.1.getD j Fx.nil))∧∀ j,j<p.2.length→XJ (p.2.getD j Ch.nil)) (fun p r=>r=false→fitP p) (fun _ (r:Bool)=>(.bool r,[]))
def SGq(n i:Nat):KV:=[(1,.ptr 0 0),(3,.int .i64 (n:Int)),(4,.int .i64 (i:Int)),(5,.undef)]
def SGq2(n i:Nat):KV:=[(1,.ptr 0 0),(3,.int .i64 (n:Int)),(4,.undef),(5,.int .i64 (i:Int))]
theorem Wz{O:Nat→Prop}{w0:World}{Q:AV×Heap→Prop}{Hs:Nat→KV→Heap→Prop}(f:List Fx)(c:List Ch)(n:Nat)(hf:f.length≤1100)(hc:c.length≤1100)(h3:∀ j,j<c.length→XJ (c.getD j Ch.nil))(hn:n≤1100*2^50)(hnf:∀ j,j<f.length→(f.getD j Fx.nil).name.length≤n∧(f.getD j Fx.nil).value.length≤n)
  (hq:∀ r:Bool,(r=false→fitP (f,c))→Q (.bool r,[])) (kv:KV) (h:Heap) (hle:LeK 0 Tryz.f7.ntmps kv h (SGq2 n 0) (HE f c)) :
  zb Tryz.prog Tryz.f7 O 0 w0 [] Hs (RetR Xt 0 Q) (.code (.loop (lps (inside K7 0) 0).1)::(lps (inside K7 0) 0).2) (mk Tryz.f7.ntmps kv h):=by
 refine zb.loop (ι:={p:Nat×Nat // p.2≤c.length∧n≤p.1∧p.1≤(1100+p.2)*2^50∧∀ j,j<p.2→(c.getD j Ch.nil).qi.length≤p.1∧(c.getD j Ch.nil).name.length≤p.1}) (fun p=>SGq2 p.1.1 p.1.2) (fun _=>HE f c) (fun p=>c.length - p.1.2) ⟨(n,0),Nat.zero_le _,Nat.le_refl _,by simpa using hn,fun j hj=>by simp at hj⟩ 0 hle ?_ (by kernel_rfl)
 rintro⟨⟨m,i⟩,hil,hnm,hm,hib⟩
 simp only at hil hnm hm hib
 refine zb.run hmix z7 [1,3,4,5] 400 (T:=.ite (decide ((↑i:Int)<c.length)) (.side ((0:Int)≤i∧(↑i:Int)<c.length) (.side (inR .i64 ((↑m:Int)+(↑(List.length (Ch.qi (c.getD (↑i:Int).toNat Ch.nil))):Int))) (.side ((0:Int)≤i∧(↑i:Int)<c.length) (.side (inR .i64 ((↑m:Int)+(↑(List.length (Ch.qi (c.getD (↑i:Int).toNat Ch.nil))):Int)+(↑(List.length (Ch.name (c.getD (↑i:Int).toNat Ch.nil))):Int))) (.side (inR .i64 ((↑i:Int)+(1:Int))) (.leaf (.back 0 [(1,.ptr 0 0),(3,.int .i64 ((↑m:Int)+(↑(List.length (Ch.qi (c.getD (↑i:Int).toNat Ch.nil))):Int)+(↑(List.length (Ch.name (c.getD (↑i:Int).toNat Ch.nil))):Int))),(4,.undef),(5,.int .i64 ((↑i:Int)+(1:Int)))] [.box [.sl f.length 3 (fxG f),.sl c.length 4 (chG c)]]))))))) (.leaf (.ret [.bool (decide ((20000:Int)<m))] [.box [.sl f.length 3 (fxG f),.sl c.length 4 (chG c)]]))) (by kernel_rfl) ?_
 simp only [Tree.holds,zc,inR,lo,hi,Int.toNat_natCast]
 refine⟨fun hlt=> ?_,fun hge=> ?_⟩
 ·have hlt:i<c.length:=by have:=of_decide_eq_true hlt; omega
  obtain⟨g1,g2⟩:=h3 i hlt
  iterate 5 refine⟨by omega,fun _=> ?_⟩
  rw [if_pos trivial]
  refine⟨⟨(m+(c.getD i Ch.nil).qi.length+(c.getD i Ch.nil).name.length,i+1),hlt,by simp only; omega,by simp only; omega,fun j hj=> ?_⟩,by show c.length - (i+1)<c.length - i; omega,by simp [SGq2],by simp [HE,fxS,chS,za],by kernel_rfl,Nat.zero_le _⟩
  simp only at hj ⊢
  rcases Nat.lt_or_ge j i with h1 | h1
  ·have:=hib j h1; omega
  ·have:j=i:=by omega
   rw [this]; omega
 ·have hge:i=c.length:=by have:=of_decide_eq_false hge; omega
  subst hge
  refine RetR.scal (hq (decide (20000<(m:Int))) fun h=> ?_) rfl (by simp [resV])
  have h:=of_decide_eq_false h
  exact⟨hf,hc,fun j hj=>by have:=hnf j hj; simp only; omega,fun j hj=>by have:=hib j hj; simp only; omega⟩
theorem UO:zd Tryz.prog 7 Xt:=by
 refine ze (fn:=Tryz.f7) (c:=Tryz.f7.body.getD .skip) rfl rfl rfl fun p hp O w0 Q hq=> ?_
 obtain⟨f,c⟩:=p
 obtain⟨h1,h2,h3,h4⟩:=hp
 simp only at hq h1 h2 h3 h4
 refine zb.run hmix z7 [1,3,4,5] 400 (T:=.ite (bif decide ((1100:Int)<f.length) then true else decide ((1100:Int)<c.length)) (.leaf (.ret [.bool true] [.box [.sl f.length 3 (fxG f),.sl c.length 4 (chG c)]])) (.leaf (.loop (Prod.fst (lps K7 0)) (Prod.snd (lps K7 0)) [(1,.ptr 0 0),(3,.int .i64 0),(4,.int .i64 0),(5,.undef)] [.box [.sl f.length 3 (fxG f),.sl c.length 4 (chG c)]]))) (by kernel_rfl) ?_
 simp only [Tree.holds,zc]
 refine⟨fun h=> ?_,fun h=> ?_⟩
 ·exact RetR.scal (hq true fun h=>(by cases h)) rfl (by simp [resV])
 ·have hbig:f.length≤1100∧c.length≤1100:=by
   rw [Bool.cond_eq_ite] at h
   split at h
   ·cases h
   ·rename_i g1
    have g2:=of_decide_eq_false h
    have g1:=of_decide_eq_false (by simpa using g1:decide (1100<(f.length:Int))=false)
    omega
  obtain⟨hf,hc⟩:=hbig
  refine zb.loop (ι:={p:Nat×Nat // p.2≤f.length∧p.1≤p.2*2^50∧∀ j,j<p.2→(f.getD j Fx.nil).name.length≤p.1∧(f.getD j Fx.nil).value.length≤p.1}) (fun p=>SGq p.1.1 p.1.2) (fun _=>HE f c) (fun p=>f.length - p.1.2) ⟨(0,0),Nat.zero_le _,by simp,fun j hj=>by simp at hj⟩ 0 ?_ ?_ (by kernel_rfl)
  ·exact⟨by simp [SGq],by simp [HE,fxS,chS,za],by kernel_rfl,Nat.zero_le _⟩
  ·rintro⟨⟨m,i⟩,hil,hm,hib⟩
   simp only at hil hm hib
   refine zb.run hmix z7 [1,3,4,5] 400 (T:=.ite (decide ((↑i:Int)<f.length)) (.side ((0:Int)≤i∧(↑i:Int)<f.length) (.side (inR .i64 ((↑m:Int)+(↑(List.length (Fx.name (f.getD (↑i:Int).toNat Fx.nil))):Int))) (.side ((0:Int)≤i∧(↑i:Int)<f.length) (.side (inR .i64 ((↑m:Int)+(↑(List.length (Fx.name (f.getD (↑i:Int).toNat Fx.nil))):Int)+(↑(List.length (Fx.value (f.getD (↑i:Int).toNat Fx.nil))):Int))) (.side (inR .i64 ((↑i:Int)+(1:Int))) (.leaf (.back 0 [(1,.ptr 0 0),(3,.int .i64 ((↑m:Int)+(↑(List.length (Fx.name (f.getD (↑i:Int).toNat Fx.nil))):Int)+(↑(List.length (Fx.value (f.getD (↑i:Int).toNat Fx.nil))):Int))),(4,.int .i64 ((↑i:Int)+(1:Int))),(5,.undef)] [.box [.sl f.length 3 (fxG f),.sl c.length 4 (chG c)]]))))))) (.leaf (.loop (Prod.fst (lps (inside K7 0) 0)) (Prod.snd (lps (inside K7 0) 0)) [(1,.ptr 0 0),(3,.int .i64 m),(4,.int .i64 i),(5,.int .i64 0)] [.box [.sl f.length 3 (fxG f),.sl c.length 4 (chG c)]]))) (by kernel_rfl) ?_
   simp only [Tree.holds,zc,inR,lo,hi,Int.toNat_natCast]
   refine⟨fun hlt=> ?_,fun hge=> ?_⟩
   ·have hlt:i<f.length:=by have:=of_decide_eq_true hlt; omega
    obtain⟨g1,g2⟩:=h3 i hlt
    iterate 5 refine⟨by omega,fun _=> ?_⟩
    rw [if_pos trivial]
    refine⟨⟨(m+(f.getD i Fx.nil).name.length+(f.getD i Fx.nil).value.length,i+1),hlt,by simp only; omega,fun j hj=> ?_⟩,by show f.length - (i+1)<f.length - i; omega,by simp [SGq],by simp [HE,fxS,chS,za],by kernel_rfl,Nat.zero_le _⟩
    simp only at hj ⊢
    rcases Nat.lt_or_ge j i with h1 | h1
    ·have:=hib j h1; omega
    ·have:j=i:=by omega
     rw [this]; omega
   ·have hge:i=f.length:=by have:=of_decide_eq_false hge; omega
    subst hge
    exact Wz f c m hf hc h4 (Nat.le_trans hm (Nat.mul_le_mul_right _ hf)) hib hq _ _ ⟨by simp [SGq2],by simp [HE,fxS,chS,za],by kernel_rfl,Nat.zero_le _⟩
def XA:Ctr:=ctrP true (fun l:List Ch=>[chS l]) (fun l=>l.length<2^40) (fun _ (_:Unit)=>True) (fun l _=>(.osl 0 4 0 l.length,[.arr l.length 4 (chG l)]))
theorem YB:zd Tryz.prog 27 XA:=by
 refine W7 (fn:=Tryz.f27) (c:=Tryz.f27.body.getD .skip) rfl rfl rfl fun l hl O w0 Q hq=> ?_
 replace hq:=hq () trivial
 refine zb.run hmix z7 [] 400 (T:=.all (fun(b:Bool)=>0<l.length→b=false) fun n=>.ite n (.leaf (.ret [.nils] [])) (.side (0=0∧0≤0∧(0+l.length)*48≤140737488355328) (.leaf (.ret [.osl 0 4 0 (0+l.length)] [.arr (0+l.length) 4 (appG 0 (zg 4 []) (chG l))])))) (by kernel_rfl) ?_
 simp only [Tree.holds,zc]
 refine⟨⟨false,fun _=>rfl⟩,fun b hb=>⟨fun h=> ?_,fun h=>⟨⟨trivial,Nat.le_refl _,by omega⟩,fun _=> ?_⟩⟩⟩
 ·have h0:l=[]:=by
   rcases Nat.eq_zero_or_pos l.length with h0 | h0
   ·exact List.length_eq_zero_iff.1 h0
   ·rw [hb h0] at h; cases h
  subst h0
  refine RetR.scal (.inr ⟨.osl 0 4 0 0,[(4,chG [])],by simp [upA2,upA1,upA0],?_⟩) (r:=.nils) rfl (by simp [resV])
  exact hq
 ·refine RetR.outs [0] rfl rfl (.inl hq) (fun _=>⟨?_,?_⟩) ?_ ?_ rfl
  ·simp [resV,new2,new1,new0,zw]
  ·simp only [List.mem_cons,List.not_mem_nil,or_false,forall_eq]
   exact Yd (WG _ _ _ _)
  ·simp [resV,exp2,exp1,exp0,zw,eqA2,eqL1]
  ·exact⟨⟨by omega,rfl,WG _ _ _ _⟩,trivial⟩
def HIdF(x:Fx):Heap:=[.box [.fn 40 [] []],.box [.str x.name,.int .i64 x.date,.str x.value]]
def zfp:Ctr:=ctrT false false (fun p:Fx×Fx=>[p.1.av,.ptr 0 0,.ptr 1 0]) (fun p=>HIdF p.2) (fun _=>True) (fun p r=>r=decide (cmpF p.1 p.2=0)) (fun p (r:Bool)=>(.bool r,HIdF p.2))
noncomputable def GI1:Nat→Option Ctr:=fun f=>if f=40 then some (Z1) else if f=42 then some (Qk) else none
theorem zho:∀ g c,GI1 g=some c→zd Tryz.prog g c:=okIf uV (okIf Qb (zq))
theorem zen:zd Tryz.prog 70 zfp:=by
 refine jl (fn:=Tryz.f70) (c:=Tryz.f70.body.getD .skip) rfl rfl rfl (fun h=>by cases h) fun p hp O w0 σ0 Q hl0 hq=> ?_
 obtain⟨⟨a,d,v⟩,⟨b,e,u⟩⟩:=p
 replace hq:=hq _ rfl
 simp only at hq
 refine zb.run hmix zho [] 400 (T:=.ex (fun(x:Fx×Fx)=>eqL [AV.agg [AV.str a,AV.int .i64 d,AV.str v],AV.agg [AV.str b,AV.int .i64 e,AV.str u]] [AV.agg [AV.str x.1.name,AV.int .i64 x.1.date,AV.str x.1.value],AV.agg [AV.str x.2.name,AV.int .i64 x.2.date,AV.str x.2.value]]∧True) fun n=>.all (fun(r:Int)=>r=cmpF n.1 n.2) fun n=>.leaf (.ret [.bool (decide (n=0))] [.box [.fn 40 [] []],.box [.str b,.int .i64 e,.str u],.box [.str a,.int .i64 d,.str v]])) (by kernel_rfl) ?_
 simp only [Tree.holds,zc]
 refine⟨(⟨a,d,v⟩,⟨b,e,u⟩),⟨by simp,trivial⟩,⟨_,rfl⟩,?_⟩
 rintro _ rfl
 exact RetR.keep [0,1] rfl rfl (by show ∀ j,j<2→_; decide) rfl hq (by simp [resV,exp2,exp1,exp0,ren0,eqA2]) (by simp [expH,expB,exp1,exp0,ren0,HIdF]) rfl
def SIdF(l:List Fx)(i:Nat):KV:=[(0,fxS l),(1,.fn 70 [] [.ptr 0 0,.ptr 1 0]),(7,.int .i64 (l.length:Int)),(8,.int .i64 (i:Int))]
def zbu:Ctr:=ctrT false false (fun p:List Fx×Fx=>[fxS p.1,.fn 70 [] [.ptr 0 0,.ptr 1 0]]) (fun p=>HIdF p.2) (fun p=>p.1.length<2^40) (fun p r=>r=idxB (fun x=>decide (cmpF x p.2=0)) p.1) (fun p (r:Int)=>(.int .i64 r,HIdF p.2))
noncomputable def GI2:Nat→Option Ctr:=fun f=>if f=70 then some (zfp) else none
theorem zcl:∀ g c,GI2 g=some c→zd Tryz.prog g c:=okIf zen (zq)
theorem zeh:zd Tryz.prog 65 zbu:=by
 refine jl (fn:=Tryz.f65) (c:=Tryz.f65.body.getD .skip) rfl rfl rfl (fun h=>by cases h) fun p hl O w0 σ0 Q hl0 hq=> ?_
 obtain⟨l,x⟩:=p
 replace hq:=hq _ rfl
 simp only at hq hl
 refine zb.run hmix zcl [0,1,7,8] 400 (T:=.leaf (.loop (Prod.fst (lps K65 0)) (Prod.snd (lps K65 0)) [(0,.sl l.length 3 (fxG l)),(1,.fn 70 [] [.ptr 0 0,.ptr 1 0]),(7,.int .i64 l.length),(8,.int .i64 0)] [.box [.fn 40 [] []],.box [.str x.name,.int .i64 x.date,.str x.value]])) (by kernel_rfl) ?_
 simp only [Tree.holds,zc]
 have fin:∀ (i:Int) (h:Heap),i=idxB (fun y=>decide (cmpF y x=0)) l→h=HIdF x→RetR zbu 2 Q [.int .i64 i] h:=by
  intro i h hi2 hh
  subst hh
  rw [← hi2] at hq
  exact RetR.keep [0,1] rfl rfl (by show ∀ j,j<2→_; decide) rfl hq (by simp [resV,exp2,exp1,exp0,ren0,eqA2]) (by simp [expH,expB,exp1,exp0,ren0,HIdF]) rfl
 refine zb.loop (ι:={i:Nat // i≤l.length∧∀ j,j<i→decide (cmpF (l.getD j Fx.nil) x=0)=false}) (fun i=>SIdF l i.1) (fun _=>HIdF x) (fun i=>l.length - i.1) ⟨0,Nat.zero_le _,fun j hj=>by omega⟩ 0 ?_ ?_ (by kernel_rfl)
 ·exact⟨by simp [SIdF,fxS,za],by simp [HIdF],by kernel_rfl,Nat.le_refl _⟩
 ·rintro⟨i,hil,hib⟩
  refine zb.run hmix zcl [0,1,7,8] 400 (T:=.ite (decide ((↑i:Int)<l.length)) (.side ((0:Int)≤i∧(↑i:Int)<l.length) (.ex (fun(x_1:Fx×Fx)=>eqL [AV.agg [AV.str (Fx.name (l.getD (↑i:Int).toNat Fx.nil)),AV.int .i64 (Fx.date (l.getD (↑i:Int).toNat Fx.nil)),AV.str (Fx.value (l.getD (↑i:Int).toNat Fx.nil))],AV.ptr 0 0,AV.ptr 1 0] [AV.agg [AV.str x_1.1.name,AV.int .i64 x_1.1.date,AV.str x_1.1.value],AV.ptr 0 0,AV.ptr 1 0]∧eqH [.box [AV.fn 40 [] []],.box [AV.str x.name,AV.int .i64 x.date,AV.str x.value]] [.box [AV.fn 40 [] []],.box [AV.str x_1.2.name,AV.int .i64 x_1.2.date,AV.str x_1.2.value]]∧2=2∧True) fun n=>.all (fun(r:Bool)=>r=decide (cmpF n.1 n.2=0)) fun n_1=>.ite n_1 (.leaf (.ret [.int .i64 i] [.box [.fn 40 [] []],.box [.str n.2.name,.int .i64 n.2.date,.str n.2.value]])) (.side (inR .i64 ((↑i:Int)+(1:Int))) (.leaf (.back 0 [(0,.sl l.length 3 (fxG l)),(1,.fn 70 [] [.ptr 0 0,.ptr 1 0]),(7,.int .i64 l.length),(8,.int .i64 ((↑i:Int)+(1:Int)))] [.box [.fn 40 [] []],.box [.str n.2.name,.int .i64 n.2.date,.str n.2.value]]))))) (.leaf (.ret [.int .i64 (-1:Int)] [.box [.fn 40 [] []],.box [.str x.name,.int .i64 x.date,.str x.value]]))) (by kernel_rfl) ?_
  simp only [Tree.holds,zc,inR,lo,hi,Int.toNat_natCast]
  refine⟨fun hlt=> ?_,fun hge=> ?_⟩
  ·have hlt:i<l.length:=by have:=of_decide_eq_true hlt; omega
   refine⟨by omega,fun _=>⟨(l.getD i Fx.nil,x),⟨by simp,by simp,trivial,trivial⟩,⟨_,rfl⟩,?_⟩⟩
   rintro _ rfl
   refine⟨fun h=> ?_,fun h=>⟨by omega,fun _=> ?_⟩⟩
   ·exact fin _ _ (JX hlt h hib).symm rfl
   ·rw [if_pos trivial]
    refine⟨⟨i+1,hlt,fun j hj=> ?_⟩,by show l.length - (i+1)<l.length - i; omega,by simp [SIdF,fxS,za],by simp [HIdF],by kernel_rfl,Nat.le_refl _⟩
    rcases Nat.lt_or_ge j i with h1 | h1
    ·exact hib j h1
    ·have:j=i:=by omega
     rw [this]; exact h
  ·have hge:i=l.length:=by have:=of_decide_eq_false hge; omega
   subst hge
   exact fin _ _ (yK (p:=fun y=>decide (cmpF y x=0)) hib).symm rfl
def XS:Ctr:=ctrP true (fun p:List Fx×Fx=>[fxS p.1,p.2.av,.fn 40 [] []]) (fun p=>p.1.length<2^40) (fun p r=>r=idxB (fun x=>decide (cmpF x p.2=0)) p.1) (fun _ (r:Int)=>(.int .i64 r,[]))
noncomputable def GI3:Nat→Option Ctr:=fun f=>if f=65 then some (zbu) else none
theorem zhf:∀ g c,GI3 g=some c→zd Tryz.prog g c:=okIf zeh (zq)
theorem YS:zd Tryz.prog 43 XS:=by
 refine ze (fn:=Tryz.f43) (c:=Tryz.f43.body.getD .skip) rfl rfl rfl fun p hp O w0 Q hq=> ?_
 obtain⟨l,⟨a,d,v⟩⟩:=p
 replace hq:=hq _ rfl
 simp only at hq hp
 refine zb.run hmix zhf [] 400 (T:=.ex (fun(x:List Fx×Fx)=>eqL [AV.sl l.length 3 (fxG l),AV.fn 70 [] [AV.ptr 0 0,AV.ptr 1 0]] [AV.sl x.1.length 3 (fxG x.1),AV.fn 70 [] [AV.ptr 0 0,AV.ptr 1 0]]∧eqH [.box [AV.fn 40 [] []],.box [AV.str a,AV.int .i64 d,AV.str v]] [.box [AV.fn 40 [] []],.box [AV.str x.2.name,AV.int .i64 x.2.date,AV.str x.2.value]]∧2=2∧x.1.length<1099511627776) fun n=>.all (fun(r:Int)=>r=idxB (fun(x:Fx)=>decide (cmpF x n.2=0)) n.1) fun n_1=>.leaf (.ret [.int .i64 n_1] [.box [.str n.2.name,.int .i64 n.2.date,.str n.2.value],.box [.fn 40 [] []]])) (by kernel_rfl) ?_
 simp only [Tree.holds,zc]
 refine⟨(l,⟨a,d,v⟩),⟨by simp [za],by simp,trivial,hp⟩,⟨_,rfl⟩,?_⟩
 rintro _ rfl
 exact RetR.scal hq rfl (by simp [resV])
noncomputable def GI4:Nat→Option Ctr:=fun f=>if f=43 then some (XS) else none
theorem zha:∀ g c,GI4 g=some c→zd Tryz.prog g c:=okIf YS (zq)
theorem zf1:zd Tryz.prog 10 zfw:=by
 refine ze (fn:=Tryz.f10) (c:=Tryz.f10.body.getD .skip) rfl rfl rfl fun p hp O w0 Q hq=> ?_
 obtain⟨⟨f,c⟩,⟨a,d⟩⟩:=p
 replace hq:=hq _ rfl
 simp only at hq hp
 refine zb.run hmix zha [] 400 (T:=.ex (fun(x:List Fx×Fx)=>eqL [AV.sl f.length 3 (fxG f),AV.agg [AV.str a,AV.int .i64 d,AV.str #[].toList],AV.fn 40 [] []] [AV.sl x.1.length 3 (fxG x.1),AV.agg [AV.str x.2.name,AV.int .i64 x.2.date,AV.str x.2.value],AV.fn 40 [] []]∧x.1.length<1099511627776) fun n=>.all (fun(r:Int)=>r=idxB (fun(x:Fx)=>decide (cmpF x n.2=0)) n.1) fun n=>.ite (decide (n<0)) (.leaf (.ret [.str #[].toList,.bool false] [.box [.sl f.length 3 (fxG f),.sl c.length 4 (chG c)]])) (.side ((0:Int)≤n∧n<(↑f.length:Int)) (.leaf (.ret [.str (Fx.value (f.getD (Int.toNat n) Fx.nil)),.bool true] [.box [.sl f.length 3 (fxG f),.sl c.length 4 (chG c)]])))) (by kernel_rfl) ?_
 simp only [Tree.holds,zc]
 refine⟨(f,⟨a,d,[]⟩),⟨by simp [za],hp⟩,⟨_,rfl⟩,?_⟩
 rintro _ rfl
 obtain⟨hlt,hr⟩:=UF f a d
 simp only at hq ⊢
 refine⟨fun h=> ?_,fun h=> ?_⟩
 ·rw [hr,if_neg (by have:=of_decide_eq_true h; omega)] at hq
  exact RetR.scal hq rfl (by simp [resV])
 ·have h:=of_decide_eq_false h
  refine⟨⟨by omega,hlt⟩,fun _=> ?_⟩
  rw [hr,if_pos (by omega)] at hq
  exact RetR.scal hq rfl (by simp [resV])
end Go.Proofs.Tryz
end
section
namespace Go.Sx
variable [Stat]
theorem yJ{a b sz o:Nat}(h:a<b)(ho:o<sz):a*sz+o<b*sz:=by
 have:(a+1)*sz≤b*sz:=Nat.mul_le_mul_right _ h
 rw [Nat.succ_mul] at this; omega
end Go.Sx
end
section
set_option maxRecDepth 100000
open Go Go.Sx Go.Proofs Go.Nov
namespace Go.Proofs.Tryz
attribute [local simp] eqKV eqA eqA0 eqH eqB eqL eqL0
theorem km{α:Type}{l m:List α}{a:Nat}(h:a+m.length≤l.length)(k:Nat):(l.take a++m++l.drop (a+m.length))[k]?=if k<a then l[k]? else if k<a+m.length then m[k - a]? else l[k]?:=by
 have hl:(l.take a).length=a:=by rw [List.length_take]; omega
 rw [List.getElem?_append,List.getElem?_append,hl]
 simp only [List.length_append,hl]
 by_cases h1:k<a
 ·rw [if_pos (by omega),if_pos h1,if_pos h1,List.getElem?_take,if_pos h1]
 ·rw [if_neg h1,if_neg h1]
  by_cases h2:k<a+m.length
  ·rw [if_pos h2,if_pos h2]
  ·rw [if_neg h2,if_neg h2,List.getElem?_drop]; congr 1; omega
theorem vP{l:List Value}{o k j:Nat} : ((l.drop o).take k)[j]?=if j<k then l[o+j]? else none:=by
 rw [List.getElem?_take]
 split
 ·rw [List.getElem?_drop]
 ·rfl
theorem zei{ctr:Ctr}{Q:AV×Heap→Prop}(e:Int)(h:Heap)(hq:Q (.tup [.agg [.osl 0 3 0 ([]:List Fx).length,.osl 1 4 0 ([]:List Ch).length],.int .i64 e],[.arr ([]:List Fx).length 3 (fxG []),.arr ([]:List Ch).length 4 (chG [])])):RetR ctr 0 (upQ Q) [.agg [.nils,.nils],.int .i64 e] h:=by
 refine RetR.out0 (r:=.tup [.agg [.nils,.nils],.int .i64 e]) (.inr ⟨_,[(3,fxG []),(4,chG [])],?_,hq⟩) (fun _=>by simp [resV,new2,new1,new0,zQ]) (by simp [resV,exp2,exp1,exp0,ren0,eqA2,eqL1])
 simp [upA2,upA1,upA0,upL1,upL0]
theorem v5{f:List Fx}{c:List Ch}{x:Fx} : (putF f c x).1.1.length≤1000∧(putF f c x).1.2.length≤1000:=by
 unfold putF
 by_cases h0:errE f c≠0
 ·rw [if_pos h0]; simp
 ·rw [if_neg h0]
  have h:=vH.1 (Classical.not_not.1 h0)
  split
  ·simp
  ·split
   ·simp
   ·split
    ·simp
    ·simp only; omega
noncomputable def K83:List Go.Sx.Item:=[.code (Tryz.f83.body.getD .skip)]
noncomputable def GOf0:Nat→Option Ctr:=fun f=>if f=91 then some (ye) else none
theorem XM:∀ g c,GOf0 g=some c→zd Tryz.prog g c:=okIf uZ (zq)
def iofC:Ctr:=ctrP true (fun n:Nat=>[.int .i64 (n:Int)]) (fun n=>n≤9) (fun n (r:List UInt8)=>r=[UInt8.ofNat (48+n)]) (fun _ (r:List UInt8)=>(.str r,[]))
def SOf(n:Nat):KV:=[(0,.int .i64 (n:Int)),(3,.nils),(4,.bool (decide ((n:Int)<0)))]
theorem zh9:zd Tryz.prog 83 iofC:=by
 refine ze (fn:=Tryz.f83) (c:=Tryz.f83.body.getD .skip) rfl rfl rfl fun n hn O w0 Q hq=> ?_
 replace hq:=hq _ rfl
 refine zb.run hmix XM [0,3,4] 400 (T:=.leaf (.loop (Prod.fst (lps K83 0)) (Prod.snd (lps K83 0)) [(0,.int .i64 n),(3,.nils),(4,.bool (decide ((↑n:Int)<0)))] [])) (by kernel_rfl) ?_
 simp only [Tree.holds,zc,inR,lo,hi,Int.toNat_natCast]
 refine zb.loop (ι:=Unit) (fun _=>SOf n) (fun _=>[]) (fun _=>0) () 0 ?_ ?_ (by kernel_rfl)
 ·exact⟨by simp [SOf],by simp,by kernel_rfl,Nat.zero_le _⟩
 rintro⟨⟩
 refine zb.run hmix XM [0,3,4] 400 (T:=.side ((10:Int)≠0) (.side (inR .i64 (-Int.tmod (↑n:Int) (10:Int))) (.side (inR .i64 ((48:Int)+max (Int.tmod (↑n:Int) (10:Int)) (-Int.tmod (↑n:Int) (10:Int)))) (.side (inR .u8 ((48:Int)+max (Int.tmod (↑n:Int) (10:Int)) (-Int.tmod (↑n:Int) (10:Int)))) (.side (1≤140737488355328) (.side ((10:Int)≠0∧inR .i64 (Int.tdiv (↑n:Int) (10:Int))) (.ite (decide (Int.tdiv (↑n:Int) (10:Int)=0)) (.ite (decide ((↑n:Int)<0)) (.side (0=0∧1≤1∧2≤140737488355328) (.ex (fun(x:List Nat×Nat)=>eqL [AV.osl 0 1 0 2] [AV.osl 0 1 0 x.2]∧eqH [.arr 2 1 (appG 1 (zf (zg 1 [AV.int .u8 ((48:Int)+max (Int.tmod (↑n:Int) (10:Int)) (-Int.tmod (↑n:Int) (10:Int)))]) 0) (zf (zg 1 [AV.int .u8 45]) 0))] [.arr x.1.length 1 (natG .u8 x.1)]∧1=1∧x.2≤x.1.length∧x.1.length<4611686018427387904) fun n_1=>.all (fun(x:Unit)=>True) fun n_2=>.side (∀ (j:Nat),j<2→∃ (b:UInt8),AV.int .u8 (↑(List.getD (List.reverse (List.take n_1.2 n_1.1)++List.drop n_1.2 n_1.1) (0+j) 0):Int)=AV.int .u8 (↑(UInt8.toNat b):Int)) (.leaf (.ret [.str (wK 2 (zf (natG .u8 (List.reverse (List.take n_1.2 n_1.1)++List.drop n_1.2 n_1.1)) 0))] [.arr 1 1 (zg 1 [.int .u8 ((48:Int)+max (Int.tmod (↑n:Int) (10:Int)) (-Int.tmod (↑n:Int) (10:Int)))]),.arr n_1.1.length 1 (natG .u8 (List.reverse (List.take n_1.2 n_1.1)++List.drop n_1.2 n_1.1)),.arr 1 1 (zg 1 [.int .u8 45])])))) (.ex (fun(x:List Nat×Nat)=>eqL [AV.osl 0 1 0 1] [AV.osl 0 1 0 x.2]∧eqH [.arr 1 1 (zf (zg 1 [AV.int .u8 ((48:Int)+max (Int.tmod (↑n:Int) (10:Int)) (-Int.tmod (↑n:Int) (10:Int)))]) 0)] [.arr x.1.length 1 (natG .u8 x.1)]∧1=1∧x.2≤x.1.length∧x.1.length<4611686018427387904) fun n_1=>.all (fun(x:Unit)=>True) fun n_2=>.side (∀ (j:Nat),j<1→∃ (b:UInt8),AV.int .u8 (↑(List.getD (List.reverse (List.take n_1.2 n_1.1)++List.drop n_1.2 n_1.1) (0+j) 0):Int)=AV.int .u8 (↑(UInt8.toNat b):Int)) (.leaf (.ret [.str (wK 1 (zf (natG .u8 (List.reverse (List.take n_1.2 n_1.1)++List.drop n_1.2 n_1.1)) 0))] [.arr 1 1 (zg 1 [.int .u8 ((48:Int)+max (Int.tmod (↑n:Int) (10:Int)) (-Int.tmod (↑n:Int) (10:Int)))]),.arr n_1.1.length 1 (natG .u8 (List.reverse (List.take n_1.2 n_1.1)++List.drop n_1.2 n_1.1))])))) (.leaf (.back 0 [(0,.int .i64 (Int.tdiv (↑n:Int) (10:Int))),(3,.osl 1 1 0 1),(4,.bool (decide ((↑n:Int)<0)))] [.arr 1 1 (zg 1 [.int .u8 ((48:Int)+max (Int.tmod (↑n:Int) (10:Int)) (-Int.tmod (↑n:Int) (10:Int)))]),.arr 1 1 (zf (zg 1 [.int .u8 ((48:Int)+max (Int.tmod (↑n:Int) (10:Int)) (-Int.tmod (↑n:Int) (10:Int)))]) 0)]))))))))) (by kernel_rfl) ?_
 simp only [Tree.holds,zc,inR,lo,hi,Int.toNat_natCast]
 have e1:(n:Int).tmod 10=n:=by rw [Int.tmod_eq_emod_of_nonneg (by omega)]; omega
 have e2:(n:Int).tdiv 10=0:=by rw [Int.tdiv_eq_ediv_of_nonneg (by omega)]; omega
 have e3:max (n:Int) (-(n:Int))=n:=by omega
 rw [e1,e2,e3]
 refine⟨by decide,fun _=>⟨by omega,fun _=>⟨by omega,fun _=>⟨by omega,fun _=>⟨by decide,fun _=>⟨by decide,fun _=>⟨fun _=>⟨fun h=> ?_,fun _=> ?_⟩,fun h=> ?_⟩⟩⟩⟩⟩⟩⟩
 ·have:=of_decide_eq_true h; omega
 ·refine⟨([48+n],1),⟨⟨⟨rfl,rfl,rfl,rfl⟩,trivial⟩,⟨⟨rfl,rfl,fun j o hj ho=> ?_⟩,trivial⟩,trivial,by simp,by simp⟩,⟨(),trivial⟩,fun _ _=>⟨fun j hj=>⟨UInt8.ofNat (48+n),?_⟩,fun _=> ?_⟩⟩
  ·have:j=0:=by omega
   subst this
   have:o=0:=by omega
   subst this
   simp [zf,zg,natG]
  ·have:j=0:=by omega
   subst this
   have:(UInt8.ofNat (48+n)).toNat=48+n:=by simp; omega
   simp only [this]
   rfl
  ·refine RetR.scal hq rfl ?_
   simp only [resV,wK,zf,natG,List.range_succ,List.range_zero,List.nil_append,List.map_cons,List.map_nil]
   show AV.str [UInt8.ofNat (48+n)]=_
   rfl
 ·simp at h
noncomputable def GOf1:Nat→Option Ctr:=fun f=>if f=83 then some (iofC) else none
theorem XD:∀ g c,GOf1 g=some c→zd Tryz.prog g c:=okIf zh9 (zq)
noncomputable def qofI:Ctr:=inlC Tryz.prog GOf1 100 Tryz.f55
theorem zdn:zd Tryz.prog 55 qofI:=zgu hmix XD rfl rfl
def js(a:Ca):Prop:=a.name.length<2^38∧a.into.length<2^38∧a.ratio.length<2^38∧a.extra.length<2^38
def yu:Ctr:=ctrP true (fun a:Ca=>[a.av]) js (fun a r=>r=if a.ok=true then 0 else 8) (fun _ (r:Int)=>(.int .i64 r,[]))
noncomputable def GCa0:Nat→Option Ctr:=fun f=>if f=55 then some (qofI) else if f=57 then some (zgg) else if f=35 then some (yh) else if f=33 then some (VP) else none
theorem ze1:∀ g c,GCa0 g=some c→zd Tryz.prog g c:=okIf zdn (okIf zfi (okIf xe (okIf JV (zq))))
theorem xw:zd Tryz.prog 26 yu:=by
 refine ze (fn:=Tryz.f26) (c:=Tryz.f26.body.getD .skip) rfl rfl rfl fun a ha O w0 Q hq=> ?_
 obtain⟨h1,h2,h3,h4⟩:=ha
 replace hq:=hq _ rfl
 obtain⟨nm,io,d,rt,et⟩:=a
 refine zb.run hmix ze1 [] 400 (T:=.ex (fun(x:Nat)=>eqL [AV.int .i64 0] [AV.int .i64 x]∧x≤9) fun n=>.all (fun(r:List UInt8)=>r=[UInt8.ofNat (48+n)]) fun n=>.ex (fun(x:List UInt8×List UInt8)=>eqL [AV.str rt,AV.str n] [AV.str x.1,AV.str x.2]∧x.1.length<2305843009213693952∧x.2.length<2305843009213693952) fun n=>.all (fun(r:Int×Int)=>r=cmpR n.1 n.2) fun n=>.ex (fun(x:List UInt8)=>eqL [AV.str nm] [AV.str x]∧x.length<4611686018427387904) fun n_1=>.all (fun(r:Bool)=>r=zS n_1) fun n_2=>.ex (fun(x:List UInt8)=>(!n_2)=false→eqL [AV.str io] [AV.str x]∧x.length<4611686018427387904) fun n_3=>.all (fun(x:Bool)=>(!n_2)=false→x=zS n_3) fun n_4=>.ex (fun(x:List UInt8)=>(bif bif bif bif bif !n_2 then true else !n_4 then true else decide (d<0) then true else decide ((99999:Int)<d) then true else !decide (n.2=0) then true else decide (n.1≤0))=false→eqL [AV.str et] [AV.str x]∧x.length<4611686018427387904) fun n_5=>.all (fun(x:Int)=>(bif bif bif bif bif !n_2 then true else !n_4 then true else decide (d<0) then true else decide ((99999:Int)<d) then true else !decide (n.2=0) then true else decide (n.1≤0))=false→x=errR n_5) fun n_6=>.ite (bif bif bif bif bif bif !n_2 then true else !n_4 then true else decide (d<0) then true else decide ((99999:Int)<d) then true else !decide (n.2=0) then true else decide (n.1≤0) then true else !decide (n_6=0)) (.leaf (.ret [.int .i64 8] [.box [.str nm,.str io,.int .i64 d,.str rt,.str et]])) (.leaf (.ret [.int .i64 0] [.box [.str nm,.str io,.int .i64 d,.str rt,.str et]]))) (by kernel_rfl) ?_
 simp only [Tree.holds,zc,inR,lo,hi,Int.toNat_natCast]
 have e48:[UInt8.ofNat (48+0)]=[48]:=rfl
 refine⟨0,⟨⟨⟨rfl,rfl⟩,trivial⟩,by omega⟩,⟨_,rfl⟩,?_⟩
 rintro _ rfl
 rw [e48]
 refine⟨(rt,[48]),⟨⟨rfl,rfl,trivial⟩,by show rt.length<_; simp only at h3; omega,by simp⟩,⟨_,rfl⟩,?_⟩
 rintro r rfl
 refine⟨nm,⟨⟨rfl,trivial⟩,by simp only at h1; omega⟩,⟨_,rfl⟩,?_⟩
 rintro _ rfl
 refine⟨io,fun _=>⟨⟨rfl,trivial⟩,by simp only at h2; omega⟩,⟨_,fun _=>rfl⟩,fun b2 g2=> ?_⟩
 refine⟨et,fun _=>⟨⟨rfl,trivial⟩,by simp only at h4; omega⟩,⟨_,fun _=>rfl⟩,fun b3 g3=> ?_⟩
 have key:(bif bif bif bif bif bif !zS nm then true else !b2 then true else decide (d<0) then true else decide (99999<d) then true else !decide ((cmpR rt [48]).2=0) then true else decide ((cmpR rt [48]).1≤0) then true else !decide (b3=0)) = !(Ca.mk nm io d rt et).ok:=by
  obtain⟨z1,z2⟩:=zcx (a:=rt)
  unfold Ca.ok
  simp only
  cases hn:zS nm with
  | false=>simp
  | true=>
   rw [g2 (by rw [hn]; rfl)]
   cases hi2:zS io with
   | false=>simp
   | true=>
    by_cases hd:dayB d=true
    ·have hd':=hd
     unfold dayB at hd'
     simp only [Bool.and_eq_true,decide_eq_true_eq] at hd'
     have q1:decide (d<0)=false:=decide_eq_false (by omega)
     have q2:decide (99999<d)=false:=decide_eq_false (by omega)
     by_cases hr:errR rt=0
     ·obtain⟨y1,y2⟩:=z2 hr
      by_cases hp:0<qv rt
      ·have y3:(cmpR rt [48]).1=1:=by rw [y2,if_neg (by grind),if_pos hp]
       rw [g3 (by rw [hn,g2 (by rw [hn]; rfl),hi2,q1,q2,y1,y3]; rfl),hd,y1,y3,q1,q2]
       simp [hr,hp]
      ·have y3:(cmpR rt [48]).1≤0:=by rw [y2,if_neg hp]; split<;>decide
       rw [decide_eq_true y3]
       simp [hp]
     ·rw [decide_eq_false (z1 hr)]
      simp [hr]
    ·have:(decide (d<0)||decide (99999<d))=true:=by
      unfold dayB at hd
      simp at hd ⊢
      omega
     have hd:dayB d=false:=by simpa using hd
     rw [hd]
     rw [Bool.or_eq_true] at this
     rcases this with h | h<;>simp [h]
 rw [key]
 refine⟨fun h=> ?_,fun h=> ?_⟩
 ·rw [if_neg (by simpa using h)] at hq
  exact RetR.scal hq rfl rfl
 ·rw [if_pos (by simpa using h)] at hq
  exact RetR.scal hq rfl rfl
def oldC:Ctr:=ctrP true (fun p:Ca×List UInt8=>[p.1.av,.str p.2]) (fun p=>js p.1∧p.2.length<2^38) (fun p r=>r=p.1.old p.2) (fun _ (r:List UInt8×Int)=>(.tup [.str r.1,.int .i64 r.2],[]))
noncomputable def GCa1:Nat→Option Ctr:=fun f=>if f=11 then some (zag) else if f=12 then some (zci) else none
theorem zf5:∀ g c,GCa1 g=some c→zd Tryz.prog g c:=okIf XF (okIf Yt (zq))
theorem KO:zd Tryz.prog 28 oldC:=by
 refine ze (fn:=Tryz.f28) (c:=Tryz.f28.body.getD .skip) rfl rfl rfl fun p hp O w0 Q hq=> ?_
 obtain⟨⟨nm,io,d,rt,et⟩,x⟩:=p
 obtain⟨⟨h1,h2,h3,h4⟩,h5⟩:=hp
 replace hq:=hq _ rfl
 simp only at h1 h2 h3 h4 h5 hq
 refine zb.run hmix zf5 [] 400 (T:=.ex (fun(x_1:List UInt8×List UInt8)=>eqL [AV.str rt,AV.str x] [AV.str x_1.1,AV.str x_1.2]∧x_1.1.length<2305843009213693952∧x_1.2.length<2305843009213693952) fun n=>.all (fun(r:List UInt8×Int)=>r=mulR n.1 n.2) fun n=>.ite (!decide (n.2=0)) (.leaf (.ret [.str #[].toList,.int .i64 n.2] [.box [.str nm,.str io,.int .i64 d,.str rt,.str et]])) (.ex (fun(x:List UInt8×List UInt8)=>eqL [AV.str n.1,AV.str et] [AV.str x.1,AV.str x.2]∧x.1.length<2305843009213693952∧x.2.length<2305843009213693952) fun n=>.all (fun(r:List UInt8×Int)=>r=addR n.1 n.2) fun n=>.leaf (.ret [.str n.1,.int .i64 n.2] [.box [.str nm,.str io,.int .i64 d,.str rt,.str et]]))) (by kernel_rfl) ?_
 simp only [Tree.holds,zc,inR,lo,hi,Int.toNat_natCast]
 refine⟨(rt,x),⟨⟨rfl,rfl,trivial⟩,by show rt.length<_; omega,by show x.length<_; omega⟩,⟨_,rfl⟩,?_⟩
 rintro _ rfl
 refine⟨fun h=> ?_,fun h=> ?_⟩
 ·have h:(mulR rt x).2≠0:=by simpa using h
  have e:(Ca.mk nm io d rt et).old x=([],(mulR rt x).2):=if_pos h
  rw [e] at hq
  exact RetR.scal hq rfl rfl
 ·have h:(mulR rt x).2=0:=by simpa using h
  have e:(Ca.mk nm io d rt et).old x=addR (mulR rt x).1 et:=if_neg (by rw [h]; simp)
  rw [e] at hq
  have hl:(mulR rt x).1.length≤2003:=Vc rt x
  refine⟨((mulR rt x).1,et),⟨⟨rfl,rfl,trivial⟩,by show(mulR rt x).1.length<_; omega,by show et.length<_; omega⟩,⟨_,rfl⟩,?_⟩
  rintro _ rfl
  exact RetR.scal hq rfl rfl
def zft:Ctr:=ctrP true (fun a:Ca=>[a.av]) (fun _=>True) (fun a r=>r=false→a.name.length≤1000∧a.into.length≤1000∧a.ratio.length≤1000∧a.extra.length≤1000) (fun _ (r:Bool)=>(.bool r,[]))
theorem zf6:zd Tryz.prog 6 zft:=by
 refine ze (fn:=Tryz.f6) (c:=Tryz.f6.body.getD .skip) rfl rfl rfl fun a ha O w0 Q hq=> ?_
 obtain⟨nm,io,d,rt,et⟩:=a
 refine zb.run hmix z7 [] 400 (T:=.leaf (.ret [.bool (bif bif bif decide ((1000:Int)<nm.length) then true else decide ((1000:Int)<io.length) then true else decide ((1000:Int)<rt.length) then true else decide ((1000:Int)<et.length))] [.box [.str nm,.str io,.int .i64 d,.str rt,.str et]])) (by kernel_rfl) ?_
 simp only [Tree.holds,zc,inR,lo,hi,Int.toNat_natCast]
 refine RetR.scal (hq _ ?_) rfl rfl
 intro h
 by_cases g1:1000<nm.length
 ·rw [decide_eq_true (show(1000:Int)<nm.length by omega)] at h; simp at h
 by_cases g2:1000<io.length
 ·rw [decide_eq_true (show(1000:Int)<io.length by omega)] at h; simp at h
 by_cases g3:1000<rt.length
 ·rw [decide_eq_true (show(1000:Int)<rt.length by omega)] at h; simp at h
 by_cases g4:1000<et.length
 ·rw [decide_eq_true (show(1000:Int)<et.length by omega)] at h; simp at h
 exact⟨by simp only; omega,by simp only; omega,by simp only; omega,by simp only; omega⟩
def qofC:Ctr:=ctrP true (fun n:Nat=>[.int .i64 (n:Int)]) (fun n=>n≤9) (fun n (r:List UInt8)=>r=[UInt8.ofNat (48+n)]) (fun _ (r:List UInt8)=>(.str r,[]))
theorem zbw:zd Tryz.prog 55 qofC:=by
 refine ze (fn:=Tryz.f55) (c:=Tryz.f55.body.getD .skip) rfl rfl rfl fun n hn O w0 Q hq=> ?_
 replace hq:=hq _ rfl
 refine zb.run hmix XD [] 400 (T:=.ex (fun(x:Nat)=>eqL [AV.int .i64 n] [AV.int .i64 x]∧x≤9) fun n=>.all (fun(r:List UInt8)=>r=[UInt8.ofNat (48+n)]) fun n=>.leaf (.ret [.str n] [])) (by kernel_rfl) ?_
 simp only [Tree.holds,zc]
 refine⟨n,⟨⟨⟨rfl,rfl⟩,trivial⟩,hn⟩,⟨_,rfl⟩,?_⟩
 rintro _ rfl
 exact RetR.scal hq rfl (by simp [resV])
noncomputable def GAj:Nat→Option Ctr:=fun f=>if f=80 then some (zgi) else if f=55 then some (qofC) else none
theorem zhm:∀ g c,GAj g=some c→zd Tryz.prog g c:=okIf zdr (okIf zbw (zq))
noncomputable def GAjc(n:Nat):Nat→Option Ctr:=fun f=>if f=81 then some (U6 n) else GAj f
theorem zdp{n:Nat}(h:zd Tryz.prog 81 (U6 n)):∀ f c,GAjc n f=some c→zd Tryz.prog f c:=by
 intro f c hf
 simp only [GAjc] at hf
 split at hf
 ·rename_i hg; subst hg; cases hf; exact h
 ·exact zhm f c hf
theorem UB(n:Nat)(ih:zd Tryz.prog 79 (adjC n)):zd Tryz.prog 79 (adjC (n+1)):=by
 refine jl (fn:=Tryz.f79) (c:=Tryz.f79.body.getD .skip) rfl rfl rfl (fun h=>by cases h) fun p hp O w0 σ0 Q hl0 hq=> ?_
 obtain⟨a,x⟩:=p
 obtain⟨h1,h2⟩:=hp
 simp only at h1 h2
 rw [Ex.size_eq] at h1 h2
 replace hq:=hq () trivial
 simp only [Ca.zgm] at hq
 refine zb.run hmix (zdp (zfo n ih)) [] 400 (T:=.ite (bif decide (Ex.name x=Ca.name a) then bif decide (Ex.kind x=3) then true else bif decide (Ex.kind x=2) then decide (Ca.date a≤Ex.date x) else false else false) (.ex (fun(x:Nat)=>eqL [AV.int .i64 1] [AV.int .i64 x]∧x≤9) fun n=>.all (fun(r:List UInt8)=>r=[UInt8.ofNat (48+n)]) fun n=>.ite (!decide (Ca.ratio a=n)) (.ex (fun(x:List UInt8)=>eqL [AV.str (Ca.ratio a)] [AV.str x]∧True) fun n=>.all (fun(x:Unit)=>True) fun n_1=>.ex (fun(x:Nat)=>eqL [AV.int .i64 0] [AV.int .i64 x]∧x≤9) fun n_2=>.all (fun(r:List UInt8)=>r=[UInt8.ofNat (48+n_2)]) fun n_3=>.ite (!decide (Ca.extra a=n_3)) (.ex (fun(x:List UInt8)=>eqL [AV.str (Ca.extra a)] [AV.str x]∧True) fun n_4=>.all (fun(x:Unit)=>True) fun n_5=>.leaf (.ret [.agg [.int .u8 4,.str #[].toList,.str #[].toList,.int .i64 0,.osl 5 5 0 2]] [.box [.str (Ca.name a),.str (Ca.into a),.int .i64 (Ca.date a),.str (Ca.ratio a),.str (Ca.extra a)],.box [.fn 79 [] [.ptr 0 0,.ptr 1 0]],.box [.int .u8 4,.str #[].toList,.str #[].toList,.int .i64 0,.osl 5 5 0 2],.box [.int .u8 4,.str #[].toList,.str #[].toList,.int .i64 0,.osl 5 5 0 2],.arr 2 5 (zg 5 [.int .u8 (Ex.kind (Tm.kon n)),.str (Ex.rat (Tm.kon n)),.str (Ex.name (Tm.kon n)),.int .i64 (Ex.date (Tm.kon n)),.sl (List.length (Ex.sub (Tm.kon n))) 5 (Ex.deep (Tm.kon n)),.int .u8 x.kind,.str x.rat,.str (Ca.into a),.int .i64 x.date,.sl x.sub.length 5 (Ex.exG x.sub)]),.box [.int .u8 6,.str #[].toList,.str #[].toList,.int .i64 0,.osl 4 5 0 2,.int .u8 (Ex.kind (Tm.kon n_4)),.str (Ex.rat (Tm.kon n_4)),.str (Ex.name (Tm.kon n_4)),.int .i64 (Ex.date (Tm.kon n_4)),.sl (List.length (Ex.sub (Tm.kon n_4))) 5 (Ex.deep (Tm.kon n_4))]])) (.leaf (.ret [.agg [.int .u8 6,.str #[].toList,.str #[].toList,.int .i64 0,.osl 4 5 0 2]] [.box [.str (Ca.name a),.str (Ca.into a),.int .i64 (Ca.date a),.str (Ca.ratio a),.str (Ca.extra a)],.box [.fn 79 [] [.ptr 0 0,.ptr 1 0]],.box [.int .u8 6,.str #[].toList,.str #[].toList,.int .i64 0,.osl 4 5 0 2],.box [.int .u8 6,.str #[].toList,.str #[].toList,.int .i64 0,.osl 4 5 0 2],.arr 2 5 (zg 5 [.int .u8 (Ex.kind (Tm.kon n)),.str (Ex.rat (Tm.kon n)),.str (Ex.name (Tm.kon n)),.int .i64 (Ex.date (Tm.kon n)),.sl (List.length (Ex.sub (Tm.kon n))) 5 (Ex.deep (Tm.kon n)),.int .u8 x.kind,.str x.rat,.str (Ca.into a),.int .i64 x.date,.sl x.sub.length 5 (Ex.exG x.sub)])]))) (.ex (fun(x:Nat)=>eqL [AV.int .i64 0] [AV.int .i64 x]∧x≤9) fun n=>.all (fun(r:List UInt8)=>r=[UInt8.ofNat (48+n)]) fun n=>.ite (!decide (Ca.extra a=n)) (.ex (fun(x:List UInt8)=>eqL [AV.str (Ca.extra a)] [AV.str x]∧True) fun n=>.all (fun(x:Unit)=>True) fun n_1=>.leaf (.ret [.agg [.int .u8 4,.str #[].toList,.str #[].toList,.int .i64 0,.osl 4 5 0 2]] [.box [.str (Ca.name a),.str (Ca.into a),.int .i64 (Ca.date a),.str (Ca.ratio a),.str (Ca.extra a)],.box [.fn 79 [] [.ptr 0 0,.ptr 1 0]],.box [.int .u8 4,.str #[].toList,.str #[].toList,.int .i64 0,.osl 4 5 0 2],.box [.int .u8 4,.str #[].toList,.str #[].toList,.int .i64 0,.osl 4 5 0 2],.arr 2 5 (zg 5 [.int .u8 x.kind,.str x.rat,.str (Ca.into a),.int .i64 x.date,.sl x.sub.length 5 (Ex.exG x.sub),.int .u8 (Ex.kind (Tm.kon n)),.str (Ex.rat (Tm.kon n)),.str (Ex.name (Tm.kon n)),.int .i64 (Ex.date (Tm.kon n)),.sl (List.length (Ex.sub (Tm.kon n))) 5 (Ex.deep (Tm.kon n))])])) (.leaf (.ret [.agg [.int .u8 x.kind,.str x.rat,.str (Ca.into a),.int .i64 x.date,.sl x.sub.length 5 (Ex.exG x.sub)]] [.box [.str (Ca.name a),.str (Ca.into a),.int .i64 (Ca.date a),.str (Ca.ratio a),.str (Ca.extra a)],.box [.fn 79 [] [.ptr 0 0,.ptr 1 0]],.box [.int .u8 x.kind,.str x.rat,.str (Ca.into a),.int .i64 x.date,.sl x.sub.length 5 (Ex.exG x.sub)],.box [.int .u8 x.kind,.str x.rat,.str (Ca.into a),.int .i64 x.date,.sl x.sub.length 5 (Ex.exG x.sub)]])))) (.ex (fun(x_1:Ca×Ex)=>eqL [x.exA,AV.fn 79 [] [AV.ptr 0 0,AV.ptr 1 0]] [x_1.2.exA,AV.fn 79 [] [AV.ptr 0 0,AV.ptr 1 0]]∧eqH [.box [AV.str (Ca.name a),AV.str (Ca.into a),AV.int .i64 (Ca.date a),AV.str (Ca.ratio a),AV.str (Ca.extra a)],.box [AV.fn 79 [] [AV.ptr 0 0,AV.ptr 1 0]]] [.box [AV.str (Ca.name x_1.1),AV.str (Ca.into x_1.1),AV.int .i64 (Ca.date x_1.1),AV.str (Ca.ratio x_1.1),AV.str (Ca.extra x_1.1)],.box [AV.fn 79 [] [AV.ptr 0 0,AV.ptr 1 0]]]∧2=2∧Ex.zo x_1.2.sub<n∧Ex.zo x_1.2.sub<1099511627776) fun n=>.all (fun(x:Unit)=>True) fun n_1=>.leaf (.ret [(exD (Ex.mk n.2.kind n.2.rat n.2.name n.2.date (List.map (Ca.adj n.1) n.2.sub)))] [.box [.str (Ca.name n.1),.str (Ca.into n.1),.int .i64 (Ca.date n.1),.str (Ca.ratio n.1),.str (Ca.extra n.1)],.box [.fn 79 [] [.ptr 0 0,.ptr 1 0]],.box [.int .u8 x.kind,.str x.rat,.str x.name,.int .i64 x.date,.sl x.sub.length 5 (Ex.exG x.sub)],.box (Ex.cellsD (Ex.mk n.2.kind n.2.rat n.2.name n.2.date (List.map (Ca.adj n.1) n.2.sub)))]))) (by kernel_rfl) ?_
 simp only [Tree.holds,zc]
 obtain⟨c,hc⟩:∃ c,a.onX x.kind x.name x.date=c:=⟨_,rfl⟩
 rw [hc] at hq
 have hcc:(bif decide (x.name=a.name) then bif decide (x.kind=3) then true else bif decide (x.kind=2) then decide (a.date≤x.date) else false else false)=c:=by
  rw [← hc]; unfold Ca.onX
  cases decide (x.kind=3)<;>cases decide (x.kind=2)<;>cases decide (x.name=a.name)<;>cases decide (a.date≤x.date)<;>rfl
 rw [hcc]
 refine⟨fun h=> ?_,fun h=> ?_⟩
 ·rw [if_pos h] at hq
  have hq2:∀ y:Ex,Ca.rel a (.mk x.kind x.rat a.into x.date x.sub)=y→Q (exD y,HAd a):=fun y e=>by rw [← e]; exact hq
  unfold Ca.rel at hq2
  have e48:[UInt8.ofNat (48+0)]=[48]:=rfl
  have e49:[UInt8.ofNat (48+1)]=[49]:=rfl
  refine⟨1,⟨⟨⟨rfl,rfl⟩,trivial⟩,by decide⟩,⟨_,rfl⟩,?_⟩
  rintro _ rfl
  rw [e49]
  refine⟨fun h1=> ?_,fun h1=> ?_⟩<;>simp at h1
  ·refine⟨a.ratio,⟨⟨rfl,trivial⟩,trivial⟩,⟨(),trivial⟩,fun _ _=>⟨0,⟨⟨⟨rfl,rfl⟩,trivial⟩,by decide⟩,⟨_,rfl⟩,?_⟩⟩
   rintro _ rfl
   rw [e48]
   refine⟨fun h2=> ?_,fun h2=> ?_⟩<;>simp at h2
   ·rw [if_neg h2,if_neg h1] at hq2
    refine⟨a.extra,⟨⟨rfl,trivial⟩,trivial⟩,⟨(),trivial⟩,fun _ _=> ?_⟩
    exact RetR.Zs [0,1] rfl rfl (by show ∀ j,j<2→_; decide) rfl (hq2 _ rfl) (LeA.agg ⟨LeA.refl _,LeA.refl _,LeA.refl _,LeA.refl _,Ex.xL (x:=Tm.opx 6 [Tm.kon a.ratio,Ex.mk x.kind x.rat a.into x.date x.sub]) (y:=Tm.kon a.extra) ⟨LeA.refl _,LeA.refl _,LeA.refl _,LeA.refl _,Ex.xL (x:=Tm.kon a.ratio) (y:=Ex.mk x.kind x.rat a.into x.date x.sub) ⟨LeA.refl _,LeA.refl _,LeA.refl _,LeA.refl _,LeA.refl _,LeA.refl _,LeA.refl _,LeA.refl _,LeA.refl _,Ex.wj (Ex.mk x.kind x.rat a.into x.date x.sub),trivial⟩,LeA.refl _,LeA.refl _,LeA.refl _,LeA.refl _,LeA.refl _,trivial⟩,trivial⟩) (by simp [expH,expB,exp1,exp0,ren0,HAd,zw]) rfl
   ·rw [if_pos h2,if_neg h1] at hq2
    exact RetR.Zs [0,1] rfl rfl (by show ∀ j,j<2→_; decide) rfl (hq2 _ rfl) (LeA.agg ⟨LeA.refl _,LeA.refl _,LeA.refl _,LeA.refl _,Ex.xL (x:=Tm.kon a.ratio) (y:=Ex.mk x.kind x.rat a.into x.date x.sub) ⟨LeA.refl _,LeA.refl _,LeA.refl _,LeA.refl _,LeA.refl _,LeA.refl _,LeA.refl _,LeA.refl _,LeA.refl _,Ex.wj (Ex.mk x.kind x.rat a.into x.date x.sub),trivial⟩,trivial⟩) (by simp [expH,expB,exp1,exp0,ren0,HAd,zw]) rfl
  ·refine⟨0,⟨⟨⟨rfl,rfl⟩,trivial⟩,by decide⟩,⟨_,rfl⟩,?_⟩
   rintro _ rfl
   rw [e48]
   refine⟨fun h2=> ?_,fun h2=> ?_⟩<;>simp at h2
   ·rw [if_neg h2,if_pos h1] at hq2
    refine⟨a.extra,⟨⟨rfl,trivial⟩,trivial⟩,⟨(),trivial⟩,fun _ _=> ?_⟩
    exact RetR.Zs [0,1] rfl rfl (by show ∀ j,j<2→_; decide) rfl (hq2 _ rfl) (LeA.agg ⟨LeA.refl _,LeA.refl _,LeA.refl _,LeA.refl _,Ex.xL (x:=Ex.mk x.kind x.rat a.into x.date x.sub) (y:=Tm.kon a.extra) ⟨LeA.refl _,LeA.refl _,LeA.refl _,LeA.refl _,Ex.wj (Ex.mk x.kind x.rat a.into x.date x.sub),LeA.refl _,LeA.refl _,LeA.refl _,LeA.refl _,LeA.refl _,trivial⟩,trivial⟩) (by simp [expH,expB,exp1,exp0,ren0,HAd,zw]) rfl
   ·rw [if_pos h2,if_pos h1] at hq2
    exact RetR.Zs [0,1] rfl rfl (by show ∀ j,j<2→_; decide) rfl (hq2 _ rfl) (LeA.agg ⟨LeA.refl _,LeA.refl _,LeA.refl _,LeA.refl _,Ex.wj (Ex.mk x.kind x.rat a.into x.date x.sub),trivial⟩) (by simp [expH,expB,exp1,exp0,ren0,HAd,zw]) rfl
 rw [h,if_neg (by decide)] at hq
 refine⟨(a,x),⟨⟨uP x,by simp,trivial⟩,by simp,trivial,by show Ex.zo x.sub<n; omega,by show Ex.zo x.sub<_; omega⟩,⟨(),trivial⟩,fun _ _=> ?_⟩
 exact RetR.Zs [0,1] rfl rfl (by show ∀ j,j<2→_; decide) rfl hq (LeA.refl _) (by simp [expH,expB,exp1,exp0,ren0,HAd,zw]) rfl
theorem zfb(n:Nat):zd Tryz.prog 79 (adjC n):=by
 induction n with
 | zero=>
  intro args hc Q hq _
  simp only [adjC,ctrT] at hq
  obtain⟨x,⟨_,_,_,h,_⟩,_⟩:=hq
  exact absurd h (Nat.not_lt_zero _)
 | succ n ih=>exact UB n ih
def Ki:Ctr:=ctrT false false (fun p:Ca×Ex=>[p.2.exA,.ptr 0 0,.ptr 1 0]) (fun p=>HAd p.1) (fun p=>p.2.size<2^40) (fun _ (_:Unit)=>True) (fun p _=>(exD (p.1.adj p.2),HAd p.1))
theorem zh1:zd Tryz.prog 79 Ki:=by
 intro args hc Q hq hf
 simp only [Ki,ctrT] at hq
 obtain⟨x,⟨h1,h2,h3,h4⟩,h5⟩:=hq
 exact zfb (x.2.size+1) args hc Q ⟨x,⟨h1,h2,h3,Nat.lt_succ_self _,h4⟩,h5⟩ hf
noncomputable def GAdj:Nat→Option Ctr:=fun f=>if f=79 then some (Ki) else none
theorem zer:∀ g c,GAdj g=some c→zd Tryz.prog g c:=okIf zh1 (zq)
def Jl:Ctr:=ctrP false (fun p:Ca×Ex=>[p.1.av,p.2.exA]) (fun p=>p.2.size<2^40) (fun _ (_:Unit)=>True) (fun p _=>(exD (p.1.adj p.2),[]))
theorem VG:zd Tryz.prog 52 Jl:=by
 refine ze (fn:=Tryz.f52) (c:=Tryz.f52.body.getD .skip) rfl rfl rfl fun p hp O w0 Q hq=> ?_
 obtain⟨a,x⟩:=p
 replace hq:=hq () trivial
 refine zb.run hmix zer [] 400 (T:=.ex (fun(x_1:Ca×Ex)=>eqL [x.exA,AV.ptr 0 0,AV.ptr 1 0] [x_1.2.exA,AV.ptr 0 0,AV.ptr 1 0]∧eqH [.box [AV.str (Ca.name a),AV.str (Ca.into a),AV.int .i64 (Ca.date a),AV.str (Ca.ratio a),AV.str (Ca.extra a)],.box [AV.fn 79 [] [AV.ptr 0 0,AV.ptr 1 0]]] [.box [AV.str (Ca.name x_1.1),AV.str (Ca.into x_1.1),AV.int .i64 (Ca.date x_1.1),AV.str (Ca.ratio x_1.1),AV.str (Ca.extra x_1.1)],.box [AV.fn 79 [] [AV.ptr 0 0,AV.ptr 1 0]]]∧2=2∧Ex.size x_1.2<1099511627776) fun n=>.all (fun(x:Unit)=>True) fun n_1=>.leaf (.ret [(exD (Ca.adj n.1 n.2))] [.box [.str (Ca.name n.1),.str (Ca.into n.1),.int .i64 (Ca.date n.1),.str (Ca.ratio n.1),.str (Ca.extra n.1)],.box [.int .u8 x.kind,.str x.rat,.str x.name,.int .i64 x.date,.sl x.sub.length 5 (Ex.exG x.sub)],.box (Ex.cellsD (Ca.adj n.1 n.2)),.box [.fn 79 [] [.ptr 0 0,.ptr 3 0]]])) (by kernel_rfl) ?_
 simp only [Tree.holds,zc]
 refine⟨(a,x),⟨⟨uP x,⟨rfl,rfl⟩,⟨rfl,rfl⟩,trivial⟩,by simp,trivial,hp⟩,⟨(),trivial⟩,fun _ _=> ?_⟩
 exact RetR.le0 hq (fun h=>by cases h) (LeA.refl _)
end Go.Proofs.Tryz
end
section
namespace Go.Nov
open Go.Sx
theorem V8{k p:Int}(h:p∈qK k):p≠0:=by
 unfold qK QJ at h
 cases e:shpL.find? (fun q=>q.1 == k) with
 | none=>rw [e] at h; simp at h
 | some q=>
  rw [e] at h
  simp only [Option.map_some,Option.getD_some] at h
  have hq:=List.mem_of_find?_eq_some e
  have all:∀ q∈shpL,∀ p∈q.2.1,p≠0:=by decide
  exact all q hq p h
theorem VB{k d:Int}{r n:List UInt8}{ss:List Int}(h:vI k r n d ss≠0):∀ p∈ss,p≠0:=by
 unfold vI at h
 split at h
 ·split at h
  ·rename_i h2
   rw [h2.2.2.2]
   exact fun p hp=>V8 hp
  ·exact absurd rfl h
 ·split at h
  ·rename_i h2
   unfold jf at h2
   have:ss=[]:=by simp at h2; exact h2.1
   rw [this]; simp
  ·exact absurd rfl h
theorem xW{k d:Int}{r n:List UInt8}{ss:List Int}(h:vI k r n d ss≠0)(hk:k=3∨k=2):r=[]∧ss=[]:=by
 have hs:vG k=false:=by rcases hk with rfl | rfl<;>decide
 rw [KJ hs] at h
 split at h
 ·rename_i h2
  unfold jf at h2
  rcases hk with rfl | rfl<;>simp at h2
  ·exact⟨h2.2.1.1,h2.1⟩
  ·exact⟨h2.2.1.1,h2.1⟩
 ·exact absurd rfl h
namespace Ca
mutual
theorem Wh(a:Ca):∀ x:Ex,x.qQ≠0→adj a x=chg a x
 | .mk k r n d s,h=>by
  rw [Ex.qQ] at h
  rw [adj,chg]
  by_cases hh:a.onX k n d=true
  ·rw [if_pos hh,if_pos hh]
   have hk:k=3∨k=2:=by
    simp [onX] at hh
    rcases hh.2 with h1 | h1
    ·exact .inl h1
    ·exact .inr h1.1
   obtain⟨h1,h2⟩:=xW h hk
   have:s=[]:=by
    cases s with
    | nil=>rfl
    | cons x s=>rw [Ex.qR] at h2; cases h2
   rw [h1,this]
  ·rw [if_neg hh,if_neg hh,Js a s (VB h)]
theorem Js(a:Ca):∀ s:List Ex,(∀ p∈Ex.qR s,p≠0)→adjs a s=chgs a s
 | [],_=>by rw [adjs,chgs]
 | x::s,h=>by
  rw [Ex.qR] at h
  rw [adjs,chgs,Wh a x (h _ (by simp)),Js a s (fun p hp=>h p (by simp [hp]))]
end
theorem UM(a:Ca)(y:Ex):(a.rel y).size≤y.size+4∧(a.rel y).z8≤y.z8+a.ratio.length+a.extra.length:=by
 unfold rel
 split<;>split<;>(try simp only [Tm.opx,Tm.kon,Ex.size,Ex.zo,Ex.z8,Ex.jc,List.length_nil])<;>omega
mutual
theorem uY(a:Ca):∀ x:Ex,(chg a x).size≤5*x.size∧(chg a x).z8≤x.z8+x.size*(a.into.length+a.ratio.length+a.extra.length)
 | .mk k r n d s=>by
  rw [chg]
  by_cases hh:a.onX k n d=true
  ·rw [if_pos hh]
   have h:=UM a (.mk k [] a.into d [])
   simp only [Ex.size,Ex.zo,Ex.z8,Ex.jc,List.length_nil] at h ⊢
   have hm:a.into.length+a.ratio.length+a.extra.length≤(1+Ex.zo s)*(a.into.length+a.ratio.length+a.extra.length):=Nat.le_mul_of_pos_left _ (by omega)
   omega
  ·rw [if_neg hh]
   have h:=QX a s
   simp only [Ex.size,Ex.z8,Nat.add_mul,Nat.one_mul] at h ⊢
   omega
theorem QX(a:Ca):∀ s:List Ex,Ex.zo (chgs a s)≤5*Ex.zo s∧Ex.jc (chgs a s)≤Ex.jc s+Ex.zo s*(a.into.length+a.ratio.length+a.extra.length)
 | []=>by rw [chgs]; simp [Ex.zo,Ex.jc]
 | x::s=>by
  have h1:=uY a x
  have h2:=QX a s
  rw [chgs]
  simp only [Ex.zo,Ex.jc,Nat.add_mul] at h1 h2 ⊢
  omega
end
theorem zdf{k d:Int}{s t n:List UInt8}{x:Ex}{l:List Int}{m:Nat}(h:XN k s t n x d l m=true):kx x=true∨x.qQ≠0:=by
 have hn:numX x=true→x.qQ≠0:=fun h=>by simp [numX] at h; omega
 have ht:truX x=true→x.qQ≠0:=fun h=>by simp [truX] at h; omega
 unfold XN at h
 repeat' split at h
 all_goals simp only [Bool.and_eq_true,Bool.false_eq_true] at h
 all_goals first
  | exact h.elim
  | exact .inl h.2
  | exact .inr (hn h.2)
  | exact .inr (ht h.2)
  | exact .inr (hn h.1.1.2)
theorem Ul(a:Ca){x:Ex}(h:kx x=true∨x.qQ≠0):adj a x=chg a x:=by
 rcases h with h | h
 ·obtain⟨k,r,n,d,s⟩:=x
  simp [kx,Ex.kind,Ex.rat,Ex.name,Ex.date,Ex.sub] at h
  obtain⟨h0,_,_,_,rfl⟩:=h
  obtain rfl:k=0:=of_decide_eq_true h0
  rw [adj,chg,adjs,chgs]
  have:a.onX 0 n d=false:=by simp [onX]
  rw [this]; simp
 ·exact Wh a x h
mutual
theorem Y0(a:Ca):∀ c:Con,c.form=true→whole a.adj c=whole a.chg c
 | .mk k s t n x d l u,h=>by
  rw [Con.form,Bool.and_eq_true] at h
  rw [whole,whole,Ul a (zdf h.1),Qt a u h.2]
theorem Qt(a:Ca):∀ u:List Con,Con.uS u=true→wy a.adj u=wy a.chg u
 | [],_=>by rw [wy,wy]
 | c::u,h=>by
  rw [Con.uS,Bool.and_eq_true] at h
  rw [wy,wy,Y0 a c h.1,Qt a u h.2]
end
mutual
theorem K5(a:Ca):∀ c:Con,(whole a.chg c).nodes=c.nodes∧(whole a.chg c).big≤5*c.big+c.big*(a.into.length+a.ratio.length+a.extra.length)
 | .mk k s t n x d l u=>by
  have h1:=uY a x
  have h2:=uy a u
  rw [whole]
  simp only [Con.nodes,Con.big,Nat.add_mul] at h1 h2 ⊢
  omega
theorem uy(a:Ca):∀ u:List Con,Con.kq (wy a.chg u)=Con.kq u∧Con.bigs (wy a.chg u)≤5*Con.bigs u+Con.bigs u*(a.into.length+a.ratio.length+a.extra.length)
 | []=>by rw [wy]; simp [Con.kq,Con.bigs]
 | c::u=>by
  have h1:=K5 a c
  have h2:=uy a u
  rw [wy]
  simp only [Con.kq,Con.bigs,Nat.add_mul] at h1 h2 ⊢
  omega
end
def expr(a:Ca)(x:Ex):Ex×Int:=if a.ok=true then(if x.errX=0 then(if(chg a x).errX=0 then(chg a x,0) else(Ex.nil,(chg a x).errX)) else(Ex.nil,x.errX)) else(Ex.nil,8)
def conv(a:Ca)(c:Con):Con×Int:=if a.ok=true then(if c.errC=0 then(if(whole a.chg c).errC=0 then(whole a.chg c,0) else(Con.nil,(whole a.chg c).errC)) else(Con.nil,c.errC)) else(Con.nil,8)
end Ca
end Go.Nov
end
section
set_option maxRecDepth 100000
open Go Go.Sx Go.Proofs Go.Nov
namespace Go.Proofs.Tryz
attribute [local simp] eqKV eqA eqA0 eqH eqB eqL eqL0
noncomputable def GPex:Nat→Option Ctr:=fun f=>if f=26 then some (yu) else if f=51 then some (XP) else if f=52 then some (Jl) else none
theorem zf8:∀ g c,GPex g=some c→zd Tryz.prog g c:=okIf xw (okIf Uv (okIf VG (zq)))
def wO(a:Ca):Prop:=a.name.length≤1000∧a.into.length≤1000∧a.ratio.length≤1000∧a.extra.length≤1000
theorem KC{a:Ca}(h:wO a):js a:=by
 obtain⟨h1,h2,h3,h4⟩:=h
 exact⟨by omega,by omega,by omega,by omega⟩
theorem UH{a:Ca}{x:Ex}(ha:wO a)(h1:x.size<2^20)(h2:x.z8<2^30):(a.chg x).size<2^40∧(a.chg x).z8<2^40:=by
 obtain⟨_,a2,a3,a4⟩:=ha
 obtain⟨s1,s2⟩:=Ca.uY a x
 have:x.size*(a.into.length+a.ratio.length+a.extra.length)≤2^20*3000:=Nat.mul_le_mul (by omega) (by omega)
 omega
theorem JO{e:Int} : eqA2 (.tup [.agg [.int .u8 0,.str [],.str [],.int .i64 0,.nils],.int .i64 e]) (.tup [exD Ex.nil,.int .i64 e]):=by
 simp [eqA2,eqL1,exD,Ex.nil,Ex.kind,Ex.rat,Ex.name,Ex.date,Ex.sub]
theorem zej{x:Ex}(h:x.errX=0):x.qQ≠0:=by
 intro e
 unfold Ex.errX at h
 rw [if_pos e] at h
 split at h<;>simp at h
def zdd:Ctr:=ctrP false (fun p:Ca×Ex=>[p.1.av,p.2.exA]) (fun p=>wO p.1∧p.2.size<2^20∧p.2.z8<2^30) (fun _ (_:Unit)=>True) (fun p _=>(.tup [exD (p.1.expr p.2).1,.int .i64 (p.1.expr p.2).2],[]))
theorem zed:zd Tryz.prog 14 zdd:=by
 refine ze (fn:=Tryz.f14) (c:=Tryz.f14.body.getD .skip) rfl rfl rfl fun p hp O w0 Q hq=> ?_
 obtain⟨a,x⟩:=p
 replace hq:=hq () trivial
 refine zb.run hmix zf8 [] 400 (T:=.ex (fun(x:Ca)=>eqL [AV.agg [AV.str (Ca.name a),AV.str (Ca.into a),AV.int .i64 (Ca.date a),AV.str (Ca.ratio a),AV.str (Ca.extra a)]] [AV.agg [AV.str (Ca.name x),AV.str (Ca.into x),AV.int .i64 (Ca.date x),AV.str (Ca.ratio x),AV.str (Ca.extra x)]]∧js x) fun n=>.all (fun(r:Int)=>r=if Ca.ok n=true then(0:Int) else(8:Int)) fun n=>.ite (!decide (n=0)) (.leaf (.ret [.agg [.int .u8 0,.str #[].toList,.str #[].toList,.int .i64 0,.nils],.int .i64 n] [.box [.str (Ca.name a),.str (Ca.into a),.int .i64 (Ca.date a),.str (Ca.ratio a),.str (Ca.extra a)],.box [.int .u8 x.kind,.str x.rat,.str x.name,.int .i64 x.date,.sl x.sub.length 5 (Ex.exG x.sub)],.box [.int .u8 0,.str #[].toList,.str #[].toList,.int .i64 0,.nils]])) (.ex (fun(x_1:Ex)=>eqL [x.exA] [x_1.exA]∧Ex.size x_1<1099511627776∧Ex.z8 x_1<1099511627776) fun n=>.all (fun(r:Int)=>r=Ex.errX n) fun n=>.ite (!decide (n=0)) (.leaf (.ret [.agg [.int .u8 0,.str #[].toList,.str #[].toList,.int .i64 0,.nils],.int .i64 n] [.box [.str (Ca.name a),.str (Ca.into a),.int .i64 (Ca.date a),.str (Ca.ratio a),.str (Ca.extra a)],.box [.int .u8 x.kind,.str x.rat,.str x.name,.int .i64 x.date,.sl x.sub.length 5 (Ex.exG x.sub)],.box [.int .u8 0,.str #[].toList,.str #[].toList,.int .i64 0,.nils]])) (.ex (fun(x_1:Ca×Ex)=>eqL [AV.agg [AV.str (Ca.name a),AV.str (Ca.into a),AV.int .i64 (Ca.date a),AV.str (Ca.ratio a),AV.str (Ca.extra a)],x.exA] [AV.agg [AV.str (Ca.name x_1.1),AV.str (Ca.into x_1.1),AV.int .i64 (Ca.date x_1.1),AV.str (Ca.ratio x_1.1),AV.str (Ca.extra x_1.1)],x_1.2.exA]∧Ex.size x_1.2<1099511627776) fun n=>.all (fun(x:Unit)=>True) fun n_1=>.ex (fun(x:Ex)=>eqL [(exD (Ca.adj n.1 n.2))] [x.exA]∧Ex.size x<1099511627776∧Ex.z8 x<1099511627776) fun n_2=>.all (fun(r:Int)=>r=Ex.errX n_2) fun n_3=>.ite (!decide (n_3=0)) (.leaf (.ret [.agg [.int .u8 0,.str #[].toList,.str #[].toList,.int .i64 0,.nils],.int .i64 n_3] [.box [.str (Ca.name a),.str (Ca.into a),.int .i64 (Ca.date a),.str (Ca.ratio a),.str (Ca.extra a)],.box [.int .u8 x.kind,.str x.rat,.str x.name,.int .i64 x.date,.sl x.sub.length 5 (Ex.exG x.sub)],.box [.int .u8 0,.str #[].toList,.str #[].toList,.int .i64 0,.nils],.box (Ex.cellsD (Ca.adj n.1 n.2))])) (.leaf (.ret [(exD (Ca.adj n.1 n.2)),.int .i64 0] [.box [.str (Ca.name a),.str (Ca.into a),.int .i64 (Ca.date a),.str (Ca.ratio a),.str (Ca.extra a)],.box [.int .u8 x.kind,.str x.rat,.str x.name,.int .i64 x.date,.sl x.sub.length 5 (Ex.exG x.sub)],.box (Ex.cellsD (Ca.adj n.1 n.2)),.box (Ex.cellsD (Ca.adj n.1 n.2))]))))) (by kernel_rfl) ?_
 simp only [Tree.holds,zc]
 obtain⟨ht,hx1,hx2⟩:=hp
 simp only at ht hx1 hx2 hq
 obtain⟨c1,c2⟩:=UH ht hx1 hx2
 unfold Ca.expr at hq
 have ha:eqA (.agg [.str a.name,.str a.into,.int .i64 a.date,.str a.ratio,.str a.extra]) a.av:=⟨rfl,rfl,⟨rfl,rfl⟩,rfl,rfl,trivial⟩
 refine⟨a,⟨⟨ha,trivial⟩,KC ht⟩,⟨_,rfl⟩,?_⟩
 rintro _ rfl
 by_cases hok:a.ok=true
 ·rw [if_pos hok] at hq ⊢
  refine⟨fun h=>by simp at h,fun _=> ?_⟩
  refine⟨x,⟨⟨uP x,trivial⟩,by omega,by omega⟩,⟨_,rfl⟩,?_⟩
  rintro _ rfl
  refine⟨fun h=> ?_,fun h=> ?_⟩<;>simp at h
  ·rw [if_neg h] at hq
   exact RetR.out0 hq (fun h=>by cases h) JO
  have e:a.adj x=a.chg x:=Ca.Wh a x (zej h)
  rw [if_pos h] at hq
  refine⟨(a,x),⟨⟨ha,uP x,trivial⟩,by show x.size<_; omega⟩,⟨(),trivial⟩,fun _ _=> ?_⟩
  simp only [e]
  refine⟨a.chg x,⟨⟨vB _,trivial⟩,c1,c2⟩,⟨_,rfl⟩,?_⟩
  rintro _ rfl
  refine⟨fun h=> ?_,fun h=> ?_⟩<;>simp at h
  ·rw [if_neg h] at hq
   exact RetR.out0 hq (fun h=>by cases h) JO
  rw [if_pos h] at hq
  exact RetR.le0 hq (fun h=>by cases h) (LeA.refl _)
 ·rw [if_neg hok] at hq ⊢
  exact⟨fun _=>RetR.out0 hq (fun h=>by cases h) JO,fun h=>by simp at h⟩
end Go.Proofs.Tryz
end
section
namespace Go.Sx
variable [Stat]
def WH(P:Program)(g sz bytes:Nat):Prop:=∀ (b off n c i m vb voff vc:Nat) (cur vcur:Array Value) (el vel:TypeId) (w:World),0<m→i<n→n≤c→(n+m)*bytes≤140737488355328→vb≠b →
 w.heap[b]?=some (.cells cur el (0,0))→w.heap[vb]?=some (.cells vcur vel (0,0))→off+c*sz≤cur.size→voff+m*sz≤vcur.size →
 (∀ (j:Nat) (v:Value),j<n*sz→cur[off+j]?=some v→v.oneCell'=true)→(∀ (j:Nat) (v:Value),j<m*sz→vcur[voff+j]?=some v→v.oneCell'=true) →
 Calls P g #[.slice (some ⟨b,off,none⟩) n c,.int .i64 i,.slice (some ⟨vb,voff,none⟩) m vc] w fun e w'=>∃ (b' o' c':Nat) (cur':Array Value) (el':TypeId),
  e = .returned (.slice (some ⟨b',o',none⟩) (n+m) c')∧n+m≤c'∧w'.heap[b']?=some (.cells cur' el' (0,0))∧o'+c'*sz≤cur'.size ∧
  (∀ j,j<(n+m)*sz→cur'[o'+j]?=if j<i*sz then cur[off+j]? else if j<i*sz+m*sz then vcur[voff+(j - i*sz)]? else cur[off+(j - m*sz)]?) ∧
  (b'=b∨w.heap.size≤b')∧w.heap.size≤w'.heap.size∧(∀ k,k<w.heap.size→k≠b→w'.heap[k]?=w.heap[k]?)∧w'.os=w.os∧w'.tape=w.tape∧w'.output=w.output
def W4(i m:Nat)(gl gv:Nat→Nat→AV):Nat→Nat→AV:=fun j o=>if j<i then gl j o else if j<i+m then gv (j - i) o else gl (j - m) o
theorem zaz{P:Program}{g:Nat}{fn:Func}{c:Code}(hf:P.funcs[g]?=some fn)(hb:fn.body=some c) (hn:(fn.name == "runtime.NumGoroutine")=false) {sz bytes:Nat} (hsz:0<sz) (W:WH P g sz bytes)
  {gl gv gt:Nat→Nat→AV} {n i m:Nat} (hm:0<m) (hi:i<n) (hbig:(n+m)*bytes≤140737488355328) (hgt:eqG (n+m) sz (W4 i m gl gv) gt) {ctr:Ctr} (hfr:ctr.fresh=false) (hmv:ctr.w7=true) (hpi:ctr.pins=0) {Q:AV×Heap→Prop}
  (hq:Q (.osl 0 sz 0 (n+m),[.arr (n+m) sz gt,.dead])):qP P g ctr [.osl 0 sz 0 n,.int .i64 i,.osl 1 sz 0 m] [.arr n sz gl,.arr m sz gv] Q:=by
 intro O w σ vals hg hh hr
 simp only [RepL] at hr
 obtain⟨v0,r0,rfl,h0,v1,r1,rfl,h1,v2,r2,rfl,h2,rfl⟩:=hr
 simp only [Rep] at h0 h1 h2
 subst h1
 obtain⟨e0,he0,hl0,a0,cap,rfl,hnc,hr0⟩:=h0
 obtain⟨e1,he1,hl1,a1,vc,rfl,hvc,hr1⟩:=h2
 rcases hr0 with hr0 | ⟨ad,had,rfl,cur,el,hcur,hsize⟩
 ·omega
 rcases hr1 with hr1 | ⟨vd,hvd,rfl,vcur,vel,hvcur,hvsize⟩
 ·omega
 obtain⟨hen0,hz0 | ⟨ad',cs0,el0,had',hcs0,hs0,hc0⟩⟩:=hh.blk 0 e0 _ he0 rfl
 ·omega
 rw [had] at had'; cases had'
 rw [hcur] at hcs0; cases hcs0
 obtain⟨hen1,hz1 | ⟨vd',cs1,el1,hvd',hcs1,hs1,hc1⟩⟩:=hh.blk 1 e1 _ he1 rfl
 ·omega
 rw [hvd] at hvd'; cases hvd'
 rw [hvcur] at hcs1; cases hcs1
 have hne:vd.block≠ad.block:=fun h=>hh.inj 0 1 e0 e1 ad vd he0 he1 had hvd (by decide) h.symm
 have hmb:Mine σ ad.block:=⟨e0,List.mem_of_getElem? he0,ad,had,rfl⟩
 have hbw:ad.block<w.heap.size:=hh.lt 0 e0 ad he0 had
 simp only [Nat.zero_mul,Nat.add_zero,Nat.zero_add] at hsize hvsize ⊢
 have hn':¬ fn.name = "runtime.NumGoroutine" :=by simpa using hn
 left
 refine⟨by simp [callFunc,hf,hn',hb],?_⟩
 have hvfit:vd.off+m*sz≤vcur.size:=by simpa using hs1
 refine(W ad.block ad.off n cap i m vd.block vd.off vc cur vcur el vel w hm hi hnc hbig hne hcur hvcur hsize hvfit ?_ ?_).mono ?_
 ·intro j v hj hv
  have ho:j%sz<sz:=Nat.mod_lt _ hsz
  have hjn:j/sz<n:=Nat.div_lt_of_lt_mul (by rw [Nat.mul_comm]; exact hj)
  obtain⟨c,g1,g2,_⟩:=hc0 (j/sz) (j%sz) hjn ho
  have:j/sz*sz+j%sz=j:=by rw [Nat.mul_comm]; exact Nat.div_add_mod j sz
  rw [this,hv] at g1
  cases g1; exact g2
 ·intro j v hj hv
  have ho:j%sz<sz:=Nat.mod_lt _ hsz
  have hjn:j/sz<m:=Nat.div_lt_of_lt_mul (by rw [Nat.mul_comm]; exact hj)
  obtain⟨c,g1,g2,_⟩:=hc1 (j/sz) (j%sz) hjn ho
  have:j/sz*sz+j%sz=j:=by rw [Nat.mul_comm]; exact Nat.div_add_mod j sz
  rw [this,hv] at g1
  cases g1; exact g2
 rintro e w' ⟨b',o',c',cur',el',rfl,hc',hcur',hsz',hel,hb',hws,hkeep,hos,htape,hout⟩
 refine⟨_,rfl,.osl 0 sz 0 (n+m),[.arr (n+m) sz gt,.dead],[⟨some ⟨b',o',none⟩,n+m⟩,⟨none,0⟩],hq,?_⟩
 have hlt':b'<w'.heap.size:=(Array.getElem?_eq_some_iff.1 hcur').1
 have hmine:∀ b,Mine [⟨some ⟨b',o',none⟩,n+m⟩,⟨none,0⟩] b→b=b':=by
  rintro b ⟨e,he,ad2,h1,h2⟩
  simp only [List.mem_cons,List.not_mem_nil,or_false] at he
  rcases he with rfl | rfl
  ·cases h1; exact h2.symm
  ·cases h1
 have hown:∀ b,Own O [⟨some ⟨b',o',none⟩,n+m⟩,⟨none,0⟩] b→O b∨b=b':=fun b hb=>hb.imp id fun h=>hmine b h
 have hx:Ext (Own O σ) w (fun b=>Own O [⟨some ⟨b',o',none⟩,n+m⟩,⟨none,0⟩] b∨(ctr.fresh=true∧b<w.heap.size)) w':=by
  refine⟨hos,htape,hout,hws,fun b hb hno=>hkeep b hb fun h=>hno (.inr (h▸hmb)),fun b hb=> ?_⟩
  rcases hb with hb | ⟨hb,_⟩
  ·rcases hown b hb with hb | rfl
   ·exact .inl (.inl hb)
   ·rcases hb' with rfl | hb'
    ·exact .inl (.inr hmb)
    ·exact .inr hb'
  ·rw [hfr] at hb; cases hb
 refine⟨?_,⟨rfl,?_,?_,?_⟩,⟨fun b hb=>Nat.lt_of_lt_of_le (hg.old b hb) hws,?_,hg.stat.ext ⟨hx.os,hx.tape,hx.output,hx.size,hx.keep,fun b hb=>hx.grow b (.inl hb)⟩⟩,Nat.le_refl _,?_,⟨hos,htape,hout,hws,fun b hb hno=>hkeep b hb fun h=>hno (h▸hmb),fun b hb=> ?_⟩⟩
 ·simp only [Rep]
  exact⟨⟨some ⟨b',o',none⟩,n+m⟩,rfl,by simp,some ⟨b',o',none⟩,c',rfl,hc',.inr ⟨⟨b',o',none⟩,rfl,by simp,cur',el',hcur',by simpa using hsz'⟩⟩
 ·intro i j e f a b he hf ha hb hij
  match i,j with
  | 0,0=>exact absurd rfl hij
  | 0,1=>simp at hf; subst hf; cases hb
  | 1,_=>simp at he; subst he; cases ha
  | 0,j+2=>simp at hf
  | i+2,_=>simp at he
 ·intro i e a he ha
  match i with
  | 0=>simp at he; subst he; cases ha; exact hlt'
  | 1=>simp at he; subst he; cases ha
  | i+2=>simp at he
 ·intro k e b he hb
  match k with
  | 0=>
   simp at he hb; subst he; subst hb
   refine⟨rfl,.inr ⟨_,cur',el',rfl,hcur',?_,fun j o hj ho=> ?_⟩⟩
   ·have:(n+m)*sz≤c'*sz:=Nat.mul_le_mul_right _ hc'
    simp only; omega
   ·have hlt:=yJ hj ho
    have he:=hel (j*sz+o) hlt
    have hg2:=hgt j o hj ho
    simp only
    rw [he,← hg2]
    simp only [W4]
    by_cases h1:j<i
    ·rw [if_pos (yJ h1 ho),if_pos h1]
     obtain⟨c,g1,g2,g3⟩:=hc0 j o (by omega) ho
     exact⟨c,g1,g2,zj hx _ _ g3⟩
    ·have h2:¬ j*sz+o<i*sz:=by
      have:i*sz≤j*sz:=Nat.mul_le_mul_right _ (by omega)
      omega
     rw [if_neg h2,if_neg h1]
     have hmul:(i+m)*sz=i*sz+m*sz:=Nat.add_mul _ _ _
     by_cases h3:j<i+m
     ·have hjs:(j - i)*sz+i*sz=j*sz:=by rw [← Nat.add_mul]; congr 1; omega
      have:=yJ (a:=j - i) (b:=m) (sz:=sz) (by omega) ho
      rw [if_pos (by omega),if_pos h3]
      obtain⟨c,g1,g2,g3⟩:=hc1 (j - i) o (by omega) ho
      refine⟨c,?_,g2,zj hx _ _ g3⟩
      rw [← g1]; congr 1; omega
     ·have h4:(i+m)*sz≤j*sz:=Nat.mul_le_mul_right _ (by omega)
      rw [if_neg (by omega),if_neg h3]
      obtain⟨c,g1,g2,g3⟩:=hc0 (j - m) o (by omega) ho
      refine⟨c,?_,g2,zj hx _ _ g3⟩
      rw [← g1]; congr 1
      have:(j - m)*sz+m*sz=j*sz:=by rw [← Nat.add_mul]; congr 1; omega
      omega
  | 1=>simp at hb; subst hb; trivial
  | k+2=>simp at he
 ·intro k e ad2 he had2
  match k with
  | 0=>
   simp at he; subst he; cases had2
   simp only
   rcases hb' with rfl | hb'
   ·exact hg.dis 0 e0 ad he0 had
   ·intro hO; have:=hg.old _ hO; omega
  | 1=>simp at he; subst he; cases had2
  | k+2=>simp at he
 ·rw [hmv,hpi]
  intro k e he hk
  simp only [if_true,List.drop_zero,List.mem_range] at hk
  have hlt:=(List.getElem?_eq_some_iff.1 he).1
  have hl:=hh.len
  simp at hl hk
  omega
 ·rcases hmine b hb with rfl
  rcases hb' with rfl | hb'
  ·exact .inl hmb
  ·exact .inr hb'
end Go.Sx
end
section
set_option maxRecDepth 100000
open Go Go.Sx Go.Proofs Go.Nov
namespace Go.Proofs.Tryz
attribute [local simp] eqKV eqA eqA0 eqH eqB eqL eqL0
theorem KE:WH Tryz.prog 31 3 40:=by
 intro b off n c i m vb voff vc cur vcur el vel w hm hi hnc hbig hne hB hV hfit hvfit h1 h2
 have hcl:((cur.toList.drop off).take (n*3)).length=n*3:=by
  have:n*3≤c*3:=Nat.mul_le_mul_right _ hnc
  simp; omega
 have hvl:((vcur.toList.drop voff).take (m*3)).length=m*3:=by simp; omega
 have hcs:∀ j v,((cur.toList.drop off).take (n*3))[j]?=some v→w.cell? ⟨b,off+j,none⟩=some v:=fun j v hj=>by
  rw [vP] at hj
  split at hj
  ·simp only [World.cell?,hB]; simpa using hj
  ·cases hj
 have hvs:∀ j v,((vcur.toList.drop voff).take (m*3))[j]?=some v→w.cell? ⟨vb,voff+j,none⟩=some v:=fun j v hj=>by
  rw [vP] at hj
  split at hj
  ·simp only [World.cell?,hV]; simpa using hj
  ·cases hj
 have h1c:∀ v∈(cur.toList.drop off).take (n*3),v.oneCell'=true:=fun v hv=>by
  obtain⟨j,hj⟩:=List.getElem?_of_mem hv
  rw [vP] at hj
  split at hj
  ·rename_i hlt; exact h1 j v hlt (by simpa using hj)
  ·cases hj
 have h1v:∀ v∈(vcur.toList.drop voff).take (m*3),v.oneCell'=true:=fun v hv=>by
  obtain⟨j,hj⟩:=List.getElem?_of_mem hv
  rw [vP] at hj
  split at hj
  ·rename_i hlt; exact h2 j v hlt (by simpa using hj)
  ·cases hj
 have hcg:∀ j,j<n*3→((cur.toList.drop off).take (n*3))[j]?=cur[off+j]?:=fun j hj=>by rw [vP,if_pos hj]; simp
 have hvg:∀ j,j<m*3→((vcur.toList.drop voff).take (m*3))[j]?=vcur[voff+j]?:=fun j hj=>by rw [vP,if_pos hj]; simp
 generalize (cur.toList.drop off).take (n*3)=cs at hcl hcs h1c hcg
 generalize (vcur.toList.drop voff).take (m*3)=vs at hvl hvs h1v hvg
 have hin3:i*3+3≤n*3:=by have:=Nat.mul_le_mul_right 3 (show i+1≤n from hi); omega
 have him:(i+m)*3=i*3+m*3:=Nat.add_mul _ _ _
 have hnm3:(n+m)*3=n*3+m*3:=Nat.add_mul _ _ _
 have hdl:(cs.drop (i*3)).length=n*3 - i*3:=by rw [List.length_drop,hcl]
 have hbw:b<w.heap.size:=(Array.getElem?_eq_some_iff.1 hB).1
 by_cases hroom:n+m≤c
 ·have hcn:(n+m)*3≤c*3:=Nat.mul_le_mul_right _ hroom
  obtain⟨X1,hX1⟩:∃ X1,X1=cur.toList.take (off+(i+m)*3)++cs.drop (i*3)++cur.toList.drop (off+(i+m)*3+(cs.drop (i*3)).length):=⟨_,rfl⟩
  obtain⟨X2,hX2⟩:∃ X2,X2=X1.take (off+i*3)++vs++X1.drop (off+i*3+vs.length):=⟨_,rfl⟩
  have hX1l:X1.length=cur.size:=by rw [hX1]; simp only [List.length_append,List.length_take,List.length_drop,Array.length_toList,hdl,hcl]; omega
  have hX2l:X2.length=cur.size:=by rw [hX2]; simp only [List.length_append,List.length_take,List.length_drop,hX1l,hvl]; omega
  have g1:∀ k:Nat,X1[k]?=(if k<off+(i+m)*3 then cur.toList[k]? else if k<off+(i+m)*3+(cs.drop (i*3)).length then(cs.drop (i*3))[k - (off+(i+m)*3)]? else cur.toList[k]?):=fun k=>by rw [hX1]; exact km (by simp only [Array.length_toList,hdl]; omega) k
  have g2:∀ k:Nat,X2[k]?=(if k<off+i*3 then X1[k]? else if k<off+i*3+(vs).length then(vs)[k - (off+i*3)]? else X1[k]?):=fun k=>by rw [hX2]; exact km (by rw [hX1l,hvl]; omega) k
  refine(WV b off n c i m vb voff vc cur vcur el vel cs vs w hm hi hroom (by omega) hne hB hV hfit hcl hvl hcs hvs h1c h1v X1 X2 hX1 hX2).mono ?_
  rintro e w' ⟨he,hh,hos,htape,hout⟩
  refine⟨b,off,c,X2.toArray,el,he,hroom,?_,by simp only [List.size_toArray,hX2l]; omega,?_,.inl rfl,?_,?_,hos,htape,hout⟩
  ·rw [hh]; exact setRow_heap _ b _ _ el _ (setRow_heap w b cur _ el _ hB)
  ·intro j hj
   simp only [List.getElem?_toArray,g2,g1,hvl,hdl]
   by_cases k1:j<i*3
   ·rw [if_pos (by omega),if_pos (by omega),if_pos k1]; simp
   ·rw [if_neg (by omega),if_neg k1]
    by_cases k2:j<i*3+m*3
    ·rw [if_pos (by omega),if_pos k2,show off+j - (off+i*3)=j - i*3 by omega,hvg _ (by omega)]
    ·rw [if_neg (by omega),if_neg k2,if_neg (by omega),if_pos (by omega),List.getElem?_drop,hcg _ (by omega)]; congr 1; omega
  ·rw [hh]; simp
  ·intro k hk hkb
   rw [hh,setRow_other _ b k _ hkb,setRow_other _ b k _ hkb]
 ·have hc1:c<n+m:=by omega
  obtain⟨G,hG⟩:∃ G,G=grownCap w (n+m) c 56:=⟨_,rfl⟩
  have hGn:n+m≤G:=by rw [hG]; exact grownCap_ge w _ _ _
  obtain⟨zs,hz⟩:∃ zs:List Value,Builtin.zeroCells (Value.agg #[.string ⟨#[]⟩,.int .i64 0,.string ⟨#[]⟩]).cells (n+m - i)=zs.toArray:=⟨_,(Array.toArray_toList).symm⟩
  obtain⟨rest,hrest⟩:∃ zs:List Value,Builtin.zeroCells (Value.agg #[.string ⟨#[]⟩,.int .i64 0,.string ⟨#[]⟩]).cells (G - (n+m))=zs.toArray:=⟨_,(Array.toArray_toList).symm⟩
  have hzl:zs.length=(n+m - i)*3:=by
   have:=congrArg Array.size hz
   simpa [Builtin.zeroCells,Value.cells] using this.symm
  have hrl:rest.length=(G - (n+m))*3:=by
   have:=congrArg Array.size hrest
   simpa [Builtin.zeroCells,Value.cells] using this.symm
  obtain⟨ROW,hROW⟩:∃ ROW,ROW=cs.take (i*3)++zs++rest:=⟨_,rfl⟩
  obtain⟨X1,hX1⟩:∃ X1,X1=ROW.take (i*3)++vs++ROW.drop (i*3+vs.length):=⟨_,rfl⟩
  obtain⟨X2,hX2⟩:∃ X2,X2=X1.take ((i+m)*3)++cs.drop (i*3)++X1.drop ((i+m)*3+(cs.drop (i*3)).length):=⟨_,rfl⟩
  have hsum:(n+m)*3+(G - (n+m))*3=G*3:=by rw [← Nat.add_mul]; congr 1; omega
  have hsum2:i*3+(n+m - i)*3=(n+m)*3:=by rw [← Nat.add_mul]; congr 1; omega
  have hROWl:ROW.length=G*3:=by
   rw [hROW]; simp only [List.length_append,List.length_take,hcl,hzl,hrl]; omega
  have hX1l:X1.length=G*3:=by rw [hX1]; simp only [List.length_append,List.length_take,List.length_drop,hROWl,hvl]; omega
  have hX2l:X2.length=G*3:=by rw [hX2]; simp only [List.length_append,List.length_take,List.length_drop,hX1l,hdl,hcl]; omega
  have g1:∀ k:Nat,X1[k]?=(if k<i*3 then ROW[k]? else if k<i*3+(vs).length then(vs)[k - (i*3)]? else ROW[k]?):=fun k=>by rw [hX1]; exact km (by rw [hROWl,hvl]; omega) k
  have g2:∀ k:Nat,X2[k]?=(if k<(i+m)*3 then X1[k]? else if k<(i+m)*3+(cs.drop (i*3)).length then(cs.drop (i*3))[k - ((i+m)*3)]? else X1[k]?):=fun k=>by rw [hX2]; exact km (by rw [hX1l,hdl]; omega) k
  have g0:∀ k,k<i*3→ROW[k]?=cs[k]?:=fun k hk=>by
   rw [hROW,List.append_assoc,List.getElem?_append_left (by rw [List.length_take]; omega),List.getElem?_take,if_pos hk]
  refine(Kv b off n c i m vb voff vc cur vcur el vel cs vs w hm hi hnc hc1 hbig hB hV hcl hvl hcs hvs h1c h1v zs hz G hG rest hrest ROW X1 X2 hROW hX1 hX2).mono ?_
  rintro e w' ⟨he,hh,hos,htape,hout⟩
  refine⟨w.heap.size,0,G,X2.toArray,56,he,hGn,?_,by simp only [List.size_toArray,hX2l]; omega,?_,.inr (Nat.le_refl _),?_,?_,hos,htape,hout⟩
  ·rw [hh]
   exact setRow_heap _ w.heap.size _ _ _ _ (setRow_heap _ w.heap.size _ _ _ _ (show((w.heap.push _))[w.heap.size]?=some (.cells ROW.toArray 56 (0,0)) from Array.getElem?_push_size))
  ·intro j hj
   simp only [List.getElem?_toArray,Nat.zero_add,g2,g1,hvl,hdl]
   by_cases k1:j<i*3
   ·rw [if_pos (by omega),if_pos k1,if_pos k1,g0 j k1,hcg j (by omega)]
   ·simp only [if_neg k1]
    by_cases k2:j<i*3+m*3
    ·rw [if_pos (by omega)]
     simp only [if_pos k2]
     exact hvg _ (by omega)
    ·simp only [if_neg k2]
     rw [if_neg (by omega),if_pos (by omega),List.getElem?_drop,hcg _ (by omega)]; congr 1; omega
  ·rw [hh,setRow_size,setRow_size]
   show _≤(w.heap.push _).size
   rw [Array.size_push]; omega
  ·intro k hk hkb
   rw [hh,setRow_other _ _ k _ (by omega),setRow_other _ _ k _ (by omega)]
   show(w.heap.push _)[k]?=_
   rw [Array.getElem?_push,if_neg (by omega)]
theorem Vl{l x:List Fx}{i:Nat}(hi:i≤l.length):eqG (l.length+x.length) 3 (W4 i x.length (fxG l) (fxG x)) (fxG (l.take i++x++l.drop i)):=by
 intro j o hj ho
 have hlt:(l.take i).length=i:=by rw [List.length_take]; omega
 have e:fxG (l.take i++x++l.drop i) j o=((l.take i++x++l.drop i).getD j Fx.nil).cell o:=rfl
 simp only [W4]
 rw [e]
 simp only [List.getD,List.getElem?_append,List.length_append,hlt]
 by_cases h1:j<i
 ·rw [if_pos h1,if_pos (by omega),if_pos h1,List.getElem?_take,if_pos h1]; rfl
 ·rw [if_neg h1]
  by_cases h2:j<i+x.length
  ·rw [if_pos h2,if_pos h2,if_neg h1]; rfl
  ·rw [if_neg h2,if_neg h2,List.getElem?_drop,show i+(j - (i+x.length))=j - x.length by omega]; rfl
def zfs:Ctr:=ctrT false true (fun p:List Fx×List Fx×Nat=>[.osl 0 3 0 p.1.length,.int .i64 (p.2.2:Int),.osl 1 3 0 p.2.1.length]) (fun p=>[.arr p.1.length 3 (fxG p.1),.arr p.2.1.length 3 (fxG p.2.1)]) (fun p=>p.2.2≤p.1.length∧p.1.length<2^40∧p.2.1.length<2^40) (fun _ (_:Unit)=>True) (fun p (_:Unit)=>(.osl 0 3 0 (p.1.length+p.2.1.length),[.arr (p.1.length+p.2.1.length) 3 (fxG (p.1.take p.2.2++p.2.1++p.1.drop p.2.2)),.dead]))
def zcd:Ctr:=ctrT false true (fun p:List Fx×List Fx×Nat=>[.osl 0 3 0 p.1.length,.int .i64 (p.2.2:Int),.osl 1 3 0 p.2.1.length]) (fun p=>[.arr p.1.length 3 (fxG p.1),.arr p.2.1.length 3 (fxG p.2.1)]) (fun p=>(p.2.2=p.1.length∨p.2.1=[])∧p.2.2≤p.1.length∧p.1.length<2^40∧p.2.1.length<2^40) (fun _ (_:Unit)=>True) (fun p (_:Unit)=>(.osl 0 3 0 (p.1.length+p.2.1.length),[.arr (p.1.length+p.2.1.length) 3 (fxG (p.1.take p.2.2++p.2.1++p.1.drop p.2.2)),.dead]))
theorem Vy:zd Tryz.prog 31 zcd:=by
 refine jl (fn:=Tryz.f31) (c:=Tryz.f31.body.getD .skip) rfl rfl rfl (fun h=>by cases h) fun p hp O w0 σ0 Q hl0 hq=> ?_
 obtain⟨l,x,i⟩:=p
 obtain⟨h0,h1,h2,h3⟩:=hp
 replace hq:=hq () trivial
 simp only at hq h0 h1 h2 h3
 refine zb.run hmix z7 [] 400 (T:=.side ((0:Int)≤i∧(↑i:Int)≤l.length) (.ite (decide ((↑x.length:Int)=0)) (.leaf (.ret [.osl 0 3 0 l.length] [.arr l.length 3 (fxG l),.arr x.length 3 (fxG x)])) (.ite (decide ((↑i:Int)=l.length)) (.side (0=0∧l.length≤l.length∧(l.length+x.length)*40≤140737488355328) (.leaf (.ret [.osl 0 3 0 (l.length+x.length)] [.arr (l.length+x.length) 3 (appG l.length (fxG l) (zf (fxG x) 0)),.arr x.length 3 (fxG x)]))) (.side (inR .i64 ((↑l.length:Int)+x.length)) .fail)))) (by kernel_rfl) ?_
 simp only [Tree.holds,zc]
 have fin:∀ (h:Heap) (g:Nat→Nat→AV) (m:Nat),h=[.arr (l.length+x.length) 3 g,.arr m 3 (fxG x)]→eqG (l.length+x.length) 3 g (fxG (l.take i++x++l.drop i))→RetR zcd 2 Q [.osl 0 3 0 (l.length+x.length)] h:=by
  rintro h g m rfl hg
  refine RetR.keep [0,1] rfl rfl (by show ∀ j,j<2→_; decide) rfl hq (by simp [resV,exp2,exp1,exp0,zw,eqA2]) ?_ rfl
  exact⟨⟨rfl,rfl,hg⟩,trivial,trivial⟩
 refine⟨by omega,fun _=>⟨fun h=> ?_,fun h=>⟨fun h'=>⟨⟨trivial,Nat.le_refl _,by omega⟩,fun _=> ?_⟩,fun h'=> ?_⟩⟩⟩
 ·have hx:x=[]:=by have:=of_decide_eq_true h; exact List.length_eq_zero_iff.1 (by omega)
  subst hx
  exact fin _ (fxG l) 0 rfl (by simp [za])
 ·have e:i=l.length:=by have:=of_decide_eq_true h'; omega
  refine fin _ _ _ rfl ?_
  have:=Vl (x:=x) h1
  refine kZ ?_ this
  intro j o hj ho
  simp only [appG,W4,zf,Nat.zero_add,e]
  split
  ·rfl
  ·rfl
 ·rcases h0 with h0 | h0
  ·exact absurd h0 (by have:=of_decide_eq_false h'; omega)
  ·subst h0; simp at h
theorem zfe:zd Tryz.prog 31 zfs:=by
 intro args hc Q hq hfr
 obtain⟨⟨l,x,i⟩,⟨h1,h2,h3,h4,h5,h8⟩,h6,h7⟩:=hq
 simp only at h1 h2 h3 h4 h5 h7 h8
 rcases Nat.lt_or_ge i l.length with hlt | hge
 ·rcases Nat.eq_zero_or_pos x.length with hx | hx
  ·exact Vy args hc Q ⟨(l,x,i),⟨h1,h2,h3,.inr (List.length_eq_zero_iff.1 hx),h4,h5,h8⟩,h6,h7⟩ hfr
  ·exact qP.le h1 (qP.leH h2 h3 (zaz (fn:=Tryz.f31) (c:=Tryz.f31.body.getD .skip) rfl rfl rfl (by decide) KE hx hlt (by omega) (Vl h4) rfl rfl rfl (h7 () trivial)))
 ·exact Vy args hc Q ⟨(l,x,i),⟨h1,h2,h3,.inl (by show i=l.length; omega),h4,h5,h8⟩,h6,h7⟩ hfr
end Go.Proofs.Tryz
end
section
namespace Go.Nov
open Go.Sx
structure Ev where
 v:List UInt8
 e:Int
 b:Bool
 g:Int
abbrev Ev.nil:Ev:=⟨[],0,false,0⟩
def zic(k:Int)(a b:List UInt8):List UInt8×Int:=
 if k=7 then(if(cmpR a b).2≠0 then([],(cmpR a b).2) else(if(cmpR a b).1<0 then b else a,0))
 else(if(cmpR b a).2≠0 then([],(cmpR b a).2) else(if(cmpR b a).1<0 then b else a,0))
def opR(k:Int)(a b:List UInt8):List UInt8×Int:=if k=4 then addR a b else if k=5 then subR a b else if k=6 then mulR a b else zic k a b
def fixR(f:List Fx)(a:List UInt8)(d:Int):List UInt8×Int:=if(zF f a d).2=true then((zF f a d).1,0) else([],30)
def zg1{α:Type}(z:α)(l0 l1:Ev)(f:List UInt8→List UInt8→α×Int):α×Int:=if l0.e≠0 then(z,l0.e) else if l1.e≠0 then(z,l1.e) else f l0.v l1.v
def valN(f:List Fx)(day k:Int)(r n:List UInt8)(d:Int)(l:List Ev):List UInt8×Int:=
 if k=1 then(r,0) else if k=2 then fixR f n d else if k=3 then fixR f n day
 else if k=9 then(if(l.getD 0 Ev.nil).g≠0 then([],(l.getD 0 Ev.nil).g) else if(l.getD 0 Ev.nil).b then((l.getD 1 Ev.nil).v,(l.getD 1 Ev.nil).e) else((l.getD 2 Ev.nil).v,(l.getD 2 Ev.nil).e))
 else zg1 [] (l.getD 0 Ev.nil) (l.getD 1 Ev.nil) (opR k)
def zif(k:Int)(a b:List UInt8):Bool×Int:=if(cmpR a b).2≠0 then(false,(cmpR a b).2) else(if k=11 then decide ((cmpR a b).1<0) else decide ((cmpR a b).1=0),0)
def hldN(k:Int)(l:List Ev):Bool×Int:=
 if 13≤k then(if(l.getD 0 Ev.nil).g≠0 then(false,(l.getD 0 Ev.nil).g) else if k=15 then(!(l.getD 0 Ev.nil).b,0)
  else if(l.getD 0 Ev.nil).b=decide (k=14) then((l.getD 0 Ev.nil).b,0) else((l.getD 1 Ev.nil).b,(l.getD 1 Ev.nil).g))
 else zg1 false (l.getD 0 Ev.nil) (l.getD 1 Ev.nil) (zif k)
def evN(f:List Fx)(day k:Int)(r n:List UInt8)(d:Int)(l:List Ev):Ev:=⟨(valN f day k r n d l).1,(valN f day k r n d l).2,(hldN k l).1,(hldN k l).2⟩
namespace Ex
mutual
def ev(f:List Fx)(day:Int):Ex→Ev
 | mk k r n d s=>evN f day k r n d (evs f day s)
def evs(f:List Fx)(day:Int):List Ex→List Ev
 | []=>[]
 | x::l=>ev f day x::evs f day l
end
end Ex
theorem Vi{a:List UInt8}(h:errR a=0):a.length≤2003:=by
 have h1:=(Qn h).2.2.1
 rw [← h1]
 unfold qstr wz
 have g1:=wL (decide ((qv a).num<0)) (qv a).num.natAbs
 have g2:=wL (decide (((qv a).den:Int)<0)) ((qv a).den:Int).natAbs
 split
 ·omega
 ·simp only [List.length_append,List.length_cons,List.length_nil]
  omega
end Go.Nov
end
section
set_option maxRecDepth 100000
open Go Go.Sx Go.Proofs Go.Nov
namespace Go.Proofs.Tryz
attribute [local simp] eqKV eqA eqA0 eqH eqB eqL eqL0
noncomputable def K29:List Go.Sx.Item:=[.code (Tryz.f29.body.getD .skip)]
noncomputable def K8:List Go.Sx.Item:=[.code (Tryz.f8.body.getD .skip)]
def bf1C:Ctr:=ctrP true (fun p:Fx×List UInt8=>[p.1.av,.str p.2]) (fun _=>True) (fun p r=>r=if Op.bytesLess p.2 p.1.name=true then 1 else -1) (fun _ (r:Int)=>(.int .i64 r,[]))
theorem zh3:zd Tryz.prog 30 bf1C:=by
 refine ze (fn:=Tryz.f30) (c:=Tryz.f30.body.getD .skip) rfl rfl rfl fun p hp O w0 Q hq=> ?_
 obtain⟨f,s⟩:=p
 replace hq:=hq _ rfl
 simp only at hq
 refine zb.run hmix z7 [] 400 (T:=.ite (Op.bytesLess f.name s||decide (Fx.name f=s)) (.leaf (.ret [.int .i64 (-1:Int)] [.box [.str f.name,.int .i64 f.date,.str f.value]])) (.leaf (.ret [.int .i64 1] [.box [.str f.name,.int .i64 f.date,.str f.value]]))) (by kernel_rfl) ?_
 simp only [Tree.holds,zc]
 have key:(Op.bytesLess f.name s||decide (f.name=s)) = !Op.bytesLess s f.name:=by
  rcases JT f.name s with h | h | h
  ·have h2:Op.bytesLess s f.name=false:=Bool.eq_false_iff.2 fun g=>by have:=kK h g; rw [kI] at this; cases this
   rw [h,h2]; rfl
  ·rw [h,kI]; simp
  ·have h2:Op.bytesLess f.name s=false:=Bool.eq_false_iff.2 fun g=>by have:=kK h g; rw [kI] at this; cases this
   rw [h,h2]
   have:f.name≠s:=fun e=>by rw [e,kI] at h; cases h
   simp [this]
 rw [key]
 cases hb:Op.bytesLess s f.name with
 | true=>
  rw [hb,if_pos rfl] at hq
  exact⟨fun h=>by simp at h,fun _=>RetR.scal hq rfl (by simp [resV])⟩
 | false=>
  rw [hb,if_neg (by simp)] at hq
  exact⟨fun _=>RetR.scal hq rfl (by simp [resV]),fun h=>by simp at h⟩
theorem zhp{a:Ca}{l:List Fx}(hs:l.Pairwise fun x y=>cmpF x y<0){j:Nat}(hj:j<l.length):Op.bytesLess a.name (l.getD j Fx.nil).name=decide (a.at_ l≤j):=by
 obtain⟨h1,h2⟩:=Ca.zd7 (a:=a) hs
 have e:l.getD j Fx.nil=l[j]:=by simp [List.getD,hj]
 rw [e]
 by_cases h:a.at_ l≤j
 ·rw [decide_eq_true h]
  refine h2 _ ?_
  rw [List.mem_iff_getElem]
  exact⟨j - a.at_ l,by rw [List.length_drop]; omega,by rw [List.getElem_drop]; congr 1; omega⟩
 ·rw [decide_eq_false h]
  refine h1 _ ?_
  rw [List.mem_iff_getElem]
  exact⟨j,by rw [List.length_take]; omega,by rw [List.getElem_take]⟩
noncomputable def GBs:Nat→Option Ctr:=fun f=>if f=30 then some (bf1C) else none
theorem zbt:∀ g c,GBs g=some c→zd Tryz.prog g c:=okIf zh3 (zq)
def bsC:Ctr:=ctrP true (fun p:List Fx×Ca=>[fxS p.1,.str p.2.name,.fn 30 [] []]) (fun p=>p.1.length<2^40∧p.1.Pairwise fun x y=>cmpF x y<0) (fun p (r:Nat×Bool)=>r.1=p.2.at_ p.1) (fun _ (r:Nat×Bool)=>(.tup [.int .i64 (r.1:Int),.bool r.2],[]))
def SBs(l:List Fx)(a:Ca)(i j:Nat):KV:=[(0,fxS l),(1,.str a.name),(2,.fn 30 [] []),(8,.int .i64 (l.length:Int)),(9,.int .i64 (i:Int)),(10,.int .i64 (j:Int)),(40,.undef),(41,.undef),(42,.undef),(43,.undef),(44,.undef),(45,.undef),(46,.undef),(47,.undef)]
theorem zid:zd Tryz.prog 29 bsC:=by
 refine ze (fn:=Tryz.f29) (c:=Tryz.f29.body.getD .skip) rfl rfl rfl fun p hp O w0 Q hq=> ?_
 obtain⟨l,a⟩:=p
 obtain⟨hl,hs⟩:=hp
 simp only at hl hs hq
 refine zb.run hmix zbt [0,1,2,8,9,10,40,41,42,43,44,45,46,47] 400 (T:=.leaf (.loop (Prod.fst (lps K29 0)) (Prod.snd (lps K29 0)) [(0,.sl l.length 3 (fxG l)),(1,.str (Ca.name a)),(2,.fn 30 [] []),(8,.int .i64 l.length),(9,.int .i64 0),(10,.int .i64 l.length),(40,.undef),(41,.undef),(42,.undef),(43,.undef),(44,.undef),(45,.undef),(46,.undef),(47,.undef)] [])) (by kernel_rfl) ?_
 simp only [Tree.holds,zc,inR,lo,hi,Int.toNat_natCast]
 refine zb.loop (ι:={p:Nat×Nat // p.1≤p.2∧p.2≤l.length∧p.1≤a.at_ l∧a.at_ l≤p.2}) (fun i=>SBs l a i.1.1 i.1.2) (fun _=>[]) (fun i=>i.1.2 - i.1.1) ⟨(0,l.length),Nat.zero_le _,Nat.le_refl _,Nat.zero_le _,Ca.Yb⟩ 0 ?_ ?_ (by kernel_rfl)
 ·exact⟨by simp [SBs,fxS,za],trivial,by kernel_rfl,Nat.zero_le _⟩
 ·rintro⟨⟨i,j⟩,hij,hjl,hia,haj⟩
  simp only at hij hjl hia haj
  refine zb.run hmix zbt [0,1,2,8,9,10,40,41,42,43,44,45,46,47] 400 (T:=.ite (decide ((↑i:Int)<j)) (.side (inR .i64 ((↑i:Int)+j)) (.side (inR .u64 ((↑i:Int)+j)) (.side ((0:Int)≤1∧(1:Int)≤64) (.side (inR .i64 (Int.fdiv ((↑i:Int)+j) (2:Int))) (.side ((0:Int)≤Int.fdiv ((↑i:Int)+j) (2:Int)∧Int.fdiv ((↑i:Int)+j) (2:Int)<l.length) (.ex (fun(x:Fx×List UInt8)=>eqL [AV.agg [AV.str (Fx.name (l.getD (Int.toNat (Int.fdiv ((↑i:Int)+j) (2:Int))) Fx.nil)),AV.int .i64 (Fx.date (l.getD (Int.toNat (Int.fdiv ((↑i:Int)+j) (2:Int))) Fx.nil)),AV.str (Fx.value (l.getD (Int.toNat (Int.fdiv ((↑i:Int)+j) (2:Int))) Fx.nil))],AV.str (Ca.name a)] [AV.agg [AV.str x.1.name,AV.int .i64 x.1.date,AV.str x.1.value],AV.str x.2]∧True) fun n=>.all (fun(r:Int)=>r=if Op.bytesLess n.2 n.1.name=true then(1:Int) else(-1:Int)) fun n=>.ite (decide (n<0)) (.side (inR .i64 (Int.fdiv ((↑i:Int)+j) (2:Int)+(1:Int))) (.leaf (.back 0 [(0,.sl l.length 3 (fxG l)),(1,.str (Ca.name a)),(2,.fn 30 [] []),(8,.int .i64 l.length),(9,.int .i64 (Int.fdiv ((↑i:Int)+j) (2:Int)+(1:Int))),(10,.int .i64 j),(40,.undef),(41,.undef),(42,.undef),(43,.undef),(44,.undef),(45,.undef),(46,.undef),(47,.undef)] []))) (.leaf (.back 0 [(0,.sl l.length 3 (fxG l)),(1,.str (Ca.name a)),(2,.fn 30 [] []),(8,.int .i64 l.length),(9,.int .i64 i),(10,.int .i64 (Int.fdiv ((↑i:Int)+j) (2:Int))),(40,.undef),(41,.undef),(42,.undef),(43,.undef),(44,.undef),(45,.undef),(46,.undef),(47,.undef)] [])))))))) (.side (decide ((↑i:Int)<l.length)=true→(0:Int)≤i∧(↑i:Int)<l.length) (.ex (fun(x:Fx×List UInt8)=>decide ((↑i:Int)<l.length)=true→eqL [AV.agg [AV.str (Fx.name (l.getD (↑i:Int).toNat Fx.nil)),AV.int .i64 (Fx.date (l.getD (↑i:Int).toNat Fx.nil)),AV.str (Fx.value (l.getD (↑i:Int).toNat Fx.nil))],AV.str (Ca.name a)] [AV.agg [AV.str x.1.name,AV.int .i64 x.1.date,AV.str x.1.value],AV.str x.2]∧True) fun n=>.all (fun(x:Int)=>decide ((↑i:Int)<l.length)=true→x=if Op.bytesLess n.2 n.1.name=true then(1:Int) else(-1:Int)) fun n=>.leaf (.ret [.int .i64 i,.bool (bif decide ((↑i:Int)<l.length) then decide (n=0) else false)] [])))) (by kernel_rfl) ?_
  simp only [Tree.holds,zc,inR,lo,hi,Int.toNat_natCast]
  have hm:((i:Int)+j).fdiv 2=(((i+j)/2:Nat):Int):=by
   rw [Int.fdiv_eq_ediv_of_nonneg _ (by decide)]; omega
  refine⟨fun h=> ?_,fun h=> ?_⟩
  ·have h:=of_decide_eq_true h
   rw [hm]
   obtain⟨m,hmd⟩:∃ m,(i+j)/2=m:=⟨_,rfl⟩
   have hml:m<j:=by omega
   have hmi:i≤m:=by omega
   rw [hmd]
   simp only [Int.toNat_natCast]
   refine⟨by omega,fun _=>⟨by omega,fun _=>⟨by omega,fun _=>⟨by omega,fun _=>⟨by omega,fun _=>⟨(l.getD m Fx.nil,a.name),⟨by simp,trivial⟩,⟨_,rfl⟩,?_⟩⟩⟩⟩⟩⟩
   rintro _ rfl
   rw [zhp hs (show m<l.length by omega)]
   refine⟨fun h2=>⟨by omega,fun _=> ?_⟩,fun h2=> ?_⟩
   ·have h2:=of_decide_eq_true h2
    have h3:¬ a.at_ l≤m:=fun g=>by rw [decide_eq_true g] at h2; simp at h2
    rw [if_pos trivial]
    exact⟨⟨(m+1,j),by show m+1≤j; omega,hjl,by show m+1≤a.at_ l; omega,haj⟩,by show j - (m+1)<j - i; omega,by simp [SBs,fxS,za],trivial,by kernel_rfl,Nat.zero_le _⟩
   ·have h2:=of_decide_eq_false h2
    have h3:a.at_ l≤m:=Classical.byContradiction fun g=>by rw [decide_eq_false g] at h2; simp at h2
    rw [if_pos trivial]
    exact⟨⟨(i,m),hmi,by show m≤l.length; omega,hia,h3⟩,by show m - i<j - i; omega,by simp [SBs,fxS,za],trivial,by kernel_rfl,Nat.zero_le _⟩
  ·have h:=of_decide_eq_false h
   have e:i=a.at_ l:=by omega
   refine⟨fun h=>by have:=of_decide_eq_true h; omega,fun _=>⟨(l.getD i Fx.nil,a.name),fun _=>⟨by simp,trivial⟩,⟨_,fun _=>rfl⟩,fun n hn=> ?_⟩⟩
   exact RetR.scal (hq (i,decide ((i:Int)<l.length)&&decide (n=0)) e) rfl (by simp [resV])
def SCb(f:List Fx)(k m i:Nat):KV:=[(2,.ptr 0 0),(4,.ptr 2 0),(8,.osl 5 3 0 m),(9,.ptr 4 0),(33,fxS f),(34,.int .i64 (f.length:Int)),(35,.int .i64 (i:Int)),(45,.undef),(46,.undef),(47,.undef),(48,.undef),(49,.undef),(77,.undef),(78,.undef),(79,.undef),(80,.undef),(81,.undef)]
def HCb(a:Ca)(f:List Fx)(c:List Ch)(k m:List Fx):Heap:=[.box [.str a.name,.str a.into,.int .i64 a.date,.str a.ratio,.str a.extra],.box [fxS f,chS c],.box [.nils,.nils],.arr c.length 4 (chG c),.box [.osl 6 3 0 k.length,.osl 3 4 0 c.length],.arr m.length 3 (fxG m),.arr k.length 3 (fxG k)]
def VM:Ctr:=ctrP true (fun p:Ca×(List Fx×List Ch)=>[p.1.av,envA p.2.1 p.2.2]) (fun p=>js p.1∧envP p.2∧p.2.1.length≤1000000) (fun p r=>r=p.1.before p.2.1 p.2.2) (fun _ (r:(List Fx×List Ch)×Int)=>(.tup [.agg [.osl 0 3 0 r.1.1.length,.osl 1 4 0 r.1.2.length],.int .i64 r.2],[.arr r.1.1.length 3 (fxG r.1.1),.arr r.1.2.length 4 (chG r.1.2)]))
noncomputable def GBf:Nat→Option Ctr:=fun f=>if f=26 then some (yu) else if f=9 then some (JN) else if f=27 then some (XA) else if f=28 then some (oldC) else if f=29 then some (bsC) else if f=31 then some (zfs) else none
theorem zbk:∀ g c,GBf g=some c→zd Tryz.prog g c:=okIf xw (okIf QO (okIf YB (okIf KO (okIf zid (okIf zfe (zq))))))
theorem X0:zd Tryz.prog 8 VM:=by
 refine W7 (fn:=Tryz.f8) (c:=Tryz.f8.body.getD .skip) rfl rfl rfl fun p hp O w0 Q hq=> ?_
 obtain⟨a,f,c⟩:=p
 obtain⟨ha,he,hfl⟩:=hp
 replace hq:=hq _ rfl
 simp only at ha he hfl hq
 refine zb.run hmix zbk [2,4,8,9,33,34,35,45,46,47,48,49,77,78,79,80,81] 400 (T:=.ex (fun(x:Ca)=>eqL [AV.agg [AV.str (Ca.name a),AV.str (Ca.into a),AV.int .i64 (Ca.date a),AV.str (Ca.ratio a),AV.str (Ca.extra a)]] [AV.agg [AV.str (Ca.name x),AV.str (Ca.into x),AV.int .i64 (Ca.date x),AV.str (Ca.ratio x),AV.str (Ca.extra x)]]∧js x) fun n=>.all (fun(r:Int)=>r=if Ca.ok n=true then(0:Int) else(8:Int)) fun n=>.ite (!decide (n=0)) (.leaf (.ret [.agg [.nils,.nils],.int .i64 n] [.box [.str (Ca.name a),.str (Ca.into a),.int .i64 (Ca.date a),.str (Ca.ratio a),.str (Ca.extra a)],.box [.sl f.length 3 (fxG f),.sl c.length 4 (chG c)],.box [.nils,.nils]])) (.ex (fun(x:List Fx×List Ch)=>eqL [AV.agg [AV.sl f.length 3 (fxG f),AV.sl c.length 4 (chG c)]] [AV.agg [AV.sl x.1.length 3 (fxG x.1),AV.sl x.2.length 4 (chG x.2)]]∧envP x) fun n=>.all (fun(r:Int)=>r=errE n.1 n.2) fun n=>.ite (!decide (n=0)) (.leaf (.ret [.agg [.nils,.nils],.int .i64 n] [.box [.str (Ca.name a),.str (Ca.into a),.int .i64 (Ca.date a),.str (Ca.ratio a),.str (Ca.extra a)],.box [.sl f.length 3 (fxG f),.sl c.length 4 (chG c)],.box [.nils,.nils]])) (.ex (fun(x:List Ch)=>eqL [AV.sl c.length 4 (chG c)] [AV.sl x.length 4 (chG x)]∧x.length<1099511627776) fun n=>.all (fun(x:Unit)=>True) fun n_1=>.leaf (.loop (Prod.fst (lps K8 0)) (Prod.snd (lps K8 0)) [(2,.ptr 0 0),(4,.ptr 2 0),(8,.nils),(9,.ptr 4 0),(33,.sl f.length 3 (fxG f)),(34,.int .i64 f.length),(35,.int .i64 0),(45,.undef),(46,.undef),(47,.undef),(48,.undef),(49,.undef),(77,.undef),(78,.undef),(79,.undef),(80,.undef),(81,.undef)] [.box [.str (Ca.name a),.str (Ca.into a),.int .i64 (Ca.date a),.str (Ca.ratio a),.str (Ca.extra a)],.box [.sl f.length 3 (fxG f),.sl c.length 4 (chG c)],.box [.nils,.nils],.arr n.length 4 (chG n),.box [.nils,.osl 3 4 0 n.length]])))) (by kernel_rfl) ?_
 simp only [Tree.holds,zc,inR,lo,hi,Int.toNat_natCast]
 have bad:∀ (e:Int) (h:Heap),a.before f c=(([],[]),e)→RetR VM 0 (upQ Q) [.agg [.nils,.nils],.int .i64 e] h:=fun e h hr=>by
  rw [hr] at hq
  exact zei e h hq
 refine⟨a,⟨by simp [Ca.av],ha⟩,⟨_,rfl⟩,?_⟩
 rintro _ rfl
 by_cases hok:¬ a.ok=true
 ·rw [if_neg hok]
  refine⟨fun _=>bad _ _ ?_,fun h=>by simp at h⟩
  unfold Ca.before; rw [if_pos (by simpa using hok)]
 replace hok:a.ok=true:=Classical.not_not.1 hok
 rw [if_pos hok]
 refine⟨fun h=>by simp at h,fun _=>⟨(f,c),⟨by simp [za],he⟩,⟨_,rfl⟩,?_⟩⟩
 rintro _ rfl
 refine⟨fun h=> ?_,fun h=> ?_⟩
 ·have h:errE f c≠0:=by simpa using h
  refine bad _ _ ?_
  unfold Ca.before; rw [if_neg (by simp [hok]),if_pos h]
 have hE:errE f c=0:=by simpa using h
 clear h
 refine⟨c,⟨by simp [za],?_⟩,⟨(),trivial⟩,fun _ _=> ?_⟩
 ·have:=vH.1 hE; omega
 refine zb.bear 8 3 (fxG []) rfl (by decide) (by kernel_rfl) ?_
 refine zb.zim 4 0 3 (fxG []) rfl rfl (by kernel_rfl) ?_
 refine zb.loop (ι:={i:Nat // i≤f.length∧a.err (f.take i)=0}) (fun i=>SCb f (a.kept (f.take i.1)).length (a.fresh (f.take i.1)).length i.1) (fun i=>HCb a f c (a.kept (f.take i.1)) (a.fresh (f.take i.1))) (fun i=>f.length - i.1) ⟨0,Nat.zero_le _,rfl⟩ 0 ?_ ?_ (by kernel_rfl)
 ·exact⟨by simp [SCb,uz,fxS,za,Ca.fresh],by simp [HCb,fxS,chS,za,Ca.fresh,Ca.kept],by kernel_rfl,Nat.zero_le _⟩
 ·rintro⟨i,hil,hie⟩
  obtain⟨k,hk⟩:∃ k,a.kept (f.take i)=k:=⟨_,rfl⟩
  obtain⟨m,hm⟩:∃ m,a.fresh (f.take i)=m:=⟨_,rfl⟩
  have hkl:k.length≤f.length:=by rw [← hk]; exact Ca.zb3 f i
  have hml:m.length≤f.length:=by rw [← hm]; exact Ca.Uw f i
  simp only [hk,hm]
  refine zb.run hmix zbk [2,4,8,9,33,34,35,45,46,47,48,49,77,78,79,80,81] 400 (T:=.ite (decide ((↑i:Int)<f.length)) (.side ((0:Int)≤i∧(↑i:Int)<f.length) (.ite (bif decide (Fx.name (f.getD (↑i:Int).toNat Fx.nil)=Ca.into a) then decide (Ca.date a≤Fx.date (f.getD (↑i:Int).toNat Fx.nil)) else false) (.ex (fun(x:Ca×List UInt8)=>eqL [AV.agg [AV.str (Ca.name a),AV.str (Ca.into a),AV.int .i64 (Ca.date a),AV.str (Ca.ratio a),AV.str (Ca.extra a)],AV.str (Fx.value (f.getD (↑i:Int).toNat Fx.nil))] [AV.agg [AV.str (Ca.name x.1),AV.str (Ca.into x.1),AV.int .i64 (Ca.date x.1),AV.str (Ca.ratio x.1),AV.str (Ca.extra x.1)],AV.str x.2]∧js x.1∧x.2.length<274877906944) fun n=>.all (fun(r:List UInt8×Int)=>r=Ca.old n.1 n.2) fun n=>.ite (!decide (n.2=0)) (.leaf (.ret [.agg [.nils,.nils],.int .i64 n.2] [.box [.str (Ca.name a),.str (Ca.into a),.int .i64 (Ca.date a),.str (Ca.ratio a),.str (Ca.extra a)],.box [.sl f.length 3 (fxG f),.sl c.length 4 (chG c)],.box [.nils,.nils],.arr c.length 4 (chG c),.box [.osl 6 3 0 k.length,.osl 3 4 0 c.length],.arr m.length 3 (fxG m),.arr k.length 3 (fxG k),.box [.str (Fx.name (f.getD (↑i:Int).toNat Fx.nil)),.int .i64 (Fx.date (f.getD (↑i:Int).toNat Fx.nil)),.str (Fx.value (f.getD (↑i:Int).toNat Fx.nil))]])) (.side (0=0∧m.length≤m.length∧(m.length+1)*40≤140737488355328) (.ite (bif !decide (Fx.name (f.getD (↑i:Int).toNat Fx.nil)=Ca.name a) then true else decide (Fx.date (f.getD (↑i:Int).toNat Fx.nil)<Ca.date a)) (.side (0=0∧k.length≤k.length∧(k.length+1)*40≤140737488355328) (.side (inR .i64 ((↑i:Int)+(1:Int))) (.leaf (.back 0 [(2,.ptr 0 0),(4,.ptr 2 0),(8,.osl 5 3 0 (m.length+1)),(9,.ptr 4 0),(33,.sl f.length 3 (fxG f)),(34,.int .i64 f.length),(35,.int .i64 ((↑i:Int)+(1:Int))),(45,.undef),(46,.undef),(47,.undef),(48,.undef),(49,.undef),(77,.undef),(78,.undef),(79,.undef),(80,.undef),(81,.undef)] [.box [.str (Ca.name a),.str (Ca.into a),.int .i64 (Ca.date a),.str (Ca.ratio a),.str (Ca.extra a)],.box [.sl f.length 3 (fxG f),.sl c.length 4 (chG c)],.box [.nils,.nils],.arr c.length 4 (chG c),.box [.osl 6 3 0 (k.length+1),.osl 3 4 0 c.length],.arr (m.length+1) 3 (appG m.length (fxG m) (zf (zg 3 [.str (Ca.name a),.int .i64 (Fx.date (f.getD (↑i:Int).toNat Fx.nil)),.str n.1]) 0)),.arr (k.length+1) 3 (appG k.length (fxG k) (zf (zg 3 [.str (Fx.name (f.getD (↑i:Int).toNat Fx.nil)),.int .i64 (Fx.date (f.getD (↑i:Int).toNat Fx.nil)),.str (Fx.value (f.getD (↑i:Int).toNat Fx.nil))]) 0)),.box [.str (Fx.name (f.getD (↑i:Int).toNat Fx.nil)),.int .i64 (Fx.date (f.getD (↑i:Int).toNat Fx.nil)),.str (Fx.value (f.getD (↑i:Int).toNat Fx.nil))],.arr 1 3 (zg 3 [.str (Ca.name a),.int .i64 (Fx.date (f.getD (↑i:Int).toNat Fx.nil)),.str n.1]),.arr 1 3 (zg 3 [.str (Fx.name (f.getD (↑i:Int).toNat Fx.nil)),.int .i64 (Fx.date (f.getD (↑i:Int).toNat Fx.nil)),.str (Fx.value (f.getD (↑i:Int).toNat Fx.nil))])])))) (.side (inR .i64 ((↑i:Int)+(1:Int))) (.leaf (.back 0 [(2,.ptr 0 0),(4,.ptr 2 0),(8,.osl 5 3 0 (m.length+1)),(9,.ptr 4 0),(33,.sl f.length 3 (fxG f)),(34,.int .i64 f.length),(35,.int .i64 ((↑i:Int)+(1:Int))),(45,.undef),(46,.undef),(47,.undef),(48,.undef),(49,.undef),(77,.undef),(78,.undef),(79,.undef),(80,.undef),(81,.undef)] [.box [.str (Ca.name a),.str (Ca.into a),.int .i64 (Ca.date a),.str (Ca.ratio a),.str (Ca.extra a)],.box [.sl f.length 3 (fxG f),.sl c.length 4 (chG c)],.box [.nils,.nils],.arr c.length 4 (chG c),.box [.osl 6 3 0 k.length,.osl 3 4 0 c.length],.arr (m.length+1) 3 (appG m.length (fxG m) (zf (zg 3 [.str (Ca.name a),.int .i64 (Fx.date (f.getD (↑i:Int).toNat Fx.nil)),.str n.1]) 0)),.arr k.length 3 (fxG k),.box [.str (Fx.name (f.getD (↑i:Int).toNat Fx.nil)),.int .i64 (Fx.date (f.getD (↑i:Int).toNat Fx.nil)),.str (Fx.value (f.getD (↑i:Int).toNat Fx.nil))],.arr 1 3 (zg 3 [.str (Ca.name a),.int .i64 (Fx.date (f.getD (↑i:Int).toNat Fx.nil)),.str n.1])])))))) (.ite (bif !decide (Fx.name (f.getD (↑i:Int).toNat Fx.nil)=Ca.name a) then true else decide (Fx.date (f.getD (↑i:Int).toNat Fx.nil)<Ca.date a)) (.side (0=0∧k.length≤k.length∧(k.length+1)*40≤140737488355328) (.side (inR .i64 ((↑i:Int)+(1:Int))) (.leaf (.back 0 [(2,.ptr 0 0),(4,.ptr 2 0),(8,.osl 5 3 0 m.length),(9,.ptr 4 0),(33,.sl f.length 3 (fxG f)),(34,.int .i64 f.length),(35,.int .i64 ((↑i:Int)+(1:Int))),(45,.undef),(46,.undef),(47,.undef),(48,.undef),(49,.undef),(77,.undef),(78,.undef),(79,.undef),(80,.undef),(81,.undef)] [.box [.str (Ca.name a),.str (Ca.into a),.int .i64 (Ca.date a),.str (Ca.ratio a),.str (Ca.extra a)],.box [.sl f.length 3 (fxG f),.sl c.length 4 (chG c)],.box [.nils,.nils],.arr c.length 4 (chG c),.box [.osl 6 3 0 (k.length+1),.osl 3 4 0 c.length],.arr m.length 3 (fxG m),.arr (k.length+1) 3 (appG k.length (fxG k) (zf (zg 3 [.str (Fx.name (f.getD (↑i:Int).toNat Fx.nil)),.int .i64 (Fx.date (f.getD (↑i:Int).toNat Fx.nil)),.str (Fx.value (f.getD (↑i:Int).toNat Fx.nil))]) 0)),.box [.str (Fx.name (f.getD (↑i:Int).toNat Fx.nil)),.int .i64 (Fx.date (f.getD (↑i:Int).toNat Fx.nil)),.str (Fx.value (f.getD (↑i:Int).toNat Fx.nil))],.arr 1 3 (zg 3 [.str (Fx.name (f.getD (↑i:Int).toNat Fx.nil)),.int .i64 (Fx.date (f.getD (↑i:Int).toNat Fx.nil)),.str (Fx.value (f.getD (↑i:Int).toNat Fx.nil))])])))) (.side (inR .i64 ((↑i:Int)+(1:Int))) (.leaf (.back 0 [(2,.ptr 0 0),(4,.ptr 2 0),(8,.osl 5 3 0 m.length),(9,.ptr 4 0),(33,.sl f.length 3 (fxG f)),(34,.int .i64 f.length),(35,.int .i64 ((↑i:Int)+(1:Int))),(45,.undef),(46,.undef),(47,.undef),(48,.undef),(49,.undef),(77,.undef),(78,.undef),(79,.undef),(80,.undef),(81,.undef)] [.box [.str (Ca.name a),.str (Ca.into a),.int .i64 (Ca.date a),.str (Ca.ratio a),.str (Ca.extra a)],.box [.sl f.length 3 (fxG f),.sl c.length 4 (chG c)],.box [.nils,.nils],.arr c.length 4 (chG c),.box [.osl 6 3 0 k.length,.osl 3 4 0 c.length],.arr m.length 3 (fxG m),.arr k.length 3 (fxG k),.box [.str (Fx.name (f.getD (↑i:Int).toNat Fx.nil)),.int .i64 (Fx.date (f.getD (↑i:Int).toNat Fx.nil)),.str (Fx.value (f.getD (↑i:Int).toNat Fx.nil))]])))))) (.side (inR .i64 ((↑k.length:Int)+m.length)) (.ite (decide ((1000:Int)<k.length+(↑m.length:Int))) (.leaf (.ret [.agg [.nils,.nils],.int .i64 22] [.box [.str (Ca.name a),.str (Ca.into a),.int .i64 (Ca.date a),.str (Ca.ratio a),.str (Ca.extra a)],.box [.sl f.length 3 (fxG f),.sl c.length 4 (chG c)],.box [.nils,.nils],.arr c.length 4 (chG c),.box [.osl 6 3 0 k.length,.osl 3 4 0 c.length],.arr m.length 3 (fxG m),.arr k.length 3 (fxG k)])) (.ex (fun(x:List Fx×Ca)=>eqL [AV.sl k.length 3 (zf (fxG k) 0),AV.str (Ca.name a),AV.fn 30 [] []] [AV.sl x.1.length 3 (fxG x.1),AV.str (Ca.name x.2),AV.fn 30 [] []]∧x.1.length<1099511627776∧List.Pairwise (fun(x y:Fx)=>cmpF x y<0) x.1) fun n=>.all (fun(r:Nat×Bool)=>r.1=Ca.at_ n.2 n.1) fun n=>.ex (fun(x:List Fx×List Fx×Nat)=>eqL [AV.osl 0 3 0 k.length,AV.int .i64 n.1,AV.osl 1 3 0 m.length] [AV.osl 0 3 0 x.1.length,AV.int .i64 x.2.2,AV.osl 1 3 0 x.2.1.length]∧eqH [.arr k.length 3 (fxG k),.arr m.length 3 (fxG m)] [.arr x.1.length 3 (fxG x.1),.arr x.2.1.length 3 (fxG x.2.1)]∧2=2∧x.2.2≤x.1.length∧x.1.length<1099511627776∧x.2.1.length<1099511627776) fun n=>.all (fun(x:Unit)=>True) fun n_1=>.leaf (.ret [.agg [.osl 6 3 0 (n.1.length+n.2.1.length),.osl 3 4 0 c.length],.int .i64 0] [.box [.str (Ca.name a),.str (Ca.into a),.int .i64 (Ca.date a),.str (Ca.ratio a),.str (Ca.extra a)],.box [.sl f.length 3 (fxG f),.sl c.length 4 (chG c)],.box [.osl 6 3 0 (n.1.length+n.2.1.length),.osl 3 4 0 c.length],.arr c.length 4 (chG c),.box [.osl 6 3 0 (n.1.length+n.2.1.length),.osl 3 4 0 c.length],.dead,.arr (n.1.length+n.2.1.length) 3 (fxG (List.take n.2.2 n.1++n.2.1++List.drop n.2.2 n.1))]))))) (by kernel_rfl) ?_
  simp only [Tree.holds,zc,inR,lo,hi,Int.toNat_natCast]
  refine⟨fun h=> ?_,fun h=> ?_⟩
  ·have hlt:i<f.length:=by have:=of_decide_eq_true h; omega
   obtain⟨x,hx⟩:∃ x,f.getD i Fx.nil=x:=⟨_,rfl⟩
   have hxm:x∈f:=by rw [← hx]; simp [List.getD,hlt]
   have E:=Ca.UZ hlt hie
   have K:=Ca.Y8 (a:=a) hlt
   have M:=Ca.Xl (a:=a) hlt
   rw [hx] at E K M
   rw [hk] at K
   rw [hm] at M
   have hhit:(bif decide (x.name=a.into) then decide (a.date≤x.date) else false)=a.hit x:=by unfold Ca.hit; cases decide (x.name=a.into)<;>rfl
   have hkeep:(bif !decide (x.name=a.name) then true else decide (x.date<a.date))=a.keep x:=by unfold Ca.keep; cases decide (x.name=a.name)<;>rfl
   simp only [hx,hhit,hkeep]
   refine⟨by omega,fun _=>⟨fun hH=> ?_,fun hH=> ?_⟩⟩
   ·rw [if_pos hH] at M
    refine⟨(a,x.value),⟨by simp [Ca.av],ha,?_⟩,⟨_,rfl⟩,?_⟩
    ·have h3:=vH.1 hE
     have h4:=List.all_eq_true.1 h3.2.1 x hxm
     unfold okF at h4
     simp only [Bool.and_eq_true,decide_eq_true_eq] at h4
     have:=Vi h4.2
     show x.value.length<2^38
     omega
    rintro _ rfl
    refine⟨fun h2=> ?_,fun h2=> ?_⟩
    ·have h2:(a.old x.value).2≠0:=by simpa using h2
     have hbd:a.bad x=true:=by unfold Ca.bad; rw [hH,Bool.true_and]; exact decide_eq_true h2
     have hst:=Ca.UL hlt hie (by rw [hx]; exact hbd)
     rw [hx] at hst
     refine bad _ _ ?_
     unfold Ca.before; rw [if_neg (by simp [hok]),if_neg (by simp [hE]),hst,if_pos h2]
    ·have h2:(a.old x.value).2=0:=by simpa using h2
     have hbd:¬ a.bad x=true:=by unfold Ca.bad; rw [hH,Bool.true_and]; simp [h2]
     rw [if_neg hbd] at E
     refine⟨⟨trivial,Nat.le_refl _,by omega⟩,fun _=>⟨fun hK=> ?_,fun hK=> ?_⟩⟩
     ·rw [if_pos hK] at K
      refine⟨⟨trivial,Nat.le_refl _,by omega⟩,fun _=>⟨by omega,fun _=> ?_⟩⟩
      rw [if_pos trivial]
      refine⟨⟨i+1,hlt,E⟩,by show f.length - (i+1)<f.length - i; omega,by simp [SCb,fxS,za,K,M],?_,by kernel_rfl,Nat.zero_le _⟩
      have p1:=uO (l:=m) (x:=⟨a.name,x.date,(a.old x.value).1⟩) (za _ _ (fxG m))
      have p2:=uO (l:=k) (x:=x) (za _ _ (fxG k))
      simp only at p1 p2
      simp [HCb,fxS,chS,K,M,za,p1,p2]
     ·rw [if_neg (by simpa using hK)] at K
      refine⟨by omega,fun _=> ?_⟩
      rw [if_pos trivial]
      refine⟨⟨i+1,hlt,E⟩,by show f.length - (i+1)<f.length - i; omega,by simp [SCb,fxS,za,K,M],?_,by kernel_rfl,Nat.zero_le _⟩
      have p1:=uO (l:=m) (x:=⟨a.name,x.date,(a.old x.value).1⟩) (za _ _ (fxG m))
      simp only at p1
      simp [HCb,fxS,chS,K,M,za,p1]
   ·rw [if_neg (by simpa using hH)] at M
    have hbd:¬ a.bad x=true:=by unfold Ca.bad; rw [hH]; simp
    rw [if_neg hbd] at E
    refine⟨fun hK=> ?_,fun hK=> ?_⟩
    ·rw [if_pos hK] at K
     refine⟨⟨trivial,Nat.le_refl _,by omega⟩,fun _=>⟨by omega,fun _=> ?_⟩⟩
     rw [if_pos trivial]
     refine⟨⟨i+1,hlt,E⟩,by show f.length - (i+1)<f.length - i; omega,by simp [SCb,fxS,za,K,M],?_,by kernel_rfl,Nat.zero_le _⟩
     have p2:=uO (l:=k) (x:=x) (za _ _ (fxG k))
     simp [HCb,fxS,chS,K,M,za,p2]
    ·rw [if_neg (by simpa using hK)] at K
     refine⟨by omega,fun _=> ?_⟩
     rw [if_pos trivial]
     exact⟨⟨i+1,hlt,E⟩,by show f.length - (i+1)<f.length - i; omega,by simp [SCb,fxS,za,K,M],by simp [HCb,fxS,chS,K,M,za],by kernel_rfl,Nat.zero_le _⟩
  ·have hge:i=f.length:=by have:=of_decide_eq_false h; omega
   rw [hge,List.take_length] at hk hm hie
   have hB:a.before f c=if 1000<k.length+m.length then(([],[]),22) else((a.join k m,c),0):=by
    unfold Ca.before
    rw [if_neg (by simp [hok]),if_neg (by simp [hE]),if_neg (by simp [hie]),hk,hm]
   refine⟨by omega,fun _=>⟨fun h2=> ?_,fun h2=> ?_⟩⟩
   ·have h2:=of_decide_eq_true h2
    rw [if_pos (by omega)] at hB
    exact bad _ _ hB
   ·have h2:=of_decide_eq_false h2
    rw [if_neg (by omega)] at hB
    have hpk:k.Pairwise fun x y=>cmpF x y<0:=by rw [← hk]; exact(Ca.J2 hE).2
    refine⟨(k,a),⟨by simp [fxS,Jm],by show k.length<2^40; omega,hpk⟩,⟨(a.at_ k,false),rfl⟩,?_⟩
    rintro⟨n,b⟩ hn
    simp only at hn
    subst hn
    refine⟨(k,m,a.at_ k),⟨by simp,by simp [za],trivial,Ca.Yb,by show k.length<2^40; omega,by show m.length<2^40; omega⟩,⟨(),trivial⟩,fun _ _=> ?_⟩
    have hjl:(a.join k m).length=k.length+m.length:=by
     have:=Ca.Yb (a:=a) (l:=k)
     unfold Ca.join
     simp only [List.length_append,List.length_take,List.length_drop]
     omega
    rw [hB] at hq
    simp only [hjl] at hq
    refine RetR.outs [6,3] rfl rfl (.inl hq) (fun _=>⟨?_,?_⟩) ?_ ?_ rfl
    ·simp [resV,new2,new1,new0,zw,zQ]
    ·simp only [List.mem_cons,List.not_mem_nil,or_false,forall_eq_or_imp,forall_eq]
     have:=zfg (za (k.length+m.length) 3 (fxG (a.join k m)))
     exact⟨by rw [← hjl] at this ⊢; exact this,Yd (za _ _ _)⟩
    ·simp [resV,exp2,exp1,exp0,zw,ren0,eqA2,eqL1]
    ·exact⟨⟨rfl,rfl,za _ _ _⟩,⟨rfl,rfl,za _ _ _⟩,trivial⟩
def Ca.nilA:Ca:=⟨[],[],0,[],[]⟩
def Ca.out(a:Ca):Ca:=if a.ok=true then a else Ca.nilA
def Yk:Ctr:=ctrP true (fun a:Ca=>[a.av]) js (fun _ (_:Unit)=>True) (fun a _=>(.tup [(Ca.out a).av,.int .i64 (if a.ok=true then 0 else 8)],[]))
noncomputable def GMdA:Nat→Option Ctr:=fun f=>if f=26 then some (yu) else none
theorem zdg:∀ g c,GMdA g=some c→zd Tryz.prog g c:=okIf xw (zq)
theorem Uy:zd Tryz.prog 54 Yk:=by
 refine ze (fn:=Tryz.f54) (c:=Tryz.f54.body.getD .skip) rfl rfl rfl fun a ha O w0 Q hq=> ?_
 replace hq:=hq () trivial
 refine zb.run hmix zdg [] 400 (T:=.ex (fun(x:Ca)=>eqL [AV.agg [AV.str (Ca.name a),AV.str (Ca.into a),AV.int .i64 (Ca.date a),AV.str (Ca.ratio a),AV.str (Ca.extra a)]] [AV.agg [AV.str (Ca.name x),AV.str (Ca.into x),AV.int .i64 (Ca.date x),AV.str (Ca.ratio x),AV.str (Ca.extra x)]]∧js x) fun n=>.all (fun(r:Int)=>r=if Ca.ok n=true then(0:Int) else(8:Int)) fun n=>.ite (!decide (n=0)) (.leaf (.ret [.agg [.str #[].toList,.str #[].toList,.int .i64 0,.str #[].toList,.str #[].toList],.int .i64 n] [.box [.str (Ca.name a),.str (Ca.into a),.int .i64 (Ca.date a),.str (Ca.ratio a),.str (Ca.extra a)],.box [.str #[].toList,.str #[].toList,.int .i64 0,.str #[].toList,.str #[].toList]])) (.leaf (.ret [.agg [.str (Ca.name a),.str (Ca.into a),.int .i64 (Ca.date a),.str (Ca.ratio a),.str (Ca.extra a)],.int .i64 0] [.box [.str (Ca.name a),.str (Ca.into a),.int .i64 (Ca.date a),.str (Ca.ratio a),.str (Ca.extra a)],.box [.str (Ca.name a),.str (Ca.into a),.int .i64 (Ca.date a),.str (Ca.ratio a),.str (Ca.extra a)]]))) (by kernel_rfl) ?_
 simp only [Tree.holds,zc]
 refine⟨a,⟨⟨by simp [Ca.av],trivial⟩,ha⟩,⟨_,rfl⟩,?_⟩
 rintro _ rfl
 cases ho:a.ok
 ·simp only [ho,Bool.false_eq_true,if_false,Ca.out] at hq ⊢
  refine⟨fun _=>RetR.out0 hq (fun _=>by simp [resV,new2,new1,new0,zQ]) (by simp [resV,exp2,exp1,exp0,ren0,eqA2,eqL1,Ca.av,Ca.nilA]),fun h=>by simp at h⟩
 ·simp only [ho,if_true,Ca.out] at hq ⊢
  refine⟨fun h=>by simp at h,fun _=>RetR.out0 hq (fun _=>by simp [resV,new2,new1,new0,zQ]) (by simp [resV,exp2,exp1,exp0,ren0,eqA2,eqL1,Ca.av])⟩
def splA(n:List UInt8)(d:Int)(r:List UInt8):Ca:=⟨n,n,d,r,[48]⟩
def divA(n:List UInt8)(d:Int)(r:List UInt8):Ca:=⟨n,n,d,[49],r⟩
structure SpA where
 n:List UInt8
 d:Int
 r:List UInt8
def splC:Ctr:=ctrP true (fun p:SpA=>[.str p.n,.int .i64 p.d,.str p.r]) (fun p=>p.n.length<2^38∧p.r.length<2^38) (fun _ (_:Unit)=>True) (fun p _=>(.tup [(Ca.out (splA p.n p.d p.r)).av,.int .i64 (if(splA p.n p.d p.r).ok=true then 0 else 8)],[]))
def divC:Ctr:=ctrP true (fun p:SpA=>[.str p.n,.int .i64 p.d,.str p.r]) (fun p=>p.n.length<2^38∧p.r.length<2^38) (fun _ (_:Unit)=>True) (fun p _=>(.tup [(Ca.out (divA p.n p.d p.r)).av,.int .i64 (if(divA p.n p.d p.r).ok=true then 0 else 8)],[]))
noncomputable def GSpl:Nat→Option Ctr:=fun f=>if f=54 then some (Yk) else if f=55 then some (qofC) else none
theorem XO:∀ g c,GSpl g=some c→zd Tryz.prog g c:=okIf Uy (okIf zbw (zq))
theorem zhz:zd Tryz.prog 19 splC:=by
 refine ze (fn:=Tryz.f19) (c:=Tryz.f19.body.getD .skip) rfl rfl rfl fun p hp O w0 Q hq=> ?_
 obtain⟨n,d,r⟩:=p
 obtain⟨h1,h2⟩:=hp
 replace hq:=hq () trivial
 simp only at hq h1 h2
 refine zb.run hmix XO [] 400 (T:=.ex (fun(x:Nat)=>eqL [AV.int .i64 0] [AV.int .i64 x]∧x≤9) fun n_1=>.all (fun(r:List UInt8)=>r=[UInt8.ofNat (48+n_1)]) fun n_2=>.ex (fun(x:Ca)=>eqL [AV.agg [AV.str n,AV.str n,AV.int .i64 d,AV.str r,AV.str n_2]] [AV.agg [AV.str (Ca.name x),AV.str (Ca.into x),AV.int .i64 (Ca.date x),AV.str (Ca.ratio x),AV.str (Ca.extra x)]]∧js x) fun n=>.all (fun(x:Unit)=>True) fun n_3=>.leaf (.ret [.agg [.str (Ca.name (Ca.out n)),.str (Ca.into (Ca.out n)),.int .i64 (Ca.date (Ca.out n)),.str (Ca.ratio (Ca.out n)),.str (Ca.extra (Ca.out n))],.int .i64 (if Ca.ok n=true then(0:Int) else(8:Int))] [.box [.str (Ca.name (Ca.out n)),.str (Ca.into (Ca.out n)),.int .i64 (Ca.date (Ca.out n)),.str (Ca.ratio (Ca.out n)),.str (Ca.extra (Ca.out n))]])) (by kernel_rfl) ?_
 simp only [Tree.holds,zc]
 refine⟨0,⟨⟨⟨rfl,rfl⟩,trivial⟩,by decide⟩,⟨_,rfl⟩,?_⟩
 rintro _ rfl
 refine⟨splA n d r,⟨⟨by simp [Ca.av,splA],trivial⟩,⟨h1,h1,h2,by show 1<_; decide⟩⟩,⟨(),trivial⟩,fun _ _=> ?_⟩
 exact RetR.out0 hq (fun _=>by simp [resV,new2,new1,new0,zQ,Ca.av]) (by simp [resV,exp2,exp1,exp0,ren0,eqA2,eqL1,Ca.av])
theorem zgj:zd Tryz.prog 23 divC:=by
 refine ze (fn:=Tryz.f23) (c:=Tryz.f23.body.getD .skip) rfl rfl rfl fun p hp O w0 Q hq=> ?_
 obtain⟨n,d,r⟩:=p
 obtain⟨h1,h2⟩:=hp
 replace hq:=hq () trivial
 simp only at hq h1 h2
 refine zb.run hmix XO [] 400 (T:=.ex (fun(x:Nat)=>eqL [AV.int .i64 1] [AV.int .i64 x]∧x≤9) fun n_1=>.all (fun(r:List UInt8)=>r=[UInt8.ofNat (48+n_1)]) fun n_2=>.ex (fun(x:Ca)=>eqL [AV.agg [AV.str n,AV.str n,AV.int .i64 d,AV.str n_2,AV.str r]] [AV.agg [AV.str (Ca.name x),AV.str (Ca.into x),AV.int .i64 (Ca.date x),AV.str (Ca.ratio x),AV.str (Ca.extra x)]]∧js x) fun n=>.all (fun(x:Unit)=>True) fun n_3=>.leaf (.ret [.agg [.str (Ca.name (Ca.out n)),.str (Ca.into (Ca.out n)),.int .i64 (Ca.date (Ca.out n)),.str (Ca.ratio (Ca.out n)),.str (Ca.extra (Ca.out n))],.int .i64 (if Ca.ok n=true then(0:Int) else(8:Int))] [.box [.str (Ca.name (Ca.out n)),.str (Ca.into (Ca.out n)),.int .i64 (Ca.date (Ca.out n)),.str (Ca.ratio (Ca.out n)),.str (Ca.extra (Ca.out n))]])) (by kernel_rfl) ?_
 simp only [Tree.holds,zc]
 refine⟨1,⟨⟨⟨rfl,rfl⟩,trivial⟩,by decide⟩,⟨_,rfl⟩,?_⟩
 rintro _ rfl
 refine⟨divA n d r,⟨⟨by simp [Ca.av,divA],trivial⟩,⟨h1,h1,by show 1<_; decide,h2⟩⟩,⟨(),trivial⟩,fun _ _=> ?_⟩
 exact RetR.out0 hq (fun _=>by simp [resV,new2,new1,new0,zQ,Ca.av]) (by simp [resV,exp2,exp1,exp0,ren0,eqA2,eqL1,Ca.av])
def nowC:Ctr:=ctrP true (fun _:Unit=>[]) (fun _=>True) (fun _ (_:Unit)=>True) (fun _ _=>(.agg [.int .u8 3,.str [],.str [65,67,77,69],.int .i64 0,.nils],[]))
theorem zgl:zd Tryz.prog 21 nowC:=by
 refine ze (fn:=Tryz.f21) (c:=Tryz.f21.body.getD .skip) rfl rfl rfl fun p hp O w0 Q hq=> ?_
 replace hq:=hq () trivial
 refine zb.run hmix z7 [] 400 (T:=.leaf (.ret [.agg [.int .u8 3,.str #[].toList,.str #[(65:UInt8),(67:UInt8),(77:UInt8),(69:UInt8)].toList,.int .i64 0,.nils]] [.box [.int .u8 3,.str #[].toList,.str #[(65:UInt8),(67:UInt8),(77:UInt8),(69:UInt8)].toList,.int .i64 0,.nils]])) (by kernel_rfl) ?_
 simp only [Tree.holds,zc]
 exact RetR.out0 hq (fun _=>by simp [resV,new2,new1,new0,zQ]) (by simp [resV,exp2,exp1,exp0,ren0,eqA2])
def Jv:Ctr:=ctrP true (fun r:List UInt8=>[.str r]) (fun _=>True) (fun _ (_:Unit)=>True) (fun r _=>(.agg [.int .u8 1,.str r,.str [],.int .i64 0,.nils],[]))
theorem WK:zd Tryz.prog 22 Jv:=by
 refine ze (fn:=Tryz.f22) (c:=Tryz.f22.body.getD .skip) rfl rfl rfl fun r hp O w0 Q hq=> ?_
 replace hq:=hq () trivial
 refine zb.run hmix z7 [] 400 (T:=.leaf (.ret [.agg [.int .u8 1,.str r,.str #[].toList,.int .i64 0,.nils]] [.box [.int .u8 1,.str r,.str #[].toList,.int .i64 0,.nils]])) (by kernel_rfl) ?_
 simp only [Tree.holds,zc]
 exact RetR.out0 hq (fun _=>by simp [resV,new2,new1,new0,zQ]) (by simp [resV,exp2,exp1,exp0,ren0,eqA2])
def ofC:Ctr:=ctrP false (fun p:Int×Ex×Ex=>[.int .u8 p.1,p.2.1.exA,p.2.2.exA]) (fun _=>True) (fun _ (_:Unit)=>True) (fun p _=>(exD (.mk p.1 [] [] 0 [p.2.1,p.2.2]),[]))
theorem zij:zd Tryz.prog 20 ofC:=by
 refine ze (fn:=Tryz.f20) (c:=Tryz.f20.body.getD .skip) rfl rfl rfl fun p hp O w0 Q hq=> ?_
 obtain⟨k,x,y⟩:=p
 replace hq:=hq () trivial
 simp only at hq
 refine zb.run hmix z7 [] 400 (T:=.leaf (.ret [.agg [.int .u8 k,.str #[].toList,.str #[].toList,.int .i64 0,.osl 3 5 0 2]] [.box [.int .u8 x.kind,.str x.rat,.str x.name,.int .i64 x.date,.sl x.sub.length 5 (Ex.exG x.sub)],.box [.int .u8 y.kind,.str y.rat,.str y.name,.int .i64 y.date,.sl y.sub.length 5 (Ex.exG y.sub)],.box [.int .u8 k,.str #[].toList,.str #[].toList,.int .i64 0,.osl 3 5 0 2],.arr 2 5 (zg 5 [.int .u8 x.kind,.str x.rat,.str x.name,.int .i64 x.date,.sl x.sub.length 5 (Ex.exG x.sub),.int .u8 y.kind,.str y.rat,.str y.name,.int .i64 y.date,.sl y.sub.length 5 (Ex.exG y.sub)])])) (by kernel_rfl) ?_
 simp only [Tree.holds,zc]
 exact RetR.le0 hq (fun h=>by cases h) (LeA.agg ⟨LeA.refl _,LeA.refl _,LeA.refl _,LeA.refl _,Ex.xL (x:=x) (y:=y) ⟨LeA.refl _,LeA.refl _,LeA.refl _,LeA.refl _,Ex.wj x,LeA.refl _,LeA.refl _,LeA.refl _,LeA.refl _,Ex.wj y,trivial⟩,trivial⟩)
theorem zav{f:List Fx}{c:List Ch}{z:Int} : LeA (exp2 [.arr f.length 3 (fxG f),.arr c.length 4 (chG c)] [] (.tup [.agg [.osl 0 3 0 f.length,.osl 1 4 0 c.length],.int .i64 z])) (.tup [envA f c,.int .i64 z]):=by
 refine qf ?_
 simp [exp2,exp1,exp0,zw,frz1,jk,ren0,eqA2,eqL1,envA,fxS,chS,Jm]
theorem zbo{f:List Fx}{c:List Ch}{z:Int} : new2 [.arr f.length 3 (fxG f),.arr c.length 4 (chG c)] [] (.tup [.agg [.osl 0 3 0 f.length,.osl 1 4 0 c.length],.int .i64 z]):=by
 simp only [new2,List.mem_cons,List.not_mem_nil,or_false,forall_eq_or_imp,forall_eq,new1,new0]
 refine⟨⟨fun _=> ?_,fun _=> ?_⟩,rfl⟩
 ·simp only [exp0,zw,frz1,jk,List.getElem?_cons_zero,if_true,XG]
  exact fun j o hj ho=>X5 _ _ _ ho
 ·simp only [exp0,zw,frz1,jk,List.getElem?_cons_succ,List.getElem?_cons_zero,if_true,XG]
  exact fun j o hj ho=>XK _ _ _ ho
def Zr:Ctr:=ctrP true (fun p:Ca×(List Fx×List Ch)=>[p.1.av,envA p.2.1 p.2.2]) (fun p=>js p.1∧envP p.2∧p.2.1.length≤1000000) (fun p r=>r=p.1.before p.2.1 p.2.2) (fun _ (r:(List Fx×List Ch)×Int)=>(.tup [envA r.1.1 r.1.2,.int .i64 r.2],[]))
theorem Zc:zd Tryz.prog 8 Zr:=zd.frozen X0 (fun _ _ _ _=>zbo) (fun _ _ _ _=>zav)
def acme:List UInt8:=[65,67,77,69]
def xJ:Ex:=.mk 3 [] acme 0 []
def yf(r:List UInt8):Ex:=.mk 1 r [] 0 []
def exOf(k:Int)(x y:Ex):Ex:=.mk k [] [] 0 [x,y]
def aSpl:Ca:=splA acme 10 [50]
def aDiv:Ca:=divA acme 10 [51,47,50]
def x1:Ex:=exOf 5 xJ (yf [51,48])
def w1:Ex:=exOf 5 (exOf 6 (yf [50]) xJ) (yf [51,48])
def w2:Ex:=exOf 4 xJ (yf [51,47,50])
theorem zb2:aSpl.ok=true:=by decide +kernel
theorem UT:aDiv.ok=true:=by decide +kernel
theorem zik:aSpl.expr x1=(w1,0):=by kernel_rfl
theorem zi2:aDiv.expr xJ=(w2,0):=by kernel_rfl
theorem al_v:aSpl.before [⟨acme,12,[49,56]⟩] []=(([⟨acme,12,[51,54]⟩],[]),0):=by kernel_rfl
def Ve:Ctr:=ctrP true (fun _:Unit=>[]) (fun _=>True) (fun _ r=>r=true) (fun _ (r:Bool)=>(.bool r,[]))
noncomputable def zie:Nat→Option Ctr:=fun f=>if f=21 then some (nowC) else if f=22 then some (Jv) else if f=20 then some (ofC) else if f=19 then some (splC) else if f=23 then some (divC) else if f=14 then some (zdd) else if f=8 then some (Zr) else if f=24 then some (Vv) else if f=25 then some (Kb) else none
theorem wM:∀ g c,zie g=some c→zd Tryz.prog g c:=okIf zgl (okIf WK (okIf zij (okIf zhz (okIf zgj (okIf zed (okIf Zc (okIf UW (okIf zcr (zq)))))))))
noncomputable def LA0:List Go.Sx.Item:=yP 12 (Tryz.f5.body.getD .skip)
noncomputable def LA2:List Go.Sx.Item:=LA0.drop 2
noncomputable def LA3:List Go.Sx.Item:=LA0.drop 3
noncomputable def LA4:List Go.Sx.Item:=LA0.drop 4
noncomputable def LA5:List Go.Sx.Item:=LA0.drop 5
noncomputable def LA6:List Go.Sx.Item:=LA0.drop 6
noncomputable def LA7:List Go.Sx.Item:=LA0.drop 7
def bSpl:Blk:=.box [.str [65,67,77,69],.str [65,67,77,69],.int .i64 10,.str [50],.str [48]]
def bDiv:Blk:=.box [.str [65,67,77,69],.str [65,67,77,69],.int .i64 10,.str [49],.str [51,47,50]]
def bEx(x:Ex):Blk:=.box x.cellsD
def SA2:KV:=[(0,.bool false),(1,.ptr 0 0),(2,.int .i64 0)]
def SA3:KV:=[(0,.bool false),(1,.ptr 0 0),(2,.int .i64 0),(3,.ptr 1 0),(4,.int .i64 0)]
def SA4:KV:=[(0,.bool false),(1,.ptr 0 0),(2,.int .i64 0),(3,.ptr 1 0),(4,.int .i64 0),(5,.ptr 3 0),(6,.int .i64 0)]
def SA5:KV:=SA4++[(7,.ptr 4 0),(8,.int .i64 0)]
def SA6:KV:=SA4++[(7,.ptr 4 0),(8,.int .i64 0),(9,.ptr 5 0),(10,.int .i64 0)]
def SA7:KV:=SA4++[(7,.ptr 4 0),(8,.int .i64 0),(9,.ptr 5 0),(10,.int .i64 0),(11,.ptr 6 0)]
def HA4:Heap:=[bSpl,bEx w1,.dead,.box [fxS [⟨acme,12,[51,54]⟩],chS []]]
def HA5:Heap:=[bSpl,bEx w1,.dead,.box [fxS [⟨acme,12,[51,54]⟩],chS []],bDiv]
def HA6:Heap:=[bSpl,bEx w1,.dead,.box [fxS [⟨acme,12,[51,54]⟩],chS []],bDiv,bEx w2]
def HA7:Heap:=[bSpl,bEx w1,.dead,.box [fxS [⟨acme,12,[51,54]⟩],chS []],bDiv,bEx w2,bEx w1]
theorem JP{A B:Prop}(a:A)(b:B):(∃ _:Bool,True)∧∀ n:Bool,True→((n=true→A)∧(n=false→B)):=⟨⟨true,trivial⟩,fun _ _=>⟨fun _=>a,fun _=>b⟩⟩
theorem Kj{p:Unit→Prop}(h:p ()):∃ n:Unit,(eqL [] []∧True)∧(∃ _:Unit,True)∧∀ _:Unit,True→p n:=⟨(),⟨trivial,trivial⟩,⟨(),trivial⟩,fun _ _=>h⟩
theorem zbd{r:List UInt8}{p:List UInt8→Prop}(h:p r):∃ n:List UInt8,(eqL [.str r] [.str n]∧True)∧(∃ _:Unit,True)∧∀ _:Unit,True→p n:=⟨r,⟨⟨rfl,trivial⟩,trivial⟩,⟨(),trivial⟩,fun _ _=>h⟩
theorem ur{k d:Int}{r n:List UInt8} : eqA (.agg [.int .u8 k,.str r,.str n,.int .i64 d,.nils]) (Ex.mk k r n d []).exA:=by simp [Ex.exA,Ex.exS,Ex.kind,Ex.rat,Ex.name,Ex.date,Ex.sub]
theorem zbq{k:Int}{a b:AV}(x y:Ex)(ha:eqA a x.exA)(hb:eqA b y.exA){p:Int×Ex×Ex→Prop}(h:p (k,x,y)):∃ n:Int×Ex×Ex,(eqL [.int .u8 k,a,b] [.int .u8 n.1,n.2.1.exA,n.2.2.exA]∧True)∧(∃ _:Unit,True)∧∀ _:Unit,True→p n:=⟨(k,x,y),⟨⟨⟨rfl,rfl⟩,ha,hb,trivial⟩,trivial⟩,⟨(),trivial⟩,fun _ _=>h⟩
theorem X9{a b:AV}(c:Ca)(x:Ex)(ha:eqA a c.av)(hb:eqA b x.exA)(ht:wO c)(h1:x.size<1048576)(h2:x.z8<1073741824){p:Ca×Ex→Prop}(h:p (c,x)):∃ n:Ca×Ex,(eqL [a,b] [n.1.av,n.2.exA]∧wO n.1∧n.2.size<1048576∧n.2.z8<1073741824)∧(∃ _:Unit,True)∧∀ _:Unit,True→p n:=⟨(c,x),⟨⟨ha,hb,trivial⟩,ht,h1,h2⟩,⟨(),trivial⟩,fun _ _=>h⟩
theorem zgh:eqA (.agg [.str [65,67,77,69],.str [65,67,77,69],.int .i64 10,.str [50],.str [48]]) aSpl.av:=⟨rfl,rfl,⟨rfl,rfl⟩,rfl,rfl,trivial⟩
theorem zi4:eqA (.agg [.str [65,67,77,69],.str [65,67,77,69],.int .i64 10,.str [49],.str [51,47,50]]) aDiv.av:=⟨rfl,rfl,⟨rfl,rfl⟩,rfl,rfl,trivial⟩
theorem zd9{x:Fx} : eqG 1 3 (zf (zg 3 [.str x.name,.int .i64 x.date,.str x.value]) 0) (fxG [x]):=by
 intro j o hj ho
 obtain rfl:j=0:=by omega
 rcases(show o=0∨o=1∨o=2 by omega) with rfl | rfl | rfl<;>rfl
theorem zdq:Ca.out (splA acme 10 [50])=aSpl:=by unfold Ca.out; exact if_pos zb2
theorem zfj:Ca.out (divA acme 10 [51,47,50])=aDiv:=by unfold Ca.out; exact if_pos UT
theorem Kq:zd Tryz.prog 5 Ve:=by
 refine ze (fn:=Tryz.f5) (c:=Tryz.f5.body.getD .skip) rfl rfl rfl fun p hp O w0 Q hq=> ?_
 replace hq:=hq _ rfl
 have ht:wO aSpl:=⟨by decide,by decide,by decide,by decide⟩
 have ht2:wO aDiv:=⟨by decide,by decide,by decide,by decide⟩
 refine zb.spine 12 ?_
 refine zb.cutL (ι:=Unit) LA0 2 0 (fun _=>SA2) (fun _=>[bSpl]) (by kernel_rfl) (by kernel_rfl) ?_ fun _=> ?_
 ·refine zb.run hmix wM [0,1,2] 400 (T:=.ex (fun(x:SpA)=>eqL [AV.str #[(65:UInt8),(67:UInt8),(77:UInt8),(69:UInt8)].toList,AV.int .i64 10,AV.str #[(50:UInt8)].toList] [AV.str (SpA.n x),AV.int .i64 (SpA.d x),AV.str (SpA.r x)]∧List.length (SpA.n x)<274877906944∧List.length (SpA.r x)<274877906944) fun n=>.all (fun(x:Unit)=>True) fun n_1=>.leaf (.back 0 [(0,.bool false),(1,.ptr 0 0),(2,.int .i64 (if Ca.ok (splA (SpA.n n) (SpA.d n) (SpA.r n))=true then(0:Int) else(8:Int)))] [.box [.str (Ca.name (Ca.out (splA (SpA.n n) (SpA.d n) (SpA.r n)))),.str (Ca.into (Ca.out (splA (SpA.n n) (SpA.d n) (SpA.r n)))),.int .i64 (Ca.date (Ca.out (splA (SpA.n n) (SpA.d n) (SpA.r n)))),.str (Ca.ratio (Ca.out (splA (SpA.n n) (SpA.d n) (SpA.r n)))),.str (Ca.extra (Ca.out (splA (SpA.n n) (SpA.d n) (SpA.r n))))]])) (by kernel_rfl) ?_
  simp only [Tree.holds,zc]
  refine⟨⟨acme,10,[50]⟩,⟨⟨rfl,⟨rfl,rfl⟩,rfl,trivial⟩,by decide,by decide⟩,?_⟩
  have e8:(if(splA acme 10 [50]).ok=true then(0:Int) else 8)=0:=if_pos zb2
  simp only [zdq,e8]
  refine⟨⟨(),trivial⟩,fun _ _=> ?_⟩
  rw [if_pos trivial]
  exact⟨(),by simp [SA2],by simp [bSpl,aSpl,splA,acme],by kernel_rfl,Nat.zero_le _⟩
 show wV none Tryz.prog Tryz.f5 O 0 w0 [] _ _ LA2 _
 refine zb.cutL (ι:=Unit) LA2 1 0 (fun _=>SA3) (fun _=>[bSpl,bEx w1]) (by kernel_rfl) (by kernel_rfl) ?_ fun _=> ?_
 ·refine zb.run hmix wM [0,1,2,3,4] 400 (T:=.all (fun(x:Bool)=>True) fun n=>.ite n (.ex (fun(x:Unit)=>eqL [] []∧True) fun n=>.all (fun(x:Unit)=>True) fun n=>.all (fun(x:Bool)=>True) fun n=>.ite n (.ex (fun(x:List UInt8)=>eqL [AV.str #[(51:UInt8),(48:UInt8)].toList] [AV.str x]∧True) fun n=>.all (fun(x:Unit)=>True) fun n_1=>.all (fun(x:Bool)=>True) fun n_2=>.ite n_2 (.ex (fun(x:Int×Ex×Ex)=>eqL [AV.int .u8 5,AV.agg [AV.int .u8 3,AV.str [],AV.str [(65:UInt8),(67:UInt8),(77:UInt8),(69:UInt8)],AV.int .i64 0,AV.nils],AV.agg [AV.int .u8 1,AV.str n,AV.str [],AV.int .i64 0,AV.nils]] [AV.int .u8 x.1,AV.agg [AV.int .u8 x.2.1.kind,AV.str x.2.1.rat,AV.str x.2.1.name,AV.int .i64 x.2.1.date,AV.sl x.2.1.sub.length 5 (Ex.exG x.2.1.sub)],AV.agg [AV.int .u8 x.2.2.kind,AV.str x.2.2.rat,AV.str x.2.2.name,AV.int .i64 x.2.2.date,AV.sl x.2.2.sub.length 5 (Ex.exG x.2.2.sub)]]∧True) fun n=>.all (fun(x:Unit)=>True) fun n_3=>.all (fun(x:Bool)=>True) fun n_4=>.ite n_4 (.ex (fun(x:Ca×Ex)=>eqL [AV.agg [AV.str [(65:UInt8),(67:UInt8),(77:UInt8),(69:UInt8)],AV.str [(65:UInt8),(67:UInt8),(77:UInt8),(69:UInt8)],AV.int .i64 10,AV.str [(50:UInt8)],AV.str [(48:UInt8)]],AV.agg [AV.int .u8 (Ex.kind (Ex.mk n.1 [] [] (0:Int) [n.2.1,n.2.2])),AV.str (Ex.rat (Ex.mk n.1 [] [] (0:Int) [n.2.1,n.2.2])),AV.str (Ex.name (Ex.mk n.1 [] [] (0:Int) [n.2.1,n.2.2])),AV.int .i64 (Ex.date (Ex.mk n.1 [] [] (0:Int) [n.2.1,n.2.2])),AV.sl (List.length (Ex.sub (Ex.mk n.1 [] [] (0:Int) [n.2.1,n.2.2]))) 5 (Ex.deep (Ex.mk n.1 [] [] (0:Int) [n.2.1,n.2.2]))]] [AV.agg [AV.str (Ca.name x.1),AV.str (Ca.into x.1),AV.int .i64 (Ca.date x.1),AV.str (Ca.ratio x.1),AV.str (Ca.extra x.1)],AV.agg [AV.int .u8 x.2.kind,AV.str x.2.rat,AV.str x.2.name,AV.int .i64 x.2.date,AV.sl x.2.sub.length 5 (Ex.exG x.2.sub)]]∧wO x.1∧Ex.size x.2<1048576∧Ex.z8 x.2<1073741824) fun n=>.all (fun(x:Unit)=>True) fun n_5=>.leaf (.back 0 [(0,.bool false),(1,.ptr 0 0),(2,.int .i64 0),(3,.ptr 1 0),(4,.int .i64 (Prod.snd (Ca.expr n.1 n.2)))] [.box [.str [(65:UInt8),(67:UInt8),(77:UInt8),(69:UInt8)],.str [(65:UInt8),(67:UInt8),(77:UInt8),(69:UInt8)],.int .i64 10,.str [(50:UInt8)],.str [(48:UInt8)]],.box [.int .u8 (Ex.kind (Prod.fst (Ca.expr n.1 n.2))),.str (Ex.rat (Prod.fst (Ca.expr n.1 n.2))),.str (Ex.name (Prod.fst (Ca.expr n.1 n.2))),.int .i64 (Ex.date (Prod.fst (Ca.expr n.1 n.2))),.sl (List.length (Ex.sub (Prod.fst (Ca.expr n.1 n.2)))) 5 (Ex.deep (Prod.fst (Ca.expr n.1 n.2)))]])) (.ex (fun(x:Ca×Ex)=>eqL [AV.agg [AV.str [(65:UInt8),(67:UInt8),(77:UInt8),(69:UInt8)],AV.str [(65:UInt8),(67:UInt8),(77:UInt8),(69:UInt8)],AV.int .i64 10,AV.str [(50:UInt8)],AV.str [(48:UInt8)]],AV.agg [AV.int .u8 (Ex.kind (Ex.mk n.1 [] [] (0:Int) [n.2.1,n.2.2])),AV.str (Ex.rat (Ex.mk n.1 [] [] (0:Int) [n.2.1,n.2.2])),AV.str (Ex.name (Ex.mk n.1 [] [] (0:Int) [n.2.1,n.2.2])),AV.int .i64 (Ex.date (Ex.mk n.1 [] [] (0:Int) [n.2.1,n.2.2])),AV.sl (List.length (Ex.sub (Ex.mk n.1 [] [] (0:Int) [n.2.1,n.2.2]))) 5 (Ex.deep (Ex.mk n.1 [] [] (0:Int) [n.2.1,n.2.2]))]] [AV.agg [AV.str (Ca.name x.1),AV.str (Ca.into x.1),AV.int .i64 (Ca.date x.1),AV.str (Ca.ratio x.1),AV.str (Ca.extra x.1)],AV.agg [AV.int .u8 x.2.kind,AV.str x.2.rat,AV.str x.2.name,AV.int .i64 x.2.date,AV.sl x.2.sub.length 5 (Ex.exG x.2.sub)]]∧wO x.1∧Ex.size x.2<1048576∧Ex.z8 x.2<1073741824) fun n=>.all (fun(x:Unit)=>True) fun n_5=>.leaf (.back 0 [(0,.bool false),(1,.ptr 0 0),(2,.int .i64 0),(3,.ptr 1 0),(4,.int .i64 (Prod.snd (Ca.expr n.1 n.2)))] [.box [.str [(65:UInt8),(67:UInt8),(77:UInt8),(69:UInt8)],.str [(65:UInt8),(67:UInt8),(77:UInt8),(69:UInt8)],.int .i64 10,.str [(50:UInt8)],.str [(48:UInt8)]],.box [.int .u8 (Ex.kind (Prod.fst (Ca.expr n.1 n.2))),.str (Ex.rat (Prod.fst (Ca.expr n.1 n.2))),.str (Ex.name (Prod.fst (Ca.expr n.1 n.2))),.int .i64 (Ex.date (Prod.fst (Ca.expr n.1 n.2))),.sl (List.length (Ex.sub (Prod.fst (Ca.expr n.1 n.2)))) 5 (Ex.deep (Prod.fst (Ca.expr n.1 n.2)))]]))) (.ex (fun(x:Int×Ex×Ex)=>eqL [AV.int .u8 5,AV.agg [AV.int .u8 3,AV.str [],AV.str [(65:UInt8),(67:UInt8),(77:UInt8),(69:UInt8)],AV.int .i64 0,AV.nils],AV.agg [AV.int .u8 1,AV.str n,AV.str [],AV.int .i64 0,AV.nils]] [AV.int .u8 x.1,AV.agg [AV.int .u8 x.2.1.kind,AV.str x.2.1.rat,AV.str x.2.1.name,AV.int .i64 x.2.1.date,AV.sl x.2.1.sub.length 5 (Ex.exG x.2.1.sub)],AV.agg [AV.int .u8 x.2.2.kind,AV.str x.2.2.rat,AV.str x.2.2.name,AV.int .i64 x.2.2.date,AV.sl x.2.2.sub.length 5 (Ex.exG x.2.2.sub)]]∧True) fun n=>.all (fun(x:Unit)=>True) fun n_3=>.ex (fun(x:Ca×Ex)=>eqL [AV.agg [AV.str [(65:UInt8),(67:UInt8),(77:UInt8),(69:UInt8)],AV.str [(65:UInt8),(67:UInt8),(77:UInt8),(69:UInt8)],AV.int .i64 10,AV.str [(50:UInt8)],AV.str [(48:UInt8)]],AV.agg [AV.int .u8 (Ex.kind (Ex.mk n.1 [] [] (0:Int) [n.2.1,n.2.2])),AV.str (Ex.rat (Ex.mk n.1 [] [] (0:Int) [n.2.1,n.2.2])),AV.str (Ex.name (Ex.mk n.1 [] [] (0:Int) [n.2.1,n.2.2])),AV.int .i64 (Ex.date (Ex.mk n.1 [] [] (0:Int) [n.2.1,n.2.2])),AV.sl (List.length (Ex.sub (Ex.mk n.1 [] [] (0:Int) [n.2.1,n.2.2]))) 5 (Ex.deep (Ex.mk n.1 [] [] (0:Int) [n.2.1,n.2.2]))]] [AV.agg [AV.str (Ca.name x.1),AV.str (Ca.into x.1),AV.int .i64 (Ca.date x.1),AV.str (Ca.ratio x.1),AV.str (Ca.extra x.1)],AV.agg [AV.int .u8 x.2.kind,AV.str x.2.rat,AV.str x.2.name,AV.int .i64 x.2.date,AV.sl x.2.sub.length 5 (Ex.exG x.2.sub)]]∧wO x.1∧Ex.size x.2<1048576∧Ex.z8 x.2<1073741824) fun n=>.all (fun(x:Unit)=>True) fun n_4=>.leaf (.back 0 [(0,.bool false),(1,.ptr 0 0),(2,.int .i64 0),(3,.ptr 1 0),(4,.int .i64 (Prod.snd (Ca.expr n.1 n.2)))] [.box [.str [(65:UInt8),(67:UInt8),(77:UInt8),(69:UInt8)],.str [(65:UInt8),(67:UInt8),(77:UInt8),(69:UInt8)],.int .i64 10,.str [(50:UInt8)],.str [(48:UInt8)]],.box [.int .u8 (Ex.kind (Prod.fst (Ca.expr n.1 n.2))),.str (Ex.rat (Prod.fst (Ca.expr n.1 n.2))),.str (Ex.name (Prod.fst (Ca.expr n.1 n.2))),.int .i64 (Ex.date (Prod.fst (Ca.expr n.1 n.2))),.sl (List.length (Ex.sub (Prod.fst (Ca.expr n.1 n.2)))) 5 (Ex.deep (Prod.fst (Ca.expr n.1 n.2)))]]))) (.ex (fun(x:List UInt8)=>eqL [AV.str #[(51:UInt8),(48:UInt8)].toList] [AV.str x]∧True) fun n=>.all (fun(x:Unit)=>True) fun n_1=>.ex (fun(x:Int×Ex×Ex)=>eqL [AV.int .u8 5,AV.agg [AV.int .u8 3,AV.str [],AV.str [(65:UInt8),(67:UInt8),(77:UInt8),(69:UInt8)],AV.int .i64 0,AV.nils],AV.agg [AV.int .u8 1,AV.str n,AV.str [],AV.int .i64 0,AV.nils]] [AV.int .u8 x.1,AV.agg [AV.int .u8 x.2.1.kind,AV.str x.2.1.rat,AV.str x.2.1.name,AV.int .i64 x.2.1.date,AV.sl x.2.1.sub.length 5 (Ex.exG x.2.1.sub)],AV.agg [AV.int .u8 x.2.2.kind,AV.str x.2.2.rat,AV.str x.2.2.name,AV.int .i64 x.2.2.date,AV.sl x.2.2.sub.length 5 (Ex.exG x.2.2.sub)]]∧True) fun n=>.all (fun(x:Unit)=>True) fun n_2=>.ex (fun(x:Ca×Ex)=>eqL [AV.agg [AV.str [(65:UInt8),(67:UInt8),(77:UInt8),(69:UInt8)],AV.str [(65:UInt8),(67:UInt8),(77:UInt8),(69:UInt8)],AV.int .i64 10,AV.str [(50:UInt8)],AV.str [(48:UInt8)]],AV.agg [AV.int .u8 (Ex.kind (Ex.mk n.1 [] [] (0:Int) [n.2.1,n.2.2])),AV.str (Ex.rat (Ex.mk n.1 [] [] (0:Int) [n.2.1,n.2.2])),AV.str (Ex.name (Ex.mk n.1 [] [] (0:Int) [n.2.1,n.2.2])),AV.int .i64 (Ex.date (Ex.mk n.1 [] [] (0:Int) [n.2.1,n.2.2])),AV.sl (List.length (Ex.sub (Ex.mk n.1 [] [] (0:Int) [n.2.1,n.2.2]))) 5 (Ex.deep (Ex.mk n.1 [] [] (0:Int) [n.2.1,n.2.2]))]] [AV.agg [AV.str (Ca.name x.1),AV.str (Ca.into x.1),AV.int .i64 (Ca.date x.1),AV.str (Ca.ratio x.1),AV.str (Ca.extra x.1)],AV.agg [AV.int .u8 x.2.kind,AV.str x.2.rat,AV.str x.2.name,AV.int .i64 x.2.date,AV.sl x.2.sub.length 5 (Ex.exG x.2.sub)]]∧wO x.1∧Ex.size x.2<1048576∧Ex.z8 x.2<1073741824) fun n=>.all (fun(x:Unit)=>True) fun n_3=>.leaf (.back 0 [(0,.bool false),(1,.ptr 0 0),(2,.int .i64 0),(3,.ptr 1 0),(4,.int .i64 (Prod.snd (Ca.expr n.1 n.2)))] [.box [.str [(65:UInt8),(67:UInt8),(77:UInt8),(69:UInt8)],.str [(65:UInt8),(67:UInt8),(77:UInt8),(69:UInt8)],.int .i64 10,.str [(50:UInt8)],.str [(48:UInt8)]],.box [.int .u8 (Ex.kind (Prod.fst (Ca.expr n.1 n.2))),.str (Ex.rat (Prod.fst (Ca.expr n.1 n.2))),.str (Ex.name (Prod.fst (Ca.expr n.1 n.2))),.int .i64 (Ex.date (Prod.fst (Ca.expr n.1 n.2))),.sl (List.length (Ex.sub (Prod.fst (Ca.expr n.1 n.2)))) 5 (Ex.deep (Prod.fst (Ca.expr n.1 n.2)))]]))) (.ex (fun(x:Unit)=>eqL [] []∧True) fun n=>.all (fun(x:Unit)=>True) fun n=>.ex (fun(x:List UInt8)=>eqL [AV.str #[(51:UInt8),(48:UInt8)].toList] [AV.str x]∧True) fun n=>.all (fun(x:Unit)=>True) fun n_1=>.ex (fun(x:Int×Ex×Ex)=>eqL [AV.int .u8 5,AV.agg [AV.int .u8 3,AV.str [],AV.str [(65:UInt8),(67:UInt8),(77:UInt8),(69:UInt8)],AV.int .i64 0,AV.nils],AV.agg [AV.int .u8 1,AV.str n,AV.str [],AV.int .i64 0,AV.nils]] [AV.int .u8 x.1,AV.agg [AV.int .u8 x.2.1.kind,AV.str x.2.1.rat,AV.str x.2.1.name,AV.int .i64 x.2.1.date,AV.sl x.2.1.sub.length 5 (Ex.exG x.2.1.sub)],AV.agg [AV.int .u8 x.2.2.kind,AV.str x.2.2.rat,AV.str x.2.2.name,AV.int .i64 x.2.2.date,AV.sl x.2.2.sub.length 5 (Ex.exG x.2.2.sub)]]∧True) fun n=>.all (fun(x:Unit)=>True) fun n_2=>.ex (fun(x:Ca×Ex)=>eqL [AV.agg [AV.str [(65:UInt8),(67:UInt8),(77:UInt8),(69:UInt8)],AV.str [(65:UInt8),(67:UInt8),(77:UInt8),(69:UInt8)],AV.int .i64 10,AV.str [(50:UInt8)],AV.str [(48:UInt8)]],AV.agg [AV.int .u8 (Ex.kind (Ex.mk n.1 [] [] (0:Int) [n.2.1,n.2.2])),AV.str (Ex.rat (Ex.mk n.1 [] [] (0:Int) [n.2.1,n.2.2])),AV.str (Ex.name (Ex.mk n.1 [] [] (0:Int) [n.2.1,n.2.2])),AV.int .i64 (Ex.date (Ex.mk n.1 [] [] (0:Int) [n.2.1,n.2.2])),AV.sl (List.length (Ex.sub (Ex.mk n.1 [] [] (0:Int) [n.2.1,n.2.2]))) 5 (Ex.deep (Ex.mk n.1 [] [] (0:Int) [n.2.1,n.2.2]))]] [AV.agg [AV.str (Ca.name x.1),AV.str (Ca.into x.1),AV.int .i64 (Ca.date x.1),AV.str (Ca.ratio x.1),AV.str (Ca.extra x.1)],AV.agg [AV.int .u8 x.2.kind,AV.str x.2.rat,AV.str x.2.name,AV.int .i64 x.2.date,AV.sl x.2.sub.length 5 (Ex.exG x.2.sub)]]∧wO x.1∧Ex.size x.2<1048576∧Ex.z8 x.2<1073741824) fun n=>.all (fun(x:Unit)=>True) fun n_3=>.leaf (.back 0 [(0,.bool false),(1,.ptr 0 0),(2,.int .i64 0),(3,.ptr 1 0),(4,.int .i64 (Prod.snd (Ca.expr n.1 n.2)))] [.box [.str [(65:UInt8),(67:UInt8),(77:UInt8),(69:UInt8)],.str [(65:UInt8),(67:UInt8),(77:UInt8),(69:UInt8)],.int .i64 10,.str [(50:UInt8)],.str [(48:UInt8)]],.box [.int .u8 (Ex.kind (Prod.fst (Ca.expr n.1 n.2))),.str (Ex.rat (Prod.fst (Ca.expr n.1 n.2))),.str (Ex.name (Prod.fst (Ca.expr n.1 n.2))),.int .i64 (Ex.date (Prod.fst (Ca.expr n.1 n.2))),.sl (List.length (Ex.sub (Prod.fst (Ca.expr n.1 n.2)))) 5 (Ex.deep (Prod.fst (Ca.expr n.1 n.2)))]]))) (by kernel_rfl) ?_
  simp only [Tree.holds,zc]
  repeat' first
   | apply JP
   | apply Kj
   | apply zbd
   | apply zbq xJ (yf [51,48]) ur ur
   | apply X9 aSpl x1 zgh (vB x1) ht (by decide) (by decide)
  all_goals
   simp only [zik]
   rw [if_pos trivial]
  all_goals exact⟨(),by simp [SA3],⟨z6 _,z6 _,trivial⟩,by kernel_rfl,Nat.zero_le _⟩
 show wV none Tryz.prog Tryz.f5 O 0 w0 [] _ _ LA3 _
 refine zb.cutL (ι:=Unit) LA3 1 0 (fun _=>SA4) (fun _=>HA4) (by kernel_rfl) (by kernel_rfl) ?_ fun _=> ?_
 ·refine zb.run hmix wM [0,1,2,3,4,5,6] 400 (T:=.ex (fun(x:Ca×List Fx×List Ch)=>eqL [AV.agg [AV.str [(65:UInt8),(67:UInt8),(77:UInt8),(69:UInt8)],AV.str [(65:UInt8),(67:UInt8),(77:UInt8),(69:UInt8)],AV.int .i64 10,AV.str [(50:UInt8)],AV.str [(48:UInt8)]],AV.agg [AV.sl 1 3 (zf (zg 3 [AV.str #[(65:UInt8),(67:UInt8),(77:UInt8),(69:UInt8)].toList,AV.int .i64 12,AV.str #[(49:UInt8),(56:UInt8)].toList]) 0),AV.nils]] [AV.agg [AV.str (Ca.name x.1),AV.str (Ca.into x.1),AV.int .i64 (Ca.date x.1),AV.str (Ca.ratio x.1),AV.str (Ca.extra x.1)],AV.agg [AV.sl x.2.1.length 3 (fxG x.2.1),AV.sl x.2.2.length 4 (chG x.2.2)]]∧js x.1∧envP x.2∧x.2.1.length≤1000000) fun n=>.all (fun(r:(List Fx×List Ch)×Int)=>r=Ca.before n.1 n.2.1 n.2.2) fun n=>.leaf (.back 0 [(0,.bool false),(1,.ptr 0 0),(2,.int .i64 0),(3,.ptr 1 0),(4,.int .i64 0),(5,.ptr 3 0),(6,.int .i64 n.2)] [.box [.str [(65:UInt8),(67:UInt8),(77:UInt8),(69:UInt8)],.str [(65:UInt8),(67:UInt8),(77:UInt8),(69:UInt8)],.int .i64 10,.str [(50:UInt8)],.str [(48:UInt8)]],.box [.int .u8 5,.str w1.rat,.str w1.name,.int .i64 0,.sl 2 5 w1.deep],.arr 1 3 (zg 3 [.str #[(65:UInt8),(67:UInt8),(77:UInt8),(69:UInt8)].toList,.int .i64 12,.str #[(49:UInt8),(56:UInt8)].toList]),.box [.sl n.1.1.length 3 (fxG n.1.1),.sl n.1.2.length 4 (chG n.1.2)]])) (by kernel_rfl) ?_
  simp only [Tree.holds,zc]
  refine⟨(aSpl,[⟨acme,12,[49,56]⟩],[]),⟨⟨zgh,⟨⟨rfl,rfl,zd9 (x:=⟨acme,12,[49,56]⟩)⟩,by simp [chS],trivial⟩,trivial⟩,⟨by decide,by decide,by decide,by decide⟩,⟨by decide,by decide,fun j hj=> ?_,fun j hj=>by cases hj⟩,by decide⟩,⟨_,rfl⟩,?_⟩
  ·have:j=0:=by have:j<1:=hj; omega
   subst this
   exact⟨by decide,by decide⟩
  rintro _ rfl
  rw [if_pos trivial]
  simp only [al_v]
  exact⟨(),by simp [SA4],⟨z6 _,z6 _,trivial,z6 _,trivial⟩,by kernel_rfl,Nat.zero_le _⟩
 show wV none Tryz.prog Tryz.f5 O 0 w0 [] _ _ LA4 _
 refine zb.cutL (ι:=Unit) LA4 1 0 (fun _=>SA5) (fun _=>HA5) (by kernel_rfl) (by kernel_rfl) ?_ fun _=> ?_
 ·refine zb.run hmix wM [0,1,2,3,4,5,6,7,8] 400 (T:=.ex (fun(x:SpA)=>eqL [AV.str #[(65:UInt8),(67:UInt8),(77:UInt8),(69:UInt8)].toList,AV.int .i64 10,AV.str #[(51:UInt8),(47:UInt8),(50:UInt8)].toList] [AV.str (SpA.n x),AV.int .i64 (SpA.d x),AV.str (SpA.r x)]∧List.length (SpA.n x)<274877906944∧List.length (SpA.r x)<274877906944) fun n=>.all (fun(x:Unit)=>True) fun n_1=>.leaf (.back 0 [(0,.bool false),(1,.ptr 0 0),(2,.int .i64 0),(3,.ptr 1 0),(4,.int .i64 0),(5,.ptr 3 0),(6,.int .i64 0),(7,.ptr 4 0),(8,.int .i64 (if Ca.ok (divA (SpA.n n) (SpA.d n) (SpA.r n))=true then(0:Int) else(8:Int)))] [.box [.str [(65:UInt8),(67:UInt8),(77:UInt8),(69:UInt8)],.str [(65:UInt8),(67:UInt8),(77:UInt8),(69:UInt8)],.int .i64 10,.str [(50:UInt8)],.str [(48:UInt8)]],.box [.int .u8 5,.str w1.rat,.str w1.name,.int .i64 0,.sl 2 5 w1.deep],.dead,.box [.sl 1 3 (fxG [{ name:=acme,date:=(12:Int),value:=[(51:UInt8),(54:UInt8)] }]),.sl 0 4 (chG [])],.box [.str (Ca.name (Ca.out (divA (SpA.n n) (SpA.d n) (SpA.r n)))),.str (Ca.into (Ca.out (divA (SpA.n n) (SpA.d n) (SpA.r n)))),.int .i64 (Ca.date (Ca.out (divA (SpA.n n) (SpA.d n) (SpA.r n)))),.str (Ca.ratio (Ca.out (divA (SpA.n n) (SpA.d n) (SpA.r n)))),.str (Ca.extra (Ca.out (divA (SpA.n n) (SpA.d n) (SpA.r n))))]])) (by kernel_rfl) ?_
  simp only [Tree.holds,zc]
  refine⟨⟨acme,10,[51,47,50]⟩,⟨⟨rfl,⟨rfl,rfl⟩,rfl,trivial⟩,by decide,by decide⟩,?_⟩
  have e8:(if(divA acme 10 [51,47,50]).ok=true then(0:Int) else 8)=0:=if_pos UT
  simp only [zfj,e8]
  refine⟨⟨(),trivial⟩,fun _ _=> ?_⟩
  rw [if_pos trivial]
  exact⟨(),by simp [SA5,SA4],⟨z6 _,z6 _,trivial,z6 _,z6 _,trivial⟩,by kernel_rfl,Nat.zero_le _⟩
 show wV none Tryz.prog Tryz.f5 O 0 w0 [] _ _ LA5 _
 refine zb.cutL (ι:=Unit) LA5 1 0 (fun _=>SA6) (fun _=>HA6) (by kernel_rfl) (by kernel_rfl) ?_ fun _=> ?_
 ·refine zb.run hmix wM [0,1,2,3,4,5,6,7,8,9,10] 400 (T:=.all (fun(x:Bool)=>True) fun n=>.ite n (.ex (fun(x:Unit)=>eqL [] []∧True) fun n=>.all (fun(x:Unit)=>True) fun n=>.all (fun(x:Bool)=>True) fun n=>.ite n (.ex (fun(x:Ca×Ex)=>eqL [AV.agg [AV.str [(65:UInt8),(67:UInt8),(77:UInt8),(69:UInt8)],AV.str [(65:UInt8),(67:UInt8),(77:UInt8),(69:UInt8)],AV.int .i64 10,AV.str [(49:UInt8)],AV.str [(51:UInt8),(47:UInt8),(50:UInt8)]],AV.agg [AV.int .u8 3,AV.str [],AV.str [(65:UInt8),(67:UInt8),(77:UInt8),(69:UInt8)],AV.int .i64 0,AV.nils]] [AV.agg [AV.str (Ca.name x.1),AV.str (Ca.into x.1),AV.int .i64 (Ca.date x.1),AV.str (Ca.ratio x.1),AV.str (Ca.extra x.1)],AV.agg [AV.int .u8 x.2.kind,AV.str x.2.rat,AV.str x.2.name,AV.int .i64 x.2.date,AV.sl x.2.sub.length 5 (Ex.exG x.2.sub)]]∧wO x.1∧Ex.size x.2<1048576∧Ex.z8 x.2<1073741824) fun n=>.all (fun(x:Unit)=>True) fun n_1=>.leaf (.back 0 [(0,.bool false),(1,.ptr 0 0),(2,.int .i64 0),(3,.ptr 1 0),(4,.int .i64 0),(5,.ptr 3 0),(6,.int .i64 0),(7,.ptr 4 0),(8,.int .i64 0),(9,.ptr 5 0),(10,.int .i64 (Prod.snd (Ca.expr n.1 n.2)))] [.box [.str [(65:UInt8),(67:UInt8),(77:UInt8),(69:UInt8)],.str [(65:UInt8),(67:UInt8),(77:UInt8),(69:UInt8)],.int .i64 10,.str [(50:UInt8)],.str [(48:UInt8)]],.box [.int .u8 5,.str w1.rat,.str w1.name,.int .i64 0,.sl 2 5 w1.deep],.dead,.box [.sl 1 3 (fxG [{ name:=acme,date:=(12:Int),value:=[(51:UInt8),(54:UInt8)] }]),.sl 0 4 (chG [])],.box [.str [(65:UInt8),(67:UInt8),(77:UInt8),(69:UInt8)],.str [(65:UInt8),(67:UInt8),(77:UInt8),(69:UInt8)],.int .i64 10,.str [(49:UInt8)],.str [(51:UInt8),(47:UInt8),(50:UInt8)]],.box [.int .u8 (Ex.kind (Prod.fst (Ca.expr n.1 n.2))),.str (Ex.rat (Prod.fst (Ca.expr n.1 n.2))),.str (Ex.name (Prod.fst (Ca.expr n.1 n.2))),.int .i64 (Ex.date (Prod.fst (Ca.expr n.1 n.2))),.sl (List.length (Ex.sub (Prod.fst (Ca.expr n.1 n.2)))) 5 (Ex.deep (Prod.fst (Ca.expr n.1 n.2)))]])) (.ex (fun(x:Ca×Ex)=>eqL [AV.agg [AV.str [(65:UInt8),(67:UInt8),(77:UInt8),(69:UInt8)],AV.str [(65:UInt8),(67:UInt8),(77:UInt8),(69:UInt8)],AV.int .i64 10,AV.str [(49:UInt8)],AV.str [(51:UInt8),(47:UInt8),(50:UInt8)]],AV.agg [AV.int .u8 3,AV.str [],AV.str [(65:UInt8),(67:UInt8),(77:UInt8),(69:UInt8)],AV.int .i64 0,AV.nils]] [AV.agg [AV.str (Ca.name x.1),AV.str (Ca.into x.1),AV.int .i64 (Ca.date x.1),AV.str (Ca.ratio x.1),AV.str (Ca.extra x.1)],AV.agg [AV.int .u8 x.2.kind,AV.str x.2.rat,AV.str x.2.name,AV.int .i64 x.2.date,AV.sl x.2.sub.length 5 (Ex.exG x.2.sub)]]∧wO x.1∧Ex.size x.2<1048576∧Ex.z8 x.2<1073741824) fun n=>.all (fun(x:Unit)=>True) fun n_1=>.leaf (.back 0 [(0,.bool false),(1,.ptr 0 0),(2,.int .i64 0),(3,.ptr 1 0),(4,.int .i64 0),(5,.ptr 3 0),(6,.int .i64 0),(7,.ptr 4 0),(8,.int .i64 0),(9,.ptr 5 0),(10,.int .i64 (Prod.snd (Ca.expr n.1 n.2)))] [.box [.str [(65:UInt8),(67:UInt8),(77:UInt8),(69:UInt8)],.str [(65:UInt8),(67:UInt8),(77:UInt8),(69:UInt8)],.int .i64 10,.str [(50:UInt8)],.str [(48:UInt8)]],.box [.int .u8 5,.str w1.rat,.str w1.name,.int .i64 0,.sl 2 5 w1.deep],.dead,.box [.sl 1 3 (fxG [{ name:=acme,date:=(12:Int),value:=[(51:UInt8),(54:UInt8)] }]),.sl 0 4 (chG [])],.box [.str [(65:UInt8),(67:UInt8),(77:UInt8),(69:UInt8)],.str [(65:UInt8),(67:UInt8),(77:UInt8),(69:UInt8)],.int .i64 10,.str [(49:UInt8)],.str [(51:UInt8),(47:UInt8),(50:UInt8)]],.box [.int .u8 (Ex.kind (Prod.fst (Ca.expr n.1 n.2))),.str (Ex.rat (Prod.fst (Ca.expr n.1 n.2))),.str (Ex.name (Prod.fst (Ca.expr n.1 n.2))),.int .i64 (Ex.date (Prod.fst (Ca.expr n.1 n.2))),.sl (List.length (Ex.sub (Prod.fst (Ca.expr n.1 n.2)))) 5 (Ex.deep (Prod.fst (Ca.expr n.1 n.2)))]]))) (.ex (fun(x:Unit)=>eqL [] []∧True) fun n=>.all (fun(x:Unit)=>True) fun n=>.ex (fun(x:Ca×Ex)=>eqL [AV.agg [AV.str [(65:UInt8),(67:UInt8),(77:UInt8),(69:UInt8)],AV.str [(65:UInt8),(67:UInt8),(77:UInt8),(69:UInt8)],AV.int .i64 10,AV.str [(49:UInt8)],AV.str [(51:UInt8),(47:UInt8),(50:UInt8)]],AV.agg [AV.int .u8 3,AV.str [],AV.str [(65:UInt8),(67:UInt8),(77:UInt8),(69:UInt8)],AV.int .i64 0,AV.nils]] [AV.agg [AV.str (Ca.name x.1),AV.str (Ca.into x.1),AV.int .i64 (Ca.date x.1),AV.str (Ca.ratio x.1),AV.str (Ca.extra x.1)],AV.agg [AV.int .u8 x.2.kind,AV.str x.2.rat,AV.str x.2.name,AV.int .i64 x.2.date,AV.sl x.2.sub.length 5 (Ex.exG x.2.sub)]]∧wO x.1∧Ex.size x.2<1048576∧Ex.z8 x.2<1073741824) fun n=>.all (fun(x:Unit)=>True) fun n_1=>.leaf (.back 0 [(0,.bool false),(1,.ptr 0 0),(2,.int .i64 0),(3,.ptr 1 0),(4,.int .i64 0),(5,.ptr 3 0),(6,.int .i64 0),(7,.ptr 4 0),(8,.int .i64 0),(9,.ptr 5 0),(10,.int .i64 (Prod.snd (Ca.expr n.1 n.2)))] [.box [.str [(65:UInt8),(67:UInt8),(77:UInt8),(69:UInt8)],.str [(65:UInt8),(67:UInt8),(77:UInt8),(69:UInt8)],.int .i64 10,.str [(50:UInt8)],.str [(48:UInt8)]],.box [.int .u8 5,.str w1.rat,.str w1.name,.int .i64 0,.sl 2 5 w1.deep],.dead,.box [.sl 1 3 (fxG [{ name:=acme,date:=(12:Int),value:=[(51:UInt8),(54:UInt8)] }]),.sl 0 4 (chG [])],.box [.str [(65:UInt8),(67:UInt8),(77:UInt8),(69:UInt8)],.str [(65:UInt8),(67:UInt8),(77:UInt8),(69:UInt8)],.int .i64 10,.str [(49:UInt8)],.str [(51:UInt8),(47:UInt8),(50:UInt8)]],.box [.int .u8 (Ex.kind (Prod.fst (Ca.expr n.1 n.2))),.str (Ex.rat (Prod.fst (Ca.expr n.1 n.2))),.str (Ex.name (Prod.fst (Ca.expr n.1 n.2))),.int .i64 (Ex.date (Prod.fst (Ca.expr n.1 n.2))),.sl (List.length (Ex.sub (Prod.fst (Ca.expr n.1 n.2)))) 5 (Ex.deep (Prod.fst (Ca.expr n.1 n.2)))]]))) (by kernel_rfl) ?_
  simp only [Tree.holds,zc]
  repeat' first
   | apply JP
   | apply Kj
   | apply X9 aDiv xJ zi4 ur ht2 (by decide) (by decide)
  all_goals
   simp only [zi2]
   rw [if_pos trivial]
  all_goals exact⟨(),by simp [SA6,SA4],⟨z6 _,z6 _,trivial,z6 _,z6 _,z6 _,trivial⟩,by kernel_rfl,Nat.zero_le _⟩
 show wV none Tryz.prog Tryz.f5 O 0 w0 [] _ _ LA6 _
 refine zb.cutL (ι:=Unit) LA6 1 0 (fun _=>SA7) (fun _=>HA7) (by kernel_rfl) (by kernel_rfl) ?_ fun _=> ?_
 ·refine zb.run hmix wM [0,1,2,3,4,5,6,7,8,9,10,11] 400 (T:=.ex (fun(x:List UInt8)=>eqL [AV.str #[(50:UInt8)].toList] [AV.str x]∧True) fun n=>.all (fun(x:Unit)=>True) fun n_1=>.ex (fun(x:Unit)=>eqL [] []∧True) fun n_2=>.all (fun(x:Unit)=>True) fun n_3=>.ex (fun(x:Int×Ex×Ex)=>eqL [AV.int .u8 6,AV.agg [AV.int .u8 1,AV.str n,AV.str [],AV.int .i64 0,AV.nils],AV.agg [AV.int .u8 3,AV.str [],AV.str [(65:UInt8),(67:UInt8),(77:UInt8),(69:UInt8)],AV.int .i64 0,AV.nils]] [AV.int .u8 x.1,AV.agg [AV.int .u8 x.2.1.kind,AV.str x.2.1.rat,AV.str x.2.1.name,AV.int .i64 x.2.1.date,AV.sl x.2.1.sub.length 5 (Ex.exG x.2.1.sub)],AV.agg [AV.int .u8 x.2.2.kind,AV.str x.2.2.rat,AV.str x.2.2.name,AV.int .i64 x.2.2.date,AV.sl x.2.2.sub.length 5 (Ex.exG x.2.2.sub)]]∧True) fun n=>.all (fun(x:Unit)=>True) fun n_4=>.ex (fun(x:List UInt8)=>eqL [AV.str #[(51:UInt8),(48:UInt8)].toList] [AV.str x]∧True) fun n_5=>.all (fun(x:Unit)=>True) fun n_6=>.ex (fun(x:Int×Ex×Ex)=>eqL [AV.int .u8 5,AV.agg [AV.int .u8 (Ex.kind (Ex.mk n.1 [] [] (0:Int) [n.2.1,n.2.2])),AV.str (Ex.rat (Ex.mk n.1 [] [] (0:Int) [n.2.1,n.2.2])),AV.str (Ex.name (Ex.mk n.1 [] [] (0:Int) [n.2.1,n.2.2])),AV.int .i64 (Ex.date (Ex.mk n.1 [] [] (0:Int) [n.2.1,n.2.2])),AV.sl (List.length (Ex.sub (Ex.mk n.1 [] [] (0:Int) [n.2.1,n.2.2]))) 5 (Ex.deep (Ex.mk n.1 [] [] (0:Int) [n.2.1,n.2.2]))],AV.agg [AV.int .u8 1,AV.str n_5,AV.str [],AV.int .i64 0,AV.nils]] [AV.int .u8 x.1,AV.agg [AV.int .u8 x.2.1.kind,AV.str x.2.1.rat,AV.str x.2.1.name,AV.int .i64 x.2.1.date,AV.sl x.2.1.sub.length 5 (Ex.exG x.2.1.sub)],AV.agg [AV.int .u8 x.2.2.kind,AV.str x.2.2.rat,AV.str x.2.2.name,AV.int .i64 x.2.2.date,AV.sl x.2.2.sub.length 5 (Ex.exG x.2.2.sub)]]∧True) fun n=>.all (fun(x:Unit)=>True) fun n_7=>.leaf (.back 0 [(0,.bool false),(1,.ptr 0 0),(2,.int .i64 0),(3,.ptr 1 0),(4,.int .i64 0),(5,.ptr 3 0),(6,.int .i64 0),(7,.ptr 4 0),(8,.int .i64 0),(9,.ptr 5 0),(10,.int .i64 0),(11,.ptr 6 0)] [.box [.str [(65:UInt8),(67:UInt8),(77:UInt8),(69:UInt8)],.str [(65:UInt8),(67:UInt8),(77:UInt8),(69:UInt8)],.int .i64 10,.str [(50:UInt8)],.str [(48:UInt8)]],.box [.int .u8 5,.str w1.rat,.str w1.name,.int .i64 0,.sl 2 5 w1.deep],.dead,.box [.sl 1 3 (fxG [{ name:=acme,date:=(12:Int),value:=[(51:UInt8),(54:UInt8)] }]),.sl 0 4 (chG [])],.box [.str [(65:UInt8),(67:UInt8),(77:UInt8),(69:UInt8)],.str [(65:UInt8),(67:UInt8),(77:UInt8),(69:UInt8)],.int .i64 10,.str [(49:UInt8)],.str [(51:UInt8),(47:UInt8),(50:UInt8)]],.box [.int .u8 4,.str w2.rat,.str w2.name,.int .i64 0,.sl 2 5 w2.deep],.box [.int .u8 (Ex.kind (Ex.mk n.1 [] [] (0:Int) [n.2.1,n.2.2])),.str (Ex.rat (Ex.mk n.1 [] [] (0:Int) [n.2.1,n.2.2])),.str (Ex.name (Ex.mk n.1 [] [] (0:Int) [n.2.1,n.2.2])),.int .i64 (Ex.date (Ex.mk n.1 [] [] (0:Int) [n.2.1,n.2.2])),.sl (List.length (Ex.sub (Ex.mk n.1 [] [] (0:Int) [n.2.1,n.2.2]))) 5 (Ex.deep (Ex.mk n.1 [] [] (0:Int) [n.2.1,n.2.2]))]])) (by kernel_rfl) ?_
  simp only [Tree.holds,zc]
  repeat' first
   | apply JP
   | apply Kj
   | apply zbd
   | apply zbq (yf [50]) xJ ur ur
   | apply zbq (exOf 6 (yf [50]) xJ) (yf [51,48]) (vB _) ur
  all_goals rw [if_pos trivial]
  all_goals exact⟨(),by simp [SA7,SA4],⟨z6 _,z6 _,trivial,z6 _,z6 _,z6 _,z6 _,trivial⟩,by kernel_rfl,Nat.zero_le _⟩
 show wV none Tryz.prog Tryz.f5 O 0 w0 [] _ _ LA7 _
 refine zb.run hmix wM [0,1,2,3,4,5,6,7,8,9,10,11] 400 (T:=.ex (fun(x:Ex×Ex)=>(bif decide ((0:Int)=0) then decide ((0:Int)=0) else false)=true→eqL [AV.agg [AV.int .u8 5,AV.str w1.rat,AV.str w1.name,AV.int .i64 0,AV.sl 2 5 w1.deep],AV.agg [AV.int .u8 5,AV.str w1.rat,AV.str w1.name,AV.int .i64 0,AV.sl 2 5 w1.deep]] [AV.agg [AV.int .u8 x.1.kind,AV.str x.1.rat,AV.str x.1.name,AV.int .i64 x.1.date,AV.sl x.1.sub.length 5 (Ex.exG x.1.sub)],AV.agg [AV.int .u8 x.2.kind,AV.str x.2.rat,AV.str x.2.name,AV.int .i64 x.2.date,AV.sl x.2.sub.length 5 (Ex.exG x.2.sub)]]∧Ex.size x.1<1152921504606846976) fun n=>.all (fun(x:Bool)=>(bif decide ((0:Int)=0) then decide ((0:Int)=0) else false)=true→(x=true↔n.1=n.2)) fun n=>.ite ((bif bif bif decide ((0:Int)=0) then decide ((0:Int)=0) else false then n else false then decide ((0:Int)=0) else false) == true) (.ex (fun(x:(List Fx×List Ch)×List Fx×List Ch)=>(bif bif bif decide ((0:Int)=0) then decide ((0:Int)=0) else false then n else false then decide ((0:Int)=0) else false)=true→eqL [AV.agg [AV.sl 1 3 (fxG [{ name:=acme,date:=(12:Int),value:=[(51:UInt8),(54:UInt8)] }]),AV.sl 0 4 (chG [])],AV.agg [AV.sl 1 3 (zf (zg 3 [AV.str #[(65:UInt8),(67:UInt8),(77:UInt8),(69:UInt8)].toList,AV.int .i64 12,AV.str #[(51:UInt8),(54:UInt8)].toList]) 0),AV.nils]] [AV.agg [AV.sl x.1.1.length 3 (fxG x.1.1),AV.sl x.1.2.length 4 (chG x.1.2)],AV.agg [AV.sl x.2.1.length 3 (fxG x.2.1),AV.sl x.2.2.length 4 (chG x.2.2)]]∧x.1.1.length<1099511627776∧x.1.2.length<1099511627776) fun n_1=>.all (fun(x:Bool)=>(bif bif bif decide ((0:Int)=0) then decide ((0:Int)=0) else false then n else false then decide ((0:Int)=0) else false)=true→(x=true↔n_1.1=n_1.2)) fun n_2=>.ex (fun(x:Unit)=>(bif bif bif bif bif bif decide ((0:Int)=0) then decide ((0:Int)=0) else false then n else false then decide ((0:Int)=0) else false then n_2 else false then decide ((0:Int)=0) else false then decide ((0:Int)=0) else false)=true→eqL [] []∧True) fun n_3=>.all (fun(x:Unit)=>(bif bif bif bif bif bif decide ((0:Int)=0) then decide ((0:Int)=0) else false then n else false then decide ((0:Int)=0) else false then n_2 else false then decide ((0:Int)=0) else false then decide ((0:Int)=0) else false)=true→True) fun n_4=>.ex (fun(x:List UInt8)=>(bif bif bif bif bif bif decide ((0:Int)=0) then decide ((0:Int)=0) else false then n else false then decide ((0:Int)=0) else false then n_2 else false then decide ((0:Int)=0) else false then decide ((0:Int)=0) else false)=true→eqL [AV.str #[(51:UInt8),(47:UInt8),(50:UInt8)].toList] [AV.str x]∧True) fun n_5=>.all (fun(x:Unit)=>(bif bif bif bif bif bif decide ((0:Int)=0) then decide ((0:Int)=0) else false then n else false then decide ((0:Int)=0) else false then n_2 else false then decide ((0:Int)=0) else false then decide ((0:Int)=0) else false)=true→True) fun n_6=>.ex (fun(x:Int×Ex×Ex)=>(bif bif bif bif bif bif decide ((0:Int)=0) then decide ((0:Int)=0) else false then n else false then decide ((0:Int)=0) else false then n_2 else false then decide ((0:Int)=0) else false then decide ((0:Int)=0) else false)=true→eqL [AV.int .u8 4,AV.agg [AV.int .u8 3,AV.str [],AV.str [(65:UInt8),(67:UInt8),(77:UInt8),(69:UInt8)],AV.int .i64 0,AV.nils],AV.agg [AV.int .u8 1,AV.str n_5,AV.str [],AV.int .i64 0,AV.nils]] [AV.int .u8 x.1,AV.agg [AV.int .u8 x.2.1.kind,AV.str x.2.1.rat,AV.str x.2.1.name,AV.int .i64 x.2.1.date,AV.sl x.2.1.sub.length 5 (Ex.exG x.2.1.sub)],AV.agg [AV.int .u8 x.2.2.kind,AV.str x.2.2.rat,AV.str x.2.2.name,AV.int .i64 x.2.2.date,AV.sl x.2.2.sub.length 5 (Ex.exG x.2.2.sub)]]∧True) fun n_7=>.all (fun(x:Unit)=>(bif bif bif bif bif bif decide ((0:Int)=0) then decide ((0:Int)=0) else false then n else false then decide ((0:Int)=0) else false then n_2 else false then decide ((0:Int)=0) else false then decide ((0:Int)=0) else false)=true→True) fun n_8=>.ex (fun(x:Ex×Ex)=>(bif bif bif bif bif bif decide ((0:Int)=0) then decide ((0:Int)=0) else false then n else false then decide ((0:Int)=0) else false then n_2 else false then decide ((0:Int)=0) else false then decide ((0:Int)=0) else false)=true→eqL [AV.agg [AV.int .u8 4,AV.str w2.rat,AV.str w2.name,AV.int .i64 0,AV.sl 2 5 w2.deep],AV.agg [AV.int .u8 (Ex.kind (Ex.mk n_7.1 [] [] (0:Int) [n_7.2.1,n_7.2.2])),AV.str (Ex.rat (Ex.mk n_7.1 [] [] (0:Int) [n_7.2.1,n_7.2.2])),AV.str (Ex.name (Ex.mk n_7.1 [] [] (0:Int) [n_7.2.1,n_7.2.2])),AV.int .i64 (Ex.date (Ex.mk n_7.1 [] [] (0:Int) [n_7.2.1,n_7.2.2])),AV.sl (List.length (Ex.sub (Ex.mk n_7.1 [] [] (0:Int) [n_7.2.1,n_7.2.2]))) 5 (Ex.deep (Ex.mk n_7.1 [] [] (0:Int) [n_7.2.1,n_7.2.2]))]] [AV.agg [AV.int .u8 x.1.kind,AV.str x.1.rat,AV.str x.1.name,AV.int .i64 x.1.date,AV.sl x.1.sub.length 5 (Ex.exG x.1.sub)],AV.agg [AV.int .u8 x.2.kind,AV.str x.2.rat,AV.str x.2.name,AV.int .i64 x.2.date,AV.sl x.2.sub.length 5 (Ex.exG x.2.sub)]]∧Ex.size x.1<1152921504606846976) fun n_9=>.all (fun(x:Bool)=>(bif bif bif bif bif bif decide ((0:Int)=0) then decide ((0:Int)=0) else false then n else false then decide ((0:Int)=0) else false then n_2 else false then decide ((0:Int)=0) else false then decide ((0:Int)=0) else false)=true→(x=true↔n_9.1=n_9.2)) fun n_10=>.leaf (.ret [.bool (bif bif bif bif bif bif bif decide ((0:Int)=0) then decide ((0:Int)=0) else false then n else false then decide ((0:Int)=0) else false then n_2 else false then decide ((0:Int)=0) else false then decide ((0:Int)=0) else false then n_10 else false)] [.box [.str [(65:UInt8),(67:UInt8),(77:UInt8),(69:UInt8)],.str [(65:UInt8),(67:UInt8),(77:UInt8),(69:UInt8)],.int .i64 10,.str [(50:UInt8)],.str [(48:UInt8)]],.box [.int .u8 5,.str w1.rat,.str w1.name,.int .i64 0,.sl 2 5 w1.deep],.dead,.box [.sl 1 3 (fxG [{ name:=acme,date:=(12:Int),value:=[(51:UInt8),(54:UInt8)] }]),.sl 0 4 (chG [])],.box [.str [(65:UInt8),(67:UInt8),(77:UInt8),(69:UInt8)],.str [(65:UInt8),(67:UInt8),(77:UInt8),(69:UInt8)],.int .i64 10,.str [(49:UInt8)],.str [(51:UInt8),(47:UInt8),(50:UInt8)]],.box [.int .u8 4,.str w2.rat,.str w2.name,.int .i64 0,.sl 2 5 w2.deep],.box [.int .u8 5,.str w1.rat,.str w1.name,.int .i64 0,.sl 2 5 w1.deep],.arr 1 3 (zg 3 [.str #[(65:UInt8),(67:UInt8),(77:UInt8),(69:UInt8)].toList,.int .i64 12,.str #[(51:UInt8),(54:UInt8)].toList])])) (.ex (fun(x:(List Fx×List Ch)×List Fx×List Ch)=>(bif bif bif decide ((0:Int)=0) then decide ((0:Int)=0) else false then n else false then decide ((0:Int)=0) else false)=true→eqL [AV.agg [AV.sl 1 3 (fxG [{ name:=acme,date:=(12:Int),value:=[(51:UInt8),(54:UInt8)] }]),AV.sl 0 4 (chG [])],AV.agg [AV.nils,AV.nils]] [AV.agg [AV.sl x.1.1.length 3 (fxG x.1.1),AV.sl x.1.2.length 4 (chG x.1.2)],AV.agg [AV.sl x.2.1.length 3 (fxG x.2.1),AV.sl x.2.2.length 4 (chG x.2.2)]]∧x.1.1.length<1099511627776∧x.1.2.length<1099511627776) fun n_1=>.all (fun(x:Bool)=>(bif bif bif decide ((0:Int)=0) then decide ((0:Int)=0) else false then n else false then decide ((0:Int)=0) else false)=true→(x=true↔n_1.1=n_1.2)) fun n_2=>.ex (fun(x:Unit)=>(bif bif bif bif bif bif decide ((0:Int)=0) then decide ((0:Int)=0) else false then n else false then decide ((0:Int)=0) else false then n_2 else false then decide ((0:Int)=0) else false then decide ((0:Int)=0) else false)=true→eqL [] []∧True) fun n_3=>.all (fun(x:Unit)=>(bif bif bif bif bif bif decide ((0:Int)=0) then decide ((0:Int)=0) else false then n else false then decide ((0:Int)=0) else false then n_2 else false then decide ((0:Int)=0) else false then decide ((0:Int)=0) else false)=true→True) fun n_4=>.ex (fun(x:List UInt8)=>(bif bif bif bif bif bif decide ((0:Int)=0) then decide ((0:Int)=0) else false then n else false then decide ((0:Int)=0) else false then n_2 else false then decide ((0:Int)=0) else false then decide ((0:Int)=0) else false)=true→eqL [AV.str #[(51:UInt8),(47:UInt8),(50:UInt8)].toList] [AV.str x]∧True) fun n_5=>.all (fun(x:Unit)=>(bif bif bif bif bif bif decide ((0:Int)=0) then decide ((0:Int)=0) else false then n else false then decide ((0:Int)=0) else false then n_2 else false then decide ((0:Int)=0) else false then decide ((0:Int)=0) else false)=true→True) fun n_6=>.ex (fun(x:Int×Ex×Ex)=>(bif bif bif bif bif bif decide ((0:Int)=0) then decide ((0:Int)=0) else false then n else false then decide ((0:Int)=0) else false then n_2 else false then decide ((0:Int)=0) else false then decide ((0:Int)=0) else false)=true→eqL [AV.int .u8 4,AV.agg [AV.int .u8 3,AV.str [],AV.str [(65:UInt8),(67:UInt8),(77:UInt8),(69:UInt8)],AV.int .i64 0,AV.nils],AV.agg [AV.int .u8 1,AV.str n_5,AV.str [],AV.int .i64 0,AV.nils]] [AV.int .u8 x.1,AV.agg [AV.int .u8 x.2.1.kind,AV.str x.2.1.rat,AV.str x.2.1.name,AV.int .i64 x.2.1.date,AV.sl x.2.1.sub.length 5 (Ex.exG x.2.1.sub)],AV.agg [AV.int .u8 x.2.2.kind,AV.str x.2.2.rat,AV.str x.2.2.name,AV.int .i64 x.2.2.date,AV.sl x.2.2.sub.length 5 (Ex.exG x.2.2.sub)]]∧True) fun n_7=>.all (fun(x:Unit)=>(bif bif bif bif bif bif decide ((0:Int)=0) then decide ((0:Int)=0) else false then n else false then decide ((0:Int)=0) else false then n_2 else false then decide ((0:Int)=0) else false then decide ((0:Int)=0) else false)=true→True) fun n_8=>.ex (fun(x:Ex×Ex)=>(bif bif bif bif bif bif decide ((0:Int)=0) then decide ((0:Int)=0) else false then n else false then decide ((0:Int)=0) else false then n_2 else false then decide ((0:Int)=0) else false then decide ((0:Int)=0) else false)=true→eqL [AV.agg [AV.int .u8 4,AV.str w2.rat,AV.str w2.name,AV.int .i64 0,AV.sl 2 5 w2.deep],AV.agg [AV.int .u8 (Ex.kind (Ex.mk n_7.1 [] [] (0:Int) [n_7.2.1,n_7.2.2])),AV.str (Ex.rat (Ex.mk n_7.1 [] [] (0:Int) [n_7.2.1,n_7.2.2])),AV.str (Ex.name (Ex.mk n_7.1 [] [] (0:Int) [n_7.2.1,n_7.2.2])),AV.int .i64 (Ex.date (Ex.mk n_7.1 [] [] (0:Int) [n_7.2.1,n_7.2.2])),AV.sl (List.length (Ex.sub (Ex.mk n_7.1 [] [] (0:Int) [n_7.2.1,n_7.2.2]))) 5 (Ex.deep (Ex.mk n_7.1 [] [] (0:Int) [n_7.2.1,n_7.2.2]))]] [AV.agg [AV.int .u8 x.1.kind,AV.str x.1.rat,AV.str x.1.name,AV.int .i64 x.1.date,AV.sl x.1.sub.length 5 (Ex.exG x.1.sub)],AV.agg [AV.int .u8 x.2.kind,AV.str x.2.rat,AV.str x.2.name,AV.int .i64 x.2.date,AV.sl x.2.sub.length 5 (Ex.exG x.2.sub)]]∧Ex.size x.1<1152921504606846976) fun n_9=>.all (fun(x:Bool)=>(bif bif bif bif bif bif decide ((0:Int)=0) then decide ((0:Int)=0) else false then n else false then decide ((0:Int)=0) else false then n_2 else false then decide ((0:Int)=0) else false then decide ((0:Int)=0) else false)=true→(x=true↔n_9.1=n_9.2)) fun n_10=>.leaf (.ret [.bool (bif bif bif bif bif bif bif decide ((0:Int)=0) then decide ((0:Int)=0) else false then n else false then decide ((0:Int)=0) else false then n_2 else false then decide ((0:Int)=0) else false then decide ((0:Int)=0) else false then n_10 else false)] [.box [.str [(65:UInt8),(67:UInt8),(77:UInt8),(69:UInt8)],.str [(65:UInt8),(67:UInt8),(77:UInt8),(69:UInt8)],.int .i64 10,.str [(50:UInt8)],.str [(48:UInt8)]],.box [.int .u8 5,.str w1.rat,.str w1.name,.int .i64 0,.sl 2 5 w1.deep],.dead,.box [.sl 1 3 (fxG [{ name:=acme,date:=(12:Int),value:=[(51:UInt8),(54:UInt8)] }]),.sl 0 4 (chG [])],.box [.str [(65:UInt8),(67:UInt8),(77:UInt8),(69:UInt8)],.str [(65:UInt8),(67:UInt8),(77:UInt8),(69:UInt8)],.int .i64 10,.str [(49:UInt8)],.str [(51:UInt8),(47:UInt8),(50:UInt8)]],.box [.int .u8 4,.str w2.rat,.str w2.name,.int .i64 0,.sl 2 5 w2.deep],.box [.int .u8 5,.str w1.rat,.str w1.name,.int .i64 0,.sl 2 5 w1.deep]]))) (by kernel_rfl) ?_
 simp only [Tree.holds,zc]
 refine⟨(w1,w1),fun _=>⟨⟨vB w1,vB w1,trivial⟩,by decide⟩,⟨true,fun _=>by simp⟩,fun r1 h1=> ?_⟩
 obtain rfl:r1=true:=(h1 rfl).2 rfl
 refine⟨fun _=> ?_,fun h=>absurd h (by decide)⟩
 refine⟨(([⟨acme,12,[51,54]⟩],[]),([⟨acme,12,[51,54]⟩],[])),fun _=>⟨⟨⟨⟨rfl,rfl,za _ _ _⟩,⟨rfl,rfl,za _ _ _⟩,trivial⟩,⟨⟨rfl,rfl,zd9 (x:=⟨acme,12,[51,54]⟩)⟩,by simp,trivial⟩,trivial⟩,by decide,by decide⟩,⟨true,fun _=>by simp⟩,fun r2 h2=> ?_⟩
 obtain rfl:r2=true:=(h2 rfl).2 rfl
 refine⟨(),fun _=>⟨trivial,trivial⟩,⟨(),fun _=>trivial⟩,fun _ _=> ?_⟩
 refine⟨[51,47,50],fun _=>⟨⟨rfl,trivial⟩,trivial⟩,⟨(),fun _=>trivial⟩,fun _ _=> ?_⟩
 refine⟨(4,xJ,yf [51,47,50]),fun _=>⟨⟨⟨rfl,rfl⟩,ur,ur,trivial⟩,trivial⟩,⟨(),fun _=>trivial⟩,fun _ _=> ?_⟩
 refine⟨(w2,w2),fun _=>⟨⟨vB w2,vB w2,trivial⟩,by decide⟩,⟨true,fun _=>by simp⟩,fun r3 h3=> ?_⟩
 obtain rfl:r3=true:=(h3 rfl).2 rfl
 exact RetR.scal hq rfl (by simp [resV])
theorem Uh{x:Fx}(h:okF x=true):ka x:=by
 unfold okF zS at h
 simp only [Bool.and_eq_true,decide_eq_true_eq] at h
 have h2:=Vi h.2
 exact⟨by omega,by omega⟩
theorem YA{x:Ch}(h:okC x=true):kJ x:=by
 unfold okC zS at h
 simp only [Bool.and_eq_true,decide_eq_true_eq] at h
 exact⟨by omega,by omega⟩
theorem YY{f:List Fx}{c:List Ch}(h:errE f c=0):envP (f,c):=by
 obtain⟨h1,h2,h3,_⟩:=vH.1 h
 rw [List.all_eq_true] at h2 h3
 refine⟨by show f.length<_; omega,by show c.length<_; omega,fun j hj=>Uh (h2 _ ?_),fun j hj=>YA (h3 _ ?_)⟩
 ·simp only at hj ⊢; simp [List.getD,hj]
 ·simp only at hj ⊢; simp [List.getD,hj]
end Go.Proofs.Tryz
end
section
open Go Go.Sx Go.Proofs Go.Nov
namespace Go.Proofs.Tryz
def zbr(p:List Fx×List Ch):Prop:=p.1.length<2^60∧p.2.length<2^60∧(∀ j,j<p.1.length→zba (p.1.getD j Fx.nil))∧∀ j,j<p.2.length→XJ (p.2.getD j Ch.nil)
theorem za8{p:List Fx×List Ch}(h:fitP p):envP p:=by
 obtain⟨h1,h2,h3,h4⟩:=h
 refine⟨by omega,by omega,fun j hj=> ?_,fun j hj=> ?_⟩
 ·obtain⟨a,b⟩:=h3 j hj; exact⟨by omega,by omega⟩
 ·obtain⟨a,b⟩:=h4 j hj; exact⟨by omega,by omega⟩
end Go.Proofs.Tryz
end
section
set_option maxRecDepth 100000
open Go Go.Sx Go.Proofs Go.Nov
namespace Go.Proofs.Tryz
attribute [local simp] eqKV eqA eqA0 eqH eqB eqL eqL0
end Go.Proofs.Tryz
end
section
namespace Go.Nov
open Go.Sx
theorem xi{f:List Fx}(hp:f.Pairwise fun x y=>cmpF x y<0){n v:List UInt8}{d:Int} : zF f n d=(v,true)↔∃ x∈f,x.name=n∧x.date=d∧x.value=v:=by
 unfold zF
 cases e:f.find? (fun x=>decide (x.name=n)&&decide (x.date=d)) with
 | none=>
  simp only [Prod.mk.injEq,Bool.false_eq_true,and_false,false_iff]
  rintro⟨x,hx,h1,h2,_⟩
  rw [List.find?_eq_none] at e
  exact e x hx (by simp [h1,h2])
 | some y=>
  have hy:=List.find?_some e
  have hm:=List.mem_of_find?_eq_some e
  simp only [Bool.and_eq_true,decide_eq_true_eq] at hy
  simp only [Prod.mk.injEq,and_true]
  constructor
  ·intro h; exact⟨y,hm,hy.1,hy.2,h⟩
  ·rintro⟨x,hx,h1,h2,rfl⟩
   have:x=y:=by
    obtain⟨i,hi,rfl⟩:=List.getElem_of_mem hx
    obtain⟨j,hj,rfl⟩:=List.getElem_of_mem hm
    have hz:cmpF f[i] f[j]=0:=w8.2 ⟨h1.trans hy.1.symm,h2.trans hy.2.symm⟩
    have hz':cmpF f[j] f[i]=0:=w8.2 ⟨(h1.trans hy.1.symm).symm,(h2.trans hy.2.symm).symm⟩
    rcases Nat.lt_trichotomy i j with g | g | g
    ·have:=List.pairwise_iff_getElem.1 hp i j hi hj g; omega
    ·subst g; rfl
    ·have:=List.pairwise_iff_getElem.1 hp j i hj hi g; omega
   rw [this]
theorem QH{f:List Fx}{n:List UInt8}{d:Int} : (zF f n d).2=false↔∀ x∈f,¬ (x.name=n∧x.date=d):=by
 unfold zF
 cases e:f.find? (fun x=>decide (x.name=n)&&decide (x.date=d)) with
 | none=>
  rw [List.find?_eq_none] at e
  simp only [true_iff]
  intro x hx h
  exact e x hx (by simp [h.1,h.2])
 | some y=>
  have hy:=List.find?_some e
  have hm:=List.mem_of_find?_eq_some e
  simp only [Bool.and_eq_true,decide_eq_true_eq] at hy
  simp only [Bool.true_eq_false,false_iff]
  intro h
  exact h y hm hy
theorem ZI{f:List Fx}{n:List UInt8}{d:Int}(h:(zF f n d).2=false):(zF f n d).1=[]:=by
 unfold zF at h ⊢
 split
 ·rename_i e; rw [e] at h; cases h
 ·rfl
theorem YJ{f g:List Fx}{n:List UInt8}{d:Int}(hf:f.Pairwise fun x y=>cmpF x y<0)(hg:g.Pairwise fun x y=>cmpF x y<0)(h:∀ v:List UInt8,(⟨n,d,v⟩:Fx)∈f↔(⟨n,d,v⟩:Fx)∈g):zF f n d=zF g n d:=by
 have key:∀ {l:List Fx} {v:List UInt8},(∃ x∈l,x.name=n∧x.date=d∧x.value=v)↔(⟨n,d,v⟩:Fx)∈l:=by
  intro l v
  constructor
  ·rintro⟨⟨a,b,c⟩,hx,rfl,rfl,rfl⟩; exact hx
  ·intro hx; exact⟨_,hx,rfl,rfl,rfl⟩
 cases e:(zF f n d).2 with
 | true=>
  have e1:zF f n d=((zF f n d).1,true):=by rw [← e]
  have:=(xi hf).1 e1
  rw [key,h,← key] at this
  rw [e1,(xi hg).2 this]
 | false=>
  have e2:(zF g n d).2=false:=by
   rw [QH] at e ⊢
   rintro⟨a,b,c⟩ hx ⟨rfl,rfl⟩
   exact e _ ((h c).2 hx) ⟨rfl,rfl⟩
  rw [Prod.ext_iff]
  exact⟨by rw [ZI e,ZI e2],by rw [e,e2]⟩
namespace Ca
def more(a:Ca):Nat:=(if a.ratio=[49] then 0 else 2)+(if a.extra=[48] then 0 else 2)
mutual
def grow(a:Ca):Ex→Nat
 | .mk k r n d s=>if a.onX k n d=true then a.more else Vq a s
def Vq(a:Ca):List Ex→Nat
 | []=>0
 | x::l=>grow a x+Vq a l
end
theorem zc8{a:Ca}{k d:Int}{n:List UInt8}(h:a.onX k n d=true):k=3∨k=2:=by
 simp [onX] at h
 rcases h.2 with h1 | h1
 ·exact .inl h1
 ·exact .inr h1.1
mutual
theorem zb7(a:Ca):∀ x:Ex,x.qQ≠0→(chg a x).size=x.size+grow a x
 | .mk k r n d s,h=>by
  rw [Ex.qQ] at h
  rw [chg,grow]
  by_cases hh:a.onX k n d=true
  ·rw [if_pos hh,if_pos hh]
   obtain⟨_,h2⟩:=xW h (zc8 hh)
   have:s=[]:=by
    cases s with
    | nil=>rfl
    | cons x s=>rw [Ex.qR] at h2; cases h2
   subst this
   unfold rel more
   split<;>split<;>simp [Tm.opx,Tm.kon,Ex.size,Ex.zo]
  ·rw [if_neg hh,if_neg hh]
   simp only [Ex.size]
   rw [QB a s (VB h)]
   omega
theorem QB(a:Ca):∀ s:List Ex,(∀ p∈Ex.qR s,p≠0)→Ex.zo (chgs a s)=Ex.zo s+Vq a s
 | [],_=>by rw [chgs,Vq]; rfl
 | x::s,h=>by
  rw [Ex.qR] at h
  rw [chgs,Vq]
  simp only [Ex.zo]
  rw [zb7 a x (h _ (by simp)),QB a s (fun p hp=>h p (by simp [hp]))]
  omega
end
theorem zar{a:Ca}{f:List Fx}{c:List Ch}(h:a.ok=true)(he:errE f c=0)(h0:a.err f=0)(hlen:(a.kept f).length+(a.fresh f).length≤1000) :
  ∀ k,k≤(a.fresh f).length→errE (a.join (a.kept f) ((a.fresh f).take k)) c=0:=by
 obtain⟨h1,h2,h3,h4,h5⟩:=vH.1 he
 obtain⟨f1,f2⟩:=Vp h he h0
 obtain⟨k1,k2⟩:=J2 (a:=a) he
 obtain⟨g1,g2⟩:=zd7 (a:=a) k2
 have hlo:∀ w∈(a.kept f).take (a.at_ (a.kept f)),∀ x∈a.fresh f,cmpF w x<0:=by
  intro w hw x hx
  obtain⟨_,e1,e2⟩:=f1 x hx
  have hb:=g1 w hw
  rw [w9,e1]
  rcases JT w.name a.name with ht | ht | ht
  ·exact .inl ht
  ·right
   refine⟨ht,?_⟩
   rcases(k1 w (List.mem_of_mem_take hw)).2 with h6 | h6
   ·exact absurd ht h6
   ·omega
  ·rw [ht] at hb; cases hb
 have hhi:∀ w∈(a.kept f).drop (a.at_ (a.kept f)),∀ x∈a.fresh f,cmpF x w<0:=by
  intro w hw x hx
  obtain⟨_,e1,e2⟩:=f1 x hx
  rw [w9,e1]
  exact .inl (g2 w hw)
 intro k hk
 have hjl:(a.join (a.kept f) ((a.fresh f).take k)).length=(a.kept f).length+k:=by
  have:=Yb (a:=a) (l:=a.kept f)
  unfold join
  simp only [List.length_append,List.length_take,List.length_drop]
  omega
 refine vH.2 ⟨by omega,?_,h3,zbv zhc ?_,h5⟩
 ·rw [List.all_eq_true]
  intro w hw
  unfold join at hw
  simp only [List.mem_append] at hw
  rcases hw with (hw | hw) | hw
  ·exact(k1 w (List.mem_of_mem_take hw)).1
  ·exact(f1 w (List.mem_of_mem_take hw)).1
  ·exact(k1 w (List.mem_of_mem_drop hw)).1
 ·unfold join
  rw [List.pairwise_append]
  refine⟨?_,k2.sublist (List.drop_sublist _ _),?_⟩
  ·rw [List.pairwise_append]
   exact⟨k2.sublist (List.take_sublist _ _),f2.sublist (List.take_sublist _ _),fun w hw x hx=>hlo w hw x (List.mem_of_mem_take hx)⟩
  ·intro w hw x hx
   rcases List.mem_append.1 hw with hw | hw
   ·have e:a.kept f=(a.kept f).take (a.at_ (a.kept f))++(a.kept f).drop (a.at_ (a.kept f)):=(List.take_append_drop _ _).symm
    rw [e,List.pairwise_append] at k2
    exact k2.2.2 w hw x hx
   ·exact hhi x hx w (List.mem_of_mem_take hw)
theorem zcb{a:Ca}{f:List Fx}{c:List Ch}(h:(a.before f c).2=0):a.ok=true∧errE f c=0∧a.err f=0∧(a.kept f).length+(a.fresh f).length≤1000∧a.before f c=((a.join (a.kept f) (a.fresh f),c),0):=by
 unfold before at h ⊢
 by_cases h1:a.ok=false
 ·rw [if_pos h1] at h; cases h
 rw [if_neg h1] at h ⊢
 by_cases h2:errE f c≠0
 ·rw [if_pos h2] at h; exact absurd h h2
 rw [if_neg h2] at h ⊢
 by_cases h3:a.err f≠0
 ·rw [if_pos h3] at h; exact absurd h h3
 rw [if_neg h3] at h ⊢
 by_cases h4:1000<(a.kept f).length+(a.fresh f).length
 ·rw [if_pos h4] at h; cases h
 rw [if_neg h4]
 exact⟨by simpa using h1,Classical.not_not.1 h2,Classical.not_not.1 h3,by omega,rfl⟩
theorem YO{a:Ca}{f:List Fx}{c:List Ch}(h:(a.before f c).2≠0):(a.before f c).1=([],[]):=by
 unfold before at h ⊢
 split
 ·rfl
 ·split
  ·rfl
  ·split
   ·rfl
   ·split
    ·rfl
    ·rename_i h1 h2 h3 h4
     rw [if_neg h1,if_neg h2,if_neg h3,if_neg h4] at h
     exact absurd rfl h
theorem Z0{a:Ca}{l m:List Fx}{x:Fx} : x∈a.join l m↔x∈l∨x∈m:=by
 have e:l=l.take (a.at_ l)++l.drop (a.at_ l):=(List.take_append_drop _ _).symm
 have:x∈l↔x∈l.take (a.at_ l)∨x∈l.drop (a.at_ l):=by rw [← List.mem_append,List.take_append_drop]
 rw [this]
 unfold join
 simp only [List.mem_append]
 constructor
 ·rintro((h | h) | h)
  ·exact .inl (.inl h)
  ·exact .inr h
  ·exact .inl (.inr h)
 ·rintro((h | h) | h)
  ·exact .inl (.inl h)
  ·exact .inr h
  ·exact .inl (.inr h)
theorem WE{a:Ca}{f:List Fx}{c:List Ch}(h:(a.before f c).2=0)(n:List UInt8)(d:Int):errE (a.before f c).1.1 (a.before f c).1.2=0∧(a.before f c).1.2.length=c.length ∧
  (¬ (n=a.name∧a.date≤d)→zF f n d=zF (a.before f c).1.1 n d) ∧
  (n=a.name→a.date≤d→((zF f a.into d).2=false→(zF (a.before f c).1.1 n d).2=false) ∧
   ((zF f a.into d).2=true→(mulR a.ratio (zF f a.into d).1).2=0∧(addR (mulR a.ratio (zF f a.into d).1).1 a.extra).2=0∧zF (a.before f c).1.1 n d=((addR (mulR a.ratio (zF f a.into d).1).1 a.extra).1,true))):=by
 obtain⟨h1,h2,h3,h4,h5⟩:=zcb h
 rw [h5]
 have hj:=zar h1 h2 h3 h4 _ (Nat.le_refl _)
 rw [List.take_length] at hj
 have pj:=yk Zp (vH.1 hj).2.2.2.1
 have pf:=yk Zp (vH.1 h2).2.2.2.1
 refine⟨hj,rfl,fun hn=>YJ pf pj fun v=> ?_,fun hn hd=> ?_⟩
 ·rw [Z0]
  constructor
  ·intro hx
   refine .inl (List.mem_filter.2 ⟨hx,?_⟩)
   unfold keep
   simp only [Bool.or_eq_true,Bool.not_eq_true',decide_eq_false_iff_not,decide_eq_true_eq]
   by_cases g:n=a.name
   ·right; have:¬ a.date≤d:=fun g2=>hn ⟨g,g2⟩; omega
   ·exact .inl g
  ·rintro(hx | hx)
   ·exact(List.mem_filter.1 hx).1
   ·obtain⟨_,e1,e2⟩:=(Vp h1 h2 h3).1 _ hx
    exact absurd ⟨e1,e2⟩ hn
 ·subst hn
  have off:∀ x∈a.kept f,¬ (x.name=a.name∧x.date=d):=by
   rintro x hx ⟨g1,g2⟩
   rcases((J2 (a:=a) h2).1 x hx).2 with g | g
   ·exact g g1
   ·omega
  constructor
  ·intro h0
   rw [QH] at h0 ⊢
   intro x hx g
   rcases Z0.1 hx with hx | hx
   ·exact off x hx g
   ·unfold fresh at hx
    obtain⟨y,hy,rfl⟩:=List.mem_map.1 hx
    obtain⟨hy1,hy2⟩:=List.mem_filter.1 hy
    unfold hit at hy2
    simp only [Bool.and_eq_true,decide_eq_true_eq] at hy2
    exact h0 y hy1 ⟨hy2.1,g.2⟩
  ·intro h0
   have e0:zF f a.into d=((zF f a.into d).1,true):=by rw [← h0]
   obtain⟨x,hx,g1,g2,g3⟩:=(xi pf).1 e0
   have hh:a.hit x=true:=by unfold hit; simp [g1,g2,hd]
   have h6:=W9 h3 x hx hh
   have h7:(a.mk' x)∈a.fresh f:=List.mem_map.2 ⟨x,List.mem_filter.2 ⟨hx,hh⟩,rfl⟩
   rw [g3] at h6
   have hm:(mulR a.ratio (zF f a.into d).1).2=0:=by
    refine Classical.byContradiction fun g=> ?_
    unfold old at h6
    rw [if_pos g] at h6
    exact g h6
   have ho:a.old (zF f a.into d).1=addR (mulR a.ratio (zF f a.into d).1).1 a.extra:=by
    unfold old; rw [if_neg (Classical.not_not.2 hm)]
   rw [ho] at h6
   refine⟨hm,h6,(xi pj).2 ⟨a.mk' x,Z0.2 (.inr h7),rfl,g2,?_⟩⟩
   show(a.old x.value).1=_
   rw [g3,ho]
end Ca
end Go.Nov
end
section
set_option maxRecDepth 100000
open Go Go.Sx Go.Proofs Go.Nov
namespace Go.Proofs.Tryz
attribute [local simp] eqKV eqA eqA0 eqH eqB eqL eqL0
theorem YH{f:List Fx}(h:∀ j,j<f.length→ka (f.getD j Fx.nil))(n:List UInt8)(d:Int):(zF f n d).1.length<2^40:=by
 unfold zF
 cases e:f.find? (fun x=>decide (x.name=n)&&decide (x.date=d)) with
 | none=>show 0<2^40; decide
 | some y=>
  obtain⟨i,hi,rfl⟩:=List.getElem_of_mem (List.mem_of_find?_eq_some e)
  have:=(h i hi).2
  simpa [List.getD,hi] using this
structure VaA where
 a:Ca
 v:List Fx×List Ch
 name:List UInt8
 day:Int
noncomputable def GVa:Nat→Option Ctr:=fun f=>if f=5 then some (Ve) else if f=6 then some (zft) else if f=7 then some (Xt) else if f=8 then some (Zr) else if f=9 then some (JN) else if f=10 then some (zfw) else if f=11 then some (zag) else if f=12 then some (zci) else none
theorem zhb:∀ g c,GVa g=some c→zd Tryz.prog g c:=okIf Kq (okIf zf6 (okIf UO (okIf Zc (okIf QO (okIf zf1 (okIf XF (okIf Yt (zq))))))))
def zh6:Ctr:=ctrP true (fun p:VaA=>[p.a.av,envA p.v.1 p.v.2,.str p.name,.int .i64 p.day]) (fun p=>zbr p.v) (fun _ r=>r=true) (fun _ (r:Bool)=>(.bool r,[]))
theorem zda:zd Tryz.prog 3 zh6:=by
 refine ze (fn:=Tryz.f3) (c:=Tryz.f3.body.getD .skip) rfl rfl rfl fun p hp O w0 Q hq=> ?_
 obtain⟨a,⟨f,c⟩,name,day⟩:=p
 replace hp:zbr (f,c):=hp
 replace hq:=hq _ rfl
 refine zb.run hmix zhb [] 400 (T:=.ex (fun(x:Unit)=>eqL [] []∧True) fun n=>.all (fun(r:Bool)=>r=true) fun n=>.ex (fun(x:Ca)=>eqL [AV.agg [AV.str (Ca.name a),AV.str (Ca.into a),AV.int .i64 (Ca.date a),AV.str (Ca.ratio a),AV.str (Ca.extra a)]] [AV.agg [AV.str (Ca.name x),AV.str (Ca.into x),AV.int .i64 (Ca.date x),AV.str (Ca.ratio x),AV.str (Ca.extra x)]]∧True) fun n_1=>.all (fun(r:Bool)=>r=false→List.length (Ca.name n_1)≤1000∧List.length (Ca.into n_1)≤1000∧List.length (Ca.ratio n_1)≤1000∧List.length (Ca.extra n_1)≤1000) fun n_2=>.ex (fun(x:List Fx×List Ch)=>n_2=false→eqL [AV.agg [AV.sl f.length 3 (fxG f),AV.sl c.length 4 (chG c)]] [AV.agg [AV.sl x.1.length 3 (fxG x.1),AV.sl x.2.length 4 (chG x.2)]]∧x.1.length<1152921504606846976∧x.2.length<1152921504606846976∧(∀ (j:Nat),j<x.1.length→zba (List.getD x.1 j Fx.nil))∧∀ (j:Nat),j<x.2.length→XJ (List.getD x.2 j Ch.nil)) fun n_3=>.all (fun(x:Bool)=>n_2=false→x=false→fitP n_3) fun n_4=>.ite (bif bif bif n_2 then true else n_4 then true else decide ((1000:Int)<name.length) then true else !n) (.leaf (.ret [.bool n] [.box [.str (Ca.name a),.str (Ca.into a),.int .i64 (Ca.date a),.str (Ca.ratio a),.str (Ca.extra a)],.box [.sl f.length 3 (fxG f),.sl c.length 4 (chG c)]])) (.ex (fun(x:Ca×List Fx×List Ch)=>eqL [AV.agg [AV.str (Ca.name a),AV.str (Ca.into a),AV.int .i64 (Ca.date a),AV.str (Ca.ratio a),AV.str (Ca.extra a)],AV.agg [AV.sl f.length 3 (fxG f),AV.sl c.length 4 (chG c)]] [AV.agg [AV.str (Ca.name x.1),AV.str (Ca.into x.1),AV.int .i64 (Ca.date x.1),AV.str (Ca.ratio x.1),AV.str (Ca.extra x.1)],AV.agg [AV.sl x.2.1.length 3 (fxG x.2.1),AV.sl x.2.2.length 4 (chG x.2.2)]]∧js x.1∧envP x.2∧x.2.1.length≤1000000) fun n_5=>.all (fun(r:(List Fx×List Ch)×Int)=>r=Ca.before n_5.1 n_5.2.1 n_5.2.2) fun n_6=>.ite (!decide (n_6.2=0)) (.leaf (.ret [.bool (bif bif n then decide ((↑n_6.1.1.length:Int)=0) else false then decide ((↑n_6.1.2.length:Int)=0) else false)] [.box [.str (Ca.name a),.str (Ca.into a),.int .i64 (Ca.date a),.str (Ca.ratio a),.str (Ca.extra a)],.box [.sl f.length 3 (fxG f),.sl c.length 4 (chG c)],.box [.sl n_6.1.1.length 3 (fxG n_6.1.1),.sl n_6.1.2.length 4 (chG n_6.1.2)]])) (.ex (fun(x:List Fx×List Ch)=>eqL [AV.agg [AV.sl n_6.1.1.length 3 (fxG n_6.1.1),AV.sl n_6.1.2.length 4 (chG n_6.1.2)]] [AV.agg [AV.sl x.1.length 3 (fxG x.1),AV.sl x.2.length 4 (chG x.2)]]∧envP x) fun n_7=>.all (fun(r:Int)=>r=errE n_7.1 n_7.2) fun n_8=>.ite (bif !decide (n_8=0) then true else !decide ((↑n_6.1.2.length:Int)=c.length)) (.leaf (.ret [.bool false] [.box [.str (Ca.name a),.str (Ca.into a),.int .i64 (Ca.date a),.str (Ca.ratio a),.str (Ca.extra a)],.box [.sl f.length 3 (fxG f),.sl c.length 4 (chG c)],.box [.sl n_6.1.1.length 3 (fxG n_6.1.1),.sl n_6.1.2.length 4 (chG n_6.1.2)]])) (.ex (fun(x:(List Fx×List Ch)×List UInt8×Int)=>eqL [AV.agg [AV.sl f.length 3 (fxG f),AV.sl c.length 4 (chG c)],AV.str name,AV.int .i64 day] [AV.agg [AV.sl x.1.1.length 3 (fxG x.1.1),AV.sl x.1.2.length 4 (chG x.1.2)],AV.str x.2.1,AV.int .i64 x.2.2]∧x.1.1.length<1099511627776) fun n_9=>.all (fun(r:List UInt8×Bool)=>r=zF n_9.1.1 n_9.2.1 n_9.2.2) fun n_10=>.ex (fun(x:(List Fx×List Ch)×List UInt8×Int)=>eqL [AV.agg [AV.sl n_6.1.1.length 3 (fxG n_6.1.1),AV.sl n_6.1.2.length 4 (chG n_6.1.2)],AV.str name,AV.int .i64 day] [AV.agg [AV.sl x.1.1.length 3 (fxG x.1.1),AV.sl x.1.2.length 4 (chG x.1.2)],AV.str x.2.1,AV.int .i64 x.2.2]∧x.1.1.length<1099511627776) fun n_11=>.all (fun(r:List UInt8×Bool)=>r=zF n_11.1.1 n_11.2.1 n_11.2.2) fun n_12=>.ite (bif !decide (name=Ca.name a) then true else decide (day<Ca.date a)) (.leaf (.ret [.bool (bif bif n then decide (n_10.1=n_12.1) else false then n_10.2 == n_12.2 else false)] [.box [.str (Ca.name a),.str (Ca.into a),.int .i64 (Ca.date a),.str (Ca.ratio a),.str (Ca.extra a)],.box [.sl f.length 3 (fxG f),.sl c.length 4 (chG c)],.box [.sl n_6.1.1.length 3 (fxG n_6.1.1),.sl n_6.1.2.length 4 (chG n_6.1.2)]])) (.ex (fun(x:(List Fx×List Ch)×List UInt8×Int)=>eqL [AV.agg [AV.sl f.length 3 (fxG f),AV.sl c.length 4 (chG c)],AV.str (Ca.into a),AV.int .i64 day] [AV.agg [AV.sl x.1.1.length 3 (fxG x.1.1),AV.sl x.1.2.length 4 (chG x.1.2)],AV.str x.2.1,AV.int .i64 x.2.2]∧x.1.1.length<1099511627776) fun n_13=>.all (fun(r:List UInt8×Bool)=>r=zF n_13.1.1 n_13.2.1 n_13.2.2) fun n_14=>.ite (!Prod.snd n_14) (.leaf (.ret [.bool (bif n then !Prod.snd n_12 else false)] [.box [.str (Ca.name a),.str (Ca.into a),.int .i64 (Ca.date a),.str (Ca.ratio a),.str (Ca.extra a)],.box [.sl f.length 3 (fxG f),.sl c.length 4 (chG c)],.box [.sl n_6.1.1.length 3 (fxG n_6.1.1),.sl n_6.1.2.length 4 (chG n_6.1.2)]])) (.ex (fun(x:List UInt8×List UInt8)=>eqL [AV.str (Ca.ratio a),AV.str n_14.1] [AV.str x.1,AV.str x.2]∧x.1.length<2305843009213693952∧x.2.length<2305843009213693952) fun n_15=>.all (fun(r:List UInt8×Int)=>r=mulR n_15.1 n_15.2) fun n_16=>.ex (fun(x:List UInt8×List UInt8)=>eqL [AV.str n_16.1,AV.str (Ca.extra a)] [AV.str x.1,AV.str x.2]∧x.1.length<2305843009213693952∧x.2.length<2305843009213693952) fun n_17=>.all (fun(r:List UInt8×Int)=>r=addR n_17.1 n_17.2) fun n_18=>.leaf (.ret [.bool (bif bif bif bif n then decide (n_16.2=0) else false then decide (n_18.2=0) else false then n_12.2 else false then decide (n_12.1=n_18.1) else false)] [.box [.str (Ca.name a),.str (Ca.into a),.int .i64 (Ca.date a),.str (Ca.ratio a),.str (Ca.extra a)],.box [.sl f.length 3 (fxG f),.sl c.length 4 (chG c)],.box [.sl n_6.1.1.length 3 (fxG n_6.1.1),.sl n_6.1.2.length 4 (chG n_6.1.2)]]))))))) (by kernel_rfl) ?_
 simp only [Tree.holds,zc,inR,lo,hi,Int.toNat_natCast]
 refine⟨(),⟨trivial,trivial⟩,⟨true,rfl⟩,?_⟩
 rintro _ rfl
 have ha:eqA (.agg [.str a.name,.str a.into,.int .i64 a.date,.str a.ratio,.str a.extra]) a.av:=⟨rfl,rfl,⟨rfl,rfl⟩,rfl,rfl,trivial⟩
 have he:∀ (f:List Fx) (c:List Ch),eqA (.agg [.sl f.length 3 (fxG f),.sl c.length 4 (chG c)]) (envA f c):=fun f c=>⟨⟨rfl,rfl,za _ _ _⟩,⟨rfl,rfl,za _ _ _⟩,trivial⟩
 refine⟨a,⟨⟨ha,trivial⟩,trivial⟩,⟨true,fun h=>by cases h⟩,fun b1 g1=> ?_⟩
 refine⟨(f,c),fun _=>⟨⟨he f c,trivial⟩,hp⟩,⟨true,fun _ h=>by cases h⟩,fun b2 g2=>⟨fun _=>RetR.scal hq rfl (by simp [resV]),fun h=> ?_⟩⟩
 obtain⟨rfl,rfl,hnm⟩:b1=false∧b2=false∧name.length≤1000:=by
  cases b1<;>cases b2<;>simp at h ⊢
  omega
 obtain⟨s1,s2,s3,s4⟩:=g1 rfl
 have hfit:=g2 rfl rfl
 clear g1 g2 h
 have hE:envP (f,c):=za8 hfit
 have hfl:f.length≤1000000:=by obtain⟨q1,_⟩:=hfit; simp only at q1; omega
 have hcl:c.length<2^40:=hE.2.1
 have hsm:js a:=⟨by omega,by omega,by omega,by omega⟩
 refine⟨(a,f,c),⟨⟨ha,he f c,trivial⟩,hsm,hE,hfl⟩,⟨_,rfl⟩,?_⟩
 rintro _ rfl
 refine⟨fun h=> ?_,fun h=> ?_⟩<;>simp at h
 ·have e:=Ca.YO h
  simp only [e]
  exact RetR.scal hq rfl (by simp [resV])
 obtain⟨k1,k2,k3,k4⟩:=Ca.WE h name day
 obtain⟨B,hB⟩:∃ B,(a.before f c).1=B:=⟨_,rfl⟩
 obtain⟨m,w⟩:=B
 rw [hB] at k1 k2 k3 k4
 simp only at k1 k2 k3 k4
 simp only [hB]
 have hBE:envP (m,w):=YY k1
 refine⟨(m,w),⟨⟨he m w,trivial⟩,hBE⟩,⟨_,rfl⟩,?_⟩
 rintro _ rfl
 refine⟨fun h=> ?_,fun _=> ?_⟩
 ·rw [k1,k2] at h; simp at h
 have hml:m.length<2^40:=hBE.1
 have hfl2:f.length<2^40:=by omega
 refine⟨((f,c),name,day),⟨⟨he f c,rfl,⟨rfl,rfl⟩,trivial⟩,hfl2⟩,⟨_,rfl⟩,?_⟩
 rintro _ rfl
 refine⟨((m,w),name,day),⟨⟨he m w,rfl,⟨rfl,rfl⟩,trivial⟩,hml⟩,⟨_,rfl⟩,?_⟩
 rintro _ rfl
 simp only
 refine⟨fun h=> ?_,fun h=> ?_⟩
 ·have hn:¬ (name=a.name∧a.date≤day):=by
   rintro⟨g1,g2⟩
   rw [decide_eq_true g1,decide_eq_false (show ¬ day<a.date by omega)] at h
   cases h
  rw [k3 hn]
  exact RetR.scal hq rfl (by simp [resV])
 obtain⟨g1,g2⟩:name=a.name∧a.date≤day:=by
  by_cases g1:name=a.name
  ·rw [decide_eq_true g1] at h
   have:¬ day<a.date:=of_decide_eq_false h
   exact⟨g1,by omega⟩
  ·rw [decide_eq_false g1] at h; cases h
 obtain⟨n1,n2⟩:=k4 g1 g2
 refine⟨((f,c),a.into,day),⟨⟨he f c,rfl,⟨rfl,rfl⟩,trivial⟩,hfl2⟩,⟨_,rfl⟩,?_⟩
 rintro _ rfl
 simp only
 refine⟨fun h=> ?_,fun h=> ?_⟩<;>simp at h
 ·rw [n1 h]
  exact RetR.scal hq rfl (by simp [resV])
 obtain⟨e1,e2,e3⟩:=n2 h
 have hv:(zF f a.into day).1.length<2^40:=YH hE.2.2.1 a.into day
 have hmu:=Vc a.ratio (zF f a.into day).1
 refine⟨(a.ratio,(zF f a.into day).1),⟨⟨rfl,rfl,trivial⟩,by simp only; omega,by simp only; omega⟩,⟨_,rfl⟩,?_⟩
 rintro _ rfl
 refine⟨((mulR a.ratio (zF f a.into day).1).1,a.extra),⟨⟨rfl,rfl,trivial⟩,by simp only; omega,by simp only; omega⟩,⟨_,rfl⟩,?_⟩
 rintro _ rfl
 simp only
 rw [e1,e2,e3]
 exact RetR.scal hq rfl (by simp [resV])
end Go.Proofs.Tryz
end
