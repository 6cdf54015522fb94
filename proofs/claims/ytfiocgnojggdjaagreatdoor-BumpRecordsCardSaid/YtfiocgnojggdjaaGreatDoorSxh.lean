/- The law returns true for every input, and each argument reads afterwards as it read before; no condition. -/
import Derived.Test.YtfiocgnojggdjaaGreatDoorSxg
import Derived.SizedLaws
import Derived.ChangeArms
import Derived.Deep.Slices
import Derived.Carry
import Derived.LaidMore
import Derived.WideKeyElems2
import Derived.ProofKit
import Derived.OpenShut
import Derived.ReadAgain
import Derived.Test.YtfiocgnojggdjaaGreatDoorRows
import Derived.MakeChecks
import Derived.Test.YtfiocgnojggdjaaGreatDoorCards
import Derived.Test.YtfiocgnojggdjaaGreatDoorTie
import Derived.Stop.Joined
import Derived.SevenTiedAt
set_option linter.unusedVariables false
set_option linter.unusedSimpArgs false
set_option linter.unusedSectionVars false
section
set_option maxRecDepth 100000
open Go Go.Sx Go.Proofs Go.Nov
namespace Go.Proofs.Tryz
attribute [local simp] eqKV eqA eqA0 eqH eqB eqL eqL0
theorem jc{A B:Prop}(ha:A)(hb:B):(∃ _:Bool,True)/\∀ n:Bool,True->(n=true->A)/\(n=false->B):=⟨⟨true,trivial⟩,λ_ _=>⟨λ_=>ha,λ_=>hb⟩⟩
theorem Ze{t:Tp}{pl:List Int} : jl t pl=true↔∀ j,j<pl.length->0<=dgF pl j/\dgF pl j<t.n:=by
 unfold jl;rw [bG];constructor
 ·intro g j hj;have:=g (dgF pl j) (by simp [dgF,List.getD,hj]);simpa using this
 ·intro g x hx;obtain⟨j,hj,rfl⟩:=List.getElem_of_mem hx;have:=g j hj;simp only [dgF,List.getD,aF hj,Option.getD_some] at this;simpa using this
theorem KL{t:Tp}{pl:List Int}(h:jl t pl=true):∀ i∈pl,0<=i/\i<t.n:=by
 intro i hi2;have:=bG.1 h i hi2;simpa using this
theorem zj1{x n:Int}(h:(!bif decide (0<=x) then decide (x<n) else false)=false):0<=x/\x<n:=by
 by_cases a:0<=x
 ·by_cases b:x<n
  ·exact⟨a,b⟩
  ·rw [aX a,aW b] at h; cases h
 ·rw [aW a] at h; cases h
theorem zf3{i k:Int} : eqG 2 1 (ze 1 [.i i,.i k]) (tgI .i64 (dgF [i,k])):=by
 intro j o hj ho;obtain rfl:o=0:=by omega
 rcases(show j=0\/j=1 by omega) with rfl | rfl<;>rfl
theorem kg{e:Int}{r:L8×Int}(h:qZ r):qZ (stpA e r):=by
 unfold stpA;by_cases g:e=0
 ·rw [aO (λq=>q g)]; exact h
 ·rw [aP g]; exact⟨λq=>absurd q g,λ_=>rfl⟩
theorem zjz{r:L8×Int} : stpA 0 r=r:=aO (λq=>q rfl)
theorem uB{e:Int}{r:L8×Int}(h:(stpA e r).2=0):e=0:=by
 unfold stpA at h;by_cases g:e=0
 ·exact g
 ·rw [aP g] at h; exact absurd h g
theorem zib{e k:Int}{x y:L8}(h:(stp e (arR k) x y).2=0):e=0:=by
 unfold stp at h;by_cases g:e=0
 ·exact g
 ·rw [aP g] at h; exact absurd h g
theorem zfs{t:Tp}{inp:List (L8)}{h:L8}{i k:Int}(hh:errR h=0)(p1:zh t=0)(p2:(inp.length:Int)=t.n)(p3:allQ inp)(hv:errR (z5 t inp).1=0)(hi2:0<=i/\i<t.n)(hk:0<=k/\k<t.n):qZ (croE t inp i k h)/\qZ (croF t inp i k h):=by
 have ga:qZ (atT t inp h [i,k]):=ve hh p1 p2 p3 (by simp; omega);have gb:qZ (croA t inp i k h):=kg (ve hh p1 p2 p3 (by simp; omega));have gc:qZ (croB t inp i k h):=kg (ve hh p1 p2 p3 (by simp; omega))
 have gd:qZ (croC t inp i k h):=by
  unfold croC; rw [<- arR4];exact jo λq=>⟨jM ga (uB (uB q)),jM gb (uB q)⟩
 have gs:qZ (croD t inp i k h):=by
  unfold croD; rw [<- arR4];exact jo λq=>⟨jM gd q,jM gc (zib (k:=4) (by rw [arR4]; exact q))⟩
 have gt:qZ (croE t inp i k h):=by
  unfold croE; rw [<- arR3];exact jo λq=>⟨jM gs q,hv⟩
 refine⟨gt,?_⟩;unfold croF; rw [<- arR5];exact jo λ_=>⟨hh,hh⟩
noncomputable def GE3:=tb xL (tb Zt (tb zfg tz))
def HCr(t:Tp)(inp:List L8)(e:Int)(h:L8)(i k:Int):Heap:=[HDf t inp e,.box [.str h],.box [.i i],.box [.i k]]
structure XCr where
 t:Tp
 inp:List (L8)
 h:L8
 i:Int
 k:Int
 v:L8
def ziy:Ctr:=ctrT false false (λp:XCr=>[.ptr 0 0,.str p.v,.ptr 1 0,.ptr 2 0,.ptr 3 0]) (λp=>HCr p.t p.inp 0 p.h p.i p.k)
 (λp=>p.v=(z5 p.t p.inp).1/\(z5 p.t p.inp).2=0/\errR p.h=0/\0<=p.i/\p.i<p.t.n/\0<=p.k/\p.k<p.t.n)
 (λp r=>r=(croE p.t p.inp p.i p.k p.h,croF p.t p.inp p.i p.k p.h))
 (λp (r:(L8×Int)×L8×Int)=>(.tup [.str r.1.1,.str r.2.1],HCr p.t p.inp r.2.2 p.h p.i p.k))
theorem zgl:zc prog 47 ziy:=by
 refine zC (fn:=f47) (c:=f47.body.getD .skip) rfl rfl rfl (λh=>by cases h) λp hp O w0 I0 Q hl0 hq=> ?_
 obtain⟨⟨n,ops⟩,inp,h,i,k,v⟩:=p;obtain⟨hv,hv0,he0,hi0,hi1,hk0,hk1⟩:=hp;simp only at hv hv0 he0 hi0 hi1 hk0 hk1 hq;refine zb.n GE3.h [] (let v10:List AV:=[.i k];let v9:List AV:=[.i i];let v8:=ze 1 [.i i];let v7:=ze 1 [.i k];let v5:=[AV.ptr 0 0,AV.str h,AV.osl 1 1 0 2];let v4:=L8;let v3:=[AV.ptr 0 0,AV.fn 48 [] [],AV.str h,AV.str h];let v2:=[AV.ptr 0 0,AV.str h,AV.osl 1 1 0 1];let v1:List Blk:=[.box [.i n,.sl ops.length 4 (opG ops),.sl inp.length 1 (ratG inp),.i 0],.arr 2 1 (ze 1 [.i i,.i k])];.all (λ(x:Bool)=>True) λn_1=>.ite n_1 (.all (λ(x:Bool)=>True) λn_2=>.ite n_2 (.ex (λ(x:Tp×List v4 ×Int×L8×List Int)=>eqL v5 [.ptr 0 0,.str x.2.2.2.1,.osl 1 1 0 x.2.2.2.2.length]/\eqH v1 [.box [.i x.1.n,.sl x.1.ops.length 4 (opG x.1.ops),.sl x.2.1.length 1 (ratG x.2.1),.i x.2.2.1],Blk.arrI .i64 x.2.2.2.2.length (dgF x.2.2.2.2)]/\2=2/\zh x.1=0/\(↑x.2.1.length:Int)=Tp.n x.1/\allQ x.2.1/\errR x.2.2.2.1=0/\(∀ (i:Int),i∈x.2.2.2.2->(0:Int)<=i/\i<Tp.n x.1)/\x.2.2.2.2.length<1099511627776) λn=>.all (λ(r:L8×Int)=>r=stpA n.2.2.1 (atT n.1 n.2.1 n.2.2.2.1 n.2.2.2.2)) λn_3=>let v6:List Blk:=[.box [.i n.1.n,.sl n.1.ops.length 4 (opG n.1.ops),.sl n.2.1.length 1 (ratG n.2.1),.i n_3.2],.arr 1 1 v8];.all (λ(x:Bool)=>True) λn_4=>.ite n_4 (.all (λ(x:Bool)=>True) λn_5=>.ite n_5 (.ex (λ(x:Tp×List v4 ×Int×L8×List Int)=>eqL v2 [.ptr 0 0,.str x.2.2.2.1,.osl 1 1 0 x.2.2.2.2.length]/\eqH v6 [.box [.i x.1.n,.sl x.1.ops.length 4 (opG x.1.ops),.sl x.2.1.length 1 (ratG x.2.1),.i x.2.2.1],Blk.arrI .i64 x.2.2.2.2.length (dgF x.2.2.2.2)]/\2=2/\zh x.1=0/\(↑x.2.1.length:Int)=Tp.n x.1/\allQ x.2.1/\errR x.2.2.2.1=0/\(∀ (i:Int),i∈x.2.2.2.2->(0:Int)<=i/\i<Tp.n x.1)/\x.2.2.2.2.length<1099511627776) λn_6=>.all (λ(r:L8×Int)=>r=stpA n_6.2.2.1 (atT n_6.1 n_6.2.1 n_6.2.2.2.1 n_6.2.2.2.2)) λn_7=>.ex (λ(x:Tp×List v4 ×Int×L8×List Int)=>eqL v2 [.ptr 0 0,.str x.2.2.2.1,.osl 1 1 0 x.2.2.2.2.length]/\eqH [.box [.i n_6.1.n,.sl n_6.1.ops.length 4 (opG n_6.1.ops),.sl n_6.2.1.length 1 (ratG n_6.2.1),.i n_7.2],.arr 1 1 v7] [.box [.i x.1.n,.sl x.1.ops.length 4 (opG x.1.ops),.sl x.2.1.length 1 (ratG x.2.1),.i x.2.2.1],Blk.arrI .i64 x.2.2.2.2.length (dgF x.2.2.2.2)]/\2=2/\zh x.1=0/\(↑x.2.1.length:Int)=Tp.n x.1/\allQ x.2.1/\errR x.2.2.2.1=0/\(∀ (i:Int),i∈x.2.2.2.2->(0:Int)<=i/\i<Tp.n x.1)/\x.2.2.2.2.length<1099511627776) λn_8=>.all (λ(r:L8×Int)=>r=stpA n_8.2.2.1 (atT n_8.1 n_8.2.1 n_8.2.2.2.1 n_8.2.2.2.2)) λn_9=>.ex (q46 [.ptr 0 0,.fn 43 [] [],.str n_3.1,.str n_7.1] [.box [.i n_8.1.n,.sl n_8.1.ops.length 4 (opG n_8.1.ops),.sl n_8.2.1.length 1 (ratG n_8.2.1),.i n_9.2]]) λn_10=>.all (λ(r:L8×Int)=>r=stp n_10.2.2.1 (arR n_10.2.2.2.1) n_10.2.2.2.2.1 n_10.2.2.2.2.2) λn_11=>.ex (q46 [.ptr 0 0,.fn 43 [] [],.str n_11.1,.str n_9.1] [.box [.i n_10.1.n,.sl n_10.1.ops.length 4 (opG n_10.1.ops),.sl n_10.2.1.length 1 (ratG n_10.2.1),.i n_11.2]]) λn_12=>.all (λ(r:L8×Int)=>r=stp n_12.2.2.1 (arR n_12.2.2.2.1) n_12.2.2.2.2.1 n_12.2.2.2.2.2) λn_13=>.ex (q46 [.ptr 0 0,.fn 46 [] [],.str n_13.1,.str v] [.box [.i n_12.1.n,.sl n_12.1.ops.length 4 (opG n_12.1.ops),.sl n_12.2.1.length 1 (ratG n_12.2.1),.i n_13.2]]) λn_14=>.all (λ(r:L8×Int)=>r=stp n_14.2.2.1 (arR n_14.2.2.2.1) n_14.2.2.2.2.1 n_14.2.2.2.2.2) λn_15=>.ex (q46 v3 [.box [.i n_14.1.n,.sl n_14.1.ops.length 4 (opG n_14.1.ops),.sl n_14.2.1.length 1 (ratG n_14.2.1),.i n_15.2]]) λn_16=>.all (λ(r:L8×Int)=>r=stp n_16.2.2.1 (arR n_16.2.2.2.1) n_16.2.2.2.2.1 n_16.2.2.2.2.2) λn_17=>.R [.str n_15.1,.str n_17.1] [.box [.i n_16.1.n,.sl n_16.1.ops.length 4 (opG n_16.1.ops),.sl n_16.2.1.length 1 (ratG n_16.2.1),.i n_17.2],.box [.str h],.box v9,.box v10,Blk.arrI .i64 n.2.2.2.2.length (dgF n.2.2.2.2),Blk.arrI .i64 n_6.2.2.2.2.length (dgF n_6.2.2.2.2),Blk.arrI .i64 n_8.2.2.2.2.length (dgF n_8.2.2.2.2)]) (.ex (λ(x:Tp×List v4 ×Int×L8×List Int)=>eqL v2 [.ptr 0 0,.str x.2.2.2.1,.osl 1 1 0 x.2.2.2.2.length]/\eqH v6 [.box [.i x.1.n,.sl x.1.ops.length 4 (opG x.1.ops),.sl x.2.1.length 1 (ratG x.2.1),.i x.2.2.1],Blk.arrI .i64 x.2.2.2.2.length (dgF x.2.2.2.2)]/\2=2/\zh x.1=0/\(↑x.2.1.length:Int)=Tp.n x.1/\allQ x.2.1/\errR x.2.2.2.1=0/\(∀ (i:Int),i∈x.2.2.2.2->(0:Int)<=i/\i<Tp.n x.1)/\x.2.2.2.2.length<1099511627776) λn_6=>.all (λ(r:L8×Int)=>r=stpA n_6.2.2.1 (atT n_6.1 n_6.2.1 n_6.2.2.2.1 n_6.2.2.2.2)) λn_7=>.ex (λ(x:Tp×List v4 ×Int×L8×List Int)=>eqL v2 [.ptr 0 0,.str x.2.2.2.1,.osl 1 1 0 x.2.2.2.2.length]/\eqH [.box [.i n_6.1.n,.sl n_6.1.ops.length 4 (opG n_6.1.ops),.sl n_6.2.1.length 1 (ratG n_6.2.1),.i n_7.2],.arr 1 1 v7] [.box [.i x.1.n,.sl x.1.ops.length 4 (opG x.1.ops),.sl x.2.1.length 1 (ratG x.2.1),.i x.2.2.1],Blk.arrI .i64 x.2.2.2.2.length (dgF x.2.2.2.2)]/\2=2/\zh x.1=0/\(↑x.2.1.length:Int)=Tp.n x.1/\allQ x.2.1/\errR x.2.2.2.1=0/\(∀ (i:Int),i∈x.2.2.2.2->(0:Int)<=i/\i<Tp.n x.1)/\x.2.2.2.2.length<1099511627776) λn_8=>.all (λ(r:L8×Int)=>r=stpA n_8.2.2.1 (atT n_8.1 n_8.2.1 n_8.2.2.2.1 n_8.2.2.2.2)) λn_9=>.ex (q46 [.ptr 0 0,.fn 43 [] [],.str n_3.1,.str n_7.1] [.box [.i n_8.1.n,.sl n_8.1.ops.length 4 (opG n_8.1.ops),.sl n_8.2.1.length 1 (ratG n_8.2.1),.i n_9.2]]) λn_10=>.all (λ(r:L8×Int)=>r=stp n_10.2.2.1 (arR n_10.2.2.2.1) n_10.2.2.2.2.1 n_10.2.2.2.2.2) λn_11=>.ex (q46 [.ptr 0 0,.fn 43 [] [],.str n_11.1,.str n_9.1] [.box [.i n_10.1.n,.sl n_10.1.ops.length 4 (opG n_10.1.ops),.sl n_10.2.1.length 1 (ratG n_10.2.1),.i n_11.2]]) λn_12=>.all (λ(r:L8×Int)=>r=stp n_12.2.2.1 (arR n_12.2.2.2.1) n_12.2.2.2.2.1 n_12.2.2.2.2.2) λn_13=>.ex (q46 [.ptr 0 0,.fn 46 [] [],.str n_13.1,.str v] [.box [.i n_12.1.n,.sl n_12.1.ops.length 4 (opG n_12.1.ops),.sl n_12.2.1.length 1 (ratG n_12.2.1),.i n_13.2]]) λn_14=>.all (λ(r:L8×Int)=>r=stp n_14.2.2.1 (arR n_14.2.2.2.1) n_14.2.2.2.2.1 n_14.2.2.2.2.2) λn_15=>.ex (q46 v3 [.box [.i n_14.1.n,.sl n_14.1.ops.length 4 (opG n_14.1.ops),.sl n_14.2.1.length 1 (ratG n_14.2.1),.i n_15.2]]) λn_16=>.all (λ(r:L8×Int)=>r=stp n_16.2.2.1 (arR n_16.2.2.2.1) n_16.2.2.2.2.1 n_16.2.2.2.2.2) λn_17=>.R [.str n_15.1,.str n_17.1] [.box [.i n_16.1.n,.sl n_16.1.ops.length 4 (opG n_16.1.ops),.sl n_16.2.1.length 1 (ratG n_16.2.1),.i n_17.2],.box [.str h],.box v9,.box v10,Blk.arrI .i64 n.2.2.2.2.length (dgF n.2.2.2.2),Blk.arrI .i64 n_6.2.2.2.2.length (dgF n_6.2.2.2.2),Blk.arrI .i64 n_8.2.2.2.2.length (dgF n_8.2.2.2.2)])) (.ex (λ(x:Tp×List v4 ×Int×L8×List Int)=>eqL v2 [.ptr 0 0,.str x.2.2.2.1,.osl 1 1 0 x.2.2.2.2.length]/\eqH v6 [.box [.i x.1.n,.sl x.1.ops.length 4 (opG x.1.ops),.sl x.2.1.length 1 (ratG x.2.1),.i x.2.2.1],Blk.arrI .i64 x.2.2.2.2.length (dgF x.2.2.2.2)]/\2=2/\zh x.1=0/\(↑x.2.1.length:Int)=Tp.n x.1/\allQ x.2.1/\errR x.2.2.2.1=0/\(∀ (i:Int),i∈x.2.2.2.2->(0:Int)<=i/\i<Tp.n x.1)/\x.2.2.2.2.length<1099511627776) λn_5=>.all (λ(r:L8×Int)=>r=stpA n_5.2.2.1 (atT n_5.1 n_5.2.1 n_5.2.2.2.1 n_5.2.2.2.2)) λn_6=>.ex (λ(x:Tp×List v4 ×Int×L8×List Int)=>eqL v2 [.ptr 0 0,.str x.2.2.2.1,.osl 1 1 0 x.2.2.2.2.length]/\eqH [.box [.i n_5.1.n,.sl n_5.1.ops.length 4 (opG n_5.1.ops),.sl n_5.2.1.length 1 (ratG n_5.2.1),.i n_6.2],.arr 1 1 v7] [.box [.i x.1.n,.sl x.1.ops.length 4 (opG x.1.ops),.sl x.2.1.length 1 (ratG x.2.1),.i x.2.2.1],Blk.arrI .i64 x.2.2.2.2.length (dgF x.2.2.2.2)]/\2=2/\zh x.1=0/\(↑x.2.1.length:Int)=Tp.n x.1/\allQ x.2.1/\errR x.2.2.2.1=0/\(∀ (i:Int),i∈x.2.2.2.2->(0:Int)<=i/\i<Tp.n x.1)/\x.2.2.2.2.length<1099511627776) λn_7=>.all (λ(r:L8×Int)=>r=stpA n_7.2.2.1 (atT n_7.1 n_7.2.1 n_7.2.2.2.1 n_7.2.2.2.2)) λn_8=>.ex (q46 [.ptr 0 0,.fn 43 [] [],.str n_3.1,.str n_6.1] [.box [.i n_7.1.n,.sl n_7.1.ops.length 4 (opG n_7.1.ops),.sl n_7.2.1.length 1 (ratG n_7.2.1),.i n_8.2]]) λn_9=>.all (λ(r:L8×Int)=>r=stp n_9.2.2.1 (arR n_9.2.2.2.1) n_9.2.2.2.2.1 n_9.2.2.2.2.2) λn_10=>.ex (q46 [.ptr 0 0,.fn 43 [] [],.str n_10.1,.str n_8.1] [.box [.i n_9.1.n,.sl n_9.1.ops.length 4 (opG n_9.1.ops),.sl n_9.2.1.length 1 (ratG n_9.2.1),.i n_10.2]]) λn_11=>.all (λ(r:L8×Int)=>r=stp n_11.2.2.1 (arR n_11.2.2.2.1) n_11.2.2.2.2.1 n_11.2.2.2.2.2) λn_12=>.ex (q46 [.ptr 0 0,.fn 46 [] [],.str n_12.1,.str v] [.box [.i n_11.1.n,.sl n_11.1.ops.length 4 (opG n_11.1.ops),.sl n_11.2.1.length 1 (ratG n_11.2.1),.i n_12.2]]) λn_13=>.all (λ(r:L8×Int)=>r=stp n_13.2.2.1 (arR n_13.2.2.2.1) n_13.2.2.2.2.1 n_13.2.2.2.2.2) λn_14=>.ex (q46 v3 [.box [.i n_13.1.n,.sl n_13.1.ops.length 4 (opG n_13.1.ops),.sl n_13.2.1.length 1 (ratG n_13.2.1),.i n_14.2]]) λn_15=>.all (λ(r:L8×Int)=>r=stp n_15.2.2.1 (arR n_15.2.2.2.1) n_15.2.2.2.2.1 n_15.2.2.2.2.2) λn_16=>.R [.str n_14.1,.str n_16.1] [.box [.i n_15.1.n,.sl n_15.1.ops.length 4 (opG n_15.1.ops),.sl n_15.2.1.length 1 (ratG n_15.2.1),.i n_16.2],.box [.str h],.box v9,.box v10,Blk.arrI .i64 n.2.2.2.2.length (dgF n.2.2.2.2),Blk.arrI .i64 n_7.2.2.2.2.length (dgF n_7.2.2.2.2),Blk.arrI .i64 n_5.2.2.2.2.length (dgF n_5.2.2.2.2)])) (.all (λ(x:Bool)=>True) λn_3=>.ite n_3 (.all (λ(x:Bool)=>True) λn_4=>.ite n_4 (.ex (λ(x:Tp×List v4 ×Int×L8×List Int)=>eqL v5 [.ptr 0 0,.str x.2.2.2.1,.osl 1 1 0 x.2.2.2.2.length]/\eqH v1 [.box [.i x.1.n,.sl x.1.ops.length 4 (opG x.1.ops),.sl x.2.1.length 1 (ratG x.2.1),.i x.2.2.1],Blk.arrI .i64 x.2.2.2.2.length (dgF x.2.2.2.2)]/\2=2/\zh x.1=0/\(↑x.2.1.length:Int)=Tp.n x.1/\allQ x.2.1/\errR x.2.2.2.1=0/\(∀ (i:Int),i∈x.2.2.2.2->(0:Int)<=i/\i<Tp.n x.1)/\x.2.2.2.2.length<1099511627776) λn=>.all (λ(r:L8×Int)=>r=stpA n.2.2.1 (atT n.1 n.2.1 n.2.2.2.1 n.2.2.2.2)) λn_5=>let v11:List Blk:=[.box [.i n.1.n,.sl n.1.ops.length 4 (opG n.1.ops),.sl n.2.1.length 1 (ratG n.2.1),.i n_5.2],.arr 1 1 v8];.all (λ(x:Bool)=>True) λn_6=>.ite n_6 (.ex (λ(x:Tp×List v4 ×Int×L8×List Int)=>eqL v2 [.ptr 0 0,.str x.2.2.2.1,.osl 1 1 0 x.2.2.2.2.length]/\eqH v11 [.box [.i x.1.n,.sl x.1.ops.length 4 (opG x.1.ops),.sl x.2.1.length 1 (ratG x.2.1),.i x.2.2.1],Blk.arrI .i64 x.2.2.2.2.length (dgF x.2.2.2.2)]/\2=2/\zh x.1=0/\(↑x.2.1.length:Int)=Tp.n x.1/\allQ x.2.1/\errR x.2.2.2.1=0/\(∀ (i:Int),i∈x.2.2.2.2->(0:Int)<=i/\i<Tp.n x.1)/\x.2.2.2.2.length<1099511627776) λn_7=>.all (λ(r:L8×Int)=>r=stpA n_7.2.2.1 (atT n_7.1 n_7.2.1 n_7.2.2.2.1 n_7.2.2.2.2)) λn_8=>.ex (λ(x:Tp×List v4 ×Int×L8×List Int)=>eqL v2 [.ptr 0 0,.str x.2.2.2.1,.osl 1 1 0 x.2.2.2.2.length]/\eqH [.box [.i n_7.1.n,.sl n_7.1.ops.length 4 (opG n_7.1.ops),.sl n_7.2.1.length 1 (ratG n_7.2.1),.i n_8.2],.arr 1 1 v7] [.box [.i x.1.n,.sl x.1.ops.length 4 (opG x.1.ops),.sl x.2.1.length 1 (ratG x.2.1),.i x.2.2.1],Blk.arrI .i64 x.2.2.2.2.length (dgF x.2.2.2.2)]/\2=2/\zh x.1=0/\(↑x.2.1.length:Int)=Tp.n x.1/\allQ x.2.1/\errR x.2.2.2.1=0/\(∀ (i:Int),i∈x.2.2.2.2->(0:Int)<=i/\i<Tp.n x.1)/\x.2.2.2.2.length<1099511627776) λn_9=>.all (λ(r:L8×Int)=>r=stpA n_9.2.2.1 (atT n_9.1 n_9.2.1 n_9.2.2.2.1 n_9.2.2.2.2)) λn_10=>.ex (q46 [.ptr 0 0,.fn 43 [] [],.str n_5.1,.str n_8.1] [.box [.i n_9.1.n,.sl n_9.1.ops.length 4 (opG n_9.1.ops),.sl n_9.2.1.length 1 (ratG n_9.2.1),.i n_10.2]]) λn_11=>.all (λ(r:L8×Int)=>r=stp n_11.2.2.1 (arR n_11.2.2.2.1) n_11.2.2.2.2.1 n_11.2.2.2.2.2) λn_12=>.ex (q46 [.ptr 0 0,.fn 43 [] [],.str n_12.1,.str n_10.1] [.box [.i n_11.1.n,.sl n_11.1.ops.length 4 (opG n_11.1.ops),.sl n_11.2.1.length 1 (ratG n_11.2.1),.i n_12.2]]) λn_13=>.all (λ(r:L8×Int)=>r=stp n_13.2.2.1 (arR n_13.2.2.2.1) n_13.2.2.2.2.1 n_13.2.2.2.2.2) λn_14=>.ex (q46 [.ptr 0 0,.fn 46 [] [],.str n_14.1,.str v] [.box [.i n_13.1.n,.sl n_13.1.ops.length 4 (opG n_13.1.ops),.sl n_13.2.1.length 1 (ratG n_13.2.1),.i n_14.2]]) λn_15=>.all (λ(r:L8×Int)=>r=stp n_15.2.2.1 (arR n_15.2.2.2.1) n_15.2.2.2.2.1 n_15.2.2.2.2.2) λn_16=>.ex (q46 v3 [.box [.i n_15.1.n,.sl n_15.1.ops.length 4 (opG n_15.1.ops),.sl n_15.2.1.length 1 (ratG n_15.2.1),.i n_16.2]]) λn_17=>.all (λ(r:L8×Int)=>r=stp n_17.2.2.1 (arR n_17.2.2.2.1) n_17.2.2.2.2.1 n_17.2.2.2.2.2) λn_18=>.R [.str n_16.1,.str n_18.1] [.box [.i n_17.1.n,.sl n_17.1.ops.length 4 (opG n_17.1.ops),.sl n_17.2.1.length 1 (ratG n_17.2.1),.i n_18.2],.box [.str h],.box v9,.box v10,Blk.arrI .i64 n.2.2.2.2.length (dgF n.2.2.2.2),Blk.arrI .i64 n_7.2.2.2.2.length (dgF n_7.2.2.2.2),Blk.arrI .i64 n_9.2.2.2.2.length (dgF n_9.2.2.2.2)]) (.ex (λ(x:Tp×List v4 ×Int×L8×List Int)=>eqL v2 [.ptr 0 0,.str x.2.2.2.1,.osl 1 1 0 x.2.2.2.2.length]/\eqH v11 [.box [.i x.1.n,.sl x.1.ops.length 4 (opG x.1.ops),.sl x.2.1.length 1 (ratG x.2.1),.i x.2.2.1],Blk.arrI .i64 x.2.2.2.2.length (dgF x.2.2.2.2)]/\2=2/\zh x.1=0/\(↑x.2.1.length:Int)=Tp.n x.1/\allQ x.2.1/\errR x.2.2.2.1=0/\(∀ (i:Int),i∈x.2.2.2.2->(0:Int)<=i/\i<Tp.n x.1)/\x.2.2.2.2.length<1099511627776) λn_7=>.all (λ(r:L8×Int)=>r=stpA n_7.2.2.1 (atT n_7.1 n_7.2.1 n_7.2.2.2.1 n_7.2.2.2.2)) λn_8=>.ex (λ(x:Tp×List v4 ×Int×L8×List Int)=>eqL v2 [.ptr 0 0,.str x.2.2.2.1,.osl 1 1 0 x.2.2.2.2.length]/\eqH [.box [.i n_7.1.n,.sl n_7.1.ops.length 4 (opG n_7.1.ops),.sl n_7.2.1.length 1 (ratG n_7.2.1),.i n_8.2],.arr 1 1 v7] [.box [.i x.1.n,.sl x.1.ops.length 4 (opG x.1.ops),.sl x.2.1.length 1 (ratG x.2.1),.i x.2.2.1],Blk.arrI .i64 x.2.2.2.2.length (dgF x.2.2.2.2)]/\2=2/\zh x.1=0/\(↑x.2.1.length:Int)=Tp.n x.1/\allQ x.2.1/\errR x.2.2.2.1=0/\(∀ (i:Int),i∈x.2.2.2.2->(0:Int)<=i/\i<Tp.n x.1)/\x.2.2.2.2.length<1099511627776) λn_9=>.all (λ(r:L8×Int)=>r=stpA n_9.2.2.1 (atT n_9.1 n_9.2.1 n_9.2.2.2.1 n_9.2.2.2.2)) λn_10=>.ex (q46 [.ptr 0 0,.fn 43 [] [],.str n_5.1,.str n_8.1] [.box [.i n_9.1.n,.sl n_9.1.ops.length 4 (opG n_9.1.ops),.sl n_9.2.1.length 1 (ratG n_9.2.1),.i n_10.2]]) λn_11=>.all (λ(r:L8×Int)=>r=stp n_11.2.2.1 (arR n_11.2.2.2.1) n_11.2.2.2.2.1 n_11.2.2.2.2.2) λn_12=>.ex (q46 [.ptr 0 0,.fn 43 [] [],.str n_12.1,.str n_10.1] [.box [.i n_11.1.n,.sl n_11.1.ops.length 4 (opG n_11.1.ops),.sl n_11.2.1.length 1 (ratG n_11.2.1),.i n_12.2]]) λn_13=>.all (λ(r:L8×Int)=>r=stp n_13.2.2.1 (arR n_13.2.2.2.1) n_13.2.2.2.2.1 n_13.2.2.2.2.2) λn_14=>.ex (q46 [.ptr 0 0,.fn 46 [] [],.str n_14.1,.str v] [.box [.i n_13.1.n,.sl n_13.1.ops.length 4 (opG n_13.1.ops),.sl n_13.2.1.length 1 (ratG n_13.2.1),.i n_14.2]]) λn_15=>.all (λ(r:L8×Int)=>r=stp n_15.2.2.1 (arR n_15.2.2.2.1) n_15.2.2.2.2.1 n_15.2.2.2.2.2) λn_16=>.ex (q46 v3 [.box [.i n_15.1.n,.sl n_15.1.ops.length 4 (opG n_15.1.ops),.sl n_15.2.1.length 1 (ratG n_15.2.1),.i n_16.2]]) λn_17=>.all (λ(r:L8×Int)=>r=stp n_17.2.2.1 (arR n_17.2.2.2.1) n_17.2.2.2.2.1 n_17.2.2.2.2.2) λn_18=>.R [.str n_16.1,.str n_18.1] [.box [.i n_17.1.n,.sl n_17.1.ops.length 4 (opG n_17.1.ops),.sl n_17.2.1.length 1 (ratG n_17.2.1),.i n_18.2],.box [.str h],.box v9,.box v10,Blk.arrI .i64 n.2.2.2.2.length (dgF n.2.2.2.2),Blk.arrI .i64 n_7.2.2.2.2.length (dgF n_7.2.2.2.2),Blk.arrI .i64 n_9.2.2.2.2.length (dgF n_9.2.2.2.2)])) (.ex (λ(x:Tp×List v4 ×Int×L8×List Int)=>eqL v5 [.ptr 0 0,.str x.2.2.2.1,.osl 1 1 0 x.2.2.2.2.length]/\eqH v1 [.box [.i x.1.n,.sl x.1.ops.length 4 (opG x.1.ops),.sl x.2.1.length 1 (ratG x.2.1),.i x.2.2.1],Blk.arrI .i64 x.2.2.2.2.length (dgF x.2.2.2.2)]/\2=2/\zh x.1=0/\(↑x.2.1.length:Int)=Tp.n x.1/\allQ x.2.1/\errR x.2.2.2.1=0/\(∀ (i:Int),i∈x.2.2.2.2->(0:Int)<=i/\i<Tp.n x.1)/\x.2.2.2.2.length<1099511627776) λn=>.all (λ(r:L8×Int)=>r=stpA n.2.2.1 (atT n.1 n.2.1 n.2.2.2.1 n.2.2.2.2)) λn_5=>.ex (λ(x:Tp×List v4 ×Int×L8×List Int)=>eqL v2 [.ptr 0 0,.str x.2.2.2.1,.osl 1 1 0 x.2.2.2.2.length]/\eqH [.box [.i n.1.n,.sl n.1.ops.length 4 (opG n.1.ops),.sl n.2.1.length 1 (ratG n.2.1),.i n_5.2],.arr 1 1 v8] [.box [.i x.1.n,.sl x.1.ops.length 4 (opG x.1.ops),.sl x.2.1.length 1 (ratG x.2.1),.i x.2.2.1],Blk.arrI .i64 x.2.2.2.2.length (dgF x.2.2.2.2)]/\2=2/\zh x.1=0/\(↑x.2.1.length:Int)=Tp.n x.1/\allQ x.2.1/\errR x.2.2.2.1=0/\(∀ (i:Int),i∈x.2.2.2.2->(0:Int)<=i/\i<Tp.n x.1)/\x.2.2.2.2.length<1099511627776) λn_6=>.all (λ(r:L8×Int)=>r=stpA n_6.2.2.1 (atT n_6.1 n_6.2.1 n_6.2.2.2.1 n_6.2.2.2.2)) λn_7=>.ex (λ(x:Tp×List v4 ×Int×L8×List Int)=>eqL v2 [.ptr 0 0,.str x.2.2.2.1,.osl 1 1 0 x.2.2.2.2.length]/\eqH [.box [.i n_6.1.n,.sl n_6.1.ops.length 4 (opG n_6.1.ops),.sl n_6.2.1.length 1 (ratG n_6.2.1),.i n_7.2],.arr 1 1 v7] [.box [.i x.1.n,.sl x.1.ops.length 4 (opG x.1.ops),.sl x.2.1.length 1 (ratG x.2.1),.i x.2.2.1],Blk.arrI .i64 x.2.2.2.2.length (dgF x.2.2.2.2)]/\2=2/\zh x.1=0/\(↑x.2.1.length:Int)=Tp.n x.1/\allQ x.2.1/\errR x.2.2.2.1=0/\(∀ (i:Int),i∈x.2.2.2.2->(0:Int)<=i/\i<Tp.n x.1)/\x.2.2.2.2.length<1099511627776) λn_8=>.all (λ(r:L8×Int)=>r=stpA n_8.2.2.1 (atT n_8.1 n_8.2.1 n_8.2.2.2.1 n_8.2.2.2.2)) λn_9=>.ex (q46 [.ptr 0 0,.fn 43 [] [],.str n_5.1,.str n_7.1] [.box [.i n_8.1.n,.sl n_8.1.ops.length 4 (opG n_8.1.ops),.sl n_8.2.1.length 1 (ratG n_8.2.1),.i n_9.2]]) λn_10=>.all (λ(r:L8×Int)=>r=stp n_10.2.2.1 (arR n_10.2.2.2.1) n_10.2.2.2.2.1 n_10.2.2.2.2.2) λn_11=>.ex (q46 [.ptr 0 0,.fn 43 [] [],.str n_11.1,.str n_9.1] [.box [.i n_10.1.n,.sl n_10.1.ops.length 4 (opG n_10.1.ops),.sl n_10.2.1.length 1 (ratG n_10.2.1),.i n_11.2]]) λn_12=>.all (λ(r:L8×Int)=>r=stp n_12.2.2.1 (arR n_12.2.2.2.1) n_12.2.2.2.2.1 n_12.2.2.2.2.2) λn_13=>.ex (q46 [.ptr 0 0,.fn 46 [] [],.str n_13.1,.str v] [.box [.i n_12.1.n,.sl n_12.1.ops.length 4 (opG n_12.1.ops),.sl n_12.2.1.length 1 (ratG n_12.2.1),.i n_13.2]]) λn_14=>.all (λ(r:L8×Int)=>r=stp n_14.2.2.1 (arR n_14.2.2.2.1) n_14.2.2.2.2.1 n_14.2.2.2.2.2) λn_15=>.ex (q46 v3 [.box [.i n_14.1.n,.sl n_14.1.ops.length 4 (opG n_14.1.ops),.sl n_14.2.1.length 1 (ratG n_14.2.1),.i n_15.2]]) λn_16=>.all (λ(r:L8×Int)=>r=stp n_16.2.2.1 (arR n_16.2.2.2.1) n_16.2.2.2.2.1 n_16.2.2.2.2.2) λn_17=>.R [.str n_15.1,.str n_17.1] [.box [.i n_16.1.n,.sl n_16.1.ops.length 4 (opG n_16.1.ops),.sl n_16.2.1.length 1 (ratG n_16.2.1),.i n_17.2],.box [.str h],.box v9,.box v10,Blk.arrI .i64 n.2.2.2.2.length (dgF n.2.2.2.2),Blk.arrI .i64 n_6.2.2.2.2.length (dgF n_6.2.2.2.2),Blk.arrI .i64 n_8.2.2.2.2.length (dgF n_8.2.2.2.2)])) (.all (λ(x:Bool)=>True) λn_4=>.ite n_4 (.ex (λ(x:Tp×List v4 ×Int×L8×List Int)=>eqL v5 [.ptr 0 0,.str x.2.2.2.1,.osl 1 1 0 x.2.2.2.2.length]/\eqH v1 [.box [.i x.1.n,.sl x.1.ops.length 4 (opG x.1.ops),.sl x.2.1.length 1 (ratG x.2.1),.i x.2.2.1],Blk.arrI .i64 x.2.2.2.2.length (dgF x.2.2.2.2)]/\2=2/\zh x.1=0/\(↑x.2.1.length:Int)=Tp.n x.1/\allQ x.2.1/\errR x.2.2.2.1=0/\(∀ (i:Int),i∈x.2.2.2.2->(0:Int)<=i/\i<Tp.n x.1)/\x.2.2.2.2.length<1099511627776) λn=>.all (λ(r:L8×Int)=>r=stpA n.2.2.1 (atT n.1 n.2.1 n.2.2.2.1 n.2.2.2.2)) λn_5=>.ex (λ(x:Tp×List v4 ×Int×L8×List Int)=>eqL v2 [.ptr 0 0,.str x.2.2.2.1,.osl 1 1 0 x.2.2.2.2.length]/\eqH [.box [.i n.1.n,.sl n.1.ops.length 4 (opG n.1.ops),.sl n.2.1.length 1 (ratG n.2.1),.i n_5.2],.arr 1 1 v8] [.box [.i x.1.n,.sl x.1.ops.length 4 (opG x.1.ops),.sl x.2.1.length 1 (ratG x.2.1),.i x.2.2.1],Blk.arrI .i64 x.2.2.2.2.length (dgF x.2.2.2.2)]/\2=2/\zh x.1=0/\(↑x.2.1.length:Int)=Tp.n x.1/\allQ x.2.1/\errR x.2.2.2.1=0/\(∀ (i:Int),i∈x.2.2.2.2->(0:Int)<=i/\i<Tp.n x.1)/\x.2.2.2.2.length<1099511627776) λn_6=>.all (λ(r:L8×Int)=>r=stpA n_6.2.2.1 (atT n_6.1 n_6.2.1 n_6.2.2.2.1 n_6.2.2.2.2)) λn_7=>.ex (λ(x:Tp×List v4 ×Int×L8×List Int)=>eqL v2 [.ptr 0 0,.str x.2.2.2.1,.osl 1 1 0 x.2.2.2.2.length]/\eqH [.box [.i n_6.1.n,.sl n_6.1.ops.length 4 (opG n_6.1.ops),.sl n_6.2.1.length 1 (ratG n_6.2.1),.i n_7.2],.arr 1 1 v7] [.box [.i x.1.n,.sl x.1.ops.length 4 (opG x.1.ops),.sl x.2.1.length 1 (ratG x.2.1),.i x.2.2.1],Blk.arrI .i64 x.2.2.2.2.length (dgF x.2.2.2.2)]/\2=2/\zh x.1=0/\(↑x.2.1.length:Int)=Tp.n x.1/\allQ x.2.1/\errR x.2.2.2.1=0/\(∀ (i:Int),i∈x.2.2.2.2->(0:Int)<=i/\i<Tp.n x.1)/\x.2.2.2.2.length<1099511627776) λn_8=>.all (λ(r:L8×Int)=>r=stpA n_8.2.2.1 (atT n_8.1 n_8.2.1 n_8.2.2.2.1 n_8.2.2.2.2)) λn_9=>.ex (q46 [.ptr 0 0,.fn 43 [] [],.str n_5.1,.str n_7.1] [.box [.i n_8.1.n,.sl n_8.1.ops.length 4 (opG n_8.1.ops),.sl n_8.2.1.length 1 (ratG n_8.2.1),.i n_9.2]]) λn_10=>.all (λ(r:L8×Int)=>r=stp n_10.2.2.1 (arR n_10.2.2.2.1) n_10.2.2.2.2.1 n_10.2.2.2.2.2) λn_11=>.ex (q46 [.ptr 0 0,.fn 43 [] [],.str n_11.1,.str n_9.1] [.box [.i n_10.1.n,.sl n_10.1.ops.length 4 (opG n_10.1.ops),.sl n_10.2.1.length 1 (ratG n_10.2.1),.i n_11.2]]) λn_12=>.all (λ(r:L8×Int)=>r=stp n_12.2.2.1 (arR n_12.2.2.2.1) n_12.2.2.2.2.1 n_12.2.2.2.2.2) λn_13=>.ex (q46 [.ptr 0 0,.fn 46 [] [],.str n_13.1,.str v] [.box [.i n_12.1.n,.sl n_12.1.ops.length 4 (opG n_12.1.ops),.sl n_12.2.1.length 1 (ratG n_12.2.1),.i n_13.2]]) λn_14=>.all (λ(r:L8×Int)=>r=stp n_14.2.2.1 (arR n_14.2.2.2.1) n_14.2.2.2.2.1 n_14.2.2.2.2.2) λn_15=>.ex (q46 v3 [.box [.i n_14.1.n,.sl n_14.1.ops.length 4 (opG n_14.1.ops),.sl n_14.2.1.length 1 (ratG n_14.2.1),.i n_15.2]]) λn_16=>.all (λ(r:L8×Int)=>r=stp n_16.2.2.1 (arR n_16.2.2.2.1) n_16.2.2.2.2.1 n_16.2.2.2.2.2) λn_17=>.R [.str n_15.1,.str n_17.1] [.box [.i n_16.1.n,.sl n_16.1.ops.length 4 (opG n_16.1.ops),.sl n_16.2.1.length 1 (ratG n_16.2.1),.i n_17.2],.box [.str h],.box v9,.box v10,Blk.arrI .i64 n.2.2.2.2.length (dgF n.2.2.2.2),Blk.arrI .i64 n_8.2.2.2.2.length (dgF n_8.2.2.2.2),Blk.arrI .i64 n_6.2.2.2.2.length (dgF n_6.2.2.2.2)]) (.ex (λ(x:Tp×List v4 ×Int×L8×List Int)=>eqL v5 [.ptr 0 0,.str x.2.2.2.1,.osl 1 1 0 x.2.2.2.2.length]/\eqH v1 [.box [.i x.1.n,.sl x.1.ops.length 4 (opG x.1.ops),.sl x.2.1.length 1 (ratG x.2.1),.i x.2.2.1],Blk.arrI .i64 x.2.2.2.2.length (dgF x.2.2.2.2)]/\2=2/\zh x.1=0/\(↑x.2.1.length:Int)=Tp.n x.1/\allQ x.2.1/\errR x.2.2.2.1=0/\(∀ (i:Int),i∈x.2.2.2.2->(0:Int)<=i/\i<Tp.n x.1)/\x.2.2.2.2.length<1099511627776) λn=>.all (λ(r:L8×Int)=>r=stpA n.2.2.1 (atT n.1 n.2.1 n.2.2.2.1 n.2.2.2.2)) λn_5=>.ex (λ(x:Tp×List v4 ×Int×L8×List Int)=>eqL v2 [.ptr 0 0,.str x.2.2.2.1,.osl 1 1 0 x.2.2.2.2.length]/\eqH [.box [.i n.1.n,.sl n.1.ops.length 4 (opG n.1.ops),.sl n.2.1.length 1 (ratG n.2.1),.i n_5.2],.arr 1 1 v8] [.box [.i x.1.n,.sl x.1.ops.length 4 (opG x.1.ops),.sl x.2.1.length 1 (ratG x.2.1),.i x.2.2.1],Blk.arrI .i64 x.2.2.2.2.length (dgF x.2.2.2.2)]/\2=2/\zh x.1=0/\(↑x.2.1.length:Int)=Tp.n x.1/\allQ x.2.1/\errR x.2.2.2.1=0/\(∀ (i:Int),i∈x.2.2.2.2->(0:Int)<=i/\i<Tp.n x.1)/\x.2.2.2.2.length<1099511627776) λn_6=>.all (λ(r:L8×Int)=>r=stpA n_6.2.2.1 (atT n_6.1 n_6.2.1 n_6.2.2.2.1 n_6.2.2.2.2)) λn_7=>.ex (λ(x:Tp×List v4 ×Int×L8×List Int)=>eqL v2 [.ptr 0 0,.str x.2.2.2.1,.osl 1 1 0 x.2.2.2.2.length]/\eqH [.box [.i n_6.1.n,.sl n_6.1.ops.length 4 (opG n_6.1.ops),.sl n_6.2.1.length 1 (ratG n_6.2.1),.i n_7.2],.arr 1 1 v7] [.box [.i x.1.n,.sl x.1.ops.length 4 (opG x.1.ops),.sl x.2.1.length 1 (ratG x.2.1),.i x.2.2.1],Blk.arrI .i64 x.2.2.2.2.length (dgF x.2.2.2.2)]/\2=2/\zh x.1=0/\(↑x.2.1.length:Int)=Tp.n x.1/\allQ x.2.1/\errR x.2.2.2.1=0/\(∀ (i:Int),i∈x.2.2.2.2->(0:Int)<=i/\i<Tp.n x.1)/\x.2.2.2.2.length<1099511627776) λn_8=>.all (λ(r:L8×Int)=>r=stpA n_8.2.2.1 (atT n_8.1 n_8.2.1 n_8.2.2.2.1 n_8.2.2.2.2)) λn_9=>.ex (q46 [.ptr 0 0,.fn 43 [] [],.str n_5.1,.str n_7.1] [.box [.i n_8.1.n,.sl n_8.1.ops.length 4 (opG n_8.1.ops),.sl n_8.2.1.length 1 (ratG n_8.2.1),.i n_9.2]]) λn_10=>.all (λ(r:L8×Int)=>r=stp n_10.2.2.1 (arR n_10.2.2.2.1) n_10.2.2.2.2.1 n_10.2.2.2.2.2) λn_11=>.ex (q46 [.ptr 0 0,.fn 43 [] [],.str n_11.1,.str n_9.1] [.box [.i n_10.1.n,.sl n_10.1.ops.length 4 (opG n_10.1.ops),.sl n_10.2.1.length 1 (ratG n_10.2.1),.i n_11.2]]) λn_12=>.all (λ(r:L8×Int)=>r=stp n_12.2.2.1 (arR n_12.2.2.2.1) n_12.2.2.2.2.1 n_12.2.2.2.2.2) λn_13=>.ex (q46 [.ptr 0 0,.fn 46 [] [],.str n_13.1,.str v] [.box [.i n_12.1.n,.sl n_12.1.ops.length 4 (opG n_12.1.ops),.sl n_12.2.1.length 1 (ratG n_12.2.1),.i n_13.2]]) λn_14=>.all (λ(r:L8×Int)=>r=stp n_14.2.2.1 (arR n_14.2.2.2.1) n_14.2.2.2.2.1 n_14.2.2.2.2.2) λn_15=>.ex (q46 v3 [.box [.i n_14.1.n,.sl n_14.1.ops.length 4 (opG n_14.1.ops),.sl n_14.2.1.length 1 (ratG n_14.2.1),.i n_15.2]]) λn_16=>.all (λ(r:L8×Int)=>r=stp n_16.2.2.1 (arR n_16.2.2.2.1) n_16.2.2.2.2.1 n_16.2.2.2.2.2) λn_17=>.R [.str n_15.1,.str n_17.1] [.box [.i n_16.1.n,.sl n_16.1.ops.length 4 (opG n_16.1.ops),.sl n_16.2.1.length 1 (ratG n_16.2.1),.i n_17.2],.box [.str h],.box v9,.box v10,Blk.arrI .i64 n.2.2.2.2.length (dgF n.2.2.2.2),Blk.arrI .i64 n_8.2.2.2.2.length (dgF n_8.2.2.2.2),Blk.arrI .i64 n_6.2.2.2.2.length (dgF n_6.2.2.2.2)])))) (.all (λ(x:Bool)=>True) λn_2=>.ite n_2 (.all (λ(x:Bool)=>True) λn_3=>.ite n_3 (.all (λ(x:Bool)=>True) λn_4=>.ite n_4 (.ex (λ(x:Tp×List v4 ×Int×L8×List Int)=>eqL v5 [.ptr 0 0,.str x.2.2.2.1,.osl 1 1 0 x.2.2.2.2.length]/\eqH v1 [.box [.i x.1.n,.sl x.1.ops.length 4 (opG x.1.ops),.sl x.2.1.length 1 (ratG x.2.1),.i x.2.2.1],Blk.arrI .i64 x.2.2.2.2.length (dgF x.2.2.2.2)]/\2=2/\zh x.1=0/\(↑x.2.1.length:Int)=Tp.n x.1/\allQ x.2.1/\errR x.2.2.2.1=0/\(∀ (i:Int),i∈x.2.2.2.2->(0:Int)<=i/\i<Tp.n x.1)/\x.2.2.2.2.length<1099511627776) λn=>.all (λ(r:L8×Int)=>r=stpA n.2.2.1 (atT n.1 n.2.1 n.2.2.2.1 n.2.2.2.2)) λn_5=>let v12:List Blk:=[.box [.i n.1.n,.sl n.1.ops.length 4 (opG n.1.ops),.sl n.2.1.length 1 (ratG n.2.1),.i n_5.2],.arr 1 1 v8];.all (λ(x:Bool)=>True) λn_6=>.ite n_6 (.ex (λ(x:Tp×List v4 ×Int×L8×List Int)=>eqL v2 [.ptr 0 0,.str x.2.2.2.1,.osl 1 1 0 x.2.2.2.2.length]/\eqH v12 [.box [.i x.1.n,.sl x.1.ops.length 4 (opG x.1.ops),.sl x.2.1.length 1 (ratG x.2.1),.i x.2.2.1],Blk.arrI .i64 x.2.2.2.2.length (dgF x.2.2.2.2)]/\2=2/\zh x.1=0/\(↑x.2.1.length:Int)=Tp.n x.1/\allQ x.2.1/\errR x.2.2.2.1=0/\(∀ (i:Int),i∈x.2.2.2.2->(0:Int)<=i/\i<Tp.n x.1)/\x.2.2.2.2.length<1099511627776) λn_7=>.all (λ(r:L8×Int)=>r=stpA n_7.2.2.1 (atT n_7.1 n_7.2.1 n_7.2.2.2.1 n_7.2.2.2.2)) λn_8=>.ex (λ(x:Tp×List v4 ×Int×L8×List Int)=>eqL v2 [.ptr 0 0,.str x.2.2.2.1,.osl 1 1 0 x.2.2.2.2.length]/\eqH [.box [.i n_7.1.n,.sl n_7.1.ops.length 4 (opG n_7.1.ops),.sl n_7.2.1.length 1 (ratG n_7.2.1),.i n_8.2],.arr 1 1 v7] [.box [.i x.1.n,.sl x.1.ops.length 4 (opG x.1.ops),.sl x.2.1.length 1 (ratG x.2.1),.i x.2.2.1],Blk.arrI .i64 x.2.2.2.2.length (dgF x.2.2.2.2)]/\2=2/\zh x.1=0/\(↑x.2.1.length:Int)=Tp.n x.1/\allQ x.2.1/\errR x.2.2.2.1=0/\(∀ (i:Int),i∈x.2.2.2.2->(0:Int)<=i/\i<Tp.n x.1)/\x.2.2.2.2.length<1099511627776) λn_9=>.all (λ(r:L8×Int)=>r=stpA n_9.2.2.1 (atT n_9.1 n_9.2.1 n_9.2.2.2.1 n_9.2.2.2.2)) λn_10=>.ex (q46 [.ptr 0 0,.fn 43 [] [],.str n_5.1,.str n_8.1] [.box [.i n_9.1.n,.sl n_9.1.ops.length 4 (opG n_9.1.ops),.sl n_9.2.1.length 1 (ratG n_9.2.1),.i n_10.2]]) λn_11=>.all (λ(r:L8×Int)=>r=stp n_11.2.2.1 (arR n_11.2.2.2.1) n_11.2.2.2.2.1 n_11.2.2.2.2.2) λn_12=>.ex (q46 [.ptr 0 0,.fn 43 [] [],.str n_12.1,.str n_10.1] [.box [.i n_11.1.n,.sl n_11.1.ops.length 4 (opG n_11.1.ops),.sl n_11.2.1.length 1 (ratG n_11.2.1),.i n_12.2]]) λn_13=>.all (λ(r:L8×Int)=>r=stp n_13.2.2.1 (arR n_13.2.2.2.1) n_13.2.2.2.2.1 n_13.2.2.2.2.2) λn_14=>.ex (q46 [.ptr 0 0,.fn 46 [] [],.str n_14.1,.str v] [.box [.i n_13.1.n,.sl n_13.1.ops.length 4 (opG n_13.1.ops),.sl n_13.2.1.length 1 (ratG n_13.2.1),.i n_14.2]]) λn_15=>.all (λ(r:L8×Int)=>r=stp n_15.2.2.1 (arR n_15.2.2.2.1) n_15.2.2.2.2.1 n_15.2.2.2.2.2) λn_16=>.ex (q46 v3 [.box [.i n_15.1.n,.sl n_15.1.ops.length 4 (opG n_15.1.ops),.sl n_15.2.1.length 1 (ratG n_15.2.1),.i n_16.2]]) λn_17=>.all (λ(r:L8×Int)=>r=stp n_17.2.2.1 (arR n_17.2.2.2.1) n_17.2.2.2.2.1 n_17.2.2.2.2.2) λn_18=>.R [.str n_16.1,.str n_18.1] [.box [.i n_17.1.n,.sl n_17.1.ops.length 4 (opG n_17.1.ops),.sl n_17.2.1.length 1 (ratG n_17.2.1),.i n_18.2],.box [.str h],.box v9,.box v10,Blk.arrI .i64 n_7.2.2.2.2.length (dgF n_7.2.2.2.2),Blk.arrI .i64 n.2.2.2.2.length (dgF n.2.2.2.2),Blk.arrI .i64 n_9.2.2.2.2.length (dgF n_9.2.2.2.2)]) (.ex (λ(x:Tp×List v4 ×Int×L8×List Int)=>eqL v2 [.ptr 0 0,.str x.2.2.2.1,.osl 1 1 0 x.2.2.2.2.length]/\eqH v12 [.box [.i x.1.n,.sl x.1.ops.length 4 (opG x.1.ops),.sl x.2.1.length 1 (ratG x.2.1),.i x.2.2.1],Blk.arrI .i64 x.2.2.2.2.length (dgF x.2.2.2.2)]/\2=2/\zh x.1=0/\(↑x.2.1.length:Int)=Tp.n x.1/\allQ x.2.1/\errR x.2.2.2.1=0/\(∀ (i:Int),i∈x.2.2.2.2->(0:Int)<=i/\i<Tp.n x.1)/\x.2.2.2.2.length<1099511627776) λn_7=>.all (λ(r:L8×Int)=>r=stpA n_7.2.2.1 (atT n_7.1 n_7.2.1 n_7.2.2.2.1 n_7.2.2.2.2)) λn_8=>.ex (λ(x:Tp×List v4 ×Int×L8×List Int)=>eqL v2 [.ptr 0 0,.str x.2.2.2.1,.osl 1 1 0 x.2.2.2.2.length]/\eqH [.box [.i n_7.1.n,.sl n_7.1.ops.length 4 (opG n_7.1.ops),.sl n_7.2.1.length 1 (ratG n_7.2.1),.i n_8.2],.arr 1 1 v7] [.box [.i x.1.n,.sl x.1.ops.length 4 (opG x.1.ops),.sl x.2.1.length 1 (ratG x.2.1),.i x.2.2.1],Blk.arrI .i64 x.2.2.2.2.length (dgF x.2.2.2.2)]/\2=2/\zh x.1=0/\(↑x.2.1.length:Int)=Tp.n x.1/\allQ x.2.1/\errR x.2.2.2.1=0/\(∀ (i:Int),i∈x.2.2.2.2->(0:Int)<=i/\i<Tp.n x.1)/\x.2.2.2.2.length<1099511627776) λn_9=>.all (λ(r:L8×Int)=>r=stpA n_9.2.2.1 (atT n_9.1 n_9.2.1 n_9.2.2.2.1 n_9.2.2.2.2)) λn_10=>.ex (q46 [.ptr 0 0,.fn 43 [] [],.str n_5.1,.str n_8.1] [.box [.i n_9.1.n,.sl n_9.1.ops.length 4 (opG n_9.1.ops),.sl n_9.2.1.length 1 (ratG n_9.2.1),.i n_10.2]]) λn_11=>.all (λ(r:L8×Int)=>r=stp n_11.2.2.1 (arR n_11.2.2.2.1) n_11.2.2.2.2.1 n_11.2.2.2.2.2) λn_12=>.ex (q46 [.ptr 0 0,.fn 43 [] [],.str n_12.1,.str n_10.1] [.box [.i n_11.1.n,.sl n_11.1.ops.length 4 (opG n_11.1.ops),.sl n_11.2.1.length 1 (ratG n_11.2.1),.i n_12.2]]) λn_13=>.all (λ(r:L8×Int)=>r=stp n_13.2.2.1 (arR n_13.2.2.2.1) n_13.2.2.2.2.1 n_13.2.2.2.2.2) λn_14=>.ex (q46 [.ptr 0 0,.fn 46 [] [],.str n_14.1,.str v] [.box [.i n_13.1.n,.sl n_13.1.ops.length 4 (opG n_13.1.ops),.sl n_13.2.1.length 1 (ratG n_13.2.1),.i n_14.2]]) λn_15=>.all (λ(r:L8×Int)=>r=stp n_15.2.2.1 (arR n_15.2.2.2.1) n_15.2.2.2.2.1 n_15.2.2.2.2.2) λn_16=>.ex (q46 v3 [.box [.i n_15.1.n,.sl n_15.1.ops.length 4 (opG n_15.1.ops),.sl n_15.2.1.length 1 (ratG n_15.2.1),.i n_16.2]]) λn_17=>.all (λ(r:L8×Int)=>r=stp n_17.2.2.1 (arR n_17.2.2.2.1) n_17.2.2.2.2.1 n_17.2.2.2.2.2) λn_18=>.R [.str n_16.1,.str n_18.1] [.box [.i n_17.1.n,.sl n_17.1.ops.length 4 (opG n_17.1.ops),.sl n_17.2.1.length 1 (ratG n_17.2.1),.i n_18.2],.box [.str h],.box v9,.box v10,Blk.arrI .i64 n_7.2.2.2.2.length (dgF n_7.2.2.2.2),Blk.arrI .i64 n.2.2.2.2.length (dgF n.2.2.2.2),Blk.arrI .i64 n_9.2.2.2.2.length (dgF n_9.2.2.2.2)])) (.ex (λ(x:Tp×List v4 ×Int×L8×List Int)=>eqL v5 [.ptr 0 0,.str x.2.2.2.1,.osl 1 1 0 x.2.2.2.2.length]/\eqH v1 [.box [.i x.1.n,.sl x.1.ops.length 4 (opG x.1.ops),.sl x.2.1.length 1 (ratG x.2.1),.i x.2.2.1],Blk.arrI .i64 x.2.2.2.2.length (dgF x.2.2.2.2)]/\2=2/\zh x.1=0/\(↑x.2.1.length:Int)=Tp.n x.1/\allQ x.2.1/\errR x.2.2.2.1=0/\(∀ (i:Int),i∈x.2.2.2.2->(0:Int)<=i/\i<Tp.n x.1)/\x.2.2.2.2.length<1099511627776) λn=>.all (λ(r:L8×Int)=>r=stpA n.2.2.1 (atT n.1 n.2.1 n.2.2.2.1 n.2.2.2.2)) λn_5=>.ex (λ(x:Tp×List v4 ×Int×L8×List Int)=>eqL v2 [.ptr 0 0,.str x.2.2.2.1,.osl 1 1 0 x.2.2.2.2.length]/\eqH [.box [.i n.1.n,.sl n.1.ops.length 4 (opG n.1.ops),.sl n.2.1.length 1 (ratG n.2.1),.i n_5.2],.arr 1 1 v8] [.box [.i x.1.n,.sl x.1.ops.length 4 (opG x.1.ops),.sl x.2.1.length 1 (ratG x.2.1),.i x.2.2.1],Blk.arrI .i64 x.2.2.2.2.length (dgF x.2.2.2.2)]/\2=2/\zh x.1=0/\(↑x.2.1.length:Int)=Tp.n x.1/\allQ x.2.1/\errR x.2.2.2.1=0/\(∀ (i:Int),i∈x.2.2.2.2->(0:Int)<=i/\i<Tp.n x.1)/\x.2.2.2.2.length<1099511627776) λn_6=>.all (λ(r:L8×Int)=>r=stpA n_6.2.2.1 (atT n_6.1 n_6.2.1 n_6.2.2.2.1 n_6.2.2.2.2)) λn_7=>.ex (λ(x:Tp×List v4 ×Int×L8×List Int)=>eqL v2 [.ptr 0 0,.str x.2.2.2.1,.osl 1 1 0 x.2.2.2.2.length]/\eqH [.box [.i n_6.1.n,.sl n_6.1.ops.length 4 (opG n_6.1.ops),.sl n_6.2.1.length 1 (ratG n_6.2.1),.i n_7.2],.arr 1 1 v7] [.box [.i x.1.n,.sl x.1.ops.length 4 (opG x.1.ops),.sl x.2.1.length 1 (ratG x.2.1),.i x.2.2.1],Blk.arrI .i64 x.2.2.2.2.length (dgF x.2.2.2.2)]/\2=2/\zh x.1=0/\(↑x.2.1.length:Int)=Tp.n x.1/\allQ x.2.1/\errR x.2.2.2.1=0/\(∀ (i:Int),i∈x.2.2.2.2->(0:Int)<=i/\i<Tp.n x.1)/\x.2.2.2.2.length<1099511627776) λn_8=>.all (λ(r:L8×Int)=>r=stpA n_8.2.2.1 (atT n_8.1 n_8.2.1 n_8.2.2.2.1 n_8.2.2.2.2)) λn_9=>.ex (q46 [.ptr 0 0,.fn 43 [] [],.str n_5.1,.str n_7.1] [.box [.i n_8.1.n,.sl n_8.1.ops.length 4 (opG n_8.1.ops),.sl n_8.2.1.length 1 (ratG n_8.2.1),.i n_9.2]]) λn_10=>.all (λ(r:L8×Int)=>r=stp n_10.2.2.1 (arR n_10.2.2.2.1) n_10.2.2.2.2.1 n_10.2.2.2.2.2) λn_11=>.ex (q46 [.ptr 0 0,.fn 43 [] [],.str n_11.1,.str n_9.1] [.box [.i n_10.1.n,.sl n_10.1.ops.length 4 (opG n_10.1.ops),.sl n_10.2.1.length 1 (ratG n_10.2.1),.i n_11.2]]) λn_12=>.all (λ(r:L8×Int)=>r=stp n_12.2.2.1 (arR n_12.2.2.2.1) n_12.2.2.2.2.1 n_12.2.2.2.2.2) λn_13=>.ex (q46 [.ptr 0 0,.fn 46 [] [],.str n_13.1,.str v] [.box [.i n_12.1.n,.sl n_12.1.ops.length 4 (opG n_12.1.ops),.sl n_12.2.1.length 1 (ratG n_12.2.1),.i n_13.2]]) λn_14=>.all (λ(r:L8×Int)=>r=stp n_14.2.2.1 (arR n_14.2.2.2.1) n_14.2.2.2.2.1 n_14.2.2.2.2.2) λn_15=>.ex (q46 v3 [.box [.i n_14.1.n,.sl n_14.1.ops.length 4 (opG n_14.1.ops),.sl n_14.2.1.length 1 (ratG n_14.2.1),.i n_15.2]]) λn_16=>.all (λ(r:L8×Int)=>r=stp n_16.2.2.1 (arR n_16.2.2.2.1) n_16.2.2.2.2.1 n_16.2.2.2.2.2) λn_17=>.R [.str n_15.1,.str n_17.1] [.box [.i n_16.1.n,.sl n_16.1.ops.length 4 (opG n_16.1.ops),.sl n_16.2.1.length 1 (ratG n_16.2.1),.i n_17.2],.box [.str h],.box v9,.box v10,Blk.arrI .i64 n_6.2.2.2.2.length (dgF n_6.2.2.2.2),Blk.arrI .i64 n.2.2.2.2.length (dgF n.2.2.2.2),Blk.arrI .i64 n_8.2.2.2.2.length (dgF n_8.2.2.2.2)])) (.ex (λ(x:Tp×List v4 ×Int×L8×List Int)=>eqL v5 [.ptr 0 0,.str x.2.2.2.1,.osl 1 1 0 x.2.2.2.2.length]/\eqH v1 [.box [.i x.1.n,.sl x.1.ops.length 4 (opG x.1.ops),.sl x.2.1.length 1 (ratG x.2.1),.i x.2.2.1],Blk.arrI .i64 x.2.2.2.2.length (dgF x.2.2.2.2)]/\2=2/\zh x.1=0/\(↑x.2.1.length:Int)=Tp.n x.1/\allQ x.2.1/\errR x.2.2.2.1=0/\(∀ (i:Int),i∈x.2.2.2.2->(0:Int)<=i/\i<Tp.n x.1)/\x.2.2.2.2.length<1099511627776) λn=>.all (λ(r:L8×Int)=>r=stpA n.2.2.1 (atT n.1 n.2.1 n.2.2.2.1 n.2.2.2.2)) λn_4=>.ex (λ(x:Tp×List v4 ×Int×L8×List Int)=>eqL v2 [.ptr 0 0,.str x.2.2.2.1,.osl 1 1 0 x.2.2.2.2.length]/\eqH [.box [.i n.1.n,.sl n.1.ops.length 4 (opG n.1.ops),.sl n.2.1.length 1 (ratG n.2.1),.i n_4.2],.arr 1 1 v8] [.box [.i x.1.n,.sl x.1.ops.length 4 (opG x.1.ops),.sl x.2.1.length 1 (ratG x.2.1),.i x.2.2.1],Blk.arrI .i64 x.2.2.2.2.length (dgF x.2.2.2.2)]/\2=2/\zh x.1=0/\(↑x.2.1.length:Int)=Tp.n x.1/\allQ x.2.1/\errR x.2.2.2.1=0/\(∀ (i:Int),i∈x.2.2.2.2->(0:Int)<=i/\i<Tp.n x.1)/\x.2.2.2.2.length<1099511627776) λn_5=>.all (λ(r:L8×Int)=>r=stpA n_5.2.2.1 (atT n_5.1 n_5.2.1 n_5.2.2.2.1 n_5.2.2.2.2)) λn_6=>.ex (λ(x:Tp×List v4 ×Int×L8×List Int)=>eqL v2 [.ptr 0 0,.str x.2.2.2.1,.osl 1 1 0 x.2.2.2.2.length]/\eqH [.box [.i n_5.1.n,.sl n_5.1.ops.length 4 (opG n_5.1.ops),.sl n_5.2.1.length 1 (ratG n_5.2.1),.i n_6.2],.arr 1 1 v7] [.box [.i x.1.n,.sl x.1.ops.length 4 (opG x.1.ops),.sl x.2.1.length 1 (ratG x.2.1),.i x.2.2.1],Blk.arrI .i64 x.2.2.2.2.length (dgF x.2.2.2.2)]/\2=2/\zh x.1=0/\(↑x.2.1.length:Int)=Tp.n x.1/\allQ x.2.1/\errR x.2.2.2.1=0/\(∀ (i:Int),i∈x.2.2.2.2->(0:Int)<=i/\i<Tp.n x.1)/\x.2.2.2.2.length<1099511627776) λn_7=>.all (λ(r:L8×Int)=>r=stpA n_7.2.2.1 (atT n_7.1 n_7.2.1 n_7.2.2.2.1 n_7.2.2.2.2)) λn_8=>.ex (q46 [.ptr 0 0,.fn 43 [] [],.str n_4.1,.str n_6.1] [.box [.i n_7.1.n,.sl n_7.1.ops.length 4 (opG n_7.1.ops),.sl n_7.2.1.length 1 (ratG n_7.2.1),.i n_8.2]]) λn_9=>.all (λ(r:L8×Int)=>r=stp n_9.2.2.1 (arR n_9.2.2.2.1) n_9.2.2.2.2.1 n_9.2.2.2.2.2) λn_10=>.ex (q46 [.ptr 0 0,.fn 43 [] [],.str n_10.1,.str n_8.1] [.box [.i n_9.1.n,.sl n_9.1.ops.length 4 (opG n_9.1.ops),.sl n_9.2.1.length 1 (ratG n_9.2.1),.i n_10.2]]) λn_11=>.all (λ(r:L8×Int)=>r=stp n_11.2.2.1 (arR n_11.2.2.2.1) n_11.2.2.2.2.1 n_11.2.2.2.2.2) λn_12=>.ex (q46 [.ptr 0 0,.fn 46 [] [],.str n_12.1,.str v] [.box [.i n_11.1.n,.sl n_11.1.ops.length 4 (opG n_11.1.ops),.sl n_11.2.1.length 1 (ratG n_11.2.1),.i n_12.2]]) λn_13=>.all (λ(r:L8×Int)=>r=stp n_13.2.2.1 (arR n_13.2.2.2.1) n_13.2.2.2.2.1 n_13.2.2.2.2.2) λn_14=>.ex (q46 v3 [.box [.i n_13.1.n,.sl n_13.1.ops.length 4 (opG n_13.1.ops),.sl n_13.2.1.length 1 (ratG n_13.2.1),.i n_14.2]]) λn_15=>.all (λ(r:L8×Int)=>r=stp n_15.2.2.1 (arR n_15.2.2.2.1) n_15.2.2.2.2.1 n_15.2.2.2.2.2) λn_16=>.R [.str n_14.1,.str n_16.1] [.box [.i n_15.1.n,.sl n_15.1.ops.length 4 (opG n_15.1.ops),.sl n_15.2.1.length 1 (ratG n_15.2.1),.i n_16.2],.box [.str h],.box v9,.box v10,Blk.arrI .i64 n_5.2.2.2.2.length (dgF n_5.2.2.2.2),Blk.arrI .i64 n_7.2.2.2.2.length (dgF n_7.2.2.2.2),Blk.arrI .i64 n.2.2.2.2.length (dgF n.2.2.2.2)])) (.all (λ(x:Bool)=>True) λn_3=>.ite n_3 (.all (λ(x:Bool)=>True) λn_4=>.ite n_4 (.ex (λ(x:Tp×List v4 ×Int×L8×List Int)=>eqL v5 [.ptr 0 0,.str x.2.2.2.1,.osl 1 1 0 x.2.2.2.2.length]/\eqH v1 [.box [.i x.1.n,.sl x.1.ops.length 4 (opG x.1.ops),.sl x.2.1.length 1 (ratG x.2.1),.i x.2.2.1],Blk.arrI .i64 x.2.2.2.2.length (dgF x.2.2.2.2)]/\2=2/\zh x.1=0/\(↑x.2.1.length:Int)=Tp.n x.1/\allQ x.2.1/\errR x.2.2.2.1=0/\(∀ (i:Int),i∈x.2.2.2.2->(0:Int)<=i/\i<Tp.n x.1)/\x.2.2.2.2.length<1099511627776) λn=>.all (λ(r:L8×Int)=>r=stpA n.2.2.1 (atT n.1 n.2.1 n.2.2.2.1 n.2.2.2.2)) λn_5=>.ex (λ(x:Tp×List v4 ×Int×L8×List Int)=>eqL v2 [.ptr 0 0,.str x.2.2.2.1,.osl 1 1 0 x.2.2.2.2.length]/\eqH [.box [.i n.1.n,.sl n.1.ops.length 4 (opG n.1.ops),.sl n.2.1.length 1 (ratG n.2.1),.i n_5.2],.arr 1 1 v8] [.box [.i x.1.n,.sl x.1.ops.length 4 (opG x.1.ops),.sl x.2.1.length 1 (ratG x.2.1),.i x.2.2.1],Blk.arrI .i64 x.2.2.2.2.length (dgF x.2.2.2.2)]/\2=2/\zh x.1=0/\(↑x.2.1.length:Int)=Tp.n x.1/\allQ x.2.1/\errR x.2.2.2.1=0/\(∀ (i:Int),i∈x.2.2.2.2->(0:Int)<=i/\i<Tp.n x.1)/\x.2.2.2.2.length<1099511627776) λn_6=>.all (λ(r:L8×Int)=>r=stpA n_6.2.2.1 (atT n_6.1 n_6.2.1 n_6.2.2.2.1 n_6.2.2.2.2)) λn_7=>.ex (λ(x:Tp×List v4 ×Int×L8×List Int)=>eqL v2 [.ptr 0 0,.str x.2.2.2.1,.osl 1 1 0 x.2.2.2.2.length]/\eqH [.box [.i n_6.1.n,.sl n_6.1.ops.length 4 (opG n_6.1.ops),.sl n_6.2.1.length 1 (ratG n_6.2.1),.i n_7.2],.arr 1 1 v7] [.box [.i x.1.n,.sl x.1.ops.length 4 (opG x.1.ops),.sl x.2.1.length 1 (ratG x.2.1),.i x.2.2.1],Blk.arrI .i64 x.2.2.2.2.length (dgF x.2.2.2.2)]/\2=2/\zh x.1=0/\(↑x.2.1.length:Int)=Tp.n x.1/\allQ x.2.1/\errR x.2.2.2.1=0/\(∀ (i:Int),i∈x.2.2.2.2->(0:Int)<=i/\i<Tp.n x.1)/\x.2.2.2.2.length<1099511627776) λn_8=>.all (λ(r:L8×Int)=>r=stpA n_8.2.2.1 (atT n_8.1 n_8.2.1 n_8.2.2.2.1 n_8.2.2.2.2)) λn_9=>.ex (q46 [.ptr 0 0,.fn 43 [] [],.str n_5.1,.str n_7.1] [.box [.i n_8.1.n,.sl n_8.1.ops.length 4 (opG n_8.1.ops),.sl n_8.2.1.length 1 (ratG n_8.2.1),.i n_9.2]]) λn_10=>.all (λ(r:L8×Int)=>r=stp n_10.2.2.1 (arR n_10.2.2.2.1) n_10.2.2.2.2.1 n_10.2.2.2.2.2) λn_11=>.ex (q46 [.ptr 0 0,.fn 43 [] [],.str n_11.1,.str n_9.1] [.box [.i n_10.1.n,.sl n_10.1.ops.length 4 (opG n_10.1.ops),.sl n_10.2.1.length 1 (ratG n_10.2.1),.i n_11.2]]) λn_12=>.all (λ(r:L8×Int)=>r=stp n_12.2.2.1 (arR n_12.2.2.2.1) n_12.2.2.2.2.1 n_12.2.2.2.2.2) λn_13=>.ex (q46 [.ptr 0 0,.fn 46 [] [],.str n_13.1,.str v] [.box [.i n_12.1.n,.sl n_12.1.ops.length 4 (opG n_12.1.ops),.sl n_12.2.1.length 1 (ratG n_12.2.1),.i n_13.2]]) λn_14=>.all (λ(r:L8×Int)=>r=stp n_14.2.2.1 (arR n_14.2.2.2.1) n_14.2.2.2.2.1 n_14.2.2.2.2.2) λn_15=>.ex (q46 v3 [.box [.i n_14.1.n,.sl n_14.1.ops.length 4 (opG n_14.1.ops),.sl n_14.2.1.length 1 (ratG n_14.2.1),.i n_15.2]]) λn_16=>.all (λ(r:L8×Int)=>r=stp n_16.2.2.1 (arR n_16.2.2.2.1) n_16.2.2.2.2.1 n_16.2.2.2.2.2) λn_17=>.R [.str n_15.1,.str n_17.1] [.box [.i n_16.1.n,.sl n_16.1.ops.length 4 (opG n_16.1.ops),.sl n_16.2.1.length 1 (ratG n_16.2.1),.i n_17.2],.box [.str h],.box v9,.box v10,Blk.arrI .i64 n_8.2.2.2.2.length (dgF n_8.2.2.2.2),Blk.arrI .i64 n.2.2.2.2.length (dgF n.2.2.2.2),Blk.arrI .i64 n_6.2.2.2.2.length (dgF n_6.2.2.2.2)]) (.ex (λ(x:Tp×List v4 ×Int×L8×List Int)=>eqL v5 [.ptr 0 0,.str x.2.2.2.1,.osl 1 1 0 x.2.2.2.2.length]/\eqH v1 [.box [.i x.1.n,.sl x.1.ops.length 4 (opG x.1.ops),.sl x.2.1.length 1 (ratG x.2.1),.i x.2.2.1],Blk.arrI .i64 x.2.2.2.2.length (dgF x.2.2.2.2)]/\2=2/\zh x.1=0/\(↑x.2.1.length:Int)=Tp.n x.1/\allQ x.2.1/\errR x.2.2.2.1=0/\(∀ (i:Int),i∈x.2.2.2.2->(0:Int)<=i/\i<Tp.n x.1)/\x.2.2.2.2.length<1099511627776) λn=>.all (λ(r:L8×Int)=>r=stpA n.2.2.1 (atT n.1 n.2.1 n.2.2.2.1 n.2.2.2.2)) λn_5=>.ex (λ(x:Tp×List v4 ×Int×L8×List Int)=>eqL v2 [.ptr 0 0,.str x.2.2.2.1,.osl 1 1 0 x.2.2.2.2.length]/\eqH [.box [.i n.1.n,.sl n.1.ops.length 4 (opG n.1.ops),.sl n.2.1.length 1 (ratG n.2.1),.i n_5.2],.arr 1 1 v8] [.box [.i x.1.n,.sl x.1.ops.length 4 (opG x.1.ops),.sl x.2.1.length 1 (ratG x.2.1),.i x.2.2.1],Blk.arrI .i64 x.2.2.2.2.length (dgF x.2.2.2.2)]/\2=2/\zh x.1=0/\(↑x.2.1.length:Int)=Tp.n x.1/\allQ x.2.1/\errR x.2.2.2.1=0/\(∀ (i:Int),i∈x.2.2.2.2->(0:Int)<=i/\i<Tp.n x.1)/\x.2.2.2.2.length<1099511627776) λn_6=>.all (λ(r:L8×Int)=>r=stpA n_6.2.2.1 (atT n_6.1 n_6.2.1 n_6.2.2.2.1 n_6.2.2.2.2)) λn_7=>.ex (λ(x:Tp×List v4 ×Int×L8×List Int)=>eqL v2 [.ptr 0 0,.str x.2.2.2.1,.osl 1 1 0 x.2.2.2.2.length]/\eqH [.box [.i n_6.1.n,.sl n_6.1.ops.length 4 (opG n_6.1.ops),.sl n_6.2.1.length 1 (ratG n_6.2.1),.i n_7.2],.arr 1 1 v7] [.box [.i x.1.n,.sl x.1.ops.length 4 (opG x.1.ops),.sl x.2.1.length 1 (ratG x.2.1),.i x.2.2.1],Blk.arrI .i64 x.2.2.2.2.length (dgF x.2.2.2.2)]/\2=2/\zh x.1=0/\(↑x.2.1.length:Int)=Tp.n x.1/\allQ x.2.1/\errR x.2.2.2.1=0/\(∀ (i:Int),i∈x.2.2.2.2->(0:Int)<=i/\i<Tp.n x.1)/\x.2.2.2.2.length<1099511627776) λn_8=>.all (λ(r:L8×Int)=>r=stpA n_8.2.2.1 (atT n_8.1 n_8.2.1 n_8.2.2.2.1 n_8.2.2.2.2)) λn_9=>.ex (q46 [.ptr 0 0,.fn 43 [] [],.str n_5.1,.str n_7.1] [.box [.i n_8.1.n,.sl n_8.1.ops.length 4 (opG n_8.1.ops),.sl n_8.2.1.length 1 (ratG n_8.2.1),.i n_9.2]]) λn_10=>.all (λ(r:L8×Int)=>r=stp n_10.2.2.1 (arR n_10.2.2.2.1) n_10.2.2.2.2.1 n_10.2.2.2.2.2) λn_11=>.ex (q46 [.ptr 0 0,.fn 43 [] [],.str n_11.1,.str n_9.1] [.box [.i n_10.1.n,.sl n_10.1.ops.length 4 (opG n_10.1.ops),.sl n_10.2.1.length 1 (ratG n_10.2.1),.i n_11.2]]) λn_12=>.all (λ(r:L8×Int)=>r=stp n_12.2.2.1 (arR n_12.2.2.2.1) n_12.2.2.2.2.1 n_12.2.2.2.2.2) λn_13=>.ex (q46 [.ptr 0 0,.fn 46 [] [],.str n_13.1,.str v] [.box [.i n_12.1.n,.sl n_12.1.ops.length 4 (opG n_12.1.ops),.sl n_12.2.1.length 1 (ratG n_12.2.1),.i n_13.2]]) λn_14=>.all (λ(r:L8×Int)=>r=stp n_14.2.2.1 (arR n_14.2.2.2.1) n_14.2.2.2.2.1 n_14.2.2.2.2.2) λn_15=>.ex (q46 v3 [.box [.i n_14.1.n,.sl n_14.1.ops.length 4 (opG n_14.1.ops),.sl n_14.2.1.length 1 (ratG n_14.2.1),.i n_15.2]]) λn_16=>.all (λ(r:L8×Int)=>r=stp n_16.2.2.1 (arR n_16.2.2.2.1) n_16.2.2.2.2.1 n_16.2.2.2.2.2) λn_17=>.R [.str n_15.1,.str n_17.1] [.box [.i n_16.1.n,.sl n_16.1.ops.length 4 (opG n_16.1.ops),.sl n_16.2.1.length 1 (ratG n_16.2.1),.i n_17.2],.box [.str h],.box v9,.box v10,Blk.arrI .i64 n_8.2.2.2.2.length (dgF n_8.2.2.2.2),Blk.arrI .i64 n.2.2.2.2.length (dgF n.2.2.2.2),Blk.arrI .i64 n_6.2.2.2.2.length (dgF n_6.2.2.2.2)])) (.ex (λ(x:Tp×List v4 ×Int×L8×List Int)=>eqL v5 [.ptr 0 0,.str x.2.2.2.1,.osl 1 1 0 x.2.2.2.2.length]/\eqH v1 [.box [.i x.1.n,.sl x.1.ops.length 4 (opG x.1.ops),.sl x.2.1.length 1 (ratG x.2.1),.i x.2.2.1],Blk.arrI .i64 x.2.2.2.2.length (dgF x.2.2.2.2)]/\2=2/\zh x.1=0/\(↑x.2.1.length:Int)=Tp.n x.1/\allQ x.2.1/\errR x.2.2.2.1=0/\(∀ (i:Int),i∈x.2.2.2.2->(0:Int)<=i/\i<Tp.n x.1)/\x.2.2.2.2.length<1099511627776) λn=>.all (λ(r:L8×Int)=>r=stpA n.2.2.1 (atT n.1 n.2.1 n.2.2.2.1 n.2.2.2.2)) λn_4=>.ex (λ(x:Tp×List v4 ×Int×L8×List Int)=>eqL v2 [.ptr 0 0,.str x.2.2.2.1,.osl 1 1 0 x.2.2.2.2.length]/\eqH [.box [.i n.1.n,.sl n.1.ops.length 4 (opG n.1.ops),.sl n.2.1.length 1 (ratG n.2.1),.i n_4.2],.arr 1 1 v8] [.box [.i x.1.n,.sl x.1.ops.length 4 (opG x.1.ops),.sl x.2.1.length 1 (ratG x.2.1),.i x.2.2.1],Blk.arrI .i64 x.2.2.2.2.length (dgF x.2.2.2.2)]/\2=2/\zh x.1=0/\(↑x.2.1.length:Int)=Tp.n x.1/\allQ x.2.1/\errR x.2.2.2.1=0/\(∀ (i:Int),i∈x.2.2.2.2->(0:Int)<=i/\i<Tp.n x.1)/\x.2.2.2.2.length<1099511627776) λn_5=>.all (λ(r:L8×Int)=>r=stpA n_5.2.2.1 (atT n_5.1 n_5.2.1 n_5.2.2.2.1 n_5.2.2.2.2)) λn_6=>.ex (λ(x:Tp×List v4 ×Int×L8×List Int)=>eqL v2 [.ptr 0 0,.str x.2.2.2.1,.osl 1 1 0 x.2.2.2.2.length]/\eqH [.box [.i n_5.1.n,.sl n_5.1.ops.length 4 (opG n_5.1.ops),.sl n_5.2.1.length 1 (ratG n_5.2.1),.i n_6.2],.arr 1 1 v7] [.box [.i x.1.n,.sl x.1.ops.length 4 (opG x.1.ops),.sl x.2.1.length 1 (ratG x.2.1),.i x.2.2.1],Blk.arrI .i64 x.2.2.2.2.length (dgF x.2.2.2.2)]/\2=2/\zh x.1=0/\(↑x.2.1.length:Int)=Tp.n x.1/\allQ x.2.1/\errR x.2.2.2.1=0/\(∀ (i:Int),i∈x.2.2.2.2->(0:Int)<=i/\i<Tp.n x.1)/\x.2.2.2.2.length<1099511627776) λn_7=>.all (λ(r:L8×Int)=>r=stpA n_7.2.2.1 (atT n_7.1 n_7.2.1 n_7.2.2.2.1 n_7.2.2.2.2)) λn_8=>.ex (q46 [.ptr 0 0,.fn 43 [] [],.str n_4.1,.str n_6.1] [.box [.i n_7.1.n,.sl n_7.1.ops.length 4 (opG n_7.1.ops),.sl n_7.2.1.length 1 (ratG n_7.2.1),.i n_8.2]]) λn_9=>.all (λ(r:L8×Int)=>r=stp n_9.2.2.1 (arR n_9.2.2.2.1) n_9.2.2.2.2.1 n_9.2.2.2.2.2) λn_10=>.ex (q46 [.ptr 0 0,.fn 43 [] [],.str n_10.1,.str n_8.1] [.box [.i n_9.1.n,.sl n_9.1.ops.length 4 (opG n_9.1.ops),.sl n_9.2.1.length 1 (ratG n_9.2.1),.i n_10.2]]) λn_11=>.all (λ(r:L8×Int)=>r=stp n_11.2.2.1 (arR n_11.2.2.2.1) n_11.2.2.2.2.1 n_11.2.2.2.2.2) λn_12=>.ex (q46 [.ptr 0 0,.fn 46 [] [],.str n_12.1,.str v] [.box [.i n_11.1.n,.sl n_11.1.ops.length 4 (opG n_11.1.ops),.sl n_11.2.1.length 1 (ratG n_11.2.1),.i n_12.2]]) λn_13=>.all (λ(r:L8×Int)=>r=stp n_13.2.2.1 (arR n_13.2.2.2.1) n_13.2.2.2.2.1 n_13.2.2.2.2.2) λn_14=>.ex (q46 v3 [.box [.i n_13.1.n,.sl n_13.1.ops.length 4 (opG n_13.1.ops),.sl n_13.2.1.length 1 (ratG n_13.2.1),.i n_14.2]]) λn_15=>.all (λ(r:L8×Int)=>r=stp n_15.2.2.1 (arR n_15.2.2.2.1) n_15.2.2.2.2.1 n_15.2.2.2.2.2) λn_16=>.R [.str n_14.1,.str n_16.1] [.box [.i n_15.1.n,.sl n_15.1.ops.length 4 (opG n_15.1.ops),.sl n_15.2.1.length 1 (ratG n_15.2.1),.i n_16.2],.box [.str h],.box v9,.box v10,Blk.arrI .i64 n_7.2.2.2.2.length (dgF n_7.2.2.2.2),Blk.arrI .i64 n_5.2.2.2.2.length (dgF n_5.2.2.2.2),Blk.arrI .i64 n.2.2.2.2.length (dgF n.2.2.2.2)])))) ?_;simp only [q46,Tree.holds,zd];obtain⟨v1,v2,v3,v4,v5⟩:=yZ hv0;rw [<- hv] at v4;have hl:=zV he0;have hlv:=zV v4;have hpl:∀ x∈[i,k],0<=x/\x<n:=by simp; omega
 have hpl1:∀ x∈[i],0<=x/\x<n:=by simp; omega
 have hpl2:∀ x∈[k],0<=x/\x<n:=by simp; omega
 repeat' (apply jc)
 all_goals (
  refine⟨(⟨n,ops⟩,inp,0,h,[i,k]),⟨by simp,by simp [za]; exact zf3,trivial,v1,v2,v3,he0,hpl,by simp⟩,⟨_,rfl⟩,?_⟩;intro a ha;replace ha:a=stpA 0 (atT ⟨n,ops⟩ inp h [i,k]):=ha;have ga:qZ a:=ha▸kg (ve he0 v1 v2 v3 hpl);have la:=qE ga)
 repeat' (apply jc)
 all_goals (
  refine⟨(⟨n,ops⟩,inp,a.2,h,[i]),⟨by simp,by simp [za]; exact WI,trivial,v1,v2,v3,he0,hpl1,by simp⟩,⟨_,rfl⟩,?_⟩;intro b hb;replace hb:b=stpA a.2 (atT ⟨n,ops⟩ inp h [i]):=hb;have gb:qZ b:=hb▸kg (ve he0 v1 v2 v3 hpl1);have lb:=qE gb)
 repeat' (apply jc)
 all_goals (
  refine⟨(⟨n,ops⟩,inp,b.2,h,[k]),⟨by simp,by simp [za]; exact WI,trivial,v1,v2,v3,he0,hpl2,by simp⟩,⟨_,rfl⟩,?_⟩;intro c hc;replace hc:c=stpA b.2 (atT ⟨n,ops⟩ inp h [k]):=hc;have gc:qZ c:=hc▸kg (ve he0 v1 v2 v3 hpl2);have lc:=qE gc)
 repeat' (apply jc)
 all_goals (
  refine⟨(⟨n,ops⟩,inp,c.2,4,a.1,b.1),⟨by simp [opN],by simp [za],trivial,.inr (.inl rfl),by show(a.1).length<_; omega,by show(b.1).length<_; omega⟩,⟨_,rfl⟩,?_⟩;intro d hd;replace hd:d=stp c.2 (arR 4) a.1 b.1:=hd;have gd:qZ d:=hd▸jo (λq=>⟨jM ga (uB (hb▸uB (hc▸q))),jM gb (uB (hc▸q))⟩);have ld:=qE gd)
 repeat' (apply jc)
 all_goals (
  refine⟨(⟨n,ops⟩,inp,d.2,4,d.1,c.1),⟨by simp [opN],by simp [za],trivial,.inr (.inl rfl),by show(d.1).length<_; omega,by show(c.1).length<_; omega⟩,⟨_,rfl⟩,?_⟩;intro s hs;replace hs:s=stp d.2 (arR 4) d.1 c.1:=hs;have gs:qZ s:=hs▸jo (λq=>⟨jM gd q,jM gc (zib (hd▸q))⟩);have ls:=qE gs)
 repeat' (apply jc)
 all_goals (
  refine⟨(⟨n,ops⟩,inp,s.2,3,s.1,v),⟨by simp [opN],by simp [za],trivial,.inl rfl,by show(s.1).length<_; omega,by show(v).length<_; omega⟩,⟨_,rfl⟩,?_⟩;intro t ht;replace ht:t=stp s.2 (arR 3) s.1 v:=ht;have gt:qZ t:=ht▸jo (λq=>⟨jM gs q,v4⟩);have lt:=qE gt)
 repeat' (apply jc)
 all_goals (
  refine⟨(⟨n,ops⟩,inp,t.2,5,h,h),⟨by simp [opN],by simp [za],trivial,.inr (.inr (.inl rfl)),by show(h).length<_; omega,by show(h).length<_; omega⟩,⟨_,rfl⟩,?_⟩;intro u hu;replace hu:u=stp t.2 (arR 5) h h:=hu;have gu:qZ u:=hu▸jo (λq=>⟨he0,he0⟩);have lu:=qE gu)
 repeat' (apply jc)
 all_goals (
  have ht2:t=croE ⟨n,ops⟩ inp i k h:=by
   rw [zjz] at ha;unfold croE croD croC croB croA;rw [<- hv,<- ha,<- hb,<- hc,<- arR4,<- hd,<- hs,<- arR3,<- ht]
  have hu2:u=croF ⟨n,ops⟩ inp i k h:=by
   unfold croF;rw [<- ht2,<- arR5,<- hu]
  have hq:=hq (t,u) (by rw [ht2,hu2]);exact RetR.keep [0,1,2,3] rfl (by simp) (by show ∀ j,j<4->_; decide) rfl hq (by simp [resV,exp2,exp1,exp0,ren0,eqA2,eqL1]) (by simp [expH,expB,exp1,exp0,ren0,HCr,HDf,opS,ratS,za]) rfl)
def HB3(h:L8)(i k:Int):Heap:=[.arrI .i64 2 (dgF [i,k]),.box [.str h],.box [.i i],.box [.i k]]
def Yx:Ctr:=ctrT false false (λp:Tp×List L8×L8×Int×Int=>[p.1.av,ratS p.2.1,.str p.2.2.1,.osl 0 1 0 2,.fn 47 [] [.ptr 1 0,.ptr 2 0,.ptr 3 0]])
 (λp=>HB3 p.2.2.1 p.2.2.2.1 p.2.2.2.2)
 (λp=>qi p.1/\ji p.2.1/\p.2.2.1.length<2^49) (λp r=>r=croT p.1 p.2.1 p.2.2.2.1 p.2.2.2.2 p.2.2.1)
 (λp (r:L8×Int)=>(.tup [.str r.1,.i r.2],HB3 p.2.2.1 p.2.2.2.1 p.2.2.2.2))
def SD3(inp:List L8)(h v:L8)(j:Nat):KV:=[(1,ratS inp),(2,.str h),(4,.fn 47 [] [.ptr 1 0,.ptr 2 0,.ptr 3 0]),(5,.ptr 4 0),(12,.str v),(30,.osl 0 1 0 2),(31,.i 2),(32,.i (j:Int))]
def HD3(n:Int)(ops:List TOp)(h:L8)(i k:Int):Heap:=[.arrI .i64 2 (dgF [i,k]),.box [.str h],.box [.i i],.box [.i k],.box [.i n,opS ops]]
noncomputable def GF3:=tb WE (tb Y9 (tb w8 (tb zgl (tb Zt tz))))
theorem zg1:zc prog 40 Yx:=by
 refine zC (fn:=f40) (c:=f40.body.getD .skip) rfl rfl rfl (λh=>by cases h) λp hp O w0 I0 Q hl0 hq=> ?_
 obtain⟨⟨n,ops⟩,inp,h,i,k⟩:=p;replace hq:=hq _ rfl;obtain⟨h1,h2,h3⟩:=hp;simp only at h1 h2 h3 hq;refine zb.n GF3.h [1,2,4,5,12,30,31,32] (let v1:List AV:=[.i n,.sl ops.length 4 (opG ops)];.ex (q45 [.agg [.i n,.sl ops.length 4 (opG ops)],.sl inp.length 1 (ratG inp)]) λn_1=>.all (λ(r:L8×Int)=>r=z5 n_1.1 n_1.2) λn_2=>.N (n_2.2=0) (.R [.str #[].toList,.i n_2.2] [Blk.arrI .i64 2 (dgF [i,k]),.box [.str h],.box [.i i],.box [.i k],.box v1]) (.leaf (.loop (lps K40 0).1 (lps K40 0).2 [(1,.sl inp.length 1 (ratG inp)),(2,.str h),(4,.fn 47 [] [.ptr 1 0,.ptr 2 0,.ptr 3 0]),(5,.ptr 4 0),(12,.str n_2.1),(30,.osl 0 1 0 2),(31,.i 2),(32,.i 0)] [Blk.arrI .i64 2 (dgF [i,k]),.box [.str h],.box [.i i],.box [.i k],.box v1]))) ?_;simp only [q45,Tree.holds,zd];generalize hF:croT ⟨n,ops⟩ inp i k h=F at hq
 have fin:∀ (r:L8×Int) (b:Heap),F=r->RetR Yx 4 Q [.str r.1,.i r.2] ([.arrI .i64 2 (dgF [i,k]),.box [.str h],.box [.i i],.box [.i k]]++b):=by
  intro r b hr;rw [hr] at hq;exact RetR.keep [0,1,2,3] rfl (by simp) (by show ∀ j,j<4->_; decide) rfl hq (by simp [resV,exp2,exp1,exp0,ren0,eqA2,eqL1]) (by simp [expH,expB,exp1,exp0,ren0,HB3,za]) rfl
 have bad:∀ (e:Int) (b:Heap),begT ⟨n,ops⟩ inp [i,k] h=e->e≠0->RetR Yx 4 Q [.str [],.i e] ([.arrI .i64 2 (dgF [i,k]),.box [.str h],.box [.i i],.box [.i k]]++b):=by
  intro e b he he0;refine fin ([],e) b ?_;rw [<- hF];unfold croT;rw [he,aP he0]
 refine⟨(⟨n,ops⟩,inp),⟨by simp [za],h1,h2⟩,⟨_,rfl⟩,?_⟩;intro v hv;replace hv:v=z5 ⟨n,ops⟩ inp:=hv;refine⟨λg=> ?_,λg=> ?_⟩
 ·have g:v.2≠0:=by simpa using g
  exact bad _ [_] (by unfold begT; rw [<- hv,aP g]) g
 have g:v.2=0:=by simpa using g
 have hbeg:begT ⟨n,ops⟩ inp [i,k] h=if jl ⟨n,ops⟩ [i,k] then(if errR h≠0 then errR h else if h=[48] then 16 else 0) else 2:=by
  unfold begT; rw [<- hv,aO (λk=>k g)]
 refine zb.loop (ι:={j:Nat // j<=2/\∀ m,m<j->0<=dgF [i,k] m/\dgF [i,k] m<n}) (λj=>SD3 inp h v.1 j.1) (λ_=>HD3 n ops h i k) (λj=>2 - j.1) ⟨0,aI _,λj q=>absurd q (Nat.not_lt_zero j)⟩ 0 ?_ ?_ (by kernel_rfl)
 ·exact⟨by simp [SD3,ratS,za],by simp [HD3,opS,za],by kernel_rfl,by show 4<=4+1; decide⟩
 rintro⟨j,hj,hjp⟩;refine zb.n GF3.h [1,2,4,5,12,30,31,32] (let v1:List AV:=[.i n,.sl ops.length 4 (opG ops)];.D ((j:Int)<2) (.side ((0:Int)<=j/\(j:Int)<2) (.ite (!bif decide ((0:Int)<=dgF [i,k] (0+Int.toNat j)) then decide (dgF [i,k] (0+Int.toNat j)<n) else false) (.R [.str #[].toList,.i 2] [Blk.arrI .i64 2 (dgF [i,k]),.box [.str h],.box [.i i],.box [.i k],.box v1]) (.S (j+1) (.leaf (.back 0 [(1,.sl inp.length 1 (ratG inp)),(2,.str h),(4,.fn 47 [] [.ptr 1 0,.ptr 2 0,.ptr 3 0]),(5,.ptr 4 0),(12,.str v.1),(30,.osl 0 1 0 2),(31,.i 2),(32,.i (j+1))] [Blk.arrI .i64 2 (dgF [i,k]),.box [.str h],.box [.i i],.box [.i k],.box v1]))))) (.ex (q15 [.str h]) λn_1=>.all (λ(r:Int)=>r=errR n_1) λn_2=>.N (n_2=0) (.R [.str #[].toList,.i n_2] [Blk.arrI .i64 2 (dgF [i,k]),.box [.str h],.box [.i i],.box [.i k],.box v1]) (.D (h=#[(48:UInt8)].toList) (.R [.str #[].toList,.i 16] [Blk.arrI .i64 2 (dgF [i,k]),.box [.str h],.box [.i i],.box [.i k],.box v1]) (.ex (λ(x:XCr)=>eqL [.ptr 0 0,.str v.1,.ptr 1 0,.ptr 2 0,.ptr 3 0] [.ptr 0 0,.str x.v,.ptr 1 0,.ptr 2 0,.ptr 3 0]/\eqH [.box [.i n,.sl ops.length 4 (opG ops),.sl inp.length 1 (ratG inp),.i 0],.box [.str h],.box [.i i],.box [.i k]] [.box [.i x.t.n,.sl (List.length x.t.ops) 4 (opG x.t.ops),.sl x.inp.length 1 (ratG x.inp),.i 0],.box [.str x.h],.box [.i x.i],.box [.i x.k]]/\4=4/\XCr.v x=Prod.fst (z5 x.t x.inp)/\Prod.snd (z5 x.t x.inp)=(0:Int)/\errR x.h=(0:Int)/\(0:Int)<=XCr.i x/\XCr.i x<Tp.n x.t/\(0:Int)<=XCr.k x/\XCr.k x<Tp.n x.t) λn_3=>let v3:=XCr.inp n_3;.all (λ(r:(L8×Int)×L8×Int)=>r=(croE n_3.t v3 n_3.i n_3.k n_3.h,croF n_3.t v3 n_3.i n_3.k n_3.h)) λn_4=>.ex (q46 [.ptr 0 0,.fn 76 [] [],.str n_4.1.1,.str n_4.2.1] [.box [.i n_3.t.n,.sl (List.length n_3.t.ops) 4 (opG n_3.t.ops),.sl v3.length 1 (ratG v3),.i n_4.2.2]]) λn_5=>.all (λ(r:L8×Int)=>r=stp n_5.2.2.1 (arR n_5.2.2.2.1) n_5.2.2.2.2.1 n_5.2.2.2.2.2) λn_6=>let v2:List AV:=[.i n_5.1.n,.sl n_5.1.ops.length 4 (opG n_5.1.ops),.sl n_5.2.1.length 1 (ratG n_5.2.1),.i n_6.2];.N (n_6.2=0) (.R [.str #[].toList,.i n_6.2] [Blk.arrI .i64 2 (dgF [i,k]),.box [.str n_3.h],.box [.i n_3.i],.box [.i n_3.k],.box v1,.box v2]) (.R [.str n_6.1,.i 0] [Blk.arrI .i64 2 (dgF [i,k]),.box [.str n_3.h],.box [.i n_3.i],.box [.i n_3.k],.box v1,.box v2]))))) ?_;simp only [q15,q46,Tree.holds,zd,inR,lo,hi,aD,Nat.zero_add];refine⟨λhlt=> ?_,λhge=> ?_⟩
 ·have hlt:j<2:=by have:=aB hlt; omega
  refine⟨by omega,λ_=>⟨λg2=> ?_,λg2=>⟨by omega,λ_=> ?_⟩⟩⟩
  ·refine bad 2 [_] ?_ (by decide);rw [hbeg,aO];intro g3;have g3:=Ze.1 g3 j hlt;rw [aX g3.1,aX g3.2] at g2;cases g2
  ·rw [aP trivial];have g3:0<=dgF [i,k] j/\dgF [i,k] j<n:=zj1 g2;refine⟨⟨j+1,hlt,λm hm=> ?_⟩,by show 2 - (j+1)<2 - j; omega,by simp [SD3,ratS,za],by simp [HD3,opS,za],by kernel_rfl,by show 4<=4+1; decide⟩;rcases aR m j with q | q
   ·exact hjp m q
   ·exact(show m=j by omega)▸g3
 have hj1:j=2:=by have:=aC hge; omega
 subst hj1;have hplB:jl ⟨n,ops⟩ [i,k]=true:=Ze.2 hjp;have hpl:=KL hplB;rw [aP hplB] at hbeg;refine⟨h,⟨by simp,by omega⟩,⟨_,rfl⟩,?_⟩;intro e he;replace he:e=errR h:=he;rw [<- he] at hbeg;refine⟨λg2=> ?_,λg2=> ?_⟩
 ·have g2:e≠0:=by simpa using g2
  exact bad _ [_] (by rw [hbeg,aP g2]) g2
 have g2:e=0:=by simpa using g2
 rw [aO (λq=>q g2)] at hbeg;refine⟨λg4=> ?_,λg4=> ?_⟩
 ·exact bad _ [_] (by rw [hbeg,aP (aB g4)]) (by decide)
 rw [aO (aC g4)] at hbeg;obtain⟨v1,v2,v3,v4,v5⟩:=yZ (hv▸g);have v4':=v4;rw [<- hv] at v4;have he0:errR h=0:=he▸g2;have hl:=zV he0;have hlv:=zV v4;refine⟨⟨⟨n,ops⟩,inp,h,i,k,v.1⟩,⟨by simp,by simp [HCr,HDf,opS,ratS,za],trivial,by rw [hv],hv▸g,he0,(hpl i (by simp)).1,(hpl i (by simp)).2,(hpl k (by simp)).1,(hpl k (by simp)).2⟩,⟨_,rfl⟩,?_⟩;intro r hr;replace hr:r=(croE ⟨n,ops⟩ inp i k h,croF ⟨n,ops⟩ inp i k h):=hr;obtain⟨hr1,hr2⟩:=zfs he0 v1 v2 v3 v4' (hpl i (by simp)) (hpl k (by simp));have hr1:=qE hr1;have hr2:=qE hr2;rw [<- show r.1=croE ⟨n,ops⟩ inp i k h by rw [hr]] at hr1;rw [<- show r.2=croF ⟨n,ops⟩ inp i k h by rw [hr]] at hr2;refine⟨(⟨n,ops⟩,inp,r.2.2,6,r.1.1,r.2.1),⟨by simp [opN],by simp [za],trivial,.inr (.inr (.inr rfl)),by show(r.1.1).length<_; omega,by show(r.2.1).length<_; omega⟩,⟨_,rfl⟩,?_⟩;intro w hw;replace hw:w=stp r.2.2 (arR 6) r.1.1 r.2.1:=hw
 have hFw:F=endR w:=by
  rw [<- hF];unfold croT;rw [hr] at hw;rw [aO (λq=>q hbeg),<- arR6,<- hw]
 unfold endR at hFw;refine⟨λg5=> ?_,λg5=> ?_⟩
 ·have g5:w.2≠0:=by simpa using g5
  rw [aP g5] at hFw;exact fin ([],w.2) _ hFw
 ·have g5:w.2=0:=by simpa using g5
  rw [aO (λq=>q g5)] at hFw;exact fin (w.1,0) _ hFw
def croC:Ctr:=ctrP true (λp:Tp×List L8×Int×Int×L8=>[p.1.av,ratS p.2.1,.i p.2.2.1,.i p.2.2.2.1,.str p.2.2.2.2])
 (λp=>qi p.1/\ji p.2.1/\p.2.2.2.2.length<2^49) (λp r=>r=croT p.1 p.2.1 p.2.2.1 p.2.2.2.1 p.2.2.2.2)
 (λp (r:L8×Int)=>(.tup [.str r.1,.i r.2],[]))
noncomputable def GG3:=tb zg1 tz
theorem zjb:zc prog 24 croC:=by
 refine zg' f24 λp hp O w0 Q hq=> ?_
 obtain⟨⟨n,ops⟩,inp,i,k,h⟩:=p;replace hq:=hq _ rfl;simp only at hp hq;refine zb.n GG3.h [] (let v1:=[AV.ptr 1 0,AV.ptr 2 0,AV.ptr 3 0];.ex (λ(x:Tp×List L8×L8×Int×Int)=>eqL [.agg [.i n,.sl ops.length 4 (opG ops)],.sl inp.length 1 (ratG inp),.str h,.osl 0 1 0 2,.fn 47 [] v1] [.agg [.i x.1.n,.sl x.1.ops.length 4 (opG x.1.ops)],.sl x.2.1.length 1 (ratG x.2.1),.str x.2.2.1,.osl 0 1 0 2,.fn 47 [] v1]/\eqH [.arr 2 1 (ze 1 [.i i,.i k]),.box [.str h],.box [.i i],.box [.i k]] [Blk.arrI .i64 2 (dgF [x.2.2.2.1,x.2.2.2.2]),.box [.str x.2.2.1],.box [.i x.2.2.2.1],.box [.i x.2.2.2.2]]/\4=4/\qi x.1/\ji x.2.1/\x.2.2.1.length<562949953421312) λn_1=>.all (λ(r:L8×Int)=>r=croT n_1.1 n_1.2.1 n_1.2.2.2.1 n_1.2.2.2.2 n_1.2.2.1) λn_2=>.R [.str n_2.1,.i n_2.2] [.box [.i n,.sl ops.length 4 (opG ops)],.box [.i n_1.2.2.2.1],.box [.i n_1.2.2.2.2],.box [.str n_1.2.2.1],Blk.arrI .i64 2 (dgF [n_1.2.2.2.1,n_1.2.2.2.2])]) ?_;simp only [Tree.holds,zd];refine⟨(⟨n,ops⟩,inp,h,i,k),⟨by simp [za],by simp [HB3]; exact zf3,by simp [HB3],hp⟩,⟨_,rfl⟩,?_⟩;rintro _ rfl;exact RetR.scal hq rfl (by simp [resV])
noncomputable def zic:Ctr:=inlC prog noG 100 f32
theorem zh9:zc prog 32 zic:=xu hmix z6 rfl rfl
noncomputable def isI:Ctr:=inlC prog noG 100 f21
theorem zim:zc prog 21 isI:=xu hmix z6 rfl rfl
def kq:Tp:=⟨2,[⟨1,0,0,[]⟩,⟨1,1,0,[]⟩,⟨5,0,1,[]⟩]⟩
theorem al1:qq kq [[51],[53]] 0 [49,47,50]=([53],0):=by decide +kernel
theorem al2:qq kq [[51],[53]] 1 [49,47,50]=([51],0):=by decide +kernel
theorem al3:croT kq [[51],[53]] 0 1 [49,47,50]=([49],0):=by decide +kernel
theorem al4:degT kq 0=(1,0):=by decide +kernel
theorem al5:degT kq 1=(1,0):=by decide +kernel
theorem zkb:eqG 3 4 (zf (ze 4 [.int .u8 1,.i 0,.i 0,.str [],.int .u8 1,.i 1,.i 0,.str [],.int .u8 5,.i 0,.i 1,.str []]) 0) (opG kq.ops):=by
 intro j o hj ho;rcases(show j=0\/j=1\/j=2 by omega) with rfl | rfl | rfl<;>rcases(show o=0\/o=1\/o=2\/o=3 by omega) with rfl | rfl | rfl | rfl<;>rfl
theorem QN:qi kq:=by
 refine⟨by decide,λj hj=> ?_⟩;have hj:j<3:=hj;rcases(show j=0\/j=1\/j=2 by omega) with rfl | rfl | rfl<;>(show([]:L8).length<2^60; decide)
def inR2:List (L8):=[[51],[53]]
theorem in_G:eqG 2 1 (zf (ze 1 [.str [51],.str [53]]) 0) (ratG inR2):=by
 intro j o hj ho;obtain rfl:o=0:=by omega
 rcases(show j=0\/j=1 by omega) with rfl | rfl<;>rfl
theorem in_s:ji inR2:=by
 refine⟨by decide,λj hj=> ?_⟩;have hj:j<2:=hj;rcases(show j=0\/j=1 by omega) with rfl | rfl<;>(show([0]:L8).length<2^60; decide)
def zch:Ctr:=ctrP true (λ_:Unit=>[]) (λ_=>True) (λ_ r=>r=true) (λ_ (r:Bool)=>(.bool r,[]))
noncomputable def GA1:=tb zh9 (tb zgk (tb zjb (tb zhy (tb zim tz))))
abbrev q48(A:List AV)(x:Tp×Int):Prop:=eqL A [.agg [.i x.1.n,.sl x.1.ops.length 4 (opG x.1.ops)],.i x.2]/\qi x.1
abbrev q47(A:List AV)(x:Tp×List L8×Int×L8):Prop:=eqL A [.agg [.i x.1.n,.sl x.1.ops.length 4 (opG x.1.ops)],.sl x.2.1.length 1 (ratG x.2.1),.i x.2.2.1,.str x.2.2.2]/\qi x.1/\ji x.2.1/\x.2.2.2.length<562949953421312
theorem zcl:zc prog 16 zch:=by
 refine zg' f16 λp hp O w0 Q hq=> ?_
 replace hq:=hq _ rfl;refine zb.n GA1.h [] (let v3:=zf (ze 1 [.str #[(51:UInt8)].toList,.str #[(53:UInt8)].toList]) 0;let v2:=ze 4 [.int .u8 1,.i 0,.i 0,.str #[].toList,.int .u8 1,.i 1,.i 0,.str #[].toList,.int .u8 5,.i 0,.i 1,.str #[].toList];let v1:=[AV.i 2,AV.sl 3 4 (zf (ze 4 [.int .u8 1,.i 0,.i 0,.str #[].toList,.int .u8 1,.i 1,.i 0,.str #[].toList,.int .u8 5,.i 0,.i 1,.str #[].toList]) 0)];.ex (q47 [.agg v1,.sl 2 1 v3,.i 0,.str #[(49:UInt8),(47:UInt8),(50:UInt8)].toList]) λn=>.all (λ(r:L8×Int)=>r=qq n.1 n.2.1 n.2.2.1 n.2.2.2) λn=>.ex (q47 [.agg v1,.sl 2 1 v3,.i 1,.str #[(49:UInt8),(47:UInt8),(50:UInt8)].toList]) λn_1=>.all (λ(r:L8×Int)=>r=qq n_1.1 n_1.2.1 n_1.2.2.1 n_1.2.2.2) λn_2=>.ex (λ(x:Tp×List L8×Int×Int×L8)=>eqL [.agg v1,.sl 2 1 v3,.i 0,.i 1,.str #[(49:UInt8),(47:UInt8),(50:UInt8)].toList] [.agg [.i x.1.n,.sl x.1.ops.length 4 (opG x.1.ops)],.sl x.2.1.length 1 (ratG x.2.1),.i x.2.2.1,.i x.2.2.2.1,.str x.2.2.2.2]/\qi x.1/\ji x.2.1/\x.2.2.2.2.length<562949953421312) λn_3=>.all (λ(r:L8×Int)=>r=croT n_3.1 n_3.2.1 n_3.2.2.1 n_3.2.2.2.1 n_3.2.2.2.2) λn_4=>.ex (q48 [.agg v1,.i 0]) λn_5=>.all (λ(r:Int×Int)=>r=degT n_5.1 n_5.2) λn_6=>.ex (q48 [.agg v1,.i 1]) λn_7=>.all (λ(r:Int×Int)=>r=degT n_7.1 n_7.2) λn_8=>.R [.bool (bif bif bif bif bif bif bif decide (n.2=0) then decide (n.1=#[(53:UInt8)].toList) else false then bif decide (n_2.2=0) then decide (n_2.1=#[(51:UInt8)].toList) else false else false then bif decide (n_4.2=0) then decide (n_4.1=#[(49:UInt8)].toList) else false else false then decide (n_6.2=0) else false then decide (n_6.1=1) else false then decide (n_8.2=0) else false then decide (n_8.1=1) else false)] [.arr 2 1 (ze 1 [.str #[(51:UInt8)].toList,.str #[(53:UInt8)].toList]),.box [.i 2,.osl 2 4 0 3],.arr 3 4 v2,.box [.i 2,.osl 4 4 0 3],.arr 3 4 v2,.box [.i 2,.osl 6 4 0 3],.arr 3 4 v2,.box [.i 2,.osl 8 4 0 3],.arr 3 4 v2,.box [.i 2,.osl 10 4 0 3],.arr 3 4 v2]) ?_;simp only [q47,q48,Tree.holds,zd];have e1:eqL [.agg [.i 2,.sl 3 4 (zf (ze 4 [.int .u8 1,.i 0,.i 0,.str [],.int .u8 1,.i 1,.i 0,.str [],.int .u8 5,.i 0,.i 1,.str []]) 0)]] [kq.av]:=⟨⟨⟨rfl,rfl⟩,⟨rfl,rfl,zkb⟩,trivial⟩,trivial⟩;refine⟨(kq,inR2,0,[49,47,50]),⟨⟨e1.1,⟨rfl,rfl,in_G⟩,⟨rfl,rfl⟩,rfl,trivial⟩,QN,in_s,by decide⟩,⟨_,rfl⟩,?_⟩;intro r1 g1;refine⟨(kq,inR2,1,[49,47,50]),⟨⟨e1.1,⟨rfl,rfl,in_G⟩,⟨rfl,rfl⟩,rfl,trivial⟩,QN,in_s,by decide⟩,⟨_,rfl⟩,?_⟩;intro r2 g2;refine⟨(kq,inR2,0,1,[49,47,50]),⟨⟨e1.1,⟨rfl,rfl,in_G⟩,⟨rfl,rfl⟩,⟨rfl,rfl⟩,rfl,trivial⟩,QN,in_s,by decide⟩,⟨_,rfl⟩,?_⟩;intro r3 g3;refine⟨(kq,0),⟨⟨e1.1,⟨rfl,rfl⟩,trivial⟩,QN⟩,⟨_,rfl⟩,?_⟩;intro r4 g4;refine⟨(kq,1),⟨⟨e1.1,⟨rfl,rfl⟩,trivial⟩,QN⟩,⟨_,rfl⟩,?_⟩;intro r5 g5;replace g1:r1=([53],0):=g1.trans al1;replace g2:r2=([51],0):=g2.trans al2;replace g3:r3=([49],0):=g3.trans al3;replace g4:r4=(1,0):=g4.trans al4;replace g5:r5=(1,0):=g5.trans al5;subst g1 g2 g3 g4 g5;exact RetR.scal hq rfl (by simp [resV])
end Go.Proofs.Tryz
end
section
namespace Go.Nov
open Go.Sx
theorem U2{t:Tp}(h:zh t=0){j:Nat}(hj:j<t.ops.length):(t.ops.getD j TOp.nil).rat.length<2^39:=by
 obtain⟨-,-,-,-,h⟩:=qF.1 h;unfold wS at h;have h:=bG.1 h j (List.mem_range.2 hj);unfold okOp at h;split at h
 ·simp only [bA,aK] at h;rw [h.2]; decide
 ·split at h
  ·simp only [bA,aK] at h;have:=zV h.1.1;omega
  ·split at h
   ·simp only [bA,aK] at h;rw [h.2]; decide
   ·cases h
theorem zgh{f:List Fx}(hf:f.all okF=true){n:L8}{d:Int}{v:L8}(h:qk f n d=(v,true)):v.length<2^39:=by
 unfold qk at h;split at h
 ·rename_i z hz;have:=bG.1 hf z (List.mem_of_find?_eq_some hz);unfold okF at this;simp only [bA,aK] at this;have h2:=zV this.2;have:z.value=v:=congrArg Prod.fst h;rw [<- this]; omega
 ·exact absurd (congrArg Prod.snd h) (by simp)
theorem zgp{x:Ex}{day:Int}{f:List Fx}{c:List Ch}(h:(zW x day f c).2=0):recV x day f c=(recS f day x,0)/\zW x day f c=((x.ev f day).v,0)/\zh (recT f day x)=0/\(recS f day x).ops.length<=500/\(recS f day x).inp.length<=500/\InvR f (recS f day x)/\z5 (recT f day x) ((recS f day x).inp.map Fx.value)=((x.ev f day).v,0)/\(∀ j,j<(recS f day x).ops.length->((recS f day x).ops.getD j TOp.nil).rat.length<2^39)/\∀ j,j<(recS f day x).inp.length->((recS f day x).inp.getD j Fx.nil).value.length<2^39:=by
 obtain⟨⟨g1,g2,g3,g4⟩,g5,g6⟩:=Jt h;have hf:f.all okF=true:=(uS.1 g5).2.1;obtain⟨a1,a2,a3,a4,a5⟩:=zkc hf g3 g1 g2;refine⟨by unfold recV; rw [aP h],KB g1 g3 g4 g5 g6 g2,a1,a2,a3,a4,a5,λj hj=>U2 a1 hj,λj hj=> ?_⟩;exact zgh hf (a4.2 j hj)
theorem zgv{x:Ex}{day:Int}{f:List Fx}{c:List Ch}(h:¬ (zW x day f c).2=0):recV x day f c=(⟨[],[]⟩,(zW x day f c).2):=by unfold recV; rw [aO h]
end Go.Nov
end
section
set_option maxRecDepth 100000
open Go Go.Sx Go.Proofs Go.Nov
namespace Go.Proofs.Tryz
attribute [local simp] eqKV eqA eqA0 eqH eqB eqL eqL0
noncomputable def K4:=Go.Sx.aA f4
def zjd:Ctr:=ctrP true (λp:Ex×Int×(List Fx×List Ch)=>[p.1.exA,.i p.2.1,envA p.2.2.1 p.2.2.2]) (λp=>p.1.thin/\inR .i64 p.2.1/\zi7 p.2.2) (λ_ r=>r=true) (λ_ (r:Bool)=>(.bool r,[]))
def SLr(s:RS)(w:L8)(i:Nat):KV:=[(5,.ptr 1 0),(7,.bool true),(8,.ptr 2 0),(9,fxS s.inp),(11,.str w),(12,.i 0),(13,.osl 3 1 0 i),(14,.i (i:Int)),Z 15,Z 17,Z 89,Z 90,Z 91,Z 92,Z 93,Z 94,Z 95,Z 114,Z 115,Z 116,Z 117,Z 118,Z 119,Z 120,Z 121,Z 122,Z 123,Z 124,Z 138,Z 139,Z 142,Z 143,Z 144,Z 147,Z 148,Z 149,Z 150,Z 151,Z 154,Z 155,Z 156,Z 157]
def HLr(x:Ex)(f:List Fx)(c:List Ch)(s:RS)(i:Nat):Heap:=[.box [.int .u8 x.kind,.str x.rat,.str x.name,.i x.date,.sl x.sub.length 5 (Ex.exG x.sub)],.box [.sl f.length 3 (fxG f),.sl c.length 4 (chG c)],.box [.i s.inp.length,.sl s.ops.length 4 (opG s.ops)],.arr i 1 (ratG ((s.inp.take i).map Fx.value))]
def SLq(s:RS)(w:L8)(i k:Nat):KV:=[(5,.ptr 1 0),(7,.bool true),(8,.ptr 2 0),(9,fxS s.inp),(11,.str w),(12,.i 0),(13,.osl 3 1 0 i),(14,.i (i:Int)),(15,.str (s.inp.getD i Fx.nil).value),(17,.i (k:Int)),Z 89,Z 90,Z 91,Z 92,Z 93,Z 94,Z 95,Z 114,Z 115,Z 116,Z 117,Z 118,Z 119,Z 120,Z 121,Z 122,Z 123,Z 124,Z 138,Z 139,Z 142,Z 143,Z 144,Z 147,Z 148,Z 149,Z 150,Z 151,Z 154,Z 155,Z 156,Z 157]
noncomputable def GTr:=tb zcl (tb U7 (tb zdk (tb U3 (tb ZE (tb zdi (tb W5 (tb WE (tb uy (tb zim tz)))))))))
theorem zdp:zc prog 4 zjd:=by
 refine zg' f4 λp hp O w0 Q hq=> ?_
 obtain⟨x,day,f,c⟩:=p;obtain⟨hx,_,he⟩:=hp;replace hq:=hq _ rfl;simp only at hx he hq;refine zb.n GTr.h [5,7,8,9,11,12,13,14,15,17,89,90,91,92,93,94,95,114,115,116,117,118,119,120,121,122,123,124,138,139,142,143,144,147,148,149,150,151,154,155,156,157] (let v6:List AV:=[.sl f.length 3 (fxG f),.sl c.length 4 (chG c)];let v4:List AV:=[.int .u8 x.kind,.str x.rat,.str x.name,.i x.date,.sl x.sub.length 5 (Ex.exG x.sub)];let v3:=[AV.sl f.length 3 (fxG f),AV.sl c.length 4 (chG c)];let v2:=[AV.int .u8 x.kind,AV.str x.rat,AV.str x.name,AV.i x.date,AV.sl x.sub.length 5 (Ex.exG x.sub)];let v5:=q42 [.agg v2,.i day,.agg v3];.ex (λ(x:Unit)=>eqL [] []/\True) λn=>.all (λ(r:Bool)=>r=true) λn=>.ex (λ(x_1:Ex)=>eqL [.agg v2] [.agg [.int .u8 x_1.kind,.str x_1.rat,.str x_1.name,.i x_1.date,.sl x_1.sub.length 5 (Ex.exG x_1.sub)]]/\Ex.thin x_1) λn_1=>.all (λ(r:Bool)=>r=false->Ex.size n_1<=600/\Ex.zA n_1<=3000) λn_2=>.ex (λ(x:List Fx×List Ch)=>n_2=false->eqL [.agg v3] [.agg [.sl x.1.length 3 (fxG x.1),.sl x.2.length 4 (chG x.2)]]/\x.1.length<1152921504606846976/\x.2.length<1152921504606846976/\(∀ (j:Nat),j<x.1.length->zbt (List.getD x.1 j Fx.nil))/\∀ (j:Nat),j<x.2.length->Y0 (List.getD x.2 j Ch.nil)) λn_3=>.all (λ(x:Bool)=>n_2=false->x=false->fitP n_3) λn_4=>.ite (bif bif n_2 then true else n_4 then true else !n) (.R [.bool n] [.box v4,.box v6]) (.ex v5 λn_5=>.all (λ(r:RS×Int)=>r=recV n_5.x n_5.day n_5.f n_5.c) λn_6=>let v7:=RS.ops n_6.1;let v1:List Blk:=[.box v4,.box v6,.box [.i n_6.1.inp.length,.sl v7.length 4 (opG v7)]];.ex v5 λn_7=>.all (λ(r:L8×Int)=>r=zW n_7.x n_7.day n_7.f n_7.c) λn_8=>.N (n_6.2=0) (.ex (λ(x:Tp×Tp)=>(bif bif n then decide (n_6.2=n_8.2) else false then decide ((n_6.1.inp.length:Int)=0) else false)=true->eqL [.agg [.i n_6.1.inp.length,.sl v7.length 4 (opG v7)],.agg [.i 0,AV.nils]] [.agg [.i x.1.n,.sl x.1.ops.length 4 (opG x.1.ops)],.agg [.i x.2.n,.sl x.2.ops.length 4 (opG x.2.ops)]]/\x.1.ops.length<1152921504606846976) λn_9=>.all (λ(x:Bool)=>(bif bif n then decide (n_6.2=n_8.2) else false then decide ((n_6.1.inp.length:Int)=0) else false)=true->(x=true↔n_9.1=n_9.2)) λn_10=>.R [.bool (bif bif bif n then decide (n_6.2=n_8.2) else false then decide ((n_6.1.inp.length:Int)=0) else false then n_10 else false)] v1) (.leaf (.loop (lps K4 0).1 (lps K4 0).2 [(5,.ptr 1 0),(7,.bool n),(8,.ptr 2 0),(9,.sl n_6.1.inp.length 3 (fxG n_6.1.inp)),(11,.str n_8.1),(12,.i n_8.2),(13,.nils),(14,.i 0),Z 15,Z 17,Z 89,Z 90,Z 91,Z 92,Z 93,Z 94,Z 95,Z 114,Z 115,Z 116,Z 117,Z 118,Z 119,Z 120,Z 121,Z 122,Z 123,Z 124,Z 138,Z 139,Z 142,Z 143,Z 144,Z 147,Z 148,Z 149,Z 150,Z 151,Z 154,Z 155,Z 156,Z 157] v1)))) ?_;simp only [q42,Tree.holds,zd];have eE:eqL [.agg [.sl f.length 3 (fxG f),.sl c.length 4 (chG c)]] [envA f c]:=⟨⟨⟨rfl,rfl,za _ _ _⟩,⟨rfl,rfl,za _ _ _⟩,trivial⟩,trivial⟩;have eX:eqL [x.exA] [x.exA]:=⟨⟨⟨rfl,rfl⟩,rfl,rfl,⟨rfl,rfl⟩,⟨rfl,rfl,za _ _ _⟩,trivial⟩,trivial⟩;have eV:eqL [x.exA,.i day,envA f c] [x.exA,.i day,envA f c]:=⟨⟨⟨rfl,rfl⟩,rfl,rfl,⟨rfl,rfl⟩,⟨rfl,rfl,za _ _ _⟩,trivial⟩,⟨rfl,rfl⟩,⟨⟨rfl,rfl,za _ _ _⟩,⟨rfl,rfl,za _ _ _⟩,trivial⟩,trivial⟩;refine⟨(),⟨trivial,trivial⟩,⟨true,rfl⟩,?_⟩;rintro _ rfl;refine⟨x,⟨eX,hx⟩,⟨true,λh=>(by cases h)⟩,?_⟩;intro g1 hg1;refine⟨(f,c),λ_=>⟨eE,he⟩,⟨true,λ_ h=>(by cases h)⟩,?_⟩;intro g2 hg2;refine⟨λ_=>RetR.scal hq rfl (by simp [resV]),λh=> ?_⟩;have h12:g1=false/\g2=false:=by cases g1<;>cases g2<;>simp at h ⊢
 obtain⟨h1,h2⟩:=h12;obtain⟨s1,s2⟩:=hg1 h1;have hp:=zbc (hg2 h1 h2);have hok:VI.ok ⟨x,day,f,c⟩:=⟨by show x.size<_; omega,by show x.zA<_; omega,hp⟩;refine⟨⟨x,day,f,c⟩,⟨eV,hok⟩,⟨_,rfl⟩,?_⟩;intro r hr;replace hr:r=recV x day f c:=hr;refine⟨⟨x,day,f,c⟩,⟨eV,hok⟩,⟨_,rfl⟩,?_⟩;intro v hv;replace hv:v=zW x day f c:=hv;by_cases hz:(zW x day f c).2=0
 ·obtain⟨a1,a2,a3,a4,a5,a6,a7,a8,a9⟩:=zgp hz;rw [a1] at hr;rw [a2] at hv;subst hr hv;refine⟨λg=>by simp at g,λ_=> ?_⟩;unfold recT at a3 a7;simp only;generalize recS f day x=s at a1 a3 a4 a5 a6 a7 a8 a9 ⊢;generalize (x.ev f day).v=w at a2 a7 ⊢;have hse:∀ i,eqH (HLr x f c s i) (HLr x f c s i):=λi=>by simp [HLr,za]
  refine zb.bear 13 1 (ratG []) rfl (by decide) (by kernel_rfl) ?_;refine zb.loop (ι:={i:Nat // i<=s.inp.length}) (λi=>SLr s w i.1) (λi=>HLr x f c s i.1) (λi=>s.inp.length - i.1) ⟨0,aI _⟩ 0 ?_ ?_ (by kernel_rfl)
  ·exact⟨by simp [SLr,QH,fxS,za],by simp [HLr,za],by kernel_rfl,aI _⟩
  rintro⟨i,hil⟩;refine zb.n GTr.h [5,7,8,9,11,12,13,14,15,17,89,90,91,92,93,94,95,114,115,116,117,118,119,120,121,122,123,124,138,139,142,143,144,147,148,149,150,151,154,155,156,157] (let v4:=ratG (List.map Fx.value (List.take i s.inp));let v3:=[AV.i s.inp.length,AV.sl s.ops.length 4 (opG s.ops)];let v2:=List.getD s.inp (i:Int).toNat Fx.nil;let v1:List Blk:=[.box [.int .u8 x.kind,.str x.rat,.str x.name,.i x.date,.sl x.sub.length 5 (Ex.exG x.sub)],.box [.sl f.length 3 (fxG f),.sl c.length 4 (chG c)],.box [.i s.inp.length,.sl s.ops.length 4 (opG s.ops)],.arr i 1 v4];.D ((i:Int)<(s.inp.length:Int)) (.side ((0:Int)<=i/\(i:Int)<(s.inp.length:Int)) (.side ((0:Int)<=i/\(i:Int)<(s.inp.length:Int)) (.ex (q25 [.agg [.sl f.length 3 (fxG f),.sl c.length 4 (chG c)],.str v2.name,.i v2.date]) λn=>.all (λ(r:L8×Bool)=>r=qk n.1.1 n.2.1 n.2.2) λn=>.side ((!Prod.snd n)=false->(0:Int)<=i/\(i:Int)<(s.inp.length:Int)) (.ite (bif !Prod.snd n then true else !decide (n.1=Fx.value v2)) (.R [.bool false] v1) (.leaf (.loop (lps (inside K4 0) 0).1 (lps (inside K4 0) 0).2 [(5,.ptr 1 0),(7,.bool true),(8,.ptr 2 0),(9,.sl s.inp.length 3 (fxG s.inp)),(11,.str w),(12,.i 0),(13,.osl 3 1 0 i),(14,.i i),(15,.str n.1),(17,.i 0),Z 89,Z 90,Z 91,Z 92,Z 93,Z 94,Z 95,Z 114,Z 115,Z 116,Z 117,Z 118,Z 119,Z 120,Z 121,Z 122,Z 123,Z 124,Z 138,Z 139,Z 142,Z 143,Z 144,Z 147,Z 148,Z 149,Z 150,Z 151,Z 154,Z 155,Z 156,Z 157] v1)))))) (.ex (q45 [.agg v3,.sl i 1 (zf v4 0)]) λn=>.all (λ(r:L8×Int)=>r=z5 n.1 n.2) λn=>.ex (λ(x:Tp)=>(bif true then decide ((0:Int)=0) else false)=true->q43 [.agg v3] x) λn_1=>.all (λ(x:Int)=>(bif true then decide ((0:Int)=0) else false)=true->x=zh n_1) λn_2=>.R [.bool (bif bif bif bif true then decide ((0:Int)=0) else false then decide (n_2=0) else false then decide ((s.inp.length:Int)=(s.inp.length:Int)) else false then bif decide (n.2=0) then decide (n.1=w) else false else false)] v1)) ?_;simp only [q25,q43,q45,Tree.holds,zd,inR,lo,hi,aD,Nat.zero_add];refine⟨λhlt=> ?_,λhge=> ?_⟩
  ·have hlt:i<s.inp.length:=by have:=aB hlt; omega
   have hf:=a6.2 i hlt;refine⟨by omega,λ_=>⟨by omega,λ_=>⟨((f,c),((s.inp.getD i Fx.nil).name,(s.inp.getD i Fx.nil).date)),⟨⟨⟨⟨rfl,rfl,za _ _ _⟩,⟨rfl,rfl,za _ _ _⟩,trivial⟩,rfl,⟨rfl,rfl⟩,trivial⟩,hp.1⟩,⟨_,rfl⟩,?_⟩⟩⟩;intro y hy;replace hy:y=qk f (s.inp.getD i Fx.nil).name (s.inp.getD i Fx.nil).date:=hy;rw [hf] at hy;subst hy;refine⟨λ_=>by omega,λ_=>⟨λg=>absurd g (by simp),λ_=> ?_⟩⟩;refine zb.loop (ι:={k:Nat // k<=i}) (λk=>SLq s w i k.1) (λ_=>HLr x f c s i) (λk=>i - k.1) ⟨0,aI _⟩ 1 ?_ ?_ (by kernel_rfl)
   ·exact⟨by simp [SLq,fxS,za],hse i,by kernel_rfl,aI _⟩
   rintro⟨k,hki⟩;refine zb.n GTr.h [5,7,8,9,11,12,13,14,15,17,89,90,91,92,93,94,95,114,115,116,117,118,119,120,121,122,123,124,138,139,142,143,144,147,148,149,150,151,154,155,156,157] (let v9:List AV:=[.sl f.length 3 (fxG f),.sl c.length 4 (chG c)];let v8:=List.getD s.inp (i:Int).toNat Fx.nil;let v7:=List.getD s.inp (k:Int).toNat Fx.nil;let v6:=ratG (List.map Fx.value (List.take i s.inp));let v5:List AV:=[.i s.inp.length,.sl s.ops.length 4 (opG s.ops)];let v4:List AV:=[.int .u8 x.kind,.str x.rat,.str x.name,.i x.date,.sl x.sub.length 5 (Ex.exG x.sub)];let v3:=Fx.value (List.getD s.inp i Fx.nil);let v2:=Fx.name v7=Fx.name v8;let v1:List Blk:=[.box v4,.box v9,.box v5,.arr i 1 v6];.D ((k:Int)<i) (.side ((0:Int)<=k/\(k:Int)<(s.inp.length:Int)) (.side ((0:Int)<=i/\(i:Int)<(s.inp.length:Int)) (.side (decide v2=true->(0:Int)<=k/\(k:Int)<(s.inp.length:Int)) (.side (decide v2=true->(0:Int)<=i/\(i:Int)<(s.inp.length:Int)) (.ite (bif decide v2 then decide (Fx.date v7=Fx.date v8) else false) (.R [.bool false] v1) (.S (k+1) (.leaf (.back 1 [(5,.ptr 1 0),(7,.bool true),(8,.ptr 2 0),(9,.sl s.inp.length 3 (fxG s.inp)),(11,.str w),(12,.i 0),(13,.osl 3 1 0 i),(14,.i i),(15,.str v3),(17,.i (k+1)),Z 89,Z 90,Z 91,Z 92,Z 93,Z 94,Z 95,Z 114,Z 115,Z 116,Z 117,Z 118,Z 119,Z 120,Z 121,Z 122,Z 123,Z 124,Z 138,Z 139,Z 142,Z 143,Z 144,Z 147,Z 148,Z 149,Z 150,Z 151,Z 154,Z 155,Z 156,Z 157] v1)))))))) (.side (0=0/\i<=i/\(i+1)*16<=140737488355328) (.S (i+1) (.leaf (.back 0 [(5,.ptr 1 0),(7,.bool true),(8,.ptr 2 0),(9,.sl s.inp.length 3 (fxG s.inp)),(11,.str w),(12,.i 0),(13,.osl 3 1 0 (i+1)),(14,.i (i+1)),(15,.str v3),(17,.i k),Z 89,Z 90,Z 91,Z 92,Z 93,Z 94,Z 95,Z 114,Z 115,Z 116,Z 117,Z 118,Z 119,Z 120,Z 121,Z 122,Z 123,Z 124,Z 138,Z 139,Z 142,Z 143,Z 144,Z 147,Z 148,Z 149,Z 150,Z 151,Z 154,Z 155,Z 156,Z 157] [.box v4,.box v9,.box v5,.arr (i+1) 1 (appG i v6 (zf (ze 1 [.str v3]) 0)),.arr 1 1 (ze 1 [.str v3])]))))) ?_;simp only [Tree.holds,zd,inR,lo,hi,aD,Nat.zero_add];refine⟨λhk=> ?_,λhk=> ?_⟩
   ·have hk:k<i:=by have:=aB hk; omega
    have hne:=a6.1 k i hk hlt;refine⟨by omega,λ_=>⟨by omega,λ_=>⟨λ_=>by omega,λ_=>⟨λ_=>by omega,λ_=>⟨λg=> ?_,λg=>⟨by omega,λ_=> ?_⟩⟩⟩⟩⟩⟩
    ·refine absurd ?_ hne;by_cases e1:(s.inp.getD k Fx.nil).name=(s.inp.getD i Fx.nil).name
     ·rw [aX e1] at g;exact⟨e1,aB g⟩
     ·rw [aW e1] at g; cases g
    ·rw [aP trivial];exact⟨⟨k+1,hk⟩,by show i - (k+1)<i - k; omega,by simp [SLq,fxS,za],hse i,by kernel_rfl,aI _⟩
   ·refine⟨⟨trivial,aJ _,by omega⟩,λ_=>⟨by omega,λ_=> ?_⟩⟩;rw [aO (by decide),aP trivial]
    have et:(s.inp.take (i+1)).map Fx.value=(s.inp.take i).map Fx.value++[(s.inp.getD i Fx.nil).value]:=by
     rw [List.take_add_one,List.map_append];simp [List.getD,hlt]
    have el:((s.inp.take i).map Fx.value).length=i:=by rw [List.length_map,aH]; omega
    have pg:=zfa (l:=(s.inp.take i).map Fx.value) (v:=(s.inp.getD i Fx.nil).value) (za _ _ _);rw [el,<- et] at pg;refine⟨⟨i+1,hlt⟩,by show s.inp.length - (i+1)<s.inp.length - i; omega,by simp [SLr,fxS,za],⟨by simp [za],by simp [za],by simp [za],⟨rfl,rfl,pg⟩,trivial⟩,by kernel_rfl,aI _⟩
  ·have hge:i=s.inp.length:=by have:=aC hge; omega
   subst hge;have eT:eqA (.agg [.i s.inp.length,.sl s.ops.length 4 (opG s.ops)]) (Tp.mk s.inp.length s.ops).av:=⟨⟨rfl,rfl⟩,⟨rfl,rfl,za _ _ _⟩,trivial⟩;have sT:qi ⟨s.inp.length,s.ops⟩:=⟨by show s.ops.length<_; omega,λj hj=>by have:=a8 j hj; show(s.ops.getD j TOp.nil).rat.length<_; omega⟩
   have sR:ji (s.inp.map Fx.value):=⟨by rw [List.length_map]; omega,λj hj=>by
    rw [List.length_map] at hj;have:=a9 j hj;have e:(s.inp.map Fx.value).getD j []=(s.inp.getD j Fx.nil).value:=by simp [List.getD,hj]
    rw [e]; omega⟩
   refine⟨(⟨s.inp.length,s.ops⟩,s.inp.map Fx.value),⟨⟨eT,⟨by simp,rfl,λj o _ _=>by simp only [zf,Nat.zero_add,bD]⟩,trivial⟩,sT,sR⟩,⟨_,rfl⟩,?_⟩;intro r hr;replace hr:r=(w,0):=hr.trans a7;subst hr;refine⟨⟨s.inp.length,s.ops⟩,λ_=>⟨⟨eT,trivial⟩,sT⟩,⟨_,λ_=>rfl⟩,?_⟩;intro e he;obtain rfl:e=0:=(he (by simp)).trans a3;exact RetR.scal hq rfl (by simp [resV])
 ·rw [zgv hz] at hr;subst hr hv;refine⟨λ_=> ?_,λg=> ?_⟩
  ·refine⟨(⟨0,[]⟩,⟨0,[]⟩),λ_=>⟨⟨by simp [Tp.av,opS,za],by simp [Tp.av,opS],trivial⟩,by decide⟩,⟨true,λ_=>by simp⟩,?_⟩;intro b hb;obtain rfl:b=true:=(hb (by simp)).2 rfl;exact RetR.scal hq rfl (by simp [resV])
  ·simp at g;exact absurd g hz
end Go.Proofs.Tryz
end
section
namespace Go.Sx
variable [Stat]
open Go.RowKit (Below)
def E0:Nat->Prop:=Own (λ_=>False) []
theorem JZ(b:Nat):¬ E0 b:=by
 rintro(h | ⟨e,he,_⟩)
 ·exact h
 ·simp at he
def Tw(P:Program)(W:World)(t:TypeId)(cs:List Value):Prop:=∃ (H:Type) (enc:TypeId×Value->H) (base fuel:Nat) (d:DataW H) (ps:List MemPlace),DataW.trod enc P W base (λ_=>true) true fuel t cs=some (d,ps)/\∀ n∈d.weights P t,n<=reachBytes
section
variable {P:Program} {W:World} {t e:TypeId} {cs:List Value}
theorem u3(ht:P.underlying t=some .string)(h:Tw P W t cs):∃ s:L8,cs=[.string ⟨s.toArray⟩]/\s.length<=reachBytes:=by
 obtain⟨H,enc,base,fuel,d,ps,h,hw⟩:=h;obtain⟨s,rfl,hx,_⟩:=DataW.trod_string ht h;cases hx;exact⟨s.data.toList,by simp,hw _ (by simp [DataW.weights])⟩
theorem Q6{k:IntKind}(ht:P.underlying t=some (.int k))(h:Tw P W t cs):∃ n,cs=[.int k n]/\(Lit.int k n).wf=true:=by
 obtain⟨H,enc,base,fuel,d,ps,h,hw⟩:=h;obtain⟨n,rfl,hx,hwf⟩:=DataW.trod_int ht h;exact⟨n,rfl,hwf⟩
theorem zhk(ht:P.underlying t=some .bool)(h:Tw P W t cs):∃ b,cs=[.bool b]:=by
 obtain⟨H,enc,base,fuel,d,ps,h,hw⟩:=h;obtain⟨b,rfl,hx⟩:=DataW.trod_bool ht h;exact⟨b,rfl⟩
theorem u6{fs:Array Field}(ht:P.underlying t=some (.struct fs))(h:Tw P W t cs):cs.length=P.cellsOf t/\∀ (i:Nat) (f:Field),fs[i]?=some f->Tw P W f.type ((cs.drop f.offset).take (P.cellsOf f.type)):=by
 obtain⟨H,enc,base,fuel,d,ps,h,hw⟩:=h;obtain⟨xs,n,_,hx,hl,hlen,hf⟩:=DataW.trod_struct ht h;cases hx;refine⟨hl,λi f hfi=> ?_⟩;have hi:=hf i f hfi
 have hlt:i<xs.length:=by
  rw [hlen]; exact(aQ.1 hfi).1
 rw [aF hlt] at hi;refine⟨H,enc,base,n,xs[i].1,xs[i].2,hi,λm hm=>hw m ?_⟩;simp only [DataW.weights,ht];exact DataW.weights_mem_each (j:=i) (t:=f.type) (d:=xs[i].1) (by simp [hfi]) (by simp [hlt]) m hm
theorem v9{H:Type}{d:DataW H} : ∀ {l:List (DataW H)},d∈l->∀ n∈d.weights P e,n∈DataW.weightsAll P e l
 | x::l,hd,n,hn=>by
  simp only [DataW.weightsAll,bY];rcases aM.1 hd with rfl | hd
  ·exact .inl hn
  ·exact .inr (v9 hd n hn)
theorem ze3(ht:P.underlying t=some (.slice e))(h:Tw P W t cs):cs=[.slice none 0 0]\/∃ (a:Addr) (len cap:Nat),cs=[.slice (some a) len cap]/\len<=cap/\cap*P.bytesOf e<=reachBytes /\
  ∀ i,i<len->∃ cs',cs'.length=P.cellsOf e/\(∀ o,o<P.cellsOf e->W.cell? ((a.add (i*P.cellsOf e)).add o)=cs'[o]?)/\Tw P W e cs':=by
 obtain⟨H,enc,base,fuel,d,ps,h,hw⟩:=h;rcases DataW.trod_slice ht h with ⟨rfl,_⟩ | ⟨a,len,cap,elems,rest,n,_,rfl,hx,hb,hl,hm,hlen,hel,hsp,_⟩
 ·exact .inl rfl
 ·right;cases hx;obtain⟨hrl,_⟩:=hsp rfl;simp only [DataW.weights,ht] at hw;refine⟨a,len,cap,rfl,hl,?_,λi hi=> ?_⟩
  ·have:=hw _ (List.mem_cons_self);simp only [List.length_map,hlen,hrl] at this
   rwa [show len+(cap - len)=cap by omega] at this
  ·have h1:=hel i hi;have hlt:i<elems.length:=by rw [hlen]; exact hi
   rw [aF hlt,Option.bind_eq_some_iff] at h1;obtain⟨cs',h2,h3⟩:=h1;obtain⟨_,h4,h5⟩:=World.cells?_some h2;refine⟨cs',h4,h5,H,enc,base,n,elems[i].1,elems[i].2,h3,λm hm2=>hw m ?_⟩;simp only [aM,bY];exact .inr (.inl (v9 (d:=elems[i].1) (List.mem_map.2 ⟨elems[i],bK hlt,rfl⟩) m hm2))
theorem Jl{α:Type}(z:α)(cell:α->Nat->AV)(good:α->Prop){sz:Nat}(ht:P.underlying t=some (.slice e))(hsz:P.cellsOf e=sz)(hpos:0<sz)
  (hel:∀ cs',Tw P W e cs'->∃ x:α,good x/\∀ o,o<sz->∃ c,cs'[o]?=some c/\c.oneCell'=true/\Rep E0 W (cell x o) [] c) (h:Tw P W t cs) :
  ∃ (l:List α) (v:Value),cs=[v]/\(∀ x∈l,good x)/\l.length*P.bytesOf e<=reachBytes/\v.oneCell'=true/\Rep E0 W (.sl l.length sz λj=>cell (l.getD j z)) [] v:=by
 rcases ze3 ht h with rfl | ⟨a,len,cap,rfl,hl,hw,hx⟩
 ·refine⟨[],_,rfl,by simp,by simp,rfl,?_⟩;simp only [Rep];exact⟨none,0,rfl,aJ _,.inl rfl⟩
 ·rw [hsz] at hx
  have hx2:∀ i,∃ x:α,i<len->good x/\∀ o,o<sz->∃ c,W.cell? ((a.add (i*sz)).add o)=some c/\c.oneCell'=true/\Rep E0 W (cell x o) [] c:=λi=>by
   by_cases hi:i<len
   ·obtain⟨cs',h1,h2,h3⟩:=hx i hi;obtain⟨x,hg,hc⟩:=hel cs' h3
    exact⟨x,λ_=>⟨hg,λo ho=>by
     obtain⟨c,g1,g2,g3⟩:=hc o ho;exact⟨c,by rw [h2 o ho,g1],g2,g3⟩⟩⟩
   ·exact⟨z,λh=>absurd h hi⟩
  obtain⟨f,hf⟩:=Classical.axiomOfChoice hx2;have hgd:∀ j,j<len->((List.range len).map f).getD j z=f j:=λj hj=>by simp [List.getD,hj]
  refine⟨(List.range len).map f,_,rfl,λx hxm=> ?_,?_,rfl,?_⟩
  ·obtain⟨i,hi,rfl⟩:=List.mem_map.1 hxm;exact(hf i (List.mem_range.1 hi)).1
  ·simp only [List.length_map,List.length_range];exact bP (aT _ hl) hw
  ·simp only [Rep,List.length_map,List.length_range];refine⟨some a,cap,rfl,hl,?_⟩;rcases bC len with h0 | h0
   ·exact .inl h0
   ·right
    have hspot:a.spot=none:=by
     obtain⟨c,g1,_⟩:=(hf 0 h0).2 0 hpos;have:=World.cell?_spot g1;simpa [Addr.add] using this
    refine⟨a,rfl,hspot,λj o hj ho=>⟨JZ _,?_⟩⟩;obtain⟨c,g1,g2,g3⟩:=(hf j hj).2 o ho;refine⟨c,?_,g2,by rw [hgd j hj]; exact g3⟩;rw [<- g1];obtain⟨b,off,spot⟩:=a;simp only at hspot;subst hspot;congr 1;simp only [Addr.add];split<;>split<;>simp_all<;>omega
theorem zam{g:Nat}{fn:Func}{c:Code}(hf:P.funcs[g]?=some fn)(hb:fn.body=some c) (hn:(fn.name == "runtime.NumGoroutine")=false) {ctr:Ctr} (hok:zc P g ctr) {args:List AV} {vals:List Value}
  (hspec:(ctr.spec args []).holds λr=>r=(.bool true,[])) (hr:RepL E0 W args [] vals) (hst:vC E0 W):Calls P g vals.toArray W λe W'=>e = .returned (.bool true)/\Below W.heap.size W W':=by
 have hn':¬ fn.name = "runtime.NumGoroutine" :=by simpa using hn
 have hg:Good (λ_=>False) W []:=⟨λb h=>h.elim,λi e ad he=>by simp at he,hst⟩;have hh:HRep (Own (λ_=>False) []) W [] []:=⟨rfl,λi j e f a b he=>by simp at he,λi e a he=>by simp at he,λi e b he=>by simp at he⟩;rcases hok args [] _ hspec (λ_=>rfl) (λ_=>False) W [] vals hg hh hr with ⟨_,h⟩ | ⟨v,w',h,_⟩
 ·refine h.mono ?_;rintro e W' ⟨v,rfl,r,hs,Z',hq,h1,_,_,_,_,hx⟩;cases hq;simp only [Rep] at h1;subst h1;exact⟨rfl,hx.os,hx.tape,hx.output,hx.size,λk hk=>hx.keep k hk λ⟨e,he,_⟩=>by simp at he⟩
 ·simp [callFunc,hf,hn',hb] at h
end
end Go.Sx
end
section
namespace Go.Sx
variable [Stat]
def TwN(P:Program)(W:World)(fuel:Nat)(t:TypeId)(cs:List Value):Prop:=∃ (H:Type) (enc:TypeId×Value->H) (base:Nat) (d:DataW H) (ps:List MemPlace),DataW.trod enc P W base (λ_=>true) true fuel t cs=some (d,ps)/\∀ n∈d.weights P t,n<=reachBytes
section
variable {P:Program} {W:World} {t e:TypeId} {cs:List Value}
theorem TwN.tw{fuel:Nat}(h:TwN P W fuel t cs):Tw P W t cs:=by
 obtain⟨H,enc,base,d,ps,h,hw⟩:=h;exact⟨H,enc,base,fuel,d,ps,h,hw⟩
theorem Tw.twn(h:Tw P W t cs):∃ fuel,TwN P W fuel t cs:=by
 obtain⟨H,enc,base,fuel,d,ps,h,hw⟩:=h;exact⟨fuel,H,enc,base,d,ps,h,hw⟩
theorem KT{fuel:Nat}{fs:Array Field}(ht:P.underlying t=some (.struct fs))(h:TwN P W fuel t cs):cs.length=P.cellsOf t/\∃ n,n<fuel/\∀ (i:Nat) (f:Field),fs[i]?=some f->TwN P W n f.type ((cs.drop f.offset).take (P.cellsOf f.type)):=by
 obtain⟨H,enc,base,d,ps,h,hw⟩:=h;obtain⟨xs,n,hn,hx,hl,hlen,hf⟩:=DataW.trod_struct ht h;cases hx;refine⟨hl,n,by omega,λi f hfi=> ?_⟩;have hi:=hf i f hfi
 have hlt:i<xs.length:=by
  rw [hlen]; exact(aQ.1 hfi).1
 rw [aF hlt] at hi;refine⟨H,enc,base,xs[i].1,xs[i].2,hi,λm hm=>hw m ?_⟩;simp only [DataW.weights,ht];exact DataW.weights_mem_each (j:=i) (t:=f.type) (d:=xs[i].1) (by simp [hfi]) (by simp [hlt]) m hm
theorem UL{fuel:Nat}(ht:P.underlying t=some (.slice e))(h:TwN P W fuel t cs):cs=[.slice none 0 0]\/∃ (a:Addr) (len cap n:Nat),n<fuel/\cs=[.slice (some a) len cap]/\len<=cap/\cap*P.bytesOf e<=reachBytes /\
  ∀ i,i<len->∃ cs',cs'.length=P.cellsOf e/\(∀ o,o<P.cellsOf e->W.cell? ((a.add (i*P.cellsOf e)).add o)=cs'[o]?)/\TwN P W n e cs':=by
 obtain⟨H,enc,base,d,ps,h,hw⟩:=h;rcases DataW.trod_slice ht h with ⟨rfl,_⟩ | ⟨a,len,cap,elems,rest,n,hn,rfl,hx,hb,hl,hm,hlen,hel,hsp,_⟩
 ·exact .inl rfl
 ·right;cases hx;obtain⟨hrl,_⟩:=hsp rfl;simp only [DataW.weights,ht] at hw;refine⟨a,len,cap,n,by omega,rfl,hl,?_,λi hi=> ?_⟩
  ·have:=hw _ (List.mem_cons_self);simp only [List.length_map,hlen,hrl] at this
   rwa [show len+(cap - len)=cap by omega] at this
  ·have h1:=hel i hi;have hlt:i<elems.length:=by rw [hlen]; exact hi
   rw [aF hlt,Option.bind_eq_some_iff] at h1;obtain⟨cs',h2,h3⟩:=h1;obtain⟨_,h4,h5⟩:=World.cells?_some h2;refine⟨cs',h4,h5,H,enc,base,elems[i].1,elems[i].2,h3,λm hm2=>hw m ?_⟩;simp only [aM,bY];exact .inr (.inl (v9 (d:=elems[i].1) (List.mem_map.2 ⟨elems[i],bK hlt,rfl⟩) m hm2))
theorem Xb{α:Type}(z:α)(cell:α->Nat->AV)(good:α->Prop){sz fuel:Nat}(ht:P.underlying t=some (.slice e))(hsz:P.cellsOf e=sz)(hpos:0<sz)
  (hel:∀ n cs',n<fuel->TwN P W n e cs'->∃ x:α,good x/\∀ o,o<sz->∃ c,cs'[o]?=some c/\c.oneCell'=true/\Rep E0 W (cell x o) [] c) (h:TwN P W fuel t cs) :
  ∃ (l:List α) (v:Value),cs=[v]/\(∀ x∈l,good x)/\l.length*P.bytesOf e<=reachBytes/\v.oneCell'=true/\Rep E0 W (.sl l.length sz λj=>cell (l.getD j z)) [] v:=by
 rcases UL ht h with rfl | ⟨a,len,cap,n,hn,rfl,hl,hw,hx⟩
 ·refine⟨[],_,rfl,by simp,by simp,rfl,?_⟩;simp only [Rep];exact⟨none,0,rfl,aJ _,.inl rfl⟩
 ·rw [hsz] at hx
  have hx2:∀ i,∃ x:α,i<len->good x/\∀ o,o<sz->∃ c,W.cell? ((a.add (i*sz)).add o)=some c/\c.oneCell'=true/\Rep E0 W (cell x o) [] c:=λi=>by
   by_cases hi:i<len
   ·obtain⟨cs',h1,h2,h3⟩:=hx i hi;obtain⟨x,hg,hc⟩:=hel n cs' hn h3
    exact⟨x,λ_=>⟨hg,λo ho=>by
     obtain⟨c,g1,g2,g3⟩:=hc o ho;exact⟨c,by rw [h2 o ho,g1],g2,g3⟩⟩⟩
   ·exact⟨z,λh=>absurd h hi⟩
  obtain⟨f,hf⟩:=Classical.axiomOfChoice hx2;have hgd:∀ j,j<len->((List.range len).map f).getD j z=f j:=λj hj=>by simp [List.getD,hj]
  refine⟨(List.range len).map f,_,rfl,λx hxm=> ?_,?_,rfl,?_⟩
  ·obtain⟨i,hi,rfl⟩:=List.mem_map.1 hxm;exact(hf i (List.mem_range.1 hi)).1
  ·simp only [List.length_map,List.length_range];exact bP (aT _ hl) hw
  ·simp only [Rep,List.length_map,List.length_range];refine⟨some a,cap,rfl,hl,?_⟩;rcases bC len with h0 | h0
   ·exact .inl h0
   ·right
    have hspot:a.spot=none:=by
     obtain⟨c,g1,_⟩:=(hf 0 h0).2 0 hpos;have:=World.cell?_spot g1;simpa [Addr.add] using this
    refine⟨a,rfl,hspot,λj o hj ho=>⟨JZ _,?_⟩⟩;obtain⟨c,g1,g2,g3⟩:=(hf j hj).2 o ho;refine⟨c,?_,g2,by rw [hgd j hj]; exact g3⟩;rw [<- g1];obtain⟨b,off,spot⟩:=a;simp only at hspot;subst hspot;congr 1;simp only [Addr.add];split<;>split<;>simp_all<;>omega
theorem zc1{H:Type}{enc:TypeId×Value->H}{base:Nat}{sp:Nat->Bool}{held:Bool}{fuel:Nat}{kd:IntKind}{ps:List Int}{q:List MemPlace}(ht:P.underlying t=some (.slice e))(he:P.underlying e=some (.int kd))(hc:P.cellsOf e=1)(hne:ps≠[])
  (h:DataW.trod enc P W base sp held fuel t cs=some (.slice (ps.map λz=>.lit (.int kd z)) [],q)):∃ c,cs=[c]/\c.oneCell'=true/\Rep E0 W (.sl ps.length 1 λj _=>.int kd (ps.getD j 0)) [] c:=by
 obtain⟨a,cap,rfl,hl,hel⟩:=open_row ht hc h;refine⟨_,rfl,rfl,?_⟩;simp only [List.length_map] at hl
 have hv:∀ j,j<ps.length->W.cell? (a.add j)=some (.int kd (ps.getD j 0)):=λj hj=>by
  obtain⟨v,n,q',h1,h2⟩:=hel j (.lit (.int kd (ps.getD j 0))) (by simp [List.getD,hj]);obtain⟨m,h3,h4,_⟩:=DataW.trod_int he h2;simp only [List.cons.injEq,and_true] at h3;simp only [bE,DataW.lit.injEq,Lit.int.injEq,true_and] at h4;rw [h1,h3,h4.1]
 simp only [Rep,List.length_map];refine⟨some a,cap,rfl,hl,.inr ⟨a,rfl,?_,λj o hj ho=>⟨JZ _,.int kd (ps.getD j 0),?_,rfl,rfl⟩⟩⟩
 ·have:=World.cell?_spot (hv 0 (List.length_pos_iff.2 hne));simpa [Addr.add] using this
 ·have:o=0:=by omega
  subst this
  have hs:a.spot=none:=by
   have:=World.cell?_spot (hv 0 (List.length_pos_iff.2 hne));simpa [Addr.add] using this
  rw [<- hv j hj];obtain⟨b,off,spot⟩:=a;simp only at hs;subst hs;congr 1;simp only [Addr.add];split<;>simp_all
end
section
open Go.WideElems Go.ChangeMaps
variable {H:Type} {enc:TypeId×Value->H} {P:Program} {W:World} {base:Nat} {sp:Nat->Bool} {held:Bool}
theorem ZG{x:Lit×DataW H} : ∀ {l:List (Lit×DataW H)},x∈l.foldr DataW.insert []↔x∈l
 | []=>Iff.rfl
 | y::l=>by rw [List.foldr_cons,mem_insert_iff,ZG,aM]
theorem YO{g:Nat}{t k e:TypeId}{kd:IntKind}{ag:Bool}{sz:Nat}{ks:List Int}{has:Int->Bool}{get:Int->Nat->AV}{fuel:Nat}{c:Value}{es0:List (Lit×DataW H)}{q:List MemPlace}
  (hg:(Stat.z g).isSome=true) (ht:P.underlying t=some (.map k e)) (hk:P.underlying k=some (.int kd)) (hc:W.cell? ⟨g,0,none⟩=some c) (hne:es0≠[])
  (h:DataW.trod enc P W base sp held fuel t [c]=some (.map es0,q))
  (hin:∀ (n:Int) (d:DataW H),(.int kd n,d)∈es0->has n=true/\∀ (v:Value) (m:Nat) (q:List MemPlace),v.formed P e=true->DataW.trod enc P W base sp held m e v.cells.toList=some (d,q) ->
   match ag with
   | true=>∃ vs:List Value,v = .agg vs.toArray/\vs.length=sz/\∀ o,o<sz->∃ c,vs[o]?=some c/\Rep E0 W (get n o) [] c
   | false=>Rep E0 W (get n 0) [] v)
  (hout:∀ n,has n=true->∃ d,(.int kd n,d)∈es0):Rep E0 W (.mp kd ag sz ks has get) [] c/\∀ b,c = .map (some b)->b<W.heap.size:=by
 rcases open_map ht h with ⟨_,hx⟩ | ⟨b,es,clock,n,_,hcs,hb,_,F,hx⟩
 ·simp at hx
 ·simp only [List.cons.injEq,and_true] at hcs;subst hcs;simp only [bE,DataW.map.injEq] at hx
  have hkey:∀ x∈es.toList,∃ (m:Int) (z:DataW H×List MemPlace),x.key = .int kd m/\elemAt enc P W base sp held n e x.val=some z/\(.int kd m,z.1)∈es0:=by
   intro x hxm;obtain⟨y,hy⟩:=F.reads x hxm;have h1:=rd_key hy;obtain⟨z,h2,h3⟩:=rd_val hy;have h4:y∈es0:=by rw [hx.1,ZG]; exact List.mem_map.2 ⟨x,hxm,rg_of hy⟩
   have h5:mapKey P k x.key=some y.1:=by
    simp only [keyOf,hk] at h1;exact h1
   unfold mapKey at h5;rw [hk] at h5;cases hxk:x.key with
   | int k' m=>
    rw [hxk] at h5;simp only at h5;split at h5
    ·rename_i hc2;have h6:=Option.some.inj h5;obtain⟨rfl,_⟩:=hc2;refine⟨m,z,rfl,h2,?_⟩;rw [h6,<- h3]; exact h4
    ·cases h5
   | _=>rw [hxk] at h5; simp at h5
  have hlt:b<W.heap.size:=(aQ.1 hb).1;refine⟨?_,λb' hb'=>by cases hb'; exact hlt⟩;simp only [Rep];refine⟨b,es,clock,rfl,JZ _,⟨g,JZ _,hg,hc⟩,hb,λm=> ?_⟩
  have hspec:=MapKept.findNow_spec (d:=.int kd) (k:=.int kd m) (by simp [MapKept.IsKey]) es.toList 0 (λx hxm=>by
   obtain⟨m',z,h1,_⟩:=hkey x hxm;rw [h1]; simp [MapKept.IsKey])
  rcases hspec with ⟨h1,h2⟩ | ⟨j,x,h1,h2,h3⟩
  ·refine⟨λ_=>h1,λhm=> ?_⟩;obtain⟨d,hd⟩:=hout m hm;rw [hx.1,ZG] at hd;obtain⟨x,hxm,hrx⟩:=List.mem_map.1 hd;obtain⟨y,hy⟩:=F.reads x hxm;rw [rg_of hy] at hrx;have h5:=rd_key hy;rw [hrx] at h5;obtain⟨m',z,g1,_⟩:=hkey x hxm
   have:keyOf P k x.key=some (.int kd m'):=by
    rw [g1] at h5 ⊢;simp only [keyOf,hk,mapKey] at h5 ⊢;split at h5
    ·rename_i hwf; rw [aP hwf]
    ·cases h5
   rw [this] at h5;cases h5;exact absurd g1 (h2 x hxm)
  ·have hxm:x∈es.toList:=aY h2;obtain⟨m',z,g1,g2,g3⟩:=hkey x hxm;rw [h3] at g1;cases g1;obtain⟨hh,hrep⟩:=hin m z.1 g3;refine⟨λhf=>(by rw [hf] at hh; cases hh),λ_=>⟨_,x.val,h1,?_⟩⟩;unfold elemAt at g2;split at g2
   ·rename_i hfm;exact hrep x.val n z.2 hfm g2
   ·cases g2
end
end Go.Sx
end
section
set_option maxRecDepth 100000
namespace Go.Proofs.YtfiocgnojggdjaaGreatDoor
open Go Go.Sx Go.Nov Go.Proofs.Tryz Go.ChangeShapes Go.WideShapes Go.ChangeAt Go.RowKit
theorem xK:Tryz.prog.cellsOf 9=1:=by kernel_rfl
theorem JA:Tryz.prog.cellsOf 22=1:=by kernel_rfl
theorem uM:Tryz.prog.cellsOf 3=1:=by kernel_rfl
theorem Xg:Tryz.prog.cellsOf 4=1:=by kernel_rfl
theorem VP:Tryz.prog.cellsOf 54=3:=by kernel_rfl
theorem Km:Tryz.prog.cellsOf 70=4:=by kernel_rfl
theorem zfl:Tryz.prog.cellsOf 26=1:=by kernel_rfl
theorem zb1:Tryz.prog.cellsOf 27=1:=by kernel_rfl
theorem zag:Tryz.prog.cellsOf 29=2:=by kernel_rfl
def zbu(x:Fx):Prop:=x.name.length<=reachBytes/\x.value.length<=reachBytes
def zfn(x:Ch):Prop:=x.qU.length<=reachBytes/\x.name.length<=reachBytes
theorem ze9{W:World}{cs:List Value}(h:Tw Tryz.prog W 54 cs):∃ x:Fx,zbu x/\cs=[.string ⟨x.name.toArray⟩,.i x.date,.string ⟨x.value.toArray⟩]:=by
 obtain⟨hl,hf⟩:=u6 Tryz.underlying54 h;rw [VP] at hl
 match cs,hl with
 | [a,b,c],_=>
  have h0:Tw Tryz.prog W 9 (([a,b,c].drop 0).take (Tryz.prog.cellsOf 9)):=hf 0 _ rfl;rw [xK] at h0;replace h0:Tw Tryz.prog W 9 [a]:=h0;have h1:Tw Tryz.prog W 3 (([a,b,c].drop 1).take (Tryz.prog.cellsOf 3)):=hf 1 _ rfl;rw [uM] at h1;replace h1:Tw Tryz.prog W 3 [b]:=h1;have h2:Tw Tryz.prog W 22 (([a,b,c].drop 2).take (Tryz.prog.cellsOf 22)):=hf 2 _ rfl;rw [JA] at h2;replace h2:Tw Tryz.prog W 22 [c]:=h2;obtain⟨s,e0,w0⟩:=u3 Tryz.underlying9 h0;obtain⟨n,e1,w1⟩:=Q6 Tryz.underlying3 h1;obtain⟨u,e2,w2⟩:=u3 Tryz.underlying22 h2;cases e0; cases e1; cases e2;exact⟨⟨s,n,u⟩,⟨w0,w2⟩,rfl⟩
theorem zd0{W:World}{cs:List Value}(h:Tw Tryz.prog W 70 cs):∃ x:Ch,zfn x/\cs=[.string ⟨x.qU.toArray⟩,.string ⟨x.name.toArray⟩,.i x.date,.bool x.first]:=by
 obtain⟨hl,hf⟩:=u6 Tryz.underlying70 h;rw [Km] at hl
 match cs,hl with
 | [a,b,c,d],_=>
  have h0:Tw Tryz.prog W 9 (([a,b,c,d].drop 0).take (Tryz.prog.cellsOf 9)):=hf 0 _ rfl;rw [xK] at h0;replace h0:Tw Tryz.prog W 9 [a]:=h0;have h1:Tw Tryz.prog W 9 (([a,b,c,d].drop 1).take (Tryz.prog.cellsOf 9)):=hf 1 _ rfl;rw [xK] at h1;replace h1:Tw Tryz.prog W 9 [b]:=h1;have h2:Tw Tryz.prog W 3 (([a,b,c,d].drop 2).take (Tryz.prog.cellsOf 3)):=hf 2 _ rfl;rw [uM] at h2;replace h2:Tw Tryz.prog W 3 [c]:=h2;have h3:Tw Tryz.prog W 4 (([a,b,c,d].drop 3).take (Tryz.prog.cellsOf 4)):=hf 3 _ rfl;rw [Xg] at h3;replace h3:Tw Tryz.prog W 4 [d]:=h3;obtain⟨s,e0,w0⟩:=u3 Tryz.underlying9 h0;obtain⟨u,e1,w1⟩:=u3 Tryz.underlying9 h1;obtain⟨n,e2,w2⟩:=Q6 Tryz.underlying3 h2;obtain⟨b,e3⟩:=zhk Tryz.underlying4 h3;cases e0; cases e1; cases e2; cases e3;exact⟨⟨s,u,n,b⟩,⟨w0,w1⟩,rfl⟩
theorem UD{W:World}{cs:List Value}(h:Tw Tryz.prog W 29 cs):∃ (f:List Fx) (c:List Ch) (u v:Value),cs=[u,v]/\(∀ x∈f,zbu x)/\(∀ x∈c,zfn x)/\f.length*40<=reachBytes/\c.length*48<=reachBytes/\Rep E0 W (fxS f) [] u/\Rep E0 W (chS c) [] v:=by
 obtain⟨hl,hf⟩:=u6 Tryz.underlying29 h;rw [zag] at hl
 match cs,hl with
 | [a,b],_=>
  have h0:Tw Tryz.prog W 26 (([a,b].drop 0).take (Tryz.prog.cellsOf 26)):=hf 0 _ rfl;rw [zfl] at h0;replace h0:Tw Tryz.prog W 26 [a]:=h0;have h1:Tw Tryz.prog W 27 (([a,b].drop 1).take (Tryz.prog.cellsOf 27)):=hf 1 _ rfl;rw [zb1] at h1;replace h1:Tw Tryz.prog W 27 [b]:=h1
  obtain⟨f,u,e0,gf,wf,_,rf⟩:=Jl Fx.nil Fx.cell zbu Tryz.underlying26 VP (by decide) (λcs' h'=>by
   obtain⟨x,hx,rfl⟩:=ze9 h';refine⟨x,hx,λo ho=> ?_⟩
   match o,ho with
   | 0,_=>exact⟨_,rfl,rfl,by simp [Fx.cell,Rep]⟩
   | 1,_=>exact⟨_,rfl,rfl,by simp [Fx.cell,Rep]⟩
   | 2,_=>exact⟨_,rfl,rfl,by simp [Fx.cell,Rep]⟩) h0
  obtain⟨c,v,e1,gc,wc,_,rc⟩:=Jl Ch.nil Ch.cell zfn Tryz.underlying27 Km (by decide) (λcs' h'=>by
   obtain⟨x,hx,rfl⟩:=zd0 h';refine⟨x,hx,λo ho=> ?_⟩
   match o,ho with
   | 0,_=>exact⟨_,rfl,rfl,by simp [Ch.cell,Rep]⟩
   | 1,_=>exact⟨_,rfl,rfl,by simp [Ch.cell,Rep]⟩
   | 2,_=>exact⟨_,rfl,rfl,by simp [Ch.cell,Rep]⟩
   | 3,_=>exact⟨_,rfl,rfl,by simp [Ch.cell,Rep]⟩) h1
  cases e0; cases e1;have b1:Tryz.prog.bytesOf 54=40:=by kernel_rfl
  have b2:Tryz.prog.bytesOf 70=48:=by kernel_rfl
  rw [b1] at wf;rw [b2] at wc;exact⟨f,c,_,_,rfl,gf,gc,wf,wc,rf,rc⟩
theorem zhu{W:World}{cs:List Value}(h:Tw Tryz.prog W 29 cs):∃ p:List Fx×List Ch,zi7 p/\Rep E0 W (envA p.1 p.2) [] (.agg cs.toArray):=by
 obtain⟨f,c,u,v,rfl,gf,gc,wf,wc,rf,rc⟩:=UD h;have hr:=reachBytes_lt;refine⟨(f,c),⟨by show f.length<_; omega,by show c.length<_; omega,λj hj=> ?_,λj hj=> ?_⟩,?_⟩
 ·have:=gf (f.getD j Fx.nil) (by simp only at hj; simp [List.getD,hj]);exact⟨by have:=this.1; show(f.getD j Fx.nil).name.length<_; omega,by have:=this.2; show(f.getD j Fx.nil).value.length<_; omega⟩
 ·have:=gc (c.getD j Ch.nil) (by simp only at hj; simp [List.getD,hj]);exact⟨by have:=this.1; show(c.getD j Ch.nil).qU.length<_; omega,by have:=this.2; show(c.getD j Ch.nil).name.length<_; omega⟩
 ·simp only [RepL,Rep,envA];exact⟨[u,v],rfl,u,_,rfl,rf,v,_,rfl,rc,rfl⟩
theorem zgc{W:World}{cs:List Value}(h:Tw Tryz.prog W 3 cs):∃ n:Int,cs=[.i n]/\inR .i64 n/\Rep E0 W (.i n) [] (.i n):=by
 obtain⟨n,rfl,hn⟩:=Q6 Tryz.underlying3 h;refine⟨n,rfl,?_,by simp [Rep]⟩;simp only [Lit.wf,bA,aK] at hn;exact hn
theorem zf5:Tryz.prog.cellsOf 5=1:=by kernel_rfl
theorem zav:Tryz.prog.cellsOf 23=1:=by kernel_rfl
theorem VO:Tryz.prog.cellsOf 25=5:=by kernel_rfl
theorem V4:∀ {l:List Ex},(∀ x∈l,x.thin)->Ex.Q8 l
 | [],_=>by rw [Ex.Q8]; trivial
 | x::l,h=>by rw [Ex.Q8]; exact⟨h x (by simp),V4 λy hy=>h y (by simp [hy])⟩
theorem zc3{W:World} : ∀ (fuel:Nat) {cs:List Value},TwN Tryz.prog W fuel 25 cs ->
  ∃ (x:Ex) (v:Value),x.thin/\cs=[.int .u8 x.kind,.string ⟨x.rat.toArray⟩,.string ⟨x.name.toArray⟩,.i x.date,v]/\v.oneCell'=true/\Rep E0 W (.sl x.sub.length 5 x.deep) [] v:=by
 intro fuel
 induction fuel using Nat.strongRecOn with
 | ind fuel ih=>
  intro cs h;obtain⟨hl,n,hn,hf⟩:=KT Tryz.underlying25 h;rw [VO] at hl
  match cs,hl with
  | [a,b,c,d,e],_=>
   have h0:TwN Tryz.prog W n 5 (([a,b,c,d,e].drop 0).take (Tryz.prog.cellsOf 5)):=hf 0 _ rfl;rw [zf5] at h0;replace h0:TwN Tryz.prog W n 5 [a]:=h0;have h1:TwN Tryz.prog W n 22 (([a,b,c,d,e].drop 1).take (Tryz.prog.cellsOf 22)):=hf 1 _ rfl;rw [JA] at h1;replace h1:TwN Tryz.prog W n 22 [b]:=h1;have h2:TwN Tryz.prog W n 9 (([a,b,c,d,e].drop 2).take (Tryz.prog.cellsOf 9)):=hf 2 _ rfl;rw [xK] at h2;replace h2:TwN Tryz.prog W n 9 [c]:=h2;have h3:TwN Tryz.prog W n 3 (([a,b,c,d,e].drop 3).take (Tryz.prog.cellsOf 3)):=hf 3 _ rfl;rw [uM] at h3;replace h3:TwN Tryz.prog W n 3 [d]:=h3;have h4:TwN Tryz.prog W n 23 (([a,b,c,d,e].drop 4).take (Tryz.prog.cellsOf 23)):=hf 4 _ rfl;rw [zav] at h4;replace h4:TwN Tryz.prog W n 23 [e]:=h4;obtain⟨k,e0,_⟩:=Q6 Tryz.underlying5 h0.tw;obtain⟨r,e1,w1⟩:=u3 Tryz.underlying22 h1.tw;obtain⟨m,e2,w2⟩:=u3 Tryz.underlying9 h2.tw;obtain⟨z,e3,_⟩:=Q6 Tryz.underlying3 h3.tw
   obtain⟨l,v,e4,gl,_,hone,hr⟩:=Xb Ex.nil (λx=>Ex.cell x.kind x.rat x.name x.date x.sub.length x.deep) Ex.thin Tryz.underlying23 VO (by decide) (λn' cs' hn' h'=>by
    obtain⟨x,v,hx,rfl,hv,hr⟩:=ih n' (by omega) h';refine⟨x,hx,λo ho=> ?_⟩
    match o,ho with
    | 0,_=>exact⟨_,rfl,rfl,by simp [Ex.cell,Rep]⟩
    | 1,_=>exact⟨_,rfl,rfl,by simp [Ex.cell,Rep]⟩
    | 2,_=>exact⟨_,rfl,rfl,by simp [Ex.cell,Rep]⟩
    | 3,_=>exact⟨_,rfl,rfl,by simp [Ex.cell,Rep]⟩
    | 4,_=>exact⟨v,rfl,hv,hr⟩) h4
   cases e0; cases e1; cases e2; cases e3; cases e4;have hb:reachBytes<=2^48:=by decide
   refine⟨.mk k r m z l,_,?_,rfl,hone,?_⟩
   ·rw [Ex.thin]; exact⟨bP w1 hb,bP w2 hb,V4 gl⟩
   ·have hq:=Ex.qW (.mk k r m z l);simp only [Ex.sub] at hq ⊢;simp only [Rep] at hr ⊢;obtain⟨a,cap,hv,hle,hcase⟩:=hr;refine⟨a,cap,hv,hle,hcase.imp id λ⟨ad,g1,g2,g3⟩=>⟨ad,g1,g2,λj o hj ho=> ?_⟩⟩;obtain⟨g4,c,g5,g6,g7⟩:=g3 j o hj ho;refine⟨g4,c,g5,g6,?_⟩;rw [hq j o hj ho];exact g7
theorem kK{W:World}{cs:List Value}(h:Tw Tryz.prog W 25 cs):∃ x:Ex,x.thin/\Rep E0 W x.exA [] (.agg cs.toArray):=by
 obtain⟨fuel,h⟩:=h.twn;obtain⟨x,v,hx,rfl,_,hr⟩:=zc3 fuel h;refine⟨x,hx,?_⟩;have hq:=Ex.qW x
 have hr2:Rep E0 W (Ex.exS x.sub) [] v:=by
  simp only [Ex.exS,Rep] at hr ⊢;obtain⟨a,cap,hv,hle,hcase⟩:=hr;refine⟨a,cap,hv,hle,hcase.imp id λ⟨ad,g1,g2,g3⟩=>⟨ad,g1,g2,λj o hj ho=> ?_⟩⟩;obtain⟨g4,c,g5,g6,g7⟩:=g3 j o hj ho;exact⟨g4,c,g5,g6,by rw [<- hq j o hj ho]; exact g7⟩
 simp only [Ex.exA,Rep,RepL];exact⟨_,rfl,_,_,rfl,rfl,_,_,rfl,rfl,_,_,rfl,rfl,_,_,rfl,rfl,_,_,rfl,hr2,rfl⟩
theorem KC:Tryz.prog.cellsOf 83=1:=by kernel_rfl
theorem zfo:Tryz.prog.cellsOf 154=1:=by kernel_rfl
theorem zea:Tryz.prog.cellsOf 156=2:=by kernel_rfl
def shpE(H:Type):List (Lit×DataW H):=shpL.map λp=>(.int .u8 p.1,.agg [.slice (p.2.1.map λz=>.lit (.int .u8 z)) [],.lit (.int .u8 p.2.2)])
theorem zfx:∀ p∈shpL,y6 p.1=some p.2/\p.2.1≠[]:=by decide
theorem zga{k:Int}(h:je k=true):∃ q,(k,q)∈shpL:=by
 unfold je y6 at h;rw [Option.isSome_map] at h;obtain⟨p,hp⟩:=Option.isSome_iff_exists.1 h;have h1:=List.find?_some hp;have h2:=List.mem_of_find?_eq_some hp;have:p.1=k:=by simpa using h1
 exact⟨p.2,by rw [<- this]; exact h2⟩
theorem Xk{W:World}{cs:List Value}{fuel:Nat}{q:List MemPlace}{c:Value}(hc:W.cell? ⟨1,0,none⟩=some c)
  (h:DataW.trod (λ_=>()) Tryz.prog W 0 (λ_=>true) false fuel 158 [c]=some (.map (shpE Unit),q)) :
  Rep E0 W (.mp .u8 true 2 [] (λk=>je k) λk o=>match o with
   | 0=>.sl (jz k) 1 λj _=>.int .u8 (q6 k j)
   | _=>.int .u8 (qS k)) [] c/\∀ b,c = .map (some b)->b<W.heap.size:=by
 refine YO (g:=1) rfl Tryz.underlying158 Tryz.underlying5 hc (by decide) h ?_ ?_
 ·intro n d hd;obtain⟨p,hp,he⟩:=List.mem_map.1 hd;obtain⟨h1,h2⟩:=zfx p hp;simp only [bE,Lit.int.injEq,true_and] at he;obtain⟨rfl,rfl⟩:=he;refine⟨by simp [je,h1],λv m q' hf ht=> ?_⟩;obtain⟨xs,n',_,hx,hl,hlen,hfs⟩:=DataW.trod_struct Tryz.underlying156 ht;rw [zea] at hl;cases v with
  | agg cs=>
   simp only [Value.cells] at hl hfs;obtain⟨cs⟩:=cs;simp only at hl hfs
   match cs,hl with
   | [a,b],_=>
    have f0:DataW.trod _ Tryz.prog W 0 _ false n' 154 (([a,b].drop 0).take (Tryz.prog.cellsOf 154))=xs[0]?:=hfs 0 _ rfl;have f1:DataW.trod _ Tryz.prog W 0 _ false n' 83 (([a,b].drop 1).take (Tryz.prog.cellsOf 83))=xs[1]?:=hfs 1 _ rfl;rw [zfo] at f0;rw [KC] at f1
    match xs,hlen with
    | [x0,x1],_=>
     simp only [List.map_cons,List.map_nil,bE,DataW.agg.injEq,List.cons.injEq,and_true] at hx;obtain⟨⟨hx0,hx1⟩,_⟩:=hx;have f0:DataW.trod _ Tryz.prog W 0 _ false n' 154 [a]=some x0:=f0;have f1:DataW.trod _ Tryz.prog W 0 _ false n' 83 [b]=some x1:=f1;obtain⟨x0a,x0b⟩:=x0;obtain⟨x1a,x1b⟩:=x1;simp only at hx0 hx1;subst hx0; subst hx1;obtain⟨c0,e0,_,hr⟩:=zc1 Tryz.underlying154 Tryz.underlying83 KC h2 f0;cases e0;obtain⟨z,e1,e2,_⟩:=DataW.trod_int Tryz.underlying83 f1;cases e1;simp only [bE,DataW.lit.injEq,Lit.int.injEq,true_and] at e2;refine⟨[a,.int .u8 z],rfl,rfl,λo ho=> ?_⟩;have g1:qY p.1=p.2.1:=by simp [qY,h1]
     have g2:qS p.1=p.2.2:=by simp [qS,h1]
     match o,ho with
     | 0,_=>
      refine⟨a,rfl,?_⟩;show Rep E0 W (.sl (jz p.1) 1 λj _=>.int .u8 (q6 p.1 j)) [] a;unfold jz q6;rw [g1];exact hr
     | 1,_=>
      refine⟨_,rfl,?_⟩;show Rep E0 W (.int .u8 (qS p.1)) [] _;simp only [Rep];rw [g2,e2.1]
  | _=>simp [Value.formed,Tryz.underlying156] at hf
 ·intro n hn;obtain⟨q',hq⟩:=zga hn;exact⟨_,List.mem_map.2 ⟨_,hq,rfl⟩⟩
theorem zgn:Tryz.prog.globalNamed "novation/observable.shapes" = some 1:=by kernel_rfl
theorem zhs:(Tryz.prog.globals[1]?).map (·.type)=some 158:=by kernel_rfl
theorem zg6:(Rows.laid_novation_observable_shapes:DataW Unit) = .map (shpE Unit):=rfl
theorem KM{W:World} (h:laidMet Tryz.prog [("novation/observable.shapes",Rows.laid_novation_observable_shapes)] W):∃ c,W.cell? ⟨1,0,none⟩=some c /\
  Rep E0 W (.mp .u8 true 2 [] (λk=>je k) λk o=>match o with
   | 0=>.sl (jz k) 1 λj _=>.int .u8 (q6 k j)
   | _=>.int .u8 (qS k)) [] c/\∀ b,c = .map (some b)->b<W.heap.size:=by
 obtain⟨ps,⟨g0,t0,cs0,f0,p0,q0,hg0,ht0,hv0,hd0,_,_⟩,_,_⟩:=h;obtain rfl:=Option.some.inj (zgn.symm.trans hg0);obtain rfl:=Option.some.inj (zhs.symm.trans ht0);rw [zg6] at hd0
 have hone:∃ c,cs0.toList=[c]:=by
  rcases Go.WideElems.open_map Tryz.underlying158 hd0 with ⟨hcs,_⟩ | ⟨b,es,clock,n,_,hcs,_⟩
  ·exact⟨_,hcs⟩
  ·exact⟨_,hcs⟩
 obtain⟨c,hcs⟩:=hone;rw [hcs] at hd0
 have hcell:W.cell? ⟨1,0,none⟩=some c:=by
  have:=World.var?_cell hg0 hv0 0;rw [Array.eq_one_of_toList hcs] at this;simpa using this
 obtain⟨h1,h2⟩:=Xk (cs:=[c]) hcell hd0;exact⟨c,hcell,h1,h2⟩
theorem gOps:Tryz.prog.globalNamed "novation/observable.operations" = some 0:=by kernel_rfl
theorem tOps:(Tryz.prog.globals[0]?).map (·.type)=some 116:=by kernel_rfl
def opNm(b:L8):L8:=[40,42,110,111,118,97,116,105,111,110,47,111,98,115,101,114,118,97,98,108,101,46,115,116,97,116,101,41,46]++b
def opEs:List (Lit×DataW L8):=[(.int .u8 4,.held (opNm [97,100,100])),(.int .u8 5,.held (opNm [115,117,98])),(.int .u8 6,.held (opNm [109,117,108])),(.int .u8 7,.held (opNm [103,114,101,97,116,101,114])),(.int .u8 8,.held (opNm [115,109,97,108,108,101,114]))]
abbrev Wg:List (String×DataW Unit):=[("novation/observable.shapes",Rows.laid_novation_observable_shapes),("novation/observable.operations",Rows.laid_novation_observable_operations)]
def opsD:DataW Unit:=.map [(.int .u8 4,.iface "func" (.lit (.string (opNm [97,100,100])))),(.int .u8 5,.iface "func" (.lit (.string (opNm [115,117,98])))),(.int .u8 6,.iface "func" (.lit (.string (opNm [109,117,108])))),(.int .u8 7,.iface "func" (.lit (.string (opNm [103,114,101,97,116,101,114])))),(.int .u8 8,.iface "func" (.lit (.string (opNm [115,109,97,108,108,101,114]))))]
theorem zh8:(Rows.laid_novation_observable_operations:DataW Unit) = .iface "func table" opsD:=rfl
theorem zdc:opsD.funcsOut = .map opEs:=rfl
theorem zgm{W:World}{cs:List Value}{fuel:Nat}{q:List MemPlace}{c:Value}(hc:W.cell? ⟨0,0,none⟩=some c)
  (h:DataW.trod (funcToken Tryz.prog) Tryz.prog W 0 (λ_=>true) true fuel 116 [c]=some (.map opEs,q)) :
  Rep E0 W (.mp .u8 false 1 [4,5,6,7,8] (λk=>decide (4<=k/\k<=8)) λk _=>
  if k=4 then .fn 190 [] [] else if k=5 then .fn 191 [] [] else if k=6 then .fn 192 [] []
  else if k=7 then .fn 193 [] [] else .fn 194 [] []) [] c/\∀ b,c = .map (some b)->b<W.heap.size:=by
 refine YO (g:=0) rfl Tryz.underlying116 Tryz.underlying5 hc (by decide) h ?_ ?_
 ·intro n d hd
  have one:∀ {v:Value} {m:Nat} {q:List MemPlace} {bs:L8} {f0:Nat},((List.range Tryz.prog.funcs.size).filter λf=>(Tryz.prog.funcs[f]?).any (·.name.toUTF8.data.toList == 40::bs))=[f0] ->
    v.formed Tryz.prog 115=true->DataW.trod (funcToken Tryz.prog) Tryz.prog W 0 (λ_=>true) true m 115 v.cells.toList=some (.held (40::bs),q)->Rep E0 W (.fn f0 [] []) [] v:=by
   intro v m q bs f0 hone hf ht
   have hcell:v.cells.toList=[v]:=by
    cases v with
    | agg _=>simp [Value.formed,Tryz.underlying115] at hf
    | _=>rfl
   rw [hcell] at ht;have:=func_of_trod Tryz.underlying115 hone ht;subst this;simp [Rep,RepL]
  simp only [opEs,aM,bE,Lit.int.injEq,true_and,List.not_mem_nil,or_false] at hd;rcases hd with ⟨rfl,rfl⟩ | ⟨rfl,rfl⟩ | ⟨rfl,rfl⟩ | ⟨rfl,rfl⟩ | ⟨rfl,rfl⟩
  ·exact⟨rfl,λv m q hf ht=>one (f0:=190) (by kernel_rfl) hf ht⟩
  ·exact⟨rfl,λv m q hf ht=>one (f0:=191) (by kernel_rfl) hf ht⟩
  ·exact⟨rfl,λv m q hf ht=>one (f0:=192) (by kernel_rfl) hf ht⟩
  ·exact⟨rfl,λv m q hf ht=>one (f0:=193) (by kernel_rfl) hf ht⟩
  ·exact⟨rfl,λv m q hf ht=>one (f0:=194) (by kernel_rfl) hf ht⟩
 ·intro n hn;have hn:=aB hn;have:n=4\/n=5\/n=6\/n=7\/n=8:=by omega
  rcases this with rfl | rfl | rfl | rfl | rfl
  ·exact⟨_,.head _⟩
  ·exact⟨_,.tail _ (.head _)⟩
  ·exact⟨_,.tail _ (.tail _ (.head _))⟩
  ·exact⟨_,.tail _ (.tail _ (.tail _ (.head _)))⟩
  ·exact⟨_,.tail _ (.tail _ (.tail _ (.tail _ (.head _))))⟩
theorem zgg{W:World}(h:laidMetH Tryz.prog Wg W):vC E0 W:=by
 have h1:laidMet Tryz.prog [("novation/observable.shapes",Rows.laid_novation_observable_shapes)] W:=h.1;have h2:=laidMetH.funcs h (n:= "novation/observable.operations") (d:=opsD) (by simp [Wg,zh8]);obtain⟨c1,k1,r1,b1⟩:=KM h1;obtain⟨g0,t0,cs0,f0,p0,hg0,ht0,hv0,hd0⟩:=h2;obtain rfl:=Option.some.inj (gOps.symm.trans hg0);obtain rfl:=Option.some.inj (tOps.symm.trans ht0);rw [zdc] at hd0
 have hone:∃ c,cs0.toList=[c]:=by
  rcases Go.WideElems.open_map Tryz.underlying116 hd0 with ⟨hcs,_⟩ | ⟨b,es,clock,n,_,hcs,_⟩
  ·exact⟨_,hcs⟩
  ·exact⟨_,hcs⟩
 obtain⟨c2,hcs⟩:=hone;rw [hcs] at hd0
 have k2:W.cell? ⟨0,0,none⟩=some c2:=by
  have:=World.var?_cell hg0 hv0 0;rw [Array.eq_one_of_toList hcs] at this;simpa using this
 obtain⟨r2,b2⟩:=zgm (cs:=[c2]) k2 hd0;refine⟨λg a hz=>⟨JZ _,?_⟩⟩;by_cases hg:g=1
 ·subst hg;cases hz;exact⟨c1,k1,r1,b1⟩
 ·by_cases hg2:g=0
  ·subst hg2;cases hz;exact⟨c2,k2,r2,b2⟩
  ·have:Stat.z g=none:=by
    show(if _ then _ else if _ then _ else _)=_;rw [aO hg,aO hg2]
   rw [this] at hz; cases hz
theorem walk{W:World}{v0 v1 v2:List Value}(h0:Tw Tryz.prog W 25 v0)(h1:Tw Tryz.prog W 3 v1)(h2:Tw Tryz.prog W 29 v2)(hst:vC E0 W) :
  ∃ s1:Value,v1=[s1]/\Calls Tryz.prog 4 #[.agg v0.toArray,s1,.agg v2.toArray] W λe W'=>e = .returned (.bool true)/\Below W.heap.size W W':=by
 obtain⟨x,xg,xr⟩:=kK h0;obtain⟨day,rfl,dayg,dayr⟩:=zgc h1;obtain⟨v,vg,vr⟩:=zhu h2;refine⟨_,rfl,?_⟩;refine zam (fn:=Tryz.f4) (c:=Tryz.f4.body.getD .skip) rfl rfl rfl zdp (args:=[x.exA,.i day,envA v.1 v.2]) (vals:=[.agg v0.toArray,.i day,.agg v2.toArray]) ?_ ?_ hst
 ·refine⟨(x,day,v),⟨?_,⟨xg,dayg,vg⟩⟩,⟨true,rfl⟩,?_⟩
  ·simp [eqL,eqA,eqA0,eqL0,envA,fxS,chS,Fx.av,Ch.av,Ex.exA,Ex.exS,za]
  ·rintro _ rfl;rfl
 ·exact⟨_,_,rfl,xr,⟨_,_,rfl,dayr,⟨_,_,rfl,vr,rfl⟩⟩⟩
theorem own:ownKnob Tryz.prog.godebug=none:=by kernel_rfl
theorem laid:laidOutB Tryz.prog=true:=by kernel_rfl
theorem zb9(os:Os)(args:Array Value):laidMetH Tryz.prog Wg ((World.doorLaid Tryz.prog 400 os).forCall (λ_ _=>0) ⟨#[],args,[]⟩).memory:=
 laidMetH_of_parts3 (fuel:=8) (laidMet_of_run' 8 (by kernel_rfl) (by kernel_rfl)) (by kernel_rfl) (by kernel_rfl)
theorem lifted(os:Os)(started:os.Started)(H:Type)(enc:TypeId×Value->H) :
  ReturnsInHanded {} Tryz.checked os 4 .any (λw args=>(Rows.bumpRecordsSpec.pre enc Tryz.prog Tryz.f4 [] false w args/\laidMetH Tryz.prog Wg w)/\sizedMet enc Tryz.prog Tryz.f4 (OpenSpec.ofChange Rows.bumpRecordsSpec) false w args)
   (Rows.bumpRecordsSpec.post enc Tryz.prog Tryz.f4 false true false false):=by
 refine returnsInHanded_of_change_and (C:=Tryz.checked) (X:=λw _=>laidMetH Tryz.prog Wg w) (λ_ _ _ hh h=>h.of_heap hh) own started (by kernel_rfl) Tryz.func4
  (ChangeSpec.witness_shaped (enc:=enc) (C:=Tryz.checked) (os:=os) (X:=λw _=>laidMetH Tryz.prog Wg w) false (World.doorLaid Tryz.prog 400 os) #[.agg #[.int .u8 0,.string ⟨#[]⟩,.string ⟨#[]⟩,.i 0,.slice none 0 0],.i 0,.agg #[.slice none 0 0,.slice none 0 0]] 8 rfl (World.shaped_of_RefB (by kernel_rfl) (by kernel_rfl)) (by kernel_rfl) (by kernel_rfl) (by kernel_rfl) (zb9 os _)) ?_
 intro W base args ds gs before hval0 hW hcnd hwt hL _;have hval:∀ (j:Nat) t v,Tryz.f4.params[j]?=some t->args[j]?=some v->Value.okWide Tryz.prog W .any base t v:=hval0;have hW':=hW;obtain⟨p,q,hA0,hV,rfl,hfz,hnd⟩:=hW;have hA:DataW.TrodAll enc Tryz.prog W 0 (λ_=>true) true Tryz.f4.params.toList args.toList ds p:=hA0;rw [Tryz.params4] at hA hval;obtain⟨v0,vs0,d0,ds0,p0,q0,hargs,rfl,rfl,h0,r0⟩:=trodAll_cons hA;obtain⟨v1,vs1,d1,ds1,p1,q1,rfl,rfl,rfl,h1,r1⟩:=trodAll_cons r0;obtain⟨v2,vs2,d2,ds2,p2,q2,rfl,rfl,rfl,h2,r2⟩:=trodAll_cons r1;obtain⟨rfl,rfl,rfl⟩:=trodAll_nil r2;obtain rfl:args = #[v0,v1,v2]:=by cases args; simp_all
 obtain⟨rfl,rfl⟩:=trodVars_none hV;clear hA0 hval0;simp only [List.append_nil] at hW' hwt
 have hw:∀ (j:Nat) (t:TypeId) (d:DataW H),[25,3,29][j]?=some t->[d0,d1,d2][j]?=some d->∀ n∈d.weights Tryz.prog t,n<=reachBytes:=λj t d ht hd n hn=>by
  have:=bG.1 hwt n (DataW.weights_mem_each (j:=j) (t:=t) (d:=d) (by exact ht) (by exact hd) n hn);simpa using this
 obtain⟨c0,rfl,_⟩:=okWide_struct Tryz.underlying25 (hval 0 25 v0 rfl rfl);obtain⟨c1,rfl⟩:=okWide_int Tryz.underlying3 (hval 1 3 v1 rfl rfl);obtain⟨c2,rfl,_⟩:=okWide_struct Tryz.underlying29 (hval 2 29 v2 rfl rfl)
 have t0:Tw Tryz.prog W 25 c0.toList:=by
  obtain⟨fuel,hf⟩:=h0;exact⟨H,enc,0,fuel,d0,p0,by simpa [Value.cells] using hf,hw 0 _ d0 rfl rfl⟩
 have t1:Tw Tryz.prog W 3 [.i c1]:=by
  obtain⟨fuel,hf⟩:=h1;exact⟨H,enc,0,fuel,d1,p1,by simpa [Value.cells] using hf,hw 1 _ d1 rfl rfl⟩
 have t2:Tw Tryz.prog W 29 c2.toList:=by
  obtain⟨fuel,hf⟩:=h2;exact⟨H,enc,0,fuel,d2,p2,by simpa [Value.cells] using hf,hw 2 _ d2 rfl rfl⟩
 have hlt:∀ x∈p0++(p1++p2),x.block<W.heap.size:=λx hx=>by simpa using hW'.lt x (by simpa using hx)
 obtain⟨s1,e1,hcall⟩:=walk t0 t1 t2 (zgg hL);cases e1;simp only [Array.toArray_toList] at hcall;refine hcall.mono λe W' ⟨he,hb⟩=> ?_
 subst he;refine⟨_,rfl,_,_,_,[],p0++(p1++p2),[],hW',trodAll_mk1 (shut_bool Tryz.underlying4 true),?_,rfl,hb.frame _,λh=>by cases h⟩;exact trodAll_mk3 (Below.trod laid (by kernel_rfl) (aB (by kernel_rfl)) h0 hb λx hx=>hlt x (by simp [hx])) (Below.trod laid (by kernel_rfl) (aB (by kernel_rfl)) h1 hb λx hx=>hlt x (by simp [hx])) (Below.trod laid (by kernel_rfl) (aB (by kernel_rfl)) h2 hb λx hx=>hlt x (by simp [hx]))
theorem over:Rows.bumpRecordsRow.holds Tryz.pinned (OpenSpec.ofChange Rows.bumpRecordsSpec):=
 OpenClaim.holds_of_wide 4 Tryz.f4 rfl rfl rfl rfl rfl rfl rfl ⟨rfl,rfl,rfl,rfl,rfl⟩ rfl rfl rfl rfl rfl (by kernel_rfl) Tryz.func4 (by kernel_rfl)
  (aB (by kernel_rfl)) (by unfold Func.isWrapper; first | (rw [aP (by decide +kernel)]; kernel_rfl) | (rw [aO (by decide +kernel)]; exact⟨rfl,rfl⟩))
  (λos started H enc _=>lifted os started H enc)
theorem u4:Rows.BumpRecordsSaid:=over
theorem bumpRecords_holds:Rows.BumpRecordsCardSaid:=
 Claim7.holds_tied_plain_at .later [] [.mappedDeep,.funcs] true (true, "ab2de770cc5703e3626adf37d196ff22d575b6acd973fdd82550c7802670e158") false
  u4 (λ_ h=>by cases h) (by kernel_rfl) (λ_ h=>by cases h) bumpRecords_row_tie rfl ⟨rfl,rfl⟩ (by kernel_rfl) rfl
  (λf fn hf hfn=>by
   obtain rfl:f=4:=Option.some.inj ((show Tryz.prog.funcNamed "novation/novationlaw30.BumpRecords" = some 4 by kernel_rfl).symm.trans hf) |>.symm;obtain rfl:fn=Tryz.f4:=(Option.some.inj (Tryz.func4.symm.trans hfn)).symm
   exact⟨by kernel_rfl,λj t ht=>by
    rw [Tryz.params4] at ht;have hm:t∈[25,3,29]:=by simpa using Array.mem_of_getElem? ht
    have hall:([25,3,29].all λu=> !Tryz.prog.wantsStandIn u)=true:=by kernel_rfl
    exact(show Tryz.prog.wantsStandIn t=false by simpa using bG.1 hall t hm)⟩)
  (by kernel_rfl)
end Go.Proofs.YtfiocgnojggdjaaGreatDoor
end
