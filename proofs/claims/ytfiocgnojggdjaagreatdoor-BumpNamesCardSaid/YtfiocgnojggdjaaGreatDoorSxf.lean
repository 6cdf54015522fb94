/- Part 6 of the proof. -/
import Derived.Test.YtfiocgnojggdjaaGreatDoorSxe
set_option linter.unusedVariables false
set_option linter.unusedSimpArgs false
set_option linter.unusedSectionVars false
section
set_option maxRecDepth 100000
open Go Go.Sx Go.Proofs Go.Nov
namespace Go.Proofs.Tryz
attribute [local simp] eqKV eqA eqA0 eqH eqB eqL eqL0
noncomputable def K49:=Go.Sx.aA f49
noncomputable def bexI:Ctr:=inlC prog noG 100 f83
theorem zjg:zc prog 83 bexI:=kE hmix zA rfl rfl
noncomputable def bofI:Ctr:=inlC prog noG 100 f84
theorem zjp:zc prog 84 bofI:=kE hmix zA rfl rfl
def zC(l:List L8):Prop:=l.length<2^60/\∀ j,j<l.length->(l.getD j []).length<2^60
def K4:Ctr:=ctrP true (λp:Tp×List (L8)=>[p.1.av,ratS p.2]) (λp=>zg p.1=0/\(p.2.length:Int)=p.1.n/\allQ p.2) (λp r=>r=runF p.2 p.1.ops []) (λ_ (r:List L8×Int)=>(.tup [.osl 0 1 0 r.1.length,.i r.2],[.arr r.1.length 1 (ratG r.1)]))
theorem zh9{l:List (L8)}{v:L8}{n i:Nat}(h:l.length=i):eqG n 1 (updG (ratG l) i 0 [.str v]) (ratG (l++[v])):=by
 intro j o hj ho;have ho:o=0:=by omega
 subst ho;simp only [updG,ratG];by_cases hji:j=i
 ·subst hji; subst h;simp [List.getD]
 ·rw [aO (by simp [hji])];congr 1;simp only [List.getD,bT];split
  ·rfl
  ·rename_i g;rw [aZ (by omega),aZ (by simp; omega)]
theorem zbw(n:Nat):eqG n 1 (qb [.str []]) (ratG []):=by
 intro j o hj ho;have ho:o=0:=by omega
 subst ho;simp [qb,ratG]
def SBr(inp:List L8)(ops:List TOp)(i:Nat):KV:=[(1,ratS inp),(6,.ptr 2 0),(7,.osl 3 1 0 ops.length),(18,opS ops),(19,.i (ops.length:Int)),(20,.i (i:Int))]
def HBr(n:Int)(ops:List TOp)(l:List L8):Heap:=[.box [.i n,opS ops],.dead,.box [.fn 46 [] [],.fn 43 [] [],.fn 48 [] [],.fn 76 [] []],.arr ops.length 1 (ratG l)]
theorem Kf{ctr:Ctr}{Q:AV×Heap->Prop}(e:Int)(h:Heap)(hq:Q (.tup [.osl 0 1 0 ([]:List L8).length,.i e],[.arr ([]:List L8).length 1 (ratG [])])):RetR ctr 0 (upQ Q) [.nils,.i e] h:=by
 refine RetR.out0 (r:=.tup [.nils,.i e]) (.inr ⟨_,[(1,ratG [])],?_,hq⟩) (λ_=>by simp [resV,new2,new1,new0,qk]) (by simp [resV,exp2,exp1,exp0,ren0,eqA2,eqL1]);simp [upA2,upA1,upA0,upL1,upL0]
theorem Ka{n:Nat}{g:Nat->Nat->AV}{l:List (L8)}(h:eqG n 1 g (ratG l)):newB (.arr n 1 g):=by
 intro j o hj ho;rw [h j o hj ho]; rfl
theorem zhz{l:List (L8)}(h:allQ l)(j:Nat):(l.getD j []).length<=2003:=by
 by_cases g:j<l.length
 ·exact qa (jg h g)
 ·simp only [List.getD]; rw [aZ (by omega)]; simp
noncomputable def GT2:=tb zjg (tb zjp (tb y8 (tb kP (tb yp (tb Uu tz)))))
abbrev q28(A:List AV)(x:L8×L8):Prop:=eqL A [.str x.1,.str x.2]/\x.1.length<2305843009213693952/\x.2.length<2305843009213693952
theorem Y0:zc prog 49 K4:=by
 refine Vm (fn:=f49) (c:=f49.body.getD .skip) rfl rfl rfl λp hp O w0 Q hq=> ?_
 obtain⟨⟨n,ops⟩,inp⟩:=p;obtain⟨hc,hn,hqi⟩:=hp;replace hq:=hq _ rfl;simp only at hc hn hqi hq;refine zb.n GT2.h [1,6,7,18,19,20] (let v2:=Int.toNat ops.length;let v1:List AV:=[.fn 46 [] [],.fn 43 [] [],.fn 48 [] [],.fn 76 [] []];.side ((0:Int)<=ops.length/\(ops.length:Int)<=ops.length/\inR .i64 ops.length/\Int.toNat ops.length*16<=140737488355328) (.leaf (.loop (lps K49 0).1 (lps K49 0).2 [(1,.sl inp.length 1 (ratG inp)),(6,.ptr 2 0),(7,.osl 3 1 0 v2),(18,.sl ops.length 4 (opG ops)),(19,.i ops.length),(20,.i 0)] [.box [.i n,.sl ops.length 4 (opG ops)],.box v1,.box v1,.arr v2 1 (qb [.str #[].toList])]))) ?_;simp only [Tree.holds,ze];obtain⟨c1,c2,c3,c4,c5⟩:=jo.1 hc;simp only at c1 c2 c3 c4 c5;simp only [inR,lo,hi,aD];refine⟨⟨by omega,by omega,by omega,by omega⟩,λ_=> ?_⟩;refine zb.loop (ι:={p:Nat×List L8 // p.1<=ops.length/\p.2.length=p.1/\allQ p.2/\runF inp (ops.drop p.1) p.2=runF inp ops []}) (λp=>SBr inp ops p.1.1) (λp=>HBr n ops p.1.2) (λp=>ops.length - p.1.1) ⟨(0,[]),aI _,rfl,λx hx=>absurd hx (by simp),by simp⟩ 0 ?_ ?_ (by kernel_rfl)
 ·exact⟨by simp [SBr,ratS,opS,za],⟨by simp [opS,za],trivial,by simp,⟨rfl,rfl,zbw _⟩,trivial⟩,by kernel_rfl,aI _⟩
 rintro⟨⟨i,l⟩,hil,hll,hlq,hlr⟩;simp only at hil hll hlq hlr;refine zb.n GT2.h [1,6,7,18,19,20] (let v8:=inR .i64 (i+1);let v5:List AV:=[.i n,.sl ops.length 4 (opG ops)];let v3:List (Nat×AV):=[(1,.sl inp.length 1 (ratG inp)),(6,.ptr 2 0),(7,.osl 3 1 0 ops.length),(18,.sl ops.length 4 (opG ops)),(19,.i ops.length),(20,.i (i+1))];let v2:List AV:=[.fn 46 [] [],.fn 43 [] [],.fn 48 [] [],.fn 76 [] []];let v1:=ops.getD (i:Int).toNat TOp.nil;let v6:=q28 [.str (l.getD (0+Int.toNat v1.a) []),.str (l.getD (0+Int.toNat v1.b) [])];let v4:List AV:=[.int .u8 v1.kind,.i v1.a,.i v1.b,.str v1.rat];let v7:List Blk:=[.box v5,.dead,.box v2,.arr ops.length 1 (ratG l),.box v4,.box v2];.D ((i:Int)<ops.length) (.side ((0:Int)<=i/\(i:Int)<ops.length) (.D (TOp.kind v1=(1:Int)) (.side ((0:Int)<=TOp.a v1/\TOp.a v1 <(inp.length:Int)) (.side ((0:Int)<=i/\(i:Int)<ops.length) (.side v8 (.leaf (.back 0 v3 [.box v5,.dead,.box v2,.arr ops.length 1 (updG (ratG l) (0+Int.toNat i) 0 [.str (inp.getD (Int.toNat v1.a) [])]),.box v4]))))) (.D (TOp.kind v1=(2:Int)) (.side ((0:Int)<=i/\(i:Int)<ops.length) (.side v8 (.leaf (.back 0 v3 [.box v5,.dead,.box v2,.arr ops.length 1 (updG (ratG l) (0+Int.toNat i) 0 [.str v1.rat]),.box v4])))) (.side ((0:Int)<=TOp.a v1/\TOp.a v1 <(ops.length:Int)) (.side ((0:Int)<=TOp.b v1/\TOp.b v1 <(ops.length:Int)) (.D (TOp.kind v1=(3:Int)) (.ex v6 λn_1=>.all (λ(r:L8×Int)=>r=addR n_1.1 n_1.2) λn_2=>.N (n_2.2=0) (.R [.nils,.i n_2.2] v7) (.side ((0:Int)<=i/\(i:Int)<ops.length) (.side v8 (.leaf (.back 0 v3 [.box v5,.dead,.box v2,.arr ops.length 1 (updG (ratG l) (0+Int.toNat i) 0 [.str n_2.1]),.box v4,.box v2]))))) (.D (TOp.kind v1=(4:Int)) (.ex v6 λn_1=>.all (λ(r:L8×Int)=>r=subR n_1.1 n_1.2) λn_2=>.N (n_2.2=0) (.R [.nils,.i n_2.2] v7) (.side ((0:Int)<=i/\(i:Int)<ops.length) (.side v8 (.leaf (.back 0 v3 [.box v5,.dead,.box v2,.arr ops.length 1 (updG (ratG l) (0+Int.toNat i) 0 [.str n_2.1]),.box v4,.box v2]))))) (.D (TOp.kind v1=(5:Int)) (.ex v6 λn_1=>.all (λ(r:L8×Int)=>r=mulR n_1.1 n_1.2) λn_2=>.N (n_2.2=0) (.R [.nils,.i n_2.2] v7) (.side ((0:Int)<=i/\(i:Int)<ops.length) (.side v8 (.leaf (.back 0 v3 [.box v5,.dead,.box v2,.arr ops.length 1 (updG (ratG l) (0+Int.toNat i) 0 [.str n_2.1]),.box v4,.box v2]))))) (.ex v6 λn_1=>.all (λ(r:L8×Int)=>r=divR n_1.1 n_1.2) λn_2=>.N (n_2.2=0) (.R [.nils,.i n_2.2] v7) (.side ((0:Int)<=i/\(i:Int)<ops.length) (.side v8 (.leaf (.back 0 v3 [.box v5,.dead,.box v2,.arr ops.length 1 (updG (ratG l) (0+Int.toNat i) 0 [.str n_2.1]),.box v4,.box v2]))))))))))))) (.R [.osl 3 1 0 ops.length,.i 0] [.box v5,.dead,.box v2,.arr ops.length 1 (ratG l)])) ?_;simp only [q28,Tree.holds,ze,inR,lo,hi,aD];refine⟨λhlt=> ?_,λhge=> ?_⟩
 ·have hlt:i<ops.length:=by have:=aB hlt; omega
  have hok:=Z7 c5 hlt;rw [Uy hlt] at hlr;obtain⟨o,ho⟩:∃ o,ops.getD i TOp.nil=o:=⟨_,rfl⟩;rw [ho] at hlr hok;simp only [ho,Nat.zero_add];simp only at hok;refine⟨by omega,λ_=> ?_⟩;have hst:=VV hqi hn hlq (by rw [hll]; exact hok)
  have bad:∀ (e:Int) (h:Heap),(zP inp l o).2=e->e≠0->RetR K4 0 (upQ Q) [.nils,.i e] h:=by
   rintro e h rfl hne;rw [aP hne] at hlr;rw [<- hlr] at hq;exact Kf _ h hq
  have good:∀ (v:L8) (b:Heap),(zP inp l o).2=0->(zP inp l o).1=v->∃ x':{p:Nat×List L8 // p.1<=ops.length/\p.2.length=p.1/\allQ p.2/\runF inp (ops.drop p.1) p.2=runF inp ops []},ops.length - x'.1.1<ops.length - i /\
    LeK 0 f49.ntmps [(1,ratS inp),(6,.ptr 2 0),(7,.osl 3 1 0 ops.length),(18,opS ops),(19,.i (ops.length:Int)),(20,.i ((i:Int)+1))] ([.box [.i n,opS ops],.dead,.box [.fn 46 [] [],.fn 43 [] [],.fn 48 [] [],.fn 76 [] []],.arr ops.length 1 (updG (ratG l) i 0 [.str v])]++b) (SBr inp ops x'.1.1) (HBr n ops x'.1.2):=by
   rintro v b he rfl;rw [aO (by simp [he])] at hlr;refine⟨⟨(i+1,l++[(zP inp l o).1]),hlt,by simp [hll],JW hlq (hst he),hlr⟩,by show ops.length - (i+1)<ops.length - i; omega,?_,?_,rfl,aI _⟩
   ·simp [SBr,ratS,opS,za]
   ·simp only [HBr,List.cons_append];refine⟨by simp [opS,za],trivial,by simp,⟨rfl,rfl,?_⟩,by cases b<;>trivial⟩;exact zh9 hll
  have la:=zhz hlq;refine⟨λk1=> ?_,λk1=>⟨λk2=> ?_,λk2=> ?_⟩⟩
  ·have k1:=aB k1;have h1:=w4 hok;refine⟨by omega,λ_=>⟨by omega,λ_=>⟨by omega,λ_=> ?_⟩⟩⟩;rw [aP trivial];exact good _ [_] (by unfold zP; rw [aP k1]) (by unfold zP; rw [aP k1])
  ·have k1:=aC k1;have k2:=aB k2;refine⟨by omega,λ_=>⟨by omega,λ_=> ?_⟩⟩;rw [aP trivial];exact good _ [_] (by unfold zP; rw [aO k1,aP k2]) (by unfold zP; rw [aO k1,aP k2])
  ·have k1:=aC k1;have k2:=aC k2;have h1:=w4 hok;have hv:zP inp l o=arR o.kind (l.getD o.a.toNat []) (l.getD o.b.toNat []):=by unfold zP; rw [aO k1,aO k2]
   have fin:∀ (r:L8×Int) (h b:Heap),r=arR o.kind (l.getD o.a.toNat []) (l.getD o.b.toNat [])->((!decide (r.2=0))=true->RetR K4 0 (upQ Q) [.nils,.i r.2] h)/\((!decide (r.2=0))=false->(0<=(i:Int)/\(i:Int)<ops.length)/\(0<=(i:Int)/\(i:Int)<ops.length->(-9223372036854775808<=(i:Int)+1/\(i:Int)+1<=9223372036854775807)/\(-9223372036854775808<=(i:Int)+1/\(i:Int)+1<=9223372036854775807->if True then
     ∃ x':{p:Nat×List L8 // p.1<=ops.length/\p.2.length=p.1/\allQ p.2/\runF inp (ops.drop p.1) p.2=runF inp ops []},ops.length - x'.1.1<ops.length - i /\
    LeK 0 f49.ntmps [(1,ratS inp),(6,.ptr 2 0),(7,.osl 3 1 0 ops.length),(18,opS ops),(19,.i (ops.length:Int)),(20,.i ((i:Int)+1))] ([.box [.i n,opS ops],.dead,.box [.fn 46 [] [],.fn 43 [] [],.fn 48 [] [],.fn 76 [] []],.arr ops.length 1 (updG (ratG l) i 0 [.str r.1])]++b) (SBr inp ops x'.1.1) (HBr n ops x'.1.2) else False))):=by
    rintro r h b hr;rw [<- hv] at hr;refine⟨λh1=> ?_,λh1=>⟨by omega,λ_=>⟨by omega,λ_=> ?_⟩⟩⟩
    ·exact bad _ _ (by rw [hr]) (by simpa using h1)
    ·rw [aP trivial];exact good _ b (by rw [<- hr]; simpa using h1) (by rw [hr])
   refine⟨by omega,λ_=>⟨by omega,λ_=> ?_⟩⟩;have l1:=la o.a.toNat;have l2:=la o.b.toNat;refine⟨λk3=> ?_,λk3=>⟨λk4=> ?_,λk4=>⟨λk5=> ?_,λk5=> ?_⟩⟩⟩
   all_goals
    refine⟨(l.getD o.a.toNat [],l.getD o.b.toNat []),⟨⟨rfl,rfl,trivial⟩,by show(l.getD o.a.toNat []).length<_; omega,by show(l.getD o.b.toNat []).length<_; omega⟩,⟨_,rfl⟩,?_⟩;rintro _ rfl
   ·have k3:=aB k3;exact fin _ _ [_,_] (by unfold arR; rw [aP k3])
   ·have k3:=aC k3;have k4:=aB k4;exact fin _ _ [_,_] (by unfold arR; rw [aO k3,aP k4])
   ·have k3:=aC k3;have k4:=aC k4;have k5:=aB k5;exact fin _ _ [_,_] (by unfold arR; rw [aO k3,aO k4,aP k5])
   ·have k3:=aC k3;have k4:=aC k4;have k5:=aC k5;exact fin _ _ [_,_] (by unfold arR; rw [aO k3,aO k4,aO k5])
 ·have hge:i=ops.length:=by have:=aC hge; omega
  subst hge;rw [zbs] at hlr;rw [<- hlr] at hq;simp only at hq;rw [hll] at hq;refine RetR.outs [3] rfl rfl (.inl hq) (λ_=>⟨?_,?_⟩) ?_ ?_ rfl
  ·simp [resV,new2,new1,new0,z4,qk]
  ·simp only [aM,List.not_mem_nil,or_false,forall_eq];exact Ka (za _ _ _)
  ·simp [resV,exp2,exp1,exp0,z4,ren0,eqA2,eqL1]
  ·exact⟨⟨rfl,rfl,za _ _ _⟩,trivial⟩
noncomputable def K26:=Go.Sx.aA f26
noncomputable def K25:=Go.Sx.aA f25
def zdi:Ctr:=ctrP true (λp:Tp×List (L8)=>[p.1.av,ratS p.2]) (λp=>zi p.1/\zC p.2) (λp r=>r=trun p.1 p.2) (λ_ (r:List L8×Int)=>(.tup [.osl 0 1 0 r.1.length,.i r.2],[.arr r.1.length 1 (ratG r.1)]))
def SbRn(inp:List L8)(i:Nat):KV:=[(1,ratS inp),(2,.ptr 0 0),(20,ratS inp),(21,.i (inp.length:Int)),(22,.i (i:Int))]
def HbRn(n:Int)(ops:List TOp):Heap:=[.box [.i n,opS ops]]
noncomputable def GT3:=tb uo (tb jM (tb Y0 tz))
abbrev q30(A:List AV)(x:Tp×List L8):Prop:=eqL A [.agg [.i x.1.n,.sl x.1.ops.length 4 (opG x.1.ops)],.sl x.2.length 1 (ratG x.2)]/\zg x.1=0/\(↑x.2.length:Int)=Tp.n x.1/\allQ x.2
abbrev q29(A:List AV)(x:Tp):Prop:=eqL A [.agg [.i x.n,.sl x.ops.length 4 (opG x.ops)]]/\zi x
theorem Yy:zc prog 26 zdi:=by
 refine Vm (fn:=f26) (c:=f26.body.getD .skip) rfl rfl rfl λp hp O w0 Q hq=> ?_
 obtain⟨⟨n,ops⟩,inp⟩:=p;obtain⟨hs,hr⟩:=hp;replace hq:=hq _ rfl;simp only at hs hr hq;refine zb.n GT3.h [1,2,20,21,22] (let v1:List Blk:=[.box [.i n,.sl ops.length 4 (opG ops)]];.ex (q29 [.agg [.i n,.sl ops.length 4 (opG ops)]]) λn_1=>.all (λ(r:Int)=>r=zg n_1) λn_2=>.N (n_2=0) (.R [.nils,.i n_2] v1) (.N ((inp.length:Int)=n) (.R [.nils,.i 2] v1) (.leaf (.loop (lps K26 0).1 (lps K26 0).2 [(1,.sl inp.length 1 (ratG inp)),(2,.ptr 0 0),(20,.sl inp.length 1 (ratG inp)),(21,.i inp.length),(22,.i 0)] v1)))) ?_;simp only [q29,Tree.holds,ze]
 have bad:∀ (e:Int) (h:Heap),preT ⟨n,ops⟩ inp=e->e≠0->RetR zdi 0 (upQ Q) [.nils,.i e] h:=by
  rintro e h rfl hne;have e:trun ⟨n,ops⟩ inp=([],preT ⟨n,ops⟩ inp):=by unfold trun; rw [aP hne]
  rw [e] at hq;exact Kf _ h hq
 refine⟨⟨n,ops⟩,⟨⟨⟨⟨rfl,rfl⟩,⟨rfl,rfl,za _ _ _⟩,trivial⟩,trivial⟩,hs⟩,⟨_,rfl⟩,?_⟩;rintro _ rfl;refine⟨λh=> ?_,λh=>⟨λh2=> ?_,λh2=> ?_⟩⟩
 ·have h:zg ⟨n,ops⟩≠0:=by simpa using h
  exact bad _ _ (by unfold preT; rw [aP h]) h
 ·have h:zg ⟨n,ops⟩=0:=by simpa using h
  have h2:(inp.length:Int)≠n:=by simpa using h2
  exact bad _ _ (by unfold preT; rw [aO (by simp [h]),aP h2]) (by decide)
 have h:zg ⟨n,ops⟩=0:=by simpa using h
 have h2:(inp.length:Int)=n:=by simpa using h2
 have hpre:preT ⟨n,ops⟩ inp=xv inp:=by unfold preT; rw [aO (by simp [h]),aO (by simp [h2])]
 obtain⟨hr1,hr2⟩:=hr;refine zb.loop (ι:={i:Nat // i<=inp.length/\xv (inp.drop i)=xv inp}) (λi=>SbRn inp i.1) (λ_=>HbRn n ops) (λi=>inp.length - i.1) ⟨0,aI _,rfl⟩ 0 ?_ ?_ (by kernel_rfl)
 ·exact⟨by simp [SbRn,ratS,za],by simp [HbRn,opS,za],by kernel_rfl,aI _⟩
 rintro⟨i,hil,hie⟩;refine zb.n GT3.h [1,2,20,21,22] (let v1:List AV:=[.i n,.sl ops.length 4 (opG ops)];.D ((i:Int)<inp.length) (.side ((0:Int)<=i/\(i:Int)<inp.length) (.ex (q15 [.str (inp.getD (i:Int).toNat [])]) λn_1=>.all (λ(r:Int)=>r=errR n_1) λn_2=>.N (n_2=0) (.R [.nils,.i n_2] [.box v1]) (.S (i+1) (.leaf (.back 0 [(1,.sl inp.length 1 (ratG inp)),(2,.ptr 0 0),(20,.sl inp.length 1 (ratG inp)),(21,.i inp.length),(22,.i (i+1))] [.box v1]))))) (.ex (q30 [.agg [.i n,.sl ops.length 4 (opG ops)],.sl inp.length 1 (ratG inp)]) λn_1=>.all (λ(r:List L8×Int)=>r=runF n_1.2 n_1.1.ops []) λn_2=>.R [.osl 1 1 0 n_2.1.length,.i n_2.2] [.box v1,.arr n_2.1.length 1 (ratG n_2.1)])) ?_;simp only [q15,q30,Tree.holds,ze,inR,lo,hi,aD];refine⟨λhlt=> ?_,λhge=> ?_⟩
 ·have hlt:i<inp.length:=by have:=aB hlt; omega
  rw [Xc hlt] at hie;have hl:=hr2 i hlt;refine⟨by omega,λ_=>⟨inp.getD i [],⟨⟨rfl,trivial⟩,by omega⟩,⟨_,rfl⟩,?_⟩⟩;rintro _ rfl;refine⟨λh3=> ?_,λh3=>⟨by omega,λ_=> ?_⟩⟩
  ·have h3:errR (inp.getD i [])≠0:=by simpa using h3
   rw [aP h3] at hie;exact bad _ _ (by rw [hpre,hie]) h3
  ·have h3:errR (inp.getD i [])=0:=by simpa using h3
   rw [aO (λg=>g h3)] at hie;rw [aP trivial];exact⟨⟨i+1,hlt,hie⟩,by show inp.length - (i+1)<inp.length - i; omega,by simp [SbRn,ratS,za],by simp [HbRn,opS,za],by kernel_rfl,aI _⟩
 ·have hge:i=inp.length:=by have:=aC hge; omega
  subst hge;rw [List.drop_length] at hie;have hq0:allQ inp:=Wo.1 hie.symm;refine⟨(⟨n,ops⟩,inp),⟨⟨⟨⟨rfl,rfl⟩,⟨rfl,rfl,za _ _ _⟩,trivial⟩,⟨rfl,rfl,za _ _ _⟩,trivial⟩,h,h2,hq0⟩,⟨_,rfl⟩,?_⟩;rintro _ rfl;have e:trun ⟨n,ops⟩ inp=runF inp ops []:=by unfold trun; rw [aO]; rw [hpre,<- hie]; simp [xv]
  rw [e] at hq;refine RetR.outs [1] rfl rfl (.inl hq) (λ_=>⟨?_,?_⟩) ?_ ?_ rfl
  ·simp [resV,new2,new1,new0,z4,qk]
  ·simp only [aM,List.not_mem_nil,or_false,forall_eq];exact Ka (za _ _ _)
  ·simp [resV,exp2,exp1,exp0,z4,ren0,eqA2,eqL1]
  ·exact⟨⟨rfl,rfl,za _ _ _⟩,trivial⟩
theorem zdj{t:Tp}{inp:List (L8)}(h:(trun t inp).2=0):zg t=0/\allQ (trun t inp).1/\(trun t inp).1.length=t.ops.length:=by
 unfold trun at h ⊢;by_cases g:preT t inp=0
 ·rw [aO (λk=>k g)] at h ⊢;obtain⟨p1,p2,p3⟩:=Xy.1 g;obtain⟨c1,c2,c3,c4,c5⟩:=jo.1 p1;obtain⟨a1,a2,a3⟩:=uk (n:=t.n) p3 p2 t.ops [] _ (λy hy=>absurd hy (by simp)) (jJ c5 t.ops 0 (List.drop_zero)) (show runF inp t.ops []=((runF inp t.ops []).1,0) by rw [<- h]);exact⟨p1,a1,by simpa using a3⟩
 ·rw [aP g] at h; exact absurd h g
noncomputable def Yi:Ctr:=inlC prog noG 100 f37
theorem K0:zc prog 37 Yi:=kE hmix zA rfl rfl
def Vi:Ctr:=ctrP true (λp:Tp×List (L8)=>[p.1.av,ratS p.2]) (λp=>zi p.1/\zC p.2) (λp r=>r=z9 p.1 p.2) (λ_ (r:L8×Int)=>(.tup [.str r.1,.i r.2],[]))
noncomputable def GT4:=tb Yy (tb K0 tz)
abbrev q31(A:List AV)(x:Tp×List L8):Prop:=eqL A [.agg [.i x.1.n,.sl x.1.ops.length 4 (opG x.1.ops)],.sl x.2.length 1 (ratG x.2)]/\zi x.1/\zC x.2
theorem Zk:zc prog 19 Vi:=by
 refine zh' f19 λp hp O w0 Q hq=> ?_
 obtain⟨⟨n,ops⟩,inp⟩:=p;replace hq:=hq _ rfl;simp only at hp hq;refine zb.n GT4.h [] (.ex (q31 [.agg [.i n,.sl ops.length 4 (opG ops)],.sl inp.length 1 (ratG inp)]) λn_1=>.all (λ(r:List L8×Int)=>r=trun n_1.1 n_1.2) λn_2=>let v1:List Blk:=[.box [.i n,.sl ops.length 4 (opG ops)],.arr n_2.1.length 1 (ratG n_2.1)];.N (n_2.2=0) (.R [.str #[].toList,.i n_2.2] v1) (.S ((↑n_2.1.length:Int) - (1:Int)) (.side ((0:Int)<=n_2.1.length - (1:Int)/\(↑n_2.1.length:Int) - (1:Int)<n_2.1.length) (.R [.str (List.getD n_2.1 (0+Int.toNat ((↑n_2.1.length:Int) - (1:Int))) []),.i 0] v1)))) ?_;simp only [q31,Tree.holds,ze];refine⟨(⟨n,ops⟩,inp),⟨⟨⟨⟨rfl,rfl⟩,⟨rfl,rfl,za _ _ _⟩,trivial⟩,⟨rfl,rfl,za _ _ _⟩,trivial⟩,hp.1,hp.2⟩,⟨_,rfl⟩,?_⟩;intro r hr;replace hr:r=trun ⟨n,ops⟩ inp:=hr;unfold z9 je at hq;rw [<- hr] at hq;simp only [inR,lo,hi];refine⟨λh=> ?_,λh=> ?_⟩
 ·have h:r.2≠0:=by simpa using h
  rw [aP h] at hq;exact RetR.scal hq rfl (by simp [resV])
 ·have h:r.2=0:=by simpa using h
  rw [aO (λg=>g h)] at hq;obtain⟨c,_,l⟩:=zdj (hr▸h);rw [<- hr] at l;obtain⟨c1,_,_,c4,_⟩:=jo.1 c;refine⟨by omega,λ_=>⟨by omega,λ_=> ?_⟩⟩;have e:0+((r.1.length:Int) - 1).toNat=r.1.length - 1:=by omega
  rw [e];exact RetR.scal hq rfl (by simp [resV])
def zc4:Ctr:=ctrP true (λp:Tp×Int=>[p.1.av,.i p.2]) (λp=>zi p.1) (λp r=>r=degT p.1 p.2) (λ_ (r:Int×Int)=>(.tup [.i r.1,.i r.2],[]))
theorem Wr{l:List Int}{v:Int}{n i:Nat}(h:l.length=i):eqG n 1 (tgI .i64 (updI (dgF l) i v)) (tgI .i64 (dgF (l++[v]))):=by
 intro j o hj ho;simp only [tgI,updI,dgF];congr 1;by_cases hji:j=i
 ·subst hji; subst h;simp [List.getD]
 ·rw [aO hji];simp only [List.getD,bT];split
  ·rfl
  ·rename_i g;rw [aZ (by omega),aZ (by simp; omega)]
theorem zho(n:Nat):eqG n 1 (qb [.i 0]) (tgI .i64 (dgF [])):=by
 intro j o hj ho;have ho:o=0:=by omega
 subst ho;simp [qb,tgI,dgF]
theorem zh2{l:List Int}{n i:Nat}(h:l.length=i):eqG n 1 (tgI .i64 (dgF l)) (tgI .i64 (dgF (l++[0]))):=by
 intro j o hj ho;simp only [tgI,dgF];congr 1;simp only [List.getD,bT];split
 ·rfl
 ·rename_i g;rw [aZ (by omega)];by_cases hji:j=l.length
  ·subst hji; simp
  ·rw [aZ (by simp; omega)]
def SbDg(k:Int)(ops:List TOp)(i:Nat):KV:=[(1,.i k),(7,.osl 1 1 0 ops.length),(27,opS ops),(28,.i (ops.length:Int)),(29,.i (i:Int)),Z 38,Z 39,Z 40,Z 41,Z 69,Z 70,Z 73,Z 74,Z 75,Z 76,Z 77,Z 78,Z 79]
def HbDg(n:Int)(ops:List TOp)(l:List Int):Heap:=[.box [.i n,opS ops],.arrI .i64 ops.length (dgF l)]
noncomputable def GT5:=tb uo (tb V9 tz)
theorem Ux:zc prog 25 zc4:=by
 refine zh' f25 λp hp O w0 Q hq=> ?_
 obtain⟨⟨n,ops⟩,k⟩:=p;replace hq:=hq _ rfl;simp only at hp hq;refine zb.n GT5.h [1,7,27,28,29,38,39,40,41,69,70,73,74,75,76,77,78,79] (let v2:=Int.toNat ops.length;let v1:List AV:=[.i n,.sl ops.length 4 (opG ops)];.ex (q29 [.agg [.i n,.sl ops.length 4 (opG ops)]]) λn_1=>.all (λ(r:Int)=>r=zg n_1) λn_2=>.N (n_2=0) (.R [.i 0,.i n_2] [.box v1]) (.ite (!bif decide ((0:Int)<=k) then decide (k<n) else false) (.R [.i 0,.i 2] [.box v1]) (.side ((0:Int)<=ops.length/\(ops.length:Int)<=ops.length/\inR .i64 ops.length/\Int.toNat ops.length*8<=140737488355328) (.leaf (.loop (lps K25 0).1 (lps K25 0).2 [(1,.i k),(7,.osl 1 1 0 v2),(27,.sl ops.length 4 (opG ops)),(28,.i ops.length),(29,.i 0),Z 38,Z 39,Z 40,Z 41,Z 69,Z 70,Z 73,Z 74,Z 75,Z 76,Z 77,Z 78,Z 79] [.box v1,.arr v2 1 (qb [.i 0])]))))) ?_;simp only [q29,Tree.holds,ze];refine⟨⟨n,ops⟩,⟨⟨⟨⟨rfl,rfl⟩,⟨rfl,rfl,za _ _ _⟩,trivial⟩,trivial⟩,hp⟩,⟨_,rfl⟩,?_⟩;rintro _ rfl;refine⟨λh=> ?_,λh=>⟨λh2=> ?_,λh2=> ?_⟩⟩
 ·have h:zg ⟨n,ops⟩≠0:=by simpa using h
  unfold degT at hq;rw [aP h] at hq;exact RetR.scal hq rfl (by simp [resV])
 ·have h:zg ⟨n,ops⟩=0:=by simpa using h
  have h2:¬ (0<=k/\k<n):=by
   rintro⟨g1,g2⟩;rw [aX g1,aX g2] at h2;cases h2
  unfold degT at hq;rw [aO (λg=>g h),aO h2] at hq;exact RetR.scal hq rfl (by simp [resV])
 have h:zg ⟨n,ops⟩=0:=by simpa using h
 have h2:0<=k/\k<n:=by
  by_cases g1:0<=k
  ·by_cases g2:k<n
   ·exact⟨g1,g2⟩
   ·rw [aX g1,aW g2] at h2; cases h2
  ·rw [aW g1] at h2; cases h2
 obtain⟨c1,c2,c3,c4,c5⟩:=jo.1 h;simp only at c1 c2 c3 c4 c5;simp only [inR,lo,hi,aD];refine⟨⟨by omega,by omega,by omega,by omega⟩,λ_=> ?_⟩;unfold degT at hq;rw [aO (λg=>g h),aP h2] at hq;refine zb.loop (ι:={p:Nat×List Int // p.1<=ops.length/\p.2.length=p.1/\(∀ j,degB (p.2.getD j 0))/\degF k (ops.drop p.1) p.2=degF k ops []}) (λp=>SbDg k ops p.1.1) (λp=>HbDg n ops p.1.2) (λp=>ops.length - p.1.1) ⟨(0,[]),aI _,rfl,λj=>by simp [degB],by simp⟩ 0 ?_ ?_ (by kernel_rfl)
 ·exact⟨by simp [SbDg,opS,za],⟨by simp [opS,za],⟨rfl,rfl,zho _⟩,trivial⟩,by kernel_rfl,aI _⟩
 rintro⟨⟨i,l⟩,hil,hll,hlb,hlr⟩;simp only at hil hll hlb hlr;refine zb.n GT5.h [1,7,27,28,29,38,39,40,41,69,70,73,74,75,76,77,78,79] (let v7:=updI (dgF l) (0+Int.toNat i) (1:Int);let v5:=inR .i64 (i+1);let v4:List AV:=[.i n,.sl ops.length 4 (opG ops)];let v2:List (Nat×AV):=[(1,.i k),(7,.osl 1 1 0 ops.length),(27,.sl ops.length 4 (opG ops)),(28,.i ops.length),(29,.i (i+1)),Z 38,Z 39,Z 40,Z 41,Z 69,Z 70,Z 73,Z 74,Z 75,Z 76,Z 77,Z 78,Z 79];let v1:=ops.getD (i:Int).toNat TOp.nil;let v10:=decide (TOp.kind v1=(5:Int));let v9:=decide (TOp.kind v1 <=(2:Int));let v8:=dgF l (0+Int.toNat v1.a)+dgF l (0+Int.toNat v1.b);let v6:=updI (dgF l) (0+Int.toNat i) (1:Int) (0+Int.toNat v1.a)+updI (dgF l) (0+Int.toNat i) (1:Int) (0+Int.toNat v1.b);let v3:List AV:=[.int .u8 v1.kind,.i v1.a,.i v1.b,.str v1.rat];.D ((i:Int)<ops.length) (.side ((0:Int)<=i/\(i:Int)<ops.length) (.ite (bif decide (TOp.kind v1=(1:Int)) then decide (TOp.a v1=k) else false) (.side ((0:Int)<=i/\(i:Int)<ops.length) (.ite v9 (.side v5 (.leaf (.back 0 v2 [.box v4,Blk.arrI .i64 ops.length v7,.box v3]))) (.side ((0:Int)<=TOp.a v1/\TOp.a v1 <(ops.length:Int)) (.side ((0:Int)<=TOp.b v1/\TOp.b v1 <(ops.length:Int)) (.ite (bif bif decide (updI (dgF l) (0+Int.toNat i) (1:Int) (0+Int.toNat v1.a)=(-1:Int)) then true else decide (updI (dgF l) (0+Int.toNat i) (1:Int) (0+Int.toNat v1.b)=(-1:Int)) then true else bif decide (TOp.kind v1=(6:Int)) then decide ((0:Int)<updI (dgF l) (0+Int.toNat i) (1:Int) (0+Int.toNat v1.b)) else false) (.side ((0:Int)<=i/\(i:Int)<ops.length) (.side v5 (.leaf (.back 0 v2 [.box v4,Blk.arrI .i64 ops.length (updI v7 (0+Int.toNat i) (-1:Int)),.box v3])))) (.ite v10 (.S v6 (.side ((0:Int)<=i/\(i:Int)<ops.length) (.side v5 (.leaf (.back 0 v2 [.box v4,Blk.arrI .i64 ops.length (updI v7 (0+Int.toNat i) (min v6 (1000:Int))),.box v3]))))) (.side ((0:Int)<=i/\(i:Int)<ops.length) (.side v5 (.leaf (.back 0 v2 [.box v4,Blk.arrI .i64 ops.length (updI v7 (0+Int.toNat i) (max (updI (dgF l) (0+Int.toNat i) (1:Int) (0+Int.toNat v1.a)) (updI (dgF l) (0+Int.toNat i) (1:Int) (0+Int.toNat v1.b)))),.box v3])))))))))) (.ite v9 (.side v5 (.leaf (.back 0 v2 [.box v4,Blk.arrI .i64 ops.length (dgF l),.box v3]))) (.side ((0:Int)<=TOp.a v1/\TOp.a v1 <(ops.length:Int)) (.side ((0:Int)<=TOp.b v1/\TOp.b v1 <(ops.length:Int)) (.ite (bif bif decide (dgF l (0+Int.toNat v1.a)=(-1:Int)) then true else decide (dgF l (0+Int.toNat v1.b)=(-1:Int)) then true else bif decide (TOp.kind v1=(6:Int)) then decide ((0:Int)<dgF l (0+Int.toNat v1.b)) else false) (.side ((0:Int)<=i/\(i:Int)<ops.length) (.side v5 (.leaf (.back 0 v2 [.box v4,Blk.arrI .i64 ops.length (updI (dgF l) (0+Int.toNat i) (-1:Int)),.box v3])))) (.ite v10 (.S v8 (.side ((0:Int)<=i/\(i:Int)<ops.length) (.side v5 (.leaf (.back 0 v2 [.box v4,Blk.arrI .i64 ops.length (updI (dgF l) (0+Int.toNat i) (min v8 (1000:Int))),.box v3]))))) (.side ((0:Int)<=i/\(i:Int)<ops.length) (.side v5 (.leaf (.back 0 v2 [.box v4,Blk.arrI .i64 ops.length (updI (dgF l) (0+Int.toNat i) (max (dgF l (0+Int.toNat v1.a)) (dgF l (0+Int.toNat v1.b)))),.box v3]))))))))))) (.S (ops.length-1) (.side ((0:Int)<=ops.length - (1:Int)/\(ops.length:Int) - (1:Int)<ops.length) (.R [.i (dgF l (0+Int.toNat (ops.length-1))),.i 0] [.box v4,Blk.arrI .i64 ops.length (dgF l)])))) ?_;simp only [Tree.holds,ze,inR,lo,hi,aD,Nat.zero_add];refine⟨λhlt=> ?_,λhge=> ?_⟩
 ·have hlt:i<ops.length:=by have:=aB hlt; omega
  have hok:=Z7 c5 hlt;rw [zao hlt] at hlr;obtain⟨o,ho⟩:∃ o,ops.getD i TOp.nil=o:=⟨_,rfl⟩;rw [ho] at hlr hok;simp only [ho];simp only at hok
  have good:∀ (v:Int) (f:Nat->Int) (bx:Blk),degS k o l=v->eqG ops.length 1 (tgI .i64 f) (tgI .i64 (dgF (l++[v]))) ->
    (-9223372036854775808<=(i:Int)+1/\(i:Int)+1<=9223372036854775807)/\(-9223372036854775808<=(i:Int)+1/\(i:Int)+1<=9223372036854775807->if True then ∃ x':{p:Nat×List Int // p.1<=ops.length/\p.2.length=p.1/\(∀ j,degB (p.2.getD j 0))/\degF k (ops.drop p.1) p.2=degF k ops []},ops.length - x'.1.1<ops.length - i /\
    LeK 0 f25.ntmps [(1,.i k),(7,.osl 1 1 0 ops.length),(27,opS ops),(28,.i (ops.length:Int)),(29,.i ((i:Int)+1)),Z 38,Z 39,Z 40,Z 41,Z 69,Z 70,Z 73,Z 74,Z 75,Z 76,Z 77,Z 78,Z 79] [.box [.i n,opS ops],.arrI .i64 ops.length f,bx] (SbDg k ops x'.1.1) (HbDg n ops x'.1.2) else False):=by
   rintro v f bx rfl hg;refine⟨by omega,λ_=> ?_⟩;rw [aP trivial];refine⟨⟨(i+1,l++[degS k o l]),hlt,by simp [hll],λj=> ?_,hlr⟩,by show ops.length - (i+1)<ops.length - i; omega,by simp [SbDg,opS,za],⟨by simp [opS,za],⟨rfl,hg⟩,trivial⟩,by kernel_rfl,aI _⟩;have hd:=zkf (i:=k) (o:=o) hlb;have hj:=hlb j;simp only [List.getD,bT] at hj ⊢;split
   ·exact hj
   ·rename_i g;by_cases g2:j - l.length=0
    ·rw [g2]; exact hd
    ·rw [aZ (by simp; omega)]; exact⟨by decide,by decide⟩
  have ri:(0:Int)<=(i:Int)/\(i:Int)<ops.length:=by omega
  have h1:=w4 hok;have ha:=hlb o.a.toNat;have hb:=hlb o.b.toNat;refine⟨ri,λ_=>⟨λk1=>⟨ri,λ_=>⟨λk2=> ?_,λk2=> ?_⟩⟩,λk1=>⟨λk2=> ?_,λk2=> ?_⟩⟩⟩
  ·have g:o.kind=1/\o.a=k:=by
    by_cases g1:o.kind=1
    ·by_cases g2:o.a=k
     ·exact⟨g1,g2⟩
     ·rw [aX g1,aW g2] at k1; cases k1
    ·rw [aW g1] at k1; cases k1
   exact good 1 (updI (dgF l) i 1) _ (by unfold degS; rw [aP g.1,aP g.2]) (Wr hll)
  ·exfalso
   have g:o.kind=1:=by
    by_cases g1:o.kind=1
    ·exact g1
    ·rw [aW g1] at k1; cases k1
   have:=aC k2;omega
  ·have k2:=aB k2;refine good 0 (dgF l) _ ?_ (zh2 hll);unfold degS;by_cases g1:o.kind=1
   ·rw [aP g1,aO];intro g2;rw [aX g1,aX g2] at k1; cases k1
   ·rw [aO g1,aP (by omega)]
  ·have k2:=aC k2
   have e0:degS k o l=if dgF l o.a.toNat<0\/dgF l o.b.toNat<0 then -1 else if o.kind=5 then min (dgF l o.a.toNat+dgF l o.b.toNat) 1000 else if o.kind=6 then(if 0<dgF l o.b.toNat then -1 else dgF l o.a.toNat) else max (dgF l o.a.toNat) (dgF l o.b.toNat):=by
    unfold degS;rw [aO (by omega),aO (by omega)]; rfl
   replace ha:degB (dgF l o.a.toNat):=ha;replace hb:degB (dgF l o.b.toNat):=hb;generalize dgF l o.a.toNat=x at *
   generalize dgF l o.b.toNat=y at *
   obtain⟨ha1,ha2⟩:=ha;obtain⟨hb1,hb2⟩:=hb;refine⟨by omega,λ_=>⟨by omega,λ_=>⟨λk3=>⟨ri,λ_=> ?_⟩,λk3=>⟨λk4=>⟨by omega,λ_=>⟨ri,λ_=> ?_⟩⟩,λk4=>⟨ri,λ_=> ?_⟩⟩⟩⟩⟩
   ·refine good (-1) (updI (dgF l) i (-1)) _ ?_ (Wr hll);rw [e0];by_cases g1:x = -1
    ·rw [aP (by omega)]
    ·by_cases g2:y = -1
     ·rw [aP (by omega)]
     ·rw [aW g1,aW g2] at k3;by_cases g3:o.kind=6
      ·by_cases g4:0<y
       ·rw [aO (by omega),aO (by omega),aP g3,aP g4]
       ·rw [aX g3,aW g4] at k3; cases k3
      ·rw [aW g3] at k3; cases k3
   all_goals
    have k5:¬ (x<0\/y<0)/\(o.kind=6->¬ 0<y):=by
     refine⟨?_,λg3 g4=> ?_⟩
     ·rintro(g | g)
      ·rw [aX (show x = -1 by omega)] at k3; cases k3
      ·rw [aX (show y = -1 by omega)] at k3;by_cases g1:x = -1
       ·rw [aX g1] at k3; cases k3
       ·rw [aW g1] at k3; cases k3
     ·rw [aX g3,aX g4] at k3;by_cases g1:x = -1
      ·rw [aX g1] at k3; cases k3
      ·by_cases g2:y = -1
       ·rw [aW g1,aX g2] at k3; cases k3
       ·rw [aW g1,aW g2] at k3; cases k3
   ·refine good _ (updI (dgF l) i _) _ ?_ (Wr hll);rw [e0,aO k5.1,aP (aB k4)]
   ·refine good _ (updI (dgF l) i _) _ ?_ (Wr hll);rw [e0,aO k5.1,aO (aC k4)];by_cases g6:o.kind=6
    ·rw [aP g6,aO (k5.2 g6)];have:=k5.2 g6;omega
    ·rw [aO g6]
 ·have hge:i=ops.length:=by have:=aC hge; omega
  subst hge;rw [zdh] at hlr;refine⟨by omega,λ_=>⟨by omega,λ_=> ?_⟩⟩;simp only at hq;rw [<- hlr] at hq;have e:((ops.length:Int) - 1).toNat=ops.length - 1:=by omega
  rw [e];exact RetR.scal hq rfl (by simp [resV,dgF])
end Go.Proofs.Tryz
end
section
namespace Go.Nov
end Go.Nov
end
section
namespace Go.Sx
variable [Stat]
section
variable {O:Nat->Prop} {pin:Nat} {w0:World} {I0:List SE} {P:Program} {fn:Func} {Xp:List PanicEntry->Prop}
end
end Go.Sx
end
section
set_option maxRecDepth 100000
open Go Go.Sx Go.Proofs Go.Nov
namespace Go.Proofs.Tryz
attribute [local simp] eqKV eqA eqA0 eqH eqB eqL eqL0
noncomputable def K12:=Go.Sx.aA f12
theorem yG{α:Type}{l m:List α}{i:Nat}{z:α}(h1:i<l.length)(h2:i<m.length)(h:l.take i=m.take i)(hg:l.getD i z=m.getD i z):l.take (i+1)=m.take (i+1):=by
 rw [List.take_add_one,List.take_add_one,h];congr 1;simp only [List.getD,aF h1,aF h2,Option.getD_some] at hg ⊢;rw [hg]
def StSt(i:Nat):KV:=[(2,.ptr 0 0),(3,.ptr 1 0),(5,.i (i:Int))]
def HtSt(n n':Int)(l m:List TOp):Heap:=[.box [.i n,opS l],.box [.i n',opS m]]
def KK:Ctr:=ctrP true (λp:Tp×Tp=>[p.1.av,p.2.av]) (λp=>p.1.ops.length<2^60) (λp r=>(r=true↔p.1=p.2)) (λ_ (r:Bool)=>(.bool r,[]))
theorem zdg:zc prog 12 KK:=by
 refine zh' f12 λp hp O w0 Q hq=> ?_
 obtain⟨⟨n,l⟩,⟨n',m⟩⟩:=p;simp only at hp hq;refine zb.n zA [2,3,5] (let v1:List Blk:=[.box [.i n,.sl l.length 4 (opG l)],.box [.i n',.sl m.length 4 (opG m)]];.ite (bif !decide (n=n') then true else !decide ((l.length:Int)=m.length)) (.R [.bool false] v1) (.leaf (.loop (lps K12 0).1 (lps K12 0).2 [(2,.ptr 0 0),(3,.ptr 1 0),(5,.i 0)] v1))) ?_;simp only [Tree.holds,ze];have no:∀ h,Tp.mk n l≠Tp.mk n' m->RetR KK 0 Q [.bool false] h:=λh g=>RetR.scal (hq false (by simp [g])) rfl (by simp [resV])
 refine⟨λh=>no _ ?_,λh=> ?_⟩
 ·intro g; cases g; simp at h
 rw [orf] at h;have hn:n=n':=by simpa using h.1
 have hlm:l.length=m.length:=Int.ofNat.inj (show(l.length:Int)=m.length by simpa using h.2);subst hn;refine zb.loop (ι:={i:Nat // i<=l.length/\l.take i=m.take i}) (λi=>StSt i.1) (λ_=>HtSt n n l m) (λi=>l.length - i.1) ⟨0,aI _,by simp⟩ 0 ?_ ?_ (by kernel_rfl)
 ·exact⟨by simp [StSt],by simp [HtSt,opS,za],by kernel_rfl,aI _⟩
 rintro⟨i,hil,hie⟩;refine zb.n zA [2,3,5] (let v3:=m.getD (i:Int).toNat TOp.nil;let v2:=l.getD (i:Int).toNat TOp.nil;let v1:List Blk:=[.box [.i n,.sl l.length 4 (opG l)],.box [.i n,.sl m.length 4 (opG m)]];.D ((i:Int)<l.length) (.side ((0:Int)<=i/\(i:Int)<l.length) (.side ((0:Int)<=i/\(i:Int)<m.length) (.ite (!(decide (TOp.kind v2=TOp.kind v3)&&(decide (TOp.a v2=TOp.a v3)&&(decide (TOp.b v2=TOp.b v3)&&(decide (TOp.rat v2=TOp.rat v3)&&true))))) (.R [.bool false] v1) (.S (i+1) (.leaf (.back 0 [(2,.ptr 0 0),(3,.ptr 1 0),(5,.i (i+1))] v1)))))) (.R [.bool true] v1)) ?_;simp only [Tree.holds,ze,inR,lo,hi,aD,Nat.zero_add];refine⟨λhlt=> ?_,λhge=> ?_⟩
 ·have hlt:i<l.length:=by have:=aB hlt; omega
  refine⟨by omega,λ_=>⟨by omega,λ_=>⟨λh1=>no _ ?_,λh1=>⟨by omega,λ_=> ?_⟩⟩⟩⟩
  ·intro g; cases g; simp at h1
  ·have h1:l.getD i TOp.nil=m.getD i TOp.nil:=by
    simp only [Bool.not_eq_false',bA,aK,and_true] at h1;generalize l.getD i TOp.nil=x at h1 ⊢;generalize m.getD i TOp.nil=y at h1 ⊢;obtain⟨a,b,c,d⟩:=x;obtain⟨a',b',c',d'⟩:=y;simp only at h1;obtain⟨rfl,rfl,rfl,rfl⟩:=h1;rfl
   rw [aP trivial];refine⟨⟨i+1,hlt,yG hlt (by omega) hie h1⟩,by show l.length - (i+1)<l.length - i; omega,by simp [StSt],by simp [HtSt,opS,za],by kernel_rfl,aI _⟩
 ·have hge:i=l.length:=by have:=aC hge; omega
  subst hge;rw [bD,hlm,bD] at hie;exact RetR.scal (hq true (by simp [hie])) rfl (by simp [resV])
noncomputable def K13:=Go.Sx.aA f13
def StSf(l m:List Fx)(i:Nat):KV:=[(0,fxS l),(1,fxS m),(5,.i (i:Int))]
def X6:Ctr:=ctrP true (λp:List Fx×List Fx=>[fxS p.1,fxS p.2]) (λp=>p.1.length<2^60) (λp r=>(r=true↔p.1=p.2)) (λ_ (r:Bool)=>(.bool r,[]))
theorem ze2:zc prog 13 X6:=by
 refine zh' f13 λp hp O w0 Q hq=> ?_
 obtain⟨l,m⟩:=p;simp only at hp hq;refine zb.n zA [0,1,5] (.N ((l.length:Int)=m.length) (.R [.bool false] []) (.leaf (.loop (lps K13 0).1 (lps K13 0).2 [(0,.sl l.length 3 (fxG l)),(1,.sl m.length 3 (fxG m)),(5,.i 0)] []))) ?_;simp only [Tree.holds,ze];have no:∀ h,l≠m->RetR X6 0 Q [.bool false] h:=λh g=>RetR.scal (hq false (by simp [g])) rfl (by simp [resV])
 refine⟨λh=>no _ ?_,λh=> ?_⟩
 ·intro g; rw [g] at h; simp at h
 have hlm:l.length=m.length:=Int.ofNat.inj (show(l.length:Int)=m.length by simpa using h);refine zb.loop (ι:={i:Nat // i<=l.length/\l.take i=m.take i}) (λi=>StSf l m i.1) (λ_=>[]) (λi=>l.length - i.1) ⟨0,aI _,by simp⟩ 0 ?_ ?_ (by kernel_rfl)
 ·exact⟨by simp [StSf,fxS,za],by simp,by kernel_rfl,aI _⟩
 rintro⟨i,hil,hie⟩;refine zb.n zA [0,1,5] (let v2:=m.getD (i:Int).toNat Fx.nil;let v1:=l.getD (i:Int).toNat Fx.nil;.D ((i:Int)<l.length) (.side ((0:Int)<=i/\(i:Int)<l.length) (.side ((0:Int)<=i/\(i:Int)<m.length) (.ite (!(decide (Fx.name v1=Fx.name v2)&&(decide (Fx.date v1=Fx.date v2)&&(decide (Fx.value v1=Fx.value v2)&&true)))) (.R [.bool false] []) (.S (i+1) (.leaf (.back 0 [(0,.sl l.length 3 (fxG l)),(1,.sl m.length 3 (fxG m)),(5,.i (i+1))] [])))))) (.R [.bool true] [])) ?_;simp only [Tree.holds,ze,inR,lo,hi,aD,Nat.zero_add];refine⟨λhlt=> ?_,λhge=> ?_⟩
 ·have hlt:i<l.length:=by have:=aB hlt; omega
  refine⟨by omega,λ_=>⟨by omega,λ_=>⟨λh1=>no _ ?_,λh1=>⟨by omega,λ_=> ?_⟩⟩⟩⟩
  ·intro g; cases g; simp at h1
  ·have h1:l.getD i Fx.nil=m.getD i Fx.nil:=by
    simp only [Bool.not_eq_false',bA,aK,and_true] at h1;generalize l.getD i Fx.nil=x at h1 ⊢;generalize m.getD i Fx.nil=y at h1 ⊢;obtain⟨a,b,c⟩:=x;obtain⟨a',b',c'⟩:=y;simp only at h1;obtain⟨rfl,rfl,rfl⟩:=h1;rfl
   rw [aP trivial];refine⟨⟨i+1,hlt,yG hlt (by omega) hie h1⟩,by show l.length - (i+1)<l.length - i; omega,by simp [StSf,fxS,za],by simp,by kernel_rfl,aI _⟩
 ·have hge:i=l.length:=by have:=aC hge; omega
  subst hge;rw [bD,hlm,bD] at hie;exact RetR.scal (hq true (by simp [hie])) rfl (by simp [resV])
end Go.Proofs.Tryz
end
section
namespace Go.Sx
variable [Stat]
section
variable {O:Nat->Prop} {pin:Nat} {w0:World} {I0:List SE} {w:World} {σ:List SE} {P:Program} {st:St} {a:Act} {fn:Func} {Xp:List PanicEntry->Prop}
theorem Jm{own:Nat->Prop}{i sz:Nat}(he:σ[i]?=some ⟨none,0⟩):∀ (cs:List AV) (j:Nat) (vs:List Value),cs[j]?=some .nils->RepL own w cs σ vs->RepL own w (cs.set j (.osl i sz 0 0)) σ vs
 | [],j,_,h,_=>by simp at h
 | b::l,0,vs,h,hr=>by
  simp only [List.getElem?_cons_zero,aE] at h;subst h;simp only [RepL] at hr;obtain⟨v,r,rfl,h1,h2⟩:=hr;simp only [Rep] at h1;simp only [List.set_cons_zero,RepL];refine⟨v,r,rfl,?_,h2⟩;rw [h1];simp only [Rep];exact⟨⟨none,0⟩,he,by simp,none,0,rfl,aJ _,.inl rfl⟩
 | b::l,j+1,vs,h,hr=>by
  simp only [List.getElem?_cons_succ] at h;simp only [RepL] at hr;obtain⟨v,r,rfl,h1,h2⟩:=hr;simp only [List.set_cons_succ,RepL];exact⟨v,r,rfl,h1,Jm he l j r h h2⟩
def Uo(st:St)(i j sz:Nat)(g:Nat->Nat->AV)(cs:List AV):St:=⟨st.tmps,st.heap.set i (.box (cs.set j (.osl st.heap.length sz 0 0)))++[.arr 0 sz g]⟩
theorem UA(hm:Mod O pin w0 I0 w σ st a){i j sz:Nat}{g:Nat->Nat->AV}{cs:List AV}(hb:st.heap[i]?=some (.box cs))(hj:cs[j]?=some .nils)(hno:st.tmps.all qn=true):Mod O pin w0 I0 w (σ++[⟨none,0⟩]) (Uo st i j sz g cs) a:=by
 obtain⟨k1,k2,k3⟩:=Yl hm.good hm.hp sz g;have hx:=ext_nil (O:=O) w σ 0;have hlt:=(aG.1 hb).1
 have hp:HRep (Own O (σ++[⟨none,0⟩])) w (σ++[⟨none,0⟩]) ((st.heap++[Blk.arr 0 sz g]).set i (Blk.box (cs.set j (.osl st.heap.length sz 0 0)))):=by
  refine W4 k1 λe he=> ?_
  have h1:=k1.blk i e (.box cs) he (by rw [bL hlt]; exact hb);simp only [BRep] at h1 ⊢;obtain⟨ad,vs,el,q1,q2,q3,q4⟩:=h1;exact⟨ad,vs,el,q1,q2,q3,Jm (by rw [<- hm.hp.len]; simp) cs j vs hj q4⟩
 rw [List.set_append_left _ _ hlt] at hp;refine⟨k2,hp,by simp [Uo,hm.size],λu=> ?_,hm.df.ext hx,hm.since.trans ⟨hx,λ_ _ _=>rfl,vK.of k3 (by simp)⟩,hm.lim⟩;have hu:=hm.tm u;show TRep _ _ _ _ (st.tmps.getD u .undef) _
 have hn:qn (st.tmps.getD u .undef)=true:=by
  by_cases hlt:u<st.tmps.length
  ·simp only [List.getD,aF hlt,Option.getD_some];exact bG.1 hno _ (bK hlt)
  ·simp only [List.getD];rw [aZ (by omega)]; rfl
 generalize st.tmps.getD u .undef=x at hu hn;cases x with
 | opt _ _ _=>simp [qn] at hn
 | _=>simp only [TRep] at hu ⊢; exact qi hx k3 _ _ (j6 _) hu
theorem zb.zj0{M:Option Nat}{Hs:Nat->KV->Heap->Prop}{R:List AV->Heap->Prop}{k:List Item}{kv:KV}{h:Heap}(i j sz:Nat)(g:Nat->Nat->AV){cs:List AV}(hb:h[i]?=some (.box cs))(hj:cs[j]?=some .nils)(hno:(pk fn.ntmps kv).all qn=true)
  (H:zS Xp M P fn O pin w0 I0 Hs R k (mk fn.ntmps kv (h.set i (.box (cs.set j (.osl h.length sz 0 0)))++[.arr 0 sz g]))):zS Xp M P fn O pin w0 I0 Hs R k (mk fn.ntmps kv h):=
 λw σ a hm=>H w _ a (UA hm hb hj hno)
end
end Go.Sx
end
section
namespace Go.Nov
def askE(x:Ex)(want day:Int)(f:List Fx)(c:List Ch):Int:=if x.errX≠0 then x.errX else if x.zz≠want then 32 else if errE f c≠0 then errE f c else if dayB day then 0 else 2
def qK(x:Ex)(day:Int)(f:List Fx)(c:List Ch):L8×Int:=if askE x 1 day f c≠0 then([],askE x 1 day f c) else if(x.ev f day).e≠0 then([],(x.ev f day).e) else((x.ev f day).v,0)
def ue(x:Ex)(day:Int)(f:List Fx)(c:List Ch):Bool×Int:=if askE x 2 day f c≠0 then(false,askE x 2 day f c) else if(x.ev f day).g≠0 then(false,(x.ev f day).g) else((x.ev f day).b,0)
theorem zl0{x:Ex}{want day:Int}{f:List Fx}{c:List Ch}(h:x.errX≠0):askE x want day f c=x.errX:=by unfold askE; rw [aP h]
theorem zl5{x:Ex}{want day:Int}{f:List Fx}{c:List Ch}(h:x.errX=0)(h2:¬ x.zz=want):askE x want day f c=32:=by unfold askE; rw [aO (by rw [h]; simp),aP h2]
theorem zd1{x:Ex}{want day:Int}{f:List Fx}{c:List Ch}(h:x.errX=0)(h2:x.zz=want):askE x want day f c=if errE f c=0 then(if dayB day=true then 0 else 2) else errE f c:=by
 unfold askE;rw [aO (by rw [h]; simp),aO (by rw [h2]; simp)];by_cases g:errE f c=0
 ·rw [aP g,aO (by rw [g]; simp)]
 ·rw [aO g,aP g]
theorem Q4{x:Ex}{want day:Int}{f:List Fx}{c:List Ch}(h:askE x want day f c=0):x.errX=0/\x.zz=want/\errE f c=0/\dayB day=true:=by
 unfold askE at h;split at h
 ·rename_i g; exact absurd h g
 ·rename_i g1;split at h
  ·cases h
  ·rename_i g2;split at h
   ·rename_i g; exact absurd h g
   ·rename_i g3;split at h
    ·rename_i g4;exact⟨Classical.not_not.1 g1,Classical.not_not.1 g2,Classical.not_not.1 g3,g4⟩
    ·cases h
end Go.Nov
end
section
namespace Go.Nov
open Go.Sx
structure Pt(x y:Ex):Prop where
 x0:x.errX=0
 x1:x.zz=1
 y0:y.errX=0
 y1:y.zz=1
 s:x.size+y.size<500
 d1:x.depth<60
 d2:y.depth<60
section
variable {x y:Ex} {day:Int} {f:List Fx} {c:List Ch} (h:Pt x y)
include h
end
end Go.Nov
end
section
namespace Go.Nov
open Go.Sx
structure RS where
 ops:List TOp
 inp:List Fx
namespace RS
def put(s:RS)(o:TOp):RS:=⟨s.ops++[o],s.inp⟩
def idx(s:RS)(n:L8)(d:Int):Nat:=s.inp.findIdx λx=>decide (x.name=n)&&decide (x.date=d)
def fix(f:List Fx)(n:L8)(d:Int)(s:RS):RS:=if s.idx n d<s.inp.length then s.put ⟨1,s.idx n d,0,[]⟩ else⟨s.ops++[⟨1,s.inp.length,0,[]⟩],s.inp++[⟨n,d,(wG f n d).1⟩]⟩
end RS
def rcN(f:List Fx)(day k:Int)(r n:L8)(d:Int)(l:List Ev)(L:List (RS->RS))(s:RS):RS:=
 if k=1 then s.put ⟨2,0,0,r⟩ else if k=2 then s.fix f n d else if k=3 then s.fix f n day
 else if k=9 then(if(l.getD 0 Ev.nil).b then L.getD 1 id s else L.getD 2 id s)
 else if k=7 then(if(cmpR (l.getD 0 Ev.nil).v (l.getD 1 Ev.nil).v).1<0 then L.getD 1 id s else L.getD 0 id s)
 else if k=8 then(if 0<(cmpR (l.getD 0 Ev.nil).v (l.getD 1 Ev.nil).v).1 then L.getD 1 id s else L.getD 0 id s)
 else(L.getD 1 id (L.getD 0 id s)).put ⟨k - 1,((L.getD 0 id s).ops.length:Int) - 1,((L.getD 1 id (L.getD 0 id s)).ops.length:Int) - 1,[]⟩
namespace Ex
mutual
def rc(f:List Fx)(day:Int):Ex->RS->RS
 | mk k r n d s=>rcN f day k r n d (evs f day s) (rcs f day s)
def rcs(f:List Fx)(day:Int):List Ex->List (RS->RS)
 | []=>[]
 | x::l=>rc f day x::rcs f day l
end
theorem zii(f:List Fx)(day:Int)(x:Ex):x.rc f day=rcN f day x.kind x.rat x.name x.date (evs f day x.sub) (rcs f day x.sub):=by cases x; rw [rc]; rfl
theorem Yu{f:List Fx}{day:Int}{s:List Ex}{i:Nat}(h:i<s.length):(rcs f day s).getD i id=(s.getD i nil).rc f day:=by
 induction s generalizing i with
 | nil=>simp at h
 | cons x s ih=>
  rw [rcs];cases i with
  | zero=>rfl
  | succ i=>exact ih (by simpa using h)
end Ex
theorem zce{l0 l1:Ev}{g:L8->L8->L8×Int}(h:(kS [] l0 l1 g).2=0):l0.e=0/\l1.e=0/\kS [] l0 l1 g=g l0.v l1.v:=by
 unfold kS at h ⊢;by_cases a:l0.e=0
 ·by_cases b:l1.e=0
  ·rw [aO (λq=>q a),aO (λq=>q b)]; exact⟨a,b,rfl⟩
  ·rw [aO (λq=>q a),aP b] at h; exact absurd h b
 ·rw [aP a] at h; exact absurd h a
theorem ev_v(f:List Fx)(day:Int)(x:Ex):(x.ev f day).v=(valN f day x.kind x.rat x.name x.date (Ex.evs f day x.sub)).1/\(x.ev f day).e=(valN f day x.kind x.rat x.name x.date (Ex.evs f day x.sub)).2:=by
 rw [Ex.zl1]; exact⟨rfl,rfl⟩
theorem Vp{x:Ex}{i:Nat}(h:i<x.sub.length):(x.sub.getD i Ex.nil).size<x.size:=by
 have:=Ex.qf h;rw [Ex.size_eq x]; omega
theorem zai{s:List Ex}(h:s.length=2):(s.getD 0 Ex.nil).size+(s.getD 1 Ex.nil).size=Ex.z6 s:=by
 match s,h with
 | [a,b],_=>simp [Ex.z6]
end Go.Nov
end
section
set_option maxRecDepth 100000
open Go Go.Sx Go.Proofs Go.Nov
namespace Go.Proofs.Tryz
attribute [local simp] eqKV eqA eqA0 eqH eqB eqL eqL0
def Ji(l:List Fx):List Sc->Bool:=λk=>l.any λx=>decide (k=[.inr x.name,.inl x.date])
def zas(l:List Fx):List Sc->AV:=λk=>.i (l.findIdx λx=>decide (k=[.inr x.name,.inl x.date]):Nat)
def HRc(s:RS)(day:Int)(f:List Fx)(c:List Ch):Heap:=[.box [.i 0,.osl 1 4 0 s.ops.length,.osl 2 3 0 s.inp.length,.omap 3,.i day,fxS f,chS c],.arr s.ops.length 4 (opG s.ops),.arr s.inp.length 3 (fxG s.inp),.map true [.inr false,.inl .i64] (Ji s.inp) (zas s.inp)]
theorem zfi{l:List TOp}{o:TOp} : eqG (l.length+1) 4 (appG l.length (opG l) (zf (zd 4 [.int .u8 o.kind,.i o.a,.i o.b,.str o.rat]) 0)) (opG (l++[o])):=by
 intro j p hj hp;simp only [appG,opG,zf,zd];by_cases q:j<l.length
 ·rw [aP q];simp only [List.getD,bL q]
 ·rw [aO q];obtain rfl:j=l.length:=by omega
  have e:(l++[o]).getD l.length TOp.nil=o:=by simp [List.getD]
  rw [e];rcases(show p=0\/p=1\/p=2\/p=3 by omega) with rfl | rfl | rfl | rfl<;>simp [TOp.cell]
structure XRc where
 s:RS
 day:Int
 f:List Fx
 c:List Ch
 o:TOp
def ze1:Ctr:=ctrM 1 (λp:XRc=>[.ptr 0 0,.agg [.int .u8 p.o.kind,.i p.o.a,.i p.o.b,.str p.o.rat]]) (λp=>HRc p.s p.day p.f p.c)
 (λp=>p.s.ops.length<2^40) (λ_ (_:Unit)=>True) (λp _=>(.i (p.s.ops.length:Nat),HRc (p.s.put p.o) p.day p.f p.c))
theorem YX:zc prog 50 ze1:=by
 refine Wt (fn:=f50) (c:=f50.body.getD .skip) rfl rfl rfl λp hp O w0 I0 Q hl0 hq=> ?_
 obtain⟨⟨ops,inp⟩,day,f,c,⟨ok,oa,ob,orat⟩⟩:=p;replace hq:=hq () trivial;simp only at hp hq;refine zb.n zA [] (let v1:List AV:=[.int .u8 ok,.i oa,.i ob,.str orat];.side (0=0/\ops.length<=ops.length/\(ops.length+1)*40<=140737488355328) (.S ((↑(ops.length+1):Int) - (1:Int)) (.R [.i ((↑(ops.length+1):Int) - (1:Int))] [.box [.i 0,.osl 1 4 0 (ops.length+1),.osl 2 3 0 inp.length,.omap 3,.i day,.sl f.length 3 (fxG f),.sl c.length 4 (chG c)],.arr (ops.length+1) 4 (appG ops.length (opG ops) (zf (zd 4 v1) 0)),.arr inp.length 3 (fxG inp),Blk.map true [Sum.inr false,Sum.inl .i64] (λ(k:List Sc)=>List.any inp λ(x:Fx)=>decide (k=[Sum.inr x.name,Sum.inl x.date])) λk=>.int .i64 ↑(List.findIdx (λ(x:Fx)=>decide (k=[Sum.inr x.name,Sum.inl x.date])) inp),.box v1,.arr 1 4 (zd 4 v1)]))) ?_;simp only [Tree.holds,ze];have e1:((ops.length+1:Nat):Int) - 1=ops.length:=by omega
 refine⟨⟨trivial,aJ _,by omega⟩,λ_=>⟨by simp only [inR,lo,hi]; omega,λ_=> ?_⟩⟩;rw [e1];refine RetR.keep [0,1,2,3] rfl (by simp) (by show ∀ j,j<4->_; decide) rfl hq (by simp [resV,exp2,exp1,exp0,ren0,eqA2,eqL1]) ?_ rfl;refine⟨?_,⟨by simp [RS.put],rfl,zfi (o:=⟨ok,oa,ob,orat⟩)⟩,⟨rfl,rfl,za _ _ _⟩,⟨⟨rfl,.inl rfl⟩,rfl,λ_=>rfl,λ_ _=>rfl⟩,trivial⟩;simp [expB,exp1,exp0,ren0,z4,RS.put,fxS,chS,za]
noncomputable def K69:=Go.Sx.aA f69
def nanS:Ctr:=ctrP true (λs:L8=>[.str s]) (λ_=>True) (λs r=>r=false) (λ_ (r:Bool)=>(.bool r,[]))
def nanI:Ctr:=ctrP true (λx:Int=>[.i x]) (λ_=>True) (λs r=>r=false) (λ_ (r:Bool)=>(.bool r,[]))
theorem zg8:zc prog 110 nanS:=by
 refine zh' f110 λs hs O w0 Q hq=> ?_
 replace hq:=hq _ rfl;refine zb.n zA [] (.R [.bool !decide (s=s)] []) ?_;simp only [Tree.holds,ze];exact RetR.scal hq rfl (by simp [resV])
theorem zhm:zc prog 111 nanI:=by
 refine zh' f111 λs hs O w0 Q hq=> ?_
 replace hq:=hq _ rfl;refine zb.n zA [] (.R [.bool !decide (s=s)] []) ?_;simp only [Tree.holds,ze];exact RetR.scal hq rfl (by simp [resV])
def zis:Ctr:=ctrP true (λp:L8×L8=>[.str p.1,.str p.2]) (λ_=>True) (λp r=>r=cmpS p.1 p.2) (λ_ (r:Int)=>(.i r,[]))
def ziy:Ctr:=ctrP true (λp:Int×Int=>[.i p.1,.i p.2]) (λ_=>True) (λp r=>r=cmpI p.1 p.2) (λ_ (r:Int)=>(.i r,[]))
noncomputable def GN2:=tb zg8 (tb zhm tz)
theorem zh4:zc prog 70 zis:=by
 refine zh' f70 λp hs O w0 Q hq=> ?_
 obtain⟨s,t⟩:=p;replace hq:=hq _ rfl;simp only at hq;refine zb.n GN2.h [] (.ex (λ(x:L8)=>eqL [.str s] [.str x]/\True) λn=>.all (λ(r:Bool)=>r=false) λn=>.ex (λ(x:L8)=>eqL [.str t] [.str x]/\True) λn_1=>.all (λ(r:Bool)=>r=false) λn_2=>.ite n (.ite n_2 (.R [.int .i64 0] []) (.R [.int .i64 (-1:Int)] [])) (.ite n_2 (.R [.int .i64 1] []) (.ite (Op.bytesLess s t) (.R [.int .i64 (-1:Int)] []) (.ite (!(Op.bytesLess s t||decide (s=t))) (.R [.int .i64 1] []) (.R [.int .i64 0] []))))) ?_;simp only [Tree.holds,ze];refine⟨s,⟨by simp,trivial⟩,⟨_,rfl⟩,?_⟩;rintro _ rfl;refine⟨t,⟨by simp,trivial⟩,⟨_,rfl⟩,?_⟩;rintro _ rfl;refine⟨λh=>(by cases h),λ_=>⟨λh=>(by cases h),λ_=>⟨λh=> ?_,λh=>⟨λh2=> ?_,λh2=> ?_⟩⟩⟩⟩
 ·have:cmpS s t = -1:=by simp [cmpS,h]
  rw [this] at hq; exact RetR.scal hq rfl (by simp [resV])
 ·have h2:s≠t:=by simpa [h] using h2
  have:cmpS s t=1:=by simp [cmpS,h,h2]
  rw [this] at hq; exact RetR.scal hq rfl (by simp [resV])
 ·have h2:s=t:=by simpa [h] using h2
  subst h2;have:cmpS s s=0:=by simp [cmpS,h]
  rw [this] at hq; exact RetR.scal hq rfl (by simp [resV])
abbrev q32(A:List AV)(x:Int):Prop:=eqL A [.i x]/\True
theorem zh0:zc prog 71 ziy:=by
 refine zh' f71 λp hs O w0 Q hq=> ?_
 obtain⟨s,t⟩:=p;replace hq:=hq _ rfl;simp only at hq;refine zb.n GN2.h [] (.ex (q32 [.i s]) λn=>.all (λ(r:Bool)=>r=false) λn=>.ex (q32 [.i t]) λn_1=>.all (λ(r:Bool)=>r=false) λn_2=>.ite n (.ite n_2 (.R [.i 0] []) (.R [.i (-1:Int)] [])) (.ite n_2 (.R [.i 1] []) (.D (s<t) (.R [.i (-1:Int)] []) (.D (t<s) (.R [.i 1] []) (.R [.i 0] []))))) ?_;simp only [q32,Tree.holds,ze];refine⟨s,⟨by simp,trivial⟩,⟨_,rfl⟩,?_⟩;rintro _ rfl;refine⟨t,⟨by simp,trivial⟩,⟨_,rfl⟩,?_⟩;rintro _ rfl;refine⟨λh=>(by cases h),λ_=>⟨λh=>(by cases h),λ_=>⟨λh=> ?_,λh=>⟨λh2=> ?_,λh2=> ?_⟩⟩⟩⟩
 ·have h:=aB h;have:cmpI s t = -1:=by simp [cmpI,h]
  rw [this] at hq; exact RetR.scal hq rfl (by simp [resV])
 ·have h:=aC h;have h2:=aB h2;have:cmpI s t=1:=by simp [cmpI,h,h2]
  rw [this] at hq; exact RetR.scal hq rfl (by simp [resV])
 ·have h:=aC h;have h2:=aC h2;have:cmpI s t=0:=by simp [cmpI,h,h2]
  rw [this] at hq; exact RetR.scal hq rfl (by simp [resV])
def orC:Ctr:=ctrP true (λl:List Int=>[.sl l.length 1 (λj _=>.i (l.getD j 0))]) (λl=>l.length<2^40) (λl r=>r=orI l) (λ_ (r:Int)=>(.i r,[]))
def SOr(l:List Int)(i:Nat):KV:=[(3,.i 0),(6,.sl l.length 1 (λj _=>.i (l.getD j 0))),(7,.i (l.length:Int)),(8,.i (i:Int))]
theorem zkt:zc prog 69 orC:=by
 refine zh' f69 λl hl O w0 Q hq=> ?_
 replace hq:=hq _ rfl;refine zb.n zA [3,6,7,8] (.leaf (.loop (lps K69 0).1 (lps K69 0).2 [(3,.i 0),(6,.sl l.length 1 λ(j x:Nat)=>.i (l.getD j (0:Int))),(7,.i l.length),(8,.i 0)] [])) ?_;simp only [Tree.holds,ze];refine zb.loop (ι:={i:Nat // i<=l.length/\orI (l.drop i)=orI l}) (λi=>SOr l i.1) (λ_=>[]) (λi=>l.length - i.1) ⟨0,aI _,rfl⟩ 0 ?_ ?_ (by kernel_rfl)
 ·exact⟨by simp [SOr,za],by simp,by kernel_rfl,aI _⟩
 ·rintro⟨i,hil,hio⟩;refine zb.n zA [3,6,7,8] (.D ((i:Int)<l.length) (.side ((0:Int)<=i/\(i:Int)<l.length) (.N (l.getD (i:Int).toNat (0:Int)=0) (.R [.i (l.getD (i:Int).toNat (0:Int))] []) (.S (i+1) (.leaf (.back 0 [(3,.i 0),(6,.sl l.length 1 λ(j x:Nat)=>.i (l.getD j (0:Int))),(7,.i l.length),(8,.i (i+1))] []))))) (.R [.i 0] [])) ?_;simp only [Tree.holds,ze,inR,lo,hi,aD];refine⟨λhlt=> ?_,λhge=> ?_⟩
  ·have hlt:i<l.length:=by have:=aB hlt; omega
   have hd:l.drop i=l.getD i 0::l.drop (i+1):=by
    rw [List.drop_eq_getElem_cons hlt]; simp [List.getD,hlt]
   rw [hd] at hio;refine⟨by omega,λ_=>⟨λh=> ?_,λh=>⟨by omega,λ_=> ?_⟩⟩⟩
   ·have h:l.getD i 0≠0:=by simpa using h
    have:orI l=l.getD i 0:=by rw [<- hio]; simp only [orI]; rw [aO h]
    rw [this] at hq; exact RetR.scal hq rfl (by simp [resV])
   ·have h:l.getD i 0=0:=by simpa using h
    rw [aP trivial];refine⟨⟨i+1,hlt,?_⟩,by show l.length - (i+1)<l.length - i; omega,by simp [SOr,za],by simp,by kernel_rfl,aI _⟩;rw [<- hio]; simp only [orI]; rw [aP h]
  ·have hge:i=l.length:=by have:=aC hge; omega
   subst hge;rw [List.drop_length] at hio;rw [<- hio] at hq; exact RetR.scal hq rfl (by simp [resV,orI])
def Qu:Ctr:=ctrP true (λp:Fx×Fx=>[p.1.av,p.2.av]) (λ_=>True) (λp r=>r=cmpF p.1 p.2) (λ_ (r:Int)=>(.i r,[]))
def QO:Ctr:=ctrP true (λp:Ch×Ch=>[p.1.av,p.2.av]) (λ_=>True) (λp r=>r=cmpC p.1 p.2) (λ_ (r:Int)=>(.i r,[]))
noncomputable def GN3:=tb zh4 (tb zh0 (tb zkt tz))
theorem US(x y:Int):eqG 2 1 (zf (zd 1 [.i x,.i y]) 0) (λj _=>.i ([x,y].getD j 0)):=by
 intro j o hj ho;have ho:o=0:=by omega
 subst ho;rcases j with _ | _ | j
 ·rfl
 ·rfl
 ·omega
theorem zap(x y z:Int):eqG 3 1 (zf (zd 1 [.i x,.i y,.i z]) 0) (λj _=>.i ([x,y,z].getD j 0)):=by
 intro j o hj ho;have ho:o=0:=by omega
 subst ho;rcases j with _ | _ | _ | j
 ·rfl
 ·rfl
 ·rfl
 ·omega
abbrev q34(A:List AV)(x:Int×Int):Prop:=eqL A [.i x.1,.i x.2]/\True
abbrev q33(A:List AV)(x:L8×L8):Prop:=eqL A [.str x.1,.str x.2]/\True
theorem ZZ:zc prog 36 Qu:=by
 refine zh' f36 λp hs O w0 Q hq=> ?_
 obtain⟨⟨a,d,v⟩,⟨b,e,u⟩⟩:=p;replace hq:=hq _ rfl;simp only at hq;refine zb.n GN3.h [] (.ex (q33 [.str a,.str b]) λn=>.all (λ(r:Int)=>r=cmpS n.1 n.2) λn=>.ex (q34 [.i d,.i e]) λn_1=>.all (λ(r:Int)=>r=cmpI n_1.1 n_1.2) λn_2=>.ex (λ(x:List Int)=>eqL [.sl 2 1 (zf (zd 1 [.i n,.i n_2]) 0)] [.sl x.length 1 λ(j x_1:Nat)=>AV.i (x.getD j (0:Int))]/\x.length<1099511627776) λn_3=>.all (λ(r:Int)=>r=orI n_3) λn_4=>.R [.i n_4] [.box [.str a,.i d,.str v],.box [.str b,.i e,.str u],.arr 2 1 (zd 1 [.i n,.i n_2])]) ?_;simp only [q33,q34,Tree.holds,ze];refine⟨(a,b),⟨by simp,trivial⟩,⟨_,rfl⟩,?_⟩;rintro _ rfl;refine⟨(d,e),⟨by simp,trivial⟩,⟨_,rfl⟩,?_⟩;rintro _ rfl;refine⟨[cmpS a b,cmpI d e],⟨⟨⟨rfl,rfl,US _ _⟩,trivial⟩,by simp⟩,⟨_,rfl⟩,?_⟩;rintro _ rfl
 have:orI [cmpS a b,cmpI d e]=cmpF ⟨a,d,v⟩ ⟨b,e,u⟩:=by
  simp only [orI,cmpF];by_cases h:cmpS a b=0
  ·simp only [h,if_true]; split<;>simp_all
  ·simp only [aO h]
 rw [this];exact RetR.scal hq rfl (by simp [resV])
theorem QL:zc prog 108 QO:=by
 refine zh' f108 λp hs O w0 Q hq=> ?_
 obtain⟨⟨a,d,v,f⟩,⟨b,e,u,g⟩⟩:=p;replace hq:=hq _ rfl;simp only at hq;refine zb.n GN3.h [] (.ex (q33 [.str a,.str b]) λn=>.all (λ(r:Int)=>r=cmpS n.1 n.2) λn=>.ex (q33 [.str d,.str e]) λn_1=>.all (λ(r:Int)=>r=cmpS n_1.1 n_1.2) λn_2=>.ex (q34 [.i v,.i u]) λn_3=>.all (λ(r:Int)=>r=cmpI n_3.1 n_3.2) λn_4=>.ex (λ(x:List Int)=>eqL [.sl 3 1 (zf (zd 1 [.i n,.i n_2,.i n_4]) 0)] [.sl x.length 1 λ(j x_1:Nat)=>AV.i (x.getD j (0:Int))]/\x.length<1099511627776) λn_5=>.all (λ(r:Int)=>r=orI n_5) λn_6=>.R [.i n_6] [.box [.str a,.str d,.i v,.bool f],.box [.str b,.str e,.i u,.bool g],.arr 3 1 (zd 1 [.i n,.i n_2,.i n_4])]) ?_;simp only [q33,q34,Tree.holds,ze];refine⟨(a,b),⟨by simp,trivial⟩,⟨_,rfl⟩,?_⟩;rintro _ rfl;refine⟨(d,e),⟨by simp,trivial⟩,⟨_,rfl⟩,?_⟩;rintro _ rfl;refine⟨(v,u),⟨by simp,trivial⟩,⟨_,rfl⟩,?_⟩;rintro _ rfl;refine⟨[cmpS a b,cmpS d e,cmpI v u],⟨⟨⟨rfl,rfl,zap _ _ _⟩,trivial⟩,by simp⟩,⟨_,rfl⟩,?_⟩;rintro _ rfl
 have:orI [cmpS a b,cmpS d e,cmpI v u]=cmpC ⟨a,d,v,f⟩ ⟨b,e,u,g⟩:=by
  simp only [orI,cmpC];by_cases h:cmpS a b=0
  ·simp only [h,if_true];by_cases h2:cmpS d e=0
   ·simp only [h2,if_true]; split<;>simp_all
   ·simp only [aO h2]
  ·simp only [aO h]
 rw [this];exact RetR.scal hq rfl (by simp [resV])
noncomputable def K67:=Go.Sx.aA f67
noncomputable def K137:=Go.Sx.aA f137
noncomputable def K106:=Go.Sx.aA f106
noncomputable def K107:=Go.Sx.aA f107
def xQ(f:Fx):Prop:=f.name.length<2^40/\f.value.length<2^40
def ye(c:Ch):Prop:=c.vN.length<2^40/\c.name.length<2^40
def zi4:Ctr:=ctrP true (λf:Fx=>[f.av]) xQ (λf r=>r = !okF f) (λ_ (r:Bool)=>(.bool r,[]))
def zir:Ctr:=ctrP true (λc:Ch=>[c.av]) ye (λc r=>r = !okC c) (λ_ (r:Bool)=>(.bool r,[]))
noncomputable def GE1:=tb Y5 (tb ux (tb jM tz))
theorem zgt:zc prog 101 zi4:=by
 refine zh' f101 λf hs O w0 Q hq=> ?_
 obtain⟨a,d,v⟩:=f;obtain⟨h1,h2⟩:=hs;replace hq:=hq _ rfl;simp only [okF] at hq h1 h2;refine zb.n GE1.h [] (.ex (q15 [.str a]) λn=>.all (λ(r:Bool)=>r=jb n) λn=>.ex (λ(x:Int)=>(!n)=false->eqL [.i d] [.i x]/\True) λn_1=>.all (λ(x:Bool)=>(!n)=false->x=dayB n_1) λn_2=>.ex (λ(x:L8)=>(bif !n then true else !n_2)=false->eqL [.str v] [.str x]/\x.length<4611686018427387904) λn_3=>.all (λ(x:Int)=>(bif !n then true else !n_2)=false->x=errR n_3) λn_4=>.R [.bool (bif bif !n then true else !n_2 then true else !decide (n_4=0))] [.box [.str a,.i d,.str v]]) ?_;simp only [q15,Tree.holds,ze];refine⟨a,⟨by simp,by omega⟩,⟨_,rfl⟩,?_⟩;rintro _ rfl;refine⟨d,λ_=>⟨by simp,trivial⟩,⟨_,λ_=>rfl⟩,?_⟩;intro x hx;refine⟨v,λ_=>⟨by simp,by omega⟩,⟨_,λ_=>rfl⟩,?_⟩;intro y hy;refine RetR.scal hq rfl ?_;simp only [resV];cases hn:jb a with
 | false=>rfl
 | true=>
  rw [hx (by rw [hn]; rfl)] at hy ⊢;cases hd:dayB d with
  | false=>rfl
  | true=>rw [hy (by rw [hn,hd]; rfl)]; rfl
theorem zhs:zc prog 103 zir:=by
 refine zh' f103 λf hs O w0 Q hq=> ?_
 obtain⟨a,v,d,f⟩:=f;obtain⟨h1,h2⟩:=hs;replace hq:=hq _ rfl;simp only [okC] at hq h1 h2;refine zb.n GE1.h [] (.ex (q15 [.str a]) λn=>.all (λ(r:Bool)=>r=jb n) λn=>.ex (λ(x:L8)=>(!n)=false->eqL [.str v] [.str x]/\x.length<4611686018427387904) λn_1=>.all (λ(x:Bool)=>(!n)=false->x=jb n_1) λn_2=>.ex (λ(x:Int)=>(bif !n then true else !n_2)=false->eqL [.i d] [.i x]/\True) λn_3=>.all (λ(x:Bool)=>(bif !n then true else !n_2)=false->x=dayB n_3) λn_4=>.R [.bool (bif bif !n then true else !n_2 then true else !n_4)] [.box [.str a,.str v,.i d,.bool f]]) ?_;simp only [q15,Tree.holds,ze];refine⟨a,⟨by simp,by omega⟩,⟨_,rfl⟩,?_⟩;rintro _ rfl;refine⟨v,λ_=>⟨by simp,by omega⟩,⟨_,λ_=>rfl⟩,?_⟩;intro x hx;refine⟨d,λ_=>⟨by simp,trivial⟩,⟨_,λ_=>rfl⟩,?_⟩;intro y hy;refine RetR.scal hq rfl ?_;simp only [resV];cases hn:jb a with
 | false=>rfl
 | true=>
  rw [hx (by rw [hn]; rfl)] at hy ⊢;cases hd:jb v with
  | false=>rfl
  | true=>rw [hy (by rw [hn,hd]; rfl)]; rfl
def zi6:Ctr:=ctrP true (λl:List Fx=>[fxS l,.fn 101 [] []]) (λl=>l.length<2^40/\∀ j,j<l.length->xQ (l.getD j Fx.nil)) (λl r=>r=idxB (λx=> !okF x) l) (λ_ (r:Int)=>(.i r,[]))
def SIxF(l:List Fx)(i:Nat):KV:=[(0,fxS l),(1,.fn 101 [] []),(7,.i (l.length:Int)),(8,.i (i:Int))]
noncomputable def GE2F:=tb zgt tz
theorem zg0:zc prog 67 zi6:=by
 refine zh' f67 λl hl O w0 Q hq=> ?_
 obtain⟨hl,hsm⟩:=hl;replace hq:=hq _ rfl;refine zb.n GE2F.h [0,1,7,8] (.leaf (.loop (lps K67 0).1 (lps K67 0).2 [(0,.sl l.length 3 (fxG l)),(1,.fn 101 [] []),(7,.i l.length),(8,.i 0)] [])) ?_;simp only [Tree.holds,ze];refine zb.loop (ι:={i:Nat // i<=l.length/\∀ j,j<i->(!okF (l.getD j Fx.nil))=false}) (λi=>SIxF l i.1) (λ_=>[]) (λi=>l.length - i.1) ⟨0,aI _,λj hj=>by omega⟩ 0 ?_ ?_ (by kernel_rfl)
 ·exact⟨by simp [SIxF,fxS,za],by simp,by kernel_rfl,aI _⟩
 ·rintro⟨i,hil,hib⟩;refine zb.n GE2F.h [0,1,7,8] (let v1:=l.getD (i:Int).toNat Fx.nil;.D ((i:Int)<l.length) (.side ((0:Int)<=i/\(i:Int)<l.length) (.ex (λ(x:Fx)=>eqL [.agg [.str v1.name,.i v1.date,.str v1.value]] [.agg [.str x.name,.i x.date,.str x.value]]/\xQ x) λn=>.all (λ(r:Bool)=>r = !okF n) λn=>.ite n (.R [.i i] []) (.S (i+1) (.leaf (.back 0 [(0,.sl l.length 3 (fxG l)),(1,.fn 101 [] []),(7,.i l.length),(8,.i (i+1))] []))))) (.R [.i (-1:Int)] [])) ?_;simp only [Tree.holds,ze,inR,lo,hi,aD];refine⟨λhlt=> ?_,λhge=> ?_⟩
  ·have hlt:i<l.length:=by have:=aB hlt; omega
   refine⟨by omega,λ_=>⟨l.getD i Fx.nil,⟨by simp,hsm i hlt⟩,⟨_,rfl⟩,?_⟩⟩;rintro _ rfl;refine⟨λh=> ?_,λh=>⟨by omega,λ_=> ?_⟩⟩
   ·rw [WR hlt h hib] at hq;exact RetR.scal hq rfl (by simp [resV])
   ·rw [aP trivial];refine⟨⟨i+1,hlt,λj hj=> ?_⟩,by show l.length - (i+1)<l.length - i; omega,by simp [SIxF,fxS,za],by simp,by kernel_rfl,aI _⟩;rcases aR j i with h1 | h1
    ·exact hib j h1
    ·have:j=i:=by omega
     rw [this]; exact h
  ·have hge:i=l.length:=by have:=aC hge; omega
   subst hge;rw [u6 hib] at hq;exact RetR.scal hq rfl (by simp [resV])
def zif:Ctr:=ctrP true (λl:List Fx=>[fxS l,.fn 101 [] []]) (λl=>l.length<2^40/\∀ j,j<l.length->xQ (l.getD j Fx.nil)) (λl r=>r=l.any λx=> !okF x) (λ_ (r:Bool)=>(.bool r,[]))
noncomputable def GE3F:=tb zg0 tz
theorem zhb:zc prog 104 zif:=by
 refine zh' f104 λl hl O w0 Q hq=> ?_
 replace hq:=hq _ rfl;refine zb.n GE3F.h [] (.ex (λ(x:List Fx)=>eqL [.sl l.length 3 (fxG l),.fn 101 [] []] [.sl x.length 3 (fxG x),.fn 101 [] []]/\x.length<1099511627776/\∀ (j:Nat),j<x.length->xQ (x.getD j Fx.nil)) λn=>.all (λ(r:Int)=>r=idxB (λ(x:Fx)=> !okF x) n) λn=>.R [.bool (decide ((0:Int)<=n))] []) ?_;simp only [Tree.holds,ze];refine⟨l,⟨by simp [za],hl⟩,⟨_,rfl⟩,?_⟩;rintro _ rfl;rw [<- Kb] at hq;exact RetR.scal hq rfl (by simp [resV])
def zij:Ctr:=ctrP true (λl:List Ch=>[chS l,.fn 103 [] []]) (λl=>l.length<2^40/\∀ j,j<l.length->ye (l.getD j Ch.nil)) (λl r=>r=idxB (λx=> !okC x) l) (λ_ (r:Int)=>(.i r,[]))
def SIxC(l:List Ch)(i:Nat):KV:=[(0,chS l),(1,.fn 103 [] []),(7,.i (l.length:Int)),(8,.i (i:Int))]
noncomputable def GE2C:=tb zhs tz
theorem zgu:zc prog 137 zij:=by
 refine zh' f137 λl hl O w0 Q hq=> ?_
 obtain⟨hl,hsm⟩:=hl;replace hq:=hq _ rfl;refine zb.n GE2C.h [0,1,7,8] (.leaf (.loop (lps K137 0).1 (lps K137 0).2 [(0,.sl l.length 4 (chG l)),(1,.fn 103 [] []),(7,.i l.length),(8,.i 0)] [])) ?_;simp only [Tree.holds,ze];refine zb.loop (ι:={i:Nat // i<=l.length/\∀ j,j<i->(!okC (l.getD j Ch.nil))=false}) (λi=>SIxC l i.1) (λ_=>[]) (λi=>l.length - i.1) ⟨0,aI _,λj hj=>by omega⟩ 0 ?_ ?_ (by kernel_rfl)
 ·exact⟨by simp [SIxC,chS,za],by simp,by kernel_rfl,aI _⟩
 ·rintro⟨i,hil,hib⟩;refine zb.n GE2C.h [0,1,7,8] (let v1:=l.getD (i:Int).toNat Ch.nil;.D ((i:Int)<l.length) (.side ((0:Int)<=i/\(i:Int)<l.length) (.ex (λ(x:Ch)=>eqL [.agg [.str v1.vN,.str v1.name,.i v1.date,.bool v1.first]] [.agg [.str x.vN,.str x.name,.i x.date,.bool x.first]]/\ye x) λn=>.all (λ(r:Bool)=>r = !okC n) λn=>.ite n (.R [.i i] []) (.S (i+1) (.leaf (.back 0 [(0,.sl l.length 4 (chG l)),(1,.fn 103 [] []),(7,.i l.length),(8,.i (i+1))] []))))) (.R [.i (-1:Int)] [])) ?_;simp only [Tree.holds,ze,inR,lo,hi,aD];refine⟨λhlt=> ?_,λhge=> ?_⟩
  ·have hlt:i<l.length:=by have:=aB hlt; omega
   refine⟨by omega,λ_=>⟨l.getD i Ch.nil,⟨by simp,hsm i hlt⟩,⟨_,rfl⟩,?_⟩⟩;rintro _ rfl;refine⟨λh=> ?_,λh=>⟨by omega,λ_=> ?_⟩⟩
   ·rw [WR hlt h hib] at hq;exact RetR.scal hq rfl (by simp [resV])
   ·rw [aP trivial];refine⟨⟨i+1,hlt,λj hj=> ?_⟩,by show l.length - (i+1)<l.length - i; omega,by simp [SIxC,chS,za],by simp,by kernel_rfl,aI _⟩;rcases aR j i with h1 | h1
    ·exact hib j h1
    ·have:j=i:=by omega
     rw [this]; exact h
  ·have hge:i=l.length:=by have:=aC hge; omega
   subst hge;rw [u6 hib] at hq;exact RetR.scal hq rfl (by simp [resV])
def zik:Ctr:=ctrP true (λl:List Ch=>[chS l,.fn 103 [] []]) (λl=>l.length<2^40/\∀ j,j<l.length->ye (l.getD j Ch.nil)) (λl r=>r=l.any λx=> !okC x) (λ_ (r:Bool)=>(.bool r,[]))
noncomputable def GE3C:=tb zgu tz
theorem zhv:zc prog 105 zik:=by
 refine zh' f105 λl hl O w0 Q hq=> ?_
 replace hq:=hq _ rfl;refine zb.n GE3C.h [] (.ex (λ(x:List Ch)=>eqL [.sl l.length 4 (chG l),.fn 103 [] []] [.sl x.length 4 (chG x),.fn 103 [] []]/\x.length<1099511627776/\∀ (j:Nat),j<x.length->ye (x.getD j Ch.nil)) λn=>.all (λ(r:Int)=>r=idxB (λ(x:Ch)=> !okC x) n) λn=>.R [.bool (decide ((0:Int)<=n))] []) ?_;simp only [Tree.holds,ze];refine⟨l,⟨by simp [za],hl⟩,⟨_,rfl⟩,?_⟩;rintro _ rfl;rw [<- Kb] at hq;exact RetR.scal hq rfl (by simp [resV])
def zim:Ctr:=ctrP true (λl:List Fx=>[fxS l,.fn 36 [] []]) (λl=>l.length<2^40) (λl r=>r=ordB cmpF Fx.nil l) (λ_ (r:Bool)=>(.bool r,[]))
def SOdF(l:List Fx)(i:Nat):KV:=[(0,fxS l),(1,.fn 36 [] []),(5,.i (i:Int))]
noncomputable def GE4F:=tb ZZ tz
abbrev q35(A:List AV)(x:Fx×Fx):Prop:=eqL A [.agg [.str x.1.name,.i x.1.date,.str x.1.value],.agg [.str x.2.name,.i x.2.date,.str x.2.value]]/\True
theorem zg9:zc prog 106 zim:=by
 refine zh' f106 λl hl O w0 Q hq=> ?_
 replace hq:=hq _ rfl;refine zb.n GE4F.h [0,1,5] (.leaf (.loop (lps K106 0).1 (lps K106 0).2 [(0,.sl l.length 3 (fxG l)),(1,.fn 36 [] []),(5,.i 1)] [])) ?_;simp only [Tree.holds,ze];refine zb.loop (ι:={i:Nat // 0<i/\(i<=l.length\/i=1)/\∀ j,j+1<i->cmpF (l.getD j Fx.nil) (l.getD (j+1) Fx.nil)<0}) (λi=>SOdF l i.1) (λ_=>[]) (λi=>l.length - i.1) ⟨1,Nat.one_pos,.inr rfl,λj hj=>by omega⟩ 0 ?_ ?_ (by kernel_rfl)
 ·exact⟨by simp [SOdF,fxS,za],by simp,by kernel_rfl,aI _⟩
 ·rintro⟨i,hi0,hil,hib⟩;refine zb.n GE4F.h [0,1,5] (let v2:=l.getD (i:Int).toNat Fx.nil;let v1:=l.getD (Int.toNat (i-1)) Fx.nil;.D ((i:Int)<l.length) (.S (i-1) (.side ((0:Int)<=i - (1:Int)/\(i:Int) - (1:Int)<l.length) (.side ((0:Int)<=i/\(i:Int)<l.length) (.ex (q35 [.agg [.str v1.name,.i v1.date,.str v1.value],.agg [.str v2.name,.i v2.date,.str v2.value]]) λn=>.all (λ(r:Int)=>r=cmpF n.1 n.2) λn=>.D ((0:Int)<=n) (.R [.bool false] []) (.S (i+1) (.leaf (.back 0 [(0,.sl l.length 3 (fxG l)),(1,.fn 36 [] []),(5,.i (i+1))] []))))))) (.R [.bool true] [])) ?_;simp only [q35,Tree.holds,ze,inR,lo,hi,aD];have e:((i:Int) - 1).toNat=i - 1:=by omega
  have e2:i - 1+1=i:=by omega
  refine⟨λhlt=> ?_,λhge=> ?_⟩
  ·have hlt:i<l.length:=by have:=aB hlt; omega
   simp only [e];refine⟨by omega,λ_=>⟨by omega,λ_=>⟨by omega,λ_=>⟨(l.getD (i - 1) Fx.nil,l.getD i Fx.nil),⟨by simp,trivial⟩,⟨_,rfl⟩,?_⟩⟩⟩⟩;rintro _ rfl;refine⟨λh=> ?_,λh=>⟨by omega,λ_=> ?_⟩⟩
   ·have h:=aB h;rw [Vf (z:=Fx.nil) (j:=i - 1) (by omega) (by rw [e2]; simp only at h; omega)] at hq;exact RetR.scal hq rfl (by simp [resV])
   ·have h:=aC h;rw [aP trivial];refine⟨⟨i+1,by omega,.inl hlt,λj hj=> ?_⟩,by show l.length - (i+1)<l.length - i; omega,by simp [SOdF,fxS,za],by simp,by kernel_rfl,aI _⟩;rcases aR (j+1) i with h1 | h1
    ·exact hib j h1
    ·have:j=i - 1:=by omega
     rw [this,e2]; simp only at h; omega
  ·have hge:l.length<=i:=by have:=aC hge; omega
   rw [VB (z:=Fx.nil) λj hj=>hib j (by omega)] at hq;exact RetR.scal hq rfl (by simp [resV])
def zia:Ctr:=ctrP true (λl:List Ch=>[chS l,.fn 108 [] []]) (λl=>l.length<2^40) (λl r=>r=ordB cmpC Ch.nil l) (λ_ (r:Bool)=>(.bool r,[]))
def SOdC(l:List Ch)(i:Nat):KV:=[(0,chS l),(1,.fn 108 [] []),(5,.i (i:Int))]
noncomputable def GE4C:=tb QL tz
theorem zge:zc prog 107 zia:=by
 refine zh' f107 λl hl O w0 Q hq=> ?_
 replace hq:=hq _ rfl;refine zb.n GE4C.h [0,1,5] (.leaf (.loop (lps K107 0).1 (lps K107 0).2 [(0,.sl l.length 4 (chG l)),(1,.fn 108 [] []),(5,.i 1)] [])) ?_;simp only [Tree.holds,ze];refine zb.loop (ι:={i:Nat // 0<i/\(i<=l.length\/i=1)/\∀ j,j+1<i->cmpC (l.getD j Ch.nil) (l.getD (j+1) Ch.nil)<0}) (λi=>SOdC l i.1) (λ_=>[]) (λi=>l.length - i.1) ⟨1,Nat.one_pos,.inr rfl,λj hj=>by omega⟩ 0 ?_ ?_ (by kernel_rfl)
 ·exact⟨by simp [SOdC,chS,za],by simp,by kernel_rfl,aI _⟩
 ·rintro⟨i,hi0,hil,hib⟩;refine zb.n GE4C.h [0,1,5] (let v2:=l.getD (i:Int).toNat Ch.nil;let v1:=l.getD (Int.toNat (i-1)) Ch.nil;.D ((i:Int)<l.length) (.S (i-1) (.side ((0:Int)<=i - (1:Int)/\(i:Int) - (1:Int)<l.length) (.side ((0:Int)<=i/\(i:Int)<l.length) (.ex (λ(x:Ch×Ch)=>eqL [.agg [.str v1.vN,.str v1.name,.i v1.date,.bool v1.first],.agg [.str v2.vN,.str v2.name,.i v2.date,.bool v2.first]] [.agg [.str x.1.vN,.str x.1.name,.i x.1.date,.bool x.1.first],.agg [.str x.2.vN,.str x.2.name,.i x.2.date,.bool x.2.first]]/\True) λn=>.all (λ(r:Int)=>r=cmpC n.1 n.2) λn=>.D ((0:Int)<=n) (.R [.bool false] []) (.S (i+1) (.leaf (.back 0 [(0,.sl l.length 4 (chG l)),(1,.fn 108 [] []),(5,.i (i+1))] []))))))) (.R [.bool true] [])) ?_;simp only [Tree.holds,ze,inR,lo,hi,aD];have e:((i:Int) - 1).toNat=i - 1:=by omega
  have e2:i - 1+1=i:=by omega
  refine⟨λhlt=> ?_,λhge=> ?_⟩
  ·have hlt:i<l.length:=by have:=aB hlt; omega
   simp only [e];refine⟨by omega,λ_=>⟨by omega,λ_=>⟨by omega,λ_=>⟨(l.getD (i - 1) Ch.nil,l.getD i Ch.nil),⟨by simp,trivial⟩,⟨_,rfl⟩,?_⟩⟩⟩⟩;rintro _ rfl;refine⟨λh=> ?_,λh=>⟨by omega,λ_=> ?_⟩⟩
   ·have h:=aB h;rw [Vf (z:=Ch.nil) (j:=i - 1) (by omega) (by rw [e2]; simp only at h; omega)] at hq;exact RetR.scal hq rfl (by simp [resV])
   ·have h:=aC h;rw [aP trivial];refine⟨⟨i+1,by omega,.inl hlt,λj hj=> ?_⟩,by show l.length - (i+1)<l.length - i; omega,by simp [SOdC,chS,za],by simp,by kernel_rfl,aI _⟩;rcases aR (j+1) i with h1 | h1
    ·exact hib j h1
    ·have:j=i - 1:=by omega
     rw [this,e2]; simp only at h; omega
  ·have hge:l.length<=i:=by have:=aC hge; omega
   rw [VB (z:=Ch.nil) λj hj=>hib j (by omega)] at hq;exact RetR.scal hq rfl (by simp [resV])
def envP(p:List Fx×List Ch):Prop:=p.1.length<2^40/\p.2.length<2^40/\(∀ j,j<p.1.length->xQ (p.1.getD j Fx.nil))/\∀ j,j<p.2.length->ye (p.2.getD j Ch.nil)
def Yx:Ctr:=ctrP true (λp:List Fx×List Ch=>[envA p.1 p.2]) envP (λp r=>r=errE p.1 p.2) (λ_ (r:Int)=>(.i r,[]))
noncomputable def GE5:=tb zhb (tb zhv (tb zg9 (tb zge tz)))
theorem U5:zc prog 62 Yx:=by
 refine zh' f62 λp hp O w0 Q hq=> ?_
 obtain⟨f,c⟩:=p;obtain⟨h1,h2,h3,h4⟩:=hp;replace hq:=hq _ rfl;simp only at hq h1 h2 h3 h4;refine zb.n GE5.h [] (let v1:List Blk:=[.box [.sl f.length 3 (fxG f),.sl c.length 4 (chG c)]];.ite (bif decide ((1000:Int)<f.length) then true else decide ((1000:Int)<c.length)) (.R [.i 4] v1) (.ex (λ(x:List Fx)=>eqL [.sl f.length 3 (fxG f),.fn 101 [] []] [.sl x.length 3 (fxG x),.fn 101 [] []]/\x.length<1099511627776/\∀ (j:Nat),j<x.length->xQ (x.getD j Fx.nil)) λn=>.all (λ(r:Bool)=>r=List.any n λ(x:Fx)=> !okF x) λn=>.ex (λ(x:List Ch)=>n=false->eqL [.sl c.length 4 (chG c),.fn 103 [] []] [.sl x.length 4 (chG x),.fn 103 [] []]/\x.length<1099511627776/\∀ (j:Nat),j<x.length->ye (x.getD j Ch.nil)) λn_1=>.all (λ(x:Bool)=>n=false->x=List.any n_1 λ(x:Ch)=> !okC x) λn_2=>.ex (λ(x:List Fx)=>(bif n then true else n_2)=false->eqL [.sl f.length 3 (fxG f),.fn 36 [] []] [.sl x.length 3 (fxG x),.fn 36 [] []]/\x.length<1099511627776) λn_3=>.all (λ(x:Bool)=>(bif n then true else n_2)=false->x=ordB cmpF Fx.nil n_3) λn_4=>.ex (λ(x:List Ch)=>(bif bif n then true else n_2 then true else !n_4)=false->eqL [.sl c.length 4 (chG c),.fn 108 [] []] [.sl x.length 4 (chG x),.fn 108 [] []]/\x.length<1099511627776) λn_5=>.all (λ(x:Bool)=>(bif bif n then true else n_2 then true else !n_4)=false->x=ordB cmpC Ch.nil n_5) λn_6=>.ite (bif bif bif n then true else n_2 then true else !n_4 then true else !n_6) (.R [.i 8] v1) (.R [.i 0] v1))) ?_;simp only [Tree.holds,ze];refine⟨λh=> ?_,λh=> ?_⟩
 ·have h:1000<f.length\/1000<c.length:=by
   rw [Bool.cond_eq_ite] at h;split at h
   ·rename_i h1; left; have:=aB h1; omega
   ·right; have:=aB h; omega
  have:errE f c=4:=aP h;rw [this] at hq; exact RetR.scal hq rfl (by simp [resV])
 ·have h:¬ (1000<f.length\/1000<c.length):=by
   rw [Bool.cond_eq_ite] at h;split at h
   ·cases h
   ·rename_i h1;have h2:=aC h;rintro(h3 | h3)
    ·exact h1 (aX (by omega))
    ·omega
  have he:errE f c=if(f.all okF&&c.all okC&&ordB cmpF Fx.nil f&&ordB cmpC Ch.nil c)=true then 0 else 8:=aO h
  have a1:(f.any λx=> !okF x) = !f.all okF:=by rw [List.not_all_eq_any_not]
  have a2:(c.any λx=> !okC x) = !c.all okC:=by rw [List.not_all_eq_any_not]
  refine⟨f,⟨by simp [za],h1,h3⟩,⟨_,rfl⟩,?_⟩;rintro _ rfl;refine⟨c,λ_=>⟨by simp [za],h2,h4⟩,⟨_,λ_=>rfl⟩,?_⟩;intro b1 g1;refine⟨f,λ_=>⟨by simp [za],h1⟩,⟨_,λ_=>rfl⟩,?_⟩;intro b2 g2;refine⟨c,λ_=>⟨by simp [za],h2⟩,⟨_,λ_=>rfl⟩,?_⟩;intro b3 g3;rw [a1] at g1 g2 g3 ⊢;rw [a2] at g1;clear a1 a2;generalize f.all okF=p1 at *
  generalize c.all okC=p2 at *
  generalize ordB cmpF Fx.nil f=p3 at *
  generalize ordB cmpC Ch.nil c=p4 at *
  have key:(bif bif bif !p1 then true else b1 then true else !b2 then true else !b3) = !(p1&&p2&&p3&&p4):=by
   cases p1 with
   | false=>rfl
   | true=>
    have g1:=g1 rfl;subst g1;cases p2 with
    | false=>rfl
    | true=>
     have g2:=g2 rfl;subst g2;cases b2 with
     | false=>rfl
     | true=>have g3:=g3 rfl; subst g3; rfl
  rw [key];clear key g1 g2 g3;generalize (p1&&p2&&p3&&p4)=q at *
  refine⟨λh=> ?_,λh=> ?_⟩
  ·cases q with
   | true=>cases h
   | false=>rw [he,aO (by decide)] at hq; exact RetR.scal hq rfl (by simp [resV])
  ·cases q with
   | false=>cases h
   | true=>rw [he,aP rfl] at hq; exact RetR.scal hq rfl (by simp [resV])
def zdn:Ctr:=ctrP true (λp:(List Fx×List Ch)×(L8×Int)=>[envA p.1.1 p.1.2,.str p.2.1,.i p.2.2]) (λp=>p.1.1.length<2^40) (λp r=>r=wG p.1.1 p.2.1 p.2.2) (λ_ r=>(.tup [.str r.1,.bool r.2],[]))
end Go.Proofs.Tryz
end
section
namespace Go.Nov
open Go.Sx
theorem Fx.za5(x:Fx){j o:Nat}(hj:j<1)(ho:o<3):zf (zd 3 [.str x.name,.i x.date,.str x.value]) 0 j o=x.cell o:=by
 have:j=0:=by omega
 subst this;rcases o with _ | _ | _ | o
 ·rfl
 ·rfl
 ·rfl
 ·omega
theorem UH{α:Type}(l:List α)(x z:α)(j:Nat):(l++[x]).getD j z=if j<l.length then l.getD j z else if j=l.length then x else z:=by
 simp only [List.getD,bT];split
 ·rfl
 ·rename_i h;split
  ·rename_i h2; subst h2; simp
  ·rename_i h2;have:j - l.length≠0:=by omega
   obtain⟨k,hk⟩:=Nat.exists_eq_succ_of_ne_zero this;rw [hk]; simp
theorem YA{l:List Fx}{x:Fx}{g:Nat->Nat->AV}(hg:eqG l.length 3 g (fxG l)):eqG (l.length+1) 3 (appG l.length g (zf (zd 3 [.str x.name,.i x.date,.str x.value]) 0)) (fxG (l++[x])):=by
 intro j o hj ho;simp only [appG,fxG,UH];split
 ·rename_i h; exact hg j o h ho
 ·rename_i h;have:j=l.length:=by omega
  subst this;rw [aP rfl,Fx.za5 x (by omega) ho]
theorem zal(n sz:Nat)(g:Nat->Nat->AV):eqG n sz (zf g 0) g:=by
 intro j o _ _;simp [zf]
theorem za7{α:Type}{p:α->Bool}(z:α)(l:List α):idxB p l<l.length/\l.find? p=if 0<=idxB p l then some (l.getD (idxB p l).toNat z) else none:=by
 unfold idxB;by_cases h:l.findIdx p<l.length
 ·rw [aP h];refine⟨by omega,?_⟩;rw [aP (by omega),aD];refine zhk h ?_ λj hj=> ?_
  ·have:=List.findIdx_getElem (w:=h);simpa [List.getD,h] using this
  ·have:=List.not_of_lt_findIdx hj;have hjl:j<l.length:=by omega
   simpa [List.getD,hjl] using this
 ·rw [aO h];refine⟨by omega,?_⟩;rw [aO (by omega),List.find?_eq_none];intro x hx hpx;exact h (List.findIdx_lt_length_of_exists ⟨x,hx,hpx⟩)
theorem zb1(f:List Fx)(a:L8)(d:Int):idxB (λx=>decide (cmpF x ⟨a,d,[]⟩=0)) f<f.length/\wG f a d=if 0<=idxB (λx=>decide (cmpF x ⟨a,d,[]⟩=0)) f then((f.getD (idxB (λx=>decide (cmpF x ⟨a,d,[]⟩=0)) f).toNat Fx.nil).value,true) else([],false):=by
 obtain⟨h1,h2⟩:=za7 (p:=λx=>decide (cmpF x ⟨a,d,[]⟩=0)) Fx.nil f;refine⟨h1,?_⟩
 have e:(λx:Fx=>decide (x.name=a)&&decide (x.date=d))=λx=>decide (cmpF x ⟨a,d,[]⟩=0):=by
  funext x;rw [<- Bool.decide_and]; exact decide_eq_decide.2 (@zfz x ⟨a,d,[]⟩).symm
 unfold wG;rw [e,h2];by_cases h:0<=idxB (λx=>decide (cmpF x ⟨a,d,[]⟩=0)) f
 ·rw [aP h,aP h]
 ·rw [aO h,aO h]
end Go.Nov
end
section
set_option maxRecDepth 100000
open Go Go.Sx Go.Proofs Go.Nov
namespace Go.Proofs.Tryz
attribute [local simp] eqKV eqA eqA0 eqH eqB eqL eqL0
def HIdF(x:Fx):Heap:=[.box [.fn 36 [] []],.box [.str x.name,.i x.date,.str x.value]]
def zid:Ctr:=ctrT false false (λp:Fx×Fx=>[p.1.av,.ptr 0 0,.ptr 1 0]) (λp=>HIdF p.2) (λ_=>True) (λp r=>r=decide (cmpF p.1 p.2=0)) (λp (r:Bool)=>(.bool r,HIdF p.2))
noncomputable def GI1:=tb ZZ (tb QL tz)
theorem zhf:zc prog 68 zid:=by
 refine zD (fn:=f68) (c:=f68.body.getD .skip) rfl rfl rfl (λh=>by cases h) λp hp O w0 I0 Q hl0 hq=> ?_
 obtain⟨⟨a,d,v⟩,⟨b,e,u⟩⟩:=p;replace hq:=hq _ rfl;simp only at hq;refine zb.n GI1.h [] (.ex (q35 [.agg [.str a,.i d,.str v],.agg [.str b,.i e,.str u]]) λn=>.all (λ(r:Int)=>r=cmpF n.1 n.2) λn=>.R [.bool (decide (n=0))] [.box [.fn 36 [] []],.box [.str b,.i e,.str u],.box [.str a,.i d,.str v]]) ?_;simp only [q35,Tree.holds,ze];refine⟨(⟨a,d,v⟩,⟨b,e,u⟩),⟨by simp,trivial⟩,⟨_,rfl⟩,?_⟩;rintro _ rfl;exact RetR.keep [0,1] rfl rfl (by show ∀ j,j<2->_; decide) rfl hq (by simp [resV,exp2,exp1,exp0,ren0,eqA2]) (by simp [expH,expB,exp1,exp0,ren0,HIdF]) rfl
def SIdF(l:List Fx)(i:Nat):KV:=[(0,fxS l),(1,.fn 68 [] [.ptr 0 0,.ptr 1 0]),(7,.i (l.length:Int)),(8,.i (i:Int))]
def zep:Ctr:=ctrT false false (λp:List Fx×Fx=>[fxS p.1,.fn 68 [] [.ptr 0 0,.ptr 1 0]]) (λp=>HIdF p.2) (λp=>p.1.length<2^40) (λp r=>r=idxB (λx=>decide (cmpF x p.2=0)) p.1) (λp (r:Int)=>(.i r,HIdF p.2))
noncomputable def GI2:=tb zhf tz
theorem zhc:zc prog 67 zep:=by
 refine zD (fn:=f67) (c:=f67.body.getD .skip) rfl rfl rfl (λh=>by cases h) λp hl O w0 I0 Q hl0 hq=> ?_
 obtain⟨l,x⟩:=p;replace hq:=hq _ rfl;simp only at hq hl;refine zb.n GI2.h [0,1,7,8] (.leaf (.loop (lps K67 0).1 (lps K67 0).2 [(0,.sl l.length 3 (fxG l)),(1,.fn 68 [] [.ptr 0 0,.ptr 1 0]),(7,.i l.length),(8,.i 0)] [.box [.fn 36 [] []],.box [.str x.name,.i x.date,.str x.value]])) ?_;simp only [Tree.holds,ze]
 have fin:∀ (i:Int) (h:Heap),i=idxB (λy=>decide (cmpF y x=0)) l->h=HIdF x->RetR zep 2 Q [.i i] h:=by
  intro i h hi2 hh;subst hh;rw [<- hi2] at hq;exact RetR.keep [0,1] rfl rfl (by show ∀ j,j<2->_; decide) rfl hq (by simp [resV,exp2,exp1,exp0,ren0,eqA2]) (by simp [expH,expB,exp1,exp0,ren0,HIdF]) rfl
 refine zb.loop (ι:={i:Nat // i<=l.length/\∀ j,j<i->decide (cmpF (l.getD j Fx.nil) x=0)=false}) (λi=>SIdF l i.1) (λ_=>HIdF x) (λi=>l.length - i.1) ⟨0,aI _,λj hj=>by omega⟩ 0 ?_ ?_ (by kernel_rfl)
 ·exact⟨by simp [SIdF,fxS,za],by simp [HIdF],by kernel_rfl,aJ _⟩
 ·rintro⟨i,hil,hib⟩;refine zb.n GI2.h [0,1,7,8] (let v2:=l.getD (i:Int).toNat Fx.nil;.D ((i:Int)<l.length) (.side ((0:Int)<=i/\(i:Int)<l.length) (.ex (λ(x_1:Fx×Fx)=>eqL [.agg [.str v2.name,.i v2.date,.str v2.value],.ptr 0 0,.ptr 1 0] [.agg [.str x_1.1.name,.i x_1.1.date,.str x_1.1.value],.ptr 0 0,.ptr 1 0]/\eqH [.box [.fn 36 [] []],.box [.str x.name,.i x.date,.str x.value]] [.box [.fn 36 [] []],.box [.str x_1.2.name,.i x_1.2.date,.str x_1.2.value]]/\2=2/\True) λn=>let v1:List Blk:=[.box [.fn 36 [] []],.box [.str n.2.name,.i n.2.date,.str n.2.value]];.all (λ(r:Bool)=>r=decide (cmpF n.1 n.2=0)) λn_1=>.ite n_1 (.R [.i i] v1) (.S (i+1) (.leaf (.back 0 [(0,.sl l.length 3 (fxG l)),(1,.fn 68 [] [.ptr 0 0,.ptr 1 0]),(7,.i l.length),(8,.i (i+1))] v1))))) (.R [.i (-1:Int)] [.box [.fn 36 [] []],.box [.str x.name,.i x.date,.str x.value]])) ?_;simp only [Tree.holds,ze,inR,lo,hi,aD];refine⟨λhlt=> ?_,λhge=> ?_⟩
  ·have hlt:i<l.length:=by have:=aB hlt; omega
   refine⟨by omega,λ_=>⟨(l.getD i Fx.nil,x),⟨by simp,by simp,trivial,trivial⟩,⟨_,rfl⟩,?_⟩⟩;rintro _ rfl;refine⟨λh=> ?_,λh=>⟨by omega,λ_=> ?_⟩⟩
   ·exact fin _ _ (WR hlt h hib).symm rfl
   ·rw [aP trivial];refine⟨⟨i+1,hlt,λj hj=> ?_⟩,by show l.length - (i+1)<l.length - i; omega,by simp [SIdF,fxS,za],by simp [HIdF],by kernel_rfl,aJ _⟩;rcases aR j i with h1 | h1
    ·exact hib j h1
    ·have:j=i:=by omega
     rw [this]; exact h
  ·have hge:i=l.length:=by have:=aC hge; omega
   subst hge;exact fin _ _ (u6 (p:=λy=>decide (cmpF y x=0)) hib).symm rfl
def Ua:Ctr:=ctrP true (λp:List Fx×Fx=>[fxS p.1,p.2.av,.fn 36 [] []]) (λp=>p.1.length<2^40) (λp r=>r=idxB (λx=>decide (cmpF x p.2=0)) p.1) (λ_ (r:Int)=>(.i r,[]))
noncomputable def GI3:=tb zhc tz
theorem zaa:zc prog 35 Ua:=by
 refine zh' f35 λp hp O w0 Q hq=> ?_
 obtain⟨l,⟨a,d,v⟩⟩:=p;replace hq:=hq _ rfl;simp only at hq hp;refine zb.n GI3.h [] (.ex (λ(x:List Fx×Fx)=>eqL [.sl l.length 3 (fxG l),.fn 68 [] [.ptr 0 0,.ptr 1 0]] [.sl x.1.length 3 (fxG x.1),.fn 68 [] [.ptr 0 0,.ptr 1 0]]/\eqH [.box [.fn 36 [] []],.box [.str a,.i d,.str v]] [.box [.fn 36 [] []],.box [.str x.2.name,.i x.2.date,.str x.2.value]]/\2=2/\x.1.length<1099511627776) λn=>.all (λ(r:Int)=>r=idxB (λ(x:Fx)=>decide (cmpF x n.2=0)) n.1) λn_1=>.R [.i n_1] [.box [.str n.2.name,.i n.2.date,.str n.2.value],.box [.fn 36 [] []]]) ?_;simp only [Tree.holds,ze];refine⟨(l,⟨a,d,v⟩),⟨by simp [za],by simp,trivial,hp⟩,⟨_,rfl⟩,?_⟩;rintro _ rfl;exact RetR.scal hq rfl (by simp [resV])
noncomputable def GI4:=tb zaa tz
theorem YC:zc prog 18 zdn:=by
 refine zh' f18 λp hp O w0 Q hq=> ?_
 obtain⟨⟨f,c⟩,⟨a,d⟩⟩:=p;replace hq:=hq _ rfl;simp only at hq hp;refine zb.n GI4.h [] (let v1:List Blk:=[.box [.sl f.length 3 (fxG f),.sl c.length 4 (chG c)]];.ex (λ(x:List Fx×Fx)=>eqL [.sl f.length 3 (fxG f),.agg [.str a,.i d,.str #[].toList],.fn 36 [] []] [.sl x.1.length 3 (fxG x.1),.agg [.str x.2.name,.i x.2.date,.str x.2.value],.fn 36 [] []]/\x.1.length<1099511627776) λn=>.all (λ(r:Int)=>r=idxB (λ(x:Fx)=>decide (cmpF x n.2=0)) n.1) λn=>.D (n<0) (.R [.str #[].toList,.bool false] v1) (.side ((0:Int)<=n/\n<(f.length:Int)) (.R [.str (Fx.value (f.getD (Int.toNat n) Fx.nil)),.bool true] v1))) ?_;simp only [Tree.holds,ze];refine⟨(f,⟨a,d,[]⟩),⟨by simp [za],hp⟩,⟨_,rfl⟩,?_⟩;rintro _ rfl;obtain⟨hlt,hr⟩:=zb1 f a d;simp only at hq ⊢;refine⟨λh=> ?_,λh=> ?_⟩
 ·rw [hr,aO (by have:=aB h; omega)] at hq;exact RetR.scal hq rfl (by simp [resV])
 ·have h:=aC h;refine⟨⟨by omega,hlt⟩,λ_=> ?_⟩;rw [hr,aP (by omega)] at hq;exact RetR.scal hq rfl (by simp [resV])
end Go.Proofs.Tryz
end
section
open Go Go.Sx Go.Proofs Go.Nov
namespace Go.Proofs.Tryz
end Go.Proofs.Tryz
end
section
set_option maxRecDepth 100000
open Go Go.Sx Go.Proofs Go.Nov
namespace Go.Proofs.Tryz
attribute [local simp] eqKV eqA eqA0 eqH eqB eqL eqL0
theorem zjq{n:L8}{d:Int}(x:Fx):decide (([.inr n,.inl d]:List Sc)=[.inr x.name,.inl x.date])=(decide (x.name=n)&&decide (x.date=d)):=by
 rw [Bool.eq_iff_iff];simp only [aK,bA,List.cons.injEq,Sum.inr.injEq,Sum.inl.injEq,and_true];exact⟨λh=>⟨h.1.symm,h.2.symm⟩,λh=>⟨h.1.symm,h.2.symm⟩⟩
theorem idx_eq{ops:List TOp}{inp:List Fx}{n:L8}{d:Int} : (inp.findIdx λx=>decide (([.inr n,.inl d]:List Sc)=[.inr x.name,.inl x.date]))=RS.idx ⟨ops,inp⟩ n d:=by
 unfold RS.idx;congr 1;funext x;exact zjq x
theorem Ul{ops:List TOp}{inp:List Fx}{n:L8}{d:Int} : Ji inp [.inr n,.inl d]=true↔RS.idx ⟨ops,inp⟩ n d<inp.length:=by
 unfold Ji;rw [<- idx_eq (ops:=ops),List.findIdx_lt_length,List.any_eq_true]
theorem YA{l:List Fx}{x:Fx} : eqG (l.length+1) 3 (appG l.length (fxG l) (zf (zd 3 [.str x.name,.i x.date,.str x.value]) 0)) (fxG (l++[x])):=by
 intro j p hj hp;simp only [appG,fxG,zf,zd];by_cases q:j<l.length
 ·rw [aP q];simp only [List.getD,bL q]
 ·rw [aO q];obtain rfl:j=l.length:=by omega
  have e:(l++[x]).getD l.length Fx.nil=x:=by simp [List.getD]
  rw [e];rcases(show p=0\/p=1\/p=2 by omega) with rfl | rfl | rfl<;>simp [Fx.cell]
structure XFi where
 s:RS
 day:Int
 f:List Fx
 c:List Ch
 n:L8
 d:Int
def zit:Ctr:=ctrM 1 (λp:XFi=>[.ptr 0 0,.str p.n,.i p.d]) (λp=>HRc p.s p.day p.f p.c)
 (λp=>p.s.ops.length<2^39/\p.s.inp.length<2^39/\p.f.length<2^40/\p.n.length<2^40) (λ_ (_:Unit)=>True) (λp _=>(.i (p.s.ops.length:Nat),HRc (p.s.fix p.f p.n p.d) p.day p.f p.c))
noncomputable def GRxB:=tb YC (tb YX tz)
abbrev q36(A:List AV)(x:(List Fx×List Ch)×L8×Int):Prop:=eqL A [.agg [.sl x.1.1.length 3 (fxG x.1.1),.sl x.1.2.length 4 (chG x.1.2)],.str x.2.1,.i x.2.2]/\x.1.1.length<1099511627776
theorem zfv:zc prog 51 zit:=by
 refine Wt (fn:=f51) (c:=f51.body.getD .skip) rfl rfl rfl λp hp O w0 I0 Q hl0 hq=> ?_
 obtain⟨⟨ops,inp⟩,day,f,c,n,d⟩:=p;replace hq:=hq () trivial;obtain⟨h1,h2,h3,h4⟩:=hp;simp only at h1 h2 h3 h4 hq;refine zb.n GRxB.h [] (let v18:List AV:=[.str n,.i d];let v17:=inp.length+1;let v8:=[AV.ptr 0 0,AV.agg [.int .u8 1,.i inp.length,.i 0,.str #[].toList]];let v7:=q36 [.agg [.sl f.length 3 (fxG f),.sl c.length 4 (chG c)],.str n,.i d];let v6:=[AV.i 0,AV.osl 1 4 0 ops.length,AV.osl 2 3 0 inp.length,AV.omap 3,AV.i day,AV.sl f.length 3 (fxG f),AV.sl c.length 4 (chG c)];let v5:=[AV.i 0,AV.osl 1 4 0 ops.length,AV.osl 2 3 0 v17,AV.omap 3,AV.i day,AV.sl f.length 3 (fxG f),AV.sl c.length 4 (chG c)];.ite (Ji inp [Sum.inr n,Sum.inl d]) (.ite false (.ex v7 λn_1=>.all (λ(r:L8×Bool)=>r=wG n_1.1.1 n_1.2.1 n_1.2.2) λn_2=>.side (0=0/\inp.length<=inp.length/\v17 *40<=140737488355328) (.ex (λ(x:XRc)=>let v13:=RS.ops x.s;let v9:=RS.inp x.s;eqL v8 [.ptr 0 0,.agg [.int .u8 x.o.kind,.i x.o.a,.i x.o.b,.str x.o.rat]]/\eqH [.box v5,.arr ops.length 4 (opG ops),.arr v17 3 (appG inp.length (fxG inp) (zf (zd 3 [.str n,.i d,.str n_2.1]) 0)),Blk.map true [Sum.inr false,Sum.inl .i64] (zR (λ(k:List Sc)=>List.any inp λ(x:Fx)=>decide (k=[Sum.inr x.name,Sum.inl x.date])) [Sum.inr n,Sum.inl d]) (zB (λ(k:List Sc)=>AV.int .i64 ↑(List.findIdx (λ(x:Fx)=>decide (k=[Sum.inr x.name,Sum.inl x.date])) inp)) [Sum.inr n,Sum.inl d] (AV.i inp.length))] [.box [.i 0,.osl 1 4 0 (List.length v13),.osl 2 3 0 (List.length v9),AV.omap 3,.i x.day,.sl x.f.length 3 (fxG x.f),.sl x.c.length 4 (chG x.c)],.arr (List.length v13) 4 (opG v13),.arr (List.length v9) 3 (fxG v9),Blk.map true [Sum.inr false,Sum.inl .i64] (λ(k:List Sc)=>List.any v9 λx=>decide (k=[Sum.inr x.name,Sum.inl x.date])) λk=>AV.int .i64 ↑(List.findIdx (λ(x:Fx)=>decide (k=[Sum.inr x.name,Sum.inl x.date])) v9)]/\4=4/\List.length v13 <1099511627776) λn_3=>let v1:=RS.put n_3.s n_3.o;.A λn_4=>.R [.int .i64 ↑(List.length n_3.s.ops)] [.box [.i 0,.osl 1 4 0 (List.length v1.ops),.osl 2 3 0 (List.length v1.inp),.omap 3,.i n_3.day,.sl n_3.f.length 3 (fxG n_3.f),.sl n_3.c.length 4 (chG n_3.c)],.arr (List.length v1.ops) 4 (opG v1.ops),.arr (List.length v1.inp) 3 (fxG v1.inp),Blk.map true [Sum.inr false,Sum.inl .i64] (λ(k:List Sc)=>List.any v1.inp λx=>decide (k=[Sum.inr x.name,Sum.inl x.date])) λk=>.int .i64 ↑(List.findIdx (λ(x:Fx)=>decide (k=[Sum.inr x.name,Sum.inl x.date])) v1.inp),.box v18,.arr 1 3 (zd 3 [.str n,.i d,.str n_2.1])])) (.ex (λ(x:XRc)=>let v14:=RS.ops x.s;let v10:=RS.inp x.s;eqL [.ptr 0 0,.agg [.int .u8 1,.int .i64 ↑(List.findIdx (λ(x:Fx)=>decide ([Sum.inr n,Sum.inl d]=[Sum.inr x.name,Sum.inl x.date])) inp),.i 0,.str #[].toList]] [.ptr 0 0,.agg [.int .u8 x.o.kind,.i x.o.a,.i x.o.b,.str x.o.rat]]/\eqH [.box v6,.arr ops.length 4 (opG ops),.arr inp.length 3 (fxG inp),Blk.map true [Sum.inr false,Sum.inl .i64] (λ(k:List Sc)=>List.any inp λ(x:Fx)=>decide (k=[Sum.inr x.name,Sum.inl x.date])) λk=>AV.int .i64 ↑(List.findIdx (λ(x:Fx)=>decide (k=[Sum.inr x.name,Sum.inl x.date])) inp)] [.box [.i 0,.osl 1 4 0 (List.length v14),.osl 2 3 0 (List.length v10),AV.omap 3,.i x.day,.sl x.f.length 3 (fxG x.f),.sl x.c.length 4 (chG x.c)],.arr (List.length v14) 4 (opG v14),.arr (List.length v10) 3 (fxG v10),Blk.map true [Sum.inr false,Sum.inl .i64] (λ(k:List Sc)=>List.any v10 λx=>decide (k=[Sum.inr x.name,Sum.inl x.date])) λk=>AV.int .i64 ↑(List.findIdx (λ(x:Fx)=>decide (k=[Sum.inr x.name,Sum.inl x.date])) v10)]/\4=4/\List.length v14 <1099511627776) λn_1=>let v2:=RS.put n_1.s n_1.o;.A λn_2=>.R [.int .i64 ↑(List.length n_1.s.ops)] [.box [.i 0,.osl 1 4 0 (List.length v2.ops),.osl 2 3 0 (List.length v2.inp),.omap 3,.i n_1.day,.sl n_1.f.length 3 (fxG n_1.f),.sl n_1.c.length 4 (chG n_1.c)],.arr (List.length v2.ops) 4 (opG v2.ops),.arr (List.length v2.inp) 3 (fxG v2.inp),Blk.map true [Sum.inr false,Sum.inl .i64] (λ(k:List Sc)=>List.any v2.inp λx=>decide (k=[Sum.inr x.name,Sum.inl x.date])) λk=>.int .i64 ↑(List.findIdx (λ(x:Fx)=>decide (k=[Sum.inr x.name,Sum.inl x.date])) v2.inp),.box v18])) (.ite true (.ex v7 λn_1=>.all (λ(r:L8×Bool)=>r=wG n_1.1.1 n_1.2.1 n_1.2.2) λn_2=>.side (0=0/\inp.length<=inp.length/\v17 *40<=140737488355328) (.ex (λ(x:XRc)=>let v15:=RS.ops x.s;let v11:=RS.inp x.s;eqL v8 [.ptr 0 0,.agg [.int .u8 x.o.kind,.i x.o.a,.i x.o.b,.str x.o.rat]]/\eqH [.box v5,.arr ops.length 4 (opG ops),.arr v17 3 (appG inp.length (fxG inp) (zf (zd 3 [.str n,.i d,.str n_2.1]) 0)),Blk.map true [Sum.inr false,Sum.inl .i64] (zR (λ(k:List Sc)=>List.any inp λ(x:Fx)=>decide (k=[Sum.inr x.name,Sum.inl x.date])) [Sum.inr n,Sum.inl d]) (zB (λ(k:List Sc)=>AV.int .i64 ↑(List.findIdx (λ(x:Fx)=>decide (k=[Sum.inr x.name,Sum.inl x.date])) inp)) [Sum.inr n,Sum.inl d] (AV.i inp.length))] [.box [.i 0,.osl 1 4 0 (List.length v15),.osl 2 3 0 (List.length v11),AV.omap 3,.i x.day,.sl x.f.length 3 (fxG x.f),.sl x.c.length 4 (chG x.c)],.arr (List.length v15) 4 (opG v15),.arr (List.length v11) 3 (fxG v11),Blk.map true [Sum.inr false,Sum.inl .i64] (λ(k:List Sc)=>List.any v11 λx=>decide (k=[Sum.inr x.name,Sum.inl x.date])) λk=>AV.int .i64 ↑(List.findIdx (λ(x:Fx)=>decide (k=[Sum.inr x.name,Sum.inl x.date])) v11)]/\4=4/\List.length v15 <1099511627776) λn_3=>let v3:=RS.put n_3.s n_3.o;.A λn_4=>.R [.int .i64 ↑(List.length n_3.s.ops)] [.box [.i 0,.osl 1 4 0 (List.length v3.ops),.osl 2 3 0 (List.length v3.inp),.omap 3,.i n_3.day,.sl n_3.f.length 3 (fxG n_3.f),.sl n_3.c.length 4 (chG n_3.c)],.arr (List.length v3.ops) 4 (opG v3.ops),.arr (List.length v3.inp) 3 (fxG v3.inp),Blk.map true [Sum.inr false,Sum.inl .i64] (λ(k:List Sc)=>List.any v3.inp λx=>decide (k=[Sum.inr x.name,Sum.inl x.date])) λk=>.int .i64 ↑(List.findIdx (λ(x:Fx)=>decide (k=[Sum.inr x.name,Sum.inl x.date])) v3.inp),.box v18,.arr 1 3 (zd 3 [.str n,.i d,.str n_2.1])])) (.ex (λ(x:XRc)=>let v16:=RS.ops x.s;let v12:=RS.inp x.s;eqL [.ptr 0 0,.agg [.int .u8 1,.i 0,.i 0,.str #[].toList]] [.ptr 0 0,.agg [.int .u8 x.o.kind,.i x.o.a,.i x.o.b,.str x.o.rat]]/\eqH [.box v6,.arr ops.length 4 (opG ops),.arr inp.length 3 (fxG inp),Blk.map true [Sum.inr false,Sum.inl .i64] (λ(k:List Sc)=>List.any inp λ(x:Fx)=>decide (k=[Sum.inr x.name,Sum.inl x.date])) λk=>AV.int .i64 ↑(List.findIdx (λ(x:Fx)=>decide (k=[Sum.inr x.name,Sum.inl x.date])) inp)] [.box [.i 0,.osl 1 4 0 (List.length v16),.osl 2 3 0 (List.length v12),AV.omap 3,.i x.day,.sl x.f.length 3 (fxG x.f),.sl x.c.length 4 (chG x.c)],.arr (List.length v16) 4 (opG v16),.arr (List.length v12) 3 (fxG v12),Blk.map true [Sum.inr false,Sum.inl .i64] (λ(k:List Sc)=>List.any v12 λx=>decide (k=[Sum.inr x.name,Sum.inl x.date])) λk=>AV.int .i64 ↑(List.findIdx (λ(x:Fx)=>decide (k=[Sum.inr x.name,Sum.inl x.date])) v12)]/\4=4/\List.length v16 <1099511627776) λn_1=>let v4:=RS.put n_1.s n_1.o;.A λn_2=>.R [.int .i64 ↑(List.length n_1.s.ops)] [.box [.i 0,.osl 1 4 0 (List.length v4.ops),.osl 2 3 0 (List.length v4.inp),.omap 3,.i n_1.day,.sl n_1.f.length 3 (fxG n_1.f),.sl n_1.c.length 4 (chG n_1.c)],.arr (List.length v4.ops) 4 (opG v4.ops),.arr (List.length v4.inp) 3 (fxG v4.inp),Blk.map true [Sum.inr false,Sum.inl .i64] (λ(k:List Sc)=>List.any v4.inp λx=>decide (k=[Sum.inr x.name,Sum.inl x.date])) λk=>.int .i64 ↑(List.findIdx (λ(x:Fx)=>decide (k=[Sum.inr x.name,Sum.inl x.date])) v4.inp),.box v18]))) ?_;simp only [q36,Tree.holds,ze];refine⟨λhh=>⟨λg=>by simp at g,λ_=> ?_⟩,λhh=>⟨λ_=> ?_,λg=>by simp at g⟩⟩
 ·have hlt:RS.idx ⟨ops,inp⟩ n d<inp.length:=Ul.1 hh;have e1:(inp.findIdx λx=>decide (([.inr n,.inl d]:List Sc)=[.inr x.name,.inl x.date]))=RS.idx ⟨ops,inp⟩ n d:=idx_eq;rw [e1];refine⟨⟨⟨ops,inp⟩,day,f,c,⟨1,RS.idx ⟨ops,inp⟩ n d,0,[]⟩⟩,⟨by simp,by simp [za],trivial,by show ops.length<_; omega⟩,⟨(),trivial⟩,λ_ _=> ?_⟩;have e2:RS.fix f n d ⟨ops,inp⟩=RS.put ⟨ops,inp⟩ ⟨1,RS.idx ⟨ops,inp⟩ n d,0,[]⟩:=by unfold RS.fix; rw [aP hlt]
  rw [e2] at hq;refine RetR.keep [0,1,2,3] rfl (by simp) (by show ∀ j,j<4->_; decide) rfl hq (by simp [resV,exp2,exp1,exp0,ren0,eqA2,eqL1]) ?_ rfl;refine⟨?_,⟨rfl,rfl,za _ _ _⟩,⟨rfl,rfl,za _ _ _⟩,⟨⟨rfl,.inl rfl⟩,rfl,λ_=>rfl,λ_ _=>rfl⟩,trivial⟩;simp [expB,exp1,exp0,ren0,z4,RS.put,fxS,chS,za]
 ·refine⟨((f,c),n,d),⟨by simp [za],h3⟩,⟨_,rfl⟩,?_⟩;intro v hv;replace hv:v=wG f n d:=hv;refine⟨⟨trivial,aJ _,by omega⟩,λ_=> ?_⟩;have hge:¬ RS.idx ⟨ops,inp⟩ n d<inp.length:=λq=>by rw [Ul.2 q] at hh; cases hh
  have e2:RS.fix f n d ⟨ops,inp⟩=RS.put ⟨ops,inp++[⟨n,d,v.1⟩]⟩ ⟨1,inp.length,0,[]⟩:=by unfold RS.fix; rw [aO hge,hv]; rfl
  rw [e2] at hq;refine⟨⟨⟨ops,inp++[⟨n,d,v.1⟩]⟩,day,f,c,⟨1,inp.length,0,[]⟩⟩,⟨by simp,⟨by simp [za],by simp [za],⟨by simp,rfl,YA (x:=⟨n,d,v.1⟩)⟩,⟨⟨rfl,.inl rfl⟩,rfl,?_,?_⟩,trivial⟩,trivial,by show ops.length<_; omega⟩,⟨(),trivial⟩,λ_ _=> ?_⟩
  ·intro k;simp only [zR,List.any_append,List.any_cons,List.any_nil,Bool.or_false];exact Bool.or_comm _ _
  ·intro k hk;simp only [zB];rw [List.findIdx_append];by_cases q:k=[.inr n,.inl d]
   ·subst q;rw [aP rfl,aO (by rw [idx_eq (ops:=ops)]; exact hge)];simp
   ·rw [aO q];simp only [zR,aW q,Bool.false_or] at hk;rw [aP];rw [List.findIdx_lt_length];exact List.any_eq_true.1 hk
  refine RetR.keep [0,1,2,3] rfl (by simp) (by show ∀ j,j<4->_; decide) rfl hq (by simp [resV,exp2,exp1,exp0,ren0,eqA2,eqL1]) ?_ rfl;refine⟨?_,⟨rfl,rfl,za _ _ _⟩,⟨rfl,rfl,za _ _ _⟩,⟨⟨rfl,.inl rfl⟩,rfl,λ_=>rfl,λ_ _=>rfl⟩,trivial⟩;simp [expB,exp1,exp0,ren0,z4,RS.put,fxS,chS,za]
noncomputable def K98:=Go.Sx.aA f98
theorem QJ{X R:Type}{P:Program}{g:Nat}{fresh:Bool}{inp:X->List AV}{pre:X->Prop}{post:X->R->Prop}{out:X->R->AV×Heap}(μ:X->Nat)
  (step:∀ n,zc P g (ctrP fresh inp (λx=>μ x<n/\pre x) post out)->zc P g (ctrP fresh inp (λx=>μ x<n+1/\pre x) post out)):zc P g (ctrP fresh inp pre post out):=by
 have all:∀ n,zc P g (ctrP fresh inp (λx=>μ x<n/\pre x) post out):=by
  intro n
  induction n with
  | zero=>
   intro args hc Q hq _;simp only [ctrP] at hq;split at hq
   ·obtain⟨x,⟨_,h,_⟩,_⟩:=hq;exact absurd h (Nat.not_lt_zero _)
   ·exact hq.elim
  | succ n ih=>exact step n ih
 intro args hc Q hq hf
 match hc,hq,hf with
 | [],hq,hf=>
  obtain⟨x,⟨h1,h2⟩,h3⟩:=hq;exact all (μ x+1) args [] Q ⟨x,⟨h1,Nat.lt_succ_self _,h2⟩,h3⟩ hf
 | _::_,hq,_=>exact hq.elim
def YH(n:Nat):Ctr:=ctrP true (λx:Ex=>[x.exA]) (λx=>x.size<n/\x.size<2^62) (λx r=>r=x.size) (λ_ (r:Nat)=>(.i (r:Int),[]))
def GSz(g n:Nat):Nat->Option Ctr:=λf=>if f=g then some (YH n) else none
theorem zff{g n:Nat}(h:zc prog g (YH n)):∀ f c,GSz g n f=some c->zc prog f c:=by
 intro f c hf;simp only [GSz] at hf;split at hf
 ·rename_i hg; subst hg; cases hf; exact h
 ·cases hf
theorem Zg{x:Ex}{k d:Int}{r m:L8}{l:Nat}{g:Nat->Nat->AV}(hk:k=x.kind)(hr:r=x.rat)(hm:m=x.name)(hd:d=x.date)(hl:l=x.sub.length)(hg:eqG x.sub.length 5 g (Ex.exG x.sub)):eqL [.agg [.int .u8 k,.str r,.str m,.i d,.sl l 5 g]] [x.exA]:=by
 subst hk; subst hr; subst hm; subst hd; subst hl;exact⟨⟨⟨rfl,rfl⟩,rfl,rfl,⟨rfl,rfl⟩,⟨rfl,rfl,hg⟩,trivial⟩,trivial⟩
def SSz(s:List Ex)(c i:Nat):KV:=[(3,.i (c:Int)),(7,Ex.exS s),(8,.i (s.length:Int)),(9,.i (i:Int))]
theorem UD(n:Nat)(ih:zc prog 98 (YH n)):zc prog 98 (YH (n+1)):=by
 refine zh' f98 λx hx O w0 Q hq=> ?_
 replace hq:=hq _ rfl;obtain⟨hxn,hxs⟩:=hx;rw [Ex.size_eq] at hxn hxs hq;obtain⟨k,r,m,d,s⟩:=x;simp only [Ex.sub] at hxn hxs hq;refine zb.n (zff ih) [3,7,8,9] (.leaf (.loop (lps K98 0).1 (lps K98 0).2 [(3,.i 1),(7,.sl s.length 5 (Ex.exG s)),(8,.i s.length),(9,.i 0)] [.box [.int .u8 k,.str r,.str m,.i d,.sl s.length 5 (Ex.exG s)]])) ?_;simp only [Tree.holds,ze];have hlen:=Ex.wQ s;refine zb.loop (ι:={i:Nat // i<=s.length}) (λi=>SSz s (1+Ex.z6 (s.take i.1)) i.1) (λ_=>[]) (λi=>s.length - i.1) ⟨0,aI _⟩ 0 ?_ ?_ (by kernel_rfl)
 ·exact⟨by simp [SSz,Ex.z6,Ex.exS,za],by simp,by kernel_rfl,aI _⟩
 ·rintro⟨i,hil⟩;have hle:=Ex.xF s i;obtain⟨c,hc⟩:∃ c,1+Ex.z6 (s.take i)=c:=⟨_,rfl⟩;simp only [hc];refine zb.n (zff ih) [3,7,8,9] (let v1:=s.getD (i:Int).toNat Ex.nil;.D ((i:Int)<s.length) (.side ((0:Int)<=i/\(i:Int)<s.length) (.ex (λ(x:Ex)=>eqL [.agg [.int .u8 (Ex.kind v1),.str (Ex.rat v1),.str (Ex.name v1),.i (Ex.date v1),.sl (List.length (Ex.sub v1)) 5 (Ex.deep v1)]] [.agg [.int .u8 x.kind,.str x.rat,.str x.name,.i x.date,.sl x.sub.length 5 (Ex.exG x.sub)]]/\Ex.size x<n/\Ex.size x<4611686018427387904) λn=>.all (λ(r:Nat)=>r=Ex.size n) λn=>.S ((c:Int)+n) (.S (i+1) (.leaf (.back 0 [(3,.i ((c:Int)+n)),(7,.sl s.length 5 (Ex.exG s)),(8,.i s.length),(9,.i (i+1))] [.box [.int .u8 (Ex.kind v1),.str (Ex.rat v1),.str (Ex.name v1),.i (Ex.date v1),.sl (List.length (Ex.sub v1)) 5 (Ex.deep v1)]]))))) (.R [.i c] [])) ?_;simp only [Tree.holds,ze,inR,lo,hi,aD];refine⟨λhlt=> ?_,λhge=> ?_⟩
  ·have hlt:i<s.length:=by have:=aB hlt; omega
   have hg:=Ex.qf hlt;have ht:=Ex.Qp s i hlt;have hle2:=Ex.xF s (i+1);refine⟨by omega,λ_=>⟨s.getD i Ex.nil,⟨Zg rfl rfl rfl rfl rfl (Ex.qY _),by omega,by omega⟩,⟨_,rfl⟩,?_⟩⟩;rintro _ rfl;refine⟨by omega,λ_=>⟨by omega,λ_=> ?_⟩⟩;rw [aP trivial];refine⟨⟨i+1,hlt⟩,by show s.length - (i+1)<s.length - i; omega,?_,by simp,by kernel_rfl,aI _⟩;simp [SSz,Ex.exS,za,ht]; omega
  ·have hge:i=s.length:=by have:=aC hge; omega
   subst hge;rw [bD] at hc;rw [hc] at hq;exact RetR.scal hq rfl (by simp [resV])
def zgm:Ctr:=ctrP true (λx:Ex=>[x.exA]) (λx=>x.size<2^62) (λx r=>r=x.size) (λ_ (r:Nat)=>(.i (r:Int),[]))
theorem zhl:zc prog 98 zgm:=QJ Ex.size UD
def G1c(g:Nat)(C:Ctr):Nat->Option Ctr:=λf=>if f=g then some C else none
theorem zav{g:Nat}{C:Ctr}(h:zc prog g C):∀ f c,G1c g C f=some c->zc prog f c:=by
 intro f c hf;simp only [G1c] at hf;split at hf
 ·rename_i hg; subst hg; cases hf; exact h
 ·cases hf
noncomputable def K99:=Go.Sx.aA f99
def zbf(n:Nat):Ctr:=ctrP true (λp:Ex×Nat=>[p.1.exA,.i (p.2:Int)]) (λp=>p.1.size<n/\p.1.size<2^62/\p.2<2^40) (λp r=>r=min p.1.depth (p.2+1)) (λ_ (r:Nat)=>(.i (r:Int),[]))
def SDp(s:List Ex)(limit c i:Nat):KV:=[(1,.i (limit:Int)),(5,.i (c:Int)),(11,Ex.exS s),(12,.i (s.length:Int)),(13,.i (i:Int))]
theorem Xh(n:Nat)(ih:zc prog 99 (zbf n)):zc prog 99 (zbf (n+1)):=by
 refine zh' f99 λp hp O w0 Q hq=> ?_
 obtain⟨x,limit⟩:=p;obtain⟨hxn,hxs,hli⟩:=hp;replace hq:=hq _ rfl;simp only at hxn hxs hli hq;have hds:=Ex.xG x;have hdp:=Ex.zan x;rw [Ex.xu] at hq hds hdp;rw [Ex.size_eq] at hxn hxs hds;obtain⟨k,r,m,d,s⟩:=x;simp only [Ex.sub] at hxn hxs hq hds hdp;have hlen:=Ex.wQ s;refine zb.n (zav ih) [1,5,11,12,13] (let v1:List Blk:=[.box [.int .u8 k,.str r,.str m,.i d,.sl s.length 5 (Ex.exG s)]];.D ((0:Int)<limit) (.leaf (.loop (lps K99 0).1 (lps K99 0).2 [(1,.i limit),(5,.i 0),(11,.sl s.length 5 (Ex.exG s)),(12,.i s.length),(13,.i 0)] v1)) (.S 1 (.R [.i 1] v1))) ?_;simp only [Tree.holds,ze,inR,lo,hi,aD];refine⟨λhl=> ?_,λhl=> ?_⟩
 ·have hl:0<limit:=by have:=aB hl; omega
  refine zb.loop (ι:={i:Nat // i<=s.length}) (λi=>SDp s limit (min (Ex.zT (s.take i.1)) limit) i.1) (λ_=>[]) (λi=>s.length - i.1) ⟨0,aI _⟩ 0 ?_ ?_ (by kernel_rfl)
  ·exact⟨by simp [SDp,Ex.zT,Ex.exS,za],by simp,by kernel_rfl,aI _⟩
  ·rintro⟨i,hil⟩;obtain⟨c,hc⟩:∃ c,min (Ex.zT (s.take i)) limit=c:=⟨_,rfl⟩;simp only [hc];refine zb.n (zav ih) [1,5,11,12,13] (let v1:=s.getD (i:Int).toNat Ex.nil;.D ((i:Int)<s.length) (.side ((0:Int)<=i/\(i:Int)<s.length) (.S (limit-1) (.ex (λ(x:Ex×Nat)=>eqL [.agg [.int .u8 (Ex.kind v1),.str (Ex.rat v1),.str (Ex.name v1),.i (Ex.date v1),.sl (List.length (Ex.sub v1)) 5 (Ex.deep v1)],.i (limit-1)] [.agg [.int .u8 x.1.kind,.str x.1.rat,.str x.1.name,.i x.1.date,.sl x.1.sub.length 5 (Ex.exG x.1.sub)],.i x.2]/\Ex.size x.1<n/\Ex.size x.1<4611686018427387904/\x.2<1099511627776) λn=>.all (λ(r:Nat)=>r=min n.1.depth (n.2+1)) λn=>.S (i+1) (.leaf (.back 0 [(1,.i limit),(5,.i (max (c:Int) (n:Int))),(11,.sl s.length 5 (Ex.exG s)),(12,.i s.length),(13,.i (i+1))] [.box [.int .u8 (Ex.kind v1),.str (Ex.rat v1),.str (Ex.name v1),.i (Ex.date v1),.sl (List.length (Ex.sub v1)) 5 (Ex.deep v1)]]))))) (.S (c+1) (.R [.i (c+1)] []))) ?_;simp only [Tree.holds,ze,inR,lo,hi,aD];refine⟨λhlt=> ?_,λhge=> ?_⟩
   ·have hlt:i<s.length:=by have:=aB hlt; omega
    have hg:=Ex.qf hlt;have ht:=Ex.kZ s i hlt;refine⟨by omega,λ_=>⟨by omega,λ_=>⟨(s.getD i Ex.nil,limit - 1),⟨?_,by show(s.getD i Ex.nil).size<n; omega,by show(s.getD i Ex.nil).size<2^62; omega,by show limit - 1<2^40; omega⟩,⟨_,rfl⟩,?_⟩⟩⟩
    ·have e1:(limit:Int) - 1=((limit - 1:Nat):Int):=by omega
     rw [e1];exact⟨⟨⟨rfl,rfl⟩,rfl,rfl,⟨rfl,rfl⟩,⟨rfl,rfl,Ex.qY _⟩,trivial⟩,⟨rfl,rfl⟩,trivial⟩
    rintro _ rfl;refine⟨by omega,λ_=> ?_⟩;rw [aP trivial];refine⟨⟨i+1,hlt⟩,by show s.length - (i+1)<s.length - i; omega,?_,by simp,by kernel_rfl,aI _⟩;simp [SDp,ht,Ex.exS,za]; omega
   ·have hge:i=s.length:=by have:=aC hge; omega
    subst hge;rw [bD] at hc;refine⟨by omega,λ_=> ?_⟩;exact RetR.scal hq rfl (by simp [resV]; omega)
 ·have hl:limit=0:=by have:=aC hl; omega
  refine⟨by decide,λ_=> ?_⟩;exact RetR.scal hq rfl (by simp [resV]; omega)
theorem zer:zc prog 99 (ctrP true (λp:Ex×Nat=>[p.1.exA,.i (p.2:Int)]) (λp=>p.1.size<2^62/\p.2<2^40) (λp r=>r=min p.1.depth (p.2+1)) (λ_ (r:Nat)=>(.i (r:Int),[]))):=QJ (λp=>p.1.size) Xh
noncomputable def K61:=Go.Sx.aA f61
def zix:Ctr:=ctrP true (λx:Ex=>[x.exA]) (λx=>x.rat.length<2^40/\x.name.length<2^40) (λx r=>r=bif jL x.kind x.rat x.name x.date x.sub.length then 1 else 0) (λ_ (r:Int)=>(.int .u8 r,[]))
noncomputable def GLf:=tb jM (tb Y5 (tb ux tz))
theorem zht:zc prog 100 zix:=by
 refine zh' f100 λx hx O w0 Q hq=> ?_
 obtain⟨k,r,m,d,s⟩:=x;replace hq:=hq _ rfl;obtain⟨h1,h2⟩:=hx;simp only [Ex.rat,Ex.name,Ex.kind,Ex.date,Ex.sub] at h1 h2 hq;refine zb.n GLf.h [] (let v2:=r=#[].toList;let v1:List Blk:=[.box [.int .u8 k,.str r,.str m,.i d,.sl s.length 5 (Ex.exG s)]];let v4:we:=.ret [.int .u8 1] v1;let v3:we:=.ret [.int .u8 0] v1;.D (k=1) (.ex (λ(x:L8)=>decide ((s.length:Int)=0)=true->q15 [.str r] x) λn=>.all (λ(x:Int)=>decide ((s.length:Int)=0)=true->x=errR n) λn=>.ite (!bif bif bif decide ((s.length:Int)=0) then decide (n=0) else false then decide (m=#[].toList) else false then decide (d=0) else false) (.leaf v3) (.leaf v4)) (.D (k=2) (.ex (λ(x:L8)=>(bif decide ((s.length:Int)=0) then decide v2 else false)=true->q15 [.str m] x) λn=>.all (λ(x:Bool)=>(bif decide ((s.length:Int)=0) then decide v2 else false)=true->x=jb n) λn=>.ex (λ(x:Int)=>(bif bif decide ((s.length:Int)=0) then decide v2 else false then n else false)=true->q32 [.i d] x) λn_1=>.all (λ(x:Bool)=>(bif bif decide ((s.length:Int)=0) then decide v2 else false then n else false)=true->x=dayB n_1) λn_2=>.ite (!bif bif bif decide ((s.length:Int)=0) then decide v2 else false then n else false then n_2 else false) (.leaf v3) (.leaf v4)) (.D (k=3) (.ex (λ(x:L8)=>(bif decide ((s.length:Int)=0) then decide v2 else false)=true->q15 [.str m] x) λn=>.all (λ(x:Bool)=>(bif decide ((s.length:Int)=0) then decide v2 else false)=true->x=jb n) λn=>.ite (!bif bif bif decide ((s.length:Int)=0) then decide v2 else false then n else false then decide (d=0) else false) (.leaf v3) (.leaf v4)) (.ite true (.leaf v3) (.leaf v4))))) ?_;simp only [q15,q32,Tree.holds,ze,inR,lo,hi,aD]
 have fin:∀ T:Bool,T=jL k r m d s.length->((!T)=true->Q (.int .u8 0,[]))/\((!T)=false->Q (.int .u8 1,[])):=by
  intro T hT;subst hT;cases hl:jL k r m d s.length with
  | true=>rw [hl] at hq; exact⟨λh=>(by cases h),λ_=>hq⟩
  | false=>rw [hl] at hq; exact⟨λ_=>hq,λh=>(by cases h)⟩
 refine⟨λhk=> ?_,λhk=> ?_⟩
 ·have hk:k=1:=aB hk;refine⟨r,λ_=>⟨by simp,by omega⟩,⟨_,λ_=>rfl⟩,?_⟩;intro e he
  have F:=fin (bif bif bif decide ((s.length:Int)=0) then decide (e=0) else false then decide (m=[]) else false then decide (d=0) else false) (by
   by_cases hl:s.length=0
   ·have:=he (by simp [hl]);subst this;simp [jL,hk,hl,Bool.and_assoc]
   ·simp [jL,hl])
  exact⟨λh=>RetR.scal (F.1 h) rfl (by simp [resV]),λh=>RetR.scal (F.2 h) rfl (by simp [resV])⟩
 ·have hk1:k≠1:=aC hk;refine⟨λhk=> ?_,λhk=> ?_⟩
  ·have hk:k=2:=aB hk;refine⟨m,λ_=>⟨by simp,by omega⟩,⟨_,λ_=>rfl⟩,?_⟩;intro e he;refine⟨d,λ_=>⟨by simp,trivial⟩,⟨_,λ_=>rfl⟩,?_⟩;intro f hf
   have F:=fin (bif bif bif decide ((s.length:Int)=0) then decide (r=[]) else false then e else false then f else false) (by
    by_cases hl:s.length=0
    ·by_cases hr:r=[]
     ·have:=he (by simp [hl,hr]);subst this;cases hn:jb m with
      | true=>
       have:=hf (by simp [hl,hr,hn]);subst this;simp [jL,hk,hl,hr,hn]
      | false=>simp [jL,hk,hl,hr,hn]
     ·simp [jL,hk,hl,hr]
    ·simp [jL,hl])
   exact⟨λh=>RetR.scal (F.1 h) rfl (by simp [resV]),λh=>RetR.scal (F.2 h) rfl (by simp [resV])⟩
  ·have hk2:k≠2:=aC hk;refine⟨λhk=> ?_,λhk=> ?_⟩
   ·have hk:k=3:=aB hk;refine⟨m,λ_=>⟨by simp,by omega⟩,⟨_,λ_=>rfl⟩,?_⟩;intro e he
    have F:=fin (bif bif bif decide ((s.length:Int)=0) then decide (r=[]) else false then e else false then decide (d=0) else false) (by
     by_cases hl:s.length=0
     ·by_cases hr:r=[]
      ·have:=he (by simp [hl,hr]);subst this;simp [jL,hk,hl,hr]
      ·simp [jL,hk,hl,hr]
     ·simp [jL,hl])
    exact⟨λh=>RetR.scal (F.1 h) rfl (by simp [resV]),λh=>RetR.scal (F.2 h) rfl (by simp [resV])⟩
   ·have hk3:k≠3:=aC hk;have F:=fin false (by simp [jL,hk1,hk2,hk3]);exact⟨λh=>RetR.scal (F.1 rfl) rfl (by simp [resV]),λh=>by cases h⟩
def SSo(s:List Ex)(i:Nat):KV:=[(3,.ptr 1 0),(41,Ex.exS s),(42,.i (s.length:Int)),(43,.i (i:Int))]
def HSo(k:Int):Heap:=[.dead,.box [.sl (j1 k) 1 λj _=>.int .u8 (q7 k j),.int .u8 (qV k)]]
def Ur(n:Nat):Ctr:=ctrP true (λx:Ex=>[x.exA]) (λx=>x.size<n/\x.size<2^60/\x.qH<2^40) (λx r=>r=x.zz) (λ_ (r:Int)=>(.int .u8 r,[]))
def GSo(n:Nat):Nat->Option Ctr:=λf=>if f=61 then some (Ur n) else if f=100 then some zix else none
theorem zec{n:Nat}(h:zc prog 61 (Ur n)):∀ f c,GSo n f=some c->zc prog f c:=by
 intro f c hf;simp only [GSo] at hf;split at hf
 ·rename_i hg; subst hg; cases hf; exact h
 ·split at hf
  ·rename_i hg; subst hg; cases hf; exact zht
  ·cases hf
abbrev q37(A:List AV)(x:Ex):Prop:=eqL A [.agg [.int .u8 x.kind,.str x.rat,.str x.name,.i x.date,.sl x.sub.length 5 (Ex.exG x.sub)]]/\x.rat.length<1099511627776/\x.name.length<1099511627776
theorem UF(n:Nat)(ih:zc prog 61 (Ur n)):zc prog 61 (Ur (n+1)):=by
 refine zh' f61 λx hx O w0 Q hq=> ?_
 replace hq:=hq _ rfl;obtain⟨hxn,hxs,hxb⟩:=hx;rw [Ex.size_eq] at hxn hxs;rw [Ex.u3] at hxb;rw [Ex.Qh] at hq;obtain⟨k,r,m,d,s⟩:=x;simp only [Ex.sub,Ex.rat,Ex.name,Ex.kind,Ex.date] at hxn hxs hq hxb;refine zb.n (zec ih) [3,41,42,43] (let v3:List (Nat×AV):=[(3,.ptr 1 0),(41,.sl s.length 5 (Ex.exG s)),(42,.i s.length),(43,.i 0)];let v2:=q37 [.agg [.int .u8 k,.str r,.str m,.i d,.sl s.length 5 (Ex.exG s)]];let v1:List AV:=[.int .u8 k,.str r,.str m,.i d,.sl s.length 5 (Ex.exG s)];let v4:List Blk:=[.box v1,.box [.nils,.int .u8 0]];.ite (jh k) (.ite false (.ex v2 λn=>.all (λ(r:Int)=>r=bif jL n.kind n.rat n.name n.date n.sub.length then(1:Int) else(0:Int)) λn=>.R [.int .u8 n] [.box v1,.box [.sl (j1 k) 1 λ(j x:Nat)=>.int .u8 (q7 k j),.int .u8 (qV k)]]) (.ite (bif bif bif !decide ((s.length:Int)=(↑(j1 k):Int)) then true else !decide (r=#[].toList) then true else !decide (m=#[].toList) then true else !decide (d=0)) (.R [.int .u8 0] [.box v1,.box [.sl (j1 k) 1 λ(j x:Nat)=>.int .u8 (q7 k j),.int .u8 (qV k)]]) (.leaf (.loop (lps K61 0).1 (lps K61 0).2 v3 [.box v1,.box [.sl (j1 k) 1 λ(j x:Nat)=>.int .u8 (q7 k j),.int .u8 (qV k)]])))) (.ite true (.ex v2 λn=>.all (λ(r:Int)=>r=bif jL n.kind n.rat n.name n.date n.sub.length then(1:Int) else(0:Int)) λn=>.R [.int .u8 n] v4) (.ite (bif bif bif !decide ((s.length:Int)=0) then true else !decide (r=#[].toList) then true else !decide (m=#[].toList) then true else !decide (d=0)) (.R [.int .u8 0] v4) (.leaf (.loop (lps K61 0).1 (lps K61 0).2 v3 v4))))) ?_;simp only [q37,Tree.holds,ze,inR,lo,hi,aD];refine⟨λhk=>⟨λh=>(by cases h),λ_=>⟨λh=> ?_,λh=> ?_⟩⟩,λhk=> ?_⟩
 ·have hn:¬ (r=[]/\m=[]/\d=0/\Ex.jS s=ja k):=by
   rintro⟨rfl,rfl,rfl,h4⟩;have:s.length=j1 k:=by rw [<- Ex.jT,h4]; rfl
   simp [this] at h
  have e:vQ k r m d (Ex.jS s)=0:=by unfold vQ; rw [aP hk,aO hn]
  exact RetR.scal hq rfl (by simp [resV,e])
 ·have hh:s.length=j1 k/\r=[]/\m=[]/\d=0:=by
   simp at h;obtain⟨⟨⟨h1,h2⟩,h3⟩,h4⟩:=h;exact⟨by omega,h2,h3,h4⟩
  obtain⟨hl,rfl,rfl,rfl⟩:=hh;have hlen:=Ex.wQ s;have e1:vQ k [] [] 0 (Ex.jS s)=if Ex.jS s=ja k then qV k else 0:=by unfold vQ; rw [aP hk]; simp
  rw [e1] at hq;clear h e1;refine zb.loop (ι:={i:Nat // i<=s.length/\∀ j,j<i->(s.getD j Ex.nil).zz=q7 k j}) (λi=>SSo s i.1) (λ_=>HSo k) (λi=>s.length - i.1) ⟨0,aI _,λj hj=>by omega⟩ 0 ?_ ?_ (by kernel_rfl)
  ·exact⟨by simp [SSo,Ex.exS,za],by simp [HSo,za],by kernel_rfl,aI _⟩
  ·rintro⟨i,hil,hib⟩;refine zb.n (zec ih) [3,41,42,43] (let v1:=s.getD (i:Int).toNat Ex.nil;let v2:List AV:=[.int .u8 (Ex.kind v1),.str (Ex.rat v1),.str (Ex.name v1),.i (Ex.date v1),.sl (List.length (Ex.sub v1)) 5 (Ex.deep v1)];.D ((i:Int)<s.length) (.side ((0:Int)<=i/\(i:Int)<s.length) (.side ((0:Int)<=i/\(i:Int)<(↑(j1 k):Int)) (.ex (λ(x:Ex)=>eqL [.agg [.int .u8 (Ex.kind v1),.str (Ex.rat v1),.str (Ex.name v1),.i (Ex.date v1),.sl (List.length (Ex.sub v1)) 5 (Ex.deep v1)]] [.agg [.int .u8 x.kind,.str x.rat,.str x.name,.i x.date,.sl x.sub.length 5 (Ex.exG x.sub)]]/\Ex.size x<n/\Ex.size x<1152921504606846976/\Ex.qH x<1099511627776) λn=>.all (λ(r:Int)=>r=Ex.zz n) λn=>.N (n=q7 k (i:Int).toNat) (.R [.int .u8 0] [.dead,.box [.sl (j1 k) 1 λ(j x:Nat)=>.int .u8 (q7 k j),.int .u8 (qV k)],.box v2]) (.S (i+1) (.leaf (.back 0 [(3,.ptr 1 0),(41,.sl s.length 5 (Ex.exG s)),(42,.i s.length),(43,.i (i+1))] [.dead,.box [.sl (j1 k) 1 λ(j x:Nat)=>.int .u8 (q7 k j),.int .u8 (qV k)],.box v2])))))) (.R [.int .u8 (qV k)] [.dead,.box [.sl (j1 k) 1 λ(j x:Nat)=>.int .u8 (q7 k j),.int .u8 (qV k)]])) ?_;simp only [Tree.holds,ze,inR,lo,hi,aD];refine⟨λhlt=> ?_,λhge=> ?_⟩
   ·have hlt:i<s.length:=by have:=aB hlt; omega
    have hg:=Ex.qf hlt;have hg2:=Ex.ZL hlt;have hb0:Ex.vZ s<2^40:=by simpa using hxb
    refine⟨by omega,λ_=>⟨by omega,λ_=>⟨s.getD i Ex.nil,⟨Zg rfl rfl rfl rfl rfl (Ex.qY _),by omega,by omega,by omega⟩,⟨_,rfl⟩,?_⟩⟩⟩;intro e he;refine⟨λh=> ?_,λh=>⟨by omega,λ_=> ?_⟩⟩
    ·have hne:¬ Ex.jS s=ja k:=by
      intro h2;have:=(Ex.yv.1 h2).2 i hlt;rw [<- he] at this;have h3:¬ e=q7 k i:=by simpa using h
      exact h3 this
     rw [aO hne] at hq;exact RetR.scal hq rfl (by simp [resV])
    ·rw [aP trivial];have h3:e=q7 k i:=by simpa using h
     refine⟨⟨i+1,hlt,λj hj=> ?_⟩,by show s.length - (i+1)<s.length - i; omega,by simp [SSo,Ex.exS,za],by simp [HSo,za],by kernel_rfl,aI _⟩;rcases aR j i with h1 | h1
     ·exact hib j h1
     ·have:j=i:=by omega
      rw [this,<- he,h3]
   ·have hge:i=s.length:=by have:=aC hge; omega
    subst hge;have:Ex.jS s=ja k:=Ex.yv.2 ⟨hl,hib⟩;rw [aP this] at hq;exact RetR.scal hq rfl (by simp [resV])
 ·refine⟨λ_=> ?_,λh=>(by cases h)⟩;refine⟨.mk k r m d s,⟨⟨⟨⟨rfl,rfl⟩,rfl,rfl,⟨rfl,rfl⟩,⟨rfl,rfl,za _ _ _⟩,trivial⟩,trivial⟩,by show r.length<_; omega,by show m.length<_; omega⟩,⟨_,rfl⟩,?_⟩;intro e he
  have e1:vQ k r m d (Ex.jS s)=e:=by
   unfold vQ;rw [aO (by rw [hk]; decide),he,Ex.jT];show _=bif jL k r m d s.length then 1 else 0
   cases jL k r m d s.length<;>rfl
  rw [e1] at hq;exact RetR.scal hq rfl (by simp [resV])
def WN:Ctr:=ctrP true (λx:Ex=>[x.exA]) (λx=>x.size<2^60/\x.qH<2^40) (λx r=>r=x.zz) (λ_ (r:Int)=>(.int .u8 r,[]))
theorem Y2:zc prog 61 WN:=QJ Ex.size UF
def zc9:Ctr:=ctrP true (λx:Ex=>[x.exA]) (λx=>x.size<2^62) (λx r=>r=x.size) (λ_ (r:Nat)=>(.i (r:Int),[]))
def zeg:Ctr:=ctrP true (λp:Ex×Nat=>[p.1.exA,.i (p.2:Int)]) (λp=>p.1.size<2^62/\p.2<2^40) (λp r=>r=min p.1.depth (p.2+1)) (λ_ (r:Nat)=>(.i (r:Int),[]))
def Yw:Ctr:=ctrP true (λx:Ex=>[x.exA]) (λx=>x.size<2^40/\x.qH<2^40) (λx r=>r=x.errX) (λ_ (r:Int)=>(.i r,[]))
theorem eqX(x:Ex):eqL [.agg [.int .u8 x.kind,.str x.rat,.str x.name,.i x.date,.sl x.sub.length 5 (Ex.exG x.sub)]] [x.exA]:=Zg rfl rfl rfl rfl rfl (za _ _ _)
theorem UW{x:Ex}{n:Nat}(hn:decide (500<(x.size:Int))=false->(60<n↔60<x.depth)) :
  ((bif decide (500<(x.size:Int)) then true else decide (60<(n:Int)))=true->x.errX=4)/\((bif decide (500<(x.size:Int)) then true else decide (60<(n:Int)))=false->x.errX=if x.zz=0 then 8 else 0):=by
 by_cases h:500<x.size
 ·have e:decide (500<(x.size:Int))=true:=aX (by omega);rw [e];exact⟨λ_=>aP (.inl h),λh=>by cases h⟩
 ·have e:decide (500<(x.size:Int))=false:=aW (by omega);have h2:=hn e;rw [e];simp only [cond_false];by_cases h3:60<n
  ·exact⟨λ_=>aP (.inr (h2.1 h3)),λh=>by have:=aC h; omega⟩
  ·refine⟨λh=>by have:=aB h; omega,λ_=> ?_⟩;unfold Ex.errX;rw [aO];rintro(h4 | h4)
   ·exact h h4
   ·exact h3 (h2.2 h4)
noncomputable def GCk:=tb zhl (tb zer (tb Y2 tz))
abbrev q38(A:List AV)(x:Ex):Prop:=eqL A [.agg [.int .u8 x.kind,.str x.rat,.str x.name,.i x.date,.sl x.sub.length 5 (Ex.exG x.sub)]]/\Ex.size x<1152921504606846976/\Ex.qH x<1099511627776
theorem zaq:zc prog 60 Yw:=by
 refine zh' f60 λx hx O w0 Q hq=> ?_
 replace hq:=hq _ rfl;obtain⟨h1,h2⟩:=hx;refine zb.n GCk.h [] (let v2:List Blk:=[.box [.int .u8 x.kind,.str x.rat,.str x.name,.i x.date,.sl x.sub.length 5 (Ex.exG x.sub)]];let v1:=[AV.int .u8 x.kind,AV.str x.rat,AV.str x.name,AV.i x.date,AV.sl x.sub.length 5 (Ex.exG x.sub)];.ex (λ(x_1:Ex)=>eqL [.agg v1] [.agg [.int .u8 x_1.kind,.str x_1.rat,.str x_1.name,.i x_1.date,.sl x_1.sub.length 5 (Ex.exG x_1.sub)]]/\Ex.size x_1<4611686018427387904) λn=>.all (λ(r:Nat)=>r=Ex.size n) λn=>.ex (λ(x_1:Ex×Nat)=>decide ((500:Int)<n)=false->eqL [.agg v1,.i 60] [.agg [.int .u8 x_1.1.kind,.str x_1.1.rat,.str x_1.1.name,.i x_1.1.date,.sl x_1.1.sub.length 5 (Ex.exG x_1.1.sub)],.i x_1.2]/\Ex.size x_1.1<4611686018427387904/\x_1.2<1099511627776) λn_1=>.all (λ(x:Nat)=>decide ((500:Int)<n)=false->x=min n_1.1.depth (n_1.2+1)) λn_2=>.ite (bif decide ((500:Int)<n) then true else decide ((60:Int)<n_2)) (.R [.i 4] v2) (.ex (q38 [.agg v1]) λn=>.all (λ(r:Int)=>r=Ex.zz n) λn=>.D (n=0) (.R [.i 8] v2) (.R [.i 0] v2))) ?_;simp only [q38,Tree.holds,ze,inR,lo,hi,aD];refine⟨x,⟨Zg rfl rfl rfl rfl rfl (za _ _ _),by omega⟩,⟨_,rfl⟩,?_⟩;rintro _ rfl;refine⟨(x,60),λ_=>⟨⟨⟨⟨rfl,rfl⟩,rfl,rfl,⟨rfl,rfl⟩,⟨rfl,rfl,za _ _ _⟩,trivial⟩,⟨rfl,rfl⟩,trivial⟩,by show x.size<_; omega,by show 60<1099511627776; omega⟩,⟨_,λ_=>rfl⟩,?_⟩;intro c hc;have em:=UW (x:=x) (n:=c) λh=>by have:=hc h; simp only at this; omega
 refine⟨λh=> ?_,λh=>⟨x,⟨eqX x,by omega,by omega⟩,⟨_,rfl⟩,?_⟩⟩
 ·rw [em.1 h] at hq;exact RetR.scal hq rfl (by simp [resV])
 ·have e:=em.2 h;rintro _ rfl;refine⟨λg=> ?_,λg=> ?_⟩
  ·rw [e,aP (aB g)] at hq;exact RetR.scal hq rfl (by simp [resV])
  ·rw [e,aO (aC g)] at hq;exact RetR.scal hq rfl (by simp [resV])
structure St8 where
 f:List Fx
 c:List Ch
 day:Int
 e:Int
def St8.box(s:St8):Blk:=.box [fxS s.f,chS s.c,.i s.day,.i s.e]
def St8.err(s:St8)(e:Int):St8:=⟨s.f,s.c,s.day,e⟩
theorem qy(f:List Fx)(c:List Ch)(day e:Int):eqH [.box [.sl f.length 3 (fxG f),.sl c.length 4 (chG c),.i day,.i e]] [(St8.mk f c day e).box]:=⟨⟨⟨rfl,rfl,za _ _ _⟩,⟨rfl,rfl,za _ _ _⟩,⟨rfl,rfl⟩,⟨rfl,rfl⟩,trivial⟩,trivial⟩
theorem RetR.st8{ctr:Ctr}{Q:AV×Heap->Prop}{rs:List AV}{f:List Fx}{c:List Ch}{day e:Int}{r:AV}(hf:ctr.fresh=false)(hq:Q (r,[(St8.mk f c day e).box]))(hs:yV r=true)(hr:resV rs=r)(h2:exp2 [.box [.sl f.length 3 (fxG f),.sl c.length 4 (chG c),.i day,.i e]] [0] r=r:=by rfl):RetR ctr 1 Q rs [.box [.sl f.length 3 (fxG f),.sl c.length 4 (chG c),.i day,.i e]]:=by
 subst hr;refine RetR.keep [0] rfl rfl (by decide) hf hq ?_ ?_ rfl
 ·rw [h2]; exact JT hs
 ·exact qy f c day e
structure KS where
 s:St8
 x:L8
 e:Int
def KJ:Ctr:=ctrT false false (λk:KS=>[.ptr 0 0,.str k.x,.i k.e]) (λk=>[k.s.box]) (λ_=>True) (λk r=>r=if k.s.e=0 then k.e else k.s.e) (λk (r:Int)=>(.str k.x,[(k.s.err r).box]))
def zcu:Ctr:=ctrT false false (λk:St8×Int×Int=>[.ptr 0 0,.i k.2.1,.i k.2.2]) (λk=>[k.1.box]) (λ_=>True) (λk r=>r=if k.1.e=0 then k.2.2 else k.1.e) (λk (r:Int)=>(.i k.2.1,[(k.1.err r).box]))
theorem VZ:zc prog 66 KJ:=by
 refine zD (fn:=f66) (c:=f66.body.getD .skip) rfl rfl rfl (λh=>by cases h) λk hk O w0 I0 Q hl0 hq=> ?_
 obtain⟨⟨f,c,day,e⟩,x,e'⟩:=k;replace hq:=hq _ rfl;simp only at hq;refine zb.n zA [] (.D (e=0) (.R [.str x] [.box [.sl f.length 3 (fxG f),.sl c.length 4 (chG c),.i day,.i e']]) (.R [.str x] [.box [.sl f.length 3 (fxG f),.sl c.length 4 (chG c),.i day,.i e]])) ?_;simp only [Tree.holds,ze];refine⟨λh=> ?_,λh=> ?_⟩
 ·rw [aP (aB h)] at hq;exact RetR.st8 rfl hq rfl rfl
 ·rw [aO (aC h)] at hq;exact RetR.st8 rfl hq rfl rfl
theorem zfn:zc prog 138 zcu:=by
 refine zD (fn:=f138) (c:=f138.body.getD .skip) rfl rfl rfl (λh=>by cases h) λk hk O w0 I0 Q hl0 hq=> ?_
 obtain⟨⟨f,c,day,e⟩,x,e'⟩:=k;replace hq:=hq _ rfl;simp only at hq;refine zb.n zA [] (.D (e=0) (.R [.i x] [.box [.sl f.length 3 (fxG f),.sl c.length 4 (chG c),.i day,.i e']]) (.R [.i x] [.box [.sl f.length 3 (fxG f),.sl c.length 4 (chG c),.i day,.i e]])) ?_;simp only [Tree.holds,ze];refine⟨λh=> ?_,λh=> ?_⟩
 ·rw [aP (aB h)] at hq;exact RetR.st8 rfl hq rfl rfl
 ·rw [aO (aC h)] at hq;exact RetR.st8 rfl hq rfl rfl
def fixC:Ctr:=ctrT false false (λk:KS=>[.ptr 0 0,.str k.x,.i k.e]) (λk=>[k.s.box]) (λk=>k.s.f.length<2^40/\k.s.e=0) (λk r=>r=fixR k.s.f k.x k.e) (λk (r:L8×Int)=>(.str r.1,[(k.s.err r.2).box]))
noncomputable def GFx:=tb YC (tb VZ tz)
abbrev q39(A:List AV)(H:Heap)(x:KS):Prop:=eqL A [.ptr 0 0,.str x.x,.i x.e]/\eqH H [.box [.sl x.s.f.length 3 (fxG x.s.f),.sl x.s.c.length 4 (chG x.s.c),.i x.s.day,.i x.s.e]]/\1=1/\True
theorem UI:zc prog 64 fixC:=by
 refine zD (fn:=f64) (c:=f64.body.getD .skip) rfl rfl rfl (λh=>by cases h) λk hk O w0 I0 Q hl0 hq=> ?_
 obtain⟨⟨f,c,day,e⟩,x,d⟩:=k;obtain⟨h1,h2⟩:=hk;replace hq:=hq _ rfl;simp only at h1 h2 hq;subst h2;refine zb.n GFx.h [] (.ex (q36 [.agg [.sl f.length 3 (fxG f),.sl c.length 4 (chG c)],.str x,.i d]) λn=>.all (λ(r:L8×Bool)=>r=wG n.1.1 n.2.1 n.2.2) λn=>.ite (!Prod.snd n) (.ex (q39 [.ptr 0 0,.str n.1,.i 30] [.box [.sl f.length 3 (fxG f),.sl c.length 4 (chG c),.i day,.i 0]]) λn=>.all (λ(r:Int)=>r=if St8.e n.s=0 then KS.e n else St8.e n.s) λn_1=>let v1:=n.s.err n_1;.R [.str n.x] [.box [.sl (List.length v1.f) 3 (fxG v1.f),.sl (List.length v1.c) 4 (chG v1.c),.i v1.day,.i v1.e]]) (.R [.str n.1] [.box [.sl f.length 3 (fxG f),.sl c.length 4 (chG c),.i day,.i 0]])) ?_;simp only [q36,q39,Tree.holds,ze];refine⟨((f,c),(x,d)),⟨⟨⟨⟨rfl,rfl,za _ _ _⟩,⟨rfl,rfl,za _ _ _⟩,trivial⟩,rfl,⟨rfl,rfl⟩,trivial⟩,h1⟩,⟨_,rfl⟩,?_⟩;rintro _ rfl;unfold fixR at hq;refine⟨λh=> ?_,λh=> ?_⟩
 ·have h:(wG f x d).2=false:=by simpa using h
  have h0:(wG f x d).1=[]:=zeq h;rw [aO (by rw [h]; decide)] at hq;refine⟨⟨⟨f,c,day,0⟩,[],30⟩,⟨⟨⟨rfl,rfl⟩,h0,⟨rfl,rfl⟩,trivial⟩,qy f c day 0,trivial,trivial⟩,⟨_,rfl⟩,?_⟩;rintro _ rfl;exact RetR.st8 rfl hq rfl rfl
 ·have h:(wG f x d).2=true:=by simpa using h
  rw [aP h] at hq;exact RetR.st8 rfl hq rfl rfl
structure K2 where
 s:St8
 a:L8
 b:L8
def cmpE(e:Int)(a b:L8):Int×Int:=if e≠0 then(0,e) else cmpR a b
def zdq:Ctr:=ctrT false false (λk:K2=>[.ptr 0 0,.str k.a,.str k.b]) (λk=>[k.s.box]) (λk=>k.s.e=0->k.a.length<2^61/\k.b.length<2^61) (λk r=>r=cmpE k.s.e k.a k.b) (λk (r:Int×Int)=>(.i r.1,[(k.s.err r.2).box]))
noncomputable def GCq:=tb Uv (tb zfn tz)
theorem YN:zc prog 109 zdq:=by
 refine zD (fn:=f109) (c:=f109.body.getD .skip) rfl rfl rfl (λh=>by cases h) λk hk O w0 I0 Q hl0 hq=> ?_
 obtain⟨⟨f,c,day,e⟩,a,b⟩:=k;replace hq:=hq _ rfl;simp only at hk hq;unfold cmpE at hq;refine zb.n GCq.h [] (.N (e=0) (.R [.i 0] [.box [.sl f.length 3 (fxG f),.sl c.length 4 (chG c),.i day,.i e]]) (.ex (q28 [.str a,.str b]) λn=>.all (λ(r:Int×Int)=>r=cmpR n.1 n.2) λn=>.ex (λ(x:St8×Int×Int)=>eqL [.ptr 0 0,.i n.1,.i n.2] [.ptr 0 0,.i x.2.1,.i x.2.2]/\eqH [.box [.sl f.length 3 (fxG f),.sl c.length 4 (chG c),.i day,.i e]] [.box [.sl x.1.f.length 3 (fxG x.1.f),.sl x.1.c.length 4 (chG x.1.c),.i x.1.day,.i x.1.e]]/\1=1/\True) λn=>.all (λ(r:Int)=>r=if St8.e n.1=0 then n.2.2 else St8.e n.1) λn_1=>let v1:=n.1.err n_1;.R [.i n.2.1] [.box [.sl (List.length v1.f) 3 (fxG v1.f),.sl (List.length v1.c) 4 (chG v1.c),.i v1.day,.i v1.e]])) ?_;simp only [q28,Tree.holds,ze];refine⟨λh=> ?_,λh=> ?_⟩
 ·have h:e≠0:=by simpa using h
  rw [aP h] at hq;exact RetR.st8 rfl hq rfl rfl
 ·have h:e=0:=by simpa using h
  subst h;obtain⟨h1,h2⟩:=hk rfl;rw [aO (by simp)] at hq;refine⟨(a,b),⟨⟨rfl,rfl,trivial⟩,h1,h2⟩,⟨_,rfl⟩,?_⟩;rintro _ rfl;refine⟨(⟨f,c,day,0⟩,(cmpR a b).1,(cmpR a b).2),⟨⟨⟨rfl,rfl⟩,⟨rfl,rfl⟩,⟨rfl,rfl⟩,trivial⟩,qy f c day 0,trivial,trivial⟩,⟨_,rfl⟩,?_⟩;rintro _ rfl;exact RetR.st8 rfl hq rfl rfl
def sopC(F:L8->L8->L8×Int)(same:Bool):Ctr:=ctrT false false (λk:K2=>[.ptr 0 0,.str k.a,.str k.b]) (λk=>[k.s.box]) (λk=>k.s.e=0/\k.a.length<2^61/\k.b.length<2^61) (λk r=>r.2=(F k.a k.b).2/\(r.2=0->r.1=(F k.a k.b).1)) (λk (r:L8×Int)=>(.tup [.str r.1,.i r.2],[(bif same then k.s else k.s.err r.2).box]))
noncomputable def zl3:=tb y8 (tb kP (tb yp tz))
theorem zhd:zc prog 190 (sopC addR true):=by
 refine zD (fn:=f190) (c:=f190.body.getD .skip) rfl rfl rfl (λh=>by cases h) λk hk O w0 I0 Q hl0 hq=> ?_
 obtain⟨⟨f,c,day,e⟩,a,b⟩:=k;replace hq:=hq (addR a b) ⟨rfl,λ_=>rfl⟩;obtain⟨h0,h1,h2⟩:=hk;simp only at h0 h1 h2 hq;refine zb.n zl3.h [] (.ex (q28 [.str a,.str b]) λn=>.all (λ(r:L8×Int)=>r=addR n.1 n.2) λn=>.R [.str n.1,.i n.2] [.box [.sl f.length 3 (fxG f),.sl c.length 4 (chG c),.i day,.i e]]) ?_;simp only [q28,Tree.holds,ze];refine⟨(a,b),⟨⟨rfl,rfl,trivial⟩,h1,h2⟩,⟨_,rfl⟩,?_⟩;rintro _ rfl;exact RetR.st8 rfl hq rfl rfl
noncomputable def zl8:=tb y8 (tb kP (tb yp tz))
theorem zhh:zc prog 191 (sopC subR true):=by
 refine zD (fn:=f191) (c:=f191.body.getD .skip) rfl rfl rfl (λh=>by cases h) λk hk O w0 I0 Q hl0 hq=> ?_
 obtain⟨⟨f,c,day,e⟩,a,b⟩:=k;replace hq:=hq (subR a b) ⟨rfl,λ_=>rfl⟩;obtain⟨h0,h1,h2⟩:=hk;simp only at h0 h1 h2 hq;refine zb.n zl8.h [] (.ex (q28 [.str a,.str b]) λn=>.all (λ(r:L8×Int)=>r=subR n.1 n.2) λn=>.R [.str n.1,.i n.2] [.box [.sl f.length 3 (fxG f),.sl c.length 4 (chG c),.i day,.i e]]) ?_;simp only [q28,Tree.holds,ze];refine⟨(a,b),⟨⟨rfl,rfl,trivial⟩,h1,h2⟩,⟨_,rfl⟩,?_⟩;rintro _ rfl;exact RetR.st8 rfl hq rfl rfl
noncomputable def zkv:=tb y8 (tb kP (tb yp tz))
theorem zgh:zc prog 192 (sopC mulR true):=by
 refine zD (fn:=f192) (c:=f192.body.getD .skip) rfl rfl rfl (λh=>by cases h) λk hk O w0 I0 Q hl0 hq=> ?_
 obtain⟨⟨f,c,day,e⟩,a,b⟩:=k;replace hq:=hq (mulR a b) ⟨rfl,λ_=>rfl⟩;obtain⟨h0,h1,h2⟩:=hk;simp only at h0 h1 h2 hq;refine zb.n zkv.h [] (.ex (q28 [.str a,.str b]) λn=>.all (λ(r:L8×Int)=>r=mulR n.1 n.2) λn=>.R [.str n.1,.i n.2] [.box [.sl f.length 3 (fxG f),.sl c.length 4 (chG c),.i day,.i e]]) ?_;simp only [q28,Tree.holds,ze];refine⟨(a,b),⟨⟨rfl,rfl,trivial⟩,h1,h2⟩,⟨_,rfl⟩,?_⟩;rintro _ rfl;exact RetR.st8 rfl hq rfl rfl
noncomputable def GGr:=tb YN tz
abbrev q40(A:List AV)(H:Heap)(x:K2):Prop:=eqL A [.ptr 0 0,.str x.a,.str x.b]/\eqH H [.box [.sl x.s.f.length 3 (fxG x.s.f),.sl x.s.c.length 4 (chG x.s.c),.i x.s.day,.i x.s.e]]/\1=1/\(St8.e x.s=0->x.a.length<2305843009213693952/\x.b.length<2305843009213693952)
theorem V7:zc prog 193 (sopC (wc 7) false):=by
 refine zD (fn:=f193) (c:=f193.body.getD .skip) rfl rfl rfl (λh=>by cases h) λk hk O w0 I0 Q hl0 hq=> ?_
 obtain⟨⟨f,c,day,e⟩,a,b⟩:=k;obtain⟨h0,h1,h2⟩:=hk;simp only at h0 h1 h2 hq;subst h0;refine zb.n GGr.h [] (.ex (q40 [.ptr 0 0,.str a,.str b] [.box [.sl f.length 3 (fxG f),.sl c.length 4 (chG c),.i day,.i 0]]) λn=>.all (λ(r:Int×Int)=>r=cmpE n.s.e n.a n.b) λn_1=>let v2:=n.s.err n_1.2;let v1:List Blk:=[.box [.sl (List.length v2.f) 3 (fxG v2.f),.sl (List.length v2.c) 4 (chG v2.c),.i v2.day,.i v2.e]];.D (n_1.1<0) (.R [.str b,.i v2.e] v1) (.R [.str a,.i v2.e] v1)) ?_;simp only [q40,Tree.holds,ze];refine⟨⟨⟨f,c,day,0⟩,a,b⟩,⟨⟨⟨rfl,rfl⟩,rfl,rfl,trivial⟩,qy f c day 0,trivial,λ_=>⟨h1,h2⟩⟩,⟨_,rfl⟩,?_⟩;have e1:cmpE 0 a b=cmpR a b:=aO (by simp);rw [e1];rintro _ rfl;unfold wc at hq;rw [aP rfl] at hq;refine⟨λh=> ?_,λh=> ?_⟩
 ·have h:(cmpR a b).1<0:=aB h;refine RetR.st8 rfl (hq (b,(cmpR a b).2) ?_) rfl rfl;by_cases g:(cmpR a b).2=0
  ·rw [aO (by rw [g]; simp),aP h]; exact⟨g,λ_=>rfl⟩
  ·rw [aP g]; exact⟨rfl,λh=>absurd h g⟩
 ·have h:¬ (cmpR a b).1<0:=aC h;refine RetR.st8 rfl (hq (a,(cmpR a b).2) ?_) rfl rfl;by_cases g:(cmpR a b).2=0
  ·rw [aO (by rw [g]; simp),aO h]; exact⟨g,λ_=>rfl⟩
  ·rw [aP g]; exact⟨rfl,λh=>absurd h g⟩
theorem Vr:zc prog 194 (sopC (wc 8) false):=by
 refine zD (fn:=f194) (c:=f194.body.getD .skip) rfl rfl rfl (λh=>by cases h) λk hk O w0 I0 Q hl0 hq=> ?_
 obtain⟨⟨f,c,day,e⟩,a,b⟩:=k;obtain⟨h0,h1,h2⟩:=hk;simp only at h0 h1 h2 hq;subst h0;refine zb.n GGr.h [] (.ex (q40 [.ptr 0 0,.str b,.str a] [.box [.sl f.length 3 (fxG f),.sl c.length 4 (chG c),.i day,.i 0]]) λn=>.all (λ(r:Int×Int)=>r=cmpE n.s.e n.a n.b) λn_1=>let v2:=n.s.err n_1.2;let v1:List Blk:=[.box [.sl (List.length v2.f) 3 (fxG v2.f),.sl (List.length v2.c) 4 (chG v2.c),.i v2.day,.i v2.e]];.D (n_1.1<0) (.R [.str b,.i v2.e] v1) (.R [.str a,.i v2.e] v1)) ?_;simp only [q40,Tree.holds,ze];refine⟨⟨⟨f,c,day,0⟩,b,a⟩,⟨⟨⟨rfl,rfl⟩,rfl,rfl,trivial⟩,qy f c day 0,trivial,λ_=>⟨h2,h1⟩⟩,⟨_,rfl⟩,?_⟩;have e1:cmpE 0 b a=cmpR b a:=aO (by simp);rw [e1];rintro _ rfl;unfold wc at hq;rw [aO (by decide)] at hq;refine⟨λh=> ?_,λh=> ?_⟩
 ·have h:(cmpR b a).1<0:=aB h;refine RetR.st8 rfl (hq (b,(cmpR b a).2) ?_) rfl rfl;by_cases g:(cmpR b a).2=0
  ·rw [aO (by rw [g]; simp),aP h]; exact⟨g,λ_=>rfl⟩
  ·rw [aP g]; exact⟨rfl,λh=>absurd h g⟩
 ·have h:¬ (cmpR b a).1<0:=aC h;refine RetR.st8 rfl (hq (a,(cmpR b a).2) ?_) rfl rfl;by_cases g:(cmpR b a).2=0
  ·rw [aO (by rw [g]; simp),aO h]; exact⟨g,λ_=>rfl⟩
  ·rw [aP g]; exact⟨rfl,λh=>absurd h g⟩
theorem zaf{X R Y S:Type}{P:Program}{g h:Nat}{fr mo fr' mo':Bool}{inp:X->List AV}{hin:X->Heap}{pre:X->Prop}{post:X->R->Prop}{out:X->R->AV×Heap}{inp':Y->List AV}{hin':Y->Heap}{pre':Y->Prop}{post':Y->S->Prop}{out':Y->S->AV×Heap}(μ:X->Nat)(ν : Y->Nat)
  (step:∀ n,zc P g (ctrT fr mo inp hin (λx=>μ x<n/\pre x) post out)->zc P h (ctrT fr' mo' inp' hin' (λy=> ν y<n/\pre' y) post' out') ->
   zc P g (ctrT fr mo inp hin (λx=>μ x<n+1/\pre x) post out)/\zc P h (ctrT fr' mo' inp' hin' (λy=> ν y<n+1/\pre' y) post' out')) :
  zc P g (ctrT fr mo inp hin pre post out)/\zc P h (ctrT fr' mo' inp' hin' pre' post' out'):=by
 have all:∀ n,zc P g (ctrT fr mo inp hin (λx=>μ x<n/\pre x) post out)/\zc P h (ctrT fr' mo' inp' hin' (λy=> ν y<n/\pre' y) post' out'):=by
  intro n
  induction n with
  | zero=>
   constructor
   ·intro args hc Q hq _;obtain⟨x,⟨_,_,_,h,_⟩,_⟩:=hq;exact absurd h (Nat.not_lt_zero _)
   ·intro args hc Q hq _;obtain⟨x,⟨_,_,_,h,_⟩,_⟩:=hq;exact absurd h (Nat.not_lt_zero _)
  | succ n ih=>exact step n ih.1 ih.2
 constructor
 ·intro args hc Q hq hf;obtain⟨x,⟨h1,h2,h3,h4⟩,h5⟩:=hq;exact(all (μ x+1)).1 args hc Q ⟨x,⟨h1,h2,h3,Nat.lt_succ_self _,h4⟩,h5⟩ hf
 ·intro args hc Q hq hf;obtain⟨x,⟨h1,h2,h3,h4⟩,h5⟩:=hq;exact(all (ν x+1)).2 args hc Q ⟨x,⟨h1,h2,h3,Nat.lt_succ_self _,h4⟩,h5⟩ hf
structure VX where
 s:St8
 x:Ex
def evA(k:VX):Ev:=k.x.ev k.s.f k.s.day
def valC(p:VX->Prop):Ctr:=ctrT false false (λk:VX=>[.ptr 0 0,k.x.exA]) (λk=>[k.s.box]) p (λk r=>(k.s.e≠0->r.2=k.s.e)/\(k.s.e=0->r.2=(evA k).e/\(r.2=0->r.1=(evA k).v))) (λk (r:L8×Int)=>(.str r.1,[(k.s.err r.2).box]))
def hldC(p:VX->Prop):Ctr:=ctrT false false (λk:VX=>[.ptr 0 0,k.x.exA]) (λk=>[k.s.box]) p (λk r=>(k.s.e≠0->r.2=k.s.e)/\(k.s.e=0->r.2=(evA k).g/\(r.2=0->r.1=(evA k).b))) (λk (r:Bool×Int)=>(.bool r.1,[(k.s.err r.2).box]))
def VPre(z:Int)(k:VX):Prop:=k.s.e=0->k.x.zz=z/\k.s.f.all okF=true/\k.s.f.length<2^40
def GVa(n:Nat):Nat->Option Ctr:=λf=>if f=34 then some (valC λk=>k.x.size<n/\VPre 1 k) else if f=65 then some (hldC λk=>k.x.size<n/\VPre 2 k)
 else if f=64 then some fixC else if f=109 then some zdq else if f=66 then some KJ
 else if f=190 then some (sopC addR true) else if f=191 then some (sopC subR true) else if f=192 then some (sopC mulR true) else if f=193 then some (sopC (wc 7) false) else if f=194 then some (sopC (wc 8) false) else none
theorem zeh{n:Nat}(h1:zc prog 34 (valC λk=>k.x.size<n/\VPre 1 k))(h2:zc prog 65 (hldC λk=>k.x.size<n/\VPre 2 k)):∀ f c,GVa n f=some c->zc prog f c:=by
 intro f c hf;unfold GVa at hf
 iterate 10
  split at hf
  ·rename_i hg; subst hg; cases hf; first | exact h1 | exact h2 | exact UI | exact YN | exact VZ | exact zhd | exact zhh | exact zgh | exact V7 | exact Vr
 cases hf
theorem eqX2(x:Ex):eqL [.ptr 0 0,.agg [.int .u8 x.kind,.str x.rat,.str x.name,.i x.date,.sl x.sub.length 5 x.deep]] [.ptr 0 0,x.exA]:=⟨⟨rfl,rfl⟩,⟨⟨rfl,rfl⟩,rfl,rfl,⟨rfl,rfl⟩,⟨rfl,rfl,Ex.qY _⟩,trivial⟩,trivial⟩
theorem zhx(x:Ex):eqL [.ptr 0 0,x.exA] [.ptr 0 0,x.exA]:=⟨⟨rfl,rfl⟩,⟨⟨rfl,rfl⟩,rfl,rfl,⟨rfl,rfl⟩,⟨rfl,rfl,za _ _ _⟩,trivial⟩,trivial⟩
theorem RetR.st9{ctr:Ctr}{Q:AV×Heap->Prop}{rs:List AV}{f:List Fx}{c:List Ch}{day e:Int}{b:Blk}{r:AV}(hf:ctr.fresh=false)(hq:Q (r,[(St8.mk f c day e).box]))(hs:yV r=true)(hr:resV rs=r)(h2:exp2 [.box [.sl f.length 3 (fxG f),.sl c.length 4 (chG c),.i day,.i e],b] [0] r=r:=by rfl):RetR ctr 1 Q rs [.box [.sl f.length 3 (fxG f),.sl c.length 4 (chG c),.i day,.i e],b]:=by
 subst hr;refine RetR.keep [0] rfl rfl (by decide) hf hq ?_ ?_ rfl
 ·rw [h2]; exact JT hs
 ·exact qy f c day e
theorem xp(e e0:Int)(v:L8):∃ r:L8×Int,(e≠0->r.2=e)/\(e=0->r.2=e0/\(r.2=0->r.1=v)):=by
 by_cases h:e=0
 ·exact⟨(v,e0),λg=>absurd h g,λ_=>⟨rfl,λ_=>rfl⟩⟩
 ·exact⟨(v,e),λ_=>rfl,λg=>absurd g h⟩
theorem ur(e e0:Int)(v:Bool):∃ r:Bool×Int,(e≠0->r.2=e)/\(e=0->r.2=e0/\(r.2=0->r.1=v)):=by
 by_cases h:e=0
 ·exact⟨(v,e0),λg=>absurd h g,λ_=>⟨rfl,λ_=>rfl⟩⟩
 ·exact⟨(v,e),λ_=>rfl,λg=>absurd g h⟩
section
variable (n:Nat) (h1:zc prog 34 (valC λk=>k.x.size<n/\VPre 1 k)) (h2:zc prog 65 (hldC λk=>k.x.size<n/\VPre 2 k))
include h1 h2
abbrev q42(A:List AV)(H:Heap)(x:K2):Prop:=eqL A [.ptr 0 0,.str x.a,.str x.b]/\eqH H [.box [.sl x.s.f.length 3 (fxG x.s.f),.sl x.s.c.length 4 (chG x.s.c),.i x.s.day,.i x.s.e]]/\1=1/\St8.e x.s=0/\x.a.length<2305843009213693952/\x.b.length<2305843009213693952
abbrev q41(A:List AV)(H:Heap)(x:KS):Prop:=eqL A [.ptr 0 0,.str x.x,.i x.e]/\eqH H [.box [.sl x.s.f.length 3 (fxG x.s.f),.sl x.s.c.length 4 (chG x.s.c),.i x.s.day,.i x.s.e]]/\1=1/\x.s.f.length<1099511627776/\St8.e x.s=0
theorem XR:zc prog 34 (valC λk=>k.x.size<n+1/\VPre 1 k):=by
 refine zD (fn:=f34) (c:=f34.body.getD .skip) rfl rfl rfl (λh=>by cases h) λk hk O w0 I0 Q hl0 hq=> ?_
 obtain⟨⟨f,c,day,e⟩,⟨k,r,m,d,s⟩⟩:=k;obtain⟨hn,hv⟩:=hk;simp only at hn hv hq;refine zb.n (zeh h1 h2) [] (let v17:=s.getD 2 Ex.nil;let v15:=s.getD 0 Ex.nil;let v14:=s.getD 1 Ex.nil;let v5:=[AV.ptr 0 0,AV.agg [.int .u8 (Ex.kind v14),.str (Ex.rat v14),.str (Ex.name v14),.i (Ex.date v14),.sl (List.length (Ex.sub v14)) 5 (Ex.deep v14)]];let v4:=[AV.ptr 0 0,AV.agg [.int .u8 (Ex.kind v15),.str (Ex.rat v15),.str (Ex.name v15),.i (Ex.date v15),.sl (List.length (Ex.sub v15)) 5 (Ex.deep v15)]];let v3:List Blk:=[.box [.sl f.length 3 (fxG f),.sl c.length 4 (chG c),.i day,.i e]];let v2:List AV:=[.int .u8 k,.str r,.str m,.i d,.sl s.length 5 (Ex.exG s)];let v13:List Blk:=[.box [.sl f.length 3 (fxG f),.sl c.length 4 (chG c),.i day,.i e],.box v2];.N (e=0) (.R [.str #[].toList] v13) (.D (k=1) (.R [.str r] v13) (.D (k=2) (.ex (q41 [.ptr 0 0,.str m,.i d] v3) λn=>.all (λ(r:L8×Int)=>r=fixR n.s.f n.x n.e) λn_1=>let v19:=n.s.err n_1.2;.R [.str n_1.1] [.box [.sl (List.length v19.f) 3 (fxG v19.f),.sl (List.length v19.c) 4 (chG v19.c),.i v19.day,.i v19.e],.box v2]) (.D (k=3) (.ex (q41 [.ptr 0 0,.str m,.i day] v3) λn=>.all (λ(r:L8×Int)=>r=fixR n.s.f n.x n.e) λn_1=>let v20:=n.s.err n_1.2;.R [.str n_1.1] [.box [.sl (List.length v20.f) 3 (fxG v20.f),.sl (List.length v20.c) 4 (chG v20.c),.i v20.day,.i v20.e],.box v2]) (.D (k=9) (.side ((0:Int)<=0/\(0:Int)<s.length) (.ex (λ(x:VX)=>eqL v4 [.ptr 0 0,.agg [.int .u8 x.x.kind,.str x.x.rat,.str x.x.name,.i x.x.date,.sl x.x.sub.length 5 (Ex.exG x.x.sub)]]/\eqH v3 [.box [.sl x.s.f.length 3 (fxG x.s.f),.sl x.s.c.length 4 (chG x.s.c),.i x.s.day,.i x.s.e]]/\1=1/\Ex.size x.x<n/\VPre (2:Int) x) λn_1=>.all (λ(r:Bool×Int)=>(St8.e n_1.s≠0->r.2=St8.e n_1.s)/\(St8.e n_1.s=0->r.2=Ev.g (evA n_1)/\(r.2=0->r.1=Ev.b (evA n_1)))) λn_2=>let v16:=n_1.s.err n_2.2;let v6:=[AV.sl (List.length v16.f) 3 (fxG v16.f),AV.sl (List.length v16.c) 4 (chG v16.c),AV.i v16.day,AV.i v16.e];.ite n_2.1 (.side ((0:Int)<=1/\(1:Int)<s.length) (.ex (λ(x:VX)=>eqL v5 [.ptr 0 0,.agg [.int .u8 x.x.kind,.str x.x.rat,.str x.x.name,.i x.x.date,.sl x.x.sub.length 5 (Ex.exG x.x.sub)]]/\eqH [.box v6] [.box [.sl x.s.f.length 3 (fxG x.s.f),.sl x.s.c.length 4 (chG x.s.c),.i x.s.day,.i x.s.e]]/\1=1/\Ex.size x.x<n/\VPre (1:Int) x) λn=>.all (λ(r:L8×Int)=>(St8.e n.s≠0->r.2=St8.e n.s)/\(St8.e n.s=0->r.2=Ev.e (evA n)/\(r.2=0->r.1=Ev.v (evA n)))) λn_3=>let v21:=n.s.err n_3.2;.R [.str n_3.1] [.box [.sl (List.length v21.f) 3 (fxG v21.f),.sl (List.length v21.c) 4 (chG v21.c),.i v21.day,.i v21.e],.box v2])) (.side ((0:Int)<=2/\(2:Int)<s.length) (.ex (λ(x:VX)=>eqL [.ptr 0 0,.agg [.int .u8 (Ex.kind v17),.str (Ex.rat v17),.str (Ex.name v17),.i (Ex.date v17),.sl (List.length (Ex.sub v17)) 5 (Ex.deep v17)]] [.ptr 0 0,.agg [.int .u8 x.x.kind,.str x.x.rat,.str x.x.name,.i x.x.date,.sl x.x.sub.length 5 (Ex.exG x.x.sub)]]/\eqH [.box v6] [.box [.sl x.s.f.length 3 (fxG x.s.f),.sl x.s.c.length 4 (chG x.s.c),.i x.s.day,.i x.s.e]]/\1=1/\Ex.size x.x<n/\VPre (1:Int) x) λn=>.all (λ(r:L8×Int)=>(St8.e n.s≠0->r.2=St8.e n.s)/\(St8.e n.s=0->r.2=Ev.e (evA n)/\(r.2=0->r.1=Ev.v (evA n)))) λn_3=>let v22:=n.s.err n_3.2;.R [.str n_3.1] [.box [.sl (List.length v22.f) 3 (fxG v22.f),.sl (List.length v22.c) 4 (chG v22.c),.i v22.day,.i v22.e],.box v2])))) (.side ((0:Int)<=0/\(0:Int)<s.length) (.ex (λ(x:VX)=>eqL v4 [.ptr 0 0,.agg [.int .u8 x.x.kind,.str x.x.rat,.str x.x.name,.i x.x.date,.sl x.x.sub.length 5 (Ex.exG x.x.sub)]]/\eqH v3 [.box [.sl x.s.f.length 3 (fxG x.s.f),.sl x.s.c.length 4 (chG x.s.c),.i x.s.day,.i x.s.e]]/\1=1/\Ex.size x.x<n/\VPre (1:Int) x) λn_1=>.all (λ(r:L8×Int)=>(St8.e n_1.s≠0->r.2=St8.e n_1.s)/\(St8.e n_1.s=0->r.2=Ev.e (evA n_1)/\(r.2=0->r.1=Ev.v (evA n_1)))) λn_2=>let v18:=n_1.s.err n_2.2;.side ((0:Int)<=1/\(1:Int)<s.length) (.ex (λ(x:VX)=>eqL v5 [.ptr 0 0,.agg [.int .u8 x.x.kind,.str x.x.rat,.str x.x.name,.i x.x.date,.sl x.x.sub.length 5 (Ex.exG x.x.sub)]]/\eqH [.box [.sl (List.length v18.f) 3 (fxG v18.f),.sl (List.length v18.c) 4 (chG v18.c),.i v18.day,.i v18.e]] [.box [.sl x.s.f.length 3 (fxG x.s.f),.sl x.s.c.length 4 (chG x.s.c),.i x.s.day,.i x.s.e]]/\1=1/\Ex.size x.x<n/\VPre (1:Int) x) λn=>.all (λ(r:L8×Int)=>(St8.e n.s≠0->r.2=St8.e n.s)/\(St8.e n.s=0->r.2=Ev.e (evA n)/\(r.2=0->r.1=Ev.v (evA n)))) λn_3=>let v12:=n.s.err n_3.2;let v1:=q42 [.ptr 0 0,.str n_2.1,.str n_3.1] [.box [.sl (List.length v12.f) 3 (fxG v12.f),.sl (List.length v12.c) 4 (chG v12.c),.i v12.day,.i v12.e]];.N (St8.e v12=(0:Int)) (.R [.str #[].toList] [.box [.sl (List.length v12.f) 3 (fxG v12.f),.sl (List.length v12.c) 4 (chG v12.c),.i v12.day,.i v12.e],.box v2]) (.D ((4:Int)<=k/\k<=8) (.D (k=4) (.ex v1 λn=>.all (λ(r:L8×Int)=>r.2=Prod.snd (addR n.a n.b)/\(r.2=0->r.1=Prod.fst (addR n.a n.b))) λn_4=>let v9:=bif true then K2.s n else St8.err n.s n_4.2;.ex (q39 [.ptr 0 0,.str n_4.1,.i n_4.2] [.box [.sl (List.length v9.f) 3 (fxG v9.f),.sl (List.length v9.c) 4 (chG v9.c),.i v9.day,.i v9.e]]) λn=>.all (λ(r:Int)=>r=if St8.e n.s=0 then KS.e n else St8.e n.s) λn_5=>let v23:=n.s.err n_5;.R [.str n.x] [.box [.sl (List.length v23.f) 3 (fxG v23.f),.sl (List.length v23.c) 4 (chG v23.c),.i v23.day,.i v23.e],.box v2]) (.D (k=5) (.ex v1 λn=>.all (λ(r:L8×Int)=>r.2=Prod.snd (subR n.a n.b)/\(r.2=0->r.1=Prod.fst (subR n.a n.b))) λn_4=>let v10:=bif true then K2.s n else St8.err n.s n_4.2;.ex (q39 [.ptr 0 0,.str n_4.1,.i n_4.2] [.box [.sl (List.length v10.f) 3 (fxG v10.f),.sl (List.length v10.c) 4 (chG v10.c),.i v10.day,.i v10.e]]) λn=>.all (λ(r:Int)=>r=if St8.e n.s=0 then KS.e n else St8.e n.s) λn_5=>let v24:=n.s.err n_5;.R [.str n.x] [.box [.sl (List.length v24.f) 3 (fxG v24.f),.sl (List.length v24.c) 4 (chG v24.c),.i v24.day,.i v24.e],.box v2]) (.D (k=6) (.ex v1 λn=>.all (λ(r:L8×Int)=>r.2=Prod.snd (mulR n.a n.b)/\(r.2=0->r.1=Prod.fst (mulR n.a n.b))) λn_4=>let v11:=bif true then K2.s n else St8.err n.s n_4.2;.ex (q39 [.ptr 0 0,.str n_4.1,.i n_4.2] [.box [.sl (List.length v11.f) 3 (fxG v11.f),.sl (List.length v11.c) 4 (chG v11.c),.i v11.day,.i v11.e]]) λn=>.all (λ(r:Int)=>r=if St8.e n.s=0 then KS.e n else St8.e n.s) λn_5=>let v25:=n.s.err n_5;.R [.str n.x] [.box [.sl (List.length v25.f) 3 (fxG v25.f),.sl (List.length v25.c) 4 (chG v25.c),.i v25.day,.i v25.e],.box v2]) (.D (k=7) (.ex v1 λn=>.all (λ(r:L8×Int)=>r.2=Prod.snd (wc (7:Int) n.a n.b)/\(r.2=0->r.1=Prod.fst (wc (7:Int) n.a n.b))) λn_4=>let v7:=bif false then K2.s n else St8.err n.s n_4.2;.ex (q39 [.ptr 0 0,.str n_4.1,.i n_4.2] [.box [.sl (List.length v7.f) 3 (fxG v7.f),.sl (List.length v7.c) 4 (chG v7.c),.i v7.day,.i v7.e]]) λn=>.all (λ(r:Int)=>r=if St8.e n.s=0 then KS.e n else St8.e n.s) λn_5=>let v26:=n.s.err n_5;.R [.str n.x] [.box [.sl (List.length v26.f) 3 (fxG v26.f),.sl (List.length v26.c) 4 (chG v26.c),.i v26.day,.i v26.e],.box v2]) (.D (k=8) (.ex v1 λn=>.all (λ(r:L8×Int)=>r.2=Prod.snd (wc (8:Int) n.a n.b)/\(r.2=0->r.1=Prod.fst (wc (8:Int) n.a n.b))) λn_4=>let v8:=bif false then K2.s n else St8.err n.s n_4.2;.ex (q39 [.ptr 0 0,.str n_4.1,.i n_4.2] [.box [.sl (List.length v8.f) 3 (fxG v8.f),.sl (List.length v8.c) 4 (chG v8.c),.i v8.day,.i v8.e]]) λn=>.all (λ(r:Int)=>r=if St8.e n.s=0 then KS.e n else St8.e n.s) λn_5=>let v27:=n.s.err n_5;.R [.str n.x] [.box [.sl (List.length v27.f) 3 (fxG v27.f),.sl (List.length v27.c) 4 (chG v27.c),.i v27.day,.i v27.e],.box v2]) .fail))))) .fail))))))))) ?_;simp only [q39,q41,q42,Tree.holds,ze];refine⟨λh=> ?_,λh=> ?_⟩
 ·have h:e≠0:=by simpa using h
  exact RetR.st9 rfl (hq ([],e) ⟨λ_=>rfl,λh0=>absurd h0 h⟩) rfl rfl
 have h:e=0:=by simpa using h
 subst h;obtain⟨hs,hf,hfl⟩:=hv rfl;simp only at hs hf hfl;have hq0:∀ t:L8×Int,t.2=((Ex.mk k r m d s).ev f day).e->(t.2=0->t.1=((Ex.mk k r m d s).ev f day).v)->Q (.str t.1,[(St8.mk f c day t.2).box]):=λt h1 h2=>hq t ⟨λh=>absurd rfl h,λ_=>⟨h1,h2⟩⟩
 clear hq;have hev:(Ex.mk k r m d s).ev f day=evN f day k r m d (Ex.evs f day s):=by rw [Ex.ev]
 have hc:=Ex.uq hs;simp only [Ex.kind,Ex.sub,Ex.rat] at hc;rw [Ex.size] at hn;have z0:=λg=>Ex.qf (s:=s) (i:=0) g
 have z1:=λg=>Ex.qf (s:=s) (i:=1) g
 have z2:=λg=>Ex.qf (s:=s) (i:=2) g
 have hfix:∀ (x:L8) (y:Int) (b:Blk),fixR f x y=(((Ex.mk k r m d s).ev f day).v,((Ex.mk k r m d s).ev f day).e)->∀ z,z=fixR f x y->RetR (valC λk=>k.x.size<n+1/\VPre 1 k) 1 Q [.str z.1] [.box [.sl f.length 3 (fxG f),.sl c.length 4 (chG c),.i day,.i z.2],b]:=by
  rintro x y b h1 z rfl;exact RetR.st9 rfl (hq0 _ (congrArg Prod.snd h1) λ_=>congrArg Prod.fst h1) rfl rfl
 rcases hc with ⟨rfl,hr⟩ | rfl | rfl | ⟨⟨k1,k2⟩,hl,hs0,hs1⟩ | ⟨rfl,hl,hs0,hs1,hs2⟩
 ·refine⟨λ_=> ?_,λh=>(by cases h)⟩;exact RetR.st9 rfl (hq0 (r,0) (by rw [hev]; rfl) λ_=>by rw [hev]; rfl) rfl rfl
 ·refine⟨λh=>(by cases h),λ_=>⟨λ_=> ?_,λh=>(by cases h)⟩⟩;refine⟨⟨⟨f,c,day,0⟩,m,d⟩,⟨⟨⟨rfl,rfl⟩,rfl,⟨rfl,rfl⟩,trivial⟩,qy f c day 0,by trivial,hfl,rfl⟩,⟨_,rfl⟩,?_⟩;exact hfix m d _ (by rw [hev]; rfl)
 ·refine⟨λh=>(by cases h),λ_=>⟨λh=>(by cases h),λ_=>⟨λ_=> ?_,λh=>(by cases h)⟩⟩⟩;refine⟨⟨⟨f,c,day,0⟩,m,day⟩,⟨⟨⟨rfl,rfl⟩,rfl,⟨rfl,rfl⟩,trivial⟩,qy f c day 0,by trivial,hfl,rfl⟩,⟨_,rfl⟩,?_⟩;exact hfix m day _ (by rw [hev]; rfl)
 ·iterate 4 refine⟨λh=>absurd (aB h) (by omega),λ_=> ?_⟩
  have z0:=z0 (by omega);have z1:=z1 (by omega)
  have he:(((Ex.mk k r m d s).ev f day).v,((Ex.mk k r m d s).ev f day).e)=kS [] ((s.getD 0 Ex.nil).ev f day) ((s.getD 1 Ex.nil).ev f day) (opR k):=by
   rw [hev];simp only [evN,valN];rw [aO (by omega),aO (by omega),aO (by omega),aO (by omega),Ex.q8 (by omega),Ex.q8 (by omega)]
  unfold kS at he;refine⟨⟨by decide,by omega⟩,λ_=>⟨⟨⟨f,c,day,0⟩,s.getD 0 Ex.nil⟩,⟨eqX2 _,qy f c day 0,by trivial,by show(s.getD 0 Ex.nil).size<n; omega,λ_=>⟨hs0,hf,hfl⟩⟩,xp _ _ _,?_⟩⟩;intro r0 g0;obtain⟨g0,k0⟩:=g0.2 rfl;simp only [evA] at g0 k0;refine⟨⟨by decide,by omega⟩,λ_=>⟨⟨⟨f,c,day,r0.2⟩,s.getD 1 Ex.nil⟩,⟨eqX2 _,qy f c day r0.2,by trivial,by show(s.getD 1 Ex.nil).size<n; omega,λ_=>⟨hs1,hf,hfl⟩⟩,xp _ _ _,?_⟩⟩;intro r1 g1;simp only [evA] at g1;refine⟨λh=> ?_,λh=> ?_⟩
  ·have h:r1.2≠0:=by
    intro h0;have h':(!decide (r1.2=0))=true:=h;rw [h0] at h'; cases h'
   refine RetR.st9 rfl (hq0 ([],r1.2) ?_ λh0=>absurd h0 h) rfl rfl;have he:=congrArg Prod.snd he;simp only at he ⊢;rw [he];by_cases h3:r0.2=0
   ·obtain⟨q1,_⟩:=g1.2 h3;rw [aO (by rw [<- g0]; simpa using h3),aP (by rw [<- q1]; exact h),q1]
   ·rw [aP (by rw [<- g0]; exact h3),g1.1 h3,g0]
  ·have h:r1.2=0:=by
    have h':(!decide (r1.2=0))=false:=h;simpa using h'
   have h3:r0.2=0:=by
    refine bM λh3=> ?_
    exact h3 (by rw [<- g1.1 h3]; exact h)
   obtain⟨q1,k1'⟩:=g1.2 h3;have k0:=k0 h3;have k1':=k1' h;rw [aO (by rw [<- g0]; simpa using h3),aO (by rw [<- q1]; simpa using h),<- k0,<- k1'] at he;have l0:=qa (by rw [k0]; exact Ex.xM hf day _ hs0 (by rw [<- g0]; exact h3):errR r0.1=0);have l1:=qa (by rw [k1']; exact Ex.xM hf day _ hs1 (by rw [<- q1]; exact h):errR r1.1=0);refine⟨λ_=> ?_,λhno=>absurd (aC hno) (by simp only [Classical.not_not]; exact⟨k1,k2⟩)⟩;refine⟨λhk=> ?_,λhk=> ?_⟩
   ·have hk:k=4:=aB hk;subst hk;have ho:opR 4 r0.1 r1.1=addR r0.1 r1.1:=rfl;rw [ho] at he;refine⟨⟨⟨f,c,day,0⟩,r0.1,r1.1⟩,⟨⟨⟨rfl,rfl⟩,rfl,rfl,trivial⟩,⟨⟨⟨rfl,rfl,za _ _ _⟩,⟨rfl,rfl,za _ _ _⟩,⟨rfl,rfl⟩,⟨rfl,h⟩,trivial⟩,trivial⟩,by trivial,rfl,by show r0.1.length<_; omega,by show r1.1.length<_; omega⟩,⟨addR r0.1 r1.1,rfl,λ_=>rfl⟩,?_⟩;intro t ht;obtain⟨t1,t2⟩:=ht;simp only at t1 t2;refine⟨⟨⟨f,c,day,0⟩,t.1,t.2⟩,⟨⟨⟨rfl,rfl⟩,rfl,⟨rfl,rfl⟩,trivial⟩,qy f c day _,by trivial,trivial⟩,⟨_,rfl⟩,?_⟩;intro z hz
    have hz:z=t.2:=by
     rw [hz];show(if 0=(0:Int) then t.2 else 0)=t.2;by_cases g:t.2=0<;>simp [g]
    subst hz;exact RetR.st9 rfl (hq0 t (by rw [t1]; exact(congrArg Prod.snd he).symm) λg=>by rw [t2 g]; exact(congrArg Prod.fst he).symm) rfl rfl
   have hk:¬ k=4:=aC hk;refine⟨λhk=> ?_,λhk=> ?_⟩
   ·have hk:k=5:=aB hk;subst hk;have ho:opR 5 r0.1 r1.1=subR r0.1 r1.1:=rfl;rw [ho] at he;refine⟨⟨⟨f,c,day,0⟩,r0.1,r1.1⟩,⟨⟨⟨rfl,rfl⟩,rfl,rfl,trivial⟩,⟨⟨⟨rfl,rfl,za _ _ _⟩,⟨rfl,rfl,za _ _ _⟩,⟨rfl,rfl⟩,⟨rfl,h⟩,trivial⟩,trivial⟩,by trivial,rfl,by show r0.1.length<_; omega,by show r1.1.length<_; omega⟩,⟨subR r0.1 r1.1,rfl,λ_=>rfl⟩,?_⟩;intro t ht;obtain⟨t1,t2⟩:=ht;simp only at t1 t2;refine⟨⟨⟨f,c,day,0⟩,t.1,t.2⟩,⟨⟨⟨rfl,rfl⟩,rfl,⟨rfl,rfl⟩,trivial⟩,qy f c day _,by trivial,trivial⟩,⟨_,rfl⟩,?_⟩;intro z hz
    have hz:z=t.2:=by
     rw [hz];show(if 0=(0:Int) then t.2 else 0)=t.2;by_cases g:t.2=0<;>simp [g]
    subst hz;exact RetR.st9 rfl (hq0 t (by rw [t1]; exact(congrArg Prod.snd he).symm) λg=>by rw [t2 g]; exact(congrArg Prod.fst he).symm) rfl rfl
   have hk:¬ k=5:=aC hk;refine⟨λhk=> ?_,λhk=> ?_⟩
   ·have hk:k=6:=aB hk;subst hk;have ho:opR 6 r0.1 r1.1=mulR r0.1 r1.1:=rfl;rw [ho] at he;refine⟨⟨⟨f,c,day,0⟩,r0.1,r1.1⟩,⟨⟨⟨rfl,rfl⟩,rfl,rfl,trivial⟩,⟨⟨⟨rfl,rfl,za _ _ _⟩,⟨rfl,rfl,za _ _ _⟩,⟨rfl,rfl⟩,⟨rfl,h⟩,trivial⟩,trivial⟩,by trivial,rfl,by show r0.1.length<_; omega,by show r1.1.length<_; omega⟩,⟨mulR r0.1 r1.1,rfl,λ_=>rfl⟩,?_⟩;intro t ht;obtain⟨t1,t2⟩:=ht;simp only at t1 t2;refine⟨⟨⟨f,c,day,0⟩,t.1,t.2⟩,⟨⟨⟨rfl,rfl⟩,rfl,⟨rfl,rfl⟩,trivial⟩,qy f c day _,by trivial,trivial⟩,⟨_,rfl⟩,?_⟩;intro z hz
    have hz:z=t.2:=by
     rw [hz];show(if 0=(0:Int) then t.2 else 0)=t.2;by_cases g:t.2=0<;>simp [g]
    subst hz;exact RetR.st9 rfl (hq0 t (by rw [t1]; exact(congrArg Prod.snd he).symm) λg=>by rw [t2 g]; exact(congrArg Prod.fst he).symm) rfl rfl
   have hk:¬ k=6:=aC hk;refine⟨λhk=> ?_,λhk=> ?_⟩
   ·have hk:k=7:=aB hk;subst hk;have ho:opR 7 r0.1 r1.1=(wc 7) r0.1 r1.1:=rfl;rw [ho] at he;refine⟨⟨⟨f,c,day,0⟩,r0.1,r1.1⟩,⟨⟨⟨rfl,rfl⟩,rfl,rfl,trivial⟩,⟨⟨⟨rfl,rfl,za _ _ _⟩,⟨rfl,rfl,za _ _ _⟩,⟨rfl,rfl⟩,⟨rfl,h⟩,trivial⟩,trivial⟩,by trivial,rfl,by show r0.1.length<_; omega,by show r1.1.length<_; omega⟩,⟨(wc 7) r0.1 r1.1,rfl,λ_=>rfl⟩,?_⟩;intro t ht;obtain⟨t1,t2⟩:=ht;simp only at t1 t2;refine⟨⟨⟨f,c,day,t.2⟩,t.1,t.2⟩,⟨⟨⟨rfl,rfl⟩,rfl,⟨rfl,rfl⟩,trivial⟩,qy f c day _,by trivial,trivial⟩,⟨_,rfl⟩,?_⟩;intro z hz
    have hz:z=t.2:=by
     rw [hz];show(if t.2=(0:Int) then t.2 else t.2)=t.2;by_cases g:t.2=0<;>simp [g]
    subst hz;exact RetR.st9 rfl (hq0 t (by rw [t1]; exact(congrArg Prod.snd he).symm) λg=>by rw [t2 g]; exact(congrArg Prod.fst he).symm) rfl rfl
   have hk:¬ k=7:=aC hk;refine⟨λhk=> ?_,λhk=> ?_⟩
   ·have hk:k=8:=aB hk;subst hk;have ho:opR 8 r0.1 r1.1=(wc 8) r0.1 r1.1:=rfl;rw [ho] at he;refine⟨⟨⟨f,c,day,0⟩,r0.1,r1.1⟩,⟨⟨⟨rfl,rfl⟩,rfl,rfl,trivial⟩,⟨⟨⟨rfl,rfl,za _ _ _⟩,⟨rfl,rfl,za _ _ _⟩,⟨rfl,rfl⟩,⟨rfl,h⟩,trivial⟩,trivial⟩,by trivial,rfl,by show r0.1.length<_; omega,by show r1.1.length<_; omega⟩,⟨(wc 8) r0.1 r1.1,rfl,λ_=>rfl⟩,?_⟩;intro t ht;obtain⟨t1,t2⟩:=ht;simp only at t1 t2;refine⟨⟨⟨f,c,day,t.2⟩,t.1,t.2⟩,⟨⟨⟨rfl,rfl⟩,rfl,⟨rfl,rfl⟩,trivial⟩,qy f c day _,by trivial,trivial⟩,⟨_,rfl⟩,?_⟩;intro z hz
    have hz:z=t.2:=by
     rw [hz];show(if t.2=(0:Int) then t.2 else t.2)=t.2;by_cases g:t.2=0<;>simp [g]
    subst hz;exact RetR.st9 rfl (hq0 t (by rw [t1]; exact(congrArg Prod.snd he).symm) λg=>by rw [t2 g]; exact(congrArg Prod.fst he).symm) rfl rfl
   have hk:¬ k=8:=aC hk;omega
 ·iterate 3 refine⟨λh=>(by cases h),λ_=> ?_⟩
  refine⟨λ_=> ?_,λh=>(by cases h)⟩;have z0:=z0 (by omega);have z1:=z1 (by omega);have z2:=z2 (by omega)
  have he:(((Ex.mk 9 r m d s).ev f day).v,((Ex.mk 9 r m d s).ev f day).e)=if((s.getD 0 Ex.nil).ev f day).g≠0 then([],((s.getD 0 Ex.nil).ev f day).g) else if((s.getD 0 Ex.nil).ev f day).b then(((s.getD 1 Ex.nil).ev f day).v,((s.getD 1 Ex.nil).ev f day).e) else(((s.getD 2 Ex.nil).ev f day).v,((s.getD 2 Ex.nil).ev f day).e):=by
   rw [hev];simp only [evN,valN];rw [aO (by decide),aO (by decide),aO (by decide),aP trivial,Ex.q8 (by omega),Ex.q8 (by omega),Ex.q8 (by omega)]
  refine⟨⟨by decide,by omega⟩,λ_=>⟨⟨⟨f,c,day,0⟩,s.getD 0 Ex.nil⟩,⟨eqX2 _,qy f c day 0,by trivial,by show(s.getD 0 Ex.nil).size<n; omega,λ_=>⟨hs0,hf,hfl⟩⟩,ur _ _ _,?_⟩⟩;intro r0 g0;obtain⟨g0,k0⟩:=g0.2 rfl;simp only [evA] at g0 k0
  have fin:∀ (y:Ex),(r0.2=0->(((Ex.mk 9 r m d s).ev f day).v,((Ex.mk 9 r m d s).ev f day).e)=((y.ev f day).v,(y.ev f day).e))->∀ (b:Blk) (t:L8×Int),((r0.2≠0->t.2=r0.2)/\(r0.2=0->t.2=(y.ev f day).e/\(t.2=0->t.1=(y.ev f day).v))) ->
    RetR (valC λk=>k.x.size<n+1/\VPre 1 k) 1 Q [.str t.1] [.box [.sl f.length 3 (fxG f),.sl c.length 4 (chG c),.i day,.i t.2],b]:=by
   intro y hy b t ht;refine RetR.st9 rfl (hq0 t ?_ λh0=> ?_) rfl rfl
   ·by_cases h3:r0.2=0
    ·rw [(ht.2 h3).1]; exact(congrArg Prod.snd (hy h3)).symm
    ·rw [ht.1 h3,g0];rw [aP (by rw [<- g0]; exact h3)] at he;exact(congrArg Prod.snd he).symm
   ·have h3:r0.2=0:=by
     refine bM λh3=> ?_
     exact h3 (by rw [<- ht.1 h3]; exact h0)
    rw [(ht.2 h3).2 h0]; exact(congrArg Prod.fst (hy h3)).symm
  refine⟨λhb=> ?_,λhb=> ?_⟩
  ·refine⟨⟨by decide,by omega⟩,λ_=>⟨⟨⟨f,c,day,r0.2⟩,s.getD 1 Ex.nil⟩,⟨eqX2 _,qy f c day r0.2,by trivial,by show(s.getD 1 Ex.nil).size<n; omega,λ_=>⟨hs1,hf,hfl⟩⟩,xp _ _ _,?_⟩⟩;intro t ht;exact fin _ (λh3=>by rw [he,aO (by rw [<- g0]; simpa using h3),aP (by rw [<- k0 h3]; exact hb)]) _ t ht
  ·refine⟨⟨by decide,by omega⟩,λ_=>⟨⟨⟨f,c,day,r0.2⟩,s.getD 2 Ex.nil⟩,⟨eqX2 _,qy f c day r0.2,by trivial,by show(s.getD 2 Ex.nil).size<n; omega,λ_=>⟨hs2,hf,hfl⟩⟩,xp _ _ _,?_⟩⟩;intro t ht;exact fin _ (λh3=>by rw [he,aO (by rw [<- g0]; simpa using h3),aO (by rw [<- k0 h3,hb]; decide)]) _ t ht
theorem KP:zc prog 65 (hldC λk=>k.x.size<n+1/\VPre 2 k):=by
 refine zD (fn:=f65) (c:=f65.body.getD .skip) rfl rfl rfl (λh=>by cases h) λk hk O w0 I0 Q hl0 hq=> ?_
 obtain⟨⟨f,c,day,e⟩,⟨k,r,m,d,s⟩⟩:=k;obtain⟨hn,hv⟩:=hk;simp only at hn hv hq;refine zb.n (zeh h1 h2) [] (let v11:=s.getD 0 Ex.nil;let v10:=s.getD 1 Ex.nil;let v4:List Blk:=[.box [.sl f.length 3 (fxG f),.sl c.length 4 (chG c),.i day,.i e]];let v3:List AV:=[.int .u8 k,.str r,.str m,.i d,.sl s.length 5 (Ex.exG s)];let v2:=[AV.ptr 0 0,AV.agg [.int .u8 (Ex.kind v10),.str (Ex.rat v10),.str (Ex.name v10),.i (Ex.date v10),.sl (List.length (Ex.sub v10)) 5 (Ex.deep v10)]];let v1:=[AV.ptr 0 0,AV.agg [.int .u8 (Ex.kind v11),.str (Ex.rat v11),.str (Ex.name v11),.i (Ex.date v11),.sl (List.length (Ex.sub v11)) 5 (Ex.deep v11)]];.N (e=0) (.R [.bool false] [.box [.sl f.length 3 (fxG f),.sl c.length 4 (chG c),.i day,.i e],.box v3]) (.D (k=13) (.side ((0:Int)<=0/\(0:Int)<s.length) (.ex (λ(x:VX)=>eqL v1 [.ptr 0 0,.agg [.int .u8 x.x.kind,.str x.x.rat,.str x.x.name,.i x.x.date,.sl x.x.sub.length 5 (Ex.exG x.x.sub)]]/\eqH v4 [.box [.sl x.s.f.length 3 (fxG x.s.f),.sl x.s.c.length 4 (chG x.s.c),.i x.s.day,.i x.s.e]]/\1=1/\Ex.size x.x<n/\VPre (2:Int) x) λn_1=>.all (λ(r:Bool×Int)=>(St8.e n_1.s≠0->r.2=St8.e n_1.s)/\(St8.e n_1.s=0->r.2=Ev.g (evA n_1)/\(r.2=0->r.1=Ev.b (evA n_1)))) λn_2=>let v6:=n_1.s.err n_2.2;.side (n_2.1=true->(0:Int)<=1/\(1:Int)<s.length) (.ite (n_2.1 == true) (.ex (λ(x:VX)=>eqL v2 [.ptr 0 0,.agg [.int .u8 x.x.kind,.str x.x.rat,.str x.x.name,.i x.x.date,.sl x.x.sub.length 5 (Ex.exG x.x.sub)]]/\eqH [.box [.sl (List.length v6.f) 3 (fxG v6.f),.sl (List.length v6.c) 4 (chG v6.c),.i v6.day,.i v6.e]] [.box [.sl x.s.f.length 3 (fxG x.s.f),.sl x.s.c.length 4 (chG x.s.c),.i x.s.day,.i x.s.e]]/\1=1/\Ex.size x.x<n/\VPre (2:Int) x) λn=>.all (λ(r:Bool×Int)=>(St8.e n.s≠0->r.2=St8.e n.s)/\(St8.e n.s=0->r.2=Ev.g (evA n)/\(r.2=0->r.1=Ev.b (evA n)))) λn_3=>let v13:=n.s.err n_3.2;.R [.bool (bif n_2.1 then n_3.1 else false)] [.box [.sl (List.length v13.f) 3 (fxG v13.f),.sl (List.length v13.c) 4 (chG v13.c),.i v13.day,.i v13.e],.box v3]) (.R [.bool (bif n_2.1 then false else false)] [.box [.sl (List.length v6.f) 3 (fxG v6.f),.sl (List.length v6.c) 4 (chG v6.c),.i v6.day,.i v6.e],.box v3])))) (.D (k=14) (.side ((0:Int)<=0/\(0:Int)<s.length) (.ex (λ(x:VX)=>eqL v1 [.ptr 0 0,.agg [.int .u8 x.x.kind,.str x.x.rat,.str x.x.name,.i x.x.date,.sl x.x.sub.length 5 (Ex.exG x.x.sub)]]/\eqH v4 [.box [.sl x.s.f.length 3 (fxG x.s.f),.sl x.s.c.length 4 (chG x.s.c),.i x.s.day,.i x.s.e]]/\1=1/\Ex.size x.x<n/\VPre (2:Int) x) λn_1=>.all (λ(r:Bool×Int)=>(St8.e n_1.s≠0->r.2=St8.e n_1.s)/\(St8.e n_1.s=0->r.2=Ev.g (evA n_1)/\(r.2=0->r.1=Ev.b (evA n_1)))) λn_2=>let v7:=n_1.s.err n_2.2;.side (n_2.1=false->(0:Int)<=1/\(1:Int)<s.length) (.ite (n_2.1 == false) (.ex (λ(x:VX)=>eqL v2 [.ptr 0 0,.agg [.int .u8 x.x.kind,.str x.x.rat,.str x.x.name,.i x.x.date,.sl x.x.sub.length 5 (Ex.exG x.x.sub)]]/\eqH [.box [.sl (List.length v7.f) 3 (fxG v7.f),.sl (List.length v7.c) 4 (chG v7.c),.i v7.day,.i v7.e]] [.box [.sl x.s.f.length 3 (fxG x.s.f),.sl x.s.c.length 4 (chG x.s.c),.i x.s.day,.i x.s.e]]/\1=1/\Ex.size x.x<n/\VPre (2:Int) x) λn=>.all (λ(r:Bool×Int)=>(St8.e n.s≠0->r.2=St8.e n.s)/\(St8.e n.s=0->r.2=Ev.g (evA n)/\(r.2=0->r.1=Ev.b (evA n)))) λn_3=>let v14:=n.s.err n_3.2;.R [.bool (bif n_2.1 then true else n_3.1)] [.box [.sl (List.length v14.f) 3 (fxG v14.f),.sl (List.length v14.c) 4 (chG v14.c),.i v14.day,.i v14.e],.box v3]) (.R [.bool (bif n_2.1 then true else false)] [.box [.sl (List.length v7.f) 3 (fxG v7.f),.sl (List.length v7.c) 4 (chG v7.c),.i v7.day,.i v7.e],.box v3])))) (.D (k=15) (.side ((0:Int)<=0/\(0:Int)<s.length) (.ex (λ(x:VX)=>eqL v1 [.ptr 0 0,.agg [.int .u8 x.x.kind,.str x.x.rat,.str x.x.name,.i x.x.date,.sl x.x.sub.length 5 (Ex.exG x.x.sub)]]/\eqH v4 [.box [.sl x.s.f.length 3 (fxG x.s.f),.sl x.s.c.length 4 (chG x.s.c),.i x.s.day,.i x.s.e]]/\1=1/\Ex.size x.x<n/\VPre (2:Int) x) λn=>.all (λ(r:Bool×Int)=>(St8.e n.s≠0->r.2=St8.e n.s)/\(St8.e n.s=0->r.2=Ev.g (evA n)/\(r.2=0->r.1=Ev.b (evA n)))) λn_1=>let v8:=n.s.err n_1.2;.R [.bool (bif !Prod.fst n_1 then decide (St8.e v8=(0:Int)) else false)] [.box [.sl (List.length v8.f) 3 (fxG v8.f),.sl (List.length v8.c) 4 (chG v8.c),.i v8.day,.i v8.e],.box v3])) (.side ((0:Int)<=0/\(0:Int)<s.length) (.ex (λ(x:VX)=>eqL v1 [.ptr 0 0,.agg [.int .u8 x.x.kind,.str x.x.rat,.str x.x.name,.i x.x.date,.sl x.x.sub.length 5 (Ex.exG x.x.sub)]]/\eqH v4 [.box [.sl x.s.f.length 3 (fxG x.s.f),.sl x.s.c.length 4 (chG x.s.c),.i x.s.day,.i x.s.e]]/\1=1/\Ex.size x.x<n/\VPre (1:Int) x) λn_1=>.all (λ(r:L8×Int)=>(St8.e n_1.s≠0->r.2=St8.e n_1.s)/\(St8.e n_1.s=0->r.2=Ev.e (evA n_1)/\(r.2=0->r.1=Ev.v (evA n_1)))) λn_2=>let v12:=n_1.s.err n_2.2;.side ((0:Int)<=1/\(1:Int)<s.length) (.ex (λ(x:VX)=>eqL v2 [.ptr 0 0,.agg [.int .u8 x.x.kind,.str x.x.rat,.str x.x.name,.i x.x.date,.sl x.x.sub.length 5 (Ex.exG x.x.sub)]]/\eqH [.box [.sl (List.length v12.f) 3 (fxG v12.f),.sl (List.length v12.c) 4 (chG v12.c),.i v12.day,.i v12.e]] [.box [.sl x.s.f.length 3 (fxG x.s.f),.sl x.s.c.length 4 (chG x.s.c),.i x.s.day,.i x.s.e]]/\1=1/\Ex.size x.x<n/\VPre (1:Int) x) λn=>.all (λ(r:L8×Int)=>(St8.e n.s≠0->r.2=St8.e n.s)/\(St8.e n.s=0->r.2=Ev.e (evA n)/\(r.2=0->r.1=Ev.v (evA n)))) λn_3=>let v15:=n.s.err n_3.2;.ex (q40 [.ptr 0 0,.str n_2.1,.str n_3.1] [.box [.sl (List.length v15.f) 3 (fxG v15.f),.sl (List.length v15.c) 4 (chG v15.c),.i v15.day,.i v15.e]]) λn=>.all (λ(r:Int×Int)=>r=cmpE n.s.e n.a n.b) λn_4=>let v9:=n.s.err n_4.2;let v5:List Blk:=[.box [.sl (List.length v9.f) 3 (fxG v9.f),.sl (List.length v9.c) 4 (chG v9.c),.i v9.day,.i v9.e],.box v3];.D (k=11) (.R [.bool (decide (n_4.1<0))] v5) (.R [.bool (bif decide (n_4.1=0) then decide (St8.e v9=(0:Int)) else false)] v5)))))))) ?_;simp only [q40,Tree.holds,ze];refine⟨λh=> ?_,λh=> ?_⟩
 ·have h:e≠0:=by simpa using h
  exact RetR.st9 rfl (hq (false,e) ⟨λ_=>rfl,λh0=>absurd h0 h⟩) rfl rfl
 have h:e=0:=by simpa using h
 subst h;obtain⟨hs,hf,hfl⟩:=hv rfl;simp only at hs hf hfl;have hq0:∀ t:Bool×Int,t.2=((Ex.mk k r m d s).ev f day).g->(t.2=0->t.1=((Ex.mk k r m d s).ev f day).b)->Q (.bool t.1,[(St8.mk f c day t.2).box]):=λt h1 h2=>hq t ⟨λh=>absurd rfl h,λ_=>⟨h1,h2⟩⟩
 clear hq;have hev:(Ex.mk k r m d s).ev f day=evN f day k r m d (Ex.evs f day s):=by rw [Ex.ev]
 have hc:=Ex.Vx hs;simp only [Ex.kind,Ex.sub,Ex.rat] at hc;rw [Ex.size] at hn;have z0:=λg=>Ex.qf (s:=s) (i:=0) g
 have z1:=λg=>Ex.qf (s:=s) (i:=1) g
 have fin:∀ (t:Bool×Int) (b:Blk),t.2=((Ex.mk k r m d s).ev f day).g->(t.2=0->t.1=((Ex.mk k r m d s).ev f day).b)->RetR (hldC λk=>k.x.size<n+1/\VPre 2 k) 1 Q [.bool t.1] [.box [.sl f.length 3 (fxG f),.sl c.length 4 (chG c),.i day,.i t.2],b]:=λt b h1 h2=>RetR.st9 rfl (hq0 t h1 h2) rfl rfl
 rcases hc with ⟨hk,hl,hs0,hs1⟩ | ⟨hk,hl,hs0,hs1⟩ | ⟨rfl,hl,hs0⟩
 ·iterate 3 refine⟨λh=>absurd (aB h) (by omega),λ_=> ?_⟩
  have z0:=z0 (by omega);have z1:=z1 (by omega)
  have he:(((Ex.mk k r m d s).ev f day).b,((Ex.mk k r m d s).ev f day).g)=kS false ((s.getD 0 Ex.nil).ev f day) ((s.getD 1 Ex.nil).ev f day) (V6 k):=by
   rw [hev];simp only [evN,hldN];rw [aO (by omega),Ex.q8 (by omega),Ex.q8 (by omega)]
  unfold kS at he;refine⟨⟨by decide,by omega⟩,λ_=>⟨⟨⟨f,c,day,0⟩,s.getD 0 Ex.nil⟩,⟨eqX2 _,qy f c day 0,by trivial,by show(s.getD 0 Ex.nil).size<n; omega,λ_=>⟨hs0,hf,hfl⟩⟩,xp _ _ _,?_⟩⟩;intro r0 g0;obtain⟨g0,k0⟩:=g0.2 rfl;simp only [evA] at g0 k0;refine⟨⟨by decide,by omega⟩,λ_=>⟨⟨⟨f,c,day,r0.2⟩,s.getD 1 Ex.nil⟩,⟨eqX2 _,qy f c day r0.2,by trivial,by show(s.getD 1 Ex.nil).size<n; omega,λ_=>⟨hs1,hf,hfl⟩⟩,xp _ _ _,?_⟩⟩;intro r1 g1;simp only [evA] at g1
  have hboth:r1.2=0->r0.2=0/\r0.1=((s.getD 0 Ex.nil).ev f day).v/\r1.1=((s.getD 1 Ex.nil).ev f day).v/\errR r0.1=0/\errR r1.1=0/\((Ex.mk k r m d s).ev f day).b=(V6 k r0.1 r1.1).1/\((Ex.mk k r m d s).ev f day).g=(V6 k r0.1 r1.1).2:=by
   intro h
   have h3:r0.2=0:=by
    refine bM λh3=> ?_
    exact h3 (by rw [<- g1.1 h3]; exact h)
   obtain⟨q1,k1'⟩:=g1.2 h3;have k0:=k0 h3;have k1':=k1' h;rw [aO (by rw [<- g0]; simpa using h3),aO (by rw [<- q1]; simpa using h),<- k0,<- k1'] at he;have l0:errR r0.1=0:=by rw [k0]; exact Ex.xM hf day _ hs0 (by rw [<- g0]; exact h3)
   have l1:errR r1.1=0:=by rw [k1']; exact Ex.xM hf day _ hs1 (by rw [<- q1]; exact h)
   exact⟨h3,k0,k1',l0,l1,congrArg Prod.fst he,congrArg Prod.snd he⟩
  refine⟨⟨⟨f,c,day,r1.2⟩,r0.1,r1.1⟩,⟨⟨⟨rfl,rfl⟩,rfl,rfl,trivial⟩,qy f c day r1.2,by trivial,λh=> ?_⟩,⟨_,rfl⟩,?_⟩
  ·obtain⟨_,_,_,l0,l1,_⟩:=hboth h;have l0:=qa l0;have l1:=qa l1;exact⟨by show r0.1.length<_; omega,by show r1.1.length<_; omega⟩
  intro z hz;simp only at hz;by_cases h:r1.2=0
  ·obtain⟨h3,k0,k1',l0,l1,e1,e2⟩:=hboth h;have hz:z=cmpR r0.1 r1.1:=by rw [hz]; unfold cmpE; rw [aO (by rw [h]; simp)]
   unfold V6 at e1 e2;refine⟨λhk=> ?_,λhk=> ?_⟩
   ·have hk:k=11:=aB hk;refine fin (decide (z.1<0),z.2) _ ?_ λh0=> ?_
    ·rw [e2,hz];by_cases g:(cmpR r0.1 r1.1).2=0
     ·rw [aO (by rw [g]; simp)]; exact g
     ·rw [aP g]
    ·have h0:z.2=0:=h0;rw [hz] at h0 ⊢;rw [e1,aO (by rw [h0]; simp),aP hk]
   ·have hk:¬ k=11:=aC hk;refine fin ((bif decide (z.1=0) then decide (z.2=0) else false),z.2) _ ?_ λh0=> ?_
    ·rw [e2,hz];by_cases g:(cmpR r0.1 r1.1).2=0
     ·rw [aO (by rw [g]; simp)]; exact g
     ·rw [aP g]
    ·have h0:z.2=0:=h0;rw [hz] at h0 ⊢;rw [e1,aO (by rw [h0]; simp),aO hk];simp only [h0];cases decide ((cmpR r0.1 r1.1).1=0)<;>rfl
  ·have hz:z=(0,r1.2):=by rw [hz]; unfold cmpE; rw [aP h]
   have hg:((Ex.mk k r m d s).ev f day).g=r1.2:=by
    have he:=congrArg Prod.snd he;simp only at he;rw [he];by_cases h3:r0.2=0
    ·obtain⟨q1,_⟩:=g1.2 h3;rw [aO (by rw [<- g0]; simpa using h3),aP (by rw [<- q1]; exact h),q1]
    ·rw [aP (by rw [<- g0]; exact h3),g1.1 h3,g0]
   subst hz;refine⟨λhk=> ?_,λhk=> ?_⟩
   ·exact fin (false,r1.2) _ hg.symm λh0=>absurd h0 h
   ·refine fin ((bif decide ((0:Int)=0) then decide (r1.2=0) else false),r1.2) _ hg.symm λh0=>absurd h0 h
 ·have z0:=z0 (by omega);have z1:=z1 (by omega)
  have he:(((Ex.mk k r m d s).ev f day).b,((Ex.mk k r m d s).ev f day).g)=if((s.getD 0 Ex.nil).ev f day).g≠0 then(false,((s.getD 0 Ex.nil).ev f day).g) else if((s.getD 0 Ex.nil).ev f day).b=decide (k=14) then(((s.getD 0 Ex.nil).ev f day).b,0) else(((s.getD 1 Ex.nil).ev f day).b,((s.getD 1 Ex.nil).ev f day).g):=by
   rw [hev];simp only [evN,hldN];rw [aP (by omega),aO (show ¬ k=15 by omega),Ex.q8 (by omega),Ex.q8 (by omega)]
  have go:∀ (r0:Bool×Int),r0.2=((s.getD 0 Ex.nil).ev f day).g->(r0.2=0->r0.1=((s.getD 0 Ex.nil).ev f day).b) ->
    (r0.1=decide (k=14)->r0.2=((Ex.mk k r m d s).ev f day).g/\(r0.2=0->r0.1=((Ex.mk k r m d s).ev f day).b)) /\
    (r0.1≠decide (k=14)->∀ r1:Bool×Int,((r0.2≠0->r1.2=r0.2)/\(r0.2=0->r1.2=((s.getD 1 Ex.nil).ev f day).g/\(r1.2=0->r1.1=((s.getD 1 Ex.nil).ev f day).b)))->r1.2=((Ex.mk k r m d s).ev f day).g/\(r1.2=0->r1.1=((Ex.mk k r m d s).ev f day).b)):=by
   intro r0 g0 k0;have e1:=congrArg Prod.fst he;have e2:=congrArg Prod.snd he;simp only at e1 e2;rw [e1,e2];by_cases h3:r0.2=0
   ·rw [aO (by rw [<- g0]; simpa using h3),<- k0 h3];refine⟨λh=> ?_,λh r1 g1=> ?_⟩
    ·rw [aP h]; exact⟨h3,λ_=>rfl⟩
    ·rw [aO h]; exact g1.2 h3
   ·rw [aP (by rw [<- g0]; exact h3)];refine⟨λh=>⟨g0,λh0=>absurd h0 h3⟩,λh r1 g1=> ?_⟩;rw [g1.1 h3];exact⟨g0,λh0=>absurd h0 h3⟩
  have first:∃ r:Bool×Int,((0:Int)≠0->r.2=0)/\((0:Int)=0->r.2=(evA ⟨⟨f,c,day,0⟩,s.getD 0 Ex.nil⟩).g/\(r.2=0->r.1=(evA ⟨⟨f,c,day,0⟩,s.getD 0 Ex.nil⟩).b)):=ur _ _ _;rcases hk with rfl | rfl
  ·refine⟨λ_=> ?_,λh=>(by cases h)⟩;refine⟨⟨by decide,by omega⟩,λ_=>⟨⟨⟨f,c,day,0⟩,s.getD 0 Ex.nil⟩,⟨eqX2 _,qy f c day 0,by trivial,by show(s.getD 0 Ex.nil).size<n; omega,λ_=>⟨hs0,hf,hfl⟩⟩,first,?_⟩⟩;intro r0 g0;obtain⟨g0,k0⟩:=g0.2 rfl;obtain⟨go1,go2⟩:=go r0 g0 k0;refine⟨λ_=>⟨by decide,by omega⟩,λ_=>⟨λhb=> ?_,λhb=> ?_⟩⟩
   ·have hb:r0.1=true:=by simpa using hb
    refine⟨⟨⟨f,c,day,r0.2⟩,s.getD 1 Ex.nil⟩,⟨eqX2 _,qy f c day r0.2,by trivial,by show(s.getD 1 Ex.nil).size<n; omega,λ_=>⟨hs1,hf,hfl⟩⟩,ur _ _ _,?_⟩;intro r1 g1;rw [hb];obtain⟨u1,u2⟩:=go2 (by rw [hb]; decide) r1 g1;exact fin r1 _ u1 u2
   ·have hb:r0.1=false:=by simpa using hb
    rw [hb];obtain⟨u1,u2⟩:=go1 (by rw [hb]; rfl);exact fin (false,r0.2) _ u1 (λh0=>by rw [<- u2 h0,hb])
  ·refine⟨λh=>(by cases h),λ_=>⟨λ_=> ?_,λh=>(by cases h)⟩⟩;refine⟨⟨by decide,by omega⟩,λ_=>⟨⟨⟨f,c,day,0⟩,s.getD 0 Ex.nil⟩,⟨eqX2 _,qy f c day 0,by trivial,by show(s.getD 0 Ex.nil).size<n; omega,λ_=>⟨hs0,hf,hfl⟩⟩,first,?_⟩⟩;intro r0 g0;obtain⟨g0,k0⟩:=g0.2 rfl;obtain⟨go1,go2⟩:=go r0 g0 k0;refine⟨λ_=>⟨by decide,by omega⟩,λ_=>⟨λhb=> ?_,λhb=> ?_⟩⟩
   ·have hb:r0.1=false:=by simpa using hb
    refine⟨⟨⟨f,c,day,r0.2⟩,s.getD 1 Ex.nil⟩,⟨eqX2 _,qy f c day r0.2,by trivial,by show(s.getD 1 Ex.nil).size<n; omega,λ_=>⟨hs1,hf,hfl⟩⟩,ur _ _ _,?_⟩;intro r1 g1;rw [hb];obtain⟨u1,u2⟩:=go2 (by rw [hb]; decide) r1 g1;exact fin r1 _ u1 u2
   ·have hb:r0.1=true:=by simpa using hb
    rw [hb];obtain⟨u1,u2⟩:=go1 (by rw [hb]; rfl);exact fin (true,r0.2) _ u1 (λh0=>by rw [<- u2 h0,hb])
 ·iterate 2 refine⟨λh=>(by cases h),λ_=> ?_⟩
  refine⟨λ_=> ?_,λh=>(by cases h)⟩;have z0:=z0 (by omega)
  have he:(((Ex.mk 15 r m d s).ev f day).b,((Ex.mk 15 r m d s).ev f day).g)=if((s.getD 0 Ex.nil).ev f day).g≠0 then(false,((s.getD 0 Ex.nil).ev f day).g) else(!((s.getD 0 Ex.nil).ev f day).b,0):=by
   rw [hev];simp only [evN,hldN];rw [aP (by decide),aP trivial,Ex.q8 (by omega)]
  refine⟨⟨by decide,by omega⟩,λ_=>⟨⟨⟨f,c,day,0⟩,s.getD 0 Ex.nil⟩,⟨eqX2 _,qy f c day 0,by trivial,by show(s.getD 0 Ex.nil).size<n; omega,λ_=>⟨hs0,hf,hfl⟩⟩,ur _ _ _,?_⟩⟩;intro r0 g0;obtain⟨g0,k0⟩:=g0.2 rfl;simp only [evA] at g0 k0;have e1:=congrArg Prod.fst he;have e2:=congrArg Prod.snd he;simp only at e1 e2;refine fin ((bif !r0.1 then decide (r0.2=0) else false),r0.2) _ ?_ λh3=> ?_
  ·rw [e2];by_cases h3:r0.2=0
   ·rw [aO (by rw [<- g0]; simpa using h3)]; exact h3
   ·rw [aP (by rw [<- g0]; exact h3)]; exact g0
  ·have h3:r0.2=0:=h3;rw [e1,aO (by rw [<- g0]; simpa using h3),<- k0 h3];simp only [h3];cases r0.1<;>rfl
end
theorem Ug:zc prog 34 (valC (VPre 1))/\zc prog 65 (hldC (VPre 2)):=
 zaf (λk:VX=>k.x.size) (λk:VX=>k.x.size) λn h1 h2=>⟨XR n h1 h2,KP n h1 h2⟩
theorem zbl:zc prog 34 (valC (VPre 1)):=Ug.1
theorem zc0:zc prog 65 (hldC (VPre 2)):=Ug.2
end Go.Proofs.Tryz
end
section
set_option maxRecDepth 100000
open Go Go.Sx Go.Proofs Go.Nov
namespace Go.Proofs.Tryz
attribute [local simp] eqKV eqA eqA0 eqH eqB eqL eqL0
structure BX where
 x:Ex
 want:Int
 day:Int
 f:List Fx
 c:List Ch
def BX.ask(b:BX):Int:=askE b.x b.want b.day b.f b.c
def xS:Ctr:=ctrT false false (λb:BX=>[b.x.exA,.int .u8 b.want,.i b.day,envA b.f b.c]) (λ_=>[]) (λb=>b.x.size<2^40/\b.x.qH<2^40/\envP (b.f,b.c)) (λb r=>r=b.ask) (λb (r:Int)=>(.ptr 0 0,[(St8.mk b.f b.c b.day r).box]))
noncomputable def GBe:=tb zaq (tb Y2 (tb U5 (tb ux tz)))
abbrev q43(A:List AV)(x:List Fx×List Ch):Prop:=eqL A [.agg [.sl x.1.length 3 (fxG x.1),.sl x.2.length 4 (chG x.2)]]/\envP x
theorem zem:zc prog 33 xS:=by
 refine zD (fn:=f33) (c:=f33.body.getD .skip) rfl rfl rfl (λh=>by cases h) λb hb O w0 I0 Q hl0 hq=> ?_
 obtain rfl:I0=[]:=aU.1 hl0;obtain⟨x,want,day,f,c⟩:=b;obtain⟨h1,h2,h3⟩:=hb;replace hq:=hq _ rfl;simp only [BX.ask] at h1 h2 h3 hq;refine zb.n GBe.h [] (let v6:=[AV.i day];let v5:=q43 [.agg [.sl f.length 3 (fxG f),.sl c.length 4 (chG c)]];let v4:=[AV.agg [.int .u8 x.kind,.str x.rat,.str x.name,.i x.date,.sl x.sub.length 5 (Ex.exG x.sub)]];let v3:List AV:=[.sl f.length 3 (fxG f),.sl c.length 4 (chG c)];let v2:List AV:=[.int .u8 x.kind,.str x.rat,.str x.name,.i x.date,.sl x.sub.length 5 (Ex.exG x.sub)];let v1:we:=.ret [.ptr 2 0] [.box v2,.box v3,.box [.sl f.length 3 (fxG f),.sl c.length 4 (chG c),.i day,.i 2]];.ex (λ(x_1:Ex)=>eqL v4 [.agg [.int .u8 x_1.kind,.str x_1.rat,.str x_1.name,.i x_1.date,.sl x_1.sub.length 5 (Ex.exG x_1.sub)]]/\Ex.size x_1<1099511627776/\Ex.qH x_1<1099511627776) λn=>.all (λ(r:Int)=>r=Ex.errX n) λn=>.ex (λ(x9:Ex)=>decide (n=0)=true->q38 v4 x9) λn_1=>.all (λ(x:Int)=>decide (n=0)=true->x=Ex.zz n_1) λn_2=>.ite (bif decide (n=0) then !decide (n_2=want) else false) (.ite false (.ex v5 λn=>.all (λ(r:Int)=>r=errE n.1 n.2) λn=>.ex (λ(x:Int)=>decide (n=0)=true->q32 v6 x) λn_3=>.all (λ(x:Bool)=>decide (n=0)=true->x=dayB n_3) λn_4=>.ite (bif decide (n=0) then !n_4 else false) (.leaf v1) (.R [.ptr 2 0] [.box v2,.box v3,.box [.sl f.length 3 (fxG f),.sl c.length 4 (chG c),.i day,.i n]])) (.ex (λ(x:Int)=>decide ((32:Int)=0)=true->q32 v6 x) λn=>.all (λ(x:Bool)=>decide ((32:Int)=0)=true->x=dayB n) λn=>.ite (bif decide ((32:Int)=0) then !n else false) (.leaf v1) (.R [.ptr 2 0] [.box v2,.box v3,.box [.sl f.length 3 (fxG f),.sl c.length 4 (chG c),.i day,.i 32]]))) (.D (n=0) (.ex v5 λn=>.all (λ(r:Int)=>r=errE n.1 n.2) λn=>.ex (λ(x:Int)=>decide (n=0)=true->q32 v6 x) λn_3=>.all (λ(x:Bool)=>decide (n=0)=true->x=dayB n_3) λn_4=>.ite (bif decide (n=0) then !n_4 else false) (.leaf v1) (.R [.ptr 2 0] [.box v2,.box v3,.box [.sl f.length 3 (fxG f),.sl c.length 4 (chG c),.i day,.i n]])) (.ex (λ(x:Int)=>decide (n=0)=true->q32 v6 x) λn_3=>.all (λ(x:Bool)=>decide (n=0)=true->x=dayB n_3) λn_4=>.ite (bif decide (n=0) then !n_4 else false) (.leaf v1) (.R [.ptr 2 0] [.box v2,.box v3,.box [.sl f.length 3 (fxG f),.sl c.length 4 (chG c),.i day,.i n]])))) ?_;simp only [q32,q38,q43,Tree.holds,ze];have eE:eqL [.agg [.sl f.length 3 (fxG f),.sl c.length 4 (chG c)]] [envA f c]:=⟨⟨⟨rfl,rfl,za _ _ _⟩,⟨rfl,rfl,za _ _ _⟩,trivial⟩,trivial⟩;have eX:eqL [x.exA] [x.exA]:=⟨⟨⟨rfl,rfl⟩,rfl,rfl,⟨rfl,rfl⟩,⟨rfl,rfl,za _ _ _⟩,trivial⟩,trivial⟩;generalize hask:askE x want day f c=ask at hq
 have ret:∀ (b0 b1:Blk),RetR xS 0 Q [.ptr 2 0] [b0,b1,.box [.sl f.length 3 (fxG f),.sl c.length 4 (chG c),.i day,.i ask]]:=by
  intro b0 b1;refine RetR.outs [2] rfl rfl hq (λh=>by cases h) ?_ ?_ rfl
  ·exact⟨rfl,rfl⟩
  ·exact qy f c day ask
 have tail:∀ (e0:Int) (b0 b1:Blk),(if e0=0 then(if dayB day=true then 0 else 2) else e0)=ask->∃ n3:Int,((decide (e0=0)=true->eqL [.i day] [.i n3]/\True)/\(∃ b:Bool,decide (e0=0)=true->b=dayB n3)/\∀ b:Bool,(decide (e0=0)=true->b=dayB n3) ->
   ((bif decide (e0=0) then !b else false)=true->RetR xS 0 Q [.ptr 2 0] [b0,b1,.box [.sl f.length 3 (fxG f),.sl c.length 4 (chG c),.i day,.i 2]]) /\
   ((bif decide (e0=0) then !b else false)=false->RetR xS 0 Q [.ptr 2 0] [b0,b1,.box [.sl f.length 3 (fxG f),.sl c.length 4 (chG c),.i day,.i e0]])):=by
  intro e0 b0 b1 h;refine⟨day,λ_=>⟨⟨⟨rfl,rfl⟩,trivial⟩,trivial⟩,⟨_,λ_=>rfl⟩,λb hb=> ?_⟩;by_cases h0:e0=0
  ·have hb:=hb (aX h0);rw [aP h0] at h;rw [aX h0,hb,h0];cases hd:dayB day with
   | true=>
    rw [hd,aP rfl] at h;rw [h];exact⟨λh=>(by cases h),λ_=>ret _ _⟩
   | false=>
    rw [hd,aO (by decide)] at h;rw [h];exact⟨λ_=>ret _ _,λh=>(by cases h)⟩
  ·rw [aO h0] at h;rw [aW h0,h];exact⟨λh=>(by cases h),λ_=>ret _ _⟩
 have chk:∀ (b0 b1:Blk),x.errX=0->x.zz=want->∃ n:List Fx×List Ch,(eqL [.agg [.sl f.length 3 (fxG f),.sl c.length 4 (chG c)]] [.agg [.sl n.1.length 3 (fxG n.1),.sl n.2.length 4 (chG n.2)]]/\envP n)/\(∃ r,r=errE n.1 n.2)/\∀ r:Int,r=errE n.1 n.2 ->
   ∃ n3:Int,((decide (r=0)=true->eqL [.i day] [.i n3]/\True)/\(∃ b:Bool,decide (r=0)=true->b=dayB n3)/\∀ b:Bool,(decide (r=0)=true->b=dayB n3) ->
   ((bif decide (r=0) then !b else false)=true->RetR xS 0 Q [.ptr 2 0] [b0,b1,.box [.sl f.length 3 (fxG f),.sl c.length 4 (chG c),.i day,.i 2]]) /\
   ((bif decide (r=0) then !b else false)=false->RetR xS 0 Q [.ptr 2 0] [b0,b1,.box [.sl f.length 3 (fxG f),.sl c.length 4 (chG c),.i day,.i r]])):=by
  intro b0 b1 g1 g2;refine⟨(f,c),⟨eE,h3⟩,⟨_,rfl⟩,?_⟩;rintro _ rfl;refine tail _ _ _ ?_;rw [<- hask,zd1 g1 g2]
 refine⟨x,⟨eX,h1,h2⟩,⟨_,rfl⟩,?_⟩;rintro _ rfl;refine⟨x,λ_=>⟨eX,by omega,h2⟩,⟨_,λ_=>rfl⟩,?_⟩;intro z hz;by_cases g1:x.errX=0
 ·have hz:=hz (aX g1);subst hz;refine⟨λhc=>⟨λh=>(by cases h),λ_=> ?_⟩,λhc=>⟨λ_=> ?_,λh=>absurd g1 (aC h)⟩⟩
  ·have g2:¬ x.zz=want:=by
    rw [aX g1] at hc;simpa using hc
   refine tail 32 _ _ ?_;rw [<- hask,zl5 g1 g2];rfl
  ·have g2:x.zz=want:=by
    rw [aX g1] at hc;simpa using hc
   exact chk _ _ g1 g2
 ·refine⟨λhc=> ?_,λ_=>⟨λh=>absurd (aB h) g1,λ_=> ?_⟩⟩
  ·rw [aW g1] at hc; cases hc
  ·refine tail _ _ _ ?_;rw [<- hask,zl0 g1,aO g1]
structure VI where
 x:Ex
 day:Int
 f:List Fx
 c:List Ch
def VI.ok(k:VI):Prop:=k.x.size<2^40/\k.x.qH<2^40/\envP (k.f,k.c)
def XI:Ctr:=ctrP true (λk:VI=>[k.x.exA,.i k.day,envA k.f k.c]) VI.ok (λk r=>r=qK k.x k.day k.f k.c) (λ_ (r:L8×Int)=>(.tup [.str r.1,.i r.2],[]))
def zb9:Ctr:=ctrP true (λk:VI=>[k.x.exA,.i k.day,envA k.f k.c]) VI.ok (λk r=>r=ue k.x k.day k.f k.c) (λ_ (r:Bool×Int)=>(.tup [.bool r.1,.i r.2],[]))
noncomputable def GVh:=tb zem (tb zbl (tb zc0 tz))
abbrev q44(A:List AV)(H:Heap)(x:BX):Prop:=eqL A [.agg [.int .u8 x.x.kind,.str x.x.rat,.str x.x.name,.i x.x.date,.sl x.x.sub.length 5 (Ex.exG x.x.sub)],.int .u8 x.want,.i x.day,.agg [.sl x.f.length 3 (fxG x.f),.sl x.c.length 4 (chG x.c)]]/\eqH H []/\0=0/\Ex.size x.x<1099511627776/\Ex.qH x.x<1099511627776/\envP (BX.f x,BX.c x)
theorem V3:zc prog 17 XI:=by
 refine zh' f17 λk hk O w0 Q hq=> ?_
 obtain⟨x,day,f,c⟩:=k;obtain⟨h1,h2,h3⟩:=hk;replace hq:=hq _ rfl;simp only at h1 h2 h3 hq;unfold qK at hq;refine zb.n GVh.h [] (let v2:=[AV.int .u8 x.kind,AV.str x.rat,AV.str x.name,AV.i x.date,AV.sl x.sub.length 5 (Ex.exG x.sub)];.ex (q44 [.agg v2,.int .u8 1,.i day,.agg [.sl f.length 3 (fxG f),.sl c.length 4 (chG c)]] []) λn=>.all (λ(r:Int)=>r=BX.ask n) λn_1=>.ex (λ(x_1:VX)=>eqL [.ptr 0 0,.agg v2] [.ptr 0 0,.agg [.int .u8 x_1.x.kind,.str x_1.x.rat,.str x_1.x.name,.i x_1.x.date,.sl x_1.x.sub.length 5 (Ex.exG x_1.x.sub)]]/\eqH [.box [.sl n.f.length 3 (fxG n.f),.sl n.c.length 4 (chG n.c),.i n.day,.i n_1]] [.box [.sl x_1.s.f.length 3 (fxG x_1.s.f),.sl x_1.s.c.length 4 (chG x_1.s.c),.i x_1.s.day,.i x_1.s.e]]/\1=1/\VPre (1:Int) x_1) λn=>.all (λ(r:L8×Int)=>(St8.e n.s≠0->r.2=St8.e n.s)/\(St8.e n.s=0->r.2=Ev.e (evA n)/\(r.2=0->r.1=Ev.v (evA n)))) λn_2=>let v3:=n.s.err n_2.2;let v1:List Blk:=[.box [.int .u8 x.kind,.str x.rat,.str x.name,.i x.date,.sl x.sub.length 5 (Ex.exG x.sub)],.box [.sl f.length 3 (fxG f),.sl c.length 4 (chG c)],.box [.sl (List.length v3.f) 3 (fxG v3.f),.sl (List.length v3.c) 4 (chG v3.c),.i v3.day,.i v3.e]];.N (St8.e v3=(0:Int)) (.R [.str #[].toList,.i v3.e] v1) (.R [.str n_2.1,.i 0] v1)) ?_;simp only [q44,Tree.holds,ze];have eB:eqL [x.exA,.int .u8 1,.i day,envA f c] [x.exA,.int .u8 1,.i day,envA f c]:=⟨⟨⟨rfl,rfl⟩,rfl,rfl,⟨rfl,rfl⟩,⟨rfl,rfl,za _ _ _⟩,trivial⟩,⟨rfl,rfl⟩,⟨rfl,rfl⟩,⟨⟨rfl,rfl,za _ _ _⟩,⟨rfl,rfl,za _ _ _⟩,trivial⟩,trivial⟩;refine⟨⟨x,1,day,f,c⟩,⟨eB,trivial,trivial,h1,h2,h3⟩,⟨_,rfl⟩,?_⟩;rintro e he;have he:e=askE x 1 day f c:=he;rw [<- he] at hq
 have hv:VPre 1 ⟨⟨f,c,day,e⟩,x⟩:=by
  intro h0;have h0:e=0:=h0;obtain⟨_,g2,g3,_⟩:=Q4 (he.symm.trans h0);obtain⟨g4,g5,_⟩:=QQ.1 g3;refine⟨g2,g5,?_⟩;show f.length<2^40;omega
 refine⟨⟨⟨f,c,day,e⟩,x⟩,⟨zhx x,qy f c day e,trivial,hv⟩,xp _ _ _,?_⟩;intro r hr;simp only [evA] at hr;refine⟨λh=> ?_,λh=> ?_⟩
 ·have h:r.2≠0:=by
   intro h0;have h':(!decide (r.2=0))=true:=h;rw [h0] at h'; cases h'
  have eq:(if e≠0 then([],e) else if(x.ev f day).e≠0 then([],(x.ev f day).e) else((x.ev f day).v,0))=(([]:L8),r.2):=by
   by_cases h0:e=0
   ·obtain⟨q1,_⟩:=hr.2 h0;rw [aO (by rw [h0]; simp),aP (by rw [<- q1]; exact h),q1]
   ·rw [aP h0,hr.1 h0]
  rw [eq] at hq;exact RetR.scal hq rfl (by simp [resV,St8.err])
 ·have h:r.2=0:=by
   have h':(!decide (r.2=0))=false:=h;simpa using h'
  have h0:e=0:=bM λh0=>h0 (by rw [<- hr.1 h0]; exact h)
  obtain⟨q1,k1⟩:=hr.2 h0
  have eq:(if e≠0 then([],e) else if(x.ev f day).e≠0 then([],(x.ev f day).e) else((x.ev f day).v,0))=(r.1,0):=by
   rw [aO (by rw [h0]; simp),aO (by rw [<- q1,h]; simp),k1 h]
  rw [eq] at hq;exact RetR.scal hq rfl (by simp [resV])
theorem zb6:zc prog 52 zb9:=by
 refine zh' f52 λk hk O w0 Q hq=> ?_
 obtain⟨x,day,f,c⟩:=k;obtain⟨h1,h2,h3⟩:=hk;replace hq:=hq _ rfl;simp only at h1 h2 h3 hq;unfold ue at hq;refine zb.n GVh.h [] (let v2:=[AV.int .u8 x.kind,AV.str x.rat,AV.str x.name,AV.i x.date,AV.sl x.sub.length 5 (Ex.exG x.sub)];.ex (q44 [.agg v2,.int .u8 2,.i day,.agg [.sl f.length 3 (fxG f),.sl c.length 4 (chG c)]] []) λn=>.all (λ(r:Int)=>r=BX.ask n) λn_1=>.ex (λ(x_1:VX)=>eqL [.ptr 0 0,.agg v2] [.ptr 0 0,.agg [.int .u8 x_1.x.kind,.str x_1.x.rat,.str x_1.x.name,.i x_1.x.date,.sl x_1.x.sub.length 5 (Ex.exG x_1.x.sub)]]/\eqH [.box [.sl n.f.length 3 (fxG n.f),.sl n.c.length 4 (chG n.c),.i n.day,.i n_1]] [.box [.sl x_1.s.f.length 3 (fxG x_1.s.f),.sl x_1.s.c.length 4 (chG x_1.s.c),.i x_1.s.day,.i x_1.s.e]]/\1=1/\VPre (2:Int) x_1) λn=>.all (λ(r:Bool×Int)=>(St8.e n.s≠0->r.2=St8.e n.s)/\(St8.e n.s=0->r.2=Ev.g (evA n)/\(r.2=0->r.1=Ev.b (evA n)))) λn_2=>let v3:=n.s.err n_2.2;let v1:List Blk:=[.box [.int .u8 x.kind,.str x.rat,.str x.name,.i x.date,.sl x.sub.length 5 (Ex.exG x.sub)],.box [.sl f.length 3 (fxG f),.sl c.length 4 (chG c)],.box [.sl (List.length v3.f) 3 (fxG v3.f),.sl (List.length v3.c) 4 (chG v3.c),.i v3.day,.i v3.e]];.N (St8.e v3=(0:Int)) (.R [.bool false,.i v3.e] v1) (.R [.bool n_2.1,.i 0] v1)) ?_;simp only [q44,Tree.holds,ze];have eB:eqL [x.exA,.int .u8 2,.i day,envA f c] [x.exA,.int .u8 2,.i day,envA f c]:=⟨⟨⟨rfl,rfl⟩,rfl,rfl,⟨rfl,rfl⟩,⟨rfl,rfl,za _ _ _⟩,trivial⟩,⟨rfl,rfl⟩,⟨rfl,rfl⟩,⟨⟨rfl,rfl,za _ _ _⟩,⟨rfl,rfl,za _ _ _⟩,trivial⟩,trivial⟩;refine⟨⟨x,2,day,f,c⟩,⟨eB,trivial,trivial,h1,h2,h3⟩,⟨_,rfl⟩,?_⟩;rintro e he;have he:e=askE x 2 day f c:=he;rw [<- he] at hq
 have hv:VPre 2 ⟨⟨f,c,day,e⟩,x⟩:=by
  intro h0;have h0:e=0:=h0;obtain⟨_,g2,g3,_⟩:=Q4 (he.symm.trans h0);obtain⟨g4,g5,_⟩:=QQ.1 g3;refine⟨g2,g5,?_⟩;show f.length<2^40;omega
 refine⟨⟨⟨f,c,day,e⟩,x⟩,⟨zhx x,qy f c day e,trivial,hv⟩,ur _ _ _,?_⟩;intro r hr;simp only [evA] at hr;refine⟨λh=> ?_,λh=> ?_⟩
 ·have h:r.2≠0:=by
   intro h0;have h':(!decide (r.2=0))=true:=h;rw [h0] at h'; cases h'
  have eq:(if e≠0 then(false,e) else if(x.ev f day).g≠0 then(false,(x.ev f day).g) else((x.ev f day).b,0))=(false,r.2):=by
   by_cases h0:e=0
   ·obtain⟨q1,_⟩:=hr.2 h0;rw [aO (by rw [h0]; simp),aP (by rw [<- q1]; exact h),q1]
   ·rw [aP h0,hr.1 h0]
  rw [eq] at hq;exact RetR.scal hq rfl (by simp [resV,St8.err])
 ·have h:r.2=0:=by
   have h':(!decide (r.2=0))=false:=h;simpa using h'
  have h0:e=0:=bM λh0=>h0 (by rw [<- hr.1 h0]; exact h)
  obtain⟨q1,k1⟩:=hr.2 h0
  have eq:(if e≠0 then(false,e) else if(x.ev f day).g≠0 then(false,(x.ev f day).g) else((x.ev f day).b,0))=(r.1,0):=by
   rw [aO (by rw [h0]; simp),aO (by rw [<- q1,h]; simp),k1 h]
  rw [eq] at hq;exact RetR.scal hq rfl (by simp [resV])
end Go.Proofs.Tryz
end
section
namespace Go.Nov
open Go.Sx
def recS(f:List Fx)(day:Int)(x:Ex):RS:=x.rc f day ⟨[],[]⟩
end Go.Nov
end
section
namespace Go.Nov
open Go.Sx
section
variable {x:Ex} {day:Int} {f:List Fx} {c:List Ch}
end
structure Lg(p q x y:Ex):Prop where
 p0:p.errX=0
 p1:p.zz=2
 q0:q.errX=0
 q1:q.zz=2
 x0:x.errX=0
 x1:x.zz=1
 y0:y.errX=0
 y1:y.zz=1
 s:p.size+q.size+x.size+y.size<500
 dp:p.depth<60
 dq:q.depth<60
 dx:x.depth<60
 dy:y.depth<60
section
variable {p q x y:Ex} {day:Int} {f:List Fx} {c:List Ch} (h:Lg p q x y)
include h
end
end Go.Nov
end
