/- Part 8 of the proof. -/
import Derived.Test.YtihplbclhhhgdaaGreatDoorSxd
import Derived.Test.YtihplbclhhhgdaaGreatDoorSxg
set_option linter.unusedVariables false
set_option linter.unusedSimpArgs false
set_option linter.unusedSectionVars false
section
set_option maxRecDepth 100000
open Go Go.Sx Go.Proofs Go.Nov
namespace Go.Proofs.Tryz
attribute [local simp] eqKV eqA eqA0 eqH eqB eqL eqL0
theorem Q6(s:L8):Lib.indexByte s 47=if zQ s<s.length then(zQ s:Int) else -1:=by
 induction s with
 | nil=>rfl
 | cons c s ih=>
  simp only [Lib.indexByte,zQ,List.findIdx_cons];cases h:(c == 47) with
  | true=>simp
  | false=>
   simp only [Bool.false_eq_true,if_false,ih,cond_false,aL];show _=if zQ s+1<s.length+1 then((zQ s+1:Nat):Int) else -1
   by_cases h2:zQ s<s.length
   ·rw [aP h2,aO (by simp),aP (by omega)]; omega
   ·rw [aO h2,aP (by rfl),aO (by omega)]
def zat:Ctr:=ctrP true (λs:L8=>[.str s,.str [47]]) (λs=>True) (λs r=>r=if zQ s<s.length then(zQ s:Int) else -1) (λ_ (r:Int)=>(.i r,[]))
theorem zi1:zf prog 190 zat:=by
 intro args hc Q hq _;simp only [zat,ctrP] at hq;split at hq
 ·obtain⟨s,⟨h1,_⟩,_,h3⟩:=hq;have hq:=h3 _ rfl;simp only [Tree.holds] at hq;refine jK.le h1 ?_;intro O w σ vals hg hh hr;simp only [RepL,Rep] at hr;obtain⟨v1,r1,rfl,rfl,v2,r2,rfl,rfl,rfl⟩:=hr;refine .inl ⟨enters_of Tryz.func190 (by kernel_rfl) rfl ..,?_⟩;refine(Tryz.UC ⟨s.toArray⟩ 47 w).mono ?_;rintro e w' ⟨rfl,rfl⟩;have hx:=Q6 s;have h0:σ=[]:=aU.1 hh.len;subst h0;refine⟨_,rfl,_,[],[],hq,?_,⟨rfl,λi j e f a b h=>by simp at h,λi e a h=>by simp at h,λi e b h=>by simp at h⟩,hg,aJ _,Hold.refl _ _ _,Ext.refl _ _⟩;simp only [Rep];rw [<- hx]
 ·exact hq.elim
def cutC:Ctr:=ctrP true (λs:L8=>[.str s,.str [47]]) (λs=>s.length<2^62) (λs r=>r=cutR s) (λ_ r=>(.tup [.str r.1,.str r.2.1,.bool r.2.2],[]))
noncomputable def GC1:=tb zi1 tz
theorem zof:zf prog 158 cutC:=by
 refine zh' f158 λs hs O w0 Q hq=> ?_
 replace hq:=hq _ rfl;refine zc.n GC1.h [] (.ex (λ(x:L8)=>eqL [.str s,.str [(47:UInt8)]] [.str x,.str [(47:UInt8)]]/\True) λn=>.all (λ(r:Int)=>r=if zQ n<n.length then(↑(zQ n):Int) else(-1:Int)) λn=>.D ((0:Int)<=n) (.side ((0:Int)<=n/\n<=(s.length:Int)) (.S (n+(1:Int)) (.side ((0:Int)<=n+(1:Int)/\n+(1:Int)<=s.length) (.R [.str (List.drop 0 (List.take (Int.toNat n) s)),.str (List.drop (Int.toNat (n+(1:Int))) (List.take s.length s)),.bool true] [])))) (.R [.str s,.str #[].toList,.bool false] [])) ?_;simp only [Tree.holds,zd,inR,lo,hi];refine⟨s,⟨by simp,trivial⟩,⟨_,rfl⟩,?_⟩;rintro _ rfl;by_cases h:zQ s<s.length
 ·simp only [aP h];rw [zb8 h] at hq;refine⟨λ_=>⟨by omega,λ_=>⟨by omega,λ_=>⟨by omega,λ_=> ?_⟩⟩⟩,λhn=> ?_⟩
  ·refine RetR.scal hq rfl ?_;simp [resV]
  ·have:=aC hn; omega
 ·simp only [aO h];rw [zgl h] at hq;refine⟨λhn=> ?_,λ_=>RetR.scal hq rfl (by simp [resV])⟩;have:=aB hn; omega
noncomputable def GC2:=tb zof tz
abbrev q20(A:List AV)(x:L8):Prop:=eqL A [.str x,.str [(47:UInt8)]]/\x.length<4611686018427387904
theorem zr8:zf prog 126 cutC:=by
 refine zh' f126 λs hs O w0 Q hq=> ?_
 replace hq:=hq _ rfl;refine zc.n GC2.h [] (.ex (q20 [.str s,.str [(47:UInt8)]]) λn=>.all (λ(r:L8×L8×Bool)=>r=cutR n) λn=>.R [.str n.1,.str n.2.1,.bool n.2.2] []) ?_;simp only [q20,Tree.holds,zd,inR,lo,hi];refine⟨s,⟨by simp,hs⟩,⟨_,rfl⟩,?_⟩;rintro _ rfl;exact RetR.scal hq rfl (by simp [resV])
def UE:Ctr:=ctrP true (λs:L8=>[.str s]) (λs=>s.length<2^62) (λs r=>r=cutR s) (λ_ r=>(.tup [.str r.1,.str r.2.1,.bool r.2.2],[]))
noncomputable def GC3:=tb zr8 (tb W4 tz)
theorem XL:zf prog 82 UE:=by
 refine zh' f82 λs hs O w0 Q hq=> ?_
 replace hq:=hq _ rfl;refine zc.n GC3.h [] (.ex (q20 [.str s,.str #[(47:UInt8)].toList]) λn=>.all (λ(r:L8×L8×Bool)=>r=cutR n) λn=>.R [.str n.1,.str n.2.1,.bool n.2.2] []) ?_;simp only [q20,Tree.holds,zd,inR,lo,hi];refine⟨s,⟨by simp,hs⟩,⟨_,rfl⟩,?_⟩;rintro _ rfl;exact RetR.scal hq rfl (by simp [resV])
def zqt:Ctr:=ctrP true (λs:L8=>[.str s]) (λs=>s.length<2^62) (λs r=>r=if errI s=12 then 12 else 0) (λ_ (r:Int)=>(.i r,[]))
theorem zo7:zf prog 83 zqt:=by
 refine zh' f83 λs hs O w0 Q hq=> ?_
 replace hq:=hq _ rfl;refine zc.n GC3.h [] (.ex (q15 [.str s]) λn=>.all (λ(r:Int)=>r=errI n) λn=>.N (n=14) (.R [.i n] []) (.R [.i 0] [])) ?_;simp only [q15,Tree.holds,zd,inR,lo,hi];refine⟨s,⟨by simp,hs⟩,⟨_,rfl⟩,?_⟩;rintro _ rfl;rcases xw s with h | h | h<;>simp only [h] at hq ⊢
 all_goals
  refine⟨λh=> ?_,λh=> ?_⟩
  all_goals first
   | (exfalso; revert h; decide)
   | exact RetR.scal hq rfl (by simp [resV])
def QF:Ctr:=ctrP true (λs:L8=>[.str s]) (λs=>s.length<2^62) (λs r=>r=errR s) (λ_ (r:Int)=>(.i r,[]))
noncomputable def GC4:=tb XL (tb zo7 (tb W4 (tb zj6 tz)))
theorem ZW:zf prog 51 QF:=by
 refine zh' f51 λs hs O w0 Q hq=> ?_
 replace hq:=hq _ rfl;refine zc.n GC4.h [] (.ex (q15 [.str s]) λn=>.all (λ(r:L8×L8×Bool)=>r=cutR n) λn=>.ex (q15 [.str n.1]) λn_1=>.all (λ(r:Int)=>r=if errI n_1=12 then(12:Int) else(0:Int)) λn_2=>.ex (λ(x:L8)=>(!decide (n_2=0))=false/\n.2.2=true->q15 [.str n.2.1] x) λn_3=>.all (λ(x:Int)=>(!decide (n_2=0))=false/\n.2.2=true->x=if errI n_3=12 then(12:Int) else(0:Int)) λn_4=>.side (((!decide (n_2=0))=false/\n.2.2=true)/\(!decide (n_4=0))=false->(0:Int)<=0/\(0:Int)<n.2.1.length) (.ite (bif !decide (n_2=0) then true else bif n.2.2 then bif bif bif !decide (n_4=0) then true else decide ((↑(UInt8.toNat (List.getD n.2.1 0 (0:UInt8))):Int)=45) then true else decide (n.2.1=#[(48:UInt8)].toList) then true else decide (n.2.1=#[(49:UInt8)].toList) else false) (.R [.i 12] []) (.ex (q15 [.str n.1]) λn_5=>.all (λ(r:Int)=>r=errI n_5) λn_6=>.ex (λ(x:L8)=>(!decide (n_6=0))=false/\n.2.2=true->q15 [.str n.2.1] x) λn_7=>.all (λ(x:Int)=>(!decide (n_6=0))=false/\n.2.2=true->x=errI n_7) λn_8=>.ite (bif !decide (n_6=0) then true else bif n.2.2 then !decide (n_8=0) else false) (.R [.i 14] []) (.ite n.2.2 (.ex (q17 [.str n.1,.str n.2.1]) λn=>.all (λ(r:L8×Int)=>r=gcdR n.1 n.2) λn=>.N (n.1=#[(49:UInt8)].toList) (.R [.i 12] []) (.R [.i 0] [])) (.R [.i 0] []))))) ?_;simp only [q15,q17,Tree.holds,zd,inR,lo,hi];refine⟨s,⟨by simp,hs⟩,⟨_,rfl⟩,?_⟩;rintro _ rfl;have hlen:=KZ s
 have hno:(cutR s).2.2=false->(cutR s).1=s:=by
  intro h;unfold cutR at h ⊢;split at h
  ·cases h
  ·rename_i hn; rw [aO hn]
 simp only [errR] at hq;generalize cutR s=c at hq hlen hno ⊢;obtain⟨n,d,f⟩:=c;simp only at hq hlen hno ⊢;refine⟨n,⟨by simp,by omega⟩,⟨_,rfl⟩,?_⟩;rintro _ rfl;refine⟨d,λ_=>⟨by simp,by omega⟩,⟨_,λ_=>rfl⟩,?_⟩;intro fd hfd;cases f with
 | false=>
  have hn:=hno rfl;subst hn;rw [aO (by decide)] at hq;refine⟨λh=>by simp at h,λ_=>⟨λh=> ?_,λh=> ?_⟩⟩
  ·rcases xw n with e | e | e<;>rw [e] at hq h
   ·simp at h
   ·exact RetR.scal hq rfl (by simp [resV])
   ·simp at h
  ·have hn12:errI n≠12:=by
    intro e; rw [e] at h; simp at h
   refine⟨n,⟨by simp,by omega⟩,⟨_,rfl⟩,?_⟩;rintro _ rfl;refine⟨d,λ_=>⟨by simp,by omega⟩,⟨_,λ_=>rfl⟩,?_⟩;intro fd2 _;refine⟨λh=> ?_,λh=>⟨λh=>(by cases h),λ_=> ?_⟩⟩
   ·rcases xw n with e | e | e
    ·rw [e] at h; simp at h
    ·exact absurd e hn12
    ·rw [e] at hq; exact RetR.scal hq rfl (by simp [resV])
   ·rcases xw n with e | e | e
    ·rw [e] at hq; exact RetR.scal hq rfl (by simp [resV])
    ·exact absurd e hn12
    ·rw [e] at h; simp at h
 | true=>
  rw [aP rfl] at hq;by_cases hn:errI n=12
  ·rw [aP (.inl hn)] at hq;simp only [hn];refine⟨λh=>by simp at h,λ_=>⟨λ_=>RetR.scal hq rfl (by simp [resV]),λh=>by simp at h⟩⟩
  ·rw [aO hn] at hfd ⊢;have hfd:=hfd ⟨by simp,rfl⟩;subst hfd;by_cases hd:errI d=12
   ·rw [aP (.inr (.inl hd))] at hq;rw [aP hd];refine⟨λh=>by simp at h,λ_=>⟨λ_=>RetR.scal hq rfl (by simp [resV]),λh=>by simp at h⟩⟩
   ·rw [aO hd];have hd0:d≠[]:=by rintro rfl; exact hd YY
    have hneg:=Vq hd0
    have hneg2:decide (((d.getD 0 0).toNat:Int)=45)=negI d:=by
     rw [hneg];by_cases h:d.getD 0 0=45
     ·rw [h]; rfl
     ·rw [aW h];refine aW λh2=>h (YA ?_)
      rw [h2]; rfl
    rw [hneg2];refine⟨λ_=>by have:=List.length_pos_iff.2 hd0; omega,λ_=>⟨λh=> ?_,λh=> ?_⟩⟩
    ·have:negI d=true\/d=[48]\/d=[49]:=by
      revert h
      cases negI d<;>simp
     rw [aP (.inr (.inr this))] at hq;exact RetR.scal hq rfl (by simp [resV])
    ·have:¬ (errI n=12\/errI d=12\/negI d=true\/d=[48]\/d=[49]):=by
      revert h
      cases negI d<;>simp [hn,hd]
     rw [aO this] at hq;refine⟨n,⟨by simp,by omega⟩,⟨_,rfl⟩,?_⟩;rintro _ rfl;refine⟨d,λ_=>⟨by simp,by omega⟩,⟨_,λ_=>rfl⟩,?_⟩;intro ed hed;by_cases hn0:errI n=0
     ·have hed:=hed ⟨by simp [hn0],rfl⟩;subst hed;by_cases hd0:errI d=0
      ·rw [aO (by simp [hn0,hd0])] at hq;refine⟨λh=>by simp [hn0,hd0] at h,λ_=>⟨λ_=> ?_,λh=>by cases h⟩⟩;refine⟨(n,d),⟨by simp,by simp only; omega,by simp only; omega⟩,⟨_,rfl⟩,?_⟩;rintro _ rfl;refine⟨λh=> ?_,λh=> ?_⟩
       ·rw [aP (by simpa using h)] at hq;exact RetR.scal hq rfl (by simp [resV])
       ·rw [aO (by simpa using h)] at hq;exact RetR.scal hq rfl (by simp [resV])
      ·rw [aP (.inr hd0)] at hq;refine⟨λ_=>RetR.scal hq rfl (by simp [resV]),λh=>by simp [hn0,hd0] at h⟩
     ·rw [aP (.inl hn0)] at hq;refine⟨λ_=>RetR.scal hq rfl (by simp [resV]),λh=>by simp [hn0] at h⟩
noncomputable def K50:=Go.Sx.aA f50
def QS:Ctr:=ctrP true (λd:Int=>[.i d]) (λ_=>True) (λd r=>r=dayB d) (λ_ (r:Bool)=>(.bool r,[]))
theorem ZG:zf prog 69 QS:=by
 refine zh' f69 λd hs O w0 Q hq=> ?_
 replace hq:=hq _ rfl;refine zc.n zH [] (.R [.bool (bif decide ((0:Int)<=d) then decide (d<=99999) else false)] []) ?_;simp only [Tree.holds,zd];refine RetR.scal hq rfl ?_;simp only [resV,dayB];cases decide (0<=d)<;>rfl
theorem zmo(c:UInt8):(bif bif decide (97<=(c.toNat:Int)) then decide ((c.toNat:Int)<=122) else false then true else bif decide (65<=(c.toNat:Int)) then decide ((c.toNat:Int)<=90) else false)=isL c:=by
 have e1:decide (97<=(c.toNat:Int))=decide (97<=c.toNat):=decide_eq_decide.2 (by omega);have e2:decide ((c.toNat:Int)<=122)=decide (c.toNat<=122):=decide_eq_decide.2 (by omega);have e3:decide (65<=(c.toNat:Int))=decide (65<=c.toNat):=decide_eq_decide.2 (by omega);have e4:decide ((c.toNat:Int)<=90)=decide (c.toNat<=90):=decide_eq_decide.2 (by omega);rw [e1,e2,e3,e4];simp only [isL];cases decide (97<=c.toNat)<;>cases decide (c.toNat<=122)<;>cases decide (65<=c.toNat)<;>rfl
def zbq:Ctr:=ctrP true (λc:UInt8=>[.int .u8 (c.toNat:Int)]) (λ_=>True) (λc r=>r=isL c) (λ_ (r:Bool)=>(.bool r,[]))
theorem zdl:zf prog 81 zbq:=by
 refine zh' f81 λc hs O w0 Q hq=> ?_
 replace hq:=hq _ rfl;refine zc.n zH [] (.R [.bool (bif bif decide ((97:Int)<=(↑(UInt8.toNat c):Int)) then decide ((↑(UInt8.toNat c):Int)<=122) else false then true else bif decide ((65:Int)<=(↑(UInt8.toNat c):Int)) then decide ((↑(UInt8.toNat c):Int)<=90) else false)] []) ?_;simp only [Tree.holds,zd];refine RetR.scal hq rfl ?_;simp only [resV];rw [zmo]
theorem Vt(c d:UInt8):decide ((c.toNat:Int)=(d.toNat:Int))=(c == d):=by
 by_cases h:c=d
 ·subst h; simp
 ·rw [aW λh2=>h (YA h2)];simp [h]
theorem zo5(c:UInt8):(bif decide ((c.toNat:Int)<48) then true else decide (57<(c.toNat:Int))) = !isD c:=by
 rw [Bool.cond_eq_ite]; exact Ws c
theorem zkz(c:UInt8):(bif bif bif !isL c then bif decide ((c.toNat:Int)<48) then true else decide (57<(c.toNat:Int)) else false then !decide ((c.toNat:Int)=95) else false then !decide ((c.toNat:Int)=45) else false) = !isN c:=by
 rw [zo5];have e1:decide ((c.toNat:Int)=95)=(c == 95):=Vt c 95;have e2:decide ((c.toNat:Int)=45)=(c == 45):=Vt c 45;rw [e1,e2]; simp only [isN];cases isL c<;>cases isD c<;>cases (c == 95)<;>cases (c == 45)<;>rfl
def Yn:Ctr:=ctrP true (λs:L8=>[.str s]) (λs=>s.length<2^62) (λs r=>r=qI s) (λ_ (r:Bool)=>(.bool r,[]))
noncomputable def GN1:=tb zdl tz
def SNa(s:L8)(i:Nat):KV:=[(0,.str s),(20,.i (s.length:Int)),(21,.i (i:Int)),Z 31,Z 32,Z 33,Z 34,Z 35,Z 36,Z 39,Z 40,Z 43,Z 44]
theorem ze4{O:Nat->Prop}{w0:World}{Q:AV×Heap->Prop}{Hs:Nat->KV->Heap->Prop}(s:L8)(hs:s.length<2^62)(hq:Q (.bool (s.all isN),[])) :
  zc prog f50 O 0 w0 [] Hs (RetR Yn 0 Q) (.code (.loop (lps K50 0).1)::(lps K50 0).2) (mk f50.ntmps (SNa s 0) []):=by
 refine zc.loop (ι:={i:Nat // i<=s.length/\∀ j,j<i->isN (s.getD j 0)=true}) (λi=>SNa s i.1) (λ_=>[]) (λi=>s.length - i.1) ⟨0,aI _,λj hj=>by omega⟩ 0 ?_ ?_ (by kernel_rfl)
 ·exact⟨by simp [SNa],by simp,by kernel_rfl,aI _⟩
 ·rintro⟨i,hil,hib⟩;refine zc.n GN1.h [0,20,21,31,32,33,34,35,36,39,40,43,44] (let v1:=s.getD (i:Int).toNat (0:UInt8);.D ((i:Int)<s.length) (.side ((0:Int)<=i/\(i:Int)<s.length) (.ex (λ(x:UInt8)=>eqL [.int .u8 ↑(UInt8.toNat v1)] [.int .u8 ↑(UInt8.toNat x)]/\True) λn=>.all (λ(r:Bool)=>r=isL n) λn=>.ite (bif bif bif !n then bif decide ((↑(UInt8.toNat v1):Int)<48) then true else decide ((57:Int)<(↑(UInt8.toNat v1):Int)) else false then !decide ((↑(UInt8.toNat v1):Int)=95) else false then !decide ((↑(UInt8.toNat v1):Int)=45) else false) (.R [.bool false] []) (.S (i+1) (.leaf (.back 0 [(0,.str s),(20,.i s.length),(21,.i (i+1)),Z 31,Z 32,Z 33,Z 34,Z 35,Z 36,Z 39,Z 40,Z 43,Z 44] []))))) (.R [.bool true] [])) ?_;simp only [Tree.holds,zd,inR,lo,hi,aD];refine⟨λhlt=> ?_,λhge=> ?_⟩
  ·have hlt:i<s.length:=by have:=aB hlt; omega
   refine⟨by omega,λ_=>⟨s.getD i 0,⟨by simp,trivial⟩,⟨_,rfl⟩,?_⟩⟩;rintro _ rfl;rw [zkz];refine⟨λh=> ?_,λh=>⟨by omega,λ_=> ?_⟩⟩
   ·rw [Xs hlt (by simpa using h)] at hq;exact RetR.scal hq rfl (by simp [resV])
   ·rw [aP trivial];refine⟨⟨i+1,hlt,λj hj=> ?_⟩,by show s.length - (i+1)<s.length - i; omega,by simp [SNa],by simp,by kernel_rfl,aI _⟩;rcases aR j i with h1 | h1
    ·exact hib j h1
    ·have:j=i:=by omega
     rw [this]; simpa using h
  ·have hge:i=s.length:=by have:=aC hge; omega
   subst hge;rw [zlr hib] at hq;exact RetR.scal hq rfl (by simp [resV])
theorem K9:zf prog 50 Yn:=by
 refine zh' f50 λs hs O w0 Q hq=> ?_
 replace hq:=hq _ rfl;refine zc.n GN1.h [0,20,21,31,32,33,34,35,36,39,40,43,44] (.side ((bif decide ((s.length:Int)<1) then true else decide ((40:Int)<s.length))=false->(0:Int)<=0/\(0:Int)<s.length) (.ex (λ(x:UInt8)=>(bif decide ((s.length:Int)<1) then true else decide ((40:Int)<s.length))=false->eqL [.int .u8 ↑(UInt8.toNat (s.getD 0 (0:UInt8)))] [.int .u8 ↑(UInt8.toNat x)]/\True) λn=>.all (λ(x:Bool)=>(bif decide ((s.length:Int)<1) then true else decide ((40:Int)<s.length))=false->x=isL n) λn=>.ite (bif bif decide ((s.length:Int)<1) then true else decide ((40:Int)<s.length) then true else !n) (.R [.bool false] []) (.leaf (.loop (lps K50 0).1 (lps K50 0).2 [(0,.str s),(20,.i s.length),(21,.i 0),Z 31,Z 32,Z 33,Z 34,Z 35,Z 36,Z 39,Z 40,Z 43,Z 44] [])))) ?_;simp only [Tree.holds,zd,inR,lo,hi]
 have hd:decide ((s.length:Int)<1) = !decide (0<s.length):=by
  by_cases h:0<s.length
  ·rw [aX h,aW (by omega)]; rfl
  ·rw [aW h,aX (by omega)]; rfl
 have hd2:decide (40<(s.length:Int)) = !decide (s.length<=40):=by
  by_cases h:s.length<=40
  ·rw [aX h,aW (by omega)]; rfl
  ·rw [aW h,aX (by omega)]; rfl
 rw [hd,hd2];have hnb:qI s=(decide (0<s.length)&&decide (s.length<=40)&&isL (s.getD 0 0)&&s.all isN):=rfl;cases h1:decide (0<s.length) with
 | false=>
  rw [hnb,h1] at hq;refine⟨λh=>(by cases h),λ_=>⟨0,λh=>(by cases h),⟨false,λh=>(by cases h)⟩,?_⟩⟩;intro b _;exact⟨λ_=>RetR.scal hq rfl (by simp [resV]),λh=>(by cases h)⟩
 | true=>
  have h1':=aB h1;cases h2:decide (s.length<=40) with
  | false=>
   rw [hnb,h1,h2] at hq;refine⟨λh=>(by cases h),λ_=>⟨0,λh=>(by cases h),⟨false,λh=>(by cases h)⟩,?_⟩⟩;intro b _;exact⟨λ_=>RetR.scal hq rfl (by simp [resV]),λh=>(by cases h)⟩
  | true=>
   refine⟨λ_=>by omega,λ_=>⟨s.getD 0 0,λ_=>⟨by simp,trivial⟩,⟨_,λ_=>rfl⟩,?_⟩⟩;intro b hb;have hb:=hb rfl;subst hb;cases h3:isL (s.getD 0 0) with
   | false=>
    rw [hnb,h1,h2,h3] at hq;exact⟨λ_=>RetR.scal hq rfl (by simp [resV]),λh=>(by cases h)⟩
   | true=>
    rw [hnb,h1,h2,h3] at hq;refine⟨λh=>(by cases h),λ_=> ?_⟩;exact ze4 s hs hq
noncomputable def K96:=Go.Sx.aA f96
theorem jB{X R:Type}{P:Program}{g:Nat}{fresh:Bool}{inp:X->List AV}{pre:X->Prop}{post:X->R->Prop}{out:X->R->AV×Heap}(μ:X->Nat)
  (step:∀ n,zf P g (ctrP fresh inp (λx=>μ x<n/\pre x) post out)->zf P g (ctrP fresh inp (λx=>μ x<n+1/\pre x) post out)):zf P g (ctrP fresh inp pre post out):=by
 have all:∀ n,zf P g (ctrP fresh inp (λx=>μ x<n/\pre x) post out):=by
  intro n
  induction n with
  | zero=>
   intro args hc Q hq _;simp only [ctrP] at hq;split at hq
   ·obtain⟨x,⟨_,h,_⟩,_⟩:=hq;exact absurd h (Nat.not_lt_zero _)
   ·exact hq.elim
  | succ n ih=>exact step n ih
 intro args hc Q hq hf
 match hc,hq,hf with
 | [],hq,hf=>
  obtain⟨x,⟨h1,h2⟩,h3⟩:=hq;exact all (μ x+1) args [] Q ⟨x,⟨h1,Nat.lt_succ_self _,h2⟩,h3⟩ hf
 | _::_,hq,_=>exact hq.elim
def zbw(n:Nat):Ctr:=ctrP true (λx:Ex=>[x.exA]) (λx=>x.size<n/\x.size<2^62) (λx r=>r=x.size) (λ_ (r:Nat)=>(.i (r:Int),[]))
def GSz(g n:Nat):Nat->Option Ctr:=λf=>if f=g then some (zbw n) else none
theorem zln{g n:Nat}(h:zf prog g (zbw n)):∀ f c,GSz g n f=some c->zf prog f c:=by
 intro f c hf;simp only [GSz] at hf;split at hf
 ·rename_i hg; subst hg; cases hf; exact h
 ·cases hf
theorem uG{x:Ex}{k d:Int}{r m:L8}{l:Nat}{g:Nat->Nat->AV}(hk:k=x.kind)(hr:r=x.rat)(hm:m=x.name)(hd:d=x.date)(hl:l=x.sub.length)(hg:eqG x.sub.length 5 g (Ex.exG x.sub)):eqL [.agg [.int .u8 k,.str r,.str m,.i d,.sl l 5 g]] [x.exA]:=by
 subst hk; subst hr; subst hm; subst hd; subst hl;exact⟨⟨⟨rfl,rfl⟩,rfl,rfl,⟨rfl,rfl⟩,⟨rfl,rfl,hg⟩,trivial⟩,trivial⟩
def SSz(s:List Ex)(c i:Nat):KV:=[(3,.i (c:Int)),(7,Ex.exS s),(8,.i (s.length:Int)),(9,.i (i:Int))]
theorem ze3(n:Nat)(ih:zf prog 96 (zbw n)):zf prog 96 (zbw (n+1)):=by
 refine zh' f96 λx hx O w0 Q hq=> ?_
 replace hq:=hq _ rfl;obtain⟨hxn,hxs⟩:=hx;rw [Ex.size_eq] at hxn hxs hq;obtain⟨k,r,m,d,s⟩:=x;simp only [Ex.sub] at hxn hxs hq;refine zc.n (zln ih) [3,7,8,9] (.leaf (.loop (lps K96 0).1 (lps K96 0).2 [(3,.i 1),(7,.sl s.length 5 (Ex.exG s)),(8,.i s.length),(9,.i 0)] [.box [.int .u8 k,.str r,.str m,.i d,.sl s.length 5 (Ex.exG s)]])) ?_;simp only [Tree.holds,zd];have hlen:=Ex.qt s;refine zc.loop (ι:={i:Nat // i<=s.length}) (λi=>SSz s (1+Ex.zw (s.take i.1)) i.1) (λ_=>[]) (λi=>s.length - i.1) ⟨0,aI _⟩ 0 ?_ ?_ (by kernel_rfl)
 ·exact⟨by simp [SSz,Ex.zw,Ex.exS,za],by simp,by kernel_rfl,aI _⟩
 ·rintro⟨i,hil⟩;have hle:=Ex.yK s i;obtain⟨c,hc⟩:∃ c,1+Ex.zw (s.take i)=c:=⟨_,rfl⟩;simp only [hc];refine zc.n (zln ih) [3,7,8,9] (let v1:=s.getD (i:Int).toNat Ex.nil;.D ((i:Int)<s.length) (.side ((0:Int)<=i/\(i:Int)<s.length) (.ex (λ(x:Ex)=>eqL [.agg [.int .u8 (Ex.kind v1),.str (Ex.rat v1),.str (Ex.name v1),.i (Ex.date v1),.sl (List.length (Ex.sub v1)) 5 (Ex.deep v1)]] [.agg [.int .u8 x.kind,.str x.rat,.str x.name,.i x.date,.sl x.sub.length 5 (Ex.exG x.sub)]]/\Ex.size x<n/\Ex.size x<4611686018427387904) λn=>.all (λ(r:Nat)=>r=Ex.size n) λn=>.S ((c:Int)+n) (.S (i+1) (.leaf (.back 0 [(3,.i ((c:Int)+n)),(7,.sl s.length 5 (Ex.exG s)),(8,.i s.length),(9,.i (i+1))] [.box [.int .u8 (Ex.kind v1),.str (Ex.rat v1),.str (Ex.name v1),.i (Ex.date v1),.sl (List.length (Ex.sub v1)) 5 (Ex.deep v1)]]))))) (.R [.i c] [])) ?_;simp only [Tree.holds,zd,inR,lo,hi,aD];refine⟨λhlt=> ?_,λhge=> ?_⟩
  ·have hlt:i<s.length:=by have:=aB hlt; omega
   have hg:=Ex.qb hlt;have ht:=Ex.Wi s i hlt;have hle2:=Ex.yK s (i+1);refine⟨by omega,λ_=>⟨s.getD i Ex.nil,⟨uG rfl rfl rfl rfl rfl (Ex.qp _),by omega,by omega⟩,⟨_,rfl⟩,?_⟩⟩;rintro _ rfl;refine⟨by omega,λ_=>⟨by omega,λ_=> ?_⟩⟩;rw [aP trivial];refine⟨⟨i+1,hlt⟩,by show s.length - (i+1)<s.length - i; omega,?_,by simp,by kernel_rfl,aI _⟩;simp [SSz,Ex.exS,za,ht]; omega
  ·have hge:i=s.length:=by have:=aC hge; omega
   subst hge;rw [bD] at hc;rw [hc] at hq;exact RetR.scal hq rfl (by simp [resV])
def zbz:Ctr:=ctrP true (λx:Ex=>[x.exA]) (λx=>x.size<2^62) (λx r=>r=x.size) (λ_ (r:Nat)=>(.i (r:Int),[]))
theorem zcy:zf prog 96 zbz:=jB Ex.size ze3
def G1c(g:Nat)(C:Ctr):Nat->Option Ctr:=λf=>if f=g then some C else none
theorem wM{g:Nat}{C:Ctr}(h:zf prog g C):∀ f c,G1c g C f=some c->zf prog f c:=by
 intro f c hf;simp only [G1c] at hf;split at hf
 ·rename_i hg; subst hg; cases hf; exact h
 ·cases hf
noncomputable def K181:=Go.Sx.aA f181
def zgq(n:Nat):Ctr:=ctrP true (λp:Ex×Nat=>[p.1.exA,.i (p.2:Int)]) (λp=>p.1.size<n/\p.1.size<2^62/\p.2<2^40) (λp r=>r=min p.1.depth (p.2+1)) (λ_ (r:Nat)=>(.i (r:Int),[]))
def SDp(s:List Ex)(limit c i:Nat):KV:=[(1,.i (limit:Int)),(5,.i (c:Int)),(11,Ex.exS s),(12,.i (s.length:Int)),(13,.i (i:Int))]
theorem U7(n:Nat)(ih:zf prog 181 (zgq n)):zf prog 181 (zgq (n+1)):=by
 refine zh' f181 λp hp O w0 Q hq=> ?_
 obtain⟨x,limit⟩:=p;obtain⟨hxn,hxs,hli⟩:=hp;replace hq:=hq _ rfl;simp only at hxn hxs hli hq;have hds:=Ex.jP x;have hdp:=Ex.zfs x;rw [Ex.xd] at hq hds hdp;rw [Ex.size_eq] at hxn hxs hds;obtain⟨k,r,m,d,s⟩:=x;simp only [Ex.sub] at hxn hxs hq hds hdp;have hlen:=Ex.qt s;refine zc.n (wM ih) [1,5,11,12,13] (let v1:List Blk:=[.box [.int .u8 k,.str r,.str m,.i d,.sl s.length 5 (Ex.exG s)]];.D ((0:Int)<limit) (.leaf (.loop (lps K181 0).1 (lps K181 0).2 [(1,.i limit),(5,.i 0),(11,.sl s.length 5 (Ex.exG s)),(12,.i s.length),(13,.i 0)] v1)) (.S 1 (.R [.i 1] v1))) ?_;simp only [Tree.holds,zd,inR,lo,hi,aD];refine⟨λhl=> ?_,λhl=> ?_⟩
 ·have hl:0<limit:=by have:=aB hl; omega
  refine zc.loop (ι:={i:Nat // i<=s.length}) (λi=>SDp s limit (min (Ex.zz (s.take i.1)) limit) i.1) (λ_=>[]) (λi=>s.length - i.1) ⟨0,aI _⟩ 0 ?_ ?_ (by kernel_rfl)
  ·exact⟨by simp [SDp,Ex.zz,Ex.exS,za],by simp,by kernel_rfl,aI _⟩
  ·rintro⟨i,hil⟩;obtain⟨c,hc⟩:∃ c,min (Ex.zz (s.take i)) limit=c:=⟨_,rfl⟩;simp only [hc];refine zc.n (wM ih) [1,5,11,12,13] (let v1:=s.getD (i:Int).toNat Ex.nil;.D ((i:Int)<s.length) (.side ((0:Int)<=i/\(i:Int)<s.length) (.S (limit-1) (.ex (λ(x:Ex×Nat)=>eqL [.agg [.int .u8 (Ex.kind v1),.str (Ex.rat v1),.str (Ex.name v1),.i (Ex.date v1),.sl (List.length (Ex.sub v1)) 5 (Ex.deep v1)],.i (limit-1)] [.agg [.int .u8 x.1.kind,.str x.1.rat,.str x.1.name,.i x.1.date,.sl x.1.sub.length 5 (Ex.exG x.1.sub)],.i x.2]/\Ex.size x.1<n/\Ex.size x.1<4611686018427387904/\x.2<1099511627776) λn=>.all (λ(r:Nat)=>r=min n.1.depth (n.2+1)) λn=>.S (i+1) (.leaf (.back 0 [(1,.i limit),(5,.i (max (c:Int) (n:Int))),(11,.sl s.length 5 (Ex.exG s)),(12,.i s.length),(13,.i (i+1))] [.box [.int .u8 (Ex.kind v1),.str (Ex.rat v1),.str (Ex.name v1),.i (Ex.date v1),.sl (List.length (Ex.sub v1)) 5 (Ex.deep v1)]]))))) (.S (c+1) (.R [.i (c+1)] []))) ?_;simp only [Tree.holds,zd,inR,lo,hi,aD];refine⟨λhlt=> ?_,λhge=> ?_⟩
   ·have hlt:i<s.length:=by have:=aB hlt; omega
    have hg:=Ex.qb hlt;have ht:=Ex.vr s i hlt;refine⟨by omega,λ_=>⟨by omega,λ_=>⟨(s.getD i Ex.nil,limit - 1),⟨?_,by show(s.getD i Ex.nil).size<n; omega,by show(s.getD i Ex.nil).size<2^62; omega,by show limit - 1<2^40; omega⟩,⟨_,rfl⟩,?_⟩⟩⟩
    ·have e1:(limit:Int) - 1=((limit - 1:Nat):Int):=by omega
     rw [e1];exact⟨⟨⟨rfl,rfl⟩,rfl,rfl,⟨rfl,rfl⟩,⟨rfl,rfl,Ex.qp _⟩,trivial⟩,⟨rfl,rfl⟩,trivial⟩
    rintro _ rfl;refine⟨by omega,λ_=> ?_⟩;rw [aP trivial];refine⟨⟨i+1,hlt⟩,by show s.length - (i+1)<s.length - i; omega,?_,by simp,by kernel_rfl,aI _⟩;simp [SDp,ht,Ex.exS,za]; omega
   ·have hge:i=s.length:=by have:=aC hge; omega
    subst hge;rw [bD] at hc;refine⟨by omega,λ_=> ?_⟩;exact RetR.scal hq rfl (by simp [resV]; omega)
 ·have hl:limit=0:=by have:=aC hl; omega
  refine⟨by decide,λ_=> ?_⟩;exact RetR.scal hq rfl (by simp [resV]; omega)
theorem zl3:zf prog 181 (ctrP true (λp:Ex×Nat=>[p.1.exA,.i (p.2:Int)]) (λp=>p.1.size<2^62/\p.2<2^40) (λp r=>r=min p.1.depth (p.2+1)) (λ_ (r:Nat)=>(.i (r:Int),[]))):=jB (λp=>p.1.size) U7
noncomputable def K147:=Go.Sx.aA f147
def zqv:Ctr:=ctrP true (λx:Ex=>[x.exA]) (λx=>x.rat.length<2^40/\x.name.length<2^40) (λx r=>r=bif jn x.kind x.rat x.name x.date x.sub.length then 1 else 0) (λ_ (r:Int)=>(.int .u8 r,[]))
noncomputable def GLf:=tb ZW (tb K9 (tb ZG tz))
abbrev q21(A:List AV)(x:Int):Prop:=eqL A [.i x]/\True
theorem zp1:zf prog 182 zqv:=by
 refine zh' f182 λx hx O w0 Q hq=> ?_
 obtain⟨k,r,m,d,s⟩:=x;replace hq:=hq _ rfl;obtain⟨h1,h2⟩:=hx;simp only [Ex.rat,Ex.name,Ex.kind,Ex.date,Ex.sub] at h1 h2 hq;refine zc.n GLf.h [] (let v2:=r=#[].toList;let v1:List Blk:=[.box [.int .u8 k,.str r,.str m,.i d,.sl s.length 5 (Ex.exG s)]];let v4:qa:=.ret [.int .u8 1] v1;let v3:qa:=.ret [.int .u8 0] v1;.D (k=1) (.ex (λ(x:L8)=>decide ((s.length:Int)=0)=true->q15 [.str r] x) λn=>.all (λ(x:Int)=>decide ((s.length:Int)=0)=true->x=errR n) λn=>.ite (!bif bif bif decide ((s.length:Int)=0) then decide (n=0) else false then decide (m=#[].toList) else false then decide (d=0) else false) (.leaf v3) (.leaf v4)) (.D (k=2) (.ex (λ(x:L8)=>(bif decide ((s.length:Int)=0) then decide v2 else false)=true->q15 [.str m] x) λn=>.all (λ(x:Bool)=>(bif decide ((s.length:Int)=0) then decide v2 else false)=true->x=qI n) λn=>.ex (λ(x:Int)=>(bif bif decide ((s.length:Int)=0) then decide v2 else false then n else false)=true->q21 [.i d] x) λn_1=>.all (λ(x:Bool)=>(bif bif decide ((s.length:Int)=0) then decide v2 else false then n else false)=true->x=dayB n_1) λn_2=>.ite (!bif bif bif decide ((s.length:Int)=0) then decide v2 else false then n else false then n_2 else false) (.leaf v3) (.leaf v4)) (.D (k=3) (.ex (λ(x:L8)=>(bif decide ((s.length:Int)=0) then decide v2 else false)=true->q15 [.str m] x) λn=>.all (λ(x:Bool)=>(bif decide ((s.length:Int)=0) then decide v2 else false)=true->x=qI n) λn=>.ite (!bif bif bif decide ((s.length:Int)=0) then decide v2 else false then n else false then decide (d=0) else false) (.leaf v3) (.leaf v4)) (.ite true (.leaf v3) (.leaf v4))))) ?_;simp only [q15,q21,Tree.holds,zd,inR,lo,hi,aD]
 have fin:∀ T:Bool,T=jn k r m d s.length->((!T)=true->Q (.int .u8 0,[]))/\((!T)=false->Q (.int .u8 1,[])):=by
  intro T hT;subst hT;cases hl:jn k r m d s.length with
  | true=>rw [hl] at hq; exact⟨λh=>(by cases h),λ_=>hq⟩
  | false=>rw [hl] at hq; exact⟨λ_=>hq,λh=>(by cases h)⟩
 refine⟨λhk=> ?_,λhk=> ?_⟩
 ·have hk:k=1:=aB hk;refine⟨r,λ_=>⟨by simp,by omega⟩,⟨_,λ_=>rfl⟩,?_⟩;intro e he
  have F:=fin (bif bif bif decide ((s.length:Int)=0) then decide (e=0) else false then decide (m=[]) else false then decide (d=0) else false) (by
   by_cases hl:s.length=0
   ·have:=he (by simp [hl]);subst this;simp [jn,hk,hl,Bool.and_assoc]
   ·simp [jn,hl])
  exact⟨λh=>RetR.scal (F.1 h) rfl (by simp [resV]),λh=>RetR.scal (F.2 h) rfl (by simp [resV])⟩
 ·have hk1:k≠1:=aC hk;refine⟨λhk=> ?_,λhk=> ?_⟩
  ·have hk:k=2:=aB hk;refine⟨m,λ_=>⟨by simp,by omega⟩,⟨_,λ_=>rfl⟩,?_⟩;intro e he;refine⟨d,λ_=>⟨by simp,trivial⟩,⟨_,λ_=>rfl⟩,?_⟩;intro f hf
   have F:=fin (bif bif bif decide ((s.length:Int)=0) then decide (r=[]) else false then e else false then f else false) (by
    by_cases hl:s.length=0
    ·by_cases hr:r=[]
     ·have:=he (by simp [hl,hr]);subst this;cases hn:qI m with
      | true=>
       have:=hf (by simp [hl,hr,hn]);subst this;simp [jn,hk,hl,hr,hn]
      | false=>simp [jn,hk,hl,hr,hn]
     ·simp [jn,hk,hl,hr]
    ·simp [jn,hl])
   exact⟨λh=>RetR.scal (F.1 h) rfl (by simp [resV]),λh=>RetR.scal (F.2 h) rfl (by simp [resV])⟩
  ·have hk2:k≠2:=aC hk;refine⟨λhk=> ?_,λhk=> ?_⟩
   ·have hk:k=3:=aB hk;refine⟨m,λ_=>⟨by simp,by omega⟩,⟨_,λ_=>rfl⟩,?_⟩;intro e he
    have F:=fin (bif bif bif decide ((s.length:Int)=0) then decide (r=[]) else false then e else false then decide (d=0) else false) (by
     by_cases hl:s.length=0
     ·by_cases hr:r=[]
      ·have:=he (by simp [hl,hr]);subst this;simp [jn,hk,hl,hr]
      ·simp [jn,hk,hl,hr]
     ·simp [jn,hl])
    exact⟨λh=>RetR.scal (F.1 h) rfl (by simp [resV]),λh=>RetR.scal (F.2 h) rfl (by simp [resV])⟩
   ·have hk3:k≠3:=aC hk;have F:=fin false (by simp [jn,hk1,hk2,hk3]);exact⟨λh=>RetR.scal (F.1 rfl) rfl (by simp [resV]),λh=>by cases h⟩
def SSo(s:List Ex)(i:Nat):KV:=[(3,.ptr 1 0),(41,Ex.exS s),(42,.i (s.length:Int)),(43,.i (i:Int))]
def HSo(k:Int):Heap:=[.dead,.box [.sl (jO k) 1 λj _=>.int .u8 (qX k j),.int .u8 (jv k)]]
def zdc(n:Nat):Ctr:=ctrP true (λx:Ex=>[x.exA]) (λx=>x.size<n/\x.size<2^60/\x.zJ<2^40) (λx r=>r=x.zx) (λ_ (r:Int)=>(.int .u8 r,[]))
def GSo(n:Nat):Nat->Option Ctr:=λf=>if f=147 then some (zdc n) else if f=182 then some zqv else none
theorem zkm{n:Nat}(h:zf prog 147 (zdc n)):∀ f c,GSo n f=some c->zf prog f c:=by
 intro f c hf;simp only [GSo] at hf;split at hf
 ·rename_i hg; subst hg; cases hf; exact h
 ·split at hf
  ·rename_i hg; subst hg; cases hf; exact zp1
  ·cases hf
abbrev q22(A:List AV)(x:Ex):Prop:=eqL A [.agg [.int .u8 x.kind,.str x.rat,.str x.name,.i x.date,.sl x.sub.length 5 (Ex.exG x.sub)]]/\x.rat.length<1099511627776/\x.name.length<1099511627776
theorem ze5(n:Nat)(ih:zf prog 147 (zdc n)):zf prog 147 (zdc (n+1)):=by
 refine zh' f147 λx hx O w0 Q hq=> ?_
 replace hq:=hq _ rfl;obtain⟨hxn,hxs,hxb⟩:=hx;rw [Ex.size_eq] at hxn hxs;rw [Ex.zex] at hxb;rw [Ex.JR] at hq;obtain⟨k,r,m,d,s⟩:=x;simp only [Ex.sub,Ex.rat,Ex.name,Ex.kind,Ex.date] at hxn hxs hq hxb;refine zc.n (zkm ih) [3,41,42,43] (let v5:=lps K147 0;let v3:List (Nat×AV):=[(3,.ptr 1 0),(41,.sl s.length 5 (Ex.exG s)),(42,.i s.length),(43,.i 0)];let v2:=q22 [.agg [.int .u8 k,.str r,.str m,.i d,.sl s.length 5 (Ex.exG s)]];let v1:List AV:=[.int .u8 k,.str r,.str m,.i d,.sl s.length 5 (Ex.exG s)];let v4:List Blk:=[.box v1,.box [.nils,.int .u8 0]];.ite (qS k) (.ite false (.ex v2 λn=>.all (λ(r:Int)=>r=bif jn n.kind n.rat n.name n.date n.sub.length then(1:Int) else(0:Int)) λn=>.R [.int .u8 n] [.box v1,.box [.sl (jO k) 1 λ(j x:Nat)=>.int .u8 (qX k j),.int .u8 (jv k)]]) (.ite (bif bif bif !decide ((s.length:Int)=(↑(jO k):Int)) then true else !decide (r=#[].toList) then true else !decide (m=#[].toList) then true else !decide (d=0)) (.R [.int .u8 0] [.box v1,.box [.sl (jO k) 1 λ(j x:Nat)=>.int .u8 (qX k j),.int .u8 (jv k)]]) (.leaf (.loop v5.1 v5.2 v3 [.box v1,.box [.sl (jO k) 1 λ(j x:Nat)=>.int .u8 (qX k j),.int .u8 (jv k)]])))) (.ite true (.ex v2 λn=>.all (λ(r:Int)=>r=bif jn n.kind n.rat n.name n.date n.sub.length then(1:Int) else(0:Int)) λn=>.R [.int .u8 n] v4) (.ite (bif bif bif !decide ((s.length:Int)=0) then true else !decide (r=#[].toList) then true else !decide (m=#[].toList) then true else !decide (d=0)) (.R [.int .u8 0] v4) (.leaf (.loop v5.1 v5.2 v3 v4))))) ?_;simp only [q22,Tree.holds,zd,inR,lo,hi,aD];refine⟨λhk=>⟨λh=>(by cases h),λ_=>⟨λh=> ?_,λh=> ?_⟩⟩,λhk=> ?_⟩
 ·have hn:¬ (r=[]/\m=[]/\d=0/\Ex.qc s=qw k):=by
   rintro⟨rfl,rfl,rfl,h4⟩;have:s.length=jO k:=by rw [<- Ex.jF,h4]; rfl
   simp [this] at h
  have e:wL k r m d (Ex.qc s)=0:=by unfold wL; rw [aP hk,aO hn]
  exact RetR.scal hq rfl (by simp [resV,e])
 ·have hh:s.length=jO k/\r=[]/\m=[]/\d=0:=by
   simp at h;obtain⟨⟨⟨h1,h2⟩,h3⟩,h4⟩:=h;exact⟨by omega,h2,h3,h4⟩
  obtain⟨hl,rfl,rfl,rfl⟩:=hh;have hlen:=Ex.qt s;have e1:wL k [] [] 0 (Ex.qc s)=if Ex.qc s=qw k then jv k else 0:=by unfold wL; rw [aP hk]; simp
  rw [e1] at hq;clear h e1;refine zc.loop (ι:={i:Nat // i<=s.length/\∀ j,j<i->(s.getD j Ex.nil).zx=qX k j}) (λi=>SSo s i.1) (λ_=>HSo k) (λi=>s.length - i.1) ⟨0,aI _,λj hj=>by omega⟩ 0 ?_ ?_ (by kernel_rfl)
  ·exact⟨by simp [SSo,Ex.exS,za],by simp [HSo,za],by kernel_rfl,aI _⟩
  ·rintro⟨i,hil,hib⟩;refine zc.n (zkm ih) [3,41,42,43] (let v1:=s.getD (i:Int).toNat Ex.nil;let v2:List AV:=[.int .u8 (Ex.kind v1),.str (Ex.rat v1),.str (Ex.name v1),.i (Ex.date v1),.sl (List.length (Ex.sub v1)) 5 (Ex.deep v1)];.D ((i:Int)<s.length) (.side ((0:Int)<=i/\(i:Int)<s.length) (.side ((0:Int)<=i/\(i:Int)<(↑(jO k):Int)) (.ex (λ(x:Ex)=>eqL [.agg [.int .u8 (Ex.kind v1),.str (Ex.rat v1),.str (Ex.name v1),.i (Ex.date v1),.sl (List.length (Ex.sub v1)) 5 (Ex.deep v1)]] [.agg [.int .u8 x.kind,.str x.rat,.str x.name,.i x.date,.sl x.sub.length 5 (Ex.exG x.sub)]]/\Ex.size x<n/\Ex.size x<1152921504606846976/\Ex.zJ x<1099511627776) λn=>.all (λ(r:Int)=>r=Ex.zx n) λn=>.N (n=qX k (i:Int).toNat) (.R [.int .u8 0] [.dead,.box [.sl (jO k) 1 λ(j x:Nat)=>.int .u8 (qX k j),.int .u8 (jv k)],.box v2]) (.S (i+1) (.leaf (.back 0 [(3,.ptr 1 0),(41,.sl s.length 5 (Ex.exG s)),(42,.i s.length),(43,.i (i+1))] [.dead,.box [.sl (jO k) 1 λ(j x:Nat)=>.int .u8 (qX k j),.int .u8 (jv k)],.box v2])))))) (.R [.int .u8 (jv k)] [.dead,.box [.sl (jO k) 1 λ(j x:Nat)=>.int .u8 (qX k j),.int .u8 (jv k)]])) ?_;simp only [Tree.holds,zd,inR,lo,hi,aD];refine⟨λhlt=> ?_,λhge=> ?_⟩
   ·have hlt:i<s.length:=by have:=aB hlt; omega
    have hg:=Ex.qb hlt;have hg2:=Ex.UF hlt;have hb0:Ex.qV s<2^40:=by simpa using hxb
    refine⟨by omega,λ_=>⟨by omega,λ_=>⟨s.getD i Ex.nil,⟨uG rfl rfl rfl rfl rfl (Ex.qp _),by omega,by omega,by omega⟩,⟨_,rfl⟩,?_⟩⟩⟩;intro e he;refine⟨λh=> ?_,λh=>⟨by omega,λ_=> ?_⟩⟩
    ·have hne:¬ Ex.qc s=qw k:=by
      intro h2;have:=(Ex.uO.1 h2).2 i hlt;rw [<- he] at this;have h3:¬ e=qX k i:=by simpa using h
      exact h3 this
     rw [aO hne] at hq;exact RetR.scal hq rfl (by simp [resV])
    ·rw [aP trivial];have h3:e=qX k i:=by simpa using h
     refine⟨⟨i+1,hlt,λj hj=> ?_⟩,by show s.length - (i+1)<s.length - i; omega,by simp [SSo,Ex.exS,za],by simp [HSo,za],by kernel_rfl,aI _⟩;rcases aR j i with h1 | h1
     ·exact hib j h1
     ·have:j=i:=by omega
      rw [this,<- he,h3]
   ·have hge:i=s.length:=by have:=aC hge; omega
    subst hge;have:Ex.qc s=qw k:=Ex.uO.2 ⟨hl,hib⟩;rw [aP this] at hq;exact RetR.scal hq rfl (by simp [resV])
 ·refine⟨λ_=> ?_,λh=>(by cases h)⟩;refine⟨.mk k r m d s,⟨⟨⟨⟨rfl,rfl⟩,rfl,rfl,⟨rfl,rfl⟩,⟨rfl,rfl,za _ _ _⟩,trivial⟩,trivial⟩,by show r.length<_; omega,by show m.length<_; omega⟩,⟨_,rfl⟩,?_⟩;intro e he
  have e1:wL k r m d (Ex.qc s)=e:=by
   unfold wL;rw [aO (by rw [hk]; decide),he,Ex.jF];show _=bif jn k r m d s.length then 1 else 0
   cases jn k r m d s.length<;>rfl
  rw [e1] at hq;exact RetR.scal hq rfl (by simp [resV])
def QP:Ctr:=ctrP true (λx:Ex=>[x.exA]) (λx=>x.size<2^60/\x.zJ<2^40) (λx r=>r=x.zx) (λ_ (r:Int)=>(.int .u8 r,[]))
theorem K7:zf prog 147 QP:=jB Ex.size ze5
def zi3:Ctr:=ctrP true (λx:Ex=>[x.exA]) (λx=>x.size<2^62) (λx r=>r=x.size) (λ_ (r:Nat)=>(.i (r:Int),[]))
def zkq:Ctr:=ctrP true (λp:Ex×Nat=>[p.1.exA,.i (p.2:Int)]) (λp=>p.1.size<2^62/\p.2<2^40) (λp r=>r=min p.1.depth (p.2+1)) (λ_ (r:Nat)=>(.i (r:Int),[]))
def K4:Ctr:=ctrP true (λx:Ex=>[x.exA]) (λx=>x.size<2^40/\x.zJ<2^40) (λx r=>r=x.errX) (λ_ (r:Int)=>(.i r,[]))
def zd5(z:Int):Ctr:=ctrP true (λx:Ex=>[x.exA]) (λx=>x.size<2^40/\x.zJ<2^40) (λx r=>r=(decide (x.errX=0)&&decide (x.zx=z))) (λ_ (r:Bool)=>(.bool r,[]))
theorem eqX(x:Ex):eqL [.agg [.int .u8 x.kind,.str x.rat,.str x.name,.i x.date,.sl x.sub.length 5 (Ex.exG x.sub)]] [x.exA]:=uG rfl rfl rfl rfl rfl (za _ _ _)
theorem zet{x:Ex}{n:Nat}(hn:decide (500<(x.size:Int))=false->(60<n↔60<x.depth)) :
  ((bif decide (500<(x.size:Int)) then true else decide (60<(n:Int)))=true->x.errX=4)/\((bif decide (500<(x.size:Int)) then true else decide (60<(n:Int)))=false->x.errX=if x.zx=0 then 8 else 0):=by
 by_cases h:500<x.size
 ·have e:decide (500<(x.size:Int))=true:=aX (by omega);rw [e];exact⟨λ_=>aP (.inl h),λh=>by cases h⟩
 ·have e:decide (500<(x.size:Int))=false:=aW (by omega);have h2:=hn e;rw [e];simp only [cond_false];by_cases h3:60<n
  ·exact⟨λ_=>aP (.inr (h2.1 h3)),λh=>by have:=aC h; omega⟩
  ·refine⟨λh=>by have:=aB h; omega,λ_=> ?_⟩;unfold Ex.errX;rw [aO];rintro(h4 | h4)
   ·exact h h4
   ·exact h3 (h2.2 h4)
noncomputable def GCk:=tb zcy (tb zl3 (tb K7 tz))
abbrev q23(A:List AV)(x:Ex):Prop:=eqL A [.agg [.int .u8 x.kind,.str x.rat,.str x.name,.i x.date,.sl x.sub.length 5 (Ex.exG x.sub)]]/\Ex.size x<1152921504606846976/\Ex.zJ x<1099511627776
theorem Ko:zf prog 146 K4:=by
 refine zh' f146 λx hx O w0 Q hq=> ?_
 replace hq:=hq _ rfl;obtain⟨h1,h2⟩:=hx;refine zc.n GCk.h [] (let v2:List Blk:=[.box [.int .u8 x.kind,.str x.rat,.str x.name,.i x.date,.sl x.sub.length 5 (Ex.exG x.sub)]];let v1:=[AV.int .u8 x.kind,AV.str x.rat,AV.str x.name,AV.i x.date,AV.sl x.sub.length 5 (Ex.exG x.sub)];.ex (λ(x_1:Ex)=>eqL [.agg v1] [.agg [.int .u8 x_1.kind,.str x_1.rat,.str x_1.name,.i x_1.date,.sl x_1.sub.length 5 (Ex.exG x_1.sub)]]/\Ex.size x_1<4611686018427387904) λn=>.all (λ(r:Nat)=>r=Ex.size n) λn=>.ex (λ(x_1:Ex×Nat)=>decide ((500:Int)<n)=false->eqL [.agg v1,.i 60] [.agg [.int .u8 x_1.1.kind,.str x_1.1.rat,.str x_1.1.name,.i x_1.1.date,.sl x_1.1.sub.length 5 (Ex.exG x_1.1.sub)],.i x_1.2]/\Ex.size x_1.1<4611686018427387904/\x_1.2<1099511627776) λn_1=>.all (λ(x:Nat)=>decide ((500:Int)<n)=false->x=min n_1.1.depth (n_1.2+1)) λn_2=>.ite (bif decide ((500:Int)<n) then true else decide ((60:Int)<n_2)) (.R [.i 4] v2) (.ex (q23 [.agg v1]) λn=>.all (λ(r:Int)=>r=Ex.zx n) λn=>.D (n=0) (.R [.i 8] v2) (.R [.i 0] v2))) ?_;simp only [q23,Tree.holds,zd,inR,lo,hi,aD];refine⟨x,⟨uG rfl rfl rfl rfl rfl (za _ _ _),by omega⟩,⟨_,rfl⟩,?_⟩;rintro _ rfl;refine⟨(x,60),λ_=>⟨⟨⟨⟨rfl,rfl⟩,rfl,rfl,⟨rfl,rfl⟩,⟨rfl,rfl,za _ _ _⟩,trivial⟩,⟨rfl,rfl⟩,trivial⟩,by show x.size<_; omega,by show 60<1099511627776; omega⟩,⟨_,λ_=>rfl⟩,?_⟩;intro c hc;have em:=zet (x:=x) (n:=c) λh=>by have:=hc h; simp only at this; omega
 refine⟨λh=> ?_,λh=>⟨x,⟨eqX x,by omega,by omega⟩,⟨_,rfl⟩,?_⟩⟩
 ·rw [em.1 h] at hq;exact RetR.scal hq rfl (by simp [resV])
 ·have e:=em.2 h;rintro _ rfl;refine⟨λg=> ?_,λg=> ?_⟩
  ·rw [e,aP (aB g)] at hq;exact RetR.scal hq rfl (by simp [resV])
  ·rw [e,aO (aC g)] at hq;exact RetR.scal hq rfl (by simp [resV])
noncomputable def GNu:=tb Ko (tb K7 tz)
abbrev q24(A:List AV)(x:Ex):Prop:=eqL A [.agg [.int .u8 x.kind,.str x.rat,.str x.name,.i x.date,.sl x.sub.length 5 (Ex.exG x.sub)]]/\Ex.size x<1099511627776/\Ex.zJ x<1099511627776
theorem zs9:zf prog 102 (zd5 1):=by
 refine zh' f102 λx hx O w0 Q hq=> ?_
 replace hq:=hq _ rfl;obtain⟨h1,h2⟩:=hx;refine zc.n GNu.h [] (let v1:=[AV.agg [.int .u8 x.kind,.str x.rat,.str x.name,.i x.date,.sl x.sub.length 5 (Ex.exG x.sub)]];.ex (q24 v1) λn=>.all (λ(r:Int)=>r=Ex.errX n) λn=>.ex (λ(x9:Ex)=>decide (n=0)=true->q23 v1 x9) λn_1=>.all (λ(x:Int)=>decide (n=0)=true->x=Ex.zx n_1) λn_2=>.R [.bool (bif decide (n=0) then decide (n_2=1) else false)] [.box [.int .u8 x.kind,.str x.rat,.str x.name,.i x.date,.sl x.sub.length 5 (Ex.exG x.sub)]]) ?_;simp only [q23,q24,Tree.holds,zd,inR,lo,hi,aD];refine⟨x,⟨eqX x,by omega,by omega⟩,⟨_,rfl⟩,?_⟩;rintro _ rfl;refine⟨x,λ_=>⟨eqX x,by omega,by omega⟩,⟨_,λ_=>rfl⟩,?_⟩;intro c hc;refine RetR.scal hq rfl ?_;cases h:decide (x.errX=0) with
 | false=>rfl
 | true=>rw [hc h]; rfl
theorem zjm:zf prog 103 (zd5 2):=by
 refine zh' f103 λx hx O w0 Q hq=> ?_
 replace hq:=hq _ rfl;obtain⟨h1,h2⟩:=hx;refine zc.n GNu.h [] (let v1:=[AV.agg [.int .u8 x.kind,.str x.rat,.str x.name,.i x.date,.sl x.sub.length 5 (Ex.exG x.sub)]];.ex (q24 v1) λn=>.all (λ(r:Int)=>r=Ex.errX n) λn=>.ex (λ(x9:Ex)=>decide (n=0)=true->q23 v1 x9) λn_1=>.all (λ(x:Int)=>decide (n=0)=true->x=Ex.zx n_1) λn_2=>.R [.bool (bif decide (n=0) then decide (n_2=2) else false)] [.box [.int .u8 x.kind,.str x.rat,.str x.name,.i x.date,.sl x.sub.length 5 (Ex.exG x.sub)]]) ?_;simp only [q23,q24,Tree.holds,zd,inR,lo,hi,aD];refine⟨x,⟨eqX x,by omega,by omega⟩,⟨_,rfl⟩,?_⟩;rintro _ rfl;refine⟨x,λ_=>⟨eqX x,by omega,by omega⟩,⟨_,λ_=>rfl⟩,?_⟩;intro c hc;refine RetR.scal hq rfl ?_;cases h:decide (x.errX=0) with
 | false=>rfl
 | true=>rw [hc h]; rfl
noncomputable def K65:=Go.Sx.aA f65
noncomputable def K56:=Go.Sx.aA f56
def Wc(n:Nat):Ctr:=ctrP true (λp:Ex×Ex=>[p.1.exA,p.2.exA]) (λp=>p.1.size<n/\p.1.size<2^60) (λp r=>(r=true↔p.1=p.2)) (λ_ (r:Bool)=>(.bool r,[]))
def eqfC(n:Nat):Ctr:=ctrP true (λp:List Ex×List Ex=>[Ex.exS p.1,Ex.exS p.2,.fn 40 [] []]) (λp=>Ex.zw p.1<n/\Ex.zw p.1<2^60) (λp r=>(r=true↔p.1=p.2)) (λ_ (r:Bool)=>(.bool r,[]))
theorem vk(p:Prop):∃ b:Bool,b=true↔p:=by
 by_cases h:p
 ·exact⟨true,by simp [h]⟩
 ·exact⟨false,by simp [h]⟩
def SEq(s t:List Ex)(i:Nat):KV:=[(1,Ex.exS t),(2,.fn 40 [] []),(15,Ex.exS s),(16,.i (s.length:Int)),(17,.i (i:Int))]
theorem zrd(n:Nat)(ih:zf prog 40 (Wc n)):zf prog 65 (eqfC n):=by
 refine zh' f65 λp hp O w0 Q hq=> ?_
 obtain⟨s,t⟩:=p;obtain⟨h1,h2⟩:=hp;simp only at h1 h2 hq;have hlen:=Ex.qt s;refine zc.n (wM ih) [1,2,15,16,17] (.N ((s.length:Int)=t.length) (.R [.bool false] []) (.leaf (.loop (lps K65 0).1 (lps K65 0).2 [(1,.sl t.length 5 (Ex.exG t)),(2,.fn 40 [] []),(15,.sl s.length 5 (Ex.exG s)),(16,.i s.length),(17,.i 0)] []))) ?_;simp only [Tree.holds,zd,inR,lo,hi,aD];refine⟨λh=> ?_,λh=> ?_⟩
 ·refine RetR.scal (hq false ⟨λh=>(by cases h),λhe=> ?_⟩) rfl (by simp [resV]);subst he;simp at h
 ·have hl:s.length=t.length:=by
   by_cases e1:s.length=t.length
   ·exact e1
   ·rw [aW (show ¬ ((s.length:Nat):Int)=t.length by omega)] at h;cases h
  refine zc.loop (ι:={i:Nat // i<=s.length/\∀ j,j<i->s.getD j Ex.nil=t.getD j Ex.nil}) (λi=>SEq s t i.1) (λ_=>[]) (λi=>s.length - i.1) ⟨0,aI _,λj hj=>by omega⟩ 0 ?_ ?_ (by kernel_rfl)
  ·exact⟨by simp [SEq,Ex.exS,za],by simp,by kernel_rfl,aI _⟩
  ·rintro⟨i,hil,hib⟩;refine zc.n (wM ih) [1,2,15,16,17] (let v3:=t.getD (i:Int).toNat Ex.nil;let v2:=s.getD (i:Int).toNat Ex.nil;let v1:List Blk:=[.box [.int .u8 (Ex.kind v2),.str (Ex.rat v2),.str (Ex.name v2),.i (Ex.date v2),.sl (List.length (Ex.sub v2)) 5 (Ex.deep v2)],.box [.int .u8 (Ex.kind v3),.str (Ex.rat v3),.str (Ex.name v3),.i (Ex.date v3),.sl (List.length (Ex.sub v3)) 5 (Ex.deep v3)]];.D ((i:Int)<s.length) (.side ((0:Int)<=i/\(i:Int)<s.length) (.side ((0:Int)<=i/\(i:Int)<t.length) (.ex (λ(x:Ex×Ex)=>eqL [.agg [.int .u8 (Ex.kind v2),.str (Ex.rat v2),.str (Ex.name v2),.i (Ex.date v2),.sl (List.length (Ex.sub v2)) 5 (Ex.deep v2)],.agg [.int .u8 (Ex.kind v3),.str (Ex.rat v3),.str (Ex.name v3),.i (Ex.date v3),.sl (List.length (Ex.sub v3)) 5 (Ex.deep v3)]] [.agg [.int .u8 x.1.kind,.str x.1.rat,.str x.1.name,.i x.1.date,.sl x.1.sub.length 5 (Ex.exG x.1.sub)],.agg [.int .u8 x.2.kind,.str x.2.rat,.str x.2.name,.i x.2.date,.sl x.2.sub.length 5 (Ex.exG x.2.sub)]]/\Ex.size x.1<n/\Ex.size x.1<1152921504606846976) λn=>.all (λ(r:Bool)=>r=true↔n.1=n.2) λn=>.ite (!n) (.R [.bool false] v1) (.S (i+1) (.leaf (.back 0 [(1,.sl t.length 5 (Ex.exG t)),(2,.fn 40 [] []),(15,.sl s.length 5 (Ex.exG s)),(16,.i s.length),(17,.i (i+1))] v1)))))) (.R [.bool true] [])) ?_;simp only [Tree.holds,zd,inR,lo,hi,aD];refine⟨λhlt=> ?_,λhge=> ?_⟩
   ·have hlt:i<s.length:=by have:=aB hlt; omega
    have hg:=Ex.qb hlt;refine⟨by omega,λ_=>⟨by omega,λ_=>⟨(s.getD i Ex.nil,t.getD i Ex.nil),⟨⟨⟨⟨rfl,rfl⟩,rfl,rfl,⟨rfl,rfl⟩,⟨rfl,rfl,Ex.qp _⟩,trivial⟩,⟨⟨rfl,rfl⟩,rfl,rfl,⟨rfl,rfl⟩,⟨rfl,rfl,Ex.qp _⟩,trivial⟩,trivial⟩,by show(s.getD i Ex.nil).size<n; omega,by show(s.getD i Ex.nil).size<_; omega⟩,vk _,?_⟩⟩⟩;intro e he;simp only at he;refine⟨λg=> ?_,λg=>⟨by omega,λ_=> ?_⟩⟩
    ·refine RetR.scal (hq false ⟨λh=>(by cases h),λh3=> ?_⟩) rfl (by simp [resV]);have:e=true:=he.2 (by rw [h3]);rw [this] at g; cases g
    ·rw [aP trivial];have g:e=true:=by simpa using g
     refine⟨⟨i+1,hlt,λj hj=> ?_⟩,by show s.length - (i+1)<s.length - i; omega,by simp [SEq,Ex.exS,za],by simp,by kernel_rfl,aI _⟩;rcases aR j i with h1 | h1
     ·exact hib j h1
     ·have:j=i:=by omega
      rw [this]; exact he.1 g
   ·have hge:i=s.length:=by have:=aC hge; omega
    subst hge;exact RetR.scal (hq true ⟨λ_=>Ex.xf hl hib,λ_=>rfl⟩) rfl (by simp [resV])
theorem za6(n:Nat)(ih:zf prog 40 (Wc n)):zf prog 40 (Wc (n+1)):=by
 refine zh' f40 λp hp O w0 Q hq=> ?_
 obtain⟨x,y⟩:=p;obtain⟨h1,h2⟩:=hp;simp only at h1 h2 hq;rw [Ex.size_eq] at h1 h2;refine zc.run hmix (wM (zrd n ih)) [] 400 (T:=let v4:=Ex.rat x=Ex.rat y;let v3:=Ex.date x=Ex.date y;let v2:=Ex.name x=Ex.name y;let v1:=Ex.kind x=Ex.kind y;.ex (λ(x_1:List Ex×List Ex)=>(bif bif bif decide v1 then decide v4 else false then decide v2 else false then decide v3 else false)=true->eqL [.sl x.sub.length 5 (Ex.exG x.sub),.sl y.sub.length 5 (Ex.exG y.sub),.fn 40 [] []] [.sl x_1.1.length 5 (Ex.exG x_1.1),.sl x_1.2.length 5 (Ex.exG x_1.2),.fn 40 [] []]/\Ex.zw x_1.1<n/\Ex.zw x_1.1<1152921504606846976) λn=>.all (λ(x_1:Bool)=>(bif bif bif decide v1 then decide v4 else false then decide v2 else false then decide v3 else false)=true->(x_1=true↔n.1=n.2)) λn=>.R [.bool (bif bif bif bif decide v1 then decide v4 else false then decide v2 else false then decide v3 else false then n else false)] [.box [.int .u8 x.kind,.str x.rat,.str x.name,.i x.date,.sl x.sub.length 5 (Ex.exG x.sub)],.box [.int .u8 y.kind,.str y.rat,.str y.name,.i y.date,.sl y.sub.length 5 (Ex.exG y.sub)]]) (by kernel_rfl) ?_;simp only [Tree.holds,zd,inR,lo,hi,aD];refine⟨(x.sub,y.sub),λ_=>⟨⟨⟨rfl,rfl,za _ _ _⟩,⟨rfl,rfl,za _ _ _⟩,by simp,trivial⟩,by show Ex.zw x.sub<n; omega,by show Ex.zw x.sub<_; omega⟩,(vk _).imp λ_ h _=>h,?_⟩;intro e he;refine RetR.scal (hq (bif (bif bif bif decide (x.kind=y.kind) then decide (x.rat=y.rat) else false then decide (x.name=y.name) else false then decide (x.date=y.date) else false) then e else false) ?_) rfl (by simp [resV]);rw [Ex.xL];by_cases g1:x.kind=y.kind
 ·by_cases g2:x.rat=y.rat
  ·by_cases g3:x.name=y.name
   ·by_cases g4:x.date=y.date
    ·have:=he (by simp [g1,g2,g3,g4]);simp [g1,g2,g3,g4];exact this
    ·simp [g4]
   ·simp [g3]
  ·simp [g2]
 ·simp [g1]
def Zt:Ctr:=ctrP true (λp:Ex×Ex=>[p.1.exA,p.2.exA]) (λp=>p.1.size<2^60) (λp r=>(r=true↔p.1=p.2)) (λ_ (r:Bool)=>(.bool r,[]))
theorem zgn:zf prog 40 Zt:=jB (λp=>p.1.size) za6
def SSm(i:Nat):KV:=[(2,.ptr 0 0),(3,.ptr 1 0),(5,.i (i:Int))]
def HSm(x y:Ex):Heap:=[.box [.int .u8 x.kind,.str x.rat,.str x.name,.i x.date,Ex.exS x.sub],.box [.int .u8 y.kind,.str y.rat,.str y.name,.i y.date,Ex.exS y.sub]]
theorem Ym(n:Nat)(ih:zf prog 56 (Wc n)):zf prog 56 (Wc (n+1)):=by
 refine zh' f56 λp hp O w0 Q hq=> ?_
 obtain⟨x,y⟩:=p;obtain⟨h1,h2⟩:=hp;simp only at h1 h2 hq;rw [Ex.size_eq] at h1 h2;have hlen:=Ex.qt x.sub;refine zc.n (wM ih) [2,3,5] (let v1:List Blk:=[.box [.int .u8 x.kind,.str x.rat,.str x.name,.i x.date,.sl x.sub.length 5 (Ex.exG x.sub)],.box [.int .u8 y.kind,.str y.rat,.str y.name,.i y.date,.sl y.sub.length 5 (Ex.exG y.sub)]];.ite (bif bif bif bif !decide (Ex.kind x=Ex.kind y) then true else !decide (Ex.rat x=Ex.rat y) then true else !decide (Ex.name x=Ex.name y) then true else !decide (Ex.date x=Ex.date y) then true else !decide ((x.sub.length:Int)=y.sub.length)) (.R [.bool false] v1) (.leaf (.loop (lps K56 0).1 (lps K56 0).2 [(2,.ptr 0 0),(3,.ptr 1 0),(5,.i 0)] v1))) ?_;simp only [Tree.holds,zd,inR,lo,hi,aD];refine⟨λh=> ?_,λh=> ?_⟩
 ·refine RetR.scal (hq false ⟨λh=>(by cases h),λhe=> ?_⟩) rfl (by simp [resV]);subst he;simp at h
 ·simp at h;obtain⟨⟨⟨⟨g1,g2⟩,g3⟩,g4⟩,g5⟩:=h;have g5:x.sub.length=y.sub.length:=by omega
  refine zc.loop (ι:={i:Nat // i<=x.sub.length/\∀ j,j<i->x.sub.getD j Ex.nil=y.sub.getD j Ex.nil}) (λi=>SSm i.1) (λ_=>HSm x y) (λi=>x.sub.length - i.1) ⟨0,aI _,λj hj=>by omega⟩ 0 ?_ ?_ (by kernel_rfl)
  ·exact⟨by simp [SSm],by simp [HSm,Ex.exS,za],by kernel_rfl,aI _⟩
  ·rintro⟨i,hil,hib⟩;refine zc.n (wM ih) [2,3,5] (let v3:=List.getD y.sub (i:Int).toNat Ex.nil;let v2:=List.getD x.sub (i:Int).toNat Ex.nil;let v1:List Blk:=[.box [.int .u8 x.kind,.str x.rat,.str x.name,.i x.date,.sl x.sub.length 5 (Ex.exG x.sub)],.box [.int .u8 y.kind,.str y.rat,.str y.name,.i y.date,.sl y.sub.length 5 (Ex.exG y.sub)]];.D ((i:Int)<x.sub.length) (.side ((0:Int)<=i/\(i:Int)<x.sub.length) (.side ((0:Int)<=i/\(i:Int)<y.sub.length) (.ex (λ(x_1:Ex×Ex)=>eqL [.agg [.int .u8 (Ex.kind v2),.str (Ex.rat v2),.str (Ex.name v2),.i (Ex.date v2),.sl (List.length (Ex.sub v2)) 5 (Ex.deep v2)],.agg [.int .u8 (Ex.kind v3),.str (Ex.rat v3),.str (Ex.name v3),.i (Ex.date v3),.sl (List.length (Ex.sub v3)) 5 (Ex.deep v3)]] [.agg [.int .u8 x_1.1.kind,.str x_1.1.rat,.str x_1.1.name,.i x_1.1.date,.sl x_1.1.sub.length 5 (Ex.exG x_1.1.sub)],.agg [.int .u8 x_1.2.kind,.str x_1.2.rat,.str x_1.2.name,.i x_1.2.date,.sl x_1.2.sub.length 5 (Ex.exG x_1.2.sub)]]/\Ex.size x_1.1<n/\Ex.size x_1.1<1152921504606846976) λn=>.all (λ(r:Bool)=>r=true↔n.1=n.2) λn=>.ite (!n) (.R [.bool false] v1) (.S (i+1) (.leaf (.back 0 [(2,.ptr 0 0),(3,.ptr 1 0),(5,.i (i+1))] v1)))))) (.R [.bool true] v1)) ?_;simp only [Tree.holds,zd,inR,lo,hi,aD];refine⟨λhlt=> ?_,λhge=> ?_⟩
   ·have hlt:i<x.sub.length:=by have:=aB hlt; omega
    have hg:=Ex.qb hlt;refine⟨by omega,λ_=>⟨by omega,λ_=>⟨(x.sub.getD i Ex.nil,y.sub.getD i Ex.nil),⟨⟨⟨⟨rfl,rfl⟩,rfl,rfl,⟨rfl,rfl⟩,⟨rfl,rfl,Ex.qp _⟩,trivial⟩,⟨⟨rfl,rfl⟩,rfl,rfl,⟨rfl,rfl⟩,⟨rfl,rfl,Ex.qp _⟩,trivial⟩,trivial⟩,by show(x.sub.getD i Ex.nil).size<n; omega,by show(x.sub.getD i Ex.nil).size<_; omega⟩,vk _,?_⟩⟩⟩;intro e he;simp only at he;refine⟨λg=> ?_,λg=>⟨by omega,λ_=> ?_⟩⟩
    ·refine RetR.scal (hq false ⟨λh=>(by cases h),λh3=> ?_⟩) rfl (by simp [resV]);have:e=true:=he.2 (by rw [h3]);rw [this] at g; cases g
    ·rw [aP trivial];have g:e=true:=by simpa using g
     refine⟨⟨i+1,hlt,λj hj=> ?_⟩,by show x.sub.length - (i+1)<x.sub.length - i; omega,by simp [SSm],by simp [HSm,Ex.exS,za],by kernel_rfl,aI _⟩;rcases aR j i with h1 | h1
     ·exact hib j h1
     ·have:j=i:=by omega
      rw [this]; exact he.1 g
   ·have hge:i=x.sub.length:=by have:=aC hge; omega
    subst hge;exact RetR.scal (hq true ⟨λ_=>Ex.xL.2 ⟨g1,g2,g3,g4,Ex.xf g5 hib⟩,λ_=>rfl⟩) rfl (by simp [resV])
theorem zea:zf prog 56 Zt:=jB (λp=>p.1.size) Ym
end Go.Proofs.Tryz
end
section
namespace Go.Sx
variable [Stat]
section
variable {own own' O:Nat->Prop} {w w':World} {σ Z':List SE} {P:Program} {fn:Func} {Xp:List PanicEntry->Prop}
def upA0(d k:Nat):AV->AV->Prop
 | .nils,.osl i _ off n=>(d<=i/\i<d+k)/\off=0/\n=0
 | a,b=>a=b
def upL0(d k:Nat):List AV->List AV->Prop
 | [],[]=>True
 | a::l,b::m=>upA0 d k a b/\upL0 d k l m
 | _,_=>False
def upA1(d k:Nat):AV->AV->Prop
 | .agg l,.agg m=>upL0 d k l m
 | a,b=>upA0 d k a b
def upL1(d k:Nat):List AV->List AV->Prop
 | [],[]=>True
 | a::l,b::m=>upA1 d k a b/\upL1 d k l m
 | _,_=>False
def upA2(d k:Nat):AV->AV->Prop
 | .tup l,.tup m=>upL1 d k l m
 | a,b=>upA1 d k a b
def vw(k:Nat):List SE:=List.replicate k ⟨none,0⟩
theorem Qw.mono{g:Nat}{vals:Array Value}{R R':Value->World->Prop}(hR:∀ v w',R v w'->R' v w')(h:Qw P g vals w R):Qw P g vals w R':=by
 rcases h with ⟨h1,h2⟩ | ⟨v,w',h1,h2⟩
 ·exact .inl ⟨h1,h2.mono λe w' ⟨v,he,hv⟩=>⟨v,he,hR v w' hv⟩⟩
 ·exact .inr ⟨v,w',h1,hR v w' h2⟩
theorem vU{k i:Nat}{e:SE}(h:(σ++vw k)[i]?=some e):(i<σ.length/\σ[i]?=some e)\/(σ.length<=i/\e=⟨none,0⟩):=by
 rw [bT] at h;split at h
 ·rename_i hi; exact .inl ⟨hi,h⟩
 ·rename_i hi;right;refine⟨by omega,?_⟩;simp only [vw,List.getElem?_replicate] at h;split at h
  ·cases h; rfl
  ·cases h
theorem ux{k b:Nat}(h:Mine (σ++vw k) b):Mine σ b:=by
 obtain⟨e,he,ad,h1,h2⟩:=h;rcases cA.1 he with he | he
 ·exact⟨e,he,ad,h1,h2⟩
 ·have:=List.eq_of_mem_replicate he;subst this;cases h1
theorem yD{k b:Nat}(h:Own O (σ++vw k) b):Own O σ b:=by
 rcases h with h | h
 ·exact .inl h
 ·exact .inr (ux h)
theorem xB(K:List Nat)(w:World)(σ:List SE)(k:Nat):Hold K w σ w (σ++vw k):=λi e he _=>by
 have hi:=(aG.1 he).1;exact⟨by rw [bL hi]; exact he,λad _ cs el h=>⟨cs,el,h,rfl⟩⟩
theorem Kr{k:Nat}(hx:Ext own w own' w){a b:AV}{v:Value}(hu:upA0 σ.length k a b)(ha:Rep own w a σ v):Rep own' w b (σ++vw k) v:=by
 unfold upA0 at hu;split at hu
 ·obtain⟨⟨h1,h2⟩,rfl,rfl⟩:=hu;rename_i i sz _ _;simp only [Rep] at ha ⊢;refine⟨⟨none,0⟩,?_,by simp,none,0,ha,aJ _,.inl rfl⟩;rw [List.getElem?_append_right h1,vw,List.getElem?_replicate,aP (by omega)]
 ·subst hu;exact zK (K:=[]) hx (xB [] w σ k) _ _ (qm _) ha
theorem Je{k:Nat}(hx:Ext own w own' w):∀ {l m:List AV} {vs:List Value},upL0 σ.length k l m->RepL own w l σ vs->RepL own' w m (σ++vw k) vs
 | [],[],vs,_,h=>by simpa [RepL] using h
 | a::l,b::m,vs,hl,h=>by
  simp only [RepL] at h ⊢;obtain⟨v,r,hv,h1,h2⟩:=h;exact⟨v,r,hv,Kr hx hl.1 h1,Je hx hl.2 h2⟩
 | [],_::_,_,hl,_=>hl.elim
 | _::_,[],_,hl,_=>hl.elim
theorem Ve{k:Nat}(hx:Ext own w own' w){a b:AV}{v:Value}(hu:upA1 σ.length k a b)(ha:Rep own w a σ v):Rep own' w b (σ++vw k) v:=by
 unfold upA1 at hu;split at hu
 ·simp only [Rep] at ha ⊢;obtain⟨vs,hv,hr⟩:=ha;exact⟨vs,hv,Je hx hu hr⟩
 ·exact Kr hx hu ha
theorem Ji{k:Nat}(hx:Ext own w own' w):∀ {l m:List AV} {vs:List Value},upL1 σ.length k l m->RepL own w l σ vs->RepL own' w m (σ++vw k) vs
 | [],[],vs,_,h=>by simpa [RepL] using h
 | a::l,b::m,vs,hl,h=>by
  simp only [RepL] at h ⊢;obtain⟨v,r,hv,h1,h2⟩:=h;exact⟨v,r,hv,Ve hx hl.1 h1,Ji hx hl.2 h2⟩
 | [],_::_,_,hl,_=>hl.elim
 | _::_,[],_,hl,_=>hl.elim
theorem VS{k:Nat}(hx:Ext own w own' w){a b:AV}{v:Value}(hu:upA2 σ.length k a b)(ha:Rep own w a σ v):Rep own' w b (σ++vw k) v:=by
 unfold upA2 at hu;split at hu
 ·simp only [Rep] at ha ⊢;obtain⟨vs,hv,hr⟩:=ha;exact⟨vs,hv,Ji hx hu hr⟩
 ·exact Ve hx hu ha
def VV(szs:List (Nat×(Nat->Nat->AV))):Heap:=szs.map λs=>.arr 0 s.1 s.2
theorem zc3(hx:Ext own w own' w){hs:Heap}(hh:HRep own w σ hs)(szs:List (Nat×(Nat->Nat->AV))):HRep own' w (σ++vw szs.length) (hs++VV szs):=by
 have hl:=hh.len;refine⟨by simp [vw,VV,hl],λi j e f a b he hf ha hb hij=> ?_,λi e a he ha=> ?_,λi e b he hb=> ?_⟩
 ·rcases vU he with ⟨_,he⟩ | ⟨_,rfl⟩
  ·rcases vU hf with ⟨_,hf⟩ | ⟨_,rfl⟩
   ·exact hh.inj i j e f a b he hf ha hb hij
   ·cases hb
  ·cases ha
 ·rcases vU he with ⟨_,he⟩ | ⟨_,rfl⟩
  ·exact hh.lt i e a he ha
  ·cases ha
 ·rcases vU he with ⟨hi,he⟩ | ⟨hi,rfl⟩
  ·rw [bL (by omega)] at hb;have:=js (K:=[]) hx (xB [] w σ szs.length) (hh.blk i e b he hb) (λ_ _=>rfl)
   rwa [j1] at this
  ·rw [List.getElem?_append_right (by omega)] at hb;simp only [VV,aN] at hb;cases hz:szs[i - hs.length]? with
   | none=>simp [hz] at hb
   | some s=>
    simp only [hz,Option.map_some,aE] at hb;subst hb;exact⟨rfl,.inl rfl⟩
def upQ(Q:AV×Heap->Prop)(p:AV×Heap):Prop:=Q p\/∃ (r:AV) (szs:List (Nat×(Nat->Nat->AV))),upA2 p.2.length szs.length p.1 r/\Q (r,p.2++VV szs)
theorem jK.up{g:Nat}{c:Ctr}{args:List AV}{hc:Heap}{Q:AV×Heap->Prop}(h:jK P g c args hc (upQ Q)):jK P g c args hc Q:=by
 intro O w σ vals hg hh hr;refine Qw.mono ?_ (h O w σ vals hg hh hr);rintro v w' ⟨r,hs,Z',hq,h1,h2,h3,h4,h5,h6⟩;rcases hq with hq | ⟨r',szs,hu,hq⟩
 ·exact⟨r,hs,Z',hq,h1,h2,h3,h4,h5,h6⟩
 ·have hx:Ext (λb=>Own O Z' b\/(c.fresh=true/\b<w.heap.size)) w' (λb=>Own O (Z'++vw szs.length) b\/(c.fresh=true/\b<w.heap.size)) w':=
   ⟨rfl,rfl,rfl,aJ _,λ_ _ _=>rfl,λb hb=>.inl (hb.imp yD id)⟩
  have hl:hs.length=Z'.length:=h2.len.symm;refine⟨r',hs++VV szs,Z'++vw szs.length,hq,VS hx (by rw [<- hl]; exact hu) h1,zc3 hx h2 szs,⟨h3.old,λi e ad he had=> ?_,h3.stat.own λb hb=>yD hb⟩,by simp; omega,h5.KN (xB [] w' Z' _),?_⟩
  ·rcases vU he with ⟨_,he⟩ | ⟨_,rfl⟩
   ·exact h3.dis i e ad he had
   ·cases had
  ·exact⟨h6.os,h6.tape,h6.output,h6.size,h6.keep,λb hb=>h6.grow b (ux hb)⟩
theorem QZ{X R:Type}{fresh:Bool}{inp:X->List AV}{pre:X->Prop}{post:X->R->Prop}{out:X->R->AV×Heap}{g:Nat}{c:Code}(hf:P.funcs[g]?=some fn)(hb:fn.body=some c) (hn:(fn.name == "runtime.NumGoroutine")=false)
  (H:∀ x,pre x->∀ (O:Nat->Prop) (w0:World) (Q:AV×Heap->Prop),(∀ r,post x r->Q (out x r)) ->
   zc P fn O 0 w0 [] (λ_ _ _=>False) (RetR (ctrP fresh inp pre post out) 0 (upQ Q)) [.code c] (entry fn (inp x))):zf P g (ctrP fresh inp pre post out):=by
 intro args hc Q hq _;simp only [ctrP] at hq;split at hq
 ·obtain⟨x,⟨h1,h4⟩,h5,h6⟩:=hq;refine jK.le h1 (jK.up (fn_k hf hb hn (λh=>rfl) λO w0 I0 hl=> ?_));have h0:I0=[]:=aU.1 (by simpa using hl);subst h0;exact H x h4 O w0 Q h6
 ·exact hq.elim
variable {pin:Nat} {w0:World} {I0:List SE} {a:Act}
theorem RetR.outs{ctr:Ctr}{Q:AV×Heap->Prop}{rs:List AV}{h:Heap}{r:AV}{hs:Heap}(L:List Nat)(hnd:jY L=true)(hlt:(L.all λi=>decide (i<h.length))=true)(hq:Q (r,hs))(hn:ctr.fresh=true->new2 h L (resV rs)/\∀ i∈L,newB (h.getD i .dead))
  (he:eqA2 (exp2 h L (resV rs)) r) (hb:eqH (expH h L) hs) (hl:hs.length=L.length):RetR ctr 0 Q rs h:=
 ⟨L,hnd,λi hi=>by have:=bG.1 hlt i hi; simpa using this,by simp,hn,r,hs,qW he,.inl hb,hl,hq⟩
theorem RetR.keep{ctr:Ctr}{m:Nat}{Q:AV×Heap->Prop}{rs:List AV}{h:Heap}{r:AV}{hs:Heap}(L:List Nat)(hnd:jY L=true)(hlt:(L.all λi=>decide (i<h.length))=true)(hj:∀ j,j<m->L[j]?=some j)(hf:ctr.fresh=false)(hq:Q (r,hs))
  (he:eqA2 (exp2 h L (resV rs)) r) (hb:eqH (expH h L) hs) (hl:hs.length=L.length):RetR ctr m Q rs h:=
 ⟨L,hnd,λi hi=>by have:=bG.1 hlt i hi; simpa using this,hj,(λhh=>absurd hh (by rw [hf]; decide)),r,hs,qW he,.inl hb,hl,hq⟩
end
end Go.Sx
end
section
set_option maxRecDepth 100000
open Go Go.Sx Go.Proofs Go.Nov
namespace Go.Proofs.Tryz
attribute [local simp] eqKV eqA eqA0 eqH eqB eqL eqL0
noncomputable def K59:=Go.Sx.aA f59
def exD(x:Ex):AV:=.agg [.int .u8 x.kind,.str x.rat,.str x.name,.i x.date,.sl x.sub.length 5 x.deep]
def za3(n:Nat):Ctr:=ctrP false (λx:Ex=>[x.exA]) (λx=>x.size<n/\x.size<2^40) (λ_ (_:Unit)=>True) (λx _=>(exD x,[]))
theorem zjr{s:List Ex}{i:Nat} : eqG (i+1) 5 (appG i (Ex.exG s) (zg (zi 5 [.int .u8 (s.getD i Ex.nil).kind,.str (s.getD i Ex.nil).rat,.str (s.getD i Ex.nil).name,.i (s.getD i Ex.nil).date,.sl (s.getD i Ex.nil).sub.length 5 (s.getD i Ex.nil).deep]) 0)) (Ex.exG s):=by
 intro j o hj ho;simp only [appG,zg,zi];by_cases h:j<i
 ·rw [aP h]
 ·have:j=i:=by omega
  subst this;rw [aO h];have e:j - j=0:=by omega
  match o,ho with
  | 0,_=>simp [e,Ex.exG,Ex.cell]
  | 1,_=>simp [e,Ex.exG,Ex.cell]
  | 2,_=>simp [e,Ex.exG,Ex.cell]
  | 3,_=>simp [e,Ex.exG,Ex.cell]
  | 4,_=>simp [e,Ex.exG,Ex.cell]
def STw(s:List Ex)(i:Nat):KV:=[(1,.ptr 0 0),(2,.ptr 1 0),(3,.osl 2 5 0 i),(7,Ex.exS s),(8,.i (s.length:Int)),(9,.i (i:Int))]
def HTw(x:Ex)(i:Nat):Heap:=[.box [.int .u8 x.kind,.str x.rat,.str x.name,.i x.date,Ex.exS x.sub],.box [.int .u8 0,.str [],.str [],.i 0,.nils],.arr i 5 (Ex.exG x.sub)]
def RTw(x:Ex):List AV:=[.agg [.int .u8 x.kind,.str x.rat,.str x.name,.i x.date,.osl 2 5 0 x.sub.length]]
def HTw2(x:Ex):Heap:=[.box [.int .u8 x.kind,.str x.rat,.str x.name,.i x.date,.osl 2 5 0 x.sub.length],.box [.int .u8 x.kind,.str x.rat,.str x.name,.i x.date,.osl 2 5 0 x.sub.length],.arr x.sub.length 5 (Ex.exG x.sub)]
theorem zl8(n:Nat)(ih:zf prog 59 (za3 n)){O:Nat->Prop}{w0:World}{C:Ctr}{Q:AV×Heap->Prop}(x:Ex)(h1:x.size<n+1)(h2:x.size<2^40)(hR:RetR C 0 Q (RTw x) (HTw2 x)) :
  zc prog f59 O 0 w0 [] (λ_ _ _=>False) (RetR C 0 Q) K59 (entry f59 [x.exA]):=by
 rw [Ex.size_eq] at h1 h2;have hlen:=Ex.qt x.sub;refine zc.n (wM ih) [1,2,3,7,8,9] (.leaf (.loop (lps K59 0).1 (lps K59 0).2 [(1,.ptr 0 0),(2,.ptr 1 0),(3,.nils),(7,.sl x.sub.length 5 (Ex.exG x.sub)),(8,.i x.sub.length),(9,.i 0)] [.box [.int .u8 x.kind,.str x.rat,.str x.name,.i x.date,.sl x.sub.length 5 (Ex.exG x.sub)],.box [.int .u8 0,.str #[].toList,.str #[].toList,.i 0,.nils]])) ?_;simp only [Tree.holds,zd,inR,lo,hi,aD];refine zc.bear 3 5 (Ex.exG x.sub) rfl (by decide) (by kernel_rfl) ?_;refine zc.loop (ι:={i:Nat // i<=x.sub.length}) (λi=>STw x.sub i.1) (λi=>HTw x i.1) (λi=>x.sub.length - i.1) ⟨0,aI _⟩ 0 ?_ ?_ (by kernel_rfl)
 ·exact⟨by simp [STw,yR,Ex.exS,za],by simp [HTw,Ex.exS,za],by kernel_rfl,aI _⟩
 ·rintro⟨i,hil⟩;refine zc.n (wM ih) [1,2,3,7,8,9] (let v4:=Ex.exG x.sub;let v2:List AV:=[.int .u8 x.kind,.str x.rat,.str x.name,.i x.date,.osl 2 5 0 i];let v1:=List.getD x.sub (i:Int).toNat Ex.nil;.D ((i:Int)<x.sub.length) (.side ((0:Int)<=i/\(i:Int)<x.sub.length) (.ex (λ(x_1:Ex)=>eqL [.agg [.int .u8 (Ex.kind v1),.str (Ex.rat v1),.str (Ex.name v1),.i (Ex.date v1),.sl (List.length (Ex.sub v1)) 5 (Ex.deep v1)]] [.agg [.int .u8 x_1.kind,.str x_1.rat,.str x_1.name,.i x_1.date,.sl x_1.sub.length 5 (Ex.exG x_1.sub)]]/\Ex.size x_1<n/\Ex.size x_1<1099511627776) λn=>let v3:=zi 5 [.int .u8 n.kind,.str n.rat,.str n.name,.i n.date,.sl n.sub.length 5 n.deep];.A λn_1=>.side (0=0/\i<=i/\(i+1)*72<=140737488355328) (.S (i+1) (.leaf (.back 0 [(1,.ptr 0 0),(2,.ptr 1 0),(3,.osl 2 5 0 (i+1)),(7,.sl x.sub.length 5 v4),(8,.i x.sub.length),(9,.i (i+1))] [.box [.int .u8 x.kind,.str x.rat,.str x.name,.i x.date,.sl x.sub.length 5 v4],.box [.int .u8 0,.str [],.str [],.i 0,.nils],.arr (i+1) 5 (appG i v4 (zg v3 0)),.box [.int .u8 (Ex.kind v1),.str (Ex.rat v1),.str (Ex.name v1),.i (Ex.date v1),.sl (List.length (Ex.sub v1)) 5 (Ex.deep v1)],.arr 1 5 v3]))))) (.R [.agg v2] [.box v2,.box v2,.arr i 5 v4])) ?_;simp only [Tree.holds,zd,inR,lo,hi,aD];refine⟨λhlt=> ?_,λhge=> ?_⟩
  ·have hlt:i<x.sub.length:=by have:=aB hlt; omega
   have hg:=Ex.qb hlt;refine⟨by omega,λ_=>⟨x.sub.getD i Ex.nil,⟨uG rfl rfl rfl rfl rfl (Ex.qp _),by omega,by omega⟩,⟨(),trivial⟩,?_⟩⟩;intro _ _;refine⟨⟨trivial,aJ _,by omega⟩,λ_=>⟨by omega,λ_=> ?_⟩⟩;rw [aP trivial];refine⟨⟨i+1,hlt⟩,by show x.sub.length - (i+1)<x.sub.length - i; omega,by simp [STw,Ex.exS,za],?_,by kernel_rfl,aI _⟩;exact⟨⟨⟨rfl,rfl⟩,rfl,rfl,⟨rfl,rfl⟩,⟨rfl,rfl,za _ _ _⟩,trivial⟩,⟨⟨rfl,rfl⟩,rfl,rfl,⟨rfl,rfl⟩,by simp,trivial⟩,⟨rfl,rfl,zjr⟩,trivial⟩
  ·have hge:i=x.sub.length:=by have:=aC hge; omega
   subst hge;exact hR
theorem zih{C:Ctr}{Q:AV×Heap->Prop}{x:Ex}{h:Heap}{b:Nat}(hC:C.fresh=false)(hb:h[b]?=some (.arr x.sub.length 5 (Ex.exG x.sub)))(hq:Q (exD x,[])):RetR C 0 Q [.agg [.int .u8 x.kind,.str x.rat,.str x.name,.i x.date,.osl b 5 0 x.sub.length]] h:=by
 refine RetR.out0 hq (λh=>by rw [hC] at h; cases h) ?_;simp only [resV,exp2,exp1,List.map_cons,List.map_nil,exp0,ren0,zG,frz1,wg,hb,eqA2,eqA,eqL0,eqA0,exD,true_and,and_true];simp only [if_true];refine⟨trivial,trivial,λj o hj ho=> ?_⟩;have:=Ex.qp x j o hj ho;simpa [zg] using this.symm
theorem zfw(n:Nat)(ih:zf prog 59 (za3 n)):zf prog 59 (za3 (n+1)):=by
 refine zh' f59 λx hx O w0 Q hq=> ?_
 exact zl8 n ih x hx.1 hx.2 (zih rfl rfl (hq () trivial))
theorem zhc:zf prog 59 (ctrP false (λx:Ex=>[x.exA]) (λx=>x.size<2^40) (λ_ (_:Unit)=>True) (λx _=>(exD x,[]))):=jB Ex.size zfw
def zgf:Ctr:=ctrP false (λx:Ex=>[x.exA]) (λx=>x.size<2^40) (λ_ (_:Unit)=>True) (λx _=>(exD x,[]))
noncomputable def K61:=Go.Sx.aA f61
def zbb:Ctr:=ctrP true (λx:Ex=>[x.exA]) (λ_=>True) (λx r=>r=ja x) (λ_ (r:Bool)=>(.bool r,[]))
theorem KP:zf prog 95 zbb:=by
 refine zh' f95 λx hx O w0 Q hq=> ?_
 replace hq:=hq _ rfl;obtain⟨k,r,m,d,s⟩:=x;refine zc.n zH [] (let v1:=Ex.mk k r m d s;.R [.bool (bif bif bif bif decide (Ex.kind v1=(0:Int)) then decide (Ex.rat v1=#[].toList) else false then decide (Ex.name v1=#[].toList) else false then decide (Ex.date v1=(0:Int)) else false then decide ((↑(List.length (Ex.sub v1)):Int)=0) else false)] [.box [.int .u8 (Ex.kind v1),.str (Ex.rat v1),.str (Ex.name v1),.i (Ex.date v1),.sl (List.length (Ex.sub v1)) 5 (Ex.exG (Ex.sub v1))]]) ?_;simp only [Tree.holds,zd];refine RetR.scal hq rfl ?_;refine congrArg AV.bool ?_;rw [Bool.eq_iff_iff];simp [ja,Ex.kind,Ex.rat,Ex.name,Ex.date,Ex.sub,and_assoc]
def zak:Ctr:=ctrT false false (λc:Con=>[c.conA]) (λ_=>[]) (λ_=>True) (λ_ (_:Unit)=>True) (λc _=>(.fn 98 [] [.ptr 0 0],[.box (Con.qQ c.kind c.src c.dst c.name c.x c.date c.days c.sub)]))
theorem X4:zf prog 63 zak:=by
 refine zP (fn:=f63) (c:=f63.body.getD .skip) rfl rfl rfl (λh=>by cases h) λc hp O w0 I0 Q hl hq=> ?_
 have h0:I0=[]:=aU.1 (by simpa using hl);subst h0;refine zc.n zH [0] (.R [.fn 98 [] [.ptr 0 0]] [.box (Con.ze c)]) ?_;simp only [Tree.holds,zd];refine RetR.out1 0 (by simp) (hq () trivial) (λh=>by cases h) (by simp [resV,exp2,exp1,exp0,zG,ren0,eqA2]) ?_;simp only [Con.qQ,expB,exp1,List.map_cons,List.map_nil,exp0,Ex.exS,Con.dayS,Con.conS];exact⟨⟨rfl,rfl⟩,rfl,rfl,rfl,⟨rfl,rfl⟩,rfl,rfl,⟨rfl,rfl⟩,⟨rfl,rfl,za _ _ _⟩,⟨rfl,rfl⟩,⟨rfl,rfl,za _ _ _⟩,⟨rfl,rfl,za _ _ _⟩,trivial⟩
noncomputable def GZ1:=tb KP (tb zcy (tb X4 tz))
def zhk:Ctr:=ctrP true (λc:Con=>[c.conA]) (λc=>c.big<2^40/\c.nodes<=1000000) (λc r=>r=c.size) (λ_ (r:Nat)=>(.i (r:Int),[]))
theorem qx(c:Con):eqA c.conA c.conA:=by
 simp only [Con.conA,Ex.exS,Con.dayS,Con.conS,eqA];exact⟨⟨rfl,rfl⟩,rfl,rfl,rfl,⟨rfl,rfl⟩,rfl,rfl,⟨rfl,rfl⟩,⟨rfl,rfl,za _ _ _⟩,⟨rfl,rfl⟩,⟨rfl,rfl,za _ _ _⟩,⟨rfl,rfl,za _ _ _⟩,trivial⟩
theorem y9{own:Nat->Prop}{w:World}{σ:List SE} : ∀ {l:List AV} {vs:List Value},l.all kb=true->RepL own w l σ vs->RepL own w l [] vs
 | [],vs,_,h=>h
 | a::l,vs,hf,h=>by
  simp only [List.all_cons,bA] at hf;simp only [RepL] at h ⊢;obtain⟨v,r,rfl,h1,h2⟩:=h;exact⟨v,r,rfl,yn hf.1 h1,y9 hf.2 h2⟩
theorem zs8{O:Nat->Prop}{pin:Nat}{w0 w:World}{I0 σ:List SE}{st:St}{a:Act}(hm:Mod O pin w0 I0 w σ st a):∀ b,Go.Sx.Own O σ b->b<w.heap.size:=by
 rintro b (hO | ⟨e,he,ad,h1,rfl⟩)
 ·exact hm.good.old b hO
 ·obtain⟨j,hj⟩:=List.getElem?_of_mem he;exact hm.hp.lt j e ad hj h1
theorem zE(c:Con):eqL c.ze c.ze:=by
 simp only [Con.ze,Con.qQ,Ex.exS,Con.dayS,Con.conS];exact⟨⟨rfl,rfl⟩,rfl,rfl,rfl,⟨rfl,rfl⟩,rfl,rfl,⟨rfl,rfl⟩,⟨rfl,rfl,za _ _ _⟩,⟨rfl,rfl⟩,⟨rfl,rfl,za _ _ _⟩,⟨rfl,rfl,za _ _ _⟩,trivial⟩
theorem jy(x:Ex):eqA x.exA x.exA:=by
 simp only [Ex.exA,Ex.exS,eqA];exact⟨⟨rfl,rfl⟩,rfl,rfl,⟨rfl,rfl⟩,⟨rfl,rfl,za _ _ _⟩,trivial⟩
theorem J0{O:Nat->Prop}{pin:Nat}{w0 w:World}{I0 σ:List SE}{st:St}{a:Act}(hm:Mod O pin w0 I0 w σ st a){i:Nat}{c:Con}(hb:st.heap[i]?=some (.box c.ze))(hn:c.nodes<=1000000){vb:List Value}(hv:RepL (Go.Sx.Own O σ) w [.ptr i 0] σ vb) :
  ∃ ev:Nat->Value,SeqStopsK Fence.wide 0 prog 98 vb.toArray (λx=> #[ev x]) (zO (Go.Sx.Own O σ)) (λxs=>xs=List.range c.all.length) (λpre=>pre <+: List.range c.all.length) c.all.length w/\∀ i,Rep (Go.Sx.Own O σ) w (c.all.getD i c).conA [] (ev i):=by
 simp only [RepL,Rep] at hv;obtain⟨v,r,rfl,⟨e,ad,he,had,rfl⟩,rfl⟩:=hv;obtain⟨ad',vs,el,g1,g2,g3,g4⟩:=hm.hp.blk i e _ he hb;rw [had] at g1; cases g1
 have hr:Rep (Go.Sx.Own O σ) w c.conA [] (.agg vs.toArray):=by
  simp only [Con.conA];rw [Rep];exact⟨vs,rfl,y9 rfl g4⟩
 have:=XE g3 hr hn (zs8 hm);rw [g2];exact this
def HCs(c:Con)(m:Nat):Heap:=[.box c.ze,.box [.i (m:Int)],.box c.ze]
abbrev q26(A:List AV)(x:Ex):Prop:=eqL A [x.exA]/\Ex.size x<4611686018427387904
abbrev q25(A:List AV)(x:Ex):Prop:=eqL A [x.exA]/\True
theorem zld:zf prog 61 zhk:=by
 refine zh' f61 λc hc O w0 Q hq=> ?_
 obtain⟨h1,h2⟩:=hc;replace hq:=hq _ rfl;refine zc.n GZ1.h [2,3,6,7] (.ex (λ(x:Con)=>eqL [(Con.conA c)] [(Con.conA x)]/\eqH [] []/\0=0/\True) λn=>.A λn_1=>.leaf (.range (Prod.fst (rfs K61 0)) (Prod.snd (rfs K61 0)) [(2,.i 0),(3,.ptr 1 0),(6,.fn 98 [] [.ptr 2 0]),Z 7] [.box (Con.ze c),.box [.i 0],.box (Con.ze n)])) ?_;simp only [Tree.holds,zd];refine⟨c,⟨⟨qx c,trivial⟩,trivial,trivial,trivial⟩,⟨(),trivial⟩,λ_ _=> ?_⟩
 refine zc.zj3 (tg:=6) (tp:=7) (td:=4) (t:=38) (n:=12) (zs:=[.int .u8 0,.str [],.str [],.str [],.int .u8 0,.str [],.str [],.i 0,.nils,.i 0,.nils,.nils]) (cap:=[.ptr 2 0]) (gf:=98) (by kernel_rfl) (by kernel_rfl) (by kernel_rfl) rfl (enters_of Tryz.func98 (by kernel_rfl) rfl) (λi:Nat=>(c.all.getD i c).conA) (λi=>(c.all.getD i c).ze) (λi=>⟨rfl,rfl,rfl,rfl⟩) (λpre=>HCs c (pre.map λi=>(c.all.getD i c).wt).sum) (λ_=>[]) (λ_=>False) (λxs=>xs=List.range c.all.length) (λpre=>pre <+: List.range c.all.length) c.all.length 3
  (by kernel_rfl) (by decide +kernel) (by decide +kernel) (by decide +kernel) (by decide) ⟨by simp,⟨zE c,⟨⟨rfl,rfl⟩,trivial⟩,zE c,trivial⟩,by kernel_rfl,aI _⟩ (by kernel_rfl) (aI _) (λpre=>rfl) (λpre=>by simp [HCs,alive]) (λpre b hb=>by cases hb) ?_ ?_ ?_ (λ_ _ h=>h.elim)
 ·intro w σ a hm vb hvb;exact J0 hm (i:=2) rfl h2 hvb
 ·intro l pre i hlen W E1
  have hwt:(c.all.getD i c).big<=c.big:=by
   by_cases hi:i<c.all.length
   ·exact Con.QN c _ (by simp [List.getD,hi])
   ·simp [List.getD,hi]
  have hm:(pre.map λi=>(c.all.getD i c).wt).sum<=pre.length*2^40:=by
   have hall:∀ j,(c.all.getD j c).wt<=2^40:=λj=>by
    have h1':=Con.Jt (c.all.getD j c).x
    have h2':(c.all.getD j c).big<=c.big:=by
     by_cases hi:j<c.all.length
     ·exact Con.QN c _ (by simp [List.getD,hi])
     ·simp [List.getD,hi]
    rw [Con.xg] at h2';have:(c.all.getD j c).wt=1+wB (c.all.getD j c).x:=rfl;omega
   clear hlen
   induction pre with
   | nil=>simp
   | cons j pre ih=>
    have:=hall j;simp only [List.map_cons,List.sum_cons,aL];omega
  rw [List.map_append,List.sum_append];simp only [List.map_cons,List.map_nil,List.sum_cons,List.sum_nil,Nat.add_zero];rw [Con.Xf] at hlen;have hml:(pre.map λi=>(c.all.getD i c).wt).sum<=1000000*2^40:=bP hm (aT _ (by omega));generalize (pre.map λi=>(c.all.getD i c).wt).sum=m at hml;generalize c.all.getD i c=e at hwt;rw [Con.xg e] at hwt;refine zc.n GZ1.h [3,6,7] (let v1:List (Nat×AV):=[(3,.ptr 1 0),(6,.fn 98 [] [.ptr 2 0]),(7,(Con.conA e))];.S (m+1) (.ex (q25 [(Ex.exA e.x)]) λn=>.all (λ(r:Bool)=>r=ja n) λn=>.ite (!n) (.ex (q26 [(Ex.exA e.x)]) λn=>.all (λ(r:Nat)=>r=Ex.size n) λn=>.S ((m:Int)+(1:Int)+n) (.leaf (.back 0 v1 [.box (Con.ze c),.box [.i ((m:Int)+(1:Int)+n)],.box (Con.ze c)]))) (.leaf (.back 0 v1 [.box (Con.ze c),.box [.i (m+1)],.box (Con.ze c)])))) ?_;simp only [q25,q26,Tree.holds,zd,inR,lo,hi,aD];have hsx:e.wt=1+wB e.x:=rfl;refine⟨by omega,λ_=>⟨e.x,⟨⟨jy e.x,trivial⟩,trivial⟩,⟨_,rfl⟩,?_⟩⟩;rintro _ rfl;refine⟨λhb=>⟨e.x,⟨⟨jy e.x,trivial⟩,by show e.x.size<_; omega⟩,⟨_,rfl⟩,?_⟩,λhb=> ?_⟩
  ·rintro _ rfl;refine⟨by omega,λ_=>⟨trivial,⟨zE c,⟨⟨rfl,?_⟩,trivial⟩,zE c,trivial⟩,by kernel_rfl,aJ _⟩⟩;have:wB e.x=e.x.size:=by unfold wB; rw [show ja e.x=false by simpa using hb]; rfl
   omega
  ·refine⟨trivial,⟨zE c,⟨⟨rfl,?_⟩,trivial⟩,zE c,trivial⟩,by kernel_rfl,aJ _⟩;have:wB e.x=0:=by unfold wB; rw [show ja e.x=true by simpa using hb]; rfl
   omega
 ·intro xs hxs;subst hxs
  have hsum:((List.range c.all.length).map λi=>(c.all.getD i c).wt).sum=c.size:=by
   rw [Con.Wo];congr 1;apply List.ext_getElem (by simp);intro i h1 h2;simp at h1;simp [List.getD,h1]
  rw [hsum];generalize c.size=m at hq;refine zc.n GZ1.h [2,3,6,7] (.R [.i m] [.box (Con.ze c),.box [.i m],.box (Con.ze c)]) ?_;simp only [Tree.holds,zd];exact RetR.scal hq rfl rfl
end Go.Proofs.Tryz
end
section
namespace Go.Nov
def sumS(m:Bool)(x:Nat)(n:Bool)(y:Nat):Bool×Nat:=if m=n then(m,x+y) else if y<=x then(m,x - y) else(n,y - x)
def addI(s t:L8):L8×Int:=if z8 s t=0 then wr (sumS (negI s) (numI s) (negI t) (numI t)).1 (sumS (negI s) (numI s) (negI t) (numI t)).2 else([],z8 s t)
def subI(s t:L8):L8×Int:=if z8 s t=0 then wr (sumS (negI s) (numI s) (!negI t) (numI t)).1 (sumS (negI s) (numI s) (!negI t) (numI t)).2 else([],z8 s t)
def mulI(s t:L8):L8×Int:=if z8 s t=0 then wr (negI s != negI t) (numI s*numI t) else([],z8 s t)
def cmpZ(m:Bool)(x:Nat)(n:Bool)(y:Nat):Int:=if m=true/\n=false then -1 else if n=true/\m=false then 1 else if m=true then cmpN y x else cmpN x y
def VR(s t:L8):Int×Int:=if z8 s t=0 then(cmpZ (negI s) (numI s) (negI t) (numI t),0) else(0,z8 s t)
theorem QB{d:Nat}(h:d<10):(byt d).toNat=48+d:=by
 unfold byt;rw [UInt8.toNat_ofNat'];omega
theorem uI{x:Nat}(h:x≠0):txt x=((dec x).map byt).reverse:=aO h
theorem QR{x:Nat}(h:x≠0):(txt x).length=(dec x).length:=by rw [uI h]; simp
theorem zd7{x:Nat}(h:x≠0):allD (txt x):=by
 intro c hc;rw [uI h] at hc;simp only [List.mem_reverse,List.mem_map] at hc;obtain⟨d,hd,rfl⟩:=hc;have:d<10:=Ten.zj x d hd;rw [QB this];omega
theorem zre{x:Nat}(h:x≠0):dg (txt x)=dec x:=by
 rw [uI h,dg,List.map_reverse,List.reverse_reverse,List.map_map]
 conv=>rhs; rw [<- List.map_id (dec x)]
 refine List.map_congr_left λd hd=> ?_
 have:d<10:=Ten.zj x d hd;simp only [Function.comp,QB this,id];omega
theorem znp{x:Nat}(h:x≠0):numD (txt x)=x:=by
 rw [<- za2,zre h];exact Ten.zl x
theorem yA{x:Nat}(h:x≠0):(txt x).getD 0 0≠48/\(txt x).getD 0 0≠45:=by
 have hl:=Xd h;have ht:=zcq hl;have hlt:=dec_lt x ((dec x).length - 1)
 have e:(txt x).getD 0 0=byt ((dec x).getD ((dec x).length - 1) 0):=by
  rw [uI h];simp only [List.getD_eq_getElem?_getD];rw [List.getElem?_reverse (by simpa using hl)];simp [aF (show(dec x).length - 1<(dec x).length by omega)]
 rw [e];have hb:=QB hlt;constructor
 ·intro h2;rw [h2] at hb;have:(48:UInt8).toNat=48:=rfl;omega
 ·intro h2;rw [h2] at hb;have:(45:UInt8).toNat=45:=rfl;omega
theorem K6{x:Nat}(h:x≠0):txt x≠[]:=by
 intro h2;have:=QR h;rw [h2] at this;have:=Xd h;simp at *; omega
theorem zej{x:Nat}(h:x≠0)(neg:Bool):parse (sgn neg (txt x))=(neg,txt x):=by
 cases neg with
 | true=>rfl
 | false=>
  simp only [sgn,Bool.false_eq_true,if_false];have h1:=(yA h).2;cases ht:txt x with
  | nil=>exact absurd ht (K6 h)
  | cons c b=>
   rw [ht] at h1;have:c≠45:=h1;simp [parse,this]
theorem zj8{x:Nat}(h:x≠0)(neg:Bool):wF neg (txt x)=true:=by
 have h1:=(yA h).1
 have h2:txt x≠[48]:=by
  intro h2;rw [h2] at h1;exact h1 rfl
 have h3:=K6 h;have h4:(txt x).all isD=true:=zcs.2 (zd7 h);simp only [List.getD_eq_getElem?_getD] at h1;simp [wF,h3,h2,h1,h4]
theorem Qt{neg:Bool}{x:Nat}(h:(wr neg x).2=0):errI (wr neg x).1=0/\numI (wr neg x).1=x/\negI (wr neg x).1=(neg&&decide (x≠0)):=by
 unfold wr at h ⊢;by_cases h0:x=0
 ·subst h0;simp only [if_true];refine⟨rfl,rfl,?_⟩;simp [negI,parse]
 ·rw [aO h0] at h ⊢;by_cases h1:1000<(dec x).length
  ·rw [aP h1] at h; cases h
  ·rw [aO h1];simp only [errI,numI,negI,zej h0,zj8 h0,if_true];rw [QR h0,aO h1];exact⟨rfl,znp h0,by simp [h0]⟩
theorem zap(neg:Bool)(x:Nat):(wr neg x).2=0\/wr neg x=([],14):=by
 unfold wr;split
 ·exact .inl rfl
 ·split
  ·exact .inr rfl
  ·exact .inl rfl
theorem znd(neg:Bool)(b:L8):(sgn neg b).length<=b.length+1:=by
 unfold sgn; split<;>simp
theorem xr(neg:Bool)(x:Nat):(wr neg x).1.length<=1001:=by
 unfold wr;split
 ·simp
 ·rename_i h0;split
  ·simp
  ·rename_i h1;have:=znd neg (txt x);rw [QR h0] at this;simp only;omega
theorem zie(s t:L8):(addI s t).1.length<=1001:=by
 unfold addI;split
 ·exact xr _ _
 ·simp
theorem zi7(s t:L8):(subI s t).1.length<=1001:=by
 unfold subI;split
 ·exact xr _ _
 ·simp
theorem zlf(s t:L8):(mulI s t).1.length<=1001:=by
 unfold mulI;split
 ·exact xr _ _
 ·simp
theorem zbs(b:Bool)(x:Nat):wr (b&&decide (0<x)) x=wr b x:=by
 unfold wr;by_cases h:x=0
 ·rw [aP h,aP h]
 ·rw [aO h,aO h];have:decide (0<x)=true:=aX (bX h);rw [this,Bool.and_true]
theorem Vw(m:Bool)(x:Nat)(n:Bool):sumS m x n 0=(m,x):=by
 unfold sumS;split
 ·rfl
 ·simp
theorem zee(m:Bool)(x:Nat)(n:Bool)(y:Nat):sumS m x (n&&decide (0<y)) y=sumS m x n y:=by
 by_cases h:y=0
 ·subst h; rw [Vw,Vw]
 ·have:decide (0<y)=true:=aX (bX h);rw [this,Bool.and_true]
theorem zbl(m:Bool)(x:Nat)(n:Bool)(y:Nat):(sumS m x n y).2<=x+y:=by
 unfold sumS;split
 ·exact aJ _
 ·split
  ·simp only; omega
  ·simp only; omega
end Go.Nov
end
section
namespace Go.Nov
def zcg(neg:Bool)(x y:Nat):L8:=
 if y/Nat.gcd x y=1 then(wr neg (x/Nat.gcd x y)).1 else(wr neg (x/Nat.gcd x y)).1++[47]++(wr false (y/Nat.gcd x y)).1
def wI(n d:L8):L8×Int:=if z8 n d≠0 then([],z8 n d) else if numI d=0 then([],16) else(zcg (negI n != negI d) (numI n) (numI d),0)
def w6(a b:L8):Int:=if errR a=0 then errR b else errR a
def numR(a:L8):L8:=(cutR a).1
def denR(a:L8):L8:=if(cutR a).2.2 then(cutR a).2.1 else [49]
def frac(z w:L8×Int):L8×Int:=if z.2≠0\/w.2≠0 then([],14) else wI z.1 w.1
def qq(a b:L8):Int:=if w6 a b≠0 then w6 a b else if(mulI (numR a) (denR b)).2≠0\/(mulI (numR b) (denR a)).2≠0 then 14 else 0
def addR(a b:L8):L8×Int:=if qq a b≠0 then([],qq a b) else frac (addI (mulI (numR a) (denR b)).1 (mulI (numR b) (denR a)).1) (mulI (denR a) (denR b))
def subR(a b:L8):L8×Int:=if qq a b≠0 then([],qq a b) else frac (subI (mulI (numR a) (denR b)).1 (mulI (numR b) (denR a)).1) (mulI (denR a) (denR b))
def mulR(a b:L8):L8×Int:=if w6 a b≠0 then([],w6 a b) else frac (mulI (numR a) (numR b)) (mulI (denR a) (denR b))
def cmpR(a b:L8):Int×Int:=if qq a b≠0 then(0,qq a b) else VR (mulI (numR a) (denR b)).1 (mulI (numR b) (denR a)).1
end Go.Nov
namespace Go.Nov
def dmQ(s t:L8):Nat:=if negI s=true/\0<numI s%numI t then numI s/numI t+1 else numI s/numI t
def dmM(s t:L8):Nat:=if negI s=true/\0<numI s%numI t then numI t - numI s%numI t else numI s%numI t
def dmI(s t:L8):L8×L8×Int:=
 if z8 s t≠0 then([],[],z8 s t) else if numI t=0 then([],[],16) else((wr (negI s != negI t) (dmQ s t)).1,(wr false (dmM s t)).1,0)
theorem zm0{s:L8}(h:errI s=0):∃ k,k<=1000/\numI s<10^k:=by
 obtain⟨_,h1,_,h2⟩:=Jn h;exact⟨_,h2,uW h1⟩
def room(x:Nat):Prop:=(dec x).length<=1000
theorem room_le{x y:Nat}(h:x<=y)(hy:room y):room x:=by
 rcases aR (dec y).length (dec x).length with h1 | h1
 ·have:=Ten.qj h1;omega
 ·exact bP h1 hy
theorem jS{s:L8}(h:errI s=0):room (numI s):=by
 obtain⟨k,h1,h2⟩:=zm0 h;exact bP (QX h2) h1
theorem kJ{neg:Bool}{x:Nat}(h:room x):(wr neg x).2=0:=by
 unfold wr;split
 ·rfl
 ·rw [aO (by have:(dec x).length<=1000:=h; omega)]
theorem zis{s t:L8}(hs:errI s=0)(ht:numI t≠0):room (dmQ s t):=by
 have h:=jS hs;unfold dmQ;split
 ·rename_i hc;by_cases h1:numI t=1
  ·rw [h1,Nat.mod_one] at hc; omega
  ·refine room_le ?_ h;have h2:numI s/numI t<=numI s/2:=Nat.div_le_div_left (by omega) (by omega);have h3:numI s≠0:=λh0=>by rw [h0,Nat.zero_mod] at hc; omega
   by_cases h4:numI s=1
   ·have:numI s/numI t=0:=Nat.div_eq_of_lt (by omega);omega
   ·omega
 ·exact room_le (Nat.div_le_self _ _) h
theorem zku{s t:L8}(ht:errI t=0)(h0:numI t≠0):room (dmM s t):=by
 have h:=jS ht;have hm:=Nat.mod_lt (numI s) (bX h0);unfold dmM;split
 ·exact room_le (Nat.sub_le _ _) h
 ·exact room_le (by omega) h
end Go.Nov
namespace Go.Nov
theorem xh:wr false 1=([49],0):=by
 have h:dec 1=[1]:=by
  show Ten.canon 1=[1];rw [Ten.jo (by decide)];exact congrArg (1 :: ·) Ten.zS
 simp [wr,h,txt,sgn,byt]
theorem zac{x:Nat}(h:room x):(wr false x).1=[49]↔x=1:=by
 constructor
 ·intro e;have:=(Qt (kJ (neg:=false) h)).2.1;rw [e] at this;exact this.symm
 ·rintro rfl;rw [xh]
theorem zix{x:Nat}(h0:x≠0)(h:room x):[45]++(wr false x).1=(wr true x).1:=by
 unfold wr;rw [aO h0,aO h0,aO (by have:(dec x).length<=1000:=h; omega),aO (by have:(dec x).length<=1000:=h; omega)];rfl
theorem uU{t:L8}(h:errI t=0):t=[48]↔numI t=0:=by
 constructor
 ·rintro rfl; rfl
 ·intro h0;obtain⟨neg,b,h1,h2,h3,h4,h5,h6⟩:=KW h;have hb:numD b=0:=by simpa [numI,h2] using h0
  cases b with
  | nil=>exact absurd rfl h5
  | cons c r=>
   have hc:=h4 c (by simp)
   have e:numD (c::r)=(c.toNat - 48)*10^r.length+numD r:=by
    have:=kB [c] r;simp only [List.singleton_append] at this;rw [this];simp [numD]
   rw [e] at hb
   have hc0:c.toNat=48:=by
    rcases bC (c.toNat - 48) with h7 | h7
    ·omega
    ·have:=Nat.mul_pos h7 (Nat.pow_pos (n:=r.length) (show 0<10 by decide));omega
   have hc1:c=48:=UInt8.toNat_inj.1 (by rw [hc0]; rfl);subst hc1
   have hr:r=[]:=by
    cases r with
    | nil=>rfl
    | cons d r=>
     have:=xq (neg:=neg) (b:=48::d::r) rfl (by simp);rw [this] at h3; cases h3
   subst hr;cases neg with
   | true=>cases h3
   | false=>simpa [sgn] using h1
theorem Yl{s:L8}{b:Bool}{g:Nat}(hs:errI s=0)(h0:g≠0)(hg:room g)(hd:g ∣ numI s):dmI s (wr b g).1=((wr (negI s != b) (numI s/g)).1,[48],0):=by
 obtain⟨h1,h2,h3⟩:=Qt (kJ (neg:=b) hg);have hb:negI (wr b g).1=b:=by rw [h3]; simp [h0]
 have he:z8 s (wr b g).1=0:=zq.2 ⟨hs,h1⟩;have hm:numI s%g=0:=Nat.mod_eq_zero_of_dvd hd;unfold dmI;rw [aO (by rw [he]; decide),h2,aO h0,hb]
 have hq:dmQ s (wr b g).1=numI s/g:=by
  unfold dmQ;rw [h2,hm,aO (by omega)]
 have hr:dmM s (wr b g).1=0:=by
  unfold dmM;rw [h2,hm,aO (by omega)]
 rw [hq,hr];rfl
theorem YH{s t:L8}(ht:errI t=0)(h0:numI t≠0):Nat.gcd (numI s) (numI t)≠0/\room (Nat.gcd (numI s) (numI t)):=by
 have hp:=bX h0;refine⟨λh=> ?_,room_le (Nat.le_of_dvd hp (Nat.gcd_dvd_right _ _)) (jS ht)⟩;have:=Nat.eq_zero_of_gcd_eq_zero_right h;exact h0 this
end Go.Nov
namespace Go.Nov
theorem zhy:errI [49]=0:=rfl
theorem qU{a:L8}(h:errR a=0):errI (numR a)=0/\errI (denR a)=0/\negI (denR a)=false/\numI (denR a)≠0:=by
 unfold errR at h;unfold numR denR;cases hc:(cutR a).2.2 with
 | true=>
  rw [hc] at h;simp only [if_true] at h ⊢;split at h
  ·cases h
  ·rename_i h1;simp only [not_or] at h1;split at h
   ·cases h
   ·rename_i h2;simp only [not_or,Classical.not_not] at h2;refine⟨h2.1,h2.2,by simpa using h1.2.2.1,λh0=> ?_⟩;exact h1.2.2.2.1 ((uU h2.2).2 h0)
 | false=>
  rw [hc] at h;simp only [Bool.false_eq_true,if_false] at h ⊢
  have:(cutR a).1=a:=by
   unfold cutR at hc ⊢;split at hc
   ·cases hc
   ·rename_i hn; rw [aO hn]
  rw [this];exact⟨h,zhy,rfl,by decide⟩
theorem Yw(a:L8):(numR a).length<=a.length:=(KZ a).1
theorem Ys(a:L8):(denR a).length<=a.length+1:=by
 unfold denR;split
 ·exact bP (KZ a).2 (Nat.le_succ _)
 ·simp
theorem kz{s t:L8}(h:z8 s t=0):(mulI s t).2=0/\errI (mulI s t).1=0\/mulI s t=([],14):=by
 unfold mulI;rw [aP h];exact(zap _ _).imp (λh=>⟨h,(Qt h).1⟩) id
theorem zgx{s t:L8}(h:z8 s t=0):(addI s t).2=0/\errI (addI s t).1=0\/addI s t=([],14):=by
 unfold addI;rw [aP h];exact(zap _ _).imp (λh=>⟨h,(Qt h).1⟩) id
theorem zly{s t:L8}(h:z8 s t=0):(subI s t).2=0/\errI (subI s t).1=0\/subI s t=([],14):=by
 unfold subI;rw [aP h];exact(zap _ _).imp (λh=>⟨h,(Qt h).1⟩) id
end Go.Nov
namespace Go.Nov
def stp(e:Int)(f:L8->L8->L8×Int)(x y:L8):L8×Int:=if e≠0 then([],e) else f x y
theorem zok{e:Int}{f:L8->L8->L8×Int}{x y:L8}(h:(f x y).1.length<=1001):(stp e f x y).1.length<=1001:=by
 unfold stp;split
 ·simp
 ·exact h
theorem q9{e:Int}(h:e≠0)(f:L8->L8->L8×Int)(x y:L8):stp e f x y=([],e):=aP h
theorem vf(f:L8->L8->L8×Int)(x y:L8):stp 0 f x y=f x y:=aO (by simp)
def Wk(f:L8->L8->L8×Int)(a b:L8):L8×Int:=
 if qq a b≠0 then([],qq a b) else frac (f (mulI (numR a) (denR b)).1 (mulI (numR b) (denR a)).1) (mulI (denR a) (denR b))
section
variable {a b n m d c:L8} {e:Int} (hp:(e≠0/\w6 a b=e)\/(e=0/\errR a=0/\errR b=0/\n=numR a/\m=numR b/\d=denR a/\c=denR b))
include hp
theorem Qy{f:L8->L8->L8×Int}(hf:∀ {s t:L8},z8 s t=0->(f s t).2=0/\errI (f s t).1=0\/f s t=([],14)){r1 r2 r3 r4 r5:L8×Int}
  (h1:r1=stp e mulI n c) (h2:r2=stp r1.2 mulI m d) (h3:r3=stp r2.2 f r1.1 r2.1) (h4:r4=stp r3.2 mulI d c) (h5:r5=stp r4.2 wI r3.1 r4.1):r5=Wk f a b:=by
 rcases hp with ⟨he,h2e⟩ | ⟨rfl,ha,hb,rfl,rfl,rfl,rfl⟩
 ·have hc:qq a b=e:=by unfold qq; rw [aP (by rw [h2e]; exact he)]; exact h2e
  unfold Wk;rw [hc,aP he];rw [q9 he] at h1;subst h1;rw [q9 he] at h2;subst h2;rw [q9 he] at h3;subst h3;rw [q9 he] at h4;subst h4;rw [h5,q9 he]
 ·obtain⟨a1,a2,_⟩:=qU ha;obtain⟨b1,b2,_⟩:=qU hb;have he2:w6 a b=0:=by unfold w6; rw [aP ha]; exact hb
  have e14:(14:Int)≠0:=by decide
  rw [vf] at h1;have hc:qq a b=if(mulI (numR a) (denR b)).2≠0\/(mulI (numR b) (denR a)).2≠0 then 14 else 0:=by unfold qq; rw [aO (by rw [he2]; simp)]
  rcases kz (zq.2 ⟨a1,b2⟩) with ⟨g1,k1⟩ | g1
  ·rw [<- h1] at g1 k1;rw [g1,vf] at h2;rcases kz (zq.2 ⟨b1,a2⟩) with ⟨g2,k2⟩ | g2
   ·rw [<- h2] at g2 k2;rw [g2,vf] at h3;have hc0:qq a b=0:=by rw [hc,aO]; rw [<- h1,<- h2,g1,g2]; simp
    unfold Wk;rw [hc0,aO (by simp),<- h1,<- h2,<- h3];rcases hf (zq.2 ⟨k1,k2⟩) with ⟨g3,k3⟩ | g3
    ·rw [<- h3] at g3 k3;rw [g3,vf] at h4;unfold frac;rw [<- h4,h5];rcases kz (zq.2 ⟨a2,b2⟩) with ⟨g4,k4⟩ | g4
     ·rw [<- h4] at g4;rw [g3,g4,aO (by simp),vf]
     ·rw [<- h4] at g4;rw [g4,aP (by simp),q9 e14]
    ·rw [<- h3] at g3;have q4:r4=([],14):=by rw [h4,g3]; exact q9 e14 _ _ _
     unfold frac;rw [aP (by rw [g3]; simp),h5,q4,q9 e14]
   ·rw [<- h2] at g2;have hc0:qq a b=14:=by rw [hc,aP]; rw [<- h2,g2]; simp
    unfold Wk;rw [hc0,aP e14];have q3:r3=([],14):=by rw [h3,g2]; exact q9 e14 _ _ _
    have q4:r4=([],14):=by rw [h4,q3]; exact q9 e14 _ _ _
    rw [h5,q4,q9 e14]
  ·rw [<- h1] at g1;have hc0:qq a b=14:=by rw [hc,aP]; rw [<- h1,g1]; simp
   unfold Wk;rw [hc0,aP e14];have q2:r2=([],14):=by rw [h2,g1]; exact q9 e14 _ _ _
   have q3:r3=([],14):=by rw [h3,q2]; exact q9 e14 _ _ _
   have q4:r4=([],14):=by rw [h4,q3]; exact q9 e14 _ _ _
   rw [h5,q4,q9 e14]
theorem zft{x y z w:L8}{r1 r2 r3:L8×Int}(h1:r1=stp e mulI x y)(h2:r2=stp r1.2 mulI z w)(h3:r3=stp r2.2 wI r1.1 r2.1)
  (hv:errR a=0->errR b=0->z8 x y=0/\z8 z w=0):r3=if w6 a b≠0 then([],w6 a b) else frac (mulI x y) (mulI z w):=by
 rcases hp with ⟨he,h2e⟩ | ⟨rfl,ha,hb,_⟩
 ·rw [h2e,aP he];rw [q9 he] at h1;subst h1;rw [q9 he] at h2;subst h2;rw [h3,q9 he]
 ·obtain⟨v1,v2⟩:=hv ha hb;have he2:w6 a b=0:=by unfold w6; rw [aP ha]; exact hb
  have e14:(14:Int)≠0:=by decide
  rw [he2,aO (by simp)];rw [vf] at h1;unfold frac;rcases kz v1 with ⟨g1,_⟩ | g1
  ·rw [<- h1] at g1 ⊢;rw [g1,vf] at h2;rcases kz v2 with ⟨g2,_⟩ | g2
   ·rw [<- h2] at g2 ⊢;rw [g1,g2,aO (by simp),h3,g2,vf]
   ·rw [<- h2] at g2 ⊢;rw [g2,aP (by simp),h3,g2,q9 e14]
  ·rw [<- h1] at g1 ⊢;have q2:r2=([],14):=by rw [h2,g1]; exact q9 e14 _ _ _
   rw [g1,aP (by simp),h3,q2,q9 e14]
theorem zf2{r1 r2:L8×Int}(h1:r1=stp e mulI n c)(h2:r2=stp r1.2 mulI m d):(if r2.2≠0 then(0,r2.2) else VR r1.1 r2.1)=cmpR a b:=by
 unfold cmpR;rcases hp with ⟨he,h2e⟩ | ⟨rfl,ha,hb,rfl,rfl,rfl,rfl⟩
 ·have hc:qq a b=e:=by unfold qq; rw [aP (by rw [h2e]; exact he)]; exact h2e
  rw [q9 he] at h1;subst h1;rw [q9 he] at h2;subst h2;rw [hc,aP he,aP he]
 ·obtain⟨a1,a2,_⟩:=qU ha;obtain⟨b1,b2,_⟩:=qU hb;have he2:w6 a b=0:=by unfold w6; rw [aP ha]; exact hb
  have e14:(14:Int)≠0:=by decide
  have hc:qq a b=if(mulI (numR a) (denR b)).2≠0\/(mulI (numR b) (denR a)).2≠0 then 14 else 0:=by unfold qq; rw [aO (by rw [he2]; simp)]
  rw [vf] at h1;rcases kz (zq.2 ⟨a1,b2⟩) with ⟨g1,k1⟩ | g1
  ·rw [<- h1] at g1;rw [g1,vf] at h2;rcases kz (zq.2 ⟨b1,a2⟩) with ⟨g2,k2⟩ | g2
   ·rw [<- h2] at g2;have hc0:qq a b=0:=by rw [hc,aO]; rw [<- h1,<- h2,g1,g2]; simp
    rw [hc0,aO (by rw [g2]; simp),aO (by simp),<- h1,<- h2]
   ·rw [<- h2] at g2;have hc0:qq a b=14:=by rw [hc,aP]; rw [<- h2,g2]; simp
    rw [hc0,g2,aP e14,aP e14]
  ·rw [<- h1] at g1;have hc0:qq a b=14:=by rw [hc,aP]; rw [<- h1,g1]; simp
   have q2:r2=([],14):=by rw [h2,g1]; exact q9 e14 _ _ _
   rw [hc0,q2,aP e14,aP e14]
end
end Go.Nov
end
section
namespace Go.Nov
open Go.Sx
theorem zhi:∀ s:L8,Op.bytesLess s s=false
 | []=>rfl
 | a::s=>by simp [Op.bytesLess,zhi s]
theorem y3{s t:L8} : cmpS s t=0↔s=t:=by
 unfold cmpS;cases hb:Op.bytesLess s t with
 | true=>
  simp only [if_true];refine⟨λh=>by omega,λh=> ?_⟩;subst h; rw [zhi] at hb; cases hb
 | false=>by_cases h:s=t<;>simp [h]
theorem zcc{x y:Int} : cmpI x y=0↔x=y:=by
 unfold cmpI;split
 ·exact⟨λh=>by omega,λh=>by omega⟩
 ·split
  ·exact⟨λh=>by omega,λh=>by omega⟩
  ·exact⟨λ_=>by omega,λ_=>rfl⟩
theorem zm6{a b:Fx} : cmpF a b=0↔a.name=b.name/\a.date=b.date:=by
 unfold cmpF;by_cases h:cmpS a.name b.name=0
 ·rw [aP h,zcc]; exact⟨λh2=>⟨y3.1 h,h2⟩,λh2=>h2.2⟩
 ·rw [aO h]; exact⟨λh2=>absurd h2 h,λh2=>absurd (y3.2 h2.1) h⟩
theorem zni{a b:Ch} : cmpC a b=0↔a.qn=b.qn/\a.name=b.name/\a.date=b.date:=by
 unfold cmpC;by_cases h:cmpS a.qn b.qn=0
 ·rw [aP h];have h1:=y3.1 h;by_cases h':cmpS a.name b.name=0
  ·rw [aP h',zcc]; exact⟨λh2=>⟨h1,y3.1 h',h2⟩,λh2=>h2.2.2⟩
  ·rw [aO h']; exact⟨λh2=>absurd h2 h',λh2=>absurd (y3.2 h2.2.1) h'⟩
 ·rw [aO h]; exact⟨λh2=>absurd h2 h,λh2=>absurd (y3.2 h2.1) h⟩
structure OrdK{α:Type}(c:α->α->Int):Prop where
 lt:∀ a b d,c a b<0->c b d<0->c a d<0
 eq:∀ a b d,c a b<0->c b d=0->c a d<0
section
variable {α:Type} {c:α->α->Int} {z x:α}
end
theorem zs5{α:Type}{p:α->Bool}{z:α}{l:List α}(h:∀ j,j<l.length->p (l.getD j z)=true):l.all p=true:=by
 rw [bG];intro x hx;obtain⟨j,hj,rfl⟩:=List.getElem_of_mem hx;have:=h j hj;simpa [List.getD,hj] using this
theorem zn5{α:Type}{p:α->Bool}{z:α}{l:List α}{j:Nat}(hj:j<l.length)(h:p (l.getD j z)=false):l.all p=false:=by
 rw [List.all_eq_false];exact⟨l[j],bK hj,by simpa [List.getD,hj] using h⟩
theorem zaz{f:List Fx}{c:List Ch} : errE f c=0↔¬ (1000<f.length\/1000<c.length)/\f.all okF=true/\c.all okC=true/\ordB cmpF Fx.nil f=true/\ordB cmpC Ch.nil c=true:=by
 unfold errE;by_cases hb:1000<f.length\/1000<c.length
 ·rw [aP hb]; simp [hb]
 ·rw [aO hb];by_cases h:(f.all okF&&c.all okC&&ordB cmpF Fx.nil f&&ordB cmpC Ch.nil c)=true
  ·rw [aP h];simp only [bA] at h;exact⟨λ_=>⟨hb,h.1.1.1,h.1.1.2,h.1.2,h.2⟩,λ_=>rfl⟩
  ·rw [aO h];refine⟨λh2=>by omega,λh2=>absurd ?_ h⟩;simp [h2.2.1,h2.2.2.1,h2.2.2.2.1,h2.2.2.2.2]
def vZ(l:List Fx)(a:L8)(d:Int):L8×Bool:=match l.find? λx=>decide (x.name=a)&&decide (x.date=d) with
 | some x=>(x.value,true)
 | none=>([],false)
def qi(l:List Ch)(p n:L8)(d:Int):Bool:=match l.find? λx=>decide (x.qn=p)&&(decide (x.name=n)&&decide (x.date=d)) with
 | some x=>x.first
 | none=>false
theorem zoq{α:Type}{p:α->Bool}{l:List α}{z:α}{i:Nat}(hi:i<l.length)(h:p (l.getD i z)=true)(hb:∀ j,j<i->p (l.getD j z)=false):l.find? p=some (l.getD i z):=by
 induction l generalizing i with
 | nil=>simp at hi
 | cons a l ih=>
  cases i with
  | zero=>simp only [List.getD_cons_zero] at h ⊢; simp [h]
  | succ i=>
   have h0:=hb 0 (by omega);simp only [List.getD_cons_zero,List.getD_cons_succ] at h h0 ⊢;rw [List.find?_cons,h0];exact ih (by simpa using hi) h λj hj=>by have:=hb (j+1) (by omega); simpa using this
end Go.Nov
end
section
namespace Go.Nov
theorem zrs{b:L8}(h:allD b)(hn:b≠[])(hz:b.getD 0 0≠48):numD b≠0/\txt (numD b)=b:=by
 have hd:=zrl h;have hl:0<b.length:=List.length_pos_iff.2 hn
 have htl:Ten.tlen (dg b)=(dg b).length:=by
  rcases aR (Ten.tlen (dg b)) (dg b).length with h1 | h1
  ·exfalso;have h2:=Ten.jZ (dg b) ((dg b).length - 1) (by omega);rw [zai] at h2
   have e:(dg b).getD (b.length - 1) 0=(b.getD 0 0).toNat - 48:=by
    simp only [dg,List.getD_eq_getElem?_getD];rw [List.getElem?_reverse (by simp; omega)];simp [aF hl,show b.length - 1 - (b.length - 1)=0 by omega]
   rw [e] at h2
   have h3:48<=(b.getD 0 0).toNat:=by
    cases b with
    | nil=>exact absurd rfl hn
    | cons c r=>exact(h c (by simp)).1
   apply hz;apply UInt8.toNat_inj.1;show _=48;omega
  ·exact Nat.le_antisymm (Ten.qA _) h1
 have hc:dec (numD b)=dg b:=by
  rw [<- za2];exact Ten.VJ hd htl
 have h0:numD b≠0:=by
  intro h0;rw [h0] at hc;have:dg b=[]:=by rw [<- hc]; exact Ten.zS
  have:=congrArg List.length this;rw [zai,List.length_nil] at this;omega
 refine⟨h0,?_⟩;rw [uI h0,hc,dg,<- List.map_reverse,List.reverse_reverse,List.map_map]
 conv=>rhs; rw [<- List.map_id b]
 refine List.map_congr_left λc hcm=> ?_
 obtain⟨h1,h2⟩:=h c hcm;apply UInt8.toNat_inj.1;simp only [Function.comp,id];rw [QB (by omega)];omega
theorem zba{s:L8}(h:errI s=0):wr (negI s) (numI s)=(s,0):=by
 obtain⟨neg,b,h1,h2,h3,h4,h5,h6⟩:=KW h;have e1:negI s=neg:=by simp [negI,h2]
 have e2:numI s=numD b:=by simp [numI,h2]
 rw [e1,e2];by_cases hz:b.getD 0 0=48
 ·have hb:b=[48]:=by
   cases b with
   | nil=>exact absurd rfl h5
   | cons c r=>
    cases r with
    | nil=>have:c=48:=hz; rw [this]
    | cons d r=>rw [xq hz (by simp)] at h3; cases h3
  subst hb;cases neg with
  | true=>cases h3
  | false=>rw [h1]; rfl
 ·obtain⟨g1,g2⟩:=zrs h4 h5 hz;unfold wr;rw [aO g1,g2,aO,h1];have:=QR g1;rw [g2] at this;omega
def zI(s:L8):Int:=if negI s then -(numI s:Int) else numI s
theorem wW(s:L8):(zI s).natAbs=numI s:=by unfold zI; split<;>simp
theorem Xz{s:L8}(h:errI s=0):negI s=decide (zI s<0):=by
 unfold zI;cases hn:negI s with
 | false=>simp
 | true=>
  simp only [if_true]
  have:numI s≠0:=by
   intro h0;have:=(uU h).2 h0;rw [this] at hn;cases hn
  exact(aX (by omega)).symm
def wz(z:Int):L8×Int:=wr (decide (z<0)) z.natAbs
theorem Xa{s:L8}(h:errI s=0):wz (zI s)=(s,0):=by
 unfold wz;rw [wW,<- Xz h,zba h]
theorem ztt{neg:Bool}{x:Nat}(h:(wr neg x).2=0):zI (wr neg x).1=if neg then -(x:Int) else x:=by
 obtain⟨h1,h2,h3⟩:=Qt h;unfold zI;rw [h2,h3];by_cases h0:x=0
 ·subst h0; simp
 ·cases neg<;>simp [h0]
theorem yJ{z:Int}(h:(wz z).2=0):zI (wz z).1=z:=by
 unfold wz at h ⊢;rw [ztt h];by_cases hz:z<0
 ·rw [aX hz]; simp only [if_true]; omega
 ·rw [aW hz]; simp only [Bool.false_eq_true,if_false]; omega
theorem Ql{z:Int}(h:(wz z).2=0):errI (wz z).1=0:=(Qt h).1
theorem Y3{neg:Bool}{x:Nat} : wr neg x=wz (if neg then -(x:Int) else x):=by
 unfold wz;by_cases h0:x=0
 ·subst h0;cases neg<;>rfl
 ·cases neg with
  | false=>simp only [Bool.false_eq_true,if_false,Int.natAbs_natCast]; rw [aW (by omega)]
  | true=>simp only [if_true,Int.natAbs_neg,Int.natAbs_natCast]; rw [aX (by omega)]
theorem zid(m:Bool)(x:Nat)(n:Bool)(y:Nat):(if(sumS m x n y).1 then -((sumS m x n y).2:Int) else(sumS m x n y).2)=(if m then -(x:Int) else x)+(if n then -(y:Int) else y):=by
 unfold sumS;by_cases h:m=n
 ·subst h;rw [aP rfl];cases m<;>simp<;>omega
 ·rw [aO h];by_cases h2:y<=x
  ·rw [aP h2];cases m<;>cases n<;>first | exact absurd rfl h | (simp; omega)
  ·rw [aO h2];cases m<;>cases n<;>first | exact absurd rfl h | (simp; omega)
theorem ztc{s t:L8}(h:z8 s t=0):addI s t=wz (zI s+zI t):=by
 unfold addI;rw [aP h,Y3,zid]; rfl
theorem zt8{s t:L8}(h:z8 s t=0):subI s t=wz (zI s - zI t):=by
 unfold subI;rw [aP h,Y3,zid];congr 1;unfold zI;cases negI s<;>cases negI t<;>simp<;>omega
theorem ZJ{s t:L8}(h:z8 s t=0):mulI s t=wz (zI s*zI t):=by
 unfold mulI;rw [aP h,Y3];congr 1;unfold zI;cases negI s<;>cases negI t<;>simp [Int.neg_mul,Int.mul_neg]
def qv(a:L8):Rat:=Rat.divInt (zI (numR a)) (zI (denR a))
def qstr(r:Rat):L8:=if r.den=1 then(wz r.num).1 else(wz r.num).1++[47]++(wz r.den).1
def kF(r:Rat):Prop:=room r.num.natAbs/\room r.den
theorem zkd(neg:Bool)(x:Nat):∀ c∈(wr neg x).1,c≠47:=by
 intro c hc h;subst h;unfold wr at hc;split at hc
 ·simp at hc
 ·rename_i h0;split at hc
  ·simp at hc
  ·have ht:¬ (47:UInt8)∈txt x:=λhm=>by
    have:=(zd7 h0 _ hm).1;have e:(47:UInt8).toNat=47:=rfl;omega
   cases neg<;>simp [sgn] at hc<;>exact ht hc
theorem zjc{u v:L8}(h:∀ c∈u,c≠47):cutR (u++[47]++v)=(u,v,true):=by
 have hs:zQ (u++[47]++v)=u.length:=by
  refine zgz (by simp) (by simp [List.getD]) λj hj=> ?_
  rw [List.append_assoc];simp only [List.getD,bL hj,aF hj,Option.getD_some];exact h _ (bK hj)
 rw [zb8 (by rw [hs]; simp),hs];simp
theorem zew{u:L8}(h:∀ c∈u,c≠47):cutR u=(u,[],false):=by
 have hs:zQ u=u.length:=za1 λj hj=>by
  simp only [List.getD,aF hj,Option.getD_some];exact h _ (bK hj)
 exact zgl (by omega)
theorem YG(z:Int):∀ c∈(wz z).1,c≠47:=zkd _ _
theorem yr{z:Int}(h:room z.natAbs):(wz z).2=0:=kJ h
theorem zst:wz 1=([49],0):=xh
theorem yU{r:Rat}(h:kF r):numR (qstr r)=(wz r.num).1/\denR (qstr r)=(wz (r.den:Int)).1/\(cutR (qstr r)).2.2=decide (r.den≠1):=by
 unfold qstr;by_cases h1:r.den=1
 ·rw [aP h1];have:=zew (YG r.num);unfold numR denR;rw [this,h1];exact⟨rfl,by simp only [Bool.false_eq_true,if_false]; exact(congrArg Prod.fst zst).symm,by simp⟩
 ·rw [aO h1];have:=zjc (v:=(wz (r.den:Int)).1) (YG r.num);unfold numR denR;rw [this];exact⟨rfl,rfl,by simp [h1]⟩
theorem QH{r:Rat}(h:kF r):qv (qstr r)=r:=by
 obtain⟨h1,h2,_⟩:=yU h;unfold qv;rw [h1,h2,yJ (yr h.1),yJ (yr (by rw [Int.natAbs_natCast]; exact h.2)),Rat.divInt_ofNat,Rat.mkRat_self]
theorem y5{r:Rat}(h:kF r):errR (qstr r)=0:=by
 obtain⟨h1,h2,h3⟩:=yU h;have e1:=Ql (yr h.1);have e2:errI (wz (r.den:Int)).1=0:=Ql (yr (by rw [Int.natAbs_natCast]; exact h.2));have z1:=yJ (yr h.1);have z2:zI (wz (r.den:Int)).1=r.den:=yJ (yr (by rw [Int.natAbs_natCast]; exact h.2));unfold errR;by_cases hd:r.den=1
 ·rw [h3,hd];simp only [ne_eq,not_true_eq_false,decide_false,Bool.false_eq_true,if_false];unfold qstr;rw [aP hd];exact e1
 ·have hc:(cutR (qstr r)).2.2=true:=by rw [h3]; simp [hd]
  have n1:(cutR (qstr r)).1=(wz r.num).1:=h1;have n2:(cutR (qstr r)).2.1=(wz (r.den:Int)).1:=by unfold denR at h2; rw [hc] at h2; exact h2
  rw [hc,aP rfl,n1,n2];have hp:=r.den_pos;have hneg:negI (wz (r.den:Int)).1=false:=by rw [Xz e2,z2]; exact aW (by omega)
  have hn48:(wz (r.den:Int)).1≠[48]:=λh=>by
   rw [h] at z2;have:zI [48]=0:=rfl;omega
  have hn49:(wz (r.den:Int)).1≠[49]:=λh=>by
   rw [h] at z2;have:zI [49]=1:=rfl;omega
  rw [aO (by simp [e1,e2,hneg,hn48,hn49]),aO (by simp [e1,e2])]
  have hg:gcdR (wz r.num).1 (wz (r.den:Int)).1=wr false (Nat.gcd r.num.natAbs r.den):=by
   unfold gcdR;rw [aP (zq.2 ⟨e1,e2⟩),<- wW,<- wW,z1,z2,Int.natAbs_natCast]
  have hr:Nat.gcd r.num.natAbs r.den=1:=r.reduced;rw [hg,hr,xh,aO (by simp)]
theorem WJ{a:L8}(h:errR a=0):(qv a).num=zI (numR a)/\((qv a).den:Int)=zI (denR a)/\qstr (qv a)=a/\kF (qv a):=by
 obtain⟨e1,e2,e3,e4⟩:=qU h;have hz:zI (denR a)=numI (denR a):=by unfold zI; rw [e3]; rfl
 have hcop:Nat.gcd (numI (numR a)) (numI (denR a))=1:=by
  unfold errR at h;cases hc:(cutR a).2.2 with
  | true=>
   rw [hc,aP rfl] at h;have hd:denR a=(cutR a).2.1:=by unfold denR; rw [hc]; rfl
   rw [hd] at e2 e4 ⊢;unfold numR at e1 ⊢;split at h
   ·cases h
   split at h
   ·cases h
   split at h
   ·cases h
   ·rename_i hg;rw [Classical.not_not] at hg;unfold gcdR at hg;rw [aP (zq.2 ⟨e1,e2⟩)] at hg;exact(zac (YH e2 e4).2).1 hg
  | false=>
   have:denR a=[49]:=by unfold denR; rw [hc]; rfl
   rw [this];exact Nat.gcd_one_right _
 have hq:qv a=⟨zI (numR a),numI (denR a),e4,by rw [wW]; exact hcop⟩:=by
  unfold qv;rw [hz,Rat.mk_eq_divInt]
 have hroom:kF (qv a):=by
  rw [hq];exact⟨by show room (zI (numR a)).natAbs; rw [wW]; exact jS e1,jS e2⟩
 refine⟨by rw [hq],by rw [hq,hz],?_,hroom⟩;rw [hq];unfold qstr;simp only;rw [<- hz,Xa e1,Xa e2];cases hc:(cutR a).2.2 with
 | true=>
  have hd:denR a=(cutR a).2.1:=by unfold denR; rw [hc]; rfl
  have hn1:numI (denR a)≠1:=by
   intro h1
   have:denR a=[49]:=by
    have:=(zba e2);rw [e3,h1,xh] at this;exact(congrArg Prod.fst this).symm
   unfold errR at h;rw [hc,aP rfl,aP (by rw [<- hd,this]; simp)] at h;cases h
  rw [aO hn1,hd];simp only [numR];unfold cutR at hc ⊢;split at hc
  ·rename_i hs;rw [aP hs];simp only;have h47:=JA hs
   have:a=a.take (zQ a)++([a.getD (zQ a) 0]++a.drop (zQ a+1)):=by
    conv=>lhs; rw [<- bU (zQ a) a]
    congr 1;rw [List.drop_eq_getElem_cons hs];simp [List.getD,aF hs]
   rw [h47] at this;rw [List.append_assoc];exact this.symm
  ·cases hc
 | false=>
  have hd:denR a=[49]:=by unfold denR; rw [hc]; rfl
  rw [hd];have:numI [49]=1:=rfl;rw [aP this];unfold numR;unfold cutR at hc ⊢;split at hc
  ·cases hc
  ·rename_i hs;rw [aO hs]
theorem zow(a b:Int)(hb:b≠0):b.sign*a=if(decide (a<0) != decide (b<0))=true then -(a.natAbs:Int) else a.natAbs:=by
 by_cases h1:a<0
 ·rw [aX h1];by_cases h2:b<0
  ·rw [aX h2,Int.sign_eq_neg_one_of_neg h2]; simp; omega
  ·rw [aW h2,Int.sign_eq_one_of_pos (by omega)]; simp; omega
 ·rw [aW h1];by_cases h2:b<0
  ·rw [aX h2,Int.sign_eq_neg_one_of_neg h2]; simp; omega
  ·rw [aW h2,Int.sign_eq_one_of_pos (by omega)]; simp; omega
theorem zth{n d:L8}(hn:errI n=0)(hd:errI d=0)(h0:numI d≠0):wI n d=(qstr (Rat.divInt (zI n) (zI d)),0)/\kF (Rat.divInt (zI n) (zI d)):=by
 have hz0:zI d≠0:=λh=>h0 (by rw [<- wW,h]; rfl)
 have hg:(zI d).gcd (zI n)=Nat.gcd (numI n) (numI d):=by
  show Nat.gcd _ _=_;rw [wW,wW,Nat.gcd_comm]
 have hden:(Rat.divInt (zI n) (zI d)).den=numI d/Nat.gcd (numI n) (numI d):=by
  rw [Rat.den_divInt,aO hz0,hg,wW]
 have hdv:Nat.gcd (numI n) (numI d) ∣ numI n:=Nat.gcd_dvd_left _ _
 have hnum:(Rat.divInt (zI n) (zI d)).num=if(negI n != negI d)=true then -((numI n/Nat.gcd (numI n) (numI d):Nat):Int) else((numI n/Nat.gcd (numI n) (numI d):Nat):Int):=by
  rw [Rat.num_divInt,hg,zow _ _ hz0,wW,<- Xz hn,<- Xz hd];split
  ·rw [Int.neg_ediv_of_dvd (Int.natCast_dvd_natCast.2 hdv),Int.natCast_ediv]
  ·rw [Int.natCast_ediv]
 have hroom:kF (Rat.divInt (zI n) (zI d)):=by
  refine⟨?_,by rw [hden]; exact room_le (Nat.div_le_self _ _) (jS hd)⟩;rw [hnum];have:room (numI n/Nat.gcd (numI n) (numI d)):=room_le (Nat.div_le_self _ _) (jS hn);split
  ·rw [Int.natAbs_neg,Int.natAbs_natCast]; exact this
  ·rw [Int.natAbs_natCast]; exact this
 refine⟨?_,hroom⟩;unfold wI;rw [aO (by rw [zq.2 ⟨hn,hd⟩]; simp),aO h0];congr 1;unfold zcg qstr;rw [hden,hnum];have e2:(wr false (numI d/Nat.gcd (numI n) (numI d))).1=(wz ((numI d/Nat.gcd (numI n) (numI d):Nat):Int)).1:=by rw [Y3]; rfl
 rw [Y3,e2]
theorem zb0{n d:L8}{e f:Int}{z w:Int}(hw:w≠0)(hz:(n,e)=wz z)(hd:(d,f)=wz w):frac (n,e) (d,f)=([],14)\/(frac (n,e) (d,f)=(qstr (Rat.divInt z w),0)/\kF (Rat.divInt z w)):=by
 unfold frac;by_cases he:e=0
 ·by_cases hf:f=0
  ·subst he; subst hf;have h1:(wz z).2=0:=by rw [<- hz]
   have h2:(wz w).2=0:=by rw [<- hd]
   have n1:n=(wz z).1:=by rw [<- hz]
   have n2:d=(wz w).1:=by rw [<- hd]
   have z1:=yJ h1;have z2:=yJ h2;have e1:=Ql h1;have e2:=Ql h2;rw [<- n1] at z1 e1;rw [<- n2] at z2 e2;right;rw [aO (by simp)];have:=zth e1 e2 (λh=>hw (by rw [<- z2]; have:=wW d; omega));rw [z1,z2] at this;exact this
  ·left; rw [aP (.inr hf)]
 ·left; rw [aP (.inl he)]
section
variable {a b:L8} (ha:errR a=0) (hb:errR b=0)
include ha hb
theorem zcu:errI (numR a)=0/\errI (denR a)=0/\errI (numR b)=0/\errI (denR b)=0/\zI (denR a)≠0/\zI (denR b)≠0/\w6 a b=0:=by
 obtain⟨a1,a2,_,a4⟩:=qU ha;obtain⟨b1,b2,_,b4⟩:=qU hb;exact⟨a1,a2,b1,b2,λh=>a4 (by rw [<- wW,h]; rfl),λh=>b4 (by rw [<- wW,h]; rfl),by unfold w6; rw [aP ha]; exact hb⟩
theorem zbx:qq a b=14\/(qq a b=0/\mulI (numR a) (denR b)=wz (zI (numR a)*zI (denR b))/\mulI (numR b) (denR a)=wz (zI (numR b)*zI (denR a))/\(mulI (numR a) (denR b)).2=0/\(mulI (numR b) (denR a)).2=0):=by
 obtain⟨a1,a2,b1,b2,a4,b4,h2⟩:=zcu ha hb;have m1:=ZJ (zq.2 ⟨a1,b2⟩);have m2:=ZJ (zq.2 ⟨b1,a2⟩);unfold qq;rw [aO (by rw [h2]; simp)];by_cases h:(mulI (numR a) (denR b)).2≠0\/(mulI (numR b) (denR a)).2≠0
 ·left; rw [aP h]
 ·right;rw [aO h];simp only [not_or,Classical.not_not] at h;exact⟨rfl,m1,m2,h.1,h.2⟩
theorem ztn:addR a b=([],14)\/(addR a b=(qstr (qv a+qv b),0)/\kF (qv a+qv b)):=by
 obtain⟨a1,a2,b1,b2,a4,b4,h2⟩:=zcu ha hb;unfold addR;rcases zbx ha hb with h | ⟨h,m1,m2,k1,k2⟩
 ·left; rw [h]; rfl
 ·rw [h,aO (by simp)];rw [m1] at k1;rw [m2] at k2;have e1:=Ql k1;have e2:=Ql k2
  have:=zb0 (n:=(addI (mulI (numR a) (denR b)).1 (mulI (numR b) (denR a)).1).1) (e:=(addI (mulI (numR a) (denR b)).1 (mulI (numR b) (denR a)).1).2) (d:=(mulI (denR a) (denR b)).1) (f:=(mulI (denR a) (denR b)).2)
   (z:=zI (numR a)*zI (denR b)+zI (numR b)*zI (denR a)) (w:=zI (denR a)*zI (denR b)) (Int.mul_ne_zero a4 b4) (by rw [m1,m2,ztc (zq.2 ⟨e1,e2⟩),yJ k1,yJ k2]) (by rw [ZJ (zq.2 ⟨a2,b2⟩)])
  unfold qv;rw [Rat.divInt_add_divInt _ _ a4 b4];exact this
theorem zrm:subR a b=([],14)\/(subR a b=(qstr (qv a - qv b),0)/\kF (qv a - qv b)):=by
 obtain⟨a1,a2,b1,b2,a4,b4,h2⟩:=zcu ha hb;unfold subR;rcases zbx ha hb with h | ⟨h,m1,m2,k1,k2⟩
 ·left; rw [h]; rfl
 ·rw [h,aO (by simp)];rw [m1] at k1;rw [m2] at k2;have e1:=Ql k1;have e2:=Ql k2
  have:=zb0 (n:=(subI (mulI (numR a) (denR b)).1 (mulI (numR b) (denR a)).1).1) (e:=(subI (mulI (numR a) (denR b)).1 (mulI (numR b) (denR a)).1).2) (d:=(mulI (denR a) (denR b)).1) (f:=(mulI (denR a) (denR b)).2)
   (z:=zI (numR a)*zI (denR b) - zI (numR b)*zI (denR a)) (w:=zI (denR a)*zI (denR b)) (Int.mul_ne_zero a4 b4) (by rw [m1,m2,zt8 (zq.2 ⟨e1,e2⟩),yJ k1,yJ k2]) (by rw [ZJ (zq.2 ⟨a2,b2⟩)])
  unfold qv;rw [Rat.divInt_sub_divInt _ _ a4 b4];exact this
theorem zsk:mulR a b=([],14)\/(mulR a b=(qstr (qv a*qv b),0)/\kF (qv a*qv b)):=by
 obtain⟨a1,a2,b1,b2,a4,b4,h2⟩:=zcu ha hb;unfold mulR;rw [h2,aO (by simp)]
 have:=zb0 (n:=(mulI (numR a) (numR b)).1) (e:=(mulI (numR a) (numR b)).2) (d:=(mulI (denR a) (denR b)).1) (f:=(mulI (denR a) (denR b)).2)
  (z:=zI (numR a)*zI (numR b)) (w:=zI (denR a)*zI (denR b)) (Int.mul_ne_zero a4 b4) (by rw [ZJ (zq.2 ⟨a1,b1⟩)]) (by rw [ZJ (zq.2 ⟨a2,b2⟩)])
 unfold qv;rw [Rat.divInt_mul_divInt];exact this
end
theorem zmr{a b:L8}(ha:errR a=0)(hb:errR b=0)(h:(addR a b).2=0):errR (addR a b).1=0/\qv (addR a b).1=qv a+qv b:=by
 rcases ztn ha hb with h1 | ⟨h1,h2⟩
 ·rw [h1] at h; cases h
 ·rw [h1]; exact⟨y5 h2,QH h2⟩
theorem zoi{a b:L8}(ha:errR a=0)(hb:errR b=0)(h:(subR a b).2=0):errR (subR a b).1=0/\qv (subR a b).1=qv a - qv b:=by
 rcases zrm ha hb with h1 | ⟨h1,h2⟩
 ·rw [h1] at h; cases h
 ·rw [h1]; exact⟨y5 h2,QH h2⟩
theorem Xg{a b:L8}(ha:errR a=0)(hb:errR b=0)(h:(mulR a b).2=0):errR (mulR a b).1=0/\qv (mulR a b).1=qv a*qv b:=by
 rcases zsk ha hb with h1 | ⟨h1,h2⟩
 ·rw [h1] at h; cases h
 ·rw [h1]; exact⟨y5 h2,QH h2⟩
end Go.Nov
end
section
namespace Go.Nov
open Go.Sx
structure Ev where
 v:L8
 e:Int
 b:Bool
 g:Int
abbrev Ev.nil:Ev:=⟨[],0,false,0⟩
def wH(k:Int)(a b:L8):L8×Int:=
 if k=7 then(if(cmpR a b).2≠0 then([],(cmpR a b).2) else(if(cmpR a b).1<0 then b else a,0))
 else(if(cmpR b a).2≠0 then([],(cmpR b a).2) else(if(cmpR b a).1<0 then b else a,0))
def opR(k:Int)(a b:L8):L8×Int:=if k=4 then addR a b else if k=5 then subR a b else if k=6 then mulR a b else wH k a b
def fixR(f:List Fx)(a:L8)(d:Int):L8×Int:=if(vZ f a d).2=true then((vZ f a d).1,0) else([],30)
def Jg{α:Type}(z:α)(l0 l1:Ev)(f:L8->L8->α×Int):α×Int:=if l0.e≠0 then(z,l0.e) else if l1.e≠0 then(z,l1.e) else f l0.v l1.v
def valN(f:List Fx)(day k:Int)(r n:L8)(d:Int)(l:List Ev):L8×Int:=
 if k=1 then(r,0) else if k=2 then fixR f n d else if k=3 then fixR f n day
 else if k=9 then(if(l.getD 0 Ev.nil).g≠0 then([],(l.getD 0 Ev.nil).g) else if(l.getD 0 Ev.nil).b then((l.getD 1 Ev.nil).v,(l.getD 1 Ev.nil).e) else((l.getD 2 Ev.nil).v,(l.getD 2 Ev.nil).e))
 else Jg [] (l.getD 0 Ev.nil) (l.getD 1 Ev.nil) (opR k)
def XN(k:Int)(a b:L8):Bool×Int:=if(cmpR a b).2≠0 then(false,(cmpR a b).2) else(if k=11 then decide ((cmpR a b).1<0) else decide ((cmpR a b).1=0),0)
def hldN(k:Int)(l:List Ev):Bool×Int:=
 if 13<=k then(if(l.getD 0 Ev.nil).g≠0 then(false,(l.getD 0 Ev.nil).g) else if k=15 then(!(l.getD 0 Ev.nil).b,0)
  else if(l.getD 0 Ev.nil).b=decide (k=14) then((l.getD 0 Ev.nil).b,0) else((l.getD 1 Ev.nil).b,(l.getD 1 Ev.nil).g))
 else Jg false (l.getD 0 Ev.nil) (l.getD 1 Ev.nil) (XN k)
def evN(f:List Fx)(day k:Int)(r n:L8)(d:Int)(l:List Ev):Ev:=⟨(valN f day k r n d l).1,(valN f day k r n d l).2,(hldN k l).1,(hldN k l).2⟩
namespace Ex
mutual
def ev(f:List Fx)(day:Int):Ex->Ev
 | mk k r n d s=>evN f day k r n d (evs f day s)
def evs(f:List Fx)(day:Int):List Ex->List Ev
 | []=>[]
 | x::l=>ev f day x::evs f day l
end
theorem jh{f:List Fx}{day:Int}{s:List Ex}{i:Nat}(h:i<s.length):(evs f day s).getD i Ev.nil=(s.getD i nil).ev f day:=by
 induction s generalizing i with
 | nil=>simp at h
 | cons x s ih=>
  rw [evs];cases i with
  | zero=>rfl
  | succ i=>exact ih (by simpa using h)
theorem Vp{x:Ex}(h:x.zx=1):(x.kind=1/\errR x.rat=0)\/x.kind=2\/x.kind=3 \/
  ((4<=x.kind/\x.kind<=8)/\x.sub.length=2/\(x.sub.getD 0 nil).zx=1/\(x.sub.getD 1 nil).zx=1) \/
  (x.kind=9/\x.sub.length=3/\(x.sub.getD 0 nil).zx=2/\(x.sub.getD 1 nil).zx=1/\(x.sub.getD 2 nil).zx=1):=by
 rw [JR] at h;by_cases hk:qS x.kind=true
 ·have hk2:(4<=x.kind/\x.kind<=9)\/(11<=x.kind/\x.kind<=15):=by
   by_cases h1:4<=x.kind/\x.kind<=9
   ·exact .inl h1
   ·by_cases h2:11<=x.kind/\x.kind<=15
    ·exact .inr h2
    ·rw [zb7 h1 h2] at hk; cases hk
  have two:∀ {k:Int} {ps:List Int} {w:Int},yL k=some (ps,w)->wL k x.rat x.name x.date (qc x.sub)=1->w=1/\x.sub.length=ps.length/\∀ i,i<x.sub.length->(x.sub.getD i nil).zx=ps.getD i 0:=by
   intro k ps w hs hn;rw [V8 hs] at hn;split at hn
   ·rename_i hc;exact⟨hn,uO.1 hc.2⟩
   ·cases hn
  generalize x.kind=k at h hk2 ⊢;have hk3:k=4\/k=5\/k=6\/k=7\/k=8\/k=9\/k=11\/k=12\/k=13\/k=14\/k=15:=by omega
  right; right; right;rcases hk3 with rfl | rfl | rfl | rfl | rfl | rfl | rfl | rfl | rfl | rfl | rfl
  iterate 5
   ·left;obtain⟨_,h2,h3⟩:=two rfl h;exact⟨by decide,h2,h3 0 (by rw [h2]; decide),h3 1 (by rw [h2]; decide)⟩
  ·right;obtain⟨_,h2,h3⟩:=two rfl h;exact⟨rfl,h2,h3 0 (by rw [h2]; decide),h3 1 (by rw [h2]; decide),h3 2 (by rw [h2]; decide)⟩
  all_goals
   obtain⟨h1,_⟩:=two rfl h;cases h1
 ·have hk:qS x.kind=false:=by simpa using hk
  rw [wP hk] at h;split at h
  ·rename_i hl;simp only [jn,bA] at hl;obtain⟨_,hl⟩:=hl;split at hl
   ·rename_i h1;simp only [bA,aK] at hl;exact .inl ⟨h1,hl.1.1⟩
   ·split at hl
    ·rename_i h2; exact .inr (.inl h2)
    ·split at hl
     ·rename_i h3; exact .inr (.inr (.inl h3))
     ·cases hl
  ·cases h
theorem XH{x:Ex}(h:x.zx=2):((x.kind=11\/x.kind=12)/\x.sub.length=2/\(x.sub.getD 0 nil).zx=1/\(x.sub.getD 1 nil).zx=1) \/
  ((x.kind=13\/x.kind=14)/\x.sub.length=2/\(x.sub.getD 0 nil).zx=2/\(x.sub.getD 1 nil).zx=2)\/(x.kind=15/\x.sub.length=1/\(x.sub.getD 0 nil).zx=2):=by
 rw [JR] at h;by_cases hk:qS x.kind=true
 ·have hk2:(4<=x.kind/\x.kind<=9)\/(11<=x.kind/\x.kind<=15):=by
   by_cases h1:4<=x.kind/\x.kind<=9
   ·exact .inl h1
   ·by_cases h2:11<=x.kind/\x.kind<=15
    ·exact .inr h2
    ·rw [zb7 h1 h2] at hk; cases hk
  have two:∀ {k:Int} {ps:List Int} {w:Int},yL k=some (ps,w)->wL k x.rat x.name x.date (qc x.sub)=2->w=2/\x.sub.length=ps.length/\∀ i,i<x.sub.length->(x.sub.getD i nil).zx=ps.getD i 0:=by
   intro k ps w hs hn;rw [V8 hs] at hn;split at hn
   ·rename_i hc;exact⟨hn,uO.1 hc.2⟩
   ·cases hn
  generalize x.kind=k at h hk2 ⊢;have hk3:k=4\/k=5\/k=6\/k=7\/k=8\/k=9\/k=11\/k=12\/k=13\/k=14\/k=15:=by omega
  rcases hk3 with rfl | rfl | rfl | rfl | rfl | rfl | rfl | rfl | rfl | rfl | rfl
  iterate 6
   ·obtain⟨h1,_⟩:=two rfl h;cases h1
  ·obtain⟨_,h2,h3⟩:=two rfl h;exact .inl ⟨.inl rfl,h2,h3 0 (by rw [h2]; decide),h3 1 (by rw [h2]; decide)⟩
  ·obtain⟨_,h2,h3⟩:=two rfl h;exact .inl ⟨.inr rfl,h2,h3 0 (by rw [h2]; decide),h3 1 (by rw [h2]; decide)⟩
  ·obtain⟨_,h2,h3⟩:=two rfl h;exact .inr (.inl ⟨.inl rfl,h2,h3 0 (by rw [h2]; decide),h3 1 (by rw [h2]; decide)⟩)
  ·obtain⟨_,h2,h3⟩:=two rfl h;exact .inr (.inl ⟨.inr rfl,h2,h3 0 (by rw [h2]; decide),h3 1 (by rw [h2]; decide)⟩)
  ·obtain⟨_,h2,h3⟩:=two rfl h;exact .inr (.inr ⟨rfl,h2,h3 0 (by rw [h2]; decide)⟩)
 ·have hk:qS x.kind=false:=by simpa using hk
  rw [wP hk] at h;split at h<;>cases h
end Ex
theorem zl2{f:List Fx}{a:L8}{d:Int}(h:(vZ f a d).2=false):(vZ f a d).1=[]:=by
 unfold vZ at h ⊢;split
 ·rename_i y hy; rw [hy] at h; cases h
 ·rfl
theorem zd2{f:List Fx}(hf:f.all okF=true){a:L8}{d:Int}(h:(fixR f a d).2=0):errR (fixR f a d).1=0:=by
 unfold fixR at h ⊢;split
 ·rename_i h1;unfold vZ at h1 ⊢;split at h1
  ·rename_i y hy;have hm:=List.mem_of_find?_eq_some hy;have:=bG.1 hf _ hm;simp only [okF,bA,aK] at this;exact this.2
  ·cases h1
 ·rename_i h1;rw [aO h1] at h;cases h
theorem zik{k:Int}{a b:L8}(ha:errR a=0)(hb:errR b=0)(h:(wH k a b).2=0):errR (wH k a b).1=0:=by
 unfold wH at h ⊢;split
 ·rename_i h1;rw [aP h1] at h;split
  ·rename_i h2; rw [aP h2] at h; exact absurd h h2
  ·simp only; split<;>assumption
 ·rename_i h1;rw [aO h1] at h;split
  ·rename_i h2; rw [aP h2] at h; exact absurd h h2
  ·simp only; split<;>assumption
theorem zt6{k:Int}{a b:L8}(ha:errR a=0)(hb:errR b=0)(h:(opR k a b).2=0):errR (opR k a b).1=0:=by
 unfold opR at h ⊢;split
 ·rename_i h1; rw [aP h1] at h; exact(zmr ha hb h).1
 ·rename_i h1;rw [aO h1] at h;split
  ·rename_i h2; rw [aP h2] at h; exact(zoi ha hb h).1
  ·rename_i h2;rw [aO h2] at h;split
   ·rename_i h3; rw [aP h3] at h; exact(Xg ha hb h).1
   ·rename_i h3;rw [aO h3] at h;exact zik ha hb h
theorem vy{a:L8}(h:errR a=0):a.length<=2003:=by
 have h1:=(WJ h).2.2.1;rw [<- h1];unfold qstr wz;have g1:=xr (decide ((qv a).num<0)) (qv a).num.natAbs;have g2:=xr (decide (((qv a).den:Int)<0)) ((qv a).den:Int).natAbs;split
 ·omega
 ·simp only [bO,aL,List.length_nil];omega
theorem Ex.Zq{f:List Fx}(hf:f.all okF=true)(day:Int):∀ x:Ex,x.zx=1->(x.ev f day).e=0->errR (x.ev f day).v=0
 | .mk k r n d s,hs,he=>by
  have hc:=Ex.Vp hs;simp only [Ex.kind,Ex.rat,Ex.sub] at hc;rw [Ex.ev] at he ⊢;simp only [evN] at he ⊢;unfold valN at he ⊢;rcases hc with ⟨rfl,h1⟩ | rfl | rfl | ⟨⟨h1,h2⟩,h3,h4,h5⟩ | ⟨rfl,h3,h4,h5,h6⟩
  ·simpa using h1
  ·simp only [show ¬ (2:Int)=1 by decide,if_false,if_true] at he ⊢;exact zd2 hf he
  ·simp only [show ¬ (3:Int)=1 by decide,show ¬ (3:Int)=2 by decide,if_false,if_true] at he ⊢;exact zd2 hf he
  ·rw [aO (by omega),aO (by omega),aO (by omega),aO (by omega)] at he ⊢;rw [Ex.jh (by omega),Ex.jh (by omega)] at he ⊢;unfold Jg at he ⊢;have w0:s.getD 0 Ex.nil∈s:=by simp [List.getD,aF (show 0<s.length by omega)]
   have w1:s.getD 1 Ex.nil∈s:=by simp [List.getD,aF (show 1<s.length by omega)]
   split
   ·rename_i g; rw [aP g] at he; exact absurd he g
   ·rename_i g;rw [aO g] at he;split
    ·rename_i g2; rw [aP g2] at he; exact absurd he g2
    ·rename_i g2;rw [aO g2] at he;rw [Classical.not_not] at g g2;exact zt6 (Ex.Zq hf day _ h4 g) (Ex.Zq hf day _ h5 g2) he
  ·simp only [show ¬ (9:Int)=1 by decide,show ¬ (9:Int)=2 by decide,show ¬ (9:Int)=3 by decide,if_false,if_true] at he ⊢;rw [Ex.jh (by omega),Ex.jh (by omega),Ex.jh (by omega)] at he ⊢;have w1:s.getD 1 Ex.nil∈s:=by simp [List.getD,aF (show 1<s.length by omega)]
   have w2:s.getD 2 Ex.nil∈s:=by simp [List.getD,aF (show 2<s.length by omega)]
   split
   ·rename_i g; rw [aP g] at he; exact absurd he g
   ·rename_i g;rw [aO g] at he;split
    ·rename_i g2; rw [aP g2] at he; exact Ex.Zq hf day _ h5 he
    ·rename_i g2; rw [aO g2] at he; exact Ex.Zq hf day _ h6 he
termination_by x=>x.size
decreasing_by
 all_goals
  rw [Ex.size];have a0:=Ex.qb (s:=s) (i:=0);have a1:=Ex.qb (s:=s) (i:=1);have a2:=Ex.qb (s:=s) (i:=2)
  first
  | (have:=a0 (by omega); omega)
  | (have:=a1 (by omega); omega)
  | (have:=a2 (by omega); omega)
end Go.Nov
end
section
namespace Go.Nov
def askE(x:Ex)(want day:Int)(f:List Fx)(c:List Ch):Int:=if x.errX≠0 then x.errX else if x.zx≠want then 32 else if errE f c≠0 then errE f c else if dayB day then 0 else 2
def jW(x:Ex)(day:Int)(f:List Fx)(c:List Ch):L8×Int:=if askE x 1 day f c≠0 then([],askE x 1 day f c) else if(x.ev f day).e≠0 then([],(x.ev f day).e) else((x.ev f day).v,0)
def xM(x:Ex)(day:Int)(f:List Fx)(c:List Ch):Bool×Int:=if askE x 2 day f c≠0 then(false,askE x 2 day f c) else if(x.ev f day).g≠0 then(false,(x.ev f day).g) else((x.ev f day).b,0)
theorem zuh{x:Ex}{want day:Int}{f:List Fx}{c:List Ch}(h:x.errX≠0):askE x want day f c=x.errX:=by unfold askE; rw [aP h]
theorem zuo{x:Ex}{want day:Int}{f:List Fx}{c:List Ch}(h:x.errX=0)(h2:¬ x.zx=want):askE x want day f c=32:=by unfold askE; rw [aO (by rw [h]; simp),aP h2]
theorem zq3{x:Ex}{want day:Int}{f:List Fx}{c:List Ch}(h:x.errX=0)(h2:x.zx=want):askE x want day f c=if errE f c=0 then(if dayB day=true then 0 else 2) else errE f c:=by
 unfold askE;rw [aO (by rw [h]; simp),aO (by rw [h2]; simp)];by_cases g:errE f c=0
 ·rw [aP g,aO (by rw [g]; simp)]
 ·rw [aO g,aP g]
theorem Wy{x:Ex}{want day:Int}{f:List Fx}{c:List Ch}(h:askE x want day f c=0):x.errX=0/\x.zx=want/\errE f c=0/\dayB day=true:=by
 unfold askE at h;split at h
 ·rename_i g; exact absurd h g
 ·rename_i g1;split at h
  ·cases h
  ·rename_i g2;split at h
   ·rename_i g; exact absurd h g
   ·rename_i g3;split at h
    ·rename_i g4;exact⟨Classical.not_not.1 g1,Classical.not_not.1 g2,Classical.not_not.1 g3,g4⟩
    ·cases h
end Go.Nov
end
section
namespace Go.Nov
open Go.Sx
structure Fl where
 date:Int
 src:L8
 dst:L8
 ccy:L8
 amt:L8
def Fl.nil:Fl:=⟨0,[],[],[],[]⟩
def Fl.cell(f:Fl):Nat->AV
 | 0=>.i f.date
 | 1=>.str f.src
 | 2=>.str f.dst
 | 3=>.str f.ccy
 | 4=>.str f.amt
 | _=>.undef
def flG(l:List Fl):Nat->Nat->AV:=λj=>(l.getD j Fl.nil).cell
def flS(l:List Fl):AV:=.sl l.length 5 (flG l)
def Fl.av(f:Fl):AV:=.agg [.i f.date,.str f.src,.str f.dst,.str f.ccy,.str f.amt]
def payF(d:Int)(a b n r:L8):List Fl:=if r=[48] then [] else if r.getD 0 0=45 then [⟨d,b,a,n,r.drop 1⟩] else [⟨d,a,b,n,r⟩]
def firstM(is:Int->Except Int Bool)(day fin:Int):List Int->Except Int Int
 | []=>.ok fin
 | d::l=>if fin<=d then .ok fin else if day<=d then(match is d with
  | .error e=>.error e
  | .ok true=>.ok d
  | .ok false=>firstM is day fin l) else firstM is day fin l
def jx(k:L8):List Fl->Except Int (List Fl)
 | []=>.ok []
 | f::l=>if(mulR f.amt k).2≠0 then .error (mulR f.amt k).2 else match jx k l with
  | .error e=>.error e
  | .ok m=>.ok (payF f.date f.src f.dst f.ccy (mulR f.amt k).1++m)
def valM(x:Ex)(d:Int)(f:List Fx)(c:List Ch):Except Int (L8):=if(jW x d f c).2=0 then .ok (jW x d f c).1 else .error (jW x d f c).2
def holM(x:Ex)(d:Int)(f:List Fx)(c:List Ch):Except Int Bool:=if(xM x d f c).2=0 then .ok (xM x d f c).1 else .error (xM x d f c).2
def andM{α β:Type}(x:Except Int α)(k:α->Except Int β):Except Int β:=match x with
 | .error e=>.error e
 | .ok a=>k a
mutual
def flM(f:List Fx)(c:List Ch):Con->Int->Int->Except Int (List Fl)
 | .mk k a b n x d l s=>λday fin=>
  if fin<=day then .ok []
  else if k=2 then andM (valM x day f c) λr=>.ok (payF day a b n r)
  else if k=3 then andM ((flMs f c s).getD 0 (λ_ _=>.ok []) day fin) λu=>andM ((flMs f c s).getD 1 (λ_ _=>.ok []) day fin) λv=>.ok (u++v)
  else if k=4 then andM (valM x day f c) λr=>andM ((flMs f c s).getD 0 (λ_ _=>.ok []) day fin) λu=>jx r u
  else if k=5 then andM (holM x day f c) λt=>(flMs f c s).getD (if t=true then 0 else 1) (λ_ _=>.ok []) day fin
  else if k=6 then(if day<=d then(flMs f c s).getD 0 (λ_ _=>.ok []) d fin else .ok [])
  else if k=7 then(flMs f c s).getD (if qi c a n day=true then 0 else 1) (λ_ _=>.ok []) day fin
  else if k=8 then andM (firstM (λt=>.ok (qi c a n t)) day fin l) λt=>(flMs f c s).getD 0 (λ_ _=>.ok []) t fin
  else if k=9 then andM (firstM (λt=>holM x t f c) day fin l) λt=>(flMs f c s).getD 0 (λ_ _=>.ok []) day t
  else if k=10 then andM (firstM (λt=>holM x t f c) day fin l) λt=>(flMs f c s).getD 0 (λ_ _=>.ok []) t fin
  else .ok []
def flMs(f:List Fx)(c:List Ch):List Con->List (Int->Int->Except Int (List Fl))
 | []=>[]
 | e::s=>flM f c e::flMs f c s
end
theorem X5(f:List Fx)(c:List Ch):∀ (s:List Con) (i:Nat),i<s.length->(flMs f c s).getD i (λ_ _=>.ok [])=flM f c (s.getD i Con.nil)
 | [],_,h=>by simp at h
 | e::s,0,_=>by rw [flMs]; rfl
 | e::s,i+1,h=>by rw [flMs,List.getD_cons_succ,List.getD_cons_succ]; exact X5 f c s i (by simpa using h)
def insF(x:Fl):List Fl->List Fl
 | []=>[x]
 | y::l=>if y.date<=x.date then y::insF x l else x::y::l
def ordM(l:List Fl):List Fl:=l.foldl (λm x=>insF x m) []
def befM(c:Con)(day fin:Int)(f:List Fx)(h:List Ch):List Fl×Int:=
 if c.errC≠0 then([],c.errC) else if errE f h≠0 then([],errE f h) else if day<0\/99999<day\/fin<0\/100000<fin then([],2) else match flM f h c day fin with
  | .error e=>([],e)
  | .ok l=>(ordM l,0)
def jL(l:List Fl):Prop:=l.Pairwise λx y=>x.date<=y.date
def onF(d:Int)(l:List Fl):List Fl:=l.filter λy=>decide (y.date=d)
theorem qk(d:Int)(x:Fl)(l:List Fl):onF d (x::l)=if x.date=d then x::onF d l else onF d l:=by
 unfold onF; rw [List.filter_cons]; by_cases h:x.date=d<;>simp [h]
theorem zbt(d:Int)(l m:List Fl):onF d (l++m)=onF d l++onF d m:=by unfold onF; rw [List.filter_append]
theorem Ue{d:Int}{l:List Fl}(h:∀ y∈l,d<y.date):onF d l=[]:=by
 unfold onF;rw [List.filter_eq_nil_iff];intro y hy;have:=h y hy;simp; omega
theorem VF:∀ {l m:List Fl},jL l->jL m->(∀ d,onF d l=onF d m)->l=m
 | [],[],_,_,_=>rfl
 | [],y::m,_,_,h=>by have:=h y.date; rw [qk,aP rfl] at this; cases this
 | x::l,[],_,_,h=>by have:=h x.date; rw [qk,aP rfl] at this; cases this
 | x::l,y::m,hl,hm,h=>by
  unfold jL at hl hm;rw [List.pairwise_cons] at hl hm;have mem:∀ {z:Fl} {n:List Fl},z∈onF z.date n->z∈n:=λhz=>(List.mem_filter.1 hz).1
  have h1:y.date<=x.date:=by
   have:x∈onF x.date (y::m):=by rw [<- h,qk,aP rfl]; simp
   rcases aM.1 (mem this) with e | e
   ·rw [e]; exact Int.le_refl _
   ·exact hm.1 x e
  have h2:x.date<=y.date:=by
   have:y∈onF y.date (x::l):=by rw [h,qk,aP rfl]; simp
   rcases aM.1 (mem this) with e | e
   ·rw [e]; exact Int.le_refl _
   ·exact hl.1 y e
  have h3:y.date=x.date:=by omega
  have h4:=h x.date;rw [qk,qk,aP rfl,aP h3] at h4;have h5:x=y:=(List.cons.inj h4).1;subst h5;congr 1;refine VF hl.2 hm.2 λd=> ?_
  have:=h d;rw [qk,qk] at this;split at this
  ·exact(List.cons.inj this).2
  ·exact this
theorem zd9(x z:Fl):∀ l:List Fl,z∈insF x l↔z=x\/z∈l
 | []=>by simp [insF]
 | y::l=>by
  rw [insF];split
  ·rw [aM,zd9 x z l,aM];exact⟨λh=>by rcases h with h | h | h<;>simp [h],λh=>by rcases h with h | h | h<;>simp [h]⟩
  ·simp
theorem Ui(x:Fl):∀ {l:List Fl},jL l->jL (insF x l)
 | [],_=>by unfold jL; simp [insF]
 | y::l,h=>by
  unfold jL at h;rw [List.pairwise_cons] at h;rw [insF];split
  ·rename_i hle;unfold jL;rw [List.pairwise_cons];refine⟨λz hz=> ?_,Ui x h.2⟩;rcases(zd9 x z l).1 hz with e | e
   ·rw [e]; exact hle
   ·exact h.1 z e
  ·rename_i hlt;unfold jL;rw [List.pairwise_cons,List.pairwise_cons];refine⟨λz hz=> ?_,h⟩;rcases aM.1 hz with e | e
   ·rw [e]; omega
   ·have:=h.1 z e; omega
theorem zk3(x:Fl)(d:Int):∀ {l:List Fl},jL l->onF d (insF x l)=onF d l++onF d [x]
 | [],_=>by rw [insF]; rfl
 | y::l,h=>by
  have h0:=h;unfold jL at h;rw [List.pairwise_cons] at h;rw [insF];split
  ·rw [qk,qk,zk3 x d h.2];split<;>simp
  ·rename_i hlt;rw [qk d x];by_cases hx:x.date=d
   ·have hn:onF d (y::l)=[]:=Ue λz hz=>by
     rcases aM.1 hz with e | e
     ·rw [e]; omega
     ·have:=h.1 z e; omega
    rw [aP hx,hn,qk,aP hx]; rfl
   ·rw [aO hx,qk d x,aO hx];show _=_++[];rw [List.append_nil]
theorem Xl:∀ (l m:List Fl),jL m->jL (l.foldl (λm x=>insF x m) m)/\∀ d,onF d (l.foldl (λm x=>insF x m) m)=onF d m++onF d l
 | [],m,h=>⟨h,λd=>by show onF d m=onF d m++[]; rw [List.append_nil]⟩
 | x::l,m,h=>by
  obtain⟨h1,h2⟩:=Xl l (insF x m) (Ui x h);refine⟨h1,λd=> ?_⟩;rw [List.foldl_cons,h2,zk3 x d h,List.append_assoc,<- zbt]; rfl
theorem zhr(l:List Fl):jL (ordM l):=(Xl l [] List.Pairwise.nil).1
theorem zsc(d:Int)(l:List Fl):onF d (ordM l)=onF d l:=by
 have:=(Xl l [] List.Pairwise.nil).2 d;simpa [ordM,onF] using this
def qz:Nat->List Fl->List Fl->List Fl
 | n+1,x::a,y::b=>if y.date<x.date then y::qz n (x::a) b else x::qz n a (y::b)
 | _,a,b=>a++b
theorem yE(n:Nat)(a:List Fl):qz n a []=a:=by cases n<;>cases a<;>simp [qz]
theorem xt(n:Nat)(b:List Fl):qz n [] b=b:=by cases n<;>simp [qz]
theorem yy(z:Fl):∀ (n:Nat) (a b:List Fl),z∈qz n a b↔z∈a\/z∈b
 | 0,a,b=>by simp [qz]
 | n+1,[],b=>by rw [xt]; simp
 | n+1,x::a,[]=>by rw [yE]; simp
 | n+1,x::a,y::b=>by
  rw [qz];split
  ·rw [aM,yy z n (x::a) b,aM (l:=b)];exact⟨λh=>by rcases h with h | h | h<;>simp [h],λh=>by rcases h with h | h | h<;>simp [h]⟩
  ·rw [aM,yy z n a (y::b),aM (l:=a)];exact⟨λh=>by rcases h with h | h | h<;>simp [h],λh=>by rcases h with (h | h) | h<;>simp [h]⟩
theorem ZH:∀ (n:Nat) (a b:List Fl),a.length+b.length<=n->jL a->jL b->jL (qz n a b)/\∀ d,onF d (qz n a b)=onF d a++onF d b
 | n,[],b,_,_,hb=>by rw [xt]; exact⟨hb,λd=>rfl⟩
 | n,x::a,[],_,ha,_=>by rw [yE]; exact⟨ha,λd=>by show _=_++[]; rw [List.append_nil]⟩
 | 0,x::a,y::b,h,_,_=>by simp at h
 | n+1,x::a,y::b,h,ha,hb=>by
  have ha':=ha;have hb':=hb;unfold jL at ha' hb';rw [List.pairwise_cons] at ha' hb';simp only [aL] at h;rw [qz];split
  ·rename_i hlt;obtain⟨h1,h2⟩:=ZH n (x::a) b (by simp only [aL]; omega) ha hb'.2;refine⟨?_,λd=> ?_⟩
   ·unfold jL;rw [List.pairwise_cons];refine⟨λz hz=> ?_,h1⟩;rcases(yy z n _ _).1 hz with e | e
    ·rcases aM.1 e with e | e
     ·rw [e]; omega
     ·have:=ha'.1 z e; omega
    ·exact hb'.1 z e
   ·rw [qk,h2,qk d y b];by_cases hy:y.date=d
    ·have hn:onF d (x::a)=[]:=Ue λz hz=>by
      rcases aM.1 hz with e | e
      ·rw [e]; omega
      ·have:=ha'.1 z e; omega
     rw [aP hy,aP hy,hn]; rfl
    ·rw [aO hy,aO hy]
  ·rename_i hge;obtain⟨h1,h2⟩:=ZH n a (y::b) (by simp only [aL]; omega) ha'.2 hb;refine⟨?_,λd=> ?_⟩
   ·unfold jL;rw [List.pairwise_cons];refine⟨λz hz=> ?_,h1⟩;rcases(yy z n _ _).1 hz with e | e
    ·exact ha'.1 z e
    ·rcases aM.1 e with e | e
     ·rw [e]; omega
     ·have:=hb'.1 z e; omega
   ·rw [qk,h2,qk d x a];split<;>simp
def ordP:Nat->List Fl->List Fl
 | 0,l=>l
 | n+1,l=>if l.length<2 then l else qz l.length (ordP n (l.take (l.length/2))) (ordP n (l.drop (l.length/2)))
theorem Zj:∀ (n:Nat) (l:List Fl),l.length<=n->jL (ordP n l)/\(∀ d,onF d (ordP n l)=onF d l)/\(ordP n l).length=l.length
 | 0,l,h=>by
  obtain rfl:l=[]:=aU.1 (by omega);exact⟨List.Pairwise.nil,λd=>rfl,rfl⟩
 | n+1,l,h=>by
  rw [ordP];split
  ·rename_i h2;refine⟨?_,λd=>rfl,rfl⟩
   match l,h2 with
   | [],_=>exact List.Pairwise.nil
   | [x],_=>unfold jL; simp
  ·have e1:(l.take (l.length/2)).length<=n:=by rw [aH]; omega
   have e2:(l.drop (l.length/2)).length<=n:=by rw [bW]; omega
   obtain⟨a1,a2,a3⟩:=Zj n _ e1;obtain⟨b1,b2,b3⟩:=Zj n _ e2
   have hlen:(ordP n (l.take (l.length/2))).length+(ordP n (l.drop (l.length/2))).length=l.length:=by
    rw [a3,b3,aH,bW]; omega
   obtain⟨c1,c2⟩:=ZH l.length _ _ (by omega) a1 b1;refine⟨c1,λd=> ?_,?_⟩
   ·rw [c2,a2,b2,<- zbt,bU]
   ·rw [Qf,hlen]
where
 Qf:∀ {n:Nat} {a b:List Fl},(qz n a b).length=a.length+b.length
  | 0,a,b=>by simp [qz]
  | n+1,[],b=>by rw [xt]; simp
  | n+1,x::a,[]=>by rw [yE]; simp
  | n+1,x::a,y::b=>by
   rw [qz];split
   ·rw [aL,Qf]; simp; omega
   ·rw [aL,Qf]; simp; omega
theorem Zh{n:Nat}{l:List Fl}(h:l.length<=n):ordP n l=ordM l:=by
 obtain⟨h1,h2,_⟩:=Zj n l h;exact VF h1 (zhr l) λd=>by rw [h2,zsc]
end Go.Nov
end
section
namespace Go.Nov
open Go.Sx
structure Ver where
 day:Int
 con:Con
abbrev Ver.nil:Ver:=⟨0,Con.nil⟩
def Ver.cell(d:Int)(c:Con):Nat->AV
 | 0=>.i d
 | 1=>.int .u8 c.kind
 | 2=>.str c.src
 | 3=>.str c.dst
 | 4=>.str c.name
 | 5=>.int .u8 c.x.kind
 | 6=>.str c.x.rat
 | 7=>.str c.x.name
 | 8=>.i c.x.date
 | 9=>.sl c.x.sub.length 5 (Ex.exG c.x.sub)
 | 10=>.i c.date
 | 11=>.sl c.days.length 1 (Con.dayG c.days)
 | 12=>.sl c.sub.length 12 c.deep
 | _=>.undef
def verG(s:List Ver):Nat->Nat->AV:=λj=>Ver.cell (s.getD j Ver.nil).day (s.getD j Ver.nil).con
def verS(s:List Ver):AV:=.sl s.length 13 (verG s)
def verA(s:List Ver):AV:=.agg [.sl s.length 13 (verG s)]
def Ver.cells(v:Ver):List AV:=[.i v.day,.int .u8 v.con.kind,.str v.con.src,.str v.con.dst,.str v.con.name,.int .u8 v.con.x.kind,.str v.con.x.rat,.str v.con.x.name,.i v.con.x.date,.sl v.con.x.sub.length 5 (Ex.exG v.con.x.sub),.i v.con.date,.sl v.con.days.length 1 (Con.dayG v.con.days),.sl v.con.sub.length 12 v.con.deep]
def Ver.av(v:Ver):AV:=.agg v.cells
def endL(s:List Ver)(i:Nat):Int:=if i+1<s.length then(s.getD (i+1) Ver.nil).day else 100000
def vM(d:Int):Bool:=decide (0<=d)&&decide (d<=99999)
def okAt(s:List Ver)(i:Nat):Bool:=vM (s.getD i Ver.nil).day&&(decide (i=0)||decide ((s.getD (i - 1) Ver.nil).day<(s.getD i Ver.nil).day))&&decide ((s.getD i Ver.nil).con.errC=0)
def okV(s:List Ver):Bool:=decide (1<=s.length)&&decide (s.length<=100)&&(List.range s.length).all (okAt s)
def errV(s:List Ver):Int:=if okV s=true then 0 else 8
def flAt(s:List Ver)(f:List Fx)(h:List Ch)(i:Nat):List Fl×Int:=befM (s.getD i Ver.nil).con (s.getD i Ver.nil).day (endL s i) f h
def yb(s:List Ver)(f:List Fx)(h:List Ch)(l:List Nat):List Fl:=l.flatMap λi=>(flAt s f h i).1
def Yp(s:List Ver)(f:List Fx)(h:List Ch)(n:Nat):Option Nat:=(List.range n).find? λi=>decide ((flAt s f h i).2≠0)
def flV(s:List Ver)(f:List Fx)(h:List Ch):List Fl×Int:=
 if errV s≠0 then([],errV s) else if errE f h≠0 then([],errE f h) else match Yp s f h s.length with
  | some i=>([],(flAt s f h i).2)
  | none=>(yb s f h (List.range s.length),0)
def newV(c:Con)(d:Int):List Ver×Int:=if c.errC≠0 then([],c.errC) else if vM d=false then([],2) else([⟨d,c⟩],0)
def chgV(s:List Ver)(d:Int)(c:Con):List Ver×Int:=
 if errV s≠0 then([],errV s) else if c.errC≠0 then([],c.errC) else if vM d=false then([],2) else if d<=(s.getD (s.length - 1) Ver.nil).day then([],40) else if s.length=100 then([],22) else(s++[⟨d,c⟩],0)
def undV(s:List Ver):List Ver×Int:=if errV s≠0 then([],errV s) else if s.length=1 then([],6) else(s.take (s.length - 1),0)
def inV(s:List Ver)(d:Int)(i:Nat):Bool:=decide ((s.getD i Ver.nil).day<=d)&&decide (d<endL s i)
def atV(s:List Ver)(d:Int):Con×Int:=
 if errV s≠0 then(Con.nil,errV s) else if vM d=false then(Con.nil,2) else match(List.range s.length).find? (inV s d) with
  | some i=>((s.getD i Ver.nil).con,0)
  | none=>(Con.nil,6)
theorem w7{s:List Ver} : errV s=0↔okV s=true:=by
 unfold errV; split<;>simp_all
theorem Zb{s:List Ver}(h:okV s=true):1<=s.length/\s.length<=100:=by
 unfold okV at h;simp only [bA,aK] at h;exact h.1
theorem zkl{s:List Ver}(h:okV s=true){i:Nat}(hi:i<s.length):okAt s i=true:=by
 unfold okV at h;simp only [bA,bG] at h;exact h.2 i (List.mem_range.2 hi)
theorem YM{s:List Ver}{i:Nat} : okAt s i=true↔(0<=(s.getD i Ver.nil).day/\(s.getD i Ver.nil).day<=99999)/\(i=0\/(s.getD (i - 1) Ver.nil).day<(s.getD i Ver.nil).day)/\(s.getD i Ver.nil).con.errC=0:=by
 unfold okAt vM;simp only [bA,Bool.or_eq_true,aK];constructor
 ·rintro⟨⟨a,b⟩,c⟩; exact⟨a,b,c⟩
 ·rintro⟨a,b,c⟩; exact⟨⟨a,b⟩,c⟩
theorem ziu{s:List Ver}(h1:1<=s.length)(h2:s.length<=100)(h3:∀ i,i<s.length->okAt s i=true):okV s=true:=by
 unfold okV;simp only [bA,aK,bG];exact⟨⟨h1,h2⟩,λi hi=>h3 i (List.mem_range.1 hi)⟩
theorem zmt{s:List Ver}{i:Nat}(hi:i<s.length)(h:okAt s i=false):okV s=false:=by
 cases hk:okV s with
 | false=>rfl
 | true=>rw [zkl hk hi] at h; cases h
theorem zfz{s t:List Ver}(hl:s.length=t.length)(h:∀ j,j<s.length->(s.getD j Ver.nil).day=(t.getD j Ver.nil).day/\(s.getD j Ver.nil).con=(t.getD j Ver.nil).con):s=t:=by
 apply List.ext_getElem hl;intro j g1 g2;have:=h j g1;simp only [List.getD,aF g1,aF g2,Option.getD_some] at this;cases hx:s[j] with | mk a b=>cases hy:t[j] with | mk c d=>rw [hx,hy] at this; simp only at this; rw [this.1,this.2]
theorem ztg{s:List Ver}(h:okV s=true):∀ {i j:Nat},i<j->j<s.length->(s.getD i Ver.nil).day<(s.getD j Ver.nil).day:=by
 intro i j hij hj
 induction j with
 | zero=>omega
 | succ j ih=>
  have h1:=(YM.1 (zkl h hj)).2.1
  have h2:(s.getD j Ver.nil).day<(s.getD (j+1) Ver.nil).day:=by
   rcases h1 with h1 | h1
   ·omega
   ·simpa using h1
  rcases aR i j with h3 | h3
  ·have:=ih h3 (by omega); omega
  ·have:i=j:=by omega
   rw [this]; exact h2
end Go.Nov
end
section
namespace Go.Sx
variable [Stat]
section
variable {O:Nat->Prop} {pin:Nat} {w0:World} {I0:List SE} {P:Program} {fn:Func}
def noH(n:Nat):Heap:=.box [.ptr n 0]::List.replicate (n - 1) (.box [])
theorem zbo{n:Nat}(h:1<=n):(noH n).length=n:=by simp [noH]; omega
theorem zf8(n:Nat):∀ b∈noH n,alive b:=by
 intro b hb;unfold noH at hb;rcases aM.1 hb with rfl | hb
 ·trivial
 ·rw [List.eq_of_mem_replicate hb]; trivial
theorem zc.never{M:Option Nat}{Hs:Nat->KV->Heap->Prop}{R:List AV->Heap->Prop}{k:List Item}{kv:KV}{n:Nat}(hn:1<=n):zB M P fn O pin w0 I0 Hs R k (mk fn.ntmps kv (noH n)):=by
 intro w σ a hm;have hl:σ.length=n:=by rw [hm.hp.len]; exact zbo hn
 have h0:σ[0]?=some (σ[0]'(by omega)):=aF _;have hb:=hm.hp.blk 0 _ (.box [.ptr n 0]) h0 rfl;simp only [BRep] at hb;obtain⟨ad,vs,el,_,_,_,q⟩:=hb;simp only [RepL,Rep] at q;obtain⟨v,r,_,⟨e,ad',he,_⟩,_⟩:=q;have:=(aG.1 he).1;omega
open Classical in
theorem zc.zrk{α:Type}{Hs:Nat->KV->Heap->Prop}{R:List AV->Heap->Prop}{k:List Item}{c:Code}{kv:KV}{h:Heap}{tg tp td t n gf:Nat}{cap:List AV}{zs:List AV}(I:List α->Prop)(hc:Ky c tg tp td t=true)(hz:zeroCells P t=some zs)(hn:zW P t=some n)(hzl:zs.length=n)
  (he:∀ args w,(callFunc gf args).run P w = .ok (.enter gf args) w) (av:α->AV) (cs:α->List AV) (hcs:∀ x,cellsOf (av x)=some (cs x)/\(cs x).length=n/\(cs x).all oneA=true/\(cs x).all kb=true) (H Hx:List α->Heap) (X S Sp:List α->Prop) (N pinR:Nat)
  (hg:look kv tg = .fn gf [] cap) (htg:tg<fn.ntmps) (htp:tp<fn.ntmps) (htd:td<fn.ntmps) (hne:td≠tp) (hle:LeK pin fn.ntmps kv h kv (H [])) (hlow:(pk fn.ntmps kv).all (lowB pinR)=true) (hpin:pin<=pinR) (hpos:1<=pinR) (hI:I []) (hlen:∀ pre,(H pre).length=pinR)
  (halive:∀ pre,∀ b∈H pre,alive b) (halivex:∀ pre,∀ b∈Hx pre,alive b)
  (iter:∀ w σ a,Mod O pin w0 I0 w σ (mk fn.ntmps kv (H [])) a->∀ vb,RepL (Own O σ) w cap σ vb->∃ ev:α->Value,SeqStopsK Fence.wide 0 P gf vb.toArray (λx=> #[ev x]) (zO (Own O σ)) S Sp N w/\∀ x,Rep (Own O σ) w (av x) [] (ev x))
  (round:∀ l pre x,I pre->pre.length<N->∀ (W:World) (E1:List SE),zB (some l) P (bare fn) O pinR W E1 (λd kv' h'=>I (pre++[x])/\LeK pinR fn.ntmps [] h' [] (H (pre++[x]))) (λ_ h'=>X (pre++[x])/\LeK pinR fn.ntmps [] h' [] (Hx (pre++[x]))) [.code (wO c),.inLoop] (mk fn.ntmps ((td,.iptr n λo=>(cs x).getD o .undef)::(tp,av x)::kv) (H pre)))
  (done:∀ xs,S xs->I xs->zc P fn O pin w0 I0 Hs R k (mk fn.ntmps kv (H xs)))
  (stop:∀ pre,Sp pre->X pre->(resX P (mk fn.ntmps kv (Hx pre)) fn.results.toList).holds λrs=>R rs (Hx pre)) :
  zc P fn O pin w0 I0 Hs R (.code c::k) (mk fn.ntmps kv h):=by
 refine zc.zj3 hc hz hn hzl he av cs hcs (λpre=>if I pre then H pre else noH pinR) Hx X S Sp N pinR hg htg htp htd hne (by rw [aP hI]; exact hle) hlow hpin (λpre=> ?_) (λpre=> ?_) halivex ?_ ?_ ?_ stop
 ·split
  ·exact hlen pre
  ·exact zbo hpos
 ·split
  ·exact halive pre
  ·exact zf8 _
 ·rw [aP hI]; exact iter
 ·intro l pre x hl W E1;by_cases h1:I pre
  ·simp only [aP h1];intro w σ a hm;refine Wh ?_ (round l pre x h1 hl W E1 w σ a hm);rintro d a' w' ⟨st,Z',⟨kv',h',⟨h2,h3⟩,rfl⟩,hm'⟩;exact⟨_,Z',⟨kv',h',by rw [aP h2]; exact h3,rfl⟩,hm'⟩
  ·simp only [aO h1];exact zc.never (fn:=bare fn) hpos
 ·intro xs hs;by_cases h1:I xs
  ·simp only [aP h1]; exact done xs hs h1
  ·simp only [aO h1]; exact zc.never hpos
end
end Go.Sx
end
section
namespace Go.Sx
variable [Stat]
open Go.RowKit (Below)
def QE(c:Code)(tg tp tq td te t:Nat):Bool:=match c with
 | .rangeFunc (.tmp g) ps (.seq (.region _ ops false) (.region _ ops2 false)) _=>decide (g=tg)&&decide (ps.toList=[tp,tq])&&(match ops.toList with
  | [o1,o2]=>(decide (o1.dst=some td)&&o1.guard.isNone&&decide (o2.dst=none)&&o2.guard.isNone)&&(match o1.op with
   | .alloc u=>decide (u=t)
   | _=>false)&&(match o2.op with
   | .store u (.tmp p) (.tmp q)=>decide (u=t)&&decide (p=td)&&decide (q=tp)
   | _=>false)
  | _=>false)&&(match ops2.toList with
  | [o]=>decide (o.dst=some te)&&o.guard.isNone&&(match o.op with
   | .assign (.tmp q)=>decide (q=tq)
   | _=>false)
  | _=>false)
 | _=>false
theorem uQ{c:Code}{tg tp tq td te t:Nat}(h:QE c tg tp tq td te t=true):∃ id id2 o1 o2 o3,c = .rangeFunc (.tmp tg) #[tp,tq] (.seq (.region id #[o1,o2] false) (.region id2 #[o3] false)) (wO c)/\(o1.dst=some td/\o1.guard=none/\o1.op = .alloc t)/\(o2.dst=none/\o2.guard=none/\o2.op = .store t (.tmp td) (.tmp tp))/\o3.dst=some te/\o3.guard=none/\o3.op = .assign (.tmp tq):=by
 unfold QE at h;split at h
 ·rename_i g ps id ops id2 ops2 body;simp only [bA,aK] at h;obtain⟨⟨⟨rfl,h2⟩,h3⟩,k3⟩:=h;split at h3
  ·rename_i o1 o2 ho;simp only [bA,aK,Option.isNone_iff_eq_none] at h3;obtain⟨⟨⟨⟨⟨h4,h5⟩,h6⟩,h7⟩,h8⟩,h9⟩:=h3;split at h8
   ·rename_i u hu;simp only [aK] at h8;subst h8;split at h9
    ·rename_i v p q hv;simp only [bA,aK] at h9;obtain⟨⟨rfl,rfl⟩,rfl⟩:=h9;split at k3
     ·rename_i o3 ho3;simp only [bA,aK,Option.isNone_iff_eq_none] at k3;obtain⟨⟨k4,k5⟩,k6⟩:=k3;split at k6
      ·rename_i q' hq';simp only [aK] at k6;subst k6;refine⟨id,id2,o1,o2,o3,?_,⟨h4,h5,hu⟩,⟨h6,h7,hv⟩,k4,k5,hq'⟩;have e1:ps = #[q,q']:=by rw [<- Array.toList_inj]; exact h2
       have e2:ops = #[o1,o2]:=by rw [<- Array.toList_inj]; exact ho
       have e3:ops2 = #[o3]:=by rw [<- Array.toList_inj]; exact ho3
       rw [e1,e2,e3]; rfl
      ·cases k6
     ·cases k3
    ·cases h9
   ·cases h8
  ·cases h3
 ·cases h
section
variable {O:Nat->Prop} {pin:Nat} {w0:World} {I0:List SE} {w:World} {σ:List SE} {P:Program} {a:Act} {fn:Func} {Γ:Nat->Option Ctr}
theorem VM{F:Fence}{n:Nat}{c d:Code}{K:Act->World->Prop}{Qe:Exit->Act->World->Prop}(h:c.wpIn F n P (Exit.then (λa w=>d.wpIn F n P (Exit.then K Qe) a w) (Exit.then K Qe)) a w):(Code.seq c d).wpIn F n P (Exit.then K Qe) a w:=by
 exact wpIn_seq h
end
section
variable {O:Nat->Prop} {pin:Nat} {w0:World} {I0:List SE} {P:Program} {fn:Func}
open Classical in
end
end Go.Sx
end
section
namespace Go.Sx
variable [Stat]
open Go.RowKit (Below)
section
variable {O:Nat->Prop} {pin:Nat} {w0:World} {I0:List SE} {w:World} {σ:List SE} {P:Program} {a:Act} {fn:Func} {Γ:Nat->Option Ctr}
theorem zc.zmm{α:Type}{Hs:Nat->KV->Heap->Prop}{R:List AV->Heap->Prop}{k k1:List Item}{c:Code}{kv0 kv:KV}{h:Heap}{tg tp tq td te t n gf id0:Nat}{cap:List AV}{zs:List AV}(hc:QE c tg tp tq td te t=true)(hz:zeroCells P t=some zs)(hn:zW P t=some n)(hzl:zs.length=n)
  (he:∀ args w,(callFunc gf args).run P w = .ok (.enter gf args) w) (av:α->AV) (cs:α->List AV) (hcs:∀ x,cellsOf (av x)=some (cs x)/\(cs x).length=n/\(cs x).all oneA=true/\(cs x).all kb=true) (bv:α->AV) (hbv:∀ x,kb (bv x)=true) (I:List α->Prop) (H Hx Hy:List α->Heap) (X Y S Sp:List α->Prop) (N pinR:Nat)
  (hg:look kv0 tg = .fn gf [] cap) (htg:tg<fn.ntmps) (htp:tp<fn.ntmps) (htq:tq<fn.ntmps) (htd:td<fn.ntmps) (hte:te<fn.ntmps) (hd1:tp≠tq) (hd2:td≠tp) (hd3:td≠tq) (hd4:te≠tp) (hd5:te≠tq) (hd6:te≠td) (hle:LeK pin fn.ntmps kv0 h kv (H [])) (hI:I []) (hlow:(pk fn.ntmps kv).all (lowB pinR)=true) (hpin:pin<=pinR) (hlen:∀ pre,(H pre).length=pinR)
  (halive:∀ pre,∀ b∈H pre,alive b) (halivex:∀ pre,∀ b∈Hx pre,alive b) (halivey:∀ pre,∀ b∈Hy pre,alive b)
  (iter:∀ w σ a,Mod O pin w0 I0 w σ (mk fn.ntmps kv0 h) a->∀ vb,RepL (Own O σ) w cap σ vb->∃ ev ew:α->Value,SeqStopsK Fence.wide 0 P gf vb.toArray (λx=> #[ev x,ew x]) (zO (Own O (σ.take pinR))) S Sp N w/\(∀ x,Rep (Own O (σ.take pinR)) w (av x) [] (ev x))/\∀ x,Rep (Own O (σ.take pinR)) w (bv x) [] (ew x))
  (round:∀ l pre x,I pre->pre.length<N->∀ (W:World) (E1:List SE),zB (some l) P (bare fn) O pinR W E1 (λd kv' h'=>(d=1/\I (pre++[x])/\LeK pinR fn.ntmps [] h' [] (H (pre++[x])))\/(d=0/\Y (pre++[x])/\LeK pinR fn.ntmps [] h' [] (Hy (pre++[x])))) (λ_ h'=>X (pre++[x])/\LeK pinR fn.ntmps [] h' [] (Hx (pre++[x]))) [.code (wO c),.inLoop,.inBlock id0,.inLoop] (mk fn.ntmps ((te,bv x)::(td,.iptr n λo=>(cs x).getD o .undef)::(tq,bv x)::(tp,av x)::kv) (H pre)))
  (done:∀ xs,S xs->I xs->zc P fn O pin w0 I0 Hs R k (mk fn.ntmps kv (H xs)))
  (hex:(∃ pre,Y pre)->exitTo id0 k=some k1) (leave:∀ pre,Sp pre->Y pre->zc P fn O pin w0 I0 Hs R k1 (mk fn.ntmps kv (Hy pre)))
  (stop:∀ pre,Sp pre->X pre->(resX P (mk fn.ntmps kv (Hx pre)) fn.results.toList).holds λrs=>R rs (Hx pre)) :
  zc P fn O pin w0 I0 Hs R (.code c::k) (mk fn.ntmps kv0 h):=by
 obtain⟨id,id2,o1,o2,o3,hco,ho1,ho2,ho3,ho4,ho5⟩:=uQ hc;generalize wO c=body at *
 subst hco;clear hc;intro w σ a hm0;have hm:=hle.le.mod hm0;have hpR:(mk fn.ntmps kv (H [])).heap.length=pinR:=hlen [];rw [hpR] at hm;simp only [wpK];have hgt:=hm0.tm tg;have hev:(mk fn.ntmps kv0 h).tmps.getD tg .undef = .fn gf [] cap:=by simp only [mk]; rw [qH htg]; exact hg
 rw [hev] at hgt;simp only [TRep,Rep] at hgt;obtain⟨va,vb,hval,hva,hvb⟩:=hgt;have hva:va=[]:=by simpa [RepL] using hva
 subst hva;obtain⟨ev,ew,hseq,hev0,hew0⟩:=iter w σ a hm0 vb hvb;clear hm0 hvb;generalize σ.take pinR=σ at hm hseq hev0 hew0;have hZl:σ.length=pinR:=by rw [hm.hp.len]; exact hlen []
 have hkeep:∀ W,Ext (Own O σ) w (Own O σ) W->∀ x,Rep (Own O σ) W (av x) σ (ev x):=λW hx x=>zK (K:=[]) (E1:=[]) hx (λi e h=>by simp at h) _ _ (qm _) (hev0 x)
 have hkeep2:∀ W,Ext (Own O σ) w (Own O σ) W->∀ x,Rep (Own O σ) W (bv x) σ (ew x):=λW hx x=>zK (K:=[]) (E1:=[]) hx (λi e h=>by simp at h) _ _ (qm _) (hew0 x)
 have extG:∀ {W W':World} {row:Option Nat},W.grownBy W' row->(∀ r,row=some r->w.heap.size<=r/\∃ o:Obj,W.heap[r]?=some o/\o.isCells=false)->Ext (Own O σ) w (Own O σ) W->Ext (Own O σ) w (Own O σ) W':=λhg hr hx=>
  ⟨hg.os.trans hx.os,hg.tape.trans hx.tape,hg.output.trans hx.output,bP hx.size hg.size,λb hb hn=>by
   rw [hg.block b (bB hb hx.size) λe=>by have:=(hr b e.symm).1; omega];exact hx.keep b hb hn,λb hb=>.inl hb⟩
 have hB:∀ d∈a.defers,∃ D,d={ target:=.collected D,args:= #[] } /\ D<w.heap.size:=by
  intro d hd;obtain⟨D,h1,_,_,h4⟩:=hm.df.2 d hd;exact⟨D,h1,(aQ.1 h4).1⟩
 have hOB:∀ b,O b->b<w.heap.size:=hm.good.old;have hsz:a.tmps.size=fn.ntmps:=by rw [hm.size]; simp [mk,pk]
 have turnM:∀ {Hh:Heap} {τ:List SE} {W W':World} {row:Option Nat},(∀ b∈Hh,alive b)->W.grownBy W' row->(∀ r,row=some r->w.heap.size<=r/\∃ o:Obj,W.heap[r]?=some o/\o.isCells=false)->Mod O pin w0 I0 W τ (mk fn.ntmps kv Hh) a->Mod O pin w0 I0 W' τ (mk fn.ntmps kv Hh) a:=by
  intro Hh τ W W' row hal hgr hr hM
  have:=hM.turn hgr (ds:=a.defers) (λr e=>⟨bP hm.since.ext.size (hr r e).1,(hr r e).2⟩) (.inl (vu hal)) (hM.df.turn hgr λr e hmem=>by
   obtain⟨D,h1,h2⟩:=hB _ hmem;have:=(hr r e).1;simp only [Deferred.mk.injEq,Target.collected.injEq,and_true] at h1;omega)
  exact this
 have push:∀ (D:Nat) (Hh:Heap) (W:World) (Z':List SE),(∀ b∈Hh,alive b)->w.heap.size<=D->W.heap[D]?=some (.deferred (some []))->Mod O pin w0 I0 W Z' (mk fn.ntmps kv Hh) a->Mod O pin w0 I0 W Z' (mk fn.ntmps kv Hh) { a with defers:={ target:=.collected D,args:= #[] } :: a.defers } :=by
  intro D Hh W Z' hal hD hWD hM;refine⟨hM.good,hM.hp,hM.size,hM.tm,⟨List.nodup_cons.2 ⟨λhmem=> ?_,hM.df.1⟩,λd hd=> ?_⟩,hM.since,hM.lim⟩
  ·obtain⟨D',h1,h2⟩:=hB _ hmem;simp only [Deferred.mk.injEq,Target.collected.injEq,and_true] at h1;omega
  ·rcases aM.1 hd with rfl | hd
   ·refine⟨D,rfl,bP hm.since.ext.size hD,?_,hWD⟩;rintro(hO | hM')
    ·have:=hOB D hO; omega
    ·obtain⟨cs,el,fr,hcs⟩:=wX hM.hp hal hM';rw [hWD] at hcs; cases hcs
   ·exact hM.df.2 d hd
 let act:α->Nat->Act:=λx B=>{ tmps:=(((a.tmps.setIfInBounds tp (ev x)).setIfInBounds tq (ew x)).setIfInBounds td (.pointer (some ⟨B,0,none⟩))).setIfInBounds te (ew x),defers:=[] }
 refine xz 1 0 ?_
 refine wpIn_rangeFunc_ownH (F:=Fence.wide) rfl (aJ 1) (gf:=gf) (lb:=vb.toArray) (by simp only [Act.eval]; exact hval) trivial he (encs:=λx=> #[ev x,ew x]) (Kp:=zO (Own O σ)) (S:=S) (Sp:=Sp) (N:=N) (w0:=w) hseq
  (λh1 h2=>h1.trans h2) (λW l o o' h1 h2 h3 _=>zO.grown (grownBy_putObj' W l o') λr e=>by cases e; exact⟨o,h2,h3⟩) (Below.refl _ _) (λ_=>rfl)
  (λpre W=>I pre/\Ext (Own O σ) w (Own O σ) W/\Mod O pin w0 I0 W σ (mk fn.ntmps kv (H pre)) a) (λc pre W=>(c = .ret/\X pre/\∃ Z',Mod O pin w0 I0 W Z' (mk fn.ntmps kv (Hx pre)) a)\/(c = .exit id0/\Y pre/\∃ Z',Mod O pin w0 I0 W Z' (mk fn.ntmps kv (Hy pre)) a))
  (λpre W W' row hI hgr hr=>⟨hI.1,extG hgr hr hI.2.1,turnM (halive pre) hgr hr hI.2.2⟩) (λc pre W W' row hI hgr hr=>hI.imp (λhI=>⟨hI.1,hI.2.1,hI.2.2.imp λ_ h=>turnM (halivex pre) hgr hr h⟩) (λhI=>⟨hI.1,hI.2.1,hI.2.2.imp λ_ h=>turnM (halivey pre) hgr hr h⟩)) ⟨hI,Ext.refl _ _,hm⟩
  (λx a' W=>∃ B,a'=act x B/\¬ Own O σ B/\(∃ pre,Mod O pin w0 I0 W σ (mk fn.ntmps kv (H pre)) a)/\W.heap[B]?=some (.cells (ev x).cells t (0,0)))
  ?_ ?_ ?_ ?_ ?_
 ·
  rintro x a' _ W W' row ⟨B,h1,h2,⟨pre,h0⟩,h3⟩ hgr hr;have hk:=kO h0 hgr λr e=>⟨bP hm.since.ext.size (hr r e).1,(hr r e).2⟩
  exact⟨B,h1,h2,⟨pre,turnM (halive pre) hgr hr h0⟩,hk.cells _ _ _ _ h3⟩
 ·
  rintro l pre x W K ⟨hIp,hxt,hM⟩ hK
  have htpv:((a.tmps.setIfInBounds tp (ev x)).setIfInBounds tq (ew x)).getD tp undef=ev x:=by
   simp only [bQ];rw [Array.getElem?_setIfInBounds_ne (Ne.symm hd1)];simp [hsz,htp]
  have hx:=hkeep W hxt x;have hcl:=zM (hcs x).1 hx
  suffices hgoal:Code.wpIn (FM (some l)) 0 P (.seq (.region id #[o1,o2] false) (.region id2 #[o3] false)) (Exit.then K (λ_ _ _=>False)) { tmps:=(a.tmps.setIfInBounds tp (ev x)).setIfInBounds tq (ew x),defers:=[] } W by simpa [FM] using hgoal
  refine VM (Kt ho1 ho2 hz hn hzl hd2 (by simp [hsz,htd]) (by rw [htpv]; have:=hcl.length; simp at this; rw [<- (hcs x).2.1]; omega) ?_ λW' hB hgr=>uB ho3 ho4 ho5 ?_)
  ·rw [htpv];intro u hu;obtain⟨j,hj,hju⟩:=List.mem_iff_getElem.1 hu;have hl:=hcl.length;have hj':j<(cs x).length:=by omega
   exact ji (bG.1 (hcs x).2.2.1 _ (bK hj')) ((zo.1 hcl).2 j (cs x)[j] u (aF hj') (by rw [aF hj,hju]))
  ·rw [htpv] at hB;have hI:=turnM (halive pre) hgr (λr e=>by cases e) hM
   have htqv:(((a.tmps.setIfInBounds tp (ev x)).setIfInBounds tq (ew x)).setIfInBounds td (.pointer (some ⟨W.heap.size,0,none⟩))).getD tq undef=ew x:=by
    simp only [bQ];rw [Array.getElem?_setIfInBounds_ne hd3];simp [hsz,htq]
   rw [htqv];refine hK _ W' ⟨hgr.size,λk o _ ho _=> ?_⟩ (zO.grown hgr λr e=>by cases e) ⟨hIp,extG hgr (λr e=>by cases e) hxt,hI⟩ ⟨W.heap.size,rfl,?_,⟨pre,hI⟩,hB⟩
   ·rw [hgr.block k (aQ.1 ho).1 (by simp)]; exact ho
   ·rintro(hO | ⟨e,he,ad,h1,h2⟩)
    ·exact Nat.lt_irrefl _ (hM.good.old _ hO)
    ·obtain⟨j,hj⟩:=List.getElem?_of_mem he;have:=hM.hp.lt j e ad hj h1;omega
 ·
  rintro l pre x a' W hl _ ⟨hIp,hxt,hM⟩ ⟨B,rfl,hnB,⟨pre',hM'⟩,hB⟩ hpre;have hx:=hkeep W hxt x;have hcl:=zM (hcs x).1 hx;have hno:∀ u b y,av x≠.opt u b y:=λu b y e=>by have:=(hcs x).1; rw [e] at this; simp [cellsOf] at this
  have hxT:∀ T,TRep (Own O σ) W σ T (av x) (ev x):=by
   intro T;generalize av x=y at hx hno;cases y with
   | opt t b z=>exact absurd rfl (hno t b z)
   | _=>simpa only [TRep] using hx
  have hy:=hkeep2 W hxt x
  have hyT:∀ T,TRep (Own O σ) W σ T (bv x) (ew x):=by
   intro T;have hf:=hbv x;generalize bv x=y at hy hf;cases y with
   | opt t b z=>simp [kb] at hf
   | _=>simpa only [TRep] using hy
  have hptr:Rep (Own O σ) W (.iptr n λo=>(cs x).getD o .undef) σ (.pointer (some ⟨B,0,none⟩)):=by
   simp only [Rep];refine⟨⟨B,0,none⟩,rfl,rfl,λo ho=>⟨hnB,?_⟩⟩;have hlen2:=hcl.length;have ho':o<(cs x).length:=by rw [(hcs x).2.1]; exact ho
   refine⟨(ev x).cells.toList[o]'(by omega),?_,?_⟩
   ·simp only [World.cell?,hB,Nat.zero_add];simp
   ·have:=(zo.1 hcl).2 o (cs x)[o] _ (aF ho') (aF (by omega));have hf:=bG.1 (hcs x).2.2.2 _ (bK ho');simp only [List.getD,aF ho',Option.getD_some];exact yn hf this
  have hM2:Mod O pinR W σ W σ (mk fn.ntmps ((te,bv x)::(td,.iptr n λo=>(cs x).getD o .undef)::(tq,bv x)::(tp,av x)::kv) (H pre)) (act x B):=by
   refine⟨hM.good,hM.hp,by simp [act,mk,pk,hsz],λu=> ?_,Marks.nil _ _ _,Stp.refl _ _ _ _,hM.good.stat⟩;by_cases hu:u<fn.ntmps
   ·simp only [mk];rw [qH hu];by_cases h0:te=u
    ·subst h0;simp only [look,if_true];have:(act x B).tmps.getD te undef=ew x:=by simp [act,hsz,hu]
     rw [this]; exact hyT _
    have e0:(act x B).tmps.getD u undef=(((a.tmps.setIfInBounds tp (ev x)).setIfInBounds tq (ew x)).setIfInBounds td (.pointer (some ⟨B,0,none⟩))).getD u undef:=by
     simp only [act,bQ];rw [Array.getElem?_setIfInBounds_ne h0]
    rw [e0];by_cases h1:td=u
    ·subst h1;simp only [look,aO h0,if_true];have:(((a.tmps.setIfInBounds tp (ev x)).setIfInBounds tq (ew x)).setIfInBounds td (.pointer (some ⟨B,0,none⟩))).getD td undef = .pointer (some ⟨B,0,none⟩):=by simp [hsz,hu]
     rw [this]; simpa only [TRep] using hptr
    ·have e1:(((a.tmps.setIfInBounds tp (ev x)).setIfInBounds tq (ew x)).setIfInBounds td (.pointer (some ⟨B,0,none⟩))).getD u undef=((a.tmps.setIfInBounds tp (ev x)).setIfInBounds tq (ew x)).getD u undef:=by
      simp only [bQ];rw [Array.getElem?_setIfInBounds_ne h1]
     rw [e1];by_cases h3:tq=u
     ·subst h3;simp only [look,aO h0,aO h1,if_true];have:((a.tmps.setIfInBounds tp (ev x)).setIfInBounds tq (ew x)).getD tq undef=ew x:=by simp [hsz,hu]
      rw [this]; exact hyT _
     have e3:((a.tmps.setIfInBounds tp (ev x)).setIfInBounds tq (ew x)).getD u undef=(a.tmps.setIfInBounds tp (ev x)).getD u undef:=by
      simp only [bQ];rw [Array.getElem?_setIfInBounds_ne h3]
     rw [e3];by_cases h2:tp=u
     ·subst h2;simp only [look,aO h0,aO h1,aO h3,if_true];have:(a.tmps.setIfInBounds tp (ev x)).getD tp undef=ev x:=by simp [hsz,hu]
      rw [this]; exact hxT _
     ·simp only [look,aO h0,aO h1,aO h3,aO h2]
      have e2:(a.tmps.setIfInBounds tp (ev x)).getD u undef=a.tmps.getD u undef:=by
       simp only [bQ];rw [Array.getElem?_setIfInBounds_ne h2]
      rw [e2];have:=hM.tm u;simp only [mk] at this;rw [qH hu] at this;have hl:lowB pinR (look kv u)=true:=bG.1 hlow (look kv u) (by simp only [pk,List.mem_map,List.mem_range]; exact⟨u,hu,rfl⟩);generalize look kv u=y at this hl;cases y with
      | opt u b z=>exact absurd rfl (j6 hl u b z)
      | _=>simpa only [TRep] using this
   ·have:(mk fn.ntmps ((te,bv x)::(td,.iptr n λo=>(cs x).getD o .undef)::(tq,bv x)::(tp,av x)::kv) (H pre)).tmps.getD u .undef = .undef:=by simp [mk,pk,List.getD,hu]
    rw [this]; simp [TRep,Rep]
  have hr:=round l pre x hIp hpre W σ W σ _ hM2;simp only [wpK] at hr
  have fin:∀ (Hh:Heap) (st':St) (W':World) (τ:List SE) (a':Act),LeK pinR fn.ntmps [] st'.heap [] Hh->Mod O pinR W σ W' τ st' a'->KeepsFrom w.heap.size W W'/\Mod O pinR W σ W' (τ.take (mk fn.ntmps [] Hh).heap.length) (mk fn.ntmps [] Hh) { tmps:=Array.replicate fn.ntmps undef,defers:=[] } /\ Mod O pin w0 I0 W' (τ.take (mk fn.ntmps [] Hh).heap.length) (mk fn.ntmps kv Hh) a:=by
   intro Hh st' W' τ a' hL hM';have h1:=Qg (n:=fn.ntmps) hM';have h2:=hL.le.mod h1;exact⟨Yu _ hM (halive pre) hM',h2,Ju hM hlow hpin h2⟩
  refine wpIn_mono hr λe a' W' h=> ?_
  cases e with
  | normal=>
   simp only [wpK] at h;obtain⟨st,τ,⟨kv',h',hL,rfl⟩,hM'⟩:=h;rcases hL with ⟨_,hIx,hL⟩ | ⟨h0,_⟩
   rotate_left
   ·simp [qM] at h0
   obtain⟨h1,h2,h3⟩:=fin _ (mk fn.ntmps kv' h') _ _ _ hL hM'
   have htk:τ.take (mk fn.ntmps [] (H (pre++[x]))).heap.length=σ:=by
    rw [show(mk fn.ntmps [] (H (pre++[x]))).heap.length=pinR from hlen _];exact VE hZl hM'.since.hold
   rw [htk] at h2 h3;exact⟨h1,zO.ext h2.since.ext,hIx,hxt.trans h2.since.ext,h3⟩
  | ret=>
   simp only [wpK] at h;rcases h with ⟨_,st,τ,⟨hX,hL⟩,hM'⟩ | ⟨_,_,h,_⟩
   rotate_left
   ·exact h.elim
   obtain⟨h1,_,h3⟩:=fin _ st _ _ _ hL hM';exact⟨h1,.inl ⟨rfl,hX,_,h3⟩⟩
  | exit i=>
   simp only [wpK] at h;split at h
   ·rename_i hi;obtain⟨st,τ,⟨kv',h',hL,rfl⟩,hM'⟩:=h;rcases hL with ⟨h0,_⟩ | ⟨_,hY,hL⟩
    ·simp [qM] at h0
    obtain⟨h1,_,h3⟩:=fin _ _ _ _ _ hL hM';exact⟨h1,.inr ⟨by rw [hi],hY,_,h3⟩⟩
   ·exact absurd h (by simp)
  | goto t=>simp only [wpK] at h; exact absurd h (by simp)
  | panic ch=>simp only [wpK] at h; exact absurd h (by simp)
  | outgrown=>simp only [wpK] at h; exact absurd h (by simp)
 ·
  rintro D xs W hD hS ⟨hIp,_,hM⟩ hWD;exact done xs hS hIp W σ _ (push D _ W σ (halive xs) hD hWD hM)
 ·rintro D c pre W hD hSp (⟨rfl,hX,E1,hM⟩ | ⟨rfl,hY,E1,hM⟩) hWD
  rotate_left
  ·exact wpIn_exit (xc (hex ⟨_,hY⟩) (leave pre hSp hY W E1 _ (push D _ W E1 (halivey pre) hD hWD hM)))
  refine wpIn_ret (kH (.inl ⟨.inl rfl,mk fn.ntmps kv (Hx pre),E1,stop pre hSp hX,push D _ W E1 (halivex pre) hD hWD hM⟩))
end
end Go.Sx
end
section
namespace Go.Sx
variable [Stat]
open Go.RowKit (Below)
section
variable {O:Nat->Prop} {pin:Nat} {w0:World} {I0:List SE} {w:World} {σ:List SE} {P:Program} {a:Act} {fn:Func} {Γ:Nat->Option Ctr}
def zkn(w:World)(σ:List SE)(p ib:Nat):Prop:=∀ e ad,σ[p]?=some e->e.ad=some ad->(∃ cs el,w.heap[ad.block]?=some (.cells cs el (0,0)))/\∃ eb adb n cap o,σ[ib]?=some eb/\eb.ad=some adb/\0<cap/\w.cell? ⟨adb.block,0,none⟩=some (.slice (some ⟨ad.block,o,none⟩) n cap)
def accH(Hb:Heap)(n sz:Nat)(g:Nat->Nat->AV):Heap:=Hb++[.arr n sz g]
structure Vz(p ib n sz:Nat)(Hb:Heap):Prop where
 len:Hb.length=p
 box:Hb[ib]?=some (.box [.osl p sz 0 n])
 flat:∀ i b,i≠ib->Hb[i]?=some b->∃ cs,b = .box cs/\cs.all kb=true
theorem Vz.lt{p ib n sz:Nat}{Hb:Heap}(h:Vz p ib n sz Hb):ib<p:=by
 rw [<- h.len]; exact(aG.1 h.box).1
theorem JI{own own':Nat->Prop}{w:World}{σ τ:List SE}(hs:∀ b,own' b->own b):∀ {cs:List AV} {vs:List Value},cs.all kb=true->RepL own w cs σ vs->RepL own' w cs τ vs
 | [],vs,_,h=>h
 | a::l,vs,hf,h=>by
  simp only [List.all_cons,bA] at hf;simp only [RepL] at h ⊢;obtain⟨v,r,rfl,h1,h2⟩:=h;refine⟨v,r,rfl,?_,JI hs hf.2 h2⟩;have h3:=jE hs (yn hf.1 h1);have hf1:=hf.1;cases a<;>first | (simp [kb] at hf1; done) | (simp only [Rep] at h3 ⊢; exact h3)
theorem zcd{p ib n sz cap:Nat}{g:Nat->Nat->AV}{Hb:Heap}{kv:KV}{eb ep:SE}{adb:Addr}{a0:Option Addr}{el:TypeId}(hm:Mod O pin w0 I0 w σ (mk fn.ntmps kv (accH Hb n sz g)) a)(hA:Vz p ib n sz Hb)(hlow:(pk fn.ntmps kv).all (lowB p)=true)(hpin:pin<=p)
  (hlen:σ.length=p+1) (heb:σ[ib]?=some eb) (hep:σ[p]?=some ep) (hbb:(mk fn.ntmps kv (accH Hb n sz g)).heap[ib]?=some (.box [.osl p sz 0 n])) (hbp:(mk fn.ntmps kv (accH Hb n sz g)).heap[p]?=some (.arr n sz g)) (h1:eb.ad=some adb) (h2:adb.off=0) (h3:w.heap[adb.block]?=some (.cells (List.toArray [.slice a0 n cap]) el (0,0))) (hc0:cap=0) (hn0:n=0) :
  ∃ τ,(∀ i,i<p->τ[i]?=σ[i]?)/\Mod O pin w0 I0 w τ (mk fn.ntmps kv (accH Hb n sz g)) a/\(∀ b,Own O τ b->Own O σ b)/\zkn w τ p ib:=by
 have hib:=hA.lt
 have hget:∀ i,i<p->(frzS [p] σ)[i]?=σ[i]?:=λi hi=>by
  rw [qP];have:[p].contains i=false:=by simp; omega
  rw [this]; simp
 have hgp:(frzS [p] σ)[p]?=some ⟨none,0⟩:=by rw [qP,hep]; simp
 have hx:=j0 (O:=O) [p] w σ;have hsub:∀ b,Own O (frzS [p] σ) b->Own O σ b:=λb hb=>kV hb
 have hcase:∀ (i:Nat) (e:SE),(frzS [p] σ)[i]?=some e->(i=p/\e=⟨none,0⟩)\/(i<p/\σ[i]?=some e):=by
  intro i e he;rcases Nat.lt_trichotomy i p with hi | hi | hi
  ·rw [hget i hi] at he; exact .inr ⟨hi,he⟩
  ·subst hi; rw [hgp] at he; cases he; exact .inl ⟨rfl,rfl⟩
  ·rw [aZ (by simp [frzS]; omega)] at he; cases he
 refine⟨frzS [p] σ,hget,⟨kW [p] hm.good,⟨?_,?_,?_,?_⟩,hm.size,λt=> ?_,hm.df.ext hx,hm.since.trans ⟨hx,λ_ _ _=>rfl,λi e hi2 he=>kA [p] w σ i e he λh=>by simp at h; omega⟩,hm.lim⟩,hsub,?_⟩
 ·simp [frzS,hm.hp.len]
 ·intro i j e f a b he hf ha hb hne;rcases hcase i e he with ⟨_,rfl⟩ | ⟨_,he⟩
  ·cases ha
  rcases hcase j f hf with ⟨_,rfl⟩ | ⟨_,hf⟩
  ·cases hb
  exact hm.hp.inj i j e f a b he hf ha hb hne
 ·intro i e a he ha;rcases hcase i e he with ⟨_,rfl⟩ | ⟨_,he⟩
  ·cases ha
  exact hm.hp.lt i e a he ha
 ·intro i e b he hb;rcases hcase i e he with ⟨rfl,rfl⟩ | ⟨hi,he⟩
  ·rw [hbp] at hb; cases hb;exact⟨by rw [hn0],.inl hn0⟩
  ·have hb0:=hm.hp.blk i e b he hb;by_cases hii:i=ib
   ·subst hii;rw [hbb] at hb; cases hb;rw [heb] at he; cases he;refine⟨adb,_,el,h1,h2,h3,?_⟩;simp only [RepL,Rep];exact⟨_,_,rfl,⟨_,hgp,by show 0+n<=0; omega,a0,cap,rfl,by omega,.inl hc0⟩,rfl⟩
   ·have hb2:Hb[i]?=some b:=by
     simp only [mk,accH] at hb; rwa [bL (by rw [hA.len]; exact hi)] at hb
    obtain⟨cs,rfl,hf⟩:=hA.flat i b hii hb2;obtain⟨ad,vs,el',g1,g2,g3,g4⟩:=hb0;exact⟨ad,vs,el',g1,g2,g3,JI hsub hf g4⟩
 ·have ht:=hm.tm t;have hold:Hold (List.range' p 1) w σ w (frzS [p] σ):=λi e he hi=>kA [p] w σ i e he λh=>hi (by simp at h; subst h; simp [List.mem_range'])
  by_cases htn:t<fn.ntmps
  ·simp only [mk] at ht ⊢;rw [qH htn] at ht ⊢;have hl:lowB p (look kv t)=true:=bG.1 hlow (look kv t) (by simp only [pk,List.mem_map,List.mem_range]; exact⟨t,htn,rfl⟩);generalize look kv t=y at ht hl;cases y with
   | opt u b z=>exact absurd rfl (j6 hl u b z)
   | _=>simp only [TRep] at ht ⊢; exact zK hx hold _ _ (ym hl) ht
  ·have:(mk fn.ntmps kv (accH Hb n sz g)).tmps.getD t .undef = .undef:=by simp [mk,pk,List.getD,htn]
   rw [this]; simp [TRep,Rep]
 ·intro e ad he had;rw [hgp] at he; cases he; cases had
theorem XP{p ib n sz:Nat}{g:Nat->Nat->AV}{Hb:Heap}{kv:KV}(hm:Mod O pin w0 I0 w σ (mk fn.ntmps kv (accH Hb n sz g)) a)(hA:Vz p ib n sz Hb)(hlow:(pk fn.ntmps kv).all (lowB p)=true)(hpin:pin<=p) :
  ∃ τ,(∀ i,i<p->τ[i]?=σ[i]?)/\Mod O pin w0 I0 w τ (mk fn.ntmps kv (accH Hb n sz g)) a/\(∀ b,Own O τ b->Own O σ b)/\zkn w τ p ib:=by
 have hlen:σ.length=p+1:=by rw [hm.hp.len]; simp [mk,accH,hA.len]
 have hib:=hA.lt;obtain⟨eb,heb⟩:∃ e,σ[ib]?=some e:=⟨_,aF (by omega)⟩;obtain⟨ep,hep⟩:∃ e,σ[p]?=some e:=⟨_,aF (by omega)⟩
 have hbb:(mk fn.ntmps kv (accH Hb n sz g)).heap[ib]?=some (.box [.osl p sz 0 n]):=by
  simp only [mk,accH]; rw [bL (by rw [hA.len]; exact hib)]; exact hA.box
 have hbp:(mk fn.ntmps kv (accH Hb n sz g)).heap[p]?=some (.arr n sz g):=by
  simp only [mk,accH]; rw [List.getElem?_append_right (by rw [hA.len]; exact aJ _),hA.len]; simp
 obtain⟨adb,vs,el,h1,h2,h3,h4⟩:=hm.hp.blk ib eb _ heb hbb;have hn:ep.n=n:=(hm.hp.blk p ep _ hep hbp).1;simp only [RepL,Rep] at h4;obtain⟨v,r,rfl,⟨e',he',hle,a0,cap,rfl,hcap,hc⟩,rfl⟩:=h4;rw [hep] at he'; cases he';rcases hc with h0 | ⟨ad,had,ha0,cs,el2,hcs,_⟩
 rotate_left
 ·by_cases hc0:cap=0
  rotate_left
  ·refine⟨σ,λ_ _=>rfl,hm,λ_ h=>h,λe ad2 he had2=> ?_⟩;rw [hep] at he; cases he;rw [had] at had2; cases had2;refine⟨⟨cs,el2,hcs⟩,eb,adb,n,cap,ad.off+0*sz,heb,h1,by omega,?_⟩;simp only [World.cell?,h3];rw [ha0]; rfl
  ·
   have hn0:n=0:=by omega
   exact zcd hm hA hlow hpin hlen heb hep hbb hbp h1 h2 h3 hc0 hn0
 ·have hn0:n=0:=by omega
  exact zcd hm hA hlow hpin hlen heb hep hbb hbp h1 h2 h3 h0 hn0
end
end Go.Sx
end
section
namespace Go.Sx
variable [Stat]
open Go.RowKit (Below)
section
variable {O:Nat->Prop} {pin:Nat} {w0:World} {I0:List SE} {w:World} {σ:List SE} {P:Program} {a:Act} {fn:Func} {Γ:Nat->Option Ctr}
def OwnN(O:Nat->Prop)(σ:List SE)(w:World)(b:Nat):Prop:=Own O σ b\/w.heap.size<=b
structure Rnd(O:Nat->Prop)(σ:List SE)(w:World)(p ib:Nat)(τ:List SE)(W:World):Prop where
 same:∀ i,i<p->τ[i]?=σ[i]?
 ext:Ext (Own O σ) w (Own O τ) W
 norm:zkn W τ p ib
 len:τ.length=p+1
theorem zc.znm{α:Type}{Hs:Nat->KV->Heap->Prop}{R:List AV->Heap->Prop}{k k1:List Item}{c:Code}{kv0 kv:KV}{h:Heap}{tg tp tq td te t n gf id0:Nat}{cap:List AV}{zs:List AV}(hc:QE c tg tp tq td te t=true)(hz:zeroCells P t=some zs)(hn:zW P t=some n)(hzl:zs.length=n)
  (he:∀ args w,(callFunc gf args).run P w = .ok (.enter gf args) w) (av:α->AV) (cs:α->List AV) (hcs:∀ x,cellsOf (av x)=some (cs x)/\(cs x).length=n/\(cs x).all oneA=true/\(cs x).all kb=true) (bv:α->AV) (hbv:∀ x,kb (bv x)=true) (I:List α->Prop) (ib sz:Nat) (Hb:List α->Heap) (nn:List α->Nat) (gg:List α->Nat->Nat->AV) (Hx Hy:List α->Heap) (X Y S Sp:List α->Prop) (N pinR:Nat)
  (hg:look kv0 tg = .fn gf [] cap) (htg:tg<fn.ntmps) (htp:tp<fn.ntmps) (htq:tq<fn.ntmps) (htd:td<fn.ntmps) (hte:te<fn.ntmps) (hd1:tp≠tq) (hd2:td≠tp) (hd3:td≠tq) (hd4:te≠tp) (hd5:te≠tq) (hd6:te≠td) (hle:LeK pin fn.ntmps kv0 h kv (accH (Hb []) (nn []) sz (gg []))) (hI:I []) (hlow:(pk fn.ntmps kv).all (lowB pinR)=true) (hpin:pin<=pinR) (hA:∀ pre,Vz pinR ib (nn pre) sz (Hb pre))
  (halivex:∀ pre,∀ b∈Hx pre,alive b) (halivey:∀ pre,∀ b∈Hy pre,alive b)
  (iter:∀ w σ a,Mod O pin w0 I0 w σ (mk fn.ntmps kv0 h) a->∀ vb,RepL (Own O σ) w cap σ vb->∃ ev ew:α->Value,SeqStopsK Fence.wide 0 P gf vb.toArray (λx=> #[ev x,ew x]) (zO (OwnN O (σ.take (pinR+1)) w)) S Sp N w/\(∀ x,Rep (Own O (σ.take (pinR+1))) w (av x) [] (ev x))/\∀ x,Rep (Own O (σ.take (pinR+1))) w (bv x) [] (ew x))
  (round:∀ l pre x,I pre->pre.length<N->∀ (W:World) (E1:List SE),zB (some l) P (bare fn) O pinR W E1 (λd kv' h'=>(d=1/\I (pre++[x])/\LeK pinR fn.ntmps [] h' [] (accH (Hb (pre++[x])) (nn (pre++[x])) sz (gg (pre++[x]))))\/(d=0/\Y (pre++[x])/\LeK pinR fn.ntmps [] h' [] (Hy (pre++[x])))) (λ_ h'=>X (pre++[x])/\LeK pinR fn.ntmps [] h' [] (Hx (pre++[x]))) [.code (wO c),.inLoop,.inBlock id0,.inLoop] (mk fn.ntmps ((te,bv x)::(td,.iptr n λo=>(cs x).getD o .undef)::(tq,bv x)::(tp,av x)::kv) (accH (Hb pre) (nn pre) sz (gg pre))))
  (done:∀ xs,S xs->I xs->zc P fn O pin w0 I0 Hs R k (mk fn.ntmps kv (accH (Hb xs) (nn xs) sz (gg xs))))
  (hex:(∃ pre,Y pre)->exitTo id0 k=some k1) (leave:∀ pre,Sp pre->Y pre->zc P fn O pin w0 I0 Hs R k1 (mk fn.ntmps kv (Hy pre)))
  (stop:∀ pre,Sp pre->X pre->(resX P (mk fn.ntmps kv (Hx pre)) fn.results.toList).holds λrs=>R rs (Hx pre)) :
  zc P fn O pin w0 I0 Hs R (.code c::k) (mk fn.ntmps kv0 h):=by
 obtain⟨id,id2,o1,o2,o3,hco,ho1,ho2,ho3,ho4,ho5⟩:=uQ hc;generalize wO c=body at *
 subst hco;clear hc;intro w σ a hm0;have hm:=hle.le.mod hm0;have hpR:(mk fn.ntmps kv (accH (Hb []) (nn []) sz (gg []))).heap.length=pinR+1:=by simp [mk,accH,(hA []).len]
 rw [hpR] at hm;simp only [wpK];have hgt:=hm0.tm tg;have hev:(mk fn.ntmps kv0 h).tmps.getD tg .undef = .fn gf [] cap:=by simp only [mk]; rw [qH htg]; exact hg
 rw [hev] at hgt;simp only [TRep,Rep] at hgt;obtain⟨va,vb,hval,hva,hvb⟩:=hgt;have hva:va=[]:=by simpa [RepL] using hva
 subst hva;obtain⟨ev,ew,hseq,hev0,hew0⟩:=iter w σ a hm0 vb hvb;clear hm0 hvb;generalize σ.take (pinR+1)=σ at hm hseq hev0 hew0;have hib:=(hA []).lt;obtain⟨τ0,hτ1,hmt,hτ2,hτ3⟩:=XP hm (hA []) hlow hpin
 have hlenM:∀ {pre:List α} {W:World} {τ:List SE} {w1:World} {E1:List SE} {p1:Nat} {kv':KV} {a':Act},Mod O p1 w1 E1 W τ (mk fn.ntmps kv' (accH (Hb pre) (nn pre) sz (gg pre))) a'->τ.length=pinR+1:=λ{pre} {W} {τ} {w1} {E1} {p1} {kv'} {a'} h=>by
  rw [h.hp.len]; simp [mk,accH,(hA pre).len]
 have hR0:Rnd O σ w pinR ib τ0 w:=⟨hτ1,⟨rfl,rfl,rfl,aJ _,λ_ _ _=>rfl,λb hb=>.inl (hτ2 b hb)⟩,hτ3,hlenM hmt⟩;have hlow0:∀ i e ad,i<pinR->σ[i]?=some e->e.ad=some ad->ad.block<w.heap.size:=λi e ad _ he had=>hm.hp.lt i e ad he had
 have mineT:∀ {τ:List SE} {W:World},Rnd O σ w pinR ib τ W->∀ b,Mine τ b->b<w.heap.size\/∃ cs el,W.heap[b]?=some (.cells cs el (0,0)):=by
  intro τ W hR b hb;obtain⟨i,e,ad,h1,h2,rfl⟩:=zu.1 hb;have hi:i<pinR+1:=by have:=(aG.1 h1).1; rw [hR.len] at this; exact this
  rcases aR i pinR with h3 | h3
  ·rw [hR.same i h3] at h1;exact .inl (hlow0 i e ad h3 h1 h2)
  ·have:i=pinR:=by omega
   subst this;exact .inr (hR.norm e ad h1 h2).1
 have hkeep:∀ {W:World} {τ:List SE},Rnd O σ w pinR ib τ W->∀ x,Rep (Own O τ) W (av x) τ (ev x):=λhR x=>zK (K:=[]) (E1:=[]) hR.ext (λi e h=>by simp at h) _ _ (qm _) (hev0 x)
 have hkeep2:∀ {W:World} {τ:List SE},Rnd O σ w pinR ib τ W->∀ x,Rep (Own O τ) W (bv x) τ (ew x):=λhR x=>zK (K:=[]) (E1:=[]) hR.ext (λi e h=>by simp at h) _ _ (qm _) (hew0 x)
 have rndG:∀ {W W':World} {τ:List SE} {row:Option Nat},W.grownBy W' row->(∀ r,row=some r->w.heap.size<=r/\∃ o:Obj,W.heap[r]?=some o/\o.isCells=false)->Rnd O σ w pinR ib τ W->Rnd O σ w pinR ib τ W':=λ{W} {W'} {τ} {row} hg hr hR=>by
  refine⟨hR.same,⟨hg.os.trans hR.ext.os,hg.tape.trans hR.ext.tape,hg.output.trans hR.ext.output,bP hR.ext.size hg.size,λb hb hn=> ?_,hR.ext.grow⟩,λe ad he had=> ?_,hR.len⟩
  ·rw [hg.block b (bB hb hR.ext.size) λe=>by have:=(hr b e.symm).1; omega];exact hR.ext.keep b hb hn
  ·obtain⟨⟨cs,el,h1⟩,eb,adb,n,cap,o,h2,h3,h4,h5⟩:=hR.norm e ad he had;have hs:zO (λ_=>False) W W':=zO.grown hg λr e=>(hr r e).2
   exact⟨⟨cs,el,hs.2 _ _ _ _ (λh=>h) h1⟩,eb,adb,n,cap,o,h2,h3,h4,hs.cell (λh=>h) h5⟩
 have hB:∀ d∈a.defers,∃ D,d={ target:=.collected D,args:= #[] } /\ D<w.heap.size:=by
  intro d hd;obtain⟨D,h1,_,_,h4⟩:=hm.df.2 d hd;exact⟨D,h1,(aQ.1 h4).1⟩
 have hOB:∀ b,O b->b<w.heap.size:=hm.good.old;have hsz:a.tmps.size=fn.ntmps:=by rw [hm.size]; simp [mk,pk]
 have turnM:∀ {Hh:Heap} {τ:List SE} {W W':World} {row:Option Nat},(∀ b∈Hh,ZB b=false)->W.grownBy W' row->(∀ r,row=some r->w.heap.size<=r/\∃ o:Obj,W.heap[r]?=some o/\o.isCells=false)->Mod O pin w0 I0 W τ (mk fn.ntmps kv Hh) a->Mod O pin w0 I0 W' τ (mk fn.ntmps kv Hh) a:=by
  intro Hh τ W W' row hal hgr hr hM
  have:=hM.turn hgr (ds:=a.defers) (λr e=>⟨bP hm.since.ext.size (hr r e).1,(hr r e).2⟩) (.inl hal) (hM.df.turn hgr λr e hmem=>by
   obtain⟨D,h1,h2⟩:=hB _ hmem;have:=(hr r e).1;simp only [Deferred.mk.injEq,Target.collected.injEq,and_true] at h1;omega)
  exact this
 have nomap:∀ pre:List α,∀ b∈accH (Hb pre) (nn pre) sz (gg pre),ZB b=false:=by
  intro pre b hb;simp only [accH,cA,List.mem_singleton] at hb;rcases hb with hb | rfl
  ·obtain⟨i,hi,rfl⟩:=List.getElem_of_mem hb;by_cases h:i=ib
   ·have:=(hA pre).box;subst h;rw [aF hi] at this;rw [Option.some.inj this]; rfl
   ·obtain⟨cs,h1,_⟩:=(hA pre).flat i _ h (aF hi);rw [h1]; rfl
  ·rfl
 have push:∀ (D:Nat) (Hh:Heap) (W:World) (Z':List SE),(∀ b,Mine Z' b->b<w.heap.size\/∃ cs el fr,W.heap[b]?=some (.cells cs el fr))->w.heap.size<=D->W.heap[D]?=some (.deferred (some []))->Mod O pin w0 I0 W Z' (mk fn.ntmps kv Hh) a->Mod O pin w0 I0 W Z' (mk fn.ntmps kv Hh) { a with defers:={ target:=.collected D,args:= #[] } :: a.defers } :=by
  intro D Hh W Z' hal hD hWD hM;refine⟨hM.good,hM.hp,hM.size,hM.tm,⟨List.nodup_cons.2 ⟨λhmem=> ?_,hM.df.1⟩,λd hd=> ?_⟩,hM.since,hM.lim⟩
  ·obtain⟨D',h1,h2⟩:=hB _ hmem;simp only [Deferred.mk.injEq,Target.collected.injEq,and_true] at h1;omega
  ·rcases aM.1 hd with rfl | hd
   ·refine⟨D,rfl,bP hm.since.ext.size hD,?_,hWD⟩;rintro(hO | hM')
    ·have:=hOB D hO; omega
    ·rcases hal D hM' with h | ⟨cs,el,fr,hcs⟩
     ·omega
     ·rw [hWD] at hcs; cases hcs
   ·exact hM.df.2 d hd
 have aliveM:∀ {Hh:Heap} {W:World} {τ:List SE},(∀ b∈Hh,alive b)->Mod O pin w0 I0 W τ (mk fn.ntmps kv Hh) a->∀ b,Mine τ b->b<w.heap.size\/∃ cs el fr,W.heap[b]?=some (.cells cs el fr):=λhal hM b hb=>.inr (wX hM.hp hal hb)
 have rndM:∀ {W:World} {τ:List SE},Rnd O σ w pinR ib τ W->∀ b,Mine τ b->b<w.heap.size\/∃ cs el fr,W.heap[b]?=some (.cells cs el fr):=λhR b hb=>(mineT hR b hb).imp (λh=>h) λ⟨cs,el,h⟩=>⟨cs,el,_,h⟩
 let act:α->Nat->Act:=λx B=>{ tmps:=(((a.tmps.setIfInBounds tp (ev x)).setIfInBounds tq (ew x)).setIfInBounds td (.pointer (some ⟨B,0,none⟩))).setIfInBounds te (ew x),defers:=[] }
 refine xz 1 0 ?_
 refine wpIn_rangeFunc_ownH (F:=Fence.wide) rfl (aJ 1) (gf:=gf) (lb:=vb.toArray) (by simp only [Act.eval]; exact hval) trivial he (encs:=λx=> #[ev x,ew x]) (Kp:=zO (OwnN O σ w)) (S:=S) (Sp:=Sp) (N:=N) (w0:=w) hseq
  (λh1 h2=>h1.trans h2) (λW l o o' h1 h2 h3 _=>zO.grown (grownBy_putObj' W l o') λr e=>by cases e; exact⟨o,h2,h3⟩) (Below.refl _ _) (λ_=>rfl)
  (λpre W=>I pre/\∃ τ,Rnd O σ w pinR ib τ W/\Mod O pin w0 I0 W τ (mk fn.ntmps kv (accH (Hb pre) (nn pre) sz (gg pre))) a) (λc pre W=>(c = .ret/\X pre/\∃ Z',Mod O pin w0 I0 W Z' (mk fn.ntmps kv (Hx pre)) a)\/(c = .exit id0/\Y pre/\∃ Z',Mod O pin w0 I0 W Z' (mk fn.ntmps kv (Hy pre)) a))
  (λpre W W' row hI hgr hr=>⟨hI.1,hI.2.imp λ τ h=>⟨rndG hgr hr h.1,turnM (nomap pre) hgr hr h.2⟩⟩) (λc pre W W' row hI hgr hr=>hI.imp (λhI=>⟨hI.1,hI.2.1,hI.2.2.imp λ_ h=>turnM (vu (halivex pre)) hgr hr h⟩) (λhI=>⟨hI.1,hI.2.1,hI.2.2.imp λ_ h=>turnM (vu (halivey pre)) hgr hr h⟩)) ⟨hI,τ0,hR0,hmt⟩
  (λx a' W=>∃ B,a'=act x B/\w.heap.size<=B/\(∀ eb adb n cap b o,σ[ib]?=some eb->eb.ad=some adb->0<cap->W.cell? ⟨adb.block,0,none⟩=some (.slice (some ⟨b,o,none⟩) n cap)->B≠b)/\(∃ pre τ,Rnd O σ w pinR ib τ W/\Mod O pin w0 I0 W τ (mk fn.ntmps kv (accH (Hb pre) (nn pre) sz (gg pre))) a)/\W.heap[B]?=some (.cells (ev x).cells t (0,0)))
  ?_ ?_ ?_ ?_ ?_
 ·
  rintro x a' _ W W' row ⟨B,h1,h2,h4,⟨pre,τ,hR,h0⟩,h3⟩ hgr hr;have hk:=kO h0 hgr λr e=>⟨bP hm.since.ext.size (hr r e).1,(hr r e).2⟩
  refine⟨B,h1,h2,λeb adb n cap b o g1 g2 g3 g4=>h4 eb adb n cap b o g1 g2 g3 ?_,⟨pre,τ,rndG hgr hr hR,turnM (nomap pre) hgr hr h0⟩,hk.cells _ _ _ _ h3⟩
  have hb1:(mk fn.ntmps kv (accH (Hb pre) (nn pre) sz (gg pre))).heap[ib]?=some (.box [.osl pinR sz 0 (nn pre)]):=by
   simp only [mk,accH]; rw [bL (by rw [(hA pre).len]; exact hib)]; exact(hA pre).box
  rw [<- hR.same ib hib] at g1;obtain⟨ad2,vs2,el2,k1,_,k3,_⟩:=h0.hp.blk ib eb _ g1 hb1;rw [g2] at k1; cases k1;have hs:zO (λ_=>False) W W':=zO.grown hgr λr e=>(hr r e).2
  have k4:=hs.2 _ _ _ _ (λh=>h) k3;simp only [World.cell?,k4] at g4;simp only [World.cell?,k3];exact g4
 ·
  rintro l pre x W K ⟨hIp,τ,hR,hM⟩ hK
  have htpv:((a.tmps.setIfInBounds tp (ev x)).setIfInBounds tq (ew x)).getD tp undef=ev x:=by
   simp only [bQ];rw [Array.getElem?_setIfInBounds_ne (Ne.symm hd1)];simp [hsz,htp]
  have hx:=hkeep hR x;have hcl:=zM (hcs x).1 hx
  suffices hgoal:Code.wpIn (FM (some l)) 0 P (.seq (.region id #[o1,o2] false) (.region id2 #[o3] false)) (Exit.then K (λ_ _ _=>False)) { tmps:=(a.tmps.setIfInBounds tp (ev x)).setIfInBounds tq (ew x),defers:=[] } W by simpa [FM] using hgoal
  refine VM (Kt ho1 ho2 hz hn hzl hd2 (by simp [hsz,htd]) (by rw [htpv]; have:=hcl.length; simp at this; rw [<- (hcs x).2.1]; omega) ?_ λW' hB hgr=>uB ho3 ho4 ho5 ?_)
  ·rw [htpv];intro u hu;obtain⟨j,hj,hju⟩:=List.mem_iff_getElem.1 hu;have hl:=hcl.length;have hj':j<(cs x).length:=by omega
   exact ji (bG.1 (hcs x).2.2.1 _ (bK hj')) ((zo.1 hcl).2 j (cs x)[j] u (aF hj') (by rw [aF hj,hju]))
  ·rw [htpv] at hB;have hI:=turnM (nomap pre) hgr (λr e=>by cases e) hM
   have htqv:(((a.tmps.setIfInBounds tp (ev x)).setIfInBounds tq (ew x)).setIfInBounds td (.pointer (some ⟨W.heap.size,0,none⟩))).getD tq undef=ew x:=by
    simp only [bQ];rw [Array.getElem?_setIfInBounds_ne hd3];simp [hsz,htq]
   rw [htqv];refine hK _ W' ⟨hgr.size,λk o _ ho _=> ?_⟩ (zO.grown hgr λr e=>by cases e) ⟨hIp,τ,rndG hgr (λr e=>by cases e) hR,hI⟩ ⟨W.heap.size,rfl,hR.ext.size,λeb adb n cap b o g1 g2 g3 g4=> ?_,⟨pre,τ,rndG hgr (λr e=>by cases e) hR,hI⟩,hB⟩
   ·rw [hgr.block k (aQ.1 ho).1 (by simp)]; exact ho
   ·have hb1:(mk fn.ntmps kv (accH (Hb pre) (nn pre) sz (gg pre))).heap[ib]?=some (.box [.osl pinR sz 0 (nn pre)]):=by
     simp only [mk,accH]; rw [bL (by rw [(hA pre).len]; exact hib)]; exact(hA pre).box
    rw [<- hR.same ib hib] at g1;obtain⟨ad2,vs2,el2,k1,k2,k3,k4⟩:=hM.hp.blk ib eb _ g1 hb1;rw [g2] at k1; cases k1;have hs:zO (λ_=>False) W W':=zO.grown hgr λr e=>by cases e
    have k5:=hs.2 _ _ _ _ (λh=>h) k3;simp only [World.cell?,k5] at g4;simp only [RepL,Rep] at k4;obtain⟨v,r,rfl,⟨e',he',hle,a0,cap',rfl,hcap,hc⟩,rfl⟩:=k4;simp at g4;obtain⟨rfl,rfl,rfl⟩:=g4;rcases hc with h0 | ⟨ad,had,ha0,cs,el2,hcs,_⟩
    ·omega
    ·cases ha0;have:=(aQ.1 hcs).1;omega
 ·
  rintro l pre x a' W hl _ ⟨hIp,τ,hR,hM⟩ ⟨B,rfl,hBs,hBn,_,hB⟩ hpre;have hx:=hkeep hR x;have hcl:=zM (hcs x).1 hx
  have hnB:¬ Own O τ B:=by
   rintro(hO | hb)
   ·have:=hOB B hO; omega
   ·obtain⟨i,e,ad,h1,h2,h3⟩:=zu.1 hb;have hi:i<pinR+1:=by have:=(aG.1 h1).1; rw [hR.len] at this; exact this
    rcases aR i pinR with h4 | h4
    ·rw [hR.same i h4] at h1;have:=hlow0 i e ad h4 h1 h2;omega
    ·have:i=pinR:=by omega
     subst this;obtain⟨_,eb,adb,n,cap,o,k1,k2,k3,k4⟩:=hR.norm e ad h1 h2;rw [hR.same ib hib] at k1;exact hBn eb adb n cap _ o k1 k2 k3 k4 h3.symm
  have hno:∀ u b y,av x≠.opt u b y:=λu b y e=>by have:=(hcs x).1; rw [e] at this; simp [cellsOf] at this
  have hxT:∀ T,TRep (Own O τ) W τ T (av x) (ev x):=by
   intro T;generalize av x=y at hx hno;cases y with
   | opt t b z=>exact absurd rfl (hno t b z)
   | _=>simpa only [TRep] using hx
  have hy:=hkeep2 hR x
  have hyT:∀ T,TRep (Own O τ) W τ T (bv x) (ew x):=by
   intro T;have hf:=hbv x;generalize bv x=y at hy hf;cases y with
   | opt t b z=>simp [kb] at hf
   | _=>simpa only [TRep] using hy
  have hptr:Rep (Own O τ) W (.iptr n λo=>(cs x).getD o .undef) τ (.pointer (some ⟨B,0,none⟩)):=by
   simp only [Rep];refine⟨⟨B,0,none⟩,rfl,rfl,λo ho=>⟨hnB,?_⟩⟩;have hlen2:=hcl.length;have ho':o<(cs x).length:=by rw [(hcs x).2.1]; exact ho
   refine⟨(ev x).cells.toList[o]'(by omega),?_,?_⟩
   ·simp only [World.cell?,hB,Nat.zero_add];simp
   ·have:=(zo.1 hcl).2 o (cs x)[o] _ (aF ho') (aF (by omega));have hf:=bG.1 (hcs x).2.2.2 _ (bK ho');simp only [List.getD,aF ho',Option.getD_some];exact yn hf this
  have hM2:Mod O pinR W τ W τ (mk fn.ntmps ((te,bv x)::(td,.iptr n λo=>(cs x).getD o .undef)::(tq,bv x)::(tp,av x)::kv) (accH (Hb pre) (nn pre) sz (gg pre))) (act x B):=by
   refine⟨hM.good,hM.hp,by simp [act,mk,pk,hsz],λu=> ?_,Marks.nil _ _ _,Stp.refl _ _ _ _,hM.good.stat⟩;by_cases hu:u<fn.ntmps
   ·simp only [mk];rw [qH hu];by_cases h0:te=u
    ·subst h0;simp only [look,if_true];have:(act x B).tmps.getD te undef=ew x:=by simp [act,hsz,hu]
     rw [this]; exact hyT _
    have e0:(act x B).tmps.getD u undef=(((a.tmps.setIfInBounds tp (ev x)).setIfInBounds tq (ew x)).setIfInBounds td (.pointer (some ⟨B,0,none⟩))).getD u undef:=by
     simp only [act,bQ];rw [Array.getElem?_setIfInBounds_ne h0]
    rw [e0];by_cases h1:td=u
    ·subst h1;simp only [look,aO h0,if_true];have:(((a.tmps.setIfInBounds tp (ev x)).setIfInBounds tq (ew x)).setIfInBounds td (.pointer (some ⟨B,0,none⟩))).getD td undef = .pointer (some ⟨B,0,none⟩):=by simp [hsz,hu]
     rw [this]; simpa only [TRep] using hptr
    ·have e1:(((a.tmps.setIfInBounds tp (ev x)).setIfInBounds tq (ew x)).setIfInBounds td (.pointer (some ⟨B,0,none⟩))).getD u undef=((a.tmps.setIfInBounds tp (ev x)).setIfInBounds tq (ew x)).getD u undef:=by
      simp only [bQ];rw [Array.getElem?_setIfInBounds_ne h1]
     rw [e1];by_cases h3:tq=u
     ·subst h3;simp only [look,aO h0,aO h1,if_true];have:((a.tmps.setIfInBounds tp (ev x)).setIfInBounds tq (ew x)).getD tq undef=ew x:=by simp [hsz,hu]
      rw [this]; exact hyT _
     have e3:((a.tmps.setIfInBounds tp (ev x)).setIfInBounds tq (ew x)).getD u undef=(a.tmps.setIfInBounds tp (ev x)).getD u undef:=by
      simp only [bQ];rw [Array.getElem?_setIfInBounds_ne h3]
     rw [e3];by_cases h2:tp=u
     ·subst h2;simp only [look,aO h0,aO h1,aO h3,if_true];have:(a.tmps.setIfInBounds tp (ev x)).getD tp undef=ev x:=by simp [hsz,hu]
      rw [this]; exact hxT _
     ·simp only [look,aO h0,aO h1,aO h3,aO h2]
      have e2:(a.tmps.setIfInBounds tp (ev x)).getD u undef=a.tmps.getD u undef:=by
       simp only [bQ];rw [Array.getElem?_setIfInBounds_ne h2]
      rw [e2];have:=hM.tm u;simp only [mk] at this;rw [qH hu] at this;have hl:lowB pinR (look kv u)=true:=bG.1 hlow (look kv u) (by simp only [pk,List.mem_map,List.mem_range]; exact⟨u,hu,rfl⟩);generalize look kv u=y at this hl;cases y with
      | opt u b z=>exact absurd rfl (j6 hl u b z)
      | _=>simpa only [TRep] using this
   ·have:(mk fn.ntmps ((te,bv x)::(td,.iptr n λo=>(cs x).getD o .undef)::(tq,bv x)::(tp,av x)::kv) (accH (Hb pre) (nn pre) sz (gg pre))).tmps.getD u .undef = .undef:=by simp [mk,pk,List.getD,hu]
    rw [this]; simp [TRep,Rep]
  have hr:=round l pre x hIp hpre W τ W τ _ hM2;simp only [wpK] at hr
  have hkf:∀ (W':World) (τ':List SE) (st':St) (a':Act),Mod O pinR W τ W' τ' st' a'->KeepsFrom w.heap.size W W':=by
   intro W' τ' st' a' h2;have hx:=h2.since.ext;refine⟨hx.size,λb o hb ho hoc=> ?_⟩;have hlt:=(aQ.1 ho).1;rw [<- ho];by_cases hO:O b
   ·exact h2.since.jT b hO hlt
   ·refine hx.keep b hlt ?_;rintro(h3 | h3)
    ·exact hO h3
    ·rcases mineT hR b h3 with h4 | ⟨cs,el,hcs⟩
     ·omega
     ·rw [ho] at hcs; cases hcs; simp [Obj.isCells] at hoc
  have fin:∀ (Hh:Heap) (st':St) (W':World) (τ':List SE) (a':Act),LeK pinR fn.ntmps [] st'.heap [] Hh->Mod O pinR W τ W' τ' st' a'->KeepsFrom w.heap.size W W'/\Mod O pinR W τ W' (τ'.take (mk fn.ntmps [] Hh).heap.length) (mk fn.ntmps [] Hh) { tmps:=Array.replicate fn.ntmps undef,defers:=[] } /\ Mod O pin w0 I0 W' (τ'.take (mk fn.ntmps [] Hh).heap.length) (mk fn.ntmps kv Hh) a:=by
   intro Hh st' W' τ' a' hL hM';have h1:=Qg (n:=fn.ntmps) hM';have h2:=hL.le.mod h1;exact⟨hkf _ _ _ _ hM',h2,Ju hM hlow hpin h2⟩
  refine wpIn_mono hr λe a' W' h=> ?_
  cases e with
  | normal=>
   simp only [wpK] at h;obtain⟨st,τ',⟨kv',h',hL,rfl⟩,hM'⟩:=h;rcases hL with ⟨_,hIx,hL⟩ | ⟨h0,_⟩
   rotate_left
   ·simp [qM] at h0
   obtain⟨h1,h2,h3⟩:=fin _ (mk fn.ntmps kv' h') _ _ _ hL hM';obtain⟨τ2,q1,q2,q3,q4⟩:=XP h3 (hA (pre++[x])) hlow hpin
   have hsame:∀ i,i<pinR->τ2[i]?=σ[i]?:=λi hi=>by
    rw [q1 i hi,<- hR.same i hi];have hlt:i<τ.length:=by rw [hR.len]; omega
    have:=(h2.since.hold i _ hi (aF hlt)).1;rw [this,aF hlt]
   have hxe:Ext (Own O σ) w (Own O τ2) W':=by
    have h5:=hR.ext.trans h2.since.ext;exact⟨h5.os,h5.tape,h5.output,h5.size,h5.keep,λb hb=>h5.grow b (q3 b hb)⟩
   refine⟨h1,?_,hIx,τ2,⟨hsame,hxe,q4,hlenM q2⟩,q2⟩;refine⟨h2.since.ext.size,λb cs el fr hb hc=> ?_⟩;rw [h2.since.ext.keep b (aQ.1 hc).1 λho=>hb (hR.ext.grow b ho)];exact hc
  | ret=>
   simp only [wpK] at h;rcases h with ⟨_,st,τ',⟨hX,hL⟩,hM'⟩ | ⟨_,_,h,_⟩
   rotate_left
   ·exact h.elim
   obtain⟨h1,_,h3⟩:=fin _ st _ _ _ hL hM';exact⟨h1,.inl ⟨rfl,hX,_,h3⟩⟩
  | exit i=>
   simp only [wpK] at h;split at h
   ·rename_i hi;obtain⟨st,τ',⟨kv',h',hL,rfl⟩,hM'⟩:=h;rcases hL with ⟨h0,_⟩ | ⟨_,hY,hL⟩
    ·simp [qM] at h0
    obtain⟨h1,_,h3⟩:=fin _ _ _ _ _ hL hM';exact⟨h1,.inr ⟨by rw [hi],hY,_,h3⟩⟩
   ·exact absurd h (by simp)
  | goto t=>simp only [wpK] at h; exact absurd h (by simp)
  | panic ch=>simp only [wpK] at h; exact absurd h (by simp)
  | outgrown=>simp only [wpK] at h; exact absurd h (by simp)
 ·
  rintro D xs W hD hS ⟨hIp,τ,hR,hM⟩ hWD;exact done xs hS hIp W τ _ (push D _ W τ (rndM hR) hD hWD hM)
 ·rintro D c pre W hD hSp (⟨rfl,hX,E1,hM⟩ | ⟨rfl,hY,E1,hM⟩) hWD
  rotate_left
  ·exact wpIn_exit (xc (hex ⟨_,hY⟩) (leave pre hSp hY W E1 _ (push D _ W E1 (aliveM (halivey pre) hM) hD hWD hM)))
  refine wpIn_ret (kH (.inl ⟨.inl rfl,mk fn.ntmps kv (Hx pre),E1,stop pre hSp hX,push D _ W E1 (aliveM (halivex pre) hM) hD hWD hM⟩))
end
end Go.Sx
end
section
set_option maxRecDepth 100000
open Go Go.Sx Go.Proofs Go.Nov
namespace Go.Proofs.Tryz
attribute [local simp] eqKV eqA eqA0 eqH eqB eqL eqL0
def zax:Ctr:=ctrT false false (λs:List Ver=>[verA s]) (λ_=>[]) (λ_=>True) (λ_ (_:Unit)=>True) (λs _=>(.fn 58 [] [.ptr 0 0],[.box [.sl s.length 13 (verG s)]]))
theorem YE:zf prog 37 zax:=by
 refine zP (fn:=f37) (c:=f37.body.getD .skip) rfl rfl rfl (λh=>by cases h) λs hp O w0 I0 Q hl hq=> ?_
 have h0:I0=[]:=aU.1 (by simpa using hl);subst h0;refine zc.n zH [0] (.R [.fn 58 [] [.ptr 0 0]] [.box [.sl s.length 13 (verG s)]]) ?_;simp only [Tree.holds,zd];refine RetR.out1 0 (by simp) (hq () trivial) (λh=>by cases h) (by simp [resV,exp2,exp1,exp0,zG,ren0,eqA2]) ?_;simp only [expB,exp1,List.map_cons,List.map_nil,exp0];exact⟨⟨rfl,rfl,za _ _ _⟩,trivial⟩
theorem zgb{own:Nat->Prop}{w:World}{σ:List SE}{v:Ver}{vs:List Value}(h:RepL own w v.cells σ vs) :
  ∃ (p q r:Option Addr) (l m n:Nat),vs=[.i v.day,.int .u8 v.con.kind,.string ⟨v.con.src.toArray⟩,.string ⟨v.con.dst.toArray⟩,.string ⟨v.con.name.toArray⟩,.int .u8 v.con.x.kind,.string ⟨v.con.x.rat.toArray⟩,.string ⟨v.con.x.name.toArray⟩,.i v.con.x.date,.slice p v.con.x.sub.length l,.i v.con.date,.slice q v.con.days.length m,.slice r v.con.sub.length n]:=by
 simp only [Ver.cells,RepL] at h;obtain⟨v0,_,rfl,h0,v1,_,rfl,h1,v2,_,rfl,h2,v3,_,rfl,h3,v4,_,rfl,h4,v5,_,rfl,h5,v6,_,rfl,h6,v7,_,rfl,h7,v8,_,rfl,h8,v9,_,rfl,h9,v10,_,rfl,h10,v11,_,rfl,h11,v12,_,rfl,h12,rfl⟩:=h;obtain⟨p,l,rfl⟩:=yB h9;obtain⟨q,m,rfl⟩:=yB h11;obtain⟨r,n,rfl⟩:=yB h12;simp only [Rep] at h0 h1 h2 h3 h4 h5 h6 h7 h8 h10;subst h0 h1 h2 h3 h4 h5 h6 h7 h8 h10;exact⟨p,q,r,l,m,n,rfl⟩
theorem zr9{own own2:Nat->Prop}{w:World}(ho2:∀ b,own2 b->own b\/w.heap.size<=b){s:List Ver}{v:Value}(h:Rep own w (.sl s.length 13 (verG s)) [] v) :
  ∃ (a:Option Addr) (cap:Nat) (L:List VT),v = .slice a L.length cap/\L.length=s.length/\(∀ i t,L[i]?=some t->Rep own w (s.getD i Ver.nil).av [] t.val/\t.f=(s.getD i Ver.nil).day) /\
   ∀ i t,L[i]?=some t->∃ ad B o,a=some ad/\ad.add (i*13)=⟨B,o,none⟩/\∀ W,zO own2 w W->∀ (k:Nat) (u:Value),t.cells[k]?=some u->W.cell? ⟨B,o+k,none⟩=some u:=by
 simp only [Rep] at h;obtain⟨a,cap,rfl,_,hz | ⟨ad,rfl,hspot,hcells⟩⟩:=h
 ·refine⟨a,cap,[],?_,?_,?_,?_⟩
  ·rw [hz]; rfl
  ·rw [hz]; rfl
  ·intro i t h; simp at h
  ·intro i t h; simp at h
 have elt:∀ i,i<s.length->∃ t:VT,(Rep own w (s.getD i Ver.nil).av [] t.val/\t.f=(s.getD i Ver.nil).day)/\∀ W,zO own2 w W->∀ (k:Nat) (u:Value),t.cells[k]?=some u->W.cell? ⟨ad.block,ad.off+i*13+k,none⟩=some u:=by
  intro i hi;have cells:∀ o,o<13->¬ own ad.block/\∃ u,w.cell? ⟨ad.block,ad.off+(i*13+o),none⟩=some u/\u.oneCell'=true/\Rep own w (Ver.cell (s.getD i Ver.nil).day (s.getD i Ver.nil).con o) [] u:=λo ho=>hcells i o hi ho
  generalize s.getD i Ver.nil=e at cells;obtain⟨hnb,u0,c0,_,r0⟩:=cells 0 (by decide);obtain⟨_,u1,c1,_,r1⟩:=cells 1 (by decide);obtain⟨_,u2,c2,_,r2⟩:=cells 2 (by decide);obtain⟨_,u3,c3,_,r3⟩:=cells 3 (by decide);obtain⟨_,u4,c4,_,r4⟩:=cells 4 (by decide);obtain⟨_,u5,c5,_,r5⟩:=cells 5 (by decide);obtain⟨_,u6,c6,_,r6⟩:=cells 6 (by decide);obtain⟨_,u7,c7,_,r7⟩:=cells 7 (by decide);obtain⟨_,u8,c8,_,r8⟩:=cells 8 (by decide);obtain⟨_,u9,c9,_,r9⟩:=cells 9 (by decide);obtain⟨_,u10,c10,_,r10⟩:=cells 10 (by decide);obtain⟨_,u11,c11,_,r11⟩:=cells 11 (by decide);obtain⟨_,u12,c12,_,r12⟩:=cells 12 (by decide)
  have hrl:RepL own w e.cells [] [u0,u1,u2,u3,u4,u5,u6,u7,u8,u9,u10,u11,u12]:=by
   simp only [Ver.cells,RepL];exact⟨_,_,rfl,r0,_,_,rfl,r1,_,_,rfl,r2,_,_,rfl,r3,_,_,rfl,r4,_,_,rfl,r5,_,_,rfl,r6,_,_,rfl,r7,_,_,rfl,r8,_,_,rfl,r9,_,_,rfl,r10,_,_,rfl,r11,_,_,rfl,r12,rfl⟩
  obtain⟨p,q,r,l,m,n,hvs⟩:=zgb hrl;refine⟨⟨e.day,e.con.kind,⟨e.con.src.toArray⟩,⟨e.con.dst.toArray⟩,⟨e.con.name.toArray⟩,e.con.x.kind,⟨e.con.x.rat.toArray⟩,⟨e.con.x.name.toArray⟩,e.con.x.date,p,e.con.x.sub.length,l,e.con.date,q,e.con.days.length,m,r,e.con.sub.length,n⟩,⟨?_,rfl⟩,?_⟩
  ·simp only [Ver.av];rw [Rep];exact⟨_,by rw [hvs]; rfl,hrl⟩
  ·intro W hW k u hu;have hu2:[u0,u1,u2,u3,u4,u5,u6,u7,u8,u9,u10,u11,u12][k]?=some u:=by rw [hvs]; exact hu
   rw [Nat.add_assoc]
   have hlt:ad.block<w.heap.size:=by
    unfold World.cell? at c0;cases hh:w.heap[ad.block]? with
    | none=>simp [hh] at c0
    | some o=>exact(aQ.1 hh).1
   refine hW.cell (λh=>(ho2 _ h).elim hnb λh=>by omega) ?_;have hk:k<13:=by have:=(aG.1 hu2).1; simpa using this
   match k,hk with
   | 0,_=>cases hu2; exact c0
   | 1,_=>cases hu2; exact c1
   | 2,_=>cases hu2; exact c2
   | 3,_=>cases hu2; exact c3
   | 4,_=>cases hu2; exact c4
   | 5,_=>cases hu2; exact c5
   | 6,_=>cases hu2; exact c6
   | 7,_=>cases hu2; exact c7
   | 8,_=>cases hu2; exact c8
   | 9,_=>cases hu2; exact c9
   | 10,_=>cases hu2; exact c10
   | 11,_=>cases hu2; exact c11
   | 12,_=>cases hu2; exact c12
 classical
 let T:Nat->VT:=λi=>if h:i<s.length then(elt i h).choose else⟨0,0,default,default,default,0,default,default,0,none,0,0,0,none,0,0,none,0,0⟩
 have hget:∀ i t,((List.range s.length).map T)[i]?=some t->∃ h:i<s.length,t=(elt i h).choose:=by
  intro i t h;simp only [aN] at h;by_cases hi:i<s.length
  ·rw [List.getElem?_range hi] at h;simp only [Option.map_some,aE] at h;refine⟨hi,?_⟩;rw [<- h]; simp only [T]; rw [dif_pos hi]
  ·rw [aZ (by simp; omega)] at h; cases h
 refine⟨some ad,cap,(List.range s.length).map T,by simp,by simp,λi t h=> ?_,λi t h=> ?_⟩
 ·obtain⟨hi,rfl⟩:=hget i t h;exact(elt i hi).choose_spec.1
 ·obtain⟨hi,rfl⟩:=hget i t h;exact⟨ad,ad.block,ad.off+i*13,rfl,by obtain⟨ab,ao,as'⟩:=ad; simp only at hspot; subst hspot; exact Addr.add_lit ..,(elt i hi).choose_spec.2⟩
theorem Yq{O own2:Nat->Prop}{pin m:Nat}{w0 w:World}{I0 σ:List SE}{st:St}{a:Act}(hm:Mod O pin w0 I0 w σ st a){i:Nat}{s:List Ver}(hb:st.heap[i]?=some (.box [.sl s.length 13 (verG s)]))(hi:m<=i)(hn:s.length<=1000000)(ho2:∀ b,own2 b->OwnN O (σ.take m) w b){vb:List Value}(hv:RepL (Go.Sx.Own O σ) w [.ptr i 0] σ vb) :
  ∃ ev ew:Nat->Value,SeqStopsK Fence.wide 0 prog 58 vb.toArray (λx=> #[ev x,ew x]) (zO own2) (λxs=>xs=List.range s.length) (λpre=>pre <+: List.range s.length) s.length w/\(∀ i,Rep (Go.Sx.Own O (σ.take m)) w (s.getD i Ver.nil).av [] (ev i))/\∀ i,Rep (Go.Sx.Own O (σ.take m)) w (.i (endL s i)) [] (ew i):=by
 simp only [RepL,Rep] at hv;obtain⟨v,r,rfl,⟨e,ad,he,had,rfl⟩,rfl⟩:=hv;obtain⟨ad',vs,el,g1,g2,g3,g4⟩:=hm.hp.blk i e _ he hb;rw [had] at g1; cases g1
 have hnb:¬ Go.Sx.Own O (σ.take m) ad.block:=by
  rintro(hO | ⟨f,hf,ad2,h1,h2⟩)
  ·exact hm.good.dis i e ad he had hO
  ·obtain⟨j,hj⟩:=List.getElem?_of_mem hf;have hjm:j<m:=by have:=(aG.1 hj).1; simp at this; omega
   rw [bR,aP hjm] at hj;exact hm.hp.inj j i f e ad2 ad hj he h1 had (by omega) h2
 have hlt:=hm.hp.lt i e ad he had;simp only [RepL] at g4;obtain⟨v0,_,rfl,g4,rfl⟩:=g4
 have g5:Rep (Go.Sx.Own O (σ.take m)) w (.sl s.length 13 (verG s)) [] v0:=by
  simp only [Rep] at g4 ⊢;obtain⟨a1,cap1,k1,k2,k3⟩:=g4;refine⟨a1,cap1,k1,k2,k3.imp id λ⟨ad1,q1,q2,q3⟩=>⟨ad1,q1,q2,λj o hj ho=> ?_⟩⟩;obtain⟨q4,c,q5,q6,q7⟩:=q3 j o hj ho;exact⟨λh=>q4 (JS h),c,q5,q6,jE (λb hb=>JS hb) q7⟩
 obtain⟨a1,cap,L,rfl,hL,hval,hmem⟩:=zr9 (own2:=own2) ho2 g5;rw [g2];have hnb2:¬ own2 ad.block:=λh=>(ho2 _ h).elim hnb λh=>by omega
 clear ho2;generalize Go.Sx.Own O (σ.take m)=own at *
 refine⟨λi=>if h:i<L.length then(L[i]).val else .agg #[.i 0,.int .u8 0,.string ⟨#[]⟩,.string ⟨#[]⟩,.string ⟨#[]⟩,.int .u8 0,.string ⟨#[]⟩,.string ⟨#[]⟩,.i 0,.slice none 0 0,.i 0,.slice none 0 0,.slice none 0 0],λi=>.i (endL s i),?_,λi=> ?_,λi=>by simp [Rep]⟩
 ·intro l J Jx W hW hJ hJx hY h0;have hK:zO own2 w W:=⟨hW.size,λb cs el fr _ hc=>by rw [hW.block b (aQ.1 hc).1]; exact hc⟩
  have hend:∀ i,i<L.length->endV L i=endL s i:=by
   intro i hi;unfold endV endL;by_cases h:i+1<L.length
   ·rw [aF h,aP (by omega)];exact(hval (i+1) _ (aF h)).2
   ·rw [aZ (by omega),aO (by omega)]
  refine CallsIn.mono (Tryz.zfo Fence.wide rfl trivial rfl l 0 ad.block L a1 cap (λW=>zO own2 w W) (zO own2) J Jx (λpre A B h hg=>hJ _ _ _ none h hg λr e=>by cases e)
   (λA B C h k=>h.trans k) (λA B hg=>zO.grown hg λr e=>by cases e) (λA B h k=>h.trans k) (λW h=>h.cell hnb2 ?_) (by omega) hmem ?_ W hK h0) ?_
  ·simp only [World.cell?,g3]; rfl
  ·intro m1 i t W1 ht hj _;have hi:i<L.length:=(aG.1 ht).1;have hti:L[i]=t:=(aG.1 ht).2;have:=hY (List.range i) i W1 hj (by rw [List.length_range]; omega);simp only [dif_pos hi,hti,<- hend i hi] at this;refine JU rfl m1 (YieldAt.mono this ?_);rintro e W' (⟨rfl,h2,h3⟩ | ⟨rfl,h2⟩)
   ·exact .inl ⟨rfl,by rw [List.range_succ]; exact h2,h3⟩
   ·exact .inr ⟨rfl,by rw [List.range_succ]; exact h2⟩
  ·rintro e W' ⟨hv,h⟩;refine⟨hv,?_⟩;rcases h with h | ⟨i,hi,h⟩
   ·exact .inl ⟨_,by rw [hL],h⟩
   ·exact .inr ⟨_,Zx (by omega),h⟩
 ·by_cases hi:i<L.length
  ·simp only [dif_pos hi];exact(hval i _ (aF hi)).1
  ·simp only [dif_neg hi];have:s.getD i Ver.nil=Ver.nil:=by simp only [List.getD]; rw [aZ (by omega)]; rfl
   rw [this];simp only [Ver.av,Ver.cells];rw [Rep];refine⟨_,rfl,?_⟩;simp only [RepL,Rep];exact⟨_,_,rfl,rfl,_,_,rfl,rfl,_,_,rfl,rfl,_,_,rfl,rfl,_,_,rfl,rfl,_,_,rfl,rfl,_,_,rfl,rfl,_,_,rfl,rfl,_,_,rfl,rfl,_,_,rfl,⟨none,0,rfl,aJ _,.inl rfl⟩,_,_,rfl,rfl,_,_,rfl,⟨none,0,rfl,aJ _,.inl rfl⟩,_,_,rfl,⟨none,0,rfl,aJ _,.inl rfl⟩,rfl⟩
noncomputable def K97:=Go.Sx.aA f97
noncomputable def K62:=Go.Sx.aA f62
def zc4(n:Nat):Ctr:=ctrP true (λx:Ex=>[x.exA]) (λx=>x.size<n/\x.size<2^62) (λx r=>r=x.depth) (λ_ (r:Nat)=>(.i (r:Int),[]))
def SEd(s:List Ex)(c i:Nat):KV:=[(3,.i (c:Int)),(7,Ex.exS s),(8,.i (s.length:Int)),(9,.i (i:Int))]
theorem XV(n:Nat)(ih:zf prog 97 (zc4 n)):zf prog 97 (zc4 (n+1)):=by
 refine zh' f97 λx hp O w0 Q hq=> ?_
 obtain⟨hxn,hxs⟩:=hp;replace hq:=hq _ rfl;have hds:=Ex.jP x;rw [Ex.xd] at hq hds;rw [Ex.size_eq] at hxn hxs hds;obtain⟨k,r,m,d,s⟩:=x;simp only [Ex.sub] at hxn hxs hq hds;have hlen:=Ex.qt s;refine zc.n (wM ih) [3,7,8,9] (.leaf (.loop (lps K97 0).1 (lps K97 0).2 [(3,.i 0),(7,.sl s.length 5 (Ex.exG s)),(8,.i s.length),(9,.i 0)] [.box [.int .u8 k,.str r,.str m,.i d,.sl s.length 5 (Ex.exG s)]])) ?_;simp only [Tree.holds,zd,inR,lo,hi,aD];refine zc.loop (ι:={i:Nat // i<=s.length}) (λi=>SEd s (Ex.zz (s.take i.1)) i.1) (λ_=>[]) (λi=>s.length - i.1) ⟨0,aI _⟩ 0 ?_ ?_ (by kernel_rfl)
 ·exact⟨by simp [SEd,Ex.zz,Ex.exS,za],by simp,by kernel_rfl,aI _⟩
 ·rintro⟨i,hil⟩;have hcb:Ex.zz (s.take i)<=Ex.zz s:=Ex.Wz s i;obtain⟨c,hc⟩:∃ c,Ex.zz (s.take i)=c:=⟨_,rfl⟩;simp only [hc];refine zc.n (wM ih) [3,7,8,9] (let v1:=s.getD (i:Int).toNat Ex.nil;.D ((i:Int)<s.length) (.side ((0:Int)<=i/\(i:Int)<s.length) (.ex (λ(x:Ex)=>eqL [(exD v1)] [x.exA]/\Ex.size x<n/\Ex.size x<4611686018427387904) λn=>.all (λ(r:Nat)=>r=Ex.depth n) λn=>.S (i+1) (.leaf (.back 0 [(3,.i (max (c:Int) (n:Int))),(7,.sl s.length 5 (Ex.exG s)),(8,.i s.length),(9,.i (i+1))] [.box (Ex.cellsD v1)])))) (.S (c+1) (.R [.i (c+1)] []))) ?_;simp only [Tree.holds,zd,inR,lo,hi,aD];refine⟨λhlt=> ?_,λhge=> ?_⟩
  ·have hlt:i<s.length:=by have:=aB hlt; omega
   have hg:=Ex.qb hlt;have ht:=Ex.vr s i hlt;refine⟨by omega,λ_=>⟨s.getD i Ex.nil,⟨⟨⟨⟨rfl,rfl⟩,rfl,rfl,⟨rfl,rfl⟩,⟨rfl,rfl,Ex.qp _⟩,trivial⟩,trivial⟩,by omega,by omega⟩,⟨_,rfl⟩,?_⟩⟩;rintro _ rfl;refine⟨by omega,λ_=> ?_⟩;rw [aP trivial];refine⟨⟨i+1,hlt⟩,by show s.length - (i+1)<s.length - i; omega,?_,by simp,by kernel_rfl,aI _⟩;simp [SEd,ht,hc,Ex.exS,za]; omega
  ·have hge:i=s.length:=by have:=aC hge; omega
   subst hge;rw [bD] at hc;refine⟨by omega,λ_=> ?_⟩;exact RetR.scal hq rfl (by simp [resV]; omega)
def Vd:Ctr:=ctrP true (λx:Ex=>[x.exA]) (λx=>x.size<2^62) (λx r=>r=x.depth) (λ_ (r:Nat)=>(.i (r:Int),[]))
theorem zfb:zf prog 97 Vd:=jB Ex.size XV
theorem vg(e:Con):eqA (.agg [.int .u8 e.kind,.str e.src,.str e.dst,.str e.name,.int .u8 e.x.kind,.str e.x.rat,.str e.x.name,.i e.x.date,.sl e.x.sub.length 5 (Ex.exG e.x.sub),.i e.date,.sl e.days.length 1 (Con.dayG e.days),.sl e.sub.length 12 e.deep]) e.conA:=by
 simp only [Con.conA,Ex.exS,Con.dayS,Con.conS,eqA];exact⟨⟨rfl,rfl⟩,rfl,rfl,rfl,⟨rfl,rfl⟩,rfl,rfl,⟨rfl,rfl⟩,⟨rfl,rfl,za _ _ _⟩,⟨rfl,rfl⟩,⟨rfl,rfl,za _ _ _⟩,⟨rfl,rfl,Con.qp e⟩,trivial⟩
theorem QW(x:Ex):kP x<=x.size:=bP (Con.VC x) (Con.Jt x)
def SCd(c:Con)(d i:Nat):KV:=[(3,.i (d:Int)),(14,Con.conS c.sub),(15,.i (c.sub.length:Int)),(16,.i (i:Int))]
def Zu(n:Nat):Ctr:=ctrP true (λc:Con=>[c.conA]) (λc=>c.nodes<n/\c.big<2^40) (λc r=>r=c.depth) (λ_ (r:Nat)=>(.i (r:Int),[]))
noncomputable def GDb:=tb KP (tb zfb tz)
noncomputable def GDc(n:Nat):Nat->Option Ctr:=λf=>if f=62 then some (Zu n) else GDb.g f
theorem zhu{n:Nat}(h:zf prog 62 (Zu n)):∀ f c,GDc n f=some c->zf prog f c:=by
 intro f c hf;simp only [GDc] at hf;split at hf
 ·rename_i hg; subst hg; cases hf; exact h
 ·exact GDb.h f c hf
theorem YF(n:Nat)(ih:zf prog 62 (Zu n)):zf prog 62 (Zu (n+1)):=by
 refine zh' f62 λc hp O w0 Q hq=> ?_
 obtain⟨hcn,hcb⟩:=hp;replace hq:=hq _ rfl;rw [Con.xd] at hq;refine zc.n (zhu ih) [3,14,15,16] (.ex (q25 [(Ex.exA c.x)]) λn=>.all (λ(r:Bool)=>r=ja n) λn=>.ite (!n) (.ex (q26 [(Ex.exA c.x)]) λn=>.all (λ(r:Nat)=>r=Ex.depth n) λn=>.leaf (.loop (lps K62 0).1 (lps K62 0).2 [(3,.i n),(14,.sl c.sub.length 12 (Con.conG c.sub)),(15,.i c.sub.length),(16,.i 0)] [.box (Con.ze c)])) (.leaf (.loop (lps K62 0).1 (lps K62 0).2 [(3,.i 0),(14,.sl c.sub.length 12 (Con.conG c.sub)),(15,.i c.sub.length),(16,.i 0)] [.box (Con.ze c)]))) ?_;simp only [q25,q26,Tree.holds,zd,inR,lo,hi,aD];have hb:=hcb;rw [Con.xg] at hb;rw [Con.wo] at hcn;have hxd:=QW c.x;have hsd:=Con.UB c.sub;have hl:=Con.xW c.sub
 have loop:∀ (d0:Nat) (h:Heap),d0=kP c.x->(∀ S,LeK 0 f62.ntmps S h S []->True)->h=[.box c.ze]->zc prog f62 O 0 w0 [] (λ_ _ _=>False) (RetR (Zu (n+1)) 0 Q) (.code (.loop (lps K62 0).1)::(lps K62 0).2) (mk f62.ntmps [(3,.i (d0:Int)),(14,.sl c.sub.length 12 (Con.conG c.sub)),(15,.i (c.sub.length:Int)),(16,.i 0)] h):=by
  rintro d0 h rfl _ rfl;refine zc.loop (ι:={i:Nat // i<=c.sub.length}) (λi=>SCd c (max (kP c.x) (Con.zz (c.sub.take i.1))) i.1) (λ_=>[]) (λi=>c.sub.length - i.1) ⟨0,aI _⟩ 0 ?_ ?_ (by kernel_rfl)
  ·exact⟨by simp [SCd,Con.zz,Con.conS,za],by simp,by kernel_rfl,aI _⟩
  ·rintro⟨i,hil⟩;have hdb:Con.zz (c.sub.take i)<=Con.zz c.sub:=Con.VK c.sub i;obtain⟨d,hd⟩:∃ d,max (kP c.x) (Con.zz (c.sub.take i))=d:=⟨_,rfl⟩;simp only [hd];refine zc.n (zhu ih) [3,14,15,16] (let v1:=List.getD c.sub (i:Int).toNat Con.nil;.D ((i:Int)<(c.sub.length:Int)) (.side ((0:Int)<=i/\(i:Int)<(c.sub.length:Int)) (.ex (λ(x:Con)=>eqL [(Con.conD v1)] [(Con.conA x)]/\Con.nodes x<n/\Con.big x<1099511627776) λn=>.all (λ(r:Nat)=>r=Con.depth n) λn=>.S (i+1) (.leaf (.back 0 [(3,.i (max (d:Int) (n:Int))),(14,.sl c.sub.length 12 (Con.conG c.sub)),(15,.i c.sub.length),(16,.i (i+1))] [.box (Con.zp v1)])))) (.S (d+1) (.R [.i (d+1)] []))) ?_;simp only [Tree.holds,zd,inR,lo,hi,aD];refine⟨λhlt=> ?_,λhge=> ?_⟩
   ·have hlt:i<c.sub.length:=by have:=aB hlt; omega
    have hg:=Con.jA hlt;have hgb:=Con.ye hlt;have ht:=Con.vr c.sub i hlt;refine⟨by omega,λ_=>⟨c.sub.getD i Con.nil,⟨⟨vg _,trivial⟩,by omega,by omega⟩,⟨_,rfl⟩,?_⟩⟩;rintro _ rfl;refine⟨by omega,λ_=> ?_⟩;rw [aP trivial];refine⟨⟨i+1,hlt⟩,by show c.sub.length - (i+1)<c.sub.length - i; omega,?_,by simp,by kernel_rfl,aI _⟩;simp [SCd,ht,Con.conS,za]; omega
   ·have hge:i=c.sub.length:=by have:=aC hge; omega
    subst hge;rw [bD] at hd;refine⟨by omega,λ_=> ?_⟩;exact RetR.scal hq rfl (by simp [resV]; omega)
 refine⟨c.x,⟨⟨jy c.x,trivial⟩,trivial⟩,⟨_,rfl⟩,?_⟩;rintro _ rfl;refine⟨λh=>⟨c.x,⟨⟨jy c.x,trivial⟩,by show c.x.size<_; omega⟩,⟨_,rfl⟩,?_⟩,λh=> ?_⟩
 ·rintro _ rfl;exact loop c.x.depth _ (by unfold kP; rw [show ja c.x=false by simpa using h]; rfl) (λ_ _=>trivial) rfl
 ·exact loop 0 _ (by unfold kP; rw [show ja c.x=true by simpa using h]; rfl) (λ_ _=>trivial) rfl
def V4:Ctr:=ctrP true (λc:Con=>[c.conA]) (λc=>c.big<2^40) (λc r=>r=c.depth) (λ_ (r:Nat)=>(.i (r:Int),[]))
theorem zf9:zf prog 62 V4:=jB Con.nodes YF
end Go.Proofs.Tryz
end
section
namespace Go.Sx
variable [Stat]
section
variable {P:Program}
theorem V2(a:AV):eqA0 a a:=by
 cases a<;>simp [eqA0]
 exactλ_ _ _ _=>rfl
theorem ZP:∀ l:List AV,eqL0 l l
 | []=>trivial
 | a::l=>⟨V2 a,ZP l⟩
theorem zk0(a:AV):eqA a a:=by
 cases a with
 | agg l=>exact ZP l
 | tup l=>exact ZP l
 | _=>unfold eqA; exact V2 _
theorem Js:∀ l:List AV,eqL l l
 | []=>trivial
 | a::l=>by
  unfold eqL;split
  ·rename_i h1 h2; cases h1
  ·rename_i h1 h2; cases h1; cases h2; exact Js l
  ·rename_i h1 h2; cases h1; cases h2; exact⟨zk0 _,Js l⟩
  ·rename_i hx; exact(hx _ _ _ _ rfl rfl).elim
end
end Go.Sx
end
section
namespace Go.Sx
variable [Stat]
section
variable {P:Program} {Γ:Nat->Option Ctr} {fn:Func}
def inlC(P:Program)(Γ:Nat->Option Ctr)(n:Nat)(fn:Func):Ctr where
 fresh:=false
 spec args hc:=match fn.body with
  | some c=>(run P Γ hc.length n [.code c] (wS fn args hc)).bind λlf=>match lf with
   | .ret st=>(resX P st fn.results.toList).bind λrs=>bif decide (hc.length<=st.heap.length) then .leaf (exp2 st.heap (List.range st.heap.length) (resV rs),expH st.heap (List.range st.heap.length)) else .fail
   | _=>.fail
  | none=>.fail
theorem nodup_range':∀ (n s:Nat),jY (List.range' s n)=true
 | 0,_=>rfl
 | n+1,s=>by
  rw [List.range'_succ];simp only [jY,bA];refine⟨?_,nodup_range' n (s+1)⟩;simp [bZ,List.mem_range'_1]
theorem zb(b:Blk):eqB b b:=by
 cases b with
 | dead=>trivial
 | box l=>exact Js l
 | arr n sz g=>exact⟨rfl,rfl,λ_ _ _ _=>rfl⟩
 | arrI k n f=>exact⟨rfl,λ_ _ _ _=>rfl⟩
 | arrS n f=>exact⟨rfl,λ_ _ _ _=>rfl⟩
 | map ag sh has get pe=>exact⟨⟨rfl,.inr rfl⟩,rfl,λ_=>rfl,λ_ _=>rfl⟩
theorem zf5(h:Heap):eqH h h:=by
 induction h with
 | nil=>trivial
 | cons b l ih=>exact⟨zb b,ih⟩
theorem zsm{g n:Nat}(hmix:P.follows .mixedOrders=true)(hΓ:∀ g c,Γ g=some c->zf P g c)(hf:P.funcs[g]?=some fn) (hn:(fn.name == "runtime.NumGoroutine")=false):zf P g (inlC P Γ n fn):=by
 intro args hc Q hq hfr;simp only [inlC] at hq;cases hb:fn.body with
 | none=>rw [hb] at hq; exact hq.elim
 | some c=>
  rw [hb] at hq;simp only [Tree.zn] at hq;refine qR.plain (zpr hf hb hn hfr λO w0 I0 hl=>Safe.run hmix (λg c h=>(hΓ g c h).x) n (Tree.qf (λlf h=> ?_) hq));cases lf with
  | ret st=>
   simp only [Tree.zn] at h;refine Tree.qf (λrs h=> ?_) h;cases hd:decide (hc.length<=st.heap.length) with
   | false=>rw [hd] at h; exact h.elim
   | true=>
    rw [hd] at h;have h:Q (exp2 st.heap (List.range st.heap.length) (resV rs),expH st.heap (List.range st.heap.length)):=h;have hd:=aB hd;exact⟨List.range st.heap.length,by rw [List.range_eq_range']; exact nodup_range' _ _,λi hi=>List.mem_range.1 hi,λj hj=>by rw [List.getElem?_range (by omega)],λh=>(by cases h),_,_,LeA.refl _,.inl (zf5 _),by simp [expH],h⟩
  | _=>exact h.elim
end
end Go.Sx
end
section
set_option maxRecDepth 100000
open Go Go.Sx Go.Proofs Go.Nov
namespace Go.Proofs.Tryz
attribute [local simp] eqKV eqA eqA0 eqH eqB eqL eqL0
noncomputable def K105:=Go.Sx.aA f105
def zq1:Ctr:=ctrP true (λl:List Int=>[Con.dayS l]) (λl=>l.length<2^40) (λl r=>r=xN l) (λ_ (r:Bool)=>(.bool r,[]))
noncomputable def Um:Ctr:=inlC prog noG 100 f104
theorem Kh:zf prog 104 Um:=zsm hmix zH rfl rfl
noncomputable def GDy:=tb Kh tz
def zdb(l:List Int)(i:Nat):Prop:=∀ j,j<i->dayB (l.getD j 0)=true/\(0<j->l.getD (j - 1) 0<l.getD j 0)
theorem ze0{l:List Int}(h1:1<=l.length)(h2:l.length<=100)(h:zdb l l.length):xN l=true:=by
 unfold xN;rw [aX h1,aX h2,zs5 (z:=0) λj hj=>(h j hj).1];simp only [Bool.true_and];unfold incB;refine Jq λj hj=> ?_
 rw [zc1];exact(h (j+1) hj).2 (by omega)
theorem zj7{l:List Int}{i:Nat}(hi:i<l.length)(h:¬ (dayB (l.getD i 0)=true/\(0<i->l.getD (i - 1) 0<l.getD i 0))):xN l=false:=by
 unfold xN;by_cases hd:dayB (l.getD i 0)=true
 ·have h:0<i/\¬ l.getD (i - 1) 0<l.getD i 0:=by
   refine⟨?_,?_⟩
   ·rcases bC i with h0 | h0
    ·exact absurd ⟨hd,λh1=>by omega⟩ h
    ·exact h0
   ·exactλh1=>h ⟨hd,λ_=>h1⟩
  have:incB l=false:=by
   unfold incB;refine QT (j:=i - 1) (by omega) ?_;rw [zc1,show i - 1+1=i by omega];exact h.2
  rw [this]; simp
 ·have:l.all dayB=false:=zn5 (z:=0) hi (by simpa using hd);rw [this]; simp
theorem UN{l:List Int}{i:Nat}(h:zdb l i)(h1:dayB (l.getD i 0)=true/\(0<i->l.getD (i - 1) 0<l.getD i 0)):zdb l (i+1):=λj hj=>by
 rcases aR j i with h2 | h2
 ·exact h j h2
 ·rw [show j=i by omega]; exact h1
theorem zc8{l:List Int}{i:Nat}{b:Bool}(hb:b=dayB (l.getD i 0)):(bif !b then true else bif decide (0<(i:Int)) then decide (l.getD i 0<=l.getD ((i:Int) - 1).toNat 0) else false)=false↔(dayB (l.getD i 0)=true/\(0<i->l.getD (i - 1) 0<l.getD i 0)):=by
 have e:((i:Int) - 1).toNat=i - 1:=by omega
 rw [e,<- hb];cases b with
 | false=>simp
 | true=>
  by_cases h0:0<i
  ·have h1:0<(i:Int):=by omega
   rw [aX h1];simp only [Bool.not_true,cond_false,cond_true,aV,true_and];exact⟨λh _=>by omega,λh=>by have:=h h0; omega⟩
  ·have h1:¬ 0<(i:Int):=by omega
   rw [aW h1];simp [h0]
theorem zh0{l:List Int}{i:Nat}{b:Bool}(hb:b=dayB (l.getD i 0)):(bif !b then true else bif decide (0<(i:Int)) then decide (l.getD i 0<=l.getD ((i:Int) - 1).toNat 0) else false)=true->¬ (dayB (l.getD i 0)=true/\(0<i->l.getD (i - 1) 0<l.getD i 0)):=λh g=>by
 rw [(zc8 hb).2 g] at h; cases h
def SDy(l:List Int)(i:Nat):KV:=[(0,Con.dayS l),(13,Con.dayS l),(14,.i (l.length:Int)),(15,.i (i:Int)),Z 24,Z 25,Z 26,Z 27,Z 28,Z 29,Z 30,Z 31,Z 32,Z 33,Z 34]
theorem zqw(d:Int):(bif decide (0<=d) then decide (d<=99999) else false)=dayB d:=by
 rw [Bool.eq_iff_iff];simp [dayB]
theorem zmh:zf prog 105 zq1:=by
 refine zh' f105 λl hl O w0 Q hq=> ?_
 replace hq:=hq _ rfl;refine zc.n GDy.h [0,13,14,15,24,25,26,27,28,29,30,31,32,33,34] (.ite (bif decide ((l.length:Int)<1) then true else decide ((100:Int)<l.length)) (.R [.bool false] []) (.leaf (.loop (lps K105 0).1 (lps K105 0).2 [(0,.sl l.length 1 (Con.dayG l)),(13,.sl l.length 1 (Con.dayG l)),(14,.i l.length),(15,.i 0),Z 24,Z 25,Z 26,Z 27,Z 28,Z 29,Z 30,Z 31,Z 32,Z 33,Z 34] []))) ?_;simp only [Tree.holds,zd,inR,lo,hi,aD];refine⟨λh=> ?_,λh=> ?_⟩
 ·have hb:xN l=false:=by
   unfold xN;by_cases h1:1<=l.length
   ·by_cases h2:l.length<=100
    ·rw [aW (by omega),aW (by omega)] at h; cases h
    ·rw [aW h2]; simp
   ·rw [aW h1]; simp
  rw [hb] at hq;exact RetR.scal hq rfl rfl
 have hlen:1<=l.length/\l.length<=100:=by
  by_cases h1:(l.length:Int)<1
  ·rw [aX h1] at h; cases h
  ·rw [aW h1] at h;have:=aC h;omega
 clear h;refine zc.loop (ι:={i:Nat // i<=l.length/\zdb l i}) (λi=>SDy l i.1) (λ_=>[]) (λi=>l.length - i.1) ⟨0,aI _,λj hj=>by omega⟩ 0 ?_ ?_ (by kernel_rfl)
 ·exact⟨by simp [SDy,Con.dayS,za],by simp,by kernel_rfl,aI _⟩
 rintro⟨i,hil,hg⟩;refine zc.n GDy.h [0,13,14,15,24,25,26,27,28,29,30,31,32,33,34] (let v1:=l.getD (i:Int).toNat (0:Int)<=99999;.D ((i:Int)<l.length) (.side ((0:Int)<=i/\(i:Int)<l.length) (.side ((!bif decide ((0:Int)<=List.getD l (i:Int).toNat (0:Int)) then decide v1 else false)=false/\decide ((0:Int)<i)=true->inR .i64 (i-1)) (.side ((!bif decide ((0:Int)<=List.getD l (i:Int).toNat (0:Int)) then decide v1 else false)=false/\decide ((0:Int)<i)=true->(0:Int)<=i - (1:Int)/\(i:Int) - (1:Int)<l.length) (.ite (bif !bif decide ((0:Int)<=List.getD l (i:Int).toNat (0:Int)) then decide v1 else false then true else bif decide ((0:Int)<i) then decide (l.getD (i:Int).toNat (0:Int)<=List.getD l (Int.toNat (i-1)) (0:Int)) else false) (.R [.bool false] []) (.S (i+1) (.leaf (.back 0 [(0,.sl l.length 1 (Con.dayG l)),(13,.sl l.length 1 (Con.dayG l)),(14,.i l.length),(15,.i (i+1)),Z 24,Z 25,Z 26,Z 27,Z 28,Z 29,Z 30,Z 31,Z 32,Z 33,Z 34] []))))))) (.R [.bool true] [])) ?_;simp only [Tree.holds,zd,inR,lo,hi,aD];refine⟨λhlt=> ?_,λhge=> ?_⟩
 ·have hlt:i<l.length:=by have:=aB hlt; omega
  refine⟨by omega,λ_=>⟨λh=>(by have:=aB h.2; omega),λ_=>⟨λh=>(by have:=aB h.2; omega),λ_=>⟨λht=> ?_,λht=>⟨by omega,λ_=> ?_⟩⟩⟩⟩⟩
  ·rw [zj7 hlt (zh0 (zqw _) ht)] at hq;exact RetR.scal hq rfl rfl
  ·rw [aP trivial];exact⟨⟨i+1,hlt,UN hg ((zc8 (zqw _)).1 ht)⟩,by show l.length - (i+1)<l.length - i; omega,by simp [SDy,Con.dayS,za],by simp,by kernel_rfl,aI _⟩
 ·have hge:i=l.length:=by have:=aC hge; omega
  subst hge;rw [ze0 hlen.1 hlen.2 hg] at hq;exact RetR.scal hq rfl rfl
def bitB(p q:Int):Bool:=decide (((p.toNat &&& q.toNat:Nat):Int)≠0)
def HHas(p:Int):Heap:=[.box [.i p]]
def hasC:Ctr:=ctrT false false (λp:Int×Int=>[.i p.2,.ptr 0 0]) (λp=>HHas p.1) (λp=>0<=p.1/\p.1<512/\0<=p.2/\p.2<512) (λp r=>r=bitB p.1 p.2) (λp (r:Bool)=>(.bool r,HHas p.1))
theorem zjo:zf prog 100 hasC:=by
 refine zP (fn:=f100) (c:=f100.body.getD .skip) rfl rfl rfl (λh=>by cases h) λp hp O w0 I0 Q hl0 hq=> ?_
 obtain⟨p,q⟩:=p;obtain⟨h1,h2,h3,h4⟩:=hp;replace hq:=hq _ rfl;simp only at h1 h2 h3 h4 hq;refine zc.n zH [] (.side (((0:Int)<=p/\p<=9223372036854775807)/\(0:Int)<=q/\q<=9223372036854775807) (.R [.bool !decide ((↑(Int.toNat p &&& Int.toNat q):Int)=0)] [.box [.i p]])) ?_;simp only [Tree.holds,zd,inR,lo,hi,aD];refine⟨by omega,λ_=> ?_⟩;refine RetR.keep [0] rfl rfl (by show ∀ j,j<1->_; decide) rfl hq ?_ ?_ rfl
 ·show(!decide (((p.toNat &&& q.toNat:Nat):Int)=0))=bitB p q;simp [bitB]
 ·exact⟨⟨⟨rfl,rfl⟩,trivial⟩,trivial⟩
noncomputable def GNd2:=tb zjo (tb K9 tz)
def zpu(p:Int):Heap:=[.box [.fn 100 [] [.ptr 1 0]],.box [.i p]]
def wG(b:Bool)(s:L8):Bool:=if b=true then qI s else decide (s=[])
def zr1:Ctr:=ctrT false false (λp:Int×Int×L8=>[.i p.2.1,.str p.2.2,.ptr 0 0]) (λp=>zpu p.1) (λp=>0<=p.1/\p.1<512/\0<=p.2.1/\p.2.1<512/\p.2.2.length<2^62) (λp r=>r=wG (bitB p.1 p.2.1) p.2.2) (λp (r:Bool)=>(.bool r,zpu p.1))
abbrev q27(A:List AV)(H:Heap)(x:Int×Int):Prop:=eqL A [.i x.2,.ptr 0 0]/\eqH H [.box [.i x.1]]/\1=1/\(0:Int)<=x.1/\x.1<512/\(0:Int)<=x.2/\x.2<512
theorem zn4:zf prog 101 zr1:=by
 refine zP (fn:=f101) (c:=f101.body.getD .skip) rfl rfl rfl (λh=>by cases h) λp hp O w0 I0 Q hl0 hq=> ?_
 obtain⟨p,q,s⟩:=p;obtain⟨h1,h2,h3,h4,h5⟩:=hp;replace hq:=hq _ rfl;simp only at h1 h2 h3 h4 h5 hq;refine zc.n GNd2.h [] (.ex (q27 [.i q,.ptr 0 0] [.box [.i p]]) λn=>.all (λ(r:Bool)=>r=bitB n.1 n.2) λn_1=>.ex (λ(x:L8)=>n_1=true->q15 [.str s] x) λn_2=>.all (λ(x:Bool)=>n_1=true->x=qI n_2) λn_3=>.ite ((bif n_1 then n_3 else false) == false) (.ex (q27 [.i q,.ptr 0 0] [.box [.i n.1]]) λn=>.all (λ(r:Bool)=>r=bitB n.1 n.2) λn_4=>.R [.bool (bif bif n_1 then n_3 else false then true else bif !n_4 then decide (s=#[].toList) else false)] [.box [.fn 100 [] [.ptr 1 0]],.box [.i n.1]]) (.R [.bool (bif bif n_1 then n_3 else false then true else bif !false then decide (s=#[].toList) else false)] [.box [.fn 100 [] [.ptr 1 0]],.box [.i n.1]])) ?_;simp only [q15,q27,Tree.holds,zd,inR,lo,hi,aD];refine⟨(p,q),⟨⟨⟨rfl,rfl⟩,⟨rfl,rfl⟩,trivial⟩,⟨⟨⟨rfl,rfl⟩,trivial⟩,trivial⟩,trivial,h1,h2,h3,h4⟩,⟨_,rfl⟩,?_⟩;rintro b rfl;refine⟨s,λ_=>⟨⟨rfl,trivial⟩,h5⟩,⟨qI s,λ_=>rfl⟩,λm hm=>⟨λhb=> ?_,λhb=> ?_⟩⟩
 ·refine⟨(p,q),⟨⟨⟨rfl,rfl⟩,⟨rfl,rfl⟩,trivial⟩,⟨⟨⟨rfl,rfl⟩,trivial⟩,trivial⟩,trivial,h1,h2,h3,h4⟩,⟨_,rfl⟩,?_⟩;rintro b rfl;refine RetR.keep [0,1] rfl rfl (by show ∀ j,j<2->_; decide) rfl hq ?_ ?_ rfl
  ·simp only [exp2,exp1,exp0,resV,eqA2,wG];cases hbb:bitB p q with
   | true=>
    have:=hm hbb;rw [hbb] at hb;subst this;have:qI s=false:=by simpa using hb
    rw [this]; rfl
   | false=>simp; rfl
  ·exact⟨⟨rfl,trivial⟩,⟨⟨rfl,rfl⟩,trivial⟩,trivial⟩
 ·refine RetR.keep [0,1] rfl rfl (by show ∀ j,j<2->_; decide) rfl hq ?_ ?_ rfl
  ·simp only [exp2,exp1,exp0,resV,eqA2,wG];cases hbb:bitB p q with
   | true=>
    have:=hm hbb;rw [hbb] at hb;subst this;have:qI s=true:=by simpa using hb
    rw [this]; rfl
   | false=>rw [hbb] at hb; simp at hb
  ·exact⟨⟨rfl,trivial⟩,⟨⟨rfl,rfl⟩,trivial⟩,trivial⟩
noncomputable def GNd:=tb zjo (tb zn4 (tb zs9 (tb zjm (tb KP (tb Kh (tb zmh tz))))))
end Go.Proofs.Tryz
end
section
namespace Go.Sx
variable [Stat]
section
variable {O:Nat->Prop} {pin:Nat} {w0:World} {I0:List SE} {P:Program} {fn:Func} {Xp:List PanicEntry->Prop}
end
end Go.Sx
end
