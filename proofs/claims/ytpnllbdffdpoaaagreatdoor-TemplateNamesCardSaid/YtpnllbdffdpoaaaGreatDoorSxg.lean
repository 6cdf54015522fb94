/- Part 7 of the proof. -/
import Derived.Test.YtpnllbdffdpoaaaGreatDoorSxf
set_option linter.unusedVariables false
set_option linter.unusedSimpArgs false
set_option linter.unusedSectionVars false
section
set_option maxRecDepth 100000
open Go Go.Sx Go.Proofs Go.Nov
namespace Go.Proofs.Tryz
attribute [local simp] eqKV eqA eqA0 eqH eqB eqL eqL0
theorem Qy(s:L8):Lib.indexByte s 47=if zP s<s.length then(zP s:Int) else -1:=by
 induction s with
 | nil=>rfl
 | cons c s ih=>
  simp only [Lib.indexByte,zP,List.findIdx_cons];cases h:(c == 47) with
  | true=>simp
  | false=>
   simp only [Bool.false_eq_true,if_false,ih,cond_false,aL];show _=if zP s+1<s.length+1 then((zP s+1:Nat):Int) else -1
   by_cases h2:zP s<s.length
   ·rw [aP h2,aO (by simp),aP (by omega)]; omega
   ·rw [aO h2,aP (by rfl),aO (by omega)]
def zao:Ctr:=ctrP true (λs:L8=>[.str s,.str [47]]) (λs=>True) (λs r=>r=if zP s<s.length then(zP s:Int) else -1) (λ_ (r:Int)=>(.i r,[]))
theorem zi0:zg prog 170 zao:=by
 intro args hc Q hq _;simp only [zao,ctrP] at hq;split at hq
 ·obtain⟨s,⟨h1,_⟩,_,h3⟩:=hq;have hq:=h3 _ rfl;simp only [Tree.holds] at hq;refine j6.le h1 ?_;intro O w σ vals hg hh hr;simp only [RepL,Rep] at hr;obtain⟨v1,r1,rfl,rfl,v2,r2,rfl,rfl,rfl⟩:=hr;refine .inl ⟨enters_of Tryz.func170 (by kernel_rfl) rfl ..,?_⟩;refine(Tryz.U6 ⟨s.toArray⟩ 47 w).mono ?_;rintro e w' ⟨rfl,rfl⟩;have hx:=Qy s;have h0:σ=[]:=aU.1 hh.len;subst h0;refine⟨_,rfl,_,[],[],hq,?_,⟨rfl,λi j e f a b h=>by simp at h,λi e a h=>by simp at h,λi e b h=>by simp at h⟩,hg,aJ _,Hold.refl _ _ _,Ext.refl _ _⟩;simp only [Rep];rw [<- hx]
 ·exact hq.elim
def cutC:Ctr:=ctrP true (λs:L8=>[.str s,.str [47]]) (λs=>s.length<2^62) (λs r=>r=cutR s) (λ_ r=>(.tup [.str r.1,.str r.2.1,.bool r.2.2],[]))
noncomputable def GC1:=tb zi0 tz
theorem zod:zg prog 157 cutC:=by
 refine zm' f157 λs hs O w0 Q hq=> ?_
 replace hq:=hq _ rfl;refine zd.n GC1.h [] (.ex (λ(x:L8)=>eqL [.str s,.str [(47:UInt8)]] [.str x,.str [(47:UInt8)]]/\True) λn=>.all (λ(r:Int)=>r=if zP n<n.length then(↑(zP n):Int) else(-1:Int)) λn=>.D ((0:Int)<=n) (.side ((0:Int)<=n/\n<=(s.length:Int)) (.S (n+(1:Int)) (.side ((0:Int)<=n+(1:Int)/\n+(1:Int)<=s.length) (.R [.str (List.drop 0 (List.take (Int.toNat n) s)),.str (List.drop (Int.toNat (n+(1:Int))) (List.take s.length s)),.bool true] [])))) (.R [.str s,.str #[].toList,.bool false] [])) ?_;simp only [Tree.holds,zh,inR,lo,hi];refine⟨s,⟨by simp,trivial⟩,⟨_,rfl⟩,?_⟩;rintro _ rfl;by_cases h:zP s<s.length
 ·simp only [aP h];rw [zaz h] at hq;refine⟨λ_=>⟨by omega,λ_=>⟨by omega,λ_=>⟨by omega,λ_=> ?_⟩⟩⟩,λhn=> ?_⟩
  ·refine RetR.scal hq rfl ?_;simp [resV]
  ·have:=aC hn; omega
 ·simp only [aO h];rw [zgm h] at hq;refine⟨λhn=> ?_,λ_=>RetR.scal hq rfl (by simp [resV])⟩;have:=aB hn; omega
noncomputable def GC2:=tb zod tz
abbrev q20(A:List AV)(x:L8):Prop:=eqL A [.str x,.str [(47:UInt8)]]/\x.length<4611686018427387904
theorem zqg:zg prog 127 cutC:=by
 refine zm' f127 λs hs O w0 Q hq=> ?_
 replace hq:=hq _ rfl;refine zd.n GC2.h [] (.ex (q20 [.str s,.str [(47:UInt8)]]) λn=>.all (λ(r:L8×L8×Bool)=>r=cutR n) λn=>.R [.str n.1,.str n.2.1,.bool n.2.2] []) ?_;simp only [q20,Tree.holds,zh,inR,lo,hi];refine⟨s,⟨by simp,hs⟩,⟨_,rfl⟩,?_⟩;rintro _ rfl;exact RetR.scal hq rfl (by simp [resV])
def U8:Ctr:=ctrP true (λs:L8=>[.str s]) (λs=>s.length<2^62) (λs r=>r=cutR s) (λ_ r=>(.tup [.str r.1,.str r.2.1,.bool r.2.2],[]))
noncomputable def GC3:=tb zqg (tb Wu tz)
theorem XO:zg prog 89 U8:=by
 refine zm' f89 λs hs O w0 Q hq=> ?_
 replace hq:=hq _ rfl;refine zd.n GC3.h [] (.ex (q20 [.str s,.str #[(47:UInt8)].toList]) λn=>.all (λ(r:L8×L8×Bool)=>r=cutR n) λn=>.R [.str n.1,.str n.2.1,.bool n.2.2] []) ?_;simp only [q20,Tree.holds,zh,inR,lo,hi];refine⟨s,⟨by simp,hs⟩,⟨_,rfl⟩,?_⟩;rintro _ rfl;exact RetR.scal hq rfl (by simp [resV])
def zq3:Ctr:=ctrP true (λs:L8=>[.str s]) (λs=>s.length<2^62) (λs r=>r=if errI s=12 then 12 else 0) (λ_ (r:Int)=>(.i r,[]))
theorem zo6:zg prog 90 zq3:=by
 refine zm' f90 λs hs O w0 Q hq=> ?_
 replace hq:=hq _ rfl;refine zd.n GC3.h [] (.ex (q15 [.str s]) λn=>.all (λ(r:Int)=>r=errI n) λn=>.N (n=14) (.R [.i n] []) (.R [.i 0] [])) ?_;simp only [q15,Tree.holds,zh,inR,lo,hi];refine⟨s,⟨by simp,hs⟩,⟨_,rfl⟩,?_⟩;rintro _ rfl;rcases xq s with h | h | h<;>simp only [h] at hq ⊢
 all_goals
  refine⟨λh=> ?_,λh=> ?_⟩
  all_goals first
   | (exfalso; revert h; decide)
   | exact RetR.scal hq rfl (by simp [resV])
def yw:Ctr:=ctrP true (λs:L8=>[.str s]) (λs=>s.length<2^62) (λs r=>r=errR s) (λ_ (r:Int)=>(.i r,[]))
noncomputable def GC4:=tb XO (tb zo6 (tb Wu (tb zj2 tz)))
theorem kW:zg prog 60 yw:=by
 refine zm' f60 λs hs O w0 Q hq=> ?_
 replace hq:=hq _ rfl;refine zd.n GC4.h [] (.ex (q15 [.str s]) λn=>.all (λ(r:L8×L8×Bool)=>r=cutR n) λn=>.ex (q15 [.str n.1]) λn_1=>.all (λ(r:Int)=>r=if errI n_1=12 then(12:Int) else(0:Int)) λn_2=>.ex (λ(x:L8)=>(!decide (n_2=0))=false/\n.2.2=true->q15 [.str n.2.1] x) λn_3=>.all (λ(x:Int)=>(!decide (n_2=0))=false/\n.2.2=true->x=if errI n_3=12 then(12:Int) else(0:Int)) λn_4=>.side (((!decide (n_2=0))=false/\n.2.2=true)/\(!decide (n_4=0))=false->(0:Int)<=0/\(0:Int)<n.2.1.length) (.ite (bif !decide (n_2=0) then true else bif n.2.2 then bif bif bif !decide (n_4=0) then true else decide ((↑(UInt8.toNat (List.getD n.2.1 0 (0:UInt8))):Int)=45) then true else decide (n.2.1=#[(48:UInt8)].toList) then true else decide (n.2.1=#[(49:UInt8)].toList) else false) (.R [.i 12] []) (.ex (q15 [.str n.1]) λn_5=>.all (λ(r:Int)=>r=errI n_5) λn_6=>.ex (λ(x:L8)=>(!decide (n_6=0))=false/\n.2.2=true->q15 [.str n.2.1] x) λn_7=>.all (λ(x:Int)=>(!decide (n_6=0))=false/\n.2.2=true->x=errI n_7) λn_8=>.ite (bif !decide (n_6=0) then true else bif n.2.2 then !decide (n_8=0) else false) (.R [.i 14] []) (.ite n.2.2 (.ex (q17 [.str n.1,.str n.2.1]) λn=>.all (λ(r:L8×Int)=>r=gcdR n.1 n.2) λn=>.N (n.1=#[(49:UInt8)].toList) (.R [.i 12] []) (.R [.i 0] [])) (.R [.i 0] []))))) ?_;simp only [q15,q17,Tree.holds,zh,inR,lo,hi];refine⟨s,⟨by simp,hs⟩,⟨_,rfl⟩,?_⟩;rintro _ rfl;have hlen:=KO s
 have hno:(cutR s).2.2=false->(cutR s).1=s:=by
  intro h;unfold cutR at h ⊢;split at h
  ·cases h
  ·rename_i hn; rw [aO hn]
 simp only [errR] at hq;generalize cutR s=c at hq hlen hno ⊢;obtain⟨n,d,f⟩:=c;simp only at hq hlen hno ⊢;refine⟨n,⟨by simp,by omega⟩,⟨_,rfl⟩,?_⟩;rintro _ rfl;refine⟨d,λ_=>⟨by simp,by omega⟩,⟨_,λ_=>rfl⟩,?_⟩;intro fd hfd;cases f with
 | false=>
  have hn:=hno rfl;subst hn;rw [aO (by decide)] at hq;refine⟨λh=>by simp at h,λ_=>⟨λh=> ?_,λh=> ?_⟩⟩
  ·rcases xq n with e | e | e<;>rw [e] at hq h
   ·simp at h
   ·exact RetR.scal hq rfl (by simp [resV])
   ·simp at h
  ·have hn12:errI n≠12:=by
    intro e; rw [e] at h; simp at h
   refine⟨n,⟨by simp,by omega⟩,⟨_,rfl⟩,?_⟩;rintro _ rfl;refine⟨d,λ_=>⟨by simp,by omega⟩,⟨_,λ_=>rfl⟩,?_⟩;intro fd2 _;refine⟨λh=> ?_,λh=>⟨λh=>(by cases h),λ_=> ?_⟩⟩
   ·rcases xq n with e | e | e
    ·rw [e] at h; simp at h
    ·exact absurd e hn12
    ·rw [e] at hq; exact RetR.scal hq rfl (by simp [resV])
   ·rcases xq n with e | e | e
    ·rw [e] at hq; exact RetR.scal hq rfl (by simp [resV])
    ·exact absurd e hn12
    ·rw [e] at h; simp at h
 | true=>
  rw [aP rfl] at hq;by_cases hn:errI n=12
  ·rw [aP (.inl hn)] at hq;simp only [hn];refine⟨λh=>by simp at h,λ_=>⟨λ_=>RetR.scal hq rfl (by simp [resV]),λh=>by simp at h⟩⟩
  ·rw [aO hn] at hfd ⊢;have hfd:=hfd ⟨by simp,rfl⟩;subst hfd;by_cases hd:errI d=12
   ·rw [aP (.inr (.inl hd))] at hq;rw [aP hd];refine⟨λh=>by simp at h,λ_=>⟨λ_=>RetR.scal hq rfl (by simp [resV]),λh=>by simp at h⟩⟩
   ·rw [aO hd];have hd0:d≠[]:=by rintro rfl; exact hd YR
    have hneg:=Vk hd0
    have hneg2:decide (((d.getD 0 0).toNat:Int)=45)=negI d:=by
     rw [hneg];by_cases h:d.getD 0 0=45
     ·rw [h]; rfl
     ·rw [aW h];refine aW λh2=>h (Y7 ?_)
      rw [h2]; rfl
    rw [hneg2];refine⟨λ_=>by have:=List.length_pos_iff.2 hd0; omega,λ_=>⟨λh=> ?_,λh=> ?_⟩⟩
    ·have:negI d=true\/d=[48]\/d=[49]:=by
      revert h
      cases negI d<;>simp
     rw [aP (.inr (.inr this))] at hq;exact RetR.scal hq rfl (by simp [resV])
    ·have:¬ (errI n=12\/errI d=12\/negI d=true\/d=[48]\/d=[49]):=by
      revert h
      cases negI d<;>simp [hn,hd]
     rw [aO this] at hq;refine⟨n,⟨by simp,by omega⟩,⟨_,rfl⟩,?_⟩;rintro _ rfl;refine⟨d,λ_=>⟨by simp,by omega⟩,⟨_,λ_=>rfl⟩,?_⟩;intro ed hed;by_cases hn0:errI n=0
     ·have hed:=hed ⟨by simp [hn0],rfl⟩;subst hed;by_cases hd0:errI d=0
      ·rw [aO (by simp [hn0,hd0])] at hq;refine⟨λh=>by simp [hn0,hd0] at h,λ_=>⟨λ_=> ?_,λh=>by cases h⟩⟩;refine⟨(n,d),⟨by simp,by simp only; omega,by simp only; omega⟩,⟨_,rfl⟩,?_⟩;rintro _ rfl;refine⟨λh=> ?_,λh=> ?_⟩
       ·rw [aP (by simpa using h)] at hq;exact RetR.scal hq rfl (by simp [resV])
       ·rw [aO (by simpa using h)] at hq;exact RetR.scal hq rfl (by simp [resV])
      ·rw [aP (.inr hd0)] at hq;refine⟨λ_=>RetR.scal hq rfl (by simp [resV]),λh=>by simp [hn0,hd0] at h⟩
     ·rw [aP (.inl hn0)] at hq;refine⟨λ_=>RetR.scal hq rfl (by simp [resV]),λh=>by simp [hn0] at h⟩
noncomputable def K56:=Go.Sx.aA f56
def QJ:Ctr:=ctrP true (λd:Int=>[.i d]) (λ_=>True) (λd r=>r=dayB d) (λ_ (r:Bool)=>(.bool r,[]))
theorem ZB:zg prog 59 QJ:=by
 refine zm' f59 λd hs O w0 Q hq=> ?_
 replace hq:=hq _ rfl;refine zd.n zJ [] (.R [.bool (bif decide ((0:Int)<=d) then decide (d<=99999) else false)] []) ?_;simp only [Tree.holds,zh];refine RetR.scal hq rfl ?_;simp only [resV,dayB];cases decide (0<=d)<;>rfl
theorem zml(c:UInt8):(bif bif decide (97<=(c.toNat:Int)) then decide ((c.toNat:Int)<=122) else false then true else bif decide (65<=(c.toNat:Int)) then decide ((c.toNat:Int)<=90) else false)=isL c:=by
 have e1:decide (97<=(c.toNat:Int))=decide (97<=c.toNat):=decide_eq_decide.2 (by omega);have e2:decide ((c.toNat:Int)<=122)=decide (c.toNat<=122):=decide_eq_decide.2 (by omega);have e3:decide (65<=(c.toNat:Int))=decide (65<=c.toNat):=decide_eq_decide.2 (by omega);have e4:decide ((c.toNat:Int)<=90)=decide (c.toNat<=90):=decide_eq_decide.2 (by omega);rw [e1,e2,e3,e4];simp only [isL];cases decide (97<=c.toNat)<;>cases decide (c.toNat<=122)<;>cases decide (65<=c.toNat)<;>rfl
def zbl:Ctr:=ctrP true (λc:UInt8=>[.int .u8 (c.toNat:Int)]) (λ_=>True) (λc r=>r=isL c) (λ_ (r:Bool)=>(.bool r,[]))
theorem zdl:zg prog 87 zbl:=by
 refine zm' f87 λc hs O w0 Q hq=> ?_
 replace hq:=hq _ rfl;refine zd.n zJ [] (.R [.bool (bif bif decide ((97:Int)<=(↑(UInt8.toNat c):Int)) then decide ((↑(UInt8.toNat c):Int)<=122) else false then true else bif decide ((65:Int)<=(↑(UInt8.toNat c):Int)) then decide ((↑(UInt8.toNat c):Int)<=90) else false)] []) ?_;simp only [Tree.holds,zh];refine RetR.scal hq rfl ?_;simp only [resV];rw [zml]
theorem Vm(c d:UInt8):decide ((c.toNat:Int)=(d.toNat:Int))=(c == d):=by
 by_cases h:c=d
 ·subst h; simp
 ·rw [aW λh2=>h (Y7 h2)];simp [h]
theorem zo4(c:UInt8):(bif decide ((c.toNat:Int)<48) then true else decide (57<(c.toNat:Int))) = !isD c:=by
 rw [Bool.cond_eq_ite]; exact Wj c
theorem zkx(c:UInt8):(bif bif bif !isL c then bif decide ((c.toNat:Int)<48) then true else decide (57<(c.toNat:Int)) else false then !decide ((c.toNat:Int)=95) else false then !decide ((c.toNat:Int)=45) else false) = !isN c:=by
 rw [zo4];have e1:decide ((c.toNat:Int)=95)=(c == 95):=Vm c 95;have e2:decide ((c.toNat:Int)=45)=(c == 45):=Vm c 45;rw [e1,e2]; simp only [isN];cases isL c<;>cases isD c<;>cases (c == 95)<;>cases (c == 45)<;>rfl
def Yn:Ctr:=ctrP true (λs:L8=>[.str s]) (λs=>s.length<2^62) (λs r=>r=qE s) (λ_ (r:Bool)=>(.bool r,[]))
noncomputable def GN1:=tb zdl tz
def SNa(s:L8)(i:Nat):KV:=[(0,.str s),(20,.i (s.length:Int)),(21,.i (i:Int)),Z 31,Z 32,Z 33,Z 34,Z 35,Z 36,Z 39,Z 40,Z 43,Z 44]
theorem ze3{O:Nat->Prop}{w0:World}{Q:AV×Heap->Prop}{Hs:Nat->KV->Heap->Prop}(s:L8)(hs:s.length<2^62)(hq:Q (.bool (s.all isN),[])) :
  zd prog f56 O 0 w0 [] Hs (RetR Yn 0 Q) (.code (.loop (lps K56 0).1)::(lps K56 0).2) (mk f56.ntmps (SNa s 0) []):=by
 refine zd.loop (ι:={i:Nat // i<=s.length/\∀ j,j<i->isN (s.getD j 0)=true}) (λi=>SNa s i.1) (λ_=>[]) (λi=>s.length - i.1) ⟨0,aI _,λj hj=>by omega⟩ 0 ?_ ?_ (by kernel_rfl)
 ·exact⟨by simp [SNa],by simp,by kernel_rfl,aI _⟩
 ·rintro⟨i,hil,hib⟩;refine zd.n GN1.h [0,20,21,31,32,33,34,35,36,39,40,43,44] (let v1:=s.getD (i:Int).toNat (0:UInt8);.D ((i:Int)<s.length) (.side ((0:Int)<=i/\(i:Int)<s.length) (.ex (λ(x:UInt8)=>eqL [.int .u8 ↑(UInt8.toNat v1)] [.int .u8 ↑(UInt8.toNat x)]/\True) λn=>.all (λ(r:Bool)=>r=isL n) λn=>.ite (bif bif bif !n then bif decide ((↑(UInt8.toNat v1):Int)<48) then true else decide ((57:Int)<(↑(UInt8.toNat v1):Int)) else false then !decide ((↑(UInt8.toNat v1):Int)=95) else false then !decide ((↑(UInt8.toNat v1):Int)=45) else false) (.R [.bool false] []) (.S (i+1) (.leaf (.back 0 [(0,.str s),(20,.i s.length),(21,.i (i+1)),Z 31,Z 32,Z 33,Z 34,Z 35,Z 36,Z 39,Z 40,Z 43,Z 44] []))))) (.R [.bool true] [])) ?_;simp only [Tree.holds,zh,inR,lo,hi,aD];refine⟨λhlt=> ?_,λhge=> ?_⟩
  ·have hlt:i<s.length:=by have:=aB hlt; omega
   refine⟨by omega,λ_=>⟨s.getD i 0,⟨by simp,trivial⟩,⟨_,rfl⟩,?_⟩⟩;rintro _ rfl;rw [zkx];refine⟨λh=> ?_,λh=>⟨by omega,λ_=> ?_⟩⟩
   ·rw [Xn hlt (by simpa using h)] at hq;exact RetR.scal hq rfl (by simp [resV])
   ·rw [aP trivial];refine⟨⟨i+1,hlt,λj hj=> ?_⟩,by show s.length - (i+1)<s.length - i; omega,by simp [SNa],by simp,by kernel_rfl,aI _⟩;rcases aR j i with h1 | h1
    ·exact hib j h1
    ·have:j=i:=by omega
     rw [this]; simpa using h
  ·have hge:i=s.length:=by have:=aC hge; omega
   subst hge;rw [zlo hib] at hq;exact RetR.scal hq rfl (by simp [resV])
theorem K0:zg prog 56 Yn:=by
 refine zm' f56 λs hs O w0 Q hq=> ?_
 replace hq:=hq _ rfl;refine zd.n GN1.h [0,20,21,31,32,33,34,35,36,39,40,43,44] (.side ((bif decide ((s.length:Int)<1) then true else decide ((40:Int)<s.length))=false->(0:Int)<=0/\(0:Int)<s.length) (.ex (λ(x:UInt8)=>(bif decide ((s.length:Int)<1) then true else decide ((40:Int)<s.length))=false->eqL [.int .u8 ↑(UInt8.toNat (s.getD 0 (0:UInt8)))] [.int .u8 ↑(UInt8.toNat x)]/\True) λn=>.all (λ(x:Bool)=>(bif decide ((s.length:Int)<1) then true else decide ((40:Int)<s.length))=false->x=isL n) λn=>.ite (bif bif decide ((s.length:Int)<1) then true else decide ((40:Int)<s.length) then true else !n) (.R [.bool false] []) (.leaf (.loop (lps K56 0).1 (lps K56 0).2 [(0,.str s),(20,.i s.length),(21,.i 0),Z 31,Z 32,Z 33,Z 34,Z 35,Z 36,Z 39,Z 40,Z 43,Z 44] [])))) ?_;simp only [Tree.holds,zh,inR,lo,hi]
 have hd:decide ((s.length:Int)<1) = !decide (0<s.length):=by
  by_cases h:0<s.length
  ·rw [aX h,aW (by omega)]; rfl
  ·rw [aW h,aX (by omega)]; rfl
 have hd2:decide (40<(s.length:Int)) = !decide (s.length<=40):=by
  by_cases h:s.length<=40
  ·rw [aX h,aW (by omega)]; rfl
  ·rw [aW h,aX (by omega)]; rfl
 rw [hd,hd2];have hnb:qE s=(decide (0<s.length)&&decide (s.length<=40)&&isL (s.getD 0 0)&&s.all isN):=rfl;cases h1:decide (0<s.length) with
 | false=>
  rw [hnb,h1] at hq;refine⟨λh=>(by cases h),λ_=>⟨0,λh=>(by cases h),⟨false,λh=>(by cases h)⟩,?_⟩⟩;intro b _;exact⟨λ_=>RetR.scal hq rfl (by simp [resV]),λh=>(by cases h)⟩
 | true=>
  have h1':=aB h1;cases h2:decide (s.length<=40) with
  | false=>
   rw [hnb,h1,h2] at hq;refine⟨λh=>(by cases h),λ_=>⟨0,λh=>(by cases h),⟨false,λh=>(by cases h)⟩,?_⟩⟩;intro b _;exact⟨λ_=>RetR.scal hq rfl (by simp [resV]),λh=>(by cases h)⟩
  | true=>
   refine⟨λ_=>by omega,λ_=>⟨s.getD 0 0,λ_=>⟨by simp,trivial⟩,⟨_,λ_=>rfl⟩,?_⟩⟩;intro b hb;have hb:=hb rfl;subst hb;cases h3:isL (s.getD 0 0) with
   | false=>
    rw [hnb,h1,h2,h3] at hq;exact⟨λ_=>RetR.scal hq rfl (by simp [resV]),λh=>(by cases h)⟩
   | true=>
    rw [hnb,h1,h2,h3] at hq;refine⟨λh=>(by cases h),λ_=> ?_⟩;exact ze3 s hs hq
noncomputable def K130:=Go.Sx.aA f130
theorem vB{X R:Type}{P:Program}{g:Nat}{fresh:Bool}{inp:X->List AV}{pre:X->Prop}{post:X->R->Prop}{out:X->R->AV×Heap}(μ:X->Nat)
  (step:∀ n,zg P g (ctrP fresh inp (λx=>μ x<n/\pre x) post out)->zg P g (ctrP fresh inp (λx=>μ x<n+1/\pre x) post out)):zg P g (ctrP fresh inp pre post out):=by
 have all:∀ n,zg P g (ctrP fresh inp (λx=>μ x<n/\pre x) post out):=by
  intro n
  induction n with
  | zero=>
   intro args hc Q hq _;simp only [ctrP] at hq;split at hq
   ·obtain⟨x,⟨_,h,_⟩,_⟩:=hq;exact absurd h (Nat.not_lt_zero _)
   ·exact hq.elim
  | succ n ih=>exact step n ih
 intro args hc Q hq hf
 match hc,hq,hf with
 | [],hq,hf=>
  obtain⟨x,⟨h1,h2⟩,h3⟩:=hq;exact all (μ x+1) args [] Q ⟨x,⟨h1,Nat.lt_succ_self _,h2⟩,h3⟩ hf
 | _::_,hq,_=>exact hq.elim
def zbu(n:Nat):Ctr:=ctrP true (λx:Ex=>[x.exA]) (λx=>x.size<n/\x.size<2^62) (λx r=>r=x.size) (λ_ (r:Nat)=>(.i (r:Int),[]))
def GSz(g n:Nat):Nat->Option Ctr:=λf=>if f=g then some (zbu n) else none
theorem zlk{g n:Nat}(h:zg prog g (zbu n)):∀ f c,GSz g n f=some c->zg prog f c:=by
 intro f c hf;simp only [GSz] at hf;split at hf
 ·rename_i hg; subst hg; cases hf; exact h
 ·cases hf
theorem uB{x:Ex}{k d:Int}{r m:L8}{l:Nat}{g:Nat->Nat->AV}(hk:k=x.kind)(hr:r=x.rat)(hm:m=x.name)(hd:d=x.date)(hl:l=x.sub.length)(hg:eqG x.sub.length 5 g (Ex.exG x.sub)):eqL [.agg [.int .u8 k,.str r,.str m,.i d,.sl l 5 g]] [x.exA]:=by
 subst hk; subst hr; subst hm; subst hd; subst hl;exact⟨⟨⟨rfl,rfl⟩,rfl,rfl,⟨rfl,rfl⟩,⟨rfl,rfl,hg⟩,trivial⟩,trivial⟩
def SSz(s:List Ex)(c i:Nat):KV:=[(3,.i (c:Int)),(7,Ex.exS s),(8,.i (s.length:Int)),(9,.i (i:Int))]
theorem ze2(n:Nat)(ih:zg prog 130 (zbu n)):zg prog 130 (zbu (n+1)):=by
 refine zm' f130 λx hx O w0 Q hq=> ?_
 replace hq:=hq _ rfl;obtain⟨hxn,hxs⟩:=hx;rw [Ex.size_eq] at hxn hxs hq;obtain⟨k,r,m,d,s⟩:=x;simp only [Ex.sub] at hxn hxs hq;refine zd.n (zlk ih) [3,7,8,9] (.leaf (.loop (lps K130 0).1 (lps K130 0).2 [(3,.i 1),(7,.sl s.length 5 (Ex.exG s)),(8,.i s.length),(9,.i 0)] [.box [.int .u8 k,.str r,.str m,.i d,.sl s.length 5 (Ex.exG s)]])) ?_;simp only [Tree.holds,zh];have hlen:=Ex.ji s;refine zd.loop (ι:={i:Nat // i<=s.length}) (λi=>SSz s (1+Ex.zz (s.take i.1)) i.1) (λ_=>[]) (λi=>s.length - i.1) ⟨0,aI _⟩ 0 ?_ ?_ (by kernel_rfl)
 ·exact⟨by simp [SSz,Ex.zz,Ex.exS,za],by simp,by kernel_rfl,aI _⟩
 ·rintro⟨i,hil⟩;have hle:=Ex.yJ s i;obtain⟨c,hc⟩:∃ c,1+Ex.zz (s.take i)=c:=⟨_,rfl⟩;simp only [hc];refine zd.n (zlk ih) [3,7,8,9] (let v1:=s.getD (i:Int).toNat Ex.nil;.D ((i:Int)<s.length) (.side ((0:Int)<=i/\(i:Int)<s.length) (.ex (λ(x:Ex)=>eqL [.agg [.int .u8 (Ex.kind v1),.str (Ex.rat v1),.str (Ex.name v1),.i (Ex.date v1),.sl (List.length (Ex.sub v1)) 5 (Ex.deep v1)]] [.agg [.int .u8 x.kind,.str x.rat,.str x.name,.i x.date,.sl x.sub.length 5 (Ex.exG x.sub)]]/\Ex.size x<n/\Ex.size x<4611686018427387904) λn=>.all (λ(r:Nat)=>r=Ex.size n) λn=>.S ((c:Int)+n) (.S (i+1) (.leaf (.back 0 [(3,.i ((c:Int)+n)),(7,.sl s.length 5 (Ex.exG s)),(8,.i s.length),(9,.i (i+1))] [.box [.int .u8 (Ex.kind v1),.str (Ex.rat v1),.str (Ex.name v1),.i (Ex.date v1),.sl (List.length (Ex.sub v1)) 5 (Ex.deep v1)]]))))) (.R [.i c] [])) ?_;simp only [Tree.holds,zh,inR,lo,hi,aD];refine⟨λhlt=> ?_,λhge=> ?_⟩
  ·have hlt:i<s.length:=by have:=aB hlt; omega
   have hg:=Ex.qw hlt;have ht:=Ex.Wa s i hlt;have hle2:=Ex.yJ s (i+1);refine⟨by omega,λ_=>⟨s.getD i Ex.nil,⟨uB rfl rfl rfl rfl rfl (Ex.zQ _),by omega,by omega⟩,⟨_,rfl⟩,?_⟩⟩;rintro _ rfl;refine⟨by omega,λ_=>⟨by omega,λ_=> ?_⟩⟩;rw [aP trivial];refine⟨⟨i+1,hlt⟩,by show s.length - (i+1)<s.length - i; omega,?_,by simp,by kernel_rfl,aI _⟩;simp [SSz,Ex.exS,za,ht]; omega
  ·have hge:i=s.length:=by have:=aC hge; omega
   subst hge;rw [bD] at hc;rw [hc] at hq;exact RetR.scal hq rfl (by simp [resV])
def zbw:Ctr:=ctrP true (λx:Ex=>[x.exA]) (λx=>x.size<2^62) (λx r=>r=x.size) (λ_ (r:Nat)=>(.i (r:Int),[]))
theorem zcx:zg prog 130 zbw:=vB Ex.size ze2
def G1c(g:Nat)(C:Ctr):Nat->Option Ctr:=λf=>if f=g then some C else none
theorem Zz{g:Nat}{C:Ctr}(h:zg prog g C):∀ f c,G1c g C f=some c->zg prog f c:=by
 intro f c hf;simp only [G1c] at hf;split at hf
 ·rename_i hg; subst hg; cases hf; exact h
 ·cases hf
noncomputable def K171:=Go.Sx.aA f171
def zgr(n:Nat):Ctr:=ctrP true (λp:Ex×Nat=>[p.1.exA,.i (p.2:Int)]) (λp=>p.1.size<n/\p.1.size<2^62/\p.2<2^40) (λp r=>r=min p.1.depth (p.2+1)) (λ_ (r:Nat)=>(.i (r:Int),[]))
def SDp(s:List Ex)(limit c i:Nat):KV:=[(1,.i (limit:Int)),(5,.i (c:Int)),(11,Ex.exS s),(12,.i (s.length:Int)),(13,.i (i:Int))]
theorem U1(n:Nat)(ih:zg prog 171 (zgr n)):zg prog 171 (zgr (n+1)):=by
 refine zm' f171 λp hp O w0 Q hq=> ?_
 obtain⟨x,limit⟩:=p;obtain⟨hxn,hxs,hli⟩:=hp;replace hq:=hq _ rfl;simp only at hxn hxs hli hq;have hds:=Ex.jK x;have hdp:=Ex.zft x;rw [Ex.kX] at hq hds hdp;rw [Ex.size_eq] at hxn hxs hds;obtain⟨k,r,m,d,s⟩:=x;simp only [Ex.sub] at hxn hxs hq hds hdp;have hlen:=Ex.ji s;refine zd.n (Zz ih) [1,5,11,12,13] (let v1:List Blk:=[.box [.int .u8 k,.str r,.str m,.i d,.sl s.length 5 (Ex.exG s)]];.D ((0:Int)<limit) (.leaf (.loop (lps K171 0).1 (lps K171 0).2 [(1,.i limit),(5,.i 0),(11,.sl s.length 5 (Ex.exG s)),(12,.i s.length),(13,.i 0)] v1)) (.S 1 (.R [.i 1] v1))) ?_;simp only [Tree.holds,zh,inR,lo,hi,aD];refine⟨λhl=> ?_,λhl=> ?_⟩
 ·have hl:0<limit:=by have:=aB hl; omega
  refine zd.loop (ι:={i:Nat // i<=s.length}) (λi=>SDp s limit (min (Ex.zB (s.take i.1)) limit) i.1) (λ_=>[]) (λi=>s.length - i.1) ⟨0,aI _⟩ 0 ?_ ?_ (by kernel_rfl)
  ·exact⟨by simp [SDp,Ex.zB,Ex.exS,za],by simp,by kernel_rfl,aI _⟩
  ·rintro⟨i,hil⟩;obtain⟨c,hc⟩:∃ c,min (Ex.zB (s.take i)) limit=c:=⟨_,rfl⟩;simp only [hc];refine zd.n (Zz ih) [1,5,11,12,13] (let v1:=s.getD (i:Int).toNat Ex.nil;.D ((i:Int)<s.length) (.side ((0:Int)<=i/\(i:Int)<s.length) (.S (limit-1) (.ex (λ(x:Ex×Nat)=>eqL [.agg [.int .u8 (Ex.kind v1),.str (Ex.rat v1),.str (Ex.name v1),.i (Ex.date v1),.sl (List.length (Ex.sub v1)) 5 (Ex.deep v1)],.i (limit-1)] [.agg [.int .u8 x.1.kind,.str x.1.rat,.str x.1.name,.i x.1.date,.sl x.1.sub.length 5 (Ex.exG x.1.sub)],.i x.2]/\Ex.size x.1<n/\Ex.size x.1<4611686018427387904/\x.2<1099511627776) λn=>.all (λ(r:Nat)=>r=min n.1.depth (n.2+1)) λn=>.S (i+1) (.leaf (.back 0 [(1,.i limit),(5,.i (max (c:Int) (n:Int))),(11,.sl s.length 5 (Ex.exG s)),(12,.i s.length),(13,.i (i+1))] [.box [.int .u8 (Ex.kind v1),.str (Ex.rat v1),.str (Ex.name v1),.i (Ex.date v1),.sl (List.length (Ex.sub v1)) 5 (Ex.deep v1)]]))))) (.S (c+1) (.R [.i (c+1)] []))) ?_;simp only [Tree.holds,zh,inR,lo,hi,aD];refine⟨λhlt=> ?_,λhge=> ?_⟩
   ·have hlt:i<s.length:=by have:=aB hlt; omega
    have hg:=Ex.qw hlt;have ht:=Ex.ve s i hlt;refine⟨by omega,λ_=>⟨by omega,λ_=>⟨(s.getD i Ex.nil,limit - 1),⟨?_,by show(s.getD i Ex.nil).size<n; omega,by show(s.getD i Ex.nil).size<2^62; omega,by show limit - 1<2^40; omega⟩,⟨_,rfl⟩,?_⟩⟩⟩
    ·have e1:(limit:Int) - 1=((limit - 1:Nat):Int):=by omega
     rw [e1];exact⟨⟨⟨rfl,rfl⟩,rfl,rfl,⟨rfl,rfl⟩,⟨rfl,rfl,Ex.zQ _⟩,trivial⟩,⟨rfl,rfl⟩,trivial⟩
    rintro _ rfl;refine⟨by omega,λ_=> ?_⟩;rw [aP trivial];refine⟨⟨i+1,hlt⟩,by show s.length - (i+1)<s.length - i; omega,?_,by simp,by kernel_rfl,aI _⟩;simp [SDp,ht,Ex.exS,za]; omega
   ·have hge:i=s.length:=by have:=aC hge; omega
    subst hge;rw [bD] at hc;refine⟨by omega,λ_=> ?_⟩;exact RetR.scal hq rfl (by simp [resV]; omega)
 ·have hl:limit=0:=by have:=aC hl; omega
  refine⟨by decide,λ_=> ?_⟩;exact RetR.scal hq rfl (by simp [resV]; omega)
theorem zl3:zg prog 171 (ctrP true (λp:Ex×Nat=>[p.1.exA,.i (p.2:Int)]) (λp=>p.1.size<2^62/\p.2<2^40) (λp r=>r=min p.1.depth (p.2+1)) (λ_ (r:Nat)=>(.i (r:Int),[]))):=vB (λp=>p.1.size) U1
noncomputable def K161:=Go.Sx.aA f161
def zq4:Ctr:=ctrP true (λx:Ex=>[x.exA]) (λx=>x.rat.length<2^40/\x.name.length<2^40) (λx r=>r=bif jk x.kind x.rat x.name x.date x.sub.length then 1 else 0) (λ_ (r:Int)=>(.int .u8 r,[]))
noncomputable def GLf:=tb kW (tb K0 (tb ZB tz))
abbrev q21(A:List AV)(x:Int):Prop:=eqL A [.i x]/\True
theorem zp3:zg prog 172 zq4:=by
 refine zm' f172 λx hx O w0 Q hq=> ?_
 obtain⟨k,r,m,d,s⟩:=x;replace hq:=hq _ rfl;obtain⟨h1,h2⟩:=hx;simp only [Ex.rat,Ex.name,Ex.kind,Ex.date,Ex.sub] at h1 h2 hq;refine zd.n GLf.h [] (let v2:=r=#[].toList;let v1:List Blk:=[.box [.int .u8 k,.str r,.str m,.i d,.sl s.length 5 (Ex.exG s)]];let v4:qe:=.ret [.int .u8 1] v1;let v3:qe:=.ret [.int .u8 0] v1;.D (k=1) (.ex (λ(x:L8)=>decide ((s.length:Int)=0)=true->q15 [.str r] x) λn=>.all (λ(x:Int)=>decide ((s.length:Int)=0)=true->x=errR n) λn=>.ite (!bif bif bif decide ((s.length:Int)=0) then decide (n=0) else false then decide (m=#[].toList) else false then decide (d=0) else false) (.leaf v3) (.leaf v4)) (.D (k=2) (.ex (λ(x:L8)=>(bif decide ((s.length:Int)=0) then decide v2 else false)=true->q15 [.str m] x) λn=>.all (λ(x:Bool)=>(bif decide ((s.length:Int)=0) then decide v2 else false)=true->x=qE n) λn=>.ex (λ(x:Int)=>(bif bif decide ((s.length:Int)=0) then decide v2 else false then n else false)=true->q21 [.i d] x) λn_1=>.all (λ(x:Bool)=>(bif bif decide ((s.length:Int)=0) then decide v2 else false then n else false)=true->x=dayB n_1) λn_2=>.ite (!bif bif bif decide ((s.length:Int)=0) then decide v2 else false then n else false then n_2 else false) (.leaf v3) (.leaf v4)) (.D (k=3) (.ex (λ(x:L8)=>(bif decide ((s.length:Int)=0) then decide v2 else false)=true->q15 [.str m] x) λn=>.all (λ(x:Bool)=>(bif decide ((s.length:Int)=0) then decide v2 else false)=true->x=qE n) λn=>.ite (!bif bif bif decide ((s.length:Int)=0) then decide v2 else false then n else false then decide (d=0) else false) (.leaf v3) (.leaf v4)) (.ite true (.leaf v3) (.leaf v4))))) ?_;simp only [q15,q21,Tree.holds,zh,inR,lo,hi,aD]
 have fin:∀ T:Bool,T=jk k r m d s.length->((!T)=true->Q (.int .u8 0,[]))/\((!T)=false->Q (.int .u8 1,[])):=by
  intro T hT;subst hT;cases hl:jk k r m d s.length with
  | true=>rw [hl] at hq; exact⟨λh=>(by cases h),λ_=>hq⟩
  | false=>rw [hl] at hq; exact⟨λ_=>hq,λh=>(by cases h)⟩
 refine⟨λhk=> ?_,λhk=> ?_⟩
 ·have hk:k=1:=aB hk;refine⟨r,λ_=>⟨by simp,by omega⟩,⟨_,λ_=>rfl⟩,?_⟩;intro e he
  have F:=fin (bif bif bif decide ((s.length:Int)=0) then decide (e=0) else false then decide (m=[]) else false then decide (d=0) else false) (by
   by_cases hl:s.length=0
   ·have:=he (by simp [hl]);subst this;simp [jk,hk,hl,Bool.and_assoc]
   ·simp [jk,hl])
  exact⟨λh=>RetR.scal (F.1 h) rfl (by simp [resV]),λh=>RetR.scal (F.2 h) rfl (by simp [resV])⟩
 ·have hk1:k≠1:=aC hk;refine⟨λhk=> ?_,λhk=> ?_⟩
  ·have hk:k=2:=aB hk;refine⟨m,λ_=>⟨by simp,by omega⟩,⟨_,λ_=>rfl⟩,?_⟩;intro e he;refine⟨d,λ_=>⟨by simp,trivial⟩,⟨_,λ_=>rfl⟩,?_⟩;intro f hf
   have F:=fin (bif bif bif decide ((s.length:Int)=0) then decide (r=[]) else false then e else false then f else false) (by
    by_cases hl:s.length=0
    ·by_cases hr:r=[]
     ·have:=he (by simp [hl,hr]);subst this;cases hn:qE m with
      | true=>
       have:=hf (by simp [hl,hr,hn]);subst this;simp [jk,hk,hl,hr,hn]
      | false=>simp [jk,hk,hl,hr,hn]
     ·simp [jk,hk,hl,hr]
    ·simp [jk,hl])
   exact⟨λh=>RetR.scal (F.1 h) rfl (by simp [resV]),λh=>RetR.scal (F.2 h) rfl (by simp [resV])⟩
  ·have hk2:k≠2:=aC hk;refine⟨λhk=> ?_,λhk=> ?_⟩
   ·have hk:k=3:=aB hk;refine⟨m,λ_=>⟨by simp,by omega⟩,⟨_,λ_=>rfl⟩,?_⟩;intro e he
    have F:=fin (bif bif bif decide ((s.length:Int)=0) then decide (r=[]) else false then e else false then decide (d=0) else false) (by
     by_cases hl:s.length=0
     ·by_cases hr:r=[]
      ·have:=he (by simp [hl,hr]);subst this;simp [jk,hk,hl,hr]
      ·simp [jk,hk,hl,hr]
     ·simp [jk,hl])
    exact⟨λh=>RetR.scal (F.1 h) rfl (by simp [resV]),λh=>RetR.scal (F.2 h) rfl (by simp [resV])⟩
   ·have hk3:k≠3:=aC hk;have F:=fin false (by simp [jk,hk1,hk2,hk3]);exact⟨λh=>RetR.scal (F.1 rfl) rfl (by simp [resV]),λh=>by cases h⟩
def SSo(s:List Ex)(i:Nat):KV:=[(3,.ptr 1 0),(41,Ex.exS s),(42,.i (s.length:Int)),(43,.i (i:Int))]
def HSo(k:Int):Heap:=[.dead,.box [.sl (jJ k) 1 λj _=>.int .u8 (qR k j),.int .u8 (jr k)]]
def zdb(n:Nat):Ctr:=ctrP true (λx:Ex=>[x.exA]) (λx=>x.size<n/\x.size<2^60/\x.z9<2^40) (λx r=>r=x.z8) (λ_ (r:Int)=>(.int .u8 r,[]))
def GSo(n:Nat):Nat->Option Ctr:=λf=>if f=161 then some (zdb n) else if f=172 then some zq4 else none
theorem zkl{n:Nat}(h:zg prog 161 (zdb n)):∀ f c,GSo n f=some c->zg prog f c:=by
 intro f c hf;simp only [GSo] at hf;split at hf
 ·rename_i hg; subst hg; cases hf; exact h
 ·split at hf
  ·rename_i hg; subst hg; cases hf; exact zp3
  ·cases hf
abbrev q22(A:List AV)(x:Ex):Prop:=eqL A [.agg [.int .u8 x.kind,.str x.rat,.str x.name,.i x.date,.sl x.sub.length 5 (Ex.exG x.sub)]]/\x.rat.length<1099511627776/\x.name.length<1099511627776
theorem ze4(n:Nat)(ih:zg prog 161 (zdb n)):zg prog 161 (zdb (n+1)):=by
 refine zm' f161 λx hx O w0 Q hq=> ?_
 replace hq:=hq _ rfl;obtain⟨hxn,hxs,hxb⟩:=hx;rw [Ex.size_eq] at hxn hxs;rw [Ex.zev] at hxb;rw [Ex.JN] at hq;obtain⟨k,r,m,d,s⟩:=x;simp only [Ex.sub,Ex.rat,Ex.name,Ex.kind,Ex.date] at hxn hxs hq hxb;refine zd.n (zkl ih) [3,41,42,43] (let v5:=lps K161 0;let v3:List (Nat×AV):=[(3,.ptr 1 0),(41,.sl s.length 5 (Ex.exG s)),(42,.i s.length),(43,.i 0)];let v2:=q22 [.agg [.int .u8 k,.str r,.str m,.i d,.sl s.length 5 (Ex.exG s)]];let v1:List AV:=[.int .u8 k,.str r,.str m,.i d,.sl s.length 5 (Ex.exG s)];let v4:List Blk:=[.box v1,.box [.nils,.int .u8 0]];.ite (qN k) (.ite false (.ex v2 λn=>.all (λ(r:Int)=>r=bif jk n.kind n.rat n.name n.date n.sub.length then(1:Int) else(0:Int)) λn=>.R [.int .u8 n] [.box v1,.box [.sl (jJ k) 1 λ(j x:Nat)=>.int .u8 (qR k j),.int .u8 (jr k)]]) (.ite (bif bif bif !decide ((s.length:Int)=(↑(jJ k):Int)) then true else !decide (r=#[].toList) then true else !decide (m=#[].toList) then true else !decide (d=0)) (.R [.int .u8 0] [.box v1,.box [.sl (jJ k) 1 λ(j x:Nat)=>.int .u8 (qR k j),.int .u8 (jr k)]]) (.leaf (.loop v5.1 v5.2 v3 [.box v1,.box [.sl (jJ k) 1 λ(j x:Nat)=>.int .u8 (qR k j),.int .u8 (jr k)]])))) (.ite true (.ex v2 λn=>.all (λ(r:Int)=>r=bif jk n.kind n.rat n.name n.date n.sub.length then(1:Int) else(0:Int)) λn=>.R [.int .u8 n] v4) (.ite (bif bif bif !decide ((s.length:Int)=0) then true else !decide (r=#[].toList) then true else !decide (m=#[].toList) then true else !decide (d=0)) (.R [.int .u8 0] v4) (.leaf (.loop v5.1 v5.2 v3 v4))))) ?_;simp only [q22,Tree.holds,zh,inR,lo,hi,aD];refine⟨λhk=>⟨λh=>(by cases h),λ_=>⟨λh=> ?_,λh=> ?_⟩⟩,λhk=> ?_⟩
 ·have hn:¬ (r=[]/\m=[]/\d=0/\Ex.qf s=q5 k):=by
   rintro⟨rfl,rfl,rfl,h4⟩;have:s.length=jJ k:=by rw [<- Ex.jA,h4]; rfl
   simp [this] at h
  have e:wH k r m d (Ex.qf s)=0:=by unfold wH; rw [aP hk,aO hn]
  exact RetR.scal hq rfl (by simp [resV,e])
 ·have hh:s.length=jJ k/\r=[]/\m=[]/\d=0:=by
   simp at h;obtain⟨⟨⟨h1,h2⟩,h3⟩,h4⟩:=h;exact⟨by omega,h2,h3,h4⟩
  obtain⟨hl,rfl,rfl,rfl⟩:=hh;have hlen:=Ex.ji s;have e1:wH k [] [] 0 (Ex.qf s)=if Ex.qf s=q5 k then jr k else 0:=by unfold wH; rw [aP hk]; simp
  rw [e1] at hq;clear h e1;refine zd.loop (ι:={i:Nat // i<=s.length/\∀ j,j<i->(s.getD j Ex.nil).z8=qR k j}) (λi=>SSo s i.1) (λ_=>HSo k) (λi=>s.length - i.1) ⟨0,aI _,λj hj=>by omega⟩ 0 ?_ ?_ (by kernel_rfl)
  ·exact⟨by simp [SSo,Ex.exS,za],by simp [HSo,za],by kernel_rfl,aI _⟩
  ·rintro⟨i,hil,hib⟩;refine zd.n (zkl ih) [3,41,42,43] (let v1:=s.getD (i:Int).toNat Ex.nil;let v2:List AV:=[.int .u8 (Ex.kind v1),.str (Ex.rat v1),.str (Ex.name v1),.i (Ex.date v1),.sl (List.length (Ex.sub v1)) 5 (Ex.deep v1)];.D ((i:Int)<s.length) (.side ((0:Int)<=i/\(i:Int)<s.length) (.side ((0:Int)<=i/\(i:Int)<(↑(jJ k):Int)) (.ex (λ(x:Ex)=>eqL [.agg [.int .u8 (Ex.kind v1),.str (Ex.rat v1),.str (Ex.name v1),.i (Ex.date v1),.sl (List.length (Ex.sub v1)) 5 (Ex.deep v1)]] [.agg [.int .u8 x.kind,.str x.rat,.str x.name,.i x.date,.sl x.sub.length 5 (Ex.exG x.sub)]]/\Ex.size x<n/\Ex.size x<1152921504606846976/\Ex.z9 x<1099511627776) λn=>.all (λ(r:Int)=>r=Ex.z8 n) λn=>.N (n=qR k (i:Int).toNat) (.R [.int .u8 0] [.dead,.box [.sl (jJ k) 1 λ(j x:Nat)=>.int .u8 (qR k j),.int .u8 (jr k)],.box v2]) (.S (i+1) (.leaf (.back 0 [(3,.ptr 1 0),(41,.sl s.length 5 (Ex.exG s)),(42,.i s.length),(43,.i (i+1))] [.dead,.box [.sl (jJ k) 1 λ(j x:Nat)=>.int .u8 (qR k j),.int .u8 (jr k)],.box v2])))))) (.R [.int .u8 (jr k)] [.dead,.box [.sl (jJ k) 1 λ(j x:Nat)=>.int .u8 (qR k j),.int .u8 (jr k)]])) ?_;simp only [Tree.holds,zh,inR,lo,hi,aD];refine⟨λhlt=> ?_,λhge=> ?_⟩
   ·have hlt:i<s.length:=by have:=aB hlt; omega
    have hg:=Ex.qw hlt;have hg2:=Ex.U9 hlt;have hb0:Ex.zY s<2^40:=by simpa using hxb
    refine⟨by omega,λ_=>⟨by omega,λ_=>⟨s.getD i Ex.nil,⟨uB rfl rfl rfl rfl rfl (Ex.zQ _),by omega,by omega,by omega⟩,⟨_,rfl⟩,?_⟩⟩⟩;intro e he;refine⟨λh=> ?_,λh=>⟨by omega,λ_=> ?_⟩⟩
    ·have hne:¬ Ex.qf s=q5 k:=by
      intro h2;have:=(Ex.uI.1 h2).2 i hlt;rw [<- he] at this;have h3:¬ e=qR k i:=by simpa using h
      exact h3 this
     rw [aO hne] at hq;exact RetR.scal hq rfl (by simp [resV])
    ·rw [aP trivial];have h3:e=qR k i:=by simpa using h
     refine⟨⟨i+1,hlt,λj hj=> ?_⟩,by show s.length - (i+1)<s.length - i; omega,by simp [SSo,Ex.exS,za],by simp [HSo,za],by kernel_rfl,aI _⟩;rcases aR j i with h1 | h1
     ·exact hib j h1
     ·have:j=i:=by omega
      rw [this,<- he,h3]
   ·have hge:i=s.length:=by have:=aC hge; omega
    subst hge;have:Ex.qf s=q5 k:=Ex.uI.2 ⟨hl,hib⟩;rw [aP this] at hq;exact RetR.scal hq rfl (by simp [resV])
 ·refine⟨λ_=> ?_,λh=>(by cases h)⟩;refine⟨.mk k r m d s,⟨⟨⟨⟨rfl,rfl⟩,rfl,rfl,⟨rfl,rfl⟩,⟨rfl,rfl,za _ _ _⟩,trivial⟩,trivial⟩,by show r.length<_; omega,by show m.length<_; omega⟩,⟨_,rfl⟩,?_⟩;intro e he
  have e1:wH k r m d (Ex.qf s)=e:=by
   unfold wH;rw [aO (by rw [hk]; decide),he,Ex.jA];show _=bif jk k r m d s.length then 1 else 0
   cases jk k r m d s.length<;>rfl
  rw [e1] at hq;exact RetR.scal hq rfl (by simp [resV])
def QE:Ctr:=ctrP true (λx:Ex=>[x.exA]) (λx=>x.size<2^60/\x.z9<2^40) (λx r=>r=x.z8) (λ_ (r:Int)=>(.int .u8 r,[]))
theorem Kx:zg prog 161 QE:=vB Ex.size ze4
def zi2:Ctr:=ctrP true (λx:Ex=>[x.exA]) (λx=>x.size<2^62) (λx r=>r=x.size) (λ_ (r:Nat)=>(.i (r:Int),[]))
def zkq:Ctr:=ctrP true (λp:Ex×Nat=>[p.1.exA,.i (p.2:Int)]) (λp=>p.1.size<2^62/\p.2<2^40) (λp r=>r=min p.1.depth (p.2+1)) (λ_ (r:Nat)=>(.i (r:Int),[]))
def Kt:Ctr:=ctrP true (λx:Ex=>[x.exA]) (λx=>x.size<2^40/\x.z9<2^40) (λx r=>r=x.errX) (λ_ (r:Int)=>(.i r,[]))
def zd4(z:Int):Ctr:=ctrP true (λx:Ex=>[x.exA]) (λx=>x.size<2^40/\x.z9<2^40) (λx r=>r=(decide (x.errX=0)&&decide (x.z8=z))) (λ_ (r:Bool)=>(.bool r,[]))
theorem eqX(x:Ex):eqL [.agg [.int .u8 x.kind,.str x.rat,.str x.name,.i x.date,.sl x.sub.length 5 (Ex.exG x.sub)]] [x.exA]:=uB rfl rfl rfl rfl rfl (za _ _ _)
theorem zeq{x:Ex}{n:Nat}(hn:decide (500<(x.size:Int))=false->(60<n↔60<x.depth)) :
  ((bif decide (500<(x.size:Int)) then true else decide (60<(n:Int)))=true->x.errX=4)/\((bif decide (500<(x.size:Int)) then true else decide (60<(n:Int)))=false->x.errX=if x.z8=0 then 8 else 0):=by
 by_cases h:500<x.size
 ·have e:decide (500<(x.size:Int))=true:=aX (by omega);rw [e];exact⟨λ_=>aP (.inl h),λh=>by cases h⟩
 ·have e:decide (500<(x.size:Int))=false:=aW (by omega);have h2:=hn e;rw [e];simp only [cond_false];by_cases h3:60<n
  ·exact⟨λ_=>aP (.inr (h2.1 h3)),λh=>by have:=aC h; omega⟩
  ·refine⟨λh=>by have:=aB h; omega,λ_=> ?_⟩;unfold Ex.errX;rw [aO];rintro(h4 | h4)
   ·exact h h4
   ·exact h3 (h2.2 h4)
noncomputable def GCk:=tb zcx (tb zl3 (tb Kx tz))
abbrev q23(A:List AV)(x:Ex):Prop:=eqL A [.agg [.int .u8 x.kind,.str x.rat,.str x.name,.i x.date,.sl x.sub.length 5 (Ex.exG x.sub)]]/\Ex.size x<1152921504606846976/\Ex.z9 x<1099511627776
theorem Ke:zg prog 160 Kt:=by
 refine zm' f160 λx hx O w0 Q hq=> ?_
 replace hq:=hq _ rfl;obtain⟨h1,h2⟩:=hx;refine zd.n GCk.h [] (let v2:List Blk:=[.box [.int .u8 x.kind,.str x.rat,.str x.name,.i x.date,.sl x.sub.length 5 (Ex.exG x.sub)]];let v1:=[AV.int .u8 x.kind,AV.str x.rat,AV.str x.name,AV.i x.date,AV.sl x.sub.length 5 (Ex.exG x.sub)];.ex (λ(x_1:Ex)=>eqL [.agg v1] [.agg [.int .u8 x_1.kind,.str x_1.rat,.str x_1.name,.i x_1.date,.sl x_1.sub.length 5 (Ex.exG x_1.sub)]]/\Ex.size x_1<4611686018427387904) λn=>.all (λ(r:Nat)=>r=Ex.size n) λn=>.ex (λ(x_1:Ex×Nat)=>decide ((500:Int)<n)=false->eqL [.agg v1,.i 60] [.agg [.int .u8 x_1.1.kind,.str x_1.1.rat,.str x_1.1.name,.i x_1.1.date,.sl x_1.1.sub.length 5 (Ex.exG x_1.1.sub)],.i x_1.2]/\Ex.size x_1.1<4611686018427387904/\x_1.2<1099511627776) λn_1=>.all (λ(x:Nat)=>decide ((500:Int)<n)=false->x=min n_1.1.depth (n_1.2+1)) λn_2=>.ite (bif decide ((500:Int)<n) then true else decide ((60:Int)<n_2)) (.R [.i 4] v2) (.ex (q23 [.agg v1]) λn=>.all (λ(r:Int)=>r=Ex.z8 n) λn=>.D (n=0) (.R [.i 8] v2) (.R [.i 0] v2))) ?_;simp only [q23,Tree.holds,zh,inR,lo,hi,aD];refine⟨x,⟨uB rfl rfl rfl rfl rfl (za _ _ _),by omega⟩,⟨_,rfl⟩,?_⟩;rintro _ rfl;refine⟨(x,60),λ_=>⟨⟨⟨⟨rfl,rfl⟩,rfl,rfl,⟨rfl,rfl⟩,⟨rfl,rfl,za _ _ _⟩,trivial⟩,⟨rfl,rfl⟩,trivial⟩,by show x.size<_; omega,by show 60<1099511627776; omega⟩,⟨_,λ_=>rfl⟩,?_⟩;intro c hc;have em:=zeq (x:=x) (n:=c) λh=>by have:=hc h; simp only at this; omega
 refine⟨λh=> ?_,λh=>⟨x,⟨eqX x,by omega,by omega⟩,⟨_,rfl⟩,?_⟩⟩
 ·rw [em.1 h] at hq;exact RetR.scal hq rfl (by simp [resV])
 ·have e:=em.2 h;rintro _ rfl;refine⟨λg=> ?_,λg=> ?_⟩
  ·rw [e,aP (aB g)] at hq;exact RetR.scal hq rfl (by simp [resV])
  ·rw [e,aO (aC g)] at hq;exact RetR.scal hq rfl (by simp [resV])
noncomputable def GNu:=tb Ke (tb Kx tz)
abbrev q24(A:List AV)(x:Ex):Prop:=eqL A [.agg [.int .u8 x.kind,.str x.rat,.str x.name,.i x.date,.sl x.sub.length 5 (Ex.exG x.sub)]]/\Ex.size x<1099511627776/\Ex.z9 x<1099511627776
theorem zrh:zg prog 136 (zd4 1):=by
 refine zm' f136 λx hx O w0 Q hq=> ?_
 replace hq:=hq _ rfl;obtain⟨h1,h2⟩:=hx;refine zd.n GNu.h [] (let v1:=[AV.agg [.int .u8 x.kind,.str x.rat,.str x.name,.i x.date,.sl x.sub.length 5 (Ex.exG x.sub)]];.ex (q24 v1) λn=>.all (λ(r:Int)=>r=Ex.errX n) λn=>.ex (λ(x9:Ex)=>decide (n=0)=true->q23 v1 x9) λn_1=>.all (λ(x:Int)=>decide (n=0)=true->x=Ex.z8 n_1) λn_2=>.R [.bool (bif decide (n=0) then decide (n_2=1) else false)] [.box [.int .u8 x.kind,.str x.rat,.str x.name,.i x.date,.sl x.sub.length 5 (Ex.exG x.sub)]]) ?_;simp only [q23,q24,Tree.holds,zh,inR,lo,hi,aD];refine⟨x,⟨eqX x,by omega,by omega⟩,⟨_,rfl⟩,?_⟩;rintro _ rfl;refine⟨x,λ_=>⟨eqX x,by omega,by omega⟩,⟨_,λ_=>rfl⟩,?_⟩;intro c hc;refine RetR.scal hq rfl ?_;cases h:decide (x.errX=0) with
 | false=>rfl
 | true=>rw [hc h]; rfl
theorem zji:zg prog 137 (zd4 2):=by
 refine zm' f137 λx hx O w0 Q hq=> ?_
 replace hq:=hq _ rfl;obtain⟨h1,h2⟩:=hx;refine zd.n GNu.h [] (let v1:=[AV.agg [.int .u8 x.kind,.str x.rat,.str x.name,.i x.date,.sl x.sub.length 5 (Ex.exG x.sub)]];.ex (q24 v1) λn=>.all (λ(r:Int)=>r=Ex.errX n) λn=>.ex (λ(x9:Ex)=>decide (n=0)=true->q23 v1 x9) λn_1=>.all (λ(x:Int)=>decide (n=0)=true->x=Ex.z8 n_1) λn_2=>.R [.bool (bif decide (n=0) then decide (n_2=2) else false)] [.box [.int .u8 x.kind,.str x.rat,.str x.name,.i x.date,.sl x.sub.length 5 (Ex.exG x.sub)]]) ?_;simp only [q23,q24,Tree.holds,zh,inR,lo,hi,aD];refine⟨x,⟨eqX x,by omega,by omega⟩,⟨_,rfl⟩,?_⟩;rintro _ rfl;refine⟨x,λ_=>⟨eqX x,by omega,by omega⟩,⟨_,λ_=>rfl⟩,?_⟩;intro c hc;refine RetR.scal hq rfl ?_;cases h:decide (x.errX=0) with
 | false=>rfl
 | true=>rw [hc h]; rfl
end Go.Proofs.Tryz
end
section
namespace Go.Sx
variable [Stat]
section
variable {own own' O:Nat->Prop} {w w':World} {σ Z':List SE} {P:Program} {fn:Func} {Xp:List PanicEntry->Prop}
def upA0(d k:Nat):AV->AV->Prop
 | .nils,.osl i _ off n=>(d<=i/\i<d+k)/\off=0/\n=0
 | a,b=>a=b
def upL0(d k:Nat):List AV->List AV->Prop
 | [],[]=>True
 | a::l,b::m=>upA0 d k a b/\upL0 d k l m
 | _,_=>False
def upA1(d k:Nat):AV->AV->Prop
 | .agg l,.agg m=>upL0 d k l m
 | a,b=>upA0 d k a b
def upL1(d k:Nat):List AV->List AV->Prop
 | [],[]=>True
 | a::l,b::m=>upA1 d k a b/\upL1 d k l m
 | _,_=>False
def upA2(d k:Nat):AV->AV->Prop
 | .tup l,.tup m=>upL1 d k l m
 | a,b=>upA1 d k a b
def vj(k:Nat):List SE:=List.replicate k ⟨none,0⟩
theorem Qo.mono{g:Nat}{vals:Array Value}{R R':Value->World->Prop}(hR:∀ v w',R v w'->R' v w')(h:Qo P g vals w R):Qo P g vals w R':=by
 rcases h with ⟨h1,h2⟩ | ⟨v,w',h1,h2⟩
 ·exact .inl ⟨h1,h2.mono λe w' ⟨v,he,hv⟩=>⟨v,he,hR v w' hv⟩⟩
 ·exact .inr ⟨v,w',h1,hR v w' h2⟩
theorem vQ{k i:Nat}{e:SE}(h:(σ++vj k)[i]?=some e):(i<σ.length/\σ[i]?=some e)\/(σ.length<=i/\e=⟨none,0⟩):=by
 rw [bT] at h;split at h
 ·rename_i hi; exact .inl ⟨hi,h⟩
 ·rename_i hi;right;refine⟨by omega,?_⟩;simp only [vj,List.getElem?_replicate] at h;split at h
  ·cases h; rfl
  ·cases h
theorem uk{k b:Nat}(h:Mine (σ++vj k) b):Mine σ b:=by
 obtain⟨e,he,ad,h1,h2⟩:=h;rcases bZ.1 he with he | he
 ·exact⟨e,he,ad,h1,h2⟩
 ·have:=List.eq_of_mem_replicate he;subst this;cases h1
theorem yC{k b:Nat}(h:Own O (σ++vj k) b):Own O σ b:=by
 rcases h with h | h
 ·exact .inl h
 ·exact .inr (uk h)
theorem xy(K:List Nat)(w:World)(σ:List SE)(k:Nat):Hold K w σ w (σ++vj k):=λi e he _=>by
 have hi:=(aG.1 he).1;exact⟨by rw [bL hi]; exact he,λad _ cs el h=>⟨cs,el,h,rfl⟩⟩
theorem Kg{k:Nat}(hx:Ext own w own' w){a b:AV}{v:Value}(hu:upA0 σ.length k a b)(ha:Rep own w a σ v):Rep own' w b (σ++vj k) v:=by
 unfold upA0 at hu;split at hu
 ·obtain⟨⟨h1,h2⟩,rfl,rfl⟩:=hu;rename_i i sz _ _;simp only [Rep] at ha ⊢;refine⟨⟨none,0⟩,?_,by simp,none,0,ha,aJ _,.inl rfl⟩;rw [List.getElem?_append_right h1,vj,List.getElem?_replicate,aP (by omega)]
 ·subst hu;exact zV (K:=[]) hx (xy [] w σ k) _ _ (jb _) ha
theorem QT{k:Nat}(hx:Ext own w own' w):∀ {l m:List AV} {vs:List Value},upL0 σ.length k l m->RepL own w l σ vs->RepL own' w m (σ++vj k) vs
 | [],[],vs,_,h=>by simpa [RepL] using h
 | a::l,b::m,vs,hl,h=>by
  simp only [RepL] at h ⊢;obtain⟨v,r,hv,h1,h2⟩:=h;exact⟨v,r,hv,Kg hx hl.1 h1,QT hx hl.2 h2⟩
 | [],_::_,_,hl,_=>hl.elim
 | _::_,[],_,hl,_=>hl.elim
theorem WY{k:Nat}(hx:Ext own w own' w){a b:AV}{v:Value}(hu:upA1 σ.length k a b)(ha:Rep own w a σ v):Rep own' w b (σ++vj k) v:=by
 unfold upA1 at hu;split at hu
 ·simp only [Rep] at ha ⊢;obtain⟨vs,hv,hr⟩:=ha;exact⟨vs,hv,QT hx hu hr⟩
 ·exact Kg hx hu ha
theorem QX{k:Nat}(hx:Ext own w own' w):∀ {l m:List AV} {vs:List Value},upL1 σ.length k l m->RepL own w l σ vs->RepL own' w m (σ++vj k) vs
 | [],[],vs,_,h=>by simpa [RepL] using h
 | a::l,b::m,vs,hl,h=>by
  simp only [RepL] at h ⊢;obtain⟨v,r,hv,h1,h2⟩:=h;exact⟨v,r,hv,WY hx hl.1 h1,QX hx hl.2 h2⟩
 | [],_::_,_,hl,_=>hl.elim
 | _::_,[],_,hl,_=>hl.elim
theorem VJ{k:Nat}(hx:Ext own w own' w){a b:AV}{v:Value}(hu:upA2 σ.length k a b)(ha:Rep own w a σ v):Rep own' w b (σ++vj k) v:=by
 unfold upA2 at hu;split at hu
 ·simp only [Rep] at ha ⊢;obtain⟨vs,hv,hr⟩:=ha;exact⟨vs,hv,QX hx hu hr⟩
 ·exact WY hx hu ha
def VL(szs:List (Nat×(Nat->Nat->AV))):Heap:=szs.map λs=>.arr 0 s.1 s.2
theorem zc0(hx:Ext own w own' w){hs:Heap}(hh:HRep own w σ hs)(szs:List (Nat×(Nat->Nat->AV))):HRep own' w (σ++vj szs.length) (hs++VL szs):=by
 have hl:=hh.len;refine⟨by simp [vj,VL,hl],λi j e f a b he hf ha hb hij=> ?_,λi e a he ha=> ?_,λi e b he hb=> ?_⟩
 ·rcases vQ he with ⟨_,he⟩ | ⟨_,rfl⟩
  ·rcases vQ hf with ⟨_,hf⟩ | ⟨_,rfl⟩
   ·exact hh.inj i j e f a b he hf ha hb hij
   ·cases hb
  ·cases ha
 ·rcases vQ he with ⟨_,he⟩ | ⟨_,rfl⟩
  ·exact hh.lt i e a he ha
  ·cases ha
 ·rcases vQ he with ⟨hi,he⟩ | ⟨hi,rfl⟩
  ·rw [bL (by omega)] at hb;have:=jn (K:=[]) hx (xy [] w σ szs.length) (hh.blk i e b he hb) (λ_ _=>rfl)
   rwa [j0] at this
  ·rw [List.getElem?_append_right (by omega)] at hb;simp only [VL,aN] at hb;cases hz:szs[i - hs.length]? with
   | none=>simp [hz] at hb
   | some s=>
    simp only [hz,Option.map_some,aE] at hb;subst hb;exact⟨rfl,.inl rfl⟩
def upQ(Q:AV×Heap->Prop)(p:AV×Heap):Prop:=Q p\/∃ (r:AV) (szs:List (Nat×(Nat->Nat->AV))),upA2 p.2.length szs.length p.1 r/\Q (r,p.2++VL szs)
theorem j6.up{g:Nat}{c:Ctr}{args:List AV}{hc:Heap}{Q:AV×Heap->Prop}(h:j6 P g c args hc (upQ Q)):j6 P g c args hc Q:=by
 intro O w σ vals hg hh hr;refine Qo.mono ?_ (h O w σ vals hg hh hr);rintro v w' ⟨r,hs,Z',hq,h1,h2,h3,h4,h5,h6⟩;rcases hq with hq | ⟨r',szs,hu,hq⟩
 ·exact⟨r,hs,Z',hq,h1,h2,h3,h4,h5,h6⟩
 ·have hx:Ext (λb=>Own O Z' b\/(c.fresh=true/\b<w.heap.size)) w' (λb=>Own O (Z'++vj szs.length) b\/(c.fresh=true/\b<w.heap.size)) w':=
   ⟨rfl,rfl,rfl,aJ _,λ_ _ _=>rfl,λb hb=>.inl (hb.imp yC id)⟩
  have hl:hs.length=Z'.length:=h2.len.symm;refine⟨r',hs++VL szs,Z'++vj szs.length,hq,VJ hx (by rw [<- hl]; exact hu) h1,zc0 hx h2 szs,⟨h3.old,λi e ad he had=> ?_,h3.stat.own λb hb=>yC hb⟩,by simp; omega,h5.KF (xy [] w' Z' _),?_⟩
  ·rcases vQ he with ⟨_,he⟩ | ⟨_,rfl⟩
   ·exact h3.dis i e ad he had
   ·cases had
  ·exact⟨h6.os,h6.tape,h6.output,h6.size,h6.keep,λb hb=>h6.grow b (uk hb)⟩
theorem X6{X R:Type}{fresh:Bool}{inp:X->List AV}{pre:X->Prop}{post:X->R->Prop}{out:X->R->AV×Heap}{g:Nat}{c:Code}(hf:P.funcs[g]?=some fn)(hb:fn.body=some c) (hn:(fn.name == "runtime.NumGoroutine")=false)
  (H:∀ x,pre x->∀ (O:Nat->Prop) (w0:World) (Q:AV×Heap->Prop),(∀ r,post x r->Q (out x r)) ->
   zd P fn O 0 w0 [] (λ_ _ _=>False) (RetR (ctrP fresh inp pre post out) 0 (upQ Q)) [.code c] (entry fn (inp x))):zg P g (ctrP fresh inp pre post out):=by
 intro args hc Q hq _;simp only [ctrP] at hq;split at hq
 ·obtain⟨x,⟨h1,h4⟩,h5,h6⟩:=hq;refine j6.le h1 (j6.up (fn_k hf hb hn (λh=>rfl) λO w0 I0 hl=> ?_));have h0:I0=[]:=aU.1 (by simpa using hl);subst h0;exact H x h4 O w0 Q h6
 ·exact hq.elim
variable {pin:Nat} {w0:World} {I0:List SE} {a:Act}
theorem RetR.outs{ctr:Ctr}{Q:AV×Heap->Prop}{rs:List AV}{h:Heap}{r:AV}{hs:Heap}(L:List Nat)(hnd:jU L=true)(hlt:(L.all λi=>decide (i<h.length))=true)(hq:Q (r,hs))(hn:ctr.fresh=true->new2 h L (resV rs)/\∀ i∈L,newB (h.getD i .dead))
  (he:eqA2 (exp2 h L (resV rs)) r) (hb:eqH (expH h L) hs) (hl:hs.length=L.length):RetR ctr 0 Q rs h:=
 ⟨L,hnd,λi hi=>by have:=bG.1 hlt i hi; simpa using this,by simp,hn,r,hs,qQ he,.inl hb,hl,hq⟩
theorem RetR.keep{ctr:Ctr}{m:Nat}{Q:AV×Heap->Prop}{rs:List AV}{h:Heap}{r:AV}{hs:Heap}(L:List Nat)(hnd:jU L=true)(hlt:(L.all λi=>decide (i<h.length))=true)(hj:∀ j,j<m->L[j]?=some j)(hf:ctr.fresh=false)(hq:Q (r,hs))
  (he:eqA2 (exp2 h L (resV rs)) r) (hb:eqH (expH h L) hs) (hl:hs.length=L.length):RetR ctr m Q rs h:=
 ⟨L,hnd,λi hi=>by have:=bG.1 hlt i hi; simpa using this,hj,(λhh=>absurd hh (by rw [hf]; decide)),r,hs,qQ he,.inl hb,hl,hq⟩
end
end Go.Sx
end
section
set_option maxRecDepth 100000
open Go Go.Sx Go.Proofs Go.Nov
namespace Go.Proofs.Tryz
attribute [local simp] eqKV eqA eqA0 eqH eqB eqL eqL0
noncomputable def K98:=Go.Sx.aA f98
def exD(x:Ex):AV:=.agg [.int .u8 x.kind,.str x.rat,.str x.name,.i x.date,.sl x.sub.length 5 x.deep]
def UY(n:Nat):Ctr:=ctrP false (λx:Ex=>[x.exA]) (λx=>x.size<n/\x.size<2^40) (λ_ (_:Unit)=>True) (λx _=>(exD x,[]))
theorem zjn{s:List Ex}{i:Nat} : eqG (i+1) 5 (appG i (Ex.exG s) (zf (zj 5 [.int .u8 (s.getD i Ex.nil).kind,.str (s.getD i Ex.nil).rat,.str (s.getD i Ex.nil).name,.i (s.getD i Ex.nil).date,.sl (s.getD i Ex.nil).sub.length 5 (s.getD i Ex.nil).deep]) 0)) (Ex.exG s):=by
 intro j o hj ho;simp only [appG,zf,zj];by_cases h:j<i
 ·rw [aP h]
 ·have:j=i:=by omega
  subst this;rw [aO h];have e:j - j=0:=by omega
  match o,ho with
  | 0,_=>simp [e,Ex.exG,Ex.cell]
  | 1,_=>simp [e,Ex.exG,Ex.cell]
  | 2,_=>simp [e,Ex.exG,Ex.cell]
  | 3,_=>simp [e,Ex.exG,Ex.cell]
  | 4,_=>simp [e,Ex.exG,Ex.cell]
def STw(s:List Ex)(i:Nat):KV:=[(1,.ptr 0 0),(2,.ptr 1 0),(3,.osl 2 5 0 i),(7,Ex.exS s),(8,.i (s.length:Int)),(9,.i (i:Int))]
def HTw(x:Ex)(i:Nat):Heap:=[.box [.int .u8 x.kind,.str x.rat,.str x.name,.i x.date,Ex.exS x.sub],.box [.int .u8 0,.str [],.str [],.i 0,.nils],.arr i 5 (Ex.exG x.sub)]
def RTw(x:Ex):List AV:=[.agg [.int .u8 x.kind,.str x.rat,.str x.name,.i x.date,.osl 2 5 0 x.sub.length]]
def HTw2(x:Ex):Heap:=[.box [.int .u8 x.kind,.str x.rat,.str x.name,.i x.date,.osl 2 5 0 x.sub.length],.box [.int .u8 x.kind,.str x.rat,.str x.name,.i x.date,.osl 2 5 0 x.sub.length],.arr x.sub.length 5 (Ex.exG x.sub)]
theorem zl6(n:Nat)(ih:zg prog 98 (UY n)){O:Nat->Prop}{w0:World}{C:Ctr}{Q:AV×Heap->Prop}(x:Ex)(h1:x.size<n+1)(h2:x.size<2^40)(hR:RetR C 0 Q (RTw x) (HTw2 x)) :
  zd prog f98 O 0 w0 [] (λ_ _ _=>False) (RetR C 0 Q) K98 (entry f98 [x.exA]):=by
 rw [Ex.size_eq] at h1 h2;have hlen:=Ex.ji x.sub;refine zd.n (Zz ih) [1,2,3,7,8,9] (.leaf (.loop (lps K98 0).1 (lps K98 0).2 [(1,.ptr 0 0),(2,.ptr 1 0),(3,.nils),(7,.sl x.sub.length 5 (Ex.exG x.sub)),(8,.i x.sub.length),(9,.i 0)] [.box [.int .u8 x.kind,.str x.rat,.str x.name,.i x.date,.sl x.sub.length 5 (Ex.exG x.sub)],.box [.int .u8 0,.str #[].toList,.str #[].toList,.i 0,.nils]])) ?_;simp only [Tree.holds,zh,inR,lo,hi,aD];refine zd.bear 3 5 (Ex.exG x.sub) rfl (by decide) (by kernel_rfl) ?_;refine zd.loop (ι:={i:Nat // i<=x.sub.length}) (λi=>STw x.sub i.1) (λi=>HTw x i.1) (λi=>x.sub.length - i.1) ⟨0,aI _⟩ 0 ?_ ?_ (by kernel_rfl)
 ·exact⟨by simp [STw,xE,Ex.exS,za],by simp [HTw,Ex.exS,za],by kernel_rfl,aI _⟩
 ·rintro⟨i,hil⟩;refine zd.n (Zz ih) [1,2,3,7,8,9] (let v4:=Ex.exG x.sub;let v2:List AV:=[.int .u8 x.kind,.str x.rat,.str x.name,.i x.date,.osl 2 5 0 i];let v1:=List.getD x.sub (i:Int).toNat Ex.nil;.D ((i:Int)<x.sub.length) (.side ((0:Int)<=i/\(i:Int)<x.sub.length) (.ex (λ(x_1:Ex)=>eqL [.agg [.int .u8 (Ex.kind v1),.str (Ex.rat v1),.str (Ex.name v1),.i (Ex.date v1),.sl (List.length (Ex.sub v1)) 5 (Ex.deep v1)]] [.agg [.int .u8 x_1.kind,.str x_1.rat,.str x_1.name,.i x_1.date,.sl x_1.sub.length 5 (Ex.exG x_1.sub)]]/\Ex.size x_1<n/\Ex.size x_1<1099511627776) λn=>let v3:=zj 5 [.int .u8 n.kind,.str n.rat,.str n.name,.i n.date,.sl n.sub.length 5 n.deep];.A λn_1=>.side (0=0/\i<=i/\(i+1)*72<=140737488355328) (.S (i+1) (.leaf (.back 0 [(1,.ptr 0 0),(2,.ptr 1 0),(3,.osl 2 5 0 (i+1)),(7,.sl x.sub.length 5 v4),(8,.i x.sub.length),(9,.i (i+1))] [.box [.int .u8 x.kind,.str x.rat,.str x.name,.i x.date,.sl x.sub.length 5 v4],.box [.int .u8 0,.str [],.str [],.i 0,.nils],.arr (i+1) 5 (appG i v4 (zf v3 0)),.box [.int .u8 (Ex.kind v1),.str (Ex.rat v1),.str (Ex.name v1),.i (Ex.date v1),.sl (List.length (Ex.sub v1)) 5 (Ex.deep v1)],.arr 1 5 v3]))))) (.R [.agg v2] [.box v2,.box v2,.arr i 5 v4])) ?_;simp only [Tree.holds,zh,inR,lo,hi,aD];refine⟨λhlt=> ?_,λhge=> ?_⟩
  ·have hlt:i<x.sub.length:=by have:=aB hlt; omega
   have hg:=Ex.qw hlt;refine⟨by omega,λ_=>⟨x.sub.getD i Ex.nil,⟨uB rfl rfl rfl rfl rfl (Ex.zQ _),by omega,by omega⟩,⟨(),trivial⟩,?_⟩⟩;intro _ _;refine⟨⟨trivial,aJ _,by omega⟩,λ_=>⟨by omega,λ_=> ?_⟩⟩;rw [aP trivial];refine⟨⟨i+1,hlt⟩,by show x.sub.length - (i+1)<x.sub.length - i; omega,by simp [STw,Ex.exS,za],?_,by kernel_rfl,aI _⟩;exact⟨⟨⟨rfl,rfl⟩,rfl,rfl,⟨rfl,rfl⟩,⟨rfl,rfl,za _ _ _⟩,trivial⟩,⟨⟨rfl,rfl⟩,rfl,rfl,⟨rfl,rfl⟩,by simp,trivial⟩,⟨rfl,rfl,zjn⟩,trivial⟩
  ·have hge:i=x.sub.length:=by have:=aC hge; omega
   subst hge;exact hR
theorem zic{C:Ctr}{Q:AV×Heap->Prop}{x:Ex}{h:Heap}{b:Nat}(hC:C.fresh=false)(hb:h[b]?=some (.arr x.sub.length 5 (Ex.exG x.sub)))(hq:Q (exD x,[])):RetR C 0 Q [.agg [.int .u8 x.kind,.str x.rat,.str x.name,.i x.date,.osl b 5 0 x.sub.length]] h:=by
 refine RetR.out0 hq (λh=>by rw [hC] at h; cases h) ?_;simp only [resV,exp2,exp1,List.map_cons,List.map_nil,exp0,ren0,zK,frz1,jO,hb,eqA2,eqA,eqL0,eqA0,exD,true_and,and_true];simp only [if_true];refine⟨trivial,trivial,λj o hj ho=> ?_⟩;have:=Ex.zQ x j o hj ho;simpa [zf] using this.symm
theorem zg0(n:Nat)(ih:zg prog 98 (UY n)):zg prog 98 (UY (n+1)):=by
 refine zm' f98 λx hx O w0 Q hq=> ?_
 exact zl6 n ih x hx.1 hx.2 (zic rfl rfl (hq () trivial))
theorem zhb:zg prog 98 (ctrP false (λx:Ex=>[x.exA]) (λx=>x.size<2^40) (λ_ (_:Unit)=>True) (λx _=>(exD x,[]))):=vB Ex.size zg0
def zgg:Ctr:=ctrP false (λx:Ex=>[x.exA]) (λx=>x.size<2^40) (λ_ (_:Unit)=>True) (λx _=>(exD x,[]))
noncomputable def K94:=Go.Sx.aA f94
def zb1:Ctr:=ctrP true (λx:Ex=>[x.exA]) (λ_=>True) (λx r=>r=jf x) (λ_ (r:Bool)=>(.bool r,[]))
theorem KI:zg prog 129 zb1:=by
 refine zm' f129 λx hx O w0 Q hq=> ?_
 replace hq:=hq _ rfl;obtain⟨k,r,m,d,s⟩:=x;refine zd.n zJ [] (let v1:=Ex.mk k r m d s;.R [.bool (bif bif bif bif decide (Ex.kind v1=(0:Int)) then decide (Ex.rat v1=#[].toList) else false then decide (Ex.name v1=#[].toList) else false then decide (Ex.date v1=(0:Int)) else false then decide ((↑(List.length (Ex.sub v1)):Int)=0) else false)] [.box [.int .u8 (Ex.kind v1),.str (Ex.rat v1),.str (Ex.name v1),.i (Ex.date v1),.sl (List.length (Ex.sub v1)) 5 (Ex.exG (Ex.sub v1))]]) ?_;simp only [Tree.holds,zh];refine RetR.scal hq rfl ?_;refine congrArg AV.bool ?_;rw [Bool.eq_iff_iff];simp [jf,Ex.kind,Ex.rat,Ex.name,Ex.date,Ex.sub,and_assoc]
def zaf:Ctr:=ctrT false false (λc:Con=>[c.conA]) (λ_=>[]) (λ_=>True) (λ_ (_:Unit)=>True) (λc _=>(.fn 132 [] [.ptr 0 0],[.box (Con.qK c.kind c.src c.dst c.name c.x c.date c.days c.sub)]))
theorem X1:zg prog 96 zaf:=by
 refine zD (fn:=f96) (c:=f96.body.getD .skip) rfl rfl rfl (λh=>by cases h) λc hp O w0 I0 Q hl hq=> ?_
 have h0:I0=[]:=aU.1 (by simpa using hl);subst h0;refine zd.n zJ [0] (.R [.fn 132 [] [.ptr 0 0]] [.box (Con.zi c)]) ?_;simp only [Tree.holds,zh];refine RetR.out1 0 (by simp) (hq () trivial) (λh=>by cases h) (by simp [resV,exp2,exp1,exp0,zK,ren0,eqA2]) ?_;simp only [Con.qK,expB,exp1,List.map_cons,List.map_nil,exp0,Ex.exS,Con.dayS,Con.conS];exact⟨⟨rfl,rfl⟩,rfl,rfl,rfl,⟨rfl,rfl⟩,rfl,rfl,⟨rfl,rfl⟩,⟨rfl,rfl,za _ _ _⟩,⟨rfl,rfl⟩,⟨rfl,rfl,za _ _ _⟩,⟨rfl,rfl,za _ _ _⟩,trivial⟩
noncomputable def GZ1:=tb KI (tb zcx (tb X1 tz))
def zhk:Ctr:=ctrP true (λc:Con=>[c.conA]) (λc=>c.big<2^40/\c.nodes<=1000000) (λc r=>r=c.size) (λ_ (r:Nat)=>(.i (r:Int),[]))
theorem qW(c:Con):eqA c.conA c.conA:=by
 simp only [Con.conA,Ex.exS,Con.dayS,Con.conS,eqA];exact⟨⟨rfl,rfl⟩,rfl,rfl,rfl,⟨rfl,rfl⟩,rfl,rfl,⟨rfl,rfl⟩,⟨rfl,rfl,za _ _ _⟩,⟨rfl,rfl⟩,⟨rfl,rfl,za _ _ _⟩,⟨rfl,rfl,za _ _ _⟩,trivial⟩
theorem y7{own:Nat->Prop}{w:World}{σ:List SE} : ∀ {l:List AV} {vs:List Value},l.all XF=true->RepL own w l σ vs->RepL own w l [] vs
 | [],vs,_,h=>h
 | a::l,vs,hf,h=>by
  simp only [List.all_cons,bA] at hf;simp only [RepL] at h ⊢;obtain⟨v,r,rfl,h1,h2⟩:=h;exact⟨v,r,rfl,Ua hf.1 h1,y7 hf.2 h2⟩
theorem zrg{O:Nat->Prop}{pin:Nat}{w0 w:World}{I0 σ:List SE}{st:St}{a:Act}(hm:Mod O pin w0 I0 w σ st a):∀ b,Go.Sx.Own O σ b->b<w.heap.size:=by
 rintro b (hO | ⟨e,he,ad,h1,rfl⟩)
 ·exact hm.good.old b hO
 ·obtain⟨j,hj⟩:=List.getElem?_of_mem he;exact hm.hp.lt j e ad hj h1
theorem zO(c:Con):eqL c.zi c.zi:=by
 simp only [Con.zi,Con.qK,Ex.exS,Con.dayS,Con.conS];exact⟨⟨rfl,rfl⟩,rfl,rfl,rfl,⟨rfl,rfl⟩,rfl,rfl,⟨rfl,rfl⟩,⟨rfl,rfl,za _ _ _⟩,⟨rfl,rfl⟩,⟨rfl,rfl,za _ _ _⟩,⟨rfl,rfl,za _ _ _⟩,trivial⟩
theorem wW(x:Ex):eqA x.exA x.exA:=by
 simp only [Ex.exA,Ex.exS,eqA];exact⟨⟨rfl,rfl⟩,rfl,rfl,⟨rfl,rfl⟩,⟨rfl,rfl,za _ _ _⟩,trivial⟩
theorem Jr{O:Nat->Prop}{pin:Nat}{w0 w:World}{I0 σ:List SE}{st:St}{a:Act}(hm:Mod O pin w0 I0 w σ st a){i:Nat}{c:Con}(hb:st.heap[i]?=some (.box c.zi))(hn:c.nodes<=1000000){vb:List Value}(hv:RepL (Go.Sx.Own O σ) w [.ptr i 0] σ vb) :
  ∃ ev:Nat->Value,SeqStopsK Fence.wide 0 prog 132 vb.toArray (λx=> #[ev x]) (jx (Go.Sx.Own O σ)) (λxs=>xs=List.range c.all.length) (λpre=>pre <+: List.range c.all.length) c.all.length w/\∀ i,Rep (Go.Sx.Own O σ) w (c.all.getD i c).conA [] (ev i):=by
 simp only [RepL,Rep] at hv;obtain⟨v,r,rfl,⟨e,ad,he,had,rfl⟩,rfl⟩:=hv;obtain⟨ad',vs,el,g1,g2,g3,g4⟩:=hm.hp.blk i e _ he hb;rw [had] at g1; cases g1
 have hr:Rep (Go.Sx.Own O σ) w c.conA [] (.agg vs.toArray):=by
  simp only [Con.conA];rw [Rep];exact⟨vs,rfl,y7 rfl g4⟩
 have:=XH g3 hr hn (zrg hm);rw [g2];exact this
def HCs(c:Con)(m:Nat):Heap:=[.box c.zi,.box [.i (m:Int)],.box c.zi]
abbrev q26(A:List AV)(x:Ex):Prop:=eqL A [x.exA]/\Ex.size x<4611686018427387904
abbrev q25(A:List AV)(x:Ex):Prop:=eqL A [x.exA]/\True
theorem zla:zg prog 94 zhk:=by
 refine zm' f94 λc hc O w0 Q hq=> ?_
 obtain⟨h1,h2⟩:=hc;replace hq:=hq _ rfl;refine zd.n GZ1.h [2,3,6,7] (.ex (λ(x:Con)=>eqL [(Con.conA c)] [(Con.conA x)]/\eqH [] []/\0=0/\True) λn=>.A λn_1=>.leaf (.range (Prod.fst (rfs K94 0)) (Prod.snd (rfs K94 0)) [(2,.i 0),(3,.ptr 1 0),(6,.fn 132 [] [.ptr 2 0]),Z 7] [.box (Con.zi c),.box [.i 0],.box (Con.zi n)])) ?_;simp only [Tree.holds,zh];refine⟨c,⟨⟨qW c,trivial⟩,trivial,trivial,trivial⟩,⟨(),trivial⟩,λ_ _=> ?_⟩
 refine zd.zj0 (tg:=6) (tp:=7) (td:=4) (t:=39) (n:=12) (zs:=[.int .u8 0,.str [],.str [],.str [],.int .u8 0,.str [],.str [],.i 0,.nils,.i 0,.nils,.nils]) (cap:=[.ptr 2 0]) (gf:=132) (by kernel_rfl) (by kernel_rfl) (by kernel_rfl) rfl (enters_of Tryz.func132 (by kernel_rfl) rfl) (λi:Nat=>(c.all.getD i c).conA) (λi=>(c.all.getD i c).zi) (λi=>⟨rfl,rfl,rfl,rfl⟩) (λpre=>HCs c (pre.map λi=>(c.all.getD i c).wt).sum) (λ_=>[]) (λ_=>False) (λxs=>xs=List.range c.all.length) (λpre=>pre <+: List.range c.all.length) c.all.length 3
  (by kernel_rfl) (by decide +kernel) (by decide +kernel) (by decide +kernel) (by decide) ⟨by simp,⟨zO c,⟨⟨rfl,rfl⟩,trivial⟩,zO c,trivial⟩,by kernel_rfl,aI _⟩ (by kernel_rfl) (aI _) (λpre=>rfl) (λpre=>by simp [HCs,alive]) (λpre b hb=>by cases hb) ?_ ?_ ?_ (λ_ _ h=>h.elim)
 ·intro w σ a hm vb hvb;exact Jr hm (i:=2) rfl h2 hvb
 ·intro l pre i hlen W E1
  have hwt:(c.all.getD i c).big<=c.big:=by
   by_cases hi:i<c.all.length
   ·exact Con.QD c _ (by simp [List.getD,hi])
   ·simp [List.getD,hi]
  have hm:(pre.map λi=>(c.all.getD i c).wt).sum<=pre.length*2^40:=by
   have hall:∀ j,(c.all.getD j c).wt<=2^40:=λj=>by
    have h1':=Con.Jl (c.all.getD j c).x
    have h2':(c.all.getD j c).big<=c.big:=by
     by_cases hi:j<c.all.length
     ·exact Con.QD c _ (by simp [List.getD,hi])
     ·simp [List.getD,hi]
    rw [Con.yR] at h2';have:(c.all.getD j c).wt=1+kG (c.all.getD j c).x:=rfl;omega
   clear hlen
   induction pre with
   | nil=>simp
   | cons j pre ih=>
    have:=hall j;simp only [List.map_cons,List.sum_cons,aL];omega
  rw [List.map_append,List.sum_append];simp only [List.map_cons,List.map_nil,List.sum_cons,List.sum_nil,Nat.add_zero];rw [Con.Xa] at hlen;have hml:(pre.map λi=>(c.all.getD i c).wt).sum<=1000000*2^40:=bP hm (aT _ (by omega));generalize (pre.map λi=>(c.all.getD i c).wt).sum=m at hml;generalize c.all.getD i c=e at hwt;rw [Con.yR e] at hwt;refine zd.n GZ1.h [3,6,7] (let v1:List (Nat×AV):=[(3,.ptr 1 0),(6,.fn 132 [] [.ptr 2 0]),(7,(Con.conA e))];.S (m+1) (.ex (q25 [(Ex.exA e.x)]) λn=>.all (λ(r:Bool)=>r=jf n) λn=>.ite (!n) (.ex (q26 [(Ex.exA e.x)]) λn=>.all (λ(r:Nat)=>r=Ex.size n) λn=>.S ((m:Int)+(1:Int)+n) (.leaf (.back 0 v1 [.box (Con.zi c),.box [.i ((m:Int)+(1:Int)+n)],.box (Con.zi c)]))) (.leaf (.back 0 v1 [.box (Con.zi c),.box [.i (m+1)],.box (Con.zi c)])))) ?_;simp only [q25,q26,Tree.holds,zh,inR,lo,hi,aD];have hsx:e.wt=1+kG e.x:=rfl;refine⟨by omega,λ_=>⟨e.x,⟨⟨wW e.x,trivial⟩,trivial⟩,⟨_,rfl⟩,?_⟩⟩;rintro _ rfl;refine⟨λhb=>⟨e.x,⟨⟨wW e.x,trivial⟩,by show e.x.size<_; omega⟩,⟨_,rfl⟩,?_⟩,λhb=> ?_⟩
  ·rintro _ rfl;refine⟨by omega,λ_=>⟨trivial,⟨zO c,⟨⟨rfl,?_⟩,trivial⟩,zO c,trivial⟩,by kernel_rfl,aJ _⟩⟩;have:kG e.x=e.x.size:=by unfold kG; rw [show jf e.x=false by simpa using hb]; rfl
   omega
  ·refine⟨trivial,⟨zO c,⟨⟨rfl,?_⟩,trivial⟩,zO c,trivial⟩,by kernel_rfl,aJ _⟩;have:kG e.x=0:=by unfold kG; rw [show jf e.x=true by simpa using hb]; rfl
   omega
 ·intro xs hxs;subst hxs
  have hsum:((List.range c.all.length).map λi=>(c.all.getD i c).wt).sum=c.size:=by
   rw [Con.Wf];congr 1;apply List.ext_getElem (by simp);intro i h1 h2;simp at h1;simp [List.getD,h1]
  rw [hsum];generalize c.size=m at hq;refine zd.n GZ1.h [2,3,6,7] (.R [.i m] [.box (Con.zi c),.box [.i m],.box (Con.zi c)]) ?_;simp only [Tree.holds,zh];exact RetR.scal hq rfl rfl
noncomputable def K131:=Go.Sx.aA f131
noncomputable def K95:=Go.Sx.aA f95
def zc1(n:Nat):Ctr:=ctrP true (λx:Ex=>[x.exA]) (λx=>x.size<n/\x.size<2^62) (λx r=>r=x.depth) (λ_ (r:Nat)=>(.i (r:Int),[]))
def SEd(s:List Ex)(c i:Nat):KV:=[(3,.i (c:Int)),(7,Ex.exS s),(8,.i (s.length:Int)),(9,.i (i:Int))]
theorem XW(n:Nat)(ih:zg prog 131 (zc1 n)):zg prog 131 (zc1 (n+1)):=by
 refine zm' f131 λx hp O w0 Q hq=> ?_
 obtain⟨hxn,hxs⟩:=hp;replace hq:=hq _ rfl;have hds:=Ex.jK x;rw [Ex.kX] at hq hds;rw [Ex.size_eq] at hxn hxs hds;obtain⟨k,r,m,d,s⟩:=x;simp only [Ex.sub] at hxn hxs hq hds;have hlen:=Ex.ji s;refine zd.n (Zz ih) [3,7,8,9] (.leaf (.loop (lps K131 0).1 (lps K131 0).2 [(3,.i 0),(7,.sl s.length 5 (Ex.exG s)),(8,.i s.length),(9,.i 0)] [.box [.int .u8 k,.str r,.str m,.i d,.sl s.length 5 (Ex.exG s)]])) ?_;simp only [Tree.holds,zh,inR,lo,hi,aD];refine zd.loop (ι:={i:Nat // i<=s.length}) (λi=>SEd s (Ex.zB (s.take i.1)) i.1) (λ_=>[]) (λi=>s.length - i.1) ⟨0,aI _⟩ 0 ?_ ?_ (by kernel_rfl)
 ·exact⟨by simp [SEd,Ex.zB,Ex.exS,za],by simp,by kernel_rfl,aI _⟩
 ·rintro⟨i,hil⟩;have hcb:Ex.zB (s.take i)<=Ex.zB s:=Ex.Ws s i;obtain⟨c,hc⟩:∃ c,Ex.zB (s.take i)=c:=⟨_,rfl⟩;simp only [hc];refine zd.n (Zz ih) [3,7,8,9] (let v1:=s.getD (i:Int).toNat Ex.nil;.D ((i:Int)<s.length) (.side ((0:Int)<=i/\(i:Int)<s.length) (.ex (λ(x:Ex)=>eqL [(exD v1)] [x.exA]/\Ex.size x<n/\Ex.size x<4611686018427387904) λn=>.all (λ(r:Nat)=>r=Ex.depth n) λn=>.S (i+1) (.leaf (.back 0 [(3,.i (max (c:Int) (n:Int))),(7,.sl s.length 5 (Ex.exG s)),(8,.i s.length),(9,.i (i+1))] [.box (Ex.cellsD v1)])))) (.S (c+1) (.R [.i (c+1)] []))) ?_;simp only [Tree.holds,zh,inR,lo,hi,aD];refine⟨λhlt=> ?_,λhge=> ?_⟩
  ·have hlt:i<s.length:=by have:=aB hlt; omega
   have hg:=Ex.qw hlt;have ht:=Ex.ve s i hlt;refine⟨by omega,λ_=>⟨s.getD i Ex.nil,⟨⟨⟨⟨rfl,rfl⟩,rfl,rfl,⟨rfl,rfl⟩,⟨rfl,rfl,Ex.zQ _⟩,trivial⟩,trivial⟩,by omega,by omega⟩,⟨_,rfl⟩,?_⟩⟩;rintro _ rfl;refine⟨by omega,λ_=> ?_⟩;rw [aP trivial];refine⟨⟨i+1,hlt⟩,by show s.length - (i+1)<s.length - i; omega,?_,by simp,by kernel_rfl,aI _⟩;simp [SEd,ht,hc,Ex.exS,za]; omega
  ·have hge:i=s.length:=by have:=aC hge; omega
   subst hge;rw [bD] at hc;refine⟨by omega,λ_=> ?_⟩;exact RetR.scal hq rfl (by simp [resV]; omega)
def WX:Ctr:=ctrP true (λx:Ex=>[x.exA]) (λx=>x.size<2^62) (λx r=>r=x.depth) (λ_ (r:Nat)=>(.i (r:Int),[]))
theorem zfa:zg prog 131 WX:=vB Ex.size XW
theorem qc(e:Con):eqA (.agg [.int .u8 e.kind,.str e.src,.str e.dst,.str e.name,.int .u8 e.x.kind,.str e.x.rat,.str e.x.name,.i e.x.date,.sl e.x.sub.length 5 (Ex.exG e.x.sub),.i e.date,.sl e.days.length 1 (Con.dayG e.days),.sl e.sub.length 12 e.deep]) e.conA:=by
 simp only [Con.conA,Ex.exS,Con.dayS,Con.conS,eqA];exact⟨⟨rfl,rfl⟩,rfl,rfl,rfl,⟨rfl,rfl⟩,rfl,rfl,⟨rfl,rfl⟩,⟨rfl,rfl,za _ _ _⟩,⟨rfl,rfl⟩,⟨rfl,rfl,za _ _ _⟩,⟨rfl,rfl,Con.zQ e⟩,trivial⟩
theorem QM(x:Ex):kN x<=x.size:=bP (Con.V3 x) (Con.Jl x)
def SCd(c:Con)(d i:Nat):KV:=[(3,.i (d:Int)),(14,Con.conS c.sub),(15,.i (c.sub.length:Int)),(16,.i (i:Int))]
def Zn(n:Nat):Ctr:=ctrP true (λc:Con=>[c.conA]) (λc=>c.nodes<n/\c.big<2^40) (λc r=>r=c.depth) (λ_ (r:Nat)=>(.i (r:Int),[]))
noncomputable def GDb:=tb KI (tb zfa tz)
noncomputable def GDc(n:Nat):Nat->Option Ctr:=λf=>if f=95 then some (Zn n) else GDb.g f
theorem zhu{n:Nat}(h:zg prog 95 (Zn n)):∀ f c,GDc n f=some c->zg prog f c:=by
 intro f c hf;simp only [GDc] at hf;split at hf
 ·rename_i hg; subst hg; cases hf; exact h
 ·exact GDb.h f c hf
theorem YB(n:Nat)(ih:zg prog 95 (Zn n)):zg prog 95 (Zn (n+1)):=by
 refine zm' f95 λc hp O w0 Q hq=> ?_
 obtain⟨hcn,hcb⟩:=hp;replace hq:=hq _ rfl;rw [Con.kX] at hq;refine zd.n (zhu ih) [3,14,15,16] (.ex (q25 [(Ex.exA c.x)]) λn=>.all (λ(r:Bool)=>r=jf n) λn=>.ite (!n) (.ex (q26 [(Ex.exA c.x)]) λn=>.all (λ(r:Nat)=>r=Ex.depth n) λn=>.leaf (.loop (lps K95 0).1 (lps K95 0).2 [(3,.i n),(14,.sl c.sub.length 12 (Con.conG c.sub)),(15,.i c.sub.length),(16,.i 0)] [.box (Con.zi c)])) (.leaf (.loop (lps K95 0).1 (lps K95 0).2 [(3,.i 0),(14,.sl c.sub.length 12 (Con.conG c.sub)),(15,.i c.sub.length),(16,.i 0)] [.box (Con.zi c)]))) ?_;simp only [q25,q26,Tree.holds,zh,inR,lo,hi,aD];have hb:=hcb;rw [Con.yR] at hb;rw [Con.vV] at hcn;have hxd:=QM c.x;have hsd:=Con.U5 c.sub;have hl:=Con.Ju c.sub
 have loop:∀ (d0:Nat) (h:Heap),d0=kN c.x->(∀ S,LeK 0 f95.ntmps S h S []->True)->h=[.box c.zi]->zd prog f95 O 0 w0 [] (λ_ _ _=>False) (RetR (Zn (n+1)) 0 Q) (.code (.loop (lps K95 0).1)::(lps K95 0).2) (mk f95.ntmps [(3,.i (d0:Int)),(14,.sl c.sub.length 12 (Con.conG c.sub)),(15,.i (c.sub.length:Int)),(16,.i 0)] h):=by
  rintro d0 h rfl _ rfl;refine zd.loop (ι:={i:Nat // i<=c.sub.length}) (λi=>SCd c (max (kN c.x) (Con.zB (c.sub.take i.1))) i.1) (λ_=>[]) (λi=>c.sub.length - i.1) ⟨0,aI _⟩ 0 ?_ ?_ (by kernel_rfl)
  ·exact⟨by simp [SCd,Con.zB,Con.conS,za],by simp,by kernel_rfl,aI _⟩
  ·rintro⟨i,hil⟩;have hdb:Con.zB (c.sub.take i)<=Con.zB c.sub:=Con.VB c.sub i;obtain⟨d,hd⟩:∃ d,max (kN c.x) (Con.zB (c.sub.take i))=d:=⟨_,rfl⟩;simp only [hd];refine zd.n (zhu ih) [3,14,15,16] (let v1:=List.getD c.sub (i:Int).toNat Con.nil;.D ((i:Int)<(c.sub.length:Int)) (.side ((0:Int)<=i/\(i:Int)<(c.sub.length:Int)) (.ex (λ(x:Con)=>eqL [(Con.conD v1)] [(Con.conA x)]/\Con.nodes x<n/\Con.big x<1099511627776) λn=>.all (λ(r:Nat)=>r=Con.depth n) λn=>.S (i+1) (.leaf (.back 0 [(3,.i (max (d:Int) (n:Int))),(14,.sl c.sub.length 12 (Con.conG c.sub)),(15,.i c.sub.length),(16,.i (i+1))] [.box (Con.zc v1)])))) (.S (d+1) (.R [.i (d+1)] []))) ?_;simp only [Tree.holds,zh,inR,lo,hi,aD];refine⟨λhlt=> ?_,λhge=> ?_⟩
   ·have hlt:i<c.sub.length:=by have:=aB hlt; omega
    have hg:=Con.wT hlt;have hgb:=Con.JJ hlt;have ht:=Con.ve c.sub i hlt;refine⟨by omega,λ_=>⟨c.sub.getD i Con.nil,⟨⟨qc _,trivial⟩,by omega,by omega⟩,⟨_,rfl⟩,?_⟩⟩;rintro _ rfl;refine⟨by omega,λ_=> ?_⟩;rw [aP trivial];refine⟨⟨i+1,hlt⟩,by show c.sub.length - (i+1)<c.sub.length - i; omega,?_,by simp,by kernel_rfl,aI _⟩;simp [SCd,ht,Con.conS,za]; omega
   ·have hge:i=c.sub.length:=by have:=aC hge; omega
    subst hge;rw [bD] at hd;refine⟨by omega,λ_=> ?_⟩;exact RetR.scal hq rfl (by simp [resV]; omega)
 refine⟨c.x,⟨⟨wW c.x,trivial⟩,trivial⟩,⟨_,rfl⟩,?_⟩;rintro _ rfl;refine⟨λh=>⟨c.x,⟨⟨wW c.x,trivial⟩,by show c.x.size<_; omega⟩,⟨_,rfl⟩,?_⟩,λh=> ?_⟩
 ·rintro _ rfl;exact loop c.x.depth _ (by unfold kN; rw [show jf c.x=false by simpa using h]; rfl) (λ_ _=>trivial) rfl
 ·exact loop 0 _ (by unfold kN; rw [show jf c.x=true by simpa using h]; rfl) (λ_ _=>trivial) rfl
def Vu:Ctr:=ctrP true (λc:Con=>[c.conA]) (λc=>c.big<2^40) (λc r=>r=c.depth) (λ_ (r:Nat)=>(.i (r:Int),[]))
theorem zf8:zg prog 95 Vu:=vB Con.nodes YB
end Go.Proofs.Tryz
end
section
namespace Go.Sx
variable [Stat]
section
variable {P:Program}
theorem Vs(a:AV):eqA0 a a:=by
 cases a<;>simp [eqA0]
 exactλ_ _ _ _=>rfl
theorem ZI:∀ l:List AV,eqL0 l l
 | []=>trivial
 | a::l=>⟨Vs a,ZI l⟩
theorem kn(a:AV):eqA a a:=by
 cases a with
 | agg l=>exact ZI l
 | tup l=>exact ZI l
 | _=>unfold eqA; exact Vs _
theorem Jk:∀ l:List AV,eqL l l
 | []=>trivial
 | a::l=>by
  unfold eqL;split
  ·rename_i h1 h2; cases h1
  ·rename_i h1 h2; cases h1; cases h2; exact Jk l
  ·rename_i h1 h2; cases h1; cases h2; exact⟨kn _,Jk l⟩
  ·rename_i hx; exact(hx _ _ _ _ rfl rfl).elim
end
end Go.Sx
end
section
namespace Go.Sx
variable [Stat]
section
variable {P:Program} {Γ:Nat->Option Ctr} {fn:Func}
def inlC(P:Program)(Γ:Nat->Option Ctr)(n:Nat)(fn:Func):Ctr where
 fresh:=false
 spec args hc:=match fn.body with
  | some c=>(run P Γ hc.length n [.code c] (wM fn args hc)).bind λlf=>match lf with
   | .ret st=>(resX P st fn.results.toList).bind λrs=>bif decide (hc.length<=st.heap.length) then .leaf (exp2 st.heap (List.range st.heap.length) (resV rs),expH st.heap (List.range st.heap.length)) else .fail
   | _=>.fail
  | none=>.fail
theorem nodup_range':∀ (n s:Nat),jU (List.range' s n)=true
 | 0,_=>rfl
 | n+1,s=>by
  rw [List.range'_succ];simp only [jU,bA];refine⟨?_,nodup_range' n (s+1)⟩;simp [bY,List.mem_range'_1]
theorem zk(b:Blk):eqB b b:=by
 cases b with
 | dead=>trivial
 | box l=>exact Jk l
 | arr n sz g=>exact⟨rfl,rfl,λ_ _ _ _=>rfl⟩
 | arrI k n f=>exact⟨rfl,λ_ _ _ _=>rfl⟩
 | arrS n f=>exact⟨rfl,λ_ _ _ _=>rfl⟩
 | map ag sh has get pe=>exact⟨⟨rfl,.inr rfl⟩,rfl,λ_=>rfl,λ_ _=>rfl⟩
theorem zf3(h:Heap):eqH h h:=by
 induction h with
 | nil=>trivial
 | cons b l ih=>exact⟨zk b,ih⟩
theorem ub{g n:Nat}(hmix:P.follows .mixedOrders=true)(hΓ:∀ g c,Γ g=some c->zg P g c)(hf:P.funcs[g]?=some fn) (hn:(fn.name == "runtime.NumGoroutine")=false):zg P g (inlC P Γ n fn):=by
 intro args hc Q hq hfr;simp only [inlC] at hq;cases hb:fn.body with
 | none=>rw [hb] at hq; exact hq.elim
 | some c=>
  rw [hb] at hq;simp only [Tree.zt] at hq;refine qL.plain (zph hf hb hn hfr λO w0 I0 hl=>Safe.run hmix (λg c h=>(hΓ g c h).x) n (Tree.qk (λlf h=> ?_) hq));cases lf with
  | ret st=>
   simp only [Tree.zt] at h;refine Tree.qk (λrs h=> ?_) h;cases hd:decide (hc.length<=st.heap.length) with
   | false=>rw [hd] at h; exact h.elim
   | true=>
    rw [hd] at h;have h:Q (exp2 st.heap (List.range st.heap.length) (resV rs),expH st.heap (List.range st.heap.length)):=h;have hd:=aB hd;exact⟨List.range st.heap.length,by rw [List.range_eq_range']; exact nodup_range' _ _,λi hi=>List.mem_range.1 hi,λj hj=>by rw [List.getElem?_range (by omega)],λh=>(by cases h),_,_,LeA.refl _,.inl (zf3 _),by simp [expH],h⟩
  | _=>exact h.elim
end
end Go.Sx
end
section
namespace Go.Nov
open Go.Sx
theorem zhi:∀ s:L8,Op.bytesLess s s=false
 | []=>rfl
 | a::s=>by simp [Op.bytesLess,zhi s]
theorem y2{s t:L8} : cmpS s t=0↔s=t:=by
 unfold cmpS;cases hb:Op.bytesLess s t with
 | true=>
  simp only [if_true];refine⟨λh=>by omega,λh=> ?_⟩;subst h; rw [zhi] at hb; cases hb
 | false=>by_cases h:s=t<;>simp [h]
theorem zc9{x y:Int} : cmpI x y=0↔x=y:=by
 unfold cmpI;split
 ·exact⟨λh=>by omega,λh=>by omega⟩
 ·split
  ·exact⟨λh=>by omega,λh=>by omega⟩
  ·exact⟨λ_=>by omega,λ_=>rfl⟩
theorem zm3{a b:Fx} : cmpF a b=0↔a.name=b.name/\a.date=b.date:=by
 unfold cmpF;by_cases h:cmpS a.name b.name=0
 ·rw [aP h,zc9]; exact⟨λh2=>⟨y2.1 h,h2⟩,λh2=>h2.2⟩
 ·rw [aO h]; exact⟨λh2=>absurd h2 h,λh2=>absurd (y2.2 h2.1) h⟩
theorem zni{a b:Ch} : cmpC a b=0↔a.qt=b.qt/\a.name=b.name/\a.date=b.date:=by
 unfold cmpC;by_cases h:cmpS a.qt b.qt=0
 ·rw [aP h];have h1:=y2.1 h;by_cases h':cmpS a.name b.name=0
  ·rw [aP h',zc9]; exact⟨λh2=>⟨h1,y2.1 h',h2⟩,λh2=>h2.2.2⟩
  ·rw [aO h']; exact⟨λh2=>absurd h2 h',λh2=>absurd (y2.2 h2.2.1) h'⟩
 ·rw [aO h]; exact⟨λh2=>absurd h2 h,λh2=>absurd (y2.2 h2.1) h⟩
structure OrdK{α:Type}(c:α->α->Int):Prop where
 lt:∀ a b d,c a b<0->c b d<0->c a d<0
 eq:∀ a b d,c a b<0->c b d=0->c a d<0
section
variable {α:Type} {c:α->α->Int} {z x:α}
end
theorem zrc{α:Type}{p:α->Bool}{z:α}{l:List α}(h:∀ j,j<l.length->p (l.getD j z)=true):l.all p=true:=by
 rw [bG];intro x hx;obtain⟨j,hj,rfl⟩:=List.getElem_of_mem hx;have:=h j hj;simpa [List.getD,hj] using this
theorem zn5{α:Type}{p:α->Bool}{z:α}{l:List α}{j:Nat}(hj:j<l.length)(h:p (l.getD j z)=false):l.all p=false:=by
 rw [List.all_eq_false];exact⟨l[j],bK hj,by simpa [List.getD,hj] using h⟩
theorem zat{f:List Fx}{c:List Ch} : errE f c=0↔¬ (1000<f.length\/1000<c.length)/\f.all okF=true/\c.all okC=true/\ordB cmpF Fx.nil f=true/\ordB cmpC Ch.nil c=true:=by
 unfold errE;by_cases hb:1000<f.length\/1000<c.length
 ·rw [aP hb]; simp [hb]
 ·rw [aO hb];by_cases h:(f.all okF&&c.all okC&&ordB cmpF Fx.nil f&&ordB cmpC Ch.nil c)=true
  ·rw [aP h];simp only [bA] at h;exact⟨λ_=>⟨hb,h.1.1.1,h.1.1.2,h.1.2,h.2⟩,λ_=>rfl⟩
  ·rw [aO h];refine⟨λh2=>by omega,λh2=>absurd ?_ h⟩;simp [h2.2.1,h2.2.2.1,h2.2.2.2.1,h2.2.2.2.2]
def vW(l:List Fx)(a:L8)(d:Int):L8×Bool:=match l.find? λx=>decide (x.name=a)&&decide (x.date=d) with
 | some x=>(x.value,true)
 | none=>([],false)
def qo(l:List Ch)(p n:L8)(d:Int):Bool:=match l.find? λx=>decide (x.qt=p)&&(decide (x.name=n)&&decide (x.date=d)) with
 | some x=>x.first
 | none=>false
theorem zot{α:Type}{p:α->Bool}{l:List α}{z:α}{i:Nat}(hi:i<l.length)(h:p (l.getD i z)=true)(hb:∀ j,j<i->p (l.getD j z)=false):l.find? p=some (l.getD i z):=by
 induction l generalizing i with
 | nil=>simp at hi
 | cons a l ih=>
  cases i with
  | zero=>simp only [List.getD_cons_zero] at h ⊢; simp [h]
  | succ i=>
   have h0:=hb 0 (by omega);simp only [List.getD_cons_zero,List.getD_cons_succ] at h h0 ⊢;rw [List.find?_cons,h0];exact ih (by simpa using hi) h λj hj=>by have:=hb (j+1) (by omega); simpa using this
end Go.Nov
end
section
set_option maxRecDepth 100000
open Go Go.Sx Go.Proofs Go.Nov
namespace Go.Proofs.Tryz
attribute [local simp] eqKV eqA eqA0 eqH eqB eqL eqL0
noncomputable def K139:=Go.Sx.aA f139
def zpo:Ctr:=ctrP true (λl:List Int=>[Con.dayS l]) (λl=>l.length<2^40) (λl r=>r=xK l) (λ_ (r:Bool)=>(.bool r,[]))
noncomputable def Uj:Ctr:=inlC prog noG 100 f138
theorem VW:zg prog 138 Uj:=ub hmix zJ rfl rfl
noncomputable def GDy:=tb VW tz
def zda(l:List Int)(i:Nat):Prop:=∀ j,j<i->dayB (l.getD j 0)=true/\(0<j->l.getD (j - 1) 0<l.getD j 0)
theorem zdz{l:List Int}(h1:1<=l.length)(h2:l.length<=100)(h:zda l l.length):xK l=true:=by
 unfold xK;rw [aX h1,aX h2,zrc (z:=0) λj hj=>(h j hj).1];simp only [Bool.true_and];unfold incB;refine Ji λj hj=> ?_
 rw [zby];exact(h (j+1) hj).2 (by omega)
theorem zj3{l:List Int}{i:Nat}(hi:i<l.length)(h:¬ (dayB (l.getD i 0)=true/\(0<i->l.getD (i - 1) 0<l.getD i 0))):xK l=false:=by
 unfold xK;by_cases hd:dayB (l.getD i 0)=true
 ·have h:0<i/\¬ l.getD (i - 1) 0<l.getD i 0:=by
   refine⟨?_,?_⟩
   ·rcases bC i with h0 | h0
    ·exact absurd ⟨hd,λh1=>by omega⟩ h
    ·exact h0
   ·exactλh1=>h ⟨hd,λ_=>h1⟩
  have:incB l=false:=by
   unfold incB;refine QK (j:=i - 1) (by omega) ?_;rw [zby,show i - 1+1=i by omega];exact h.2
  rw [this]; simp
 ·have:l.all dayB=false:=zn5 (z:=0) hi (by simpa using hd);rw [this]; simp
theorem UI{l:List Int}{i:Nat}(h:zda l i)(h1:dayB (l.getD i 0)=true/\(0<i->l.getD (i - 1) 0<l.getD i 0)):zda l (i+1):=λj hj=>by
 rcases aR j i with h2 | h2
 ·exact h j h2
 ·rw [show j=i by omega]; exact h1
theorem zc5{l:List Int}{i:Nat}{b:Bool}(hb:b=dayB (l.getD i 0)):(bif !b then true else bif decide (0<(i:Int)) then decide (l.getD i 0<=l.getD ((i:Int) - 1).toNat 0) else false)=false↔(dayB (l.getD i 0)=true/\(0<i->l.getD (i - 1) 0<l.getD i 0)):=by
 have e:((i:Int) - 1).toNat=i - 1:=by omega
 rw [e,<- hb];cases b with
 | false=>simp
 | true=>
  by_cases h0:0<i
  ·have h1:0<(i:Int):=by omega
   rw [aX h1];simp only [Bool.not_true,cond_false,cond_true,aV,true_and];exact⟨λh _=>by omega,λh=>by have:=h h0; omega⟩
  ·have h1:¬ 0<(i:Int):=by omega
   rw [aW h1];simp [h0]
theorem zgz{l:List Int}{i:Nat}{b:Bool}(hb:b=dayB (l.getD i 0)):(bif !b then true else bif decide (0<(i:Int)) then decide (l.getD i 0<=l.getD ((i:Int) - 1).toNat 0) else false)=true->¬ (dayB (l.getD i 0)=true/\(0<i->l.getD (i - 1) 0<l.getD i 0)):=λh g=>by
 rw [(zc5 hb).2 g] at h; cases h
def SDy(l:List Int)(i:Nat):KV:=[(0,Con.dayS l),(13,Con.dayS l),(14,.i (l.length:Int)),(15,.i (i:Int)),Z 24,Z 25,Z 26,Z 27,Z 28,Z 29,Z 30,Z 31,Z 32,Z 33,Z 34]
theorem zq5(d:Int):(bif decide (0<=d) then decide (d<=99999) else false)=dayB d:=by
 rw [Bool.eq_iff_iff];simp [dayB]
theorem zmf:zg prog 139 zpo:=by
 refine zm' f139 λl hl O w0 Q hq=> ?_
 replace hq:=hq _ rfl;refine zd.n GDy.h [0,13,14,15,24,25,26,27,28,29,30,31,32,33,34] (.ite (bif decide ((l.length:Int)<1) then true else decide ((100:Int)<l.length)) (.R [.bool false] []) (.leaf (.loop (lps K139 0).1 (lps K139 0).2 [(0,.sl l.length 1 (Con.dayG l)),(13,.sl l.length 1 (Con.dayG l)),(14,.i l.length),(15,.i 0),Z 24,Z 25,Z 26,Z 27,Z 28,Z 29,Z 30,Z 31,Z 32,Z 33,Z 34] []))) ?_;simp only [Tree.holds,zh,inR,lo,hi,aD];refine⟨λh=> ?_,λh=> ?_⟩
 ·have hb:xK l=false:=by
   unfold xK;by_cases h1:1<=l.length
   ·by_cases h2:l.length<=100
    ·rw [aW (by omega),aW (by omega)] at h; cases h
    ·rw [aW h2]; simp
   ·rw [aW h1]; simp
  rw [hb] at hq;exact RetR.scal hq rfl rfl
 have hlen:1<=l.length/\l.length<=100:=by
  by_cases h1:(l.length:Int)<1
  ·rw [aX h1] at h; cases h
  ·rw [aW h1] at h;have:=aC h;omega
 clear h;refine zd.loop (ι:={i:Nat // i<=l.length/\zda l i}) (λi=>SDy l i.1) (λ_=>[]) (λi=>l.length - i.1) ⟨0,aI _,λj hj=>by omega⟩ 0 ?_ ?_ (by kernel_rfl)
 ·exact⟨by simp [SDy,Con.dayS,za],by simp,by kernel_rfl,aI _⟩
 rintro⟨i,hil,hg⟩;refine zd.n GDy.h [0,13,14,15,24,25,26,27,28,29,30,31,32,33,34] (let v1:=l.getD (i:Int).toNat (0:Int)<=99999;.D ((i:Int)<l.length) (.side ((0:Int)<=i/\(i:Int)<l.length) (.side ((!bif decide ((0:Int)<=List.getD l (i:Int).toNat (0:Int)) then decide v1 else false)=false/\decide ((0:Int)<i)=true->inR .i64 (i-1)) (.side ((!bif decide ((0:Int)<=List.getD l (i:Int).toNat (0:Int)) then decide v1 else false)=false/\decide ((0:Int)<i)=true->(0:Int)<=i - (1:Int)/\(i:Int) - (1:Int)<l.length) (.ite (bif !bif decide ((0:Int)<=List.getD l (i:Int).toNat (0:Int)) then decide v1 else false then true else bif decide ((0:Int)<i) then decide (l.getD (i:Int).toNat (0:Int)<=List.getD l (Int.toNat (i-1)) (0:Int)) else false) (.R [.bool false] []) (.S (i+1) (.leaf (.back 0 [(0,.sl l.length 1 (Con.dayG l)),(13,.sl l.length 1 (Con.dayG l)),(14,.i l.length),(15,.i (i+1)),Z 24,Z 25,Z 26,Z 27,Z 28,Z 29,Z 30,Z 31,Z 32,Z 33,Z 34] []))))))) (.R [.bool true] [])) ?_;simp only [Tree.holds,zh,inR,lo,hi,aD];refine⟨λhlt=> ?_,λhge=> ?_⟩
 ·have hlt:i<l.length:=by have:=aB hlt; omega
  refine⟨by omega,λ_=>⟨λh=>(by have:=aB h.2; omega),λ_=>⟨λh=>(by have:=aB h.2; omega),λ_=>⟨λht=> ?_,λht=>⟨by omega,λ_=> ?_⟩⟩⟩⟩⟩
  ·rw [zj3 hlt (zgz (zq5 _) ht)] at hq;exact RetR.scal hq rfl rfl
  ·rw [aP trivial];exact⟨⟨i+1,hlt,UI hg ((zc5 (zq5 _)).1 ht)⟩,by show l.length - (i+1)<l.length - i; omega,by simp [SDy,Con.dayS,za],by simp,by kernel_rfl,aI _⟩
 ·have hge:i=l.length:=by have:=aC hge; omega
  subst hge;rw [zdz hlen.1 hlen.2 hg] at hq;exact RetR.scal hq rfl rfl
def bitB(p q:Int):Bool:=decide (((p.toNat &&& q.toNat:Nat):Int)≠0)
def HHas(p:Int):Heap:=[.box [.i p]]
def hasC:Ctr:=ctrT false false (λp:Int×Int=>[.i p.2,.ptr 0 0]) (λp=>HHas p.1) (λp=>0<=p.1/\p.1<512/\0<=p.2/\p.2<512) (λp r=>r=bitB p.1 p.2) (λp (r:Bool)=>(.bool r,HHas p.1))
theorem zjk:zg prog 134 hasC:=by
 refine zD (fn:=f134) (c:=f134.body.getD .skip) rfl rfl rfl (λh=>by cases h) λp hp O w0 I0 Q hl0 hq=> ?_
 obtain⟨p,q⟩:=p;obtain⟨h1,h2,h3,h4⟩:=hp;replace hq:=hq _ rfl;simp only at h1 h2 h3 h4 hq;refine zd.n zJ [] (.side (((0:Int)<=p/\p<=9223372036854775807)/\(0:Int)<=q/\q<=9223372036854775807) (.R [.bool !decide ((↑(Int.toNat p &&& Int.toNat q):Int)=0)] [.box [.i p]])) ?_;simp only [Tree.holds,zh,inR,lo,hi,aD];refine⟨by omega,λ_=> ?_⟩;refine RetR.keep [0] rfl rfl (by show ∀ j,j<1->_; decide) rfl hq ?_ ?_ rfl
 ·show(!decide (((p.toNat &&& q.toNat:Nat):Int)=0))=bitB p q;simp [bitB]
 ·exact⟨⟨⟨rfl,rfl⟩,trivial⟩,trivial⟩
noncomputable def GNd2:=tb zjk (tb K0 tz)
def zpk(p:Int):Heap:=[.box [.fn 134 [] [.ptr 1 0]],.box [.i p]]
def wD(b:Bool)(s:L8):Bool:=if b=true then qE s else decide (s=[])
def zq9:Ctr:=ctrT false false (λp:Int×Int×L8=>[.i p.2.1,.str p.2.2,.ptr 0 0]) (λp=>zpk p.1) (λp=>0<=p.1/\p.1<512/\0<=p.2.1/\p.2.1<512/\p.2.2.length<2^62) (λp r=>r=wD (bitB p.1 p.2.1) p.2.2) (λp (r:Bool)=>(.bool r,zpk p.1))
abbrev q27(A:List AV)(H:Heap)(x:Int×Int):Prop:=eqL A [.i x.2,.ptr 0 0]/\eqH H [.box [.i x.1]]/\1=1/\(0:Int)<=x.1/\x.1<512/\(0:Int)<=x.2/\x.2<512
theorem zn4:zg prog 135 zq9:=by
 refine zD (fn:=f135) (c:=f135.body.getD .skip) rfl rfl rfl (λh=>by cases h) λp hp O w0 I0 Q hl0 hq=> ?_
 obtain⟨p,q,s⟩:=p;obtain⟨h1,h2,h3,h4,h5⟩:=hp;replace hq:=hq _ rfl;simp only at h1 h2 h3 h4 h5 hq;refine zd.n GNd2.h [] (.ex (q27 [.i q,.ptr 0 0] [.box [.i p]]) λn=>.all (λ(r:Bool)=>r=bitB n.1 n.2) λn_1=>.ex (λ(x:L8)=>n_1=true->q15 [.str s] x) λn_2=>.all (λ(x:Bool)=>n_1=true->x=qE n_2) λn_3=>.ite ((bif n_1 then n_3 else false) == false) (.ex (q27 [.i q,.ptr 0 0] [.box [.i n.1]]) λn=>.all (λ(r:Bool)=>r=bitB n.1 n.2) λn_4=>.R [.bool (bif bif n_1 then n_3 else false then true else bif !n_4 then decide (s=#[].toList) else false)] [.box [.fn 134 [] [.ptr 1 0]],.box [.i n.1]]) (.R [.bool (bif bif n_1 then n_3 else false then true else bif !false then decide (s=#[].toList) else false)] [.box [.fn 134 [] [.ptr 1 0]],.box [.i n.1]])) ?_;simp only [q15,q27,Tree.holds,zh,inR,lo,hi,aD];refine⟨(p,q),⟨⟨⟨rfl,rfl⟩,⟨rfl,rfl⟩,trivial⟩,⟨⟨⟨rfl,rfl⟩,trivial⟩,trivial⟩,trivial,h1,h2,h3,h4⟩,⟨_,rfl⟩,?_⟩;rintro b rfl;refine⟨s,λ_=>⟨⟨rfl,trivial⟩,h5⟩,⟨qE s,λ_=>rfl⟩,λm hm=>⟨λhb=> ?_,λhb=> ?_⟩⟩
 ·refine⟨(p,q),⟨⟨⟨rfl,rfl⟩,⟨rfl,rfl⟩,trivial⟩,⟨⟨⟨rfl,rfl⟩,trivial⟩,trivial⟩,trivial,h1,h2,h3,h4⟩,⟨_,rfl⟩,?_⟩;rintro b rfl;refine RetR.keep [0,1] rfl rfl (by show ∀ j,j<2->_; decide) rfl hq ?_ ?_ rfl
  ·simp only [exp2,exp1,exp0,resV,eqA2,wD];cases hbb:bitB p q with
   | true=>
    have:=hm hbb;rw [hbb] at hb;subst this;have:qE s=false:=by simpa using hb
    rw [this]; rfl
   | false=>simp; rfl
  ·exact⟨⟨rfl,trivial⟩,⟨⟨rfl,rfl⟩,trivial⟩,trivial⟩
 ·refine RetR.keep [0,1] rfl rfl (by show ∀ j,j<2->_; decide) rfl hq ?_ ?_ rfl
  ·simp only [exp2,exp1,exp0,resV,eqA2,wD];cases hbb:bitB p q with
   | true=>
    have:=hm hbb;rw [hbb] at hb;subst this;have:qE s=true:=by simpa using hb
    rw [this]; rfl
   | false=>rw [hbb] at hb; simp at hb
  ·exact⟨⟨rfl,trivial⟩,⟨⟨rfl,rfl⟩,trivial⟩,trivial⟩
noncomputable def GNd:=tb zjk (tb zn4 (tb zrh (tb zji (tb KI (tb VW (tb zmf tz))))))
end Go.Proofs.Tryz
end
section
namespace Go.Sx
variable [Stat]
section
variable {O:Nat->Prop} {pin:Nat} {w0:World} {I0:List SE} {P:Program} {fn:Func} {Xp:List PanicEntry->Prop}
end
end Go.Sx
end
section
namespace Go.Sx
variable [Stat]
section
variable {O:Nat->Prop} {pin:Nat} {w0:World} {I0:List SE} {P:Program} {fn:Func} {Xp:List PanicEntry->Prop}
def ju:Nat->Code->List Item
 | n+1,.seq a b=>.code a::ju n b
 | _,c=>[.code c]
theorem Wx{M:Option Nat}{H:Nat->Act->World->Prop}{B:Exit->Act->World->Prop}{k:List Item}{e:Exit}(he:e≠.normal){a:Act}{w:World} : ∀ (n:Nat) (c:Code),wpK M P H B (ju n c++k) e a w->wpK M P H B k e a w
 | 0,c,h=>by cases c<;>cases e<;>first | exact absurd rfl he | exact h
 | n+1,c,h=>by
  cases c with
  | seq x y=>cases e<;>first | exact absurd rfl he | exact Wx he n y h
  | _=>cases e<;>first | exact absurd rfl he | exact h
theorem ZH{M:Option Nat}{H:Nat->Act->World->Prop}{B:Exit->Act->World->Prop} : ∀ (n:Nat) (c:Code) (k:List Item) (a:Act) (w:World),wpK M P H B (ju n c++k) .normal a w->wpK M P H B (.code c::k) .normal a w
 | 0,c,k,a,w,h=>by cases c<;>exact h
 | n+1,c,k,a,w,h=>by
  cases c with
  | seq x y=>
   simp only [ju,List.cons_append,wpK] at h ⊢;refine wpIn_seq (wpIn_mono h λe a w h=> ?_);cases e with
   | normal=>exact ZH n y k a w h
   | _=>exact Wx (by simp) n y h
  | _=>exact h
theorem zd.spine{M:Option Nat}{Hs:Nat->KV->Heap->Prop}{R:List AV->Heap->Prop}{k:List Item}{c:Code}{st:St}(n:Nat)(h:qj Xp M P fn O pin w0 I0 Hs R (Go.Sx.ju n c++k) st):qj Xp M P fn O pin w0 I0 Hs R (.code c::k) st:=
 λw σ a hm=>ZH n c k a w (h w σ a hm)
def Qf:Item->Bool
 | .inLoop=>false
 | _=>true
theorem kH{M:Option Nat}{H H':Nat->Act->World->Prop}{B:Exit->Act->World->Prop}{k:List Item}(h1:∀ a w,H' (j9 k) a w->wpK M P H B k .normal a w)(h2:∀ d a w,d<j9 k->H' d a w->H d a w) :
  ∀ (ks:List Item),ks.all Qf=true->∀ (e:Exit) (a:Act) (w:World),wpK M P H' B (ks++.inLoop::k) e a w->wpK M P H B (ks++k) e a w
 | [],_,e,a,w,h=>by
  cases e with
  | normal=>exact h1 a w h
  | _=>exact jB (k:=k) (λd a w hd h=>h2 d a w hd h) h
 | .code c::ks,hf,e,a,w,h=>by
  have hf':ks.all Qf=true:=by simpa [Qf] using hf
  cases e with
  | normal=>exact wpIn_mono h λe a w h=>kH h1 h2 ks hf' e a w h
  | _=>exact kH h1 h2 ks hf' _ a w h
 | .inBlock id::ks,hf,e,a,w,h=>by
  have hf':ks.all Qf=true:=by simpa [Qf] using hf
  cases e with
  | normal=>exact kH h1 h2 ks hf' _ a w h
  | exit i=>
   simp only [List.cons_append,wpK] at h ⊢;split at h
   ·rename_i hi; rw [aP hi]; exact kH h1 h2 ks hf' _ a w h
   ·rename_i hi; rw [aO hi]; exact kH h1 h2 ks hf' _ a w h
  | _=>exact kH h1 h2 ks hf' _ a w h
 | .inLoop::ks,hf,e,a,w,h=>by simp [Qf] at hf
theorem zd.cutL{M:Option Nat}{ι:Type}{Hs:Nat->KV->Heap->Prop}{R:List AV->Heap->Prop}{st:St}(L:List Item)(m dk:Nat)(S:ι->KV)(H:ι->Heap)(hf:(L.take m).all Qf=true)(hd:j9 (L.drop m)=dk)
  (h1:qj Xp M P fn O pin w0 I0 (λd kv h=>if d=dk then ∃ x,LeK pin fn.ntmps kv h (S x) (H x) else Hs d kv h) R (L.take m++.inLoop::L.drop m) st)
  (h2:∀ x,qj Xp M P fn O pin w0 I0 Hs R (L.drop m) (mk fn.ntmps (S x) (H x))):qj Xp M P fn O pin w0 I0 Hs R L st:=by
 subst hd;intro w σ a hm;have:=h1 w σ a hm;rw [<- bU m L];refine kH ?_ ?_ (L.take m) hf .normal a w this
 ·rintro a' w' ⟨st',Z',⟨kv,h,hh,rfl⟩,hm'⟩;rw [aP rfl] at hh;obtain⟨x,hle⟩:=hh;exact h2 x w' _ a' (hle.le.mod hm')
 ·rintro d a' w' hd ⟨st',Z',⟨kv,h,hh,rfl⟩,hm'⟩;rw [aO (by omega)] at hh;exact⟨_,Z',⟨kv,h,hh,rfl⟩,hm'⟩
end
end Go.Sx
end
section
set_option maxRecDepth 100000
open Go Go.Sx Go.Proofs Go.Nov
def Go.Nov.Con.p(c:Con):Int:=kK c.kind
namespace Go.Proofs.Tryz
attribute [local simp] eqKV eqA eqA0 eqH eqB eqL eqL0
def zjf:Ctr:=ctrP true (λc:Con=>[c.conA]) (λc=>c.big<2^40) (λc r=>r=c.xN) (λ_ (r:Bool)=>(.bool r,[]))
noncomputable def LN:List Go.Sx.Item:=ju 12 (f97.body.getD .skip)++[]
noncomputable def LN1:List Go.Sx.Item:=LN.drop 6
noncomputable def LN2:List Go.Sx.Item:=LN1.drop 1
noncomputable def LN3:List Go.Sx.Item:=LN2.drop 3
noncomputable def LN4:List Go.Sx.Item:=LN3.drop 1
noncomputable def LN5:List Go.Sx.Item:=LN4.drop 1
def HNd(c:Con):Heap:=[.box c.zi,.box [.i c.p],.box [.fn 134 [] [.ptr 1 0]]]
def SN1:KV:=[(1,.ptr 0 0),(5,.ptr 2 0),(6,.fn 135 [] [.ptr 2 0])]
def SN2(a:Bool):KV:=[(1,.ptr 0 0),(4,.bool a),(5,.ptr 2 0)]
def SN3(a:Bool)(m:Int):KV:=[(1,.ptr 0 0),(4,.bool a),(5,.ptr 2 0),(7,.i m)]
def SN4(a:Bool)(m:Int)(b:Bool):KV:=[(1,.ptr 0 0),(4,.bool a),(5,.ptr 2 0),(7,.i m),(8,.bool b)]
def SN5(a:Bool)(m:Int)(b d:Bool):KV:=[(1,.ptr 0 0),(4,.bool a),(7,.i m),(8,.bool b),(9,.bool d)]
namespace Nd
def words(c:Con):Prop:=wD (bitB c.p 1) c.src=true/\wD (bitB c.p 2) c.dst=true/\wD (bitB c.p 4) c.name=true/\¬ (bitB c.p 2=true/\c.src=c.dst)
def okX(c:Con):Bool:=if bitB c.p 8=true then numX c.x else if bitB c.p 16=true then truX c.x else jf c.x
def subs(c:Con):Int:=if bitB c.p 256=true then 2 else if bitB c.p 128=true then 1 else 0
def right(c:Con):Bool:=if bitB c.p 32=true then dayB c.date else decide (c.date=0)
def list(c:Con):Bool:=if bitB c.p 64=true then xK c.days else decide (c.days.length=0)
end Nd
theorem zdu(k:Int):0<=kK k/\kK k<512:=by
 unfold kK
 repeat' split
 all_goals decide
theorem Vq{c:Con}(hk:1<=c.kind/\c.kind<=10):c.xN=true↔Nd.words c/\Nd.okX c=true/\Nd.right c=true/\Nd.list c=true/\(c.sub.length:Int)=Nd.subs c:=by
 have hr:c.kind=1\/c.kind=2\/c.kind=3\/c.kind=4\/c.kind=5\/c.kind=6\/c.kind=7\/c.kind=8\/c.kind=9\/c.kind=10:=by omega
 unfold Con.xN vG Nd.words Nd.okX Nd.right Nd.list Nd.subs Con.p kK wD bitB;generalize c.kind=k at hr hk;generalize c.src=a;generalize c.dst=b;generalize c.name=n;generalize c.x=x;generalize c.date=d;generalize c.days=l;generalize c.sub.length=m;rcases hr with rfl | rfl | rfl | rfl | rfl | rfl | rfl | rfl | rfl | rfl
 all_goals
  simp;grind
theorem YM{c:Con}(h:¬ ((1<=c.kind/\c.kind<=10)/\Nd.words c)):c.xN=false:=by
 by_cases hk:1<=c.kind/\c.kind<=10
 ·rw [Bool.eq_false_iff];exactλhh=>h ⟨hk,((Vq hk).1 hh).1⟩
 ·unfold Con.xN vG;rw [aO (by omega),aO (by omega),aO (by omega),aO (by omega),aO (by omega),aO (by omega),aO (by omega),aO (by omega),aO (by omega)]
abbrev q30(A:List AV)(x:List Int):Prop:=eqL A [.sl x.length 1 (Con.dayG x)]/\x.length<1099511627776
abbrev q29(A:List AV)(x:Ex):Prop:=eqL A [x.exA]/\Ex.size x<1099511627776/\Ex.z9 x<1099511627776
abbrev q28(A:List AV)(H:Heap)(x:Int×Int×L8):Prop:=eqL A [.i x.2.1,.str x.2.2,.ptr 0 0]/\eqH H [.box [.fn 134 [] [.ptr 1 0]],.box [.i x.1]]/\2=2/\(0:Int)<=x.1/\x.1<512/\(0:Int)<=x.2.1/\x.2.1<512/\x.2.2.length<4611686018427387904
theorem zm9:zg prog 97 zjf:=by
 refine zm' f97 λc hc O w0 Q hq=> ?_
 replace hq:=hq _ rfl;have hb:=hc;rw [Con.yR] at hb;obtain⟨hp0,hp1⟩:=zdu c.kind;refine zd.spine 12 ?_;refine zd.cutL (ι:={u:Unit // (1<=c.kind/\c.kind<=10)/\Nd.words c}) LN 6 0 (λ_=>SN1) (λ_=>HNd c) (by kernel_rfl) (by kernel_rfl) ?_ ?_
 ·refine zd.n GNd.h [1,5,6] (let v9:=[AV.i 2,AV.str c.dst,AV.ptr 0 0];let v8:=[AV.i 1,AV.str c.src,AV.ptr 0 0];let v7:=[AV.i 4,AV.str c.name,AV.ptr 0 0];let v6:=[AV.i 2,AV.ptr 0 0];let v5:List AV:=[.bool false];let v4:=[AV.fn 134 [] [.ptr 1 0]];let v3:=Con.src c=Con.dst c;let v2:List AV:=[.fn 134 [] [.ptr 1 0]];let v1:List (Nat×AV):=[(1,.ptr 0 0),(5,.ptr 2 0),(6,.fn 135 [] [.ptr 2 0])];.D ((1:Int)<=Con.kind c/\Con.kind c<=10) (.ite false (.R v5 [.box (Con.zi c),.box [.i (kK c.kind)]]) (.ex (q28 v8 [.box v4,.box [.i (kK c.kind)]]) λn=>let v26:=[AV.i n.1];let v17:List Blk:=[.box (Con.zi c),.box [.i n.1],.box v2];.all (λ(r:Bool)=>r=wD (bitB n.1 n.2.1) n.2.2) λn_1=>.ite ((!n_1) == false) (.ex (q28 v9 [.box v4,.box v26]) λn=>let v13:List Blk:=[.box (Con.zi c),.box [.i n.1],.box v2];.all (λ(r:Bool)=>r=wD (bitB n.1 n.2.1) n.2.2) λn_2=>.ite ((bif !n_1 then true else !n_2) == false) (.ex (q28 v7 [.box v4,.box [.i n.1]]) λn=>let v11:List Blk:=[.box (Con.zi c),.box [.i n.1],.box v2];.all (λ(r:Bool)=>r=wD (bitB n.1 n.2.1) n.2.2) λn_3=>.ite ((bif bif !n_1 then true else !n_2 then true else !n_3) == false) (.ex (q27 v6 [.box [.i n.1]]) λn=>let v10:List Blk:=[.box (Con.zi c),.box [.i n.1],.box v2];.all (λ(r:Bool)=>r=bitB n.1 n.2) λn_4=>.ite (bif bif bif !n_1 then true else !n_2 then true else !n_3 then true else bif n_4 then decide v3 else false) (.R v5 v10) (.leaf (.back 0 v1 v10))) (.ite (bif bif bif !n_1 then true else !n_2 then true else !n_3 then true else bif false then decide v3 else false) (.R v5 v11) (.leaf (.back 0 v1 v11)))) (.ite ((bif bif !n_1 then true else !n_2 then true else !false) == false) (.ex (q27 v6 [.box [.i n.1]]) λn=>let v12:List Blk:=[.box (Con.zi c),.box [.i n.1],.box v2];.all (λ(r:Bool)=>r=bitB n.1 n.2) λn_3=>.ite (bif bif bif !n_1 then true else !n_2 then true else !false then true else bif n_3 then decide v3 else false) (.R v5 v12) (.leaf (.back 0 v1 v12))) (.ite (bif bif bif !n_1 then true else !n_2 then true else !false then true else bif false then decide v3 else false) (.R v5 v13) (.leaf (.back 0 v1 v13))))) (.ite ((bif !n_1 then true else !false) == false) (.ex (q28 v7 [.box v4,.box v26]) λn=>let v15:List Blk:=[.box (Con.zi c),.box [.i n.1],.box v2];.all (λ(r:Bool)=>r=wD (bitB n.1 n.2.1) n.2.2) λn_2=>.ite ((bif bif !n_1 then true else !false then true else !n_2) == false) (.ex (q27 v6 [.box [.i n.1]]) λn=>let v14:List Blk:=[.box (Con.zi c),.box [.i n.1],.box v2];.all (λ(r:Bool)=>r=bitB n.1 n.2) λn_3=>.ite (bif bif bif !n_1 then true else !false then true else !n_2 then true else bif n_3 then decide v3 else false) (.R v5 v14) (.leaf (.back 0 v1 v14))) (.ite (bif bif bif !n_1 then true else !false then true else !n_2 then true else bif false then decide v3 else false) (.R v5 v15) (.leaf (.back 0 v1 v15)))) (.ite ((bif bif !n_1 then true else !false then true else !false) == false) (.ex (q27 v6 [.box v26]) λn=>let v16:List Blk:=[.box (Con.zi c),.box [.i n.1],.box v2];.all (λ(r:Bool)=>r=bitB n.1 n.2) λn_2=>.ite (bif bif bif !n_1 then true else !false then true else !false then true else bif n_2 then decide v3 else false) (.R v5 v16) (.leaf (.back 0 v1 v16))) (.ite (bif bif bif !n_1 then true else !false then true else !false then true else bif false then decide v3 else false) (.R v5 v17) (.leaf (.back 0 v1 v17))))))) (.ite true (.R v5 [.box (Con.zi c),.box [.i 0]]) (.ex (q28 v8 [.box v4,.box [.i 0]]) λn=>let v27:=[AV.i n.1];let v25:List Blk:=[.box (Con.zi c),.box [.i n.1],.box v2];.all (λ(r:Bool)=>r=wD (bitB n.1 n.2.1) n.2.2) λn_1=>.ite ((!n_1) == false) (.ex (q28 v9 [.box v4,.box v27]) λn=>let v21:List Blk:=[.box (Con.zi c),.box [.i n.1],.box v2];.all (λ(r:Bool)=>r=wD (bitB n.1 n.2.1) n.2.2) λn_2=>.ite ((bif !n_1 then true else !n_2) == false) (.ex (q28 v7 [.box v4,.box [.i n.1]]) λn=>let v19:List Blk:=[.box (Con.zi c),.box [.i n.1],.box v2];.all (λ(r:Bool)=>r=wD (bitB n.1 n.2.1) n.2.2) λn_3=>.ite ((bif bif !n_1 then true else !n_2 then true else !n_3) == false) (.ex (q27 v6 [.box [.i n.1]]) λn=>let v18:List Blk:=[.box (Con.zi c),.box [.i n.1],.box v2];.all (λ(r:Bool)=>r=bitB n.1 n.2) λn_4=>.ite (bif bif bif !n_1 then true else !n_2 then true else !n_3 then true else bif n_4 then decide v3 else false) (.R v5 v18) (.leaf (.back 0 v1 v18))) (.ite (bif bif bif !n_1 then true else !n_2 then true else !n_3 then true else bif false then decide v3 else false) (.R v5 v19) (.leaf (.back 0 v1 v19)))) (.ite ((bif bif !n_1 then true else !n_2 then true else !false) == false) (.ex (q27 v6 [.box [.i n.1]]) λn=>let v20:List Blk:=[.box (Con.zi c),.box [.i n.1],.box v2];.all (λ(r:Bool)=>r=bitB n.1 n.2) λn_3=>.ite (bif bif bif !n_1 then true else !n_2 then true else !false then true else bif n_3 then decide v3 else false) (.R v5 v20) (.leaf (.back 0 v1 v20))) (.ite (bif bif bif !n_1 then true else !n_2 then true else !false then true else bif false then decide v3 else false) (.R v5 v21) (.leaf (.back 0 v1 v21))))) (.ite ((bif !n_1 then true else !false) == false) (.ex (q28 v7 [.box v4,.box v27]) λn=>let v23:List Blk:=[.box (Con.zi c),.box [.i n.1],.box v2];.all (λ(r:Bool)=>r=wD (bitB n.1 n.2.1) n.2.2) λn_2=>.ite ((bif bif !n_1 then true else !false then true else !n_2) == false) (.ex (q27 v6 [.box [.i n.1]]) λn=>let v22:List Blk:=[.box (Con.zi c),.box [.i n.1],.box v2];.all (λ(r:Bool)=>r=bitB n.1 n.2) λn_3=>.ite (bif bif bif !n_1 then true else !false then true else !n_2 then true else bif n_3 then decide v3 else false) (.R v5 v22) (.leaf (.back 0 v1 v22))) (.ite (bif bif bif !n_1 then true else !false then true else !n_2 then true else bif false then decide v3 else false) (.R v5 v23) (.leaf (.back 0 v1 v23)))) (.ite ((bif bif !n_1 then true else !false then true else !false) == false) (.ex (q27 v6 [.box v27]) λn=>let v24:List Blk:=[.box (Con.zi c),.box [.i n.1],.box v2];.all (λ(r:Bool)=>r=bitB n.1 n.2) λn_2=>.ite (bif bif bif !n_1 then true else !false then true else !false then true else bif n_2 then decide v3 else false) (.R v5 v24) (.leaf (.back 0 v1 v24))) (.ite (bif bif bif !n_1 then true else !false then true else !false then true else bif false then decide v3 else false) (.R v5 v25) (.leaf (.back 0 v1 v25)))))))) ?_;simp only [q27,q28,Tree.holds,zh,inR,lo,hi,aD];obtain⟨b1,e1⟩:∃ b,wD (bitB c.p 1) c.src=b:=⟨_,rfl⟩;obtain⟨b2,e2⟩:∃ b,wD (bitB c.p 2) c.dst=b:=⟨_,rfl⟩;obtain⟨b3,e3⟩:∃ b,wD (bitB c.p 4) c.name=b:=⟨_,rfl⟩;obtain⟨b4,e4⟩:∃ b,bitB c.p 2=b:=⟨_,rfl⟩;obtain⟨b5,e5⟩:∃ b,decide (c.src=c.dst)=b:=⟨_,rfl⟩
  have hbad:¬ ((1<=c.kind/\c.kind<=10)/\Nd.words c)->∀ h,RetR zjf 0 Q [.bool false] h:=λhn h=>by
   have:c.xN=false:=YM hn;rw [this] at hq;exact RetR.scal hq rfl (by simp [resV])
  refine⟨λhk=>⟨λh=>(by cases h),λ_=> ?_⟩,λhk=> ?_⟩
  ·have hk:=aB hk;refine⟨(c.p,1,c.src),⟨by simp,by simp [Con.p],trivial,hp0,hp1,(by simp only; omega),(by simp only; omega),by simp only; omega⟩,⟨_,rfl⟩,?_⟩;rintro _ rfl;simp only [e1];cases b1 with
   | false=>exact⟨λh=>by simp at h,λ_=>⟨λh=>by simp at h,λ_=>⟨λh=>by simp at h,λ_=>⟨λ_=>hbad (λh=>by have:=h.2.1; rw [e1] at this; cases this) _,λh=>by simp at h⟩⟩⟩⟩
   | true=>
   refine⟨λ_=> ?_,λh=>by simp at h⟩;refine⟨(c.p,2,c.dst),⟨by simp,by simp [Con.p],trivial,hp0,hp1,(by simp only; omega),(by simp only; omega),by simp only; omega⟩,⟨_,rfl⟩,?_⟩;rintro _ rfl;simp only [e2];cases b2 with
   | false=>exact⟨λh=>by simp at h,λ_=>⟨λh=>by simp at h,λ_=>⟨λ_=>hbad (λh=>by have:=h.2.2.1; rw [e2] at this; cases this) _,λh=>by simp at h⟩⟩⟩
   | true=>
   refine⟨λ_=> ?_,λh=>by simp at h⟩;refine⟨(c.p,4,c.name),⟨by simp,by simp [Con.p],trivial,hp0,hp1,(by simp only; omega),(by simp only; omega),by simp only; omega⟩,⟨_,rfl⟩,?_⟩;rintro _ rfl;simp only [e3];cases b3 with
   | false=>exact⟨λh=>by simp at h,λ_=>⟨λ_=>hbad (λh=>by have:=h.2.2.2.1; rw [e3] at this; cases this) _,λh=>by simp at h⟩⟩
   | true=>
   refine⟨λ_=> ?_,λh=>by simp at h⟩;refine⟨(c.p,2),⟨by simp,by simp [Con.p],trivial,hp0,hp1,(by simp only; omega),(by simp only; omega)⟩,⟨_,rfl⟩,?_⟩;rintro _ rfl;simp only [e4];refine⟨λh=> ?_,λh=> ?_⟩
   ·refine hbad (λhn=>hn.2.2.2.2 ?_) _;cases b4 with
    | false=>simp at h
    | true=>exact⟨e4,by simpa using h⟩
   ·rw [aP trivial];refine⟨⟨(),hk,e1,e2,e3,λhh=> ?_⟩,by simp [SN1],⟨zO c,⟨⟨rfl,rfl⟩,trivial⟩,⟨rfl,trivial⟩,trivial⟩,by kernel_rfl,aI _⟩;rw [e4] at hh;rw [hh.1] at h;simp [hh.2] at h
  ·have hk:=aC hk;refine⟨λ_=>hbad (λh=>hk h.1) _,λh=>by cases h⟩
 ·rintro⟨_,hk,hw⟩;show zN none prog f97 O 0 w0 [] _ _ LN1 _;refine zd.cutL (ι:=Unit) LN1 1 0 (λ_=>SN2 (Nd.okX c)) (λ_=>HNd c) (by kernel_rfl) (by kernel_rfl) ?_ ?_
  ·refine zd.n GNd.h [1,4,5] (.ex (q27 [.i 8,.ptr 0 0] [.box [.i (Con.p c)]]) λn=>.all (λ(r:Bool)=>r=bitB n.1 n.2) λn_1=>.ite n_1 (.ex (q29 [(Ex.exA c.x)]) λn_2=>.all (λ(r:Bool)=>r=(decide (Ex.errX n_2=0)&&decide (Ex.z8 n_2=1))) λn_3=>.leaf (.back 0 [(1,.ptr 0 0),(4,.bool n_3),(5,.ptr 2 0)] [.box (Con.zi c),.box [.i n.1],.box [.fn 134 [] [.ptr 1 0]]])) (.ex (q27 [.i 16,.ptr 0 0] [.box [.i n.1]]) λn=>let v1:List Blk:=[.box (Con.zi c),.box [.i n.1],.box [.fn 134 [] [.ptr 1 0]]];.all (λ(r:Bool)=>r=bitB n.1 n.2) λn_2=>.ite n_2 (.ex (q29 [(Ex.exA c.x)]) λn_3=>.all (λ(r:Bool)=>r=(decide (Ex.errX n_3=0)&&decide (Ex.z8 n_3=2))) λn_4=>.leaf (.back 0 [(1,.ptr 0 0),(4,.bool n_4),(5,.ptr 2 0)] v1)) (.ex (q25 [(Ex.exA c.x)]) λn_3=>.all (λ(r:Bool)=>r=jf n_3) λn_4=>.leaf (.back 0 [(1,.ptr 0 0),(4,.bool n_4),(5,.ptr 2 0)] v1)))) ?_;simp only [q25,q27,q29,Tree.holds,zh,inR,lo,hi,aD];have hx1:c.x.size<2^40:=by omega
   have hx2:c.x.z9<2^40:=by omega
   have leaf:∀ b,b=Nd.okX c->LeK 0 f97.ntmps [(1,.ptr 0 0),(4,.bool b),(5,.ptr 2 0)] (HNd c) (SN2 (Nd.okX c)) (HNd c):=λb hb=>by
    subst hb;exact⟨by simp [SN2],⟨zO c,⟨⟨rfl,rfl⟩,trivial⟩,⟨rfl,trivial⟩,trivial⟩,by kernel_rfl,aI _⟩
   refine⟨(c.p,8),⟨by simp,by simp,trivial,hp0,hp1,(by simp only; omega),(by simp only; omega)⟩,⟨_,rfl⟩,?_⟩;rintro _ rfl;refine⟨λh=> ?_,λh=> ?_⟩
   ·refine⟨c.x,⟨(by first | exact⟨wW _,trivial⟩ | simp [za]),hx1,hx2⟩,⟨_,rfl⟩,?_⟩;rintro _ rfl;rw [aP trivial];exact⟨(),leaf _ (by unfold Nd.okX; rw [aP h]; rfl)⟩
   ·have h8:¬ bitB c.p 8=true:=by simpa using h
    refine⟨(c.p,16),⟨by simp,by simp,trivial,hp0,hp1,(by simp only; omega),(by simp only; omega)⟩,⟨_,rfl⟩,?_⟩;rintro _ rfl;refine⟨λh=> ?_,λh=> ?_⟩
    ·refine⟨c.x,⟨(by first | exact⟨wW _,trivial⟩ | simp [za]),hx1,hx2⟩,⟨_,rfl⟩,?_⟩;rintro _ rfl;rw [aP trivial];exact⟨(),leaf _ (by unfold Nd.okX; rw [aO h8,aP h]; rfl)⟩
    ·refine⟨c.x,⟨(by first | exact⟨wW _,trivial⟩ | simp [za]),trivial⟩,⟨_,rfl⟩,?_⟩;rintro _ rfl;rw [aP trivial];exact⟨(),leaf _ (by unfold Nd.okX; rw [aO h8,aO (by simpa using h)])⟩
  ·rintro⟨⟩;obtain⟨a,ea⟩:∃ a,Nd.okX c=a:=⟨_,rfl⟩;rw [ea];show zN none prog f97 O 0 w0 [] _ _ LN2 _;refine zd.cutL (ι:=Unit) LN2 3 0 (λ_=>SN3 a (Nd.subs c)) (λ_=>HNd c) (by kernel_rfl) (by kernel_rfl) ?_ ?_
   ·refine zd.n GNd.h [1,4,5,7] (let v4:List (Nat×AV):=[(1,.ptr 0 0),(4,.bool a),(5,.ptr 2 0),(7,.i 2)];.ex (q27 [.i 128,.ptr 0 0] [.box [.i (Con.p c)]]) λn=>let v1:=q27 [.i 256,.ptr 0 0] [.box [.i n.1]];.all (λ(r:Bool)=>r=bitB n.1 n.2) λn_1=>.ite n_1 (.ex v1 λn=>let v2:List Blk:=[.box (Con.zi c),.box [.i n.1],.box [.fn 134 [] [.ptr 1 0]]];.all (λ(r:Bool)=>r=bitB n.1 n.2) λn_2=>.ite n_2 (.leaf (.back 0 v4 v2)) (.leaf (.back 0 [(1,.ptr 0 0),(4,.bool a),(5,.ptr 2 0),(7,.i 1)] v2))) (.ex v1 λn=>let v3:List Blk:=[.box (Con.zi c),.box [.i n.1],.box [.fn 134 [] [.ptr 1 0]]];.all (λ(r:Bool)=>r=bitB n.1 n.2) λn_2=>.ite n_2 (.leaf (.back 0 v4 v3)) (.leaf (.back 0 [(1,.ptr 0 0),(4,.bool a),(5,.ptr 2 0),(7,.i 0)] v3)))) ?_;simp only [q27,Tree.holds,zh,inR,lo,hi,aD]
    have leaf:∀ m:Int,m=Nd.subs c->LeK 0 f97.ntmps [(1,.ptr 0 0),(4,.bool a),(5,.ptr 2 0),(7,.i m)] (HNd c) (SN3 a (Nd.subs c)) (HNd c):=λm hm=>by
     subst hm;exact⟨by simp [SN3],⟨zO c,⟨⟨rfl,rfl⟩,trivial⟩,⟨rfl,trivial⟩,trivial⟩,by kernel_rfl,aI _⟩
    refine⟨(c.p,128),⟨by simp,by simp,trivial,hp0,hp1,(by simp only; omega),(by simp only; omega)⟩,⟨_,rfl⟩,?_⟩;rintro _ rfl;refine⟨λh1=> ?_,λh1=> ?_⟩
    all_goals
     refine⟨(c.p,256),⟨by simp,by simp,trivial,hp0,hp1,(by simp only; omega),(by simp only; omega)⟩,⟨_,rfl⟩,?_⟩;rintro _ rfl;refine⟨λh2=> ?_,λh2=> ?_⟩
     all_goals
      rw [aP trivial];simp only at h1 h2;exact⟨(),leaf _ (by unfold Nd.subs; simp [h1,h2])⟩
   ·rintro⟨⟩;show zN none prog f97 O 0 w0 [] _ _ LN3 _;obtain⟨m,em⟩:∃ m,Nd.subs c=m:=⟨_,rfl⟩;rw [em];refine zd.cutL (ι:=Unit) LN3 1 0 (λ_=>SN4 a m (Nd.right c)) (λ_=>HNd c) (by kernel_rfl) (by kernel_rfl) ?_ ?_
    ·refine zd.n GNd.h [1,4,5,7,8] (let v1:=Con.date c<=99999;.ex (q27 [.i 32,.ptr 0 0] [.box [.i (Con.p c)]]) λn=>.all (λ(r:Bool)=>r=bitB n.1 n.2) λn_1=>.ite ((bif n_1 then bif decide ((0:Int)<=Con.date c) then decide v1 else false else false) == false) (.ex (q27 [.i 32,.ptr 0 0] [.box [.i n.1]]) λn=>.all (λ(r:Bool)=>r=bitB n.1 n.2) λn_2=>.leaf (.back 0 [(1,.ptr 0 0),(4,.bool a),(5,.ptr 2 0),(7,.i m),(8,.bool (bif bif n_1 then bif decide ((0:Int)<=Con.date c) then decide v1 else false else false then true else bif !n_2 then decide (Con.date c=0) else false))] [.box (Con.zi c),.box [.i n.1],.box [.fn 134 [] [.ptr 1 0]]])) (.leaf (.back 0 [(1,.ptr 0 0),(4,.bool a),(5,.ptr 2 0),(7,.i m),(8,.bool (bif bif n_1 then bif decide ((0:Int)<=Con.date c) then decide v1 else false else false then true else bif !false then decide (Con.date c=0) else false))] [.box (Con.zi c),.box [.i n.1],.box [.fn 134 [] [.ptr 1 0]]]))) ?_;simp only [q27,Tree.holds,zh,inR,lo,hi,aD]
     have leaf:∀ b,b=Nd.right c->LeK 0 f97.ntmps [(1,.ptr 0 0),(4,.bool a),(5,.ptr 2 0),(7,.i m),(8,.bool b)] (HNd c) (SN4 a m (Nd.right c)) (HNd c):=λb hb=>by
      subst hb;exact⟨by simp [SN4],⟨zO c,⟨⟨rfl,rfl⟩,trivial⟩,⟨rfl,trivial⟩,trivial⟩,by kernel_rfl,aI _⟩
     refine⟨(c.p,32),⟨by simp,by simp,trivial,hp0,hp1,(by simp only; omega),(by simp only; omega)⟩,⟨_,rfl⟩,?_⟩;rintro _ rfl;refine⟨λh1=> ?_,λh1=> ?_⟩
     ·refine⟨(c.p,32),⟨by simp,by simp,trivial,hp0,hp1,(by simp only; omega),(by simp only; omega)⟩,⟨_,rfl⟩,?_⟩;rintro _ rfl;rw [aP trivial];refine⟨(),leaf _ ?_⟩;unfold Nd.right dayB;simp only;cases bitB c.p 32<;>simp [Bool.cond_eq_ite]
     ·rw [aP trivial];refine⟨(),leaf _ ?_⟩;unfold Nd.right dayB;simp only at h1 ⊢
      revert h1
      cases bitB c.p 32<;>simp [Bool.cond_eq_ite]
      exactλh1 h2 _=>⟨h1,h2⟩
    ·rintro⟨⟩;show zN none prog f97 O 0 w0 [] _ _ LN4 _;obtain⟨b,eb⟩:∃ b,Nd.right c=b:=⟨_,rfl⟩;rw [eb];refine zd.cutL (ι:=Unit) LN4 1 0 (λ_=>SN5 a m b (Nd.list c)) (λ_=>HNd c) (by kernel_rfl) (by kernel_rfl) ?_ ?_
     ·refine zd.n GNd.h [1,4,7,8,9] (.ex (q27 [.i 64,.ptr 0 0] [.box [.i (Con.p c)]]) λn=>.all (λ(r:Bool)=>r=bitB n.1 n.2) λn_1=>.ex (λ(x:List Int)=>n_1=true->q30 [.sl c.days.length 1 (Con.dayG c.days)] x) λn_2=>.all (λ(x:Bool)=>n_1=true->x=xK n_2) λn_3=>.ite ((bif n_1 then n_3 else false) == false) (.ex (q27 [.i 64,.ptr 0 0] [.box [.i n.1]]) λn=>.all (λ(r:Bool)=>r=bitB n.1 n.2) λn_4=>.leaf (.back 0 [(1,.ptr 0 0),(4,.bool a),(7,.i m),(8,.bool b),(9,.bool (bif bif n_1 then n_3 else false then true else bif !n_4 then decide ((c.days.length:Int)=0) else false))] [.box (Con.zi c),.box [.i n.1],.box [.fn 134 [] [.ptr 1 0]]])) (.leaf (.back 0 [(1,.ptr 0 0),(4,.bool a),(7,.i m),(8,.bool b),(9,.bool (bif bif n_1 then n_3 else false then true else bif !false then decide ((c.days.length:Int)=0) else false))] [.box (Con.zi c),.box [.i n.1],.box [.fn 134 [] [.ptr 1 0]]]))) ?_;simp only [q27,q30,Tree.holds,zh,inR,lo,hi,aD]
      have leaf:∀ d,d=Nd.list c->LeK 0 f97.ntmps [(1,.ptr 0 0),(4,.bool a),(7,.i m),(8,.bool b),(9,.bool d)] (HNd c) (SN5 a m b (Nd.list c)) (HNd c):=λd hd=>by
       subst hd;exact⟨by simp [SN5],⟨zO c,⟨⟨rfl,rfl⟩,trivial⟩,⟨rfl,trivial⟩,trivial⟩,by kernel_rfl,aI _⟩
      refine⟨(c.p,64),⟨by simp,by simp,trivial,hp0,hp1,(by simp only; omega),(by simp only; omega)⟩,⟨_,rfl⟩,?_⟩;rintro _ rfl;refine⟨c.days,λ_=>⟨by simp [za],by omega⟩,⟨_,λ_=>rfl⟩,λn hn=> ?_⟩;refine⟨λh1=> ?_,λh1=> ?_⟩
      ·refine⟨(c.p,64),⟨by simp,by simp,trivial,hp0,hp1,(by simp only; omega),(by simp only; omega)⟩,⟨_,rfl⟩,?_⟩;rintro _ rfl;rw [aP trivial];refine⟨(),leaf _ ?_⟩;unfold Nd.list;simp only at hn ⊢
       revert hn
       cases bitB c.p 64<;>simp [Bool.cond_eq_ite]
      ·rw [aP trivial];refine⟨(),leaf _ ?_⟩;unfold Nd.list;simp only at hn h1 ⊢
       revert hn h1
       cases bitB c.p 64<;>simp [Bool.cond_eq_ite]
       intro h2 h3;rw [<- h2,h3];rfl
     ·rintro⟨⟩;show zN none prog f97 O 0 w0 [] _ _ LN5 _;obtain⟨d,ed⟩:∃ d,Nd.list c=d:=⟨_,rfl⟩;rw [ed];refine zd.n GNd.h [1,4,7,8,9] (.R [.bool (bif bif bif a then b else false then d else false then decide ((c.sub.length:Int)=m) else false)] [.box (Con.zi c),.box [.i (Con.p c)],.box [.fn 134 [] [.ptr 1 0]]]) ?_;simp only [Tree.holds,zh,inR,lo,hi,aD]
      have hr:c.xN=(bif bif bif a then b else false then d else false then decide ((c.sub.length:Int)=m) else false):=by
       rw [Bool.eq_iff_iff,Vq hk,ea,em,eb,ed];cases a<;>cases b<;>cases d<;>simp [hw]
      rw [hr] at hq;exact RetR.scal hq rfl (by simp [resV])
end Go.Proofs.Tryz
end
section
set_option maxRecDepth 100000
open Go Go.Sx Go.Proofs Go.Nov
namespace Go.Proofs.Tryz
attribute [local simp] eqKV eqA eqA0 eqH eqB eqL eqL0
end Go.Proofs.Tryz
end
section
namespace Go.Sx
variable [Stat]
section
variable {O:Nat->Prop} {pin:Nat} {w0:World} {I0:List SE} {P:Program} {fn:Func}
def noH(n:Nat):Heap:=.box [.ptr n 0]::List.replicate (n - 1) (.box [])
theorem zbj{n:Nat}(h:1<=n):(noH n).length=n:=by simp [noH]; omega
theorem zf7(n:Nat):∀ b∈noH n,alive b:=by
 intro b hb;unfold noH at hb;rcases aM.1 hb with rfl | hb
 ·trivial
 ·rw [List.eq_of_mem_replicate hb]; trivial
theorem zd.never{M:Option Nat}{Hs:Nat->KV->Heap->Prop}{R:List AV->Heap->Prop}{k:List Item}{kv:KV}{n:Nat}(hn:1<=n):zN M P fn O pin w0 I0 Hs R k (mk fn.ntmps kv (noH n)):=by
 intro w σ a hm;have hl:σ.length=n:=by rw [hm.hp.len]; exact zbj hn
 have h0:σ[0]?=some (σ[0]'(by omega)):=aF _;have hb:=hm.hp.blk 0 _ (.box [.ptr n 0]) h0 rfl;simp only [BRep] at hb;obtain⟨ad,vs,el,_,_,_,q⟩:=hb;simp only [RepL,Rep] at q;obtain⟨v,r,_,⟨e,ad',he,_⟩,_⟩:=q;have:=(aG.1 he).1;omega
open Classical in
theorem zd.zqo{α:Type}{Hs:Nat->KV->Heap->Prop}{R:List AV->Heap->Prop}{k:List Item}{c:Code}{kv:KV}{h:Heap}{tg tp td t n gf:Nat}{cap:List AV}{zs:List AV}(I:List α->Prop)(hc:Kn c tg tp td t=true)(hz:zeroCells P t=some zs)(hn:qg P t=some n)(hzl:zs.length=n)
  (he:∀ args w,(callFunc gf args).run P w = .ok (.enter gf args) w) (av:α->AV) (cs:α->List AV) (hcs:∀ x,cellsOf (av x)=some (cs x)/\(cs x).length=n/\(cs x).all oneA=true/\(cs x).all XF=true) (H Hx:List α->Heap) (X S Sp:List α->Prop) (N pinR:Nat)
  (hg:look kv tg = .fn gf [] cap) (htg:tg<fn.ntmps) (htp:tp<fn.ntmps) (htd:td<fn.ntmps) (hne:td≠tp) (hle:LeK pin fn.ntmps kv h kv (H [])) (hlow:(pk fn.ntmps kv).all (lowB pinR)=true) (hpin:pin<=pinR) (hpos:1<=pinR) (hI:I []) (hlen:∀ pre,(H pre).length=pinR)
  (halive:∀ pre,∀ b∈H pre,alive b) (halivex:∀ pre,∀ b∈Hx pre,alive b)
  (iter:∀ w σ a,Mod O pin w0 I0 w σ (mk fn.ntmps kv (H [])) a->∀ vb,RepL (Own O σ) w cap σ vb->∃ ev:α->Value,SeqStopsK Fence.wide 0 P gf vb.toArray (λx=> #[ev x]) (jx (Own O σ)) S Sp N w/\∀ x,Rep (Own O σ) w (av x) [] (ev x))
  (round:∀ l pre x,I pre->pre.length<N->∀ (W:World) (E1:List SE),zN (some l) P (bare fn) O pinR W E1 (λd kv' h'=>I (pre++[x])/\LeK pinR fn.ntmps [] h' [] (H (pre++[x]))) (λ_ h'=>X (pre++[x])/\LeK pinR fn.ntmps [] h' [] (Hx (pre++[x]))) [.code (xM c),.inLoop] (mk fn.ntmps ((td,.iptr n λo=>(cs x).getD o .undef)::(tp,av x)::kv) (H pre)))
  (done:∀ xs,S xs->I xs->zd P fn O pin w0 I0 Hs R k (mk fn.ntmps kv (H xs)))
  (stop:∀ pre,Sp pre->X pre->(resX P (mk fn.ntmps kv (Hx pre)) fn.results.toList).holds λrs=>R rs (Hx pre)) :
  zd P fn O pin w0 I0 Hs R (.code c::k) (mk fn.ntmps kv h):=by
 refine zd.zj0 hc hz hn hzl he av cs hcs (λpre=>if I pre then H pre else noH pinR) Hx X S Sp N pinR hg htg htp htd hne (by rw [aP hI]; exact hle) hlow hpin (λpre=> ?_) (λpre=> ?_) halivex ?_ ?_ ?_ stop
 ·split
  ·exact hlen pre
  ·exact zbj hpos
 ·split
  ·exact halive pre
  ·exact zf7 _
 ·rw [aP hI]; exact iter
 ·intro l pre x hl W E1;by_cases h1:I pre
  ·simp only [aP h1];intro w σ a hm;refine JZ ?_ (round l pre x h1 hl W E1 w σ a hm);rintro d a' w' ⟨st,Z',⟨kv',h',⟨h2,h3⟩,rfl⟩,hm'⟩;exact⟨_,Z',⟨kv',h',by rw [aP h2]; exact h3,rfl⟩,hm'⟩
  ·simp only [aO h1];exact zd.never (fn:=bare fn) hpos
 ·intro xs hs;by_cases h1:I xs
  ·simp only [aP h1]; exact done xs hs h1
  ·simp only [aO h1]; exact zd.never hpos
end
end Go.Sx
end
section
set_option maxRecDepth 100000
open Go Go.Sx Go.Proofs Go.Nov
namespace Go.Proofs.Tryz
attribute [local simp] eqKV eqA eqA0 eqH eqB eqL eqL0
noncomputable def K68:=Go.Sx.aA f68
def uU:Ctr:=ctrP true (λc:Con=>[c.conA]) (λc=>c.big<2^40/\c.nodes<=1000000) (λc r=>r=c.errC) (λ_ (r:Int)=>(.i r,[]))
noncomputable def GCkk:=tb zla (tb zf8 (tb X1 (tb zm9 tz)))
def HCk(c:Con)(m:Int):Heap:=[.box c.zi,.box [.i m],.box c.zi]
abbrev q31(A:List AV)(x:Con):Prop:=eqL A [(Con.conA x)]/\Con.big x<1099511627776/\Con.nodes x<=1000000
theorem Z4:zg prog 68 uU:=by
 refine zm' f68 λc hc O w0 Q hq=> ?_
 obtain⟨h1,h2⟩:=hc;replace hq:=hq _ rfl;refine zd.n GCkk.h [2,13,14] (.ex (q31 [(Con.conA c)]) λn=>.all (λ(r:Nat)=>r=Con.size n) λn=>.ex (λ(x:Con)=>decide ((500:Int)<n)=false->eqL [(Con.conA c)] [(Con.conA x)]/\Con.big x<1099511627776) λn_1=>.all (λ(x:Nat)=>decide ((500:Int)<n)=false->x=Con.depth n_1) λn_2=>.ite (bif decide ((500:Int)<n) then true else decide ((60:Int)<n_2)) (.R [.i 4] [.box (Con.zi c),.box [.i 4]]) (.ex (λ(x:Con)=>eqL [(Con.conA c)] [(Con.conA x)]/\eqH [] []/\0=0/\True) λn=>.A λn_3=>.leaf (.range (Prod.fst (rfs K68 0)) (Prod.snd (rfs K68 0)) [(2,.ptr 1 0),(13,.fn 132 [] [.ptr 2 0]),Z 14] [.box (Con.zi c),.box [.i 0],.box (Con.zi n)]))) ?_;simp only [q31,Tree.holds,zh];have hq1:(500<c.size\/60<c.depth)->Q (.i 4,[]):=λh=>by unfold Con.errC at hq; rw [aP h] at hq; exact hq
 have hq2:¬ (500<c.size\/60<c.depth)->Q (.i (if c.form=true then 0 else 8),[]):=λh=>by unfold Con.errC at hq; rw [aO h] at hq; exact hq
 refine⟨c,⟨⟨qW c,trivial⟩,h1,h2⟩,⟨_,rfl⟩,?_⟩;rintro _ rfl;refine⟨c,λ_=>⟨⟨qW c,trivial⟩,h1⟩,⟨_,λ_=>rfl⟩,λn hn=> ?_⟩
 have key:(bif decide (500<(c.size:Int)) then true else decide (60<(n:Int)))=decide (500<c.size\/60<c.depth):=by
  by_cases g:500<c.size
  ·simp [g]; omega
  ·rw [hn (aW (by omega)),Bool.eq_iff_iff]; simp [g]; omega
 rw [key];refine⟨λh=>RetR.scal (hq1 (aB h)) rfl (by simp [resV]),λh=>⟨c,⟨⟨qW c,trivial⟩,trivial,trivial,trivial⟩,⟨(),trivial⟩,λ_ _=> ?_⟩⟩;have hq2:=hq2 (aC h);clear hq hq1
 refine zd.zqo (λpre:List Nat=>∀ i∈pre,(c.all.getD i c).xN=true) (tg:=13) (tp:=14) (td:=3) (t:=39) (n:=12) (zs:=[.int .u8 0,.str [],.str [],.str [],.int .u8 0,.str [],.str [],.i 0,.nils,.i 0,.nils,.nils]) (cap:=[.ptr 2 0]) (gf:=132) (by kernel_rfl) (by kernel_rfl) (by kernel_rfl) rfl (enters_of Tryz.func132 (by kernel_rfl) rfl) (λi:Nat=>(c.all.getD i c).conA) (λi=>(c.all.getD i c).zi) (λi=>⟨rfl,rfl,rfl,rfl⟩) (λ_=>HCk c 0) (λ_=>HCk c 8) (λpre=>¬ c.form=true) (λxs=>xs=List.range c.all.length) (λpre=>pre <+: List.range c.all.length) c.all.length 3
  (by kernel_rfl) (by decide +kernel) (by decide +kernel) (by decide +kernel) (by decide) ⟨by simp,⟨zO c,⟨⟨rfl,rfl⟩,trivial⟩,zO c,trivial⟩,by kernel_rfl,aI _⟩ (by kernel_rfl) (aI _) (by decide) (λi hi=>by cases hi) (λpre=>rfl) (λpre=>by simp [HCk,alive]) (λpre b hb=>by simp [HCk] at hb; rcases hb with rfl | rfl | rfl<;>trivial) ?_ ?_ ?_ ?_
 ·intro w σ a hm vb hvb;exact Jr hm (i:=2) rfl h2 hvb
 ·intro l pre i hI hlen W E1
  have hwt:(c.all.getD i c).big<=c.big/\(c.all.getD i c)∈c.all:=by
   by_cases hi:i<c.all.length
   ·have:(c.all.getD i c)∈c.all:=by simp [List.getD,hi]
    exact⟨Con.QD c _ this,this⟩
   ·have:c.all.getD i c=c:=by simp [List.getD,hi]
    rw [this];exact⟨aJ _,by rw [Con.all_eq]; simp⟩
  obtain⟨e,he⟩:∃ e,c.all.getD i c=e:=⟨_,rfl⟩;rw [he] at hwt ⊢;refine zd.n GCkk.h [2,13,14] (.ex (λ(x:Con)=>eqL [(Con.conA e)] [(Con.conA x)]/\Con.big x<1099511627776) λn=>.all (λ(r:Bool)=>r=Con.xN n) λn=>.ite (!n) (.R [] [.box (Con.zi c),.box [.i 8],.box (Con.zi c)]) (.leaf (.back 0 [(2,.ptr 1 0),(13,.fn 132 [] [.ptr 2 0]),(14,(Con.conA e))] [.box (Con.zi c),.box [.i 0],.box (Con.zi c)]))) ?_;simp only [Tree.holds,zh,inR,lo,hi,aD];refine⟨e,⟨⟨qW e,trivial⟩,by omega⟩,⟨_,rfl⟩,?_⟩;rintro _ rfl;refine⟨λh=>⟨λhf=> ?_,?_⟩,λh=>⟨λj hj=> ?_,?_⟩⟩
  ·rw [Con.W9,bG] at hf;have:=hf e hwt.2;simp [this] at h
  ·exact⟨trivial,⟨zO c,⟨⟨rfl,rfl⟩,trivial⟩,zO c,trivial⟩,by kernel_rfl,aJ _⟩
  ·rcases bZ.1 hj with hj | hj
   ·exact hI j hj
   ·rw [List.mem_singleton.1 hj,he]; simpa using h
  ·exact⟨trivial,⟨zO c,⟨⟨rfl,rfl⟩,trivial⟩,zO c,trivial⟩,by kernel_rfl,aJ _⟩
 ·intro xs hxs hI
  have hform:c.form=true:=by
   rw [Con.W9,bG];intro e hem;obtain⟨j,hj,rfl⟩:=List.getElem_of_mem hem;have:=hI j (by rw [hxs]; simpa using hj);simpa [List.getD,hj] using this
  rw [aP hform] at hq2;refine zd.n GCkk.h [2,13,14] (.R [.i 0] [.box (Con.zi c),.box [.i 0],.box (Con.zi c)]) ?_;simp only [Tree.holds,zh];exact RetR.scal hq2 rfl (by simp [resV])
 ·intro pre hpre hX;rw [aO hX] at hq2;exact(RetR.scal hq2 rfl (by simp [resV]):RetR uU 0 Q [.i 8] (HCk c 8))
end Go.Proofs.Tryz
end
section
namespace Go.Nov
open Go.Sx
theorem zjm(n sz:Nat)(g g':Nat->Nat->AV):eqG (0+n) sz (appG 0 g g') g':=by
 intro j o _ _;simp [appG]
theorem V8{α:Type}{p:α->Bool}(z:α)(l:List α):idxB p l<l.length/\l.find? p=if 0<=idxB p l then some (l.getD (idxB p l).toNat z) else none:=by
 unfold idxB;by_cases h:l.findIdx p<l.length
 ·rw [aP h];refine⟨by omega,?_⟩;rw [aP (by omega),aD];refine zot h ?_ λj hj=> ?_
  ·have:=List.findIdx_getElem (w:=h);simpa [List.getD,h] using this
  ·have:=List.not_of_lt_findIdx hj;have hjl:j<l.length:=by omega
   simpa [List.getD,hjl] using this
 ·rw [aO h];refine⟨by omega,?_⟩;rw [aO (by omega),List.find?_eq_none];intro x hx hpx;exact h (List.findIdx_lt_length_of_exists ⟨x,hx,hpx⟩)
theorem zgc(f:List Fx)(a:L8)(d:Int):idxB (λx=>decide (cmpF x ⟨a,d,[]⟩=0)) f<f.length/\vW f a d=if 0<=idxB (λx=>decide (cmpF x ⟨a,d,[]⟩=0)) f then((f.getD (idxB (λx=>decide (cmpF x ⟨a,d,[]⟩=0)) f).toNat Fx.nil).value,true) else([],false):=by
 obtain⟨h1,h2⟩:=V8 (p:=λx=>decide (cmpF x ⟨a,d,[]⟩=0)) Fx.nil f;refine⟨h1,?_⟩
 have e:(λx:Fx=>decide (x.name=a)&&decide (x.date=d))=λx=>decide (cmpF x ⟨a,d,[]⟩=0):=by
  funext x;rw [<- Bool.decide_and]; exact decide_eq_decide.2 (@zm3 x ⟨a,d,[]⟩).symm
 unfold vW;rw [e,h2];by_cases h:0<=idxB (λx=>decide (cmpF x ⟨a,d,[]⟩=0)) f
 ·rw [aP h,aP h]
 ·rw [aO h,aO h]
theorem Ux(c:List Ch)(a v:L8)(d:Int):idxB (λx=>decide (cmpC x ⟨a,v,d,false⟩=0)) c<c.length/\qo c a v d=if 0<=idxB (λx=>decide (cmpC x ⟨a,v,d,false⟩=0)) c then(c.getD (idxB (λx=>decide (cmpC x ⟨a,v,d,false⟩=0)) c).toNat Ch.nil).first else false:=by
 obtain⟨h1,h2⟩:=V8 (p:=λx=>decide (cmpC x ⟨a,v,d,false⟩=0)) Ch.nil c;refine⟨h1,?_⟩
 have e:(λx:Ch=>decide (x.qt=a)&&(decide (x.name=v)&&decide (x.date=d)))=λx=>decide (cmpC x ⟨a,v,d,false⟩=0):=by
  funext x;rw [<- Bool.decide_and,<- Bool.decide_and]; exact decide_eq_decide.2 (@zni x ⟨a,v,d,false⟩).symm
 unfold qo;rw [e,h2];by_cases h:0<=idxB (λx=>decide (cmpC x ⟨a,v,d,false⟩=0)) c
 ·rw [aP h,aP h]
 ·rw [aO h,aO h]
end Go.Nov
end
section
set_option maxRecDepth 100000
open Go Go.Sx Go.Proofs Go.Nov
namespace Go.Proofs.Tryz
attribute [local simp] eqKV eqA eqA0 eqH eqB eqL eqL0
noncomputable def K69:=Go.Sx.aA f69
theorem zes(n sz:Nat)(g g':Nat->Nat->AV):eqG (0+n) sz (appG 0 g g') g':=zjm n sz g g'
def zbh:Ctr:=ctrP false (λl:List Int=>[Con.dayS l]) (λl=>l.length<2^40) (λ_ (_:Unit)=>True) (λl _=>(.osl 0 1 0 l.length,[.arr l.length 1 (Con.dayG l)]))
theorem zed:zg prog 99 zbh:=by
 refine X6 (fn:=f99) (c:=f99.body.getD .skip) rfl rfl rfl λl hl O w0 Q hq=> ?_
 replace hq:=hq () trivial;refine zd.n zJ [] (.all (λ(b:Bool)=>0<l.length->b=false) λn=>.ite n (.R [.nils] []) (.side (0=0/\0<=0/\(0+l.length)*8<=140737488355328) (.R [.osl 0 1 0 (0+l.length)] [.arr (0+l.length) 1 (appG 0 (zj 1 []) (Con.dayG l))]))) ?_;simp only [Tree.holds,zh];refine⟨⟨false,λ_=>rfl⟩,λb hb=>⟨λh=> ?_,λh=>⟨⟨trivial,aJ _,by omega⟩,λ_=> ?_⟩⟩⟩
 ·have h0:l=[]:=by
   rcases bC l.length with h0 | h0
   ·exact aU.1 h0
   ·rw [hb h0] at h; cases h
  subst h0;refine RetR.scal (.inr ⟨.osl 0 1 0 0,[(1,Con.dayG [])],by simp [upA2,upA1,upA0],?_⟩) (r:=.nils) rfl (by simp [resV]);exact hq
 ·refine RetR.outs [0] rfl rfl (.inl hq) (λh=>by cases h) ?_ ?_ rfl
  ·simp [resV,exp2,exp1,exp0,zK,eqA2,eqL1]
  ·exact⟨⟨by omega,rfl,zes _ _ _ _⟩,trivial⟩
def yZ(n:Nat):Ctr:=ctrP false (λc:Con=>[c.conA]) (λc=>c.nodes<n/\c.big<2^38) (λ_ (_:Unit)=>True) (λc _=>(c.conD,[]))
noncomputable def GTw0:=tb zhb (tb zed tz)
noncomputable def GTwc(n:Nat):Nat->Option Ctr:=λf=>if f=69 then some (yZ n) else GTw0.g f
theorem zcr{n:Nat}(ih:zg prog 69 (yZ n)):∀ g c,GTwc n g=some c->zg prog g c:=λg c h=>by
 unfold GTwc at h;split at h
 ·rename_i e; cases h; subst e; exact ih
 ·exact GTw0.h g c h
def STc(c:Con)(i:Nat):KV:=[(1,.ptr 0 0),(2,.ptr 1 0),(3,.osl 3 12 0 i),(15,Con.conS c.sub),(16,.i (c.sub.length:Int)),(17,.i (i:Int))]
def BTc(c:Con)(s:AV):Blk:=.box [.int .u8 c.kind,.str c.src,.str c.dst,.str c.name,.int .u8 c.x.kind,.str c.x.rat,.str c.x.name,.i c.x.date,.sl c.x.sub.length 5 c.x.deep,.i c.date,.osl 2 1 0 c.days.length,s]
def BTz:Blk:=.box [.int .u8 0,.str [],.str [],.str [],.int .u8 0,.str [],.str [],.i 0,.nils,.i 0,.nils,.nils]
def RTc(c:Con):List AV:=[c.outD (.sl c.x.sub.length 5 c.x.deep) (.osl 2 1 0 c.days.length) (.osl 3 12 0 c.sub.length)]
def HTc(c:Con)(i:Nat):Heap:=[BTc c (Con.conS c.sub),BTz,.arr c.days.length 1 (Con.dayG c.days),.arr i 12 (Con.conG c.sub)]
theorem zew{s:List Con}{i:Nat} : eqG (i+1) 12 (appG i (Con.conG s) (zf (zj 12 [.int .u8 (s.getD i Con.nil).kind,.str (s.getD i Con.nil).src,.str (s.getD i Con.nil).dst,.str (s.getD i Con.nil).name,.int .u8 (s.getD i Con.nil).x.kind,.str (s.getD i Con.nil).x.rat,.str (s.getD i Con.nil).x.name,.i (s.getD i Con.nil).x.date,.sl (s.getD i Con.nil).x.sub.length 5 (Ex.exG (s.getD i Con.nil).x.sub),.i (s.getD i Con.nil).date,.sl (s.getD i Con.nil).days.length 1 (Con.dayG (s.getD i Con.nil).days),.sl (s.getD i Con.nil).sub.length 12 (s.getD i Con.nil).deep]) 0)) (Con.conG s):=by
 intro j o hj ho;simp only [appG,zf,zj];by_cases h:j<i
 ·rw [aP h]
 ·have:j=i:=by omega
  subst this;rw [aO h];have e:j - j=0:=by omega
  match o,ho with
  | 0,_=>simp [e,Con.conG,Con.cell]
  | 1,_=>simp [e,Con.conG,Con.cell]
  | 2,_=>simp [e,Con.conG,Con.cell]
  | 3,_=>simp [e,Con.conG,Con.cell]
  | 4,_=>simp [e,Con.conG,Con.cell]
  | 5,_=>simp [e,Con.conG,Con.cell]
  | 6,_=>simp [e,Con.conG,Con.cell]
  | 7,_=>simp [e,Con.conG,Con.cell]
  | 8,_=>simp [e,Con.conG,Con.cell]
  | 9,_=>simp [e,Con.conG,Con.cell]
  | 10,_=>simp [e,Con.conG,Con.cell]
  | 11,_=>simp [e,Con.conG,Con.cell]
theorem zbm(n:Nat)(ih:zg prog 69 (yZ n)){O:Nat->Prop}{w0:World}{C:Ctr}{Q:AV×Heap->Prop}(c:Con)(h1:c.nodes<n+1)(h2:c.big<2^38)(hR:∀ h:Heap,h[2]?=some (.arr c.days.length 1 (Con.dayG c.days))->h[3]?=some (.arr c.sub.length 12 (Con.conG c.sub))->RetR C 0 Q (RTc c) h) :
  zd prog f69 O 0 w0 [] (λ_ _ _=>False) (RetR C 0 Q) K69 (entry f69 [c.conA]):=by
 refine zd.n (zcr ih) [1,2,3,15,16,17] (.ex (λ(x:Ex)=>eqL [(Ex.exA c.x)] [x.exA]/\Ex.size x<1099511627776) λn=>.A λn_1=>.ex (q30 [.sl c.days.length 1 (Con.dayG c.days)]) λn_2=>.A λn_3=>.leaf (.loop (lps K69 0).1 (lps K69 0).2 [(1,.ptr 0 0),(2,.ptr 1 0),(3,.nils),(15,.sl c.sub.length 12 (Con.conG c.sub)),(16,.i c.sub.length),(17,.i 0)] [.box [.int .u8 c.kind,.str c.src,.str c.dst,.str c.name,.int .u8 n.kind,.str n.rat,.str n.name,.i n.date,.sl n.sub.length 5 n.deep,.i c.date,.osl 2 1 0 n_2.length,.sl c.sub.length 12 (Con.conG c.sub)],.box [.int .u8 0,.str #[].toList,.str #[].toList,.str #[].toList,.int .u8 0,.str #[].toList,.str #[].toList,.i 0,.nils,.i 0,.nils,.nils],.arr n_2.length 1 (Con.dayG n_2)])) ?_;simp only [q30,Tree.holds,zh,inR,lo,hi,aD];have hb:=h2;rw [Con.yR] at hb;refine⟨c.x,⟨⟨wW c.x,trivial⟩,by show c.x.size<_; omega⟩,⟨(),trivial⟩,λ_ _=>⟨c.days,⟨by simp [za],by omega⟩,⟨(),trivial⟩,λ_ _=> ?_⟩⟩;refine zd.bear 3 12 (Con.conG c.sub) rfl (by decide) (by kernel_rfl) ?_;refine zd.loop (ι:={i:Nat // i<=c.sub.length}) (λi=>STc c i.1) (λi=>HTc c i.1) (λi=>c.sub.length - i.1) ⟨0,aI _⟩ 0 ?_ ?_ (by kernel_rfl)
 ·refine⟨by simp [STc,xE,Con.conS,za],?_,by kernel_rfl,aI _⟩;simp [HTc,BTc,BTz,Con.conS,za]
 ·rintro⟨i,hil⟩;refine zd.n (zcr ih) [1,2,3,15,16,17] (let v3:=Con.conG c.sub;let v2:=List.getD c.sub (i:Int).toNat Con.nil;let v1:List AV:=[.int .u8 c.kind,.str c.src,.str c.dst,.str c.name,.int .u8 (Ex.kind c.x),.str (Ex.rat c.x),.str (Ex.name c.x),.i (Ex.date c.x),.sl (List.length (Ex.sub c.x)) 5 (Ex.deep c.x),.i c.date,.osl 2 1 0 c.days.length,.osl 3 12 0 i];.D ((i:Int)<(c.sub.length:Int)) (.side ((0:Int)<=i/\(i:Int)<(c.sub.length:Int)) (.ex (λ(x:Con)=>eqL [(Con.conD v2)] [(Con.conA x)]/\Con.nodes x<n/\Con.big x<274877906944) λn=>.A λn_1=>.side (0=0/\i<=i/\(i+1)*184<=140737488355328) (.S (i+1) (.leaf (.back 0 [(1,.ptr 0 0),(2,.ptr 1 0),(3,.osl 3 12 0 (i+1)),(15,.sl c.sub.length 12 v3),(16,.i c.sub.length),(17,.i (i+1))] [.box [.int .u8 c.kind,.str c.src,.str c.dst,.str c.name,.int .u8 (Ex.kind c.x),.str (Ex.rat c.x),.str (Ex.name c.x),.i (Ex.date c.x),.sl (List.length (Ex.sub c.x)) 5 (Ex.deep c.x),.i c.date,.osl 2 1 0 c.days.length,.sl c.sub.length 12 v3],.box [.int .u8 0,.str [],.str [],.str [],.int .u8 0,.str [],.str [],.i 0,.nils,.i 0,.nils,.nils],.arr c.days.length 1 (Con.dayG c.days),.arr (i+1) 12 (appG i v3 (zf (zj 12 (Con.zc n)) 0)),.box (Con.zc v2),.arr 1 12 (zj 12 (Con.zc n))]))))) (.R [.agg v1] [.box v1,.box v1,.arr c.days.length 1 (Con.dayG c.days),.arr i 12 v3])) ?_;simp only [Tree.holds,zh,inR,lo,hi,aD];have hlb:=Con.Ju c.sub;refine⟨λhlt=> ?_,λhge=> ?_⟩
  ·have hlt:i<c.sub.length:=by have:=aB hlt; omega
   have g1:=Con.wT hlt;have g2:=Con.JJ hlt;rw [Con.vV] at h1;refine⟨by omega,λ_=>⟨c.sub.getD i Con.nil,⟨⟨qc _,trivial⟩,by omega,by omega⟩,⟨(),trivial⟩,λ_ _=> ?_⟩⟩;refine⟨⟨trivial,aJ _,by omega⟩,λ_=>⟨by omega,λ_=> ?_⟩⟩;rw [aP trivial];refine⟨⟨i+1,hlt⟩,by show c.sub.length - (i+1)<c.sub.length - i; omega,by simp [STc,Con.conS,za],?_,by kernel_rfl,aI _⟩;refine⟨?_,?_,⟨rfl,rfl,za _ _ _⟩,⟨rfl,rfl,zew⟩,trivial⟩
   ·simp [BTc,Con.conS,za]
   ·simp [BTz]
  ·have hge:i=c.sub.length:=by have:=aC hge; omega
   subst hge;exact hR _ rfl rfl
theorem uw(n sz:Nat)(g:Nat->Nat->AV):eqG n sz (zf g 0) g:=λj o _ _=>by simp [zf]
theorem zs4{C:Ctr}{Q:AV×Heap->Prop}{c:Con}{h:Heap}(hC:C.fresh=false)(h2:h[2]?=some (.arr c.days.length 1 (Con.dayG c.days)))(h3:h[3]?=some (.arr c.sub.length 12 (Con.conG c.sub)))(hq:Q (c.conD,[])):RetR C 0 Q (RTc c) h:=by
 refine RetR.out0 hq (λh=>by rw [hC] at h; cases h) ?_;simp only [RTc,Con.outD,resV,exp2,exp1,List.map_cons,List.map_nil,exp0,ren0,zK,frz1,jO,h2,h3,eqA2,eqA,eqL0,eqA0,Con.conD,Con.dayS,Ex.exS,true_and,and_true];simp only [if_true];exact⟨Ex.zQ _,⟨trivial,trivial,uw _ _ _⟩,trivial,trivial,λj o hj ho=>by have:=Con.zQ c j o hj ho; simpa [zf] using this.symm⟩
theorem zce(n:Nat)(ih:zg prog 69 (yZ n)):zg prog 69 (yZ (n+1)):=by
 refine zm' f69 λc hx O w0 Q hq=> ?_
 exact zbm n ih c hx.1 hx.2 λh a b=>zs4 rfl a b (hq () trivial)
theorem zsb(n:Nat):zg prog 69 (yZ n):=by
 induction n with
 | zero=>
  intro args hc Q hq _;simp only [yZ,ctrP] at hq;split at hq
  ·obtain⟨x,⟨_,h,_⟩,_⟩:=hq;exact absurd h (Nat.not_lt_zero _)
  ·exact hq.elim
 | succ n ih=>exact zce n ih
def zhw:Ctr:=ctrP false (λc:Con=>[c.conA]) (λc=>c.big<2^38) (λ_ (_:Unit)=>True) (λc _=>(c.outD (Ex.exS c.x.sub) (.osl 0 1 0 c.days.length) (.sl c.sub.length 12 c.deep),[.arr c.days.length 1 (Con.dayG c.days)]))
theorem zs6:zg prog 69 zhw:=by
 refine zm' f69 λc hx O w0 Q hq=> ?_
 refine zbm c.nodes (zsb _) c (Nat.lt_succ_self _) hx λh a b=> ?_
 replace hq:=hq () trivial;have hl:2<h.length:=(aG.1 a).1;refine RetR.outs [2] rfl (by simp; omega) hq (λh=>by cases h) ?_ ?_ rfl
 ·simp only [RTc,Con.outD,resV,exp2,exp1,List.map_cons,List.map_nil,exp0,ren0,zK,frz1,jO,a,b,eqA2,eqA,eqL0,eqL1,eqA0,Con.dayS,Ex.exS,true_and,and_true];simp only [if_true];refine⟨Ex.zQ _,⟨trivial,trivial,trivial,trivial⟩,?_⟩;show c.sub.length=c.sub.length/\(12:Nat)=12/\eqG c.sub.length 12 (zf (Con.conG c.sub) 0) c.deep;exact⟨rfl,rfl,λj o hj ho=>by have:=Con.zQ c j o hj ho; simpa [zf] using this.symm⟩
 ·simp only [expH,List.map_cons,List.map_nil,List.getD,a,Option.getD_some,expB];exact⟨⟨rfl,rfl,za _ _ _⟩,trivial⟩
def YZ:Ctr:=ctrP false (λc:Con=>[c.conA]) (λc=>c.big<2^38) (λ_ (_:Unit)=>True) (λc _=>(c.conD,[]))
theorem zta:zg prog 69 YZ:=vB Con.nodes zce
end Go.Proofs.Tryz
end
section
namespace Go.Sx
variable [Stat]
variable {P:Program} {fn:Func} {Xp:List PanicEntry->Prop}
def ctrD{X R:Type}(fresh:Bool)(inp:X->List AV)(pre:X->Prop)(yes:X->Bool)(post:X->R->Prop)(out:X->R->AV×Heap)(no:X->AV×Heap):Ctr where
 fresh:=fresh
 spec args hc:=match hc with
  | []=>.ex (λx=>eqL args (inp x)/\pre x) λx=>.ite (yes x) (.all (post x) λr=>.leaf (out x r)) (.leaf (no x))
  | _=>.fail
theorem znr{X R:Type}{fresh:Bool}{inp:X->List AV}{pre:X->Prop}{yes:X->Bool}{post:X->R->Prop}{out:X->R->AV×Heap}{no:X->AV×Heap}{g:Nat}{c:Code}(hf:P.funcs[g]?=some fn)(hb:fn.body=some c) (hn:(fn.name == "runtime.NumGoroutine")=false)
  (H:∀ x,pre x->∀ (O:Nat->Prop) (w0:World) (Q:AV×Heap->Prop),(yes x=true->∀ r,post x r->Q (out x r))->(yes x=false->Q (no x)) ->
   zd P fn O 0 w0 [] (λ_ _ _=>False) (RetR (ctrD fresh inp pre yes post out no) 0 Q) [.code c] (entry fn (inp x))):zg P g (ctrD fresh inp pre yes post out no):=by
 intro args hc Q hq _;simp only [ctrD] at hq;split at hq
 ·obtain⟨x,⟨h1,h4⟩,h5,h6⟩:=hq;refine j6.le h1 (fn_k hf hb hn (λ_=>rfl) λO w0 I0 hl=> ?_);have:I0=[]:=aU.1 (by simpa using hl);subst this;exact H x h4 O w0 Q (λhy r hr=>(h5 hy).2 r hr) h6
 ·exact hq.elim
theorem zd.weak{M:Option Nat}{O:Nat->Prop}{pin:Nat}{w0:World}{I0:List SE}{Hs:Nat->KV->Heap->Prop}{R:List AV->Heap->Prop}{k:List Item}{kv:KV}{h:Heap}{S:KV}{H:Heap}(hle:LeK pin fn.ntmps kv h S H)
  (hs:qj Xp M P fn O pin w0 I0 Hs R k (mk fn.ntmps S H)):qj Xp M P fn O pin w0 I0 Hs R k (mk fn.ntmps kv h):=Safe.le hle.le hs
end Go.Sx
end
section
namespace Go.Nov
def sumS(m:Bool)(x:Nat)(n:Bool)(y:Nat):Bool×Nat:=if m=n then(m,x+y) else if y<=x then(m,x - y) else(n,y - x)
def addI(s t:L8):L8×Int:=if zC s t=0 then wr (sumS (negI s) (numI s) (negI t) (numI t)).1 (sumS (negI s) (numI s) (negI t) (numI t)).2 else([],zC s t)
def subI(s t:L8):L8×Int:=if zC s t=0 then wr (sumS (negI s) (numI s) (!negI t) (numI t)).1 (sumS (negI s) (numI s) (!negI t) (numI t)).2 else([],zC s t)
def mulI(s t:L8):L8×Int:=if zC s t=0 then wr (negI s != negI t) (numI s*numI t) else([],zC s t)
def cmpZ(m:Bool)(x:Nat)(n:Bool)(y:Nat):Int:=if m=true/\n=false then -1 else if n=true/\m=false then 1 else if m=true then cmpN y x else cmpN x y
def VH(s t:L8):Int×Int:=if zC s t=0 then(cmpZ (negI s) (numI s) (negI t) (numI t),0) else(0,zC s t)
theorem Q1{d:Nat}(h:d<10):(byt d).toNat=48+d:=by
 unfold byt;rw [UInt8.toNat_ofNat'];omega
theorem uE{x:Nat}(h:x≠0):txt x=((dec x).map byt).reverse:=aO h
theorem QI{x:Nat}(h:x≠0):(txt x).length=(dec x).length:=by rw [uE h]; simp
theorem zd5{x:Nat}(h:x≠0):allD (txt x):=by
 intro c hc;rw [uE h] at hc;simp only [List.mem_reverse,List.mem_map] at hc;obtain⟨d,hd,rfl⟩:=hc;have:d<10:=Ten.zo x d hd;rw [Q1 this];omega
theorem zql{x:Nat}(h:x≠0):dg (txt x)=dec x:=by
 rw [uE h,dg,List.map_reverse,List.reverse_reverse,List.map_map]
 conv=>rhs; rw [<- List.map_id (dec x)]
 refine List.map_congr_left λd hd=> ?_
 have:d<10:=Ten.zo x d hd;simp only [Function.comp,Q1 this,id];omega
theorem zno{x:Nat}(h:x≠0):numD (txt x)=x:=by
 rw [<- UX,zql h];exact Ten.zq x
theorem y8{x:Nat}(h:x≠0):(txt x).getD 0 0≠48/\(txt x).getD 0 0≠45:=by
 have hl:=KY h;have ht:=zcq hl;have hlt:=dec_lt x ((dec x).length - 1)
 have e:(txt x).getD 0 0=byt ((dec x).getD ((dec x).length - 1) 0):=by
  rw [uE h];simp only [List.getD_eq_getElem?_getD];rw [List.getElem?_reverse (by simpa using hl)];simp [aF (show(dec x).length - 1<(dec x).length by omega)]
 rw [e];have hb:=Q1 hlt;constructor
 ·intro h2;rw [h2] at hb;have:(48:UInt8).toNat=48:=rfl;omega
 ·intro h2;rw [h2] at hb;have:(45:UInt8).toNat=45:=rfl;omega
theorem Kv{x:Nat}(h:x≠0):txt x≠[]:=by
 intro h2;have:=QI h;rw [h2] at this;have:=KY h;simp at *; omega
theorem zeh{x:Nat}(h:x≠0)(neg:Bool):parse (sgn neg (txt x))=(neg,txt x):=by
 cases neg with
 | true=>rfl
 | false=>
  simp only [sgn,Bool.false_eq_true,if_false];have h1:=(y8 h).2;cases ht:txt x with
  | nil=>exact absurd ht (Kv h)
  | cons c b=>
   rw [ht] at h1;have:c≠45:=h1;simp [parse,this]
theorem zj5{x:Nat}(h:x≠0)(neg:Bool):wC neg (txt x)=true:=by
 have h1:=(y8 h).1
 have h2:txt x≠[48]:=by
  intro h2;rw [h2] at h1;exact h1 rfl
 have h3:=Kv h;have h4:(txt x).all isD=true:=zct.2 (zd5 h);simp only [List.getD_eq_getElem?_getD] at h1;simp [wC,h3,h2,h1,h4]
theorem Ql{neg:Bool}{x:Nat}(h:(wr neg x).2=0):errI (wr neg x).1=0/\numI (wr neg x).1=x/\negI (wr neg x).1=(neg&&decide (x≠0)):=by
 unfold wr at h ⊢;by_cases h0:x=0
 ·subst h0;simp only [if_true];refine⟨rfl,rfl,?_⟩;simp [negI,parse]
 ·rw [aO h0] at h ⊢;by_cases h1:1000<(dec x).length
  ·rw [aP h1] at h; cases h
  ·rw [aO h1];simp only [errI,numI,negI,zeh h0,zj5 h0,if_true];rw [QI h0,aO h1];exact⟨rfl,zno h0,by simp [h0]⟩
theorem zak(neg:Bool)(x:Nat):(wr neg x).2=0\/wr neg x=([],14):=by
 unfold wr;split
 ·exact .inl rfl
 ·split
  ·exact .inr rfl
  ·exact .inl rfl
theorem znb(neg:Bool)(b:L8):(sgn neg b).length<=b.length+1:=by
 unfold sgn; split<;>simp
theorem kj(neg:Bool)(x:Nat):(wr neg x).1.length<=1001:=by
 unfold wr;split
 ·simp
 ·rename_i h0;split
  ·simp
  ·rename_i h1;have:=znb neg (txt x);rw [QI h0] at this;simp only;omega
theorem zi9(s t:L8):(addI s t).1.length<=1001:=by
 unfold addI;split
 ·exact kj _ _
 ·simp
theorem zi6(s t:L8):(subI s t).1.length<=1001:=by
 unfold subI;split
 ·exact kj _ _
 ·simp
theorem zlb(s t:L8):(mulI s t).1.length<=1001:=by
 unfold mulI;split
 ·exact kj _ _
 ·simp
theorem zbo(b:Bool)(x:Nat):wr (b&&decide (0<x)) x=wr b x:=by
 unfold wr;by_cases h:x=0
 ·rw [aP h,aP h]
 ·rw [aO h,aO h];have:decide (0<x)=true:=aX (bW h);rw [this,Bool.and_true]
theorem Vp(m:Bool)(x:Nat)(n:Bool):sumS m x n 0=(m,x):=by
 unfold sumS;split
 ·rfl
 ·simp
theorem zec(m:Bool)(x:Nat)(n:Bool)(y:Nat):sumS m x (n&&decide (0<y)) y=sumS m x n y:=by
 by_cases h:y=0
 ·subst h; rw [Vp,Vp]
 ·have:decide (0<y)=true:=aX (bW h);rw [this,Bool.and_true]
theorem zbg(m:Bool)(x:Nat)(n:Bool)(y:Nat):(sumS m x n y).2<=x+y:=by
 unfold sumS;split
 ·exact aJ _
 ·split
  ·simp only; omega
  ·simp only; omega
end Go.Nov
end
section
namespace Go.Nov
def V6(neg:Bool)(x y:Nat):L8:=
 if y/Nat.gcd x y=1 then(wr neg (x/Nat.gcd x y)).1 else(wr neg (x/Nat.gcd x y)).1++[47]++(wr false (y/Nat.gcd x y)).1
def wo(n d:L8):L8×Int:=if zC n d≠0 then([],zC n d) else if numI d=0 then([],16) else(V6 (negI n != negI d) (numI n) (numI d),0)
def wy(a b:L8):Int:=if errR a=0 then errR b else errR a
def numR(a:L8):L8:=(cutR a).1
def denR(a:L8):L8:=if(cutR a).2.2 then(cutR a).2.1 else [49]
def frac(z w:L8×Int):L8×Int:=if z.2≠0\/w.2≠0 then([],14) else wo z.1 w.1
def qx(a b:L8):Int:=if wy a b≠0 then wy a b else if(mulI (numR a) (denR b)).2≠0\/(mulI (numR b) (denR a)).2≠0 then 14 else 0
def addR(a b:L8):L8×Int:=if qx a b≠0 then([],qx a b) else frac (addI (mulI (numR a) (denR b)).1 (mulI (numR b) (denR a)).1) (mulI (denR a) (denR b))
def subR(a b:L8):L8×Int:=if qx a b≠0 then([],qx a b) else frac (subI (mulI (numR a) (denR b)).1 (mulI (numR b) (denR a)).1) (mulI (denR a) (denR b))
def mulR(a b:L8):L8×Int:=if wy a b≠0 then([],wy a b) else frac (mulI (numR a) (numR b)) (mulI (denR a) (denR b))
def cmpR(a b:L8):Int×Int:=if qx a b≠0 then(0,qx a b) else VH (mulI (numR a) (denR b)).1 (mulI (numR b) (denR a)).1
end Go.Nov
namespace Go.Nov
def dmQ(s t:L8):Nat:=if negI s=true/\0<numI s%numI t then numI s/numI t+1 else numI s/numI t
def dmM(s t:L8):Nat:=if negI s=true/\0<numI s%numI t then numI t - numI s%numI t else numI s%numI t
def dmI(s t:L8):L8×L8×Int:=
 if zC s t≠0 then([],[],zC s t) else if numI t=0 then([],[],16) else((wr (negI s != negI t) (dmQ s t)).1,(wr false (dmM s t)).1,0)
theorem zlw{s:L8}(h:errI s=0):∃ k,k<=1000/\numI s<10^k:=by
 obtain⟨_,h1,_,h2⟩:=Jd h;exact⟨_,h2,uP h1⟩
def room(x:Nat):Prop:=(dec x).length<=1000
theorem room_le{x y:Nat}(h:x<=y)(hy:room y):room x:=by
 rcases aR (dec y).length (dec x).length with h1 | h1
 ·have:=Ten.qp h1;omega
 ·exact bP h1 hy
theorem jN{s:L8}(h:errI s=0):room (numI s):=by
 obtain⟨k,h1,h2⟩:=zlw h;exact bP (QN h2) h1
theorem kI{neg:Bool}{x:Nat}(h:room x):(wr neg x).2=0:=by
 unfold wr;split
 ·rfl
 ·rw [aO (by have:(dec x).length<=1000:=h; omega)]
theorem zim{s t:L8}(hs:errI s=0)(ht:numI t≠0):room (dmQ s t):=by
 have h:=jN hs;unfold dmQ;split
 ·rename_i hc;by_cases h1:numI t=1
  ·rw [h1,Nat.mod_one] at hc; omega
  ·refine room_le ?_ h;have h2:numI s/numI t<=numI s/2:=Nat.div_le_div_left (by omega) (by omega);have h3:numI s≠0:=λh0=>by rw [h0,Nat.zero_mod] at hc; omega
   by_cases h4:numI s=1
   ·have:numI s/numI t=0:=Nat.div_eq_of_lt (by omega);omega
   ·omega
 ·exact room_le (Nat.div_le_self _ _) h
theorem zku{s t:L8}(ht:errI t=0)(h0:numI t≠0):room (dmM s t):=by
 have h:=jN ht;have hm:=Nat.mod_lt (numI s) (bW h0);unfold dmM;split
 ·exact room_le (Nat.sub_le _ _) h
 ·exact room_le (by omega) h
end Go.Nov
namespace Go.Nov
theorem xa:wr false 1=([49],0):=by
 have h:dec 1=[1]:=by
  show Ten.canon 1=[1];rw [Ten.jl (by decide)];exact congrArg (1 :: ·) Ten.zU
 simp [wr,h,txt,sgn,byt]
theorem za8{x:Nat}(h:room x):(wr false x).1=[49]↔x=1:=by
 constructor
 ·intro e;have:=(Ql (kI (neg:=false) h)).2.1;rw [e] at this;exact this.symm
 ·rintro rfl;rw [xa]
theorem zis{x:Nat}(h0:x≠0)(h:room x):[45]++(wr false x).1=(wr true x).1:=by
 unfold wr;rw [aO h0,aO h0,aO (by have:(dec x).length<=1000:=h; omega),aO (by have:(dec x).length<=1000:=h; omega)];rfl
theorem uN{t:L8}(h:errI t=0):t=[48]↔numI t=0:=by
 constructor
 ·rintro rfl; rfl
 ·intro h0;obtain⟨neg,b,h1,h2,h3,h4,h5,h6⟩:=KN h;have hb:numD b=0:=by simpa [numI,h2] using h0
  cases b with
  | nil=>exact absurd rfl h5
  | cons c r=>
   have hc:=h4 c (by simp)
   have e:numD (c::r)=(c.toNat - 48)*10^r.length+numD r:=by
    have:=k8 [c] r;simp only [List.singleton_append] at this;rw [this];simp [numD]
   rw [e] at hb
   have hc0:c.toNat=48:=by
    rcases bC (c.toNat - 48) with h7 | h7
    ·omega
    ·have:=Nat.mul_pos h7 (Nat.pow_pos (n:=r.length) (show 0<10 by decide));omega
   have hc1:c=48:=UInt8.toNat_inj.1 (by rw [hc0]; rfl);subst hc1
   have hr:r=[]:=by
    cases r with
    | nil=>rfl
    | cons d r=>
     have:=xl (neg:=neg) (b:=48::d::r) rfl (by simp);rw [this] at h3; cases h3
   subst hr;cases neg with
   | true=>cases h3
   | false=>simpa [sgn] using h1
theorem Yl{s:L8}{b:Bool}{g:Nat}(hs:errI s=0)(h0:g≠0)(hg:room g)(hd:g ∣ numI s):dmI s (wr b g).1=((wr (negI s != b) (numI s/g)).1,[48],0):=by
 obtain⟨h1,h2,h3⟩:=Ql (kI (neg:=b) hg);have hb:negI (wr b g).1=b:=by rw [h3]; simp [h0]
 have he:zC s (wr b g).1=0:=zx.2 ⟨hs,h1⟩;have hm:numI s%g=0:=Nat.mod_eq_zero_of_dvd hd;unfold dmI;rw [aO (by rw [he]; decide),h2,aO h0,hb]
 have hq:dmQ s (wr b g).1=numI s/g:=by
  unfold dmQ;rw [h2,hm,aO (by omega)]
 have hr:dmM s (wr b g).1=0:=by
  unfold dmM;rw [h2,hm,aO (by omega)]
 rw [hq,hr];rfl
theorem YD{s t:L8}(ht:errI t=0)(h0:numI t≠0):Nat.gcd (numI s) (numI t)≠0/\room (Nat.gcd (numI s) (numI t)):=by
 have hp:=bW h0;refine⟨λh=> ?_,room_le (Nat.le_of_dvd hp (Nat.gcd_dvd_right _ _)) (jN ht)⟩;have:=Nat.eq_zero_of_gcd_eq_zero_right h;exact h0 this
theorem zfl(neg:Bool)(x y:Nat):(V6 neg x y).length<=2003:=by
 unfold V6;have h1:=kj neg (x/Nat.gcd x y);have h2:=kj false (y/Nat.gcd x y);split
 ·omega
 ·simp only [bO,aL,List.length_nil]; omega
end Go.Nov
namespace Go.Nov
theorem zhy:errI [49]=0:=rfl
theorem qP{a:L8}(h:errR a=0):errI (numR a)=0/\errI (denR a)=0/\negI (denR a)=false/\numI (denR a)≠0:=by
 unfold errR at h;unfold numR denR;cases hc:(cutR a).2.2 with
 | true=>
  rw [hc] at h;simp only [if_true] at h ⊢;split at h
  ·cases h
  ·rename_i h1;simp only [not_or] at h1;split at h
   ·cases h
   ·rename_i h2;simp only [not_or,Classical.not_not] at h2;refine⟨h2.1,h2.2,by simpa using h1.2.2.1,λh0=> ?_⟩;exact h1.2.2.2.1 ((uN h2.2).2 h0)
 | false=>
  rw [hc] at h;simp only [Bool.false_eq_true,if_false] at h ⊢
  have:(cutR a).1=a:=by
   unfold cutR at hc ⊢;split at hc
   ·cases hc
   ·rename_i hn; rw [aO hn]
  rw [this];exact⟨h,zhy,rfl,by decide⟩
theorem Yu(a:L8):(numR a).length<=a.length:=(KO a).1
theorem Yr(a:L8):(denR a).length<=a.length+1:=by
 unfold denR;split
 ·exact bP (KO a).2 (Nat.le_succ _)
 ·simp
theorem ky{s t:L8}(h:zC s t=0):(mulI s t).2=0/\errI (mulI s t).1=0\/mulI s t=([],14):=by
 unfold mulI;rw [aP h];exact(zak _ _).imp (λh=>⟨h,(Ql h).1⟩) id
theorem zgx{s t:L8}(h:zC s t=0):(addI s t).2=0/\errI (addI s t).1=0\/addI s t=([],14):=by
 unfold addI;rw [aP h];exact(zak _ _).imp (λh=>⟨h,(Ql h).1⟩) id
theorem zlu{s t:L8}(h:zC s t=0):(subI s t).2=0/\errI (subI s t).1=0\/subI s t=([],14):=by
 unfold subI;rw [aP h];exact(zak _ _).imp (λh=>⟨h,(Ql h).1⟩) id
end Go.Nov
namespace Go.Nov
def stp(e:Int)(f:L8->L8->L8×Int)(x y:L8):L8×Int:=if e≠0 then([],e) else f x y
theorem zoi{e:Int}{f:L8->L8->L8×Int}{x y:L8}(h:(f x y).1.length<=1001):(stp e f x y).1.length<=1001:=by
 unfold stp;split
 ·simp
 ·exact h
theorem q7{e:Int}(h:e≠0)(f:L8->L8->L8×Int)(x y:L8):stp e f x y=([],e):=aP h
theorem wV(f:L8->L8->L8×Int)(x y:L8):stp 0 f x y=f x y:=aO (by simp)
def Wc(f:L8->L8->L8×Int)(a b:L8):L8×Int:=
 if qx a b≠0 then([],qx a b) else frac (f (mulI (numR a) (denR b)).1 (mulI (numR b) (denR a)).1) (mulI (denR a) (denR b))
section
variable {a b n m d c:L8} {e:Int} (hp:(e≠0/\wy a b=e)\/(e=0/\errR a=0/\errR b=0/\n=numR a/\m=numR b/\d=denR a/\c=denR b))
include hp
theorem Qq{f:L8->L8->L8×Int}(hf:∀ {s t:L8},zC s t=0->(f s t).2=0/\errI (f s t).1=0\/f s t=([],14)){r1 r2 r3 r4 r5:L8×Int}
  (h1:r1=stp e mulI n c) (h2:r2=stp r1.2 mulI m d) (h3:r3=stp r2.2 f r1.1 r2.1) (h4:r4=stp r3.2 mulI d c) (h5:r5=stp r4.2 wo r3.1 r4.1):r5=Wc f a b:=by
 rcases hp with ⟨he,h2e⟩ | ⟨rfl,ha,hb,rfl,rfl,rfl,rfl⟩
 ·have hc:qx a b=e:=by unfold qx; rw [aP (by rw [h2e]; exact he)]; exact h2e
  unfold Wc;rw [hc,aP he];rw [q7 he] at h1;subst h1;rw [q7 he] at h2;subst h2;rw [q7 he] at h3;subst h3;rw [q7 he] at h4;subst h4;rw [h5,q7 he]
 ·obtain⟨a1,a2,_⟩:=qP ha;obtain⟨b1,b2,_⟩:=qP hb;have he2:wy a b=0:=by unfold wy; rw [aP ha]; exact hb
  have e14:(14:Int)≠0:=by decide
  rw [wV] at h1;have hc:qx a b=if(mulI (numR a) (denR b)).2≠0\/(mulI (numR b) (denR a)).2≠0 then 14 else 0:=by unfold qx; rw [aO (by rw [he2]; simp)]
  rcases ky (zx.2 ⟨a1,b2⟩) with ⟨g1,k1⟩ | g1
  ·rw [<- h1] at g1 k1;rw [g1,wV] at h2;rcases ky (zx.2 ⟨b1,a2⟩) with ⟨g2,k2⟩ | g2
   ·rw [<- h2] at g2 k2;rw [g2,wV] at h3;have hc0:qx a b=0:=by rw [hc,aO]; rw [<- h1,<- h2,g1,g2]; simp
    unfold Wc;rw [hc0,aO (by simp),<- h1,<- h2,<- h3];rcases hf (zx.2 ⟨k1,k2⟩) with ⟨g3,k3⟩ | g3
    ·rw [<- h3] at g3 k3;rw [g3,wV] at h4;unfold frac;rw [<- h4,h5];rcases ky (zx.2 ⟨a2,b2⟩) with ⟨g4,k4⟩ | g4
     ·rw [<- h4] at g4;rw [g3,g4,aO (by simp),wV]
     ·rw [<- h4] at g4;rw [g4,aP (by simp),q7 e14]
    ·rw [<- h3] at g3;have q4:r4=([],14):=by rw [h4,g3]; exact q7 e14 _ _ _
     unfold frac;rw [aP (by rw [g3]; simp),h5,q4,q7 e14]
   ·rw [<- h2] at g2;have hc0:qx a b=14:=by rw [hc,aP]; rw [<- h2,g2]; simp
    unfold Wc;rw [hc0,aP e14];have q3:r3=([],14):=by rw [h3,g2]; exact q7 e14 _ _ _
    have q4:r4=([],14):=by rw [h4,q3]; exact q7 e14 _ _ _
    rw [h5,q4,q7 e14]
  ·rw [<- h1] at g1;have hc0:qx a b=14:=by rw [hc,aP]; rw [<- h1,g1]; simp
   unfold Wc;rw [hc0,aP e14];have q2:r2=([],14):=by rw [h2,g1]; exact q7 e14 _ _ _
   have q3:r3=([],14):=by rw [h3,q2]; exact q7 e14 _ _ _
   have q4:r4=([],14):=by rw [h4,q3]; exact q7 e14 _ _ _
   rw [h5,q4,q7 e14]
theorem zfv{x y z w:L8}{r1 r2 r3:L8×Int}(h1:r1=stp e mulI x y)(h2:r2=stp r1.2 mulI z w)(h3:r3=stp r2.2 wo r1.1 r2.1)
  (hv:errR a=0->errR b=0->zC x y=0/\zC z w=0):r3=if wy a b≠0 then([],wy a b) else frac (mulI x y) (mulI z w):=by
 rcases hp with ⟨he,h2e⟩ | ⟨rfl,ha,hb,_⟩
 ·rw [h2e,aP he];rw [q7 he] at h1;subst h1;rw [q7 he] at h2;subst h2;rw [h3,q7 he]
 ·obtain⟨v1,v2⟩:=hv ha hb;have he2:wy a b=0:=by unfold wy; rw [aP ha]; exact hb
  have e14:(14:Int)≠0:=by decide
  rw [he2,aO (by simp)];rw [wV] at h1;unfold frac;rcases ky v1 with ⟨g1,_⟩ | g1
  ·rw [<- h1] at g1 ⊢;rw [g1,wV] at h2;rcases ky v2 with ⟨g2,_⟩ | g2
   ·rw [<- h2] at g2 ⊢;rw [g1,g2,aO (by simp),h3,g2,wV]
   ·rw [<- h2] at g2 ⊢;rw [g2,aP (by simp),h3,g2,q7 e14]
  ·rw [<- h1] at g1 ⊢;have q2:r2=([],14):=by rw [h2,g1]; exact q7 e14 _ _ _
   rw [g1,aP (by simp),h3,q2,q7 e14]
theorem zf0{r1 r2:L8×Int}(h1:r1=stp e mulI n c)(h2:r2=stp r1.2 mulI m d):(if r2.2≠0 then(0,r2.2) else VH r1.1 r2.1)=cmpR a b:=by
 unfold cmpR;rcases hp with ⟨he,h2e⟩ | ⟨rfl,ha,hb,rfl,rfl,rfl,rfl⟩
 ·have hc:qx a b=e:=by unfold qx; rw [aP (by rw [h2e]; exact he)]; exact h2e
  rw [q7 he] at h1;subst h1;rw [q7 he] at h2;subst h2;rw [hc,aP he,aP he]
 ·obtain⟨a1,a2,_⟩:=qP ha;obtain⟨b1,b2,_⟩:=qP hb;have he2:wy a b=0:=by unfold wy; rw [aP ha]; exact hb
  have e14:(14:Int)≠0:=by decide
  have hc:qx a b=if(mulI (numR a) (denR b)).2≠0\/(mulI (numR b) (denR a)).2≠0 then 14 else 0:=by unfold qx; rw [aO (by rw [he2]; simp)]
  rw [wV] at h1;rcases ky (zx.2 ⟨a1,b2⟩) with ⟨g1,k1⟩ | g1
  ·rw [<- h1] at g1;rw [g1,wV] at h2;rcases ky (zx.2 ⟨b1,a2⟩) with ⟨g2,k2⟩ | g2
   ·rw [<- h2] at g2;have hc0:qx a b=0:=by rw [hc,aO]; rw [<- h1,<- h2,g1,g2]; simp
    rw [hc0,aO (by rw [g2]; simp),aO (by simp),<- h1,<- h2]
   ·rw [<- h2] at g2;have hc0:qx a b=14:=by rw [hc,aP]; rw [<- h2,g2]; simp
    rw [hc0,g2,aP e14,aP e14]
  ·rw [<- h1] at g1;have hc0:qx a b=14:=by rw [hc,aP]; rw [<- h1,g1]; simp
   have q2:r2=([],14):=by rw [h2,g1]; exact q7 e14 _ _ _
   rw [hc0,q2,aP e14,aP e14]
end
end Go.Nov
end
section
namespace Go.Nov
theorem zqz{b:L8}(h:allD b)(hn:b≠[])(hz:b.getD 0 0≠48):numD b≠0/\txt (numD b)=b:=by
 have hd:=zqr h;have hl:0<b.length:=List.length_pos_iff.2 hn
 have htl:Ten.tlen (dg b)=(dg b).length:=by
  rcases aR (Ten.tlen (dg b)) (dg b).length with h1 | h1
  ·exfalso;have h2:=Ten.jV (dg b) ((dg b).length - 1) (by omega);rw [zad] at h2
   have e:(dg b).getD (b.length - 1) 0=(b.getD 0 0).toNat - 48:=by
    simp only [dg,List.getD_eq_getElem?_getD];rw [List.getElem?_reverse (by simp; omega)];simp [aF hl,show b.length - 1 - (b.length - 1)=0 by omega]
   rw [e] at h2
   have h3:48<=(b.getD 0 0).toNat:=by
    cases b with
    | nil=>exact absurd rfl hn
    | cons c r=>exact(h c (by simp)).1
   apply hz;apply UInt8.toNat_inj.1;show _=48;omega
  ·exact Nat.le_antisymm (Ten.q8 _) h1
 have hc:dec (numD b)=dg b:=by
  rw [<- UX];exact Ten.V9 hd htl
 have h0:numD b≠0:=by
  intro h0;rw [h0] at hc;have:dg b=[]:=by rw [<- hc]; exact Ten.zU
  have:=congrArg List.length this;rw [zad,List.length_nil] at this;omega
 refine⟨h0,?_⟩;rw [uE h0,hc,dg,<- List.map_reverse,List.reverse_reverse,List.map_map]
 conv=>rhs; rw [<- List.map_id b]
 refine List.map_congr_left λc hcm=> ?_
 obtain⟨h1,h2⟩:=h c hcm;apply UInt8.toNat_inj.1;simp only [Function.comp,id];rw [Q1 (by omega)];omega
theorem zb0{s:L8}(h:errI s=0):wr (negI s) (numI s)=(s,0):=by
 obtain⟨neg,b,h1,h2,h3,h4,h5,h6⟩:=KN h;have e1:negI s=neg:=by simp [negI,h2]
 have e2:numI s=numD b:=by simp [numI,h2]
 rw [e1,e2];by_cases hz:b.getD 0 0=48
 ·have hb:b=[48]:=by
   cases b with
   | nil=>exact absurd rfl h5
   | cons c r=>
    cases r with
    | nil=>have:c=48:=hz; rw [this]
    | cons d r=>rw [xl hz (by simp)] at h3; cases h3
  subst hb;cases neg with
  | true=>cases h3
  | false=>rw [h1]; rfl
 ·obtain⟨g1,g2⟩:=zqz h4 h5 hz;unfold wr;rw [aO g1,g2,aO,h1];have:=QI g1;rw [g2] at this;omega
def zI(s:L8):Int:=if negI s then -(numI s:Int) else numI s
theorem wQ(s:L8):(zI s).natAbs=numI s:=by unfold zI; split<;>simp
theorem Xv{s:L8}(h:errI s=0):negI s=decide (zI s<0):=by
 unfold zI;cases hn:negI s with
 | false=>simp
 | true=>
  simp only [if_true]
  have:numI s≠0:=by
   intro h0;have:=(uN h).2 h0;rw [this] at hn;cases hn
  exact(aX (by omega)).symm
def wz(z:Int):L8×Int:=wr (decide (z<0)) z.natAbs
theorem KQ{s:L8}(h:errI s=0):wz (zI s)=(s,0):=by
 unfold wz;rw [wQ,<- Xv h,zb0 h]
theorem zsv{neg:Bool}{x:Nat}(h:(wr neg x).2=0):zI (wr neg x).1=if neg then -(x:Int) else x:=by
 obtain⟨h1,h2,h3⟩:=Ql h;unfold zI;rw [h2,h3];by_cases h0:x=0
 ·subst h0; simp
 ·cases neg<;>simp [h0]
theorem yI{z:Int}(h:(wz z).2=0):zI (wz z).1=z:=by
 unfold wz at h ⊢;rw [zsv h];by_cases hz:z<0
 ·rw [aX hz]; simp only [if_true]; omega
 ·rw [aW hz]; simp only [Bool.false_eq_true,if_false]; omega
theorem Qd{z:Int}(h:(wz z).2=0):errI (wz z).1=0:=(Ql h).1
theorem Y0{neg:Bool}{x:Nat} : wr neg x=wz (if neg then -(x:Int) else x):=by
 unfold wz;by_cases h0:x=0
 ·subst h0;cases neg<;>rfl
 ·cases neg with
  | false=>simp only [Bool.false_eq_true,if_false,Int.natAbs_natCast]; rw [aW (by omega)]
  | true=>simp only [if_true,Int.natAbs_neg,Int.natAbs_natCast]; rw [aX (by omega)]
theorem zi8(m:Bool)(x:Nat)(n:Bool)(y:Nat):(if(sumS m x n y).1 then -((sumS m x n y).2:Int) else(sumS m x n y).2)=(if m then -(x:Int) else x)+(if n then -(y:Int) else y):=by
 unfold sumS;by_cases h:m=n
 ·subst h;rw [aP rfl];cases m<;>simp<;>omega
 ·rw [aO h];by_cases h2:y<=x
  ·rw [aP h2];cases m<;>cases n<;>first | exact absurd rfl h | (simp; omega)
  ·rw [aO h2];cases m<;>cases n<;>first | exact absurd rfl h | (simp; omega)
theorem zsi{s t:L8}(h:zC s t=0):addI s t=wz (zI s+zI t):=by
 unfold addI;rw [aP h,Y0,zi8]; rfl
theorem zsf{s t:L8}(h:zC s t=0):subI s t=wz (zI s - zI t):=by
 unfold subI;rw [aP h,Y0,zi8];congr 1;unfold zI;cases negI s<;>cases negI t<;>simp<;>omega
theorem ZE{s t:L8}(h:zC s t=0):mulI s t=wz (zI s*zI t):=by
 unfold mulI;rw [aP h,Y0];congr 1;unfold zI;cases negI s<;>cases negI t<;>simp [Int.neg_mul,Int.mul_neg]
def qv(a:L8):Rat:=Rat.divInt (zI (numR a)) (zI (denR a))
def qstr(r:Rat):L8:=if r.den=1 then(wz r.num).1 else(wz r.num).1++[47]++(wz r.den).1
def kD(r:Rat):Prop:=room r.num.natAbs/\room r.den
theorem zkd(neg:Bool)(x:Nat):∀ c∈(wr neg x).1,c≠47:=by
 intro c hc h;subst h;unfold wr at hc;split at hc
 ·simp at hc
 ·rename_i h0;split at hc
  ·simp at hc
  ·have ht:¬ (47:UInt8)∈txt x:=λhm=>by
    have:=(zd5 h0 _ hm).1;have e:(47:UInt8).toNat=47:=rfl;omega
   cases neg<;>simp [sgn] at hc<;>exact ht hc
theorem zj9{u v:L8}(h:∀ c∈u,c≠47):cutR (u++[47]++v)=(u,v,true):=by
 have hs:zP (u++[47]++v)=u.length:=by
  refine zgy (by simp) (by simp [List.getD]) λj hj=> ?_
  rw [List.append_assoc];simp only [List.getD,bL hj,aF hj,Option.getD_some];exact h _ (bK hj)
 rw [zaz (by rw [hs]; simp),hs];simp
theorem zeu{u:L8}(h:∀ c∈u,c≠47):cutR u=(u,[],false):=by
 have hs:zP u=u.length:=UW λj hj=>by
  simp only [List.getD,aF hj,Option.getD_some];exact h _ (bK hj)
 exact zgm (by omega)
theorem YC(z:Int):∀ c∈(wz z).1,c≠47:=zkd _ _
theorem yq{z:Int}(h:room z.natAbs):(wz z).2=0:=kI h
theorem zrz:wz 1=([49],0):=xa
theorem yS{r:Rat}(h:kD r):numR (qstr r)=(wz r.num).1/\denR (qstr r)=(wz (r.den:Int)).1/\(cutR (qstr r)).2.2=decide (r.den≠1):=by
 unfold qstr;by_cases h1:r.den=1
 ·rw [aP h1];have:=zeu (YC r.num);unfold numR denR;rw [this,h1];exact⟨rfl,by simp only [Bool.false_eq_true,if_false]; exact(congrArg Prod.fst zrz).symm,by simp⟩
 ·rw [aO h1];have:=zj9 (v:=(wz (r.den:Int)).1) (YC r.num);unfold numR denR;rw [this];exact⟨rfl,rfl,by simp [h1]⟩
theorem Q5{r:Rat}(h:kD r):qv (qstr r)=r:=by
 obtain⟨h1,h2,_⟩:=yS h;unfold qv;rw [h1,h2,yI (yq h.1),yI (yq (by rw [Int.natAbs_natCast]; exact h.2)),Rat.divInt_ofNat,Rat.mkRat_self]
theorem y4{r:Rat}(h:kD r):errR (qstr r)=0:=by
 obtain⟨h1,h2,h3⟩:=yS h;have e1:=Qd (yq h.1);have e2:errI (wz (r.den:Int)).1=0:=Qd (yq (by rw [Int.natAbs_natCast]; exact h.2));have z1:=yI (yq h.1);have z2:zI (wz (r.den:Int)).1=r.den:=yI (yq (by rw [Int.natAbs_natCast]; exact h.2));unfold errR;by_cases hd:r.den=1
 ·rw [h3,hd];simp only [ne_eq,not_true_eq_false,decide_false,Bool.false_eq_true,if_false];unfold qstr;rw [aP hd];exact e1
 ·have hc:(cutR (qstr r)).2.2=true:=by rw [h3]; simp [hd]
  have n1:(cutR (qstr r)).1=(wz r.num).1:=h1;have n2:(cutR (qstr r)).2.1=(wz (r.den:Int)).1:=by unfold denR at h2; rw [hc] at h2; exact h2
  rw [hc,aP rfl,n1,n2];have hp:=r.den_pos;have hneg:negI (wz (r.den:Int)).1=false:=by rw [Xv e2,z2]; exact aW (by omega)
  have hn48:(wz (r.den:Int)).1≠[48]:=λh=>by
   rw [h] at z2;have:zI [48]=0:=rfl;omega
  have hn49:(wz (r.den:Int)).1≠[49]:=λh=>by
   rw [h] at z2;have:zI [49]=1:=rfl;omega
  rw [aO (by simp [e1,e2,hneg,hn48,hn49]),aO (by simp [e1,e2])]
  have hg:gcdR (wz r.num).1 (wz (r.den:Int)).1=wr false (Nat.gcd r.num.natAbs r.den):=by
   unfold gcdR;rw [aP (zx.2 ⟨e1,e2⟩),<- wQ,<- wQ,z1,z2,Int.natAbs_natCast]
  have hr:Nat.gcd r.num.natAbs r.den=1:=r.reduced;rw [hg,hr,xa,aO (by simp)]
theorem WC{a:L8}(h:errR a=0):(qv a).num=zI (numR a)/\((qv a).den:Int)=zI (denR a)/\qstr (qv a)=a/\kD (qv a):=by
 obtain⟨e1,e2,e3,e4⟩:=qP h;have hz:zI (denR a)=numI (denR a):=by unfold zI; rw [e3]; rfl
 have hcop:Nat.gcd (numI (numR a)) (numI (denR a))=1:=by
  unfold errR at h;cases hc:(cutR a).2.2 with
  | true=>
   rw [hc,aP rfl] at h;have hd:denR a=(cutR a).2.1:=by unfold denR; rw [hc]; rfl
   rw [hd] at e2 e4 ⊢;unfold numR at e1 ⊢;split at h
   ·cases h
   split at h
   ·cases h
   split at h
   ·cases h
   ·rename_i hg;rw [Classical.not_not] at hg;unfold gcdR at hg;rw [aP (zx.2 ⟨e1,e2⟩)] at hg;exact(za8 (YD e2 e4).2).1 hg
  | false=>
   have:denR a=[49]:=by unfold denR; rw [hc]; rfl
   rw [this];exact Nat.gcd_one_right _
 have hq:qv a=⟨zI (numR a),numI (denR a),e4,by rw [wQ]; exact hcop⟩:=by
  unfold qv;rw [hz,Rat.mk_eq_divInt]
 have hroom:kD (qv a):=by
  rw [hq];exact⟨by show room (zI (numR a)).natAbs; rw [wQ]; exact jN e1,jN e2⟩
 refine⟨by rw [hq],by rw [hq,hz],?_,hroom⟩;rw [hq];unfold qstr;simp only;rw [<- hz,KQ e1,KQ e2];cases hc:(cutR a).2.2 with
 | true=>
  have hd:denR a=(cutR a).2.1:=by unfold denR; rw [hc]; rfl
  have hn1:numI (denR a)≠1:=by
   intro h1
   have:denR a=[49]:=by
    have:=(zb0 e2);rw [e3,h1,xa] at this;exact(congrArg Prod.fst this).symm
   unfold errR at h;rw [hc,aP rfl,aP (by rw [<- hd,this]; simp)] at h;cases h
  rw [aO hn1,hd];simp only [numR];unfold cutR at hc ⊢;split at hc
  ·rename_i hs;rw [aP hs];simp only;have h47:=J5 hs
   have:a=a.take (zP a)++([a.getD (zP a) 0]++a.drop (zP a+1)):=by
    conv=>lhs; rw [<- bU (zP a) a]
    congr 1;rw [List.drop_eq_getElem_cons hs];simp [List.getD,aF hs]
   rw [h47] at this;rw [List.append_assoc];exact this.symm
  ·cases hc
 | false=>
  have hd:denR a=[49]:=by unfold denR; rw [hc]; rfl
  rw [hd];have:numI [49]=1:=rfl;rw [aP this];unfold numR;unfold cutR at hc ⊢;split at hc
  ·cases hc
  ·rename_i hs;rw [aO hs]
theorem zoy(a b:Int)(hb:b≠0):b.sign*a=if(decide (a<0) != decide (b<0))=true then -(a.natAbs:Int) else a.natAbs:=by
 by_cases h1:a<0
 ·rw [aX h1];by_cases h2:b<0
  ·rw [aX h2,Int.sign_eq_neg_one_of_neg h2]; simp; omega
  ·rw [aW h2,Int.sign_eq_one_of_pos (by omega)]; simp; omega
 ·rw [aW h1];by_cases h2:b<0
  ·rw [aX h2,Int.sign_eq_neg_one_of_neg h2]; simp; omega
  ·rw [aW h2,Int.sign_eq_one_of_pos (by omega)]; simp; omega
theorem zsk{n d:L8}(hn:errI n=0)(hd:errI d=0)(h0:numI d≠0):wo n d=(qstr (Rat.divInt (zI n) (zI d)),0)/\kD (Rat.divInt (zI n) (zI d)):=by
 have hz0:zI d≠0:=λh=>h0 (by rw [<- wQ,h]; rfl)
 have hg:(zI d).gcd (zI n)=Nat.gcd (numI n) (numI d):=by
  show Nat.gcd _ _=_;rw [wQ,wQ,Nat.gcd_comm]
 have hden:(Rat.divInt (zI n) (zI d)).den=numI d/Nat.gcd (numI n) (numI d):=by
  rw [Rat.den_divInt,aO hz0,hg,wQ]
 have hdv:Nat.gcd (numI n) (numI d) ∣ numI n:=Nat.gcd_dvd_left _ _
 have hnum:(Rat.divInt (zI n) (zI d)).num=if(negI n != negI d)=true then -((numI n/Nat.gcd (numI n) (numI d):Nat):Int) else((numI n/Nat.gcd (numI n) (numI d):Nat):Int):=by
  rw [Rat.num_divInt,hg,zoy _ _ hz0,wQ,<- Xv hn,<- Xv hd];split
  ·rw [Int.neg_ediv_of_dvd (Int.natCast_dvd_natCast.2 hdv),Int.natCast_ediv]
  ·rw [Int.natCast_ediv]
 have hroom:kD (Rat.divInt (zI n) (zI d)):=by
  refine⟨?_,by rw [hden]; exact room_le (Nat.div_le_self _ _) (jN hd)⟩;rw [hnum];have:room (numI n/Nat.gcd (numI n) (numI d)):=room_le (Nat.div_le_self _ _) (jN hn);split
  ·rw [Int.natAbs_neg,Int.natAbs_natCast]; exact this
  ·rw [Int.natAbs_natCast]; exact this
 refine⟨?_,hroom⟩;unfold wo;rw [aO (by rw [zx.2 ⟨hn,hd⟩]; simp),aO h0];congr 1;unfold V6 qstr;rw [hden,hnum];have e2:(wr false (numI d/Nat.gcd (numI n) (numI d))).1=(wz ((numI d/Nat.gcd (numI n) (numI d):Nat):Int)).1:=by rw [Y0]; rfl
 rw [Y0,e2]
theorem zau{n d:L8}{e f:Int}{z w:Int}(hw:w≠0)(hz:(n,e)=wz z)(hd:(d,f)=wz w):frac (n,e) (d,f)=([],14)\/(frac (n,e) (d,f)=(qstr (Rat.divInt z w),0)/\kD (Rat.divInt z w)):=by
 unfold frac;by_cases he:e=0
 ·by_cases hf:f=0
  ·subst he; subst hf;have h1:(wz z).2=0:=by rw [<- hz]
   have h2:(wz w).2=0:=by rw [<- hd]
   have n1:n=(wz z).1:=by rw [<- hz]
   have n2:d=(wz w).1:=by rw [<- hd]
   have z1:=yI h1;have z2:=yI h2;have e1:=Qd h1;have e2:=Qd h2;rw [<- n1] at z1 e1;rw [<- n2] at z2 e2;right;rw [aO (by simp)];have:=zsk e1 e2 (λh=>hw (by rw [<- z2]; have:=wQ d; omega));rw [z1,z2] at this;exact this
  ·left; rw [aP (.inr hf)]
 ·left; rw [aP (.inl he)]
section
variable {a b:L8} (ha:errR a=0) (hb:errR b=0)
include ha hb
theorem zcu:errI (numR a)=0/\errI (denR a)=0/\errI (numR b)=0/\errI (denR b)=0/\zI (denR a)≠0/\zI (denR b)≠0/\wy a b=0:=by
 obtain⟨a1,a2,_,a4⟩:=qP ha;obtain⟨b1,b2,_,b4⟩:=qP hb;exact⟨a1,a2,b1,b2,λh=>a4 (by rw [<- wQ,h]; rfl),λh=>b4 (by rw [<- wQ,h]; rfl),by unfold wy; rw [aP ha]; exact hb⟩
theorem zbv:qx a b=14\/(qx a b=0/\mulI (numR a) (denR b)=wz (zI (numR a)*zI (denR b))/\mulI (numR b) (denR a)=wz (zI (numR b)*zI (denR a))/\(mulI (numR a) (denR b)).2=0/\(mulI (numR b) (denR a)).2=0):=by
 obtain⟨a1,a2,b1,b2,a4,b4,h2⟩:=zcu ha hb;have m1:=ZE (zx.2 ⟨a1,b2⟩);have m2:=ZE (zx.2 ⟨b1,a2⟩);unfold qx;rw [aO (by rw [h2]; simp)];by_cases h:(mulI (numR a) (denR b)).2≠0\/(mulI (numR b) (denR a)).2≠0
 ·left; rw [aP h]
 ·right;rw [aO h];simp only [not_or,Classical.not_not] at h;exact⟨rfl,m1,m2,h.1,h.2⟩
theorem zsq:addR a b=([],14)\/(addR a b=(qstr (qv a+qv b),0)/\kD (qv a+qv b)):=by
 obtain⟨a1,a2,b1,b2,a4,b4,h2⟩:=zcu ha hb;unfold addR;rcases zbv ha hb with h | ⟨h,m1,m2,k1,k2⟩
 ·left; rw [h]; rfl
 ·rw [h,aO (by simp)];rw [m1] at k1;rw [m2] at k2;have e1:=Qd k1;have e2:=Qd k2
  have:=zau (n:=(addI (mulI (numR a) (denR b)).1 (mulI (numR b) (denR a)).1).1) (e:=(addI (mulI (numR a) (denR b)).1 (mulI (numR b) (denR a)).1).2) (d:=(mulI (denR a) (denR b)).1) (f:=(mulI (denR a) (denR b)).2)
   (z:=zI (numR a)*zI (denR b)+zI (numR b)*zI (denR a)) (w:=zI (denR a)*zI (denR b)) (Int.mul_ne_zero a4 b4) (by rw [m1,m2,zsi (zx.2 ⟨e1,e2⟩),yI k1,yI k2]) (by rw [ZE (zx.2 ⟨a2,b2⟩)])
  unfold qv;rw [Rat.divInt_add_divInt _ _ a4 b4];exact this
theorem zqu:subR a b=([],14)\/(subR a b=(qstr (qv a - qv b),0)/\kD (qv a - qv b)):=by
 obtain⟨a1,a2,b1,b2,a4,b4,h2⟩:=zcu ha hb;unfold subR;rcases zbv ha hb with h | ⟨h,m1,m2,k1,k2⟩
 ·left; rw [h]; rfl
 ·rw [h,aO (by simp)];rw [m1] at k1;rw [m2] at k2;have e1:=Qd k1;have e2:=Qd k2
  have:=zau (n:=(subI (mulI (numR a) (denR b)).1 (mulI (numR b) (denR a)).1).1) (e:=(subI (mulI (numR a) (denR b)).1 (mulI (numR b) (denR a)).1).2) (d:=(mulI (denR a) (denR b)).1) (f:=(mulI (denR a) (denR b)).2)
   (z:=zI (numR a)*zI (denR b) - zI (numR b)*zI (denR a)) (w:=zI (denR a)*zI (denR b)) (Int.mul_ne_zero a4 b4) (by rw [m1,m2,zsf (zx.2 ⟨e1,e2⟩),yI k1,yI k2]) (by rw [ZE (zx.2 ⟨a2,b2⟩)])
  unfold qv;rw [Rat.divInt_sub_divInt _ _ a4 b4];exact this
theorem zrp:mulR a b=([],14)\/(mulR a b=(qstr (qv a*qv b),0)/\kD (qv a*qv b)):=by
 obtain⟨a1,a2,b1,b2,a4,b4,h2⟩:=zcu ha hb;unfold mulR;rw [h2,aO (by simp)]
 have:=zau (n:=(mulI (numR a) (numR b)).1) (e:=(mulI (numR a) (numR b)).2) (d:=(mulI (denR a) (denR b)).1) (f:=(mulI (denR a) (denR b)).2)
  (z:=zI (numR a)*zI (numR b)) (w:=zI (denR a)*zI (denR b)) (Int.mul_ne_zero a4 b4) (by rw [ZE (zx.2 ⟨a1,b1⟩)]) (by rw [ZE (zx.2 ⟨a2,b2⟩)])
 unfold qv;rw [Rat.divInt_mul_divInt];exact this
end
theorem zmo{a b:L8}(ha:errR a=0)(hb:errR b=0)(h:(addR a b).2=0):errR (addR a b).1=0/\qv (addR a b).1=qv a+qv b:=by
 rcases zsq ha hb with h1 | ⟨h1,h2⟩
 ·rw [h1] at h; cases h
 ·rw [h1]; exact⟨y4 h2,Q5 h2⟩
theorem zof{a b:L8}(ha:errR a=0)(hb:errR b=0)(h:(subR a b).2=0):errR (subR a b).1=0/\qv (subR a b).1=qv a - qv b:=by
 rcases zqu ha hb with h1 | ⟨h1,h2⟩
 ·rw [h1] at h; cases h
 ·rw [h1]; exact⟨y4 h2,Q5 h2⟩
theorem Xb{a b:L8}(ha:errR a=0)(hb:errR b=0)(h:(mulR a b).2=0):errR (mulR a b).1=0/\qv (mulR a b).1=qv a*qv b:=by
 rcases zrp ha hb with h1 | ⟨h1,h2⟩
 ·rw [h1] at h; cases h
 ·rw [h1]; exact⟨y4 h2,Q5 h2⟩
end Go.Nov
end
section
namespace Go.Nov
end Go.Nov
end
section
namespace Go.Nov
open Go.Sx
structure TOp where
 kind:Int
 a:Int
 b:Int
 rat:L8
abbrev TOp.nil:TOp:=⟨0,0,0,[]⟩
def TOp.cell(o:TOp):Nat->AV
 | 0=>.int .u8 o.kind
 | 1=>.i o.a
 | 2=>.i o.b
 | 3=>.str o.rat
 | _=>.undef
def opG(l:List TOp):Nat->Nat->AV:=λj=>(l.getD j TOp.nil).cell
def opS(l:List TOp):AV:=.sl l.length 4 (opG l)
def ratG(l:List L8):Nat->Nat->AV:=λj _=>.str (l.getD j [])
end Go.Nov
end
section
namespace Go.Nov
open Go.Sx
structure Deal where
 long:L8
 short:L8
 ccy:L8
 name:L8
 zb:L8
 ze:L8
def Deal.av(d:Deal):AV:=.agg [.str d.long,.str d.short,.str d.ccy,.str d.name,.str d.zb,.str d.ze]
def Deal.cells(d:Deal)(e:Int):List AV:=[.i e,.str d.long,.str d.short,.str d.ccy,.str d.name,.str d.zb,.str d.ze]
namespace Tm
def kon(r:L8):Ex:=.mk 1 r [] 0 []
def spot(n:L8):Ex:=.mk 3 [] n 0 []
def fixg(n:L8)(d:Int):Ex:=.mk 2 [] n d []
def opx(k:Int)(s:List Ex):Ex:=.mk k [] [] 0 s
def over(k:L8)(x:Ex)(below:Bool):Ex:=opx 7 [kon [48],opx 5 (if below=true then [kon k,x] else [x,kon k])]
def pay(d:Deal)(x:Ex)(r:L8):Con:=.mk 2 d.short d.long d.ccy (opx 6 [x,kon r]) 0 [] []
def at_(day:Int)(c:Con):Con:=.mk 6 [] [] [] (.mk 0 [] [] 0 []) day [] [c]
def call(d:Deal)(ch:L8)(days:List Int)(c:Con):Con:=.mk 8 d.long [] ch (.mk 0 [] [] 0 []) 0 days [c]
def first(e:Int)(l:List L8):Int:=l.foldl (λe r=>if e=0 then errR r else e) e
def zero:Con:=.mk 0 [] [] [] (.mk 0 [] [] 0 []) 0 [] []
def fits(d:Deal):Prop:=d.long.length<=200/\d.short.length<=200/\d.ccy.length<=200/\d.name.length<=200/\d.zb.length<=2500/\d.ze.length<=2500
def res(d:Deal)(c:Con):Int:=if first 0 [d.zb,d.ze]=0 then c.errC else first 0 [d.zb,d.ze]
def out(e:Int)(c:Con):Con:=if e=0 then c else zero
def fwd(d:Deal)(day:Int):Con:=at_ day (pay d (opx 5 [spot d.name,kon d.zb]) d.ze)
def pff(d:Deal)(day:Int)(put:Bool):Con:=at_ day (pay d (over d.zb (spot d.name) put) d.ze)
def opt(d:Deal)(ch:L8)(days:List Int)(put:Bool):Con:=call d ch days (pay d (over d.zb (spot d.name) put) d.ze)
theorem xo{e:Int}{l:List (L8)}{i:Nat}(h:i<l.length):first e (l.take (i+1))=if first e (l.take i)=0 then errR (l.getD i []) else first e (l.take i):=by
 have:l.take (i+1)=l.take i++[l.getD i []]:=by
  rw [List.take_add_one]; simp [List.getD,h]
 unfold first;rw [this,List.foldl_append];rfl
end Tm
end Go.Nov
end
section
namespace Go.Sx
open Go.Nov
variable [Stat]
theorem zg.sink{P:Go.Program}{g:Nat}{c:Ctr}(h:zg P g c):zg P g { c with sinks:=true } :=h
theorem LeL.dAt:∀ {l m:List AV} (i:Nat),LeL l m->LeA (l.getD i .undef) (m.getD i .undef)
 | [],[],_,_=>LeA.refl _
 | [],_::_,_,h=>by simp [LeL] at h
 | _::_,[],_,h=>by simp [LeL] at h
 | a::l,b::m,0,h=>by simp only [LeL] at h; exact h.1
 | a::l,b::m,i+1,h=>by
  simp only [LeL] at h;have:=LeL.dAt i h.2;simpa [List.getD] using this
theorem RetR.xO{ctr:Ctr}{m:Nat}{Q:AV×Heap->Prop}{rs:List AV}{h:Heap}{r:AV}{hs:Heap}(L:List Nat)(hnd:jU L=true)(hlt:(L.all λi=>decide (i<h.length))=true)(hj:∀ j,j<m->L[j]?=some j)(hf:ctr.fresh=false)(hq:Q (r,hs))
  (he:LeA (exp2 h L (resV rs)) r) (hb:eqH (expH h L) hs) (hl:hs.length=L.length):RetR ctr m Q rs h:=
 ⟨L,hnd,λi hi=>by have:=bG.1 hlt i hi; simpa using this,hj,(λhh=>absurd hh (by rw [hf]; decide)),r,hs,he,.inl hb,hl,hq⟩
theorem RetR.zc8{ctr:Ctr}{m:Nat}{Q:AV×Heap->Prop}{rs:List AV}{h:Heap}{r:AV}{hs:Heap}(L:List Nat)(hnd:jU L=true)(hlt:(L.all λi=>decide (i<h.length))=true)(hj:∀ j,j<m->L[j]?=some j)(hf:ctr.fresh=false)(hq:Q (r,hs))
  (he:LeA (exp2 h L (resV rs)) r) (hb:leHs (expH h L) hs):RetR ctr m Q rs h:=
 ⟨L,hnd,λi hi=>by have:=bG.1 hlt i hi; simpa using this,hj,(λhh=>absurd hh (by rw [hf]; decide)),r,hs,he,.inr hb,by rw [XE hb]; simp [expH],hq⟩
end Go.Sx
namespace Go.Nov
open Go.Sx
variable [Go.Sx.Stat]
theorem Ex.yn{x y:Ex}{k d:Int}{r n:L8}{c:List AV}(h:LeL c (x.cellsD++y.cellsD)):LeA (.sl 2 5 (zf (zj 5 c) 0)) (.sl 2 5 (Ex.mk k r n d [x,y]).deep):=by
 refine LeA.sl rfl λj o hj ho=> ?_
 rw [Ex.zQ (Ex.mk k r n d [x,y]) j o (by show j<2; omega) ho];have:=LeL.dAt (j*5+o) h;simp only [zf,zj,Nat.zero_add];rcases(show j=0\/j=1 by omega) with rfl | rfl<;>rcases(show o=0\/o=1\/o=2\/o=3\/o=4 by omega) with rfl | rfl | rfl | rfl | rfl<;>exact this
theorem Ex.QB(x y:Ex):eqG 2 5 (zf (zj 5 (x.cellsD++y.cellsD)) 0) (Ex.exG [x,y]):=by
 intro j o hj ho;simp only [zf,zj,Nat.zero_add];rcases(show j=0\/j=1 by omega) with rfl | rfl<;>rcases(show o=0\/o=1\/o=2\/o=3\/o=4 by omega) with rfl | rfl | rfl | rfl | rfl<;>rfl
theorem Ex.zmj{x y:Ex}{c:List AV}(h:LeL c (x.cellsD++y.cellsD)):LeA (.sl 2 5 (zf (zj 5 c) 0)) (.sl 2 5 (Ex.exG [x,y])):=by
 refine LeA.sl rfl λj o hj ho=> ?_
 have:=LeL.dAt (j*5+o) h;simp only [zf,zj,Nat.zero_add];rcases(show j=0\/j=1 by omega) with rfl | rfl<;>rcases(show o=0\/o=1\/o=2\/o=3\/o=4 by omega) with rfl | rfl | rfl | rfl | rfl<;>exact this
theorem Ex.xJ(z:Ex):LeA (.sl z.sub.length 5 (Ex.exG z.sub)) (.sl z.sub.length 5 z.deep):=LeA.sl rfl λj o hj ho=>by rw [Ex.zQ z j o hj ho]; exact LeA.refl _
theorem Con.xJ(z:Con):LeA (.sl z.sub.length 12 (Con.conG z.sub)) (.sl z.sub.length 12 z.deep):=LeA.sl rfl λj o hj ho=>by rw [Con.zQ z j o hj ho]; exact LeA.refl _
theorem Con.zm4{e:Con}{k d:Int}{a b n:L8}{x:Ex}{l:List Int}{c:List AV}(h:LeL c e.zc):LeA (.sl 1 12 (zf (zj 12 c) 0)) (.sl 1 12 (Con.mk k a b n x d l [e]).deep):=by
 refine LeA.sl rfl λj o hj ho=> ?_
 have h0:j=0:=by omega
 subst h0;rw [Con.zQ (Con.mk k a b n x d l [e]) 0 o (by show 0<1; decide) ho];have:=LeL.dAt o h;simp only [zf,zj,Nat.zero_add,Nat.zero_mul];rcases(show o=0\/o=1\/o=2\/o=3\/o=4\/o=5\/o=6\/o=7\/o=8\/o=9\/o=10\/o=11 by omega) with rfl | rfl | rfl | rfl | rfl | rfl | rfl | rfl | rfl | rfl | rfl | rfl<;>exact this
end Go.Nov
end
section
set_option maxRecDepth 100000
open Go Go.Sx Go.Proofs Go.Nov
namespace Go.Proofs.Tryz
attribute [local simp] eqKV eqA eqA0 eqH eqB eqL eqL0
noncomputable def K53:=Go.Sx.aA f53
def opC:Ctr:=ctrP false (λp:Int×List Ex=>[.int .u8 p.1,Ex.exS p.2]) (λ_=>True) (λ_ (_:Unit)=>True) (λp _=>(exD (Tm.opx p.1 p.2),[]))
def konC:Ctr:=ctrP false (λr:L8=>[.str r]) (λ_=>True) (λ_ (_:Unit)=>True) (λr _=>(exD (Tm.kon r),[]))
theorem ztf:zg prog 36 opC:=by
 refine zm' f36 λp hp O w0 Q hq=> ?_
 obtain⟨k,s⟩:=p;replace hq:=hq () trivial;refine zd.n zJ [] (.R [.agg [.int .u8 k,.str #[].toList,.str #[].toList,.i 0,.sl s.length 5 (Ex.exG s)]] [.box [.int .u8 k,.str #[].toList,.str #[].toList,.i 0,.sl s.length 5 (Ex.exG s)]]) ?_;simp only [Tree.holds,zh];refine RetR.out0 hq (λh=>by cases h) ?_;exact⟨⟨rfl,rfl⟩,rfl,rfl,⟨rfl,rfl⟩,⟨rfl,rfl,λj o hj ho=>(Ex.zQ (Tm.opx k s) j o hj ho).symm⟩,trivial⟩
theorem Jh:zg prog 38 konC:=by
 refine zm' f38 λr hp O w0 Q hq=> ?_
 replace hq:=hq () trivial;refine zd.n zJ [] (.R [.agg [.int .u8 1,.str r,.str #[].toList,.i 0,.nils]] [.box [.int .u8 1,.str r,.str #[].toList,.i 0,.nils]]) ?_;simp only [Tree.holds,zh];refine RetR.out0 hq (λh=>by cases h) ?_;exact⟨⟨rfl,rfl⟩,rfl,rfl,⟨rfl,rfl⟩,rfl,trivial⟩
noncomputable def Qk:Ctr:=inlC prog noG 100 f67
theorem vX:zg prog 67 Qk:=ub hmix zJ rfl rfl
noncomputable def GTnu:=tb kW (tb vX tz)
def SNu(l:List L8)(i:Nat):KV:=[(0,.ptr 0 0),(6,.osl 1 1 0 l.length),(7,.i (l.length:Int)),(8,.i (i:Int))]
def Q2:Ctr:=ctrT false false (λp:Deal×Int×List (L8)=>[.ptr 0 0,.osl 1 1 0 p.2.2.length]) (λp=>[.box (p.1.cells p.2.1),.arr p.2.2.length 1 (ratG p.2.2)]) (λp=>p.2.2.length<2^40/\∀ r∈p.2.2,r.length<2^40) (λ_ (_:Unit)=>True) (λp _=>(.tup [],[.box (p.1.cells (Tm.first p.2.1 p.2.2)),.arr p.2.2.length 1 (ratG p.2.2)]))
theorem Z3:zg prog 53 Q2:=by
 refine zD (fn:=f53) (c:=f53.body.getD .skip) rfl rfl rfl (λh=>by cases h) λp hp O w0 I0 Q hl0 hq=> ?_
 obtain⟨t,e,l⟩:=p;obtain⟨hl,hr⟩:=hp;replace hq:=hq () trivial;simp only at hl hr hq;refine zd.n GTnu.h [0,6,7,8] (.leaf (.loop (lps K53 0).1 (lps K53 0).2 [(0,.ptr 0 0),(6,.osl 1 1 0 l.length),(7,.i l.length),(8,.i 0)] [.box [.i e,.str t.long,.str t.short,.str t.ccy,.str t.name,.str t.zb,.str t.ze],.arr l.length 1 (ratG l)])) ?_;simp only [Tree.holds,zh,inR,lo,hi,aD];show zN none prog f53 O 2 w0 I0 _ _ _ _;refine zd.loop (ι:={i:Nat // i<=l.length}) (λi=>SNu l i.1) (λi=>[.box (t.cells (Tm.first e (l.take i.1))),.arr l.length 1 (ratG l)]) (λi=>l.length - i.1) ⟨0,aI _⟩ 0 ?_ ?_ (by kernel_rfl)
 ·exact⟨by simp [SNu],by simp [Deal.cells,Tm.first,za],by kernel_rfl,aJ _⟩
 ·rintro⟨i,hil⟩;obtain⟨e',he'⟩:∃ e',Tm.first e (l.take i)=e':=⟨_,rfl⟩;simp only [he'];refine zd.n GTnu.h [0,6,7,8] (let v3:=inR .i64 (i+1);let v2:List (Nat×AV):=[(0,.ptr 0 0),(6,.osl 1 1 0 l.length),(7,.i l.length),(8,.i (i+1))];let v1:List Blk:=[.box [.i e',.str t.long,.str t.short,.str t.ccy,.str t.name,.str t.zb,.str t.ze],.arr l.length 1 (ratG l)];.D ((i:Int)<l.length) (.side ((0:Int)<=i/\(i:Int)<l.length) (.ex (q15 [.str (l.getD (0+Int.toNat i) [])]) λn=>.all (λ(r:Int)=>r=errR n) λn=>.D (e'=(0:Int)) (.side v3 (.leaf (.back 0 v2 [.box [.i n,.str t.long,.str t.short,.str t.ccy,.str t.name,.str t.zb,.str t.ze],.arr l.length 1 (ratG l)]))) (.side v3 (.leaf (.back 0 v2 v1))))) (.R [] v1)) ?_;simp only [q15,Tree.holds,zh,inR,lo,hi,aD];refine⟨λhlt=> ?_,λhge=> ?_⟩
  ·have hlt:i<l.length:=by have:=aB hlt; omega
   have ht:=Tm.xo (e:=e) hlt;rw [he'] at ht;have hrl:=hr (l.getD i []) (by simp [List.getD,hlt]);refine⟨by omega,λ_=>⟨l.getD i [],⟨by simp,by omega⟩,⟨_,rfl⟩,?_⟩⟩;rintro _ rfl;refine⟨λh=>⟨by omega,λ_=> ?_⟩,λh=>⟨by omega,λ_=> ?_⟩⟩
   ·rw [aP (aB h)] at ht;rw [aP trivial];exact⟨⟨i+1,hlt⟩,by show l.length - (i+1)<l.length - i; omega,by simp [SNu],by simp [Deal.cells,ht,za],by kernel_rfl,aJ _⟩
   ·rw [aO (aC h)] at ht;rw [aP trivial];exact⟨⟨i+1,hlt⟩,by show l.length - (i+1)<l.length - i; omega,by simp [SNu],by simp [Deal.cells,ht,za],by kernel_rfl,aJ _⟩
  ·have hge:i=l.length:=by have:=aC hge; omega
   rw [hge,bD] at he';rw [he'] at hq;exact RetR.keep [0,1] rfl rfl (by show ∀ j,j<2->_; decide) rfl hq (by simp [resV,exp2,exp1,exp0,ren0,eqA2,eqL1]) (by simp [expH,expB,exp1,exp0,ren0,Deal.cells,za]) rfl
def zg4:Ctr:=ctrT false false (λp:Deal×Int=>[.ptr 0 0]) (λp=>[.box (p.1.cells p.2)]) (λ_=>True) (λ_ (_:Unit)=>True) (λp _=>(exD (Tm.spot p.1.name),[.box (p.1.cells p.2)]))
theorem zb8:zg prog 37 zg4:=by
 refine zD (fn:=f37) (c:=f37.body.getD .skip) rfl rfl rfl (λh=>by cases h) λp hp O w0 I0 Q hl0 hq=> ?_
 obtain⟨t,e⟩:=p;replace hq:=hq () trivial;refine zd.n zJ [] (let v1:List AV:=[.int .u8 3,.str #[].toList,.str t.name,.i 0,.nils];.R [.agg v1] [.box [.i e,.str t.long,.str t.short,.str t.ccy,.str t.name,.str t.zb,.str t.ze],.box v1]) ?_;simp only [Tree.holds,zh];refine RetR.keep [0] rfl rfl (by show ∀ j,j<1->_; decide) rfl hq ?_ (by simp [expH,expB,exp1,exp0,ren0,Deal.cells]) rfl;exact⟨⟨rfl,rfl⟩,rfl,rfl,⟨rfl,rfl⟩,rfl,trivial⟩
noncomputable def opI:Ctr:=inlC prog noG 100 f36
theorem zr3:zg prog 36 opI:=ub hmix zJ rfl rfl
noncomputable def GPt:=tb zr3 (tb Jh tz)
def zpd:Ctr:=ctrT false false (λp:Deal×Int×Ex×Bool=>[.ptr 0 0,p.2.2.1.exA,.bool p.2.2.2]) (λp=>[.box (p.1.cells p.2.1)]) (λ_=>True) (λ_ (_:Unit)=>True) (λp _=>(exD (Tm.over p.1.zb p.2.2.1 p.2.2.2),[.box (p.1.cells p.2.1)]))
abbrev q32(A:List AV)(x:L8):Prop:=eqL A [.str x]/\True
theorem zoh:zg prog 39 zpd:=by
 refine zD (fn:=f39) (c:=f39.body.getD .skip) rfl rfl rfl (λh=>by cases h) λp hp O w0 I0 Q hl0 hq=> ?_
 obtain⟨t,e,x,b⟩:=p;replace hq:=hq () trivial;simp only at hq;refine zd.n GPt.h [] (let v7:=q32 [.str #[(48:UInt8)].toList];let v6:List AV:=[.int .u8 5,.str #[].toList,.str #[].toList,.i 0,.osl 4 5 0 2];let v5:List AV:=[.int .u8 x.kind,.str x.rat,.str x.name,.i x.date,.sl x.sub.length 5 (Ex.exG x.sub)];let v2:List AV:=[.i e,.str t.long,.str t.short,.str t.ccy,.str t.name,.str t.zb,.str t.ze];let v1:List AV:=[.int .u8 7,.str #[].toList,.str #[].toList,.i 0,.osl 6 5 0 2];.ex (q32 [.str t.zb]) λn=>let v13:=List.length (Ex.sub (Tm.kon n));let v8:=Ex.cellsD (Tm.kon n);let v4:=zj 5 [.int .u8 x.kind,.str x.rat,.str x.name,.i x.date,.sl x.sub.length 5 (Ex.exG x.sub),.int .u8 (Ex.kind (Tm.kon n)),.str (Ex.rat (Tm.kon n)),.str (Ex.name (Tm.kon n)),.i (Ex.date (Tm.kon n)),.sl v13 5 (Ex.deep (Tm.kon n))];let v3:=zj 5 [.int .u8 (Ex.kind (Tm.kon n)),.str (Ex.rat (Tm.kon n)),.str (Ex.name (Tm.kon n)),.i (Ex.date (Tm.kon n)),.sl v13 5 (Ex.deep (Tm.kon n)),.int .u8 x.kind,.str x.rat,.str x.name,.i x.date,.sl x.sub.length 5 (Ex.exG x.sub)];.A λn_1=>.ite b (.all (λ(x:Bool)=>True) λn_2=>.ite n_2 (.ex v7 λn_3=>let v9:=Tm.kon n_3;.A λn_4=>.R [.agg v1] [.box v2,.box v8,.box v1,.box v5,.arr 2 5 v3,.box v6,.box [.int .u8 (Ex.kind v9),.str (Ex.rat v9),.str (Ex.name v9),.i (Ex.date v9),.sl (List.length (Ex.sub v9)) 5 (Ex.deep v9),.int .u8 5,.str #[].toList,.str #[].toList,.i 0,.osl 4 5 0 2],.box v1]) (.ex v7 λn_3=>let v10:=Tm.kon n_3;.A λn_4=>.R [.agg v1] [.box v2,.box v8,.box v1,.box v5,.arr 2 5 v3,.box v6,.box [.int .u8 (Ex.kind v10),.str (Ex.rat v10),.str (Ex.name v10),.i (Ex.date v10),.sl (List.length (Ex.sub v10)) 5 (Ex.deep v10),.int .u8 5,.str #[].toList,.str #[].toList,.i 0,.osl 4 5 0 2],.box v1])) (.all (λ(x:Bool)=>True) λn_2=>.ite n_2 (.ex v7 λn_3=>let v11:=Tm.kon n_3;.A λn_4=>.R [.agg v1] [.box v2,.box v5,.box v1,.box v8,.arr 2 5 v4,.box v6,.box [.int .u8 (Ex.kind v11),.str (Ex.rat v11),.str (Ex.name v11),.i (Ex.date v11),.sl (List.length (Ex.sub v11)) 5 (Ex.deep v11),.int .u8 5,.str #[].toList,.str #[].toList,.i 0,.osl 4 5 0 2],.box v1]) (.ex v7 λn_3=>let v12:=Tm.kon n_3;.A λn_4=>.R [.agg v1] [.box v2,.box v5,.box v1,.box v8,.arr 2 5 v4,.box v6,.box [.int .u8 (Ex.kind v12),.str (Ex.rat v12),.str (Ex.name v12),.i (Ex.date v12),.sl (List.length (Ex.sub v12)) 5 (Ex.deep v12),.int .u8 5,.str #[].toList,.str #[].toList,.i 0,.osl 4 5 0 2],.box v1]))) ?_;simp only [q32,Tree.holds,zh];refine⟨t.zb,⟨⟨rfl,trivial⟩,trivial⟩,⟨(),trivial⟩,λ_ _=>⟨λh=> ?_,λh=> ?_⟩⟩
 ·subst h;refine⟨⟨true,trivial⟩,λ_ _=>⟨λ_=> ?_,λ_=> ?_⟩⟩
  all_goals
   refine⟨[48],⟨⟨rfl,trivial⟩,trivial⟩,⟨(),trivial⟩,λ_ _=> ?_⟩;exact RetR.xO [0] rfl rfl (by show ∀ j,j<1->_; decide) rfl hq (LeA.agg ⟨LeA.refl _,LeA.refl _,LeA.refl _,LeA.refl _,Ex.yn (x:=Tm.kon [48]) (y:=Tm.opx 5 [Tm.kon t.zb,x]) ⟨LeA.refl _,LeA.refl _,LeA.refl _,LeA.refl _,LeA.refl _,LeA.refl _,LeA.refl _,LeA.refl _,LeA.refl _,Ex.yn ⟨LeA.refl _,LeA.refl _,LeA.refl _,LeA.refl _,LeA.refl _,LeA.refl _,LeA.refl _,LeA.refl _,LeA.refl _,Ex.xJ x,trivial⟩,trivial⟩,trivial⟩) (by simp [expH,expB,exp1,exp0,ren0,Deal.cells]) rfl
 ·subst h;refine⟨⟨true,trivial⟩,λ_ _=>⟨λ_=> ?_,λ_=> ?_⟩⟩
  all_goals
   refine⟨[48],⟨⟨rfl,trivial⟩,trivial⟩,⟨(),trivial⟩,λ_ _=> ?_⟩;exact RetR.xO [0] rfl rfl (by show ∀ j,j<1->_; decide) rfl hq (LeA.agg ⟨LeA.refl _,LeA.refl _,LeA.refl _,LeA.refl _,Ex.yn (x:=Tm.kon [48]) (y:=Tm.opx 5 [x,Tm.kon t.zb]) ⟨LeA.refl _,LeA.refl _,LeA.refl _,LeA.refl _,LeA.refl _,LeA.refl _,LeA.refl _,LeA.refl _,LeA.refl _,Ex.yn ⟨LeA.refl _,LeA.refl _,LeA.refl _,LeA.refl _,Ex.xJ x,LeA.refl _,LeA.refl _,LeA.refl _,LeA.refl _,LeA.refl _,trivial⟩,trivial⟩,trivial⟩) (by simp [expH,expB,exp1,exp0,ren0,Deal.cells]) rfl
def payC:Ctr:=ctrT false false (λp:Deal×Int×Ex×L8=>[.ptr 0 0,p.2.2.1.exA,.str p.2.2.2]) (λp=>[.box (p.1.cells p.2.1)]) (λ_=>True) (λ_ (_:Unit)=>True) (λp _=>((Tm.pay p.1 p.2.2.1 p.2.2.2).conD,[.box (p.1.cells p.2.1)]))
theorem zri:zg prog 35 payC:=by
 refine zD (fn:=f35) (c:=f35.body.getD .skip) rfl rfl rfl (λh=>by cases h) λp hp O w0 I0 Q hl0 hq=> ?_
 obtain⟨t,e,x,r⟩:=p;replace hq:=hq () trivial;simp only at hq;refine zd.n GPt.h [] (let v1:List AV:=[.int .u8 2,.str t.short,.str t.long,.str t.ccy,.int .u8 6,.str #[].toList,.str #[].toList,.i 0,.osl 3 5 0 2,.i 0,.nils,.nils];.ex (q32 [.str r]) λn=>.A λn_1=>.R [.agg v1] [.box [.i e,.str t.long,.str t.short,.str t.ccy,.str t.name,.str t.zb,.str t.ze],.box [.int .u8 x.kind,.str x.rat,.str x.name,.i x.date,.sl x.sub.length 5 (Ex.exG x.sub)],.box v1,.arr 2 5 (zj 5 [.int .u8 x.kind,.str x.rat,.str x.name,.i x.date,.sl x.sub.length 5 (Ex.exG x.sub),.int .u8 (Ex.kind (Tm.kon n)),.str (Ex.rat (Tm.kon n)),.str (Ex.name (Tm.kon n)),.i (Ex.date (Tm.kon n)),.sl (List.length (Ex.sub (Tm.kon n))) 5 (Ex.deep (Tm.kon n))]),.box [.int .u8 6,.str #[].toList,.str #[].toList,.i 0,.osl 3 5 0 2]]) ?_;simp only [q32,Tree.holds,zh];refine⟨r,⟨⟨rfl,trivial⟩,trivial⟩,⟨(),trivial⟩,λ_ _=> ?_⟩;exact RetR.xO [0] rfl rfl (by show ∀ j,j<1->_; decide) rfl hq (LeA.agg ⟨LeA.refl _,LeA.refl _,LeA.refl _,LeA.refl _,LeA.refl _,LeA.refl _,LeA.refl _,LeA.refl _,Ex.zmj (x:=x) (y:=Tm.kon r) ⟨LeA.refl _,LeA.refl _,LeA.refl _,LeA.refl _,Ex.xJ x,LeA.refl _,LeA.refl _,LeA.refl _,LeA.refl _,LeA.refl _,trivial⟩,LeA.refl _,LeA.nils,LeA.nils,trivial⟩) (by simp [expH,expB,exp1,exp0,ren0,Deal.cells]) rfl
def onC:Ctr:=ctrP false (λp:Int×Con=>[.i p.1,p.2.conA]) (λ_=>True) (λ_ (_:Unit)=>True) (λp _=>((Tm.at_ p.1 p.2).conD,[]))
theorem zt4:zg prog 34 onC:=by
 refine zm' f34 λp hp O w0 Q hq=> ?_
 obtain⟨d,c⟩:=p;replace hq:=hq () trivial;simp only at hq;refine zd.n zJ [] (let v1:List AV:=[.int .u8 6,.str #[].toList,.str #[].toList,.str #[].toList,.int .u8 0,.str #[].toList,.str #[].toList,.i 0,.nils,.i d,.nils,.osl 2 12 0 1];.R [.agg v1] [.box (Con.zi c),.box v1,.arr 1 12 (zj 12 (Con.zi c))]) ?_;simp only [Tree.holds,zh];exact RetR.le0 hq (λh=>by cases h) (LeA.agg ⟨LeA.refl _,LeA.refl _,LeA.refl _,LeA.refl _,LeA.refl _,LeA.refl _,LeA.refl _,LeA.refl _,LeA.nils,LeA.refl _,LeA.nils,Con.zm4 (e:=c) ⟨LeA.refl _,LeA.refl _,LeA.refl _,LeA.refl _,LeA.refl _,LeA.refl _,LeA.refl _,LeA.refl _,LeA.refl _,LeA.refl _,LeA.refl _,Con.xJ c,trivial⟩,trivial⟩)
end Go.Proofs.Tryz
end
section
namespace Go.Nov
open Go.Sx
namespace Tm
theorem Zw{d:Deal}{x:Ex}{r:L8}(h:fits d):(pay d x r).big<=1000+x.size+x.z9+r.length:=by
 obtain⟨h1,h2,h3,h4,h5,h6⟩:=h;simp only [pay,opx,kon,Con.big,Con.bigs,Ex.size,Ex.zz,Ex.z9,Ex.zY,List.length_nil];omega
theorem zn0{d:Deal}{day:Int}(h:fits d):(fwd d day).big<100000:=by
 have h':=h;obtain⟨h1,h2,h3,h4,h5,h6⟩:=h;have:=Zw (x:=opx 5 [spot d.name,kon d.zb]) (r:=d.ze) h';simp only [fwd,at_,Con.big,Con.bigs,Ex.size,Ex.zz,Ex.z9,Ex.zY,List.length_nil,opx,spot,kon] at this ⊢;omega
theorem Yo{k n:L8}{put:Bool} : (over k (spot n) put).size+(over k (spot n) put).z9<=20+k.length+n.length:=by
 cases put<;>simp only [over,opx,spot,kon,Ex.size,Ex.zz,Ex.z9,Ex.zY,List.length_nil,aL,aP,Bool.false_eq_true,if_false]<;>omega
theorem zoz{d:Deal}{day:Int}{put:Bool}(h:fits d):(pff d day put).big<100000:=by
 have h':=h;obtain⟨h1,h2,h3,h4,h5,h6⟩:=h;have:=Zw (x:=over d.zb (spot d.name) put) (r:=d.ze) h';have:=Yo (k:=d.zb) (n:=d.name) (put:=put);simp only [pff,at_,Con.big,Con.bigs,Ex.size,Ex.zz,Ex.z9,Ex.zY,List.length_nil];omega
theorem zok{d:Deal}{ch:L8}{days:List Int}{put:Bool}(h:fits d)(hc:ch.length<=200)(hd:days.length<=200):(opt d ch days put).big<100000:=by
 have h':=h;obtain⟨h1,h2,h3,h4,h5,h6⟩:=h;have:=Zw (x:=over d.zb (spot d.name) put) (r:=d.ze) h';have:=Yo (k:=d.zb) (n:=d.name) (put:=put);simp only [opt,call,Con.big,Con.bigs,Ex.size,Ex.zz,Ex.z9,Ex.zY,List.length_nil];omega
end Tm
end Go.Nov
end
