/- Part 7 of the proof. -/
import Derived.Test.YtpnllbdffdpoaaaGreatDoorSxf
set_option linter.unusedVariables false
set_option linter.unusedSimpArgs false
set_option linter.unusedSectionVars false
section
set_option maxRecDepth 100000
open Go Go.Sx Go.Proofs Go.Nov
namespace Go.Proofs.Tryz
attribute [local simp] eqKV eqA eqA0 eqH eqB eqL eqL0
theorem QN(s:L8):Lib.indexByte s 47=if zO s<s.length then(zO s:Int) else -1:=by
 induction s with
 | nil=>rfl
 | cons c s ih=>
  simp only [Lib.indexByte,zO,List.findIdx_cons];cases h:(c == 47) with
  | true=>simp
  | false=>
   simp only [Bool.false_eq_true,if_false,ih,cond_false,aL];show _=if zO s+1<s.length+1 then((zO s+1:Nat):Int) else -1
   by_cases h2:zO s<s.length
   ·rw [aP h2,aO (by simp),aP (by omega)]; omega
   ·rw [aO h2,aP (by rfl),aO (by omega)]
def zbx:Ctr:=ctrP true (λs:L8=>[.str s,.str [47]]) (λs=>True) (λs r=>r=if zO s<s.length then(zO s:Int) else -1) (λ_ (r:Int)=>(.i r,[]))
theorem zjc:zd prog 170 zbx:=by
 intro args hc Q hq _;simp only [zbx,ctrP] at hq;split at hq
 ·obtain⟨s,⟨h1,_⟩,_,h3⟩:=hq;have hq:=h3 _ rfl;simp only [Tree.holds] at hq;refine j9.le h1 ?_;intro O w σ vals hg hh hr;simp only [RepL,Rep] at hr;obtain⟨v1,r1,rfl,rfl,v2,r2,rfl,rfl,rfl⟩:=hr;refine .inl ⟨enters_of Tryz.func170 (by kernel_rfl) rfl ..,?_⟩;refine(Tryz.zab ⟨s.toArray⟩ 47 w).mono ?_;rintro e w' ⟨rfl,rfl⟩;have hx:=QN s;have h0:σ=[]:=aU.1 hh.len;subst h0;refine⟨_,rfl,_,[],[],hq,?_,⟨rfl,λi j e f a b h=>by simp at h,λi e a h=>by simp at h,λi e b h=>by simp at h⟩,hg,aJ _,Hold.refl _ _ _,Ext.refl _ _⟩;simp only [Rep];rw [<- hx]
 ·exact hq.elim
def cutC:Ctr:=ctrP true (λs:L8=>[.str s,.str [47]]) (λs=>s.length<2^62) (λs r=>r=cutR s) (λ_ r=>(.tup [.str r.1,.str r.2.1,.bool r.2.2],[]))
noncomputable def GC1:=tb zjc tz
theorem zpy:zd prog 157 cutC:=by
 refine zh' f157 λs hs O w0 Q hq=> ?_
 replace hq:=hq _ rfl;refine zc.n GC1.h [] (.ex (λ(x:L8)=>eqL [.str s,.str [(47:UInt8)]] [.str x,.str [(47:UInt8)]]/\True) λn=>.all (λ(r:Int)=>r=if zO n<n.length then(↑(zO n):Int) else(-1:Int)) λn=>.D ((0:Int)<=n) (.side ((0:Int)<=n/\n<=(s.length:Int)) (.S (n+(1:Int)) (.side ((0:Int)<=n+(1:Int)/\n+(1:Int)<=s.length) (.R [.str (List.drop 0 (List.take (Int.toNat n) s)),.str (List.drop (Int.toNat (n+(1:Int))) (List.take s.length s)),.bool true] [])))) (.R [.str s,.str #[].toList,.bool false] [])) ?_;simp only [Tree.holds,zf,inR,lo,hi];refine⟨s,⟨by simp,trivial⟩,⟨_,rfl⟩,?_⟩;rintro _ rfl;by_cases h:zO s<s.length
 ·simp only [aP h];rw [zc7 h] at hq;refine⟨λ_=>⟨by omega,λ_=>⟨by omega,λ_=>⟨by omega,λ_=> ?_⟩⟩⟩,λhn=> ?_⟩
  ·refine RetR.scal hq rfl ?_;simp [resV]
  ·have:=aC hn; omega
 ·simp only [aO h];rw [zhy h] at hq;refine⟨λhn=> ?_,λ_=>RetR.scal hq rfl (by simp [resV])⟩;have:=aB hn; omega
noncomputable def GC2:=tb zpy tz
abbrev q20(A:List AV)(x:L8):Prop:=eqL A [.str x,.str [(47:UInt8)]]/\x.length<4611686018427387904
theorem zrx:zd prog 127 cutC:=by
 refine zh' f127 λs hs O w0 Q hq=> ?_
 replace hq:=hq _ rfl;refine zc.n GC2.h [] (.ex (q20 [.str s,.str [(47:UInt8)]]) λn=>.all (λ(r:L8×L8×Bool)=>r=cutR n) λn=>.R [.str n.1,.str n.2.1,.bool n.2.2] []) ?_;simp only [q20,Tree.holds,zf,inR,lo,hi];refine⟨s,⟨by simp,hs⟩,⟨_,rfl⟩,?_⟩;rintro _ rfl;exact RetR.scal hq rfl (by simp [resV])
def zad:Ctr:=ctrP true (λs:L8=>[.str s]) (λs=>s.length<2^62) (λs r=>r=cutR s) (λ_ r=>(.tup [.str r.1,.str r.2.1,.bool r.2.2],[]))
noncomputable def GC3:=tb zrx (tb WL tz)
theorem Yx:zd prog 89 zad:=by
 refine zh' f89 λs hs O w0 Q hq=> ?_
 replace hq:=hq _ rfl;refine zc.n GC3.h [] (.ex (q20 [.str s,.str #[(47:UInt8)].toList]) λn=>.all (λ(r:L8×L8×Bool)=>r=cutR n) λn=>.R [.str n.1,.str n.2.1,.bool n.2.2] []) ?_;simp only [q20,Tree.holds,zf,inR,lo,hi];refine⟨s,⟨by simp,hs⟩,⟨_,rfl⟩,?_⟩;rintro _ rfl;exact RetR.scal hq rfl (by simp [resV])
def zrp:Ctr:=ctrP true (λs:L8=>[.str s]) (λs=>s.length<2^62) (λs r=>r=if errI s=12 then 12 else 0) (λ_ (r:Int)=>(.i r,[]))
theorem zpr:zd prog 90 zrp:=by
 refine zh' f90 λs hs O w0 Q hq=> ?_
 replace hq:=hq _ rfl;refine zc.n GC3.h [] (.ex (q15 [.str s]) λn=>.all (λ(r:Int)=>r=errI n) λn=>.N (n=14) (.R [.i n] []) (.R [.i 0] [])) ?_;simp only [q15,Tree.holds,zf,inR,lo,hi];refine⟨s,⟨by simp,hs⟩,⟨_,rfl⟩,?_⟩;rintro _ rfl;rcases x8 s with h | h | h<;>simp only [h] at hq ⊢
 all_goals
  refine⟨λh=> ?_,λh=> ?_⟩
  all_goals first
   | (exfalso; revert h; decide)
   | exact RetR.scal hq rfl (by simp [resV])
def yK:Ctr:=ctrP true (λs:L8=>[.str s]) (λs=>s.length<2^62) (λs r=>r=errR s) (λ_ (r:Int)=>(.i r,[]))
noncomputable def GC4:=tb Yx (tb zpr (tb WL (tb zkj tz)))
theorem xg:zd prog 60 yK:=by
 refine zh' f60 λs hs O w0 Q hq=> ?_
 replace hq:=hq _ rfl;refine zc.n GC4.h [] (.ex (q15 [.str s]) λn=>.all (λ(r:L8×L8×Bool)=>r=cutR n) λn=>.ex (q15 [.str n.1]) λn_1=>.all (λ(r:Int)=>r=if errI n_1=12 then(12:Int) else(0:Int)) λn_2=>.ex (λ(x:L8)=>(!decide (n_2=0))=false/\n.2.2=true->q15 [.str n.2.1] x) λn_3=>.all (λ(x:Int)=>(!decide (n_2=0))=false/\n.2.2=true->x=if errI n_3=12 then(12:Int) else(0:Int)) λn_4=>.side (((!decide (n_2=0))=false/\n.2.2=true)/\(!decide (n_4=0))=false->(0:Int)<=0/\(0:Int)<n.2.1.length) (.ite (bif !decide (n_2=0) then true else bif n.2.2 then bif bif bif !decide (n_4=0) then true else decide ((↑(UInt8.toNat (List.getD n.2.1 0 (0:UInt8))):Int)=45) then true else decide (n.2.1=#[(48:UInt8)].toList) then true else decide (n.2.1=#[(49:UInt8)].toList) else false) (.R [.i 12] []) (.ex (q15 [.str n.1]) λn_5=>.all (λ(r:Int)=>r=errI n_5) λn_6=>.ex (λ(x:L8)=>(!decide (n_6=0))=false/\n.2.2=true->q15 [.str n.2.1] x) λn_7=>.all (λ(x:Int)=>(!decide (n_6=0))=false/\n.2.2=true->x=errI n_7) λn_8=>.ite (bif !decide (n_6=0) then true else bif n.2.2 then !decide (n_8=0) else false) (.R [.i 14] []) (.ite n.2.2 (.ex (q17 [.str n.1,.str n.2.1]) λn=>.all (λ(r:L8×Int)=>r=gcdR n.1 n.2) λn=>.N (n.1=#[(49:UInt8)].toList) (.R [.i 12] []) (.R [.i 0] [])) (.R [.i 0] []))))) ?_;simp only [q15,q17,Tree.holds,zf,inR,lo,hi];refine⟨s,⟨by simp,hs⟩,⟨_,rfl⟩,?_⟩;rintro _ rfl;have hlen:=X0 s
 have hno:(cutR s).2.2=false->(cutR s).1=s:=by
  intro h;unfold cutR at h ⊢;split at h
  ·cases h
  ·rename_i hn; rw [aO hn]
 simp only [errR] at hq;generalize cutR s=c at hq hlen hno ⊢;obtain⟨n,d,f⟩:=c;simp only at hq hlen hno ⊢;refine⟨n,⟨by simp,by omega⟩,⟨_,rfl⟩,?_⟩;rintro _ rfl;refine⟨d,λ_=>⟨by simp,by omega⟩,⟨_,λ_=>rfl⟩,?_⟩;intro fd hfd;cases f with
 | false=>
  have hn:=hno rfl;subst hn;rw [aO (by decide)] at hq;refine⟨λh=>by simp at h,λ_=>⟨λh=> ?_,λh=> ?_⟩⟩
  ·rcases x8 n with e | e | e<;>rw [e] at hq h
   ·simp at h
   ·exact RetR.scal hq rfl (by simp [resV])
   ·simp at h
  ·have hn12:errI n≠12:=by
    intro e; rw [e] at h; simp at h
   refine⟨n,⟨by simp,by omega⟩,⟨_,rfl⟩,?_⟩;rintro _ rfl;refine⟨d,λ_=>⟨by simp,by omega⟩,⟨_,λ_=>rfl⟩,?_⟩;intro fd2 _;refine⟨λh=> ?_,λh=>⟨λh=>(by cases h),λ_=> ?_⟩⟩
   ·rcases x8 n with e | e | e
    ·rw [e] at h; simp at h
    ·exact absurd e hn12
    ·rw [e] at hq; exact RetR.scal hq rfl (by simp [resV])
   ·rcases x8 n with e | e | e
    ·rw [e] at hq; exact RetR.scal hq rfl (by simp [resV])
    ·exact absurd e hn12
    ·rw [e] at h; simp at h
 | true=>
  rw [aP rfl] at hq;by_cases hn:errI n=12
  ·rw [aP (.inl hn)] at hq;simp only [hn];refine⟨λh=>by simp at h,λ_=>⟨λ_=>RetR.scal hq rfl (by simp [resV]),λh=>by simp at h⟩⟩
  ·rw [aO hn] at hfd ⊢;have hfd:=hfd ⟨by simp,rfl⟩;subst hfd;by_cases hd:errI d=12
   ·rw [aP (.inr (.inl hd))] at hq;rw [aP hd];refine⟨λh=>by simp at h,λ_=>⟨λ_=>RetR.scal hq rfl (by simp [resV]),λh=>by simp at h⟩⟩
   ·rw [aO hd];have hd0:d≠[]:=by rintro rfl; exact hd U3
    have hneg:=VE hd0
    have hneg2:decide (((d.getD 0 0).toNat:Int)=45)=negI d:=by
     rw [hneg];by_cases h:d.getD 0 0=45
     ·rw [h]; rfl
     ·rw [aW h];refine aW λh2=>h (Uh ?_)
      rw [h2]; rfl
    rw [hneg2];refine⟨λ_=>by have:=List.length_pos_iff.2 hd0; omega,λ_=>⟨λh=> ?_,λh=> ?_⟩⟩
    ·have:negI d=true\/d=[48]\/d=[49]:=by
      revert h
      cases negI d<;>simp
     rw [aP (.inr (.inr this))] at hq;exact RetR.scal hq rfl (by simp [resV])
    ·have:¬ (errI n=12\/errI d=12\/negI d=true\/d=[48]\/d=[49]):=by
      revert h
      cases negI d<;>simp [hn,hd]
     rw [aO this] at hq;refine⟨n,⟨by simp,by omega⟩,⟨_,rfl⟩,?_⟩;rintro _ rfl;refine⟨d,λ_=>⟨by simp,by omega⟩,⟨_,λ_=>rfl⟩,?_⟩;intro ed hed;by_cases hn0:errI n=0
     ·have hed:=hed ⟨by simp [hn0],rfl⟩;subst hed;by_cases hd0:errI d=0
      ·rw [aO (by simp [hn0,hd0])] at hq;refine⟨λh=>by simp [hn0,hd0] at h,λ_=>⟨λ_=> ?_,λh=>by cases h⟩⟩;refine⟨(n,d),⟨by simp,by simp only; omega,by simp only; omega⟩,⟨_,rfl⟩,?_⟩;rintro _ rfl;refine⟨λh=> ?_,λh=> ?_⟩
       ·rw [aP (by simpa using h)] at hq;exact RetR.scal hq rfl (by simp [resV])
       ·rw [aO (by simpa using h)] at hq;exact RetR.scal hq rfl (by simp [resV])
      ·rw [aP (.inr hd0)] at hq;refine⟨λ_=>RetR.scal hq rfl (by simp [resV]),λh=>by simp [hn0,hd0] at h⟩
     ·rw [aP (.inl hn0)] at hq;refine⟨λ_=>RetR.scal hq rfl (by simp [resV]),λh=>by simp [hn0] at h⟩
noncomputable def K56:=Go.Sx.aA f56
def Ji:Ctr:=ctrP true (λd:Int=>[.i d]) (λ_=>True) (λd r=>r=dayB d) (λ_ (r:Bool)=>(.bool r,[]))
theorem Qb:zd prog 59 Ji:=by
 refine zh' f59 λd hs O w0 Q hq=> ?_
 replace hq:=hq _ rfl;refine zc.n zD [] (.R [.bool (bif decide ((0:Int)<=d) then decide (d<=99999) else false)] []) ?_;simp only [Tree.holds,zf];refine RetR.scal hq rfl ?_;simp only [resV,dayB];cases decide (0<=d)<;>rfl
theorem zo8(c:UInt8):(bif bif decide (97<=(c.toNat:Int)) then decide ((c.toNat:Int)<=122) else false then true else bif decide (65<=(c.toNat:Int)) then decide ((c.toNat:Int)<=90) else false)=isL c:=by
 have e1:decide (97<=(c.toNat:Int))=decide (97<=c.toNat):=decide_eq_decide.2 (by omega);have e2:decide ((c.toNat:Int)<=122)=decide (c.toNat<=122):=decide_eq_decide.2 (by omega);have e3:decide (65<=(c.toNat:Int))=decide (65<=c.toNat):=decide_eq_decide.2 (by omega);have e4:decide ((c.toNat:Int)<=90)=decide (c.toNat<=90):=decide_eq_decide.2 (by omega);rw [e1,e2,e3,e4];simp only [isL];cases decide (97<=c.toNat)<;>cases decide (c.toNat<=122)<;>cases decide (65<=c.toNat)<;>rfl
def zcv:Ctr:=ctrP true (λc:UInt8=>[.int .u8 (c.toNat:Int)]) (λ_=>True) (λc r=>r=isL c) (λ_ (r:Bool)=>(.bool r,[]))
theorem zer:zd prog 87 zcv:=by
 refine zh' f87 λc hs O w0 Q hq=> ?_
 replace hq:=hq _ rfl;refine zc.n zD [] (.R [.bool (bif bif decide ((97:Int)<=(↑(UInt8.toNat c):Int)) then decide ((↑(UInt8.toNat c):Int)<=122) else false then true else bif decide ((65:Int)<=(↑(UInt8.toNat c):Int)) then decide ((↑(UInt8.toNat c):Int)<=90) else false)] []) ?_;simp only [Tree.holds,zf];refine RetR.scal hq rfl ?_;simp only [resV];rw [zo8]
theorem VG(c d:UInt8):decide ((c.toNat:Int)=(d.toNat:Int))=(c == d):=by
 by_cases h:c=d
 ·subst h; simp
 ·rw [aW λh2=>h (Uh h2)];simp [h]
theorem zpp(c:UInt8):(bif decide ((c.toNat:Int)<48) then true else decide (57<(c.toNat:Int))) = !isD c:=by
 rw [Bool.cond_eq_ite]; exact W9 c
theorem zmg(c:UInt8):(bif bif bif !isL c then bif decide ((c.toNat:Int)<48) then true else decide (57<(c.toNat:Int)) else false then !decide ((c.toNat:Int)=95) else false then !decide ((c.toNat:Int)=45) else false) = !isN c:=by
 rw [zpp];have e1:decide ((c.toNat:Int)=95)=(c == 95):=VG c 95;have e2:decide ((c.toNat:Int)=45)=(c == 45):=VG c 45;rw [e1,e2]; simp only [isN];cases isL c<;>cases isD c<;>cases (c == 95)<;>cases (c == 45)<;>rfl
def JO:Ctr:=ctrP true (λs:L8=>[.str s]) (λs=>s.length<2^62) (λs r=>r=zy s) (λ_ (r:Bool)=>(.bool r,[]))
noncomputable def GN1:=tb zer tz
def SNa(s:L8)(i:Nat):KV:=[(0,.str s),(20,.i (s.length:Int)),(21,.i (i:Int)),Z 31,Z 32,Z 33,Z 34,Z 35,Z 36,Z 39,Z 40,Z 43,Z 44]
theorem zf8{O:Nat->Prop}{w0:World}{Q:AV×Heap->Prop}{Hs:Nat->KV->Heap->Prop}(s:L8)(hs:s.length<2^62)(hq:Q (.bool (s.all isN),[])) :
  zc prog f56 O 0 w0 [] Hs (RetR JO 0 Q) (.code (.loop (lps K56 0).1)::(lps K56 0).2) (mk f56.ntmps (SNa s 0) []):=by
 refine zc.loop (ι:={i:Nat // i<=s.length/\∀ j,j<i->isN (s.getD j 0)=true}) (λi=>SNa s i.1) (λ_=>[]) (λi=>s.length - i.1) ⟨0,aI _,λj hj=>by omega⟩ 0 ?_ ?_ (by kernel_rfl)
 ·exact⟨by simp [SNa],by simp,by kernel_rfl,aI _⟩
 ·rintro⟨i,hil,hib⟩;refine zc.n GN1.h [0,20,21,31,32,33,34,35,36,39,40,43,44] (let v1:=s.getD (i:Int).toNat (0:UInt8);.D ((i:Int)<s.length) (.side ((0:Int)<=i/\(i:Int)<s.length) (.ex (λ(x:UInt8)=>eqL [.int .u8 ↑(UInt8.toNat v1)] [.int .u8 ↑(UInt8.toNat x)]/\True) λn=>.all (λ(r:Bool)=>r=isL n) λn=>.ite (bif bif bif !n then bif decide ((↑(UInt8.toNat v1):Int)<48) then true else decide ((57:Int)<(↑(UInt8.toNat v1):Int)) else false then !decide ((↑(UInt8.toNat v1):Int)=95) else false then !decide ((↑(UInt8.toNat v1):Int)=45) else false) (.R [.bool false] []) (.S (i+1) (.leaf (.back 0 [(0,.str s),(20,.i s.length),(21,.i (i+1)),Z 31,Z 32,Z 33,Z 34,Z 35,Z 36,Z 39,Z 40,Z 43,Z 44] []))))) (.R [.bool true] [])) ?_;simp only [Tree.holds,zf,inR,lo,hi,aD];refine⟨λhlt=> ?_,λhge=> ?_⟩
  ·have hlt:i<s.length:=by have:=aB hlt; omega
   refine⟨by omega,λ_=>⟨s.getD i 0,⟨by simp,trivial⟩,⟨_,rfl⟩,?_⟩⟩;rintro _ rfl;rw [zmg];refine⟨λh=> ?_,λh=>⟨by omega,λ_=> ?_⟩⟩
   ·rw [XJ hlt (by simpa using h)] at hq;exact RetR.scal hq rfl (by simp [resV])
   ·rw [aP trivial];refine⟨⟨i+1,hlt,λj hj=> ?_⟩,by show s.length - (i+1)<s.length - i; omega,by simp [SNa],by simp,by kernel_rfl,aI _⟩;rcases aR j i with h1 | h1
    ·exact hib j h1
    ·have:j=i:=by omega
     rw [this]; simpa using h
  ·have hge:i=s.length:=by have:=aC hge; omega
   subst hge;rw [znc hib] at hq;exact RetR.scal hq rfl (by simp [resV])
theorem Zm:zd prog 56 JO:=by
 refine zh' f56 λs hs O w0 Q hq=> ?_
 replace hq:=hq _ rfl;refine zc.n GN1.h [0,20,21,31,32,33,34,35,36,39,40,43,44] (.side ((bif decide ((s.length:Int)<1) then true else decide ((40:Int)<s.length))=false->(0:Int)<=0/\(0:Int)<s.length) (.ex (λ(x:UInt8)=>(bif decide ((s.length:Int)<1) then true else decide ((40:Int)<s.length))=false->eqL [.int .u8 ↑(UInt8.toNat (s.getD 0 (0:UInt8)))] [.int .u8 ↑(UInt8.toNat x)]/\True) λn=>.all (λ(x:Bool)=>(bif decide ((s.length:Int)<1) then true else decide ((40:Int)<s.length))=false->x=isL n) λn=>.ite (bif bif decide ((s.length:Int)<1) then true else decide ((40:Int)<s.length) then true else !n) (.R [.bool false] []) (.leaf (.loop (lps K56 0).1 (lps K56 0).2 [(0,.str s),(20,.i s.length),(21,.i 0),Z 31,Z 32,Z 33,Z 34,Z 35,Z 36,Z 39,Z 40,Z 43,Z 44] [])))) ?_;simp only [Tree.holds,zf,inR,lo,hi]
 have hd:decide ((s.length:Int)<1) = !decide (0<s.length):=by
  by_cases h:0<s.length
  ·rw [aX h,aW (by omega)]; rfl
  ·rw [aW h,aX (by omega)]; rfl
 have hd2:decide (40<(s.length:Int)) = !decide (s.length<=40):=by
  by_cases h:s.length<=40
  ·rw [aX h,aW (by omega)]; rfl
  ·rw [aW h,aX (by omega)]; rfl
 rw [hd,hd2];have hnb:zy s=(decide (0<s.length)&&decide (s.length<=40)&&isL (s.getD 0 0)&&s.all isN):=rfl;cases h1:decide (0<s.length) with
 | false=>
  rw [hnb,h1] at hq;refine⟨λh=>(by cases h),λ_=>⟨0,λh=>(by cases h),⟨false,λh=>(by cases h)⟩,?_⟩⟩;intro b _;exact⟨λ_=>RetR.scal hq rfl (by simp [resV]),λh=>(by cases h)⟩
 | true=>
  have h1':=aB h1;cases h2:decide (s.length<=40) with
  | false=>
   rw [hnb,h1,h2] at hq;refine⟨λh=>(by cases h),λ_=>⟨0,λh=>(by cases h),⟨false,λh=>(by cases h)⟩,?_⟩⟩;intro b _;exact⟨λ_=>RetR.scal hq rfl (by simp [resV]),λh=>(by cases h)⟩
  | true=>
   refine⟨λ_=>by omega,λ_=>⟨s.getD 0 0,λ_=>⟨by simp,trivial⟩,⟨_,λ_=>rfl⟩,?_⟩⟩;intro b hb;have hb:=hb rfl;subst hb;cases h3:isL (s.getD 0 0) with
   | false=>
    rw [hnb,h1,h2,h3] at hq;exact⟨λ_=>RetR.scal hq rfl (by simp [resV]),λh=>(by cases h)⟩
   | true=>
    rw [hnb,h1,h2,h3] at hq;refine⟨λh=>(by cases h),λ_=> ?_⟩;exact zf8 s hs hq
noncomputable def K130:=Go.Sx.aA f130
theorem vJ{X R:Type}{P:Program}{g:Nat}{fresh:Bool}{inp:X->List AV}{pre:X->Prop}{post:X->R->Prop}{out:X->R->AV×Heap}(μ:X->Nat)
  (step:∀ n,zd P g (ctrP fresh inp (λx=>μ x<n/\pre x) post out)->zd P g (ctrP fresh inp (λx=>μ x<n+1/\pre x) post out)):zd P g (ctrP fresh inp pre post out):=by
 have all:∀ n,zd P g (ctrP fresh inp (λx=>μ x<n/\pre x) post out):=by
  intro n
  induction n with
  | zero=>
   intro args hc Q hq _;simp only [ctrP] at hq;split at hq
   ·obtain⟨x,⟨_,h,_⟩,_⟩:=hq;exact absurd h (Nat.not_lt_zero _)
   ·exact hq.elim
  | succ n ih=>exact step n ih
 intro args hc Q hq hf
 match hc,hq,hf with
 | [],hq,hf=>
  obtain⟨x,⟨h1,h2⟩,h3⟩:=hq;exact all (μ x+1) args [] Q ⟨x,⟨h1,Nat.lt_succ_self _,h2⟩,h3⟩ hf
 | _::_,hq,_=>exact hq.elim
def zd1(n:Nat):Ctr:=ctrP true (λx:Ex=>[x.exA]) (λx=>x.size<n/\x.size<2^62) (λx r=>r=x.size) (λ_ (r:Nat)=>(.i (r:Int),[]))
def GSz(g n:Nat):Nat->Option Ctr:=λf=>if f=g then some (zd1 n) else none
theorem zn6{g n:Nat}(h:zd prog g (zd1 n)):∀ f c,GSz g n f=some c->zd prog f c:=by
 intro f c hf;simp only [GSz] at hf;split at hf
 ·rename_i hg; subst hg; cases hf; exact h
 ·cases hf
theorem Za{x:Ex}{k d:Int}{r m:L8}{l:Nat}{g:Nat->Nat->AV}(hk:k=x.kind)(hr:r=x.rat)(hm:m=x.name)(hd:d=x.date)(hl:l=x.sub.length)(hg:eqG x.sub.length 5 g (Ex.exG x.sub)):eqL [.agg [.int .u8 k,.str r,.str m,.i d,.sl l 5 g]] [x.exA]:=by
 subst hk; subst hr; subst hm; subst hd; subst hl;exact⟨⟨⟨rfl,rfl⟩,rfl,rfl,⟨rfl,rfl⟩,⟨rfl,rfl,hg⟩,trivial⟩,trivial⟩
def SSz(s:List Ex)(c i:Nat):KV:=[(3,.i (c:Int)),(7,Ex.exS s),(8,.i (s.length:Int)),(9,.i (i:Int))]
theorem zf7(n:Nat)(ih:zd prog 130 (zd1 n)):zd prog 130 (zd1 (n+1)):=by
 refine zh' f130 λx hx O w0 Q hq=> ?_
 replace hq:=hq _ rfl;obtain⟨hxn,hxs⟩:=hx;rw [Ex.size_eq] at hxn hxs hq;obtain⟨k,r,m,d,s⟩:=x;simp only [Ex.sub] at hxn hxs hq;refine zc.n (zn6 ih) [3,7,8,9] (.leaf (.loop (lps K130 0).1 (lps K130 0).2 [(3,.i 1),(7,.sl s.length 5 (Ex.exG s)),(8,.i s.length),(9,.i 0)] [.box [.int .u8 k,.str r,.str m,.i d,.sl s.length 5 (Ex.exG s)]])) ?_;simp only [Tree.holds,zf];have hlen:=Ex.je s;refine zc.loop (ι:={i:Nat // i<=s.length}) (λi=>SSz s (1+Ex.zu (s.take i.1)) i.1) (λ_=>[]) (λi=>s.length - i.1) ⟨0,aI _⟩ 0 ?_ ?_ (by kernel_rfl)
 ·exact⟨by simp [SSz,Ex.zu,Ex.exS,za],by simp,by kernel_rfl,aI _⟩
 ·rintro⟨i,hil⟩;have hle:=Ex.uo s i;obtain⟨c,hc⟩:∃ c,1+Ex.zu (s.take i)=c:=⟨_,rfl⟩;simp only [hc];refine zc.n (zn6 ih) [3,7,8,9] (let v1:=s.getD (i:Int).toNat Ex.nil;.D ((i:Int)<s.length) (.side ((0:Int)<=i/\(i:Int)<s.length) (.ex (λ(x:Ex)=>eqL [.agg [.int .u8 (Ex.kind v1),.str (Ex.rat v1),.str (Ex.name v1),.i (Ex.date v1),.sl (List.length (Ex.sub v1)) 5 (Ex.deep v1)]] [.agg [.int .u8 x.kind,.str x.rat,.str x.name,.i x.date,.sl x.sub.length 5 (Ex.exG x.sub)]]/\Ex.size x<n/\Ex.size x<4611686018427387904) λn=>.all (λ(r:Nat)=>r=Ex.size n) λn=>.S ((c:Int)+n) (.S (i+1) (.leaf (.back 0 [(3,.i ((c:Int)+n)),(7,.sl s.length 5 (Ex.exG s)),(8,.i s.length),(9,.i (i+1))] [.box [.int .u8 (Ex.kind v1),.str (Ex.rat v1),.str (Ex.name v1),.i (Ex.date v1),.sl (List.length (Ex.sub v1)) 5 (Ex.deep v1)]]))))) (.R [.i c] [])) ?_;simp only [Tree.holds,zf,inR,lo,hi,aD];refine⟨λhlt=> ?_,λhge=> ?_⟩
  ·have hlt:i<s.length:=by have:=aB hlt; omega
   have hg:=Ex.qo hlt;have ht:=Ex.Wx s i hlt;have hle2:=Ex.uo s (i+1);refine⟨by omega,λ_=>⟨s.getD i Ex.nil,⟨Za rfl rfl rfl rfl rfl (Ex.qg _),by omega,by omega⟩,⟨_,rfl⟩,?_⟩⟩;rintro _ rfl;refine⟨by omega,λ_=>⟨by omega,λ_=> ?_⟩⟩;rw [aP trivial];refine⟨⟨i+1,hlt⟩,by show s.length - (i+1)<s.length - i; omega,?_,by simp,by kernel_rfl,aI _⟩;simp [SSz,Ex.exS,za,ht]; omega
  ·have hge:i=s.length:=by have:=aC hge; omega
   subst hge;rw [bD] at hc;rw [hc] at hq;exact RetR.scal hq rfl (by simp [resV])
def zd3:Ctr:=ctrP true (λx:Ex=>[x.exA]) (λx=>x.size<2^62) (λx r=>r=x.size) (λ_ (r:Nat)=>(.i (r:Int),[]))
theorem ze3:zd prog 130 zd3:=vJ Ex.size zf7
def G1c(g:Nat)(C:Ctr):Nat->Option Ctr:=λf=>if f=g then some C else none
theorem ZP{g:Nat}{C:Ctr}(h:zd prog g C):∀ f c,G1c g C f=some c->zd prog f c:=by
 intro f c hf;simp only [G1c] at hf;split at hf
 ·rename_i hg; subst hg; cases hf; exact h
 ·cases hf
noncomputable def K171:=Go.Sx.aA f171
def zi2(n:Nat):Ctr:=ctrP true (λp:Ex×Nat=>[p.1.exA,.i (p.2:Int)]) (λp=>p.1.size<n/\p.1.size<2^62/\p.2<2^40) (λp r=>r=min p.1.depth (p.2+1)) (λ_ (r:Nat)=>(.i (r:Int),[]))
def SDp(s:List Ex)(limit c i:Nat):KV:=[(1,.i (limit:Int)),(5,.i (c:Int)),(11,Ex.exS s),(12,.i (s.length:Int)),(13,.i (i:Int))]
theorem za3(n:Nat)(ih:zd prog 171 (zi2 n)):zd prog 171 (zi2 (n+1)):=by
 refine zh' f171 λp hp O w0 Q hq=> ?_
 obtain⟨x,limit⟩:=p;obtain⟨hxn,hxs,hli⟩:=hp;replace hq:=hq _ rfl;simp only at hxn hxs hli hq;have hds:=Ex.jF x;have hdp:=Ex.zgy x;rw [Ex.xh] at hq hds hdp;rw [Ex.size_eq] at hxn hxs hds;obtain⟨k,r,m,d,s⟩:=x;simp only [Ex.sub] at hxn hxs hq hds hdp;have hlen:=Ex.je s;refine zc.n (ZP ih) [1,5,11,12,13] (let v1:List Blk:=[.box [.int .u8 k,.str r,.str m,.i d,.sl s.length 5 (Ex.exG s)]];.D ((0:Int)<limit) (.leaf (.loop (lps K171 0).1 (lps K171 0).2 [(1,.i limit),(5,.i 0),(11,.sl s.length 5 (Ex.exG s)),(12,.i s.length),(13,.i 0)] v1)) (.S 1 (.R [.i 1] v1))) ?_;simp only [Tree.holds,zf,inR,lo,hi,aD];refine⟨λhl=> ?_,λhl=> ?_⟩
 ·have hl:0<limit:=by have:=aB hl; omega
  refine zc.loop (ι:={i:Nat // i<=s.length}) (λi=>SDp s limit (min (Ex.z8 (s.take i.1)) limit) i.1) (λ_=>[]) (λi=>s.length - i.1) ⟨0,aI _⟩ 0 ?_ ?_ (by kernel_rfl)
  ·exact⟨by simp [SDp,Ex.z8,Ex.exS,za],by simp,by kernel_rfl,aI _⟩
  ·rintro⟨i,hil⟩;obtain⟨c,hc⟩:∃ c,min (Ex.z8 (s.take i)) limit=c:=⟨_,rfl⟩;simp only [hc];refine zc.n (ZP ih) [1,5,11,12,13] (let v1:=s.getD (i:Int).toNat Ex.nil;.D ((i:Int)<s.length) (.side ((0:Int)<=i/\(i:Int)<s.length) (.S (limit-1) (.ex (λ(x:Ex×Nat)=>eqL [.agg [.int .u8 (Ex.kind v1),.str (Ex.rat v1),.str (Ex.name v1),.i (Ex.date v1),.sl (List.length (Ex.sub v1)) 5 (Ex.deep v1)],.i (limit-1)] [.agg [.int .u8 x.1.kind,.str x.1.rat,.str x.1.name,.i x.1.date,.sl x.1.sub.length 5 (Ex.exG x.1.sub)],.i x.2]/\Ex.size x.1<n/\Ex.size x.1<4611686018427387904/\x.2<1099511627776) λn=>.all (λ(r:Nat)=>r=min n.1.depth (n.2+1)) λn=>.S (i+1) (.leaf (.back 0 [(1,.i limit),(5,.i (max (c:Int) (n:Int))),(11,.sl s.length 5 (Ex.exG s)),(12,.i s.length),(13,.i (i+1))] [.box [.int .u8 (Ex.kind v1),.str (Ex.rat v1),.str (Ex.name v1),.i (Ex.date v1),.sl (List.length (Ex.sub v1)) 5 (Ex.deep v1)]]))))) (.S (c+1) (.R [.i (c+1)] []))) ?_;simp only [Tree.holds,zf,inR,lo,hi,aD];refine⟨λhlt=> ?_,λhge=> ?_⟩
   ·have hlt:i<s.length:=by have:=aB hlt; omega
    have hg:=Ex.qo hlt;have ht:=Ex.vA s i hlt;refine⟨by omega,λ_=>⟨by omega,λ_=>⟨(s.getD i Ex.nil,limit - 1),⟨?_,by show(s.getD i Ex.nil).size<n; omega,by show(s.getD i Ex.nil).size<2^62; omega,by show limit - 1<2^40; omega⟩,⟨_,rfl⟩,?_⟩⟩⟩
    ·have e1:(limit:Int) - 1=((limit - 1:Nat):Int):=by omega
     rw [e1];exact⟨⟨⟨rfl,rfl⟩,rfl,rfl,⟨rfl,rfl⟩,⟨rfl,rfl,Ex.qg _⟩,trivial⟩,⟨rfl,rfl⟩,trivial⟩
    rintro _ rfl;refine⟨by omega,λ_=> ?_⟩;rw [aP trivial];refine⟨⟨i+1,hlt⟩,by show s.length - (i+1)<s.length - i; omega,?_,by simp,by kernel_rfl,aI _⟩;simp [SDp,ht,Ex.exS,za]; omega
   ·have hge:i=s.length:=by have:=aC hge; omega
    subst hge;rw [bD] at hc;refine⟨by omega,λ_=> ?_⟩;exact RetR.scal hq rfl (by simp [resV]; omega)
 ·have hl:limit=0:=by have:=aC hl; omega
  refine⟨by decide,λ_=> ?_⟩;exact RetR.scal hq rfl (by simp [resV]; omega)
theorem zmn:zd prog 171 (ctrP true (λp:Ex×Nat=>[p.1.exA,.i (p.2:Int)]) (λp=>p.1.size<2^62/\p.2<2^40) (λp r=>r=min p.1.depth (p.2+1)) (λ_ (r:Nat)=>(.i (r:Int),[]))):=vJ (λp=>p.1.size) za3
noncomputable def K161:=Go.Sx.aA f161
def zrq:Ctr:=ctrP true (λx:Ex=>[x.exA]) (λx=>x.rat.length<2^40/\x.name.length<2^40) (λx r=>r=bif qV x.kind x.rat x.name x.date x.sub.length then 1 else 0) (λ_ (r:Int)=>(.int .u8 r,[]))
noncomputable def GLf:=tb xg (tb Zm (tb Qb tz))
abbrev q21(A:List AV)(x:Int):Prop:=eqL A [.i x]/\True
theorem zqm:zd prog 172 zrq:=by
 refine zh' f172 λx hx O w0 Q hq=> ?_
 obtain⟨k,r,m,d,s⟩:=x;replace hq:=hq _ rfl;obtain⟨h1,h2⟩:=hx;simp only [Ex.rat,Ex.name,Ex.kind,Ex.date,Ex.sub] at h1 h2 hq;refine zc.n GLf.h [] (let v2:=r=#[].toList;let v1:List Blk:=[.box [.int .u8 k,.str r,.str m,.i d,.sl s.length 5 (Ex.exG s)]];let v4:zZ:=.ret [.int .u8 1] v1;let v3:zZ:=.ret [.int .u8 0] v1;.D (k=1) (.ex (λ(x:L8)=>decide ((s.length:Int)=0)=true->q15 [.str r] x) λn=>.all (λ(x:Int)=>decide ((s.length:Int)=0)=true->x=errR n) λn=>.ite (!bif bif bif decide ((s.length:Int)=0) then decide (n=0) else false then decide (m=#[].toList) else false then decide (d=0) else false) (.leaf v3) (.leaf v4)) (.D (k=2) (.ex (λ(x:L8)=>(bif decide ((s.length:Int)=0) then decide v2 else false)=true->q15 [.str m] x) λn=>.all (λ(x:Bool)=>(bif decide ((s.length:Int)=0) then decide v2 else false)=true->x=zy n) λn=>.ex (λ(x:Int)=>(bif bif decide ((s.length:Int)=0) then decide v2 else false then n else false)=true->q21 [.i d] x) λn_1=>.all (λ(x:Bool)=>(bif bif decide ((s.length:Int)=0) then decide v2 else false then n else false)=true->x=dayB n_1) λn_2=>.ite (!bif bif bif decide ((s.length:Int)=0) then decide v2 else false then n else false then n_2 else false) (.leaf v3) (.leaf v4)) (.D (k=3) (.ex (λ(x:L8)=>(bif decide ((s.length:Int)=0) then decide v2 else false)=true->q15 [.str m] x) λn=>.all (λ(x:Bool)=>(bif decide ((s.length:Int)=0) then decide v2 else false)=true->x=zy n) λn=>.ite (!bif bif bif decide ((s.length:Int)=0) then decide v2 else false then n else false then decide (d=0) else false) (.leaf v3) (.leaf v4)) (.ite true (.leaf v3) (.leaf v4))))) ?_;simp only [q15,q21,Tree.holds,zf,inR,lo,hi,aD]
 have fin:∀ T:Bool,T=qV k r m d s.length->((!T)=true->Q (.int .u8 0,[]))/\((!T)=false->Q (.int .u8 1,[])):=by
  intro T hT;subst hT;cases hl:qV k r m d s.length with
  | true=>rw [hl] at hq; exact⟨λh=>(by cases h),λ_=>hq⟩
  | false=>rw [hl] at hq; exact⟨λ_=>hq,λh=>(by cases h)⟩
 refine⟨λhk=> ?_,λhk=> ?_⟩
 ·have hk:k=1:=aB hk;refine⟨r,λ_=>⟨by simp,by omega⟩,⟨_,λ_=>rfl⟩,?_⟩;intro e he
  have F:=fin (bif bif bif decide ((s.length:Int)=0) then decide (e=0) else false then decide (m=[]) else false then decide (d=0) else false) (by
   by_cases hl:s.length=0
   ·have:=he (by simp [hl]);subst this;simp [qV,hk,hl,Bool.and_assoc]
   ·simp [qV,hl])
  exact⟨λh=>RetR.scal (F.1 h) rfl (by simp [resV]),λh=>RetR.scal (F.2 h) rfl (by simp [resV])⟩
 ·have hk1:k≠1:=aC hk;refine⟨λhk=> ?_,λhk=> ?_⟩
  ·have hk:k=2:=aB hk;refine⟨m,λ_=>⟨by simp,by omega⟩,⟨_,λ_=>rfl⟩,?_⟩;intro e he;refine⟨d,λ_=>⟨by simp,trivial⟩,⟨_,λ_=>rfl⟩,?_⟩;intro f hf
   have F:=fin (bif bif bif decide ((s.length:Int)=0) then decide (r=[]) else false then e else false then f else false) (by
    by_cases hl:s.length=0
    ·by_cases hr:r=[]
     ·have:=he (by simp [hl,hr]);subst this;cases hn:zy m with
      | true=>
       have:=hf (by simp [hl,hr,hn]);subst this;simp [qV,hk,hl,hr,hn]
      | false=>simp [qV,hk,hl,hr,hn]
     ·simp [qV,hk,hl,hr]
    ·simp [qV,hl])
   exact⟨λh=>RetR.scal (F.1 h) rfl (by simp [resV]),λh=>RetR.scal (F.2 h) rfl (by simp [resV])⟩
  ·have hk2:k≠2:=aC hk;refine⟨λhk=> ?_,λhk=> ?_⟩
   ·have hk:k=3:=aB hk;refine⟨m,λ_=>⟨by simp,by omega⟩,⟨_,λ_=>rfl⟩,?_⟩;intro e he
    have F:=fin (bif bif bif decide ((s.length:Int)=0) then decide (r=[]) else false then e else false then decide (d=0) else false) (by
     by_cases hl:s.length=0
     ·by_cases hr:r=[]
      ·have:=he (by simp [hl,hr]);subst this;simp [qV,hk,hl,hr]
      ·simp [qV,hk,hl,hr]
     ·simp [qV,hl])
    exact⟨λh=>RetR.scal (F.1 h) rfl (by simp [resV]),λh=>RetR.scal (F.2 h) rfl (by simp [resV])⟩
   ·have hk3:k≠3:=aC hk;have F:=fin false (by simp [qV,hk1,hk2,hk3]);exact⟨λh=>RetR.scal (F.1 rfl) rfl (by simp [resV]),λh=>by cases h⟩
def SSo(s:List Ex)(i:Nat):KV:=[(3,.ptr 1 0),(41,Ex.exS s),(42,.i (s.length:Int)),(43,.i (i:Int))]
def HSo(k:Int):Heap:=[.dead,.box [.sl (jC k) 1 λj _=>.int .u8 (qL k j),.int .u8 (jk k)]]
def zeg(n:Nat):Ctr:=ctrP true (λx:Ex=>[x.exA]) (λx=>x.size<n/\x.size<2^60/\x.zB<2^40) (λx r=>r=x.zt) (λ_ (r:Int)=>(.int .u8 r,[]))
def GSo(n:Nat):Nat->Option Ctr:=λf=>if f=161 then some (zeg n) else if f=172 then some zrq else none
theorem zm4{n:Nat}(h:zd prog 161 (zeg n)):∀ f c,GSo n f=some c->zd prog f c:=by
 intro f c hf;simp only [GSo] at hf;split at hf
 ·rename_i hg; subst hg; cases hf; exact h
 ·split at hf
  ·rename_i hg; subst hg; cases hf; exact zqm
  ·cases hf
abbrev q22(A:List AV)(x:Ex):Prop:=eqL A [.agg [.int .u8 x.kind,.str x.rat,.str x.name,.i x.date,.sl x.sub.length 5 (Ex.exG x.sub)]]/\x.rat.length<1099511627776/\x.name.length<1099511627776
theorem zf9(n:Nat)(ih:zd prog 161 (zeg n)):zd prog 161 (zeg (n+1)):=by
 refine zh' f161 λx hx O w0 Q hq=> ?_
 replace hq:=hq _ rfl;obtain⟨hxn,hxs,hxb⟩:=hx;rw [Ex.size_eq] at hxn hxs;rw [Ex.zfz] at hxb;rw [Ex.Wk] at hq;obtain⟨k,r,m,d,s⟩:=x;simp only [Ex.sub,Ex.rat,Ex.name,Ex.kind,Ex.date] at hxn hxs hq hxb;refine zc.n (zm4 ih) [3,41,42,43] (let v5:=lps K161 0;let v3:List (Nat×AV):=[(3,.ptr 1 0),(41,.sl s.length 5 (Ex.exG s)),(42,.i s.length),(43,.i 0)];let v2:=q22 [.agg [.int .u8 k,.str r,.str m,.i d,.sl s.length 5 (Ex.exG s)]];let v1:List AV:=[.int .u8 k,.str r,.str m,.i d,.sl s.length 5 (Ex.exG s)];let v4:List Blk:=[.box v1,.box [.nils,.int .u8 0]];.ite (qH k) (.ite false (.ex v2 λn=>.all (λ(r:Int)=>r=bif qV n.kind n.rat n.name n.date n.sub.length then(1:Int) else(0:Int)) λn=>.R [.int .u8 n] [.box v1,.box [.sl (jC k) 1 λ(j x:Nat)=>.int .u8 (qL k j),.int .u8 (jk k)]]) (.ite (bif bif bif !decide ((s.length:Int)=(↑(jC k):Int)) then true else !decide (r=#[].toList) then true else !decide (m=#[].toList) then true else !decide (d=0)) (.R [.int .u8 0] [.box v1,.box [.sl (jC k) 1 λ(j x:Nat)=>.int .u8 (qL k j),.int .u8 (jk k)]]) (.leaf (.loop v5.1 v5.2 v3 [.box v1,.box [.sl (jC k) 1 λ(j x:Nat)=>.int .u8 (qL k j),.int .u8 (jk k)]])))) (.ite true (.ex v2 λn=>.all (λ(r:Int)=>r=bif qV n.kind n.rat n.name n.date n.sub.length then(1:Int) else(0:Int)) λn=>.R [.int .u8 n] v4) (.ite (bif bif bif !decide ((s.length:Int)=0) then true else !decide (r=#[].toList) then true else !decide (m=#[].toList) then true else !decide (d=0)) (.R [.int .u8 0] v4) (.leaf (.loop v5.1 v5.2 v3 v4))))) ?_;simp only [q22,Tree.holds,zf,inR,lo,hi,aD];refine⟨λhk=>⟨λh=>(by cases h),λ_=>⟨λh=> ?_,λh=> ?_⟩⟩,λhk=> ?_⟩
 ·have hn:¬ (r=[]/\m=[]/\d=0/\Ex.zP s=qt k):=by
   rintro⟨rfl,rfl,rfl,h4⟩;have:s.length=jC k:=by rw [<- Ex.j2,h4]; rfl
   simp [this] at h
  have e:wO k r m d (Ex.zP s)=0:=by unfold wO; rw [aP hk,aO hn]
  exact RetR.scal hq rfl (by simp [resV,e])
 ·have hh:s.length=jC k/\r=[]/\m=[]/\d=0:=by
   simp at h;obtain⟨⟨⟨h1,h2⟩,h3⟩,h4⟩:=h;exact⟨by omega,h2,h3,h4⟩
  obtain⟨hl,rfl,rfl,rfl⟩:=hh;have hlen:=Ex.je s;have e1:wO k [] [] 0 (Ex.zP s)=if Ex.zP s=qt k then jk k else 0:=by unfold wO; rw [aP hk]; simp
  rw [e1] at hq;clear h e1;refine zc.loop (ι:={i:Nat // i<=s.length/\∀ j,j<i->(s.getD j Ex.nil).zt=qL k j}) (λi=>SSo s i.1) (λ_=>HSo k) (λi=>s.length - i.1) ⟨0,aI _,λj hj=>by omega⟩ 0 ?_ ?_ (by kernel_rfl)
  ·exact⟨by simp [SSo,Ex.exS,za],by simp [HSo,za],by kernel_rfl,aI _⟩
  ·rintro⟨i,hil,hib⟩;refine zc.n (zm4 ih) [3,41,42,43] (let v1:=s.getD (i:Int).toNat Ex.nil;let v2:List AV:=[.int .u8 (Ex.kind v1),.str (Ex.rat v1),.str (Ex.name v1),.i (Ex.date v1),.sl (List.length (Ex.sub v1)) 5 (Ex.deep v1)];.D ((i:Int)<s.length) (.side ((0:Int)<=i/\(i:Int)<s.length) (.side ((0:Int)<=i/\(i:Int)<(↑(jC k):Int)) (.ex (λ(x:Ex)=>eqL [.agg [.int .u8 (Ex.kind v1),.str (Ex.rat v1),.str (Ex.name v1),.i (Ex.date v1),.sl (List.length (Ex.sub v1)) 5 (Ex.deep v1)]] [.agg [.int .u8 x.kind,.str x.rat,.str x.name,.i x.date,.sl x.sub.length 5 (Ex.exG x.sub)]]/\Ex.size x<n/\Ex.size x<1152921504606846976/\Ex.zB x<1099511627776) λn=>.all (λ(r:Int)=>r=Ex.zt n) λn=>.N (n=qL k (i:Int).toNat) (.R [.int .u8 0] [.dead,.box [.sl (jC k) 1 λ(j x:Nat)=>.int .u8 (qL k j),.int .u8 (jk k)],.box v2]) (.S (i+1) (.leaf (.back 0 [(3,.ptr 1 0),(41,.sl s.length 5 (Ex.exG s)),(42,.i s.length),(43,.i (i+1))] [.dead,.box [.sl (jC k) 1 λ(j x:Nat)=>.int .u8 (qL k j),.int .u8 (jk k)],.box v2])))))) (.R [.int .u8 (jk k)] [.dead,.box [.sl (jC k) 1 λ(j x:Nat)=>.int .u8 (qL k j),.int .u8 (jk k)]])) ?_;simp only [Tree.holds,zf,inR,lo,hi,aD];refine⟨λhlt=> ?_,λhge=> ?_⟩
   ·have hlt:i<s.length:=by have:=aB hlt; omega
    have hg:=Ex.qo hlt;have hg2:=Ex.zae hlt;have hb0:Ex.qk s<2^40:=by simpa using hxb
    refine⟨by omega,λ_=>⟨by omega,λ_=>⟨s.getD i Ex.nil,⟨Za rfl rfl rfl rfl rfl (Ex.qg _),by omega,by omega,by omega⟩,⟨_,rfl⟩,?_⟩⟩⟩;intro e he;refine⟨λh=> ?_,λh=>⟨by omega,λ_=> ?_⟩⟩
    ·have hne:¬ Ex.zP s=qt k:=by
      intro h2;have:=(Ex.Zi.1 h2).2 i hlt;rw [<- he] at this;have h3:¬ e=qL k i:=by simpa using h
      exact h3 this
     rw [aO hne] at hq;exact RetR.scal hq rfl (by simp [resV])
    ·rw [aP trivial];have h3:e=qL k i:=by simpa using h
     refine⟨⟨i+1,hlt,λj hj=> ?_⟩,by show s.length - (i+1)<s.length - i; omega,by simp [SSo,Ex.exS,za],by simp [HSo,za],by kernel_rfl,aI _⟩;rcases aR j i with h1 | h1
     ·exact hib j h1
     ·have:j=i:=by omega
      rw [this,<- he,h3]
   ·have hge:i=s.length:=by have:=aC hge; omega
    subst hge;have:Ex.zP s=qt k:=Ex.Zi.2 ⟨hl,hib⟩;rw [aP this] at hq;exact RetR.scal hq rfl (by simp [resV])
 ·refine⟨λ_=> ?_,λh=>(by cases h)⟩;refine⟨.mk k r m d s,⟨⟨⟨⟨rfl,rfl⟩,rfl,rfl,⟨rfl,rfl⟩,⟨rfl,rfl,za _ _ _⟩,trivial⟩,trivial⟩,by show r.length<_; omega,by show m.length<_; omega⟩,⟨_,rfl⟩,?_⟩;intro e he
  have e1:wO k r m d (Ex.zP s)=e:=by
   unfold wO;rw [aO (by rw [hk]; decide),he,Ex.j2];show _=bif qV k r m d s.length then 1 else 0
   cases qV k r m d s.length<;>rfl
  rw [e1] at hq;exact RetR.scal hq rfl (by simp [resV])
def Je:Ctr:=ctrP true (λx:Ex=>[x.exA]) (λx=>x.size<2^60/\x.zB<2^40) (λx r=>r=x.zt) (λ_ (r:Int)=>(.int .u8 r,[]))
theorem Xd:zd prog 161 Je:=vJ Ex.size zf9
def zje:Ctr:=ctrP true (λx:Ex=>[x.exA]) (λx=>x.size<2^62) (λx r=>r=x.size) (λ_ (r:Nat)=>(.i (r:Int),[]))
def zm9:Ctr:=ctrP true (λp:Ex×Nat=>[p.1.exA,.i (p.2:Int)]) (λp=>p.1.size<2^62/\p.2<2^40) (λp r=>r=min p.1.depth (p.2+1)) (λ_ (r:Nat)=>(.i (r:Int),[]))
def KW:Ctr:=ctrP true (λx:Ex=>[x.exA]) (λx=>x.size<2^40/\x.zB<2^40) (λx r=>r=x.errX) (λ_ (r:Int)=>(.i r,[]))
def ze8(z:Int):Ctr:=ctrP true (λx:Ex=>[x.exA]) (λx=>x.size<2^40/\x.zB<2^40) (λx r=>r=(decide (x.errX=0)&&decide (x.zt=z))) (λ_ (r:Bool)=>(.bool r,[]))
theorem eqX(x:Ex):eqL [.agg [.int .u8 x.kind,.str x.rat,.str x.name,.i x.date,.sl x.sub.length 5 (Ex.exG x.sub)]] [x.exA]:=Za rfl rfl rfl rfl rfl (za _ _ _)
theorem zfv{x:Ex}{n:Nat}(hn:decide (500<(x.size:Int))=false->(60<n↔60<x.depth)) :
  ((bif decide (500<(x.size:Int)) then true else decide (60<(n:Int)))=true->x.errX=4)/\((bif decide (500<(x.size:Int)) then true else decide (60<(n:Int)))=false->x.errX=if x.zt=0 then 8 else 0):=by
 by_cases h:500<x.size
 ·have e:decide (500<(x.size:Int))=true:=aX (by omega);rw [e];exact⟨λ_=>aP (.inl h),λh=>by cases h⟩
 ·have e:decide (500<(x.size:Int))=false:=aW (by omega);have h2:=hn e;rw [e];simp only [cond_false];by_cases h3:60<n
  ·exact⟨λ_=>aP (.inr (h2.1 h3)),λh=>by have:=aC h; omega⟩
  ·refine⟨λh=>by have:=aB h; omega,λ_=> ?_⟩;unfold Ex.errX;rw [aO];rintro(h4 | h4)
   ·exact h h4
   ·exact h3 (h2.2 h4)
noncomputable def GCk:=tb ze3 (tb zmn (tb Xd tz))
abbrev q23(A:List AV)(x:Ex):Prop:=eqL A [.agg [.int .u8 x.kind,.str x.rat,.str x.name,.i x.date,.sl x.sub.length 5 (Ex.exG x.sub)]]/\Ex.size x<1152921504606846976/\Ex.zB x<1099511627776
theorem KE:zd prog 160 KW:=by
 refine zh' f160 λx hx O w0 Q hq=> ?_
 replace hq:=hq _ rfl;obtain⟨h1,h2⟩:=hx;refine zc.n GCk.h [] (let v2:List Blk:=[.box [.int .u8 x.kind,.str x.rat,.str x.name,.i x.date,.sl x.sub.length 5 (Ex.exG x.sub)]];let v1:=[AV.int .u8 x.kind,AV.str x.rat,AV.str x.name,AV.i x.date,AV.sl x.sub.length 5 (Ex.exG x.sub)];.ex (λ(x_1:Ex)=>eqL [.agg v1] [.agg [.int .u8 x_1.kind,.str x_1.rat,.str x_1.name,.i x_1.date,.sl x_1.sub.length 5 (Ex.exG x_1.sub)]]/\Ex.size x_1<4611686018427387904) λn=>.all (λ(r:Nat)=>r=Ex.size n) λn=>.ex (λ(x_1:Ex×Nat)=>decide ((500:Int)<n)=false->eqL [.agg v1,.i 60] [.agg [.int .u8 x_1.1.kind,.str x_1.1.rat,.str x_1.1.name,.i x_1.1.date,.sl x_1.1.sub.length 5 (Ex.exG x_1.1.sub)],.i x_1.2]/\Ex.size x_1.1<4611686018427387904/\x_1.2<1099511627776) λn_1=>.all (λ(x:Nat)=>decide ((500:Int)<n)=false->x=min n_1.1.depth (n_1.2+1)) λn_2=>.ite (bif decide ((500:Int)<n) then true else decide ((60:Int)<n_2)) (.R [.i 4] v2) (.ex (q23 [.agg v1]) λn=>.all (λ(r:Int)=>r=Ex.zt n) λn=>.D (n=0) (.R [.i 8] v2) (.R [.i 0] v2))) ?_;simp only [q23,Tree.holds,zf,inR,lo,hi,aD];refine⟨x,⟨Za rfl rfl rfl rfl rfl (za _ _ _),by omega⟩,⟨_,rfl⟩,?_⟩;rintro _ rfl;refine⟨(x,60),λ_=>⟨⟨⟨⟨rfl,rfl⟩,rfl,rfl,⟨rfl,rfl⟩,⟨rfl,rfl,za _ _ _⟩,trivial⟩,⟨rfl,rfl⟩,trivial⟩,by show x.size<_; omega,by show 60<1099511627776; omega⟩,⟨_,λ_=>rfl⟩,?_⟩;intro c hc;have em:=zfv (x:=x) (n:=c) λh=>by have:=hc h; simp only at this; omega
 refine⟨λh=> ?_,λh=>⟨x,⟨eqX x,by omega,by omega⟩,⟨_,rfl⟩,?_⟩⟩
 ·rw [em.1 h] at hq;exact RetR.scal hq rfl (by simp [resV])
 ·have e:=em.2 h;rintro _ rfl;refine⟨λg=> ?_,λg=> ?_⟩
  ·rw [e,aP (aB g)] at hq;exact RetR.scal hq rfl (by simp [resV])
  ·rw [e,aO (aC g)] at hq;exact RetR.scal hq rfl (by simp [resV])
noncomputable def GNu:=tb KE (tb Xd tz)
abbrev q24(A:List AV)(x:Ex):Prop:=eqL A [.agg [.int .u8 x.kind,.str x.rat,.str x.name,.i x.date,.sl x.sub.length 5 (Ex.exG x.sub)]]/\Ex.size x<1099511627776/\Ex.zB x<1099511627776
theorem zsr:zd prog 136 (ze8 1):=by
 refine zh' f136 λx hx O w0 Q hq=> ?_
 replace hq:=hq _ rfl;obtain⟨h1,h2⟩:=hx;refine zc.n GNu.h [] (let v1:=[AV.agg [.int .u8 x.kind,.str x.rat,.str x.name,.i x.date,.sl x.sub.length 5 (Ex.exG x.sub)]];.ex (q24 v1) λn=>.all (λ(r:Int)=>r=Ex.errX n) λn=>.ex (λ(x9:Ex)=>decide (n=0)=true->q23 v1 x9) λn_1=>.all (λ(x:Int)=>decide (n=0)=true->x=Ex.zt n_1) λn_2=>.R [.bool (bif decide (n=0) then decide (n_2=1) else false)] [.box [.int .u8 x.kind,.str x.rat,.str x.name,.i x.date,.sl x.sub.length 5 (Ex.exG x.sub)]]) ?_;simp only [q23,q24,Tree.holds,zf,inR,lo,hi,aD];refine⟨x,⟨eqX x,by omega,by omega⟩,⟨_,rfl⟩,?_⟩;rintro _ rfl;refine⟨x,λ_=>⟨eqX x,by omega,by omega⟩,⟨_,λ_=>rfl⟩,?_⟩;intro c hc;refine RetR.scal hq rfl ?_;cases h:decide (x.errX=0) with
 | false=>rfl
 | true=>rw [hc h]; rfl
theorem zkz:zd prog 137 (ze8 2):=by
 refine zh' f137 λx hx O w0 Q hq=> ?_
 replace hq:=hq _ rfl;obtain⟨h1,h2⟩:=hx;refine zc.n GNu.h [] (let v1:=[AV.agg [.int .u8 x.kind,.str x.rat,.str x.name,.i x.date,.sl x.sub.length 5 (Ex.exG x.sub)]];.ex (q24 v1) λn=>.all (λ(r:Int)=>r=Ex.errX n) λn=>.ex (λ(x9:Ex)=>decide (n=0)=true->q23 v1 x9) λn_1=>.all (λ(x:Int)=>decide (n=0)=true->x=Ex.zt n_1) λn_2=>.R [.bool (bif decide (n=0) then decide (n_2=2) else false)] [.box [.int .u8 x.kind,.str x.rat,.str x.name,.i x.date,.sl x.sub.length 5 (Ex.exG x.sub)]]) ?_;simp only [q23,q24,Tree.holds,zf,inR,lo,hi,aD];refine⟨x,⟨eqX x,by omega,by omega⟩,⟨_,rfl⟩,?_⟩;rintro _ rfl;refine⟨x,λ_=>⟨eqX x,by omega,by omega⟩,⟨_,λ_=>rfl⟩,?_⟩;intro c hc;refine RetR.scal hq rfl ?_;cases h:decide (x.errX=0) with
 | false=>rfl
 | true=>rw [hc h]; rfl
end Go.Proofs.Tryz
end
section
namespace Go.Sx
variable [Stat]
section
variable {own own' O:Nat->Prop} {w w':World} {σ Z':List SE} {P:Program} {fn:Func} {Xp:List PanicEntry->Prop}
def upA0(d k:Nat):AV->AV->Prop
 | .nils,.osl i _ off n=>(d<=i/\i<d+k)/\off=0/\n=0
 | a,b=>a=b
def upL0(d k:Nat):List AV->List AV->Prop
 | [],[]=>True
 | a::l,b::m=>upA0 d k a b/\upL0 d k l m
 | _,_=>False
def upA1(d k:Nat):AV->AV->Prop
 | .agg l,.agg m=>upL0 d k l m
 | a,b=>upA0 d k a b
def upL1(d k:Nat):List AV->List AV->Prop
 | [],[]=>True
 | a::l,b::m=>upA1 d k a b/\upL1 d k l m
 | _,_=>False
def upA2(d k:Nat):AV->AV->Prop
 | .tup l,.tup m=>upL1 d k l m
 | a,b=>upA1 d k a b
def vB(k:Nat):List SE:=List.replicate k ⟨none,0⟩
theorem QD.mono{g:Nat}{vals:Array Value}{R R':Value->World->Prop}(hR:∀ v w',R v w'->R' v w')(h:QD P g vals w R):QD P g vals w R':=by
 rcases h with ⟨h1,h2⟩ | ⟨v,w',h1,h2⟩
 ·exact .inl ⟨h1,h2.mono λe w' ⟨v,he,hv⟩=>⟨v,he,hR v w' hv⟩⟩
 ·exact .inr ⟨v,w',h1,hR v w' h2⟩
theorem vW{k i:Nat}{e:SE}(h:(σ++vB k)[i]?=some e):(i<σ.length/\σ[i]?=some e)\/(σ.length<=i/\e=⟨none,0⟩):=by
 rw [bT] at h;split at h
 ·rename_i hi; exact .inl ⟨hi,h⟩
 ·rename_i hi;right;refine⟨by omega,?_⟩;simp only [vB,List.getElem?_replicate] at h;split at h
  ·cases h; rfl
  ·cases h
theorem uR{k b:Nat}(h:Mine (σ++vB k) b):Mine σ b:=by
 obtain⟨e,he,ad,h1,h2⟩:=h;rcases bZ.1 he with he | he
 ·exact⟨e,he,ad,h1,h2⟩
 ·have:=List.eq_of_mem_replicate he;subst this;cases h1
theorem uf{k b:Nat}(h:Own O (σ++vB k) b):Own O σ b:=by
 rcases h with h | h
 ·exact .inl h
 ·exact .inr (uR h)
theorem xG(K:List Nat)(w:World)(σ:List SE)(k:Nat):Hold K w σ w (σ++vB k):=λi e he _=>by
 have hi:=(aG.1 he).1;exact⟨by rw [bL hi]; exact he,λad _ cs el h=>⟨cs,el,h,rfl⟩⟩
theorem KG{k:Nat}(hx:Ext own w own' w){a b:AV}{v:Value}(hu:upA0 σ.length k a b)(ha:Rep own w a σ v):Rep own' w b (σ++vB k) v:=by
 unfold upA0 at hu;split at hu
 ·obtain⟨⟨h1,h2⟩,rfl,rfl⟩:=hu;rename_i i sz _ _;simp only [Rep] at ha ⊢;refine⟨⟨none,0⟩,?_,by simp,none,0,ha,aJ _,.inl rfl⟩;rw [List.getElem?_append_right h1,vB,List.getElem?_replicate,aP (by omega)]
 ·subst hu;exact zT (K:=[]) hx (xG [] w σ k) _ _ (qX _) ha
theorem Jt{k:Nat}(hx:Ext own w own' w):∀ {l m:List AV} {vs:List Value},upL0 σ.length k l m->RepL own w l σ vs->RepL own' w m (σ++vB k) vs
 | [],[],vs,_,h=>by simpa [RepL] using h
 | a::l,b::m,vs,hl,h=>by
  simp only [RepL] at h ⊢;obtain⟨v,r,hv,h1,h2⟩:=h;exact⟨v,r,hv,KG hx hl.1 h1,Jt hx hl.2 h2⟩
 | [],_::_,_,hl,_=>hl.elim
 | _::_,[],_,hl,_=>hl.elim
theorem V0{k:Nat}(hx:Ext own w own' w){a b:AV}{v:Value}(hu:upA1 σ.length k a b)(ha:Rep own w a σ v):Rep own' w b (σ++vB k) v:=by
 unfold upA1 at hu;split at hu
 ·simp only [Rep] at ha ⊢;obtain⟨vs,hv,hr⟩:=ha;exact⟨vs,hv,Jt hx hu hr⟩
 ·exact KG hx hu ha
theorem Jw{k:Nat}(hx:Ext own w own' w):∀ {l m:List AV} {vs:List Value},upL1 σ.length k l m->RepL own w l σ vs->RepL own' w m (σ++vB k) vs
 | [],[],vs,_,h=>by simpa [RepL] using h
 | a::l,b::m,vs,hl,h=>by
  simp only [RepL] at h ⊢;obtain⟨v,r,hv,h1,h2⟩:=h;exact⟨v,r,hv,V0 hx hl.1 h1,Jw hx hl.2 h2⟩
 | [],_::_,_,hl,_=>hl.elim
 | _::_,[],_,hl,_=>hl.elim
theorem Ks{k:Nat}(hx:Ext own w own' w){a b:AV}{v:Value}(hu:upA2 σ.length k a b)(ha:Rep own w a σ v):Rep own' w b (σ++vB k) v:=by
 unfold upA2 at hu;split at hu
 ·simp only [Rep] at ha ⊢;obtain⟨vs,hv,hr⟩:=ha;exact⟨vs,hv,Jw hx hu hr⟩
 ·exact V0 hx hu ha
def Ku(szs:List (Nat×(Nat->Nat->AV))):Heap:=szs.map λs=>.arr 0 s.1 s.2
theorem zd8(hx:Ext own w own' w){hs:Heap}(hh:HRep own w σ hs)(szs:List (Nat×(Nat->Nat->AV))):HRep own' w (σ++vB szs.length) (hs++Ku szs):=by
 have hl:=hh.len;refine⟨by simp [vB,Ku,hl],λi j e f a b he hf ha hb hij=> ?_,λi e a he ha=> ?_,λi e b he hb=> ?_⟩
 ·rcases vW he with ⟨_,he⟩ | ⟨_,rfl⟩
  ·rcases vW hf with ⟨_,hf⟩ | ⟨_,rfl⟩
   ·exact hh.inj i j e f a b he hf ha hb hij
   ·cases hb
  ·cases ha
 ·rcases vW he with ⟨_,he⟩ | ⟨_,rfl⟩
  ·exact hh.lt i e a he ha
  ·cases ha
 ·rcases vW he with ⟨hi,he⟩ | ⟨hi,rfl⟩
  ·rw [bL (by omega)] at hb;have:=jh (K:=[]) hx (xG [] w σ szs.length) (hh.blk i e b he hb) (λ_ _=>rfl)
   rwa [jr] at this
  ·rw [List.getElem?_append_right (by omega)] at hb;simp only [Ku,aN] at hb;cases hz:szs[i - hs.length]? with
   | none=>simp [hz] at hb
   | some s=>
    simp only [hz,Option.map_some,aE] at hb;subst hb;exact⟨rfl,.inl rfl⟩
def upQ(Q:AV×Heap->Prop)(p:AV×Heap):Prop:=Q p\/∃ (r:AV) (szs:List (Nat×(Nat->Nat->AV))),upA2 p.2.length szs.length p.1 r/\Q (r,p.2++Ku szs)
theorem j9.up{g:Nat}{c:Ctr}{args:List AV}{hc:Heap}{Q:AV×Heap->Prop}(h:j9 P g c args hc (upQ Q)):j9 P g c args hc Q:=by
 intro O w σ vals hg hh hr;refine QD.mono ?_ (h O w σ vals hg hh hr);rintro v w' ⟨r,hs,Z',hq,h1,h2,h3,h4,h5,h6⟩;rcases hq with hq | ⟨r',szs,hu,hq⟩
 ·exact⟨r,hs,Z',hq,h1,h2,h3,h4,h5,h6⟩
 ·have hx:Ext (λb=>Own O Z' b\/(c.fresh=true/\b<w.heap.size)) w' (λb=>Own O (Z'++vB szs.length) b\/(c.fresh=true/\b<w.heap.size)) w':=
   ⟨rfl,rfl,rfl,aJ _,λ_ _ _=>rfl,λb hb=>.inl (hb.imp uf id)⟩
  have hl:hs.length=Z'.length:=h2.len.symm;refine⟨r',hs++Ku szs,Z'++vB szs.length,hq,Ks hx (by rw [<- hl]; exact hu) h1,zd8 hx h2 szs,⟨h3.old,λi e ad he had=> ?_,h3.stat.own λb hb=>uf hb⟩,by simp; omega,h5.Xr (xG [] w' Z' _),?_⟩
  ·rcases vW he with ⟨_,he⟩ | ⟨_,rfl⟩
   ·exact h3.dis i e ad he had
   ·cases had
  ·exact⟨h6.os,h6.tape,h6.output,h6.size,h6.keep,λb hb=>h6.grow b (uR hb)⟩
theorem Yd{X R:Type}{fresh:Bool}{inp:X->List AV}{pre:X->Prop}{post:X->R->Prop}{out:X->R->AV×Heap}{g:Nat}{c:Code}(hf:P.funcs[g]?=some fn)(hb:fn.body=some c) (hn:(fn.name == "runtime.NumGoroutine")=false)
  (H:∀ x,pre x->∀ (O:Nat->Prop) (w0:World) (Q:AV×Heap->Prop),(∀ r,post x r->Q (out x r)) ->
   zc P fn O 0 w0 [] (λ_ _ _=>False) (RetR (ctrP fresh inp pre post out) 0 (upQ Q)) [.code c] (entry fn (inp x))):zd P g (ctrP fresh inp pre post out):=by
 intro args hc Q hq _;simp only [ctrP] at hq;split at hq
 ·obtain⟨x,⟨h1,h4⟩,h5,h6⟩:=hq;refine j9.le h1 (j9.up (fn_k hf hb hn (λh=>rfl) λO w0 I0 hl=> ?_));have h0:I0=[]:=aU.1 (by simpa using hl);subst h0;exact H x h4 O w0 Q h6
 ·exact hq.elim
variable {pin:Nat} {w0:World} {I0:List SE} {a:Act}
theorem RetR.outs{ctr:Ctr}{Q:AV×Heap->Prop}{rs:List AV}{h:Heap}{r:AV}{hs:Heap}(L:List Nat)(hnd:jU L=true)(hlt:(L.all λi=>decide (i<h.length))=true)(hq:Q (r,hs))(hn:ctr.fresh=true->new2 h L (resV rs)/\∀ i∈L,newB (h.getD i .dead))
  (he:eqA2 (exp2 h L (resV rs)) r) (hb:eqH (expH h L) hs) (hl:hs.length=L.length):RetR ctr 0 Q rs h:=
 ⟨L,hnd,λi hi=>by have:=bG.1 hlt i hi; simpa using this,by simp,hn,r,hs,qK he,.inl hb,hl,hq⟩
theorem RetR.keep{ctr:Ctr}{m:Nat}{Q:AV×Heap->Prop}{rs:List AV}{h:Heap}{r:AV}{hs:Heap}(L:List Nat)(hnd:jU L=true)(hlt:(L.all λi=>decide (i<h.length))=true)(hj:∀ j,j<m->L[j]?=some j)(hf:ctr.fresh=false)(hq:Q (r,hs))
  (he:eqA2 (exp2 h L (resV rs)) r) (hb:eqH (expH h L) hs) (hl:hs.length=L.length):RetR ctr m Q rs h:=
 ⟨L,hnd,λi hi=>by have:=bG.1 hlt i hi; simpa using this,hj,(λhh=>absurd hh (by rw [hf]; decide)),r,hs,qK he,.inl hb,hl,hq⟩
end
end Go.Sx
end
section
set_option maxRecDepth 100000
open Go Go.Sx Go.Proofs Go.Nov
namespace Go.Proofs.Tryz
attribute [local simp] eqKV eqA eqA0 eqH eqB eqL eqL0
noncomputable def K98:=Go.Sx.aA f98
def exD(x:Ex):AV:=.agg [.int .u8 x.kind,.str x.rat,.str x.name,.i x.date,.sl x.sub.length 5 x.deep]
def zb0(n:Nat):Ctr:=ctrP false (λx:Ex=>[x.exA]) (λx=>x.size<n/\x.size<2^40) (λ_ (_:Unit)=>True) (λx _=>(exD x,[]))
theorem zl5{s:List Ex}{i:Nat} : eqG (i+1) 5 (appG i (Ex.exG s) (zi (zj 5 [.int .u8 (s.getD i Ex.nil).kind,.str (s.getD i Ex.nil).rat,.str (s.getD i Ex.nil).name,.i (s.getD i Ex.nil).date,.sl (s.getD i Ex.nil).sub.length 5 (s.getD i Ex.nil).deep]) 0)) (Ex.exG s):=by
 intro j o hj ho;simp only [appG,zi,zj];by_cases h:j<i
 ·rw [aP h]
 ·have:j=i:=by omega
  subst this;rw [aO h];have e:j - j=0:=by omega
  match o,ho with
  | 0,_=>simp [e,Ex.exG,Ex.cell]
  | 1,_=>simp [e,Ex.exG,Ex.cell]
  | 2,_=>simp [e,Ex.exG,Ex.cell]
  | 3,_=>simp [e,Ex.exG,Ex.cell]
  | 4,_=>simp [e,Ex.exG,Ex.cell]
def STw(s:List Ex)(i:Nat):KV:=[(1,.ptr 0 0),(2,.ptr 1 0),(3,.osl 2 5 0 i),(7,Ex.exS s),(8,.i (s.length:Int)),(9,.i (i:Int))]
def HTw(x:Ex)(i:Nat):Heap:=[.box [.int .u8 x.kind,.str x.rat,.str x.name,.i x.date,Ex.exS x.sub],.box [.int .u8 0,.str [],.str [],.i 0,.nils],.arr i 5 (Ex.exG x.sub)]
def RTw(x:Ex):List AV:=[.agg [.int .u8 x.kind,.str x.rat,.str x.name,.i x.date,.osl 2 5 0 x.sub.length]]
def HTw2(x:Ex):Heap:=[.box [.int .u8 x.kind,.str x.rat,.str x.name,.i x.date,.osl 2 5 0 x.sub.length],.box [.int .u8 x.kind,.str x.rat,.str x.name,.i x.date,.osl 2 5 0 x.sub.length],.arr x.sub.length 5 (Ex.exG x.sub)]
theorem zmr(n:Nat)(ih:zd prog 98 (zb0 n)){O:Nat->Prop}{w0:World}{C:Ctr}{Q:AV×Heap->Prop}(x:Ex)(h1:x.size<n+1)(h2:x.size<2^40)(hR:RetR C 0 Q (RTw x) (HTw2 x)) :
  zc prog f98 O 0 w0 [] (λ_ _ _=>False) (RetR C 0 Q) K98 (entry f98 [x.exA]):=by
 rw [Ex.size_eq] at h1 h2;have hlen:=Ex.je x.sub;refine zc.n (ZP ih) [1,2,3,7,8,9] (.leaf (.loop (lps K98 0).1 (lps K98 0).2 [(1,.ptr 0 0),(2,.ptr 1 0),(3,.nils),(7,.sl x.sub.length 5 (Ex.exG x.sub)),(8,.i x.sub.length),(9,.i 0)] [.box [.int .u8 x.kind,.str x.rat,.str x.name,.i x.date,.sl x.sub.length 5 (Ex.exG x.sub)],.box [.int .u8 0,.str #[].toList,.str #[].toList,.i 0,.nils]])) ?_;simp only [Tree.holds,zf,inR,lo,hi,aD];refine zc.bear 3 5 (Ex.exG x.sub) rfl (by decide) (by kernel_rfl) ?_;refine zc.loop (ι:={i:Nat // i<=x.sub.length}) (λi=>STw x.sub i.1) (λi=>HTw x i.1) (λi=>x.sub.length - i.1) ⟨0,aI _⟩ 0 ?_ ?_ (by kernel_rfl)
 ·exact⟨by simp [STw,y9,Ex.exS,za],by simp [HTw,Ex.exS,za],by kernel_rfl,aI _⟩
 ·rintro⟨i,hil⟩;refine zc.n (ZP ih) [1,2,3,7,8,9] (let v4:=Ex.exG x.sub;let v2:List AV:=[.int .u8 x.kind,.str x.rat,.str x.name,.i x.date,.osl 2 5 0 i];let v1:=List.getD x.sub (i:Int).toNat Ex.nil;.D ((i:Int)<x.sub.length) (.side ((0:Int)<=i/\(i:Int)<x.sub.length) (.ex (λ(x_1:Ex)=>eqL [.agg [.int .u8 (Ex.kind v1),.str (Ex.rat v1),.str (Ex.name v1),.i (Ex.date v1),.sl (List.length (Ex.sub v1)) 5 (Ex.deep v1)]] [.agg [.int .u8 x_1.kind,.str x_1.rat,.str x_1.name,.i x_1.date,.sl x_1.sub.length 5 (Ex.exG x_1.sub)]]/\Ex.size x_1<n/\Ex.size x_1<1099511627776) λn=>let v3:=zj 5 [.int .u8 n.kind,.str n.rat,.str n.name,.i n.date,.sl n.sub.length 5 n.deep];.A λn_1=>.side (0=0/\i<=i/\(i+1)*72<=140737488355328) (.S (i+1) (.leaf (.back 0 [(1,.ptr 0 0),(2,.ptr 1 0),(3,.osl 2 5 0 (i+1)),(7,.sl x.sub.length 5 v4),(8,.i x.sub.length),(9,.i (i+1))] [.box [.int .u8 x.kind,.str x.rat,.str x.name,.i x.date,.sl x.sub.length 5 v4],.box [.int .u8 0,.str [],.str [],.i 0,.nils],.arr (i+1) 5 (appG i v4 (zi v3 0)),.box [.int .u8 (Ex.kind v1),.str (Ex.rat v1),.str (Ex.name v1),.i (Ex.date v1),.sl (List.length (Ex.sub v1)) 5 (Ex.deep v1)],.arr 1 5 v3]))))) (.R [.agg v2] [.box v2,.box v2,.arr i 5 v4])) ?_;simp only [Tree.holds,zf,inR,lo,hi,aD];refine⟨λhlt=> ?_,λhge=> ?_⟩
  ·have hlt:i<x.sub.length:=by have:=aB hlt; omega
   have hg:=Ex.qo hlt;refine⟨by omega,λ_=>⟨x.sub.getD i Ex.nil,⟨Za rfl rfl rfl rfl rfl (Ex.qg _),by omega,by omega⟩,⟨(),trivial⟩,?_⟩⟩;intro _ _;refine⟨⟨trivial,aJ _,by omega⟩,λ_=>⟨by omega,λ_=> ?_⟩⟩;rw [aP trivial];refine⟨⟨i+1,hlt⟩,by show x.sub.length - (i+1)<x.sub.length - i; omega,by simp [STw,Ex.exS,za],?_,by kernel_rfl,aI _⟩;exact⟨⟨⟨rfl,rfl⟩,rfl,rfl,⟨rfl,rfl⟩,⟨rfl,rfl,za _ _ _⟩,trivial⟩,⟨⟨rfl,rfl⟩,rfl,rfl,⟨rfl,rfl⟩,by simp,trivial⟩,⟨rfl,rfl,zl5⟩,trivial⟩
  ·have hge:i=x.sub.length:=by have:=aC hge; omega
   subst hge;exact hR
theorem zjq{C:Ctr}{Q:AV×Heap->Prop}{x:Ex}{h:Heap}{b:Nat}(hC:C.fresh=false)(hb:h[b]?=some (.arr x.sub.length 5 (Ex.exG x.sub)))(hq:Q (exD x,[])):RetR C 0 Q [.agg [.int .u8 x.kind,.str x.rat,.str x.name,.i x.date,.osl b 5 0 x.sub.length]] h:=by
 refine RetR.out0 hq (λh=>by rw [hC] at h; cases h) ?_;simp only [resV,exp2,exp1,List.map_cons,List.map_nil,exp0,ren0,zK,frz1,we,hb,eqA2,eqA,eqL0,eqA0,exD,true_and,and_true];simp only [if_true];refine⟨trivial,trivial,λj o hj ho=> ?_⟩;have:=Ex.qg x j o hj ho;simpa [zi] using this.symm
theorem zh5(n:Nat)(ih:zd prog 98 (zb0 n)):zd prog 98 (zb0 (n+1)):=by
 refine zh' f98 λx hx O w0 Q hq=> ?_
 exact zmr n ih x hx.1 hx.2 (zjq rfl rfl (hq () trivial))
theorem zin:zd prog 98 (ctrP false (λx:Ex=>[x.exA]) (λx=>x.size<2^40) (λ_ (_:Unit)=>True) (λx _=>(exD x,[]))):=vJ Ex.size zh5
def zhp:Ctr:=ctrP false (λx:Ex=>[x.exA]) (λx=>x.size<2^40) (λ_ (_:Unit)=>True) (λx _=>(exD x,[]))
noncomputable def K94:=Go.Sx.aA f94
def zc9:Ctr:=ctrP true (λx:Ex=>[x.exA]) (λ_=>True) (λx r=>r=qO x) (λ_ (r:Bool)=>(.bool r,[]))
theorem Xt:zd prog 129 zc9:=by
 refine zh' f129 λx hx O w0 Q hq=> ?_
 replace hq:=hq _ rfl;obtain⟨k,r,m,d,s⟩:=x;refine zc.n zD [] (let v1:=Ex.mk k r m d s;.R [.bool (bif bif bif bif decide (Ex.kind v1=(0:Int)) then decide (Ex.rat v1=#[].toList) else false then decide (Ex.name v1=#[].toList) else false then decide (Ex.date v1=(0:Int)) else false then decide ((↑(List.length (Ex.sub v1)):Int)=0) else false)] [.box [.int .u8 (Ex.kind v1),.str (Ex.rat v1),.str (Ex.name v1),.i (Ex.date v1),.sl (List.length (Ex.sub v1)) 5 (Ex.exG (Ex.sub v1))]]) ?_;simp only [Tree.holds,zf];refine RetR.scal hq rfl ?_;refine congrArg AV.bool ?_;rw [Bool.eq_iff_iff];simp [qO,Ex.kind,Ex.rat,Ex.name,Ex.date,Ex.sub,and_assoc]
def zbl:Ctr:=ctrT false false (λc:Con=>[c.conA]) (λ_=>[]) (λ_=>True) (λ_ (_:Unit)=>True) (λc _=>(.fn 132 [] [.ptr 0 0],[.box (Con.qE c.kind c.src c.dst c.name c.x c.date c.days c.sub)]))
theorem XY:zd prog 96 zbl:=by
 refine zH (fn:=f96) (c:=f96.body.getD .skip) rfl rfl rfl (λh=>by cases h) λc hp O w0 I0 Q hl hq=> ?_
 have h0:I0=[]:=aU.1 (by simpa using hl);subst h0;refine zc.n zD [0] (.R [.fn 132 [] [.ptr 0 0]] [.box c.ze]) ?_;simp only [Tree.holds,zf];refine RetR.out1 0 (by simp) (hq () trivial) (λh=>by cases h) (by simp [resV,exp2,exp1,exp0,zK,ren0,eqA2]) ?_;simp only [Con.qE,expB,exp1,List.map_cons,List.map_nil,exp0,Ex.exS,Con.dayS,Con.conS];exact⟨⟨rfl,rfl⟩,rfl,rfl,rfl,⟨rfl,rfl⟩,rfl,rfl,⟨rfl,rfl⟩,⟨rfl,rfl,za _ _ _⟩,⟨rfl,rfl⟩,⟨rfl,rfl,za _ _ _⟩,⟨rfl,rfl,za _ _ _⟩,trivial⟩
noncomputable def GZ1:=tb Xt (tb ze3 (tb XY tz))
def zix:Ctr:=ctrP true (λc:Con=>[c.conA]) (λc=>c.big<2^40/\c.nodes<=1000000) (λc r=>r=c.size) (λ_ (r:Nat)=>(.i (r:Int),[]))
theorem qQ(c:Con):eqA c.conA c.conA:=by
 simp only [Con.conA,Ex.exS,Con.dayS,Con.conS,eqA];exact⟨⟨rfl,rfl⟩,rfl,rfl,rfl,⟨rfl,rfl⟩,rfl,rfl,⟨rfl,rfl⟩,⟨rfl,rfl,za _ _ _⟩,⟨rfl,rfl⟩,⟨rfl,rfl,za _ _ _⟩,⟨rfl,rfl,za _ _ _⟩,trivial⟩
theorem yU{own:Nat->Prop}{w:World}{σ:List SE} : ∀ {l:List AV} {vs:List Value},l.all Yo=true->RepL own w l σ vs->RepL own w l [] vs
 | [],vs,_,h=>h
 | a::l,vs,hf,h=>by
  simp only [List.all_cons,bA] at hf;simp only [RepL] at h ⊢;obtain⟨v,r,rfl,h1,h2⟩:=h;exact⟨v,r,rfl,UC hf.1 h1,yU hf.2 h2⟩
theorem zsq{O:Nat->Prop}{pin:Nat}{w0 w:World}{I0 σ:List SE}{st:St}{a:Act}(hm:Mod O pin w0 I0 w σ st a):∀ b,Go.Sx.Own O σ b->b<w.heap.size:=by
 rintro b (hO | ⟨e,he,ad,h1,rfl⟩)
 ·exact hm.good.old b hO
 ·obtain⟨j,hj⟩:=List.getElem?_of_mem he;exact hm.hp.lt j e ad hj h1
theorem zM(c:Con):eqL c.ze c.ze:=by
 simp only [Con.ze,Con.qE,Ex.exS,Con.dayS,Con.conS];exact⟨⟨rfl,rfl⟩,rfl,rfl,rfl,⟨rfl,rfl⟩,rfl,rfl,⟨rfl,rfl⟩,⟨rfl,rfl,za _ _ _⟩,⟨rfl,rfl⟩,⟨rfl,rfl,za _ _ _⟩,⟨rfl,rfl,za _ _ _⟩,trivial⟩
theorem vk(x:Ex):eqA x.exA x.exA:=by
 simp only [Ex.exA,Ex.exS,eqA];exact⟨⟨rfl,rfl⟩,rfl,rfl,⟨rfl,rfl⟩,⟨rfl,rfl,za _ _ _⟩,trivial⟩
theorem JD{O:Nat->Prop}{pin:Nat}{w0 w:World}{I0 σ:List SE}{st:St}{a:Act}(hm:Mod O pin w0 I0 w σ st a){i:Nat}{c:Con}(hb:st.heap[i]?=some (.box c.ze))(hn:c.nodes<=1000000){vb:List Value}(hv:RepL (Go.Sx.Own O σ) w [.ptr i 0] σ vb) :
  ∃ ev:Nat->Value,SeqStopsK Fence.wide 0 prog 132 vb.toArray (λx=> #[ev x]) (jn (Go.Sx.Own O σ)) (λxs=>xs=List.range c.all.length) (λpre=>pre <+: List.range c.all.length) c.all.length w/\∀ i,Rep (Go.Sx.Own O σ) w (c.all.getD i c).conA [] (ev i):=by
 simp only [RepL,Rep] at hv;obtain⟨v,r,rfl,⟨e,ad,he,had,rfl⟩,rfl⟩:=hv;obtain⟨ad',vs,el,g1,g2,g3,g4⟩:=hm.hp.blk i e _ he hb;rw [had] at g1; cases g1
 have hr:Rep (Go.Sx.Own O σ) w c.conA [] (.agg vs.toArray):=by
  simp only [Con.conA];rw [Rep];exact⟨vs,rfl,yU rfl g4⟩
 have:=Yq g3 hr hn (zsq hm);rw [g2];exact this
def HCs(c:Con)(m:Nat):Heap:=[.box c.ze,.box [.i (m:Int)],.box c.ze]
abbrev q26(A:List AV)(x:Ex):Prop:=eqL A [x.exA]/\Ex.size x<4611686018427387904
abbrev q25(A:List AV)(x:Ex):Prop:=eqL A [x.exA]/\True
theorem zmw:zd prog 94 zix:=by
 refine zh' f94 λc hc O w0 Q hq=> ?_
 obtain⟨h1,h2⟩:=hc;replace hq:=hq _ rfl;refine zc.n GZ1.h [2,3,6,7] (.ex (λ(x:Con)=>eqL [(Con.conA c)] [(Con.conA x)]/\eqH [] []/\0=0/\True) λn=>.A λn_1=>.leaf (.range (Prod.fst (rfs K94 0)) (Prod.snd (rfs K94 0)) [(2,.i 0),(3,.ptr 1 0),(6,.fn 132 [] [.ptr 2 0]),Z 7] [.box c.ze,.box [.i 0],.box n.ze])) ?_;simp only [Tree.holds,zf];refine⟨c,⟨⟨qQ c,trivial⟩,trivial,trivial,trivial⟩,⟨(),trivial⟩,λ_ _=> ?_⟩
 refine zc.zkh (tg:=6) (tp:=7) (td:=4) (t:=39) (n:=12) (zs:=[.int .u8 0,.str [],.str [],.str [],.int .u8 0,.str [],.str [],.i 0,.nils,.i 0,.nils,.nils]) (cap:=[.ptr 2 0]) (gf:=132) (by kernel_rfl) (by kernel_rfl) (by kernel_rfl) rfl (enters_of Tryz.func132 (by kernel_rfl) rfl) (λi:Nat=>(c.all.getD i c).conA) (λi=>(c.all.getD i c).ze) (λi=>⟨rfl,rfl,rfl,rfl⟩) (λpre=>HCs c (pre.map λi=>(c.all.getD i c).wt).sum) (λ_=>[]) (λ_=>False) (λxs=>xs=List.range c.all.length) (λpre=>pre <+: List.range c.all.length) c.all.length 3
  (by kernel_rfl) (by decide +kernel) (by decide +kernel) (by decide +kernel) (by decide) ⟨by simp,⟨zM c,⟨⟨rfl,rfl⟩,trivial⟩,zM c,trivial⟩,by kernel_rfl,aI _⟩ (by kernel_rfl) (aI _) (λpre=>rfl) (λpre=>by simp [HCs,alive]) (λpre b hb=>by cases hb) ?_ ?_ ?_ (λ_ _ h=>h.elim)
 ·intro w σ a hm vb hvb;exact JD hm (i:=2) rfl h2 hvb
 ·intro l pre i hlen W E1
  have hwt:(c.all.getD i c).big<=c.big:=by
   by_cases hi:i<c.all.length
   ·exact Con.Jd c _ (by simp [List.getD,hi])
   ·simp [List.getD,hi]
  have hm:(pre.map λi=>(c.all.getD i c).wt).sum<=pre.length*2^40:=by
   have hall:∀ j,(c.all.getD j c).wt<=2^40:=λj=>by
    have h1':=Con.yg (c.all.getD j c).x
    have h2':(c.all.getD j c).big<=c.big:=by
     by_cases hi:j<c.all.length
     ·exact Con.Jd c _ (by simp [List.getD,hi])
     ·simp [List.getD,hi]
    rw [Con.uB] at h2';have:(c.all.getD j c).wt=1+vH (c.all.getD j c).x:=rfl;omega
   clear hlen
   induction pre with
   | nil=>simp
   | cons j pre ih=>
    have:=hall j;simp only [List.map_cons,List.sum_cons,aL];omega
  rw [List.map_append,List.sum_append];simp only [List.map_cons,List.map_nil,List.sum_cons,List.sum_nil,Nat.add_zero];rw [Con.X6] at hlen;have hml:(pre.map λi=>(c.all.getD i c).wt).sum<=1000000*2^40:=bP hm (aT _ (by omega));generalize (pre.map λi=>(c.all.getD i c).wt).sum=m at hml;generalize c.all.getD i c=e at hwt;rw [Con.uB e] at hwt;refine zc.n GZ1.h [3,6,7] (let v1:List (Nat×AV):=[(3,.ptr 1 0),(6,.fn 132 [] [.ptr 2 0]),(7,(Con.conA e))];.S (m+1) (.ex (q25 [(Ex.exA e.x)]) λn=>.all (λ(r:Bool)=>r=qO n) λn=>.ite (!n) (.ex (q26 [(Ex.exA e.x)]) λn=>.all (λ(r:Nat)=>r=Ex.size n) λn=>.S ((m:Int)+(1:Int)+n) (.leaf (.back 0 v1 [.box c.ze,.box [.i ((m:Int)+(1:Int)+n)],.box c.ze]))) (.leaf (.back 0 v1 [.box c.ze,.box [.i (m+1)],.box c.ze])))) ?_;simp only [q25,q26,Tree.holds,zf,inR,lo,hi,aD];have hsx:e.wt=1+vH e.x:=rfl;refine⟨by omega,λ_=>⟨e.x,⟨⟨vk e.x,trivial⟩,trivial⟩,⟨_,rfl⟩,?_⟩⟩;rintro _ rfl;refine⟨λhb=>⟨e.x,⟨⟨vk e.x,trivial⟩,by show e.x.size<_; omega⟩,⟨_,rfl⟩,?_⟩,λhb=> ?_⟩
  ·rintro _ rfl;refine⟨by omega,λ_=>⟨trivial,⟨zM c,⟨⟨rfl,?_⟩,trivial⟩,zM c,trivial⟩,by kernel_rfl,aJ _⟩⟩;have:vH e.x=e.x.size:=by unfold vH; rw [show qO e.x=false by simpa using hb]; rfl
   omega
  ·refine⟨trivial,⟨zM c,⟨⟨rfl,?_⟩,trivial⟩,zM c,trivial⟩,by kernel_rfl,aJ _⟩;have:vH e.x=0:=by unfold vH; rw [show qO e.x=true by simpa using hb]; rfl
   omega
 ·intro xs hxs;subst hxs
  have hsum:((List.range c.all.length).map λi=>(c.all.getD i c).wt).sum=c.size:=by
   rw [Con.W5];congr 1;apply List.ext_getElem (by simp);intro i h1 h2;simp at h1;simp [List.getD,h1]
  rw [hsum];generalize c.size=m at hq;refine zc.n GZ1.h [2,3,6,7] (.R [.i m] [.box c.ze,.box [.i m],.box c.ze]) ?_;simp only [Tree.holds,zf];exact RetR.scal hq rfl rfl
noncomputable def K131:=Go.Sx.aA f131
noncomputable def K95:=Go.Sx.aA f95
def zd9(n:Nat):Ctr:=ctrP true (λx:Ex=>[x.exA]) (λx=>x.size<n/\x.size<2^62) (λx r=>r=x.depth) (λ_ (r:Nat)=>(.i (r:Int),[]))
def SEd(s:List Ex)(c i:Nat):KV:=[(3,.i (c:Int)),(7,Ex.exS s),(8,.i (s.length:Int)),(9,.i (i:Int))]
theorem Y5(n:Nat)(ih:zd prog 131 (zd9 n)):zd prog 131 (zd9 (n+1)):=by
 refine zh' f131 λx hp O w0 Q hq=> ?_
 obtain⟨hxn,hxs⟩:=hp;replace hq:=hq _ rfl;have hds:=Ex.jF x;rw [Ex.xh] at hq hds;rw [Ex.size_eq] at hxn hxs hds;obtain⟨k,r,m,d,s⟩:=x;simp only [Ex.sub] at hxn hxs hq hds;have hlen:=Ex.je s;refine zc.n (ZP ih) [3,7,8,9] (.leaf (.loop (lps K131 0).1 (lps K131 0).2 [(3,.i 0),(7,.sl s.length 5 (Ex.exG s)),(8,.i s.length),(9,.i 0)] [.box [.int .u8 k,.str r,.str m,.i d,.sl s.length 5 (Ex.exG s)]])) ?_;simp only [Tree.holds,zf,inR,lo,hi,aD];refine zc.loop (ι:={i:Nat // i<=s.length}) (λi=>SEd s (Ex.z8 (s.take i.1)) i.1) (λ_=>[]) (λi=>s.length - i.1) ⟨0,aI _⟩ 0 ?_ ?_ (by kernel_rfl)
 ·exact⟨by simp [SEd,Ex.z8,Ex.exS,za],by simp,by kernel_rfl,aI _⟩
 ·rintro⟨i,hil⟩;have hcb:Ex.z8 (s.take i)<=Ex.z8 s:=Ex.WJ s i;obtain⟨c,hc⟩:∃ c,Ex.z8 (s.take i)=c:=⟨_,rfl⟩;simp only [hc];refine zc.n (ZP ih) [3,7,8,9] (let v1:=s.getD (i:Int).toNat Ex.nil;.D ((i:Int)<s.length) (.side ((0:Int)<=i/\(i:Int)<s.length) (.ex (λ(x:Ex)=>eqL [(exD v1)] [x.exA]/\Ex.size x<n/\Ex.size x<4611686018427387904) λn=>.all (λ(r:Nat)=>r=Ex.depth n) λn=>.S (i+1) (.leaf (.back 0 [(3,.i (max (c:Int) (n:Int))),(7,.sl s.length 5 (Ex.exG s)),(8,.i s.length),(9,.i (i+1))] [.box v1.cellsD])))) (.S (c+1) (.R [.i (c+1)] []))) ?_;simp only [Tree.holds,zf,inR,lo,hi,aD];refine⟨λhlt=> ?_,λhge=> ?_⟩
  ·have hlt:i<s.length:=by have:=aB hlt; omega
   have hg:=Ex.qo hlt;have ht:=Ex.vA s i hlt;refine⟨by omega,λ_=>⟨s.getD i Ex.nil,⟨⟨⟨⟨rfl,rfl⟩,rfl,rfl,⟨rfl,rfl⟩,⟨rfl,rfl,Ex.qg _⟩,trivial⟩,trivial⟩,by omega,by omega⟩,⟨_,rfl⟩,?_⟩⟩;rintro _ rfl;refine⟨by omega,λ_=> ?_⟩;rw [aP trivial];refine⟨⟨i+1,hlt⟩,by show s.length - (i+1)<s.length - i; omega,?_,by simp,by kernel_rfl,aI _⟩;simp [SEd,ht,hc,Ex.exS,za]; omega
  ·have hge:i=s.length:=by have:=aC hge; omega
   subst hge;rw [bD] at hc;refine⟨by omega,λ_=> ?_⟩;exact RetR.scal hq rfl (by simp [resV]; omega)
def Vz:Ctr:=ctrP true (λx:Ex=>[x.exA]) (λx=>x.size<2^62) (λx r=>r=x.depth) (λ_ (r:Nat)=>(.i (r:Int),[]))
theorem zgf:zd prog 131 Vz:=vJ Ex.size Y5
theorem j0(e:Con):eqA (.agg [.int .u8 e.kind,.str e.src,.str e.dst,.str e.name,.int .u8 e.x.kind,.str e.x.rat,.str e.x.name,.i e.x.date,.sl e.x.sub.length 5 (Ex.exG e.x.sub),.i e.date,.sl e.days.length 1 (Con.dayG e.days),.sl e.sub.length 12 e.deep]) e.conA:=by
 simp only [Con.conA,Ex.exS,Con.dayS,Con.conS,eqA];exact⟨⟨rfl,rfl⟩,rfl,rfl,rfl,⟨rfl,rfl⟩,rfl,rfl,⟨rfl,rfl⟩,⟨rfl,rfl,za _ _ _⟩,⟨rfl,rfl⟩,⟨rfl,rfl,za _ _ _⟩,⟨rfl,rfl,Con.qg e⟩,trivial⟩
theorem Jl(x:Ex):kC x<=x.size:=bP (Con.Ka x) (Con.yg x)
def SCd(c:Con)(d i:Nat):KV:=[(3,.i (d:Int)),(14,Con.conS c.sub),(15,.i (c.sub.length:Int)),(16,.i (i:Int))]
def ZD(n:Nat):Ctr:=ctrP true (λc:Con=>[c.conA]) (λc=>c.nodes<n/\c.big<2^40) (λc r=>r=c.depth) (λ_ (r:Nat)=>(.i (r:Int),[]))
noncomputable def GDb:=tb Xt (tb zgf tz)
noncomputable def GDc(n:Nat):Nat->Option Ctr:=λf=>if f=95 then some (ZD n) else GDb.g f
theorem zj6{n:Nat}(h:zd prog 95 (ZD n)):∀ f c,GDc n f=some c->zd prog f c:=by
 intro f c hf;simp only [GDc] at hf;split at hf
 ·rename_i hg; subst hg; cases hf; exact h
 ·exact GDb.h f c hf
theorem Ul(n:Nat)(ih:zd prog 95 (ZD n)):zd prog 95 (ZD (n+1)):=by
 refine zh' f95 λc hp O w0 Q hq=> ?_
 obtain⟨hcn,hcb⟩:=hp;replace hq:=hq _ rfl;rw [Con.xh] at hq;refine zc.n (zj6 ih) [3,14,15,16] (.ex (q25 [(Ex.exA c.x)]) λn=>.all (λ(r:Bool)=>r=qO n) λn=>.ite (!n) (.ex (q26 [(Ex.exA c.x)]) λn=>.all (λ(r:Nat)=>r=Ex.depth n) λn=>.leaf (.loop (lps K95 0).1 (lps K95 0).2 [(3,.i n),(14,.sl c.sub.length 12 (Con.conG c.sub)),(15,.i c.sub.length),(16,.i 0)] [.box c.ze])) (.leaf (.loop (lps K95 0).1 (lps K95 0).2 [(3,.i 0),(14,.sl c.sub.length 12 (Con.conG c.sub)),(15,.i c.sub.length),(16,.i 0)] [.box c.ze]))) ?_;simp only [q25,q26,Tree.holds,zf,inR,lo,hi,aD];have hb:=hcb;rw [Con.uB] at hb;rw [Con.kb] at hcn;have hxd:=Jl c.x;have hsd:=Con.za8 c.sub;have hl:=Con.JF c.sub
 have loop:∀ (d0:Nat) (h:Heap),d0=kC c.x->(∀ S,LeK 0 f95.ntmps S h S []->True)->h=[.box c.ze]->zc prog f95 O 0 w0 [] (λ_ _ _=>False) (RetR (ZD (n+1)) 0 Q) (.code (.loop (lps K95 0).1)::(lps K95 0).2) (mk f95.ntmps [(3,.i (d0:Int)),(14,.sl c.sub.length 12 (Con.conG c.sub)),(15,.i (c.sub.length:Int)),(16,.i 0)] h):=by
  rintro d0 h rfl _ rfl;refine zc.loop (ι:={i:Nat // i<=c.sub.length}) (λi=>SCd c (max (kC c.x) (Con.z8 (c.sub.take i.1))) i.1) (λ_=>[]) (λi=>c.sub.length - i.1) ⟨0,aI _⟩ 0 ?_ ?_ (by kernel_rfl)
  ·exact⟨by simp [SCd,Con.z8,Con.conS,za],by simp,by kernel_rfl,aI _⟩
  ·rintro⟨i,hil⟩;have hdb:Con.z8 (c.sub.take i)<=Con.z8 c.sub:=Con.Kj c.sub i;obtain⟨d,hd⟩:∃ d,max (kC c.x) (Con.z8 (c.sub.take i))=d:=⟨_,rfl⟩;simp only [hd];refine zc.n (zj6 ih) [3,14,15,16] (let v1:=List.getD c.sub (i:Int).toNat Con.nil;.D ((i:Int)<(c.sub.length:Int)) (.side ((0:Int)<=i/\(i:Int)<(c.sub.length:Int)) (.ex (λ(x:Con)=>eqL [v1.conD] [(Con.conA x)]/\Con.nodes x<n/\Con.big x<1099511627776) λn=>.all (λ(r:Nat)=>r=Con.depth n) λn=>.S (i+1) (.leaf (.back 0 [(3,.i (max (d:Int) (n:Int))),(14,.sl c.sub.length 12 (Con.conG c.sub)),(15,.i c.sub.length),(16,.i (i+1))] [.box v1.zl])))) (.S (d+1) (.R [.i (d+1)] []))) ?_;simp only [Tree.holds,zf,inR,lo,hi,aD];refine⟨λhlt=> ?_,λhge=> ?_⟩
   ·have hlt:i<c.sub.length:=by have:=aB hlt; omega
    have hg:=Con.wZ hlt;have hgb:=Con.Wg hlt;have ht:=Con.vA c.sub i hlt;refine⟨by omega,λ_=>⟨c.sub.getD i Con.nil,⟨⟨j0 _,trivial⟩,by omega,by omega⟩,⟨_,rfl⟩,?_⟩⟩;rintro _ rfl;refine⟨by omega,λ_=> ?_⟩;rw [aP trivial];refine⟨⟨i+1,hlt⟩,by show c.sub.length - (i+1)<c.sub.length - i; omega,?_,by simp,by kernel_rfl,aI _⟩;simp [SCd,ht,Con.conS,za]; omega
   ·have hge:i=c.sub.length:=by have:=aC hge; omega
    subst hge;rw [bD] at hd;refine⟨by omega,λ_=> ?_⟩;exact RetR.scal hq rfl (by simp [resV]; omega)
 refine⟨c.x,⟨⟨vk c.x,trivial⟩,trivial⟩,⟨_,rfl⟩,?_⟩;rintro _ rfl;refine⟨λh=>⟨c.x,⟨⟨vk c.x,trivial⟩,by show c.x.size<_; omega⟩,⟨_,rfl⟩,?_⟩,λh=> ?_⟩
 ·rintro _ rfl;exact loop c.x.depth _ (by unfold kC; rw [show qO c.x=false by simpa using h]; rfl) (λ_ _=>trivial) rfl
 ·exact loop 0 _ (by unfold kC; rw [show qO c.x=true by simpa using h]; rfl) (λ_ _=>trivial) rfl
def VQ:Ctr:=ctrP true (λc:Con=>[c.conA]) (λc=>c.big<2^40) (λc r=>r=c.depth) (λ_ (r:Nat)=>(.i (r:Int),[]))
theorem zgd:zd prog 95 VQ:=vJ Con.nodes Ul
end Go.Proofs.Tryz
end
section
namespace Go.Sx
variable [Stat]
section
variable {P:Program}
theorem VO(a:AV):eqA0 a a:=by
 cases a<;>simp [eqA0]
 exactλ_ _ _ _=>rfl
theorem Qk:∀ l:List AV,eqL0 l l
 | []=>trivial
 | a::l=>⟨VO a,Qk l⟩
theorem zle(a:AV):eqA a a:=by
 cases a with
 | agg l=>exact Qk l
 | tup l=>exact Qk l
 | _=>unfold eqA; exact VO _
theorem J7:∀ l:List AV,eqL l l
 | []=>trivial
 | a::l=>by
  unfold eqL;split
  ·rename_i h1 h2; cases h1
  ·rename_i h1 h2; cases h1; cases h2; exact J7 l
  ·rename_i h1 h2; cases h1; cases h2; exact⟨zle _,J7 l⟩
  ·rename_i hx; exact(hx _ _ _ _ rfl rfl).elim
end
end Go.Sx
end
section
namespace Go.Sx
variable [Stat]
section
variable {P:Program} {Γ:Nat->Option Ctr} {fn:Func}
def inlC(P:Program)(Γ:Nat->Option Ctr)(n:Nat)(fn:Func):Ctr where
 fresh:=false
 spec args hc:=match fn.body with
  | some c=>(run P Γ hc.length n [.code c] (wS fn args hc)).bind λlf=>match lf with
   | .ret st=>(resX P st fn.results.toList).bind λrs=>bif decide (hc.length<=st.heap.length) then .leaf (exp2 st.heap (List.range st.heap.length) (resV rs),expH st.heap (List.range st.heap.length)) else .fail
   | _=>.fail
  | none=>.fail
theorem nodup_range':∀ (n s:Nat),jU (List.range' s n)=true
 | 0,_=>rfl
 | n+1,s=>by
  rw [List.range'_succ];simp only [jU,bA];refine⟨?_,nodup_range' n (s+1)⟩;simp [bY,List.mem_range'_1]
theorem jV(b:Blk):eqB b b:=by
 cases b with
 | dead=>trivial
 | box l=>exact J7 l
 | arr n sz g=>exact⟨rfl,rfl,λ_ _ _ _=>rfl⟩
 | arrI k n f=>exact⟨rfl,λ_ _ _ _=>rfl⟩
 | arrS n f=>exact⟨rfl,λ_ _ _ _=>rfl⟩
 | map ag sh has get pe=>exact⟨⟨rfl,.inr rfl⟩,rfl,λ_=>rfl,λ_ _=>rfl⟩
theorem zg7(h:Heap):eqH h h:=by
 induction h with
 | nil=>trivial
 | cons b l ih=>exact⟨jV b,ih⟩
theorem Qj{g n:Nat}(hmix:P.follows .mixedOrders=true)(hΓ:∀ g c,Γ g=some c->zd P g c)(hf:P.funcs[g]?=some fn) (hn:(fn.name == "runtime.NumGoroutine")=false):zd P g (inlC P Γ n fn):=by
 intro args hc Q hq hfr;simp only [inlC] at hq;cases hb:fn.body with
 | none=>rw [hb] at hq; exact hq.elim
 | some c=>
  rw [hb] at hq;simp only [Tree.zq] at hq;refine qF.plain (zr1 hf hb hn hfr λO w0 I0 hl=>Safe.run hmix (λg c h=>(hΓ g c h).x) n (Tree.qe (λlf h=> ?_) hq));cases lf with
  | ret st=>
   simp only [Tree.zq] at h;refine Tree.qe (λrs h=> ?_) h;cases hd:decide (hc.length<=st.heap.length) with
   | false=>rw [hd] at h; exact h.elim
   | true=>
    rw [hd] at h;have h:Q (exp2 st.heap (List.range st.heap.length) (resV rs),expH st.heap (List.range st.heap.length)):=h;have hd:=aB hd;exact⟨List.range st.heap.length,by rw [List.range_eq_range']; exact nodup_range' _ _,λi hi=>List.mem_range.1 hi,λj hj=>by rw [List.getElem?_range (by omega)],λh=>(by cases h),_,_,LeA.refl _,.inl (zg7 _),by simp [expH],h⟩
  | _=>exact h.elim
end
end Go.Sx
end
section
namespace Go.Nov
open Go.Sx
theorem ziv:∀ s:L8,Op.bytesLess s s=false
 | []=>rfl
 | a::s=>by simp [Op.bytesLess,ziv s]
theorem yN{s t:L8} : cmpS s t=0↔s=t:=by
 unfold cmpS;cases hb:Op.bytesLess s t with
 | true=>
  simp only [if_true];refine⟨λh=>by omega,λh=> ?_⟩;subst h; rw [ziv] at hb; cases hb
 | false=>by_cases h:s=t<;>simp [h]
theorem zdh{x y:Int} : cmpI x y=0↔x=y:=by
 unfold cmpI;split
 ·exact⟨λh=>by omega,λh=>by omega⟩
 ·split
  ·exact⟨λh=>by omega,λh=>by omega⟩
  ·exact⟨λ_=>by omega,λ_=>rfl⟩
theorem znt{a b:Fx} : cmpF a b=0↔a.name=b.name/\a.date=b.date:=by
 unfold cmpF;by_cases h:cmpS a.name b.name=0
 ·rw [aP h,zdh]; exact⟨λh2=>⟨yN.1 h,h2⟩,λh2=>h2.2⟩
 ·rw [aO h]; exact⟨λh2=>absurd h2 h,λh2=>absurd (yN.2 h2.1) h⟩
theorem zp6{a b:Ch} : cmpC a b=0↔a.zN=b.zN/\a.name=b.name/\a.date=b.date:=by
 unfold cmpC;by_cases h:cmpS a.zN b.zN=0
 ·rw [aP h];have h1:=yN.1 h;by_cases h':cmpS a.name b.name=0
  ·rw [aP h',zdh]; exact⟨λh2=>⟨h1,yN.1 h',h2⟩,λh2=>h2.2.2⟩
  ·rw [aO h']; exact⟨λh2=>absurd h2 h',λh2=>absurd (yN.2 h2.2.1) h'⟩
 ·rw [aO h]; exact⟨λh2=>absurd h2 h,λh2=>absurd (yN.2 h2.1) h⟩
structure OrdK{α:Type}(c:α->α->Int):Prop where
 lt:∀ a b d,c a b<0->c b d<0->c a d<0
 eq:∀ a b d,c a b<0->c b d=0->c a d<0
section
variable {α:Type} {c:α->α->Int} {z x:α}
end
theorem zsn{α:Type}{p:α->Bool}{z:α}{l:List α}(h:∀ j,j<l.length->p (l.getD j z)=true):l.all p=true:=by
 rw [bG];intro x hx;obtain⟨j,hj,rfl⟩:=List.getElem_of_mem hx;have:=h j hj;simpa [List.getD,hj] using this
theorem zop{α:Type}{p:α->Bool}{z:α}{l:List α}{j:Nat}(hj:j<l.length)(h:p (l.getD j z)=false):l.all p=false:=by
 rw [List.all_eq_false];exact⟨l[j],bK hj,by simpa [List.getD,hj] using h⟩
theorem XQ{f:List Fx}{c:List Ch} : errE f c=0↔¬ (1000<f.length\/1000<c.length)/\f.all okF=true/\c.all okC=true/\ordB cmpF Fx.nil f=true/\ordB cmpC Ch.nil c=true:=by
 unfold errE;by_cases hb:1000<f.length\/1000<c.length
 ·rw [aP hb]; simp [hb]
 ·rw [aO hb];by_cases h:(f.all okF&&c.all okC&&ordB cmpF Fx.nil f&&ordB cmpC Ch.nil c)=true
  ·rw [aP h];simp only [bA] at h;exact⟨λ_=>⟨hb,h.1.1.1,h.1.1.2,h.1.2,h.2⟩,λ_=>rfl⟩
  ·rw [aO h];refine⟨λh2=>by omega,λh2=>absurd ?_ h⟩;simp [h2.2.1,h2.2.2.1,h2.2.2.2.1,h2.2.2.2.2]
def qu(l:List Fx)(a:L8)(d:Int):L8×Bool:=match l.find? λx=>decide (x.name=a)&&decide (x.date=d) with
 | some x=>(x.value,true)
 | none=>([],false)
def qh(l:List Ch)(p n:L8)(d:Int):Bool:=match l.find? λx=>decide (x.zN=p)&&(decide (x.name=n)&&decide (x.date=d)) with
 | some x=>x.first
 | none=>false
theorem zqa{α:Type}{p:α->Bool}{l:List α}{z:α}{i:Nat}(hi:i<l.length)(h:p (l.getD i z)=true)(hb:∀ j,j<i->p (l.getD j z)=false):l.find? p=some (l.getD i z):=by
 induction l generalizing i with
 | nil=>simp at hi
 | cons a l ih=>
  cases i with
  | zero=>simp only [List.getD_cons_zero] at h ⊢; simp [h]
  | succ i=>
   have h0:=hb 0 (by omega);simp only [List.getD_cons_zero,List.getD_cons_succ] at h h0 ⊢;rw [List.find?_cons,h0];exact ih (by simpa using hi) h λj hj=>by have:=hb (j+1) (by omega); simpa using this
end Go.Nov
end
section
set_option maxRecDepth 100000
open Go Go.Sx Go.Proofs Go.Nov
namespace Go.Proofs.Tryz
attribute [local simp] eqKV eqA eqA0 eqH eqB eqL eqL0
noncomputable def K139:=Go.Sx.aA f139
def zr8:Ctr:=ctrP true (λl:List Int=>[Con.dayS l]) (λl=>l.length<2^40) (λl r=>r=xU l) (λ_ (r:Bool)=>(.bool r,[]))
noncomputable def UJ:Ctr:=inlC prog noG 100 f138
theorem K6:zd prog 138 UJ:=Qj hmix zD rfl rfl
noncomputable def GDy:=tb K6 tz
def zef(l:List Int)(i:Nat):Prop:=∀ j,j<i->dayB (l.getD j 0)=true/\(0<j->l.getD (j - 1) 0<l.getD j 0)
theorem zf4{l:List Int}(h1:1<=l.length)(h2:l.length<=100)(h:zef l l.length):xU l=true:=by
 unfold xU;rw [aX h1,aX h2,zsn (z:=0) λj hj=>(h j hj).1];simp only [Bool.true_and];unfold incB;refine J5 λj hj=> ?_
 rw [zd6];exact(h (j+1) hj).2 (by omega)
theorem zkk{l:List Int}{i:Nat}(hi:i<l.length)(h:¬ (dayB (l.getD i 0)=true/\(0<i->l.getD (i - 1) 0<l.getD i 0))):xU l=false:=by
 unfold xU;by_cases hd:dayB (l.getD i 0)=true
 ·have h:0<i/\¬ l.getD (i - 1) 0<l.getD i 0:=by
   refine⟨?_,?_⟩
   ·rcases bC i with h0 | h0
    ·exact absurd ⟨hd,λh1=>by omega⟩ h
    ·exact h0
   ·exactλh1=>h ⟨hd,λ_=>h1⟩
  have:incB l=false:=by
   unfold incB;refine Jj (j:=i - 1) (by omega) ?_;rw [zd6,show i - 1+1=i by omega];exact h.2
  rw [this]; simp
 ·have:l.all dayB=false:=zop (z:=0) hi (by simpa using hd);rw [this]; simp
theorem zal{l:List Int}{i:Nat}(h:zef l i)(h1:dayB (l.getD i 0)=true/\(0<i->l.getD (i - 1) 0<l.getD i 0)):zef l (i+1):=λj hj=>by
 rcases aR j i with h2 | h2
 ·exact h j h2
 ·rw [show j=i by omega]; exact h1
theorem zdd{l:List Int}{i:Nat}{b:Bool}(hb:b=dayB (l.getD i 0)):(bif !b then true else bif decide (0<(i:Int)) then decide (l.getD i 0<=l.getD ((i:Int) - 1).toNat 0) else false)=false↔(dayB (l.getD i 0)=true/\(0<i->l.getD (i - 1) 0<l.getD i 0)):=by
 have e:((i:Int) - 1).toNat=i - 1:=by omega
 rw [e,<- hb];cases b with
 | false=>simp
 | true=>
  by_cases h0:0<i
  ·have h1:0<(i:Int):=by omega
   rw [aX h1];simp only [Bool.not_true,cond_false,cond_true,aV,true_and];exact⟨λh _=>by omega,λh=>by have:=h h0; omega⟩
  ·have h1:¬ 0<(i:Int):=by omega
   rw [aW h1];simp [h0]
theorem zi8{l:List Int}{i:Nat}{b:Bool}(hb:b=dayB (l.getD i 0)):(bif !b then true else bif decide (0<(i:Int)) then decide (l.getD i 0<=l.getD ((i:Int) - 1).toNat 0) else false)=true->¬ (dayB (l.getD i 0)=true/\(0<i->l.getD (i - 1) 0<l.getD i 0)):=λh g=>by
 rw [(zdd hb).2 g] at h; cases h
def SDy(l:List Int)(i:Nat):KV:=[(0,Con.dayS l),(13,Con.dayS l),(14,.i (l.length:Int)),(15,.i (i:Int)),Z 24,Z 25,Z 26,Z 27,Z 28,Z 29,Z 30,Z 31,Z 32,Z 33,Z 34]
theorem zrr(d:Int):(bif decide (0<=d) then decide (d<=99999) else false)=dayB d:=by
 rw [Bool.eq_iff_iff];simp [dayB]
theorem zo3:zd prog 139 zr8:=by
 refine zh' f139 λl hl O w0 Q hq=> ?_
 replace hq:=hq _ rfl;refine zc.n GDy.h [0,13,14,15,24,25,26,27,28,29,30,31,32,33,34] (.ite (bif decide ((l.length:Int)<1) then true else decide ((100:Int)<l.length)) (.R [.bool false] []) (.leaf (.loop (lps K139 0).1 (lps K139 0).2 [(0,.sl l.length 1 (Con.dayG l)),(13,.sl l.length 1 (Con.dayG l)),(14,.i l.length),(15,.i 0),Z 24,Z 25,Z 26,Z 27,Z 28,Z 29,Z 30,Z 31,Z 32,Z 33,Z 34] []))) ?_;simp only [Tree.holds,zf,inR,lo,hi,aD];refine⟨λh=> ?_,λh=> ?_⟩
 ·have hb:xU l=false:=by
   unfold xU;by_cases h1:1<=l.length
   ·by_cases h2:l.length<=100
    ·rw [aW (by omega),aW (by omega)] at h; cases h
    ·rw [aW h2]; simp
   ·rw [aW h1]; simp
  rw [hb] at hq;exact RetR.scal hq rfl rfl
 have hlen:1<=l.length/\l.length<=100:=by
  by_cases h1:(l.length:Int)<1
  ·rw [aX h1] at h; cases h
  ·rw [aW h1] at h;have:=aC h;omega
 clear h;refine zc.loop (ι:={i:Nat // i<=l.length/\zef l i}) (λi=>SDy l i.1) (λ_=>[]) (λi=>l.length - i.1) ⟨0,aI _,λj hj=>by omega⟩ 0 ?_ ?_ (by kernel_rfl)
 ·exact⟨by simp [SDy,Con.dayS,za],by simp,by kernel_rfl,aI _⟩
 rintro⟨i,hil,hg⟩;refine zc.n GDy.h [0,13,14,15,24,25,26,27,28,29,30,31,32,33,34] (let v1:=l.getD (i:Int).toNat (0:Int)<=99999;.D ((i:Int)<l.length) (.side ((0:Int)<=i/\(i:Int)<l.length) (.side ((!bif decide ((0:Int)<=List.getD l (i:Int).toNat (0:Int)) then decide v1 else false)=false/\decide ((0:Int)<i)=true->inR .i64 (i-1)) (.side ((!bif decide ((0:Int)<=List.getD l (i:Int).toNat (0:Int)) then decide v1 else false)=false/\decide ((0:Int)<i)=true->(0:Int)<=i - (1:Int)/\(i:Int) - (1:Int)<l.length) (.ite (bif !bif decide ((0:Int)<=List.getD l (i:Int).toNat (0:Int)) then decide v1 else false then true else bif decide ((0:Int)<i) then decide (l.getD (i:Int).toNat (0:Int)<=List.getD l (Int.toNat (i-1)) (0:Int)) else false) (.R [.bool false] []) (.S (i+1) (.leaf (.back 0 [(0,.sl l.length 1 (Con.dayG l)),(13,.sl l.length 1 (Con.dayG l)),(14,.i l.length),(15,.i (i+1)),Z 24,Z 25,Z 26,Z 27,Z 28,Z 29,Z 30,Z 31,Z 32,Z 33,Z 34] []))))))) (.R [.bool true] [])) ?_;simp only [Tree.holds,zf,inR,lo,hi,aD];refine⟨λhlt=> ?_,λhge=> ?_⟩
 ·have hlt:i<l.length:=by have:=aB hlt; omega
  refine⟨by omega,λ_=>⟨λh=>(by have:=aB h.2; omega),λ_=>⟨λh=>(by have:=aB h.2; omega),λ_=>⟨λht=> ?_,λht=>⟨by omega,λ_=> ?_⟩⟩⟩⟩⟩
  ·rw [zkk hlt (zi8 (zrr _) ht)] at hq;exact RetR.scal hq rfl rfl
  ·rw [aP trivial];exact⟨⟨i+1,hlt,zal hg ((zdd (zrr _)).1 ht)⟩,by show l.length - (i+1)<l.length - i; omega,by simp [SDy,Con.dayS,za],by simp,by kernel_rfl,aI _⟩
 ·have hge:i=l.length:=by have:=aC hge; omega
  subst hge;rw [zf4 hlen.1 hlen.2 hg] at hq;exact RetR.scal hq rfl rfl
def bitB(p q:Int):Bool:=decide (((p.toNat &&& q.toNat:Nat):Int)≠0)
def HHas(p:Int):Heap:=[.box [.i p]]
def hasC:Ctr:=ctrT false false (λp:Int×Int=>[.i p.2,.ptr 0 0]) (λp=>HHas p.1) (λp=>0<=p.1/\p.1<512/\0<=p.2/\p.2<512) (λp r=>r=bitB p.1 p.2) (λp (r:Bool)=>(.bool r,HHas p.1))
theorem zl1:zd prog 134 hasC:=by
 refine zH (fn:=f134) (c:=f134.body.getD .skip) rfl rfl rfl (λh=>by cases h) λp hp O w0 I0 Q hl0 hq=> ?_
 obtain⟨p,q⟩:=p;obtain⟨h1,h2,h3,h4⟩:=hp;replace hq:=hq _ rfl;simp only at h1 h2 h3 h4 hq;refine zc.n zD [] (.side (((0:Int)<=p/\p<=9223372036854775807)/\(0:Int)<=q/\q<=9223372036854775807) (.R [.bool !decide ((↑(Int.toNat p &&& Int.toNat q):Int)=0)] [.box [.i p]])) ?_;simp only [Tree.holds,zf,inR,lo,hi,aD];refine⟨by omega,λ_=> ?_⟩;refine RetR.keep [0] rfl rfl (by show ∀ j,j<1->_; decide) rfl hq ?_ ?_ rfl
 ·show(!decide (((p.toNat &&& q.toNat:Nat):Int)=0))=bitB p q;simp [bitB]
 ·exact⟨⟨⟨rfl,rfl⟩,trivial⟩,trivial⟩
noncomputable def GNd2:=tb zl1 (tb Zm tz)
def zr4(p:Int):Heap:=[.box [.fn 134 [] [.ptr 1 0]],.box [.i p]]
def wK(b:Bool)(s:L8):Bool:=if b=true then zy s else decide (s=[])
def zru:Ctr:=ctrT false false (λp:Int×Int×L8=>[.i p.2.1,.str p.2.2,.ptr 0 0]) (λp=>zr4 p.1) (λp=>0<=p.1/\p.1<512/\0<=p.2.1/\p.2.1<512/\p.2.2.length<2^62) (λp r=>r=wK (bitB p.1 p.2.1) p.2.2) (λp (r:Bool)=>(.bool r,zr4 p.1))
abbrev q27(A:List AV)(H:Heap)(x:Int×Int):Prop:=eqL A [.i x.2,.ptr 0 0]/\eqH H [.box [.i x.1]]/\1=1/\(0:Int)<=x.1/\x.1<512/\(0:Int)<=x.2/\x.2<512
theorem zoo:zd prog 135 zru:=by
 refine zH (fn:=f135) (c:=f135.body.getD .skip) rfl rfl rfl (λh=>by cases h) λp hp O w0 I0 Q hl0 hq=> ?_
 obtain⟨p,q,s⟩:=p;obtain⟨h1,h2,h3,h4,h5⟩:=hp;replace hq:=hq _ rfl;simp only at h1 h2 h3 h4 h5 hq;refine zc.n GNd2.h [] (.ex (q27 [.i q,.ptr 0 0] [.box [.i p]]) λn=>.all (λ(r:Bool)=>r=bitB n.1 n.2) λn_1=>.ex (λ(x:L8)=>n_1=true->q15 [.str s] x) λn_2=>.all (λ(x:Bool)=>n_1=true->x=zy n_2) λn_3=>.ite ((bif n_1 then n_3 else false) == false) (.ex (q27 [.i q,.ptr 0 0] [.box [.i n.1]]) λn=>.all (λ(r:Bool)=>r=bitB n.1 n.2) λn_4=>.R [.bool (bif bif n_1 then n_3 else false then true else bif !n_4 then decide (s=#[].toList) else false)] [.box [.fn 134 [] [.ptr 1 0]],.box [.i n.1]]) (.R [.bool (bif bif n_1 then n_3 else false then true else bif !false then decide (s=#[].toList) else false)] [.box [.fn 134 [] [.ptr 1 0]],.box [.i n.1]])) ?_;simp only [q15,q27,Tree.holds,zf,inR,lo,hi,aD];refine⟨(p,q),⟨⟨⟨rfl,rfl⟩,⟨rfl,rfl⟩,trivial⟩,⟨⟨⟨rfl,rfl⟩,trivial⟩,trivial⟩,trivial,h1,h2,h3,h4⟩,⟨_,rfl⟩,?_⟩;rintro b rfl;refine⟨s,λ_=>⟨⟨rfl,trivial⟩,h5⟩,⟨zy s,λ_=>rfl⟩,λm hm=>⟨λhb=> ?_,λhb=> ?_⟩⟩
 ·refine⟨(p,q),⟨⟨⟨rfl,rfl⟩,⟨rfl,rfl⟩,trivial⟩,⟨⟨⟨rfl,rfl⟩,trivial⟩,trivial⟩,trivial,h1,h2,h3,h4⟩,⟨_,rfl⟩,?_⟩;rintro b rfl;refine RetR.keep [0,1] rfl rfl (by show ∀ j,j<2->_; decide) rfl hq ?_ ?_ rfl
  ·simp only [exp2,exp1,exp0,resV,eqA2,wK];cases hbb:bitB p q with
   | true=>
    have:=hm hbb;rw [hbb] at hb;subst this;have:zy s=false:=by simpa using hb
    rw [this]; rfl
   | false=>simp; rfl
  ·exact⟨⟨rfl,trivial⟩,⟨⟨rfl,rfl⟩,trivial⟩,trivial⟩
 ·refine RetR.keep [0,1] rfl rfl (by show ∀ j,j<2->_; decide) rfl hq ?_ ?_ rfl
  ·simp only [exp2,exp1,exp0,resV,eqA2,wK];cases hbb:bitB p q with
   | true=>
    have:=hm hbb;rw [hbb] at hb;subst this;have:zy s=true:=by simpa using hb
    rw [this]; rfl
   | false=>rw [hbb] at hb; simp at hb
  ·exact⟨⟨rfl,trivial⟩,⟨⟨rfl,rfl⟩,trivial⟩,trivial⟩
noncomputable def GNd:=tb zl1 (tb zoo (tb zsr (tb zkz (tb Xt (tb K6 (tb zo3 tz))))))
end Go.Proofs.Tryz
end
section
namespace Go.Sx
variable [Stat]
section
variable {O:Nat->Prop} {pin:Nat} {w0:World} {I0:List SE} {P:Program} {fn:Func} {Xp:List PanicEntry->Prop}
end
end Go.Sx
end
section
namespace Go.Sx
variable [Stat]
section
variable {O:Nat->Prop} {pin:Nat} {w0:World} {I0:List SE} {P:Program} {fn:Func} {Xp:List PanicEntry->Prop}
def jE:Nat->Code->List Item
 | n+1,.seq a b=>.code a::jE n b
 | _,c=>[.code c]
theorem WQ{M:Option Nat}{H:Nat->Act->World->Prop}{B:Exit->Act->World->Prop}{k:List Item}{e:Exit}(he:e≠.normal){a:Act}{w:World} : ∀ (n:Nat) (c:Code),wpK M P H B (jE n c++k) e a w->wpK M P H B k e a w
 | 0,c,h=>by cases c<;>cases e<;>first | exact absurd rfl he | exact h
 | n+1,c,h=>by
  cases c with
  | seq x y=>cases e<;>first | exact absurd rfl he | exact WQ he n y h
  | _=>cases e<;>first | exact absurd rfl he | exact h
theorem Qi{M:Option Nat}{H:Nat->Act->World->Prop}{B:Exit->Act->World->Prop} : ∀ (n:Nat) (c:Code) (k:List Item) (a:Act) (w:World),wpK M P H B (jE n c++k) .normal a w->wpK M P H B (.code c::k) .normal a w
 | 0,c,k,a,w,h=>by cases c<;>exact h
 | n+1,c,k,a,w,h=>by
  cases c with
  | seq x y=>
   simp only [jE,List.cons_append,wpK] at h ⊢;refine wpIn_seq (wpIn_mono h λe a w h=> ?_);cases e with
   | normal=>exact Qi n y k a w h
   | _=>exact WQ (by simp) n y h
  | _=>exact h
theorem zc.spine{M:Option Nat}{Hs:Nat->KV->Heap->Prop}{R:List AV->Heap->Prop}{k:List Item}{c:Code}{st:St}(n:Nat)(h:qp Xp M P fn O pin w0 I0 Hs R (Go.Sx.jE n c++k) st):qp Xp M P fn O pin w0 I0 Hs R (.code c::k) st:=
 λw σ a hm=>Qi n c k a w (h w σ a hm)
def Q4:Item->Bool
 | .inLoop=>false
 | _=>true
theorem kQ{M:Option Nat}{H H':Nat->Act->World->Prop}{B:Exit->Act->World->Prop}{k:List Item}(h1:∀ a w,H' (j1 k) a w->wpK M P H B k .normal a w)(h2:∀ d a w,d<j1 k->H' d a w->H d a w) :
  ∀ (ks:List Item),ks.all Q4=true->∀ (e:Exit) (a:Act) (w:World),wpK M P H' B (ks++.inLoop::k) e a w->wpK M P H B (ks++k) e a w
 | [],_,e,a,w,h=>by
  cases e with
  | normal=>exact h1 a w h
  | _=>exact j3 (k:=k) (λd a w hd h=>h2 d a w hd h) h
 | .code c::ks,hf,e,a,w,h=>by
  have hf':ks.all Q4=true:=by simpa [Q4] using hf
  cases e with
  | normal=>exact wpIn_mono h λe a w h=>kQ h1 h2 ks hf' e a w h
  | _=>exact kQ h1 h2 ks hf' _ a w h
 | .inBlock id::ks,hf,e,a,w,h=>by
  have hf':ks.all Q4=true:=by simpa [Q4] using hf
  cases e with
  | normal=>exact kQ h1 h2 ks hf' _ a w h
  | exit i=>
   simp only [List.cons_append,wpK] at h ⊢;split at h
   ·rename_i hi; rw [aP hi]; exact kQ h1 h2 ks hf' _ a w h
   ·rename_i hi; rw [aO hi]; exact kQ h1 h2 ks hf' _ a w h
  | _=>exact kQ h1 h2 ks hf' _ a w h
 | .inLoop::ks,hf,e,a,w,h=>by simp [Q4] at hf
theorem zc.cutL{M:Option Nat}{ι:Type}{Hs:Nat->KV->Heap->Prop}{R:List AV->Heap->Prop}{st:St}(L:List Item)(m dk:Nat)(S:ι->KV)(H:ι->Heap)(hf:(L.take m).all Q4=true)(hd:j1 (L.drop m)=dk)
  (h1:qp Xp M P fn O pin w0 I0 (λd kv h=>if d=dk then ∃ x,LeK pin fn.ntmps kv h (S x) (H x) else Hs d kv h) R (L.take m++.inLoop::L.drop m) st)
  (h2:∀ x,qp Xp M P fn O pin w0 I0 Hs R (L.drop m) (mk fn.ntmps (S x) (H x))):qp Xp M P fn O pin w0 I0 Hs R L st:=by
 subst hd;intro w σ a hm;have:=h1 w σ a hm;rw [<- bU m L];refine kQ ?_ ?_ (L.take m) hf .normal a w this
 ·rintro a' w' ⟨st',Z',⟨kv,h,hh,rfl⟩,hm'⟩;rw [aP rfl] at hh;obtain⟨x,hle⟩:=hh;exact h2 x w' _ a' (hle.le.mod hm')
 ·rintro d a' w' hd ⟨st',Z',⟨kv,h,hh,rfl⟩,hm'⟩;rw [aO (by omega)] at hh;exact⟨_,Z',⟨kv,h,hh,rfl⟩,hm'⟩
end
end Go.Sx
end
section
set_option maxRecDepth 100000
open Go Go.Sx Go.Proofs Go.Nov
def Go.Nov.Con.p(c:Con):Int:=kT c.kind
namespace Go.Proofs.Tryz
attribute [local simp] eqKV eqA eqA0 eqH eqB eqL eqL0
def zku:Ctr:=ctrP true (λc:Con=>[c.conA]) (λc=>c.big<2^40) (λc r=>r=c.xY) (λ_ (r:Bool)=>(.bool r,[]))
noncomputable def LN:List Go.Sx.Item:=jE 12 (f97.body.getD .skip)++[]
noncomputable def LN1:List Go.Sx.Item:=LN.drop 6
noncomputable def LN2:List Go.Sx.Item:=LN1.drop 1
noncomputable def LN3:List Go.Sx.Item:=LN2.drop 3
noncomputable def LN4:List Go.Sx.Item:=LN3.drop 1
noncomputable def LN5:List Go.Sx.Item:=LN4.drop 1
def HNd(c:Con):Heap:=[.box c.ze,.box [.i c.p],.box [.fn 134 [] [.ptr 1 0]]]
def SN1:KV:=[(1,.ptr 0 0),(5,.ptr 2 0),(6,.fn 135 [] [.ptr 2 0])]
def SN2(a:Bool):KV:=[(1,.ptr 0 0),(4,.bool a),(5,.ptr 2 0)]
def SN3(a:Bool)(m:Int):KV:=[(1,.ptr 0 0),(4,.bool a),(5,.ptr 2 0),(7,.i m)]
def SN4(a:Bool)(m:Int)(b:Bool):KV:=[(1,.ptr 0 0),(4,.bool a),(5,.ptr 2 0),(7,.i m),(8,.bool b)]
def SN5(a:Bool)(m:Int)(b d:Bool):KV:=[(1,.ptr 0 0),(4,.bool a),(7,.i m),(8,.bool b),(9,.bool d)]
namespace Nd
def words(c:Con):Prop:=wK (bitB c.p 1) c.src=true/\wK (bitB c.p 2) c.dst=true/\wK (bitB c.p 4) c.name=true/\¬ (bitB c.p 2=true/\c.src=c.dst)
def okX(c:Con):Bool:=if bitB c.p 8=true then numX c.x else if bitB c.p 16=true then truX c.x else qO c.x
def subs(c:Con):Int:=if bitB c.p 256=true then 2 else if bitB c.p 128=true then 1 else 0
def right(c:Con):Bool:=if bitB c.p 32=true then dayB c.date else decide (c.date=0)
def list(c:Con):Bool:=if bitB c.p 64=true then xU c.days else decide (c.days.length=0)
end Nd
theorem zey(k:Int):0<=kT k/\kT k<512:=by
 unfold kT
 repeat' split
 all_goals decide
theorem VM{c:Con}(hk:1<=c.kind/\c.kind<=10):c.xY=true↔Nd.words c/\Nd.okX c=true/\Nd.right c=true/\Nd.list c=true/\(c.sub.length:Int)=Nd.subs c:=by
 have hr:c.kind=1\/c.kind=2\/c.kind=3\/c.kind=4\/c.kind=5\/c.kind=6\/c.kind=7\/c.kind=8\/c.kind=9\/c.kind=10:=by omega
 unfold Con.xY wL Nd.words Nd.okX Nd.right Nd.list Nd.subs Con.p kT wK bitB;generalize c.kind=k at hr hk;generalize c.src=a;generalize c.dst=b;generalize c.name=n;generalize c.x=x;generalize c.date=d;generalize c.days=l;generalize c.sub.length=m;rcases hr with rfl | rfl | rfl | rfl | rfl | rfl | rfl | rfl | rfl | rfl
 all_goals
  simp;grind
theorem Uw{c:Con}(h:¬ ((1<=c.kind/\c.kind<=10)/\Nd.words c)):c.xY=false:=by
 by_cases hk:1<=c.kind/\c.kind<=10
 ·rw [Bool.eq_false_iff];exactλhh=>h ⟨hk,((VM hk).1 hh).1⟩
 ·unfold Con.xY wL;rw [aO (by omega),aO (by omega),aO (by omega),aO (by omega),aO (by omega),aO (by omega),aO (by omega),aO (by omega),aO (by omega)]
abbrev q30(A:List AV)(x:List Int):Prop:=eqL A [.sl x.length 1 (Con.dayG x)]/\x.length<1099511627776
abbrev q29(A:List AV)(x:Ex):Prop:=eqL A [x.exA]/\Ex.size x<1099511627776/\Ex.zB x<1099511627776
abbrev q28(A:List AV)(H:Heap)(x:Int×Int×L8):Prop:=eqL A [.i x.2.1,.str x.2.2,.ptr 0 0]/\eqH H [.box [.fn 134 [] [.ptr 1 0]],.box [.i x.1]]/\2=2/\(0:Int)<=x.1/\x.1<512/\(0:Int)<=x.2.1/\x.2.1<512/\x.2.2.length<4611686018427387904
theorem znz:zd prog 97 zku:=by
 refine zh' f97 λc hc O w0 Q hq=> ?_
 replace hq:=hq _ rfl;have hb:=hc;rw [Con.uB] at hb;obtain⟨hp0,hp1⟩:=zey c.kind;refine zc.spine 12 ?_;refine zc.cutL (ι:={u:Unit // (1<=c.kind/\c.kind<=10)/\Nd.words c}) LN 6 0 (λ_=>SN1) (λ_=>HNd c) (by kernel_rfl) (by kernel_rfl) ?_ ?_
 ·refine zc.n GNd.h [1,5,6] (let v9:=[AV.i 2,AV.str c.dst,AV.ptr 0 0];let v8:=[AV.i 1,AV.str c.src,AV.ptr 0 0];let v7:=[AV.i 4,AV.str c.name,AV.ptr 0 0];let v6:=[AV.i 2,AV.ptr 0 0];let v5:List AV:=[.bool false];let v4:=[AV.fn 134 [] [.ptr 1 0]];let v3:=Con.src c=Con.dst c;let v2:List AV:=[.fn 134 [] [.ptr 1 0]];let v1:List (Nat×AV):=[(1,.ptr 0 0),(5,.ptr 2 0),(6,.fn 135 [] [.ptr 2 0])];.D ((1:Int)<=Con.kind c/\Con.kind c<=10) (.ite false (.R v5 [.box c.ze,.box [.i (kT c.kind)]]) (.ex (q28 v8 [.box v4,.box [.i (kT c.kind)]]) λn=>let v26:=[AV.i n.1];let v17:List Blk:=[.box c.ze,.box [.i n.1],.box v2];.all (λ(r:Bool)=>r=wK (bitB n.1 n.2.1) n.2.2) λn_1=>.ite ((!n_1) == false) (.ex (q28 v9 [.box v4,.box v26]) λn=>let v13:List Blk:=[.box c.ze,.box [.i n.1],.box v2];.all (λ(r:Bool)=>r=wK (bitB n.1 n.2.1) n.2.2) λn_2=>.ite ((bif !n_1 then true else !n_2) == false) (.ex (q28 v7 [.box v4,.box [.i n.1]]) λn=>let v11:List Blk:=[.box c.ze,.box [.i n.1],.box v2];.all (λ(r:Bool)=>r=wK (bitB n.1 n.2.1) n.2.2) λn_3=>.ite ((bif bif !n_1 then true else !n_2 then true else !n_3) == false) (.ex (q27 v6 [.box [.i n.1]]) λn=>let v10:List Blk:=[.box c.ze,.box [.i n.1],.box v2];.all (λ(r:Bool)=>r=bitB n.1 n.2) λn_4=>.ite (bif bif bif !n_1 then true else !n_2 then true else !n_3 then true else bif n_4 then decide v3 else false) (.R v5 v10) (.leaf (.back 0 v1 v10))) (.ite (bif bif bif !n_1 then true else !n_2 then true else !n_3 then true else bif false then decide v3 else false) (.R v5 v11) (.leaf (.back 0 v1 v11)))) (.ite ((bif bif !n_1 then true else !n_2 then true else !false) == false) (.ex (q27 v6 [.box [.i n.1]]) λn=>let v12:List Blk:=[.box c.ze,.box [.i n.1],.box v2];.all (λ(r:Bool)=>r=bitB n.1 n.2) λn_3=>.ite (bif bif bif !n_1 then true else !n_2 then true else !false then true else bif n_3 then decide v3 else false) (.R v5 v12) (.leaf (.back 0 v1 v12))) (.ite (bif bif bif !n_1 then true else !n_2 then true else !false then true else bif false then decide v3 else false) (.R v5 v13) (.leaf (.back 0 v1 v13))))) (.ite ((bif !n_1 then true else !false) == false) (.ex (q28 v7 [.box v4,.box v26]) λn=>let v15:List Blk:=[.box c.ze,.box [.i n.1],.box v2];.all (λ(r:Bool)=>r=wK (bitB n.1 n.2.1) n.2.2) λn_2=>.ite ((bif bif !n_1 then true else !false then true else !n_2) == false) (.ex (q27 v6 [.box [.i n.1]]) λn=>let v14:List Blk:=[.box c.ze,.box [.i n.1],.box v2];.all (λ(r:Bool)=>r=bitB n.1 n.2) λn_3=>.ite (bif bif bif !n_1 then true else !false then true else !n_2 then true else bif n_3 then decide v3 else false) (.R v5 v14) (.leaf (.back 0 v1 v14))) (.ite (bif bif bif !n_1 then true else !false then true else !n_2 then true else bif false then decide v3 else false) (.R v5 v15) (.leaf (.back 0 v1 v15)))) (.ite ((bif bif !n_1 then true else !false then true else !false) == false) (.ex (q27 v6 [.box v26]) λn=>let v16:List Blk:=[.box c.ze,.box [.i n.1],.box v2];.all (λ(r:Bool)=>r=bitB n.1 n.2) λn_2=>.ite (bif bif bif !n_1 then true else !false then true else !false then true else bif n_2 then decide v3 else false) (.R v5 v16) (.leaf (.back 0 v1 v16))) (.ite (bif bif bif !n_1 then true else !false then true else !false then true else bif false then decide v3 else false) (.R v5 v17) (.leaf (.back 0 v1 v17))))))) (.ite true (.R v5 [.box c.ze,.box [.i 0]]) (.ex (q28 v8 [.box v4,.box [.i 0]]) λn=>let v27:=[AV.i n.1];let v25:List Blk:=[.box c.ze,.box [.i n.1],.box v2];.all (λ(r:Bool)=>r=wK (bitB n.1 n.2.1) n.2.2) λn_1=>.ite ((!n_1) == false) (.ex (q28 v9 [.box v4,.box v27]) λn=>let v21:List Blk:=[.box c.ze,.box [.i n.1],.box v2];.all (λ(r:Bool)=>r=wK (bitB n.1 n.2.1) n.2.2) λn_2=>.ite ((bif !n_1 then true else !n_2) == false) (.ex (q28 v7 [.box v4,.box [.i n.1]]) λn=>let v19:List Blk:=[.box c.ze,.box [.i n.1],.box v2];.all (λ(r:Bool)=>r=wK (bitB n.1 n.2.1) n.2.2) λn_3=>.ite ((bif bif !n_1 then true else !n_2 then true else !n_3) == false) (.ex (q27 v6 [.box [.i n.1]]) λn=>let v18:List Blk:=[.box c.ze,.box [.i n.1],.box v2];.all (λ(r:Bool)=>r=bitB n.1 n.2) λn_4=>.ite (bif bif bif !n_1 then true else !n_2 then true else !n_3 then true else bif n_4 then decide v3 else false) (.R v5 v18) (.leaf (.back 0 v1 v18))) (.ite (bif bif bif !n_1 then true else !n_2 then true else !n_3 then true else bif false then decide v3 else false) (.R v5 v19) (.leaf (.back 0 v1 v19)))) (.ite ((bif bif !n_1 then true else !n_2 then true else !false) == false) (.ex (q27 v6 [.box [.i n.1]]) λn=>let v20:List Blk:=[.box c.ze,.box [.i n.1],.box v2];.all (λ(r:Bool)=>r=bitB n.1 n.2) λn_3=>.ite (bif bif bif !n_1 then true else !n_2 then true else !false then true else bif n_3 then decide v3 else false) (.R v5 v20) (.leaf (.back 0 v1 v20))) (.ite (bif bif bif !n_1 then true else !n_2 then true else !false then true else bif false then decide v3 else false) (.R v5 v21) (.leaf (.back 0 v1 v21))))) (.ite ((bif !n_1 then true else !false) == false) (.ex (q28 v7 [.box v4,.box v27]) λn=>let v23:List Blk:=[.box c.ze,.box [.i n.1],.box v2];.all (λ(r:Bool)=>r=wK (bitB n.1 n.2.1) n.2.2) λn_2=>.ite ((bif bif !n_1 then true else !false then true else !n_2) == false) (.ex (q27 v6 [.box [.i n.1]]) λn=>let v22:List Blk:=[.box c.ze,.box [.i n.1],.box v2];.all (λ(r:Bool)=>r=bitB n.1 n.2) λn_3=>.ite (bif bif bif !n_1 then true else !false then true else !n_2 then true else bif n_3 then decide v3 else false) (.R v5 v22) (.leaf (.back 0 v1 v22))) (.ite (bif bif bif !n_1 then true else !false then true else !n_2 then true else bif false then decide v3 else false) (.R v5 v23) (.leaf (.back 0 v1 v23)))) (.ite ((bif bif !n_1 then true else !false then true else !false) == false) (.ex (q27 v6 [.box v27]) λn=>let v24:List Blk:=[.box c.ze,.box [.i n.1],.box v2];.all (λ(r:Bool)=>r=bitB n.1 n.2) λn_2=>.ite (bif bif bif !n_1 then true else !false then true else !false then true else bif n_2 then decide v3 else false) (.R v5 v24) (.leaf (.back 0 v1 v24))) (.ite (bif bif bif !n_1 then true else !false then true else !false then true else bif false then decide v3 else false) (.R v5 v25) (.leaf (.back 0 v1 v25)))))))) ?_;simp only [q27,q28,Tree.holds,zf,inR,lo,hi,aD];obtain⟨b1,e1⟩:∃ b,wK (bitB c.p 1) c.src=b:=⟨_,rfl⟩;obtain⟨b2,e2⟩:∃ b,wK (bitB c.p 2) c.dst=b:=⟨_,rfl⟩;obtain⟨b3,e3⟩:∃ b,wK (bitB c.p 4) c.name=b:=⟨_,rfl⟩;obtain⟨b4,e4⟩:∃ b,bitB c.p 2=b:=⟨_,rfl⟩;obtain⟨b5,e5⟩:∃ b,decide (c.src=c.dst)=b:=⟨_,rfl⟩
  have hbad:¬ ((1<=c.kind/\c.kind<=10)/\Nd.words c)->∀ h,RetR zku 0 Q [.bool false] h:=λhn h=>by
   have:c.xY=false:=Uw hn;rw [this] at hq;exact RetR.scal hq rfl (by simp [resV])
  refine⟨λhk=>⟨λh=>(by cases h),λ_=> ?_⟩,λhk=> ?_⟩
  ·have hk:=aB hk;refine⟨(c.p,1,c.src),⟨by simp,by simp [Con.p],trivial,hp0,hp1,(by simp only; omega),(by simp only; omega),by simp only; omega⟩,⟨_,rfl⟩,?_⟩;rintro _ rfl;simp only [e1];cases b1 with
   | false=>exact⟨λh=>by simp at h,λ_=>⟨λh=>by simp at h,λ_=>⟨λh=>by simp at h,λ_=>⟨λ_=>hbad (λh=>by have:=h.2.1; rw [e1] at this; cases this) _,λh=>by simp at h⟩⟩⟩⟩
   | true=>
   refine⟨λ_=> ?_,λh=>by simp at h⟩;refine⟨(c.p,2,c.dst),⟨by simp,by simp [Con.p],trivial,hp0,hp1,(by simp only; omega),(by simp only; omega),by simp only; omega⟩,⟨_,rfl⟩,?_⟩;rintro _ rfl;simp only [e2];cases b2 with
   | false=>exact⟨λh=>by simp at h,λ_=>⟨λh=>by simp at h,λ_=>⟨λ_=>hbad (λh=>by have:=h.2.2.1; rw [e2] at this; cases this) _,λh=>by simp at h⟩⟩⟩
   | true=>
   refine⟨λ_=> ?_,λh=>by simp at h⟩;refine⟨(c.p,4,c.name),⟨by simp,by simp [Con.p],trivial,hp0,hp1,(by simp only; omega),(by simp only; omega),by simp only; omega⟩,⟨_,rfl⟩,?_⟩;rintro _ rfl;simp only [e3];cases b3 with
   | false=>exact⟨λh=>by simp at h,λ_=>⟨λ_=>hbad (λh=>by have:=h.2.2.2.1; rw [e3] at this; cases this) _,λh=>by simp at h⟩⟩
   | true=>
   refine⟨λ_=> ?_,λh=>by simp at h⟩;refine⟨(c.p,2),⟨by simp,by simp [Con.p],trivial,hp0,hp1,(by simp only; omega),(by simp only; omega)⟩,⟨_,rfl⟩,?_⟩;rintro _ rfl;simp only [e4];refine⟨λh=> ?_,λh=> ?_⟩
   ·refine hbad (λhn=>hn.2.2.2.2 ?_) _;cases b4 with
    | false=>simp at h
    | true=>exact⟨e4,by simpa using h⟩
   ·rw [aP trivial];refine⟨⟨(),hk,e1,e2,e3,λhh=> ?_⟩,by simp [SN1],⟨zM c,⟨⟨rfl,rfl⟩,trivial⟩,⟨rfl,trivial⟩,trivial⟩,by kernel_rfl,aI _⟩;rw [e4] at hh;rw [hh.1] at h;simp [hh.2] at h
  ·have hk:=aC hk;refine⟨λ_=>hbad (λh=>hk h.1) _,λh=>by cases h⟩
 ·rintro⟨_,hk,hw⟩;show jD none prog f97 O 0 w0 [] _ _ LN1 _;refine zc.cutL (ι:=Unit) LN1 1 0 (λ_=>SN2 (Nd.okX c)) (λ_=>HNd c) (by kernel_rfl) (by kernel_rfl) ?_ ?_
  ·refine zc.n GNd.h [1,4,5] (.ex (q27 [.i 8,.ptr 0 0] [.box [.i (Con.p c)]]) λn=>.all (λ(r:Bool)=>r=bitB n.1 n.2) λn_1=>.ite n_1 (.ex (q29 [(Ex.exA c.x)]) λn_2=>.all (λ(r:Bool)=>r=(decide (Ex.errX n_2=0)&&decide (Ex.zt n_2=1))) λn_3=>.leaf (.back 0 [(1,.ptr 0 0),(4,.bool n_3),(5,.ptr 2 0)] [.box c.ze,.box [.i n.1],.box [.fn 134 [] [.ptr 1 0]]])) (.ex (q27 [.i 16,.ptr 0 0] [.box [.i n.1]]) λn=>let v1:List Blk:=[.box c.ze,.box [.i n.1],.box [.fn 134 [] [.ptr 1 0]]];.all (λ(r:Bool)=>r=bitB n.1 n.2) λn_2=>.ite n_2 (.ex (q29 [(Ex.exA c.x)]) λn_3=>.all (λ(r:Bool)=>r=(decide (Ex.errX n_3=0)&&decide (Ex.zt n_3=2))) λn_4=>.leaf (.back 0 [(1,.ptr 0 0),(4,.bool n_4),(5,.ptr 2 0)] v1)) (.ex (q25 [(Ex.exA c.x)]) λn_3=>.all (λ(r:Bool)=>r=qO n_3) λn_4=>.leaf (.back 0 [(1,.ptr 0 0),(4,.bool n_4),(5,.ptr 2 0)] v1)))) ?_;simp only [q25,q27,q29,Tree.holds,zf,inR,lo,hi,aD];have hx1:c.x.size<2^40:=by omega
   have hx2:c.x.zB<2^40:=by omega
   have leaf:∀ b,b=Nd.okX c->LeK 0 f97.ntmps [(1,.ptr 0 0),(4,.bool b),(5,.ptr 2 0)] (HNd c) (SN2 (Nd.okX c)) (HNd c):=λb hb=>by
    subst hb;exact⟨by simp [SN2],⟨zM c,⟨⟨rfl,rfl⟩,trivial⟩,⟨rfl,trivial⟩,trivial⟩,by kernel_rfl,aI _⟩
   refine⟨(c.p,8),⟨by simp,by simp,trivial,hp0,hp1,(by simp only; omega),(by simp only; omega)⟩,⟨_,rfl⟩,?_⟩;rintro _ rfl;refine⟨λh=> ?_,λh=> ?_⟩
   ·refine⟨c.x,⟨(by first | exact⟨vk _,trivial⟩ | simp [za]),hx1,hx2⟩,⟨_,rfl⟩,?_⟩;rintro _ rfl;rw [aP trivial];exact⟨(),leaf _ (by unfold Nd.okX; rw [aP h]; rfl)⟩
   ·have h8:¬ bitB c.p 8=true:=by simpa using h
    refine⟨(c.p,16),⟨by simp,by simp,trivial,hp0,hp1,(by simp only; omega),(by simp only; omega)⟩,⟨_,rfl⟩,?_⟩;rintro _ rfl;refine⟨λh=> ?_,λh=> ?_⟩
    ·refine⟨c.x,⟨(by first | exact⟨vk _,trivial⟩ | simp [za]),hx1,hx2⟩,⟨_,rfl⟩,?_⟩;rintro _ rfl;rw [aP trivial];exact⟨(),leaf _ (by unfold Nd.okX; rw [aO h8,aP h]; rfl)⟩
    ·refine⟨c.x,⟨(by first | exact⟨vk _,trivial⟩ | simp [za]),trivial⟩,⟨_,rfl⟩,?_⟩;rintro _ rfl;rw [aP trivial];exact⟨(),leaf _ (by unfold Nd.okX; rw [aO h8,aO (by simpa using h)])⟩
  ·rintro⟨⟩;obtain⟨a,ea⟩:∃ a,Nd.okX c=a:=⟨_,rfl⟩;rw [ea];show jD none prog f97 O 0 w0 [] _ _ LN2 _;refine zc.cutL (ι:=Unit) LN2 3 0 (λ_=>SN3 a (Nd.subs c)) (λ_=>HNd c) (by kernel_rfl) (by kernel_rfl) ?_ ?_
   ·refine zc.n GNd.h [1,4,5,7] (let v4:List (Nat×AV):=[(1,.ptr 0 0),(4,.bool a),(5,.ptr 2 0),(7,.i 2)];.ex (q27 [.i 128,.ptr 0 0] [.box [.i (Con.p c)]]) λn=>let v1:=q27 [.i 256,.ptr 0 0] [.box [.i n.1]];.all (λ(r:Bool)=>r=bitB n.1 n.2) λn_1=>.ite n_1 (.ex v1 λn=>let v2:List Blk:=[.box c.ze,.box [.i n.1],.box [.fn 134 [] [.ptr 1 0]]];.all (λ(r:Bool)=>r=bitB n.1 n.2) λn_2=>.ite n_2 (.leaf (.back 0 v4 v2)) (.leaf (.back 0 [(1,.ptr 0 0),(4,.bool a),(5,.ptr 2 0),(7,.i 1)] v2))) (.ex v1 λn=>let v3:List Blk:=[.box c.ze,.box [.i n.1],.box [.fn 134 [] [.ptr 1 0]]];.all (λ(r:Bool)=>r=bitB n.1 n.2) λn_2=>.ite n_2 (.leaf (.back 0 v4 v3)) (.leaf (.back 0 [(1,.ptr 0 0),(4,.bool a),(5,.ptr 2 0),(7,.i 0)] v3)))) ?_;simp only [q27,Tree.holds,zf,inR,lo,hi,aD]
    have leaf:∀ m:Int,m=Nd.subs c->LeK 0 f97.ntmps [(1,.ptr 0 0),(4,.bool a),(5,.ptr 2 0),(7,.i m)] (HNd c) (SN3 a (Nd.subs c)) (HNd c):=λm hm=>by
     subst hm;exact⟨by simp [SN3],⟨zM c,⟨⟨rfl,rfl⟩,trivial⟩,⟨rfl,trivial⟩,trivial⟩,by kernel_rfl,aI _⟩
    refine⟨(c.p,128),⟨by simp,by simp,trivial,hp0,hp1,(by simp only; omega),(by simp only; omega)⟩,⟨_,rfl⟩,?_⟩;rintro _ rfl;refine⟨λh1=> ?_,λh1=> ?_⟩
    all_goals
     refine⟨(c.p,256),⟨by simp,by simp,trivial,hp0,hp1,(by simp only; omega),(by simp only; omega)⟩,⟨_,rfl⟩,?_⟩;rintro _ rfl;refine⟨λh2=> ?_,λh2=> ?_⟩
     all_goals
      rw [aP trivial];simp only at h1 h2;exact⟨(),leaf _ (by unfold Nd.subs; simp [h1,h2])⟩
   ·rintro⟨⟩;show jD none prog f97 O 0 w0 [] _ _ LN3 _;obtain⟨m,em⟩:∃ m,Nd.subs c=m:=⟨_,rfl⟩;rw [em];refine zc.cutL (ι:=Unit) LN3 1 0 (λ_=>SN4 a m (Nd.right c)) (λ_=>HNd c) (by kernel_rfl) (by kernel_rfl) ?_ ?_
    ·refine zc.n GNd.h [1,4,5,7,8] (let v1:=Con.date c<=99999;.ex (q27 [.i 32,.ptr 0 0] [.box [.i (Con.p c)]]) λn=>.all (λ(r:Bool)=>r=bitB n.1 n.2) λn_1=>.ite ((bif n_1 then bif decide ((0:Int)<=Con.date c) then decide v1 else false else false) == false) (.ex (q27 [.i 32,.ptr 0 0] [.box [.i n.1]]) λn=>.all (λ(r:Bool)=>r=bitB n.1 n.2) λn_2=>.leaf (.back 0 [(1,.ptr 0 0),(4,.bool a),(5,.ptr 2 0),(7,.i m),(8,.bool (bif bif n_1 then bif decide ((0:Int)<=Con.date c) then decide v1 else false else false then true else bif !n_2 then decide (Con.date c=0) else false))] [.box c.ze,.box [.i n.1],.box [.fn 134 [] [.ptr 1 0]]])) (.leaf (.back 0 [(1,.ptr 0 0),(4,.bool a),(5,.ptr 2 0),(7,.i m),(8,.bool (bif bif n_1 then bif decide ((0:Int)<=Con.date c) then decide v1 else false else false then true else bif !false then decide (Con.date c=0) else false))] [.box c.ze,.box [.i n.1],.box [.fn 134 [] [.ptr 1 0]]]))) ?_;simp only [q27,Tree.holds,zf,inR,lo,hi,aD]
     have leaf:∀ b,b=Nd.right c->LeK 0 f97.ntmps [(1,.ptr 0 0),(4,.bool a),(5,.ptr 2 0),(7,.i m),(8,.bool b)] (HNd c) (SN4 a m (Nd.right c)) (HNd c):=λb hb=>by
      subst hb;exact⟨by simp [SN4],⟨zM c,⟨⟨rfl,rfl⟩,trivial⟩,⟨rfl,trivial⟩,trivial⟩,by kernel_rfl,aI _⟩
     refine⟨(c.p,32),⟨by simp,by simp,trivial,hp0,hp1,(by simp only; omega),(by simp only; omega)⟩,⟨_,rfl⟩,?_⟩;rintro _ rfl;refine⟨λh1=> ?_,λh1=> ?_⟩
     ·refine⟨(c.p,32),⟨by simp,by simp,trivial,hp0,hp1,(by simp only; omega),(by simp only; omega)⟩,⟨_,rfl⟩,?_⟩;rintro _ rfl;rw [aP trivial];refine⟨(),leaf _ ?_⟩;unfold Nd.right dayB;simp only;cases bitB c.p 32<;>simp [Bool.cond_eq_ite]
     ·rw [aP trivial];refine⟨(),leaf _ ?_⟩;unfold Nd.right dayB;simp only at h1 ⊢
      revert h1
      cases bitB c.p 32<;>simp [Bool.cond_eq_ite]
      exactλh1 h2 _=>⟨h1,h2⟩
    ·rintro⟨⟩;show jD none prog f97 O 0 w0 [] _ _ LN4 _;obtain⟨b,eb⟩:∃ b,Nd.right c=b:=⟨_,rfl⟩;rw [eb];refine zc.cutL (ι:=Unit) LN4 1 0 (λ_=>SN5 a m b (Nd.list c)) (λ_=>HNd c) (by kernel_rfl) (by kernel_rfl) ?_ ?_
     ·refine zc.n GNd.h [1,4,7,8,9] (.ex (q27 [.i 64,.ptr 0 0] [.box [.i (Con.p c)]]) λn=>.all (λ(r:Bool)=>r=bitB n.1 n.2) λn_1=>.ex (λ(x:List Int)=>n_1=true->q30 [.sl c.days.length 1 (Con.dayG c.days)] x) λn_2=>.all (λ(x:Bool)=>n_1=true->x=xU n_2) λn_3=>.ite ((bif n_1 then n_3 else false) == false) (.ex (q27 [.i 64,.ptr 0 0] [.box [.i n.1]]) λn=>.all (λ(r:Bool)=>r=bitB n.1 n.2) λn_4=>.leaf (.back 0 [(1,.ptr 0 0),(4,.bool a),(7,.i m),(8,.bool b),(9,.bool (bif bif n_1 then n_3 else false then true else bif !n_4 then decide ((c.days.length:Int)=0) else false))] [.box c.ze,.box [.i n.1],.box [.fn 134 [] [.ptr 1 0]]])) (.leaf (.back 0 [(1,.ptr 0 0),(4,.bool a),(7,.i m),(8,.bool b),(9,.bool (bif bif n_1 then n_3 else false then true else bif !false then decide ((c.days.length:Int)=0) else false))] [.box c.ze,.box [.i n.1],.box [.fn 134 [] [.ptr 1 0]]]))) ?_;simp only [q27,q30,Tree.holds,zf,inR,lo,hi,aD]
      have leaf:∀ d,d=Nd.list c->LeK 0 f97.ntmps [(1,.ptr 0 0),(4,.bool a),(7,.i m),(8,.bool b),(9,.bool d)] (HNd c) (SN5 a m b (Nd.list c)) (HNd c):=λd hd=>by
       subst hd;exact⟨by simp [SN5],⟨zM c,⟨⟨rfl,rfl⟩,trivial⟩,⟨rfl,trivial⟩,trivial⟩,by kernel_rfl,aI _⟩
      refine⟨(c.p,64),⟨by simp,by simp,trivial,hp0,hp1,(by simp only; omega),(by simp only; omega)⟩,⟨_,rfl⟩,?_⟩;rintro _ rfl;refine⟨c.days,λ_=>⟨by simp [za],by omega⟩,⟨_,λ_=>rfl⟩,λn hn=> ?_⟩;refine⟨λh1=> ?_,λh1=> ?_⟩
      ·refine⟨(c.p,64),⟨by simp,by simp,trivial,hp0,hp1,(by simp only; omega),(by simp only; omega)⟩,⟨_,rfl⟩,?_⟩;rintro _ rfl;rw [aP trivial];refine⟨(),leaf _ ?_⟩;unfold Nd.list;simp only at hn ⊢
       revert hn
       cases bitB c.p 64<;>simp [Bool.cond_eq_ite]
      ·rw [aP trivial];refine⟨(),leaf _ ?_⟩;unfold Nd.list;simp only at hn h1 ⊢
       revert hn h1
       cases bitB c.p 64<;>simp [Bool.cond_eq_ite]
       intro h2 h3;rw [<- h2,h3];rfl
     ·rintro⟨⟩;show jD none prog f97 O 0 w0 [] _ _ LN5 _;obtain⟨d,ed⟩:∃ d,Nd.list c=d:=⟨_,rfl⟩;rw [ed];refine zc.n GNd.h [1,4,7,8,9] (.R [.bool (bif bif bif a then b else false then d else false then decide ((c.sub.length:Int)=m) else false)] [.box c.ze,.box [.i (Con.p c)],.box [.fn 134 [] [.ptr 1 0]]]) ?_;simp only [Tree.holds,zf,inR,lo,hi,aD]
      have hr:c.xY=(bif bif bif a then b else false then d else false then decide ((c.sub.length:Int)=m) else false):=by
       rw [Bool.eq_iff_iff,VM hk,ea,em,eb,ed];cases a<;>cases b<;>cases d<;>simp [hw]
      rw [hr] at hq;exact RetR.scal hq rfl (by simp [resV])
end Go.Proofs.Tryz
end
section
set_option maxRecDepth 100000
open Go Go.Sx Go.Proofs Go.Nov
namespace Go.Proofs.Tryz
attribute [local simp] eqKV eqA eqA0 eqH eqB eqL eqL0
end Go.Proofs.Tryz
end
section
namespace Go.Sx
variable [Stat]
section
variable {O:Nat->Prop} {pin:Nat} {w0:World} {I0:List SE} {P:Program} {fn:Func}
def noH(n:Nat):Heap:=.box [.ptr n 0]::List.replicate (n - 1) (.box [])
theorem zct{n:Nat}(h:1<=n):(noH n).length=n:=by simp [noH]; omega
theorem zgc(n:Nat):∀ b∈noH n,alive b:=by
 intro b hb;unfold noH at hb;rcases aM.1 hb with rfl | hb
 ·trivial
 ·rw [List.eq_of_mem_replicate hb]; trivial
theorem zc.never{M:Option Nat}{Hs:Nat->KV->Heap->Prop}{R:List AV->Heap->Prop}{k:List Item}{kv:KV}{n:Nat}(hn:1<=n):jD M P fn O pin w0 I0 Hs R k (mk fn.ntmps kv (noH n)):=by
 intro w σ a hm;have hl:σ.length=n:=by rw [hm.hp.len]; exact zct hn
 have h0:σ[0]?=some (σ[0]'(by omega)):=aF _;have hb:=hm.hp.blk 0 _ (.box [.ptr n 0]) h0 rfl;simp only [BRep] at hb;obtain⟨ad,vs,el,_,_,_,q⟩:=hb;simp only [RepL,Rep] at q;obtain⟨v,r,_,⟨e,ad',he,_⟩,_⟩:=q;have:=(aG.1 he).1;omega
open Classical in
theorem zc.zs4{α:Type}{Hs:Nat->KV->Heap->Prop}{R:List AV->Heap->Prop}{k:List Item}{c:Code}{kv:KV}{h:Heap}{tg tp td t n gf:Nat}{cap:List AV}{zs:List AV}(I:List α->Prop)(hc:KO c tg tp td t=true)(hz:zeroCells P t=some zs)(hn:qa P t=some n)(hzl:zs.length=n)
  (he:∀ args w,(callFunc gf args).run P w = .ok (.enter gf args) w) (av:α->AV) (cs:α->List AV) (hcs:∀ x,cellsOf (av x)=some (cs x)/\(cs x).length=n/\(cs x).all oneA=true/\(cs x).all Yo=true) (H Hx:List α->Heap) (X S Sp:List α->Prop) (N pinR:Nat)
  (hg:look kv tg = .fn gf [] cap) (htg:tg<fn.ntmps) (htp:tp<fn.ntmps) (htd:td<fn.ntmps) (hne:td≠tp) (hle:LeK pin fn.ntmps kv h kv (H [])) (hlow:(pk fn.ntmps kv).all (lowB pinR)=true) (hpin:pin<=pinR) (hpos:1<=pinR) (hI:I []) (hlen:∀ pre,(H pre).length=pinR)
  (halive:∀ pre,∀ b∈H pre,alive b) (halivex:∀ pre,∀ b∈Hx pre,alive b)
  (iter:∀ w σ a,Mod O pin w0 I0 w σ (mk fn.ntmps kv (H [])) a->∀ vb,RepL (Own O σ) w cap σ vb->∃ ev:α->Value,SeqStopsK Fence.wide 0 P gf vb.toArray (λx=> #[ev x]) (jn (Own O σ)) S Sp N w/\∀ x,Rep (Own O σ) w (av x) [] (ev x))
  (round:∀ l pre x,I pre->pre.length<N->∀ (W:World) (E1:List SE),jD (some l) P (bare fn) O pinR W E1 (λd kv' h'=>I (pre++[x])/\LeK pinR fn.ntmps [] h' [] (H (pre++[x]))) (λ_ h'=>X (pre++[x])/\LeK pinR fn.ntmps [] h' [] (Hx (pre++[x]))) [.code (xX c),.inLoop] (mk fn.ntmps ((td,.iptr n λo=>(cs x).getD o .undef)::(tp,av x)::kv) (H pre)))
  (done:∀ xs,S xs->I xs->zc P fn O pin w0 I0 Hs R k (mk fn.ntmps kv (H xs)))
  (stop:∀ pre,Sp pre->X pre->(resX P (mk fn.ntmps kv (Hx pre)) fn.results.toList).holds λrs=>R rs (Hx pre)) :
  zc P fn O pin w0 I0 Hs R (.code c::k) (mk fn.ntmps kv h):=by
 refine zc.zkh hc hz hn hzl he av cs hcs (λpre=>if I pre then H pre else noH pinR) Hx X S Sp N pinR hg htg htp htd hne (by rw [aP hI]; exact hle) hlow hpin (λpre=> ?_) (λpre=> ?_) halivex ?_ ?_ ?_ stop
 ·split
  ·exact hlen pre
  ·exact zct hpos
 ·split
  ·exact halive pre
  ·exact zgc _
 ·rw [aP hI]; exact iter
 ·intro l pre x hl W E1;by_cases h1:I pre
  ·simp only [aP h1];intro w σ a hm;refine Ww ?_ (round l pre x h1 hl W E1 w σ a hm);rintro d a' w' ⟨st,Z',⟨kv',h',⟨h2,h3⟩,rfl⟩,hm'⟩;exact⟨_,Z',⟨kv',h',by rw [aP h2]; exact h3,rfl⟩,hm'⟩
  ·simp only [aO h1];exact zc.never (fn:=bare fn) hpos
 ·intro xs hs;by_cases h1:I xs
  ·simp only [aP h1]; exact done xs hs h1
  ·simp only [aO h1]; exact zc.never hpos
end
end Go.Sx
end
section
set_option maxRecDepth 100000
open Go Go.Sx Go.Proofs Go.Nov
namespace Go.Proofs.Tryz
attribute [local simp] eqKV eqA eqA0 eqH eqB eqL eqL0
noncomputable def K68:=Go.Sx.aA f68
def QS:Ctr:=ctrP true (λc:Con=>[c.conA]) (λc=>c.big<2^40/\c.nodes<=1000000) (λc r=>r=c.errC) (λ_ (r:Int)=>(.i r,[]))
noncomputable def GCkk:=tb zmw (tb zgd (tb XY (tb znz tz)))
def HCk(c:Con)(m:Int):Heap:=[.box c.ze,.box [.i m],.box c.ze]
abbrev q31(A:List AV)(x:Con):Prop:=eqL A [(Con.conA x)]/\Con.big x<1099511627776/\Con.nodes x<=1000000
theorem V9:zd prog 68 QS:=by
 refine zh' f68 λc hc O w0 Q hq=> ?_
 obtain⟨h1,h2⟩:=hc;replace hq:=hq _ rfl;refine zc.n GCkk.h [2,13,14] (.ex (q31 [(Con.conA c)]) λn=>.all (λ(r:Nat)=>r=Con.size n) λn=>.ex (λ(x:Con)=>decide ((500:Int)<n)=false->eqL [(Con.conA c)] [(Con.conA x)]/\Con.big x<1099511627776) λn_1=>.all (λ(x:Nat)=>decide ((500:Int)<n)=false->x=Con.depth n_1) λn_2=>.ite (bif decide ((500:Int)<n) then true else decide ((60:Int)<n_2)) (.R [.i 4] [.box c.ze,.box [.i 4]]) (.ex (λ(x:Con)=>eqL [(Con.conA c)] [(Con.conA x)]/\eqH [] []/\0=0/\True) λn=>.A λn_3=>.leaf (.range (Prod.fst (rfs K68 0)) (Prod.snd (rfs K68 0)) [(2,.ptr 1 0),(13,.fn 132 [] [.ptr 2 0]),Z 14] [.box c.ze,.box [.i 0],.box n.ze]))) ?_;simp only [q31,Tree.holds,zf];have hq1:(500<c.size\/60<c.depth)->Q (.i 4,[]):=λh=>by unfold Con.errC at hq; rw [aP h] at hq; exact hq
 have hq2:¬ (500<c.size\/60<c.depth)->Q (.i (if c.form=true then 0 else 8),[]):=λh=>by unfold Con.errC at hq; rw [aO h] at hq; exact hq
 refine⟨c,⟨⟨qQ c,trivial⟩,h1,h2⟩,⟨_,rfl⟩,?_⟩;rintro _ rfl;refine⟨c,λ_=>⟨⟨qQ c,trivial⟩,h1⟩,⟨_,λ_=>rfl⟩,λn hn=> ?_⟩
 have key:(bif decide (500<(c.size:Int)) then true else decide (60<(n:Int)))=decide (500<c.size\/60<c.depth):=by
  by_cases g:500<c.size
  ·simp [g]; omega
  ·rw [hn (aW (by omega)),Bool.eq_iff_iff]; simp [g]; omega
 rw [key];refine⟨λh=>RetR.scal (hq1 (aB h)) rfl (by simp [resV]),λh=>⟨c,⟨⟨qQ c,trivial⟩,trivial,trivial,trivial⟩,⟨(),trivial⟩,λ_ _=> ?_⟩⟩;have hq2:=hq2 (aC h);clear hq hq1
 refine zc.zs4 (λpre:List Nat=>∀ i∈pre,(c.all.getD i c).xY=true) (tg:=13) (tp:=14) (td:=3) (t:=39) (n:=12) (zs:=[.int .u8 0,.str [],.str [],.str [],.int .u8 0,.str [],.str [],.i 0,.nils,.i 0,.nils,.nils]) (cap:=[.ptr 2 0]) (gf:=132) (by kernel_rfl) (by kernel_rfl) (by kernel_rfl) rfl (enters_of Tryz.func132 (by kernel_rfl) rfl) (λi:Nat=>(c.all.getD i c).conA) (λi=>(c.all.getD i c).ze) (λi=>⟨rfl,rfl,rfl,rfl⟩) (λ_=>HCk c 0) (λ_=>HCk c 8) (λpre=>¬ c.form=true) (λxs=>xs=List.range c.all.length) (λpre=>pre <+: List.range c.all.length) c.all.length 3
  (by kernel_rfl) (by decide +kernel) (by decide +kernel) (by decide +kernel) (by decide) ⟨by simp,⟨zM c,⟨⟨rfl,rfl⟩,trivial⟩,zM c,trivial⟩,by kernel_rfl,aI _⟩ (by kernel_rfl) (aI _) (by decide) (λi hi=>by cases hi) (λpre=>rfl) (λpre=>by simp [HCk,alive]) (λpre b hb=>by simp [HCk] at hb; rcases hb with rfl | rfl | rfl<;>trivial) ?_ ?_ ?_ ?_
 ·intro w σ a hm vb hvb;exact JD hm (i:=2) rfl h2 hvb
 ·intro l pre i hI hlen W E1
  have hwt:(c.all.getD i c).big<=c.big/\(c.all.getD i c)∈c.all:=by
   by_cases hi:i<c.all.length
   ·have:(c.all.getD i c)∈c.all:=by simp [List.getD,hi]
    exact⟨Con.Jd c _ this,this⟩
   ·have:c.all.getD i c=c:=by simp [List.getD,hi]
    rw [this];exact⟨aJ _,by rw [Con.all_eq]; simp⟩
  obtain⟨e,he⟩:∃ e,c.all.getD i c=e:=⟨_,rfl⟩;rw [he] at hwt ⊢;refine zc.n GCkk.h [2,13,14] (.ex (λ(x:Con)=>eqL [(Con.conA e)] [(Con.conA x)]/\Con.big x<1099511627776) λn=>.all (λ(r:Bool)=>r=Con.xY n) λn=>.ite (!n) (.R [] [.box c.ze,.box [.i 8],.box c.ze]) (.leaf (.back 0 [(2,.ptr 1 0),(13,.fn 132 [] [.ptr 2 0]),(14,(Con.conA e))] [.box c.ze,.box [.i 0],.box c.ze]))) ?_;simp only [Tree.holds,zf,inR,lo,hi,aD];refine⟨e,⟨⟨qQ e,trivial⟩,by omega⟩,⟨_,rfl⟩,?_⟩;rintro _ rfl;refine⟨λh=>⟨λhf=> ?_,?_⟩,λh=>⟨λj hj=> ?_,?_⟩⟩
  ·rw [Con.Va,bG] at hf;have:=hf e hwt.2;simp [this] at h
  ·exact⟨trivial,⟨zM c,⟨⟨rfl,rfl⟩,trivial⟩,zM c,trivial⟩,by kernel_rfl,aJ _⟩
  ·rcases bZ.1 hj with hj | hj
   ·exact hI j hj
   ·rw [List.mem_singleton.1 hj,he]; simpa using h
  ·exact⟨trivial,⟨zM c,⟨⟨rfl,rfl⟩,trivial⟩,zM c,trivial⟩,by kernel_rfl,aJ _⟩
 ·intro xs hxs hI
  have hform:c.form=true:=by
   rw [Con.Va,bG];intro e hem;obtain⟨j,hj,rfl⟩:=List.getElem_of_mem hem;have:=hI j (by rw [hxs]; simpa using hj);simpa [List.getD,hj] using this
  rw [aP hform] at hq2;refine zc.n GCkk.h [2,13,14] (.R [.i 0] [.box c.ze,.box [.i 0],.box c.ze]) ?_;simp only [Tree.holds,zf];exact RetR.scal hq2 rfl (by simp [resV])
 ·intro pre hpre hX;rw [aO hX] at hq2;exact(RetR.scal hq2 rfl (by simp [resV]):RetR QS 0 Q [.i 8] (HCk c 8))
end Go.Proofs.Tryz
end
section
namespace Go.Nov
open Go.Sx
theorem zl4(n sz:Nat)(g g':Nat->Nat->AV):eqG (0+n) sz (appG 0 g g') g':=by
 intro j o _ _;simp [appG]
theorem Kg{α:Type}{p:α->Bool}(z:α)(l:List α):idxB p l<l.length/\l.find? p=if 0<=idxB p l then some (l.getD (idxB p l).toNat z) else none:=by
 unfold idxB;by_cases h:l.findIdx p<l.length
 ·rw [aP h];refine⟨by omega,?_⟩;rw [aP (by omega),aD];refine zqa h ?_ λj hj=> ?_
  ·have:=List.findIdx_getElem (w:=h);simpa [List.getD,h] using this
  ·have:=List.not_of_lt_findIdx hj;have hjl:j<l.length:=by omega
   simpa [List.getD,hjl] using this
 ·rw [aO h];refine⟨by omega,?_⟩;rw [aO (by omega),List.find?_eq_none];intro x hx hpx;exact h (List.findIdx_lt_length_of_exists ⟨x,hx,hpx⟩)
theorem zhj(f:List Fx)(a:L8)(d:Int):idxB (λx=>decide (cmpF x ⟨a,d,[]⟩=0)) f<f.length/\qu f a d=if 0<=idxB (λx=>decide (cmpF x ⟨a,d,[]⟩=0)) f then((f.getD (idxB (λx=>decide (cmpF x ⟨a,d,[]⟩=0)) f).toNat Fx.nil).value,true) else([],false):=by
 obtain⟨h1,h2⟩:=Kg (p:=λx=>decide (cmpF x ⟨a,d,[]⟩=0)) Fx.nil f;refine⟨h1,?_⟩
 have e:(λx:Fx=>decide (x.name=a)&&decide (x.date=d))=λx=>decide (cmpF x ⟨a,d,[]⟩=0):=by
  funext x;rw [<- Bool.decide_and]; exact decide_eq_decide.2 (@znt x ⟨a,d,[]⟩).symm
 unfold qu;rw [e,h2];by_cases h:0<=idxB (λx=>decide (cmpF x ⟨a,d,[]⟩=0)) f
 ·rw [aP h,aP h]
 ·rw [aO h,aO h]
theorem UZ(c:List Ch)(a v:L8)(d:Int):idxB (λx=>decide (cmpC x ⟨a,v,d,false⟩=0)) c<c.length/\qh c a v d=if 0<=idxB (λx=>decide (cmpC x ⟨a,v,d,false⟩=0)) c then(c.getD (idxB (λx=>decide (cmpC x ⟨a,v,d,false⟩=0)) c).toNat Ch.nil).first else false:=by
 obtain⟨h1,h2⟩:=Kg (p:=λx=>decide (cmpC x ⟨a,v,d,false⟩=0)) Ch.nil c;refine⟨h1,?_⟩
 have e:(λx:Ch=>decide (x.zN=a)&&(decide (x.name=v)&&decide (x.date=d)))=λx=>decide (cmpC x ⟨a,v,d,false⟩=0):=by
  funext x;rw [<- Bool.decide_and,<- Bool.decide_and]; exact decide_eq_decide.2 (@zp6 x ⟨a,v,d,false⟩).symm
 unfold qh;rw [e,h2];by_cases h:0<=idxB (λx=>decide (cmpC x ⟨a,v,d,false⟩=0)) c
 ·rw [aP h,aP h]
 ·rw [aO h,aO h]
end Go.Nov
end
section
set_option maxRecDepth 100000
open Go Go.Sx Go.Proofs Go.Nov
namespace Go.Proofs.Tryz
attribute [local simp] eqKV eqA eqA0 eqH eqB eqL eqL0
noncomputable def K69:=Go.Sx.aA f69
theorem zfw(n sz:Nat)(g g':Nat->Nat->AV):eqG (0+n) sz (appG 0 g g') g':=zl4 n sz g g'
def zcs:Ctr:=ctrP false (λl:List Int=>[Con.dayS l]) (λl=>l.length<2^40) (λ_ (_:Unit)=>True) (λl _=>(.osl 0 1 0 l.length,[.arr l.length 1 (Con.dayG l)]))
theorem zfh:zd prog 99 zcs:=by
 refine Yd (fn:=f99) (c:=f99.body.getD .skip) rfl rfl rfl λl hl O w0 Q hq=> ?_
 replace hq:=hq () trivial;refine zc.n zD [] (.all (λ(b:Bool)=>0<l.length->b=false) λn=>.ite n (.R [.nils] []) (.side (0=0/\0<=0/\(0+l.length)*8<=140737488355328) (.R [.osl 0 1 0 (0+l.length)] [.arr (0+l.length) 1 (appG 0 (zj 1 []) (Con.dayG l))]))) ?_;simp only [Tree.holds,zf];refine⟨⟨false,λ_=>rfl⟩,λb hb=>⟨λh=> ?_,λh=>⟨⟨trivial,aJ _,by omega⟩,λ_=> ?_⟩⟩⟩
 ·have h0:l=[]:=by
   rcases bC l.length with h0 | h0
   ·exact aU.1 h0
   ·rw [hb h0] at h; cases h
  subst h0;refine RetR.scal (.inr ⟨.osl 0 1 0 0,[(1,Con.dayG [])],by simp [upA2,upA1,upA0],?_⟩) (r:=.nils) rfl (by simp [resV]);exact hq
 ·refine RetR.outs [0] rfl rfl (.inl hq) (λh=>by cases h) ?_ ?_ rfl
  ·simp [resV,exp2,exp1,exp0,zK,eqA2,eqL1]
  ·exact⟨⟨by omega,rfl,zfw _ _ _ _⟩,trivial⟩
def Wb(n:Nat):Ctr:=ctrP false (λc:Con=>[c.conA]) (λc=>c.nodes<n/\c.big<2^38) (λ_ (_:Unit)=>True) (λc _=>(c.conD,[]))
noncomputable def GTw0:=tb zin (tb zfh tz)
noncomputable def GTwc(n:Nat):Nat->Option Ctr:=λf=>if f=69 then some (Wb n) else GTw0.g f
theorem zdy{n:Nat}(ih:zd prog 69 (Wb n)):∀ g c,GTwc n g=some c->zd prog g c:=λg c h=>by
 unfold GTwc at h;split at h
 ·rename_i e; cases h; subst e; exact ih
 ·exact GTw0.h g c h
def STc(c:Con)(i:Nat):KV:=[(1,.ptr 0 0),(2,.ptr 1 0),(3,.osl 3 12 0 i),(15,Con.conS c.sub),(16,.i (c.sub.length:Int)),(17,.i (i:Int))]
def BTc(c:Con)(s:AV):Blk:=.box [.int .u8 c.kind,.str c.src,.str c.dst,.str c.name,.int .u8 c.x.kind,.str c.x.rat,.str c.x.name,.i c.x.date,.sl c.x.sub.length 5 c.x.deep,.i c.date,.osl 2 1 0 c.days.length,s]
def BTz:Blk:=.box [.int .u8 0,.str [],.str [],.str [],.int .u8 0,.str [],.str [],.i 0,.nils,.i 0,.nils,.nils]
def RTc(c:Con):List AV:=[c.outD (.sl c.x.sub.length 5 c.x.deep) (.osl 2 1 0 c.days.length) (.osl 3 12 0 c.sub.length)]
def HTc(c:Con)(i:Nat):Heap:=[BTc c (Con.conS c.sub),BTz,.arr c.days.length 1 (Con.dayG c.days),.arr i 12 (Con.conG c.sub)]
theorem zg0{s:List Con}{i:Nat} : eqG (i+1) 12 (appG i (Con.conG s) (zi (zj 12 [.int .u8 (s.getD i Con.nil).kind,.str (s.getD i Con.nil).src,.str (s.getD i Con.nil).dst,.str (s.getD i Con.nil).name,.int .u8 (s.getD i Con.nil).x.kind,.str (s.getD i Con.nil).x.rat,.str (s.getD i Con.nil).x.name,.i (s.getD i Con.nil).x.date,.sl (s.getD i Con.nil).x.sub.length 5 (Ex.exG (s.getD i Con.nil).x.sub),.i (s.getD i Con.nil).date,.sl (s.getD i Con.nil).days.length 1 (Con.dayG (s.getD i Con.nil).days),.sl (s.getD i Con.nil).sub.length 12 (s.getD i Con.nil).deep]) 0)) (Con.conG s):=by
 intro j o hj ho;simp only [appG,zi,zj];by_cases h:j<i
 ·rw [aP h]
 ·have:j=i:=by omega
  subst this;rw [aO h];have e:j - j=0:=by omega
  match o,ho with
  | 0,_=>simp [e,Con.conG,Con.cell]
  | 1,_=>simp [e,Con.conG,Con.cell]
  | 2,_=>simp [e,Con.conG,Con.cell]
  | 3,_=>simp [e,Con.conG,Con.cell]
  | 4,_=>simp [e,Con.conG,Con.cell]
  | 5,_=>simp [e,Con.conG,Con.cell]
  | 6,_=>simp [e,Con.conG,Con.cell]
  | 7,_=>simp [e,Con.conG,Con.cell]
  | 8,_=>simp [e,Con.conG,Con.cell]
  | 9,_=>simp [e,Con.conG,Con.cell]
  | 10,_=>simp [e,Con.conG,Con.cell]
  | 11,_=>simp [e,Con.conG,Con.cell]
theorem zov(n:Nat)(ih:zd prog 69 (Wb n)){O:Nat->Prop}{w0:World}{C:Ctr}{Q:AV×Heap->Prop}(c:Con)(h1:c.nodes<n+1)(h2:c.big<2^38)(hR:∀ h:Heap,h[2]?=some (.arr c.days.length 1 (Con.dayG c.days))->h[3]?=some (.arr c.sub.length 12 (Con.conG c.sub))->RetR C 0 Q (RTc c) h) :
  zc prog f69 O 0 w0 [] (λ_ _ _=>False) (RetR C 0 Q) K69 (entry f69 [c.conA]):=by
 refine zc.n (zdy ih) [1,2,3,15,16,17] (.ex (λ(x:Ex)=>eqL [(Ex.exA c.x)] [x.exA]/\Ex.size x<1099511627776) λn=>.A λn_1=>.ex (q30 [.sl c.days.length 1 (Con.dayG c.days)]) λn_2=>.A λn_3=>.leaf (.loop (lps K69 0).1 (lps K69 0).2 [(1,.ptr 0 0),(2,.ptr 1 0),(3,.nils),(15,.sl c.sub.length 12 (Con.conG c.sub)),(16,.i c.sub.length),(17,.i 0)] [.box [.int .u8 c.kind,.str c.src,.str c.dst,.str c.name,.int .u8 n.kind,.str n.rat,.str n.name,.i n.date,.sl n.sub.length 5 n.deep,.i c.date,.osl 2 1 0 n_2.length,.sl c.sub.length 12 (Con.conG c.sub)],.box [.int .u8 0,.str #[].toList,.str #[].toList,.str #[].toList,.int .u8 0,.str #[].toList,.str #[].toList,.i 0,.nils,.i 0,.nils,.nils],.arr n_2.length 1 (Con.dayG n_2)])) ?_;simp only [q30,Tree.holds,zf,inR,lo,hi,aD];have hb:=h2;rw [Con.uB] at hb;refine⟨c.x,⟨⟨vk c.x,trivial⟩,by show c.x.size<_; omega⟩,⟨(),trivial⟩,λ_ _=>⟨c.days,⟨by simp [za],by omega⟩,⟨(),trivial⟩,λ_ _=> ?_⟩⟩;refine zc.bear 3 12 (Con.conG c.sub) rfl (by decide) (by kernel_rfl) ?_;refine zc.loop (ι:={i:Nat // i<=c.sub.length}) (λi=>STc c i.1) (λi=>HTc c i.1) (λi=>c.sub.length - i.1) ⟨0,aI _⟩ 0 ?_ ?_ (by kernel_rfl)
 ·refine⟨by simp [STc,y9,Con.conS,za],?_,by kernel_rfl,aI _⟩;simp [HTc,BTc,BTz,Con.conS,za]
 ·rintro⟨i,hil⟩;refine zc.n (zdy ih) [1,2,3,15,16,17] (let v3:=Con.conG c.sub;let v2:=List.getD c.sub (i:Int).toNat Con.nil;let v1:List AV:=[.int .u8 c.kind,.str c.src,.str c.dst,.str c.name,.int .u8 (Ex.kind c.x),.str (Ex.rat c.x),.str (Ex.name c.x),.i (Ex.date c.x),.sl (List.length (Ex.sub c.x)) 5 (Ex.deep c.x),.i c.date,.osl 2 1 0 c.days.length,.osl 3 12 0 i];.D ((i:Int)<(c.sub.length:Int)) (.side ((0:Int)<=i/\(i:Int)<(c.sub.length:Int)) (.ex (λ(x:Con)=>eqL [v2.conD] [(Con.conA x)]/\Con.nodes x<n/\Con.big x<274877906944) λn=>.A λn_1=>.side (0=0/\i<=i/\(i+1)*184<=140737488355328) (.S (i+1) (.leaf (.back 0 [(1,.ptr 0 0),(2,.ptr 1 0),(3,.osl 3 12 0 (i+1)),(15,.sl c.sub.length 12 v3),(16,.i c.sub.length),(17,.i (i+1))] [.box [.int .u8 c.kind,.str c.src,.str c.dst,.str c.name,.int .u8 (Ex.kind c.x),.str (Ex.rat c.x),.str (Ex.name c.x),.i (Ex.date c.x),.sl (List.length (Ex.sub c.x)) 5 (Ex.deep c.x),.i c.date,.osl 2 1 0 c.days.length,.sl c.sub.length 12 v3],.box [.int .u8 0,.str [],.str [],.str [],.int .u8 0,.str [],.str [],.i 0,.nils,.i 0,.nils,.nils],.arr c.days.length 1 (Con.dayG c.days),.arr (i+1) 12 (appG i v3 (zi (zj 12 n.zl) 0)),.box v2.zl,.arr 1 12 (zj 12 n.zl)]))))) (.R [.agg v1] [.box v1,.box v1,.arr c.days.length 1 (Con.dayG c.days),.arr i 12 v3])) ?_;simp only [Tree.holds,zf,inR,lo,hi,aD];have hlb:=Con.JF c.sub;refine⟨λhlt=> ?_,λhge=> ?_⟩
  ·have hlt:i<c.sub.length:=by have:=aB hlt; omega
   have g1:=Con.wZ hlt;have g2:=Con.Wg hlt;rw [Con.kb] at h1;refine⟨by omega,λ_=>⟨c.sub.getD i Con.nil,⟨⟨j0 _,trivial⟩,by omega,by omega⟩,⟨(),trivial⟩,λ_ _=> ?_⟩⟩;refine⟨⟨trivial,aJ _,by omega⟩,λ_=>⟨by omega,λ_=> ?_⟩⟩;rw [aP trivial];refine⟨⟨i+1,hlt⟩,by show c.sub.length - (i+1)<c.sub.length - i; omega,by simp [STc,Con.conS,za],?_,by kernel_rfl,aI _⟩;refine⟨?_,?_,⟨rfl,rfl,za _ _ _⟩,⟨rfl,rfl,zg0⟩,trivial⟩
   ·simp [BTc,Con.conS,za]
   ·simp [BTz]
  ·have hge:i=c.sub.length:=by have:=aC hge; omega
   subst hge;exact hR _ rfl rfl
theorem WS(n sz:Nat)(g:Nat->Nat->AV):eqG n sz (zi g 0) g:=λj o _ _=>by simp [zi]
theorem zte{C:Ctr}{Q:AV×Heap->Prop}{c:Con}{h:Heap}(hC:C.fresh=false)(h2:h[2]?=some (.arr c.days.length 1 (Con.dayG c.days)))(h3:h[3]?=some (.arr c.sub.length 12 (Con.conG c.sub)))(hq:Q (c.conD,[])):RetR C 0 Q (RTc c) h:=by
 refine RetR.out0 hq (λh=>by rw [hC] at h; cases h) ?_;simp only [RTc,Con.outD,resV,exp2,exp1,List.map_cons,List.map_nil,exp0,ren0,zK,frz1,we,h2,h3,eqA2,eqA,eqL0,eqA0,Con.conD,Con.dayS,Ex.exS,true_and,and_true];simp only [if_true];exact⟨Ex.qg _,⟨trivial,trivial,WS _ _ _⟩,trivial,trivial,λj o hj ho=>by have:=Con.qg c j o hj ho; simpa [zi] using this.symm⟩
theorem zpm(n:Nat)(ih:zd prog 69 (Wb n)):zd prog 69 (Wb (n+1)):=by
 refine zh' f69 λc hx O w0 Q hq=> ?_
 exact zov n ih c hx.1 hx.2 λh a b=>zte rfl a b (hq () trivial)
def UB:Ctr:=ctrP false (λc:Con=>[c.conA]) (λc=>c.big<2^38) (λ_ (_:Unit)=>True) (λc _=>(c.conD,[]))
theorem zu8:zd prog 69 UB:=vJ Con.nodes zpm
end Go.Proofs.Tryz
end
section
namespace Go.Sx
variable [Stat]
variable {P:Program} {fn:Func} {Xp:List PanicEntry->Prop}
theorem zc.weak{M:Option Nat}{O:Nat->Prop}{pin:Nat}{w0:World}{I0:List SE}{Hs:Nat->KV->Heap->Prop}{R:List AV->Heap->Prop}{k:List Item}{kv:KV}{h:Heap}{S:KV}{H:Heap}(hle:LeK pin fn.ntmps kv h S H)
  (hs:qp Xp M P fn O pin w0 I0 Hs R k (mk fn.ntmps S H)):qp Xp M P fn O pin w0 I0 Hs R k (mk fn.ntmps kv h):=Safe.le hle.le hs
end Go.Sx
end
section
namespace Go.Nov
def sumS(m:Bool)(x:Nat)(n:Bool)(y:Nat):Bool×Nat:=if m=n then(m,x+y) else if y<=x then(m,x - y) else(n,y - x)
def addI(s t:L8):L8×Int:=if zA s t=0 then wr (sumS (negI s) (numI s) (negI t) (numI t)).1 (sumS (negI s) (numI s) (negI t) (numI t)).2 else([],zA s t)
def subI(s t:L8):L8×Int:=if zA s t=0 then wr (sumS (negI s) (numI s) (!negI t) (numI t)).1 (sumS (negI s) (numI s) (!negI t) (numI t)).2 else([],zA s t)
def mulI(s t:L8):L8×Int:=if zA s t=0 then wr (negI s != negI t) (numI s*numI t) else([],zA s t)
def cmpZ(m:Bool)(x:Nat)(n:Bool)(y:Nat):Int:=if m=true/\n=false then -1 else if n=true/\m=false then 1 else if m=true then cmpN y x else cmpN x y
def y8(s t:L8):Int×Int:=if zA s t=0 then(cmpZ (negI s) (numI s) (negI t) (numI t),0) else(0,zA s t)
theorem QP{d:Nat}(h:d<10):(byt d).toNat=48+d:=by
 unfold byt;rw [UInt8.toNat_ofNat'];omega
theorem Zd{x:Nat}(h:x≠0):txt x=((dec x).map byt).reverse:=aO h
theorem Jg{x:Nat}(h:x≠0):(txt x).length=(dec x).length:=by rw [Zd h]; simp
theorem ze9{x:Nat}(h:x≠0):allD (txt x):=by
 intro c hc;rw [Zd h] at hc;simp only [List.mem_reverse,List.mem_map] at hc;obtain⟨d,hd,rfl⟩:=hc;have:d<10:=Ten.zm x d hd;rw [QP this];omega
theorem zs0{x:Nat}(h:x≠0):dg (txt x)=dec x:=by
 rw [Zd h,dg,List.map_reverse,List.reverse_reverse,List.map_map]
 conv=>rhs; rw [<- List.map_id (dec x)]
 refine List.map_congr_left λd hd=> ?_
 have:d<10:=Ten.zm x d hd;simp only [Function.comp,QP this,id];omega
theorem zp9{x:Nat}(h:x≠0):numD (txt x)=x:=by
 rw [<- zaz,zs0 h];exact Ten.zp x
theorem yV{x:Nat}(h:x≠0):(txt x).getD 0 0≠48/\(txt x).getD 0 0≠45:=by
 have hl:=X4 h;have ht:=zdx hl;have hlt:=dec_lt x ((dec x).length - 1)
 have e:(txt x).getD 0 0=byt ((dec x).getD ((dec x).length - 1) 0):=by
  rw [Zd h];simp only [List.getD_eq_getElem?_getD];rw [List.getElem?_reverse (by simpa using hl)];simp [aF (show(dec x).length - 1<(dec x).length by omega)]
 rw [e];have hb:=QP hlt;constructor
 ·intro h2;rw [h2] at hb;have:(48:UInt8).toNat=48:=rfl;omega
 ·intro h2;rw [h2] at hb;have:(45:UInt8).toNat=45:=rfl;omega
theorem KZ{x:Nat}(h:x≠0):txt x≠[]:=by
 intro h2;have:=Jg h;rw [h2] at this;have:=X4 h;simp at *; omega
theorem zfl{x:Nat}(h:x≠0)(neg:Bool):parse (sgn neg (txt x))=(neg,txt x):=by
 cases neg with
 | true=>rfl
 | false=>
  simp only [sgn,Bool.false_eq_true,if_false];have h1:=(yV h).2;cases ht:txt x with
  | nil=>exact absurd ht (KZ h)
  | cons c b=>
   rw [ht] at h1;have:c≠45:=h1;simp [parse,this]
theorem zkm{x:Nat}(h:x≠0)(neg:Bool):wJ neg (txt x)=true:=by
 have h1:=(yV h).1
 have h2:txt x≠[48]:=by
  intro h2;rw [h2] at h1;exact h1 rfl
 have h3:=KZ h;have h4:(txt x).all isD=true:=zdz.2 (ze9 h);simp only [List.getD_eq_getElem?_getD] at h1;simp [wJ,h3,h2,h1,h4]
theorem QA{neg:Bool}{x:Nat}(h:(wr neg x).2=0):errI (wr neg x).1=0/\numI (wr neg x).1=x/\negI (wr neg x).1=(neg&&decide (x≠0)):=by
 unfold wr at h ⊢;by_cases h0:x=0
 ·subst h0;simp only [if_true];refine⟨rfl,rfl,?_⟩;simp [negI,parse]
 ·rw [aO h0] at h ⊢;by_cases h1:1000<(dec x).length
  ·rw [aP h1] at h; cases h
  ·rw [aO h1];simp only [errI,numI,negI,zfl h0,zkm h0,if_true];rw [Jg h0,aO h1];exact⟨rfl,zp9 h0,by simp [h0]⟩
theorem zbr(neg:Bool)(x:Nat):(wr neg x).2=0\/wr neg x=([],14):=by
 unfold wr;split
 ·exact .inl rfl
 ·split
  ·exact .inr rfl
  ·exact .inl rfl
theorem zox(neg:Bool)(b:L8):(sgn neg b).length<=b.length+1:=by
 unfold sgn; split<;>simp
theorem ky(neg:Bool)(x:Nat):(wr neg x).1.length<=1001:=by
 unfold wr;split
 ·simp
 ·rename_i h0;split
  ·simp
  ·rename_i h1;have:=zox neg (txt x);rw [Jg h0] at this;simp only;omega
theorem zjl(s t:L8):(addI s t).1.length<=1001:=by
 unfold addI;split
 ·exact ky _ _
 ·simp
theorem zji(s t:L8):(subI s t).1.length<=1001:=by
 unfold subI;split
 ·exact ky _ _
 ·simp
theorem zmx(s t:L8):(mulI s t).1.length<=1001:=by
 unfold mulI;split
 ·exact ky _ _
 ·simp
theorem zcw(b:Bool)(x:Nat):wr (b&&decide (0<x)) x=wr b x:=by
 unfold wr;by_cases h:x=0
 ·rw [aP h,aP h]
 ·rw [aO h,aO h];have:decide (0<x)=true:=aX (bW h);rw [this,Bool.and_true]
theorem VL(m:Bool)(x:Nat)(n:Bool):sumS m x n 0=(m,x):=by
 unfold sumS;split
 ·rfl
 ·simp
theorem zfg(m:Bool)(x:Nat)(n:Bool)(y:Nat):sumS m x (n&&decide (0<y)) y=sumS m x n y:=by
 by_cases h:y=0
 ·subst h; rw [VL,VL]
 ·have:decide (0<y)=true:=aX (bW h);rw [this,Bool.and_true]
theorem zcr(m:Bool)(x:Nat)(n:Bool)(y:Nat):(sumS m x n y).2<=x+y:=by
 unfold sumS;split
 ·exact aJ _
 ·split
  ·simp only; omega
  ·simp only; omega
end Go.Nov
end
section
namespace Go.Nov
def Ke(neg:Bool)(x y:Nat):L8:=
 if y/Nat.gcd x y=1 then(wr neg (x/Nat.gcd x y)).1 else(wr neg (x/Nat.gcd x y)).1++[47]++(wr false (y/Nat.gcd x y)).1
def w6(n d:L8):L8×Int:=if zA n d≠0 then([],zA n d) else if numI d=0 then([],16) else(Ke (negI n != negI d) (numI n) (numI d),0)
def jc(a b:L8):Int:=if errR a=0 then errR b else errR a
def numR(a:L8):L8:=(cutR a).1
def denR(a:L8):L8:=if(cutR a).2.2 then(cutR a).2.1 else [49]
def frac(z w:L8×Int):L8×Int:=if z.2≠0\/w.2≠0 then([],14) else w6 z.1 w.1
def zG(a b:L8):Int:=if jc a b≠0 then jc a b else if(mulI (numR a) (denR b)).2≠0\/(mulI (numR b) (denR a)).2≠0 then 14 else 0
def addR(a b:L8):L8×Int:=if zG a b≠0 then([],zG a b) else frac (addI (mulI (numR a) (denR b)).1 (mulI (numR b) (denR a)).1) (mulI (denR a) (denR b))
def subR(a b:L8):L8×Int:=if zG a b≠0 then([],zG a b) else frac (subI (mulI (numR a) (denR b)).1 (mulI (numR b) (denR a)).1) (mulI (denR a) (denR b))
def mulR(a b:L8):L8×Int:=if jc a b≠0 then([],jc a b) else frac (mulI (numR a) (numR b)) (mulI (denR a) (denR b))
def cmpR(a b:L8):Int×Int:=if zG a b≠0 then(0,zG a b) else y8 (mulI (numR a) (denR b)).1 (mulI (numR b) (denR a)).1
end Go.Nov
namespace Go.Nov
def dmQ(s t:L8):Nat:=if negI s=true/\0<numI s%numI t then numI s/numI t+1 else numI s/numI t
def dmM(s t:L8):Nat:=if negI s=true/\0<numI s%numI t then numI t - numI s%numI t else numI s%numI t
def dmI(s t:L8):L8×L8×Int:=
 if zA s t≠0 then([],[],zA s t) else if numI t=0 then([],[],16) else((wr (negI s != negI t) (dmQ s t)).1,(wr false (dmM s t)).1,0)
theorem znn{s:L8}(h:errI s=0):∃ k,k<=1000/\numI s<10^k:=by
 obtain⟨_,h1,_,h2⟩:=J2 h;exact⟨_,h2,Zo h1⟩
def room(x:Nat):Prop:=(dec x).length<=1000
theorem room_le{x y:Nat}(h:x<=y)(hy:room y):room x:=by
 rcases aR (dec y).length (dec x).length with h1 | h1
 ·have:=Ten.qi h1;omega
 ·exact bP h1 hy
theorem jM{s:L8}(h:errI s=0):room (numI s):=by
 obtain⟨k,h1,h2⟩:=znn h;exact bP (Jm h2) h1
theorem kR{neg:Bool}{x:Nat}(h:room x):(wr neg x).2=0:=by
 unfold wr;split
 ·rfl
 ·rw [aO (by have:(dec x).length<=1000:=h; omega)]
theorem zk0{s t:L8}(hs:errI s=0)(ht:numI t≠0):room (dmQ s t):=by
 have h:=jM hs;unfold dmQ;split
 ·rename_i hc;by_cases h1:numI t=1
  ·rw [h1,Nat.mod_one] at hc; omega
  ·refine room_le ?_ h;have h2:numI s/numI t<=numI s/2:=Nat.div_le_div_left (by omega) (by omega);have h3:numI s≠0:=λh0=>by rw [h0,Nat.zero_mod] at hc; omega
   by_cases h4:numI s=1
   ·have:numI s/numI t=0:=Nat.div_eq_of_lt (by omega);omega
   ·omega
 ·exact room_le (Nat.div_le_self _ _) h
theorem zme{s t:L8}(ht:errI t=0)(h0:numI t≠0):room (dmM s t):=by
 have h:=jM ht;have hm:=Nat.mod_lt (numI s) (bW h0);unfold dmM;split
 ·exact room_le (Nat.sub_le _ _) h
 ·exact room_le (by omega) h
end Go.Nov
namespace Go.Nov
theorem xk:wr false 1=([49],0):=by
 have h:dec 1=[1]:=by
  show Ten.canon 1=[1];rw [Ten.jf (by decide)];exact congrArg (1 :: ·) Ten.zS
 simp [wr,h,txt,sgn,byt]
theorem zbd{x:Nat}(h:room x):(wr false x).1=[49]↔x=1:=by
 constructor
 ·intro e;have:=(QA (kR (neg:=false) h)).2.1;rw [e] at this;exact this.symm
 ·rintro rfl;rw [xk]
theorem zk6{x:Nat}(h0:x≠0)(h:room x):[45]++(wr false x).1=(wr true x).1:=by
 unfold wr;rw [aO h0,aO h0,aO (by have:(dec x).length<=1000:=h; omega),aO (by have:(dec x).length<=1000:=h; omega)];rfl
theorem ye{t:L8}(h:errI t=0):t=[48]↔numI t=0:=by
 constructor
 ·rintro rfl; rfl
 ·intro h0;obtain⟨neg,b,h1,h2,h3,h4,h5,h6⟩:=Xy h;have hb:numD b=0:=by simpa [numI,h2] using h0
  cases b with
  | nil=>exact absurd rfl h5
  | cons c r=>
   have hc:=h4 c (by simp)
   have e:numD (c::r)=(c.toNat - 48)*10^r.length+numD r:=by
    have:=kK [c] r;simp only [List.singleton_append] at this;rw [this];simp [numD]
   rw [e] at hb
   have hc0:c.toNat=48:=by
    rcases bC (c.toNat - 48) with h7 | h7
    ·omega
    ·have:=Nat.mul_pos h7 (Nat.pow_pos (n:=r.length) (show 0<10 by decide));omega
   have hc1:c=48:=UInt8.toNat_inj.1 (by rw [hc0]; rfl);subst hc1
   have hr:r=[]:=by
    cases r with
    | nil=>rfl
    | cons d r=>
     have:=xw (neg:=neg) (b:=48::d::r) rfl (by simp);rw [this] at h3; cases h3
   subst hr;cases neg with
   | true=>cases h3
   | false=>simpa [sgn] using h1
theorem YL{s:L8}{b:Bool}{g:Nat}(hs:errI s=0)(h0:g≠0)(hg:room g)(hd:g ∣ numI s):dmI s (wr b g).1=((wr (negI s != b) (numI s/g)).1,[48],0):=by
 obtain⟨h1,h2,h3⟩:=QA (kR (neg:=b) hg);have hb:negI (wr b g).1=b:=by rw [h3]; simp [h0]
 have he:zA s (wr b g).1=0:=zk.2 ⟨hs,h1⟩;have hm:numI s%g=0:=Nat.mod_eq_zero_of_dvd hd;unfold dmI;rw [aO (by rw [he]; decide),h2,aO h0,hb]
 have hq:dmQ s (wr b g).1=numI s/g:=by
  unfold dmQ;rw [h2,hm,aO (by omega)]
 have hr:dmM s (wr b g).1=0:=by
  unfold dmM;rw [h2,hm,aO (by omega)]
 rw [hq,hr];rfl
theorem Un{s t:L8}(ht:errI t=0)(h0:numI t≠0):Nat.gcd (numI s) (numI t)≠0/\room (Nat.gcd (numI s) (numI t)):=by
 have hp:=bW h0;refine⟨λh=> ?_,room_le (Nat.le_of_dvd hp (Nat.gcd_dvd_right _ _)) (jM ht)⟩;have:=Nat.eq_zero_of_gcd_eq_zero_right h;exact h0 this
theorem zgr(neg:Bool)(x y:Nat):(Ke neg x y).length<=2003:=by
 unfold Ke;have h1:=ky neg (x/Nat.gcd x y);have h2:=ky false (y/Nat.gcd x y);split
 ·omega
 ·simp only [bO,aL,List.length_nil]; omega
end Go.Nov
namespace Go.Nov
theorem Y6:errI [49]=0:=rfl
theorem qJ{a:L8}(h:errR a=0):errI (numR a)=0/\errI (denR a)=0/\negI (denR a)=false/\numI (denR a)≠0:=by
 unfold errR at h;unfold numR denR;cases hc:(cutR a).2.2 with
 | true=>
  rw [hc] at h;simp only [if_true] at h ⊢;split at h
  ·cases h
  ·rename_i h1;simp only [not_or] at h1;split at h
   ·cases h
   ·rename_i h2;simp only [not_or,Classical.not_not] at h2;refine⟨h2.1,h2.2,by simpa using h1.2.2.1,λh0=> ?_⟩;exact h1.2.2.2.1 ((ye h2.2).2 h0)
 | false=>
  rw [hc] at h;simp only [Bool.false_eq_true,if_false] at h ⊢
  have:(cutR a).1=a:=by
   unfold cutR at hc ⊢;split at hc
   ·cases hc
   ·rename_i hn; rw [aO hn]
  rw [this];exact⟨h,Y6,rfl,by decide⟩
theorem YV(a:L8):(numR a).length<=a.length:=(X0 a).1
theorem YS(a:L8):(denR a).length<=a.length+1:=by
 unfold denR;split
 ·exact bP (X0 a).2 (Nat.le_succ _)
 ·simp
theorem kF{s t:L8}(h:zA s t=0):(mulI s t).2=0/\errI (mulI s t).1=0\/mulI s t=([],14):=by
 unfold mulI;rw [aP h];exact(zbr _ _).imp (λh=>⟨h,(QA h).1⟩) id
theorem zi6{s t:L8}(h:zA s t=0):(addI s t).2=0/\errI (addI s t).1=0\/addI s t=([],14):=by
 unfold addI;rw [aP h];exact(zbr _ _).imp (λh=>⟨h,(QA h).1⟩) id
theorem znk{s t:L8}(h:zA s t=0):(subI s t).2=0/\errI (subI s t).1=0\/subI s t=([],14):=by
 unfold subI;rw [aP h];exact(zbr _ _).imp (λh=>⟨h,(QA h).1⟩) id
end Go.Nov
namespace Go.Nov
def stp(e:Int)(f:L8->L8->L8×Int)(x y:L8):L8×Int:=if e≠0 then([],e) else f x y
theorem zq1{e:Int}{f:L8->L8->L8×Int}{x y:L8}(h:(f x y).1.length<=1001):(stp e f x y).1.length<=1001:=by
 unfold stp;split
 ·simp
 ·exact h
theorem qx{e:Int}(h:e≠0)(f:L8->L8->L8×Int)(x y:L8):stp e f x y=([],e):=aP h
theorem vj(f:L8->L8->L8×Int)(x y:L8):stp 0 f x y=f x y:=aO (by simp)
def Wz(f:L8->L8->L8×Int)(a b:L8):L8×Int:=
 if zG a b≠0 then([],zG a b) else frac (f (mulI (numR a) (denR b)).1 (mulI (numR b) (denR a)).1) (mulI (denR a) (denR b))
section
variable {a b n m d c:L8} {e:Int} (hp:(e≠0/\jc a b=e)\/(e=0/\errR a=0/\errR b=0/\n=numR a/\m=numR b/\d=denR a/\c=denR b))
include hp
theorem QF{f:L8->L8->L8×Int}(hf:∀ {s t:L8},zA s t=0->(f s t).2=0/\errI (f s t).1=0\/f s t=([],14)){r1 r2 r3 r4 r5:L8×Int}
  (h1:r1=stp e mulI n c) (h2:r2=stp r1.2 mulI m d) (h3:r3=stp r2.2 f r1.1 r2.1) (h4:r4=stp r3.2 mulI d c) (h5:r5=stp r4.2 w6 r3.1 r4.1):r5=Wz f a b:=by
 rcases hp with ⟨he,h2e⟩ | ⟨rfl,ha,hb,rfl,rfl,rfl,rfl⟩
 ·have hc:zG a b=e:=by unfold zG; rw [aP (by rw [h2e]; exact he)]; exact h2e
  unfold Wz;rw [hc,aP he];rw [qx he] at h1;subst h1;rw [qx he] at h2;subst h2;rw [qx he] at h3;subst h3;rw [qx he] at h4;subst h4;rw [h5,qx he]
 ·obtain⟨a1,a2,_⟩:=qJ ha;obtain⟨b1,b2,_⟩:=qJ hb;have he2:jc a b=0:=by unfold jc; rw [aP ha]; exact hb
  have e14:(14:Int)≠0:=by decide
  rw [vj] at h1;have hc:zG a b=if(mulI (numR a) (denR b)).2≠0\/(mulI (numR b) (denR a)).2≠0 then 14 else 0:=by unfold zG; rw [aO (by rw [he2]; simp)]
  rcases kF (zk.2 ⟨a1,b2⟩) with ⟨g1,k1⟩ | g1
  ·rw [<- h1] at g1 k1;rw [g1,vj] at h2;rcases kF (zk.2 ⟨b1,a2⟩) with ⟨g2,k2⟩ | g2
   ·rw [<- h2] at g2 k2;rw [g2,vj] at h3;have hc0:zG a b=0:=by rw [hc,aO]; rw [<- h1,<- h2,g1,g2]; simp
    unfold Wz;rw [hc0,aO (by simp),<- h1,<- h2,<- h3];rcases hf (zk.2 ⟨k1,k2⟩) with ⟨g3,k3⟩ | g3
    ·rw [<- h3] at g3 k3;rw [g3,vj] at h4;unfold frac;rw [<- h4,h5];rcases kF (zk.2 ⟨a2,b2⟩) with ⟨g4,k4⟩ | g4
     ·rw [<- h4] at g4;rw [g3,g4,aO (by simp),vj]
     ·rw [<- h4] at g4;rw [g4,aP (by simp),qx e14]
    ·rw [<- h3] at g3;have q4:r4=([],14):=by rw [h4,g3]; exact qx e14 _ _ _
     unfold frac;rw [aP (by rw [g3]; simp),h5,q4,qx e14]
   ·rw [<- h2] at g2;have hc0:zG a b=14:=by rw [hc,aP]; rw [<- h2,g2]; simp
    unfold Wz;rw [hc0,aP e14];have q3:r3=([],14):=by rw [h3,g2]; exact qx e14 _ _ _
    have q4:r4=([],14):=by rw [h4,q3]; exact qx e14 _ _ _
    rw [h5,q4,qx e14]
  ·rw [<- h1] at g1;have hc0:zG a b=14:=by rw [hc,aP]; rw [<- h1,g1]; simp
   unfold Wz;rw [hc0,aP e14];have q2:r2=([],14):=by rw [h2,g1]; exact qx e14 _ _ _
   have q3:r3=([],14):=by rw [h3,q2]; exact qx e14 _ _ _
   have q4:r4=([],14):=by rw [h4,q3]; exact qx e14 _ _ _
   rw [h5,q4,qx e14]
theorem zh0{x y z w:L8}{r1 r2 r3:L8×Int}(h1:r1=stp e mulI x y)(h2:r2=stp r1.2 mulI z w)(h3:r3=stp r2.2 w6 r1.1 r2.1)
  (hv:errR a=0->errR b=0->zA x y=0/\zA z w=0):r3=if jc a b≠0 then([],jc a b) else frac (mulI x y) (mulI z w):=by
 rcases hp with ⟨he,h2e⟩ | ⟨rfl,ha,hb,_⟩
 ·rw [h2e,aP he];rw [qx he] at h1;subst h1;rw [qx he] at h2;subst h2;rw [h3,qx he]
 ·obtain⟨v1,v2⟩:=hv ha hb;have he2:jc a b=0:=by unfold jc; rw [aP ha]; exact hb
  have e14:(14:Int)≠0:=by decide
  rw [he2,aO (by simp)];rw [vj] at h1;unfold frac;rcases kF v1 with ⟨g1,_⟩ | g1
  ·rw [<- h1] at g1 ⊢;rw [g1,vj] at h2;rcases kF v2 with ⟨g2,_⟩ | g2
   ·rw [<- h2] at g2 ⊢;rw [g1,g2,aO (by simp),h3,g2,vj]
   ·rw [<- h2] at g2 ⊢;rw [g2,aP (by simp),h3,g2,qx e14]
  ·rw [<- h1] at g1 ⊢;have q2:r2=([],14):=by rw [h2,g1]; exact qx e14 _ _ _
   rw [g1,aP (by simp),h3,q2,qx e14]
theorem zg4{r1 r2:L8×Int}(h1:r1=stp e mulI n c)(h2:r2=stp r1.2 mulI m d):(if r2.2≠0 then(0,r2.2) else y8 r1.1 r2.1)=cmpR a b:=by
 unfold cmpR;rcases hp with ⟨he,h2e⟩ | ⟨rfl,ha,hb,rfl,rfl,rfl,rfl⟩
 ·have hc:zG a b=e:=by unfold zG; rw [aP (by rw [h2e]; exact he)]; exact h2e
  rw [qx he] at h1;subst h1;rw [qx he] at h2;subst h2;rw [hc,aP he,aP he]
 ·obtain⟨a1,a2,_⟩:=qJ ha;obtain⟨b1,b2,_⟩:=qJ hb;have he2:jc a b=0:=by unfold jc; rw [aP ha]; exact hb
  have e14:(14:Int)≠0:=by decide
  have hc:zG a b=if(mulI (numR a) (denR b)).2≠0\/(mulI (numR b) (denR a)).2≠0 then 14 else 0:=by unfold zG; rw [aO (by rw [he2]; simp)]
  rw [vj] at h1;rcases kF (zk.2 ⟨a1,b2⟩) with ⟨g1,k1⟩ | g1
  ·rw [<- h1] at g1;rw [g1,vj] at h2;rcases kF (zk.2 ⟨b1,a2⟩) with ⟨g2,k2⟩ | g2
   ·rw [<- h2] at g2;have hc0:zG a b=0:=by rw [hc,aO]; rw [<- h1,<- h2,g1,g2]; simp
    rw [hc0,aO (by rw [g2]; simp),aO (by simp),<- h1,<- h2]
   ·rw [<- h2] at g2;have hc0:zG a b=14:=by rw [hc,aP]; rw [<- h2,g2]; simp
    rw [hc0,g2,aP e14,aP e14]
  ·rw [<- h1] at g1;have hc0:zG a b=14:=by rw [hc,aP]; rw [<- h1,g1]; simp
   have q2:r2=([],14):=by rw [h2,g1]; exact qx e14 _ _ _
   rw [hc0,q2,aP e14,aP e14]
end
end Go.Nov
end
section
namespace Go.Nov
theorem zsb{b:L8}(h:allD b)(hn:b≠[])(hz:b.getD 0 0≠48):numD b≠0/\txt (numD b)=b:=by
 have hd:=zs5 h;have hl:0<b.length:=List.length_pos_iff.2 hn
 have htl:Ten.tlen (dg b)=(dg b).length:=by
  rcases aR (Ten.tlen (dg b)) (dg b).length with h1 | h1
  ·exfalso;have h2:=Ten.jX (dg b) ((dg b).length - 1) (by omega);rw [zbj] at h2
   have e:(dg b).getD (b.length - 1) 0=(b.getD 0 0).toNat - 48:=by
    simp only [dg,List.getD_eq_getElem?_getD];rw [List.getElem?_reverse (by simp; omega)];simp [aF hl,show b.length - 1 - (b.length - 1)=0 by omega]
   rw [e] at h2
   have h3:48<=(b.getD 0 0).toNat:=by
    cases b with
    | nil=>exact absurd rfl hn
    | cons c r=>exact(h c (by simp)).1
   apply hz;apply UInt8.toNat_inj.1;show _=48;omega
  ·exact Nat.le_antisymm (Ten.qy _) h1
 have hc:dec (numD b)=dg b:=by
  rw [<- zaz];exact Ten.Kh hd htl
 have h0:numD b≠0:=by
  intro h0;rw [h0] at hc;have:dg b=[]:=by rw [<- hc]; exact Ten.zS
  have:=congrArg List.length this;rw [zbj,List.length_nil] at this;omega
 refine⟨h0,?_⟩;rw [Zd h0,hc,dg,<- List.map_reverse,List.reverse_reverse,List.map_map]
 conv=>rhs; rw [<- List.map_id b]
 refine List.map_congr_left λc hcm=> ?_
 obtain⟨h1,h2⟩:=h c hcm;apply UInt8.toNat_inj.1;simp only [Function.comp,id];rw [QP (by omega)];omega
theorem zc8{s:L8}(h:errI s=0):wr (negI s) (numI s)=(s,0):=by
 obtain⟨neg,b,h1,h2,h3,h4,h5,h6⟩:=Xy h;have e1:negI s=neg:=by simp [negI,h2]
 have e2:numI s=numD b:=by simp [numI,h2]
 rw [e1,e2];by_cases hz:b.getD 0 0=48
 ·have hb:b=[48]:=by
   cases b with
   | nil=>exact absurd rfl h5
   | cons c r=>
    cases r with
    | nil=>have:c=48:=hz; rw [this]
    | cons d r=>rw [xw hz (by simp)] at h3; cases h3
  subst hb;cases neg with
  | true=>cases h3
  | false=>rw [h1]; rfl
 ·obtain⟨g1,g2⟩:=zsb h4 h5 hz;unfold wr;rw [aO g1,g2,aO,h1];have:=Jg g1;rw [g2] at this;omega
def zI(s:L8):Int:=if negI s then -(numI s:Int) else numI s
theorem wC(s:L8):(zI s).natAbs=numI s:=by unfold zI; split<;>simp
theorem XS{s:L8}(h:errI s=0):negI s=decide (zI s<0):=by
 unfold zI;cases hn:negI s with
 | false=>simp
 | true=>
  simp only [if_true]
  have:numI s≠0:=by
   intro h0;have:=(ye h).2 h0;rw [this] at hn;cases hn
  exact(aX (by omega)).symm
def wz(z:Int):L8×Int:=wr (decide (z<0)) z.natAbs
theorem xB{s:L8}(h:errI s=0):wz (zI s)=(s,0):=by
 unfold wz;rw [wC,<- XS h,zc8 h]
theorem zts{neg:Bool}{x:Nat}(h:(wr neg x).2=0):zI (wr neg x).1=if neg then -(x:Int) else x:=by
 obtain⟨h1,h2,h3⟩:=QA h;unfold zI;rw [h2,h3];by_cases h0:x=0
 ·subst h0; simp
 ·cases neg<;>simp [h0]
theorem wq{z:Int}(h:(wz z).2=0):zI (wz z).1=z:=by
 unfold wz at h ⊢;rw [zts h];by_cases hz:z<0
 ·rw [aX hz]; simp only [if_true]; omega
 ·rw [aW hz]; simp only [Bool.false_eq_true,if_false]; omega
theorem jG{z:Int}(h:(wz z).2=0):errI (wz z).1=0:=(QA h).1
theorem Ub{neg:Bool}{x:Nat} : wr neg x=wz (if neg then -(x:Int) else x):=by
 unfold wz;by_cases h0:x=0
 ·subst h0;cases neg<;>rfl
 ·cases neg with
  | false=>simp only [Bool.false_eq_true,if_false,Int.natAbs_natCast]; rw [aW (by omega)]
  | true=>simp only [if_true,Int.natAbs_neg,Int.natAbs_natCast]; rw [aX (by omega)]
theorem zjk(m:Bool)(x:Nat)(n:Bool)(y:Nat):(if(sumS m x n y).1 then -((sumS m x n y).2:Int) else(sumS m x n y).2)=(if m then -(x:Int) else x)+(if n then -(y:Int) else y):=by
 unfold sumS;by_cases h:m=n
 ·subst h;rw [aP rfl];cases m<;>simp<;>omega
 ·rw [aO h];by_cases h2:y<=x
  ·rw [aP h2];cases m<;>cases n<;>first | exact absurd rfl h | (simp; omega)
  ·rw [aO h2];cases m<;>cases n<;>first | exact absurd rfl h | (simp; omega)
theorem zn2{s t:L8}(h:zA s t=0):addI s t=wz (zI s+zI t):=by
 unfold addI;rw [aP h,Ub,zjk]; rfl
theorem zbm{s t:L8}(h:zA s t=0):subI s t=wz (zI s - zI t):=by
 unfold subI;rw [aP h,Ub,zjk];congr 1;unfold zI;cases negI s<;>cases negI t<;>simp<;>omega
theorem wV{s t:L8}(h:zA s t=0):mulI s t=wz (zI s*zI t):=by
 unfold mulI;rw [aP h,Ub];congr 1;unfold zI;cases negI s<;>cases negI t<;>simp [Int.neg_mul,Int.mul_neg]
theorem zsh(m:Bool)(x:Nat)(n:Bool)(y:Nat)(hm:m=true->x≠0)(hn:n=true->y≠0):cmpZ m x n y=cmpI (if m then -(x:Int) else x) (if n then -(y:Int) else y):=by
 unfold cmpZ cmpI cmpN;cases m<;>cases n
 ·simp only [Bool.false_eq_true,false_and,if_false]
  repeat' split
  all_goals first | rfl | omega
 ·have:=hn rfl;simp only [Bool.false_eq_true,false_and,if_false,true_and,and_self,if_true]
  repeat' split
  all_goals first | rfl | omega
 ·have:=hm rfl;simp only [and_self,if_true,Bool.false_eq_true,if_false]
  repeat' split
  all_goals first | rfl | omega
 ·simp only [Bool.true_eq_false,and_false,if_false,if_true]
  repeat' split
  all_goals first | rfl | omega
def qv(a:L8):Rat:=Rat.divInt (zI (numR a)) (zI (denR a))
def qstr(r:Rat):L8:=if r.den=1 then(wz r.num).1 else(wz r.num).1++[47]++(wz r.den).1
def kO(r:Rat):Prop:=room r.num.natAbs/\room r.den
theorem zlw(neg:Bool)(x:Nat):∀ c∈(wr neg x).1,c≠47:=by
 intro c hc h;subst h;unfold wr at hc;split at hc
 ·simp at hc
 ·rename_i h0;split at hc
  ·simp at hc
  ·have ht:¬ (47:UInt8)∈txt x:=λhm=>by
    have:=(ze9 h0 _ hm).1;have e:(47:UInt8).toNat=47:=rfl;omega
   cases neg<;>simp [sgn] at hc<;>exact ht hc
theorem zkq{u v:L8}(h:∀ c∈u,c≠47):cutR (u++[47]++v)=(u,v,true):=by
 have hs:zO (u++[47]++v)=u.length:=by
  refine zi7 (by simp) (by simp [List.getD]) λj hj=> ?_
  rw [List.append_assoc];simp only [List.getD,bL hj,aF hj,Option.getD_some];exact h _ (bK hj)
 rw [zc7 (by rw [hs]; simp),hs];simp
theorem zfy{u:L8}(h:∀ c∈u,c≠47):cutR u=(u,[],false):=by
 have hs:zO u=u.length:=zay λj hj=>by
  simp only [List.getD,aF hj,Option.getD_some];exact h _ (bK hj)
 exact zhy (by omega)
theorem Um(z:Int):∀ c∈(wz z).1,c≠47:=zlw _ _
theorem yG{z:Int}(h:room z.natAbs):(wz z).2=0:=kR h
theorem zta:wz 1=([49],0):=xk
theorem uC{r:Rat}(h:kO r):numR (qstr r)=(wz r.num).1/\denR (qstr r)=(wz (r.den:Int)).1/\(cutR (qstr r)).2.2=decide (r.den≠1):=by
 unfold qstr;by_cases h1:r.den=1
 ·rw [aP h1];have:=zfy (Um r.num);unfold numR denR;rw [this,h1];exact⟨rfl,by simp only [Bool.false_eq_true,if_false]; exact(congrArg Prod.fst zta).symm,by simp⟩
 ·rw [aO h1];have:=zkq (v:=(wz (r.den:Int)).1) (Um r.num);unfold numR denR;rw [this];exact⟨rfl,rfl,by simp [h1]⟩
theorem QV{r:Rat}(h:kO r):qv (qstr r)=r:=by
 obtain⟨h1,h2,_⟩:=uC h;unfold qv;rw [h1,h2,wq (yG h.1),wq (yG (by rw [Int.natAbs_natCast]; exact h.2)),Rat.divInt_ofNat,Rat.mkRat_self]
theorem yQ{r:Rat}(h:kO r):errR (qstr r)=0:=by
 obtain⟨h1,h2,h3⟩:=uC h;have e1:=jG (yG h.1);have e2:errI (wz (r.den:Int)).1=0:=jG (yG (by rw [Int.natAbs_natCast]; exact h.2));have z1:=wq (yG h.1);have z2:zI (wz (r.den:Int)).1=r.den:=wq (yG (by rw [Int.natAbs_natCast]; exact h.2));unfold errR;by_cases hd:r.den=1
 ·rw [h3,hd];simp only [ne_eq,not_true_eq_false,decide_false,Bool.false_eq_true,if_false];unfold qstr;rw [aP hd];exact e1
 ·have hc:(cutR (qstr r)).2.2=true:=by rw [h3]; simp [hd]
  have n1:(cutR (qstr r)).1=(wz r.num).1:=h1;have n2:(cutR (qstr r)).2.1=(wz (r.den:Int)).1:=by unfold denR at h2; rw [hc] at h2; exact h2
  rw [hc,aP rfl,n1,n2];have hp:=r.den_pos;have hneg:negI (wz (r.den:Int)).1=false:=by rw [XS e2,z2]; exact aW (by omega)
  have hn48:(wz (r.den:Int)).1≠[48]:=λh=>by
   rw [h] at z2;have:zI [48]=0:=rfl;omega
  have hn49:(wz (r.den:Int)).1≠[49]:=λh=>by
   rw [h] at z2;have:zI [49]=1:=rfl;omega
  rw [aO (by simp [e1,e2,hneg,hn48,hn49]),aO (by simp [e1,e2])]
  have hg:gcdR (wz r.num).1 (wz (r.den:Int)).1=wr false (Nat.gcd r.num.natAbs r.den):=by
   unfold gcdR;rw [aP (zk.2 ⟨e1,e2⟩),<- wC,<- wC,z1,z2,Int.natAbs_natCast]
  have hr:Nat.gcd r.num.natAbs r.den=1:=r.reduced;rw [hg,hr,xk,aO (by simp)]
theorem kG{a:L8}(h:errR a=0):(qv a).num=zI (numR a)/\((qv a).den:Int)=zI (denR a)/\qstr (qv a)=a/\kO (qv a):=by
 obtain⟨e1,e2,e3,e4⟩:=qJ h;have hz:zI (denR a)=numI (denR a):=by unfold zI; rw [e3]; rfl
 have hcop:Nat.gcd (numI (numR a)) (numI (denR a))=1:=by
  unfold errR at h;cases hc:(cutR a).2.2 with
  | true=>
   rw [hc,aP rfl] at h;have hd:denR a=(cutR a).2.1:=by unfold denR; rw [hc]; rfl
   rw [hd] at e2 e4 ⊢;unfold numR at e1 ⊢;split at h
   ·cases h
   split at h
   ·cases h
   split at h
   ·cases h
   ·rename_i hg;rw [Classical.not_not] at hg;unfold gcdR at hg;rw [aP (zk.2 ⟨e1,e2⟩)] at hg;exact(zbd (Un e2 e4).2).1 hg
  | false=>
   have:denR a=[49]:=by unfold denR; rw [hc]; rfl
   rw [this];exact Nat.gcd_one_right _
 have hq:qv a=⟨zI (numR a),numI (denR a),e4,by rw [wC]; exact hcop⟩:=by
  unfold qv;rw [hz,Rat.mk_eq_divInt]
 have hroom:kO (qv a):=by
  rw [hq];exact⟨by show room (zI (numR a)).natAbs; rw [wC]; exact jM e1,jM e2⟩
 refine⟨by rw [hq],by rw [hq,hz],?_,hroom⟩;rw [hq];unfold qstr;simp only;rw [<- hz,xB e1,xB e2];cases hc:(cutR a).2.2 with
 | true=>
  have hd:denR a=(cutR a).2.1:=by unfold denR; rw [hc]; rfl
  have hn1:numI (denR a)≠1:=by
   intro h1
   have:denR a=[49]:=by
    have:=(zc8 e2);rw [e3,h1,xk] at this;exact(congrArg Prod.fst this).symm
   unfold errR at h;rw [hc,aP rfl,aP (by rw [<- hd,this]; simp)] at h;cases h
  rw [aO hn1,hd];simp only [numR];unfold cutR at hc ⊢;split at hc
  ·rename_i hs;rw [aP hs];simp only;have h47:=JR hs
   have:a=a.take (zO a)++([a.getD (zO a) 0]++a.drop (zO a+1)):=by
    conv=>lhs; rw [<- bU (zO a) a]
    congr 1;rw [List.drop_eq_getElem_cons hs];simp [List.getD,aF hs]
   rw [h47] at this;rw [List.append_assoc];exact this.symm
  ·cases hc
 | false=>
  have hd:denR a=[49]:=by unfold denR; rw [hc]; rfl
  rw [hd];have:numI [49]=1:=rfl;rw [aP this];unfold numR;unfold cutR at hc ⊢;split at hc
  ·cases hc
  ·rename_i hs;rw [aO hs]
theorem Qa{a b:L8}(ha:errR a=0)(hb:errR b=0)(h:qv a=qv b):a=b:=by
 rw [<- (kG ha).2.2.1,<- (kG hb).2.2.1,h]
theorem zqf(a b:Int)(hb:b≠0):b.sign*a=if(decide (a<0) != decide (b<0))=true then -(a.natAbs:Int) else a.natAbs:=by
 by_cases h1:a<0
 ·rw [aX h1];by_cases h2:b<0
  ·rw [aX h2,Int.sign_eq_neg_one_of_neg h2]; simp; omega
  ·rw [aW h2,Int.sign_eq_one_of_pos (by omega)]; simp; omega
 ·rw [aW h1];by_cases h2:b<0
  ·rw [aX h2,Int.sign_eq_neg_one_of_neg h2]; simp; omega
  ·rw [aW h2,Int.sign_eq_one_of_pos (by omega)]; simp; omega
theorem zn7{n d:L8}(hn:errI n=0)(hd:errI d=0)(h0:numI d≠0):w6 n d=(qstr (Rat.divInt (zI n) (zI d)),0)/\kO (Rat.divInt (zI n) (zI d)):=by
 have hz0:zI d≠0:=λh=>h0 (by rw [<- wC,h]; rfl)
 have hg:(zI d).gcd (zI n)=Nat.gcd (numI n) (numI d):=by
  show Nat.gcd _ _=_;rw [wC,wC,Nat.gcd_comm]
 have hden:(Rat.divInt (zI n) (zI d)).den=numI d/Nat.gcd (numI n) (numI d):=by
  rw [Rat.den_divInt,aO hz0,hg,wC]
 have hdv:Nat.gcd (numI n) (numI d) ∣ numI n:=Nat.gcd_dvd_left _ _
 have hnum:(Rat.divInt (zI n) (zI d)).num=if(negI n != negI d)=true then -((numI n/Nat.gcd (numI n) (numI d):Nat):Int) else((numI n/Nat.gcd (numI n) (numI d):Nat):Int):=by
  rw [Rat.num_divInt,hg,zqf _ _ hz0,wC,<- XS hn,<- XS hd];split
  ·rw [Int.neg_ediv_of_dvd (Int.natCast_dvd_natCast.2 hdv),Int.natCast_ediv]
  ·rw [Int.natCast_ediv]
 have hroom:kO (Rat.divInt (zI n) (zI d)):=by
  refine⟨?_,by rw [hden]; exact room_le (Nat.div_le_self _ _) (jM hd)⟩;rw [hnum];have:room (numI n/Nat.gcd (numI n) (numI d)):=room_le (Nat.div_le_self _ _) (jM hn);split
  ·rw [Int.natAbs_neg,Int.natAbs_natCast]; exact this
  ·rw [Int.natAbs_natCast]; exact this
 refine⟨?_,hroom⟩;unfold w6;rw [aO (by rw [zk.2 ⟨hn,hd⟩]; simp),aO h0];congr 1;unfold Ke qstr;rw [hden,hnum];have e2:(wr false (numI d/Nat.gcd (numI n) (numI d))).1=(wz ((numI d/Nat.gcd (numI n) (numI d):Nat):Int)).1:=by rw [Ub]; rfl
 rw [Ub,e2]
theorem zc3{n d:L8}{e f:Int}{z w:Int}(hw:w≠0)(hz:(n,e)=wz z)(hd:(d,f)=wz w):frac (n,e) (d,f)=([],14)\/(frac (n,e) (d,f)=(qstr (Rat.divInt z w),0)/\kO (Rat.divInt z w)):=by
 unfold frac;by_cases he:e=0
 ·by_cases hf:f=0
  ·subst he; subst hf;have h1:(wz z).2=0:=by rw [<- hz]
   have h2:(wz w).2=0:=by rw [<- hd]
   have n1:n=(wz z).1:=by rw [<- hz]
   have n2:d=(wz w).1:=by rw [<- hd]
   have z1:=wq h1;have z2:=wq h2;have e1:=jG h1;have e2:=jG h2;rw [<- n1] at z1 e1;rw [<- n2] at z2 e2;right;rw [aO (by simp)];have:=zn7 e1 e2 (λh=>hw (by rw [<- z2]; have:=wC d; omega));rw [z1,z2] at this;exact this
  ·left; rw [aP (.inr hf)]
 ·left; rw [aP (.inl he)]
section
variable {a b:L8} (ha:errR a=0) (hb:errR b=0)
include ha hb
theorem ZC:errI (numR a)=0/\errI (denR a)=0/\errI (numR b)=0/\errI (denR b)=0/\zI (denR a)≠0/\zI (denR b)≠0/\jc a b=0:=by
 obtain⟨a1,a2,_,a4⟩:=qJ ha;obtain⟨b1,b2,_,b4⟩:=qJ hb;exact⟨a1,a2,b1,b2,λh=>a4 (by rw [<- wC,h]; rfl),λh=>b4 (by rw [<- wC,h]; rfl),by unfold jc; rw [aP ha]; exact hb⟩
theorem yP:zG a b=14\/(zG a b=0/\mulI (numR a) (denR b)=wz (zI (numR a)*zI (denR b))/\mulI (numR b) (denR a)=wz (zI (numR b)*zI (denR a))/\(mulI (numR a) (denR b)).2=0/\(mulI (numR b) (denR a)).2=0):=by
 obtain⟨a1,a2,b1,b2,a4,b4,h2⟩:=ZC ha hb;have m1:=wV (zk.2 ⟨a1,b2⟩);have m2:=wV (zk.2 ⟨b1,a2⟩);unfold zG;rw [aO (by rw [h2]; simp)];by_cases h:(mulI (numR a) (denR b)).2≠0\/(mulI (numR b) (denR a)).2≠0
 ·left; rw [aP h]
 ·right;rw [aO h];simp only [not_or,Classical.not_not] at h;exact⟨rfl,m1,m2,h.1,h.2⟩
theorem ztp:addR a b=([],14)\/(addR a b=(qstr (qv a+qv b),0)/\kO (qv a+qv b)):=by
 obtain⟨a1,a2,b1,b2,a4,b4,h2⟩:=ZC ha hb;unfold addR;rcases yP ha hb with h | ⟨h,m1,m2,k1,k2⟩
 ·left; rw [h]; rfl
 ·rw [h,aO (by simp)];rw [m1] at k1;rw [m2] at k2;have e1:=jG k1;have e2:=jG k2
  have:=zc3 (n:=(addI (mulI (numR a) (denR b)).1 (mulI (numR b) (denR a)).1).1) (e:=(addI (mulI (numR a) (denR b)).1 (mulI (numR b) (denR a)).1).2) (d:=(mulI (denR a) (denR b)).1) (f:=(mulI (denR a) (denR b)).2)
   (z:=zI (numR a)*zI (denR b)+zI (numR b)*zI (denR a)) (w:=zI (denR a)*zI (denR b)) (Int.mul_ne_zero a4 b4) (by rw [m1,m2,zn2 (zk.2 ⟨e1,e2⟩),wq k1,wq k2]) (by rw [wV (zk.2 ⟨a2,b2⟩)])
  unfold qv;rw [Rat.divInt_add_divInt _ _ a4 b4];exact this
theorem zs6:subR a b=([],14)\/(subR a b=(qstr (qv a - qv b),0)/\kO (qv a - qv b)):=by
 obtain⟨a1,a2,b1,b2,a4,b4,h2⟩:=ZC ha hb;unfold subR;rcases yP ha hb with h | ⟨h,m1,m2,k1,k2⟩
 ·left; rw [h]; rfl
 ·rw [h,aO (by simp)];rw [m1] at k1;rw [m2] at k2;have e1:=jG k1;have e2:=jG k2
  have:=zc3 (n:=(subI (mulI (numR a) (denR b)).1 (mulI (numR b) (denR a)).1).1) (e:=(subI (mulI (numR a) (denR b)).1 (mulI (numR b) (denR a)).1).2) (d:=(mulI (denR a) (denR b)).1) (f:=(mulI (denR a) (denR b)).2)
   (z:=zI (numR a)*zI (denR b) - zI (numR b)*zI (denR a)) (w:=zI (denR a)*zI (denR b)) (Int.mul_ne_zero a4 b4) (by rw [m1,m2,zbm (zk.2 ⟨e1,e2⟩),wq k1,wq k2]) (by rw [wV (zk.2 ⟨a2,b2⟩)])
  unfold qv;rw [Rat.divInt_sub_divInt _ _ a4 b4];exact this
theorem zt1:mulR a b=([],14)\/(mulR a b=(qstr (qv a*qv b),0)/\kO (qv a*qv b)):=by
 obtain⟨a1,a2,b1,b2,a4,b4,h2⟩:=ZC ha hb;unfold mulR;rw [h2,aO (by simp)]
 have:=zc3 (n:=(mulI (numR a) (numR b)).1) (e:=(mulI (numR a) (numR b)).2) (d:=(mulI (denR a) (denR b)).1) (f:=(mulI (denR a) (denR b)).2)
  (z:=zI (numR a)*zI (numR b)) (w:=zI (denR a)*zI (denR b)) (Int.mul_ne_zero a4 b4) (by rw [wV (zk.2 ⟨a1,b1⟩)]) (by rw [wV (zk.2 ⟨a2,b2⟩)])
 unfold qv;rw [Rat.divInt_mul_divInt];exact this
theorem za9:cmpR a b=(0,14)\/cmpR a b=(if qv a<qv b then -1 else if qv b<qv a then 1 else 0,0):=by
 obtain⟨a1,a2,b1,b2,a4,b4,h2⟩:=ZC ha hb;obtain⟨p1,p2,_,_⟩:=kG ha;obtain⟨r1,r2,_,_⟩:=kG hb;unfold cmpR;rcases yP ha hb with h | ⟨h,m1,m2,k1,k2⟩
 ·left; rw [h]; rfl
 ·right;rw [h,aO (by simp)];rw [m1] at k1;rw [m2] at k2;have e1:=jG k1;have e2:=jG k2;rw [m1,m2];unfold y8;rw [aP (zk.2 ⟨e1,e2⟩)];congr 1
  have hx:∀ s:L8,errI s=0->negI s=true->numI s≠0:=λs he hn h0=>by
   rw [(ye he).2 h0] at hn; cases hn
  rw [zsh _ _ _ _ (hx _ e1) (hx _ e2)];show cmpI (zI (wz (zI (numR a)*zI (denR b))).1) (zI (wz (zI (numR b)*zI (denR a))).1)=_;rw [wq k1,wq k2,<- p1,<- p2,<- r1,<- r2];unfold cmpI;simp only [Rat.lt_iff]
end
theorem zoc{a b:L8}(ha:errR a=0)(hb:errR b=0)(h:(addR a b).2=0):errR (addR a b).1=0/\qv (addR a b).1=qv a+qv b:=by
 rcases ztp ha hb with h1 | ⟨h1,h2⟩
 ·rw [h1] at h; cases h
 ·rw [h1]; exact⟨yQ h2,QV h2⟩
theorem yX{a b:L8}(ha:errR a=0)(hb:errR b=0)(h:(subR a b).2=0):errR (subR a b).1=0/\qv (subR a b).1=qv a - qv b:=by
 rcases zs6 ha hb with h1 | ⟨h1,h2⟩
 ·rw [h1] at h; cases h
 ·rw [h1]; exact⟨yQ h2,QV h2⟩
theorem yW{a b:L8}(ha:errR a=0)(hb:errR b=0)(h:(mulR a b).2=0):errR (mulR a b).1=0/\qv (mulR a b).1=qv a*qv b:=by
 rcases zt1 ha hb with h1 | ⟨h1,h2⟩
 ·rw [h1] at h; cases h
 ·rw [h1]; exact⟨yQ h2,QV h2⟩
end Go.Nov
end
section
namespace Go.Nov
end Go.Nov
end
section
namespace Go.Nov
open Go.Sx
structure TOp where
 kind:Int
 a:Int
 b:Int
 rat:L8
abbrev TOp.nil:TOp:=⟨0,0,0,[]⟩
def TOp.cell(o:TOp):Nat->AV
 | 0=>.int .u8 o.kind
 | 1=>.i o.a
 | 2=>.i o.b
 | 3=>.str o.rat
 | _=>.undef
def opG(l:List TOp):Nat->Nat->AV:=λj=>(l.getD j TOp.nil).cell
def opS(l:List TOp):AV:=.sl l.length 4 (opG l)
def ratG(l:List L8):Nat->Nat->AV:=λj _=>.str (l.getD j [])
end Go.Nov
end
section
namespace Go.Nov
open Go.Sx
structure Deal where
 long:L8
 short:L8
 ccy:L8
 name:L8
 zb:L8
 zg:L8
def Deal.av(d:Deal):AV:=.agg [.str d.long,.str d.short,.str d.ccy,.str d.name,.str d.zb,.str d.zg]
def Deal.cells(d:Deal)(e:Int):List AV:=[.i e,.str d.long,.str d.short,.str d.ccy,.str d.name,.str d.zb,.str d.zg]
namespace Tm
def kon(r:L8):Ex:=.mk 1 r [] 0 []
def spot(n:L8):Ex:=.mk 3 [] n 0 []
def fixg(n:L8)(d:Int):Ex:=.mk 2 [] n d []
def opx(k:Int)(s:List Ex):Ex:=.mk k [] [] 0 s
def over(k:L8)(x:Ex)(below:Bool):Ex:=opx 7 [kon [48],opx 5 (if below=true then [kon k,x] else [x,kon k])]
def pay(d:Deal)(x:Ex)(r:L8):Con:=.mk 2 d.short d.long d.ccy (opx 6 [x,kon r]) 0 [] []
def at_(day:Int)(c:Con):Con:=.mk 6 [] [] [] (.mk 0 [] [] 0 []) day [] [c]
def call(d:Deal)(ch:L8)(days:List Int)(c:Con):Con:=.mk 8 d.long [] ch (.mk 0 [] [] 0 []) 0 days [c]
def first(e:Int)(l:List L8):Int:=l.foldl (λe r=>if e=0 then errR r else e) e
def zero:Con:=.mk 0 [] [] [] (.mk 0 [] [] 0 []) 0 [] []
def fits(d:Deal):Prop:=d.long.length<=200/\d.short.length<=200/\d.ccy.length<=200/\d.name.length<=200/\d.zb.length<=2500/\d.zg.length<=2500
def res(d:Deal)(c:Con):Int:=if first 0 [d.zb,d.zg]=0 then c.errC else first 0 [d.zb,d.zg]
def out(e:Int)(c:Con):Con:=if e=0 then c else zero
def fwd(d:Deal)(day:Int):Con:=at_ day (pay d (opx 5 [spot d.name,kon d.zb]) d.zg)
def pff(d:Deal)(day:Int)(put:Bool):Con:=at_ day (pay d (over d.zb (spot d.name) put) d.zg)
def opt(d:Deal)(ch:L8)(days:List Int)(put:Bool):Con:=call d ch days (pay d (over d.zb (spot d.name) put) d.zg)
theorem We{e:Int}{l:List (L8)}{i:Nat}(h:i<l.length):first e (l.take (i+1))=if first e (l.take i)=0 then errR (l.getD i []) else first e (l.take i):=by
 have:l.take (i+1)=l.take i++[l.getD i []]:=by
  rw [List.take_add_one]; simp [List.getD,h]
 unfold first;rw [this,List.foldl_append];rfl
end Tm
end Go.Nov
end
section
namespace Go.Sx
open Go.Nov
variable [Stat]
theorem zd.sink{P:Go.Program}{g:Nat}{c:Ctr}(h:zd P g c):zd P g { c with sinks:=true } :=h
theorem LeL.dAt:∀ {l m:List AV} (i:Nat),LeL l m->LeA (l.getD i .undef) (m.getD i .undef)
 | [],[],_,_=>LeA.refl _
 | [],_::_,_,h=>by simp [LeL] at h
 | _::_,[],_,h=>by simp [LeL] at h
 | a::l,b::m,0,h=>by simp only [LeL] at h; exact h.1
 | a::l,b::m,i+1,h=>by
  simp only [LeL] at h;have:=LeL.dAt i h.2;simpa [List.getD] using this
theorem RetR.uw{ctr:Ctr}{m:Nat}{Q:AV×Heap->Prop}{rs:List AV}{h:Heap}{r:AV}{hs:Heap}(L:List Nat)(hnd:jU L=true)(hlt:(L.all λi=>decide (i<h.length))=true)(hj:∀ j,j<m->L[j]?=some j)(hf:ctr.fresh=false)(hq:Q (r,hs))
  (he:LeA (exp2 h L (resV rs)) r) (hb:eqH (expH h L) hs) (hl:hs.length=L.length):RetR ctr m Q rs h:=
 ⟨L,hnd,λi hi=>by have:=bG.1 hlt i hi; simpa using this,hj,(λhh=>absurd hh (by rw [hf]; decide)),r,hs,he,.inl hb,hl,hq⟩
theorem RetR.zdg{ctr:Ctr}{m:Nat}{Q:AV×Heap->Prop}{rs:List AV}{h:Heap}{r:AV}{hs:Heap}(L:List Nat)(hnd:jU L=true)(hlt:(L.all λi=>decide (i<h.length))=true)(hj:∀ j,j<m->L[j]?=some j)(hf:ctr.fresh=false)(hq:Q (r,hs))
  (he:LeA (exp2 h L (resV rs)) r) (hb:leHs (expH h L) hs):RetR ctr m Q rs h:=
 ⟨L,hnd,λi hi=>by have:=bG.1 hlt i hi; simpa using this,hj,(λhh=>absurd hh (by rw [hf]; decide)),r,hs,he,.inr hb,by rw [Yn hb]; simp [expH],hq⟩
end Go.Sx
namespace Go.Nov
open Go.Sx
variable [Go.Sx.Stat]
theorem Ex.yD{x y:Ex}{k d:Int}{r n:L8}{c:List AV}(h:LeL c (x.cellsD++y.cellsD)):LeA (.sl 2 5 (zi (zj 5 c) 0)) (.sl 2 5 (Ex.mk k r n d [x,y]).deep):=by
 refine LeA.sl rfl λj o hj ho=> ?_
 rw [Ex.qg (Ex.mk k r n d [x,y]) j o (by show j<2; omega) ho];have:=LeL.dAt (j*5+o) h;simp only [zi,zj,Nat.zero_add];rcases(show j=0\/j=1 by omega) with rfl | rfl<;>rcases(show o=0\/o=1\/o=2\/o=3\/o=4 by omega) with rfl | rfl | rfl | rfl | rfl<;>exact this
theorem Ex.Jc(x y:Ex):eqG 2 5 (zi (zj 5 (x.cellsD++y.cellsD)) 0) (Ex.exG [x,y]):=by
 intro j o hj ho;simp only [zi,zj,Nat.zero_add];rcases(show j=0\/j=1 by omega) with rfl | rfl<;>rcases(show o=0\/o=1\/o=2\/o=3\/o=4 by omega) with rfl | rfl | rfl | rfl | rfl<;>rfl
theorem Ex.zo6{x y:Ex}{c:List AV}(h:LeL c (x.cellsD++y.cellsD)):LeA (.sl 2 5 (zi (zj 5 c) 0)) (.sl 2 5 (Ex.exG [x,y])):=by
 refine LeA.sl rfl λj o hj ho=> ?_
 have:=LeL.dAt (j*5+o) h;simp only [zi,zj,Nat.zero_add];rcases(show j=0\/j=1 by omega) with rfl | rfl<;>rcases(show o=0\/o=1\/o=2\/o=3\/o=4 by omega) with rfl | rfl | rfl | rfl | rfl<;>exact this
theorem Ex.xT(z:Ex):LeA (.sl z.sub.length 5 (Ex.exG z.sub)) (.sl z.sub.length 5 z.deep):=LeA.sl rfl λj o hj ho=>by rw [Ex.qg z j o hj ho]; exact LeA.refl _
theorem Con.xT(z:Con):LeA (.sl z.sub.length 12 (Con.conG z.sub)) (.sl z.sub.length 12 z.deep):=LeA.sl rfl λj o hj ho=>by rw [Con.qg z j o hj ho]; exact LeA.refl _
theorem Con.znu{e:Con}{k d:Int}{a b n:L8}{x:Ex}{l:List Int}{c:List AV}(h:LeL c e.zl):LeA (.sl 1 12 (zi (zj 12 c) 0)) (.sl 1 12 (Con.mk k a b n x d l [e]).deep):=by
 refine LeA.sl rfl λj o hj ho=> ?_
 have h0:j=0:=by omega
 subst h0;rw [Con.qg (Con.mk k a b n x d l [e]) 0 o (by show 0<1; decide) ho];have:=LeL.dAt o h;simp only [zi,zj,Nat.zero_add,Nat.zero_mul];rcases(show o=0\/o=1\/o=2\/o=3\/o=4\/o=5\/o=6\/o=7\/o=8\/o=9\/o=10\/o=11 by omega) with rfl | rfl | rfl | rfl | rfl | rfl | rfl | rfl | rfl | rfl | rfl | rfl<;>exact this
end Go.Nov
end
section
set_option maxRecDepth 100000
open Go Go.Sx Go.Proofs Go.Nov
namespace Go.Proofs.Tryz
attribute [local simp] eqKV eqA eqA0 eqH eqB eqL eqL0
noncomputable def K53:=Go.Sx.aA f53
def opC:Ctr:=ctrP false (λp:Int×List Ex=>[.int .u8 p.1,Ex.exS p.2]) (λ_=>True) (λ_ (_:Unit)=>True) (λp _=>(exD (Tm.opx p.1 p.2),[]))
def konC:Ctr:=ctrP false (λr:L8=>[.str r]) (λ_=>True) (λ_ (_:Unit)=>True) (λr _=>(exD (Tm.kon r),[]))
theorem zuc:zd prog 36 opC:=by
 refine zh' f36 λp hp O w0 Q hq=> ?_
 obtain⟨k,s⟩:=p;replace hq:=hq () trivial;refine zc.n zD [] (.R [.agg [.int .u8 k,.str #[].toList,.str #[].toList,.i 0,.sl s.length 5 (Ex.exG s)]] [.box [.int .u8 k,.str #[].toList,.str #[].toList,.i 0,.sl s.length 5 (Ex.exG s)]]) ?_;simp only [Tree.holds,zf];refine RetR.out0 hq (λh=>by cases h) ?_;exact⟨⟨rfl,rfl⟩,rfl,rfl,⟨rfl,rfl⟩,⟨rfl,rfl,λj o hj ho=>(Ex.qg (Tm.opx k s) j o hj ho).symm⟩,trivial⟩
theorem za5:zd prog 38 konC:=by
 refine zh' f38 λr hp O w0 Q hq=> ?_
 replace hq:=hq () trivial;refine zc.n zD [] (.R [.agg [.int .u8 1,.str r,.str #[].toList,.i 0,.nils]] [.box [.int .u8 1,.str r,.str #[].toList,.i 0,.nils]]) ?_;simp only [Tree.holds,zf];refine RetR.out0 hq (λh=>by cases h) ?_;exact⟨⟨rfl,rfl⟩,rfl,rfl,⟨rfl,rfl⟩,rfl,trivial⟩
noncomputable def YN:Ctr:=inlC prog noG 100 f67
theorem Zg:zd prog 67 YN:=Qj hmix zD rfl rfl
noncomputable def GTnu:=tb xg (tb Zg tz)
def SNu(l:List L8)(i:Nat):KV:=[(0,.ptr 0 0),(6,.osl 1 1 0 l.length),(7,.i (l.length:Int)),(8,.i (i:Int))]
def Xb:Ctr:=ctrT false false (λp:Deal×Int×List (L8)=>[.ptr 0 0,.osl 1 1 0 p.2.2.length]) (λp=>[.box (p.1.cells p.2.1),.arr p.2.2.length 1 (ratG p.2.2)]) (λp=>p.2.2.length<2^40/\∀ r∈p.2.2,r.length<2^40) (λ_ (_:Unit)=>True) (λp _=>(.tup [],[.box (p.1.cells (Tm.first p.2.1 p.2.2)),.arr p.2.2.length 1 (ratG p.2.2)]))
theorem V3:zd prog 53 Xb:=by
 refine zH (fn:=f53) (c:=f53.body.getD .skip) rfl rfl rfl (λh=>by cases h) λp hp O w0 I0 Q hl0 hq=> ?_
 obtain⟨t,e,l⟩:=p;obtain⟨hl,hr⟩:=hp;replace hq:=hq () trivial;simp only at hl hr hq;refine zc.n GTnu.h [0,6,7,8] (.leaf (.loop (lps K53 0).1 (lps K53 0).2 [(0,.ptr 0 0),(6,.osl 1 1 0 l.length),(7,.i l.length),(8,.i 0)] [.box [.i e,.str t.long,.str t.short,.str t.ccy,.str t.name,.str t.zb,.str t.zg],.arr l.length 1 (ratG l)])) ?_;simp only [Tree.holds,zf,inR,lo,hi,aD];show jD none prog f53 O 2 w0 I0 _ _ _ _;refine zc.loop (ι:={i:Nat // i<=l.length}) (λi=>SNu l i.1) (λi=>[.box (t.cells (Tm.first e (l.take i.1))),.arr l.length 1 (ratG l)]) (λi=>l.length - i.1) ⟨0,aI _⟩ 0 ?_ ?_ (by kernel_rfl)
 ·exact⟨by simp [SNu],by simp [Deal.cells,Tm.first,za],by kernel_rfl,aJ _⟩
 ·rintro⟨i,hil⟩;obtain⟨e',he'⟩:∃ e',Tm.first e (l.take i)=e':=⟨_,rfl⟩;simp only [he'];refine zc.n GTnu.h [0,6,7,8] (let v3:=inR .i64 (i+1);let v2:List (Nat×AV):=[(0,.ptr 0 0),(6,.osl 1 1 0 l.length),(7,.i l.length),(8,.i (i+1))];let v1:List Blk:=[.box [.i e',.str t.long,.str t.short,.str t.ccy,.str t.name,.str t.zb,.str t.zg],.arr l.length 1 (ratG l)];.D ((i:Int)<l.length) (.side ((0:Int)<=i/\(i:Int)<l.length) (.ex (q15 [.str (l.getD (0+Int.toNat i) [])]) λn=>.all (λ(r:Int)=>r=errR n) λn=>.D (e'=(0:Int)) (.side v3 (.leaf (.back 0 v2 [.box [.i n,.str t.long,.str t.short,.str t.ccy,.str t.name,.str t.zb,.str t.zg],.arr l.length 1 (ratG l)]))) (.side v3 (.leaf (.back 0 v2 v1))))) (.R [] v1)) ?_;simp only [q15,Tree.holds,zf,inR,lo,hi,aD];refine⟨λhlt=> ?_,λhge=> ?_⟩
  ·have hlt:i<l.length:=by have:=aB hlt; omega
   have ht:=Tm.We (e:=e) hlt;rw [he'] at ht;have hrl:=hr (l.getD i []) (by simp [List.getD,hlt]);refine⟨by omega,λ_=>⟨l.getD i [],⟨by simp,by omega⟩,⟨_,rfl⟩,?_⟩⟩;rintro _ rfl;refine⟨λh=>⟨by omega,λ_=> ?_⟩,λh=>⟨by omega,λ_=> ?_⟩⟩
   ·rw [aP (aB h)] at ht;rw [aP trivial];exact⟨⟨i+1,hlt⟩,by show l.length - (i+1)<l.length - i; omega,by simp [SNu],by simp [Deal.cells,ht,za],by kernel_rfl,aJ _⟩
   ·rw [aO (aC h)] at ht;rw [aP trivial];exact⟨⟨i+1,hlt⟩,by show l.length - (i+1)<l.length - i; omega,by simp [SNu],by simp [Deal.cells,ht,za],by kernel_rfl,aJ _⟩
  ·have hge:i=l.length:=by have:=aC hge; omega
   rw [hge,bD] at he';rw [he'] at hq;exact RetR.keep [0,1] rfl rfl (by show ∀ j,j<2->_; decide) rfl hq (by simp [resV,exp2,exp1,exp0,ren0,eqA2,eqL1]) (by simp [expH,expB,exp1,exp0,ren0,Deal.cells,za]) rfl
def zqr:Ctr:=ctrT false false (λp:Deal×Int=>[.ptr 0 0]) (λp=>[.box (p.1.cells p.2)]) (λ_=>True) (λ_ (_:Unit)=>True) (λp _=>(exD (Tm.spot p.1.name),[.box (p.1.cells p.2)]))
theorem zoa:zd prog 37 zqr:=by
 refine zH (fn:=f37) (c:=f37.body.getD .skip) rfl rfl rfl (λh=>by cases h) λp hp O w0 I0 Q hl0 hq=> ?_
 obtain⟨t,e⟩:=p;replace hq:=hq () trivial;refine zc.n zD [] (let v1:List AV:=[.int .u8 3,.str #[].toList,.str t.name,.i 0,.nils];.R [.agg v1] [.box [.i e,.str t.long,.str t.short,.str t.ccy,.str t.name,.str t.zb,.str t.zg],.box v1]) ?_;simp only [Tree.holds,zf];refine RetR.keep [0] rfl rfl (by show ∀ j,j<1->_; decide) rfl hq ?_ (by simp [expH,expB,exp1,exp0,ren0,Deal.cells]) rfl;exact⟨⟨rfl,rfl⟩,rfl,rfl,⟨rfl,rfl⟩,rfl,trivial⟩
noncomputable def opI:Ctr:=inlC prog noG 100 f36
theorem zse:zd prog 36 opI:=Qj hmix zD rfl rfl
noncomputable def GPt:=tb zse (tb za5 tz)
def zqx:Ctr:=ctrT false false (λp:Deal×Int×Ex×Bool=>[.ptr 0 0,p.2.2.1.exA,.bool p.2.2.2]) (λp=>[.box (p.1.cells p.2.1)]) (λ_=>True) (λ_ (_:Unit)=>True) (λp _=>(exD (Tm.over p.1.zb p.2.2.1 p.2.2.2),[.box (p.1.cells p.2.1)]))
abbrev q32(A:List AV)(x:L8):Prop:=eqL A [.str x]/\True
theorem zq0:zd prog 39 zqx:=by
 refine zH (fn:=f39) (c:=f39.body.getD .skip) rfl rfl rfl (λh=>by cases h) λp hp O w0 I0 Q hl0 hq=> ?_
 obtain⟨t,e,x,b⟩:=p;replace hq:=hq () trivial;simp only at hq;refine zc.n GPt.h [] (let v7:=q32 [.str #[(48:UInt8)].toList];let v6:List AV:=[.int .u8 5,.str #[].toList,.str #[].toList,.i 0,.osl 4 5 0 2];let v5:List AV:=[.int .u8 x.kind,.str x.rat,.str x.name,.i x.date,.sl x.sub.length 5 (Ex.exG x.sub)];let v2:List AV:=[.i e,.str t.long,.str t.short,.str t.ccy,.str t.name,.str t.zb,.str t.zg];let v1:List AV:=[.int .u8 7,.str #[].toList,.str #[].toList,.i 0,.osl 6 5 0 2];.ex (q32 [.str t.zb]) λn=>let v13:=List.length (Ex.sub (Tm.kon n));let v8:=Ex.cellsD (Tm.kon n);let v4:=zj 5 [.int .u8 x.kind,.str x.rat,.str x.name,.i x.date,.sl x.sub.length 5 (Ex.exG x.sub),.int .u8 (Ex.kind (Tm.kon n)),.str (Ex.rat (Tm.kon n)),.str (Ex.name (Tm.kon n)),.i (Ex.date (Tm.kon n)),.sl v13 5 (Ex.deep (Tm.kon n))];let v3:=zj 5 [.int .u8 (Ex.kind (Tm.kon n)),.str (Ex.rat (Tm.kon n)),.str (Ex.name (Tm.kon n)),.i (Ex.date (Tm.kon n)),.sl v13 5 (Ex.deep (Tm.kon n)),.int .u8 x.kind,.str x.rat,.str x.name,.i x.date,.sl x.sub.length 5 (Ex.exG x.sub)];.A λn_1=>.ite b (.all (λ(x:Bool)=>True) λn_2=>.ite n_2 (.ex v7 λn_3=>let v9:=Tm.kon n_3;.A λn_4=>.R [.agg v1] [.box v2,.box v8,.box v1,.box v5,.arr 2 5 v3,.box v6,.box [.int .u8 (Ex.kind v9),.str (Ex.rat v9),.str (Ex.name v9),.i (Ex.date v9),.sl (List.length (Ex.sub v9)) 5 (Ex.deep v9),.int .u8 5,.str #[].toList,.str #[].toList,.i 0,.osl 4 5 0 2],.box v1]) (.ex v7 λn_3=>let v10:=Tm.kon n_3;.A λn_4=>.R [.agg v1] [.box v2,.box v8,.box v1,.box v5,.arr 2 5 v3,.box v6,.box [.int .u8 (Ex.kind v10),.str (Ex.rat v10),.str (Ex.name v10),.i (Ex.date v10),.sl (List.length (Ex.sub v10)) 5 (Ex.deep v10),.int .u8 5,.str #[].toList,.str #[].toList,.i 0,.osl 4 5 0 2],.box v1])) (.all (λ(x:Bool)=>True) λn_2=>.ite n_2 (.ex v7 λn_3=>let v11:=Tm.kon n_3;.A λn_4=>.R [.agg v1] [.box v2,.box v5,.box v1,.box v8,.arr 2 5 v4,.box v6,.box [.int .u8 (Ex.kind v11),.str (Ex.rat v11),.str (Ex.name v11),.i (Ex.date v11),.sl (List.length (Ex.sub v11)) 5 (Ex.deep v11),.int .u8 5,.str #[].toList,.str #[].toList,.i 0,.osl 4 5 0 2],.box v1]) (.ex v7 λn_3=>let v12:=Tm.kon n_3;.A λn_4=>.R [.agg v1] [.box v2,.box v5,.box v1,.box v8,.arr 2 5 v4,.box v6,.box [.int .u8 (Ex.kind v12),.str (Ex.rat v12),.str (Ex.name v12),.i (Ex.date v12),.sl (List.length (Ex.sub v12)) 5 (Ex.deep v12),.int .u8 5,.str #[].toList,.str #[].toList,.i 0,.osl 4 5 0 2],.box v1]))) ?_;simp only [q32,Tree.holds,zf];refine⟨t.zb,⟨⟨rfl,trivial⟩,trivial⟩,⟨(),trivial⟩,λ_ _=>⟨λh=> ?_,λh=> ?_⟩⟩
 ·subst h;refine⟨⟨true,trivial⟩,λ_ _=>⟨λ_=> ?_,λ_=> ?_⟩⟩
  all_goals
   refine⟨[48],⟨⟨rfl,trivial⟩,trivial⟩,⟨(),trivial⟩,λ_ _=> ?_⟩;exact RetR.uw [0] rfl rfl (by show ∀ j,j<1->_; decide) rfl hq (LeA.agg ⟨LeA.refl _,LeA.refl _,LeA.refl _,LeA.refl _,Ex.yD (x:=Tm.kon [48]) (y:=Tm.opx 5 [Tm.kon t.zb,x]) ⟨LeA.refl _,LeA.refl _,LeA.refl _,LeA.refl _,LeA.refl _,LeA.refl _,LeA.refl _,LeA.refl _,LeA.refl _,Ex.yD ⟨LeA.refl _,LeA.refl _,LeA.refl _,LeA.refl _,LeA.refl _,LeA.refl _,LeA.refl _,LeA.refl _,LeA.refl _,Ex.xT x,trivial⟩,trivial⟩,trivial⟩) (by simp [expH,expB,exp1,exp0,ren0,Deal.cells]) rfl
 ·subst h;refine⟨⟨true,trivial⟩,λ_ _=>⟨λ_=> ?_,λ_=> ?_⟩⟩
  all_goals
   refine⟨[48],⟨⟨rfl,trivial⟩,trivial⟩,⟨(),trivial⟩,λ_ _=> ?_⟩;exact RetR.uw [0] rfl rfl (by show ∀ j,j<1->_; decide) rfl hq (LeA.agg ⟨LeA.refl _,LeA.refl _,LeA.refl _,LeA.refl _,Ex.yD (x:=Tm.kon [48]) (y:=Tm.opx 5 [x,Tm.kon t.zb]) ⟨LeA.refl _,LeA.refl _,LeA.refl _,LeA.refl _,LeA.refl _,LeA.refl _,LeA.refl _,LeA.refl _,LeA.refl _,Ex.yD ⟨LeA.refl _,LeA.refl _,LeA.refl _,LeA.refl _,Ex.xT x,LeA.refl _,LeA.refl _,LeA.refl _,LeA.refl _,LeA.refl _,trivial⟩,trivial⟩,trivial⟩) (by simp [expH,expB,exp1,exp0,ren0,Deal.cells]) rfl
def payC:Ctr:=ctrT false false (λp:Deal×Int×Ex×L8=>[.ptr 0 0,p.2.2.1.exA,.str p.2.2.2]) (λp=>[.box (p.1.cells p.2.1)]) (λ_=>True) (λ_ (_:Unit)=>True) (λp _=>((Tm.pay p.1 p.2.2.1 p.2.2.2).conD,[.box (p.1.cells p.2.1)]))
theorem zst:zd prog 35 payC:=by
 refine zH (fn:=f35) (c:=f35.body.getD .skip) rfl rfl rfl (λh=>by cases h) λp hp O w0 I0 Q hl0 hq=> ?_
 obtain⟨t,e,x,r⟩:=p;replace hq:=hq () trivial;simp only at hq;refine zc.n GPt.h [] (let v1:List AV:=[.int .u8 2,.str t.short,.str t.long,.str t.ccy,.int .u8 6,.str #[].toList,.str #[].toList,.i 0,.osl 3 5 0 2,.i 0,.nils,.nils];.ex (q32 [.str r]) λn=>.A λn_1=>.R [.agg v1] [.box [.i e,.str t.long,.str t.short,.str t.ccy,.str t.name,.str t.zb,.str t.zg],.box [.int .u8 x.kind,.str x.rat,.str x.name,.i x.date,.sl x.sub.length 5 (Ex.exG x.sub)],.box v1,.arr 2 5 (zj 5 [.int .u8 x.kind,.str x.rat,.str x.name,.i x.date,.sl x.sub.length 5 (Ex.exG x.sub),.int .u8 (Ex.kind (Tm.kon n)),.str (Ex.rat (Tm.kon n)),.str (Ex.name (Tm.kon n)),.i (Ex.date (Tm.kon n)),.sl (List.length (Ex.sub (Tm.kon n))) 5 (Ex.deep (Tm.kon n))]),.box [.int .u8 6,.str #[].toList,.str #[].toList,.i 0,.osl 3 5 0 2]]) ?_;simp only [q32,Tree.holds,zf];refine⟨r,⟨⟨rfl,trivial⟩,trivial⟩,⟨(),trivial⟩,λ_ _=> ?_⟩;exact RetR.uw [0] rfl rfl (by show ∀ j,j<1->_; decide) rfl hq (LeA.agg ⟨LeA.refl _,LeA.refl _,LeA.refl _,LeA.refl _,LeA.refl _,LeA.refl _,LeA.refl _,LeA.refl _,Ex.zo6 (x:=x) (y:=Tm.kon r) ⟨LeA.refl _,LeA.refl _,LeA.refl _,LeA.refl _,Ex.xT x,LeA.refl _,LeA.refl _,LeA.refl _,LeA.refl _,LeA.refl _,trivial⟩,LeA.refl _,LeA.nils,LeA.nils,trivial⟩) (by simp [expH,expB,exp1,exp0,ren0,Deal.cells]) rfl
def onC:Ctr:=ctrP false (λp:Int×Con=>[.i p.1,p.2.conA]) (λ_=>True) (λ_ (_:Unit)=>True) (λp _=>((Tm.at_ p.1 p.2).conD,[]))
theorem zu4:zd prog 34 onC:=by
 refine zh' f34 λp hp O w0 Q hq=> ?_
 obtain⟨d,c⟩:=p;replace hq:=hq () trivial;simp only at hq;refine zc.n zD [] (let v1:List AV:=[.int .u8 6,.str #[].toList,.str #[].toList,.str #[].toList,.int .u8 0,.str #[].toList,.str #[].toList,.i 0,.nils,.i d,.nils,.osl 2 12 0 1];.R [.agg v1] [.box c.ze,.box v1,.arr 1 12 (zj 12 c.ze)]) ?_;simp only [Tree.holds,zf];exact RetR.le0 hq (λh=>by cases h) (LeA.agg ⟨LeA.refl _,LeA.refl _,LeA.refl _,LeA.refl _,LeA.refl _,LeA.refl _,LeA.refl _,LeA.refl _,LeA.nils,LeA.refl _,LeA.nils,Con.znu (e:=c) ⟨LeA.refl _,LeA.refl _,LeA.refl _,LeA.refl _,LeA.refl _,LeA.refl _,LeA.refl _,LeA.refl _,LeA.refl _,LeA.refl _,LeA.refl _,Con.xT c,trivial⟩,trivial⟩)
end Go.Proofs.Tryz
end
section
namespace Go.Nov
open Go.Sx
namespace Tm
theorem XR{d:Deal}{x:Ex}{r:L8}(h:fits d):(pay d x r).big<=1000+x.size+x.zB+r.length:=by
 obtain⟨h1,h2,h3,h4,h5,h6⟩:=h;simp only [pay,opx,kon,Con.big,Con.bigs,Ex.size,Ex.zu,Ex.zB,Ex.qk,List.length_nil];omega
theorem Xe{d:Deal}{day:Int}(h:fits d):(fwd d day).big<100000:=by
 have h':=h;obtain⟨h1,h2,h3,h4,h5,h6⟩:=h;have:=XR (x:=opx 5 [spot d.name,kon d.zb]) (r:=d.zg) h';simp only [fwd,at_,Con.big,Con.bigs,Ex.size,Ex.zu,Ex.zB,Ex.qk,List.length_nil,opx,spot,kon] at this ⊢;omega
theorem zjz{k n:L8}{put:Bool} : (over k (spot n) put).size+(over k (spot n) put).zB<=20+k.length+n.length:=by
 cases put<;>simp only [over,opx,spot,kon,Ex.size,Ex.zu,Ex.zB,Ex.qk,List.length_nil,aL,aP,Bool.false_eq_true,if_false]<;>omega
theorem XP{d:Deal}{day:Int}{put:Bool}(h:fits d):(pff d day put).big<100000:=by
 have h':=h;obtain⟨h1,h2,h3,h4,h5,h6⟩:=h;have:=XR (x:=over d.zb (spot d.name) put) (r:=d.zg) h';have:=zjz (k:=d.zb) (n:=d.name) (put:=put);simp only [pff,at_,Con.big,Con.bigs,Ex.size,Ex.zu,Ex.zB,Ex.qk,List.length_nil];omega
theorem zmc:zero.big<100000:=by decide +kernel
end Tm
end Go.Nov
end
