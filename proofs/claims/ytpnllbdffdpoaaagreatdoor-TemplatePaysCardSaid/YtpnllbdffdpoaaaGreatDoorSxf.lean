/- Part 6 of the proof. -/
import Derived.Test.YtpnllbdffdpoaaaGreatDoorSxe
import Derived.Test.YtpnllbdffdpoaaaGreatDoorProg
set_option linter.unusedVariables false
set_option linter.unusedSimpArgs false
set_option linter.unusedSectionVars false
section
set_option maxRecDepth 100000
open Go Go.Sx Go.Proofs Go.Nov
namespace Go.Proofs.Tryz
attribute [local simp] eqKV eqA eqA0 eqH eqB eqL eqL0
noncomputable def K142:List Go.Sx.Item:=[.code (Tryz.f142.body.getD .skip)]
theorem hmix:Tryz.prog.follows .mixedOrders=true:=by decide +kernel
def noG:Nat->Option Ctr:=λ_=>none
theorem zu:∀ g c,noG g=some c->zd Tryz.prog g c:=λ_ _ h=>by cases h
def zs8:AV->Nat
 | .int _ n=>n.toNat
 | _=>0
def decN(n:Nat)(g:Nat->Nat->AV):List Nat:=(List.range n).map λj=>zs8 (g j 0)
theorem yZ(k:IntKind)(l:List Nat):decN l.length (natG k l)=l:=by
 apply List.ext_getElem (by simp [decN]);intro j h1 h2;simp [decN,natG,zs8,h2]
theorem za(n sz:Nat)(g:Nat->Nat->AV):eqG n sz g g:=λ_ _ _ _=>rfl
theorem Zs{k:IntKind}{l:List Nat}{v:Int}(hv:0<=v):eqG (l.length+1) 1 (appG l.length (natG k l) (zi (zj 1 [.int k v]) 0)) (natG k (l++[v.toNat])):=by
 intro j o hj ho;have ho:o=0:=by omega
 subst ho;simp only [appG,zi,zj,natG];by_cases h:j<l.length
 ·simp [h,List.getElem?_append]
 ·have:j=l.length:=by omega
  subst this;simp [Int.toNat_of_nonneg hv]
theorem jn{k:IntKind}{o:List Nat}{v:Int}{d:Nat}{r:Heap}(hv:v=d):eqH (.arr (o.length+1) 1 (appG o.length (natG k o) (zi (zj 1 [.int k v]) 0))::r) [.arr (o++[d]).length 1 (natG k (o++[d]))]:=by
 subst hv;refine⟨⟨by simp,rfl,?_⟩,by simp [eqH]⟩;have:=Zs (k:=k) (l:=o) (v:=(d:Int)) (by omega);simpa using this
theorem wZ{k:IntKind}{l:List Nat}{v:Int}{i:Nat}(hv:0<=v)(hi:i<l.length):eqG l.length 1 (updG (natG k l) i 0 [.int k v]) (natG k (l.set i v.toNat)):=by
 intro j o hj ho;have ho:o=0:=by omega
 subst ho;simp only [updG,natG,List.length_cons,List.length_nil];by_cases h:j=i
 ·subst h;simp [hj,Int.toNat_of_nonneg hv]
 ·simp only [h,false_and,if_false];simp [List.getElem?_set_ne (λe=>h e.symm)]
def magS(x:Nat):AV:=natS .u32 (canon x)
def fits(x:Nat):Prop:=(canon x).length<1000000
theorem Yg{m off n:Nat}{k:IntKind}{o:List Nat}{r:Heap} : new0 (.arr m 1 (natG k o)::r) [] (.osl 0 1 off n):=by
 intro _;simp only [exp0,zO,frz1,jZ,List.getElem?_cons_zero,if_true];intro j o' _ _;rfl
theorem YV{m off n:Nat}{g:Nat->Nat->AV}{r:Heap} : exp0 (.arr m 1 g::r) [] (.osl 0 1 off n) = .sl n 1 (zi g off):=by
 simp [exp0,zO,frz1,jZ]
theorem Kt{k:IntKind}{o l:List Nat}(h:qR o=l):eqA0 (.sl (tlen o) 1 (zi (natG k o) 0)) (natS k l):=by
 subst h;simp only [eqA0,natS,qR,List.length_take,true_and];refine⟨by have:=qm o; omega,?_⟩;intro j o' hj ho';have:o'=0:=by omega
 subst this;simp [zi,natG,List.getElem?_take,hj]
def ctr2{R:Type}(fresh:Bool)(pre:Nat->Nat->Prop)(post:Nat->Nat->R->Prop)(out:Nat->Nat->R->AV×Heap):Ctr:=
 ctrP fresh (λp:Nat×Nat=>[magS p.1,magS p.2]) (λp=>pre p.1 p.2) (λp=>post p.1 p.2) (λp=>out p.1 p.2)
theorem ZT{R:Type}{fresh:Bool}{pre:Nat->Nat->Prop}{post:Nat->Nat->R->Prop}{out:Nat->Nat->R->AV×Heap}{g:Nat}{fn:Func}{c:Code}(hf:Tryz.prog.funcs[g]?=some fn)(hb:fn.body=some c) (hn:(fn.name == "runtime.NumGoroutine")=false)
  (H:∀ x y,pre x y->∀ (O:Nat->Prop) (w0:World) (Q:AV×Heap->Prop),(∀ r,post x y r->Q (out x y r))->zc Tryz.prog fn O 0 w0 [] (λ_ _ _=>False) (RetR (ctr2 fresh pre post out) 0 Q) [.code c] (entry fn [magS x,magS y])):zd Tryz.prog g (ctr2 fresh pre post out):=
 zh hf hb hn λp hp=>H p.1 p.2 hp
def QC:Ctr where
 fresh:=false
 spec args hc:=match args,hc with
  | [.sl n 1 g],[]=>.ex (λl:List Nat=>dig l/\l.length=n/\n<2^62/\eqG n 1 g (natG .u32 l)) λl=>.all (λx=>x=val l) λx=>.leaf (magS x,[])
  | [.osl 0 1 off n],[.arr m 1 g]=>.ex (λu:List Nat=>u.length=m/\off+n<=m/\n<2^62/\eqG m 1 g (natG .u32 u)/\dig ((u.drop off).take n)) λu=>.all (λx=>x=val ((u.drop off).take n)) λx=>.leaf (.osl 0 1 off (canon x).length,[.arr m 1 g])
  | _,_=>.fail
def S75o(off n:Nat):KV:=[(0,.osl 0 1 off n)]
def S75(l:List Nat)(n:Nat):KV:=[(0,.sl n 1 (natG .u32 l))]
theorem Xb:zd Tryz.prog 142 QC:=by
 intro args hc Q hq hfr;unfold QC at hq
 dsimp only at hq
 split at hq
 ·rename_i n g;obtain⟨l,⟨hdl,hln,hn,hg⟩,_,hq⟩:=hq;obtain⟨x,hv⟩:∃ x,val l=x:=⟨_,rfl⟩;replace hq:=hq x hv.symm;have hcan:qR l=canon x:=by rw [zV hdl,hv]
  simp only [magS,<- hcan] at hq;refine jC.le (args':=[natS .u32 l]) (by simp [natS,hln,hg]) (fn_k (fn:=Tryz.f142) (c:=Tryz.f142.body.getD .skip) rfl rfl rfl hfr λO w0 I0 h0=> ?_);refine zc.n zu [0] (.leaf (.loop (lps K142 0).1 (lps K142 0).2 [(0,.sl l.length 1 (natG .u32 l))] [])) ?_;refine zc.loop (ι:={n:Nat // tlen l<=n/\n<=l.length}) (λx=>S75 l x.1) (λ_=>[]) (λx=>x.1) ⟨l.length,qm l,Nat.le_refl _⟩ 0 ?_ ?_ (by kernel_rfl)
  ·exact⟨by simp [S75,eqG],by simp,by kernel_rfl,Nat.zero_le _⟩
  ·rintro⟨n,h1,h2⟩;refine zc.n zu [0] (.side (decide ((0:Int)<n)=true->inR .i64 (n-1)) (.side (decide ((0:Int)<n)=true->(0:Int)<=n - (1:Int)/\(n:Int) - (1:Int)<n) (.ite (bif decide ((0:Int)<n) then decide ((↑(l.getD (Int.toNat (n-1)) 0):Int)=0) else false) (.S (n-1) (.side ((0:Int)<=n - (1:Int)/\(n:Int) - (1:Int)<=n) (.leaf (.back 0 [(0,.sl (Int.toNat (n-1) - 0) 1 (zi (natG .u32 l) 0))] [])))) (.R [.sl n 1 (natG .u32 l)] [])))) ?_;simp only [Tree.holds,ze,inR,lo,hi,Bool.cond_eq_ite];refine⟨by simp; omega,λ_=>⟨by simp; omega,λ_=>⟨λh=> ?_,λh=> ?_⟩⟩⟩
   ·have hp:0<n:=by
     rcases Nat.eq_zero_or_pos n with rfl | hp
     ·simp at h
     ·exact hp
    have e:((n:Int) - 1).toNat=n - 1:=by omega
    have hz:l.getD (n - 1) 0=0:=by
     rw [if_pos (by simpa using hp),e] at h;simpa only [decide_eq_true_eq,Int.natCast_eq_zero] using h
    refine⟨by omega,λ_=>⟨by omega,λ_=> ?_⟩⟩;rw [if_pos trivial];refine⟨⟨n - 1,?_,by omega⟩,by show n - 1<n; omega,by simp [S75,eqG,zi,e],by simp,by kernel_rfl,Nat.zero_le _⟩;rcases Nat.lt_or_ge (n - 1) (tlen l) with h3 | h3
    ·have h4:tlen l - 1=n - 1:=by omega
     exact absurd (h4▸hz) (q6 l (by omega))
    ·exact h3
   ·have hn:n=tlen l:=by
     rcases Nat.lt_or_ge (tlen l) n with h3 | h3
     ·exfalso;have e:((n:Int) - 1).toNat=n - 1:=by omega
      rw [if_pos (by simp; omega),e] at h;have:=ji l (n - 1) (by omega);simp only [decide_eq_false_iff_not,Int.natCast_eq_zero] at h;exact h this
     ·omega
    subst hn;refine⟨[],rfl,by simp,by simp,by simp [QC],_,[],qQ ?_,.inl (by simp),rfl,hq⟩;have:=qm l;simp only [resV,exp2,exp1,exp0,ren0,eqA2,eqA,natS,eqA0,qR,List.length_take,Nat.min_eq_left this,true_and];intro j o hj ho;simp only [natG,List.getD,List.getElem?_take,if_pos hj]
 ·rename_i off n m g;obtain⟨l,⟨hlm,hm,hn,hg,hdl⟩,_,hq⟩:=hq;obtain⟨x,hv⟩:∃ x,val ((l.drop off).take n)=x:=⟨_,rfl⟩;replace hq:=hq x hv.symm;subst hlm;simp only [<- hv,<- YJ hdl] at hq;refine jC.leH (hc':=[.arr l.length 1 (natG .u32 l)]) (by simp [hg]) rfl (fn_k (fn:=Tryz.f142) (c:=Tryz.f142.body.getD .skip) rfl rfl rfl (by simp [QC]) λO w0 I0 h0=> ?_);refine zc.n zu [0] (.leaf (.loop (lps K142 0).1 (lps K142 0).2 [(0,.osl 0 1 off n)] [.arr l.length 1 (natG .u32 l)])) ?_
  have hget:∀ j,j<n->((l.drop off).take n).getD j 0=l.getD (off+j) 0:=by
   intro j hj;simp [List.getElem?_take,hj,List.getElem?_drop]
  have htl:tlen ((l.drop off).take n)<=n:=by
   have:=qm ((l.drop off).take n);simp at this; omega
  refine zc.loop (ι:={k:Nat // tlen ((l.drop off).take n)<=k/\k<=n}) (λx=>S75o off x.1) (λ_=>[.arr l.length 1 (natG .u32 l)]) (λx=>x.1) ⟨n,htl,Nat.le_refl _⟩ 0 ?_ ?_ (by kernel_rfl)
  ·exact⟨by simp [S75o],by simp [eqG],by kernel_rfl,Nat.le_refl _⟩
  ·rintro⟨k,h1,h2⟩;refine zc.n zu [0] (.side (decide ((0:Int)<k)=true->inR .i64 (k-1)) (.side (decide ((0:Int)<k)=true->(0:Int)<=k - (1:Int)/\(k:Int) - (1:Int)<k) (.ite (bif decide ((0:Int)<k) then decide ((↑(l.getD (off+Int.toNat (k-1)) 0):Int)=0) else false) (.S (k-1) (.side ((0:Int)<=k - (1:Int)/\(k:Int) - (1:Int)<=k) (.leaf (.back 0 [(0,.osl 0 1 (off+0) (Int.toNat (k-1) - 0))] [.arr l.length 1 (natG .u32 l)])))) (.R [.osl 0 1 off k] [.arr l.length 1 (natG .u32 l)])))) ?_;simp only [Tree.holds,ze,inR,lo,hi,Bool.cond_eq_ite];refine⟨by simp; omega,λ_=>⟨by simp; omega,λ_=>⟨λh=> ?_,λh=> ?_⟩⟩⟩
   ·have hp:0<k:=by
     rcases Nat.eq_zero_or_pos k with rfl | hp
     ·simp at h
     ·exact hp
    have e:((k:Int) - 1).toNat=k - 1:=by omega
    have hz:((l.drop off).take n).getD (k - 1) 0=0:=by
     rw [if_pos (by simpa using hp),e] at h;rw [hget _ (by omega)];simpa only [decide_eq_true_eq,Int.natCast_eq_zero] using h
    refine⟨by omega,λ_=>⟨by omega,λ_=> ?_⟩⟩;rw [if_pos trivial];refine⟨⟨k - 1,?_,by omega⟩,by show k - 1<k; omega,by simp [S75o,e],by simp [eqG],by kernel_rfl,Nat.le_refl _⟩;rcases Nat.lt_or_ge (k - 1) (tlen ((l.drop off).take n)) with h3 | h3
    ·have h4:tlen ((l.drop off).take n) - 1=k - 1:=by omega
     exact absurd (h4▸hz) (q6 _ (by omega))
    ·exact h3
   ·have hn:k=tlen ((l.drop off).take n):=by
     rcases Nat.lt_or_ge (tlen ((l.drop off).take n)) k with h3 | h3
     ·exfalso;have e:((k:Int) - 1).toNat=k - 1:=by omega
      rw [if_pos (by simp; omega),e] at h;have:=ji ((l.drop off).take n) (k - 1) (by omega);rw [hget _ (by omega)] at this;simp only [decide_eq_false_iff_not,Int.natCast_eq_zero] at h;exact h this
     ·omega
    subst hn;exact⟨[0],rfl,by simp,by simp,by simp [QC],_,[.arr l.length 1 g],qQ (by simp [resV,exp2,exp1,exp0,zO,eqA2]),.inl ⟨⟨rfl,rfl,λj o hj ho=>(hg j o hj ho).symm⟩,trivial⟩,rfl,hq⟩
 ·exact hq.elim
noncomputable def K109:List Go.Sx.Item:=[.code (Tryz.f109.body.getD .skip)]
noncomputable def K146:List Go.Sx.Item:=[.code (Tryz.f146.body.getD .skip)]
def cmp3(x y:Nat):Int:=if x<y then -1 else if y<x then 1 else 0
def Zy:Ctr:=ctr2 true (λx y=>fits x/\fits y) (λx y r=>r=cmp3 x y) (λ_ _ r=>(.i r,[]))
def S73(x y k:Nat):KV:=[(0,magS x),(1,magS y),(5,.i ((k:Int) - 1))]
theorem uR:zd Tryz.prog 109 Zy:=by
 refine ZT (fn:=Tryz.f109) (c:=Tryz.f109.body.getD .skip) rfl rfl rfl λx y hp O w0 Q hq=> ?_
 replace hq:=hq _ rfl;obtain⟨hx,hy⟩:=hp;simp only [fits] at hx hy;refine zc.n zu [0,1,5] (.N (((canon x).length:Int)=((canon y).length:Int)) (.S ((canon x).length-(canon y).length) (.R [.i (max (-1:Int) (min (1:Int) (((canon x).length:Int) - ((canon y).length:Int))))] [])) (.S ((canon x).length-1) (.leaf (.loop (lps K109 0).1 (lps K109 0).2 [(0,.sl (canon x).length 1 (natG .u32 (canon x))),(1,.sl (canon y).length 1 (natG .u32 (canon y))),(5,.i ((canon x).length-1))] [])))) ?_;simp only [Tree.holds,ze,inR,lo,hi,Bool.cond_eq_ite];refine⟨λh=>⟨by omega,λ_=>RetR.scal hq rfl ?_⟩,λh=>⟨by omega,λ_=> ?_⟩⟩
 ·simp only [resV,cmp3];congr 1
  have hne:(canon x).length≠(canon y).length:=by
   simp only [Bool.not_eq_true',decide_eq_false_iff_not] at h;omega
  rcases Nat.lt_or_gt_of_ne hne with h1 | h1
  ·have:=qn h1;rw [if_pos this]; omega
  ·have:=qn h1;rw [if_neg (by omega),if_pos this]; omega
 ·have hlen:(canon x).length=(canon y).length:=by
   simp only [Bool.not_eq_false',decide_eq_true_eq] at h;omega
  refine zc.loop (ι:={k:Nat // k<=(canon x).length/\∀ j,k<=j->(canon x).getD j 0=(canon y).getD j 0}) (λk=>S73 x y k.1) (λ_=>[]) (λk=>k.1) ⟨(canon x).length,Nat.le_refl _,λj hj=>by simp [hj,hlen▸hj]⟩ 0 ?_ ?_ (by kernel_rfl)
  ·exact⟨by simp [S73,magS,natS,za],by simp,by kernel_rfl,Nat.zero_le _⟩
  ·rintro⟨k,h1,h2⟩;refine zc.n zu [0,1,5] (let v1:=Int.toNat (k-1);.D ((0:Int)<=k - (1:Int)) (.side ((0:Int)<=k - (1:Int)/\(k:Int) - (1:Int)<((canon x).length:Int)) (.side ((0:Int)<=k - (1:Int)/\(k:Int) - (1:Int)<((canon y).length:Int)) (.N ((↑(List.getD (canon x) v1 0):Int)=(↑(List.getD (canon y) v1 0):Int)) (.side ((0:Int)<=k - (1:Int)/\(k:Int) - (1:Int)<((canon x).length:Int)) (.side ((0:Int)<=k - (1:Int)/\(k:Int) - (1:Int)<((canon y).length:Int)) (.D ((↑(List.getD (canon x) v1 0):Int)<(↑(List.getD (canon y) v1 0):Int)) (.R [.i (-1:Int)] []) (.R [.i 1] [])))) (.S (k-1-1) (.leaf (.back 0 [(0,.sl (canon x).length 1 (natG .u32 (canon x))),(1,.sl (canon y).length 1 (natG .u32 (canon y))),(5,.i (k-1-1))] [])))))) (.R [.i 0] [])) ?_;simp only [Tree.holds,ze,inR,lo,hi,Bool.cond_eq_ite];have e:((k:Int) - 1).toNat=k - 1:=by omega
   rw [e];refine⟨λhk=> ?_,λhk=>RetR.scal hq rfl ?_⟩
   ·have hk:0<k:=by simp at hk; omega
    refine⟨by omega,λ_=>⟨by omega,λ_=>⟨λhne=>⟨by omega,λ_=>⟨by omega,λ_=>⟨λhlt=>RetR.scal hq rfl ?_,λhlt=>RetR.scal hq rfl ?_⟩⟩⟩,λheq=>⟨by omega,λ_=> ?_⟩⟩⟩⟩
    ·have:=uv (zl x) hlen (i:=k - 1) (λj hj=>h2 j (by omega)) (by simpa using hlt);rw [zo,zo] at this;simp [resV,cmp3,this]
    ·have hgt:(canon y).getD (k - 1) 0<(canon x).getD (k - 1) 0:=by
      simp only [Bool.not_eq_true',decide_eq_false_iff_not] at hne hlt;omega
     have:=uv (zl y) hlen.symm (i:=k - 1) (λj hj=>(h2 j (by omega)).symm) hgt;rw [zo,zo] at this;simp only [resV,cmp3];rw [if_neg (by omega),if_pos this]
    ·rw [if_pos trivial];refine⟨⟨k - 1,by omega,λj hj=> ?_⟩,by show k - 1<k; omega,by simp [S73,magS,natS,za]; omega,by simp,by kernel_rfl,Nat.zero_le _⟩;rcases Nat.lt_or_ge j k with hj2 | hj2
     ·have:j=k - 1:=by omega
      subst this;simp only [Bool.not_eq_false',decide_eq_true_eq] at heq;omega
     ·exact h2 j hj2
   ·have hk:k=0:=by simp at hk; omega
    subst hk
    have:canon x=canon y:=by
     apply List.ext_getElem hlen;intro j hj hj';have:=h2 j (Nat.zero_le _);simpa [hj,hj'] using this
    have:x=y:=by rw [<- zo x,this,zo]
    subst this;simp [resV,cmp3]
noncomputable def G1:=tb Xb tz
def Xl:Ctr:=ctr2 true (λx y=>fits x/\y<=x) (λx y d=>d=x - y) (λ_ _ d=>(magS d,[]))
def S78(x y:Nat)(o:List Nat)(c i:Nat):KV:=[(0,magS x),(1,magS y),(5,.osl 0 1 0 o.length),(6,.int .u32 (c:Int)),(13,magS x),(14,.i ((canon x).length:Int)),(15,.i (i:Int))]
structure I78(x y:Nat) where
 o:List Nat
 c:Nat
 i:Nat
 len:o.length=i
 le:i<=(canon x).length
 dg:dig o
 c1:c<=1
 eq:val ((canon x).take i)+B^i*c=val o+val ((canon y).take i)
theorem XG{x y:Nat}(h:x<=y):(canon x).length<=(canon y).length:=by
 rcases Nat.lt_or_ge (canon y).length (canon x).length with h1 | h1
 ·have:=qn h1; omega
 ·exact h1
theorem zt0{x y o c i d c':Nat}{l m:List Nat}(h:val (l.take i)+B^i*c=o+val (m.take i))(he:l.getD i 0+B*c'=d+m.getD i 0+c):val (l.take (i+1))+B^(i+1)*c'=o+B^i*d+val (m.take (i+1)):=by
 rw [zp,zp,Nat.pow_succ];have:=congrArg (B^i * ·) he;simp only [Nat.mul_add] at this;rw [Nat.mul_assoc];omega
theorem Vl(l:List Nat)(d:Nat):val (l++[d])=val l+B^l.length*d:=by rw [zM]; simp [val]
theorem Wt:zd Tryz.prog 146 Xl:=by
 refine ZT (fn:=Tryz.f146) (c:=Tryz.f146.body.getD .skip) rfl rfl rfl λx y hp O w0 Q hq=> ?_
 replace hq:=hq _ rfl;obtain⟨hx,hyx⟩:=hp;simp only [fits] at hx hyx;have hlen:=XG hyx;refine zc.n G1.h [0,1,5,6,13,14,15] (.side ((0:Int)<=0/\(0:Int)<=((canon x).length:Int)/\inR .i64 (canon x).length/\Int.toNat (canon x).length*4<=140737488355328) (.leaf (.loop (lps K146 0).1 (lps K146 0).2 [(0,.sl (canon x).length 1 (natG .u32 (canon x))),(1,.sl (canon y).length 1 (natG .u32 (canon y))),(5,.osl 0 1 0 0),(6,.int .u32 0),(13,.sl (canon x).length 1 (natG .u32 (canon x))),(14,.i (canon x).length),(15,.i 0)] [.arr 0 1 (kN [.int .u32 0])]))) ?_;simp only [Tree.holds,ze,inR,lo,hi];refine⟨by omega,λ_=> ?_⟩;refine zc.loop (ι:=I78 x y) (λs=>S78 x y s.o s.c s.i) (λs=>[.arr s.o.length 1 (natG .u32 s.o)]) (λs=>(canon x).length - s.i) ⟨[],0,0,rfl,Nat.zero_le _,by simp [dig],by omega,by simp [val]⟩ 0 ?_ ?_ (by kernel_rfl)
 ·exact⟨by simp [S78,magS,natS,za],by simp [eqG],by kernel_rfl,Nat.zero_le _⟩
 ·rintro⟨o,c,i,ho,hle,hd,hc,he⟩;subst ho;have hB:B=1000000000:=rfl;refine zc.n G1.h [0,1,5,6,13,14,15] (let v12:=natG .u32 o;let v11:=natG .u32 (canon x);let v7:=o.length+1;let v5:=inR .i64 (o.length+1);let v3:List (Nat×AV):=[(0,.sl (canon x).length 1 v11),(1,.sl (canon y).length 1 (natG .u32 (canon y))),(5,.osl 0 1 0 v7),(6,.int .u32 0),(13,.sl (canon x).length 1 v11),(14,.i (canon x).length),(15,.i (o.length+1))];let v2:List (Nat×AV):=[(0,.sl (canon x).length 1 v11),(1,.sl (canon y).length 1 (natG .u32 (canon y))),(5,.osl 0 1 0 v7),(6,.int .u32 1),(13,.sl (canon x).length 1 v11),(14,.i (canon x).length),(15,.i (o.length+1))];let v1:=Int.toNat o.length;let v10:=zj 1 [.int .u32 ((↑(List.getD (canon x) v1 0):Int) - c)];let v9:=inR .u32 ((↑(List.getD (canon x) v1 0):Int)+(1000000000:Int));let v8:=zj 1 [.int .u32 ((↑(List.getD (canon x) v1 0):Int)+(1000000000:Int) - c)];let v6:=zj 1 [.int .u32 ((↑(List.getD (canon x) v1 0):Int) - ((c:Int)+(↑(List.getD (canon y) v1 0):Int)))];let v4:=zj 1 [.int .u32 ((↑(List.getD (canon x) v1 0):Int)+(1000000000:Int) - ((c:Int)+(↑(List.getD (canon y) v1 0):Int)))];.D ((o.length:Int)<((canon x).length:Int)) (.side ((0:Int)<=o.length/\(o.length:Int)<((canon x).length:Int)) (.D ((o.length:Int)<((canon y).length:Int)) (.side ((0:Int)<=o.length/\(o.length:Int)<((canon y).length:Int)) (.side (inR .u32 ((c:Int)+(↑(List.getD (canon y) v1 0):Int))) (.D ((↑(List.getD (canon x) v1 0):Int)<c+(↑(List.getD (canon y) v1 0):Int)) (.side v9 (.side (inR .u32 ((↑(List.getD (canon x) v1 0):Int)+(1000000000:Int) - ((c:Int)+(↑(List.getD (canon y) v1 0):Int)))) (.side (0=0/\o.length<=o.length/\v7 *4<=140737488355328) (.side v5 (.leaf (.back 0 v2 [.arr v7 1 (appG o.length v12 (zi v4 0)),.arr 1 1 v4])))))) (.side (inR .u32 ((↑(List.getD (canon x) v1 0):Int) - ((c:Int)+(↑(List.getD (canon y) v1 0):Int)))) (.side (0=0/\o.length<=o.length/\v7 *4<=140737488355328) (.side v5 (.leaf (.back 0 v3 [.arr v7 1 (appG o.length v12 (zi v6 0)),.arr 1 1 v6])))))))) (.D ((↑(List.getD (canon x) v1 0):Int)<c) (.side v9 (.side (inR .u32 ((↑(List.getD (canon x) v1 0):Int)+(1000000000:Int) - c)) (.side (0=0/\o.length<=o.length/\v7 *4<=140737488355328) (.side v5 (.leaf (.back 0 v2 [.arr v7 1 (appG o.length v12 (zi v8 0)),.arr 1 1 v8])))))) (.side (inR .u32 ((↑(List.getD (canon x) v1 0):Int) - c)) (.side (0=0/\o.length<=o.length/\v7 *4<=140737488355328) (.side v5 (.leaf (.back 0 v3 [.arr v7 1 (appG o.length v12 (zi v10 0)),.arr 1 1 v10])))))))) (.ex (λ(u:List Nat)=>u.length=o.length/\0+o.length<=o.length/\o.length<4611686018427387904/\eqG o.length 1 v12 (natG .u32 u)/\dig (List.take o.length (List.drop 0 u))) λn=>.all (λ(x:Nat)=>x=val (List.take o.length (List.drop 0 n))) λn=>.R [.osl 0 1 0 (canon n).length] [.arr o.length 1 v12])) ?_;simp only [Tree.holds,ze,inR,lo,hi,Int.toNat_natCast,yZ];have ha:=zP (zl x) o.length;have hb:=zP (zl y) o.length
  have hnext:∀ d c':Nat,d<B->c'<=1->o.length<(canon x).length->(canon x).getD o.length 0+B*c'=d+(canon y).getD o.length 0+c ->
    ∃ s:I78 x y,s.o=o++[d]/\s.c=c'/\s.i=o.length+1:=λd c' h1 h2 h3 h4=>
   ⟨⟨o++[d],c',o.length+1,by simp,h3,qC.2 ⟨hd,by simp [dig,h1]⟩,h2,by rw [Vl]; exact zt0 (x:=x) (y:=y) he h4⟩,rfl,rfl,rfl⟩
  refine⟨λhlt=> ?_,λhge=> ?_⟩
  ·have hlt:o.length<(canon x).length:=by simp at hlt; omega
   refine⟨by omega,λ_=>⟨λhb2=>⟨by simp at hb2; omega,λ_=>⟨by omega,λ_=>⟨λhlt2=> ?_,λhge2=> ?_⟩⟩⟩,λhb2=>⟨λhlt2=> ?_,λhge2=> ?_⟩⟩⟩
   ·simp only [decide_eq_true_eq] at hlt2;refine⟨by omega,λ_=>⟨by omega,λ_=>⟨⟨trivial,by omega,by omega⟩,λ_=>⟨by omega,λ_=> ?_⟩⟩⟩⟩;obtain⟨s,h1,h2,h3⟩:=hnext ((canon x).getD o.length 0+B - (c+(canon y).getD o.length 0)) 1 (by omega) (by omega) hlt (by omega);rw [if_pos trivial];refine⟨s,by show _ - s.i<_; omega,by simp [S78,h1,h2,h3,magS,natS,za],by rw [h1]; exact jn (by omega),by kernel_rfl,Nat.zero_le _⟩
   ·simp only [decide_eq_false_iff_not] at hge2;refine⟨by omega,λ_=>⟨⟨trivial,by omega,by omega⟩,λ_=>⟨by omega,λ_=> ?_⟩⟩⟩;obtain⟨s,h1,h2,h3⟩:=hnext ((canon x).getD o.length 0 - (c+(canon y).getD o.length 0)) 0 (by omega) (by omega) hlt (by omega);rw [if_pos trivial];refine⟨s,by show _ - s.i<_; omega,by simp [S78,h1,h2,h3,magS,natS,za],by rw [h1]; exact jn (by omega),by kernel_rfl,Nat.zero_le _⟩
   ·simp only [decide_eq_true_eq,decide_eq_false_iff_not] at hlt2 hb2;have hb0:(canon y).getD o.length 0=0:=by simp [List.getD,List.getElem?_eq_none (show(canon y).length<=o.length by omega)]
    refine⟨by omega,λ_=>⟨by omega,λ_=>⟨⟨trivial,by omega,by omega⟩,λ_=>⟨by omega,λ_=> ?_⟩⟩⟩⟩;obtain⟨s,h1,h2,h3⟩:=hnext ((canon x).getD o.length 0+B - c) 1 (by omega) (by omega) hlt (by omega);rw [if_pos trivial];refine⟨s,by show _ - s.i<_; omega,by simp [S78,h1,h2,h3,magS,natS,za],by rw [h1]; exact jn (by omega),by kernel_rfl,Nat.zero_le _⟩
   ·simp only [decide_eq_false_iff_not] at hge2 hb2;have hb0:(canon y).getD o.length 0=0:=by simp [List.getD,List.getElem?_eq_none (show(canon y).length<=o.length by omega)]
    refine⟨by omega,λ_=>⟨⟨trivial,by omega,by omega⟩,λ_=>⟨by omega,λ_=> ?_⟩⟩⟩;obtain⟨s,h1,h2,h3⟩:=hnext ((canon x).getD o.length 0 - c) 0 (by omega) (by omega) hlt (by omega);rw [if_pos trivial];refine⟨s,by show _ - s.i<_; omega,by simp [S78,h1,h2,h3,magS,natS,za],by rw [h1]; exact jn (by omega),by kernel_rfl,Nat.zero_le _⟩
  ·have hge:o.length=(canon x).length:=by simp at hge; omega
   have hv:val o=x - y:=by
    have h1:=zX hd;rw [hge,List.take_length,List.take_of_length_le hlen,zo,zo] at he
    have:c=0:=by
     rcases Nat.lt_or_ge c 1 with h | h
     ·omega
     ·have:c=1:=by omega
      subst this;rw [hge] at h1;omega
    subst this;omega
   refine⟨o,⟨rfl,by omega,by omega,za _ _ _,by simpa using hd⟩,⟨_,rfl⟩,?_⟩;intro X hX;have hX:X=x - y:=by simpa [hv] using hX
   subst hX;have htr:qR o=canon (x - y):=by rw [zV hd,hv]
   have htl:(canon (x - y)).length=tlen o:=by rw [<- htr,qR,List.length_take]; have:=qm o; omega
   rw [htl];refine⟨[],rfl,by simp,by simp,λ_=>⟨Yg,by simp⟩,magS (x - y),[],qQ ?_,.inl (by simp [expH]),rfl,hq⟩;simp only [resV,exp2,exp1,YV];exact Kt htr
end Go.Proofs.Tryz
end
section
namespace Go.Nov
open Go.Sx
def jD(k:Int)(r n:L8)(d:Int)(l:Nat):Bool:=
 decide (l=0)&&(if k=1 then decide (errR r=0)&&decide (n=[])&&decide (d=0) else if k=2 then decide (r=[])&&zQ n&&dayB d else if k=3 then decide (r=[])&&zQ n&&decide (d=0) else false)
def kK(k:Int)(r n:L8)(d:Int)(ss:List Int):Int:=
 if j2 k=true then(if r=[]/\n=[]/\d=0/\ss=jx k then jo k else 0) else if jD k r n d ss.length=true then 1 else 0
def zjt(r m:L8)(d:Int):Bool:=bif (bif decide (r=[]) then decide (m=[]) else false) then decide (d=0) else false
theorem Qp{k:Int}{r m:L8}{d:Int}{l ps:List Int}{w:Int}(h:Zq k=some (ps,w)):kK k r m d l=if zjt r m d=true/\l=ps then w else 0:=by
 have h1:j2 k=true:=by simp [j2,h]
 have h2:jx k=ps:=by simp [jx,h]
 have h3:jo k=w:=by simp [jo,h]
 unfold kK;rw [if_pos h1,h2,h3];simp [zjt,and_assoc]
theorem xn{k:Int}{r m:L8}{d:Int}{l:List Int}(h:j2 k=false):kK k r m d l=if jD k r m d l.length=true then 1 else 0:=by
 unfold kK;rw [if_neg (by rw [h]; decide)]
theorem zo2{k:Int}(h:¬ (4<=k/\k<=9))(h2:¬ (11<=k/\k<=15)):j2 k=false:=by
 have e:∀ c:Int,(4<=c/\c<=9)\/(11<=c/\c<=15)->(c == k)=false:=λc hc=>by
  rw [beq_eq_false_iff_ne]; omega
 simp only [j2,Zq,shpL,List.find?_cons,e 4 (by omega),e 5 (by omega),e 6 (by omega),e 7 (by omega),e 8 (by omega),e 9 (by omega),e 11 (by omega),e 12 (by omega),e 13 (by omega),e 14 (by omega),e 15 (by omega),List.find?_nil];rfl
namespace Ex
mutual
def depth:Ex->Nat
 | mk _ _ _ _ s=>1+zD s
def zD:List Ex->Nat
 | []=>0
 | x::l=>max (depth x) (zD l)
end
mutual
def zR:Ex->Nat
 | mk _ r n _ s=>r.length+n.length+jK s
def jK:List Ex->Nat
 | []=>0
 | x::l=>zR x+jK l
end
mutual
def zz:Ex->Int
 | mk k r n d s=>kK k r n d (ju s)
def ju:List Ex->List Int
 | []=>[]
 | x::l=>zz x::ju l
end
mutual
def thin:Ex->Prop
 | mk _ r n _ s=>r.length<=2^48/\n.length<=2^48/\WI s
def WI:List Ex->Prop
 | []=>True
 | x::l=>thin x/\WI l
end
theorem xf(x:Ex):x.depth=1+zD x.sub:=by cases x; rw [depth]; rfl
theorem zgf(x:Ex):x.zR=x.rat.length+x.name.length+jK x.sub:=by cases x; rw [zR]; rfl
theorem Wr(x:Ex):x.zz=kK x.kind x.rat x.name x.date (ju x.sub):=by cases x; rw [zz]; rfl
theorem vj(s:List Ex)(i:Nat)(h:i<s.length):zD (s.take (i+1))=max (zD (s.take i)) (s.getD i nil).depth:=by
 induction s generalizing i with
 | nil=>simp at h
 | cons x s ih=>
  cases i with
  | zero=>simp [zD]
  | succ i=>
   simp only [List.take_succ_cons,zD,List.getD_cons_succ];rw [ih i (by simpa using h)];omega
theorem zas{s:List Ex}{i:Nat}(h:i<s.length):(s.getD i nil).zR<=jK s:=by
 induction s generalizing i with
 | nil=>simp at h
 | cons x s ih=>
  cases i with
  | zero=>simp [jK]
  | succ i=>
   simp only [List.getD_cons_succ,jK];have:=ih (i:=i) (by simpa using h);omega
theorem wx(s:List Ex):(ju s).length=s.length:=by
 induction s with
 | nil=>simp [ju]
 | cons x s ih=>simp [ju,ih]
theorem Kg{s:List Ex}{i:Nat}(h:i<s.length):(ju s).getD i 0=(s.getD i nil).zz:=by
 induction s generalizing i with
 | nil=>simp at h
 | cons x s ih=>
  cases i with
  | zero=>simp [ju]
  | succ i=>simpa [ju] using ih (i:=i) (by simpa using h)
theorem Zp{s:List Ex}{ps:List Int} : ju s=ps↔s.length=ps.length/\∀ i,i<s.length->(s.getD i nil).zz=ps.getD i 0:=by
 constructor
 ·rintro rfl;exact⟨(wx s).symm,λi hi=>(Kg hi).symm⟩
 ·rintro⟨h1,h2⟩;apply List.ext_getElem
  ·rw [wx,h1]
  ·intro i g1 g2;have g3:i<s.length:=by rwa [wx] at g1
   have:=h2 i g3;rw [<- Kg g3] at this;simpa [List.getD,g1,g2] using this
mutual
theorem zff:∀ x:Ex,thin x->zR x<=size x*2^49
 | mk k r n d s,h=>by
  rw [thin] at h;have:=VV s h.2.2;rw [zR,size,Nat.add_mul];omega
theorem VV:∀ l:List Ex,WI l->jK l<=zJ l*2^49
 | [],_=>by simp [jK]
 | x::l,h=>by
  rw [WI] at h;have h1:=zff x h.1;have h2:=VV l h.2;rw [jK,zJ,Nat.add_mul];omega
end
def errX(x:Ex):Int:=if 500<x.size\/60<x.depth then 4 else if x.zz=0 then 8 else 0
theorem zhh(x:Ex):0<x.depth:=by rw [xf]; omega
theorem jL:∀ x:Ex,x.depth<=x.size:=by
 intro x
 have key:∀ (n:Nat) (x:Ex),x.size<=n->x.depth<=x.size:=by
  intro n
  induction n with
  | zero=>intro x h; have:=size_pos x; omega
  | succ n ih=>
   intro x h;rw [size_eq] at h ⊢;rw [xf]
   have:∀ l:List Ex,zJ l<=n->zD l<=zJ l:=by
    intro l
    induction l with
    | nil=>simp [zD]
    | cons y l il=>
     intro hl;simp only [zJ,zD] at hl ⊢;have:=ih y (by omega);have:=il (by omega);omega
   have:=this x.sub (by omega);omega
 exact key _ x (Nat.le_refl _)
end Ex
end Go.Nov
end
section
namespace Go.Nov
open Go.Sx
def cmpS(s t:L8):Int:=if Op.bytesLess s t then -1 else if s=t then 0 else 1
def cmpI(x y:Int):Int:=if x<y then -1 else if y<x then 1 else 0
def orI:List Int->Int
 | []=>0
 | x::l=>if x=0 then orI l else x
structure Fx where
 name:L8
 date:Int
 value:L8
structure Ch where
 zT:L8
 name:L8
 date:Int
 first:Bool
abbrev Fx.nil:Fx:=⟨[],0,[]⟩
abbrev Ch.nil:Ch:=⟨[],[],0,false⟩
def Fx.cell(f:Fx):Nat->AV
 | 0=>.str f.name
 | 1=>.i f.date
 | 2=>.str f.value
 | _=>.undef
def Ch.cell(c:Ch):Nat->AV
 | 0=>.str c.zT
 | 1=>.str c.name
 | 2=>.i c.date
 | 3=>.bool c.first
 | _=>.undef
def fxG(l:List Fx):Nat->Nat->AV:=λj=>(l.getD j Fx.nil).cell
def chG(l:List Ch):Nat->Nat->AV:=λj=>(l.getD j Ch.nil).cell
def Fx.av(f:Fx):AV:=.agg [.str f.name,.i f.date,.str f.value]
def Ch.av(c:Ch):AV:=.agg [.str c.zT,.str c.name,.i c.date,.bool c.first]
def fxS(l:List Fx):AV:=.sl l.length 3 (fxG l)
def chS(l:List Ch):AV:=.sl l.length 4 (chG l)
def envA(f:List Fx)(c:List Ch):AV:=.agg [fxS f,chS c]
def cmpF(a b:Fx):Int:=if cmpS a.name b.name=0 then cmpI a.date b.date else cmpS a.name b.name
def cmpC(a b:Ch):Int:=if cmpS a.zT b.zT=0 then(if cmpS a.name b.name=0 then cmpI a.date b.date else cmpS a.name b.name) else cmpS a.zT b.zT
end Go.Nov
namespace Go.Nov
def okF(f:Fx):Bool:=zQ f.name&&dayB f.date&&decide (errR f.value=0)
def okC(c:Ch):Bool:=zQ c.zT&&zQ c.name&&dayB c.date
def idxB{α:Type}(p:α->Bool)(l:List α):Int:=if l.findIdx p<l.length then(l.findIdx p:Int) else -1
theorem Ub{α:Type}(p:α->Bool)(l:List α):decide (0<=idxB p l)=l.any p:=by
 unfold idxB;by_cases h:l.findIdx p<l.length
 ·rw [if_pos h]
  have:l.any p=true:=by
   rw [List.any_eq_true];exact⟨_,List.getElem_mem h,List.findIdx_getElem (w:=h)⟩
  rw [this]; simp
 ·rw [if_neg h]
  have:l.any p=false:=by
   rw [List.any_eq_false];intro x hx hpx;exact h (List.findIdx_lt_length_of_exists ⟨x,hx,hpx⟩)
  rw [this]; rfl
theorem Jp{α:Type}{p:α->Bool}{l:List α}{z:α}{i:Nat}(hi:i<l.length)(h:p (l.getD i z)=true)(hb:∀ j,j<i->p (l.getD j z)=false):idxB p l=i:=by
 have hlt:l.findIdx p<l.length:=List.findIdx_lt_length_of_exists ⟨l[i],List.getElem_mem hi,by simpa [List.getD,hi] using h⟩
 have e:l.findIdx p=i:=by
  rcases Nat.lt_trichotomy (l.findIdx p) i with h1 | h1 | h1
  ·have h2:=List.findIdx_getElem (w:=hlt);have h3:=hb _ h1;simp only [List.getD,List.getElem?_eq_getElem hlt,Option.getD_some] at h3;rw [h2] at h3; cases h3
  ·exact h1
  ·have h2:=List.not_of_lt_findIdx h1;simp only [List.getD,List.getElem?_eq_getElem hi,Option.getD_some] at h;exact absurd h (by simpa using h2)
 unfold idxB;rw [if_pos hlt,e]
theorem ua{α:Type}{p:α->Bool}{l:List α}{z:α}(hb:∀ j,j<l.length->p (l.getD j z)=false):idxB p l = -1:=by
 unfold idxB;rw [if_neg];intro h;have h2:=List.findIdx_getElem (w:=h);have h3:=hb _ h;simp only [List.getD,List.getElem?_eq_getElem h,Option.getD_some] at h3;rw [h2] at h3; cases h3
end Go.Nov
namespace Go.Nov
def ordB{α:Type}(c:α->α->Int)(z:α)(l:List α):Bool:=(List.range (l.length - 1)).all λi=>decide (c (l.getD i z) (l.getD (i+1) z)<0)
theorem JD{α:Type}{c:α->α->Int}{z:α}{l:List α}(h:∀ j,j+1<l.length->c (l.getD j z) (l.getD (j+1) z)<0):ordB c z l=true:=by
 simp only [ordB,List.all_eq_true,List.mem_range,decide_eq_true_eq];exactλj hj=>h j (by omega)
theorem Js{α:Type}{c:α->α->Int}{z:α}{l:List α}{j:Nat}(hj:j+1<l.length)(h:¬ c (l.getD j z) (l.getD (j+1) z)<0):ordB c z l=false:=by
 simp only [ordB,List.all_eq_false,List.mem_range];exact⟨j,by omega,by simpa using h⟩
def errE(f:List Fx)(c:List Ch):Int:=if 1000<f.length\/1000<c.length then 4 else if(f.all okF&&c.all okC&&ordB cmpF Fx.nil f&&ordB cmpC Ch.nil c)=true then 0 else 8
end Go.Nov
namespace Go.Nov
theorem zdq{x y:Int} : cmpI x y<0↔x<y:=by
 unfold cmpI;split
 ·rename_i h; exact⟨λ_=>h,λ_=>by decide⟩
 ·rename_i h;split
  ·exact⟨λh2=>by omega,λh2=>absurd h2 h⟩
  ·exact⟨λh2=>by omega,λh2=>absurd h2 h⟩
end Go.Nov
namespace Go.Nov
end Go.Nov
end
section
namespace Go.Nov
open Go.Sx
inductive Con where
 | mk (kind:Int) (src dst name:L8) (x:Ex) (date:Int) (days:List Int) (sub:List Con)
def jU(x:Ex):Bool:=decide (x.kind=0)&&(decide (x.rat=[])&&(decide (x.name=[])&&(decide (x.date=0)&&decide (x.sub.length=0))))
def ky(x:Ex):Nat:=bif jU x then 0 else x.size
def kV(x:Ex):Nat:=bif jU x then 0 else x.depth
def numX(x:Ex):Bool:=decide (x.errX=0)&&decide (x.zz=1)
def truX(x:Ex):Bool:=decide (x.errX=0)&&decide (x.zz=2)
def incB(l:List Int):Bool:=ordB cmpI 0 l
def xX(l:List Int):Bool:=decide (1<=l.length)&&(decide (l.length<=100)&&(l.all dayB&&incB l))
def kD(k:Int)(a b n:L8)(x:Ex)(d:Int)(l:List Int)(m:Nat):Bool:=
 if k=1 then decide (m=0)&&decide (a=[])&&decide (b=[])&&decide (n=[])&&decide (d=0)&&decide (l=[])&&jU x
 else if k=2 then decide (m=0)&&zQ a&&zQ b&&decide (a≠b)&&zQ n&&numX x&&decide (d=0)&&decide (l=[])
 else if k=3 then decide (m=2)&&decide (a=[])&&decide (b=[])&&decide (n=[])&&decide (d=0)&&decide (l=[])&&jU x
 else if k=4 then decide (m=1)&&decide (a=[])&&decide (b=[])&&decide (n=[])&&decide (d=0)&&decide (l=[])&&numX x
 else if k=5 then decide (m=2)&&decide (a=[])&&decide (b=[])&&decide (n=[])&&decide (d=0)&&decide (l=[])&&truX x
 else if k=6 then decide (m=1)&&decide (a=[])&&decide (b=[])&&decide (n=[])&&dayB d&&decide (l=[])&&jU x
 else if k=7 then decide (m=2)&&zQ a&&decide (b=[])&&zQ n&&decide (d=0)&&decide (l=[])&&jU x
 else if k=8 then decide (m=1)&&zQ a&&decide (b=[])&&zQ n&&decide (d=0)&&xX l&&jU x
 else if k=9\/k=10 then decide (m=1)&&decide (a=[])&&decide (b=[])&&decide (n=[])&&decide (d=0)&&xX l&&truX x
 else false
theorem Ex.WO(s:List Ex)(i:Nat):Ex.zD (s.take i)<=Ex.zD s:=by
 induction s generalizing i with
 | nil=>simp [Ex.zD]
 | cons x s ih=>
  cases i with
  | zero=>simp [Ex.zD]
  | succ i=>simp only [List.take_succ_cons,Ex.zD]; have:=ih i; omega
namespace Con
def kind:Con->Int | mk k _ _ _ _ _ _ _=>k
def src:Con->L8 | mk _ a _ _ _ _ _ _=>a
def dst:Con->L8 | mk _ _ b _ _ _ _ _=>b
def name:Con->L8 | mk _ _ _ n _ _ _ _=>n
def x:Con->Ex | mk _ _ _ _ x _ _ _=>x
def date:Con->Int | mk _ _ _ _ _ d _ _=>d
def days:Con->List Int | mk _ _ _ _ _ _ l _=>l
def sub:Con->List Con | mk _ _ _ _ _ _ _ s=>s
abbrev nil:Con:=mk 0 [] [] [] Ex.nil 0 [] []
mutual
def nodes:Con->Nat
 | mk _ _ _ _ _ _ _ s=>1+z9 s
def z9:List Con->Nat
 | []=>0
 | c::l=>nodes c+z9 l
end
mutual
def size:Con->Nat
 | mk _ _ _ _ x _ _ s=>1+ky x+zJ s
def zJ:List Con->Nat
 | []=>0
 | c::l=>size c+zJ l
end
mutual
def depth:Con->Nat
 | mk _ _ _ _ x _ _ s=>1+max (kV x) (zD s)
def zD:List Con->Nat
 | []=>0
 | c::l=>max (depth c) (zD l)
end
mutual
def big:Con->Nat
 | mk _ a b n x _ l s=>1+a.length+b.length+n.length+l.length+x.size+x.zR+bigs s
def bigs:List Con->Nat
 | []=>0
 | c::l=>big c+bigs l
end
mutual
def form:Con->Bool
 | mk k a b n x d l s=>kD k a b n x d l s.length&&xI s
def xI:List Con->Bool
 | []=>true
 | c::l=>form c&&xI l
end
mutual
def thin:Con->Prop
 | mk _ a b n x _ l s=>a.length<=2^48/\b.length<=2^48/\n.length<=2^48/\x.thin/\l.length<=2^48/\s.length<=2^48/\WI s
def WI:List Con->Prop
 | []=>True
 | c::l=>thin c/\WI l
end
theorem vV(c:Con):c.nodes=1+z9 c.sub:=by cases c; rw [nodes]; rfl
theorem size_eq(c:Con):c.size=1+ky c.x+zJ c.sub:=by cases c; rw [size]; rfl
theorem xf(c:Con):c.depth=1+max (kV c.x) (zD c.sub):=by cases c; rw [depth]; rfl
theorem uK(c:Con):c.big=1+c.src.length+c.dst.length+c.name.length+c.days.length+c.x.size+c.x.zR+bigs c.sub:=by cases c; rw [big]; rfl
theorem zpz(c:Con):c.form=(kD c.kind c.src c.dst c.name c.x c.date c.days c.sub.length&&xI c.sub):=by cases c; rw [form]; rfl
theorem size_pos(c:Con):0<c.size:=by rw [size_eq]; omega
theorem KE(c:Con):0<c.nodes:=by rw [vV]; omega
theorem zor(c:Con):0<c.big:=by rw [uK]; omega
section
variable {f:Con->Nat} {F:List Con->Nat}
theorem Jy(h0:F []=0)(h1:∀ c l,F (c::l)=f c+F l):∀ (s:List Con) (i:Nat),i<s.length->F (s.take (i+1))=F (s.take i)+f (s.getD i nil)
 | [],i,h=>by simp at h
 | c::s,0,_=>by simp [h0,h1]
 | c::s,i+1,h=>by
  simp only [List.take_succ_cons,h1,List.getD_cons_succ];rw [Jy h0 h1 s i (by simpa using h)];omega
theorem Je(h0:F []=0)(h1:∀ c l,F (c::l)=f c+F l):∀ (s:List Con) (i:Nat),i<s.length->f (s.getD i nil)<=F s
 | [],i,h=>by simp at h
 | c::s,0,_=>by simp [h1]
 | c::s,i+1,h=>by
  simp only [List.getD_cons_succ,h1];have:=Je h0 h1 s i (by simpa using h);omega
theorem znp(h0:F []=0)(h1:∀ c l,F (c::l)=f c+F l):∀ (s:List Con) (i:Nat),F (s.take i)<=F s
 | [],i=>by simp [h0]
 | c::s,0=>by simp [h0]
 | c::s,i+1=>by
  simp only [List.take_succ_cons,h1];have:=znp h0 h1 s i;omega
end
theorem Q9{s:List Con}{i:Nat}(h:i<s.length):z9 (s.take (i+1))=z9 (s.take i)+(s.getD i nil).nodes:=Jy (by rw [z9]) (λc l=>by rw [z9]) s i h
theorem wT{s:List Con}{i:Nat}(h:i<s.length):(s.getD i nil).nodes<=z9 s:=Je (by rw [z9]) (λc l=>by rw [z9]) s i h
theorem zft(s:List Con)(i:Nat):z9 (s.take i)<=z9 s:=znp (f:=nodes) (by rw [z9]) (λc l=>by rw [z9]) s i
theorem W7{s:List Con}{i:Nat}(h:i<s.length):zJ (s.take (i+1))=zJ (s.take i)+(s.getD i nil).size:=Jy (by rw [zJ]) (λc l=>by rw [zJ]) s i h
theorem qq{s:List Con}{i:Nat}(h:i<s.length):(s.getD i nil).size<=zJ s:=Je (by rw [zJ]) (λc l=>by rw [zJ]) s i h
theorem Wn{s:List Con}{i:Nat}(h:i<s.length):(s.getD i nil).big<=bigs s:=Je (by rw [bigs]) (λc l=>by rw [bigs]) s i h
theorem JP:∀ s:List Con,s.length<=bigs s
 | []=>by simp
 | c::s=>by have:=zor c; have:=JP s; rw [bigs,List.length_cons]; omega
theorem VQ:∀ s:List Con,s.length<=z9 s
 | []=>by simp
 | c::s=>by have:=KE c; have:=VQ s; rw [z9,List.length_cons]; omega
theorem vj:∀ (s:List Con) (i:Nat),i<s.length->zD (s.take (i+1))=max (zD (s.take i)) (s.getD i nil).depth
 | [],i,h=>by simp at h
 | c::s,0,_=>by simp [zD]
 | c::s,i+1,h=>by
  simp only [List.take_succ_cons,zD,List.getD_cons_succ];rw [vj s i (by simpa using h)];omega
theorem Ko:∀ (s:List Con) (i:Nat),zD (s.take i)<=zD s
 | [],i=>by simp [zD]
 | c::s,0=>by simp [zD]
 | c::s,i+1=>by simp only [List.take_succ_cons,zD]; have:=Ko s i; omega
theorem KD:∀ (s:List Con) (i:Nat),i<s.length->(s.getD i nil).form=false->xI s=false
 | [],i,h,_=>by simp at h
 | c::s,0,_,h=>by simp only [List.getD_cons_zero] at h; rw [xI,h,Bool.false_and]
 | c::s,i+1,hl,h=>by
  simp only [List.getD_cons_succ] at h;rw [xI,KD s i (by simpa using hl) h,Bool.and_false]
def errC(c:Con):Int:=if 500<c.size\/60<c.depth then 4 else if c.form=true then 0 else 8
def dayG(l:List Int):Nat->Nat->AV:=λj _=>.i (l.getD j 0)
def dayS(l:List Int):AV:=.sl l.length 1 (dayG l)
def cell(k:Int)(a b n:L8)(x:Ex)(d:Int)(l:List Int)(m:Nat)(g:Nat->Nat->AV):Nat->AV
 | 0=>.int .u8 k
 | 1=>.str a
 | 2=>.str b
 | 3=>.str n
 | 4=>.int .u8 x.kind
 | 5=>.str x.rat
 | 6=>.str x.name
 | 7=>.i x.date
 | 8=>.sl x.sub.length 5 (Ex.exG x.sub)
 | 9=>.i d
 | 10=>.sl l.length 1 (dayG l)
 | 11=>.sl m 12 g
 | _=>.undef
def deep:Con->Nat->Nat->AV
 | mk _ _ _ _ _ _ _ s=>λj=>(s.map λc=>cell c.kind c.src c.dst c.name c.x c.date c.days c.sub.length (deep c)).getD j λ_=>.undef
def conG(s:List Con):Nat->Nat->AV:=λj=>cell (s.getD j nil).kind (s.getD j nil).src (s.getD j nil).dst (s.getD j nil).name (s.getD j nil).x (s.getD j nil).date (s.getD j nil).days (s.getD j nil).sub.length (deep (s.getD j nil))
def conS(s:List Con):AV:=.sl s.length 12 (conG s)
def qK(k:Int)(a b n:L8)(x:Ex)(d:Int)(l:List Int)(s:List Con):List AV:=[.int .u8 k,.str a,.str b,.str n,.int .u8 x.kind,.str x.rat,.str x.name,.i x.date,Ex.exS x.sub,.i d,dayS l,conS s]
def conA(c:Con):AV:=.agg [.int .u8 c.kind,.str c.src,.str c.dst,.str c.name,.int .u8 c.x.kind,.str c.x.rat,.str c.x.name,.i c.x.date,Ex.exS c.x.sub,.i c.date,dayS c.days,conS c.sub]
theorem qj(c:Con):eqG c.sub.length 12 (deep c) (conG c.sub):=by
 intro j o hj ho;cases c with
 | mk k a b n x d l s=>
  rw [deep];change j<s.length at hj;show _=conG s j o;simp [conG,List.getD,hj]
mutual
def all:Con->List Con
 | mk k a b n x d l s=>mk k a b n x d l s::alls s
def alls:List Con->List Con
 | []=>[]
 | c::l=>all c++alls l
end
theorem all_eq(c:Con):c.all=c::alls c.sub:=by cases c; rw [all]; rfl
def ya(c:Con):Bool:=kD c.kind c.src c.dst c.name c.x c.date c.days c.sub.length
mutual
theorem XB:∀ c:Con,c.all.length=c.nodes
 | mk k a b n x d l s=>by rw [all,nodes,List.length_cons,Yc s]; omega
theorem Yc:∀ s:List Con,(alls s).length=z9 s
 | []=>by simp [alls,z9]
 | c::s=>by rw [alls,z9,List.length_append,XB c,Yc s]
end
mutual
theorem Vk:∀ c:Con,c.form=c.all.all ya
 | mk k a b n x d l s=>by rw [all,form,List.all_cons,Ki s]; rfl
theorem Ki:∀ s:List Con,xI s=(alls s).all ya
 | []=>by simp [alls,xI]
 | c::s=>by rw [alls,xI,List.all_append,Vk c,Ki s]
end
def wt(c:Con):Nat:=1+ky c.x
mutual
theorem WC:∀ c:Con,c.size=(c.all.map wt).sum
 | mk k a b n x d l s=>by rw [all,size,List.map_cons,List.sum_cons,V8 s]; rfl
theorem V8:∀ s:List Con,zJ s=((alls s).map wt).sum
 | []=>by simp [alls,zJ]
 | c::s=>by rw [alls,zJ,List.map_append,List.sum_append,WC c,V8 s]
end
mutual
theorem Jn:∀ c:Con,∀ e∈c.all,e.big<=c.big
 | mk k a b n x d l s,e,he=>by
  rw [all] at he;rcases List.mem_cons.1 he with rfl | he
  ·exact Nat.le_refl _
  ·have:=Yb s e he;rw [big]; omega
theorem Yb:∀ s:List Con,∀ e∈alls s,e.big<=bigs s
 | [],e,he=>by simp [alls] at he
 | c::s,e,he=>by
  rw [alls] at he;rw [bigs];rcases List.mem_append.1 he with he | he
  ·have:=Jn c e he; omega
  ·have:=Yb s e he; omega
end
theorem kW(c:Con):c.nodes<=c.size:=by
 rw [<- XB,WC];generalize c.all=l
 induction l with
 | nil=>simp
 | cons a l ih=>rw [List.map_cons,List.sum_cons,List.length_cons]; have:wt a=1+ky a.x:=rfl; omega
theorem Zu(x:Ex):ky x<=x.size:=by unfold ky; cases jU x<;>simp
theorem Kh(x:Ex):kV x<=ky x:=by
 unfold ky kV;cases jU x
 ·exact Ex.jL x
 ·exact Nat.le_refl _
mutual
theorem Y1:∀ c:Con,c.size<=c.big
 | mk k a b n x d l s=>by
  have:=Qd s;have:=Zu x;rw [size,big]; omega
theorem Qd:∀ s:List Con,zJ s<=bigs s
 | []=>by simp [zJ,bigs]
 | c::s=>by rw [zJ,bigs]; have:=Y1 c; have:=Qd s; omega
end
mutual
theorem JW:∀ c:Con,c.depth<=c.size
 | mk k a b n x d l s=>by
  have:=ye s;have:=Kh x;rw [depth,size]; omega
theorem ye:∀ s:List Con,zD s<=zJ s
 | []=>by simp [zD,zJ]
 | c::s=>by rw [zD,zJ]; have:=JW c; have:=ye s; omega
end
theorem zam(s:List Con):zD s<=bigs s:=Nat.le_trans (ye s) (Qd s)
end Con
def Con.zf(c:Con):List AV:=Con.qK c.kind c.src c.dst c.name c.x c.date c.days c.sub
def Con.outD(c:Con)(x d s:AV):AV:=.agg [.int .u8 c.kind,.str c.src,.str c.dst,.str c.name,.int .u8 c.x.kind,.str c.x.rat,.str c.x.name,.i c.x.date,x,.i c.date,d,s]
def Con.conD(c:Con):AV:=c.outD (Ex.exS c.x.sub) (Con.dayS c.days) (.sl c.sub.length 12 c.deep)
def Ex.cellsD(x:Ex):List AV:=[.int .u8 x.kind,.str x.rat,.str x.name,.i x.date,.sl x.sub.length 5 x.deep]
def Con.zq(e:Con):List AV:=[.int .u8 e.kind,.str e.src,.str e.dst,.str e.name,.int .u8 e.x.kind,.str e.x.rat,.str e.x.name,.i e.x.date,.sl e.x.sub.length 5 (Ex.exG e.x.sub),.i e.date,.sl e.days.length 1 (Con.dayG e.days),.sl e.sub.length 12 e.deep]
end Go.Nov
end
section
namespace Go.Nov
def sumS(m:Bool)(x:Nat)(n:Bool)(y:Nat):Bool×Nat:=if m=n then(m,x+y) else if y<=x then(m,x - y) else(n,y - x)
def addI(s t:L8):L8×Int:=if zx s t=0 then wr (sumS (negI s) (numI s) (negI t) (numI t)).1 (sumS (negI s) (numI s) (negI t) (numI t)).2 else([],zx s t)
def subI(s t:L8):L8×Int:=if zx s t=0 then wr (sumS (negI s) (numI s) (!negI t) (numI t)).1 (sumS (negI s) (numI s) (!negI t) (numI t)).2 else([],zx s t)
def mulI(s t:L8):L8×Int:=if zx s t=0 then wr (negI s != negI t) (numI s*numI t) else([],zx s t)
def cmpZ(m:Bool)(x:Nat)(n:Bool)(y:Nat):Int:=if m=true/\n=false then -1 else if n=true/\m=false then 1 else if m=true then cmpN y x else cmpN x y
def kz(s t:L8):Int×Int:=if zx s t=0 then(cmpZ (negI s) (numI s) (negI t) (numI t),0) else(0,zx s t)
theorem QX{d:Nat}(h:d<10):(byt d).toNat=48+d:=by
 unfold byt;rw [UInt8.toNat_ofNat'];omega
theorem Zk{x:Nat}(h:x≠0):txt x=((dec x).map byt).reverse:=if_neg h
theorem ux{x:Nat}(h:x≠0):(txt x).length=(dec x).length:=by rw [Zk h]; simp
theorem zeu{x:Nat}(h:x≠0):allD (txt x):=by
 intro c hc;rw [Zk h] at hc;simp only [List.mem_reverse,List.mem_map] at hc;obtain⟨d,hd,rfl⟩:=hc;have:d<10:=Ten.zl x d hd;rw [QX this];omega
theorem zsn{x:Nat}(h:x≠0):dg (txt x)=dec x:=by
 rw [Zk h,dg,List.map_reverse,List.reverse_reverse,List.map_map]
 conv=>rhs; rw [<- List.map_id (dec x)]
 refine List.map_congr_left λd hd=> ?_
 have:d<10:=Ten.zl x d hd;simp only [Function.comp,QX this,id];omega
theorem zpp{x:Nat}(h:x≠0):numD (txt x)=x:=by
 rw [<- X3,zsn h];exact Ten.zo x
theorem uf{x:Nat}(h:x≠0):(txt x).getD 0 0≠48/\(txt x).getD 0 0≠45:=by
 have hl:=X8 h;have ht:=zei hl;have hlt:=dec_lt x ((dec x).length - 1)
 have e:(txt x).getD 0 0=byt ((dec x).getD ((dec x).length - 1) 0):=by
  rw [Zk h];simp only [List.getD_eq_getElem?_getD];rw [List.getElem?_reverse (by simpa using hl)];simp [List.getElem?_eq_getElem (show(dec x).length - 1<(dec x).length by omega)]
 rw [e];have hb:=QX hlt;constructor
 ·intro h2;rw [h2] at hb;have:(48:UInt8).toNat=48:=rfl;omega
 ·intro h2;rw [h2] at hb;have:(45:UInt8).toNat=45:=rfl;omega
theorem Xc{x:Nat}(h:x≠0):txt x≠[]:=by
 intro h2;have:=ux h;rw [h2] at this;have:=X8 h;simp at *; omega
theorem VY{x:Nat}(h:x≠0)(neg:Bool):parse (sgn neg (txt x))=(neg,txt x):=by
 cases neg with
 | true=>rfl
 | false=>
  simp only [sgn,Bool.false_eq_true,if_false];have h1:=(uf h).2;cases ht:txt x with
  | nil=>exact absurd ht (Xc h)
  | cons c b=>
   rw [ht] at h1;have:c≠45:=h1;simp [parse,this]
theorem YX{x:Nat}(h:x≠0)(neg:Bool):q5 neg (txt x)=true:=by
 have h1:=(uf h).1
 have h2:txt x≠[48]:=by
  intro h2;rw [h2] at h1;exact h1 rfl
 have h3:=Xc h;have h4:(txt x).all isD=true:=zek.2 (zeu h);simp only [List.getD_eq_getElem?_getD] at h1;simp [q5,h3,h2,h1,h4]
theorem QI{neg:Bool}{x:Nat}(h:(wr neg x).2=0):errI (wr neg x).1=0/\numI (wr neg x).1=x/\negI (wr neg x).1=(neg&&decide (x≠0)):=by
 unfold wr at h ⊢;by_cases h0:x=0
 ·subst h0;simp only [if_true];refine⟨rfl,rfl,?_⟩;simp [negI,parse]
 ·rw [if_neg h0] at h ⊢;by_cases h1:1000<(dec x).length
  ·rw [if_pos h1] at h; cases h
  ·rw [if_neg h1];simp only [errI,numI,negI,VY h0,YX h0,if_true];rw [ux h0,if_neg h1];exact⟨rfl,zpp h0,by simp [h0]⟩
theorem XJ(neg:Bool)(x:Nat):(wr neg x).2=0\/wr neg x=([],14):=by
 unfold wr;split
 ·exact .inl rfl
 ·split
  ·exact .inr rfl
  ·exact .inl rfl
theorem zdc(neg:Bool)(b:L8):(sgn neg b).length<=b.length+1:=by
 unfold sgn; split<;>simp
theorem kn(neg:Bool)(x:Nat):(wr neg x).1.length<=1001:=by
 unfold wr;split
 ·simp
 ·rename_i h0;split
  ·simp
  ·rename_i h1;have:=zdc neg (txt x);rw [ux h0] at this;simp only;omega
theorem zk8(s t:L8):(addI s t).1.length<=1001:=by
 unfold addI;split
 ·exact kn _ _
 ·simp
theorem zk4(s t:L8):(subI s t).1.length<=1001:=by
 unfold subI;split
 ·exact kn _ _
 ·simp
theorem Vb(s t:L8):(mulI s t).1.length<=1001:=by
 unfold mulI;split
 ·exact kn _ _
 ·simp
theorem zde(b:Bool)(x:Nat):wr (b&&decide (0<x)) x=wr b x:=by
 unfold wr;by_cases h:x=0
 ·rw [if_pos h,if_pos h]
 ·rw [if_neg h,if_neg h];have:decide (0<x)=true:=decide_eq_true (Nat.pos_of_ne_zero h);rw [this,Bool.and_true]
theorem VR(m:Bool)(x:Nat)(n:Bool):sumS m x n 0=(m,x):=by
 unfold sumS;split
 ·rfl
 ·simp
theorem zfz(m:Bool)(x:Nat)(n:Bool)(y:Nat):sumS m x (n&&decide (0<y)) y=sumS m x n y:=by
 by_cases h:y=0
 ·subst h; rw [VR,VR]
 ·have:decide (0<y)=true:=decide_eq_true (Nat.pos_of_ne_zero h);rw [this,Bool.and_true]
theorem zd6(m:Bool)(x:Nat)(n:Bool)(y:Nat):(sumS m x n y).2<=x+y:=by
 unfold sumS;split
 ·exact Nat.le_refl _
 ·split
  ·simp only; omega
  ·simp only; omega
end Go.Nov
end
section
namespace Go.Nov
def Kk(neg:Bool)(x y:Nat):L8:=
 if y/Nat.gcd x y=1 then(wr neg (x/Nat.gcd x y)).1 else(wr neg (x/Nat.gcd x y)).1++[47]++(wr false (y/Nat.gcd x y)).1
def wq(n d:L8):L8×Int:=if zx n d≠0 then([],zx n d) else if numI d=0 then([],16) else(Kk (negI n != negI d) (numI n) (numI d),0)
def qE(a b:L8):Int:=if errR a=0 then errR b else errR a
def numR(a:L8):L8:=(cutR a).1
def denR(a:L8):L8:=if(cutR a).2.2 then(cutR a).2.1 else [49]
def frac(z w:L8×Int):L8×Int:=if z.2≠0\/w.2≠0 then([],14) else wq z.1 w.1
def zK(a b:L8):Int:=if qE a b≠0 then qE a b else if(mulI (numR a) (denR b)).2≠0\/(mulI (numR b) (denR a)).2≠0 then 14 else 0
def addR(a b:L8):L8×Int:=if zK a b≠0 then([],zK a b) else frac (addI (mulI (numR a) (denR b)).1 (mulI (numR b) (denR a)).1) (mulI (denR a) (denR b))
def subR(a b:L8):L8×Int:=if zK a b≠0 then([],zK a b) else frac (subI (mulI (numR a) (denR b)).1 (mulI (numR b) (denR a)).1) (mulI (denR a) (denR b))
def mulR(a b:L8):L8×Int:=if qE a b≠0 then([],qE a b) else frac (mulI (numR a) (numR b)) (mulI (denR a) (denR b))
def cmpR(a b:L8):Int×Int:=if zK a b≠0 then(0,zK a b) else kz (mulI (numR a) (denR b)).1 (mulI (numR b) (denR a)).1
end Go.Nov
namespace Go.Nov
def dmQ(s t:L8):Nat:=if negI s=true/\0<numI s%numI t then numI s/numI t+1 else numI s/numI t
def dmM(s t:L8):Nat:=if negI s=true/\0<numI s%numI t then numI t - numI s%numI t else numI s%numI t
def dmI(s t:L8):L8×L8×Int:=
 if zx s t≠0 then([],[],zx s t) else if numI t=0 then([],[],16) else((wr (negI s != negI t) (dmQ s t)).1,(wr false (dmM s t)).1,0)
theorem zo1{s:L8}(h:errI s=0):∃ k,k<=1000/\numI s<10^k:=by
 obtain⟨_,h1,_,h2⟩:=yh h;exact⟨_,h2,yU h1⟩
def room(x:Nat):Prop:=(dec x).length<=1000
theorem room_le{x y:Nat}(h:x<=y)(hy:room y):room x:=by
 rcases Nat.lt_or_ge (dec y).length (dec x).length with h1 | h1
 ·have:=Ten.qn h1;omega
 ·exact Nat.le_trans h1 hy
theorem jM{s:L8}(h:errI s=0):room (numI s):=by
 obtain⟨k,h1,h2⟩:=zo1 h;exact Nat.le_trans (xi h2) h1
theorem kO{neg:Bool}{x:Nat}(h:room x):(wr neg x).2=0:=by
 unfold wr;split
 ·rfl
 ·rw [if_neg (by have:(dec x).length<=1000:=h; omega)]
theorem zkm{s t:L8}(hs:errI s=0)(ht:numI t≠0):room (dmQ s t):=by
 have h:=jM hs;unfold dmQ;split
 ·rename_i hc;by_cases h1:numI t=1
  ·rw [h1,Nat.mod_one] at hc; omega
  ·refine room_le ?_ h;have h2:numI s/numI t<=numI s/2:=Nat.div_le_div_left (by omega) (by omega);have h3:numI s≠0:=λh0=>by rw [h0,Nat.zero_mod] at hc; omega
   by_cases h4:numI s=1
   ·have:numI s/numI t=0:=Nat.div_eq_of_lt (by omega);omega
   ·omega
 ·exact room_le (Nat.div_le_self _ _) h
theorem zmz{s t:L8}(ht:errI t=0)(h0:numI t≠0):room (dmM s t):=by
 have h:=jM ht;have hm:=Nat.mod_lt (numI s) (Nat.pos_of_ne_zero h0);unfold dmM;split
 ·exact room_le (Nat.sub_le _ _) h
 ·exact room_le (by omega) h
end Go.Nov
namespace Go.Nov
theorem xj:wr false 1=([49],0):=by
 have h:dec 1=[1]:=by
  show Ten.canon 1=[1];rw [Ten.jh (by decide)];exact congrArg (1 :: ·) Ten.zW
 simp [wr,h,txt,sgn,byt]
theorem zbv{x:Nat}(h:room x):(wr false x).1=[49]↔x=1:=by
 constructor
 ·intro e;have:=(QI (kO (neg:=false) h)).2.1;rw [e] at this;exact this.symm
 ·rintro rfl;rw [xj]
theorem zkt{x:Nat}(h0:x≠0)(h:room x):[45]++(wr false x).1=(wr true x).1:=by
 unfold wr;rw [if_neg h0,if_neg h0,if_neg (by have:(dec x).length<=1000:=h; omega),if_neg (by have:(dec x).length<=1000:=h; omega)];rfl
theorem yi{t:L8}(h:errI t=0):t=[48]↔numI t=0:=by
 constructor
 ·rintro rfl; rfl
 ·intro h0;obtain⟨neg,b,h1,h2,h3,h4,h5,h6⟩:=Jj h;have hb:numD b=0:=by simpa [numI,h2] using h0
  cases b with
  | nil=>exact absurd rfl h5
  | cons c r=>
   have hc:=h4 c (by simp)
   have e:numD (c::r)=(c.toNat - 48)*10^r.length+numD r:=by
    have:=kE [c] r;simp only [List.singleton_append] at this;rw [this];simp [numD]
   rw [e] at hb
   have hc0:c.toNat=48:=by
    rcases Nat.eq_zero_or_pos (c.toNat - 48) with h7 | h7
    ·omega
    ·have:=Nat.mul_pos h7 (Nat.pow_pos (n:=r.length) (show 0<10 by decide));omega
   have hc1:c=48:=UInt8.toNat_inj.1 (by rw [hc0]; rfl);subst hc1
   have hr:r=[]:=by
    cases r with
    | nil=>rfl
    | cons d r=>
     have:=km (neg:=neg) (b:=48::d::r) rfl (by simp);rw [this] at h3; cases h3
   subst hr;cases neg with
   | true=>cases h3
   | false=>simpa [sgn] using h1
theorem YN{s:L8}{b:Bool}{g:Nat}(hs:errI s=0)(h0:g≠0)(hg:room g)(hd:g ∣ numI s):dmI s (wr b g).1=((wr (negI s != b) (numI s/g)).1,[48],0):=by
 obtain⟨h1,h2,h3⟩:=QI (kO (neg:=b) hg);have hb:negI (wr b g).1=b:=by rw [h3]; simp [h0]
 have he:zx s (wr b g).1=0:=zm.2 ⟨hs,h1⟩;have hm:numI s%g=0:=Nat.mod_eq_zero_of_dvd hd;unfold dmI;rw [if_neg (by rw [he]; decide),h2,if_neg h0,hb]
 have hq:dmQ s (wr b g).1=numI s/g:=by
  unfold dmQ;rw [h2,hm,if_neg (by omega)]
 have hr:dmM s (wr b g).1=0:=by
  unfold dmM;rw [h2,hm,if_neg (by omega)]
 rw [hq,hr];rfl
theorem Ut{s t:L8}(ht:errI t=0)(h0:numI t≠0):Nat.gcd (numI s) (numI t)≠0/\room (Nat.gcd (numI s) (numI t)):=by
 have hp:=Nat.pos_of_ne_zero h0;refine⟨λh=> ?_,room_le (Nat.le_of_dvd hp (Nat.gcd_dvd_right _ _)) (jM ht)⟩;have:=Nat.eq_zero_of_gcd_eq_zero_right h;exact h0 this
theorem zha(neg:Bool)(x y:Nat):(Kk neg x y).length<=2003:=by
 unfold Kk;have h1:=kn neg (x/Nat.gcd x y);have h2:=kn false (y/Nat.gcd x y);split
 ·omega
 ·simp only [List.length_append,List.length_cons,List.length_nil]; omega
end Go.Nov
namespace Go.Nov
theorem YB:errI [49]=0:=rfl
theorem qO{a:L8}(h:errR a=0):errI (numR a)=0/\errI (denR a)=0/\negI (denR a)=false/\numI (denR a)≠0:=by
 unfold errR at h;unfold numR denR;cases hc:(cutR a).2.2 with
 | true=>
  rw [hc] at h;simp only [if_true] at h ⊢;split at h
  ·cases h
  ·rename_i h1;simp only [not_or] at h1;split at h
   ·cases h
   ·rename_i h2;simp only [not_or,Classical.not_not] at h2;refine⟨h2.1,h2.2,by simpa using h1.2.2.1,λh0=> ?_⟩;exact h1.2.2.2.1 ((yi h2.2).2 h0)
 | false=>
  rw [hc] at h;simp only [Bool.false_eq_true,if_false] at h ⊢
  have:(cutR a).1=a:=by
   unfold cutR at hc ⊢;split at hc
   ·cases hc
   ·rename_i hn; rw [if_neg hn]
  rw [this];exact⟨h,YB,rfl,by decide⟩
theorem Z9(a:L8):(numR a).length<=a.length:=(Jk a).1
theorem Z7(a:L8):(denR a).length<=a.length+1:=by
 unfold denR;split
 ·exact Nat.le_trans (Jk a).2 (Nat.le_succ _)
 ·simp
theorem k8{s t:L8}(h:zx s t=0):(mulI s t).2=0/\errI (mulI s t).1=0\/mulI s t=([],14):=by
 unfold mulI;rw [if_pos h];exact(XJ _ _).imp (λh=>⟨h,(QI h).1⟩) id
theorem zil{s t:L8}(h:zx s t=0):(addI s t).2=0/\errI (addI s t).1=0\/addI s t=([],14):=by
 unfold addI;rw [if_pos h];exact(XJ _ _).imp (λh=>⟨h,(QI h).1⟩) id
theorem zny{s t:L8}(h:zx s t=0):(subI s t).2=0/\errI (subI s t).1=0\/subI s t=([],14):=by
 unfold subI;rw [if_pos h];exact(XJ _ _).imp (λh=>⟨h,(QI h).1⟩) id
end Go.Nov
namespace Go.Nov
def stp(e:Int)(f:L8->L8->L8×Int)(x y:L8):L8×Int:=if e≠0 then([],e) else f x y
theorem zqi{e:Int}{f:L8->L8->L8×Int}{x y:L8}(h:(f x y).1.length<=1001):(stp e f x y).1.length<=1001:=by
 unfold stp;split
 ·simp
 ·exact h
theorem qy{e:Int}(h:e≠0)(f:L8->L8->L8×Int)(x y:L8):stp e f x y=([],e):=if_pos h
theorem wW(f:L8->L8->L8×Int)(x y:L8):stp 0 f x y=f x y:=if_neg (by simp)
def W9(f:L8->L8->L8×Int)(a b:L8):L8×Int:=
 if zK a b≠0 then([],zK a b) else frac (f (mulI (numR a) (denR b)).1 (mulI (numR b) (denR a)).1) (mulI (denR a) (denR b))
section
variable {a b n m d c:L8} {e:Int} (hp:(e≠0/\qE a b=e)\/(e=0/\errR a=0/\errR b=0/\n=numR a/\m=numR b/\d=denR a/\c=denR b))
include hp
theorem QM{f:L8->L8->L8×Int}(hf:∀ {s t:L8},zx s t=0->(f s t).2=0/\errI (f s t).1=0\/f s t=([],14)){r1 r2 r3 r4 r5:L8×Int}
  (h1:r1=stp e mulI n c) (h2:r2=stp r1.2 mulI m d) (h3:r3=stp r2.2 f r1.1 r2.1) (h4:r4=stp r3.2 mulI d c) (h5:r5=stp r4.2 wq r3.1 r4.1):r5=W9 f a b:=by
 rcases hp with ⟨he,h2e⟩ | ⟨rfl,ha,hb,rfl,rfl,rfl,rfl⟩
 ·have hc:zK a b=e:=by unfold zK; rw [if_pos (by rw [h2e]; exact he)]; exact h2e
  unfold W9;rw [hc,if_pos he];rw [qy he] at h1;subst h1;rw [qy he] at h2;subst h2;rw [qy he] at h3;subst h3;rw [qy he] at h4;subst h4;rw [h5,qy he]
 ·obtain⟨a1,a2,_⟩:=qO ha;obtain⟨b1,b2,_⟩:=qO hb;have he2:qE a b=0:=by unfold qE; rw [if_pos ha]; exact hb
  have e14:(14:Int)≠0:=by decide
  rw [wW] at h1;have hc:zK a b=if(mulI (numR a) (denR b)).2≠0\/(mulI (numR b) (denR a)).2≠0 then 14 else 0:=by unfold zK; rw [if_neg (by rw [he2]; simp)]
  rcases k8 (zm.2 ⟨a1,b2⟩) with ⟨g1,k1⟩ | g1
  ·rw [<- h1] at g1 k1;rw [g1,wW] at h2;rcases k8 (zm.2 ⟨b1,a2⟩) with ⟨g2,k2⟩ | g2
   ·rw [<- h2] at g2 k2;rw [g2,wW] at h3;have hc0:zK a b=0:=by rw [hc,if_neg]; rw [<- h1,<- h2,g1,g2]; simp
    unfold W9;rw [hc0,if_neg (by simp),<- h1,<- h2,<- h3];rcases hf (zm.2 ⟨k1,k2⟩) with ⟨g3,k3⟩ | g3
    ·rw [<- h3] at g3 k3;rw [g3,wW] at h4;unfold frac;rw [<- h4,h5];rcases k8 (zm.2 ⟨a2,b2⟩) with ⟨g4,k4⟩ | g4
     ·rw [<- h4] at g4;rw [g3,g4,if_neg (by simp),wW]
     ·rw [<- h4] at g4;rw [g4,if_pos (by simp),qy e14]
    ·rw [<- h3] at g3;have q4:r4=([],14):=by rw [h4,g3]; exact qy e14 _ _ _
     unfold frac;rw [if_pos (by rw [g3]; simp),h5,q4,qy e14]
   ·rw [<- h2] at g2;have hc0:zK a b=14:=by rw [hc,if_pos]; rw [<- h2,g2]; simp
    unfold W9;rw [hc0,if_pos e14];have q3:r3=([],14):=by rw [h3,g2]; exact qy e14 _ _ _
    have q4:r4=([],14):=by rw [h4,q3]; exact qy e14 _ _ _
    rw [h5,q4,qy e14]
  ·rw [<- h1] at g1;have hc0:zK a b=14:=by rw [hc,if_pos]; rw [<- h1,g1]; simp
   unfold W9;rw [hc0,if_pos e14];have q2:r2=([],14):=by rw [h2,g1]; exact qy e14 _ _ _
   have q3:r3=([],14):=by rw [h3,q2]; exact qy e14 _ _ _
   have q4:r4=([],14):=by rw [h4,q3]; exact qy e14 _ _ _
   rw [h5,q4,qy e14]
theorem zhk{x y z w:L8}{r1 r2 r3:L8×Int}(h1:r1=stp e mulI x y)(h2:r2=stp r1.2 mulI z w)(h3:r3=stp r2.2 wq r1.1 r2.1)
  (hv:errR a=0->errR b=0->zx x y=0/\zx z w=0):r3=if qE a b≠0 then([],qE a b) else frac (mulI x y) (mulI z w):=by
 rcases hp with ⟨he,h2e⟩ | ⟨rfl,ha,hb,_⟩
 ·rw [h2e,if_pos he];rw [qy he] at h1;subst h1;rw [qy he] at h2;subst h2;rw [h3,qy he]
 ·obtain⟨v1,v2⟩:=hv ha hb;have he2:qE a b=0:=by unfold qE; rw [if_pos ha]; exact hb
  have e14:(14:Int)≠0:=by decide
  rw [he2,if_neg (by simp)];rw [wW] at h1;unfold frac;rcases k8 v1 with ⟨g1,_⟩ | g1
  ·rw [<- h1] at g1 ⊢;rw [g1,wW] at h2;rcases k8 v2 with ⟨g2,_⟩ | g2
   ·rw [<- h2] at g2 ⊢;rw [g1,g2,if_neg (by simp),h3,g2,wW]
   ·rw [<- h2] at g2 ⊢;rw [g2,if_pos (by simp),h3,g2,qy e14]
  ·rw [<- h1] at g1 ⊢;have q2:r2=([],14):=by rw [h2,g1]; exact qy e14 _ _ _
   rw [g1,if_pos (by simp),h3,q2,qy e14]
theorem zgk{r1 r2:L8×Int}(h1:r1=stp e mulI n c)(h2:r2=stp r1.2 mulI m d):(if r2.2≠0 then(0,r2.2) else kz r1.1 r2.1)=cmpR a b:=by
 unfold cmpR;rcases hp with ⟨he,h2e⟩ | ⟨rfl,ha,hb,rfl,rfl,rfl,rfl⟩
 ·have hc:zK a b=e:=by unfold zK; rw [if_pos (by rw [h2e]; exact he)]; exact h2e
  rw [qy he] at h1;subst h1;rw [qy he] at h2;subst h2;rw [hc,if_pos he,if_pos he]
 ·obtain⟨a1,a2,_⟩:=qO ha;obtain⟨b1,b2,_⟩:=qO hb;have he2:qE a b=0:=by unfold qE; rw [if_pos ha]; exact hb
  have e14:(14:Int)≠0:=by decide
  have hc:zK a b=if(mulI (numR a) (denR b)).2≠0\/(mulI (numR b) (denR a)).2≠0 then 14 else 0:=by unfold zK; rw [if_neg (by rw [he2]; simp)]
  rw [wW] at h1;rcases k8 (zm.2 ⟨a1,b2⟩) with ⟨g1,k1⟩ | g1
  ·rw [<- h1] at g1;rw [g1,wW] at h2;rcases k8 (zm.2 ⟨b1,a2⟩) with ⟨g2,k2⟩ | g2
   ·rw [<- h2] at g2;have hc0:zK a b=0:=by rw [hc,if_neg]; rw [<- h1,<- h2,g1,g2]; simp
    rw [hc0,if_neg (by rw [g2]; simp),if_neg (by simp),<- h1,<- h2]
   ·rw [<- h2] at g2;have hc0:zK a b=14:=by rw [hc,if_pos]; rw [<- h2,g2]; simp
    rw [hc0,g2,if_pos e14,if_pos e14]
  ·rw [<- h1] at g1;have hc0:zK a b=14:=by rw [hc,if_pos]; rw [<- h1,g1]; simp
   have q2:r2=([],14):=by rw [h2,g1]; exact qy e14 _ _ _
   rw [hc0,q2,if_pos e14,if_pos e14]
end
end Go.Nov
end
section
namespace Go.Nov
open Go.Sx
theorem zjf:∀ s:L8,Op.bytesLess s s=false
 | []=>rfl
 | a::s=>by simp [Op.bytesLess,zjf s]
theorem yT{s t:L8} : cmpS s t=0↔s=t:=by
 unfold cmpS;cases hb:Op.bytesLess s t with
 | true=>
  simp only [if_true];refine⟨λh=>by omega,λh=> ?_⟩;subst h; rw [zjf] at hb; cases hb
 | false=>by_cases h:s=t<;>simp [h]
theorem ze1{x y:Int} : cmpI x y=0↔x=y:=by
 unfold cmpI;split
 ·exact⟨λh=>by omega,λh=>by omega⟩
 ·split
  ·exact⟨λh=>by omega,λh=>by omega⟩
  ·exact⟨λ_=>by omega,λ_=>rfl⟩
theorem zo8{a b:Fx} : cmpF a b=0↔a.name=b.name/\a.date=b.date:=by
 unfold cmpF;by_cases h:cmpS a.name b.name=0
 ·rw [if_pos h,ze1]; exact⟨λh2=>⟨yT.1 h,h2⟩,λh2=>h2.2⟩
 ·rw [if_neg h]; exact⟨λh2=>absurd h2 h,λh2=>absurd (yT.2 h2.1) h⟩
theorem zpl{a b:Ch} : cmpC a b=0↔a.zT=b.zT/\a.name=b.name/\a.date=b.date:=by
 unfold cmpC;by_cases h:cmpS a.zT b.zT=0
 ·rw [if_pos h];have h1:=yT.1 h;by_cases h':cmpS a.name b.name=0
  ·rw [if_pos h',ze1]; exact⟨λh2=>⟨h1,yT.1 h',h2⟩,λh2=>h2.2.2⟩
  ·rw [if_neg h']; exact⟨λh2=>absurd h2 h',λh2=>absurd (yT.2 h2.2.1) h'⟩
 ·rw [if_neg h]; exact⟨λh2=>absurd h2 h,λh2=>absurd (yT.2 h2.1) h⟩
structure OrdK{α:Type}(c:α->α->Int):Prop where
 lt:∀ a b d,c a b<0->c b d<0->c a d<0
 eq:∀ a b d,c a b<0->c b d=0->c a d<0
section
variable {α:Type} {c:α->α->Int} {z x:α}
end
theorem ztc{α:Type}{p:α->Bool}{z:α}{l:List α}(h:∀ j,j<l.length->p (l.getD j z)=true):l.all p=true:=by
 rw [List.all_eq_true];intro x hx;obtain⟨j,hj,rfl⟩:=List.getElem_of_mem hx;have:=h j hj;simpa [List.getD,hj] using this
theorem zp7{α:Type}{p:α->Bool}{z:α}{l:List α}{j:Nat}(hj:j<l.length)(h:p (l.getD j z)=false):l.all p=false:=by
 rw [List.all_eq_false];exact⟨l[j],List.getElem_mem hj,by simpa [List.getD,hj] using h⟩
theorem XY{f:List Fx}{c:List Ch} : errE f c=0↔¬ (1000<f.length\/1000<c.length)/\f.all okF=true/\c.all okC=true/\ordB cmpF Fx.nil f=true/\ordB cmpC Ch.nil c=true:=by
 unfold errE;by_cases hb:1000<f.length\/1000<c.length
 ·rw [if_pos hb]; simp [hb]
 ·rw [if_neg hb];by_cases h:(f.all okF&&c.all okC&&ordB cmpF Fx.nil f&&ordB cmpC Ch.nil c)=true
  ·rw [if_pos h];simp only [Bool.and_eq_true] at h;exact⟨λ_=>⟨hb,h.1.1.1,h.1.1.2,h.1.2,h.2⟩,λ_=>rfl⟩
  ·rw [if_neg h];refine⟨λh2=>by omega,λh2=>absurd ?_ h⟩;simp [h2.2.1,h2.2.2.1,h2.2.2.2.1,h2.2.2.2.2]
def zC(l:List Fx)(a:L8)(d:Int):L8×Bool:=match l.find? λx=>decide (x.name=a)&&decide (x.date=d) with
 | some x=>(x.value,true)
 | none=>([],false)
def qk(l:List Ch)(p n:L8)(d:Int):Bool:=match l.find? λx=>decide (x.zT=p)&&(decide (x.name=n)&&decide (x.date=d)) with
 | some x=>x.first
 | none=>false
theorem zqr{α:Type}{p:α->Bool}{l:List α}{z:α}{i:Nat}(hi:i<l.length)(h:p (l.getD i z)=true)(hb:∀ j,j<i->p (l.getD j z)=false):l.find? p=some (l.getD i z):=by
 induction l generalizing i with
 | nil=>simp at hi
 | cons a l ih=>
  cases i with
  | zero=>simp only [List.getD_cons_zero] at h ⊢; simp [h]
  | succ i=>
   have h0:=hb 0 (by omega);simp only [List.getD_cons_zero,List.getD_cons_succ] at h h0 ⊢;rw [List.find?_cons,h0];exact ih (by simpa using hi) h λj hj=>by have:=hb (j+1) (by omega); simpa using this
end Go.Nov
end
section
namespace Go.Nov
theorem zsz{b:L8}(h:allD b)(hn:b≠[])(hz:b.getD 0 0≠48):numD b≠0/\txt (numD b)=b:=by
 have hd:=zir h;have hl:0<b.length:=List.length_pos_iff.2 hn
 have htl:Ten.tlen (dg b)=(dg b).length:=by
  rcases Nat.lt_or_ge (Ten.tlen (dg b)) (dg b).length with h1 | h1
  ·exfalso;have h2:=Ten.ji (dg b) ((dg b).length - 1) (by omega);rw [xC] at h2
   have e:(dg b).getD (b.length - 1) 0=(b.getD 0 0).toNat - 48:=by
    simp only [dg,List.getD_eq_getElem?_getD];rw [List.getElem?_reverse (by simp; omega)];simp [List.getElem?_eq_getElem hl,show b.length - 1 - (b.length - 1)=0 by omega]
   rw [e] at h2
   have h3:48<=(b.getD 0 0).toNat:=by
    cases b with
    | nil=>exact absurd rfl hn
    | cons c r=>exact(h c (by simp)).1
   apply hz;apply UInt8.toNat_inj.1;show _=48;omega
  ·exact Nat.le_antisymm (Ten.qm _) h1
 have hc:dec (numD b)=dg b:=by
  rw [<- X3];exact Ten.Kn hd htl
 have h0:numD b≠0:=by
  intro h0;rw [h0] at hc;have:dg b=[]:=by rw [<- hc]; exact Ten.zW
  have:=congrArg List.length this;rw [xC,List.length_nil] at this;omega
 refine⟨h0,?_⟩;rw [Zk h0,hc,dg,<- List.map_reverse,List.reverse_reverse,List.map_map]
 conv=>rhs; rw [<- List.map_id b]
 refine List.map_congr_left λc hcm=> ?_
 obtain⟨h1,h2⟩:=h c hcm;apply UInt8.toNat_inj.1;simp only [Function.comp,id];rw [QX (by omega)];omega
theorem zcr{s:L8}(h:errI s=0):wr (negI s) (numI s)=(s,0):=by
 obtain⟨neg,b,h1,h2,h3,h4,h5,h6⟩:=Jj h;have e1:negI s=neg:=by simp [negI,h2]
 have e2:numI s=numD b:=by simp [numI,h2]
 rw [e1,e2];by_cases hz:b.getD 0 0=48
 ·have hb:b=[48]:=by
   cases b with
   | nil=>exact absurd rfl h5
   | cons c r=>
    cases r with
    | nil=>have:c=48:=hz; rw [this]
    | cons d r=>rw [km hz (by simp)] at h3; cases h3
  subst hb;cases neg with
  | true=>cases h3
  | false=>rw [h1]; rfl
 ·obtain⟨g1,g2⟩:=zsz h4 h5 hz;unfold wr;rw [if_neg g1,g2,if_neg,h1];have:=ux g1;rw [g2] at this;omega
def zI(s:L8):Int:=if negI s then -(numI s:Int) else numI s
theorem wQ(s:L8):(zI s).natAbs=numI s:=by unfold zI; split<;>simp
theorem Ya{s:L8}(h:errI s=0):negI s=decide (zI s<0):=by
 unfold zI;cases hn:negI s with
 | false=>simp
 | true=>
  simp only [if_true]
  have:numI s≠0:=by
   intro h0;have:=(yi h).2 h0;rw [this] at hn;cases hn
  exact(decide_eq_true (by omega)).symm
def wz(z:Int):L8×Int:=wr (decide (z<0)) z.natAbs
theorem Jl{s:L8}(h:errI s=0):wz (zI s)=(s,0):=by
 unfold wz;rw [wQ,<- Ya h,zcr h]
theorem zuq{neg:Bool}{x:Nat}(h:(wr neg x).2=0):zI (wr neg x).1=if neg then -(x:Int) else x:=by
 obtain⟨h1,h2,h3⟩:=QI h;unfold zI;rw [h2,h3];by_cases h0:x=0
 ·subst h0; simp
 ·cases neg<;>simp [h0]
theorem xJ{z:Int}(h:(wz z).2=0):zI (wz z).1=z:=by
 unfold wz at h ⊢;rw [zuq h];by_cases hz:z<0
 ·rw [decide_eq_true hz]; simp only [if_true]; omega
 ·rw [decide_eq_false hz]; simp only [Bool.false_eq_true,if_false]; omega
theorem kC{z:Int}(h:(wz z).2=0):errI (wz z).1=0:=(QI h).1
theorem Ud{neg:Bool}{x:Nat} : wr neg x=wz (if neg then -(x:Int) else x):=by
 unfold wz;by_cases h0:x=0
 ·subst h0;cases neg<;>rfl
 ·cases neg with
  | false=>simp only [Bool.false_eq_true,if_false,Int.natAbs_natCast]; rw [decide_eq_false (by omega)]
  | true=>simp only [if_true,Int.natAbs_neg,Int.natAbs_natCast]; rw [decide_eq_true (by omega)]
theorem zk6(m:Bool)(x:Nat)(n:Bool)(y:Nat):(if(sumS m x n y).1 then -((sumS m x n y).2:Int) else(sumS m x n y).2)=(if m then -(x:Int) else x)+(if n then -(y:Int) else y):=by
 unfold sumS;by_cases h:m=n
 ·subst h;rw [if_pos rfl];cases m<;>simp<;>omega
 ·rw [if_neg h];by_cases h2:y<=x
  ·rw [if_pos h2];cases m<;>cases n<;>first | exact absurd rfl h | (simp; omega)
  ·rw [if_neg h2];cases m<;>cases n<;>first | exact absurd rfl h | (simp; omega)
theorem zug{s t:L8}(h:zx s t=0):addI s t=wz (zI s+zI t):=by
 unfold addI;rw [if_pos h,Ud,zk6]; rfl
theorem zuc{s t:L8}(h:zx s t=0):subI s t=wz (zI s - zI t):=by
 unfold subI;rw [if_pos h,Ud,zk6];congr 1;unfold zI;cases negI s<;>cases negI t<;>simp<;>omega
theorem yq{s t:L8}(h:zx s t=0):mulI s t=wz (zI s*zI t):=by
 unfold mulI;rw [if_pos h,Ud];congr 1;unfold zI;cases negI s<;>cases negI t<;>simp [Int.neg_mul,Int.mul_neg]
theorem zt6(m:Bool)(x:Nat)(n:Bool)(y:Nat)(hm:m=true->x≠0)(hn:n=true->y≠0):cmpZ m x n y=cmpI (if m then -(x:Int) else x) (if n then -(y:Int) else y):=by
 unfold cmpZ cmpI cmpN;cases m<;>cases n
 ·simp only [Bool.false_eq_true,false_and,if_false]
  repeat' split
  all_goals first | rfl | omega
 ·have:=hn rfl;simp only [Bool.false_eq_true,false_and,if_false,true_and,and_self,if_true]
  repeat' split
  all_goals first | rfl | omega
 ·have:=hm rfl;simp only [and_self,if_true,Bool.false_eq_true,if_false]
  repeat' split
  all_goals first | rfl | omega
 ·simp only [Bool.true_eq_false,and_false,if_false,if_true]
  repeat' split
  all_goals first | rfl | omega
def qv(a:L8):Rat:=Rat.divInt (zI (numR a)) (zI (denR a))
def qstr(r:Rat):L8:=if r.den=1 then(wz r.num).1 else(wz r.num).1++[47]++(wz r.den).1
def kJ(r:Rat):Prop:=room r.num.natAbs/\room r.den
theorem zmj(neg:Bool)(x:Nat):∀ c∈(wr neg x).1,c≠47:=by
 intro c hc h;subst h;unfold wr at hc;split at hc
 ·simp at hc
 ·rename_i h0;split at hc
  ·simp at hc
  ·have ht:¬ (47:UInt8)∈txt x:=λhm=>by
    have:=(zeu h0 _ hm).1;have e:(47:UInt8).toNat=47:=rfl;omega
   cases neg<;>simp [sgn] at hc<;>exact ht hc
theorem zlf{u v:L8}(h:∀ c∈u,c≠47):cutR (u++[47]++v)=(u,v,true):=by
 have hs:zF (u++[47]++v)=u.length:=by
  refine Yt (by simp) (by simp [List.getD]) λj hj=> ?_
  rw [List.append_assoc];simp only [List.getD,List.getElem?_append_left hj,List.getElem?_eq_getElem hj,Option.getD_some];exact h _ (List.getElem_mem hj)
 rw [QV (by rw [hs]; simp),hs];simp
theorem zge{u:L8}(h:∀ c∈u,c≠47):cutR u=(u,[],false):=by
 have hs:zF u=u.length:=Wl λj hj=>by
  simp only [List.getD,List.getElem?_eq_getElem hj,Option.getD_some];exact h _ (List.getElem_mem hj)
 exact KT (by omega)
theorem Us(z:Int):∀ c∈(wz z).1,c≠47:=zmj _ _
theorem yO{z:Int}(h:room z.natAbs):(wz z).2=0:=kO h
theorem zty:wz 1=([49],0):=xj
theorem uL{r:Rat}(h:kJ r):numR (qstr r)=(wz r.num).1/\denR (qstr r)=(wz (r.den:Int)).1/\(cutR (qstr r)).2.2=decide (r.den≠1):=by
 unfold qstr;by_cases h1:r.den=1
 ·rw [if_pos h1];have:=zge (Us r.num);unfold numR denR;rw [this,h1];exact⟨rfl,by simp only [Bool.false_eq_true,if_false]; exact(congrArg Prod.fst zty).symm,by simp⟩
 ·rw [if_neg h1];have:=zlf (v:=(wz (r.den:Int)).1) (Us r.num);unfold numR denR;rw [this];exact⟨rfl,rfl,by simp [h1]⟩
theorem Jc{r:Rat}(h:kJ r):qv (qstr r)=r:=by
 obtain⟨h1,h2,_⟩:=uL h;unfold qv;rw [h1,h2,xJ (yO h.1),xJ (yO (by rw [Int.natAbs_natCast]; exact h.2)),Rat.divInt_ofNat,Rat.mkRat_self]
theorem yW{r:Rat}(h:kJ r):errR (qstr r)=0:=by
 obtain⟨h1,h2,h3⟩:=uL h;have e1:=kC (yO h.1);have e2:errI (wz (r.den:Int)).1=0:=kC (yO (by rw [Int.natAbs_natCast]; exact h.2));have z1:=xJ (yO h.1);have z2:zI (wz (r.den:Int)).1=r.den:=xJ (yO (by rw [Int.natAbs_natCast]; exact h.2));unfold errR;by_cases hd:r.den=1
 ·rw [h3,hd];simp only [ne_eq,not_true_eq_false,decide_false,Bool.false_eq_true,if_false];unfold qstr;rw [if_pos hd];exact e1
 ·have hc:(cutR (qstr r)).2.2=true:=by rw [h3]; simp [hd]
  have n1:(cutR (qstr r)).1=(wz r.num).1:=h1;have n2:(cutR (qstr r)).2.1=(wz (r.den:Int)).1:=by unfold denR at h2; rw [hc] at h2; exact h2
  rw [hc,if_pos rfl,n1,n2];have hp:=r.den_pos;have hneg:negI (wz (r.den:Int)).1=false:=by rw [Ya e2,z2]; exact decide_eq_false (by omega)
  have hn48:(wz (r.den:Int)).1≠[48]:=λh=>by
   rw [h] at z2;have:zI [48]=0:=rfl;omega
  have hn49:(wz (r.den:Int)).1≠[49]:=λh=>by
   rw [h] at z2;have:zI [49]=1:=rfl;omega
  rw [if_neg (by simp [e1,e2,hneg,hn48,hn49]),if_neg (by simp [e1,e2])]
  have hg:gcdR (wz r.num).1 (wz (r.den:Int)).1=wr false (Nat.gcd r.num.natAbs r.den):=by
   unfold gcdR;rw [if_pos (zm.2 ⟨e1,e2⟩),<- wQ,<- wQ,z1,z2,Int.natAbs_natCast]
  have hr:Nat.gcd r.num.natAbs r.den=1:=r.reduced;rw [hg,hr,xj,if_neg (by simp)]
theorem yH{a:L8}(h:errR a=0):(qv a).num=zI (numR a)/\((qv a).den:Int)=zI (denR a)/\qstr (qv a)=a/\kJ (qv a):=by
 obtain⟨e1,e2,e3,e4⟩:=qO h;have hz:zI (denR a)=numI (denR a):=by unfold zI; rw [e3]; rfl
 have hcop:Nat.gcd (numI (numR a)) (numI (denR a))=1:=by
  unfold errR at h;cases hc:(cutR a).2.2 with
  | true=>
   rw [hc,if_pos rfl] at h;have hd:denR a=(cutR a).2.1:=by unfold denR; rw [hc]; rfl
   rw [hd] at e2 e4 ⊢;unfold numR at e1 ⊢;split at h
   ·cases h
   split at h
   ·cases h
   split at h
   ·cases h
   ·rename_i hg;rw [Classical.not_not] at hg;unfold gcdR at hg;rw [if_pos (zm.2 ⟨e1,e2⟩)] at hg;exact(zbv (Ut e2 e4).2).1 hg
  | false=>
   have:denR a=[49]:=by unfold denR; rw [hc]; rfl
   rw [this];exact Nat.gcd_one_right _
 have hq:qv a=⟨zI (numR a),numI (denR a),e4,by rw [wQ]; exact hcop⟩:=by
  unfold qv;rw [hz,Rat.mk_eq_divInt]
 have hroom:kJ (qv a):=by
  rw [hq];exact⟨by show room (zI (numR a)).natAbs; rw [wQ]; exact jM e1,jM e2⟩
 refine⟨by rw [hq],by rw [hq,hz],?_,hroom⟩;rw [hq];unfold qstr;simp only;rw [<- hz,Jl e1,Jl e2];cases hc:(cutR a).2.2 with
 | true=>
  have hd:denR a=(cutR a).2.1:=by unfold denR; rw [hc]; rfl
  have hn1:numI (denR a)≠1:=by
   intro h1
   have:denR a=[49]:=by
    have:=(zcr e2);rw [e3,h1,xj] at this;exact(congrArg Prod.fst this).symm
   unfold errR at h;rw [hc,if_pos rfl,if_pos (by rw [<- hd,this]; simp)] at h;cases h
  rw [if_neg hn1,hd];simp only [numR];unfold cutR at hc ⊢;split at hc
  ·rename_i hs;rw [if_pos hs];simp only;have h47:=JY hs
   have:a=a.take (zF a)++([a.getD (zF a) 0]++a.drop (zF a+1)):=by
    conv=>lhs; rw [<- List.take_append_drop (zF a) a]
    congr 1;rw [List.drop_eq_getElem_cons hs];simp [List.getD,List.getElem?_eq_getElem hs]
   rw [h47] at this;rw [List.append_assoc];exact this.symm
  ·cases hc
 | false=>
  have hd:denR a=[49]:=by unfold denR; rw [hc]; rfl
  rw [hd];have:numI [49]=1:=rfl;rw [if_pos this];unfold numR;unfold cutR at hc ⊢;split at hc
  ·cases hc
  ·rename_i hs;rw [if_neg hs]
theorem zqx(a b:Int)(hb:b≠0):b.sign*a=if(decide (a<0) != decide (b<0))=true then -(a.natAbs:Int) else a.natAbs:=by
 by_cases h1:a<0
 ·rw [decide_eq_true h1];by_cases h2:b<0
  ·rw [decide_eq_true h2,Int.sign_eq_neg_one_of_neg h2]; simp; omega
  ·rw [decide_eq_false h2,Int.sign_eq_one_of_pos (by omega)]; simp; omega
 ·rw [decide_eq_false h1];by_cases h2:b<0
  ·rw [decide_eq_true h2,Int.sign_eq_neg_one_of_neg h2]; simp; omega
  ·rw [decide_eq_false h2,Int.sign_eq_one_of_pos (by omega)]; simp; omega
theorem zuk{n d:L8}(hn:errI n=0)(hd:errI d=0)(h0:numI d≠0):wq n d=(qstr (Rat.divInt (zI n) (zI d)),0)/\kJ (Rat.divInt (zI n) (zI d)):=by
 have hz0:zI d≠0:=λh=>h0 (by rw [<- wQ,h]; rfl)
 have hg:(zI d).gcd (zI n)=Nat.gcd (numI n) (numI d):=by
  show Nat.gcd _ _=_;rw [wQ,wQ,Nat.gcd_comm]
 have hden:(Rat.divInt (zI n) (zI d)).den=numI d/Nat.gcd (numI n) (numI d):=by
  rw [Rat.den_divInt,if_neg hz0,hg,wQ]
 have hdv:Nat.gcd (numI n) (numI d) ∣ numI n:=Nat.gcd_dvd_left _ _
 have hnum:(Rat.divInt (zI n) (zI d)).num=if(negI n != negI d)=true then -((numI n/Nat.gcd (numI n) (numI d):Nat):Int) else((numI n/Nat.gcd (numI n) (numI d):Nat):Int):=by
  rw [Rat.num_divInt,hg,zqx _ _ hz0,wQ,<- Ya hn,<- Ya hd];split
  ·rw [Int.neg_ediv_of_dvd (Int.natCast_dvd_natCast.2 hdv),Int.natCast_ediv]
  ·rw [Int.natCast_ediv]
 have hroom:kJ (Rat.divInt (zI n) (zI d)):=by
  refine⟨?_,by rw [hden]; exact room_le (Nat.div_le_self _ _) (jM hd)⟩;rw [hnum];have:room (numI n/Nat.gcd (numI n) (numI d)):=room_le (Nat.div_le_self _ _) (jM hn);split
  ·rw [Int.natAbs_neg,Int.natAbs_natCast]; exact this
  ·rw [Int.natAbs_natCast]; exact this
 refine⟨?_,hroom⟩;unfold wq;rw [if_neg (by rw [zm.2 ⟨hn,hd⟩]; simp),if_neg h0];congr 1;unfold Kk qstr;rw [hden,hnum];have e2:(wr false (numI d/Nat.gcd (numI n) (numI d))).1=(wz ((numI d/Nat.gcd (numI n) (numI d):Nat):Int)).1:=by rw [Ud]; rfl
 rw [Ud,e2]
theorem zcj{n d:L8}{e f:Int}{z w:Int}(hw:w≠0)(hz:(n,e)=wz z)(hd:(d,f)=wz w):frac (n,e) (d,f)=([],14)\/(frac (n,e) (d,f)=(qstr (Rat.divInt z w),0)/\kJ (Rat.divInt z w)):=by
 unfold frac;by_cases he:e=0
 ·by_cases hf:f=0
  ·subst he; subst hf;have h1:(wz z).2=0:=by rw [<- hz]
   have h2:(wz w).2=0:=by rw [<- hd]
   have n1:n=(wz z).1:=by rw [<- hz]
   have n2:d=(wz w).1:=by rw [<- hd]
   have z1:=xJ h1;have z2:=xJ h2;have e1:=kC h1;have e2:=kC h2;rw [<- n1] at z1 e1;rw [<- n2] at z2 e2;right;rw [if_neg (by simp)];have:=zuk e1 e2 (λh=>hw (by rw [<- z2]; have:=wQ d; omega));rw [z1,z2] at this;exact this
  ·left; rw [if_pos (.inr hf)]
 ·left; rw [if_pos (.inl he)]
section
variable {a b:L8} (ha:errR a=0) (hb:errR b=0)
include ha hb
theorem K1:errI (numR a)=0/\errI (denR a)=0/\errI (numR b)=0/\errI (denR b)=0/\zI (denR a)≠0/\zI (denR b)≠0/\qE a b=0:=by
 obtain⟨a1,a2,_,a4⟩:=qO ha;obtain⟨b1,b2,_,b4⟩:=qO hb;exact⟨a1,a2,b1,b2,λh=>a4 (by rw [<- wQ,h]; rfl),λh=>b4 (by rw [<- wQ,h]; rfl),by unfold qE; rw [if_pos ha]; exact hb⟩
theorem Zz:zK a b=14\/(zK a b=0/\mulI (numR a) (denR b)=wz (zI (numR a)*zI (denR b))/\mulI (numR b) (denR a)=wz (zI (numR b)*zI (denR a))/\(mulI (numR a) (denR b)).2=0/\(mulI (numR b) (denR a)).2=0):=by
 obtain⟨a1,a2,b1,b2,a4,b4,h2⟩:=K1 ha hb;have m1:=yq (zm.2 ⟨a1,b2⟩);have m2:=yq (zm.2 ⟨b1,a2⟩);unfold zK;rw [if_neg (by rw [h2]; simp)];by_cases h:(mulI (numR a) (denR b)).2≠0\/(mulI (numR b) (denR a)).2≠0
 ·left; rw [if_pos h]
 ·right;rw [if_neg h];simp only [not_or,Classical.not_not] at h;exact⟨rfl,m1,m2,h.1,h.2⟩
theorem zuo:addR a b=([],14)\/(addR a b=(qstr (qv a+qv b),0)/\kJ (qv a+qv b)):=by
 obtain⟨a1,a2,b1,b2,a4,b4,h2⟩:=K1 ha hb;unfold addR;rcases Zz ha hb with h | ⟨h,m1,m2,k1,k2⟩
 ·left; rw [h]; rfl
 ·rw [h,if_neg (by simp)];rw [m1] at k1;rw [m2] at k2;have e1:=kC k1;have e2:=kC k2
  have:=zcj (n:=(addI (mulI (numR a) (denR b)).1 (mulI (numR b) (denR a)).1).1) (e:=(addI (mulI (numR a) (denR b)).1 (mulI (numR b) (denR a)).1).2) (d:=(mulI (denR a) (denR b)).1) (f:=(mulI (denR a) (denR b)).2)
   (z:=zI (numR a)*zI (denR b)+zI (numR b)*zI (denR a)) (w:=zI (denR a)*zI (denR b)) (Int.mul_ne_zero a4 b4) (by rw [m1,m2,zug (zm.2 ⟨e1,e2⟩),xJ k1,xJ k2]) (by rw [yq (zm.2 ⟨a2,b2⟩)])
  unfold qv;rw [Rat.divInt_add_divInt _ _ a4 b4];exact this
theorem zsr:subR a b=([],14)\/(subR a b=(qstr (qv a - qv b),0)/\kJ (qv a - qv b)):=by
 obtain⟨a1,a2,b1,b2,a4,b4,h2⟩:=K1 ha hb;unfold subR;rcases Zz ha hb with h | ⟨h,m1,m2,k1,k2⟩
 ·left; rw [h]; rfl
 ·rw [h,if_neg (by simp)];rw [m1] at k1;rw [m2] at k2;have e1:=kC k1;have e2:=kC k2
  have:=zcj (n:=(subI (mulI (numR a) (denR b)).1 (mulI (numR b) (denR a)).1).1) (e:=(subI (mulI (numR a) (denR b)).1 (mulI (numR b) (denR a)).1).2) (d:=(mulI (denR a) (denR b)).1) (f:=(mulI (denR a) (denR b)).2)
   (z:=zI (numR a)*zI (denR b) - zI (numR b)*zI (denR a)) (w:=zI (denR a)*zI (denR b)) (Int.mul_ne_zero a4 b4) (by rw [m1,m2,zuc (zm.2 ⟨e1,e2⟩),xJ k1,xJ k2]) (by rw [yq (zm.2 ⟨a2,b2⟩)])
  unfold qv;rw [Rat.divInt_sub_divInt _ _ a4 b4];exact this
theorem ztq:mulR a b=([],14)\/(mulR a b=(qstr (qv a*qv b),0)/\kJ (qv a*qv b)):=by
 obtain⟨a1,a2,b1,b2,a4,b4,h2⟩:=K1 ha hb;unfold mulR;rw [h2,if_neg (by simp)]
 have:=zcj (n:=(mulI (numR a) (numR b)).1) (e:=(mulI (numR a) (numR b)).2) (d:=(mulI (denR a) (denR b)).1) (f:=(mulI (denR a) (denR b)).2)
  (z:=zI (numR a)*zI (numR b)) (w:=zI (denR a)*zI (denR b)) (Int.mul_ne_zero a4 b4) (by rw [yq (zm.2 ⟨a1,b1⟩)]) (by rw [yq (zm.2 ⟨a2,b2⟩)])
 unfold qv;rw [Rat.divInt_mul_divInt];exact this
theorem zan:cmpR a b=(0,14)\/cmpR a b=(if qv a<qv b then -1 else if qv b<qv a then 1 else 0,0):=by
 obtain⟨a1,a2,b1,b2,a4,b4,h2⟩:=K1 ha hb;obtain⟨p1,p2,_,_⟩:=yH ha;obtain⟨r1,r2,_,_⟩:=yH hb;unfold cmpR;rcases Zz ha hb with h | ⟨h,m1,m2,k1,k2⟩
 ·left; rw [h]; rfl
 ·right;rw [h,if_neg (by simp)];rw [m1] at k1;rw [m2] at k2;have e1:=kC k1;have e2:=kC k2;rw [m1,m2];unfold kz;rw [if_pos (zm.2 ⟨e1,e2⟩)];congr 1
  have hx:∀ s:L8,errI s=0->negI s=true->numI s≠0:=λs he hn h0=>by
   rw [(yi he).2 h0] at hn; cases hn
  rw [zt6 _ _ _ _ (hx _ e1) (hx _ e2)];show cmpI (zI (wz (zI (numR a)*zI (denR b))).1) (zI (wz (zI (numR b)*zI (denR a))).1)=_;rw [xJ k1,xJ k2,<- p1,<- p2,<- r1,<- r2];unfold cmpI;simp only [Rat.lt_iff]
end
theorem zos{a b:L8}(ha:errR a=0)(hb:errR b=0)(h:(addR a b).2=0):errR (addR a b).1=0/\qv (addR a b).1=qv a+qv b:=by
 rcases zuo ha hb with h1 | ⟨h1,h2⟩
 ·rw [h1] at h; cases h
 ·rw [h1]; exact⟨yW h2,Jc h2⟩
theorem ZJ{a b:L8}(ha:errR a=0)(hb:errR b=0)(h:(subR a b).2=0):errR (subR a b).1=0/\qv (subR a b).1=qv a - qv b:=by
 rcases zsr ha hb with h1 | ⟨h1,h2⟩
 ·rw [h1] at h; cases h
 ·rw [h1]; exact⟨yW h2,Jc h2⟩
theorem ui{a b:L8}(ha:errR a=0)(hb:errR b=0)(h:(mulR a b).2=0):errR (mulR a b).1=0/\qv (mulR a b).1=qv a*qv b:=by
 rcases ztq ha hb with h1 | ⟨h1,h2⟩
 ·rw [h1] at h; cases h
 ·rw [h1]; exact⟨yW h2,Jc h2⟩
end Go.Nov
end
section
namespace Go.Nov
open Go.Sx
structure Ev where
 v:L8
 e:Int
 b:Bool
 g:Int
abbrev Ev.nil:Ev:=⟨[],0,false,0⟩
def jV(k:Int)(a b:L8):L8×Int:=
 if k=7 then(if(cmpR a b).2≠0 then([],(cmpR a b).2) else(if(cmpR a b).1<0 then b else a,0))
 else(if(cmpR b a).2≠0 then([],(cmpR b a).2) else(if(cmpR b a).1<0 then b else a,0))
def opR(k:Int)(a b:L8):L8×Int:=if k=4 then addR a b else if k=5 then subR a b else if k=6 then mulR a b else jV k a b
def fixR(f:List Fx)(a:L8)(d:Int):L8×Int:=if(zC f a d).2=true then((zC f a d).1,0) else([],30)
def xL{α:Type}(z:α)(l0 l1:Ev)(f:L8->L8->α×Int):α×Int:=if l0.e≠0 then(z,l0.e) else if l1.e≠0 then(z,l1.e) else f l0.v l1.v
def valN(f:List Fx)(day k:Int)(r n:L8)(d:Int)(l:List Ev):L8×Int:=
 if k=1 then(r,0) else if k=2 then fixR f n d else if k=3 then fixR f n day
 else if k=9 then(if(l.getD 0 Ev.nil).g≠0 then([],(l.getD 0 Ev.nil).g) else if(l.getD 0 Ev.nil).b then((l.getD 1 Ev.nil).v,(l.getD 1 Ev.nil).e) else((l.getD 2 Ev.nil).v,(l.getD 2 Ev.nil).e))
 else xL [] (l.getD 0 Ev.nil) (l.getD 1 Ev.nil) (opR k)
def Y4(k:Int)(a b:L8):Bool×Int:=if(cmpR a b).2≠0 then(false,(cmpR a b).2) else(if k=11 then decide ((cmpR a b).1<0) else decide ((cmpR a b).1=0),0)
def hldN(k:Int)(l:List Ev):Bool×Int:=
 if 13<=k then(if(l.getD 0 Ev.nil).g≠0 then(false,(l.getD 0 Ev.nil).g) else if k=15 then(!(l.getD 0 Ev.nil).b,0)
  else if(l.getD 0 Ev.nil).b=decide (k=14) then((l.getD 0 Ev.nil).b,0) else((l.getD 1 Ev.nil).b,(l.getD 1 Ev.nil).g))
 else xL false (l.getD 0 Ev.nil) (l.getD 1 Ev.nil) (Y4 k)
def evN(f:List Fx)(day k:Int)(r n:L8)(d:Int)(l:List Ev):Ev:=⟨(valN f day k r n d l).1,(valN f day k r n d l).2,(hldN k l).1,(hldN k l).2⟩
namespace Ex
mutual
def ev(f:List Fx)(day:Int):Ex->Ev
 | mk k r n d s=>evN f day k r n d (evs f day s)
def evs(f:List Fx)(day:Int):List Ex->List Ev
 | []=>[]
 | x::l=>ev f day x::evs f day l
end
theorem qZ{f:List Fx}{day:Int}{s:List Ex}{i:Nat}(h:i<s.length):(evs f day s).getD i Ev.nil=(s.getD i nil).ev f day:=by
 induction s generalizing i with
 | nil=>simp at h
 | cons x s ih=>
  rw [evs];cases i with
  | zero=>rfl
  | succ i=>exact ih (by simpa using h)
theorem VK{x:Ex}(h:x.zz=1):(x.kind=1/\errR x.rat=0)\/x.kind=2\/x.kind=3 \/
  ((4<=x.kind/\x.kind<=8)/\x.sub.length=2/\(x.sub.getD 0 nil).zz=1/\(x.sub.getD 1 nil).zz=1) \/
  (x.kind=9/\x.sub.length=3/\(x.sub.getD 0 nil).zz=2/\(x.sub.getD 1 nil).zz=1/\(x.sub.getD 2 nil).zz=1):=by
 rw [Wr] at h;by_cases hk:j2 x.kind=true
 ·have hk2:(4<=x.kind/\x.kind<=9)\/(11<=x.kind/\x.kind<=15):=by
   by_cases h1:4<=x.kind/\x.kind<=9
   ·exact .inl h1
   ·by_cases h2:11<=x.kind/\x.kind<=15
    ·exact .inr h2
    ·rw [zo2 h1 h2] at hk; cases hk
  have two:∀ {k:Int} {ps:List Int} {w:Int},Zq k=some (ps,w)->kK k x.rat x.name x.date (ju x.sub)=1->w=1/\x.sub.length=ps.length/\∀ i,i<x.sub.length->(x.sub.getD i nil).zz=ps.getD i 0:=by
   intro k ps w hs hn;rw [Qp hs] at hn;split at hn
   ·rename_i hc;exact⟨hn,Zp.1 hc.2⟩
   ·cases hn
  generalize x.kind=k at h hk2 ⊢;have hk3:k=4\/k=5\/k=6\/k=7\/k=8\/k=9\/k=11\/k=12\/k=13\/k=14\/k=15:=by omega
  right; right; right;rcases hk3 with rfl | rfl | rfl | rfl | rfl | rfl | rfl | rfl | rfl | rfl | rfl
  iterate 5
   ·left;obtain⟨_,h2,h3⟩:=two rfl h;exact⟨by decide,h2,h3 0 (by rw [h2]; decide),h3 1 (by rw [h2]; decide)⟩
  ·right;obtain⟨_,h2,h3⟩:=two rfl h;exact⟨rfl,h2,h3 0 (by rw [h2]; decide),h3 1 (by rw [h2]; decide),h3 2 (by rw [h2]; decide)⟩
  all_goals
   obtain⟨h1,_⟩:=two rfl h;cases h1
 ·have hk:j2 x.kind=false:=by simpa using hk
  rw [xn hk] at h;split at h
  ·rename_i hl;simp only [jD,Bool.and_eq_true] at hl;obtain⟨_,hl⟩:=hl;split at hl
   ·rename_i h1;simp only [Bool.and_eq_true,decide_eq_true_eq] at hl;exact .inl ⟨h1,hl.1.1⟩
   ·split at hl
    ·rename_i h2; exact .inr (.inl h2)
    ·split at hl
     ·rename_i h3; exact .inr (.inr (.inl h3))
     ·cases hl
  ·cases h
theorem Yx{x:Ex}(h:x.zz=2):((x.kind=11\/x.kind=12)/\x.sub.length=2/\(x.sub.getD 0 nil).zz=1/\(x.sub.getD 1 nil).zz=1) \/
  ((x.kind=13\/x.kind=14)/\x.sub.length=2/\(x.sub.getD 0 nil).zz=2/\(x.sub.getD 1 nil).zz=2)\/(x.kind=15/\x.sub.length=1/\(x.sub.getD 0 nil).zz=2):=by
 rw [Wr] at h;by_cases hk:j2 x.kind=true
 ·have hk2:(4<=x.kind/\x.kind<=9)\/(11<=x.kind/\x.kind<=15):=by
   by_cases h1:4<=x.kind/\x.kind<=9
   ·exact .inl h1
   ·by_cases h2:11<=x.kind/\x.kind<=15
    ·exact .inr h2
    ·rw [zo2 h1 h2] at hk; cases hk
  have two:∀ {k:Int} {ps:List Int} {w:Int},Zq k=some (ps,w)->kK k x.rat x.name x.date (ju x.sub)=2->w=2/\x.sub.length=ps.length/\∀ i,i<x.sub.length->(x.sub.getD i nil).zz=ps.getD i 0:=by
   intro k ps w hs hn;rw [Qp hs] at hn;split at hn
   ·rename_i hc;exact⟨hn,Zp.1 hc.2⟩
   ·cases hn
  generalize x.kind=k at h hk2 ⊢;have hk3:k=4\/k=5\/k=6\/k=7\/k=8\/k=9\/k=11\/k=12\/k=13\/k=14\/k=15:=by omega
  rcases hk3 with rfl | rfl | rfl | rfl | rfl | rfl | rfl | rfl | rfl | rfl | rfl
  iterate 6
   ·obtain⟨h1,_⟩:=two rfl h;cases h1
  ·obtain⟨_,h2,h3⟩:=two rfl h;exact .inl ⟨.inl rfl,h2,h3 0 (by rw [h2]; decide),h3 1 (by rw [h2]; decide)⟩
  ·obtain⟨_,h2,h3⟩:=two rfl h;exact .inl ⟨.inr rfl,h2,h3 0 (by rw [h2]; decide),h3 1 (by rw [h2]; decide)⟩
  ·obtain⟨_,h2,h3⟩:=two rfl h;exact .inr (.inl ⟨.inl rfl,h2,h3 0 (by rw [h2]; decide),h3 1 (by rw [h2]; decide)⟩)
  ·obtain⟨_,h2,h3⟩:=two rfl h;exact .inr (.inl ⟨.inr rfl,h2,h3 0 (by rw [h2]; decide),h3 1 (by rw [h2]; decide)⟩)
  ·obtain⟨_,h2,h3⟩:=two rfl h;exact .inr (.inr ⟨rfl,h2,h3 0 (by rw [h2]; decide)⟩)
 ·have hk:j2 x.kind=false:=by simpa using hk
  rw [xn hk] at h;split at h<;>cases h
end Ex
theorem zn6{f:List Fx}{a:L8}{d:Int}(h:(zC f a d).2=false):(zC f a d).1=[]:=by
 unfold zC at h ⊢;split
 ·rename_i y hy; rw [hy] at h; cases h
 ·rfl
theorem XM{f:List Fx}(hf:f.all okF=true){a:L8}{d:Int}(h:(fixR f a d).2=0):errR (fixR f a d).1=0:=by
 unfold fixR at h ⊢;split
 ·rename_i h1;unfold zC at h1 ⊢;split at h1
  ·rename_i y hy;have hm:=List.mem_of_find?_eq_some hy;have:=List.all_eq_true.1 hf _ hm;simp only [okF,Bool.and_eq_true,decide_eq_true_eq] at this;exact this.2
  ·cases h1
 ·rename_i h1;rw [if_neg h1] at h;cases h
theorem zkd{k:Int}{a b:L8}(ha:errR a=0)(hb:errR b=0)(h:(jV k a b).2=0):errR (jV k a b).1=0:=by
 unfold jV at h ⊢;split
 ·rename_i h1;rw [if_pos h1] at h;split
  ·rename_i h2; rw [if_pos h2] at h; exact absurd h h2
  ·simp only; split<;>assumption
 ·rename_i h1;rw [if_neg h1] at h;split
  ·rename_i h2; rw [if_pos h2] at h; exact absurd h h2
  ·simp only; split<;>assumption
theorem zua{k:Int}{a b:L8}(ha:errR a=0)(hb:errR b=0)(h:(opR k a b).2=0):errR (opR k a b).1=0:=by
 unfold opR at h ⊢;split
 ·rename_i h1; rw [if_pos h1] at h; exact(zos ha hb h).1
 ·rename_i h1;rw [if_neg h1] at h;split
  ·rename_i h2; rw [if_pos h2] at h; exact(ZJ ha hb h).1
  ·rename_i h2;rw [if_neg h2] at h;split
   ·rename_i h3; rw [if_pos h3] at h; exact(ui ha hb h).1
   ·rename_i h3;rw [if_neg h3] at h;exact zkd ha hb h
theorem j0{a:L8}(h:errR a=0):a.length<=2003:=by
 have h1:=(yH h).2.2.1;rw [<- h1];unfold qstr wz;have g1:=kn (decide ((qv a).num<0)) (qv a).num.natAbs;have g2:=kn (decide (((qv a).den:Int)<0)) ((qv a).den:Int).natAbs;split
 ·omega
 ·simp only [List.length_append,List.length_cons,List.length_nil];omega
theorem Ex.ZK{f:List Fx}(hf:f.all okF=true)(day:Int):∀ x:Ex,x.zz=1->(x.ev f day).e=0->errR (x.ev f day).v=0
 | .mk k r n d s,hs,he=>by
  have hc:=Ex.VK hs;simp only [Ex.kind,Ex.rat,Ex.sub] at hc;rw [Ex.ev] at he ⊢;simp only [evN] at he ⊢;unfold valN at he ⊢;rcases hc with ⟨rfl,h1⟩ | rfl | rfl | ⟨⟨h1,h2⟩,h3,h4,h5⟩ | ⟨rfl,h3,h4,h5,h6⟩
  ·simpa using h1
  ·simp only [show ¬ (2:Int)=1 by decide,if_false,if_true] at he ⊢;exact XM hf he
  ·simp only [show ¬ (3:Int)=1 by decide,show ¬ (3:Int)=2 by decide,if_false,if_true] at he ⊢;exact XM hf he
  ·rw [if_neg (by omega),if_neg (by omega),if_neg (by omega),if_neg (by omega)] at he ⊢;rw [Ex.qZ (by omega),Ex.qZ (by omega)] at he ⊢;unfold xL at he ⊢;have w0:s.getD 0 Ex.nil∈s:=by simp [List.getD,List.getElem?_eq_getElem (show 0<s.length by omega)]
   have w1:s.getD 1 Ex.nil∈s:=by simp [List.getD,List.getElem?_eq_getElem (show 1<s.length by omega)]
   split
   ·rename_i g; rw [if_pos g] at he; exact absurd he g
   ·rename_i g;rw [if_neg g] at he;split
    ·rename_i g2; rw [if_pos g2] at he; exact absurd he g2
    ·rename_i g2;rw [if_neg g2] at he;rw [Classical.not_not] at g g2;exact zua (Ex.ZK hf day _ h4 g) (Ex.ZK hf day _ h5 g2) he
  ·simp only [show ¬ (9:Int)=1 by decide,show ¬ (9:Int)=2 by decide,show ¬ (9:Int)=3 by decide,if_false,if_true] at he ⊢;rw [Ex.qZ (by omega),Ex.qZ (by omega),Ex.qZ (by omega)] at he ⊢;have w1:s.getD 1 Ex.nil∈s:=by simp [List.getD,List.getElem?_eq_getElem (show 1<s.length by omega)]
   have w2:s.getD 2 Ex.nil∈s:=by simp [List.getD,List.getElem?_eq_getElem (show 2<s.length by omega)]
   split
   ·rename_i g; rw [if_pos g] at he; exact absurd he g
   ·rename_i g;rw [if_neg g] at he;split
    ·rename_i g2; rw [if_pos g2] at he; exact Ex.ZK hf day _ h5 he
    ·rename_i g2; rw [if_neg g2] at he; exact Ex.ZK hf day _ h6 he
termination_by x=>x.size
decreasing_by
 all_goals
  rw [Ex.size];have a0:=Ex.qq (s:=s) (i:=0);have a1:=Ex.qq (s:=s) (i:=1);have a2:=Ex.qq (s:=s) (i:=2)
  first
  | (have:=a0 (by omega); omega)
  | (have:=a1 (by omega); omega)
  | (have:=a2 (by omega); omega)
theorem zh7{a b:L8}(ha:errR a=0)(hb:errR b=0):zK b a=zK a b:=by
 have h1:qE a b=0:=by unfold qE; rw [if_pos ha]; exact hb
 have h2:qE b a=0:=by unfold qE; rw [if_pos hb]; exact ha
 unfold zK;have n0:¬ (0:Int)≠0:=by simp
 rw [h1,h2,if_neg n0,if_neg n0];by_cases h:(mulI (numR a) (denR b)).2≠0\/(mulI (numR b) (denR a)).2≠0
 ·rw [if_pos h,if_pos h.symm]
 ·rw [if_neg h,if_neg λh2=>h h2.symm]
theorem zic{a b:L8}(ha:errR a=0)(hb:errR b=0):(cmpR b a).2=(cmpR a b).2/\((cmpR b a).1<0↔0<(cmpR a b).1):=by
 have hs:=zh7 ha hb;rcases zan ha hb with h1 | h1
 ·have hc:zK a b≠0:=λh0=>by
   have:cmpR a b=kz (mulI (numR a) (denR b)).1 (mulI (numR b) (denR a)).1:=by unfold cmpR; rw [h0]; rfl
   rcases Zz ha hb with h | ⟨_,m1,m2,k1,k2⟩
   ·rw [h] at h0; cases h0
   ·rw [m1] at k1; rw [m2] at k2;rw [this,m1,m2] at h1;unfold kz at h1;rw [if_pos (zm.2 ⟨kC k1,kC k2⟩)] at h1;exact absurd (show(0:Int)=14 from congrArg Prod.snd h1) (by decide)
  have:cmpR b a=(0,zK b a):=by unfold cmpR; rw [if_pos (by rw [hs]; exact hc)]
  have h2:cmpR a b=(0,zK a b):=by unfold cmpR; rw [if_pos hc]
  rw [this,h2,hs];exact⟨rfl,Iff.rfl⟩
 ·rcases zan hb ha with h2 | h2
  ·have hc:zK a b=0:=by
    by_cases h0:zK a b=0
    ·exact h0
    ·have:cmpR a b=(0,zK a b):=by unfold cmpR; rw [if_pos h0]
     rw [this] at h1;exact absurd (congrArg Prod.snd h1) h0
   rcases Zz hb ha with h | ⟨_,m1,m2,k1,k2⟩
   ·rw [hs,hc] at h; cases h
   ·rw [m1] at k1; rw [m2] at k2;unfold cmpR at h2;rw [hs,hc,if_neg (by simp),m1,m2] at h2;unfold kz at h2;rw [if_pos (zm.2 ⟨kC k1,kC k2⟩)] at h2;exact absurd (show(0:Int)=14 from congrArg Prod.snd h2) (by decide)
  ·rw [h1,h2];refine⟨rfl,?_⟩;simp only;by_cases g1:qv a<qv b
   ·have g2:¬ qv b<qv a:=λg=>(Rat.lt_iff_le_and_not_ge.1 g1).2 (Rat.le_of_lt g)
    rw [if_pos g1,if_neg g2,if_pos g1]; decide
   ·rw [if_neg g1,if_neg g1];by_cases g2:qv b<qv a
    ·rw [if_pos g2,if_pos g2]; decide
    ·rw [if_neg g2,if_neg g2]
end Go.Nov
end
section
namespace Go.Nov
def askE(x:Ex)(want day:Int)(f:List Fx)(c:List Ch):Int:=if x.errX≠0 then x.errX else if x.zz≠want then 32 else if errE f c≠0 then errE f c else if dayB day then 0 else 2
def jP(x:Ex)(day:Int)(f:List Fx)(c:List Ch):L8×Int:=if askE x 1 day f c≠0 then([],askE x 1 day f c) else if(x.ev f day).e≠0 then([],(x.ev f day).e) else((x.ev f day).v,0)
def xV(x:Ex)(day:Int)(f:List Fx)(c:List Ch):Bool×Int:=if askE x 2 day f c≠0 then(false,askE x 2 day f c) else if(x.ev f day).g≠0 then(false,(x.ev f day).g) else((x.ev f day).b,0)
theorem zv7{x:Ex}{want day:Int}{f:List Fx}{c:List Ch}(h:x.errX≠0):askE x want day f c=x.errX:=by unfold askE; rw [if_pos h]
theorem zvd{x:Ex}{want day:Int}{f:List Fx}{c:List Ch}(h:x.errX=0)(h2:¬ x.zz=want):askE x want day f c=32:=by unfold askE; rw [if_neg (by rw [h]; simp),if_pos h2]
theorem zrr{x:Ex}{want day:Int}{f:List Fx}{c:List Ch}(h:x.errX=0)(h2:x.zz=want):askE x want day f c=if errE f c=0 then(if dayB day=true then 0 else 2) else errE f c:=by
 unfold askE;rw [if_neg (by rw [h]; simp),if_neg (by rw [h2]; simp)];by_cases g:errE f c=0
 ·rw [if_pos g,if_neg (by rw [g]; simp)]
 ·rw [if_neg g,if_pos g]
theorem WN{x:Ex}{want day:Int}{f:List Fx}{c:List Ch}(h:askE x want day f c=0):x.errX=0/\x.zz=want/\errE f c=0/\dayB day=true:=by
 unfold askE at h;split at h
 ·rename_i g; exact absurd h g
 ·rename_i g1;split at h
  ·cases h
  ·rename_i g2;split at h
   ·rename_i g; exact absurd h g
   ·rename_i g3;split at h
    ·rename_i g4;exact⟨Classical.not_not.1 g1,Classical.not_not.1 g2,Classical.not_not.1 g3,g4⟩
    ·cases h
end Go.Nov
end
section
namespace Go.Nov
open Go.Sx
structure Fl where
 date:Int
 src:L8
 dst:L8
 ccy:L8
 amt:L8
def Fl.nil:Fl:=⟨0,[],[],[],[]⟩
def Fl.cell(f:Fl):Nat->AV
 | 0=>.i f.date
 | 1=>.str f.src
 | 2=>.str f.dst
 | 3=>.str f.ccy
 | 4=>.str f.amt
 | _=>.undef
def flG(l:List Fl):Nat->Nat->AV:=λj=>(l.getD j Fl.nil).cell
def flS(l:List Fl):AV:=.sl l.length 5 (flG l)
def Fl.av(f:Fl):AV:=.agg [.i f.date,.str f.src,.str f.dst,.str f.ccy,.str f.amt]
def payF(d:Int)(a b n r:L8):List Fl:=if r=[48] then [] else if r.getD 0 0=45 then [⟨d,b,a,n,r.drop 1⟩] else [⟨d,a,b,n,r⟩]
def firstM(is:Int->Except Int Bool)(day fin:Int):List Int->Except Int Int
 | []=>.ok fin
 | d::l=>if fin<=d then .ok fin else if day<=d then(match is d with
  | .error e=>.error e
  | .ok true=>.ok d
  | .ok false=>firstM is day fin l) else firstM is day fin l
def js(k:L8):List Fl->Except Int (List Fl)
 | []=>.ok []
 | f::l=>if(mulR f.amt k).2≠0 then .error (mulR f.amt k).2 else match js k l with
  | .error e=>.error e
  | .ok m=>.ok (payF f.date f.src f.dst f.ccy (mulR f.amt k).1++m)
def valM(x:Ex)(d:Int)(f:List Fx)(c:List Ch):Except Int (L8):=if(jP x d f c).2=0 then .ok (jP x d f c).1 else .error (jP x d f c).2
def holM(x:Ex)(d:Int)(f:List Fx)(c:List Ch):Except Int Bool:=if(xV x d f c).2=0 then .ok (xV x d f c).1 else .error (xV x d f c).2
def andM{α β:Type}(x:Except Int α)(k:α->Except Int β):Except Int β:=match x with
 | .error e=>.error e
 | .ok a=>k a
mutual
def flM(f:List Fx)(c:List Ch):Con->Int->Int->Except Int (List Fl)
 | .mk k a b n x d l s=>λday fin=>
  if fin<=day then .ok []
  else if k=2 then andM (valM x day f c) λr=>.ok (payF day a b n r)
  else if k=3 then andM ((flMs f c s).getD 0 (λ_ _=>.ok []) day fin) λu=>andM ((flMs f c s).getD 1 (λ_ _=>.ok []) day fin) λv=>.ok (u++v)
  else if k=4 then andM (valM x day f c) λr=>andM ((flMs f c s).getD 0 (λ_ _=>.ok []) day fin) λu=>js r u
  else if k=5 then andM (holM x day f c) λt=>(flMs f c s).getD (if t=true then 0 else 1) (λ_ _=>.ok []) day fin
  else if k=6 then(if day<=d then(flMs f c s).getD 0 (λ_ _=>.ok []) d fin else .ok [])
  else if k=7 then(flMs f c s).getD (if qk c a n day=true then 0 else 1) (λ_ _=>.ok []) day fin
  else if k=8 then andM (firstM (λt=>.ok (qk c a n t)) day fin l) λt=>(flMs f c s).getD 0 (λ_ _=>.ok []) t fin
  else if k=9 then andM (firstM (λt=>holM x t f c) day fin l) λt=>(flMs f c s).getD 0 (λ_ _=>.ok []) day t
  else if k=10 then andM (firstM (λt=>holM x t f c) day fin l) λt=>(flMs f c s).getD 0 (λ_ _=>.ok []) t fin
  else .ok []
def flMs(f:List Fx)(c:List Ch):List Con->List (Int->Int->Except Int (List Fl))
 | []=>[]
 | e::s=>flM f c e::flMs f c s
end
theorem Ye(f:List Fx)(c:List Ch):∀ (s:List Con) (i:Nat),i<s.length->(flMs f c s).getD i (λ_ _=>.ok [])=flM f c (s.getD i Con.nil)
 | [],_,h=>by simp at h
 | e::s,0,_=>by rw [flMs]; rfl
 | e::s,i+1,h=>by rw [flMs,List.getD_cons_succ,List.getD_cons_succ]; exact Ye f c s i (by simpa using h)
def insF(x:Fl):List Fl->List Fl
 | []=>[x]
 | y::l=>if y.date<=x.date then y::insF x l else x::y::l
def ordM(l:List Fl):List Fl:=l.foldl (λm x=>insF x m) []
def befM(c:Con)(day fin:Int)(f:List Fx)(h:List Ch):List Fl×Int:=
 if c.errC≠0 then([],c.errC) else if errE f h≠0 then([],errE f h) else if day<0\/99999<day\/fin<0\/100000<fin then([],2) else match flM f h c day fin with
  | .error e=>([],e)
  | .ok l=>(ordM l,0)
def j3(c:Con)(day:Int)(f:List Fx)(h:List Ch):List Fl×Int:=befM c day 100000 f h
def jE(l:List Fl):Prop:=l.Pairwise λx y=>x.date<=y.date
def onF(d:Int)(l:List Fl):List Fl:=l.filter λy=>decide (y.date=d)
theorem qp(d:Int)(x:Fl)(l:List Fl):onF d (x::l)=if x.date=d then x::onF d l else onF d l:=by
 unfold onF; rw [List.filter_cons]; by_cases h:x.date=d<;>simp [h]
theorem zdg(d:Int)(l m:List Fl):onF d (l++m)=onF d l++onF d m:=by unfold onF; rw [List.filter_append]
theorem UK{d:Int}{l:List Fl}(h:∀ y∈l,d<y.date):onF d l=[]:=by
 unfold onF;rw [List.filter_eq_nil_iff];intro y hy;have:=h y hy;simp; omega
theorem Kj:∀ {l m:List Fl},jE l->jE m->(∀ d,onF d l=onF d m)->l=m
 | [],[],_,_,_=>rfl
 | [],y::m,_,_,h=>by have:=h y.date; rw [qp,if_pos rfl] at this; cases this
 | x::l,[],_,_,h=>by have:=h x.date; rw [qp,if_pos rfl] at this; cases this
 | x::l,y::m,hl,hm,h=>by
  unfold jE at hl hm;rw [List.pairwise_cons] at hl hm;have mem:∀ {z:Fl} {n:List Fl},z∈onF z.date n->z∈n:=λhz=>(List.mem_filter.1 hz).1
  have h1:y.date<=x.date:=by
   have:x∈onF x.date (y::m):=by rw [<- h,qp,if_pos rfl]; simp
   rcases List.mem_cons.1 (mem this) with e | e
   ·rw [e]; exact Int.le_refl _
   ·exact hm.1 x e
  have h2:x.date<=y.date:=by
   have:y∈onF y.date (x::l):=by rw [h,qp,if_pos rfl]; simp
   rcases List.mem_cons.1 (mem this) with e | e
   ·rw [e]; exact Int.le_refl _
   ·exact hl.1 y e
  have h3:y.date=x.date:=by omega
  have h4:=h x.date;rw [qp,qp,if_pos rfl,if_pos h3] at h4;have h5:x=y:=(List.cons.inj h4).1;subst h5;congr 1;refine Kj hl.2 hm.2 λd=> ?_
  have:=h d;rw [qp,qp] at this;split at this
  ·exact(List.cons.inj this).2
  ·exact this
theorem zew(x z:Fl):∀ l:List Fl,z∈insF x l↔z=x\/z∈l
 | []=>by simp [insF]
 | y::l=>by
  rw [insF];split
  ·rw [List.mem_cons,zew x z l,List.mem_cons];exact⟨λh=>by rcases h with h | h | h<;>simp [h],λh=>by rcases h with h | h | h<;>simp [h]⟩
  ·simp
theorem UQ(x:Fl):∀ {l:List Fl},jE l->jE (insF x l)
 | [],_=>by unfold jE; simp [insF]
 | y::l,h=>by
  unfold jE at h;rw [List.pairwise_cons] at h;rw [insF];split
  ·rename_i hle;unfold jE;rw [List.pairwise_cons];refine⟨λz hz=> ?_,UQ x h.2⟩;rcases(zew x z l).1 hz with e | e
   ·rw [e]; exact hle
   ·exact h.1 z e
  ·rename_i hlt;unfold jE;rw [List.pairwise_cons,List.pairwise_cons];refine⟨λz hz=> ?_,h⟩;rcases List.mem_cons.1 hz with e | e
   ·rw [e]; omega
   ·have:=h.1 z e; omega
theorem zm8(x:Fl)(d:Int):∀ {l:List Fl},jE l->onF d (insF x l)=onF d l++onF d [x]
 | [],_=>by rw [insF]; rfl
 | y::l,h=>by
  have h0:=h;unfold jE at h;rw [List.pairwise_cons] at h;rw [insF];split
  ·rw [qp,qp,zm8 x d h.2];split<;>simp
  ·rename_i hlt;rw [qp d x];by_cases hx:x.date=d
   ·have hn:onF d (y::l)=[]:=UK λz hz=>by
     rcases List.mem_cons.1 hz with e | e
     ·rw [e]; omega
     ·have:=h.1 z e; omega
    rw [if_pos hx,hn,qp,if_pos hx]; rfl
   ·rw [if_neg hx,qp d x,if_neg hx];show _=_++[];rw [List.append_nil]
theorem XH:∀ (l m:List Fl),jE m->jE (l.foldl (λm x=>insF x m) m)/\∀ d,onF d (l.foldl (λm x=>insF x m) m)=onF d m++onF d l
 | [],m,h=>⟨h,λd=>by show onF d m=onF d m++[]; rw [List.append_nil]⟩
 | x::l,m,h=>by
  obtain⟨h1,h2⟩:=XH l (insF x m) (UQ x h);refine⟨h1,λd=> ?_⟩;rw [List.foldl_cons,h2,zm8 x d h,List.append_assoc,<- zdg]; rfl
theorem zjo(l:List Fl):jE (ordM l):=(XH l [] List.Pairwise.nil).1
theorem ztk(d:Int)(l:List Fl):onF d (ordM l)=onF d l:=by
 have:=(XH l [] List.Pairwise.nil).2 d;simpa [ordM,onF] using this
def qx:Nat->List Fl->List Fl->List Fl
 | n+1,x::a,y::b=>if y.date<x.date then y::qx n (x::a) b else x::qx n a (y::b)
 | _,a,b=>a++b
theorem uw(n:Nat)(a:List Fl):qx n a []=a:=by cases n<;>cases a<;>simp [qx]
theorem xx(n:Nat)(b:List Fl):qx n [] b=b:=by cases n<;>simp [qx]
theorem yS(z:Fl):∀ (n:Nat) (a b:List Fl),z∈qx n a b↔z∈a\/z∈b
 | 0,a,b=>by simp [qx]
 | n+1,[],b=>by rw [xx]; simp
 | n+1,x::a,[]=>by rw [uw]; simp
 | n+1,x::a,y::b=>by
  rw [qx];split
  ·rw [List.mem_cons,yS z n (x::a) b,List.mem_cons (l:=b)];exact⟨λh=>by rcases h with h | h | h<;>simp [h],λh=>by rcases h with h | h | h<;>simp [h]⟩
  ·rw [List.mem_cons,yS z n a (y::b),List.mem_cons (l:=a)];exact⟨λh=>by rcases h with h | h | h<;>simp [h],λh=>by rcases h with (h | h) | h<;>simp [h]⟩
theorem Qm:∀ (n:Nat) (a b:List Fl),a.length+b.length<=n->jE a->jE b->jE (qx n a b)/\∀ d,onF d (qx n a b)=onF d a++onF d b
 | n,[],b,_,_,hb=>by rw [xx]; exact⟨hb,λd=>rfl⟩
 | n,x::a,[],_,ha,_=>by rw [uw]; exact⟨ha,λd=>by show _=_++[]; rw [List.append_nil]⟩
 | 0,x::a,y::b,h,_,_=>by simp at h
 | n+1,x::a,y::b,h,ha,hb=>by
  have ha':=ha;have hb':=hb;unfold jE at ha' hb';rw [List.pairwise_cons] at ha' hb';simp only [List.length_cons] at h;rw [qx];split
  ·rename_i hlt;obtain⟨h1,h2⟩:=Qm n (x::a) b (by simp only [List.length_cons]; omega) ha hb'.2;refine⟨?_,λd=> ?_⟩
   ·unfold jE;rw [List.pairwise_cons];refine⟨λz hz=> ?_,h1⟩;rcases(yS z n _ _).1 hz with e | e
    ·rcases List.mem_cons.1 e with e | e
     ·rw [e]; omega
     ·have:=ha'.1 z e; omega
    ·exact hb'.1 z e
   ·rw [qp,h2,qp d y b];by_cases hy:y.date=d
    ·have hn:onF d (x::a)=[]:=UK λz hz=>by
      rcases List.mem_cons.1 hz with e | e
      ·rw [e]; omega
      ·have:=ha'.1 z e; omega
     rw [if_pos hy,if_pos hy,hn]; rfl
    ·rw [if_neg hy,if_neg hy]
  ·rename_i hge;obtain⟨h1,h2⟩:=Qm n a (y::b) (by simp only [List.length_cons]; omega) ha'.2 hb;refine⟨?_,λd=> ?_⟩
   ·unfold jE;rw [List.pairwise_cons];refine⟨λz hz=> ?_,h1⟩;rcases(yS z n _ _).1 hz with e | e
    ·exact ha'.1 z e
    ·rcases List.mem_cons.1 e with e | e
     ·rw [e]; omega
     ·have:=hb'.1 z e; omega
   ·rw [qp,h2,qp d x a];split<;>simp
def ordP:Nat->List Fl->List Fl
 | 0,l=>l
 | n+1,l=>if l.length<2 then l else qx l.length (ordP n (l.take (l.length/2))) (ordP n (l.drop (l.length/2)))
theorem ZD:∀ (n:Nat) (l:List Fl),l.length<=n->jE (ordP n l)/\(∀ d,onF d (ordP n l)=onF d l)/\(ordP n l).length=l.length
 | 0,l,h=>by
  obtain rfl:l=[]:=List.length_eq_zero_iff.1 (by omega);exact⟨List.Pairwise.nil,λd=>rfl,rfl⟩
 | n+1,l,h=>by
  rw [ordP];split
  ·rename_i h2;refine⟨?_,λd=>rfl,rfl⟩
   match l,h2 with
   | [],_=>exact List.Pairwise.nil
   | [x],_=>unfold jE; simp
  ·have e1:(l.take (l.length/2)).length<=n:=by rw [List.length_take]; omega
   have e2:(l.drop (l.length/2)).length<=n:=by rw [List.length_drop]; omega
   obtain⟨a1,a2,a3⟩:=ZD n _ e1;obtain⟨b1,b2,b3⟩:=ZD n _ e2
   have hlen:(ordP n (l.take (l.length/2))).length+(ordP n (l.drop (l.length/2))).length=l.length:=by
    rw [a3,b3,List.length_take,List.length_drop]; omega
   obtain⟨c1,c2⟩:=Qm l.length _ _ (by omega) a1 b1;refine⟨c1,λd=> ?_,?_⟩
   ·rw [c2,a2,b2,<- zdg,List.take_append_drop]
   ·rw [Q7,hlen]
where
 Q7:∀ {n:Nat} {a b:List Fl},(qx n a b).length=a.length+b.length
  | 0,a,b=>by simp [qx]
  | n+1,[],b=>by rw [xx]; simp
  | n+1,x::a,[]=>by rw [uw]; simp
  | n+1,x::a,y::b=>by
   rw [qx];split
   ·rw [List.length_cons,Q7]; simp; omega
   ·rw [List.length_cons,Q7]; simp; omega
theorem ZB{n:Nat}{l:List Fl}(h:l.length<=n):ordP n l=ordM l:=by
 obtain⟨h1,h2,_⟩:=ZD n l h;exact Kj h1 (zjo l) λd=>by rw [h2,ztk]
end Go.Nov
end
section
namespace Go.Sx
variable [Stat]
section
variable {own own' O:Nat->Prop} {w w':World} {σ Z':List SE} {P:Program} {fn:Func} {Xp:List PanicEntry->Prop}
def upA0(d k:Nat):AV->AV->Prop
 | .nils,.osl i _ off n=>(d<=i/\i<d+k)/\off=0/\n=0
 | a,b=>a=b
def upL0(d k:Nat):List AV->List AV->Prop
 | [],[]=>True
 | a::l,b::m=>upA0 d k a b/\upL0 d k l m
 | _,_=>False
def upA1(d k:Nat):AV->AV->Prop
 | .agg l,.agg m=>upL0 d k l m
 | a,b=>upA0 d k a b
def upL1(d k:Nat):List AV->List AV->Prop
 | [],[]=>True
 | a::l,b::m=>upA1 d k a b/\upL1 d k l m
 | _,_=>False
def upA2(d k:Nat):AV->AV->Prop
 | .tup l,.tup m=>upL1 d k l m
 | a,b=>upA1 d k a b
def vn(k:Nat):List SE:=List.replicate k ⟨none,0⟩
theorem QL.mono{g:Nat}{vals:Array Value}{R R':Value->World->Prop}(hR:∀ v w',R v w'->R' v w')(h:QL P g vals w R):QL P g vals w R':=by
 rcases h with ⟨h1,h2⟩ | ⟨v,w',h1,h2⟩
 ·exact .inl ⟨h1,h2.mono λe w' ⟨v,he,hv⟩=>⟨v,he,hR v w' hv⟩⟩
 ·exact .inr ⟨v,w',h1,hR v w' h2⟩
theorem vQ{k i:Nat}{e:SE}(h:(σ++vn k)[i]?=some e):(i<σ.length/\σ[i]?=some e)\/(σ.length<=i/\e=⟨none,0⟩):=by
 rw [List.getElem?_append] at h;split at h
 ·rename_i hi; exact .inl ⟨hi,h⟩
 ·rename_i hi;right;refine⟨by omega,?_⟩;simp only [vn,List.getElem?_replicate] at h;split at h
  ·cases h; rfl
  ·cases h
theorem Za{k b:Nat}(h:Mine (σ++vn k) b):Mine σ b:=by
 obtain⟨e,he,ad,h1,h2⟩:=h;rcases List.mem_append.1 he with he | he
 ·exact⟨e,he,ad,h1,h2⟩
 ·have:=List.eq_of_mem_replicate he;subst this;cases h1
theorem ur{k b:Nat}(h:Own O (σ++vn k) b):Own O σ b:=by
 rcases h with h | h
 ·exact .inl h
 ·exact .inr (Za h)
theorem xG(K:List Nat)(w:World)(σ:List SE)(k:Nat):Hold K w σ w (σ++vn k):=λi e he _=>by
 have hi:=(List.getElem?_eq_some_iff.1 he).1;exact⟨by rw [List.getElem?_append_left hi]; exact he,λad _ cs el h=>⟨cs,el,h,rfl⟩⟩
theorem KH{k:Nat}(hx:Ext own w own' w){a b:AV}{v:Value}(hu:upA0 σ.length k a b)(ha:Rep own w a σ v):Rep own' w b (σ++vn k) v:=by
 unfold upA0 at hu;split at hu
 ·obtain⟨⟨h1,h2⟩,rfl,rfl⟩:=hu;rename_i i sz _ _;simp only [Rep] at ha ⊢;refine⟨⟨none,0⟩,?_,by simp,none,0,ha,Nat.le_refl _,.inl rfl⟩;rw [List.getElem?_append_right h1,vn,List.getElem?_replicate,if_pos (by omega)]
 ·subst hu;exact zY (K:=[]) hx (xG [] w σ k) _ _ (qT _) ha
theorem J3{k:Nat}(hx:Ext own w own' w):∀ {l m:List AV} {vs:List Value},upL0 σ.length k l m->RepL own w l σ vs->RepL own' w m (σ++vn k) vs
 | [],[],vs,_,h=>by simpa [RepL] using h
 | a::l,b::m,vs,hl,h=>by
  simp only [RepL] at h ⊢;obtain⟨v,r,hv,h1,h2⟩:=h;exact⟨v,r,hv,KH hx hl.1 h1,J3 hx hl.2 h2⟩
 | [],_::_,_,hl,_=>hl.elim
 | _::_,[],_,hl,_=>hl.elim
theorem V7{k:Nat}(hx:Ext own w own' w){a b:AV}{v:Value}(hu:upA1 σ.length k a b)(ha:Rep own w a σ v):Rep own' w b (σ++vn k) v:=by
 unfold upA1 at hu;split at hu
 ·simp only [Rep] at ha ⊢;obtain⟨vs,hv,hr⟩:=ha;exact⟨vs,hv,J3 hx hu hr⟩
 ·exact KH hx hu ha
theorem J6{k:Nat}(hx:Ext own w own' w):∀ {l m:List AV} {vs:List Value},upL1 σ.length k l m->RepL own w l σ vs->RepL own' w m (σ++vn k) vs
 | [],[],vs,_,h=>by simpa [RepL] using h
 | a::l,b::m,vs,hl,h=>by
  simp only [RepL] at h ⊢;obtain⟨v,r,hv,h1,h2⟩:=h;exact⟨v,r,hv,V7 hx hl.1 h1,J6 hx hl.2 h2⟩
 | [],_::_,_,hl,_=>hl.elim
 | _::_,[],_,hl,_=>hl.elim
theorem Kv{k:Nat}(hx:Ext own w own' w){a b:AV}{v:Value}(hu:upA2 σ.length k a b)(ha:Rep own w a σ v):Rep own' w b (σ++vn k) v:=by
 unfold upA2 at hu;split at hu
 ·simp only [Rep] at ha ⊢;obtain⟨vs,hv,hr⟩:=ha;exact⟨vs,hv,J6 hx hu hr⟩
 ·exact V7 hx hu ha
def Kx(szs:List (Nat×(Nat->Nat->AV))):Heap:=szs.map λs=>.arr 0 s.1 s.2
theorem zds(hx:Ext own w own' w){hs:Heap}(hh:HRep own w σ hs)(szs:List (Nat×(Nat->Nat->AV))):HRep own' w (σ++vn szs.length) (hs++Kx szs):=by
 have hl:=hh.len;refine⟨by simp [vn,Kx,hl],λi j e f a b he hf ha hb hij=> ?_,λi e a he ha=> ?_,λi e b he hb=> ?_⟩
 ·rcases vQ he with ⟨_,he⟩ | ⟨_,rfl⟩
  ·rcases vQ hf with ⟨_,hf⟩ | ⟨_,rfl⟩
   ·exact hh.inj i j e f a b he hf ha hb hij
   ·cases hb
  ·cases ha
 ·rcases vQ he with ⟨_,he⟩ | ⟨_,rfl⟩
  ·exact hh.lt i e a he ha
  ·cases ha
 ·rcases vQ he with ⟨hi,he⟩ | ⟨hi,rfl⟩
  ·rw [List.getElem?_append_left (by omega)] at hb;have:=jm (K:=[]) hx (xG [] w σ szs.length) (hh.blk i e b he hb) (λ_ _=>rfl)
   rwa [jy] at this
  ·rw [List.getElem?_append_right (by omega)] at hb;simp only [Kx,List.getElem?_map] at hb;cases hz:szs[i - hs.length]? with
   | none=>simp [hz] at hb
   | some s=>
    simp only [hz,Option.map_some,Option.some.injEq] at hb;subst hb;exact⟨rfl,.inl rfl⟩
def upQ(Q:AV×Heap->Prop)(p:AV×Heap):Prop:=Q p\/∃ (r:AV) (szs:List (Nat×(Nat->Nat->AV))),upA2 p.2.length szs.length p.1 r/\Q (r,p.2++Kx szs)
theorem jC.up{g:Nat}{c:Ctr}{args:List AV}{hc:Heap}{Q:AV×Heap->Prop}(h:jC P g c args hc (upQ Q)):jC P g c args hc Q:=by
 intro O w σ vals hg hh hr;refine QL.mono ?_ (h O w σ vals hg hh hr);rintro v w' ⟨r,hs,Z',hq,h1,h2,h3,h4,h5,h6⟩;rcases hq with hq | ⟨r',szs,hu,hq⟩
 ·exact⟨r,hs,Z',hq,h1,h2,h3,h4,h5,h6⟩
 ·have hx:Ext (λb=>Own O Z' b\/(c.fresh=true/\b<w.heap.size)) w' (λb=>Own O (Z'++vn szs.length) b\/(c.fresh=true/\b<w.heap.size)) w':=
   ⟨rfl,rfl,rfl,Nat.le_refl _,λ_ _ _=>rfl,λb hb=>.inl (hb.imp ur id)⟩
  have hl:hs.length=Z'.length:=h2.len.symm;refine⟨r',hs++Kx szs,Z'++vn szs.length,hq,Kv hx (by rw [<- hl]; exact hu) h1,zds hx h2 szs,⟨h3.old,λi e ad he had=> ?_,h3.stat.own λb hb=>ur hb⟩,by simp; omega,h5.Xx (xG [] w' Z' _),?_⟩
  ·rcases vQ he with ⟨_,he⟩ | ⟨_,rfl⟩
   ·exact h3.dis i e ad he had
   ·cases had
  ·exact⟨h6.os,h6.tape,h6.output,h6.size,h6.keep,λb hb=>h6.grow b (Za hb)⟩
theorem Yh{X R:Type}{fresh:Bool}{inp:X->List AV}{pre:X->Prop}{post:X->R->Prop}{out:X->R->AV×Heap}{g:Nat}{c:Code}(hf:P.funcs[g]?=some fn)(hb:fn.body=some c) (hn:(fn.name == "runtime.NumGoroutine")=false)
  (H:∀ x,pre x->∀ (O:Nat->Prop) (w0:World) (Q:AV×Heap->Prop),(∀ r,post x r->Q (out x r)) ->
   zc P fn O 0 w0 [] (λ_ _ _=>False) (RetR (ctrP fresh inp pre post out) 0 (upQ Q)) [.code c] (entry fn (inp x))):zd P g (ctrP fresh inp pre post out):=by
 intro args hc Q hq _;simp only [ctrP] at hq;split at hq
 ·obtain⟨x,⟨h1,h4⟩,h5,h6⟩:=hq;refine jC.le h1 (jC.up (fn_k hf hb hn (λh=>rfl) λO w0 I0 hl=> ?_));have h0:I0=[]:=List.length_eq_zero_iff.1 (by simpa using hl);subst h0;exact H x h4 O w0 Q h6
 ·exact hq.elim
variable {pin:Nat} {w0:World} {I0:List SE} {a:Act}
theorem RetR.outs{ctr:Ctr}{Q:AV×Heap->Prop}{rs:List AV}{h:Heap}{r:AV}{hs:Heap}(L:List Nat)(hnd:jS L=true)(hlt:(L.all λi=>decide (i<h.length))=true)(hq:Q (r,hs))(hn:ctr.fresh=true->new2 h L (resV rs)/\∀ i∈L,newB (h.getD i .dead))
  (he:eqA2 (exp2 h L (resV rs)) r) (hb:eqH (expH h L) hs) (hl:hs.length=L.length):RetR ctr 0 Q rs h:=
 ⟨L,hnd,λi hi=>by have:=List.all_eq_true.1 hlt i hi; simpa using this,by simp,hn,r,hs,qQ he,.inl hb,hl,hq⟩
theorem RetR.keep{ctr:Ctr}{m:Nat}{Q:AV×Heap->Prop}{rs:List AV}{h:Heap}{r:AV}{hs:Heap}(L:List Nat)(hnd:jS L=true)(hlt:(L.all λi=>decide (i<h.length))=true)(hj:∀ j,j<m->L[j]?=some j)(hf:ctr.fresh=false)(hq:Q (r,hs))
  (he:eqA2 (exp2 h L (resV rs)) r) (hb:eqH (expH h L) hs) (hl:hs.length=L.length):RetR ctr m Q rs h:=
 ⟨L,hnd,λi hi=>by have:=List.all_eq_true.1 hlt i hi; simpa using this,hj,(λhh=>absurd hh (by rw [hf]; decide)),r,hs,qQ he,.inl hb,hl,hq⟩
end
end Go.Sx
end
section
namespace Go.Sx
variable [Stat]
variable {P:Program} {fn:Func} {Xp:List PanicEntry->Prop}
theorem zc.weak{M:Option Nat}{O:Nat->Prop}{pin:Nat}{w0:World}{I0:List SE}{Hs:Nat->KV->Heap->Prop}{R:List AV->Heap->Prop}{k:List Item}{kv:KV}{h:Heap}{S:KV}{H:Heap}(hle:LeK pin fn.ntmps kv h S H)
  (hs:zN Xp M P fn O pin w0 I0 Hs R k (mk fn.ntmps S H)):zN Xp M P fn O pin w0 I0 Hs R k (mk fn.ntmps kv h):=Safe.le hle.le hs
end Go.Sx
end
section
namespace Go.Sx
variable [Stat]
def Z8(T:TypeId)(e:Int):List PanicEntry:=[{ v:=.iface T (.agg #[.i e]),recovered:=false }]
def okM{α:Type} : Except Int α->Bool
 | .ok _=>true
 | .error _=>false
def getM{α:Type}(d:α):Except Int α->α
 | .ok a=>a
 | .error _=>d
def ctrS{X:Type}(inp:X->List AV)(hin:X->Heap)(pre:X->Prop)(ok:X->Bool)(out:X->AV×Heap):Ctr where
 fresh:=false
 spec args hc:=.ex (λx=>eqL args (inp x)/\eqH hc (hin x)/\hc.length=(hin x).length/\pre x) λx=>.ite (ok x) (.leaf (out x)) (.leaf (.bot,hin x))
theorem yB{Xp:List PanicEntry->Prop}{P:Program}{fn:Func}{X:Type}{inp:X->List AV}{hin:X->Heap}{pre:X->Prop}{ok:X->Bool}{out:X->AV×Heap}{g:Nat}{c:Code}(hf:P.funcs[g]?=some fn)(hb:fn.body=some c) (hn:(fn.name == "runtime.NumGoroutine")=false)
  (H:∀ x,pre x->∀ (O:Nat->Prop) (w0:World) (I0:List SE) (Q:AV×Heap->Prop),I0.length=(hin x).length->(ok x=true->Q (out x)) ->
   za8 Xp P fn O (hin x).length w0 I0 (λ_ _ _=>False) (RetR (ctrS inp hin pre ok out) (hin x).length Q) [.code c] (wL fn (inp x) (hin x))):z8 Xp P g (ctrS inp hin pre ok out):=by
 intro args hc Q hq _;obtain⟨x,⟨h1,h2,h3,h4⟩,h5,h6⟩:=hq;refine qL.le h1 (qL.leH h2 h3 (zis hf hb hn (λh=>by cases h) λO w0 I0 hl=> ?_));exact H x h4 O w0 I0 Q hl h5
theorem qL.up{P:Program}{Xp:List PanicEntry->Prop}{g:Nat}{c:Ctr}{args:List AV}{hc:Heap}{Q:AV×Heap->Prop}(h:qL Xp P g c args hc (upQ Q)):qL Xp P g c args hc Q:=by
 intro O w σ vals hg hh hr;refine qF.map (λ_ h=>h) ?_ (h O w σ vals hg hh hr);rintro v w' ⟨r,hs,Z',hq,h1,h2,h3,h4,h5,h6⟩;rcases hq with hq | ⟨r',szs,hu,hq⟩
 ·exact⟨r,hs,Z',hq,h1,h2,h3,h4,h5,h6⟩
 ·have hx:Ext (λb=>Own O Z' b\/(c.fresh=true/\b<w.heap.size)) w' (λb=>Own O (Z'++vn szs.length) b\/(c.fresh=true/\b<w.heap.size)) w':=
   ⟨rfl,rfl,rfl,Nat.le_refl _,λ_ _ _=>rfl,λb hb=>.inl (hb.imp ur id)⟩
  have hl:hs.length=Z'.length:=h2.len.symm;refine⟨r',hs++Kx szs,Z'++vn szs.length,hq,Kv hx (by rw [<- hl]; exact hu) h1,zds hx h2 szs,⟨h3.old,λi e ad he had=> ?_,h3.stat.own λb hb=>ur hb⟩,by simp; omega,h5.Xx (xG [] w' Z' _),?_⟩
  ·rcases vQ he with ⟨_,he⟩ | ⟨_,rfl⟩
   ·exact h3.dis i e ad he had
   ·cases had
  ·exact⟨h6.os,h6.tape,h6.output,h6.size,h6.keep,λb hb=>h6.grow b (Za hb)⟩
theorem zin{Xp:List PanicEntry->Prop}{P:Program}{fn:Func}{X:Type}{inp:X->List AV}{hin:X->Heap}{pre:X->Prop}{ok:X->Bool}{out:X->AV×Heap}{g:Nat}{c:Code}(hf:P.funcs[g]?=some fn)(hb:fn.body=some c) (hn:(fn.name == "runtime.NumGoroutine")=false)
  (H:∀ x,pre x->∀ (O:Nat->Prop) (w0:World) (I0:List SE) (Q:AV×Heap->Prop),I0.length=(hin x).length->(ok x=true->Q (out x)) ->
   za8 Xp P fn O (hin x).length w0 I0 (λ_ _ _=>False) (RetR (ctrS inp hin pre ok out) (hin x).length (upQ Q)) [.code c] (wL fn (inp x) (hin x))):z8 Xp P g (ctrS inp hin pre ok out):=by
 intro args hc Q hq _;obtain⟨x,⟨h1,h2,h3,h4⟩,h5,h6⟩:=hq;refine qL.le h1 (qL.leH h2 h3 (qL.up (zis hf hb hn (λh=>by cases h) λO w0 I0 hl=> ?_)));exact H x h4 O w0 I0 Q hl h5
theorem z8.zpq{Xp:List PanicEntry->Prop}{P:Program}{X:Type}{inp:X->List AV}{pre:X->Prop}{ok:X->Bool}{out:X->AV×Heap}{out':X->AV}{g:Nat}(h:z8 Xp P g (ctrS inp (λ_=>[]) pre ok out))
  (he:∀ x,LeA (exp2 (out x).2 [] (out x).1) (out' x)):z8 Xp P g (ctrS inp (λ_=>[]) pre ok λx=>(out' x,[])):=by
 intro args hc Q hq _;obtain⟨x,⟨h1,h2,h3,h4⟩,h5,h6⟩:=hq;have h0:hc=[]:=List.length_eq_zero_iff.1 h3;subst h0;have k:=h args [] (λp=>(ok x=true/\p=out x)\/p=(.bot,[])) ⟨x,⟨h1,h2,h3,h4⟩,λho=>.inl ⟨ho,rfl⟩,λho=>.inr rfl⟩ (λh=>by cases h);intro O w σ vals hg hh hr;have hZ:σ=[]:=List.length_eq_zero_iff.1 (by simpa using hh.len);subst hZ;refine qF.map (λ_ h=>h) ?_ (k O w [] vals hg hh hr);rintro v w' ⟨a,hs,Z',hq,g1,g2,g3,g4,g5,g6⟩;rcases hq with ⟨ho,e⟩ | e
 ·have ea:a=(out x).1:=by rw [<- e]
  have eh:hs=(out x).2:=by rw [<- e]
  have sub:∀ b,Own O Z' b->(Own O Z' b\/((ctrS inp (λ_=>[]) pre ok out).fresh=true/\b<w.heap.size)):=λb hb=>.inl hb
  have XX:Exp O w' Z' hs [] [] (λb=>Own O [] b\/((ctrS inp (λ_=>[]) pre ok λx=>(out' x,([]:Heap))).fresh=true/\b<w.heap.size)):=
   ⟨g3,⟨g2.len,g2.inj,g2.lt,λi e b he hb=>WQ sub (g2.blk i e b he hb)⟩,rfl,by simp,λj=>by simp,λb hb=>by
    rcases hb with hb | ⟨hb,_⟩
    ·exact .inl hb
    ·cases hb⟩
  have hin':∀ b,(Own O [] b\/((ctrS inp (λ_=>[]) pre ok λx=>(out' x,([]:Heap))).fresh=true/\b<w.heap.size))->Own O Z' b:=λb hb=>by
   rcases hb with (hb | ⟨e,he,_⟩) | ⟨hb,_⟩
   ·exact .inl hb
   ·simp at he
   ·cases hb
  refine⟨out' x,[],[],h5 ho,he x _ _ _ _ ?_,⟨rfl,λi j e f a b he=>by simp at he,λi e a he=>by simp at he,λi e b he=>by simp at he⟩,⟨g3.old,λi e ad he=>by simp at he,g3.stat.own λb hb=>by
   rcases hb with hb | ⟨e,he,_⟩
   ·exact .inl hb
   ·simp at he⟩,Nat.le_refl _,λi e he=>by simp at he,⟨g6.os,g6.tape,g6.output,g6.size,λb hb hno=>g6.keep b hb hno,λb hb=>by obtain⟨_,he,_⟩:=hb; simp at he⟩⟩
  rw [<- ea,<- eh];exact Zd XX (.inl hin') (wu sub g1)
 ·cases e;exact g1.elim
theorem YP{P:Program}{g:Nat}{fn:Func}{c:Code}(hf:P.funcs[g]?=some fn)(hb:fn.body=some c) (hn:(fn.name == "runtime.NumGoroutine")=false) {T:TypeId} {Xp:List PanicEntry->Prop} {X:Type} (av:X->AV) (val:X->Value)
  (hav:∀ x own w σ v,Rep own w (av x) σ v↔v=val x)
  (W:∀ x e w,Calls P g #[val x,.i e] w λen w'=>w'=w/\((e=0/\en = .returned (val x))\/(e≠0/\en = .panicked [{ v:=.iface T (.agg #[.i e]),recovered:=false }]))) :
  z8 Xp P g (ctrS (λ(x:X×Int)=>[av x.1,.i x.2]) (λ_=>[]) (λx=>x.2≠0->Xp (Z8 T x.2)) (λx=>decide (x.2=0)) (λx=>(av x.1,[]))):=by
 intro args hc Q hq _;obtain⟨⟨x,e⟩,⟨h1,h2,h3,h4⟩,h5,h6⟩:=hq;obtain rfl:hc=[]:=List.length_eq_zero_iff.1 h3;refine qL.le h1 ?_;intro O w σ vals hg hh hr;simp only [RepL] at hr;obtain⟨v0,r0,rfl,h0,v1,r1,rfl,h1,rfl⟩:=hr;rw [hav] at h0;simp only [Rep] at h1;subst h0 h1;have hn':¬ fn.name = "runtime.NumGoroutine" :=by simpa using hn
 left;refine⟨by simp [callFunc,hf,hn',hb],?_⟩;refine(W x e w).mono ?_;rintro en w' ⟨rfl,⟨he,rfl⟩ | ⟨he,rfl⟩⟩
 ·left;refine⟨_,rfl,av x,[],σ,h5 (decide_eq_true he),(hav ..).2 rfl,⟨hh.len,hh.inj,hh.lt,λ_ _ _ _ h=>by simp at h⟩,hg,Nat.le_refl _,Vz _ _ _,Ext.refl _ _⟩
 ·right;exact⟨_,rfl,h4 he,rfl,rfl,rfl,Nat.le_refl _,λ_ _ _=>rfl,λ_ h=>h.elim⟩
end Go.Sx
end
section
namespace Go.Sx
variable [Stat]
section
variable {P:Program}
theorem VU(a:AV):eqA0 a a:=by
 cases a<;>simp [eqA0]
 exactλ_ _ _ _=>rfl
theorem Qu:∀ l:List AV,eqL0 l l
 | []=>trivial
 | a::l=>⟨VU a,Qu l⟩
theorem zm5(a:AV):eqA a a:=by
 cases a with
 | agg l=>exact Qu l
 | tup l=>exact Qu l
 | _=>unfold eqA; exact VU _
theorem JF:∀ l:List AV,eqL l l
 | []=>trivial
 | a::l=>by
  unfold eqL;split
  ·rename_i h1 h2; cases h1
  ·rename_i h1 h2; cases h1; cases h2; exact JF l
  ·rename_i h1 h2; cases h1; cases h2; exact⟨zm5 _,JF l⟩
  ·rename_i hx; exact(hx _ _ _ _ rfl rfl).elim
end
end Go.Sx
end
section
namespace Go.Nov
end Go.Nov
end
section
namespace Go.Nov
open Go.Sx
structure TOp where
 kind:Int
 a:Int
 b:Int
 rat:L8
abbrev TOp.nil:TOp:=⟨0,0,0,[]⟩
def TOp.cell(o:TOp):Nat->AV
 | 0=>.int .u8 o.kind
 | 1=>.i o.a
 | 2=>.i o.b
 | 3=>.str o.rat
 | _=>.undef
def opG(l:List TOp):Nat->Nat->AV:=λj=>(l.getD j TOp.nil).cell
def opS(l:List TOp):AV:=.sl l.length 4 (opG l)
def ratG(l:List L8):Nat->Nat->AV:=λj _=>.str (l.getD j [])
end Go.Nov
end
section
namespace Go.Nov
open Go.Sx
structure Deal where
 long:L8
 short:L8
 ccy:L8
 name:L8
 zb:L8
 zg:L8
def Deal.av(d:Deal):AV:=.agg [.str d.long,.str d.short,.str d.ccy,.str d.name,.str d.zb,.str d.zg]
def Deal.cells(d:Deal)(e:Int):List AV:=[.i e,.str d.long,.str d.short,.str d.ccy,.str d.name,.str d.zb,.str d.zg]
namespace Tm
def kon(r:L8):Ex:=.mk 1 r [] 0 []
def spot(n:L8):Ex:=.mk 3 [] n 0 []
def fixg(n:L8)(d:Int):Ex:=.mk 2 [] n d []
def opx(k:Int)(s:List Ex):Ex:=.mk k [] [] 0 s
def over(k:L8)(x:Ex)(below:Bool):Ex:=opx 7 [kon [48],opx 5 (if below=true then [kon k,x] else [x,kon k])]
def pay(d:Deal)(x:Ex)(r:L8):Con:=.mk 2 d.short d.long d.ccy (opx 6 [x,kon r]) 0 [] []
def at_(day:Int)(c:Con):Con:=.mk 6 [] [] [] (.mk 0 [] [] 0 []) day [] [c]
def call(d:Deal)(ch:L8)(days:List Int)(c:Con):Con:=.mk 8 d.long [] ch (.mk 0 [] [] 0 []) 0 days [c]
def first(e:Int)(l:List L8):Int:=l.foldl (λe r=>if e=0 then errR r else e) e
def zero:Con:=.mk 0 [] [] [] (.mk 0 [] [] 0 []) 0 [] []
def fits(d:Deal):Prop:=d.long.length<=200/\d.short.length<=200/\d.ccy.length<=200/\d.name.length<=200/\d.zb.length<=2500/\d.zg.length<=2500
def res(d:Deal)(c:Con):Int:=if first 0 [d.zb,d.zg]=0 then c.errC else first 0 [d.zb,d.zg]
def out(e:Int)(c:Con):Con:=if e=0 then c else zero
def fwd(d:Deal)(day:Int):Con:=at_ day (pay d (opx 5 [spot d.name,kon d.zb]) d.zg)
def pff(d:Deal)(day:Int)(put:Bool):Con:=at_ day (pay d (over d.zb (spot d.name) put) d.zg)
def opt(d:Deal)(ch:L8)(days:List Int)(put:Bool):Con:=call d ch days (pay d (over d.zb (spot d.name) put) d.zg)
theorem Wk{e:Int}{l:List (L8)}{i:Nat}(h:i<l.length):first e (l.take (i+1))=if first e (l.take i)=0 then errR (l.getD i []) else first e (l.take i):=by
 have:l.take (i+1)=l.take i++[l.getD i []]:=by
  rw [List.take_add_one]; simp [List.getD,h]
 unfold first;rw [this,List.foldl_append];rfl
end Tm
end Go.Nov
end
section
namespace Go.Sx
open Go.Nov
variable [Stat]
theorem zd.sink{P:Go.Program}{g:Nat}{c:Ctr}(h:zd P g c):zd P g { c with sinks:=true } :=h
theorem LeL.dAt:∀ {l m:List AV} (i:Nat),LeL l m->LeA (l.getD i .undef) (m.getD i .undef)
 | [],[],_,_=>LeA.refl _
 | [],_::_,_,h=>by simp [LeL] at h
 | _::_,[],_,h=>by simp [LeL] at h
 | a::l,b::m,0,h=>by simp only [LeL] at h; exact h.1
 | a::l,b::m,i+1,h=>by
  simp only [LeL] at h;have:=LeL.dAt i h.2;simpa [List.getD] using this
theorem RetR.kF{ctr:Ctr}{m:Nat}{Q:AV×Heap->Prop}{rs:List AV}{h:Heap}{r:AV}{hs:Heap}(L:List Nat)(hnd:jS L=true)(hlt:(L.all λi=>decide (i<h.length))=true)(hj:∀ j,j<m->L[j]?=some j)(hf:ctr.fresh=false)(hq:Q (r,hs))
  (he:LeA (exp2 h L (resV rs)) r) (hb:eqH (expH h L) hs) (hl:hs.length=L.length):RetR ctr m Q rs h:=
 ⟨L,hnd,λi hi=>by have:=List.all_eq_true.1 hlt i hi; simpa using this,hj,(λhh=>absurd hh (by rw [hf]; decide)),r,hs,he,.inl hb,hl,hq⟩
theorem RetR.ze0{ctr:Ctr}{m:Nat}{Q:AV×Heap->Prop}{rs:List AV}{h:Heap}{r:AV}{hs:Heap}(L:List Nat)(hnd:jS L=true)(hlt:(L.all λi=>decide (i<h.length))=true)(hj:∀ j,j<m->L[j]?=some j)(hf:ctr.fresh=false)(hq:Q (r,hs))
  (he:LeA (exp2 h L (resV rs)) r) (hb:leHs (expH h L) hs):RetR ctr m Q rs h:=
 ⟨L,hnd,λi hi=>by have:=List.all_eq_true.1 hlt i hi; simpa using this,hj,(λhh=>absurd hh (by rw [hf]; decide)),r,hs,he,.inr hb,by rw [Ys hb]; simp [expH],hq⟩
end Go.Sx
namespace Go.Nov
open Go.Sx
variable [Go.Sx.Stat]
theorem Ex.yJ{x y:Ex}{k d:Int}{r n:L8}{c:List AV}(h:LeL c (x.cellsD++y.cellsD)):LeA (.sl 2 5 (zi (zj 5 c) 0)) (.sl 2 5 (Ex.mk k r n d [x,y]).deep):=by
 refine LeA.sl rfl λj o hj ho=> ?_
 rw [Ex.qj (Ex.mk k r n d [x,y]) j o (by show j<2; omega) ho];have:=LeL.dAt (j*5+o) h;simp only [zi,zj,Nat.zero_add];rcases(show j=0\/j=1 by omega) with rfl | rfl<;>rcases(show o=0\/o=1\/o=2\/o=3\/o=4 by omega) with rfl | rfl | rfl | rfl | rfl<;>exact this
theorem Ex.X2(x y:Ex):eqG 2 5 (zi (zj 5 (x.cellsD++y.cellsD)) 0) (Ex.exG [x,y]):=by
 intro j o hj ho;simp only [zi,zj,Nat.zero_add];rcases(show j=0\/j=1 by omega) with rfl | rfl<;>rcases(show o=0\/o=1\/o=2\/o=3\/o=4 by omega) with rfl | rfl | rfl | rfl | rfl<;>rfl
theorem Ex.zom{x y:Ex}{c:List AV}(h:LeL c (x.cellsD++y.cellsD)):LeA (.sl 2 5 (zi (zj 5 c) 0)) (.sl 2 5 (Ex.exG [x,y])):=by
 refine LeA.sl rfl λj o hj ho=> ?_
 have:=LeL.dAt (j*5+o) h;simp only [zi,zj,Nat.zero_add];rcases(show j=0\/j=1 by omega) with rfl | rfl<;>rcases(show o=0\/o=1\/o=2\/o=3\/o=4 by omega) with rfl | rfl | rfl | rfl | rfl<;>exact this
theorem Ex.xW(z:Ex):LeA (.sl z.sub.length 5 (Ex.exG z.sub)) (.sl z.sub.length 5 z.deep):=LeA.sl rfl λj o hj ho=>by rw [Ex.qj z j o hj ho]; exact LeA.refl _
theorem Con.xW(z:Con):LeA (.sl z.sub.length 12 (Con.conG z.sub)) (.sl z.sub.length 12 z.deep):=LeA.sl rfl λj o hj ho=>by rw [Con.qj z j o hj ho]; exact LeA.refl _
theorem Con.zo9{e:Con}{k d:Int}{a b n:L8}{x:Ex}{l:List Int}{c:List AV}(h:LeL c e.zq):LeA (.sl 1 12 (zi (zj 12 c) 0)) (.sl 1 12 (Con.mk k a b n x d l [e]).deep):=by
 refine LeA.sl rfl λj o hj ho=> ?_
 have h0:j=0:=by omega
 subst h0;rw [Con.qj (Con.mk k a b n x d l [e]) 0 o (by show 0<1; decide) ho];have:=LeL.dAt o h;simp only [zi,zj,Nat.zero_add,Nat.zero_mul];rcases(show o=0\/o=1\/o=2\/o=3\/o=4\/o=5\/o=6\/o=7\/o=8\/o=9\/o=10\/o=11 by omega) with rfl | rfl | rfl | rfl | rfl | rfl | rfl | rfl | rfl | rfl | rfl | rfl<;>exact this
end Go.Nov
end
section
set_option maxRecDepth 100000
open Go Go.Sx Go.Proofs Go.Nov
namespace Go.Proofs.Tryz
attribute [local simp] eqKV eqA eqA0 eqH eqB eqL eqL0
def zs7:Ctr:=ctrP false (λp:Fl=>[.i p.date,.str p.src,.str p.dst,.str p.ccy,.str p.amt]) (λp=>p.amt≠[]/\p.amt.length<2^40) (λ_ (_:Unit)=>True) (λp _=>(.osl 0 5 0 (payF p.date p.src p.dst p.ccy p.amt).length,[.arr (payF p.date p.src p.dst p.ccy p.amt).length 5 (flG (payF p.date p.src p.dst p.ccy p.amt))]))
theorem zp0:zd Tryz.prog 125 zs7:=by
 refine Yh (fn:=Tryz.f125) (c:=Tryz.f125.body.getD .skip) rfl rfl rfl λp hp O w0 Q hq=> ?_
 obtain⟨d,a,b,n,r⟩:=p;obtain⟨h1,h2⟩:=hp;simp only at h1 h2;replace hq:=hq () trivial;simp only at hq;refine zc.n zu [] (.D (r=#[(48:UInt8)].toList) (.R [.nils] []) (.side ((0:Int)<=0/\(0:Int)<r.length) (.D ((↑(UInt8.toNat (r.getD 0 (0:UInt8))):Int)=45) (.side ((0:Int)<=1/\(1:Int)<=r.length) (.R [.osl 0 5 0 1] [.arr 1 5 (zj 5 [.i d,.str b,.str a,.str n,.str (List.drop 1 (List.take r.length r))])])) (.R [.osl 0 5 0 1] [.arr 1 5 (zj 5 [.i d,.str a,.str b,.str n,.str r])])))) ?_;simp only [Tree.holds,ze];have hl:0<r.length:=List.length_pos_iff.2 h1
 have e45:decide (((r.getD 0 0).toNat:Int)=45)=decide (r.getD 0 0=45):=by
  by_cases e:r.getD 0 0=45
  ·rw [e]; rfl
  ·rw [decide_eq_false e,decide_eq_false];intro h;refine e (UInt8.toNat_inj.1 ?_);show _=45;omega
 rw [e45];unfold payF at hq;refine⟨λh=> ?_,λh=>⟨⟨Int.le_refl _,by omega⟩,λ_=>⟨λh'=>⟨⟨by decide,by omega⟩,λ_=> ?_⟩,λh'=> ?_⟩⟩⟩
 ·rw [if_pos (of_decide_eq_true h)] at hq;exact RetR.le0 (Q:=upQ Q) (r:=.nils) (.inr ⟨.osl 0 5 0 0,[(5,flG [])],⟨⟨Nat.le_refl _,Nat.zero_lt_one⟩,rfl,rfl⟩,hq⟩) (λh=>by cases h) (LeA.refl _)
 ·rw [if_neg (of_decide_eq_false h),if_pos (of_decide_eq_true h')] at hq;rw [List.take_length]
  exact RetR.ze0 (Q:=upQ Q) [0] rfl rfl (by simp) rfl (.inl hq) (LeA.refl _) ⟨LeB.arr λj o hj ho=>by
   rcases(show j=0 by omega) with rfl;rcases(show o=0\/o=1\/o=2\/o=3\/o=4 by omega) with rfl | rfl | rfl | rfl | rfl<;>exact LeA.refl _,trivial⟩
 ·rw [if_neg (of_decide_eq_false h),if_neg (of_decide_eq_false h')] at hq
  exact RetR.ze0 (Q:=upQ Q) [0] rfl rfl (by simp) rfl (.inl hq) (LeA.refl _) ⟨LeB.arr λj o hj ho=>by
   rcases(show j=0 by omega) with rfl;rcases(show o=0\/o=1\/o=2\/o=3\/o=4 by omega) with rfl | rfl | rfl | rfl | rfl<;>exact LeA.refl _,trivial⟩
noncomputable def K115:List Go.Sx.Item:=[.code (Tryz.f115.body.getD .skip)]
def zs4:Ctr:=ctrP true (λp:Fl×Fl=>[p.1.av,p.2.av]) (λ_=>True) (λ_ (_:Unit)=>True) (λp _=>(.bool (decide (p.1.date<p.2.date)),[]))
theorem zog:zd Tryz.prog 86 zs4:=by
 refine zh (fn:=Tryz.f86) (c:=Tryz.f86.body.getD .skip) rfl rfl rfl λp hp O w0 Q hq=> ?_
 obtain⟨⟨d,a,b,n,r⟩,⟨d',a',b',n',r'⟩⟩:=p;replace hq:=hq () trivial;refine zc.n zu [] (.R [.bool (decide (d<d'))] [.box [.i d,.str a,.str b,.str n,.str r],.box [.i d',.str a',.str b',.str n',.str r']]) ?_;simp only [Tree.holds,ze];exact RetR.scal hq rfl (by simp [resV])
theorem Ja{o a:List Fl}{m n:Nat}(hm:m=o.length)(hn:n=a.length):eqG (m+n) 5 (appG m (flG o) (flG a)) (flG (o++a)):=by
 intro j k hj hk;subst hm hn;simp only [appG,flG,List.getD_eq_getElem?_getD,List.getElem?_append];split<;>rfl
theorem UB{o:List Fl}{x:Fl} : eqG (o.length+1) 5 (appG o.length (flG o) (zi (zj 5 [.i x.date,.str x.src,.str x.dst,.str x.ccy,.str x.amt]) 0)) (flG (o++[x])):=by
 intro j k hj hk;simp only [appG,flG,List.getD_eq_getElem?_getD,List.getElem?_append];split
 ·rfl
 ·have e:j - o.length=0:=by omega
  rw [e];rcases(show k=0\/k=1\/k=2\/k=3\/k=4 by omega) with rfl | rfl | rfl | rfl | rfl<;>rfl
theorem Y9{x:Fl}{l:List Fl}{n:Nat} : eqG n 5 (zi (flG (x::l)) 1) (flG l):=by
 intro j k hj hk;simp only [zi,flG,Nat.add_comm 1 j,List.getD_cons_succ]
def SMg(a b:List Fl)(n:Nat):KV:=[(0,flS a),(1,flS b),(2,.fn 86 [] []),(7,.osl 0 5 0 n),Z 12,Z 13,Z 14]
def ziu:Ctr:=ctrP false (λp:List Fl×List Fl=>[flS p.1,flS p.2,.fn 86 [] []]) (λp=>p.1.length+p.2.length<2^36) (λ_ (_:Unit)=>True) (λp _=>(flS (qx (p.1.length+p.2.length) p.1 p.2),[]))
noncomputable def GBx:=tb zog tz
theorem zhv:zd Tryz.prog 115 ziu:=by
 refine zh (fn:=Tryz.f115) (c:=Tryz.f115.body.getD .skip) rfl rfl rfl λp hp O w0 Q hq=> ?_
 obtain⟨a,b⟩:=p;simp only at hp;replace hq:=hq () trivial;simp only at hq;refine zc.n GBx.h [0,1,2,7,12,13,14] (.leaf (.loop (lps K115 0).1 (lps K115 0).2 [(0,.sl a.length 5 (flG a)),(1,.sl b.length 5 (flG b)),(2,.fn 86 [] []),(7,.nils),Z 12,Z 13,Z 14] [])) ?_;simp only [Tree.holds,ze,inR,lo,hi,Int.toNat_natCast];refine zc.bear 7 5 (flG []) rfl (by decide) (by kernel_rfl) ?_;refine zc.loop (ι:={z:List Fl×List Fl×List Fl // z.1++qx (z.2.1.length+z.2.2.length) z.2.1 z.2.2=qx (a.length+b.length) a b/\z.1.length+z.2.1.length+z.2.2.length=a.length+b.length}) (λz=>SMg z.1.2.1 z.1.2.2 z.1.1.length) (λz=>[.arr z.1.1.length 5 (flG z.1.1)]) (λz=>z.1.2.1.length+z.1.2.2.length) ⟨([],a,b),by simp⟩ 0 ?_ ?_ (by kernel_rfl)
 ·exact⟨by simp [SMg,kL,za,flS],by simp [za],by kernel_rfl,Nat.zero_le _⟩
 ·rintro⟨⟨o,a',b'⟩,h1,h2⟩;simp only at h1 h2;refine zc.n GBx.h [0,1,2,7,12,13,14] (let v6:=o.length+1;let v5:=o.length+List.length a'+List.length b';let v2:=a'.getD 0 Fl.nil;let v4:=zj 5 [.i v2.date,.str v2.src,.str v2.dst,.str v2.ccy,.str v2.amt];let v1:=b'.getD 0 Fl.nil;let v3:=zj 5 [.i v1.date,.str v1.src,.str v1.dst,.str v1.ccy,.str v1.amt];.ite (bif decide ((0:Int)<(a'.length:Int)) then decide ((0:Int)<(b'.length:Int)) else false) (.side ((0:Int)<=0/\(0:Int)<(b'.length:Int)) (.side ((0:Int)<=0/\(0:Int)<(a'.length:Int)) (.ex (λ(x:Fl×Fl)=>eqL [.agg [.i v1.date,.str v1.src,.str v1.dst,.str v1.ccy,.str v1.amt],.agg [.i v2.date,.str v2.src,.str v2.dst,.str v2.ccy,.str v2.amt]] [.agg [.i x.1.date,.str x.1.src,.str x.1.dst,.str x.1.ccy,.str x.1.amt],.agg [.i x.2.date,.str x.2.src,.str x.2.dst,.str x.2.ccy,.str x.2.amt]]/\True) λn=>.A λn_1=>.D (Fl.date n.1<Fl.date n.2) (.side ((0:Int)<=0/\(0:Int)<(b'.length:Int)) (.side ((0:Int)<=1/\(1:Int)<=(b'.length:Int)) (.side (0=0/\o.length<=o.length/\v6 *72<=140737488355328) (.leaf (.back 0 [(0,.sl a'.length 5 (flG a')),(1,.sl (List.length b' - 1) 5 (zi (flG b') 1)),(2,.fn 86 [] []),(7,.osl 0 5 0 v6),Z 12,Z 13,Z 14] [.arr v6 5 (appG o.length (flG o) (zi v3 0)),.arr 1 5 v3]))))) (.side ((0:Int)<=0/\(0:Int)<(a'.length:Int)) (.side ((0:Int)<=1/\(1:Int)<=(a'.length:Int)) (.side (0=0/\o.length<=o.length/\v6 *72<=140737488355328) (.leaf (.back 0 [(0,.sl (List.length a' - 1) 5 (zi (flG a') 1)),(1,.sl b'.length 5 (flG b')),(2,.fn 86 [] []),(7,.osl 0 5 0 v6),Z 12,Z 13,Z 14] [.arr v6 5 (appG o.length (flG o) (zi v4 0)),.arr 1 5 v4])))))))) (.side (0=0/\o.length<=o.length/\(o.length+List.length a')*72<=140737488355328) (.side (0=0/\o.length+List.length a'<=o.length+List.length a'/\v5 *72<=140737488355328) (.R [.osl 0 5 0 v5] [.arr v5 5 (appG (o.length+List.length a') (appG o.length (flG o) (flG a')) (flG b'))])))) ?_;simp only [Tree.holds,ze,inR,lo,hi,Int.toNat_natCast];refine⟨λhlt=> ?_,λhge=> ?_⟩
  ·match a',b' with
   | [],_=>simp at hlt
   | x::a',[]=>simp at hlt
   | x::a',y::b'=>
    simp only [List.length_cons] at h1 h2 ⊢;have e1:(x::a').getD 0 Fl.nil=x:=rfl;have e2:(y::b').getD 0 Fl.nil=y:=rfl;rw [e1,e2];rw [show a'.length+1+(b'.length+1)=(a'.length+b'.length+1)+1 by omega,qx] at h1;refine⟨⟨Int.le_refl _,by omega⟩,λ_=>⟨⟨Int.le_refl _,by omega⟩,λ_=>⟨(y,x),⟨by simp,trivial⟩,⟨(),trivial⟩,λ_ _=>⟨λh=> ?_,λh=> ?_⟩⟩⟩⟩
    ·replace h:=of_decide_eq_true h;rw [if_pos h] at h1;refine⟨⟨Int.le_refl _,by omega⟩,λ_=>⟨⟨by decide,by omega⟩,λ_=>⟨⟨trivial,Nat.le_refl _,by omega⟩,λ_=> ?_⟩⟩⟩;rw [if_pos trivial];refine⟨⟨(o++[y],x::a',b'),?_,?_⟩,?_,?_,?_,by kernel_rfl,Nat.zero_le _⟩
     ·show _=_;rw [<- h1]; simp; try congr 1; try omega
     ·show _=_;simp; omega
     ·show _<_;simp
     ·refine⟨rfl,⟨rfl,rfl,λ_ _ _ _=>rfl⟩,rfl,⟨rfl,rfl,Y9⟩,rfl,rfl,rfl,⟨rfl,rfl,rfl,by simp⟩,by simp⟩
     ·exact⟨⟨by simp,rfl,UB⟩,trivial⟩
    ·replace h:=of_decide_eq_false h;rw [if_neg h] at h1;refine⟨⟨Int.le_refl _,by omega⟩,λ_=>⟨⟨by decide,by omega⟩,λ_=>⟨⟨trivial,Nat.le_refl _,by omega⟩,λ_=> ?_⟩⟩⟩;rw [if_pos trivial];refine⟨⟨(o++[x],a',y::b'),?_,?_⟩,?_,?_,?_,by kernel_rfl,Nat.zero_le _⟩
     ·show _=_;rw [<- h1]; simp; try congr 1; try omega
     ·show _=_;simp; omega
     ·show _<_;simp
     ·exact⟨rfl,⟨rfl,rfl,Y9⟩,rfl,⟨rfl,rfl,λ_ _ _ _=>rfl⟩,rfl,rfl,rfl,⟨rfl,rfl,rfl,by simp⟩,by simp⟩
     ·exact⟨⟨by simp,rfl,UB⟩,trivial⟩
  ·have he:qx (a'.length+b'.length) a' b'=a'++b':=by
    match a',b' with
    | [],b'=>rw [xx]; rfl
    | a',[]=>rw [uw]; simp
    | x::a',y::b'=>
     have:decide ((0:Int)<((x::a').length:Int))=true:=decide_eq_true (by simp);rw [this] at hge;have:decide ((0:Int)<((y::b').length:Int))=true:=decide_eq_true (by simp);rw [this] at hge;cases hge
   rw [he] at h1;rw [<- h1] at hq;refine⟨⟨trivial,Nat.le_refl _,by omega⟩,λ_=>⟨⟨trivial,Nat.le_refl _,by omega⟩,λ_=> ?_⟩⟩;refine RetR.le0 hq (λh=>by cases h) (LeA.sl (by simp; omega) λj k hj hk=> ?_);rw [<- List.append_assoc];have:=Ja (o:=o++a') (a:=b') (m:=o.length+a'.length) (n:=b'.length) (by simp) rfl j k hj hk;rw [<- this];simp only [zi,Nat.zero_add,appG];split
   ·rename_i hlt;have:=Ja (o:=o) (a:=a') rfl rfl j k hlt hk;simp only [appG] at this;rw [this];exact LeA.refl _
   ·exact LeA.refl _
def ordC(n:Nat):Ctr:=ctrP false (λl:List Fl=>[flS l,.fn 86 [] []]) (λl=>l.length<n/\l.length<2^36) (λ_ (_:Unit)=>True) (λl _=>(flS (ordM l),[]))
noncomputable def GMg:=tb zhv tz
noncomputable def GOr(n:Nat):Nat->Option Ctr:=λf=>if f=84 then some (ordC n) else GMg.g f
theorem zu4{n:Nat}(h:zd Tryz.prog 84 (ordC n)):∀ f c,GOr n f=some c->zd Tryz.prog f c:=by
 intro f c hf;simp only [GOr] at hf;split at hf
 ·rename_i hg; subst hg; cases hf; exact h
 ·exact GMg.h f c hf
theorem zj8(n:Nat)(ih:zd Tryz.prog 84 (ordC n)):zd Tryz.prog 84 (ordC (n+1)):=by
 refine zh (fn:=Tryz.f84) (c:=Tryz.f84.body.getD .skip) rfl rfl rfl λl hp O w0 Q hq=> ?_
 obtain⟨h1,h2⟩:=hp;replace hq:=hq () trivial;refine zc.n (zu4 ih) [] (let v1:=Int.tdiv (l.length:Int) (2:Int);.D ((l.length:Int)<2) (.R [.sl l.length 5 (flG l)] []) (.side ((2:Int)≠0/\inR .i64 v1) (.side ((0:Int)<=Int.tdiv (l.length:Int) (2:Int)/\Int.tdiv (l.length:Int) (2:Int)<=l.length) (.side ((0:Int)<=Int.tdiv (l.length:Int) (2:Int)/\Int.tdiv (l.length:Int) (2:Int)<=l.length) (.ex (λ(x:List Fl)=>eqL [.sl (Int.toNat v1 - 0) 5 (zi (flG l) 0),.fn 86 [] []] [.sl x.length 5 (flG x),.fn 86 [] []]/\x.length<n/\x.length<68719476736) λn_1=>.A λn_2=>.ex (λ(x:List Fl)=>eqL [.sl (l.length - Int.toNat v1) 5 (zi (flG l) (Int.toNat v1)),.fn 86 [] []] [.sl x.length 5 (flG x),.fn 86 [] []]/\x.length<n/\x.length<68719476736) λn=>.A λn_3=>.ex (λ(x:List Fl×List Fl)=>eqL [.sl (ordM n_1).length 5 (flG (ordM n_1)),.sl (ordM n).length 5 (flG (ordM n)),.fn 86 [] []] [.sl x.1.length 5 (flG x.1),.sl x.2.length 5 (flG x.2),.fn 86 [] []]/\x.1.length+x.2.length<68719476736) λn=>let v2:=qx (n.1.length+n.2.length) n.1 n.2;.A λn_4=>.R [.sl (List.length v2) 5 (flG v2)] []))))) ?_;simp only [Tree.holds,ze,inR,lo,hi,Int.toNat_natCast];have et:((l.length:Int).tdiv 2)=((l.length/2:Nat):Int):=rfl;rw [et];simp only [Int.toNat_natCast];refine⟨λh=> ?_,λh=> ?_⟩
 ·have hl:l.length<2:=by have:=of_decide_eq_true h; omega
  have he:ordM l=l:=by rw [<- ZB (n:=2) (by omega),ordP,if_pos hl]
  rw [he] at hq;exact RetR.le0 hq (λh=>by cases h) (LeA.refl _)
 ·have hl:2<=l.length:=by have:=of_decide_eq_false h; omega
  have ho:∀ m:List Fl,(ordM m).length=m.length:=λm=>by rw [<- ZB (Nat.le_refl _)]; exact(ZD m.length m (Nat.le_refl _)).2.2
  have he:ordM l=qx ((ordM (l.take (l.length/2))).length+(ordM (l.drop (l.length/2))).length) (ordM (l.take (l.length/2))) (ordM (l.drop (l.length/2))):=by
   rw [<- ZB (l:=l) (n:=l.length+1) (by omega),ordP,if_neg (by omega),ZB (by rw [List.length_take]; omega),ZB (by rw [List.length_drop]; omega),ho,ho,List.length_take,List.length_drop];congr 1; omega
  rw [he] at hq;refine⟨⟨by decide,by omega,by omega⟩,λ_=>⟨⟨by omega,by omega⟩,λ_=>⟨⟨by omega,by omega⟩,λ_=>⟨l.take (l.length/2),⟨⟨⟨by rw [List.length_take]; omega,rfl,?_⟩,rfl,trivial⟩,by rw [List.length_take]; omega,by rw [List.length_take]; omega⟩,⟨(),trivial⟩,λ_ _=>⟨l.drop (l.length/2),⟨⟨⟨by rw [List.length_drop],rfl,?_⟩,rfl,trivial⟩,by rw [List.length_drop]; omega,by rw [List.length_drop]; omega⟩,⟨(),trivial⟩,λ_ _=>⟨(ordM (l.take (l.length/2)),ordM (l.drop (l.length/2))),⟨⟨⟨rfl,rfl,λ_ _ _ _=>rfl⟩,⟨rfl,rfl,λ_ _ _ _=>rfl⟩,rfl,trivial⟩,by simp only [ho,List.length_take,List.length_drop]; omega⟩,⟨(),trivial⟩,λ_ _=> ?_⟩⟩⟩⟩⟩⟩
  ·intro j k hj hk;simp only [zi,flG,Nat.zero_add,List.getD_eq_getElem?_getD,List.getElem?_take];rw [if_pos (by omega)]
  ·intro j k hj hk;simp only [zi,flG,List.getD_eq_getElem?_getD,List.getElem?_drop]
  ·exact RetR.le0 hq (λh=>by cases h) (LeA.refl _)
theorem zpb(n:Nat):zd Tryz.prog 84 (ordC n):=by
 induction n with
 | zero=>
  intro args hc Q hq _;simp only [ordC,ctrP] at hq;split at hq
  ·obtain⟨x,⟨_,h,_⟩,_⟩:=hq;exact absurd h (Nat.not_lt_zero _)
  ·exact hq.elim
 | succ n ih=>exact zj8 n ih
def zk9:Ctr:=ctrP false (λl:List Fl=>[flS l,.fn 86 [] []]) (λl=>l.length<2^36) (λ_ (_:Unit)=>True) (λl _=>(flS (ordM l),[]))
theorem zss:zd Tryz.prog 84 zk9:=by
 intro args hc Q hq hf;refine zpb (2^36) args hc Q ?_ hf;simp only [zk9,ordC,ctrP] at hq ⊢;split at hq
 ·obtain⟨x,⟨h1,h2⟩,h3⟩:=hq;exact⟨x,⟨h1,h2,h2⟩,h3⟩
 ·exact hq.elim
noncomputable def K158:List Go.Sx.Item:=[.code (Tryz.f158.body.getD .skip)]
noncomputable def K159:List Go.Sx.Item:=[.code (Tryz.f159.body.getD .skip)]
theorem zda(m n:Nat):Int.tdiv (m:Int) (n:Int)=((m/n:Nat):Int):=rfl
theorem zdz(m n:Nat):Int.tmod (m:Int) (n:Int)=((m%n:Nat):Int):=rfl
theorem uh(k:IntKind)(n:Nat):eqG n 1 (kN [.int k 0]) (natG k (List.replicate n 0)):=by
 intro j o hj ho;have:o=0:=by omega
 subst this;simp [kN,natG,hj]
theorem YK{l:List Nat}{k:Nat}(hk:k<l.length):l.drop k=l.getD k 0::l.drop (k+1):=by
 rw [List.drop_eq_getElem_cons hk];simp [List.getD,hk]
def zl8:Ctr:=ctrP true (λp:Nat×Nat=>[magS p.1,.int .u32 (p.2:Int)]) (λp=>fits p.1/\0<p.2/\p.2<B) (λp (r:Nat×Nat)=>r=(p.1/p.2,p.1%p.2)) (λ_ r=>(.tup [magS r.1,.int .u32 (r.2:Int)],[]))
def S74(x d:Nat)(o:List Nat)(r k:Nat):KV:=[(0,magS x),(1,.int .u32 (d:Int)),(4,.osl 0 1 0 o.length),(6,.int .u64 (r:Int)),(7,.i ((k:Int) - 1))]
structure I74(x d:Nat) where
 o:List Nat
 r:Nat
 k:Nat
 len:o.length=(canon x).length
 le:k<=(canon x).length
 rd:r<d
 dg:dig (o.drop k)
 eq:val ((canon x).drop k)=d*val (o.drop k)+r
theorem zli:zd Tryz.prog 158 zl8:=by
 refine zh (fn:=Tryz.f158) (c:=Tryz.f158.body.getD .skip) rfl rfl rfl λp hp O w0 Q hq=> ?_
 replace hq:=hq _ rfl;obtain⟨x,d⟩:=p;obtain⟨hx,hd0,hdB⟩:=hp;simp only [fits] at hx hd0 hdB hq;have hB:B=1000000000:=rfl;refine zc.n G1.h [0,1,4,6,7] (let v1:=Int.toNat (canon x).length;.side ((0:Int)<=((canon x).length:Int)/\((canon x).length:Int)<=((canon x).length:Int)/\inR .i64 (canon x).length/\Int.toNat (canon x).length*4<=140737488355328) (.S ((canon x).length-1) (.leaf (.loop (lps K158 0).1 (lps K158 0).2 [(0,.sl (canon x).length 1 (natG .u32 (canon x))),(1,.int .u32 d),(4,.osl 0 1 0 v1),(6,.int .u64 0),(7,.i ((canon x).length-1))] [.arr v1 1 (kN [.int .u32 0])])))) ?_;simp only [Tree.holds,ze,inR,lo,hi];refine⟨by omega,λ_=>⟨by omega,λ_=> ?_⟩⟩;refine zc.loop (ι:=I74 x d) (λs=>S74 x d s.o s.r s.k) (λs=>[.arr s.o.length 1 (natG .u32 s.o)]) (λs=>s.k) ⟨List.replicate (canon x).length 0,0,(canon x).length,by simp,Nat.le_refl _,hd0,by simp [dig],by simp [val]⟩ 0 ?_ ?_ (by kernel_rfl)
 ·exact⟨by simp [S74,magS,natS,za],by simp [uh],by kernel_rfl,Nat.zero_le _⟩
 ·rintro⟨o,r,k,hlen,hle,hr,hdg,he⟩;refine zc.n G1.h [0,1,4,6,7] (let v2:=Int.toNat (k-1);let v1:=Int.tdiv ((r:Int)*(1000000000:Int)+(↑(List.getD (canon x) v2 0):Int)) (d:Int);.D ((0:Int)<=k - (1:Int)) (.side (inR .u64 (r*1000000000)) (.side ((0:Int)<=k - (1:Int)/\(k:Int) - (1:Int)<((canon x).length:Int)) (.side (inR .u64 ↑(List.getD (canon x) v2 0)) (.side (inR .u64 ((r:Int)*(1000000000:Int)+(↑(List.getD (canon x) v2 0):Int))) (.side (inR .u64 d) (.side ((d:Int)≠0/\inR .u64 v1) (.side (inR .u32 v1) (.side (inR .u64 d) (.side ((d:Int)≠0) (.side ((0:Int)<=k - (1:Int)/\(k:Int) - (1:Int)<o.length) (.S (k-1-1) (.leaf (.back 0 [(0,.sl (canon x).length 1 (natG .u32 (canon x))),(1,.int .u32 d),(4,.osl 0 1 0 o.length),(6,.int .u64 (Int.tmod ((r:Int)*(1000000000:Int)+(↑(List.getD (canon x) v2 0):Int)) (d:Int))),(7,.i (k-1-1))] [.arr o.length 1 (updG (natG .u32 o) (0+Int.toNat (k-1)) 0 [.int .u32 v1])]))))))))))))) (.ex (λ(u:List Nat)=>u.length=o.length/\0+o.length<=o.length/\o.length<4611686018427387904/\eqG o.length 1 (natG .u32 o) (natG .u32 u)/\dig (List.take o.length (List.drop 0 u))) λn=>.all (λ(x:Nat)=>x=val (List.take o.length (List.drop 0 n))) λn=>.side (inR .u32 r) (.R [.osl 0 1 0 (canon n).length,.int .u32 r] [.arr o.length 1 (natG .u32 o)]))) ?_;have e:((k:Int) - 1).toNat=k - 1:=by omega
  have ha:=zP (zl x) (k - 1);have ev:((r:Int)*1000000000+((canon x).getD (k - 1) 0:Nat))=((r*B+(canon x).getD (k - 1) 0:Nat):Int):=by simp
  simp only [Tree.holds,ze,inR,lo,hi,e,ev,zda,zdz,yZ];generalize hv:r*B+(canon x).getD (k - 1) 0=v
  have hvd:v<d*B:=by
   have:(r+1)*B<=d*B:=Nat.mul_le_mul_right _ hr;rw [Nat.add_mul] at this;omega
  have hq1:v/d<B:=Nat.div_lt_of_lt_mul hvd;have hr1:v%d<d:=Nat.mod_lt _ hd0;have hdm:=Nat.div_add_mod v d;generalize v/d=q at hq1 hdm ⊢;generalize v%d=rr at hr1 hdm ⊢;have hdB2:d*B<B*B:=Nat.mul_lt_mul_of_pos_right hdB (by decide);rw [hB] at hdB2;refine⟨λhk=> ?_,λhk=> ?_⟩
  ·have hk:0<k:=by simp at hk; omega
   refine⟨by omega,λ_=>⟨by omega,λ_=>⟨by omega,λ_=>⟨by omega,λ_=>⟨by omega,λ_=>⟨⟨by omega,by omega,by omega⟩,λ_=>⟨by omega,λ_=>⟨by omega,λ_=>⟨by omega,λ_=>⟨by omega,λ_=>⟨by omega,λ_=> ?_⟩⟩⟩⟩⟩⟩⟩⟩⟩⟩⟩;rw [if_pos trivial];have hkl:k - 1<o.length:=by omega
   have hdr:(o.set (k - 1) (q)).drop (k - 1)=(q)::o.drop k:=by
    rw [YK (by simpa using hkl)];rw [show k - 1+1=k by omega,List.drop_set_of_lt (by omega)];simp [hkl]
   refine⟨⟨o.set (k - 1) (q),rr,k - 1,by simpa using hlen,by omega,hr1,by rw [hdr]; exact qA.2 ⟨hq1,hdg⟩,?_⟩,by show k - 1<k; omega,by simp [S74,magS,natS,za]; omega,?_,by kernel_rfl,Nat.zero_le _⟩
   ·rw [hdr,YK (by omega),show k - 1+1=k by omega];simp only [val,he];rw [Nat.mul_add,Nat.mul_add,<- Nat.mul_assoc,<- Nat.mul_assoc,Nat.mul_comm d B];have h5:B*r=r*B:=Nat.mul_comm _ _;omega
   ·refine⟨⟨by simp,rfl,?_⟩,trivial⟩;have:=wZ (k:=.u32) (l:=o) (v:=((q:Nat):Int)) (i:=k - 1) (by omega) hkl;simpa using this
  ·have hk:k=0:=by simp at hk; omega
   subst hk;simp only [List.drop_zero] at he hdg;rw [zo] at he
   have hqv:val o=x/d:=by
    rw [he,Nat.mul_add_div hd0,Nat.div_eq_of_lt hr,Nat.add_zero]
   have hrv:r=x%d:=by rw [he,Nat.mul_add_mod,Nat.mod_eq_of_lt hr]
   have htr:qR o=canon (x/d):=by rw [zV hdg,hqv]
   refine⟨o,⟨rfl,by omega,by omega,za _ _ _,by simpa using hdg⟩,⟨_,rfl⟩,?_⟩;intro X hX;have hX:X=x/d:=by simpa [hqv] using hX
   subst hX;have htl:(canon (x/d)).length=tlen o:=by rw [<- htr,qR,List.length_take]; have:=qm o; omega
   rw [htl];refine⟨by omega,λ_=> ?_⟩;refine⟨[],rfl,by simp,by simp,λ_=>⟨?_,by simp⟩,_,[],qQ ?_,.inl (by simp [expH]),rfl,hq⟩
   ·simp only [resV,new2];intro a ha;rcases List.mem_cons.1 ha with rfl | ha
    ·exact Yg
    ·simp only [List.mem_singleton] at ha; subst ha; rfl
   ·simp only [resV,exp2,List.map_cons,List.map_nil,exp1,YV,eqA2,eqL1];exact⟨Kt htr,by simp [eqA,exp0,ren0,hrv],trivial⟩
structure D5 where
 t:Nat
 u:Nat
 v:Nat
 y:Nat
 z:Nat
def zkg:Ctr:=ctrP true (λp:D5=>[.int .u64 (p.t:Int),.int .u64 (p.u:Int),.int .u64 (p.v:Int),.int .u64 (p.y:Int),.int .u64 (p.z:Int)])
 (λp=>p.t<=p.y/\p.u<B/\p.v<B/\p.y<B/\p.z<B/\B<=2*p.y) (λp n=>n=jr p.v p.y p.z 2 ((p.t*B+p.u)/p.y) ((p.t*B+p.u)%p.y)) (λ_ n=>(.int .u64 (n:Int),[]))
def S77(v y z q r:Nat):KV:=[(2,.int .u64 (v:Int)),(3,.int .u64 (y:Int)),(4,.int .u64 (z:Int)),(12,.int .u64 (q:Int)),(13,.int .u64 (r:Int))]
structure I77(v y z R:Nat) where
 q:Nat
 r:Nat
 n:Nat
 rB:r<B
 qB:q<=B+1
 nB:B<=r+n*y
 eq:jr v y z n q r=R
theorem zmd:zd Tryz.prog 159 zkg:=by
 refine zh (fn:=Tryz.f159) (c:=Tryz.f159.body.getD .skip) rfl rfl rfl λp hp O w0 Q hq=> ?_
 replace hq:=hq _ rfl;obtain⟨t,u,v,y,z⟩:=p;simp only at hq;obtain⟨h1,h2,h3,h4,h5,h6⟩:=hp;simp only at h1 h2 h3 h4 h5 h6;have hB:B=1000000000:=rfl;refine zc.n zu [2,3,4,12,13] (let v1:=Int.tdiv ((t:Int)*(1000000000:Int)+u) (y:Int);.side (inR .u64 (t*1000000000)) (.side (inR .u64 ((t:Int)*(1000000000:Int)+u)) (.side ((y:Int)≠0/\inR .u64 v1) (.side ((y:Int)≠0) (.leaf (.loop (lps K159 0).1 (lps K159 0).2 [(2,.int .u64 v),(3,.int .u64 y),(4,.int .u64 z),(12,.int .u64 v1),(13,.int .u64 (Int.tmod ((t:Int)*(1000000000:Int)+u) (y:Int)))] [])))))) ?_;have ev:((t:Int)*1000000000+(u:Int))=((t*B+u:Nat):Int):=by simp
 simp only [Tree.holds,ze,inR,lo,hi,ev,zda,zdz];have hy:0<y:=by omega
 have hr:(t*B+u)%y<y:=Nat.mod_lt _ hy
 have hq1:(t*B+u)/y<=B+1:=by
  have h7:t*B<=y*B:=Nat.mul_le_mul_right _ h1
  have:(t*B+u)/y<B+2:=by
   apply Nat.div_lt_of_lt_mul;rw [Nat.mul_add];omega
  omega
 have hst:t*1000000000<=1000000000*1000000000:=Nat.mul_le_mul_right _ (by omega);generalize hR:jr v y z 2 ((t*B+u)/y) ((t*B+u)%y)=R at hq;generalize hqq:(t*B+u)/y=q at hq1 hR ⊢;generalize hrr:(t*B+u)%y=r at hr hR ⊢;refine⟨by omega,λ_=>⟨by omega,λ_=>⟨⟨by omega,by omega,by omega⟩,λ_=>⟨by omega,λ_=> ?_⟩⟩⟩⟩;refine zc.loop (ι:=I77 v y z R) (λs=>S77 v y z s.q s.r) (λ_=>[]) (λs=>s.n) ⟨q,r,2,by omega,hq1,by omega,hR⟩ 0 ?_ ?_ (by kernel_rfl)
 ·exact⟨by simp [S77],by simp,by kernel_rfl,Nat.zero_le _⟩
 ·rintro⟨q,r,n,hrB,hqB,hnB,hR⟩;refine zc.n zu [2,3,4,12,13] (.side (decide ((1000000000:Int)<=q)=false->inR .u64 ((q:Int)*z)) (.side (decide ((1000000000:Int)<=q)=false->inR .u64 (r*1000000000)) (.side (decide ((1000000000:Int)<=q)=false->inR .u64 ((r:Int)*(1000000000:Int)+v)) (.ite (bif decide ((1000000000:Int)<=q) then true else decide ((r:Int)*(1000000000:Int)+v<(q:Int)*z)) (.side (inR .u64 (q-1)) (.side (inR .u64 ((r:Int)+y)) (.D ((1000000000:Int)<=r+(y:Int)) (.R [.int .u64 (q-1)] []) (.leaf (.back 0 [(2,.int .u64 v),(3,.int .u64 y),(4,.int .u64 z),(12,.int .u64 (q-1)),(13,.int .u64 ((r:Int)+y))] []))))) (.R [.int .u64 q] []))))) ?_;simp only [Tree.holds,ze,inR,lo,hi,Bool.cond_eq_ite];have hqz:q*z<=1000000001*1000000000:=Nat.mul_le_mul (by omega) (by omega);have eqz:((q:Int)*(z:Int))=((q*z:Nat):Int):=by simp
  rw [eqz];have hrb:r*B=1000000000*r:=Nat.mul_comm _ _;generalize hp:q*z=p at hqz ⊢;refine⟨λ_=>by omega,λ_=>⟨λ_=>by omega,λ_=>⟨λ_=>by omega,λ_=>⟨λhc=> ?_,λhc=> ?_⟩⟩⟩⟩
  ·have hcond:B<=q\/r*B+v<q*z:=by
    rw [hp];split at hc
    ·rename_i h; simp only [decide_eq_true_eq] at h; left; omega
    ·simp only [decide_eq_true_eq] at hc; right; omega
   have hq0:0<q:=by
    rcases Nat.eq_zero_or_pos q with rfl | h
    ·simp at hcond
    ·exact h
   cases n with
   | zero=>omega
   | succ n=>
    simp only [jr,if_pos hcond] at hR;refine⟨by omega,λ_=>⟨by omega,λ_=>⟨λhb=> ?_,λhb=> ?_⟩⟩⟩
    ·rw [if_pos (by simp at hb; omega)] at hR;refine RetR.scal hq rfl ?_;simp only [resV]; congr 1; omega
    ·rw [if_neg (by simp at hb; omega)] at hR;rw [if_pos trivial];refine⟨⟨q - 1,r+y,n,by simp at hb; omega,by omega,by rw [Nat.add_mul] at hnB; omega,hR⟩,by show n<n+1; omega,by simp [S77]; omega,by simp,by kernel_rfl,Nat.zero_le _⟩
  ·have hcond:¬ (B<=q\/r*B+v<q*z):=by
    rw [hp];split at hc
    ·cases hc
    ·rename_i h; simp only [decide_eq_true_eq,decide_eq_false_iff_not] at h hc; omega
   refine RetR.scal hq rfl ?_
   have:jr v y z n q r=q:=by
    cases n with
    | zero=>rfl
    | succ n=>simp only [jr,if_neg hcond]
   simp only [resV]; congr 1; omega
noncomputable def K106:List Go.Sx.Item:=[.code (Tryz.f106.body.getD .skip)]
theorem heap_set{k:IntKind}{o:List Nat}{v:Int}{i d i':Nat}(hv:v=d)(hi:i<o.length)(hi':i'=i):eqH [.arr o.length 1 (updG (natG k o) i' 0 [.int k v])] [.arr (o.set i d).length 1 (natG k (o.set i d))]:=by
 subst hv;subst hi';refine⟨⟨by simp,rfl,?_⟩,by simp [eqH]⟩;have:=wZ (k:=k) (l:=o) (v:=(d:Int)) (by omega) hi;simpa using this
def zaw:Ctr:=ctr2 true (λx y=>fits x/\fits y)
 (λx y p=>p=x*y) (λx y p=>(.osl 0 1 0 (canon p).length,[.arr ((canon x).length+(canon y).length) 1 (natG .u32 (padN ((canon x).length+(canon y).length) p))]))
def S76(x y i:Nat)(o:List Nat):KV:=[(0,magS x),(1,magS y),(5,.osl 0 1 0 o.length),Z 6,Z 7,Z 8,(18,magS x),(19,.i ((canon x).length:Nat)),(20,.i (i:Int)),Z 25,Z 26,Z 27]
def S76b(x y i j c:Nat)(o:List Nat):KV:=[(0,magS x),(1,magS y),(5,.osl 0 1 0 o.length),(6,.i (i:Int)),(7,.int .u32 ((canon x).getD i 0:Nat)),(8,.int .u64 (c:Int)),(18,magS x),(19,.i ((canon x).length:Nat)),(20,.i (i:Int)),(25,magS y),(26,.i ((canon y).length:Nat)),(27,.i (j:Int))]
structure I76(x y:Nat) where
 o:List Nat
 i:Nat
 len:o.length=(canon x).length+(canon y).length
 le:i<=(canon x).length
 dg:dig o
 eq:val o=val ((canon x).take i)*y
structure I76b(x y i V:Nat) where
 o:List Nat
 c:Nat
 j:Nat
 len:o.length=(canon x).length+(canon y).length
 le:j<=(canon y).length
 dg:dig o
 cB:c<B
 z:∀ p,i+(canon y).length<=p->o.getD p 0=0
 eq:val o+B^i*B^j*c=V+B^i*(canon x).getD i 0*val ((canon y).take j)
theorem zb5{o' Pi Pj op d v a b' c c' V vt vo:Nat}(h1:o'+Pi*Pj*op=vo+Pi*Pj*d)(h2:vo+Pi*Pj*c=V+Pi*a*vt)(h3:B*c'+d=v)(h4:v=a*b'+op+c):o'+Pi*(Pj*B)*c'=V+Pi*a*(vt+Pj*b'):=by grind
theorem Y3:zd Tryz.prog 106 zaw:=by
 refine ZT (fn:=Tryz.f106) (c:=Tryz.f106.body.getD .skip) rfl rfl rfl λx y hp O w0 Q hq=> ?_
 replace hq:=hq _ rfl;obtain⟨hx,hy⟩:=hp;simp only [fits] at hx hy hq;have hB:B=1000000000:=rfl;refine zc.n G1.h [0,1,5,6,7,8,18,19,20,25,26,27] (let v1:=Int.toNat ((canon x).length+(canon y).length);.S ((canon x).length+(canon y).length) (.side ((0:Int)<=((canon x).length:Int)+((canon y).length:Int)/\((canon x).length:Int)+((canon y).length:Int)<=((canon x).length:Int)+((canon y).length:Int)/\inR .i64 ((canon x).length+(canon y).length)/\Int.toNat ((canon x).length+(canon y).length)*4<=140737488355328) (.leaf (.loop (lps K106 0).1 (lps K106 0).2 [(0,.sl (canon x).length 1 (natG .u32 (canon x))),(1,.sl (canon y).length 1 (natG .u32 (canon y))),(5,.osl 0 1 0 v1),Z 6,Z 7,Z 8,(18,.sl (canon x).length 1 (natG .u32 (canon x))),(19,.i (canon x).length),(20,.i 0),Z 25,Z 26,Z 27] [.arr v1 1 (kN [.int .u32 0])])))) ?_;simp only [Tree.holds,ze,inR,lo,hi];have esum:((canon x).length:Int)+((canon y).length:Int)=(((canon x).length+(canon y).length:Nat):Int):=by omega
 simp only [esum,Int.toNat_natCast];refine⟨by omega,λ_=>⟨by omega,λ_=> ?_⟩⟩;refine zc.loop (ι:=I76 x y) (λs=>S76 x y s.i s.o) (λs=>[.arr s.o.length 1 (natG .u32 s.o)]) (λs=>(canon x).length - s.i) ⟨List.replicate ((canon x).length+(canon y).length) 0,0,by simp,Nat.zero_le _,qP _,by simp [qM,val]⟩ 0 ?_ ?_ (by kernel_rfl)
 ·exact⟨by simp [S76,magS,natS,za],by simp [uh],by kernel_rfl,Nat.zero_le _⟩
 ·rintro⟨o,i,hlen,hle,hd,he⟩;refine zc.n G1.h [0,1,5,6,7,8,18,19,20,25,26,27] (.D ((i:Int)<((canon x).length:Int)) (.side ((0:Int)<=i/\(i:Int)<((canon x).length:Int)) (.leaf (.loop (lps (inside K106 0) 0).1 (lps (inside K106 0) 0).2 [(0,.sl (canon x).length 1 (natG .u32 (canon x))),(1,.sl (canon y).length 1 (natG .u32 (canon y))),(5,.osl 0 1 0 o.length),(6,.i i),(7,.int .u32 ↑(List.getD (canon x) (i:Int).toNat 0)),(8,.int .u64 0),(18,.sl (canon x).length 1 (natG .u32 (canon x))),(19,.i (canon x).length),(20,.i i),(25,.sl (canon y).length 1 (natG .u32 (canon y))),(26,.i (canon y).length),(27,.i 0)] [.arr o.length 1 (natG .u32 o)]))) (.ex (λ(u:List Nat)=>u.length=o.length/\0+o.length<=o.length/\o.length<4611686018427387904/\eqG o.length 1 (natG .u32 o) (natG .u32 u)/\dig (List.take o.length (List.drop 0 u))) λn=>.all (λ(x:Nat)=>x=val (List.take o.length (List.drop 0 n))) λn=>.R [.osl 0 1 0 (canon n).length] [.arr o.length 1 (natG .u32 o)])) ?_;simp only [Tree.holds,ze,inR,lo,hi,Int.toNat_natCast,yZ]
  have hz:∀ p,i+(canon y).length<=p->o.getD p 0=0:=by
   intro p hp;refine Wd (n:=i+(canon y).length) ?_ hp;rw [he,Nat.pow_add];have h1:=zX (jb (zl x) i);have h2:=zX (zl y);rw [zo] at h2;have h3:B^((canon x).take i).length=B^i:=by rw [List.length_take,Nat.min_eq_left hle]
   rw [h3] at h1;exact Nat.mul_lt_mul_of_lt_of_le h1 (Nat.le_of_lt h2) (Nat.pow_pos (by decide))
  refine⟨λhlt=>⟨by simp at hlt; omega,λ_=> ?_⟩,λhge=> ?_⟩
  ·have hlt:i<(canon x).length:=by simp at hlt; omega
   refine zc.loop (ι:=I76b x y i (val o)) (λs=>S76b x y i s.j s.c s.o) (λs=>[.arr s.o.length 1 (natG .u32 s.o)]) (λs=>(canon y).length - s.j) ⟨o,0,0,hlen,Nat.zero_le _,hd,by decide,hz,by simp [val]⟩ 1 ?_ ?_ (by kernel_rfl)
   ·exact⟨by simp [S76b,magS,natS,za],by simp [za],by kernel_rfl,Nat.zero_le _⟩
   ·rintro⟨o2,c,j,hlen2,hle2,hd2,hcB,hz2,he2⟩;refine zc.n G1.h [0,1,5,6,7,8,18,19,20,25,26,27] (let v4:=natG .u32 (canon y);let v3:=natG .u32 (canon x);let v2:=Int.tdiv ((↑(List.getD (canon x) i 0):Int)*(↑(List.getD (canon y) (j:Int).toNat 0):Int)+(↑(o2.getD (0+Int.toNat ((i:Int)+j)) 0):Int)+c) (1000000000:Int);let v1:=Int.tmod ((↑(List.getD (canon x) i 0):Int)*(↑(List.getD (canon y) (j:Int).toNat 0):Int)+(↑(o2.getD (0+Int.toNat ((i:Int)+j)) 0):Int)+c) (1000000000:Int);.D ((j:Int)<((canon y).length:Int)) (.side ((0:Int)<=j/\(j:Int)<((canon y).length:Int)) (.side (inR .u64 ↑(List.getD (canon x) i 0)) (.side (inR .u64 ↑(List.getD (canon y) (j:Int).toNat 0)) (.side (inR .u64 ((↑(List.getD (canon x) i 0):Int)*(↑(List.getD (canon y) (j:Int).toNat 0):Int))) (.S ((i:Int)+j) (.side ((0:Int)<=i+(j:Int)/\(i:Int)+j<(o2.length:Int)) (.side (inR .u64 ↑(o2.getD (0+Int.toNat ((i:Int)+j)) 0)) (.side (inR .u64 ((↑(List.getD (canon x) i 0):Int)*(↑(List.getD (canon y) (j:Int).toNat 0):Int)+(↑(o2.getD (0+Int.toNat ((i:Int)+j)) 0):Int))) (.side (inR .u64 ((↑(List.getD (canon x) i 0):Int)*(↑(List.getD (canon y) (j:Int).toNat 0):Int)+(↑(o2.getD (0+Int.toNat ((i:Int)+j)) 0):Int)+c)) (.S ((i:Int)+j) (.side ((1000000000:Int)≠0) (.side (inR .u32 v1) (.side ((1000000000:Int)≠0/\inR .u64 v2) (.side ((0:Int)<=i+(j:Int)/\(i:Int)+j<(o2.length:Int)) (.S (j+1) (.leaf (.back 1 [(0,.sl (canon x).length 1 v3),(1,.sl (canon y).length 1 v4),(5,.osl 0 1 0 o2.length),(6,.i i),(7,.int .u32 ↑(List.getD (canon x) i 0)),(8,.int .u64 v2),(18,.sl (canon x).length 1 v3),(19,.i (canon x).length),(20,.i i),(25,.sl (canon y).length 1 v4),(26,.i (canon y).length),(27,.i (j+1))] [.arr o2.length 1 (updG (natG .u32 o2) (0+Int.toNat ((i:Int)+j)) 0 [.int .u32 v1])]))))))))))))))))) (.S (i+(canon y).length) (.side ((0:Int)<=i+((canon y).length:Int)/\(i:Int)+((canon y).length:Int)<o2.length) (.side (inR .u32 c) (.side (inR .u32 ((↑(o2.getD (0+Int.toNat (i+(canon y).length)) 0):Int)+c)) (.side ((0:Int)<=i+((canon y).length:Int)/\(i:Int)+((canon y).length:Int)<o2.length) (.S (i+1) (.leaf (.back 0 [(0,.sl (canon x).length 1 v3),(1,.sl (canon y).length 1 v4),(5,.osl 0 1 0 o2.length),(6,.i i),(7,.int .u32 ↑(List.getD (canon x) i 0)),(8,.int .u64 c),(18,.sl (canon x).length 1 v3),(19,.i (canon x).length),(20,.i (i+1)),(25,.sl (canon y).length 1 v4),(26,.i (canon y).length),(27,.i j)] [.arr o2.length 1 (updG (natG .u32 o2) (0+Int.toNat (i+(canon y).length)) 0 [.int .u32 ((↑(o2.getD (0+Int.toNat (i+(canon y).length)) 0):Int)+c)])]))))))))) ?_;have ha:=zP (zl x) i;have hb:=zP (zl y) j;have ho:=zP hd2 (i+j);have e1:((i:Int)+(j:Int))=((i+j:Nat):Int):=by omega
    have e2:((i:Int)+((canon y).length:Int))=((i+(canon y).length:Nat):Int):=by omega
    simp only [Tree.holds,ze,inR,lo,hi,e1,e2,Int.toNat_natCast,Nat.zero_add];have e3:(((canon x).getD i 0:Nat):Int)*(((canon y).getD j 0:Nat):Int)=(((canon x).getD i 0*(canon y).getD j 0:Nat):Int):=by simp
    have hab:(canon x).getD i 0*(canon y).getD j 0<=999999999*999999999:=Nat.mul_le_mul (by omega) (by omega);generalize hv:(canon x).getD i 0*(canon y).getD j 0+o2.getD (i+j) 0+c=v;have e4:(((canon x).getD i 0:Nat):Int)*(((canon y).getD j 0:Nat):Int)+((o2.getD (i+j) 0:Nat):Int)+(c:Int)=(v:Int):=by rw [e3,<- hv]; omega
    have e5:(1000000000:Int)=((B:Nat):Int):=rfl;have hvB:v<1000000000*1000000000:=by omega
    have hdm:=Nat.div_add_mod v B;have hmod:v%B<B:=Nat.mod_lt _ (by decide);have hdiv:v/B<B:=Nat.div_lt_of_lt_mul hvB;rw [e4,e5,zda,zdz];generalize v/B=c' at hdm hdiv ⊢;generalize v%B=d at hdm hmod ⊢;rw [e3];generalize hab2:(canon x).getD i 0*(canon y).getD j 0=ab at hab hv ⊢;refine⟨λhj=> ?_,λhj=> ?_⟩
    ·have hj:j<(canon y).length:=by simp at hj; omega
     have hp:i+j<o2.length:=by omega
     refine⟨by omega,λ_=>⟨by omega,λ_=>⟨by omega,λ_=>⟨by omega,λ_=>⟨by omega,λ_=>⟨by omega,λ_=>⟨by omega,λ_=>⟨by omega,λ_=>⟨by omega,λ_=>⟨by omega,λ_=>⟨by omega,λ_=>⟨by omega,λ_=>⟨by omega,λ_=>⟨by omega,λ_=>⟨by omega,λ_=> ?_⟩⟩⟩⟩⟩⟩⟩⟩⟩⟩⟩⟩⟩⟩⟩;rw [if_pos trivial];have hs:=kP o2 (i+j) d hp;refine⟨⟨o2.set (i+j) d,c',j+1,by simpa using hlen2,by omega,Jh hd2 _ hmod,hdiv,λp hp2=> ?_,?_⟩,by show _ - (j+1)<_ - j; omega,by simp [S76b,magS,natS,za],heap_set rfl hp rfl,by kernel_rfl,Nat.zero_le _⟩
     ·have:=hz2 p hp2;simp only [List.getD] at this ⊢;rw [List.getElem?_set_ne (by omega)]; exact this
     ·rw [Nat.pow_add] at hs;rw [Nat.pow_succ,zp];exact zb5 hs he2 hdm (by rw [hab2]; omega)
    ·have hj:j=(canon y).length:=by simp at hj; omega
     subst hj;have h0:=hz2 (i+(canon y).length) (Nat.le_refl _);have hp:i+(canon y).length<o2.length:=by omega
     have hs:=kP o2 (i+(canon y).length) c hp;refine⟨by omega,λ_=>⟨by omega,λ_=>⟨by omega,λ_=>⟨by omega,λ_=>⟨by omega,λ_=>⟨by omega,λ_=> ?_⟩⟩⟩⟩⟩⟩;rw [if_neg (by decide),if_pos trivial];refine⟨⟨o2.set (i+(canon y).length) c,i+1,by simpa using hlen2,by omega,Jh hd2 _ hcB,?_⟩,by show _ - (i+1)<_ - i; omega,by simp [S76,magS,natS,za],heap_set (by omega) hp rfl,by kernel_rfl,Nat.zero_le _⟩;rw [h0,Nat.pow_add] at hs;rw [List.take_length,zo] at he2;rw [zp,Nat.add_mul,<- he];simp only [Nat.mul_zero,Nat.add_zero] at hs;rw [hs,he2]
  ·have hge:i=(canon x).length:=by simp at hge; omega
   subst hge;rw [List.take_length,zo] at he;refine⟨o,⟨rfl,by omega,by omega,za _ _ _,by simpa using hd⟩,⟨_,rfl⟩,?_⟩;intro X hX;have hX:X=x*y:=by simpa [he] using hX
   subst hX;refine⟨[0],rfl,by simp,by simp,λ_=>⟨?_,?_⟩,_,_,qQ ?_,.inl ?_,rfl,hq⟩
   ·simp [resV,new2,new1,new0,zO]
   ·intro k hk;simp only [List.mem_singleton] at hk;subst hk;intro j o' _ _;rfl
   ·simp [resV,exp2,exp1,exp0,zO,eqA2,eqA]
   ·have hpad:=zbe hd;rw [he,hlen] at hpad;rw [<- hpad];simp [expH,expB,hlen,za]
noncomputable def K128:List Go.Sx.Item:=[.code (Tryz.f128.body.getD .skip)]
noncomputable def G2:=tb uR (tb zli (tb Xb (tb Y3 (tb zmd (tb Wt tz)))))
theorem jR{k:IntKind}{u:List Nat}{off n X:Nat}(hd:dig ((u.drop off).take n))(hX:val ((u.drop off).take n)=X):eqG (canon X).length 1 (zi (natG k u) off) (natG k (canon X)):=by
 have h:=zV hd;rw [hX] at h;have hl:=qm ((u.drop off).take n);intro j o hj ho;simp only [zi,natG,AV.int.injEq,true_and];rw [<- h] at hj ⊢;simp only [qR,List.length_take] at hj ⊢;have hjn:j<n:=by simp at hj hl; omega
 have e:(List.take (tlen ((u.drop off).take n)) ((u.drop off).take n)).getD j 0=((u.drop off).take n).getD j 0:=by
  simp only [List.getD,List.getElem?_take];rw [if_pos (by omega)]
 rw [e,uo _ _ _ _ hjn]
theorem xo(k:IntKind)(n:Nat):eqG 1 1 (zj 1 [.int k (n:Int)]) (natG k [n]):=by
 intro j o hj ho;have:j=0:=by omega
 have:o=0:=by omega
 subst_vars; rfl
theorem zhp{k:IntKind}{n:Nat}{g:Nat->Nat->AV}{u:List Nat}{off m:Nat}(h:eqG m 1 g (natG k u))(hm:off+n<=m):eqG n 1 (zi g off) (zi (natG k u) off):=by
 intro j o hj ho;exact h (off+j) o (by omega) ho
theorem Qq{n sz:Nat}{f g h:Nat->Nat->AV}(h1:eqG n sz f g)(h2:eqG n sz g h):eqG n sz f h:=λj o hj ho=>(h1 j o hj ho).trans (h2 j o hj ho)
theorem vw{d:Nat}(hd:d<B):eqG (canon d).length 1 (zi (zj 1 [.int .u32 (d:Int)]) 0) (natG .u32 (canon d)):=by
 have h1:dig (([d].drop 0).take 1):=by simpa [dig] using hd
 have h2:val (([d].drop 0).take 1)=d:=by simp [val]
 have h3:=jR (k:=.u32) h1 h2;refine Qq (zhp (xo .u32 d) ?_) h3;have:=zE (x:=d) (n:=1) (by simpa using hd);omega
theorem ZE{N p:Nat}(hN:(canon p).length<=N):eqG (canon p).length 1 (zi (natG .u32 (padN N p)) 0) (natG .u32 (canon p)):=by
 intro j o hj ho;simp only [zi,natG,Nat.zero_add,padN,AV.int.injEq,true_and];congr 1;simp only [List.getD];rw [List.getElem?_append_left hj]
theorem zlp(N p i:Nat):(padN N p).getD i 0=(canon p).getD i 0:=by
 simp only [padN,List.getD];by_cases h:i<(canon p).length
 ·rw [List.getElem?_append_left h]
 ·rw [List.getElem?_append_right (by omega),List.getElem?_eq_none (show(canon p).length<=i by omega)];cases hh:(List.replicate (N - (canon p).length) 0)[i - (canon p).length]? with
  | none=>rfl
  | some z=>have:=List.mem_of_getElem? hh; simp at this; simp [this.2]
theorem KZ{N p:Nat}(h:(canon p).length<=N):(padN N p).length=N:=by simp [padN]; omega
theorem zo6(N p:Nat):dig (padN N p):=qC.2 ⟨zl _,qP _⟩
theorem uF(x y:Nat):(canon (x*y)).length<=(canon x).length+(canon y).length:=by
 have h1:=zX (zl x);have h2:=zX (zl y);rw [zo] at h1 h2;exact zE (by rw [Nat.pow_add]; exact Nat.mul_lt_mul'' h1 h2)
theorem Vu{d:Nat}(h0:0<d)(hB:d<B):(canon d).length=1:=by
 have h1:=zE (x:=d) (n:=1) (by simpa using hB);have h2:=jN (x:=d) (n:=0) (by simp; omega);omega
def ZA:Ctr:=ctr2 false (λx y=>(canon x).length<100000/\(canon y).length<100000/\0<y) (λx y (r:Nat×Nat)=>r=(x/y,x%y)) (λ_ _ r=>(.tup [magS r.1,magS r.2],[]))
def SG(x y s k:Nat):KV:=[(0,magS x),(1,magS y),(4,.nils),(8,.int .u32 (s:Int)),(9,.i (((canon y).length:Nat):Int)),(10,.osl 1 1 0 k),Z 11,Z 12,Z 13,Z 15,Z 151,Z 152]
structure IG(x U:Nat) where
 k:Nat
 o:List Nat
 ko:k<=o.length
 le:o.length<=(canon x).length+1
 dg:dig (o.take k)
 eq:val (o.take k)=U
def SD(y s V ul ql j:Nat):KV:=[Z 0,Z 1,(4,.osl 4 1 0 ql),(8,.int .u32 (s:Int)),(9,.i (((canon y).length:Nat):Int)),(10,.osl 1 1 0 ul),(11,.osl 3 1 0 (canon V).length),(12,.i ((j:Int) - 1)),Z 13,Z 15,Z 151,Z 152]
def HD(y V:Nat)(u q:List Nat):Heap:=[.dead,.arr u.length 1 (natG .u32 u),.dead,.arr ((canon y).length+1) 1 (natG .u32 (padN ((canon y).length+1) V)),.arr q.length 1 (natG .u32 q)]
structure ID(x y V U:Nat) where
 u:List Nat
 q:List Nat
 j:Nat
 ul:u.length=(canon x).length+1
 ql:q.length+(canon y).length=(canon x).length+1
 jq:j<=q.length
 du:dig u
 dq:dig q
 eq:U=V*B^j*val (q.drop j)+val u
 lt:val u<V*B^j
def SC(y s V ul ql j d L i:Nat):KV:=[Z 0,Z 1,(4,.osl 4 1 0 ql),(8,.int .u32 (s:Int)),(9,.i (((canon y).length:Nat):Int)),(10,.osl 1 1 0 ul),(11,.osl 3 1 0 (canon V).length),(12,.i (j:Int)),(13,.int .u64 (d:Int)),(15,magS L),(151,.i (((canon y).length+1:Nat):Int)),(152,.i (i:Int))]
theorem Y0{x y s V U m i:Nat}{u q:List Nat}{O:Nat->Prop}{w0:World}{Q:AV×Heap->Prop}{Hs0:Nat->KV->Heap->Prop}(hm:(canon y).length=m+2)(hx:(canon x).length<100000)(hs0:0<s)(hsB:s<B)(hV1:V<B^(m+2))(hV2:B^(m+2)<=2*V)(hVl:(canon V).length=m+2)(hV0:0<V)
  (hul:u.length=(canon x).length+1) (hql:q.length+(canon y).length=(canon x).length+1) (hjq:i+1<=q.length) (hdu:dig u) (hdq:dig q) (heq:U=V*B^(i+1)*val (q.drop (i+1))+val u) (hlt:val u<V*B^(i+1)) {W:Nat} (hW:val ((u.drop i).take (m+2+1))=W) (hWB:W/V<B) (kv:KV) (h:Heap) (hle:LeK 0 Tryz.f128.ntmps kv h (SC y s V u.length q.length i (W/V) (W%V) 0) (HD y V u q)) :
  zc Tryz.prog Tryz.f128 O 0 w0 [] (λd kv h=>if d=0 then ∃ x':ID x y V U,x'.j<i+1/\LeK 0 Tryz.f128.ntmps kv h (SD y s V x'.u.length x'.q.length x'.j) (HD y V x'.u x'.q) else Hs0 d kv h) (RetR ZA 0 Q)
   (.code (.loop (lps (inside (inside K128 0) 0) 0).1)::(lps (inside (inside K128 0) 0) 0).2) (mk Tryz.f128.ntmps kv h):=by
 have hB:B=1000000000:=rfl;have c2:0+(i:Int).toNat=i:=by omega
 have hLV:=Nat.mod_lt W hV0;have hLl:(canon (W%V)).length<=m+2:=zE (by omega);refine zc.loop (ι:={k:Nat // k<=m+2+1}) (λk=>SC y s V u.length q.length i (W/V) (W%V) k.1) (λk=>HD y V (mixL u (canon (W%V)) i k.1) q) (λk=>m+2+1 - k.1) ⟨0,Nat.zero_le _⟩ 1 ?_ ?_ (by kernel_rfl)
 ·simpa only [zgd] using hle
 ·rintro⟨k,hk⟩;obtain⟨L,hL⟩:∃ L,W%V=L:=⟨_,rfl⟩;obtain⟨d,hd⟩:∃ d,W/V=d:=⟨_,rfl⟩;simp only [hL,hd];obtain⟨u',hu'⟩:∃ u',mixL u (canon L) i k=u':=⟨_,rfl⟩;have hu'l:u'.length=u.length:=by rw [<- hu',Y7]
  simp only [hu',<- hu'l];rw [hL] at hLl hLV;refine zc.n G2.h [0,1,4,8,9,10,11,12,13,15,151,152] (let v5:=inR .i64 (k+1);let v3:=updG (natG .u32 u') (0+Int.toNat ((i:Int)+k)) 0 [.int .u32 0];let v2:=List.length (canon y)+1;let v4:=natG .u32 (padN v2 V);let v1:List (Nat×AV):=[Z 0,Z 1,(4,.osl 4 1 0 q.length),(8,.int .u32 s),(9,.i (canon y).length),(10,.osl 1 1 0 u'.length),(11,.osl 3 1 0 (canon V).length),(12,.i i),(13,.int .u64 d),(15,.sl (canon L).length 1 (natG .u32 (canon L))),(151,.int .i64 ↑(List.length (canon y)+1)),(152,.i (k+1))];.D ((k:Int)<(↑(List.length (canon y)+1):Int)) (.S ((i:Int)+k) (.side ((0:Int)<=i+(k:Int)/\(i:Int)+k<(u'.length:Int)) (.D ((k:Int)<((canon L).length:Int)) (.S ((i:Int)+k) (.side ((0:Int)<=k/\(k:Int)<((canon L).length:Int)) (.side ((0:Int)<=i+(k:Int)/\(i:Int)+k<(u'.length:Int)) (.side v5 (.leaf (.back 1 v1 [.dead,.arr u'.length 1 (updG v3 (0+Int.toNat ((i:Int)+k)) 0 [.int .u32 ↑(List.getD (canon L) (k:Int).toNat 0)]),.dead,.arr v2 1 v4,.arr q.length 1 (natG .u32 q)])))))) (.side v5 (.leaf (.back 1 v1 [.dead,.arr u'.length 1 v3,.dead,.arr v2 1 v4,.arr q.length 1 (natG .u32 q)])))))) (.side (inR .u32 d) (.side ((0:Int)<=i/\(i:Int)<q.length) (.S (i-1) (.leaf (.back 0 [Z 0,Z 1,(4,.osl 4 1 0 q.length),(8,.int .u32 s),(9,.i (canon y).length),(10,.osl 1 1 0 u'.length),(11,.osl 3 1 0 (canon V).length),(12,.i (i-1)),(13,.int .u64 d),(15,.sl (canon L).length 1 (natG .u32 (canon L))),(151,.int .i64 ↑(List.length (canon y)+1)),(152,.i k)] [.dead,.arr u'.length 1 (natG .u32 u'),.dead,.arr v2 1 v4,.arr q.length 1 (updG (natG .u32 q) (0+Int.toNat i) 0 [.int .u32 d])])))))) ?_;have ek:0+((i:Int)+(k:Int)).toNat=i+k:=by omega
  have ek1:((k:Int)+1)=((k+1:Nat):Int):=by omega
  simp only [Tree.holds,ze,inR,lo,hi,ek,ek1,c2,Int.toNat_natCast];refine⟨λhlt=> ?_,λhge=> ?_⟩
  ·have hlt:k<m+2+1:=by simp at hlt; omega
   have hik:i+k<u'.length:=by omega
   refine⟨by omega,λ_=>⟨by omega,λ_=>⟨λhin=> ?_,λhout=> ?_⟩⟩⟩
   ·have hin:k<(canon L).length:=by simp at hin; omega
    iterate 4 refine⟨by omega,λ_=> ?_⟩
    rw [if_pos trivial];refine⟨⟨k+1,by omega⟩,by show m+2+1 - (k+1)<m+2+1 - k; omega,by simp [SC,magS,natS,za],?_,by kernel_rfl,Nat.zero_le _⟩;have hs2:=YH u (canon L) i k 0;rw [hu'] at hs2;simp only [<- hs2];refine⟨trivial,⟨by simp,rfl,?_⟩,trivial,by simp [za],by simp [za],trivial⟩;have h1:=wZ (k:=.u32) (l:=u') (v:=0) (i:=i+k) (by omega) hik;have h2:=wZ (k:=.u32) (l:=u'.set (i+k) 0) (v:=((canon L).getD k 0:Nat)) (i:=i+k) (by omega) (by simpa using hik);simp only [List.length_set,Int.toNat_natCast] at h2;refine Qq ?_ h2;intro p o hp ho;have:=h1 p o hp ho;simp only [updG] at this ⊢;split
    ·rfl
    ·exact this
   ·have hout:(canon L).length<=k:=by simp at hout; omega
    refine⟨by omega,λ_=> ?_⟩;rw [if_pos trivial];refine⟨⟨k+1,by omega⟩,by show m+2+1 - (k+1)<m+2+1 - k; omega,by simp [SC,magS,natS,za],?_,by kernel_rfl,Nat.zero_le _⟩;have hs2:=YH u (canon L) i k 0;rw [hu'] at hs2;have hz:(canon L).getD k 0=0:=by simp [List.getD,List.getElem?_eq_none hout]
    rw [hz,List.set_set] at hs2;simp only [<- hs2];refine⟨trivial,⟨by simp,rfl,?_⟩,trivial,by simp [za],by simp [za],trivial⟩;exact wZ (k:=.u32) (l:=u') (v:=0) (i:=i+k) (by omega) hik
  ·have hk:k=m+2+1:=by simp at hge; omega
   subst hk;have hdB:d<B:=hd▸hWB
   iterate 3 refine⟨by omega,λ_=> ?_⟩
   rw [if_neg (by decide),if_pos trivial];have hval:=zj1 (u:=u) (L:=L) (j:=i) (k:=m+2+1) (by omega) (by omega);rw [hu'] at hval;have hst:=step_eq (u:=u) (u':=u') (q:=q) (j:=i) (k:=m+2+1) (V:=V) (U0:=U) hdu (by omega) (by simpa using hV1) (by omega) hV0 hlt (by omega) heq (by rw [hW,hL]; exact hval);rw [hW,hd] at hst;refine⟨⟨u',q.set i d,i,by omega,by simpa using hql,by simp; omega,?_,Jh hdq _ hdB,hst.2,hst.1⟩,Nat.lt_succ_self _,by simp [SD,za],?_,by kernel_rfl,Nat.zero_le _⟩
   ·rw [<- hu']; exact zl0 hdu (zl _) _ _
   ·refine⟨trivial,⟨rfl,rfl,za _ _ _⟩,trivial,⟨rfl,rfl,za _ _ _⟩,⟨by simp,rfl,?_⟩,trivial⟩;have:=wZ (k:=.u32) (l:=q) (v:=(d:Int)) (i:=i) (by omega) (by omega);simpa using this
abbrev q13(A:List AV)(x:Nat×Nat):Prop:=eqL A [.sl (canon x.1).length 1 (natG .u32 (canon x.1)),.int .u32 x.2]/\fits x.1/\0<x.2/\x.2<1000000000
abbrev q12(A:List AV)(x:Nat×Nat):Prop:=eqL A [.sl (canon x.1).length 1 (natG .u32 (canon x.1)),.sl (canon x.2).length 1 (natG .u32 (canon x.2))]/\fits x.1/\x.2<=x.1
abbrev q11(A:List AV)(x:Nat×Nat):Prop:=eqL A [.sl (canon x.1).length 1 (natG .u32 (canon x.1)),.sl (canon x.2).length 1 (natG .u32 (canon x.2))]/\fits x.1/\fits x.2
abbrev q10(A:List AV)(x:D5):Prop:=eqL A [.int .u64 ↑x.t,.int .u64 ↑x.u,.int .u64 ↑x.v,.int .u64 ↑x.y,.int .u64 ↑x.z]/\D5.t x<=D5.y x/\D5.u x<1000000000/\D5.v x<1000000000/\D5.y x<1000000000/\D5.z x<1000000000/\1000000000<=2*D5.y x
set_option maxHeartbeats 2000000 in
theorem Xo{x y s V U m i:Nat}{u q:List Nat}{O:Nat->Prop}{w0:World}{Q:AV×Heap->Prop}{Hs0:Nat->KV->Heap->Prop}(hm:(canon y).length=m+2)(hx:(canon x).length<100000)(hs0:0<s)(hsB:s<B)(hV1:V<B^(m+2))(hV2:B^(m+2)<=2*V)(hVl:(canon V).length=m+2)(hV0:0<V)
  (hul:u.length=(canon x).length+1) (hql:q.length+(canon y).length=(canon x).length+1) (hjq:i+1<=q.length) (hdu:dig u) (hdq:dig q) (heq:U=V*B^(i+1)*val (q.drop (i+1))+val u) (hlt:val u<V*B^(i+1)) :
  zc Tryz.prog Tryz.f128 O 0 w0 [] (λd kv h=>if d=0 then ∃ x':ID x y V U,x'.j<i+1/\LeK 0 Tryz.f128.ntmps kv h (SD y s V x'.u.length x'.q.length x'.j) (HD y V x'.u x'.q) else Hs0 d kv h) (RetR ZA 0 Q) (inside (inside K128 0) 0) (mk Tryz.f128.ntmps (SD y s V u.length q.length (i+1)) (HD y V u q)):=by
 have hB:B=1000000000:=rfl;refine zc.n G2.h [0,1,4,8,9,10,11,12,13,15,151,152] (let v15:=natG .u32 q;let v13:=inR .i64 ((canon y).length+1);let v10:=List.length (canon y)+1;let v9:=natG .u32 u;let v8:=lps (inside (inside K128 0) 0) 0;let v6:=zi v9 (0+Int.toNat ((↑(i+1):Int) - (1:Int)));let v5:=inR .i64 ((↑(i+1):Int) - (1:Int)+((canon y).length:Int)+(1:Int));let v4:=padN v10 V;let v12:=natG .u32 v4;let v2:=inR .i64 ((↑(i+1):Int) - (1:Int)+((canon y).length:Int));let v1:=Int.toNat ((↑(i+1):Int) - (1:Int)+((canon y).length:Int)+(1:Int)) - Int.toNat ((↑(i+1):Int) - (1:Int));.D ((0:Int)<=(↑(i+1):Int) - (1:Int)) (.side v2 (.side ((0:Int)<=(↑(i+1):Int) - (1:Int)+((canon y).length:Int)/\(↑(i+1):Int) - (1:Int)+((canon y).length:Int)<u.length) (.side (inR .u64 ↑(u.getD (0+Int.toNat ((↑(i+1):Int) - (1:Int)+((canon y).length:Int))) 0)) (.side v2 (.S ((↑(i+1):Int) - (1:Int)+((canon y).length:Int) - (1:Int)) (.side ((0:Int)<=(↑(i+1):Int) - (1:Int)+((canon y).length:Int) - (1:Int)/\(↑(i+1):Int) - (1:Int)+((canon y).length:Int) - (1:Int)<u.length) (.side (inR .u64 ↑(u.getD (0+Int.toNat ((↑(i+1):Int) - (1:Int)+((canon y).length:Int) - (1:Int))) 0)) (.side v2 (.S ((↑(i+1):Int) - (1:Int)+((canon y).length:Int) - (2:Int)) (.side ((0:Int)<=(↑(i+1):Int) - (1:Int)+((canon y).length:Int) - (2:Int)/\(↑(i+1):Int) - (1:Int)+((canon y).length:Int) - (2:Int)<u.length) (.side (inR .u64 ↑(u.getD (0+Int.toNat ((↑(i+1):Int) - (1:Int)+((canon y).length:Int) - (2:Int))) 0)) (.S ((canon y).length-1) (.side ((0:Int)<=((canon y).length:Int) - (1:Int)/\((canon y).length:Int) - (1:Int)<((canon V).length:Int)) (.side (inR .u64 ↑(List.getD v4 (0+Int.toNat ((canon y).length-1)) 0)) (.S ((canon y).length-2) (.side ((0:Int)<=((canon y).length:Int) - (2:Int)/\((canon y).length:Int) - (2:Int)<((canon V).length:Int)) (.side (inR .u64 ↑(List.getD v4 (0+Int.toNat ((canon y).length-2)) 0)) (.ex (q10 [.int .u64 ↑(u.getD (0+Int.toNat ((↑(i+1):Int) - (1:Int)+((canon y).length:Int))) 0),.int .u64 ↑(u.getD (0+Int.toNat ((↑(i+1):Int) - (1:Int)+((canon y).length:Int) - (1:Int))) 0),.int .u64 ↑(u.getD (0+Int.toNat ((↑(i+1):Int) - (1:Int)+((canon y).length:Int) - (2:Int))) 0),.int .u64 ↑(List.getD v4 (0+Int.toNat ((canon y).length-1)) 0),.int .u64 ↑(List.getD v4 (0+Int.toNat ((canon y).length-2)) 0)]) λn=>.all (λ(n_1:Nat)=>n_1=jr n.v n.y n.z 2 ((D5.t n*1000000000+D5.u n)/D5.y n) ((D5.t n*1000000000+D5.u n)%D5.y n)) λn=>let v14:=zj 1 [.int .u32 (n-1)];.side (inR .u32 n) (.ex (λ(u:List Nat)=>u.length=1/\1<=1/\1<4611686018427387904/\eqG 1 1 (zj 1 [.int .u32 n]) (natG .u32 u)/\dig (List.take 1 (List.drop 0 u))) λn_1=>.all (λ(x:Nat)=>x=val (List.take 1 (List.drop 0 n_1))) λn_2=>.ex (q11 [.sl (canon V).length 1 (zi v12 0),.sl (canon n_2).length 1 (zi (zj 1 [.int .u32 n]) 0)]) λn_3=>let v3:=List.length (canon n_3.1)+List.length (canon n_3.2);.all (λ(p:Nat)=>p=n_3.1*n_3.2) λn_4=>let v11:=natG .u32 (padN v3 n_4);.side v2 (.side v5 (.side ((0:Int)<=(↑(i+1):Int) - (1:Int)/\(↑(i+1):Int) - (1:Int)<=(↑(i+1):Int) - (1:Int)+((canon y).length:Int)+(1:Int)/\(↑(i+1):Int) - (1:Int)+((canon y).length:Int)+(1:Int)<=u.length) (.ex (λ(u_1:List Nat)=>u_1.length=u.length/\0+Int.toNat ((↑(i+1):Int) - (1:Int))+(Int.toNat ((↑(i+1):Int) - (1:Int)+((canon y).length:Int)+(1:Int)) - Int.toNat ((↑(i+1):Int) - (1:Int)))<=u.length/\Int.toNat ((↑(i+1):Int) - (1:Int)+((canon y).length:Int)+(1:Int)) - Int.toNat ((↑(i+1):Int) - (1:Int))<4611686018427387904/\eqG u.length 1 v9 (natG .u32 u_1)/\dig (List.take v1 (List.drop (0+Int.toNat ((↑(i+1):Int) - (1:Int))) u_1))) λn_5=>.all (λ(x:Nat)=>x=val (List.take v1 (List.drop (0+Int.toNat ((↑(i+1):Int) - (1:Int))) n_5))) λn_6=>.ex (q11 [.sl (canon n_6).length 1 v6,.sl (canon n_4).length 1 (zi v11 0)]) λn_7=>.all (λ(r:Int)=>r=cmp3 n_7.1 n_7.2) λn_8=>.D (n_8<0) (.side (inR .u64 (n-1)) (.side (inR .u32 (n-1)) (.ex (λ(u:List Nat)=>u.length=1/\1<=1/\1<4611686018427387904/\eqG 1 1 v14 (natG .u32 u)/\dig (List.take 1 (List.drop 0 u))) λn_9=>.all (λ(x:Nat)=>x=val (List.take 1 (List.drop 0 n_9))) λn_10=>.ex (q11 [.sl (canon V).length 1 (zi v12 0),.sl (canon n_10).length 1 (zi v14 0)]) λn_11=>let v7:=List.length (canon n_11.1)+List.length (canon n_11.2);.all (λ(p:Nat)=>p=n_11.1*n_11.2) λn_12=>.side v2 (.side v5 (.side ((0:Int)<=(↑(i+1):Int) - (1:Int)/\(↑(i+1):Int) - (1:Int)<=(↑(i+1):Int) - (1:Int)+((canon y).length:Int)+(1:Int)/\(↑(i+1):Int) - (1:Int)+((canon y).length:Int)+(1:Int)<=u.length) (.ex (λ(u_1:List Nat)=>u_1.length=u.length/\0+Int.toNat ((↑(i+1):Int) - (1:Int))+(Int.toNat ((↑(i+1):Int) - (1:Int)+((canon y).length:Int)+(1:Int)) - Int.toNat ((↑(i+1):Int) - (1:Int)))<=u.length/\Int.toNat ((↑(i+1):Int) - (1:Int)+((canon y).length:Int)+(1:Int)) - Int.toNat ((↑(i+1):Int) - (1:Int))<4611686018427387904/\eqG u.length 1 v9 (natG .u32 u_1)/\dig (List.take v1 (List.drop (0+Int.toNat ((↑(i+1):Int) - (1:Int))) u_1))) λn_13=>.all (λ(x:Nat)=>x=val (List.take v1 (List.drop (0+Int.toNat ((↑(i+1):Int) - (1:Int))) n_13))) λn_14=>.ex (q12 [.sl (canon n_14).length 1 v6,.sl (canon n_12).length 1 (zi (natG .u32 (padN v7 n_12)) 0)]) λn_15=>.all (λ(d:Nat)=>d=n_15.1 - n_15.2) λn_16=>.side v13 (.leaf (.loop v8.1 v8.2 [Z 0,Z 1,(4,.osl 4 1 0 q.length),(8,.int .u32 s),(9,.i (canon y).length),(10,.osl 1 1 0 u.length),(11,.osl 3 1 0 (canon V).length),(12,.i ((↑(i+1):Int) - (1:Int))),(13,.int .u64 (n-1)),(15,.sl (canon n_16).length 1 (natG .u32 (canon n_16))),(151,.i ((canon y).length+1)),(152,.i 0)] [.dead,.arr u.length 1 v9,.dead,.arr v10 1 v12,.arr q.length 1 v15,.arr 1 1 (zj 1 [.int .u32 n]),.arr v3 1 v11,.arr 1 1 (zj 1 [.int .u32 (n-1)]),.arr v7 1 (natG .u32 (padN v7 n_12))])))))))) (.side v2 (.side v5 (.side ((0:Int)<=(↑(i+1):Int) - (1:Int)/\(↑(i+1):Int) - (1:Int)<=(↑(i+1):Int) - (1:Int)+((canon y).length:Int)+(1:Int)/\(↑(i+1):Int) - (1:Int)+((canon y).length:Int)+(1:Int)<=u.length) (.ex (λ(u_1:List Nat)=>u_1.length=u.length/\0+Int.toNat ((↑(i+1):Int) - (1:Int))+(Int.toNat ((↑(i+1):Int) - (1:Int)+((canon y).length:Int)+(1:Int)) - Int.toNat ((↑(i+1):Int) - (1:Int)))<=u.length/\Int.toNat ((↑(i+1):Int) - (1:Int)+((canon y).length:Int)+(1:Int)) - Int.toNat ((↑(i+1):Int) - (1:Int))<4611686018427387904/\eqG u.length 1 v9 (natG .u32 u_1)/\dig (List.take v1 (List.drop (0+Int.toNat ((↑(i+1):Int) - (1:Int))) u_1))) λn_9=>.all (λ(x:Nat)=>x=val (List.take v1 (List.drop (0+Int.toNat ((↑(i+1):Int) - (1:Int))) n_9))) λn_10=>.ex (q12 [.sl (canon n_10).length 1 v6,.sl (canon n_4).length 1 (zi v11 0)]) λn_11=>.all (λ(d:Nat)=>d=n_11.1 - n_11.2) λn_12=>.side v13 (.leaf (.loop v8.1 v8.2 [Z 0,Z 1,(4,.osl 4 1 0 q.length),(8,.int .u32 s),(9,.i (canon y).length),(10,.osl 1 1 0 u.length),(11,.osl 3 1 0 (canon V).length),(12,.i ((↑(i+1):Int) - (1:Int))),(13,.int .u64 n),(15,.sl (canon n_12).length 1 (natG .u32 (canon n_12))),(151,.i ((canon y).length+1)),(152,.i 0)] [.dead,.arr u.length 1 v9,.dead,.arr v10 1 v12,.arr q.length 1 v15,.arr 1 1 (zj 1 [.int .u32 n]),.arr v3 1 v11])))))))))))))))))))))))))))) (.ex (λ(u_1:List Nat)=>u_1.length=u.length/\0+u.length<=u.length/\u.length<4611686018427387904/\eqG u.length 1 v9 (natG .u32 u_1)/\dig (List.take u.length (List.drop 0 u_1))) λn=>.all (λ(x:Nat)=>x=val (List.take u.length (List.drop 0 n))) λn=>.ex (q13 [.sl (canon n).length 1 (zi v9 0),.int .u32 s]) λn=>.all (λ(r:Nat×Nat)=>r=(n.1/n.2,n.1%n.2)) λn=>.ex (λ(u:List Nat)=>u.length=q.length/\0+q.length<=q.length/\q.length<4611686018427387904/\eqG q.length 1 v15 (natG .u32 u)/\dig (List.take q.length (List.drop 0 u))) λn_1=>.all (λ(x:Nat)=>x=val (List.take q.length (List.drop 0 n_1))) λn_2=>.R [.osl 4 1 0 (canon n_2).length,.sl (canon n.1).length 1 (natG .u32 (canon n.1))] [.dead,.arr u.length 1 v9,.dead,.arr v10 1 v12,.arr q.length 1 v15])) ?_;simp only [q10,q11,q12,q13,Tree.holds,ze,inR,lo,hi];refine⟨λhj=> ?_,λhj=>by simp at hj⟩;have ej:(((i+1:Nat):Int) - 1)=(i:Int):=by omega
 have a1:0+((i:Int)+((canon y).length:Int)).toNat=i+(m+2):=by omega
 have a2:0+((i:Int)+((canon y).length:Int) - 1).toNat=i+(m+1):=by omega
 have a3:0+((i:Int)+((canon y).length:Int) - 2).toNat=i+m:=by omega
 have b1:0+(((canon y).length:Int) - 1).toNat=m+1:=by omega
 have b2:0+(((canon y).length:Int) - 2).toNat=m:=by omega
 have c1:((i:Int)+((canon y).length:Int)+1).toNat - (i:Int).toNat=m+2+1:=by omega
 have c2:0+(i:Int).toNat=i:=by omega
 simp only [ej,a1,a2,a3,b1,b2,c1,c2,zlp];have hu1:=zP hdu (i+(m+2));have hu2:=zP hdu (i+(m+1));have hu3:=zP hdu (i+m);have hv1:=zP (zl V) (m+1);have hv2:=zP (zl V) m
 iterate 17 refine⟨by omega,λ_=> ?_⟩
 obtain⟨W,hW⟩:∃ W,val ((u.drop i).take (m+2+1))=W:=⟨_,rfl⟩;have hdw:dig ((u.drop i).take (m+2+1)):=jb (JQ hdu _) _
 have hWl:(canon W).length<=m+2+1:=by
  refine zE ?_;have:=zX hdw;rw [hW,List.length_take] at this;exact Nat.lt_of_lt_of_le this (Nat.pow_le_pow_right (by decide) (Nat.min_le_left _ _))
 obtain⟨g1,g2,g3,g4,g5,g6⟩:=zme hdu (by omega) hVl hV2 hlt hW rfl;refine⟨⟨u.getD (i+(m+2)) 0,u.getD (i+(m+1)) 0,u.getD (i+m) 0,(canon V).getD (m+1) 0,(canon V).getD m 0⟩,⟨by simp,g3,hu2,hu3,hv1,hv2,g2⟩,⟨_,rfl⟩,?_⟩;intro d hd;simp only at hd;rw [<- hd] at g4 g5 g6;clear hd;have hWVB:W/V<B:=by omega
 have fin:=Y0 (x:=x) (y:=y) (s:=s) (V:=V) (U:=U) (O:=O) (w0:=w0) (Q:=Q) (Hs0:=Hs0) hm hx hs0 hsB hV1 hV2 hVl hV0 hul hql hjq hdu hdq heq hlt hW hWVB;have hdm:=Nat.div_add_mod W V;have hmlt:=Nat.mod_lt W hV0;have hul2:i+(m+2+1)<=u.length:=by omega
 have hul3:u.length<100002:=by omega
 clear heq hlt hul hql hjq hdq hx hs0 hsB hV2 g1 g2 g3 hu1 hu2 hu3 hv1 hv2 hj a1 a2 a3 b1 b2;generalize W/V=qd at *
 generalize W%V=rm at *
 refine⟨by omega,λ_=> ?_⟩;refine⟨[d],⟨rfl,by omega,by omega,xo _ _,by simpa [dig] using g6⟩,⟨_,rfl⟩,?_⟩;intro D hD;have hD:D=d:=by simpa [val] using hD
 subst hD;have hdl:=zE (x:=D) (n:=1) (by simpa using g6);refine⟨(V,D),⟨?_,by simp only [fits]; omega,by simp only [fits]; omega⟩,⟨_,rfl⟩,?_⟩
 ·simp only [eqL,eqA,eqA0,true_and,and_true];exact⟨ZE (by omega),vw g6⟩
 intro p hp;simp only at hp ⊢;have hpl:=uF V D;rw [<- hp] at hpl
 iterate 3 refine⟨by omega,λ_=> ?_⟩
 refine⟨u,⟨rfl,hul2,by omega,za _ _ _,hdw⟩,⟨_,rfl⟩,?_⟩;intro W' hW';have hW':W'=W:=hW'.trans hW;subst hW';refine⟨(W',p),⟨?_,by simp only [fits]; omega,by simp only [fits]; omega⟩,⟨_,rfl⟩,?_⟩
 ·simp only [eqL,eqA,eqA0,true_and,and_true];exact⟨jR hdw hW,ZE hpl⟩
 rintro c rfl;refine⟨λhlt2=> ?_,λhge2=> ?_⟩
 ·have hlt2:W'<p:=by
   simp only [cmp3,decide_eq_true_eq] at hlt2;rcases Nat.lt_or_ge W' p with h | h
   ·exact h
   ·rw [if_neg (by omega)] at hlt2; split at hlt2<;>omega
  have hDQ:D=qd+1:=by
   rcases Nat.lt_or_ge qd D with h | h
   ·omega
   ·have:V*D<=V*qd:=Nat.mul_le_mul_left _ h;omega
  have e3:((D:Int) - 1)=((qd:Nat):Int):=by omega
  simp only [e3];have hQl:=zE (x:=qd) (n:=1) (by simpa using hWVB)
  iterate 2 refine⟨by omega,λ_=> ?_⟩
  refine⟨[qd],⟨rfl,by omega,by omega,xo _ _,by simpa [dig] using hWVB⟩,⟨_,rfl⟩,?_⟩;intro E hE;have hE:E=qd:=by simpa [val] using hE
  subst hE;refine⟨(V,E),⟨?_,by simp only [fits]; omega,by simp only [fits]; omega⟩,⟨_,rfl⟩,?_⟩
  ·simp only [eqL,eqA,eqA0,true_and,and_true];exact⟨ZE (by omega),vw hWVB⟩
  intro p2 hp2;simp only at hp2 ⊢;have hp2l:=uF V E;rw [<- hp2] at hp2l
  iterate 3 refine⟨by omega,λ_=> ?_⟩
  refine⟨u,⟨rfl,hul2,by omega,za _ _ _,hdw⟩,⟨_,rfl⟩,?_⟩;intro W2 hW2;have hW2:W2=W':=hW2.trans hW;subst hW2;refine⟨(W2,p2),⟨?_,by simp only [fits]; omega,by simp only; omega⟩,⟨_,rfl⟩,?_⟩
  ·simp only [eqL,eqA,eqA0,true_and,and_true];exact⟨jR hdw hW,ZE hp2l⟩
  intro L hL;simp only at hL ⊢;have hL:L=rm:=by omega
  subst hL;refine⟨by omega,λ_=> ?_⟩;refine fin _ _ ⟨by simp [SC,magS,natS,za,hVl],?_,by kernel_rfl,Nat.zero_le _⟩;simp [HD,za]
 ·have hge2:p<=W':=by
   simp only [cmp3,decide_eq_false_iff_not] at hge2;rcases Nat.lt_or_ge W' p with h | h
   ·rw [if_pos h] at hge2; omega
   ·exact h
  have hDQ:D=qd:=by
   rcases Nat.lt_or_ge qd D with h | h
   ·have:V*(qd+1)<=V*D:=Nat.mul_le_mul_left _ h;rw [Nat.mul_add] at this;omega
   ·omega
  subst hDQ
  iterate 3 refine⟨by omega,λ_=> ?_⟩
  refine⟨u,⟨rfl,hul2,by omega,za _ _ _,hdw⟩,⟨_,rfl⟩,?_⟩;intro W2 hW2;have hW2:W2=W':=hW2.trans hW;subst hW2;refine⟨(W2,p),⟨?_,by simp only [fits]; omega,hge2⟩,⟨_,rfl⟩,?_⟩
  ·simp only [eqL,eqA,eqA0,true_and,and_true];exact⟨jR hdw hW,ZE hpl⟩
  intro L hL;simp only at hL ⊢;have hL:L=rm:=by omega
  subst hL;refine⟨by omega,λ_=> ?_⟩;refine fin _ _ ⟨by simp [SC,magS,natS,za,hVl],?_,by kernel_rfl,Nat.zero_le _⟩;simp [HD,za]
set_option maxHeartbeats 4000000 in
theorem VZ:zd Tryz.prog 128 ZA:=by
 refine ZT (fn:=Tryz.f128) (c:=Tryz.f128.body.getD .skip) rfl rfl rfl λx y hp O w0 Q hq=> ?_
 replace hq:=hq _ rfl;obtain⟨hx,hy,hy0⟩:=hp;simp only at hq;have hB:B=1000000000:=rfl;refine zc.n G2.h [0,1,4,8,9,10,11,12,13,15,151,152] (let v3:=natG .u32 (canon x);let v2:=Int.toNat ((canon y).length-1);let v1:=Int.tdiv (1000000000:Int) ((↑(List.getD (canon y) v2 0):Int)+(1:Int));.ex (q11 [.sl (canon x).length 1 v3,.sl (canon y).length 1 (natG .u32 (canon y))]) λn=>.all (λ(r:Int)=>r=cmp3 n.1 n.2) λn=>.D (n<0) (.R [.nils,.sl (canon x).length 1 v3] []) (.D (((canon y).length:Int)=1) (.side ((0:Int)<=0/\(0:Int)<((canon y).length:Int)) (.ex (q13 [.sl (canon x).length 1 v3,.int .u32 ↑(List.getD (canon y) 0 0)]) λn=>.all (λ(r:Nat×Nat)=>r=(n.1/n.2,n.1%n.2)) λn=>.ex (λ(u:List Nat)=>u.length=1/\1<=1/\1<4611686018427387904/\eqG 1 1 (zj 1 [.int .u32 n.2]) (natG .u32 u)/\dig (List.take 1 (List.drop 0 u))) λn_1=>.all (λ(x:Nat)=>x=val (List.take 1 (List.drop 0 n_1))) λn_2=>.R [.sl (canon n.1).length 1 (natG .u32 (canon n.1)),.osl 0 1 0 (canon n_2).length] [.arr 1 1 (zj 1 [.int .u32 n.2])])) (.S ((canon y).length-1) (.side ((0:Int)<=((canon y).length:Int) - (1:Int)/\((canon y).length:Int) - (1:Int)<((canon y).length:Int)) (.side (inR .u64 ↑(List.getD (canon y) v2 0)) (.side (inR .u64 ((↑(List.getD (canon y) v2 0):Int)+(1:Int))) (.side ((↑(List.getD (canon y) v2 0):Int)+(1:Int)≠0/\inR .u64 v1) (.side (inR .u32 v1) (.ex (q11 [.sl (canon x).length 1 v3,.sl 1 1 (zi (zj 1 [.int .u32 v1]) 0)]) λn=>let v4:=List.length (canon n.1)+List.length (canon n.2);.all (λ(p:Nat)=>p=n.1*n.2) λn_1=>.leaf (.loop (lps K128 0).1 (lps K128 0).2 [(0,.sl (canon x).length 1 v3),(1,.sl (canon y).length 1 (natG .u32 (canon y))),(4,.nils),(8,.int .u32 v1),(9,.i (canon y).length),(10,.osl 1 1 0 (canon n_1).length),Z 11,Z 12,Z 13,Z 15,Z 151,Z 152] [.arr 1 1 (zj 1 [.int .u32 v1]),.arr v4 1 (natG .u32 (padN v4 n_1))])))))))))) ?_;simp only [q11,q13,Tree.holds,ze,inR,lo,hi];refine⟨(x,y),⟨by simp [za],by simp only [fits]; omega,by simp only [fits]; omega⟩,⟨_,rfl⟩,?_⟩;rintro c rfl;have hyl:0<(canon y).length:=jN (n:=0) (by simp; omega);refine⟨λhlt=> ?_,λhge=>⟨λh1=>⟨by omega,λ_=> ?_⟩,λhn=> ?_⟩⟩
 ·have hxy:x<y:=by
   simp only [cmp3,decide_eq_true_eq] at hlt;rcases Nat.lt_or_ge x y with h | h
   ·exact h
   ·rw [if_neg (by omega)] at hlt; split at hlt<;>omega
  rw [Nat.div_eq_of_lt hxy,Nat.mod_eq_of_lt hxy] at hq;refine RetR.out0 hq (λh=>by cases h) ?_;simp [resV,exp2,exp1,exp0,ren0,eqA2,eqL1,magS,natS,zW,za]
 ·have h1:(canon y).length=1:=by simp at h1; omega
  have hyd:y=(canon y).getD 0 0:=by
   have:=zo y;obtain⟨a,ha⟩:=List.length_eq_one_iff.1 h1;rw [ha] at this ⊢;simp [val] at this ⊢; omega
  have hyB:y<B:=hyd▸zP (zl y) 0;rw [<- hyd];refine⟨(x,y),⟨by simp [za],by simp only [fits]; omega,hy0,hyB⟩,⟨_,rfl⟩,?_⟩;rintro r rfl;have hm:=Nat.mod_lt x hy0;have hmB:x%y<B:=by omega
  refine⟨[x%y],⟨rfl,by omega,by omega,xo _ _,by simpa [dig] using hmB⟩,⟨_,rfl⟩,?_⟩;intro X hX;have hX:X=x%y:=by simpa [val] using hX
  subst hX;refine RetR.out0 hq (λh=>by cases h) ?_;simp only [resV,exp2,List.map_cons,List.map_nil,exp1,exp0,ren0,zO,frz1,jZ,List.getElem?_cons_zero,if_true,eqA2,eqL1,eqA,eqA0,magS,natS,true_and,and_true];exact⟨za _ _ _,vw hmB⟩
 ·have hn:2<=(canon y).length:=by simp at hn; omega
  obtain⟨m,hm⟩:∃ m,(canon y).length=m+2:=⟨(canon y).length - 2,by omega⟩;have e1:((((canon y).length:Nat):Int) - 1).toNat=m+1:=by omega
  have hty:=zP (zl y) (m+1)
  have htop:(canon y).getD (m+1) 0≠0:=by
   have:=q6 (canon y) (by rw [jz]; omega);rw [jz,hm] at this;exact this
  have hyv:∃ r,r<B^(m+1)/\y=r+B^(m+1)*(canon y).getD (m+1) 0:=by
   refine⟨val ((canon y).take (m+1)),?_,?_⟩
   ·have:=zX (jb (zl y) (m+1))
    rwa [List.length_take,Nat.min_eq_left (by omega)] at this
   ·have:=zp (canon y) (m+1)
    rwa [List.take_of_length_le (by omega),zo] at this
  rw [e1];generalize (canon y).getD (m+1) 0=t at hty htop hyv ⊢
  have e2:Int.tdiv 1000000000 ((t:Int)+1)=((B/(t+1):Nat):Int):=by
   have:((t:Int)+1)=((t+1:Nat):Int):=by omega
   rw [this]; rfl
  rw [e2];obtain⟨s,hs⟩:∃ s,B/(t+1)=s:=⟨_,rfl⟩;obtain⟨hs0,hs1,hs2⟩:=ziy (by omega) hs.symm hty;rw [hs]
  have hsB:s<B:=by
   have:s*2<=s*(t+1):=Nat.mul_le_mul_left _ (by omega);omega
  obtain⟨r0,hr0,hyr⟩:=hyv;obtain⟨hV1,hV2⟩:=scaled hr0 hyr hs0 hs1 hs2;refine⟨by omega,λ_=>⟨by omega,λ_=>⟨by omega,λ_=>⟨by omega,λ_=>⟨by omega,λ_=>⟨by omega,λ_=> ?_⟩⟩⟩⟩⟩⟩;have hsl:=Vu hs0 hsB;refine⟨(x,s),⟨?_,by simp only [fits]; omega,by simp only [fits]; omega⟩,⟨_,rfl⟩,?_⟩
  ·simp only [eqL,eqA,eqA0,true_and,and_true];refine⟨za _ _ _,hsl.symm,?_⟩;have:=vw hsB
   rwa [hsl] at this
  intro U hU;simp only at hU ⊢;rw [hsl]
  have hxs:U<B^((canon x).length+1):=by
   have h1:=zX (zl x);rw [zo] at h1;rw [hU,Nat.pow_succ];exact Nat.mul_lt_mul'' h1 hsB
  have hUl:=zE hxs
  have hcan:(canon x).length+1≥m+2:=by
   rcases Nat.lt_or_ge (canon x).length (m+1) with h | h
   ·exfalso;have:=qn (x:=x) (y:=y) (by omega);simp [cmp3,this] at hge
   ·omega
  have hylx:(canon y).length<=(canon x).length:=by
   rcases Nat.lt_or_ge (canon x).length (canon y).length with h | h
   ·exfalso;have:=qn h;simp [cmp3,this] at hge
   ·exact h
  refine zc.loop (ι:=IG x U) (λi=>SG x y s i.k) (λi=>[.dead,.arr i.o.length 1 (natG .u32 i.o)]) (λi=>(canon x).length+1 - i.k)
   ⟨(canon U).length,padN ((canon x).length+1) U,by rw [KZ hUl]; exact hUl,by rw [KZ hUl]; omega,jb (zo6 _ _) _,by simp [padN,zo]⟩ 0 ?_ ?_ (by kernel_rfl)
  ·exact⟨by simp [SG,magS,natS,za],by simp [za,KZ hUl],by kernel_rfl,Nat.zero_le _⟩
  ·rintro⟨k,o,hko,hol,hdo,hvo⟩;refine zc.n G2.h [0,1,4,8,9,10,11,12,13,15,151,152] (let v4:=natG .u32 (canon y);let v2:=inR .i64 (k-(canon y).length);let v1:=Int.toNat (k-(canon y).length);.D ((k:Int)<=((canon x).length:Int)) (.side (0=0/\k<=o.length/\(k+1)*4<=140737488355328) (.leaf (.back 0 [(0,.sl (canon x).length 1 (natG .u32 (canon x))),(1,.sl (canon y).length 1 v4),(4,.nils),(8,.int .u32 s),(9,.i (canon y).length),(10,.osl 1 1 0 (k+1)),Z 11,Z 12,Z 13,Z 15,Z 151,Z 152] [.dead,.arr (k+1) 1 (appG k (natG .u32 o) (zi (zj 1 [.int .u32 0]) 0)),.arr 1 1 (zj 1 [.int .u32 0])]))) (.ex (q11 [.sl (canon y).length 1 v4,.sl 1 1 (zi (zj 1 [.int .u32 s]) 0)]) λn=>let v3:=List.length (canon n.1)+List.length (canon n.2);.all (λ(p:Nat)=>p=n.1*n.2) λn_1=>.side v2 (.side ((0:Int)<=k - ((canon y).length:Int)/\(k:Int) - ((canon y).length:Int)<=k - ((canon y).length:Int)/\inR .i64 (k-(canon y).length)/\Int.toNat (k-(canon y).length)*4<=140737488355328) (.side v2 (.S (k-(canon y).length-1) (.leaf (.loop (lps (inside K128 0) 0).1 (lps (inside K128 0) 0).2 [(0,.sl (canon x).length 1 (natG .u32 (canon x))),(1,.sl (canon y).length 1 v4),(4,.osl 4 1 0 v1),(8,.int .u32 s),(9,.i (canon y).length),(10,.osl 1 1 0 k),(11,.osl 3 1 0 (canon n_1).length),(12,.i (k-(canon y).length-1)),Z 13,Z 15,Z 151,Z 152] [.dead,.arr o.length 1 (natG .u32 o),.arr 1 1 (zj 1 [.int .u32 s]),.arr v3 1 (natG .u32 (padN v3 n_1)),.arr v1 1 (kN [.int .u32 0])]))))))) ?_;simp only [q11,Tree.holds,ze,inR,lo,hi];refine⟨λhk=> ?_,λhk=> ?_⟩
   ·have hk:k<=(canon x).length:=by simp at hk; omega
    refine⟨⟨trivial,hko,by omega⟩,λ_=> ?_⟩;rw [if_pos trivial];have hkl:(o.take k).length=k:=by rw [List.length_take]; omega
    refine⟨⟨k+1,o.take k++[0],by simp [hkl],by simp [hkl]; omega,?_,?_⟩,by show _ - (k+1)<_ - k; omega,by simp [SG,magS,natS,za],?_,by kernel_rfl,Nat.zero_le _⟩
    ·rw [List.take_of_length_le (by simp [hkl])]; exact qC.2 ⟨hdo,by simp [dig]⟩
    ·rw [List.take_of_length_le (by simp [hkl]),zM]; simp [val,hvo]
    ·refine⟨trivial,⟨by simp [hkl],rfl,?_⟩,trivial⟩;intro j o' hj ho';have:o'=0:=by omega
     subst this;simp only [appG,zi,zj,natG];by_cases h:j<k
     ·rw [if_pos h];simp only [List.getD];rw [List.getElem?_append_left (by omega),List.getElem?_take,if_pos h]
     ·have:j=k:=by omega
      subst this;rw [if_neg h];simp [List.getElem?_append_right,hkl]
   ·have hk:k=(canon x).length+1:=by simp at hk; omega
    have hok:o.length=(canon x).length+1:=by omega
    rw [List.take_of_length_le (by omega)] at hdo hvo;refine⟨(y,s),⟨?_,by simp only [fits]; omega,by simp only [fits]; omega⟩,⟨_,rfl⟩,?_⟩
    ·simp only [eqL,eqA,eqA0,true_and,and_true];refine⟨za _ _ _,hsl.symm,?_⟩;have:=vw hsB
     rwa [hsl] at this
    intro V hV;simp only at hV ⊢;rw [hsl];rw [<- hV] at hV1 hV2
    have hVl:(canon V).length=m+2:=by
     have h1:=zE hV1
     have h2:B^(m+1)<=V:=by
      have:B^(m+1+1)=B^(m+1)*B:=Nat.pow_succ ..;rw [this] at hV2;have:B^(m+1)*2<=B^(m+1)*B:=Nat.mul_le_mul_left _ (by decide);omega
     have:=jN h2;omega
    have hV0:0<V:=by
     rcases Nat.eq_zero_or_pos V with h | h
     ·rw [h,zW] at hVl; simp at hVl
     ·exact h
    have eq0:((k:Int) - ((canon y).length:Int)).toNat=k - (canon y).length:=by omega
    rw [eq0];refine⟨by omega,λ_=>⟨by omega,λ_=>⟨by omega,λ_=>⟨by omega,λ_=> ?_⟩⟩⟩⟩
    have hqe:U/V=x/y/\U%V=x%y*s:=by
     rw [hU,hV];exact⟨Nat.mul_div_mul_right _ _ hs0,Nat.mul_mod_mul_right _ _ _⟩
    refine zc.loop (ι:=ID x y V U) (λi=>SD y s V i.u.length i.q.length i.j) (λi=>HD y V i.u i.q) (λi=>i.j)
     ⟨o,List.replicate (k - (canon y).length) 0,k - (canon y).length,hok,by simp; omega,by simp,hdo,qP _,by simp [val,hvo],?_⟩ 0 ?_ ?_ (by kernel_rfl)
    ·rw [hvo]
     have h1:U*2<=x*B:=by
      rw [hU,Nat.mul_assoc];refine Nat.mul_le_mul_left _ ?_;have:s*2<=s*(t+1):=Nat.mul_le_mul_left _ (by omega);omega
     have h2:x<B^(canon x).length:=by have:=zX (zl x); rwa [zo] at this
     have h3:B^(m+1+1)*B^(k - (canon y).length)<=2*V*B^(k - (canon y).length):=Nat.mul_le_mul_right _ hV2;rw [<- Nat.pow_add,show m+1+1+(k - (canon y).length)=(canon x).length+1 by omega,Nat.pow_succ] at h3;have h4:x*B<B^(canon x).length*B:=Nat.mul_lt_mul_of_pos_right h2 (by decide);rw [Nat.mul_assoc] at h3;omega
    ·refine⟨?_,?_,by kernel_rfl,Nat.zero_le _⟩
     ·simp [SD,hVl,hm,hok,hk,za]; omega
     ·simp [HD,za,uh]
    ·rintro⟨u,q,j,hul,hql,hjq,hdu,hdq,heq,hlt⟩;rcases j with _ | i
     ·refine zc.n G2.h [0,1,4,8,9,10,11,12,13,15,151,152] (let v14:=natG .u32 q;let v12:=inR .i64 ((canon y).length+1);let v9:=List.length (canon y)+1;let v8:=lps (inside (inside K128 0) 0) 0;let v7:=natG .u32 u;let v5:=inR .i64 ((-1:Int)+((canon y).length:Int)+(1:Int));let v4:=inR .i64 ((-1:Int)+((canon y).length:Int));let v3:=padN v9 V;let v11:=natG .u32 v3;let v1:=Int.toNat ((-1:Int)+((canon y).length:Int)+(1:Int)) - 0;.ite false (.side v4 (.side ((0:Int)<=(-1:Int)+((canon y).length:Int)/\(-1:Int)+((canon y).length:Int)<u.length) (.side (inR .u64 ↑(u.getD (0+Int.toNat ((-1:Int)+((canon y).length:Int))) 0)) (.side v4 (.S ((-1:Int)+((canon y).length:Int) - (1:Int)) (.side ((0:Int)<=(-1:Int)+((canon y).length:Int) - (1:Int)/\(-1:Int)+((canon y).length:Int) - (1:Int)<u.length) (.side (inR .u64 ↑(u.getD (0+Int.toNat ((-1:Int)+((canon y).length:Int) - (1:Int))) 0)) (.side v4 (.S ((-1:Int)+((canon y).length:Int) - (2:Int)) (.side ((0:Int)<=(-1:Int)+((canon y).length:Int) - (2:Int)/\(-1:Int)+((canon y).length:Int) - (2:Int)<u.length) (.side (inR .u64 ↑(u.getD (0+Int.toNat ((-1:Int)+((canon y).length:Int) - (2:Int))) 0)) (.S ((canon y).length-1) (.side ((0:Int)<=((canon y).length:Int) - (1:Int)/\((canon y).length:Int) - (1:Int)<((canon V).length:Int)) (.side (inR .u64 ↑(List.getD v3 (0+Int.toNat ((canon y).length-1)) 0)) (.S ((canon y).length-2) (.side ((0:Int)<=((canon y).length:Int) - (2:Int)/\((canon y).length:Int) - (2:Int)<((canon V).length:Int)) (.side (inR .u64 ↑(List.getD v3 (0+Int.toNat ((canon y).length-2)) 0)) (.ex (q10 [.int .u64 ↑(u.getD (0+Int.toNat ((-1:Int)+((canon y).length:Int))) 0),.int .u64 ↑(u.getD (0+Int.toNat ((-1:Int)+((canon y).length:Int) - (1:Int))) 0),.int .u64 ↑(u.getD (0+Int.toNat ((-1:Int)+((canon y).length:Int) - (2:Int))) 0),.int .u64 ↑(List.getD v3 (0+Int.toNat ((canon y).length-1)) 0),.int .u64 ↑(List.getD v3 (0+Int.toNat ((canon y).length-2)) 0)]) λn=>.all (λ(n_1:Nat)=>n_1=jr n.v n.y n.z 2 ((D5.t n*1000000000+D5.u n)/D5.y n) ((D5.t n*1000000000+D5.u n)%D5.y n)) λn=>let v13:=zj 1 [.int .u32 (n-1)];.side (inR .u32 n) (.ex (λ(u:List Nat)=>u.length=1/\1<=1/\1<4611686018427387904/\eqG 1 1 (zj 1 [.int .u32 n]) (natG .u32 u)/\dig (List.take 1 (List.drop 0 u))) λn_1=>.all (λ(x:Nat)=>x=val (List.take 1 (List.drop 0 n_1))) λn_2=>.ex (q11 [.sl (canon V).length 1 (zi v11 0),.sl (canon n_2).length 1 (zi (zj 1 [.int .u32 n]) 0)]) λn_3=>let v2:=List.length (canon n_3.1)+List.length (canon n_3.2);.all (λ(p:Nat)=>p=n_3.1*n_3.2) λn_4=>let v10:=natG .u32 (padN v2 n_4);.side v4 (.side v5 (.side ((0:Int)<=(-1:Int)/\(-1:Int)<=(-1:Int)+((canon y).length:Int)+(1:Int)/\(-1:Int)+((canon y).length:Int)+(1:Int)<=u.length) (.ex (λ(u_1:List Nat)=>u_1.length=u.length/\0+(Int.toNat ((-1:Int)+((canon y).length:Int)+(1:Int)) - 0)<=u.length/\Int.toNat ((-1:Int)+((canon y).length:Int)+(1:Int)) - 0<4611686018427387904/\eqG u.length 1 v7 (natG .u32 u_1)/\dig (List.take v1 (List.drop 0 u_1))) λn_5=>.all (λ(x:Nat)=>x=val (List.take v1 (List.drop 0 n_5))) λn_6=>.ex (q11 [.sl (canon n_6).length 1 (zi v7 0),.sl (canon n_4).length 1 (zi v10 0)]) λn_7=>.all (λ(r:Int)=>r=cmp3 n_7.1 n_7.2) λn_8=>.D (n_8<0) (.side (inR .u64 (n-1)) (.side (inR .u32 (n-1)) (.ex (λ(u:List Nat)=>u.length=1/\1<=1/\1<4611686018427387904/\eqG 1 1 v13 (natG .u32 u)/\dig (List.take 1 (List.drop 0 u))) λn_9=>.all (λ(x:Nat)=>x=val (List.take 1 (List.drop 0 n_9))) λn_10=>.ex (q11 [.sl (canon V).length 1 (zi v11 0),.sl (canon n_10).length 1 (zi v13 0)]) λn_11=>let v6:=List.length (canon n_11.1)+List.length (canon n_11.2);.all (λ(p:Nat)=>p=n_11.1*n_11.2) λn_12=>.side v4 (.side v5 (.side ((0:Int)<=(-1:Int)/\(-1:Int)<=(-1:Int)+((canon y).length:Int)+(1:Int)/\(-1:Int)+((canon y).length:Int)+(1:Int)<=u.length) (.ex (λ(u_1:List Nat)=>u_1.length=u.length/\0+(Int.toNat ((-1:Int)+((canon y).length:Int)+(1:Int)) - 0)<=u.length/\Int.toNat ((-1:Int)+((canon y).length:Int)+(1:Int)) - 0<4611686018427387904/\eqG u.length 1 v7 (natG .u32 u_1)/\dig (List.take v1 (List.drop 0 u_1))) λn_13=>.all (λ(x:Nat)=>x=val (List.take v1 (List.drop 0 n_13))) λn_14=>.ex (q12 [.sl (canon n_14).length 1 (zi v7 0),.sl (canon n_12).length 1 (zi (natG .u32 (padN v6 n_12)) 0)]) λn_15=>.all (λ(d:Nat)=>d=n_15.1 - n_15.2) λn_16=>.side v12 (.leaf (.loop v8.1 v8.2 [Z 0,Z 1,(4,.osl 4 1 0 q.length),(8,.int .u32 s),(9,.i (canon y).length),(10,.osl 1 1 0 u.length),(11,.osl 3 1 0 (canon V).length),(12,.i (-1:Int)),(13,.int .u64 (n-1)),(15,.sl (canon n_16).length 1 (natG .u32 (canon n_16))),(151,.i ((canon y).length+1)),(152,.i 0)] [.dead,.arr u.length 1 v7,.dead,.arr v9 1 v11,.arr q.length 1 v14,.arr 1 1 (zj 1 [.int .u32 n]),.arr v2 1 v10,.arr 1 1 (zj 1 [.int .u32 (n-1)]),.arr v6 1 (natG .u32 (padN v6 n_12))])))))))) (.side v4 (.side v5 (.side ((0:Int)<=(-1:Int)/\(-1:Int)<=(-1:Int)+((canon y).length:Int)+(1:Int)/\(-1:Int)+((canon y).length:Int)+(1:Int)<=u.length) (.ex (λ(u_1:List Nat)=>u_1.length=u.length/\0+(Int.toNat ((-1:Int)+((canon y).length:Int)+(1:Int)) - 0)<=u.length/\Int.toNat ((-1:Int)+((canon y).length:Int)+(1:Int)) - 0<4611686018427387904/\eqG u.length 1 v7 (natG .u32 u_1)/\dig (List.take v1 (List.drop 0 u_1))) λn_9=>.all (λ(x:Nat)=>x=val (List.take v1 (List.drop 0 n_9))) λn_10=>.ex (q12 [.sl (canon n_10).length 1 (zi v7 0),.sl (canon n_4).length 1 (zi v10 0)]) λn_11=>.all (λ(d:Nat)=>d=n_11.1 - n_11.2) λn_12=>.side v12 (.leaf (.loop v8.1 v8.2 [Z 0,Z 1,(4,.osl 4 1 0 q.length),(8,.int .u32 s),(9,.i (canon y).length),(10,.osl 1 1 0 u.length),(11,.osl 3 1 0 (canon V).length),(12,.i (-1:Int)),(13,.int .u64 n),(15,.sl (canon n_12).length 1 (natG .u32 (canon n_12))),(151,.i ((canon y).length+1)),(152,.i 0)] [.dead,.arr u.length 1 v7,.dead,.arr v9 1 v11,.arr q.length 1 v14,.arr 1 1 (zj 1 [.int .u32 n]),.arr v2 1 v10])))))))))))))))))))))))))))) (.ex (λ(u_1:List Nat)=>u_1.length=u.length/\0+u.length<=u.length/\u.length<4611686018427387904/\eqG u.length 1 v7 (natG .u32 u_1)/\dig (List.take u.length (List.drop 0 u_1))) λn=>.all (λ(x:Nat)=>x=val (List.take u.length (List.drop 0 n))) λn=>.ex (q13 [.sl (canon n).length 1 (zi v7 0),.int .u32 s]) λn=>.all (λ(r:Nat×Nat)=>r=(n.1/n.2,n.1%n.2)) λn=>.ex (λ(u:List Nat)=>u.length=q.length/\0+q.length<=q.length/\q.length<4611686018427387904/\eqG q.length 1 v14 (natG .u32 u)/\dig (List.take q.length (List.drop 0 u))) λn_1=>.all (λ(x:Nat)=>x=val (List.take q.length (List.drop 0 n_1))) λn_2=>.R [.osl 4 1 0 (canon n_2).length,.sl (canon n.1).length 1 (natG .u32 (canon n.1))] [.dead,.arr u.length 1 v7,.dead,.arr v9 1 v11,.arr q.length 1 v14])) ?_;simp only [q10,q11,q12,q13,Tree.holds,ze,inR,lo,hi];refine⟨λhj=>by simp at hj,λhj=> ?_⟩;simp only [List.drop_zero,Nat.pow_zero,Nat.mul_one] at heq hlt
      have hdiv:U/V=val q/\U%V=val u:=by
       rw [heq];exact⟨by rw [Nat.mul_add_div hV0,Nat.div_eq_of_lt hlt,Nat.add_zero],by rw [Nat.mul_add_mod,Nat.mod_eq_of_lt hlt]⟩
      have hqv:val q=x/y:=by rw [<- hdiv.1,hqe.1]
      have huv:val u=x%y*s:=by rw [<- hdiv.2,hqe.2]
      refine⟨u,⟨rfl,by omega,by omega,za _ _ _,by simpa using hdu⟩,⟨_,rfl⟩,?_⟩;intro X hX;have hX:X=x%y*s:=by simpa [huv] using hX
      have hw:val ((u.drop 0).take u.length)=X:=by simp [huv,hX]
      have hXl:=jR (k:=.u32) (u:=u) (off:=0) (n:=u.length) (by simpa using hdu) hw;have hmy:=Nat.mod_lt x hy0
      have hXlen:(canon X).length<=u.length:=by
       refine zE ?_;rw [hX,<- huv]; exact zX hdu
      refine⟨(X,s),⟨?_,by simp only [fits]; omega,hs0,hsB⟩,⟨_,rfl⟩,?_⟩
      ·simp only [eqL,eqA,eqA0,true_and,and_true];exact hXl
      rintro r rfl;have hXs:X/s=x%y:=by rw [hX]; exact Nat.mul_div_cancel _ hs0
      simp only [hXs];refine⟨q,⟨rfl,by omega,by omega,za _ _ _,by simpa using hdq⟩,⟨_,rfl⟩,?_⟩;intro Y hY;have hY:Y=x/y:=by simpa [hqv] using hY
      subst hY;refine RetR.out0 hq (λh=>by cases h) ?_;have hw2:val ((q.drop 0).take q.length)=x/y:=by simp [hqv]
      simp only [resV,exp2,List.map_cons,List.map_nil,exp1,exp0,ren0,zO,frz1,jZ,List.getElem?_cons_zero,List.getElem?_cons_succ,if_true,eqA2,eqL1,eqA,eqA0,magS,natS,true_and,and_true];exact⟨jR (by simpa using hdq) hw2,za _ _ _⟩
     ·exact Xo hm hx hs0 hsB hV1 hV2 hVl hV0 hul hql hjq hdu hdq heq hlt
end Go.Proofs.Tryz
end
