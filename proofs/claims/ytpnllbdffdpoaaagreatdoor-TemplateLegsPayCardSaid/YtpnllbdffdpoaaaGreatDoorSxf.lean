/- Part 6 of the proof. -/
import Derived.Test.YtpnllbdffdpoaaaGreatDoorSxe
import Derived.Test.YtpnllbdffdpoaaaGreatDoorProg
set_option linter.unusedVariables false
set_option linter.unusedSimpArgs false
set_option linter.unusedSectionVars false
noncomputable def Go.Sx.aA(f:Go.Func):List Go.Sx.Item:=[.code (f.body.getD .skip)]
section
set_option maxRecDepth 100000
open Go Go.Sx Go.Proofs Go.Nov
namespace Go.Proofs.Tryz
attribute [local simp] eqKV eqA eqA0 eqH eqB eqL eqL0
noncomputable def K142:=Go.Sx.aA f142
theorem hmix:prog.follows .mixedOrders=true:=by decide +kernel
def noG:Nat->Option Ctr:=λ_=>none
theorem zw:∀ g c,noG g=some c->ze prog g c:=λ_ _ h=>by cases h
def ztc:AV->Nat
 | .int _ n=>n.toNat
 | _=>0
def decN(n:Nat)(g:Nat->Nat->AV):List Nat:=(List.range n).map λj=>ztc (g j 0)
theorem ux(k:IntKind)(l:List Nat):decN l.length (natG k l)=l:=by
 apply List.ext_getElem (by simp [decN]);intro j h1 h2;simp [decN,natG,ztc,h2]
theorem za(n sz:Nat)(g:Nat->Nat->AV):eqG n sz g g:=λ_ _ _ _=>rfl
theorem Z9{k:IntKind}{l:List Nat}{v:Int}(hv:0<=v):eqG (l.length+1) 1 (appG l.length (natG k l) (zi (zj 1 [.int k v]) 0)) (natG k (l++[v.toNat])):=by
 intro j o hj ho;have ho:o=0:=by omega
 subst ho;simp only [appG,zi,zj,natG];by_cases h:j<l.length
 ·simp [h,bT]
 ·have:j=l.length:=by omega
  subst this;simp [Int.toNat_of_nonneg hv]
theorem jv{k:IntKind}{o:List Nat}{v:Int}{d:Nat}{r:Heap}(hv:v=d):eqH (.arr (o.length+1) 1 (appG o.length (natG k o) (zi (zj 1 [.int k v]) 0))::r) [.arr (o++[d]).length 1 (natG k (o++[d]))]:=by
 subst hv;refine⟨⟨by simp,rfl,?_⟩,by simp [eqH]⟩;have:=Z9 (k:=k) (l:=o) (v:=(d:Int)) (by omega);simpa using this
theorem vA{k:IntKind}{l:List Nat}{v:Int}{i:Nat}(hv:0<=v)(hi:i<l.length):eqG l.length 1 (updG (natG k l) i 0 [.int k v]) (natG k (l.set i v.toNat)):=by
 intro j o hj ho;have ho:o=0:=by omega
 subst ho;simp only [updG,natG,aL,List.length_nil];by_cases h:j=i
 ·subst h;simp [hj,Int.toNat_of_nonneg hv]
 ·simp only [h,false_and,if_false];simp [bS (λe=>h e.symm)]
def magS(x:Nat):AV:=natS .u32 (canon x)
def fits(x:Nat):Prop:=(canon x).length<1000000
theorem YA{m off n:Nat}{k:IntKind}{o:List Nat}{r:Heap} : new0 (.arr m 1 (natG k o)::r) [] (.osl 0 1 off n):=by
 intro _;simp only [exp0,zO,frz1,wg,List.getElem?_cons_zero,if_true];intro j o' _ _;rfl
theorem U1{m off n:Nat}{g:Nat->Nat->AV}{r:Heap} : exp0 (.arr m 1 g::r) [] (.osl 0 1 off n) = .sl n 1 (zi g off):=by
 simp [exp0,zO,frz1,wg]
theorem KO{k:IntKind}{o l:List Nat}(h:qU o=l):eqA0 (.sl (tlen o) 1 (zi (natG k o) 0)) (natS k l):=by
 subst h;simp only [eqA0,natS,qU,aH,true_and];refine⟨by have:=qo o; omega,?_⟩;intro j o' hj ho';have:o'=0:=by omega
 subst this;simp [zi,natG,bR,hj]
def ctr2{R:Type}(fresh:Bool)(pre:Nat->Nat->Prop)(post:Nat->Nat->R->Prop)(out:Nat->Nat->R->AV×Heap):Ctr:=
 ctrP fresh (λp:Nat×Nat=>[magS p.1,magS p.2]) (λp=>pre p.1 p.2) (λp=>post p.1 p.2) (λp=>out p.1 p.2)
theorem Qm{R:Type}{fresh:Bool}{pre:Nat->Nat->Prop}{post:Nat->Nat->R->Prop}{out:Nat->Nat->R->AV×Heap}{g:Nat}{fn:Func}{c:Code}(hf:prog.funcs[g]?=some fn)(hb:fn.body=some c) (hn:(fn.name == "runtime.NumGoroutine")=false)
  (H:∀ x y,pre x y->∀ (O:Nat->Prop) (w0:World) (Q:AV×Heap->Prop),(∀ r,post x y r->Q (out x y r))->zc prog fn O 0 w0 [] (λ_ _ _=>False) (RetR (ctr2 fresh pre post out) 0 Q) [.code c] (entry fn [magS x,magS y])):ze prog g (ctr2 fresh pre post out):=
 zh hf hb hn λp hp=>H p.1 p.2 hp
def Jb:Ctr where
 fresh:=false
 spec args hc:=match args,hc with
  | [.sl n 1 g],[]=>.ex (λl:List Nat=>dig l/\l.length=n/\n<2^62/\eqG n 1 g (natG .u32 l)) λl=>.all (λx=>x=val l) λx=>.leaf (magS x,[])
  | [.osl 0 1 off n],[.arr m 1 g]=>.ex (λu:List Nat=>u.length=m/\off+n<=m/\n<2^62/\eqG m 1 g (natG .u32 u)/\dig ((u.drop off).take n)) λu=>.all (λx=>x=val ((u.drop off).take n)) λx=>.leaf (.osl 0 1 off (canon x).length,[.arr m 1 g])
  | _,_=>.fail
def S75o(off n:Nat):KV:=[(0,.osl 0 1 off n)]
def S75(l:List Nat)(n:Nat):KV:=[(0,.sl n 1 (natG .u32 l))]
theorem X5:ze prog 142 Jb:=by
 intro args hc Q hq hfr;unfold Jb at hq
 dsimp only at hq
 split at hq
 ·rename_i n g;obtain⟨l,⟨hdl,hln,hn,hg⟩,_,hq⟩:=hq;obtain⟨x,hv⟩:∃ x,val l=x:=⟨_,rfl⟩;replace hq:=hq x hv.symm;have hcan:qU l=canon x:=by rw [zW hdl,hv]
  simp only [magS,<- hcan] at hq;refine jI.le (args':=[natS .u32 l]) (by simp [natS,hln,hg]) (fn_k (fn:=f142) (c:=f142.body.getD .skip) rfl rfl rfl hfr λO w0 I0 h0=> ?_);refine zc.n zw [0] (.leaf (.loop (lps K142 0).1 (lps K142 0).2 [(0,.sl l.length 1 (natG .u32 l))] [])) ?_;refine zc.loop (ι:={n:Nat // tlen l<=n/\n<=l.length}) (λx=>S75 l x.1) (λ_=>[]) (λx=>x.1) ⟨l.length,qo l,aJ _⟩ 0 ?_ ?_ (by kernel_rfl)
  ·exact⟨by simp [S75,eqG],by simp,by kernel_rfl,aI _⟩
  ·rintro⟨n,h1,h2⟩;refine zc.n zw [0] (.side (decide ((0:Int)<n)=true->inR .i64 (n-1)) (.side (decide ((0:Int)<n)=true->(0:Int)<=n - (1:Int)/\(n:Int) - (1:Int)<n) (.ite (bif decide ((0:Int)<n) then decide ((↑(l.getD (Int.toNat (n-1)) 0):Int)=0) else false) (.S (n-1) (.side ((0:Int)<=n - (1:Int)/\(n:Int) - (1:Int)<=n) (.leaf (.back 0 [(0,.sl (Int.toNat (n-1) - 0) 1 (zi (natG .u32 l) 0))] [])))) (.R [.sl n 1 (natG .u32 l)] [])))) ?_;simp only [Tree.holds,zf,inR,lo,hi,Bool.cond_eq_ite];refine⟨by simp; omega,λ_=>⟨by simp; omega,λ_=>⟨λh=> ?_,λh=> ?_⟩⟩⟩
   ·have hp:0<n:=by
     rcases bC n with rfl | hp
     ·simp at h
     ·exact hp
    have e:((n:Int) - 1).toNat=n - 1:=by omega
    have hz:l.getD (n - 1) 0=0:=by
     rw [aP (by simpa using hp),e] at h;simpa only [aK,Int.natCast_eq_zero] using h
    refine⟨by omega,λ_=>⟨by omega,λ_=> ?_⟩⟩;rw [aP trivial];refine⟨⟨n - 1,?_,by omega⟩,by show n - 1<n; omega,by simp [S75,eqG,zi,e],by simp,by kernel_rfl,aI _⟩;rcases aR (n - 1) (tlen l) with h3 | h3
    ·have h4:tlen l - 1=n - 1:=by omega
     exact absurd (h4▸hz) (q9 l (by omega))
    ·exact h3
   ·have hn:n=tlen l:=by
     rcases aR (tlen l) n with h3 | h3
     ·exfalso;have e:((n:Int) - 1).toNat=n - 1:=by omega
      rw [aP (by simp; omega),e] at h;have:=js l (n - 1) (by omega);simp only [aV,Int.natCast_eq_zero] at h;exact h this
     ·omega
    subst hn;refine⟨[],rfl,by simp,by simp,by simp [Jb],_,[],qT ?_,.inl (by simp),rfl,hq⟩;have:=qo l;simp only [resV,exp2,exp1,exp0,ren0,eqA2,eqA,natS,eqA0,qU,aH,Nat.min_eq_left this,true_and];intro j o hj ho;simp only [natG,List.getD,bR,aP hj]
 ·rename_i off n m g;obtain⟨l,⟨hlm,hm,hn,hg,hdl⟩,_,hq⟩:=hq;obtain⟨x,hv⟩:∃ x,val ((l.drop off).take n)=x:=⟨_,rfl⟩;replace hq:=hq x hv.symm;subst hlm;simp only [<- hv,<- Uo hdl] at hq;refine jI.leH (hc':=[.arr l.length 1 (natG .u32 l)]) (by simp [hg]) rfl (fn_k (fn:=f142) (c:=f142.body.getD .skip) rfl rfl rfl (by simp [Jb]) λO w0 I0 h0=> ?_);refine zc.n zw [0] (.leaf (.loop (lps K142 0).1 (lps K142 0).2 [(0,.osl 0 1 off n)] [.arr l.length 1 (natG .u32 l)])) ?_
  have hget:∀ j,j<n->((l.drop off).take n).getD j 0=l.getD (off+j) 0:=by
   intro j hj;simp [bR,hj,List.getElem?_drop]
  have htl:tlen ((l.drop off).take n)<=n:=by
   have:=qo ((l.drop off).take n);simp at this; omega
  refine zc.loop (ι:={k:Nat // tlen ((l.drop off).take n)<=k/\k<=n}) (λx=>S75o off x.1) (λ_=>[.arr l.length 1 (natG .u32 l)]) (λx=>x.1) ⟨n,htl,aJ _⟩ 0 ?_ ?_ (by kernel_rfl)
  ·exact⟨by simp [S75o],by simp [eqG],by kernel_rfl,aJ _⟩
  ·rintro⟨k,h1,h2⟩;refine zc.n zw [0] (.side (decide ((0:Int)<k)=true->inR .i64 (k-1)) (.side (decide ((0:Int)<k)=true->(0:Int)<=k - (1:Int)/\(k:Int) - (1:Int)<k) (.ite (bif decide ((0:Int)<k) then decide ((↑(l.getD (off+Int.toNat (k-1)) 0):Int)=0) else false) (.S (k-1) (.side ((0:Int)<=k - (1:Int)/\(k:Int) - (1:Int)<=k) (.leaf (.back 0 [(0,.osl 0 1 (off+0) (Int.toNat (k-1) - 0))] [.arr l.length 1 (natG .u32 l)])))) (.R [.osl 0 1 off k] [.arr l.length 1 (natG .u32 l)])))) ?_;simp only [Tree.holds,zf,inR,lo,hi,Bool.cond_eq_ite];refine⟨by simp; omega,λ_=>⟨by simp; omega,λ_=>⟨λh=> ?_,λh=> ?_⟩⟩⟩
   ·have hp:0<k:=by
     rcases bC k with rfl | hp
     ·simp at h
     ·exact hp
    have e:((k:Int) - 1).toNat=k - 1:=by omega
    have hz:((l.drop off).take n).getD (k - 1) 0=0:=by
     rw [aP (by simpa using hp),e] at h;rw [hget _ (by omega)];simpa only [aK,Int.natCast_eq_zero] using h
    refine⟨by omega,λ_=>⟨by omega,λ_=> ?_⟩⟩;rw [aP trivial];refine⟨⟨k - 1,?_,by omega⟩,by show k - 1<k; omega,by simp [S75o,e],by simp [eqG],by kernel_rfl,aJ _⟩;rcases aR (k - 1) (tlen ((l.drop off).take n)) with h3 | h3
    ·have h4:tlen ((l.drop off).take n) - 1=k - 1:=by omega
     exact absurd (h4▸hz) (q9 _ (by omega))
    ·exact h3
   ·have hn:k=tlen ((l.drop off).take n):=by
     rcases aR (tlen ((l.drop off).take n)) k with h3 | h3
     ·exfalso;have e:((k:Int) - 1).toNat=k - 1:=by omega
      rw [aP (by simp; omega),e] at h;have:=js ((l.drop off).take n) (k - 1) (by omega);rw [hget _ (by omega)] at this;simp only [aV,Int.natCast_eq_zero] at h;exact h this
     ·omega
    subst hn;exact⟨[0],rfl,by simp,by simp,by simp [Jb],_,[.arr l.length 1 g],qT (by simp [resV,exp2,exp1,exp0,zO,eqA2]),.inl ⟨⟨rfl,rfl,λj o hj ho=>(hg j o hj ho).symm⟩,trivial⟩,rfl,hq⟩
 ·exact hq.elim
noncomputable def K109:=Go.Sx.aA f109
noncomputable def K146:=Go.Sx.aA f146
def cmp3(x y:Nat):Int:=if x<y then -1 else if y<x then 1 else 0
def ZF:Ctr:=ctr2 true (λx y=>fits x/\fits y) (λx y r=>r=cmp3 x y) (λ_ _ r=>(.i r,[]))
def S73(x y k:Nat):KV:=[(0,magS x),(1,magS y),(5,.i ((k:Int) - 1))]
theorem Zi:ze prog 109 ZF:=by
 refine Qm (fn:=f109) (c:=f109.body.getD .skip) rfl rfl rfl λx y hp O w0 Q hq=> ?_
 replace hq:=hq _ rfl;obtain⟨hx,hy⟩:=hp;simp only [fits] at hx hy;refine zc.n zw [0,1,5] (.N (((canon x).length:Int)=((canon y).length:Int)) (.S ((canon x).length-(canon y).length) (.R [.i (max (-1:Int) (min (1:Int) (((canon x).length:Int) - ((canon y).length:Int))))] [])) (.S ((canon x).length-1) (.leaf (.loop (lps K109 0).1 (lps K109 0).2 [(0,.sl (canon x).length 1 (natG .u32 (canon x))),(1,.sl (canon y).length 1 (natG .u32 (canon y))),(5,.i ((canon x).length-1))] [])))) ?_;simp only [Tree.holds,zf,inR,lo,hi,Bool.cond_eq_ite];refine⟨λh=>⟨by omega,λ_=>RetR.scal hq rfl ?_⟩,λh=>⟨by omega,λ_=> ?_⟩⟩
 ·simp only [resV,cmp3];congr 1
  have hne:(canon x).length≠(canon y).length:=by
   simp only [Bool.not_eq_true',aV] at h;omega
  rcases Nat.lt_or_gt_of_ne hne with h1 | h1
  ·have:=qp h1;rw [aP this]; omega
  ·have:=qp h1;rw [aO (by omega),aP this]; omega
 ·have hlen:(canon x).length=(canon y).length:=by
   simp only [Bool.not_eq_false',aK] at h;omega
  refine zc.loop (ι:={k:Nat // k<=(canon x).length/\∀ j,k<=j->(canon x).getD j 0=(canon y).getD j 0}) (λk=>S73 x y k.1) (λ_=>[]) (λk=>k.1) ⟨(canon x).length,aJ _,λj hj=>by simp [hj,hlen▸hj]⟩ 0 ?_ ?_ (by kernel_rfl)
  ·exact⟨by simp [S73,magS,natS,za],by simp,by kernel_rfl,aI _⟩
  ·rintro⟨k,h1,h2⟩;refine zc.n zw [0,1,5] (let v1:=Int.toNat (k-1);.D ((0:Int)<=k - (1:Int)) (.side ((0:Int)<=k - (1:Int)/\(k:Int) - (1:Int)<((canon x).length:Int)) (.side ((0:Int)<=k - (1:Int)/\(k:Int) - (1:Int)<((canon y).length:Int)) (.N ((↑(List.getD (canon x) v1 0):Int)=(↑(List.getD (canon y) v1 0):Int)) (.side ((0:Int)<=k - (1:Int)/\(k:Int) - (1:Int)<((canon x).length:Int)) (.side ((0:Int)<=k - (1:Int)/\(k:Int) - (1:Int)<((canon y).length:Int)) (.D ((↑(List.getD (canon x) v1 0):Int)<(↑(List.getD (canon y) v1 0):Int)) (.R [.i (-1:Int)] []) (.R [.i 1] [])))) (.S (k-1-1) (.leaf (.back 0 [(0,.sl (canon x).length 1 (natG .u32 (canon x))),(1,.sl (canon y).length 1 (natG .u32 (canon y))),(5,.i (k-1-1))] [])))))) (.R [.i 0] [])) ?_;simp only [Tree.holds,zf,inR,lo,hi,Bool.cond_eq_ite];have e:((k:Int) - 1).toNat=k - 1:=by omega
   rw [e];refine⟨λhk=> ?_,λhk=>RetR.scal hq rfl ?_⟩
   ·have hk:0<k:=by simp at hk; omega
    refine⟨by omega,λ_=>⟨by omega,λ_=>⟨λhne=>⟨by omega,λ_=>⟨by omega,λ_=>⟨λhlt=>RetR.scal hq rfl ?_,λhlt=>RetR.scal hq rfl ?_⟩⟩⟩,λheq=>⟨by omega,λ_=> ?_⟩⟩⟩⟩
    ·have:=uJ (zm x) hlen (i:=k - 1) (λj hj=>h2 j (by omega)) (by simpa using hlt);rw [zq,zq] at this;simp [resV,cmp3,this]
    ·have hgt:(canon y).getD (k - 1) 0<(canon x).getD (k - 1) 0:=by
      simp only [Bool.not_eq_true',aV] at hne hlt;omega
     have:=uJ (zm y) hlen.symm (i:=k - 1) (λj hj=>(h2 j (by omega)).symm) hgt;rw [zq,zq] at this;simp only [resV,cmp3];rw [aO (by omega),aP this]
    ·rw [aP trivial];refine⟨⟨k - 1,by omega,λj hj=> ?_⟩,by show k - 1<k; omega,by simp [S73,magS,natS,za]; omega,by simp,by kernel_rfl,aI _⟩;rcases aR j k with hj2 | hj2
     ·have:j=k - 1:=by omega
      subst this;simp only [Bool.not_eq_false',aK] at heq;omega
     ·exact h2 j hj2
   ·have hk:k=0:=by simp at hk; omega
    subst hk
    have:canon x=canon y:=by
     apply List.ext_getElem hlen;intro j hj hj';have:=h2 j (aI _);simpa [hj,hj'] using this
    have:x=y:=by rw [<- zq x,this,zq]
    subst this;simp [resV,cmp3]
noncomputable def G1:=tb X5 tz
def XF:Ctr:=ctr2 true (λx y=>fits x/\y<=x) (λx y d=>d=x - y) (λ_ _ d=>(magS d,[]))
def S78(x y:Nat)(o:List Nat)(c i:Nat):KV:=[(0,magS x),(1,magS y),(5,.osl 0 1 0 o.length),(6,.int .u32 (c:Int)),(13,magS x),(14,.i ((canon x).length:Int)),(15,.i (i:Int))]
structure I78(x y:Nat) where
 o:List Nat
 c:Nat
 i:Nat
 len:o.length=i
 le:i<=(canon x).length
 dg:dig o
 c1:c<=1
 eq:val ((canon x).take i)+B^i*c=val o+val ((canon y).take i)
theorem Ym{x y:Nat}(h:x<=y):(canon x).length<=(canon y).length:=by
 rcases aR (canon y).length (canon x).length with h1 | h1
 ·have:=qp h1; omega
 ·exact h1
theorem zu9{x y o c i d c':Nat}{l m:List Nat}(h:val (l.take i)+B^i*c=o+val (m.take i))(he:l.getD i 0+B*c'=d+m.getD i 0+c):val (l.take (i+1))+B^(i+1)*c'=o+B^i*d+val (m.take (i+1)):=by
 rw [zt,zt,Nat.pow_succ];have:=congrArg (B^i * ·) he;simp only [bN] at this;rw [bI];omega
theorem V8(l:List Nat)(d:Nat):val (l++[d])=val l+B^l.length*d:=by rw [zN]; simp [val]
theorem WN:ze prog 146 XF:=by
 refine Qm (fn:=f146) (c:=f146.body.getD .skip) rfl rfl rfl λx y hp O w0 Q hq=> ?_
 replace hq:=hq _ rfl;obtain⟨hx,hyx⟩:=hp;simp only [fits] at hx hyx;have hlen:=Ym hyx;refine zc.n G1.h [0,1,5,6,13,14,15] (.side ((0:Int)<=0/\(0:Int)<=((canon x).length:Int)/\inR .i64 (canon x).length/\Int.toNat (canon x).length*4<=140737488355328) (.leaf (.loop (lps K146 0).1 (lps K146 0).2 [(0,.sl (canon x).length 1 (natG .u32 (canon x))),(1,.sl (canon y).length 1 (natG .u32 (canon y))),(5,.osl 0 1 0 0),(6,.int .u32 0),(13,.sl (canon x).length 1 (natG .u32 (canon x))),(14,.i (canon x).length),(15,.i 0)] [.arr 0 1 (kT [.int .u32 0])]))) ?_;simp only [Tree.holds,zf,inR,lo,hi];refine⟨by omega,λ_=> ?_⟩;refine zc.loop (ι:=I78 x y) (λs=>S78 x y s.o s.c s.i) (λs=>[.arr s.o.length 1 (natG .u32 s.o)]) (λs=>(canon x).length - s.i) ⟨[],0,0,rfl,aI _,by simp [dig],by omega,by simp [val]⟩ 0 ?_ ?_ (by kernel_rfl)
 ·exact⟨by simp [S78,magS,natS,za],by simp [eqG],by kernel_rfl,aI _⟩
 ·rintro⟨o,c,i,ho,hle,hd,hc,he⟩;subst ho;have hB:B=1000000000:=rfl;refine zc.n G1.h [0,1,5,6,13,14,15] (let v12:=natG .u32 o;let v11:=natG .u32 (canon x);let v7:=o.length+1;let v5:=inR .i64 (o.length+1);let v3:List (Nat×AV):=[(0,.sl (canon x).length 1 v11),(1,.sl (canon y).length 1 (natG .u32 (canon y))),(5,.osl 0 1 0 v7),(6,.int .u32 0),(13,.sl (canon x).length 1 v11),(14,.i (canon x).length),(15,.i (o.length+1))];let v2:List (Nat×AV):=[(0,.sl (canon x).length 1 v11),(1,.sl (canon y).length 1 (natG .u32 (canon y))),(5,.osl 0 1 0 v7),(6,.int .u32 1),(13,.sl (canon x).length 1 v11),(14,.i (canon x).length),(15,.i (o.length+1))];let v1:=Int.toNat o.length;let v10:=zj 1 [.int .u32 ((↑(List.getD (canon x) v1 0):Int) - c)];let v9:=inR .u32 ((↑(List.getD (canon x) v1 0):Int)+(1000000000:Int));let v8:=zj 1 [.int .u32 ((↑(List.getD (canon x) v1 0):Int)+(1000000000:Int) - c)];let v6:=zj 1 [.int .u32 ((↑(List.getD (canon x) v1 0):Int) - ((c:Int)+(↑(List.getD (canon y) v1 0):Int)))];let v4:=zj 1 [.int .u32 ((↑(List.getD (canon x) v1 0):Int)+(1000000000:Int) - ((c:Int)+(↑(List.getD (canon y) v1 0):Int)))];.D ((o.length:Int)<((canon x).length:Int)) (.side ((0:Int)<=o.length/\(o.length:Int)<((canon x).length:Int)) (.D ((o.length:Int)<((canon y).length:Int)) (.side ((0:Int)<=o.length/\(o.length:Int)<((canon y).length:Int)) (.side (inR .u32 ((c:Int)+(↑(List.getD (canon y) v1 0):Int))) (.D ((↑(List.getD (canon x) v1 0):Int)<c+(↑(List.getD (canon y) v1 0):Int)) (.side v9 (.side (inR .u32 ((↑(List.getD (canon x) v1 0):Int)+(1000000000:Int) - ((c:Int)+(↑(List.getD (canon y) v1 0):Int)))) (.side (0=0/\o.length<=o.length/\v7 *4<=140737488355328) (.side v5 (.leaf (.back 0 v2 [.arr v7 1 (appG o.length v12 (zi v4 0)),.arr 1 1 v4])))))) (.side (inR .u32 ((↑(List.getD (canon x) v1 0):Int) - ((c:Int)+(↑(List.getD (canon y) v1 0):Int)))) (.side (0=0/\o.length<=o.length/\v7 *4<=140737488355328) (.side v5 (.leaf (.back 0 v3 [.arr v7 1 (appG o.length v12 (zi v6 0)),.arr 1 1 v6])))))))) (.D ((↑(List.getD (canon x) v1 0):Int)<c) (.side v9 (.side (inR .u32 ((↑(List.getD (canon x) v1 0):Int)+(1000000000:Int) - c)) (.side (0=0/\o.length<=o.length/\v7 *4<=140737488355328) (.side v5 (.leaf (.back 0 v2 [.arr v7 1 (appG o.length v12 (zi v8 0)),.arr 1 1 v8])))))) (.side (inR .u32 ((↑(List.getD (canon x) v1 0):Int) - c)) (.side (0=0/\o.length<=o.length/\v7 *4<=140737488355328) (.side v5 (.leaf (.back 0 v3 [.arr v7 1 (appG o.length v12 (zi v10 0)),.arr 1 1 v10])))))))) (.ex (λ(u:List Nat)=>u.length=o.length/\0+o.length<=o.length/\o.length<4611686018427387904/\eqG o.length 1 v12 (natG .u32 u)/\dig (List.take o.length (List.drop 0 u))) λn=>.all (λ(x:Nat)=>x=val (List.take o.length (List.drop 0 n))) λn=>.R [.osl 0 1 0 (canon n).length] [.arr o.length 1 v12])) ?_;simp only [Tree.holds,zf,inR,lo,hi,aD,ux];have ha:=zP (zm x) o.length;have hb:=zP (zm y) o.length
  have hnext:∀ d c':Nat,d<B->c'<=1->o.length<(canon x).length->(canon x).getD o.length 0+B*c'=d+(canon y).getD o.length 0+c ->
    ∃ s:I78 x y,s.o=o++[d]/\s.c=c'/\s.i=o.length+1:=λd c' h1 h2 h3 h4=>
   ⟨⟨o++[d],c',o.length+1,by simp,h3,qF.2 ⟨hd,by simp [dig,h1]⟩,h2,by rw [V8]; exact zu9 (x:=x) (y:=y) he h4⟩,rfl,rfl,rfl⟩
  refine⟨λhlt=> ?_,λhge=> ?_⟩
  ·have hlt:o.length<(canon x).length:=by simp at hlt; omega
   refine⟨by omega,λ_=>⟨λhb2=>⟨by simp at hb2; omega,λ_=>⟨by omega,λ_=>⟨λhlt2=> ?_,λhge2=> ?_⟩⟩⟩,λhb2=>⟨λhlt2=> ?_,λhge2=> ?_⟩⟩⟩
   ·simp only [aK] at hlt2;refine⟨by omega,λ_=>⟨by omega,λ_=>⟨⟨trivial,by omega,by omega⟩,λ_=>⟨by omega,λ_=> ?_⟩⟩⟩⟩;obtain⟨s,h1,h2,h3⟩:=hnext ((canon x).getD o.length 0+B - (c+(canon y).getD o.length 0)) 1 (by omega) (by omega) hlt (by omega);rw [aP trivial];refine⟨s,by show _ - s.i<_; omega,by simp [S78,h1,h2,h3,magS,natS,za],by rw [h1]; exact jv (by omega),by kernel_rfl,aI _⟩
   ·simp only [aV] at hge2;refine⟨by omega,λ_=>⟨⟨trivial,by omega,by omega⟩,λ_=>⟨by omega,λ_=> ?_⟩⟩⟩;obtain⟨s,h1,h2,h3⟩:=hnext ((canon x).getD o.length 0 - (c+(canon y).getD o.length 0)) 0 (by omega) (by omega) hlt (by omega);rw [aP trivial];refine⟨s,by show _ - s.i<_; omega,by simp [S78,h1,h2,h3,magS,natS,za],by rw [h1]; exact jv (by omega),by kernel_rfl,aI _⟩
   ·simp only [aK,aV] at hlt2 hb2;have hb0:(canon y).getD o.length 0=0:=by simp [List.getD,aZ (show(canon y).length<=o.length by omega)]
    refine⟨by omega,λ_=>⟨by omega,λ_=>⟨⟨trivial,by omega,by omega⟩,λ_=>⟨by omega,λ_=> ?_⟩⟩⟩⟩;obtain⟨s,h1,h2,h3⟩:=hnext ((canon x).getD o.length 0+B - c) 1 (by omega) (by omega) hlt (by omega);rw [aP trivial];refine⟨s,by show _ - s.i<_; omega,by simp [S78,h1,h2,h3,magS,natS,za],by rw [h1]; exact jv (by omega),by kernel_rfl,aI _⟩
   ·simp only [aV] at hge2 hb2;have hb0:(canon y).getD o.length 0=0:=by simp [List.getD,aZ (show(canon y).length<=o.length by omega)]
    refine⟨by omega,λ_=>⟨⟨trivial,by omega,by omega⟩,λ_=>⟨by omega,λ_=> ?_⟩⟩⟩;obtain⟨s,h1,h2,h3⟩:=hnext ((canon x).getD o.length 0 - c) 0 (by omega) (by omega) hlt (by omega);rw [aP trivial];refine⟨s,by show _ - s.i<_; omega,by simp [S78,h1,h2,h3,magS,natS,za],by rw [h1]; exact jv (by omega),by kernel_rfl,aI _⟩
  ·have hge:o.length=(canon x).length:=by simp at hge; omega
   have hv:val o=x - y:=by
    have h1:=zZ hd;rw [hge,bD,bF hlen,zq,zq] at he
    have:c=0:=by
     rcases aR c 1 with h | h
     ·omega
     ·have:c=1:=by omega
      subst this;rw [hge] at h1;omega
    subst this;omega
   refine⟨o,⟨rfl,by omega,by omega,za _ _ _,by simpa using hd⟩,⟨_,rfl⟩,?_⟩;intro X hX;have hX:X=x - y:=by simpa [hv] using hX
   subst hX;have htr:qU o=canon (x - y):=by rw [zW hd,hv]
   have htl:(canon (x - y)).length=tlen o:=by rw [<- htr,qU,aH]; have:=qo o; omega
   rw [htl];refine⟨[],rfl,by simp,by simp,λ_=>⟨YA,by simp⟩,magS (x - y),[],qT ?_,.inl (by simp [expH]),rfl,hq⟩;simp only [resV,exp2,exp1,U1];exact KO htr
end Go.Proofs.Tryz
end
section
namespace Go.Nov
open Go.Sx
def wm(k:Int)(r n:L8)(d:Int)(l:Nat):Bool:=
 decide (l=0)&&(if k=1 then decide (errR r=0)&&decide (n=[])&&decide (d=0) else if k=2 then decide (r=[])&&qH n&&dayB d else if k=3 then decide (r=[])&&qH n&&decide (d=0) else false)
def kQ(k:Int)(r n:L8)(d:Int)(ss:List Int):Int:=
 if j6 k=true then(if r=[]/\n=[]/\d=0/\ss=j2 k then jw k else 0) else if wm k r n d ss.length=true then 1 else 0
def zsn(r m:L8)(d:Int):Bool:=bif (bif decide (r=[]) then decide (m=[]) else false) then decide (d=0) else false
theorem K8{k:Int}{r m:L8}{d:Int}{l ps:List Int}{w:Int}(h:Z7 k=some (ps,w)):kQ k r m d l=if zsn r m d=true/\l=ps then w else 0:=by
 have h1:j6 k=true:=by simp [j6,h]
 have h2:j2 k=ps:=by simp [j2,h]
 have h3:jw k=w:=by simp [jw,h]
 unfold kQ;rw [aP h1,h2,h3];simp [zsn,and_assoc]
theorem Wc{k:Int}{r m:L8}{d:Int}{l:List Int}(h:j6 k=false):kQ k r m d l=if wm k r m d l.length=true then 1 else 0:=by
 unfold kQ;rw [aO (by rw [h]; decide)]
theorem zoz{k:Int}(h:¬ (4<=k/\k<=9))(h2:¬ (11<=k/\k<=15)):j6 k=false:=by
 have e:∀ c:Int,(4<=c/\c<=9)\/(11<=c/\c<=15)->(c == k)=false:=λc hc=>by
  rw [beq_eq_false_iff_ne]; omega
 simp only [j6,Z7,shpL,List.find?_cons,e 4 (by omega),e 5 (by omega),e 6 (by omega),e 7 (by omega),e 8 (by omega),e 9 (by omega),e 11 (by omega),e 12 (by omega),e 13 (by omega),e 14 (by omega),e 15 (by omega),List.find?_nil];rfl
namespace Ex
mutual
def depth:Ex->Nat
 | mk _ _ _ _ s=>1+zC s
def zC:List Ex->Nat
 | []=>0
 | x::l=>max (depth x) (zC l)
end
mutual
def zQ:Ex->Nat
 | mk _ r n _ s=>r.length+n.length+jN s
def jN:List Ex->Nat
 | []=>0
 | x::l=>zQ x+jN l
end
mutual
def zL:Ex->Int
 | mk k r n d s=>kQ k r n d (w8 s)
def w8:List Ex->List Int
 | []=>[]
 | x::l=>zL x::w8 l
end
mutual
def thin:Ex->Prop
 | mk _ r n _ s=>r.length<=2^48/\n.length<=2^48/\Vj s
def Vj:List Ex->Prop
 | []=>True
 | x::l=>thin x/\Vj l
end
theorem xn(x:Ex):x.depth=1+zC x.sub:=by cases x; rw [depth]; rfl
theorem zh6(x:Ex):x.zQ=x.rat.length+x.name.length+jN x.sub:=by cases x; rw [zQ]; rfl
theorem WK(x:Ex):x.zL=kQ x.kind x.rat x.name x.date (w8 x.sub):=by cases x; rw [zL]; rfl
theorem vD(s:List Ex)(i:Nat)(h:i<s.length):zC (s.take (i+1))=max (zC (s.take i)) (s.getD i nil).depth:=by
 induction s generalizing i with
 | nil=>simp at h
 | cons x s ih=>
  cases i with
  | zero=>simp [zC]
  | succ i=>
   simp only [List.take_succ_cons,zC,List.getD_cons_succ];rw [ih i (by simpa using h)];omega
theorem zbm{s:List Ex}{i:Nat}(h:i<s.length):(s.getD i nil).zQ<=jN s:=by
 induction s generalizing i with
 | nil=>simp at h
 | cons x s ih=>
  cases i with
  | zero=>simp [jN]
  | succ i=>
   simp only [List.getD_cons_succ,jN];have:=ih (i:=i) (by simpa using h);omega
theorem wA(s:List Ex):(w8 s).length=s.length:=by
 induction s with
 | nil=>simp [w8]
 | cons x s ih=>simp [w8,ih]
theorem KD{s:List Ex}{i:Nat}(h:i<s.length):(w8 s).getD i 0=(s.getD i nil).zL:=by
 induction s generalizing i with
 | nil=>simp at h
 | cons x s ih=>
  cases i with
  | zero=>simp [w8]
  | succ i=>simpa [w8] using ih (i:=i) (by simpa using h)
theorem Z6{s:List Ex}{ps:List Int} : w8 s=ps↔s.length=ps.length/\∀ i,i<s.length->(s.getD i nil).zL=ps.getD i 0:=by
 constructor
 ·rintro rfl;exact⟨(wA s).symm,λi hi=>(KD hi).symm⟩
 ·rintro⟨h1,h2⟩;apply List.ext_getElem
  ·rw [wA,h1]
  ·intro i g1 g2;have g3:i<s.length:=by rwa [wA] at g1
   have:=h2 i g3;rw [<- KD g3] at this;simpa [List.getD,g1,g2] using this
mutual
theorem zg1:∀ x:Ex,thin x->zQ x<=size x*2^49
 | mk k r n d s,h=>by
  rw [thin] at h;have:=Kx s h.2.2;rw [zQ,size,bH];omega
theorem Kx:∀ l:List Ex,Vj l->jN l<=zK l*2^49
 | [],_=>by simp [jN]
 | x::l,h=>by
  rw [Vj] at h;have h1:=zg1 x h.1;have h2:=Kx l h.2;rw [jN,zK,bH];omega
end
def errX(x:Ex):Int:=if 500<x.size\/60<x.depth then 4 else if x.zL=0 then 8 else 0
theorem zib(x:Ex):0<x.depth:=by rw [xn]; omega
theorem jO:∀ x:Ex,x.depth<=x.size:=by
 intro x
 have key:∀ (n:Nat) (x:Ex),x.size<=n->x.depth<=x.size:=by
  intro n
  induction n with
  | zero=>intro x h; have:=size_pos x; omega
  | succ n ih=>
   intro x h;rw [size_eq] at h ⊢;rw [xn]
   have:∀ l:List Ex,zK l<=n->zC l<=zK l:=by
    intro l
    induction l with
    | nil=>simp [zC]
    | cons y l il=>
     intro hl;simp only [zK,zC] at hl ⊢;have:=ih y (by omega);have:=il (by omega);omega
   have:=this x.sub (by omega);omega
 exact key _ x (aJ _)
end Ex
end Go.Nov
end
section
namespace Go.Nov
open Go.Sx
def cmpS(s t:L8):Int:=if Op.bytesLess s t then -1 else if s=t then 0 else 1
def cmpI(x y:Int):Int:=if x<y then -1 else if y<x then 1 else 0
def orI:List Int->Int
 | []=>0
 | x::l=>if x=0 then orI l else x
structure Fx where
 name:L8
 date:Int
 value:L8
structure Ch where
 zT:L8
 name:L8
 date:Int
 first:Bool
abbrev Fx.nil:Fx:=⟨[],0,[]⟩
abbrev Ch.nil:Ch:=⟨[],[],0,false⟩
def Fx.cell(f:Fx):Nat->AV
 | 0=>.str f.name
 | 1=>.i f.date
 | 2=>.str f.value
 | _=>.undef
def Ch.cell(c:Ch):Nat->AV
 | 0=>.str c.zT
 | 1=>.str c.name
 | 2=>.i c.date
 | 3=>.bool c.first
 | _=>.undef
def fxG(l:List Fx):Nat->Nat->AV:=λj=>(l.getD j Fx.nil).cell
def chG(l:List Ch):Nat->Nat->AV:=λj=>(l.getD j Ch.nil).cell
def Fx.av(f:Fx):AV:=.agg [.str f.name,.i f.date,.str f.value]
def Ch.av(c:Ch):AV:=.agg [.str c.zT,.str c.name,.i c.date,.bool c.first]
def fxS(l:List Fx):AV:=.sl l.length 3 (fxG l)
def chS(l:List Ch):AV:=.sl l.length 4 (chG l)
def envA(f:List Fx)(c:List Ch):AV:=.agg [fxS f,chS c]
def cmpF(a b:Fx):Int:=if cmpS a.name b.name=0 then cmpI a.date b.date else cmpS a.name b.name
def cmpC(a b:Ch):Int:=if cmpS a.zT b.zT=0 then(if cmpS a.name b.name=0 then cmpI a.date b.date else cmpS a.name b.name) else cmpS a.zT b.zT
end Go.Nov
namespace Go.Nov
def okF(f:Fx):Bool:=qH f.name&&dayB f.date&&decide (errR f.value=0)
def okC(c:Ch):Bool:=qH c.zT&&qH c.name&&dayB c.date
def idxB{α:Type}(p:α->Bool)(l:List α):Int:=if l.findIdx p<l.length then(l.findIdx p:Int) else -1
theorem U6{α:Type}(p:α->Bool)(l:List α):decide (0<=idxB p l)=l.any p:=by
 unfold idxB;by_cases h:l.findIdx p<l.length
 ·rw [aP h]
  have:l.any p=true:=by
   rw [List.any_eq_true];exact⟨_,bK h,List.findIdx_getElem (w:=h)⟩
  rw [this]; simp
 ·rw [aO h]
  have:l.any p=false:=by
   rw [List.any_eq_false];intro x hx hpx;exact h (List.findIdx_lt_length_of_exists ⟨x,hx,hpx⟩)
  rw [this]; rfl
theorem JJ{α:Type}{p:α->Bool}{l:List α}{z:α}{i:Nat}(hi:i<l.length)(h:p (l.getD i z)=true)(hb:∀ j,j<i->p (l.getD j z)=false):idxB p l=i:=by
 have hlt:l.findIdx p<l.length:=List.findIdx_lt_length_of_exists ⟨l[i],bK hi,by simpa [List.getD,hi] using h⟩
 have e:l.findIdx p=i:=by
  rcases Nat.lt_trichotomy (l.findIdx p) i with h1 | h1 | h1
  ·have h2:=List.findIdx_getElem (w:=hlt);have h3:=hb _ h1;simp only [List.getD,aF hlt,Option.getD_some] at h3;rw [h2] at h3; cases h3
  ·exact h1
  ·have h2:=List.not_of_lt_findIdx h1;simp only [List.getD,aF hi,Option.getD_some] at h;exact absurd h (by simpa using h2)
 unfold idxB;rw [aP hlt,e]
theorem uy{α:Type}{p:α->Bool}{l:List α}{z:α}(hb:∀ j,j<l.length->p (l.getD j z)=false):idxB p l = -1:=by
 unfold idxB;rw [aO];intro h;have h2:=List.findIdx_getElem (w:=h);have h3:=hb _ h;simp only [List.getD,aF h,Option.getD_some] at h3;rw [h2] at h3; cases h3
end Go.Nov
namespace Go.Nov
def ordB{α:Type}(c:α->α->Int)(z:α)(l:List α):Bool:=(List.range (l.length - 1)).all λi=>decide (c (l.getD i z) (l.getD (i+1) z)<0)
theorem Wg{α:Type}{c:α->α->Int}{z:α}{l:List α}(h:∀ j,j+1<l.length->c (l.getD j z) (l.getD (j+1) z)<0):ordB c z l=true:=by
 simp only [ordB,bG,List.mem_range,aK];exactλj hj=>h j (by omega)
theorem JM{α:Type}{c:α->α->Int}{z:α}{l:List α}{j:Nat}(hj:j+1<l.length)(h:¬ c (l.getD j z) (l.getD (j+1) z)<0):ordB c z l=false:=by
 simp only [ordB,List.all_eq_false,List.mem_range];exact⟨j,by omega,by simpa using h⟩
def errE(f:List Fx)(c:List Ch):Int:=if 1000<f.length\/1000<c.length then 4 else if(f.all okF&&c.all okC&&ordB cmpF Fx.nil f&&ordB cmpC Ch.nil c)=true then 0 else 8
end Go.Nov
namespace Go.Nov
theorem zed{x y:Int} : cmpI x y<0↔x<y:=by
 unfold cmpI;split
 ·rename_i h; exact⟨λ_=>h,λ_=>by decide⟩
 ·rename_i h;split
  ·exact⟨λh2=>by omega,λh2=>absurd h2 h⟩
  ·exact⟨λh2=>by omega,λh2=>absurd h2 h⟩
end Go.Nov
namespace Go.Nov
end Go.Nov
end
section
namespace Go.Nov
open Go.Sx
inductive Con where
 | mk (kind:Int) (src dst name:L8) (x:Ex) (date:Int) (days:List Int) (sub:List Con)
def jX(x:Ex):Bool:=decide (x.kind=0)&&(decide (x.rat=[])&&(decide (x.name=[])&&(decide (x.date=0)&&decide (x.sub.length=0))))
def kR(x:Ex):Nat:=bif jX x then 0 else x.size
def xb(x:Ex):Nat:=bif jX x then 0 else x.depth
def numX(x:Ex):Bool:=decide (x.errX=0)&&decide (x.zL=1)
def truX(x:Ex):Bool:=decide (x.errX=0)&&decide (x.zL=2)
def incB(l:List Int):Bool:=ordB cmpI 0 l
def yj(l:List Int):Bool:=decide (1<=l.length)&&(decide (l.length<=100)&&(l.all dayB&&incB l))
def kK(k:Int)(a b n:L8)(x:Ex)(d:Int)(l:List Int)(m:Nat):Bool:=
 if k=1 then decide (m=0)&&decide (a=[])&&decide (b=[])&&decide (n=[])&&decide (d=0)&&decide (l=[])&&jX x
 else if k=2 then decide (m=0)&&qH a&&qH b&&decide (a≠b)&&qH n&&numX x&&decide (d=0)&&decide (l=[])
 else if k=3 then decide (m=2)&&decide (a=[])&&decide (b=[])&&decide (n=[])&&decide (d=0)&&decide (l=[])&&jX x
 else if k=4 then decide (m=1)&&decide (a=[])&&decide (b=[])&&decide (n=[])&&decide (d=0)&&decide (l=[])&&numX x
 else if k=5 then decide (m=2)&&decide (a=[])&&decide (b=[])&&decide (n=[])&&decide (d=0)&&decide (l=[])&&truX x
 else if k=6 then decide (m=1)&&decide (a=[])&&decide (b=[])&&decide (n=[])&&dayB d&&decide (l=[])&&jX x
 else if k=7 then decide (m=2)&&qH a&&decide (b=[])&&qH n&&decide (d=0)&&decide (l=[])&&jX x
 else if k=8 then decide (m=1)&&qH a&&decide (b=[])&&qH n&&decide (d=0)&&yj l&&jX x
 else if k=9\/k=10 then decide (m=1)&&decide (a=[])&&decide (b=[])&&decide (n=[])&&decide (d=0)&&yj l&&truX x
 else false
theorem Ex.Vq(s:List Ex)(i:Nat):Ex.zC (s.take i)<=Ex.zC s:=by
 induction s generalizing i with
 | nil=>simp [Ex.zC]
 | cons x s ih=>
  cases i with
  | zero=>simp [Ex.zC]
  | succ i=>simp only [List.take_succ_cons,Ex.zC]; have:=ih i; omega
namespace Con
def kind:Con->Int | mk k _ _ _ _ _ _ _=>k
def src:Con->L8 | mk _ a _ _ _ _ _ _=>a
def dst:Con->L8 | mk _ _ b _ _ _ _ _=>b
def name:Con->L8 | mk _ _ _ n _ _ _ _=>n
def x:Con->Ex | mk _ _ _ _ x _ _ _=>x
def date:Con->Int | mk _ _ _ _ _ d _ _=>d
def days:Con->List Int | mk _ _ _ _ _ _ l _=>l
def sub:Con->List Con | mk _ _ _ _ _ _ _ s=>s
abbrev nil:Con:=mk 0 [] [] [] Ex.nil 0 [] []
mutual
def nodes:Con->Nat
 | mk _ _ _ _ _ _ _ s=>1+zz s
def zz:List Con->Nat
 | []=>0
 | c::l=>nodes c+zz l
end
mutual
def size:Con->Nat
 | mk _ _ _ _ x _ _ s=>1+kR x+zK s
def zK:List Con->Nat
 | []=>0
 | c::l=>size c+zK l
end
mutual
def depth:Con->Nat
 | mk _ _ _ _ x _ _ s=>1+max (xb x) (zC s)
def zC:List Con->Nat
 | []=>0
 | c::l=>max (depth c) (zC l)
end
mutual
def big:Con->Nat
 | mk _ a b n x _ l s=>1+a.length+b.length+n.length+l.length+x.size+x.zQ+bigs s
def bigs:List Con->Nat
 | []=>0
 | c::l=>big c+bigs l
end
mutual
def form:Con->Bool
 | mk k a b n x d l s=>kK k a b n x d l s.length&&kI s
def kI:List Con->Bool
 | []=>true
 | c::l=>form c&&kI l
end
mutual
def thin:Con->Prop
 | mk _ a b n x _ l s=>a.length<=2^48/\b.length<=2^48/\n.length<=2^48/\x.thin/\l.length<=2^48/\s.length<=2^48/\Vj s
def Vj:List Con->Prop
 | []=>True
 | c::l=>thin c/\Vj l
end
theorem kg(c:Con):c.nodes=1+zz c.sub:=by cases c; rw [nodes]; rfl
theorem size_eq(c:Con):c.size=1+kR c.x+zK c.sub:=by cases c; rw [size]; rfl
theorem xn(c:Con):c.depth=1+max (xb c.x) (zC c.sub):=by cases c; rw [depth]; rfl
theorem Za(c:Con):c.big=1+c.src.length+c.dst.length+c.name.length+c.days.length+c.x.size+c.x.zQ+bigs c.sub:=by cases c; rw [big]; rfl
theorem zr3(c:Con):c.form=(kK c.kind c.src c.dst c.name c.x c.date c.days c.sub.length&&kI c.sub):=by cases c; rw [form]; rfl
theorem size_pos(c:Con):0<c.size:=by rw [size_eq]; omega
theorem Xk(c:Con):0<c.nodes:=by rw [kg]; omega
theorem zpq(c:Con):0<c.big:=by rw [Za]; omega
section
variable {f:Con->Nat} {F:List Con->Nat}
theorem JR(h0:F []=0)(h1:∀ c l,F (c::l)=f c+F l):∀ (s:List Con) (i:Nat),i<s.length->F (s.take (i+1))=F (s.take i)+f (s.getD i nil)
 | [],i,h=>by simp at h
 | c::s,0,_=>by simp [h0,h1]
 | c::s,i+1,h=>by
  simp only [List.take_succ_cons,h1,List.getD_cons_succ];rw [JR h0 h1 s i (by simpa using h)];omega
theorem J7(h0:F []=0)(h1:∀ c l,F (c::l)=f c+F l):∀ (s:List Con) (i:Nat),i<s.length->f (s.getD i nil)<=F s
 | [],i,h=>by simp at h
 | c::s,0,_=>by simp [h1]
 | c::s,i+1,h=>by
  simp only [List.getD_cons_succ,h1];have:=J7 h0 h1 s i (by simpa using h);omega
theorem zol(h0:F []=0)(h1:∀ c l,F (c::l)=f c+F l):∀ (s:List Con) (i:Nat),F (s.take i)<=F s
 | [],i=>by simp [h0]
 | c::s,0=>by simp [h0]
 | c::s,i+1=>by
  simp only [List.take_succ_cons,h1];have:=zol h0 h1 s i;omega
end
theorem QY{s:List Con}{i:Nat}(h:i<s.length):zz (s.take (i+1))=zz (s.take i)+(s.getD i nil).nodes:=JR (by rw [zz]) (λc l=>by rw [zz]) s i h
theorem vf{s:List Con}{i:Nat}(h:i<s.length):(s.getD i nil).nodes<=zz s:=J7 (by rw [zz]) (λc l=>by rw [zz]) s i h
theorem zgi(s:List Con)(i:Nat):zz (s.take i)<=zz s:=zol (f:=nodes) (by rw [zz]) (λc l=>by rw [zz]) s i
theorem WZ{s:List Con}{i:Nat}(h:i<s.length):zK (s.take (i+1))=zK (s.take i)+(s.getD i nil).size:=JR (by rw [zK]) (λc l=>by rw [zK]) s i h
theorem qu{s:List Con}{i:Nat}(h:i<s.length):(s.getD i nil).size<=zK s:=J7 (by rw [zK]) (λc l=>by rw [zK]) s i h
theorem WG{s:List Con}{i:Nat}(h:i<s.length):(s.getD i nil).big<=bigs s:=J7 (by rw [bigs]) (λc l=>by rw [bigs]) s i h
theorem Wr:∀ s:List Con,s.length<=bigs s
 | []=>by simp
 | c::s=>by have:=zpq c; have:=Wr s; rw [bigs,aL]; omega
theorem Kr:∀ s:List Con,s.length<=zz s
 | []=>by simp
 | c::s=>by have:=Xk c; have:=Kr s; rw [zz,aL]; omega
theorem vD:∀ (s:List Con) (i:Nat),i<s.length->zC (s.take (i+1))=max (zC (s.take i)) (s.getD i nil).depth
 | [],i,h=>by simp at h
 | c::s,0,_=>by simp [zC]
 | c::s,i+1,h=>by
  simp only [List.take_succ_cons,zC,List.getD_cons_succ];rw [vD s i (by simpa using h)];omega
theorem KL:∀ (s:List Con) (i:Nat),zC (s.take i)<=zC s
 | [],i=>by simp [zC]
 | c::s,0=>by simp [zC]
 | c::s,i+1=>by simp only [List.take_succ_cons,zC]; have:=KL s i; omega
theorem Xj:∀ (s:List Con) (i:Nat),i<s.length->(s.getD i nil).form=false->kI s=false
 | [],i,h,_=>by simp at h
 | c::s,0,_,h=>by simp only [List.getD_cons_zero] at h; rw [kI,h,Bool.false_and]
 | c::s,i+1,hl,h=>by
  simp only [List.getD_cons_succ] at h;rw [kI,Xj s i (by simpa using hl) h,Bool.and_false]
def errC(c:Con):Int:=if 500<c.size\/60<c.depth then 4 else if c.form=true then 0 else 8
def dayG(l:List Int):Nat->Nat->AV:=λj _=>.i (l.getD j 0)
def dayS(l:List Int):AV:=.sl l.length 1 (dayG l)
def cell(k:Int)(a b n:L8)(x:Ex)(d:Int)(l:List Int)(m:Nat)(g:Nat->Nat->AV):Nat->AV
 | 0=>.int .u8 k
 | 1=>.str a
 | 2=>.str b
 | 3=>.str n
 | 4=>.int .u8 x.kind
 | 5=>.str x.rat
 | 6=>.str x.name
 | 7=>.i x.date
 | 8=>.sl x.sub.length 5 (Ex.exG x.sub)
 | 9=>.i d
 | 10=>.sl l.length 1 (dayG l)
 | 11=>.sl m 12 g
 | _=>.undef
def deep:Con->Nat->Nat->AV
 | mk _ _ _ _ _ _ _ s=>λj=>(s.map λc=>cell c.kind c.src c.dst c.name c.x c.date c.days c.sub.length (deep c)).getD j λ_=>.undef
def conG(s:List Con):Nat->Nat->AV:=λj=>cell (s.getD j nil).kind (s.getD j nil).src (s.getD j nil).dst (s.getD j nil).name (s.getD j nil).x (s.getD j nil).date (s.getD j nil).days (s.getD j nil).sub.length (deep (s.getD j nil))
def conS(s:List Con):AV:=.sl s.length 12 (conG s)
def qN(k:Int)(a b n:L8)(x:Ex)(d:Int)(l:List Int)(s:List Con):List AV:=[.int .u8 k,.str a,.str b,.str n,.int .u8 x.kind,.str x.rat,.str x.name,.i x.date,Ex.exS x.sub,.i d,dayS l,conS s]
def conA(c:Con):AV:=.agg [.int .u8 c.kind,.str c.src,.str c.dst,.str c.name,.int .u8 c.x.kind,.str c.x.rat,.str c.x.name,.i c.x.date,Ex.exS c.x.sub,.i c.date,dayS c.days,conS c.sub]
theorem qm(c:Con):eqG c.sub.length 12 (deep c) (conG c.sub):=by
 intro j o hj ho;cases c with
 | mk k a b n x d l s=>
  rw [deep];change j<s.length at hj;show _=conG s j o;simp [conG,List.getD,hj]
mutual
def all:Con->List Con
 | mk k a b n x d l s=>mk k a b n x d l s::alls s
def alls:List Con->List Con
 | []=>[]
 | c::l=>all c++alls l
end
theorem all_eq(c:Con):c.all=c::alls c.sub:=by cases c; rw [all]; rfl
def yn(c:Con):Bool:=kK c.kind c.src c.dst c.name c.x c.date c.days c.sub.length
mutual
theorem Yh:∀ c:Con,c.all.length=c.nodes
 | mk k a b n x d l s=>by rw [all,nodes,aL,Y6 s]; omega
theorem Y6:∀ s:List Con,(alls s).length=zz s
 | []=>by simp [alls,zz]
 | c::s=>by rw [alls,zz,bO,Yh c,Y6 s]
end
mutual
theorem V7:∀ c:Con,c.form=c.all.all yn
 | mk k a b n x d l s=>by rw [all,form,List.all_cons,KF s]; rfl
theorem KF:∀ s:List Con,kI s=(alls s).all yn
 | []=>by simp [alls,kI]
 | c::s=>by rw [alls,kI,List.all_append,V7 c,KF s]
end
def wt(c:Con):Nat:=1+kR c.x
mutual
theorem Ve:∀ c:Con,c.size=(c.all.map wt).sum
 | mk k a b n x d l s=>by rw [all,size,List.map_cons,List.sum_cons,VW s]; rfl
theorem VW:∀ s:List Con,zK s=((alls s).map wt).sum
 | []=>by simp [alls,zK]
 | c::s=>by rw [alls,zK,List.map_append,List.sum_append,Ve c,VW s]
end
mutual
theorem JG:∀ c:Con,∀ e∈c.all,e.big<=c.big
 | mk k a b n x d l s,e,he=>by
  rw [all] at he;rcases aM.1 he with rfl | he
  ·exact aJ _
  ·have:=Y5 s e he;rw [big]; omega
theorem Y5:∀ s:List Con,∀ e∈alls s,e.big<=bigs s
 | [],e,he=>by simp [alls] at he
 | c::s,e,he=>by
  rw [alls] at he;rw [bigs];rcases bZ.1 he with he | he
  ·have:=JG c e he; omega
  ·have:=Y5 s e he; omega
end
theorem uY(c:Con):c.nodes<=c.size:=by
 rw [<- Yh,Ve];generalize c.all=l
 induction l with
 | nil=>simp
 | cons a l ih=>rw [List.map_cons,List.sum_cons,aL]; have:wt a=1+kR a.x:=rfl; omega
theorem Wj(x:Ex):kR x<=x.size:=by unfold kR; cases jX x<;>simp
theorem KE(x:Ex):xb x<=kR x:=by
 unfold kR xb;cases jX x
 ·exact Ex.jO x
 ·exact aJ _
mutual
theorem zk3:∀ c:Con,c.size<=c.big
 | mk k a b n x d l s=>by
  have:=Q0 s;have:=Wj x;rw [size,big]; omega
theorem Q0:∀ s:List Con,zK s<=bigs s
 | []=>by simp [zK,bigs]
 | c::s=>by rw [zK,bigs]; have:=zk3 c; have:=Q0 s; omega
end
mutual
theorem zbo:∀ c:Con,c.depth<=c.size
 | mk k a b n x d l s=>by
  have:=yu s;have:=KE x;rw [depth,size]; omega
theorem yu:∀ s:List Con,zC s<=zK s
 | []=>by simp [zC,zK]
 | c::s=>by rw [zC,zK]; have:=zbo c; have:=yu s; omega
end
theorem zbf(s:List Con):zC s<=bigs s:=bP (yu s) (Q0 s)
end Con
def Con.zg(c:Con):List AV:=Con.qN c.kind c.src c.dst c.name c.x c.date c.days c.sub
def Con.outD(c:Con)(x d s:AV):AV:=.agg [.int .u8 c.kind,.str c.src,.str c.dst,.str c.name,.int .u8 c.x.kind,.str c.x.rat,.str c.x.name,.i c.x.date,x,.i c.date,d,s]
def Con.conD(c:Con):AV:=c.outD (Ex.exS c.x.sub) (Con.dayS c.days) (.sl c.sub.length 12 c.deep)
def Ex.cellsD(x:Ex):List AV:=[.int .u8 x.kind,.str x.rat,.str x.name,.i x.date,.sl x.sub.length 5 x.deep]
def Con.zl(e:Con):List AV:=[.int .u8 e.kind,.str e.src,.str e.dst,.str e.name,.int .u8 e.x.kind,.str e.x.rat,.str e.x.name,.i e.x.date,.sl e.x.sub.length 5 (Ex.exG e.x.sub),.i e.date,.sl e.days.length 1 (Con.dayG e.days),.sl e.sub.length 12 e.deep]
end Go.Nov
end
section
namespace Go.Nov
def sumS(m:Bool)(x:Nat)(n:Bool)(y:Nat):Bool×Nat:=if m=n then(m,x+y) else if y<=x then(m,x - y) else(n,y - x)
def addI(s t:L8):L8×Int:=if zx s t=0 then wr (sumS (negI s) (numI s) (negI t) (numI t)).1 (sumS (negI s) (numI s) (negI t) (numI t)).2 else([],zx s t)
def subI(s t:L8):L8×Int:=if zx s t=0 then wr (sumS (negI s) (numI s) (!negI t) (numI t)).1 (sumS (negI s) (numI s) (!negI t) (numI t)).2 else([],zx s t)
def mulI(s t:L8):L8×Int:=if zx s t=0 then wr (negI s != negI t) (numI s*numI t) else([],zx s t)
def cmpZ(m:Bool)(x:Nat)(n:Bool)(y:Nat):Int:=if m=true/\n=false then -1 else if n=true/\m=false then 1 else if m=true then cmpN y x else cmpN x y
def kB(s t:L8):Int×Int:=if zx s t=0 then(cmpZ (negI s) (numI s) (negI t) (numI t),0) else(0,zx s t)
theorem Jz{d:Nat}(h:d<10):(byt d).toNat=48+d:=by
 unfold byt;rw [UInt8.toNat_ofNat'];omega
theorem Z2{x:Nat}(h:x≠0):txt x=((dec x).map byt).reverse:=aO h
theorem uL{x:Nat}(h:x≠0):(txt x).length=(dec x).length:=by rw [Z2 h]; simp
theorem zfi{x:Nat}(h:x≠0):allD (txt x):=by
 intro c hc;rw [Z2 h] at hc;simp only [List.mem_reverse,List.mem_map] at hc;obtain⟨d,hd,rfl⟩:=hc;have:d<10:=Ten.zm x d hd;rw [Jz this];omega
theorem ztu{x:Nat}(h:x≠0):dg (txt x)=dec x:=by
 rw [Z2 h,dg,List.map_reverse,List.reverse_reverse,List.map_map]
 conv=>rhs; rw [<- List.map_id (dec x)]
 refine List.map_congr_left λd hd=> ?_
 have:d<10:=Ten.zm x d hd;simp only [Function.comp,Jz this,id];omega
theorem zqs{x:Nat}(h:x≠0):numD (txt x)=x:=by
 rw [<- XW,ztu h];exact Ten.zq x
theorem uA{x:Nat}(h:x≠0):(txt x).getD 0 0≠48/\(txt x).getD 0 0≠45:=by
 have hl:=Ye h;have ht:=zf2 hl;have hlt:=dec_lt x ((dec x).length - 1)
 have e:(txt x).getD 0 0=byt ((dec x).getD ((dec x).length - 1) 0):=by
  rw [Z2 h];simp only [List.getD_eq_getElem?_getD];rw [List.getElem?_reverse (by simpa using hl)];simp [aF (show(dec x).length - 1<(dec x).length by omega)]
 rw [e];have hb:=Jz hlt;constructor
 ·intro h2;rw [h2] at hb;have:(48:UInt8).toNat=48:=rfl;omega
 ·intro h2;rw [h2] at hb;have:(45:UInt8).toNat=45:=rfl;omega
theorem X7{x:Nat}(h:x≠0):txt x≠[]:=by
 intro h2;have:=uL h;rw [h2] at this;have:=Ye h;simp at *; omega
theorem Kz{x:Nat}(h:x≠0)(neg:Bool):parse (sgn neg (txt x))=(neg,txt x):=by
 cases neg with
 | true=>rfl
 | false=>
  simp only [sgn,Bool.false_eq_true,if_false];have h1:=(uA h).2;cases ht:txt x with
  | nil=>exact absurd ht (X7 h)
  | cons c b=>
   rw [ht] at h1;have:c≠45:=h1;simp [parse,this]
theorem U2{x:Nat}(h:x≠0)(neg:Bool):q8 neg (txt x)=true:=by
 have h1:=(uA h).1
 have h2:txt x≠[48]:=by
  intro h2;rw [h2] at h1;exact h1 rfl
 have h3:=X7 h;have h4:(txt x).all isD=true:=zf5.2 (zfi h);simp only [List.getD_eq_getElem?_getD] at h1;simp [q8,h3,h2,h1,h4]
theorem Jj{neg:Bool}{x:Nat}(h:(wr neg x).2=0):errI (wr neg x).1=0/\numI (wr neg x).1=x/\negI (wr neg x).1=(neg&&decide (x≠0)):=by
 unfold wr at h ⊢;by_cases h0:x=0
 ·subst h0;simp only [if_true];refine⟨rfl,rfl,?_⟩;simp [negI,parse]
 ·rw [aO h0] at h ⊢;by_cases h1:1000<(dec x).length
  ·rw [aP h1] at h; cases h
  ·rw [aO h1];simp only [errI,numI,negI,Kz h0,U2 h0,if_true];rw [uL h0,aO h1];exact⟨rfl,zqs h0,by simp [h0]⟩
theorem Yp(neg:Bool)(x:Nat):(wr neg x).2=0\/wr neg x=([],14):=by
 unfold wr;split
 ·exact .inl rfl
 ·split
  ·exact .inr rfl
  ·exact .inl rfl
theorem zdz(neg:Bool)(b:L8):(sgn neg b).length<=b.length+1:=by
 unfold sgn; split<;>simp
theorem k5(neg:Bool)(x:Nat):(wr neg x).1.length<=1001:=by
 unfold wr;split
 ·simp
 ·rename_i h0;split
  ·simp
  ·rename_i h1;have:=zdz neg (txt x);rw [uL h0] at this;simp only;omega
theorem zl1(s t:L8):(addI s t).1.length<=1001:=by
 unfold addI;split
 ·exact k5 _ _
 ·simp
theorem zkx(s t:L8):(subI s t).1.length<=1001:=by
 unfold subI;split
 ·exact k5 _ _
 ·simp
theorem V0(s t:L8):(mulI s t).1.length<=1001:=by
 unfold mulI;split
 ·exact k5 _ _
 ·simp
theorem ze1(b:Bool)(x:Nat):wr (b&&decide (0<x)) x=wr b x:=by
 unfold wr;by_cases h:x=0
 ·rw [aP h,aP h]
 ·rw [aO h,aO h];have:decide (0<x)=true:=aX (bW h);rw [this,Bool.and_true]
theorem Ks(m:Bool)(x:Nat)(n:Bool):sumS m x n 0=(m,x):=by
 unfold sumS;split
 ·rfl
 ·simp
theorem zgp(m:Bool)(x:Nat)(n:Bool)(y:Nat):sumS m x (n&&decide (0<y)) y=sumS m x n y:=by
 by_cases h:y=0
 ·subst h; rw [Ks,Ks]
 ·have:decide (0<y)=true:=aX (bW h);rw [this,Bool.and_true]
theorem zds(m:Bool)(x:Nat)(n:Bool)(y:Nat):(sumS m x n y).2<=x+y:=by
 unfold sumS;split
 ·exact aJ _
 ·split
  ·simp only; omega
  ·simp only; omega
end Go.Nov
end
section
namespace Go.Nov
def KG(neg:Bool)(x y:Nat):L8:=
 if y/Nat.gcd x y=1 then(wr neg (x/Nat.gcd x y)).1 else(wr neg (x/Nat.gcd x y)).1++[47]++(wr false (y/Nat.gcd x y)).1
def wy(n d:L8):L8×Int:=if zx n d≠0 then([],zx n d) else if numI d=0 then([],16) else(KG (negI n != negI d) (numI n) (numI d),0)
def qG(a b:L8):Int:=if errR a=0 then errR b else errR a
def numR(a:L8):L8:=(cutR a).1
def denR(a:L8):L8:=if(cutR a).2.2 then(cutR a).2.1 else [49]
def frac(z w:L8×Int):L8×Int:=if z.2≠0\/w.2≠0 then([],14) else wy z.1 w.1
def zJ(a b:L8):Int:=if qG a b≠0 then qG a b else if(mulI (numR a) (denR b)).2≠0\/(mulI (numR b) (denR a)).2≠0 then 14 else 0
def addR(a b:L8):L8×Int:=if zJ a b≠0 then([],zJ a b) else frac (addI (mulI (numR a) (denR b)).1 (mulI (numR b) (denR a)).1) (mulI (denR a) (denR b))
def subR(a b:L8):L8×Int:=if zJ a b≠0 then([],zJ a b) else frac (subI (mulI (numR a) (denR b)).1 (mulI (numR b) (denR a)).1) (mulI (denR a) (denR b))
def mulR(a b:L8):L8×Int:=if qG a b≠0 then([],qG a b) else frac (mulI (numR a) (numR b)) (mulI (denR a) (denR b))
def cmpR(a b:L8):Int×Int:=if zJ a b≠0 then(0,zJ a b) else kB (mulI (numR a) (denR b)).1 (mulI (numR b) (denR a)).1
end Go.Nov
namespace Go.Nov
def dmQ(s t:L8):Nat:=if negI s=true/\0<numI s%numI t then numI s/numI t+1 else numI s/numI t
def dmM(s t:L8):Nat:=if negI s=true/\0<numI s%numI t then numI t - numI s%numI t else numI s%numI t
def dmI(s t:L8):L8×L8×Int:=
 if zx s t≠0 then([],[],zx s t) else if numI t=0 then([],[],16) else((wr (negI s != negI t) (dmQ s t)).1,(wr false (dmM s t)).1,0)
theorem zoy{s:L8}(h:errI s=0):∃ k,k<=1000/\numI s<10^k:=by
 obtain⟨_,h1,_,h2⟩:=yx h;exact⟨_,h2,uo h1⟩
def room(x:Nat):Prop:=(dec x).length<=1000
theorem room_le{x y:Nat}(h:x<=y)(hy:room y):room x:=by
 rcases aR (dec y).length (dec x).length with h1 | h1
 ·have:=Ten.qp h1;omega
 ·exact bP h1 hy
theorem jQ{s:L8}(h:errI s=0):room (numI s):=by
 obtain⟨k,h1,h2⟩:=zoy h;exact bP (xr h2) h1
theorem kU{neg:Bool}{x:Nat}(h:room x):(wr neg x).2=0:=by
 unfold wr;split
 ·rfl
 ·rw [aO (by have:(dec x).length<=1000:=h; omega)]
theorem zld{s t:L8}(hs:errI s=0)(ht:numI t≠0):room (dmQ s t):=by
 have h:=jQ hs;unfold dmQ;split
 ·rename_i hc;by_cases h1:numI t=1
  ·rw [h1,Nat.mod_one] at hc; omega
  ·refine room_le ?_ h;have h2:numI s/numI t<=numI s/2:=Nat.div_le_div_left (by omega) (by omega);have h3:numI s≠0:=λh0=>by rw [h0,Nat.zero_mod] at hc; omega
   by_cases h4:numI s=1
   ·have:numI s/numI t=0:=Nat.div_eq_of_lt (by omega);omega
   ·omega
 ·exact room_le (Nat.div_le_self _ _) h
theorem znr{s t:L8}(ht:errI t=0)(h0:numI t≠0):room (dmM s t):=by
 have h:=jQ ht;have hm:=Nat.mod_lt (numI s) (bW h0);unfold dmM;split
 ·exact room_le (Nat.sub_le _ _) h
 ·exact room_le (by omega) h
end Go.Nov
namespace Go.Nov
theorem xt:wr false 1=([49],0):=by
 have h:dec 1=[1]:=by
  show Ten.canon 1=[1];rw [Ten.jr (by decide)];exact congrArg (1 :: ·) Ten.zX
 simp [wr,h,txt,sgn,byt]
theorem zcm{x:Nat}(h:room x):(wr false x).1=[49]↔x=1:=by
 constructor
 ·intro e;have:=(Jj (kU (neg:=false) h)).2.1;rw [e] at this;exact this.symm
 ·rintro rfl;rw [xt]
theorem zlh{x:Nat}(h0:x≠0)(h:room x):[45]++(wr false x).1=(wr true x).1:=by
 unfold wr;rw [aO h0,aO h0,aO (by have:(dec x).length<=1000:=h; omega),aO (by have:(dec x).length<=1000:=h; omega)];rfl
theorem yz{t:L8}(h:errI t=0):t=[48]↔numI t=0:=by
 constructor
 ·rintro rfl; rfl
 ·intro h0;obtain⟨neg,b,h1,h2,h3,h4,h5,h6⟩:=JC h;have hb:numD b=0:=by simpa [numI,h2] using h0
  cases b with
  | nil=>exact absurd rfl h5
  | cons c r=>
   have hc:=h4 c (by simp)
   have e:numD (c::r)=(c.toNat - 48)*10^r.length+numD r:=by
    have:=kL [c] r;simp only [List.singleton_append] at this;rw [this];simp [numD]
   rw [e] at hb
   have hc0:c.toNat=48:=by
    rcases bC (c.toNat - 48) with h7 | h7
    ·omega
    ·have:=Nat.mul_pos h7 (Nat.pow_pos (n:=r.length) (show 0<10 by decide));omega
   have hc1:c=48:=UInt8.toNat_inj.1 (by rw [hc0]; rfl);subst hc1
   have hr:r=[]:=by
    cases r with
    | nil=>rfl
    | cons d r=>
     have:=kz (neg:=neg) (b:=48::d::r) rfl (by simp);rw [this] at h3; cases h3
   subst hr;cases neg with
   | true=>cases h3
   | false=>simpa [sgn] using h1
theorem Ut{s:L8}{b:Bool}{g:Nat}(hs:errI s=0)(h0:g≠0)(hg:room g)(hd:g ∣ numI s):dmI s (wr b g).1=((wr (negI s != b) (numI s/g)).1,[48],0):=by
 obtain⟨h1,h2,h3⟩:=Jj (kU (neg:=b) hg);have hb:negI (wr b g).1=b:=by rw [h3]; simp [h0]
 have he:zx s (wr b g).1=0:=zn.2 ⟨hs,h1⟩;have hm:numI s%g=0:=Nat.mod_eq_zero_of_dvd hd;unfold dmI;rw [aO (by rw [he]; decide),h2,aO h0,hb]
 have hq:dmQ s (wr b g).1=numI s/g:=by
  unfold dmQ;rw [h2,hm,aO (by omega)]
 have hr:dmM s (wr b g).1=0:=by
  unfold dmM;rw [h2,hm,aO (by omega)]
 rw [hq,hr];rfl
theorem UQ{s t:L8}(ht:errI t=0)(h0:numI t≠0):Nat.gcd (numI s) (numI t)≠0/\room (Nat.gcd (numI s) (numI t)):=by
 have hp:=bW h0;refine⟨λh=> ?_,room_le (Nat.le_of_dvd hp (Nat.gcd_dvd_right _ _)) (jQ ht)⟩;have:=Nat.eq_zero_of_gcd_eq_zero_right h;exact h0 this
theorem zi4(neg:Bool)(x y:Nat):(KG neg x y).length<=2003:=by
 unfold KG;have h1:=k5 neg (x/Nat.gcd x y);have h2:=k5 false (y/Nat.gcd x y);split
 ·omega
 ·simp only [bO,aL,List.length_nil]; omega
end Go.Nov
namespace Go.Nov
theorem Uf:errI [49]=0:=rfl
theorem qR{a:L8}(h:errR a=0):errI (numR a)=0/\errI (denR a)=0/\negI (denR a)=false/\numI (denR a)≠0:=by
 unfold errR at h;unfold numR denR;cases hc:(cutR a).2.2 with
 | true=>
  rw [hc] at h;simp only [if_true] at h ⊢;split at h
  ·cases h
  ·rename_i h1;simp only [not_or] at h1;split at h
   ·cases h
   ·rename_i h2;simp only [not_or,Classical.not_not] at h2;refine⟨h2.1,h2.2,by simpa using h1.2.2.1,λh0=> ?_⟩;exact h1.2.2.2.1 ((yz h2.2).2 h0)
 | false=>
  rw [hc] at h;simp only [Bool.false_eq_true,if_false] at h ⊢
  have:(cutR a).1=a:=by
   unfold cutR at hc ⊢;split at hc
   ·cases hc
   ·rename_i hn; rw [aO hn]
  rw [this];exact⟨h,Uf,rfl,by decide⟩
theorem ZQ(a:L8):(numR a).length<=a.length:=(JD a).1
theorem ZO(a:L8):(denR a).length<=a.length+1:=by
 unfold denR;split
 ·exact bP (JD a).2 (Nat.le_succ _)
 ·simp
theorem kF{s t:L8}(h:zx s t=0):(mulI s t).2=0/\errI (mulI s t).1=0\/mulI s t=([],14):=by
 unfold mulI;rw [aP h];exact(Yp _ _).imp (λh=>⟨h,(Jj h).1⟩) id
theorem zji{s t:L8}(h:zx s t=0):(addI s t).2=0/\errI (addI s t).1=0\/addI s t=([],14):=by
 unfold addI;rw [aP h];exact(Yp _ _).imp (λh=>⟨h,(Jj h).1⟩) id
theorem zov{s t:L8}(h:zx s t=0):(subI s t).2=0/\errI (subI s t).1=0\/subI s t=([],14):=by
 unfold subI;rw [aP h];exact(Yp _ _).imp (λh=>⟨h,(Jj h).1⟩) id
end Go.Nov
namespace Go.Nov
def stp(e:Int)(f:L8->L8->L8×Int)(x y:L8):L8×Int:=if e≠0 then([],e) else f x y
theorem zrn{e:Int}{f:L8->L8->L8×Int}{x y:L8}(h:(f x y).1.length<=1001):(stp e f x y).1.length<=1001:=by
 unfold stp;split
 ·simp
 ·exact h
theorem q6{e:Int}(h:e≠0)(f:L8->L8->L8×Int)(x y:L8):stp e f x y=([],e):=aP h
theorem vu(f:L8->L8->L8×Int)(x y:L8):stp 0 f x y=f x y:=aO (by simp)
def Vb(f:L8->L8->L8×Int)(a b:L8):L8×Int:=
 if zJ a b≠0 then([],zJ a b) else frac (f (mulI (numR a) (denR b)).1 (mulI (numR b) (denR a)).1) (mulI (denR a) (denR b))
section
variable {a b n m d c:L8} {e:Int} (hp:(e≠0/\qG a b=e)\/(e=0/\errR a=0/\errR b=0/\n=numR a/\m=numR b/\d=denR a/\c=denR b))
include hp
theorem Jn{f:L8->L8->L8×Int}(hf:∀ {s t:L8},zx s t=0->(f s t).2=0/\errI (f s t).1=0\/f s t=([],14)){r1 r2 r3 r4 r5:L8×Int}
  (h1:r1=stp e mulI n c) (h2:r2=stp r1.2 mulI m d) (h3:r3=stp r2.2 f r1.1 r2.1) (h4:r4=stp r3.2 mulI d c) (h5:r5=stp r4.2 wy r3.1 r4.1):r5=Vb f a b:=by
 rcases hp with ⟨he,h2e⟩ | ⟨rfl,ha,hb,rfl,rfl,rfl,rfl⟩
 ·have hc:zJ a b=e:=by unfold zJ; rw [aP (by rw [h2e]; exact he)]; exact h2e
  unfold Vb;rw [hc,aP he];rw [q6 he] at h1;subst h1;rw [q6 he] at h2;subst h2;rw [q6 he] at h3;subst h3;rw [q6 he] at h4;subst h4;rw [h5,q6 he]
 ·obtain⟨a1,a2,_⟩:=qR ha;obtain⟨b1,b2,_⟩:=qR hb;have he2:qG a b=0:=by unfold qG; rw [aP ha]; exact hb
  have e14:(14:Int)≠0:=by decide
  rw [vu] at h1;have hc:zJ a b=if(mulI (numR a) (denR b)).2≠0\/(mulI (numR b) (denR a)).2≠0 then 14 else 0:=by unfold zJ; rw [aO (by rw [he2]; simp)]
  rcases kF (zn.2 ⟨a1,b2⟩) with ⟨g1,k1⟩ | g1
  ·rw [<- h1] at g1 k1;rw [g1,vu] at h2;rcases kF (zn.2 ⟨b1,a2⟩) with ⟨g2,k2⟩ | g2
   ·rw [<- h2] at g2 k2;rw [g2,vu] at h3;have hc0:zJ a b=0:=by rw [hc,aO]; rw [<- h1,<- h2,g1,g2]; simp
    unfold Vb;rw [hc0,aO (by simp),<- h1,<- h2,<- h3];rcases hf (zn.2 ⟨k1,k2⟩) with ⟨g3,k3⟩ | g3
    ·rw [<- h3] at g3 k3;rw [g3,vu] at h4;unfold frac;rw [<- h4,h5];rcases kF (zn.2 ⟨a2,b2⟩) with ⟨g4,k4⟩ | g4
     ·rw [<- h4] at g4;rw [g3,g4,aO (by simp),vu]
     ·rw [<- h4] at g4;rw [g4,aP (by simp),q6 e14]
    ·rw [<- h3] at g3;have q4:r4=([],14):=by rw [h4,g3]; exact q6 e14 _ _ _
     unfold frac;rw [aP (by rw [g3]; simp),h5,q4,q6 e14]
   ·rw [<- h2] at g2;have hc0:zJ a b=14:=by rw [hc,aP]; rw [<- h2,g2]; simp
    unfold Vb;rw [hc0,aP e14];have q3:r3=([],14):=by rw [h3,g2]; exact q6 e14 _ _ _
    have q4:r4=([],14):=by rw [h4,q3]; exact q6 e14 _ _ _
    rw [h5,q4,q6 e14]
  ·rw [<- h1] at g1;have hc0:zJ a b=14:=by rw [hc,aP]; rw [<- h1,g1]; simp
   unfold Vb;rw [hc0,aP e14];have q2:r2=([],14):=by rw [h2,g1]; exact q6 e14 _ _ _
   have q3:r3=([],14):=by rw [h3,q2]; exact q6 e14 _ _ _
   have q4:r4=([],14):=by rw [h4,q3]; exact q6 e14 _ _ _
   rw [h5,q4,q6 e14]
theorem zid{x y z w:L8}{r1 r2 r3:L8×Int}(h1:r1=stp e mulI x y)(h2:r2=stp r1.2 mulI z w)(h3:r3=stp r2.2 wy r1.1 r2.1)
  (hv:errR a=0->errR b=0->zx x y=0/\zx z w=0):r3=if qG a b≠0 then([],qG a b) else frac (mulI x y) (mulI z w):=by
 rcases hp with ⟨he,h2e⟩ | ⟨rfl,ha,hb,_⟩
 ·rw [h2e,aP he];rw [q6 he] at h1;subst h1;rw [q6 he] at h2;subst h2;rw [h3,q6 he]
 ·obtain⟨v1,v2⟩:=hv ha hb;have he2:qG a b=0:=by unfold qG; rw [aP ha]; exact hb
  have e14:(14:Int)≠0:=by decide
  rw [he2,aO (by simp)];rw [vu] at h1;unfold frac;rcases kF v1 with ⟨g1,_⟩ | g1
  ·rw [<- h1] at g1 ⊢;rw [g1,vu] at h2;rcases kF v2 with ⟨g2,_⟩ | g2
   ·rw [<- h2] at g2 ⊢;rw [g1,g2,aO (by simp),h3,g2,vu]
   ·rw [<- h2] at g2 ⊢;rw [g2,aP (by simp),h3,g2,q6 e14]
  ·rw [<- h1] at g1 ⊢;have q2:r2=([],14):=by rw [h2,g1]; exact q6 e14 _ _ _
   rw [g1,aP (by simp),h3,q2,q6 e14]
theorem zhb{r1 r2:L8×Int}(h1:r1=stp e mulI n c)(h2:r2=stp r1.2 mulI m d):(if r2.2≠0 then(0,r2.2) else kB r1.1 r2.1)=cmpR a b:=by
 unfold cmpR;rcases hp with ⟨he,h2e⟩ | ⟨rfl,ha,hb,rfl,rfl,rfl,rfl⟩
 ·have hc:zJ a b=e:=by unfold zJ; rw [aP (by rw [h2e]; exact he)]; exact h2e
  rw [q6 he] at h1;subst h1;rw [q6 he] at h2;subst h2;rw [hc,aP he,aP he]
 ·obtain⟨a1,a2,_⟩:=qR ha;obtain⟨b1,b2,_⟩:=qR hb;have he2:qG a b=0:=by unfold qG; rw [aP ha]; exact hb
  have e14:(14:Int)≠0:=by decide
  have hc:zJ a b=if(mulI (numR a) (denR b)).2≠0\/(mulI (numR b) (denR a)).2≠0 then 14 else 0:=by unfold zJ; rw [aO (by rw [he2]; simp)]
  rw [vu] at h1;rcases kF (zn.2 ⟨a1,b2⟩) with ⟨g1,k1⟩ | g1
  ·rw [<- h1] at g1;rw [g1,vu] at h2;rcases kF (zn.2 ⟨b1,a2⟩) with ⟨g2,k2⟩ | g2
   ·rw [<- h2] at g2;have hc0:zJ a b=0:=by rw [hc,aO]; rw [<- h1,<- h2,g1,g2]; simp
    rw [hc0,aO (by rw [g2]; simp),aO (by simp),<- h1,<- h2]
   ·rw [<- h2] at g2;have hc0:zJ a b=14:=by rw [hc,aP]; rw [<- h2,g2]; simp
    rw [hc0,g2,aP e14,aP e14]
  ·rw [<- h1] at g1;have hc0:zJ a b=14:=by rw [hc,aP]; rw [<- h1,g1]; simp
   have q2:r2=([],14):=by rw [h2,g1]; exact q6 e14 _ _ _
   rw [hc0,q2,aP e14,aP e14]
end
end Go.Nov
end
section
namespace Go.Nov
open Go.Sx
theorem zk8:∀ s:L8,Op.bytesLess s s=false
 | []=>rfl
 | a::s=>by simp [Op.bytesLess,zk8 s]
theorem uk{s t:L8} : cmpS s t=0↔s=t:=by
 unfold cmpS;cases hb:Op.bytesLess s t with
 | true=>
  simp only [if_true];refine⟨λh=>by omega,λh=> ?_⟩;subst h; rw [zk8] at hb; cases hb
 | false=>by_cases h:s=t<;>simp [h]
theorem zeo{x y:Int} : cmpI x y=0↔x=y:=by
 unfold cmpI;split
 ·exact⟨λh=>by omega,λh=>by omega⟩
 ·split
  ·exact⟨λh=>by omega,λh=>by omega⟩
  ·exact⟨λ_=>by omega,λ_=>rfl⟩
theorem zp6{a b:Fx} : cmpF a b=0↔a.name=b.name/\a.date=b.date:=by
 unfold cmpF;by_cases h:cmpS a.name b.name=0
 ·rw [aP h,zeo]; exact⟨λh2=>⟨uk.1 h,h2⟩,λh2=>h2.2⟩
 ·rw [aO h]; exact⟨λh2=>absurd h2 h,λh2=>absurd (uk.2 h2.1) h⟩
theorem zqo{a b:Ch} : cmpC a b=0↔a.zT=b.zT/\a.name=b.name/\a.date=b.date:=by
 unfold cmpC;by_cases h:cmpS a.zT b.zT=0
 ·rw [aP h];have h1:=uk.1 h;by_cases h':cmpS a.name b.name=0
  ·rw [aP h',zeo]; exact⟨λh2=>⟨h1,uk.1 h',h2⟩,λh2=>h2.2.2⟩
  ·rw [aO h']; exact⟨λh2=>absurd h2 h',λh2=>absurd (uk.2 h2.2.1) h'⟩
 ·rw [aO h]; exact⟨λh2=>absurd h2 h,λh2=>absurd (uk.2 h2.1) h⟩
structure OrdK{α:Type}(c:α->α->Int):Prop where
 lt:∀ a b d,c a b<0->c b d<0->c a d<0
 eq:∀ a b d,c a b<0->c b d=0->c a d<0
section
variable {α:Type} {c:α->α->Int} {z x:α}
end
theorem zum{α:Type}{p:α->Bool}{z:α}{l:List α}(h:∀ j,j<l.length->p (l.getD j z)=true):l.all p=true:=by
 rw [bG];intro x hx;obtain⟨j,hj,rfl⟩:=List.getElem_of_mem hx;have:=h j hj;simpa [List.getD,hj] using this
theorem zq9{α:Type}{p:α->Bool}{z:α}{l:List α}{j:Nat}(hj:j<l.length)(h:p (l.getD j z)=false):l.all p=false:=by
 rw [List.all_eq_false];exact⟨l[j],bK hj,by simpa [List.getD,hj] using h⟩
theorem Y2{f:List Fx}{c:List Ch} : errE f c=0↔¬ (1000<f.length\/1000<c.length)/\f.all okF=true/\c.all okC=true/\ordB cmpF Fx.nil f=true/\ordB cmpC Ch.nil c=true:=by
 unfold errE;by_cases hb:1000<f.length\/1000<c.length
 ·rw [aP hb]; simp [hb]
 ·rw [aO hb];by_cases h:(f.all okF&&c.all okC&&ordB cmpF Fx.nil f&&ordB cmpC Ch.nil c)=true
  ·rw [aP h];simp only [bA] at h;exact⟨λ_=>⟨hb,h.1.1.1,h.1.1.2,h.1.2,h.2⟩,λ_=>rfl⟩
  ·rw [aO h];refine⟨λh2=>by omega,λh2=>absurd ?_ h⟩;simp [h2.2.1,h2.2.2.1,h2.2.2.2.1,h2.2.2.2.2]
def zo(l:List Fx)(a:L8)(d:Int):L8×Bool:=match l.find? λx=>decide (x.name=a)&&decide (x.date=d) with
 | some x=>(x.value,true)
 | none=>([],false)
def qn(l:List Ch)(p n:L8)(d:Int):Bool:=match l.find? λx=>decide (x.zT=p)&&(decide (x.name=n)&&decide (x.date=d)) with
 | some x=>x.first
 | none=>false
theorem zrv{α:Type}{p:α->Bool}{l:List α}{z:α}{i:Nat}(hi:i<l.length)(h:p (l.getD i z)=true)(hb:∀ j,j<i->p (l.getD j z)=false):l.find? p=some (l.getD i z):=by
 induction l generalizing i with
 | nil=>simp at hi
 | cons a l ih=>
  cases i with
  | zero=>simp only [List.getD_cons_zero] at h ⊢; simp [h]
  | succ i=>
   have h0:=hb 0 (by omega);simp only [List.getD_cons_zero,List.getD_cons_succ] at h h0 ⊢;rw [List.find?_cons,h0];exact ih (by simpa using hi) h λj hj=>by have:=hb (j+1) (by omega); simpa using this
end Go.Nov
end
section
namespace Go.Nov
theorem zu7{b:L8}(h:allD b)(hn:b≠[])(hz:b.getD 0 0≠48):numD b≠0/\txt (numD b)=b:=by
 have hd:=zjn h;have hl:0<b.length:=List.length_pos_iff.2 hn
 have htl:Ten.tlen (dg b)=(dg b).length:=by
  rcases aR (Ten.tlen (dg b)) (dg b).length with h1 | h1
  ·exfalso;have h2:=Ten.js (dg b) ((dg b).length - 1) (by omega);rw [xM] at h2
   have e:(dg b).getD (b.length - 1) 0=(b.getD 0 0).toNat - 48:=by
    simp only [dg,List.getD_eq_getElem?_getD];rw [List.getElem?_reverse (by simp; omega)];simp [aF hl,show b.length - 1 - (b.length - 1)=0 by omega]
   rw [e] at h2
   have h3:48<=(b.getD 0 0).toNat:=by
    cases b with
    | nil=>exact absurd rfl hn
    | cons c r=>exact(h c (by simp)).1
   apply hz;apply UInt8.toNat_inj.1;show _=48;omega
  ·exact Nat.le_antisymm (Ten.qo _) h1
 have hc:dec (numD b)=dg b:=by
  rw [<- XW];exact Ten.KK hd htl
 have h0:numD b≠0:=by
  intro h0;rw [h0] at hc;have:dg b=[]:=by rw [<- hc]; exact Ten.zX
  have:=congrArg List.length this;rw [xM,List.length_nil] at this;omega
 refine⟨h0,?_⟩;rw [Z2 h0,hc,dg,<- List.map_reverse,List.reverse_reverse,List.map_map]
 conv=>rhs; rw [<- List.map_id b]
 refine List.map_congr_left λc hcm=> ?_
 obtain⟨h1,h2⟩:=h c hcm;apply UInt8.toNat_inj.1;simp only [Function.comp,id];rw [Jz (by omega)];omega
theorem zdh{s:L8}(h:errI s=0):wr (negI s) (numI s)=(s,0):=by
 obtain⟨neg,b,h1,h2,h3,h4,h5,h6⟩:=JC h;have e1:negI s=neg:=by simp [negI,h2]
 have e2:numI s=numD b:=by simp [numI,h2]
 rw [e1,e2];by_cases hz:b.getD 0 0=48
 ·have hb:b=[48]:=by
   cases b with
   | nil=>exact absurd rfl h5
   | cons c r=>
    cases r with
    | nil=>have:c=48:=hz; rw [this]
    | cons d r=>rw [kz hz (by simp)] at h3; cases h3
  subst hb;cases neg with
  | true=>cases h3
  | false=>rw [h1]; rfl
 ·obtain⟨g1,g2⟩:=zu7 h4 h5 hz;unfold wr;rw [aO g1,g2,aO,h1];have:=uL g1;rw [g2] at this;omega
def zI(s:L8):Int:=if negI s then -(numI s:Int) else numI s
theorem wY(s:L8):(zI s).natAbs=numI s:=by unfold zI; split<;>simp
theorem Y4{s:L8}(h:errI s=0):negI s=decide (zI s<0):=by
 unfold zI;cases hn:negI s with
 | false=>simp
 | true=>
  simp only [if_true]
  have:numI s≠0:=by
   intro h0;have:=(yz h).2 h0;rw [this] at hn;cases hn
  exact(aX (by omega)).symm
def wz(z:Int):L8×Int:=wr (decide (z<0)) z.natAbs
theorem JE{s:L8}(h:errI s=0):wz (zI s)=(s,0):=by
 unfold wz;rw [wY,<- Y4 h,zdh h]
theorem zw2{neg:Bool}{x:Nat}(h:(wr neg x).2=0):zI (wr neg x).1=if neg then -(x:Int) else x:=by
 obtain⟨h1,h2,h3⟩:=Jj h;unfold zI;rw [h2,h3];by_cases h0:x=0
 ·subst h0; simp
 ·cases neg<;>simp [h0]
theorem xU{z:Int}(h:(wz z).2=0):zI (wz z).1=z:=by
 unfold wz at h ⊢;rw [zw2 h];by_cases hz:z<0
 ·rw [aX hz]; simp only [if_true]; omega
 ·rw [aW hz]; simp only [Bool.false_eq_true,if_false]; omega
theorem kJ{z:Int}(h:(wz z).2=0):errI (wz z).1=0:=(Jj h).1
theorem U9{neg:Bool}{x:Nat} : wr neg x=wz (if neg then -(x:Int) else x):=by
 unfold wz;by_cases h0:x=0
 ·subst h0;cases neg<;>rfl
 ·cases neg with
  | false=>simp only [Bool.false_eq_true,if_false,Int.natAbs_natCast]; rw [aW (by omega)]
  | true=>simp only [if_true,Int.natAbs_neg,Int.natAbs_natCast]; rw [aX (by omega)]
theorem zkz(m:Bool)(x:Nat)(n:Bool)(y:Nat):(if(sumS m x n y).1 then -((sumS m x n y).2:Int) else(sumS m x n y).2)=(if m then -(x:Int) else x)+(if n then -(y:Int) else y):=by
 unfold sumS;by_cases h:m=n
 ·subst h;rw [aP rfl];cases m<;>simp<;>omega
 ·rw [aO h];by_cases h2:y<=x
  ·rw [aP h2];cases m<;>cases n<;>first | exact absurd rfl h | (simp; omega)
  ·rw [aO h2];cases m<;>cases n<;>first | exact absurd rfl h | (simp; omega)
theorem zvs{s t:L8}(h:zx s t=0):addI s t=wz (zI s+zI t):=by
 unfold addI;rw [aP h,U9,zkz]; rfl
theorem zvo{s t:L8}(h:zx s t=0):subI s t=wz (zI s - zI t):=by
 unfold subI;rw [aP h,U9,zkz];congr 1;unfold zI;cases negI s<;>cases negI t<;>simp<;>omega
theorem yH{s t:L8}(h:zx s t=0):mulI s t=wz (zI s*zI t):=by
 unfold mulI;rw [aP h,U9];congr 1;unfold zI;cases negI s<;>cases negI t<;>simp [Int.neg_mul,Int.mul_neg]
theorem zug(m:Bool)(x:Nat)(n:Bool)(y:Nat)(hm:m=true->x≠0)(hn:n=true->y≠0):cmpZ m x n y=cmpI (if m then -(x:Int) else x) (if n then -(y:Int) else y):=by
 unfold cmpZ cmpI cmpN;cases m<;>cases n
 ·simp only [Bool.false_eq_true,false_and,if_false]
  repeat' split
  all_goals first | rfl | omega
 ·have:=hn rfl;simp only [Bool.false_eq_true,false_and,if_false,true_and,and_self,if_true]
  repeat' split
  all_goals first | rfl | omega
 ·have:=hm rfl;simp only [and_self,if_true,Bool.false_eq_true,if_false]
  repeat' split
  all_goals first | rfl | omega
 ·simp only [Bool.true_eq_false,and_false,if_false,if_true]
  repeat' split
  all_goals first | rfl | omega
def qv(a:L8):Rat:=Rat.divInt (zI (numR a)) (zI (denR a))
def qstr(r:Rat):L8:=if r.den=1 then(wz r.num).1 else(wz r.num).1++[47]++(wz r.den).1
def kP(r:Rat):Prop:=room r.num.natAbs/\room r.den
theorem znb(neg:Bool)(x:Nat):∀ c∈(wr neg x).1,c≠47:=by
 intro c hc h;subst h;unfold wr at hc;split at hc
 ·simp at hc
 ·rename_i h0;split at hc
  ·simp at hc
  ·have ht:¬ (47:UInt8)∈txt x:=λhm=>by
    have:=(zfi h0 _ hm).1;have e:(47:UInt8).toNat=47:=rfl;omega
   cases neg<;>simp [sgn] at hc<;>exact ht hc
theorem zm4{u v:L8}(h:∀ c∈u,c≠47):cutR (u++[47]++v)=(u,v,true):=by
 have hs:zE (u++[47]++v)=u.length:=by
  refine YM (by simp) (by simp [List.getD]) λj hj=> ?_
  rw [List.append_assoc];simp only [List.getD,bL hj,aF hj,Option.getD_some];exact h _ (bK hj)
 rw [Jy (by rw [hs]; simp),hs];simp
theorem zh5{u:L8}(h:∀ c∈u,c≠47):cutR u=(u,[],false):=by
 have hs:zE u=u.length:=WD λj hj=>by
  simp only [List.getD,aF hj,Option.getD_some];exact h _ (bK hj)
 exact Xz (by omega)
theorem UP(z:Int):∀ c∈(wz z).1,c≠47:=znb _ _
theorem uf{z:Int}(h:room z.natAbs):(wz z).2=0:=kU h
theorem zva:wz 1=([49],0):=xt
theorem Zb{r:Rat}(h:kP r):numR (qstr r)=(wz r.num).1/\denR (qstr r)=(wz (r.den:Int)).1/\(cutR (qstr r)).2.2=decide (r.den≠1):=by
 unfold qstr;by_cases h1:r.den=1
 ·rw [aP h1];have:=zh5 (UP r.num);unfold numR denR;rw [this,h1];exact⟨rfl,by simp only [Bool.false_eq_true,if_false]; exact(congrArg Prod.fst zva).symm,by simp⟩
 ·rw [aO h1];have:=zm4 (v:=(wz (r.den:Int)).1) (UP r.num);unfold numR denR;rw [this];exact⟨rfl,rfl,by simp [h1]⟩
theorem J4{r:Rat}(h:kP r):qv (qstr r)=r:=by
 obtain⟨h1,h2,_⟩:=Zb h;unfold qv;rw [h1,h2,xU (uf h.1),xU (uf (by rw [Int.natAbs_natCast]; exact h.2)),Rat.divInt_ofNat,Rat.mkRat_self]
theorem uv{r:Rat}(h:kP r):errR (qstr r)=0:=by
 obtain⟨h1,h2,h3⟩:=Zb h;have e1:=kJ (uf h.1);have e2:errI (wz (r.den:Int)).1=0:=kJ (uf (by rw [Int.natAbs_natCast]; exact h.2));have z1:=xU (uf h.1);have z2:zI (wz (r.den:Int)).1=r.den:=xU (uf (by rw [Int.natAbs_natCast]; exact h.2));unfold errR;by_cases hd:r.den=1
 ·rw [h3,hd];simp only [ne_eq,not_true_eq_false,decide_false,Bool.false_eq_true,if_false];unfold qstr;rw [aP hd];exact e1
 ·have hc:(cutR (qstr r)).2.2=true:=by rw [h3]; simp [hd]
  have n1:(cutR (qstr r)).1=(wz r.num).1:=h1;have n2:(cutR (qstr r)).2.1=(wz (r.den:Int)).1:=by unfold denR at h2; rw [hc] at h2; exact h2
  rw [hc,aP rfl,n1,n2];have hp:=r.den_pos;have hneg:negI (wz (r.den:Int)).1=false:=by rw [Y4 e2,z2]; exact aW (by omega)
  have hn48:(wz (r.den:Int)).1≠[48]:=λh=>by
   rw [h] at z2;have:zI [48]=0:=rfl;omega
  have hn49:(wz (r.den:Int)).1≠[49]:=λh=>by
   rw [h] at z2;have:zI [49]=1:=rfl;omega
  rw [aO (by simp [e1,e2,hneg,hn48,hn49]),aO (by simp [e1,e2])]
  have hg:gcdR (wz r.num).1 (wz (r.den:Int)).1=wr false (Nat.gcd r.num.natAbs r.den):=by
   unfold gcdR;rw [aP (zn.2 ⟨e1,e2⟩),<- wY,<- wY,z1,z2,Int.natAbs_natCast]
  have hr:Nat.gcd r.num.natAbs r.den=1:=r.reduced;rw [hg,hr,xt,aO (by simp)]
theorem yV{a:L8}(h:errR a=0):(qv a).num=zI (numR a)/\((qv a).den:Int)=zI (denR a)/\qstr (qv a)=a/\kP (qv a):=by
 obtain⟨e1,e2,e3,e4⟩:=qR h;have hz:zI (denR a)=numI (denR a):=by unfold zI; rw [e3]; rfl
 have hcop:Nat.gcd (numI (numR a)) (numI (denR a))=1:=by
  unfold errR at h;cases hc:(cutR a).2.2 with
  | true=>
   rw [hc,aP rfl] at h;have hd:denR a=(cutR a).2.1:=by unfold denR; rw [hc]; rfl
   rw [hd] at e2 e4 ⊢;unfold numR at e1 ⊢;split at h
   ·cases h
   split at h
   ·cases h
   split at h
   ·cases h
   ·rename_i hg;rw [Classical.not_not] at hg;unfold gcdR at hg;rw [aP (zn.2 ⟨e1,e2⟩)] at hg;exact(zcm (UQ e2 e4).2).1 hg
  | false=>
   have:denR a=[49]:=by unfold denR; rw [hc]; rfl
   rw [this];exact Nat.gcd_one_right _
 have hq:qv a=⟨zI (numR a),numI (denR a),e4,by rw [wY]; exact hcop⟩:=by
  unfold qv;rw [hz,Rat.mk_eq_divInt]
 have hroom:kP (qv a):=by
  rw [hq];exact⟨by show room (zI (numR a)).natAbs; rw [wY]; exact jQ e1,jQ e2⟩
 refine⟨by rw [hq],by rw [hq,hz],?_,hroom⟩;rw [hq];unfold qstr;simp only;rw [<- hz,JE e1,JE e2];cases hc:(cutR a).2.2 with
 | true=>
  have hd:denR a=(cutR a).2.1:=by unfold denR; rw [hc]; rfl
  have hn1:numI (denR a)≠1:=by
   intro h1
   have:denR a=[49]:=by
    have:=(zdh e2);rw [e3,h1,xt] at this;exact(congrArg Prod.fst this).symm
   unfold errR at h;rw [hc,aP rfl,aP (by rw [<- hd,this]; simp)] at h;cases h
  rw [aO hn1,hd];simp only [numR];unfold cutR at hc ⊢;split at hc
  ·rename_i hs;rw [aP hs];simp only;have h47:=Wy hs
   have:a=a.take (zE a)++([a.getD (zE a) 0]++a.drop (zE a+1)):=by
    conv=>lhs; rw [<- bU (zE a) a]
    congr 1;rw [List.drop_eq_getElem_cons hs];simp [List.getD,aF hs]
   rw [h47] at this;rw [List.append_assoc];exact this.symm
  ·cases hc
 | false=>
  have hd:denR a=[49]:=by unfold denR; rw [hc]; rfl
  rw [hd];have:numI [49]=1:=rfl;rw [aP this];unfold numR;unfold cutR at hc ⊢;split at hc
  ·cases hc
  ·rename_i hs;rw [aO hs]
theorem zs1(a b:Int)(hb:b≠0):b.sign*a=if(decide (a<0) != decide (b<0))=true then -(a.natAbs:Int) else a.natAbs:=by
 by_cases h1:a<0
 ·rw [aX h1];by_cases h2:b<0
  ·rw [aX h2,Int.sign_eq_neg_one_of_neg h2]; simp; omega
  ·rw [aW h2,Int.sign_eq_one_of_pos (by omega)]; simp; omega
 ·rw [aW h1];by_cases h2:b<0
  ·rw [aX h2,Int.sign_eq_neg_one_of_neg h2]; simp; omega
  ·rw [aW h2,Int.sign_eq_one_of_pos (by omega)]; simp; omega
theorem zvw{n d:L8}(hn:errI n=0)(hd:errI d=0)(h0:numI d≠0):wy n d=(qstr (Rat.divInt (zI n) (zI d)),0)/\kP (Rat.divInt (zI n) (zI d)):=by
 have hz0:zI d≠0:=λh=>h0 (by rw [<- wY,h]; rfl)
 have hg:(zI d).gcd (zI n)=Nat.gcd (numI n) (numI d):=by
  show Nat.gcd _ _=_;rw [wY,wY,Nat.gcd_comm]
 have hden:(Rat.divInt (zI n) (zI d)).den=numI d/Nat.gcd (numI n) (numI d):=by
  rw [Rat.den_divInt,aO hz0,hg,wY]
 have hdv:Nat.gcd (numI n) (numI d) ∣ numI n:=Nat.gcd_dvd_left _ _
 have hnum:(Rat.divInt (zI n) (zI d)).num=if(negI n != negI d)=true then -((numI n/Nat.gcd (numI n) (numI d):Nat):Int) else((numI n/Nat.gcd (numI n) (numI d):Nat):Int):=by
  rw [Rat.num_divInt,hg,zs1 _ _ hz0,wY,<- Y4 hn,<- Y4 hd];split
  ·rw [Int.neg_ediv_of_dvd (Int.natCast_dvd_natCast.2 hdv),Int.natCast_ediv]
  ·rw [Int.natCast_ediv]
 have hroom:kP (Rat.divInt (zI n) (zI d)):=by
  refine⟨?_,by rw [hden]; exact room_le (Nat.div_le_self _ _) (jQ hd)⟩;rw [hnum];have:room (numI n/Nat.gcd (numI n) (numI d)):=room_le (Nat.div_le_self _ _) (jQ hn);split
  ·rw [Int.natAbs_neg,Int.natAbs_natCast]; exact this
  ·rw [Int.natAbs_natCast]; exact this
 refine⟨?_,hroom⟩;unfold wy;rw [aO (by rw [zn.2 ⟨hn,hd⟩]; simp),aO h0];congr 1;unfold KG qstr;rw [hden,hnum];have e2:(wr false (numI d/Nat.gcd (numI n) (numI d))).1=(wz ((numI d/Nat.gcd (numI n) (numI d):Nat):Int)).1:=by rw [U9]; rfl
 rw [U9,e2]
theorem zd8{n d:L8}{e f:Int}{z w:Int}(hw:w≠0)(hz:(n,e)=wz z)(hd:(d,f)=wz w):frac (n,e) (d,f)=([],14)\/(frac (n,e) (d,f)=(qstr (Rat.divInt z w),0)/\kP (Rat.divInt z w)):=by
 unfold frac;by_cases he:e=0
 ·by_cases hf:f=0
  ·subst he; subst hf;have h1:(wz z).2=0:=by rw [<- hz]
   have h2:(wz w).2=0:=by rw [<- hd]
   have n1:n=(wz z).1:=by rw [<- hz]
   have n2:d=(wz w).1:=by rw [<- hd]
   have z1:=xU h1;have z2:=xU h2;have e1:=kJ h1;have e2:=kJ h2;rw [<- n1] at z1 e1;rw [<- n2] at z2 e2;right;rw [aO (by simp)];have:=zvw e1 e2 (λh=>hw (by rw [<- z2]; have:=wY d; omega));rw [z1,z2] at this;exact this
  ·left; rw [aP (.inr hf)]
 ·left; rw [aP (.inl he)]
section
variable {a b:L8} (ha:errR a=0) (hb:errR b=0)
include ha hb
theorem KZ:errI (numR a)=0/\errI (denR a)=0/\errI (numR b)=0/\errI (denR b)=0/\zI (denR a)≠0/\zI (denR b)≠0/\qG a b=0:=by
 obtain⟨a1,a2,_,a4⟩:=qR ha;obtain⟨b1,b2,_,b4⟩:=qR hb;exact⟨a1,a2,b1,b2,λh=>a4 (by rw [<- wY,h]; rfl),λh=>b4 (by rw [<- wY,h]; rfl),by unfold qG; rw [aP ha]; exact hb⟩
theorem ZG:zJ a b=14\/(zJ a b=0/\mulI (numR a) (denR b)=wz (zI (numR a)*zI (denR b))/\mulI (numR b) (denR a)=wz (zI (numR b)*zI (denR a))/\(mulI (numR a) (denR b)).2=0/\(mulI (numR b) (denR a)).2=0):=by
 obtain⟨a1,a2,b1,b2,a4,b4,h2⟩:=KZ ha hb;have m1:=yH (zn.2 ⟨a1,b2⟩);have m2:=yH (zn.2 ⟨b1,a2⟩);unfold zJ;rw [aO (by rw [h2]; simp)];by_cases h:(mulI (numR a) (denR b)).2≠0\/(mulI (numR b) (denR a)).2≠0
 ·left; rw [aP h]
 ·right;rw [aO h];simp only [not_or,Classical.not_not] at h;exact⟨rfl,m1,m2,h.1,h.2⟩
theorem zw0:addR a b=([],14)\/(addR a b=(qstr (qv a+qv b),0)/\kP (qv a+qv b)):=by
 obtain⟨a1,a2,b1,b2,a4,b4,h2⟩:=KZ ha hb;unfold addR;rcases ZG ha hb with h | ⟨h,m1,m2,k1,k2⟩
 ·left; rw [h]; rfl
 ·rw [h,aO (by simp)];rw [m1] at k1;rw [m2] at k2;have e1:=kJ k1;have e2:=kJ k2
  have:=zd8 (n:=(addI (mulI (numR a) (denR b)).1 (mulI (numR b) (denR a)).1).1) (e:=(addI (mulI (numR a) (denR b)).1 (mulI (numR b) (denR a)).1).2) (d:=(mulI (denR a) (denR b)).1) (f:=(mulI (denR a) (denR b)).2)
   (z:=zI (numR a)*zI (denR b)+zI (numR b)*zI (denR a)) (w:=zI (denR a)*zI (denR b)) (Int.mul_ne_zero a4 b4) (by rw [m1,m2,zvs (zn.2 ⟨e1,e2⟩),xU k1,xU k2]) (by rw [yH (zn.2 ⟨a2,b2⟩)])
  unfold qv;rw [Rat.divInt_add_divInt _ _ a4 b4];exact this
theorem ztz:subR a b=([],14)\/(subR a b=(qstr (qv a - qv b),0)/\kP (qv a - qv b)):=by
 obtain⟨a1,a2,b1,b2,a4,b4,h2⟩:=KZ ha hb;unfold subR;rcases ZG ha hb with h | ⟨h,m1,m2,k1,k2⟩
 ·left; rw [h]; rfl
 ·rw [h,aO (by simp)];rw [m1] at k1;rw [m2] at k2;have e1:=kJ k1;have e2:=kJ k2
  have:=zd8 (n:=(subI (mulI (numR a) (denR b)).1 (mulI (numR b) (denR a)).1).1) (e:=(subI (mulI (numR a) (denR b)).1 (mulI (numR b) (denR a)).1).2) (d:=(mulI (denR a) (denR b)).1) (f:=(mulI (denR a) (denR b)).2)
   (z:=zI (numR a)*zI (denR b) - zI (numR b)*zI (denR a)) (w:=zI (denR a)*zI (denR b)) (Int.mul_ne_zero a4 b4) (by rw [m1,m2,zvo (zn.2 ⟨e1,e2⟩),xU k1,xU k2]) (by rw [yH (zn.2 ⟨a2,b2⟩)])
  unfold qv;rw [Rat.divInt_sub_divInt _ _ a4 b4];exact this
theorem zv1:mulR a b=([],14)\/(mulR a b=(qstr (qv a*qv b),0)/\kP (qv a*qv b)):=by
 obtain⟨a1,a2,b1,b2,a4,b4,h2⟩:=KZ ha hb;unfold mulR;rw [h2,aO (by simp)]
 have:=zd8 (n:=(mulI (numR a) (numR b)).1) (e:=(mulI (numR a) (numR b)).2) (d:=(mulI (denR a) (denR b)).1) (f:=(mulI (denR a) (denR b)).2)
  (z:=zI (numR a)*zI (numR b)) (w:=zI (denR a)*zI (denR b)) (Int.mul_ne_zero a4 b4) (by rw [yH (zn.2 ⟨a1,b1⟩)]) (by rw [yH (zn.2 ⟨a2,b2⟩)])
 unfold qv;rw [Rat.divInt_mul_divInt];exact this
theorem zbg:cmpR a b=(0,14)\/cmpR a b=(if qv a<qv b then -1 else if qv b<qv a then 1 else 0,0):=by
 obtain⟨a1,a2,b1,b2,a4,b4,h2⟩:=KZ ha hb;obtain⟨p1,p2,_,_⟩:=yV ha;obtain⟨r1,r2,_,_⟩:=yV hb;unfold cmpR;rcases ZG ha hb with h | ⟨h,m1,m2,k1,k2⟩
 ·left; rw [h]; rfl
 ·right;rw [h,aO (by simp)];rw [m1] at k1;rw [m2] at k2;have e1:=kJ k1;have e2:=kJ k2;rw [m1,m2];unfold kB;rw [aP (zn.2 ⟨e1,e2⟩)];congr 1
  have hx:∀ s:L8,errI s=0->negI s=true->numI s≠0:=λs he hn h0=>by
   rw [(yz he).2 h0] at hn; cases hn
  rw [zug _ _ _ _ (hx _ e1) (hx _ e2)];show cmpI (zI (wz (zI (numR a)*zI (denR b))).1) (zI (wz (zI (numR b)*zI (denR a))).1)=_;rw [xU k1,xU k2,<- p1,<- p2,<- r1,<- r2];unfold cmpI;simp only [Rat.lt_iff]
end
theorem zpr{a b:L8}(ha:errR a=0)(hb:errR b=0)(h:(addR a b).2=0):errR (addR a b).1=0/\qv (addR a b).1=qv a+qv b:=by
 rcases zw0 ha hb with h1 | ⟨h1,h2⟩
 ·rw [h1] at h; cases h
 ·rw [h1]; exact⟨uv h2,J4 h2⟩
theorem Qb{a b:L8}(ha:errR a=0)(hb:errR b=0)(h:(subR a b).2=0):errR (subR a b).1=0/\qv (subR a b).1=qv a - qv b:=by
 rcases ztz ha hb with h1 | ⟨h1,h2⟩
 ·rw [h1] at h; cases h
 ·rw [h1]; exact⟨uv h2,J4 h2⟩
theorem wG{a b:L8}(ha:errR a=0)(hb:errR b=0)(h:(mulR a b).2=0):errR (mulR a b).1=0/\qv (mulR a b).1=qv a*qv b:=by
 rcases zv1 ha hb with h1 | ⟨h1,h2⟩
 ·rw [h1] at h; cases h
 ·rw [h1]; exact⟨uv h2,J4 h2⟩
end Go.Nov
end
section
namespace Go.Nov
open Go.Sx
structure Ev where
 v:L8
 e:Int
 b:Bool
 g:Int
abbrev Ev.nil:Ev:=⟨[],0,false,0⟩
def jY(k:Int)(a b:L8):L8×Int:=
 if k=7 then(if(cmpR a b).2≠0 then([],(cmpR a b).2) else(if(cmpR a b).1<0 then b else a,0))
 else(if(cmpR b a).2≠0 then([],(cmpR b a).2) else(if(cmpR b a).1<0 then b else a,0))
def opR(k:Int)(a b:L8):L8×Int:=if k=4 then addR a b else if k=5 then subR a b else if k=6 then mulR a b else jY k a b
def fixR(f:List Fx)(a:L8)(d:Int):L8×Int:=if(zo f a d).2=true then((zo f a d).1,0) else([],30)
def uT{α:Type}(z:α)(l0 l1:Ev)(f:L8->L8->α×Int):α×Int:=if l0.e≠0 then(z,l0.e) else if l1.e≠0 then(z,l1.e) else f l0.v l1.v
def valN(f:List Fx)(day k:Int)(r n:L8)(d:Int)(l:List Ev):L8×Int:=
 if k=1 then(r,0) else if k=2 then fixR f n d else if k=3 then fixR f n day
 else if k=9 then(if(l.getD 0 Ev.nil).g≠0 then([],(l.getD 0 Ev.nil).g) else if(l.getD 0 Ev.nil).b then((l.getD 1 Ev.nil).v,(l.getD 1 Ev.nil).e) else((l.getD 2 Ev.nil).v,(l.getD 2 Ev.nil).e))
 else uT [] (l.getD 0 Ev.nil) (l.getD 1 Ev.nil) (opR k)
def YX(k:Int)(a b:L8):Bool×Int:=if(cmpR a b).2≠0 then(false,(cmpR a b).2) else(if k=11 then decide ((cmpR a b).1<0) else decide ((cmpR a b).1=0),0)
def hldN(k:Int)(l:List Ev):Bool×Int:=
 if 13<=k then(if(l.getD 0 Ev.nil).g≠0 then(false,(l.getD 0 Ev.nil).g) else if k=15 then(!(l.getD 0 Ev.nil).b,0)
  else if(l.getD 0 Ev.nil).b=decide (k=14) then((l.getD 0 Ev.nil).b,0) else((l.getD 1 Ev.nil).b,(l.getD 1 Ev.nil).g))
 else uT false (l.getD 0 Ev.nil) (l.getD 1 Ev.nil) (YX k)
def evN(f:List Fx)(day k:Int)(r n:L8)(d:Int)(l:List Ev):Ev:=⟨(valN f day k r n d l).1,(valN f day k r n d l).2,(hldN k l).1,(hldN k l).2⟩
namespace Ex
mutual
def ev(f:List Fx)(day:Int):Ex->Ev
 | mk k r n d s=>evN f day k r n d (evs f day s)
def evs(f:List Fx)(day:Int):List Ex->List Ev
 | []=>[]
 | x::l=>ev f day x::evs f day l
end
theorem jh{f:List Fx}{day:Int}{s:List Ex}{i:Nat}(h:i<s.length):(evs f day s).getD i Ev.nil=(s.getD i nil).ev f day:=by
 induction s generalizing i with
 | nil=>simp at h
 | cons x s ih=>
  rw [evs];cases i with
  | zero=>rfl
  | succ i=>exact ih (by simpa using h)
theorem Kl{x:Ex}(h:x.zL=1):(x.kind=1/\errR x.rat=0)\/x.kind=2\/x.kind=3 \/
  ((4<=x.kind/\x.kind<=8)/\x.sub.length=2/\(x.sub.getD 0 nil).zL=1/\(x.sub.getD 1 nil).zL=1) \/
  (x.kind=9/\x.sub.length=3/\(x.sub.getD 0 nil).zL=2/\(x.sub.getD 1 nil).zL=1/\(x.sub.getD 2 nil).zL=1):=by
 rw [WK] at h;by_cases hk:j6 x.kind=true
 ·have hk2:(4<=x.kind/\x.kind<=9)\/(11<=x.kind/\x.kind<=15):=by
   by_cases h1:4<=x.kind/\x.kind<=9
   ·exact .inl h1
   ·by_cases h2:11<=x.kind/\x.kind<=15
    ·exact .inr h2
    ·rw [zoz h1 h2] at hk; cases hk
  have two:∀ {k:Int} {ps:List Int} {w:Int},Z7 k=some (ps,w)->kQ k x.rat x.name x.date (w8 x.sub)=1->w=1/\x.sub.length=ps.length/\∀ i,i<x.sub.length->(x.sub.getD i nil).zL=ps.getD i 0:=by
   intro k ps w hs hn;rw [K8 hs] at hn;split at hn
   ·rename_i hc;exact⟨hn,Z6.1 hc.2⟩
   ·cases hn
  generalize x.kind=k at h hk2 ⊢;have hk3:k=4\/k=5\/k=6\/k=7\/k=8\/k=9\/k=11\/k=12\/k=13\/k=14\/k=15:=by omega
  right; right; right;rcases hk3 with rfl | rfl | rfl | rfl | rfl | rfl | rfl | rfl | rfl | rfl | rfl
  iterate 5
   ·left;obtain⟨_,h2,h3⟩:=two rfl h;exact⟨by decide,h2,h3 0 (by rw [h2]; decide),h3 1 (by rw [h2]; decide)⟩
  ·right;obtain⟨_,h2,h3⟩:=two rfl h;exact⟨rfl,h2,h3 0 (by rw [h2]; decide),h3 1 (by rw [h2]; decide),h3 2 (by rw [h2]; decide)⟩
  all_goals
   obtain⟨h1,_⟩:=two rfl h;cases h1
 ·have hk:j6 x.kind=false:=by simpa using hk
  rw [Wc hk] at h;split at h
  ·rename_i hl;simp only [wm,bA] at hl;obtain⟨_,hl⟩:=hl;split at hl
   ·rename_i h1;simp only [bA,aK] at hl;exact .inl ⟨h1,hl.1.1⟩
   ·split at hl
    ·rename_i h2; exact .inr (.inl h2)
    ·split at hl
     ·rename_i h3; exact .inr (.inr (.inl h3))
     ·cases hl
  ·cases h
theorem YR{x:Ex}(h:x.zL=2):((x.kind=11\/x.kind=12)/\x.sub.length=2/\(x.sub.getD 0 nil).zL=1/\(x.sub.getD 1 nil).zL=1) \/
  ((x.kind=13\/x.kind=14)/\x.sub.length=2/\(x.sub.getD 0 nil).zL=2/\(x.sub.getD 1 nil).zL=2)\/(x.kind=15/\x.sub.length=1/\(x.sub.getD 0 nil).zL=2):=by
 rw [WK] at h;by_cases hk:j6 x.kind=true
 ·have hk2:(4<=x.kind/\x.kind<=9)\/(11<=x.kind/\x.kind<=15):=by
   by_cases h1:4<=x.kind/\x.kind<=9
   ·exact .inl h1
   ·by_cases h2:11<=x.kind/\x.kind<=15
    ·exact .inr h2
    ·rw [zoz h1 h2] at hk; cases hk
  have two:∀ {k:Int} {ps:List Int} {w:Int},Z7 k=some (ps,w)->kQ k x.rat x.name x.date (w8 x.sub)=2->w=2/\x.sub.length=ps.length/\∀ i,i<x.sub.length->(x.sub.getD i nil).zL=ps.getD i 0:=by
   intro k ps w hs hn;rw [K8 hs] at hn;split at hn
   ·rename_i hc;exact⟨hn,Z6.1 hc.2⟩
   ·cases hn
  generalize x.kind=k at h hk2 ⊢;have hk3:k=4\/k=5\/k=6\/k=7\/k=8\/k=9\/k=11\/k=12\/k=13\/k=14\/k=15:=by omega
  rcases hk3 with rfl | rfl | rfl | rfl | rfl | rfl | rfl | rfl | rfl | rfl | rfl
  iterate 6
   ·obtain⟨h1,_⟩:=two rfl h;cases h1
  ·obtain⟨_,h2,h3⟩:=two rfl h;exact .inl ⟨.inl rfl,h2,h3 0 (by rw [h2]; decide),h3 1 (by rw [h2]; decide)⟩
  ·obtain⟨_,h2,h3⟩:=two rfl h;exact .inl ⟨.inr rfl,h2,h3 0 (by rw [h2]; decide),h3 1 (by rw [h2]; decide)⟩
  ·obtain⟨_,h2,h3⟩:=two rfl h;exact .inr (.inl ⟨.inl rfl,h2,h3 0 (by rw [h2]; decide),h3 1 (by rw [h2]; decide)⟩)
  ·obtain⟨_,h2,h3⟩:=two rfl h;exact .inr (.inl ⟨.inr rfl,h2,h3 0 (by rw [h2]; decide),h3 1 (by rw [h2]; decide)⟩)
  ·obtain⟨_,h2,h3⟩:=two rfl h;exact .inr (.inr ⟨rfl,h2,h3 0 (by rw [h2]; decide)⟩)
 ·have hk:j6 x.kind=false:=by simpa using hk
  rw [Wc hk] at h;split at h<;>cases h
end Ex
theorem znx{f:List Fx}{a:L8}{d:Int}(h:(zo f a d).2=false):(zo f a d).1=[]:=by
 unfold zo at h ⊢;split
 ·rename_i y hy; rw [hy] at h; cases h
 ·rfl
theorem Ys{f:List Fx}(hf:f.all okF=true){a:L8}{d:Int}(h:(fixR f a d).2=0):errR (fixR f a d).1=0:=by
 unfold fixR at h ⊢;split
 ·rename_i h1;unfold zo at h1 ⊢;split at h1
  ·rename_i y hy;have hm:=List.mem_of_find?_eq_some hy;have:=bG.1 hf _ hm;simp only [okF,bA,aK] at this;exact this.2
  ·cases h1
 ·rename_i h1;rw [aO h1] at h;cases h
theorem zl6{k:Int}{a b:L8}(ha:errR a=0)(hb:errR b=0)(h:(jY k a b).2=0):errR (jY k a b).1=0:=by
 unfold jY at h ⊢;split
 ·rename_i h1;rw [aP h1] at h;split
  ·rename_i h2; rw [aP h2] at h; exact absurd h h2
  ·simp only; split<;>assumption
 ·rename_i h1;rw [aO h1] at h;split
  ·rename_i h2; rw [aP h2] at h; exact absurd h h2
  ·simp only; split<;>assumption
theorem zvm{k:Int}{a b:L8}(ha:errR a=0)(hb:errR b=0)(h:(opR k a b).2=0):errR (opR k a b).1=0:=by
 unfold opR at h ⊢;split
 ·rename_i h1; rw [aP h1] at h; exact(zpr ha hb h).1
 ·rename_i h1;rw [aO h1] at h;split
  ·rename_i h2; rw [aP h2] at h; exact(Qb ha hb h).1
  ·rename_i h2;rw [aO h2] at h;split
   ·rename_i h3; rw [aP h3] at h; exact(wG ha hb h).1
   ·rename_i h3;rw [aO h3] at h;exact zl6 ha hb h
theorem wx{a:L8}(h:errR a=0):a.length<=2003:=by
 have h1:=(yV h).2.2.1;rw [<- h1];unfold qstr wz;have g1:=k5 (decide ((qv a).num<0)) (qv a).num.natAbs;have g2:=k5 (decide (((qv a).den:Int)<0)) ((qv a).den:Int).natAbs;split
 ·omega
 ·simp only [bO,aL,List.length_nil];omega
theorem Ex.Qc{f:List Fx}(hf:f.all okF=true)(day:Int):∀ x:Ex,x.zL=1->(x.ev f day).e=0->errR (x.ev f day).v=0
 | .mk k r n d s,hs,he=>by
  have hc:=Ex.Kl hs;simp only [Ex.kind,Ex.rat,Ex.sub] at hc;rw [Ex.ev] at he ⊢;simp only [evN] at he ⊢;unfold valN at he ⊢;rcases hc with ⟨rfl,h1⟩ | rfl | rfl | ⟨⟨h1,h2⟩,h3,h4,h5⟩ | ⟨rfl,h3,h4,h5,h6⟩
  ·simpa using h1
  ·simp only [show ¬ (2:Int)=1 by decide,if_false,if_true] at he ⊢;exact Ys hf he
  ·simp only [show ¬ (3:Int)=1 by decide,show ¬ (3:Int)=2 by decide,if_false,if_true] at he ⊢;exact Ys hf he
  ·rw [aO (by omega),aO (by omega),aO (by omega),aO (by omega)] at he ⊢;rw [Ex.jh (by omega),Ex.jh (by omega)] at he ⊢;unfold uT at he ⊢;have w0:s.getD 0 Ex.nil∈s:=by simp [List.getD,aF (show 0<s.length by omega)]
   have w1:s.getD 1 Ex.nil∈s:=by simp [List.getD,aF (show 1<s.length by omega)]
   split
   ·rename_i g; rw [aP g] at he; exact absurd he g
   ·rename_i g;rw [aO g] at he;split
    ·rename_i g2; rw [aP g2] at he; exact absurd he g2
    ·rename_i g2;rw [aO g2] at he;rw [Classical.not_not] at g g2;exact zvm (Ex.Qc hf day _ h4 g) (Ex.Qc hf day _ h5 g2) he
  ·simp only [show ¬ (9:Int)=1 by decide,show ¬ (9:Int)=2 by decide,show ¬ (9:Int)=3 by decide,if_false,if_true] at he ⊢;rw [Ex.jh (by omega),Ex.jh (by omega),Ex.jh (by omega)] at he ⊢;have w1:s.getD 1 Ex.nil∈s:=by simp [List.getD,aF (show 1<s.length by omega)]
   have w2:s.getD 2 Ex.nil∈s:=by simp [List.getD,aF (show 2<s.length by omega)]
   split
   ·rename_i g; rw [aP g] at he; exact absurd he g
   ·rename_i g;rw [aO g] at he;split
    ·rename_i g2; rw [aP g2] at he; exact Ex.Qc hf day _ h5 he
    ·rename_i g2; rw [aO g2] at he; exact Ex.Qc hf day _ h6 he
termination_by x=>x.size
decreasing_by
 all_goals
  rw [Ex.size];have a0:=Ex.qu (s:=s) (i:=0);have a1:=Ex.qu (s:=s) (i:=1);have a2:=Ex.qu (s:=s) (i:=2)
  first
  | (have:=a0 (by omega); omega)
  | (have:=a1 (by omega); omega)
  | (have:=a2 (by omega); omega)
theorem zi0{a b:L8}(ha:errR a=0)(hb:errR b=0):zJ b a=zJ a b:=by
 have h1:qG a b=0:=by unfold qG; rw [aP ha]; exact hb
 have h2:qG b a=0:=by unfold qG; rw [aP hb]; exact ha
 unfold zJ;have n0:¬ (0:Int)≠0:=by simp
 rw [h1,h2,aO n0,aO n0];by_cases h:(mulI (numR a) (denR b)).2≠0\/(mulI (numR b) (denR a)).2≠0
 ·rw [aP h,aP h.symm]
 ·rw [aO h,aO λh2=>h h2.symm]
theorem zj7{a b:L8}(ha:errR a=0)(hb:errR b=0):(cmpR b a).2=(cmpR a b).2/\((cmpR b a).1<0↔0<(cmpR a b).1):=by
 have hs:=zi0 ha hb;rcases zbg ha hb with h1 | h1
 ·have hc:zJ a b≠0:=λh0=>by
   have:cmpR a b=kB (mulI (numR a) (denR b)).1 (mulI (numR b) (denR a)).1:=by unfold cmpR; rw [h0]; rfl
   rcases ZG ha hb with h | ⟨_,m1,m2,k1,k2⟩
   ·rw [h] at h0; cases h0
   ·rw [m1] at k1; rw [m2] at k2;rw [this,m1,m2] at h1;unfold kB at h1;rw [aP (zn.2 ⟨kJ k1,kJ k2⟩)] at h1;exact absurd (show(0:Int)=14 from congrArg Prod.snd h1) (by decide)
  have:cmpR b a=(0,zJ b a):=by unfold cmpR; rw [aP (by rw [hs]; exact hc)]
  have h2:cmpR a b=(0,zJ a b):=by unfold cmpR; rw [aP hc]
  rw [this,h2,hs];exact⟨rfl,Iff.rfl⟩
 ·rcases zbg hb ha with h2 | h2
  ·have hc:zJ a b=0:=by
    by_cases h0:zJ a b=0
    ·exact h0
    ·have:cmpR a b=(0,zJ a b):=by unfold cmpR; rw [aP h0]
     rw [this] at h1;exact absurd (congrArg Prod.snd h1) h0
   rcases ZG hb ha with h | ⟨_,m1,m2,k1,k2⟩
   ·rw [hs,hc] at h; cases h
   ·rw [m1] at k1; rw [m2] at k2;unfold cmpR at h2;rw [hs,hc,aO (by simp),m1,m2] at h2;unfold kB at h2;rw [aP (zn.2 ⟨kJ k1,kJ k2⟩)] at h2;exact absurd (show(0:Int)=14 from congrArg Prod.snd h2) (by decide)
  ·rw [h1,h2];refine⟨rfl,?_⟩;simp only;by_cases g1:qv a<qv b
   ·have g2:¬ qv b<qv a:=λg=>(Rat.lt_iff_le_and_not_ge.1 g1).2 (Rat.le_of_lt g)
    rw [aP g1,aO g2,aP g1]; decide
   ·rw [aO g1,aO g1];by_cases g2:qv b<qv a
    ·rw [aP g2,aP g2]; decide
    ·rw [aO g2,aO g2]
end Go.Nov
end
section
namespace Go.Nov
def askE(x:Ex)(want day:Int)(f:List Fx)(c:List Ch):Int:=if x.errX≠0 then x.errX else if x.zL≠want then 32 else if errE f c≠0 then errE f c else if dayB day then 0 else 2
def jT(x:Ex)(day:Int)(f:List Fx)(c:List Ch):L8×Int:=if askE x 1 day f c≠0 then([],askE x 1 day f c) else if(x.ev f day).e≠0 then([],(x.ev f day).e) else((x.ev f day).v,0)
def yh(x:Ex)(day:Int)(f:List Fx)(c:List Ch):Bool×Int:=if askE x 2 day f c≠0 then(false,askE x 2 day f c) else if(x.ev f day).g≠0 then(false,(x.ev f day).g) else((x.ev f day).b,0)
theorem zwh{x:Ex}{want day:Int}{f:List Fx}{c:List Ch}(h:x.errX≠0):askE x want day f c=x.errX:=by unfold askE; rw [aP h]
theorem zwn{x:Ex}{want day:Int}{f:List Fx}{c:List Ch}(h:x.errX=0)(h2:¬ x.zL=want):askE x want day f c=32:=by unfold askE; rw [aO (by rw [h]; simp),aP h2]
theorem zsx{x:Ex}{want day:Int}{f:List Fx}{c:List Ch}(h:x.errX=0)(h2:x.zL=want):askE x want day f c=if errE f c=0 then(if dayB day=true then 0 else 2) else errE f c:=by
 unfold askE;rw [aO (by rw [h]; simp),aO (by rw [h2]; simp)];by_cases g:errE f c=0
 ·rw [aP g,aO (by rw [g]; simp)]
 ·rw [aO g,aP g]
theorem Vp{x:Ex}{want day:Int}{f:List Fx}{c:List Ch}(h:askE x want day f c=0):x.errX=0/\x.zL=want/\errE f c=0/\dayB day=true:=by
 unfold askE at h;split at h
 ·rename_i g; exact absurd h g
 ·rename_i g1;split at h
  ·cases h
  ·rename_i g2;split at h
   ·rename_i g; exact absurd h g
   ·rename_i g3;split at h
    ·rename_i g4;exact⟨Classical.not_not.1 g1,Classical.not_not.1 g2,Classical.not_not.1 g3,g4⟩
    ·cases h
end Go.Nov
end
section
namespace Go.Nov
open Go.Sx
structure Fl where
 date:Int
 src:L8
 dst:L8
 ccy:L8
 amt:L8
def Fl.nil:Fl:=⟨0,[],[],[],[]⟩
def Fl.cell(f:Fl):Nat->AV
 | 0=>.i f.date
 | 1=>.str f.src
 | 2=>.str f.dst
 | 3=>.str f.ccy
 | 4=>.str f.amt
 | _=>.undef
def flG(l:List Fl):Nat->Nat->AV:=λj=>(l.getD j Fl.nil).cell
def flS(l:List Fl):AV:=.sl l.length 5 (flG l)
def Fl.av(f:Fl):AV:=.agg [.i f.date,.str f.src,.str f.dst,.str f.ccy,.str f.amt]
def payF(d:Int)(a b n r:L8):List Fl:=if r=[48] then [] else if r.getD 0 0=45 then [⟨d,b,a,n,r.drop 1⟩] else [⟨d,a,b,n,r⟩]
def firstM(is:Int->Except Int Bool)(day fin:Int):List Int->Except Int Int
 | []=>.ok fin
 | d::l=>if fin<=d then .ok fin else if day<=d then(match is d with
  | .error e=>.error e
  | .ok true=>.ok d
  | .ok false=>firstM is day fin l) else firstM is day fin l
def jy(k:L8):List Fl->Except Int (List Fl)
 | []=>.ok []
 | f::l=>if(mulR f.amt k).2≠0 then .error (mulR f.amt k).2 else match jy k l with
  | .error e=>.error e
  | .ok m=>.ok (payF f.date f.src f.dst f.ccy (mulR f.amt k).1++m)
def valM(x:Ex)(d:Int)(f:List Fx)(c:List Ch):Except Int (L8):=if(jT x d f c).2=0 then .ok (jT x d f c).1 else .error (jT x d f c).2
def holM(x:Ex)(d:Int)(f:List Fx)(c:List Ch):Except Int Bool:=if(yh x d f c).2=0 then .ok (yh x d f c).1 else .error (yh x d f c).2
def andM{α β:Type}(x:Except Int α)(k:α->Except Int β):Except Int β:=match x with
 | .error e=>.error e
 | .ok a=>k a
mutual
def flM(f:List Fx)(c:List Ch):Con->Int->Int->Except Int (List Fl)
 | .mk k a b n x d l s=>λday fin=>
  if fin<=day then .ok []
  else if k=2 then andM (valM x day f c) λr=>.ok (payF day a b n r)
  else if k=3 then andM ((flMs f c s).getD 0 (λ_ _=>.ok []) day fin) λu=>andM ((flMs f c s).getD 1 (λ_ _=>.ok []) day fin) λv=>.ok (u++v)
  else if k=4 then andM (valM x day f c) λr=>andM ((flMs f c s).getD 0 (λ_ _=>.ok []) day fin) λu=>jy r u
  else if k=5 then andM (holM x day f c) λt=>(flMs f c s).getD (if t=true then 0 else 1) (λ_ _=>.ok []) day fin
  else if k=6 then(if day<=d then(flMs f c s).getD 0 (λ_ _=>.ok []) d fin else .ok [])
  else if k=7 then(flMs f c s).getD (if qn c a n day=true then 0 else 1) (λ_ _=>.ok []) day fin
  else if k=8 then andM (firstM (λt=>.ok (qn c a n t)) day fin l) λt=>(flMs f c s).getD 0 (λ_ _=>.ok []) t fin
  else if k=9 then andM (firstM (λt=>holM x t f c) day fin l) λt=>(flMs f c s).getD 0 (λ_ _=>.ok []) day t
  else if k=10 then andM (firstM (λt=>holM x t f c) day fin l) λt=>(flMs f c s).getD 0 (λ_ _=>.ok []) t fin
  else .ok []
def flMs(f:List Fx)(c:List Ch):List Con->List (Int->Int->Except Int (List Fl))
 | []=>[]
 | e::s=>flM f c e::flMs f c s
end
theorem Y8(f:List Fx)(c:List Ch):∀ (s:List Con) (i:Nat),i<s.length->(flMs f c s).getD i (λ_ _=>.ok [])=flM f c (s.getD i Con.nil)
 | [],_,h=>by simp at h
 | e::s,0,_=>by rw [flMs]; rfl
 | e::s,i+1,h=>by rw [flMs,List.getD_cons_succ,List.getD_cons_succ]; exact Y8 f c s i (by simpa using h)
def insF(x:Fl):List Fl->List Fl
 | []=>[x]
 | y::l=>if y.date<=x.date then y::insF x l else x::y::l
def ordM(l:List Fl):List Fl:=l.foldl (λm x=>insF x m) []
def befM(c:Con)(day fin:Int)(f:List Fx)(h:List Ch):List Fl×Int:=
 if c.errC≠0 then([],c.errC) else if errE f h≠0 then([],errE f h) else if day<0\/99999<day\/fin<0\/100000<fin then([],2) else match flM f h c day fin with
  | .error e=>([],e)
  | .ok l=>(ordM l,0)
def wO(c:Con)(day:Int)(f:List Fx)(h:List Ch):List Fl×Int:=befM c day 100000 f h
def je(l:List Fl):Prop:=l.Pairwise λx y=>x.date<=y.date
def onF(d:Int)(l:List Fl):List Fl:=l.filter λy=>decide (y.date=d)
theorem qq(d:Int)(x:Fl)(l:List Fl):onF d (x::l)=if x.date=d then x::onF d l else onF d l:=by
 unfold onF; rw [List.filter_cons]; by_cases h:x.date=d<;>simp [h]
theorem ze4(d:Int)(l m:List Fl):onF d (l++m)=onF d l++onF d m:=by unfold onF; rw [List.filter_append]
theorem zaf{d:Int}{l:List Fl}(h:∀ y∈l,d<y.date):onF d l=[]:=by
 unfold onF;rw [List.filter_eq_nil_iff];intro y hy;have:=h y hy;simp; omega
theorem QI:∀ {l m:List Fl},je l->je m->(∀ d,onF d l=onF d m)->l=m
 | [],[],_,_,_=>rfl
 | [],y::m,_,_,h=>by have:=h y.date; rw [qq,aP rfl] at this; cases this
 | x::l,[],_,_,h=>by have:=h x.date; rw [qq,aP rfl] at this; cases this
 | x::l,y::m,hl,hm,h=>by
  unfold je at hl hm;rw [List.pairwise_cons] at hl hm;have mem:∀ {z:Fl} {n:List Fl},z∈onF z.date n->z∈n:=λhz=>(List.mem_filter.1 hz).1
  have h1:y.date<=x.date:=by
   have:x∈onF x.date (y::m):=by rw [<- h,qq,aP rfl]; simp
   rcases aM.1 (mem this) with e | e
   ·rw [e]; exact Int.le_refl _
   ·exact hm.1 x e
  have h2:x.date<=y.date:=by
   have:y∈onF y.date (x::l):=by rw [h,qq,aP rfl]; simp
   rcases aM.1 (mem this) with e | e
   ·rw [e]; exact Int.le_refl _
   ·exact hl.1 y e
  have h3:y.date=x.date:=by omega
  have h4:=h x.date;rw [qq,qq,aP rfl,aP h3] at h4;have h5:x=y:=(List.cons.inj h4).1;subst h5;congr 1;refine QI hl.2 hm.2 λd=> ?_
  have:=h d;rw [qq,qq] at this;split at this
  ·exact(List.cons.inj this).2
  ·exact this
theorem zfk(x z:Fl):∀ l:List Fl,z∈insF x l↔z=x\/z∈l
 | []=>by simp [insF]
 | y::l=>by
  rw [insF];split
  ·rw [aM,zfk x z l,aM];exact⟨λh=>by rcases h with h | h | h<;>simp [h],λh=>by rcases h with h | h | h<;>simp [h]⟩
  ·simp
theorem zal(x:Fl):∀ {l:List Fl},je l->je (insF x l)
 | [],_=>by unfold je; simp [insF]
 | y::l,h=>by
  unfold je at h;rw [List.pairwise_cons] at h;rw [insF];split
  ·rename_i hle;unfold je;rw [List.pairwise_cons];refine⟨λz hz=> ?_,zal x h.2⟩;rcases(zfk x z l).1 hz with e | e
   ·rw [e]; exact hle
   ·exact h.1 z e
  ·rename_i hlt;unfold je;rw [List.pairwise_cons,List.pairwise_cons];refine⟨λz hz=> ?_,h⟩;rcases aM.1 hz with e | e
   ·rw [e]; omega
   ·have:=h.1 z e; omega
theorem zmy(x:Fl)(d:Int):∀ {l:List Fl},je l->onF d (insF x l)=onF d l++onF d [x]
 | [],_=>by rw [insF]; rfl
 | y::l,h=>by
  have h0:=h;unfold je at h;rw [List.pairwise_cons] at h;rw [insF];split
  ·rw [qq,qq,zmy x d h.2];split<;>simp
  ·rename_i hlt;rw [qq d x];by_cases hx:x.date=d
   ·have hn:onF d (y::l)=[]:=zaf λz hz=>by
     rcases aM.1 hz with e | e
     ·rw [e]; omega
     ·have:=h.1 z e; omega
    rw [aP hx,hn,qq,aP hx]; rfl
   ·rw [aO hx,qq d x,aO hx];show _=_++[];rw [List.append_nil]
theorem Yn:∀ (l m:List Fl),je m->je (l.foldl (λm x=>insF x m) m)/\∀ d,onF d (l.foldl (λm x=>insF x m) m)=onF d m++onF d l
 | [],m,h=>⟨h,λd=>by show onF d m=onF d m++[]; rw [List.append_nil]⟩
 | x::l,m,h=>by
  obtain⟨h1,h2⟩:=Yn l (insF x m) (zal x h);refine⟨h1,λd=> ?_⟩;rw [List.foldl_cons,h2,zmy x d h,List.append_assoc,<- ze4]; rfl
theorem YZ(l:List Fl):je (ordM l):=(Yn l [] List.Pairwise.nil).1
theorem zlq(d:Int)(l:List Fl):onF d (ordM l)=onF d l:=by
 have:=(Yn l [] List.Pairwise.nil).2 d;simpa [ordM,onF] using this
def q5:Nat->List Fl->List Fl->List Fl
 | n+1,x::a,y::b=>if y.date<x.date then y::q5 n (x::a) b else x::q5 n a (y::b)
 | _,a,b=>a++b
theorem uK(n:Nat)(a:List Fl):q5 n a []=a:=by cases n<;>cases a<;>simp [q5]
theorem xE(n:Nat)(b:List Fl):q5 n [] b=b:=by cases n<;>simp [q5]
theorem uj(z:Fl):∀ (n:Nat) (a b:List Fl),z∈q5 n a b↔z∈a\/z∈b
 | 0,a,b=>by simp [q5]
 | n+1,[],b=>by rw [xE]; simp
 | n+1,x::a,[]=>by rw [uK]; simp
 | n+1,x::a,y::b=>by
  rw [q5];split
  ·rw [aM,uj z n (x::a) b,aM (l:=b)];exact⟨λh=>by rcases h with h | h | h<;>simp [h],λh=>by rcases h with h | h | h<;>simp [h]⟩
  ·rw [aM,uj z n a (y::b),aM (l:=a)];exact⟨λh=>by rcases h with h | h | h<;>simp [h],λh=>by rcases h with (h | h) | h<;>simp [h]⟩
theorem Q9:∀ (n:Nat) (a b:List Fl),a.length+b.length<=n->je a->je b->je (q5 n a b)/\∀ d,onF d (q5 n a b)=onF d a++onF d b
 | n,[],b,_,_,hb=>by rw [xE]; exact⟨hb,λd=>rfl⟩
 | n,x::a,[],_,ha,_=>by rw [uK]; exact⟨ha,λd=>by show _=_++[]; rw [List.append_nil]⟩
 | 0,x::a,y::b,h,_,_=>by simp at h
 | n+1,x::a,y::b,h,ha,hb=>by
  have ha':=ha;have hb':=hb;unfold je at ha' hb';rw [List.pairwise_cons] at ha' hb';simp only [aL] at h;rw [q5];split
  ·rename_i hlt;obtain⟨h1,h2⟩:=Q9 n (x::a) b (by simp only [aL]; omega) ha hb'.2;refine⟨?_,λd=> ?_⟩
   ·unfold je;rw [List.pairwise_cons];refine⟨λz hz=> ?_,h1⟩;rcases(uj z n _ _).1 hz with e | e
    ·rcases aM.1 e with e | e
     ·rw [e]; omega
     ·have:=ha'.1 z e; omega
    ·exact hb'.1 z e
   ·rw [qq,h2,qq d y b];by_cases hy:y.date=d
    ·have hn:onF d (x::a)=[]:=zaf λz hz=>by
      rcases aM.1 hz with e | e
      ·rw [e]; omega
      ·have:=ha'.1 z e; omega
     rw [aP hy,aP hy,hn]; rfl
    ·rw [aO hy,aO hy]
  ·rename_i hge;obtain⟨h1,h2⟩:=Q9 n a (y::b) (by simp only [aL]; omega) ha'.2 hb;refine⟨?_,λd=> ?_⟩
   ·unfold je;rw [List.pairwise_cons];refine⟨λz hz=> ?_,h1⟩;rcases(uj z n _ _).1 hz with e | e
    ·exact ha'.1 z e
    ·rcases aM.1 e with e | e
     ·rw [e]; omega
     ·have:=hb'.1 z e; omega
   ·rw [qq,h2,qq d x a];split<;>simp
def ordP:Nat->List Fl->List Fl
 | 0,l=>l
 | n+1,l=>if l.length<2 then l else q5 l.length (ordP n (l.take (l.length/2))) (ordP n (l.drop (l.length/2)))
theorem ZV:∀ (n:Nat) (l:List Fl),l.length<=n->je (ordP n l)/\(∀ d,onF d (ordP n l)=onF d l)/\(ordP n l).length=l.length
 | 0,l,h=>by
  obtain rfl:l=[]:=aU.1 (by omega);exact⟨List.Pairwise.nil,λd=>rfl,rfl⟩
 | n+1,l,h=>by
  rw [ordP];split
  ·rename_i h2;refine⟨?_,λd=>rfl,rfl⟩
   match l,h2 with
   | [],_=>exact List.Pairwise.nil
   | [x],_=>unfold je; simp
  ·have e1:(l.take (l.length/2)).length<=n:=by rw [aH]; omega
   have e2:(l.drop (l.length/2)).length<=n:=by rw [bV]; omega
   obtain⟨a1,a2,a3⟩:=ZV n _ e1;obtain⟨b1,b2,b3⟩:=ZV n _ e2
   have hlen:(ordP n (l.take (l.length/2))).length+(ordP n (l.drop (l.length/2))).length=l.length:=by
    rw [a3,b3,aH,bV]; omega
   obtain⟨c1,c2⟩:=Q9 l.length _ _ (by omega) a1 b1;refine⟨c1,λd=> ?_,?_⟩
   ·rw [c2,a2,b2,<- ze4,bU]
   ·rw [QW,hlen]
where
 QW:∀ {n:Nat} {a b:List Fl},(q5 n a b).length=a.length+b.length
  | 0,a,b=>by simp [q5]
  | n+1,[],b=>by rw [xE]; simp
  | n+1,x::a,[]=>by rw [uK]; simp
  | n+1,x::a,y::b=>by
   rw [q5];split
   ·rw [aL,QW]; simp; omega
   ·rw [aL,QW]; simp; omega
theorem ZT{n:Nat}{l:List Fl}(h:l.length<=n):ordP n l=ordM l:=by
 obtain⟨h1,h2,_⟩:=ZV n l h;exact QI h1 (YZ l) λd=>by rw [h2,zlq]
end Go.Nov
end
section
namespace Go.Sx
variable [Stat]
section
variable {own own' O:Nat->Prop} {w w':World} {σ Z':List SE} {P:Program} {fn:Func} {Xp:List PanicEntry->Prop}
def upA0(d k:Nat):AV->AV->Prop
 | .nils,.osl i _ off n=>(d<=i/\i<d+k)/\off=0/\n=0
 | a,b=>a=b
def upL0(d k:Nat):List AV->List AV->Prop
 | [],[]=>True
 | a::l,b::m=>upA0 d k a b/\upL0 d k l m
 | _,_=>False
def upA1(d k:Nat):AV->AV->Prop
 | .agg l,.agg m=>upL0 d k l m
 | a,b=>upA0 d k a b
def upL1(d k:Nat):List AV->List AV->Prop
 | [],[]=>True
 | a::l,b::m=>upA1 d k a b/\upL1 d k l m
 | _,_=>False
def upA2(d k:Nat):AV->AV->Prop
 | .tup l,.tup m=>upL1 d k l m
 | a,b=>upA1 d k a b
def jP(k:Nat):List SE:=List.replicate k ⟨none,0⟩
theorem Jm.mono{g:Nat}{vals:Array Value}{R R':Value->World->Prop}(hR:∀ v w',R v w'->R' v w')(h:Jm P g vals w R):Jm P g vals w R':=by
 rcases h with ⟨h1,h2⟩ | ⟨v,w',h1,h2⟩
 ·exact .inl ⟨h1,h2.mono λe w' ⟨v,he,hv⟩=>⟨v,he,hR v w' hv⟩⟩
 ·exact .inr ⟨v,w',h1,hR v w' h2⟩
theorem ja{k i:Nat}{e:SE}(h:(σ++jP k)[i]?=some e):(i<σ.length/\σ[i]?=some e)\/(σ.length<=i/\e=⟨none,0⟩):=by
 rw [bT] at h;split at h
 ·rename_i hi; exact .inl ⟨hi,h⟩
 ·rename_i hi;right;refine⟨by omega,?_⟩;simp only [jP,List.getElem?_replicate] at h;split at h
  ·cases h; rfl
  ·cases h
theorem Zr{k b:Nat}(h:Mine (σ++jP k) b):Mine σ b:=by
 obtain⟨e,he,ad,h1,h2⟩:=h;rcases bZ.1 he with he | he
 ·exact⟨e,he,ad,h1,h2⟩
 ·have:=List.eq_of_mem_replicate he;subst this;cases h1
theorem xp{k b:Nat}(h:Own O (σ++jP k) b):Own O σ b:=by
 rcases h with h | h
 ·exact .inl h
 ·exact .inr (Zr h)
theorem vk(K:List Nat)(w:World)(σ:List SE)(k:Nat):Hold K w σ w (σ++jP k):=λi e he _=>by
 have hi:=(aG.1 he).1;exact⟨by rw [bL hi]; exact he,λad _ cs el h=>⟨cs,el,h,rfl⟩⟩
theorem Xo{k:Nat}(hx:Ext own w own' w){a b:AV}{v:Value}(hu:upA0 σ.length k a b)(ha:Rep own w a σ v):Rep own' w b (σ++jP k) v:=by
 unfold upA0 at hu;split at hu
 ·obtain⟨⟨h1,h2⟩,rfl,rfl⟩:=hu;rename_i i sz _ _;simp only [Rep] at ha ⊢;refine⟨⟨none,0⟩,?_,by simp,none,0,ha,aJ _,.inl rfl⟩;rw [List.getElem?_append_right h1,jP,List.getElem?_replicate,aP (by omega)]
 ·subst hu;exact zU (K:=[]) hx (vk [] w σ k) _ _ (qW _) ha
theorem JV{k:Nat}(hx:Ext own w own' w):∀ {l m:List AV} {vs:List Value},upL0 σ.length k l m->RepL own w l σ vs->RepL own' w m (σ++jP k) vs
 | [],[],vs,_,h=>by simpa [RepL] using h
 | a::l,b::m,vs,hl,h=>by
  simp only [RepL] at h ⊢;obtain⟨v,r,hv,h1,h2⟩:=h;exact⟨v,r,hv,Xo hx hl.1 h1,JV hx hl.2 h2⟩
 | [],_::_,_,hl,_=>hl.elim
 | _::_,[],_,hl,_=>hl.elim
theorem VV{k:Nat}(hx:Ext own w own' w){a b:AV}{v:Value}(hu:upA1 σ.length k a b)(ha:Rep own w a σ v):Rep own' w b (σ++jP k) v:=by
 unfold upA1 at hu;split at hu
 ·simp only [Rep] at ha ⊢;obtain⟨vs,hv,hr⟩:=ha;exact⟨vs,hv,JV hx hu hr⟩
 ·exact Xo hx hu ha
theorem Zc{k:Nat}(hx:Ext own w own' w):∀ {l m:List AV} {vs:List Value},upL1 σ.length k l m->RepL own w l σ vs->RepL own' w m (σ++jP k) vs
 | [],[],vs,_,h=>by simpa [RepL] using h
 | a::l,b::m,vs,hl,h=>by
  simp only [RepL] at h ⊢;obtain⟨v,r,hv,h1,h2⟩:=h;exact⟨v,r,hv,VV hx hl.1 h1,Zc hx hl.2 h2⟩
 | [],_::_,_,hl,_=>hl.elim
 | _::_,[],_,hl,_=>hl.elim
theorem QN{k:Nat}(hx:Ext own w own' w){a b:AV}{v:Value}(hu:upA2 σ.length k a b)(ha:Rep own w a σ v):Rep own' w b (σ++jP k) v:=by
 unfold upA2 at hu;split at hu
 ·simp only [Rep] at ha ⊢;obtain⟨vs,hv,hr⟩:=ha;exact⟨vs,hv,Zc hx hu hr⟩
 ·exact VV hx hu ha
def xm(szs:List (Nat×(Nat->Nat->AV))):Heap:=szs.map λs=>.arr 0 s.1 s.2
theorem zef(hx:Ext own w own' w){hs:Heap}(hh:HRep own w σ hs)(szs:List (Nat×(Nat->Nat->AV))):HRep own' w (σ++jP szs.length) (hs++xm szs):=by
 have hl:=hh.len;refine⟨by simp [jP,xm,hl],λi j e f a b he hf ha hb hij=> ?_,λi e a he ha=> ?_,λi e b he hb=> ?_⟩
 ·rcases ja he with ⟨_,he⟩ | ⟨_,rfl⟩
  ·rcases ja hf with ⟨_,hf⟩ | ⟨_,rfl⟩
   ·exact hh.inj i j e f a b he hf ha hb hij
   ·cases hb
  ·cases ha
 ·rcases ja he with ⟨_,he⟩ | ⟨_,rfl⟩
  ·exact hh.lt i e a he ha
  ·cases ha
 ·rcases ja he with ⟨hi,he⟩ | ⟨hi,rfl⟩
  ·rw [bL (by omega)] at hb;have:=jd (K:=[]) hx (vk [] w σ szs.length) (hh.blk i e b he hb) (λ_ _=>rfl)
   rwa [jf] at this
  ·rw [List.getElem?_append_right (by omega)] at hb;simp only [xm,aN] at hb;cases hz:szs[i - hs.length]? with
   | none=>simp [hz] at hb
   | some s=>
    simp only [hz,Option.map_some,aE] at hb;subst hb;exact⟨rfl,.inl rfl⟩
def upQ(Q:AV×Heap->Prop)(p:AV×Heap):Prop:=Q p\/∃ (r:AV) (szs:List (Nat×(Nat->Nat->AV))),upA2 p.2.length szs.length p.1 r/\Q (r,p.2++xm szs)
theorem jI.up{g:Nat}{c:Ctr}{args:List AV}{hc:Heap}{Q:AV×Heap->Prop}(h:jI P g c args hc (upQ Q)):jI P g c args hc Q:=by
 intro O w σ vals hg hh hr;refine Jm.mono ?_ (h O w σ vals hg hh hr);rintro v w' ⟨r,hs,Z',hq,h1,h2,h3,h4,h5,h6⟩;rcases hq with hq | ⟨r',szs,hu,hq⟩
 ·exact⟨r,hs,Z',hq,h1,h2,h3,h4,h5,h6⟩
 ·have hx:Ext (λb=>Own O Z' b\/(c.fresh=true/\b<w.heap.size)) w' (λb=>Own O (Z'++jP szs.length) b\/(c.fresh=true/\b<w.heap.size)) w':=
   ⟨rfl,rfl,rfl,aJ _,λ_ _ _=>rfl,λb hb=>.inl (hb.imp xp id)⟩
  have hl:hs.length=Z'.length:=h2.len.symm;refine⟨r',hs++xm szs,Z'++jP szs.length,hq,QN hx (by rw [<- hl]; exact hu) h1,zef hx h2 szs,⟨h3.old,λi e ad he had=> ?_,h3.stat.own λb hb=>xp hb⟩,by simp; omega,h5.XQ (vk [] w' Z' _),?_⟩
  ·rcases ja he with ⟨_,he⟩ | ⟨_,rfl⟩
   ·exact h3.dis i e ad he had
   ·cases had
  ·exact⟨h6.os,h6.tape,h6.output,h6.size,h6.keep,λb hb=>h6.grow b (Zr hb)⟩
theorem YB{X R:Type}{fresh:Bool}{inp:X->List AV}{pre:X->Prop}{post:X->R->Prop}{out:X->R->AV×Heap}{g:Nat}{c:Code}(hf:P.funcs[g]?=some fn)(hb:fn.body=some c) (hn:(fn.name == "runtime.NumGoroutine")=false)
  (H:∀ x,pre x->∀ (O:Nat->Prop) (w0:World) (Q:AV×Heap->Prop),(∀ r,post x r->Q (out x r)) ->
   zc P fn O 0 w0 [] (λ_ _ _=>False) (RetR (ctrP fresh inp pre post out) 0 (upQ Q)) [.code c] (entry fn (inp x))):ze P g (ctrP fresh inp pre post out):=by
 intro args hc Q hq _;simp only [ctrP] at hq;split at hq
 ·obtain⟨x,⟨h1,h4⟩,h5,h6⟩:=hq;refine jI.le h1 (jI.up (fn_k hf hb hn (λh=>rfl) λO w0 I0 hl=> ?_));have h0:I0=[]:=aU.1 (by simpa using hl);subst h0;exact H x h4 O w0 Q h6
 ·exact hq.elim
def upKV(d k:Nat):KV->KV->Prop
 | [],[]=>True
 | (i,a)::l,(j,b)::m=>i=j/\upA2 d k a b/\upKV d k l m
 | _,_=>False
def upB(d k:Nat):Blk->Blk->Prop
 | .box l,.box m=>upL1 d k l m
 | a,b=>a=b
def upH(d k:Nat):Heap->Heap->Prop
 | [],[]=>True
 | b::l,c::m=>upB d k b c/\upH d k l m
 | _,_=>False
theorem Kd{d k:Nat} : ∀ {l m:KV} (t:Nat),upKV d k l m->upA2 d k (look l t) (look m t)
 | [],[],t,_=>by simp [look,upA2,upA1,upA0]
 | (i,a)::l,(j,b)::m,t,h=>by
  obtain⟨rfl,h1,h2⟩:=h;simp only [look];split
  ·exact h1
  ·exact Kd t h2
 | [],_::_,_,h=>h.elim
 | _::_,[],_,h=>h.elim
theorem zde{d k:Nat} : ∀ {l m:Heap},upH d k l m->l.length=m.length
 | [],[],_=>rfl
 | _::l,_::m,h=>by simp [zde h.2]
 | [],_::_,h=>h.elim
 | _::_,[],h=>h.elim
theorem ze2{d k:Nat} : ∀ {l m:Heap} {i:Nat} {b':Blk},upH d k l m->m[i]?=some b'->∃ b,l[i]?=some b/\upB d k b b'
 | b::l,c::m,0,b',h,h1=>by simp at h1; subst h1; exact⟨b,rfl,h.1⟩
 | b::l,c::m,i+1,b',h,h1=>by simpa using ze2 h.2 (by simpa using h1)
 | [],[],_,_,_,h1=>by simp at h1
 | [],_::_,_,_,h,_=>h.elim
 | _::_,[],_,_,h,_=>h.elim
theorem zhr{k:Nat}(hx:Ext own w own' w){e:SE}{b b':Blk}(hu:upB σ.length k b b')(hb:BRep own w σ e b):BRep own' w (σ++jP k) e b':=by
 unfold upB at hu;split at hu
 ·simp only [BRep] at hb ⊢;obtain⟨ad,vs,el,h1,h2,h3,h4⟩:=hb;exact⟨ad,vs,el,h1,h2,h3,Zc hx hu h4⟩
 ·subst hu;have:=jd (K:=[]) hx (vk [] w σ k) hb (λ_ _=>rfl)
  rwa [jf] at this
variable {pin:Nat} {w0:World} {I0:List SE} {a:Act}
theorem up_mod{kv kv2:KV}{h h2:Heap}{n:Nat}(hm:Mod O pin w0 I0 w σ (mk n kv h) a){szs:List (Nat×(Nat->Nat->AV))}(hkv:upKV h.length szs.length kv kv2)(hh2:upH h.length szs.length h h2)(hno:(pk n kv).all zY=true)(hno2:(pk n kv2).all zY=true):Mod O pin w0 I0 w (σ++jP szs.length) (mk n kv2 (h2++xm szs)) a:=by
 have hx:Ext (Own O σ) w (Own O (σ++jP szs.length)) w:=⟨rfl,rfl,rfl,aJ _,λ_ _ _=>rfl,λb hb=>.inl (xp hb)⟩;have hl:h.length=σ.length:=hm.hp.len.symm;rw [hl] at hkv hh2;have hl2:=zde hh2;refine⟨⟨hm.good.old,λi e ad he had=> ?_,hm.good.stat.ext hx⟩,?_,by simp [hm.size,mk,pk],λu=> ?_,hm.df.ext hx,hm.since.trans ⟨hx,λ_ _ _=>rfl,vQ.of (vk [] w σ _) (by simp)⟩,hm.lim⟩
 ·rcases ja he with ⟨_,he⟩ | ⟨_,rfl⟩
  ·exact hm.good.dis i e ad he had
  ·cases had
 ·have hh:=hm.hp;refine⟨by simp [mk,jP,xm,<- hl2,hl],λi j e f x y he hf ha hb hij=> ?_,λi e x he ha=> ?_,λi e b he hb=> ?_⟩
  ·rcases ja he with ⟨_,he⟩ | ⟨_,rfl⟩
   ·rcases ja hf with ⟨_,hf⟩ | ⟨_,rfl⟩
    ·exact hh.inj i j e f x y he hf ha hb hij
    ·cases hb
   ·cases ha
  ·rcases ja he with ⟨_,he⟩ | ⟨_,rfl⟩
   ·exact hh.lt i e x he ha
   ·cases ha
  ·simp only [mk] at hb;rcases ja he with ⟨hi,he⟩ | ⟨hi,rfl⟩
   ·rw [bL (by omega)] at hb;obtain⟨b0,h1,h3⟩:=ze2 hh2 hb;exact zhr hx h3 (hh.blk i e b0 he h1)
   ·rw [List.getElem?_append_right (by omega)] at hb;simp only [xm,aN] at hb;cases hz:szs[i - h2.length]? with
    | none=>simp [hz] at hb
    | some s=>
     simp only [hz,Option.map_some,aE] at hb;subst hb;exact⟨rfl,.inl rfl⟩
 ·have hu:=hm.tm u
  have key:∀ (kv:KV) (h:Heap),(pk n kv).all zY=true->zY ((mk n kv h).tmps.getD u .undef)=true:=by
   intro kv h hno;by_cases hlt:u<(mk n kv h).tmps.length
   ·simp only [List.getD,aF hlt,Option.getD_some];exact bG.1 hno _ (bK hlt)
   ·simp only [List.getD];rw [aZ (by omega)]; rfl
  have n1:=key kv h hno;have n2:=key kv2 (h2++xm szs) hno2
  have hr:Rep (Own O σ) w ((mk n kv h).tmps.getD u .undef) σ (a.tmps.getD u undef):=by
   generalize (mk n kv h).tmps.getD u .undef=x at hu n1;cases x with
   | opt _ _ _=>simp [zY] at n1
   | _=>simpa only [TRep] using hu
  have hup:upA2 σ.length szs.length ((mk n kv h).tmps.getD u .undef) ((mk n kv2 (h2++xm szs)).tmps.getD u .undef):=by
   by_cases hlt:u<n
   ·simp only [mk];rw [jC hlt,jC hlt];exact Kd u hkv
   ·simp [mk,pk,List.getD,hlt,upA2,upA1,upA0]
  have:=QN hx hup hr;generalize (mk n kv2 (h2++xm szs)).tmps.getD u .undef=y at this n2;cases y with
  | opt _ _ _=>simp [zY] at n2
  | _=>simpa only [TRep] using this
theorem zc.up{M:Option Nat}{Hs:Nat->KV->Heap->Prop}{R:List AV->Heap->Prop}{k:List Item}{kv:KV}{h:Heap}(szs:List (Nat×(Nat->Nat->AV)))(kv2:KV)(h2:Heap)(hkv:upKV h.length szs.length kv kv2)(hh2:upH h.length szs.length h h2)(hno:(pk fn.ntmps kv).all zY=true)(hno2:(pk fn.ntmps kv2).all zY=true)
  (H:zH Xp M P fn O pin w0 I0 Hs R k (mk fn.ntmps kv2 (h2++xm szs))):zH Xp M P fn O pin w0 I0 Hs R k (mk fn.ntmps kv h):=
 λw σ a hm=>H w _ a (up_mod hm hkv hh2 hno hno2)
theorem RetR.outs{ctr:Ctr}{Q:AV×Heap->Prop}{rs:List AV}{h:Heap}{r:AV}{hs:Heap}(L:List Nat)(hnd:jW L=true)(hlt:(L.all λi=>decide (i<h.length))=true)(hq:Q (r,hs))(hn:ctr.fresh=true->new2 h L (resV rs)/\∀ i∈L,newB (h.getD i .dead))
  (he:eqA2 (exp2 h L (resV rs)) r) (hb:eqH (expH h L) hs) (hl:hs.length=L.length):RetR ctr 0 Q rs h:=
 ⟨L,hnd,λi hi=>by have:=bG.1 hlt i hi; simpa using this,by simp,hn,r,hs,qT he,.inl hb,hl,hq⟩
theorem RetR.keep{ctr:Ctr}{m:Nat}{Q:AV×Heap->Prop}{rs:List AV}{h:Heap}{r:AV}{hs:Heap}(L:List Nat)(hnd:jW L=true)(hlt:(L.all λi=>decide (i<h.length))=true)(hj:∀ j,j<m->L[j]?=some j)(hf:ctr.fresh=false)(hq:Q (r,hs))
  (he:eqA2 (exp2 h L (resV rs)) r) (hb:eqH (expH h L) hs) (hl:hs.length=L.length):RetR ctr m Q rs h:=
 ⟨L,hnd,λi hi=>by have:=bG.1 hlt i hi; simpa using this,hj,(λhh=>absurd hh (by rw [hf]; decide)),r,hs,qT he,.inl hb,hl,hq⟩
end
end Go.Sx
end
section
namespace Go.Sx
variable [Stat]
variable {P:Program} {fn:Func} {Xp:List PanicEntry->Prop}
theorem zc.weak{M:Option Nat}{O:Nat->Prop}{pin:Nat}{w0:World}{I0:List SE}{Hs:Nat->KV->Heap->Prop}{R:List AV->Heap->Prop}{k:List Item}{kv:KV}{h:Heap}{S:KV}{H:Heap}(hle:LeK pin fn.ntmps kv h S H)
  (hs:zH Xp M P fn O pin w0 I0 Hs R k (mk fn.ntmps S H)):zH Xp M P fn O pin w0 I0 Hs R k (mk fn.ntmps kv h):=Safe.le hle.le hs
end Go.Sx
end
section
namespace Go.Sx
variable [Stat]
def ZP(T:TypeId)(e:Int):List PanicEntry:=[{ v:=.iface T (.agg #[.i e]),recovered:=false }]
def okM{α:Type} : Except Int α->Bool
 | .ok _=>true
 | .error _=>false
def getM{α:Type}(d:α):Except Int α->α
 | .ok a=>a
 | .error _=>d
def ctrS{X:Type}(inp:X->List AV)(hin:X->Heap)(pre:X->Prop)(ok:X->Bool)(out:X->AV×Heap):Ctr where
 fresh:=false
 spec args hc:=.ex (λx=>eqL args (inp x)/\eqH hc (hin x)/\hc.length=(hin x).length/\pre x) λx=>.ite (ok x) (.leaf (out x)) (.leaf (.bot,hin x))
theorem yQ{Xp:List PanicEntry->Prop}{P:Program}{fn:Func}{X:Type}{inp:X->List AV}{hin:X->Heap}{pre:X->Prop}{ok:X->Bool}{out:X->AV×Heap}{g:Nat}{c:Code}(hf:P.funcs[g]?=some fn)(hb:fn.body=some c) (hn:(fn.name == "runtime.NumGoroutine")=false)
  (H:∀ x,pre x->∀ (O:Nat->Prop) (w0:World) (I0:List SE) (Q:AV×Heap->Prop),I0.length=(hin x).length->(ok x=true->Q (out x)) ->
   zb3 Xp P fn O (hin x).length w0 I0 (λ_ _ _=>False) (RetR (ctrS inp hin pre ok out) (hin x).length Q) [.code c] (wT fn (inp x) (hin x))):z8 Xp P g (ctrS inp hin pre ok out):=by
 intro args hc Q hq _;obtain⟨x,⟨h1,h2,h3,h4⟩,h5,h6⟩:=hq;refine qO.le h1 (qO.leH h2 h3 (zjo hf hb hn (λh=>by cases h) λO w0 I0 hl=> ?_));exact H x h4 O w0 I0 Q hl h5
theorem qO.up{P:Program}{Xp:List PanicEntry->Prop}{g:Nat}{c:Ctr}{args:List AV}{hc:Heap}{Q:AV×Heap->Prop}(h:qO Xp P g c args hc (upQ Q)):qO Xp P g c args hc Q:=by
 intro O w σ vals hg hh hr;refine qI.map (λ_ h=>h) ?_ (h O w σ vals hg hh hr);rintro v w' ⟨r,hs,Z',hq,h1,h2,h3,h4,h5,h6⟩;rcases hq with hq | ⟨r',szs,hu,hq⟩
 ·exact⟨r,hs,Z',hq,h1,h2,h3,h4,h5,h6⟩
 ·have hx:Ext (λb=>Own O Z' b\/(c.fresh=true/\b<w.heap.size)) w' (λb=>Own O (Z'++jP szs.length) b\/(c.fresh=true/\b<w.heap.size)) w':=
   ⟨rfl,rfl,rfl,aJ _,λ_ _ _=>rfl,λb hb=>.inl (hb.imp xp id)⟩
  have hl:hs.length=Z'.length:=h2.len.symm;refine⟨r',hs++xm szs,Z'++jP szs.length,hq,QN hx (by rw [<- hl]; exact hu) h1,zef hx h2 szs,⟨h3.old,λi e ad he had=> ?_,h3.stat.own λb hb=>xp hb⟩,by simp; omega,h5.XQ (vk [] w' Z' _),?_⟩
  ·rcases ja he with ⟨_,he⟩ | ⟨_,rfl⟩
   ·exact h3.dis i e ad he had
   ·cases had
  ·exact⟨h6.os,h6.tape,h6.output,h6.size,h6.keep,λb hb=>h6.grow b (Zr hb)⟩
theorem zjk{Xp:List PanicEntry->Prop}{P:Program}{fn:Func}{X:Type}{inp:X->List AV}{hin:X->Heap}{pre:X->Prop}{ok:X->Bool}{out:X->AV×Heap}{g:Nat}{c:Code}(hf:P.funcs[g]?=some fn)(hb:fn.body=some c) (hn:(fn.name == "runtime.NumGoroutine")=false)
  (H:∀ x,pre x->∀ (O:Nat->Prop) (w0:World) (I0:List SE) (Q:AV×Heap->Prop),I0.length=(hin x).length->(ok x=true->Q (out x)) ->
   zb3 Xp P fn O (hin x).length w0 I0 (λ_ _ _=>False) (RetR (ctrS inp hin pre ok out) (hin x).length (upQ Q)) [.code c] (wT fn (inp x) (hin x))):z8 Xp P g (ctrS inp hin pre ok out):=by
 intro args hc Q hq _;obtain⟨x,⟨h1,h2,h3,h4⟩,h5,h6⟩:=hq;refine qO.le h1 (qO.leH h2 h3 (qO.up (zjo hf hb hn (λh=>by cases h) λO w0 I0 hl=> ?_)));exact H x h4 O w0 I0 Q hl h5
theorem z8.zqt{Xp:List PanicEntry->Prop}{P:Program}{X:Type}{inp:X->List AV}{pre:X->Prop}{ok:X->Bool}{out:X->AV×Heap}{out':X->AV}{g:Nat}(h:z8 Xp P g (ctrS inp (λ_=>[]) pre ok out))
  (he:∀ x,LeA (exp2 (out x).2 [] (out x).1) (out' x)):z8 Xp P g (ctrS inp (λ_=>[]) pre ok λx=>(out' x,[])):=by
 intro args hc Q hq _;obtain⟨x,⟨h1,h2,h3,h4⟩,h5,h6⟩:=hq;have h0:hc=[]:=aU.1 h3;subst h0;have k:=h args [] (λp=>(ok x=true/\p=out x)\/p=(.bot,[])) ⟨x,⟨h1,h2,h3,h4⟩,λho=>.inl ⟨ho,rfl⟩,λho=>.inr rfl⟩ (λh=>by cases h);intro O w σ vals hg hh hr;have hZ:σ=[]:=aU.1 (by simpa using hh.len);subst hZ;refine qI.map (λ_ h=>h) ?_ (k O w [] vals hg hh hr);rintro v w' ⟨a,hs,Z',hq,g1,g2,g3,g4,g5,g6⟩;rcases hq with ⟨ho,e⟩ | e
 ·have ea:a=(out x).1:=by rw [<- e]
  have eh:hs=(out x).2:=by rw [<- e]
  have sub:∀ b,Own O Z' b->(Own O Z' b\/((ctrS inp (λ_=>[]) pre ok out).fresh=true/\b<w.heap.size)):=λb hb=>.inl hb
  have XX:Exp O w' Z' hs [] [] (λb=>Own O [] b\/((ctrS inp (λ_=>[]) pre ok λx=>(out' x,([]:Heap))).fresh=true/\b<w.heap.size)):=
   ⟨g3,⟨g2.len,g2.inj,g2.lt,λi e b he hb=>Vr sub (g2.blk i e b he hb)⟩,rfl,by simp,λj=>by simp,λb hb=>by
    rcases hb with hb | ⟨hb,_⟩
    ·exact .inl hb
    ·cases hb⟩
  have hin':∀ b,(Own O [] b\/((ctrS inp (λ_=>[]) pre ok λx=>(out' x,([]:Heap))).fresh=true/\b<w.heap.size))->Own O Z' b:=λb hb=>by
   rcases hb with (hb | ⟨e,he,_⟩) | ⟨hb,_⟩
   ·exact .inl hb
   ·simp at he
   ·cases hb
  refine⟨out' x,[],[],h5 ho,he x _ _ _ _ ?_,⟨rfl,λi j e f a b he=>by simp at he,λi e a he=>by simp at he,λi e b he=>by simp at he⟩,⟨g3.old,λi e ad he=>by simp at he,g3.stat.own λb hb=>by
   rcases hb with hb | ⟨e,he,_⟩
   ·exact .inl hb
   ·simp at he⟩,aJ _,λi e he=>by simp at he,⟨g6.os,g6.tape,g6.output,g6.size,λb hb hno=>g6.keep b hb hno,λb hb=>by obtain⟨_,he,_⟩:=hb; simp at he⟩⟩
  rw [<- ea,<- eh];exact Zv XX (.inl hin') (w6 sub g1)
 ·cases e;exact g1.elim
theorem Uv{P:Program}{g:Nat}{fn:Func}{c:Code}(hf:P.funcs[g]?=some fn)(hb:fn.body=some c) (hn:(fn.name == "runtime.NumGoroutine")=false) {T:TypeId} {Xp:List PanicEntry->Prop} {X:Type} (av:X->AV) (val:X->Value)
  (hav:∀ x own w σ v,Rep own w (av x) σ v↔v=val x)
  (W:∀ x e w,Calls P g #[val x,.i e] w λen w'=>w'=w/\((e=0/\en = .returned (val x))\/(e≠0/\en = .panicked [{ v:=.iface T (.agg #[.i e]),recovered:=false }]))) :
  z8 Xp P g (ctrS (λ(x:X×Int)=>[av x.1,.i x.2]) (λ_=>[]) (λx=>x.2≠0->Xp (ZP T x.2)) (λx=>decide (x.2=0)) (λx=>(av x.1,[]))):=by
 intro args hc Q hq _;obtain⟨⟨x,e⟩,⟨h1,h2,h3,h4⟩,h5,h6⟩:=hq;obtain rfl:hc=[]:=aU.1 h3;refine qO.le h1 ?_;intro O w σ vals hg hh hr;simp only [RepL] at hr;obtain⟨v0,r0,rfl,h0,v1,r1,rfl,h1,rfl⟩:=hr;rw [hav] at h0;simp only [Rep] at h1;subst h0 h1;have hn':¬ fn.name = "runtime.NumGoroutine" :=by simpa using hn
 left;refine⟨by simp [callFunc,hf,hn',hb],?_⟩;refine(W x e w).mono ?_;rintro en w' ⟨rfl,⟨he,rfl⟩ | ⟨he,rfl⟩⟩
 ·left;refine⟨_,rfl,av x,[],σ,h5 (aX he),(hav ..).2 rfl,⟨hh.len,hh.inj,hh.lt,λ_ _ _ _ h=>by simp at h⟩,hg,aJ _,VN _ _ _,Ext.refl _ _⟩
 ·right;exact⟨_,rfl,h4 he,rfl,rfl,rfl,aJ _,λ_ _ _=>rfl,λ_ h=>h.elim⟩
end Go.Sx
end
section
namespace Go.Sx
variable [Stat]
section
variable {P:Program}
theorem Kw(a:AV):eqA0 a a:=by
 cases a<;>simp [eqA0]
 exactλ_ _ _ _=>rfl
theorem QG:∀ l:List AV,eqL0 l l
 | []=>trivial
 | a::l=>⟨Kw a,QG l⟩
theorem zmv(a:AV):eqA a a:=by
 cases a with
 | agg l=>exact QG l
 | tup l=>exact QG l
 | _=>unfold eqA; exact Kw _
theorem Wi:∀ l:List AV,eqL l l
 | []=>trivial
 | a::l=>by
  unfold eqL;split
  ·rename_i h1 h2; cases h1
  ·rename_i h1 h2; cases h1; cases h2; exact Wi l
  ·rename_i h1 h2; cases h1; cases h2; exact⟨zmv _,Wi l⟩
  ·rename_i hx; exact(hx _ _ _ _ rfl rfl).elim
end
end Go.Sx
end
section
namespace Go.Nov
end Go.Nov
end
section
namespace Go.Nov
open Go.Sx
structure TOp where
 kind:Int
 a:Int
 b:Int
 rat:L8
abbrev TOp.nil:TOp:=⟨0,0,0,[]⟩
def TOp.cell(o:TOp):Nat->AV
 | 0=>.int .u8 o.kind
 | 1=>.i o.a
 | 2=>.i o.b
 | 3=>.str o.rat
 | _=>.undef
def opG(l:List TOp):Nat->Nat->AV:=λj=>(l.getD j TOp.nil).cell
def opS(l:List TOp):AV:=.sl l.length 4 (opG l)
def ratG(l:List L8):Nat->Nat->AV:=λj _=>.str (l.getD j [])
end Go.Nov
end
section
namespace Go.Nov
open Go.Sx
structure Deal where
 long:L8
 short:L8
 ccy:L8
 name:L8
 zb:L8
 zd:L8
def Deal.av(d:Deal):AV:=.agg [.str d.long,.str d.short,.str d.ccy,.str d.name,.str d.zb,.str d.zd]
def Deal.cells(d:Deal)(e:Int):List AV:=[.i e,.str d.long,.str d.short,.str d.ccy,.str d.name,.str d.zb,.str d.zd]
namespace Tm
def kon(r:L8):Ex:=.mk 1 r [] 0 []
def spot(n:L8):Ex:=.mk 3 [] n 0 []
def fixg(n:L8)(d:Int):Ex:=.mk 2 [] n d []
def opx(k:Int)(s:List Ex):Ex:=.mk k [] [] 0 s
def over(k:L8)(x:Ex)(below:Bool):Ex:=opx 7 [kon [48],opx 5 (if below=true then [kon k,x] else [x,kon k])]
def pay(d:Deal)(x:Ex)(r:L8):Con:=.mk 2 d.short d.long d.ccy (opx 6 [x,kon r]) 0 [] []
def at_(day:Int)(c:Con):Con:=.mk 6 [] [] [] (.mk 0 [] [] 0 []) day [] [c]
def call(d:Deal)(ch:L8)(days:List Int)(c:Con):Con:=.mk 8 d.long [] ch (.mk 0 [] [] 0 []) 0 days [c]
def first(e:Int)(l:List L8):Int:=l.foldl (λe r=>if e=0 then errR r else e) e
def zero:Con:=.mk 0 [] [] [] (.mk 0 [] [] 0 []) 0 [] []
def fits(d:Deal):Prop:=d.long.length<=200/\d.short.length<=200/\d.ccy.length<=200/\d.name.length<=200/\d.zb.length<=2500/\d.zd.length<=2500
def res(d:Deal)(c:Con):Int:=if first 0 [d.zb,d.zd]=0 then c.errC else first 0 [d.zb,d.zd]
def out(e:Int)(c:Con):Con:=if e=0 then c else zero
def fwd(d:Deal)(day:Int):Con:=at_ day (pay d (opx 5 [spot d.name,kon d.zb]) d.zd)
def opt(d:Deal)(ch:L8)(days:List Int)(put:Bool):Con:=call d ch days (pay d (over d.zb (spot d.name) put) d.zd)
theorem Zk{e:Int}{l:List (L8)}{i:Nat}(h:i<l.length):first e (l.take (i+1))=if first e (l.take i)=0 then errR (l.getD i []) else first e (l.take i):=by
 have:l.take (i+1)=l.take i++[l.getD i []]:=by
  rw [List.take_add_one]; simp [List.getD,h]
 unfold first;rw [this,List.foldl_append];rfl
end Tm
end Go.Nov
end
section
namespace Go.Sx
open Go.Nov
variable [Stat]
theorem ze.sink{P:Go.Program}{g:Nat}{c:Ctr}(h:ze P g c):ze P g { c with sinks:=true } :=h
theorem LeL.dAt:∀ {l m:List AV} (i:Nat),LeL l m->LeA (l.getD i .undef) (m.getD i .undef)
 | [],[],_,_=>LeA.refl _
 | [],_::_,_,h=>by simp [LeL] at h
 | _::_,[],_,h=>by simp [LeL] at h
 | a::l,b::m,0,h=>by simp only [LeL] at h; exact h.1
 | a::l,b::m,i+1,h=>by
  simp only [LeL] at h;have:=LeL.dAt i h.2;simpa [List.getD] using this
theorem RetR.ki{ctr:Ctr}{m:Nat}{Q:AV×Heap->Prop}{rs:List AV}{h:Heap}{r:AV}{hs:Heap}(L:List Nat)(hnd:jW L=true)(hlt:(L.all λi=>decide (i<h.length))=true)(hj:∀ j,j<m->L[j]?=some j)(hf:ctr.fresh=false)(hq:Q (r,hs))
  (he:LeA (exp2 h L (resV rs)) r) (hb:eqH (expH h L) hs) (hl:hs.length=L.length):RetR ctr m Q rs h:=
 ⟨L,hnd,λi hi=>by have:=bG.1 hlt i hi; simpa using this,hj,(λhh=>absurd hh (by rw [hf]; decide)),r,hs,he,.inl hb,hl,hq⟩
theorem RetR.zen{ctr:Ctr}{m:Nat}{Q:AV×Heap->Prop}{rs:List AV}{h:Heap}{r:AV}{hs:Heap}(L:List Nat)(hnd:jW L=true)(hlt:(L.all λi=>decide (i<h.length))=true)(hj:∀ j,j<m->L[j]?=some j)(hf:ctr.fresh=false)(hq:Q (r,hs))
  (he:LeA (exp2 h L (resV rs)) r) (hb:leHs (expH h L) hs):RetR ctr m Q rs h:=
 ⟨L,hnd,λi hi=>by have:=bG.1 hlt i hi; simpa using this,hj,(λhh=>absurd hh (by rw [hf]; decide)),r,hs,he,.inr hb,by rw [YL hb]; simp [expH],hq⟩
end Go.Sx
namespace Go.Nov
open Go.Sx
variable [Go.Sx.Stat]
theorem Ex.yX{x y:Ex}{k d:Int}{r n:L8}{c:List AV}(h:LeL c (x.cellsD++y.cellsD)):LeA (.sl 2 5 (zi (zj 5 c) 0)) (.sl 2 5 (Ex.mk k r n d [x,y]).deep):=by
 refine LeA.sl rfl λj o hj ho=> ?_
 rw [Ex.qm (Ex.mk k r n d [x,y]) j o (by show j<2; omega) ho];have:=LeL.dAt (j*5+o) h;simp only [zi,zj,Nat.zero_add];rcases(show j=0\/j=1 by omega) with rfl | rfl<;>rcases(show o=0\/o=1\/o=2\/o=3\/o=4 by omega) with rfl | rfl | rfl | rfl | rfl<;>exact this
theorem Ex.XV(x y:Ex):eqG 2 5 (zi (zj 5 (x.cellsD++y.cellsD)) 0) (Ex.exG [x,y]):=by
 intro j o hj ho;simp only [zi,zj,Nat.zero_add];rcases(show j=0\/j=1 by omega) with rfl | rfl<;>rcases(show o=0\/o=1\/o=2\/o=3\/o=4 by omega) with rfl | rfl | rfl | rfl | rfl<;>rfl
theorem Ex.zpl{x y:Ex}{c:List AV}(h:LeL c (x.cellsD++y.cellsD)):LeA (.sl 2 5 (zi (zj 5 c) 0)) (.sl 2 5 (Ex.exG [x,y])):=by
 refine LeA.sl rfl λj o hj ho=> ?_
 have:=LeL.dAt (j*5+o) h;simp only [zi,zj,Nat.zero_add];rcases(show j=0\/j=1 by omega) with rfl | rfl<;>rcases(show o=0\/o=1\/o=2\/o=3\/o=4 by omega) with rfl | rfl | rfl | rfl | rfl<;>exact this
theorem Ex.yi(z:Ex):LeA (.sl z.sub.length 5 (Ex.exG z.sub)) (.sl z.sub.length 5 z.deep):=LeA.sl rfl λj o hj ho=>by rw [Ex.qm z j o hj ho]; exact LeA.refl _
theorem Con.yi(z:Con):LeA (.sl z.sub.length 12 (Con.conG z.sub)) (.sl z.sub.length 12 z.deep):=LeA.sl rfl λj o hj ho=>by rw [Con.qm z j o hj ho]; exact LeA.refl _
theorem Con.zp7{e:Con}{k d:Int}{a b n:L8}{x:Ex}{l:List Int}{c:List AV}(h:LeL c e.zl):LeA (.sl 1 12 (zi (zj 12 c) 0)) (.sl 1 12 (Con.mk k a b n x d l [e]).deep):=by
 refine LeA.sl rfl λj o hj ho=> ?_
 have h0:j=0:=by omega
 subst h0;rw [Con.qm (Con.mk k a b n x d l [e]) 0 o (by show 0<1; decide) ho];have:=LeL.dAt o h;simp only [zi,zj,Nat.zero_add,Nat.zero_mul];rcases(show o=0\/o=1\/o=2\/o=3\/o=4\/o=5\/o=6\/o=7\/o=8\/o=9\/o=10\/o=11 by omega) with rfl | rfl | rfl | rfl | rfl | rfl | rfl | rfl | rfl | rfl | rfl | rfl<;>exact this
end Go.Nov
end
section
set_option maxRecDepth 100000
open Go Go.Sx Go.Proofs Go.Nov
namespace Go.Proofs.Tryz
attribute [local simp] eqKV eqA eqA0 eqH eqB eqL eqL0
def ztb:Ctr:=ctrP false (λp:Fl=>[.i p.date,.str p.src,.str p.dst,.str p.ccy,.str p.amt]) (λp=>p.amt≠[]/\p.amt.length<2^40) (λ_ (_:Unit)=>True) (λp _=>(.osl 0 5 0 (payF p.date p.src p.dst p.ccy p.amt).length,[.arr (payF p.date p.src p.dst p.ccy p.amt).length 5 (flG (payF p.date p.src p.dst p.ccy p.amt))]))
theorem zpz:ze prog 125 ztb:=by
 refine YB (fn:=f125) (c:=f125.body.getD .skip) rfl rfl rfl λp hp O w0 Q hq=> ?_
 obtain⟨d,a,b,n,r⟩:=p;obtain⟨h1,h2⟩:=hp;simp only at h1 h2;replace hq:=hq () trivial;simp only at hq;refine zc.n zw [] (.D (r=#[(48:UInt8)].toList) (.R [.nils] []) (.side ((0:Int)<=0/\(0:Int)<r.length) (.D ((↑(UInt8.toNat (r.getD 0 (0:UInt8))):Int)=45) (.side ((0:Int)<=1/\(1:Int)<=r.length) (.R [.osl 0 5 0 1] [.arr 1 5 (zj 5 [.i d,.str b,.str a,.str n,.str (List.drop 1 (List.take r.length r))])])) (.R [.osl 0 5 0 1] [.arr 1 5 (zj 5 [.i d,.str a,.str b,.str n,.str r])])))) ?_;simp only [Tree.holds,zf];have hl:0<r.length:=List.length_pos_iff.2 h1
 have e45:decide (((r.getD 0 0).toNat:Int)=45)=decide (r.getD 0 0=45):=by
  by_cases e:r.getD 0 0=45
  ·rw [e]; rfl
  ·rw [aW e,aW];intro h;refine e (UInt8.toNat_inj.1 ?_);show _=45;omega
 rw [e45];unfold payF at hq;refine⟨λh=> ?_,λh=>⟨⟨Int.le_refl _,by omega⟩,λ_=>⟨λh'=>⟨⟨by decide,by omega⟩,λ_=> ?_⟩,λh'=> ?_⟩⟩⟩
 ·rw [aP (aB h)] at hq;exact RetR.le0 (Q:=upQ Q) (r:=.nils) (.inr ⟨.osl 0 5 0 0,[(5,flG [])],⟨⟨aJ _,Nat.zero_lt_one⟩,rfl,rfl⟩,hq⟩) (λh=>by cases h) (LeA.refl _)
 ·rw [aO (aC h),aP (aB h')] at hq;rw [bD]
  exact RetR.zen (Q:=upQ Q) [0] rfl rfl (by simp) rfl (.inl hq) (LeA.refl _) ⟨LeB.arr λj o hj ho=>by
   rcases(show j=0 by omega) with rfl;rcases(show o=0\/o=1\/o=2\/o=3\/o=4 by omega) with rfl | rfl | rfl | rfl | rfl<;>exact LeA.refl _,trivial⟩
 ·rw [aO (aC h),aO (aC h')] at hq
  exact RetR.zen (Q:=upQ Q) [0] rfl rfl (by simp) rfl (.inl hq) (LeA.refl _) ⟨LeB.arr λj o hj ho=>by
   rcases(show j=0 by omega) with rfl;rcases(show o=0\/o=1\/o=2\/o=3\/o=4 by omega) with rfl | rfl | rfl | rfl | rfl<;>exact LeA.refl _,trivial⟩
noncomputable def K115:=Go.Sx.aA f115
def zt8:Ctr:=ctrP true (λp:Fl×Fl=>[p.1.av,p.2.av]) (λ_=>True) (λ_ (_:Unit)=>True) (λp _=>(.bool (decide (p.1.date<p.2.date)),[]))
theorem zpe:ze prog 86 zt8:=by
 refine zh' f86 λp hp O w0 Q hq=> ?_
 obtain⟨⟨d,a,b,n,r⟩,⟨d',a',b',n',r'⟩⟩:=p;replace hq:=hq () trivial;refine zc.n zw [] (.R [.bool (decide (d<d'))] [.box [.i d,.str a,.str b,.str n,.str r],.box [.i d',.str a',.str b',.str n',.str r']]) ?_;simp only [Tree.holds,zf];exact RetR.scal hq rfl (by simp [resV])
theorem xx{o a:List Fl}{m n:Nat}(hm:m=o.length)(hn:n=a.length):eqG (m+n) 5 (appG m (flG o) (flG a)) (flG (o++a)):=by
 intro j k hj hk;subst hm hn;simp only [appG,flG,List.getD_eq_getElem?_getD,bT];split<;>rfl
theorem za7{o:List Fl}{x:Fl} : eqG (o.length+1) 5 (appG o.length (flG o) (zi (zj 5 [.i x.date,.str x.src,.str x.dst,.str x.ccy,.str x.amt]) 0)) (flG (o++[x])):=by
 intro j k hj hk;simp only [appG,flG,List.getD_eq_getElem?_getD,bT];split
 ·rfl
 ·have e:j - o.length=0:=by omega
  rw [e];rcases(show k=0\/k=1\/k=2\/k=3\/k=4 by omega) with rfl | rfl | rfl | rfl | rfl<;>rfl
theorem Ud{x:Fl}{l:List Fl}{n:Nat} : eqG n 5 (zi (flG (x::l)) 1) (flG l):=by
 intro j k hj hk;simp only [zi,flG,Nat.add_comm 1 j,List.getD_cons_succ]
def SMg(a b:List Fl)(n:Nat):KV:=[(0,flS a),(1,flS b),(2,.fn 86 [] []),(7,.osl 0 5 0 n),Z 12,Z 13,Z 14]
def zjq:Ctr:=ctrP false (λp:List Fl×List Fl=>[flS p.1,flS p.2,.fn 86 [] []]) (λp=>p.1.length+p.2.length<2^36) (λ_ (_:Unit)=>True) (λp _=>(flS (q5 (p.1.length+p.2.length) p.1 p.2),[]))
noncomputable def GBx:=tb zpe tz
theorem zio:ze prog 115 zjq:=by
 refine zh' f115 λp hp O w0 Q hq=> ?_
 obtain⟨a,b⟩:=p;simp only at hp;replace hq:=hq () trivial;simp only at hq;refine zc.n GBx.h [0,1,2,7,12,13,14] (.leaf (.loop (lps K115 0).1 (lps K115 0).2 [(0,.sl a.length 5 (flG a)),(1,.sl b.length 5 (flG b)),(2,.fn 86 [] []),(7,.nils),Z 12,Z 13,Z 14] [])) ?_;simp only [Tree.holds,zf,inR,lo,hi,aD];refine zc.bear 7 5 (flG []) rfl (by decide) (by kernel_rfl) ?_;refine zc.loop (ι:={z:List Fl×List Fl×List Fl // z.1++q5 (z.2.1.length+z.2.2.length) z.2.1 z.2.2=q5 (a.length+b.length) a b/\z.1.length+z.2.1.length+z.2.2.length=a.length+b.length}) (λz=>SMg z.1.2.1 z.1.2.2 z.1.1.length) (λz=>[.arr z.1.1.length 5 (flG z.1.1)]) (λz=>z.1.2.1.length+z.1.2.2.length) ⟨([],a,b),by simp⟩ 0 ?_ ?_ (by kernel_rfl)
 ·exact⟨by simp [SMg,kC,za,flS],by simp [za],by kernel_rfl,aI _⟩
 ·rintro⟨⟨o,a',b'⟩,h1,h2⟩;simp only at h1 h2;refine zc.n GBx.h [0,1,2,7,12,13,14] (let v6:=o.length+1;let v5:=o.length+List.length a'+List.length b';let v2:=a'.getD 0 Fl.nil;let v4:=zj 5 [.i v2.date,.str v2.src,.str v2.dst,.str v2.ccy,.str v2.amt];let v1:=b'.getD 0 Fl.nil;let v3:=zj 5 [.i v1.date,.str v1.src,.str v1.dst,.str v1.ccy,.str v1.amt];.ite (bif decide ((0:Int)<(a'.length:Int)) then decide ((0:Int)<(b'.length:Int)) else false) (.side ((0:Int)<=0/\(0:Int)<(b'.length:Int)) (.side ((0:Int)<=0/\(0:Int)<(a'.length:Int)) (.ex (λ(x:Fl×Fl)=>eqL [.agg [.i v1.date,.str v1.src,.str v1.dst,.str v1.ccy,.str v1.amt],.agg [.i v2.date,.str v2.src,.str v2.dst,.str v2.ccy,.str v2.amt]] [.agg [.i x.1.date,.str x.1.src,.str x.1.dst,.str x.1.ccy,.str x.1.amt],.agg [.i x.2.date,.str x.2.src,.str x.2.dst,.str x.2.ccy,.str x.2.amt]]/\True) λn=>.A λn_1=>.D (Fl.date n.1<Fl.date n.2) (.side ((0:Int)<=0/\(0:Int)<(b'.length:Int)) (.side ((0:Int)<=1/\(1:Int)<=(b'.length:Int)) (.side (0=0/\o.length<=o.length/\v6 *72<=140737488355328) (.leaf (.back 0 [(0,.sl a'.length 5 (flG a')),(1,.sl (List.length b' - 1) 5 (zi (flG b') 1)),(2,.fn 86 [] []),(7,.osl 0 5 0 v6),Z 12,Z 13,Z 14] [.arr v6 5 (appG o.length (flG o) (zi v3 0)),.arr 1 5 v3]))))) (.side ((0:Int)<=0/\(0:Int)<(a'.length:Int)) (.side ((0:Int)<=1/\(1:Int)<=(a'.length:Int)) (.side (0=0/\o.length<=o.length/\v6 *72<=140737488355328) (.leaf (.back 0 [(0,.sl (List.length a' - 1) 5 (zi (flG a') 1)),(1,.sl b'.length 5 (flG b')),(2,.fn 86 [] []),(7,.osl 0 5 0 v6),Z 12,Z 13,Z 14] [.arr v6 5 (appG o.length (flG o) (zi v4 0)),.arr 1 5 v4])))))))) (.side (0=0/\o.length<=o.length/\(o.length+List.length a')*72<=140737488355328) (.side (0=0/\o.length+List.length a'<=o.length+List.length a'/\v5 *72<=140737488355328) (.R [.osl 0 5 0 v5] [.arr v5 5 (appG (o.length+List.length a') (appG o.length (flG o) (flG a')) (flG b'))])))) ?_;simp only [Tree.holds,zf,inR,lo,hi,aD];refine⟨λhlt=> ?_,λhge=> ?_⟩
  ·match a',b' with
   | [],_=>simp at hlt
   | x::a',[]=>simp at hlt
   | x::a',y::b'=>
    simp only [aL] at h1 h2 ⊢;have e1:(x::a').getD 0 Fl.nil=x:=rfl;have e2:(y::b').getD 0 Fl.nil=y:=rfl;rw [e1,e2];rw [show a'.length+1+(b'.length+1)=(a'.length+b'.length+1)+1 by omega,q5] at h1;refine⟨⟨Int.le_refl _,by omega⟩,λ_=>⟨⟨Int.le_refl _,by omega⟩,λ_=>⟨(y,x),⟨by simp,trivial⟩,⟨(),trivial⟩,λ_ _=>⟨λh=> ?_,λh=> ?_⟩⟩⟩⟩
    ·replace h:=aB h;rw [aP h] at h1;refine⟨⟨Int.le_refl _,by omega⟩,λ_=>⟨⟨by decide,by omega⟩,λ_=>⟨⟨trivial,aJ _,by omega⟩,λ_=> ?_⟩⟩⟩;rw [aP trivial];refine⟨⟨(o++[y],x::a',b'),?_,?_⟩,?_,?_,?_,by kernel_rfl,aI _⟩
     ·show _=_;rw [<- h1]; simp; try congr 1; try omega
     ·show _=_;simp; omega
     ·show _<_;simp
     ·refine⟨rfl,⟨rfl,rfl,λ_ _ _ _=>rfl⟩,rfl,⟨rfl,rfl,Ud⟩,rfl,rfl,rfl,⟨rfl,rfl,rfl,by simp⟩,by simp⟩
     ·exact⟨⟨by simp,rfl,za7⟩,trivial⟩
    ·replace h:=aC h;rw [aO h] at h1;refine⟨⟨Int.le_refl _,by omega⟩,λ_=>⟨⟨by decide,by omega⟩,λ_=>⟨⟨trivial,aJ _,by omega⟩,λ_=> ?_⟩⟩⟩;rw [aP trivial];refine⟨⟨(o++[x],a',y::b'),?_,?_⟩,?_,?_,?_,by kernel_rfl,aI _⟩
     ·show _=_;rw [<- h1]; simp; try congr 1; try omega
     ·show _=_;simp; omega
     ·show _<_;simp
     ·exact⟨rfl,⟨rfl,rfl,Ud⟩,rfl,⟨rfl,rfl,λ_ _ _ _=>rfl⟩,rfl,rfl,rfl,⟨rfl,rfl,rfl,by simp⟩,by simp⟩
     ·exact⟨⟨by simp,rfl,za7⟩,trivial⟩
  ·have he:q5 (a'.length+b'.length) a' b'=a'++b':=by
    match a',b' with
    | [],b'=>rw [xE]; rfl
    | a',[]=>rw [uK]; simp
    | x::a',y::b'=>
     have:decide ((0:Int)<((x::a').length:Int))=true:=aX (by simp);rw [this] at hge;have:decide ((0:Int)<((y::b').length:Int))=true:=aX (by simp);rw [this] at hge;cases hge
   rw [he] at h1;rw [<- h1] at hq;refine⟨⟨trivial,aJ _,by omega⟩,λ_=>⟨⟨trivial,aJ _,by omega⟩,λ_=> ?_⟩⟩;refine RetR.le0 hq (λh=>by cases h) (LeA.sl (by simp; omega) λj k hj hk=> ?_);rw [<- List.append_assoc];have:=xx (o:=o++a') (a:=b') (m:=o.length+a'.length) (n:=b'.length) (by simp) rfl j k hj hk;rw [<- this];simp only [zi,Nat.zero_add,appG];split
   ·rename_i hlt;have:=xx (o:=o) (a:=a') rfl rfl j k hlt hk;simp only [appG] at this;rw [this];exact LeA.refl _
   ·exact LeA.refl _
def ordC(n:Nat):Ctr:=ctrP false (λl:List Fl=>[flS l,.fn 86 [] []]) (λl=>l.length<n/\l.length<2^36) (λ_ (_:Unit)=>True) (λl _=>(flS (ordM l),[]))
noncomputable def GMg:=tb zio tz
noncomputable def GOr(n:Nat):Nat->Option Ctr:=λf=>if f=84 then some (ordC n) else GMg.g f
theorem zvf{n:Nat}(h:ze prog 84 (ordC n)):∀ f c,GOr n f=some c->ze prog f c:=by
 intro f c hf;simp only [GOr] at hf;split at hf
 ·rename_i hg; subst hg; cases hf; exact h
 ·exact GMg.h f c hf
theorem zk0(n:Nat)(ih:ze prog 84 (ordC n)):ze prog 84 (ordC (n+1)):=by
 refine zh' f84 λl hp O w0 Q hq=> ?_
 obtain⟨h1,h2⟩:=hp;replace hq:=hq () trivial;refine zc.n (zvf ih) [] (let v1:=Int.tdiv (l.length:Int) (2:Int);.D ((l.length:Int)<2) (.R [.sl l.length 5 (flG l)] []) (.side ((2:Int)≠0/\inR .i64 v1) (.side ((0:Int)<=Int.tdiv (l.length:Int) (2:Int)/\Int.tdiv (l.length:Int) (2:Int)<=l.length) (.side ((0:Int)<=Int.tdiv (l.length:Int) (2:Int)/\Int.tdiv (l.length:Int) (2:Int)<=l.length) (.ex (λ(x:List Fl)=>eqL [.sl (Int.toNat v1 - 0) 5 (zi (flG l) 0),.fn 86 [] []] [.sl x.length 5 (flG x),.fn 86 [] []]/\x.length<n/\x.length<68719476736) λn_1=>.A λn_2=>.ex (λ(x:List Fl)=>eqL [.sl (l.length - Int.toNat v1) 5 (zi (flG l) (Int.toNat v1)),.fn 86 [] []] [.sl x.length 5 (flG x),.fn 86 [] []]/\x.length<n/\x.length<68719476736) λn=>.A λn_3=>.ex (λ(x:List Fl×List Fl)=>eqL [.sl (ordM n_1).length 5 (flG (ordM n_1)),.sl (ordM n).length 5 (flG (ordM n)),.fn 86 [] []] [.sl x.1.length 5 (flG x.1),.sl x.2.length 5 (flG x.2),.fn 86 [] []]/\x.1.length+x.2.length<68719476736) λn=>let v2:=q5 (n.1.length+n.2.length) n.1 n.2;.A λn_4=>.R [.sl (List.length v2) 5 (flG v2)] []))))) ?_;simp only [Tree.holds,zf,inR,lo,hi,aD];have et:((l.length:Int).tdiv 2)=((l.length/2:Nat):Int):=rfl;rw [et];simp only [aD];refine⟨λh=> ?_,λh=> ?_⟩
 ·have hl:l.length<2:=by have:=aB h; omega
  have he:ordM l=l:=by rw [<- ZT (n:=2) (by omega),ordP,aP hl]
  rw [he] at hq;exact RetR.le0 hq (λh=>by cases h) (LeA.refl _)
 ·have hl:2<=l.length:=by have:=aC h; omega
  have ho:∀ m:List Fl,(ordM m).length=m.length:=λm=>by rw [<- ZT (aJ _)]; exact(ZV m.length m (aJ _)).2.2
  have he:ordM l=q5 ((ordM (l.take (l.length/2))).length+(ordM (l.drop (l.length/2))).length) (ordM (l.take (l.length/2))) (ordM (l.drop (l.length/2))):=by
   rw [<- ZT (l:=l) (n:=l.length+1) (by omega),ordP,aO (by omega),ZT (by rw [aH]; omega),ZT (by rw [bV]; omega),ho,ho,aH,bV];congr 1; omega
  rw [he] at hq;refine⟨⟨by decide,by omega,by omega⟩,λ_=>⟨⟨by omega,by omega⟩,λ_=>⟨⟨by omega,by omega⟩,λ_=>⟨l.take (l.length/2),⟨⟨⟨by rw [aH]; omega,rfl,?_⟩,rfl,trivial⟩,by rw [aH]; omega,by rw [aH]; omega⟩,⟨(),trivial⟩,λ_ _=>⟨l.drop (l.length/2),⟨⟨⟨by rw [bV],rfl,?_⟩,rfl,trivial⟩,by rw [bV]; omega,by rw [bV]; omega⟩,⟨(),trivial⟩,λ_ _=>⟨(ordM (l.take (l.length/2)),ordM (l.drop (l.length/2))),⟨⟨⟨rfl,rfl,λ_ _ _ _=>rfl⟩,⟨rfl,rfl,λ_ _ _ _=>rfl⟩,rfl,trivial⟩,by simp only [ho,aH,bV]; omega⟩,⟨(),trivial⟩,λ_ _=> ?_⟩⟩⟩⟩⟩⟩
  ·intro j k hj hk;simp only [zi,flG,Nat.zero_add,List.getD_eq_getElem?_getD,bR];rw [aP (by omega)]
  ·intro j k hj hk;simp only [zi,flG,List.getD_eq_getElem?_getD,List.getElem?_drop]
  ·exact RetR.le0 hq (λh=>by cases h) (LeA.refl _)
theorem zqc(n:Nat):ze prog 84 (ordC n):=by
 induction n with
 | zero=>
  intro args hc Q hq _;simp only [ordC,ctrP] at hq;split at hq
  ·obtain⟨x,⟨_,h,_⟩,_⟩:=hq;exact absurd h (Nat.not_lt_zero _)
  ·exact hq.elim
 | succ n ih=>exact zk0 n ih
def zl2:Ctr:=ctrP false (λl:List Fl=>[flS l,.fn 86 [] []]) (λl=>l.length<2^36) (λ_ (_:Unit)=>True) (λl _=>(flS (ordM l),[]))
theorem zu0:ze prog 84 zl2:=by
 intro args hc Q hq hf;refine zqc (2^36) args hc Q ?_ hf;simp only [zl2,ordC,ctrP] at hq ⊢;split at hq
 ·obtain⟨x,⟨h1,h2⟩,h3⟩:=hq;exact⟨x,⟨h1,h2,h2⟩,h3⟩
 ·exact hq.elim
noncomputable def K158:=Go.Sx.aA f158
noncomputable def K159:=Go.Sx.aA f159
theorem zdx(m n:Nat):Int.tdiv (m:Int) (n:Int)=((m/n:Nat):Int):=rfl
theorem zem(m n:Nat):Int.tmod (m:Int) (n:Int)=((m%n:Nat):Int):=rfl
theorem uD(k:IntKind)(n:Nat):eqG n 1 (kT [.int k 0]) (natG k (List.replicate n 0)):=by
 intro j o hj ho;have:o=0:=by omega
 subst this;simp [kT,natG,hj]
theorem Up{l:List Nat}{k:Nat}(hk:k<l.length):l.drop k=l.getD k 0::l.drop (k+1):=by
 rw [List.drop_eq_getElem_cons hk];simp [List.getD,hk]
def zlx:Ctr:=ctrP true (λp:Nat×Nat=>[magS p.1,.int .u32 (p.2:Int)]) (λp=>fits p.1/\0<p.2/\p.2<B) (λp (r:Nat×Nat)=>r=(p.1/p.2,p.1%p.2)) (λ_ r=>(.tup [magS r.1,.int .u32 (r.2:Int)],[]))
def S74(x d:Nat)(o:List Nat)(r k:Nat):KV:=[(0,magS x),(1,.int .u32 (d:Int)),(4,.osl 0 1 0 o.length),(6,.int .u64 (r:Int)),(7,.i ((k:Int) - 1))]
structure I74(x d:Nat) where
 o:List Nat
 r:Nat
 k:Nat
 len:o.length=(canon x).length
 le:k<=(canon x).length
 rd:r<d
 dg:dig (o.drop k)
 eq:val ((canon x).drop k)=d*val (o.drop k)+r
theorem zm8:ze prog 158 zlx:=by
 refine zh' f158 λp hp O w0 Q hq=> ?_
 replace hq:=hq _ rfl;obtain⟨x,d⟩:=p;obtain⟨hx,hd0,hdB⟩:=hp;simp only [fits] at hx hd0 hdB hq;have hB:B=1000000000:=rfl;refine zc.n G1.h [0,1,4,6,7] (let v1:=Int.toNat (canon x).length;.side ((0:Int)<=((canon x).length:Int)/\((canon x).length:Int)<=((canon x).length:Int)/\inR .i64 (canon x).length/\Int.toNat (canon x).length*4<=140737488355328) (.S ((canon x).length-1) (.leaf (.loop (lps K158 0).1 (lps K158 0).2 [(0,.sl (canon x).length 1 (natG .u32 (canon x))),(1,.int .u32 d),(4,.osl 0 1 0 v1),(6,.int .u64 0),(7,.i ((canon x).length-1))] [.arr v1 1 (kT [.int .u32 0])])))) ?_;simp only [Tree.holds,zf,inR,lo,hi];refine⟨by omega,λ_=>⟨by omega,λ_=> ?_⟩⟩;refine zc.loop (ι:=I74 x d) (λs=>S74 x d s.o s.r s.k) (λs=>[.arr s.o.length 1 (natG .u32 s.o)]) (λs=>s.k) ⟨List.replicate (canon x).length 0,0,(canon x).length,by simp,aJ _,hd0,by simp [dig],by simp [val]⟩ 0 ?_ ?_ (by kernel_rfl)
 ·exact⟨by simp [S74,magS,natS,za],by simp [uD],by kernel_rfl,aI _⟩
 ·rintro⟨o,r,k,hlen,hle,hr,hdg,he⟩;refine zc.n G1.h [0,1,4,6,7] (let v2:=Int.toNat (k-1);let v1:=Int.tdiv ((r:Int)*(1000000000:Int)+(↑(List.getD (canon x) v2 0):Int)) (d:Int);.D ((0:Int)<=k - (1:Int)) (.side (inR .u64 (r*1000000000)) (.side ((0:Int)<=k - (1:Int)/\(k:Int) - (1:Int)<((canon x).length:Int)) (.side (inR .u64 ↑(List.getD (canon x) v2 0)) (.side (inR .u64 ((r:Int)*(1000000000:Int)+(↑(List.getD (canon x) v2 0):Int))) (.side (inR .u64 d) (.side ((d:Int)≠0/\inR .u64 v1) (.side (inR .u32 v1) (.side (inR .u64 d) (.side ((d:Int)≠0) (.side ((0:Int)<=k - (1:Int)/\(k:Int) - (1:Int)<o.length) (.S (k-1-1) (.leaf (.back 0 [(0,.sl (canon x).length 1 (natG .u32 (canon x))),(1,.int .u32 d),(4,.osl 0 1 0 o.length),(6,.int .u64 (Int.tmod ((r:Int)*(1000000000:Int)+(↑(List.getD (canon x) v2 0):Int)) (d:Int))),(7,.i (k-1-1))] [.arr o.length 1 (updG (natG .u32 o) (0+Int.toNat (k-1)) 0 [.int .u32 v1])]))))))))))))) (.ex (λ(u:List Nat)=>u.length=o.length/\0+o.length<=o.length/\o.length<4611686018427387904/\eqG o.length 1 (natG .u32 o) (natG .u32 u)/\dig (List.take o.length (List.drop 0 u))) λn=>.all (λ(x:Nat)=>x=val (List.take o.length (List.drop 0 n))) λn=>.side (inR .u32 r) (.R [.osl 0 1 0 (canon n).length,.int .u32 r] [.arr o.length 1 (natG .u32 o)]))) ?_;have e:((k:Int) - 1).toNat=k - 1:=by omega
  have ha:=zP (zm x) (k - 1);have ev:((r:Int)*1000000000+((canon x).getD (k - 1) 0:Nat))=((r*B+(canon x).getD (k - 1) 0:Nat):Int):=by simp
  simp only [Tree.holds,zf,inR,lo,hi,e,ev,zdx,zem,ux];generalize hv:r*B+(canon x).getD (k - 1) 0=v
  have hvd:v<d*B:=by
   have:(r+1)*B<=d*B:=aT _ hr;rw [bH] at this;omega
  have hq1:v/d<B:=Nat.div_lt_of_lt_mul hvd;have hr1:v%d<d:=Nat.mod_lt _ hd0;have hdm:=Nat.div_add_mod v d;generalize v/d=q at hq1 hdm ⊢;generalize v%d=rr at hr1 hdm ⊢;have hdB2:d*B<B*B:=Nat.mul_lt_mul_of_pos_right hdB (by decide);rw [hB] at hdB2;refine⟨λhk=> ?_,λhk=> ?_⟩
  ·have hk:0<k:=by simp at hk; omega
   refine⟨by omega,λ_=>⟨by omega,λ_=>⟨by omega,λ_=>⟨by omega,λ_=>⟨by omega,λ_=>⟨⟨by omega,by omega,by omega⟩,λ_=>⟨by omega,λ_=>⟨by omega,λ_=>⟨by omega,λ_=>⟨by omega,λ_=>⟨by omega,λ_=> ?_⟩⟩⟩⟩⟩⟩⟩⟩⟩⟩⟩;rw [aP trivial];have hkl:k - 1<o.length:=by omega
   have hdr:(o.set (k - 1) (q)).drop (k - 1)=(q)::o.drop k:=by
    rw [Up (by simpa using hkl)];rw [show k - 1+1=k by omega,List.drop_set_of_lt (by omega)];simp [hkl]
   refine⟨⟨o.set (k - 1) (q),rr,k - 1,by simpa using hlen,by omega,hr1,by rw [hdr]; exact qE.2 ⟨hq1,hdg⟩,?_⟩,by show k - 1<k; omega,by simp [S74,magS,natS,za]; omega,?_,by kernel_rfl,aI _⟩
   ·rw [hdr,Up (by omega),show k - 1+1=k by omega];simp only [val,he];rw [bN,bN,<- bI,<- bI,bJ d B];have h5:B*r=r*B:=bJ _ _;omega
   ·refine⟨⟨by simp,rfl,?_⟩,trivial⟩;have:=vA (k:=.u32) (l:=o) (v:=((q:Nat):Int)) (i:=k - 1) (by omega) hkl;simpa using this
  ·have hk:k=0:=by simp at hk; omega
   subst hk;simp only [List.drop_zero] at he hdg;rw [zq] at he
   have hqv:val o=x/d:=by
    rw [he,Nat.mul_add_div hd0,Nat.div_eq_of_lt hr,Nat.add_zero]
   have hrv:r=x%d:=by rw [he,Nat.mul_add_mod,Nat.mod_eq_of_lt hr]
   have htr:qU o=canon (x/d):=by rw [zW hdg,hqv]
   refine⟨o,⟨rfl,by omega,by omega,za _ _ _,by simpa using hdg⟩,⟨_,rfl⟩,?_⟩;intro X hX;have hX:X=x/d:=by simpa [hqv] using hX
   subst hX;have htl:(canon (x/d)).length=tlen o:=by rw [<- htr,qU,aH]; have:=qo o; omega
   rw [htl];refine⟨by omega,λ_=> ?_⟩;refine⟨[],rfl,by simp,by simp,λ_=>⟨?_,by simp⟩,_,[],qT ?_,.inl (by simp [expH]),rfl,hq⟩
   ·simp only [resV,new2];intro a ha;rcases aM.1 ha with rfl | ha
    ·exact YA
    ·simp only [List.mem_singleton] at ha; subst ha; rfl
   ·simp only [resV,exp2,List.map_cons,List.map_nil,exp1,U1,eqA2,eqL1];exact⟨KO htr,by simp [eqA,exp0,ren0,hrv],trivial⟩
structure D5 where
 t:Nat
 u:Nat
 v:Nat
 y:Nat
 z:Nat
def zl8:Ctr:=ctrP true (λp:D5=>[.int .u64 (p.t:Int),.int .u64 (p.u:Int),.int .u64 (p.v:Int),.int .u64 (p.y:Int),.int .u64 (p.z:Int)])
 (λp=>p.t<=p.y/\p.u<B/\p.v<B/\p.y<B/\p.z<B/\B<=2*p.y) (λp n=>n=jx p.v p.y p.z 2 ((p.t*B+p.u)/p.y) ((p.t*B+p.u)%p.y)) (λ_ n=>(.int .u64 (n:Int),[]))
def S77(v y z q r:Nat):KV:=[(2,.int .u64 (v:Int)),(3,.int .u64 (y:Int)),(4,.int .u64 (z:Int)),(12,.int .u64 (q:Int)),(13,.int .u64 (r:Int))]
structure I77(v y z R:Nat) where
 q:Nat
 r:Nat
 n:Nat
 rB:r<B
 qB:q<=B+1
 nB:B<=r+n*y
 eq:jx v y z n q r=R
theorem zn3:ze prog 159 zl8:=by
 refine zh' f159 λp hp O w0 Q hq=> ?_
 replace hq:=hq _ rfl;obtain⟨t,u,v,y,z⟩:=p;simp only at hq;obtain⟨h1,h2,h3,h4,h5,h6⟩:=hp;simp only at h1 h2 h3 h4 h5 h6;have hB:B=1000000000:=rfl;refine zc.n zw [2,3,4,12,13] (let v1:=Int.tdiv ((t:Int)*(1000000000:Int)+u) (y:Int);.side (inR .u64 (t*1000000000)) (.side (inR .u64 ((t:Int)*(1000000000:Int)+u)) (.side ((y:Int)≠0/\inR .u64 v1) (.side ((y:Int)≠0) (.leaf (.loop (lps K159 0).1 (lps K159 0).2 [(2,.int .u64 v),(3,.int .u64 y),(4,.int .u64 z),(12,.int .u64 v1),(13,.int .u64 (Int.tmod ((t:Int)*(1000000000:Int)+u) (y:Int)))] [])))))) ?_;have ev:((t:Int)*1000000000+(u:Int))=((t*B+u:Nat):Int):=by simp
 simp only [Tree.holds,zf,inR,lo,hi,ev,zdx,zem];have hy:0<y:=by omega
 have hr:(t*B+u)%y<y:=Nat.mod_lt _ hy
 have hq1:(t*B+u)/y<=B+1:=by
  have h7:t*B<=y*B:=aT _ h1
  have:(t*B+u)/y<B+2:=by
   apply Nat.div_lt_of_lt_mul;rw [bN];omega
  omega
 have hst:t*1000000000<=1000000000*1000000000:=aT _ (by omega);generalize hR:jx v y z 2 ((t*B+u)/y) ((t*B+u)%y)=R at hq;generalize hqq:(t*B+u)/y=q at hq1 hR ⊢;generalize hrr:(t*B+u)%y=r at hr hR ⊢;refine⟨by omega,λ_=>⟨by omega,λ_=>⟨⟨by omega,by omega,by omega⟩,λ_=>⟨by omega,λ_=> ?_⟩⟩⟩⟩;refine zc.loop (ι:=I77 v y z R) (λs=>S77 v y z s.q s.r) (λ_=>[]) (λs=>s.n) ⟨q,r,2,by omega,hq1,by omega,hR⟩ 0 ?_ ?_ (by kernel_rfl)
 ·exact⟨by simp [S77],by simp,by kernel_rfl,aI _⟩
 ·rintro⟨q,r,n,hrB,hqB,hnB,hR⟩;refine zc.n zw [2,3,4,12,13] (.side (decide ((1000000000:Int)<=q)=false->inR .u64 ((q:Int)*z)) (.side (decide ((1000000000:Int)<=q)=false->inR .u64 (r*1000000000)) (.side (decide ((1000000000:Int)<=q)=false->inR .u64 ((r:Int)*(1000000000:Int)+v)) (.ite (bif decide ((1000000000:Int)<=q) then true else decide ((r:Int)*(1000000000:Int)+v<(q:Int)*z)) (.side (inR .u64 (q-1)) (.side (inR .u64 ((r:Int)+y)) (.D ((1000000000:Int)<=r+(y:Int)) (.R [.int .u64 (q-1)] []) (.leaf (.back 0 [(2,.int .u64 v),(3,.int .u64 y),(4,.int .u64 z),(12,.int .u64 (q-1)),(13,.int .u64 ((r:Int)+y))] []))))) (.R [.int .u64 q] []))))) ?_;simp only [Tree.holds,zf,inR,lo,hi,Bool.cond_eq_ite];have hqz:q*z<=1000000001*1000000000:=Nat.mul_le_mul (by omega) (by omega);have eqz:((q:Int)*(z:Int))=((q*z:Nat):Int):=by simp
  rw [eqz];have hrb:r*B=1000000000*r:=bJ _ _;generalize hp:q*z=p at hqz ⊢;refine⟨λ_=>by omega,λ_=>⟨λ_=>by omega,λ_=>⟨λ_=>by omega,λ_=>⟨λhc=> ?_,λhc=> ?_⟩⟩⟩⟩
  ·have hcond:B<=q\/r*B+v<q*z:=by
    rw [hp];split at hc
    ·rename_i h; simp only [aK] at h; left; omega
    ·simp only [aK] at hc; right; omega
   have hq0:0<q:=by
    rcases bC q with rfl | h
    ·simp at hcond
    ·exact h
   cases n with
   | zero=>omega
   | succ n=>
    simp only [jx,aP hcond] at hR;refine⟨by omega,λ_=>⟨by omega,λ_=>⟨λhb=> ?_,λhb=> ?_⟩⟩⟩
    ·rw [aP (by simp at hb; omega)] at hR;refine RetR.scal hq rfl ?_;simp only [resV]; congr 1; omega
    ·rw [aO (by simp at hb; omega)] at hR;rw [aP trivial];refine⟨⟨q - 1,r+y,n,by simp at hb; omega,by omega,by rw [bH] at hnB; omega,hR⟩,by show n<n+1; omega,by simp [S77]; omega,by simp,by kernel_rfl,aI _⟩
  ·have hcond:¬ (B<=q\/r*B+v<q*z):=by
    rw [hp];split at hc
    ·cases hc
    ·rename_i h; simp only [aK,aV] at h hc; omega
   refine RetR.scal hq rfl ?_
   have:jx v y z n q r=q:=by
    cases n with
    | zero=>rfl
    | succ n=>simp only [jx,aO hcond]
   simp only [resV]; congr 1; omega
noncomputable def K106:=Go.Sx.aA f106
theorem heap_set{k:IntKind}{o:List Nat}{v:Int}{i d i':Nat}(hv:v=d)(hi:i<o.length)(hi':i'=i):eqH [.arr o.length 1 (updG (natG k o) i' 0 [.int k v])] [.arr (o.set i d).length 1 (natG k (o.set i d))]:=by
 subst hv;subst hi';refine⟨⟨by simp,rfl,?_⟩,by simp [eqH]⟩;have:=vA (k:=k) (l:=o) (v:=(d:Int)) (by omega) hi;simpa using this
def zbr:Ctr:=ctr2 true (λx y=>fits x/\fits y)
 (λx y p=>p=x*y) (λx y p=>(.osl 0 1 0 (canon p).length,[.arr ((canon x).length+(canon y).length) 1 (natG .u32 (padN ((canon x).length+(canon y).length) p))]))
def S76(x y i:Nat)(o:List Nat):KV:=[(0,magS x),(1,magS y),(5,.osl 0 1 0 o.length),Z 6,Z 7,Z 8,(18,magS x),(19,.i ((canon x).length:Nat)),(20,.i (i:Int)),Z 25,Z 26,Z 27]
def S76b(x y i j c:Nat)(o:List Nat):KV:=[(0,magS x),(1,magS y),(5,.osl 0 1 0 o.length),(6,.i (i:Int)),(7,.int .u32 ((canon x).getD i 0:Nat)),(8,.int .u64 (c:Int)),(18,magS x),(19,.i ((canon x).length:Nat)),(20,.i (i:Int)),(25,magS y),(26,.i ((canon y).length:Nat)),(27,.i (j:Int))]
structure I76(x y:Nat) where
 o:List Nat
 i:Nat
 len:o.length=(canon x).length+(canon y).length
 le:i<=(canon x).length
 dg:dig o
 eq:val o=val ((canon x).take i)*y
structure I76b(x y i V:Nat) where
 o:List Nat
 c:Nat
 j:Nat
 len:o.length=(canon x).length+(canon y).length
 le:j<=(canon y).length
 dg:dig o
 cB:c<B
 z:∀ p,i+(canon y).length<=p->o.getD p 0=0
 eq:val o+B^i*B^j*c=V+B^i*(canon x).getD i 0*val ((canon y).take j)
theorem zbz{o' Pi Pj op d v a b' c c' V vt vo:Nat}(h1:o'+Pi*Pj*op=vo+Pi*Pj*d)(h2:vo+Pi*Pj*c=V+Pi*a*vt)(h3:B*c'+d=v)(h4:v=a*b'+op+c):o'+Pi*(Pj*B)*c'=V+Pi*a*(vt+Pj*b'):=by grind
theorem YW:ze prog 106 zbr:=by
 refine Qm (fn:=f106) (c:=f106.body.getD .skip) rfl rfl rfl λx y hp O w0 Q hq=> ?_
 replace hq:=hq _ rfl;obtain⟨hx,hy⟩:=hp;simp only [fits] at hx hy hq;have hB:B=1000000000:=rfl;refine zc.n G1.h [0,1,5,6,7,8,18,19,20,25,26,27] (let v1:=Int.toNat ((canon x).length+(canon y).length);.S ((canon x).length+(canon y).length) (.side ((0:Int)<=((canon x).length:Int)+((canon y).length:Int)/\((canon x).length:Int)+((canon y).length:Int)<=((canon x).length:Int)+((canon y).length:Int)/\inR .i64 ((canon x).length+(canon y).length)/\Int.toNat ((canon x).length+(canon y).length)*4<=140737488355328) (.leaf (.loop (lps K106 0).1 (lps K106 0).2 [(0,.sl (canon x).length 1 (natG .u32 (canon x))),(1,.sl (canon y).length 1 (natG .u32 (canon y))),(5,.osl 0 1 0 v1),Z 6,Z 7,Z 8,(18,.sl (canon x).length 1 (natG .u32 (canon x))),(19,.i (canon x).length),(20,.i 0),Z 25,Z 26,Z 27] [.arr v1 1 (kT [.int .u32 0])])))) ?_;simp only [Tree.holds,zf,inR,lo,hi];have esum:((canon x).length:Int)+((canon y).length:Int)=(((canon x).length+(canon y).length:Nat):Int):=by omega
 simp only [esum,aD];refine⟨by omega,λ_=>⟨by omega,λ_=> ?_⟩⟩;refine zc.loop (ι:=I76 x y) (λs=>S76 x y s.i s.o) (λs=>[.arr s.o.length 1 (natG .u32 s.o)]) (λs=>(canon x).length - s.i) ⟨List.replicate ((canon x).length+(canon y).length) 0,0,by simp,aI _,qS _,by simp [qP,val]⟩ 0 ?_ ?_ (by kernel_rfl)
 ·exact⟨by simp [S76,magS,natS,za],by simp [uD],by kernel_rfl,aI _⟩
 ·rintro⟨o,i,hlen,hle,hd,he⟩;refine zc.n G1.h [0,1,5,6,7,8,18,19,20,25,26,27] (.D ((i:Int)<((canon x).length:Int)) (.side ((0:Int)<=i/\(i:Int)<((canon x).length:Int)) (.leaf (.loop (lps (inside K106 0) 0).1 (lps (inside K106 0) 0).2 [(0,.sl (canon x).length 1 (natG .u32 (canon x))),(1,.sl (canon y).length 1 (natG .u32 (canon y))),(5,.osl 0 1 0 o.length),(6,.i i),(7,.int .u32 ↑(List.getD (canon x) (i:Int).toNat 0)),(8,.int .u64 0),(18,.sl (canon x).length 1 (natG .u32 (canon x))),(19,.i (canon x).length),(20,.i i),(25,.sl (canon y).length 1 (natG .u32 (canon y))),(26,.i (canon y).length),(27,.i 0)] [.arr o.length 1 (natG .u32 o)]))) (.ex (λ(u:List Nat)=>u.length=o.length/\0+o.length<=o.length/\o.length<4611686018427387904/\eqG o.length 1 (natG .u32 o) (natG .u32 u)/\dig (List.take o.length (List.drop 0 u))) λn=>.all (λ(x:Nat)=>x=val (List.take o.length (List.drop 0 n))) λn=>.R [.osl 0 1 0 (canon n).length] [.arr o.length 1 (natG .u32 o)])) ?_;simp only [Tree.holds,zf,inR,lo,hi,aD,ux]
  have hz:∀ p,i+(canon y).length<=p->o.getD p 0=0:=by
   intro p hp;refine W6 (n:=i+(canon y).length) ?_ hp;rw [he,Nat.pow_add];have h1:=zZ (jk (zm x) i);have h2:=zZ (zm y);rw [zq] at h2;have h3:B^((canon x).take i).length=B^i:=by rw [aH,Nat.min_eq_left hle]
   rw [h3] at h1;exact Nat.mul_lt_mul_of_lt_of_le h1 (Nat.le_of_lt h2) (Nat.pow_pos (by decide))
  refine⟨λhlt=>⟨by simp at hlt; omega,λ_=> ?_⟩,λhge=> ?_⟩
  ·have hlt:i<(canon x).length:=by simp at hlt; omega
   refine zc.loop (ι:=I76b x y i (val o)) (λs=>S76b x y i s.j s.c s.o) (λs=>[.arr s.o.length 1 (natG .u32 s.o)]) (λs=>(canon y).length - s.j) ⟨o,0,0,hlen,aI _,hd,by decide,hz,by simp [val]⟩ 1 ?_ ?_ (by kernel_rfl)
   ·exact⟨by simp [S76b,magS,natS,za],by simp [za],by kernel_rfl,aI _⟩
   ·rintro⟨o2,c,j,hlen2,hle2,hd2,hcB,hz2,he2⟩;refine zc.n G1.h [0,1,5,6,7,8,18,19,20,25,26,27] (let v4:=natG .u32 (canon y);let v3:=natG .u32 (canon x);let v2:=Int.tdiv ((↑(List.getD (canon x) i 0):Int)*(↑(List.getD (canon y) (j:Int).toNat 0):Int)+(↑(o2.getD (0+Int.toNat ((i:Int)+j)) 0):Int)+c) (1000000000:Int);let v1:=Int.tmod ((↑(List.getD (canon x) i 0):Int)*(↑(List.getD (canon y) (j:Int).toNat 0):Int)+(↑(o2.getD (0+Int.toNat ((i:Int)+j)) 0):Int)+c) (1000000000:Int);.D ((j:Int)<((canon y).length:Int)) (.side ((0:Int)<=j/\(j:Int)<((canon y).length:Int)) (.side (inR .u64 ↑(List.getD (canon x) i 0)) (.side (inR .u64 ↑(List.getD (canon y) (j:Int).toNat 0)) (.side (inR .u64 ((↑(List.getD (canon x) i 0):Int)*(↑(List.getD (canon y) (j:Int).toNat 0):Int))) (.S ((i:Int)+j) (.side ((0:Int)<=i+(j:Int)/\(i:Int)+j<(o2.length:Int)) (.side (inR .u64 ↑(o2.getD (0+Int.toNat ((i:Int)+j)) 0)) (.side (inR .u64 ((↑(List.getD (canon x) i 0):Int)*(↑(List.getD (canon y) (j:Int).toNat 0):Int)+(↑(o2.getD (0+Int.toNat ((i:Int)+j)) 0):Int))) (.side (inR .u64 ((↑(List.getD (canon x) i 0):Int)*(↑(List.getD (canon y) (j:Int).toNat 0):Int)+(↑(o2.getD (0+Int.toNat ((i:Int)+j)) 0):Int)+c)) (.S ((i:Int)+j) (.side ((1000000000:Int)≠0) (.side (inR .u32 v1) (.side ((1000000000:Int)≠0/\inR .u64 v2) (.side ((0:Int)<=i+(j:Int)/\(i:Int)+j<(o2.length:Int)) (.S (j+1) (.leaf (.back 1 [(0,.sl (canon x).length 1 v3),(1,.sl (canon y).length 1 v4),(5,.osl 0 1 0 o2.length),(6,.i i),(7,.int .u32 ↑(List.getD (canon x) i 0)),(8,.int .u64 v2),(18,.sl (canon x).length 1 v3),(19,.i (canon x).length),(20,.i i),(25,.sl (canon y).length 1 v4),(26,.i (canon y).length),(27,.i (j+1))] [.arr o2.length 1 (updG (natG .u32 o2) (0+Int.toNat ((i:Int)+j)) 0 [.int .u32 v1])]))))))))))))))))) (.S (i+(canon y).length) (.side ((0:Int)<=i+((canon y).length:Int)/\(i:Int)+((canon y).length:Int)<o2.length) (.side (inR .u32 c) (.side (inR .u32 ((↑(o2.getD (0+Int.toNat (i+(canon y).length)) 0):Int)+c)) (.side ((0:Int)<=i+((canon y).length:Int)/\(i:Int)+((canon y).length:Int)<o2.length) (.S (i+1) (.leaf (.back 0 [(0,.sl (canon x).length 1 v3),(1,.sl (canon y).length 1 v4),(5,.osl 0 1 0 o2.length),(6,.i i),(7,.int .u32 ↑(List.getD (canon x) i 0)),(8,.int .u64 c),(18,.sl (canon x).length 1 v3),(19,.i (canon x).length),(20,.i (i+1)),(25,.sl (canon y).length 1 v4),(26,.i (canon y).length),(27,.i j)] [.arr o2.length 1 (updG (natG .u32 o2) (0+Int.toNat (i+(canon y).length)) 0 [.int .u32 ((↑(o2.getD (0+Int.toNat (i+(canon y).length)) 0):Int)+c)])]))))))))) ?_;have ha:=zP (zm x) i;have hb:=zP (zm y) j;have ho:=zP hd2 (i+j);have e1:((i:Int)+(j:Int))=((i+j:Nat):Int):=by omega
    have e2:((i:Int)+((canon y).length:Int))=((i+(canon y).length:Nat):Int):=by omega
    simp only [Tree.holds,zf,inR,lo,hi,e1,e2,aD,Nat.zero_add];have e3:(((canon x).getD i 0:Nat):Int)*(((canon y).getD j 0:Nat):Int)=(((canon x).getD i 0*(canon y).getD j 0:Nat):Int):=by simp
    have hab:(canon x).getD i 0*(canon y).getD j 0<=999999999*999999999:=Nat.mul_le_mul (by omega) (by omega);generalize hv:(canon x).getD i 0*(canon y).getD j 0+o2.getD (i+j) 0+c=v;have e4:(((canon x).getD i 0:Nat):Int)*(((canon y).getD j 0:Nat):Int)+((o2.getD (i+j) 0:Nat):Int)+(c:Int)=(v:Int):=by rw [e3,<- hv]; omega
    have e5:(1000000000:Int)=((B:Nat):Int):=rfl;have hvB:v<1000000000*1000000000:=by omega
    have hdm:=Nat.div_add_mod v B;have hmod:v%B<B:=Nat.mod_lt _ (by decide);have hdiv:v/B<B:=Nat.div_lt_of_lt_mul hvB;rw [e4,e5,zdx,zem];generalize v/B=c' at hdm hdiv ⊢;generalize v%B=d at hdm hmod ⊢;rw [e3];generalize hab2:(canon x).getD i 0*(canon y).getD j 0=ab at hab hv ⊢;refine⟨λhj=> ?_,λhj=> ?_⟩
    ·have hj:j<(canon y).length:=by simp at hj; omega
     have hp:i+j<o2.length:=by omega
     refine⟨by omega,λ_=>⟨by omega,λ_=>⟨by omega,λ_=>⟨by omega,λ_=>⟨by omega,λ_=>⟨by omega,λ_=>⟨by omega,λ_=>⟨by omega,λ_=>⟨by omega,λ_=>⟨by omega,λ_=>⟨by omega,λ_=>⟨by omega,λ_=>⟨by omega,λ_=>⟨by omega,λ_=>⟨by omega,λ_=> ?_⟩⟩⟩⟩⟩⟩⟩⟩⟩⟩⟩⟩⟩⟩⟩;rw [aP trivial];have hs:=kV o2 (i+j) d hp;refine⟨⟨o2.set (i+j) d,c',j+1,by simpa using hlen2,by omega,JA hd2 _ hmod,hdiv,λp hp2=> ?_,?_⟩,by show _ - (j+1)<_ - j; omega,by simp [S76b,magS,natS,za],heap_set rfl hp rfl,by kernel_rfl,aI _⟩
     ·have:=hz2 p hp2;simp only [List.getD] at this ⊢;rw [bS (by omega)]; exact this
     ·rw [Nat.pow_add] at hs;rw [Nat.pow_succ,zt];exact zbz hs he2 hdm (by rw [hab2]; omega)
    ·have hj:j=(canon y).length:=by simp at hj; omega
     subst hj;have h0:=hz2 (i+(canon y).length) (aJ _);have hp:i+(canon y).length<o2.length:=by omega
     have hs:=kV o2 (i+(canon y).length) c hp;refine⟨by omega,λ_=>⟨by omega,λ_=>⟨by omega,λ_=>⟨by omega,λ_=>⟨by omega,λ_=>⟨by omega,λ_=> ?_⟩⟩⟩⟩⟩⟩;rw [aO (by decide),aP trivial];refine⟨⟨o2.set (i+(canon y).length) c,i+1,by simpa using hlen2,by omega,JA hd2 _ hcB,?_⟩,by show _ - (i+1)<_ - i; omega,by simp [S76,magS,natS,za],heap_set (by omega) hp rfl,by kernel_rfl,aI _⟩;rw [h0,Nat.pow_add] at hs;rw [bD,zq] at he2;rw [zt,bH,<- he];simp only [Nat.mul_zero,Nat.add_zero] at hs;rw [hs,he2]
  ·have hge:i=(canon x).length:=by simp at hge; omega
   subst hge;rw [bD,zq] at he;refine⟨o,⟨rfl,by omega,by omega,za _ _ _,by simpa using hd⟩,⟨_,rfl⟩,?_⟩;intro X hX;have hX:X=x*y:=by simpa [he] using hX
   subst hX;refine⟨[0],rfl,by simp,by simp,λ_=>⟨?_,?_⟩,_,_,qT ?_,.inl ?_,rfl,hq⟩
   ·simp [resV,new2,new1,new0,zO]
   ·intro k hk;simp only [List.mem_singleton] at hk;subst hk;intro j o' _ _;rfl
   ·simp [resV,exp2,exp1,exp0,zO,eqA2,eqA]
   ·have hpad:=zc8 hd;rw [he,hlen] at hpad;rw [<- hpad];simp [expH,expB,hlen,za]
noncomputable def K128:=Go.Sx.aA f128
noncomputable def G2:=tb Zi (tb zm8 (tb X5 (tb YW (tb zn3 (tb WN tz)))))
theorem jV{k:IntKind}{u:List Nat}{off n X:Nat}(hd:dig ((u.drop off).take n))(hX:val ((u.drop off).take n)=X):eqG (canon X).length 1 (zi (natG k u) off) (natG k (canon X)):=by
 have h:=zW hd;rw [hX] at h;have hl:=qo ((u.drop off).take n);intro j o hj ho;simp only [zi,natG,AV.int.injEq,true_and];rw [<- h] at hj ⊢;simp only [qU,aH] at hj ⊢;have hjn:j<n:=by simp at hj hl; omega
 have e:(List.take (tlen ((u.drop off).take n)) ((u.drop off).take n)).getD j 0=((u.drop off).take n).getD j 0:=by
  simp only [List.getD,bR];rw [aP (by omega)]
 rw [e,uH _ _ _ _ hjn]
theorem xz(k:IntKind)(n:Nat):eqG 1 1 (zj 1 [.int k (n:Int)]) (natG k [n]):=by
 intro j o hj ho;have:j=0:=by omega
 have:o=0:=by omega
 subst_vars; rfl
theorem zii{k:IntKind}{n:Nat}{g:Nat->Nat->AV}{u:List Nat}{off m:Nat}(h:eqG m 1 g (natG k u))(hm:off+n<=m):eqG n 1 (zi g off) (zi (natG k u) off):=by
 intro j o hj ho;exact h (off+j) o (by omega) ho
theorem QD{n sz:Nat}{f g h:Nat->Nat->AV}(h1:eqG n sz f g)(h2:eqG n sz g h):eqG n sz f h:=λj o hj ho=>(h1 j o hj ho).trans (h2 j o hj ho)
theorem vH{d:Nat}(hd:d<B):eqG (canon d).length 1 (zi (zj 1 [.int .u32 (d:Int)]) 0) (natG .u32 (canon d)):=by
 have h1:dig (([d].drop 0).take 1):=by simpa [dig] using hd
 have h2:val (([d].drop 0).take 1)=d:=by simp [val]
 have h3:=jV (k:=.u32) h1 h2;refine QD (zii (xz .u32 d) ?_) h3;have:=zD (x:=d) (n:=1) (by simpa using hd);omega
theorem ZW{N p:Nat}(hN:(canon p).length<=N):eqG (canon p).length 1 (zi (natG .u32 (padN N p)) 0) (natG .u32 (canon p)):=by
 intro j o hj ho;simp only [zi,natG,Nat.zero_add,padN,AV.int.injEq,true_and];congr 1;simp only [List.getD];rw [bL hj]
theorem zme(N p i:Nat):(padN N p).getD i 0=(canon p).getD i 0:=by
 simp only [padN,List.getD];by_cases h:i<(canon p).length
 ·rw [bL h]
 ·rw [List.getElem?_append_right (by omega),aZ (show(canon p).length<=i by omega)];cases hh:(List.replicate (N - (canon p).length) 0)[i - (canon p).length]? with
  | none=>rfl
  | some z=>have:=aY hh; simp at this; simp [this.2]
theorem X3{N p:Nat}(h:(canon p).length<=N):(padN N p).length=N:=by simp [padN]; omega
theorem zp4(N p:Nat):dig (padN N p):=qF.2 ⟨zm _,qS _⟩
theorem uU(x y:Nat):(canon (x*y)).length<=(canon x).length+(canon y).length:=by
 have h1:=zZ (zm x);have h2:=zZ (zm y);rw [zq] at h1 h2;exact zD (by rw [Nat.pow_add]; exact Nat.mul_lt_mul'' h1 h2)
theorem VH{d:Nat}(h0:0<d)(hB:d<B):(canon d).length=1:=by
 have h1:=zD (x:=d) (n:=1) (by simpa using hB);have h2:=jR (x:=d) (n:=0) (by simp; omega);omega
def ZS:Ctr:=ctr2 false (λx y=>(canon x).length<100000/\(canon y).length<100000/\0<y) (λx y (r:Nat×Nat)=>r=(x/y,x%y)) (λ_ _ r=>(.tup [magS r.1,magS r.2],[]))
def SG(x y s k:Nat):KV:=[(0,magS x),(1,magS y),(4,.nils),(8,.int .u32 (s:Int)),(9,.i (((canon y).length:Nat):Int)),(10,.osl 1 1 0 k),Z 11,Z 12,Z 13,Z 15,Z 151,Z 152]
structure IG(x U:Nat) where
 k:Nat
 o:List Nat
 ko:k<=o.length
 le:o.length<=(canon x).length+1
 dg:dig (o.take k)
 eq:val (o.take k)=U
def SD(y s V ul ql j:Nat):KV:=[Z 0,Z 1,(4,.osl 4 1 0 ql),(8,.int .u32 (s:Int)),(9,.i (((canon y).length:Nat):Int)),(10,.osl 1 1 0 ul),(11,.osl 3 1 0 (canon V).length),(12,.i ((j:Int) - 1)),Z 13,Z 15,Z 151,Z 152]
def HD(y V:Nat)(u q:List Nat):Heap:=[.dead,.arr u.length 1 (natG .u32 u),.dead,.arr ((canon y).length+1) 1 (natG .u32 (padN ((canon y).length+1) V)),.arr q.length 1 (natG .u32 q)]
structure ID(x y V U:Nat) where
 u:List Nat
 q:List Nat
 j:Nat
 ul:u.length=(canon x).length+1
 ql:q.length+(canon y).length=(canon x).length+1
 jq:j<=q.length
 du:dig u
 dq:dig q
 eq:U=V*B^j*val (q.drop j)+val u
 lt:val u<V*B^j
def SC(y s V ul ql j d L i:Nat):KV:=[Z 0,Z 1,(4,.osl 4 1 0 ql),(8,.int .u32 (s:Int)),(9,.i (((canon y).length:Nat):Int)),(10,.osl 1 1 0 ul),(11,.osl 3 1 0 (canon V).length),(12,.i (j:Int)),(13,.int .u64 (d:Int)),(15,magS L),(151,.i (((canon y).length+1:Nat):Int)),(152,.i (i:Int))]
theorem YU{x y s V U m i:Nat}{u q:List Nat}{O:Nat->Prop}{w0:World}{Q:AV×Heap->Prop}{Hs0:Nat->KV->Heap->Prop}(hm:(canon y).length=m+2)(hx:(canon x).length<100000)(hs0:0<s)(hsB:s<B)(hV1:V<B^(m+2))(hV2:B^(m+2)<=2*V)(hVl:(canon V).length=m+2)(hV0:0<V)
  (hul:u.length=(canon x).length+1) (hql:q.length+(canon y).length=(canon x).length+1) (hjq:i+1<=q.length) (hdu:dig u) (hdq:dig q) (heq:U=V*B^(i+1)*val (q.drop (i+1))+val u) (hlt:val u<V*B^(i+1)) {W:Nat} (hW:val ((u.drop i).take (m+2+1))=W) (hWB:W/V<B) (kv:KV) (h:Heap) (hle:LeK 0 f128.ntmps kv h (SC y s V u.length q.length i (W/V) (W%V) 0) (HD y V u q)) :
  zc prog f128 O 0 w0 [] (λd kv h=>if d=0 then ∃ x':ID x y V U,x'.j<i+1/\LeK 0 f128.ntmps kv h (SD y s V x'.u.length x'.q.length x'.j) (HD y V x'.u x'.q) else Hs0 d kv h) (RetR ZS 0 Q)
   (.code (.loop (lps (inside (inside K128 0) 0) 0).1)::(lps (inside (inside K128 0) 0) 0).2) (mk f128.ntmps kv h):=by
 have hB:B=1000000000:=rfl;have c2:0+(i:Int).toNat=i:=by omega
 have hLV:=Nat.mod_lt W hV0;have hLl:(canon (W%V)).length<=m+2:=zD (by omega);refine zc.loop (ι:={k:Nat // k<=m+2+1}) (λk=>SC y s V u.length q.length i (W/V) (W%V) k.1) (λk=>HD y V (mixL u (canon (W%V)) i k.1) q) (λk=>m+2+1 - k.1) ⟨0,aI _⟩ 1 ?_ ?_ (by kernel_rfl)
 ·simpa only [zh4] using hle
 ·rintro⟨k,hk⟩;obtain⟨L,hL⟩:∃ L,W%V=L:=⟨_,rfl⟩;obtain⟨d,hd⟩:∃ d,W/V=d:=⟨_,rfl⟩;simp only [hL,hd];obtain⟨u',hu'⟩:∃ u',mixL u (canon L) i k=u':=⟨_,rfl⟩;have hu'l:u'.length=u.length:=by rw [<- hu',Ub]
  simp only [hu',<- hu'l];rw [hL] at hLl hLV;refine zc.n G2.h [0,1,4,8,9,10,11,12,13,15,151,152] (let v5:=inR .i64 (k+1);let v3:=updG (natG .u32 u') (0+Int.toNat ((i:Int)+k)) 0 [.int .u32 0];let v2:=List.length (canon y)+1;let v4:=natG .u32 (padN v2 V);let v1:List (Nat×AV):=[Z 0,Z 1,(4,.osl 4 1 0 q.length),(8,.int .u32 s),(9,.i (canon y).length),(10,.osl 1 1 0 u'.length),(11,.osl 3 1 0 (canon V).length),(12,.i i),(13,.int .u64 d),(15,.sl (canon L).length 1 (natG .u32 (canon L))),(151,.int .i64 ↑(List.length (canon y)+1)),(152,.i (k+1))];.D ((k:Int)<(↑(List.length (canon y)+1):Int)) (.S ((i:Int)+k) (.side ((0:Int)<=i+(k:Int)/\(i:Int)+k<(u'.length:Int)) (.D ((k:Int)<((canon L).length:Int)) (.S ((i:Int)+k) (.side ((0:Int)<=k/\(k:Int)<((canon L).length:Int)) (.side ((0:Int)<=i+(k:Int)/\(i:Int)+k<(u'.length:Int)) (.side v5 (.leaf (.back 1 v1 [.dead,.arr u'.length 1 (updG v3 (0+Int.toNat ((i:Int)+k)) 0 [.int .u32 ↑(List.getD (canon L) (k:Int).toNat 0)]),.dead,.arr v2 1 v4,.arr q.length 1 (natG .u32 q)])))))) (.side v5 (.leaf (.back 1 v1 [.dead,.arr u'.length 1 v3,.dead,.arr v2 1 v4,.arr q.length 1 (natG .u32 q)])))))) (.side (inR .u32 d) (.side ((0:Int)<=i/\(i:Int)<q.length) (.S (i-1) (.leaf (.back 0 [Z 0,Z 1,(4,.osl 4 1 0 q.length),(8,.int .u32 s),(9,.i (canon y).length),(10,.osl 1 1 0 u'.length),(11,.osl 3 1 0 (canon V).length),(12,.i (i-1)),(13,.int .u64 d),(15,.sl (canon L).length 1 (natG .u32 (canon L))),(151,.int .i64 ↑(List.length (canon y)+1)),(152,.i k)] [.dead,.arr u'.length 1 (natG .u32 u'),.dead,.arr v2 1 v4,.arr q.length 1 (updG (natG .u32 q) (0+Int.toNat i) 0 [.int .u32 d])])))))) ?_;have ek:0+((i:Int)+(k:Int)).toNat=i+k:=by omega
  have ek1:((k:Int)+1)=((k+1:Nat):Int):=by omega
  simp only [Tree.holds,zf,inR,lo,hi,ek,ek1,c2,aD];refine⟨λhlt=> ?_,λhge=> ?_⟩
  ·have hlt:k<m+2+1:=by simp at hlt; omega
   have hik:i+k<u'.length:=by omega
   refine⟨by omega,λ_=>⟨by omega,λ_=>⟨λhin=> ?_,λhout=> ?_⟩⟩⟩
   ·have hin:k<(canon L).length:=by simp at hin; omega
    iterate 4 refine⟨by omega,λ_=> ?_⟩
    rw [aP trivial];refine⟨⟨k+1,by omega⟩,by show m+2+1 - (k+1)<m+2+1 - k; omega,by simp [SC,magS,natS,za],?_,by kernel_rfl,aI _⟩;have hs2:=Ul u (canon L) i k 0;rw [hu'] at hs2;simp only [<- hs2];refine⟨trivial,⟨by simp,rfl,?_⟩,trivial,by simp [za],by simp [za],trivial⟩;have h1:=vA (k:=.u32) (l:=u') (v:=0) (i:=i+k) (by omega) hik;have h2:=vA (k:=.u32) (l:=u'.set (i+k) 0) (v:=((canon L).getD k 0:Nat)) (i:=i+k) (by omega) (by simpa using hik);simp only [List.length_set,aD] at h2;refine QD ?_ h2;intro p o hp ho;have:=h1 p o hp ho;simp only [updG] at this ⊢;split
    ·rfl
    ·exact this
   ·have hout:(canon L).length<=k:=by simp at hout; omega
    refine⟨by omega,λ_=> ?_⟩;rw [aP trivial];refine⟨⟨k+1,by omega⟩,by show m+2+1 - (k+1)<m+2+1 - k; omega,by simp [SC,magS,natS,za],?_,by kernel_rfl,aI _⟩;have hs2:=Ul u (canon L) i k 0;rw [hu'] at hs2;have hz:(canon L).getD k 0=0:=by simp [List.getD,aZ hout]
    rw [hz,List.set_set] at hs2;simp only [<- hs2];refine⟨trivial,⟨by simp,rfl,?_⟩,trivial,by simp [za],by simp [za],trivial⟩;exact vA (k:=.u32) (l:=u') (v:=0) (i:=i+k) (by omega) hik
  ·have hk:k=m+2+1:=by simp at hge; omega
   subst hk;have hdB:d<B:=hd▸hWB
   iterate 3 refine⟨by omega,λ_=> ?_⟩
   rw [aO (by decide),aP trivial];have hval:=zju (u:=u) (L:=L) (j:=i) (k:=m+2+1) (by omega) (by omega);rw [hu'] at hval;have hst:=step_eq (u:=u) (u':=u') (q:=q) (j:=i) (k:=m+2+1) (V:=V) (U0:=U) hdu (by omega) (by simpa using hV1) (by omega) hV0 hlt (by omega) heq (by rw [hW,hL]; exact hval);rw [hW,hd] at hst;refine⟨⟨u',q.set i d,i,by omega,by simpa using hql,by simp; omega,?_,JA hdq _ hdB,hst.2,hst.1⟩,Nat.lt_succ_self _,by simp [SD,za],?_,by kernel_rfl,aI _⟩
   ·rw [<- hu']; exact zlo hdu (zm _) _ _
   ·refine⟨trivial,⟨rfl,rfl,za _ _ _⟩,trivial,⟨rfl,rfl,za _ _ _⟩,⟨by simp,rfl,?_⟩,trivial⟩;have:=vA (k:=.u32) (l:=q) (v:=(d:Int)) (i:=i) (by omega) (by omega);simpa using this
abbrev q13(A:List AV)(x:Nat×Nat):Prop:=eqL A [.sl (canon x.1).length 1 (natG .u32 (canon x.1)),.int .u32 x.2]/\fits x.1/\0<x.2/\x.2<1000000000
abbrev q12(A:List AV)(x:Nat×Nat):Prop:=eqL A [.sl (canon x.1).length 1 (natG .u32 (canon x.1)),.sl (canon x.2).length 1 (natG .u32 (canon x.2))]/\fits x.1/\x.2<=x.1
abbrev q11(A:List AV)(x:Nat×Nat):Prop:=eqL A [.sl (canon x.1).length 1 (natG .u32 (canon x.1)),.sl (canon x.2).length 1 (natG .u32 (canon x.2))]/\fits x.1/\fits x.2
abbrev q10(A:List AV)(x:D5):Prop:=eqL A [.int .u64 ↑x.t,.int .u64 ↑x.u,.int .u64 ↑x.v,.int .u64 ↑x.y,.int .u64 ↑x.z]/\D5.t x<=D5.y x/\D5.u x<1000000000/\D5.v x<1000000000/\D5.y x<1000000000/\D5.z x<1000000000/\1000000000<=2*D5.y x
set_option maxHeartbeats 2000000 in
theorem XI{x y s V U m i:Nat}{u q:List Nat}{O:Nat->Prop}{w0:World}{Q:AV×Heap->Prop}{Hs0:Nat->KV->Heap->Prop}(hm:(canon y).length=m+2)(hx:(canon x).length<100000)(hs0:0<s)(hsB:s<B)(hV1:V<B^(m+2))(hV2:B^(m+2)<=2*V)(hVl:(canon V).length=m+2)(hV0:0<V)
  (hul:u.length=(canon x).length+1) (hql:q.length+(canon y).length=(canon x).length+1) (hjq:i+1<=q.length) (hdu:dig u) (hdq:dig q) (heq:U=V*B^(i+1)*val (q.drop (i+1))+val u) (hlt:val u<V*B^(i+1)) :
  zc prog f128 O 0 w0 [] (λd kv h=>if d=0 then ∃ x':ID x y V U,x'.j<i+1/\LeK 0 f128.ntmps kv h (SD y s V x'.u.length x'.q.length x'.j) (HD y V x'.u x'.q) else Hs0 d kv h) (RetR ZS 0 Q) (inside (inside K128 0) 0) (mk f128.ntmps (SD y s V u.length q.length (i+1)) (HD y V u q)):=by
 have hB:B=1000000000:=rfl;refine zc.n G2.h [0,1,4,8,9,10,11,12,13,15,151,152] (let v15:=natG .u32 q;let v13:=inR .i64 ((canon y).length+1);let v10:=List.length (canon y)+1;let v9:=natG .u32 u;let v8:=lps (inside (inside K128 0) 0) 0;let v6:=zi v9 (0+Int.toNat ((↑(i+1):Int) - (1:Int)));let v5:=inR .i64 ((↑(i+1):Int) - (1:Int)+((canon y).length:Int)+(1:Int));let v4:=padN v10 V;let v12:=natG .u32 v4;let v2:=inR .i64 ((↑(i+1):Int) - (1:Int)+((canon y).length:Int));let v1:=Int.toNat ((↑(i+1):Int) - (1:Int)+((canon y).length:Int)+(1:Int)) - Int.toNat ((↑(i+1):Int) - (1:Int));.D ((0:Int)<=(↑(i+1):Int) - (1:Int)) (.side v2 (.side ((0:Int)<=(↑(i+1):Int) - (1:Int)+((canon y).length:Int)/\(↑(i+1):Int) - (1:Int)+((canon y).length:Int)<u.length) (.side (inR .u64 ↑(u.getD (0+Int.toNat ((↑(i+1):Int) - (1:Int)+((canon y).length:Int))) 0)) (.side v2 (.S ((↑(i+1):Int) - (1:Int)+((canon y).length:Int) - (1:Int)) (.side ((0:Int)<=(↑(i+1):Int) - (1:Int)+((canon y).length:Int) - (1:Int)/\(↑(i+1):Int) - (1:Int)+((canon y).length:Int) - (1:Int)<u.length) (.side (inR .u64 ↑(u.getD (0+Int.toNat ((↑(i+1):Int) - (1:Int)+((canon y).length:Int) - (1:Int))) 0)) (.side v2 (.S ((↑(i+1):Int) - (1:Int)+((canon y).length:Int) - (2:Int)) (.side ((0:Int)<=(↑(i+1):Int) - (1:Int)+((canon y).length:Int) - (2:Int)/\(↑(i+1):Int) - (1:Int)+((canon y).length:Int) - (2:Int)<u.length) (.side (inR .u64 ↑(u.getD (0+Int.toNat ((↑(i+1):Int) - (1:Int)+((canon y).length:Int) - (2:Int))) 0)) (.S ((canon y).length-1) (.side ((0:Int)<=((canon y).length:Int) - (1:Int)/\((canon y).length:Int) - (1:Int)<((canon V).length:Int)) (.side (inR .u64 ↑(List.getD v4 (0+Int.toNat ((canon y).length-1)) 0)) (.S ((canon y).length-2) (.side ((0:Int)<=((canon y).length:Int) - (2:Int)/\((canon y).length:Int) - (2:Int)<((canon V).length:Int)) (.side (inR .u64 ↑(List.getD v4 (0+Int.toNat ((canon y).length-2)) 0)) (.ex (q10 [.int .u64 ↑(u.getD (0+Int.toNat ((↑(i+1):Int) - (1:Int)+((canon y).length:Int))) 0),.int .u64 ↑(u.getD (0+Int.toNat ((↑(i+1):Int) - (1:Int)+((canon y).length:Int) - (1:Int))) 0),.int .u64 ↑(u.getD (0+Int.toNat ((↑(i+1):Int) - (1:Int)+((canon y).length:Int) - (2:Int))) 0),.int .u64 ↑(List.getD v4 (0+Int.toNat ((canon y).length-1)) 0),.int .u64 ↑(List.getD v4 (0+Int.toNat ((canon y).length-2)) 0)]) λn=>.all (λ(n_1:Nat)=>n_1=jx n.v n.y n.z 2 ((D5.t n*1000000000+D5.u n)/D5.y n) ((D5.t n*1000000000+D5.u n)%D5.y n)) λn=>let v14:=zj 1 [.int .u32 (n-1)];.side (inR .u32 n) (.ex (λ(u:List Nat)=>u.length=1/\1<=1/\1<4611686018427387904/\eqG 1 1 (zj 1 [.int .u32 n]) (natG .u32 u)/\dig (List.take 1 (List.drop 0 u))) λn_1=>.all (λ(x:Nat)=>x=val (List.take 1 (List.drop 0 n_1))) λn_2=>.ex (q11 [.sl (canon V).length 1 (zi v12 0),.sl (canon n_2).length 1 (zi (zj 1 [.int .u32 n]) 0)]) λn_3=>let v3:=List.length (canon n_3.1)+List.length (canon n_3.2);.all (λ(p:Nat)=>p=n_3.1*n_3.2) λn_4=>let v11:=natG .u32 (padN v3 n_4);.side v2 (.side v5 (.side ((0:Int)<=(↑(i+1):Int) - (1:Int)/\(↑(i+1):Int) - (1:Int)<=(↑(i+1):Int) - (1:Int)+((canon y).length:Int)+(1:Int)/\(↑(i+1):Int) - (1:Int)+((canon y).length:Int)+(1:Int)<=u.length) (.ex (λ(u_1:List Nat)=>u_1.length=u.length/\0+Int.toNat ((↑(i+1):Int) - (1:Int))+(Int.toNat ((↑(i+1):Int) - (1:Int)+((canon y).length:Int)+(1:Int)) - Int.toNat ((↑(i+1):Int) - (1:Int)))<=u.length/\Int.toNat ((↑(i+1):Int) - (1:Int)+((canon y).length:Int)+(1:Int)) - Int.toNat ((↑(i+1):Int) - (1:Int))<4611686018427387904/\eqG u.length 1 v9 (natG .u32 u_1)/\dig (List.take v1 (List.drop (0+Int.toNat ((↑(i+1):Int) - (1:Int))) u_1))) λn_5=>.all (λ(x:Nat)=>x=val (List.take v1 (List.drop (0+Int.toNat ((↑(i+1):Int) - (1:Int))) n_5))) λn_6=>.ex (q11 [.sl (canon n_6).length 1 v6,.sl (canon n_4).length 1 (zi v11 0)]) λn_7=>.all (λ(r:Int)=>r=cmp3 n_7.1 n_7.2) λn_8=>.D (n_8<0) (.side (inR .u64 (n-1)) (.side (inR .u32 (n-1)) (.ex (λ(u:List Nat)=>u.length=1/\1<=1/\1<4611686018427387904/\eqG 1 1 v14 (natG .u32 u)/\dig (List.take 1 (List.drop 0 u))) λn_9=>.all (λ(x:Nat)=>x=val (List.take 1 (List.drop 0 n_9))) λn_10=>.ex (q11 [.sl (canon V).length 1 (zi v12 0),.sl (canon n_10).length 1 (zi v14 0)]) λn_11=>let v7:=List.length (canon n_11.1)+List.length (canon n_11.2);.all (λ(p:Nat)=>p=n_11.1*n_11.2) λn_12=>.side v2 (.side v5 (.side ((0:Int)<=(↑(i+1):Int) - (1:Int)/\(↑(i+1):Int) - (1:Int)<=(↑(i+1):Int) - (1:Int)+((canon y).length:Int)+(1:Int)/\(↑(i+1):Int) - (1:Int)+((canon y).length:Int)+(1:Int)<=u.length) (.ex (λ(u_1:List Nat)=>u_1.length=u.length/\0+Int.toNat ((↑(i+1):Int) - (1:Int))+(Int.toNat ((↑(i+1):Int) - (1:Int)+((canon y).length:Int)+(1:Int)) - Int.toNat ((↑(i+1):Int) - (1:Int)))<=u.length/\Int.toNat ((↑(i+1):Int) - (1:Int)+((canon y).length:Int)+(1:Int)) - Int.toNat ((↑(i+1):Int) - (1:Int))<4611686018427387904/\eqG u.length 1 v9 (natG .u32 u_1)/\dig (List.take v1 (List.drop (0+Int.toNat ((↑(i+1):Int) - (1:Int))) u_1))) λn_13=>.all (λ(x:Nat)=>x=val (List.take v1 (List.drop (0+Int.toNat ((↑(i+1):Int) - (1:Int))) n_13))) λn_14=>.ex (q12 [.sl (canon n_14).length 1 v6,.sl (canon n_12).length 1 (zi (natG .u32 (padN v7 n_12)) 0)]) λn_15=>.all (λ(d:Nat)=>d=n_15.1 - n_15.2) λn_16=>.side v13 (.leaf (.loop v8.1 v8.2 [Z 0,Z 1,(4,.osl 4 1 0 q.length),(8,.int .u32 s),(9,.i (canon y).length),(10,.osl 1 1 0 u.length),(11,.osl 3 1 0 (canon V).length),(12,.i ((↑(i+1):Int) - (1:Int))),(13,.int .u64 (n-1)),(15,.sl (canon n_16).length 1 (natG .u32 (canon n_16))),(151,.i ((canon y).length+1)),(152,.i 0)] [.dead,.arr u.length 1 v9,.dead,.arr v10 1 v12,.arr q.length 1 v15,.arr 1 1 (zj 1 [.int .u32 n]),.arr v3 1 v11,.arr 1 1 (zj 1 [.int .u32 (n-1)]),.arr v7 1 (natG .u32 (padN v7 n_12))])))))))) (.side v2 (.side v5 (.side ((0:Int)<=(↑(i+1):Int) - (1:Int)/\(↑(i+1):Int) - (1:Int)<=(↑(i+1):Int) - (1:Int)+((canon y).length:Int)+(1:Int)/\(↑(i+1):Int) - (1:Int)+((canon y).length:Int)+(1:Int)<=u.length) (.ex (λ(u_1:List Nat)=>u_1.length=u.length/\0+Int.toNat ((↑(i+1):Int) - (1:Int))+(Int.toNat ((↑(i+1):Int) - (1:Int)+((canon y).length:Int)+(1:Int)) - Int.toNat ((↑(i+1):Int) - (1:Int)))<=u.length/\Int.toNat ((↑(i+1):Int) - (1:Int)+((canon y).length:Int)+(1:Int)) - Int.toNat ((↑(i+1):Int) - (1:Int))<4611686018427387904/\eqG u.length 1 v9 (natG .u32 u_1)/\dig (List.take v1 (List.drop (0+Int.toNat ((↑(i+1):Int) - (1:Int))) u_1))) λn_9=>.all (λ(x:Nat)=>x=val (List.take v1 (List.drop (0+Int.toNat ((↑(i+1):Int) - (1:Int))) n_9))) λn_10=>.ex (q12 [.sl (canon n_10).length 1 v6,.sl (canon n_4).length 1 (zi v11 0)]) λn_11=>.all (λ(d:Nat)=>d=n_11.1 - n_11.2) λn_12=>.side v13 (.leaf (.loop v8.1 v8.2 [Z 0,Z 1,(4,.osl 4 1 0 q.length),(8,.int .u32 s),(9,.i (canon y).length),(10,.osl 1 1 0 u.length),(11,.osl 3 1 0 (canon V).length),(12,.i ((↑(i+1):Int) - (1:Int))),(13,.int .u64 n),(15,.sl (canon n_12).length 1 (natG .u32 (canon n_12))),(151,.i ((canon y).length+1)),(152,.i 0)] [.dead,.arr u.length 1 v9,.dead,.arr v10 1 v12,.arr q.length 1 v15,.arr 1 1 (zj 1 [.int .u32 n]),.arr v3 1 v11])))))))))))))))))))))))))))) (.ex (λ(u_1:List Nat)=>u_1.length=u.length/\0+u.length<=u.length/\u.length<4611686018427387904/\eqG u.length 1 v9 (natG .u32 u_1)/\dig (List.take u.length (List.drop 0 u_1))) λn=>.all (λ(x:Nat)=>x=val (List.take u.length (List.drop 0 n))) λn=>.ex (q13 [.sl (canon n).length 1 (zi v9 0),.int .u32 s]) λn=>.all (λ(r:Nat×Nat)=>r=(n.1/n.2,n.1%n.2)) λn=>.ex (λ(u:List Nat)=>u.length=q.length/\0+q.length<=q.length/\q.length<4611686018427387904/\eqG q.length 1 v15 (natG .u32 u)/\dig (List.take q.length (List.drop 0 u))) λn_1=>.all (λ(x:Nat)=>x=val (List.take q.length (List.drop 0 n_1))) λn_2=>.R [.osl 4 1 0 (canon n_2).length,.sl (canon n.1).length 1 (natG .u32 (canon n.1))] [.dead,.arr u.length 1 v9,.dead,.arr v10 1 v12,.arr q.length 1 v15])) ?_;simp only [q10,q11,q12,q13,Tree.holds,zf,inR,lo,hi];refine⟨λhj=> ?_,λhj=>by simp at hj⟩;have ej:(((i+1:Nat):Int) - 1)=(i:Int):=by omega
 have a1:0+((i:Int)+((canon y).length:Int)).toNat=i+(m+2):=by omega
 have a2:0+((i:Int)+((canon y).length:Int) - 1).toNat=i+(m+1):=by omega
 have a3:0+((i:Int)+((canon y).length:Int) - 2).toNat=i+m:=by omega
 have b1:0+(((canon y).length:Int) - 1).toNat=m+1:=by omega
 have b2:0+(((canon y).length:Int) - 2).toNat=m:=by omega
 have c1:((i:Int)+((canon y).length:Int)+1).toNat - (i:Int).toNat=m+2+1:=by omega
 have c2:0+(i:Int).toNat=i:=by omega
 simp only [ej,a1,a2,a3,b1,b2,c1,c2,zme];have hu1:=zP hdu (i+(m+2));have hu2:=zP hdu (i+(m+1));have hu3:=zP hdu (i+m);have hv1:=zP (zm V) (m+1);have hv2:=zP (zm V) m
 iterate 17 refine⟨by omega,λ_=> ?_⟩
 obtain⟨W,hW⟩:∃ W,val ((u.drop i).take (m+2+1))=W:=⟨_,rfl⟩;have hdw:dig ((u.drop i).take (m+2+1)):=jk (Ws hdu _) _
 have hWl:(canon W).length<=m+2+1:=by
  refine zD ?_;have:=zZ hdw;rw [hW,aH] at this;exact bB this (bX (by decide) (Nat.min_le_left _ _))
 obtain⟨g1,g2,g3,g4,g5,g6⟩:=zn5 hdu (by omega) hVl hV2 hlt hW rfl;refine⟨⟨u.getD (i+(m+2)) 0,u.getD (i+(m+1)) 0,u.getD (i+m) 0,(canon V).getD (m+1) 0,(canon V).getD m 0⟩,⟨by simp,g3,hu2,hu3,hv1,hv2,g2⟩,⟨_,rfl⟩,?_⟩;intro d hd;simp only at hd;rw [<- hd] at g4 g5 g6;clear hd;have hWVB:W/V<B:=by omega
 have fin:=YU (x:=x) (y:=y) (s:=s) (V:=V) (U:=U) (O:=O) (w0:=w0) (Q:=Q) (Hs0:=Hs0) hm hx hs0 hsB hV1 hV2 hVl hV0 hul hql hjq hdu hdq heq hlt hW hWVB;have hdm:=Nat.div_add_mod W V;have hmlt:=Nat.mod_lt W hV0;have hul2:i+(m+2+1)<=u.length:=by omega
 have hul3:u.length<100002:=by omega
 clear heq hlt hul hql hjq hdq hx hs0 hsB hV2 g1 g2 g3 hu1 hu2 hu3 hv1 hv2 hj a1 a2 a3 b1 b2;generalize W/V=qd at *
 generalize W%V=rm at *
 refine⟨by omega,λ_=> ?_⟩;refine⟨[d],⟨rfl,by omega,by omega,xz _ _,by simpa [dig] using g6⟩,⟨_,rfl⟩,?_⟩;intro D hD;have hD:D=d:=by simpa [val] using hD
 subst hD;have hdl:=zD (x:=D) (n:=1) (by simpa using g6);refine⟨(V,D),⟨?_,by simp only [fits]; omega,by simp only [fits]; omega⟩,⟨_,rfl⟩,?_⟩
 ·simp only [eqL,eqA,eqA0,true_and,and_true];exact⟨ZW (by omega),vH g6⟩
 intro p hp;simp only at hp ⊢;have hpl:=uU V D;rw [<- hp] at hpl
 iterate 3 refine⟨by omega,λ_=> ?_⟩
 refine⟨u,⟨rfl,hul2,by omega,za _ _ _,hdw⟩,⟨_,rfl⟩,?_⟩;intro W' hW';have hW':W'=W:=hW'.trans hW;subst hW';refine⟨(W',p),⟨?_,by simp only [fits]; omega,by simp only [fits]; omega⟩,⟨_,rfl⟩,?_⟩
 ·simp only [eqL,eqA,eqA0,true_and,and_true];exact⟨jV hdw hW,ZW hpl⟩
 rintro c rfl;refine⟨λhlt2=> ?_,λhge2=> ?_⟩
 ·have hlt2:W'<p:=by
   simp only [cmp3,aK] at hlt2;rcases aR W' p with h | h
   ·exact h
   ·rw [aO (by omega)] at hlt2; split at hlt2<;>omega
  have hDQ:D=qd+1:=by
   rcases aR qd D with h | h
   ·omega
   ·have:V*D<=V*qd:=aS _ h;omega
  have e3:((D:Int) - 1)=((qd:Nat):Int):=by omega
  simp only [e3];have hQl:=zD (x:=qd) (n:=1) (by simpa using hWVB)
  iterate 2 refine⟨by omega,λ_=> ?_⟩
  refine⟨[qd],⟨rfl,by omega,by omega,xz _ _,by simpa [dig] using hWVB⟩,⟨_,rfl⟩,?_⟩;intro E hE;have hE:E=qd:=by simpa [val] using hE
  subst hE;refine⟨(V,E),⟨?_,by simp only [fits]; omega,by simp only [fits]; omega⟩,⟨_,rfl⟩,?_⟩
  ·simp only [eqL,eqA,eqA0,true_and,and_true];exact⟨ZW (by omega),vH hWVB⟩
  intro p2 hp2;simp only at hp2 ⊢;have hp2l:=uU V E;rw [<- hp2] at hp2l
  iterate 3 refine⟨by omega,λ_=> ?_⟩
  refine⟨u,⟨rfl,hul2,by omega,za _ _ _,hdw⟩,⟨_,rfl⟩,?_⟩;intro W2 hW2;have hW2:W2=W':=hW2.trans hW;subst hW2;refine⟨(W2,p2),⟨?_,by simp only [fits]; omega,by simp only; omega⟩,⟨_,rfl⟩,?_⟩
  ·simp only [eqL,eqA,eqA0,true_and,and_true];exact⟨jV hdw hW,ZW hp2l⟩
  intro L hL;simp only at hL ⊢;have hL:L=rm:=by omega
  subst hL;refine⟨by omega,λ_=> ?_⟩;refine fin _ _ ⟨by simp [SC,magS,natS,za,hVl],?_,by kernel_rfl,aI _⟩;simp [HD,za]
 ·have hge2:p<=W':=by
   simp only [cmp3,aV] at hge2;rcases aR W' p with h | h
   ·rw [aP h] at hge2; omega
   ·exact h
  have hDQ:D=qd:=by
   rcases aR qd D with h | h
   ·have:V*(qd+1)<=V*D:=aS _ h;rw [bN] at this;omega
   ·omega
  subst hDQ
  iterate 3 refine⟨by omega,λ_=> ?_⟩
  refine⟨u,⟨rfl,hul2,by omega,za _ _ _,hdw⟩,⟨_,rfl⟩,?_⟩;intro W2 hW2;have hW2:W2=W':=hW2.trans hW;subst hW2;refine⟨(W2,p),⟨?_,by simp only [fits]; omega,hge2⟩,⟨_,rfl⟩,?_⟩
  ·simp only [eqL,eqA,eqA0,true_and,and_true];exact⟨jV hdw hW,ZW hpl⟩
  intro L hL;simp only at hL ⊢;have hL:L=rm:=by omega
  subst hL;refine⟨by omega,λ_=> ?_⟩;refine fin _ _ ⟨by simp [SC,magS,natS,za,hVl],?_,by kernel_rfl,aI _⟩;simp [HD,za]
set_option maxHeartbeats 4000000 in
theorem K1:ze prog 128 ZS:=by
 refine Qm (fn:=f128) (c:=f128.body.getD .skip) rfl rfl rfl λx y hp O w0 Q hq=> ?_
 replace hq:=hq _ rfl;obtain⟨hx,hy,hy0⟩:=hp;simp only at hq;have hB:B=1000000000:=rfl;refine zc.n G2.h [0,1,4,8,9,10,11,12,13,15,151,152] (let v3:=natG .u32 (canon x);let v2:=Int.toNat ((canon y).length-1);let v1:=Int.tdiv (1000000000:Int) ((↑(List.getD (canon y) v2 0):Int)+(1:Int));.ex (q11 [.sl (canon x).length 1 v3,.sl (canon y).length 1 (natG .u32 (canon y))]) λn=>.all (λ(r:Int)=>r=cmp3 n.1 n.2) λn=>.D (n<0) (.R [.nils,.sl (canon x).length 1 v3] []) (.D (((canon y).length:Int)=1) (.side ((0:Int)<=0/\(0:Int)<((canon y).length:Int)) (.ex (q13 [.sl (canon x).length 1 v3,.int .u32 ↑(List.getD (canon y) 0 0)]) λn=>.all (λ(r:Nat×Nat)=>r=(n.1/n.2,n.1%n.2)) λn=>.ex (λ(u:List Nat)=>u.length=1/\1<=1/\1<4611686018427387904/\eqG 1 1 (zj 1 [.int .u32 n.2]) (natG .u32 u)/\dig (List.take 1 (List.drop 0 u))) λn_1=>.all (λ(x:Nat)=>x=val (List.take 1 (List.drop 0 n_1))) λn_2=>.R [.sl (canon n.1).length 1 (natG .u32 (canon n.1)),.osl 0 1 0 (canon n_2).length] [.arr 1 1 (zj 1 [.int .u32 n.2])])) (.S ((canon y).length-1) (.side ((0:Int)<=((canon y).length:Int) - (1:Int)/\((canon y).length:Int) - (1:Int)<((canon y).length:Int)) (.side (inR .u64 ↑(List.getD (canon y) v2 0)) (.side (inR .u64 ((↑(List.getD (canon y) v2 0):Int)+(1:Int))) (.side ((↑(List.getD (canon y) v2 0):Int)+(1:Int)≠0/\inR .u64 v1) (.side (inR .u32 v1) (.ex (q11 [.sl (canon x).length 1 v3,.sl 1 1 (zi (zj 1 [.int .u32 v1]) 0)]) λn=>let v4:=List.length (canon n.1)+List.length (canon n.2);.all (λ(p:Nat)=>p=n.1*n.2) λn_1=>.leaf (.loop (lps K128 0).1 (lps K128 0).2 [(0,.sl (canon x).length 1 v3),(1,.sl (canon y).length 1 (natG .u32 (canon y))),(4,.nils),(8,.int .u32 v1),(9,.i (canon y).length),(10,.osl 1 1 0 (canon n_1).length),Z 11,Z 12,Z 13,Z 15,Z 151,Z 152] [.arr 1 1 (zj 1 [.int .u32 v1]),.arr v4 1 (natG .u32 (padN v4 n_1))])))))))))) ?_;simp only [q11,q13,Tree.holds,zf,inR,lo,hi];refine⟨(x,y),⟨by simp [za],by simp only [fits]; omega,by simp only [fits]; omega⟩,⟨_,rfl⟩,?_⟩;rintro c rfl;have hyl:0<(canon y).length:=jR (n:=0) (by simp; omega);refine⟨λhlt=> ?_,λhge=>⟨λh1=>⟨by omega,λ_=> ?_⟩,λhn=> ?_⟩⟩
 ·have hxy:x<y:=by
   simp only [cmp3,aK] at hlt;rcases aR x y with h | h
   ·exact h
   ·rw [aO (by omega)] at hlt; split at hlt<;>omega
  rw [Nat.div_eq_of_lt hxy,Nat.mod_eq_of_lt hxy] at hq;refine RetR.out0 hq (λh=>by cases h) ?_;simp [resV,exp2,exp1,exp0,ren0,eqA2,eqL1,magS,natS,zX,za]
 ·have h1:(canon y).length=1:=by simp at h1; omega
  have hyd:y=(canon y).getD 0 0:=by
   have:=zq y;obtain⟨a,ha⟩:=List.length_eq_one_iff.1 h1;rw [ha] at this ⊢;simp [val] at this ⊢; omega
  have hyB:y<B:=hyd▸zP (zm y) 0;rw [<- hyd];refine⟨(x,y),⟨by simp [za],by simp only [fits]; omega,hy0,hyB⟩,⟨_,rfl⟩,?_⟩;rintro r rfl;have hm:=Nat.mod_lt x hy0;have hmB:x%y<B:=by omega
  refine⟨[x%y],⟨rfl,by omega,by omega,xz _ _,by simpa [dig] using hmB⟩,⟨_,rfl⟩,?_⟩;intro X hX;have hX:X=x%y:=by simpa [val] using hX
  subst hX;refine RetR.out0 hq (λh=>by cases h) ?_;simp only [resV,exp2,List.map_cons,List.map_nil,exp1,exp0,ren0,zO,frz1,wg,List.getElem?_cons_zero,if_true,eqA2,eqL1,eqA,eqA0,magS,natS,true_and,and_true];exact⟨za _ _ _,vH hmB⟩
 ·have hn:2<=(canon y).length:=by simp at hn; omega
  obtain⟨m,hm⟩:∃ m,(canon y).length=m+2:=⟨(canon y).length - 2,by omega⟩;have e1:((((canon y).length:Nat):Int) - 1).toNat=m+1:=by omega
  have hty:=zP (zm y) (m+1)
  have htop:(canon y).getD (m+1) 0≠0:=by
   have:=q9 (canon y) (by rw [j3]; omega);rw [j3,hm] at this;exact this
  have hyv:∃ r,r<B^(m+1)/\y=r+B^(m+1)*(canon y).getD (m+1) 0:=by
   refine⟨val ((canon y).take (m+1)),?_,?_⟩
   ·have:=zZ (jk (zm y) (m+1))
    rwa [aH,Nat.min_eq_left (by omega)] at this
   ·have:=zt (canon y) (m+1)
    rwa [bF (by omega),zq] at this
  rw [e1];generalize (canon y).getD (m+1) 0=t at hty htop hyv ⊢
  have e2:Int.tdiv 1000000000 ((t:Int)+1)=((B/(t+1):Nat):Int):=by
   have:((t:Int)+1)=((t+1:Nat):Int):=by omega
   rw [this]; rfl
  rw [e2];obtain⟨s,hs⟩:∃ s,B/(t+1)=s:=⟨_,rfl⟩;obtain⟨hs0,hs1,hs2⟩:=zjs (by omega) hs.symm hty;rw [hs]
  have hsB:s<B:=by
   have:s*2<=s*(t+1):=aS _ (by omega);omega
  obtain⟨r0,hr0,hyr⟩:=hyv;obtain⟨hV1,hV2⟩:=scaled hr0 hyr hs0 hs1 hs2;refine⟨by omega,λ_=>⟨by omega,λ_=>⟨by omega,λ_=>⟨by omega,λ_=>⟨by omega,λ_=>⟨by omega,λ_=> ?_⟩⟩⟩⟩⟩⟩;have hsl:=VH hs0 hsB;refine⟨(x,s),⟨?_,by simp only [fits]; omega,by simp only [fits]; omega⟩,⟨_,rfl⟩,?_⟩
  ·simp only [eqL,eqA,eqA0,true_and,and_true];refine⟨za _ _ _,hsl.symm,?_⟩;have:=vH hsB
   rwa [hsl] at this
  intro U hU;simp only at hU ⊢;rw [hsl]
  have hxs:U<B^((canon x).length+1):=by
   have h1:=zZ (zm x);rw [zq] at h1;rw [hU,Nat.pow_succ];exact Nat.mul_lt_mul'' h1 hsB
  have hUl:=zD hxs
  have hcan:(canon x).length+1≥m+2:=by
   rcases aR (canon x).length (m+1) with h | h
   ·exfalso;have:=qp (x:=x) (y:=y) (by omega);simp [cmp3,this] at hge
   ·omega
  have hylx:(canon y).length<=(canon x).length:=by
   rcases aR (canon x).length (canon y).length with h | h
   ·exfalso;have:=qp h;simp [cmp3,this] at hge
   ·exact h
  refine zc.loop (ι:=IG x U) (λi=>SG x y s i.k) (λi=>[.dead,.arr i.o.length 1 (natG .u32 i.o)]) (λi=>(canon x).length+1 - i.k)
   ⟨(canon U).length,padN ((canon x).length+1) U,by rw [X3 hUl]; exact hUl,by rw [X3 hUl]; omega,jk (zp4 _ _) _,by simp [padN,zq]⟩ 0 ?_ ?_ (by kernel_rfl)
  ·exact⟨by simp [SG,magS,natS,za],by simp [za,X3 hUl],by kernel_rfl,aI _⟩
  ·rintro⟨k,o,hko,hol,hdo,hvo⟩;refine zc.n G2.h [0,1,4,8,9,10,11,12,13,15,151,152] (let v4:=natG .u32 (canon y);let v2:=inR .i64 (k-(canon y).length);let v1:=Int.toNat (k-(canon y).length);.D ((k:Int)<=((canon x).length:Int)) (.side (0=0/\k<=o.length/\(k+1)*4<=140737488355328) (.leaf (.back 0 [(0,.sl (canon x).length 1 (natG .u32 (canon x))),(1,.sl (canon y).length 1 v4),(4,.nils),(8,.int .u32 s),(9,.i (canon y).length),(10,.osl 1 1 0 (k+1)),Z 11,Z 12,Z 13,Z 15,Z 151,Z 152] [.dead,.arr (k+1) 1 (appG k (natG .u32 o) (zi (zj 1 [.int .u32 0]) 0)),.arr 1 1 (zj 1 [.int .u32 0])]))) (.ex (q11 [.sl (canon y).length 1 v4,.sl 1 1 (zi (zj 1 [.int .u32 s]) 0)]) λn=>let v3:=List.length (canon n.1)+List.length (canon n.2);.all (λ(p:Nat)=>p=n.1*n.2) λn_1=>.side v2 (.side ((0:Int)<=k - ((canon y).length:Int)/\(k:Int) - ((canon y).length:Int)<=k - ((canon y).length:Int)/\inR .i64 (k-(canon y).length)/\Int.toNat (k-(canon y).length)*4<=140737488355328) (.side v2 (.S (k-(canon y).length-1) (.leaf (.loop (lps (inside K128 0) 0).1 (lps (inside K128 0) 0).2 [(0,.sl (canon x).length 1 (natG .u32 (canon x))),(1,.sl (canon y).length 1 v4),(4,.osl 4 1 0 v1),(8,.int .u32 s),(9,.i (canon y).length),(10,.osl 1 1 0 k),(11,.osl 3 1 0 (canon n_1).length),(12,.i (k-(canon y).length-1)),Z 13,Z 15,Z 151,Z 152] [.dead,.arr o.length 1 (natG .u32 o),.arr 1 1 (zj 1 [.int .u32 s]),.arr v3 1 (natG .u32 (padN v3 n_1)),.arr v1 1 (kT [.int .u32 0])]))))))) ?_;simp only [q11,Tree.holds,zf,inR,lo,hi];refine⟨λhk=> ?_,λhk=> ?_⟩
   ·have hk:k<=(canon x).length:=by simp at hk; omega
    refine⟨⟨trivial,hko,by omega⟩,λ_=> ?_⟩;rw [aP trivial];have hkl:(o.take k).length=k:=by rw [aH]; omega
    refine⟨⟨k+1,o.take k++[0],by simp [hkl],by simp [hkl]; omega,?_,?_⟩,by show _ - (k+1)<_ - k; omega,by simp [SG,magS,natS,za],?_,by kernel_rfl,aI _⟩
    ·rw [bF (by simp [hkl])]; exact qF.2 ⟨hdo,by simp [dig]⟩
    ·rw [bF (by simp [hkl]),zN]; simp [val,hvo]
    ·refine⟨trivial,⟨by simp [hkl],rfl,?_⟩,trivial⟩;intro j o' hj ho';have:o'=0:=by omega
     subst this;simp only [appG,zi,zj,natG];by_cases h:j<k
     ·rw [aP h];simp only [List.getD];rw [bL (by omega),bR,aP h]
     ·have:j=k:=by omega
      subst this;rw [aO h];simp [List.getElem?_append_right,hkl]
   ·have hk:k=(canon x).length+1:=by simp at hk; omega
    have hok:o.length=(canon x).length+1:=by omega
    rw [bF (by omega)] at hdo hvo;refine⟨(y,s),⟨?_,by simp only [fits]; omega,by simp only [fits]; omega⟩,⟨_,rfl⟩,?_⟩
    ·simp only [eqL,eqA,eqA0,true_and,and_true];refine⟨za _ _ _,hsl.symm,?_⟩;have:=vH hsB
     rwa [hsl] at this
    intro V hV;simp only at hV ⊢;rw [hsl];rw [<- hV] at hV1 hV2
    have hVl:(canon V).length=m+2:=by
     have h1:=zD hV1
     have h2:B^(m+1)<=V:=by
      have:B^(m+1+1)=B^(m+1)*B:=Nat.pow_succ ..;rw [this] at hV2;have:B^(m+1)*2<=B^(m+1)*B:=aS _ (by decide);omega
     have:=jR h2;omega
    have hV0:0<V:=by
     rcases bC V with h | h
     ·rw [h,zX] at hVl; simp at hVl
     ·exact h
    have eq0:((k:Int) - ((canon y).length:Int)).toNat=k - (canon y).length:=by omega
    rw [eq0];refine⟨by omega,λ_=>⟨by omega,λ_=>⟨by omega,λ_=>⟨by omega,λ_=> ?_⟩⟩⟩⟩
    have hqe:U/V=x/y/\U%V=x%y*s:=by
     rw [hU,hV];exact⟨Nat.mul_div_mul_right _ _ hs0,Nat.mul_mod_mul_right _ _ _⟩
    refine zc.loop (ι:=ID x y V U) (λi=>SD y s V i.u.length i.q.length i.j) (λi=>HD y V i.u i.q) (λi=>i.j)
     ⟨o,List.replicate (k - (canon y).length) 0,k - (canon y).length,hok,by simp; omega,by simp,hdo,qS _,by simp [val,hvo],?_⟩ 0 ?_ ?_ (by kernel_rfl)
    ·rw [hvo]
     have h1:U*2<=x*B:=by
      rw [hU,bI];refine aS _ ?_;have:s*2<=s*(t+1):=aS _ (by omega);omega
     have h2:x<B^(canon x).length:=by have:=zZ (zm x); rwa [zq] at this
     have h3:B^(m+1+1)*B^(k - (canon y).length)<=2*V*B^(k - (canon y).length):=aT _ hV2;rw [<- Nat.pow_add,show m+1+1+(k - (canon y).length)=(canon x).length+1 by omega,Nat.pow_succ] at h3;have h4:x*B<B^(canon x).length*B:=Nat.mul_lt_mul_of_pos_right h2 (by decide);rw [bI] at h3;omega
    ·refine⟨?_,?_,by kernel_rfl,aI _⟩
     ·simp [SD,hVl,hm,hok,hk,za]; omega
     ·simp [HD,za,uD]
    ·rintro⟨u,q,j,hul,hql,hjq,hdu,hdq,heq,hlt⟩;rcases j with _ | i
     ·refine zc.n G2.h [0,1,4,8,9,10,11,12,13,15,151,152] (let v14:=natG .u32 q;let v12:=inR .i64 ((canon y).length+1);let v9:=List.length (canon y)+1;let v8:=lps (inside (inside K128 0) 0) 0;let v7:=natG .u32 u;let v5:=inR .i64 ((-1:Int)+((canon y).length:Int)+(1:Int));let v4:=inR .i64 ((-1:Int)+((canon y).length:Int));let v3:=padN v9 V;let v11:=natG .u32 v3;let v1:=Int.toNat ((-1:Int)+((canon y).length:Int)+(1:Int)) - 0;.ite false (.side v4 (.side ((0:Int)<=(-1:Int)+((canon y).length:Int)/\(-1:Int)+((canon y).length:Int)<u.length) (.side (inR .u64 ↑(u.getD (0+Int.toNat ((-1:Int)+((canon y).length:Int))) 0)) (.side v4 (.S ((-1:Int)+((canon y).length:Int) - (1:Int)) (.side ((0:Int)<=(-1:Int)+((canon y).length:Int) - (1:Int)/\(-1:Int)+((canon y).length:Int) - (1:Int)<u.length) (.side (inR .u64 ↑(u.getD (0+Int.toNat ((-1:Int)+((canon y).length:Int) - (1:Int))) 0)) (.side v4 (.S ((-1:Int)+((canon y).length:Int) - (2:Int)) (.side ((0:Int)<=(-1:Int)+((canon y).length:Int) - (2:Int)/\(-1:Int)+((canon y).length:Int) - (2:Int)<u.length) (.side (inR .u64 ↑(u.getD (0+Int.toNat ((-1:Int)+((canon y).length:Int) - (2:Int))) 0)) (.S ((canon y).length-1) (.side ((0:Int)<=((canon y).length:Int) - (1:Int)/\((canon y).length:Int) - (1:Int)<((canon V).length:Int)) (.side (inR .u64 ↑(List.getD v3 (0+Int.toNat ((canon y).length-1)) 0)) (.S ((canon y).length-2) (.side ((0:Int)<=((canon y).length:Int) - (2:Int)/\((canon y).length:Int) - (2:Int)<((canon V).length:Int)) (.side (inR .u64 ↑(List.getD v3 (0+Int.toNat ((canon y).length-2)) 0)) (.ex (q10 [.int .u64 ↑(u.getD (0+Int.toNat ((-1:Int)+((canon y).length:Int))) 0),.int .u64 ↑(u.getD (0+Int.toNat ((-1:Int)+((canon y).length:Int) - (1:Int))) 0),.int .u64 ↑(u.getD (0+Int.toNat ((-1:Int)+((canon y).length:Int) - (2:Int))) 0),.int .u64 ↑(List.getD v3 (0+Int.toNat ((canon y).length-1)) 0),.int .u64 ↑(List.getD v3 (0+Int.toNat ((canon y).length-2)) 0)]) λn=>.all (λ(n_1:Nat)=>n_1=jx n.v n.y n.z 2 ((D5.t n*1000000000+D5.u n)/D5.y n) ((D5.t n*1000000000+D5.u n)%D5.y n)) λn=>let v13:=zj 1 [.int .u32 (n-1)];.side (inR .u32 n) (.ex (λ(u:List Nat)=>u.length=1/\1<=1/\1<4611686018427387904/\eqG 1 1 (zj 1 [.int .u32 n]) (natG .u32 u)/\dig (List.take 1 (List.drop 0 u))) λn_1=>.all (λ(x:Nat)=>x=val (List.take 1 (List.drop 0 n_1))) λn_2=>.ex (q11 [.sl (canon V).length 1 (zi v11 0),.sl (canon n_2).length 1 (zi (zj 1 [.int .u32 n]) 0)]) λn_3=>let v2:=List.length (canon n_3.1)+List.length (canon n_3.2);.all (λ(p:Nat)=>p=n_3.1*n_3.2) λn_4=>let v10:=natG .u32 (padN v2 n_4);.side v4 (.side v5 (.side ((0:Int)<=(-1:Int)/\(-1:Int)<=(-1:Int)+((canon y).length:Int)+(1:Int)/\(-1:Int)+((canon y).length:Int)+(1:Int)<=u.length) (.ex (λ(u_1:List Nat)=>u_1.length=u.length/\0+(Int.toNat ((-1:Int)+((canon y).length:Int)+(1:Int)) - 0)<=u.length/\Int.toNat ((-1:Int)+((canon y).length:Int)+(1:Int)) - 0<4611686018427387904/\eqG u.length 1 v7 (natG .u32 u_1)/\dig (List.take v1 (List.drop 0 u_1))) λn_5=>.all (λ(x:Nat)=>x=val (List.take v1 (List.drop 0 n_5))) λn_6=>.ex (q11 [.sl (canon n_6).length 1 (zi v7 0),.sl (canon n_4).length 1 (zi v10 0)]) λn_7=>.all (λ(r:Int)=>r=cmp3 n_7.1 n_7.2) λn_8=>.D (n_8<0) (.side (inR .u64 (n-1)) (.side (inR .u32 (n-1)) (.ex (λ(u:List Nat)=>u.length=1/\1<=1/\1<4611686018427387904/\eqG 1 1 v13 (natG .u32 u)/\dig (List.take 1 (List.drop 0 u))) λn_9=>.all (λ(x:Nat)=>x=val (List.take 1 (List.drop 0 n_9))) λn_10=>.ex (q11 [.sl (canon V).length 1 (zi v11 0),.sl (canon n_10).length 1 (zi v13 0)]) λn_11=>let v6:=List.length (canon n_11.1)+List.length (canon n_11.2);.all (λ(p:Nat)=>p=n_11.1*n_11.2) λn_12=>.side v4 (.side v5 (.side ((0:Int)<=(-1:Int)/\(-1:Int)<=(-1:Int)+((canon y).length:Int)+(1:Int)/\(-1:Int)+((canon y).length:Int)+(1:Int)<=u.length) (.ex (λ(u_1:List Nat)=>u_1.length=u.length/\0+(Int.toNat ((-1:Int)+((canon y).length:Int)+(1:Int)) - 0)<=u.length/\Int.toNat ((-1:Int)+((canon y).length:Int)+(1:Int)) - 0<4611686018427387904/\eqG u.length 1 v7 (natG .u32 u_1)/\dig (List.take v1 (List.drop 0 u_1))) λn_13=>.all (λ(x:Nat)=>x=val (List.take v1 (List.drop 0 n_13))) λn_14=>.ex (q12 [.sl (canon n_14).length 1 (zi v7 0),.sl (canon n_12).length 1 (zi (natG .u32 (padN v6 n_12)) 0)]) λn_15=>.all (λ(d:Nat)=>d=n_15.1 - n_15.2) λn_16=>.side v12 (.leaf (.loop v8.1 v8.2 [Z 0,Z 1,(4,.osl 4 1 0 q.length),(8,.int .u32 s),(9,.i (canon y).length),(10,.osl 1 1 0 u.length),(11,.osl 3 1 0 (canon V).length),(12,.i (-1:Int)),(13,.int .u64 (n-1)),(15,.sl (canon n_16).length 1 (natG .u32 (canon n_16))),(151,.i ((canon y).length+1)),(152,.i 0)] [.dead,.arr u.length 1 v7,.dead,.arr v9 1 v11,.arr q.length 1 v14,.arr 1 1 (zj 1 [.int .u32 n]),.arr v2 1 v10,.arr 1 1 (zj 1 [.int .u32 (n-1)]),.arr v6 1 (natG .u32 (padN v6 n_12))])))))))) (.side v4 (.side v5 (.side ((0:Int)<=(-1:Int)/\(-1:Int)<=(-1:Int)+((canon y).length:Int)+(1:Int)/\(-1:Int)+((canon y).length:Int)+(1:Int)<=u.length) (.ex (λ(u_1:List Nat)=>u_1.length=u.length/\0+(Int.toNat ((-1:Int)+((canon y).length:Int)+(1:Int)) - 0)<=u.length/\Int.toNat ((-1:Int)+((canon y).length:Int)+(1:Int)) - 0<4611686018427387904/\eqG u.length 1 v7 (natG .u32 u_1)/\dig (List.take v1 (List.drop 0 u_1))) λn_9=>.all (λ(x:Nat)=>x=val (List.take v1 (List.drop 0 n_9))) λn_10=>.ex (q12 [.sl (canon n_10).length 1 (zi v7 0),.sl (canon n_4).length 1 (zi v10 0)]) λn_11=>.all (λ(d:Nat)=>d=n_11.1 - n_11.2) λn_12=>.side v12 (.leaf (.loop v8.1 v8.2 [Z 0,Z 1,(4,.osl 4 1 0 q.length),(8,.int .u32 s),(9,.i (canon y).length),(10,.osl 1 1 0 u.length),(11,.osl 3 1 0 (canon V).length),(12,.i (-1:Int)),(13,.int .u64 n),(15,.sl (canon n_12).length 1 (natG .u32 (canon n_12))),(151,.i ((canon y).length+1)),(152,.i 0)] [.dead,.arr u.length 1 v7,.dead,.arr v9 1 v11,.arr q.length 1 v14,.arr 1 1 (zj 1 [.int .u32 n]),.arr v2 1 v10])))))))))))))))))))))))))))) (.ex (λ(u_1:List Nat)=>u_1.length=u.length/\0+u.length<=u.length/\u.length<4611686018427387904/\eqG u.length 1 v7 (natG .u32 u_1)/\dig (List.take u.length (List.drop 0 u_1))) λn=>.all (λ(x:Nat)=>x=val (List.take u.length (List.drop 0 n))) λn=>.ex (q13 [.sl (canon n).length 1 (zi v7 0),.int .u32 s]) λn=>.all (λ(r:Nat×Nat)=>r=(n.1/n.2,n.1%n.2)) λn=>.ex (λ(u:List Nat)=>u.length=q.length/\0+q.length<=q.length/\q.length<4611686018427387904/\eqG q.length 1 v14 (natG .u32 u)/\dig (List.take q.length (List.drop 0 u))) λn_1=>.all (λ(x:Nat)=>x=val (List.take q.length (List.drop 0 n_1))) λn_2=>.R [.osl 4 1 0 (canon n_2).length,.sl (canon n.1).length 1 (natG .u32 (canon n.1))] [.dead,.arr u.length 1 v7,.dead,.arr v9 1 v11,.arr q.length 1 v14])) ?_;simp only [q10,q11,q12,q13,Tree.holds,zf,inR,lo,hi];refine⟨λhj=>by simp at hj,λhj=> ?_⟩;simp only [List.drop_zero,Nat.pow_zero,Nat.mul_one] at heq hlt
      have hdiv:U/V=val q/\U%V=val u:=by
       rw [heq];exact⟨by rw [Nat.mul_add_div hV0,Nat.div_eq_of_lt hlt,Nat.add_zero],by rw [Nat.mul_add_mod,Nat.mod_eq_of_lt hlt]⟩
      have hqv:val q=x/y:=by rw [<- hdiv.1,hqe.1]
      have huv:val u=x%y*s:=by rw [<- hdiv.2,hqe.2]
      refine⟨u,⟨rfl,by omega,by omega,za _ _ _,by simpa using hdu⟩,⟨_,rfl⟩,?_⟩;intro X hX;have hX:X=x%y*s:=by simpa [huv] using hX
      have hw:val ((u.drop 0).take u.length)=X:=by simp [huv,hX]
      have hXl:=jV (k:=.u32) (u:=u) (off:=0) (n:=u.length) (by simpa using hdu) hw;have hmy:=Nat.mod_lt x hy0
      have hXlen:(canon X).length<=u.length:=by
       refine zD ?_;rw [hX,<- huv]; exact zZ hdu
      refine⟨(X,s),⟨?_,by simp only [fits]; omega,hs0,hsB⟩,⟨_,rfl⟩,?_⟩
      ·simp only [eqL,eqA,eqA0,true_and,and_true];exact hXl
      rintro r rfl;have hXs:X/s=x%y:=by rw [hX]; exact Nat.mul_div_cancel _ hs0
      simp only [hXs];refine⟨q,⟨rfl,by omega,by omega,za _ _ _,by simpa using hdq⟩,⟨_,rfl⟩,?_⟩;intro Y hY;have hY:Y=x/y:=by simpa [hqv] using hY
      subst hY;refine RetR.out0 hq (λh=>by cases h) ?_;have hw2:val ((q.drop 0).take q.length)=x/y:=by simp [hqv]
      simp only [resV,exp2,List.map_cons,List.map_nil,exp1,exp0,ren0,zO,frz1,wg,List.getElem?_cons_zero,List.getElem?_cons_succ,if_true,eqA2,eqL1,eqA,eqA0,magS,natS,true_and,and_true];exact⟨jV (by simpa using hdq) hw2,za _ _ _⟩
     ·exact XI hm hx hs0 hsB hV1 hV2 hVl hV0 hul hql hjq hdu hdq heq hlt
end Go.Proofs.Tryz
end
