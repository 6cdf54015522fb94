/- Part 5 of the proof. -/
import Derived.Test.YtfiocgnojggdjaaGreatDoorSxa
import Derived.Test.YtfiocgnojggdjaaGreatDoorSxd
import Derived.Lib.Strings
import Derived.Lib.Slices
import Derived.Lib.Walk
import Derived.Lib.Bytealg
import Derived.Test.YtfiocgnojggdjaaGreatDoorProg
set_option linter.unusedVariables false
set_option linter.unusedSimpArgs false
set_option linter.unusedSectionVars false
section
set_option maxRecDepth 100000
open Go Go.Sx Go.Proofs Go.Nov
namespace Go.Proofs.Tryz
attribute [local simp] eqKV eqA eqA0 eqH eqB eqL eqL0
noncomputable def K114:=Go.Sx.aA f114
noncomputable def G2:=tb yd (tb zdg (tb Ws (tb V6 (tb ze6 (tb Qr tz)))))
theorem jD{k:IntKind}{u:List Nat}{off n X:Nat}(hd:dig ((u.drop off).take n))(hX:val ((u.drop off).take n)=X):eqG (canon X).length 1 (zf (natG k u) off) (natG k (canon X)):=by
 have h:=zL hd;rw [hX] at h;have hl:=qj ((u.drop off).take n);intro j o hj ho;simp only [zf,natG,AV.int.injEq,true_and];rw [<- h] at hj ⊢;simp only [qD,aH] at hj ⊢;have hjn:j<n:=by simp at hj hl; omega
 have e:(List.take (tlen ((u.drop off).take n)) ((u.drop off).take n)).getD j 0=((u.drop off).take n).getD j 0:=by
  simp only [List.getD,bR];rw [aP (by omega)]
 rw [e,xJ _ _ _ _ hjn]
theorem xF(k:IntKind)(n:Nat):eqG 1 1 (ze 1 [.int k (n:Int)]) (natG k [n]):=by
 intro j o hj ho;have:j=0:=by omega
 have:o=0:=by omega
 subst_vars; rfl
theorem zas{k:IntKind}{n:Nat}{g:Nat->Nat->AV}{u:List Nat}{off m:Nat}(h:eqG m 1 g (natG k u))(hm:off+n<=m):eqG n 1 (zf g off) (zf (natG k u) off):=by
 intro j o hj ho;exact h (off+j) o (by omega) ho
theorem uC{n sz:Nat}{f g h:Nat->Nat->AV}(h1:eqG n sz f g)(h2:eqG n sz g h):eqG n sz f h:=λj o hj ho=>(h1 j o hj ho).trans (h2 j o hj ho)
theorem wK{d:Nat}(hd:d<B):eqG (canon d).length 1 (zf (ze 1 [.int .u32 (d:Int)]) 0) (natG .u32 (canon d)):=by
 have h1:dig (([d].drop 0).take 1):=by simpa [dig] using hd
 have h2:val (([d].drop 0).take 1)=d:=by simp [val]
 have h3:=jD (k:=.u32) h1 h2;refine uC (zas (xF .u32 d) ?_) h3;have:=zw (x:=d) (n:=1) (by simpa using hd);omega
theorem yQ{N p:Nat}(hN:(canon p).length<=N):eqG (canon p).length 1 (zf (natG .u32 (padN N p)) 0) (natG .u32 (canon p)):=by
 intro j o hj ho;simp only [zf,natG,Nat.zero_add,padN,AV.int.injEq,true_and];congr 1;simp only [List.getD];rw [bL hj]
theorem zdn(N p i:Nat):(padN N p).getD i 0=(canon p).getD i 0:=by
 simp only [padN,List.getD];by_cases h:i<(canon p).length
 ·rw [bL h]
 ·rw [List.getElem?_append_right (by omega),aZ (show(canon p).length<=i by omega)];cases hh:(List.replicate (N - (canon p).length) 0)[i - (canon p).length]? with
  | none=>rfl
  | some z=>have:=aY hh; simp at this; simp [this.2]
theorem Wr{N p:Nat}(h:(canon p).length<=N):(padN N p).length=N:=by simp [padN]; omega
theorem zfy(N p:Nat):dig (padN N p):=jf.2 ⟨zi _,qQ _⟩
theorem xQ(x y:Nat):(canon (x*y)).length<=(canon x).length+(canon y).length:=by
 have h1:=qp (zi x);have h2:=qp (zi y);rw [zk] at h1 h2;exact zw (by rw [Nat.pow_add]; exact Nat.mul_lt_mul'' h1 h2)
theorem Jb{d:Nat}(h0:0<d)(hB:d<B):(canon d).length=1:=by
 have h1:=zw (x:=d) (n:=1) (by simpa using hB);have h2:=j8 (x:=d) (n:=0) (by simp; omega);omega
def yJ:Ctr:=ctr2 false (λx y=>(canon x).length<100000/\(canon y).length<100000/\0<y) (λx y (r:Nat×Nat)=>r=(x/y,x%y)) (λ_ _ r=>(.tup [magS r.1,magS r.2],[]))
def SG(x y s k:Nat):KV:=[(0,magS x),(1,magS y),(4,.nils),(8,.int .u32 (s:Int)),(9,.i (((canon y).length:Nat):Int)),(10,.osl 1 1 0 k),Z 11,Z 12,Z 13,Z 15,Z 151,Z 152]
structure IG(x U:Nat) where
 k:Nat
 o:List Nat
 ko:k<=o.length
 le:o.length<=(canon x).length+1
 dg:dig (o.take k)
 eq:val (o.take k)=U
def SD(y s V ul ql j:Nat):KV:=[Z 0,Z 1,(4,.osl 4 1 0 ql),(8,.int .u32 (s:Int)),(9,.i (((canon y).length:Nat):Int)),(10,.osl 1 1 0 ul),(11,.osl 3 1 0 (canon V).length),(12,.i ((j:Int) - 1)),Z 13,Z 15,Z 151,Z 152]
def HD(y V:Nat)(u q:List Nat):Heap:=[.dead,.arr u.length 1 (natG .u32 u),.dead,.arr ((canon y).length+1) 1 (natG .u32 (padN ((canon y).length+1) V)),.arr q.length 1 (natG .u32 q)]
structure ID(x y V U:Nat) where
 u:List Nat
 q:List Nat
 j:Nat
 ul:u.length=(canon x).length+1
 ql:q.length+(canon y).length=(canon x).length+1
 jq:j<=q.length
 du:dig u
 dq:dig q
 eq:U=V*B^j*val (q.drop j)+val u
 lt:val u<V*B^j
def SC(y s V ul ql j d L i:Nat):KV:=[Z 0,Z 1,(4,.osl 4 1 0 ql),(8,.int .u32 (s:Int)),(9,.i (((canon y).length:Nat):Int)),(10,.osl 1 1 0 ul),(11,.osl 3 1 0 (canon V).length),(12,.i (j:Int)),(13,.int .u64 (d:Int)),(15,magS L),(151,.i (((canon y).length+1:Nat):Int)),(152,.i (i:Int))]
theorem V3{x y s V U m i:Nat}{u q:List Nat}{O:Nat->Prop}{w0:World}{Q:AV×Heap->Prop}{Hs0:Nat->KV->Heap->Prop}(hm:(canon y).length=m+2)(hx:(canon x).length<100000)(hs0:0<s)(hsB:s<B)(hV1:V<B^(m+2))(hV2:B^(m+2)<=2*V)(hVl:(canon V).length=m+2)(hV0:0<V)
  (hul:u.length=(canon x).length+1) (hql:q.length+(canon y).length=(canon x).length+1) (hjq:i+1<=q.length) (hdu:dig u) (hdq:dig q) (heq:U=V*B^(i+1)*val (q.drop (i+1))+val u) (hlt:val u<V*B^(i+1)) {W:Nat} (hW:val ((u.drop i).take (m+2+1))=W) (hWB:W/V<B) (kv:KV) (h:Heap) (hle:LeK 0 f114.ntmps kv h (SC y s V u.length q.length i (W/V) (W%V) 0) (HD y V u q)) :
  zb prog f114 O 0 w0 [] (λd kv h=>if d=0 then ∃ x':ID x y V U,x'.j<i+1/\LeK 0 f114.ntmps kv h (SD y s V x'.u.length x'.q.length x'.j) (HD y V x'.u x'.q) else Hs0 d kv h) (RetR yJ 0 Q)
   (.code (.loop (lps (inside (inside K114 0) 0) 0).1)::(lps (inside (inside K114 0) 0) 0).2) (mk f114.ntmps kv h):=by
 have hB:B=1000000000:=rfl;have c2:0+(i:Int).toNat=i:=by omega
 have hLV:=Nat.mod_lt W hV0;have hLl:(canon (W%V)).length<=m+2:=zw (by omega);refine zb.loop (ι:={k:Nat // k<=m+2+1}) (λk=>SC y s V u.length q.length i (W/V) (W%V) k.1) (λk=>HD y V (mixL u (canon (W%V)) i k.1) q) (λk=>m+2+1 - k.1) ⟨0,aI _⟩ 1 ?_ ?_ (by kernel_rfl)
 ·simpa only [za1] using hle
 ·rintro⟨k,hk⟩;obtain⟨L,hL⟩:∃ L,W%V=L:=⟨_,rfl⟩;obtain⟨d,hd⟩:∃ d,W/V=d:=⟨_,rfl⟩;simp only [hL,hd];obtain⟨u',hu'⟩:∃ u',mixL u (canon L) i k=u':=⟨_,rfl⟩;have hu'l:u'.length=u.length:=by rw [<- hu',VA]
  simp only [hu',<- hu'l];rw [hL] at hLl hLV;refine zb.n G2.h [0,1,4,8,9,10,11,12,13,15,151,152] (let v5:=inR .i64 (k+1);let v3:=updG (natG .u32 u') (0+Int.toNat ((i:Int)+k)) 0 [.int .u32 0];let v2:=List.length (canon y)+1;let v4:=natG .u32 (padN v2 V);let v1:List (Nat×AV):=[Z 0,Z 1,(4,.osl 4 1 0 q.length),(8,.int .u32 s),(9,.i (canon y).length),(10,.osl 1 1 0 u'.length),(11,.osl 3 1 0 (canon V).length),(12,.i i),(13,.int .u64 d),(15,.sl (canon L).length 1 (natG .u32 (canon L))),(151,.int .i64 ↑(List.length (canon y)+1)),(152,.i (k+1))];.D ((k:Int)<(↑(List.length (canon y)+1):Int)) (.S ((i:Int)+k) (.side ((0:Int)<=i+(k:Int)/\(i:Int)+k<(u'.length:Int)) (.D ((k:Int)<((canon L).length:Int)) (.S ((i:Int)+k) (.side ((0:Int)<=k/\(k:Int)<((canon L).length:Int)) (.side ((0:Int)<=i+(k:Int)/\(i:Int)+k<(u'.length:Int)) (.side v5 (.leaf (.back 1 v1 [.dead,.arr u'.length 1 (updG v3 (0+Int.toNat ((i:Int)+k)) 0 [.int .u32 ↑(List.getD (canon L) (k:Int).toNat 0)]),.dead,.arr v2 1 v4,.arr q.length 1 (natG .u32 q)])))))) (.side v5 (.leaf (.back 1 v1 [.dead,.arr u'.length 1 v3,.dead,.arr v2 1 v4,.arr q.length 1 (natG .u32 q)])))))) (.side (inR .u32 d) (.side ((0:Int)<=i/\(i:Int)<q.length) (.S (i-1) (.leaf (.back 0 [Z 0,Z 1,(4,.osl 4 1 0 q.length),(8,.int .u32 s),(9,.i (canon y).length),(10,.osl 1 1 0 u'.length),(11,.osl 3 1 0 (canon V).length),(12,.i (i-1)),(13,.int .u64 d),(15,.sl (canon L).length 1 (natG .u32 (canon L))),(151,.int .i64 ↑(List.length (canon y)+1)),(152,.i k)] [.dead,.arr u'.length 1 (natG .u32 u'),.dead,.arr v2 1 v4,.arr q.length 1 (updG (natG .u32 q) (0+Int.toNat i) 0 [.int .u32 d])])))))) ?_;have ek:0+((i:Int)+(k:Int)).toNat=i+k:=by omega
  have ek1:((k:Int)+1)=((k+1:Nat):Int):=by omega
  simp only [Tree.holds,zd,inR,lo,hi,ek,ek1,c2,aD];refine⟨λhlt=> ?_,λhge=> ?_⟩
  ·have hlt:k<m+2+1:=by simp at hlt; omega
   have hik:i+k<u'.length:=by omega
   refine⟨by omega,λ_=>⟨by omega,λ_=>⟨λhin=> ?_,λhout=> ?_⟩⟩⟩
   ·have hin:k<(canon L).length:=by simp at hin; omega
    iterate 4 refine⟨by omega,λ_=> ?_⟩
    rw [aP trivial];refine⟨⟨k+1,by omega⟩,by show m+2+1 - (k+1)<m+2+1 - k; omega,by simp [SC,magS,natS,za],?_,by kernel_rfl,aI _⟩;have hs2:=VF u (canon L) i k 0;rw [hu'] at hs2;simp only [<- hs2];refine⟨trivial,⟨by simp,rfl,?_⟩,trivial,by simp [za],by simp [za],trivial⟩;have h1:=vR (k:=.u32) (l:=u') (v:=0) (i:=i+k) (by omega) hik;have h2:=vR (k:=.u32) (l:=u'.set (i+k) 0) (v:=((canon L).getD k 0:Nat)) (i:=i+k) (by omega) (by simpa using hik);simp only [List.length_set,aD] at h2;refine uC ?_ h2;intro p o hp ho;have:=h1 p o hp ho;simp only [updG] at this ⊢;split
    ·rfl
    ·exact this
   ·have hout:(canon L).length<=k:=by simp at hout; omega
    refine⟨by omega,λ_=> ?_⟩;rw [aP trivial];refine⟨⟨k+1,by omega⟩,by show m+2+1 - (k+1)<m+2+1 - k; omega,by simp [SC,magS,natS,za],?_,by kernel_rfl,aI _⟩;have hs2:=VF u (canon L) i k 0;rw [hu'] at hs2;have hz:(canon L).getD k 0=0:=by simp [List.getD,aZ hout]
    rw [hz,List.set_set] at hs2;simp only [<- hs2];refine⟨trivial,⟨by simp,rfl,?_⟩,trivial,by simp [za],by simp [za],trivial⟩;exact vR (k:=.u32) (l:=u') (v:=0) (i:=i+k) (by omega) hik
  ·have hk:k=m+2+1:=by simp at hge; omega
   subst hk;have hdB:d<B:=hd▸hWB
   iterate 3 refine⟨by omega,λ_=> ?_⟩
   rw [aO (by decide),aP trivial];have hval:=zbq (u:=u) (L:=L) (j:=i) (k:=m+2+1) (by omega) (by omega);rw [hu'] at hval;have hst:=step_eq (u:=u) (u':=u') (q:=q) (j:=i) (k:=m+2+1) (V:=V) (U0:=U) hdu (by omega) (by simpa using hV1) (by omega) hV0 hlt (by omega) heq (by rw [hW,hL]; exact hval);rw [hW,hd] at hst;refine⟨⟨u',q.set i d,i,by omega,by simpa using hql,by simp; omega,?_,Zx hdq _ hdB,hst.2,hst.1⟩,Nat.lt_succ_self _,by simp [SD,za],?_,by kernel_rfl,aI _⟩
   ·rw [<- hu']; exact zd3 hdu (zi _) _ _
   ·refine⟨trivial,⟨rfl,rfl,za _ _ _⟩,trivial,⟨rfl,rfl,za _ _ _⟩,⟨by simp,rfl,?_⟩,trivial⟩;have:=vR (k:=.u32) (l:=q) (v:=(d:Int)) (i:=i) (by omega) (by omega);simpa using this
abbrev q13(A:List AV)(x:Nat×Nat):Prop:=eqL A [.sl (canon x.1).length 1 (natG .u32 (canon x.1)),.int .u32 x.2]/\fits x.1/\0<x.2/\x.2<1000000000
abbrev q12(A:List AV)(x:Nat×Nat):Prop:=eqL A [.sl (canon x.1).length 1 (natG .u32 (canon x.1)),.sl (canon x.2).length 1 (natG .u32 (canon x.2))]/\fits x.1/\x.2<=x.1
abbrev q11(A:List AV)(x:Nat×Nat):Prop:=eqL A [.sl (canon x.1).length 1 (natG .u32 (canon x.1)),.sl (canon x.2).length 1 (natG .u32 (canon x.2))]/\fits x.1/\fits x.2
abbrev q10(A:List AV)(x:D5):Prop:=eqL A [.int .u64 ↑x.t,.int .u64 ↑x.u,.int .u64 ↑x.v,.int .u64 ↑x.y,.int .u64 ↑x.z]/\D5.t x<=D5.y x/\D5.u x<1000000000/\D5.v x<1000000000/\D5.y x<1000000000/\D5.z x<1000000000/\1000000000<=2*D5.y x
set_option maxHeartbeats 2000000 in
theorem W7{x y s V U m i:Nat}{u q:List Nat}{O:Nat->Prop}{w0:World}{Q:AV×Heap->Prop}{Hs0:Nat->KV->Heap->Prop}(hm:(canon y).length=m+2)(hx:(canon x).length<100000)(hs0:0<s)(hsB:s<B)(hV1:V<B^(m+2))(hV2:B^(m+2)<=2*V)(hVl:(canon V).length=m+2)(hV0:0<V)
  (hul:u.length=(canon x).length+1) (hql:q.length+(canon y).length=(canon x).length+1) (hjq:i+1<=q.length) (hdu:dig u) (hdq:dig q) (heq:U=V*B^(i+1)*val (q.drop (i+1))+val u) (hlt:val u<V*B^(i+1)) :
  zb prog f114 O 0 w0 [] (λd kv h=>if d=0 then ∃ x':ID x y V U,x'.j<i+1/\LeK 0 f114.ntmps kv h (SD y s V x'.u.length x'.q.length x'.j) (HD y V x'.u x'.q) else Hs0 d kv h) (RetR yJ 0 Q) (inside (inside K114 0) 0) (mk f114.ntmps (SD y s V u.length q.length (i+1)) (HD y V u q)):=by
 have hB:B=1000000000:=rfl;refine zb.n G2.h [0,1,4,8,9,10,11,12,13,15,151,152] (let v15:=natG .u32 q;let v13:=inR .i64 ((canon y).length+1);let v10:=List.length (canon y)+1;let v9:=natG .u32 u;let v8:=lps (inside (inside K114 0) 0) 0;let v6:=zf v9 (0+Int.toNat ((↑(i+1):Int) - (1:Int)));let v5:=inR .i64 ((↑(i+1):Int) - (1:Int)+((canon y).length:Int)+(1:Int));let v4:=padN v10 V;let v12:=natG .u32 v4;let v2:=inR .i64 ((↑(i+1):Int) - (1:Int)+((canon y).length:Int));let v1:=Int.toNat ((↑(i+1):Int) - (1:Int)+((canon y).length:Int)+(1:Int)) - Int.toNat ((↑(i+1):Int) - (1:Int));.D ((0:Int)<=(↑(i+1):Int) - (1:Int)) (.side v2 (.side ((0:Int)<=(↑(i+1):Int) - (1:Int)+((canon y).length:Int)/\(↑(i+1):Int) - (1:Int)+((canon y).length:Int)<u.length) (.side (inR .u64 ↑(u.getD (0+Int.toNat ((↑(i+1):Int) - (1:Int)+((canon y).length:Int))) 0)) (.side v2 (.S ((↑(i+1):Int) - (1:Int)+((canon y).length:Int) - (1:Int)) (.side ((0:Int)<=(↑(i+1):Int) - (1:Int)+((canon y).length:Int) - (1:Int)/\(↑(i+1):Int) - (1:Int)+((canon y).length:Int) - (1:Int)<u.length) (.side (inR .u64 ↑(u.getD (0+Int.toNat ((↑(i+1):Int) - (1:Int)+((canon y).length:Int) - (1:Int))) 0)) (.side v2 (.S ((↑(i+1):Int) - (1:Int)+((canon y).length:Int) - (2:Int)) (.side ((0:Int)<=(↑(i+1):Int) - (1:Int)+((canon y).length:Int) - (2:Int)/\(↑(i+1):Int) - (1:Int)+((canon y).length:Int) - (2:Int)<u.length) (.side (inR .u64 ↑(u.getD (0+Int.toNat ((↑(i+1):Int) - (1:Int)+((canon y).length:Int) - (2:Int))) 0)) (.S ((canon y).length-1) (.side ((0:Int)<=((canon y).length:Int) - (1:Int)/\((canon y).length:Int) - (1:Int)<((canon V).length:Int)) (.side (inR .u64 ↑(List.getD v4 (0+Int.toNat ((canon y).length-1)) 0)) (.S ((canon y).length-2) (.side ((0:Int)<=((canon y).length:Int) - (2:Int)/\((canon y).length:Int) - (2:Int)<((canon V).length:Int)) (.side (inR .u64 ↑(List.getD v4 (0+Int.toNat ((canon y).length-2)) 0)) (.ex (q10 [.int .u64 ↑(u.getD (0+Int.toNat ((↑(i+1):Int) - (1:Int)+((canon y).length:Int))) 0),.int .u64 ↑(u.getD (0+Int.toNat ((↑(i+1):Int) - (1:Int)+((canon y).length:Int) - (1:Int))) 0),.int .u64 ↑(u.getD (0+Int.toNat ((↑(i+1):Int) - (1:Int)+((canon y).length:Int) - (2:Int))) 0),.int .u64 ↑(List.getD v4 (0+Int.toNat ((canon y).length-1)) 0),.int .u64 ↑(List.getD v4 (0+Int.toNat ((canon y).length-2)) 0)]) λn=>.all (λ(n_1:Nat)=>n_1=qT n.v n.y n.z 2 ((D5.t n*1000000000+D5.u n)/D5.y n) ((D5.t n*1000000000+D5.u n)%D5.y n)) λn=>let v14:=ze 1 [.int .u32 (n-1)];.side (inR .u32 n) (.ex (λ(u:List Nat)=>u.length=1/\1<=1/\1<4611686018427387904/\eqG 1 1 (ze 1 [.int .u32 n]) (natG .u32 u)/\dig (List.take 1 (List.drop 0 u))) λn_1=>.all (λ(x:Nat)=>x=val (List.take 1 (List.drop 0 n_1))) λn_2=>.ex (q11 [.sl (canon V).length 1 (zf v12 0),.sl (canon n_2).length 1 (zf (ze 1 [.int .u32 n]) 0)]) λn_3=>let v3:=List.length (canon n_3.1)+List.length (canon n_3.2);.all (λ(p:Nat)=>p=n_3.1*n_3.2) λn_4=>let v11:=natG .u32 (padN v3 n_4);.side v2 (.side v5 (.side ((0:Int)<=(↑(i+1):Int) - (1:Int)/\(↑(i+1):Int) - (1:Int)<=(↑(i+1):Int) - (1:Int)+((canon y).length:Int)+(1:Int)/\(↑(i+1):Int) - (1:Int)+((canon y).length:Int)+(1:Int)<=u.length) (.ex (λ(u_1:List Nat)=>u_1.length=u.length/\0+Int.toNat ((↑(i+1):Int) - (1:Int))+(Int.toNat ((↑(i+1):Int) - (1:Int)+((canon y).length:Int)+(1:Int)) - Int.toNat ((↑(i+1):Int) - (1:Int)))<=u.length/\Int.toNat ((↑(i+1):Int) - (1:Int)+((canon y).length:Int)+(1:Int)) - Int.toNat ((↑(i+1):Int) - (1:Int))<4611686018427387904/\eqG u.length 1 v9 (natG .u32 u_1)/\dig (List.take v1 (List.drop (0+Int.toNat ((↑(i+1):Int) - (1:Int))) u_1))) λn_5=>.all (λ(x:Nat)=>x=val (List.take v1 (List.drop (0+Int.toNat ((↑(i+1):Int) - (1:Int))) n_5))) λn_6=>.ex (q11 [.sl (canon n_6).length 1 v6,.sl (canon n_4).length 1 (zf v11 0)]) λn_7=>.all (λ(r:Int)=>r=cmp3 n_7.1 n_7.2) λn_8=>.D (n_8<0) (.side (inR .u64 (n-1)) (.side (inR .u32 (n-1)) (.ex (λ(u:List Nat)=>u.length=1/\1<=1/\1<4611686018427387904/\eqG 1 1 v14 (natG .u32 u)/\dig (List.take 1 (List.drop 0 u))) λn_9=>.all (λ(x:Nat)=>x=val (List.take 1 (List.drop 0 n_9))) λn_10=>.ex (q11 [.sl (canon V).length 1 (zf v12 0),.sl (canon n_10).length 1 (zf v14 0)]) λn_11=>let v7:=List.length (canon n_11.1)+List.length (canon n_11.2);.all (λ(p:Nat)=>p=n_11.1*n_11.2) λn_12=>.side v2 (.side v5 (.side ((0:Int)<=(↑(i+1):Int) - (1:Int)/\(↑(i+1):Int) - (1:Int)<=(↑(i+1):Int) - (1:Int)+((canon y).length:Int)+(1:Int)/\(↑(i+1):Int) - (1:Int)+((canon y).length:Int)+(1:Int)<=u.length) (.ex (λ(u_1:List Nat)=>u_1.length=u.length/\0+Int.toNat ((↑(i+1):Int) - (1:Int))+(Int.toNat ((↑(i+1):Int) - (1:Int)+((canon y).length:Int)+(1:Int)) - Int.toNat ((↑(i+1):Int) - (1:Int)))<=u.length/\Int.toNat ((↑(i+1):Int) - (1:Int)+((canon y).length:Int)+(1:Int)) - Int.toNat ((↑(i+1):Int) - (1:Int))<4611686018427387904/\eqG u.length 1 v9 (natG .u32 u_1)/\dig (List.take v1 (List.drop (0+Int.toNat ((↑(i+1):Int) - (1:Int))) u_1))) λn_13=>.all (λ(x:Nat)=>x=val (List.take v1 (List.drop (0+Int.toNat ((↑(i+1):Int) - (1:Int))) n_13))) λn_14=>.ex (q12 [.sl (canon n_14).length 1 v6,.sl (canon n_12).length 1 (zf (natG .u32 (padN v7 n_12)) 0)]) λn_15=>.all (λ(d:Nat)=>d=n_15.1 - n_15.2) λn_16=>.side v13 (.leaf (.loop v8.1 v8.2 [Z 0,Z 1,(4,.osl 4 1 0 q.length),(8,.int .u32 s),(9,.i (canon y).length),(10,.osl 1 1 0 u.length),(11,.osl 3 1 0 (canon V).length),(12,.i ((↑(i+1):Int) - (1:Int))),(13,.int .u64 (n-1)),(15,.sl (canon n_16).length 1 (natG .u32 (canon n_16))),(151,.i ((canon y).length+1)),(152,.i 0)] [.dead,.arr u.length 1 v9,.dead,.arr v10 1 v12,.arr q.length 1 v15,.arr 1 1 (ze 1 [.int .u32 n]),.arr v3 1 v11,.arr 1 1 (ze 1 [.int .u32 (n-1)]),.arr v7 1 (natG .u32 (padN v7 n_12))])))))))) (.side v2 (.side v5 (.side ((0:Int)<=(↑(i+1):Int) - (1:Int)/\(↑(i+1):Int) - (1:Int)<=(↑(i+1):Int) - (1:Int)+((canon y).length:Int)+(1:Int)/\(↑(i+1):Int) - (1:Int)+((canon y).length:Int)+(1:Int)<=u.length) (.ex (λ(u_1:List Nat)=>u_1.length=u.length/\0+Int.toNat ((↑(i+1):Int) - (1:Int))+(Int.toNat ((↑(i+1):Int) - (1:Int)+((canon y).length:Int)+(1:Int)) - Int.toNat ((↑(i+1):Int) - (1:Int)))<=u.length/\Int.toNat ((↑(i+1):Int) - (1:Int)+((canon y).length:Int)+(1:Int)) - Int.toNat ((↑(i+1):Int) - (1:Int))<4611686018427387904/\eqG u.length 1 v9 (natG .u32 u_1)/\dig (List.take v1 (List.drop (0+Int.toNat ((↑(i+1):Int) - (1:Int))) u_1))) λn_9=>.all (λ(x:Nat)=>x=val (List.take v1 (List.drop (0+Int.toNat ((↑(i+1):Int) - (1:Int))) n_9))) λn_10=>.ex (q12 [.sl (canon n_10).length 1 v6,.sl (canon n_4).length 1 (zf v11 0)]) λn_11=>.all (λ(d:Nat)=>d=n_11.1 - n_11.2) λn_12=>.side v13 (.leaf (.loop v8.1 v8.2 [Z 0,Z 1,(4,.osl 4 1 0 q.length),(8,.int .u32 s),(9,.i (canon y).length),(10,.osl 1 1 0 u.length),(11,.osl 3 1 0 (canon V).length),(12,.i ((↑(i+1):Int) - (1:Int))),(13,.int .u64 n),(15,.sl (canon n_12).length 1 (natG .u32 (canon n_12))),(151,.i ((canon y).length+1)),(152,.i 0)] [.dead,.arr u.length 1 v9,.dead,.arr v10 1 v12,.arr q.length 1 v15,.arr 1 1 (ze 1 [.int .u32 n]),.arr v3 1 v11])))))))))))))))))))))))))))) (.ex (λ(u_1:List Nat)=>u_1.length=u.length/\0+u.length<=u.length/\u.length<4611686018427387904/\eqG u.length 1 v9 (natG .u32 u_1)/\dig (List.take u.length (List.drop 0 u_1))) λn=>.all (λ(x:Nat)=>x=val (List.take u.length (List.drop 0 n))) λn=>.ex (q13 [.sl (canon n).length 1 (zf v9 0),.int .u32 s]) λn=>.all (λ(r:Nat×Nat)=>r=(n.1/n.2,n.1%n.2)) λn=>.ex (λ(u:List Nat)=>u.length=q.length/\0+q.length<=q.length/\q.length<4611686018427387904/\eqG q.length 1 v15 (natG .u32 u)/\dig (List.take q.length (List.drop 0 u))) λn_1=>.all (λ(x:Nat)=>x=val (List.take q.length (List.drop 0 n_1))) λn_2=>.R [.osl 4 1 0 (canon n_2).length,.sl (canon n.1).length 1 (natG .u32 (canon n.1))] [.dead,.arr u.length 1 v9,.dead,.arr v10 1 v12,.arr q.length 1 v15])) ?_;simp only [q10,q11,q12,q13,Tree.holds,zd,inR,lo,hi];refine⟨λhj=> ?_,λhj=>by simp at hj⟩;have ej:(((i+1:Nat):Int) - 1)=(i:Int):=by omega
 have a1:0+((i:Int)+((canon y).length:Int)).toNat=i+(m+2):=by omega
 have a2:0+((i:Int)+((canon y).length:Int) - 1).toNat=i+(m+1):=by omega
 have a3:0+((i:Int)+((canon y).length:Int) - 2).toNat=i+m:=by omega
 have b1:0+(((canon y).length:Int) - 1).toNat=m+1:=by omega
 have b2:0+(((canon y).length:Int) - 2).toNat=m:=by omega
 have c1:((i:Int)+((canon y).length:Int)+1).toNat - (i:Int).toNat=m+2+1:=by omega
 have c2:0+(i:Int).toNat=i:=by omega
 simp only [ej,a1,a2,a3,b1,b2,c1,c2,zdn];have hu1:=zH hdu (i+(m+2));have hu2:=zH hdu (i+(m+1));have hu3:=zH hdu (i+m);have hv1:=zH (zi V) (m+1);have hv2:=zH (zi V) m
 iterate 17 refine⟨by omega,λ_=> ?_⟩
 obtain⟨W,hW⟩:∃ W,val ((u.drop i).take (m+2+1))=W:=⟨_,rfl⟩;have hdw:dig ((u.drop i).take (m+2+1)):=j3 (ZS hdu _) _
 have hWl:(canon W).length<=m+2+1:=by
  refine zw ?_;have:=qp hdw;rw [hW,aH] at this;exact bB this (bW (by decide) (Nat.min_le_left _ _))
 obtain⟨g1,g2,g3,g4,g5,g6⟩:=ze8 hdu (by omega) hVl hV2 hlt hW rfl;refine⟨⟨u.getD (i+(m+2)) 0,u.getD (i+(m+1)) 0,u.getD (i+m) 0,(canon V).getD (m+1) 0,(canon V).getD m 0⟩,⟨by simp,g3,hu2,hu3,hv1,hv2,g2⟩,⟨_,rfl⟩,?_⟩;intro d hd;simp only at hd;rw [<- hd] at g4 g5 g6;clear hd;have hWVB:W/V<B:=by omega
 have fin:=V3 (x:=x) (y:=y) (s:=s) (V:=V) (U:=U) (O:=O) (w0:=w0) (Q:=Q) (Hs0:=Hs0) hm hx hs0 hsB hV1 hV2 hVl hV0 hul hql hjq hdu hdq heq hlt hW hWVB;have hdm:=Nat.div_add_mod W V;have hmlt:=Nat.mod_lt W hV0;have hul2:i+(m+2+1)<=u.length:=by omega
 have hul3:u.length<100002:=by omega
 clear heq hlt hul hql hjq hdq hx hs0 hsB hV2 g1 g2 g3 hu1 hu2 hu3 hv1 hv2 hj a1 a2 a3 b1 b2;generalize W/V=qd at *
 generalize W%V=rm at *
 refine⟨by omega,λ_=> ?_⟩;refine⟨[d],⟨rfl,by omega,by omega,xF _ _,by simpa [dig] using g6⟩,⟨_,rfl⟩,?_⟩;intro D hD;have hD:D=d:=by simpa [val] using hD
 subst hD;have hdl:=zw (x:=D) (n:=1) (by simpa using g6);refine⟨(V,D),⟨?_,by simp only [fits]; omega,by simp only [fits]; omega⟩,⟨_,rfl⟩,?_⟩
 ·simp only [eqL,eqA,eqA0,true_and,and_true];exact⟨yQ (by omega),wK g6⟩
 intro p hp;simp only at hp ⊢;have hpl:=xQ V D;rw [<- hp] at hpl
 iterate 3 refine⟨by omega,λ_=> ?_⟩
 refine⟨u,⟨rfl,hul2,by omega,za _ _ _,hdw⟩,⟨_,rfl⟩,?_⟩;intro W' hW';have hW':W'=W:=hW'.trans hW;subst hW';refine⟨(W',p),⟨?_,by simp only [fits]; omega,by simp only [fits]; omega⟩,⟨_,rfl⟩,?_⟩
 ·simp only [eqL,eqA,eqA0,true_and,and_true];exact⟨jD hdw hW,yQ hpl⟩
 rintro c rfl;refine⟨λhlt2=> ?_,λhge2=> ?_⟩
 ·have hlt2:W'<p:=by
   simp only [cmp3,aK] at hlt2;rcases aR W' p with h | h
   ·exact h
   ·rw [aO (by omega)] at hlt2; split at hlt2<;>omega
  have hDQ:D=qd+1:=by
   rcases aR qd D with h | h
   ·omega
   ·have:V*D<=V*qd:=aS _ h;omega
  have e3:((D:Int) - 1)=((qd:Nat):Int):=by omega
  simp only [e3];have hQl:=zw (x:=qd) (n:=1) (by simpa using hWVB)
  iterate 2 refine⟨by omega,λ_=> ?_⟩
  refine⟨[qd],⟨rfl,by omega,by omega,xF _ _,by simpa [dig] using hWVB⟩,⟨_,rfl⟩,?_⟩;intro E hE;have hE:E=qd:=by simpa [val] using hE
  subst hE;refine⟨(V,E),⟨?_,by simp only [fits]; omega,by simp only [fits]; omega⟩,⟨_,rfl⟩,?_⟩
  ·simp only [eqL,eqA,eqA0,true_and,and_true];exact⟨yQ (by omega),wK hWVB⟩
  intro p2 hp2;simp only at hp2 ⊢;have hp2l:=xQ V E;rw [<- hp2] at hp2l
  iterate 3 refine⟨by omega,λ_=> ?_⟩
  refine⟨u,⟨rfl,hul2,by omega,za _ _ _,hdw⟩,⟨_,rfl⟩,?_⟩;intro W2 hW2;have hW2:W2=W':=hW2.trans hW;subst hW2;refine⟨(W2,p2),⟨?_,by simp only [fits]; omega,by simp only; omega⟩,⟨_,rfl⟩,?_⟩
  ·simp only [eqL,eqA,eqA0,true_and,and_true];exact⟨jD hdw hW,yQ hp2l⟩
  intro L hL;simp only at hL ⊢;have hL:L=rm:=by omega
  subst hL;refine⟨by omega,λ_=> ?_⟩;refine fin _ _ ⟨by simp [SC,magS,natS,za,hVl],?_,by kernel_rfl,aI _⟩;simp [HD,za]
 ·have hge2:p<=W':=by
   simp only [cmp3,aV] at hge2;rcases aR W' p with h | h
   ·rw [aP h] at hge2; omega
   ·exact h
  have hDQ:D=qd:=by
   rcases aR qd D with h | h
   ·have:V*(qd+1)<=V*D:=aS _ h;rw [bN] at this;omega
   ·omega
  subst hDQ
  iterate 3 refine⟨by omega,λ_=> ?_⟩
  refine⟨u,⟨rfl,hul2,by omega,za _ _ _,hdw⟩,⟨_,rfl⟩,?_⟩;intro W2 hW2;have hW2:W2=W':=hW2.trans hW;subst hW2;refine⟨(W2,p),⟨?_,by simp only [fits]; omega,hge2⟩,⟨_,rfl⟩,?_⟩
  ·simp only [eqL,eqA,eqA0,true_and,and_true];exact⟨jD hdw hW,yQ hpl⟩
  intro L hL;simp only at hL ⊢;have hL:L=rm:=by omega
  subst hL;refine⟨by omega,λ_=> ?_⟩;refine fin _ _ ⟨by simp [SC,magS,natS,za,hVl],?_,by kernel_rfl,aI _⟩;simp [HD,za]
set_option maxHeartbeats 4000000 in
theorem JB:zc prog 114 yJ:=by
 refine ue (fn:=f114) (c:=f114.body.getD .skip) rfl rfl rfl λx y hp O w0 Q hq=> ?_
 replace hq:=hq _ rfl;obtain⟨hx,hy,hy0⟩:=hp;simp only at hq;have hB:B=1000000000:=rfl;refine zb.n G2.h [0,1,4,8,9,10,11,12,13,15,151,152] (let v3:=natG .u32 (canon x);let v2:=Int.toNat ((canon y).length-1);let v1:=Int.tdiv (1000000000:Int) ((↑(List.getD (canon y) v2 0):Int)+(1:Int));.ex (q11 [.sl (canon x).length 1 v3,.sl (canon y).length 1 (natG .u32 (canon y))]) λn=>.all (λ(r:Int)=>r=cmp3 n.1 n.2) λn=>.D (n<0) (.R [.nils,.sl (canon x).length 1 v3] []) (.D (((canon y).length:Int)=1) (.side ((0:Int)<=0/\(0:Int)<((canon y).length:Int)) (.ex (q13 [.sl (canon x).length 1 v3,.int .u32 ↑(List.getD (canon y) 0 0)]) λn=>.all (λ(r:Nat×Nat)=>r=(n.1/n.2,n.1%n.2)) λn=>.ex (λ(u:List Nat)=>u.length=1/\1<=1/\1<4611686018427387904/\eqG 1 1 (ze 1 [.int .u32 n.2]) (natG .u32 u)/\dig (List.take 1 (List.drop 0 u))) λn_1=>.all (λ(x:Nat)=>x=val (List.take 1 (List.drop 0 n_1))) λn_2=>.R [.sl (canon n.1).length 1 (natG .u32 (canon n.1)),.osl 0 1 0 (canon n_2).length] [.arr 1 1 (ze 1 [.int .u32 n.2])])) (.S ((canon y).length-1) (.side ((0:Int)<=((canon y).length:Int) - (1:Int)/\((canon y).length:Int) - (1:Int)<((canon y).length:Int)) (.side (inR .u64 ↑(List.getD (canon y) v2 0)) (.side (inR .u64 ((↑(List.getD (canon y) v2 0):Int)+(1:Int))) (.side ((↑(List.getD (canon y) v2 0):Int)+(1:Int)≠0/\inR .u64 v1) (.side (inR .u32 v1) (.ex (q11 [.sl (canon x).length 1 v3,.sl 1 1 (zf (ze 1 [.int .u32 v1]) 0)]) λn=>let v4:=List.length (canon n.1)+List.length (canon n.2);.all (λ(p:Nat)=>p=n.1*n.2) λn_1=>.leaf (.loop (lps K114 0).1 (lps K114 0).2 [(0,.sl (canon x).length 1 v3),(1,.sl (canon y).length 1 (natG .u32 (canon y))),(4,.nils),(8,.int .u32 v1),(9,.i (canon y).length),(10,.osl 1 1 0 (canon n_1).length),Z 11,Z 12,Z 13,Z 15,Z 151,Z 152] [.arr 1 1 (ze 1 [.int .u32 v1]),.arr v4 1 (natG .u32 (padN v4 n_1))])))))))))) ?_;simp only [q11,q13,Tree.holds,zd,inR,lo,hi];refine⟨(x,y),⟨by simp [za],by simp only [fits]; omega,by simp only [fits]; omega⟩,⟨_,rfl⟩,?_⟩;rintro c rfl;have hyl:0<(canon y).length:=j8 (n:=0) (by simp; omega);refine⟨λhlt=> ?_,λhge=>⟨λh1=>⟨by omega,λ_=> ?_⟩,λhn=> ?_⟩⟩
 ·have hxy:x<y:=by
   simp only [cmp3,aK] at hlt;rcases aR x y with h | h
   ·exact h
   ·rw [aO (by omega)] at hlt; split at hlt<;>omega
  rw [Nat.div_eq_of_lt hxy,Nat.mod_eq_of_lt hxy] at hq;refine RetR.out0 hq (λh=>by cases h) ?_;simp [resV,exp2,exp1,exp0,ren0,eqA2,eqL1,magS,natS,zE,za]
 ·have h1:(canon y).length=1:=by simp at h1; omega
  have hyd:y=(canon y).getD 0 0:=by
   have:=zk y;obtain⟨a,ha⟩:=List.length_eq_one_iff.1 h1;rw [ha] at this ⊢;simp [val] at this ⊢; omega
  have hyB:y<B:=hyd▸zH (zi y) 0;rw [<- hyd];refine⟨(x,y),⟨by simp [za],by simp only [fits]; omega,hy0,hyB⟩,⟨_,rfl⟩,?_⟩;rintro r rfl;have hm:=Nat.mod_lt x hy0;have hmB:x%y<B:=by omega
  refine⟨[x%y],⟨rfl,by omega,by omega,xF _ _,by simpa [dig] using hmB⟩,⟨_,rfl⟩,?_⟩;intro X hX;have hX:X=x%y:=by simpa [val] using hX
  subst hX;refine RetR.out0 hq (λh=>by cases h) ?_;simp only [resV,exp2,List.map_cons,List.map_nil,exp1,exp0,ren0,zz,frz1,wi,List.getElem?_cons_zero,if_true,eqA2,eqL1,eqA,eqA0,magS,natS,true_and,and_true];exact⟨za _ _ _,wK hmB⟩
 ·have hn:2<=(canon y).length:=by simp at hn; omega
  obtain⟨m,hm⟩:∃ m,(canon y).length=m+2:=⟨(canon y).length - 2,by omega⟩;have e1:((((canon y).length:Nat):Int) - 1).toNat=m+1:=by omega
  have hty:=zH (zi y) (m+1)
  have htop:(canon y).getD (m+1) 0≠0:=by
   have:=q7 (canon y) (by rw [jb]; omega);rw [jb,hm] at this;exact this
  have hyv:∃ r,r<B^(m+1)/\y=r+B^(m+1)*(canon y).getD (m+1) 0:=by
   refine⟨val ((canon y).take (m+1)),?_,?_⟩
   ·have:=qp (j3 (zi y) (m+1))
    rwa [aH,Nat.min_eq_left (by omega)] at this
   ·have:=zp (canon y) (m+1)
    rwa [bF (by omega),zk] at this
  rw [e1];generalize (canon y).getD (m+1) 0=t at hty htop hyv ⊢
  have e2:Int.tdiv 1000000000 ((t:Int)+1)=((B/(t+1):Nat):Int):=by
   have:((t:Int)+1)=((t+1:Nat):Int):=by omega
   rw [this]; rfl
  rw [e2];obtain⟨s,hs⟩:∃ s,B/(t+1)=s:=⟨_,rfl⟩;obtain⟨hs0,hs1,hs2⟩:=zbo (by omega) hs.symm hty;rw [hs]
  have hsB:s<B:=by
   have:s*2<=s*(t+1):=aS _ (by omega);omega
  obtain⟨r0,hr0,hyr⟩:=hyv;obtain⟨hV1,hV2⟩:=scaled hr0 hyr hs0 hs1 hs2;refine⟨by omega,λ_=>⟨by omega,λ_=>⟨by omega,λ_=>⟨by omega,λ_=>⟨by omega,λ_=>⟨by omega,λ_=> ?_⟩⟩⟩⟩⟩⟩;have hsl:=Jb hs0 hsB;refine⟨(x,s),⟨?_,by simp only [fits]; omega,by simp only [fits]; omega⟩,⟨_,rfl⟩,?_⟩
  ·simp only [eqL,eqA,eqA0,true_and,and_true];refine⟨za _ _ _,hsl.symm,?_⟩;have:=wK hsB
   rwa [hsl] at this
  intro U hU;simp only at hU ⊢;rw [hsl]
  have hxs:U<B^((canon x).length+1):=by
   have h1:=qp (zi x);rw [zk] at h1;rw [hU,Nat.pow_succ];exact Nat.mul_lt_mul'' h1 hsB
  have hUl:=zw hxs
  have hcan:(canon x).length+1≥m+2:=by
   rcases aR (canon x).length (m+1) with h | h
   ·exfalso;have:=zU (x:=x) (y:=y) (by omega);simp [cmp3,this] at hge
   ·omega
  have hylx:(canon y).length<=(canon x).length:=by
   rcases aR (canon x).length (canon y).length with h | h
   ·exfalso;have:=zU h;simp [cmp3,this] at hge
   ·exact h
  refine zb.loop (ι:=IG x U) (λi=>SG x y s i.k) (λi=>[.dead,.arr i.o.length 1 (natG .u32 i.o)]) (λi=>(canon x).length+1 - i.k)
   ⟨(canon U).length,padN ((canon x).length+1) U,by rw [Wr hUl]; exact hUl,by rw [Wr hUl]; omega,j3 (zfy _ _) _,by simp [padN,zk]⟩ 0 ?_ ?_ (by kernel_rfl)
  ·exact⟨by simp [SG,magS,natS,za],by simp [za,Wr hUl],by kernel_rfl,aI _⟩
  ·rintro⟨k,o,hko,hol,hdo,hvo⟩;refine zb.n G2.h [0,1,4,8,9,10,11,12,13,15,151,152] (let v4:=natG .u32 (canon y);let v2:=inR .i64 (k-(canon y).length);let v1:=Int.toNat (k-(canon y).length);.D ((k:Int)<=((canon x).length:Int)) (.side (0=0/\k<=o.length/\(k+1)*4<=140737488355328) (.leaf (.back 0 [(0,.sl (canon x).length 1 (natG .u32 (canon x))),(1,.sl (canon y).length 1 v4),(4,.nils),(8,.int .u32 s),(9,.i (canon y).length),(10,.osl 1 1 0 (k+1)),Z 11,Z 12,Z 13,Z 15,Z 151,Z 152] [.dead,.arr (k+1) 1 (appG k (natG .u32 o) (zf (ze 1 [.int .u32 0]) 0)),.arr 1 1 (ze 1 [.int .u32 0])]))) (.ex (q11 [.sl (canon y).length 1 v4,.sl 1 1 (zf (ze 1 [.int .u32 s]) 0)]) λn=>let v3:=List.length (canon n.1)+List.length (canon n.2);.all (λ(p:Nat)=>p=n.1*n.2) λn_1=>.side v2 (.side ((0:Int)<=k - ((canon y).length:Int)/\(k:Int) - ((canon y).length:Int)<=k - ((canon y).length:Int)/\inR .i64 (k-(canon y).length)/\Int.toNat (k-(canon y).length)*4<=140737488355328) (.side v2 (.S (k-(canon y).length-1) (.leaf (.loop (lps (inside K114 0) 0).1 (lps (inside K114 0) 0).2 [(0,.sl (canon x).length 1 (natG .u32 (canon x))),(1,.sl (canon y).length 1 v4),(4,.osl 4 1 0 v1),(8,.int .u32 s),(9,.i (canon y).length),(10,.osl 1 1 0 k),(11,.osl 3 1 0 (canon n_1).length),(12,.i (k-(canon y).length-1)),Z 13,Z 15,Z 151,Z 152] [.dead,.arr o.length 1 (natG .u32 o),.arr 1 1 (ze 1 [.int .u32 s]),.arr v3 1 (natG .u32 (padN v3 n_1)),.arr v1 1 (wO [.int .u32 0])]))))))) ?_;simp only [q11,Tree.holds,zd,inR,lo,hi];refine⟨λhk=> ?_,λhk=> ?_⟩
   ·have hk:k<=(canon x).length:=by simp at hk; omega
    refine⟨⟨trivial,hko,by omega⟩,λ_=> ?_⟩;rw [aP trivial];have hkl:(o.take k).length=k:=by rw [aH]; omega
    refine⟨⟨k+1,o.take k++[0],by simp [hkl],by simp [hkl]; omega,?_,?_⟩,by show _ - (k+1)<_ - k; omega,by simp [SG,magS,natS,za],?_,by kernel_rfl,aI _⟩
    ·rw [bF (by simp [hkl])]; exact jf.2 ⟨hdo,by simp [dig]⟩
    ·rw [bF (by simp [hkl]),zD]; simp [val,hvo]
    ·refine⟨trivial,⟨by simp [hkl],rfl,?_⟩,trivial⟩;intro j o' hj ho';have:o'=0:=by omega
     subst this;simp only [appG,zf,ze,natG];by_cases h:j<k
     ·rw [aP h];simp only [List.getD];rw [bL (by omega),bR,aP h]
     ·have:j=k:=by omega
      subst this;rw [aO h];simp [List.getElem?_append_right,hkl]
   ·have hk:k=(canon x).length+1:=by simp at hk; omega
    have hok:o.length=(canon x).length+1:=by omega
    rw [bF (by omega)] at hdo hvo;refine⟨(y,s),⟨?_,by simp only [fits]; omega,by simp only [fits]; omega⟩,⟨_,rfl⟩,?_⟩
    ·simp only [eqL,eqA,eqA0,true_and,and_true];refine⟨za _ _ _,hsl.symm,?_⟩;have:=wK hsB
     rwa [hsl] at this
    intro V hV;simp only at hV ⊢;rw [hsl];rw [<- hV] at hV1 hV2
    have hVl:(canon V).length=m+2:=by
     have h1:=zw hV1
     have h2:B^(m+1)<=V:=by
      have:B^(m+1+1)=B^(m+1)*B:=Nat.pow_succ ..;rw [this] at hV2;have:B^(m+1)*2<=B^(m+1)*B:=aS _ (by decide);omega
     have:=j8 h2;omega
    have hV0:0<V:=by
     rcases bC V with h | h
     ·rw [h,zE] at hVl; simp at hVl
     ·exact h
    have eq0:((k:Int) - ((canon y).length:Int)).toNat=k - (canon y).length:=by omega
    rw [eq0];refine⟨by omega,λ_=>⟨by omega,λ_=>⟨by omega,λ_=>⟨by omega,λ_=> ?_⟩⟩⟩⟩
    have hqe:U/V=x/y/\U%V=x%y*s:=by
     rw [hU,hV];exact⟨Nat.mul_div_mul_right _ _ hs0,Nat.mul_mod_mul_right _ _ _⟩
    refine zb.loop (ι:=ID x y V U) (λi=>SD y s V i.u.length i.q.length i.j) (λi=>HD y V i.u i.q) (λi=>i.j)
     ⟨o,List.replicate (k - (canon y).length) 0,k - (canon y).length,hok,by simp; omega,by simp,hdo,qQ _,by simp [val,hvo],?_⟩ 0 ?_ ?_ (by kernel_rfl)
    ·rw [hvo]
     have h1:U*2<=x*B:=by
      rw [hU,bI];refine aS _ ?_;have:s*2<=s*(t+1):=aS _ (by omega);omega
     have h2:x<B^(canon x).length:=by have:=qp (zi x); rwa [zk] at this
     have h3:B^(m+1+1)*B^(k - (canon y).length)<=2*V*B^(k - (canon y).length):=aT _ hV2;rw [<- Nat.pow_add,show m+1+1+(k - (canon y).length)=(canon x).length+1 by omega,Nat.pow_succ] at h3;have h4:x*B<B^(canon x).length*B:=Nat.mul_lt_mul_of_pos_right h2 (by decide);rw [bI] at h3;omega
    ·refine⟨?_,?_,by kernel_rfl,aI _⟩
     ·simp [SD,hVl,hm,hok,hk,za]; omega
     ·simp [HD,za,uG]
    ·rintro⟨u,q,j,hul,hql,hjq,hdu,hdq,heq,hlt⟩;rcases j with _ | i
     ·refine zb.n G2.h [0,1,4,8,9,10,11,12,13,15,151,152] (let v14:=natG .u32 q;let v12:=inR .i64 ((canon y).length+1);let v9:=List.length (canon y)+1;let v8:=lps (inside (inside K114 0) 0) 0;let v7:=natG .u32 u;let v5:=inR .i64 ((-1:Int)+((canon y).length:Int)+(1:Int));let v4:=inR .i64 ((-1:Int)+((canon y).length:Int));let v3:=padN v9 V;let v11:=natG .u32 v3;let v1:=Int.toNat ((-1:Int)+((canon y).length:Int)+(1:Int)) - 0;.ite false (.side v4 (.side ((0:Int)<=(-1:Int)+((canon y).length:Int)/\(-1:Int)+((canon y).length:Int)<u.length) (.side (inR .u64 ↑(u.getD (0+Int.toNat ((-1:Int)+((canon y).length:Int))) 0)) (.side v4 (.S ((-1:Int)+((canon y).length:Int) - (1:Int)) (.side ((0:Int)<=(-1:Int)+((canon y).length:Int) - (1:Int)/\(-1:Int)+((canon y).length:Int) - (1:Int)<u.length) (.side (inR .u64 ↑(u.getD (0+Int.toNat ((-1:Int)+((canon y).length:Int) - (1:Int))) 0)) (.side v4 (.S ((-1:Int)+((canon y).length:Int) - (2:Int)) (.side ((0:Int)<=(-1:Int)+((canon y).length:Int) - (2:Int)/\(-1:Int)+((canon y).length:Int) - (2:Int)<u.length) (.side (inR .u64 ↑(u.getD (0+Int.toNat ((-1:Int)+((canon y).length:Int) - (2:Int))) 0)) (.S ((canon y).length-1) (.side ((0:Int)<=((canon y).length:Int) - (1:Int)/\((canon y).length:Int) - (1:Int)<((canon V).length:Int)) (.side (inR .u64 ↑(List.getD v3 (0+Int.toNat ((canon y).length-1)) 0)) (.S ((canon y).length-2) (.side ((0:Int)<=((canon y).length:Int) - (2:Int)/\((canon y).length:Int) - (2:Int)<((canon V).length:Int)) (.side (inR .u64 ↑(List.getD v3 (0+Int.toNat ((canon y).length-2)) 0)) (.ex (q10 [.int .u64 ↑(u.getD (0+Int.toNat ((-1:Int)+((canon y).length:Int))) 0),.int .u64 ↑(u.getD (0+Int.toNat ((-1:Int)+((canon y).length:Int) - (1:Int))) 0),.int .u64 ↑(u.getD (0+Int.toNat ((-1:Int)+((canon y).length:Int) - (2:Int))) 0),.int .u64 ↑(List.getD v3 (0+Int.toNat ((canon y).length-1)) 0),.int .u64 ↑(List.getD v3 (0+Int.toNat ((canon y).length-2)) 0)]) λn=>.all (λ(n_1:Nat)=>n_1=qT n.v n.y n.z 2 ((D5.t n*1000000000+D5.u n)/D5.y n) ((D5.t n*1000000000+D5.u n)%D5.y n)) λn=>let v13:=ze 1 [.int .u32 (n-1)];.side (inR .u32 n) (.ex (λ(u:List Nat)=>u.length=1/\1<=1/\1<4611686018427387904/\eqG 1 1 (ze 1 [.int .u32 n]) (natG .u32 u)/\dig (List.take 1 (List.drop 0 u))) λn_1=>.all (λ(x:Nat)=>x=val (List.take 1 (List.drop 0 n_1))) λn_2=>.ex (q11 [.sl (canon V).length 1 (zf v11 0),.sl (canon n_2).length 1 (zf (ze 1 [.int .u32 n]) 0)]) λn_3=>let v2:=List.length (canon n_3.1)+List.length (canon n_3.2);.all (λ(p:Nat)=>p=n_3.1*n_3.2) λn_4=>let v10:=natG .u32 (padN v2 n_4);.side v4 (.side v5 (.side ((0:Int)<=(-1:Int)/\(-1:Int)<=(-1:Int)+((canon y).length:Int)+(1:Int)/\(-1:Int)+((canon y).length:Int)+(1:Int)<=u.length) (.ex (λ(u_1:List Nat)=>u_1.length=u.length/\0+(Int.toNat ((-1:Int)+((canon y).length:Int)+(1:Int)) - 0)<=u.length/\Int.toNat ((-1:Int)+((canon y).length:Int)+(1:Int)) - 0<4611686018427387904/\eqG u.length 1 v7 (natG .u32 u_1)/\dig (List.take v1 (List.drop 0 u_1))) λn_5=>.all (λ(x:Nat)=>x=val (List.take v1 (List.drop 0 n_5))) λn_6=>.ex (q11 [.sl (canon n_6).length 1 (zf v7 0),.sl (canon n_4).length 1 (zf v10 0)]) λn_7=>.all (λ(r:Int)=>r=cmp3 n_7.1 n_7.2) λn_8=>.D (n_8<0) (.side (inR .u64 (n-1)) (.side (inR .u32 (n-1)) (.ex (λ(u:List Nat)=>u.length=1/\1<=1/\1<4611686018427387904/\eqG 1 1 v13 (natG .u32 u)/\dig (List.take 1 (List.drop 0 u))) λn_9=>.all (λ(x:Nat)=>x=val (List.take 1 (List.drop 0 n_9))) λn_10=>.ex (q11 [.sl (canon V).length 1 (zf v11 0),.sl (canon n_10).length 1 (zf v13 0)]) λn_11=>let v6:=List.length (canon n_11.1)+List.length (canon n_11.2);.all (λ(p:Nat)=>p=n_11.1*n_11.2) λn_12=>.side v4 (.side v5 (.side ((0:Int)<=(-1:Int)/\(-1:Int)<=(-1:Int)+((canon y).length:Int)+(1:Int)/\(-1:Int)+((canon y).length:Int)+(1:Int)<=u.length) (.ex (λ(u_1:List Nat)=>u_1.length=u.length/\0+(Int.toNat ((-1:Int)+((canon y).length:Int)+(1:Int)) - 0)<=u.length/\Int.toNat ((-1:Int)+((canon y).length:Int)+(1:Int)) - 0<4611686018427387904/\eqG u.length 1 v7 (natG .u32 u_1)/\dig (List.take v1 (List.drop 0 u_1))) λn_13=>.all (λ(x:Nat)=>x=val (List.take v1 (List.drop 0 n_13))) λn_14=>.ex (q12 [.sl (canon n_14).length 1 (zf v7 0),.sl (canon n_12).length 1 (zf (natG .u32 (padN v6 n_12)) 0)]) λn_15=>.all (λ(d:Nat)=>d=n_15.1 - n_15.2) λn_16=>.side v12 (.leaf (.loop v8.1 v8.2 [Z 0,Z 1,(4,.osl 4 1 0 q.length),(8,.int .u32 s),(9,.i (canon y).length),(10,.osl 1 1 0 u.length),(11,.osl 3 1 0 (canon V).length),(12,.i (-1:Int)),(13,.int .u64 (n-1)),(15,.sl (canon n_16).length 1 (natG .u32 (canon n_16))),(151,.i ((canon y).length+1)),(152,.i 0)] [.dead,.arr u.length 1 v7,.dead,.arr v9 1 v11,.arr q.length 1 v14,.arr 1 1 (ze 1 [.int .u32 n]),.arr v2 1 v10,.arr 1 1 (ze 1 [.int .u32 (n-1)]),.arr v6 1 (natG .u32 (padN v6 n_12))])))))))) (.side v4 (.side v5 (.side ((0:Int)<=(-1:Int)/\(-1:Int)<=(-1:Int)+((canon y).length:Int)+(1:Int)/\(-1:Int)+((canon y).length:Int)+(1:Int)<=u.length) (.ex (λ(u_1:List Nat)=>u_1.length=u.length/\0+(Int.toNat ((-1:Int)+((canon y).length:Int)+(1:Int)) - 0)<=u.length/\Int.toNat ((-1:Int)+((canon y).length:Int)+(1:Int)) - 0<4611686018427387904/\eqG u.length 1 v7 (natG .u32 u_1)/\dig (List.take v1 (List.drop 0 u_1))) λn_9=>.all (λ(x:Nat)=>x=val (List.take v1 (List.drop 0 n_9))) λn_10=>.ex (q12 [.sl (canon n_10).length 1 (zf v7 0),.sl (canon n_4).length 1 (zf v10 0)]) λn_11=>.all (λ(d:Nat)=>d=n_11.1 - n_11.2) λn_12=>.side v12 (.leaf (.loop v8.1 v8.2 [Z 0,Z 1,(4,.osl 4 1 0 q.length),(8,.int .u32 s),(9,.i (canon y).length),(10,.osl 1 1 0 u.length),(11,.osl 3 1 0 (canon V).length),(12,.i (-1:Int)),(13,.int .u64 n),(15,.sl (canon n_12).length 1 (natG .u32 (canon n_12))),(151,.i ((canon y).length+1)),(152,.i 0)] [.dead,.arr u.length 1 v7,.dead,.arr v9 1 v11,.arr q.length 1 v14,.arr 1 1 (ze 1 [.int .u32 n]),.arr v2 1 v10])))))))))))))))))))))))))))) (.ex (λ(u_1:List Nat)=>u_1.length=u.length/\0+u.length<=u.length/\u.length<4611686018427387904/\eqG u.length 1 v7 (natG .u32 u_1)/\dig (List.take u.length (List.drop 0 u_1))) λn=>.all (λ(x:Nat)=>x=val (List.take u.length (List.drop 0 n))) λn=>.ex (q13 [.sl (canon n).length 1 (zf v7 0),.int .u32 s]) λn=>.all (λ(r:Nat×Nat)=>r=(n.1/n.2,n.1%n.2)) λn=>.ex (λ(u:List Nat)=>u.length=q.length/\0+q.length<=q.length/\q.length<4611686018427387904/\eqG q.length 1 v14 (natG .u32 u)/\dig (List.take q.length (List.drop 0 u))) λn_1=>.all (λ(x:Nat)=>x=val (List.take q.length (List.drop 0 n_1))) λn_2=>.R [.osl 4 1 0 (canon n_2).length,.sl (canon n.1).length 1 (natG .u32 (canon n.1))] [.dead,.arr u.length 1 v7,.dead,.arr v9 1 v11,.arr q.length 1 v14])) ?_;simp only [q10,q11,q12,q13,Tree.holds,zd,inR,lo,hi];refine⟨λhj=>by simp at hj,λhj=> ?_⟩;simp only [List.drop_zero,Nat.pow_zero,Nat.mul_one] at heq hlt
      have hdiv:U/V=val q/\U%V=val u:=by
       rw [heq];exact⟨by rw [Nat.mul_add_div hV0,Nat.div_eq_of_lt hlt,Nat.add_zero],by rw [Nat.mul_add_mod,Nat.mod_eq_of_lt hlt]⟩
      have hqv:val q=x/y:=by rw [<- hdiv.1,hqe.1]
      have huv:val u=x%y*s:=by rw [<- hdiv.2,hqe.2]
      refine⟨u,⟨rfl,by omega,by omega,za _ _ _,by simpa using hdu⟩,⟨_,rfl⟩,?_⟩;intro X hX;have hX:X=x%y*s:=by simpa [huv] using hX
      have hw:val ((u.drop 0).take u.length)=X:=by simp [huv,hX]
      have hXl:=jD (k:=.u32) (u:=u) (off:=0) (n:=u.length) (by simpa using hdu) hw;have hmy:=Nat.mod_lt x hy0
      have hXlen:(canon X).length<=u.length:=by
       refine zw ?_;rw [hX,<- huv]; exact qp hdu
      refine⟨(X,s),⟨?_,by simp only [fits]; omega,hs0,hsB⟩,⟨_,rfl⟩,?_⟩
      ·simp only [eqL,eqA,eqA0,true_and,and_true];exact hXl
      rintro r rfl;have hXs:X/s=x%y:=by rw [hX]; exact Nat.mul_div_cancel _ hs0
      simp only [hXs];refine⟨q,⟨rfl,by omega,by omega,za _ _ _,by simpa using hdq⟩,⟨_,rfl⟩,?_⟩;intro Y hY;have hY:Y=x/y:=by simpa [hqv] using hY
      subst hY;refine RetR.out0 hq (λh=>by cases h) ?_;have hw2:val ((q.drop 0).take q.length)=x/y:=by simp [hqv]
      simp only [resV,exp2,List.map_cons,List.map_nil,exp1,exp0,ren0,zz,frz1,wi,List.getElem?_cons_zero,List.getElem?_cons_succ,if_true,eqA2,eqL1,eqA,eqA0,magS,natS,true_and,and_true];exact⟨jD (by simpa using hdq) hw2,za _ _ _⟩
     ·exact W7 hm hx hs0 hsB hV1 hV2 hVl hV0 hul hql hjq hdu hdq heq hlt
noncomputable def K140:=Go.Sx.aA f140
def Up:Ctr:=ctrT false false (λs:L8=>[.str s]) (λ_=>[]) (λ_=>True) (λ_ (_:Unit)=>True) (λs _=>(.fn 170 [] [.ptr 0 0],[.box [.str s]]))
theorem UT:zc prog 160 Up:=by
 refine zC (fn:=f160) (c:=f160.body.getD .skip) rfl rfl rfl (λh=>by cases h) λs hp O w0 I0 Q hl hq=> ?_
 have h0:I0=[]:=aU.1 (by simpa using hl);subst h0;refine zb.n z6 [0] (.R [.fn 170 [] [.ptr 0 0]] [.box [.str s]]) ?_;simp only [Tree.holds,zd];exact RetR.out1 0 (by simp) (hq () trivial) (λh=>by cases h) (by simp [resV,exp2,exp1,exp0,zz,ren0,eqA2]) (by simp [expB,exp1,exp0,ren0])
noncomputable def G3:=tb UT (tb Ws tz)
def KR:KV:=[(2,.ptr 0 0),(3,.ptr 1 0),Z 5,Z 6,(16,.fn 170 [] [.ptr 2 0]),Z 17,Z 19,Z 20]
def HR(neg:Bool)(b:L8):List Nat->Heap
 | []=>[.box [.bool false,.nils],.box [.bool neg,.nils],.box [.str b]]
 | d::o=>[.box [.bool false,.nils],.box [.bool neg,.osl 4 1 0 (o.length+1)],.box [.str b],.arr 1 1 (natG .u32 [d]),.arr (o.length+1) 1 (natG .u32 (d::o))]
theorem XR(s:ByteArray):∀ e,e<=s.size->val ((chunks s e).map decB)=numD (s.data.toList.take e):=by
 intro e
 induction e using Nat.strongRecOn with
 | _ e ih=>
  intro he;rcases bC e with h | h
  ·subst h; simp [vM,val,numD]
  ·rw [vH s h,List.map_cons,val,ih (e - 9) (by omega) (by omega)];have hl:s.data.toList.length=s.size:=by rw [Array.length_toList]; rfl
   have h1:s.data.toList.take e=s.data.toList.take (e - 9)++(s.data.toList.take e).drop (e - 9):=by
    conv=>lhs; rw [<- bU (e - 9) (s.data.toList.take e)]
    rw [List.take_take,Nat.min_eq_left (by omega)]
   rw [h1,vL,decB,yR,Nat.add_comm,bJ];congr 1;rcases aR e 9 with h9 | h9
   ·rw [show e - 9=0 by omega]; simp [numD]
   ·congr 1;have:((s.data.toList.take e).drop (e - 9)).length=9:=by simp; omega
    rw [this]
theorem Yt(s:ByteArray)(hd:allD s.data.toList):∀ e,e<=s.size->∀ x∈chunks s e,x.size<=9/\allD x.data.toList:=by
 intro e
 induction e using Nat.strongRecOn with
 | _ e ih=>
  intro he x hx;rcases bC e with h | h
  ·subst h; simp [vM] at hx
  ·rw [vH s h] at hx;rcases aM.1 hx with rfl | hx
   ·refine⟨by rw [ByteArray.size_extract]; omega,?_⟩;rw [yR];intro c hc;exact hd c (List.mem_of_mem_take (List.mem_of_mem_drop hc))
   ·exact ih (e - 9) (by omega) (by omega) x hx
theorem Qu(s:ByteArray):∀ e,(chunks s e).length<=e:=by
 intro e
 induction e using Nat.strongRecOn with
 | _ e ih=>
  rcases bC e with h | h
  ·subst h; simp [vM]
  ·rw [vH s h,aL];have:=ih (e - 9) (by omega);omega
abbrev Grp:Type:={x:ByteArray // x.size<=9/\allD x.data.toList}
def zbf:Ctr:=ctrP false (λp:Bool×L8=>[.str (sgn p.1 p.2)]) (λp=>allD p.2/\p.2≠[]/\p.2.length<=1000000) (λp r=>r=numD p.2) (λp r=>(.agg [.bool p.1,magS r],[]))
def SR(x:L8)(v i:Nat):KV:=[(2,.ptr 0 0),(3,.ptr 1 0),(5,.str x),(6,.int .u32 (v:Int)),Z 16,Z 17,(19,.i (x.length:Int)),(20,.i (i:Int))]
theorem UZ{O:Nat->Prop}{W:World}{E1:List SE}(l:Nat)(neg:Bool)(b:L8)(o:List Nat)(ho:o.length<=1000000)(y:L8)(hxd:allD y)(hx9:y.length<=9)(X:Prop)(Hx:Heap) :
  xc (some l) prog (bare f140) O 3 W E1 (λd kv' h'=>LeK 3 f140.ntmps [] h' [] (HR neg b (o++[numD y]))) (λ_ h'=>X/\LeK 3 f140.ntmps [] h' [] Hx) (.code (.loop (lps (roundOf K140 0) 0).1)::(lps (roundOf K140 0) 0).2)
   (mk f140.ntmps [(2,.ptr 0 0),(3,.ptr 1 0),(5,.str y),(6,.int .u32 0),(16,.fn 170 [] [.ptr 2 0]),(17,.str y),(19,.i (y.length:Int)),(20,.i 0)] (HR neg b o)):=by
 refine zb.loop (ι:={i:Nat // i<=y.length}) (λi=>SR y (numD (y.take i.1)) i.1) (λ_=>HR neg b o) (λi=>y.length - i.1) ⟨0,aI _⟩ 1 ?_ ?_ (by kernel_rfl)
 ·refine⟨by simp [SR,numD],?_,?_,?_⟩
  ·cases o<;>simp [HR,za]
  ·cases o<;>kernel_rfl
  ·cases o<;>simp [HR]
 ·rintro⟨i,hil⟩
  have hbound:numD (y.take i)<1000000000:=by
   have h1:=y9 (l:=y.take i) λc hc=>hxd c (List.mem_of_mem_take hc)
   have h2:10^(y.take i).length<=10^9:=bW (by decide) (by rw [aH]; omega);have h4:(10:Nat)^9=1000000000:=by decide
   omega
  have hnext:∀ h:i<y.length,numD (y.take (i+1))=numD (y.take i)*10+((y.getD i 0).toNat - 48):=by
   intro h; rw [X9 y i h,zai]
  have hdig:i<y.length->48<=(y.getD i 0).toNat/\(y.getD i 0).toNat<=57:=by
   intro h;have:=hxd (y.getD i 0) (by simp [List.getD,h]);exact this
  have hnb:i<y.length->numD (y.take (i+1))<1000000000:=by
   intro h;have h1:=y9 (l:=y.take (i+1)) λc hc=>hxd c (List.mem_of_mem_take hc)
   have h2:10^(y.take (i+1)).length<=10^9:=bW (by decide) (by rw [aH]; omega);have h4:(10:Nat)^9=1000000000:=by decide
   omega
  obtain⟨v,hv⟩:∃ v,numD (y.take i)=v:=⟨_,rfl⟩;simp only [hv] at hbound hnext ⊢;have ei:((i:Int)+1)=((i+1:Nat):Int):=by omega
  cases o with
  | nil=>
   refine zb.n G3.h [2,3,5,6,16,17,19,20] (let v1:=y.getD (i:Int).toNat (0:UInt8);.D ((i:Int)<y.length) (.side (inR .u32 (v*10)) (.side ((0:Int)<=i/\(i:Int)<y.length) (.side (inR .u8 ((↑(UInt8.toNat v1):Int) - (48:Int))) (.side (inR .u32 ((↑(UInt8.toNat v1):Int) - (48:Int))) (.side (inR .u32 ((v:Int)*(10:Int)+((↑(UInt8.toNat v1):Int) - (48:Int)))) (.S (i+1) (.leaf (.back 1 [(2,.ptr 0 0),(3,.ptr 1 0),(5,.str y),(6,.int .u32 ((v:Int)*(10:Int)+((↑(UInt8.toNat v1):Int) - (48:Int)))),Z 16,Z 17,(19,.i y.length),(20,.i (i+1))] [.box [.bool false,.nils],.box [.bool neg,.nils],.box [.str b]])))))))) (.side (4<=140737488355328) (.leaf (.back 0 [(2,.ptr 0 0),(3,.ptr 1 0),(5,.str y),(6,.int .u32 v),Z 16,Z 17,(19,.i y.length),(20,.i i)] [.box [.bool false,.nils],.box [.bool neg,.osl 4 1 0 1],.box [.str b],.arr 1 1 (ze 1 [.int .u32 v]),.arr 1 1 (zf (ze 1 [.int .u32 v]) 0)])))) ?_;simp only [Tree.holds,zd,inR,lo,hi,aD,ei];refine⟨λhlt=> ?_,λhge=> ?_⟩
   ·have hlt:i<y.length:=by simp at hlt; omega
    have h1:=hdig hlt;have h2:=hnb hlt;have h3:=hnext hlt;generalize (y.getD i 0).toNat=c at h1 h3 ⊢
    iterate 6 refine⟨by omega,λ_=> ?_⟩
    rw [aP trivial];refine⟨⟨i+1,hlt⟩,by show y.length - (i+1)<y.length - i; omega,?_,by simp [HR],by kernel_rfl,by simp [HR]⟩;simp [SR,h3]; omega
   ·have hge:i=y.length:=by simp at hge; omega
    subst hge;rw [bD] at hv;refine⟨by omega,λ_=> ?_⟩;rw [aO (by decide),hv];refine⟨by simp,?_,by kernel_rfl,by simp [HR]⟩;simp only [List.nil_append,HR];refine⟨by simp,by simp,by simp,⟨rfl,rfl,xF _ _⟩,⟨rfl,rfl,?_⟩,trivial⟩;exactλj o hj ho=>by simpa [zf] using xF .u32 v j o hj ho
  | cons d o=>
   refine zb.n G3.h [2,3,5,6,16,17,19,20] (let v1:=y.getD (i:Int).toNat (0:UInt8);.D ((i:Int)<y.length) (.side (inR .u32 (v*10)) (.side ((0:Int)<=i/\(i:Int)<y.length) (.side (inR .u8 ((↑(UInt8.toNat v1):Int) - (48:Int))) (.side (inR .u32 ((↑(UInt8.toNat v1):Int) - (48:Int))) (.side (inR .u32 ((v:Int)*(10:Int)+((↑(UInt8.toNat v1):Int) - (48:Int)))) (.S (i+1) (.leaf (.back 1 [(2,.ptr 0 0),(3,.ptr 1 0),(5,.str y),(6,.int .u32 ((v:Int)*(10:Int)+((↑(UInt8.toNat v1):Int) - (48:Int)))),Z 16,Z 17,(19,.i y.length),(20,.i (i+1))] [.box [.bool false,.nils],.box [.bool neg,.osl 4 1 0 (o.length+1)],.box [.str b],.arr 1 1 (natG .u32 [d]),.arr (o.length+1) 1 (natG .u32 (d::o))])))))))) (.side (0=0/\o.length+1<=o.length+1/\(o.length+1+1)*4<=140737488355328) (.leaf (.back 0 [(2,.ptr 0 0),(3,.ptr 1 0),(5,.str y),(6,.int .u32 v),Z 16,Z 17,(19,.i y.length),(20,.i i)] [.box [.bool false,.nils],.box [.bool neg,.osl 4 1 0 (o.length+1+1)],.box [.str b],.arr 1 1 (natG .u32 [d]),.arr (o.length+1+1) 1 (appG (o.length+1) (natG .u32 (d::o)) (zf (ze 1 [.int .u32 v]) 0)),.arr 1 1 (ze 1 [.int .u32 v])])))) ?_;simp only [Tree.holds,zd,inR,lo,hi,aD,ei];refine⟨λhlt=> ?_,λhge=> ?_⟩
   ·have hlt:i<y.length:=by simp at hlt; omega
    have h1:=hdig hlt;have h2:=hnb hlt;have h3:=hnext hlt;generalize (y.getD i 0).toNat=c at h1 h3 ⊢
    iterate 6 refine⟨by omega,λ_=> ?_⟩
    rw [aP trivial];refine⟨⟨i+1,hlt⟩,by show y.length - (i+1)<y.length - i; omega,?_,by simp [HR,za],by kernel_rfl,by simp [HR]⟩;simp [SR,h3]; omega
   ·have hge:i=y.length:=by simp at hge; omega
    subst hge;rw [bD] at hv;refine⟨⟨trivial,aJ _,by simp only [aL] at ho; omega⟩,λ_=> ?_⟩;rw [aO (by decide),hv];refine⟨by simp,?_,by kernel_rfl,by simp [HR]⟩;simp only [List.cons_append,HR];refine⟨by simp,by simp,by simp,⟨rfl,rfl,za _ _ _⟩,⟨by simp,rfl,?_⟩,trivial⟩;have:=y8 (k:=.u32) (l:=d::o) (v:=((v:Nat):Int)) (by omega);simpa using this
theorem Yk{O:Nat->Prop}{W:World}{E1:List SE}(l:Nat)(neg:Bool)(b:L8)(o:List Nat)(ho:o.length<=1000000)(x:Grp)(X:Prop)(Hx:Heap) :
  xc (some l) prog (bare f140) O 3 W E1 (λd kv' h'=>LeK 3 f140.ntmps [] h' [] (HR neg b (o++[decB x.1]))) (λ_ h'=>X/\LeK 3 f140.ntmps [] h' [] Hx) (roundOf K140 0) (mk f140.ntmps ((5,.str x.1.data.toList)::(17,.str x.1.data.toList)::KR) (HR neg b o)):=by
 obtain⟨x,hx9,hxd⟩:=x;simp only;have hxl:x.data.toList.length=x.size:=by rw [Array.length_toList]; rfl
 have hdB:decB x=numD x.data.toList:=rfl;rw [hdB];generalize x.data.toList=y at hxd hxl
 have core:xc (some l) prog (bare f140) O 3 W E1 (λd kv' h'=>LeK 3 f140.ntmps [] h' [] (HR neg b (o++[numD y]))) (λ_ h'=>X/\LeK 3 f140.ntmps [] h' [] Hx) (.code (.loop (lps (roundOf K140 0) 0).1)::(lps (roundOf K140 0) 0).2)
   (mk f140.ntmps [(2,.ptr 0 0),(3,.ptr 1 0),(5,.str y),(6,.int .u32 0),(16,.fn 170 [] [.ptr 2 0]),(17,.str y),(19,.i (y.length:Int)),(20,.i 0)] (HR neg b o)):=by
  exact UZ l neg b o ho y hxd (by omega) X Hx
 cases o with
 | nil=>
  refine zb.n G3.h [2,3,5,6,16,17,19,20] (.leaf (.loop (lps (roundOf K140 0) 0).1 (lps (roundOf K140 0) 0).2 [(2,.ptr 0 0),(3,.ptr 1 0),(5,.str y),(6,.int .u32 0),(16,.fn 170 [] [.ptr 2 0]),(17,.str y),(19,.i y.length),(20,.i 0)] [.box [.bool false,.nils],.box [.bool neg,.nils],.box [.str b]])) ?_;simp only [Tree.holds,zd];exact core
 | cons d o=>
  refine zb.n G3.h [2,3,5,6,16,17,19,20] (.leaf (.loop (lps (roundOf K140 0) 0).1 (lps (roundOf K140 0) 0).2 [(2,.ptr 0 0),(3,.ptr 1 0),(5,.str y),(6,.int .u32 0),(16,.fn 170 [] [.ptr 2 0]),(17,.str y),(19,.i y.length),(20,.i 0)] [.box [.bool false,.nils],.box [.bool neg,.osl 4 1 0 (o.length+1)],.box [.str b],.arr 1 1 (natG .u32 [d]),.arr (o.length+1) 1 (natG .u32 (d::o))])) ?_;simp only [Tree.holds,zd];exact core
theorem zee(neg:Bool)(b:L8)(o:List Nat):∀ x∈HR neg b o,alive x:=by
 cases o with
 | nil=>simp [HR,alive]
 | cons d o=>simp [HR,alive]
theorem zaf{O:Nat->Prop}{w0:World}{Q:AV×Heap->Prop}(neg:Bool)(b:L8)(hb:allD b)(hb0:b≠[])(hbl:b.length<=1000000)(hq:Q (.agg [.bool neg,magS (numD b)],[])) :
  zb prog f140 O 0 w0 [] (λ_ _ _=>False) (RetR zbf 0 Q) (.code (rfs K140 0).1::(rfs K140 0).2) (mk f140.ntmps KR (HR neg b [])):=by
 let s:ByteArray:=⟨b.toArray⟩
 have hsl:s.data.toList=b:=rfl;have hss:s.size=b.length:=by simp [s,ByteArray.size]
 refine zb.range (tg:=16) (tp:=17) (td:=5) (α:=Grp) (by kernel_rfl) (cap:=[.ptr 2 0]) (enters_of Tryz.func170 (by kernel_rfl) rfl) (λx=>.str x.1.data.toList) (λpre=>HR neg b (pre.map λx=>decB x.1)) (λ_=>[]) (λ_=>False) (λxs=>xs.map (·.1)=chunks s s.size) (λpre=>pre.map (·.1) <+: chunks s s.size) (chunks s s.size).length 3
  (by kernel_rfl) (by decide +kernel) (by decide +kernel) (λx t c y h=>by cases h) ⟨by simp [KR],by simp [HR],by kernel_rfl,aI _⟩ (by kernel_rfl) (aI _) (λpre=>zee _ _ _) (λpre c hc=>by cases hc) ?_ ?_ ?_ (λ_ _ h=>h.elim)
 ·
  intro w σ a hm vb hvb;simp only [RepL] at hvb;obtain⟨v,r,rfl,hv,rfl⟩:=hvb;simp only [Rep] at hv;obtain⟨e,ad,he,had,rfl⟩:=hv
  have hcell:∀ (W:World) (Z':List SE) (o:List Nat),HRep (Go.Sx.Own O Z') W Z' (HR neg b o)->∀ e' ad,Z'[2]?=some e'->e'.ad=some ad->W.cell? ⟨ad.block,ad.off+0,none⟩=some (.string s):=by
   intro W Z' o hp e' ad he' had';have hb2:(HR neg b o)[2]?=some (.box [.str b]):=by cases o<;>rfl
   obtain⟨ad',vs,el,h1,h2,h3,h4⟩:=hp.blk 2 e' _ he' hb2;rw [had'] at h1; cases h1;simp only [RepL,Rep] at h4;obtain⟨v,r,rfl,rfl,rfl⟩:=h4;simp [World.cell?,h3,h2,s]
  refine⟨λW=>W.cell? ⟨ad.block,ad.off+0,none⟩=some (.string s),λx=>.string x.1,?_,?_,?_⟩
  ·exact Tryz.Ja (λx=>x.size<=9/\allD x.data.toList) ⟨ad.block,ad.off+0,none⟩ s (Yt s (hsl▸hb) s.size (aJ _)) (by omega) w (hcell w σ [] hm.hp e ad he had)
  ·intro pre W Z' hM;refine⟨?_,λx=>by simp [Rep]⟩;have ht:=hM.tm 16;have h16:(mk f140.ntmps KR (HR neg b (pre.map λx=>decB x.1))).tmps.getD 16 .undef = .fn 170 [] [.ptr 2 0]:=by kernel_rfl
   have ht0:=hm.tm 16;have h160:(mk f140.ntmps KR (HR neg b (([]:List Grp).map λx=>decB x.1))).tmps.getD 16 .undef = .fn 170 [] [.ptr 2 0]:=by kernel_rfl
   rw [h16] at ht;rw [h160] at ht0;simp only [TRep,Rep,RepL] at ht ht0;obtain⟨va,vb',h1,_,v,r,h2,⟨e1,ad1,h3,h4,h5⟩,h6⟩:=ht;obtain⟨va',vb2,g1,_,v',r',g2,⟨e2,ad2,g3,g4,g5⟩,g6⟩:=ht0;rw [he] at g3; cases g3;rw [had] at g4; cases g4;rw [g1] at h1;simp only [Value.func.injEq] at h1
   have h7:vb2=vb':=by
    have:=h1.2.2;simpa using this
   rw [g2,h2,g5,h5] at h7;simp only [List.cons.injEq,Value.pointer.injEq,aE] at h7;have h8:=hcell W Z' _ hM.hp e1 ad1 h3 h4;rw [<- h7.1] at h8;exact h8
  ·intro W l o o' hl ho hoc hK;exact KY (grownBy_putObj' W l o') (λr e=>by cases e; exact⟨o,ho,hoc⟩) hK
 ·
  intro l pre x hlen W E1
  have hpl:(pre.map λx=>decB x.1).length<=1000000:=by
   have:=Qu s s.size;simp; omega
  have:=Yk (O:=O) (W:=W) (E1:=E1) l neg b (pre.map λx=>decB x.1) hpl x False [];simp only [List.map_append,List.map_cons,List.map_nil];exact this
 ·
  intro xs hxs;have ho:xs.map (λx=>decB x.1)=(chunks s s.size).map decB:=by rw [<- hxs,List.map_map]; rfl
  have hv:val (xs.map λx=>decB x.1)=numD b:=by
   rw [ho,XR s s.size (aJ _),bF (by rw [Array.length_toList]; exact aJ _)]
  have hdg:dig (xs.map λx=>decB x.1):=by
   intro d hd;obtain⟨x,_,rfl⟩:=List.mem_map.1 hd;exact zgz x.2.2 x.2.1
  have hpos:0<s.size:=by rw [hss]; exact List.length_pos_iff.2 hb0
  have hle:(xs.map λx=>decB x.1).length<=1000000:=by
   rw [ho,List.length_map];have:=Qu s s.size;omega
  have hne:xs.map (λx=>decB x.1)≠[]:=by
   rw [ho,vH s hpos]; simp
  generalize xs.map (λx=>decB x.1)=l at hv hdg hle hne;cases l with
  | nil=>exact absurd rfl hne
  | cons d o=>
   simp only [aL] at hle;refine zb.n G3.h [2,3,5,6,16,17,19,20] (let v2:=o.length+1;.ex (λ(u:List Nat)=>u.length=o.length+1/\0+(o.length+1)<=o.length+1/\o.length+1<4611686018427387904/\eqG v2 1 (natG .u32 (d::o)) (natG .u32 u)/\dig (List.take v2 (List.drop 0 u))) λn=>.all (λ(x:Nat)=>x=val (List.take v2 (List.drop 0 n))) λn=>let v1:List AV:=[.bool neg,.osl 4 1 0 (canon n).length];.R [.agg v1] [.box v1,.box v1,.box [.str b],.arr 1 1 (natG .u32 [d]),.arr v2 1 (natG .u32 (d::o))]) ?_;simp only [Tree.holds,zd];have htk:(List.take (o.length+1) (List.drop 0 (d::o)))=d::o:=by simp
   refine⟨d::o,⟨rfl,by omega,by omega,za _ _ _,by rw [htk]; exact hdg⟩,⟨_,rfl⟩,?_⟩;intro X hX;have hX:X=numD b:=by rw [htk,hv] at hX; exact hX
   subst hX;refine RetR.out0 hq (λh=>by cases h) ?_;simp only [resV,exp2,exp1,List.map_cons,List.map_nil,exp0,ren0,zz,frz1,wi,List.getElem?_cons_zero,List.getElem?_cons_succ,if_true,eqA2,eqA,eqL0,eqA0,magS,natS,true_and,and_true];exact jD (u:=d::o) (off:=0) (n:=o.length+1) (by simpa using hdg) (by simpa using hv)
theorem zhr:zc prog 140 zbf:=by
 refine zg' f140 λp hp O w0 Q hq=> ?_
 obtain⟨neg,b⟩:=p;obtain⟨hb,hb0,hbl⟩:=hp;replace hq:=hq _ rfl;simp only at hb hb0 hbl hq;obtain⟨s,hs⟩:∃ s,sgn neg b=s:=⟨_,rfl⟩;simp only [hs];refine zb.n G3.h [2,3,5,6,16,17,19,20] (let v2:=rfs K140 0;let v1:List (Nat×AV):=[(2,.ptr 0 0),(3,.ptr 1 0),Z 5,Z 6,(16,.fn 170 [] [.ptr 2 0]),Z 17,Z 19,Z 20];.side ((0:Int)<=0/\(0:Int)<s.length) (.D ((↑(UInt8.toNat (s.getD 0 (0:UInt8))):Int)=45) (.side ((0:Int)<=1/\(1:Int)<=s.length) (.ex (λ(x:L8)=>eqL [.str (List.drop 1 (List.take s.length s))] [.str x]/\eqH [] []/\0=0/\True) λn=>.A λn_1=>.leaf (.range v2.1 v2.2 v1 [.box [.bool false,.nils],.box [.bool true,.nils],.box [.str n]]))) (.ex (λ(x:L8)=>eqL [.str s] [.str x]/\eqH [] []/\0=0/\True) λn=>.A λn_1=>.leaf (.range v2.1 v2.2 v1 [.box [.bool false,.nils],.box [.bool false,.nils],.box [.str n]])))) ?_;subst hs;have hmain:=zaf (O:=O) (w0:=w0) neg b hb hb0 hbl hq;obtain⟨c,b',rfl⟩:=List.exists_cons_of_ne_nil hb0;have hc:=hb c (by simp);simp only [Tree.holds,zd];cases neg with
 | true=>
  simp only [sgn,if_true];refine⟨by simp; omega,λ_=>⟨λ_=>⟨by simp; omega,λ_=> ?_⟩,λh=>by simp at h⟩⟩;refine⟨c::b',⟨by simp,by simp,by simp⟩,⟨(),trivial⟩,λ_ _=>hmain⟩
 | false=>
  simp only [sgn,Bool.false_eq_true,if_false];refine⟨by simp,λ_=>⟨λh=> ?_,λ_=> ?_⟩⟩
  ·simp at h; omega
  ·refine⟨c::b',⟨by simp,by simp,by simp⟩,⟨(),trivial⟩,λ_ _=>hmain⟩
noncomputable def K145:=Go.Sx.aA f145
noncomputable def K115:=Go.Sx.aA f115
def wg(l:List Nat)(n i:Nat):List Nat:=(List.range l.length).map λp=>if p<n/\(p<i\/n - i<=p) then l.getD (n - 1 - p) 0 else l.getD p 0
theorem uH(l:List Nat)(n i:Nat):(wg l n i).length=l.length:=by simp [wg]
theorem JS{l:List Nat}{n i p:Nat}(h:p<l.length):(wg l n i).getD p 0=if p<n/\(p<i\/n - i<=p) then l.getD (n - 1 - p) 0 else l.getD p 0:=by
 simp [wg,List.getD,h]
theorem KO(l:List Nat)(n:Nat):wg l n 0=l:=by
 apply List.ext_getElem (by simp [wg]);intro p h1 h2;simp only [wg,List.getElem_map,List.getElem_range];rw [aO (by omega)]; simp [h2]
theorem XM{l:List Nat}{n i:Nat}(hn:n<=l.length)(hi2:i<n - 1 - i):((wg l n i).set i ((wg l n i).getD (n - 1 - i) 0)).set (n - 1 - i) ((wg l n i).getD i 0)=wg l n (i+1):=by
 rw [JS (by omega),JS (by omega),aO (by omega),aO (by omega)];apply List.ext_getElem (by simp [wg]);intro p h1 h2;rw [uH] at h2;simp only [List.getElem_set,wg,List.getElem_map,List.getElem_range];by_cases ha:n - 1 - i=p
 ·rw [aP ha,aP (by omega)]; congr 1; omega
 ·rw [aO ha];by_cases hb:i=p
  ·subst hb; rw [aP rfl,aP (by omega)]
  ·rw [aO hb];by_cases hc:p<n/\(p<i\/n - i<=p)
   ·rw [aP hc,aP (by omega)]
   ·rw [aO hc,aO (by omega)]
theorem zal{l:List Nat}{n i:Nat}(hn:n<=l.length)(hi2:n - 1 - i<=i):wg l n i=(l.take n).reverse++l.drop n:=by
 apply List.ext_getElem (by simp [wg]; omega);intro p h1 h2;rw [uH] at h1;simp only [wg,List.getElem_map,List.getElem_range];have hl:(l.take n).reverse.length=n:=by simp; omega
 by_cases ha:p<n
 ·rw [List.getElem_append_left (by omega),List.getElem_reverse,List.getElem_take];have e:(l.take n).length - 1 - p=n - 1 - p:=by simp; omega
  simp only [e];by_cases hc:p<i\/n - i<=p
  ·rw [aP ⟨ha,hc⟩]; simp [show n - 1 - p<l.length by omega]
  ·rw [aO (λh=>hc h.2)];have:n - 1 - p=p:=by omega
   simp [this,h1]
 ·rw [aO (λh=>ha h.1),List.getElem_append_right (by omega)];simp only [hl,List.getElem_drop];have:n+(p - n)=p:=by omega
  simp [this,h1]
def Qy:Ctr:=ctrT false false (λp:List Nat×Nat=>[.osl 0 1 0 p.2]) (λp=>[.arr p.1.length 1 (natG .u8 p.1)]) (λp=>p.2<=p.1.length/\p.1.length<2^62) (λ_ (_:Unit)=>True) (λp _=>(.tup [],[.arr p.1.length 1 (natG .u8 ((p.1.take p.2).reverse++p.1.drop p.2))]))
def SV(n i:Nat):KV:=[(0,.osl 0 1 0 n),(2,.i (i:Int)),(3,.i ((n:Int) - 1 - i))]
theorem XA:zc prog 145 Qy:=by
 refine zC (fn:=f145) (c:=f145.body.getD .skip) rfl rfl rfl (λh=>by cases h) λp hp O w0 I0 Q hl0 hq=> ?_
 obtain⟨l,n⟩:=p;obtain⟨hn,hl⟩:=hp;replace hq:=hq () trivial;simp only at hn hl hq;refine zb.n z6 [0,2,3] (Tree.side (inR IntKind.i64 ((n:Int) - (1:Int))) (Tree.leaf (we.loop (Prod.fst (lps K145 (0:Nat))) (Prod.snd (lps K145 (0:Nat))) [((0:Nat),AV.osl (0:Nat) (1:Nat) (0:Nat) n),((2:Nat),AV.i 0),((3:Nat),AV.i (n-1))] [Blk.arr l.length (1:Nat) (natG .u8 l)]))) ?_;simp only [Tree.holds,zd,inR,lo,hi];refine⟨by omega,λ_=> ?_⟩;refine zb.loop (ι:={i:Nat // i<=n}) (λi=>SV n i.1) (λi=>[.arr l.length 1 (natG .u8 (wg l n i.1))]) (λi=>n - i.1) ⟨0,aI _⟩ 0 ?_ ?_ (by kernel_rfl)
 ·exact⟨by simp [SV],by simp [KO,za],by kernel_rfl,aJ _⟩
 ·rintro⟨i,hin⟩;obtain⟨u,hu⟩:∃ u,wg l n i=u:=⟨_,rfl⟩;have hul:u.length=l.length:=by rw [<- hu,uH]
  simp only [hu,<- hul];refine zb.n z6 [0,2,3] (Tree.ite (decide ((i:Int)<(n:Int) - (1:Int) - (i:Int))) (Tree.side ((0:Int)<=(n:Int) - (1:Int) - (i:Int)/\(n:Int) - (1:Int) - (i:Int)<(n:Int)) (Tree.side ((0:Int)<=(i:Int)/\(i:Int)<(n:Int)) (Tree.side ((0:Int)<=(i:Int)/\(i:Int)<(n:Int)) (Tree.side ((0:Int)<=(n:Int) - (1:Int) - (i:Int)/\(n:Int) - (1:Int) - (i:Int)<(n:Int)) (Tree.side (inR IntKind.i64 ((i:Int)+(1:Int))) (Tree.side (inR IntKind.i64 ((n:Int) - (1:Int) - (i:Int) - (1:Int))) (Tree.leaf (we.back (0:Nat) [((0:Nat),AV.osl (0:Nat) (1:Nat) (0:Nat) n),((2:Nat),AV.i (i+1)),((3:Nat),AV.i (n-1-i-1))] [Blk.arr u.length (1:Nat) (updG (updG (natG .u8 u) ((0:Nat)+Int.toNat i) (0:Nat) [.int .u8 ↑(u.getD ((0:Nat)+Int.toNat (n-1-i)) (0:Nat))]) ((0:Nat)+Int.toNat (n-1-i)) (0:Nat) [.int .u8 ↑(u.getD ((0:Nat)+Int.toNat i) (0:Nat))])])))))))) (Tree.leaf (we.ret [] [Blk.arr u.length (1:Nat) (natG .u8 u)]))) ?_;simp only [Tree.holds,zd,inR,lo,hi,aD];refine⟨λhlt=> ?_,λhge=> ?_⟩
  ·have hlt:i<n - 1 - i:=by simp at hlt; omega
   have ej:((n:Int) - 1 - i).toNat=n - 1 - i:=by omega
   rw [ej]
   iterate 6 refine⟨by omega,λ_=> ?_⟩
   rw [aP trivial];have hs:=XM (l:=l) hn hlt;rw [hu] at hs;refine⟨⟨i+1,by omega⟩,by show n - (i+1)<n - i; omega,by simp [SV]; omega,?_,by kernel_rfl,aJ _⟩;rw [<- hs];refine⟨⟨rfl,rfl,?_⟩,trivial⟩;have h1:=vR (k:=.u8) (l:=u) (v:=(u.getD (n - 1 - i) 0:Nat)) (i:=i) (by omega) (by omega);have h2:=vR (k:=.u8) (l:=u.set i (u.getD (n - 1 - i) 0)) (v:=(u.getD i 0:Nat)) (i:=n - 1 - i) (by omega) (by simp; omega);simp only [List.length_set,aD] at h1 h2;refine uC ?_ h2;intro p o hp ho;have:=h1 p o hp ho;simp only [updG,Nat.zero_add] at this ⊢;split
   ·rfl
   ·exact this
  ·have hge:n - 1 - i<=i:=by simp at hge; omega
   have hr:=zal (l:=l) hn hge;rw [hu] at hr;refine⟨[0],rfl,by simp,by simp,by simp [Qy,ctrT],.tup [],_,q5 (by simp [resV,exp2,eqA2,eqL1]),.inl ?_,rfl,hq⟩;simp [expH,expB,hr,za];omega
def vW(neg:Bool)(x:Nat):Blk:=.box [.bool neg,magS x]
def SW(x i n:Nat):KV:=[(1,.ptr 0 0),(4,.osl 1 1 0 n),Z 6,(12,magS x),(13,.i ((canon x).length:Int)),(14,.i (i:Int)),Z 18]
def SW2(x i n g k:Nat):KV:=[(1,.ptr 0 0),(4,.osl 1 1 0 n),(6,.int .u32 (g:Int)),(12,magS x),(13,.i ((canon x).length:Int)),(14,.i (i:Int)),(18,.i (k:Int))]
noncomputable def G4:=tb XA tz
theorem Q7(k:IntKind)(l:List Nat)(n:Nat)(hn:n<=l.length):xq n (zf (natG k l) 0)=(l.take n).map UInt8.ofNat:=by
 apply List.ext_getElem (by simp [xq]; omega);intro j h1 h2;have hj:j<n:=by simpa [xq] using h1
 simp [xq,zf,natG,Sx.byteOf,show j<l.length by omega]
def wb(x i:Nat):List Nat:=(decs (9*i) (val ((canon x).take i))).map (48 + ·)
theorem WL(x i:Nat):(wb x i).length=9*i:=by simp [wb,ud]
theorem Uv(i:Nat):B^i=10^(9*i):=by rw [Nat.pow_mul]
theorem zg5{x i:Nat}(h:i<(canon x).length):wb x i++(decs 9 ((canon x).getD i 0)).map (48 + ·)=wb x (i+1):=by
 have h1:=qp (j3 (zi x) i);rw [aH,Nat.min_eq_left (by omega),Uv] at h1;simp only [wb];rw [<- List.map_append,<- Zg _ _ _ _ h1,zp,Uv];rfl
theorem Yf(x:Nat):wb x (canon x).length=(dec x).map (48 + ·)++List.replicate (9*(canon x).length - (dec x).length) 48:=by
 have h:x<10^(9*(canon x).length):=by
  have:=qp (zi x)
  rwa [zk,Uv] at this
 simp only [wb,bD,zk,zd2 h,Ten.padN,List.map_append,List.map_replicate,dec]
def Qh:Ctr:=ctrP true (λp:Bool×Nat=>[.agg [.bool p.1,magS p.2]]) (λp=>(canon p.2).length<1000000) (λp r=>r=wr p.1 p.2) (λ_ r=>(.tup [.str r.1,.i r.2],[]))
abbrev q14(A:List AV)(H:Heap)(x:List Nat×Nat):Prop:=eqL A [.osl (0:Nat) (1:Nat) (0:Nat) x.2]/\eqH H [Blk.arr x.1.length (1:Nat) (natG .u8 x.1)]/\(1:Nat)=(1:Nat)/\Prod.snd x<=List.length x.1/\List.length x.1<(4611686018427387904:Nat)
theorem za4{O:Nat->Prop}{w0:World}{Q:AV×Heap->Prop}{Hs:Nat->KV->Heap->Prop}(neg:Bool)(x:Nat)(hx:(canon x).length<1000000)(hx0:x≠0)(hq:Q (.tup [.str (wr neg x).1,.i (wr neg x).2],[]))(b:List Nat)(hb:b=wb x (canon x).length) :
  zb prog f115 O 0 w0 [] Hs (RetR Qh 0 Q) (.code (.loop (lps (inside K115 0) 1).1)::(lps (inside K115 0) 1).2) (mk f115.ntmps (SW x (canon x).length b.length) [vW neg x,.arr b.length 1 (natG .u8 b)]):=by
 have hdl:=WR hx0
 have hle:(dec x).length<=9*(canon x).length:=by
  have:=qp (zi x);rw [zk,Uv] at this;exact Z5 this
 have hbl:b.length=9*(canon x).length:=by rw [hb,WL]
 have hget:∀ p,p<b.length->b.getD p 0=48+(dec x).getD p 0:=by
  intro p hp;rw [hb,Yf];by_cases h:p<(dec x).length
  ·rw [yn (by simpa using h),UH (z:=0) h]
  ·rw [Qk (by simpa using Nat.le_of_not_lt h),zf1 (by simp; omega),zb7 (Nat.le_of_not_lt h)]
 have htake:b.take (dec x).length=(dec x).map (48 + ·):=by
  rw [hb,Yf,List.take_append_of_le_length (by simp),bF (by simp)]
 refine zb.loop (ι:={n:Nat // (dec x).length<=n/\n<=b.length}) (λn=>SW x (canon x).length n.1) (λ_=>[vW neg x,.arr b.length 1 (natG .u8 b)]) (λn=>n.1) ⟨b.length,by omega,aJ _⟩ 0 ?_ ?_ (by kernel_rfl)
 ·exact⟨by simp [SW,magS,natS,za],by simp [vW,magS,natS,za],by kernel_rfl,aI _⟩
 ·rintro⟨n,hn1,hn2⟩;obtain⟨L,hL⟩:∃ L,(canon x).length=L:=⟨_,rfl⟩;simp only [hL];refine zb.n G4.h [1,4,6,12,13,14,18] (let v6:=natG .u8 b;let v5:=ze (1:Nat) [.int .u8 45];let v4:=inR IntKind.i64 ((n:Int) - (1:Int));let v1:=[AV.bool neg,AV.sl (canon x).length (1:Nat) (natG .u32 (canon x))];Tree.side v4 (Tree.side ((0:Int)<=(n:Int) - (1:Int)/\(n:Int) - (1:Int)<(n:Int)) (Tree.ite (decide ((↑(b.getD ((0:Nat)+Int.toNat (n-1)) (0:Nat)):Int)=(48:Int))) (Tree.side v4 (Tree.side ((0:Int)<=(n:Int) - (1:Int)/\(n:Int) - (1:Int)<=(n:Int)) (Tree.leaf (we.back (0:Nat) [((1:Nat),AV.ptr (0:Nat) (0:Nat)),((4:Nat),AV.osl (1:Nat) (1:Nat) (0:Nat) (Int.toNat (n-1) - (0:Nat))),((6:Nat),AV.undef),((12:Nat),AV.sl (canon x).length (1:Nat) (natG .u32 (canon x))),((13:Nat),AV.i (canon x).length),((14:Nat),AV.i L),((18:Nat),AV.undef)] [Blk.box v1,Blk.arr b.length (1:Nat) v6])))) (Tree.ite (decide ((1000:Int)<(n:Int))) (Tree.leaf (we.ret [.str #[].toList,.i 14] [Blk.box v1,Blk.arr b.length (1:Nat) v6])) (Tree.ite neg (Tree.side ((0:Nat)=(0:Nat)/\n<=List.length b/\(n+(1:Nat))*(1:Nat)<=(140737488355328:Nat)) (Tree.ex (q14 [.osl (0:Nat) (1:Nat) (0:Nat) (n+(1:Nat))] [Blk.arr (n+(1:Nat)) (1:Nat) (appG n v6 (zf v5 (0:Nat)))]) λ(n_1:List Nat×Nat)=>let v2:=List.reverse (List.take n_1.2 n_1.1)++List.drop n_1.2 n_1.1;Tree.A λ(n_2:Unit)=>Tree.side (∀ (j:Nat),j<n+(1:Nat)->∃ (b:UInt8),AV.int .u8 ↑(List.getD v2 ((0:Nat)+j) (0:Nat))=AV.int .u8 ↑(UInt8.toNat b)) (Tree.leaf (we.ret [.str (xq (n+(1:Nat)) (zf (natG .u8 v2) (0:Nat))),.i 0] [Blk.box v1,Blk.arr n_1.1.length (1:Nat) (natG .u8 v2),Blk.arr (1:Nat) (1:Nat) v5])))) (Tree.ex (q14 [.osl (0:Nat) (1:Nat) (0:Nat) n] [Blk.arr b.length (1:Nat) v6]) λ(n_1:List Nat×Nat)=>let v3:=List.reverse (List.take n_1.2 n_1.1)++List.drop n_1.2 n_1.1;Tree.A λ(n_2:Unit)=>Tree.side (∀ (j:Nat),j<n->∃ (b:UInt8),AV.int .u8 ↑(List.getD v3 ((0:Nat)+j) (0:Nat))=AV.int .u8 ↑(UInt8.toNat b)) (Tree.leaf (we.ret [.str (xq n (zf (natG .u8 v3) (0:Nat))),.i 0] [Blk.box v1,Blk.arr n_1.1.length (1:Nat) (natG .u8 v3)])))))))) ?_;have e1:((n:Int) - 1).toNat=n - 1:=by omega
  have e2:0+(n - 1)=n - 1:=by omega
  have e3:n - 1 - 0=n - 1:=by omega
  simp only [Tree.holds,zd,inR,lo,hi,e1,e2,e3];have hg:=hget (n - 1) (by omega);rw [hg]
  iterate 2 refine⟨by omega,λ_=> ?_⟩
  refine⟨λhz=> ?_,λhnz=>⟨λhbig=> ?_,λhsm=> ?_⟩⟩
  ·have hz:(dec x).getD (n - 1) 0=0:=by simp at hz ⊢; omega
   have hne:n≠(dec x).length:=by
    rintro rfl;exact Ul hdl hz
   iterate 2 refine⟨by omega,λ_=> ?_⟩
   rw [aP trivial];exact⟨⟨n - 1,by omega,by omega⟩,by show n - 1<n; omega,by simp [SW,magS,natS,za],by simp [vW,magS,natS,za],by kernel_rfl,aI _⟩
  ·have hn:n=(dec x).length:=by
    rcases aR (dec x).length n with h | h
    ·have:(dec x).getD (n - 1) 0=0:=by simp [List.getD,aZ (show(dec x).length<=n - 1 by omega)]
     rw [this] at hnz; simp at hnz
    ·omega
   subst hn;have hbig:1000<(dec x).length:=by simp at hbig; omega
   simp only [wr,aO hx0,aP hbig] at hq;exact RetR.scal hq rfl rfl
  ·have hn:n=(dec x).length:=by
    rcases aR (dec x).length n with h | h
    ·have:(dec x).getD (n - 1) 0=0:=by simp [List.getD,aZ (show(dec x).length<=n - 1 by omega)]
     rw [this] at hnz; simp at hnz
    ·omega
   subst hn;have hsm:¬ 1000<(dec x).length:=by simp at hsm; omega
   simp only [wr,aO hx0,aO hsm] at hq
   have hbyte:∀ (l:List Nat) (k:Nat),(∀ d∈l,d<256)->∀ j,j<k->∃ c:UInt8,AV.int .u8 ((l.getD (0+j) 0:Nat):Int) = .int .u8 (c.toNat:Int):=by
    intro l k hl j hj;rw [Nat.zero_add]
    have:l.getD j 0<256:=by
     by_cases h:j<l.length
     ·have:=hl l[j] (bK h);simpa [List.getD,h] using this
     ·simp [List.getD,aZ (Nat.le_of_not_lt h)]
    refine⟨UInt8.ofNat (l.getD j 0),?_⟩;simp only [AV.int.injEq,true_and];rw [UInt8.toNat_ofNat',Nat.mod_eq_of_lt this]
   have hb256:∀ d∈b,d<256:=by
    intro d hd;rw [hb,Yf] at hd;rcases bY.1 hd with hd | hd
    ·obtain⟨y,hy,rfl⟩:=List.mem_map.1 hd;have:=Ten.zi x y hy;simp only [Ten.B] at this;omega
    ·have:=(List.mem_replicate.1 hd).2; omega
   have htx:((b.take (dec x).length).reverse).map UInt8.ofNat=txt x:=by
    rw [htake,txt,aO hx0,List.map_reverse,List.map_map]; rfl
   refine⟨λhneg=> ?_,λhneg=> ?_⟩
   ·subst hneg;refine⟨⟨trivial,hn2,by omega⟩,λ_=> ?_⟩;have hal:(b.take (dec x).length++[45]).length=(dec x).length+1:=by simp; omega
    refine⟨(b.take (dec x).length++[45],(dec x).length+1),⟨by simp,?_,by simp,by simp only [hal]; omega,by simp only [hal]; omega⟩,⟨(),trivial⟩,λ_ _=>⟨?_,λ_=> ?_⟩⟩
    ·simp only [eqH,eqB,hal];refine⟨⟨trivial,trivial,?_⟩,trivial⟩;intro j o hj ho;have:o=0:=by omega
     subst this;simp only [appG,zf,ze,natG];have hl:(b.take (dec x).length).length=(dec x).length:=by simp; omega
     by_cases h:j<(dec x).length
     ·rw [aP h,yn (by omega),Uc h]
     ·have:j=(dec x).length:=by omega
      subst this;rw [aO (by omega),Qk (by omega),hl,Nat.sub_self];rfl
    ·refine hbyte _ _ ?_;intro d hd;simp only [bY,List.mem_reverse] at hd;rcases hd with hd | hd
     ·have:=List.mem_of_mem_take hd;rcases bY.1 this with h | h
      ·exact hb256 d (List.mem_of_mem_take h)
      ·simp at h; omega
     ·have:=List.mem_of_mem_drop hd;rcases bY.1 this with h | h
      ·exact hb256 d (List.mem_of_mem_take h)
      ·simp at h; omega
    ·refine RetR.scal hq rfl ?_;simp only [resV];rw [Q7 _ _ _ (by simp; omega)];have ht:List.take ((dec x).length+1) (b.take (dec x).length++[45])=b.take (dec x).length++[45]:=bF (by omega);rw [ht,List.take_append_of_le_length (by simp; omega),bF (by simp; omega),List.reverse_append,List.map_append,htx];simp [sgn]
   ·subst hneg;refine⟨(b,(dec x).length),⟨by simp,by simp [za],by simp,hn2,by simp only [hbl]; omega⟩,⟨(),trivial⟩,λ_ _=>⟨?_,λ_=> ?_⟩⟩
    ·refine hbyte _ _ ?_;intro d hd;simp only [bY,List.mem_reverse] at hd;rcases hd with hd | hd
     ·exact hb256 d (List.mem_of_mem_take hd)
     ·exact hb256 d (List.mem_of_mem_drop hd)
    ·refine RetR.scal hq rfl ?_;simp only [resV];have hrl:((b.take (dec x).length).reverse).length=(dec x).length:=by simp; omega
     rw [Q7 _ _ _ (by rw [bO,hrl]; omega),List.take_append_of_le_length (by omega),bF (by omega),htx];simp [sgn]
theorem QA:zc prog 115 Qh:=by
 refine zg' f115 λp hp O w0 Q hq=> ?_
 obtain⟨neg,x⟩:=p;replace hq:=hq _ rfl;simp only at hp hq;refine zb.n G4.h [1,4,6,12,13,14,18] (let v1:=[AV.bool neg,AV.sl (canon x).length (1:Nat) (natG .u32 (canon x))];Tree.ite (decide (((canon x).length:Int)=(0:Int))) (Tree.leaf (we.ret [.str #[(48:UInt8)].toList,.i 0] [Blk.box v1])) (Tree.leaf (we.loop (Prod.fst (lps K115 (0:Nat))) (Prod.snd (lps K115 (0:Nat))) [((1:Nat),AV.ptr (0:Nat) (0:Nat)),((4:Nat),AV.nils),((6:Nat),AV.undef),((12:Nat),AV.sl (canon x).length (1:Nat) (natG .u32 (canon x))),((13:Nat),AV.i (canon x).length),((14:Nat),AV.i 0),((18:Nat),AV.undef)] [Blk.box v1]))) ?_;simp only [Tree.holds,zd,inR,lo,hi];refine⟨λh0=> ?_,λh0=> ?_⟩
 ·have h0:x=0:=by
   rcases bC x with h | h
   ·exact h
   ·have:=j8 (x:=x) (n:=0) (by simp; omega);simp at h0; rw [h0] at this; simp at this
  subst h0;refine RetR.scal hq rfl ?_;simp [resV,wr]
 ·have hx0:x≠0:=by
   rintro rfl;simp [zE] at h0
  refine zb.bear 4 1 (natG .u8 []) (by kernel_rfl) (by decide +kernel) (by kernel_rfl) ?_;refine zb.loop (ι:={i:Nat // i<=(canon x).length}) (λi=>SW x i.1 (wb x i.1).length) (λi=>[vW neg x,.arr (wb x i.1).length 1 (natG .u8 (wb x i.1))]) (λi=>(canon x).length - i.1) ⟨0,aI _⟩ 0 ?_ ?_ (by kernel_rfl)
  ·exact⟨by simp [QH,SW,magS,natS,za,WL],by simp [vW,magS,natS,za,WL,eqG],by kernel_rfl,aI _⟩
  ·rintro⟨i,hil⟩;obtain⟨b,hb⟩:∃ b,wb x i=b:=⟨_,rfl⟩;simp only [hb];refine zb.n G4.h [1,4,6,12,13,14,18] (let v3:=natG .u32 (canon x);let v2:=inside K115 (0:Nat);let v1:=[AV.bool neg,AV.sl (canon x).length (1:Nat) v3];Tree.ite (decide ((i:Int)<((canon x).length:Int))) (Tree.side ((0:Int)<=(i:Int)/\(i:Int)<((canon x).length:Int)) (Tree.leaf (we.loop (Prod.fst (lps v2 (0:Nat))) (Prod.snd (lps v2 (0:Nat))) [((1:Nat),AV.ptr (0:Nat) (0:Nat)),((4:Nat),AV.osl (1:Nat) (1:Nat) (0:Nat) b.length),((6:Nat),AV.int .u32 ↑(List.getD (canon x) (i:Int).toNat (0:Nat))),((12:Nat),AV.sl (canon x).length (1:Nat) v3),((13:Nat),AV.i (canon x).length),((14:Nat),AV.i i),((18:Nat),AV.i 0)] [Blk.box v1,Blk.arr b.length (1:Nat) (natG .u8 b)]))) (Tree.leaf (we.loop (Prod.fst (lps v2 (1:Nat))) (Prod.snd (lps v2 (1:Nat))) [((1:Nat),AV.ptr (0:Nat) (0:Nat)),((4:Nat),AV.osl (1:Nat) (1:Nat) (0:Nat) b.length),((6:Nat),AV.undef),((12:Nat),AV.sl (canon x).length (1:Nat) v3),((13:Nat),AV.i (canon x).length),((14:Nat),AV.i i),((18:Nat),AV.undef)] [Blk.box v1,Blk.arr b.length (1:Nat) (natG .u8 b)]))) ?_;simp only [Tree.holds,zd,inR,lo,hi,aD];refine⟨λhlt=>⟨by simp at hlt; omega,λ_=> ?_⟩,λhge=> ?_⟩
   ·have hlt:i<(canon x).length:=by simp at hlt; omega
    obtain⟨g,hg⟩:∃ g,(canon x).getD i 0=g:=⟨_,rfl⟩;have hgB:g<1000000000:=hg▸zH (zi x) i;have hstep:=zg5 hlt;have hbl:b.length=9*i:=by rw [<- hb,WL]
    rw [hb,hg] at hstep;rw [hg];refine zb.loop (ι:={k:Nat // k<=9}) (λk=>SW2 x i (b++(decs k.1 g).map (48 + ·)).length (g/10^k.1) k.1) (λk=>[vW neg x,.arr (b++(decs k.1 g).map (48 + ·)).length 1 (natG .u8 (b++(decs k.1 g).map (48 + ·)))]) (λk=>9 - k.1) ⟨0,aI _⟩ 1 ?_ ?_ (by kernel_rfl)
    ·exact⟨by simp [SW2,magS,natS,za,decs],by simp [vW,magS,natS,za,decs],by kernel_rfl,aI _⟩
    ·rintro⟨k,hk⟩;obtain⟨c,hc⟩:∃ c,b++(decs k g).map (48 + ·)=c:=⟨_,rfl⟩;obtain⟨q,hqv⟩:∃ q,g/10^k=q:=⟨_,rfl⟩;have hqB:q<1000000000:=by rw [<- hqv]; exact Nat.lt_of_le_of_lt (Nat.div_le_self _ _) hgB
     have hcl:c.length=9*i+k:=by rw [<- hc]; simp [ud,hbl]
     have hnext:b++(decs (k+1) g).map (48 + ·)=c++[48+q%10]:=by
      rw [Js,List.map_append,<- List.append_assoc,hc,hqv]; rfl
     have hqn:g/10^(k+1)=q/10:=by rw [Nat.pow_succ,<- Nat.div_div_eq_div_mul,hqv]
     simp only [hc,hqv];refine zb.n G4.h [1,4,6,12,13,14,18] (let v5:=Int.tdiv (q:Int) (10:Int);let v4:=natG .u32 (canon x);let v3:=List.length c+(1:Nat);let v2:=ze (1:Nat) [.int .u8 ((48:Int)+Int.tmod (q:Int) (10:Int))];let v1:=[AV.bool neg,AV.sl (canon x).length (1:Nat) v4];Tree.ite (decide ((k:Int)<(9:Int))) (Tree.side ((10:Int)≠(0:Int)) (Tree.side (inR IntKind.u32 ((48:Int)+Int.tmod (q:Int) (10:Int))) (Tree.side (inR IntKind.u8 ((48:Int)+Int.tmod (q:Int) (10:Int))) (Tree.side ((0:Nat)=(0:Nat)/\List.length c<=List.length c/\v3 *(1:Nat)<=(140737488355328:Nat)) (Tree.side ((10:Int)≠(0:Int)/\inR IntKind.u32 v5) (Tree.side (inR IntKind.i64 ((k:Int)+(1:Int))) (Tree.leaf (we.back (1:Nat) [((1:Nat),AV.ptr (0:Nat) (0:Nat)),((4:Nat),AV.osl (1:Nat) (1:Nat) (0:Nat) v3),((6:Nat),AV.int .u32 v5),((12:Nat),AV.sl (canon x).length (1:Nat) v4),((13:Nat),AV.i (canon x).length),((14:Nat),AV.i i),((18:Nat),AV.i (k+1))] [Blk.box v1,Blk.arr v3 (1:Nat) (appG c.length (natG .u8 c) (zf v2 (0:Nat))),Blk.arr (1:Nat) (1:Nat) v2])))))))) (Tree.side (inR IntKind.i64 ((i:Int)+(1:Int))) (Tree.leaf (we.back (0:Nat) [((1:Nat),AV.ptr (0:Nat) (0:Nat)),((4:Nat),AV.osl (1:Nat) (1:Nat) (0:Nat) c.length),((6:Nat),AV.int .u32 q),((12:Nat),AV.sl (canon x).length (1:Nat) v4),((13:Nat),AV.i (canon x).length),((14:Nat),AV.i (i+1)),((18:Nat),AV.i k)] [Blk.box v1,Blk.arr c.length (1:Nat) (natG .u8 c)])))) ?_;have e10:(10:Int)=((10:Nat):Int):=rfl;have em:Int.tmod (q:Int) 10=((q%10:Nat):Int):=by rw [e10,YR]
     have ed:Int.tdiv (q:Int) 10=((q/10:Nat):Int):=by rw [e10,YC]
     simp only [Tree.holds,zd,inR,lo,hi,em,ed];refine⟨λhlt2=> ?_,λhge2=> ?_⟩
     ·have hlt2:k<9:=by simp at hlt2; omega
      refine⟨by decide,λ_=>⟨by omega,λ_=>⟨by omega,λ_=>⟨⟨trivial,aJ _,by omega⟩,λ_=>⟨⟨by decide,by omega,by omega⟩,λ_=>⟨by omega,λ_=> ?_⟩⟩⟩⟩⟩⟩;rw [aP trivial];refine⟨⟨k+1,by omega⟩,by show 9 - (k+1)<9 - k; omega,?_,?_,by kernel_rfl,aI _⟩
      ·simp [SW2,hnext,hqn,magS,natS,za]
      ·simp only [hnext];refine⟨by simp [vW,magS,natS,za],⟨by simp,rfl,?_⟩,trivial⟩;have:=y8 (k:=.u8) (l:=c) (v:=48+((q%10:Nat):Int)) (by omega);rw [show(48+((q%10:Nat):Int)).toNat=48+q%10 by omega] at this;exact this
     ·have hge2:k=9:=by simp at hge2; omega
      subst hge2;refine⟨by omega,λ_=> ?_⟩;rw [aO (by decide),aP trivial];have hcw:c=wb x (i+1):=by rw [<- hc,hstep]
      exact⟨⟨i+1,hlt⟩,by show _ - (i+1)<_ - i; omega,by simp [SW,hcw,magS,natS,za],by simp [hcw,vW,magS,natS,za],by kernel_rfl,aI _⟩
   ·have hge:i=(canon x).length:=by simp at hge; omega
    subst hge;exact za4 neg x hp hx0 hq b hb.symm
noncomputable def K74:=Go.Sx.aA f74
noncomputable def K75:=Go.Sx.aA f75
theorem Q5(c:UInt8):(if decide ((c.toNat:Int)<48)=true then true else decide (57<(c.toNat:Int))) = !isD c:=by
 simp only [isD];by_cases h:c.toNat<48
 ·rw [aP (by simp; omega)]; simp; omega
 ·rw [aO (by simp; omega)];by_cases h2:c.toNat<=57
  ·have:decide (57<(c.toNat:Int))=false:=by simp; omega
   rw [this]; simp; omega
  ·have:decide (57<(c.toNat:Int))=true:=by simp; omega
   rw [this]; simp; omega
def ZX:Ctr:=ctrP true (λs:L8=>[.str s]) (λs=>s.length<2^62) (λs r=>r=errI s) (λ_ r=>(.i r,[]))
def SCk(b:L8)(i:Nat):KV:=[(3,.str b),(31,.i (b.length:Int)),(32,.i (i:Int)),Z 40,Z 41,Z 42,Z 43]
theorem Qc{O:Nat->Prop}{w0:World}{Q:AV×Heap->Prop}{neg:Bool}(b:L8)(hb:b.length<2^62)(hf:b.all isD=true->jZ neg b=true)
  (hq:Q (.i (if jZ neg b then(if 1000<b.length then 14 else 0) else 12),[])) :
  zb prog f74 O 0 w0 [] (λ_ _ _=>False) (RetR ZX 0 Q) (.code (.loop (lps K74 0).1)::(lps K74 0).2) (mk f74.ntmps (SCk b 0) []):=by
 refine zb.loop (ι:={i:Nat // i<=b.length/\∀ j,j<i->isD (b.getD j 0)=true}) (λi=>SCk b i.1) (λ_=>[]) (λi=>b.length - i.1) ⟨0,aI _,λj hj=>by omega⟩ 0 ?_ ?_ (by kernel_rfl)
 ·exact⟨by simp [SCk],by simp,by kernel_rfl,aI _⟩
 ·rintro⟨i,hil,hid⟩;refine zb.n z6 [3,31,32,40,41,42,43] (let v1:=b.getD (i:Int).toNat (0:UInt8);.D ((i:Int)<b.length) (.side ((0:Int)<=i/\(i:Int)<b.length) (.side (decide ((↑(UInt8.toNat v1):Int)<48)=false->(0:Int)<=i/\(i:Int)<b.length) (.ite (bif decide ((↑(UInt8.toNat v1):Int)<48) then true else decide ((57:Int)<(↑(UInt8.toNat v1):Int))) (.R [.i 12] []) (.S (i+1) (.leaf (.back 0 [(3,.str b),(31,.i b.length),(32,.i (i+1)),Z 40,Z 41,Z 42,Z 43] [])))))) (.D ((1000:Int)<b.length) (.R [.i 14] []) (.R [.i 0] []))) ?_;simp only [Tree.holds,zd,inR,lo,hi,aD,Bool.cond_eq_ite];refine⟨λhlt=> ?_,λhge=>⟨λhbig=> ?_,λhsm=> ?_⟩⟩
  ·have hlt:i<b.length:=by simp at hlt; omega
   refine⟨by omega,λ_=>⟨λ_=>by omega,λ_=>⟨λhbad=> ?_,λhgood=>⟨by omega,λ_=> ?_⟩⟩⟩⟩
   ·have hnd:isD (b.getD i 0)=false:=by
     rw [Q5] at hbad;simpa using hbad
    have hnf:jZ neg b=false:=by
     have:b.all isD=false:=by
      rw [List.all_eq_false];refine⟨b.getD i 0,by simp [List.getD,hlt],by simpa using hnd⟩
     simp [jZ,this]
    rw [hnf] at hq;exact RetR.scal hq rfl (by simp [resV])
   ·have hd:isD (b.getD i 0)=true:=by
     rw [Q5] at hgood;simpa using hgood
    rw [aP trivial];refine⟨⟨i+1,hlt,λj hj=> ?_⟩,by show b.length - (i+1)<b.length - i; omega,by simp [SCk],by simp,by kernel_rfl,aI _⟩;rcases aR j i with h | h
    ·exact hid j h
    ·have:j=i:=by omega
     subst this; exact hd
  all_goals
   have hge:i=b.length:=by simp at hge; omega
   have hall:b.all isD=true:=by
    rw [bG];intro c hc;obtain⟨j,hj,rfl⟩:=List.getElem_of_mem hc;have:=hid j (by omega);simpa [List.getD,hj] using this
   rw [hf hall] at hq
  ·rw [aP rfl,aP (by simp at hbig; omega)] at hq;exact RetR.scal hq rfl (by simp [resV])
  ·rw [aP rfl,aO (by simp at hsm; omega)] at hq;exact RetR.scal hq rfl (by simp [resV])
theorem QC:zc prog 74 ZX:=by
 refine zg' f74 λs hs O w0 Q hq=> ?_
 replace hq:=hq _ rfl;refine zb.n z6 [3,31,32,40,41,42,43] (let v3:we:=.ret [.i 12] [];let v1:=List.take s.length s;let v2:=List.drop 1 v1;.side (decide ((0:Int)<s.length)=true->(0:Int)<=0/\(0:Int)<s.length) (.ite (bif decide ((0:Int)<s.length) then decide ((↑(UInt8.toNat (s.getD 0 (0:UInt8))):Int)=45) else false) (.side ((0:Int)<=1/\(1:Int)<=s.length) (.D (List.drop 1 v1=#[(48:UInt8)].toList) (.leaf v3) (.side (decide (List.drop 1 v1=#[].toList)=false->(0:Int)<=0/\(0:Int)<(↑(List.length v2):Int)) (.ite (bif decide (List.drop 1 v1=#[].toList) then true else bif decide ((↑(UInt8.toNat (List.getD v2 0 (0:UInt8))):Int)=48) then decide ((1:Int)<(↑(List.length v2):Int)) else false) (.leaf v3) (.leaf (.loop (lps K74 0).1 (lps K74 0).2 [(3,.str v2),(31,.int .i64 ↑(List.length v2)),(32,.i 0),Z 40,Z 41,Z 42,Z 43] [])))))) (.side (decide (s=#[].toList)=false->(0:Int)<=0/\(0:Int)<s.length) (.ite (bif decide (s=#[].toList) then true else bif decide ((↑(UInt8.toNat (s.getD 0 (0:UInt8))):Int)=48) then decide ((1:Int)<s.length) else false) (.leaf v3) (.leaf (.loop (lps K74 0).1 (lps K74 0).2 [(3,.str s),(31,.i s.length),(32,.i 0),Z 40,Z 41,Z 42,Z 43] [])))))) ?_;simp only [Tree.holds,zd,inR,lo,hi,Bool.cond_eq_ite];cases s with
 | nil=>
  simp only [errI,parse,jZ] at hq;refine⟨by simp,λ_=>⟨λh=>by simp at h,λ_=>⟨by simp,λ_=>⟨λ_=> ?_,λh=>by simp at h⟩⟩⟩⟩;exact RetR.scal hq rfl (by simp [resV])
 | cons c b=>
  refine⟨by simp,λ_=>⟨λh=> ?_,λh=> ?_⟩⟩
  ·have hc:c=45:=by
    simp at h;have:c.toNat=45:=by omega
    exact UInt8.toNat_inj.1 this
   subst hc;have hp:parse (45::b)=(true,b):=rfl;have hd:List.drop 1 (List.take (45::b).length (45::b))=b:=by simp
   rw [hd];simp only [errI,hp] at hq;refine⟨by simp; omega,λ_=>⟨λh0=> ?_,λh0=>⟨λhne=> ?_,λ_=>⟨λhbad=> ?_,λhgood=> ?_⟩⟩⟩⟩
   ·have hb:b=[48]:=by simpa using h0
    subst hb;exact RetR.scal hq rfl rfl
   ·have:b≠[]:=by simpa using hne
    have:=List.length_pos_iff.2 this;omega
   ·have hnf:jZ true b=false:=by
     by_cases hb:b=[]
     ·subst hb; rfl
     ·rw [aO (by simpa using hb)] at hbad;split at hbad
      ·rename_i h48;have:b.getD 0 0=48:=Ko (aB h48);have hl:1<b.length:=by simp at hbad; omega
       exact kD this hl
      ·cases hbad
    rw [hnf] at hq;exact RetR.scal hq rfl (by simp [resV])
   ·have hf:b.all isD=true->jZ true b=true:=by
     intro hall
     have hb:b≠[]:=by
      intro hb; subst hb; simp at hgood
     have hb2:b≠[48]:=by simpa using h0
     rw [aO (by simpa using hb)] at hgood
     have h3:¬ (b.getD 0 0=48/\1<b.length):=by
      rintro⟨g1,g2⟩;rw [g1] at hgood;rw [aP (by decide)] at hgood;simp at hgood; omega
     simp only [jZ,hall,hb,hb2,Bool.and_true];simp only [decide_false,Bool.not_false,Bool.and_false,Bool.true_and,Bool.not_eq_true',Bool.and_eq_false_iff,aV];by_cases g1:b.getD 0 0=48
     ·exact .inr λg2=>h3 ⟨g1,g2⟩
     ·exact .inl g1
    exact Qc b (by simp at hs; omega) hf hq
  ·have hc:c≠45:=by
    rintro rfl;simp at h
   have hp:parse (c::b)=(false,c::b):=by simp [parse,hc]
   simp only [errI,hp] at hq;obtain⟨s,hs'⟩:∃ s,c::b=s:=⟨_,rfl⟩;have hne:s≠[]:=by rw [<- hs']; simp
   rw [hs'] at hq hs ⊢;refine⟨λ_=>⟨by omega,by have:=List.length_pos_iff.2 hne; omega⟩,λ_=>⟨λhbad=> ?_,λhgood=> ?_⟩⟩
   ·have hnf:jZ false s=false:=by
     rw [aO (by simpa using hne)] at hbad;split at hbad
     ·rename_i h48;have:s.getD 0 0=48:=Ko (aB h48);have hl:1<s.length:=by simp at hbad; omega
      exact kD this hl
     ·cases hbad
    rw [hnf] at hq;exact RetR.scal hq rfl (by simp [resV])
   ·have hf:s.all isD=true->jZ false s=true:=by
     intro hall;rw [aO (by simpa using hne)] at hgood
     have h3:¬ (s.getD 0 0=48/\1<s.length):=by
      rintro⟨g1,g2⟩;rw [g1] at hgood;rw [aP (by decide)] at hgood;simp at hgood; omega
     simp only [jZ,hall,hne,Bool.and_true];simp only [decide_false,Bool.not_false,Bool.false_and,Bool.true_and,Bool.not_eq_true',Bool.and_eq_false_iff,aV];by_cases g1:s.getD 0 0=48
     ·exact .inr λg2=>h3 ⟨g1,g2⟩
     ·exact .inl g1
    exact Qc s hs hf hq
def numV(neg:Bool)(x:Nat):AV:=.agg [.bool neg,magS x]
def Zb:Ctr:=ctrP false (λp:L8×L8=>[.str p.1,.str p.2]) (λp=>p.1.length<2^62/\p.2.length<2^62) (λp (r:Int×(Bool×Nat)×(Bool×Nat))=>r=if zr p.1 p.2=0 then(0,(negI p.1,numI p.1),(negI p.2,numI p.2)) else(zr p.1 p.2,(false,0),(false,0)))
 (λ_ r=>(.tup [numV r.2.1.1 r.2.1.2,numV r.2.2.1 r.2.2.2,.i r.1],[]))
noncomputable def G5:=tb QC (tb zhr tz)
theorem zjw:canon 0=[]:=by simp [canon]
abbrev q16(A:List AV)(x:Bool×L8):Prop:=eqL A [.str (sgn x.1 x.2)]/\allD x.2/\x.2≠[]/\x.2.length<=1000000
abbrev q15(A:List AV)(x:L8):Prop:=eqL A [.str x]/\x.length<4611686018427387904
theorem Wz:zc prog 113 Zb:=by
 refine zg' f113 λp hp O w0 Q hq=> ?_
 obtain⟨s,t⟩:=p;obtain⟨hs,ht⟩:=hp;replace hq:=hq _ rfl;simp only at hs ht hq;refine zb.n G5.h [] (let v1:List AV:=[.bool false,.nils];.ex (q15 [.str s]) λn=>.all (λ(r:Int)=>r=errI n) λn=>.D (n=0) (.ex (q15 [.str t]) λn=>.all (λ(r:Int)=>r=errI n) λn=>.N (n=0) (.R [.agg v1,.agg v1,.i n] [.box v1,.box v1]) (.ex (q16 [.str s]) λn=>.all (λ(r:Nat)=>r=numD n.2) λn_1=>let v4:List AV:=[.bool n.1,.sl (canon n_1).length 1 (natG .u32 (canon n_1))];.ex (q16 [.str t]) λn_2=>.all (λ(r:Nat)=>r=numD n_2.2) λn_3=>let v2:List AV:=[.bool n_2.1,.sl (canon n_3).length 1 (natG .u32 (canon n_3))];.R [.agg v4,.agg v2,.i 0] [.box v4,.box v2])) (.N (n=0) (.R [.agg v1,.agg v1,.i n] [.box v1,.box v1]) (.ex (q16 [.str s]) λn=>.all (λ(r:Nat)=>r=numD n.2) λn_1=>let v5:List AV:=[.bool n.1,.sl (canon n_1).length 1 (natG .u32 (canon n_1))];.ex (q16 [.str t]) λn_2=>.all (λ(r:Nat)=>r=numD n_2.2) λn_3=>let v3:List AV:=[.bool n_2.1,.sl (canon n_3).length 1 (natG .u32 (canon n_3))];.R [.agg v5,.agg v3,.i 0] [.box v5,.box v3]))) ?_
 have bad:∀ h,zr s t≠0->RetR Zb 0 Q [.agg [.bool false,.nils],.agg [.bool false,.nils],.i (zr s t)] h:=by
  intro h he;rw [aO he] at hq;refine RetR.out0 hq (λh=>by simp [Zb,ctrP] at h) ?_;simp [resV,exp2,exp1,exp0,ren0,eqA2,eqL1,eqA,eqL0,eqA0,numV,magS,natS,zjw]
 have good:∀ h,zr s t=0->RetR Zb 0 Q [.agg [.bool (negI s),magS (numI s)],.agg [.bool (negI t),magS (numI t)],.i 0] h:=by
  intro h he;rw [aP he] at hq;refine RetR.out0 hq (λh=>by simp [Zb,ctrP] at h) ?_;simp [resV,exp2,exp1,exp0,ren0,eqA2,eqL1,eqA,eqL0,eqA0,numV,magS,natS,za]
 have rd:∀ u,errI u=0->eqL [.str u] [.str (sgn (negI u) (parse u).2)]/\allD (parse u).2/\(parse u).2≠[]/\(parse u).2.length<=1000000:=by
  intro u hu;obtain⟨h1,h2,h3,h4⟩:=ZK hu;exact⟨by simpa using h1,h2,h3,by omega⟩
 simp only [Tree.holds,zd];refine⟨s,⟨by simp,by omega⟩,?_⟩;refine⟨⟨_,rfl⟩,?_⟩;rintro _ rfl;refine⟨λh1=> ?_,λh1=> ?_⟩
 ·have h1:errI s=0:=by simpa using h1
  refine⟨t,⟨by simp,by omega⟩,?_⟩;refine⟨⟨_,rfl⟩,?_⟩;rintro _ rfl;refine⟨λh2=> ?_,λh2=> ?_⟩
  ·have h2:errI t≠0:=by simpa using h2
   have e:zr s t=errI t:=by simp [zr,h1]
   rw [<- e];exact bad _ (by rw [e]; exact h2)
  ·have h2:errI t=0:=by simpa using h2
   refine⟨(negI s,(parse s).2),rd s h1,?_⟩;refine⟨⟨_,rfl⟩,?_⟩;rintro _ rfl;refine⟨(negI t,(parse t).2),rd t h2,?_⟩;refine⟨⟨_,rfl⟩,?_⟩;rintro _ rfl;exact good _ (zl.2 ⟨h1,h2⟩)
 ·have h1:errI s≠0:=by simpa using h1
  have e:zr s t=errI s:=by simp [zr,h1]
  refine⟨λh2=> ?_,λh2=>absurd (by simpa using h2) h1⟩;rw [<- e];exact bad _ (by rw [e]; exact h1)
noncomputable def G6:=tb Wz (tb JB (tb QA tz))
def gcdC:Ctr:=ctrP true (λp:L8×L8=>[.str p.1,.str p.2]) (λp=>p.1.length<2^62/\p.2.length<2^62) (λp r=>r=gcdR p.1 p.2) (λ_ r=>(.tup [.str r.1,.i r.2],[]))
def SGc:KV:=[(6,.ptr 0 0),(7,.ptr 1 0)]
def HGc(m n:Bool)(x y:Nat):Heap:=[.box [.bool m,magS x],.box [.bool n,magS y]]
theorem jG{x:Nat} : x<B^112↔(canon x).length<=112:=by
 refine⟨λh=>zw h,λh=> ?_⟩;have h1:=qp (zi x);rw [zk] at h1;exact bB h1 (bW (by decide) h)
theorem xM{x:Nat} : (canon x).length=0↔x=0:=by
 constructor
 ·intro h;have:=zk x;rw [aU.1 h] at this;exact this.symm
 ·rintro rfl; simp [canon]
abbrev q19(A:List AV)(x:Bool×Nat):Prop:=eqL A [.agg [.bool x.1,.sl (canon x.2).length 1 (natG .u32 (canon x.2))]]/\List.length (canon x.2)<1000000
abbrev q18(A:List AV)(x:Nat×Nat):Prop:=eqL A [.sl (canon x.1).length 1 (natG .u32 (canon x.1)),.sl (canon x.2).length 1 (natG .u32 (canon x.2))]/\List.length (canon x.1)<100000/\List.length (canon x.2)<100000/\0<x.2
abbrev q17(A:List AV)(x:L8×L8):Prop:=eqL A [.str x.1,.str x.2]/\x.1.length<4611686018427387904/\x.2.length<4611686018427387904
theorem zd9:zc prog 75 gcdC:=by
 refine zg' f75 λp hp O w0 Q hq=> ?_
 obtain⟨s,t⟩:=p;obtain⟨hs,ht⟩:=hp;replace hq:=hq _ rfl;simp only at hs ht hq;refine zb.n G6.h [6,7] (.ex (q17 [.str s,.str t]) λn=>.all (λ(r:Int×(Bool×Nat)×Bool×Nat)=>r=if zr n.1 n.2=0 then((0:Int),(negI n.1,numI n.1),negI n.2,numI n.2) else(zr n.1 n.2,(false,0),false,0)) λn=>let v1:List Blk:=[.box [.bool n.2.1.1,.sl (canon n.2.1.2).length 1 (natG .u32 (canon n.2.1.2))],.box [.bool n.2.2.1,.sl (canon n.2.2.2).length 1 (natG .u32 (canon n.2.2.2))]];.N (n.1=0) (.R [.str #[].toList,.i n.1] v1) (.leaf (.loop (lps K75 0).1 (lps K75 0).2 [(6,.ptr 0 0),(7,.ptr 1 0)] v1))) ?_;simp only [q17,Tree.holds,zd];refine⟨(s,t),⟨by simp,hs,ht⟩,⟨_,rfl⟩,?_⟩;rintro _ rfl;refine⟨λhe=> ?_,λhe=> ?_⟩
 ·have he:zr s t≠0:=by
   intro h; simp [h] at he
  have e:gcdR s t=([],zr s t):=by simp [gcdR,he]
  simp only [aO he];rw [e] at hq;exact RetR.scal hq rfl (by simp [resV])
 ·have he:zr s t=0:=by
   refine bM λh=> ?_
   simp [h] at he
  simp only [aP he];have e:gcdR s t=wr false (Nat.gcd (numI s) (numI t)):=by simp [gcdR,he]
  rw [e] at hq;obtain⟨h1,h2⟩:=zl.1 he;have b1:=jG.2 (ym h1);have b2:=jG.2 (ym h2);clear e he h1 h2 hs ht;generalize numI s=x0 at *
  generalize numI t=y0 at *
  refine zb.loop (ι:={z:Bool×Bool×Nat×Nat // Nat.gcd z.2.2.1 z.2.2.2=Nat.gcd x0 y0/\z.2.2.1<B^112/\z.2.2.2<B^112}) (λ_=>SGc) (λz=>HGc z.1.1 z.1.2.1 z.1.2.2.1 z.1.2.2.2) (λz=>z.1.2.2.2) ⟨(negI s,negI t,x0,y0),rfl,b1,b2⟩ 0 ?_ ?_ (by kernel_rfl)
  ·exact⟨by simp [SGc],by simp [HGc,magS,natS,za],by kernel_rfl,aI _⟩
  ·rintro⟨⟨m,n,x,y⟩,hg,hx,hy⟩;simp only at hg hx hy;refine zb.n G6.h [6,7] (let v2:=natG .u32 (canon y);let v1:=natG .u32 (canon x);.D ((0:Int)<((canon y).length:Int)) (.ex (q18 [.sl (canon x).length 1 v1,.sl (canon y).length 1 v2]) λn_1=>.all (λ(r:Nat×Nat)=>r=(n_1.1/n_1.2,n_1.1%n_1.2)) λn_2=>.leaf (.back 0 [(6,.ptr 0 0),(7,.ptr 1 0)] [.box [.bool m,.sl (canon y).length 1 v2],.box [.bool n,.sl (canon n_2.2).length 1 (natG .u32 (canon n_2.2))]])) (.ex (q19 [.agg [.bool false,.sl (canon x).length 1 v1]]) λn_1=>.all (λ(r:L8×Int)=>r=wr n_1.1 n_1.2) λn_2=>.R [.str n_2.1,.i n_2.2] [.box [.bool m,.sl (canon x).length 1 v1],.box [.bool n,.sl (canon y).length 1 v2]])) ?_;simp only [q18,q19,Tree.holds,zd,inR,lo,hi];refine⟨λh0=> ?_,λh0=> ?_⟩
   ·have hy0:0<y:=by
     rcases bC y with h | h
     ·rw [h] at h0; simp [canon] at h0
     ·exact h
    refine⟨(x,y),⟨by simp [za],?_,?_,hy0⟩,⟨_,rfl⟩,?_⟩
    ·have:=jG.1 hx; show(canon x).length<100000; omega
    ·have:=jG.1 hy; show(canon y).length<100000; omega
    rintro _ rfl;simp only;rw [aP trivial];refine⟨⟨(m,n,y,x%y),?_,hy,Nat.lt_trans (Nat.mod_lt x hy0) hy⟩,Nat.mod_lt x hy0,by simp [SGc],by simp [HGc,magS,natS,za],by kernel_rfl,aI _⟩;show Nat.gcd y (x%y)=Nat.gcd x0 y0;rw [<- hg,Nat.gcd_comm x y,Nat.gcd_rec y x,Nat.gcd_comm]
   ·have hy0:y=0:=xM.1 (by have h0:=aC h0; omega);subst hy0;refine⟨(false,x),⟨by simp [za],?_⟩,⟨_,rfl⟩,?_⟩
    ·have:=jG.1 hx; show(canon x).length<1000000; omega
    rintro _ rfl;rw [Nat.gcd_zero_right] at hg;rw [<- hg] at hq;exact RetR.scal hq rfl (by simp [resV])
theorem Vx{h:Heap}{i sz off n n':Nat}{g:Nat->Nat->AV}(hb:h[i]?=some (.arr n' sz g))(hn:off+n<=n'):exp0 h [] (.osl i sz off n) = .sl n sz (zf g off):=by
 simp [exp0,zz,frz1,wi,hb,hn]
theorem zd1{h:Heap}{i sz off n n':Nat}{g:Nat->Nat->AV}(hb:h[i]?=some (.arr n' sz g))(hn:off+n<=n')(hs:∀ j o,j<n->o<sz->qe (zf g off j o)=true):new0 h [] (.osl i sz off n):=by
 simp only [new0];intro _;rw [Vx hb hn];exact hs
theorem zko(g:Nat->Nat->AV):zf g 0=g:=by
 funext j o; simp [zf]
def big:Nat:=1000
end Go.Proofs.Tryz
end
section
namespace Go.Proofs
set_option maxHeartbeats 1000000 in
set_option maxRecDepth 100000 in
theorem Tryz.KD(s:ByteArray)(c:Int)(w:World) :
  Calls Tryz.prog 166 #[.string s,.int .u8 c] w λe w'=>e = .returned (.i (Lib.indexByte s.data.toList c.toNat.toUInt8))/\w'=w:=by
 go_enter Tryz.func166,Tryz.ntmps166
 go_wp2
 rw [run_callFunc_extern Tryz.func171 (by kernel_rfl) (by kernel_rfl) (by kernel_rfl) (e:=Extern.BytealgIndexByte.indexByte) (by kernel_rfl),Lib.run_indexByteString];simp only [Result.andThen];rw [Oper.upon_value]
 go_wp2
 go_ret
 exact⟨rfl,rfl⟩
set_option maxHeartbeats 2000000 in
set_option maxRecDepth 100000 in
theorem Tryz.Xv(s:ByteArray)(c:UInt8)(w:World) :
  Calls Tryz.prog 159 #[.string s,.string ⟨#[c]⟩] w λe w'=>e = .returned (.i (Lib.indexByte s.data.toList c))/\w'=w:=by
 go_enter Tryz.func159,Tryz.ntmps159
 go_wp2_with (go_at_call 166; refine(Tryz.KD _ _ _).mono ?_; rintro e w' ⟨rfl,rfl⟩)
 ·have h:([c] == s.toList)=true:=by assumption
  go_ret
  refine⟨?_,rfl⟩;have e:s.data.toList=[c]:=by rw [<- Lib.toList_data]; exact(beq_iff_eq.1 h).symm
  rw [e];simp [Lib.indexByte]
 ·go_ret
  exact⟨rfl,rfl⟩
end Go.Proofs
end
section
set_option maxRecDepth 100000
open Go Go.Sx Go.Proofs Go.Nov
namespace Go.Proofs.Tryz
attribute [local simp] eqKV eqA eqA0 eqH eqB eqL eqL0
theorem Zn(s:L8):Lib.indexByte s 47=if zB s<s.length then(zB s:Int) else -1:=by
 induction s with
 | nil=>rfl
 | cons c s ih=>
  simp only [Lib.indexByte,zB,List.findIdx_cons];cases h:(c == 47) with
  | true=>simp
  | false=>
   simp only [Bool.false_eq_true,if_false,ih,cond_false,aL];show _=if zB s+1<s.length+1 then((zB s+1:Nat):Int) else -1
   by_cases h2:zB s<s.length
   ·rw [aP h2,aO (by simp),aP (by omega)]; omega
   ·rw [aO h2,aP (by rfl),aO (by omega)]
def Ye:Ctr:=ctrP true (λs:L8=>[.str s,.str [47]]) (λs=>True) (λs r=>r=if zB s<s.length then(zB s:Int) else -1) (λ_ (r:Int)=>(.i r,[]))
theorem zc6:zc prog 159 Ye:=by
 intro args hc Q hq _;simp only [Ye,ctrP] at hq;split at hq
 ·obtain⟨s,⟨h1,_⟩,_,h3⟩:=hq;have hq:=h3 _ rfl;simp only [Tree.holds] at hq;refine jv.le h1 ?_;intro O w σ vals hg hh hr;simp only [RepL,Rep] at hr;obtain⟨v1,r1,rfl,rfl,v2,r2,rfl,rfl,rfl⟩:=hr;refine .inl ⟨enters_of Tryz.func159 (by kernel_rfl) rfl ..,?_⟩;refine(Tryz.Xv ⟨s.toArray⟩ 47 w).mono ?_;rintro e w' ⟨rfl,rfl⟩;have hx:=Zn s;have h0:σ=[]:=aU.1 hh.len;subst h0;refine⟨_,rfl,_,[],[],hq,?_,⟨rfl,λi j e f a b h=>by simp at h,λi e a h=>by simp at h,λi e b h=>by simp at h⟩,hg,aJ _,Hold.refl _ _ _,Ext.refl _ _⟩;simp only [Rep];rw [<- hx]
 ·exact hq.elim
def cutC:Ctr:=ctrP true (λs:L8=>[.str s,.str [47]]) (λs=>s.length<2^62) (λs r=>r=cutR s) (λ_ r=>(.tup [.str r.1,.str r.2.1,.bool r.2.2],[]))
noncomputable def GC1:=tb zc6 tz
theorem zhe:zc prog 139 cutC:=by
 refine zg' f139 λs hs O w0 Q hq=> ?_
 replace hq:=hq _ rfl;refine zb.n GC1.h [] (.ex (λ(x:L8)=>eqL [.str s,.str [(47:UInt8)]] [.str x,.str [(47:UInt8)]]/\True) λn=>.all (λ(r:Int)=>r=if zB n<n.length then(↑(zB n):Int) else(-1:Int)) λn=>.D ((0:Int)<=n) (.side ((0:Int)<=n/\n<=(s.length:Int)) (.S (n+(1:Int)) (.side ((0:Int)<=n+(1:Int)/\n+(1:Int)<=s.length) (.R [.str (List.drop 0 (List.take (Int.toNat n) s)),.str (List.drop (Int.toNat (n+(1:Int))) (List.take s.length s)),.bool true] [])))) (.R [.str s,.str #[].toList,.bool false] [])) ?_;simp only [Tree.holds,zd,inR,lo,hi];refine⟨s,⟨by simp,trivial⟩,⟨_,rfl⟩,?_⟩;rintro _ rfl;by_cases h:zB s<s.length
 ·simp only [aP h];rw [Yv h] at hq;refine⟨λ_=>⟨by omega,λ_=>⟨by omega,λ_=>⟨by omega,λ_=> ?_⟩⟩⟩,λhn=> ?_⟩
  ·refine RetR.scal hq rfl ?_;simp [resV]
  ·have:=aC hn; omega
 ·simp only [aO h];rw [zb8 h] at hq;refine⟨λhn=> ?_,λ_=>RetR.scal hq rfl (by simp [resV])⟩;have:=aB hn; omega
noncomputable def GC2:=tb zhe tz
abbrev q20(A:List AV)(x:L8):Prop:=eqL A [.str x,.str [(47:UInt8)]]/\x.length<4611686018427387904
theorem zj0:zc prog 112 cutC:=by
 refine zg' f112 λs hs O w0 Q hq=> ?_
 replace hq:=hq _ rfl;refine zb.n GC2.h [] (.ex (q20 [.str s,.str [(47:UInt8)]]) λn=>.all (λ(r:L8×L8×Bool)=>r=cutR n) λn=>.R [.str n.1,.str n.2.1,.bool n.2.2] []) ?_;simp only [q20,Tree.holds,zd,inR,lo,hi];refine⟨s,⟨by simp,hs⟩,⟨_,rfl⟩,?_⟩;rintro _ rfl;exact RetR.scal hq rfl (by simp [resV])
def Xx:Ctr:=ctrP true (λs:L8=>[.str s]) (λs=>s.length<2^62) (λs r=>r=cutR s) (λ_ r=>(.tup [.str r.1,.str r.2.1,.bool r.2.2],[]))
noncomputable def GC3:=tb zj0 (tb QC tz)
theorem V5:zc prog 72 Xx:=by
 refine zg' f72 λs hs O w0 Q hq=> ?_
 replace hq:=hq _ rfl;refine zb.n GC3.h [] (.ex (q20 [.str s,.str #[(47:UInt8)].toList]) λn=>.all (λ(r:L8×L8×Bool)=>r=cutR n) λn=>.R [.str n.1,.str n.2.1,.bool n.2.2] []) ?_;simp only [q20,Tree.holds,zd,inR,lo,hi];refine⟨s,⟨by simp,hs⟩,⟨_,rfl⟩,?_⟩;rintro _ rfl;exact RetR.scal hq rfl (by simp [resV])
def zit:Ctr:=ctrP true (λs:L8=>[.str s]) (λs=>s.length<2^62) (λs r=>r=if errI s=12 then 12 else 0) (λ_ (r:Int)=>(.i r,[]))
theorem zh5:zc prog 73 zit:=by
 refine zg' f73 λs hs O w0 Q hq=> ?_
 replace hq:=hq _ rfl;refine zb.n GC3.h [] (.ex (q15 [.str s]) λn=>.all (λ(r:Int)=>r=errI n) λn=>.N (n=14) (.R [.i n] []) (.R [.i 0] [])) ?_;simp only [q15,Tree.holds,zd,inR,lo,hi];refine⟨s,⟨by simp,hs⟩,⟨_,rfl⟩,?_⟩;rintro _ rfl;rcases kH s with h | h | h<;>simp only [h] at hq ⊢
 all_goals
  refine⟨λh=> ?_,λh=> ?_⟩
  all_goals first
   | (exfalso; revert h; decide)
   | exact RetR.scal hq rfl (by simp [resV])
def vN:Ctr:=ctrP true (λs:L8=>[.str s]) (λs=>s.length<2^62) (λs r=>r=errR s) (λ_ (r:Int)=>(.i r,[]))
noncomputable def GC4:=tb V5 (tb zh5 (tb QC (tb zd9 tz)))
theorem w8:zc prog 39 vN:=by
 refine zg' f39 λs hs O w0 Q hq=> ?_
 replace hq:=hq _ rfl;refine zb.n GC4.h [] (.ex (q15 [.str s]) λn=>.all (λ(r:L8×L8×Bool)=>r=cutR n) λn=>.ex (q15 [.str n.1]) λn_1=>.all (λ(r:Int)=>r=if errI n_1=12 then(12:Int) else(0:Int)) λn_2=>.ex (λ(x:L8)=>(!decide (n_2=0))=false/\n.2.2=true->q15 [.str n.2.1] x) λn_3=>.all (λ(x:Int)=>(!decide (n_2=0))=false/\n.2.2=true->x=if errI n_3=12 then(12:Int) else(0:Int)) λn_4=>.side (((!decide (n_2=0))=false/\n.2.2=true)/\(!decide (n_4=0))=false->(0:Int)<=0/\(0:Int)<n.2.1.length) (.ite (bif !decide (n_2=0) then true else bif n.2.2 then bif bif bif !decide (n_4=0) then true else decide ((↑(UInt8.toNat (List.getD n.2.1 0 (0:UInt8))):Int)=45) then true else decide (n.2.1=#[(48:UInt8)].toList) then true else decide (n.2.1=#[(49:UInt8)].toList) else false) (.R [.i 12] []) (.ex (q15 [.str n.1]) λn_5=>.all (λ(r:Int)=>r=errI n_5) λn_6=>.ex (λ(x:L8)=>(!decide (n_6=0))=false/\n.2.2=true->q15 [.str n.2.1] x) λn_7=>.all (λ(x:Int)=>(!decide (n_6=0))=false/\n.2.2=true->x=errI n_7) λn_8=>.ite (bif !decide (n_6=0) then true else bif n.2.2 then !decide (n_8=0) else false) (.R [.i 14] []) (.ite n.2.2 (.ex (q17 [.str n.1,.str n.2.1]) λn=>.all (λ(r:L8×Int)=>r=gcdR n.1 n.2) λn=>.N (n.1=#[(49:UInt8)].toList) (.R [.i 12] []) (.R [.i 0] [])) (.R [.i 0] []))))) ?_;simp only [q15,q17,Tree.holds,zd,inR,lo,hi];refine⟨s,⟨by simp,hs⟩,⟨_,rfl⟩,?_⟩;rintro _ rfl;have hlen:=WN s
 have hno:(cutR s).2.2=false->(cutR s).1=s:=by
  intro h;unfold cutR at h ⊢;split at h
  ·cases h
  ·rename_i hn; rw [aO hn]
 simp only [errR] at hq;generalize cutR s=c at hq hlen hno ⊢;obtain⟨n,d,f⟩:=c;simp only at hq hlen hno ⊢;refine⟨n,⟨by simp,by omega⟩,⟨_,rfl⟩,?_⟩;rintro _ rfl;refine⟨d,λ_=>⟨by simp,by omega⟩,⟨_,λ_=>rfl⟩,?_⟩;intro fd hfd;cases f with
 | false=>
  have hn:=hno rfl;subst hn;rw [aO (by decide)] at hq;refine⟨λh=>by simp at h,λ_=>⟨λh=> ?_,λh=> ?_⟩⟩
  ·rcases kH n with e | e | e<;>rw [e] at hq h
   ·simp at h
   ·exact RetR.scal hq rfl (by simp [resV])
   ·simp at h
  ·have hn12:errI n≠12:=by
    intro e; rw [e] at h; simp at h
   refine⟨n,⟨by simp,by omega⟩,⟨_,rfl⟩,?_⟩;rintro _ rfl;refine⟨d,λ_=>⟨by simp,by omega⟩,⟨_,λ_=>rfl⟩,?_⟩;intro fd2 _;refine⟨λh=> ?_,λh=>⟨λh=>(by cases h),λ_=> ?_⟩⟩
   ·rcases kH n with e | e | e
    ·rw [e] at h; simp at h
    ·exact absurd e hn12
    ·rw [e] at hq; exact RetR.scal hq rfl (by simp [resV])
   ·rcases kH n with e | e | e
    ·rw [e] at hq; exact RetR.scal hq rfl (by simp [resV])
    ·exact absurd e hn12
    ·rw [e] at h; simp at h
 | true=>
  rw [aP rfl] at hq;by_cases hn:errI n=12
  ·rw [aP (.inl hn)] at hq;simp only [hn];refine⟨λh=>by simp at h,λ_=>⟨λ_=>RetR.scal hq rfl (by simp [resV]),λh=>by simp at h⟩⟩
  ·rw [aO hn] at hfd ⊢;have hfd:=hfd ⟨by simp,rfl⟩;subst hfd;by_cases hd:errI d=12
   ·rw [aP (.inr (.inl hd))] at hq;rw [aP hd];refine⟨λh=>by simp at h,λ_=>⟨λ_=>RetR.scal hq rfl (by simp [resV]),λh=>by simp at h⟩⟩
   ·rw [aO hd];have hd0:d≠[]:=by rintro rfl; exact hd KF
    have hneg:=Jz hd0
    have hneg2:decide (((d.getD 0 0).toNat:Int)=45)=negI d:=by
     rw [hneg];by_cases h:d.getD 0 0=45
     ·rw [h]; rfl
     ·rw [aW h];refine aW λh2=>h (Ko ?_)
      rw [h2]; rfl
    rw [hneg2];refine⟨λ_=>by have:=List.length_pos_iff.2 hd0; omega,λ_=>⟨λh=> ?_,λh=> ?_⟩⟩
    ·have:negI d=true\/d=[48]\/d=[49]:=by
      revert h
      cases negI d<;>simp
     rw [aP (.inr (.inr this))] at hq;exact RetR.scal hq rfl (by simp [resV])
    ·have:¬ (errI n=12\/errI d=12\/negI d=true\/d=[48]\/d=[49]):=by
      revert h
      cases negI d<;>simp [hn,hd]
     rw [aO this] at hq;refine⟨n,⟨by simp,by omega⟩,⟨_,rfl⟩,?_⟩;rintro _ rfl;refine⟨d,λ_=>⟨by simp,by omega⟩,⟨_,λ_=>rfl⟩,?_⟩;intro ed hed;by_cases hn0:errI n=0
     ·have hed:=hed ⟨by simp [hn0],rfl⟩;subst hed;by_cases hd0:errI d=0
      ·rw [aO (by simp [hn0,hd0])] at hq;refine⟨λh=>by simp [hn0,hd0] at h,λ_=>⟨λ_=> ?_,λh=>by cases h⟩⟩;refine⟨(n,d),⟨by simp,by simp only; omega,by simp only; omega⟩,⟨_,rfl⟩,?_⟩;rintro _ rfl;refine⟨λh=> ?_,λh=> ?_⟩
       ·rw [aP (by simpa using h)] at hq;exact RetR.scal hq rfl (by simp [resV])
       ·rw [aO (by simpa using h)] at hq;exact RetR.scal hq rfl (by simp [resV])
      ·rw [aP (.inr hd0)] at hq;refine⟨λ_=>RetR.scal hq rfl (by simp [resV]),λh=>by simp [hn0,hd0] at h⟩
     ·rw [aP (.inl hn0)] at hq;refine⟨λ_=>RetR.scal hq rfl (by simp [resV]),λh=>by simp [hn0] at h⟩
noncomputable def K102:=Go.Sx.aA f102
def Z1:Ctr:=ctrP true (λd:Int=>[.i d]) (λ_=>True) (λd r=>r=dayB d) (λ_ (r:Bool)=>(.bool r,[]))
theorem u7:zc prog 63 Z1:=by
 refine zg' f63 λd hs O w0 Q hq=> ?_
 replace hq:=hq _ rfl;refine zb.n z6 [] (.R [.bool (bif decide ((0:Int)<=d) then decide (d<=99999) else false)] []) ?_;simp only [Tree.holds,zd];refine RetR.scal hq rfl ?_;simp only [resV,dayB];cases decide (0<=d)<;>rfl
theorem zg9(c:UInt8):(bif bif decide (97<=(c.toNat:Int)) then decide ((c.toNat:Int)<=122) else false then true else bif decide (65<=(c.toNat:Int)) then decide ((c.toNat:Int)<=90) else false)=isL c:=by
 have e1:decide (97<=(c.toNat:Int))=decide (97<=c.toNat):=decide_eq_decide.2 (by omega);have e2:decide ((c.toNat:Int)<=122)=decide (c.toNat<=122):=decide_eq_decide.2 (by omega);have e3:decide (65<=(c.toNat:Int))=decide (65<=c.toNat):=decide_eq_decide.2 (by omega);have e4:decide ((c.toNat:Int)<=90)=decide (c.toNat<=90):=decide_eq_decide.2 (by omega);rw [e1,e2,e3,e4];simp only [isL];cases decide (97<=c.toNat)<;>cases decide (c.toNat<=122)<;>cases decide (65<=c.toNat)<;>rfl
def YD:Ctr:=ctrP true (λc:UInt8=>[.int .u8 (c.toNat:Int)]) (λ_=>True) (λc r=>r=isL c) (λ_ (r:Bool)=>(.bool r,[]))
theorem U4:zc prog 136 YD:=by
 refine zg' f136 λc hs O w0 Q hq=> ?_
 replace hq:=hq _ rfl;refine zb.n z6 [] (.R [.bool (bif bif decide ((97:Int)<=(↑(UInt8.toNat c):Int)) then decide ((↑(UInt8.toNat c):Int)<=122) else false then true else bif decide ((65:Int)<=(↑(UInt8.toNat c):Int)) then decide ((↑(UInt8.toNat c):Int)<=90) else false)] []) ?_;simp only [Tree.holds,zd];refine RetR.scal hq rfl ?_;simp only [resV];rw [zg9]
theorem J2(c d:UInt8):decide ((c.toNat:Int)=(d.toNat:Int))=(c == d):=by
 by_cases h:c=d
 ·subst h; simp
 ·rw [aW λh2=>h (Ko h2)];simp [h]
theorem zh3(c:UInt8):(bif decide ((c.toNat:Int)<48) then true else decide (57<(c.toNat:Int))) = !isD c:=by
 rw [Bool.cond_eq_ite]; exact Q5 c
theorem zeq(c:UInt8):(bif bif bif !isL c then bif decide ((c.toNat:Int)<48) then true else decide (57<(c.toNat:Int)) else false then !decide ((c.toNat:Int)=95) else false then !decide ((c.toNat:Int)=45) else false) = !isN c:=by
 rw [zh3];have e1:decide ((c.toNat:Int)=95)=(c == 95):=J2 c 95;have e2:decide ((c.toNat:Int)=45)=(c == 45):=J2 c 45;rw [e1,e2]; simp only [isN];cases isL c<;>cases isD c<;>cases (c == 95)<;>cases (c == 45)<;>rfl
def YL:Ctr:=ctrP true (λs:L8=>[.str s]) (λs=>s.length<2^62) (λs r=>r=wR s) (λ_ (r:Bool)=>(.bool r,[]))
noncomputable def GN1:=tb U4 tz
def SNa(s:L8)(i:Nat):KV:=[(0,.str s),(20,.i (s.length:Int)),(21,.i (i:Int)),Z 31,Z 32,Z 33,Z 34,Z 35,Z 36,Z 39,Z 40,Z 43,Z 44]
theorem UJ{O:Nat->Prop}{w0:World}{Q:AV×Heap->Prop}{Hs:Nat->KV->Heap->Prop}(s:L8)(hs:s.length<2^62)(hq:Q (.bool (s.all isN),[])) :
  zb prog f102 O 0 w0 [] Hs (RetR YL 0 Q) (.code (.loop (lps K102 0).1)::(lps K102 0).2) (mk f102.ntmps (SNa s 0) []):=by
 refine zb.loop (ι:={i:Nat // i<=s.length/\∀ j,j<i->isN (s.getD j 0)=true}) (λi=>SNa s i.1) (λ_=>[]) (λi=>s.length - i.1) ⟨0,aI _,λj hj=>by omega⟩ 0 ?_ ?_ (by kernel_rfl)
 ·exact⟨by simp [SNa],by simp,by kernel_rfl,aI _⟩
 ·rintro⟨i,hil,hib⟩;refine zb.n GN1.h [0,20,21,31,32,33,34,35,36,39,40,43,44] (let v1:=s.getD (i:Int).toNat (0:UInt8);.D ((i:Int)<s.length) (.side ((0:Int)<=i/\(i:Int)<s.length) (.ex (λ(x:UInt8)=>eqL [.int .u8 ↑(UInt8.toNat v1)] [.int .u8 ↑(UInt8.toNat x)]/\True) λn=>.all (λ(r:Bool)=>r=isL n) λn=>.ite (bif bif bif !n then bif decide ((↑(UInt8.toNat v1):Int)<48) then true else decide ((57:Int)<(↑(UInt8.toNat v1):Int)) else false then !decide ((↑(UInt8.toNat v1):Int)=95) else false then !decide ((↑(UInt8.toNat v1):Int)=45) else false) (.R [.bool false] []) (.S (i+1) (.leaf (.back 0 [(0,.str s),(20,.i s.length),(21,.i (i+1)),Z 31,Z 32,Z 33,Z 34,Z 35,Z 36,Z 39,Z 40,Z 43,Z 44] []))))) (.R [.bool true] [])) ?_;simp only [Tree.holds,zd,inR,lo,hi,aD];refine⟨λhlt=> ?_,λhge=> ?_⟩
  ·have hlt:i<s.length:=by have:=aB hlt; omega
   refine⟨by omega,λ_=>⟨s.getD i 0,⟨by simp,trivial⟩,⟨_,rfl⟩,?_⟩⟩;rintro _ rfl;rw [zeq];refine⟨λh=> ?_,λh=>⟨by omega,λ_=> ?_⟩⟩
   ·rw [Vd hlt (by simpa using h)] at hq;exact RetR.scal hq rfl (by simp [resV])
   ·rw [aP trivial];refine⟨⟨i+1,hlt,λj hj=> ?_⟩,by show s.length - (i+1)<s.length - i; omega,by simp [SNa],by simp,by kernel_rfl,aI _⟩;rcases aR j i with h1 | h1
    ·exact hib j h1
    ·have:j=i:=by omega
     rw [this]; simpa using h
  ·have hge:i=s.length:=by have:=aC hge; omega
   subst hge;rw [zfk hib] at hq;exact RetR.scal hq rfl (by simp [resV])
theorem YB:zc prog 102 YL:=by
 refine zg' f102 λs hs O w0 Q hq=> ?_
 replace hq:=hq _ rfl;refine zb.n GN1.h [0,20,21,31,32,33,34,35,36,39,40,43,44] (.side ((bif decide ((s.length:Int)<1) then true else decide ((40:Int)<s.length))=false->(0:Int)<=0/\(0:Int)<s.length) (.ex (λ(x:UInt8)=>(bif decide ((s.length:Int)<1) then true else decide ((40:Int)<s.length))=false->eqL [.int .u8 ↑(UInt8.toNat (s.getD 0 (0:UInt8)))] [.int .u8 ↑(UInt8.toNat x)]/\True) λn=>.all (λ(x:Bool)=>(bif decide ((s.length:Int)<1) then true else decide ((40:Int)<s.length))=false->x=isL n) λn=>.ite (bif bif decide ((s.length:Int)<1) then true else decide ((40:Int)<s.length) then true else !n) (.R [.bool false] []) (.leaf (.loop (lps K102 0).1 (lps K102 0).2 [(0,.str s),(20,.i s.length),(21,.i 0),Z 31,Z 32,Z 33,Z 34,Z 35,Z 36,Z 39,Z 40,Z 43,Z 44] [])))) ?_;simp only [Tree.holds,zd,inR,lo,hi]
 have hd:decide ((s.length:Int)<1) = !decide (0<s.length):=by
  by_cases h:0<s.length
  ·rw [aX h,aW (by omega)]; rfl
  ·rw [aW h,aX (by omega)]; rfl
 have hd2:decide (40<(s.length:Int)) = !decide (s.length<=40):=by
  by_cases h:s.length<=40
  ·rw [aX h,aW (by omega)]; rfl
  ·rw [aW h,aX (by omega)]; rfl
 rw [hd,hd2];have hnb:wR s=(decide (0<s.length)&&decide (s.length<=40)&&isL (s.getD 0 0)&&s.all isN):=rfl;cases h1:decide (0<s.length) with
 | false=>
  rw [hnb,h1] at hq;refine⟨λh=>(by cases h),λ_=>⟨0,λh=>(by cases h),⟨false,λh=>(by cases h)⟩,?_⟩⟩;intro b _;exact⟨λ_=>RetR.scal hq rfl (by simp [resV]),λh=>(by cases h)⟩
 | true=>
  have h1':=aB h1;cases h2:decide (s.length<=40) with
  | false=>
   rw [hnb,h1,h2] at hq;refine⟨λh=>(by cases h),λ_=>⟨0,λh=>(by cases h),⟨false,λh=>(by cases h)⟩,?_⟩⟩;intro b _;exact⟨λ_=>RetR.scal hq rfl (by simp [resV]),λh=>(by cases h)⟩
  | true=>
   refine⟨λ_=>by omega,λ_=>⟨s.getD 0 0,λ_=>⟨by simp,trivial⟩,⟨_,λ_=>rfl⟩,?_⟩⟩;intro b hb;have hb:=hb rfl;subst hb;cases h3:isL (s.getD 0 0) with
   | false=>
    rw [hnb,h1,h2,h3] at hq;exact⟨λ_=>RetR.scal hq rfl (by simp [resV]),λh=>(by cases h)⟩
   | true=>
    rw [hnb,h1,h2,h3] at hq;refine⟨λh=>(by cases h),λ_=> ?_⟩;exact UJ s hs hq
noncomputable def K69:=Go.Sx.aA f69
def nanS:Ctr:=ctrP true (λs:L8=>[.str s]) (λ_=>True) (λs r=>r=false) (λ_ (r:Bool)=>(.bool r,[]))
def nanI:Ctr:=ctrP true (λx:Int=>[.i x]) (λ_=>True) (λs r=>r=false) (λ_ (r:Bool)=>(.bool r,[]))
theorem zg7:zc prog 110 nanS:=by
 refine zg' f110 λs hs O w0 Q hq=> ?_
 replace hq:=hq _ rfl;refine zb.n z6 [] (.R [.bool !decide (s=s)] []) ?_;simp only [Tree.holds,zd];exact RetR.scal hq rfl (by simp [resV])
theorem zho:zc prog 111 nanI:=by
 refine zg' f111 λs hs O w0 Q hq=> ?_
 replace hq:=hq _ rfl;refine zb.n z6 [] (.R [.bool !decide (s=s)] []) ?_;simp only [Tree.holds,zd];exact RetR.scal hq rfl (by simp [resV])
def zio:Ctr:=ctrP true (λp:L8×L8=>[.str p.1,.str p.2]) (λ_=>True) (λp r=>r=cmpS p.1 p.2) (λ_ (r:Int)=>(.i r,[]))
def ziv:Ctr:=ctrP true (λp:Int×Int=>[.i p.1,.i p.2]) (λ_=>True) (λp r=>r=cmpI p.1 p.2) (λ_ (r:Int)=>(.i r,[]))
noncomputable def GN2:=tb zg7 (tb zho tz)
theorem zh6:zc prog 70 zio:=by
 refine zg' f70 λp hs O w0 Q hq=> ?_
 obtain⟨s,t⟩:=p;replace hq:=hq _ rfl;simp only at hq;refine zb.n GN2.h [] (.ex (λ(x:L8)=>eqL [.str s] [.str x]/\True) λn=>.all (λ(r:Bool)=>r=false) λn=>.ex (λ(x:L8)=>eqL [.str t] [.str x]/\True) λn_1=>.all (λ(r:Bool)=>r=false) λn_2=>.ite n (.ite n_2 (.R [.int .i64 0] []) (.R [.int .i64 (-1:Int)] [])) (.ite n_2 (.R [.int .i64 1] []) (.ite (Op.bytesLess s t) (.R [.int .i64 (-1:Int)] []) (.ite (!(Op.bytesLess s t||decide (s=t))) (.R [.int .i64 1] []) (.R [.int .i64 0] []))))) ?_;simp only [Tree.holds,zd];refine⟨s,⟨by simp,trivial⟩,⟨_,rfl⟩,?_⟩;rintro _ rfl;refine⟨t,⟨by simp,trivial⟩,⟨_,rfl⟩,?_⟩;rintro _ rfl;refine⟨λh=>(by cases h),λ_=>⟨λh=>(by cases h),λ_=>⟨λh=> ?_,λh=>⟨λh2=> ?_,λh2=> ?_⟩⟩⟩⟩
 ·have:cmpS s t = -1:=by simp [cmpS,h]
  rw [this] at hq; exact RetR.scal hq rfl (by simp [resV])
 ·have h2:s≠t:=by simpa [h] using h2
  have:cmpS s t=1:=by simp [cmpS,h,h2]
  rw [this] at hq; exact RetR.scal hq rfl (by simp [resV])
 ·have h2:s=t:=by simpa [h] using h2
  subst h2;have:cmpS s s=0:=by simp [cmpS,h]
  rw [this] at hq; exact RetR.scal hq rfl (by simp [resV])
abbrev q21(A:List AV)(x:Int):Prop:=eqL A [.i x]/\True
theorem zh2:zc prog 71 ziv:=by
 refine zg' f71 λp hs O w0 Q hq=> ?_
 obtain⟨s,t⟩:=p;replace hq:=hq _ rfl;simp only at hq;refine zb.n GN2.h [] (.ex (q21 [.i s]) λn=>.all (λ(r:Bool)=>r=false) λn=>.ex (q21 [.i t]) λn_1=>.all (λ(r:Bool)=>r=false) λn_2=>.ite n (.ite n_2 (.R [.i 0] []) (.R [.i (-1:Int)] [])) (.ite n_2 (.R [.i 1] []) (.D (s<t) (.R [.i (-1:Int)] []) (.D (t<s) (.R [.i 1] []) (.R [.i 0] []))))) ?_;simp only [q21,Tree.holds,zd];refine⟨s,⟨by simp,trivial⟩,⟨_,rfl⟩,?_⟩;rintro _ rfl;refine⟨t,⟨by simp,trivial⟩,⟨_,rfl⟩,?_⟩;rintro _ rfl;refine⟨λh=>(by cases h),λ_=>⟨λh=>(by cases h),λ_=>⟨λh=> ?_,λh=>⟨λh2=> ?_,λh2=> ?_⟩⟩⟩⟩
 ·have h:=aB h;have:cmpI s t = -1:=by simp [cmpI,h]
  rw [this] at hq; exact RetR.scal hq rfl (by simp [resV])
 ·have h:=aC h;have h2:=aB h2;have:cmpI s t=1:=by simp [cmpI,h,h2]
  rw [this] at hq; exact RetR.scal hq rfl (by simp [resV])
 ·have h:=aC h;have h2:=aC h2;have:cmpI s t=0:=by simp [cmpI,h,h2]
  rw [this] at hq; exact RetR.scal hq rfl (by simp [resV])
def orC:Ctr:=ctrP true (λl:List Int=>[.sl l.length 1 (λj _=>.i (l.getD j 0))]) (λl=>l.length<2^40) (λl r=>r=orI l) (λ_ (r:Int)=>(.i r,[]))
def SOr(l:List Int)(i:Nat):KV:=[(3,.i 0),(6,.sl l.length 1 (λj _=>.i (l.getD j 0))),(7,.i (l.length:Int)),(8,.i (i:Int))]
theorem zkt:zc prog 69 orC:=by
 refine zg' f69 λl hl O w0 Q hq=> ?_
 replace hq:=hq _ rfl;refine zb.n z6 [3,6,7,8] (.leaf (.loop (lps K69 0).1 (lps K69 0).2 [(3,.i 0),(6,.sl l.length 1 λ(j x:Nat)=>.i (l.getD j (0:Int))),(7,.i l.length),(8,.i 0)] [])) ?_;simp only [Tree.holds,zd];refine zb.loop (ι:={i:Nat // i<=l.length/\orI (l.drop i)=orI l}) (λi=>SOr l i.1) (λ_=>[]) (λi=>l.length - i.1) ⟨0,aI _,rfl⟩ 0 ?_ ?_ (by kernel_rfl)
 ·exact⟨by simp [SOr,za],by simp,by kernel_rfl,aI _⟩
 ·rintro⟨i,hil,hio⟩;refine zb.n z6 [3,6,7,8] (.D ((i:Int)<l.length) (.side ((0:Int)<=i/\(i:Int)<l.length) (.N (l.getD (i:Int).toNat (0:Int)=0) (.R [.i (l.getD (i:Int).toNat (0:Int))] []) (.S (i+1) (.leaf (.back 0 [(3,.i 0),(6,.sl l.length 1 λ(j x:Nat)=>.i (l.getD j (0:Int))),(7,.i l.length),(8,.i (i+1))] []))))) (.R [.i 0] [])) ?_;simp only [Tree.holds,zd,inR,lo,hi,aD];refine⟨λhlt=> ?_,λhge=> ?_⟩
  ·have hlt:i<l.length:=by have:=aB hlt; omega
   have hd:l.drop i=l.getD i 0::l.drop (i+1):=by
    rw [List.drop_eq_getElem_cons hlt]; simp [List.getD,hlt]
   rw [hd] at hio;refine⟨by omega,λ_=>⟨λh=> ?_,λh=>⟨by omega,λ_=> ?_⟩⟩⟩
   ·have h:l.getD i 0≠0:=by simpa using h
    have:orI l=l.getD i 0:=by rw [<- hio]; simp only [orI]; rw [aO h]
    rw [this] at hq; exact RetR.scal hq rfl (by simp [resV])
   ·have h:l.getD i 0=0:=by simpa using h
    rw [aP trivial];refine⟨⟨i+1,hlt,?_⟩,by show l.length - (i+1)<l.length - i; omega,by simp [SOr,za],by simp,by kernel_rfl,aI _⟩;rw [<- hio]; simp only [orI]; rw [aP h]
  ·have hge:i=l.length:=by have:=aC hge; omega
   subst hge;rw [List.drop_length] at hio;rw [<- hio] at hq; exact RetR.scal hq rfl (by simp [resV,orI])
def Q1:Ctr:=ctrP true (λp:Fx×Fx=>[p.1.av,p.2.av]) (λ_=>True) (λp r=>r=cmpF p.1 p.2) (λ_ (r:Int)=>(.i r,[]))
def QS:Ctr:=ctrP true (λp:Ch×Ch=>[p.1.av,p.2.av]) (λ_=>True) (λp r=>r=cmpC p.1 p.2) (λ_ (r:Int)=>(.i r,[]))
noncomputable def GN3:=tb zh6 (tb zh2 (tb zkt tz))
theorem UX(x y:Int):eqG 2 1 (zf (ze 1 [.i x,.i y]) 0) (λj _=>.i ([x,y].getD j 0)):=by
 intro j o hj ho;have ho:o=0:=by omega
 subst ho;rcases j with _ | _ | j
 ·rfl
 ·rfl
 ·omega
theorem zaq(x y z:Int):eqG 3 1 (zf (ze 1 [.i x,.i y,.i z]) 0) (λj _=>.i ([x,y,z].getD j 0)):=by
 intro j o hj ho;have ho:o=0:=by omega
 subst ho;rcases j with _ | _ | _ | j
 ·rfl
 ·rfl
 ·rfl
 ·omega
abbrev q23(A:List AV)(x:Int×Int):Prop:=eqL A [.i x.1,.i x.2]/\True
abbrev q22(A:List AV)(x:L8×L8):Prop:=eqL A [.str x.1,.str x.2]/\True
theorem Qj:zc prog 36 Q1:=by
 refine zg' f36 λp hs O w0 Q hq=> ?_
 obtain⟨⟨a,d,v⟩,⟨b,e,u⟩⟩:=p;replace hq:=hq _ rfl;simp only at hq;refine zb.n GN3.h [] (.ex (q22 [.str a,.str b]) λn=>.all (λ(r:Int)=>r=cmpS n.1 n.2) λn=>.ex (q23 [.i d,.i e]) λn_1=>.all (λ(r:Int)=>r=cmpI n_1.1 n_1.2) λn_2=>.ex (λ(x:List Int)=>eqL [.sl 2 1 (zf (ze 1 [.i n,.i n_2]) 0)] [.sl x.length 1 λ(j x_1:Nat)=>AV.i (x.getD j (0:Int))]/\x.length<1099511627776) λn_3=>.all (λ(r:Int)=>r=orI n_3) λn_4=>.R [.i n_4] [.box [.str a,.i d,.str v],.box [.str b,.i e,.str u],.arr 2 1 (ze 1 [.i n,.i n_2])]) ?_;simp only [q22,q23,Tree.holds,zd];refine⟨(a,b),⟨by simp,trivial⟩,⟨_,rfl⟩,?_⟩;rintro _ rfl;refine⟨(d,e),⟨by simp,trivial⟩,⟨_,rfl⟩,?_⟩;rintro _ rfl;refine⟨[cmpS a b,cmpI d e],⟨⟨⟨rfl,rfl,UX _ _⟩,trivial⟩,by simp⟩,⟨_,rfl⟩,?_⟩;rintro _ rfl
 have:orI [cmpS a b,cmpI d e]=cmpF ⟨a,d,v⟩ ⟨b,e,u⟩:=by
  simp only [orI,cmpF];by_cases h:cmpS a b=0
  ·simp only [h,if_true]; split<;>simp_all
  ·simp only [aO h]
 rw [this];exact RetR.scal hq rfl (by simp [resV])
theorem QP:zc prog 108 QS:=by
 refine zg' f108 λp hs O w0 Q hq=> ?_
 obtain⟨⟨a,d,v,f⟩,⟨b,e,u,g⟩⟩:=p;replace hq:=hq _ rfl;simp only at hq;refine zb.n GN3.h [] (.ex (q22 [.str a,.str b]) λn=>.all (λ(r:Int)=>r=cmpS n.1 n.2) λn=>.ex (q22 [.str d,.str e]) λn_1=>.all (λ(r:Int)=>r=cmpS n_1.1 n_1.2) λn_2=>.ex (q23 [.i v,.i u]) λn_3=>.all (λ(r:Int)=>r=cmpI n_3.1 n_3.2) λn_4=>.ex (λ(x:List Int)=>eqL [.sl 3 1 (zf (ze 1 [.i n,.i n_2,.i n_4]) 0)] [.sl x.length 1 λ(j x_1:Nat)=>AV.i (x.getD j (0:Int))]/\x.length<1099511627776) λn_5=>.all (λ(r:Int)=>r=orI n_5) λn_6=>.R [.i n_6] [.box [.str a,.str d,.i v,.bool f],.box [.str b,.str e,.i u,.bool g],.arr 3 1 (ze 1 [.i n,.i n_2,.i n_4])]) ?_;simp only [q22,q23,Tree.holds,zd];refine⟨(a,b),⟨by simp,trivial⟩,⟨_,rfl⟩,?_⟩;rintro _ rfl;refine⟨(d,e),⟨by simp,trivial⟩,⟨_,rfl⟩,?_⟩;rintro _ rfl;refine⟨(v,u),⟨by simp,trivial⟩,⟨_,rfl⟩,?_⟩;rintro _ rfl;refine⟨[cmpS a b,cmpS d e,cmpI v u],⟨⟨⟨rfl,rfl,zaq _ _ _⟩,trivial⟩,by simp⟩,⟨_,rfl⟩,?_⟩;rintro _ rfl
 have:orI [cmpS a b,cmpS d e,cmpI v u]=cmpC ⟨a,d,v,f⟩ ⟨b,e,u,g⟩:=by
  simp only [orI,cmpC];by_cases h:cmpS a b=0
  ·simp only [h,if_true];by_cases h2:cmpS d e=0
   ·simp only [h2,if_true]; split<;>simp_all
   ·simp only [aO h2]
  ·simp only [aO h]
 rw [this];exact RetR.scal hq rfl (by simp [resV])
noncomputable def K67:=Go.Sx.aA f67
noncomputable def K137:=Go.Sx.aA f137
noncomputable def K106:=Go.Sx.aA f106
noncomputable def K107:=Go.Sx.aA f107
def xW(f:Fx):Prop:=f.name.length<2^40/\f.value.length<2^40
def yj(c:Ch):Prop:=c.qU.length<2^40/\c.name.length<2^40
def zi6:Ctr:=ctrP true (λf:Fx=>[f.av]) xW (λf r=>r = !okF f) (λ_ (r:Bool)=>(.bool r,[]))
def zin:Ctr:=ctrP true (λc:Ch=>[c.av]) yj (λc r=>r = !okC c) (λ_ (r:Bool)=>(.bool r,[]))
noncomputable def GE1:=tb YB (tb u7 (tb w8 tz))
theorem zgw:zc prog 101 zi6:=by
 refine zg' f101 λf hs O w0 Q hq=> ?_
 obtain⟨a,d,v⟩:=f;obtain⟨h1,h2⟩:=hs;replace hq:=hq _ rfl;simp only [okF] at hq h1 h2;refine zb.n GE1.h [] (.ex (q15 [.str a]) λn=>.all (λ(r:Bool)=>r=wR n) λn=>.ex (λ(x:Int)=>(!n)=false->eqL [.i d] [.i x]/\True) λn_1=>.all (λ(x:Bool)=>(!n)=false->x=dayB n_1) λn_2=>.ex (λ(x:L8)=>(bif !n then true else !n_2)=false->eqL [.str v] [.str x]/\x.length<4611686018427387904) λn_3=>.all (λ(x:Int)=>(bif !n then true else !n_2)=false->x=errR n_3) λn_4=>.R [.bool (bif bif !n then true else !n_2 then true else !decide (n_4=0))] [.box [.str a,.i d,.str v]]) ?_;simp only [q15,Tree.holds,zd];refine⟨a,⟨by simp,by omega⟩,⟨_,rfl⟩,?_⟩;rintro _ rfl;refine⟨d,λ_=>⟨by simp,trivial⟩,⟨_,λ_=>rfl⟩,?_⟩;intro x hx;refine⟨v,λ_=>⟨by simp,by omega⟩,⟨_,λ_=>rfl⟩,?_⟩;intro y hy;refine RetR.scal hq rfl ?_;simp only [resV];cases hn:wR a with
 | false=>rfl
 | true=>
  rw [hx (by rw [hn]; rfl)] at hy ⊢;cases hd:dayB d with
  | false=>rfl
  | true=>rw [hy (by rw [hn,hd]; rfl)]; rfl
theorem zhv:zc prog 103 zin:=by
 refine zg' f103 λf hs O w0 Q hq=> ?_
 obtain⟨a,v,d,f⟩:=f;obtain⟨h1,h2⟩:=hs;replace hq:=hq _ rfl;simp only [okC] at hq h1 h2;refine zb.n GE1.h [] (.ex (q15 [.str a]) λn=>.all (λ(r:Bool)=>r=wR n) λn=>.ex (λ(x:L8)=>(!n)=false->eqL [.str v] [.str x]/\x.length<4611686018427387904) λn_1=>.all (λ(x:Bool)=>(!n)=false->x=wR n_1) λn_2=>.ex (λ(x:Int)=>(bif !n then true else !n_2)=false->eqL [.i d] [.i x]/\True) λn_3=>.all (λ(x:Bool)=>(bif !n then true else !n_2)=false->x=dayB n_3) λn_4=>.R [.bool (bif bif !n then true else !n_2 then true else !n_4)] [.box [.str a,.str v,.i d,.bool f]]) ?_;simp only [q15,Tree.holds,zd];refine⟨a,⟨by simp,by omega⟩,⟨_,rfl⟩,?_⟩;rintro _ rfl;refine⟨v,λ_=>⟨by simp,by omega⟩,⟨_,λ_=>rfl⟩,?_⟩;intro x hx;refine⟨d,λ_=>⟨by simp,trivial⟩,⟨_,λ_=>rfl⟩,?_⟩;intro y hy;refine RetR.scal hq rfl ?_;simp only [resV];cases hn:wR a with
 | false=>rfl
 | true=>
  rw [hx (by rw [hn]; rfl)] at hy ⊢;cases hd:wR v with
  | false=>rfl
  | true=>rw [hy (by rw [hn,hd]; rfl)]; rfl
def zia:Ctr:=ctrP true (λl:List Fx=>[fxS l,.fn 101 [] []]) (λl=>l.length<2^40/\∀ j,j<l.length->xW (l.getD j Fx.nil)) (λl r=>r=idxB (λx=> !okF x) l) (λ_ (r:Int)=>(.i r,[]))
def SIxF(l:List Fx)(i:Nat):KV:=[(0,fxS l),(1,.fn 101 [] []),(7,.i (l.length:Int)),(8,.i (i:Int))]
noncomputable def GE2F:=tb zgw tz
theorem zg0:zc prog 67 zia:=by
 refine zg' f67 λl hl O w0 Q hq=> ?_
 obtain⟨hl,hsm⟩:=hl;replace hq:=hq _ rfl;refine zb.n GE2F.h [0,1,7,8] (.leaf (.loop (lps K67 0).1 (lps K67 0).2 [(0,.sl l.length 3 (fxG l)),(1,.fn 101 [] []),(7,.i l.length),(8,.i 0)] [])) ?_;simp only [Tree.holds,zd];refine zb.loop (ι:={i:Nat // i<=l.length/\∀ j,j<i->(!okF (l.getD j Fx.nil))=false}) (λi=>SIxF l i.1) (λ_=>[]) (λi=>l.length - i.1) ⟨0,aI _,λj hj=>by omega⟩ 0 ?_ ?_ (by kernel_rfl)
 ·exact⟨by simp [SIxF,fxS,za],by simp,by kernel_rfl,aI _⟩
 ·rintro⟨i,hil,hib⟩;refine zb.n GE2F.h [0,1,7,8] (let v1:=l.getD (i:Int).toNat Fx.nil;.D ((i:Int)<l.length) (.side ((0:Int)<=i/\(i:Int)<l.length) (.ex (λ(x:Fx)=>eqL [.agg [.str v1.name,.i v1.date,.str v1.value]] [.agg [.str x.name,.i x.date,.str x.value]]/\xW x) λn=>.all (λ(r:Bool)=>r = !okF n) λn=>.ite n (.R [.i i] []) (.S (i+1) (.leaf (.back 0 [(0,.sl l.length 3 (fxG l)),(1,.fn 101 [] []),(7,.i l.length),(8,.i (i+1))] []))))) (.R [.i (-1:Int)] [])) ?_;simp only [Tree.holds,zd,inR,lo,hi,aD];refine⟨λhlt=> ?_,λhge=> ?_⟩
  ·have hlt:i<l.length:=by have:=aB hlt; omega
   refine⟨by omega,λ_=>⟨l.getD i Fx.nil,⟨by simp,hsm i hlt⟩,⟨_,rfl⟩,?_⟩⟩;rintro _ rfl;refine⟨λh=> ?_,λh=>⟨by omega,λ_=> ?_⟩⟩
   ·rw [WZ hlt h hib] at hq;exact RetR.scal hq rfl (by simp [resV])
   ·rw [aP trivial];refine⟨⟨i+1,hlt,λj hj=> ?_⟩,by show l.length - (i+1)<l.length - i; omega,by simp [SIxF,fxS,za],by simp,by kernel_rfl,aI _⟩;rcases aR j i with h1 | h1
    ·exact hib j h1
    ·have:j=i:=by omega
     rw [this]; exact h
  ·have hge:i=l.length:=by have:=aC hge; omega
   subst hge;rw [uF hib] at hq;exact RetR.scal hq rfl (by simp [resV])
def zih:Ctr:=ctrP true (λl:List Fx=>[fxS l,.fn 101 [] []]) (λl=>l.length<2^40/\∀ j,j<l.length->xW (l.getD j Fx.nil)) (λl r=>r=l.any λx=> !okF x) (λ_ (r:Bool)=>(.bool r,[]))
noncomputable def GE3F:=tb zg0 tz
theorem zhb:zc prog 104 zih:=by
 refine zg' f104 λl hl O w0 Q hq=> ?_
 replace hq:=hq _ rfl;refine zb.n GE3F.h [] (.ex (λ(x:List Fx)=>eqL [.sl l.length 3 (fxG l),.fn 101 [] []] [.sl x.length 3 (fxG x),.fn 101 [] []]/\x.length<1099511627776/\∀ (j:Nat),j<x.length->xW (x.getD j Fx.nil)) λn=>.all (λ(r:Int)=>r=idxB (λ(x:Fx)=> !okF x) n) λn=>.R [.bool (decide ((0:Int)<=n))] []) ?_;simp only [Tree.holds,zd];refine⟨l,⟨by simp [za],hl⟩,⟨_,rfl⟩,?_⟩;rintro _ rfl;rw [<- Ke] at hq;exact RetR.scal hq rfl (by simp [resV])
def zii:Ctr:=ctrP true (λl:List Ch=>[chS l,.fn 103 [] []]) (λl=>l.length<2^40/\∀ j,j<l.length->yj (l.getD j Ch.nil)) (λl r=>r=idxB (λx=> !okC x) l) (λ_ (r:Int)=>(.i r,[]))
def SIxC(l:List Ch)(i:Nat):KV:=[(0,chS l),(1,.fn 103 [] []),(7,.i (l.length:Int)),(8,.i (i:Int))]
noncomputable def GE2C:=tb zhv tz
theorem zgx:zc prog 137 zii:=by
 refine zg' f137 λl hl O w0 Q hq=> ?_
 obtain⟨hl,hsm⟩:=hl;replace hq:=hq _ rfl;refine zb.n GE2C.h [0,1,7,8] (.leaf (.loop (lps K137 0).1 (lps K137 0).2 [(0,.sl l.length 4 (chG l)),(1,.fn 103 [] []),(7,.i l.length),(8,.i 0)] [])) ?_;simp only [Tree.holds,zd];refine zb.loop (ι:={i:Nat // i<=l.length/\∀ j,j<i->(!okC (l.getD j Ch.nil))=false}) (λi=>SIxC l i.1) (λ_=>[]) (λi=>l.length - i.1) ⟨0,aI _,λj hj=>by omega⟩ 0 ?_ ?_ (by kernel_rfl)
 ·exact⟨by simp [SIxC,chS,za],by simp,by kernel_rfl,aI _⟩
 ·rintro⟨i,hil,hib⟩;refine zb.n GE2C.h [0,1,7,8] (let v1:=l.getD (i:Int).toNat Ch.nil;.D ((i:Int)<l.length) (.side ((0:Int)<=i/\(i:Int)<l.length) (.ex (λ(x:Ch)=>eqL [.agg [.str v1.qU,.str v1.name,.i v1.date,.bool v1.first]] [.agg [.str x.qU,.str x.name,.i x.date,.bool x.first]]/\yj x) λn=>.all (λ(r:Bool)=>r = !okC n) λn=>.ite n (.R [.i i] []) (.S (i+1) (.leaf (.back 0 [(0,.sl l.length 4 (chG l)),(1,.fn 103 [] []),(7,.i l.length),(8,.i (i+1))] []))))) (.R [.i (-1:Int)] [])) ?_;simp only [Tree.holds,zd,inR,lo,hi,aD];refine⟨λhlt=> ?_,λhge=> ?_⟩
  ·have hlt:i<l.length:=by have:=aB hlt; omega
   refine⟨by omega,λ_=>⟨l.getD i Ch.nil,⟨by simp,hsm i hlt⟩,⟨_,rfl⟩,?_⟩⟩;rintro _ rfl;refine⟨λh=> ?_,λh=>⟨by omega,λ_=> ?_⟩⟩
   ·rw [WZ hlt h hib] at hq;exact RetR.scal hq rfl (by simp [resV])
   ·rw [aP trivial];refine⟨⟨i+1,hlt,λj hj=> ?_⟩,by show l.length - (i+1)<l.length - i; omega,by simp [SIxC,chS,za],by simp,by kernel_rfl,aI _⟩;rcases aR j i with h1 | h1
    ·exact hib j h1
    ·have:j=i:=by omega
     rw [this]; exact h
  ·have hge:i=l.length:=by have:=aC hge; omega
   subst hge;rw [uF hib] at hq;exact RetR.scal hq rfl (by simp [resV])
def zij:Ctr:=ctrP true (λl:List Ch=>[chS l,.fn 103 [] []]) (λl=>l.length<2^40/\∀ j,j<l.length->yj (l.getD j Ch.nil)) (λl r=>r=l.any λx=> !okC x) (λ_ (r:Bool)=>(.bool r,[]))
noncomputable def GE3C:=tb zgx tz
theorem zhz:zc prog 105 zij:=by
 refine zg' f105 λl hl O w0 Q hq=> ?_
 replace hq:=hq _ rfl;refine zb.n GE3C.h [] (.ex (λ(x:List Ch)=>eqL [.sl l.length 4 (chG l),.fn 103 [] []] [.sl x.length 4 (chG x),.fn 103 [] []]/\x.length<1099511627776/\∀ (j:Nat),j<x.length->yj (x.getD j Ch.nil)) λn=>.all (λ(r:Int)=>r=idxB (λ(x:Ch)=> !okC x) n) λn=>.R [.bool (decide ((0:Int)<=n))] []) ?_;simp only [Tree.holds,zd];refine⟨l,⟨by simp [za],hl⟩,⟨_,rfl⟩,?_⟩;rintro _ rfl;rw [<- Ke] at hq;exact RetR.scal hq rfl (by simp [resV])
def zil:Ctr:=ctrP true (λl:List Fx=>[fxS l,.fn 36 [] []]) (λl=>l.length<2^40) (λl r=>r=ordB cmpF Fx.nil l) (λ_ (r:Bool)=>(.bool r,[]))
def SOdF(l:List Fx)(i:Nat):KV:=[(0,fxS l),(1,.fn 36 [] []),(5,.i (i:Int))]
noncomputable def GE4F:=tb Qj tz
abbrev q24(A:List AV)(x:Fx×Fx):Prop:=eqL A [.agg [.str x.1.name,.i x.1.date,.str x.1.value],.agg [.str x.2.name,.i x.2.date,.str x.2.value]]/\True
theorem zg8:zc prog 106 zil:=by
 refine zg' f106 λl hl O w0 Q hq=> ?_
 replace hq:=hq _ rfl;refine zb.n GE4F.h [0,1,5] (.leaf (.loop (lps K106 0).1 (lps K106 0).2 [(0,.sl l.length 3 (fxG l)),(1,.fn 36 [] []),(5,.i 1)] [])) ?_;simp only [Tree.holds,zd];refine zb.loop (ι:={i:Nat // 0<i/\(i<=l.length\/i=1)/\∀ j,j+1<i->cmpF (l.getD j Fx.nil) (l.getD (j+1) Fx.nil)<0}) (λi=>SOdF l i.1) (λ_=>[]) (λi=>l.length - i.1) ⟨1,Nat.one_pos,.inr rfl,λj hj=>by omega⟩ 0 ?_ ?_ (by kernel_rfl)
 ·exact⟨by simp [SOdF,fxS,za],by simp,by kernel_rfl,aI _⟩
 ·rintro⟨i,hi0,hil,hib⟩;refine zb.n GE4F.h [0,1,5] (let v2:=l.getD (i:Int).toNat Fx.nil;let v1:=l.getD (Int.toNat (i-1)) Fx.nil;.D ((i:Int)<l.length) (.S (i-1) (.side ((0:Int)<=i - (1:Int)/\(i:Int) - (1:Int)<l.length) (.side ((0:Int)<=i/\(i:Int)<l.length) (.ex (q24 [.agg [.str v1.name,.i v1.date,.str v1.value],.agg [.str v2.name,.i v2.date,.str v2.value]]) λn=>.all (λ(r:Int)=>r=cmpF n.1 n.2) λn=>.D ((0:Int)<=n) (.R [.bool false] []) (.S (i+1) (.leaf (.back 0 [(0,.sl l.length 3 (fxG l)),(1,.fn 36 [] []),(5,.i (i+1))] []))))))) (.R [.bool true] [])) ?_;simp only [q24,Tree.holds,zd,inR,lo,hi,aD];have e:((i:Int) - 1).toNat=i - 1:=by omega
  have e2:i - 1+1=i:=by omega
  refine⟨λhlt=> ?_,λhge=> ?_⟩
  ·have hlt:i<l.length:=by have:=aB hlt; omega
   simp only [e];refine⟨by omega,λ_=>⟨by omega,λ_=>⟨by omega,λ_=>⟨(l.getD (i - 1) Fx.nil,l.getD i Fx.nil),⟨by simp,trivial⟩,⟨_,rfl⟩,?_⟩⟩⟩⟩;rintro _ rfl;refine⟨λh=> ?_,λh=>⟨by omega,λ_=> ?_⟩⟩
   ·have h:=aB h;rw [Vl (z:=Fx.nil) (j:=i - 1) (by omega) (by rw [e2]; simp only at h; omega)] at hq;exact RetR.scal hq rfl (by simp [resV])
   ·have h:=aC h;rw [aP trivial];refine⟨⟨i+1,by omega,.inl hlt,λj hj=> ?_⟩,by show l.length - (i+1)<l.length - i; omega,by simp [SOdF,fxS,za],by simp,by kernel_rfl,aI _⟩;rcases aR (j+1) i with h1 | h1
    ·exact hib j h1
    ·have:j=i - 1:=by omega
     rw [this,e2]; simp only at h; omega
  ·have hge:l.length<=i:=by have:=aC hge; omega
   rw [VB (z:=Fx.nil) λj hj=>hib j (by omega)] at hq;exact RetR.scal hq rfl (by simp [resV])
def zid:Ctr:=ctrP true (λl:List Ch=>[chS l,.fn 108 [] []]) (λl=>l.length<2^40) (λl r=>r=ordB cmpC Ch.nil l) (λ_ (r:Bool)=>(.bool r,[]))
def SOdC(l:List Ch)(i:Nat):KV:=[(0,chS l),(1,.fn 108 [] []),(5,.i (i:Int))]
noncomputable def GE4C:=tb QP tz
theorem zgf:zc prog 107 zid:=by
 refine zg' f107 λl hl O w0 Q hq=> ?_
 replace hq:=hq _ rfl;refine zb.n GE4C.h [0,1,5] (.leaf (.loop (lps K107 0).1 (lps K107 0).2 [(0,.sl l.length 4 (chG l)),(1,.fn 108 [] []),(5,.i 1)] [])) ?_;simp only [Tree.holds,zd];refine zb.loop (ι:={i:Nat // 0<i/\(i<=l.length\/i=1)/\∀ j,j+1<i->cmpC (l.getD j Ch.nil) (l.getD (j+1) Ch.nil)<0}) (λi=>SOdC l i.1) (λ_=>[]) (λi=>l.length - i.1) ⟨1,Nat.one_pos,.inr rfl,λj hj=>by omega⟩ 0 ?_ ?_ (by kernel_rfl)
 ·exact⟨by simp [SOdC,chS,za],by simp,by kernel_rfl,aI _⟩
 ·rintro⟨i,hi0,hil,hib⟩;refine zb.n GE4C.h [0,1,5] (let v2:=l.getD (i:Int).toNat Ch.nil;let v1:=l.getD (Int.toNat (i-1)) Ch.nil;.D ((i:Int)<l.length) (.S (i-1) (.side ((0:Int)<=i - (1:Int)/\(i:Int) - (1:Int)<l.length) (.side ((0:Int)<=i/\(i:Int)<l.length) (.ex (λ(x:Ch×Ch)=>eqL [.agg [.str v1.qU,.str v1.name,.i v1.date,.bool v1.first],.agg [.str v2.qU,.str v2.name,.i v2.date,.bool v2.first]] [.agg [.str x.1.qU,.str x.1.name,.i x.1.date,.bool x.1.first],.agg [.str x.2.qU,.str x.2.name,.i x.2.date,.bool x.2.first]]/\True) λn=>.all (λ(r:Int)=>r=cmpC n.1 n.2) λn=>.D ((0:Int)<=n) (.R [.bool false] []) (.S (i+1) (.leaf (.back 0 [(0,.sl l.length 4 (chG l)),(1,.fn 108 [] []),(5,.i (i+1))] []))))))) (.R [.bool true] [])) ?_;simp only [Tree.holds,zd,inR,lo,hi,aD];have e:((i:Int) - 1).toNat=i - 1:=by omega
  have e2:i - 1+1=i:=by omega
  refine⟨λhlt=> ?_,λhge=> ?_⟩
  ·have hlt:i<l.length:=by have:=aB hlt; omega
   simp only [e];refine⟨by omega,λ_=>⟨by omega,λ_=>⟨by omega,λ_=>⟨(l.getD (i - 1) Ch.nil,l.getD i Ch.nil),⟨by simp,trivial⟩,⟨_,rfl⟩,?_⟩⟩⟩⟩;rintro _ rfl;refine⟨λh=> ?_,λh=>⟨by omega,λ_=> ?_⟩⟩
   ·have h:=aB h;rw [Vl (z:=Ch.nil) (j:=i - 1) (by omega) (by rw [e2]; simp only at h; omega)] at hq;exact RetR.scal hq rfl (by simp [resV])
   ·have h:=aC h;rw [aP trivial];refine⟨⟨i+1,by omega,.inl hlt,λj hj=> ?_⟩,by show l.length - (i+1)<l.length - i; omega,by simp [SOdC,chS,za],by simp,by kernel_rfl,aI _⟩;rcases aR (j+1) i with h1 | h1
    ·exact hib j h1
    ·have:j=i - 1:=by omega
     rw [this,e2]; simp only at h; omega
  ·have hge:l.length<=i:=by have:=aC hge; omega
   rw [VB (z:=Ch.nil) λj hj=>hib j (by omega)] at hq;exact RetR.scal hq rfl (by simp [resV])
def envP(p:List Fx×List Ch):Prop:=p.1.length<2^40/\p.2.length<2^40/\(∀ j,j<p.1.length->xW (p.1.getD j Fx.nil))/\∀ j,j<p.2.length->yj (p.2.getD j Ch.nil)
def Y4:Ctr:=ctrP true (λp:List Fx×List Ch=>[envA p.1 p.2]) envP (λp r=>r=errE p.1 p.2) (λ_ (r:Int)=>(.i r,[]))
noncomputable def GE5:=tb zhb (tb zhz (tb zg8 (tb zgf tz)))
theorem UA:zc prog 62 Y4:=by
 refine zg' f62 λp hp O w0 Q hq=> ?_
 obtain⟨f,c⟩:=p;obtain⟨h1,h2,h3,h4⟩:=hp;replace hq:=hq _ rfl;simp only at hq h1 h2 h3 h4;refine zb.n GE5.h [] (let v1:List Blk:=[.box [.sl f.length 3 (fxG f),.sl c.length 4 (chG c)]];.ite (bif decide ((1000:Int)<f.length) then true else decide ((1000:Int)<c.length)) (.R [.i 4] v1) (.ex (λ(x:List Fx)=>eqL [.sl f.length 3 (fxG f),.fn 101 [] []] [.sl x.length 3 (fxG x),.fn 101 [] []]/\x.length<1099511627776/\∀ (j:Nat),j<x.length->xW (x.getD j Fx.nil)) λn=>.all (λ(r:Bool)=>r=List.any n λ(x:Fx)=> !okF x) λn=>.ex (λ(x:List Ch)=>n=false->eqL [.sl c.length 4 (chG c),.fn 103 [] []] [.sl x.length 4 (chG x),.fn 103 [] []]/\x.length<1099511627776/\∀ (j:Nat),j<x.length->yj (x.getD j Ch.nil)) λn_1=>.all (λ(x:Bool)=>n=false->x=List.any n_1 λ(x:Ch)=> !okC x) λn_2=>.ex (λ(x:List Fx)=>(bif n then true else n_2)=false->eqL [.sl f.length 3 (fxG f),.fn 36 [] []] [.sl x.length 3 (fxG x),.fn 36 [] []]/\x.length<1099511627776) λn_3=>.all (λ(x:Bool)=>(bif n then true else n_2)=false->x=ordB cmpF Fx.nil n_3) λn_4=>.ex (λ(x:List Ch)=>(bif bif n then true else n_2 then true else !n_4)=false->eqL [.sl c.length 4 (chG c),.fn 108 [] []] [.sl x.length 4 (chG x),.fn 108 [] []]/\x.length<1099511627776) λn_5=>.all (λ(x:Bool)=>(bif bif n then true else n_2 then true else !n_4)=false->x=ordB cmpC Ch.nil n_5) λn_6=>.ite (bif bif bif n then true else n_2 then true else !n_4 then true else !n_6) (.R [.i 8] v1) (.R [.i 0] v1))) ?_;simp only [Tree.holds,zd];refine⟨λh=> ?_,λh=> ?_⟩
 ·have h:1000<f.length\/1000<c.length:=by
   rw [Bool.cond_eq_ite] at h;split at h
   ·rename_i h1; left; have:=aB h1; omega
   ·right; have:=aB h; omega
  have:errE f c=4:=aP h;rw [this] at hq; exact RetR.scal hq rfl (by simp [resV])
 ·have h:¬ (1000<f.length\/1000<c.length):=by
   rw [Bool.cond_eq_ite] at h;split at h
   ·cases h
   ·rename_i h1;have h2:=aC h;rintro(h3 | h3)
    ·exact h1 (aX (by omega))
    ·omega
  have he:errE f c=if(f.all okF&&c.all okC&&ordB cmpF Fx.nil f&&ordB cmpC Ch.nil c)=true then 0 else 8:=aO h
  have a1:(f.any λx=> !okF x) = !f.all okF:=by rw [List.not_all_eq_any_not]
  have a2:(c.any λx=> !okC x) = !c.all okC:=by rw [List.not_all_eq_any_not]
  refine⟨f,⟨by simp [za],h1,h3⟩,⟨_,rfl⟩,?_⟩;rintro _ rfl;refine⟨c,λ_=>⟨by simp [za],h2,h4⟩,⟨_,λ_=>rfl⟩,?_⟩;intro b1 g1;refine⟨f,λ_=>⟨by simp [za],h1⟩,⟨_,λ_=>rfl⟩,?_⟩;intro b2 g2;refine⟨c,λ_=>⟨by simp [za],h2⟩,⟨_,λ_=>rfl⟩,?_⟩;intro b3 g3;rw [a1] at g1 g2 g3 ⊢;rw [a2] at g1;clear a1 a2;generalize f.all okF=p1 at *
  generalize c.all okC=p2 at *
  generalize ordB cmpF Fx.nil f=p3 at *
  generalize ordB cmpC Ch.nil c=p4 at *
  have key:(bif bif bif !p1 then true else b1 then true else !b2 then true else !b3) = !(p1&&p2&&p3&&p4):=by
   cases p1 with
   | false=>rfl
   | true=>
    have g1:=g1 rfl;subst g1;cases p2 with
    | false=>rfl
    | true=>
     have g2:=g2 rfl;subst g2;cases b2 with
     | false=>rfl
     | true=>have g3:=g3 rfl; subst g3; rfl
  rw [key];clear key g1 g2 g3;generalize (p1&&p2&&p3&&p4)=q at *
  refine⟨λh=> ?_,λh=> ?_⟩
  ·cases q with
   | true=>cases h
   | false=>rw [he,aO (by decide)] at hq; exact RetR.scal hq rfl (by simp [resV])
  ·cases q with
   | false=>cases h
   | true=>rw [he,aP rfl] at hq; exact RetR.scal hq rfl (by simp [resV])
def HE(f:List Fx)(c:List Ch):Heap:=[.box [fxS f,chS c]]
def YY:Ctr:=ctrP true (λp:(List Fx×List Ch)×(L8×Int)=>[envA p.1.1 p.1.2,.str p.2.1,.i p.2.2]) (λp=>p.1.1.length<2^40) (λp r=>r=qk p.1.1 p.2.1 p.2.2) (λ_ r=>(.tup [.str r.1,.bool r.2],[]))
end Go.Proofs.Tryz
end
section
namespace Go.Nov
open Go.Sx
theorem Fx.za8(x:Fx){j o:Nat}(hj:j<1)(ho:o<3):zf (ze 3 [.str x.name,.i x.date,.str x.value]) 0 j o=x.cell o:=by
 have:j=0:=by omega
 subst this;rcases o with _ | _ | _ | o
 ·rfl
 ·rfl
 ·rfl
 ·omega
theorem UM{α:Type}(l:List α)(x z:α)(j:Nat):(l++[x]).getD j z=if j<l.length then l.getD j z else if j=l.length then x else z:=by
 simp only [List.getD,bT];split
 ·rfl
 ·rename_i h;split
  ·rename_i h2; subst h2; simp
  ·rename_i h2;have:j - l.length≠0:=by omega
   obtain⟨k,hk⟩:=Nat.exists_eq_succ_of_ne_zero this;rw [hk]; simp
theorem YF{l:List Fx}{x:Fx}{g:Nat->Nat->AV}(hg:eqG l.length 3 g (fxG l)):eqG (l.length+1) 3 (appG l.length g (zf (ze 3 [.str x.name,.i x.date,.str x.value]) 0)) (fxG (l++[x])):=by
 intro j o hj ho;simp only [appG,fxG,UM];split
 ·rename_i h; exact hg j o h ho
 ·rename_i h;have:j=l.length:=by omega
  subst this;rw [aP rfl,Fx.za8 x (by omega) ho]
theorem zaa{α:Type}{p:α->Bool}(z:α)(l:List α):idxB p l<l.length/\l.find? p=if 0<=idxB p l then some (l.getD (idxB p l).toNat z) else none:=by
 unfold idxB;by_cases h:l.findIdx p<l.length
 ·rw [aP h];refine⟨by omega,?_⟩;rw [aP (by omega),aD];refine zhm h ?_ λj hj=> ?_
  ·have:=List.findIdx_getElem (w:=h);simpa [List.getD,h] using this
  ·have:=List.not_of_lt_findIdx hj;have hjl:j<l.length:=by omega
   simpa [List.getD,hjl] using this
 ·rw [aO h];refine⟨by omega,?_⟩;rw [aO (by omega),List.find?_eq_none];intro x hx hpx;exact h (List.findIdx_lt_length_of_exists ⟨x,hx,hpx⟩)
theorem zay(f:List Fx)(a:L8)(d:Int):idxB (λx=>decide (cmpF x ⟨a,d,[]⟩=0)) f<f.length/\qk f a d=if 0<=idxB (λx=>decide (cmpF x ⟨a,d,[]⟩=0)) f then((f.getD (idxB (λx=>decide (cmpF x ⟨a,d,[]⟩=0)) f).toNat Fx.nil).value,true) else([],false):=by
 obtain⟨h1,h2⟩:=zaa (p:=λx=>decide (cmpF x ⟨a,d,[]⟩=0)) Fx.nil f;refine⟨h1,?_⟩
 have e:(λx:Fx=>decide (x.name=a)&&decide (x.date=d))=λx=>decide (cmpF x ⟨a,d,[]⟩=0):=by
  funext x;rw [<- Bool.decide_and]; exact decide_eq_decide.2 (@zfz x ⟨a,d,[]⟩).symm
 unfold qk;rw [e,h2];by_cases h:0<=idxB (λx=>decide (cmpF x ⟨a,d,[]⟩=0)) f
 ·rw [aP h,aP h]
 ·rw [aO h,aO h]
end Go.Nov
end
section
set_option maxRecDepth 100000
open Go Go.Sx Go.Proofs Go.Nov
namespace Go.Proofs.Tryz
attribute [local simp] eqKV eqA eqA0 eqH eqB eqL eqL0
noncomputable def K7:=Go.Sx.aA f7
def zbt(f:Fx):Prop:=f.name.length<2^49/\f.value.length<2^49
def Y0(c:Ch):Prop:=c.qU.length<2^49/\c.name.length<2^49
def fitP(p:List Fx×List Ch):Prop:=p.1.length<=1100/\p.2.length<=1100/\(∀ j,j<p.1.length->(p.1.getD j Fx.nil).name.length<=20000/\(p.1.getD j Fx.nil).value.length<=20000)/\∀ j,j<p.2.length->(p.2.getD j Ch.nil).qU.length<=20000/\(p.2.getD j Ch.nil).name.length<=20000
def Yn:Ctr:=ctrP true (λp:List Fx×List Ch=>[envA p.1 p.2]) (λp=>p.1.length<2^60/\p.2.length<2^60/\(∀ j,j<p.1.length->zbt (p.1.getD j Fx.nil))/\∀ j,j<p.2.length->Y0 (p.2.getD j Ch.nil)) (λp r=>r=false->fitP p) (λ_ (r:Bool)=>(.bool r,[]))
def SGq(n i:Nat):KV:=[(1,.ptr 0 0),(3,.i (n:Int)),(4,.i (i:Int)),Z 5]
def SGq2(n i:Nat):KV:=[(1,.ptr 0 0),(3,.i (n:Int)),Z 4,(5,.i (i:Int))]
theorem Ka{O:Nat->Prop}{w0:World}{Q:AV×Heap->Prop}{Hs:Nat->KV->Heap->Prop}(f:List Fx)(c:List Ch)(n:Nat)(hf:f.length<=1100)(hc:c.length<=1100)(h3:∀ j,j<c.length->Y0 (c.getD j Ch.nil))(hn:n<=1100*2^50)(hnf:∀ j,j<f.length->(f.getD j Fx.nil).name.length<=n/\(f.getD j Fx.nil).value.length<=n)
  (hq:∀ r:Bool,(r=false->fitP (f,c))->Q (.bool r,[])) (kv:KV) (h:Heap) (hle:LeK 0 f7.ntmps kv h (SGq2 n 0) (HE f c)) :
  zb prog f7 O 0 w0 [] Hs (RetR Yn 0 Q) (.code (.loop (lps (inside K7 0) 0).1)::(lps (inside K7 0) 0).2) (mk f7.ntmps kv h):=by
 refine zb.loop (ι:={p:Nat×Nat // p.2<=c.length/\n<=p.1/\p.1<=(1100+p.2)*2^50/\∀ j,j<p.2->(c.getD j Ch.nil).qU.length<=p.1/\(c.getD j Ch.nil).name.length<=p.1}) (λp=>SGq2 p.1.1 p.1.2) (λ_=>HE f c) (λp=>c.length - p.1.2) ⟨(n,0),aI _,aJ _,by simpa using hn,λj hj=>by simp at hj⟩ 0 hle ?_ (by kernel_rfl);rintro⟨⟨m,i⟩,hil,hnm,hm,hib⟩;simp only at hil hnm hm hib;refine zb.n z6 [1,3,4,5] (let v2:List Blk:=[.box [.sl f.length 3 (fxG f),.sl c.length 4 (chG c)]];let v1:=c.getD (i:Int).toNat Ch.nil;.D ((i:Int)<c.length) (.side ((0:Int)<=i/\(i:Int)<c.length) (.S ((m:Int)+(↑(List.length v1.qU):Int)) (.side ((0:Int)<=i/\(i:Int)<c.length) (.S ((m:Int)+(↑(List.length v1.qU):Int)+(↑(List.length v1.name):Int)) (.S (i+1) (.leaf (.back 0 [(1,.ptr 0 0),(3,.i ((m:Int)+(↑(List.length v1.qU):Int)+(↑(List.length v1.name):Int))),Z 4,(5,.i (i+1))] v2))))))) (.R [.bool (decide ((20000:Int)<m))] v2)) ?_;simp only [Tree.holds,zd,inR,lo,hi,aD];refine⟨λhlt=> ?_,λhge=> ?_⟩
 ·have hlt:i<c.length:=by have:=aB hlt; omega
  obtain⟨g1,g2⟩:=h3 i hlt
  iterate 5 refine⟨by omega,λ_=> ?_⟩
  rw [aP trivial];refine⟨⟨(m+(c.getD i Ch.nil).qU.length+(c.getD i Ch.nil).name.length,i+1),hlt,by simp only; omega,by simp only; omega,λj hj=> ?_⟩,by show c.length - (i+1)<c.length - i; omega,by simp [SGq2],by simp [HE,fxS,chS,za],by kernel_rfl,aI _⟩;simp only at hj ⊢;rcases aR j i with h1 | h1
  ·have:=hib j h1; omega
  ·have:j=i:=by omega
   rw [this]; omega
 ·have hge:i=c.length:=by have:=aC hge; omega
  subst hge;refine RetR.scal (hq (decide (20000<(m:Int))) λh=> ?_) rfl (by simp [resV]);have h:=aC h;exact⟨hf,hc,λj hj=>by have:=hnf j hj; simp only; omega,λj hj=>by have:=hib j hj; simp only; omega⟩
theorem zdk:zc prog 7 Yn:=by
 refine zg' f7 λp hp O w0 Q hq=> ?_
 obtain⟨f,c⟩:=p;obtain⟨h1,h2,h3,h4⟩:=hp;simp only at hq h1 h2 h3 h4;refine zb.n z6 [1,3,4,5] (let v1:List Blk:=[.box [.sl f.length 3 (fxG f),.sl c.length 4 (chG c)]];.ite (bif decide ((1100:Int)<f.length) then true else decide ((1100:Int)<c.length)) (.R [.bool true] v1) (.leaf (.loop (lps K7 0).1 (lps K7 0).2 [(1,.ptr 0 0),(3,.i 0),(4,.i 0),Z 5] v1))) ?_;simp only [Tree.holds,zd];refine⟨λh=> ?_,λh=> ?_⟩
 ·exact RetR.scal (hq true λh=>(by cases h)) rfl (by simp [resV])
 ·have hbig:f.length<=1100/\c.length<=1100:=by
   rw [Bool.cond_eq_ite] at h;split at h
   ·cases h
   ·rename_i g1;have g2:=aC h;have g1:=aC (by simpa using g1:decide (1100<(f.length:Int))=false);omega
  obtain⟨hf,hc⟩:=hbig;refine zb.loop (ι:={p:Nat×Nat // p.2<=f.length/\p.1<=p.2*2^50/\∀ j,j<p.2->(f.getD j Fx.nil).name.length<=p.1/\(f.getD j Fx.nil).value.length<=p.1}) (λp=>SGq p.1.1 p.1.2) (λ_=>HE f c) (λp=>f.length - p.1.2) ⟨(0,0),aI _,by simp,λj hj=>by simp at hj⟩ 0 ?_ ?_ (by kernel_rfl)
  ·exact⟨by simp [SGq],by simp [HE,fxS,chS,za],by kernel_rfl,aI _⟩
  ·rintro⟨⟨m,i⟩,hil,hm,hib⟩;simp only at hil hm hib;refine zb.n z6 [1,3,4,5] (let v2:List Blk:=[.box [.sl f.length 3 (fxG f),.sl c.length 4 (chG c)]];let v1:=f.getD (i:Int).toNat Fx.nil;.D ((i:Int)<f.length) (.side ((0:Int)<=i/\(i:Int)<f.length) (.S ((m:Int)+(↑(List.length v1.name):Int)) (.side ((0:Int)<=i/\(i:Int)<f.length) (.S ((m:Int)+(↑(List.length v1.name):Int)+(↑(List.length v1.value):Int)) (.S (i+1) (.leaf (.back 0 [(1,.ptr 0 0),(3,.i ((m:Int)+(↑(List.length v1.name):Int)+(↑(List.length v1.value):Int))),(4,.i (i+1)),Z 5] v2))))))) (.leaf (.loop (lps (inside K7 0) 0).1 (lps (inside K7 0) 0).2 [(1,.ptr 0 0),(3,.i m),(4,.i i),(5,.i 0)] v2))) ?_;simp only [Tree.holds,zd,inR,lo,hi,aD];refine⟨λhlt=> ?_,λhge=> ?_⟩
   ·have hlt:i<f.length:=by have:=aB hlt; omega
    obtain⟨g1,g2⟩:=h3 i hlt
    iterate 5 refine⟨by omega,λ_=> ?_⟩
    rw [aP trivial];refine⟨⟨(m+(f.getD i Fx.nil).name.length+(f.getD i Fx.nil).value.length,i+1),hlt,by simp only; omega,λj hj=> ?_⟩,by show f.length - (i+1)<f.length - i; omega,by simp [SGq],by simp [HE,fxS,chS,za],by kernel_rfl,aI _⟩;simp only at hj ⊢;rcases aR j i with h1 | h1
    ·have:=hib j h1; omega
    ·have:j=i:=by omega
     rw [this]; omega
   ·have hge:i=f.length:=by have:=aC hge; omega
    subst hge;exact Ka f c m hf hc h4 (bP hm (aT _ hf)) hib hq _ _ ⟨by simp [SGq2],by simp [HE,fxS,chS,za],by kernel_rfl,aI _⟩
def HIdF(x:Fx):Heap:=[.box [.fn 36 [] []],.box [.str x.name,.i x.date,.str x.value]]
def zig:Ctr:=ctrT false false (λp:Fx×Fx=>[p.1.av,.ptr 0 0,.ptr 1 0]) (λp=>HIdF p.2) (λ_=>True) (λp r=>r=decide (cmpF p.1 p.2=0)) (λp (r:Bool)=>(.bool r,HIdF p.2))
noncomputable def GI1:=tb Qj (tb QP tz)
theorem zhf:zc prog 68 zig:=by
 refine zC (fn:=f68) (c:=f68.body.getD .skip) rfl rfl rfl (λh=>by cases h) λp hp O w0 I0 Q hl0 hq=> ?_
 obtain⟨⟨a,d,v⟩,⟨b,e,u⟩⟩:=p;replace hq:=hq _ rfl;simp only at hq;refine zb.n GI1.h [] (.ex (q24 [.agg [.str a,.i d,.str v],.agg [.str b,.i e,.str u]]) λn=>.all (λ(r:Int)=>r=cmpF n.1 n.2) λn=>.R [.bool (decide (n=0))] [.box [.fn 36 [] []],.box [.str b,.i e,.str u],.box [.str a,.i d,.str v]]) ?_;simp only [q24,Tree.holds,zd];refine⟨(⟨a,d,v⟩,⟨b,e,u⟩),⟨by simp,trivial⟩,⟨_,rfl⟩,?_⟩;rintro _ rfl;exact RetR.keep [0,1] rfl rfl (by show ∀ j,j<2->_; decide) rfl hq (by simp [resV,exp2,exp1,exp0,ren0,eqA2]) (by simp [expH,expB,exp1,exp0,ren0,HIdF]) rfl
def SIdF(l:List Fx)(i:Nat):KV:=[(0,fxS l),(1,.fn 68 [] [.ptr 0 0,.ptr 1 0]),(7,.i (l.length:Int)),(8,.i (i:Int))]
def zer:Ctr:=ctrT false false (λp:List Fx×Fx=>[fxS p.1,.fn 68 [] [.ptr 0 0,.ptr 1 0]]) (λp=>HIdF p.2) (λp=>p.1.length<2^40) (λp r=>r=idxB (λx=>decide (cmpF x p.2=0)) p.1) (λp (r:Int)=>(.i r,HIdF p.2))
noncomputable def GI2:=tb zhf tz
theorem zhc:zc prog 67 zer:=by
 refine zC (fn:=f67) (c:=f67.body.getD .skip) rfl rfl rfl (λh=>by cases h) λp hl O w0 I0 Q hl0 hq=> ?_
 obtain⟨l,x⟩:=p;replace hq:=hq _ rfl;simp only at hq hl;refine zb.n GI2.h [0,1,7,8] (.leaf (.loop (lps K67 0).1 (lps K67 0).2 [(0,.sl l.length 3 (fxG l)),(1,.fn 68 [] [.ptr 0 0,.ptr 1 0]),(7,.i l.length),(8,.i 0)] [.box [.fn 36 [] []],.box [.str x.name,.i x.date,.str x.value]])) ?_;simp only [Tree.holds,zd]
 have fin:∀ (i:Int) (h:Heap),i=idxB (λy=>decide (cmpF y x=0)) l->h=HIdF x->RetR zer 2 Q [.i i] h:=by
  intro i h hi2 hh;subst hh;rw [<- hi2] at hq;exact RetR.keep [0,1] rfl rfl (by show ∀ j,j<2->_; decide) rfl hq (by simp [resV,exp2,exp1,exp0,ren0,eqA2]) (by simp [expH,expB,exp1,exp0,ren0,HIdF]) rfl
 refine zb.loop (ι:={i:Nat // i<=l.length/\∀ j,j<i->decide (cmpF (l.getD j Fx.nil) x=0)=false}) (λi=>SIdF l i.1) (λ_=>HIdF x) (λi=>l.length - i.1) ⟨0,aI _,λj hj=>by omega⟩ 0 ?_ ?_ (by kernel_rfl)
 ·exact⟨by simp [SIdF,fxS,za],by simp [HIdF],by kernel_rfl,aJ _⟩
 ·rintro⟨i,hil,hib⟩;refine zb.n GI2.h [0,1,7,8] (let v2:=l.getD (i:Int).toNat Fx.nil;.D ((i:Int)<l.length) (.side ((0:Int)<=i/\(i:Int)<l.length) (.ex (λ(x_1:Fx×Fx)=>eqL [.agg [.str v2.name,.i v2.date,.str v2.value],.ptr 0 0,.ptr 1 0] [.agg [.str x_1.1.name,.i x_1.1.date,.str x_1.1.value],.ptr 0 0,.ptr 1 0]/\eqH [.box [.fn 36 [] []],.box [.str x.name,.i x.date,.str x.value]] [.box [.fn 36 [] []],.box [.str x_1.2.name,.i x_1.2.date,.str x_1.2.value]]/\2=2/\True) λn=>let v1:List Blk:=[.box [.fn 36 [] []],.box [.str n.2.name,.i n.2.date,.str n.2.value]];.all (λ(r:Bool)=>r=decide (cmpF n.1 n.2=0)) λn_1=>.ite n_1 (.R [.i i] v1) (.S (i+1) (.leaf (.back 0 [(0,.sl l.length 3 (fxG l)),(1,.fn 68 [] [.ptr 0 0,.ptr 1 0]),(7,.i l.length),(8,.i (i+1))] v1))))) (.R [.i (-1:Int)] [.box [.fn 36 [] []],.box [.str x.name,.i x.date,.str x.value]])) ?_;simp only [Tree.holds,zd,inR,lo,hi,aD];refine⟨λhlt=> ?_,λhge=> ?_⟩
  ·have hlt:i<l.length:=by have:=aB hlt; omega
   refine⟨by omega,λ_=>⟨(l.getD i Fx.nil,x),⟨by simp,by simp,trivial,trivial⟩,⟨_,rfl⟩,?_⟩⟩;rintro _ rfl;refine⟨λh=> ?_,λh=>⟨by omega,λ_=> ?_⟩⟩
   ·exact fin _ _ (WZ hlt h hib).symm rfl
   ·rw [aP trivial];refine⟨⟨i+1,hlt,λj hj=> ?_⟩,by show l.length - (i+1)<l.length - i; omega,by simp [SIdF,fxS,za],by simp [HIdF],by kernel_rfl,aJ _⟩;rcases aR j i with h1 | h1
    ·exact hib j h1
    ·have:j=i:=by omega
     rw [this]; exact h
  ·have hge:i=l.length:=by have:=aC hge; omega
   subst hge;exact fin _ _ (uF (p:=λy=>decide (cmpF y x=0)) hib).symm rfl
def Ud:Ctr:=ctrP true (λp:List Fx×Fx=>[fxS p.1,p.2.av,.fn 36 [] []]) (λp=>p.1.length<2^40) (λp r=>r=idxB (λx=>decide (cmpF x p.2=0)) p.1) (λ_ (r:Int)=>(.i r,[]))
noncomputable def GI3:=tb zhc tz
theorem zad:zc prog 35 Ud:=by
 refine zg' f35 λp hp O w0 Q hq=> ?_
 obtain⟨l,⟨a,d,v⟩⟩:=p;replace hq:=hq _ rfl;simp only at hq hp;refine zb.n GI3.h [] (.ex (λ(x:List Fx×Fx)=>eqL [.sl l.length 3 (fxG l),.fn 68 [] [.ptr 0 0,.ptr 1 0]] [.sl x.1.length 3 (fxG x.1),.fn 68 [] [.ptr 0 0,.ptr 1 0]]/\eqH [.box [.fn 36 [] []],.box [.str a,.i d,.str v]] [.box [.fn 36 [] []],.box [.str x.2.name,.i x.2.date,.str x.2.value]]/\2=2/\x.1.length<1099511627776) λn=>.all (λ(r:Int)=>r=idxB (λ(x:Fx)=>decide (cmpF x n.2=0)) n.1) λn_1=>.R [.i n_1] [.box [.str n.2.name,.i n.2.date,.str n.2.value],.box [.fn 36 [] []]]) ?_;simp only [Tree.holds,zd];refine⟨(l,⟨a,d,v⟩),⟨by simp [za],by simp,trivial,hp⟩,⟨_,rfl⟩,?_⟩;rintro _ rfl;exact RetR.scal hq rfl (by simp [resV])
noncomputable def GI4:=tb zad tz
theorem W5:zc prog 18 YY:=by
 refine zg' f18 λp hp O w0 Q hq=> ?_
 obtain⟨⟨f,c⟩,⟨a,d⟩⟩:=p;replace hq:=hq _ rfl;simp only at hq hp;refine zb.n GI4.h [] (let v1:List Blk:=[.box [.sl f.length 3 (fxG f),.sl c.length 4 (chG c)]];.ex (λ(x:List Fx×Fx)=>eqL [.sl f.length 3 (fxG f),.agg [.str a,.i d,.str #[].toList],.fn 36 [] []] [.sl x.1.length 3 (fxG x.1),.agg [.str x.2.name,.i x.2.date,.str x.2.value],.fn 36 [] []]/\x.1.length<1099511627776) λn=>.all (λ(r:Int)=>r=idxB (λ(x:Fx)=>decide (cmpF x n.2=0)) n.1) λn=>.D (n<0) (.R [.str #[].toList,.bool false] v1) (.side ((0:Int)<=n/\n<(f.length:Int)) (.R [.str (Fx.value (f.getD (Int.toNat n) Fx.nil)),.bool true] v1))) ?_;simp only [Tree.holds,zd];refine⟨(f,⟨a,d,[]⟩),⟨by simp [za],hp⟩,⟨_,rfl⟩,?_⟩;rintro _ rfl;obtain⟨hlt,hr⟩:=zay f a d;simp only at hq ⊢;refine⟨λh=> ?_,λh=> ?_⟩
 ·rw [hr,aO (by have:=aB h; omega)] at hq;exact RetR.scal hq rfl (by simp [resV])
 ·have h:=aC h;refine⟨⟨by omega,hlt⟩,λ_=> ?_⟩;rw [hr,aP (by omega)] at hq;exact RetR.scal hq rfl (by simp [resV])
end Go.Proofs.Tryz
end
section
open Go Go.Sx Go.Proofs Go.Nov
namespace Go.Proofs.Tryz
def zi7(p:List Fx×List Ch):Prop:=p.1.length<2^60/\p.2.length<2^60/\(∀ j,j<p.1.length->zbt (p.1.getD j Fx.nil))/\∀ j,j<p.2.length->Y0 (p.2.getD j Ch.nil)
theorem zbc{p:List Fx×List Ch}(h:fitP p):envP p:=by
 obtain⟨h1,h2,h3,h4⟩:=h;refine⟨by omega,by omega,λj hj=> ?_,λj hj=> ?_⟩
 ·obtain⟨a,b⟩:=h3 j hj; exact⟨by omega,by omega⟩
 ·obtain⟨a,b⟩:=h4 j hj; exact⟨by omega,by omega⟩
end Go.Proofs.Tryz
end
section
set_option maxRecDepth 100000
open Go Go.Sx Go.Proofs Go.Nov
namespace Go.Proofs.Tryz
attribute [local simp] eqKV eqA eqA0 eqH eqB eqL eqL0
theorem zjn{n:L8}{d:Int}(x:Fx):decide (([.inr n,.inl d]:List Sc)=[.inr x.name,.inl x.date])=(decide (x.name=n)&&decide (x.date=d)):=by
 rw [Bool.eq_iff_iff];simp only [aK,bA,List.cons.injEq,Sum.inr.injEq,Sum.inl.injEq,and_true];exact⟨λh=>⟨h.1.symm,h.2.symm⟩,λh=>⟨h.1.symm,h.2.symm⟩⟩
theorem idx_eq{ops:List TOp}{inp:List Fx}{n:L8}{d:Int} : (inp.findIdx λx=>decide (([.inr n,.inl d]:List Sc)=[.inr x.name,.inl x.date]))=RS.idx ⟨ops,inp⟩ n d:=by
 unfold RS.idx;congr 1;funext x;exact zjn x
theorem Uo{ops:List TOp}{inp:List Fx}{n:L8}{d:Int} : Jm inp [.inr n,.inl d]=true↔RS.idx ⟨ops,inp⟩ n d<inp.length:=by
 unfold Jm;rw [<- idx_eq (ops:=ops),List.findIdx_lt_length,List.any_eq_true]
theorem YF{l:List Fx}{x:Fx} : eqG (l.length+1) 3 (appG l.length (fxG l) (zf (ze 3 [.str x.name,.i x.date,.str x.value]) 0)) (fxG (l++[x])):=by
 intro j p hj hp;simp only [appG,fxG,zf,ze];by_cases q:j<l.length
 ·rw [aP q];simp only [List.getD,bL q]
 ·rw [aO q];obtain rfl:j=l.length:=by omega
  have e:(l++[x]).getD l.length Fx.nil=x:=by simp [List.getD]
  rw [e];rcases(show p=0\/p=1\/p=2 by omega) with rfl | rfl | rfl<;>simp [Fx.cell]
structure XFi where
 s:RS
 day:Int
 f:List Fx
 c:List Ch
 n:L8
 d:Int
def ziq:Ctr:=ctrM 1 (λp:XFi=>[.ptr 0 0,.str p.n,.i p.d]) (λp=>HRc p.s p.day p.f p.c)
 (λp=>p.s.ops.length<2^39/\p.s.inp.length<2^39/\p.f.length<2^40/\p.n.length<2^40) (λ_ (_:Unit)=>True) (λp _=>(.i (p.s.ops.length:Nat),HRc (p.s.fix p.f p.n p.d) p.day p.f p.c))
noncomputable def GRxB:=tb W5 (tb YZ tz)
abbrev q25(A:List AV)(x:(List Fx×List Ch)×L8×Int):Prop:=eqL A [.agg [.sl x.1.1.length 3 (fxG x.1.1),.sl x.1.2.length 4 (chG x.1.2)],.str x.2.1,.i x.2.2]/\x.1.1.length<1099511627776
theorem zfv:zc prog 51 ziq:=by
 refine Wy (fn:=f51) (c:=f51.body.getD .skip) rfl rfl rfl λp hp O w0 I0 Q hl0 hq=> ?_
 obtain⟨⟨ops,inp⟩,day,f,c,n,d⟩:=p;replace hq:=hq () trivial;obtain⟨h1,h2,h3,h4⟩:=hp;simp only at h1 h2 h3 h4 hq;refine zb.n GRxB.h [] (let v18:List AV:=[.str n,.i d];let v17:=inp.length+1;let v8:=[AV.ptr 0 0,AV.agg [.int .u8 1,.i inp.length,.i 0,.str #[].toList]];let v7:=q25 [.agg [.sl f.length 3 (fxG f),.sl c.length 4 (chG c)],.str n,.i d];let v6:=[AV.i 0,AV.osl 1 4 0 ops.length,AV.osl 2 3 0 inp.length,AV.omap 3,AV.i day,AV.sl f.length 3 (fxG f),AV.sl c.length 4 (chG c)];let v5:=[AV.i 0,AV.osl 1 4 0 ops.length,AV.osl 2 3 0 v17,AV.omap 3,AV.i day,AV.sl f.length 3 (fxG f),AV.sl c.length 4 (chG c)];.ite (Jm inp [Sum.inr n,Sum.inl d]) (.ite false (.ex v7 λn_1=>.all (λ(r:L8×Bool)=>r=qk n_1.1.1 n_1.2.1 n_1.2.2) λn_2=>.side (0=0/\inp.length<=inp.length/\v17 *40<=140737488355328) (.ex (λ(x:XRc)=>let v13:=RS.ops x.s;let v9:=RS.inp x.s;eqL v8 [.ptr 0 0,.agg [.int .u8 x.o.kind,.i x.o.a,.i x.o.b,.str x.o.rat]]/\eqH [.box v5,.arr ops.length 4 (opG ops),.arr v17 3 (appG inp.length (fxG inp) (zf (ze 3 [.str n,.i d,.str n_2.1]) 0)),Blk.map true [Sum.inr false,Sum.inl .i64] (zN (λ(k:List Sc)=>List.any inp λ(x:Fx)=>decide (k=[Sum.inr x.name,Sum.inl x.date])) [Sum.inr n,Sum.inl d]) (z7 (λ(k:List Sc)=>AV.int .i64 ↑(List.findIdx (λ(x:Fx)=>decide (k=[Sum.inr x.name,Sum.inl x.date])) inp)) [Sum.inr n,Sum.inl d] (AV.i inp.length))] [.box [.i 0,.osl 1 4 0 (List.length v13),.osl 2 3 0 (List.length v9),AV.omap 3,.i x.day,.sl x.f.length 3 (fxG x.f),.sl x.c.length 4 (chG x.c)],.arr (List.length v13) 4 (opG v13),.arr (List.length v9) 3 (fxG v9),Blk.map true [Sum.inr false,Sum.inl .i64] (λ(k:List Sc)=>List.any v9 λx=>decide (k=[Sum.inr x.name,Sum.inl x.date])) λk=>AV.int .i64 ↑(List.findIdx (λ(x:Fx)=>decide (k=[Sum.inr x.name,Sum.inl x.date])) v9)]/\4=4/\List.length v13 <1099511627776) λn_3=>let v1:=RS.put n_3.s n_3.o;.A λn_4=>.R [.int .i64 ↑(List.length n_3.s.ops)] [.box [.i 0,.osl 1 4 0 (List.length v1.ops),.osl 2 3 0 (List.length v1.inp),.omap 3,.i n_3.day,.sl n_3.f.length 3 (fxG n_3.f),.sl n_3.c.length 4 (chG n_3.c)],.arr (List.length v1.ops) 4 (opG v1.ops),.arr (List.length v1.inp) 3 (fxG v1.inp),Blk.map true [Sum.inr false,Sum.inl .i64] (λ(k:List Sc)=>List.any v1.inp λx=>decide (k=[Sum.inr x.name,Sum.inl x.date])) λk=>.int .i64 ↑(List.findIdx (λ(x:Fx)=>decide (k=[Sum.inr x.name,Sum.inl x.date])) v1.inp),.box v18,.arr 1 3 (ze 3 [.str n,.i d,.str n_2.1])])) (.ex (λ(x:XRc)=>let v14:=RS.ops x.s;let v10:=RS.inp x.s;eqL [.ptr 0 0,.agg [.int .u8 1,.int .i64 ↑(List.findIdx (λ(x:Fx)=>decide ([Sum.inr n,Sum.inl d]=[Sum.inr x.name,Sum.inl x.date])) inp),.i 0,.str #[].toList]] [.ptr 0 0,.agg [.int .u8 x.o.kind,.i x.o.a,.i x.o.b,.str x.o.rat]]/\eqH [.box v6,.arr ops.length 4 (opG ops),.arr inp.length 3 (fxG inp),Blk.map true [Sum.inr false,Sum.inl .i64] (λ(k:List Sc)=>List.any inp λ(x:Fx)=>decide (k=[Sum.inr x.name,Sum.inl x.date])) λk=>AV.int .i64 ↑(List.findIdx (λ(x:Fx)=>decide (k=[Sum.inr x.name,Sum.inl x.date])) inp)] [.box [.i 0,.osl 1 4 0 (List.length v14),.osl 2 3 0 (List.length v10),AV.omap 3,.i x.day,.sl x.f.length 3 (fxG x.f),.sl x.c.length 4 (chG x.c)],.arr (List.length v14) 4 (opG v14),.arr (List.length v10) 3 (fxG v10),Blk.map true [Sum.inr false,Sum.inl .i64] (λ(k:List Sc)=>List.any v10 λx=>decide (k=[Sum.inr x.name,Sum.inl x.date])) λk=>AV.int .i64 ↑(List.findIdx (λ(x:Fx)=>decide (k=[Sum.inr x.name,Sum.inl x.date])) v10)]/\4=4/\List.length v14 <1099511627776) λn_1=>let v2:=RS.put n_1.s n_1.o;.A λn_2=>.R [.int .i64 ↑(List.length n_1.s.ops)] [.box [.i 0,.osl 1 4 0 (List.length v2.ops),.osl 2 3 0 (List.length v2.inp),.omap 3,.i n_1.day,.sl n_1.f.length 3 (fxG n_1.f),.sl n_1.c.length 4 (chG n_1.c)],.arr (List.length v2.ops) 4 (opG v2.ops),.arr (List.length v2.inp) 3 (fxG v2.inp),Blk.map true [Sum.inr false,Sum.inl .i64] (λ(k:List Sc)=>List.any v2.inp λx=>decide (k=[Sum.inr x.name,Sum.inl x.date])) λk=>.int .i64 ↑(List.findIdx (λ(x:Fx)=>decide (k=[Sum.inr x.name,Sum.inl x.date])) v2.inp),.box v18])) (.ite true (.ex v7 λn_1=>.all (λ(r:L8×Bool)=>r=qk n_1.1.1 n_1.2.1 n_1.2.2) λn_2=>.side (0=0/\inp.length<=inp.length/\v17 *40<=140737488355328) (.ex (λ(x:XRc)=>let v15:=RS.ops x.s;let v11:=RS.inp x.s;eqL v8 [.ptr 0 0,.agg [.int .u8 x.o.kind,.i x.o.a,.i x.o.b,.str x.o.rat]]/\eqH [.box v5,.arr ops.length 4 (opG ops),.arr v17 3 (appG inp.length (fxG inp) (zf (ze 3 [.str n,.i d,.str n_2.1]) 0)),Blk.map true [Sum.inr false,Sum.inl .i64] (zN (λ(k:List Sc)=>List.any inp λ(x:Fx)=>decide (k=[Sum.inr x.name,Sum.inl x.date])) [Sum.inr n,Sum.inl d]) (z7 (λ(k:List Sc)=>AV.int .i64 ↑(List.findIdx (λ(x:Fx)=>decide (k=[Sum.inr x.name,Sum.inl x.date])) inp)) [Sum.inr n,Sum.inl d] (AV.i inp.length))] [.box [.i 0,.osl 1 4 0 (List.length v15),.osl 2 3 0 (List.length v11),AV.omap 3,.i x.day,.sl x.f.length 3 (fxG x.f),.sl x.c.length 4 (chG x.c)],.arr (List.length v15) 4 (opG v15),.arr (List.length v11) 3 (fxG v11),Blk.map true [Sum.inr false,Sum.inl .i64] (λ(k:List Sc)=>List.any v11 λx=>decide (k=[Sum.inr x.name,Sum.inl x.date])) λk=>AV.int .i64 ↑(List.findIdx (λ(x:Fx)=>decide (k=[Sum.inr x.name,Sum.inl x.date])) v11)]/\4=4/\List.length v15 <1099511627776) λn_3=>let v3:=RS.put n_3.s n_3.o;.A λn_4=>.R [.int .i64 ↑(List.length n_3.s.ops)] [.box [.i 0,.osl 1 4 0 (List.length v3.ops),.osl 2 3 0 (List.length v3.inp),.omap 3,.i n_3.day,.sl n_3.f.length 3 (fxG n_3.f),.sl n_3.c.length 4 (chG n_3.c)],.arr (List.length v3.ops) 4 (opG v3.ops),.arr (List.length v3.inp) 3 (fxG v3.inp),Blk.map true [Sum.inr false,Sum.inl .i64] (λ(k:List Sc)=>List.any v3.inp λx=>decide (k=[Sum.inr x.name,Sum.inl x.date])) λk=>.int .i64 ↑(List.findIdx (λ(x:Fx)=>decide (k=[Sum.inr x.name,Sum.inl x.date])) v3.inp),.box v18,.arr 1 3 (ze 3 [.str n,.i d,.str n_2.1])])) (.ex (λ(x:XRc)=>let v16:=RS.ops x.s;let v12:=RS.inp x.s;eqL [.ptr 0 0,.agg [.int .u8 1,.i 0,.i 0,.str #[].toList]] [.ptr 0 0,.agg [.int .u8 x.o.kind,.i x.o.a,.i x.o.b,.str x.o.rat]]/\eqH [.box v6,.arr ops.length 4 (opG ops),.arr inp.length 3 (fxG inp),Blk.map true [Sum.inr false,Sum.inl .i64] (λ(k:List Sc)=>List.any inp λ(x:Fx)=>decide (k=[Sum.inr x.name,Sum.inl x.date])) λk=>AV.int .i64 ↑(List.findIdx (λ(x:Fx)=>decide (k=[Sum.inr x.name,Sum.inl x.date])) inp)] [.box [.i 0,.osl 1 4 0 (List.length v16),.osl 2 3 0 (List.length v12),AV.omap 3,.i x.day,.sl x.f.length 3 (fxG x.f),.sl x.c.length 4 (chG x.c)],.arr (List.length v16) 4 (opG v16),.arr (List.length v12) 3 (fxG v12),Blk.map true [Sum.inr false,Sum.inl .i64] (λ(k:List Sc)=>List.any v12 λx=>decide (k=[Sum.inr x.name,Sum.inl x.date])) λk=>AV.int .i64 ↑(List.findIdx (λ(x:Fx)=>decide (k=[Sum.inr x.name,Sum.inl x.date])) v12)]/\4=4/\List.length v16 <1099511627776) λn_1=>let v4:=RS.put n_1.s n_1.o;.A λn_2=>.R [.int .i64 ↑(List.length n_1.s.ops)] [.box [.i 0,.osl 1 4 0 (List.length v4.ops),.osl 2 3 0 (List.length v4.inp),.omap 3,.i n_1.day,.sl n_1.f.length 3 (fxG n_1.f),.sl n_1.c.length 4 (chG n_1.c)],.arr (List.length v4.ops) 4 (opG v4.ops),.arr (List.length v4.inp) 3 (fxG v4.inp),Blk.map true [Sum.inr false,Sum.inl .i64] (λ(k:List Sc)=>List.any v4.inp λx=>decide (k=[Sum.inr x.name,Sum.inl x.date])) λk=>.int .i64 ↑(List.findIdx (λ(x:Fx)=>decide (k=[Sum.inr x.name,Sum.inl x.date])) v4.inp),.box v18]))) ?_;simp only [q25,Tree.holds,zd];refine⟨λhh=>⟨λg=>by simp at g,λ_=> ?_⟩,λhh=>⟨λ_=> ?_,λg=>by simp at g⟩⟩
 ·have hlt:RS.idx ⟨ops,inp⟩ n d<inp.length:=Uo.1 hh;have e1:(inp.findIdx λx=>decide (([.inr n,.inl d]:List Sc)=[.inr x.name,.inl x.date]))=RS.idx ⟨ops,inp⟩ n d:=idx_eq;rw [e1];refine⟨⟨⟨ops,inp⟩,day,f,c,⟨1,RS.idx ⟨ops,inp⟩ n d,0,[]⟩⟩,⟨by simp,by simp [za],trivial,by show ops.length<_; omega⟩,⟨(),trivial⟩,λ_ _=> ?_⟩;have e2:RS.fix f n d ⟨ops,inp⟩=RS.put ⟨ops,inp⟩ ⟨1,RS.idx ⟨ops,inp⟩ n d,0,[]⟩:=by unfold RS.fix; rw [aP hlt]
  rw [e2] at hq;refine RetR.keep [0,1,2,3] rfl (by simp) (by show ∀ j,j<4->_; decide) rfl hq (by simp [resV,exp2,exp1,exp0,ren0,eqA2,eqL1]) ?_ rfl;refine⟨?_,⟨rfl,rfl,za _ _ _⟩,⟨rfl,rfl,za _ _ _⟩,⟨⟨rfl,.inl rfl⟩,rfl,λ_=>rfl,λ_ _=>rfl⟩,trivial⟩;simp [expB,exp1,exp0,ren0,zz,RS.put,fxS,chS,za]
 ·refine⟨((f,c),n,d),⟨by simp [za],h3⟩,⟨_,rfl⟩,?_⟩;intro v hv;replace hv:v=qk f n d:=hv;refine⟨⟨trivial,aJ _,by omega⟩,λ_=> ?_⟩;have hge:¬ RS.idx ⟨ops,inp⟩ n d<inp.length:=λq=>by rw [Uo.2 q] at hh; cases hh
  have e2:RS.fix f n d ⟨ops,inp⟩=RS.put ⟨ops,inp++[⟨n,d,v.1⟩]⟩ ⟨1,inp.length,0,[]⟩:=by unfold RS.fix; rw [aO hge,hv]; rfl
  rw [e2] at hq;refine⟨⟨⟨ops,inp++[⟨n,d,v.1⟩]⟩,day,f,c,⟨1,inp.length,0,[]⟩⟩,⟨by simp,⟨by simp [za],by simp [za],⟨by simp,rfl,YF (x:=⟨n,d,v.1⟩)⟩,⟨⟨rfl,.inl rfl⟩,rfl,?_,?_⟩,trivial⟩,trivial,by show ops.length<_; omega⟩,⟨(),trivial⟩,λ_ _=> ?_⟩
  ·intro k;simp only [zN,List.any_append,List.any_cons,List.any_nil,Bool.or_false];exact Bool.or_comm _ _
  ·intro k hk;simp only [z7];rw [List.findIdx_append];by_cases q:k=[.inr n,.inl d]
   ·subst q;rw [aP rfl,aO (by rw [idx_eq (ops:=ops)]; exact hge)];simp
   ·rw [aO q];simp only [zN,aW q,Bool.false_or] at hk;rw [aP];rw [List.findIdx_lt_length];exact List.any_eq_true.1 hk
  refine RetR.keep [0,1,2,3] rfl (by simp) (by show ∀ j,j<4->_; decide) rfl hq (by simp [resV,exp2,exp1,exp0,ren0,eqA2,eqL1]) ?_ rfl;refine⟨?_,⟨rfl,rfl,za _ _ _⟩,⟨rfl,rfl,za _ _ _⟩,⟨⟨rfl,.inl rfl⟩,rfl,λ_=>rfl,λ_ _=>rfl⟩,trivial⟩;simp [expB,exp1,exp0,ren0,zz,RS.put,fxS,chS,za]
noncomputable def K147:=Go.Sx.aA f147
def Ug:Ctr:=ctr2 true (λx y=>(canon x).length<100000/\(canon y).length<100000) (λx y d=>d=x+y) (λ_ _ d=>(magS d,[]))
def SPl(x y:Nat)(o:List Nat)(c i:Nat):KV:=[(1,magS y),(5,.osl 0 1 0 o.length),(6,.int .u32 (c:Int)),(21,magS x),(22,.i ((canon x).length:Int)),(23,.i (i:Int))]
structure IPl(x y:Nat) where
 o:List Nat
 c:Nat
 i:Nat
 len:o.length=i
 le:i<=(canon x).length
 dg:dig o
 c1:c<=1
 eq:val o+B^i*c=val ((canon x).take i)+val ((canon y).take i)
theorem zk1{x y o c i d c':Nat}{l m:List Nat}(h:o+B^i*c=val (l.take i)+val (m.take i))(he:d+B*c'=l.getD i 0+m.getD i 0+c):o+B^i*d+B^(i+1)*c'=val (l.take (i+1))+val (m.take (i+1)):=by
 rw [zp,zp,Nat.pow_succ];have:=congrArg (B^i * ·) he;simp only [bN] at this;rw [bI];omega
theorem RetR.zkr{ctr:Ctr}{Q:AV×Heap->Prop}{h:Heap}{i m n:Nat}{k:IntKind}{l:List Nat}{G:Nat->Nat->AV}(hq:Q (natS k l,[]))(hb:h[i]?=some (.arr m 1 G))(hn:n<=m)(hl:l.length=n)(hG:∀ j,j<n->G j 0 = .int k ((l.getD j 0:Nat):Int)):RetR ctr 0 Q [.osl i 1 0 n] h:=by
 refine RetR.out0 hq (λ_=> ?_) ?_
 ·refine zd1 hb (by omega) λj o hj ho=> ?_
  have:o=0:=by omega
  subst this;simp only [zf,Nat.zero_add,hG j hj,qe]
 ·have e:exp2 h [] (resV [.osl i 1 0 n])=exp0 h [] (.osl i 1 0 n):=rfl;rw [e,Vx hb (by omega),zko];simp only [eqA2,natS];refine⟨hl.symm,rfl,λj o hj ho=> ?_⟩;have:o=0:=by omega
  subst this;rw [hG j hj]; rfl
theorem Ky{O:Nat->Prop}{w0:World}{Q:AV×Heap->Prop}(x y:Nat)(hx:(canon x).length<100000)(hlen:(canon y).length<=(canon x).length)(hq:Q (magS (x+y),[]))(kv:KV)(h:Heap)(hle:LeK 0 f147.ntmps kv h (SPl x y [] 0 0) [.arr 0 1 (natG .u32 [])]) :
  zb prog f147 O 0 w0 [] (λ_ _ _=>False) (RetR Ug 0 Q) (.code (.loop (lps K147 0).1)::(lps K147 0).2) (mk f147.ntmps kv h):=by
 refine zb.loop (ι:=IPl x y) (λs=>SPl x y s.o s.c s.i) (λs=>[.arr s.o.length 1 (natG .u32 s.o)]) (λs=>(canon x).length - s.i) ⟨[],0,0,rfl,aI _,by simp [dig],by omega,by simp [val]⟩ 0 hle ?_ (by kernel_rfl);rintro⟨o,c,i,ho,hle,hd,hc,he⟩;subst ho;have hB:B=1000000000:=rfl;refine zb.n G1.h [1,5,6,21,22,23] (let v8:=natG .u32 o;let v7:=inR .i64 (o.length+1);let v4:=o.length+1;let v1:=Int.toNat o.length;let v6:=Int.tdiv ((↑(List.getD (canon x) v1 0):Int)+c) (1000000000:Int);let v5:=ze 1 [.int .u32 (Int.tmod ((↑(List.getD (canon x) v1 0):Int)+c) (1000000000:Int))];let v3:=Int.tdiv ((↑(List.getD (canon x) v1 0):Int)+c+(↑(List.getD (canon y) v1 0):Int)) (1000000000:Int);let v2:=ze 1 [.int .u32 (Int.tmod ((↑(List.getD (canon x) v1 0):Int)+c+(↑(List.getD (canon y) v1 0):Int)) (1000000000:Int))];.D ((o.length:Int)<((canon x).length:Int)) (.side ((0:Int)<=o.length/\(o.length:Int)<((canon x).length:Int)) (.side (inR .u32 ((↑(List.getD (canon x) v1 0):Int)+c)) (.D ((o.length:Int)<((canon y).length:Int)) (.side ((0:Int)<=o.length/\(o.length:Int)<((canon y).length:Int)) (.side (inR .u32 ((↑(List.getD (canon x) v1 0):Int)+c+(↑(List.getD (canon y) v1 0):Int))) (.side ((1000000000:Int)≠0/\inR .u32 v3) (.side ((1000000000:Int)≠0) (.side (0=0/\o.length<=o.length/\v4 *4<=140737488355328) (.side v7 (.leaf (.back 0 [(1,.sl (canon y).length 1 (natG .u32 (canon y))),(5,.osl 0 1 0 v4),(6,.int .u32 v3),(21,.sl (canon x).length 1 (natG .u32 (canon x))),(22,.i (canon x).length),(23,.i (o.length+1))] [.arr v4 1 (appG o.length v8 (zf v2 0)),.arr 1 1 v2])))))))) (.side ((1000000000:Int)≠0/\inR .u32 v6) (.side ((1000000000:Int)≠0) (.side (0=0/\o.length<=o.length/\v4 *4<=140737488355328) (.side v7 (.leaf (.back 0 [(1,.sl (canon y).length 1 (natG .u32 (canon y))),(5,.osl 0 1 0 v4),(6,.int .u32 v6),(21,.sl (canon x).length 1 (natG .u32 (canon x))),(22,.i (canon x).length),(23,.i (o.length+1))] [.arr v4 1 (appG o.length v8 (zf v5 0)),.arr 1 1 v5]))))))))) (.side (0=0/\o.length<=o.length/\v4 *4<=140737488355328) (.ex (λ(u:List Nat)=>u.length=o.length+1/\0+(o.length+1)<=o.length+1/\o.length+1<4611686018427387904/\eqG v4 1 (appG o.length v8 (zf (ze 1 [.int .u32 c]) 0)) (natG .u32 u)/\dig (List.take v4 (List.drop 0 u))) λn=>.all (λ(x:Nat)=>x=val (List.take v4 (List.drop 0 n))) λn=>.R [.osl 0 1 0 (canon n).length] [.arr v4 1 (appG o.length v8 (zf (ze 1 [.int .u32 c]) 0)),.arr 1 1 (ze 1 [.int .u32 c])]))) ?_;simp only [Tree.holds,zd,inR,lo,hi,aD,xH];have ha:=zH (zi x) o.length;have hb:=zH (zi y) o.length
 have hnext:∀ d c':Nat,d<B->c'<=1->o.length<(canon x).length->d+B*c'=(canon x).getD o.length 0+(canon y).getD o.length 0+c ->
   ∃ s:IPl x y,s.o=o++[d]/\s.c=c'/\s.i=o.length+1:=λd c' h1 h2 h3 h4=>
  ⟨⟨o++[d],c',o.length+1,by simp,h3,jf.2 ⟨hd,by simp [dig,h1]⟩,h2,by rw [QR]; exact zk1 (x:=x) (y:=y) he h4⟩,rfl,rfl,rfl⟩
 have hdiv:∀ v:Nat,(v:Int).tdiv 1000000000=((v/B:Nat):Int)/\(v:Int).tmod 1000000000=((v%B:Nat):Int):=λv=>⟨rfl,rfl⟩
 have hq2:∀ v:Nat,v<2*B->v/B<=1/\v%B<B/\v%B+B*(v/B)=v:=λv hv=>⟨by have:=Nat.div_lt_of_lt_mul (show v<B*2 by omega); omega,Nat.mod_lt _ (by omega),Nat.mod_add_div _ _⟩
 refine⟨λhlt=> ?_,λhge=> ?_⟩
 ·have hlt:o.length<(canon x).length:=by have:=aB hlt; omega
  refine⟨by omega,λ_=>⟨by omega,λ_=>⟨λhb2=> ?_,λhb2=> ?_⟩⟩⟩
  ·have hb2:o.length<(canon y).length:=by have:=aB hb2; omega
   refine⟨by omega,λ_=>⟨by omega,λ_=> ?_⟩⟩;obtain⟨v,hv⟩:∃ v,(canon x).getD o.length 0+c+(canon y).getD o.length 0=v:=⟨_,rfl⟩;have ev:(((canon x).getD o.length 0:Nat):Int)+(c:Int)+(((canon y).getD o.length 0:Nat):Int)=(v:Int):=by omega
   rw [ev,(hdiv v).1,(hdiv v).2];obtain⟨g1,g2,g3⟩:=hq2 v (by omega);generalize v/B=q at g1 g3 ⊢;generalize v%B=r at g2 g3 ⊢;refine⟨⟨by decide,by omega,by omega⟩,λ_=>⟨by decide,λ_=>⟨⟨trivial,aJ _,by omega⟩,λ_=>⟨by omega,λ_=> ?_⟩⟩⟩⟩;obtain⟨s,h1,h2,h3⟩:=hnext r q g2 g1 hlt (by omega);rw [aP trivial];exact⟨s,by show _ - s.i<_; omega,by simp [SPl,h1,h2,h3,magS,natS,za],by rw [h1]; exact vd rfl,by kernel_rfl,aI _⟩
  ·have hb2:(canon y).length<=o.length:=by have:=aC hb2; omega
   have hb0:(canon y).getD o.length 0=0:=by simp [List.getD,aZ hb2]
   obtain⟨v,hv⟩:∃ v,(canon x).getD o.length 0+c=v:=⟨_,rfl⟩;have ev:(((canon x).getD o.length 0:Nat):Int)+(c:Int)=(v:Int):=by omega
   rw [ev,(hdiv v).1,(hdiv v).2];obtain⟨g1,g2,g3⟩:=hq2 v (by omega);generalize v/B=q at g1 g3 ⊢;generalize v%B=r at g2 g3 ⊢;refine⟨⟨by decide,by omega,by omega⟩,λ_=>⟨by decide,λ_=>⟨⟨trivial,aJ _,by omega⟩,λ_=>⟨by omega,λ_=> ?_⟩⟩⟩⟩;obtain⟨s,h1,h2,h3⟩:=hnext r q g2 g1 hlt (by omega);rw [aP trivial];exact⟨s,by show _ - s.i<_; omega,by simp [SPl,h1,h2,h3,magS,natS,za],by rw [h1]; exact vd rfl,by kernel_rfl,aI _⟩
 ·have hge:o.length=(canon x).length:=by have:=aC hge; omega
  have hv:val (o++[c])=x+y:=by
   rw [QR];rw [hge,bD,bF hlen,zk,zk] at he;rw [hge]; exact he
  have hdo:dig (o++[c]):=jf.2 ⟨hd,by simp [dig]; omega⟩
  have hpush:eqG (o.length+1) 1 (appG o.length (natG .u32 o) (zf (ze 1 [.int .u32 (c:Int)]) 0)) (natG .u32 (o++[c])):=by
   have:=y8 (k:=.u32) (l:=o) (v:=(c:Int)) (by omega);simpa using this
  have hall:List.take (o.length+1) (List.drop 0 (o++[c]))=o++[c]:=by rw [List.drop_zero]; exact bF (by simp)
  refine⟨⟨trivial,aJ _,by omega⟩,λ_=>⟨o++[c],⟨by simp,by omega,by omega,hpush,by rw [hall]; exact hdo⟩,⟨_,rfl⟩,?_⟩⟩;intro X hX;have hX:X=x+y:=by rw [hX,hall,hv]
  subst hX;have htr:qD (o++[c])=canon (x+y):=by rw [zL hdo,hv]
  have htl:(canon (x+y)).length=tlen (o++[c]):=by rw [<- htr,qD,aH]; have:=qj (o++[c]); omega
  rw [htl];have hle2:=qj (o++[c]);have hln:(o++[c]).length=o.length+1:=by simp
  refine RetR.zkr (l:=canon (x+y)) (k:=.u32) hq rfl (by omega) htl λj hj=> ?_
  have:=hpush j 0 (by omega) (by omega);rw [this,<- htr];simp only [natG,qD];rw [Uc hj]
theorem YI:zc prog 147 Ug:=by
 refine ue (fn:=f147) (c:=f147.body.getD .skip) rfl rfl rfl λx y hp O w0 Q hq=> ?_
 replace hq:=hq _ rfl;obtain⟨hx,hy⟩:=hp;refine zb.n G1.h [1,5,6,21,22,23] (let v1:=lps K147 0;.D (((canon x).length:Int)<((canon y).length:Int)) (.S ((canon y).length+1) (.side ((0:Int)<=0/\(0:Int)<=((canon y).length:Int)+(1:Int)/\inR .i64 ((canon y).length+1)/\Int.toNat ((canon y).length+1)*4<=140737488355328) (.leaf (.loop v1.1 v1.2 [(1,.sl (canon x).length 1 (natG .u32 (canon x))),(5,.osl 0 1 0 0),(6,.int .u32 0),(21,.sl (canon y).length 1 (natG .u32 (canon y))),(22,.i (canon y).length),(23,.i 0)] [.arr 0 1 (wO [.int .u32 0])])))) (.S ((canon x).length+1) (.side ((0:Int)<=0/\(0:Int)<=((canon x).length:Int)+(1:Int)/\inR .i64 ((canon x).length+1)/\Int.toNat ((canon x).length+1)*4<=140737488355328) (.leaf (.loop v1.1 v1.2 [(1,.sl (canon y).length 1 (natG .u32 (canon y))),(5,.osl 0 1 0 0),(6,.int .u32 0),(21,.sl (canon x).length 1 (natG .u32 (canon x))),(22,.i (canon x).length),(23,.i 0)] [.arr 0 1 (wO [.int .u32 0])]))))) ?_;simp only [Tree.holds,zd,inR,lo,hi];refine⟨λh=> ?_,λh=> ?_⟩
 ·have h:(canon x).length<(canon y).length:=by have:=aB h; omega
  refine⟨by omega,λ_=>⟨⟨by omega,by omega,by omega,by omega⟩,λ_=> ?_⟩⟩;rw [Nat.add_comm] at hq;exact Ky y x hy (by omega) hq _ _ ⟨by simp [SPl,magS,natS,za],by simp [eqG],by kernel_rfl,aI _⟩
 ·have h:(canon y).length<=(canon x).length:=by have:=aC h; omega
  refine⟨by omega,λ_=>⟨⟨by omega,by omega,by omega,by omega⟩,λ_=> ?_⟩⟩;exact Ky x y hx h hq _ _ ⟨by simp [SPl,magS,natS,za],by simp [eqG],by kernel_rfl,aI _⟩
def zis:Ctr:=ctrP false (λp:Bool×Nat=>[.bool p.1,magS p.2]) (λ_=>True) (λp r=>r=(p.1&&decide (0<p.2),p.2)) (λ_ (r:Bool×Nat)=>(numV r.1 r.2,[]))
theorem Z6{x:Nat} : decide (0<((canon x).length:Int))=decide (0<x):=by
 by_cases h:x=0
 ·subst h; simp [canon]
 ·have h1:0<x:=bV h;have h2:(canon x).length≠0:=λh2=>h (xM.1 h2)
  rw [aX (by omega),aX h1]
theorem RetR.numV{ctr:Ctr}{Q:AV×Heap->Prop}{h:Heap}{b:Bool}{x:Nat}(hf:ctr.fresh=false)(hq:Q (numV b x,[])):RetR ctr 0 Q [.agg [.bool b,magS x]] h:=by
 refine RetR.out0 hq (λh=>by rw [hf] at h; cases h) ?_;simp [resV,exp2,exp1,exp0,ren0,frz1,eqA2,eqL1,eqA,eqL0,eqA0,Tryz.numV,magS,natS,za]
theorem zge:zc prog 146 zis:=by
 refine zg' f146 λp hp O w0 Q hq=> ?_
 obtain⟨b,x⟩:=p;replace hq:=hq _ rfl;refine zb.n z6 [] (let v1:List AV:=[.bool (bif b then decide ((0:Int)<((canon x).length:Int)) else false),.sl (canon x).length 1 (natG .u32 (canon x))];.R [.agg v1] [.box v1]) ?_;simp only [Tree.holds,zd];rw [Z6];have e:(bif b then decide (0<x) else false)=(b&&decide (0<x)):=by cases b<;>rfl
 rw [e];exact RetR.numV rfl hq
def sumC:Ctr:=ctrP false (λp:(Bool×Nat)×(Bool×Nat)=>[numV p.1.1 p.1.2,numV p.2.1 p.2.2]) (λp=>(canon p.1.2).length<100000/\(canon p.2.2).length<100000)
 (λp r=>r=((sumS p.1.1 p.1.2 p.2.1 p.2.2).1&&decide (0<(sumS p.1.1 p.1.2 p.2.1 p.2.2).2),(sumS p.1.1 p.1.2 p.2.1 p.2.2).2)) (λ_ (r:Bool×Nat)=>(numV r.1 r.2,[]))
noncomputable def GSu:=tb zge (tb YI (tb yd (tb Qr tz)))
abbrev q27(A:List AV)(x:Bool×Nat):Prop:=eqL A [.bool x.1,.sl (canon x.2).length 1 (natG .u32 (canon x.2))]/\True
abbrev q26(A:List AV)(x:Nat×Nat):Prop:=eqL A [.sl (canon x.1).length 1 (natG .u32 (canon x.1)),.sl (canon x.2).length 1 (natG .u32 (canon x.2))]/\List.length (canon x.1)<100000/\List.length (canon x.2)<100000
theorem zfd:zc prog 119 sumC:=by
 refine zg' f119 λp hp O w0 Q hq=> ?_
 obtain⟨⟨m,x⟩,⟨n,y⟩⟩:=p;obtain⟨h1,h2⟩:=hp;replace hq:=hq _ rfl;simp only at h1 h2 hq;refine zb.n GSu.h [] (let v8:=natG .u32 (canon x);let v7:=natG .u32 (canon y);let v3:List AV:=[.bool n,.sl (canon y).length 1 v7];let v2:List AV:=[.bool m,.sl (canon x).length 1 v8];let v1:=[AV.sl (canon x).length 1 v8,AV.sl (canon y).length 1 v7];.ite (m == n) (.ex (q26 v1) λn_1=>.all (λ(d:Nat)=>d=n_1.1+n_1.2) λn_2=>.ex (q27 [.bool m,.sl (canon n_2).length 1 (natG .u32 (canon n_2))]) λn_3=>.all (λ(r:Bool×Nat)=>r=(n_3.1&&decide (0<n_3.2),n_3.2)) λn_4=>let v4:List AV:=[.bool n_4.1,.sl (canon n_4.2).length 1 (natG .u32 (canon n_4.2))];.R [.agg v4] [.box v2,.box v3,.box v4]) (.ex (q11 v1) λn_1=>.all (λ(r:Int)=>r=cmp3 n_1.1 n_1.2) λn_2=>.D ((0:Int)<=n_2) (.ex (q12 v1) λn_3=>.all (λ(d:Nat)=>d=n_3.1 - n_3.2) λn_4=>.ex (q27 [.bool m,.sl (canon n_4).length 1 (natG .u32 (canon n_4))]) λn_5=>.all (λ(r:Bool×Nat)=>r=(n_5.1&&decide (0<n_5.2),n_5.2)) λn_6=>let v5:List AV:=[.bool n_6.1,.sl (canon n_6.2).length 1 (natG .u32 (canon n_6.2))];.R [.agg v5] [.box v2,.box v3,.box v5]) (.ex (q12 [.sl (canon y).length 1 v7,.sl (canon x).length 1 v8]) λn_3=>.all (λ(d:Nat)=>d=n_3.1 - n_3.2) λn_4=>.ex (q27 [.bool n,.sl (canon n_4).length 1 (natG .u32 (canon n_4))]) λn_5=>.all (λ(r:Bool×Nat)=>r=(n_5.1&&decide (0<n_5.2),n_5.2)) λn_6=>let v6:List AV:=[.bool n_6.1,.sl (canon n_6.2).length 1 (natG .u32 (canon n_6.2))];.R [.agg v6] [.box v2,.box v3,.box v6]))) ?_;simp only [q11,q12,q26,q27,Tree.holds,zd];have eL:∀ a b:Nat,eqL [.sl (canon a).length 1 (natG .u32 (canon a)),.sl (canon b).length 1 (natG .u32 (canon b))] [.sl (canon a).length 1 (natG .u32 (canon a)),.sl (canon b).length 1 (natG .u32 (canon b))]:=λa b=>⟨⟨rfl,rfl,za _ _ _⟩,⟨rfl,rfl,za _ _ _⟩,trivial⟩
 have eK:∀ (b:Bool) (a:Nat),eqL [.bool b,.sl (canon a).length 1 (natG .u32 (canon a))] [.bool b,.sl (canon a).length 1 (natG .u32 (canon a))]:=λb a=>⟨rfl,⟨rfl,rfl,za _ _ _⟩,trivial⟩
 have hcm:∀ v,v=cmp3 x y->(0<=v↔y<=x):=by
  rintro v rfl;unfold cmp3;split
  ·exact⟨λh=>by omega,λh=>by omega⟩
  ·split
   ·exact⟨λh=>by omega,λh=>by omega⟩
   ·exact⟨λh=>by omega,λh=>by omega⟩
 refine⟨λh=> ?_,λh=>⟨(x,y),⟨eL x y,by show(canon x).length<_; omega,by show(canon y).length<_; omega⟩,⟨_,rfl⟩,?_⟩⟩
 ·have h:m=n:=by simpa using h
  refine⟨(x,y),⟨eL x y,h1,h2⟩,⟨_,rfl⟩,?_⟩;rintro _ rfl;refine⟨(m,x+y),⟨eK m _,trivial⟩,⟨_,rfl⟩,?_⟩;rintro _ rfl;have e:sumS m x n y=(m,x+y):=aP h;rw [e] at hq;exact RetR.numV rfl hq
 ·have h:¬ m=n:=by simpa using h
  intro v hv;have hv:=hcm v hv;refine⟨λg=> ?_,λg=> ?_⟩
  ·have g:y<=x:=hv.1 (aB g);refine⟨(x,y),⟨eL x y,by show(canon x).length<_; omega,g⟩,⟨_,rfl⟩,?_⟩;rintro _ rfl;refine⟨(m,x - y),⟨eK m _,trivial⟩,⟨_,rfl⟩,?_⟩;rintro _ rfl;have e:sumS m x n y=(m,x - y):=by rw [sumS,aO h,aP g]
   rw [e] at hq;exact RetR.numV rfl hq
  ·have g:¬ y<=x:=λh3=>aC g (hv.2 h3)
   refine⟨(y,x),⟨eL y x,by show(canon y).length<_; omega,by show x<=y; omega⟩,⟨_,rfl⟩,?_⟩;rintro _ rfl;refine⟨(n,y - x),⟨eK n _,trivial⟩,⟨_,rfl⟩,?_⟩;rintro _ rfl;have e:sumS m x n y=(n,y - x):=by rw [sumS,aO h,aO g]
   rw [e] at hq;exact RetR.numV rfl hq
theorem zP{x n:Nat}(h:x<B^n)(hn:n<100000):(canon x).length<100000:=by have:=zw h; omega
theorem q9{s:L8}(h:errI s=0):numI s<B^112:=jG.2 (ym h)
theorem Y2{x y:Nat}(hx:x<B^112)(hy:y<B^112):x+y<B^113/\x*y<B^224:=by
 constructor
 ·have:B^113=B^112*B:=Nat.pow_succ B 112;have hB:B=1000000000:=rfl;generalize B^112=p at *
  rw [this,hB]; omega
 ·have:B^224=B^112*B^112:=by rw [<- Nat.pow_add]
  rw [this];exact Nat.mul_lt_mul_of_lt_of_lt hx hy
noncomputable def GAd:=tb Wz (tb zfd (tb QA (tb V6 (tb yd tz))))
def addC:Ctr:=ctrP true (λp:L8×L8=>[.str p.1,.str p.2]) (λp=>p.1.length<2^62/\p.2.length<2^62) (λp r=>r=addI p.1 p.2) (λ_ r=>(.tup [.str r.1,.i r.2],[]))
def subC:Ctr:=ctrP true (λp:L8×L8=>[.str p.1,.str p.2]) (λp=>p.1.length<2^62/\p.2.length<2^62) (λp r=>r=subI p.1 p.2) (λ_ r=>(.tup [.str r.1,.i r.2],[]))
def mulC:Ctr:=ctrP true (λp:L8×L8=>[.str p.1,.str p.2]) (λp=>p.1.length<2^62/\p.2.length<2^62) (λp r=>r=mulI p.1 p.2) (λ_ r=>(.tup [.str r.1,.i r.2],[]))
def zi0:Ctr:=ctrP true (λp:L8×L8=>[.str p.1,.str p.2]) (λp=>p.1.length<2^62/\p.2.length<2^62) (λp r=>r=xU p.1 p.2) (λ_ r=>(.tup [.i r.1,.i r.2],[]))
abbrev q28(A:List AV)(x:(Bool×Nat)×Bool×Nat):Prop:=eqL A [.agg [.bool x.1.1,.sl (canon x.1.2).length 1 (natG .u32 (canon x.1.2))],.agg [.bool x.2.1,.sl (canon x.2.2).length 1 (natG .u32 (canon x.2.2))]]/\List.length (canon x.1.2)<100000/\List.length (canon x.2.2)<100000
theorem zjy:zc prog 82 addC:=by
 refine zg' f82 λp hp O w0 Q hq=> ?_
 obtain⟨s,t⟩:=p;obtain⟨hs,ht⟩:=hp;replace hq:=hq _ rfl;simp only at hs ht hq;refine zb.n GAd.h [] (.ex (q17 [.str s,.str t]) λn=>.all (λ(r:Int×(Bool×Nat)×Bool×Nat)=>r=if zr n.1 n.2=0 then((0:Int),(negI n.1,numI n.1),negI n.2,numI n.2) else(zr n.1 n.2,(false,0),false,0)) λn=>let v4:=canon n.2.2.2;let v3:=canon n.2.1.2;let v1:List Blk:=[.box [.bool n.2.1.1,.sl v3.length 1 (natG .u32 v3)],.box [.bool n.2.2.1,.sl v4.length 1 (natG .u32 v4)]];.N (n.1=0) (.R [.str #[].toList,.i n.1] v1) (.ex (q28 [.agg [.bool n.2.1.1,.sl v3.length 1 (natG .u32 v3)],.agg [.bool n.2.2.1,.sl v4.length 1 (natG .u32 v4)]]) λn_1=>let v2:=sumS n_1.1.1 n_1.1.2 n_1.2.1 n_1.2.2;.all (λ(r:Bool×Nat)=>r=(Prod.fst v2 &&decide (0<Prod.snd v2),Prod.snd v2)) λn_2=>.ex (q19 [.agg [.bool n_2.1,.sl (canon n_2.2).length 1 (natG .u32 (canon n_2.2))]]) λn_3=>.all (λ(r:L8×Int)=>r=wr n_3.1 n_3.2) λn_4=>.R [.str n_4.1,.i n_4.2] v1)) ?_;simp only [q17,q19,q28,Tree.holds,zd];refine⟨(s,t),⟨by simp,by omega,by omega⟩,⟨_,rfl⟩,?_⟩;rintro _ rfl;simp only;by_cases he:zr s t=0
 ·obtain⟨e1,e2⟩:=zl.1 he;obtain⟨b1,b2⟩:=Y2 (q9 e1) (q9 e2);have c1:=zP (q9 e1) (by decide);have c2:=zP (q9 e2) (by decide);simp only [aP he];refine⟨λh=>(by simp at h),λ_=> ?_⟩;refine⟨((negI s,numI s),(negI t,numI t)),⟨⟨⟨rfl,⟨rfl,rfl,za _ _ _⟩,trivial⟩,⟨rfl,⟨rfl,rfl,za _ _ _⟩,trivial⟩,trivial⟩,c1,c2⟩,⟨_,rfl⟩,?_⟩;rintro _ rfl;refine⟨((sumS (negI s) (numI s) (negI t) (numI t)).1&&decide (0<(sumS (negI s) (numI s) (negI t) (numI t)).2),(sumS (negI s) (numI s) (negI t) (numI t)).2),⟨⟨⟨rfl,⟨rfl,rfl,za _ _ _⟩,trivial⟩,trivial⟩,?_⟩,⟨_,rfl⟩,?_⟩
  ·have:=zP (Nat.lt_of_le_of_lt (YA (negI s) (numI s) (negI t) (numI t)) b1) (by decide);show(canon (sumS (negI s) (numI s) (negI t) (numI t)).2).length<1000000;omega
  rintro _ rfl;rw [YH];have e:addI s t=wr (sumS (negI s) (numI s) (negI t) (numI t)).1 (sumS (negI s) (numI s) (negI t) (numI t)).2:=aP he;rw [e] at hq;exact RetR.scal hq rfl (by simp [resV])
 ·simp only [aO he];refine⟨λ_=> ?_,λh=>(by simp [he] at h)⟩;have e:addI s t=([],zr s t):=aO he;rw [e] at hq;exact RetR.scal hq rfl (by simp [resV])
theorem zj9:zc prog 80 subC:=by
 refine zg' f80 λp hp O w0 Q hq=> ?_
 obtain⟨s,t⟩:=p;obtain⟨hs,ht⟩:=hp;replace hq:=hq _ rfl;simp only at hs ht hq;refine zb.n GAd.h [] (.ex (q17 [.str s,.str t]) λn=>.all (λ(r:Int×(Bool×Nat)×Bool×Nat)=>r=if zr n.1 n.2=0 then((0:Int),(negI n.1,numI n.1),negI n.2,numI n.2) else(zr n.1 n.2,(false,0),false,0)) λn=>let v5:=canon n.2.1.2;let v4:=canon n.2.2.2;let v3:List AV:=[.bool n.2.1.1,.sl v5.length 1 (natG .u32 v5)];let v1:=bif !Prod.fst n.2.2 then decide ((0:Int)<((canon n.2.2.2).length:Int)) else false;.N (n.1=0) (.R [.str #[].toList,.i n.1] [.box v3,.box [.bool n.2.2.1,.sl v4.length 1 (natG .u32 v4)]]) (.ex (q28 [.agg [.bool n.2.1.1,.sl v5.length 1 (natG .u32 v5)],.agg [.bool v1,.sl v4.length 1 (natG .u32 v4)]]) λn_1=>let v2:=sumS n_1.1.1 n_1.1.2 n_1.2.1 n_1.2.2;.all (λ(r:Bool×Nat)=>r=(Prod.fst v2 &&decide (0<Prod.snd v2),Prod.snd v2)) λn_2=>.ex (q19 [.agg [.bool n_2.1,.sl (canon n_2.2).length 1 (natG .u32 (canon n_2.2))]]) λn_3=>.all (λ(r:L8×Int)=>r=wr n_3.1 n_3.2) λn_4=>.R [.str n_4.1,.i n_4.2] [.box v3,.box [.bool v1,.sl v4.length 1 (natG .u32 v4)]])) ?_;simp only [q17,q19,q28,Tree.holds,zd];refine⟨(s,t),⟨by simp,by omega,by omega⟩,⟨_,rfl⟩,?_⟩;rintro _ rfl;simp only;by_cases he:zr s t=0
 ·obtain⟨e1,e2⟩:=zl.1 he;obtain⟨b1,b2⟩:=Y2 (q9 e1) (q9 e2);have c1:=zP (q9 e1) (by decide);have c2:=zP (q9 e2) (by decide);simp only [aP he];refine⟨λh=>(by simp at h),λ_=> ?_⟩;have eN:(bif !negI t then decide (0<((canon (numI t)).length:Int)) else false)=(!negI t&&decide (0<numI t)):=by rw [Z6]; cases negI t<;>rfl
  rw [eN];refine⟨((negI s,numI s),(!negI t&&decide (0<numI t),numI t)),⟨⟨⟨rfl,⟨rfl,rfl,za _ _ _⟩,trivial⟩,⟨rfl,⟨rfl,rfl,za _ _ _⟩,trivial⟩,trivial⟩,c1,c2⟩,⟨_,rfl⟩,?_⟩;rintro _ rfl;simp only [UQ];refine⟨((sumS (negI s) (numI s) (!negI t) (numI t)).1&&decide (0<(sumS (negI s) (numI s) (!negI t) (numI t)).2),(sumS (negI s) (numI s) (!negI t) (numI t)).2),⟨⟨⟨rfl,⟨rfl,rfl,za _ _ _⟩,trivial⟩,trivial⟩,?_⟩,⟨_,rfl⟩,?_⟩
  ·have:=zP (Nat.lt_of_le_of_lt (YA (negI s) (numI s) (!negI t) (numI t)) b1) (by decide);show(canon (sumS (negI s) (numI s) (!negI t) (numI t)).2).length<1000000;omega
  rintro _ rfl;rw [YH];have e:subI s t=wr (sumS (negI s) (numI s) (!negI t) (numI t)).1 (sumS (negI s) (numI s) (!negI t) (numI t)).2:=aP he;rw [e] at hq;exact RetR.scal hq rfl (by simp [resV])
 ·simp only [aO he];refine⟨λ_=> ?_,λh=>(by simp [he] at h)⟩;have e:subI s t=([],zr s t):=aO he;rw [e] at hq;exact RetR.scal hq rfl (by simp [resV])
theorem zjl:zc prog 79 mulC:=by
 refine zg' f79 λp hp O w0 Q hq=> ?_
 obtain⟨s,t⟩:=p;obtain⟨hs,ht⟩:=hp;replace hq:=hq _ rfl;simp only at hs ht hq;refine zb.n GAd.h [] (.ex (q17 [.str s,.str t]) λn=>.all (λ(r:Int×(Bool×Nat)×Bool×Nat)=>r=if zr n.1 n.2=0 then((0:Int),(negI n.1,numI n.1),negI n.2,numI n.2) else(zr n.1 n.2,(false,0),false,0)) λn=>let v5:=canon n.2.1.2;let v4:=canon n.2.2.2;let v3:List AV:=[.bool n.2.2.1,.sl v4.length 1 (natG .u32 v4)];let v2:List AV:=[.bool n.2.1.1,.sl v5.length 1 (natG .u32 v5)];.N (n.1=0) (.R [.str #[].toList,.i n.1] [.box v2,.box v3]) (.ex (q11 [.sl v5.length 1 (natG .u32 v5),.sl v4.length 1 (natG .u32 v4)]) λn_1=>let v1:=List.length (canon n_1.1)+List.length (canon n_1.2);.all (λ(p:Nat)=>p=n_1.1*n_1.2) λn_2=>.ex (q19 [.agg [.bool !Prod.fst n.2.1 == n.2.2.1,.sl (canon n_2).length 1 (zf (natG .u32 (padN v1 n_2)) 0)]]) λn_3=>.all (λ(r:L8×Int)=>r=wr n_3.1 n_3.2) λn_4=>.R [.str n_4.1,.i n_4.2] [.box v2,.box v3,.arr v1 1 (natG .u32 (padN v1 n_2))])) ?_;simp only [q11,q17,q19,Tree.holds,zd];refine⟨(s,t),⟨by simp,by omega,by omega⟩,⟨_,rfl⟩,?_⟩;rintro _ rfl;simp only;by_cases he:zr s t=0
 ·obtain⟨e1,e2⟩:=zl.1 he;obtain⟨b1,b2⟩:=Y2 (q9 e1) (q9 e2);have c1:=zP (q9 e1) (by decide);have c2:=zP (q9 e2) (by decide);simp only [aP he];refine⟨λh=>(by simp at h),λ_=> ?_⟩;refine⟨(numI s,numI t),⟨⟨⟨rfl,rfl,za _ _ _⟩,⟨rfl,rfl,za _ _ _⟩,trivial⟩,by show(canon (numI s)).length<1000000; omega,by show(canon (numI t)).length<1000000; omega⟩,⟨_,rfl⟩,?_⟩;rintro _ rfl;refine⟨(negI s != negI t,numI s*numI t),⟨⟨⟨rfl,⟨rfl,rfl,λj o hj ho=>by simp only [zf,natG,Nat.zero_add,padN,yn hj]⟩,trivial⟩,trivial⟩,?_⟩,⟨_,rfl⟩,?_⟩
  ·have:=zP b2 (by decide);show(canon (numI s*numI t)).length<1000000;omega
  rintro _ rfl;have e:mulI s t=wr (negI s != negI t) (numI s*numI t):=aP he;rw [e] at hq;exact RetR.scal hq rfl (by simp [resV])
 ·simp only [aO he];refine⟨λ_=> ?_,λh=>(by simp [he] at h)⟩;have e:mulI s t=([],zr s t):=aO he;rw [e] at hq;exact RetR.scal hq rfl (by simp [resV])
theorem zhl:zc prog 85 zi0:=by
 refine zg' f85 λp hp O w0 Q hq=> ?_
 obtain⟨s,t⟩:=p;obtain⟨hs,ht⟩:=hp;replace hq:=hq _ rfl;simp only at hs ht hq;refine zb.n GAd.h [] (.ex (q17 [.str s,.str t]) λn=>.all (λ(r:Int×(Bool×Nat)×Bool×Nat)=>r=if zr n.1 n.2=0 then((0:Int),(negI n.1,numI n.1),negI n.2,numI n.2) else(zr n.1 n.2,(false,0),false,0)) λn=>let v3:=canon n.2.2.2;let v2:=canon n.2.1.2;let v1:List Blk:=[.box [.bool n.2.1.1,.sl v2.length 1 (natG .u32 v2)],.box [.bool n.2.2.1,.sl v3.length 1 (natG .u32 v3)]];.N (n.1=0) (.R [.i 0,.i n.1] v1) (.ite (bif n.2.1.1 then !Prod.fst n.2.2 else false) (.R [.i (-1:Int),.i 0] v1) (.ite (bif n.2.2.1 then !Prod.fst n.2.1 else false) (.R [.i 1,.i 0] v1) (.ite n.2.1.1 (.ex (q11 [.sl v3.length 1 (natG .u32 v3),.sl v2.length 1 (natG .u32 v2)]) λn_1=>.all (λ(r:Int)=>r=cmp3 n_1.1 n_1.2) λn_2=>.R [.i n_2,.i 0] v1) (.ex (q11 [.sl v2.length 1 (natG .u32 v2),.sl v3.length 1 (natG .u32 v3)]) λn_1=>.all (λ(r:Int)=>r=cmp3 n_1.1 n_1.2) λn_2=>.R [.i n_2,.i 0] v1))))) ?_;simp only [q11,q17,Tree.holds,zd];refine⟨(s,t),⟨by simp,by omega,by omega⟩,⟨_,rfl⟩,?_⟩;rintro _ rfl;simp only;by_cases he:zr s t=0
 ·obtain⟨e1,e2⟩:=zl.1 he;obtain⟨b1,b2⟩:=Y2 (q9 e1) (q9 e2);have c1:=zP (q9 e1) (by decide);have c2:=zP (q9 e2) (by decide);simp only [aP he];refine⟨λh=>(by simp at h),λ_=> ?_⟩;have e:xU s t=(cmpZ (negI s) (numI s) (negI t) (numI t),0):=aP he;rw [e] at hq;have ec:∀ a b:Nat,cmp3 a b=cmpN a b:=λ_ _=>rfl
  simp only [cmpZ] at hq;have f1:fits (numI s):=by show(canon (numI s)).length<1000000; omega
  have f2:fits (numI t):=by show(canon (numI t)).length<1000000; omega
  refine⟨λh=> ?_,λh1=>⟨λh=> ?_,λh2=>⟨λh=>⟨(numI t,numI s),⟨⟨⟨rfl,rfl,za _ _ _⟩,⟨rfl,rfl,za _ _ _⟩,trivial⟩,f2,f1⟩,⟨_,rfl⟩,?_⟩,λh=>⟨(numI s,numI t),⟨⟨⟨rfl,rfl,za _ _ _⟩,⟨rfl,rfl,za _ _ _⟩,trivial⟩,f1,f2⟩,⟨_,rfl⟩,?_⟩⟩⟩⟩
  ·cases hm:negI s<;>cases hn:negI t<;>rw [hm,hn] at h hq<;>first | (cases h; done) | exact RetR.scal hq rfl (by simp [resV])
  ·cases hm:negI s<;>cases hn:negI t<;>rw [hm,hn] at h h1 hq<;>first | (cases h; done) | (cases h1; done) | exact RetR.scal hq rfl (by simp [resV])
  ·rintro _ rfl;rw [ec];cases hm:negI s<;>cases hn:negI t<;>rw [hm,hn] at h1 h2 hq<;>rw [hm] at h<;>first | (cases h; done) | (cases h1; done) | (cases h2; done) | exact RetR.scal hq rfl (by simp [resV])
  ·rintro _ rfl;rw [ec];cases hm:negI s<;>cases hn:negI t<;>rw [hm,hn] at h1 h2 hq<;>rw [hm] at h<;>first | (cases h; done) | (cases h1; done) | (cases h2; done) | exact RetR.scal hq rfl (by simp [resV])
 ·simp only [aO he];refine⟨λ_=> ?_,λh=>(by simp [he] at h)⟩;have e:xU s t=(0,zr s t):=aO he;rw [e] at hq;exact RetR.scal hq rfl (by simp [resV])
end Go.Proofs.Tryz
end
