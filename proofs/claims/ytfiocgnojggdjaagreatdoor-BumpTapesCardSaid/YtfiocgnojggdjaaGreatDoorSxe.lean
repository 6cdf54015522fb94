/- Part 5 of the proof. -/
import Derived.Test.YtfiocgnojggdjaaGreatDoorSxd
import Derived.Lib.Strings
import Derived.Lib.Slices
import Derived.Lib.Walk
import Derived.Lib.Bytealg
import Derived.Test.YtfiocgnojggdjaaGreatDoorProg
set_option linter.unusedVariables false
set_option linter.unusedSimpArgs false
set_option linter.unusedSectionVars false
section
set_option maxRecDepth 100000
open Go Go.Sx Go.Proofs Go.Nov
namespace Go.Proofs.Tryz
attribute [local simp] eqKV eqA eqA0 eqH eqB eqL eqL0
noncomputable def K135:=Go.Sx.aA f135
noncomputable def K154:=Go.Sx.aA f154
theorem xG{h:Heap}{i sz off n n':Nat}{g:Nat->Nat->AV}(hb:h[i]?=some (.arr n' sz g))(hn:off+n<=n'):exp0 h [] (.osl i sz off n) = .sl n sz (zf g off):=by
 simp [exp0,zz,frz1,jW,hb,hn]
theorem Ja{h:Heap}{i sz off n n':Nat}{g:Nat->Nat->AV}(hb:h[i]?=some (.arr n' sz g))(hn:off+n<=n')(hs:∀ j o,j<n->o<sz->qc (zf g off j o)=true):new0 h [] (.osl i sz off n):=by
 simp only [new0];intro _;rw [xG hb hn];exact hs
theorem Yz(k:IntKind)(l:List Nat)(off j o:Nat):qc (zf (natG k l) off j o)=true:=by
 simp [zf,natG,qc]
theorem zaa(g:Nat->Nat->AV):zf g 0=g:=by
 funext j o; simp [zf]
theorem RetR.nats{ctr:Ctr}{Q:AV×Heap->Prop}{h:Heap}{i:Nat}{k:IntKind}{l:List Nat}(hq:Q (natS k l,[]))(hb:h[i]?=some (.arr l.length 1 (natG k l))):RetR ctr 0 Q [.osl i 1 0 l.length] h:=by
 refine RetR.out0 hq (λ_=> ?_) ?_
 ·exact Ja hb (by omega) λj o _ _=>Yz _ _ _ _ _
 ·have e:exp2 h [] (resV [.osl i 1 0 l.length])=exp0 h [] (.osl i 1 0 l.length):=rfl;rw [e,xG hb (by omega),zaa];simp [eqA2,natS,za]
abbrev nat6(l:List Nat):AV:=natS .i64 l
def atC:Ctr:=ctrP true (λp:List Nat×Nat=>[nat6 p.1,.i (p.2:Int)]) (λp=>True) (λp r=>r=p.1.getD p.2 0) (λ_ (r:Nat)=>(.i (r:Int),[]))
theorem zmr:zc prog 158 atC:=by
 refine ze' f158 λp hp O w0 Q hq=> ?_
 obtain⟨l,i⟩:=p;replace hq:=hq _ rfl;simp only at hq;refine zb.n zq [] (.D ((i:Int)<l.length) (.side ((0:Int)<=i/\(i:Int)<l.length) (.R [.int .i64 ↑(l.getD (i:Int).toNat 0)] [])) (.R [.i 0] [])) ?_;simp only [Tree.holds,zd,inR,lo,hi,aD];refine⟨λh=> ?_,λh=> ?_⟩
 ·have h:i<l.length:=by have:=aB h; omega
  exact⟨by omega,λ_=>RetR.scal hq rfl (by simp [resV])⟩
 ·have h:l.length<=i:=by have:=aC h; omega
  rw [wO h] at hq;exact RetR.scal hq rfl (by simp [resV])
def uB:Ctr:=ctrP true (λp:List Nat×List Nat=>[nat6 p.1,nat6 p.2]) (λp=>Ten.dig p.1/\Ten.dig p.2/\p.1.length<2^62/\p.2.length<2^62) (λp r=>r=cmpN (Ten.val p.1) (Ten.val p.2)) (λ_ (r:Int)=>(.i r,[]))
def SGr(l m:List Nat)(i:Nat):KV:=[(0,nat6 l),(1,nat6 m),(5,.i ((i:Int) - 1))]
noncomputable def GR:=tb zmr tz
abbrev q20(A:List AV)(x:List Nat×Nat):Prop:=eqL A [.sl x.1.length 1 (natG .i64 x.1),.i x.2]/\True
theorem yH:zc prog 135 uB:=by
 refine ze' f135 λp hp O w0 Q hq=> ?_
 obtain⟨l,m⟩:=p;obtain⟨hl,hm,hll,hml⟩:=hp;replace hq:=hq _ rfl;simp only at hq hl hm hll hml;refine zb.n GR.h [0,1,5] (let v1:=max (l.length:Int) (m.length:Int) - (1:Int);.S v1 (.leaf (.loop (lps K135 0).1 (lps K135 0).2 [(0,.sl l.length 1 (natG .i64 l)),(1,.sl m.length 1 (natG .i64 m)),(5,.i v1)] []))) ?_;simp only [Tree.holds,zd,inR,lo,hi,aD];refine⟨by omega,λ_=> ?_⟩;refine zb.loop (ι:={i:Nat // i<=max l.length m.length/\∀ j,i<=j->l.getD j 0=m.getD j 0}) (λi=>SGr l m i.1) (λ_=>[]) (λi=>i.1) ⟨max l.length m.length,aJ _,λj hj=>by rw [wO (by omega),wO (by omega)]⟩ 0 ?_ ?_ (by kernel_rfl)
 ·exact⟨by simp [SGr,natS,za]; omega,by simp,by kernel_rfl,aI _⟩
 ·rintro⟨i,hil,hie⟩;refine zb.n GR.h [0,1,5] (let v2:=q20 [.sl m.length 1 (natG .i64 m),.i (i-1)];let v1:=q20 [.sl l.length 1 (natG .i64 l),.i (i-1)];.D ((0:Int)<=i - (1:Int)) (.ex v1 λn=>.all (λ(r:Nat)=>r=List.getD n.1 n.2 0) λn=>.ex v2 λn_1=>.all (λ(r:Nat)=>r=List.getD n_1.1 n_1.2 0) λn_2=>.N ((n:Int)=n_2) (.ex v1 λn=>.all (λ(r:Nat)=>r=List.getD n.1 n.2 0) λn=>.ex v2 λn_3=>.all (λ(r:Nat)=>r=List.getD n_3.1 n_3.2 0) λn_4=>.D ((n_4:Int)<n) (.R [.i 1] []) (.R [.i (-1:Int)] [])) (.S (i-1-1) (.leaf (.back 0 [(0,.sl l.length 1 (natG .i64 l)),(1,.sl m.length 1 (natG .i64 m)),(5,.i (i-1-1))] [])))) (.R [.i 0] [])) ?_;simp only [q20,Tree.holds,zd,inR,lo,hi,aD];refine⟨λhlt=> ?_,λhge=> ?_⟩
  ·have hlt:0<i:=by have:=aB hlt; omega
   have e:(i:Int) - 1=((i - 1:Nat):Int):=by omega
   refine⟨(l,i - 1),⟨by simp [za,e],trivial⟩,⟨_,rfl⟩,?_⟩;rintro _ rfl;refine⟨(m,i - 1),⟨by simp [za,e],trivial⟩,⟨_,rfl⟩,?_⟩;rintro _ rfl;simp only;refine⟨λhne=> ?_,λheq=>⟨by omega,λ_=> ?_⟩⟩
   ·have hne:l.getD (i - 1) 0≠m.getD (i - 1) 0:=by
     intro h; rw [h] at hne; simp at hne
    have hab:∀ j,i - 1<j->l.getD j 0=m.getD j 0:=λj hj=>hie j (by omega)
    refine⟨(l,i - 1),⟨by simp [za,e],trivial⟩,⟨_,rfl⟩,?_⟩;rintro _ rfl;refine⟨(m,i - 1),⟨by simp [za,e],trivial⟩,⟨_,rfl⟩,?_⟩;rintro _ rfl;simp only;refine⟨λh=> ?_,λh=> ?_⟩
    ·have h:m.getD (i - 1) 0<l.getD (i - 1) 0:=by have:=aB h; omega
     have hv:=W9 hm (λj hj=>(hab j hj).symm) h;have:cmpN (Ten.val l) (Ten.val m)=1:=by simp only [cmpN]; rw [aO (by omega),aP hv]
     rw [this] at hq;exact RetR.scal hq rfl (by simp [resV])
    ·have h:l.getD (i - 1) 0<m.getD (i - 1) 0:=by have:=aC h; omega
     have hv:=W9 hl hab h;have:cmpN (Ten.val l) (Ten.val m) = -1:=by simp only [cmpN]; rw [aP hv]
     rw [this] at hq;exact RetR.scal hq rfl (by simp [resV])
   ·have heq:l.getD (i - 1) 0=m.getD (i - 1) 0:=by
     refine bM λh=> ?_
     have:¬ ((l.getD (i - 1) 0:Nat):Int)=((m.getD (i - 1) 0:Nat):Int):=by omega
     rw [aW this] at heq; cases heq
    rw [aP trivial];refine⟨⟨i - 1,by omega,λj hj=> ?_⟩,by show i - 1<i; omega,by simp [SGr,natS,za]; omega,by simp,by kernel_rfl,aI _⟩;rcases aR j i with h | h
    ·have:j=i - 1:=by omega
     rw [this]; exact heq
    ·exact hie j h
  ·have hge:i=0:=by have:=aC hge; omega
   subst hge;have hv:=QB hl hm λj=>hie j (aI _)
   have:cmpN (Ten.val l) (Ten.val m)=0:=by simp only [cmpN]; rw [aO (by omega),aO (by omega)]
   rw [this] at hq;exact RetR.scal hq rfl (by simp [resV])
def zoc(p:List Nat×List Nat)(r:List Nat):Prop:=r.length=p.1.length/\Ten.dig r/\Ten.val r+Ten.val p.2=Ten.val p.1
def KD:Ctr:=ctrP true (λp:List Nat×List Nat=>[nat6 p.1,nat6 p.2]) (λp=>Ten.dig p.1/\Ten.dig p.2/\p.1.length<2^40/\Ten.val p.2<=Ten.val p.1) zoc (λ_ r=>(nat6 r,[]))
def SMi(l m o:List Nat)(b i:Nat):KV:=[(0,nat6 l),(1,nat6 m),(5,.osl 0 1 0 o.length),(6,.i (b:Int)),(7,.i (i:Int))]
theorem Vf:zc prog 154 KD:=by
 refine ze' f154 λp hp O w0 Q hq=> ?_
 obtain⟨l,m⟩:=p;obtain⟨hl,hm,hll,hml⟩:=hp;simp only at hq hl hm hll hml;refine zb.n GR.h [0,1,5,6,7] (.leaf (.loop (lps K154 0).1 (lps K154 0).2 [(0,.sl l.length 1 (natG .i64 l)),(1,.sl m.length 1 (natG .i64 m)),(5,.nils),(6,.i 0),(7,.i 0)] [])) ?_;simp only [Tree.holds,zd,inR,lo,hi,aD];refine zb.bear 5 1 (natG .i64 []) rfl (by decide) (by kernel_rfl) ?_;refine zb.loop (ι:={z:List Nat×Nat×Nat // z.1.length=z.2.2/\z.2.2<=l.length/\Ten.dig z.1/\z.2.1<=1/\Ten.val z.1+Ten.val (m.take z.2.2)=Ten.val (l.take z.2.2)+10^z.2.2*z.2.1}) (λz=>SMi l m z.1.1 z.1.2.1 z.1.2.2) (λz=>[.arr z.1.1.length 1 (natG .i64 z.1.1)]) (λz=>l.length - z.1.2.2) ⟨([],0,0),rfl,aI _,by simp [Ten.dig],aI _,by simp [Ten.val]⟩ 0 ?_ ?_ (by kernel_rfl)
 ·refine⟨by simp [SMi,natS,za,yc],by simp [za],by kernel_rfl,aI _⟩
 ·rintro⟨⟨o,b,i⟩,hol,hil,hod,hb,hv⟩;refine zb.n GR.h [0,1,5,6,7] (let v4:=inR .i64 (i+1);let v3:=o.length+1;.D ((i:Int)<l.length) (.side ((0:Int)<=i/\(i:Int)<l.length) (.ex (q20 [.sl m.length 1 (natG .i64 m),.i i]) λn=>.all (λ(r:Nat)=>r=List.getD n.1 n.2 0) λn=>let v2:=zg 1 [.i ((↑(l.getD (i:Int).toNat 0):Int) - n - (b:Int))];let v1:=zg 1 [.i ((↑(l.getD (i:Int).toNat 0):Int) - n - (b:Int)+(10:Int))];.S ((↑(l.getD (i:Int).toNat 0):Int) - n) (.S ((↑(l.getD (i:Int).toNat 0):Int) - n - (b:Int)) (.D ((↑(l.getD (i:Int).toNat 0):Int) - n - (b:Int)<0) (.S ((↑(l.getD (i:Int).toNat 0):Int) - n - (b:Int)+(10:Int)) (.side (0=0/\o.length<=o.length/\v3 *8<=140737488355328) (.side v4 (.leaf (.back 0 [(0,.sl l.length 1 (natG .i64 l)),(1,.sl m.length 1 (natG .i64 m)),(5,.osl 0 1 0 v3),(6,.i 1),(7,.i (i+1))] [.arr v3 1 (appG o.length (natG .i64 o) (zf v1 0)),.arr 1 1 v1]))))) (.side (0=0/\o.length<=o.length/\v3 *8<=140737488355328) (.side v4 (.leaf (.back 0 [(0,.sl l.length 1 (natG .i64 l)),(1,.sl m.length 1 (natG .i64 m)),(5,.osl 0 1 0 v3),(6,.i 0),(7,.i (i+1))] [.arr v3 1 (appG o.length (natG .i64 o) (zf v2 0)),.arr 1 1 v2])))))))) (.R [.osl 0 1 0 o.length] [.arr o.length 1 (natG .i64 o)])) ?_;simp only [q20,Tree.holds,zd,inR,lo,hi,aD];simp only at hol hil hod hb hv;refine⟨λhlt=> ?_,λhge=> ?_⟩
  ·have hlt:i<l.length:=by have:=aB hlt; omega
   refine⟨by omega,λ_=> ?_⟩;refine⟨(m,i),⟨by simp [za],trivial⟩,⟨_,rfl⟩,?_⟩;rintro _ rfl;simp only;have h1:l.getD i 0<10:=Ten.zC hl i;have h2:m.getD i 0<10:=Ten.zC hm i
   have step:∀ d b',d+m.getD i 0+b=l.getD i 0+10*b'->Ten.val (o++[d])+Ten.val (m.take (i+1))=Ten.val (l.take (i+1))+10^(i+1)*b':=by
    intro d b' h;rw [Ten.zB,Ten.zk,Ten.zk,hol,Nat.pow_succ];have:=YI hv h;simpa [Ten.val] using this
   obtain⟨x,hx⟩:∃ x,l.getD i 0=x:=⟨_,rfl⟩;obtain⟨y,hy⟩:∃ y,m.getD i 0=y:=⟨_,rfl⟩;simp only [hx,hy] at h1 h2 step ⊢
   iterate 2 refine⟨by clear step; omega,λ_=> ?_⟩
   have ei:((i:Int)+1)=((i+1:Nat):Int):=by omega
   refine⟨λhneg=> ?_,λhpos=> ?_⟩
   ·have hneg:x<y+b:=by have:=aB hneg; clear step; omega
    refine⟨by clear step; omega,λ_=> ?_⟩;refine⟨⟨trivial,aJ _,by clear step; omega⟩,λ_=>⟨by clear step; omega,λ_=> ?_⟩⟩;rw [aP trivial];obtain⟨d,hd⟩:∃ d,d+y+b=x+10:=⟨x+10 - y - b,by clear step; omega⟩;have hd2:(x:Int) - y - b+10=(d:Nat):=by clear step; omega
    refine⟨⟨(o++[d],1,i+1),by simp [hol],hlt,Ten.qj.2 ⟨hod,by simp only [Ten.dig,List.mem_singleton]; rintro _ rfl; show _<10; clear step; omega⟩,aJ _,step d 1 (by clear step; omega)⟩,by show l.length - (i+1)<l.length - i; omega,?_,qO hd2,by kernel_rfl,aI _⟩;simp [SMi,natS,za]
   ·have hpos:y+b<=x:=by have:=aC hpos; clear step; omega
    refine⟨⟨trivial,aJ _,by clear step; omega⟩,λ_=>⟨by clear step; omega,λ_=> ?_⟩⟩;rw [aP trivial];obtain⟨d,hd⟩:∃ d,d+y+b=x:=⟨x - y - b,by clear step; omega⟩;have hd2:(x:Int) - y - b=(d:Nat):=by clear step; omega
    refine⟨⟨(o++[d],0,i+1),by simp [hol],hlt,Ten.qj.2 ⟨hod,by simp only [Ten.dig,List.mem_singleton]; rintro _ rfl; show _<10; clear step; omega⟩,aI _,step d 0 (by clear step; omega)⟩,by show l.length - (i+1)<l.length - i; omega,?_,qO hd2,by kernel_rfl,aI _⟩;simp [SMi,natS,za]
  ·have hge:i=l.length:=by have:=aC hge; omega
   subst hge;exact RetR.nats (hq o ⟨hol,hod,zeb hl hod hol hml hv⟩) rfl
noncomputable def K163:=Go.Sx.aA f163
noncomputable def K134:=Go.Sx.aA f134
def zge:Ctr:=ctrP true (λl:List Nat=>[nat6 l]) (λl=>Ten.dig l/\l.length<2^62) (λl r=>r=decide (Ten.val l=0)) (λ_ (r:Bool)=>(.bool r,[]))
noncomputable def GR1:=tb yH tz
abbrev q21(A:List AV)(x:List Nat×List Nat):Prop:=eqL A [.sl x.1.length 1 (natG .i64 x.1),.sl x.2.length 1 (natG .i64 x.2)]/\Ten.dig x.1/\Ten.dig x.2/\x.1.length<4611686018427387904/\x.2.length<4611686018427387904
theorem zah:zc prog 161 zge:=by
 refine ze' f161 λl hp O w0 Q hq=> ?_
 obtain⟨hl,hll⟩:=hp;replace hq:=hq _ rfl;refine zb.n GR1.h [] (.ex (q21 [.sl l.length 1 (natG .i64 l),AV.nils]) λn=>.all (λ(r:Int)=>r=cmpN (Ten.val n.1) (Ten.val n.2)) λn=>.R [.bool (decide (n=0))] []) ?_;simp only [q21,Tree.holds,zd];refine⟨(l,[]),⟨by simp [za],hl,by simp [Ten.dig],hll,by simp⟩,⟨_,rfl⟩,?_⟩;rintro _ rfl
 have:decide (cmpN (Ten.val l) (Ten.val [])=0)=decide (Ten.val l=0):=by
  have e:Ten.val []=0:=rfl;rw [e];by_cases h:Ten.val l=0
  ·rw [h]; rfl
  ·have:cmpN (Ten.val l) 0=1:=by unfold cmpN; rw [aO (by omega),aP (by omega)]
   rw [this,aW h]; rfl
 rw [<- this] at hq;exact RetR.scal hq rfl (by simp [resV])
def Zv:Ctr:=ctrP true (λp:List Nat×Bool=>[nat6 p.1,.bool p.2]) (λp=>Ten.dig p.1/\p.1.length<2^40) (λp r=>r=qM p.2 (Ten.val p.1)) (λ_ r=>(.str r,[]))
def STx(l:List Nat)(neg:Bool)(n:Nat):KV:=[(0,nat6 l),(1,.bool neg),(5,.i (n:Int)),Z 6,Z 7,Z 13,Z 14,Z 15,Z 16,Z 17,Z 18]
def STy(l:List Nat)(neg:Bool)(n i:Nat)(b:List Nat):KV:=[(0,nat6 l),(1,.bool neg),(5,.i (n:Int)),(6,.osl 1 1 0 b.length),(7,.i ((i:Int) - 1)),Z 13,Z 14,Z 15,Z 16,Z 17,Z 18]
theorem Wy{O:Nat->Prop}{w0:World}{Q:AV×Heap->Prop}{Hs:Nat->KV->Heap->Prop}(l:List Nat)(neg:Bool)(n:Nat)(hl:Ten.dig l)(hll:l.length<2^40)(hn:n<=l.length)(ht:n=Ten.tlen l)(h0:0<n)(hq:Q (.str (qM neg (Ten.val l)),[]))(kv:KV)(h:Heap)
  (hle:LeK 0 f163.ntmps kv h (STy l neg n n (tbL l neg n n)) [.dead,.arr (tbL l neg n n).length 1 (natG .u8 (tbL l neg n n))]) :
  zb prog f163 O 0 w0 [] Hs (RetR Zv 0 Q) (.code (.loop (lps (inside K163 0) 0).1)::(lps (inside K163 0) 0).2) (mk f163.ntmps kv h):=by
 refine zb.loop (ι:={i:Nat // i<=n}) (λi=>STy l neg n i.1 (tbL l neg n i.1)) (λi=>[.dead,.arr (tbL l neg n i.1).length 1 (natG .u8 (tbL l neg n i.1))]) (λi=>i.1) ⟨n,aJ _⟩ 0 hle ?_ (by kernel_rfl);rintro⟨i,hin⟩;obtain⟨b,hb⟩:∃ b,tbL l neg n i=b:=⟨_,rfl⟩;have hbl:=zlj l neg n i;simp only [hb] at hbl ⊢;refine zb.n zq [0,1,5,6,7,13,14,15,16,17,18] (let v1:=Int.toNat (i-1);let v2:=zg 1 [.int .u8 ((48:Int)+(↑(l.getD v1 0):Int))];.D ((0:Int)<=i - (1:Int)) (.side ((0:Int)<=i - (1:Int)/\(i:Int) - (1:Int)<l.length) (.S ((48:Int)+(↑(l.getD v1 0):Int)) (.side (inR .u8 ((48:Int)+(↑(l.getD v1 0):Int))) (.side (0=0/\b.length<=b.length/\(b.length+1)*1<=140737488355328) (.S (i-1-1) (.leaf (.back 0 [(0,.sl l.length 1 (natG .i64 l)),(1,.bool neg),(5,.i n),(6,.osl 1 1 0 (b.length+1)),(7,.i (i-1-1)),Z 13,Z 14,Z 15,Z 16,Z 17,Z 18] [.dead,.arr (b.length+1) 1 (appG b.length (natG .u8 b) (zf v2 0)),.arr 1 1 v2]))))))) (.side (∀ (j:Nat),j<b.length->∃ (b_1:UInt8),AV.int .u8 ↑(b.getD (0+j) 0)=AV.int .u8 ↑(UInt8.toNat b_1)) (.R [.str (xi b.length (zf (natG .u8 b) 0))] [.dead,.arr b.length 1 (natG .u8 b)]))) ?_;simp only [Tree.holds,zd,inR,lo,hi,aD];refine⟨λhge=> ?_,λhlt=> ?_⟩
 ·have hi0:0<i:=by have:=aB hge; omega
  have e:((i:Int) - 1).toNat=i - 1:=by omega
  have hd:l.getD (i - 1) 0<10:=Ten.zC hl (i - 1);have hst:=zfe (l:=l) (neg:=neg) hi0 hin hn;rw [hb] at hst;rw [e];obtain⟨x,hx⟩:∃ x,l.getD (i - 1) 0=x:=⟨_,rfl⟩;simp only [hx] at hd hst ⊢
  iterate 3 refine⟨by omega,λ_=> ?_⟩
  refine⟨⟨trivial,aJ _,by omega⟩,λ_=>⟨by omega,λ_=> ?_⟩⟩;rw [aP trivial];refine⟨⟨i - 1,by omega⟩,by show i - 1<i; omega,?_,?_,by kernel_rfl,aI _⟩
  ·simp only [<- hst];simp [STy,natS,za]; omega
  ·simp only [<- hst];exact⟨trivial,qO (d:=48+x) (by omega)⟩
 ·have hi0:i=0:=by have:=aC hlt; omega
  subst hi0;refine⟨λj hj=>⟨UInt8.ofNat (b.getD (0+j) 0),?_⟩,λ_=> ?_⟩
  ·have:=zpb hl neg n 0 (0+j);rw [hb] at this;have e2:(UInt8.ofNat (b.getD (0+j) 0)).toNat=b.getD (0+j) 0:=by rw [UInt8.toNat_ofNat']; exact Nat.mod_eq_of_lt this
   rw [e2]
  ·rw [yW _ _ _ (aJ _),bD,<- hb,Um hl ht h0];exact RetR.scal hq rfl (by simp [resV])
theorem uq:zc prog 163 Zv:=by
 refine ze' f163 λp hp O w0 Q hq=> ?_
 obtain⟨l,neg⟩:=p;obtain⟨hl,hll⟩:=hp;replace hq:=hq _ rfl;simp only at hq hl hll;refine zb.n zq [0,1,5,6,7,13,14,15,16,17,18] (.leaf (.loop (lps K163 0).1 (lps K163 0).2 [(0,.sl l.length 1 (natG .i64 l)),(1,.bool neg),(5,.i l.length),Z 6,Z 7,Z 13,Z 14,Z 15,Z 16,Z 17,Z 18] [])) ?_;simp only [Tree.holds,zd];refine zb.loop (ι:={n:Nat // n<=l.length/\Ten.tlen l<=n}) (λn=>STx l neg n.1) (λ_=>[]) (λn=>n.1) ⟨l.length,aJ _,Ten.qe l⟩ 0 ?_ ?_ (by kernel_rfl)
 ·exact⟨by simp [STx,natS,za],by simp,by kernel_rfl,aI _⟩
 ·rintro⟨n,hn,ht⟩;refine zb.n zq [0,1,5,6,7,13,14,15,16,17,18] (let v2:=lps (inside K163 0) 0;let v1:=inR .i64 (n-1);.side (decide ((0:Int)<n)=true->inR .i64 (n-1)) (.side (decide ((0:Int)<n)=true->(0:Int)<=n - (1:Int)/\(n:Int) - (1:Int)<l.length) (.ite (bif decide ((0:Int)<n) then decide ((↑(l.getD (Int.toNat (n-1)) 0):Int)=0) else false) (.side v1 (.leaf (.back 0 [(0,.sl l.length 1 (natG .i64 l)),(1,.bool neg),(5,.i (n-1)),Z 6,Z 7,Z 13,Z 14,Z 15,Z 16,Z 17,Z 18] []))) (.D ((n:Int)=0) (.R [.str #[(48:UInt8)].toList] []) (.ite neg (.side (1<=140737488355328) (.side v1 (.leaf (.loop v2.1 v2.2 [(0,.sl l.length 1 (natG .i64 l)),(1,.bool neg),(5,.i n),(6,.osl 1 1 0 1),(7,.i (n-1)),Z 13,Z 14,Z 15,Z 16,Z 17,Z 18] [.arr 1 1 (zg 1 [.int .u8 45]),.arr 1 1 (zf (zg 1 [.int .u8 45]) 0)])))) (.side v1 (.leaf (.loop v2.1 v2.2 [(0,.sl l.length 1 (natG .i64 l)),(1,.bool neg),(5,.i n),(6,.nils),(7,.i (n-1)),Z 13,Z 14,Z 15,Z 16,Z 17,Z 18] [])))))))) ?_;simp only [Tree.holds,zd,inR,lo,hi,aD];refine⟨by omega,λ_=>⟨λh=>by have:=aB h; omega,λ_=>⟨λhz=> ?_,λhz=> ?_⟩⟩⟩
  ·have hn0:0<n:=by
    rcases bC n with h | h
    ·subst h; simp at hz
    ·exact h
   have e:((n:Int) - 1).toNat=n - 1:=by omega
   have hz:l.getD (n - 1) 0=0:=by
    rw [aX (by omega),e] at hz;have:=aB hz;omega
   refine⟨by omega,λ_=> ?_⟩;rw [aP trivial];refine⟨⟨n - 1,by omega,?_⟩,by show n - 1<n; omega,by simp [STx,natS,za]; omega,by simp,by kernel_rfl,aI _⟩;refine Nat.le_of_not_lt λhlt=> ?_
   have hnt:n=Ten.tlen l:=by omega
   subst hnt;exact Ten.qt l hn0 hz
  ·have e:((n:Int) - 1).toNat=n - 1:=by omega
   have hnt:n=Ten.tlen l:=by
    rcases bC n with h | h
    ·omega
    ·refine Nat.le_antisymm (Nat.le_of_not_lt λhlt=> ?_) ht;have:=Ten.jd l (n - 1) (by omega);rw [aX (by omega),e,this] at hz;simp at hz
   refine⟨λh0=> ?_,λh0=> ?_⟩
   ·have h0:n=0:=by have:=aB h0; omega
    rw [zen (by omega)] at hq;exact RetR.scal hq rfl (by simp [resV])
   ·have h0:0<n:=by have:=aC h0; omega
    refine⟨λhneg=>⟨by omega,λ_=>⟨by omega,λ_=> ?_⟩⟩,λhneg=>⟨by omega,λ_=> ?_⟩⟩
    ·subst hneg;refine Wy l true n hl hll hn hnt h0 hq _ _ ⟨?_,?_,by kernel_rfl,aI _⟩
     ·simp [STy,natS,za,Qy]
     ·simp only [Qy,if_true,List.length_singleton];refine⟨trivial,⟨rfl,rfl,?_⟩,trivial⟩;intro j o hj ho;simpa [zf] using xd .u8 45 j o hj ho
    ·subst hneg;refine zb.void (by kernel_rfl) ?_;refine zb.bear 6 1 (natG .u8 []) rfl (by decide) (by kernel_rfl) ?_;refine Wy l false n hl hll hn hnt h0 hq _ _ ⟨?_,?_,by kernel_rfl,aI _⟩
     ·simp [STy,natS,za,Qy,yc]
     ·simp [Qy,za]
def ky:Ctr:=ctrP true (λs:L8=>[.str s]) (λs=>s.length<2^40) (λs r=>r=digR s) (λ_ r=>(.tup [nat6 r.1,.bool r.2.1,.bool r.2.2],[]))
def SDi(b:L8)(neg:Bool)(i:Nat)(o:List Nat):KV:=[(5,.str b),(6,.bool neg),(7,.osl 0 1 0 o.length),(8,.i ((i:Int) - 1)),Z 49,Z 50,Z 51,Z 52]
theorem ZR{O:Nat->Prop}{w0:World}{Q:AV×Heap->Prop}{Hs:Nat->KV->Heap->Prop}(b:L8)(neg:Bool)(hbl:b.length<2^40)(hb0:b≠[])(hf:b.all isD=true->qq neg b=true)
  (hq:Q (.tup [nat6 (if qq neg b then(dg b,neg,true) else([],false,false)).1,.bool (if qq neg b then(dg b,neg,true) else([],false,false)).2.1,.bool (if qq neg b then(dg b,neg,true) else([],false,false)).2.2],[])) :
  zb prog f134 O 0 w0 [] Hs (RetR ky 0 Q) (.code (.loop (lps K134 0).1)::(lps K134 0).2) (mk f134.ntmps [(5,.str b),(6,.bool neg),(7,.nils),(8,.i ((b.length:Int) - 1)),Z 49,Z 50,Z 51,Z 52] []):=by
 refine zb.bear 7 1 (natG .i64 []) rfl (by decide) (by kernel_rfl) ?_;refine zb.loop (ι:={i:Nat // i<=b.length/\∀ j,i<=j->j<b.length->isD (b.getD j 0)=true}) (λi=>SDi b neg i.1 (dg (b.drop i.1))) (λi=>[.arr (dg (b.drop i.1)).length 1 (natG .i64 (dg (b.drop i.1)))]) (λi=>i.1) ⟨b.length,aJ _,λj h1 h2=>by omega⟩ 0 ?_ ?_ (by kernel_rfl)
 ·exact⟨by simp [SDi,yc,dg],by simp [dg,za],by kernel_rfl,aI _⟩
 ·rintro⟨i,hil,hid⟩;have hdl:(dg (b.drop i)).length=b.length - i:=by rw [xv,List.length_drop]
  obtain⟨o,ho⟩:∃ o,dg (b.drop i)=o:=⟨_,rfl⟩;simp only [ho] at hdl ⊢;refine zb.n zq [5,6,7,8,49,50,51,52] (let v1:=b.getD (Int.toNat (i-1)) (0:UInt8);let v2:=zg 1 [.i ((↑(UInt8.toNat v1):Int) - (48:Int))];.D ((0:Int)<=i - (1:Int)) (.side ((0:Int)<=i - (1:Int)/\(i:Int) - (1:Int)<b.length) (.side (decide ((↑(UInt8.toNat v1):Int)<48)=false->(0:Int)<=i - (1:Int)/\(i:Int) - (1:Int)<b.length) (.ite (bif decide ((↑(UInt8.toNat v1):Int)<48) then true else decide ((57:Int)<(↑(UInt8.toNat v1):Int))) (.R [.nils,.bool false,.bool false] [.arr o.length 1 (natG .i64 o)]) (.side ((0:Int)<=i - (1:Int)/\(i:Int) - (1:Int)<b.length) (.side (inR .u8 ((↑(UInt8.toNat v1):Int) - (48:Int))) (.S ((↑(UInt8.toNat v1):Int) - (48:Int)) (.side (0=0/\o.length<=o.length/\(o.length+1)*8<=140737488355328) (.S (i-1-1) (.leaf (.back 0 [(5,.str b),(6,.bool neg),(7,.osl 0 1 0 (o.length+1)),(8,.i (i-1-1)),Z 49,Z 50,Z 51,Z 52] [.arr (o.length+1) 1 (appG o.length (natG .i64 o) (zf v2 0)),.arr 1 1 v2])))))))))) (.R [.osl 0 1 0 o.length,.bool neg,.bool true] [.arr o.length 1 (natG .i64 o)])) ?_;simp only [Tree.holds,zd,inR,lo,hi,aD,Bool.cond_eq_ite];refine⟨λhge=> ?_,λhlt=> ?_⟩
  ·have hi0:0<i:=by have:=aB hge; omega
   have e:((i:Int) - 1).toNat=i - 1:=by omega
   have hst:=zmf hi0 hil;rw [ho] at hst;simp only [e];refine⟨by omega,λ_=>⟨λ_=>by omega,λ_=>⟨λhbad=> ?_,λhgood=>⟨by omega,λ_=> ?_⟩⟩⟩⟩
   ·rw [xX] at hbad
    have hnf:qq neg b=false:=by
     have:b.all isD=false:=by
      rw [List.all_eq_false];have hib:i - 1<b.length:=by omega
      refine⟨b.getD (i - 1) 0,by simp [List.getD,hib],by simpa using hbad⟩
     simp [qq,this]
    rw [hnf] at hq;refine RetR.out0 hq (λ_=> ?_) ?_
    ·simp [resV,new2,new1,new0,qc]
    ·simp [resV,exp2,exp1,exp0,ren0,eqA2,eqL1,eqA,eqA0,natS]
   ·rw [xX] at hgood;have hd:isD (b.getD (i - 1) 0)=true:=by simpa using hgood
    have hc:48<=(b.getD (i - 1) 0).toNat/\(b.getD (i - 1) 0).toNat<=57:=by simpa [isD] using hd
    obtain⟨c,hcc⟩:∃ c,(b.getD (i - 1) 0).toNat=c:=⟨_,rfl⟩;simp only [hcc] at hc hst ⊢
    iterate 2 refine⟨by omega,λ_=> ?_⟩
    refine⟨⟨trivial,aJ _,by omega⟩,λ_=>⟨by omega,λ_=> ?_⟩⟩;rw [aP trivial];refine⟨⟨i - 1,by omega,λj h1 h2=> ?_⟩,by show i - 1<i; omega,?_,?_,by kernel_rfl,aI _⟩
    ·rcases aR j i with h | h
     ·have:j=i - 1:=by omega
      subst this; exact hd
     ·exact hid j h h2
    ·simp only [<- hst];simp [SDi]; omega
    ·simp only [<- hst];exact qO (d:=c - 48) (by omega)
  ·have hi0:i=0:=by have:=aC hlt; omega
   subst hi0
   have hall:b.all isD=true:=by
    rw [bG];intro c hc;obtain⟨j,hj,rfl⟩:=List.getElem_of_mem hc;have:=hid j (aI _) hj;simpa [List.getD,hj] using this
   rw [hf hall] at hq;have ho:dg b=o:=ho;simp only [if_true,ho] at hq;have hb:([.arr o.length 1 (natG .i64 o)]:Heap)[0]?=some (.arr o.length 1 (natG .i64 o)):=rfl;refine RetR.out0 hq (λ_=> ?_) ?_
   ·simp only [resV,new2,aM,List.not_mem_nil,or_false,forall_eq_or_imp,forall_eq];exact⟨Ja hb (by omega) λj o _ _=>Yz _ _ _ _ _,rfl,rfl⟩
   ·simp only [resV,exp2,List.map_cons,List.map_nil,exp1];rw [xG hb (by omega),zaa];simp [eqA2,eqL1,eqA,eqA0,natS,za,exp0,ren0]
theorem kX:zc prog 134 ky:=by
 refine ze' f134 λs hs O w0 Q hq=> ?_
 replace hq:=hq _ rfl;refine zb.n zq [5,6,7,8,49,50,51,52] (let v5:=lps K134 0;let v4:wi:=.ret [.nils,.bool false,.bool false] [];let v3:=s.getD 0 (0:UInt8);let v2:=bif decide ((0:Int)<s.length) then decide ((↑(UInt8.toNat v3):Int)=45) else false;let v1:=List.drop 1 (List.take s.length s);.side (decide ((0:Int)<s.length)=true->(0:Int)<=0/\(0:Int)<s.length) (.ite v2 (.side ((0:Int)<=1/\(1:Int)<=s.length) (.side (decide ((↑(List.length v1):Int)=0)=false->(0:Int)<=0/\(0:Int)<(↑(List.length v1):Int)) (.ite (bif decide ((↑(List.length v1):Int)=0) then true else bif decide ((↑(UInt8.toNat (List.getD v1 0 (0:UInt8))):Int)=48) then bif decide ((1:Int)<(↑(List.length v1):Int)) then true else bif decide ((0:Int)<s.length) then decide ((↑(UInt8.toNat v3):Int)=45) else false else false) (.leaf v4) (.S ((↑(List.length v1):Int) - (1:Int)) (.leaf (.loop v5.1 v5.2 [(5,.str v1),(6,.bool v2),(7,.nils),(8,.i ((↑(List.length v1):Int) - (1:Int))),Z 49,Z 50,Z 51,Z 52] [])))))) (.side (decide ((s.length:Int)=0)=false->(0:Int)<=0/\(0:Int)<s.length) (.ite (bif decide ((s.length:Int)=0) then true else bif decide ((↑(UInt8.toNat v3):Int)=48) then bif decide ((1:Int)<s.length) then true else bif decide ((0:Int)<s.length) then decide ((↑(UInt8.toNat v3):Int)=45) else false else false) (.leaf v4) (.S (s.length-1) (.leaf (.loop v5.1 v5.2 [(5,.str s),(6,.bool v2),(7,.nils),(8,.i (s.length-1)),Z 49,Z 50,Z 51,Z 52] []))))))) ?_
 have bad:∀ h,digR s=([],false,false)->RetR ky 0 Q [.nils,.bool false,.bool false] h:=by
  intro h he;rw [he] at hq;refine RetR.out0 hq (λ_=> ?_) ?_
  ·simp [resV,new2,new1,new0,qc]
  ·simp [resV,exp2,exp1,exp0,ren0,eqA2,eqL1,eqA,eqA0,natS]
 have core:∀ neg b,parse s=(neg,b)->(if decide ((b.length:Int)=0)=true then true else if decide (((b.getD 0 0).toNat:Int)=48)=true then if decide (1<(b.length:Int))=true then true else neg else false)=true->digR s=([],false,false):=by
  intro neg b hp h
  have:qq neg b=false:=by
   by_cases hb:b=[]
   ·subst hb; simp [qq]
   ·have hl:¬ b.length=0:=by simpa using hb
    rw [aO (by simpa using hl)] at h;split at h
    ·rename_i h48;have h48:b.getD 0 0=48:=yE (aB h48);split at h
     ·rename_i h1; exact vS h48 (by have:=aB h1; omega)
     ·rename_i h1;subst h
      have:b=[48]:=by
       cases b with
       | nil=>exact absurd rfl hb
       | cons c b=>
        have hl1:b=[]:=by
         refine aU.1 ?_;have:¬ 1<(((c::b).length:Nat):Int):=λh=>h1 (aX h)
         simp only [aL] at this; omega
        subst hl1;simp at h48; rw [h48]
      subst this; rfl
    ·cases h
  simp [digR,hp,this]
 have good:∀ neg b,parse s=(neg,b)->(if decide ((b.length:Int)=0)=true then true else if decide (((b.getD 0 0).toNat:Int)=48)=true then if decide (1<(b.length:Int))=true then true else neg else false)=false->b≠[]/\(b.all isD=true->qq neg b=true):=by
  intro neg b hp h;have hb:b≠[]:=by rintro rfl; simp at h
  refine⟨hb,λhall=> ?_⟩;have hl:¬ b.length=0:=by simpa using hb
  rw [aO (by simpa using hl)] at h;simp only [qq,hall,hb,Bool.and_true];simp only [decide_false,Bool.not_false,Bool.true_and];split at h
  ·rename_i h48;split at h
   ·cases h
   ·rename_i h1;subst h;have:(decide (1<b.length))=false:=aW λh=>h1 (aX (by omega))
    simp only [this,Bool.false_and,Bool.and_false,Bool.not_false,Bool.and_self]
  ·rename_i h48
   have e1:decide (b.getD 0 0=48)=false:=by
    refine aW λh=>h48 ?_
    rw [h]; rfl
   have e2:decide (b=[48])=false:=by
    refine aW λh=>h48 ?_
    rw [h]; rfl
   simp only [e1,e2,Bool.false_and,Bool.and_false,Bool.not_false,Bool.and_self]
 simp only [Tree.holds,zd,inR,lo,hi,Bool.cond_eq_ite];refine⟨λh=>by have:=aB h; omega,λ_=>⟨λhneg=> ?_,λhneg=> ?_⟩⟩
 ·simp only [hneg]
  obtain⟨b,rfl⟩:∃ b,s=45::b:=by
   cases s with
   | nil=>simp at hneg
   | cons c b=>
    have:c=45:=by
     have:((c.toNat:Nat):Int)=45:=by simpa using hneg
     exact yE this
    exact⟨b,by rw [this]⟩
  have hd:List.drop 1 (List.take (45::b).length (45::b))=b:=by simp
  rw [hd];have hp:parse (45::b)=(true,b):=rfl;refine⟨by simp; omega,λ_=>⟨λh=>by have:=aC h; omega,λ_=>⟨λh=>bad _ (core true b hp h),λh=>⟨by simp at hs; omega,λ_=> ?_⟩⟩⟩⟩;obtain⟨g1,g2⟩:=good true b hp h;refine ZR b true (by simp at hs; omega) g1 g2 ?_;simpa only [digR,hp] using hq
 ·simp only [hneg]
  have hp:parse s=(false,s):=by
   cases s with
   | nil=>rfl
   | cons c b=>
    have:c≠45:=by
     rintro rfl; simp at hneg
    simp [parse,this]
  refine⟨λh=>by have:=aC h; omega,λ_=>⟨λh=>bad _ (core false s hp h),λh=>⟨by omega,λ_=> ?_⟩⟩⟩;obtain⟨g1,g2⟩:=good false s hp h;refine ZR s false hs g1 g2 ?_;simpa only [digR,hp] using hq
noncomputable def K162:=Go.Sx.aA f162
noncomputable def GR2:=tb kX tz
def Vv:Ctr:=ctrP true (λs:L8=>[.str s]) (λs=>s.length<2^40) (λs r=>r=errI s) (λ_ (r:Int)=>(.i r,[]))
abbrev q22(A:List AV)(x:L8):Prop:=eqL A [.str x]/\x.length<1099511627776
theorem W5:zc prog 157 Vv:=by
 refine ze' f157 λs hs O w0 Q hq=> ?_
 replace hq:=hq _ rfl;refine zb.n GR2.h [] (.ex (q22 [.str s]) λn=>.all (λ(r:List Nat×Bool×Bool)=>r=digR n) λn=>.ite (!Prod.snd n.2) (.R [.i 12] []) (.D ((1000:Int)<n.1.length) (.R [.i 14] []) (.R [.i 0] []))) ?_;simp only [q22,Tree.holds,zd];refine⟨s,⟨by simp,hs⟩,⟨_,rfl⟩,?_⟩;rintro _ rfl;unfold errI at hq;unfold digR;cases hf:qq (parse s).1 (parse s).2 with
 | false=>
  rw [hf] at hq;exact⟨λ_=>RetR.scal hq rfl (by simp [resV]),λh=>by simp at h⟩
 | true=>
  rw [hf,aP rfl] at hq;refine⟨λh=>by simp at h,λ_=>⟨λh=> ?_,λh=> ?_⟩⟩
  ·have h:1000<(parse s).2.length:=by simp [xv] at h; omega
   rw [aP h] at hq;exact RetR.scal hq rfl (by simp [resV])
  ·have h:¬ 1000<(parse s).2.length:=by simp [xv] at h; omega
   rw [aO h] at hq;exact RetR.scal hq rfl (by simp [resV])
noncomputable def GR3:=tb W5 tz
def zbf:Ctr:=ctrP true (λp:L8×L8=>[.str p.1,.str p.2]) (λp=>p.1.length<2^40/\p.2.length<2^40) (λp r=>r=zo p.1 p.2) (λ_ (r:Int)=>(.i r,[]))
theorem Vu:zc prog 133 zbf:=by
 refine ze' f133 λp hp O w0 Q hq=> ?_
 obtain⟨s,t⟩:=p;obtain⟨hs,ht⟩:=hp;replace hq:=hq _ rfl;simp only at hs ht hq;refine zb.n GR3.h [] (.ex (q22 [.str s]) λn=>.all (λ(r:Int)=>r=errI n) λn=>.N (n=0) (.ex (q22 [.str s]) λn=>.all (λ(r:Int)=>r=errI n) λn=>.R [.i n] []) (.ex (q22 [.str t]) λn=>.all (λ(r:Int)=>r=errI n) λn=>.R [.i n] [])) ?_;simp only [q22,Tree.holds,zd];unfold zo at hq;refine⟨s,⟨by simp,hs⟩,⟨_,rfl⟩,?_⟩;rintro _ rfl;refine⟨λh=> ?_,λh=> ?_⟩
 ·have h:¬ errI s=0:=by simpa using h
  rw [aO h] at hq;refine⟨s,⟨by simp,hs⟩,⟨_,rfl⟩,?_⟩;rintro _ rfl;exact RetR.scal hq rfl (by simp [resV])
 ·have h:errI s=0:=by simpa using h
  rw [aP h] at hq;refine⟨t,⟨by simp,ht⟩,⟨_,rfl⟩,?_⟩;rintro _ rfl;exact RetR.scal hq rfl (by simp [resV])
noncomputable def GR4:=tb Vf (tb yH tz)
def zb8(p:List Nat×List Nat)(r:List Nat×List Nat):Prop:=r.1.length=p.1.length/\Ten.dig r.1/\Ten.val r.1=Ten.val p.1/Ten.val p.2/\r.2.length<=p.1.length/\Ten.dig r.2/\Ten.val r.2=Ten.val p.1%Ten.val p.2
def XM:Ctr:=ctrP false (λp:List Nat×List Nat=>[nat6 p.1,nat6 p.2]) (λp=>Ten.dig p.1/\Ten.dig p.2/\p.1.length<2^38/\p.2.length<2^38/\0<Ten.val p.2) zb8 (λ_ r=>(.tup [nat6 r.1,nat6 r.2],[]))
def SRd(l m:List Nat)(n:Nat):KV:=[(0,nat6 l),(1,nat6 m),(6,.i (n:Int)),Z 7,Z 8,Z 9,Z 15,Z 16,Z 17,Z 18,Z 19,Z 20]
def qz(i:Nat)(qs:List Nat):List Nat:=List.replicate i 0++qs
def SRo(l m qs r:List Nat)(i:Nat):KV:=[(0,nat6 l),(1,nat6 m),(6,.i (m.length:Int)),(7,.osl 0 1 0 l.length),(8,nat6 r),(9,.i ((i:Int) - 1)),Z 15,Z 16,Z 17,Z 18,Z 19,Z 20]
theorem zez{k:IntKind}{x n:Nat}{r:List Nat}(hn:n<=1+r.length):eqG n 1 (zf (appG 1 (zg 1 [.int k (x:Int)]) (natG k r)) 0) (natG k ((x::r).take n)):=by
 intro j o hj ho;have ho:o=0:=by omega
 subst ho;simp only [zf,appG,zg,natG,Nat.zero_add];rw [uT hj];by_cases h:j<1
 ·have:j=0:=by omega
  subst this; simp
 ·obtain⟨i,rfl⟩:∃ i,j=i+1:=⟨j - 1,by omega⟩;simp
def SRn(l m r:List Nat)(p:Nat):KV:=[(0,nat6 l),(1,nat6 m),(6,.i (m.length:Int)),(7,.osl 0 1 0 l.length),(8,nat6 r),(9,.i (p:Int)),Z 15,Z 16,Z 17,Z 18,Z 19,Z 20]
abbrev q23(A:List AV)(x:List Nat×List Nat):Prop:=eqL A [.sl x.1.length 1 (natG .i64 x.1),.sl x.2.length 1 (natG .i64 x.2)]/\Ten.dig x.1/\Ten.dig x.2/\x.1.length<1099511627776/\Ten.val x.2<=Ten.val x.1
theorem Ud{O:Nat->Prop}{w0:World}{Hs:Nat->KV->Heap->Prop}{R:List AV->Heap->Prop}(l m qs r0:List Nat)(p V:Nat)(hm:Ten.dig m)(hll:l.length<2^38)(hml:m.length<2^38)(hm0:0<Ten.val m)(hp:p<l.length)
  (hql:qs.length+(p+1)=l.length) (hV:V<10*Ten.val m) (hrd:Ten.dig r0) (hrl:r0.length<=m.length+1) (hrv:Ten.val r0=V)
  (hback:∀ k r,k<10->Ten.dig r->r.length=r0.length->Ten.val r<Ten.val m->V=k*Ten.val m+Ten.val r->∀ kv h,LeK 0 f162.ntmps kv h (SRo l m (k::qs) r p) [.arr l.length 1 (natG .i64 (qz p (k::qs)))]->Hs 0 kv h)
  (kv:KV) (h:Heap) (hle:LeK 0 f162.ntmps kv h (SRn l m r0 p) [.arr l.length 1 (natG .i64 (qz p (0::qs)))]) :
  zb prog f162 O 0 w0 [] Hs R (.code (.loop (lps (inside (inside K162 0) 0) 0).1)::(lps (inside (inside K162 0) 0) 0).2) (mk f162.ntmps kv h):=by
 refine zb.loop (ι:={z:Nat×List Nat // Ten.dig z.2/\z.2.length=r0.length/\V=z.1*Ten.val m+Ten.val z.2}) (λz=>SRn l m z.1.2 p) (λz=>[.arr l.length 1 (natG .i64 (qz p (z.1.1::qs)))]) (λz=>Ten.val z.1.2) ⟨(0,r0),hrd,rfl,by simp [hrv]⟩ 1 hle ?_ (by kernel_rfl);rintro⟨⟨k,r⟩,hrd2,hrl2,hv⟩;simp only at hrd2 hrl2 hv
 have hk:k<10:=by
  refine Nat.lt_of_not_le λh=> ?_
  have:10*Ten.val m<=k*Ten.val m:=aT _ h;omega
 have hqp:(qz p (k::qs)).getD p 0=k:=by rw [qz,xk (by simp)]; simp
 have hset:(qz p (k::qs)).set p (k+1)=qz p ((k+1)::qs):=by
  simp [qz,List.set_append]
 have hqln:(qz p (k::qs)).length=l.length:=by simp [qz]; omega
 obtain⟨q,hq⟩:∃ q,qz p (k::qs)=q:=⟨_,rfl⟩;simp only [hq] at hqp hset hqln ⊢;refine zb.n GR4.h [0,1,6,7,8,9,15,16,17,18,19,20] (let v1:=[AV.sl r.length 1 (natG .i64 r),AV.sl m.length 1 (natG .i64 m)];.ex (q21 v1) λn=>.all (λ(r:Int)=>r=cmpN (Ten.val n.1) (Ten.val n.2)) λn=>.D ((0:Int)<=n) (.ex (q23 v1) λn=>.all (λ(r:List Nat)=>r.length=n.1.length/\Ten.dig r/\Ten.val r+Ten.val n.2=Ten.val n.1) λn=>.side ((0:Int)<=p/\(p:Int)<l.length) (.S ((↑(q.getD (0+Int.toNat p) 0):Int)+(1:Int)) (.side ((0:Int)<=p/\(p:Int)<l.length) (.leaf (.back 1 [(0,.sl l.length 1 (natG .i64 l)),(1,.sl m.length 1 (natG .i64 m)),(6,.i m.length),(7,.osl 0 1 0 l.length),(8,.sl n.length 1 (natG .i64 n)),(9,.i p),Z 15,Z 16,Z 17,Z 18,Z 19,Z 20] [.arr l.length 1 (updG (natG .i64 q) (0+Int.toNat p) 0 [.i ((↑(q.getD (0+Int.toNat p) 0):Int)+(1:Int))])]))))) (.S (p-1) (.leaf (.back 0 [(0,.sl l.length 1 (natG .i64 l)),(1,.sl m.length 1 (natG .i64 m)),(6,.i m.length),(7,.osl 0 1 0 l.length),(8,.sl r.length 1 (natG .i64 r)),(9,.i (p-1)),Z 15,Z 16,Z 17,Z 18,Z 19,Z 20] [.arr l.length 1 (natG .i64 q)])))) ?_;simp only [q21,q23,Tree.holds,zd,inR,lo,hi,aD];refine⟨(r,m),⟨by simp [za],hrd2,hm,by simp only; omega,by simp only; omega⟩,⟨_,rfl⟩,?_⟩;rintro _ rfl;simp only [Nat.zero_add];refine⟨λhge=> ?_,λhlt=> ?_⟩
 ·have hge:Ten.val m<=Ten.val r:=Qm.1 (aB hge);refine⟨(r,m),⟨by simp [za],hrd2,hm,by simp only; omega,hge⟩,uv hrd2 hge,?_⟩;rintro r2 ⟨h1,h2,h3⟩;simp only at h1 h3;rw [hqp];refine⟨by omega,λ_=>⟨by omega,λ_=>⟨by omega,λ_=> ?_⟩⟩⟩;rw [aP trivial];refine⟨⟨(k+1,r2),h2,h1.trans hrl2,?_⟩,by show Ten.val r2<Ten.val r; omega,by simp [SRn,natS,za],?_,by kernel_rfl,aI _⟩
  ·show V=(k+1)*Ten.val m+Ten.val r2;rw [bH,Nat.one_mul]; omega
  ·simp only [<- hset];have h1:=wM (k:=.i64) (l:=q) (v:=((k:Int)+1)) (i:=p) (by omega) (by omega);have e:((k:Int)+1).toNat=k+1:=by omega
   rw [e,hqln] at h1;exact⟨⟨rfl,rfl,h1⟩,trivial⟩
 ·have hlt:Ten.val r<Ten.val m:=by
   have:=aC hlt;rw [Qm] at this;omega
  refine⟨by omega,λ_=> ?_⟩;rw [aO (by decide)];refine hback k r hk hrd2 hrl2 hlt hv _ _ ⟨by simp [SRo,natS,za],?_,by kernel_rfl,aI _⟩;rw [hq];simp [za]
structure IRo(l m:List Nat) where
 qs:List Nat
 r:List Nat
 i:Nat
 hi:i<=l.length
 hql:qs.length+i=l.length
 hqd:Ten.dig qs
 hrd:Ten.dig r
 hrl:r.length<=m.length+1
 hrl2:r.length+i<=l.length
 hlt:Ten.val r<Ten.val m
 hv:Ten.val (l.drop i)=Ten.val qs*Ten.val m+Ten.val r
theorem Uv{O:Nat->Prop}{w0:World}{Q:AV×Heap->Prop}{Hs:Nat->KV->Heap->Prop}(l m:List Nat)(hl:Ten.dig l)(hm:Ten.dig m)(hll:l.length<2^38)(hml:m.length<2^38)(hm0:0<Ten.val m)(hmt:Ten.val m<10^m.length)
  (hq:∀ r,zb8 (l,m) r->Q (.tup [nat6 r.1,nat6 r.2],[])) (kv:KV) (h:Heap) (hle:LeK 0 f162.ntmps kv h (SRo l m [] [] l.length) [.arr l.length 1 (natG .i64 (qz l.length []))]) :
  zb prog f162 O 0 w0 [] Hs (RetR XM 0 Q) (.code (.loop (lps (inside K162 0) 0).1)::(lps (inside K162 0) 0).2) (mk f162.ntmps kv h):=by
 refine zb.loop (ι:=IRo l m) (λz=>SRo l m z.qs z.r z.i) (λz=>[.arr l.length 1 (natG .i64 (qz z.i z.qs))]) (λz=>z.i) ⟨[],[],l.length,aJ _,by simp,by simp [Ten.dig],by simp [Ten.dig],by simp,by simp,by simpa [Ten.val] using hm0,by simp [Ten.val]⟩ 0 hle ?_ (by kernel_rfl);rintro⟨qs,r,i,hil,hql,hqd,hrd,hrl,hrl2,hrv,hv⟩;obtain⟨q,hqz⟩:∃ q,qz i qs=q:=⟨_,rfl⟩;simp only [hqz];refine zb.n GR4.h [0,1,6,7,8,9,15,16,17,18,19,20] (let v3:=inR .i64 (m.length+1);let v2:=lps (inside (inside K162 0) 0) 0;let v1:List Blk:=[.arr l.length 1 (natG .i64 q),.arr (1+r.length) 1 (appG 1 (zg 1 [.int .i64 ↑(l.getD (Int.toNat (i-1)) 0)]) (natG .i64 r))];.D ((0:Int)<=i - (1:Int)) (.side ((0:Int)<=i - (1:Int)/\(i:Int) - (1:Int)<l.length) (.side (0=0/\1<=1/\(1+r.length)*8<=140737488355328) (.side v3 (.D ((m.length:Int)+(1:Int)<(↑(1+r.length):Int)) (.side v3 (.side ((0:Int)<=m.length+(1:Int)/\(m.length:Int)+(1:Int)<=(↑(1+r.length):Int)) (.leaf (.loop v2.1 v2.2 [(0,.sl l.length 1 (natG .i64 l)),(1,.sl m.length 1 (natG .i64 m)),(6,.i m.length),(7,.osl 0 1 0 l.length),(8,.osl 1 1 0 (Int.toNat (m.length+1) - 0)),(9,.i (i-1)),Z 15,Z 16,Z 17,Z 18,Z 19,Z 20] v1)))) (.leaf (.loop v2.1 v2.2 [(0,.sl l.length 1 (natG .i64 l)),(1,.sl m.length 1 (natG .i64 m)),(6,.i m.length),(7,.osl 0 1 0 l.length),(8,.osl 1 1 0 (1+r.length)),(9,.i (i-1)),Z 15,Z 16,Z 17,Z 18,Z 19,Z 20] v1)))))) (.R [.osl 0 1 0 l.length,.sl r.length 1 (natG .i64 r)] [.arr l.length 1 (natG .i64 q)])) ?_;simp only [Tree.holds,zd,inR,lo,hi,aD];refine⟨λhge=> ?_,λhlt=> ?_⟩
 ·obtain⟨p,rfl⟩:∃ p,i=p+1:=⟨i - 1,by have:=aB hge; omega⟩;have e:(((p+1:Nat):Int) - 1).toNat=p:=by omega
  have e2:((p+1:Nat):Int) - 1=(p:Int):=by omega
  have e3:((m.length:Int)+1).toNat - 0=m.length+1:=by omega
  have hx:l.getD p 0<10:=Ten.zC hl p
  have hdrop:l.drop p=l.getD p 0::l.drop (p+1):=by
   have h1:p<l.length:=by omega
   rw [List.drop_eq_getElem_cons h1];simp [List.getD,h1]
  simp only [e2,e3,aD];obtain⟨x,hxe⟩:∃ x,l.getD p 0=x:=⟨_,rfl⟩;simp only [hxe] at hx hdrop ⊢;have hVv:Ten.val (x::r)=x+10*Ten.val r:=rfl;have hV:Ten.val (x::r)<10*Ten.val m:=by rw [hVv]; omega
  have hpow:10^(m.length+1)=10^m.length*10:=Nat.pow_succ ..;have hcut:Ten.val ((x::r).take (m.length+1))=Ten.val (x::r):=zi1 (by rw [hpow]; omega);have hdig:Ten.dig ((x::r).take (m.length+1)):=Ten.qV (Ten.qx.2 ⟨hx,hrd⟩) _
  have main:∀ n,n=((x::r).take (m.length+1)).length->zb prog f162 O 0 w0 [] (λd kv h=>if d=0 then ∃ x':IRo l m,x'.i<p+1/\LeK 0 f162.ntmps kv h (SRo l m x'.qs x'.r x'.i) [.arr l.length 1 (natG .i64 (qz x'.i x'.qs))] else Hs d kv h) (RetR XM 0 Q)
    (.code (.loop (lps (inside (inside K162 0) 0) 0).1)::(lps (inside (inside K162 0) 0) 0).2)
    (mk f162.ntmps [(0,nat6 l),(1,nat6 m),(6,.i (m.length:Int)),(7,.osl 0 1 0 l.length),(8,.osl 1 1 0 n),(9,.i (p:Int)),Z 15,Z 16,Z 17,Z 18,Z 19,Z 20]
     [.arr l.length 1 (natG .i64 q),.arr (1+r.length) 1 (appG 1 (zg 1 [.i (x:Int)]) (natG .i64 r))]):=by
   intro n hn;refine zb.freeze [1] (by simp) (by kernel_rfl) ?_;refine Ud l m qs ((x::r).take (m.length+1)) p (Ten.val (x::r)) hm hll hml hm0 (by omega) (by omega) hV hdig (by simp; omega) hcut ?_ _ _ ⟨?_,?_,by kernel_rfl,aI _⟩
   ·intro k r' hk hd' hl' hlt' hv' kv h hle';rw [aP rfl];rw [aH,aL] at hl';refine⟨⟨k::qs,r',p,by omega,by simp; omega,Ten.qx.2 ⟨hk,hqd⟩,hd',by omega,by omega,hlt',?_⟩,Nat.lt_succ_self p,hle'⟩;rw [hdrop];show x+10*Ten.val (l.drop (p+1))=(k+10*Ten.val qs)*Ten.val m+Ten.val r';rw [hv,bH,bI];rw [hVv] at hv';omega
   ·have:QP [1] ([.arr l.length 1 (natG .i64 q),.arr (1+r.length) 1 (appG 1 (zg 1 [.i (x:Int)]) (natG .i64 r))]) [(0,nat6 l),(1,nat6 m),(6,.i (m.length:Int)),(7,.osl 0 1 0 l.length),(8,.osl 1 1 0 n),(9,.i (p:Int)),Z 15,Z 16,Z 17,Z 18,Z 19,Z 20]=[(0,nat6 l),(1,nat6 m),(6,.i (m.length:Int)),(7,.osl 0 1 0 l.length),(8,.sl n 1 (zf (appG 1 (zg 1 [.i (x:Int)]) (natG .i64 r)) 0)),(9,.i (p:Int)),Z 15,Z 16,Z 17,Z 18,Z 19,Z 20]:=rfl;rw [this];have hg:=zez (k:=.i64) (x:=x) (r:=r) (n:=n) (by rw [hn]; simp; omega);have h2:(x::r).take n=(x::r).take (m.length+1):=by rw [hn,aH,<- List.take_take,bD]
    rw [h2] at hg;subst hn;refine⟨rfl,by simp [natS,za],rfl,by simp [natS,za],rfl,by simp,rfl,by simp,rfl,?_,rfl,by simp,by simp⟩;exact⟨rfl,rfl,hg⟩
   ·have:qQ [1] (zx [1] [.arr l.length 1 (natG .i64 q),.arr (1+r.length) 1 (appG 1 (zg 1 [.i (x:Int)]) (natG .i64 r))])=[.arr l.length 1 (natG .i64 q),.dead]:=rfl;rw [this];have hqq:q=qz p (0::qs):=by rw [<- hqz]; simp [qz,List.replicate_succ']
    rw [<- hqq];simp [za]
  refine⟨by omega,λ_=>⟨⟨trivial,aJ _,by omega⟩,λ_=>⟨by omega,λ_=>⟨λhbig=> ?_,λhsm=> ?_⟩⟩⟩⟩
  ·have hbig:=aB hbig;refine⟨by omega,λ_=>⟨by omega,λ_=>main _ ?_⟩⟩;rw [aH,aL]; omega
  ·have hsm:=aC hsm;refine main _ ?_;rw [aH,aL]; omega
 ·have hi0:i=0:=by have:=aC hlt; omega
  subst hi0;rw [<- hqz];have hqq:qz 0 qs=qs:=by simp [qz]
  rw [hqq];have hql2:l.length=qs.length:=by omega
  rw [List.drop_zero] at hv;have hb:([.arr l.length 1 (natG .i64 qs)]:Heap)[0]?=some (.arr l.length 1 (natG .i64 qs)):=rfl
  have hd:Ten.val l/Ten.val m=Ten.val qs/\Ten.val l%Ten.val m=Ten.val r:=by
   rw [hv,bJ,Nat.mul_add_div hm0,Nat.mul_add_mod,Nat.div_eq_of_lt hrv,Nat.mod_eq_of_lt hrv];exact⟨by omega,rfl⟩
  refine RetR.out0 (hq (qs,r) ⟨by simp only; omega,hqd,by simp only [hd.1],by simp only; omega,hrd,by simp only [hd.2]⟩) (λh=>by cases h) ?_;simp only [resV,exp2,List.map_cons,List.map_nil,exp1];rw [xG hb (by omega),zaa];simp [eqA2,eqL1,eqA,eqA0,natS,za,exp0,ren0,hql2]
theorem zav:zc prog 162 XM:=by
 refine ze' f162 λp hp O w0 Q hq=> ?_
 obtain⟨l,m⟩:=p;obtain⟨hl,hm,hll,hml,hm0⟩:=hp;simp only at hq hl hm hll hml hm0;refine zb.n GR4.h [0,1,6,7,8,9,15,16,17,18,19,20] (.leaf (.loop (lps K162 0).1 (lps K162 0).2 [(0,.sl l.length 1 (natG .i64 l)),(1,.sl m.length 1 (natG .i64 m)),(6,.i m.length),Z 7,Z 8,Z 9,Z 15,Z 16,Z 17,Z 18,Z 19,Z 20] [])) ?_;simp only [Tree.holds,zd];refine zb.loop (ι:={n:Nat // n<=m.length/\Ten.tlen m<=n}) (λn=>SRd l m n.1) (λ_=>[]) (λn=>n.1) ⟨m.length,aJ _,Ten.qe m⟩ 0 ?_ ?_ (by kernel_rfl)
 ·exact⟨by simp [SRd,natS,za],by simp,by kernel_rfl,aI _⟩
 ·rintro⟨n,hn,ht⟩;refine zb.n GR4.h [0,1,6,7,8,9,15,16,17,18,19,20] (.side (decide ((1:Int)<n)=true->inR .i64 (n-1)) (.side (decide ((1:Int)<n)=true->(0:Int)<=n - (1:Int)/\(n:Int) - (1:Int)<m.length) (.ite (bif decide ((1:Int)<n) then decide ((↑(m.getD (Int.toNat (n-1)) 0):Int)=0) else false) (.S (n-1) (.leaf (.back 0 [(0,.sl l.length 1 (natG .i64 l)),(1,.sl m.length 1 (natG .i64 m)),(6,.i (n-1)),Z 7,Z 8,Z 9,Z 15,Z 16,Z 17,Z 18,Z 19,Z 20] []))) (.side ((0:Int)<=n/\(n:Int)<=m.length) (.side ((0:Int)<=l.length/\(l.length:Int)<=l.length/\inR .i64 l.length/\Int.toNat l.length*8<=140737488355328) (.S (l.length-1) (.leaf (.loop (lps (inside K162 0) 0).1 (lps (inside K162 0) 0).2 [(0,.sl l.length 1 (natG .i64 l)),(1,.sl (Int.toNat n - 0) 1 (zf (natG .i64 m) 0)),(6,.i n),(7,.osl 0 1 0 (Int.toNat l.length)),(8,.nils),(9,.i (l.length-1)),Z 15,Z 16,Z 17,Z 18,Z 19,Z 20] [.arr (Int.toNat l.length) 1 (kz [.i 0])])))))))) ?_;simp only [Tree.holds,zd,inR,lo,hi,aD];refine⟨by omega,λ_=>⟨λh=>by have:=aB h; omega,λ_=>⟨λhz=> ?_,λhz=> ?_⟩⟩⟩
  ·have hn1:1<n:=by
    rcases aR 1 n with h | h
    ·exact h
    ·rw [aW (by omega)] at hz; cases hz
   have e:((n:Int) - 1).toNat=n - 1:=by omega
   have hz:m.getD (n - 1) 0=0:=by
    rw [aX (by omega),e] at hz;have:=aB hz;omega
   refine⟨by omega,λ_=> ?_⟩;rw [aP trivial];refine⟨⟨n - 1,by omega,?_⟩,by show n - 1<n; omega,by simp [SRd,natS,za]; omega,by simp,by kernel_rfl,aI _⟩;refine Nat.le_of_not_lt λhlt=> ?_
   have hnt:n=Ten.tlen m:=by omega
   subst hnt;exact Ten.qt m (by omega) hz
  ·refine⟨by omega,λ_=>⟨by omega,λ_=>⟨by omega,λ_=> ?_⟩⟩⟩;have hlen:(m.take n).length=n:=by rw [aH]; omega
   have hd:Ten.dig (m.take n):=Ten.qV hm n
   have hval:Ten.val (m.take n)=Ten.val m:=by
    refine QB hd hm λj=> ?_
    rcases aR j n with h | h
    ·exact uT h
    ·rw [wO (by omega),Ten.jd m j (by omega)]
   refine Uv l (m.take n) hl hd hll (by omega) (by omega) (Ten.zK hd) ?_ _ _ ⟨?_,?_,by kernel_rfl,aI _⟩
   ·intro r hr;refine hq r ?_;simp only [zb8,hval] at hr ⊢;exact hr
   ·refine⟨rfl,by simp [natS,za],rfl,?_,by simp [hlen,natS]⟩;refine⟨by rw [hlen]; rfl,rfl,?_⟩;intro j o hj ho;have ho:o=0:=by omega
    subst ho;simp only [zf,natG,Nat.zero_add];rw [uT (by omega)]
   ·refine⟨⟨rfl,rfl,?_⟩,trivial⟩;intro j o hj ho;have ho:o=0:=by omega
    subst ho;simp only [kz,natG,qz,List.append_nil];rw [JI hj]; rfl
noncomputable def K151:=Go.Sx.aA f151
def big:Nat:=1000
theorem zcc{s:L8}(h:errI s=0):numI s<10^big:=by
 obtain⟨_,h1,_,h2⟩:=xJ h;exact bB (yp h1) (bW (by decide) h2)
theorem zpc{x y:Nat}(hx:x<10^big)(hy:y<10^big):wr false (Nat.gcd x y)=(qM false (Nat.gcd x y),0):=by
 have h:Nat.gcd x y<10^big:=by
  rcases bC x with h | h
  ·subst h; rw [Nat.gcd_zero_left]; exact hy
  ·exact Nat.lt_of_le_of_lt (Nat.le_of_dvd h (Nat.gcd_dvd_left x y)) hx
 have h2:=kY h;have hb:big=1000:=rfl;unfold wr qM;split
 ·rfl
 ·rw [aO (by omega)]
theorem we{s:L8}(h:errI s=0):digR s=(dg (parse s).2,(parse s).1,true)/\Ten.dig (dg (parse s).2)/\(dg (parse s).2).length<=1000/\Ten.val (dg (parse s).2)=numI s:=by
 obtain⟨neg,b,h1,h2,h3,h4,h5,h6⟩:=Qw h;refine⟨?_,?_,?_,Kf _⟩
 ·simp only [digR,h2,h3,if_true]
 ·simp only [h2]; exact zfp h4
 ·simp only [h2,xv]; exact h6
def zg5:Ctr:=ctrP true (λp:L8×L8=>[.str p.1,.str p.2]) (λp=>p.1.length<2^40/\p.2.length<2^40) (λp r=>r=gcdR p.1 p.2) (λ_ r=>(.tup [.str r.1,.i r.2],[]))
def SRg(x y:List Nat):KV:=[(7,nat6 x),(10,nat6 y)]
noncomputable def GR5:=tb Vu (tb kX (tb zav (tb zah (tb uq tz))))
abbrev q27(A:List AV)(x:List Nat×Bool):Prop:=eqL A [.sl x.1.length 1 (natG .i64 x.1),.bool x.2]/\Ten.dig x.1/\x.1.length<1099511627776
abbrev q26(A:List AV)(x:List Nat×List Nat):Prop:=eqL A [.sl x.1.length 1 (natG .i64 x.1),.sl x.2.length 1 (natG .i64 x.2)]/\Ten.dig x.1/\Ten.dig x.2/\x.1.length<274877906944/\x.2.length<274877906944/\0<Ten.val x.2
abbrev q25(A:List AV)(x:List Nat):Prop:=eqL A [.sl x.length 1 (natG .i64 x)]/\Ten.dig x/\x.length<4611686018427387904
abbrev q24(A:List AV)(x:L8×L8):Prop:=eqL A [.str x.1,.str x.2]/\x.1.length<1099511627776/\x.2.length<1099511627776
theorem zbm:zc prog 151 zg5:=by
 refine ze' f151 λp hp O w0 Q hq=> ?_
 obtain⟨s,t⟩:=p;obtain⟨hs,ht⟩:=hp;replace hq:=hq _ rfl;simp only at hs ht hq;refine zb.n GR5.h [7,10] (.ex (q24 [.str s,.str t]) λn=>.all (λ(r:Int)=>r=zo n.1 n.2) λn=>.N (n=0) (.R [.str #[].toList,.i n] []) (.ex (q22 [.str s]) λn=>.all (λ(r:List Nat×Bool×Bool)=>r=digR n) λn=>.ex (q22 [.str t]) λn_1=>.all (λ(r:List Nat×Bool×Bool)=>r=digR n_1) λn_2=>.leaf (.loop (lps K151 0).1 (lps K151 0).2 [(7,.sl n.1.length 1 (natG .i64 n.1)),(10,.sl n_2.1.length 1 (natG .i64 n_2.1))] []))) ?_;simp only [q22,q24,Tree.holds,zd];refine⟨(s,t),⟨by simp,hs,ht⟩,⟨_,rfl⟩,?_⟩;rintro _ rfl;simp only;refine⟨λhe=> ?_,λhe=> ?_⟩
 ·have he:zo s t≠0:=by
   intro h; simp [h] at he
  have e:gcdR s t=([],zo s t):=by simp [gcdR,he]
  rw [e] at hq;exact RetR.scal hq rfl (by simp [resV])
 ·have he:zo s t=0:=by
   refine bM λh=> ?_
   simp [h] at he
  obtain⟨h1,h2⟩:=zh.1 he
  have e:gcdR s t=(qM false (Nat.gcd (numI s) (numI t)),0):=by
   rw [gcdR,aP he]; exact zpc (zcc h1) (zcc h2)
  rw [e] at hq;refine⟨s,⟨by simp,hs⟩,⟨_,rfl⟩,?_⟩;rintro _ rfl;refine⟨t,⟨by simp,ht⟩,⟨_,rfl⟩,?_⟩;rintro _ rfl;obtain⟨a1,a2,a3,a4⟩:=we h1;obtain⟨b1,b2,b3,b4⟩:=we h2;rw [a1,b1];simp only;rw [<- a4,<- b4] at hq;generalize dg (parse s).2=x0 at *
  generalize dg (parse t).2=y0 at *
  clear a1 b1 e he h1 h2 hs ht a4 b4;refine zb.loop (ι:={z:List Nat×List Nat // Nat.gcd (Ten.val z.1) (Ten.val z.2)=Nat.gcd (Ten.val x0) (Ten.val y0)/\Ten.dig z.1/\Ten.dig z.2/\z.1.length<=1000/\z.2.length<=1000}) (λz=>SRg z.1.1 z.1.2) (λ_=>[]) (λz=>Ten.val z.1.2) ⟨(x0,y0),rfl,a2,b2,a3,b3⟩ 0 ?_ ?_ (by kernel_rfl)
  ·exact⟨by simp [SRg,natS,za],by simp,by kernel_rfl,aI _⟩
  ·rintro⟨⟨x,y⟩,hg,hx,hy,hxl,hyl⟩;simp only at hg hx hy hxl hyl;refine zb.n GR5.h [7,10] (.ex (q25 [.sl y.length 1 (natG .i64 y)]) λn=>.all (λ(r:Bool)=>r=decide (Ten.val n=0)) λn=>.ite (!n) (.ex (q26 [.sl x.length 1 (natG .i64 x),.sl y.length 1 (natG .i64 y)]) λn=>.all (λ(r:List Nat×List Nat)=>r.1.length=n.1.length/\Ten.dig r.1/\Ten.val r.1=Ten.val n.1/Ten.val n.2/\r.2.length<=n.1.length/\Ten.dig r.2/\Ten.val r.2=Ten.val n.1%Ten.val n.2) λn=>.leaf (.back 0 [(7,.sl y.length 1 (natG .i64 y)),(10,.sl n.2.length 1 (natG .i64 n.2))] [])) (.ex (q27 [.sl x.length 1 (natG .i64 x),.bool false]) λn=>.all (λ(r:L8)=>r=qM n.2 (Ten.val n.1)) λn=>.R [.str n,.i 0] [])) ?_;simp only [q25,q26,q27,Tree.holds,zd,inR,lo,hi];refine⟨y,⟨by simp [za],hy,by omega⟩,⟨_,rfl⟩,?_⟩;rintro _ rfl;refine⟨λh0=> ?_,λh0=> ?_⟩
   ·have hy0:0<Ten.val y:=by
     rcases bC (Ten.val y) with h | h
     ·rw [h] at h0; simp at h0
     ·exact h
    refine⟨(x,y),⟨by simp [za],hx,hy,by simp only; omega,by simp only; omega,hy0⟩,?_,?_⟩
    ·obtain⟨g1,g2,g3⟩:=Q0 hx (Nat.div_le_self (Ten.val x) (Ten.val y));obtain⟨g4,g5,g6⟩:=Q0 hx (Nat.mod_le (Ten.val x) (Ten.val y));exact⟨(_,_),g1,g2,g3,Nat.le_of_eq g4,g5,g6⟩
    rintro⟨q,r⟩ ⟨g1,g2,g3,g4,g5,g6⟩;simp only at g1 g2 g3 g4 g5 g6;simp only;rw [aP trivial];refine⟨⟨(y,r),?_,hy,g5,hyl,bP g4 hxl⟩,?_,by simp [SRg,natS,za],by simp,by kernel_rfl,aI _⟩
    ·show Nat.gcd (Ten.val y) (Ten.val r)=_;rw [g6,<- hg,Nat.gcd_comm (Ten.val x),Nat.gcd_rec (Ten.val y) (Ten.val x),Nat.gcd_comm]
    ·show Ten.val r<Ten.val y;rw [g6]; exact Nat.mod_lt _ hy0
   ·have hy0:Ten.val y=0:=by
     refine bM λh=> ?_
     rw [aW h] at h0; simp at h0
    refine⟨(x,false),⟨by simp [za],hx,by simp only; omega⟩,⟨_,rfl⟩,?_⟩;rintro _ rfl;rw [hy0,Nat.gcd_zero_right] at hg;rw [<- hg] at hq;exact RetR.scal hq rfl (by simp [resV])
end Go.Proofs.Tryz
end
section
namespace Go.Proofs
set_option maxHeartbeats 1000000 in
set_option maxRecDepth 100000 in
theorem Tryz.Yp(s:ByteArray)(c:Int)(w:World) :
  Calls Tryz.prog 166 #[.string s,.int .u8 c] w λe w'=>e = .returned (.i (Lib.indexByte s.data.toList c.toNat.toUInt8))/\w'=w:=by
 go_enter Tryz.func166,Tryz.ntmps166
 go_wp2
 rw [run_callFunc_extern Tryz.func171 (by kernel_rfl) (by kernel_rfl) (by kernel_rfl) (e:=Extern.BytealgIndexByte.indexByte) (by kernel_rfl),Lib.run_indexByteString];simp only [Result.andThen];rw [Oper.upon_value]
 go_wp2
 go_ret
 exact⟨rfl,rfl⟩
set_option maxHeartbeats 2000000 in
set_option maxRecDepth 100000 in
theorem Tryz.YZ(s:ByteArray)(c:UInt8)(w:World) :
  Calls Tryz.prog 159 #[.string s,.string ⟨#[c]⟩] w λe w'=>e = .returned (.i (Lib.indexByte s.data.toList c))/\w'=w:=by
 go_enter Tryz.func159,Tryz.ntmps159
 go_wp2_with (go_at_call 166; refine(Tryz.Yp _ _ _).mono ?_; rintro e w' ⟨rfl,rfl⟩)
 ·have h:([c] == s.toList)=true:=by assumption
  go_ret
  refine⟨?_,rfl⟩;have e:s.data.toList=[c]:=by rw [<- Lib.toList_data]; exact(beq_iff_eq.1 h).symm
  rw [e];simp [Lib.indexByte]
 ·go_ret
  exact⟨rfl,rfl⟩
end Go.Proofs
end
section
set_option maxRecDepth 100000
open Go Go.Sx Go.Proofs Go.Nov
namespace Go.Proofs.Tryz
attribute [local simp] eqKV eqA eqA0 eqH eqB eqL eqL0
noncomputable def K150:=Go.Sx.aA f150
theorem Qi(s:L8):Lib.indexByte s 47=if z8 s<s.length then(z8 s:Int) else -1:=by
 induction s with
 | nil=>rfl
 | cons c s ih=>
  simp only [Lib.indexByte,z8,List.findIdx_cons];cases h:(c == 47) with
  | true=>simp
  | false=>
   simp only [Bool.false_eq_true,if_false,ih,cond_false,aL];show _=if z8 s+1<s.length+1 then((z8 s+1:Nat):Int) else -1
   by_cases h2:z8 s<s.length
   ·rw [aP h2,aO (by simp),aP (by omega)]; omega
   ·rw [aO h2,aP (by rfl),aO (by omega)]
def UU:Ctr:=ctrP true (λs:L8=>[.str s,.str [47]]) (λs=>True) (λs r=>r=if z8 s<s.length then(z8 s:Int) else -1) (λ_ (r:Int)=>(.i r,[]))
theorem zgh:zc prog 159 UU:=by
 intro args hc Q hq _;simp only [UU,ctrP] at hq;split at hq
 ·obtain⟨s,⟨h1,_⟩,_,h3⟩:=hq;have hq:=h3 _ rfl;simp only [Tree.holds] at hq;refine wX.le h1 ?_;intro O w σ vals hg hh hr;simp only [RepL,Rep] at hr;obtain⟨v1,r1,rfl,rfl,v2,r2,rfl,rfl,rfl⟩:=hr;refine .inl ⟨enters_of Tryz.func159 (by kernel_rfl) rfl ..,?_⟩;refine(Tryz.YZ ⟨s.toArray⟩ 47 w).mono ?_;rintro e w' ⟨rfl,rfl⟩;have hx:=Qi s;have h0:σ=[]:=aU.1 hh.len;subst h0;refine⟨_,rfl,_,[],[],hq,?_,⟨rfl,λi j e f a b h=>by simp at h,λi e a h=>by simp at h,λi e b h=>by simp at h⟩,hg,aJ _,Hold.refl _ _ _,Ext.refl _ _⟩;simp only [Rep];rw [<- hx]
 ·exact hq.elim
def cutC:Ctr:=ctrP true (λs:L8=>[.str s,.str [47]]) (λs=>s.length<2^62) (λs r=>r=cutR s) (λ_ r=>(.tup [.str r.1,.str r.2.1,.bool r.2.2],[]))
noncomputable def GC1:=tb zgh tz
theorem zm1:zc prog 139 cutC:=by
 refine ze' f139 λs hs O w0 Q hq=> ?_
 replace hq:=hq _ rfl;refine zb.n GC1.h [] (.ex (λ(x:L8)=>eqL [.str s,.str [(47:UInt8)]] [.str x,.str [(47:UInt8)]]/\True) λn=>.all (λ(r:Int)=>r=if z8 n<n.length then(↑(z8 n):Int) else(-1:Int)) λn=>.D ((0:Int)<=n) (.side ((0:Int)<=n/\n<=(s.length:Int)) (.S (n+(1:Int)) (.side ((0:Int)<=n+(1:Int)/\n+(1:Int)<=s.length) (.R [.str (List.drop 0 (List.take (Int.toNat n) s)),.str (List.drop (Int.toNat (n+(1:Int))) (List.take s.length s)),.bool true] [])))) (.R [.str s,.str #[].toList,.bool false] [])) ?_;simp only [Tree.holds,zd,inR,lo,hi];refine⟨s,⟨by simp,trivial⟩,⟨_,rfl⟩,?_⟩;rintro _ rfl;by_cases h:z8 s<s.length
 ·simp only [aP h];rw [Ql h] at hq;refine⟨λ_=>⟨by omega,λ_=>⟨by omega,λ_=>⟨by omega,λ_=> ?_⟩⟩⟩,λhn=> ?_⟩
  ·refine RetR.scal hq rfl ?_;simp [resV]
  ·have:=aC hn; omega
 ·simp only [aO h];rw [V3 h] at hq;refine⟨λhn=> ?_,λ_=>RetR.scal hq rfl (by simp [resV])⟩;have:=aB hn; omega
noncomputable def GC2:=tb zm1 tz
abbrev q28(A:List AV)(x:L8):Prop:=eqL A [.str x,.str [(47:UInt8)]]/\x.length<4611686018427387904
theorem znm:zc prog 112 cutC:=by
 refine ze' f112 λs hs O w0 Q hq=> ?_
 replace hq:=hq _ rfl;refine zb.n GC2.h [] (.ex (q28 [.str s,.str [(47:UInt8)]]) λn=>.all (λ(r:L8×L8×Bool)=>r=cutR n) λn=>.R [.str n.1,.str n.2.1,.bool n.2.2] []) ?_;simp only [q28,Tree.holds,zd,inR,lo,hi];refine⟨s,⟨by simp,hs⟩,⟨_,rfl⟩,?_⟩;rintro _ rfl;exact RetR.scal hq rfl (by simp [resV])
def Uc:Ctr:=ctrP true (λs:L8=>[.str s]) (λs=>s.length<2^62) (λs r=>r=cutR s) (λ_ r=>(.tup [.str r.1,.str r.2.1,.bool r.2.2],[]))
noncomputable def GC3:=tb znm (tb JB tz)
theorem Xl:zc prog 72 Uc:=by
 refine ze' f72 λs hs O w0 Q hq=> ?_
 replace hq:=hq _ rfl;refine zb.n GC3.h [] (.ex (q28 [.str s,.str #[(47:UInt8)].toList]) λn=>.all (λ(r:L8×L8×Bool)=>r=cutR n) λn=>.R [.str n.1,.str n.2.1,.bool n.2.2] []) ?_;simp only [q28,Tree.holds,zd,inR,lo,hi];refine⟨s,⟨by simp,hs⟩,⟨_,rfl⟩,?_⟩;rintro _ rfl;exact RetR.scal hq rfl (by simp [resV])
def znh:Ctr:=ctrP true (λs:L8=>[.str s]) (λs=>s.length<2^62) (λs r=>r=if errI s=12 then 12 else 0) (λ_ (r:Int)=>(.i r,[]))
theorem zls:zc prog 73 znh:=by
 refine ze' f73 λs hs O w0 Q hq=> ?_
 replace hq:=hq _ rfl;refine zb.n GC3.h [] (.ex (q15 [.str s]) λn=>.all (λ(r:Int)=>r=errI n) λn=>.N (n=14) (.R [.i n] []) (.R [.i 0] [])) ?_;simp only [q15,Tree.holds,zd,inR,lo,hi];refine⟨s,⟨by simp,hs⟩,⟨_,rfl⟩,?_⟩;rintro _ rfl;rcases wA s with h | h | h<;>simp only [h] at hq ⊢
 all_goals
  refine⟨λh=> ?_,λh=> ?_⟩
  all_goals first
   | (exfalso; revert h; decide)
   | exact RetR.scal hq rfl (by simp [resV])
def Qr:Ctr:=ctrP true (λs:L8=>[.str s]) (λs=>s.length<2^62) (λs r=>r=errR s) (λ_ (r:Int)=>(.i r,[]))
noncomputable def GC4:=tb Xl (tb zls (tb JB (tb zhx tz)))
theorem Z8:zc prog 39 Qr:=by
 refine ze' f39 λs hs O w0 Q hq=> ?_
 replace hq:=hq _ rfl;refine zb.n GC4.h [] (.ex (q15 [.str s]) λn=>.all (λ(r:L8×L8×Bool)=>r=cutR n) λn=>.ex (q15 [.str n.1]) λn_1=>.all (λ(r:Int)=>r=if errI n_1=12 then(12:Int) else(0:Int)) λn_2=>.ex (λ(x:L8)=>(!decide (n_2=0))=false/\n.2.2=true->q15 [.str n.2.1] x) λn_3=>.all (λ(x:Int)=>(!decide (n_2=0))=false/\n.2.2=true->x=if errI n_3=12 then(12:Int) else(0:Int)) λn_4=>.side (((!decide (n_2=0))=false/\n.2.2=true)/\(!decide (n_4=0))=false->(0:Int)<=0/\(0:Int)<n.2.1.length) (.ite (bif !decide (n_2=0) then true else bif n.2.2 then bif bif bif !decide (n_4=0) then true else decide ((↑(UInt8.toNat (List.getD n.2.1 0 (0:UInt8))):Int)=45) then true else decide (n.2.1=#[(48:UInt8)].toList) then true else decide (n.2.1=#[(49:UInt8)].toList) else false) (.R [.i 12] []) (.ex (q15 [.str n.1]) λn_5=>.all (λ(r:Int)=>r=errI n_5) λn_6=>.ex (λ(x:L8)=>(!decide (n_6=0))=false/\n.2.2=true->q15 [.str n.2.1] x) λn_7=>.all (λ(x:Int)=>(!decide (n_6=0))=false/\n.2.2=true->x=errI n_7) λn_8=>.ite (bif !decide (n_6=0) then true else bif n.2.2 then !decide (n_8=0) else false) (.R [.i 14] []) (.ite n.2.2 (.ex (q17 [.str n.1,.str n.2.1]) λn=>.all (λ(r:L8×Int)=>r=gcdR n.1 n.2) λn=>.N (n.1=#[(49:UInt8)].toList) (.R [.i 12] []) (.R [.i 0] [])) (.R [.i 0] []))))) ?_;simp only [q15,q17,Tree.holds,zd,inR,lo,hi];refine⟨s,⟨by simp,hs⟩,⟨_,rfl⟩,?_⟩;rintro _ rfl;have hlen:=Qx s
 have hno:(cutR s).2.2=false->(cutR s).1=s:=by
  intro h;unfold cutR at h ⊢;split at h
  ·cases h
  ·rename_i hn; rw [aO hn]
 simp only [errR] at hq;generalize cutR s=c at hq hlen hno ⊢;obtain⟨n,d,f⟩:=c;simp only at hq hlen hno ⊢;refine⟨n,⟨by simp,by omega⟩,⟨_,rfl⟩,?_⟩;rintro _ rfl;refine⟨d,λ_=>⟨by simp,by omega⟩,⟨_,λ_=>rfl⟩,?_⟩;intro fd hfd;cases f with
 | false=>
  have hn:=hno rfl;subst hn;rw [aO (by decide)] at hq;refine⟨λh=>by simp at h,λ_=>⟨λh=> ?_,λh=> ?_⟩⟩
  ·rcases wA n with e | e | e<;>rw [e] at hq h
   ·simp at h
   ·exact RetR.scal hq rfl (by simp [resV])
   ·simp at h
  ·have hn12:errI n≠12:=by
    intro e; rw [e] at h; simp at h
   refine⟨n,⟨by simp,by omega⟩,⟨_,rfl⟩,?_⟩;rintro _ rfl;refine⟨d,λ_=>⟨by simp,by omega⟩,⟨_,λ_=>rfl⟩,?_⟩;intro fd2 _;refine⟨λh=> ?_,λh=>⟨λh=>(by cases h),λ_=> ?_⟩⟩
   ·rcases wA n with e | e | e
    ·rw [e] at h; simp at h
    ·exact absurd e hn12
    ·rw [e] at hq; exact RetR.scal hq rfl (by simp [resV])
   ·rcases wA n with e | e | e
    ·rw [e] at hq; exact RetR.scal hq rfl (by simp [resV])
    ·exact absurd e hn12
    ·rw [e] at h; simp at h
 | true=>
  rw [aP rfl] at hq;by_cases hn:errI n=12
  ·rw [aP (.inl hn)] at hq;simp only [hn];refine⟨λh=>by simp at h,λ_=>⟨λ_=>RetR.scal hq rfl (by simp [resV]),λh=>by simp at h⟩⟩
  ·rw [aO hn] at hfd ⊢;have hfd:=hfd ⟨by simp,rfl⟩;subst hfd;by_cases hd:errI d=12
   ·rw [aP (.inr (.inl hd))] at hq;rw [aP hd];refine⟨λh=>by simp at h,λ_=>⟨λ_=>RetR.scal hq rfl (by simp [resV]),λh=>by simp at h⟩⟩
   ·rw [aO hd];have hd0:d≠[]:=by rintro rfl; exact hd JP
    have hneg:=Zo hd0
    have hneg2:decide (((d.getD 0 0).toNat:Int)=45)=negI d:=by
     rw [hneg];by_cases h:d.getD 0 0=45
     ·rw [h]; rfl
     ·rw [aW h];refine aW λh2=>h (yE ?_)
      rw [h2]; rfl
    rw [hneg2];refine⟨λ_=>by have:=List.length_pos_iff.2 hd0; omega,λ_=>⟨λh=> ?_,λh=> ?_⟩⟩
    ·have:negI d=true\/d=[48]\/d=[49]:=by
      revert h
      cases negI d<;>simp
     rw [aP (.inr (.inr this))] at hq;exact RetR.scal hq rfl (by simp [resV])
    ·have:¬ (errI n=12\/errI d=12\/negI d=true\/d=[48]\/d=[49]):=by
      revert h
      cases negI d<;>simp [hn,hd]
     rw [aO this] at hq;refine⟨n,⟨by simp,by omega⟩,⟨_,rfl⟩,?_⟩;rintro _ rfl;refine⟨d,λ_=>⟨by simp,by omega⟩,⟨_,λ_=>rfl⟩,?_⟩;intro ed hed;by_cases hn0:errI n=0
     ·have hed:=hed ⟨by simp [hn0],rfl⟩;subst hed;by_cases hd0:errI d=0
      ·rw [aO (by simp [hn0,hd0])] at hq;refine⟨λh=>by simp [hn0,hd0] at h,λ_=>⟨λ_=> ?_,λh=>by cases h⟩⟩;refine⟨(n,d),⟨by simp,by simp only; omega,by simp only; omega⟩,⟨_,rfl⟩,?_⟩;rintro _ rfl;refine⟨λh=> ?_,λh=> ?_⟩
       ·rw [aP (by simpa using h)] at hq;exact RetR.scal hq rfl (by simp [resV])
       ·rw [aO (by simpa using h)] at hq;exact RetR.scal hq rfl (by simp [resV])
      ·rw [aP (.inr hd0)] at hq;refine⟨λ_=>RetR.scal hq rfl (by simp [resV]),λh=>by simp [hn0,hd0] at h⟩
     ·rw [aP (.inl hn0)] at hq;refine⟨λ_=>RetR.scal hq rfl (by simp [resV]),λh=>by simp [hn0] at h⟩
def YB:Ctr:=ctrP true (λs:L8=>[.str s]) (λs=>s.length<2^62) (λs r=>r=if z8 s<s.length then(z8 s:Int) else -1) (λ_ (r:Int)=>(.i r,[]))
def SSl(s:L8)(i:Nat):KV:=[(0,.str s),(3,.i (i:Int))]
theorem Yx:zc prog 150 YB:=by
 refine ze' f150 λs hs O w0 Q hq=> ?_
 replace hq:=hq _ rfl;refine zb.n zq [0,3] (.leaf (.loop (lps K150 0).1 (lps K150 0).2 [(0,.str s),(3,.i 0)] [])) ?_;simp only [Tree.holds,zd,inR,lo,hi];refine zb.loop (ι:={i:Nat // i<=s.length/\∀ j,j<i->s.getD j 0≠47}) (λi=>SSl s i.1) (λ_=>[]) (λi=>s.length - i.1) ⟨0,aI _,λj hj=>by omega⟩ 0 ?_ ?_ (by kernel_rfl)
 ·exact⟨by simp [SSl],by simp,by kernel_rfl,aI _⟩
 ·rintro⟨i,hil,hib⟩;refine zb.n zq [0,3] (.D ((i:Int)<s.length) (.side ((0:Int)<=i/\(i:Int)<s.length) (.D ((↑(UInt8.toNat (s.getD (i:Int).toNat (0:UInt8))):Int)=47) (.R [.i i] []) (.S (i+1) (.leaf (.back 0 [(0,.str s),(3,.i (i+1))] []))))) (.R [.i (-1:Int)] [])) ?_;simp only [Tree.holds,zd,inR,lo,hi,aD];refine⟨λhlt=> ?_,λhge=> ?_⟩
  ·have hlt:i<s.length:=by have:=aB hlt; omega
   refine⟨by omega,λ_=>⟨λh=> ?_,λh=>⟨by omega,λ_=> ?_⟩⟩⟩
   ·have h:s.getD i 0=47:=yE (aB h);have e:=Xc hlt h hib;rw [aP (by omega),e] at hq;exact RetR.scal hq rfl (by simp [resV])
   ·have h:s.getD i 0≠47:=by
     intro h2;exact aC h (by rw [h2]; rfl)
    rw [aP trivial];refine⟨⟨i+1,hlt,λj hj=> ?_⟩,by show s.length - (i+1)<s.length - i; omega,by simp [SSl],by simp,by kernel_rfl,aI _⟩;rcases aR j i with h1 | h1
    ·exact hib j h1
    ·have:j=i:=by omega
     rw [this]; exact h
  ·have hge:i=s.length:=by have:=aC hge; omega
   subst hge;have e:=Jm hib;rw [aO (by omega)] at hq;exact RetR.scal hq rfl (by simp [resV])
def JG:Ctr:=ctrP true (λs:L8=>[.str s]) (λs=>s.length<2^62) (λs r=>r=((cutR s).1,if(cutR s).2.2 then(cutR s).2.1 else [49])) (λ_ r=>(.tup [.str r.1,.str r.2],[]))
noncomputable def GQ1:=tb Yx tz
theorem JH:zc prog 149 JG:=by
 refine ze' f149 λs hs O w0 Q hq=> ?_
 replace hq:=hq _ rfl;refine zb.n GQ1.h [] (.ex (q15 [.str s]) λn=>.all (λ(r:Int)=>r=if z8 n<n.length then(↑(z8 n):Int) else(-1:Int)) λn=>.D (n<0) (.R [.str s,.str #[(49:UInt8)].toList] []) (.side ((0:Int)<=n/\n<=(s.length:Int)) (.S (n+(1:Int)) (.side ((0:Int)<=n+(1:Int)/\n+(1:Int)<=s.length) (.R [.str (List.drop 0 (List.take (Int.toNat n) s)),.str (List.drop (Int.toNat (n+(1:Int))) (List.take s.length s))] []))))) ?_;simp only [q15,Tree.holds,zd,inR,lo,hi];refine⟨s,⟨by simp,hs⟩,⟨_,rfl⟩,?_⟩;rintro _ rfl;by_cases h:z8 s<s.length
 ·simp only [aP h];rw [Ql h] at hq;refine⟨λhn=> ?_,λhn=> ?_⟩
  ·have:=aB hn; omega
  ·refine⟨by omega,λ_=>⟨by omega,λ_=>⟨by omega,λ_=> ?_⟩⟩⟩;exact RetR.scal hq rfl (by simp [resV])
 ·simp only [aO h];rw [V3 h] at hq;refine⟨λhn=>RetR.scal hq rfl (by simp [resV]),λhn=> ?_⟩;have:=aC hn; omega
def Zd:Ctr:=ctrP true (λs:L8=>[.str s]) (λs=>s.length<2^40) (λs r=>r=errR s) (λ_ (r:Int)=>(.i r,[]))
noncomputable def GQ2:=tb Yx (tb JH (tb kX (tb zbm tz)))
theorem uc:zc prog 124 Zd:=by
 refine ze' f124 λs hs O w0 Q hq=> ?_
 replace hq:=hq _ rfl;refine zb.n GQ2.h [] (.ex (q15 [.str s]) λn=>.all (λ(r:L8×L8)=>r=(Prod.fst (cutR n),if Prod.snd (Prod.snd (cutR n))=true then Prod.fst (Prod.snd (cutR n)) else [(49:UInt8)])) λn=>let v1:=n.2=#[(48:UInt8)].toList;.ex (q22 [.str n.1]) λn_1=>.all (λ(r:List Nat×Bool×Bool)=>r=digR n_1) λn_2=>.ex (q22 [.str n.2]) λn_3=>.all (λ(r:List Nat×Bool×Bool)=>r=digR n_3) λn_4=>.ex (λ(x:L8)=>(bif bif bif !Prod.snd n_2.2 then true else !Prod.snd n_4.2 then true else n_4.2.1 then true else decide v1)=false->eqL [.str s] [.str x]/\x.length<4611686018427387904) λn_5=>.all (λ(x:Int)=>(bif bif bif !Prod.snd n_2.2 then true else !Prod.snd n_4.2 then true else n_4.2.1 then true else decide v1)=false->x=if z8 n_5<n_5.length then(↑(z8 n_5):Int) else(-1:Int)) λn_6=>.ite (bif bif bif bif !Prod.snd n_2.2 then true else !Prod.snd n_4.2 then true else n_4.2.1 then true else decide v1 then true else bif decide ((0:Int)<=n_6) then decide (n.2=#[(49:UInt8)].toList) else false) (.R [.i 12] []) (.ite (bif decide ((1000:Int)<n_2.1.length) then true else decide ((1000:Int)<n_4.1.length)) (.R [.i 14] []) (.ex (q24 [.str n.1,.str n.2]) λn=>.all (λ(r:L8×Int)=>r=gcdR n.1 n.2) λn=>.ex (q15 [.str s]) λn_7=>.all (λ(r:Int)=>r=if z8 n_7<n_7.length then(↑(z8 n_7):Int) else(-1:Int)) λn_8=>.ite (bif decide ((0:Int)<=n_8) then !decide (n.1=#[(49:UInt8)].toList) else false) (.R [.i 12] []) (.R [.i 0] [])))) ?_;simp only [q15,q22,q24,Tree.holds,zd,inR,lo,hi];refine⟨s,⟨by simp,by omega⟩,⟨_,rfl⟩,?_⟩;rintro _ rfl;have hlen:=Qx s;have hfl:=zk9 s
 have hno:(cutR s).2.2=false->(cutR s).1=s:=by
  intro h;unfold cutR at h ⊢;split at h
  ·cases h
  ·rename_i hn; rw [aO hn]
 simp only [errR] at hq;generalize cutR s=c at hq hlen hfl hno ⊢;obtain⟨n,d,f⟩:=c;simp only at hq hlen hfl hno ⊢;obtain⟨e,he⟩:∃ e,(if f=true then d else [49])=e:=⟨_,rfl⟩
 have hel:e.length<1099511627776:=by
  rw [<- he]; split
  ·omega
  ·simp
 simp only [he];refine⟨n,⟨by simp,by omega⟩,⟨_,rfl⟩,?_⟩;rintro _ rfl;refine⟨e,⟨by simp,by omega⟩,⟨_,rfl⟩,?_⟩;rintro _ rfl;refine⟨s,λ_=>⟨by simp,by omega⟩,⟨_,λ_=>rfl⟩,?_⟩;intro sv hsv;rcases QA n with ⟨hn1,hn2⟩ | ⟨hn1,ln,hn2,hn3⟩
 ·have hq:Q (.i 12,[]):=by
   cases f with
   | false=>rw [aO (by decide),<- hno rfl,hn1] at hq; exact hq
   | true=>rw [aP rfl,aP (.inl hn1)] at hq; exact hq
  simp only [hn2];exact⟨λ_=>RetR.scal hq rfl (by simp [resV]),λh=>by simp at h⟩
 rcases QA e with ⟨he1,he2⟩ | ⟨he1,le,he2,he3⟩
 ·have hq:Q (.i 12,[]):=by
   cases f with
   | false=>rw [aO (by decide)] at he; subst he; exact absurd he1 (by decide)
   | true=>
    rw [aP rfl] at he; subst he;rw [aP rfl,aP (.inr (.inl he1))] at hq; exact hq
  simp only [hn2,he2];exact⟨λ_=>RetR.scal hq rfl (by simp [resV]),λh=>by simp at h⟩
 simp only [hn2,he2,Bool.not_true,cond_false] at hsv ⊢;cases f with
 | false=>
  rw [aO (by decide)] at he hq;subst he;have hnn:negI [49]=false:=by decide
  have h49:errI [49]=0:=by decide
  have hs:=hno rfl;subst hs;simp only [hnn,cond_false] at hsv ⊢;have hsv:=hsv (by decide);rw [<- hsv] at hfl;rw [<- hfl,hn3,he3,h49];refine⟨λh=>by simp at h,λ_=>⟨λh=> ?_,λh=> ?_⟩⟩
  ·rcases wA n with e | e | e
   ·rw [e] at h; simp at h
   ·exact absurd e hn1
   ·rw [e] at hq; exact RetR.scal hq rfl (by simp [resV])
  ·have h0:errI n=0:=by
    rcases wA n with e | e | e
    ·exact e
    ·exact absurd e hn1
    ·rw [e] at h; simp at h
   rw [h0] at hq;refine⟨(n,[49]),⟨by simp,by simp only; omega,by simp⟩,⟨_,rfl⟩,?_⟩;rintro _ rfl;refine⟨n,⟨by simp,by omega⟩,⟨_,rfl⟩,?_⟩;rintro _ rfl;rw [<- hsv,<- hfl];refine⟨λh=>by simp at h,λ_=>RetR.scal hq rfl (by simp [resV])⟩
 | true=>
  rw [aP rfl] at he hq;subst he;cases hng:negI d with
  | true=>
   rw [aP (.inr (.inr (.inl hng)))] at hq;exact⟨λ_=>RetR.scal hq rfl (by simp [resV]),λh=>by simp at h⟩
  | false=>
   simp only [hng,cond_false] at hsv ⊢;by_cases h48:d=[48]
   ·rw [aP (.inr (.inr (.inr (.inl h48))))] at hq;rw [aX h48];exact⟨λ_=>RetR.scal hq rfl (by simp [resV]),λh=>by simp at h⟩
   ·rw [aW h48] at hsv ⊢;have hsv:=hsv rfl;rw [<- hsv] at hfl;rw [<- hfl];simp only [cond_false,cond_true];by_cases h49:d=[49]
    ·rw [aP (.inr (.inr (.inr (.inr h49))))] at hq;rw [aX h49];exact⟨λ_=>RetR.scal hq rfl (by simp [resV]),λh=>by simp at h⟩
    ·rw [aW h49];rw [aO (by simp [hn1,he1,hng,h48,h49])] at hq;refine⟨λh=>(by cases h),λ_=> ?_⟩;rw [hn3,he3];by_cases hn0:errI n=0
     ·by_cases hd0:errI d=0
      ·rw [aO (by simp [hn0,hd0])] at hq;refine⟨λh=>by simp [hn0,hd0] at h,λ_=> ?_⟩;refine⟨(n,d),⟨by simp,by simp only; omega,by simp only; omega⟩,⟨_,rfl⟩,?_⟩;rintro _ rfl;refine⟨s,⟨by simp,by omega⟩,⟨_,rfl⟩,?_⟩;rintro _ rfl;rw [<- hsv,<- hfl];refine⟨λh=> ?_,λh=> ?_⟩
       ·rw [aP (by simpa using h)] at hq;exact RetR.scal hq rfl (by simp [resV])
       ·rw [aO (by simpa using h)] at hq;exact RetR.scal hq rfl (by simp [resV])
      ·rw [aP (.inr hd0)] at hq;refine⟨λ_=>RetR.scal hq rfl (by simp [resV]),λh=>by simp [hn0,hd0] at h⟩
     ·rw [aP (.inl hn0)] at hq;refine⟨λ_=>RetR.scal hq rfl (by simp [resV]),λh=>by simp [hn0] at h⟩
noncomputable def K102:=Go.Sx.aA f102
noncomputable def K125:=Go.Sx.aA f125
def kA:Ctr:=ctrP true (λd:Int=>[.i d]) (λ_=>True) (λd r=>r=dayB d) (λ_ (r:Bool)=>(.bool r,[]))
theorem Zw:zc prog 63 kA:=by
 refine ze' f63 λd hs O w0 Q hq=> ?_
 replace hq:=hq _ rfl;refine zb.n zq [] (.R [.bool (bif decide ((0:Int)<=d) then decide (d<=99999) else false)] []) ?_;simp only [Tree.holds,zd];refine RetR.scal hq rfl ?_;simp only [resV,dayB];cases decide (0<=d)<;>rfl
theorem VC:zc prog 89 kA:=by
 refine ze' f89 λd hs O w0 Q hq=> ?_
 replace hq:=hq _ rfl;refine zb.n zq [] (.R [.bool (bif decide ((0:Int)<=d) then decide (d<=99999) else false)] []) ?_;simp only [Tree.holds,zd];refine RetR.scal hq rfl ?_;simp only [resV,dayB];cases decide (0<=d)<;>rfl
theorem zam(c:UInt8):(bif bif decide (97<=(c.toNat:Int)) then decide ((c.toNat:Int)<=122) else false then true else bif decide (65<=(c.toNat:Int)) then decide ((c.toNat:Int)<=90) else false)=isL c:=by
 have e1:decide (97<=(c.toNat:Int))=decide (97<=c.toNat):=decide_eq_decide.2 (by omega);have e2:decide ((c.toNat:Int)<=122)=decide (c.toNat<=122):=decide_eq_decide.2 (by omega);have e3:decide (65<=(c.toNat:Int))=decide (65<=c.toNat):=decide_eq_decide.2 (by omega);have e4:decide ((c.toNat:Int)<=90)=decide (c.toNat<=90):=decide_eq_decide.2 (by omega);rw [e1,e2,e3,e4];simp only [isL];cases decide (97<=c.toNat)<;>cases decide (c.toNat<=122)<;>cases decide (65<=c.toNat)<;>rfl
def zax:Ctr:=ctrP true (λc:UInt8=>[.int .u8 (c.toNat:Int)]) (λ_=>True) (λc r=>r=isL c) (λ_ (r:Bool)=>(.bool r,[]))
theorem zcq:zc prog 136 zax:=by
 refine ze' f136 λc hs O w0 Q hq=> ?_
 replace hq:=hq _ rfl;refine zb.n zq [] (.R [.bool (bif bif decide ((97:Int)<=(↑(UInt8.toNat c):Int)) then decide ((↑(UInt8.toNat c):Int)<=122) else false then true else bif decide ((65:Int)<=(↑(UInt8.toNat c):Int)) then decide ((↑(UInt8.toNat c):Int)<=90) else false)] []) ?_;simp only [Tree.holds,zd];refine RetR.scal hq rfl ?_;simp only [resV];rw [zam]
theorem yn(c d:UInt8):decide ((c.toNat:Int)=(d.toNat:Int))=(c == d):=by
 by_cases h:c=d
 ·subst h; simp
 ·rw [aW λh2=>h (yE h2)];simp [h]
theorem zlr(c:UInt8):(bif decide ((c.toNat:Int)<48) then true else decide (57<(c.toNat:Int))) = !isD c:=by
 rw [Bool.cond_eq_ite]; exact xX c
theorem zj6(c:UInt8):(bif decide (48<=(c.toNat:Int)) then decide ((c.toNat:Int)<=57) else false)=isD c:=by
 have e1:decide (48<=(c.toNat:Int))=decide (48<=c.toNat):=decide_eq_decide.2 (by omega);have e2:decide ((c.toNat:Int)<=57)=decide (c.toNat<=57):=decide_eq_decide.2 (by omega);rw [e1,e2]; simp only [isD];cases decide (48<=c.toNat)<;>cases decide (c.toNat<=57)<;>rfl
theorem zji(c:UInt8):(bif bif bif !isL c then bif decide ((c.toNat:Int)<48) then true else decide (57<(c.toNat:Int)) else false then !decide ((c.toNat:Int)=95) else false then !decide ((c.toNat:Int)=45) else false) = !isN c:=by
 rw [zlr];have e1:decide ((c.toNat:Int)=95)=(c == 95):=yn c 95;have e2:decide ((c.toNat:Int)=45)=(c == 45):=yn c 45;rw [e1,e2]; simp only [isN];cases isL c<;>cases isD c<;>cases (c == 95)<;>cases (c == 45)<;>rfl
theorem zet(c:UInt8)(z:Bool):(bif !bif bif decide (97<=(c.toNat:Int)) then decide ((c.toNat:Int)<=122) else false then true else bif decide (65<=(c.toNat:Int)) then decide ((c.toNat:Int)<=90) else false then
  bif z then true else !bif bif bif decide (48<=(c.toNat:Int)) then decide ((c.toNat:Int)<=57) else false then true else decide ((c.toNat:Int)=95) then true else decide ((c.toNat:Int)=45) else false) = !(isL c||(!z&&isN c)):=by
 rw [zam,zj6];have e1:decide ((c.toNat:Int)=95)=(c == 95):=yn c 95;have e2:decide ((c.toNat:Int)=45)=(c == 45):=yn c 45;rw [e1,e2]; simp only [isN];cases isL c<;>cases z<;>cases isD c<;>cases (c == 95)<;>cases (c == 45)<;>rfl
theorem zl4{c:UInt8}(h:isL c=true):isN c=true:=by simp [isN,h]
def ZS:Ctr:=ctrP true (λs:L8=>[.str s]) (λs=>s.length<2^62) (λs r=>r=zY s) (λ_ (r:Bool)=>(.bool r,[]))
noncomputable def GN1:=tb zcq tz
def SNa(s:L8)(i:Nat):KV:=[(0,.str s),(20,.i (s.length:Int)),(21,.i (i:Int)),Z 31,Z 32,Z 33,Z 34,Z 35,Z 36,Z 39,Z 40,Z 43,Z 44]
theorem zd8{O:Nat->Prop}{w0:World}{Q:AV×Heap->Prop}{Hs:Nat->KV->Heap->Prop}(s:L8)(hs:s.length<2^62)(hq:Q (.bool (s.all isN),[])) :
  zb prog f102 O 0 w0 [] Hs (RetR ZS 0 Q) (.code (.loop (lps K102 0).1)::(lps K102 0).2) (mk f102.ntmps (SNa s 0) []):=by
 refine zb.loop (ι:={i:Nat // i<=s.length/\∀ j,j<i->isN (s.getD j 0)=true}) (λi=>SNa s i.1) (λ_=>[]) (λi=>s.length - i.1) ⟨0,aI _,λj hj=>by omega⟩ 0 ?_ ?_ (by kernel_rfl)
 ·exact⟨by simp [SNa],by simp,by kernel_rfl,aI _⟩
 ·rintro⟨i,hil,hib⟩;refine zb.n GN1.h [0,20,21,31,32,33,34,35,36,39,40,43,44] (let v1:=s.getD (i:Int).toNat (0:UInt8);.D ((i:Int)<s.length) (.side ((0:Int)<=i/\(i:Int)<s.length) (.ex (λ(x:UInt8)=>eqL [.int .u8 ↑(UInt8.toNat v1)] [.int .u8 ↑(UInt8.toNat x)]/\True) λn=>.all (λ(r:Bool)=>r=isL n) λn=>.ite (bif bif bif !n then bif decide ((↑(UInt8.toNat v1):Int)<48) then true else decide ((57:Int)<(↑(UInt8.toNat v1):Int)) else false then !decide ((↑(UInt8.toNat v1):Int)=95) else false then !decide ((↑(UInt8.toNat v1):Int)=45) else false) (.R [.bool false] []) (.S (i+1) (.leaf (.back 0 [(0,.str s),(20,.i s.length),(21,.i (i+1)),Z 31,Z 32,Z 33,Z 34,Z 35,Z 36,Z 39,Z 40,Z 43,Z 44] []))))) (.R [.bool true] [])) ?_;simp only [Tree.holds,zd,inR,lo,hi,aD];refine⟨λhlt=> ?_,λhge=> ?_⟩
  ·have hlt:i<s.length:=by have:=aB hlt; omega
   refine⟨by omega,λ_=>⟨s.getD i 0,⟨by simp,trivial⟩,⟨_,rfl⟩,?_⟩⟩;rintro _ rfl;rw [zji];refine⟨λh=> ?_,λh=>⟨by omega,λ_=> ?_⟩⟩
   ·rw [Zc hlt (by simpa using h)] at hq;exact RetR.scal hq rfl (by simp [resV])
   ·rw [aP trivial];refine⟨⟨i+1,hlt,λj hj=> ?_⟩,by show s.length - (i+1)<s.length - i; omega,by simp [SNa],by simp,by kernel_rfl,aI _⟩;rcases aR j i with h1 | h1
    ·exact hib j h1
    ·have:j=i:=by omega
     rw [this]; simpa using h
  ·have hge:i=s.length:=by have:=aC hge; omega
   subst hge;rw [Yy hib] at hq;exact RetR.scal hq rfl (by simp [resV])
theorem zat:zc prog 102 ZS:=by
 refine ze' f102 λs hs O w0 Q hq=> ?_
 replace hq:=hq _ rfl;refine zb.n GN1.h [0,20,21,31,32,33,34,35,36,39,40,43,44] (.side ((bif decide ((s.length:Int)<1) then true else decide ((40:Int)<s.length))=false->(0:Int)<=0/\(0:Int)<s.length) (.ex (λ(x:UInt8)=>(bif decide ((s.length:Int)<1) then true else decide ((40:Int)<s.length))=false->eqL [.int .u8 ↑(UInt8.toNat (s.getD 0 (0:UInt8)))] [.int .u8 ↑(UInt8.toNat x)]/\True) λn=>.all (λ(x:Bool)=>(bif decide ((s.length:Int)<1) then true else decide ((40:Int)<s.length))=false->x=isL n) λn=>.ite (bif bif decide ((s.length:Int)<1) then true else decide ((40:Int)<s.length) then true else !n) (.R [.bool false] []) (.leaf (.loop (lps K102 0).1 (lps K102 0).2 [(0,.str s),(20,.i s.length),(21,.i 0),Z 31,Z 32,Z 33,Z 34,Z 35,Z 36,Z 39,Z 40,Z 43,Z 44] [])))) ?_;simp only [Tree.holds,zd,inR,lo,hi]
 have hd:decide ((s.length:Int)<1) = !decide (0<s.length):=by
  by_cases h:0<s.length
  ·rw [aX h,aW (by omega)]; rfl
  ·rw [aW h,aX (by omega)]; rfl
 have hd2:decide (40<(s.length:Int)) = !decide (s.length<=40):=by
  by_cases h:s.length<=40
  ·rw [aX h,aW (by omega)]; rfl
  ·rw [aW h,aX (by omega)]; rfl
 rw [hd,hd2];have hnb:zY s=(decide (0<s.length)&&decide (s.length<=40)&&isL (s.getD 0 0)&&s.all isN):=rfl;cases h1:decide (0<s.length) with
 | false=>
  rw [hnb,h1] at hq;refine⟨λh=>(by cases h),λ_=>⟨0,λh=>(by cases h),⟨false,λh=>(by cases h)⟩,?_⟩⟩;intro b _;exact⟨λ_=>RetR.scal hq rfl (by simp [resV]),λh=>(by cases h)⟩
 | true=>
  have h1':=aB h1;cases h2:decide (s.length<=40) with
  | false=>
   rw [hnb,h1,h2] at hq;refine⟨λh=>(by cases h),λ_=>⟨0,λh=>(by cases h),⟨false,λh=>(by cases h)⟩,?_⟩⟩;intro b _;exact⟨λ_=>RetR.scal hq rfl (by simp [resV]),λh=>(by cases h)⟩
  | true=>
   refine⟨λ_=>by omega,λ_=>⟨s.getD 0 0,λ_=>⟨by simp,trivial⟩,⟨_,λ_=>rfl⟩,?_⟩⟩;intro b hb;have hb:=hb rfl;subst hb;cases h3:isL (s.getD 0 0) with
   | false=>
    rw [hnb,h1,h2,h3] at hq;exact⟨λ_=>RetR.scal hq rfl (by simp [resV]),λh=>(by cases h)⟩
   | true=>
    rw [hnb,h1,h2,h3] at hq;refine⟨λh=>(by cases h),λ_=> ?_⟩;exact zd8 s hs hq
def SNr(s:L8)(i:Nat):KV:=[(0,.str s),(3,.i (i:Int)),Z 27,Z 28,Z 31,Z 32,Z 33,Z 34,Z 35,Z 36,Z 41,Z 42,Z 45,Z 46,Z 49,Z 50,Z 55,Z 56,Z 57,Z 58,Z 59,Z 60]
theorem YW{O:Nat->Prop}{w0:World}{Q:AV×Heap->Prop}{Hs:Nat->KV->Heap->Prop}(s:L8)(hs:s.length<2^62)(h0:0<s.length)(hq:Q (.bool (isL (s.getD 0 0)&&s.all isN),[])) :
  zb prog f125 O 0 w0 [] Hs (RetR ZS 0 Q) (.code (.loop (lps K125 0).1)::(lps K125 0).2) (mk f125.ntmps (SNr s 0) []):=by
 refine zb.loop (ι:={i:Nat // i<=s.length/\(∀ j,j<i->isN (s.getD j 0)=true)/\(0<i->isL (s.getD 0 0)=true)}) (λi=>SNr s i.1) (λ_=>[]) (λi=>s.length - i.1) ⟨0,aI _,λj hj=>by omega,λh=>by omega⟩ 0 ?_ ?_ (by kernel_rfl)
 ·exact⟨by simp [SNr],by simp,by kernel_rfl,aI _⟩
 ·rintro⟨i,hil,hib,hi0⟩;refine zb.n zq [0,3,27,28,31,32,33,34,35,36,41,42,45,46,49,50,55,56,57,58,59,60] (let v1:=s.getD (i:Int).toNat (0:UInt8);.D ((i:Int)<s.length) (.side ((0:Int)<=i/\(i:Int)<s.length) (.ite (bif !bif bif decide ((97:Int)<=(↑(UInt8.toNat v1):Int)) then decide ((↑(UInt8.toNat v1):Int)<=122) else false then true else bif decide ((65:Int)<=(↑(UInt8.toNat v1):Int)) then decide ((↑(UInt8.toNat v1):Int)<=90) else false then bif decide ((i:Int)=0) then true else !bif bif bif decide ((48:Int)<=(↑(UInt8.toNat v1):Int)) then decide ((↑(UInt8.toNat v1):Int)<=57) else false then true else decide ((↑(UInt8.toNat v1):Int)=95) then true else decide ((↑(UInt8.toNat v1):Int)=45) else false) (.R [.bool false] []) (.S (i+1) (.leaf (.back 0 [(0,.str s),(3,.i (i+1)),Z 27,Z 28,Z 31,Z 32,Z 33,Z 34,Z 35,Z 36,Z 41,Z 42,Z 45,Z 46,Z 49,Z 50,Z 55,Z 56,Z 57,Z 58,Z 59,Z 60] []))))) (.R [.bool true] [])) ?_;simp only [Tree.holds,zd,inR,lo,hi,aD];refine⟨λhlt=> ?_,λhge=> ?_⟩
  ·have hlt:i<s.length:=by have:=aB hlt; omega
   refine⟨by omega,λ_=> ?_⟩;rw [zet];have hz:decide ((i:Int)=0)=decide (i=0):=decide_eq_decide.2 (by omega);rw [hz];refine⟨λh=> ?_,λh=>⟨by omega,λ_=> ?_⟩⟩
   ·have hf:(isL (s.getD 0 0)&&s.all isN)=false:=by
     have h:(isL (s.getD i 0)||(!decide (i=0)&&isN (s.getD i 0)))=false:=by simpa only [Bool.not_eq_true'] using h
     rcases bC i with hi | hi
     ·subst hi
      have:isL (s.getD 0 0)=false:=by
       cases h3:isL (s.getD 0 0) with
       | false=>rfl
       | true=>rw [h3] at h; cases h
      rw [this]; rfl
     ·rw [aW (by omega)] at h
      have:isN (s.getD i 0)=false:=by
       cases h3:isN (s.getD i 0) with
       | false=>rfl
       | true=>rw [h3] at h; revert h; cases isL (s.getD i 0)<;>intro h<;>cases h
      rw [Zc hlt this]; cases isL (s.getD 0 0)<;>rfl
    rw [hf] at hq;exact RetR.scal hq rfl (by simp [resV])
   ·rw [aP trivial];have h:(isL (s.getD i 0)||(!decide (i=0)&&isN (s.getD i 0)))=true:=by simpa only [Bool.not_eq_false'] using h
    have hN:isN (s.getD i 0)=true:=by
     cases h3:isL (s.getD i 0) with
     | true=>exact zl4 h3
     | false=>
      rw [h3] at h
      revert h; cases decide (i=0)<;>cases isN (s.getD i 0)<;>simp
    refine⟨⟨i+1,hlt,λj hj=> ?_,λ_=> ?_⟩,by show s.length - (i+1)<s.length - i; omega,by simp [SNr],by simp,by kernel_rfl,aI _⟩
    ·rcases aR j i with h1 | h1
     ·exact hib j h1
     ·have:j=i:=by omega
      rw [this]; exact hN
    ·rcases bC i with h1 | h1
     ·subst h1;cases h3:isL (s.getD 0 0) with
      | true=>rfl
      | false=>rw [h3] at h; cases h
     ·exact hi0 h1
  ·have hge:i=s.length:=by have:=aC hge; omega
   subst hge;rw [Yy hib,hi0 h0] at hq;exact RetR.scal hq rfl (by simp [resV])
theorem XC:zc prog 125 ZS:=by
 refine ze' f125 λs hs O w0 Q hq=> ?_
 replace hq:=hq _ rfl;refine zb.n zq [0,3,27,28,31,32,33,34,35,36,41,42,45,46,49,50,55,56,57,58,59,60] (.ite (bif decide ((s.length:Int)=0) then true else decide ((40:Int)<s.length)) (.R [.bool false] []) (.leaf (.loop (lps K125 0).1 (lps K125 0).2 [(0,.str s),(3,.i 0),Z 27,Z 28,Z 31,Z 32,Z 33,Z 34,Z 35,Z 36,Z 41,Z 42,Z 45,Z 46,Z 49,Z 50,Z 55,Z 56,Z 57,Z 58,Z 59,Z 60] []))) ?_;simp only [Tree.holds,zd,inR,lo,hi]
 have hd:decide ((s.length:Int)=0) = !decide (0<s.length):=by
  by_cases h:0<s.length
  ·rw [aX h,aW (by omega)]; rfl
  ·rw [aW h,aX (by omega)]; rfl
 have hd2:decide (40<(s.length:Int)) = !decide (s.length<=40):=by
  by_cases h:s.length<=40
  ·rw [aX h,aW (by omega)]; rfl
  ·rw [aW h,aX (by omega)]; rfl
 rw [hd,hd2];have hnb:zY s=(decide (0<s.length)&&decide (s.length<=40)&&isL (s.getD 0 0)&&s.all isN):=rfl;cases h1:decide (0<s.length) with
 | false=>
  rw [hnb,h1] at hq;exact⟨λ_=>RetR.scal hq rfl (by simp [resV]),λh=>(by cases h)⟩
 | true=>
  cases h2:decide (s.length<=40) with
  | false=>
   rw [hnb,h1,h2] at hq;exact⟨λ_=>RetR.scal hq rfl (by simp [resV]),λh=>(by cases h)⟩
  | true=>
   rw [hnb,h1,h2] at hq;refine⟨λh=>(by cases h),λ_=> ?_⟩;exact YW s hs (aB h1) hq
end Go.Proofs.Tryz
end
section
namespace Go.Nov
def sumS(m:Bool)(x:Nat)(n:Bool)(y:Nat):Bool×Nat:=if m=n then(m,x+y) else if y<=x then(m,x - y) else(n,y - x)
def addI(s t:L8):L8×Int:=if zo s t=0 then wr (sumS (negI s) (numI s) (negI t) (numI t)).1 (sumS (negI s) (numI s) (negI t) (numI t)).2 else([],zo s t)
def subI(s t:L8):L8×Int:=if zo s t=0 then wr (sumS (negI s) (numI s) (!negI t) (numI t)).1 (sumS (negI s) (numI s) (!negI t) (numI t)).2 else([],zo s t)
def mulI(s t:L8):L8×Int:=if zo s t=0 then wr (negI s != negI t) (numI s*numI t) else([],zo s t)
def cmpZ(m:Bool)(x:Nat)(n:Bool)(y:Nat):Int:=if m=true/\n=false then -1 else if n=true/\m=false then 1 else if m=true then cmpN y x else cmpN x y
def kx(s t:L8):Int×Int:=if zo s t=0 then(cmpZ (negI s) (numI s) (negI t) (numI t),0) else(0,zo s t)
theorem Qp{d:Nat}(h:d<10):(byt d).toNat=48+d:=by
 unfold byt;rw [UInt8.toNat_ofNat'];omega
theorem uh{x:Nat}(h:x≠0):txt x=((dec x).map byt).reverse:=aO h
theorem y4{x:Nat}(h:x≠0):(txt x).length=(dec x).length:=by rw [uh h]; simp
theorem zcf{x:Nat}(h:x≠0):allD (txt x):=by
 intro c hc;rw [uh h] at hc;simp only [List.mem_reverse,List.mem_map] at hc;obtain⟨d,hd,rfl⟩:=hc;have:d<10:=Ten.zi x d hd;rw [Qp this];omega
theorem znt{x:Nat}(h:x≠0):dg (txt x)=dec x:=by
 rw [uh h,dg,List.map_reverse,List.reverse_reverse,List.map_map]
 conv=>rhs; rw [<- List.map_id (dec x)]
 refine List.map_congr_left λd hd=> ?_
 have:d<10:=Ten.zi x d hd;simp only [Function.comp,Qp this,id];omega
theorem zle{x:Nat}(h:x≠0):numD (txt x)=x:=by
 rw [<- Kf,znt h];exact Ten.zm x
theorem Z3{x:Nat}(h:x≠0):(txt x).getD 0 0≠48/\(txt x).getD 0 0≠45:=by
 have hl:=Kj h;have ht:=zc5 hl;have hlt:=dec_lt x ((dec x).length - 1)
 have e:(txt x).getD 0 0=byt ((dec x).getD ((dec x).length - 1) 0):=by
  rw [uh h];simp only [List.getD_eq_getElem?_getD];rw [List.getElem?_reverse (by simpa using hl)];simp [aF (show(dec x).length - 1<(dec x).length by omega)]
 rw [e];have hb:=Qp hlt;constructor
 ·intro h2;rw [h2] at hb;have:(48:UInt8).toNat=48:=rfl;omega
 ·intro h2;rw [h2] at hb;have:(45:UInt8).toNat=45:=rfl;omega
theorem YN{x:Nat}(h:x≠0):txt x≠[]:=by
 intro h2;have:=y4 h;rw [h2] at this;have:=Kj h;simp at *; omega
theorem WL{x:Nat}(h:x≠0)(neg:Bool):parse (sgn neg (txt x))=(neg,txt x):=by
 cases neg with
 | true=>rfl
 | false=>
  simp only [sgn,Bool.false_eq_true,if_false];have h1:=(Z3 h).2;cases ht:txt x with
  | nil=>exact absurd ht (YN h)
  | cons c b=>
   rw [ht] at h1;have:c≠45:=h1;simp [parse,this]
theorem XD{x:Nat}(h:x≠0)(neg:Bool):qq neg (txt x)=true:=by
 have h1:=(Z3 h).1
 have h2:txt x≠[48]:=by
  intro h2;rw [h2] at h1;exact h1 rfl
 have h3:=YN h;have h4:(txt x).all isD=true:=zc7.2 (zcf h);simp only [List.getD_eq_getElem?_getD] at h1;simp [qq,h3,h2,h1,h4]
theorem ZV{neg:Bool}{x:Nat}(h:(wr neg x).2=0):errI (wr neg x).1=0/\numI (wr neg x).1=x/\negI (wr neg x).1=(neg&&decide (x≠0)):=by
 unfold wr at h ⊢;by_cases h0:x=0
 ·subst h0;simp only [if_true];refine⟨rfl,rfl,?_⟩;simp [negI,parse]
 ·rw [aO h0] at h ⊢;by_cases h1:1000<(dec x).length
  ·rw [aP h1] at h; cases h
  ·rw [aO h1];simp only [errI,numI,negI,WL h0,XD h0,if_true];rw [y4 h0,aO h1];exact⟨rfl,zle h0,by simp [h0]⟩
theorem Kx(neg:Bool)(x:Nat):(wr neg x).2=0\/wr neg x=([],14):=by
 unfold wr;split
 ·exact .inl rfl
 ·split
  ·exact .inr rfl
  ·exact .inl rfl
theorem zay(neg:Bool)(b:L8):(sgn neg b).length<=b.length+1:=by
 unfold sgn; split<;>simp
theorem w9(neg:Bool)(x:Nat):(wr neg x).1.length<=1001:=by
 unfold wr;split
 ·simp
 ·rename_i h0;split
  ·simp
  ·rename_i h1;have:=zay neg (txt x);rw [y4 h0] at this;simp only;omega
theorem QS(s t:L8):(addI s t).1.length<=1001:=by
 unfold addI;split
 ·exact w9 _ _
 ·simp
theorem zgm(s t:L8):(subI s t).1.length<=1001:=by
 unfold subI;split
 ·exact w9 _ _
 ·simp
theorem jv(s t:L8):(mulI s t).1.length<=1001:=by
 unfold mulI;split
 ·exact w9 _ _
 ·simp
theorem zb0(b:Bool)(x:Nat):wr (b&&decide (0<x)) x=wr b x:=by
 unfold wr;by_cases h:x=0
 ·rw [aP h,aP h]
 ·rw [aO h,aO h];have:decide (0<x)=true:=aX (bV h);rw [this,Bool.and_true]
theorem WD(m:Bool)(x:Nat)(n:Bool):sumS m x n 0=(m,x):=by
 unfold sumS;split
 ·rfl
 ·simp
theorem zdi(m:Bool)(x:Nat)(n:Bool)(y:Nat):sumS m x (n&&decide (0<y)) y=sumS m x n y:=by
 by_cases h:y=0
 ·subst h; rw [WD,WD]
 ·have:decide (0<y)=true:=aX (bV h);rw [this,Bool.and_true]
theorem zas(m:Bool)(x:Nat)(n:Bool)(y:Nat):(sumS m x n y).2<=x+y:=by
 unfold sumS;split
 ·exact aJ _
 ·split
  ·simp only; omega
  ·simp only; omega
end Go.Nov
end
section
set_option maxRecDepth 100000
open Go Go.Sx Go.Proofs Go.Nov
namespace Go.Proofs.Tryz
attribute [local simp] eqKV eqA eqA0 eqH eqB eqL eqL0
noncomputable def K147:=Go.Sx.aA f147
def zbz:Ctr:=ctr2 true (λx y=>(canon x).length<100000/\(canon y).length<100000) (λx y d=>d=x+y) (λ_ _ d=>(magS d,[]))
def SPl(x y:Nat)(o:List Nat)(c i:Nat):KV:=[(1,magS y),(5,.osl 0 1 0 o.length),(6,.int .u32 (c:Int)),(21,magS x),(22,.i ((canon x).length:Int)),(23,.i (i:Int))]
structure IPl(x y:Nat) where
 o:List Nat
 c:Nat
 i:Nat
 len:o.length=i
 le:i<=(canon x).length
 dg:dig o
 c1:c<=1
 eq:val o+B^i*c=val ((canon x).take i)+val ((canon y).take i)
theorem zox{x y o c i d c':Nat}{l m:List Nat}(h:o+B^i*c=val (l.take i)+val (m.take i))(he:d+B*c'=l.getD i 0+m.getD i 0+c):o+B^i*d+B^(i+1)*c'=val (l.take (i+1))+val (m.take (i+1)):=by
 rw [zk,zk,Nat.pow_succ];have:=congrArg (B^i * ·) he;simp only [bN] at this;rw [bI];omega
theorem RetR.zpk{ctr:Ctr}{Q:AV×Heap->Prop}{h:Heap}{i m n:Nat}{k:IntKind}{l:List Nat}{G:Nat->Nat->AV}(hq:Q (natS k l,[]))(hb:h[i]?=some (.arr m 1 G))(hn:n<=m)(hl:l.length=n)(hG:∀ j,j<n->G j 0 = .int k ((l.getD j 0:Nat):Int)):RetR ctr 0 Q [.osl i 1 0 n] h:=by
 refine RetR.out0 hq (λ_=> ?_) ?_
 ·refine Ja hb (by omega) λj o hj ho=> ?_
  have:o=0:=by omega
  subst this;simp only [zf,Nat.zero_add,hG j hj,qc]
 ·have e:exp2 h [] (resV [.osl i 1 0 n])=exp0 h [] (.osl i 1 0 n):=rfl;rw [e,xG hb (by omega),zaa];simp only [eqA2,natS];refine⟨hl.symm,rfl,λj o hj ho=> ?_⟩;have:o=0:=by omega
  subst this;rw [hG j hj]; rfl
theorem Yd{O:Nat->Prop}{w0:World}{Q:AV×Heap->Prop}(x y:Nat)(hx:(canon x).length<100000)(hlen:(canon y).length<=(canon x).length)(hq:Q (magS (x+y),[]))(kv:KV)(h:Heap)(hle:LeK 0 f147.ntmps kv h (SPl x y [] 0 0) [.arr 0 1 (natG .u32 [])]) :
  zb prog f147 O 0 w0 [] (λ_ _ _=>False) (RetR zbz 0 Q) (.code (.loop (lps K147 0).1)::(lps K147 0).2) (mk f147.ntmps kv h):=by
 refine zb.loop (ι:=IPl x y) (λs=>SPl x y s.o s.c s.i) (λs=>[.arr s.o.length 1 (natG .u32 s.o)]) (λs=>(canon x).length - s.i) ⟨[],0,0,rfl,aI _,by simp [dig],by omega,by simp [val]⟩ 0 hle ?_ (by kernel_rfl);rintro⟨o,c,i,ho,hle,hd,hc,he⟩;subst ho;have hB:B=1000000000:=rfl;refine zb.n G1.h [1,5,6,21,22,23] (let v8:=natG .u32 o;let v7:=inR .i64 (o.length+1);let v4:=o.length+1;let v1:=Int.toNat o.length;let v6:=Int.tdiv ((↑(List.getD (canon x) v1 0):Int)+c) (1000000000:Int);let v5:=zg 1 [.int .u32 (Int.tmod ((↑(List.getD (canon x) v1 0):Int)+c) (1000000000:Int))];let v3:=Int.tdiv ((↑(List.getD (canon x) v1 0):Int)+c+(↑(List.getD (canon y) v1 0):Int)) (1000000000:Int);let v2:=zg 1 [.int .u32 (Int.tmod ((↑(List.getD (canon x) v1 0):Int)+c+(↑(List.getD (canon y) v1 0):Int)) (1000000000:Int))];.D ((o.length:Int)<((canon x).length:Int)) (.side ((0:Int)<=o.length/\(o.length:Int)<((canon x).length:Int)) (.side (inR .u32 ((↑(List.getD (canon x) v1 0):Int)+c)) (.D ((o.length:Int)<((canon y).length:Int)) (.side ((0:Int)<=o.length/\(o.length:Int)<((canon y).length:Int)) (.side (inR .u32 ((↑(List.getD (canon x) v1 0):Int)+c+(↑(List.getD (canon y) v1 0):Int))) (.side ((1000000000:Int)≠0/\inR .u32 v3) (.side ((1000000000:Int)≠0) (.side (0=0/\o.length<=o.length/\v4 *4<=140737488355328) (.side v7 (.leaf (.back 0 [(1,.sl (canon y).length 1 (natG .u32 (canon y))),(5,.osl 0 1 0 v4),(6,.int .u32 v3),(21,.sl (canon x).length 1 (natG .u32 (canon x))),(22,.i (canon x).length),(23,.i (o.length+1))] [.arr v4 1 (appG o.length v8 (zf v2 0)),.arr 1 1 v2])))))))) (.side ((1000000000:Int)≠0/\inR .u32 v6) (.side ((1000000000:Int)≠0) (.side (0=0/\o.length<=o.length/\v4 *4<=140737488355328) (.side v7 (.leaf (.back 0 [(1,.sl (canon y).length 1 (natG .u32 (canon y))),(5,.osl 0 1 0 v4),(6,.int .u32 v6),(21,.sl (canon x).length 1 (natG .u32 (canon x))),(22,.i (canon x).length),(23,.i (o.length+1))] [.arr v4 1 (appG o.length v8 (zf v5 0)),.arr 1 1 v5]))))))))) (.side (0=0/\o.length<=o.length/\v4 *4<=140737488355328) (.ex (λ(u:List Nat)=>u.length=o.length+1/\0+(o.length+1)<=o.length+1/\o.length+1<4611686018427387904/\eqG v4 1 (appG o.length v8 (zf (zg 1 [.int .u32 c]) 0)) (natG .u32 u)/\dig (List.take v4 (List.drop 0 u))) λn=>.all (λ(x:Nat)=>x=val (List.take v4 (List.drop 0 n))) λn=>.R [.osl 0 1 0 (canon n).length] [.arr v4 1 (appG o.length v8 (zf (zg 1 [.int .u32 c]) 0)),.arr 1 1 (zg 1 [.int .u32 c])]))) ?_;simp only [Tree.holds,zd,inR,lo,hi,aD,yu];have ha:=zC (zi x) o.length;have hb:=zC (zi y) o.length
 have hnext:∀ d c':Nat,d<B->c'<=1->o.length<(canon x).length->d+B*c'=(canon x).getD o.length 0+(canon y).getD o.length 0+c ->
   ∃ s:IPl x y,s.o=o++[d]/\s.c=c'/\s.i=o.length+1:=λd c' h1 h2 h3 h4=>
  ⟨⟨o++[d],c',o.length+1,by simp,h3,qj.2 ⟨hd,by simp [dig,h1]⟩,h2,by rw [JU]; exact zox (x:=x) (y:=y) he h4⟩,rfl,rfl,rfl⟩
 have hdiv:∀ v:Nat,(v:Int).tdiv 1000000000=((v/B:Nat):Int)/\(v:Int).tmod 1000000000=((v%B:Nat):Int):=λv=>⟨rfl,rfl⟩
 have hq2:∀ v:Nat,v<2*B->v/B<=1/\v%B<B/\v%B+B*(v/B)=v:=λv hv=>⟨by have:=Nat.div_lt_of_lt_mul (show v<B*2 by omega); omega,Nat.mod_lt _ (by omega),Nat.mod_add_div _ _⟩
 refine⟨λhlt=> ?_,λhge=> ?_⟩
 ·have hlt:o.length<(canon x).length:=by have:=aB hlt; omega
  refine⟨by omega,λ_=>⟨by omega,λ_=>⟨λhb2=> ?_,λhb2=> ?_⟩⟩⟩
  ·have hb2:o.length<(canon y).length:=by have:=aB hb2; omega
   refine⟨by omega,λ_=>⟨by omega,λ_=> ?_⟩⟩;obtain⟨v,hv⟩:∃ v,(canon x).getD o.length 0+c+(canon y).getD o.length 0=v:=⟨_,rfl⟩;have ev:(((canon x).getD o.length 0:Nat):Int)+(c:Int)+(((canon y).getD o.length 0:Nat):Int)=(v:Int):=by omega
   rw [ev,(hdiv v).1,(hdiv v).2];obtain⟨g1,g2,g3⟩:=hq2 v (by omega);generalize v/B=q at g1 g3 ⊢;generalize v%B=r at g2 g3 ⊢;refine⟨⟨by decide,by omega,by omega⟩,λ_=>⟨by decide,λ_=>⟨⟨trivial,aJ _,by omega⟩,λ_=>⟨by omega,λ_=> ?_⟩⟩⟩⟩;obtain⟨s,h1,h2,h3⟩:=hnext r q g2 g1 hlt (by omega);rw [aP trivial];exact⟨s,by show _ - s.i<_; omega,by simp [SPl,h1,h2,h3,magS,natS,za],by rw [h1]; exact qO rfl,by kernel_rfl,aI _⟩
  ·have hb2:(canon y).length<=o.length:=by have:=aC hb2; omega
   have hb0:(canon y).getD o.length 0=0:=by simp [List.getD,aZ hb2]
   obtain⟨v,hv⟩:∃ v,(canon x).getD o.length 0+c=v:=⟨_,rfl⟩;have ev:(((canon x).getD o.length 0:Nat):Int)+(c:Int)=(v:Int):=by omega
   rw [ev,(hdiv v).1,(hdiv v).2];obtain⟨g1,g2,g3⟩:=hq2 v (by omega);generalize v/B=q at g1 g3 ⊢;generalize v%B=r at g2 g3 ⊢;refine⟨⟨by decide,by omega,by omega⟩,λ_=>⟨by decide,λ_=>⟨⟨trivial,aJ _,by omega⟩,λ_=>⟨by omega,λ_=> ?_⟩⟩⟩⟩;obtain⟨s,h1,h2,h3⟩:=hnext r q g2 g1 hlt (by omega);rw [aP trivial];exact⟨s,by show _ - s.i<_; omega,by simp [SPl,h1,h2,h3,magS,natS,za],by rw [h1]; exact qO rfl,by kernel_rfl,aI _⟩
 ·have hge:o.length=(canon x).length:=by have:=aC hge; omega
  have hv:val (o++[c])=x+y:=by
   rw [JU];rw [hge,bD,bF hlen,zm,zm] at he;rw [hge]; exact he
  have hdo:dig (o++[c]):=qj.2 ⟨hd,by simp [dig]; omega⟩
  have hpush:eqG (o.length+1) 1 (appG o.length (natG .u32 o) (zf (zg 1 [.int .u32 (c:Int)]) 0)) (natG .u32 (o++[c])):=by
   have:=ux (k:=.u32) (l:=o) (v:=(c:Int)) (by omega);simpa using this
  have hall:List.take (o.length+1) (List.drop 0 (o++[c]))=o++[c]:=by rw [List.drop_zero]; exact bF (by simp)
  refine⟨⟨trivial,aJ _,by omega⟩,λ_=>⟨o++[c],⟨by simp,by omega,by omega,hpush,by rw [hall]; exact hdo⟩,⟨_,rfl⟩,?_⟩⟩;intro X hX;have hX:X=x+y:=by rw [hX,hall,hv]
  subst hX;have htr:qK (o++[c])=canon (x+y):=by rw [zN hdo,hv]
  have htl:(canon (x+y)).length=tlen (o++[c]):=by rw [<- htr,qK,aH]; have:=qe (o++[c]); omega
  rw [htl];have hle2:=qe (o++[c]);have hln:(o++[c]).length=o.length+1:=by simp
  refine RetR.zpk (l:=canon (x+y)) (k:=.u32) hq rfl (by omega) htl λj hj=> ?_
  have:=hpush j 0 (by omega) (by omega);rw [this,<- htr];simp only [natG,qK];rw [uT hj]
theorem zb3:zc prog 147 zbz:=by
 refine Ze (fn:=f147) (c:=f147.body.getD .skip) rfl rfl rfl λx y hp O w0 Q hq=> ?_
 replace hq:=hq _ rfl;obtain⟨hx,hy⟩:=hp;refine zb.n G1.h [1,5,6,21,22,23] (let v1:=lps K147 0;.D (((canon x).length:Int)<((canon y).length:Int)) (.S ((canon y).length+1) (.side ((0:Int)<=0/\(0:Int)<=((canon y).length:Int)+(1:Int)/\inR .i64 ((canon y).length+1)/\Int.toNat ((canon y).length+1)*4<=140737488355328) (.leaf (.loop v1.1 v1.2 [(1,.sl (canon x).length 1 (natG .u32 (canon x))),(5,.osl 0 1 0 0),(6,.int .u32 0),(21,.sl (canon y).length 1 (natG .u32 (canon y))),(22,.i (canon y).length),(23,.i 0)] [.arr 0 1 (kz [.int .u32 0])])))) (.S ((canon x).length+1) (.side ((0:Int)<=0/\(0:Int)<=((canon x).length:Int)+(1:Int)/\inR .i64 ((canon x).length+1)/\Int.toNat ((canon x).length+1)*4<=140737488355328) (.leaf (.loop v1.1 v1.2 [(1,.sl (canon y).length 1 (natG .u32 (canon y))),(5,.osl 0 1 0 0),(6,.int .u32 0),(21,.sl (canon x).length 1 (natG .u32 (canon x))),(22,.i (canon x).length),(23,.i 0)] [.arr 0 1 (kz [.int .u32 0])]))))) ?_;simp only [Tree.holds,zd,inR,lo,hi];refine⟨λh=> ?_,λh=> ?_⟩
 ·have h:(canon x).length<(canon y).length:=by have:=aB h; omega
  refine⟨by omega,λ_=>⟨⟨by omega,by omega,by omega,by omega⟩,λ_=> ?_⟩⟩;rw [Nat.add_comm] at hq;exact Yd y x hy (by omega) hq _ _ ⟨by simp [SPl,magS,natS,za],by simp [eqG],by kernel_rfl,aI _⟩
 ·have h:(canon y).length<=(canon x).length:=by have:=aC h; omega
  refine⟨by omega,λ_=>⟨⟨by omega,by omega,by omega,by omega⟩,λ_=> ?_⟩⟩;exact Yd x y hx h hq _ _ ⟨by simp [SPl,magS,natS,za],by simp [eqG],by kernel_rfl,aI _⟩
def zng:Ctr:=ctrP false (λp:Bool×Nat=>[.bool p.1,magS p.2]) (λ_=>True) (λp r=>r=(p.1&&decide (0<p.2),p.2)) (λ_ (r:Bool×Nat)=>(numV r.1 r.2,[]))
theorem Q3{x:Nat} : decide (0<((canon x).length:Int))=decide (0<x):=by
 by_cases h:x=0
 ·subst h; simp [canon]
 ·have h1:0<x:=bV h;have h2:(canon x).length≠0:=λh2=>h (y5.1 h2)
  rw [aX (by omega),aX h1]
theorem RetR.numV{ctr:Ctr}{Q:AV×Heap->Prop}{h:Heap}{b:Bool}{x:Nat}(hf:ctr.fresh=false)(hq:Q (numV b x,[])):RetR ctr 0 Q [.agg [.bool b,magS x]] h:=by
 refine RetR.out0 hq (λh=>by rw [hf] at h; cases h) ?_;simp [resV,exp2,exp1,exp0,ren0,frz1,eqA2,eqL1,eqA,eqL0,eqA0,Tryz.numV,magS,natS,za]
theorem zky:zc prog 146 zng:=by
 refine ze' f146 λp hp O w0 Q hq=> ?_
 obtain⟨b,x⟩:=p;replace hq:=hq _ rfl;refine zb.n zq [] (let v1:List AV:=[.bool (bif b then decide ((0:Int)<((canon x).length:Int)) else false),.sl (canon x).length 1 (natG .u32 (canon x))];.R [.agg v1] [.box v1]) ?_;simp only [Tree.holds,zd];rw [Q3];have e:(bif b then decide (0<x) else false)=(b&&decide (0<x)):=by cases b<;>rfl
 rw [e];exact RetR.numV rfl hq
def sumC:Ctr:=ctrP false (λp:(Bool×Nat)×(Bool×Nat)=>[numV p.1.1 p.1.2,numV p.2.1 p.2.2]) (λp=>(canon p.1.2).length<100000/\(canon p.2.2).length<100000)
 (λp r=>r=((sumS p.1.1 p.1.2 p.2.1 p.2.2).1&&decide (0<(sumS p.1.1 p.1.2 p.2.1 p.2.2).2),(sumS p.1.1 p.1.2 p.2.1 p.2.2).2)) (λ_ (r:Bool×Nat)=>(numV r.1 r.2,[]))
noncomputable def GSu:=tb zky (tb zb3 (tb yR (tb Jr tz)))
abbrev q30(A:List AV)(x:Bool×Nat):Prop:=eqL A [.bool x.1,.sl (canon x.2).length 1 (natG .u32 (canon x.2))]/\True
abbrev q29(A:List AV)(x:Nat×Nat):Prop:=eqL A [.sl (canon x.1).length 1 (natG .u32 (canon x.1)),.sl (canon x.2).length 1 (natG .u32 (canon x.2))]/\List.length (canon x.1)<100000/\List.length (canon x.2)<100000
theorem zk2:zc prog 119 sumC:=by
 refine ze' f119 λp hp O w0 Q hq=> ?_
 obtain⟨⟨m,x⟩,⟨n,y⟩⟩:=p;obtain⟨h1,h2⟩:=hp;replace hq:=hq _ rfl;simp only at h1 h2 hq;refine zb.n GSu.h [] (let v8:=natG .u32 (canon x);let v7:=natG .u32 (canon y);let v3:List AV:=[.bool n,.sl (canon y).length 1 v7];let v2:List AV:=[.bool m,.sl (canon x).length 1 v8];let v1:=[AV.sl (canon x).length 1 v8,AV.sl (canon y).length 1 v7];.ite (m == n) (.ex (q29 v1) λn_1=>.all (λ(d:Nat)=>d=n_1.1+n_1.2) λn_2=>.ex (q30 [.bool m,.sl (canon n_2).length 1 (natG .u32 (canon n_2))]) λn_3=>.all (λ(r:Bool×Nat)=>r=(n_3.1&&decide (0<n_3.2),n_3.2)) λn_4=>let v4:List AV:=[.bool n_4.1,.sl (canon n_4.2).length 1 (natG .u32 (canon n_4.2))];.R [.agg v4] [.box v2,.box v3,.box v4]) (.ex (q11 v1) λn_1=>.all (λ(r:Int)=>r=cmp3 n_1.1 n_1.2) λn_2=>.D ((0:Int)<=n_2) (.ex (q12 v1) λn_3=>.all (λ(d:Nat)=>d=n_3.1 - n_3.2) λn_4=>.ex (q30 [.bool m,.sl (canon n_4).length 1 (natG .u32 (canon n_4))]) λn_5=>.all (λ(r:Bool×Nat)=>r=(n_5.1&&decide (0<n_5.2),n_5.2)) λn_6=>let v5:List AV:=[.bool n_6.1,.sl (canon n_6.2).length 1 (natG .u32 (canon n_6.2))];.R [.agg v5] [.box v2,.box v3,.box v5]) (.ex (q12 [.sl (canon y).length 1 v7,.sl (canon x).length 1 v8]) λn_3=>.all (λ(d:Nat)=>d=n_3.1 - n_3.2) λn_4=>.ex (q30 [.bool n,.sl (canon n_4).length 1 (natG .u32 (canon n_4))]) λn_5=>.all (λ(r:Bool×Nat)=>r=(n_5.1&&decide (0<n_5.2),n_5.2)) λn_6=>let v6:List AV:=[.bool n_6.1,.sl (canon n_6.2).length 1 (natG .u32 (canon n_6.2))];.R [.agg v6] [.box v2,.box v3,.box v6]))) ?_;simp only [q11,q12,q29,q30,Tree.holds,zd];have eL:∀ a b:Nat,eqL [.sl (canon a).length 1 (natG .u32 (canon a)),.sl (canon b).length 1 (natG .u32 (canon b))] [.sl (canon a).length 1 (natG .u32 (canon a)),.sl (canon b).length 1 (natG .u32 (canon b))]:=λa b=>⟨⟨rfl,rfl,za _ _ _⟩,⟨rfl,rfl,za _ _ _⟩,trivial⟩
 have eK:∀ (b:Bool) (a:Nat),eqL [.bool b,.sl (canon a).length 1 (natG .u32 (canon a))] [.bool b,.sl (canon a).length 1 (natG .u32 (canon a))]:=λb a=>⟨rfl,⟨rfl,rfl,za _ _ _⟩,trivial⟩
 have hcm:∀ v,v=cmp3 x y->(0<=v↔y<=x):=by
  rintro v rfl;unfold cmp3;split
  ·exact⟨λh=>by omega,λh=>by omega⟩
  ·split
   ·exact⟨λh=>by omega,λh=>by omega⟩
   ·exact⟨λh=>by omega,λh=>by omega⟩
 refine⟨λh=> ?_,λh=>⟨(x,y),⟨eL x y,by show(canon x).length<_; omega,by show(canon y).length<_; omega⟩,⟨_,rfl⟩,?_⟩⟩
 ·have h:m=n:=by simpa using h
  refine⟨(x,y),⟨eL x y,h1,h2⟩,⟨_,rfl⟩,?_⟩;rintro _ rfl;refine⟨(m,x+y),⟨eK m _,trivial⟩,⟨_,rfl⟩,?_⟩;rintro _ rfl;have e:sumS m x n y=(m,x+y):=aP h;rw [e] at hq;exact RetR.numV rfl hq
 ·have h:¬ m=n:=by simpa using h
  intro v hv;have hv:=hcm v hv;refine⟨λg=> ?_,λg=> ?_⟩
  ·have g:y<=x:=hv.1 (aB g);refine⟨(x,y),⟨eL x y,by show(canon x).length<_; omega,g⟩,⟨_,rfl⟩,?_⟩;rintro _ rfl;refine⟨(m,x - y),⟨eK m _,trivial⟩,⟨_,rfl⟩,?_⟩;rintro _ rfl;have e:sumS m x n y=(m,x - y):=by rw [sumS,aO h,aP g]
   rw [e] at hq;exact RetR.numV rfl hq
  ·have g:¬ y<=x:=λh3=>aC g (hv.2 h3)
   refine⟨(y,x),⟨eL y x,by show(canon y).length<_; omega,by show x<=y; omega⟩,⟨_,rfl⟩,?_⟩;rintro _ rfl;refine⟨(n,y - x),⟨eK n _,trivial⟩,⟨_,rfl⟩,?_⟩;rintro _ rfl;have e:sumS m x n y=(n,y - x):=by rw [sumS,aO h,aO g]
   rw [e] at hq;exact RetR.numV rfl hq
theorem qa{x n:Nat}(h:x<B^n)(hn:n<100000):(canon x).length<100000:=by have:=z7 h; omega
theorem qN{s:L8}(h:errI s=0):numI s<B^112:=jL.2 (yY h)
theorem zal{x y:Nat}(hx:x<B^112)(hy:y<B^112):x+y<B^113/\x*y<B^224:=by
 constructor
 ·have:B^113=B^112*B:=Nat.pow_succ B 112;have hB:B=1000000000:=rfl;generalize B^112=p at *
  rw [this,hB]; omega
 ·have:B^224=B^112*B^112:=by rw [<- Nat.pow_add]
  rw [this];exact Nat.mul_lt_mul_of_lt_of_lt hx hy
noncomputable def GAd:=tb VG (tb zk2 (tb JA (tb Xm (tb yR tz))))
def addC:Ctr:=ctrP true (λp:L8×L8=>[.str p.1,.str p.2]) (λp=>p.1.length<2^62/\p.2.length<2^62) (λp r=>r=addI p.1 p.2) (λ_ r=>(.tup [.str r.1,.i r.2],[]))
def subC:Ctr:=ctrP true (λp:L8×L8=>[.str p.1,.str p.2]) (λp=>p.1.length<2^62/\p.2.length<2^62) (λp r=>r=subI p.1 p.2) (λ_ r=>(.tup [.str r.1,.i r.2],[]))
def mulC:Ctr:=ctrP true (λp:L8×L8=>[.str p.1,.str p.2]) (λp=>p.1.length<2^62/\p.2.length<2^62) (λp r=>r=mulI p.1 p.2) (λ_ r=>(.tup [.str r.1,.i r.2],[]))
def zmn:Ctr:=ctrP true (λp:L8×L8=>[.str p.1,.str p.2]) (λp=>p.1.length<2^62/\p.2.length<2^62) (λp r=>r=kx p.1 p.2) (λ_ r=>(.tup [.i r.1,.i r.2],[]))
abbrev q31(A:List AV)(x:(Bool×Nat)×Bool×Nat):Prop:=eqL A [.agg [.bool x.1.1,.sl (canon x.1.2).length 1 (natG .u32 (canon x.1.2))],.agg [.bool x.2.1,.sl (canon x.2.2).length 1 (natG .u32 (canon x.2.2))]]/\List.length (canon x.1.2)<100000/\List.length (canon x.2.2)<100000
theorem zos:zc prog 82 addC:=by
 refine ze' f82 λp hp O w0 Q hq=> ?_
 obtain⟨s,t⟩:=p;obtain⟨hs,ht⟩:=hp;replace hq:=hq _ rfl;simp only at hs ht hq;refine zb.n GAd.h [] (.ex (q17 [.str s,.str t]) λn=>.all (λ(r:Int×(Bool×Nat)×Bool×Nat)=>r=if zo n.1 n.2=0 then((0:Int),(negI n.1,numI n.1),negI n.2,numI n.2) else(zo n.1 n.2,(false,0),false,0)) λn=>let v4:=canon n.2.2.2;let v3:=canon n.2.1.2;let v1:List Blk:=[.box [.bool n.2.1.1,.sl v3.length 1 (natG .u32 v3)],.box [.bool n.2.2.1,.sl v4.length 1 (natG .u32 v4)]];.N (n.1=0) (.R [.str #[].toList,.i n.1] v1) (.ex (q31 [.agg [.bool n.2.1.1,.sl v3.length 1 (natG .u32 v3)],.agg [.bool n.2.2.1,.sl v4.length 1 (natG .u32 v4)]]) λn_1=>let v2:=sumS n_1.1.1 n_1.1.2 n_1.2.1 n_1.2.2;.all (λ(r:Bool×Nat)=>r=(Prod.fst v2 &&decide (0<Prod.snd v2),Prod.snd v2)) λn_2=>.ex (q19 [.agg [.bool n_2.1,.sl (canon n_2.2).length 1 (natG .u32 (canon n_2.2))]]) λn_3=>.all (λ(r:L8×Int)=>r=wr n_3.1 n_3.2) λn_4=>.R [.str n_4.1,.i n_4.2] v1)) ?_;simp only [q17,q19,q31,Tree.holds,zd];refine⟨(s,t),⟨by simp,by omega,by omega⟩,⟨_,rfl⟩,?_⟩;rintro _ rfl;simp only;by_cases he:zo s t=0
 ·obtain⟨e1,e2⟩:=zh.1 he;obtain⟨b1,b2⟩:=zal (qN e1) (qN e2);have c1:=qa (qN e1) (by decide);have c2:=qa (qN e2) (by decide);simp only [aP he];refine⟨λh=>(by simp at h),λ_=> ?_⟩;refine⟨((negI s,numI s),(negI t,numI t)),⟨⟨⟨rfl,⟨rfl,rfl,za _ _ _⟩,trivial⟩,⟨rfl,⟨rfl,rfl,za _ _ _⟩,trivial⟩,trivial⟩,c1,c2⟩,⟨_,rfl⟩,?_⟩;rintro _ rfl;refine⟨((sumS (negI s) (numI s) (negI t) (numI t)).1&&decide (0<(sumS (negI s) (numI s) (negI t) (numI t)).2),(sumS (negI s) (numI s) (negI t) (numI t)).2),⟨⟨⟨rfl,⟨rfl,rfl,za _ _ _⟩,trivial⟩,trivial⟩,?_⟩,⟨_,rfl⟩,?_⟩
  ·have:=qa (Nat.lt_of_le_of_lt (zas (negI s) (numI s) (negI t) (numI t)) b1) (by decide);show(canon (sumS (negI s) (numI s) (negI t) (numI t)).2).length<1000000;omega
  rintro _ rfl;rw [zb0];have e:addI s t=wr (sumS (negI s) (numI s) (negI t) (numI t)).1 (sumS (negI s) (numI s) (negI t) (numI t)).2:=aP he;rw [e] at hq;exact RetR.scal hq rfl (by simp [resV])
 ·simp only [aO he];refine⟨λ_=> ?_,λh=>(by simp [he] at h)⟩;have e:addI s t=([],zo s t):=aO he;rw [e] at hq;exact RetR.scal hq rfl (by simp [resV])
theorem znz:zc prog 80 subC:=by
 refine ze' f80 λp hp O w0 Q hq=> ?_
 obtain⟨s,t⟩:=p;obtain⟨hs,ht⟩:=hp;replace hq:=hq _ rfl;simp only at hs ht hq;refine zb.n GAd.h [] (.ex (q17 [.str s,.str t]) λn=>.all (λ(r:Int×(Bool×Nat)×Bool×Nat)=>r=if zo n.1 n.2=0 then((0:Int),(negI n.1,numI n.1),negI n.2,numI n.2) else(zo n.1 n.2,(false,0),false,0)) λn=>let v5:=canon n.2.1.2;let v4:=canon n.2.2.2;let v3:List AV:=[.bool n.2.1.1,.sl v5.length 1 (natG .u32 v5)];let v1:=bif !Prod.fst n.2.2 then decide ((0:Int)<((canon n.2.2.2).length:Int)) else false;.N (n.1=0) (.R [.str #[].toList,.i n.1] [.box v3,.box [.bool n.2.2.1,.sl v4.length 1 (natG .u32 v4)]]) (.ex (q31 [.agg [.bool n.2.1.1,.sl v5.length 1 (natG .u32 v5)],.agg [.bool v1,.sl v4.length 1 (natG .u32 v4)]]) λn_1=>let v2:=sumS n_1.1.1 n_1.1.2 n_1.2.1 n_1.2.2;.all (λ(r:Bool×Nat)=>r=(Prod.fst v2 &&decide (0<Prod.snd v2),Prod.snd v2)) λn_2=>.ex (q19 [.agg [.bool n_2.1,.sl (canon n_2.2).length 1 (natG .u32 (canon n_2.2))]]) λn_3=>.all (λ(r:L8×Int)=>r=wr n_3.1 n_3.2) λn_4=>.R [.str n_4.1,.i n_4.2] [.box v3,.box [.bool v1,.sl v4.length 1 (natG .u32 v4)]])) ?_;simp only [q17,q19,q31,Tree.holds,zd];refine⟨(s,t),⟨by simp,by omega,by omega⟩,⟨_,rfl⟩,?_⟩;rintro _ rfl;simp only;by_cases he:zo s t=0
 ·obtain⟨e1,e2⟩:=zh.1 he;obtain⟨b1,b2⟩:=zal (qN e1) (qN e2);have c1:=qa (qN e1) (by decide);have c2:=qa (qN e2) (by decide);simp only [aP he];refine⟨λh=>(by simp at h),λ_=> ?_⟩;have eN:(bif !negI t then decide (0<((canon (numI t)).length:Int)) else false)=(!negI t&&decide (0<numI t)):=by rw [Q3]; cases negI t<;>rfl
  rw [eN];refine⟨((negI s,numI s),(!negI t&&decide (0<numI t),numI t)),⟨⟨⟨rfl,⟨rfl,rfl,za _ _ _⟩,trivial⟩,⟨rfl,⟨rfl,rfl,za _ _ _⟩,trivial⟩,trivial⟩,c1,c2⟩,⟨_,rfl⟩,?_⟩;rintro _ rfl;simp only [zdi];refine⟨((sumS (negI s) (numI s) (!negI t) (numI t)).1&&decide (0<(sumS (negI s) (numI s) (!negI t) (numI t)).2),(sumS (negI s) (numI s) (!negI t) (numI t)).2),⟨⟨⟨rfl,⟨rfl,rfl,za _ _ _⟩,trivial⟩,trivial⟩,?_⟩,⟨_,rfl⟩,?_⟩
  ·have:=qa (Nat.lt_of_le_of_lt (zas (negI s) (numI s) (!negI t) (numI t)) b1) (by decide);show(canon (sumS (negI s) (numI s) (!negI t) (numI t)).2).length<1000000;omega
  rintro _ rfl;rw [zb0];have e:subI s t=wr (sumS (negI s) (numI s) (!negI t) (numI t)).1 (sumS (negI s) (numI s) (!negI t) (numI t)).2:=aP he;rw [e] at hq;exact RetR.scal hq rfl (by simp [resV])
 ·simp only [aO he];refine⟨λ_=> ?_,λh=>(by simp [he] at h)⟩;have e:subI s t=([],zo s t):=aO he;rw [e] at hq;exact RetR.scal hq rfl (by simp [resV])
theorem zob:zc prog 79 mulC:=by
 refine ze' f79 λp hp O w0 Q hq=> ?_
 obtain⟨s,t⟩:=p;obtain⟨hs,ht⟩:=hp;replace hq:=hq _ rfl;simp only at hs ht hq;refine zb.n GAd.h [] (.ex (q17 [.str s,.str t]) λn=>.all (λ(r:Int×(Bool×Nat)×Bool×Nat)=>r=if zo n.1 n.2=0 then((0:Int),(negI n.1,numI n.1),negI n.2,numI n.2) else(zo n.1 n.2,(false,0),false,0)) λn=>let v5:=canon n.2.1.2;let v4:=canon n.2.2.2;let v3:List AV:=[.bool n.2.2.1,.sl v4.length 1 (natG .u32 v4)];let v2:List AV:=[.bool n.2.1.1,.sl v5.length 1 (natG .u32 v5)];.N (n.1=0) (.R [.str #[].toList,.i n.1] [.box v2,.box v3]) (.ex (q11 [.sl v5.length 1 (natG .u32 v5),.sl v4.length 1 (natG .u32 v4)]) λn_1=>let v1:=List.length (canon n_1.1)+List.length (canon n_1.2);.all (λ(p:Nat)=>p=n_1.1*n_1.2) λn_2=>.ex (q19 [.agg [.bool !Prod.fst n.2.1 == n.2.2.1,.sl (canon n_2).length 1 (zf (natG .u32 (padN v1 n_2)) 0)]]) λn_3=>.all (λ(r:L8×Int)=>r=wr n_3.1 n_3.2) λn_4=>.R [.str n_4.1,.i n_4.2] [.box v2,.box v3,.arr v1 1 (natG .u32 (padN v1 n_2))])) ?_;simp only [q11,q17,q19,Tree.holds,zd];refine⟨(s,t),⟨by simp,by omega,by omega⟩,⟨_,rfl⟩,?_⟩;rintro _ rfl;simp only;by_cases he:zo s t=0
 ·obtain⟨e1,e2⟩:=zh.1 he;obtain⟨b1,b2⟩:=zal (qN e1) (qN e2);have c1:=qa (qN e1) (by decide);have c2:=qa (qN e2) (by decide);simp only [aP he];refine⟨λh=>(by simp at h),λ_=> ?_⟩;refine⟨(numI s,numI t),⟨⟨⟨rfl,rfl,za _ _ _⟩,⟨rfl,rfl,za _ _ _⟩,trivial⟩,by show(canon (numI s)).length<1000000; omega,by show(canon (numI t)).length<1000000; omega⟩,⟨_,rfl⟩,?_⟩;rintro _ rfl;refine⟨(negI s != negI t,numI s*numI t),⟨⟨⟨rfl,⟨rfl,rfl,λj o hj ho=>by simp only [zf,natG,Nat.zero_add,padN,xw hj]⟩,trivial⟩,trivial⟩,?_⟩,⟨_,rfl⟩,?_⟩
  ·have:=qa b2 (by decide);show(canon (numI s*numI t)).length<1000000;omega
  rintro _ rfl;have e:mulI s t=wr (negI s != negI t) (numI s*numI t):=aP he;rw [e] at hq;exact RetR.scal hq rfl (by simp [resV])
 ·simp only [aO he];refine⟨λ_=> ?_,λh=>(by simp [he] at h)⟩;have e:mulI s t=([],zo s t):=aO he;rw [e] at hq;exact RetR.scal hq rfl (by simp [resV])
theorem zm8:zc prog 85 zmn:=by
 refine ze' f85 λp hp O w0 Q hq=> ?_
 obtain⟨s,t⟩:=p;obtain⟨hs,ht⟩:=hp;replace hq:=hq _ rfl;simp only at hs ht hq;refine zb.n GAd.h [] (.ex (q17 [.str s,.str t]) λn=>.all (λ(r:Int×(Bool×Nat)×Bool×Nat)=>r=if zo n.1 n.2=0 then((0:Int),(negI n.1,numI n.1),negI n.2,numI n.2) else(zo n.1 n.2,(false,0),false,0)) λn=>let v3:=canon n.2.2.2;let v2:=canon n.2.1.2;let v1:List Blk:=[.box [.bool n.2.1.1,.sl v2.length 1 (natG .u32 v2)],.box [.bool n.2.2.1,.sl v3.length 1 (natG .u32 v3)]];.N (n.1=0) (.R [.i 0,.i n.1] v1) (.ite (bif n.2.1.1 then !Prod.fst n.2.2 else false) (.R [.i (-1:Int),.i 0] v1) (.ite (bif n.2.2.1 then !Prod.fst n.2.1 else false) (.R [.i 1,.i 0] v1) (.ite n.2.1.1 (.ex (q11 [.sl v3.length 1 (natG .u32 v3),.sl v2.length 1 (natG .u32 v2)]) λn_1=>.all (λ(r:Int)=>r=cmp3 n_1.1 n_1.2) λn_2=>.R [.i n_2,.i 0] v1) (.ex (q11 [.sl v2.length 1 (natG .u32 v2),.sl v3.length 1 (natG .u32 v3)]) λn_1=>.all (λ(r:Int)=>r=cmp3 n_1.1 n_1.2) λn_2=>.R [.i n_2,.i 0] v1))))) ?_;simp only [q11,q17,Tree.holds,zd];refine⟨(s,t),⟨by simp,by omega,by omega⟩,⟨_,rfl⟩,?_⟩;rintro _ rfl;simp only;by_cases he:zo s t=0
 ·obtain⟨e1,e2⟩:=zh.1 he;obtain⟨b1,b2⟩:=zal (qN e1) (qN e2);have c1:=qa (qN e1) (by decide);have c2:=qa (qN e2) (by decide);simp only [aP he];refine⟨λh=>(by simp at h),λ_=> ?_⟩;have e:kx s t=(cmpZ (negI s) (numI s) (negI t) (numI t),0):=aP he;rw [e] at hq;have ec:∀ a b:Nat,cmp3 a b=cmpN a b:=λ_ _=>rfl
  simp only [cmpZ] at hq;have f1:fits (numI s):=by show(canon (numI s)).length<1000000; omega
  have f2:fits (numI t):=by show(canon (numI t)).length<1000000; omega
  refine⟨λh=> ?_,λh1=>⟨λh=> ?_,λh2=>⟨λh=>⟨(numI t,numI s),⟨⟨⟨rfl,rfl,za _ _ _⟩,⟨rfl,rfl,za _ _ _⟩,trivial⟩,f2,f1⟩,⟨_,rfl⟩,?_⟩,λh=>⟨(numI s,numI t),⟨⟨⟨rfl,rfl,za _ _ _⟩,⟨rfl,rfl,za _ _ _⟩,trivial⟩,f1,f2⟩,⟨_,rfl⟩,?_⟩⟩⟩⟩
  ·cases hm:negI s<;>cases hn:negI t<;>rw [hm,hn] at h hq<;>first | (cases h; done) | exact RetR.scal hq rfl (by simp [resV])
  ·cases hm:negI s<;>cases hn:negI t<;>rw [hm,hn] at h h1 hq<;>first | (cases h; done) | (cases h1; done) | exact RetR.scal hq rfl (by simp [resV])
  ·rintro _ rfl;rw [ec];cases hm:negI s<;>cases hn:negI t<;>rw [hm,hn] at h1 h2 hq<;>rw [hm] at h<;>first | (cases h; done) | (cases h1; done) | (cases h2; done) | exact RetR.scal hq rfl (by simp [resV])
  ·rintro _ rfl;rw [ec];cases hm:negI s<;>cases hn:negI t<;>rw [hm,hn] at h1 h2 hq<;>rw [hm] at h<;>first | (cases h; done) | (cases h1; done) | (cases h2; done) | exact RetR.scal hq rfl (by simp [resV])
 ·simp only [aO he];refine⟨λ_=> ?_,λh=>(by simp [he] at h)⟩;have e:kx s t=(0,zo s t):=aO he;rw [e] at hq;exact RetR.scal hq rfl (by simp [resV])
end Go.Proofs.Tryz
end
section
namespace Go.Nov
def WV(neg:Bool)(x y:Nat):L8:=
 if y/Nat.gcd x y=1 then(wr neg (x/Nat.gcd x y)).1 else(wr neg (x/Nat.gcd x y)).1++[47]++(wr false (y/Nat.gcd x y)).1
def qX(n d:L8):L8×Int:=if zo n d≠0 then([],zo n d) else if numI d=0 then([],16) else(WV (negI n != negI d) (numI n) (numI d),0)
def zZ(a b:L8):Int:=if errR a=0 then errR b else errR a
def numR(a:L8):L8:=(cutR a).1
def denR(a:L8):L8:=if(cutR a).2.2 then(cutR a).2.1 else [49]
def frac(z w:L8×Int):L8×Int:=if z.2≠0\/w.2≠0 then([],14) else qX z.1 w.1
def z5(a b:L8):Int:=if zZ a b≠0 then zZ a b else if(mulI (numR a) (denR b)).2≠0\/(mulI (numR b) (denR a)).2≠0 then 14 else 0
def addR(a b:L8):L8×Int:=if z5 a b≠0 then([],z5 a b) else frac (addI (mulI (numR a) (denR b)).1 (mulI (numR b) (denR a)).1) (mulI (denR a) (denR b))
def subR(a b:L8):L8×Int:=if z5 a b≠0 then([],z5 a b) else frac (subI (mulI (numR a) (denR b)).1 (mulI (numR b) (denR a)).1) (mulI (denR a) (denR b))
def mulR(a b:L8):L8×Int:=if zZ a b≠0 then([],zZ a b) else frac (mulI (numR a) (numR b)) (mulI (denR a) (denR b))
def divR(a b:L8):L8×Int:=if zZ a b≠0 then([],zZ a b) else if numR b=[48] then([],16) else frac (mulI (numR a) (denR b)) (mulI (denR a) (numR b))
def cmpR(a b:L8):Int×Int:=if z5 a b≠0 then(0,z5 a b) else kx (mulI (numR a) (denR b)).1 (mulI (numR b) (denR a)).1
end Go.Nov
namespace Go.Nov
def dmQ(s t:L8):Nat:=if negI s=true/\0<numI s%numI t then numI s/numI t+1 else numI s/numI t
def dmM(s t:L8):Nat:=if negI s=true/\0<numI s%numI t then numI t - numI s%numI t else numI s%numI t
def dmI(s t:L8):L8×L8×Int:=
 if zo s t≠0 then([],[],zo s t) else if numI t=0 then([],[],16) else((wr (negI s != negI t) (dmQ s t)).1,(wr false (dmM s t)).1,0)
theorem zkg{s:L8}(h:errI s=0):∃ k,k<=1000/\numI s<10^k:=by
 obtain⟨_,h1,_,h2⟩:=xJ h;exact⟨_,h2,yp h1⟩
def room(x:Nat):Prop:=(dec x).length<=1000
theorem room_le{x y:Nat}(h:x<=y)(hy:room y):room x:=by
 rcases aR (dec y).length (dec x).length with h1 | h1
 ·have:=Ten.qf h1;omega
 ·exact bP h1 hy
theorem qZ{s:L8}(h:errI s=0):room (numI s):=by
 obtain⟨k,h1,h2⟩:=zkg h;exact bP (kY h2) h1
theorem v7{neg:Bool}{x:Nat}(h:room x):(wr neg x).2=0:=by
 unfold wr;split
 ·rfl
 ·rw [aO (by have:(dec x).length<=1000:=h; omega)]
theorem X2{s t:L8}(hs:errI s=0)(ht:numI t≠0):room (dmQ s t):=by
 have h:=qZ hs;unfold dmQ;split
 ·rename_i hc;by_cases h1:numI t=1
  ·rw [h1,Nat.mod_one] at hc; omega
  ·refine room_le ?_ h;have h2:numI s/numI t<=numI s/2:=Nat.div_le_div_left (by omega) (by omega);have h3:numI s≠0:=λh0=>by rw [h0,Nat.zero_mod] at hc; omega
   by_cases h4:numI s=1
   ·have:numI s/numI t=0:=Nat.div_eq_of_lt (by omega);omega
   ·omega
 ·exact room_le (Nat.div_le_self _ _) h
theorem Ye{s t:L8}(ht:errI t=0)(h0:numI t≠0):room (dmM s t):=by
 have h:=qZ ht;have hm:=Nat.mod_lt (numI s) (bV h0);unfold dmM;split
 ·exact room_le (Nat.sub_le _ _) h
 ·exact room_le (by omega) h
end Go.Nov
namespace Go.Nov
theorem kZ:wr false 1=([49],0):=by
 have h:dec 1=[1]:=by
  show Ten.canon 1=[1];rw [Ten.jc (by decide)];exact congrArg (1 :: ·) Ten.zO
 simp [wr,h,txt,sgn,byt]
theorem J8{x:Nat}(h:room x):(wr false x).1=[49]↔x=1:=by
 constructor
 ·intro e;have:=(ZV (v7 (neg:=false) h)).2.1;rw [e] at this;exact this.symm
 ·rintro rfl;rw [kZ]
theorem zh9{x:Nat}(h0:x≠0)(h:room x):[45]++(wr false x).1=(wr true x).1:=by
 unfold wr;rw [aO h0,aO h0,aO (by have:(dec x).length<=1000:=h; omega),aO (by have:(dec x).length<=1000:=h; omega)];rfl
theorem wS{t:L8}(h:errI t=0):t=[48]↔numI t=0:=by
 constructor
 ·rintro rfl; rfl
 ·intro h0;obtain⟨neg,b,h1,h2,h3,h4,h5,h6⟩:=Qw h;have hb:numD b=0:=by simpa [numI,h2] using h0
  cases b with
  | nil=>exact absurd rfl h5
  | cons c r=>
   have hc:=h4 c (by simp)
   have e:numD (c::r)=(c.toNat - 48)*10^r.length+numD r:=by
    have:=kn [c] r;simp only [List.singleton_append] at this;rw [this];simp [numD]
   rw [e] at hb
   have hc0:c.toNat=48:=by
    rcases bC (c.toNat - 48) with h7 | h7
    ·omega
    ·have:=Nat.mul_pos h7 (Nat.pow_pos (n:=r.length) (show 0<10 by decide));omega
   have hc1:c=48:=UInt8.toNat_inj.1 (by rw [hc0]; rfl);subst hc1
   have hr:r=[]:=by
    cases r with
    | nil=>rfl
    | cons d r=>
     have:=vS (neg:=neg) (b:=48::d::r) rfl (by simp);rw [this] at h3; cases h3
   subst hr;cases neg with
   | true=>cases h3
   | false=>simpa [sgn] using h1
theorem u7{s:L8}{b:Bool}{g:Nat}(hs:errI s=0)(h0:g≠0)(hg:room g)(hd:g ∣ numI s):dmI s (wr b g).1=((wr (negI s != b) (numI s/g)).1,[48],0):=by
 obtain⟨h1,h2,h3⟩:=ZV (v7 (neg:=b) hg);have hb:negI (wr b g).1=b:=by rw [h3]; simp [h0]
 have he:zo s (wr b g).1=0:=zh.2 ⟨hs,h1⟩;have hm:numI s%g=0:=Nat.mod_eq_zero_of_dvd hd;unfold dmI;rw [aO (by rw [he]; decide),h2,aO h0,hb]
 have hq:dmQ s (wr b g).1=numI s/g:=by
  unfold dmQ;rw [h2,hm,aO (by omega)]
 have hr:dmM s (wr b g).1=0:=by
  unfold dmM;rw [h2,hm,aO (by omega)]
 rw [hq,hr];rfl
theorem J6{s t:L8}(ht:errI t=0)(h0:numI t≠0):Nat.gcd (numI s) (numI t)≠0/\room (Nat.gcd (numI s) (numI t)):=by
 have hp:=bV h0;refine⟨λh=> ?_,room_le (Nat.le_of_dvd hp (Nat.gcd_dvd_right _ _)) (qZ ht)⟩;have:=Nat.eq_zero_of_gcd_eq_zero_right h;exact h0 this
end Go.Nov
namespace Go.Nov
theorem zgg:errI [49]=0:=rfl
theorem qH{a:L8}(h:errR a=0):errI (numR a)=0/\errI (denR a)=0/\negI (denR a)=false/\numI (denR a)≠0:=by
 unfold errR at h;unfold numR denR;cases hc:(cutR a).2.2 with
 | true=>
  rw [hc] at h;simp only [if_true] at h ⊢;split at h
  ·cases h
  ·rename_i h1;simp only [not_or] at h1;split at h
   ·cases h
   ·rename_i h2;simp only [not_or,Classical.not_not] at h2;refine⟨h2.1,h2.2,by simpa using h1.2.2.1,λh0=> ?_⟩;exact h1.2.2.2.1 ((wS h2.2).2 h0)
 | false=>
  rw [hc] at h;simp only [Bool.false_eq_true,if_false] at h ⊢
  have:(cutR a).1=a:=by
   unfold cutR at hc ⊢;split at hc
   ·cases hc
   ·rename_i hn; rw [aO hn]
  rw [this];exact⟨h,zgg,rfl,by decide⟩
theorem kQ(a:L8):(numR a).length<=a.length:=(Qx a).1
theorem wV(a:L8):(denR a).length<=a.length+1:=by
 unfold denR;split
 ·exact bP (Qx a).2 (Nat.le_succ _)
 ·simp
theorem ke{s t:L8}(h:zo s t=0):(mulI s t).2=0/\errI (mulI s t).1=0\/mulI s t=([],14):=by
 unfold mulI;rw [aP h];exact(Kx _ _).imp (λh=>⟨h,(ZV h).1⟩) id
theorem zfl{s t:L8}(h:zo s t=0):(addI s t).2=0/\errI (addI s t).1=0\/addI s t=([],14):=by
 unfold addI;rw [aP h];exact(Kx _ _).imp (λh=>⟨h,(ZV h).1⟩) id
theorem zke{s t:L8}(h:zo s t=0):(subI s t).2=0/\errI (subI s t).1=0\/subI s t=([],14):=by
 unfold subI;rw [aP h];exact(Kx _ _).imp (λh=>⟨h,(ZV h).1⟩) id
end Go.Nov
namespace Go.Nov
def stp(e:Int)(f:L8->L8->L8×Int)(x y:L8):L8×Int:=if e≠0 then([],e) else f x y
theorem zm3{e:Int}{f:L8->L8->L8×Int}{x y:L8}(h:(f x y).1.length<=1001):(stp e f x y).1.length<=1001:=by
 unfold stp;split
 ·simp
 ·exact h
theorem qo{e:Int}(h:e≠0)(f:L8->L8->L8×Int)(x y:L8):stp e f x y=([],e):=aP h
theorem wJ(f:L8->L8->L8×Int)(x y:L8):stp 0 f x y=f x y:=aO (by simp)
def J0(f:L8->L8->L8×Int)(a b:L8):L8×Int:=
 if z5 a b≠0 then([],z5 a b) else frac (f (mulI (numR a) (denR b)).1 (mulI (numR b) (denR a)).1) (mulI (denR a) (denR b))
section
variable {a b n m d c:L8} {e:Int} (hp:(e≠0/\zZ a b=e)\/(e=0/\errR a=0/\errR b=0/\n=numR a/\m=numR b/\d=denR a/\c=denR b))
include hp
theorem ZZ{f:L8->L8->L8×Int}(hf:∀ {s t:L8},zo s t=0->(f s t).2=0/\errI (f s t).1=0\/f s t=([],14)){r1 r2 r3 r4 r5:L8×Int}
  (h1:r1=stp e mulI n c) (h2:r2=stp r1.2 mulI m d) (h3:r3=stp r2.2 f r1.1 r2.1) (h4:r4=stp r3.2 mulI d c) (h5:r5=stp r4.2 qX r3.1 r4.1):r5=J0 f a b:=by
 rcases hp with ⟨he,h2e⟩ | ⟨rfl,ha,hb,rfl,rfl,rfl,rfl⟩
 ·have hc:z5 a b=e:=by unfold z5; rw [aP (by rw [h2e]; exact he)]; exact h2e
  unfold J0;rw [hc,aP he];rw [qo he] at h1;subst h1;rw [qo he] at h2;subst h2;rw [qo he] at h3;subst h3;rw [qo he] at h4;subst h4;rw [h5,qo he]
 ·obtain⟨a1,a2,_⟩:=qH ha;obtain⟨b1,b2,_⟩:=qH hb;have he2:zZ a b=0:=by unfold zZ; rw [aP ha]; exact hb
  have e14:(14:Int)≠0:=by decide
  rw [wJ] at h1;have hc:z5 a b=if(mulI (numR a) (denR b)).2≠0\/(mulI (numR b) (denR a)).2≠0 then 14 else 0:=by unfold z5; rw [aO (by rw [he2]; simp)]
  rcases ke (zh.2 ⟨a1,b2⟩) with ⟨g1,k1⟩ | g1
  ·rw [<- h1] at g1 k1;rw [g1,wJ] at h2;rcases ke (zh.2 ⟨b1,a2⟩) with ⟨g2,k2⟩ | g2
   ·rw [<- h2] at g2 k2;rw [g2,wJ] at h3;have hc0:z5 a b=0:=by rw [hc,aO]; rw [<- h1,<- h2,g1,g2]; simp
    unfold J0;rw [hc0,aO (by simp),<- h1,<- h2,<- h3];rcases hf (zh.2 ⟨k1,k2⟩) with ⟨g3,k3⟩ | g3
    ·rw [<- h3] at g3 k3;rw [g3,wJ] at h4;unfold frac;rw [<- h4,h5];rcases ke (zh.2 ⟨a2,b2⟩) with ⟨g4,k4⟩ | g4
     ·rw [<- h4] at g4;rw [g3,g4,aO (by simp),wJ]
     ·rw [<- h4] at g4;rw [g4,aP (by simp),qo e14]
    ·rw [<- h3] at g3;have q4:r4=([],14):=by rw [h4,g3]; exact qo e14 _ _ _
     unfold frac;rw [aP (by rw [g3]; simp),h5,q4,qo e14]
   ·rw [<- h2] at g2;have hc0:z5 a b=14:=by rw [hc,aP]; rw [<- h2,g2]; simp
    unfold J0;rw [hc0,aP e14];have q3:r3=([],14):=by rw [h3,g2]; exact qo e14 _ _ _
    have q4:r4=([],14):=by rw [h4,q3]; exact qo e14 _ _ _
    rw [h5,q4,qo e14]
  ·rw [<- h1] at g1;have hc0:z5 a b=14:=by rw [hc,aP]; rw [<- h1,g1]; simp
   unfold J0;rw [hc0,aP e14];have q2:r2=([],14):=by rw [h2,g1]; exact qo e14 _ _ _
   have q3:r3=([],14):=by rw [h3,q2]; exact qo e14 _ _ _
   have q4:r4=([],14):=by rw [h4,q3]; exact qo e14 _ _ _
   rw [h5,q4,qo e14]
theorem zep{x y z w:L8}{r1 r2 r3:L8×Int}(h1:r1=stp e mulI x y)(h2:r2=stp r1.2 mulI z w)(h3:r3=stp r2.2 qX r1.1 r2.1)
  (hv:errR a=0->errR b=0->zo x y=0/\zo z w=0):r3=if zZ a b≠0 then([],zZ a b) else frac (mulI x y) (mulI z w):=by
 rcases hp with ⟨he,h2e⟩ | ⟨rfl,ha,hb,_⟩
 ·rw [h2e,aP he];rw [qo he] at h1;subst h1;rw [qo he] at h2;subst h2;rw [h3,qo he]
 ·obtain⟨v1,v2⟩:=hv ha hb;have he2:zZ a b=0:=by unfold zZ; rw [aP ha]; exact hb
  have e14:(14:Int)≠0:=by decide
  rw [he2,aO (by simp)];rw [wJ] at h1;unfold frac;rcases ke v1 with ⟨g1,_⟩ | g1
  ·rw [<- h1] at g1 ⊢;rw [g1,wJ] at h2;rcases ke v2 with ⟨g2,_⟩ | g2
   ·rw [<- h2] at g2 ⊢;rw [g1,g2,aO (by simp),h3,g2,wJ]
   ·rw [<- h2] at g2 ⊢;rw [g2,aP (by simp),h3,g2,qo e14]
  ·rw [<- h1] at g1 ⊢;have q2:r2=([],14):=by rw [h2,g1]; exact qo e14 _ _ _
   rw [g1,aP (by simp),h3,q2,qo e14]
theorem zdv{r1 r2:L8×Int}(h1:r1=stp e mulI n c)(h2:r2=stp r1.2 mulI m d):(if r2.2≠0 then(0,r2.2) else kx r1.1 r2.1)=cmpR a b:=by
 unfold cmpR;rcases hp with ⟨he,h2e⟩ | ⟨rfl,ha,hb,rfl,rfl,rfl,rfl⟩
 ·have hc:z5 a b=e:=by unfold z5; rw [aP (by rw [h2e]; exact he)]; exact h2e
  rw [qo he] at h1;subst h1;rw [qo he] at h2;subst h2;rw [hc,aP he,aP he]
 ·obtain⟨a1,a2,_⟩:=qH ha;obtain⟨b1,b2,_⟩:=qH hb;have he2:zZ a b=0:=by unfold zZ; rw [aP ha]; exact hb
  have e14:(14:Int)≠0:=by decide
  have hc:z5 a b=if(mulI (numR a) (denR b)).2≠0\/(mulI (numR b) (denR a)).2≠0 then 14 else 0:=by unfold z5; rw [aO (by rw [he2]; simp)]
  rw [wJ] at h1;rcases ke (zh.2 ⟨a1,b2⟩) with ⟨g1,k1⟩ | g1
  ·rw [<- h1] at g1;rw [g1,wJ] at h2;rcases ke (zh.2 ⟨b1,a2⟩) with ⟨g2,k2⟩ | g2
   ·rw [<- h2] at g2;have hc0:z5 a b=0:=by rw [hc,aO]; rw [<- h1,<- h2,g1,g2]; simp
    rw [hc0,aO (by rw [g2]; simp),aO (by simp),<- h1,<- h2]
   ·rw [<- h2] at g2;have hc0:z5 a b=14:=by rw [hc,aP]; rw [<- h2,g2]; simp
    rw [hc0,g2,aP e14,aP e14]
  ·rw [<- h1] at g1;have hc0:z5 a b=14:=by rw [hc,aP]; rw [<- h1,g1]; simp
   have q2:r2=([],14):=by rw [h2,g1]; exact qo e14 _ _ _
   rw [hc0,q2,aP e14,aP e14]
end
end Go.Nov
end
section
set_option maxRecDepth 100000
open Go Go.Sx Go.Proofs Go.Nov
namespace Go.Proofs.Tryz
attribute [local simp] eqKV eqA eqA0 eqH eqB eqL eqL0
def dmC:Ctr:=ctrP true (λp:L8×L8=>[.str p.1,.str p.2]) (λp=>p.1.length<2^62/\p.2.length<2^62) (λp r=>r=dmI p.1 p.2) (λ_ r=>(.tup [.str r.1,.str r.2.1,.i r.2.2],[]))
noncomputable def GDm:=tb VG (tb WM (tb zb3 (tb Jr (tb JA tz))))
theorem zdz:zc prog 148 dmC:=by
 refine ze' f148 λp hp O w0 Q hq=> ?_
 obtain⟨s,t⟩:=p;obtain⟨hs,ht⟩:=hp;replace hq:=hq _ rfl;simp only at hs ht hq;refine zb.n GDm.h [] (.ex (q17 [.str s,.str t]) λn=>.all (λ(r:Int×(Bool×Nat)×Bool×Nat)=>r=if zo n.1 n.2=0 then((0:Int),(negI n.1,numI n.1),negI n.2,numI n.2) else(zo n.1 n.2,(false,0),false,0)) λn=>let v5:=canon n.2.1.2;let v4:List AV:=[.bool n.2.1.1,.sl v5.length 1 (natG .u32 v5)];let v3:=canon n.2.2.2;let v6:List AV:=[.bool n.2.2.1,.sl v3.length 1 (natG .u32 v3)];let v2:List Blk:=[.box v4,.box v6,.arr 1 1 (zg 1 [.int .u32 1])];let v1:List Blk:=[.box v4,.box v6];.N (n.1=0) (.R [.str #[].toList,.str #[].toList,.i n.1] v1) (.D (((canon n.2.2.2).length:Int)=0) (.R [.str #[].toList,.str #[].toList,.i 16] v1) (.ex (q18 [.sl v5.length 1 (natG .u32 v5),.sl v3.length 1 (natG .u32 v3)]) λn_1=>.all (λ(r:Nat×Nat)=>r=(n_1.1/n_1.2,n_1.1%n_1.2)) λn_2=>let v8:=canon n_2.2;let v7:=canon n_2.1;.ite (bif n.2.1.1 then decide ((0:Int)<((canon n_2.2).length:Int)) else false) (.ex (q29 [.sl v7.length 1 (natG .u32 v7),.sl 1 1 (zf (zg 1 [.int .u32 1]) 0)]) λn_3=>.all (λ(d:Nat)=>d=n_3.1+n_3.2) λn_4=>.ex (q12 [.sl v3.length 1 (natG .u32 v3),.sl v8.length 1 (natG .u32 v8)]) λn_5=>.all (λ(d:Nat)=>d=n_5.1 - n_5.2) λn_6=>.ex (q19 [.agg [.bool !Prod.fst n.2.1 == n.2.2.1,.sl (canon n_4).length 1 (natG .u32 (canon n_4))]]) λn_7=>.all (λ(r:L8×Int)=>r=wr n_7.1 n_7.2) λn_8=>.N (n_8.2=0) (.R [.str #[].toList,.str #[].toList,.i n_8.2] v2) (.ex (q19 [.agg [.bool false,.sl (canon n_6).length 1 (natG .u32 (canon n_6))]]) λn_9=>.all (λ(r:L8×Int)=>r=wr n_9.1 n_9.2) λn_10=>.R [.str n_8.1,.str n_10.1,.i 0] v2)) (.ex (q19 [.agg [.bool !Prod.fst n.2.1 == n.2.2.1,.sl v7.length 1 (natG .u32 v7)]]) λn_3=>.all (λ(r:L8×Int)=>r=wr n_3.1 n_3.2) λn_4=>.N (n_4.2=0) (.R [.str #[].toList,.str #[].toList,.i n_4.2] v1) (.ex (q19 [.agg [.bool false,.sl v8.length 1 (natG .u32 v8)]]) λn_5=>.all (λ(r:L8×Int)=>r=wr n_5.1 n_5.2) λn_6=>.R [.str n_4.1,.str n_6.1,.i 0] v1))))) ?_;simp only [q12,q17,q18,q19,q29,Tree.holds,zd];refine⟨(s,t),⟨by simp,by omega,by omega⟩,⟨_,rfl⟩,?_⟩;rintro _ rfl;simp only;by_cases he:zo s t=0
 ·obtain⟨e1,e2⟩:=zh.1 he;have c1:=qa (qN e1) (by decide);have c2:=qa (qN e2) (by decide);simp only [aP he];refine⟨λh=>(by simp at h),λ_=> ?_⟩;refine⟨λh0=> ?_,λh0=> ?_⟩
  ·have h0:numI t=0:=y5.1 (by have:=aB h0; omega);have e:dmI s t=([],[],16):=by rw [dmI,aO (by rw [he]; decide),aP h0]
   rw [e] at hq;exact RetR.scal hq rfl (by simp [resV])
  have h0:numI t≠0:=λh=>aC h0 (by rw [y5.2 h]; rfl)
  have e:dmI s t=((wr (negI s != negI t) (dmQ s t)).1,(wr false (dmM s t)).1,0):=by rw [dmI,aO (by rw [he]; decide),aO h0]
  rw [e] at hq;have rq:=X2 e1 h0;have rm:=Ye (s:=s) e2 h0;have eL:∀ a b:Nat,eqL [.sl (canon a).length 1 (natG .u32 (canon a)),.sl (canon b).length 1 (natG .u32 (canon b))] [.sl (canon a).length 1 (natG .u32 (canon a)),.sl (canon b).length 1 (natG .u32 (canon b))]:=λa b=>⟨⟨rfl,rfl,za _ _ _⟩,⟨rfl,rfl,za _ _ _⟩,trivial⟩
  have eV:∀ (b:Bool) (a:Nat),eqL [.agg [.bool b,.sl (canon a).length 1 (natG .u32 (canon a))]] [.agg [.bool b,.sl (canon a).length 1 (natG .u32 (canon a))]]:=λb a=>⟨⟨rfl,⟨rfl,rfl,za _ _ _⟩,trivial⟩,trivial⟩
  have big:∀ {a:Nat},room a->(canon a).length<1000000:=λ{a} h=>by
   obtain⟨h3,h4,_⟩:=ZV (v7 (neg:=false) h);have:=qa (qN h3) (by decide);rw [h4] at this; omega
  refine⟨(numI s,numI t),⟨eL _ _,c1,c2,bV h0⟩,⟨_,rfl⟩,?_⟩;rintro _ rfl;simp only;rw [Q3];have hmod:=Nat.mod_lt (numI s) (bV h0);refine⟨λhc=> ?_,λhc=> ?_⟩
  ·have hc:negI s=true/\0<numI s%numI t:=by
    cases hn:negI s with
    | false=>rw [hn] at hc; cases hc
    | true=>rw [hn] at hc; exact⟨rfl,aB hc⟩
   have eQ:dmQ s t=numI s/numI t+1:=aP hc;have eM:dmM s t=numI t - numI s%numI t:=aP hc;rw [eQ,eM] at hq;rw [eQ] at rq;rw [eM] at rm
   have hone:canon 1=[1]:=by
    rw [jc (by decide)];exact congrArg (1 :: ·) zO
   have rdiv:=room_le (Nat.div_le_self (numI s) (numI t)) (qZ e1)
   have hdl:(canon (numI s/numI t)).length<100000:=by
    have:=qa (Nat.lt_of_le_of_lt (Nat.div_le_self (numI s) (numI t)) (qN e1)) (by decide);exact this
   refine⟨(numI s/numI t,1),⟨⟨⟨rfl,rfl,za _ _ _⟩,⟨by rw [hone]; rfl,rfl,?_⟩,trivial⟩,hdl,by show(canon 1).length<100000; rw [hone]; decide⟩,⟨_,rfl⟩,?_⟩
   ·intro j o hj ho;have:j=0:=by omega
    subst this;have:o=0:=by omega
    subst this;show AV.int .u32 1 = .int .u32 (((canon 1).getD 0 0:Nat):Int);rw [hone]; rfl
   rintro _ rfl;refine⟨(numI t,numI s%numI t),⟨eL _ _,by show(canon (numI t)).length<1000000; omega,by show numI s%numI t<=numI t; omega⟩,⟨_,rfl⟩,?_⟩;rintro _ rfl;refine⟨(negI s != negI t,numI s/numI t+1),⟨eV _ _,big rq⟩,⟨_,rfl⟩,?_⟩;rintro _ rfl;have hz:=v7 (neg:=(negI s != negI t)) rq;refine⟨λh=>by simp [hz] at h,λ_=>⟨(false,numI t - numI s%numI t),⟨eV _ _,big rm⟩,⟨_,rfl⟩,?_⟩⟩;rintro _ rfl;exact RetR.scal hq rfl (by simp [resV])
  ·have hc:¬ (negI s=true/\0<numI s%numI t):=by
    rintro⟨g1,g2⟩;rw [g1,aX g2] at hc;cases hc
   have eQ:dmQ s t=numI s/numI t:=aO hc;have eM:dmM s t=numI s%numI t:=aO hc;rw [eQ,eM] at hq;rw [eQ] at rq;rw [eM] at rm;refine⟨(negI s != negI t,numI s/numI t),⟨eV _ _,big rq⟩,⟨_,rfl⟩,?_⟩;rintro _ rfl;have hz:=v7 (neg:=(negI s != negI t)) rq;refine⟨λh=>by simp [hz] at h,λ_=>⟨(false,numI s%numI t),⟨eV _ _,big rm⟩,⟨_,rfl⟩,?_⟩⟩;rintro _ rfl;exact RetR.scal hq rfl (by simp [resV])
 ·simp only [aO he];refine⟨λ_=> ?_,λh=>(by simp [he] at h)⟩;have e:dmI s t=([],[],zo s t):=aP he;rw [e] at hq;exact RetR.scal hq rfl (by simp [resV])
def zfr:Ctr:=ctrP true (λs:L8=>[.str s]) (λs=>s.length<2^62) (λs r=>r=if errR s=0 then(numR s,denR s,0) else([],[],errR s)) (λ_ (r:L8×L8×Int)=>(.tup [.str r.1,.str r.2.1,.i r.2.2],[]))
noncomputable def GPa:=tb Z8 (tb Xl tz)
theorem zig:zc prog 116 zfr:=by
 refine ze' f116 λs hs O w0 Q hq=> ?_
 replace hq:=hq _ rfl;refine zb.n GPa.h [] (.ex (q15 [.str s]) λn=>.all (λ(r:Int)=>r=errR n) λn=>.N (n=0) (.R [.str #[].toList,.str #[].toList,.i n] []) (.ex (q15 [.str s]) λn=>.all (λ(r:L8×L8×Bool)=>r=cutR n) λn=>.ite (!Prod.snd n.2) (.R [.str n.1,.str #[(49:UInt8)].toList,.i 0] []) (.R [.str n.1,.str n.2.1,.i 0] []))) ?_;simp only [q15,Tree.holds,zd];refine⟨s,⟨by simp,hs⟩,⟨_,rfl⟩,?_⟩;rintro _ rfl;refine⟨λh=> ?_,λh=>⟨s,⟨by simp,hs⟩,⟨_,rfl⟩,?_⟩⟩
 ·have h:errR s≠0:=by simpa using h
  rw [aO h] at hq;exact RetR.scal hq rfl (by simp [resV])
 ·have h:errR s=0:=by simpa using h
  rw [aP h] at hq;rintro _ rfl;refine⟨λg=> ?_,λg=> ?_⟩
  ·have e:denR s=[49]:=by unfold denR; rw [aO (by simpa using g)]
   rw [e] at hq;exact RetR.scal hq rfl (by simp [resV,numR])
  ·have e:denR s=(cutR s).2.1:=by unfold denR; rw [aP (by simpa using g)]
   rw [e] at hq;exact RetR.scal hq rfl (by simp [resV,numR])
def zc2:Ctr:=ctrP true (λp:L8×L8=>[.str p.1,.str p.2]) (λp=>p.1.length<2^62/\p.2.length<2^62) (λp r=>r=qX p.1 p.2) (λ_ r=>(.tup [.str r.1,.i r.2],[]))
noncomputable def GMk:=tb zhx (tb zdz tz)
theorem zkp:zc prog 120 zc2:=by
 refine ze' f120 λp hp O w0 Q hq=> ?_
 obtain⟨s,t⟩:=p;obtain⟨hs,ht⟩:=hp;replace hq:=hq _ rfl;simp only at hs ht hq;refine zb.n GMk.h [] (.ex (q17 [.str s,.str t]) λn=>.all (λ(r:L8×Int)=>r=gcdR n.1 n.2) λn=>.N (n.2=0) (.R [.str #[].toList,.i n.2] []) (.D (t=#[(48:UInt8)].toList) (.R [.str #[].toList,.i 16] []) (.side ((0:Int)<=0/\(0:Int)<t.length) (.D ((↑(UInt8.toNat (t.getD 0 (0:UInt8))):Int)=45) (.side (1+n.1.length<=9223372036854775807) (.ex (q17 [.str s,.str (#[(45:UInt8)].toList++n.1)]) λn_1=>.all (λ(r:L8×L8×Int)=>r=dmI n_1.1 n_1.2) λn_2=>.ex (q17 [.str t,.str (#[(45:UInt8)].toList++n.1)]) λn=>.all (λ(r:L8×L8×Int)=>r=dmI n.1 n.2) λn=>.D (n.1=#[(49:UInt8)].toList) (.R [.str n_2.1,.i 0] []) (.side (n_2.1.length+1<=9223372036854775807) (.side (List.length (n_2.1++#[(47:UInt8)].toList)+n.1.length<=9223372036854775807) (.R [.str (n_2.1++#[(47:UInt8)].toList++n.1),.i 0] []))))) (.ex (q17 [.str s,.str n.1]) λn_1=>.all (λ(r:L8×L8×Int)=>r=dmI n_1.1 n_1.2) λn_2=>.ex (q17 [.str t,.str n.1]) λn=>.all (λ(r:L8×L8×Int)=>r=dmI n.1 n.2) λn=>.D (n.1=#[(49:UInt8)].toList) (.R [.str n_2.1,.i 0] []) (.side (n_2.1.length+1<=9223372036854775807) (.side (List.length (n_2.1++#[(47:UInt8)].toList)+n.1.length<=9223372036854775807) (.R [.str (n_2.1++#[(47:UInt8)].toList++n.1),.i 0] [])))))))) ?_;simp only [q17,Tree.holds,zd,inR,lo,hi,aD];refine⟨(s,t),⟨by simp,by omega,by omega⟩,⟨_,rfl⟩,?_⟩;rintro _ rfl;by_cases he:zo s t=0
 ·obtain⟨e1,e2⟩:=zh.1 he;have eg:gcdR s t=wr false (Nat.gcd (numI s) (numI t)):=aP he;by_cases h0:numI t=0
  ·have ht0:t=[48]:=(wS e2).2 h0;have hg0:Nat.gcd (numI s) (numI t)=numI s:=by rw [h0,Nat.gcd_zero_right]
   have hz:(gcdR s t).2=0:=by rw [eg,hg0]; exact v7 (qZ e1)
   have e:qX s t=([],16):=by rw [qX,aO (by rw [he]; decide),aP h0]
   rw [e] at hq;refine⟨λh=>(by simp [hz] at h),λ_=>⟨λ_=>RetR.scal hq rfl (by simp [resV]),λh=>(by simp [ht0] at h)⟩⟩
  ·obtain⟨g0,gr⟩:=J6 (s:=s) e2 h0;have hz:(gcdR s t).2=0:=by rw [eg]; exact v7 gr
   have ht0:t≠[48]:=λh=>h0 ((wS e2).1 h)
   have htn:t≠[]:=by rintro rfl; simp [JP] at e2
   have hneg:=Zo htn;have e:qX s t=(WV (negI s != negI t) (numI s) (numI t),0):=by rw [qX,aO (by rw [he]; decide),aO h0]
   rw [e,WV] at hq;have ds:Nat.gcd (numI s) (numI t) ∣ numI s:=Nat.gcd_dvd_left _ _;have dt:Nat.gcd (numI s) (numI t) ∣ numI t:=Nat.gcd_dvd_right _ _;generalize hgg:Nat.gcd (numI s) (numI t)=g at *
   have rt:=room_le (Nat.div_le_self (numI t) g) (qZ e2);have l1:=w9 false g;have l2:=w9 true g
   have fin:∀ b:Bool,b=negI t->∀ (z w:L8×L8×Int),z=dmI s (wr b g).1->w=dmI t (wr b g).1 ->
     (decide (w.1=[49])=true->RetR zc2 0 Q [.str z.1,.i 0] [])/\(decide (w.1=[49])=false->z.1.length+1<=9223372036854775807/\(z.1.length+1<=9223372036854775807->(z.1++[47]).length+w.1.length<=9223372036854775807/\((z.1++[47]).length+w.1.length<=9223372036854775807->RetR zc2 0 Q [.str (z.1++[47]++w.1),.i 0] []))):=by
    rintro b rfl z w rfl rfl;rw [u7 e1 g0 gr ds,u7 e2 g0 gr dt];simp only;have:(negI t != negI t)=false:=by simp
    rw [this];have k1:=w9 (negI s != negI t) (numI s/g);have k2:=w9 false (numI t/g);refine⟨λh=> ?_,λh=>⟨by omega,λ_=>⟨by simp; omega,λ_=> ?_⟩⟩⟩
    ·have h1:=(J8 rt).1 (aB h);rw [aP h1] at hq;exact RetR.scal hq rfl (by simp [resV])
    ·have h1:¬ numI t/g=1:=λh1=>aC h ((J8 rt).2 h1)
     rw [aO h1] at hq;exact RetR.scal hq rfl (by simp [resV])
   rw [eg] at hz ⊢;refine⟨λh=>(by simp [hz] at h),λ_=>⟨λh=>absurd (aB h) ht0,λ_=>⟨⟨by omega,by have:=List.length_pos_iff.2 htn; omega⟩,λ_=>⟨λhb=>⟨by omega,λ_=> ?_⟩,λhb=> ?_⟩⟩⟩⟩
   ·have hn:negI t=true:=by
     rw [hneg,aK];exact yE (aB hb)
    rw [zh9 g0 gr];refine⟨(s,(wr true g).1),⟨by simp,by show s.length<_; omega,by show(wr true g).1.length<_; omega⟩,⟨_,rfl⟩,?_⟩;intro z hz;refine⟨(t,(wr true g).1),⟨by simp,by show t.length<_; omega,by show(wr true g).1.length<_; omega⟩,⟨_,rfl⟩,?_⟩;intro w hw;exact fin true hn.symm z w hz hw
   ·have hn:negI t=false:=by
     rw [hneg,aV];intro h;apply aC hb;rw [h]; rfl
    refine⟨(s,(wr false g).1),⟨by simp,by show s.length<_; omega,by show(wr false g).1.length<_; omega⟩,⟨_,rfl⟩,?_⟩;intro z hz;refine⟨(t,(wr false g).1),⟨by simp,by show t.length<_; omega,by show(wr false g).1.length<_; omega⟩,⟨_,rfl⟩,?_⟩;intro w hw;exact fin false hn.symm z w hz hw
 ·have eg:gcdR s t=([],zo s t):=aO he;have e:qX s t=([],zo s t):=aP he;rw [e] at hq;rw [eg];exact⟨λ_=>RetR.scal hq rfl (by simp [resV]),λh=>by simp [he] at h⟩
end Go.Proofs.Tryz
end
section
namespace Go.Sx
variable [Stat]
section
variable {own own' O:Nat->Prop} {w w':World} {σ Z':List SE} {P:Program} {fn:Func} {Xp:List PanicEntry->Prop}
def upA0(d k:Nat):AV->AV->Prop
 | .nils,.osl i _ off n=>(d<=i/\i<d+k)/\off=0/\n=0
 | a,b=>a=b
def upL0(d k:Nat):List AV->List AV->Prop
 | [],[]=>True
 | a::l,b::m=>upA0 d k a b/\upL0 d k l m
 | _,_=>False
def upA1(d k:Nat):AV->AV->Prop
 | .agg l,.agg m=>upL0 d k l m
 | a,b=>upA0 d k a b
def upL1(d k:Nat):List AV->List AV->Prop
 | [],[]=>True
 | a::l,b::m=>upA1 d k a b/\upL1 d k l m
 | _,_=>False
def upA2(d k:Nat):AV->AV->Prop
 | .tup l,.tup m=>upL1 d k l m
 | a,b=>upA1 d k a b
def vK(k:Nat):List SE:=List.replicate k ⟨none,0⟩
theorem kO{k i:Nat}{e:SE}(h:(σ++vK k)[i]?=some e):(i<σ.length/\σ[i]?=some e)\/(σ.length<=i/\e=⟨none,0⟩):=by
 rw [bT] at h;split at h
 ·rename_i hi; exact .inl ⟨hi,h⟩
 ·rename_i hi;right;refine⟨by omega,?_⟩;simp only [vK,List.getElem?_replicate] at h;split at h
  ·cases h; rfl
  ·cases h
theorem UM{k b:Nat}(h:Mine (σ++vK k) b):Mine σ b:=by
 obtain⟨e,he,ad,h1,h2⟩:=h;rcases bY.1 he with he | he
 ·exact⟨e,he,ad,h1,h2⟩
 ·have:=List.eq_of_mem_replicate he;subst this;cases h1
theorem zej{k b:Nat}(h:Own O (σ++vK k) b):Own O σ b:=by
 rcases h with h | h
 ·exact .inl h
 ·exact .inr (UM h)
theorem yZ(K:List Nat)(w:World)(σ:List SE)(k:Nat):Hold K w σ w (σ++vK k):=λi e he _=>by
 have hi:=(aG.1 he).1;exact⟨by rw [bL hi]; exact he,λad _ cs el h=>⟨cs,el,h,rfl⟩⟩
theorem Vp{k:Nat}(hx:Ext own w own' w){a b:AV}{v:Value}(hu:upA0 σ.length k a b)(ha:Rep own w a σ v):Rep own' w b (σ++vK k) v:=by
 unfold upA0 at hu;split at hu
 ·obtain⟨⟨h1,h2⟩,rfl,rfl⟩:=hu;rename_i i sz _ _;simp only [Rep] at ha ⊢;refine⟨⟨none,0⟩,?_,by simp,none,0,ha,aJ _,.inl rfl⟩;rw [List.getElem?_append_right h1,vK,List.getElem?_replicate,aP (by omega)]
 ·subst hu;exact qg (K:=[]) hx (yZ [] w σ k) _ _ (jx _) ha
theorem Q8{k:Nat}(hx:Ext own w own' w):∀ {l m:List AV} {vs:List Value},upL0 σ.length k l m->RepL own w l σ vs->RepL own' w m (σ++vK k) vs
 | [],[],vs,_,h=>by simpa [RepL] using h
 | a::l,b::m,vs,hl,h=>by
  simp only [RepL] at h ⊢;obtain⟨v,r,hv,h1,h2⟩:=h;exact⟨v,r,hv,Vp hx hl.1 h1,Q8 hx hl.2 h2⟩
 | [],_::_,_,hl,_=>hl.elim
 | _::_,[],_,hl,_=>hl.elim
theorem Wt{k:Nat}(hx:Ext own w own' w){a b:AV}{v:Value}(hu:upA1 σ.length k a b)(ha:Rep own w a σ v):Rep own' w b (σ++vK k) v:=by
 unfold upA1 at hu;split at hu
 ·simp only [Rep] at ha ⊢;obtain⟨vs,hv,hr⟩:=ha;exact⟨vs,hv,Q8 hx hu hr⟩
 ·exact Vp hx hu ha
theorem yK{k:Nat}(hx:Ext own w own' w):∀ {l m:List AV} {vs:List Value},upL1 σ.length k l m->RepL own w l σ vs->RepL own' w m (σ++vK k) vs
 | [],[],vs,_,h=>by simpa [RepL] using h
 | a::l,b::m,vs,hl,h=>by
  simp only [RepL] at h ⊢;obtain⟨v,r,hv,h1,h2⟩:=h;exact⟨v,r,hv,Wt hx hl.1 h1,yK hx hl.2 h2⟩
 | [],_::_,_,hl,_=>hl.elim
 | _::_,[],_,hl,_=>hl.elim
theorem ze7{k:Nat}(hx:Ext own w own' w){a b:AV}{v:Value}(hu:upA2 σ.length k a b)(ha:Rep own w a σ v):Rep own' w b (σ++vK k) v:=by
 unfold upA2 at hu;split at hu
 ·simp only [Rep] at ha ⊢;obtain⟨vs,hv,hr⟩:=ha;exact⟨vs,hv,yK hx hu hr⟩
 ·exact Wt hx hu ha
def ZY(szs:List (Nat×(Nat->Nat->AV))):Heap:=szs.map λs=>.arr 0 s.1 s.2
def upKV(d k:Nat):KV->KV->Prop
 | [],[]=>True
 | (i,a)::l,(j,b)::m=>i=j/\upA2 d k a b/\upKV d k l m
 | _,_=>False
def upB(d k:Nat):Blk->Blk->Prop
 | .box l,.box m=>upL1 d k l m
 | a,b=>a=b
def upH(d k:Nat):Heap->Heap->Prop
 | [],[]=>True
 | b::l,c::m=>upB d k b c/\upH d k l m
 | _,_=>False
theorem Wz{d k:Nat} : ∀ {l m:KV} (t:Nat),upKV d k l m->upA2 d k (look l t) (look m t)
 | [],[],t,_=>by simp [look,upA2,upA1,upA0]
 | (i,a)::l,(j,b)::m,t,h=>by
  obtain⟨rfl,h1,h2⟩:=h;simp only [look];split
  ·exact h1
  ·exact Wz t h2
 | [],_::_,_,h=>h.elim
 | _::_,[],_,h=>h.elim
theorem zab{d k:Nat} : ∀ {l m:Heap},upH d k l m->l.length=m.length
 | [],[],_=>rfl
 | _::l,_::m,h=>by simp [zab h.2]
 | [],_::_,h=>h.elim
 | _::_,[],h=>h.elim
theorem zb1{d k:Nat} : ∀ {l m:Heap} {i:Nat} {b':Blk},upH d k l m->m[i]?=some b'->∃ b,l[i]?=some b/\upB d k b b'
 | b::l,c::m,0,b',h,h1=>by simp at h1; subst h1; exact⟨b,rfl,h.1⟩
 | b::l,c::m,i+1,b',h,h1=>by simpa using zb1 h.2 (by simpa using h1)
 | [],[],_,_,_,h1=>by simp at h1
 | [],_::_,_,_,h,_=>h.elim
 | _::_,[],_,_,h,_=>h.elim
theorem ze6{k:Nat}(hx:Ext own w own' w){e:SE}{b b':Blk}(hu:upB σ.length k b b')(hb:BRep own w σ e b):BRep own' w (σ++vK k) e b':=by
 unfold upB at hu;split at hu
 ·simp only [BRep] at hb ⊢;obtain⟨ad,vs,el,h1,h2,h3,h4⟩:=hb;exact⟨ad,vs,el,h1,h2,h3,yK hx hu h4⟩
 ·subst hu;have:=j2 (K:=[]) hx (yZ [] w σ k) hb (λ_ _=>rfl)
  rwa [jE] at this
variable {pin:Nat} {w0:World} {I0:List SE} {a:Act}
theorem up_mod{kv kv2:KV}{h h2:Heap}{n:Nat}(hm:Mod O pin w0 I0 w σ (mk n kv h) a){szs:List (Nat×(Nat->Nat->AV))}(hkv:upKV h.length szs.length kv kv2)(hh2:upH h.length szs.length h h2)(hno:(pk n kv).all zJ=true)(hno2:(pk n kv2).all zJ=true):Mod O pin w0 I0 w (σ++vK szs.length) (mk n kv2 (h2++ZY szs)) a:=by
 have hx:Ext (Own O σ) w (Own O (σ++vK szs.length)) w:=⟨rfl,rfl,rfl,aJ _,λ_ _ _=>rfl,λb hb=>.inl (zej hb)⟩;have hl:h.length=σ.length:=hm.hp.len.symm;rw [hl] at hkv hh2;have hl2:=zab hh2;refine⟨⟨hm.good.old,λi e ad he had=> ?_,hm.good.stat.ext hx⟩,?_,by simp [hm.size,mk,pk],λu=> ?_,hm.df.ext hx,hm.since.trans ⟨hx,λ_ _ _=>rfl,vp.of (yZ [] w σ _) (by simp)⟩,hm.lim⟩
 ·rcases kO he with ⟨_,he⟩ | ⟨_,rfl⟩
  ·exact hm.good.dis i e ad he had
  ·cases had
 ·have hh:=hm.hp;refine⟨by simp [mk,vK,ZY,<- hl2,hl],λi j e f x y he hf ha hb hij=> ?_,λi e x he ha=> ?_,λi e b he hb=> ?_⟩
  ·rcases kO he with ⟨_,he⟩ | ⟨_,rfl⟩
   ·rcases kO hf with ⟨_,hf⟩ | ⟨_,rfl⟩
    ·exact hh.inj i j e f x y he hf ha hb hij
    ·cases hb
   ·cases ha
  ·rcases kO he with ⟨_,he⟩ | ⟨_,rfl⟩
   ·exact hh.lt i e x he ha
   ·cases ha
  ·simp only [mk] at hb;rcases kO he with ⟨hi,he⟩ | ⟨hi,rfl⟩
   ·rw [bL (by omega)] at hb;obtain⟨b0,h1,h3⟩:=zb1 hh2 hb;exact ze6 hx h3 (hh.blk i e b0 he h1)
   ·rw [List.getElem?_append_right (by omega)] at hb;simp only [ZY,aN] at hb;cases hz:szs[i - h2.length]? with
    | none=>simp [hz] at hb
    | some s=>
     simp only [hz,Option.map_some,aE] at hb;subst hb;exact⟨rfl,.inl rfl⟩
 ·have hu:=hm.tm u
  have key:∀ (kv:KV) (h:Heap),(pk n kv).all zJ=true->zJ ((mk n kv h).tmps.getD u .undef)=true:=by
   intro kv h hno;by_cases hlt:u<(mk n kv h).tmps.length
   ·simp only [List.getD,aF hlt,Option.getD_some];exact bG.1 hno _ (bK hlt)
   ·simp only [List.getD];rw [aZ (by omega)]; rfl
  have n1:=key kv h hno;have n2:=key kv2 (h2++ZY szs) hno2
  have hr:Rep (Own O σ) w ((mk n kv h).tmps.getD u .undef) σ (a.tmps.getD u undef):=by
   generalize (mk n kv h).tmps.getD u .undef=x at hu n1;cases x with
   | opt _ _ _=>simp [zJ] at n1
   | _=>simpa only [TRep] using hu
  have hup:upA2 σ.length szs.length ((mk n kv h).tmps.getD u .undef) ((mk n kv2 (h2++ZY szs)).tmps.getD u .undef):=by
   by_cases hlt:u<n
   ·simp only [mk];rw [km hlt,km hlt];exact Wz u hkv
   ·simp [mk,pk,List.getD,hlt,upA2,upA1,upA0]
  have:=ze7 hx hup hr;generalize (mk n kv2 (h2++ZY szs)).tmps.getD u .undef=y at this n2;cases y with
  | opt _ _ _=>simp [zJ] at n2
  | _=>simpa only [TRep] using this
theorem zb.up{M:Option Nat}{Hs:Nat->KV->Heap->Prop}{R:List AV->Heap->Prop}{k:List Item}{kv:KV}{h:Heap}(szs:List (Nat×(Nat->Nat->AV)))(kv2:KV)(h2:Heap)(hkv:upKV h.length szs.length kv kv2)(hh2:upH h.length szs.length h h2)(hno:(pk fn.ntmps kv).all zJ=true)(hno2:(pk fn.ntmps kv2).all zJ=true)
  (H:zA Xp M P fn O pin w0 I0 Hs R k (mk fn.ntmps kv2 (h2++ZY szs))):zA Xp M P fn O pin w0 I0 Hs R k (mk fn.ntmps kv h):=
 λw σ a hm=>H w _ a (up_mod hm hkv hh2 hno hno2)
theorem RetR.outs{ctr:Ctr}{Q:AV×Heap->Prop}{rs:List AV}{h:Heap}{r:AV}{hs:Heap}(L:List Nat)(hnd:ka L=true)(hlt:(L.all λi=>decide (i<h.length))=true)(hq:Q (r,hs))(hn:ctr.fresh=true->new2 h L (resV rs)/\∀ i∈L,newB (h.getD i .dead))
  (he:eqA2 (exp2 h L (resV rs)) r) (hb:eqH (expH h L) hs) (hl:hs.length=L.length):RetR ctr 0 Q rs h:=
 ⟨L,hnd,λi hi=>by have:=bG.1 hlt i hi; simpa using this,by simp,hn,r,hs,qJ he,.inl hb,hl,hq⟩
theorem RetR.keep{ctr:Ctr}{m:Nat}{Q:AV×Heap->Prop}{rs:List AV}{h:Heap}{r:AV}{hs:Heap}(L:List Nat)(hnd:ka L=true)(hlt:(L.all λi=>decide (i<h.length))=true)(hj:∀ j,j<m->L[j]?=some j)(hf:ctr.fresh=false)(hq:Q (r,hs))
  (he:eqA2 (exp2 h L (resV rs)) r) (hb:eqH (expH h L) hs) (hl:hs.length=L.length):RetR ctr m Q rs h:=
 ⟨L,hnd,λi hi=>by have:=bG.1 hlt i hi; simpa using this,hj,(λhh=>absurd hh (by rw [hf]; decide)),r,hs,qJ he,.inl hb,hl,hq⟩
end
end Go.Sx
end
section
set_option maxRecDepth 100000
open Go Go.Sx Go.Proofs Go.Nov
namespace Go.Proofs.Tryz
attribute [local simp] eqKV eqA eqA0 eqH eqB eqL eqL0
noncomputable def K77:=Go.Sx.aA f77
structure Pr where
 n:L8
 m:L8
 d:L8
 c:L8
 e:Int
def Pr.box(p:Pr):Blk:=.box [.str p.n,.str p.m,.str p.d,.str p.c,.i p.e]
def Pr.err(p:Pr)(e:Int):Pr:=⟨p.n,p.m,p.d,p.c,e⟩
inductive QOp where
 | add | sub | mul
def QOp.fn:QOp->Nat
 | .add=>82
 | .sub=>80
 | .mul=>79
def QOp.has:QOp->Prop
 | .sub=>True
 | _=>True
def QOp.op:QOp->L8->L8->L8×Int
 | .add=>addI
 | .sub=>subI
 | .mul=>mulI
def jr(a b:L8):Pr:=if errR a≠0 then⟨[],[],[],[],errR a⟩ else if errR b≠0 then⟨numR a,[],denR a,[],errR b⟩ else⟨numR a,numR b,denR a,denR b,0⟩
def zk3:Ctr:=ctrT false false (λp:L8×L8=>[.str p.1,.str p.2]) (λ_=>[]) (λp=>p.1.length<2^62/\p.2.length<2^62) (λp r=>r=jr p.1 p.2) (λ_ (r:Pr)=>(.ptr 0 0,[r.box]))
def zgl:Ctr:=ctrT false false (λp:Pr×QOp=>[.ptr 0 0,.fn p.2.fn [] []]) (λp=>[p.1.box]) (λ_=>True) (λ_ (_:Unit)=>True) (λp _=>(.fn 117 [] [.ptr 1 0,.ptr 2 0],[p.1.box,.box [.ptr 0 0],.box [.fn p.2.fn [] []]]))
structure KX where
 p:Pr
 o:QOp
 x:L8
 y:L8
def YF:Ctr:=ctrT false false (λk:KX=>[.str k.x,.str k.y,.ptr 0 0,.ptr 2 0]) (λk=>[.box [.ptr 1 0],k.p.box,.box [.fn k.o.fn [] []]]) (λk=>k.x.length<2^62/\k.y.length<2^62/\k.o.has) (λk r=>r=if k.p.e≠0 then([],k.p.e) else k.o.op k.x k.y)
 (λk (r:L8×Int)=>(.str r.1,[.box [.ptr 1 0],(k.p.err r.2).box,.box [.fn k.o.fn [] []]]))
def zf2:Ctr:=ctrT false false (λk:Pr×L8×L8=>[.ptr 0 0,.str k.2.1,.str k.2.2]) (λk=>[k.1.box]) (λk=>k.2.1.length<2^62/\k.2.2.length<2^62) (λk r=>r=if k.1.e≠0 then([],k.1.e) else qX k.2.1 k.2.2)
 (λk (r:L8×Int)=>(.tup [.str r.1,.i r.2],[k.1.box]))
theorem zk6:zc prog 78 zgl:=by
 refine qi (fn:=f78) (c:=f78.body.getD .skip) rfl rfl rfl (λh=>by cases h) λp hp O w0 I0 Q hl0 hq=> ?_
 obtain⟨p,o⟩:=p;replace hq:=hq () trivial;refine zb.n zq [] (.R [.fn 117 [] [.ptr 1 0,.ptr 2 0]] [.box [.str p.n,.str p.m,.str p.d,.str p.c,.i p.e],.box [.ptr 0 0],.box [.fn (QOp.fn o) [] []]]) ?_;simp only [Tree.holds,zd];refine RetR.keep [0,1,2] rfl rfl (by show ∀ j,j<1->_; decide) rfl hq ?_ ?_ rfl
 ·rfl
 ·exact⟨⟨rfl,rfl,rfl,rfl,⟨rfl,rfl⟩,trivial⟩,⟨⟨rfl,rfl⟩,trivial⟩,⟨rfl,trivial⟩,trivial⟩
noncomputable def GK1:=tb zos (tb znz (tb zob tz))
theorem zfx:zc prog 117 YF:=by
 refine qi (fn:=f117) (c:=f117.body.getD .skip) rfl rfl rfl (λh=>by cases h) λk hk O w0 I0 Q hl0 hq=> ?_
 obtain⟨⟨n,m,d,c,e⟩,o,x,y⟩:=k;obtain⟨h1,h2,h3⟩:=hk;replace hq:=hq _ rfl;simp only at h1 h2 h3 hq
 have fin:∀ r:L8×Int,(if e≠0 then([],e) else o.op x y)=r->RetR YF 3 Q [.str r.1] [.box [.ptr 1 0],.box [.str n,.str m,.str d,.str c,.i r.2],.box [.fn o.fn [] []]]:=by
  rintro r rfl;refine RetR.keep [0,1,2] rfl rfl (by show ∀ j,j<3->_; decide) rfl hq ?_ ?_ rfl
  ·rfl
  ·exact⟨⟨⟨rfl,rfl⟩,trivial⟩,⟨rfl,rfl,rfl,rfl,⟨rfl,rfl⟩,trivial⟩,⟨rfl,trivial⟩,trivial⟩
 cases o with
 | add=>
  refine zb.n GK1.h [] (.N (e=0) (.R [.str #[].toList] [.box [.ptr 1 0],.box [.str n,.str m,.str d,.str c,.i e],.box [.fn 82 [] []]]) (.ex (q17 [.str x,.str y]) λn_1=>.all (λ(r:L8×Int)=>r=addI n_1.1 n_1.2) λn_2=>.R [.str n_2.1] [.box [.ptr 1 0],.box [.str n,.str m,.str d,.str c,.i n_2.2],.box [.fn 82 [] []]])) ?_;simp only [q17,Tree.holds,zd];refine⟨λh=> ?_,λh=>⟨(x,y),⟨by simp,h1,h2⟩,⟨_,rfl⟩,?_⟩⟩
  ·have h:e≠0:=by simpa using h
   exact fin ([],e) (aP h)
  ·have h:e=0:=by simpa using h
   rintro _ rfl;exact fin (addI x y) (aO (by simp [h]))
 | sub=>
  refine zb.n GK1.h [] (.N (e=0) (.R [.str #[].toList] [.box [.ptr 1 0],.box [.str n,.str m,.str d,.str c,.i e],.box [.fn 80 [] []]]) (.ex (q17 [.str x,.str y]) λn_1=>.all (λ(r:L8×Int)=>r=subI n_1.1 n_1.2) λn_2=>.R [.str n_2.1] [.box [.ptr 1 0],.box [.str n,.str m,.str d,.str c,.i n_2.2],.box [.fn 80 [] []]])) ?_;simp only [q17,Tree.holds,zd];refine⟨λh=> ?_,λh=>⟨(x,y),⟨by simp,h1,h2⟩,⟨_,rfl⟩,?_⟩⟩
  ·have h:e≠0:=by simpa using h
   exact fin ([],e) (aP h)
  ·have h:e=0:=by simpa using h
   rintro _ rfl;exact fin (subI x y) (aO (by simp [h]))
 | mul=>
  refine zb.n GK1.h [] (.N (e=0) (.R [.str #[].toList] [.box [.ptr 1 0],.box [.str n,.str m,.str d,.str c,.i e],.box [.fn 79 [] []]]) (.ex (q17 [.str x,.str y]) λn_1=>.all (λ(r:L8×Int)=>r=mulI n_1.1 n_1.2) λn_2=>.R [.str n_2.1] [.box [.ptr 1 0],.box [.str n,.str m,.str d,.str c,.i n_2.2],.box [.fn 79 [] []]])) ?_;simp only [q17,Tree.holds,zd];refine⟨λh=> ?_,λh=>⟨(x,y),⟨by simp,h1,h2⟩,⟨_,rfl⟩,?_⟩⟩
  ·have h:e≠0:=by simpa using h
   exact fin ([],e) (aP h)
  ·have h:e=0:=by simpa using h
   rintro _ rfl;exact fin (mulI x y) (aO (by simp [h]))
noncomputable def GMd:=tb zkp tz
theorem zkx:zc prog 81 zf2:=by
 refine qi (fn:=f81) (c:=f81.body.getD .skip) rfl rfl rfl (λh=>by cases h) λk hk O w0 I0 Q hl0 hq=> ?_
 obtain⟨⟨n,m,d,c,e⟩,x,y⟩:=k;obtain⟨h1,h2⟩:=hk;replace hq:=hq _ rfl;simp only at h1 h2 hq
 have fin:∀ r:L8×Int,(if e≠0 then([],e) else qX x y)=r->RetR zf2 1 Q [.str r.1,.i r.2] [.box [.str n,.str m,.str d,.str c,.i e]]:=by
  rintro r rfl;refine RetR.keep [0] rfl rfl (by show ∀ j,j<1->_; decide) rfl hq ?_ ?_ rfl
  ·exact⟨rfl,⟨rfl,rfl⟩,trivial⟩
  ·exact⟨⟨rfl,rfl,rfl,rfl,⟨rfl,rfl⟩,trivial⟩,trivial⟩
 refine zb.n GMd.h [] (let v1:List Blk:=[.box [.str n,.str m,.str d,.str c,.i e]];.N (e=0) (.R [.str #[].toList,.i e] v1) (.ex (q17 [.str x,.str y]) λn_1=>.all (λ(r:L8×Int)=>r=qX n_1.1 n_1.2) λn_2=>.R [.str n_2.1,.i n_2.2] v1)) ?_;simp only [q17,Tree.holds,zd];refine⟨λh=> ?_,λh=>⟨(x,y),⟨by simp,h1,h2⟩,⟨_,rfl⟩,?_⟩⟩
 ·have h:e≠0:=by simpa using h
  exact fin ([],e) (aP h)
 ·have h:e=0:=by simpa using h
  rintro _ rfl;exact fin (qX x y) (aO (by simp [h]))
def Pst(a b:L8):Nat->Pr
 | 0=>⟨[],[],[],[],0⟩
 | 1=>if errR a≠0 then⟨[],[],[],[],errR a⟩ else⟨numR a,[],denR a,[],0⟩
 | _=>jr a b
def SBq(a b:L8)(i:Nat):KV:=[(5,.ptr 0 0),(12,.agg [.str a,.str b]),(13,.i (i:Int))]
noncomputable def GBq:=tb zig tz
theorem zfj:zc prog 77 zk3:=by
 refine qi (fn:=f77) (c:=f77.body.getD .skip) rfl rfl rfl (λh=>by cases h) λp hp O w0 I0 Q hl0 hq=> ?_
 obtain rfl:I0=[]:=aU.1 hl0;obtain⟨a,b⟩:=p;obtain⟨h1,h2⟩:=hp;replace hq:=hq _ rfl;simp only at h1 h2 hq;refine zb.n GBq.h [5,12,13] (.leaf (.loop (lps K77 0).1 (lps K77 0).2 [(5,.ptr 0 0),(12,.agg [.str a,.str b]),(13,.i 0)] [.box [.str #[].toList,.str #[].toList,.str #[].toList,.str #[].toList,.i 0]])) ?_;simp only [Tree.holds,zd];refine zb.loop (ι:={i:Nat // i<=2}) (λi=>SBq a b i.1) (λi=>[(Pst a b i.1).box]) (λi=>2 - i.1) ⟨0,aI _⟩ 0 ?_ ?_ (by kernel_rfl)
 ·exact⟨by simp [SBq],by simp [Pst,Pr.box],by kernel_rfl,aI _⟩
 rintro⟨i,hil⟩
 match i,hil with
 | 0,_=>
  refine zb.n GBq.h [5,12,13] (let v2:List Blk:=[.box [.str [],.str [],.str [],.str [],.i 0]];let v1:List (Nat×AV):=[(5,.ptr 0 0),(12,.agg [.str a,.str b]),(13,.i 1)];.ite true (.side ((0:Int)<=0/\(0:Int)<2/\1<=List.length [AV.str a,AV.str b]) (.ite true (.ex (q15 [.str a]) λn=>.all (λ(r:L8×L8×Int)=>r=if errR n=0 then(numR n,denR n,(0:Int)) else([],[],errR n)) λn=>.side ((0:Int)<=0/\(0:Int)<2) (.side ((0:Int)<=0/\(0:Int)<2) (.S 1 (.leaf (.back 0 v1 [.box [.str n.1,.str [],.str n.2.1,.str [],.i n.2.2]]))))) (.S 1 (.leaf (.back 0 v1 v2))))) (.R [.ptr 0 0] v2)) ?_;simp only [q15,Tree.holds,zd,inR,lo,hi,aD];refine⟨λ_=>⟨by simp,λ_=>⟨λ_=>⟨a,⟨by simp,h1⟩,⟨_,rfl⟩,?_⟩,λh=>(by cases h)⟩⟩,λh=>(by cases h)⟩;intro r hr;refine⟨by decide,λ_=>⟨by decide,λ_=>⟨by decide,λ_=> ?_⟩⟩⟩;rw [aP trivial];refine⟨⟨1,by decide⟩,by decide,by simp [SBq],?_,by kernel_rfl,aI _⟩
  have e:Pst a b 1=⟨r.1,[],r.2.1,[],r.2.2⟩:=by
   rw [hr];by_cases h:errR a=0
   ·simp [Pst,h]
   ·simp [Pst,h]
  show eqH _ [(Pst a b 1).box];rw [e];simp [Pr.box]
 | 1,_=>
  obtain⟨⟨n,m,d,c,e⟩,hp⟩:∃ p,Pst a b 1=p:=⟨_,rfl⟩;simp only [hp];refine zb.n GBq.h [5,12,13] (let v2:List Blk:=[.box [.str n,.str m,.str d,.str c,.i e]];let v1:List (Nat×AV):=[(5,.ptr 0 0),(12,.agg [.str a,.str b]),(13,.i 2)];.ite true (.side ((0:Int)<=1/\(1:Int)<2/\2<=List.length [AV.str a,AV.str b]) (.D (e=0) (.ex (q15 [.str b]) λn_1=>.all (λ(r:L8×L8×Int)=>r=if errR n_1=0 then(numR n_1,denR n_1,(0:Int)) else([],[],errR n_1)) λn_2=>.side ((0:Int)<=1/\(1:Int)<2) (.side ((0:Int)<=1/\(1:Int)<2) (.S 2 (.leaf (.back 0 v1 [.box [.str n,.str n_2.1,.str d,.str n_2.2.1,.i n_2.2.2]]))))) (.S 2 (.leaf (.back 0 v1 v2))))) (.R [.ptr 0 0] v2)) ?_;simp only [q15,Tree.holds,zd,inR,lo,hi,aD];refine⟨λ_=>⟨by simp,λ_=>⟨λh=>⟨b,⟨by simp,h2⟩,⟨_,rfl⟩,?_⟩,λh=>⟨by decide,λ_=> ?_⟩⟩⟩,λh=>(by cases h)⟩
  ·have h:e=0:=by simpa using h
   intro r hr;refine⟨by decide,λ_=>⟨by decide,λ_=>⟨by decide,λ_=> ?_⟩⟩⟩;rw [aP trivial];refine⟨⟨2,by decide⟩,by decide,by simp [SBq],?_,by kernel_rfl,aI _⟩
   have e2:Pst a b 2=⟨n,r.1,d,r.2.1,r.2.2⟩:=by
    rw [hr];by_cases ha:errR a=0
    ·simp only [Pst,ha] at hp;simp at hp;obtain⟨rfl,rfl,rfl,rfl,_⟩:=hp;by_cases hb:errR b=0
     ·simp [Pst,jr,ha,hb]
     ·simp [Pst,jr,ha,hb]
    ·simp only [Pst] at hp;rw [aP ha] at hp;cases hp;exact absurd h ha
   show eqH _ [(Pst a b 2).box];rw [e2];simp [Pr.box]
  ·have h:e≠0:=by simpa using h
   rw [aP trivial];refine⟨⟨2,by decide⟩,by decide,by simp [SBq],?_,by kernel_rfl,aI _⟩
   have e2:Pst a b 2=⟨n,m,d,c,e⟩:=by
    by_cases ha:errR a=0
    ·simp only [Pst,ha] at hp;simp at hp;exact absurd hp.2.2.2.2.symm h
    ·rw [<- hp];simp only [Pst,jr];rw [aP ha,aP ha]
   show eqH _ [(Pst a b 2).box];rw [e2];simp [Pr.box]
 | 2,_=>
  obtain⟨⟨n,m,d,c,e⟩,hp⟩:∃ p,Pst a b 2=p:=⟨_,rfl⟩;simp only [hp];refine zb.n GBq.h [5,12,13] (.ite false (.side ((0:Int)<=2/\(2:Int)<2/\3<=List.length [AV.str a,AV.str b]) .fail) (.R [.ptr 0 0] [.box [.str n,.str m,.str d,.str c,.i e]])) ?_;simp only [Tree.holds,zd,inR,lo,hi,aD];refine⟨λh=>(by cases h),λ_=> ?_⟩;have hp:jr a b=⟨n,m,d,c,e⟩:=hp;rw [hp] at hq;refine RetR.out1 0 (by show 0<1; decide) hq (λh=>by cases h) ?_ ?_
  ·exact⟨rfl,rfl⟩
  ·exact⟨rfl,rfl,rfl,rfl,⟨rfl,rfl⟩,trivial⟩
theorem kp(a b:L8):((jr a b).e≠0/\zZ a b=(jr a b).e)\/((jr a b).e=0/\errR a=0/\errR b=0/\(jr a b).n=numR a/\(jr a b).m=numR b/\(jr a b).d=denR a/\(jr a b).c=denR b):=by
 unfold jr;by_cases ha:errR a=0
 ·rw [aO (by rw [ha]; simp)];by_cases hb:errR b=0
  ·rw [aO (by rw [hb]; simp)];exact .inr ⟨rfl,ha,hb,rfl,rfl,rfl,rfl⟩
  ·rw [aP hb];exact .inl ⟨hb,by unfold zZ; rw [aP ha]⟩
 ·rw [aP ha];exact .inl ⟨ha,by unfold zZ; rw [aO ha]⟩
theorem yq(a b:L8):(jr a b).n.length<=a.length/\(jr a b).m.length<=b.length/\(jr a b).d.length<=a.length+1/\(jr a b).c.length<=b.length+1:=by
 have h1:=kQ a;have h2:=kQ b;have h3:=wV a;have h4:=wV b;unfold jr;split
 ·simp
 ·split
  ·simp; omega
  ·simp only; omega
theorem kx_l(x y:L8):eqL [.str x,.str y,.ptr 0 0,.ptr 2 0] [.str x,.str y,.ptr 0 0,.ptr 2 0]:=⟨rfl,rfl,⟨rfl,rfl⟩,⟨rfl,rfl⟩,trivial⟩
theorem kx_b(p:Pr):eqH [.box [.str p.n,.str p.m,.str p.d,.str p.c,.i p.e]] [.box [.str p.n,.str p.m,.str p.d,.str p.c,.i p.e]]:=⟨⟨rfl,rfl,rfl,rfl,⟨rfl,rfl⟩,trivial⟩,trivial⟩
theorem kx_h(p:Pr)(f:Nat):eqH [.box [.ptr 1 0],.box [.str p.n,.str p.m,.str p.d,.str p.c,.i p.e],.box [.fn f [] []]] [.box [.ptr 1 0],.box [.str p.n,.str p.m,.str p.d,.str p.c,.i p.e],.box [.fn f [] []]]:=⟨⟨⟨rfl,rfl⟩,trivial⟩,(kx_b p).1,⟨rfl,trivial⟩,trivial⟩
theorem kx_k(f:Nat):eqL [.ptr 0 0,.fn f [] []] [.ptr 0 0,.fn f [] []]:=⟨⟨rfl,rfl⟩,rfl,trivial⟩
theorem kx_m(x y:L8):eqL [.ptr 0 0,.str x,.str y] [.ptr 0 0,.str x,.str y]:=⟨⟨rfl,rfl⟩,rfl,rfl,trivial⟩
theorem q7(p:Pr)(o:QOp)(x y:L8){r:L8×Int}(h:r=if p.e≠0 then([],p.e) else o.op x y):r.1.length<=1001:=by
 rw [h];refine zm3 ?_;cases o
 ·exact QS x y
 ·exact zgm x y
 ·exact jv x y
noncomputable def GQA:=tb zfj (tb zk6 (tb zfx (tb zkx (tb zm8 tz))))
def zb4:Ctr:=ctrP true (λp:L8×L8=>[.str p.1,.str p.2]) (λp=>p.1.length<2^61/\p.2.length<2^61) (λp r=>r=addR p.1 p.2) (λ_ r=>(.tup [.str r.1,.i r.2],[]))
def zcg:Ctr:=ctrP true (λp:L8×L8=>[.str p.1,.str p.2]) (λp=>p.1.length<2^61/\p.2.length<2^61) (λp r=>r=subR p.1 p.2) (λ_ r=>(.tup [.str r.1,.i r.2],[]))
def zbt:Ctr:=ctrP true (λp:L8×L8=>[.str p.1,.str p.2]) (λp=>p.1.length<2^61/\p.2.length<2^61) (λp r=>r=mulR p.1 p.2) (λ_ r=>(.tup [.str r.1,.i r.2],[]))
def zh3:Ctr:=ctrP true (λp:L8×L8=>[.str p.1,.str p.2]) (λp=>p.1.length<2^61/\p.2.length<2^61) (λp r=>r=cmpR p.1 p.2) (λ_ r=>(.tup [.i r.1,.i r.2],[]))
abbrev q35(A:List AV)(H:Heap)(x:Pr×L8×L8):Prop:=eqL A [.ptr 0 0,.str x.2.1,.str x.2.2]/\eqH H [.box [.str x.1.n,.str x.1.m,.str x.1.d,.str x.1.c,.i x.1.e]]/\1=1/\x.2.1.length<4611686018427387904/\x.2.2.length<4611686018427387904
abbrev q34(A:List AV)(H:Heap)(x:KX):Prop:=eqL A [.str x.x,.str x.y,.ptr 0 0,.ptr 2 0]/\eqH H [.box [.ptr 1 0],.box [.str x.p.n,.str x.p.m,.str x.p.d,.str x.p.c,.i x.p.e],.box [.fn (QOp.fn x.o) [] []]]/\3=3/\x.x.length<4611686018427387904/\x.y.length<4611686018427387904/\QOp.has x.o
abbrev q33(A:List AV)(H:Heap)(x:Pr×QOp):Prop:=eqL A [.ptr 0 0,.fn (QOp.fn x.2) [] []]/\eqH H [.box [.str x.1.n,.str x.1.m,.str x.1.d,.str x.1.c,.i x.1.e]]/\1=1/\True
abbrev q32(A:List AV)(H:Heap)(x:L8×L8):Prop:=eqL A [.str x.1,.str x.2]/\eqH H []/\0=0/\x.1.length<4611686018427387904/\x.2.length<4611686018427387904
theorem VV:zc prog 46 zb4:=by
 refine ze' f46 λp hp O w0 Q hq=> ?_
 obtain⟨a,b⟩:=p;obtain⟨h1,h2⟩:=hp;replace hq:=hq _ rfl;simp only at h1 h2 hq;refine zb.n GQA.h [] (let v5:=[AV.ptr 1 0];.ex (q32 [.str a,.str b] []) λn=>.all (λ(r:Pr)=>r=jr n.1 n.2) λn=>.ex (q33 [.ptr 0 0,.fn 79 [] []] [.box [.str n.n,.str n.m,.str n.d,.str n.c,.i n.e]]) λn=>.A λn_1=>.ex (q33 [.ptr 0 0,.fn 82 [] []] [.box [.str n.1.n,.str n.1.m,.str n.1.d,.str n.1.c,.i n.1.e]]) λn_2=>.A λn_3=>.side ((0:Int)<=0/\(0:Int)<2) (.side ((0:Int)<=1/\(1:Int)<2) (.side ((0:Int)<=1/\(1:Int)<2) (.side ((0:Int)<=0/\(0:Int)<2) (.side ((0:Int)<=0/\(0:Int)<2) (.side ((0:Int)<=1/\(1:Int)<2) (.ex (q34 [.str n_2.1.n,.str n_2.1.c,.ptr 0 0,.ptr 2 0] [.box v5,.box [.str n_2.1.n,.str n_2.1.m,.str n_2.1.d,.str n_2.1.c,.i n_2.1.e],.box [.fn (QOp.fn n.2) [] []]]) λn=>.all (λ(r:L8×Int)=>r=if Pr.e n.p≠0 then([],Pr.e n.p) else QOp.op n.o n.x n.y) λn_4=>let v1:=Pr.err n.p n_4.2;.side (Pr.c v1=Pr.c n_2.1) (.side (Pr.d v1=Pr.d n_2.1) (.side (Pr.d v1=Pr.d n_2.1) (.side (Pr.m v1=Pr.m n_2.1) (.ex (q34 [.str n_2.1.m,.str n_2.1.d,.ptr 0 0,.ptr 2 0] [.box v5,.box [.str v1.n,.str v1.m,.str v1.d,.str v1.c,.i v1.e],.box [.fn (QOp.fn n.o) [] []]]) λn=>.all (λ(r:L8×Int)=>r=if Pr.e n.p≠0 then([],Pr.e n.p) else QOp.op n.o n.x n.y) λn_5=>let v3:=Pr.err n.p n_5.2;.side (Pr.c v3=Pr.c n_2.1) (.side (Pr.d v3=Pr.d n_2.1) (.ex (q34 [.str n_4.1,.str n_5.1,.ptr 0 0,.ptr 2 0] [.box v5,.box [.str v3.n,.str v3.m,.str v3.d,.str v3.c,.i v3.e],.box [.fn (QOp.fn n_2.2) [] []]]) λn_6=>.all (λ(r:L8×Int)=>r=if Pr.e n_6.p≠0 then([],Pr.e n_6.p) else QOp.op n_6.o n_6.x n_6.y) λn_7=>let v2:=Pr.err n_6.p n_7.2;.side (Pr.c v2=Pr.c n_2.1) (.side (Pr.d v2=Pr.d n_2.1) (.ex (q34 [.str n_2.1.d,.str n_2.1.c,.ptr 0 0,.ptr 2 0] [.box v5,.box [.str v2.n,.str v2.m,.str v2.d,.str v2.c,.i v2.e],.box [.fn (QOp.fn n.o) [] []]]) λn=>.all (λ(r:L8×Int)=>r=if Pr.e n.p≠0 then([],Pr.e n.p) else QOp.op n.o n.x n.y) λn_8=>let v4:=Pr.err n.p n_8.2;.ex (q35 [.ptr 0 0,.str n_7.1,.str n_8.1] [.box [.str v4.n,.str v4.m,.str v4.d,.str v4.c,.i v4.e]]) λn_9=>.all (λ(r:L8×Int)=>r=if Pr.e n_9.1≠0 then([],Pr.e n_9.1) else qX n_9.2.1 n_9.2.2) λn_10=>.R [.str n_10.1,.i n_10.2] [.box [.str n_9.1.n,.str n_9.1.m,.str n_9.1.d,.str n_9.1.c,.i n_9.1.e],.box [.ptr 0 0],.box [.fn (QOp.fn n.o) [] []],.box [.ptr 0 0],.box [.fn (QOp.fn n_6.o) [] []]]))))))))))))))) ?_;simp only [q32,q33,q34,q35,Tree.holds,zd];refine⟨(a,b),⟨⟨rfl,rfl,trivial⟩,trivial,by trivial,by show a.length<_; omega,by show b.length<_; omega⟩,⟨_,rfl⟩,?_⟩;intro p hp;have hc:=kp a b;obtain⟨l1,l2,l3,l4⟩:=yq a b;rw [<- hp] at hc l1 l2 l3 l4;refine⟨(p,.mul),⟨kx_k _,kx_b p,by trivial,trivial⟩,⟨(),trivial⟩,?_⟩;intro _ _;refine⟨(p,.add),⟨kx_k _,kx_b p,by trivial,trivial⟩,⟨(),trivial⟩,?_⟩;intro _ _
 iterate 6 refine⟨by decide,λ_=> ?_⟩
 refine⟨⟨p,.mul,p.n,p.c⟩,⟨kx_l _ _,kx_h (p) _,by trivial,by show(p.n).length<_; omega,by show(p.c).length<_; omega,by trivial⟩,⟨_,rfl⟩,?_⟩;intro r1 hr1;have kr1:=q7 _ _ _ _ hr1
 iterate 4 refine⟨rfl,λ_=> ?_⟩
 refine⟨⟨p.err r1.2,.mul,p.m,p.d⟩,⟨kx_l _ _,kx_h (p.err r1.2) _,by trivial,by show(p.m).length<_; omega,by show(p.d).length<_; omega,by trivial⟩,⟨_,rfl⟩,?_⟩;intro r2 hr2;have kr2:=q7 _ _ _ _ hr2
 iterate 2 refine⟨rfl,λ_=> ?_⟩
 refine⟨⟨(p.err r1.2).err r2.2,.add,r1.1,r2.1⟩,⟨kx_l _ _,kx_h ((p.err r1.2).err r2.2) _,by trivial,by show(r1.1).length<_; omega,by show(r2.1).length<_; omega,by trivial⟩,⟨_,rfl⟩,?_⟩;intro r3 hr3;have kr3:=q7 _ _ _ _ hr3
 iterate 2 refine⟨rfl,λ_=> ?_⟩
 refine⟨⟨((p.err r1.2).err r2.2).err r3.2,.mul,p.d,p.c⟩,⟨kx_l _ _,kx_h (((p.err r1.2).err r2.2).err r3.2) _,by trivial,by show(p.d).length<_; omega,by show(p.c).length<_; omega,by trivial⟩,⟨_,rfl⟩,?_⟩;intro r4 hr4;have kr4:=q7 _ _ _ _ hr4;refine⟨((((p.err r1.2).err r2.2).err r3.2).err r4.2,r3.1,r4.1),⟨kx_m _ _,kx_b _,by trivial,by show(r3.1).length<_; omega,by show(r4.1).length<_; omega⟩,⟨_,rfl⟩,?_⟩;intro r5 hr5;have hfin:=ZZ hc (λ{s t} =>zfl (s:=s) (t:=t)) hr1 hr2 hr3 hr4 hr5;have e:r5=addR a b:=hfin;rw [<- e] at hq;exact RetR.scal hq rfl (by simp [resV])
theorem KA:zc prog 43 zcg:=by
 refine ze' f43 λp hp O w0 Q hq=> ?_
 obtain⟨a,b⟩:=p;obtain⟨h1,h2⟩:=hp;replace hq:=hq _ rfl;simp only at h1 h2 hq;refine zb.n GQA.h [] (let v5:=[AV.ptr 1 0];.ex (q32 [.str a,.str b] []) λn=>.all (λ(r:Pr)=>r=jr n.1 n.2) λn=>.ex (q33 [.ptr 0 0,.fn 79 [] []] [.box [.str n.n,.str n.m,.str n.d,.str n.c,.i n.e]]) λn=>.A λn_1=>.ex (q33 [.ptr 0 0,.fn 80 [] []] [.box [.str n.1.n,.str n.1.m,.str n.1.d,.str n.1.c,.i n.1.e]]) λn_2=>.A λn_3=>.side ((0:Int)<=0/\(0:Int)<2) (.side ((0:Int)<=1/\(1:Int)<2) (.side ((0:Int)<=1/\(1:Int)<2) (.side ((0:Int)<=0/\(0:Int)<2) (.side ((0:Int)<=0/\(0:Int)<2) (.side ((0:Int)<=1/\(1:Int)<2) (.ex (q34 [.str n_2.1.n,.str n_2.1.c,.ptr 0 0,.ptr 2 0] [.box v5,.box [.str n_2.1.n,.str n_2.1.m,.str n_2.1.d,.str n_2.1.c,.i n_2.1.e],.box [.fn (QOp.fn n.2) [] []]]) λn=>.all (λ(r:L8×Int)=>r=if Pr.e n.p≠0 then([],Pr.e n.p) else QOp.op n.o n.x n.y) λn_4=>let v1:=Pr.err n.p n_4.2;.side (Pr.c v1=Pr.c n_2.1) (.side (Pr.d v1=Pr.d n_2.1) (.side (Pr.d v1=Pr.d n_2.1) (.side (Pr.m v1=Pr.m n_2.1) (.ex (q34 [.str n_2.1.m,.str n_2.1.d,.ptr 0 0,.ptr 2 0] [.box v5,.box [.str v1.n,.str v1.m,.str v1.d,.str v1.c,.i v1.e],.box [.fn (QOp.fn n.o) [] []]]) λn=>.all (λ(r:L8×Int)=>r=if Pr.e n.p≠0 then([],Pr.e n.p) else QOp.op n.o n.x n.y) λn_5=>let v3:=Pr.err n.p n_5.2;.side (Pr.c v3=Pr.c n_2.1) (.side (Pr.d v3=Pr.d n_2.1) (.ex (q34 [.str n_4.1,.str n_5.1,.ptr 0 0,.ptr 2 0] [.box v5,.box [.str v3.n,.str v3.m,.str v3.d,.str v3.c,.i v3.e],.box [.fn (QOp.fn n_2.2) [] []]]) λn_6=>.all (λ(r:L8×Int)=>r=if Pr.e n_6.p≠0 then([],Pr.e n_6.p) else QOp.op n_6.o n_6.x n_6.y) λn_7=>let v2:=Pr.err n_6.p n_7.2;.side (Pr.c v2=Pr.c n_2.1) (.side (Pr.d v2=Pr.d n_2.1) (.ex (q34 [.str n_2.1.d,.str n_2.1.c,.ptr 0 0,.ptr 2 0] [.box v5,.box [.str v2.n,.str v2.m,.str v2.d,.str v2.c,.i v2.e],.box [.fn (QOp.fn n.o) [] []]]) λn=>.all (λ(r:L8×Int)=>r=if Pr.e n.p≠0 then([],Pr.e n.p) else QOp.op n.o n.x n.y) λn_8=>let v4:=Pr.err n.p n_8.2;.ex (q35 [.ptr 0 0,.str n_7.1,.str n_8.1] [.box [.str v4.n,.str v4.m,.str v4.d,.str v4.c,.i v4.e]]) λn_9=>.all (λ(r:L8×Int)=>r=if Pr.e n_9.1≠0 then([],Pr.e n_9.1) else qX n_9.2.1 n_9.2.2) λn_10=>.R [.str n_10.1,.i n_10.2] [.box [.str n_9.1.n,.str n_9.1.m,.str n_9.1.d,.str n_9.1.c,.i n_9.1.e],.box [.ptr 0 0],.box [.fn (QOp.fn n.o) [] []],.box [.ptr 0 0],.box [.fn (QOp.fn n_6.o) [] []]]))))))))))))))) ?_;simp only [q32,q33,q34,q35,Tree.holds,zd];refine⟨(a,b),⟨⟨rfl,rfl,trivial⟩,trivial,by trivial,by show a.length<_; omega,by show b.length<_; omega⟩,⟨_,rfl⟩,?_⟩;intro p hp;have hc:=kp a b;obtain⟨l1,l2,l3,l4⟩:=yq a b;rw [<- hp] at hc l1 l2 l3 l4;refine⟨(p,.mul),⟨kx_k _,kx_b p,by trivial,trivial⟩,⟨(),trivial⟩,?_⟩;intro _ _;refine⟨(p,.sub),⟨kx_k _,kx_b p,by trivial,trivial⟩,⟨(),trivial⟩,?_⟩;intro _ _
 iterate 6 refine⟨by decide,λ_=> ?_⟩
 refine⟨⟨p,.mul,p.n,p.c⟩,⟨kx_l _ _,kx_h (p) _,by trivial,by show(p.n).length<_; omega,by show(p.c).length<_; omega,by trivial⟩,⟨_,rfl⟩,?_⟩;intro r1 hr1;have kr1:=q7 _ _ _ _ hr1
 iterate 4 refine⟨rfl,λ_=> ?_⟩
 refine⟨⟨p.err r1.2,.mul,p.m,p.d⟩,⟨kx_l _ _,kx_h (p.err r1.2) _,by trivial,by show(p.m).length<_; omega,by show(p.d).length<_; omega,by trivial⟩,⟨_,rfl⟩,?_⟩;intro r2 hr2;have kr2:=q7 _ _ _ _ hr2
 iterate 2 refine⟨rfl,λ_=> ?_⟩
 refine⟨⟨(p.err r1.2).err r2.2,.sub,r1.1,r2.1⟩,⟨kx_l _ _,kx_h ((p.err r1.2).err r2.2) _,by trivial,by show(r1.1).length<_; omega,by show(r2.1).length<_; omega,by trivial⟩,⟨_,rfl⟩,?_⟩;intro r3 hr3;have kr3:=q7 _ _ _ _ hr3
 iterate 2 refine⟨rfl,λ_=> ?_⟩
 refine⟨⟨((p.err r1.2).err r2.2).err r3.2,.mul,p.d,p.c⟩,⟨kx_l _ _,kx_h (((p.err r1.2).err r2.2).err r3.2) _,by trivial,by show(p.d).length<_; omega,by show(p.c).length<_; omega,by trivial⟩,⟨_,rfl⟩,?_⟩;intro r4 hr4;have kr4:=q7 _ _ _ _ hr4;refine⟨((((p.err r1.2).err r2.2).err r3.2).err r4.2,r3.1,r4.1),⟨kx_m _ _,kx_b _,by trivial,by show(r3.1).length<_; omega,by show(r4.1).length<_; omega⟩,⟨_,rfl⟩,?_⟩;intro r5 hr5;have hfin:=ZZ hc (λ{s t} =>zke (s:=s) (t:=t)) hr1 hr2 hr3 hr4 hr5;have e:r5=subR a b:=hfin;rw [<- e] at hq;exact RetR.scal hq rfl (by simp [resV])
theorem Vx:zc prog 48 zbt:=by
 refine ze' f48 λp hp O w0 Q hq=> ?_
 obtain⟨a,b⟩:=p;obtain⟨h1,h2⟩:=hp;replace hq:=hq _ rfl;simp only at h1 h2 hq;refine zb.n GQA.h [] (.ex (q32 [.str a,.str b] []) λn=>.all (λ(r:Pr)=>r=jr n.1 n.2) λn=>.ex (q33 [.ptr 0 0,.fn 79 [] []] [.box [.str n.n,.str n.m,.str n.d,.str n.c,.i n.e]]) λn=>.A λn_1=>.side ((0:Int)<=0/\(0:Int)<2) (.side ((0:Int)<=1/\(1:Int)<2) (.side ((0:Int)<=0/\(0:Int)<2) (.side ((0:Int)<=1/\(1:Int)<2) (.ex (q34 [.str n.1.n,.str n.1.m,.ptr 0 0,.ptr 2 0] [.box [.ptr 1 0],.box [.str n.1.n,.str n.1.m,.str n.1.d,.str n.1.c,.i n.1.e],.box [.fn (QOp.fn n.2) [] []]]) λn_2=>.all (λ(r:L8×Int)=>r=if Pr.e n_2.p≠0 then([],Pr.e n_2.p) else QOp.op n_2.o n_2.x n_2.y) λn_3=>let v1:=Pr.err n_2.p n_3.2;.side (Pr.c v1=Pr.c n.1) (.side (Pr.d v1=Pr.d n.1) (.ex (q34 [.str n.1.d,.str n.1.c,.ptr 0 0,.ptr 2 0] [.box [.ptr 1 0],.box [.str v1.n,.str v1.m,.str v1.d,.str v1.c,.i v1.e],.box [.fn (QOp.fn n_2.o) [] []]]) λn=>.all (λ(r:L8×Int)=>r=if Pr.e n.p≠0 then([],Pr.e n.p) else QOp.op n.o n.x n.y) λn_4=>let v2:=Pr.err n.p n_4.2;.ex (q35 [.ptr 0 0,.str n_3.1,.str n_4.1] [.box [.str v2.n,.str v2.m,.str v2.d,.str v2.c,.i v2.e]]) λn_5=>.all (λ(r:L8×Int)=>r=if Pr.e n_5.1≠0 then([],Pr.e n_5.1) else qX n_5.2.1 n_5.2.2) λn_6=>.R [.str n_6.1,.i n_6.2] [.box [.str n_5.1.n,.str n_5.1.m,.str n_5.1.d,.str n_5.1.c,.i n_5.1.e],.box [.ptr 0 0],.box [.fn (QOp.fn n.o) [] []]]))))))) ?_;simp only [q32,q33,q34,q35,Tree.holds,zd];refine⟨(a,b),⟨⟨rfl,rfl,trivial⟩,trivial,by trivial,by show a.length<_; omega,by show b.length<_; omega⟩,⟨_,rfl⟩,?_⟩;intro p hp;have hc:=kp a b;obtain⟨l1,l2,l3,l4⟩:=yq a b;rw [<- hp] at hc l1 l2 l3 l4;refine⟨(p,.mul),⟨kx_k _,kx_b p,by trivial,trivial⟩,⟨(),trivial⟩,?_⟩;intro _ _
 iterate 4 refine⟨by decide,λ_=> ?_⟩
 refine⟨⟨p,.mul,p.n,p.m⟩,⟨kx_l _ _,kx_h (p) _,by trivial,by show(p.n).length<_; omega,by show(p.m).length<_; omega,by trivial⟩,⟨_,rfl⟩,?_⟩;intro r1 hr1;have kr1:=q7 _ _ _ _ hr1
 iterate 2 refine⟨rfl,λ_=> ?_⟩
 refine⟨⟨p.err r1.2,.mul,p.d,p.c⟩,⟨kx_l _ _,kx_h (p.err r1.2) _,by trivial,by show(p.d).length<_; omega,by show(p.c).length<_; omega,by trivial⟩,⟨_,rfl⟩,?_⟩;intro r2 hr2;have kr2:=q7 _ _ _ _ hr2;refine⟨((p.err r1.2).err r2.2,r1.1,r2.1),⟨kx_m _ _,kx_b _,by trivial,by show(r1.1).length<_; omega,by show(r2.1).length<_; omega⟩,⟨_,rfl⟩,?_⟩;intro r3 hr3
 have hv:errR a=0->errR b=0->zo p.n p.m=0/\zo p.d p.c=0:=by
  intro ha hb;obtain⟨a1,a2,_⟩:=qH ha;obtain⟨b1,b2,_⟩:=qH hb;rcases hc with ⟨g1,g2⟩ | ⟨_,_,_,g1,g2,g3,g4⟩
  ·exact absurd g2 (by unfold zZ; rw [aP ha,hb]; exactλh=>g1 h.symm)
  ·rw [g1,g2,g3,g4]; exact⟨zh.2 ⟨a1,b1⟩,zh.2 ⟨a2,b2⟩⟩
 have hfin:=zep hc hr1 hr2 hr3 hv
 have e:r3=mulR a b:=by
  rw [hfin];unfold mulR;rcases hc with ⟨g1,g2⟩ | ⟨_,_,_,g1,g2,g3,g4⟩
  ·rw [aP (by rw [g2]; exact g1),aP (by rw [g2]; exact g1)]
  ·rw [g1,g2,g3,g4]
 rw [<- e] at hq;exact RetR.scal hq rfl (by simp [resV])
theorem zcm:zc prog 53 zh3:=by
 refine ze' f53 λp hp O w0 Q hq=> ?_
 obtain⟨a,b⟩:=p;obtain⟨h1,h2⟩:=hp;replace hq:=hq _ rfl;simp only at h1 h2 hq;refine zb.n GQA.h [] (.ex (q32 [.str a,.str b] []) λn=>.all (λ(r:Pr)=>r=jr n.1 n.2) λn=>.ex (q33 [.ptr 0 0,.fn 79 [] []] [.box [.str n.n,.str n.m,.str n.d,.str n.c,.i n.e]]) λn=>.A λn_1=>.side ((0:Int)<=0/\(0:Int)<2) (.side ((0:Int)<=1/\(1:Int)<2) (.side ((0:Int)<=1/\(1:Int)<2) (.side ((0:Int)<=0/\(0:Int)<2) (.ex (q34 [.str n.1.n,.str n.1.c,.ptr 0 0,.ptr 2 0] [.box [.ptr 1 0],.box [.str n.1.n,.str n.1.m,.str n.1.d,.str n.1.c,.i n.1.e],.box [.fn (QOp.fn n.2) [] []]]) λn_2=>.all (λ(r:L8×Int)=>r=if Pr.e n_2.p≠0 then([],Pr.e n_2.p) else QOp.op n_2.o n_2.x n_2.y) λn_3=>let v2:=Pr.err n_2.p n_3.2;.side (Pr.d v2=Pr.d n.1) (.side (Pr.m v2=Pr.m n.1) (.ex (q34 [.str n.1.m,.str n.1.d,.ptr 0 0,.ptr 2 0] [.box [.ptr 1 0],.box [.str v2.n,.str v2.m,.str v2.d,.str v2.c,.i v2.e],.box [.fn (QOp.fn n_2.o) [] []]]) λn=>.all (λ(r:L8×Int)=>r=if Pr.e n.p≠0 then([],Pr.e n.p) else QOp.op n.o n.x n.y) λn_4=>let v3:=Pr.err n.p n_4.2;let v1:List Blk:=[.box [.str v3.n,.str v3.m,.str v3.d,.str v3.c,.i v3.e],.box [.ptr 0 0],.box [.fn (QOp.fn n.o) [] []]];.N (Pr.e v3=(0:Int)) (.R [.i 0,.i v3.e] v1) (.ex (q17 [.str n_3.1,.str n_4.1]) λn_5=>.all (λ(r:Int×Int)=>r=kx n_5.1 n_5.2) λn_6=>.R [.i n_6.1,.i n_6.2] v1)))))))) ?_;simp only [q17,q32,q33,q34,Tree.holds,zd];refine⟨(a,b),⟨⟨rfl,rfl,trivial⟩,trivial,by trivial,by show a.length<_; omega,by show b.length<_; omega⟩,⟨_,rfl⟩,?_⟩;intro p hp;have hc:=kp a b;obtain⟨l1,l2,l3,l4⟩:=yq a b;rw [<- hp] at hc l1 l2 l3 l4;refine⟨(p,.mul),⟨kx_k _,kx_b p,by trivial,trivial⟩,⟨(),trivial⟩,?_⟩;intro _ _
 iterate 4 refine⟨by decide,λ_=> ?_⟩
 refine⟨⟨p,.mul,p.n,p.c⟩,⟨kx_l _ _,kx_h (p) _,by trivial,by show(p.n).length<_; omega,by show(p.c).length<_; omega,by trivial⟩,⟨_,rfl⟩,?_⟩;intro r1 hr1;have kr1:=q7 _ _ _ _ hr1
 iterate 2 refine⟨rfl,λ_=> ?_⟩
 refine⟨⟨p.err r1.2,.mul,p.m,p.d⟩,⟨kx_l _ _,kx_h (p.err r1.2) _,by trivial,by show(p.m).length<_; omega,by show(p.d).length<_; omega,by trivial⟩,⟨_,rfl⟩,?_⟩;intro r2 hr2;have kr2:=q7 _ _ _ _ hr2;have hfin:=zdv hc hr1 hr2;refine⟨λh=> ?_,λh=>⟨(r1.1,r2.1),⟨⟨rfl,rfl,trivial⟩,by show r1.1.length<_; omega,by show r2.1.length<_; omega⟩,⟨_,rfl⟩,?_⟩⟩
 ·have h:r2.2≠0:=by
   intro h0;have h':(!decide (r2.2=0))=true:=h;rw [h0] at h'; cases h'
  rw [aP h] at hfin;rw [<- hfin] at hq;exact RetR.scal hq rfl (by simp [resV,Pr.err])
 ·have h:r2.2=0:=by
   have h':(!decide (r2.2=0))=false:=h;cases hd:decide (r2.2=0) with
   | true=>exact aB hd
   | false=>rw [hd] at h'; cases h'
  rw [aO (by rw [h]; simp)] at hfin;rintro _ rfl;rw [<- hfin] at hq;exact RetR.scal hq rfl (by simp [resV])
end Go.Proofs.Tryz
end
section
namespace Go.Sx
variable [Stat]
section
variable {P:Program}
end
end Go.Sx
end
section
namespace Go.Sx
variable [Stat]
section
variable {P:Program} {Γ:Nat->Option Ctr} {fn:Func}
end
end Go.Sx
end
section
namespace Go.Nov
open Go.Sx
def cmpS(s t:L8):Int:=if Op.bytesLess s t then -1 else if s=t then 0 else 1
def cmpI(x y:Int):Int:=if x<y then -1 else if y<x then 1 else 0
def orI:List Int->Int
 | []=>0
 | x::l=>if x=0 then orI l else x
structure Fx where
 name:L8
 date:Int
 value:L8
structure Ch where
 zV:L8
 name:L8
 date:Int
 first:Bool
abbrev Fx.nil:Fx:=⟨[],0,[]⟩
abbrev Ch.nil:Ch:=⟨[],[],0,false⟩
def Fx.cell(f:Fx):Nat->AV
 | 0=>.str f.name
 | 1=>.i f.date
 | 2=>.str f.value
 | _=>.undef
def Ch.cell(c:Ch):Nat->AV
 | 0=>.str c.zV
 | 1=>.str c.name
 | 2=>.i c.date
 | 3=>.bool c.first
 | _=>.undef
def fxG(l:List Fx):Nat->Nat->AV:=λj=>(l.getD j Fx.nil).cell
def chG(l:List Ch):Nat->Nat->AV:=λj=>(l.getD j Ch.nil).cell
def Fx.av(f:Fx):AV:=.agg [.str f.name,.i f.date,.str f.value]
def Ch.av(c:Ch):AV:=.agg [.str c.zV,.str c.name,.i c.date,.bool c.first]
def fxS(l:List Fx):AV:=.sl l.length 3 (fxG l)
def chS(l:List Ch):AV:=.sl l.length 4 (chG l)
def envA(f:List Fx)(c:List Ch):AV:=.agg [fxS f,chS c]
def cmpF(a b:Fx):Int:=if cmpS a.name b.name=0 then cmpI a.date b.date else cmpS a.name b.name
def cmpC(a b:Ch):Int:=if cmpS a.zV b.zV=0 then(if cmpS a.name b.name=0 then cmpI a.date b.date else cmpS a.name b.name) else cmpS a.zV b.zV
end Go.Nov
namespace Go.Nov
def okF(f:Fx):Bool:=zY f.name&&dayB f.date&&decide (errR f.value=0)
def okC(c:Ch):Bool:=zY c.zV&&zY c.name&&dayB c.date
def idxB{α:Type}(p:α->Bool)(l:List α):Int:=if l.findIdx p<l.length then(l.findIdx p:Int) else -1
theorem XI{α:Type}(p:α->Bool)(l:List α):decide (0<=idxB p l)=l.any p:=by
 unfold idxB;by_cases h:l.findIdx p<l.length
 ·rw [aP h]
  have:l.any p=true:=by
   rw [List.any_eq_true];exact⟨_,bK h,List.findIdx_getElem (w:=h)⟩
  rw [this]; simp
 ·rw [aO h]
  have:l.any p=false:=by
   rw [List.any_eq_false];intro x hx hpx;exact h (List.findIdx_lt_length_of_exists ⟨x,hx,hpx⟩)
  rw [this]; rfl
theorem Ku{α:Type}{p:α->Bool}{l:List α}{z:α}{i:Nat}(hi:i<l.length)(h:p (l.getD i z)=true)(hb:∀ j,j<i->p (l.getD j z)=false):idxB p l=i:=by
 have hlt:l.findIdx p<l.length:=List.findIdx_lt_length_of_exists ⟨l[i],bK hi,by simpa [List.getD,hi] using h⟩
 have e:l.findIdx p=i:=by
  rcases Nat.lt_trichotomy (l.findIdx p) i with h1 | h1 | h1
  ·have h2:=List.findIdx_getElem (w:=hlt);have h3:=hb _ h1;simp only [List.getD,aF hlt,Option.getD_some] at h3;rw [h2] at h3; cases h3
  ·exact h1
  ·have h2:=List.not_of_lt_findIdx h1;simp only [List.getD,aF hi,Option.getD_some] at h;exact absurd h (by simpa using h2)
 unfold idxB;rw [aP hlt,e]
theorem Z2{α:Type}{p:α->Bool}{l:List α}{z:α}(hb:∀ j,j<l.length->p (l.getD j z)=false):idxB p l = -1:=by
 unfold idxB;rw [aO];intro h;have h2:=List.findIdx_getElem (w:=h);have h3:=hb _ h;simp only [List.getD,aF h,Option.getD_some] at h3;rw [h2] at h3; cases h3
end Go.Nov
namespace Go.Nov
def ordB{α:Type}(c:α->α->Int)(z:α)(l:List α):Bool:=(List.range (l.length - 1)).all λi=>decide (c (l.getD i z) (l.getD (i+1) z)<0)
theorem u0{α:Type}{c:α->α->Int}{z:α}{l:List α}(h:∀ j,j+1<l.length->c (l.getD j z) (l.getD (j+1) z)<0):ordB c z l=true:=by
 simp only [ordB,bG,List.mem_range,aK];exactλj hj=>h j (by omega)
theorem ue{α:Type}{c:α->α->Int}{z:α}{l:List α}{j:Nat}(hj:j+1<l.length)(h:¬ c (l.getD j z) (l.getD (j+1) z)<0):ordB c z l=false:=by
 simp only [ordB,List.all_eq_false,List.mem_range];exact⟨j,by omega,by simpa using h⟩
def errE(f:List Fx)(c:List Ch):Int:=if 1000<f.length\/1000<c.length then 4 else if(f.all okF&&c.all okC&&ordB cmpF Fx.nil f&&ordB cmpC Ch.nil c)=true then 0 else 8
end Go.Nov
namespace Go.Nov
theorem zb9{x y:Int} : cmpI x y<0↔x<y:=by
 unfold cmpI;split
 ·rename_i h; exact⟨λ_=>h,λ_=>by decide⟩
 ·rename_i h;split
  ·exact⟨λh2=>by omega,λh2=>absurd h2 h⟩
  ·exact⟨λh2=>by omega,λh2=>absurd h2 h⟩
theorem ZK{s t:L8}{n:Int}{b:Bool}(hb:b=decide (n<0)):(bif Op.bytesLess s t then true else bif decide (s=t) then b else false)=decide ((if cmpS s t=0 then n else cmpS s t)<0):=by
 unfold cmpS;cases Op.bytesLess s t with
 | true=>rfl
 | false=>
  by_cases h:s=t
  ·simp [h,hb]
  ·simp [h]
end Go.Nov
namespace Go.Nov
theorem Fx.eq_iff{a b:Fx} : (decide (a.name=b.name)&&(decide (a.date=b.date)&&(decide (a.value=b.value)&&true)))=true↔a=b:=by
 cases a; cases b;simp [Fx.mk.injEq]
theorem Ch.eq_iff{a b:Ch} : (decide (a.zV=b.zV)&&(decide (a.name=b.name)&&(decide (a.date=b.date)&&((a.first == b.first)&&true))))=true↔a=b:=by
 cases a; cases b;simp [Ch.mk.injEq]
theorem Xe{α:Type}{l m:List α}{z:α}(hl:l.length=m.length)(h:∀ j,j<l.length->l.getD j z=m.getD j z):l=m:=by
 apply List.ext_getElem hl;intro j h1 h2;have:=h j h1;simpa [List.getD,h1,h2] using this
end Go.Nov
end
section
namespace Go.Nov
open Go.Sx
theorem zg3:∀ s:L8,Op.bytesLess s s=false
 | []=>rfl
 | a::s=>by simp [Op.bytesLess,zg3 s]
theorem zkk{s t:L8} : cmpS s t<0↔Op.bytesLess s t=true:=by
 unfold cmpS;cases Op.bytesLess s t with
 | true=>simp
 | false=>by_cases h:s=t<;>simp [h]
theorem Qs{s t:L8} : cmpS s t=0↔s=t:=by
 unfold cmpS;cases hb:Op.bytesLess s t with
 | true=>
  simp only [if_true];refine⟨λh=>by omega,λh=> ?_⟩;subst h; rw [zg3] at hb; cases hb
 | false=>by_cases h:s=t<;>simp [h]
theorem zld{x y:Int} : cmpI x y=0↔x=y:=by
 unfold cmpI;split
 ·exact⟨λh=>by omega,λh=>by omega⟩
 ·split
  ·exact⟨λh=>by omega,λh=>by omega⟩
  ·exact⟨λ_=>by omega,λ_=>rfl⟩
theorem zkm{a b:Fx} : cmpF a b=0↔a.name=b.name/\a.date=b.date:=by
 unfold cmpF;by_cases h:cmpS a.name b.name=0
 ·rw [aP h,zld]; exact⟨λh2=>⟨Qs.1 h,h2⟩,λh2=>h2.2⟩
 ·rw [aO h]; exact⟨λh2=>absurd h2 h,λh2=>absurd (Qs.2 h2.1) h⟩
section
variable {α:Type} {c:α->α->Int} {z x:α}
end
theorem zgz{α:Type}{p:α->Bool}{z:α}{l:List α}(h:∀ j,j<l.length->p (l.getD j z)=true):l.all p=true:=by
 rw [bG];intro x hx;obtain⟨j,hj,rfl⟩:=List.getElem_of_mem hx;have:=h j hj;simpa [List.getD,hj] using this
theorem zau{α:Type}{p:α->Bool}{z:α}{l:List α}{j:Nat}(hj:j<l.length)(h:p (l.getD j z)=false):l.all p=false:=by
 rw [List.all_eq_false];exact⟨l[j],bK hj,by simpa [List.getD,hj] using h⟩
theorem zjf{f:List Fx}{c:List Ch}(hb:¬ (1000<f.length\/1000<c.length))(h:(f.all okF&&c.all okC&&ordB cmpF Fx.nil f&&ordB cmpC Ch.nil c)=false):errE f c=8:=by
 unfold errE;rw [aO hb,aO (by rw [h]; simp)]
theorem vj{f:List Fx}{c:List Ch} : errE f c=0↔¬ (1000<f.length\/1000<c.length)/\f.all okF=true/\c.all okC=true/\ordB cmpF Fx.nil f=true/\ordB cmpC Ch.nil c=true:=by
 unfold errE;by_cases hb:1000<f.length\/1000<c.length
 ·rw [aP hb]; simp [hb]
 ·rw [aO hb];by_cases h:(f.all okF&&c.all okC&&ordB cmpF Fx.nil f&&ordB cmpC Ch.nil c)=true
  ·rw [aP h];simp only [bA] at h;exact⟨λ_=>⟨hb,h.1.1.1,h.1.1.2,h.1.2,h.2⟩,λ_=>rfl⟩
  ·rw [aO h];refine⟨λh2=>by omega,λh2=>absurd ?_ h⟩;simp [h2.2.1,h2.2.2.1,h2.2.2.2.1,h2.2.2.2.2]
def zP(l:List Fx)(a:L8)(d:Int):L8×Bool:=match l.find? λx=>decide (x.name=a)&&decide (x.date=d) with
 | some x=>(x.value,true)
 | none=>([],false)
theorem zc9{α:Type}{p:α->Bool}{l:List α}{z:α}{i:Nat}(hi:i<l.length)(h:p (l.getD i z)=true)(hb:∀ j,j<i->p (l.getD j z)=false):l.find? p=some (l.getD i z):=by
 induction l generalizing i with
 | nil=>simp at hi
 | cons a l ih=>
  cases i with
  | zero=>simp only [List.getD_cons_zero] at h ⊢; simp [h]
  | succ i=>
   have h0:=hb 0 (by omega);simp only [List.getD_cons_zero,List.getD_cons_succ] at h h0 ⊢;rw [List.find?_cons,h0];exact ih (by simpa using hi) h λj hj=>by have:=hb (j+1) (by omega); simpa using this
theorem zm9{α:Type}{p:α->Bool}{l:List α}{z:α}(hb:∀ j,j<l.length->p (l.getD j z)=false):l.find? p=none:=by
 rw [List.find?_eq_none];intro x hx;obtain⟨j,hj,rfl⟩:=List.getElem_of_mem hx;have:=hb j hj;simpa [List.getD,hj] using this
end Go.Nov
end
section
namespace Go.Nov
theorem zo3{b:L8}(h:allD b)(hn:b≠[])(hz:b.getD 0 0≠48):numD b≠0/\txt (numD b)=b:=by
 have hd:=zfp h;have hl:0<b.length:=List.length_pos_iff.2 hn
 have htl:Ten.tlen (dg b)=(dg b).length:=by
  rcases aR (Ten.tlen (dg b)) (dg b).length with h1 | h1
  ·exfalso;have h2:=Ten.jd (dg b) ((dg b).length - 1) (by omega);rw [xv] at h2
   have e:(dg b).getD (b.length - 1) 0=(b.getD 0 0).toNat - 48:=by
    simp only [dg,List.getD_eq_getElem?_getD];rw [List.getElem?_reverse (by simp; omega)];simp [aF hl,show b.length - 1 - (b.length - 1)=0 by omega]
   rw [e] at h2
   have h3:48<=(b.getD 0 0).toNat:=by
    cases b with
    | nil=>exact absurd rfl hn
    | cons c r=>exact(h c (by simp)).1
   apply hz;apply UInt8.toNat_inj.1;show _=48;omega
  ·exact Nat.le_antisymm (Ten.qe _) h1
 have hc:dec (numD b)=dg b:=by
  rw [<- Kf];exact Ten.WZ hd htl
 have h0:numD b≠0:=by
  intro h0;rw [h0] at hc;have:dg b=[]:=by rw [<- hc]; exact Ten.zO
  have:=congrArg List.length this;rw [xv,List.length_nil] at this;omega
 refine⟨h0,?_⟩;rw [uh h0,hc,dg,<- List.map_reverse,List.reverse_reverse,List.map_map]
 conv=>rhs; rw [<- List.map_id b]
 refine List.map_congr_left λc hcm=> ?_
 obtain⟨h1,h2⟩:=h c hcm;apply UInt8.toNat_inj.1;simp only [Function.comp,id];rw [Qp (by omega)];omega
theorem zaf{s:L8}(h:errI s=0):wr (negI s) (numI s)=(s,0):=by
 obtain⟨neg,b,h1,h2,h3,h4,h5,h6⟩:=Qw h;have e1:negI s=neg:=by simp [negI,h2]
 have e2:numI s=numD b:=by simp [numI,h2]
 rw [e1,e2];by_cases hz:b.getD 0 0=48
 ·have hb:b=[48]:=by
   cases b with
   | nil=>exact absurd rfl h5
   | cons c r=>
    cases r with
    | nil=>have:c=48:=hz; rw [this]
    | cons d r=>rw [vS hz (by simp)] at h3; cases h3
  subst hb;cases neg with
  | true=>cases h3
  | false=>rw [h1]; rfl
 ·obtain⟨g1,g2⟩:=zo3 h4 h5 hz;unfold wr;rw [aO g1,g2,aO,h1];have:=y4 g1;rw [g2] at this;omega
def zI(s:L8):Int:=if negI s then -(numI s:Int) else numI s
theorem qT(s:L8):(zI s).natAbs=numI s:=by unfold zI; split<;>simp
theorem yg{s:L8}(h:errI s=0):negI s=decide (zI s<0):=by
 unfold zI;cases hn:negI s with
 | false=>simp
 | true=>
  simp only [if_true]
  have:numI s≠0:=by
   intro h0;have:=(wS h).2 h0;rw [this] at hn;cases hn
  exact(aX (by omega)).symm
def wz(z:Int):L8×Int:=wr (decide (z<0)) z.natAbs
theorem yw{s:L8}(h:errI s=0):wz (zI s)=(s,0):=by
 unfold wz;rw [qT,<- yg h,zaf h]
theorem zpi{neg:Bool}{x:Nat}(h:(wr neg x).2=0):zI (wr neg x).1=if neg then -(x:Int) else x:=by
 obtain⟨h1,h2,h3⟩:=ZV h;unfold zI;rw [h2,h3];by_cases h0:x=0
 ·subst h0; simp
 ·cases neg<;>simp [h0]
theorem jK{z:Int}(h:(wz z).2=0):zI (wz z).1=z:=by
 unfold wz at h ⊢;rw [zpi h];by_cases hz:z<0
 ·rw [aX hz]; simp only [if_true]; omega
 ·rw [aW hz]; simp only [Bool.false_eq_true,if_false]; omega
theorem jS{z:Int}(h:(wz z).2=0):errI (wz z).1=0:=(ZV h).1
theorem WU{neg:Bool}{x:Nat} : wr neg x=wz (if neg then -(x:Int) else x):=by
 unfold wz;by_cases h0:x=0
 ·subst h0;cases neg<;>rfl
 ·cases neg with
  | false=>simp only [Bool.false_eq_true,if_false,Int.natAbs_natCast]; rw [aW (by omega)]
  | true=>simp only [if_true,Int.natAbs_neg,Int.natAbs_natCast]; rw [aX (by omega)]
theorem zgt(m:Bool)(x:Nat)(n:Bool)(y:Nat):(if(sumS m x n y).1 then -((sumS m x n y).2:Int) else(sumS m x n y).2)=(if m then -(x:Int) else x)+(if n then -(y:Int) else y):=by
 unfold sumS;by_cases h:m=n
 ·subst h;rw [aP rfl];cases m<;>simp<;>omega
 ·rw [aO h];by_cases h2:y<=x
  ·rw [aP h2];cases m<;>cases n<;>first | exact absurd rfl h | (simp; omega)
  ·rw [aO h2];cases m<;>cases n<;>first | exact absurd rfl h | (simp; omega)
theorem zk0{s t:L8}(h:zo s t=0):addI s t=wz (zI s+zI t):=by
 unfold addI;rw [aP h,WU,zgt]; rfl
theorem zjo{s t:L8}(h:zo s t=0):subI s t=wz (zI s - zI t):=by
 unfold subI;rw [aP h,WU,zgt];congr 1;unfold zI;cases negI s<;>cases negI t<;>simp<;>omega
theorem kG{s t:L8}(h:zo s t=0):mulI s t=wz (zI s*zI t):=by
 unfold mulI;rw [aP h,WU];congr 1;unfold zI;cases negI s<;>cases negI t<;>simp [Int.neg_mul,Int.mul_neg]
theorem zoa(m:Bool)(x:Nat)(n:Bool)(y:Nat)(hm:m=true->x≠0)(hn:n=true->y≠0):cmpZ m x n y=cmpI (if m then -(x:Int) else x) (if n then -(y:Int) else y):=by
 unfold cmpZ cmpI cmpN;cases m<;>cases n
 ·simp only [Bool.false_eq_true,false_and,if_false]
  repeat' split
  all_goals first | rfl | omega
 ·have:=hn rfl;simp only [Bool.false_eq_true,false_and,if_false,true_and,and_self,if_true]
  repeat' split
  all_goals first | rfl | omega
 ·have:=hm rfl;simp only [and_self,if_true,Bool.false_eq_true,if_false]
  repeat' split
  all_goals first | rfl | omega
 ·simp only [Bool.true_eq_false,and_false,if_false,if_true]
  repeat' split
  all_goals first | rfl | omega
def qv(a:L8):Rat:=Rat.divInt (zI (numR a)) (zI (denR a))
def qstr(r:Rat):L8:=if r.den=1 then(wz r.num).1 else(wz r.num).1++[47]++(wz r.den).1
def vO(r:Rat):Prop:=room r.num.natAbs/\room r.den
theorem zj4(neg:Bool)(x:Nat):∀ c∈(wr neg x).1,c≠47:=by
 intro c hc h;subst h;unfold wr at hc;split at hc
 ·simp at hc
 ·rename_i h0;split at hc
  ·simp at hc
  ·have ht:¬ (47:UInt8)∈txt x:=λhm=>by
    have:=(zcf h0 _ hm).1;have e:(47:UInt8).toNat=47:=rfl;omega
   cases neg<;>simp [sgn] at hc<;>exact ht hc
theorem zi0{u v:L8}(h:∀ c∈u,c≠47):cutR (u++[47]++v)=(u,v,true):=by
 have hs:z8 (u++[47]++v)=u.length:=by
  refine Xc (by simp) (by simp [List.getD]) λj hj=> ?_
  rw [List.append_assoc];simp only [List.getD,bL hj,aF hj,Option.getD_some];exact h _ (bK hj)
 rw [Ql (by rw [hs]; simp),hs];simp
theorem zds{u:L8}(h:∀ c∈u,c≠47):cutR u=(u,[],false):=by
 have hs:z8 u=u.length:=Jm λj hj=>by
  simp only [List.getD,aF hj,Option.getD_some];exact h _ (bK hj)
 exact V3 (by omega)
theorem XZ(z:Int):∀ c∈(wz z).1,c≠47:=zj4 _ _
theorem yk{z:Int}(h:room z.natAbs):(wz z).2=0:=v7 h
theorem zoy:wz 1=([49],0):=kZ
theorem yI{r:Rat}(h:vO r):numR (qstr r)=(wz r.num).1/\denR (qstr r)=(wz (r.den:Int)).1/\(cutR (qstr r)).2.2=decide (r.den≠1):=by
 unfold qstr;by_cases h1:r.den=1
 ·rw [aP h1];have:=zds (XZ r.num);unfold numR denR;rw [this,h1];exact⟨rfl,by simp only [Bool.false_eq_true,if_false]; exact(congrArg Prod.fst zoy).symm,by simp⟩
 ·rw [aO h1];have:=zi0 (v:=(wz (r.den:Int)).1) (XZ r.num);unfold numR denR;rw [this];exact⟨rfl,rfl,by simp [h1]⟩
theorem uE{r:Rat}(h:vO r):qv (qstr r)=r:=by
 obtain⟨h1,h2,_⟩:=yI h;unfold qv;rw [h1,h2,jK (yk h.1),jK (yk (by rw [Int.natAbs_natCast]; exact h.2)),Rat.divInt_ofNat,Rat.mkRat_self]
theorem kN{r:Rat}(h:vO r):errR (qstr r)=0:=by
 obtain⟨h1,h2,h3⟩:=yI h;have e1:=jS (yk h.1);have e2:errI (wz (r.den:Int)).1=0:=jS (yk (by rw [Int.natAbs_natCast]; exact h.2));have z1:=jK (yk h.1);have z2:zI (wz (r.den:Int)).1=r.den:=jK (yk (by rw [Int.natAbs_natCast]; exact h.2));unfold errR;by_cases hd:r.den=1
 ·rw [h3,hd];simp only [ne_eq,not_true_eq_false,decide_false,Bool.false_eq_true,if_false];unfold qstr;rw [aP hd];exact e1
 ·have hc:(cutR (qstr r)).2.2=true:=by rw [h3]; simp [hd]
  have n1:(cutR (qstr r)).1=(wz r.num).1:=h1;have n2:(cutR (qstr r)).2.1=(wz (r.den:Int)).1:=by unfold denR at h2; rw [hc] at h2; exact h2
  rw [hc,aP rfl,n1,n2];have hp:=r.den_pos;have hneg:negI (wz (r.den:Int)).1=false:=by rw [yg e2,z2]; exact aW (by omega)
  have hn48:(wz (r.den:Int)).1≠[48]:=λh=>by
   rw [h] at z2;have:zI [48]=0:=rfl;omega
  have hn49:(wz (r.den:Int)).1≠[49]:=λh=>by
   rw [h] at z2;have:zI [49]=1:=rfl;omega
  rw [aO (by simp [e1,e2,hneg,hn48,hn49]),aO (by simp [e1,e2])]
  have hg:gcdR (wz r.num).1 (wz (r.den:Int)).1=wr false (Nat.gcd r.num.natAbs r.den):=by
   unfold gcdR;rw [aP (zh.2 ⟨e1,e2⟩),<- qT,<- qT,z1,z2,Int.natAbs_natCast]
  have hr:Nat.gcd r.num.natAbs r.den=1:=r.reduced;rw [hg,hr,kZ,aO (by simp)]
theorem kg{a:L8}(h:errR a=0):(qv a).num=zI (numR a)/\((qv a).den:Int)=zI (denR a)/\qstr (qv a)=a/\vO (qv a):=by
 obtain⟨e1,e2,e3,e4⟩:=qH h;have hz:zI (denR a)=numI (denR a):=by unfold zI; rw [e3]; rfl
 have hcop:Nat.gcd (numI (numR a)) (numI (denR a))=1:=by
  unfold errR at h;cases hc:(cutR a).2.2 with
  | true=>
   rw [hc,aP rfl] at h;have hd:denR a=(cutR a).2.1:=by unfold denR; rw [hc]; rfl
   rw [hd] at e2 e4 ⊢;unfold numR at e1 ⊢;split at h
   ·cases h
   split at h
   ·cases h
   split at h
   ·cases h
   ·rename_i hg;rw [Classical.not_not] at hg;unfold gcdR at hg;rw [aP (zh.2 ⟨e1,e2⟩)] at hg;exact(J8 (J6 e2 e4).2).1 hg
  | false=>
   have:denR a=[49]:=by unfold denR; rw [hc]; rfl
   rw [this];exact Nat.gcd_one_right _
 have hq:qv a=⟨zI (numR a),numI (denR a),e4,by rw [qT]; exact hcop⟩:=by
  unfold qv;rw [hz,Rat.mk_eq_divInt]
 have hroom:vO (qv a):=by
  rw [hq];exact⟨by show room (zI (numR a)).natAbs; rw [qT]; exact qZ e1,qZ e2⟩
 refine⟨by rw [hq],by rw [hq,hz],?_,hroom⟩;rw [hq];unfold qstr;simp only;rw [<- hz,yw e1,yw e2];cases hc:(cutR a).2.2 with
 | true=>
  have hd:denR a=(cutR a).2.1:=by unfold denR; rw [hc]; rfl
  have hn1:numI (denR a)≠1:=by
   intro h1
   have:denR a=[49]:=by
    have:=(zaf e2);rw [e3,h1,kZ] at this;exact(congrArg Prod.fst this).symm
   unfold errR at h;rw [hc,aP rfl,aP (by rw [<- hd,this]; simp)] at h;cases h
  rw [aO hn1,hd];simp only [numR];unfold cutR at hc ⊢;split at hc
  ·rename_i hs;rw [aP hs];simp only;have h47:=QZ hs
   have:a=a.take (z8 a)++([a.getD (z8 a) 0]++a.drop (z8 a+1)):=by
    conv=>lhs; rw [<- bU (z8 a) a]
    congr 1;rw [List.drop_eq_getElem_cons hs];simp [List.getD,aF hs]
   rw [h47] at this;rw [List.append_assoc];exact this.symm
  ·cases hc
 | false=>
  have hd:denR a=[49]:=by unfold denR; rw [hc]; rfl
  rw [hd];have:numI [49]=1:=rfl;rw [aP this];unfold numR;unfold cutR at hc ⊢;split at hc
  ·cases hc
  ·rename_i hs;rw [aO hs]
theorem zh5{a b:L8}(ha:errR a=0)(hb:errR b=0)(h:qv a=qv b):a=b:=by
 rw [<- (kg ha).2.2.1,<- (kg hb).2.2.1,h]
end Go.Nov
end
