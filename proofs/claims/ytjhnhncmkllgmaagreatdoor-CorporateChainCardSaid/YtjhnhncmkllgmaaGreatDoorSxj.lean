/- Part 10 of the proof. -/
import Derived.Test.YtjhnhncmkllgmaaGreatDoorSxi
set_option linter.unusedVariables false
set_option linter.unusedSimpArgs false
set_option linter.unusedSectionVars false
section
set_option maxRecDepth 100000
open Go Go.Sx Go.Proofs Go.Nov
namespace Go.Proofs.Tryz
attribute [local simp] eqKV eqA eqA0 eqH eqB eqL eqL0
noncomputable def K34:=Go.Sx.aA f34
noncomputable def K11:=Go.Sx.aA f11
def bf1C:Ctr:=ctrP true (λp:Fx×L8=>[p.1.av,.str p.2]) (λ_=>True) (λp r=>r=if Op.bytesLess p.2 p.1.name=true then 1 else -1) (λ_ (r:Int)=>(.i r,[]))
theorem zud:zc prog 35 bf1C:=by
 refine zf' f35 λp hp O w0 Q hq=> ?_
 obtain⟨f,s⟩:=p;replace hq:=hq _ rfl;simp only at hq;refine zb.n zD [] (let v1:List Blk:=[.box [.str f.name,.i f.date,.str f.value]];.ite (Op.bytesLess f.name s||decide (Fx.name f=s)) (.R [.i (-1:Int)] v1) (.R [.i 1] v1)) ?_;simp only [Tree.holds,ze]
 have key:(Op.bytesLess f.name s||decide (f.name=s)) = !Op.bytesLess s f.name:=by
  rcases Xi f.name s with h | h | h
  ·have h2:Op.bytesLess s f.name=false:=Bool.eq_false_iff.2 λg=>by have:=yf h g; rw [ye] at this; cases this
   rw [h,h2]; rfl
  ·rw [h,ye]; simp
  ·have h2:Op.bytesLess f.name s=false:=Bool.eq_false_iff.2 λg=>by have:=yf h g; rw [ye] at this; cases this
   rw [h,h2];have:f.name≠s:=λe=>by rw [e,ye] at h; cases h
   simp [this]
 rw [key];cases hb:Op.bytesLess s f.name with
 | true=>
  rw [hb,aP rfl] at hq;exact⟨λh=>by simp at h,λ_=>RetR.scal hq rfl (by simp [resV])⟩
 | false=>
  rw [hb,aO (by simp)] at hq;exact⟨λ_=>RetR.scal hq rfl (by simp [resV]),λh=>by simp at h⟩
theorem ztm{a:Ca}{l:List Fx}(hs:l.Pairwise λx y=>cmpF x y<0){j:Nat}(hj:j<l.length):Op.bytesLess a.name (l.getD j Fx.nil).name=decide (a.at_ l<=j):=by
 obtain⟨h1,h2⟩:=Ca.zl2 (a:=a) hs;have e:l.getD j Fx.nil=l[j]:=by simp [List.getD,hj]
 rw [e];by_cases h:a.at_ l<=j
 ·rw [aX h];refine h2 _ ?_;rw [List.mem_iff_getElem];exact⟨j - a.at_ l,by rw [bV]; omega,by rw [List.getElem_drop]; congr 1; omega⟩
 ·rw [aW h];refine h1 _ ?_;rw [List.mem_iff_getElem];exact⟨j,by rw [aH]; omega,by rw [List.getElem_take]⟩
noncomputable def GBs:=tb zud tz
def bsC:Ctr:=ctrP true (λp:List Fx×Ca=>[fxS p.1,.str p.2.name,.fn 35 [] []]) (λp=>p.1.length<2^40/\p.1.Pairwise λx y=>cmpF x y<0) (λp (r:Nat×Bool)=>r.1=p.2.at_ p.1) (λ_ (r:Nat×Bool)=>(.tup [.i (r.1:Int),.bool r.2],[]))
def SBs(l:List Fx)(a:Ca)(i j:Nat):KV:=[(0,fxS l),(1,.str a.name),(2,.fn 35 [] []),(8,.i (l.length:Int)),(9,.i (i:Int)),(10,.i (j:Int)),Z 40,Z 41,Z 42,Z 43,Z 44,Z 45,Z 46,Z 47]
abbrev q49(A:List AV)(x:Fx×L8):Prop:=eqL A [.agg [.str x.1.name,.i x.1.date,.str x.1.value],.str x.2]/\True
theorem zvk:zc prog 34 bsC:=by
 refine zf' f34 λp hp O w0 Q hq=> ?_
 obtain⟨l,a⟩:=p;obtain⟨hl,hs⟩:=hp;simp only at hl hs hq;refine zb.n GBs.h [0,1,2,8,9,10,40,41,42,43,44,45,46,47] (.leaf (.loop (lps K34 0).1 (lps K34 0).2 [(0,.sl l.length 3 (fxG l)),(1,.str a.name),(2,.fn 35 [] []),(8,.i l.length),(9,.i 0),(10,.i l.length),Z 40,Z 41,Z 42,Z 43,Z 44,Z 45,Z 46,Z 47] [])) ?_;simp only [Tree.holds,ze,inR,lo,hi,aD];refine zb.loop (ι:={p:Nat×Nat // p.1<=p.2/\p.2<=l.length/\p.1<=a.at_ l/\a.at_ l<=p.2}) (λi=>SBs l a i.1.1 i.1.2) (λ_=>[]) (λi=>i.1.2 - i.1.1) ⟨(0,l.length),aI _,aJ _,aI _,Ca.YE⟩ 0 ?_ ?_ (by kernel_rfl)
 ·exact⟨by simp [SBs,fxS,za],trivial,by kernel_rfl,aI _⟩
 ·rintro⟨⟨i,j⟩,hij,hjl,hia,haj⟩;simp only at hij hjl hia haj;refine zb.n GBs.h [0,1,2,8,9,10,40,41,42,43,44,45,46,47] (let v4:=Int.fdiv ((i:Int)+j) (2:Int)+(1:Int);let v2:=l.getD (i:Int).toNat Fx.nil;let v1:=Int.fdiv ((i:Int)+j) (2:Int);let v3:=l.getD (Int.toNat v1) Fx.nil;.D ((i:Int)<j) (.S ((i:Int)+j) (.side (inR .u64 ((i:Int)+j)) (.side ((0:Int)<=1/\(1:Int)<=64) (.S v1 (.side ((0:Int)<=Int.fdiv ((i:Int)+j) (2:Int)/\Int.fdiv ((i:Int)+j) (2:Int)<l.length) (.ex (q49 [.agg [.str v3.name,.i v3.date,.str v3.value],.str a.name]) λn=>.all (λ(r:Int)=>r=if Op.bytesLess n.2 n.1.name=true then(1:Int) else(-1:Int)) λn=>.D (n<0) (.S v4 (.leaf (.back 0 [(0,.sl l.length 3 (fxG l)),(1,.str a.name),(2,.fn 35 [] []),(8,.i l.length),(9,.i v4),(10,.i j),Z 40,Z 41,Z 42,Z 43,Z 44,Z 45,Z 46,Z 47] []))) (.leaf (.back 0 [(0,.sl l.length 3 (fxG l)),(1,.str a.name),(2,.fn 35 [] []),(8,.i l.length),(9,.i i),(10,.i v1),Z 40,Z 41,Z 42,Z 43,Z 44,Z 45,Z 46,Z 47] [])))))))) (.side (decide ((i:Int)<l.length)=true->(0:Int)<=i/\(i:Int)<l.length) (.ex (λ(x:Fx×L8)=>decide ((i:Int)<l.length)=true->q49 [.agg [.str v2.name,.i v2.date,.str v2.value],.str a.name] x) λn=>.all (λ(x:Int)=>decide ((i:Int)<l.length)=true->x=if Op.bytesLess n.2 n.1.name=true then(1:Int) else(-1:Int)) λn=>.R [.i i,.bool (bif decide ((i:Int)<l.length) then decide (n=0) else false)] []))) ?_;simp only [q49,Tree.holds,ze,inR,lo,hi,aD]
  have hm:((i:Int)+j).fdiv 2=(((i+j)/2:Nat):Int):=by
   rw [Int.fdiv_eq_ediv_of_nonneg _ (by decide)]; omega
  refine⟨λh=> ?_,λh=> ?_⟩
  ·have h:=aB h;rw [hm];obtain⟨m,hmd⟩:∃ m,(i+j)/2=m:=⟨_,rfl⟩;have hml:m<j:=by omega
   have hmi:i<=m:=by omega
   rw [hmd];simp only [aD];refine⟨by omega,λ_=>⟨by omega,λ_=>⟨by omega,λ_=>⟨by omega,λ_=>⟨by omega,λ_=>⟨(l.getD m Fx.nil,a.name),⟨by simp,trivial⟩,⟨_,rfl⟩,?_⟩⟩⟩⟩⟩⟩;rintro _ rfl;rw [ztm hs (show m<l.length by omega)];refine⟨λh2=>⟨by omega,λ_=> ?_⟩,λh2=> ?_⟩
   ·have h2:=aB h2;have h3:¬ a.at_ l<=m:=λg=>by rw [aX g] at h2; simp at h2
    rw [aP trivial];exact⟨⟨(m+1,j),by show m+1<=j; omega,hjl,by show m+1<=a.at_ l; omega,haj⟩,by show j - (m+1)<j - i; omega,by simp [SBs,fxS,za],trivial,by kernel_rfl,aI _⟩
   ·have h2:=aC h2;have h3:a.at_ l<=m:=Classical.byContradiction λg=>by rw [aW g] at h2; simp at h2
    rw [aP trivial];exact⟨⟨(i,m),hmi,by show m<=l.length; omega,hia,h3⟩,by show m - i<j - i; omega,by simp [SBs,fxS,za],trivial,by kernel_rfl,aI _⟩
  ·have h:=aC h;have e:i=a.at_ l:=by omega
   refine⟨λh=>by have:=aB h; omega,λ_=>⟨(l.getD i Fx.nil,a.name),λ_=>⟨by simp,trivial⟩,⟨_,λ_=>rfl⟩,λn hn=> ?_⟩⟩;exact RetR.scal (hq (i,decide ((i:Int)<l.length)&&decide (n=0)) e) rfl (by simp [resV])
def SCb(f:List Fx)(k m i:Nat):KV:=[(2,.ptr 0 0),(4,.ptr 2 0),(8,.osl 5 3 0 m),(9,.ptr 4 0),(33,fxS f),(34,.i (f.length:Int)),(35,.i (i:Int)),Z 45,Z 46,Z 47,Z 48,Z 49,Z 77,Z 78,Z 79,Z 80,Z 81]
def HCb(a:Ca)(f:List Fx)(c:List Ch)(k m:List Fx):Heap:=[.box [.str a.name,.str a.into,.i a.date,.str a.ratio,.str a.extra],.box [fxS f,chS c],.box [.nils,.nils],.arr c.length 4 (chG c),.box [.osl 6 3 0 k.length,.osl 3 4 0 c.length],.arr m.length 3 (fxG m),.arr k.length 3 (fxG k)]
def Ue:Ctr:=ctrP true (λp:Ca×(List Fx×List Ch)=>[p.1.av,envA p.2.1 p.2.2]) (λp=>jE p.1/\envP p.2/\p.2.1.length<=1000000) (λp r=>r=p.1.before p.2.1 p.2.2) (λ_ (r:(List Fx×List Ch)×Int)=>(.tup [.agg [.osl 0 3 0 r.1.1.length,.osl 1 4 0 r.1.2.length],.i r.2],[.arr r.1.1.length 3 (fxG r.1.1),.arr r.1.2.length 4 (chG r.1.2)]))
noncomputable def GBf:=tb xD (tb ZZ (tb zgt (tb zau (tb zvk (tb zri tz)))))
abbrev q50(A:List AV)(x:List Fx×List Ch):Prop:=eqL A [.agg [.sl x.1.length 3 (fxG x.1),.sl x.2.length 4 (chG x.2)]]/\envP x
theorem zcx:zc prog 11 Ue:=by
 refine uX (fn:=f11) (c:=f11.body.getD .skip) rfl rfl rfl λp hp O w0 Q hq=> ?_
 obtain⟨a,f,c⟩:=p;obtain⟨ha,he,hfl⟩:=hp;replace hq:=hq _ rfl;simp only at ha he hfl hq;refine zb.n GBf.h [2,4,8,9,33,34,35,45,46,47,48,49,77,78,79,80,81] (let v3:List AV:=[.nils,.nils];let v2:List AV:=[.sl f.length 3 (fxG f),.sl c.length 4 (chG c)];let v1:List AV:=[.str a.name,.str a.into,.i a.date,.str a.ratio,.str a.extra];.ex (q47 [.agg [.str a.name,.str a.into,.i a.date,.str a.ratio,.str a.extra]]) λn=>.all (λ(r:Int)=>r=if Ca.ok n=true then(0:Int) else(8:Int)) λn=>.N (n=0) (.R [.agg v3,.i n] [.box v1,.box v2,.box v3]) (.ex (q50 [.agg [.sl f.length 3 (fxG f),.sl c.length 4 (chG c)]]) λn=>.all (λ(r:Int)=>r=errE n.1 n.2) λn=>.N (n=0) (.R [.agg v3,.i n] [.box v1,.box v2,.box v3]) (.ex (λ(x:List Ch)=>eqL [.sl c.length 4 (chG c)] [.sl x.length 4 (chG x)]/\x.length<1099511627776) λn=>.A λn_1=>.leaf (.loop (lps K11 0).1 (lps K11 0).2 [(2,.ptr 0 0),(4,.ptr 2 0),(8,.nils),(9,.ptr 4 0),(33,.sl f.length 3 (fxG f)),(34,.i f.length),(35,.i 0),Z 45,Z 46,Z 47,Z 48,Z 49,Z 77,Z 78,Z 79,Z 80,Z 81] [.box v1,.box v2,.box v3,.arr n.length 4 (chG n),.box [.nils,.osl 3 4 0 n.length]])))) ?_;simp only [q47,q50,Tree.holds,ze,inR,lo,hi,aD]
 have bad:∀ (e:Int) (h:Heap),a.before f c=(([],[]),e)->RetR Ue 0 (upQ Q) [.agg [.nils,.nils],.i e] h:=λe h hr=>by
  rw [hr] at hq;exact zpe e h hq
 refine⟨a,⟨by simp [Ca.av],ha⟩,⟨_,rfl⟩,?_⟩;rintro _ rfl;by_cases hok:¬ a.ok=true
 ·rw [aO hok];refine⟨λ_=>bad _ _ ?_,λh=>by simp at h⟩;unfold Ca.before; rw [aP (by simpa using hok)]
 replace hok:a.ok=true:=Classical.not_not.1 hok;rw [aP hok];refine⟨λh=>by simp at h,λ_=>⟨(f,c),⟨by simp [za],he⟩,⟨_,rfl⟩,?_⟩⟩;rintro _ rfl;refine⟨λh=> ?_,λh=> ?_⟩
 ·have h:errE f c≠0:=by simpa using h
  refine bad _ _ ?_;unfold Ca.before; rw [aO (by simp [hok]),aP h]
 have hE:errE f c=0:=by simpa using h
 clear h;refine⟨c,⟨by simp [za],?_⟩,⟨(),trivial⟩,λ_ _=> ?_⟩
 ·have:=jG.1 hE; omega
 refine zb.bear 8 3 (fxG []) rfl (by decide) (by kernel_rfl) ?_;refine zb.zvv 4 0 3 (fxG []) rfl rfl (by kernel_rfl) ?_;refine zb.loop (ι:={i:Nat // i<=f.length/\a.err (f.take i)=0}) (λi=>SCb f (a.kept (f.take i.1)).length (a.fresh (f.take i.1)).length i.1) (λi=>HCb a f c (a.kept (f.take i.1)) (a.fresh (f.take i.1))) (λi=>f.length - i.1) ⟨0,aI _,rfl⟩ 0 ?_ ?_ (by kernel_rfl)
 ·exact⟨by simp [SCb,yy,fxS,za,Ca.fresh],by simp [HCb,fxS,chS,za,Ca.fresh,Ca.kept],by kernel_rfl,aI _⟩
 ·rintro⟨i,hil,hie⟩;obtain⟨k,hk⟩:∃ k,a.kept (f.take i)=k:=⟨_,rfl⟩;obtain⟨m,hm⟩:∃ m,a.fresh (f.take i)=m:=⟨_,rfl⟩;have hkl:k.length<=f.length:=by rw [<- hk]; exact Ca.zjd f i
  have hml:m.length<=f.length:=by rw [<- hm]; exact Ca.zg8 f i
  simp only [hk,hm];refine zb.n GBf.h [2,4,8,9,33,34,35,45,46,47,48,49,77,78,79,80,81] (let v17:=m.length+1;let v14:=k.length+1;let v13:List AV:=[.nils,.nils];let v12:List AV:=[.osl 6 3 0 k.length,.osl 3 4 0 c.length];let v10:=inR .i64 (i+1);let v6:List (Nat×AV):=[(2,.ptr 0 0),(4,.ptr 2 0),(8,.osl 5 3 0 m.length),(9,.ptr 4 0),(33,.sl f.length 3 (fxG f)),(34,.i f.length),(35,.i (i+1)),Z 45,Z 46,Z 47,Z 48,Z 49,Z 77,Z 78,Z 79,Z 80,Z 81];let v5:List AV:=[.sl f.length 3 (fxG f),.sl c.length 4 (chG c)];let v4:List (Nat×AV):=[(2,.ptr 0 0),(4,.ptr 2 0),(8,.osl 5 3 0 v17),(9,.ptr 4 0),(33,.sl f.length 3 (fxG f)),(34,.i f.length),(35,.i (i+1)),Z 45,Z 46,Z 47,Z 48,Z 49,Z 77,Z 78,Z 79,Z 80,Z 81];let v3:=f.getD (i:Int).toNat Fx.nil;let v11:=bif !decide (Fx.name v3=Ca.name a) then true else decide (Fx.date v3 <Ca.date a);let v2:List AV:=[.str a.name,.str a.into,.i a.date,.str a.ratio,.str a.extra];let v1:List AV:=[.str v3.name,.i v3.date,.str v3.value];let v15:=appG k.length (fxG k) (zg (zh 3 v1) 0);let v8:List Blk:=[.box v2,.box v5,.box v13,.arr c.length 4 (chG c),.box v12,.arr m.length 3 (fxG m),.arr k.length 3 (fxG k),.box v1];.D ((i:Int)<f.length) (.side ((0:Int)<=i/\(i:Int)<f.length) (.ite (bif decide (Fx.name v3=Ca.into a) then decide (Ca.date a<=Fx.date v3) else false) (.ex (λ(x:Ca×L8)=>eqL [.agg [.str a.name,.str a.into,.i a.date,.str a.ratio,.str a.extra],.str v3.value] [.agg [.str x.1.name,.str x.1.into,.i x.1.date,.str x.1.ratio,.str x.1.extra],.str x.2]/\jE x.1/\x.2.length<274877906944) λn=>.all (λ(r:L8×Int)=>r=Ca.old n.1 n.2) λn=>let v7:=zh 3 [.str a.name,.i v3.date,.str n.1];let v16:=appG m.length (fxG m) (zg v7 0);.N (n.2=0) (.R [.agg v13,.i n.2] v8) (.side (0=0/\m.length<=m.length/\v17 *40<=140737488355328) (.ite v11 (.side (0=0/\k.length<=k.length/\v14 *40<=140737488355328) (.side v10 (.leaf (.back 0 v4 [.box v2,.box v5,.box v13,.arr c.length 4 (chG c),.box [.osl 6 3 0 v14,.osl 3 4 0 c.length],.arr v17 3 v16,.arr v14 3 v15,.box v1,.arr 1 3 v7,.arr 1 3 (zh 3 v1)])))) (.side v10 (.leaf (.back 0 v4 [.box v2,.box v5,.box v13,.arr c.length 4 (chG c),.box v12,.arr v17 3 v16,.arr k.length 3 (fxG k),.box v1,.arr 1 3 v7])))))) (.ite v11 (.side (0=0/\k.length<=k.length/\v14 *40<=140737488355328) (.side v10 (.leaf (.back 0 v6 [.box v2,.box v5,.box v13,.arr c.length 4 (chG c),.box [.osl 6 3 0 v14,.osl 3 4 0 c.length],.arr m.length 3 (fxG m),.arr v14 3 v15,.box v1,.arr 1 3 (zh 3 v1)])))) (.side v10 (.leaf (.back 0 v6 v8)))))) (.S ((k.length:Int)+m.length) (.D ((1000:Int)<k.length+(m.length:Int)) (.R [.agg v13,.i 22] [.box v2,.box v5,.box v13,.arr c.length 4 (chG c),.box v12,.arr m.length 3 (fxG m),.arr k.length 3 (fxG k)]) (.ex (λ(x:List Fx×Ca)=>eqL [.sl k.length 3 (zg (fxG k) 0),.str a.name,.fn 35 [] []] [.sl x.1.length 3 (fxG x.1),.str x.2.name,.fn 35 [] []]/\x.1.length<1099511627776/\List.Pairwise (λ(x y:Fx)=>cmpF x y<0) x.1) λn=>.all (λ(r:Nat×Bool)=>r.1=Ca.at_ n.2 n.1) λn=>.ex (λ(x:List Fx×List Fx×Nat)=>eqL [.osl 0 3 0 k.length,.i n.1,.osl 1 3 0 m.length] [.osl 0 3 0 x.1.length,.i x.2.2,.osl 1 3 0 x.2.1.length]/\eqH [.arr k.length 3 (fxG k),.arr m.length 3 (fxG m)] [.arr x.1.length 3 (fxG x.1),.arr x.2.1.length 3 (fxG x.2.1)]/\2=2/\x.2.2<=x.1.length/\x.1.length<1099511627776/\x.2.1.length<1099511627776) λn=>let v9:List AV:=[.osl 6 3 0 (n.1.length+n.2.1.length),.osl 3 4 0 c.length];.A λn_1=>.R [.agg v9,.i 0] [.box v2,.box v5,.box v9,.arr c.length 4 (chG c),.box v9,.dead,.arr (n.1.length+n.2.1.length) 3 (fxG (List.take n.2.2 n.1++n.2.1++List.drop n.2.2 n.1))])))) ?_;simp only [Tree.holds,ze,inR,lo,hi,aD];refine⟨λh=> ?_,λh=> ?_⟩
  ·have hlt:i<f.length:=by have:=aB h; omega
   obtain⟨x,hx⟩:∃ x,f.getD i Fx.nil=x:=⟨_,rfl⟩;have hxm:x∈f:=by rw [<- hx]; simp [List.getD,hlt]
   have E:=Ca.zil hlt hie;have K:=Ca.zgp (a:=a) hlt;have M:=Ca.zb7 (a:=a) hlt;rw [hx] at E K M;rw [hk] at K;rw [hm] at M;have hhit:(bif decide (x.name=a.into) then decide (a.date<=x.date) else false)=a.hit x:=by unfold Ca.hit; cases decide (x.name=a.into)<;>rfl
   have hkeep:(bif !decide (x.name=a.name) then true else decide (x.date<a.date))=a.keep x:=by unfold Ca.keep; cases decide (x.name=a.name)<;>rfl
   simp only [hx,hhit,hkeep];refine⟨by omega,λ_=>⟨λhH=> ?_,λhH=> ?_⟩⟩
   ·rw [aP hH] at M;refine⟨(a,x.value),⟨by simp [Ca.av],ha,?_⟩,⟨_,rfl⟩,?_⟩
    ·have h3:=jG.1 hE;have h4:=bG.1 h3.2.1 x hxm;unfold okF at h4;simp only [bA,aK] at h4;have:=jL h4.2;show x.value.length<2^38;omega
    rintro _ rfl;refine⟨λh2=> ?_,λh2=> ?_⟩
    ·have h2:(a.old x.value).2≠0:=by simpa using h2
     have hbd:a.bad x=true:=by unfold Ca.bad; rw [hH,Bool.true_and]; exact aX h2
     have hst:=Ca.zln hlt hie (by rw [hx]; exact hbd);rw [hx] at hst;refine bad _ _ ?_;unfold Ca.before; rw [aO (by simp [hok]),aO (by simp [hE]),hst,aP h2]
    ·have h2:(a.old x.value).2=0:=by simpa using h2
     have hbd:¬ a.bad x=true:=by unfold Ca.bad; rw [hH,Bool.true_and]; simp [h2]
     rw [aO hbd] at E;refine⟨⟨trivial,aJ _,by omega⟩,λ_=>⟨λhK=> ?_,λhK=> ?_⟩⟩
     ·rw [aP hK] at K;refine⟨⟨trivial,aJ _,by omega⟩,λ_=>⟨by omega,λ_=> ?_⟩⟩;rw [aP trivial];refine⟨⟨i+1,hlt,E⟩,by show f.length - (i+1)<f.length - i; omega,by simp [SCb,fxS,za,K,M],?_,by kernel_rfl,aI _⟩;have p1:=Jf (l:=m) (x:=⟨a.name,x.date,(a.old x.value).1⟩) (za _ _ (fxG m));have p2:=Jf (l:=k) (x:=x) (za _ _ (fxG k));simp only at p1 p2;simp [HCb,fxS,chS,K,M,za,p1,p2]
     ·rw [aO (by simpa using hK)] at K;refine⟨by omega,λ_=> ?_⟩;rw [aP trivial];refine⟨⟨i+1,hlt,E⟩,by show f.length - (i+1)<f.length - i; omega,by simp [SCb,fxS,za,K,M],?_,by kernel_rfl,aI _⟩;have p1:=Jf (l:=m) (x:=⟨a.name,x.date,(a.old x.value).1⟩) (za _ _ (fxG m));simp only at p1;simp [HCb,fxS,chS,K,M,za,p1]
   ·rw [aO (by simpa using hH)] at M;have hbd:¬ a.bad x=true:=by unfold Ca.bad; rw [hH]; simp
    rw [aO hbd] at E;refine⟨λhK=> ?_,λhK=> ?_⟩
    ·rw [aP hK] at K;refine⟨⟨trivial,aJ _,by omega⟩,λ_=>⟨by omega,λ_=> ?_⟩⟩;rw [aP trivial];refine⟨⟨i+1,hlt,E⟩,by show f.length - (i+1)<f.length - i; omega,by simp [SCb,fxS,za,K,M],?_,by kernel_rfl,aI _⟩;have p2:=Jf (l:=k) (x:=x) (za _ _ (fxG k));simp [HCb,fxS,chS,K,M,za,p2]
    ·rw [aO (by simpa using hK)] at K;refine⟨by omega,λ_=> ?_⟩;rw [aP trivial];exact⟨⟨i+1,hlt,E⟩,by show f.length - (i+1)<f.length - i; omega,by simp [SCb,fxS,za,K,M],by simp [HCb,fxS,chS,K,M,za],by kernel_rfl,aI _⟩
  ·have hge:i=f.length:=by have:=aC h; omega
   rw [hge,bD] at hk hm hie
   have hB:a.before f c=if 1000<k.length+m.length then(([],[]),22) else((a.join k m,c),0):=by
    unfold Ca.before;rw [aO (by simp [hok]),aO (by simp [hE]),aO (by simp [hie]),hk,hm]
   refine⟨by omega,λ_=>⟨λh2=> ?_,λh2=> ?_⟩⟩
   ·have h2:=aB h2;rw [aP (by omega)] at hB;exact bad _ _ hB
   ·have h2:=aC h2;rw [aO (by omega)] at hB;have hpk:k.Pairwise λx y=>cmpF x y<0:=by rw [<- hk]; exact(Ca.KO hE).2
    refine⟨(k,a),⟨by simp [fxS,KH],by show k.length<2^40; omega,hpk⟩,⟨(a.at_ k,false),rfl⟩,?_⟩;rintro⟨n,b⟩ hn;simp only at hn;subst hn;refine⟨(k,m,a.at_ k),⟨by simp,by simp [za],trivial,Ca.YE,by show k.length<2^40; omega,by show m.length<2^40; omega⟩,⟨(),trivial⟩,λ_ _=> ?_⟩
    have hjl:(a.join k m).length=k.length+m.length:=by
     have:=Ca.YE (a:=a) (l:=k);unfold Ca.join;simp only [bO,aH,bV];omega
    rw [hB] at hq;simp only [hjl] at hq;refine RetR.outs [6,3] rfl rfl (.inl hq) (λ_=>⟨?_,?_⟩) ?_ ?_ rfl
    ·simp [resV,new2,new1,new0,zy,zX]
    ·simp only [aM,List.not_mem_nil,or_false,forall_eq_or_imp,forall_eq];have:=zq1 (za (k.length+m.length) 3 (fxG (a.join k m)));exact⟨by rw [<- hjl] at this ⊢; exact this,zej (za _ _ _)⟩
    ·simp [resV,exp2,exp1,exp0,zy,ren0,eqA2,eqL1]
    ·exact⟨⟨rfl,rfl,za _ _ _⟩,⟨rfl,rfl,za _ _ _⟩,trivial⟩
def Ca.nilA:Ca:=⟨[],[],0,[],[]⟩
def Ca.out(a:Ca):Ca:=if a.ok=true then a else Ca.nilA
def zdq:Ctr:=ctrP true (λa:Ca=>[a.av]) jE (λ_ (_:Unit)=>True) (λa _=>(.tup [(Ca.out a).av,.i (if a.ok=true then 0 else 8)],[]))
noncomputable def GMdA:=tb xD tz
theorem zhs:zc prog 39 zdq:=by
 refine zf' f39 λa ha O w0 Q hq=> ?_
 replace hq:=hq () trivial;refine zb.n GMdA.h [] (let v2:List AV:=[.str #[].toList,.str #[].toList,.i 0,.str #[].toList,.str #[].toList];let v1:List AV:=[.str a.name,.str a.into,.i a.date,.str a.ratio,.str a.extra];.ex (q47 [.agg [.str a.name,.str a.into,.i a.date,.str a.ratio,.str a.extra]]) λn=>.all (λ(r:Int)=>r=if Ca.ok n=true then(0:Int) else(8:Int)) λn=>.N (n=0) (.R [.agg v2,.i n] [.box v1,.box v2]) (.R [.agg v1,.i 0] [.box v1,.box v1])) ?_;simp only [q47,Tree.holds,ze];refine⟨a,⟨⟨by simp [Ca.av],trivial⟩,ha⟩,⟨_,rfl⟩,?_⟩;rintro _ rfl;cases ho:a.ok
 ·simp only [ho,Bool.false_eq_true,if_false,Ca.out] at hq ⊢;refine⟨λ_=>RetR.out0 hq (λ_=>by simp [resV,new2,new1,new0,zX]) (by simp [resV,exp2,exp1,exp0,ren0,eqA2,eqL1,Ca.av,Ca.nilA]),λh=>by simp at h⟩
 ·simp only [ho,if_true,Ca.out] at hq ⊢;refine⟨λh=>by simp at h,λ_=>RetR.out0 hq (λ_=>by simp [resV,new2,new1,new0,zX]) (by simp [resV,exp2,exp1,exp0,ren0,eqA2,eqL1,Ca.av])⟩
def splA(n:L8)(d:Int)(r:L8):Ca:=⟨n,n,d,r,[48]⟩
def divA(n:L8)(d:Int)(r:L8):Ca:=⟨n,n,d,[49],r⟩
structure SpA where
 n:L8
 d:Int
 r:L8
def splC:Ctr:=ctrP true (λp:SpA=>[.str p.n,.i p.d,.str p.r]) (λp=>p.n.length<2^38/\p.r.length<2^38) (λ_ (_:Unit)=>True) (λp _=>(.tup [(Ca.out (splA p.n p.d p.r)).av,.i (if(splA p.n p.d p.r).ok=true then 0 else 8)],[]))
def divC:Ctr:=ctrP true (λp:SpA=>[.str p.n,.i p.d,.str p.r]) (λp=>p.n.length<2^38/\p.r.length<2^38) (λ_ (_:Unit)=>True) (λp _=>(.tup [(Ca.out (divA p.n p.d p.r)).av,.i (if(divA p.n p.d p.r).ok=true then 0 else 8)],[]))
noncomputable def GSpl:=tb zhs (tb zjy tz)
theorem ztt:zc prog 14 splC:=by
 refine zf' f14 λp hp O w0 Q hq=> ?_
 obtain⟨n,d,r⟩:=p;obtain⟨h1,h2⟩:=hp;replace hq:=hq () trivial;simp only at hq h1 h2;refine zb.n GSpl.h [] (.ex (q45 [.i 0]) λn_1=>.all (λ(r:L8)=>r=[UInt8.ofNat (48+n_1)]) λn_2=>.ex (q47 [.agg [.str n,.str n,.i d,.str r,.str n_2]]) λn=>let v1:List AV:=[.str (Ca.name (Ca.out n)),.str (Ca.into (Ca.out n)),.i (Ca.date (Ca.out n)),.str (Ca.ratio (Ca.out n)),.str (Ca.extra (Ca.out n))];.A λn_3=>.R [.agg v1,.i (if Ca.ok n=true then(0:Int) else(8:Int))] [.box v1]) ?_;simp only [q45,q47,Tree.holds,ze];refine⟨0,⟨⟨⟨rfl,rfl⟩,trivial⟩,by decide⟩,⟨_,rfl⟩,?_⟩;rintro _ rfl;refine⟨splA n d r,⟨⟨by simp [Ca.av,splA],trivial⟩,⟨h1,h1,h2,by show 1<_; decide⟩⟩,⟨(),trivial⟩,λ_ _=> ?_⟩;exact RetR.out0 hq (λ_=>by simp [resV,new2,new1,new0,zX,Ca.av]) (by simp [resV,exp2,exp1,exp0,ren0,eqA2,eqL1,Ca.av])
theorem ztu:zc prog 19 divC:=by
 refine zf' f19 λp hp O w0 Q hq=> ?_
 obtain⟨n,d,r⟩:=p;obtain⟨h1,h2⟩:=hp;replace hq:=hq () trivial;simp only at hq h1 h2;refine zb.n GSpl.h [] (.ex (q45 [.i 1]) λn_1=>.all (λ(r:L8)=>r=[UInt8.ofNat (48+n_1)]) λn_2=>.ex (q47 [.agg [.str n,.str n,.i d,.str n_2,.str r]]) λn=>let v1:List AV:=[.str (Ca.name (Ca.out n)),.str (Ca.into (Ca.out n)),.i (Ca.date (Ca.out n)),.str (Ca.ratio (Ca.out n)),.str (Ca.extra (Ca.out n))];.A λn_3=>.R [.agg v1,.i (if Ca.ok n=true then(0:Int) else(8:Int))] [.box v1]) ?_;simp only [q45,q47,Tree.holds,ze];refine⟨1,⟨⟨⟨rfl,rfl⟩,trivial⟩,by decide⟩,⟨_,rfl⟩,?_⟩;rintro _ rfl;refine⟨divA n d r,⟨⟨by simp [Ca.av,divA],trivial⟩,⟨h1,h1,by show 1<_; decide,h2⟩⟩,⟨(),trivial⟩,λ_ _=> ?_⟩;exact RetR.out0 hq (λ_=>by simp [resV,new2,new1,new0,zX,Ca.av]) (by simp [resV,exp2,exp1,exp0,ren0,eqA2,eqL1,Ca.av])
def nowC:Ctr:=ctrP true (λ_:Unit=>[]) (λ_=>True) (λ_ (_:Unit)=>True) (λ_ _=>(.agg [.int .u8 3,.str [],.str [65,67,77,69],.i 0,.nils],[]))
theorem ztx:zc prog 17 nowC:=by
 refine zf' f17 λp hp O w0 Q hq=> ?_
 replace hq:=hq () trivial;refine zb.n zD [] (let v1:List AV:=[.int .u8 3,.str #[].toList,.str #[(65:UInt8),(67:UInt8),(77:UInt8),(69:UInt8)].toList,.i 0,.nils];.R [.agg v1] [.box v1]) ?_;simp only [Tree.holds,ze];exact RetR.out0 hq (λ_=>by simp [resV,new2,new1,new0,zX]) (by simp [resV,exp2,exp1,exp0,ren0,eqA2])
def VU:Ctr:=ctrP true (λr:L8=>[.str r]) (λ_=>True) (λ_ (_:Unit)=>True) (λr _=>(.agg [.int .u8 1,.str r,.str [],.i 0,.nils],[]))
theorem Uw:zc prog 18 VU:=by
 refine zf' f18 λr hp O w0 Q hq=> ?_
 replace hq:=hq () trivial;refine zb.n zD [] (.R [.agg [.int .u8 1,.str r,.str #[].toList,.i 0,.nils]] [.box [.int .u8 1,.str r,.str #[].toList,.i 0,.nils]]) ?_;simp only [Tree.holds,ze];exact RetR.out0 hq (λ_=>by simp [resV,new2,new1,new0,zX]) (by simp [resV,exp2,exp1,exp0,ren0,eqA2])
def ofC:Ctr:=ctrP false (λp:Int×Ex×Ex=>[.int .u8 p.1,p.2.1.exA,p.2.2.exA]) (λ_=>True) (λ_ (_:Unit)=>True) (λp _=>(exD (.mk p.1 [] [] 0 [p.2.1,p.2.2]),[]))
theorem zvq:zc prog 16 ofC:=by
 refine zf' f16 λp hp O w0 Q hq=> ?_
 obtain⟨k,x,y⟩:=p;replace hq:=hq () trivial;simp only at hq;refine zb.n zD [] (let v1:List AV:=[.int .u8 k,.str #[].toList,.str #[].toList,.i 0,.osl 3 5 0 2];.R [.agg v1] [.box [.int .u8 x.kind,.str x.rat,.str x.name,.i x.date,.sl x.sub.length 5 (Ex.exG x.sub)],.box [.int .u8 y.kind,.str y.rat,.str y.name,.i y.date,.sl y.sub.length 5 (Ex.exG y.sub)],.box v1,.arr 2 5 (zh 5 [.int .u8 x.kind,.str x.rat,.str x.name,.i x.date,.sl x.sub.length 5 (Ex.exG x.sub),.int .u8 y.kind,.str y.rat,.str y.name,.i y.date,.sl y.sub.length 5 (Ex.exG y.sub)])]) ?_;simp only [Tree.holds,ze];exact RetR.le0 hq (λh=>by cases h) (LeA.agg ⟨LeA.refl _,LeA.refl _,LeA.refl _,LeA.refl _,Ex.uU (x:=x) (y:=y) ⟨LeA.refl _,LeA.refl _,LeA.refl _,LeA.refl _,Ex.wk x,LeA.refl _,LeA.refl _,LeA.refl _,LeA.refl _,Ex.wk y,trivial⟩,trivial⟩)
theorem zj7{f:List Fx}{c:List Ch}{z:Int} : LeA (exp2 [.arr f.length 3 (fxG f),.arr c.length 4 (chG c)] [] (.tup [.agg [.osl 0 3 0 f.length,.osl 1 4 0 c.length],.i z])) (.tup [envA f c,.i z]):=by
 refine qA ?_;simp [exp2,exp1,exp0,zy,frz1,jO,ren0,eqA2,eqL1,envA,fxS,chS,KH]
theorem znd{f:List Fx}{c:List Ch}{z:Int} : new2 [.arr f.length 3 (fxG f),.arr c.length 4 (chG c)] [] (.tup [.agg [.osl 0 3 0 f.length,.osl 1 4 0 c.length],.i z]):=by
 simp only [new2,aM,List.not_mem_nil,or_false,forall_eq_or_imp,forall_eq,new1,new0];refine⟨⟨λ_=> ?_,λ_=> ?_⟩,rfl⟩
 ·simp only [exp0,zy,frz1,jO,List.getElem?_cons_zero,if_true,zd7];exactλj o hj ho=>zcz _ _ _ ho
 ·simp only [exp0,zy,frz1,jO,List.getElem?_cons_succ,List.getElem?_cons_zero,if_true,zd7];exactλj o hj ho=>ze6 _ _ _ ho
def JB:Ctr:=ctrP true (λp:Ca×(List Fx×List Ch)=>[p.1.av,envA p.2.1 p.2.2]) (λp=>jE p.1/\envP p.2/\p.2.1.length<=1000000) (λp r=>r=p.1.before p.2.1 p.2.2) (λ_ (r:(List Fx×List Ch)×Int)=>(.tup [envA r.1.1 r.1.2,.i r.2],[]))
theorem J3:zc prog 11 JB:=zc.frozen zcx (λ_ _ _ _=>znd) (λ_ _ _ _=>zj7)
def acme:L8:=[65,67,77,69]
def Z0:Ex:=.mk 3 [] acme 0 []
def Zi(r:L8):Ex:=.mk 1 r [] 0 []
def exOf(k:Int)(x y:Ex):Ex:=.mk k [] [] 0 [x,y]
def aSpl:Ca:=splA acme 10 [50]
def aDiv:Ca:=divA acme 10 [51,47,50]
def x1:Ex:=exOf 5 Z0 (Zi [51,48])
def w1:Ex:=exOf 5 (exOf 6 (Zi [50]) Z0) (Zi [51,48])
def w2:Ex:=exOf 4 Z0 (Zi [51,47,50])
theorem zjc:aSpl.ok=true:=by decide +kernel
theorem zlw:aDiv.ok=true:=by decide +kernel
theorem zvs:aSpl.expr x1=(w1,0):=by kernel_rfl
theorem zve:aDiv.expr Z0=(w2,0):=by kernel_rfl
theorem al_v:aSpl.before [⟨acme,12,[49,56]⟩] []=(([⟨acme,12,[51,54]⟩],[]),0):=by kernel_rfl
def Y6:Ctr:=ctrP true (λ_:Unit=>[]) (λ_=>True) (λ_ r=>r=true) (λ_ (r:Bool)=>(.bool r,[]))
noncomputable def zvn:=tb ztx (tb Uw (tb zvq (tb ztt (tb ztu (tb zpa (tb J3 (tb zik (tb zo4 tz))))))))
noncomputable def LA0:List Go.Sx.Item:=jF 12 (f5.body.getD .skip)
noncomputable def LA2:List Go.Sx.Item:=LA0.drop 2
noncomputable def LA3:List Go.Sx.Item:=LA0.drop 3
noncomputable def LA4:List Go.Sx.Item:=LA0.drop 4
noncomputable def LA5:List Go.Sx.Item:=LA0.drop 5
noncomputable def LA6:List Go.Sx.Item:=LA0.drop 6
noncomputable def LA7:List Go.Sx.Item:=LA0.drop 7
def bSpl:Blk:=.box [.str [65,67,77,69],.str [65,67,77,69],.i 10,.str [50],.str [48]]
def bDiv:Blk:=.box [.str [65,67,77,69],.str [65,67,77,69],.i 10,.str [49],.str [51,47,50]]
def bEx(x:Ex):Blk:=.box x.cellsD
def SA2:KV:=[(0,.bool false),(1,.ptr 0 0),(2,.i 0)]
def SA3:KV:=[(0,.bool false),(1,.ptr 0 0),(2,.i 0),(3,.ptr 1 0),(4,.i 0)]
def SA4:KV:=[(0,.bool false),(1,.ptr 0 0),(2,.i 0),(3,.ptr 1 0),(4,.i 0),(5,.ptr 3 0),(6,.i 0)]
def SA5:KV:=SA4++[(7,.ptr 4 0),(8,.i 0)]
def SA6:KV:=SA4++[(7,.ptr 4 0),(8,.i 0),(9,.ptr 5 0),(10,.i 0)]
def SA7:KV:=SA4++[(7,.ptr 4 0),(8,.i 0),(9,.ptr 5 0),(10,.i 0),(11,.ptr 6 0)]
def HA4:Heap:=[bSpl,bEx w1,.dead,.box [fxS [⟨acme,12,[51,54]⟩],chS []]]
def HA5:Heap:=[bSpl,bEx w1,.dead,.box [fxS [⟨acme,12,[51,54]⟩],chS []],bDiv]
def HA6:Heap:=[bSpl,bEx w1,.dead,.box [fxS [⟨acme,12,[51,54]⟩],chS []],bDiv,bEx w2]
def HA7:Heap:=[bSpl,bEx w1,.dead,.box [fxS [⟨acme,12,[51,54]⟩],chS []],bDiv,bEx w2,bEx w1]
theorem XH{A B:Prop}(a:A)(b:B):(∃ _:Bool,True)/\∀ n:Bool,True->((n=true->A)/\(n=false->B)):=⟨⟨true,trivial⟩,λ_ _=>⟨λ_=>a,λ_=>b⟩⟩
theorem zaa{p:Unit->Prop}(h:p ()):∃ n:Unit,(eqL [] []/\True)/\(∃ _:Unit,True)/\∀ _:Unit,True->p n:=⟨(),⟨trivial,trivial⟩,⟨(),trivial⟩,λ_ _=>h⟩
theorem zn1{r:L8}{p:L8->Prop}(h:p r):∃ n:L8,(eqL [.str r] [.str n]/\True)/\(∃ _:Unit,True)/\∀ _:Unit,True->p n:=⟨r,⟨⟨rfl,trivial⟩,trivial⟩,⟨(),trivial⟩,λ_ _=>h⟩
theorem QK{k d:Int}{r n:L8} : eqA (.agg [.int .u8 k,.str r,.str n,.i d,.nils]) (Ex.mk k r n d []).exA:=by simp [Ex.exA,Ex.exS,Ex.kind,Ex.rat,Ex.name,Ex.date,Ex.sub]
theorem znf{k:Int}{a b:AV}(x y:Ex)(ha:eqA a x.exA)(hb:eqA b y.exA){p:Int×Ex×Ex->Prop}(h:p (k,x,y)):∃ n:Int×Ex×Ex,(eqL [.int .u8 k,a,b] [.int .u8 n.1,n.2.1.exA,n.2.2.exA]/\True)/\(∃ _:Unit,True)/\∀ _:Unit,True->p n:=⟨(k,x,y),⟨⟨⟨rfl,rfl⟩,ha,hb,trivial⟩,trivial⟩,⟨(),trivial⟩,λ_ _=>h⟩
theorem zd1{a b:AV}(c:Ca)(x:Ex)(ha:eqA a c.av)(hb:eqA b x.exA)(ht:jK c)(h1:x.size<1048576)(h2:x.zo<1073741824){p:Ca×Ex->Prop}(h:p (c,x)):∃ n:Ca×Ex,(eqL [a,b] [n.1.av,n.2.exA]/\jK n.1/\n.2.size<1048576/\n.2.zo<1073741824)/\(∃ _:Unit,True)/\∀ _:Unit,True->p n:=⟨(c,x),⟨⟨ha,hb,trivial⟩,ht,h1,h2⟩,⟨(),trivial⟩,λ_ _=>h⟩
theorem zs3:eqA (.agg [.str [65,67,77,69],.str [65,67,77,69],.i 10,.str [50],.str [48]]) aSpl.av:=⟨rfl,rfl,⟨rfl,rfl⟩,rfl,rfl,trivial⟩
theorem zv1:eqA (.agg [.str [65,67,77,69],.str [65,67,77,69],.i 10,.str [49],.str [51,47,50]]) aDiv.av:=⟨rfl,rfl,⟨rfl,rfl⟩,rfl,rfl,trivial⟩
theorem zok{x:Fx} : eqG 1 3 (zg (zh 3 [.str x.name,.i x.date,.str x.value]) 0) (fxG [x]):=by
 intro j o hj ho;obtain rfl:j=0:=by omega
 rcases(show o=0\/o=1\/o=2 by omega) with rfl | rfl | rfl<;>rfl
theorem zou:Ca.out (splA acme 10 [50])=aSpl:=by unfold Ca.out; exact aP zjc
theorem zq2:Ca.out (divA acme 10 [51,47,50])=aDiv:=by unfold Ca.out; exact aP zlw
abbrev q57(A:List AV)(x:(List Fx×List Ch)×List Fx×List Ch):Prop:=eqL A [.agg [.sl x.1.1.length 3 (fxG x.1.1),.sl x.1.2.length 4 (chG x.1.2)],.agg [.sl x.2.1.length 3 (fxG x.2.1),.sl x.2.2.length 4 (chG x.2.2)]]/\x.1.1.length<1099511627776/\x.1.2.length<1099511627776
abbrev q56(A:List AV)(x:Ex×Ex):Prop:=eqL A [.agg [.int .u8 x.1.kind,.str x.1.rat,.str x.1.name,.i x.1.date,.sl x.1.sub.length 5 (Ex.exG x.1.sub)],.agg [.int .u8 x.2.kind,.str x.2.rat,.str x.2.name,.i x.2.date,.sl x.2.sub.length 5 (Ex.exG x.2.sub)]]/\Ex.size x.1<1152921504606846976
abbrev q55(A:List AV)(x:Ca×List Fx×List Ch):Prop:=eqL A [.agg [.str x.1.name,.str x.1.into,.i x.1.date,.str x.1.ratio,.str x.1.extra],.agg [.sl x.2.1.length 3 (fxG x.2.1),.sl x.2.2.length 4 (chG x.2.2)]]/\jE x.1/\envP x.2/\x.2.1.length<=1000000
abbrev q54(A:List AV)(x:Ca×Ex):Prop:=eqL A [.agg [.str x.1.name,.str x.1.into,.i x.1.date,.str x.1.ratio,.str x.1.extra],.agg [.int .u8 x.2.kind,.str x.2.rat,.str x.2.name,.i x.2.date,.sl x.2.sub.length 5 (Ex.exG x.2.sub)]]/\jK x.1/\Ex.size x.2<1048576/\Ex.zo x.2<1073741824
abbrev q53(A:List AV)(x:Int×Ex×Ex):Prop:=eqL A [.int .u8 x.1,.agg [.int .u8 x.2.1.kind,.str x.2.1.rat,.str x.2.1.name,.i x.2.1.date,.sl x.2.1.sub.length 5 (Ex.exG x.2.1.sub)],.agg [.int .u8 x.2.2.kind,.str x.2.2.rat,.str x.2.2.name,.i x.2.2.date,.sl x.2.2.sub.length 5 (Ex.exG x.2.2.sub)]]/\True
abbrev q52(A:List AV)(x:Unit):Prop:=eqL A []/\True
abbrev q51(A:List AV)(x:SpA):Prop:=eqL A [.str x.n,.i x.d,.str x.r]/\List.length x.n<274877906944/\List.length x.r<274877906944
theorem zbs:zc prog 5 Y6:=by
 refine zf' f5 λp hp O w0 Q hq=> ?_
 replace hq:=hq _ rfl;have ht:jK aSpl:=⟨by decide,by decide,by decide,by decide⟩;have ht2:jK aDiv:=⟨by decide,by decide,by decide,by decide⟩;refine zb.spine 12 ?_;refine zb.cutL (ι:=Unit) LA0 2 0 (λ_=>SA2) (λ_=>[bSpl]) (by kernel_rfl) (by kernel_rfl) ?_ λ_=> ?_
 ·refine zb.n zvn.h [0,1,2] (.ex (q51 [.str #[(65:UInt8),(67:UInt8),(77:UInt8),(69:UInt8)].toList,.i 10,.str #[(50:UInt8)].toList]) λn=>let v2:=splA n.n n.d n.r;let v1:=Ca.out v2;.A λn_1=>.leaf (.back 0 [(0,.bool false),(1,.ptr 0 0),(2,.i (if Ca.ok v2=true then(0:Int) else(8:Int)))] [.box [.str v1.name,.str v1.into,.i v1.date,.str v1.ratio,.str v1.extra]])) ?_;simp only [q51,Tree.holds,ze];refine⟨⟨acme,10,[50]⟩,⟨⟨rfl,⟨rfl,rfl⟩,rfl,trivial⟩,by decide,by decide⟩,?_⟩;have e8:(if(splA acme 10 [50]).ok=true then(0:Int) else 8)=0:=aP zjc;simp only [zou,e8];refine⟨⟨(),trivial⟩,λ_ _=> ?_⟩;rw [aP trivial];exact⟨(),by simp [SA2],by simp [bSpl,aSpl,splA,acme],by kernel_rfl,aI _⟩
 show qS none prog f5 O 0 w0 [] _ _ LA2 _;refine zb.cutL (ι:=Unit) LA2 1 0 (λ_=>SA3) (λ_=>[bSpl,bEx w1]) (by kernel_rfl) (by kernel_rfl) ?_ λ_=> ?_
 ·refine zb.n zvn.h [0,1,2,3,4] (let v15:=q39 [.str #[(51:UInt8),(48:UInt8)].toList];let v4:=[AV.int .u8 3,AV.str [],AV.str [(65:UInt8),(67:UInt8),(77:UInt8),(69:UInt8)],AV.i 0,AV.nils];let v2:List AV:=[.str [(65:UInt8),(67:UInt8),(77:UInt8),(69:UInt8)],.str [(65:UInt8),(67:UInt8),(77:UInt8),(69:UInt8)],.i 10,.str [(50:UInt8)],.str [(48:UInt8)]];let v1:=[AV.str [(65:UInt8),(67:UInt8),(77:UInt8),(69:UInt8)],AV.str [(65:UInt8),(67:UInt8),(77:UInt8),(69:UInt8)],AV.i 10,AV.str [(50:UInt8)],AV.str [(48:UInt8)]];.all (λ(x:Bool)=>True) λn=>.ite n (.ex (q52 []) λn=>.A λn=>.all (λ(x:Bool)=>True) λn=>.ite n (.ex v15 λn=>let v14:=q53 [.int .u8 5,.agg v4,.agg [.int .u8 1,.str n,.str [],.i 0,AV.nils]];.A λn_1=>.all (λ(x:Bool)=>True) λn_2=>.ite n_2 (.ex v14 λn=>let v3:=Ex.mk n.1 [] [] (0:Int) [n.2.1,n.2.2];let v8:=q54 [.agg v1,.agg [.int .u8 (Ex.kind v3),.str (Ex.rat v3),.str (Ex.name v3),.i (Ex.date v3),.sl (List.length (Ex.sub v3)) 5 (Ex.deep v3)]];.A λn_3=>.all (λ(x:Bool)=>True) λn_4=>.ite n_4 (.ex v8 λn=>let v9:=Prod.fst (Ca.expr n.1 n.2);.A λn_5=>.leaf (.back 0 [(0,.bool false),(1,.ptr 0 0),(2,.i 0),(3,.ptr 1 0),(4,.i (Prod.snd (Ca.expr n.1 n.2)))] [.box v2,.box [.int .u8 (Ex.kind v9),.str (Ex.rat v9),.str (Ex.name v9),.i (Ex.date v9),.sl (List.length (Ex.sub v9)) 5 (Ex.deep v9)]])) (.ex v8 λn=>let v10:=Prod.fst (Ca.expr n.1 n.2);.A λn_5=>.leaf (.back 0 [(0,.bool false),(1,.ptr 0 0),(2,.i 0),(3,.ptr 1 0),(4,.i (Prod.snd (Ca.expr n.1 n.2)))] [.box v2,.box [.int .u8 (Ex.kind v10),.str (Ex.rat v10),.str (Ex.name v10),.i (Ex.date v10),.sl (List.length (Ex.sub v10)) 5 (Ex.deep v10)]]))) (.ex v14 λn=>let v5:=Ex.mk n.1 [] [] (0:Int) [n.2.1,n.2.2];.A λn_3=>.ex (q54 [.agg v1,.agg [.int .u8 (Ex.kind v5),.str (Ex.rat v5),.str (Ex.name v5),.i (Ex.date v5),.sl (List.length (Ex.sub v5)) 5 (Ex.deep v5)]]) λn=>let v11:=Prod.fst (Ca.expr n.1 n.2);.A λn_4=>.leaf (.back 0 [(0,.bool false),(1,.ptr 0 0),(2,.i 0),(3,.ptr 1 0),(4,.i (Prod.snd (Ca.expr n.1 n.2)))] [.box v2,.box [.int .u8 (Ex.kind v11),.str (Ex.rat v11),.str (Ex.name v11),.i (Ex.date v11),.sl (List.length (Ex.sub v11)) 5 (Ex.deep v11)]]))) (.ex v15 λn=>.A λn_1=>.ex (q53 [.int .u8 5,.agg v4,.agg [.int .u8 1,.str n,.str [],.i 0,AV.nils]]) λn=>let v6:=Ex.mk n.1 [] [] (0:Int) [n.2.1,n.2.2];.A λn_2=>.ex (q54 [.agg v1,.agg [.int .u8 (Ex.kind v6),.str (Ex.rat v6),.str (Ex.name v6),.i (Ex.date v6),.sl (List.length (Ex.sub v6)) 5 (Ex.deep v6)]]) λn=>let v12:=Prod.fst (Ca.expr n.1 n.2);.A λn_3=>.leaf (.back 0 [(0,.bool false),(1,.ptr 0 0),(2,.i 0),(3,.ptr 1 0),(4,.i (Prod.snd (Ca.expr n.1 n.2)))] [.box v2,.box [.int .u8 (Ex.kind v12),.str (Ex.rat v12),.str (Ex.name v12),.i (Ex.date v12),.sl (List.length (Ex.sub v12)) 5 (Ex.deep v12)]]))) (.ex (q52 []) λn=>.A λn=>.ex v15 λn=>.A λn_1=>.ex (q53 [.int .u8 5,.agg v4,.agg [.int .u8 1,.str n,.str [],.i 0,AV.nils]]) λn=>let v7:=Ex.mk n.1 [] [] (0:Int) [n.2.1,n.2.2];.A λn_2=>.ex (q54 [.agg v1,.agg [.int .u8 (Ex.kind v7),.str (Ex.rat v7),.str (Ex.name v7),.i (Ex.date v7),.sl (List.length (Ex.sub v7)) 5 (Ex.deep v7)]]) λn=>let v13:=Prod.fst (Ca.expr n.1 n.2);.A λn_3=>.leaf (.back 0 [(0,.bool false),(1,.ptr 0 0),(2,.i 0),(3,.ptr 1 0),(4,.i (Prod.snd (Ca.expr n.1 n.2)))] [.box v2,.box [.int .u8 (Ex.kind v13),.str (Ex.rat v13),.str (Ex.name v13),.i (Ex.date v13),.sl (List.length (Ex.sub v13)) 5 (Ex.deep v13)]]))) ?_;simp only [q39,q52,q53,q54,Tree.holds,ze]
  repeat' first
   | apply XH
   | apply zaa
   | apply zn1
   | apply znf Z0 (Zi [51,48]) QK QK
   | apply zd1 aSpl x1 zs3 (kS x1) ht (by decide) (by decide)
  all_goals
   simp only [zvs];rw [aP trivial]
  all_goals exact⟨(),by simp [SA3],⟨zJ _,zJ _,trivial⟩,by kernel_rfl,aI _⟩
 show qS none prog f5 O 0 w0 [] _ _ LA3 _;refine zb.cutL (ι:=Unit) LA3 1 0 (λ_=>SA4) (λ_=>HA4) (by kernel_rfl) (by kernel_rfl) ?_ λ_=> ?_
 ·refine zb.n zvn.h [0,1,2,3,4,5,6] (.ex (q55 [.agg [.str [(65:UInt8),(67:UInt8),(77:UInt8),(69:UInt8)],.str [(65:UInt8),(67:UInt8),(77:UInt8),(69:UInt8)],.i 10,.str [(50:UInt8)],.str [(48:UInt8)]],.agg [.sl 1 3 (zg (zh 3 [.str #[(65:UInt8),(67:UInt8),(77:UInt8),(69:UInt8)].toList,.i 12,.str #[(49:UInt8),(56:UInt8)].toList]) 0),AV.nils]]) λn=>.all (λ(r:(List Fx×List Ch)×Int)=>r=Ca.before n.1 n.2.1 n.2.2) λn=>.leaf (.back 0 [(0,.bool false),(1,.ptr 0 0),(2,.i 0),(3,.ptr 1 0),(4,.i 0),(5,.ptr 3 0),(6,.i n.2)] [.box [.str [(65:UInt8),(67:UInt8),(77:UInt8),(69:UInt8)],.str [(65:UInt8),(67:UInt8),(77:UInt8),(69:UInt8)],.i 10,.str [(50:UInt8)],.str [(48:UInt8)]],.box [.int .u8 5,.str w1.rat,.str w1.name,.i 0,.sl 2 5 w1.deep],.arr 1 3 (zh 3 [.str #[(65:UInt8),(67:UInt8),(77:UInt8),(69:UInt8)].toList,.i 12,.str #[(49:UInt8),(56:UInt8)].toList]),.box [.sl n.1.1.length 3 (fxG n.1.1),.sl n.1.2.length 4 (chG n.1.2)]])) ?_;simp only [q55,Tree.holds,ze];refine⟨(aSpl,[⟨acme,12,[49,56]⟩],[]),⟨⟨zs3,⟨⟨rfl,rfl,zok (x:=⟨acme,12,[49,56]⟩)⟩,by simp [chS],trivial⟩,trivial⟩,⟨by decide,by decide,by decide,by decide⟩,⟨by decide,by decide,λj hj=> ?_,λj hj=>by cases hj⟩,by decide⟩,⟨_,rfl⟩,?_⟩
  ·have:j=0:=by have:j<1:=hj; omega
   subst this;exact⟨by decide,by decide⟩
  rintro _ rfl;rw [aP trivial];simp only [al_v];exact⟨(),by simp [SA4],⟨zJ _,zJ _,trivial,zJ _,trivial⟩,by kernel_rfl,aI _⟩
 show qS none prog f5 O 0 w0 [] _ _ LA4 _;refine zb.cutL (ι:=Unit) LA4 1 0 (λ_=>SA5) (λ_=>HA5) (by kernel_rfl) (by kernel_rfl) ?_ λ_=> ?_
 ·refine zb.n zvn.h [0,1,2,3,4,5,6,7,8] (.ex (q51 [.str #[(65:UInt8),(67:UInt8),(77:UInt8),(69:UInt8)].toList,.i 10,.str #[(51:UInt8),(47:UInt8),(50:UInt8)].toList]) λn=>let v2:=divA n.n n.d n.r;let v1:=Ca.out v2;.A λn_1=>.leaf (.back 0 [(0,.bool false),(1,.ptr 0 0),(2,.i 0),(3,.ptr 1 0),(4,.i 0),(5,.ptr 3 0),(6,.i 0),(7,.ptr 4 0),(8,.i (if Ca.ok v2=true then(0:Int) else(8:Int)))] [.box [.str [(65:UInt8),(67:UInt8),(77:UInt8),(69:UInt8)],.str [(65:UInt8),(67:UInt8),(77:UInt8),(69:UInt8)],.i 10,.str [(50:UInt8)],.str [(48:UInt8)]],.box [.int .u8 5,.str w1.rat,.str w1.name,.i 0,.sl 2 5 w1.deep],.dead,.box [.sl 1 3 (fxG [{ name:=acme,date:=(12:Int),value:=[(51:UInt8),(54:UInt8)] }]),.sl 0 4 (chG [])],.box [.str v1.name,.str v1.into,.i v1.date,.str v1.ratio,.str v1.extra]])) ?_;simp only [q51,Tree.holds,ze];refine⟨⟨acme,10,[51,47,50]⟩,⟨⟨rfl,⟨rfl,rfl⟩,rfl,trivial⟩,by decide,by decide⟩,?_⟩;have e8:(if(divA acme 10 [51,47,50]).ok=true then(0:Int) else 8)=0:=aP zlw;simp only [zq2,e8];refine⟨⟨(),trivial⟩,λ_ _=> ?_⟩;rw [aP trivial];exact⟨(),by simp [SA5,SA4],⟨zJ _,zJ _,trivial,zJ _,zJ _,trivial⟩,by kernel_rfl,aI _⟩
 show qS none prog f5 O 0 w0 [] _ _ LA5 _;refine zb.cutL (ι:=Unit) LA5 1 0 (λ_=>SA6) (λ_=>HA6) (by kernel_rfl) (by kernel_rfl) ?_ λ_=> ?_
 ·refine zb.n zvn.h [0,1,2,3,4,5,6,7,8,9,10] (let v7:List AV:=[.int .u8 5,.str w1.rat,.str w1.name,.i 0,.sl 2 5 w1.deep];let v3:List AV:=[.str [(65:UInt8),(67:UInt8),(77:UInt8),(69:UInt8)],.str [(65:UInt8),(67:UInt8),(77:UInt8),(69:UInt8)],.i 10,.str [(50:UInt8)],.str [(48:UInt8)]];let v2:List AV:=[.str [(65:UInt8),(67:UInt8),(77:UInt8),(69:UInt8)],.str [(65:UInt8),(67:UInt8),(77:UInt8),(69:UInt8)],.i 10,.str [(49:UInt8)],.str [(51:UInt8),(47:UInt8),(50:UInt8)]];let v1:=q54 [.agg [.str [(65:UInt8),(67:UInt8),(77:UInt8),(69:UInt8)],.str [(65:UInt8),(67:UInt8),(77:UInt8),(69:UInt8)],.i 10,.str [(49:UInt8)],.str [(51:UInt8),(47:UInt8),(50:UInt8)]],.agg [.int .u8 3,.str [],.str [(65:UInt8),(67:UInt8),(77:UInt8),(69:UInt8)],.i 0,AV.nils]];.all (λ(x:Bool)=>True) λn=>.ite n (.ex (q52 []) λn=>.A λn=>.all (λ(x:Bool)=>True) λn=>.ite n (.ex v1 λn=>let v4:=Prod.fst (Ca.expr n.1 n.2);.A λn_1=>.leaf (.back 0 [(0,.bool false),(1,.ptr 0 0),(2,.i 0),(3,.ptr 1 0),(4,.i 0),(5,.ptr 3 0),(6,.i 0),(7,.ptr 4 0),(8,.i 0),(9,.ptr 5 0),(10,.i (Prod.snd (Ca.expr n.1 n.2)))] [.box v3,.box v7,.dead,.box [.sl 1 3 (fxG [{ name:=acme,date:=(12:Int),value:=[(51:UInt8),(54:UInt8)] }]),.sl 0 4 (chG [])],.box v2,.box [.int .u8 (Ex.kind v4),.str (Ex.rat v4),.str (Ex.name v4),.i (Ex.date v4),.sl (List.length (Ex.sub v4)) 5 (Ex.deep v4)]])) (.ex v1 λn=>let v5:=Prod.fst (Ca.expr n.1 n.2);.A λn_1=>.leaf (.back 0 [(0,.bool false),(1,.ptr 0 0),(2,.i 0),(3,.ptr 1 0),(4,.i 0),(5,.ptr 3 0),(6,.i 0),(7,.ptr 4 0),(8,.i 0),(9,.ptr 5 0),(10,.i (Prod.snd (Ca.expr n.1 n.2)))] [.box v3,.box v7,.dead,.box [.sl 1 3 (fxG [{ name:=acme,date:=(12:Int),value:=[(51:UInt8),(54:UInt8)] }]),.sl 0 4 (chG [])],.box v2,.box [.int .u8 (Ex.kind v5),.str (Ex.rat v5),.str (Ex.name v5),.i (Ex.date v5),.sl (List.length (Ex.sub v5)) 5 (Ex.deep v5)]]))) (.ex (q52 []) λn=>.A λn=>.ex v1 λn=>let v6:=Prod.fst (Ca.expr n.1 n.2);.A λn_1=>.leaf (.back 0 [(0,.bool false),(1,.ptr 0 0),(2,.i 0),(3,.ptr 1 0),(4,.i 0),(5,.ptr 3 0),(6,.i 0),(7,.ptr 4 0),(8,.i 0),(9,.ptr 5 0),(10,.i (Prod.snd (Ca.expr n.1 n.2)))] [.box v3,.box v7,.dead,.box [.sl 1 3 (fxG [{ name:=acme,date:=(12:Int),value:=[(51:UInt8),(54:UInt8)] }]),.sl 0 4 (chG [])],.box v2,.box [.int .u8 (Ex.kind v6),.str (Ex.rat v6),.str (Ex.name v6),.i (Ex.date v6),.sl (List.length (Ex.sub v6)) 5 (Ex.deep v6)]]))) ?_;simp only [q52,q54,Tree.holds,ze]
  repeat' first
   | apply XH
   | apply zaa
   | apply zd1 aDiv Z0 zv1 QK ht2 (by decide) (by decide)
  all_goals
   simp only [zve];rw [aP trivial]
  all_goals exact⟨(),by simp [SA6,SA4],⟨zJ _,zJ _,trivial,zJ _,zJ _,zJ _,trivial⟩,by kernel_rfl,aI _⟩
 show qS none prog f5 O 0 w0 [] _ _ LA6 _;refine zb.cutL (ι:=Unit) LA6 1 0 (λ_=>SA7) (λ_=>HA7) (by kernel_rfl) (by kernel_rfl) ?_ λ_=> ?_
 ·refine zb.n zvn.h [0,1,2,3,4,5,6,7,8,9,10,11] (.ex (q39 [.str #[(50:UInt8)].toList]) λn=>.A λn_1=>.ex (q52 []) λn_2=>.A λn_3=>.ex (q53 [.int .u8 6,.agg [.int .u8 1,.str n,.str [],.i 0,AV.nils],.agg [.int .u8 3,.str [],.str [(65:UInt8),(67:UInt8),(77:UInt8),(69:UInt8)],.i 0,AV.nils]]) λn=>let v1:=Ex.mk n.1 [] [] (0:Int) [n.2.1,n.2.2];.A λn_4=>.ex (q39 [.str #[(51:UInt8),(48:UInt8)].toList]) λn_5=>.A λn_6=>.ex (q53 [.int .u8 5,.agg [.int .u8 (Ex.kind v1),.str (Ex.rat v1),.str (Ex.name v1),.i (Ex.date v1),.sl (List.length (Ex.sub v1)) 5 (Ex.deep v1)],.agg [.int .u8 1,.str n_5,.str [],.i 0,AV.nils]]) λn=>let v2:=Ex.mk n.1 [] [] (0:Int) [n.2.1,n.2.2];.A λn_7=>.leaf (.back 0 [(0,.bool false),(1,.ptr 0 0),(2,.i 0),(3,.ptr 1 0),(4,.i 0),(5,.ptr 3 0),(6,.i 0),(7,.ptr 4 0),(8,.i 0),(9,.ptr 5 0),(10,.i 0),(11,.ptr 6 0)] [.box [.str [(65:UInt8),(67:UInt8),(77:UInt8),(69:UInt8)],.str [(65:UInt8),(67:UInt8),(77:UInt8),(69:UInt8)],.i 10,.str [(50:UInt8)],.str [(48:UInt8)]],.box [.int .u8 5,.str w1.rat,.str w1.name,.i 0,.sl 2 5 w1.deep],.dead,.box [.sl 1 3 (fxG [{ name:=acme,date:=(12:Int),value:=[(51:UInt8),(54:UInt8)] }]),.sl 0 4 (chG [])],.box [.str [(65:UInt8),(67:UInt8),(77:UInt8),(69:UInt8)],.str [(65:UInt8),(67:UInt8),(77:UInt8),(69:UInt8)],.i 10,.str [(49:UInt8)],.str [(51:UInt8),(47:UInt8),(50:UInt8)]],.box [.int .u8 4,.str w2.rat,.str w2.name,.i 0,.sl 2 5 w2.deep],.box [.int .u8 (Ex.kind v2),.str (Ex.rat v2),.str (Ex.name v2),.i (Ex.date v2),.sl (List.length (Ex.sub v2)) 5 (Ex.deep v2)]])) ?_;simp only [q39,q52,q53,Tree.holds,ze]
  repeat' first
   | apply XH
   | apply zaa
   | apply zn1
   | apply znf (Zi [50]) Z0 QK QK
   | apply znf (exOf 6 (Zi [50]) Z0) (Zi [51,48]) (kS _) QK
  all_goals rw [aP trivial]
  all_goals exact⟨(),by simp [SA7,SA4],⟨zJ _,zJ _,trivial,zJ _,zJ _,zJ _,zJ _,trivial⟩,by kernel_rfl,aI _⟩
 show qS none prog f5 O 0 w0 [] _ _ LA7 _;refine zb.n zvn.h [0,1,2,3,4,5,6,7,8,9,10,11] (let v10:=[AV.str #[(51:UInt8),(47:UInt8),(50:UInt8)].toList];let v9:List AV:=[.int .u8 4,.str w2.rat,.str w2.name,.i 0,.sl 2 5 w2.deep];let v8:=[AV.int .u8 4,AV.str w2.rat,AV.str w2.name,AV.i 0,AV.sl 2 5 w2.deep];let v7:=[AV.int .u8 5,AV.str w1.rat,AV.str w1.name,AV.i 0,AV.sl 2 5 w1.deep];let v6:=[AV.int .u8 3,AV.str [],AV.str [(65:UInt8),(67:UInt8),(77:UInt8),(69:UInt8)],AV.i 0,AV.nils];let v5:List AV:=[.str [(65:UInt8),(67:UInt8),(77:UInt8),(69:UInt8)],.str [(65:UInt8),(67:UInt8),(77:UInt8),(69:UInt8)],.i 10,.str [(50:UInt8)],.str [(48:UInt8)]];let v4:List AV:=[.str [(65:UInt8),(67:UInt8),(77:UInt8),(69:UInt8)],.str [(65:UInt8),(67:UInt8),(77:UInt8),(69:UInt8)],.i 10,.str [(49:UInt8)],.str [(51:UInt8),(47:UInt8),(50:UInt8)]];let v3:List AV:=[.int .u8 5,.str w1.rat,.str w1.name,.i 0,.sl 2 5 w1.deep];.ex (λ(x:Ex×Ex)=>(bif decide ((0:Int)=0) then decide ((0:Int)=0) else false)=true->q56 [.agg v7,.agg v7] x) λn=>.all (λ(x:Bool)=>(bif decide ((0:Int)=0) then decide ((0:Int)=0) else false)=true->(x=true↔n.1=n.2)) λn=>.ite ((bif bif bif decide ((0:Int)=0) then decide ((0:Int)=0) else false then n else false then decide ((0:Int)=0) else false) == true) (.ex (λ(x:(List Fx×List Ch)×List Fx×List Ch)=>(bif bif bif decide ((0:Int)=0) then decide ((0:Int)=0) else false then n else false then decide ((0:Int)=0) else false)=true->q57 [.agg [.sl 1 3 (fxG [{ name:=acme,date:=(12:Int),value:=[(51:UInt8),(54:UInt8)] }]),.sl 0 4 (chG [])],.agg [.sl 1 3 (zg (zh 3 [.str #[(65:UInt8),(67:UInt8),(77:UInt8),(69:UInt8)].toList,.i 12,.str #[(51:UInt8),(54:UInt8)].toList]) 0),AV.nils]] x) λn_1=>.all (λ(x:Bool)=>(bif bif bif decide ((0:Int)=0) then decide ((0:Int)=0) else false then n else false then decide ((0:Int)=0) else false)=true->(x=true↔n_1.1=n_1.2)) λn_2=>.ex (λ(x:Unit)=>(bif bif bif bif bif bif decide ((0:Int)=0) then decide ((0:Int)=0) else false then n else false then decide ((0:Int)=0) else false then n_2 else false then decide ((0:Int)=0) else false then decide ((0:Int)=0) else false)=true->q52 [] x) λn_3=>.all (λ(x:Unit)=>(bif bif bif bif bif bif decide ((0:Int)=0) then decide ((0:Int)=0) else false then n else false then decide ((0:Int)=0) else false then n_2 else false then decide ((0:Int)=0) else false then decide ((0:Int)=0) else false)=true->True) λn_4=>.ex (λ(x:L8)=>(bif bif bif bif bif bif decide ((0:Int)=0) then decide ((0:Int)=0) else false then n else false then decide ((0:Int)=0) else false then n_2 else false then decide ((0:Int)=0) else false then decide ((0:Int)=0) else false)=true->q39 v10 x) λn_5=>.all (λ(x:Unit)=>(bif bif bif bif bif bif decide ((0:Int)=0) then decide ((0:Int)=0) else false then n else false then decide ((0:Int)=0) else false then n_2 else false then decide ((0:Int)=0) else false then decide ((0:Int)=0) else false)=true->True) λn_6=>.ex (λ(x:Int×Ex×Ex)=>(bif bif bif bif bif bif decide ((0:Int)=0) then decide ((0:Int)=0) else false then n else false then decide ((0:Int)=0) else false then n_2 else false then decide ((0:Int)=0) else false then decide ((0:Int)=0) else false)=true->q53 [.int .u8 4,.agg v6,.agg [.int .u8 1,.str n_5,.str [],.i 0,AV.nils]] x) λn_7=>let v1:=Ex.mk n_7.1 [] [] (0:Int) [n_7.2.1,n_7.2.2];.all (λ(x:Unit)=>(bif bif bif bif bif bif decide ((0:Int)=0) then decide ((0:Int)=0) else false then n else false then decide ((0:Int)=0) else false then n_2 else false then decide ((0:Int)=0) else false then decide ((0:Int)=0) else false)=true->True) λn_8=>.ex (λ(x:Ex×Ex)=>(bif bif bif bif bif bif decide ((0:Int)=0) then decide ((0:Int)=0) else false then n else false then decide ((0:Int)=0) else false then n_2 else false then decide ((0:Int)=0) else false then decide ((0:Int)=0) else false)=true->q56 [.agg v8,.agg [.int .u8 (Ex.kind v1),.str (Ex.rat v1),.str (Ex.name v1),.i (Ex.date v1),.sl (List.length (Ex.sub v1)) 5 (Ex.deep v1)]] x) λn_9=>.all (λ(x:Bool)=>(bif bif bif bif bif bif decide ((0:Int)=0) then decide ((0:Int)=0) else false then n else false then decide ((0:Int)=0) else false then n_2 else false then decide ((0:Int)=0) else false then decide ((0:Int)=0) else false)=true->(x=true↔n_9.1=n_9.2)) λn_10=>.R [.bool (bif bif bif bif bif bif bif decide ((0:Int)=0) then decide ((0:Int)=0) else false then n else false then decide ((0:Int)=0) else false then n_2 else false then decide ((0:Int)=0) else false then decide ((0:Int)=0) else false then n_10 else false)] [.box v5,.box v3,.dead,.box [.sl 1 3 (fxG [{ name:=acme,date:=(12:Int),value:=[(51:UInt8),(54:UInt8)] }]),.sl 0 4 (chG [])],.box v4,.box v9,.box v3,.arr 1 3 (zh 3 [.str #[(65:UInt8),(67:UInt8),(77:UInt8),(69:UInt8)].toList,.i 12,.str #[(51:UInt8),(54:UInt8)].toList])]) (.ex (λ(x:(List Fx×List Ch)×List Fx×List Ch)=>(bif bif bif decide ((0:Int)=0) then decide ((0:Int)=0) else false then n else false then decide ((0:Int)=0) else false)=true->q57 [.agg [.sl 1 3 (fxG [{ name:=acme,date:=(12:Int),value:=[(51:UInt8),(54:UInt8)] }]),.sl 0 4 (chG [])],.agg [AV.nils,AV.nils]] x) λn_1=>.all (λ(x:Bool)=>(bif bif bif decide ((0:Int)=0) then decide ((0:Int)=0) else false then n else false then decide ((0:Int)=0) else false)=true->(x=true↔n_1.1=n_1.2)) λn_2=>.ex (λ(x:Unit)=>(bif bif bif bif bif bif decide ((0:Int)=0) then decide ((0:Int)=0) else false then n else false then decide ((0:Int)=0) else false then n_2 else false then decide ((0:Int)=0) else false then decide ((0:Int)=0) else false)=true->q52 [] x) λn_3=>.all (λ(x:Unit)=>(bif bif bif bif bif bif decide ((0:Int)=0) then decide ((0:Int)=0) else false then n else false then decide ((0:Int)=0) else false then n_2 else false then decide ((0:Int)=0) else false then decide ((0:Int)=0) else false)=true->True) λn_4=>.ex (λ(x:L8)=>(bif bif bif bif bif bif decide ((0:Int)=0) then decide ((0:Int)=0) else false then n else false then decide ((0:Int)=0) else false then n_2 else false then decide ((0:Int)=0) else false then decide ((0:Int)=0) else false)=true->q39 v10 x) λn_5=>.all (λ(x:Unit)=>(bif bif bif bif bif bif decide ((0:Int)=0) then decide ((0:Int)=0) else false then n else false then decide ((0:Int)=0) else false then n_2 else false then decide ((0:Int)=0) else false then decide ((0:Int)=0) else false)=true->True) λn_6=>.ex (λ(x:Int×Ex×Ex)=>(bif bif bif bif bif bif decide ((0:Int)=0) then decide ((0:Int)=0) else false then n else false then decide ((0:Int)=0) else false then n_2 else false then decide ((0:Int)=0) else false then decide ((0:Int)=0) else false)=true->q53 [.int .u8 4,.agg v6,.agg [.int .u8 1,.str n_5,.str [],.i 0,AV.nils]] x) λn_7=>let v2:=Ex.mk n_7.1 [] [] (0:Int) [n_7.2.1,n_7.2.2];.all (λ(x:Unit)=>(bif bif bif bif bif bif decide ((0:Int)=0) then decide ((0:Int)=0) else false then n else false then decide ((0:Int)=0) else false then n_2 else false then decide ((0:Int)=0) else false then decide ((0:Int)=0) else false)=true->True) λn_8=>.ex (λ(x:Ex×Ex)=>(bif bif bif bif bif bif decide ((0:Int)=0) then decide ((0:Int)=0) else false then n else false then decide ((0:Int)=0) else false then n_2 else false then decide ((0:Int)=0) else false then decide ((0:Int)=0) else false)=true->q56 [.agg v8,.agg [.int .u8 (Ex.kind v2),.str (Ex.rat v2),.str (Ex.name v2),.i (Ex.date v2),.sl (List.length (Ex.sub v2)) 5 (Ex.deep v2)]] x) λn_9=>.all (λ(x:Bool)=>(bif bif bif bif bif bif decide ((0:Int)=0) then decide ((0:Int)=0) else false then n else false then decide ((0:Int)=0) else false then n_2 else false then decide ((0:Int)=0) else false then decide ((0:Int)=0) else false)=true->(x=true↔n_9.1=n_9.2)) λn_10=>.R [.bool (bif bif bif bif bif bif bif decide ((0:Int)=0) then decide ((0:Int)=0) else false then n else false then decide ((0:Int)=0) else false then n_2 else false then decide ((0:Int)=0) else false then decide ((0:Int)=0) else false then n_10 else false)] [.box v5,.box v3,.dead,.box [.sl 1 3 (fxG [{ name:=acme,date:=(12:Int),value:=[(51:UInt8),(54:UInt8)] }]),.sl 0 4 (chG [])],.box v4,.box v9,.box v3])) ?_;simp only [q39,q52,q53,q56,q57,Tree.holds,ze];refine⟨(w1,w1),λ_=>⟨⟨kS w1,kS w1,trivial⟩,by decide⟩,⟨true,λ_=>by simp⟩,λr1 h1=> ?_⟩;obtain rfl:r1=true:=(h1 rfl).2 rfl;refine⟨λ_=> ?_,λh=>absurd h (by decide)⟩;refine⟨(([⟨acme,12,[51,54]⟩],[]),([⟨acme,12,[51,54]⟩],[])),λ_=>⟨⟨⟨⟨rfl,rfl,za _ _ _⟩,⟨rfl,rfl,za _ _ _⟩,trivial⟩,⟨⟨rfl,rfl,zok (x:=⟨acme,12,[51,54]⟩)⟩,by simp,trivial⟩,trivial⟩,by decide,by decide⟩,⟨true,λ_=>by simp⟩,λr2 h2=> ?_⟩;obtain rfl:r2=true:=(h2 rfl).2 rfl;refine⟨(),λ_=>⟨trivial,trivial⟩,⟨(),λ_=>trivial⟩,λ_ _=> ?_⟩;refine⟨[51,47,50],λ_=>⟨⟨rfl,trivial⟩,trivial⟩,⟨(),λ_=>trivial⟩,λ_ _=> ?_⟩;refine⟨(4,Z0,Zi [51,47,50]),λ_=>⟨⟨⟨rfl,rfl⟩,QK,QK,trivial⟩,trivial⟩,⟨(),λ_=>trivial⟩,λ_ _=> ?_⟩;refine⟨(w2,w2),λ_=>⟨⟨kS w2,kS w2,trivial⟩,by decide⟩,⟨true,λ_=>by simp⟩,λr3 h3=> ?_⟩;obtain rfl:r3=true:=(h3 rfl).2 rfl;exact RetR.scal hq rfl (by simp [resV])
def zs7:Ctr:=ctrP false (λp:Ca×Con=>[p.1.av,p.2.conA]) (λp=>jK p.1/\p.2.big<2^26/\p.2.nodes<=1000000) (λ_ (_:Unit)=>True) (λp _=>(.tup [(p.1.conv p.2).1.conD,.i (p.1.conv p.2).2],[]))
theorem zat{a:Ca}{c:Con}(ha:jK a)(h1:c.big<2^26):(Ca.whole a.chg c).big<2^39:=by
 obtain⟨_,a2,a3,a4⟩:=ha;obtain⟨s1,s2⟩:=Ca.wY a c;have:c.big*(a.into.length+a.ratio.length+a.extra.length)<=2^26*3000:=Nat.mul_le_mul (by omega) (by omega);omega
theorem Xx{n:Int} : eqA2 (.tup [.agg [.int .u8 0,.str [],.str [],.str [],.int .u8 0,.str [],.str [],.i 0,.nils,.i 0,.nils,.nils],.i n]) (.tup [Con.nil.conD,.i n]):=by
 simp [eqA2,eqL1,Con.nil,Ex.nil,Con.conD,Con.outD,Con.dayS,Ex.exS,Con.kind,Con.src,Con.dst,Con.name,Con.x,Con.date,Con.days,Con.sub,Ex.kind,Ex.rat,Ex.name,Ex.date,Ex.sub]
noncomputable def K30:=Go.Sx.aA f30
def HAw(a:Ca):Heap:=[.box [.str a.name,.str a.into,.i a.date,.str a.ratio,.str a.extra],.box [.fn 27 [] [.ptr 0 0,.ptr 1 0]]]
def wadC(n:Nat):Ctr:=ctrT false false (λp:Ca×Con=>[p.2.conA,.ptr 0 0,.ptr 1 0]) (λp=>HAw p.1) (λp=>p.2.nodes<n/\p.2.big<2^38) (λ_ (_:Unit)=>True) (λp _=>((Ca.whole p.1.adj p.2).conD,HAw p.1))
def zk9(n:Nat):Ctr:=ctrT false false (λp:Ca×List Con=>[Con.conS p.2,.fn 27 [] [.ptr 0 0,.ptr 1 0]]) (λp=>HAw p.1) (λp=>Con.zw p.2<n/\Con.bigs p.2<2^38) (λ_ (_:Unit)=>True) (λp _=>(Con.conS (p.2.map (Ca.whole p.1.adj)),HAw p.1))
def SMw(s:List Con)(i:Nat):KV:=[(1,.fn 27 [] [.ptr 0 0,.ptr 1 0]),(5,.osl 2 12 0 i),(8,Con.conS s),(9,.i (s.length:Int)),(10,.i (i:Int))]
def HMw(f:Con->Con)(a:Ca)(s:List Con)(i:Nat):Heap:=[.box [.str a.name,.str a.into,.i a.date,.str a.ratio,.str a.extra],.box [.fn 27 [] [.ptr 0 0,.ptr 1 0]],.arr i 12 (Con.conG (s.map f))]
theorem zrd(n:Nat)(ih:zc prog 27 (wadC n)):zc prog 30 (zk9 n):=by
 refine zH (fn:=f30) (c:=f30.body.getD .skip) rfl rfl rfl (λh=>by cases h) λp hp O w0 I0 Q hl0 hq=> ?_
 obtain⟨a,s⟩:=p;obtain⟨h1,h2⟩:=hp;simp only at h1 h2;replace hq:=hq () trivial;have hlen:=Con.JT s;refine zb.n (jl ih) [1,5,8,9,10] (.leaf (.loop (lps K30 0).1 (lps K30 0).2 [(1,.fn 27 [] [.ptr 0 0,.ptr 1 0]),(5,.nils),(8,.sl s.length 12 (Con.conG s)),(9,.i s.length),(10,.i 0)] [.box [.str a.name,.str a.into,.i a.date,.str a.ratio,.str a.extra],.box [.fn 27 [] [.ptr 0 0,.ptr 1 0]]])) ?_;simp only [Tree.holds,ze,inR,lo,hi,aD];show qS none prog f30 O 2 w0 I0 _ _ _ _;refine zb.bear 5 12 (Con.conG (s.map (Ca.whole a.adj))) rfl (by decide) (by kernel_rfl) ?_;refine zb.loop (ι:={i:Nat // i<=s.length}) (λi=>SMw s i.1) (λi=>HMw (Ca.whole a.adj) a s i.1) (λi=>s.length - i.1) ⟨0,aI _⟩ 0 ?_ ?_ (by kernel_rfl)
 ·exact⟨by simp [SMw,yy,Con.conS,za],by simp [HMw,HAw,za],by kernel_rfl,by show 2<=3; decide⟩
 ·rintro⟨i,hil⟩;refine zb.n (jl ih) [1,5,8,9,10] (let v4:=s.getD (i:Int).toNat Con.nil;let v3:=[AV.fn 27 [] [.ptr 0 0,.ptr 1 0]];let v1:=Con.conG (List.map (Ca.whole (Ca.adj a)) s);.D ((i:Int)<s.length) (.side ((0:Int)<=i/\(i:Int)<s.length) (.ex (λ(x:Ca×Con)=>eqL [(Con.conD v4),.ptr 0 0,.ptr 1 0] [(Con.conA x.2),.ptr 0 0,.ptr 1 0]/\eqH [.box [.str a.name,.str a.into,.i a.date,.str a.ratio,.str a.extra],.box v3] [.box [.str x.1.name,.str x.1.into,.i x.1.date,.str x.1.ratio,.str x.1.extra],.box v3]/\2=2/\Con.nodes x.2<n/\Con.big x.2<274877906944) λn=>let v2:=zh 12 (Con.vM (Ca.whole (Ca.adj n.1) n.2));.A λn_1=>.side (0=0/\i<=i/\(i+1)*184<=140737488355328) (.S (i+1) (.leaf (.back 0 [(1,.fn 27 [] [.ptr 0 0,.ptr 1 0]),(5,.osl 2 12 0 (i+1)),(8,.sl s.length 12 (Con.conG s)),(9,.i s.length),(10,.i (i+1))] [.box [.str n.1.name,.str n.1.into,.i n.1.date,.str n.1.ratio,.str n.1.extra],.box [.fn 27 [] [.ptr 0 0,.ptr 1 0]],.arr (i+1) 12 (appG i v1 (zg v2 0)),.box (Con.vM v4),.arr 1 12 v2]))))) (.R [.osl 2 12 0 i] [.box [.str a.name,.str a.into,.i a.date,.str a.ratio,.str a.extra],.box [.fn 27 [] [.ptr 0 0,.ptr 1 0]],.arr i 12 v1])) ?_;simp only [Tree.holds,ze,inR,lo,hi,aD];refine⟨λhlt=> ?_,λhge=> ?_⟩
  ·have hlt:i<s.length:=by have:=aB hlt; omega
   have hg:=Con.qZ hlt;have hg2:=Con.Z4 hlt;have ha:eqH [.box [.str a.name,.str a.into,.i a.date,.str a.ratio,.str a.extra],.box [.fn 27 [] [.ptr 0 0,.ptr 1 0]]] [.box [.str a.name,.str a.into,.i a.date,.str a.ratio,.str a.extra],.box [.fn 27 [] [.ptr 0 0,.ptr 1 0]]]:=by simp
   refine⟨by omega,λ_=>⟨(a,s.getD i Con.nil),⟨⟨yH _,⟨rfl,rfl⟩,⟨rfl,rfl⟩,trivial⟩,ha,trivial,by show Con.nodes (s.getD i Con.nil)<n; omega,by show Con.big (s.getD i Con.nil)<_; omega⟩,⟨(),trivial⟩,?_⟩⟩;intro _ _;refine⟨⟨trivial,aJ _,by omega⟩,λ_=>⟨by omega,λ_=> ?_⟩⟩;rw [aP trivial];refine⟨⟨i+1,hlt⟩,by show s.length - (i+1)<s.length - i; omega,by simp [SMw,Con.conS,za],?_,by kernel_rfl,by show 2<=3; decide⟩;refine⟨⟨rfl,rfl,⟨rfl,rfl⟩,rfl,rfl,trivial⟩,by simp,⟨rfl,rfl,zao hlt⟩,trivial⟩
  ·have hge:i=(s.map (Ca.whole a.adj)).length:=by have:=aC hge; simp; omega
   subst hge;exact RetR.km [0,1] rfl rfl (by show ∀ j,j<2->_; decide) rfl hq (LeA.sl rfl λj o hj ho=>by simp only [zg,Nat.zero_add]; exact LeA.refl _) (by simp [expH,expB,exp1,exp0,ren0,HAw,HMw,zy]) rfl
noncomputable def GWd:=tb QF (tb zg2 tz)
noncomputable def GWdc(n:Nat):Nat->Option Ctr:=λf=>if f=30 then some (zk9 n) else GWd.g f
theorem zqg{n:Nat}(h:zc prog 30 (zk9 n)):∀ f c,GWdc n f=some c->zc prog f c:=by
 intro f c hf;simp only [GWdc] at hf;split at hf
 ·rename_i hg; subst hg; cases hf; exact h
 ·exact GWd.h f c hf
theorem zo0(n:Nat)(ih:zc prog 27 (wadC n)):zc prog 27 (wadC (n+1)):=by
 refine zH (fn:=f27) (c:=f27.body.getD .skip) rfl rfl rfl (λh=>by cases h) λp hp O w0 I0 Q hl0 hq=> ?_
 obtain⟨a,c⟩:=p;obtain⟨h1,h2⟩:=hp;simp only at h1 h2;replace hq:=hq () trivial;refine zb.run hmix (zqg (zrd n ih)) [] 400 (T:=let v4:=[AV.ptr 0 0,AV.ptr 1 0];let v2:=[AV.str a.name,AV.str a.into,AV.i a.date,AV.str a.ratio,AV.str a.extra];.ex (q48 [.agg v2,(Ex.exA c.x)]) λn_1=>let v3:=Ca.adj n_1.1 n_1.2;.A λn_2=>.ex (q30 [.sl c.days.length 1 (Con.dayG c.days)]) λn_3=>.A λn_4=>.ex (λ(x:Ca×List Con)=>eqL [.sl c.sub.length 12 (Con.conG c.sub),.fn 27 [] v4] [.sl x.2.length 12 (Con.conG x.2),.fn 27 [] v4]/\eqH [.box v2,.box [.fn 27 [] v4]] [.box [.str x.1.name,.str x.1.into,.i x.1.date,.str x.1.ratio,.str x.1.extra],.box [.fn 27 [] v4]]/\2=2/\Con.zw x.2<n/\Con.bigs x.2<274877906944) λn=>let v5:=List.map (Ca.whole (Ca.adj n.1)) n.2;let v1:List AV:=[.int .u8 c.kind,.str c.src,.str c.dst,.str c.name,.int .u8 (Ex.kind v3),.str (Ex.rat v3),.str (Ex.name v3),.i (Ex.date v3),.sl (List.length (Ex.sub v3)) 5 (Ex.deep v3),.i c.date,.osl 4 1 0 n_3.length,.sl (List.length v5) 12 (Con.conG v5)];.A λn_5=>.R [.agg v1] [.box [.str n.1.name,.str n.1.into,.i n.1.date,.str n.1.ratio,.str n.1.extra],.box [.fn 27 [] [.ptr 0 0,.ptr 1 0]],.box v1,.box v1,.arr n_3.length 1 (Con.dayG n_3)]) (by kernel_rfl) ?_;simp only [q30,q48,Tree.holds,ze];have hb:=h2;rw [Con.xm] at hb;rw [Con.jH] at h1;simp only [Ca.Zy] at hq;have ha:eqA (.agg [.str a.name,.str a.into,.i a.date,.str a.ratio,.str a.extra]) a.av:=⟨rfl,rfl,⟨rfl,rfl⟩,rfl,rfl,trivial⟩;refine⟨(a,c.x),⟨⟨ha,qF c.x,trivial⟩,by show c.x.size<_; omega⟩,⟨(),trivial⟩,λ_ _=> ?_⟩;refine⟨c.days,⟨⟨⟨rfl,rfl,za _ _ _⟩,trivial⟩,by omega⟩,⟨(),trivial⟩,λ_ _=> ?_⟩;refine⟨(a,c.sub),⟨⟨⟨rfl,rfl,za _ _ _⟩,by simp,trivial⟩,by simp,trivial,by show Con.zw c.sub<n; omega,by show Con.bigs c.sub<_; omega⟩,⟨(),trivial⟩,λ_ _=> ?_⟩;exact RetR.km [0,1] rfl rfl (by show ∀ j,j<2->_; decide) rfl hq (LeA.agg ⟨LeA.refl _,LeA.refl _,LeA.refl _,LeA.refl _,LeA.refl _,LeA.refl _,LeA.refl _,LeA.refl _,LeA.sl rfl λj o hj ho=>by rw [Ex.qb _ j o hj ho]; exact LeA.refl _,LeA.refl _,LeA.sl rfl λj o hj ho=>by simp only [zg,Nat.zero_add]; exact LeA.refl _,Con.wk (Con.mk c.kind c.src c.dst c.name (a.adj c.x) c.date c.days (c.sub.map (Ca.whole a.adj))),trivial⟩) (by simp [expH,expB,exp1,exp0,ren0,HAw,zy]) rfl
def on(a:Ca)(x:Ex):Bool:=a.onX x.kind x.name x.date
theorem zr2(n:Nat):zc prog 27 (wadC n):=by
 induction n with
 | zero=>
  intro args hc Q hq _;simp only [wadC,ctrT] at hq;obtain⟨x,⟨_,_,_,h,_⟩,_⟩:=hq;exact absurd h (Nat.not_lt_zero _)
 | succ n ih=>exact zo0 n ih
def zbx:Ctr:=ctrT false false (λp:Ca×Con=>[p.2.conA,.ptr 0 0,.ptr 1 0]) (λp=>HAw p.1) (λp=>p.2.big<2^38) (λ_ (_:Unit)=>True) (λp _=>((Ca.whole p.1.adj p.2).conD,HAw p.1))
theorem ztk:zc prog 27 zbx:=by
 intro args hc Q hq hf;simp only [zbx,ctrT] at hq;obtain⟨x,⟨h1,h2,h3,h4⟩,h5⟩:=hq;exact zr2 (x.2.nodes+1) args hc Q ⟨x,⟨h1,h2,h3,Nat.lt_succ_self _,h4⟩,h5⟩ hf
theorem zpz{c:Con}(h:c.errC=0):c.form=true:=by
 unfold Con.errC at h;split at h
 ·simp at h
 ·split at h
  ·assumption
  ·simp at h
noncomputable def K22:=Go.Sx.aA f22
noncomputable def K23:=Go.Sx.aA f23
theorem Con.xq:∀ s:List Con,s.length<=Con.zw s
 | []=>by simp
 | c::s=>by rw [Con.zw]; have:=Con.xq s; have:=Con.Q1 c; simp; omega
def zel(n:Nat):Ctr:=ctrP true (λp:Con×Nat×Nat=>[p.1.conA,.i (p.2.1:Int),.i (p.2.2:Int)]) (λp=>p.1.nodes<n/\p.2.1<2^40/\p.2.2<2^40)
 (λp (r:Nat×Bool)=>1<=r.1/\r.1<=p.2.1+1/\(r.2=true->r.1<=p.2.1->r.1=p.1.nodes)) (λ_ (r:Nat×Bool)=>(.tup [.i (r.1:Int),.bool r.2],[]))
def SCk9(limit deep m i:Nat):KV:=[(1,.i (limit:Int)),(2,.i (deep:Int)),(3,.ptr 0 0),(8,.i (m:Int)),(9,.i (i:Int)),Z 20,Z 21,Z 22]
theorem UE(n:Nat)(ih:zc prog 22 (zel n)):zc prog 22 (zel (n+1)):=by
 refine zf' f22 λp hp O w0 Q hq=> ?_
 obtain⟨x,limit,deep⟩:=p;obtain⟨hxn,hli,hde⟩:=hp;simp only at hxn hli hde hq;rw [Con.jH] at hxn hq;have hlb:=Con.xq x.sub;refine zb.n (jl ih) [1,2,3,8,9,20,21,22] (.D ((deep:Int)=0) (.R [.i 1,.bool false] [.box (Con.zd x)]) (.leaf (.loop (lps K22 0).1 (lps K22 0).2 [(1,.i limit),(2,.i deep),(3,.ptr 0 0),(8,.i 1),(9,.i 0),Z 20,Z 21,Z 22] [.box (Con.zd x)]))) ?_;simp only [Tree.holds,ze];refine⟨λh0=> ?_,λh0=> ?_⟩
 ·exact RetR.scal (hq (1,false) ⟨aJ _,by simp,λh=>by cases h⟩) rfl (by simp [resV])
 ·have h0:0<deep:=by have:=aC h0; omega
  refine zb.loop (ι:={q:Nat×Nat // q.1<=limit+1/\q.2<q.1/\q.2<=x.sub.length/\(q.1<=limit->q.1=1+Con.zw (x.sub.take q.2))}) (λq=>SCk9 limit deep q.1.1 q.1.2) (λ_=>[.box x.zd]) (λq=>x.sub.length - q.1.2) ⟨(1,0),by simp [Con.zw]⟩ 0 ?_ ?_ (by kernel_rfl)
  ·exact⟨by simp [SCk9],⟨zB x,trivial⟩,by kernel_rfl,aI _⟩
  ·rintro⟨⟨c,i⟩,h1,h2,h3,h4⟩;simp only at h1 h2 h3 h4;refine zb.n (jl ih) [1,2,3,8,9,20,21,22] (.ite (bif decide ((i:Int)<(x.sub.length:Int)) then decide ((c:Int)<=limit) else false) (.side ((0:Int)<=i/\(i:Int)<(x.sub.length:Int)) (.S ((limit:Int) - c) (.S (deep-1) (.ex (λ(x_1:Con×Nat×Nat)=>eqL [(Con.conD (List.getD x.sub (i:Int).toNat Con.nil)),.i ((limit:Int) - c),.i (deep-1)] [(Con.conA x_1.1),.i x_1.2.1,.i x_1.2.2]/\Con.nodes x_1.1<n/\x_1.2.1<1099511627776/\x_1.2.2<1099511627776) λn=>.all (λ(r:Nat×Bool)=>1<=r.1/\r.1<=n.2.1+1/\(r.2=true->r.1<=n.2.1->r.1=Con.nodes n.1)) λn=>.ite (!Prod.snd n) (.R [.i c,.bool false] [.box (Con.zd x)]) (.S ((c:Int)+n.1) (.S (i+1) (.leaf (.back 0 [(1,.i limit),(2,.i deep),(3,.ptr 0 0),(8,.i ((c:Int)+n.1)),(9,.i (i+1)),Z 20,Z 21,Z 22] [.box (Con.zd x)])))))))) (.R [.i c,.bool true] [.box (Con.zd x)])) ?_;simp only [Tree.holds,ze,inR,lo,hi,aD];refine⟨λhlt=> ?_,λhge=> ?_⟩
   ·have hlt1:i<x.sub.length/\c<=limit:=by
     by_cases g1:i<x.sub.length
     ·by_cases g2:c<=limit
      ·exact⟨g1,g2⟩
      ·rw [aW (show ¬ (c:Int)<=limit by omega)] at hlt;cases hx:decide ((i:Int)<x.sub.length)<;>rw [hx] at hlt<;>cases hlt
     ·rw [aW (show ¬ (i:Int)<x.sub.length by omega)] at hlt;cases hlt
    obtain⟨hlt,hcl⟩:=hlt1;have hg:=Con.qZ hlt;have ht:=Con.vD hlt;have h4:=h4 hcl
    iterate 3 refine⟨by omega,λ_=> ?_⟩
    refine⟨(x.sub.getD i Con.nil,limit - c,deep - 1),⟨?_,by show(x.sub.getD i Con.nil).nodes<n; omega,by show limit - c<2^40; omega,by show deep - 1<2^40; omega⟩,⟨(1,false),aJ _,by simp,λh=>by cases h⟩,?_⟩
    ·have e1:(limit:Int) - c=((limit - c:Nat):Int):=by omega
     have e2:(deep:Int) - 1=((deep - 1:Nat):Int):=by omega
     rw [e1,e2];exact⟨yH _,⟨rfl,rfl⟩,⟨rfl,rfl⟩,trivial⟩
    rintro⟨m',b⟩ ⟨g1,g2,g3⟩;simp only at g1 g2 g3;refine⟨λhb=> ?_,λhb=> ?_⟩
    ·exact RetR.scal (hq (c,false) ⟨by show 1<=c; omega,by show c<=limit+1; omega,λh=>by cases h⟩) rfl (by simp [resV])
    ·have hb:b=true:=by simpa using hb
     refine⟨by omega,λ_=>⟨by omega,λ_=> ?_⟩⟩;rw [aP trivial];refine⟨⟨(c+m',i+1),?_,?_,hlt,?_⟩,by show x.sub.length - (i+1)<x.sub.length - i; omega,?_,⟨zB x,trivial⟩,by kernel_rfl,aI _⟩
     ·show c+m'<=limit+1; omega
     ·show i+1<c+m'; omega
     ·show c+m'<=limit->c+m'=1+Con.zw (x.sub.take (i+1));intro hle;have:=g3 hb (by omega);omega
     ·simp [SCk9]
   ·refine RetR.scal (hq (c,true) ⟨by show 1<=c; omega,h1,λ_ hle=> ?_⟩) rfl (by simp [resV]);simp only at hle
    have hge:i=x.sub.length:=by
     by_cases g1:i<x.sub.length
     ·rw [aX (show(i:Int)<x.sub.length by omega),aX (show(c:Int)<=limit by omega)] at hge;cases hge
     ·omega
    have h4:=h4 hle;rw [hge,bD] at h4;exact h4
def VJ:Ctr:=ctrP true (λp:Con×Nat×Nat=>[p.1.conA,.i (p.2.1:Int),.i (p.2.2:Int)]) (λp=>p.2.1<2^40/\p.2.2<2^40)
 (λp (r:Nat×Bool)=>1<=r.1/\r.1<=p.2.1+1/\(r.2=true->r.1<=p.2.1->r.1=p.1.nodes)) (λ_ (r:Nat×Bool)=>(.tup [.i (r.1:Int),.bool r.2],[]))
theorem zft:zc prog 22 VJ:=jf (λp=>p.1.nodes) UE
theorem Con.zot{c:Con}(h:c.thin):c.src.length<=2^48/\c.dst.length<=2^48/\c.name.length<=2^48/\c.x.thin/\c.days.length<=2^48/\c.sub.length<=2^48/\Con.wC c.sub:=by
 cases c; rw [Con.thin] at h; exact h
def Jo(n:Nat):Ctr:=ctrP true (λx:Con=>[x.conA]) (λx=>x.nodes<n/\x.nodes<=1000/\x.thin) (λx r=>r<=2^51+100000*x.nodes/\(r<100000->x.big<=3001*x.nodes+r)) (λ_ (r:Nat)=>(.i (r:Int),[]))
noncomputable def GWt0:=tb zfd (tb U2 tz)
noncomputable def GWtc(n:Nat):Nat->Option Ctr:=λf=>if f=23 then some (Jo n) else GWt0.g f
theorem zdr{n:Nat}(ih:zc prog 23 (Jo n)):∀ g c,GWtc n g=some c->zc prog g c:=λg c h=>by
 unfold GWtc at h;split at h
 ·rename_i e; cases h; subst e; exact ih
 ·exact GWt0.h g c h
def SWt(m i:Nat):KV:=[(1,.ptr 0 0),(3,.i (m:Int)),(4,.i (i:Int)),Z 34,Z 35]
theorem za1(n:Nat)(ih:zc prog 23 (Jo n)):zc prog 23 (Jo (n+1)):=by
 refine zf' f23 λx hp O w0 Q hq=> ?_
 obtain⟨hxn,hle,hth⟩:=hp;refine zb.n (zdr ih) [1,3,4,34,35] (.ex (λ(x_1:Ex)=>eqL [(Ex.exA x.x)] [x_1.exA]/\Ex.thin x_1) λn=>.all (λ(r:Bool)=>r=false->Ex.size n<=600/\Ex.zo n<=3000) λn=>.ite n (.R [.i 200000] [.box (Con.zd x)]) (.S (x.src.length+x.dst.length) (.S (x.src.length+x.dst.length+x.name.length) (.S (x.src.length+x.dst.length+x.name.length+x.days.length) (.ex (q26 [(Ex.exA x.x)]) λn=>.all (λ(r:Nat)=>r=Ex.size n) λn=>.S ((4:Int)*n) (.S ((x.src.length:Int)+(x.dst.length:Int)+(x.name.length:Int)+(x.days.length:Int)+(4:Int)*n) (.leaf (.loop (lps K23 0).1 (lps K23 0).2 [(1,.ptr 0 0),(3,.i ((x.src.length:Int)+(x.dst.length:Int)+(x.name.length:Int)+(x.days.length:Int)+(4:Int)*n)),(4,.i 0),Z 34,Z 35] [.box (Con.zd x)])))))))) ?_;simp only [q26,Tree.holds,ze,inR,lo,hi,aD];obtain⟨t1,t2,t3,t4,t5,t6,t7⟩:=Con.zot hth;have hbig:=Con.xm x;have hnod:=Con.jH x;have hlb:=Con.xq x.sub;refine⟨x.x,⟨⟨qF x.x,trivial⟩,t4⟩,⟨true,λh=>by cases h⟩,λb hb=>⟨λh=> ?_,λh=> ?_⟩⟩
 ·exact RetR.scal (hq 200000 ⟨by omega,λh=>by omega⟩) rfl (by simp [resV])
 subst h;obtain⟨b1,b2⟩:=hb rfl
 iterate 3 refine⟨by omega,λ_=> ?_⟩
 refine⟨x.x,⟨⟨qF x.x,trivial⟩,by omega⟩,⟨_,rfl⟩,?_⟩;rintro _ rfl
 iterate 2 refine⟨by omega,λ_=> ?_⟩
 refine zb.loop (ι:={q:Nat×Nat // q.2<=x.sub.length/\q.1<=2^51+100000*(1+Con.zw (x.sub.take q.2))/\(q.1<100000->1+x.src.length+x.dst.length+x.name.length+x.days.length+x.x.size+x.x.zo+Con.bigs (x.sub.take q.2)<=3001*(1+Con.zw (x.sub.take q.2))+q.1)}) (λq=>SWt q.1.1 q.1.2) (λ_=>[.box x.zd]) (λq=>x.sub.length - q.1.2) ⟨(x.src.length+x.dst.length+x.name.length+x.days.length+4*x.x.size,0),aI _,by simp only [List.take_zero,Con.zw]; omega,by simp only [List.take_zero,Con.zw,Con.bigs]; omega⟩ 0 ?_ ?_ (by kernel_rfl)
 ·exact⟨by simp [SWt],⟨zB x,trivial⟩,by kernel_rfl,aI _⟩
 ·rintro⟨⟨m,i⟩,h1,h2,h3⟩;simp only at h1 h2 h3;refine zb.n (zdr ih) [1,3,4,34,35] (.ite (bif decide ((i:Int)<(x.sub.length:Int)) then decide ((m:Int)<100000) else false) (.side ((0:Int)<=i/\(i:Int)<(x.sub.length:Int)) (.ex (λ(x_1:Con)=>eqL [(Con.conD (List.getD x.sub (i:Int).toNat Con.nil))] [(Con.conA x_1)]/\Con.nodes x_1<n/\Con.nodes x_1<=1000/\Con.thin x_1) λn=>.all (λ(r:Nat)=>r<=2251799813685248+100000*Con.nodes n/\(r<100000->Con.big n<=3001*Con.nodes n+r)) λn=>.S ((m:Int)+n) (.S (i+1) (.leaf (.back 0 [(1,.ptr 0 0),(3,.i ((m:Int)+n)),(4,.i (i+1)),Z 34,Z 35] [.box (Con.zd x)]))))) (.R [.i m] [.box (Con.zd x)])) ?_;simp only [Tree.holds,ze,inR,lo,hi,aD];have hlt2:=Con.Qh x.sub i;refine⟨λhlt=> ?_,λhge=> ?_⟩
  ·have hlt1:i<x.sub.length/\m<100000:=by
    by_cases g1:i<x.sub.length
    ·by_cases g2:m<100000
     ·exact⟨g1,g2⟩
     ·rw [aW (show ¬ (m:Int)<100000 by omega)] at hlt;cases hx:decide ((i:Int)<x.sub.length)<;>rw [hx] at hlt<;>cases hlt
    ·rw [aW (show ¬ (i:Int)<x.sub.length by omega)] at hlt;cases hlt
   obtain⟨hlt,hm⟩:=hlt1;have h3:=h3 hm;have e1:=Con.qZ hlt;have e2:=Con.vD hlt;have e3:=Con.zgq hlt;refine⟨by omega,λ_=>⟨x.sub.getD i Con.nil,⟨⟨yH _,trivial⟩,by omega,by omega,Con.Qm hlt t7⟩,⟨200000,by omega,λh=>by omega⟩,?_⟩⟩;intro r hr;obtain⟨r1,r2⟩:=hr;refine⟨by omega,λ_=>⟨by omega,λ_=> ?_⟩⟩;rw [aP trivial];refine⟨⟨(m+r,i+1),hlt,by simp only; omega,λhlt2=> ?_⟩,by show x.sub.length - (i+1)<x.sub.length - i; omega,by simp [SWt],⟨zB x,trivial⟩,by kernel_rfl,aI _⟩;simp only at hlt2 ⊢;have:=r2 (by omega);omega
  ·refine RetR.scal (hq m ⟨by omega,λhm=> ?_⟩) rfl (by simp [resV])
   have hge:i=x.sub.length:=by
    by_cases g1:i<x.sub.length
    ·rw [aX (show(i:Int)<x.sub.length by omega),aX (show(m:Int)<100000 by omega)] at hge;cases hge
    ·omega
   have h3:=h3 hm;rw [hge,bD] at h3;omega
def Vw:Ctr:=ctrP true (λx:Con=>[x.conA]) (λx=>x.nodes<=1000/\x.thin) (λx r=>r<=2^51+100000*x.nodes/\(r<100000->x.big<=3001*x.nodes+r)) (λ_ (r:Nat)=>(.i (r:Int),[]))
theorem zgf:zc prog 23 Vw:=jf Con.nodes za1
def zmp:Ctr:=ctrP true (λx:Con=>[x.conA]) (λx=>x.thin) (λx r=>r=false->x.nodes<=600/\x.big<=1900000) (λ_ (r:Bool)=>(.bool r,[]))
noncomputable def GGk:=tb zft (tb zgf tz)
theorem zfi:zc prog 7 zmp:=by
 refine zf' f7 λx hx O w0 Q hq=> ?_
 refine zb.n GGk.h [] (.ex (λ(x_1:Con×Nat×Nat)=>eqL [(Con.conA x),.i 600,.i 100] [(Con.conA x_1.1),.i x_1.2.1,.i x_1.2.2]/\x_1.2.1<1099511627776/\x_1.2.2<1099511627776) λn=>.all (λ(r:Nat×Bool)=>1<=r.1/\r.1<=n.2.1+1/\(r.2=true->r.1<=n.2.1->r.1=Con.nodes n.1)) λn=>.ex (λ(x_1:Con)=>(bif !Prod.snd n then true else decide ((600:Int)<n.1))=false->eqL [(Con.conA x)] [(Con.conA x_1)]/\Con.nodes x_1<=1000/\Con.thin x_1) λn_1=>.all (λ(x:Nat)=>(bif !Prod.snd n then true else decide ((600:Int)<n.1))=false->x<=2251799813685248+100000*Con.nodes n_1/\(x<100000->Con.big n_1<=3001*Con.nodes n_1+x)) λn_2=>.R [.bool (bif bif !Prod.snd n then true else decide ((600:Int)<n.1) then true else decide ((12000:Int)<n_2))] [.box (Con.zd x)]) ?_;simp only [Tree.holds,ze,inR,lo,hi,aD];refine⟨(x,600,100),⟨⟨zQ x,⟨rfl,rfl⟩,⟨rfl,rfl⟩,trivial⟩,by show 600<1099511627776; omega,by show 100<1099511627776; omega⟩,⟨(1,false),aJ _,by show 1<=600+1; omega,λh=>by cases h⟩,?_⟩;rintro⟨c,b⟩ ⟨g1,g2,g3⟩;simp only at g1 g2 g3
 have hsz:(bif !b then true else decide (600<(c:Int)))=false->x.nodes<=600:=by
  intro h;cases b with
  | false=>cases h
  | true=>
   have h:¬ 600<(c:Int):=aC h;have:=g3 rfl (by omega);omega
 refine⟨x,λh=>⟨⟨zQ x,trivial⟩,by have:=hsz h; omega,hx⟩,⟨200000,λ_=>⟨by omega,λh=>by omega⟩⟩,?_⟩;intro c2 hc2;refine RetR.scal (hq (bif (bif !b then true else decide (600<(c:Int))) then true else decide (12000<(c2:Int))) λh=> ?_) rfl (by simp [resV]);cases ht:(bif !b then true else decide (600<(c:Int))) with
 | true=>rw [ht] at h; cases h
 | false=>
  rw [ht] at h;obtain⟨_,h2⟩:=hc2 ht;have h:¬ 12000<(c2:Int):=aC h;have h3:=h2 (by omega);have h4:=hsz ht;refine⟨h4,?_⟩;omega
end Go.Proofs.Tryz
end
section
namespace Go.Nov
open Go.Sx
theorem ua{f:List Fx}(hp:f.Pairwise λx y=>cmpF x y<0){n v:L8}{d:Int} : zF f n d=(v,true)↔∃ x∈f,x.name=n/\x.date=d/\x.value=v:=by
 unfold zF;cases e:f.find? (λx=>decide (x.name=n)&&decide (x.date=d)) with
 | none=>
  simp only [bE,Bool.false_eq_true,and_false,false_iff];rintro⟨x,hx,h1,h2,_⟩;rw [List.find?_eq_none] at e;exact e x hx (by simp [h1,h2])
 | some y=>
  have hy:=List.find?_some e;have hm:=List.mem_of_find?_eq_some e;simp only [bA,aK] at hy;simp only [bE,and_true];constructor
  ·intro h; exact⟨y,hm,hy.1,hy.2,h⟩
  ·rintro⟨x,hx,h1,h2,rfl⟩
   have:x=y:=by
    obtain⟨i,hi,rfl⟩:=List.getElem_of_mem hx;obtain⟨j,hj,rfl⟩:=List.getElem_of_mem hm;have hz:cmpF f[i] f[j]=0:=vQ.2 ⟨h1.trans hy.1.symm,h2.trans hy.2.symm⟩;have hz':cmpF f[j] f[i]=0:=vQ.2 ⟨(h1.trans hy.1.symm).symm,(h2.trans hy.2.symm).symm⟩;rcases Nat.lt_trichotomy i j with g | g | g
    ·have:=List.pairwise_iff_getElem.1 hp i j hi hj g; omega
    ·subst g; rfl
    ·have:=List.pairwise_iff_getElem.1 hp j i hj hi g; omega
   rw [this]
theorem V6{f:List Fx}{n:L8}{d:Int} : (zF f n d).2=false↔∀ x∈f,¬ (x.name=n/\x.date=d):=by
 unfold zF;cases e:f.find? (λx=>decide (x.name=n)&&decide (x.date=d)) with
 | none=>
  rw [List.find?_eq_none] at e;simp only [true_iff];intro x hx h;exact e x hx (by simp [h.1,h.2])
 | some y=>
  have hy:=List.find?_some e;have hm:=List.mem_of_find?_eq_some e;simp only [bA,aK] at hy;simp only [Bool.true_eq_false,false_iff];intro h;exact h y hm hy
theorem JK{f:List Fx}{n:L8}{d:Int}(h:(zF f n d).2=false):(zF f n d).1=[]:=by
 unfold zF at h ⊢;split
 ·rename_i e; rw [e] at h; cases h
 ·rfl
theorem zgy{f g:List Fx}{n:L8}{d:Int}(hf:f.Pairwise λx y=>cmpF x y<0)(hg:g.Pairwise λx y=>cmpF x y<0)(h:∀ v:L8,(⟨n,d,v⟩:Fx)∈f↔(⟨n,d,v⟩:Fx)∈g):zF f n d=zF g n d:=by
 have key:∀ {l:List Fx} {v:L8},(∃ x∈l,x.name=n/\x.date=d/\x.value=v)↔(⟨n,d,v⟩:Fx)∈l:=by
  intro l v;constructor
  ·rintro⟨⟨a,b,c⟩,hx,rfl,rfl,rfl⟩; exact hx
  ·intro hx; exact⟨_,hx,rfl,rfl,rfl⟩
 cases e:(zF f n d).2 with
 | true=>
  have e1:zF f n d=((zF f n d).1,true):=by rw [<- e]
  have:=(ua hf).1 e1;rw [key,h,<- key] at this;rw [e1,(ua hg).2 this]
 | false=>
  have e2:(zF g n d).2=false:=by
   rw [V6] at e ⊢;rintro⟨a,b,c⟩ hx ⟨rfl,rfl⟩;exact e _ ((h c).2 hx) ⟨rfl,rfl⟩
  rw [Prod.ext_iff];exact⟨by rw [JK e,JK e2],by rw [e,e2]⟩
namespace Ca
def more(a:Ca):Nat:=(if a.ratio=[49] then 0 else 2)+(if a.extra=[48] then 0 else 2)
mutual
def grow(a:Ca):Ex->Nat
 | .mk k r n d s=>if a.onX k n d=true then a.more else UD a s
def UD(a:Ca):List Ex->Nat
 | []=>0
 | x::l=>grow a x+UD a l
end
theorem YP{a:Ca}{k d:Int}{n:L8}(h:a.onX k n d=true):k=3\/k=2:=by
 simp [onX] at h;rcases h.2 with h1 | h1
 ·exact .inl h1
 ·exact .inr h1.1
mutual
theorem zmx(a:Ca):∀ x:Ex,x.zu≠0->(chg a x).size=x.size+grow a x
 | .mk k r n d s,h=>by
  rw [Ex.zu] at h;rw [chg,grow];by_cases hh:a.onX k n d=true
  ·rw [aP hh,aP hh];obtain⟨_,h2⟩:=xo h (YP hh)
   have:s=[]:=by
    cases s with
    | nil=>rfl
    | cons x s=>rw [Ex.qf] at h2; cases h2
   subst this;unfold rel more;split<;>split<;>simp [Tm.opx,Tm.kon,Ex.size,Ex.zp]
  ·rw [aO hh,aO hh];simp only [Ex.size];rw [V2 a s (JU h)];omega
theorem V2(a:Ca):∀ s:List Ex,(∀ p∈Ex.qf s,p≠0)->Ex.zp (chgs a s)=Ex.zp s+UD a s
 | [],_=>by rw [chgs,UD]; rfl
 | x::s,h=>by
  rw [Ex.qf] at h;rw [chgs,UD];simp only [Ex.zp];rw [zmx a x (h _ (by simp)),V2 a s (λp hp=>h p (by simp [hp]))];omega
end
theorem zml{a:Ca}{f:List Fx}{c:List Ch}(h:a.ok=true)(he:errE f c=0)(h0:a.err f=0)(hlen:(a.kept f).length+(a.fresh f).length<=1000) :
  ∀ k,k<=(a.fresh f).length->errE (a.join (a.kept f) ((a.fresh f).take k)) c=0:=by
 obtain⟨h1,h2,h3,h4,h5⟩:=jG.1 he;obtain⟨f1,f2⟩:=YC h he h0;obtain⟨k1,k2⟩:=KO (a:=a) he;obtain⟨g1,g2⟩:=zl2 (a:=a) k2
 have hlo:∀ w∈(a.kept f).take (a.at_ (a.kept f)),∀ x∈a.fresh f,cmpF w x<0:=by
  intro w hw x hx;obtain⟨_,e1,e2⟩:=f1 x hx;have hb:=g1 w hw;rw [vR,e1];rcases Xi w.name a.name with ht | ht | ht
  ·exact .inl ht
  ·right;refine⟨ht,?_⟩;rcases(k1 w (List.mem_of_mem_take hw)).2 with h6 | h6
   ·exact absurd ht h6
   ·omega
  ·rw [ht] at hb; cases hb
 have hhi:∀ w∈(a.kept f).drop (a.at_ (a.kept f)),∀ x∈a.fresh f,cmpF x w<0:=by
  intro w hw x hx;obtain⟨_,e1,e2⟩:=f1 x hx;rw [vR,e1];exact .inl (g2 w hw)
 intro k hk
 have hjl:(a.join (a.kept f) ((a.fresh f).take k)).length=(a.kept f).length+k:=by
  have:=YE (a:=a) (l:=a.kept f);unfold join;simp only [bO,aH,bV];omega
 refine jG.2 ⟨by omega,?_,h3,zno zum ?_,h5⟩
 ·rw [bG];intro w hw;unfold join at hw;simp only [bZ] at hw;rcases hw with (hw | hw) | hw
  ·exact(k1 w (List.mem_of_mem_take hw)).1
  ·exact(f1 w (List.mem_of_mem_take hw)).1
  ·exact(k1 w (List.mem_of_mem_drop hw)).1
 ·unfold join;rw [List.pairwise_append];refine⟨?_,k2.sublist (List.drop_sublist _ _),?_⟩
  ·rw [List.pairwise_append];exact⟨k2.sublist (List.take_sublist _ _),f2.sublist (List.take_sublist _ _),λw hw x hx=>hlo w hw x (List.mem_of_mem_take hx)⟩
  ·intro w hw x hx;rcases bZ.1 hw with hw | hw
   ·have e:a.kept f=(a.kept f).take (a.at_ (a.kept f))++(a.kept f).drop (a.at_ (a.kept f)):=(bU _ _).symm;rw [e,List.pairwise_append] at k2;exact k2.2.2 w hw x hx
   ·exact hhi x hx w (List.mem_of_mem_take hw)
theorem YR{a:Ca}{f:List Fx}{c:List Ch}(h:(a.before f c).2=0):a.ok=true/\errE f c=0/\a.err f=0/\(a.kept f).length+(a.fresh f).length<=1000/\a.before f c=((a.join (a.kept f) (a.fresh f),c),0):=by
 unfold before at h ⊢;by_cases h1:a.ok=false
 ·rw [aP h1] at h; cases h
 rw [aO h1] at h ⊢;by_cases h2:errE f c≠0
 ·rw [aP h2] at h; exact absurd h h2
 rw [aO h2] at h ⊢;by_cases h3:a.err f≠0
 ·rw [aP h3] at h; exact absurd h h3
 rw [aO h3] at h ⊢;by_cases h4:1000<(a.kept f).length+(a.fresh f).length
 ·rw [aP h4] at h; cases h
 rw [aO h4];exact⟨by simpa using h1,Classical.not_not.1 h2,Classical.not_not.1 h3,by omega,rfl⟩
theorem zh2{a:Ca}{f:List Fx}{c:List Ch}(h:(a.before f c).2≠0):(a.before f c).1=([],[]):=by
 unfold before at h ⊢;split
 ·rfl
 ·split
  ·rfl
  ·split
   ·rfl
   ·split
    ·rfl
    ·rename_i h1 h2 h3 h4;rw [aO h1,aO h2,aO h3,aO h4] at h;exact absurd rfl h
theorem WI{a:Ca}{l m:List Fx}{x:Fx} : x∈a.join l m↔x∈l\/x∈m:=by
 have e:l=l.take (a.at_ l)++l.drop (a.at_ l):=(bU _ _).symm;have:x∈l↔x∈l.take (a.at_ l)\/x∈l.drop (a.at_ l):=by rw [<- bZ,bU]
 rw [this];unfold join;simp only [bZ];constructor
 ·rintro((h | h) | h)
  ·exact .inl (.inl h)
  ·exact .inr h
  ·exact .inl (.inr h)
 ·rintro((h | h) | h)
  ·exact .inl (.inl h)
  ·exact .inr h
  ·exact .inl (.inr h)
theorem jt{a:Ca}{f:List Fx}{c:List Ch}(h:(a.before f c).2=0)(n:L8)(d:Int):errE (a.before f c).1.1 (a.before f c).1.2=0/\(a.before f c).1.2.length=c.length /\
  (¬ (n=a.name/\a.date<=d)->zF f n d=zF (a.before f c).1.1 n d) /\
  (n=a.name->a.date<=d->((zF f a.into d).2=false->(zF (a.before f c).1.1 n d).2=false) /\
   ((zF f a.into d).2=true->(mulR a.ratio (zF f a.into d).1).2=0/\(addR (mulR a.ratio (zF f a.into d).1).1 a.extra).2=0/\zF (a.before f c).1.1 n d=((addR (mulR a.ratio (zF f a.into d).1).1 a.extra).1,true))):=by
 obtain⟨h1,h2,h3,h4,h5⟩:=YR h;rw [h5];have hj:=zml h1 h2 h3 h4 _ (aJ _);rw [bD] at hj;have pj:=ZF W6 (jG.1 hj).2.2.2.1;have pf:=ZF W6 (jG.1 h2).2.2.2.1;refine⟨hj,rfl,λhn=>zgy pf pj λv=> ?_,λhn hd=> ?_⟩
 ·rw [WI];constructor
  ·intro hx;refine .inl (List.mem_filter.2 ⟨hx,?_⟩);unfold keep;simp only [Bool.or_eq_true,Bool.not_eq_true',aV,aK];by_cases g:n=a.name
   ·right; have:¬ a.date<=d:=λg2=>hn ⟨g,g2⟩; omega
   ·exact .inl g
  ·rintro(hx | hx)
   ·exact(List.mem_filter.1 hx).1
   ·obtain⟨_,e1,e2⟩:=(YC h1 h2 h3).1 _ hx;exact absurd ⟨e1,e2⟩ hn
 ·subst hn
  have off:∀ x∈a.kept f,¬ (x.name=a.name/\x.date=d):=by
   rintro x hx ⟨g1,g2⟩;rcases((KO (a:=a) h2).1 x hx).2 with g | g
   ·exact g g1
   ·omega
  constructor
  ·intro h0;rw [V6] at h0 ⊢;intro x hx g;rcases WI.1 hx with hx | hx
   ·exact off x hx g
   ·unfold fresh at hx;obtain⟨y,hy,rfl⟩:=List.mem_map.1 hx;obtain⟨hy1,hy2⟩:=List.mem_filter.1 hy;unfold hit at hy2;simp only [bA,aK] at hy2;exact h0 y hy1 ⟨hy2.1,g.2⟩
  ·intro h0;have e0:zF f a.into d=((zF f a.into d).1,true):=by rw [<- h0]
   obtain⟨x,hx,g1,g2,g3⟩:=(ua pf).1 e0;have hh:a.hit x=true:=by unfold hit; simp [g1,g2,hd]
   have h6:=Ym h3 x hx hh;have h7:(a.mk' x)∈a.fresh f:=List.mem_map.2 ⟨x,List.mem_filter.2 ⟨hx,hh⟩,rfl⟩;rw [g3] at h6
   have hm:(mulR a.ratio (zF f a.into d).1).2=0:=by
    refine Classical.byContradiction λg=> ?_
    unfold old at h6;rw [aP g] at h6;exact g h6
   have ho:a.old (zF f a.into d).1=addR (mulR a.ratio (zF f a.into d).1).1 a.extra:=by
    unfold old; rw [aO (Classical.not_not.2 hm)]
   rw [ho] at h6;refine⟨hm,h6,(ua pj).2 ⟨a.mk' x,WI.2 (.inr h7),rfl,g2,?_⟩⟩;show(a.old x.value).1=_;rw [g3,ho]
end Ca
end Go.Nov
end
section
namespace Go.Nov
def askE(x:Ex)(want day:Int)(f:List Fx)(c:List Ch):Int:=if x.errX≠0 then x.errX else if x.zu≠want then 32 else if errE f c≠0 then errE f c else if dayB day then 0 else 2
def jD(x:Ex)(day:Int)(f:List Fx)(c:List Ch):L8×Int:=if askE x 1 day f c≠0 then([],askE x 1 day f c) else if(x.ev f day).e≠0 then([],(x.ev f day).e) else((x.ev f day).v,0)
def xl(x:Ex)(day:Int)(f:List Fx)(c:List Ch):Bool×Int:=if askE x 2 day f c≠0 then(false,askE x 2 day f c) else if(x.ev f day).g≠0 then(false,(x.ev f day).g) else((x.ev f day).b,0)
theorem zvg{x:Ex}{want day:Int}{f:List Fx}{c:List Ch}(h:x.errX≠0):askE x want day f c=x.errX:=by unfold askE; rw [aP h]
theorem zvl{x:Ex}{want day:Int}{f:List Fx}{c:List Ch}(h:x.errX=0)(h2:¬ x.zu=want):askE x want day f c=32:=by unfold askE; rw [aO (by rw [h]; simp),aP h2]
theorem Kb{x:Ex}{want day:Int}{f:List Fx}{c:List Ch}(h:x.errX=0)(h2:x.zu=want):askE x want day f c=if errE f c=0 then(if dayB day=true then 0 else 2) else errE f c:=by
 unfold askE;rw [aO (by rw [h]; simp),aO (by rw [h2]; simp)];by_cases g:errE f c=0
 ·rw [aP g,aO (by rw [g]; simp)]
 ·rw [aO g,aP g]
theorem WV{x:Ex}{want day:Int}{f:List Fx}{c:List Ch}(h:askE x want day f c=0):x.errX=0/\x.zu=want/\errE f c=0/\dayB day=true:=by
 unfold askE at h;split at h
 ·rename_i g; exact absurd h g
 ·rename_i g1;split at h
  ·cases h
  ·rename_i g2;split at h
   ·rename_i g; exact absurd h g
   ·rename_i g3;split at h
    ·rename_i g4;exact⟨Classical.not_not.1 g1,Classical.not_not.1 g2,Classical.not_not.1 g3,g4⟩
    ·cases h
end Go.Nov
end
section
namespace Go.Nov
open Go.Sx
structure Pt(x y:Ex):Prop where
 x0:x.errX=0
 x1:x.zu=1
 y0:y.errX=0
 y1:y.zu=1
 s:x.size+y.size<500
 d1:x.depth<60
 d2:y.depth<60
section
variable {x y:Ex} {day:Int} {f:List Fx} {c:List Ch} (h:Pt x y)
include h
end
theorem za4{x:Ex}{day:Int}{f:List Fx}{c:List Ch}(h:(jD x day f c).2=0):errR (jD x day f c).1=0:=by
 have ha:askE x 1 day f c=0:=bM λg=>g (by unfold jD at h; rw [aP g] at h; exact h)
 obtain⟨g1,g2,g3,_⟩:=WV ha;have n0:¬ (0:Int)≠0:=by simp
 have he:(x.ev f day).e=0:=bM λg=>g (by unfold jD at h; rw [ha,aO n0,aP g] at h; exact h)
 have hv:jD x day f c=((x.ev f day).v,0):=by unfold jD; rw [ha,he,aO n0,aO n0]
 rw [hv];exact Ex.ZB (jG.1 g3).2.1 day x g2 he
end Go.Nov
end
section
namespace Go.Nov
open Go.Sx
section
variable {x:Ex} {day:Int} {f:List Fx} {c:List Ch}
end
structure Lg(p q x y:Ex):Prop where
 p0:p.errX=0
 p1:p.zu=2
 q0:q.errX=0
 q1:q.zu=2
 x0:x.errX=0
 x1:x.zu=1
 y0:y.errX=0
 y1:y.zu=1
 s:p.size+q.size+x.size+y.size<500
 dp:p.depth<60
 dq:q.depth<60
 dx:x.depth<60
 dy:y.depth<60
section
variable {p q x y:Ex} {day:Int} {f:List Fx} {c:List Ch} (h:Lg p q x y)
include h
end
end Go.Nov
end
section
namespace Go.Nov
open Go.Sx
namespace Ex
mutual
def men(a:L8):Ex->Bool
 | mk _ _ n _ s=>decide (n=a)||mens a s
def mens(a:L8):List Ex->Bool
 | []=>false
 | x::l=>men a x||mens a l
end
mutual
def fixX(day:Int):Ex->Ex
 | mk k r n d s=>mk (if k=3 then 2 else k) r n (if k=3 then day else d) (fixs day s)
def fixs(day:Int):List Ex->List Ex
 | []=>[]
 | x::l=>fixX day x::fixs day l
end
mutual
theorem zin(day:Int):∀ x:Ex,(fixX day x).size=x.size
 | mk k r n d s=>by rw [fixX,size,size,VK day s]
theorem VK(day:Int):∀ s:List Ex,zp (fixs day s)=zp s
 | []=>rfl
 | x::l=>by rw [fixs,zp,zp,zin day x,VK day l]
end
mutual
theorem zf9(day:Int):∀ x:Ex,(fixX day x).depth=x.depth
 | mk k r n d s=>by rw [fixX,depth,depth,JW day s]
theorem JW(day:Int):∀ s:List Ex,z7 (fixs day s)=z7 s
 | []=>rfl
 | x::l=>by rw [fixs,z7,z7,zf9 day x,JW day l]
end
mutual
theorem zhu(day:Int):∀ x:Ex,(fixX day x).zo=x.zo
 | mk k r n d s=>by rw [fixX,zo,zo,We day s]
theorem We(day:Int):∀ s:List Ex,zN (fixs day s)=zN s
 | []=>rfl
 | x::l=>by rw [fixs,zN,zN,zhu day x,We day l]
end
theorem zlq{k v:Int}(hk:qK k=true)(h:v∈qw k):v≠0:=by
 have h2:(4<=k/\k<=9)\/(11<=k/\k<=15):=by
  by_cases h1:4<=k/\k<=9
  ·exact .inl h1
  ·by_cases h2:11<=k/\k<=15
   ·exact .inr h2
   ·rw [zcy h1 h2] at hk; cases hk
 have h3:k=4\/k=5\/k=6\/k=7\/k=8\/k=9\/k=11\/k=12\/k=13\/k=14\/k=15:=by omega
 rcases h3 with rfl | rfl | rfl | rfl | rfl | rfl | rfl | rfl | rfl | rfl | rfl<;>(revert v; decide)
mutual
theorem zkh{day:Int}(hd:dayB day=true):∀ x:Ex,x.zu≠0->(fixX day x).zu=x.zu
 | mk k r n d s,h=>by
  rw [fixX,zu,zu];rw [zu] at h;by_cases hk:qK k=true
  ·have k3:k≠3:=λg=>by rw [g] at hk; cases hk
   rw [aO k3,aO k3]
   have hs:qf s=qw k:=by
    unfold wL at h;rw [aP hk] at h;by_cases g:r=[]/\n=[]/\d=0/\qf s=qw k
    ·exact g.2.2.2
    ·rw [aO g] at h; exact absurd rfl h
   rw [Kv hd s λv hv=>zlq hk (by rw [<- hs]; exact hv)]
  ·have hk:qK k=false:=by simpa using hk
   rw [wN hk] at h ⊢;by_cases g:je k r n d (qf s).length=true
   ·have hl:(qf s).length=0:=by
     unfold je at g;simp only [bA,aK] at g;exact g.1
    have hs:s=[]:=aU.1 (by rw [<- j1 s]; exact hl);subst hs;by_cases k3:k=3
    ·rw [aP k3,aP k3,aP g];subst k3;rw [wN (by rfl),aP];unfold je at g ⊢;simp only [bA,aK,show ¬ (3:Int)=1 by decide,show ¬ (3:Int)=2 by decide,show ¬ (2:Int)=1 by decide,if_false,if_true] at g ⊢;exact⟨rfl,⟨g.2.1.1,g.2.1.2⟩,hd⟩
    ·rw [aO k3,aO k3,fixs,wN hk]
   ·rw [aO g] at h; exact absurd rfl h
theorem Kv{day:Int}(hd:dayB day=true):∀ s:List Ex,(∀ v∈qf s,v≠0)->qf (fixs day s)=qf s
 | [],_=>rfl
 | x::l,h=>by
  rw [fixs,qf,qf];rw [qf] at h;rw [zkh hd x (h _ (by simp)),Kv hd l λv hv=>h v (by simp [hv])]
end
theorem zpr(f:List Fx)(day k:Int)(r n:L8)(d:Int)(l:List Ev):evN f day (if k=3 then 2 else k) r n (if k=3 then day else d) l=evN f day k r n d l:=by
 by_cases k3:k=3
 ·subst k3;rw [aP rfl,aP rfl];rfl
 ·rw [aO k3,aO k3]
mutual
theorem zo2(f:List Fx)(day:Int):∀ x:Ex,(fixX day x).ev f day=x.ev f day
 | mk k r n d s=>by rw [fixX,ev,ev,zef f day s,zpr]
theorem zef(f:List Fx)(day:Int):∀ s:List Ex,evs f day (fixs day s)=evs f day s
 | []=>rfl
 | x::l=>by rw [fixs,evs,evs,zo2 f day x,zef f day l]
end
mutual
theorem zsw{f g:List Fx}{a:L8}(hf:∀ (n:L8) (d:Int),n≠a->fixR g n d=fixR f n d)(day:Int):∀ x:Ex,x.men a=false->x.ev g day=x.ev f day
 | mk k r n d s,h=>by
  rw [men,Bool.or_eq_false_iff] at h;have hn:n≠a:=aC h.1;rw [ev,ev,zde hf day s h.2];unfold evN valN;rw [hf n d hn,hf n day hn]
theorem zde{f g:List Fx}{a:L8}(hf:∀ (n:L8) (d:Int),n≠a->fixR g n d=fixR f n d)(day:Int):∀ s:List Ex,mens a s=false->evs g day s=evs f day s
 | [],_=>rfl
 | x::l,h=>by
  rw [mens,Bool.or_eq_false_iff] at h;rw [evs,evs,zsw hf day x h.1,zde hf day l h.2]
end
end Ex
end Go.Nov
end
section
namespace Go.Nov
open Go.Sx
theorem ze9:errR [49]=0:=by decide +kernel
theorem zmn:numR [49]=[49]/\denR [49]=[49]/\zI [49]=1/\errI [49]=0:=by decide +kernel
theorem zoy:numR [48]=[48]/\denR [48]=[49]/\zI [48]=0/\errI [48]=0:=by decide +kernel
theorem zv9:qv [49]=1:=by decide +kernel
theorem zn2{x:L8}(h:errR x=0):mulR [49] x=(x,0):=by
 obtain⟨a1,a2,b1,b2,a4,b4,h2⟩:=QP ze9 h;obtain⟨n1,n2,n3,n4⟩:=zmn
 have e0:(mulR [49] x).2=0:=by
  unfold mulR;rw [h2,aO (by simp),n1,n2,wU (zk.2 ⟨n4,b1⟩),wU (zk.2 ⟨n4,b2⟩),n3,Int.one_mul,Int.one_mul,vw b1,vw b2];unfold frac;rw [aO (by simp),(zcq b1 b2 (λh=>b4 (by unfold zI; split<;>simp [h]))).1]
 obtain⟨g1,g2⟩:=yT ze9 h e0;rw [zv9,Rat.one_mul] at g2;rw [Prod.ext_iff];exact⟨zko g1 h g2,e0⟩
theorem add_zero'{x:L8}(h:errR x=0):addR x [48]=(x,0):=by
 obtain⟨a1,a2,b1,b2,a4,b4,h2⟩:=QP h Jj;obtain⟨n1,n2,n3,n4⟩:=zoy;obtain⟨m1,m2,m3,m4⟩:=zmn;have k1:mulI (numR x) (denR [48])=(numR x,0):=by rw [n2,wU (zk.2 ⟨a1,m4⟩),m3,Int.mul_one,vw a1]
 have k2:mulI (numR [48]) (denR x)=([48],0):=by rw [n1,wU (zk.2 ⟨n4,a2⟩),n3,Int.zero_mul]; exact n3▸vw n4
 have k3:mulI (denR x) (denR [48])=(denR x,0):=by rw [n2,wU (zk.2 ⟨a2,m4⟩),m3,Int.mul_one,vw a2]
 have e0:(addR x [48]).2=0:=by
  have hc:zS x [48]=0:=by
   unfold zS;rw [aO (by rw [h2]; simp),aO (by rw [k1,k2]; simp)]
  unfold addR;rw [hc,aO (by simp),k1,k2,k3,zo1 (zk.2 ⟨a1,n4⟩),n3,Int.add_zero,vw a1];unfold frac;rw [aO (by simp),(zcq a1 a2 (λh=>a4 (by unfold zI; split<;>simp [h]))).1]
 obtain⟨g1,g2⟩:=Xe h Jj e0;rw [zs5,Rat.add_zero] at g2;rw [Prod.ext_iff];exact⟨zko g1 h g2,e0⟩
namespace Ca
def isNone(a:Ca):Prop:=a.ratio=[49]/\a.extra=[48]/\a.into=a.name
mutual
theorem Yd{a:Ca}(h:a.isNone):∀ x:Ex,x.zu≠0->chg a x=x
 | .mk k r n d s,hs=>by
  rw [Ex.zu] at hs;rw [chg];by_cases hh:a.onX k n d=true
  ·rw [aP hh];obtain⟨h1,h2⟩:=xo hs (YP hh)
   have h3:s=[]:=by
    cases s with
    | nil=>rfl
    | cons x s=>rw [Ex.qf] at h2; cases h2
   have h4:n=a.name:=by simp [onX] at hh; exact hh.1
   unfold rel;rw [aP h.2.1,aP h.1,h.2.2,h1,h3,h4]
  ·rw [aO hh,KK h s (JU hs)]
theorem KK{a:Ca}(h:a.isNone):∀ s:List Ex,(∀ p∈Ex.qf s,p≠0)->chgs a s=s
 | [],_=>by rw [chgs]
 | x::s,hs=>by
  rw [Ex.qf] at hs;rw [chgs,Yd h x (hs _ (by simp)),KK h s (λp hp=>hs p (by simp [hp]))]
end
theorem zmo{a:Ca}{x:Ex}(h:qR x=true):chg a x=x:=by
 obtain⟨k,r,n,d,s⟩:=x;simp [qR,Ex.kind,Ex.rat,Ex.name,Ex.date,Ex.sub] at h;obtain⟨h0,_,_,_,rfl⟩:=h;obtain rfl:k=0:=aB h0;rw [chg,chgs];have:a.onX 0 n d=false:=by simp [onX]
 rw [this]; simp
mutual
theorem zay{a:Ca}(h:a.isNone):∀ c:Con,c.form=true->whole a.chg c=c
 | .mk k s t n x d l u,hf=>by
  rw [Con.form,bA] at hf;rw [whole,Q9 h u hf.2];rcases zdy hf.1 with hx | hx
  ·rw [zmo hx]
  ·rw [Yd h x hx]
theorem Q9{a:Ca}(h:a.isNone):∀ u:List Con,Con.vA u=true->qx a.chg u=u
 | [],_=>by rw [qx]
 | c::u,hf=>by
  rw [Con.vA,bA] at hf;rw [qx,zay h c hf.1,Q9 h u hf.2]
end
mutual
theorem zdf{a:Ca} : ∀ x:Ex,x.men a.name=false->chg a x=x
 | .mk k r n d s,h=>by
  rw [Ex.men,Bool.or_eq_false_iff] at h;have h1:¬ n=a.name:=aC h.1;rw [chg,aO (by simp [onX,h1]),Ye s h.2]
theorem Ye{a:Ca} : ∀ s:List Ex,Ex.mens a.name s=false->chgs a s=s
 | [],_=>by rw [chgs]
 | x::s,h=>by
  rw [Ex.mens,Bool.or_eq_false_iff] at h;rw [chgs,zdf x h.1,Ye s h.2]
end
end Ca
namespace Con
mutual
def men(a:L8):Con->Bool
 | mk _ _ _ _ x _ _ s=>x.men a||mens a s
def mens(a:L8):List Con->Bool
 | []=>false
 | c::l=>men a c||mens a l
end
end Con
namespace Ca
mutual
theorem zgr{a:Ca} : ∀ c:Con,c.men a.name=false->whole a.chg c=c
 | .mk k s t n x d l u,h=>by
  rw [Con.men,Bool.or_eq_false_iff] at h;rw [whole,zdf x h.1,JD u h.2]
theorem JD{a:Ca} : ∀ u:List Con,Con.mens a.name u=false->qx a.chg u=u
 | [],_=>by rw [qx]
 | c::u,h=>by
  rw [Con.mens,Bool.or_eq_false_iff] at h;rw [qx,zgr c h.1,JD u h.2]
end
end Ca
end Go.Nov
end
section
set_option maxRecDepth 100000
open Go Go.Sx Go.Proofs Go.Nov
namespace Go.Proofs.Tryz
attribute [local simp] eqKV eqA eqA0 eqH eqB eqL eqL0
noncomputable def GAjP:=tb xD (tb VD (tb ztk tz))
theorem zq7:zc prog 10 zs7:=by
 refine zf' f10 λp hp O w0 Q hq=> ?_
 obtain⟨a,c⟩:=p;replace hq:=hq () trivial;obtain⟨ht,hx1,hx2⟩:=hp;simp only at ht hx1 hx2 hq;have c1:=zat ht hx1;have c2:=(Ca.wY a c).1;unfold Ca.conv at hq;have ha:eqA (.agg [.str a.name,.str a.into,.i a.date,.str a.ratio,.str a.extra]) a.av:=⟨rfl,rfl,⟨rfl,rfl⟩,rfl,rfl,trivial⟩;refine zb.n GAjP.h [] (let v6:=[AV.fn 27 [] [.ptr 0 0,.ptr 1 0]];let v3:=[AV.str a.name,AV.str a.into,AV.i a.date,AV.str a.ratio,AV.str a.extra];let v1:List AV:=[.int .u8 0,.str #[].toList,.str #[].toList,.str #[].toList,.int .u8 0,.str #[].toList,.str #[].toList,.i 0,.nils,.i 0,.nils,.nils];let v2:List Blk:=[.box [.str a.name,.str a.into,.i a.date,.str a.ratio,.str a.extra],.box (Con.zd c),.box v1];.ex (q47 [.agg v3]) λn=>.all (λ(r:Int)=>r=if Ca.ok n=true then(0:Int) else(8:Int)) λn=>.N (n=0) (.R [.agg v1,.i n] v2) (.ex (q31 [(Con.conA c)]) λn=>.all (λ(r:Int)=>r=Con.errC n) λn=>.N (n=0) (.R [.agg v1,.i n] v2) (.ex (λ(x:Ca×Con)=>eqL [(Con.conA c),.ptr 0 0,.ptr 1 0] [(Con.conA x.2),.ptr 0 0,.ptr 1 0]/\eqH [.box v3,.box v6] [.box [.str x.1.name,.str x.1.into,.i x.1.date,.str x.1.ratio,.str x.1.extra],.box v6]/\2=2/\Con.big x.2<274877906944) λn=>let v5:List AV:=[.str n.1.name,.str n.1.into,.i n.1.date,.str n.1.ratio,.str n.1.extra];let v4:=Ca.whole (Ca.adj n.1) n.2;.A λn_1=>.ex (q31 [(Con.conD v4)]) λn_2=>.all (λ(r:Int)=>r=Con.errC n_2) λn_3=>.N (n_3=0) (.R [.agg v1,.i n_3] [.box v5,.box (Con.zd c),.box v1,.box [.fn 27 [] [.ptr 0 0,.ptr 3 0]],.box (Con.vM v4)]) (.R [(Con.conD v4),.i 0] [.box v5,.box (Con.zd c),.box (Con.vM v4),.box [.fn 27 [] [.ptr 0 0,.ptr 3 0]],.box (Con.vM v4)])))) ?_;simp only [q31,q47,Tree.holds,ze];refine⟨a,⟨⟨ha,trivial⟩,xr ht⟩,⟨_,rfl⟩,?_⟩;rintro _ rfl;by_cases hok:a.ok=true
 ·rw [aP hok] at hq ⊢;refine⟨λh=>by simp at h,λ_=> ?_⟩;refine⟨c,⟨⟨zQ c,trivial⟩,by omega,by omega⟩,⟨_,rfl⟩,?_⟩;rintro _ rfl;refine⟨λh=> ?_,λh=> ?_⟩<;>simp at h
  ·rw [aO h] at hq;exact RetR.out0 hq (λh=>by cases h) Xx
  have e:=Ca.Vx a c (zpz h);rw [aP h] at hq;refine⟨(a,c),⟨⟨zQ c,⟨rfl,rfl⟩,⟨rfl,rfl⟩,trivial⟩,by simp,trivial,by show c.big<_; omega⟩,⟨(),trivial⟩,λ_ _=> ?_⟩;simp only [e];refine⟨Ca.whole a.chg c,⟨⟨yH _,trivial⟩,by omega,by omega⟩,⟨_,rfl⟩,?_⟩;rintro _ rfl;refine⟨λh=> ?_,λh=> ?_⟩<;>simp at h
  ·rw [aO h] at hq;exact RetR.out0 hq (λh=>by cases h) Xx
  rw [aP h] at hq;exact RetR.le0 hq (λh=>by cases h) (LeA.refl _)
 ·rw [aO hok] at hq ⊢;exact⟨λ_=>RetR.out0 hq (λh=>by cases h) Xx,λh=>by simp at h⟩
theorem zhl{x:Fx}(h:okF x=true):ya x:=by
 unfold okF qe at h;simp only [bA,aK] at h;have h2:=jL h.2;exact⟨by omega,by omega⟩
theorem zfa{x:Ch}(h:okC x=true):yx x:=by
 unfold okC qe at h;simp only [bA,aK] at h;exact⟨by omega,by omega⟩
theorem Qc{f:List Fx}{c:List Ch}(h:errE f c=0):envP (f,c):=by
 obtain⟨h1,h2,h3,_⟩:=jG.1 h;rw [bG] at h2 h3;refine⟨by show f.length<_; omega,by show c.length<_; omega,λj hj=>zhl (h2 _ ?_),λj hj=>zfa (h3 _ ?_)⟩
 ·simp only at hj ⊢; simp [List.getD,hj]
 ·simp only at hj ⊢; simp [List.getD,hj]
end Go.Proofs.Tryz
end
section
open Go Go.Sx Go.Proofs Go.Nov
namespace Go.Proofs.Tryz
def zrw(p:List Fx×List Ch):Prop:=p.1.length<2^60/\p.2.length<2^60/\(∀ j,j<p.1.length->zjh (p.1.getD j Fx.nil))/\∀ j,j<p.2.length->zda (p.2.getD j Ch.nil)
theorem ziq{p:List Fx×List Ch}(h:fitP p):envP p:=by
 obtain⟨h1,h2,h3,h4⟩:=h;refine⟨by omega,by omega,λj hj=> ?_,λj hj=> ?_⟩
 ·obtain⟨a,b⟩:=h3 j hj; exact⟨by omega,by omega⟩
 ·obtain⟨a,b⟩:=h4 j hj; exact⟨by omega,by omega⟩
end Go.Proofs.Tryz
end
section
set_option maxRecDepth 100000
open Go Go.Sx Go.Proofs Go.Nov
namespace Go.Proofs.Tryz
attribute [local simp] eqKV eqA eqA0 eqH eqB eqL eqL0
theorem J9{a:Ca}{f:List Fx}{c:List Ch} : (a.before f c).1.1.length<=1000/\(a.before f c).1.2.length<=1000:=by
 unfold Ca.before;split
 ·simp
 ·split
  ·simp
  ·rename_i h0;have h:=jG.1 (Classical.not_not.1 h0);split
   ·simp
   ·split
    ·simp
    ·have:=Ca.YE (a:=a) (l:=a.kept f);simp only [Ca.join,bO,aH,bV];omega
end Go.Proofs.Tryz
end
section
namespace Go.Nov
open Go.Sx
structure Fl where
 date:Int
 src:L8
 dst:L8
 ccy:L8
 amt:L8
def Fl.nil:Fl:=⟨0,[],[],[],[]⟩
def Fl.cell(f:Fl):Nat->AV
 | 0=>.i f.date
 | 1=>.str f.src
 | 2=>.str f.dst
 | 3=>.str f.ccy
 | 4=>.str f.amt
 | _=>.undef
def flG(l:List Fl):Nat->Nat->AV:=λj=>(l.getD j Fl.nil).cell
def flS(l:List Fl):AV:=.sl l.length 5 (flG l)
def Fl.av(f:Fl):AV:=.agg [.i f.date,.str f.src,.str f.dst,.str f.ccy,.str f.amt]
def payF(d:Int)(a b n r:L8):List Fl:=if r=[48] then [] else if r.getD 0 0=45 then [⟨d,b,a,n,r.drop 1⟩] else [⟨d,a,b,n,r⟩]
def firstM(is:Int->Except Int Bool)(day fin:Int):List Int->Except Int Int
 | []=>.ok fin
 | d::l=>if fin<=d then .ok fin else if day<=d then(match is d with
  | .error e=>.error e
  | .ok true=>.ok d
  | .ok false=>firstM is day fin l) else firstM is day fin l
def ja(k:L8):List Fl->Except Int (List Fl)
 | []=>.ok []
 | f::l=>if(mulR f.amt k).2≠0 then .error (mulR f.amt k).2 else match ja k l with
  | .error e=>.error e
  | .ok m=>.ok (payF f.date f.src f.dst f.ccy (mulR f.amt k).1++m)
def valM(x:Ex)(d:Int)(f:List Fx)(c:List Ch):Except Int (L8):=if(jD x d f c).2=0 then .ok (jD x d f c).1 else .error (jD x d f c).2
def holM(x:Ex)(d:Int)(f:List Fx)(c:List Ch):Except Int Bool:=if(xl x d f c).2=0 then .ok (xl x d f c).1 else .error (xl x d f c).2
def andM{α β:Type}(x:Except Int α)(k:α->Except Int β):Except Int β:=match x with
 | .error e=>.error e
 | .ok a=>k a
mutual
def flM(f:List Fx)(c:List Ch):Con->Int->Int->Except Int (List Fl)
 | .mk k a b n x d l s=>λday fin=>
  if fin<=day then .ok []
  else if k=2 then andM (valM x day f c) λr=>.ok (payF day a b n r)
  else if k=3 then andM ((flMs f c s).getD 0 (λ_ _=>.ok []) day fin) λu=>andM ((flMs f c s).getD 1 (λ_ _=>.ok []) day fin) λv=>.ok (u++v)
  else if k=4 then andM (valM x day f c) λr=>andM ((flMs f c s).getD 0 (λ_ _=>.ok []) day fin) λu=>ja r u
  else if k=5 then andM (holM x day f c) λt=>(flMs f c s).getD (if t=true then 0 else 1) (λ_ _=>.ok []) day fin
  else if k=6 then(if day<=d then(flMs f c s).getD 0 (λ_ _=>.ok []) d fin else .ok [])
  else if k=7 then(flMs f c s).getD (if qc c a n day=true then 0 else 1) (λ_ _=>.ok []) day fin
  else if k=8 then andM (firstM (λt=>.ok (qc c a n t)) day fin l) λt=>(flMs f c s).getD 0 (λ_ _=>.ok []) t fin
  else if k=9 then andM (firstM (λt=>holM x t f c) day fin l) λt=>(flMs f c s).getD 0 (λ_ _=>.ok []) day t
  else if k=10 then andM (firstM (λt=>holM x t f c) day fin l) λt=>(flMs f c s).getD 0 (λ_ _=>.ok []) t fin
  else .ok []
def flMs(f:List Fx)(c:List Ch):List Con->List (Int->Int->Except Int (List Fl))
 | []=>[]
 | e::s=>flM f c e::flMs f c s
end
theorem Yj(f:List Fx)(c:List Ch):∀ (s:List Con) (i:Nat),i<s.length->(flMs f c s).getD i (λ_ _=>.ok [])=flM f c (s.getD i Con.nil)
 | [],_,h=>by simp at h
 | e::s,0,_=>by rw [flMs]; rfl
 | e::s,i+1,h=>by rw [flMs,List.getD_cons_succ,List.getD_cons_succ]; exact Yj f c s i (by simpa using h)
def insF(x:Fl):List Fl->List Fl
 | []=>[x]
 | y::l=>if y.date<=x.date then y::insF x l else x::y::l
def ordM(l:List Fl):List Fl:=l.foldl (λm x=>insF x m) []
def befM(c:Con)(day fin:Int)(f:List Fx)(h:List Ch):List Fl×Int:=
 if c.errC≠0 then([],c.errC) else if errE f h≠0 then([],errE f h) else if day<0\/99999<day\/fin<0\/100000<fin then([],2) else match flM f h c day fin with
  | .error e=>([],e)
  | .ok l=>(ordM l,0)
def Zr(c:Con)(day:Int)(f:List Fx)(h:List Ch):List Fl×Int:=befM c day 100000 f h
def j9(l:List Fl):Prop:=l.Pairwise λx y=>x.date<=y.date
def onF(d:Int)(l:List Fl):List Fl:=l.filter λy=>decide (y.date=d)
theorem qo(d:Int)(x:Fl)(l:List Fl):onF d (x::l)=if x.date=d then x::onF d l else onF d l:=by
 unfold onF; rw [List.filter_cons]; by_cases h:x.date=d<;>simp [h]
theorem zdo(d:Int)(l m:List Fl):onF d (l++m)=onF d l++onF d m:=by unfold onF; rw [List.filter_append]
theorem UX{d:Int}{l:List Fl}(h:∀ y∈l,d<y.date):onF d l=[]:=by
 unfold onF;rw [List.filter_eq_nil_iff];intro y hy;have:=h y hy;simp; omega
theorem Kl:∀ {l m:List Fl},j9 l->j9 m->(∀ d,onF d l=onF d m)->l=m
 | [],[],_,_,_=>rfl
 | [],y::m,_,_,h=>by have:=h y.date; rw [qo,aP rfl] at this; cases this
 | x::l,[],_,_,h=>by have:=h x.date; rw [qo,aP rfl] at this; cases this
 | x::l,y::m,hl,hm,h=>by
  unfold j9 at hl hm;rw [List.pairwise_cons] at hl hm;have mem:∀ {z:Fl} {n:List Fl},z∈onF z.date n->z∈n:=λhz=>(List.mem_filter.1 hz).1
  have h1:y.date<=x.date:=by
   have:x∈onF x.date (y::m):=by rw [<- h,qo,aP rfl]; simp
   rcases aM.1 (mem this) with e | e
   ·rw [e]; exact Int.le_refl _
   ·exact hm.1 x e
  have h2:x.date<=y.date:=by
   have:y∈onF y.date (x::l):=by rw [h,qo,aP rfl]; simp
   rcases aM.1 (mem this) with e | e
   ·rw [e]; exact Int.le_refl _
   ·exact hl.1 y e
  have h3:y.date=x.date:=by omega
  have h4:=h x.date;rw [qo,qo,aP rfl,aP h3] at h4;have h5:x=y:=(List.cons.inj h4).1;subst h5;congr 1;refine Kl hl.2 hm.2 λd=> ?_
  have:=h d;rw [qo,qo] at this;split at this
  ·exact(List.cons.inj this).2
  ·exact this
theorem zex(x z:Fl):∀ l:List Fl,z∈insF x l↔z=x\/z∈l
 | []=>by simp [insF]
 | y::l=>by
  rw [insF];split
  ·rw [aM,zex x z l,aM];exact⟨λh=>by rcases h with h | h | h<;>simp [h],λh=>by rcases h with h | h | h<;>simp [h]⟩
  ·simp
theorem za2(x:Fl):∀ {l:List Fl},j9 l->j9 (insF x l)
 | [],_=>by unfold j9; simp [insF]
 | y::l,h=>by
  unfold j9 at h;rw [List.pairwise_cons] at h;rw [insF];split
  ·rename_i hle;unfold j9;rw [List.pairwise_cons];refine⟨λz hz=> ?_,za2 x h.2⟩;rcases(zex x z l).1 hz with e | e
   ·rw [e]; exact hle
   ·exact h.1 z e
  ·rename_i hlt;unfold j9;rw [List.pairwise_cons,List.pairwise_cons];refine⟨λz hz=> ?_,h⟩;rcases aM.1 hz with e | e
   ·rw [e]; omega
   ·have:=h.1 z e; omega
theorem zmc(x:Fl)(d:Int):∀ {l:List Fl},j9 l->onF d (insF x l)=onF d l++onF d [x]
 | [],_=>by rw [insF]; rfl
 | y::l,h=>by
  have h0:=h;unfold j9 at h;rw [List.pairwise_cons] at h;rw [insF];split
  ·rw [qo,qo,zmc x d h.2];split<;>simp
  ·rename_i hlt;rw [qo d x];by_cases hx:x.date=d
   ·have hn:onF d (y::l)=[]:=UX λz hz=>by
     rcases aM.1 hz with e | e
     ·rw [e]; omega
     ·have:=h.1 z e; omega
    rw [aP hx,hn,qo,aP hx]; rfl
   ·rw [aO hx,qo d x,aO hx];show _=_++[];rw [List.append_nil]
theorem XL:∀ (l m:List Fl),j9 m->j9 (l.foldl (λm x=>insF x m) m)/\∀ d,onF d (l.foldl (λm x=>insF x m) m)=onF d m++onF d l
 | [],m,h=>⟨h,λd=>by show onF d m=onF d m++[]; rw [List.append_nil]⟩
 | x::l,m,h=>by
  obtain⟨h1,h2⟩:=XL l (insF x m) (za2 x h);refine⟨h1,λd=> ?_⟩;rw [List.foldl_cons,h2,zmc x d h,List.append_assoc,<- zdo]; rfl
theorem zjr(l:List Fl):j9 (ordM l):=(XL l [] List.Pairwise.nil).1
theorem zts(d:Int)(l:List Fl):onF d (ordM l)=onF d l:=by
 have:=(XL l [] List.Pairwise.nil).2 d;simpa [ordM,onF] using this
def qy:Nat->List Fl->List Fl->List Fl
 | n+1,x::a,y::b=>if y.date<x.date then y::qy n (x::a) b else x::qy n a (y::b)
 | _,a,b=>a++b
theorem yY(n:Nat)(a:List Fl):qy n a []=a:=by cases n<;>cases a<;>simp [qy]
theorem x9(n:Nat)(b:List Fl):qy n [] b=b:=by cases n<;>simp [qy]
theorem yI(z:Fl):∀ (n:Nat) (a b:List Fl),z∈qy n a b↔z∈a\/z∈b
 | 0,a,b=>by simp [qy]
 | n+1,[],b=>by rw [x9]; simp
 | n+1,x::a,[]=>by rw [yY]; simp
 | n+1,x::a,y::b=>by
  rw [qy];split
  ·rw [aM,yI z n (x::a) b,aM (l:=b)];exact⟨λh=>by rcases h with h | h | h<;>simp [h],λh=>by rcases h with h | h | h<;>simp [h]⟩
  ·rw [aM,yI z n a (y::b),aM (l:=a)];exact⟨λh=>by rcases h with h | h | h<;>simp [h],λh=>by rcases h with (h | h) | h<;>simp [h]⟩
theorem Qk:∀ (n:Nat) (a b:List Fl),a.length+b.length<=n->j9 a->j9 b->j9 (qy n a b)/\∀ d,onF d (qy n a b)=onF d a++onF d b
 | n,[],b,_,_,hb=>by rw [x9]; exact⟨hb,λd=>rfl⟩
 | n,x::a,[],_,ha,_=>by rw [yY]; exact⟨ha,λd=>by show _=_++[]; rw [List.append_nil]⟩
 | 0,x::a,y::b,h,_,_=>by simp at h
 | n+1,x::a,y::b,h,ha,hb=>by
  have ha':=ha;have hb':=hb;unfold j9 at ha' hb';rw [List.pairwise_cons] at ha' hb';simp only [aL] at h;rw [qy];split
  ·rename_i hlt;obtain⟨h1,h2⟩:=Qk n (x::a) b (by simp only [aL]; omega) ha hb'.2;refine⟨?_,λd=> ?_⟩
   ·unfold j9;rw [List.pairwise_cons];refine⟨λz hz=> ?_,h1⟩;rcases(yI z n _ _).1 hz with e | e
    ·rcases aM.1 e with e | e
     ·rw [e]; omega
     ·have:=ha'.1 z e; omega
    ·exact hb'.1 z e
   ·rw [qo,h2,qo d y b];by_cases hy:y.date=d
    ·have hn:onF d (x::a)=[]:=UX λz hz=>by
      rcases aM.1 hz with e | e
      ·rw [e]; omega
      ·have:=ha'.1 z e; omega
     rw [aP hy,aP hy,hn]; rfl
    ·rw [aO hy,aO hy]
  ·rename_i hge;obtain⟨h1,h2⟩:=Qk n a (y::b) (by simp only [aL]; omega) ha'.2 hb;refine⟨?_,λd=> ?_⟩
   ·unfold j9;rw [List.pairwise_cons];refine⟨λz hz=> ?_,h1⟩;rcases(yI z n _ _).1 hz with e | e
    ·exact ha'.1 z e
    ·rcases aM.1 e with e | e
     ·rw [e]; omega
     ·have:=hb'.1 z e; omega
   ·rw [qo,h2,qo d x a];split<;>simp
def ordP:Nat->List Fl->List Fl
 | 0,l=>l
 | n+1,l=>if l.length<2 then l else qy l.length (ordP n (l.take (l.length/2))) (ordP n (l.drop (l.length/2)))
theorem Z5:∀ (n:Nat) (l:List Fl),l.length<=n->j9 (ordP n l)/\(∀ d,onF d (ordP n l)=onF d l)/\(ordP n l).length=l.length
 | 0,l,h=>by
  obtain rfl:l=[]:=aU.1 (by omega);exact⟨List.Pairwise.nil,λd=>rfl,rfl⟩
 | n+1,l,h=>by
  rw [ordP];split
  ·rename_i h2;refine⟨?_,λd=>rfl,rfl⟩
   match l,h2 with
   | [],_=>exact List.Pairwise.nil
   | [x],_=>unfold j9; simp
  ·have e1:(l.take (l.length/2)).length<=n:=by rw [aH]; omega
   have e2:(l.drop (l.length/2)).length<=n:=by rw [bV]; omega
   obtain⟨a1,a2,a3⟩:=Z5 n _ e1;obtain⟨b1,b2,b3⟩:=Z5 n _ e2
   have hlen:(ordP n (l.take (l.length/2))).length+(ordP n (l.drop (l.length/2))).length=l.length:=by
    rw [a3,b3,aH,bV]; omega
   obtain⟨c1,c2⟩:=Qk l.length _ _ (by omega) a1 b1;refine⟨c1,λd=> ?_,?_⟩
   ·rw [c2,a2,b2,<- zdo,bU]
   ·rw [Q5,hlen]
where
 Q5:∀ {n:Nat} {a b:List Fl},(qy n a b).length=a.length+b.length
  | 0,a,b=>by simp [qy]
  | n+1,[],b=>by rw [x9]; simp
  | n+1,x::a,[]=>by rw [yY]; simp
  | n+1,x::a,y::b=>by
   rw [qy];split
   ·rw [aL,Q5]; simp; omega
   ·rw [aL,Q5]; simp; omega
theorem Z2{n:Nat}{l:List Fl}(h:l.length<=n):ordP n l=ordM l:=by
 obtain⟨h1,h2,_⟩:=Z5 n l h;exact Kl h1 (zjr l) λd=>by rw [h2,zts]
end Go.Nov
end
section
namespace Go.Sx
variable [Stat]
def Zx(T:TypeId)(e:Int):List PanicEntry:=[{ v:=.iface T (.agg #[.i e]),recovered:=false }]
def okM{α:Type} : Except Int α->Bool
 | .ok _=>true
 | .error _=>false
def getM{α:Type}(d:α):Except Int α->α
 | .ok a=>a
 | .error _=>d
def ctrS{X:Type}(inp:X->List AV)(hin:X->Heap)(pre:X->Prop)(ok:X->Bool)(out:X->AV×Heap):Ctr where
 fresh:=false
 spec args hc:=.ex (λx=>eqL args (inp x)/\eqH hc (hin x)/\hc.length=(hin x).length/\pre x) λx=>.ite (ok x) (.leaf (out x)) (.leaf (.bot,hin x))
theorem yv{Xp:List PanicEntry->Prop}{P:Program}{fn:Func}{X:Type}{inp:X->List AV}{hin:X->Heap}{pre:X->Prop}{ok:X->Bool}{out:X->AV×Heap}{g:Nat}{c:Code}(hf:P.funcs[g]?=some fn)(hb:fn.body=some c) (hn:(fn.name == "runtime.NumGoroutine")=false)
  (H:∀ x,pre x->∀ (O:Nat->Prop) (w0:World) (I0:List SE) (Q:AV×Heap->Prop),I0.length=(hin x).length->(ok x=true->Q (out x)) ->
   zal Xp P fn O (hin x).length w0 I0 (λ_ _ _=>False) (RetR (ctrS inp hin pre ok out) (hin x).length Q) [.code c] (wR fn (inp x) (hin x))):zz Xp P g (ctrS inp hin pre ok out):=by
 intro args hc Q hq _;obtain⟨x,⟨h1,h2,h3,h4⟩,h5,h6⟩:=hq;refine qJ.le h1 (qJ.leH h2 h3 (zj1 hf hb hn (λh=>by cases h) λO w0 I0 hl=> ?_));exact H x h4 O w0 I0 Q hl h5
theorem qJ.up{P:Program}{Xp:List PanicEntry->Prop}{g:Nat}{c:Ctr}{args:List AV}{hc:Heap}{Q:AV×Heap->Prop}(h:qJ Xp P g c args hc (upQ Q)):qJ Xp P g c args hc Q:=by
 intro O w σ vals hg hh hr;refine qC.map (λ_ h=>h) ?_ (h O w σ vals hg hh hr);rintro v w' ⟨r,hs,Z',hq,h1,h2,h3,h4,h5,h6⟩;rcases hq with hq | ⟨r',szs,hu,hq⟩
 ·exact⟨r,hs,Z',hq,h1,h2,h3,h4,h5,h6⟩
 ·have hx:Ext (λb=>Own O Z' b\/(c.fresh=true/\b<w.heap.size)) w' (λb=>Own O (Z'++vE szs.length) b\/(c.fresh=true/\b<w.heap.size)) w':=
   ⟨rfl,rfl,rfl,aJ _,λ_ _ _=>rfl,λb hb=>.inl (hb.imp yX id)⟩
  have hl:hs.length=Z'.length:=h2.len.symm;refine⟨r',hs++K1 szs,Z'++vE szs.length,hq,Kz hx (by rw [<- hl]; exact hu) h1,zdu hx h2 szs,⟨h3.old,λi e ad he had=> ?_,h3.stat.own λb hb=>yX hb⟩,by simp; omega,h5.Xy (xK [] w' Z' _),?_⟩
  ·rcases vZ he with ⟨_,he⟩ | ⟨_,rfl⟩
   ·exact h3.dis i e ad he had
   ·cases had
  ·exact⟨h6.os,h6.tape,h6.output,h6.size,h6.keep,λb hb=>h6.grow b (uN hb)⟩
theorem ziy{Xp:List PanicEntry->Prop}{P:Program}{fn:Func}{X:Type}{inp:X->List AV}{hin:X->Heap}{pre:X->Prop}{ok:X->Bool}{out:X->AV×Heap}{g:Nat}{c:Code}(hf:P.funcs[g]?=some fn)(hb:fn.body=some c) (hn:(fn.name == "runtime.NumGoroutine")=false)
  (H:∀ x,pre x->∀ (O:Nat->Prop) (w0:World) (I0:List SE) (Q:AV×Heap->Prop),I0.length=(hin x).length->(ok x=true->Q (out x)) ->
   zal Xp P fn O (hin x).length w0 I0 (λ_ _ _=>False) (RetR (ctrS inp hin pre ok out) (hin x).length (upQ Q)) [.code c] (wR fn (inp x) (hin x))):zz Xp P g (ctrS inp hin pre ok out):=by
 intro args hc Q hq _;obtain⟨x,⟨h1,h2,h3,h4⟩,h5,h6⟩:=hq;refine qJ.le h1 (qJ.leH h2 h3 (qJ.up (zj1 hf hb hn (λh=>by cases h) λO w0 I0 hl=> ?_)));exact H x h4 O w0 I0 Q hl h5
theorem zz.zqc{Xp:List PanicEntry->Prop}{P:Program}{X:Type}{inp:X->List AV}{pre:X->Prop}{ok:X->Bool}{out:X->AV×Heap}{out':X->AV}{g:Nat}(h:zz Xp P g (ctrS inp (λ_=>[]) pre ok out))
  (he:∀ x,LeA (exp2 (out x).2 [] (out x).1) (out' x)):zz Xp P g (ctrS inp (λ_=>[]) pre ok λx=>(out' x,[])):=by
 intro args hc Q hq _;obtain⟨x,⟨h1,h2,h3,h4⟩,h5,h6⟩:=hq;have h0:hc=[]:=aU.1 h3;subst h0;have k:=h args [] (λp=>(ok x=true/\p=out x)\/p=(.bot,[])) ⟨x,⟨h1,h2,h3,h4⟩,λho=>.inl ⟨ho,rfl⟩,λho=>.inr rfl⟩ (λh=>by cases h);intro O w σ vals hg hh hr;have hZ:σ=[]:=aU.1 (by simpa using hh.len);subst hZ;refine qC.map (λ_ h=>h) ?_ (k O w [] vals hg hh hr);rintro v w' ⟨a,hs,Z',hq,g1,g2,g3,g4,g5,g6⟩;rcases hq with ⟨ho,e⟩ | e
 ·have ea:a=(out x).1:=by rw [<- e]
  have eh:hs=(out x).2:=by rw [<- e]
  have sub:∀ b,Own O Z' b->(Own O Z' b\/((ctrS inp (λ_=>[]) pre ok out).fresh=true/\b<w.heap.size)):=λb hb=>.inl hb
  have XX:Exp O w' Z' hs [] [] (λb=>Own O [] b\/((ctrS inp (λ_=>[]) pre ok λx=>(out' x,([]:Heap))).fresh=true/\b<w.heap.size)):=
   ⟨g3,⟨g2.len,g2.inj,g2.lt,λi e b he hb=>ZG sub (g2.blk i e b he hb)⟩,rfl,by simp,λj=>by simp,λb hb=>by
    rcases hb with hb | ⟨hb,_⟩
    ·exact .inl hb
    ·cases hb⟩
  have hin':∀ b,(Own O [] b\/((ctrS inp (λ_=>[]) pre ok λx=>(out' x,([]:Heap))).fresh=true/\b<w.heap.size))->Own O Z' b:=λb hb=>by
   rcases hb with (hb | ⟨e,he,_⟩) | ⟨hb,_⟩
   ·exact .inl hb
   ·simp at he
   ·cases hb
  refine⟨out' x,[],[],h5 ho,he x _ _ _ _ ?_,⟨rfl,λi j e f a b he=>by simp at he,λi e a he=>by simp at he,λi e b he=>by simp at he⟩,⟨g3.old,λi e ad he=>by simp at he,g3.stat.own λb hb=>by
   rcases hb with hb | ⟨e,he,_⟩
   ·exact .inl hb
   ·simp at he⟩,aJ _,λi e he=>by simp at he,⟨g6.os,g6.tape,g6.output,g6.size,λb hb hno=>g6.keep b hb hno,λb hb=>by obtain⟨_,he,_⟩:=hb; simp at he⟩⟩
  rw [<- ea,<- eh];exact xM XX (.inl hin') (jQ sub g1)
 ·cases e;exact g1.elim
theorem Uf{P:Program}{g:Nat}{fn:Func}{c:Code}(hf:P.funcs[g]?=some fn)(hb:fn.body=some c) (hn:(fn.name == "runtime.NumGoroutine")=false) {T:TypeId} {Xp:List PanicEntry->Prop} {X:Type} (av:X->AV) (val:X->Value)
  (hav:∀ x own w σ v,Rep own w (av x) σ v↔v=val x)
  (W:∀ x e w,Calls P g #[val x,.i e] w λen w'=>w'=w/\((e=0/\en = .returned (val x))\/(e≠0/\en = .panicked [{ v:=.iface T (.agg #[.i e]),recovered:=false }]))) :
  zz Xp P g (ctrS (λ(x:X×Int)=>[av x.1,.i x.2]) (λ_=>[]) (λx=>x.2≠0->Xp (Zx T x.2)) (λx=>decide (x.2=0)) (λx=>(av x.1,[]))):=by
 intro args hc Q hq _;obtain⟨⟨x,e⟩,⟨h1,h2,h3,h4⟩,h5,h6⟩:=hq;obtain rfl:hc=[]:=aU.1 h3;refine qJ.le h1 ?_;intro O w σ vals hg hh hr;simp only [RepL] at hr;obtain⟨v0,r0,rfl,h0,v1,r1,rfl,h1,rfl⟩:=hr;rw [hav] at h0;simp only [Rep] at h1;subst h0 h1;have hn':¬ fn.name = "runtime.NumGoroutine" :=by simpa using hn
 left;refine⟨by simp [callFunc,hf,hn',hb],?_⟩;refine(W x e w).mono ?_;rintro en w' ⟨rfl,⟨he,rfl⟩ | ⟨he,rfl⟩⟩
 ·left;refine⟨_,rfl,av x,[],σ,h5 (aX he),(hav ..).2 rfl,⟨hh.len,hh.inj,hh.lt,λ_ _ _ _ h=>by simp at h⟩,hg,aJ _,Vv _ _ _,Ext.refl _ _⟩
 ·right;exact⟨_,rfl,h4 he,rfl,rfl,rfl,aJ _,λ_ _ _=>rfl,λ_ h=>h.elim⟩
end Go.Sx
end
section
set_option maxRecDepth 100000
open Go Go.Sx Go.Proofs Go.Nov
namespace Go.Proofs.Tryz
attribute [local simp] eqKV eqA eqA0 eqH eqB eqL eqL0
def zsg:Ctr:=ctrP false (λp:Fl=>[.i p.date,.str p.src,.str p.dst,.str p.ccy,.str p.amt]) (λp=>p.amt≠[]/\p.amt.length<2^40) (λ_ (_:Unit)=>True) (λp _=>(.osl 0 5 0 (payF p.date p.src p.dst p.ccy p.amt).length,[.arr (payF p.date p.src p.dst p.ccy p.amt).length 5 (flG (payF p.date p.src p.dst p.ccy p.amt))]))
theorem zph:zc prog 116 zsg:=by
 refine uX (fn:=f116) (c:=f116.body.getD .skip) rfl rfl rfl λp hp O w0 Q hq=> ?_
 obtain⟨d,a,b,n,r⟩:=p;obtain⟨h1,h2⟩:=hp;simp only at h1 h2;replace hq:=hq () trivial;simp only at hq;refine zb.n zD [] (.D (r=#[(48:UInt8)].toList) (.R [.nils] []) (.side ((0:Int)<=0/\(0:Int)<r.length) (.D ((↑(UInt8.toNat (r.getD 0 (0:UInt8))):Int)=45) (.side ((0:Int)<=1/\(1:Int)<=r.length) (.R [.osl 0 5 0 1] [.arr 1 5 (zh 5 [.i d,.str b,.str a,.str n,.str (List.drop 1 (List.take r.length r))])])) (.R [.osl 0 5 0 1] [.arr 1 5 (zh 5 [.i d,.str a,.str b,.str n,.str r])])))) ?_;simp only [Tree.holds,ze];have hl:0<r.length:=List.length_pos_iff.2 h1
 have e45:decide (((r.getD 0 0).toNat:Int)=45)=decide (r.getD 0 0=45):=by
  by_cases e:r.getD 0 0=45
  ·rw [e]; rfl
  ·rw [aW e,aW];intro h;refine e (UInt8.toNat_inj.1 ?_);show _=45;omega
 rw [e45];unfold payF at hq;refine⟨λh=> ?_,λh=>⟨⟨Int.le_refl _,by omega⟩,λ_=>⟨λh'=>⟨⟨by decide,by omega⟩,λ_=> ?_⟩,λh'=> ?_⟩⟩⟩
 ·rw [aP (aB h)] at hq;exact RetR.le0 (Q:=upQ Q) (r:=.nils) (.inr ⟨.osl 0 5 0 0,[(5,flG [])],⟨⟨aJ _,Nat.zero_lt_one⟩,rfl,rfl⟩,hq⟩) (λh=>by cases h) (LeA.refl _)
 ·rw [aO (aC h),aP (aB h')] at hq;rw [bD]
  exact RetR.ze2 (Q:=upQ Q) [0] rfl rfl (by simp) rfl (.inl hq) (LeA.refl _) ⟨LeB.arr λj o hj ho=>by
   rcases(show j=0 by omega) with rfl;rcases(show o=0\/o=1\/o=2\/o=3\/o=4 by omega) with rfl | rfl | rfl | rfl | rfl<;>exact LeA.refl _,trivial⟩
 ·rw [aO (aC h),aO (aC h')] at hq
  exact RetR.ze2 (Q:=upQ Q) [0] rfl rfl (by simp) rfl (.inl hq) (LeA.refl _) ⟨LeB.arr λj o hj ho=>by
   rcases(show j=0 by omega) with rfl;rcases(show o=0\/o=1\/o=2\/o=3\/o=4 by omega) with rfl | rfl | rfl | rfl | rfl<;>exact LeA.refl _,trivial⟩
noncomputable def K106:=Go.Sx.aA f106
def zsd:Ctr:=ctrP true (λp:Fl×Fl=>[p.1.av,p.2.av]) (λ_=>True) (λ_ (_:Unit)=>True) (λp _=>(.bool (decide (p.1.date<p.2.date)),[]))
theorem zoz:zc prog 71 zsd:=by
 refine zf' f71 λp hp O w0 Q hq=> ?_
 obtain⟨⟨d,a,b,n,r⟩,⟨d',a',b',n',r'⟩⟩:=p;replace hq:=hq () trivial;refine zb.n zD [] (.R [.bool (decide (d<d'))] [.box [.i d,.str a,.str b,.str n,.str r],.box [.i d',.str a',.str b',.str n',.str r']]) ?_;simp only [Tree.holds,ze];exact RetR.scal hq rfl (by simp [resV])
theorem Je{o a:List Fl}{m n:Nat}(hm:m=o.length)(hn:n=a.length):eqG (m+n) 5 (appG m (flG o) (flG a)) (flG (o++a)):=by
 intro j k hj hk;subst hm hn;simp only [appG,flG,List.getD_eq_getElem?_getD,bT];split<;>rfl
theorem UR{o:List Fl}{x:Fl} : eqG (o.length+1) 5 (appG o.length (flG o) (zg (zh 5 [.i x.date,.str x.src,.str x.dst,.str x.ccy,.str x.amt]) 0)) (flG (o++[x])):=by
 intro j k hj hk;simp only [appG,flG,List.getD_eq_getElem?_getD,bT];split
 ·rfl
 ·have e:j - o.length=0:=by omega
  rw [e];rcases(show k=0\/k=1\/k=2\/k=3\/k=4 by omega) with rfl | rfl | rfl | rfl | rfl<;>rfl
theorem YI{x:Fl}{l:List Fl}{n:Nat} : eqG n 5 (zg (flG (x::l)) 1) (flG l):=by
 intro j k hj hk;simp only [zg,flG,Nat.add_comm 1 j,List.getD_cons_succ]
def SMg(a b:List Fl)(n:Nat):KV:=[(0,flS a),(1,flS b),(2,.fn 71 [] []),(7,.osl 0 5 0 n),Z 12,Z 13,Z 14]
def zj4:Ctr:=ctrP false (λp:List Fl×List Fl=>[flS p.1,flS p.2,.fn 71 [] []]) (λp=>p.1.length+p.2.length<2^36) (λ_ (_:Unit)=>True) (λp _=>(flS (qy (p.1.length+p.2.length) p.1 p.2),[]))
noncomputable def GBx:=tb zoz tz
theorem zi0:zc prog 106 zj4:=by
 refine zf' f106 λp hp O w0 Q hq=> ?_
 obtain⟨a,b⟩:=p;simp only at hp;replace hq:=hq () trivial;simp only at hq;refine zb.n GBx.h [0,1,2,7,12,13,14] (.leaf (.loop (lps K106 0).1 (lps K106 0).2 [(0,.sl a.length 5 (flG a)),(1,.sl b.length 5 (flG b)),(2,.fn 71 [] []),(7,.nils),Z 12,Z 13,Z 14] [])) ?_;simp only [Tree.holds,ze,inR,lo,hi,aD];refine zb.bear 7 5 (flG []) rfl (by decide) (by kernel_rfl) ?_;refine zb.loop (ι:={z:List Fl×List Fl×List Fl // z.1++qy (z.2.1.length+z.2.2.length) z.2.1 z.2.2=qy (a.length+b.length) a b/\z.1.length+z.2.1.length+z.2.2.length=a.length+b.length}) (λz=>SMg z.1.2.1 z.1.2.2 z.1.1.length) (λz=>[.arr z.1.1.length 5 (flG z.1.1)]) (λz=>z.1.2.1.length+z.1.2.2.length) ⟨([],a,b),by simp⟩ 0 ?_ ?_ (by kernel_rfl)
 ·exact⟨by simp [SMg,yy,za,flS],by simp [za],by kernel_rfl,aI _⟩
 ·rintro⟨⟨o,a',b'⟩,h1,h2⟩;simp only at h1 h2;refine zb.n GBx.h [0,1,2,7,12,13,14] (let v6:=o.length+1;let v5:=o.length+List.length a'+List.length b';let v2:=a'.getD 0 Fl.nil;let v4:=zh 5 [.i v2.date,.str v2.src,.str v2.dst,.str v2.ccy,.str v2.amt];let v1:=b'.getD 0 Fl.nil;let v3:=zh 5 [.i v1.date,.str v1.src,.str v1.dst,.str v1.ccy,.str v1.amt];.ite (bif decide ((0:Int)<(a'.length:Int)) then decide ((0:Int)<(b'.length:Int)) else false) (.side ((0:Int)<=0/\(0:Int)<(b'.length:Int)) (.side ((0:Int)<=0/\(0:Int)<(a'.length:Int)) (.ex (λ(x:Fl×Fl)=>eqL [.agg [.i v1.date,.str v1.src,.str v1.dst,.str v1.ccy,.str v1.amt],.agg [.i v2.date,.str v2.src,.str v2.dst,.str v2.ccy,.str v2.amt]] [.agg [.i x.1.date,.str x.1.src,.str x.1.dst,.str x.1.ccy,.str x.1.amt],.agg [.i x.2.date,.str x.2.src,.str x.2.dst,.str x.2.ccy,.str x.2.amt]]/\True) λn=>.A λn_1=>.D (Fl.date n.1<Fl.date n.2) (.side ((0:Int)<=0/\(0:Int)<(b'.length:Int)) (.side ((0:Int)<=1/\(1:Int)<=(b'.length:Int)) (.side (0=0/\o.length<=o.length/\v6 *72<=140737488355328) (.leaf (.back 0 [(0,.sl a'.length 5 (flG a')),(1,.sl (List.length b' - 1) 5 (zg (flG b') 1)),(2,.fn 71 [] []),(7,.osl 0 5 0 v6),Z 12,Z 13,Z 14] [.arr v6 5 (appG o.length (flG o) (zg v3 0)),.arr 1 5 v3]))))) (.side ((0:Int)<=0/\(0:Int)<(a'.length:Int)) (.side ((0:Int)<=1/\(1:Int)<=(a'.length:Int)) (.side (0=0/\o.length<=o.length/\v6 *72<=140737488355328) (.leaf (.back 0 [(0,.sl (List.length a' - 1) 5 (zg (flG a') 1)),(1,.sl b'.length 5 (flG b')),(2,.fn 71 [] []),(7,.osl 0 5 0 v6),Z 12,Z 13,Z 14] [.arr v6 5 (appG o.length (flG o) (zg v4 0)),.arr 1 5 v4])))))))) (.side (0=0/\o.length<=o.length/\(o.length+List.length a')*72<=140737488355328) (.side (0=0/\o.length+List.length a'<=o.length+List.length a'/\v5 *72<=140737488355328) (.R [.osl 0 5 0 v5] [.arr v5 5 (appG (o.length+List.length a') (appG o.length (flG o) (flG a')) (flG b'))])))) ?_;simp only [Tree.holds,ze,inR,lo,hi,aD];refine⟨λhlt=> ?_,λhge=> ?_⟩
  ·match a',b' with
   | [],_=>simp at hlt
   | x::a',[]=>simp at hlt
   | x::a',y::b'=>
    simp only [aL] at h1 h2 ⊢;have e1:(x::a').getD 0 Fl.nil=x:=rfl;have e2:(y::b').getD 0 Fl.nil=y:=rfl;rw [e1,e2];rw [show a'.length+1+(b'.length+1)=(a'.length+b'.length+1)+1 by omega,qy] at h1;refine⟨⟨Int.le_refl _,by omega⟩,λ_=>⟨⟨Int.le_refl _,by omega⟩,λ_=>⟨(y,x),⟨by simp,trivial⟩,⟨(),trivial⟩,λ_ _=>⟨λh=> ?_,λh=> ?_⟩⟩⟩⟩
    ·replace h:=aB h;rw [aP h] at h1;refine⟨⟨Int.le_refl _,by omega⟩,λ_=>⟨⟨by decide,by omega⟩,λ_=>⟨⟨trivial,aJ _,by omega⟩,λ_=> ?_⟩⟩⟩;rw [aP trivial];refine⟨⟨(o++[y],x::a',b'),?_,?_⟩,?_,?_,?_,by kernel_rfl,aI _⟩
     ·show _=_;rw [<- h1]; simp; try congr 1; try omega
     ·show _=_;simp; omega
     ·show _<_;simp
     ·refine⟨rfl,⟨rfl,rfl,λ_ _ _ _=>rfl⟩,rfl,⟨rfl,rfl,YI⟩,rfl,rfl,rfl,⟨rfl,rfl,rfl,by simp⟩,by simp⟩
     ·exact⟨⟨by simp,rfl,UR⟩,trivial⟩
    ·replace h:=aC h;rw [aO h] at h1;refine⟨⟨Int.le_refl _,by omega⟩,λ_=>⟨⟨by decide,by omega⟩,λ_=>⟨⟨trivial,aJ _,by omega⟩,λ_=> ?_⟩⟩⟩;rw [aP trivial];refine⟨⟨(o++[x],a',y::b'),?_,?_⟩,?_,?_,?_,by kernel_rfl,aI _⟩
     ·show _=_;rw [<- h1]; simp; try congr 1; try omega
     ·show _=_;simp; omega
     ·show _<_;simp
     ·exact⟨rfl,⟨rfl,rfl,YI⟩,rfl,⟨rfl,rfl,λ_ _ _ _=>rfl⟩,rfl,rfl,rfl,⟨rfl,rfl,rfl,by simp⟩,by simp⟩
     ·exact⟨⟨by simp,rfl,UR⟩,trivial⟩
  ·have he:qy (a'.length+b'.length) a' b'=a'++b':=by
    match a',b' with
    | [],b'=>rw [x9]; rfl
    | a',[]=>rw [yY]; simp
    | x::a',y::b'=>
     have:decide ((0:Int)<((x::a').length:Int))=true:=aX (by simp);rw [this] at hge;have:decide ((0:Int)<((y::b').length:Int))=true:=aX (by simp);rw [this] at hge;cases hge
   rw [he] at h1;rw [<- h1] at hq;refine⟨⟨trivial,aJ _,by omega⟩,λ_=>⟨⟨trivial,aJ _,by omega⟩,λ_=> ?_⟩⟩;refine RetR.le0 hq (λh=>by cases h) (LeA.sl (by simp; omega) λj k hj hk=> ?_);rw [<- List.append_assoc];have:=Je (o:=o++a') (a:=b') (m:=o.length+a'.length) (n:=b'.length) (by simp) rfl j k hj hk;rw [<- this];simp only [zg,Nat.zero_add,appG];split
   ·rename_i hlt;have:=Je (o:=o) (a:=a') rfl rfl j k hlt hk;simp only [appG] at this;rw [this];exact LeA.refl _
   ·exact LeA.refl _
def ordC(n:Nat):Ctr:=ctrP false (λl:List Fl=>[flS l,.fn 71 [] []]) (λl=>l.length<n/\l.length<2^36) (λ_ (_:Unit)=>True) (λl _=>(flS (ordM l),[]))
noncomputable def GMg:=tb zi0 tz
noncomputable def GOr(n:Nat):Nat->Option Ctr:=λf=>if f=69 then some (ordC n) else GMg.g f
theorem zue{n:Nat}(h:zc prog 69 (ordC n)):∀ f c,GOr n f=some c->zc prog f c:=by
 intro f c hf;simp only [GOr] at hf;split at hf
 ·rename_i hg; subst hg; cases hf; exact h
 ·exact GMg.h f c hf
theorem zje(n:Nat)(ih:zc prog 69 (ordC n)):zc prog 69 (ordC (n+1)):=by
 refine zf' f69 λl hp O w0 Q hq=> ?_
 obtain⟨h1,h2⟩:=hp;replace hq:=hq () trivial;refine zb.n (zue ih) [] (let v1:=Int.tdiv (l.length:Int) (2:Int);.D ((l.length:Int)<2) (.R [.sl l.length 5 (flG l)] []) (.side ((2:Int)≠0/\inR .i64 v1) (.side ((0:Int)<=Int.tdiv (l.length:Int) (2:Int)/\Int.tdiv (l.length:Int) (2:Int)<=l.length) (.side ((0:Int)<=Int.tdiv (l.length:Int) (2:Int)/\Int.tdiv (l.length:Int) (2:Int)<=l.length) (.ex (λ(x:List Fl)=>eqL [.sl (Int.toNat v1 - 0) 5 (zg (flG l) 0),.fn 71 [] []] [.sl x.length 5 (flG x),.fn 71 [] []]/\x.length<n/\x.length<68719476736) λn_1=>.A λn_2=>.ex (λ(x:List Fl)=>eqL [.sl (l.length - Int.toNat v1) 5 (zg (flG l) (Int.toNat v1)),.fn 71 [] []] [.sl x.length 5 (flG x),.fn 71 [] []]/\x.length<n/\x.length<68719476736) λn=>.A λn_3=>.ex (λ(x:List Fl×List Fl)=>eqL [.sl (ordM n_1).length 5 (flG (ordM n_1)),.sl (ordM n).length 5 (flG (ordM n)),.fn 71 [] []] [.sl x.1.length 5 (flG x.1),.sl x.2.length 5 (flG x.2),.fn 71 [] []]/\x.1.length+x.2.length<68719476736) λn=>let v2:=qy (n.1.length+n.2.length) n.1 n.2;.A λn_4=>.R [.sl (List.length v2) 5 (flG v2)] []))))) ?_;simp only [Tree.holds,ze,inR,lo,hi,aD];have et:((l.length:Int).tdiv 2)=((l.length/2:Nat):Int):=rfl;rw [et];simp only [aD];refine⟨λh=> ?_,λh=> ?_⟩
 ·have hl:l.length<2:=by have:=aB h; omega
  have he:ordM l=l:=by rw [<- Z2 (n:=2) (by omega),ordP,aP hl]
  rw [he] at hq;exact RetR.le0 hq (λh=>by cases h) (LeA.refl _)
 ·have hl:2<=l.length:=by have:=aC h; omega
  have ho:∀ m:List Fl,(ordM m).length=m.length:=λm=>by rw [<- Z2 (aJ _)]; exact(Z5 m.length m (aJ _)).2.2
  have he:ordM l=qy ((ordM (l.take (l.length/2))).length+(ordM (l.drop (l.length/2))).length) (ordM (l.take (l.length/2))) (ordM (l.drop (l.length/2))):=by
   rw [<- Z2 (l:=l) (n:=l.length+1) (by omega),ordP,aO (by omega),Z2 (by rw [aH]; omega),Z2 (by rw [bV]; omega),ho,ho,aH,bV];congr 1; omega
  rw [he] at hq;refine⟨⟨by decide,by omega,by omega⟩,λ_=>⟨⟨by omega,by omega⟩,λ_=>⟨⟨by omega,by omega⟩,λ_=>⟨l.take (l.length/2),⟨⟨⟨by rw [aH]; omega,rfl,?_⟩,rfl,trivial⟩,by rw [aH]; omega,by rw [aH]; omega⟩,⟨(),trivial⟩,λ_ _=>⟨l.drop (l.length/2),⟨⟨⟨by rw [bV],rfl,?_⟩,rfl,trivial⟩,by rw [bV]; omega,by rw [bV]; omega⟩,⟨(),trivial⟩,λ_ _=>⟨(ordM (l.take (l.length/2)),ordM (l.drop (l.length/2))),⟨⟨⟨rfl,rfl,λ_ _ _ _=>rfl⟩,⟨rfl,rfl,λ_ _ _ _=>rfl⟩,rfl,trivial⟩,by simp only [ho,aH,bV]; omega⟩,⟨(),trivial⟩,λ_ _=> ?_⟩⟩⟩⟩⟩⟩
  ·intro j k hj hk;simp only [zg,flG,Nat.zero_add,List.getD_eq_getElem?_getD,bR];rw [aP (by omega)]
  ·intro j k hj hk;simp only [zg,flG,List.getD_eq_getElem?_getD,List.getElem?_drop]
  ·exact RetR.le0 hq (λh=>by cases h) (LeA.refl _)
theorem zpp(n:Nat):zc prog 69 (ordC n):=by
 induction n with
 | zero=>
  intro args hc Q hq _;simp only [ordC,ctrP] at hq;split at hq
  ·obtain⟨x,⟨_,h,_⟩,_⟩:=hq;exact absurd h (Nat.not_lt_zero _)
  ·exact hq.elim
 | succ n ih=>exact zje n ih
def zkf:Ctr:=ctrP false (λl:List Fl=>[flS l,.fn 71 [] []]) (λl=>l.length<2^36) (λ_ (_:Unit)=>True) (λl _=>(flS (ordM l),[]))
theorem zt2:zc prog 69 zkf:=by
 intro args hc Q hq hf;refine zpp (2^36) args hc Q ?_ hf;simp only [zkf,ordC,ctrP] at hq ⊢;split at hq
 ·obtain⟨x,⟨h1,h2⟩,h3⟩:=hq;exact⟨x,⟨h1,h2,h2⟩,h3⟩
 ·exact hq.elim
structure St8 where
 f:List Fx
 c:List Ch
 day:Int
 e:Int
def St8.box(s:St8):Blk:=.box [fxS s.f,chS s.c,.i s.day,.i s.e]
def St8.err(s:St8)(e:Int):St8:=⟨s.f,s.c,s.day,e⟩
theorem qH(f:List Fx)(c:List Ch)(day e:Int):eqH [.box [.sl f.length 3 (fxG f),.sl c.length 4 (chG c),.i day,.i e]] [(St8.mk f c day e).box]:=⟨⟨⟨rfl,rfl,za _ _ _⟩,⟨rfl,rfl,za _ _ _⟩,⟨rfl,rfl⟩,⟨rfl,rfl⟩,trivial⟩,trivial⟩
theorem RetR.st8{ctr:Ctr}{Q:AV×Heap->Prop}{rs:List AV}{f:List Fx}{c:List Ch}{day e:Int}{r:AV}(hf:ctr.fresh=false)(hq:Q (r,[(St8.mk f c day e).box]))(hs:ZE r=true)(hr:resV rs=r)(h2:exp2 [.box [.sl f.length 3 (fxG f),.sl c.length 4 (chG c),.i day,.i e]] [0] r=r:=by rfl):RetR ctr 1 Q rs [.box [.sl f.length 3 (fxG f),.sl c.length 4 (chG c),.i day,.i e]]:=by
 subst hr;refine RetR.keep [0] rfl rfl (by decide) hf hq ?_ ?_ rfl
 ·rw [h2]; exact KD hs
 ·exact qH f c day e
structure KS where
 s:St8
 x:L8
 e:Int
def za5:Ctr:=ctrT false false (λk:KS=>[.ptr 0 0,.str k.x,.i k.e]) (λk=>[k.s.box]) (λ_=>True) (λk r=>r=if k.s.e=0 then k.e else k.s.e) (λk (r:Int)=>(.str k.x,[(k.s.err r).box]))
def zkv:Ctr:=ctrT false false (λk:St8×Int×Int=>[.ptr 0 0,.i k.2.1,.i k.2.2]) (λk=>[k.1.box]) (λ_=>True) (λk r=>r=if k.1.e=0 then k.2.2 else k.1.e) (λk (r:Int)=>(.i k.2.1,[(k.1.err r).box]))
theorem Uo:zc prog 149 za5:=by
 refine zH (fn:=f149) (c:=f149.body.getD .skip) rfl rfl rfl (λh=>by cases h) λk hk O w0 I0 Q hl0 hq=> ?_
 obtain⟨⟨f,c,day,e⟩,x,e'⟩:=k;replace hq:=hq _ rfl;simp only at hq;refine zb.n zD [] (.D (e=0) (.R [.str x] [.box [.sl f.length 3 (fxG f),.sl c.length 4 (chG c),.i day,.i e']]) (.R [.str x] [.box [.sl f.length 3 (fxG f),.sl c.length 4 (chG c),.i day,.i e]])) ?_;simp only [Tree.holds,ze];refine⟨λh=> ?_,λh=> ?_⟩
 ·rw [aP (aB h)] at hq;exact RetR.st8 rfl hq rfl rfl
 ·rw [aO (aC h)] at hq;exact RetR.st8 rfl hq rfl rfl
theorem zoe:zc prog 152 zkv:=by
 refine zH (fn:=f152) (c:=f152.body.getD .skip) rfl rfl rfl (λh=>by cases h) λk hk O w0 I0 Q hl0 hq=> ?_
 obtain⟨⟨f,c,day,e⟩,x,e'⟩:=k;replace hq:=hq _ rfl;simp only at hq;refine zb.n zD [] (.D (e=0) (.R [.i x] [.box [.sl f.length 3 (fxG f),.sl c.length 4 (chG c),.i day,.i e']]) (.R [.i x] [.box [.sl f.length 3 (fxG f),.sl c.length 4 (chG c),.i day,.i e]])) ?_;simp only [Tree.holds,ze];refine⟨λh=> ?_,λh=> ?_⟩
 ·rw [aP (aB h)] at hq;exact RetR.st8 rfl hq rfl rfl
 ·rw [aO (aC h)] at hq;exact RetR.st8 rfl hq rfl rfl
def fixC:Ctr:=ctrT false false (λk:KS=>[.ptr 0 0,.str k.x,.i k.e]) (λk=>[k.s.box]) (λk=>k.s.f.length<2^40/\k.s.e=0) (λk r=>r=fixR k.s.f k.x k.e) (λk (r:L8×Int)=>(.str r.1,[(k.s.err r.2).box]))
noncomputable def GFx:=tb zpt (tb Uo tz)
abbrev q58(A:List AV)(H:Heap)(x:KS):Prop:=eqL A [.ptr 0 0,.str x.x,.i x.e]/\eqH H [.box [.sl x.s.f.length 3 (fxG x.s.f),.sl x.s.c.length 4 (chG x.s.c),.i x.s.day,.i x.s.e]]/\1=1/\True
theorem zfw:zc prog 148 fixC:=by
 refine zH (fn:=f148) (c:=f148.body.getD .skip) rfl rfl rfl (λh=>by cases h) λk hk O w0 I0 Q hl0 hq=> ?_
 obtain⟨⟨f,c,day,e⟩,x,d⟩:=k;obtain⟨h1,h2⟩:=hk;replace hq:=hq _ rfl;simp only at h1 h2 hq;subst h2;refine zb.n GFx.h [] (.ex (λ(x_1:(List Fx×List Ch)×L8×Int)=>eqL [.agg [.sl f.length 3 (fxG f),.sl c.length 4 (chG c)],.str x,.i d] [.agg [.sl x_1.1.1.length 3 (fxG x_1.1.1),.sl x_1.1.2.length 4 (chG x_1.1.2)],.str x_1.2.1,.i x_1.2.2]/\x_1.1.1.length<1099511627776) λn=>.all (λ(r:L8×Bool)=>r=zF n.1.1 n.2.1 n.2.2) λn=>.ite (!Prod.snd n) (.ex (q58 [.ptr 0 0,.str n.1,.i 30] [.box [.sl f.length 3 (fxG f),.sl c.length 4 (chG c),.i day,.i 0]]) λn=>.all (λ(r:Int)=>r=if St8.e n.s=0 then KS.e n else St8.e n.s) λn_1=>let v1:=n.s.err n_1;.R [.str n.x] [.box [.sl (List.length v1.f) 3 (fxG v1.f),.sl (List.length v1.c) 4 (chG v1.c),.i v1.day,.i v1.e]]) (.R [.str n.1] [.box [.sl f.length 3 (fxG f),.sl c.length 4 (chG c),.i day,.i 0]])) ?_;simp only [q58,Tree.holds,ze];refine⟨((f,c),(x,d)),⟨⟨⟨⟨rfl,rfl,za _ _ _⟩,⟨rfl,rfl,za _ _ _⟩,trivial⟩,rfl,⟨rfl,rfl⟩,trivial⟩,h1⟩,⟨_,rfl⟩,?_⟩;rintro _ rfl;unfold fixR at hq;refine⟨λh=> ?_,λh=> ?_⟩
 ·have h:(zF f x d).2=false:=by simpa using h
  have h0:(zF f x d).1=[]:=znn h;rw [aO (by rw [h]; decide)] at hq;refine⟨⟨⟨f,c,day,0⟩,[],30⟩,⟨⟨⟨rfl,rfl⟩,h0,⟨rfl,rfl⟩,trivial⟩,qH f c day 0,trivial,trivial⟩,⟨_,rfl⟩,?_⟩;rintro _ rfl;exact RetR.st8 rfl hq rfl rfl
 ·have h:(zF f x d).2=true:=by simpa using h
  rw [aP h] at hq;exact RetR.st8 rfl hq rfl rfl
structure K2 where
 s:St8
 a:L8
 b:L8
def cmpE(e:Int)(a b:L8):Int×Int:=if e≠0 then(0,e) else cmpR a b
def zm2:Ctr:=ctrT false false (λk:K2=>[.ptr 0 0,.str k.a,.str k.b]) (λk=>[k.s.box]) (λk=>k.s.e=0->k.a.length<2^61/\k.b.length<2^61) (λk r=>r=cmpE k.s.e k.a k.b) (λk (r:Int×Int)=>(.i r.1,[(k.s.err r.2).box]))
noncomputable def GCq:=tb zf4 (tb zoe tz)
theorem zdx:zc prog 147 zm2:=by
 refine zH (fn:=f147) (c:=f147.body.getD .skip) rfl rfl rfl (λh=>by cases h) λk hk O w0 I0 Q hl0 hq=> ?_
 obtain⟨⟨f,c,day,e⟩,a,b⟩:=k;replace hq:=hq _ rfl;simp only at hk hq;unfold cmpE at hq;refine zb.n GCq.h [] (.N (e=0) (.R [.i 0] [.box [.sl f.length 3 (fxG f),.sl c.length 4 (chG c),.i day,.i e]]) (.ex (q46 [.str a,.str b]) λn=>.all (λ(r:Int×Int)=>r=cmpR n.1 n.2) λn=>.ex (λ(x:St8×Int×Int)=>eqL [.ptr 0 0,.i n.1,.i n.2] [.ptr 0 0,.i x.2.1,.i x.2.2]/\eqH [.box [.sl f.length 3 (fxG f),.sl c.length 4 (chG c),.i day,.i e]] [.box [.sl x.1.f.length 3 (fxG x.1.f),.sl x.1.c.length 4 (chG x.1.c),.i x.1.day,.i x.1.e]]/\1=1/\True) λn=>.all (λ(r:Int)=>r=if St8.e n.1=0 then n.2.2 else St8.e n.1) λn_1=>let v1:=n.1.err n_1;.R [.i n.2.1] [.box [.sl (List.length v1.f) 3 (fxG v1.f),.sl (List.length v1.c) 4 (chG v1.c),.i v1.day,.i v1.e]])) ?_;simp only [q46,Tree.holds,ze];refine⟨λh=> ?_,λh=> ?_⟩
 ·have h:e≠0:=by simpa using h
  rw [aP h] at hq;exact RetR.st8 rfl hq rfl rfl
 ·have h:e=0:=by simpa using h
  subst h;obtain⟨h1,h2⟩:=hk rfl;rw [aO (by simp)] at hq;refine⟨(a,b),⟨⟨rfl,rfl,trivial⟩,h1,h2⟩,⟨_,rfl⟩,?_⟩;rintro _ rfl;refine⟨(⟨f,c,day,0⟩,(cmpR a b).1,(cmpR a b).2),⟨⟨⟨rfl,rfl⟩,⟨rfl,rfl⟩,⟨rfl,rfl⟩,trivial⟩,qH f c day 0,trivial,trivial⟩,⟨_,rfl⟩,?_⟩;rintro _ rfl;exact RetR.st8 rfl hq rfl rfl
def sopC(F:L8->L8->L8×Int)(same:Bool):Ctr:=ctrT false false (λk:K2=>[.ptr 0 0,.str k.a,.str k.b]) (λk=>[k.s.box]) (λk=>k.s.e=0/\k.a.length<2^61/\k.b.length<2^61) (λk r=>r.2=(F k.a k.b).2/\(r.2=0->r.1=(F k.a k.b).1)) (λk (r:L8×Int)=>(.tup [.str r.1,.i r.2],[(bif same then k.s else k.s.err r.2).box]))
noncomputable def zvj:=tb Jh (tb XZ (tb uY tz))
theorem zqv:zc prog 180 (sopC addR true):=by
 refine zH (fn:=f180) (c:=f180.body.getD .skip) rfl rfl rfl (λh=>by cases h) λk hk O w0 I0 Q hl0 hq=> ?_
 obtain⟨⟨f,c,day,e⟩,a,b⟩:=k;replace hq:=hq (addR a b) ⟨rfl,λ_=>rfl⟩;obtain⟨h0,h1,h2⟩:=hk;simp only at h0 h1 h2 hq;refine zb.n zvj.h [] (.ex (q46 [.str a,.str b]) λn=>.all (λ(r:L8×Int)=>r=addR n.1 n.2) λn=>.R [.str n.1,.i n.2] [.box [.sl f.length 3 (fxG f),.sl c.length 4 (chG c),.i day,.i e]]) ?_;simp only [q46,Tree.holds,ze];refine⟨(a,b),⟨⟨rfl,rfl,trivial⟩,h1,h2⟩,⟨_,rfl⟩,?_⟩;rintro _ rfl;exact RetR.st8 rfl hq rfl rfl
noncomputable def zvp:=tb Jh (tb XZ (tb uY tz))
theorem zr4:zc prog 181 (sopC subR true):=by
 refine zH (fn:=f181) (c:=f181.body.getD .skip) rfl rfl rfl (λh=>by cases h) λk hk O w0 I0 Q hl0 hq=> ?_
 obtain⟨⟨f,c,day,e⟩,a,b⟩:=k;replace hq:=hq (subR a b) ⟨rfl,λ_=>rfl⟩;obtain⟨h0,h1,h2⟩:=hk;simp only at h0 h1 h2 hq;refine zb.n zvp.h [] (.ex (q46 [.str a,.str b]) λn=>.all (λ(r:L8×Int)=>r=subR n.1 n.2) λn=>.R [.str n.1,.i n.2] [.box [.sl f.length 3 (fxG f),.sl c.length 4 (chG c),.i day,.i e]]) ?_;simp only [q46,Tree.holds,ze];refine⟨(a,b),⟨⟨rfl,rfl,trivial⟩,h1,h2⟩,⟨_,rfl⟩,?_⟩;rintro _ rfl;exact RetR.st8 rfl hq rfl rfl
noncomputable def zv8:=tb Jh (tb XZ (tb uY tz))
theorem zpq:zc prog 182 (sopC mulR true):=by
 refine zH (fn:=f182) (c:=f182.body.getD .skip) rfl rfl rfl (λh=>by cases h) λk hk O w0 I0 Q hl0 hq=> ?_
 obtain⟨⟨f,c,day,e⟩,a,b⟩:=k;replace hq:=hq (mulR a b) ⟨rfl,λ_=>rfl⟩;obtain⟨h0,h1,h2⟩:=hk;simp only at h0 h1 h2 hq;refine zb.n zv8.h [] (.ex (q46 [.str a,.str b]) λn=>.all (λ(r:L8×Int)=>r=mulR n.1 n.2) λn=>.R [.str n.1,.i n.2] [.box [.sl f.length 3 (fxG f),.sl c.length 4 (chG c),.i day,.i e]]) ?_;simp only [q46,Tree.holds,ze];refine⟨(a,b),⟨⟨rfl,rfl,trivial⟩,h1,h2⟩,⟨_,rfl⟩,?_⟩;rintro _ rfl;exact RetR.st8 rfl hq rfl rfl
noncomputable def GGr:=tb zdx tz
abbrev q59(A:List AV)(H:Heap)(x:K2):Prop:=eqL A [.ptr 0 0,.str x.a,.str x.b]/\eqH H [.box [.sl x.s.f.length 3 (fxG x.s.f),.sl x.s.c.length 4 (chG x.s.c),.i x.s.day,.i x.s.e]]/\1=1/\(St8.e x.s=0->x.a.length<2305843009213693952/\x.b.length<2305843009213693952)
theorem YB:zc prog 183 (sopC (wH 7) false):=by
 refine zH (fn:=f183) (c:=f183.body.getD .skip) rfl rfl rfl (λh=>by cases h) λk hk O w0 I0 Q hl0 hq=> ?_
 obtain⟨⟨f,c,day,e⟩,a,b⟩:=k;obtain⟨h0,h1,h2⟩:=hk;simp only at h0 h1 h2 hq;subst h0;refine zb.n GGr.h [] (.ex (q59 [.ptr 0 0,.str a,.str b] [.box [.sl f.length 3 (fxG f),.sl c.length 4 (chG c),.i day,.i 0]]) λn=>.all (λ(r:Int×Int)=>r=cmpE n.s.e n.a n.b) λn_1=>let v2:=n.s.err n_1.2;let v1:List Blk:=[.box [.sl (List.length v2.f) 3 (fxG v2.f),.sl (List.length v2.c) 4 (chG v2.c),.i v2.day,.i v2.e]];.D (n_1.1<0) (.R [.str b,.i v2.e] v1) (.R [.str a,.i v2.e] v1)) ?_;simp only [q59,Tree.holds,ze];refine⟨⟨⟨f,c,day,0⟩,a,b⟩,⟨⟨⟨rfl,rfl⟩,rfl,rfl,trivial⟩,qH f c day 0,trivial,λ_=>⟨h1,h2⟩⟩,⟨_,rfl⟩,?_⟩;have e1:cmpE 0 a b=cmpR a b:=aO (by simp);rw [e1];rintro _ rfl;unfold wH at hq;rw [aP rfl] at hq;refine⟨λh=> ?_,λh=> ?_⟩
 ·have h:(cmpR a b).1<0:=aB h;refine RetR.st8 rfl (hq (b,(cmpR a b).2) ?_) rfl rfl;by_cases g:(cmpR a b).2=0
  ·rw [aO (by rw [g]; simp),aP h]; exact⟨g,λ_=>rfl⟩
  ·rw [aP g]; exact⟨rfl,λh=>absurd h g⟩
 ·have h:¬ (cmpR a b).1<0:=aC h;refine RetR.st8 rfl (hq (a,(cmpR a b).2) ?_) rfl rfl;by_cases g:(cmpR a b).2=0
  ·rw [aO (by rw [g]; simp),aO h]; exact⟨g,λ_=>rfl⟩
  ·rw [aP g]; exact⟨rfl,λh=>absurd h g⟩
theorem Ys:zc prog 184 (sopC (wH 8) false):=by
 refine zH (fn:=f184) (c:=f184.body.getD .skip) rfl rfl rfl (λh=>by cases h) λk hk O w0 I0 Q hl0 hq=> ?_
 obtain⟨⟨f,c,day,e⟩,a,b⟩:=k;obtain⟨h0,h1,h2⟩:=hk;simp only at h0 h1 h2 hq;subst h0;refine zb.n GGr.h [] (.ex (q59 [.ptr 0 0,.str b,.str a] [.box [.sl f.length 3 (fxG f),.sl c.length 4 (chG c),.i day,.i 0]]) λn=>.all (λ(r:Int×Int)=>r=cmpE n.s.e n.a n.b) λn_1=>let v2:=n.s.err n_1.2;let v1:List Blk:=[.box [.sl (List.length v2.f) 3 (fxG v2.f),.sl (List.length v2.c) 4 (chG v2.c),.i v2.day,.i v2.e]];.D (n_1.1<0) (.R [.str b,.i v2.e] v1) (.R [.str a,.i v2.e] v1)) ?_;simp only [q59,Tree.holds,ze];refine⟨⟨⟨f,c,day,0⟩,b,a⟩,⟨⟨⟨rfl,rfl⟩,rfl,rfl,trivial⟩,qH f c day 0,trivial,λ_=>⟨h2,h1⟩⟩,⟨_,rfl⟩,?_⟩;have e1:cmpE 0 b a=cmpR b a:=aO (by simp);rw [e1];rintro _ rfl;unfold wH at hq;rw [aO (by decide)] at hq;refine⟨λh=> ?_,λh=> ?_⟩
 ·have h:(cmpR b a).1<0:=aB h;refine RetR.st8 rfl (hq (b,(cmpR b a).2) ?_) rfl rfl;by_cases g:(cmpR b a).2=0
  ·rw [aO (by rw [g]; simp),aP h]; exact⟨g,λ_=>rfl⟩
  ·rw [aP g]; exact⟨rfl,λh=>absurd h g⟩
 ·have h:¬ (cmpR b a).1<0:=aC h;refine RetR.st8 rfl (hq (a,(cmpR b a).2) ?_) rfl rfl;by_cases g:(cmpR b a).2=0
  ·rw [aO (by rw [g]; simp),aO h]; exact⟨g,λ_=>rfl⟩
  ·rw [aP g]; exact⟨rfl,λh=>absurd h g⟩
theorem zhh{X R Y S:Type}{P:Program}{g h:Nat}{fr mo fr' mo':Bool}{inp:X->List AV}{hin:X->Heap}{pre:X->Prop}{post:X->R->Prop}{out:X->R->AV×Heap}{inp':Y->List AV}{hin':Y->Heap}{pre':Y->Prop}{post':Y->S->Prop}{out':Y->S->AV×Heap}(μ:X->Nat)(ν : Y->Nat)
  (step:∀ n,zc P g (ctrT fr mo inp hin (λx=>μ x<n/\pre x) post out)->zc P h (ctrT fr' mo' inp' hin' (λy=> ν y<n/\pre' y) post' out') ->
   zc P g (ctrT fr mo inp hin (λx=>μ x<n+1/\pre x) post out)/\zc P h (ctrT fr' mo' inp' hin' (λy=> ν y<n+1/\pre' y) post' out')) :
  zc P g (ctrT fr mo inp hin pre post out)/\zc P h (ctrT fr' mo' inp' hin' pre' post' out'):=by
 have all:∀ n,zc P g (ctrT fr mo inp hin (λx=>μ x<n/\pre x) post out)/\zc P h (ctrT fr' mo' inp' hin' (λy=> ν y<n/\pre' y) post' out'):=by
  intro n
  induction n with
  | zero=>
   constructor
   ·intro args hc Q hq _;obtain⟨x,⟨_,_,_,h,_⟩,_⟩:=hq;exact absurd h (Nat.not_lt_zero _)
   ·intro args hc Q hq _;obtain⟨x,⟨_,_,_,h,_⟩,_⟩:=hq;exact absurd h (Nat.not_lt_zero _)
  | succ n ih=>exact step n ih.1 ih.2
 constructor
 ·intro args hc Q hq hf;obtain⟨x,⟨h1,h2,h3,h4⟩,h5⟩:=hq;exact(all (μ x+1)).1 args hc Q ⟨x,⟨h1,h2,h3,Nat.lt_succ_self _,h4⟩,h5⟩ hf
 ·intro args hc Q hq hf;obtain⟨x,⟨h1,h2,h3,h4⟩,h5⟩:=hq;exact(all (ν x+1)).2 args hc Q ⟨x,⟨h1,h2,h3,Nat.lt_succ_self _,h4⟩,h5⟩ hf
structure VX where
 s:St8
 x:Ex
def evA(k:VX):Ev:=k.x.ev k.s.f k.s.day
def valC(p:VX->Prop):Ctr:=ctrT false false (λk:VX=>[.ptr 0 0,k.x.exA]) (λk=>[k.s.box]) p (λk r=>(k.s.e≠0->r.2=k.s.e)/\(k.s.e=0->r.2=(evA k).e/\(r.2=0->r.1=(evA k).v))) (λk (r:L8×Int)=>(.str r.1,[(k.s.err r.2).box]))
def hldC(p:VX->Prop):Ctr:=ctrT false false (λk:VX=>[.ptr 0 0,k.x.exA]) (λk=>[k.s.box]) p (λk r=>(k.s.e≠0->r.2=k.s.e)/\(k.s.e=0->r.2=(evA k).g/\(r.2=0->r.1=(evA k).b))) (λk (r:Bool×Int)=>(.bool r.1,[(k.s.err r.2).box]))
def VPre(z:Int)(k:VX):Prop:=k.s.e=0->k.x.zu=z/\k.s.f.all okF=true/\k.s.f.length<2^40
def GVa(n:Nat):Nat->Option Ctr:=λf=>if f=136 then some (valC λk=>k.x.size<n/\VPre 1 k) else if f=135 then some (hldC λk=>k.x.size<n/\VPre 2 k)
 else if f=148 then some fixC else if f=147 then some zm2 else if f=149 then some za5
 else if f=180 then some (sopC addR true) else if f=181 then some (sopC subR true) else if f=182 then some (sopC mulR true) else if f=183 then some (sopC (wH 7) false) else if f=184 then some (sopC (wH 8) false) else none
theorem zn8{n:Nat}(h1:zc prog 136 (valC λk=>k.x.size<n/\VPre 1 k))(h2:zc prog 135 (hldC λk=>k.x.size<n/\VPre 2 k)):∀ f c,GVa n f=some c->zc prog f c:=by
 intro f c hf;unfold GVa at hf
 iterate 10
  split at hf
  ·rename_i hg; subst hg; cases hf; first | exact h1 | exact h2 | exact zfw | exact zdx | exact Uo | exact zqv | exact zr4 | exact zpq | exact YB | exact Ys
 cases hf
theorem eqX2(x:Ex):eqL [.ptr 0 0,.agg [.int .u8 x.kind,.str x.rat,.str x.name,.i x.date,.sl x.sub.length 5 x.deep]] [.ptr 0 0,x.exA]:=⟨⟨rfl,rfl⟩,⟨⟨rfl,rfl⟩,rfl,rfl,⟨rfl,rfl⟩,⟨rfl,rfl,Ex.qb _⟩,trivial⟩,trivial⟩
theorem zrr(x:Ex):eqL [.ptr 0 0,x.exA] [.ptr 0 0,x.exA]:=⟨⟨rfl,rfl⟩,⟨⟨rfl,rfl⟩,rfl,rfl,⟨rfl,rfl⟩,⟨rfl,rfl,za _ _ _⟩,trivial⟩,trivial⟩
theorem RetR.st9{ctr:Ctr}{Q:AV×Heap->Prop}{rs:List AV}{f:List Fx}{c:List Ch}{day e:Int}{b:Blk}{r:AV}(hf:ctr.fresh=false)(hq:Q (r,[(St8.mk f c day e).box]))(hs:ZE r=true)(hr:resV rs=r)(h2:exp2 [.box [.sl f.length 3 (fxG f),.sl c.length 4 (chG c),.i day,.i e],b] [0] r=r:=by rfl):RetR ctr 1 Q rs [.box [.sl f.length 3 (fxG f),.sl c.length 4 (chG c),.i day,.i e],b]:=by
 subst hr;refine RetR.keep [0] rfl rfl (by decide) hf hq ?_ ?_ rfl
 ·rw [h2]; exact KD hs
 ·exact qH f c day e
theorem uM(e e0:Int)(v:L8):∃ r:L8×Int,(e≠0->r.2=e)/\(e=0->r.2=e0/\(r.2=0->r.1=v)):=by
 by_cases h:e=0
 ·exact⟨(v,e0),λg=>absurd h g,λ_=>⟨rfl,λ_=>rfl⟩⟩
 ·exact⟨(v,e),λ_=>rfl,λg=>absurd g h⟩
theorem Qf(e e0:Int)(v:Bool):∃ r:Bool×Int,(e≠0->r.2=e)/\(e=0->r.2=e0/\(r.2=0->r.1=v)):=by
 by_cases h:e=0
 ·exact⟨(v,e0),λg=>absurd h g,λ_=>⟨rfl,λ_=>rfl⟩⟩
 ·exact⟨(v,e),λ_=>rfl,λg=>absurd g h⟩
section
variable (n:Nat) (h1:zc prog 136 (valC λk=>k.x.size<n/\VPre 1 k)) (h2:zc prog 135 (hldC λk=>k.x.size<n/\VPre 2 k))
include h1 h2
abbrev q61(A:List AV)(H:Heap)(x:K2):Prop:=eqL A [.ptr 0 0,.str x.a,.str x.b]/\eqH H [.box [.sl x.s.f.length 3 (fxG x.s.f),.sl x.s.c.length 4 (chG x.s.c),.i x.s.day,.i x.s.e]]/\1=1/\St8.e x.s=0/\x.a.length<2305843009213693952/\x.b.length<2305843009213693952
abbrev q60(A:List AV)(H:Heap)(x:KS):Prop:=eqL A [.ptr 0 0,.str x.x,.i x.e]/\eqH H [.box [.sl x.s.f.length 3 (fxG x.s.f),.sl x.s.c.length 4 (chG x.s.c),.i x.s.day,.i x.s.e]]/\1=1/\x.s.f.length<1099511627776/\St8.e x.s=0
theorem zcc:zc prog 136 (valC λk=>k.x.size<n+1/\VPre 1 k):=by
 refine zH (fn:=f136) (c:=f136.body.getD .skip) rfl rfl rfl (λh=>by cases h) λk hk O w0 I0 Q hl0 hq=> ?_
 obtain⟨⟨f,c,day,e⟩,⟨k,r,m,d,s⟩⟩:=k;obtain⟨hn,hv⟩:=hk;simp only at hn hv hq;refine zb.n (zn8 h1 h2) [] (let v17:=s.getD 2 Ex.nil;let v15:=s.getD 0 Ex.nil;let v14:=s.getD 1 Ex.nil;let v5:=[AV.ptr 0 0,AV.agg [.int .u8 (Ex.kind v14),.str (Ex.rat v14),.str (Ex.name v14),.i (Ex.date v14),.sl (List.length (Ex.sub v14)) 5 (Ex.deep v14)]];let v4:=[AV.ptr 0 0,AV.agg [.int .u8 (Ex.kind v15),.str (Ex.rat v15),.str (Ex.name v15),.i (Ex.date v15),.sl (List.length (Ex.sub v15)) 5 (Ex.deep v15)]];let v3:List Blk:=[.box [.sl f.length 3 (fxG f),.sl c.length 4 (chG c),.i day,.i e]];let v2:List AV:=[.int .u8 k,.str r,.str m,.i d,.sl s.length 5 (Ex.exG s)];let v13:List Blk:=[.box [.sl f.length 3 (fxG f),.sl c.length 4 (chG c),.i day,.i e],.box v2];.N (e=0) (.R [.str #[].toList] v13) (.D (k=1) (.R [.str r] v13) (.D (k=2) (.ex (q60 [.ptr 0 0,.str m,.i d] v3) λn=>.all (λ(r:L8×Int)=>r=fixR n.s.f n.x n.e) λn_1=>let v19:=n.s.err n_1.2;.R [.str n_1.1] [.box [.sl (List.length v19.f) 3 (fxG v19.f),.sl (List.length v19.c) 4 (chG v19.c),.i v19.day,.i v19.e],.box v2]) (.D (k=3) (.ex (q60 [.ptr 0 0,.str m,.i day] v3) λn=>.all (λ(r:L8×Int)=>r=fixR n.s.f n.x n.e) λn_1=>let v20:=n.s.err n_1.2;.R [.str n_1.1] [.box [.sl (List.length v20.f) 3 (fxG v20.f),.sl (List.length v20.c) 4 (chG v20.c),.i v20.day,.i v20.e],.box v2]) (.D (k=9) (.side ((0:Int)<=0/\(0:Int)<s.length) (.ex (λ(x:VX)=>eqL v4 [.ptr 0 0,.agg [.int .u8 x.x.kind,.str x.x.rat,.str x.x.name,.i x.x.date,.sl x.x.sub.length 5 (Ex.exG x.x.sub)]]/\eqH v3 [.box [.sl x.s.f.length 3 (fxG x.s.f),.sl x.s.c.length 4 (chG x.s.c),.i x.s.day,.i x.s.e]]/\1=1/\Ex.size x.x<n/\VPre (2:Int) x) λn_1=>.all (λ(r:Bool×Int)=>(St8.e n_1.s≠0->r.2=St8.e n_1.s)/\(St8.e n_1.s=0->r.2=Ev.g (evA n_1)/\(r.2=0->r.1=Ev.b (evA n_1)))) λn_2=>let v16:=n_1.s.err n_2.2;let v6:=[AV.sl (List.length v16.f) 3 (fxG v16.f),AV.sl (List.length v16.c) 4 (chG v16.c),AV.i v16.day,AV.i v16.e];.ite n_2.1 (.side ((0:Int)<=1/\(1:Int)<s.length) (.ex (λ(x:VX)=>eqL v5 [.ptr 0 0,.agg [.int .u8 x.x.kind,.str x.x.rat,.str x.x.name,.i x.x.date,.sl x.x.sub.length 5 (Ex.exG x.x.sub)]]/\eqH [.box v6] [.box [.sl x.s.f.length 3 (fxG x.s.f),.sl x.s.c.length 4 (chG x.s.c),.i x.s.day,.i x.s.e]]/\1=1/\Ex.size x.x<n/\VPre (1:Int) x) λn=>.all (λ(r:L8×Int)=>(St8.e n.s≠0->r.2=St8.e n.s)/\(St8.e n.s=0->r.2=Ev.e (evA n)/\(r.2=0->r.1=Ev.v (evA n)))) λn_3=>let v21:=n.s.err n_3.2;.R [.str n_3.1] [.box [.sl (List.length v21.f) 3 (fxG v21.f),.sl (List.length v21.c) 4 (chG v21.c),.i v21.day,.i v21.e],.box v2])) (.side ((0:Int)<=2/\(2:Int)<s.length) (.ex (λ(x:VX)=>eqL [.ptr 0 0,.agg [.int .u8 (Ex.kind v17),.str (Ex.rat v17),.str (Ex.name v17),.i (Ex.date v17),.sl (List.length (Ex.sub v17)) 5 (Ex.deep v17)]] [.ptr 0 0,.agg [.int .u8 x.x.kind,.str x.x.rat,.str x.x.name,.i x.x.date,.sl x.x.sub.length 5 (Ex.exG x.x.sub)]]/\eqH [.box v6] [.box [.sl x.s.f.length 3 (fxG x.s.f),.sl x.s.c.length 4 (chG x.s.c),.i x.s.day,.i x.s.e]]/\1=1/\Ex.size x.x<n/\VPre (1:Int) x) λn=>.all (λ(r:L8×Int)=>(St8.e n.s≠0->r.2=St8.e n.s)/\(St8.e n.s=0->r.2=Ev.e (evA n)/\(r.2=0->r.1=Ev.v (evA n)))) λn_3=>let v22:=n.s.err n_3.2;.R [.str n_3.1] [.box [.sl (List.length v22.f) 3 (fxG v22.f),.sl (List.length v22.c) 4 (chG v22.c),.i v22.day,.i v22.e],.box v2])))) (.side ((0:Int)<=0/\(0:Int)<s.length) (.ex (λ(x:VX)=>eqL v4 [.ptr 0 0,.agg [.int .u8 x.x.kind,.str x.x.rat,.str x.x.name,.i x.x.date,.sl x.x.sub.length 5 (Ex.exG x.x.sub)]]/\eqH v3 [.box [.sl x.s.f.length 3 (fxG x.s.f),.sl x.s.c.length 4 (chG x.s.c),.i x.s.day,.i x.s.e]]/\1=1/\Ex.size x.x<n/\VPre (1:Int) x) λn_1=>.all (λ(r:L8×Int)=>(St8.e n_1.s≠0->r.2=St8.e n_1.s)/\(St8.e n_1.s=0->r.2=Ev.e (evA n_1)/\(r.2=0->r.1=Ev.v (evA n_1)))) λn_2=>let v18:=n_1.s.err n_2.2;.side ((0:Int)<=1/\(1:Int)<s.length) (.ex (λ(x:VX)=>eqL v5 [.ptr 0 0,.agg [.int .u8 x.x.kind,.str x.x.rat,.str x.x.name,.i x.x.date,.sl x.x.sub.length 5 (Ex.exG x.x.sub)]]/\eqH [.box [.sl (List.length v18.f) 3 (fxG v18.f),.sl (List.length v18.c) 4 (chG v18.c),.i v18.day,.i v18.e]] [.box [.sl x.s.f.length 3 (fxG x.s.f),.sl x.s.c.length 4 (chG x.s.c),.i x.s.day,.i x.s.e]]/\1=1/\Ex.size x.x<n/\VPre (1:Int) x) λn=>.all (λ(r:L8×Int)=>(St8.e n.s≠0->r.2=St8.e n.s)/\(St8.e n.s=0->r.2=Ev.e (evA n)/\(r.2=0->r.1=Ev.v (evA n)))) λn_3=>let v12:=n.s.err n_3.2;let v1:=q61 [.ptr 0 0,.str n_2.1,.str n_3.1] [.box [.sl (List.length v12.f) 3 (fxG v12.f),.sl (List.length v12.c) 4 (chG v12.c),.i v12.day,.i v12.e]];.N (St8.e v12=(0:Int)) (.R [.str #[].toList] [.box [.sl (List.length v12.f) 3 (fxG v12.f),.sl (List.length v12.c) 4 (chG v12.c),.i v12.day,.i v12.e],.box v2]) (.D ((4:Int)<=k/\k<=8) (.D (k=4) (.ex v1 λn=>.all (λ(r:L8×Int)=>r.2=Prod.snd (addR n.a n.b)/\(r.2=0->r.1=Prod.fst (addR n.a n.b))) λn_4=>let v9:=bif true then K2.s n else St8.err n.s n_4.2;.ex (q58 [.ptr 0 0,.str n_4.1,.i n_4.2] [.box [.sl (List.length v9.f) 3 (fxG v9.f),.sl (List.length v9.c) 4 (chG v9.c),.i v9.day,.i v9.e]]) λn=>.all (λ(r:Int)=>r=if St8.e n.s=0 then KS.e n else St8.e n.s) λn_5=>let v23:=n.s.err n_5;.R [.str n.x] [.box [.sl (List.length v23.f) 3 (fxG v23.f),.sl (List.length v23.c) 4 (chG v23.c),.i v23.day,.i v23.e],.box v2]) (.D (k=5) (.ex v1 λn=>.all (λ(r:L8×Int)=>r.2=Prod.snd (subR n.a n.b)/\(r.2=0->r.1=Prod.fst (subR n.a n.b))) λn_4=>let v10:=bif true then K2.s n else St8.err n.s n_4.2;.ex (q58 [.ptr 0 0,.str n_4.1,.i n_4.2] [.box [.sl (List.length v10.f) 3 (fxG v10.f),.sl (List.length v10.c) 4 (chG v10.c),.i v10.day,.i v10.e]]) λn=>.all (λ(r:Int)=>r=if St8.e n.s=0 then KS.e n else St8.e n.s) λn_5=>let v24:=n.s.err n_5;.R [.str n.x] [.box [.sl (List.length v24.f) 3 (fxG v24.f),.sl (List.length v24.c) 4 (chG v24.c),.i v24.day,.i v24.e],.box v2]) (.D (k=6) (.ex v1 λn=>.all (λ(r:L8×Int)=>r.2=Prod.snd (mulR n.a n.b)/\(r.2=0->r.1=Prod.fst (mulR n.a n.b))) λn_4=>let v11:=bif true then K2.s n else St8.err n.s n_4.2;.ex (q58 [.ptr 0 0,.str n_4.1,.i n_4.2] [.box [.sl (List.length v11.f) 3 (fxG v11.f),.sl (List.length v11.c) 4 (chG v11.c),.i v11.day,.i v11.e]]) λn=>.all (λ(r:Int)=>r=if St8.e n.s=0 then KS.e n else St8.e n.s) λn_5=>let v25:=n.s.err n_5;.R [.str n.x] [.box [.sl (List.length v25.f) 3 (fxG v25.f),.sl (List.length v25.c) 4 (chG v25.c),.i v25.day,.i v25.e],.box v2]) (.D (k=7) (.ex v1 λn=>.all (λ(r:L8×Int)=>r.2=Prod.snd (wH (7:Int) n.a n.b)/\(r.2=0->r.1=Prod.fst (wH (7:Int) n.a n.b))) λn_4=>let v7:=bif false then K2.s n else St8.err n.s n_4.2;.ex (q58 [.ptr 0 0,.str n_4.1,.i n_4.2] [.box [.sl (List.length v7.f) 3 (fxG v7.f),.sl (List.length v7.c) 4 (chG v7.c),.i v7.day,.i v7.e]]) λn=>.all (λ(r:Int)=>r=if St8.e n.s=0 then KS.e n else St8.e n.s) λn_5=>let v26:=n.s.err n_5;.R [.str n.x] [.box [.sl (List.length v26.f) 3 (fxG v26.f),.sl (List.length v26.c) 4 (chG v26.c),.i v26.day,.i v26.e],.box v2]) (.D (k=8) (.ex v1 λn=>.all (λ(r:L8×Int)=>r.2=Prod.snd (wH (8:Int) n.a n.b)/\(r.2=0->r.1=Prod.fst (wH (8:Int) n.a n.b))) λn_4=>let v8:=bif false then K2.s n else St8.err n.s n_4.2;.ex (q58 [.ptr 0 0,.str n_4.1,.i n_4.2] [.box [.sl (List.length v8.f) 3 (fxG v8.f),.sl (List.length v8.c) 4 (chG v8.c),.i v8.day,.i v8.e]]) λn=>.all (λ(r:Int)=>r=if St8.e n.s=0 then KS.e n else St8.e n.s) λn_5=>let v27:=n.s.err n_5;.R [.str n.x] [.box [.sl (List.length v27.f) 3 (fxG v27.f),.sl (List.length v27.c) 4 (chG v27.c),.i v27.day,.i v27.e],.box v2]) .fail))))) .fail))))))))) ?_;simp only [q58,q60,q61,Tree.holds,ze];refine⟨λh=> ?_,λh=> ?_⟩
 ·have h:e≠0:=by simpa using h
  exact RetR.st9 rfl (hq ([],e) ⟨λ_=>rfl,λh0=>absurd h0 h⟩) rfl rfl
 have h:e=0:=by simpa using h
 subst h;obtain⟨hs,hf,hfl⟩:=hv rfl;simp only at hs hf hfl;have hq0:∀ t:L8×Int,t.2=((Ex.mk k r m d s).ev f day).e->(t.2=0->t.1=((Ex.mk k r m d s).ev f day).v)->Q (.str t.1,[(St8.mk f c day t.2).box]):=λt h1 h2=>hq t ⟨λh=>absurd rfl h,λ_=>⟨h1,h2⟩⟩
 clear hq;have hev:(Ex.mk k r m d s).ev f day=evN f day k r m d (Ex.evs f day s):=by rw [Ex.ev]
 have hc:=Ex.Qa hs;simp only [Ex.kind,Ex.sub,Ex.rat] at hc;rw [Ex.size] at hn;have z0:=λg=>Ex.zM (s:=s) (i:=0) g
 have z1:=λg=>Ex.zM (s:=s) (i:=1) g
 have z2:=λg=>Ex.zM (s:=s) (i:=2) g
 have hfix:∀ (x:L8) (y:Int) (b:Blk),fixR f x y=(((Ex.mk k r m d s).ev f day).v,((Ex.mk k r m d s).ev f day).e)->∀ z,z=fixR f x y->RetR (valC λk=>k.x.size<n+1/\VPre 1 k) 1 Q [.str z.1] [.box [.sl f.length 3 (fxG f),.sl c.length 4 (chG c),.i day,.i z.2],b]:=by
  rintro x y b h1 z rfl;exact RetR.st9 rfl (hq0 _ (congrArg Prod.snd h1) λ_=>congrArg Prod.fst h1) rfl rfl
 rcases hc with ⟨rfl,hr⟩ | rfl | rfl | ⟨⟨k1,k2⟩,hl,hs0,hs1⟩ | ⟨rfl,hl,hs0,hs1,hs2⟩
 ·refine⟨λ_=> ?_,λh=>(by cases h)⟩;exact RetR.st9 rfl (hq0 (r,0) (by rw [hev]; rfl) λ_=>by rw [hev]; rfl) rfl rfl
 ·refine⟨λh=>(by cases h),λ_=>⟨λ_=> ?_,λh=>(by cases h)⟩⟩;refine⟨⟨⟨f,c,day,0⟩,m,d⟩,⟨⟨⟨rfl,rfl⟩,rfl,⟨rfl,rfl⟩,trivial⟩,qH f c day 0,by trivial,hfl,rfl⟩,⟨_,rfl⟩,?_⟩;exact hfix m d _ (by rw [hev]; rfl)
 ·refine⟨λh=>(by cases h),λ_=>⟨λh=>(by cases h),λ_=>⟨λ_=> ?_,λh=>(by cases h)⟩⟩⟩;refine⟨⟨⟨f,c,day,0⟩,m,day⟩,⟨⟨⟨rfl,rfl⟩,rfl,⟨rfl,rfl⟩,trivial⟩,qH f c day 0,by trivial,hfl,rfl⟩,⟨_,rfl⟩,?_⟩;exact hfix m day _ (by rw [hev]; rfl)
 ·iterate 4 refine⟨λh=>absurd (aB h) (by omega),λ_=> ?_⟩
  have z0:=z0 (by omega);have z1:=z1 (by omega)
  have he:(((Ex.mk k r m d s).ev f day).v,((Ex.mk k r m d s).ev f day).e)=wv [] ((s.getD 0 Ex.nil).ev f day) ((s.getD 1 Ex.nil).ev f day) (opR k):=by
   rw [hev];simp only [evN,valN];rw [aO (by omega),aO (by omega),aO (by omega),aO (by omega),Ex.qG (by omega),Ex.qG (by omega)]
  unfold wv at he;refine⟨⟨by decide,by omega⟩,λ_=>⟨⟨⟨f,c,day,0⟩,s.getD 0 Ex.nil⟩,⟨eqX2 _,qH f c day 0,by trivial,by show(s.getD 0 Ex.nil).size<n; omega,λ_=>⟨hs0,hf,hfl⟩⟩,uM _ _ _,?_⟩⟩;intro r0 g0;obtain⟨g0,k0⟩:=g0.2 rfl;simp only [evA] at g0 k0;refine⟨⟨by decide,by omega⟩,λ_=>⟨⟨⟨f,c,day,r0.2⟩,s.getD 1 Ex.nil⟩,⟨eqX2 _,qH f c day r0.2,by trivial,by show(s.getD 1 Ex.nil).size<n; omega,λ_=>⟨hs1,hf,hfl⟩⟩,uM _ _ _,?_⟩⟩;intro r1 g1;simp only [evA] at g1;refine⟨λh=> ?_,λh=> ?_⟩
  ·have h:r1.2≠0:=by
    intro h0;have h':(!decide (r1.2=0))=true:=h;rw [h0] at h'; cases h'
   refine RetR.st9 rfl (hq0 ([],r1.2) ?_ λh0=>absurd h0 h) rfl rfl;have he:=congrArg Prod.snd he;simp only at he ⊢;rw [he];by_cases h3:r0.2=0
   ·obtain⟨q1,_⟩:=g1.2 h3;rw [aO (by rw [<- g0]; simpa using h3),aP (by rw [<- q1]; exact h),q1]
   ·rw [aP (by rw [<- g0]; exact h3),g1.1 h3,g0]
  ·have h:r1.2=0:=by
    have h':(!decide (r1.2=0))=false:=h;simpa using h'
   have h3:r0.2=0:=by
    refine bM λh3=> ?_
    exact h3 (by rw [<- g1.1 h3]; exact h)
   obtain⟨q1,k1'⟩:=g1.2 h3;have k0:=k0 h3;have k1':=k1' h;rw [aO (by rw [<- g0]; simpa using h3),aO (by rw [<- q1]; simpa using h),<- k0,<- k1'] at he;have l0:=jL (by rw [k0]; exact Ex.ZB hf day _ hs0 (by rw [<- g0]; exact h3):errR r0.1=0);have l1:=jL (by rw [k1']; exact Ex.ZB hf day _ hs1 (by rw [<- q1]; exact h):errR r1.1=0);refine⟨λ_=> ?_,λhno=>absurd (aC hno) (by simp only [Classical.not_not]; exact⟨k1,k2⟩)⟩;refine⟨λhk=> ?_,λhk=> ?_⟩
   ·have hk:k=4:=aB hk;subst hk;have ho:opR 4 r0.1 r1.1=addR r0.1 r1.1:=rfl;rw [ho] at he;refine⟨⟨⟨f,c,day,0⟩,r0.1,r1.1⟩,⟨⟨⟨rfl,rfl⟩,rfl,rfl,trivial⟩,⟨⟨⟨rfl,rfl,za _ _ _⟩,⟨rfl,rfl,za _ _ _⟩,⟨rfl,rfl⟩,⟨rfl,h⟩,trivial⟩,trivial⟩,by trivial,rfl,by show r0.1.length<_; omega,by show r1.1.length<_; omega⟩,⟨addR r0.1 r1.1,rfl,λ_=>rfl⟩,?_⟩;intro t ht;obtain⟨t1,t2⟩:=ht;simp only at t1 t2;refine⟨⟨⟨f,c,day,0⟩,t.1,t.2⟩,⟨⟨⟨rfl,rfl⟩,rfl,⟨rfl,rfl⟩,trivial⟩,qH f c day _,by trivial,trivial⟩,⟨_,rfl⟩,?_⟩;intro z hz
    have hz:z=t.2:=by
     rw [hz];show(if 0=(0:Int) then t.2 else 0)=t.2;by_cases g:t.2=0<;>simp [g]
    subst hz;exact RetR.st9 rfl (hq0 t (by rw [t1]; exact(congrArg Prod.snd he).symm) λg=>by rw [t2 g]; exact(congrArg Prod.fst he).symm) rfl rfl
   have hk:¬ k=4:=aC hk;refine⟨λhk=> ?_,λhk=> ?_⟩
   ·have hk:k=5:=aB hk;subst hk;have ho:opR 5 r0.1 r1.1=subR r0.1 r1.1:=rfl;rw [ho] at he;refine⟨⟨⟨f,c,day,0⟩,r0.1,r1.1⟩,⟨⟨⟨rfl,rfl⟩,rfl,rfl,trivial⟩,⟨⟨⟨rfl,rfl,za _ _ _⟩,⟨rfl,rfl,za _ _ _⟩,⟨rfl,rfl⟩,⟨rfl,h⟩,trivial⟩,trivial⟩,by trivial,rfl,by show r0.1.length<_; omega,by show r1.1.length<_; omega⟩,⟨subR r0.1 r1.1,rfl,λ_=>rfl⟩,?_⟩;intro t ht;obtain⟨t1,t2⟩:=ht;simp only at t1 t2;refine⟨⟨⟨f,c,day,0⟩,t.1,t.2⟩,⟨⟨⟨rfl,rfl⟩,rfl,⟨rfl,rfl⟩,trivial⟩,qH f c day _,by trivial,trivial⟩,⟨_,rfl⟩,?_⟩;intro z hz
    have hz:z=t.2:=by
     rw [hz];show(if 0=(0:Int) then t.2 else 0)=t.2;by_cases g:t.2=0<;>simp [g]
    subst hz;exact RetR.st9 rfl (hq0 t (by rw [t1]; exact(congrArg Prod.snd he).symm) λg=>by rw [t2 g]; exact(congrArg Prod.fst he).symm) rfl rfl
   have hk:¬ k=5:=aC hk;refine⟨λhk=> ?_,λhk=> ?_⟩
   ·have hk:k=6:=aB hk;subst hk;have ho:opR 6 r0.1 r1.1=mulR r0.1 r1.1:=rfl;rw [ho] at he;refine⟨⟨⟨f,c,day,0⟩,r0.1,r1.1⟩,⟨⟨⟨rfl,rfl⟩,rfl,rfl,trivial⟩,⟨⟨⟨rfl,rfl,za _ _ _⟩,⟨rfl,rfl,za _ _ _⟩,⟨rfl,rfl⟩,⟨rfl,h⟩,trivial⟩,trivial⟩,by trivial,rfl,by show r0.1.length<_; omega,by show r1.1.length<_; omega⟩,⟨mulR r0.1 r1.1,rfl,λ_=>rfl⟩,?_⟩;intro t ht;obtain⟨t1,t2⟩:=ht;simp only at t1 t2;refine⟨⟨⟨f,c,day,0⟩,t.1,t.2⟩,⟨⟨⟨rfl,rfl⟩,rfl,⟨rfl,rfl⟩,trivial⟩,qH f c day _,by trivial,trivial⟩,⟨_,rfl⟩,?_⟩;intro z hz
    have hz:z=t.2:=by
     rw [hz];show(if 0=(0:Int) then t.2 else 0)=t.2;by_cases g:t.2=0<;>simp [g]
    subst hz;exact RetR.st9 rfl (hq0 t (by rw [t1]; exact(congrArg Prod.snd he).symm) λg=>by rw [t2 g]; exact(congrArg Prod.fst he).symm) rfl rfl
   have hk:¬ k=6:=aC hk;refine⟨λhk=> ?_,λhk=> ?_⟩
   ·have hk:k=7:=aB hk;subst hk;have ho:opR 7 r0.1 r1.1=(wH 7) r0.1 r1.1:=rfl;rw [ho] at he;refine⟨⟨⟨f,c,day,0⟩,r0.1,r1.1⟩,⟨⟨⟨rfl,rfl⟩,rfl,rfl,trivial⟩,⟨⟨⟨rfl,rfl,za _ _ _⟩,⟨rfl,rfl,za _ _ _⟩,⟨rfl,rfl⟩,⟨rfl,h⟩,trivial⟩,trivial⟩,by trivial,rfl,by show r0.1.length<_; omega,by show r1.1.length<_; omega⟩,⟨(wH 7) r0.1 r1.1,rfl,λ_=>rfl⟩,?_⟩;intro t ht;obtain⟨t1,t2⟩:=ht;simp only at t1 t2;refine⟨⟨⟨f,c,day,t.2⟩,t.1,t.2⟩,⟨⟨⟨rfl,rfl⟩,rfl,⟨rfl,rfl⟩,trivial⟩,qH f c day _,by trivial,trivial⟩,⟨_,rfl⟩,?_⟩;intro z hz
    have hz:z=t.2:=by
     rw [hz];show(if t.2=(0:Int) then t.2 else t.2)=t.2;by_cases g:t.2=0<;>simp [g]
    subst hz;exact RetR.st9 rfl (hq0 t (by rw [t1]; exact(congrArg Prod.snd he).symm) λg=>by rw [t2 g]; exact(congrArg Prod.fst he).symm) rfl rfl
   have hk:¬ k=7:=aC hk;refine⟨λhk=> ?_,λhk=> ?_⟩
   ·have hk:k=8:=aB hk;subst hk;have ho:opR 8 r0.1 r1.1=(wH 8) r0.1 r1.1:=rfl;rw [ho] at he;refine⟨⟨⟨f,c,day,0⟩,r0.1,r1.1⟩,⟨⟨⟨rfl,rfl⟩,rfl,rfl,trivial⟩,⟨⟨⟨rfl,rfl,za _ _ _⟩,⟨rfl,rfl,za _ _ _⟩,⟨rfl,rfl⟩,⟨rfl,h⟩,trivial⟩,trivial⟩,by trivial,rfl,by show r0.1.length<_; omega,by show r1.1.length<_; omega⟩,⟨(wH 8) r0.1 r1.1,rfl,λ_=>rfl⟩,?_⟩;intro t ht;obtain⟨t1,t2⟩:=ht;simp only at t1 t2;refine⟨⟨⟨f,c,day,t.2⟩,t.1,t.2⟩,⟨⟨⟨rfl,rfl⟩,rfl,⟨rfl,rfl⟩,trivial⟩,qH f c day _,by trivial,trivial⟩,⟨_,rfl⟩,?_⟩;intro z hz
    have hz:z=t.2:=by
     rw [hz];show(if t.2=(0:Int) then t.2 else t.2)=t.2;by_cases g:t.2=0<;>simp [g]
    subst hz;exact RetR.st9 rfl (hq0 t (by rw [t1]; exact(congrArg Prod.snd he).symm) λg=>by rw [t2 g]; exact(congrArg Prod.fst he).symm) rfl rfl
   have hk:¬ k=8:=aC hk;omega
 ·iterate 3 refine⟨λh=>(by cases h),λ_=> ?_⟩
  refine⟨λ_=> ?_,λh=>(by cases h)⟩;have z0:=z0 (by omega);have z1:=z1 (by omega);have z2:=z2 (by omega)
  have he:(((Ex.mk 9 r m d s).ev f day).v,((Ex.mk 9 r m d s).ev f day).e)=if((s.getD 0 Ex.nil).ev f day).g≠0 then([],((s.getD 0 Ex.nil).ev f day).g) else if((s.getD 0 Ex.nil).ev f day).b then(((s.getD 1 Ex.nil).ev f day).v,((s.getD 1 Ex.nil).ev f day).e) else(((s.getD 2 Ex.nil).ev f day).v,((s.getD 2 Ex.nil).ev f day).e):=by
   rw [hev];simp only [evN,valN];rw [aO (by decide),aO (by decide),aO (by decide),aP trivial,Ex.qG (by omega),Ex.qG (by omega),Ex.qG (by omega)]
  refine⟨⟨by decide,by omega⟩,λ_=>⟨⟨⟨f,c,day,0⟩,s.getD 0 Ex.nil⟩,⟨eqX2 _,qH f c day 0,by trivial,by show(s.getD 0 Ex.nil).size<n; omega,λ_=>⟨hs0,hf,hfl⟩⟩,Qf _ _ _,?_⟩⟩;intro r0 g0;obtain⟨g0,k0⟩:=g0.2 rfl;simp only [evA] at g0 k0
  have fin:∀ (y:Ex),(r0.2=0->(((Ex.mk 9 r m d s).ev f day).v,((Ex.mk 9 r m d s).ev f day).e)=((y.ev f day).v,(y.ev f day).e))->∀ (b:Blk) (t:L8×Int),((r0.2≠0->t.2=r0.2)/\(r0.2=0->t.2=(y.ev f day).e/\(t.2=0->t.1=(y.ev f day).v))) ->
    RetR (valC λk=>k.x.size<n+1/\VPre 1 k) 1 Q [.str t.1] [.box [.sl f.length 3 (fxG f),.sl c.length 4 (chG c),.i day,.i t.2],b]:=by
   intro y hy b t ht;refine RetR.st9 rfl (hq0 t ?_ λh0=> ?_) rfl rfl
   ·by_cases h3:r0.2=0
    ·rw [(ht.2 h3).1]; exact(congrArg Prod.snd (hy h3)).symm
    ·rw [ht.1 h3,g0];rw [aP (by rw [<- g0]; exact h3)] at he;exact(congrArg Prod.snd he).symm
   ·have h3:r0.2=0:=by
     refine bM λh3=> ?_
     exact h3 (by rw [<- ht.1 h3]; exact h0)
    rw [(ht.2 h3).2 h0]; exact(congrArg Prod.fst (hy h3)).symm
  refine⟨λhb=> ?_,λhb=> ?_⟩
  ·refine⟨⟨by decide,by omega⟩,λ_=>⟨⟨⟨f,c,day,r0.2⟩,s.getD 1 Ex.nil⟩,⟨eqX2 _,qH f c day r0.2,by trivial,by show(s.getD 1 Ex.nil).size<n; omega,λ_=>⟨hs1,hf,hfl⟩⟩,uM _ _ _,?_⟩⟩;intro t ht;exact fin _ (λh3=>by rw [he,aO (by rw [<- g0]; simpa using h3),aP (by rw [<- k0 h3]; exact hb)]) _ t ht
  ·refine⟨⟨by decide,by omega⟩,λ_=>⟨⟨⟨f,c,day,r0.2⟩,s.getD 2 Ex.nil⟩,⟨eqX2 _,qH f c day r0.2,by trivial,by show(s.getD 2 Ex.nil).size<n; omega,λ_=>⟨hs2,hf,hfl⟩⟩,uM _ _ _,?_⟩⟩;intro t ht;exact fin _ (λh3=>by rw [he,aO (by rw [<- g0]; simpa using h3),aO (by rw [<- k0 h3,hb]; decide)]) _ t ht
theorem zac:zc prog 135 (hldC λk=>k.x.size<n+1/\VPre 2 k):=by
 refine zH (fn:=f135) (c:=f135.body.getD .skip) rfl rfl rfl (λh=>by cases h) λk hk O w0 I0 Q hl0 hq=> ?_
 obtain⟨⟨f,c,day,e⟩,⟨k,r,m,d,s⟩⟩:=k;obtain⟨hn,hv⟩:=hk;simp only at hn hv hq;refine zb.n (zn8 h1 h2) [] (let v11:=s.getD 0 Ex.nil;let v10:=s.getD 1 Ex.nil;let v4:List Blk:=[.box [.sl f.length 3 (fxG f),.sl c.length 4 (chG c),.i day,.i e]];let v3:List AV:=[.int .u8 k,.str r,.str m,.i d,.sl s.length 5 (Ex.exG s)];let v2:=[AV.ptr 0 0,AV.agg [.int .u8 (Ex.kind v10),.str (Ex.rat v10),.str (Ex.name v10),.i (Ex.date v10),.sl (List.length (Ex.sub v10)) 5 (Ex.deep v10)]];let v1:=[AV.ptr 0 0,AV.agg [.int .u8 (Ex.kind v11),.str (Ex.rat v11),.str (Ex.name v11),.i (Ex.date v11),.sl (List.length (Ex.sub v11)) 5 (Ex.deep v11)]];.N (e=0) (.R [.bool false] [.box [.sl f.length 3 (fxG f),.sl c.length 4 (chG c),.i day,.i e],.box v3]) (.D (k=13) (.side ((0:Int)<=0/\(0:Int)<s.length) (.ex (λ(x:VX)=>eqL v1 [.ptr 0 0,.agg [.int .u8 x.x.kind,.str x.x.rat,.str x.x.name,.i x.x.date,.sl x.x.sub.length 5 (Ex.exG x.x.sub)]]/\eqH v4 [.box [.sl x.s.f.length 3 (fxG x.s.f),.sl x.s.c.length 4 (chG x.s.c),.i x.s.day,.i x.s.e]]/\1=1/\Ex.size x.x<n/\VPre (2:Int) x) λn_1=>.all (λ(r:Bool×Int)=>(St8.e n_1.s≠0->r.2=St8.e n_1.s)/\(St8.e n_1.s=0->r.2=Ev.g (evA n_1)/\(r.2=0->r.1=Ev.b (evA n_1)))) λn_2=>let v6:=n_1.s.err n_2.2;.side (n_2.1=true->(0:Int)<=1/\(1:Int)<s.length) (.ite (n_2.1 == true) (.ex (λ(x:VX)=>eqL v2 [.ptr 0 0,.agg [.int .u8 x.x.kind,.str x.x.rat,.str x.x.name,.i x.x.date,.sl x.x.sub.length 5 (Ex.exG x.x.sub)]]/\eqH [.box [.sl (List.length v6.f) 3 (fxG v6.f),.sl (List.length v6.c) 4 (chG v6.c),.i v6.day,.i v6.e]] [.box [.sl x.s.f.length 3 (fxG x.s.f),.sl x.s.c.length 4 (chG x.s.c),.i x.s.day,.i x.s.e]]/\1=1/\Ex.size x.x<n/\VPre (2:Int) x) λn=>.all (λ(r:Bool×Int)=>(St8.e n.s≠0->r.2=St8.e n.s)/\(St8.e n.s=0->r.2=Ev.g (evA n)/\(r.2=0->r.1=Ev.b (evA n)))) λn_3=>let v13:=n.s.err n_3.2;.R [.bool (bif n_2.1 then n_3.1 else false)] [.box [.sl (List.length v13.f) 3 (fxG v13.f),.sl (List.length v13.c) 4 (chG v13.c),.i v13.day,.i v13.e],.box v3]) (.R [.bool (bif n_2.1 then false else false)] [.box [.sl (List.length v6.f) 3 (fxG v6.f),.sl (List.length v6.c) 4 (chG v6.c),.i v6.day,.i v6.e],.box v3])))) (.D (k=14) (.side ((0:Int)<=0/\(0:Int)<s.length) (.ex (λ(x:VX)=>eqL v1 [.ptr 0 0,.agg [.int .u8 x.x.kind,.str x.x.rat,.str x.x.name,.i x.x.date,.sl x.x.sub.length 5 (Ex.exG x.x.sub)]]/\eqH v4 [.box [.sl x.s.f.length 3 (fxG x.s.f),.sl x.s.c.length 4 (chG x.s.c),.i x.s.day,.i x.s.e]]/\1=1/\Ex.size x.x<n/\VPre (2:Int) x) λn_1=>.all (λ(r:Bool×Int)=>(St8.e n_1.s≠0->r.2=St8.e n_1.s)/\(St8.e n_1.s=0->r.2=Ev.g (evA n_1)/\(r.2=0->r.1=Ev.b (evA n_1)))) λn_2=>let v7:=n_1.s.err n_2.2;.side (n_2.1=false->(0:Int)<=1/\(1:Int)<s.length) (.ite (n_2.1 == false) (.ex (λ(x:VX)=>eqL v2 [.ptr 0 0,.agg [.int .u8 x.x.kind,.str x.x.rat,.str x.x.name,.i x.x.date,.sl x.x.sub.length 5 (Ex.exG x.x.sub)]]/\eqH [.box [.sl (List.length v7.f) 3 (fxG v7.f),.sl (List.length v7.c) 4 (chG v7.c),.i v7.day,.i v7.e]] [.box [.sl x.s.f.length 3 (fxG x.s.f),.sl x.s.c.length 4 (chG x.s.c),.i x.s.day,.i x.s.e]]/\1=1/\Ex.size x.x<n/\VPre (2:Int) x) λn=>.all (λ(r:Bool×Int)=>(St8.e n.s≠0->r.2=St8.e n.s)/\(St8.e n.s=0->r.2=Ev.g (evA n)/\(r.2=0->r.1=Ev.b (evA n)))) λn_3=>let v14:=n.s.err n_3.2;.R [.bool (bif n_2.1 then true else n_3.1)] [.box [.sl (List.length v14.f) 3 (fxG v14.f),.sl (List.length v14.c) 4 (chG v14.c),.i v14.day,.i v14.e],.box v3]) (.R [.bool (bif n_2.1 then true else false)] [.box [.sl (List.length v7.f) 3 (fxG v7.f),.sl (List.length v7.c) 4 (chG v7.c),.i v7.day,.i v7.e],.box v3])))) (.D (k=15) (.side ((0:Int)<=0/\(0:Int)<s.length) (.ex (λ(x:VX)=>eqL v1 [.ptr 0 0,.agg [.int .u8 x.x.kind,.str x.x.rat,.str x.x.name,.i x.x.date,.sl x.x.sub.length 5 (Ex.exG x.x.sub)]]/\eqH v4 [.box [.sl x.s.f.length 3 (fxG x.s.f),.sl x.s.c.length 4 (chG x.s.c),.i x.s.day,.i x.s.e]]/\1=1/\Ex.size x.x<n/\VPre (2:Int) x) λn=>.all (λ(r:Bool×Int)=>(St8.e n.s≠0->r.2=St8.e n.s)/\(St8.e n.s=0->r.2=Ev.g (evA n)/\(r.2=0->r.1=Ev.b (evA n)))) λn_1=>let v8:=n.s.err n_1.2;.R [.bool (bif !Prod.fst n_1 then decide (St8.e v8=(0:Int)) else false)] [.box [.sl (List.length v8.f) 3 (fxG v8.f),.sl (List.length v8.c) 4 (chG v8.c),.i v8.day,.i v8.e],.box v3])) (.side ((0:Int)<=0/\(0:Int)<s.length) (.ex (λ(x:VX)=>eqL v1 [.ptr 0 0,.agg [.int .u8 x.x.kind,.str x.x.rat,.str x.x.name,.i x.x.date,.sl x.x.sub.length 5 (Ex.exG x.x.sub)]]/\eqH v4 [.box [.sl x.s.f.length 3 (fxG x.s.f),.sl x.s.c.length 4 (chG x.s.c),.i x.s.day,.i x.s.e]]/\1=1/\Ex.size x.x<n/\VPre (1:Int) x) λn_1=>.all (λ(r:L8×Int)=>(St8.e n_1.s≠0->r.2=St8.e n_1.s)/\(St8.e n_1.s=0->r.2=Ev.e (evA n_1)/\(r.2=0->r.1=Ev.v (evA n_1)))) λn_2=>let v12:=n_1.s.err n_2.2;.side ((0:Int)<=1/\(1:Int)<s.length) (.ex (λ(x:VX)=>eqL v2 [.ptr 0 0,.agg [.int .u8 x.x.kind,.str x.x.rat,.str x.x.name,.i x.x.date,.sl x.x.sub.length 5 (Ex.exG x.x.sub)]]/\eqH [.box [.sl (List.length v12.f) 3 (fxG v12.f),.sl (List.length v12.c) 4 (chG v12.c),.i v12.day,.i v12.e]] [.box [.sl x.s.f.length 3 (fxG x.s.f),.sl x.s.c.length 4 (chG x.s.c),.i x.s.day,.i x.s.e]]/\1=1/\Ex.size x.x<n/\VPre (1:Int) x) λn=>.all (λ(r:L8×Int)=>(St8.e n.s≠0->r.2=St8.e n.s)/\(St8.e n.s=0->r.2=Ev.e (evA n)/\(r.2=0->r.1=Ev.v (evA n)))) λn_3=>let v15:=n.s.err n_3.2;.ex (q59 [.ptr 0 0,.str n_2.1,.str n_3.1] [.box [.sl (List.length v15.f) 3 (fxG v15.f),.sl (List.length v15.c) 4 (chG v15.c),.i v15.day,.i v15.e]]) λn=>.all (λ(r:Int×Int)=>r=cmpE n.s.e n.a n.b) λn_4=>let v9:=n.s.err n_4.2;let v5:List Blk:=[.box [.sl (List.length v9.f) 3 (fxG v9.f),.sl (List.length v9.c) 4 (chG v9.c),.i v9.day,.i v9.e],.box v3];.D (k=11) (.R [.bool (decide (n_4.1<0))] v5) (.R [.bool (bif decide (n_4.1=0) then decide (St8.e v9=(0:Int)) else false)] v5)))))))) ?_;simp only [q59,Tree.holds,ze];refine⟨λh=> ?_,λh=> ?_⟩
 ·have h:e≠0:=by simpa using h
  exact RetR.st9 rfl (hq (false,e) ⟨λ_=>rfl,λh0=>absurd h0 h⟩) rfl rfl
 have h:e=0:=by simpa using h
 subst h;obtain⟨hs,hf,hfl⟩:=hv rfl;simp only at hs hf hfl;have hq0:∀ t:Bool×Int,t.2=((Ex.mk k r m d s).ev f day).g->(t.2=0->t.1=((Ex.mk k r m d s).ev f day).b)->Q (.bool t.1,[(St8.mk f c day t.2).box]):=λt h1 h2=>hq t ⟨λh=>absurd rfl h,λ_=>⟨h1,h2⟩⟩
 clear hq;have hev:(Ex.mk k r m d s).ev f day=evN f day k r m d (Ex.evs f day s):=by rw [Ex.ev]
 have hc:=Ex.QD hs;simp only [Ex.kind,Ex.sub,Ex.rat] at hc;rw [Ex.size] at hn;have z0:=λg=>Ex.zM (s:=s) (i:=0) g
 have z1:=λg=>Ex.zM (s:=s) (i:=1) g
 have fin:∀ (t:Bool×Int) (b:Blk),t.2=((Ex.mk k r m d s).ev f day).g->(t.2=0->t.1=((Ex.mk k r m d s).ev f day).b)->RetR (hldC λk=>k.x.size<n+1/\VPre 2 k) 1 Q [.bool t.1] [.box [.sl f.length 3 (fxG f),.sl c.length 4 (chG c),.i day,.i t.2],b]:=λt b h1 h2=>RetR.st9 rfl (hq0 t h1 h2) rfl rfl
 rcases hc with ⟨hk,hl,hs0,hs1⟩ | ⟨hk,hl,hs0,hs1⟩ | ⟨rfl,hl,hs0⟩
 ·iterate 3 refine⟨λh=>absurd (aB h) (by omega),λ_=> ?_⟩
  have z0:=z0 (by omega);have z1:=z1 (by omega)
  have he:(((Ex.mk k r m d s).ev f day).b,((Ex.mk k r m d s).ev f day).g)=wv false ((s.getD 0 Ex.nil).ev f day) ((s.getD 1 Ex.nil).ev f day) (YA k):=by
   rw [hev];simp only [evN,hldN];rw [aO (by omega),Ex.qG (by omega),Ex.qG (by omega)]
  unfold wv at he;refine⟨⟨by decide,by omega⟩,λ_=>⟨⟨⟨f,c,day,0⟩,s.getD 0 Ex.nil⟩,⟨eqX2 _,qH f c day 0,by trivial,by show(s.getD 0 Ex.nil).size<n; omega,λ_=>⟨hs0,hf,hfl⟩⟩,uM _ _ _,?_⟩⟩;intro r0 g0;obtain⟨g0,k0⟩:=g0.2 rfl;simp only [evA] at g0 k0;refine⟨⟨by decide,by omega⟩,λ_=>⟨⟨⟨f,c,day,r0.2⟩,s.getD 1 Ex.nil⟩,⟨eqX2 _,qH f c day r0.2,by trivial,by show(s.getD 1 Ex.nil).size<n; omega,λ_=>⟨hs1,hf,hfl⟩⟩,uM _ _ _,?_⟩⟩;intro r1 g1;simp only [evA] at g1
  have hboth:r1.2=0->r0.2=0/\r0.1=((s.getD 0 Ex.nil).ev f day).v/\r1.1=((s.getD 1 Ex.nil).ev f day).v/\errR r0.1=0/\errR r1.1=0/\((Ex.mk k r m d s).ev f day).b=(YA k r0.1 r1.1).1/\((Ex.mk k r m d s).ev f day).g=(YA k r0.1 r1.1).2:=by
   intro h
   have h3:r0.2=0:=by
    refine bM λh3=> ?_
    exact h3 (by rw [<- g1.1 h3]; exact h)
   obtain⟨q1,k1'⟩:=g1.2 h3;have k0:=k0 h3;have k1':=k1' h;rw [aO (by rw [<- g0]; simpa using h3),aO (by rw [<- q1]; simpa using h),<- k0,<- k1'] at he;have l0:errR r0.1=0:=by rw [k0]; exact Ex.ZB hf day _ hs0 (by rw [<- g0]; exact h3)
   have l1:errR r1.1=0:=by rw [k1']; exact Ex.ZB hf day _ hs1 (by rw [<- q1]; exact h)
   exact⟨h3,k0,k1',l0,l1,congrArg Prod.fst he,congrArg Prod.snd he⟩
  refine⟨⟨⟨f,c,day,r1.2⟩,r0.1,r1.1⟩,⟨⟨⟨rfl,rfl⟩,rfl,rfl,trivial⟩,qH f c day r1.2,by trivial,λh=> ?_⟩,⟨_,rfl⟩,?_⟩
  ·obtain⟨_,_,_,l0,l1,_⟩:=hboth h;have l0:=jL l0;have l1:=jL l1;exact⟨by show r0.1.length<_; omega,by show r1.1.length<_; omega⟩
  intro z hz;simp only at hz;by_cases h:r1.2=0
  ·obtain⟨h3,k0,k1',l0,l1,e1,e2⟩:=hboth h;have hz:z=cmpR r0.1 r1.1:=by rw [hz]; unfold cmpE; rw [aO (by rw [h]; simp)]
   unfold YA at e1 e2;refine⟨λhk=> ?_,λhk=> ?_⟩
   ·have hk:k=11:=aB hk;refine fin (decide (z.1<0),z.2) _ ?_ λh0=> ?_
    ·rw [e2,hz];by_cases g:(cmpR r0.1 r1.1).2=0
     ·rw [aO (by rw [g]; simp)]; exact g
     ·rw [aP g]
    ·have h0:z.2=0:=h0;rw [hz] at h0 ⊢;rw [e1,aO (by rw [h0]; simp),aP hk]
   ·have hk:¬ k=11:=aC hk;refine fin ((bif decide (z.1=0) then decide (z.2=0) else false),z.2) _ ?_ λh0=> ?_
    ·rw [e2,hz];by_cases g:(cmpR r0.1 r1.1).2=0
     ·rw [aO (by rw [g]; simp)]; exact g
     ·rw [aP g]
    ·have h0:z.2=0:=h0;rw [hz] at h0 ⊢;rw [e1,aO (by rw [h0]; simp),aO hk];simp only [h0];cases decide ((cmpR r0.1 r1.1).1=0)<;>rfl
  ·have hz:z=(0,r1.2):=by rw [hz]; unfold cmpE; rw [aP h]
   have hg:((Ex.mk k r m d s).ev f day).g=r1.2:=by
    have he:=congrArg Prod.snd he;simp only at he;rw [he];by_cases h3:r0.2=0
    ·obtain⟨q1,_⟩:=g1.2 h3;rw [aO (by rw [<- g0]; simpa using h3),aP (by rw [<- q1]; exact h),q1]
    ·rw [aP (by rw [<- g0]; exact h3),g1.1 h3,g0]
   subst hz;refine⟨λhk=> ?_,λhk=> ?_⟩
   ·exact fin (false,r1.2) _ hg.symm λh0=>absurd h0 h
   ·refine fin ((bif decide ((0:Int)=0) then decide (r1.2=0) else false),r1.2) _ hg.symm λh0=>absurd h0 h
 ·have z0:=z0 (by omega);have z1:=z1 (by omega)
  have he:(((Ex.mk k r m d s).ev f day).b,((Ex.mk k r m d s).ev f day).g)=if((s.getD 0 Ex.nil).ev f day).g≠0 then(false,((s.getD 0 Ex.nil).ev f day).g) else if((s.getD 0 Ex.nil).ev f day).b=decide (k=14) then(((s.getD 0 Ex.nil).ev f day).b,0) else(((s.getD 1 Ex.nil).ev f day).b,((s.getD 1 Ex.nil).ev f day).g):=by
   rw [hev];simp only [evN,hldN];rw [aP (by omega),aO (show ¬ k=15 by omega),Ex.qG (by omega),Ex.qG (by omega)]
  have go:∀ (r0:Bool×Int),r0.2=((s.getD 0 Ex.nil).ev f day).g->(r0.2=0->r0.1=((s.getD 0 Ex.nil).ev f day).b) ->
    (r0.1=decide (k=14)->r0.2=((Ex.mk k r m d s).ev f day).g/\(r0.2=0->r0.1=((Ex.mk k r m d s).ev f day).b)) /\
    (r0.1≠decide (k=14)->∀ r1:Bool×Int,((r0.2≠0->r1.2=r0.2)/\(r0.2=0->r1.2=((s.getD 1 Ex.nil).ev f day).g/\(r1.2=0->r1.1=((s.getD 1 Ex.nil).ev f day).b)))->r1.2=((Ex.mk k r m d s).ev f day).g/\(r1.2=0->r1.1=((Ex.mk k r m d s).ev f day).b)):=by
   intro r0 g0 k0;have e1:=congrArg Prod.fst he;have e2:=congrArg Prod.snd he;simp only at e1 e2;rw [e1,e2];by_cases h3:r0.2=0
   ·rw [aO (by rw [<- g0]; simpa using h3),<- k0 h3];refine⟨λh=> ?_,λh r1 g1=> ?_⟩
    ·rw [aP h]; exact⟨h3,λ_=>rfl⟩
    ·rw [aO h]; exact g1.2 h3
   ·rw [aP (by rw [<- g0]; exact h3)];refine⟨λh=>⟨g0,λh0=>absurd h0 h3⟩,λh r1 g1=> ?_⟩;rw [g1.1 h3];exact⟨g0,λh0=>absurd h0 h3⟩
  have first:∃ r:Bool×Int,((0:Int)≠0->r.2=0)/\((0:Int)=0->r.2=(evA ⟨⟨f,c,day,0⟩,s.getD 0 Ex.nil⟩).g/\(r.2=0->r.1=(evA ⟨⟨f,c,day,0⟩,s.getD 0 Ex.nil⟩).b)):=Qf _ _ _;rcases hk with rfl | rfl
  ·refine⟨λ_=> ?_,λh=>(by cases h)⟩;refine⟨⟨by decide,by omega⟩,λ_=>⟨⟨⟨f,c,day,0⟩,s.getD 0 Ex.nil⟩,⟨eqX2 _,qH f c day 0,by trivial,by show(s.getD 0 Ex.nil).size<n; omega,λ_=>⟨hs0,hf,hfl⟩⟩,first,?_⟩⟩;intro r0 g0;obtain⟨g0,k0⟩:=g0.2 rfl;obtain⟨go1,go2⟩:=go r0 g0 k0;refine⟨λ_=>⟨by decide,by omega⟩,λ_=>⟨λhb=> ?_,λhb=> ?_⟩⟩
   ·have hb:r0.1=true:=by simpa using hb
    refine⟨⟨⟨f,c,day,r0.2⟩,s.getD 1 Ex.nil⟩,⟨eqX2 _,qH f c day r0.2,by trivial,by show(s.getD 1 Ex.nil).size<n; omega,λ_=>⟨hs1,hf,hfl⟩⟩,Qf _ _ _,?_⟩;intro r1 g1;rw [hb];obtain⟨u1,u2⟩:=go2 (by rw [hb]; decide) r1 g1;exact fin r1 _ u1 u2
   ·have hb:r0.1=false:=by simpa using hb
    rw [hb];obtain⟨u1,u2⟩:=go1 (by rw [hb]; rfl);exact fin (false,r0.2) _ u1 (λh0=>by rw [<- u2 h0,hb])
  ·refine⟨λh=>(by cases h),λ_=>⟨λ_=> ?_,λh=>(by cases h)⟩⟩;refine⟨⟨by decide,by omega⟩,λ_=>⟨⟨⟨f,c,day,0⟩,s.getD 0 Ex.nil⟩,⟨eqX2 _,qH f c day 0,by trivial,by show(s.getD 0 Ex.nil).size<n; omega,λ_=>⟨hs0,hf,hfl⟩⟩,first,?_⟩⟩;intro r0 g0;obtain⟨g0,k0⟩:=g0.2 rfl;obtain⟨go1,go2⟩:=go r0 g0 k0;refine⟨λ_=>⟨by decide,by omega⟩,λ_=>⟨λhb=> ?_,λhb=> ?_⟩⟩
   ·have hb:r0.1=false:=by simpa using hb
    refine⟨⟨⟨f,c,day,r0.2⟩,s.getD 1 Ex.nil⟩,⟨eqX2 _,qH f c day r0.2,by trivial,by show(s.getD 1 Ex.nil).size<n; omega,λ_=>⟨hs1,hf,hfl⟩⟩,Qf _ _ _,?_⟩;intro r1 g1;rw [hb];obtain⟨u1,u2⟩:=go2 (by rw [hb]; decide) r1 g1;exact fin r1 _ u1 u2
   ·have hb:r0.1=true:=by simpa using hb
    rw [hb];obtain⟨u1,u2⟩:=go1 (by rw [hb]; rfl);exact fin (true,r0.2) _ u1 (λh0=>by rw [<- u2 h0,hb])
 ·iterate 2 refine⟨λh=>(by cases h),λ_=> ?_⟩
  refine⟨λ_=> ?_,λh=>(by cases h)⟩;have z0:=z0 (by omega)
  have he:(((Ex.mk 15 r m d s).ev f day).b,((Ex.mk 15 r m d s).ev f day).g)=if((s.getD 0 Ex.nil).ev f day).g≠0 then(false,((s.getD 0 Ex.nil).ev f day).g) else(!((s.getD 0 Ex.nil).ev f day).b,0):=by
   rw [hev];simp only [evN,hldN];rw [aP (by decide),aP trivial,Ex.qG (by omega)]
  refine⟨⟨by decide,by omega⟩,λ_=>⟨⟨⟨f,c,day,0⟩,s.getD 0 Ex.nil⟩,⟨eqX2 _,qH f c day 0,by trivial,by show(s.getD 0 Ex.nil).size<n; omega,λ_=>⟨hs0,hf,hfl⟩⟩,Qf _ _ _,?_⟩⟩;intro r0 g0;obtain⟨g0,k0⟩:=g0.2 rfl;simp only [evA] at g0 k0;have e1:=congrArg Prod.fst he;have e2:=congrArg Prod.snd he;simp only at e1 e2;refine fin ((bif !r0.1 then decide (r0.2=0) else false),r0.2) _ ?_ λh3=> ?_
  ·rw [e2];by_cases h3:r0.2=0
   ·rw [aO (by rw [<- g0]; simpa using h3)]; exact h3
   ·rw [aP (by rw [<- g0]; exact h3)]; exact g0
  ·have h3:r0.2=0:=h3;rw [e1,aO (by rw [<- g0]; simpa using h3),<- k0 h3];simp only [h3];cases r0.1<;>rfl
end
theorem zeg:zc prog 136 (valC (VPre 1))/\zc prog 135 (hldC (VPre 2)):=
 zhh (λk:VX=>k.x.size) (λk:VX=>k.x.size) λn h1 h2=>⟨zcc n h1 h2,zac n h1 h2⟩
theorem zj0:zc prog 136 (valC (VPre 1)):=zeg.1
theorem zjp:zc prog 135 (hldC (VPre 2)):=zeg.2
end Go.Proofs.Tryz
end
