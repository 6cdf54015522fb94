/- The law returns true for every input, and each argument reads afterwards as it read before; no condition. -/
import Derived.Test.YtihplbclhhhgdaaGreatDoorSxj
import Derived.SizedLaws
import Derived.ChangeArms
import Derived.Deep.Slices
import Derived.Carry
import Derived.LaidMore
import Derived.WideKeyElems2
import Derived.ProofKit
import Derived.OpenShut
import Derived.ReadAgain
import Derived.Test.YtihplbclhhhgdaaGreatDoorRows
import Derived.MakeChecks
import Derived.Test.YtihplbclhhhgdaaGreatDoorCards
import Derived.Test.YtihplbclhhhgdaaGreatDoorTie
import Derived.Stop.Joined
import Derived.SevenTiedAt
set_option linter.unusedVariables false
set_option linter.unusedSimpArgs false
set_option linter.unusedSectionVars false
section
set_option maxRecDepth 100000
open Go Go.Sx Go.Proofs Go.Nov
namespace Go.Proofs.Tryz
attribute [local simp] eqKV eqA eqA0 eqH eqB eqL eqL0
structure FvA where
 s:List Ver
 f:List Fx
 h:List Ch
def flVC:Ctr:=ctrP false (λp:FvA=>[verA p.s,envA p.f p.h]) (λp=>p.s.length<2^30/\fitV p.s/\envP (p.f,p.h)) (λp r=>r=flV p.s p.f p.h) (λ_ (r:List Fl×Int)=>(.tup [flS r.1,.i r.2],[]))
noncomputable def GFaV:=tb ZE (tb Z8 (tb zl8 (tb zeb tz)))
theorem Ver.zt5(v:Ver):cellsOf v.av=some v.cells/\v.cells.length=13/\v.cells.all oneA=true/\v.cells.all xA=true:=⟨rfl,rfl,rfl,rfl⟩
theorem fitV.any{s:List Ver}(h:fitV s)(i:Nat):(s.getD i Ver.nil).con.big<2^37/\(s.getD i Ver.nil).con.nodes<=1000000:=by
 by_cases hi:i<s.length
 ·exact h i hi
 ·have:s.getD i Ver.nil=Ver.nil:=by simp only [List.getD]; rw [aZ (by omega)]; rfl
  rw [this]; exact⟨by decide +kernel,by decide +kernel⟩
theorem zsp(l m:List Fl):eqG (l.length+m.length) 5 (appG l.length (flG l) (flG m)) (flG (l++m)):=by
 intro j o hj ho;simp only [appG,flG];by_cases h:j<l.length
 ·rw [aP h]; simp [List.getD,bT,h]
 ·rw [aO h]; simp [List.getD,bT,h]
theorem YL(x:Fl):∀ l:List Fl,(insF x l).length=l.length+1
 | []=>rfl
 | y::l=>by rw [insF]; split<;>simp [YL x l]
theorem Kf:∀ (l m:List Fl),(l.foldl (λm x=>insF x m) m).length=m.length+l.length
 | [],m=>rfl
 | x::l,m=>by rw [List.foldl_cons,Kf l,YL,aL]; omega
theorem ze7(l:List Fl):(ordM l).length=l.length:=by
 unfold ordM; rw [Kf]; simp
theorem zpa(c:Con)(day fin:Int)(f:List Fx)(h:List Ch):(befM c day fin f h).1.length<=c.nodes:=by
 unfold befM;split
 ·simp
 split
 ·simp
 split
 ·simp
 split
 ·simp
 ·rename_i u hu;have:=(Wa c hu).1;simp only [ze7];omega
theorem zhd{s:List Ver}{f:List Fx}{h:List Ch}{pre:List Nat}{x:Nat}(hp:pre++[x] <+: List.range s.length)(h1:∀ i∈pre,(flAt s f h i).2=0)(h2:(flAt s f h x).2≠0):Yz s f h s.length=some x:=by
 obtain⟨r,hr⟩:=hp;unfold Yz;rw [<- hr,List.append_assoc,List.find?_append]
 have:pre.find? (λi=>decide ((flAt s f h i).2≠0))=none:=by
  rw [List.find?_eq_none];intro i hi;simp [h1 i hi]
 rw [this];simp [h2]
theorem zha{s:List Ver}{f:List Fx}{h:List Ch}(h1:∀ i∈List.range s.length,(flAt s f h i).2=0):Yz s f h s.length=none:=by
 unfold Yz;rw [List.find?_eq_none];intro i hi;simp [h1 i hi]
theorem UB{s:List Ver}{f:List Fx}{h:List Ch}(pre:List Nat)(x:Nat):xZ s f h (pre++[x])=xZ s f h pre++(flAt s f h x).1:=by
 unfold xZ; simp
theorem zt0(s:List Ver)(f:List Fx)(h:List Ch)(n:Nat):V1 5 4 n 5 [.box [.sl s.length 13 (verG s)],.box [.sl f.length 3 (fxG f),.sl h.length 4 (chG h)],.box [.nils],.box [.i 0],.box [.osl 5 5 0 n]]:=by
 refine⟨rfl,rfl,λi b hi hb=> ?_⟩
 match i,hi with
 | 0,_=>cases hb; exact⟨_,rfl,rfl⟩
 | 1,_=>cases hb; exact⟨_,rfl,rfl⟩
 | 2,_=>cases hb; exact⟨_,rfl,rfl⟩
 | 3,_=>cases hb; exact⟨_,rfl,rfl⟩
 | i+5,_=>simp at hb
noncomputable def LFv:List Go.Sx.Item:=jF 4 (f19.body.getD .skip)
noncomputable def LFv4:List Go.Sx.Item:=LFv.drop 4
def SFv:KV:=[(2,.ptr 0 0),(3,.ptr 1 0),(4,.ptr 2 0),(5,.ptr 3 0),(8,.ptr 4 0)]
def SFv2:KV:=[(3,.ptr 1 0),(4,.ptr 2 0),(5,.ptr 3 0),(8,.ptr 4 0),Z 24,Z 25,Z 26]
def HFv(s:List Ver)(f:List Fx)(h:List Ch)(o:AV):Heap:=[.box [.sl s.length 13 (verG s)],.box [.sl f.length 3 (fxG f),.sl h.length 4 (chG h)],.box [.nils],.box [.i 0],.box [o]]
theorem zsg:zd prog 19 flVC:=by
 refine zf' f19 λp hp O w0 Q hq=> ?_
 obtain⟨s,f,h⟩:=p;replace hq:=hq _ rfl;obtain⟨h1,h2,h3⟩:=hp;simp only at h1 h2 h3 hq;have h8:∀ {e:Int},(!decide (e=0))=true->e≠0:=λh he=>by rw [he] at h; cases h
 have h9:∀ {e:Int},(!decide (e=0))=false->e=0:=λ{e} h=>by
  by_cases he:e=0
  ·exact he
  ·rw [aW he] at h; cases h
 have nil:∀ e:Int,LeA (.tup [.nils,.i e]) (.tup [flS [],.i e]):=λe=>LeA.tup ⟨LeA.nils,LeA.refl _,trivial⟩
 refine zb.spine 4 ?_;refine zb.cutL (ι:={u:Unit // errV s=0/\errE f h=0}) LFv 4 0 (λ_=>SFv) (λ_=>HFv s f h .nils) (by kernel_rfl) (by kernel_rfl) ?_ ?_
 ·refine zb.n GFaV.h [2,3,4,5,8] (let v2:List AV:=[.sl s.length 13 (verG s)];let v1:List AV:=[.sl f.length 3 (fxG f),.sl h.length 4 (chG h)];.ex (q35 [.agg [.sl s.length 13 (verG s)]]) λn=>.all (λ(r:Int)=>r=errV n) λn=>.N (n=0) (.R [.nils,.i n] [.box v2,.box v1,.box [.nils],.box [.i n]]) (.ex (q53 [.agg [.sl f.length 3 (fxG f),.sl h.length 4 (chG h)]]) λn=>.all (λ(r:Int)=>r=errE n.1 n.2) λn=>.N (n=0) (.R [.nils,.i n] [.box v2,.box v1,.box [.nils],.box [.i n]]) (.leaf (.back 0 [(2,.ptr 0 0),(3,.ptr 1 0),(4,.ptr 2 0),(5,.ptr 3 0),(8,.ptr 4 0)] [.box v2,.box v1,.box [.nils],.box [.i 0],.box [.nils]])))) ?_;simp only [q35,q53,Tree.holds,ze,inR,lo,hi,aD];unfold flV at hq;refine⟨s,⟨⟨qt s,trivial⟩,by omega,h2⟩,⟨_,rfl⟩,?_⟩;rintro _ rfl;refine⟨λg=> ?_,λg=>⟨(f,h),⟨⟨⟨⟨rfl,rfl,za _ _ _⟩,⟨rfl,rfl,za _ _ _⟩,trivial⟩,trivial⟩,h3⟩,⟨_,rfl⟩,?_⟩⟩
  ·rw [aP (h8 g)] at hq;exact RetR.le0 hq (λh=>by cases h) (nil _)
  rintro _ rfl;have g:=h9 g;rw [aO (λh=>h g)] at hq;refine⟨λg2=> ?_,λg2=> ?_⟩
  ·rw [aP (h8 g2)] at hq;exact RetR.le0 hq (λh=>by cases h) (nil _)
  rw [aP trivial];exact⟨⟨(),g,h9 g2⟩,by simp [SFv],by simp [HFv,za],by kernel_rfl,aI _⟩
 rintro⟨_,g1,g2⟩;unfold flV at hq;rw [aO (λh=>h g1),aO (λh=>h g2)] at hq;show wi none prog f19 O 0 w0 [] _ _ LFv4 _;have hlen:=xg (kh.1 g1);refine zb.zqo 4 0 5 (flG []) rfl rfl (by kernel_rfl) ?_;refine zb.n GFaV.h [3,4,5,8,24,25,26] (.ex (λ(x:List Ver)=>eqL [.agg [.sl s.length 13 (verG s)]] [.agg [.sl x.length 13 (verG x)]]/\eqH [] []/\0=0/\True) λn=>.A λn_1=>.leaf (.range (Prod.fst (rfs LFv4 0)) (Prod.snd (rfs LFv4 0)) [(3,.ptr 1 0),(4,.ptr 2 0),(5,.ptr 3 0),(8,.ptr 4 0),(24,.fn 58 [] [.ptr 6 0]),Z 25,Z 26] [.box [.sl s.length 13 (verG s)],.box [.sl f.length 3 (fxG f),.sl h.length 4 (chG h)],.box [.nils],.box [.i 0],.box [.osl 5 5 0 0],.arr 0 5 (flG []),.box [.sl n.length 13 (verG n)]])) ?_;simp only [Tree.holds,ze,inR,lo,hi,aD];refine⟨s,⟨⟨qt s,trivial⟩,trivial,trivial,trivial⟩,⟨(),trivial⟩,λ_ _=> ?_⟩;have hfit:=h2.any
 refine zb.zob (tg:=24) (tp:=25) (tq:=26) (td:=9) (te:=10) (t:=44) (n:=13) (id0:=0) (k1:=[]) (kv:=SFv2) (zs:=[.i 0,.int .u8 0,.str [],.str [],.str [],.int .u8 0,.str [],.str [],.i 0,.nils,.i 0,.nils,.nils]) (cap:=[.ptr 6 0]) (gf:=58) (by kernel_rfl) (by kernel_rfl) (by kernel_rfl) rfl (enters_of Tryz.func58 (by kernel_rfl) rfl)
  (λi:Nat=>(s.getD i Ver.nil).av) (λi=>(s.getD i Ver.nil).cells) (λi=>Ver.zt5 _) (λi=>.i (endL s i)) (λ_=>rfl)
  (λpre=>(∀ i∈pre,(flAt s f h i).2=0)/\(xZ s f h pre).length<=pre.length*1000000) 4 5 (λpre=>HFv s f h (.osl 5 5 0 (xZ s f h pre).length)) (λpre=>(xZ s f h pre).length) (λpre=>flG (xZ s f h pre))
  (λq=>[.box [.sl s.length 13 (verG s)],.box [.sl f.length 3 (fxG f),.sl h.length 4 (chG h)],.box [.nils],.box [.i (flAt s f h (q.getLastD 0)).2],.box [.undef]]) (λ_=>[]) (λq=>∃ pre x,q=pre++[x]/\(∀ i∈pre,(flAt s f h i).2=0)/\(flAt s f h x).2≠0) (λ_=>False) (λxs=>xs=List.range s.length) (λpre=>pre <+: List.range s.length) s.length 5
  rfl (by decide +kernel) (by decide +kernel) (by decide +kernel) (by decide +kernel) (by decide +kernel) (by decide) (by decide) (by decide) (by decide) (by decide) (by decide) ?_ ⟨λi hi=>(by cases hi),by simp [xZ]⟩ (by kernel_rfl) (aI _) (λpre=>zt0 s f h _) (λpre=>by simp [alive]) (λpre b hb=>by cases hb) ?_ ?_ ?_ (λ⟨_,h⟩=>h.elim) (λ_ _ h=>h.elim) ?_
 ·exact⟨by simp [SFv2],⟨⟨⟨rfl,rfl,za _ _ _⟩,trivial⟩,⟨⟨rfl,rfl,za _ _ _⟩,⟨rfl,rfl,za _ _ _⟩,trivial⟩,⟨trivial,trivial⟩,⟨⟨rfl,rfl⟩,trivial⟩,⟨⟨rfl,rfl,rfl,rfl⟩,trivial⟩,⟨rfl,rfl,za _ _ _⟩,trivial⟩,by kernel_rfl,aI _⟩
 ·intro w σ a hm vb hvb;obtain⟨ev,ew,k1,k2,k3⟩:=zjj (own2:=OwnN O (σ.take (5+1)) w) hm (i:=6) (m:=5+1) rfl (aJ _) (by omega) (λ_ h=>h) hvb;exact⟨ev,ew,k1,k2,k3⟩
 ·intro l pre i ⟨hI1,hI2⟩ hpl W E1;simp only [UB];generalize xZ s f h pre=L at hI2 ⊢;refine zb.n GFaV.h [3,4,5,8,24,25,26] (let v4:=s.getD i Ver.nil;let v3:List AV:=[.sl f.length 3 (fxG f),.sl h.length 4 (chG h)];let v1:=Ver.con v4;.ex (λ(x:FI)=>eqL [(Con.conD v1),.i v4.day,.i (endL s i),.agg [.sl f.length 3 (fxG f),.sl h.length 4 (chG h)]] [(Con.conA x.c),.i x.day,.i x.fin,.agg [.sl x.f.length 3 (fxG x.f),.sl x.h.length 4 (chG x.h)]]/\FI.pre x) λn=>.all (λ(r:List Fl×Int)=>r=befM n.c n.day n.fin n.f n.h) λn=>let v2:=List.length L+n.1.length;.N (n.2=0) (.R [] [.box [.sl s.length 13 (verG s)],.box v3,.box [.nils],.box [.i n.2],.box [.osl 5 5 0 L.length],.arr L.length 5 (flG L)]) (.side (0=0/\List.length L<=List.length L/\v2 *72<=140737488355328) (.leaf (.back 1 [(3,.ptr 1 0),(4,.ptr 2 0),(5,.ptr 3 0),(8,.ptr 4 0),Z 24,(25,.agg [.i v4.day,.int .u8 (Con.kind v1),.str (Con.src v1),.str (Con.dst v1),.str (Con.name v1),.int .u8 (Ex.kind (Con.x v1)),.str (Ex.rat (Con.x v1)),.str (Ex.name (Con.x v1)),.i (Ex.date (Con.x v1)),.sl (List.length (Ex.sub (Con.x v1))) 5 (Ex.exG (Ex.sub (Con.x v1))),.i (Con.date v1),.sl (List.length (Con.days v1)) 1 (Con.dayG (Con.days v1)),.sl (List.length (Con.sub v1)) 12 (Con.deep v1)]),(26,.i (endL s i))] [.box [.sl s.length 13 (verG s)],.box v3,.box [.nils],.box [.i 0],.box [.osl 5 5 0 v2],.arr v2 5 (appG L.length (flG L) (flG n.1))])))) ?_;simp only [Tree.holds,ze,inR,lo,hi,aD];obtain⟨f1,f2⟩:=hfit i;refine⟨⟨(s.getD i Ver.nil).con,(s.getD i Ver.nil).day,endL s i,f,h⟩,⟨⟨jM _,⟨rfl,rfl⟩,⟨rfl,rfl⟩,⟨⟨rfl,rfl,za _ _ _⟩,⟨rfl,rfl,za _ _ _⟩,trivial⟩,trivial⟩,by show(s.getD i Ver.nil).con.big<2^40; omega,f2,h3⟩,⟨_,rfl⟩,?_⟩;rintro _ rfl;show((!decide ((flAt s f h i).2=0))=true->_)/\((!decide ((flAt s f h i).2=0))=false->_);have hml:(flAt s f h i).1.length<=1000000:=bP (zpa _ _ _ _ _) f2;refine⟨λg=>⟨⟨pre,i,rfl,hI1,h8 g⟩,?_⟩,λg=> ?_⟩
  ·have e:(pre++[i]).getLastD 0=i:=by simp
   rw [e];exact⟨trivial,by simp [za,flAt],by kernel_rfl,aJ _⟩
  ·have hb:(L.length+(flAt s f h i).1.length)*72<=140737488355328:=by
    have:pre.length*1000000<=100*1000000:=aT _ (by omega);omega
   refine⟨⟨trivial,aJ _,hb⟩,λ_=>.inl ⟨trivial,⟨λj hj=> ?_,by simp only [bO,List.length_singleton,bH]; omega⟩,?_⟩⟩
   ·rcases bZ.1 hj with hj | hj
    ·exact hI1 j hj
    ·rw [List.mem_singleton.1 hj]; exact h9 g
   ·refine⟨trivial,?_,by kernel_rfl,by show 5<=6; decide⟩;simp only [HFv,accH,List.cons_append,List.nil_append,eqH,eqB,eqL,eqL0,eqA,eqA0];simp [za,flAt];exact zsp _ _
 ·intro xs hxs ⟨hI1,hI2⟩;subst hxs;rw [zha hI1] at hq;generalize xZ s f h (List.range s.length)=L at hI2 hq ⊢;refine zb.n GFaV.h [3,4,5,8,24,25,26] (.R [.osl 5 5 0 L.length,.i 0] [.box [.sl s.length 13 (verG s)],.box [.sl f.length 3 (fxG f),.sl h.length 4 (chG h)],.box [.osl 5 5 0 L.length],.box [.i 0],.box [.osl 5 5 0 L.length],.arr L.length 5 (flG L)]) ?_;simp only [Tree.holds,ze];refine RetR.le0 hq (λh=>by cases h) (LeA.tup ⟨LeA.sl rfl λj o hj ho=> ?_,LeA.refl _,trivial⟩);rw [xw L.length 5 _ j o hj ho];exact LeA.refl _
 ·intro pre hpre hX;obtain⟨q,x,rfl,hX1,hX2⟩:=hX;rw [zhd hpre hX1 hX2] at hq;have e:(q++[x]).getLastD 0=x:=by simp
  rw [e];have e1:resX prog (mk f19.ntmps SFv2 [.box [.sl s.length 13 (verG s)],.box [.sl f.length 3 (fxG f),.sl h.length 4 (chG h)],.box [.nils],.box [.i (flAt s f h x).2],.box [.undef]]) f19.results.toList = .leaf [.nils,.i (flAt s f h x).2]:=by kernel_rfl
  rw [e1];exact RetR.le0 hq (λh=>by cases h) (nil _)
noncomputable def K43:=Go.Sx.aA f43
noncomputable def K44:=Go.Sx.aA f44
theorem Con.xd:∀ s:List Con,s.length<=Con.zw s
 | []=>by simp
 | c::s=>by rw [Con.zw]; have:=Con.xd s; have:=Con.Qf c; simp; omega
def zd7(n:Nat):Ctr:=ctrP true (λp:Con×Nat×Nat=>[p.1.conA,.i (p.2.1:Int),.i (p.2.2:Int)]) (λp=>p.1.nodes<n/\p.2.1<2^40/\p.2.2<2^40)
 (λp (r:Nat×Bool)=>1<=r.1/\r.1<=p.2.1+1/\(r.2=true->r.1<=p.2.1->r.1=p.1.nodes)) (λ_ (r:Nat×Bool)=>(.tup [.i (r.1:Int),.bool r.2],[]))
def SCk9(limit deep m i:Nat):KV:=[(1,.i (limit:Int)),(2,.i (deep:Int)),(3,.ptr 0 0),(8,.i (m:Int)),(9,.i (i:Int)),Z 20,Z 21,Z 22]
theorem YW(n:Nat)(ih:zd prog 43 (zd7 n)):zd prog 43 (zd7 (n+1)):=by
 refine zf' f43 λp hp O w0 Q hq=> ?_
 obtain⟨x,limit,deep⟩:=p;obtain⟨hxn,hli,hde⟩:=hp;simp only at hxn hli hde hq;rw [Con.jg] at hxn hq;have hlb:=Con.xd x.sub;refine zb.n (jb ih) [1,2,3,8,9,20,21,22] (.D ((deep:Int)=0) (.R [.i 1,.bool false] [.box (Con.zc x)]) (.leaf (.loop (lps K43 0).1 (lps K43 0).2 [(1,.i limit),(2,.i deep),(3,.ptr 0 0),(8,.i 1),(9,.i 0),Z 20,Z 21,Z 22] [.box (Con.zc x)]))) ?_;simp only [Tree.holds,ze];refine⟨λh0=> ?_,λh0=> ?_⟩
 ·exact RetR.scal (hq (1,false) ⟨aJ _,by simp,λh=>by cases h⟩) rfl (by simp [resV])
 ·have h0:0<deep:=by have:=aC h0; omega
  refine zb.loop (ι:={q:Nat×Nat // q.1<=limit+1/\q.2<q.1/\q.2<=x.sub.length/\(q.1<=limit->q.1=1+Con.zw (x.sub.take q.2))}) (λq=>SCk9 limit deep q.1.1 q.1.2) (λ_=>[.box x.zc]) (λq=>x.sub.length - q.1.2) ⟨(1,0),by simp [Con.zw]⟩ 0 ?_ ?_ (by kernel_rfl)
  ·exact⟨by simp [SCk9],⟨zu x,trivial⟩,by kernel_rfl,aI _⟩
  ·rintro⟨⟨c,i⟩,h1,h2,h3,h4⟩;simp only at h1 h2 h3 h4;refine zb.n (jb ih) [1,2,3,8,9,20,21,22] (.ite (bif decide ((i:Int)<(x.sub.length:Int)) then decide ((c:Int)<=limit) else false) (.side ((0:Int)<=i/\(i:Int)<(x.sub.length:Int)) (.S ((limit:Int) - c) (.S (deep-1) (.ex (λ(x_1:Con×Nat×Nat)=>eqL [(Con.conD (List.getD x.sub (i:Int).toNat Con.nil)),.i ((limit:Int) - c),.i (deep-1)] [(Con.conA x_1.1),.i x_1.2.1,.i x_1.2.2]/\Con.nodes x_1.1<n/\x_1.2.1<1099511627776/\x_1.2.2<1099511627776) λn=>.all (λ(r:Nat×Bool)=>1<=r.1/\r.1<=n.2.1+1/\(r.2=true->r.1<=n.2.1->r.1=Con.nodes n.1)) λn=>.ite (!Prod.snd n) (.R [.i c,.bool false] [.box (Con.zc x)]) (.S ((c:Int)+n.1) (.S (i+1) (.leaf (.back 0 [(1,.i limit),(2,.i deep),(3,.ptr 0 0),(8,.i ((c:Int)+n.1)),(9,.i (i+1)),Z 20,Z 21,Z 22] [.box (Con.zc x)])))))))) (.R [.i c,.bool true] [.box (Con.zc x)])) ?_;simp only [Tree.holds,ze,inR,lo,hi,aD];refine⟨λhlt=> ?_,λhge=> ?_⟩
   ·have hlt1:i<x.sub.length/\c<=limit:=by
     by_cases g1:i<x.sub.length
     ·by_cases g2:c<=limit
      ·exact⟨g1,g2⟩
      ·rw [aW (show ¬ (c:Int)<=limit by omega)] at hlt;cases hx:decide ((i:Int)<x.sub.length)<;>rw [hx] at hlt<;>cases hlt
     ·rw [aW (show ¬ (i:Int)<x.sub.length by omega)] at hlt;cases hlt
    obtain⟨hlt,hcl⟩:=hlt1;have hg:=Con.qD hlt;have ht:=Con.wZ hlt;have h4:=h4 hcl
    iterate 3 refine⟨by omega,λ_=> ?_⟩
    refine⟨(x.sub.getD i Con.nil,limit - c,deep - 1),⟨?_,by show(x.sub.getD i Con.nil).nodes<n; omega,by show limit - c<2^40; omega,by show deep - 1<2^40; omega⟩,⟨(1,false),aJ _,by simp,λh=>by cases h⟩,?_⟩
    ·have e1:(limit:Int) - c=((limit - c:Nat):Int):=by omega
     have e2:(deep:Int) - 1=((deep - 1:Nat):Int):=by omega
     rw [e1,e2];exact⟨jM _,⟨rfl,rfl⟩,⟨rfl,rfl⟩,trivial⟩
    rintro⟨m',b⟩ ⟨g1,g2,g3⟩;simp only at g1 g2 g3;refine⟨λhb=> ?_,λhb=> ?_⟩
    ·exact RetR.scal (hq (c,false) ⟨by show 1<=c; omega,by show c<=limit+1; omega,λh=>by cases h⟩) rfl (by simp [resV])
    ·have hb:b=true:=by simpa using hb
     refine⟨by omega,λ_=>⟨by omega,λ_=> ?_⟩⟩;rw [aP trivial];refine⟨⟨(c+m',i+1),?_,?_,hlt,?_⟩,by show x.sub.length - (i+1)<x.sub.length - i; omega,?_,⟨zu x,trivial⟩,by kernel_rfl,aI _⟩
     ·show c+m'<=limit+1; omega
     ·show i+1<c+m'; omega
     ·show c+m'<=limit->c+m'=1+Con.zw (x.sub.take (i+1));intro hle;have:=g3 hb (by omega);omega
     ·simp [SCk9]
   ·refine RetR.scal (hq (c,true) ⟨by show 1<=c; omega,h1,λ_ hle=> ?_⟩) rfl (by simp [resV]);simp only at hle
    have hge:i=x.sub.length:=by
     by_cases g1:i<x.sub.length
     ·rw [aX (show(i:Int)<x.sub.length by omega),aX (show(c:Int)<=limit by omega)] at hge;cases hge
     ·omega
    have h4:=h4 hle;rw [hge,bD] at h4;exact h4
def Vu:Ctr:=ctrP true (λp:Con×Nat×Nat=>[p.1.conA,.i (p.2.1:Int),.i (p.2.2:Int)]) (λp=>p.2.1<2^40/\p.2.2<2^40)
 (λp (r:Nat×Bool)=>1<=r.1/\r.1<=p.2.1+1/\(r.2=true->r.1<=p.2.1->r.1=p.1.nodes)) (λ_ (r:Nat×Bool)=>(.tup [.i (r.1:Int),.bool r.2],[]))
theorem zeg:zd prog 43 Vu:=qj (λp=>p.1.nodes) YW
theorem Con.zn4{c:Con}(h:c.thin):c.src.length<=2^48/\c.dst.length<=2^48/\c.name.length<=2^48/\c.x.thin/\c.days.length<=2^48/\c.sub.length<=2^48/\Con.jL c.sub:=by
 cases c; rw [Con.thin] at h; exact h
def QM(n:Nat):Ctr:=ctrP true (λx:Con=>[x.conA]) (λx=>x.nodes<n/\x.nodes<=1000/\x.thin) (λx r=>r<=2^51+100000*x.nodes/\(r<100000->x.big<=3001*x.nodes+r)) (λ_ (r:Nat)=>(.i (r:Int),[]))
noncomputable def GWt0:=tb ze1 (tb YJ tz)
noncomputable def GWtc(n:Nat):Nat->Option Ctr:=λf=>if f=44 then some (QM n) else GWt0.g f
theorem zc5{n:Nat}(ih:zd prog 44 (QM n)):∀ g c,GWtc n g=some c->zd prog g c:=λg c h=>by
 unfold GWtc at h;split at h
 ·rename_i e; cases h; subst e; exact ih
 ·exact GWt0.h g c h
def SWt(m i:Nat):KV:=[(1,.ptr 0 0),(3,.i (m:Int)),(4,.i (i:Int)),Z 34,Z 35]
theorem Uq(n:Nat)(ih:zd prog 44 (QM n)):zd prog 44 (QM (n+1)):=by
 refine zf' f44 λx hp O w0 Q hq=> ?_
 obtain⟨hxn,hle,hth⟩:=hp;refine zb.n (zc5 ih) [1,3,4,34,35] (.ex (λ(x_1:Ex)=>eqL [(Ex.exA x.x)] [x_1.exA]/\Ex.thin x_1) λn=>.all (λ(r:Bool)=>r=false->Ex.size n<=600/\Ex.zx n<=3000) λn=>.ite n (.R [.i 200000] [.box (Con.zc x)]) (.S (x.src.length+x.dst.length) (.S (x.src.length+x.dst.length+x.name.length) (.S (x.src.length+x.dst.length+x.name.length+x.days.length) (.ex (q26 [(Ex.exA x.x)]) λn=>.all (λ(r:Nat)=>r=Ex.size n) λn=>.S ((4:Int)*n) (.S ((x.src.length:Int)+(x.dst.length:Int)+(x.name.length:Int)+(x.days.length:Int)+(4:Int)*n) (.leaf (.loop (lps K44 0).1 (lps K44 0).2 [(1,.ptr 0 0),(3,.i ((x.src.length:Int)+(x.dst.length:Int)+(x.name.length:Int)+(x.days.length:Int)+(4:Int)*n)),(4,.i 0),Z 34,Z 35] [.box (Con.zc x)])))))))) ?_;simp only [q26,Tree.holds,ze,inR,lo,hi,aD];obtain⟨t1,t2,t3,t4,t5,t6,t7⟩:=Con.zn4 hth;have hbig:=Con.vS x;have hnod:=Con.jg x;have hlb:=Con.xd x.sub;refine⟨x.x,⟨⟨qJ x.x,trivial⟩,t4⟩,⟨true,λh=>by cases h⟩,λb hb=>⟨λh=> ?_,λh=> ?_⟩⟩
 ·exact RetR.scal (hq 200000 ⟨by omega,λh=>by omega⟩) rfl (by simp [resV])
 subst h;obtain⟨b1,b2⟩:=hb rfl
 iterate 3 refine⟨by omega,λ_=> ?_⟩
 refine⟨x.x,⟨⟨qJ x.x,trivial⟩,by omega⟩,⟨_,rfl⟩,?_⟩;rintro _ rfl
 iterate 2 refine⟨by omega,λ_=> ?_⟩
 refine zb.loop (ι:={q:Nat×Nat // q.2<=x.sub.length/\q.1<=2^51+100000*(1+Con.zw (x.sub.take q.2))/\(q.1<100000->1+x.src.length+x.dst.length+x.name.length+x.days.length+x.x.size+x.x.zx+Con.bigs (x.sub.take q.2)<=3001*(1+Con.zw (x.sub.take q.2))+q.1)}) (λq=>SWt q.1.1 q.1.2) (λ_=>[.box x.zc]) (λq=>x.sub.length - q.1.2) ⟨(x.src.length+x.dst.length+x.name.length+x.days.length+4*x.x.size,0),aI _,by simp only [List.take_zero,Con.zw]; omega,by simp only [List.take_zero,Con.zw,Con.bigs]; omega⟩ 0 ?_ ?_ (by kernel_rfl)
 ·exact⟨by simp [SWt],⟨zu x,trivial⟩,by kernel_rfl,aI _⟩
 ·rintro⟨⟨m,i⟩,h1,h2,h3⟩;simp only at h1 h2 h3;refine zb.n (zc5 ih) [1,3,4,34,35] (.ite (bif decide ((i:Int)<(x.sub.length:Int)) then decide ((m:Int)<100000) else false) (.side ((0:Int)<=i/\(i:Int)<(x.sub.length:Int)) (.ex (λ(x_1:Con)=>eqL [(Con.conD (List.getD x.sub (i:Int).toNat Con.nil))] [(Con.conA x_1)]/\Con.nodes x_1<n/\Con.nodes x_1<=1000/\Con.thin x_1) λn=>.all (λ(r:Nat)=>r<=2251799813685248+100000*Con.nodes n/\(r<100000->Con.big n<=3001*Con.nodes n+r)) λn=>.S ((m:Int)+n) (.S (i+1) (.leaf (.back 0 [(1,.ptr 0 0),(3,.i ((m:Int)+n)),(4,.i (i+1)),Z 34,Z 35] [.box (Con.zc x)]))))) (.R [.i m] [.box (Con.zc x)])) ?_;simp only [Tree.holds,ze,inR,lo,hi,aD];have hlt2:=Con.ZG x.sub i;refine⟨λhlt=> ?_,λhge=> ?_⟩
  ·have hlt1:i<x.sub.length/\m<100000:=by
    by_cases g1:i<x.sub.length
    ·by_cases g2:m<100000
     ·exact⟨g1,g2⟩
     ·rw [aW (show ¬ (m:Int)<100000 by omega)] at hlt;cases hx:decide ((i:Int)<x.sub.length)<;>rw [hx] at hlt<;>cases hlt
    ·rw [aW (show ¬ (i:Int)<x.sub.length by omega)] at hlt;cases hlt
   obtain⟨hlt,hm⟩:=hlt1;have h3:=h3 hm;have e1:=Con.qD hlt;have e2:=Con.wZ hlt;have e3:=Con.zfe hlt;refine⟨by omega,λ_=>⟨x.sub.getD i Con.nil,⟨⟨jM _,trivial⟩,by omega,by omega,Con.ZL hlt t7⟩,⟨200000,by omega,λh=>by omega⟩,?_⟩⟩;intro r hr;obtain⟨r1,r2⟩:=hr;refine⟨by omega,λ_=>⟨by omega,λ_=> ?_⟩⟩;rw [aP trivial];refine⟨⟨(m+r,i+1),hlt,by simp only; omega,λhlt2=> ?_⟩,by show x.sub.length - (i+1)<x.sub.length - i; omega,by simp [SWt],⟨zu x,trivial⟩,by kernel_rfl,aI _⟩;simp only at hlt2 ⊢;have:=r2 (by omega);omega
  ·refine RetR.scal (hq m ⟨by omega,λhm=> ?_⟩) rfl (by simp [resV])
   have hge:i=x.sub.length:=by
    by_cases g1:i<x.sub.length
    ·rw [aX (show(i:Int)<x.sub.length by omega),aX (show(m:Int)<100000 by omega)] at hge;cases hge
    ·omega
   have h3:=h3 hm;rw [hge,bD] at h3;omega
def WW:Ctr:=ctrP true (λx:Con=>[x.conA]) (λx=>x.nodes<=1000/\x.thin) (λx r=>r<=2^51+100000*x.nodes/\(r<100000->x.big<=3001*x.nodes+r)) (λ_ (r:Nat)=>(.i (r:Int),[]))
theorem zf4:zd prog 44 WW:=qj Con.nodes Uq
def zah:Ctr:=ctrP true (λx:Con=>[x.conA]) (λx=>x.thin) (λx r=>r=false->x.nodes<=600/\x.big<=1900000) (λ_ (r:Bool)=>(.bool r,[]))
noncomputable def GGk:=tb zeg (tb zf4 tz)
theorem Vo:zd prog 14 zah:=by
 refine zf' f14 λx hx O w0 Q hq=> ?_
 refine zb.n GGk.h [] (.ex (λ(x_1:Con×Nat×Nat)=>eqL [(Con.conA x),.i 600,.i 100] [(Con.conA x_1.1),.i x_1.2.1,.i x_1.2.2]/\x_1.2.1<1099511627776/\x_1.2.2<1099511627776) λn=>.all (λ(r:Nat×Bool)=>1<=r.1/\r.1<=n.2.1+1/\(r.2=true->r.1<=n.2.1->r.1=Con.nodes n.1)) λn=>.ex (λ(x_1:Con)=>(bif !Prod.snd n then true else decide ((600:Int)<n.1))=false->eqL [(Con.conA x)] [(Con.conA x_1)]/\Con.nodes x_1<=1000/\Con.thin x_1) λn_1=>.all (λ(x:Nat)=>(bif !Prod.snd n then true else decide ((600:Int)<n.1))=false->x<=2251799813685248+100000*Con.nodes n_1/\(x<100000->Con.big n_1<=3001*Con.nodes n_1+x)) λn_2=>.R [.bool (bif bif !Prod.snd n then true else decide ((600:Int)<n.1) then true else decide ((12000:Int)<n_2))] [.box (Con.zc x)]) ?_;simp only [Tree.holds,ze,inR,lo,hi,aD];refine⟨(x,600,100),⟨⟨zL x,⟨rfl,rfl⟩,⟨rfl,rfl⟩,trivial⟩,by show 600<1099511627776; omega,by show 100<1099511627776; omega⟩,⟨(1,false),aJ _,by show 1<=600+1; omega,λh=>by cases h⟩,?_⟩;rintro⟨c,b⟩ ⟨g1,g2,g3⟩;simp only at g1 g2 g3
 have hsz:(bif !b then true else decide (600<(c:Int)))=false->x.nodes<=600:=by
  intro h;cases b with
  | false=>cases h
  | true=>
   have h:¬ 600<(c:Int):=aC h;have:=g3 rfl (by omega);omega
 refine⟨x,λh=>⟨⟨zL x,trivial⟩,by have:=hsz h; omega,hx⟩,⟨200000,λ_=>⟨by omega,λh=>by omega⟩⟩,?_⟩;intro c2 hc2;refine RetR.scal (hq (bif (bif !b then true else decide (600<(c:Int))) then true else decide (12000<(c2:Int))) λh=> ?_) rfl (by simp [resV]);cases ht:(bif !b then true else decide (600<(c:Int))) with
 | true=>rw [ht] at h; cases h
 | false=>
  rw [ht] at h;obtain⟨_,h2⟩:=hc2 ht;have h:¬ 12000<(c2:Int):=aC h;have h3:=h2 (by omega);have h4:=hsz ht;refine⟨h4,?_⟩;omega
end Go.Proofs.Tryz
end
section
open Go Go.Sx Go.Proofs Go.Nov
namespace Go.Proofs.Tryz
def zih(p:List Fx×List Ch):Prop:=p.1.length<2^60/\p.2.length<2^60/\(∀ j,j<p.1.length->zi2 (p.1.getD j Fx.nil))/\∀ j,j<p.2.length->zbn (p.2.getD j Ch.nil)
end Go.Proofs.Tryz
end
section
namespace Go.Nov
end Go.Nov
end
section
set_option maxRecDepth 100000
open Go Go.Sx Go.Proofs Go.Nov
namespace Go.Proofs.Tryz
attribute [local simp] eqKV eqA eqA0 eqH eqB eqL eqL0
noncomputable def K22:=Go.Sx.aA f22
theorem Fl.same{x y:Fl}(h1:x.date=y.date)(h2:x.src=y.src)(h3:x.dst=y.dst)(h4:x.ccy=y.ccy)(h5:x.amt=y.amt):x=y:=by
 cases x; cases y; simp_all
def zin:Ctr:=ctrP true (λp:List Fl×List Fl=>[flS p.1,flS p.2]) (λp=>p.1.length<2^40) (λp r=>(r=true↔p.1=p.2)) (λ_ (r:Bool)=>(.bool r,[]))
def SSf(l m:List Fl)(i:Nat):KV:=[(0,flS l),(1,flS m),(5,.i (i:Int))]
theorem zl0:zd prog 22 zin:=by
 refine zf' f22 λp hp O w0 Q hq=> ?_
 obtain⟨l,m⟩:=p;simp only at hp hq;refine zb.n zC [0,1,5] (.N ((l.length:Int)=m.length) (.R [.bool false] []) (.leaf (.loop (lps K22 0).1 (lps K22 0).2 [(0,.sl l.length 5 (flG l)),(1,.sl m.length 5 (flG m)),(5,.i 0)] []))) ?_;simp only [Tree.holds,ze];refine⟨λh=> ?_,λh=> ?_⟩
 ·refine RetR.scal (hq false ⟨λh=>(by cases h),λhe=> ?_⟩) rfl (by simp [resV]);subst he;simp at h
 ·have hl:l.length=m.length:=by simp at h; omega
  refine zb.loop (ι:={i:Nat // i<=l.length/\∀ j,j<i->l.getD j Fl.nil=m.getD j Fl.nil}) (λi=>SSf l m i.1) (λ_=>[]) (λi=>l.length - i.1) ⟨0,aI _,λj hj=>by omega⟩ 0 ?_ ?_ (by kernel_rfl)
  ·exact⟨by simp [SSf,flS,za],trivial,by kernel_rfl,aI _⟩
  ·rintro⟨i,hil,hib⟩;refine zb.n zC [0,1,5] (let v2:=m.getD (i:Int).toNat Fl.nil;let v1:=l.getD (i:Int).toNat Fl.nil;.D ((i:Int)<l.length) (.side ((0:Int)<=i/\(i:Int)<l.length) (.side ((0:Int)<=i/\(i:Int)<m.length) (.ite (!(decide (Fl.date v1=Fl.date v2)&&(decide (Fl.src v1=Fl.src v2)&&(decide (Fl.dst v1=Fl.dst v2)&&(decide (Fl.ccy v1=Fl.ccy v2)&&(decide (Fl.amt v1=Fl.amt v2)&&true)))))) (.R [.bool false] []) (.S (i+1) (.leaf (.back 0 [(0,.sl l.length 5 (flG l)),(1,.sl m.length 5 (flG m)),(5,.i (i+1))] [])))))) (.R [.bool true] [])) ?_;simp only [Tree.holds,ze,inR,lo,hi,aD];refine⟨λhlt=> ?_,λhge=> ?_⟩
   ·have hlt:i<l.length:=by have:=aB hlt; omega
    refine⟨by omega,λ_=>⟨by omega,λ_=>⟨λg=> ?_,λg=>⟨by omega,λ_=> ?_⟩⟩⟩⟩
    ·refine RetR.scal (hq false ⟨λh=>(by cases h),λh3=> ?_⟩) rfl (by simp [resV]);subst h3; simp at g
    ·have g:l.getD i Fl.nil=m.getD i Fl.nil:=by
      rw [Bool.not_eq_false'] at g;simp only [bA,aK,and_true] at g;exact Fl.same g.1 g.2.1 g.2.2.1 g.2.2.2.1 g.2.2.2.2
     rw [aP trivial];refine⟨⟨i+1,hlt,λj hj=> ?_⟩,by show l.length - (i+1)<l.length - i; omega,by simp [SSf,flS,za],trivial,by kernel_rfl,aI _⟩;rcases aR j i with h1 | h1
     ·exact hib j h1
     ·have:j=i:=by omega
      rw [this]; exact g
   ·have hge:i=l.length:=by have:=aC hge; omega
    subst hge;refine RetR.scal (hq true ⟨λ_=> ?_,λ_=>rfl⟩) rfl (by simp [resV]);apply List.ext_getElem hl;intro j g1 g2;have:=hib j g1;simpa [List.getD,g1,g2] using this
end Go.Proofs.Tryz
end
section
namespace Go.Nov
open Go.Sx
namespace Ca
def rel(a:Ca)(y:Ex):Ex:=
 if a.extra=[48] then(if a.ratio=[49] then y else Tm.opx 6 [Tm.kon a.ratio,y])
 else Tm.opx 4 [if a.ratio=[49] then y else Tm.opx 6 [Tm.kon a.ratio,y],Tm.kon a.extra]
def onX(a:Ca)(k:Int)(n:L8)(d:Int):Bool:=decide (n=a.name)&&(decide (k=3)||decide (k=2)&&decide (a.date<=d))
mutual
def chg(a:Ca):Ex->Ex
 | .mk k r n d s=>if a.onX k n d=true then a.rel (.mk k [] a.into d []) else .mk k r n d (chgs a s)
def chgs(a:Ca):List Ex->List Ex
 | []=>[]
 | x::l=>chg a x::chgs a l
end
mutual
def adj(a:Ca):Ex->Ex
 | .mk k r n d s=>if a.onX k n d=true then a.rel (.mk k r a.into d s) else .mk k r n d (adjs a s)
def adjs(a:Ca):List Ex->List Ex
 | []=>[]
 | x::l=>adj a x::adjs a l
end
mutual
def whole(f:Ex->Ex):Con->Con
 | .mk k a b n x d l s=>.mk k a b n (f x) d l (qu f s)
def qu(f:Ex->Ex):List Con->List Con
 | []=>[]
 | c::l=>whole f c::qu f l
end
theorem Jy(f:Ex->Ex):∀ l,qu f l=l.map (whole f)
 | []=>by rw [qu]; rfl
 | x::l=>by rw [qu,Jy f l]; rfl
theorem Y6(f:Ex->Ex)(c:Con):whole f c = .mk c.kind c.src c.dst c.name (f c.x) c.date c.days (c.sub.map (whole f)):=by
 cases c; rw [whole,Jy]; rfl
end Ca
end Go.Nov
end
section
namespace Go.Nov
open Go.Sx
theorem Yo{k p:Int}(h:p∈qq k):p≠0:=by
 unfold qq yN at h;cases e:shpL.find? (λq=>q.1 == k) with
 | none=>rw [e] at h; simp at h
 | some q=>
  rw [e] at h;simp only [Option.map_some,Option.getD_some] at h;have hq:=List.mem_of_find?_eq_some e;have all:∀ q∈shpL,∀ p∈q.2.1,p≠0:=by decide
  exact all q hq p h
theorem J1{k d:Int}{r n:L8}{ss:List Int}(h:wD k r n d ss≠0):∀ p∈ss,p≠0:=by
 unfold wD at h;split at h
 ·split at h
  ·rename_i h2;rw [h2.2.2.2];exactλp hp=>Yo hp
  ·exact absurd rfl h
 ·split at h
  ·rename_i h2;unfold jk at h2;have:ss=[]:=by simp at h2; exact h2.1
   rw [this]; simp
  ·exact absurd rfl h
theorem xb{k d:Int}{r n:L8}{ss:List Int}(h:wD k r n d ss≠0)(hk:k=3\/k=2):r=[]/\ss=[]:=by
 have hs:qN k=false:=by rcases hk with rfl | rfl<;>decide
 rw [wF hs] at h;split at h
 ·rename_i h2;unfold jk at h2;rcases hk with rfl | rfl<;>simp at h2
  ·exact⟨h2.2.1.1,h2.1⟩
  ·exact⟨h2.2.1.1,h2.1⟩
 ·exact absurd rfl h
namespace Ca
mutual
theorem zdf(a:Ca):∀ x:Ex,x.zy≠0->adj a x=chg a x
 | .mk k r n d s,h=>by
  rw [Ex.zy] at h;rw [adj,chg];by_cases hh:a.onX k n d=true
  ·rw [aP hh,aP hh]
   have hk:k=3\/k=2:=by
    simp [onX] at hh;rcases hh.2 with h1 | h1
    ·exact .inl h1
    ·exact .inr h1.1
   obtain⟨h1,h2⟩:=xb h hk
   have:s=[]:=by
    cases s with
    | nil=>rfl
    | cons x s=>rw [Ex.qb] at h2; cases h2
   rw [h1,this]
  ·rw [aO hh,aO hh,Ku a s (J1 h)]
theorem Ku(a:Ca):∀ s:List Ex,(∀ p∈Ex.qb s,p≠0)->adjs a s=chgs a s
 | [],_=>by rw [adjs,chgs]
 | x::s,h=>by
  rw [Ex.qb] at h;rw [adjs,chgs,zdf a x (h _ (by simp)),Ku a s (λp hp=>h p (by simp [hp]))]
end
theorem zk4(a:Ca)(y:Ex):(a.rel y).size<=y.size+4/\(a.rel y).zx<=y.zx+a.ratio.length+a.extra.length:=by
 unfold rel;split<;>split<;>(try simp only [Tm.opx,Tm.kon,Ex.size,Ex.zo,Ex.zx,Ex.zM,List.length_nil])<;>omega
mutual
theorem QW(a:Ca):∀ x:Ex,(chg a x).size<=5*x.size/\(chg a x).zx<=x.zx+x.size*(a.into.length+a.ratio.length+a.extra.length)
 | .mk k r n d s=>by
  rw [chg];by_cases hh:a.onX k n d=true
  ·rw [aP hh];have h:=zk4 a (.mk k [] a.into d []);simp only [Ex.size,Ex.zo,Ex.zx,Ex.zM,List.length_nil] at h ⊢;have hm:a.into.length+a.ratio.length+a.extra.length<=(1+Ex.zo s)*(a.into.length+a.ratio.length+a.extra.length):=Nat.le_mul_of_pos_left _ (by omega);omega
  ·rw [aO hh];have h:=Vq a s;simp only [Ex.size,Ex.zx,bH,Nat.one_mul] at h ⊢;omega
theorem Vq(a:Ca):∀ s:List Ex,Ex.zo (chgs a s)<=5*Ex.zo s/\Ex.zM (chgs a s)<=Ex.zM s+Ex.zo s*(a.into.length+a.ratio.length+a.extra.length)
 | []=>by rw [chgs]; simp [Ex.zo,Ex.zM]
 | x::s=>by
  have h1:=QW a x;have h2:=Vq a s;rw [chgs];simp only [Ex.zo,Ex.zM,bH] at h1 h2 ⊢;omega
end
theorem zch{k d:Int}{s t n:L8}{x:Ex}{l:List Int}{m:Nat}(h:vD k s t n x d l m=true):qU x=true\/x.zy≠0:=by
 have hn:numX x=true->x.zy≠0:=λh=>by simp [numX] at h; omega
 have ht:truX x=true->x.zy≠0:=λh=>by simp [truX] at h; omega
 unfold vD at h
 repeat' split at h
 all_goals simp only [bA,Bool.false_eq_true] at h
 all_goals first
  | exact h.elim
  | exact .inl h.2
  | exact .inr (hn h.2)
  | exact .inr (ht h.2)
  | exact .inr (hn h.1.1.2)
theorem zej(a:Ca){x:Ex}(h:qU x=true\/x.zy≠0):adj a x=chg a x:=by
 rcases h with h | h
 ·obtain⟨k,r,n,d,s⟩:=x;simp [qU,Ex.kind,Ex.rat,Ex.name,Ex.date,Ex.sub] at h;obtain⟨h0,_,_,_,rfl⟩:=h;obtain rfl:k=0:=aB h0;rw [adj,chg,adjs,chgs];have:a.onX 0 n d=false:=by simp [onX]
  rw [this]; simp
 ·exact zdf a x h
mutual
theorem zdv(a:Ca):∀ c:Con,c.form=true->whole a.adj c=whole a.chg c
 | .mk k s t n x d l u,h=>by
  rw [Con.form,bA] at h;rw [whole,whole,zej a (zch h.1),JI a u h.2]
theorem JI(a:Ca):∀ u:List Con,Con.vB u=true->qu a.adj u=qu a.chg u
 | [],_=>by rw [qu,qu]
 | c::u,h=>by
  rw [Con.vB,bA] at h;rw [qu,qu,zdv a c h.1,JI a u h.2]
end
mutual
theorem Wg(a:Ca):∀ c:Con,(whole a.chg c).nodes=c.nodes/\(whole a.chg c).big<=5*c.big+c.big*(a.into.length+a.ratio.length+a.extra.length)
 | .mk k s t n x d l u=>by
  have h1:=QW a x;have h2:=Qx a u;rw [whole];simp only [Con.nodes,Con.big,bH] at h1 h2 ⊢;omega
theorem Qx(a:Ca):∀ u:List Con,Con.zw (qu a.chg u)=Con.zw u/\Con.bigs (qu a.chg u)<=5*Con.bigs u+Con.bigs u*(a.into.length+a.ratio.length+a.extra.length)
 | []=>by rw [qu]; simp [Con.zw,Con.bigs]
 | c::u=>by
  have h1:=Wg a c;have h2:=Qx a u;rw [qu];simp only [Con.zw,Con.bigs,bH] at h1 h2 ⊢;omega
end
def conv(a:Ca)(c:Con):Con×Int:=if a.ok=true then(if c.errC=0 then(if(whole a.chg c).errC=0 then(whole a.chg c,0) else(Con.nil,(whole a.chg c).errC)) else(Con.nil,c.errC)) else(Con.nil,8)
end Ca
end Go.Nov
end
section
namespace Go.Nov
open Go.Sx
namespace Ca
def more(a:Ca):Nat:=(if a.ratio=[49] then 0 else 2)+(if a.extra=[48] then 0 else 2)
mutual
def grow(a:Ca):Ex->Nat
 | .mk k r n d s=>if a.onX k n d=true then a.more else YU a s
def YU(a:Ca):List Ex->Nat
 | []=>0
 | x::l=>grow a x+YU a l
end
theorem Yk{a:Ca}{k d:Int}{n:L8}(h:a.onX k n d=true):k=3\/k=2:=by
 simp [onX] at h;rcases h.2 with h1 | h1
 ·exact .inl h1
 ·exact .inr h1.1
mutual
theorem zlb(a:Ca):∀ x:Ex,x.zy≠0->(chg a x).size=x.size+grow a x
 | .mk k r n d s,h=>by
  rw [Ex.zy] at h;rw [chg,grow];by_cases hh:a.onX k n d=true
  ·rw [aP hh,aP hh];obtain⟨_,h2⟩:=xb h (Yk hh)
   have:s=[]:=by
    cases s with
    | nil=>rfl
    | cons x s=>rw [Ex.qb] at h2; cases h2
   subst this;unfold rel more;split<;>split<;>simp [Tm.opx,Tm.kon,Ex.size,Ex.zo]
  ·rw [aO hh,aO hh];simp only [Ex.size];rw [Vc a s (J1 h)];omega
theorem Vc(a:Ca):∀ s:List Ex,(∀ p∈Ex.qb s,p≠0)->Ex.zo (chgs a s)=Ex.zo s+YU a s
 | [],_=>by rw [chgs,YU]; rfl
 | x::s,h=>by
  rw [Ex.qb] at h;rw [chgs,YU];simp only [Ex.zo];rw [zlb a x (h _ (by simp)),Vc a s (λp hp=>h p (by simp [hp]))];omega
end
end Ca
end Go.Nov
end
section
namespace Go.Nov
open Go.Sx
section
variable {x:Ex} {day:Int} {f:List Fx} {c:List Ch}
end
structure Lg(p q x y:Ex):Prop where
 p0:p.errX=0
 p1:p.zy=2
 q0:q.errX=0
 q1:q.zy=2
 x0:x.errX=0
 x1:x.zy=1
 y0:y.errX=0
 y1:y.zy=1
 s:p.size+q.size+x.size+y.size<500
 dp:p.depth<60
 dq:q.depth<60
 dx:x.depth<60
 dy:y.depth<60
section
variable {p q x y:Ex} {day:Int} {f:List Fx} {c:List Ch} (h:Lg p q x y)
include h
end
end Go.Nov
end
section
namespace Go.Nov
open Go.Sx
namespace Ex
mutual
def men(a:L8):Ex->Bool
 | mk _ _ n _ s=>decide (n=a)||mens a s
def mens(a:L8):List Ex->Bool
 | []=>false
 | x::l=>men a x||mens a l
end
mutual
def fixX(day:Int):Ex->Ex
 | mk k r n d s=>mk (if k=3 then 2 else k) r n (if k=3 then day else d) (fixs day s)
def fixs(day:Int):List Ex->List Ex
 | []=>[]
 | x::l=>fixX day x::fixs day l
end
mutual
theorem zh7(day:Int):∀ x:Ex,(fixX day x).size=x.size
 | mk k r n d s=>by rw [fixX,size,size,Vv day s]
theorem Vv(day:Int):∀ s:List Ex,zo (fixs day s)=zo s
 | []=>rfl
 | x::l=>by rw [fixs,zo,zo,zh7 day x,Vv day l]
end
mutual
theorem zdx(day:Int):∀ x:Ex,(fixX day x).depth=x.depth
 | mk k r n d s=>by rw [fixX,depth,depth,J3 day s]
theorem J3(day:Int):∀ s:List Ex,z7 (fixs day s)=z7 s
 | []=>rfl
 | x::l=>by rw [fixs,z7,z7,zdx day x,J3 day l]
end
mutual
theorem zgd(day:Int):∀ x:Ex,(fixX day x).zx=x.zx
 | mk k r n d s=>by rw [fixX,zx,zx,JA day s]
theorem JA(day:Int):∀ s:List Ex,zM (fixs day s)=zM s
 | []=>rfl
 | x::l=>by rw [fixs,zM,zM,zgd day x,JA day l]
end
theorem zk6{k v:Int}(hk:qN k=true)(h:v∈qq k):v≠0:=by
 have h2:(4<=k/\k<=9)\/(11<=k/\k<=15):=by
  by_cases h1:4<=k/\k<=9
  ·exact .inl h1
  ·by_cases h2:11<=k/\k<=15
   ·exact .inr h2
   ·rw [zbf h1 h2] at hk; cases hk
 have h3:k=4\/k=5\/k=6\/k=7\/k=8\/k=9\/k=11\/k=12\/k=13\/k=14\/k=15:=by omega
 rcases h3 with rfl | rfl | rfl | rfl | rfl | rfl | rfl | rfl | rfl | rfl | rfl<;>(revert v; decide)
mutual
theorem zj3{day:Int}(hd:dayB day=true):∀ x:Ex,x.zy≠0->(fixX day x).zy=x.zy
 | mk k r n d s,h=>by
  rw [fixX,zy,zy];rw [zy] at h;by_cases hk:qN k=true
  ·have k3:k≠3:=λg=>by rw [g] at hk; cases hk
   rw [aO k3,aO k3]
   have hs:qb s=qq k:=by
    unfold wD at h;rw [aP hk] at h;by_cases g:r=[]/\n=[]/\d=0/\qb s=qq k
    ·exact g.2.2.2
    ·rw [aO g] at h; exact absurd rfl h
   rw [VW hd s λv hv=>zk6 hk (by rw [<- hs]; exact hv)]
  ·have hk:qN k=false:=by simpa using hk
   rw [wF hk] at h ⊢;by_cases g:jk k r n d (qb s).length=true
   ·have hl:(qb s).length=0:=by
     unfold jk at g;simp only [bA,aK] at g;exact g.1
    have hs:s=[]:=aU.1 (by rw [<- j3 s]; exact hl);subst hs;by_cases k3:k=3
    ·rw [aP k3,aP k3,aP g];subst k3;rw [wF (by rfl),aP];unfold jk at g ⊢;simp only [bA,aK,show ¬ (3:Int)=1 by decide,show ¬ (3:Int)=2 by decide,show ¬ (2:Int)=1 by decide,if_false,if_true] at g ⊢;exact⟨rfl,⟨g.2.1.1,g.2.1.2⟩,hd⟩
    ·rw [aO k3,aO k3,fixs,wF hk]
   ·rw [aO g] at h; exact absurd rfl h
theorem VW{day:Int}(hd:dayB day=true):∀ s:List Ex,(∀ v∈qb s,v≠0)->qb (fixs day s)=qb s
 | [],_=>rfl
 | x::l,h=>by
  rw [fixs,qb,qb];rw [qb] at h;rw [zj3 hd x (h _ (by simp)),VW hd l λv hv=>h v (by simp [hv])]
end
theorem zo1(f:List Fx)(day k:Int)(r n:L8)(d:Int)(l:List Ev):evN f day (if k=3 then 2 else k) r n (if k=3 then day else d) l=evN f day k r n d l:=by
 by_cases k3:k=3
 ·subst k3;rw [aP rfl,aP rfl];rfl
 ·rw [aO k3,aO k3]
mutual
theorem zmi(f:List Fx)(day:Int):∀ x:Ex,(fixX day x).ev f day=x.ev f day
 | mk k r n d s=>by rw [fixX,ev,ev,zd1 f day s,zo1]
theorem zd1(f:List Fx)(day:Int):∀ s:List Ex,evs f day (fixs day s)=evs f day s
 | []=>rfl
 | x::l=>by rw [fixs,evs,evs,zmi f day x,zd1 f day l]
end
mutual
theorem zqw{f g:List Fx}{a:L8}(hf:∀ (n:L8) (d:Int),n≠a->fixR g n d=fixR f n d)(day:Int):∀ x:Ex,x.men a=false->x.ev g day=x.ev f day
 | mk k r n d s,h=>by
  rw [men,Bool.or_eq_false_iff] at h;have hn:n≠a:=aC h.1;rw [ev,ev,zbr hf day s h.2];unfold evN valN;rw [hf n d hn,hf n day hn]
theorem zbr{f g:List Fx}{a:L8}(hf:∀ (n:L8) (d:Int),n≠a->fixR g n d=fixR f n d)(day:Int):∀ s:List Ex,mens a s=false->evs g day s=evs f day s
 | [],_=>rfl
 | x::l,h=>by
  rw [mens,Bool.or_eq_false_iff] at h;rw [evs,evs,zqw hf day x h.1,zbr hf day l h.2]
end
end Ex
end Go.Nov
end
section
namespace Go.Nov
open Go.Sx
namespace Ca
def isNone(a:Ca):Prop:=a.ratio=[49]/\a.extra=[48]/\a.into=a.name
mutual
theorem X8{a:Ca}(h:a.isNone):∀ x:Ex,x.zy≠0->chg a x=x
 | .mk k r n d s,hs=>by
  rw [Ex.zy] at hs;rw [chg];by_cases hh:a.onX k n d=true
  ·rw [aP hh];obtain⟨h1,h2⟩:=xb hs (Yk hh)
   have h3:s=[]:=by
    cases s with
    | nil=>rfl
    | cons x s=>rw [Ex.qb] at h2; cases h2
   have h4:n=a.name:=by simp [onX] at hh; exact hh.1
   unfold rel;rw [aP h.2.1,aP h.1,h.2.2,h1,h3,h4]
  ·rw [aO hh,Kx h s (J1 hs)]
theorem Kx{a:Ca}(h:a.isNone):∀ s:List Ex,(∀ p∈Ex.qb s,p≠0)->chgs a s=s
 | [],_=>by rw [chgs]
 | x::s,hs=>by
  rw [Ex.qb] at hs;rw [chgs,X8 h x (hs _ (by simp)),Kx h s (λp hp=>hs p (by simp [hp]))]
end
theorem zl4{a:Ca}{x:Ex}(h:qU x=true):chg a x=x:=by
 obtain⟨k,r,n,d,s⟩:=x;simp [qU,Ex.kind,Ex.rat,Ex.name,Ex.date,Ex.sub] at h;obtain⟨h0,_,_,_,rfl⟩:=h;obtain rfl:k=0:=aB h0;rw [chg,chgs];have:a.onX 0 n d=false:=by simp [onX]
 rw [this]; simp
mutual
theorem UJ{a:Ca}(h:a.isNone):∀ c:Con,c.form=true->whole a.chg c=c
 | .mk k s t n x d l u,hf=>by
  rw [Con.form,bA] at hf;rw [whole,Ql h u hf.2];rcases zch hf.1 with hx | hx
  ·rw [zl4 hx]
  ·rw [X8 h x hx]
theorem Ql{a:Ca}(h:a.isNone):∀ u:List Con,Con.vB u=true->qu a.chg u=u
 | [],_=>by rw [qu]
 | c::u,hf=>by
  rw [Con.vB,bA] at hf;rw [qu,UJ h c hf.1,Ql h u hf.2]
end
mutual
theorem zbs{a:Ca} : ∀ x:Ex,x.men a.name=false->chg a x=x
 | .mk k r n d s,h=>by
  rw [Ex.men,Bool.or_eq_false_iff] at h;have h1:¬ n=a.name:=aC h.1;rw [chg,aO (by simp [onX,h1]),X9 s h.2]
theorem X9{a:Ca} : ∀ s:List Ex,Ex.mens a.name s=false->chgs a s=s
 | [],_=>by rw [chgs]
 | x::s,h=>by
  rw [Ex.mens,Bool.or_eq_false_iff] at h;rw [chgs,zbs x h.1,X9 s h.2]
end
end Ca
namespace Con
mutual
def men(a:L8):Con->Bool
 | mk _ _ _ _ x _ _ s=>x.men a||mens a s
def mens(a:L8):List Con->Bool
 | []=>false
 | c::l=>men a c||mens a l
end
end Con
namespace Ca
mutual
theorem zff{a:Ca} : ∀ c:Con,c.men a.name=false->whole a.chg c=c
 | .mk k s t n x d l u,h=>by
  rw [Con.men,Bool.or_eq_false_iff] at h;rw [whole,zbs x h.1,Jj u h.2]
theorem Jj{a:Ca} : ∀ u:List Con,Con.mens a.name u=false->qu a.chg u=u
 | [],_=>by rw [qu]
 | c::u,h=>by
  rw [Con.mens,Bool.or_eq_false_iff] at h;rw [qu,zff c h.1,Jj u h.2]
end
end Ca
end Go.Nov
end
section
namespace Go.Nov
open Go.Sx
namespace Tm
end Tm
end Go.Nov
end
section
namespace Go.Nov
open Go.Sx
structure Per where
 fix:Int
 pay:Int
 part:L8
namespace Per
def nil:Per:=⟨0,0,[]⟩
def cell(p:Per):Nat->AV
 | 0=>.i p.fix
 | 1=>.i p.pay
 | 2=>.str p.part
 | _=>.undef
def av(p:Per):AV:=.agg [.i p.fix,.i p.pay,.str p.part]
end Per
namespace Tm
def short(d:Deal)(l:List Per)(days:List Int):Prop:=fits d/\l.length<=60/\days.length<=200/\∀ i,i<l.length->(l.getD i Per.nil).part.length<=300
end Tm
end Go.Nov
end
section
namespace Go.Nov
open Go.Sx
namespace Tm
def zli:Con:=.mk 1 [] [] [] (.mk 0 [] [] 0 []) 0 [] []
def both(a b:Con):Con:=.mk 3 [] [] [] (.mk 0 [] [] 0 []) 0 [] [a,b]
def xh:Nat->List Con->Con
 | 0,_=>zli
 | n+1,l=>if l.length=0 then zli else if l.length=1 then l.getD 0 Con.nil else both (xh n (l.take ((l.length+1)/2))) (xh n (l.drop ((l.length+1)/2)))
theorem kR:∀ (n m:Nat) (l:List Con),l.length<=n->l.length<=m->xh n l=xh m l
 | 0,0,l,_,_=>rfl
 | 0,m+1,l,h,_=>by
  have:l.length=0:=by omega
  simp [xh,this]
 | n+1,0,l,_,h=>by
  have:l.length=0:=by omega
  simp [xh,this]
 | n+1,m+1,l,h1,h2=>by
  simp only [xh];by_cases h:l.length=0
  ·rw [aP h,aP h]
  ·rw [aO h,aO h];by_cases g:l.length=1
   ·rw [aP g,aP g]
   ·rw [aO g,aO g,kR n m _ (by rw [aH]; omega) (by rw [aH]; omega),kR n m _ (by rw [bV]; omega) (by rw [bV]; omega)]
def whole(l:List Con):Con:=xh l.length l
theorem Y6(l:List Con):whole l=if l.length=0 then zli else if l.length=1 then l.getD 0 Con.nil else both (whole (l.take ((l.length+1)/2))) (whole (l.drop ((l.length+1)/2))):=by
 unfold whole;rw [kR l.length (l.length+1) l (aJ _) (Nat.le_succ _)];simp only [xh];by_cases h:l.length=0
 ·rw [aP h,aP h]
 ·rw [aO h,aO h];by_cases g:l.length=1
  ·rw [aP g,aP g]
  ·rw [aO g,aO g,kR l.length _ _ (by rw [aH]; omega) (aJ _),kR l.length _ _ (by rw [bV]; omega) (aJ _)]
theorem zls(l m:List Con):Con.bigs (l++m)=Con.bigs l+Con.bigs m:=by
 induction l with
 | nil=>simp [Con.bigs]
 | cons c l ih=>simp only [List.cons_append,Con.bigs,ih]; omega
theorem zfr(l m:List Con):Con.zw (l++m)=Con.zw l+Con.zw m:=by
 induction l with
 | nil=>simp [Con.zw]
 | cons c l ih=>simp only [List.cons_append,Con.zw,ih]; omega
theorem xK:∀ (n:Nat) (l:List Con),l.length<=n->1<=l.length->(whole l).big<=Con.bigs l+2*(l.length - 1)/\(whole l).nodes<=Con.zw l+(l.length - 1)
 | 0,l,h,h'=>by omega
 | n+1,l,h,h'=>by
  rw [Y6,aO (by omega:¬ l.length=0)];by_cases h1:l.length=1
  ·rw [aP h1]
   match l,h1 with
   | [c],_=>simp [Con.bigs,Con.zw]
  ·rw [aO h1];obtain⟨a1,a2⟩:=xK n (l.take ((l.length+1)/2)) (by rw [aH]; omega) (by rw [aH]; omega);obtain⟨b1,b2⟩:=xK n (l.drop ((l.length+1)/2)) (by rw [bV]; omega) (by rw [bV]; omega);have e1:=zls (l.take ((l.length+1)/2)) (l.drop ((l.length+1)/2));have e2:=zfr (l.take ((l.length+1)/2)) (l.drop ((l.length+1)/2));rw [bU] at e1 e2;rw [aH] at a1 a2;rw [bV] at b1 b2;simp only [both,Con.big,Con.bigs,Con.nodes,Con.zw,Ex.size,Ex.zo,Ex.zx,Ex.zM,List.length_nil];omega
theorem Wg(l:List Con):(whole l).big<=Con.bigs l+2*l.length+2/\(whole l).nodes<=Con.zw l+l.length+1:=by
 by_cases h:l.length=0
 ·have:l=[]:=aU.1 h;subst this;decide
 ·have:=xK l.length l (aJ _) (by omega);omega
theorem zez{x:Ex}(h:x.size<=50):numX x=decide (x.zy=1):=by
 unfold numX;by_cases hs:x.zy=1
 ·have hd:=Ex.jG x;have:x.errX=0:=by unfold Ex.errX; rw [aO (by omega),aO (by omega)]
  simp [this,hs]
 ·simp [hs]
theorem zdu{x:Ex}(h:x.size<=50)(hs:x.zy=1):x.errX=0:=by
 have hd:=Ex.jG x;unfold Ex.errX;rw [aO (by omega),aO (by omega)]
theorem zrb(f:List Fx)(h:List Ch)(day:Int)(c:Con)(fr fin:Int):flM f h (at_ day c) fr fin=if fin<=fr then .ok [] else if fr<=day then flM f h c day fin else .ok []:=by
 rw [Jh];simp [at_,Con.kind,Con.date,Con.sub]
theorem znq(f:List Fx)(h:List Ch)(a b n:L8)(x:Ex)(fr fin:Int):flM f h (.mk 2 a b n x 0 [] []) fr fin=if fin<=fr then .ok [] else Go.Nov.andM (valM x fr f h) λr=>.ok (payF fr a b n r):=by
 rw [Jh];simp [Con.kind,Con.x,Con.src,Con.dst,Con.name]
theorem zfu{x:Ex}{day:Int}{f:List Fx}{h:List Ch}(hx:x.size<=50)(hs:x.zy=1)(he:errE f h=0)(hd:dayB day=true):valM x day f h=if(x.ev f day).e≠0 then .error (x.ev f day).e else .ok (x.ev f day).v:=by
 unfold valM jQ;have ha:askE x 1 day f h=0:=by rw [zq3 (zdu hx hs) hs,aP he,aP hd]
 simp only [ha,ne_eq,not_true_eq_false,if_false];by_cases g:(x.ev f day).e=0<;>simp [g]
theorem znv(n:L8)(d:Int)(f:List Fx)(day:Int):((fixg n d).ev f day).v=(fixR f n d).1/\((fixg n d).ev f day).e=(fixR f n d).2:=by
 unfold fixg; rw [Ex.ev,Ex.evs]; exact⟨rfl,rfl⟩
end Tm
end Go.Nov
end
section
namespace Go.Nov
open Go.Sx
end Go.Nov
end
section
namespace Go.Nov
open Go.Sx
namespace Tm
theorem zns{a b n:L8}{x:Ex}{day:Int}(hs:x.size<=50)(hf:(at_ day (.mk 2 a b n x 0 [] [])).form=true):dayB day=true/\x.zy=1:=by
 unfold at_ at hf;rw [Con.form,Con.vB,Con.vB,Con.form,Con.vB] at hf;simp only [vD,aL,List.length_nil,zez hs] at hf;have hb:qU (.mk 0 [] [] 0 [])=true:=by decide
 rw [hb] at hf;by_cases e1:dayB day=true<;>by_cases e6:x.zy=1<;>simp_all
theorem zbt{a b n:L8}{x:Ex}{day fr:Int}{v:L8}{f:List Fx}{h:List Ch}(hs:x.size<=50)(hf:(at_ day (.mk 2 a b n x 0 [] [])).form=true)(he:errE f h=0)(h1:fr<=99999)(hv:¬ day<fr->(x.ev f day).e=0/\(x.ev f day).v=v) :
  flM f h (at_ day (.mk 2 a b n x 0 [] [])) fr 100000 = .ok (if day<fr then [] else payF day a b n v):=by
 obtain⟨h2,h3⟩:=zns hs hf;have hd:0<=day/\day<=99999:=by simpa [dayB] using h2
 rw [zrb,aO (by omega)];by_cases g:day<fr
 ·rw [aP g,aO (by omega)]
 ·obtain⟨v1,v2⟩:=hv g;rw [aO g,aP (by omega),znq,aO (by omega),zfu hs h3 he h2,aO (by simp [v1]),v2];rfl
def U9(d:Deal)(fl:Bool)(p:Per):List Con:=[at_ p.pay (pay d (over d.ZQ (fixg d.name p.fix) fl) (mulR p.part d.V2).1)]
theorem zmi{n:L8}{z day:Int}{f:List Fx}(hk:(vR f n z).2=true):((fixg n z).ev f day).v=(vR f n z).1/\((fixg n z).ev f day).e=0:=by
 obtain⟨s1,s2⟩:=znv n z f day;unfold fixR at s1 s2;rw [hk,aP rfl] at s1 s2;exact⟨s1,s2⟩
end Tm
end Go.Nov
end
section
namespace Go.Nov
open Go.Sx
namespace Ca
theorem zmr(x:Ex):x.size<=vu x+1:=by
 unfold vu;cases h:qU x with
 | false=>simp
 | true=>
  obtain⟨k,r,n,d,s⟩:=x;simp [qU,Ex.kind,Ex.rat,Ex.name,Ex.date,Ex.sub] at h;obtain⟨_,_,_,_,rfl⟩:=h;simp [Ex.size,Ex.zo]
mutual
theorem UG(a:Ca):∀ c:Con,(whole a.chg c).big<=5*c.big+(c.size+c.nodes)*(a.into.length+a.ratio.length+a.extra.length)
 | .mk k s t n x d l u=>by
  have h1:=QW a x;have h2:=Qs a u;have h3:=zmr x;have h4:x.size*(a.into.length+a.ratio.length+a.extra.length)<=(1+vu x+1)*(a.into.length+a.ratio.length+a.extra.length):=aT _ (by omega);rw [whole];simp only [Con.nodes,Con.size,Con.big,bH] at h1 h2 h4 ⊢;omega
theorem Qs(a:Ca):∀ u:List Con,Con.bigs (qu a.chg u)<=5*Con.bigs u+(Con.zo u+Con.zw u)*(a.into.length+a.ratio.length+a.extra.length)
 | []=>by rw [qu]; simp [Con.zw,Con.bigs,Con.zo]
 | c::u=>by
  have h1:=UG a c;have h2:=Qs a u;rw [qu];simp only [Con.zw,Con.bigs,Con.zo,bH] at h1 h2 ⊢;omega
end
end Ca
end Go.Nov
end
section
set_option maxRecDepth 100000
open Go Go.Sx Go.Proofs Go.Nov
namespace Go.Proofs.Tryz
attribute [local simp] eqKV eqA eqA0 eqH eqB eqL eqL0
noncomputable def K42:=Go.Sx.aA f42
noncomputable def K41:=Go.Sx.aA f41
noncomputable def K47:=Go.Sx.aA f47
def KJ(n:Nat):Ctr:=ctrP true (λp:Con×Con=>[p.1.conA,p.2.conA]) (λp=>p.1.nodes<n/\p.1.big<2^40) (λp r=>(r=true↔p.1=p.2)) (λ_ (r:Bool)=>(.bool r,[]))
def eqfK(n:Nat):Ctr:=ctrP true (λp:List Con×List Con=>[Con.conS p.1,Con.conS p.2,.fn 13 [] []]) (λp=>Con.zw p.1<n/\Con.bigs p.1<2^40) (λp r=>(r=true↔p.1=p.2)) (λ_ (r:Bool)=>(.bool r,[]))
def SEk(s t:List Con)(i:Nat):KV:=[(1,Con.conS t),(2,.fn 13 [] []),(15,Con.conS s),(16,.i (s.length:Int)),(17,.i (i:Int))]
theorem zqz(n:Nat)(ih:zd prog 13 (KJ n)):zd prog 42 (eqfK n):=by
 refine zf' f42 λp hp O w0 Q hq=> ?_
 obtain⟨s,t⟩:=p;obtain⟨h1,h2⟩:=hp;simp only at h1 h2 hq;have hlen:=Con.xT s;refine zb.n (jb ih) [1,2,15,16,17] (.N ((s.length:Int)=t.length) (.R [.bool false] []) (.leaf (.loop (lps K42 0).1 (lps K42 0).2 [(1,.sl t.length 12 (Con.conG t)),(2,.fn 13 [] []),(15,.sl s.length 12 (Con.conG s)),(16,.i s.length),(17,.i 0)] []))) ?_;simp only [Tree.holds,ze,inR,lo,hi,aD];refine⟨λh=> ?_,λh=> ?_⟩
 ·refine RetR.scal (hq false ⟨λh=>(by cases h),λhe=> ?_⟩) rfl (by simp [resV]);subst he;simp at h
 ·have hl:s.length=t.length:=by
   by_cases e1:s.length=t.length
   ·exact e1
   ·rw [aW (show ¬ ((s.length:Nat):Int)=t.length by omega)] at h;cases h
  refine zb.loop (ι:={i:Nat // i<=s.length/\∀ j,j<i->s.getD j Con.nil=t.getD j Con.nil}) (λi=>SEk s t i.1) (λ_=>[]) (λi=>s.length - i.1) ⟨0,aI _,λj hj=>by omega⟩ 0 ?_ ?_ (by kernel_rfl)
  ·exact⟨by simp [SEk,Con.conS,za],by simp,by kernel_rfl,aI _⟩
  ·rintro⟨i,hil,hib⟩;refine zb.n (jb ih) [1,2,15,16,17] (let v3:=t.getD (i:Int).toNat Con.nil;let v2:=s.getD (i:Int).toNat Con.nil;let v1:List Blk:=[.box (Con.wK v2),.box (Con.wK v3)];.D ((i:Int)<s.length) (.side ((0:Int)<=i/\(i:Int)<s.length) (.side ((0:Int)<=i/\(i:Int)<t.length) (.ex (λ(x:Con×Con)=>eqL [(Con.conD v2),(Con.conD v3)] [(Con.conA x.1),(Con.conA x.2)]/\Con.nodes x.1<n/\Con.big x.1<1099511627776) λn=>.all (λ(r:Bool)=>r=true↔n.1=n.2) λn=>.ite (!n) (.R [.bool false] v1) (.S (i+1) (.leaf (.back 0 [(1,.sl t.length 12 (Con.conG t)),(2,.fn 13 [] []),(15,.sl s.length 12 (Con.conG s)),(16,.i s.length),(17,.i (i+1))] v1)))))) (.R [.bool true] [])) ?_;simp only [Tree.holds,ze,inR,lo,hi,aD];refine⟨λhlt=> ?_,λhge=> ?_⟩
   ·have hlt:i<s.length:=by have:=aB hlt; omega
    have g1:=Con.qD hlt;have g2:=Con.kS hlt;refine⟨by omega,λ_=>⟨by omega,λ_=>⟨(s.getD i Con.nil,t.getD i Con.nil),⟨⟨jM _,jM _,trivial⟩,by simp only; omega,by simp only; omega⟩,wV _,?_⟩⟩⟩;intro e he;simp only at he;refine⟨λg=> ?_,λg=>⟨by omega,λ_=> ?_⟩⟩
    ·refine RetR.scal (hq false ⟨λh=>(by cases h),λh3=> ?_⟩) rfl (by simp [resV]);have:e=true:=he.2 (by rw [h3]);rw [this] at g; cases g
    ·rw [aP trivial];have g:e=true:=by simpa using g
     refine⟨⟨i+1,hlt,λj hj=> ?_⟩,by show s.length - (i+1)<s.length - i; omega,by simp [SEk,Con.conS,za],by simp,by kernel_rfl,aI _⟩;rcases aR j i with h1 | h1
     ·exact hib j h1
     ·have:j=i:=by omega
      rw [this]; exact he.1 g
   ·have hge:i=s.length:=by have:=aC hge; omega
    subst hge;exact RetR.scal (hq true ⟨λ_=>Con.kX hl hib,λ_=>rfl⟩) rfl (by simp [resV])
def SIe(l m:List Int)(i:Nat):KV:=[(0,Con.dayS l),(1,Con.dayS m),(12,.i (l.length:Int)),(13,.i (i:Int))]
def eqIC:Ctr:=ctrP true (λp:List Int×List Int=>[Con.dayS p.1,Con.dayS p.2]) (λp=>p.1.length<2^40) (λp r=>(r=true↔p.1=p.2)) (λ_ (r:Bool)=>(.bool r,[]))
theorem zsk:zd prog 41 eqIC:=by
 refine zf' f41 λp hp O w0 Q hq=> ?_
 obtain⟨l,m⟩:=p;replace hp:l.length<2^40:=hp;refine zb.n zC [0,1,12,13] (.N ((l.length:Int)=m.length) (.R [.bool false] []) (.leaf (.loop (lps K41 0).1 (lps K41 0).2 [(0,.sl l.length 1 (Con.dayG l)),(1,.sl m.length 1 (Con.dayG m)),(12,.i l.length),(13,.i 0)] []))) ?_;simp only [Tree.holds,ze,inR,lo,hi,aD];refine⟨λh=> ?_,λh=> ?_⟩
 ·refine RetR.scal (hq false ⟨λh=>(by cases h),λhe=> ?_⟩) rfl (by simp [resV]);simp only at he;subst he;simp at h
 ·have hl:l.length=m.length:=by simp at h; omega
  refine zb.loop (ι:={i:Nat // i<=l.length/\∀ j,j<i->l.getD j 0=m.getD j 0}) (λi=>SIe l m i.1) (λ_=>[]) (λi=>l.length - i.1) ⟨0,aI _,λj hj=>by omega⟩ 0 ?_ ?_ (by kernel_rfl)
  ·exact⟨by simp [SIe,Con.dayS,za],trivial,by kernel_rfl,aI _⟩
  ·rintro⟨i,hil,hib⟩;refine zb.n zC [0,1,12,13] (.D ((i:Int)<l.length) (.side ((0:Int)<=i/\(i:Int)<l.length) (.side ((0:Int)<=i/\(i:Int)<m.length) (.N (l.getD (i:Int).toNat (0:Int)=List.getD m (i:Int).toNat (0:Int)) (.R [.bool false] []) (.S (i+1) (.leaf (.back 0 [(0,.sl l.length 1 (Con.dayG l)),(1,.sl m.length 1 (Con.dayG m)),(12,.i l.length),(13,.i (i+1))] [])))))) (.R [.bool true] [])) ?_;simp only [Tree.holds,ze,inR,lo,hi,aD];refine⟨λhlt=> ?_,λhge=> ?_⟩
   ·have hlt:i<l.length:=by have:=aB hlt; omega
    refine⟨by omega,λ_=>⟨by omega,λ_=>⟨λg=> ?_,λg=>⟨by omega,λ_=> ?_⟩⟩⟩⟩
    ·refine RetR.scal (hq false ⟨λh=>(by cases h),λh3=> ?_⟩) rfl (by simp [resV]);simp only at h3;subst h3; simp at g
    ·have g:l.getD i 0=m.getD i 0:=by simpa using g
     rw [aP trivial];refine⟨⟨i+1,hlt,λj hj=> ?_⟩,by show l.length - (i+1)<l.length - i; omega,by simp [SIe,Con.dayS,za],trivial,by kernel_rfl,aI _⟩;rcases aR j i with h1 | h1
     ·exact hib j h1
     ·have:j=i:=by omega
      rw [this]; exact g
   ·have hge:i=l.length:=by have:=aC hge; omega
    subst hge;refine RetR.scal (hq true ⟨λ_=> ?_,λ_=>rfl⟩) rfl (by simp [resV]);apply List.ext_getElem hl;intro j g1 g2;have:=hib j g1;simpa [List.getD,g1,g2] using this
noncomputable def GSk0:=tb zh5 (tb zsk tz)
noncomputable def GSkn(n:Nat):Nat->Option Ctr:=λf=>if f=42 then some (eqfK n) else GSk0.g f
theorem znf{n:Nat}(ih:zd prog 13 (KJ n)):∀ g c,GSkn n g=some c->zd prog g c:=λg c h=>by
 unfold GSkn at h;split at h
 ·rename_i e; cases h; subst e; exact zqz n ih
 ·exact GSk0.h g c h
theorem zbc(n:Nat)(ih:zd prog 13 (KJ n)):zd prog 13 (KJ (n+1)):=by
 refine zf' f13 λp hp O w0 Q hq=> ?_
 obtain⟨a,b⟩:=p;obtain⟨h1,h2⟩:=hp;simp only at h1 h2 hq;refine zb.n (znf ih) [] (let v5:=Con.dst a=Con.dst b;let v4:=Con.src a=Con.src b;let v3:=Con.date a=Con.date b;let v2:=Con.name a=Con.name b;let v1:=Con.kind a=Con.kind b;.ex (λ(x:Ex×Ex)=>(bif bif bif bif decide v1 then decide v4 else false then decide v5 else false then decide v2 else false then decide v3 else false)=true->q32 [(Ex.exA a.x),(Ex.exA b.x)] x) λn_1=>.all (λ(x:Bool)=>(bif bif bif bif decide v1 then decide v4 else false then decide v5 else false then decide v2 else false then decide v3 else false)=true->(x=true↔n_1.1=n_1.2)) λn_2=>.ex (λ(x:List Int×List Int)=>(bif bif bif bif bif decide v1 then decide v4 else false then decide v5 else false then decide v2 else false then decide v3 else false then n_2 else false)=true->q33 [.sl a.days.length 1 (Con.dayG a.days),.sl b.days.length 1 (Con.dayG b.days)] x) λn_3=>.all (λ(x:Bool)=>(bif bif bif bif bif decide v1 then decide v4 else false then decide v5 else false then decide v2 else false then decide v3 else false then n_2 else false)=true->(x=true↔n_3.1=n_3.2)) λn_4=>.ex (λ(x:List Con×List Con)=>(bif bif bif bif bif bif decide v1 then decide v4 else false then decide v5 else false then decide v2 else false then decide v3 else false then n_2 else false then n_4 else false)=true->eqL [.sl a.sub.length 12 (Con.conG a.sub),.sl b.sub.length 12 (Con.conG b.sub),.fn 13 [] []] [.sl x.1.length 12 (Con.conG x.1),.sl x.2.length 12 (Con.conG x.2),.fn 13 [] []]/\Con.zw x.1<n/\Con.bigs x.1<1099511627776) λn=>.all (λ(x:Bool)=>(bif bif bif bif bif bif decide v1 then decide v4 else false then decide v5 else false then decide v2 else false then decide v3 else false then n_2 else false then n_4 else false)=true->(x=true↔n.1=n.2)) λn=>.R [.bool (bif bif bif bif bif bif bif decide v1 then decide v4 else false then decide v5 else false then decide v2 else false then decide v3 else false then n_2 else false then n_4 else false then n else false)] [.box (Con.zc a),.box (Con.zc b)]) ?_;simp only [q32,q33,Tree.holds,ze,inR,lo,hi,aD];have hb:=h2;rw [Con.vS] at hb;rw [Con.jg] at h1;refine⟨(a.x,b.x),λ_=>⟨⟨qJ a.x,qJ b.x,trivial⟩,by simp only; omega⟩,(wV _).imp λ_ h _=>h,λe1 g1=> ?_⟩;refine⟨(a.days,b.days),λ_=>⟨by simp [za],by simp only; omega⟩,(wV _).imp λ_ h _=>h,λe2 g2=> ?_⟩;refine⟨(a.sub,b.sub),λ_=>⟨by simp [za],by simp only; omega,by simp only; omega⟩,(wV _).imp λ_ h _=>h,λe3 g3=> ?_⟩;refine RetR.scal (hq _ ?_) rfl (by simp only [resV]; rfl);rw [Con.xH];by_cases q1:a.kind=b.kind
 ·by_cases q2:a.src=b.src
  ·by_cases q3:a.dst=b.dst
   ·by_cases q4:a.name=b.name
    ·by_cases q5:a.date=b.date
     ·simp only [q1,q2,q3,q4,q5,decide_true,cond_true,true_and] at g1 g2 g3 ⊢;replace g1:=g1 trivial;cases e1 with
      | false=>simp only [cond_false]; exact⟨λh=>(by cases h),λh=>by have:=g1.2 h.1; cases this⟩
      | true=>
       simp only [cond_true] at g2 g3 ⊢;replace g2:=g2 trivial;cases e2 with
       | false=>simp only [cond_false]; exact⟨λh=>(by cases h),λh=>by have:=g2.2 h.2.1; cases this⟩
       | true=>
        simp only [cond_true] at g3 ⊢;replace g3:=g3 trivial;exact⟨λh=>⟨g1.1 rfl,g2.1 rfl,g3.1 h⟩,λh=>g3.2 h.2.2⟩
     ·simp [q5]
    ·simp [q4]
   ·simp [q3]
  ·simp [q2]
 ·simp [q1]
def YC:Ctr:=ctrP true (λp:Con×Con=>[p.1.conA,p.2.conA]) (λp=>p.1.big<2^40) (λp r=>(r=true↔p.1=p.2)) (λ_ (r:Bool)=>(.bool r,[]))
theorem zkk:zd prog 13 YC:=qj (λp=>p.1.nodes) zbc
def Vj(x:Con):Prop:=x.nodes<=1000/\x.big<2^38/\x.size<2^21
def zbm(n:Nat):Ctr:=ctrP true (λx:Con=>[x.conA]) (λx=>x.nodes<n/\Vj x) (λx r=>r<=2^60+100000*x.nodes) (λ_ (r:Nat)=>(.i (r:Int),[]))
def SWk(m i:Nat):KV:=[(1,.ptr 0 0),(3,.i (m:Int)),(4,.i (i:Int)),Z 20,Z 21]
noncomputable def GWk0:=tb YJ tz
noncomputable def GWkc(n:Nat):Nat->Option Ctr:=λf=>if f=47 then some (zbm n) else GWk0.g f
theorem zbk{n:Nat}(ih:zd prog 47 (zbm n)):∀ g c,GWkc n g=some c->zd prog g c:=λg c h=>by
 unfold GWkc at h;split at h
 ·rename_i e; cases h; subst e; exact ih
 ·exact GWk0.h g c h
theorem zgb(n:Nat)(ih:zd prog 47 (zbm n)):zd prog 47 (zbm (n+1)):=by
 refine zf' f47 λx hp O w0 Q hq=> ?_
 obtain⟨hxn,hle,hbg,hsz⟩:=hp;refine zb.n (zbk ih) [1,3,4,20,21] (.ex (q26 [(Ex.exA x.x)]) λn=>.all (λ(r:Nat)=>r=Ex.size n) λn=>.S ((n:Int)*max (1:Int) (x.days.length:Int)) (.S ((1:Int)+n*max (1:Int) (x.days.length:Int)) (.leaf (.loop (lps K47 0).1 (lps K47 0).2 [(1,.ptr 0 0),(3,.i ((1:Int)+n*max (1:Int) (x.days.length:Int))),(4,.i 0),Z 20,Z 21] [.box (Con.zc x)])))) ?_;simp only [q26,Tree.holds,ze,inR,lo,hi,aD];have hbig:=Con.vS x;have hnod:=Con.jg x;have hsze:=Con.size_eq x;have hxs:=Ca.zmr x.x;have hW:x.x.size*max 1 x.days.length<=2^21*2^38:=Nat.mul_le_mul (by omega) (by omega);refine⟨x.x,⟨⟨qJ x.x,trivial⟩,by omega⟩,⟨_,rfl⟩,?_⟩;rintro _ rfl;obtain⟨W,hWe⟩:∃ W,x.x.size*max 1 x.days.length=W:=⟨_,rfl⟩;have e1:(x.x.size:Int)*max 1 (x.days.length:Int)=(W:Int):=by rw [<- hWe]; simp only [Int.natCast_mul]; congr 1; omega
 rw [hWe] at hW;simp only [e1];refine⟨by omega,λ_=>⟨by omega,λ_=> ?_⟩⟩;refine zb.loop (ι:={q:Nat×Nat // q.2<=x.sub.length/\q.1<=2^60+100000*(1+Con.zw (x.sub.take q.2))}) (λq=>SWk q.1.1 q.1.2) (λ_=>[.box x.zc]) (λq=>x.sub.length - q.1.2) ⟨(1+W,0),aI _,by simp only [List.take_zero,Con.zw]; omega⟩ 0 ?_ ?_ (by kernel_rfl)
 ·exact⟨by simp [SWk],⟨zu x,trivial⟩,by kernel_rfl,aI _⟩
 ·rintro⟨⟨m,i⟩,h1,h2⟩;simp only at h1 h2;refine zb.n (zbk ih) [1,3,4,20,21] (.ite (bif decide ((i:Int)<(x.sub.length:Int)) then decide ((m:Int)<100000) else false) (.side ((0:Int)<=i/\(i:Int)<(x.sub.length:Int)) (.ex (λ(x_1:Con)=>eqL [(Con.conD (List.getD x.sub (i:Int).toNat Con.nil))] [(Con.conA x_1)]/\Con.nodes x_1<n/\Vj x_1) λn=>.all (λ(r:Nat)=>r<=1152921504606846976+100000*Con.nodes n) λn=>.S ((m:Int)+n) (.S (i+1) (.leaf (.back 0 [(1,.ptr 0 0),(3,.i ((m:Int)+n)),(4,.i (i+1)),Z 20,Z 21] [.box (Con.zc x)]))))) (.R [.i m] [.box (Con.zc x)])) ?_;simp only [Tree.holds,ze,inR,lo,hi,aD];have hlt2:=Con.ZG x.sub i;refine⟨λhlt=> ?_,λhge=> ?_⟩
  ·have hlt1:i<x.sub.length/\m<100000:=by
    by_cases g1:i<x.sub.length
    ·by_cases g2:m<100000
     ·exact⟨g1,g2⟩
     ·rw [aW (show ¬ (m:Int)<100000 by omega)] at hlt;cases hx:decide ((i:Int)<x.sub.length)<;>rw [hx] at hlt<;>cases hlt
    ·rw [aW (show ¬ (i:Int)<x.sub.length by omega)] at hlt;cases hlt
   obtain⟨hlt,hm⟩:=hlt1;have g1:=Con.qD hlt;have g2:=Con.wZ hlt;have g3:=Con.kS hlt;have g4:=Con.zH hlt;refine⟨by omega,λ_=>⟨x.sub.getD i Con.nil,⟨⟨jM _,trivial⟩,by omega,by omega,by omega,by omega⟩,⟨0,aI _⟩,?_⟩⟩;intro r hr;have hlb:=Con.xd x.sub;refine⟨by omega,λ_=>⟨by omega,λ_=> ?_⟩⟩;rw [aP trivial];exact⟨⟨(m+r,i+1),hlt,by simp only; omega⟩,by show x.sub.length - (i+1)<x.sub.length - i; omega,by simp [SWk],⟨zu x,trivial⟩,by kernel_rfl,aI _⟩
  ·exact RetR.scal (hq m (by omega)) rfl (by simp [resV])
def zbl:Ctr:=ctrP true (λx:Con=>[x.conA]) Vj (λx r=>r<=2^60+100000*x.nodes) (λ_ (r:Nat)=>(.i (r:Int),[]))
theorem zpl:zd prog 47 zbl:=qj Con.nodes zgb
def zkz:Ctr:=ctrP true (λp:Con×(List Fx×List Ch)=>[p.1.conA,envA p.2.1 p.2.2]) (λp=>Vj p.1/\p.2.1.length<=2000/\p.2.2.length<=2000) (λ_ (_:Bool)=>True) (λ_ (r:Bool)=>(.bool r,[]))
noncomputable def GHv:=tb zpl tz
theorem zho:zd prog 18 zkz:=by
 refine zf' f18 λp hp O w0 Q hq=> ?_
 obtain⟨c,f,h⟩:=p;obtain⟨hw,hf,hh⟩:=hp;simp only at hw hf hh;have hn:=hw.1;refine zb.n GHv.h [] (.ex (λ(x:Con)=>eqL [(Con.conA c)] [(Con.conA x)]/\Vj x) λn=>.all (λ(r:Nat)=>r<=1152921504606846976+100000*Con.nodes n) λn=>.side (decide ((60000:Int)<n)=false->inR .i64 ((10:Int)+f.length)) (.side (decide ((60000:Int)<n)=false->inR .i64 ((10:Int)+f.length+(h.length:Int))) (.side (decide ((60000:Int)<n)=false->inR .i64 ((n:Int)*((10:Int)+f.length+(h.length:Int)))) (.R [.bool (bif decide ((60000:Int)<n) then true else decide ((600000:Int)<n*((10:Int)+f.length+(h.length:Int))))] [.box (Con.zc c),.box [.sl f.length 3 (fxG f),.sl h.length 4 (chG h)]])))) ?_;simp only [Tree.holds,ze,inR,lo,hi,aD];refine⟨c,⟨⟨zL c,trivial⟩,hw⟩,⟨0,aI _⟩,λr hr=> ?_⟩;refine⟨λ_=>by omega,λ_=>⟨λ_=>by omega,λ_=>⟨λg=> ?_,λ_=>RetR.scal (hq (bif decide (60000<(r:Int)) then true else decide (600000<(r:Int)*(10+(f.length:Int)+(h.length:Int)))) trivial) rfl (by simp [resV])⟩⟩⟩;have g:¬ 60000<(r:Int):=aC g;obtain⟨K,hK⟩:∃ K,10+f.length+h.length=K:=⟨_,rfl⟩;have e1:(10:Int)+f.length+h.length=(K:Int):=by omega
 have hm:r*K<=60000*4010:=Nat.mul_le_mul (by omega) (by omega);have e2:(r:Int)*(K:Int)=((r*K:Nat):Int):=(Int.natCast_mul r K).symm;rw [e1,e2];omega
end Go.Proofs.Tryz
end
section
namespace Go.Nov
open Go.Sx
namespace Tm
def turn(d:Deal):Deal:=⟨d.short,d.long,d.ccy,d.name,d.ZQ,d.V2⟩
end Tm
end Go.Nov
end
section
namespace Go.Nov
open Go.Sx
theorem uP{α:Type}{s:List α}{v w:α}{i:Nat}(h:i<s.length):(s++[v]).getD i w=s.getD i w:=by simp [List.getD,bT,h]
theorem VB{α:Type}{s:List α}{v w:α} : (s++[v]).getD s.length w=v:=by simp [List.getD]
theorem zld{s:List Ver}{d:Int}{c:Con}(hs:okV s=true)(hc:c.errC=0)(hd:ku d=true)(hl:(s.getD (s.length - 1) Ver.nil).day<d)(hn:s.length≠100):okV (s++[⟨d,c⟩])=true:=by
 have hlen:=xg hs;refine zjf (by simp) (by simp; omega) λi hi=> ?_
 simp only [bO,List.length_singleton] at hi;rw [YV];by_cases h:i<s.length
 ·have:=YV.1 (zlg hs h);rw [uP h,uP (show i - 1<s.length by omega)];exact this
 ·have e:i=s.length:=by omega
  subst e;rw [VB,uP (show s.length - 1<s.length by omega)];refine⟨?_,.inr hl,hc⟩;unfold ku at hd;simpa using hd
theorem zca{s:List Ver}{d:Int}{c:Con}(h:(chgV s d c).2=0):okV s=true/\c.errC=0/\ku d=true/\(s.getD (s.length - 1) Ver.nil).day<d/\s.length≠100/\chgV s d c=(s++[⟨d,c⟩],0):=by
 unfold chgV at h ⊢;split at h
 ·rename_i g; exact absurd h g
 rename_i g1;split at h
 ·rename_i g; exact absurd h g
 rename_i g2;split at h
 ·cases h
 rename_i g3;split at h
 ·cases h
 rename_i g4;split at h
 ·cases h
 rename_i g5;rw [aO g1,aO g2,aO g3,aO g4,aO g5];exact⟨kh.1 (by omega),by omega,by simpa using g3,by omega,g5,rfl⟩
theorem zo7{s:List Ver}{d:Int}{c:Con}(h:(chgV s d c).2≠0):(chgV s d c).1=[]:=by
 unfold chgV at h ⊢;by_cases g1:errV s≠0
 ·rw [aP g1]
 by_cases g2:c.errC≠0
 ·rw [aO g1,aP g2]
 by_cases g3:ku d=false
 ·rw [aO g1,aO g2,aP g3]
 by_cases g4:d<=(s.getD (s.length - 1) Ver.nil).day
 ·rw [aO g1,aO g2,aO g3,aP g4]
 by_cases g5:s.length=100
 ·rw [aO g1,aO g2,aO g3,aO g4,aP g5]
 ·rw [aO g1,aO g2,aO g3,aO g4,aO g5] at h;exact absurd rfl h
theorem zfx{s:List Ver}{d:Int}{c:Con}(hs:(chgV s d c).2=0):undV (s++[⟨d,c⟩])=(s,0):=by
 obtain⟨a1,a2,a3,a4,a5,_⟩:=zca hs;have hlen:=xg a1;unfold undV;have e:(s++[(⟨d,c⟩:Ver)]).length=s.length+1:=by simp
 rw [aO (λg=>g (kh.2 (zld a1 a2 a3 a4 a5))),e,aO (by omega)];simp
def zcs(s:List Ver):Prop:=s.length<2^45/\∀ i,(s.getD i Ver.nil).con.thin
theorem zmf:Con.nil.thin:=by
 rw [Con.nil,Con.thin]; refine⟨by decide,by decide,by decide,?_,by decide,by decide,?_⟩
 ·rw [Ex.nil,Ex.thin]; exact⟨by decide,by decide,by rw [Ex.jL]; trivial⟩
 ·rw [Con.jL]; trivial
def zct(s:List Ver):Prop:=s.length<=110/\(∀ i,(s.getD i Ver.nil).con.nodes<=600/\(s.getD i Ver.nil).con.big<=1900000)/\(s.length<=6\/∀ i,i<s.length->(s.getD i Ver.nil).con.kind=1)
theorem zlu{s:List Ver}(h0:s.length<=110)(h:∀ i,i<s.length->((s.getD i Ver.nil).con.nodes<=600/\(s.getD i Ver.nil).con.big<=1900000)/\(s.length<=6\/(s.getD i Ver.nil).con.kind=1)):zct s:=by
 refine⟨h0,λi=> ?_,?_⟩
 ·by_cases hi:i<s.length
  ·exact(h i hi).1
  ·have:s.getD i Ver.nil=Ver.nil:=by simp [List.getD,hi]
   rw [this]; exact⟨by decide,by decide⟩
 ·by_cases h6:s.length<=6
  ·exact .inl h6
  ·exact .inr λi hi=>(h i hi).2.resolve_left h6
end Go.Nov
end
section
set_option maxRecDepth 100000
open Go Go.Sx Go.Proofs Go.Nov
namespace Go.Proofs.Tryz
attribute [local simp] eqKV eqA eqA0 eqH eqB eqL eqL0
def payK(d:Int)(a b r:L8):Con:=Tm.at_ d (.mk 2 a b [85,83,68] (Tm.kon r) 0 [] [])
def zii:Ctr:=ctrP false (λp:Fl=>[.i p.date,.str p.src,.str p.dst,.str p.amt]) (λ_=>True) (λ_ (_:Unit)=>True) (λp _=>((payK p.date p.src p.dst p.amt).conD,[]))
theorem zd0:zd prog 34 zii:=by
 refine zf' f34 λp hp O w0 Q hq=> ?_
 obtain⟨d,a,b,n,r⟩:=p;replace hq:=hq () trivial;simp only at hq;refine zb.n zC [] (let v2:List AV:=[.int .u8 2,.str a,.str b,.str #[(85:UInt8),(83:UInt8),(68:UInt8)].toList,.int .u8 1,.str r,.str #[].toList,.i 0,.nils,.i 0,.nils,.nils];let v1:List AV:=[.int .u8 6,.str #[].toList,.str #[].toList,.str #[].toList,.int .u8 0,.str #[].toList,.str #[].toList,.i 0,.nils,.i d,.nils,.osl 2 12 0 1];.R [.agg v1] [.box v1,.box v2,.arr 1 12 (zh 12 v2)]) ?_;simp only [Tree.holds,ze];exact RetR.le0 hq (λh=>by cases h) (LeA.agg ⟨LeA.refl _,LeA.refl _,LeA.refl _,LeA.refl _,LeA.refl _,LeA.refl _,LeA.refl _,LeA.refl _,LeA.nils,LeA.refl _,LeA.nils,Con.zn2 (e:=.mk 2 a b [85,83,68] (Tm.kon r) 0 [] []) ⟨LeA.refl _,LeA.refl _,LeA.refl _,LeA.refl _,LeA.refl _,LeA.refl _,LeA.refl _,LeA.refl _,LeA.nils,LeA.refl _,LeA.nils,LeA.nils,trivial⟩,trivial⟩)
theorem Con.zpn{x y:Con}{k d:Int}{a b n:L8}{z:Ex}{l:List Int}{c:List AV}(h:LeL c (x.wK++y.wK)):LeA (.sl 2 12 (zg (zh 12 c) 0)) (.sl 2 12 (Con.mk k a b n z d l [x,y]).deep):=by
 refine LeA.sl rfl λj o hj ho=> ?_
 rw [Con.zJ (Con.mk k a b n z d l [x,y]) j o (by show j<2; omega) ho];have:=LeL.dAt (j*12+o) h;simp only [zg,zh,Nat.zero_add];rcases(show j=0\/j=1 by omega) with rfl | rfl<;>rcases(show o=0\/o=1\/o=2\/o=3\/o=4\/o=5\/o=6\/o=7\/o=8\/o=9\/o=10\/o=11 by omega) with rfl | rfl | rfl | rfl | rfl | rfl | rfl | rfl | rfl | rfl | rfl | rfl<;>exact this
def sAnn:L8:=[65,110,110]
def sBob:L8:=[66,111,98]
def cE1:Con:=payK 10 sAnn sBob [49]
def cE2:Con:=payK 20 sAnn sBob [50]
def cE3:Con:=payK 20 sBob sAnn [55]
def cE0:Con:=Tm.both cE1 cE2
def zk1:Ctr:=ctrP false (λ_:Unit=>[]) (λ_=>True) (λ_ (_:Unit)=>True) (λ_ _=>(cE0.conD,[]))
noncomputable def GBv:=tb zd0 tz
abbrev q58(A:List AV)(x:Fl):Prop:=eqL A [.i x.date,.str x.src,.str x.dst,.str x.amt]/\True
theorem zmd:zd prog 33 zk1:=by
 refine zf' f33 λp hp O w0 Q hq=> ?_
 replace hq:=hq () trivial;refine zb.n GBv.h [] (let v3:List AV:=[.int .u8 3,.str #[].toList,.str #[].toList,.str #[].toList,.int .u8 0,.str #[].toList,.str #[].toList,.i 0,.nils,.i 0,.nils,.osl 1 12 0 2];.ex (q58 [.i 10,.str #[(65:UInt8),(110:UInt8),(110:UInt8)].toList,.str #[(66:UInt8),(111:UInt8),(98:UInt8)].toList,.str #[(49:UInt8)].toList]) λn=>let v2:=payK n.date n.src n.dst n.amt;.A λn_1=>.ex (q58 [.i 20,.str #[(65:UInt8),(110:UInt8),(110:UInt8)].toList,.str #[(66:UInt8),(111:UInt8),(98:UInt8)].toList,.str #[(50:UInt8)].toList]) λn_2=>let v1:=payK n_2.date n_2.src n_2.dst n_2.amt;.A λn_3=>.R [.agg v3] [.box v3,.arr 2 12 (zh 12 [.int .u8 (Con.kind v2),.str (Con.src v2),.str (Con.dst v2),.str (Con.name v2),.int .u8 (Ex.kind (Con.x v2)),.str (Ex.rat (Con.x v2)),.str (Ex.name (Con.x v2)),.i (Ex.date (Con.x v2)),.sl (List.length (Ex.sub (Con.x v2))) 5 (Ex.exG (Ex.sub (Con.x v2))),.i (Con.date v2),.sl (List.length (Con.days v2)) 1 (Con.dayG (Con.days v2)),.sl (List.length (Con.sub v2)) 12 (Con.deep v2),.int .u8 (Con.kind v1),.str (Con.src v1),.str (Con.dst v1),.str (Con.name v1),.int .u8 (Ex.kind (Con.x v1)),.str (Ex.rat (Con.x v1)),.str (Ex.name (Con.x v1)),.i (Ex.date (Con.x v1)),.sl (List.length (Ex.sub (Con.x v1))) 5 (Ex.exG (Ex.sub (Con.x v1))),.i (Con.date v1),.sl (List.length (Con.days v1)) 1 (Con.dayG (Con.days v1)),.sl (List.length (Con.sub v1)) 12 (Con.deep v1)])]) ?_;simp only [q58,Tree.holds,ze];refine⟨⟨10,sAnn,sBob,[],[49]⟩,⟨⟨⟨rfl,rfl⟩,rfl,rfl,rfl,trivial⟩,trivial⟩,⟨(),trivial⟩,λ_ _=>⟨⟨20,sAnn,sBob,[],[50]⟩,⟨⟨⟨rfl,rfl⟩,rfl,rfl,rfl,trivial⟩,trivial⟩,⟨(),trivial⟩,λ_ _=> ?_⟩⟩;exact RetR.le0 hq (λh=>by cases h) (LeA.agg ⟨LeA.refl _,LeA.refl _,LeA.refl _,LeA.refl _,LeA.refl _,LeA.refl _,LeA.refl _,LeA.refl _,LeA.nils,LeA.refl _,LeA.nils,Con.zpn (x:=cE1) (y:=cE2) (LeL.refl _),trivial⟩)
def exV:List Ver:=[⟨5,cE0⟩,⟨15,cE3⟩]
theorem zqy:newV cE0 5=([⟨5,cE0⟩],0):=by kernel_rfl
theorem zgp:chgV [⟨5,cE0⟩] 15 cE3=(exV,0):=by kernel_rfl
theorem zpp:flV exV [] []=([⟨10,sAnn,sBob,[85,83,68],[49]⟩,⟨20,sBob,sAnn,[85,83,68],[55]⟩],0):=by kernel_rfl
theorem zay:fitC cE0:=⟨by decide +kernel,by decide +kernel⟩
theorem zaj:fitC cE3:=⟨by decide +kernel,by decide +kernel⟩
theorem jT(c:Con):eqA c.conD c.conA:=by
 simp only [Con.conD,Con.outD,Con.conA,eqA];exact⟨⟨rfl,rfl⟩,rfl,rfl,rfl,⟨rfl,rfl⟩,rfl,rfl,⟨rfl,rfl⟩,⟨rfl,rfl,λ_ _ _ _=>rfl⟩,⟨rfl,rfl⟩,⟨rfl,rfl,λ_ _ _ _=>rfl⟩,⟨rfl,rfl,Con.zJ c⟩,trivial⟩
def VC:Ctr:=ctrP false (λ_:Unit=>[]) (λ_=>True) (λ_ (_:Unit)=>True) (λ_ _=>(.tup [verA exV,.bool true],[]))
noncomputable def GEv:=tb zd0 (tb zmd (tb zp4 (tb zc8 tz)))
abbrev q59(A:List AV)(x:List Ver×Int×Con):Prop:=eqL A [.agg [.sl x.1.length 13 (verG x.1)],.i x.2.1,(Con.conA x.2.2)]/\x.1.length<1073741824/\fitV x.1/\fitC x.2.2
theorem Y9:zd prog 30 VC:=by
 refine zf' f30 λp hp O w0 Q hq=> ?_
 replace hq:=hq () trivial;refine zb.n GEv.h [] (let v1:=q58 [.i 20,.str #[(66:UInt8),(111:UInt8),(98:UInt8)].toList,.str #[(65:UInt8),(110:UInt8),(110:UInt8)].toList,.str #[(55:UInt8)].toList];.ex (λ(x:Unit)=>eqL [] []/\True) λn=>.A λn=>.ex (λ(x:Con×Int)=>eqL [.agg [.int .u8 3,.str cE0.src,.str cE0.dst,.str cE0.name,.int .u8 0,.str (Ex.rat cE0.x),.str (Ex.name cE0.x),.i 0,.sl 0 5 (Ex.exG (Ex.sub cE0.x)),.i 0,.sl 0 1 (Con.dayG cE0.days),.sl 2 12 (Con.deep cE0)],.i 5] [(Con.conA x.1),.i x.2]/\fitC x.1) λn=>.all (λ(r:List Ver×Int)=>r=newV n.1 n.2) λn=>let v7:=[AV.sl n.1.length 13 (verG n.1)];let v6:List AV:=[.sl n.1.length 13 (verG n.1)];.all (λ(x:Bool)=>True) λn_1=>.ite n_1 (.ex v1 λn_2=>let v2:=q59 [.agg v7,.i 15,(Con.conD (payK n_2.date n_2.src n_2.dst n_2.amt))];.A λn_3=>.all (λ(x:Bool)=>True) λn_4=>.ite n_4 (.ex v2 λn_5=>.all (λ(r:List Ver×Int)=>r=chgV n_5.1 n_5.2.1 n_5.2.2) λn_6=>let v3:List AV:=[.sl n_6.1.length 13 (verG n_6.1)];.R [.agg v3,.bool (bif decide (n.2=0) then decide (n_6.2=0) else false)] [.box v3,.box v6,.box v3]) (.ex v2 λn_5=>.all (λ(r:List Ver×Int)=>r=chgV n_5.1 n_5.2.1 n_5.2.2) λn_6=>let v4:List AV:=[.sl n_6.1.length 13 (verG n_6.1)];.R [.agg v4,.bool (bif decide (n.2=0) then decide (n_6.2=0) else false)] [.box v4,.box v6,.box v4])) (.ex v1 λn_2=>.A λn_3=>.ex (q59 [.agg v7,.i 15,(Con.conD (payK n_2.date n_2.src n_2.dst n_2.amt))]) λn_4=>.all (λ(r:List Ver×Int)=>r=chgV n_4.1 n_4.2.1 n_4.2.2) λn_5=>let v5:List AV:=[.sl n_5.1.length 13 (verG n_5.1)];.R [.agg v5,.bool (bif decide (n.2=0) then decide (n_5.2=0) else false)] [.box v5,.box v6,.box v5])) ?_;simp only [q58,q59,Tree.holds,ze]
 have fit1:fitV [(⟨5,cE0⟩:Ver)]:=λi hi=>by
  have:i=0:=by simp at hi; omega
  subst this; exact zay
 refine⟨(),⟨trivial,trivial⟩,⟨(),trivial⟩,λ_ _=> ?_⟩;refine⟨(cE0,5),⟨⟨jT cE0,⟨rfl,rfl⟩,trivial⟩,zay⟩,⟨_,rfl⟩,?_⟩;rintro _ rfl;simp only [zqy];refine⟨⟨true,trivial⟩,λb _=>⟨λ_=> ?_,λ_=> ?_⟩⟩
 all_goals refine⟨⟨20,sBob,sAnn,[],[55]⟩,⟨⟨⟨rfl,rfl⟩,rfl,rfl,rfl,trivial⟩,trivial⟩,⟨(),trivial⟩,λ_ _=> ?_⟩
 ·refine⟨⟨true,trivial⟩,λb _=>⟨λ_=> ?_,λ_=> ?_⟩⟩
  all_goals
   refine⟨([⟨5,cE0⟩],15,cE3),⟨⟨qt _,⟨rfl,rfl⟩,jT cE3,trivial⟩,by decide,fit1,zaj⟩,⟨_,rfl⟩,?_⟩;rintro _ rfl;simp only [zgp,decide_true,cond_true];exact RetR.le0 hq (λh=>by cases h) (LeA.refl _)
 ·refine⟨([⟨5,cE0⟩],15,cE3),⟨⟨qt _,⟨rfl,rfl⟩,jT cE3,trivial⟩,by decide,fit1,zaj⟩,⟨_,rfl⟩,?_⟩;rintro _ rfl;simp only [zgp,decide_true,cond_true];exact RetR.le0 hq (λh=>by cases h) (LeA.refl _)
def zl3:Ctr:=ctrP true (λp:Fl=>[.i p.date,.str p.src,.str p.dst,.str p.amt]) (λ_=>True) (λ_ (_:Unit)=>True) (λp _=>(.agg [.i p.date,.str p.src,.str p.dst,.str [85,83,68],.str p.amt],[]))
theorem zk7:zd prog 32 zl3:=by
 refine zf' f32 λp hp O w0 Q hq=> ?_
 obtain⟨d,a,b,n,r⟩:=p;replace hq:=hq () trivial;simp only at hq;refine zb.n zC [] (.R [.agg [.i d,.str a,.str b,.str #[(85:UInt8),(83:UInt8),(68:UInt8)].toList,.str r]] [.box [.i d,.str a,.str b,.str #[(85:UInt8),(83:UInt8),(68:UInt8)].toList,.str r]]) ?_;simp only [Tree.holds,ze];exact RetR.out0 hq (λ_=>by simp [resV,new2,new1,new0,qA]) (by simp [resV,exp2,exp1,exp0,ren0,eqA2])
theorem env0:envP ([],[]):=⟨by decide,by decide,λj hj=>absurd hj (Nat.not_lt_zero _),λj hj=>absurd hj (Nat.not_lt_zero _)⟩
structure GvA where
 s:List Ver
 l:List Fl
def zk9:Ctr:=ctrP true (λp:GvA=>[verA p.s,flS p.l]) (λp=>p.s.length<2^30/\fitV p.s/\((flV p.s [] []).1.length<2^40)) (λp r=>(r=true↔(flV p.s [] [])=(p.l,0))) (λ_ (r:Bool)=>(.bool r,[]))
noncomputable def GGv:=tb zsg (tb zl0 tz)
theorem zj4:zd prog 31 zk9:=by
 refine zf' f31 λp hp O w0 Q hq=> ?_
 obtain⟨s,l⟩:=p;obtain⟨h1,h2,h3⟩:=hp;simp only at h1 h2 h3 hq;refine zb.n GGv.h [] (.ex (λ(x:FvA)=>eqL [.agg [.sl s.length 13 (verG s)],.agg [AV.nils,AV.nils]] [.agg [.sl x.s.length 13 (verG x.s)],.agg [.sl x.f.length 3 (fxG x.f),.sl x.h.length 4 (chG x.h)]]/\List.length x.s<1073741824/\fitV x.s/\envP (FvA.f x,FvA.h x)) λn=>.all (λ(r:List Fl×Int)=>r=flV n.s n.f n.h) λn=>.ex (λ(x:List Fl×List Fl)=>decide (n.2=0)=true->eqL [.sl n.1.length 5 (flG n.1),.sl l.length 5 (flG l)] [.sl x.1.length 5 (flG x.1),.sl x.2.length 5 (flG x.2)]/\x.1.length<1099511627776) λn_1=>.all (λ(x:Bool)=>decide (n.2=0)=true->(x=true↔n_1.1=n_1.2)) λn_2=>.R [.bool (bif decide (n.2=0) then n_2 else false)] [.box [.sl s.length 13 (verG s)]]) ?_;simp only [Tree.holds,ze];refine⟨⟨s,[],[]⟩,⟨⟨qt _,by simp [envA,fxS,chS],trivial⟩,h1,h2,env0⟩,⟨_,rfl⟩,?_⟩;rintro _ rfl;simp only;generalize flV s [] []=m at h3 hq ⊢;refine⟨(m.1,l),λ_=>⟨⟨⟨rfl,rfl,za _ _ _⟩,⟨rfl,rfl,za _ _ _⟩,trivial⟩,h3⟩,(wV _).imp λ_ h _=>h,λb hb=> ?_⟩;refine RetR.scal (hq (bif decide (m.2=0) then b else false) ?_) rfl (by simp [resV]);simp only at hb;by_cases h0:m.2=0
 ·rw [aX h0,cond_true,hb (aX h0)];exact⟨λh=>by rw [<- h,<- h0],λh=>by rw [h]⟩
 ·rw [aW h0,cond_false];exact⟨λh=>(by cases h),λh=>absurd (by rw [h]) h0⟩
def zcz:Ctr:=ctrP true (λ_:Unit=>[]) (λ_=>True) (λ_ r=>r=true) (λ_ (r:Bool)=>(.bool r,[]))
noncomputable def GAv:=tb Y9 (tb zj4 (tb zk7 tz))
abbrev q60(A:List AV)(x:GvA):Prop:=eqL A [.agg [.sl x.s.length 13 (verG x.s)],.sl x.l.length 5 (flG x.l)]/\List.length x.s<1073741824/\fitV x.s/\List.length (Prod.fst (flV x.s [] []))<1099511627776
theorem zex:zd prog 9 zcz:=by
 refine zf' f9 λp hp O w0 Q hq=> ?_
 replace hq:=hq true rfl;refine zb.n GAv.h [] (.ex (λ(x:Unit)=>eqL [] []/\True) λn=>.A λn=>.ex (λ(x:Fl)=>true=true->q58 [.i 10,.str #[(65:UInt8),(110:UInt8),(110:UInt8)].toList,.str #[(66:UInt8),(111:UInt8),(98:UInt8)].toList,.str #[(49:UInt8)].toList] x) λn=>.all (λ(x:Unit)=>true=true->True) λn_1=>.ex (λ(x:Fl)=>true=true->q58 [.i 20,.str #[(66:UInt8),(111:UInt8),(98:UInt8)].toList,.str #[(65:UInt8),(110:UInt8),(110:UInt8)].toList,.str #[(55:UInt8)].toList] x) λn_2=>.all (λ(x:Unit)=>true=true->True) λn_3=>.ite true (.ex (λ(x:GvA)=>true=true->q60 [.agg [.sl 2 13 (verG exV)],.sl 2 5 (zg (zh 5 [.i n.date,.str n.src,.str n.dst,.str [(85:UInt8),(83:UInt8),(68:UInt8)],.str n.amt,.i n_2.date,.str n_2.src,.str n_2.dst,.str [(85:UInt8),(83:UInt8),(68:UInt8)],.str n_2.amt]) 0)] x) λn_4=>.all (λ(x:Bool)=>true=true->(x=true↔flV n_4.s [] []=(GvA.l n_4,(0:Int)))) λn_5=>.R [.bool (bif true then n_5 else false)] [.box [.sl 2 13 (verG exV)],.arr 2 5 (zh 5 [.i n.date,.str n.src,.str n.dst,.str [(85:UInt8),(83:UInt8),(68:UInt8)],.str n.amt,.i n_2.date,.str n_2.src,.str n_2.dst,.str [(85:UInt8),(83:UInt8),(68:UInt8)],.str n_2.amt])]) (.ex (λ(x:GvA)=>true=true->q60 [.agg [.sl 2 13 (verG exV)],AV.nils] x) λn=>.all (λ(x:Bool)=>true=true->(x=true↔flV n.s [] []=(GvA.l n,(0:Int)))) λn=>.R [.bool (bif true then n else false)] [.box [.sl 2 13 (verG exV)]])) ?_;simp only [q58,q60,Tree.holds,ze]
 have fit:fitV exV:=λi hi=>by
  have:i=0\/i=1:=by have:i<2:=hi; omega
  rcases this with rfl | rfl
  ·exact zay
  ·exact zaj
 refine⟨(),⟨trivial,trivial⟩,⟨(),trivial⟩,λ_ _=>⟨⟨10,sAnn,sBob,[],[49]⟩,λ_=>⟨⟨⟨rfl,rfl⟩,rfl,rfl,rfl,trivial⟩,trivial⟩,⟨(),λ_=>trivial⟩,λ_ _=>⟨⟨20,sBob,sAnn,[],[55]⟩,λ_=>⟨⟨⟨rfl,rfl⟩,rfl,rfl,rfl,trivial⟩,trivial⟩,⟨(),λ_=>trivial⟩,λ_ _=>⟨λ_=> ?_,λh=>(by cases h)⟩⟩⟩⟩;refine⟨⟨exV,[⟨10,sAnn,sBob,[85,83,68],[49]⟩,⟨20,sBob,sAnn,[85,83,68],[55]⟩]⟩,λ_=>⟨⟨qt exV,⟨rfl,rfl,λj o hj ho=> ?_⟩,trivial⟩,by decide,fit,by rw [zpp]; decide⟩,(wV _).imp λ_ h _=>h,λb hb=> ?_⟩
 ·rcases(show j=0\/j=1 by omega) with rfl | rfl<;>rcases(show o=0\/o=1\/o=2\/o=3\/o=4 by omega) with rfl | rfl | rfl | rfl | rfl<;>rfl
 ·obtain rfl:b=true:=(hb trivial).2 zpp;exact RetR.scal hq rfl (by simp [resV])
noncomputable def K17:=Go.Sx.aA f17
noncomputable def K10:=Go.Sx.aA f10
def zlz(s:List Ver):Prop:=s.length<2^40/\∀ i,(s.getD i Ver.nil).con.big<2^40
def zgj:Ctr:=ctrP true (λp:List Ver×List Ver=>[verA p.1,verA p.2]) (λp=>zlz p.1) (λp r=>(r=true↔p.1=p.2)) (λ_ (r:Bool)=>(.bool r,[]))
noncomputable def GVs:=tb zm3 tz
def SVs(i:Nat):KV:=[(2,.ptr 0 0),(3,.ptr 1 0),(5,.i (i:Int)),Z 34,Z 35,Z 36,Z 37,Z 38,Z 39,Z 40,Z 41,Z 42,Z 43,Z 44,Z 45,Z 46,Z 47]
def HVs(s t:List Ver):Heap:=[.box [.sl s.length 13 (verG s)],.box [.sl t.length 13 (verG t)]]
theorem zh6:zd prog 17 zgj:=by
 refine zf' f17 λp hp O w0 Q hq=> ?_
 obtain⟨s,t⟩:=p;obtain⟨h1,h2⟩:=hp;simp only at h1 h2 hq;refine zb.n GVs.h [2,3,5,34,35,36,37,38,39,40,41,42,43,44,45,46,47] (let v1:List Blk:=[.box [.sl s.length 13 (verG s)],.box [.sl t.length 13 (verG t)]];.N ((s.length:Int)=t.length) (.R [.bool false] v1) (.leaf (.loop (lps K17 0).1 (lps K17 0).2 [(2,.ptr 0 0),(3,.ptr 1 0),(5,.i 0),Z 34,Z 35,Z 36,Z 37,Z 38,Z 39,Z 40,Z 41,Z 42,Z 43,Z 44,Z 45,Z 46,Z 47] v1))) ?_;simp only [Tree.holds,ze,inR,lo,hi,aD];refine⟨λh=> ?_,λh=> ?_⟩
 ·refine RetR.scal (hq false ⟨λh=>(by cases h),λhe=> ?_⟩) rfl (by simp [resV]);subst he;simp at h
 ·have hl:s.length=t.length:=by simp at h; omega
  refine zb.loop (ι:={i:Nat // i<=s.length/\∀ j,j<i->(s.getD j Ver.nil).day=(t.getD j Ver.nil).day/\(s.getD j Ver.nil).con=(t.getD j Ver.nil).con}) (λi=>SVs i.1) (λ_=>HVs s t) (λi=>s.length - i.1) ⟨0,aI _,λj hj=>by omega⟩ 0 ?_ ?_ (by kernel_rfl)
  ·exact⟨by simp [SVs],⟨⟨⟨rfl,rfl,za _ _ _⟩,trivial⟩,⟨⟨rfl,rfl,za _ _ _⟩,trivial⟩,trivial⟩,by kernel_rfl,aI _⟩
  ·rintro⟨i,hil,hib⟩;refine zb.n GVs.h [2,3,5,34,35,36,37,38,39,40,41,42,43,44,45,46,47] (let v4:=t.getD (i:Int).toNat Ver.nil;let v3:=s.getD (i:Int).toNat Ver.nil;let v2:List Blk:=[.box [.sl s.length 13 (verG s)],.box [.sl t.length 13 (verG t)]];let v1:=Ver.day v3=Ver.day v4;.D ((i:Int)<s.length) (.side ((0:Int)<=i/\(i:Int)<s.length) (.side ((0:Int)<=i/\(i:Int)<t.length) (.side ((!decide v1)=false->(0:Int)<=i/\(i:Int)<s.length) (.side ((!decide v1)=false->(0:Int)<=i/\(i:Int)<t.length) (.ex (λ(x:Con×Con)=>(!decide v1)=false->eqL [(Con.conD v3.con),(Con.conD v4.con)] [(Con.conA x.1),(Con.conA x.2)]/\Con.big x.1<1099511627776) λn=>.all (λ(x:Bool)=>(!decide v1)=false->(x=true↔n.1=n.2)) λn=>.ite (bif !decide v1 then true else !n) (.R [.bool false] v2) (.S (i+1) (.leaf (.back 0 [(2,.ptr 0 0),(3,.ptr 1 0),(5,.i (i+1)),Z 34,Z 35,Z 36,Z 37,Z 38,Z 39,Z 40,Z 41,Z 42,Z 43,Z 44,Z 45,Z 46,Z 47] v2)))))))) (.R [.bool true] v2)) ?_;simp only [Tree.holds,ze,inR,lo,hi,aD];refine⟨λhlt=> ?_,λhge=> ?_⟩
   ·have hlt:i<s.length:=by have:=aB hlt; omega
    refine⟨by omega,λ_=>⟨by omega,λ_=>⟨λ_=>by omega,λ_=>⟨λ_=>by omega,λ_=> ?_⟩⟩⟩⟩;refine⟨((s.getD i Ver.nil).con,(t.getD i Ver.nil).con),λ_=>⟨⟨jT _,jT _,trivial⟩,h2 i⟩,(wV _).imp λ_ h _=>h,λb hb=> ?_⟩;simp only at hb;by_cases hd:(s.getD i Ver.nil).day=(t.getD i Ver.nil).day
    ·have hb:=hb (by rw [aX hd]; rfl);rw [aX hd];cases b with
     | false=>
      refine⟨λ_=>RetR.scal (hq false ⟨λh=>(by cases h),λhe=> ?_⟩) rfl (by simp [resV]),λh=>(by cases h)⟩;have:=hb.2 (by rw [he]); cases this
     | true=>
      refine⟨λh=>(by cases h),λ_=>⟨by omega,λ_=> ?_⟩⟩;rw [aP trivial];refine⟨⟨i+1,hlt,λj hj=> ?_⟩,by show s.length - (i+1)<s.length - i; omega,by simp [SVs],⟨⟨⟨rfl,rfl,za _ _ _⟩,trivial⟩,⟨⟨rfl,rfl,za _ _ _⟩,trivial⟩,trivial⟩,by kernel_rfl,aI _⟩;rcases aR j i with g1 | g1
      ·exact hib j g1
      ·have:j=i:=by omega
       rw [this]; exact⟨hd,hb.1 rfl⟩
    ·rw [aW hd];refine⟨λ_=>RetR.scal (hq false ⟨λh=>(by cases h),λhe=> ?_⟩) rfl (by simp [resV]),λh=>(by cases h)⟩;rw [he] at hd; exact absurd rfl hd
   ·have hge:i=s.length:=by have:=aC hge; omega
    subst hge;exact RetR.scal (hq true ⟨λ_=>zgi hl hib,λ_=>rfl⟩) rfl (by simp [resV])
def zc7:Ctr:=ctrP true (λp:FvA=>[verA p.s,envA p.f p.h]) (λp=>zcs p.s/\zih (p.f,p.h)) (λp r=>r=false->fitP (p.f,p.h)/\zct p.s) (λ_ (r:Bool)=>(.bool r,[]))
noncomputable def GVg:=tb zk8 (tb Vo (tb zho tz))
def SVg(i:Nat):KV:=[(2,.ptr 0 0),(3,.ptr 1 0),(5,.i (i:Int)),Z 31,Z 32,Z 33,Z 36,Z 37,Z 38,Z 39,Z 40,Z 41,Z 42,Z 43,Z 44,Z 45,Z 46,Z 47,Z 48,Z 49,Z 50]
def HVg(s:List Ver)(f:List Fx)(h:List Ch):Heap:=[.box [.sl s.length 13 (verG s)],.box [.sl f.length 3 (fxG f),.sl h.length 4 (chG h)]]
theorem zgc:zd prog 10 zc7:=by
 refine zf' f10 λp hp O w0 Q hq=> ?_
 obtain⟨s,f,h⟩:=p;obtain⟨⟨h1,h2⟩,h3⟩:=hp;simp only at h1 h2 h3 hq;refine zb.n GVg.h [2,3,5,31,32,33,36,37,38,39,40,41,42,43,44,45,46,47,48,49,50] (let v1:List Blk:=[.box [.sl s.length 13 (verG s)],.box [.sl f.length 3 (fxG f),.sl h.length 4 (chG h)]];.ex (λ(x:List Fx×List Ch)=>eqL [.agg [.sl f.length 3 (fxG f),.sl h.length 4 (chG h)]] [.agg [.sl x.1.length 3 (fxG x.1),.sl x.2.length 4 (chG x.2)]]/\x.1.length<1152921504606846976/\x.2.length<1152921504606846976/\(∀ (j:Nat),j<x.1.length->zi2 (List.getD x.1 j Fx.nil))/\∀ (j:Nat),j<x.2.length->zbn (List.getD x.2 j Ch.nil)) λn=>.all (λ(r:Bool)=>r=false->fitP n) λn=>.ite (bif n then true else decide ((110:Int)<s.length)) (.R [.bool true] v1) (.leaf (.loop (lps K10 0).1 (lps K10 0).2 [(2,.ptr 0 0),(3,.ptr 1 0),(5,.i 0),Z 31,Z 32,Z 33,Z 36,Z 37,Z 38,Z 39,Z 40,Z 41,Z 42,Z 43,Z 44,Z 45,Z 46,Z 47,Z 48,Z 49,Z 50] v1))) ?_;simp only [Tree.holds,ze,inR,lo,hi,aD];refine⟨(f,h),⟨⟨⟨⟨rfl,rfl,za _ _ _⟩,⟨rfl,rfl,za _ _ _⟩,trivial⟩,trivial⟩,h3⟩,⟨true,λh=>by cases h⟩,λb hb=>⟨λ_=>RetR.scal (hq true λh=>by cases h) rfl (by simp [resV]),λg=> ?_⟩⟩
 have hfit:fitP (f,h):=by
  cases b with
  | false=>exact hb rfl
  | true=>cases g
 have hn:s.length<=110:=by
  cases b with
  | false=>have:=aC g; omega
  | true=>cases g
 refine zb.loop (ι:={i:Nat // i<=s.length/\∀ j,j<i->((s.getD j Ver.nil).con.nodes<=600/\(s.getD j Ver.nil).con.big<=1900000)/\(s.length<=6\/(s.getD j Ver.nil).con.kind=1)}) (λi=>SVg i.1) (λ_=>HVg s f h) (λi=>s.length - i.1) ⟨0,aI _,λj hj=>by omega⟩ 0 ?_ ?_ (by kernel_rfl)
 ·exact⟨by simp [SVg],⟨⟨⟨rfl,rfl,za _ _ _⟩,trivial⟩,⟨⟨rfl,rfl,za _ _ _⟩,⟨rfl,rfl,za _ _ _⟩,trivial⟩,trivial⟩,by kernel_rfl,aI _⟩
 ·rintro⟨i,hil,hib⟩;refine zb.n GVg.h [2,3,5,31,32,33,36,37,38,39,40,41,42,43,44,45,46,47,48,49,50] (let v3:List AV:=[.sl f.length 3 (fxG f),.sl h.length 4 (chG h)];let v1:=Ver.con (s.getD (i:Int).toNat Ver.nil);let v2:List Blk:=[.box [.sl s.length 13 (verG s)],.box v3,.box (Con.wK v1)];.D ((i:Int)<s.length) (.side ((0:Int)<=i/\(i:Int)<s.length) (.ex (λ(x:Con)=>eqL [(Con.conD v1)] [(Con.conA x)]/\Con.thin x) λn=>.all (λ(r:Bool)=>r=false->Con.nodes n<=600/\Con.big n<=1900000) λn=>.ex (λ(x:Con×List Fx×List Ch)=>n=false->eqL [(Con.conD v1),.agg [.sl f.length 3 (fxG f),.sl h.length 4 (chG h)]] [(Con.conA x.1),.agg [.sl x.2.1.length 3 (fxG x.2.1),.sl x.2.2.length 4 (chG x.2.2)]]/\Vj x.1/\x.2.1.length<=2000/\x.2.2.length<=2000) λn_1=>.all (λ(x:Bool)=>n=false->True) λn_2=>.ite (bif bif n then true else n_2 then true else bif decide ((6:Int)<s.length) then bif decide ((s.length:Int)<99) then true else !decide (Con.kind v1=(1:Int)) else false) (.R [.bool true] v2) (.S (i+1) (.leaf (.back 0 [(2,.ptr 0 0),(3,.ptr 1 0),(5,.i (i+1)),Z 31,Z 32,Z 33,Z 36,Z 37,Z 38,Z 39,Z 40,Z 41,Z 42,Z 43,Z 44,Z 45,Z 46,Z 47,Z 48,Z 49,Z 50] v2))))) (.R [.bool false] [.box [.sl s.length 13 (verG s)],.box v3])) ?_;simp only [Tree.holds,ze,inR,lo,hi,aD];refine⟨λhlt=> ?_,λhge=> ?_⟩
  ·have hlt:i<s.length:=by have:=aB hlt; omega
   have hth:=h2 i;have hlf:=hfit.1;have hlh:=hfit.2.1;refine⟨by omega,λ_=>⟨(s.getD i Ver.nil).con,⟨⟨jT _,trivial⟩,hth⟩,⟨true,λh=>by cases h⟩,λb1 hb1=> ?_⟩⟩;refine⟨((s.getD i Ver.nil).con,(f,h)),λe=>⟨⟨jT _,⟨⟨rfl,rfl,za _ _ _⟩,⟨rfl,rfl,za _ _ _⟩,trivial⟩,trivial⟩,?_,by show f.length<=2000; simp only at hlf; omega,by show h.length<=2000; simp only at hlh; omega⟩,⟨true,λ_=>trivial⟩,λb2 _=>⟨λ_=>RetR.scal (hq true λh=>by cases h) rfl (by simp [resV]),λg2=> ?_⟩⟩
   ·obtain⟨w1,w2⟩:=hb1 e;have w3:=Con.XW (s.getD i Ver.nil).con;exact⟨by show(s.getD i Ver.nil).con.nodes<=1000; omega,by show(s.getD i Ver.nil).con.big<2^38; omega,by show(s.getD i Ver.nil).con.size<2^21; omega⟩
   ·have hb0:b1=false:=by
     cases b1 with
     | false=>rfl
     | true=>cases g2
    subst hb0;obtain⟨w1,w2⟩:=hb1 rfl
    have w3:s.length<=6\/(s.getD i Ver.nil).con.kind=1:=by
     by_cases h6:s.length<=6
     ·exact .inl h6
     ·right;rw [aX (show(6:Int)<s.length by omega)] at g2;cases b2 with
      | true=>cases g2
      | false=>
       by_cases h99:(s.length:Int)<99
       ·rw [aX h99] at g2; cases g2
       ·rw [aW h99] at g2;simpa using g2
    refine⟨by omega,λ_=> ?_⟩;rw [aP trivial];refine⟨⟨i+1,hlt,λj hj=> ?_⟩,by show s.length - (i+1)<s.length - i; omega,by simp [SVg],⟨⟨⟨rfl,rfl,za _ _ _⟩,trivial⟩,⟨⟨rfl,rfl,za _ _ _⟩,⟨rfl,rfl,za _ _ _⟩,trivial⟩,trivial⟩,by kernel_rfl,aI _⟩;rcases aR j i with g1 | g1
    ·exact hib j g1
    ·have:j=i:=by omega
     rw [this]; exact⟨⟨w1,w2⟩,w3⟩
  ·have hge:i=s.length:=by have:=aC hge; omega
   subst hge;exact RetR.scal (hq false λ_=>⟨hfit,zlu hn hib⟩) rfl (by simp [resV])
theorem zmk{s:List Ver}(h:zct s):s.length<=110/\fitV s/\zlz s:=by
 obtain⟨h1,h2,h3⟩:=h;exact⟨h1,λi _=>⟨by have:=(h2 i).2; omega,by have:=(h2 i).1; omega⟩,by omega,λi=>by have:=(h2 i).2; omega⟩
theorem zt7:zih ([],[]):=⟨by decide,by decide,λj hj=>absurd hj (Nat.not_lt_zero _),λj hj=>absurd hj (Nat.not_lt_zero _)⟩
structure zsx where
 s:List Ver
 d:Int
 c:Con
def zsj:Ctr:=ctrP true (λp:zsx=>[verA p.s,.i p.d,p.c.conA]) (λp=>zcs p.s/\p.c.thin) (λ_ r=>r=true) (λ_ (r:Bool)=>(.bool r,[]))
noncomputable def GAu:=tb zex (tb zgc (tb Vo (tb zc8 (tb ZE (tb zkk (tb zom (tb zh6 tz)))))))
theorem zlq:zd prog 4 zsj:=by
 refine zf' f4 λp hp O w0 Q hq=> ?_
 obtain⟨s,d,c⟩:=p;replace hq:=hq true rfl;simp only at hp hq;obtain⟨hp1,hp2⟩:=hp;refine zb.n GAu.h [] (let v6:List AV:=[.sl s.length 13 (verG s)];let v4:=[AV.sl s.length 13 (verG s)];.ex (λ(x:Unit)=>eqL [] []/\True) λn=>.all (λ(r:Bool)=>r=true) λn=>.ex (λ(x:FvA)=>eqL [.agg v4,.agg [AV.nils,AV.nils]] [.agg [.sl x.s.length 13 (verG x.s)],.agg [.sl x.f.length 3 (fxG x.f),.sl x.h.length 4 (chG x.h)]]/\zcs x.s/\zih (FvA.f x,FvA.h x)) λn_1=>.all (λ(r:Bool)=>r=false->fitP (FvA.f n_1,FvA.h n_1)/\zct n_1.s) λn_2=>.ex (λ(x:Con)=>n_2=false->eqL [(Con.conA c)] [(Con.conA x)]/\Con.thin x) λn_3=>.all (λ(x:Bool)=>n_2=false->x=false->Con.nodes n_3<=600/\Con.big n_3<=1900000) λn_4=>.ite (bif bif n_2 then true else n_4 then true else !n) (.R [.bool n] [.box v6,.box (Con.zc c)]) (.ex (q59 [.agg v4,.i d,(Con.conA c)]) λn_5=>.all (λ(r:List Ver×Int)=>r=chgV n_5.1 n_5.2.1 n_5.2.2) λn_6=>let v5:=[AV.agg [.sl n_6.1.length 13 (verG n_6.1)]];let v3:=List.getD n_6.1 (Int.toNat s.length) Ver.nil;let v2:List Blk:=[.box v6,.box (Con.zc c),.box [.sl n_6.1.length 13 (verG n_6.1)]];let v1:=Ver.day v3=d;.N (n_6.2=0) (.R [.bool (bif n then decide ((↑n_6.1.length:Int)=0) else false)] v2) (.S (s.length+1) (.side ((!decide ((↑n_6.1.length:Int)=s.length+(1:Int)))=false->(0:Int)<=s.length/\(s.length:Int)<n_6.1.length) (.side ((bif !decide ((↑n_6.1.length:Int)=s.length+(1:Int)) then true else !decide v1)=false->(0:Int)<=s.length/\(s.length:Int)<n_6.1.length) (.ex (λ(x:Con×Con)=>(bif !decide ((↑n_6.1.length:Int)=s.length+(1:Int)) then true else !decide v1)=false->eqL [(Con.conD v3.con),(Con.conA c)] [(Con.conA x.1),(Con.conA x.2)]/\Con.big x.1<1099511627776) λn_7=>.all (λ(x:Bool)=>(bif !decide ((↑n_6.1.length:Int)=s.length+(1:Int)) then true else !decide v1)=false->(x=true↔n_7.1=n_7.2)) λn_8=>.ex (λ(x:List Ver)=>(bif bif !decide ((↑n_6.1.length:Int)=s.length+(1:Int)) then true else !decide v1 then true else !n_8)=false->eqL v5 [.agg [.sl x.length 13 (verG x)]]/\x.length<1099511627776/\fitV x) λn_9=>.all (λ(x:Int)=>(bif bif !decide ((↑n_6.1.length:Int)=s.length+(1:Int)) then true else !decide v1 then true else !n_8)=false->x=errV n_9) λn_10=>.ite (bif bif bif !decide ((↑n_6.1.length:Int)=s.length+(1:Int)) then true else !decide v1 then true else !n_8 then true else !decide (n_10=0)) (.R [.bool false] v2) (.ex (λ(x:List Ver)=>eqL v5 [.agg [.sl x.length 13 (verG x)]]/\x.length<1073741824/\fitV x) λn_11=>.all (λ(r:List Ver×Int)=>r=undV n_11) λn_12=>.ex (λ(x:List Ver×List Ver)=>(bif n then decide (n_12.2=0) else false)=true->eqL [.agg [.sl n_12.1.length 13 (verG n_12.1)],.agg v4] [.agg [.sl x.1.length 13 (verG x.1)],.agg [.sl x.2.length 13 (verG x.2)]]/\zlz x.1) λn_13=>.all (λ(x:Bool)=>(bif n then decide (n_12.2=0) else false)=true->(x=true↔n_13.1=n_13.2)) λn_14=>.R [.bool (bif bif n then decide (n_12.2=0) else false then n_14 else false)] [.box v6,.box (Con.zc c),.box [.sl n_6.1.length 13 (verG n_6.1)],.box [.sl n_12.1.length 13 (verG n_12.1)]]))))))) ?_;simp only [q59,Tree.holds,ze,inR,lo,hi,aD];refine⟨(),⟨trivial,trivial⟩,⟨true,rfl⟩,?_⟩;rintro _ rfl;refine⟨⟨s,[],[]⟩,⟨⟨qt s,by simp [envA,fxS,chS],trivial⟩,hp1,zt7⟩,⟨true,λh=>by cases h⟩,λb1 hb1=> ?_⟩;refine⟨c,λ_=>⟨⟨zL c,trivial⟩,hp2⟩,⟨true,λ_ h=>by cases h⟩,λb2 hb2=>⟨λ_=>RetR.scal hq rfl (by simp [resV]),λg=> ?_⟩⟩
 have g0:b1=false/\b2=false:=by
  cases b1<;>cases b2<;>first | exact⟨rfl,rfl⟩ | cases g
 obtain⟨rfl,rfl⟩:=g0;obtain⟨_,hfine⟩:=hb1 rfl;obtain⟨c1,c2⟩:=hb2 rfl rfl;simp only at hfine;obtain⟨hlen,hfit,hsz⟩:=zmk hfine;have hfc:fitC c:=⟨by omega,by omega⟩;refine⟨(s,d,c),⟨⟨qt s,⟨rfl,rfl⟩,zL c,trivial⟩,by show s.length<_; omega,hfit,hfc⟩,⟨_,rfl⟩,?_⟩;rintro _ rfl;simp only;refine⟨λh=> ?_,λh=> ?_⟩
 ·have he:(chgV s d c).2≠0:=λhe=>by rw [aX he] at h; cases h
  rw [zo7 he];exact RetR.scal hq rfl (by simp [resV])
 have he:(chgV s d c).2=0:=by
  by_cases he:(chgV s d c).2=0
  ·exact he
  ·rw [aW he] at h; cases h
 have hun:=zfx he;obtain⟨a1,a2,a3,a4,a5,a6⟩:=zca he;have hok:=zld a1 a2 a3 a4 a5;rw [a6];have hl:(s++[(⟨d,c⟩:Ver)]).length=s.length+1:=by simp
 have hg:(s++[(⟨d,c⟩:Ver)]).getD s.length Ver.nil=⟨d,c⟩:=VB
 have hft:fitV (s++[(⟨d,c⟩:Ver)]):=λi hi=>by
  by_cases h1:i<s.length
  ·rw [uP h1]; exact hfit i h1
  ·have:i=s.length:=by rw [hl] at hi; omega
   rw [this,hg]; exact hfc
 have hsl:=xg a1;generalize s++[(⟨d,c⟩:Ver)]=t at hl hg hft hok hun ⊢;have q1:decide (((t,(0:Int)).1.length:Int)=(s.length:Int)+1)=true:=by simp [hl]
 have q2:decide (((t,(0:Int)).1.getD s.length Ver.nil).day=d)=true:=aX (by show(t.getD s.length Ver.nil).day=d; rw [hg]);simp only [q1,q2,Bool.not_true,cond_false];refine⟨by omega,λ_=>⟨λ_=>by omega,λ_=>⟨λ_=>by omega,λ_=> ?_⟩⟩⟩;refine⟨(c,c),λ_=>⟨⟨?_,zL c,trivial⟩,by show c.big<_; omega⟩,⟨true,λ_=>by simp⟩,λb hb=> ?_⟩
 ·show eqA (Con.conD (t.getD s.length Ver.nil).con) c.conA;rw [hg]; exact jT c
 obtain rfl:b=true:=(hb trivial).2 rfl;refine⟨t,λ_=>⟨⟨qt t,trivial⟩,by rw [hl]; omega,hft⟩,⟨_,λ_=>rfl⟩,λe he=> ?_⟩;obtain rfl:e=errV t:=he rfl;rw [kh.2 hok];refine⟨λh=>(by cases h),λ_=> ?_⟩;refine⟨t,⟨⟨qt t,trivial⟩,by rw [hl]; omega,hft⟩,⟨_,rfl⟩,?_⟩;rintro _ rfl;rw [hun];refine⟨(s,s),λ_=>⟨⟨qt s,qt s,trivial⟩,hsz⟩,⟨true,λ_=>by simp⟩,λb hb=> ?_⟩;obtain rfl:b=true:=(hb rfl).2 rfl;exact RetR.scal hq rfl (by simp [resV])
end Go.Proofs.Tryz
end
section
namespace Go.Sx
variable [Stat]
open Go.RowKit (Below)
def E0:Nat->Prop:=Own (λ_=>False) []
theorem Kq(b:Nat):¬ E0 b:=by
 rintro(h | ⟨e,he,_⟩)
 ·exact h
 ·simp at he
def Tw(P:Program)(W:World)(t:TypeId)(cs:List Value):Prop:=∃ (H:Type) (enc:TypeId×Value->H) (base fuel:Nat) (d:DataW H) (ps:List MemPlace),DataW.trod enc P W base (λ_=>true) true fuel t cs=some (d,ps)/\∀ n∈d.weights P t,n<=reachBytes
section
variable {P:Program} {W:World} {t e:TypeId} {cs:List Value}
theorem Ju(ht:P.underlying t=some .string)(h:Tw P W t cs):∃ s:L8,cs=[.string ⟨s.toArray⟩]/\s.length<=reachBytes:=by
 obtain⟨H,enc,base,fuel,d,ps,h,hw⟩:=h;obtain⟨s,rfl,hx,_⟩:=DataW.trod_string ht h;cases hx;exact⟨s.data.toList,by simp,hw _ (by simp [DataW.weights])⟩
theorem uz{k:IntKind}(ht:P.underlying t=some (.int k))(h:Tw P W t cs):∃ n,cs=[.int k n]/\(Lit.int k n).wf=true:=by
 obtain⟨H,enc,base,fuel,d,ps,h,hw⟩:=h;obtain⟨n,rfl,hx,hwf⟩:=DataW.trod_int ht h;exact⟨n,rfl,hwf⟩
theorem V7{fs:Array Field}(ht:P.underlying t=some (.struct fs))(h:Tw P W t cs):cs.length=P.cellsOf t/\∀ (i:Nat) (f:Field),fs[i]?=some f->Tw P W f.type ((cs.drop f.offset).take (P.cellsOf f.type)):=by
 obtain⟨H,enc,base,fuel,d,ps,h,hw⟩:=h;obtain⟨xs,n,_,hx,hl,hlen,hf⟩:=DataW.trod_struct ht h;cases hx;refine⟨hl,λi f hfi=> ?_⟩;have hi:=hf i f hfi
 have hlt:i<xs.length:=by
  rw [hlen]; exact(aQ.1 hfi).1
 rw [aF hlt] at hi;refine⟨H,enc,base,n,xs[i].1,xs[i].2,hi,λm hm=>hw m ?_⟩;simp only [DataW.weights,ht];exact DataW.weights_mem_each (j:=i) (t:=f.type) (d:=xs[i].1) (by simp [hfi]) (by simp [hlt]) m hm
theorem kg{H:Type}{d:DataW H} : ∀ {l:List (DataW H)},d∈l->∀ n∈d.weights P e,n∈DataW.weightsAll P e l
 | x::l,hd,n,hn=>by
  simp only [DataW.weightsAll,bZ];rcases aM.1 hd with rfl | hd
  ·exact .inl hn
  ·exact .inr (kg hd n hn)
theorem zkw(ht:P.underlying t=some (.slice e))(h:Tw P W t cs):cs=[.slice none 0 0]\/∃ (a:Addr) (len cap:Nat),cs=[.slice (some a) len cap]/\len<=cap/\cap*P.bytesOf e<=reachBytes /\
  ∀ i,i<len->∃ cs',cs'.length=P.cellsOf e/\(∀ o,o<P.cellsOf e->W.cell? ((a.add (i*P.cellsOf e)).add o)=cs'[o]?)/\Tw P W e cs':=by
 obtain⟨H,enc,base,fuel,d,ps,h,hw⟩:=h;rcases DataW.trod_slice ht h with ⟨rfl,_⟩ | ⟨a,len,cap,elems,rest,n,_,rfl,hx,hb,hl,hm,hlen,hel,hsp,_⟩
 ·exact .inl rfl
 ·right;cases hx;obtain⟨hrl,_⟩:=hsp rfl;simp only [DataW.weights,ht] at hw;refine⟨a,len,cap,rfl,hl,?_,λi hi=> ?_⟩
  ·have:=hw _ (List.mem_cons_self);simp only [List.length_map,hlen,hrl] at this
   rwa [show len+(cap - len)=cap by omega] at this
  ·have h1:=hel i hi;have hlt:i<elems.length:=by rw [hlen]; exact hi
   rw [aF hlt,Option.bind_eq_some_iff] at h1;obtain⟨cs',h2,h3⟩:=h1;obtain⟨_,h4,h5⟩:=World.cells?_some h2;refine⟨cs',h4,h5,H,enc,base,n,elems[i].1,elems[i].2,h3,λm hm2=>hw m ?_⟩;simp only [aM,bZ];exact .inr (.inl (kg (d:=elems[i].1) (List.mem_map.2 ⟨elems[i],bK hlt,rfl⟩) m hm2))
theorem Vb{α:Type}(z:α)(cell:α->Nat->AV)(good:α->Prop){sz:Nat}(ht:P.underlying t=some (.slice e))(hsz:P.cellsOf e=sz)(hpos:0<sz)
  (hel:∀ cs',Tw P W e cs'->∃ x:α,good x/\∀ o,o<sz->∃ c,cs'[o]?=some c/\c.oneCell'=true/\Rep E0 W (cell x o) [] c) (h:Tw P W t cs) :
  ∃ (l:List α) (v:Value),cs=[v]/\(∀ x∈l,good x)/\l.length*P.bytesOf e<=reachBytes/\v.oneCell'=true/\Rep E0 W (.sl l.length sz λj=>cell (l.getD j z)) [] v:=by
 rcases zkw ht h with rfl | ⟨a,len,cap,rfl,hl,hw,hx⟩
 ·refine⟨[],_,rfl,by simp,by simp,rfl,?_⟩;simp only [Rep];exact⟨none,0,rfl,aJ _,.inl rfl⟩
 ·rw [hsz] at hx
  have hx2:∀ i,∃ x:α,i<len->good x/\∀ o,o<sz->∃ c,W.cell? ((a.add (i*sz)).add o)=some c/\c.oneCell'=true/\Rep E0 W (cell x o) [] c:=λi=>by
   by_cases hi:i<len
   ·obtain⟨cs',h1,h2,h3⟩:=hx i hi;obtain⟨x,hg,hc⟩:=hel cs' h3
    exact⟨x,λ_=>⟨hg,λo ho=>by
     obtain⟨c,g1,g2,g3⟩:=hc o ho;exact⟨c,by rw [h2 o ho,g1],g2,g3⟩⟩⟩
   ·exact⟨z,λh=>absurd h hi⟩
  obtain⟨f,hf⟩:=Classical.axiomOfChoice hx2;have hgd:∀ j,j<len->((List.range len).map f).getD j z=f j:=λj hj=>by simp [List.getD,hj]
  refine⟨(List.range len).map f,_,rfl,λx hxm=> ?_,?_,rfl,?_⟩
  ·obtain⟨i,hi,rfl⟩:=List.mem_map.1 hxm;exact(hf i (List.mem_range.1 hi)).1
  ·simp only [List.length_map,List.length_range];exact bP (aT _ hl) hw
  ·simp only [Rep,List.length_map,List.length_range];refine⟨some a,cap,rfl,hl,?_⟩;rcases bC len with h0 | h0
   ·exact .inl h0
   ·right
    have hspot:a.spot=none:=by
     obtain⟨c,g1,_⟩:=(hf 0 h0).2 0 hpos;have:=World.cell?_spot g1;simpa [Addr.add] using this
    refine⟨a,rfl,hspot,λj o hj ho=>⟨Kq _,?_⟩⟩;obtain⟨c,g1,g2,g3⟩:=(hf j hj).2 o ho;refine⟨c,?_,g2,by rw [hgd j hj]; exact g3⟩;rw [<- g1];obtain⟨b,off,spot⟩:=a;simp only at hspot;subst hspot;congr 1;simp only [Addr.add];split<;>split<;>simp_all<;>omega
theorem zg6{g:Nat}{fn:Func}{c:Code}(hf:P.funcs[g]?=some fn)(hb:fn.body=some c) (hn:(fn.name == "runtime.NumGoroutine")=false) {ctr:Ctr} (hok:zd P g ctr) {args:List AV} {vals:List Value}
  (hspec:(ctr.spec args []).holds λr=>r=(.bool true,[])) (hr:RepL E0 W args [] vals) (hst:kj E0 W):Calls P g vals.toArray W λe W'=>e = .returned (.bool true)/\Below W.heap.size W W':=by
 have hn':¬ fn.name = "runtime.NumGoroutine" :=by simpa using hn
 have hg:Good (λ_=>False) W []:=⟨λb h=>h.elim,λi e ad he=>by simp at he,hst⟩;have hh:HRep (Own (λ_=>False) []) W [] []:=⟨rfl,λi j e f a b he=>by simp at he,λi e a he=>by simp at he,λi e b he=>by simp at he⟩;rcases hok args [] _ hspec (λ_=>rfl) (λ_=>False) W [] vals hg hh hr with ⟨_,h⟩ | ⟨v,w',h,_⟩
 ·refine h.mono ?_;rintro e W' ⟨v,rfl,r,hs,Z',hq,h1,_,_,_,_,hx⟩;cases hq;simp only [Rep] at h1;subst h1;exact⟨rfl,hx.os,hx.tape,hx.output,hx.size,λk hk=>hx.keep k hk λ⟨e,he,_⟩=>by simp at he⟩
 ·simp [callFunc,hf,hn',hb] at h
end
end Go.Sx
end
section
namespace Go.Sx
variable [Stat]
def TwN(P:Program)(W:World)(fuel:Nat)(t:TypeId)(cs:List Value):Prop:=∃ (H:Type) (enc:TypeId×Value->H) (base:Nat) (d:DataW H) (ps:List MemPlace),DataW.trod enc P W base (λ_=>true) true fuel t cs=some (d,ps)/\∀ n∈d.weights P t,n<=reachBytes
section
variable {P:Program} {W:World} {t e:TypeId} {cs:List Value}
theorem TwN.tw{fuel:Nat}(h:TwN P W fuel t cs):Tw P W t cs:=by
 obtain⟨H,enc,base,d,ps,h,hw⟩:=h;exact⟨H,enc,base,fuel,d,ps,h,hw⟩
theorem Tw.twn(h:Tw P W t cs):∃ fuel,TwN P W fuel t cs:=by
 obtain⟨H,enc,base,fuel,d,ps,h,hw⟩:=h;exact⟨fuel,H,enc,base,d,ps,h,hw⟩
theorem QV{fuel:Nat}{fs:Array Field}(ht:P.underlying t=some (.struct fs))(h:TwN P W fuel t cs):cs.length=P.cellsOf t/\∃ n,n<fuel/\∀ (i:Nat) (f:Field),fs[i]?=some f->TwN P W n f.type ((cs.drop f.offset).take (P.cellsOf f.type)):=by
 obtain⟨H,enc,base,d,ps,h,hw⟩:=h;obtain⟨xs,n,hn,hx,hl,hlen,hf⟩:=DataW.trod_struct ht h;cases hx;refine⟨hl,n,by omega,λi f hfi=> ?_⟩;have hi:=hf i f hfi
 have hlt:i<xs.length:=by
  rw [hlen]; exact(aQ.1 hfi).1
 rw [aF hlt] at hi;refine⟨H,enc,base,xs[i].1,xs[i].2,hi,λm hm=>hw m ?_⟩;simp only [DataW.weights,ht];exact DataW.weights_mem_each (j:=i) (t:=f.type) (d:=xs[i].1) (by simp [hfi]) (by simp [hlt]) m hm
theorem zeh{fuel:Nat}(ht:P.underlying t=some (.slice e))(h:TwN P W fuel t cs):cs=[.slice none 0 0]\/∃ (a:Addr) (len cap n:Nat),n<fuel/\cs=[.slice (some a) len cap]/\len<=cap/\cap*P.bytesOf e<=reachBytes /\
  ∀ i,i<len->∃ cs',cs'.length=P.cellsOf e/\(∀ o,o<P.cellsOf e->W.cell? ((a.add (i*P.cellsOf e)).add o)=cs'[o]?)/\TwN P W n e cs':=by
 obtain⟨H,enc,base,d,ps,h,hw⟩:=h;rcases DataW.trod_slice ht h with ⟨rfl,_⟩ | ⟨a,len,cap,elems,rest,n,hn,rfl,hx,hb,hl,hm,hlen,hel,hsp,_⟩
 ·exact .inl rfl
 ·right;cases hx;obtain⟨hrl,_⟩:=hsp rfl;simp only [DataW.weights,ht] at hw;refine⟨a,len,cap,n,by omega,rfl,hl,?_,λi hi=> ?_⟩
  ·have:=hw _ (List.mem_cons_self);simp only [List.length_map,hlen,hrl] at this
   rwa [show len+(cap - len)=cap by omega] at this
  ·have h1:=hel i hi;have hlt:i<elems.length:=by rw [hlen]; exact hi
   rw [aF hlt,Option.bind_eq_some_iff] at h1;obtain⟨cs',h2,h3⟩:=h1;obtain⟨_,h4,h5⟩:=World.cells?_some h2;refine⟨cs',h4,h5,H,enc,base,elems[i].1,elems[i].2,h3,λm hm2=>hw m ?_⟩;simp only [aM,bZ];exact .inr (.inl (kg (d:=elems[i].1) (List.mem_map.2 ⟨elems[i],bK hlt,rfl⟩) m hm2))
theorem Je{α:Type}(z:α)(cell:α->Nat->AV)(good:α->Prop){sz fuel:Nat}(ht:P.underlying t=some (.slice e))(hsz:P.cellsOf e=sz)(hpos:0<sz)
  (hel:∀ n cs',n<fuel->TwN P W n e cs'->∃ x:α,good x/\∀ o,o<sz->∃ c,cs'[o]?=some c/\c.oneCell'=true/\Rep E0 W (cell x o) [] c) (h:TwN P W fuel t cs) :
  ∃ (l:List α) (v:Value),cs=[v]/\(∀ x∈l,good x)/\l.length*P.bytesOf e<=reachBytes/\v.oneCell'=true/\Rep E0 W (.sl l.length sz λj=>cell (l.getD j z)) [] v:=by
 rcases zeh ht h with rfl | ⟨a,len,cap,n,hn,rfl,hl,hw,hx⟩
 ·refine⟨[],_,rfl,by simp,by simp,rfl,?_⟩;simp only [Rep];exact⟨none,0,rfl,aJ _,.inl rfl⟩
 ·rw [hsz] at hx
  have hx2:∀ i,∃ x:α,i<len->good x/\∀ o,o<sz->∃ c,W.cell? ((a.add (i*sz)).add o)=some c/\c.oneCell'=true/\Rep E0 W (cell x o) [] c:=λi=>by
   by_cases hi:i<len
   ·obtain⟨cs',h1,h2,h3⟩:=hx i hi;obtain⟨x,hg,hc⟩:=hel n cs' hn h3
    exact⟨x,λ_=>⟨hg,λo ho=>by
     obtain⟨c,g1,g2,g3⟩:=hc o ho;exact⟨c,by rw [h2 o ho,g1],g2,g3⟩⟩⟩
   ·exact⟨z,λh=>absurd h hi⟩
  obtain⟨f,hf⟩:=Classical.axiomOfChoice hx2;have hgd:∀ j,j<len->((List.range len).map f).getD j z=f j:=λj hj=>by simp [List.getD,hj]
  refine⟨(List.range len).map f,_,rfl,λx hxm=> ?_,?_,rfl,?_⟩
  ·obtain⟨i,hi,rfl⟩:=List.mem_map.1 hxm;exact(hf i (List.mem_range.1 hi)).1
  ·simp only [List.length_map,List.length_range];exact bP (aT _ hl) hw
  ·simp only [Rep,List.length_map,List.length_range];refine⟨some a,cap,rfl,hl,?_⟩;rcases bC len with h0 | h0
   ·exact .inl h0
   ·right
    have hspot:a.spot=none:=by
     obtain⟨c,g1,_⟩:=(hf 0 h0).2 0 hpos;have:=World.cell?_spot g1;simpa [Addr.add] using this
    refine⟨a,rfl,hspot,λj o hj ho=>⟨Kq _,?_⟩⟩;obtain⟨c,g1,g2,g3⟩:=(hf j hj).2 o ho;refine⟨c,?_,g2,by rw [hgd j hj]; exact g3⟩;rw [<- g1];obtain⟨b,off,spot⟩:=a;simp only at hspot;subst hspot;congr 1;simp only [Addr.add];split<;>split<;>simp_all<;>omega
theorem zie{H:Type}{enc:TypeId×Value->H}{base:Nat}{sp:Nat->Bool}{held:Bool}{fuel:Nat}{kd:IntKind}{ps:List Int}{q:List MemPlace}(ht:P.underlying t=some (.slice e))(he:P.underlying e=some (.int kd))(hc:P.cellsOf e=1)(hne:ps≠[])
  (h:DataW.trod enc P W base sp held fuel t cs=some (.slice (ps.map λz=>.lit (.int kd z)) [],q)):∃ c,cs=[c]/\c.oneCell'=true/\Rep E0 W (.sl ps.length 1 λj _=>.int kd (ps.getD j 0)) [] c:=by
 obtain⟨a,cap,rfl,hl,hel⟩:=open_row ht hc h;refine⟨_,rfl,rfl,?_⟩;simp only [List.length_map] at hl
 have hv:∀ j,j<ps.length->W.cell? (a.add j)=some (.int kd (ps.getD j 0)):=λj hj=>by
  obtain⟨v,n,q',h1,h2⟩:=hel j (.lit (.int kd (ps.getD j 0))) (by simp [List.getD,hj]);obtain⟨m,h3,h4,_⟩:=DataW.trod_int he h2;simp only [List.cons.injEq,and_true] at h3;simp only [bE,DataW.lit.injEq,Lit.int.injEq,true_and] at h4;rw [h1,h3,h4.1]
 simp only [Rep,List.length_map];refine⟨some a,cap,rfl,hl,.inr ⟨a,rfl,?_,λj o hj ho=>⟨Kq _,.int kd (ps.getD j 0),?_,rfl,rfl⟩⟩⟩
 ·have:=World.cell?_spot (hv 0 (List.length_pos_iff.2 hne));simpa [Addr.add] using this
 ·have:o=0:=by omega
  subst this
  have hs:a.spot=none:=by
   have:=World.cell?_spot (hv 0 (List.length_pos_iff.2 hne));simpa [Addr.add] using this
  rw [<- hv j hj];obtain⟨b,off,spot⟩:=a;simp only at hs;subst hs;congr 1;simp only [Addr.add];split<;>simp_all
end
section
open Go.WideElems Go.ChangeMaps
variable {H:Type} {enc:TypeId×Value->H} {P:Program} {W:World} {base:Nat} {sp:Nat->Bool} {held:Bool}
theorem Jl{x:Lit×DataW H} : ∀ {l:List (Lit×DataW H)},x∈l.foldr DataW.insert []↔x∈l
 | []=>Iff.rfl
 | y::l=>by rw [List.foldr_cons,mem_insert_iff,Jl,aM]
theorem Xb{g:Nat}{t k e:TypeId}{kd:IntKind}{ag:Bool}{sz:Nat}{ks:List Int}{has:Int->Bool}{get:Int->Nat->AV}{fuel:Nat}{c:Value}{es0:List (Lit×DataW H)}{q:List MemPlace}
  (hg:(Stat.z g).isSome=true) (ht:P.underlying t=some (.map k e)) (hk:P.underlying k=some (.int kd)) (hc:W.cell? ⟨g,0,none⟩=some c) (hne:es0≠[])
  (h:DataW.trod enc P W base sp held fuel t [c]=some (.map es0,q))
  (hin:∀ (n:Int) (d:DataW H),(.int kd n,d)∈es0->has n=true/\∀ (v:Value) (m:Nat) (q:List MemPlace),v.formed P e=true->DataW.trod enc P W base sp held m e v.cells.toList=some (d,q) ->
   match ag with
   | true=>∃ vs:List Value,v = .agg vs.toArray/\vs.length=sz/\∀ o,o<sz->∃ c,vs[o]?=some c/\Rep E0 W (get n o) [] c
   | false=>Rep E0 W (get n 0) [] v)
  (hout:∀ n,has n=true->∃ d,(.int kd n,d)∈es0):Rep E0 W (.mp kd ag sz ks has get) [] c/\∀ b,c = .map (some b)->b<W.heap.size:=by
 rcases open_map ht h with ⟨_,hx⟩ | ⟨b,es,clock,n,_,hcs,hb,_,F,hx⟩
 ·simp at hx
 ·simp only [List.cons.injEq,and_true] at hcs;subst hcs;simp only [bE,DataW.map.injEq] at hx
  have hkey:∀ x∈es.toList,∃ (m:Int) (z:DataW H×List MemPlace),x.key = .int kd m/\elemAt enc P W base sp held n e x.val=some z/\(.int kd m,z.1)∈es0:=by
   intro x hxm;obtain⟨y,hy⟩:=F.reads x hxm;have h1:=rd_key hy;obtain⟨z,h2,h3⟩:=rd_val hy;have h4:y∈es0:=by rw [hx.1,Jl]; exact List.mem_map.2 ⟨x,hxm,rg_of hy⟩
   have h5:mapKey P k x.key=some y.1:=by
    simp only [keyOf,hk] at h1;exact h1
   unfold mapKey at h5;rw [hk] at h5;cases hxk:x.key with
   | int k' m=>
    rw [hxk] at h5;simp only at h5;split at h5
    ·rename_i hc2;have h6:=Option.some.inj h5;obtain⟨rfl,_⟩:=hc2;refine⟨m,z,rfl,h2,?_⟩;rw [h6,<- h3]; exact h4
    ·cases h5
   | _=>rw [hxk] at h5; simp at h5
  have hlt:b<W.heap.size:=(aQ.1 hb).1;refine⟨?_,λb' hb'=>by cases hb'; exact hlt⟩;simp only [Rep];refine⟨b,es,clock,rfl,Kq _,⟨g,Kq _,hg,hc⟩,hb,λm=> ?_⟩
  have hspec:=MapKept.findNow_spec (d:=.int kd) (k:=.int kd m) (by simp [MapKept.IsKey]) es.toList 0 (λx hxm=>by
   obtain⟨m',z,h1,_⟩:=hkey x hxm;rw [h1]; simp [MapKept.IsKey])
  rcases hspec with ⟨h1,h2⟩ | ⟨j,x,h1,h2,h3⟩
  ·refine⟨λ_=>h1,λhm=> ?_⟩;obtain⟨d,hd⟩:=hout m hm;rw [hx.1,Jl] at hd;obtain⟨x,hxm,hrx⟩:=List.mem_map.1 hd;obtain⟨y,hy⟩:=F.reads x hxm;rw [rg_of hy] at hrx;have h5:=rd_key hy;rw [hrx] at h5;obtain⟨m',z,g1,_⟩:=hkey x hxm
   have:keyOf P k x.key=some (.int kd m'):=by
    rw [g1] at h5 ⊢;simp only [keyOf,hk,mapKey] at h5 ⊢;split at h5
    ·rename_i hwf; rw [aP hwf]
    ·cases h5
   rw [this] at h5;cases h5;exact absurd g1 (h2 x hxm)
  ·have hxm:x∈es.toList:=aY h2;obtain⟨m',z,g1,g2,g3⟩:=hkey x hxm;rw [h3] at g1;cases g1;obtain⟨hh,hrep⟩:=hin m z.1 g3;refine⟨λhf=>(by rw [hf] at hh; cases hh),λ_=>⟨_,x.val,h1,?_⟩⟩;unfold elemAt at g2;split at g2
   ·rename_i hfm;exact hrep x.val n z.2 hfm g2
   ·cases g2
end
end Go.Sx
end
section
set_option maxRecDepth 100000
namespace Go.Proofs.YtihplbclhhhgdaaGreatDoor
open Go Go.Sx Go.Nov Go.Proofs.Tryz Go.ChangeShapes Go.WideShapes Go.ChangeAt Go.RowKit
theorem yF:Tryz.prog.cellsOf 9=1:=by kernel_rfl
theorem zet:Tryz.prog.cellsOf 31=1:=by kernel_rfl
theorem yE:Tryz.prog.cellsOf 3=1:=by kernel_rfl
theorem znn{W:World}{cs:List Value}(h:Tw Tryz.prog W 3 cs):∃ n:Int,cs=[.i n]/\inR .i64 n/\Rep E0 W (.i n) [] (.i n):=by
 obtain⟨n,rfl,hn⟩:=uz Tryz.underlying3 h;refine⟨n,rfl,?_,by simp [Rep]⟩;simp only [Lit.wf,bA,aK] at hn;exact hn
theorem Uc:Tryz.prog.cellsOf 5=1:=by kernel_rfl
theorem zgh:Tryz.prog.cellsOf 32=1:=by kernel_rfl
theorem JC:Tryz.prog.cellsOf 34=5:=by kernel_rfl
theorem XV:∀ {l:List Ex},(∀ x∈l,x.thin)->Ex.jL l
 | [],_=>by rw [Ex.jL]; trivial
 | x::l,h=>by rw [Ex.jL]; exact⟨h x (by simp),XV λy hy=>h y (by simp [hy])⟩
theorem zik{W:World} : ∀ (fuel:Nat) {cs:List Value},TwN Tryz.prog W fuel 34 cs ->
  ∃ (x:Ex) (v:Value),x.thin/\cs=[.int .u8 x.kind,.string ⟨x.rat.toArray⟩,.string ⟨x.name.toArray⟩,.i x.date,v]/\v.oneCell'=true/\Rep E0 W (.sl x.sub.length 5 x.deep) [] v:=by
 intro fuel
 induction fuel using Nat.strongRecOn with
 | ind fuel ih=>
  intro cs h;obtain⟨hl,n,hn,hf⟩:=QV Tryz.underlying34 h;rw [JC] at hl
  match cs,hl with
  | [a,b,c,d,e],_=>
   have h0:TwN Tryz.prog W n 5 (([a,b,c,d,e].drop 0).take (Tryz.prog.cellsOf 5)):=hf 0 _ rfl;rw [Uc] at h0;replace h0:TwN Tryz.prog W n 5 [a]:=h0;have h1:TwN Tryz.prog W n 31 (([a,b,c,d,e].drop 1).take (Tryz.prog.cellsOf 31)):=hf 1 _ rfl;rw [zet] at h1;replace h1:TwN Tryz.prog W n 31 [b]:=h1;have h2:TwN Tryz.prog W n 9 (([a,b,c,d,e].drop 2).take (Tryz.prog.cellsOf 9)):=hf 2 _ rfl;rw [yF] at h2;replace h2:TwN Tryz.prog W n 9 [c]:=h2;have h3:TwN Tryz.prog W n 3 (([a,b,c,d,e].drop 3).take (Tryz.prog.cellsOf 3)):=hf 3 _ rfl;rw [yE] at h3;replace h3:TwN Tryz.prog W n 3 [d]:=h3;have h4:TwN Tryz.prog W n 32 (([a,b,c,d,e].drop 4).take (Tryz.prog.cellsOf 32)):=hf 4 _ rfl;rw [zgh] at h4;replace h4:TwN Tryz.prog W n 32 [e]:=h4;obtain⟨k,e0,_⟩:=uz Tryz.underlying5 h0.tw;obtain⟨r,e1,w1⟩:=Ju Tryz.underlying31 h1.tw;obtain⟨m,e2,w2⟩:=Ju Tryz.underlying9 h2.tw;obtain⟨z,e3,_⟩:=uz Tryz.underlying3 h3.tw
   obtain⟨l,v,e4,gl,_,hone,hr⟩:=Je Ex.nil (λx=>Ex.cell x.kind x.rat x.name x.date x.sub.length x.deep) Ex.thin Tryz.underlying32 JC (by decide) (λn' cs' hn' h'=>by
    obtain⟨x,v,hx,rfl,hv,hr⟩:=ih n' (by omega) h';refine⟨x,hx,λo ho=> ?_⟩
    match o,ho with
    | 0,_=>exact⟨_,rfl,rfl,by simp [Ex.cell,Rep]⟩
    | 1,_=>exact⟨_,rfl,rfl,by simp [Ex.cell,Rep]⟩
    | 2,_=>exact⟨_,rfl,rfl,by simp [Ex.cell,Rep]⟩
    | 3,_=>exact⟨_,rfl,rfl,by simp [Ex.cell,Rep]⟩
    | 4,_=>exact⟨v,rfl,hv,hr⟩) h4
   cases e0; cases e1; cases e2; cases e3; cases e4;have hb:reachBytes<=2^48:=by decide
   refine⟨.mk k r m z l,_,?_,rfl,hone,?_⟩
   ·rw [Ex.thin]; exact⟨bP w1 hb,bP w2 hb,XV gl⟩
   ·have hq:=Ex.zJ (.mk k r m z l);simp only [Ex.sub] at hq ⊢;simp only [Rep] at hr ⊢;obtain⟨a,cap,hv,hle,hcase⟩:=hr;refine⟨a,cap,hv,hle,hcase.imp id λ⟨ad,g1,g2,g3⟩=>⟨ad,g1,g2,λj o hj ho=> ?_⟩⟩;obtain⟨g4,c,g5,g6,g7⟩:=g3 j o hj ho;refine⟨g4,c,g5,g6,?_⟩;rw [hq j o hj ho];exact g7
theorem zkd:Tryz.prog.cellsOf 35=1:=by kernel_rfl
theorem zjn:Tryz.prog.cellsOf 36=1:=by kernel_rfl
theorem ZW:Tryz.prog.cellsOf 38=12:=by kernel_rfl
theorem Kj:∀ {l:List Con},(∀ x∈l,x.thin)->Con.jL l
 | [],_=>by rw [Con.jL]; trivial
 | x::l,h=>by rw [Con.jL]; exact⟨h x (by simp),Kj λy hy=>h y (by simp [hy])⟩
theorem JP{W:World}{n sz:Nat}{g g':Nat->Nat->AV}{v:Value}(hq:eqG n sz g g')(hr:Rep E0 W (.sl n sz g') [] v):Rep E0 W (.sl n sz g) [] v:=by
 simp only [Rep] at hr ⊢;obtain⟨a,cap,hv,hle,hcase⟩:=hr;refine⟨a,cap,hv,hle,hcase.imp id λ⟨ad,g1,g2,g3⟩=>⟨ad,g1,g2,λj o hj ho=> ?_⟩⟩;obtain⟨g4,c,g5,g6,g7⟩:=g3 j o hj ho;exact⟨g4,c,g5,g6,by rw [hq j o hj ho]; exact g7⟩
theorem VO{W:World} : ∀ (fuel:Nat) {cs:List Value},TwN Tryz.prog W fuel 38 cs ->
  ∃ (x:Con) (u v w:Value),x.thin/\cs=[.int .u8 x.kind,.string ⟨x.src.toArray⟩,.string ⟨x.dst.toArray⟩,.string ⟨x.name.toArray⟩,.int .u8 x.x.kind,.string ⟨x.x.rat.toArray⟩,.string ⟨x.x.name.toArray⟩,.i x.x.date,u,.i x.date,v,w] /\
   (u.oneCell'=true/\v.oneCell'=true/\w.oneCell'=true)/\Rep E0 W (.sl x.x.sub.length 5 (Ex.exG x.x.sub)) [] u/\Rep E0 W (.sl x.days.length 1 (Con.dayG x.days)) [] v/\Rep E0 W (.sl x.sub.length 12 x.deep) [] w:=by
 intro fuel
 induction fuel using Nat.strongRecOn with
 | ind fuel ih=>
  intro cs h;obtain⟨hl,n,hn,hf⟩:=QV Tryz.underlying38 h;rw [ZW] at hl
  match cs,hl with
  | [a,b,c,d,e0,e1,e2,e3,e4,f,g,k],_=>
   have h0:TwN Tryz.prog W n 5 (([a,b,c,d,e0,e1,e2,e3,e4,f,g,k].drop 0).take (Tryz.prog.cellsOf 5)):=hf 0 _ rfl;rw [Uc] at h0;replace h0:TwN Tryz.prog W n 5 [a]:=h0;have h1:TwN Tryz.prog W n 9 (([a,b,c,d,e0,e1,e2,e3,e4,f,g,k].drop 1).take (Tryz.prog.cellsOf 9)):=hf 1 _ rfl;rw [yF] at h1;replace h1:TwN Tryz.prog W n 9 [b]:=h1;have h2:TwN Tryz.prog W n 9 (([a,b,c,d,e0,e1,e2,e3,e4,f,g,k].drop 2).take (Tryz.prog.cellsOf 9)):=hf 2 _ rfl;rw [yF] at h2;replace h2:TwN Tryz.prog W n 9 [c]:=h2;have h3:TwN Tryz.prog W n 9 (([a,b,c,d,e0,e1,e2,e3,e4,f,g,k].drop 3).take (Tryz.prog.cellsOf 9)):=hf 3 _ rfl;rw [yF] at h3;replace h3:TwN Tryz.prog W n 9 [d]:=h3;have h4:TwN Tryz.prog W n 34 (([a,b,c,d,e0,e1,e2,e3,e4,f,g,k].drop 4).take (Tryz.prog.cellsOf 34)):=hf 4 _ rfl;rw [JC] at h4;replace h4:TwN Tryz.prog W n 34 [e0,e1,e2,e3,e4]:=h4;have h5:TwN Tryz.prog W n 3 (([a,b,c,d,e0,e1,e2,e3,e4,f,g,k].drop 9).take (Tryz.prog.cellsOf 3)):=hf 5 _ rfl;rw [yE] at h5;replace h5:TwN Tryz.prog W n 3 [f]:=h5;have h6:TwN Tryz.prog W n 35 (([a,b,c,d,e0,e1,e2,e3,e4,f,g,k].drop 10).take (Tryz.prog.cellsOf 35)):=hf 6 _ rfl;rw [zkd] at h6;replace h6:TwN Tryz.prog W n 35 [g]:=h6;have h7:TwN Tryz.prog W n 36 (([a,b,c,d,e0,e1,e2,e3,e4,f,g,k].drop 11).take (Tryz.prog.cellsOf 36)):=hf 7 _ rfl;rw [zjn] at h7;replace h7:TwN Tryz.prog W n 36 [k]:=h7;obtain⟨x0,y0,_⟩:=uz Tryz.underlying5 h0.tw;obtain⟨x1,y1,w1⟩:=Ju Tryz.underlying9 h1.tw;obtain⟨x2,y2,w2⟩:=Ju Tryz.underlying9 h2.tw;obtain⟨x3,y3,w3⟩:=Ju Tryz.underlying9 h3.tw;obtain⟨x4,u,g4,y4,o4,r4⟩:=zik n h4;obtain⟨x5,y5,_⟩:=uz Tryz.underlying3 h5.tw
   obtain⟨x6,v,y6,_,l6,o6,r6⟩:=Vb 0 (λ(x:Int) _=>AV.i x) (λ_=>True) Tryz.underlying35 yE (by decide) (λcs' h'=>by
    obtain⟨x,rfl,hx⟩:=uz Tryz.underlying3 h';refine⟨x,trivial,λo ho=> ?_⟩
    match o,ho with
    | 0,_=>exact⟨_,rfl,rfl,by simp [Rep]⟩) h6.tw
   obtain⟨x7,w,y7,g7,l7,o7,r7⟩:=Je Con.nil (λx=>Con.cell x.kind x.src x.dst x.name x.x x.date x.days x.sub.length x.deep) Con.thin Tryz.underlying36 ZW (by decide) (λn' cs' hn' h'=>by
    obtain⟨x,u,v,w,hx,rfl,⟨hu,hv,hw⟩,ru,rv,rz⟩:=ih n' (by omega) h';refine⟨x,hx,λo ho=> ?_⟩
    match o,ho with
    | 0,_=>exact⟨_,rfl,rfl,by simp [Con.cell,Rep]⟩
    | 1,_=>exact⟨_,rfl,rfl,by simp [Con.cell,Rep]⟩
    | 2,_=>exact⟨_,rfl,rfl,by simp [Con.cell,Rep]⟩
    | 3,_=>exact⟨_,rfl,rfl,by simp [Con.cell,Rep]⟩
    | 4,_=>exact⟨_,rfl,rfl,by simp [Con.cell,Rep]⟩
    | 5,_=>exact⟨_,rfl,rfl,by simp [Con.cell,Rep]⟩
    | 6,_=>exact⟨_,rfl,rfl,by simp [Con.cell,Rep]⟩
    | 7,_=>exact⟨_,rfl,rfl,by simp [Con.cell,Rep]⟩
    | 8,_=>exact⟨u,rfl,hu,ru⟩
    | 9,_=>exact⟨_,rfl,rfl,by simp [Con.cell,Rep]⟩
    | 10,_=>exact⟨v,rfl,hv,rv⟩
    | 11,_=>exact⟨w,rfl,hw,rz⟩) h7
   have b6:Tryz.prog.bytesOf 3=8:=by kernel_rfl
   have b7:Tryz.prog.bytesOf 38=184:=by kernel_rfl
   rw [b6] at l6;rw [b7] at l7;have hb:reachBytes<=2^48:=by decide
   cases y0; cases y1; cases y2; cases y3; cases y4; cases y5; cases y6; cases y7;refine⟨.mk x0 x1 x2 x3 x4 x5 x6 x7,_,_,_,?_,rfl,⟨o4,o6,o7⟩,?_,r6,?_⟩
   ·rw [Con.thin]; exact⟨bP w1 hb,bP w2 hb,bP w3 hb,g4,by omega,by omega,Kj g7⟩
   ·exact JP (λj o hj ho=>(Ex.zJ x4 j o hj ho).symm) r4
   ·exact JP (Con.zJ (.mk x0 x1 x2 x3 x4 x5 x6 x7)) r7
theorem zoc{W:World}{cs:List Value}(h:Tw Tryz.prog W 38 cs):∃ x:Con,x.thin/\Rep E0 W x.conA [] (.agg cs.toArray):=by
 obtain⟨fuel,h⟩:=h.twn;obtain⟨x,u,v,w,hx,rfl,_,r1,r2,r3⟩:=VO fuel h;refine⟨x,hx,?_⟩;have r4:Rep E0 W (Con.conS x.sub) [] w:=JP (λj o hj ho=>(Con.zJ x j o hj ho).symm) r3;simp only [Con.conA,Rep,RepL];exact⟨_,rfl,_,_,rfl,rfl,_,_,rfl,rfl,_,_,rfl,rfl,_,_,rfl,rfl,_,_,rfl,rfl,_,_,rfl,rfl,_,_,rfl,rfl,_,_,rfl,rfl,_,_,rfl,r1,_,_,rfl,rfl,_,_,rfl,r2,_,_,rfl,r4,rfl⟩
theorem VH:Tryz.prog.cellsOf 44=13:=by kernel_rfl
theorem zmg:Tryz.prog.cellsOf 22=1:=by kernel_rfl
theorem zmh:Tryz.prog.cellsOf 24=1:=by kernel_rfl
theorem zfk{W:World}{cs:List Value}(h:Tw Tryz.prog W 44 cs) :
  ∃ (x:Ver) (u v w:Value),x.con.thin/\cs=[.i x.day,.int .u8 x.con.kind,.string ⟨x.con.src.toArray⟩,.string ⟨x.con.dst.toArray⟩,.string ⟨x.con.name.toArray⟩,.int .u8 x.con.x.kind,.string ⟨x.con.x.rat.toArray⟩,.string ⟨x.con.x.name.toArray⟩,.i x.con.x.date,u,.i x.con.date,v,w] /\
   (u.oneCell'=true/\v.oneCell'=true/\w.oneCell'=true)/\Rep E0 W (.sl x.con.x.sub.length 5 (Ex.exG x.con.x.sub)) [] u/\Rep E0 W (.sl x.con.days.length 1 (Con.dayG x.con.days)) [] v/\Rep E0 W (.sl x.con.sub.length 12 x.con.deep) [] w:=by
 obtain⟨hl,hf⟩:=V7 Tryz.underlying44 h;rw [VH] at hl
 match cs,hl with
 | [z,a,b,c,d,e0,e1,e2,e3,e4,f,g,k],_=>
  have h0:Tw Tryz.prog W 3 (([z,a,b,c,d,e0,e1,e2,e3,e4,f,g,k].drop 0).take (Tryz.prog.cellsOf 3)):=hf 0 _ rfl;rw [yE] at h0;replace h0:Tw Tryz.prog W 3 [z]:=h0;have h1:Tw Tryz.prog W 38 (([z,a,b,c,d,e0,e1,e2,e3,e4,f,g,k].drop 1).take (Tryz.prog.cellsOf 38)):=hf 1 _ rfl;rw [ZW] at h1;replace h1:Tw Tryz.prog W 38 [a,b,c,d,e0,e1,e2,e3,e4,f,g,k]:=h1;obtain⟨x0,y0,_⟩:=uz Tryz.underlying3 h0;obtain⟨fuel,h1⟩:=h1.twn;obtain⟨x,u,v,w,hx,y1,ho,r1,r2,r3⟩:=VO fuel h1;cases y0; cases y1;exact⟨⟨x0,x⟩,_,_,_,hx,rfl,ho,r1,r2,r3⟩
theorem zpf{W:World}{cs:List Value}(h:Tw Tryz.prog W 24 cs):∃ s:List Ver,zcs s/\Rep E0 W (verA s) [] (.agg cs.toArray):=by
 obtain⟨hl,hf⟩:=V7 Tryz.underlying24 h;rw [zmh] at hl
 match cs,hl with
 | [a],_=>
  have h0:Tw Tryz.prog W 22 (([a].drop 0).take (Tryz.prog.cellsOf 22)):=hf 0 _ rfl;rw [zmg] at h0;replace h0:Tw Tryz.prog W 22 [a]:=h0
  obtain⟨l,v,e1,gl,wl,_,rl⟩:=Vb Ver.nil (λx=>Ver.cell x.day x.con) (λx=>x.con.thin) Tryz.underlying22 VH (by decide) (λcs' h'=>by
   obtain⟨x,u,v,w,hx,rfl,⟨hu,hv,hw⟩,ru,rv,rz⟩:=zfk h';refine⟨x,hx,λo ho=> ?_⟩
   match o,ho with
   | 0,_=>exact⟨_,rfl,rfl,by simp [Ver.cell,Rep]⟩
   | 1,_=>exact⟨_,rfl,rfl,by simp [Ver.cell,Rep]⟩
   | 2,_=>exact⟨_,rfl,rfl,by simp [Ver.cell,Rep]⟩
   | 3,_=>exact⟨_,rfl,rfl,by simp [Ver.cell,Rep]⟩
   | 4,_=>exact⟨_,rfl,rfl,by simp [Ver.cell,Rep]⟩
   | 5,_=>exact⟨_,rfl,rfl,by simp [Ver.cell,Rep]⟩
   | 6,_=>exact⟨_,rfl,rfl,by simp [Ver.cell,Rep]⟩
   | 7,_=>exact⟨_,rfl,rfl,by simp [Ver.cell,Rep]⟩
   | 8,_=>exact⟨_,rfl,rfl,by simp [Ver.cell,Rep]⟩
   | 9,_=>exact⟨u,rfl,hu,ru⟩
   | 10,_=>exact⟨_,rfl,rfl,by simp [Ver.cell,Rep]⟩
   | 11,_=>exact⟨v,rfl,hv,rv⟩
   | 12,_=>exact⟨w,rfl,hw,rz⟩) h0
  have b1:Tryz.prog.bytesOf 44=192:=by kernel_rfl
  rw [b1] at wl;have hr:=reachBytes_lt;cases e1;refine⟨l,⟨by omega,λi=> ?_⟩,?_⟩
  ·by_cases hi:i<l.length
   ·exact gl _ (by simp [List.getD,hi])
   ·have:l.getD i Ver.nil=Ver.nil:=by simp [List.getD,hi]
    rw [this]; exact zmf
  ·simp only [RepL,Rep,verA];exact⟨_,rfl,_,_,rfl,rl,rfl⟩
theorem Ud:Tryz.prog.cellsOf 191=1:=by kernel_rfl
theorem zmu:Tryz.prog.cellsOf 229=1:=by kernel_rfl
theorem zl5:Tryz.prog.cellsOf 231=2:=by kernel_rfl
def shpE(H:Type):List (Lit×DataW H):=shpL.map λp=>(.int .u8 p.1,.agg [.slice (p.2.1.map λz=>.lit (.int .u8 z)) [],.lit (.int .u8 p.2.2)])
theorem zmz:∀ p∈shpL,yN p.1=some p.2/\p.2.1≠[]:=by decide
theorem zni{k:Int}(h:qN k=true):∃ q,(k,q)∈shpL:=by
 unfold qN yN at h;rw [Option.isSome_map] at h;obtain⟨p,hp⟩:=Option.isSome_iff_exists.1 h;have h1:=List.find?_some hp;have h2:=List.mem_of_find?_eq_some hp;have:p.1=k:=by simpa using h1
 exact⟨p.2,by rw [<- this]; exact h2⟩
theorem UE{W:World}{cs:List Value}{fuel:Nat}{q:List MemPlace}{c:Value}(hc:W.cell? ⟨1,0,none⟩=some c)
  (h:DataW.trod (λ_=>()) Tryz.prog W 0 (λ_=>true) false fuel 233 [c]=some (.map (shpE Unit),q)) :
  Rep E0 W (.mp .u8 true 2 [] (λk=>qN k) λk o=>match o with
   | 0=>.sl (jE k) 1 λj _=>.int .u8 (qR k j)
   | _=>.int .u8 (jr k)) [] c/\∀ b,c = .map (some b)->b<W.heap.size:=by
 refine Xb (g:=1) rfl Tryz.underlying233 Tryz.underlying5 hc (by decide) h ?_ ?_
 ·intro n d hd;obtain⟨p,hp,he⟩:=List.mem_map.1 hd;obtain⟨h1,h2⟩:=zmz p hp;simp only [bE,Lit.int.injEq,true_and] at he;obtain⟨rfl,rfl⟩:=he;refine⟨by simp [qN,h1],λv m q' hf ht=> ?_⟩;obtain⟨xs,n',_,hx,hl,hlen,hfs⟩:=DataW.trod_struct Tryz.underlying231 ht;rw [zl5] at hl;cases v with
  | agg cs=>
   simp only [Value.cells] at hl hfs;obtain⟨cs⟩:=cs;simp only at hl hfs
   match cs,hl with
   | [a,b],_=>
    have f0:DataW.trod _ Tryz.prog W 0 _ false n' 229 (([a,b].drop 0).take (Tryz.prog.cellsOf 229))=xs[0]?:=hfs 0 _ rfl;have f1:DataW.trod _ Tryz.prog W 0 _ false n' 191 (([a,b].drop 1).take (Tryz.prog.cellsOf 191))=xs[1]?:=hfs 1 _ rfl;rw [zmu] at f0;rw [Ud] at f1
    match xs,hlen with
    | [x0,x1],_=>
     simp only [List.map_cons,List.map_nil,bE,DataW.agg.injEq,List.cons.injEq,and_true] at hx;obtain⟨⟨hx0,hx1⟩,_⟩:=hx;have f0:DataW.trod _ Tryz.prog W 0 _ false n' 229 [a]=some x0:=f0;have f1:DataW.trod _ Tryz.prog W 0 _ false n' 191 [b]=some x1:=f1;obtain⟨x0a,x0b⟩:=x0;obtain⟨x1a,x1b⟩:=x1;simp only at hx0 hx1;subst hx0; subst hx1;obtain⟨c0,e0,_,hr⟩:=zie Tryz.underlying229 Tryz.underlying191 Ud h2 f0;cases e0;obtain⟨z,e1,e2,_⟩:=DataW.trod_int Tryz.underlying191 f1;cases e1;simp only [bE,DataW.lit.injEq,Lit.int.injEq,true_and] at e2;refine⟨[a,.int .u8 z],rfl,rfl,λo ho=> ?_⟩;have g1:qq p.1=p.2.1:=by simp [qq,h1]
     have g2:jr p.1=p.2.2:=by simp [jr,h1]
     match o,ho with
     | 0,_=>
      refine⟨a,rfl,?_⟩;show Rep E0 W (.sl (jE p.1) 1 λj _=>.int .u8 (qR p.1 j)) [] a;unfold jE qR;rw [g1];exact hr
     | 1,_=>
      refine⟨_,rfl,?_⟩;show Rep E0 W (.int .u8 (jr p.1)) [] _;simp only [Rep];rw [g2,e2.1]
  | _=>simp [Value.formed,Tryz.underlying231] at hf
 ·intro n hn;obtain⟨q',hq⟩:=zni hn;exact⟨_,List.mem_map.2 ⟨_,hq,rfl⟩⟩
theorem zo6:Tryz.prog.globalNamed "novation/observable.shapes" = some 1:=by kernel_rfl
theorem zpc:(Tryz.prog.globals[1]?).map (·.type)=some 233:=by kernel_rfl
theorem znb:(Rows.laid_novation_observable_shapes:DataW Unit) = .map (shpE Unit):=rfl
theorem zs9:Tryz.prog.globalNamed "novation/contract.parts" = some 0:=by kernel_rfl
theorem zr7:(Tryz.prog.globals[0]?).map (·.type)=some 142:=by kernel_rfl
def prtE:List (Lit×DataW Unit):=[(.int .u8 1,.lit (.int .i64 0)),(.int .u8 2,.lit (.int .i64 15)),(.int .u8 3,.lit (.int .i64 256)),(.int .u8 4,.lit (.int .i64 136)),(.int .u8 5,.lit (.int .i64 272)),(.int .u8 6,.lit (.int .i64 160)),(.int .u8 7,.lit (.int .i64 261)),(.int .u8 8,.lit (.int .i64 197)),(.int .u8 9,.lit (.int .i64 208)),(.int .u8 10,.lit (.int .i64 208))]
theorem zkg:(Rows.laid_novation_contract_parts:DataW Unit) = .map prtE:=rfl
abbrev K0:List (String×DataW Unit):=[("novation/observable.shapes",Rows.laid_novation_observable_shapes),("novation/observable.operations",Rows.laid_novation_observable_operations),("novation/contract.parts",Rows.laid_novation_contract_parts)]
theorem zeq{W:World}{cs:List Value}{fuel:Nat}{q:List MemPlace}{c:Value}(hc:W.cell? ⟨0,0,none⟩=some c)
  (h:DataW.trod (λ_=>()) Tryz.prog W 0 (λ_=>true) false fuel 142 [c]=some (.map prtE,q)) :
  Rep E0 W (.mp .u8 false 1 [] (λk=>decide (1<=k/\k<=10)) λk _=>.i (kH k)) [] c/\∀ b,c = .map (some b)->b<W.heap.size:=by
 refine Xb (g:=0) rfl Tryz.underlying142 Tryz.underlying5 hc (by decide) h ?_ ?_
 ·intro n d hd
  have one:∀ {v:Value} {m:Nat} {q:List MemPlace} {z:Int},v.formed Tryz.prog 3=true->DataW.trod (λ_=>()) Tryz.prog W 0 (λ_=>true) false m 3 v.cells.toList=some (.lit (.int .i64 z),q)->Rep E0 W (.i z) [] v:=by
   intro v m q z hf ht
   have hcell:v.cells.toList=[v]:=by
    cases v with
    | agg _=>simp [Value.formed,Tryz.underlying3] at hf
    | _=>rfl
   rw [hcell] at ht;obtain⟨z',e1,e2,_⟩:=DataW.trod_int Tryz.underlying3 ht;cases e1;simp only [bE,DataW.lit.injEq,Lit.int.injEq,true_and] at e2;simp only [Rep];rw [e2.1]
  simp only [prtE,aM,bE,Lit.int.injEq,true_and,List.not_mem_nil,or_false] at hd;rcases hd with ⟨rfl,rfl⟩ | ⟨rfl,rfl⟩ | ⟨rfl,rfl⟩ | ⟨rfl,rfl⟩ | ⟨rfl,rfl⟩ | ⟨rfl,rfl⟩ | ⟨rfl,rfl⟩ | ⟨rfl,rfl⟩ | ⟨rfl,rfl⟩ | ⟨rfl,rfl⟩<;>exact⟨rfl,λv m q hf ht=>one hf ht⟩
 ·intro n hn;have hn:=aB hn;have:n=1\/n=2\/n=3\/n=4\/n=5\/n=6\/n=7\/n=8\/n=9\/n=10:=by omega
  rcases this with rfl | rfl | rfl | rfl | rfl | rfl | rfl | rfl | rfl | rfl<;>exact⟨_,by unfold prtE; simp; rfl⟩
theorem zje{W:World} (h:laidMet Tryz.prog [("novation/observable.shapes",Rows.laid_novation_observable_shapes),("novation/contract.parts",Rows.laid_novation_contract_parts)] W):(∃ c,W.cell? ⟨1,0,none⟩=some c /\
  Rep E0 W (.mp .u8 true 2 [] (λk=>qN k) λk o=>match o with
   | 0=>.sl (jE k) 1 λj _=>.int .u8 (qR k j)
   | _=>.int .u8 (jr k)) [] c/\∀ b,c = .map (some b)->b<W.heap.size)/\∃ c,W.cell? ⟨0,0,none⟩=some c /\
  Rep E0 W (.mp .u8 false 1 [] (λk=>decide (1<=k/\k<=10)) λk _=>.i (kH k)) [] c/\∀ b,c = .map (some b)->b<W.heap.size:=by
 obtain⟨ps,⟨g0,t0,cs0,f0,p0,q0,hg0,ht0,hv0,hd0,hr0,_⟩,_,_⟩:=h;obtain⟨g1,t1,cs1,f1,p1,q1,hg1,ht1,hv1,hd1,_,_⟩:=hr0;obtain rfl:=Option.some.inj (zo6.symm.trans hg0);obtain rfl:=Option.some.inj (zpc.symm.trans ht0);obtain rfl:=Option.some.inj (zs9.symm.trans hg1);obtain rfl:=Option.some.inj (zr7.symm.trans ht1);rw [znb] at hd0;rw [zkg] at hd1
 have hone:∃ c,cs0.toList=[c]:=by
  rcases Go.WideElems.open_map Tryz.underlying233 hd0 with ⟨hcs,_⟩ | ⟨b,es,clock,n,_,hcs,_⟩
  ·exact⟨_,hcs⟩
  ·exact⟨_,hcs⟩
 have hone1:∃ c,cs1.toList=[c]:=by
  rcases Go.WideElems.open_map Tryz.underlying142 hd1 with ⟨hcs,_⟩ | ⟨b,es,clock,n,_,hcs,_⟩
  ·exact⟨_,hcs⟩
  ·exact⟨_,hcs⟩
 obtain⟨c,hcs⟩:=hone;obtain⟨c',hcs'⟩:=hone1;rw [hcs] at hd0;rw [hcs'] at hd1
 have k1:W.cell? ⟨1,0,none⟩=some c:=by
  have:=World.var?_cell hg0 hv0 0;rw [Array.eq_one_of_toList hcs] at this;simpa using this
 have k2:W.cell? ⟨0,0,none⟩=some c':=by
  have:=World.var?_cell hg1 hv1 0;rw [Array.eq_one_of_toList hcs'] at this;simpa using this
 obtain⟨r1,b1⟩:=UE (cs:=[c]) k1 hd0;obtain⟨r2,b2⟩:=zeq (cs:=[c']) k2 hd1;exact⟨⟨c,k1,r1,b1⟩,c',k2,r2,b2⟩
theorem gOps:Tryz.prog.globalNamed "novation/observable.operations" = some 2:=by kernel_rfl
theorem tOps:(Tryz.prog.globals[2]?).map (·.type)=some 237:=by kernel_rfl
def opNm(b:L8):L8:=[40,42,110,111,118,97,116,105,111,110,47,111,98,115,101,114,118,97,98,108,101,46,115,116,97,116,101,41,46]++b
def opEs:List (Lit×DataW L8):=[(.int .u8 4,.held (opNm [97,100,100])),(.int .u8 5,.held (opNm [115,117,98])),(.int .u8 6,.held (opNm [109,117,108])),(.int .u8 7,.held (opNm [103,114,101,97,116,101,114])),(.int .u8 8,.held (opNm [115,109,97,108,108,101,114]))]
def opsD:DataW Unit:=.map [(.int .u8 4,.iface "func" (.lit (.string (opNm [97,100,100])))),(.int .u8 5,.iface "func" (.lit (.string (opNm [115,117,98])))),(.int .u8 6,.iface "func" (.lit (.string (opNm [109,117,108])))),(.int .u8 7,.iface "func" (.lit (.string (opNm [103,114,101,97,116,101,114])))),(.int .u8 8,.iface "func" (.lit (.string (opNm [115,109,97,108,108,101,114]))))]
theorem zou:(Rows.laid_novation_observable_operations:DataW Unit) = .iface "func table" opsD:=rfl
theorem zk0:opsD.funcsOut = .map opEs:=rfl
theorem zo4{W:World}{cs:List Value}{fuel:Nat}{q:List MemPlace}{c:Value}(hc:W.cell? ⟨2,0,none⟩=some c)
  (h:DataW.trod (funcToken Tryz.prog) Tryz.prog W 0 (λ_=>true) true fuel 237 [c]=some (.map opEs,q)) :
  Rep E0 W (.mp .u8 false 1 [4,5,6,7,8] (λk=>decide (4<=k/\k<=8)) λk _=>
  if k=4 then .fn 238 [] [] else if k=5 then .fn 239 [] [] else if k=6 then .fn 240 [] []
  else if k=7 then .fn 241 [] [] else .fn 242 [] []) [] c/\∀ b,c = .map (some b)->b<W.heap.size:=by
 refine Xb (g:=2) rfl Tryz.underlying237 Tryz.underlying5 hc (by decide) h ?_ ?_
 ·intro n d hd
  have one:∀ {v:Value} {m:Nat} {q:List MemPlace} {bs:L8} {f0:Nat},((List.range Tryz.prog.funcs.size).filter λf=>(Tryz.prog.funcs[f]?).any (·.name.toUTF8.data.toList == 40::bs))=[f0] ->
    v.formed Tryz.prog 236=true->DataW.trod (funcToken Tryz.prog) Tryz.prog W 0 (λ_=>true) true m 236 v.cells.toList=some (.held (40::bs),q)->Rep E0 W (.fn f0 [] []) [] v:=by
   intro v m q bs f0 hone hf ht
   have hcell:v.cells.toList=[v]:=by
    cases v with
    | agg _=>simp [Value.formed,Tryz.underlying236] at hf
    | _=>rfl
   rw [hcell] at ht;have:=func_of_trod Tryz.underlying236 hone ht;subst this;simp [Rep,RepL]
  simp only [opEs,aM,bE,Lit.int.injEq,true_and,List.not_mem_nil,or_false] at hd;rcases hd with ⟨rfl,rfl⟩ | ⟨rfl,rfl⟩ | ⟨rfl,rfl⟩ | ⟨rfl,rfl⟩ | ⟨rfl,rfl⟩
  ·exact⟨rfl,λv m q hf ht=>one (f0:=238) (by kernel_rfl) hf ht⟩
  ·exact⟨rfl,λv m q hf ht=>one (f0:=239) (by kernel_rfl) hf ht⟩
  ·exact⟨rfl,λv m q hf ht=>one (f0:=240) (by kernel_rfl) hf ht⟩
  ·exact⟨rfl,λv m q hf ht=>one (f0:=241) (by kernel_rfl) hf ht⟩
  ·exact⟨rfl,λv m q hf ht=>one (f0:=242) (by kernel_rfl) hf ht⟩
 ·intro n hn;have hn:=aB hn;have:n=4\/n=5\/n=6\/n=7\/n=8:=by omega
  rcases this with rfl | rfl | rfl | rfl | rfl
  ·exact⟨_,.head _⟩
  ·exact⟨_,.tail _ (.head _)⟩
  ·exact⟨_,.tail _ (.tail _ (.head _))⟩
  ·exact⟨_,.tail _ (.tail _ (.tail _ (.head _)))⟩
  ·exact⟨_,.tail _ (.tail _ (.tail _ (.tail _ (.head _))))⟩
theorem znu{W:World}(h:laidMetH Tryz.prog K0 W):kj E0 W:=by
 have h1:laidMet Tryz.prog [("novation/observable.shapes",Rows.laid_novation_observable_shapes),("novation/contract.parts",Rows.laid_novation_contract_parts)] W:=h.1;have h2:=laidMetH.funcs h (n:= "novation/observable.operations") (d:=opsD) (by simp [K0,zou]);obtain⟨⟨c1,k1,r1,b1⟩,c3,k3,r3,b3⟩:=zje h1;obtain⟨g0,t0,cs0,f0,p0,hg0,ht0,hv0,hd0⟩:=h2;obtain rfl:=Option.some.inj (gOps.symm.trans hg0);obtain rfl:=Option.some.inj (tOps.symm.trans ht0);rw [zk0] at hd0
 have hone:∃ c,cs0.toList=[c]:=by
  rcases Go.WideElems.open_map Tryz.underlying237 hd0 with ⟨hcs,_⟩ | ⟨b,es,clock,n,_,hcs,_⟩
  ·exact⟨_,hcs⟩
  ·exact⟨_,hcs⟩
 obtain⟨c2,hcs⟩:=hone;rw [hcs] at hd0
 have k2:W.cell? ⟨2,0,none⟩=some c2:=by
  have:=World.var?_cell hg0 hv0 0;rw [Array.eq_one_of_toList hcs] at this;simpa using this
 obtain⟨r2,b2⟩:=zo4 (cs:=[c2]) k2 hd0;refine⟨λg a hz=>⟨Kq _,?_⟩⟩;by_cases hg:g=1
 ·subst hg;cases hz;exact⟨c1,k1,r1,b1⟩
 ·by_cases hg2:g=2
  ·subst hg2;cases hz;exact⟨c2,k2,r2,b2⟩
  ·by_cases hg3:g=0
   ·subst hg3;cases hz;exact⟨c3,k3,r3,b3⟩
   ·have:Stat.z g=none:=by
     show(if _ then _ else if _ then _ else if _ then _ else _)=_;rw [aO hg,aO hg3,aO hg2]
    rw [this] at hz; cases hz
theorem walk{W:World}{v0 v1 v2:List Value}(h0:Tw Tryz.prog W 24 v0)(h1:Tw Tryz.prog W 3 v1)(h2:Tw Tryz.prog W 38 v2)(hst:kj E0 W) :
  ∃ s1:Value,v1=[s1]/\Calls Tryz.prog 4 #[.agg v0.toArray,s1,.agg v2.toArray] W λe W'=>e = .returned (.bool true)/\Below W.heap.size W W':=by
 obtain⟨s,sg,sr⟩:=zpf h0;obtain⟨d,rfl,dg,dr⟩:=znn h1;obtain⟨c,cg,cr⟩:=zoc h2;refine⟨_,rfl,?_⟩;refine zg6 (fn:=Tryz.f4) (c:=Tryz.f4.body.getD .skip) rfl rfl rfl zlq (args:=[verA s,.i d,c.conA]) (vals:=[.agg v0.toArray,.i d,.agg v2.toArray]) ?_ ?_ hst
 ·refine⟨⟨s,d,c⟩,⟨?_,⟨sg,cg⟩⟩,⟨true,rfl⟩,?_⟩
  ·simp [eqL,eqA,eqA0,eqL0,envA,fxS,chS,Fx.av,Ch.av,Ex.exA,Ex.exS,verA,Con.conA,Con.dayS,Con.conS,za]
  ·rintro _ rfl;rfl
 ·exact⟨_,_,rfl,sr,⟨_,_,rfl,dr,⟨_,_,rfl,cr,rfl⟩⟩⟩
theorem own:ownKnob Tryz.prog.godebug=none:=by kernel_rfl
theorem laid:laidOutB Tryz.prog=true:=by kernel_rfl
theorem zh4(os:Os)(args:Array Value):laidMetH Tryz.prog K0 ((World.doorLaid Tryz.prog 400 os).forCall (λ_ _=>0) ⟨#[],args,[]⟩).memory:=
 laidMetH_of_parts3 (fuel:=8) (laidMet_of_run' 8 (by kernel_rfl) (by kernel_rfl)) (by kernel_rfl) (by kernel_rfl)
theorem lifted(os:Os)(started:os.Started)(H:Type)(enc:TypeId×Value->H) :
  ReturnsInHanded {} Tryz.checked os 4 .any (λw args=>(Rows.amendUndoesSpec.pre enc Tryz.prog Tryz.f4 [] false w args/\laidMetH Tryz.prog K0 w)/\sizedMet enc Tryz.prog Tryz.f4 (OpenSpec.ofChange Rows.amendUndoesSpec) false w args)
   (Rows.amendUndoesSpec.post enc Tryz.prog Tryz.f4 false true false false):=by
 refine returnsInHanded_of_change_and (C:=Tryz.checked) (X:=λw _=>laidMetH Tryz.prog K0 w) (λ_ _ _ hh h=>h.of_heap hh) own started (by kernel_rfl) Tryz.func4
  (ChangeSpec.witness_shaped (enc:=enc) (C:=Tryz.checked) (os:=os) (X:=λw _=>laidMetH Tryz.prog K0 w) false (World.doorLaid Tryz.prog 400 os) #[.agg #[.slice none 0 0],.i 0,.agg #[.int .u8 0,.string ⟨#[]⟩,.string ⟨#[]⟩,.string ⟨#[]⟩,.int .u8 0,.string ⟨#[]⟩,.string ⟨#[]⟩,.i 0,.slice none 0 0,.i 0,.slice none 0 0,.slice none 0 0]] 8 rfl (World.shaped_of_RefB (by kernel_rfl) (by kernel_rfl)) (by kernel_rfl) (by kernel_rfl) (by kernel_rfl) (zh4 os _)) ?_
 intro W base args ds gs before hval0 hW hcnd hwt hL _;have hval:∀ (j:Nat) t v,Tryz.f4.params[j]?=some t->args[j]?=some v->Value.okWide Tryz.prog W .any base t v:=hval0;have hW':=hW;obtain⟨p,q,hA0,hV,rfl,hfz,hnd⟩:=hW;have hA:DataW.TrodAll enc Tryz.prog W 0 (λ_=>true) true Tryz.f4.params.toList args.toList ds p:=hA0;rw [Tryz.params4] at hA hval;obtain⟨v0,vs0,d0,ds0,p0,q0,hargs,rfl,rfl,h0,r0⟩:=trodAll_cons hA;obtain⟨v1,vs1,d1,ds1,p1,q1,rfl,rfl,rfl,h1,r1⟩:=trodAll_cons r0;obtain⟨v2,vs2,d2,ds2,p2,q2,rfl,rfl,rfl,h2,r2⟩:=trodAll_cons r1;obtain⟨rfl,rfl,rfl⟩:=trodAll_nil r2;obtain rfl:args = #[v0,v1,v2]:=by cases args; simp_all
 obtain⟨rfl,rfl⟩:=trodVars_none hV;clear hA0 hval0;simp only [List.append_nil] at hW' hwt
 have hw:∀ (j:Nat) (t:TypeId) (d:DataW H),[24,3,38][j]?=some t->[d0,d1,d2][j]?=some d->∀ n∈d.weights Tryz.prog t,n<=reachBytes:=λj t d ht hd n hn=>by
  have:=bG.1 hwt n (DataW.weights_mem_each (j:=j) (t:=t) (d:=d) (by exact ht) (by exact hd) n hn);simpa using this
 obtain⟨c0,rfl,_⟩:=okWide_struct Tryz.underlying24 (hval 0 24 v0 rfl rfl);obtain⟨c1,rfl⟩:=okWide_int Tryz.underlying3 (hval 1 3 v1 rfl rfl);obtain⟨c2,rfl,_⟩:=okWide_struct Tryz.underlying38 (hval 2 38 v2 rfl rfl)
 have t0:Tw Tryz.prog W 24 c0.toList:=by
  obtain⟨fuel,hf⟩:=h0;exact⟨H,enc,0,fuel,d0,p0,by simpa [Value.cells] using hf,hw 0 _ d0 rfl rfl⟩
 have t1:Tw Tryz.prog W 3 [.i c1]:=by
  obtain⟨fuel,hf⟩:=h1;exact⟨H,enc,0,fuel,d1,p1,by simpa [Value.cells] using hf,hw 1 _ d1 rfl rfl⟩
 have t2:Tw Tryz.prog W 38 c2.toList:=by
  obtain⟨fuel,hf⟩:=h2;exact⟨H,enc,0,fuel,d2,p2,by simpa [Value.cells] using hf,hw 2 _ d2 rfl rfl⟩
 have hlt:∀ x∈p0++(p1++p2),x.block<W.heap.size:=λx hx=>by simpa using hW'.lt x (by simpa using hx)
 obtain⟨s1,e1,hcall⟩:=walk t0 t1 t2 (znu hL);cases e1;simp only [Array.toArray_toList] at hcall;refine hcall.mono λe W' ⟨he,hb⟩=> ?_
 subst he;refine⟨_,rfl,_,_,_,[],p0++(p1++p2),[],hW',trodAll_mk1 (shut_bool Tryz.underlying4 true),?_,rfl,hb.frame _,λh=>by cases h⟩;exact trodAll_mk3 (Below.trod laid (by kernel_rfl) (aB (by kernel_rfl)) h0 hb λx hx=>hlt x (by simp [hx])) (Below.trod laid (by kernel_rfl) (aB (by kernel_rfl)) h1 hb λx hx=>hlt x (by simp [hx])) (Below.trod laid (by kernel_rfl) (aB (by kernel_rfl)) h2 hb λx hx=>hlt x (by simp [hx]))
theorem over:Rows.amendUndoesRow.holds Tryz.pinned (OpenSpec.ofChange Rows.amendUndoesSpec):=
 OpenClaim.holds_of_wide 4 Tryz.f4 rfl rfl rfl rfl rfl rfl rfl ⟨rfl,rfl,rfl,rfl,rfl⟩ rfl rfl rfl rfl rfl (by kernel_rfl) Tryz.func4 (by kernel_rfl)
  (aB (by kernel_rfl)) (by unfold Func.isWrapper; first | (rw [aP (by decide +kernel)]; kernel_rfl) | (rw [aO (by decide +kernel)]; exact⟨rfl,rfl⟩))
  (λos started H enc _=>lifted os started H enc)
theorem ZF:Rows.AmendUndoesSaid:=over
theorem amendUndoes_holds:Rows.AmendUndoesCardSaid:=
 Claim7.holds_tied_plain_at .later [] [.mappedDeep,.funcs,.mapped] true (true, "5a5bde0e4a7e055d95545a1a53a708b7623a4ebd1245c3f7baff83f2d488665e") true
  ZF (λ_ h=>by cases h) (by kernel_rfl) (λ_ h=>by cases h) amendUndoes_row_tie rfl ⟨rfl,rfl⟩ (by kernel_rfl) rfl
  (λf fn hf hfn=>by
   obtain rfl:f=4:=Option.some.inj ((show Tryz.prog.funcNamed "novation/novationlaw24.AmendUndoes" = some 4 by kernel_rfl).symm.trans hf) |>.symm;obtain rfl:fn=Tryz.f4:=(Option.some.inj (Tryz.func4.symm.trans hfn)).symm
   exact⟨by kernel_rfl,λj t ht=>by
    rw [Tryz.params4] at ht;have hm:t∈[24,3,38]:=by simpa using Array.mem_of_getElem? ht
    have hall:([24,3,38].all λu=> !Tryz.prog.wantsStandIn u)=true:=by kernel_rfl
    exact(show Tryz.prog.wantsStandIn t=false by simpa using bG.1 hall t hm)⟩)
  (by kernel_rfl)
end Go.Proofs.YtihplbclhhhgdaaGreatDoor
end
