/- The law returns true for every input, and each argument reads afterwards as it read before; no condition. -/
import Derived.Test.YtihplbclhhhgdaaGreatDoorSxj
import Derived.SizedLaws
import Derived.ChangeArms
import Derived.Deep.Slices
import Derived.Carry
import Derived.LaidMore
import Derived.WideKeyElems2
import Derived.ProofKit
import Derived.OpenShut
import Derived.ReadAgain
import Derived.Test.YtihplbclhhhgdaaGreatDoorRows
import Derived.MakeChecks
import Derived.Test.YtihplbclhhhgdaaGreatDoorCards
import Derived.Test.YtihplbclhhhgdaaGreatDoorTie
import Derived.Stop.Joined
import Derived.SevenTiedAt
set_option linter.unusedVariables false
set_option linter.unusedSimpArgs false
set_option linter.unusedSectionVars false
section
set_option maxRecDepth 100000
open Go Go.Sx Go.Proofs Go.Nov
namespace Go.Proofs.Tryz
attribute [local simp] eqKV eqA eqA0 eqH eqB eqL eqL0
structure FvA where
 s:List Ver
 f:List Fx
 h:List Ch
def flVC:Ctr:=ctrP false (λp:FvA=>[verA p.s,envA p.f p.h]) (λp=>p.s.length<2^30/\fitV p.s/\envP (p.f,p.h)) (λp r=>r=flV p.s p.f p.h) (λ_ (r:List Fl×Int)=>(.tup [flS r.1,.i r.2],[]))
noncomputable def GFaV:=tb VP (tb ZP (tb zm5 (tb VL tz)))
theorem Ver.zu5(v:Ver):cellsOf v.av=some v.cells/\v.cells.length=13/\v.cells.all oneA=true/\v.cells.all xP=true:=⟨rfl,rfl,rfl,rfl⟩
theorem fitV.any{s:List Ver}(h:fitV s)(i:Nat):(s.getD i Ver.nil).con.big<2^37/\(s.getD i Ver.nil).con.nodes<=1000000:=by
 by_cases hi:i<s.length
 ·exact h i hi
 ·have:s.getD i Ver.nil=Ver.nil:=by simp only [List.getD]; rw [aZ (by omega)]; rfl
  rw [this]; exact⟨by decide +kernel,by decide +kernel⟩
theorem ztq(l m:List Fl):eqG (l.length+m.length) 5 (appG l.length (flG l) (flG m)) (flG (l++m)):=by
 intro j o hj ho;simp only [appG,flG];by_cases h:j<l.length
 ·rw [aP h]; simp [List.getD,bT,h]
 ·rw [aO h]; simp [List.getD,bT,h]
theorem Un(x:Fl):∀ l:List Fl,(insF x l).length=l.length+1
 | []=>rfl
 | y::l=>by rw [insF]; split<;>simp [Un x l]
theorem K5:∀ (l m:List Fl),(l.foldl (λm x=>insF x m) m).length=m.length+l.length
 | [],m=>rfl
 | x::l,m=>by rw [List.foldl_cons,K5 l,Un,aL]; omega
theorem zf9(l:List Fl):(ordM l).length=l.length:=by
 unfold ordM; rw [K5]; simp
theorem zq8(c:Con)(day fin:Int)(f:List Fx)(h:List Ch):(befM c day fin f h).1.length<=c.nodes:=by
 unfold befM;split
 ·simp
 split
 ·simp
 split
 ·simp
 split
 ·simp
 ·rename_i u hu;have:=(Qm c hu).1;simp only [zf9];omega
theorem zib{s:List Ver}{f:List Fx}{h:List Ch}{pre:List Nat}{x:Nat}(hp:pre++[x] <+: List.range s.length)(h1:∀ i∈pre,(flAt s f h i).2=0)(h2:(flAt s f h x).2≠0):Kd s f h s.length=some x:=by
 obtain⟨r,hr⟩:=hp;unfold Kd;rw [<- hr,List.append_assoc,List.find?_append]
 have:pre.find? (λi=>decide ((flAt s f h i).2≠0))=none:=by
  rw [List.find?_eq_none];intro i hi;simp [h1 i hi]
 rw [this];simp [h2]
theorem zi7{s:List Ver}{f:List Fx}{h:List Ch}(h1:∀ i∈List.range s.length,(flAt s f h i).2=0):Kd s f h s.length=none:=by
 unfold Kd;rw [List.find?_eq_none];intro i hi;simp [h1 i hi]
theorem za3{s:List Ver}{f:List Fx}{h:List Ch}(pre:List Nat)(x:Nat):kn s f h (pre++[x])=kn s f h pre++(flAt s f h x).1:=by
 unfold kn; simp
theorem zu0(s:List Ver)(f:List Fx)(h:List Ch)(n:Nat):VQ 5 4 n 5 [.box [.sl s.length 13 (verG s)],.box [.sl f.length 3 (fxG f),.sl h.length 4 (chG h)],.box [.nils],.box [.i 0],.box [.osl 5 5 0 n]]:=by
 refine⟨rfl,rfl,λi b hi hb=> ?_⟩
 match i,hi with
 | 0,_=>cases hb; exact⟨_,rfl,rfl⟩
 | 1,_=>cases hb; exact⟨_,rfl,rfl⟩
 | 2,_=>cases hb; exact⟨_,rfl,rfl⟩
 | 3,_=>cases hb; exact⟨_,rfl,rfl⟩
 | i+5,_=>simp at hb
noncomputable def LFv:List Go.Sx.Item:=jE 4 (f19.body.getD .skip)
noncomputable def LFv4:List Go.Sx.Item:=LFv.drop 4
def SFv:KV:=[(2,.ptr 0 0),(3,.ptr 1 0),(4,.ptr 2 0),(5,.ptr 3 0),(8,.ptr 4 0)]
def SFv2:KV:=[(3,.ptr 1 0),(4,.ptr 2 0),(5,.ptr 3 0),(8,.ptr 4 0),Z 24,Z 25,Z 26]
def HFv(s:List Ver)(f:List Fx)(h:List Ch)(o:AV):Heap:=[.box [.sl s.length 13 (verG s)],.box [.sl f.length 3 (fxG f),.sl h.length 4 (chG h)],.box [.nils],.box [.i 0],.box [o]]
abbrev q55(A:List AV)(x:FI):Prop:=eqL A [(Con.conA x.c),.i x.day,.i x.fin,.agg [.sl x.f.length 3 (fxG x.f),.sl x.h.length 4 (chG x.h)]]/\FI.pre x
theorem zn1:zd prog 19 flVC:=by
 refine zf' f19 λp hp O w0 Q hq=> ?_
 obtain⟨s,f,h⟩:=p;replace hq:=hq _ rfl;obtain⟨h1,h2,h3⟩:=hp;simp only at h1 h2 h3 hq;have h8:∀ {e:Int},(!decide (e=0))=true->e≠0:=λh he=>by rw [he] at h; cases h
 have h9:∀ {e:Int},(!decide (e=0))=false->e=0:=λ{e} h=>by
  by_cases he:e=0
  ·exact he
  ·rw [aW he] at h; cases h
 have nil:∀ e:Int,LeA (.tup [.nils,.i e]) (.tup [flS [],.i e]):=λe=>LeA.tup ⟨LeA.nils,LeA.refl _,trivial⟩
 refine zb.spine 4 ?_;refine zb.cutL (ι:={u:Unit // errV s=0/\errE f h=0}) LFv 4 0 (λ_=>SFv) (λ_=>HFv s f h .nils) (by kernel_rfl) (by kernel_rfl) ?_ ?_
 ·refine zb.n GFaV.h [2,3,4,5,8] (let v2:List AV:=[.sl s.length 13 (verG s)];let v1:List AV:=[.sl f.length 3 (fxG f),.sl h.length 4 (chG h)];.ex (q33 [.agg [.sl s.length 13 (verG s)]]) λn=>.all (λ(r:Int)=>r=errV n) λn=>.N (n=0) (.R [.nils,.i n] [.box v2,.box v1,.box [.nils],.box [.i n]]) (.ex (q50 [.agg [.sl f.length 3 (fxG f),.sl h.length 4 (chG h)]]) λn=>.all (λ(r:Int)=>r=errE n.1 n.2) λn=>.N (n=0) (.R [.nils,.i n] [.box v2,.box v1,.box [.nils],.box [.i n]]) (.leaf (.back 0 [(2,.ptr 0 0),(3,.ptr 1 0),(4,.ptr 2 0),(5,.ptr 3 0),(8,.ptr 4 0)] [.box v2,.box v1,.box [.nils],.box [.i 0],.box [.nils]])))) ?_;simp only [q33,q50,Tree.holds,ze,inR,lo,hi,aD];unfold flV at hq;refine⟨s,⟨⟨jf s,trivial⟩,by omega,h2⟩,⟨_,rfl⟩,?_⟩;rintro _ rfl;refine⟨λg=> ?_,λg=>⟨(f,h),⟨⟨⟨⟨rfl,rfl,za _ _ _⟩,⟨rfl,rfl,za _ _ _⟩,trivial⟩,trivial⟩,h3⟩,⟨_,rfl⟩,?_⟩⟩
  ·rw [aP (h8 g)] at hq;exact RetR.le0 hq (λh=>by cases h) (nil _)
  rintro _ rfl;have g:=h9 g;rw [aO (λh=>h g)] at hq;refine⟨λg2=> ?_,λg2=> ?_⟩
  ·rw [aP (h8 g2)] at hq;exact RetR.le0 hq (λh=>by cases h) (nil _)
  rw [aP trivial];exact⟨⟨(),g,h9 g2⟩,by simp [SFv],by simp [HFv,za],by kernel_rfl,aI _⟩
 rintro⟨_,g1,g2⟩;unfold flV at hq;rw [aO (λh=>h g1),aO (λh=>h g2)] at hq;show wh none prog f19 O 0 w0 [] _ _ LFv4 _;have hlen:=Zo (xe.1 g1);refine zb.zro 4 0 5 (flG []) rfl rfl (by kernel_rfl) ?_;refine zb.n GFaV.h [3,4,5,8,24,25,26] (.ex (λ(x:List Ver)=>eqL [.agg [.sl s.length 13 (verG s)]] [.agg [.sl x.length 13 (verG x)]]/\eqH [] []/\0=0/\True) λn=>.A λn_1=>.leaf (.range (Prod.fst (rfs LFv4 0)) (Prod.snd (rfs LFv4 0)) [(3,.ptr 1 0),(4,.ptr 2 0),(5,.ptr 3 0),(8,.ptr 4 0),(24,.fn 58 [] [.ptr 6 0]),Z 25,Z 26] [.box [.sl s.length 13 (verG s)],.box [.sl f.length 3 (fxG f),.sl h.length 4 (chG h)],.box [.nils],.box [.i 0],.box [.osl 5 5 0 0],.arr 0 5 (flG []),.box [.sl n.length 13 (verG n)]])) ?_;simp only [Tree.holds,ze,inR,lo,hi,aD];refine⟨s,⟨⟨jf s,trivial⟩,trivial,trivial,trivial⟩,⟨(),trivial⟩,λ_ _=> ?_⟩;have hfit:=h2.any
 refine zb.zp8 (tg:=24) (tp:=25) (tq:=26) (td:=9) (te:=10) (t:=44) (n:=13) (id0:=0) (k1:=[]) (kv:=SFv2) (zs:=[.i 0,.int .u8 0,.str [],.str [],.str [],.int .u8 0,.str [],.str [],.i 0,.nils,.i 0,.nils,.nils]) (cap:=[.ptr 6 0]) (gf:=58) (by kernel_rfl) (by kernel_rfl) (by kernel_rfl) rfl (enters_of Tryz.func58 (by kernel_rfl) rfl)
  (λi:Nat=>(s.getD i Ver.nil).av) (λi=>(s.getD i Ver.nil).cells) (λi=>Ver.zu5 _) (λi=>.i (endL s i)) (λ_=>rfl)
  (λpre=>(∀ i∈pre,(flAt s f h i).2=0)/\(kn s f h pre).length<=pre.length*1000000) 4 5 (λpre=>HFv s f h (.osl 5 5 0 (kn s f h pre).length)) (λpre=>(kn s f h pre).length) (λpre=>flG (kn s f h pre))
  (λq=>[.box [.sl s.length 13 (verG s)],.box [.sl f.length 3 (fxG f),.sl h.length 4 (chG h)],.box [.nils],.box [.i (flAt s f h (q.getLastD 0)).2],.box [.undef]]) (λ_=>[]) (λq=>∃ pre x,q=pre++[x]/\(∀ i∈pre,(flAt s f h i).2=0)/\(flAt s f h x).2≠0) (λ_=>False) (λxs=>xs=List.range s.length) (λpre=>pre <+: List.range s.length) s.length 5
  rfl (by decide +kernel) (by decide +kernel) (by decide +kernel) (by decide +kernel) (by decide +kernel) (by decide) (by decide) (by decide) (by decide) (by decide) (by decide) ?_ ⟨λi hi=>(by cases hi),by simp [kn]⟩ (by kernel_rfl) (aI _) (λpre=>zu0 s f h _) (λpre=>by simp [alive]) (λpre b hb=>by cases hb) ?_ ?_ ?_ (λ⟨_,h⟩=>h.elim) (λ_ _ h=>h.elim) ?_
 ·exact⟨by simp [SFv2],⟨⟨⟨rfl,rfl,za _ _ _⟩,trivial⟩,⟨⟨rfl,rfl,za _ _ _⟩,⟨rfl,rfl,za _ _ _⟩,trivial⟩,⟨trivial,trivial⟩,⟨⟨rfl,rfl⟩,trivial⟩,⟨⟨rfl,rfl,rfl,rfl⟩,trivial⟩,⟨rfl,rfl,za _ _ _⟩,trivial⟩,by kernel_rfl,aI _⟩
 ·intro w σ a hm vb hvb;obtain⟨ev,ew,k1,k2,k3⟩:=zkh (own2:=OwnN O (σ.take (5+1)) w) hm (i:=6) (m:=5+1) rfl (aJ _) (by omega) (λ_ h=>h) hvb;exact⟨ev,ew,k1,k2,k3⟩
 ·intro l pre i ⟨hI1,hI2⟩ hpl W E1;simp only [za3];generalize kn s f h pre=L at hI2 ⊢;refine zb.n GFaV.h [3,4,5,8,24,25,26] (let v4:=s.getD i Ver.nil;let v3:List AV:=[.sl f.length 3 (fxG f),.sl h.length 4 (chG h)];let v1:=Ver.con v4;.ex (q55 [(Con.conD v1),.i v4.day,.i (endL s i),.agg [.sl f.length 3 (fxG f),.sl h.length 4 (chG h)]]) λn=>.all (λ(r:List Fl×Int)=>r=befM n.c n.day n.fin n.f n.h) λn=>let v2:=List.length L+n.1.length;.N (n.2=0) (.R [] [.box [.sl s.length 13 (verG s)],.box v3,.box [.nils],.box [.i n.2],.box [.osl 5 5 0 L.length],.arr L.length 5 (flG L)]) (.side (0=0/\List.length L<=List.length L/\v2 *72<=140737488355328) (.leaf (.back 1 [(3,.ptr 1 0),(4,.ptr 2 0),(5,.ptr 3 0),(8,.ptr 4 0),Z 24,(25,.agg [.i v4.day,.int .u8 (Con.kind v1),.str (Con.src v1),.str (Con.dst v1),.str (Con.name v1),.int .u8 (Ex.kind (Con.x v1)),.str (Ex.rat (Con.x v1)),.str (Ex.name (Con.x v1)),.i (Ex.date (Con.x v1)),.sl (List.length (Ex.sub (Con.x v1))) 5 (Ex.exG (Ex.sub (Con.x v1))),.i (Con.date v1),.sl (List.length (Con.days v1)) 1 (Con.dayG (Con.days v1)),.sl (List.length (Con.sub v1)) 12 (Con.deep v1)]),(26,.i (endL s i))] [.box [.sl s.length 13 (verG s)],.box v3,.box [.nils],.box [.i 0],.box [.osl 5 5 0 v2],.arr v2 5 (appG L.length (flG L) (flG n.1))])))) ?_;simp only [q55,Tree.holds,ze,inR,lo,hi,aD];obtain⟨f1,f2⟩:=hfit i;refine⟨⟨(s.getD i Ver.nil).con,(s.getD i Ver.nil).day,endL s i,f,h⟩,⟨⟨kJ _,⟨rfl,rfl⟩,⟨rfl,rfl⟩,⟨⟨rfl,rfl,za _ _ _⟩,⟨rfl,rfl,za _ _ _⟩,trivial⟩,trivial⟩,by show(s.getD i Ver.nil).con.big<2^40; omega,f2,h3⟩,⟨_,rfl⟩,?_⟩;rintro _ rfl;show((!decide ((flAt s f h i).2=0))=true->_)/\((!decide ((flAt s f h i).2=0))=false->_);have hml:(flAt s f h i).1.length<=1000000:=bP (zq8 _ _ _ _ _) f2;refine⟨λg=>⟨⟨pre,i,rfl,hI1,h8 g⟩,?_⟩,λg=> ?_⟩
  ·have e:(pre++[i]).getLastD 0=i:=by simp
   rw [e];exact⟨trivial,by simp [za,flAt],by kernel_rfl,aJ _⟩
  ·have hb:(L.length+(flAt s f h i).1.length)*72<=140737488355328:=by
    have:pre.length*1000000<=100*1000000:=aT _ (by omega);omega
   refine⟨⟨trivial,aJ _,hb⟩,λ_=>.inl ⟨trivial,⟨λj hj=> ?_,by simp only [bO,List.length_singleton,bH]; omega⟩,?_⟩⟩
   ·rcases bZ.1 hj with hj | hj
    ·exact hI1 j hj
    ·rw [List.mem_singleton.1 hj]; exact h9 g
   ·refine⟨trivial,?_,by kernel_rfl,by show 5<=6; decide⟩;simp only [HFv,accH,List.cons_append,List.nil_append,eqH,eqB,eqL,eqL0,eqA,eqA0];simp [za,flAt];exact ztq _ _
 ·intro xs hxs ⟨hI1,hI2⟩;subst hxs;rw [zi7 hI1] at hq;generalize kn s f h (List.range s.length)=L at hI2 hq ⊢;refine zb.n GFaV.h [3,4,5,8,24,25,26] (.R [.osl 5 5 0 L.length,.i 0] [.box [.sl s.length 13 (verG s)],.box [.sl f.length 3 (fxG f),.sl h.length 4 (chG h)],.box [.osl 5 5 0 L.length],.box [.i 0],.box [.osl 5 5 0 L.length],.arr L.length 5 (flG L)]) ?_;simp only [Tree.holds,ze];refine RetR.le0 hq (λh=>by cases h) (LeA.tup ⟨LeA.sl rfl λj o hj ho=> ?_,LeA.refl _,trivial⟩);rw [uP L.length 5 _ j o hj ho];exact LeA.refl _
 ·intro pre hpre hX;obtain⟨q,x,rfl,hX1,hX2⟩:=hX;rw [zib hpre hX1 hX2] at hq;have e:(q++[x]).getLastD 0=x:=by simp
  rw [e];have e1:resX prog (mk f19.ntmps SFv2 [.box [.sl s.length 13 (verG s)],.box [.sl f.length 3 (fxG f),.sl h.length 4 (chG h)],.box [.nils],.box [.i (flAt s f h x).2],.box [.undef]]) f19.results.toList = .leaf [.nils,.i (flAt s f h x).2]:=by kernel_rfl
  rw [e1];exact RetR.le0 hq (λh=>by cases h) (nil _)
noncomputable def K43:=Go.Sx.aA f43
noncomputable def K44:=Go.Sx.aA f44
theorem Con.xr:∀ s:List Con,s.length<=Con.zx s
 | []=>by simp
 | c::s=>by rw [Con.zx]; have:=Con.xr s; have:=Con.Qx c; simp; omega
def ze5(n:Nat):Ctr:=ctrP true (λp:Con×Nat×Nat=>[p.1.conA,.i (p.2.1:Int),.i (p.2.2:Int)]) (λp=>p.1.nodes<n/\p.2.1<2^40/\p.2.2<2^40)
 (λp (r:Nat×Bool)=>1<=r.1/\r.1<=p.2.1+1/\(r.2=true->r.1<=p.2.1->r.1=p.1.nodes)) (λ_ (r:Nat×Bool)=>(.tup [.i (r.1:Int),.bool r.2],[]))
def SCk9(limit deep m i:Nat):KV:=[(1,.i (limit:Int)),(2,.i (deep:Int)),(3,.ptr 0 0),(8,.i (m:Int)),(9,.i (i:Int)),Z 20,Z 21,Z 22]
theorem Uz(n:Nat)(ih:zd prog 43 (ze5 n)):zd prog 43 (ze5 (n+1)):=by
 refine zf' f43 λp hp O w0 Q hq=> ?_
 obtain⟨x,limit,deep⟩:=p;obtain⟨hxn,hli,hde⟩:=hp;simp only at hxn hli hde hq;rw [Con.jF] at hxn hq;have hlb:=Con.xr x.sub;refine zb.n (vF ih) [1,2,3,8,9,20,21,22] (.D ((deep:Int)=0) (.R [.i 1,.bool false] [.box (Con.zc x)]) (.leaf (.loop (lps K43 0).1 (lps K43 0).2 [(1,.i limit),(2,.i deep),(3,.ptr 0 0),(8,.i 1),(9,.i 0),Z 20,Z 21,Z 22] [.box (Con.zc x)]))) ?_;simp only [Tree.holds,ze];refine⟨λh0=> ?_,λh0=> ?_⟩
 ·exact RetR.scal (hq (1,false) ⟨aJ _,by simp,λh=>by cases h⟩) rfl (by simp [resV])
 ·have h0:0<deep:=by have:=aC h0; omega
  refine zb.loop (ι:={q:Nat×Nat // q.1<=limit+1/\q.2<q.1/\q.2<=x.sub.length/\(q.1<=limit->q.1=1+Con.zx (x.sub.take q.2))}) (λq=>SCk9 limit deep q.1.1 q.1.2) (λ_=>[.box x.zc]) (λq=>x.sub.length - q.1.2) ⟨(1,0),by simp [Con.zx]⟩ 0 ?_ ?_ (by kernel_rfl)
  ·exact⟨by simp [SCk9],⟨z8 x,trivial⟩,by kernel_rfl,aI _⟩
  ·rintro⟨⟨c,i⟩,h1,h2,h3,h4⟩;simp only at h1 h2 h3 h4;refine zb.n (vF ih) [1,2,3,8,9,20,21,22] (.ite (bif decide ((i:Int)<(x.sub.length:Int)) then decide ((c:Int)<=limit) else false) (.side ((0:Int)<=i/\(i:Int)<(x.sub.length:Int)) (.S ((limit:Int) - c) (.S (deep-1) (.ex (λ(x_1:Con×Nat×Nat)=>eqL [(Con.conD (List.getD x.sub (i:Int).toNat Con.nil)),.i ((limit:Int) - c),.i (deep-1)] [(Con.conA x_1.1),.i x_1.2.1,.i x_1.2.2]/\Con.nodes x_1.1<n/\x_1.2.1<1099511627776/\x_1.2.2<1099511627776) λn=>.all (λ(r:Nat×Bool)=>1<=r.1/\r.1<=n.2.1+1/\(r.2=true->r.1<=n.2.1->r.1=Con.nodes n.1)) λn=>.ite (!Prod.snd n) (.R [.i c,.bool false] [.box (Con.zc x)]) (.S ((c:Int)+n.1) (.S (i+1) (.leaf (.back 0 [(1,.i limit),(2,.i deep),(3,.ptr 0 0),(8,.i ((c:Int)+n.1)),(9,.i (i+1)),Z 20,Z 21,Z 22] [.box (Con.zc x)])))))))) (.R [.i c,.bool true] [.box (Con.zc x)])) ?_;simp only [Tree.holds,ze,inR,lo,hi,aD];refine⟨λhlt=> ?_,λhge=> ?_⟩
   ·have hlt1:i<x.sub.length/\c<=limit:=by
     by_cases g1:i<x.sub.length
     ·by_cases g2:c<=limit
      ·exact⟨g1,g2⟩
      ·rw [aW (show ¬ (c:Int)<=limit by omega)] at hlt;cases hx:decide ((i:Int)<x.sub.length)<;>rw [hx] at hlt<;>cases hlt
     ·rw [aW (show ¬ (i:Int)<x.sub.length by omega)] at hlt;cases hlt
    obtain⟨hlt,hcl⟩:=hlt1;have hg:=Con.je hlt;have ht:=Con.vf hlt;have h4:=h4 hcl
    iterate 3 refine⟨by omega,λ_=> ?_⟩
    refine⟨(x.sub.getD i Con.nil,limit - c,deep - 1),⟨?_,by show(x.sub.getD i Con.nil).nodes<n; omega,by show limit - c<2^40; omega,by show deep - 1<2^40; omega⟩,⟨(1,false),aJ _,by simp,λh=>by cases h⟩,?_⟩
    ·have e1:(limit:Int) - c=((limit - c:Nat):Int):=by omega
     have e2:(deep:Int) - 1=((deep - 1:Nat):Int):=by omega
     rw [e1,e2];exact⟨kJ _,⟨rfl,rfl⟩,⟨rfl,rfl⟩,trivial⟩
    rintro⟨m',b⟩ ⟨g1,g2,g3⟩;simp only at g1 g2 g3;refine⟨λhb=> ?_,λhb=> ?_⟩
    ·exact RetR.scal (hq (c,false) ⟨by show 1<=c; omega,by show c<=limit+1; omega,λh=>by cases h⟩) rfl (by simp [resV])
    ·have hb:b=true:=by simpa using hb
     refine⟨by omega,λ_=>⟨by omega,λ_=> ?_⟩⟩;rw [aP trivial];refine⟨⟨(c+m',i+1),?_,?_,hlt,?_⟩,by show x.sub.length - (i+1)<x.sub.length - i; omega,?_,⟨z8 x,trivial⟩,by kernel_rfl,aI _⟩
     ·show c+m'<=limit+1; omega
     ·show i+1<c+m'; omega
     ·show c+m'<=limit->c+m'=1+Con.zx (x.sub.take (i+1));intro hle;have:=g3 hb (by omega);omega
     ·simp [SCk9]
   ·refine RetR.scal (hq (c,true) ⟨by show 1<=c; omega,h1,λ_ hle=> ?_⟩) rfl (by simp [resV]);simp only at hle
    have hge:i=x.sub.length:=by
     by_cases g1:i<x.sub.length
     ·rw [aX (show(i:Int)<x.sub.length by omega),aX (show(c:Int)<=limit by omega)] at hge;cases hge
     ·omega
    have h4:=h4 hle;rw [hge,bD] at h4;exact h4
def VG:Ctr:=ctrP true (λp:Con×Nat×Nat=>[p.1.conA,.i (p.2.1:Int),.i (p.2.2:Int)]) (λp=>p.2.1<2^40/\p.2.2<2^40)
 (λp (r:Nat×Bool)=>1<=r.1/\r.1<=p.2.1+1/\(r.2=true->r.1<=p.2.1->r.1=p.1.nodes)) (λ_ (r:Nat×Bool)=>(.tup [.i (r.1:Int),.bool r.2],[]))
theorem zfh:zd prog 43 VG:=qY (λp=>p.1.nodes) Uz
theorem Con.zo0{c:Con}(h:c.thin):c.src.length<=2^48/\c.dst.length<=2^48/\c.name.length<=2^48/\c.x.thin/\c.days.length<=2^48/\c.sub.length<=2^48/\Con.jL c.sub:=by
 cases c; rw [Con.thin] at h; exact h
def Jf(n:Nat):Ctr:=ctrP true (λx:Con=>[x.conA]) (λx=>x.nodes<n/\x.nodes<=1000/\x.thin) (λx r=>r<=2^51+100000*x.nodes/\(r<100000->x.big<=3001*x.nodes+r)) (λ_ (r:Nat)=>(.i (r:Int),[]))
noncomputable def GWt0:=tb zf2 (tb Ul tz)
noncomputable def GWtc(n:Nat):Nat->Option Ctr:=λf=>if f=44 then some (Jf n) else GWt0.g f
theorem zcz{n:Nat}(ih:zd prog 44 (Jf n)):∀ g c,GWtc n g=some c->zd prog g c:=λg c h=>by
 unfold GWtc at h;split at h
 ·rename_i e; cases h; subst e; exact ih
 ·exact GWt0.h g c h
def SWt(m i:Nat):KV:=[(1,.ptr 0 0),(3,.i (m:Int)),(4,.i (i:Int)),Z 34,Z 35]
theorem UJ(n:Nat)(ih:zd prog 44 (Jf n)):zd prog 44 (Jf (n+1)):=by
 refine zf' f44 λx hp O w0 Q hq=> ?_
 obtain⟨hxn,hle,hth⟩:=hp;refine zb.n (zcz ih) [1,3,4,34,35] (.ex (λ(x_1:Ex)=>eqL [(Ex.exA x.x)] [x_1.exA]/\Ex.thin x_1) λn=>.all (λ(r:Bool)=>r=false->Ex.size n<=600/\Ex.zu n<=3000) λn=>.ite n (.R [.i 200000] [.box (Con.zc x)]) (.S (x.src.length+x.dst.length) (.S (x.src.length+x.dst.length+x.name.length) (.S (x.src.length+x.dst.length+x.name.length+x.days.length) (.ex (q26 [(Ex.exA x.x)]) λn=>.all (λ(r:Nat)=>r=Ex.size n) λn=>.S ((4:Int)*n) (.S ((x.src.length:Int)+(x.dst.length:Int)+(x.name.length:Int)+(x.days.length:Int)+(4:Int)*n) (.leaf (.loop (lps K44 0).1 (lps K44 0).2 [(1,.ptr 0 0),(3,.i ((x.src.length:Int)+(x.dst.length:Int)+(x.name.length:Int)+(x.days.length:Int)+(4:Int)*n)),(4,.i 0),Z 34,Z 35] [.box (Con.zc x)])))))))) ?_;simp only [q26,Tree.holds,ze,inR,lo,hi,aD];obtain⟨t1,t2,t3,t4,t5,t6,t7⟩:=Con.zo0 hth;have hbig:=Con.xn x;have hnod:=Con.jF x;have hlb:=Con.xr x.sub;refine⟨x.x,⟨⟨j2 x.x,trivial⟩,t4⟩,⟨true,λh=>by cases h⟩,λb hb=>⟨λh=> ?_,λh=> ?_⟩⟩
 ·exact RetR.scal (hq 200000 ⟨by omega,λh=>by omega⟩) rfl (by simp [resV])
 subst h;obtain⟨b1,b2⟩:=hb rfl
 iterate 3 refine⟨by omega,λ_=> ?_⟩
 refine⟨x.x,⟨⟨j2 x.x,trivial⟩,by omega⟩,⟨_,rfl⟩,?_⟩;rintro _ rfl
 iterate 2 refine⟨by omega,λ_=> ?_⟩
 refine zb.loop (ι:={q:Nat×Nat // q.2<=x.sub.length/\q.1<=2^51+100000*(1+Con.zx (x.sub.take q.2))/\(q.1<100000->1+x.src.length+x.dst.length+x.name.length+x.days.length+x.x.size+x.x.zu+Con.bigs (x.sub.take q.2)<=3001*(1+Con.zx (x.sub.take q.2))+q.1)}) (λq=>SWt q.1.1 q.1.2) (λ_=>[.box x.zc]) (λq=>x.sub.length - q.1.2) ⟨(x.src.length+x.dst.length+x.name.length+x.days.length+4*x.x.size,0),aI _,by simp only [List.take_zero,Con.zx]; omega,by simp only [List.take_zero,Con.zx,Con.bigs]; omega⟩ 0 ?_ ?_ (by kernel_rfl)
 ·exact⟨by simp [SWt],⟨z8 x,trivial⟩,by kernel_rfl,aI _⟩
 ·rintro⟨⟨m,i⟩,h1,h2,h3⟩;simp only at h1 h2 h3;refine zb.n (zcz ih) [1,3,4,34,35] (.ite (bif decide ((i:Int)<(x.sub.length:Int)) then decide ((m:Int)<100000) else false) (.side ((0:Int)<=i/\(i:Int)<(x.sub.length:Int)) (.ex (λ(x_1:Con)=>eqL [(Con.conD (List.getD x.sub (i:Int).toNat Con.nil))] [(Con.conA x_1)]/\Con.nodes x_1<n/\Con.nodes x_1<=1000/\Con.thin x_1) λn=>.all (λ(r:Nat)=>r<=2251799813685248+100000*Con.nodes n/\(r<100000->Con.big n<=3001*Con.nodes n+r)) λn=>.S ((m:Int)+n) (.S (i+1) (.leaf (.back 0 [(1,.ptr 0 0),(3,.i ((m:Int)+n)),(4,.i (i+1)),Z 34,Z 35] [.box (Con.zc x)]))))) (.R [.i m] [.box (Con.zc x)])) ?_;simp only [Tree.holds,ze,inR,lo,hi,aD];have hlt2:=Con.ZV x.sub i;refine⟨λhlt=> ?_,λhge=> ?_⟩
  ·have hlt1:i<x.sub.length/\m<100000:=by
    by_cases g1:i<x.sub.length
    ·by_cases g2:m<100000
     ·exact⟨g1,g2⟩
     ·rw [aW (show ¬ (m:Int)<100000 by omega)] at hlt;cases hx:decide ((i:Int)<x.sub.length)<;>rw [hx] at hlt<;>cases hlt
    ·rw [aW (show ¬ (i:Int)<x.sub.length by omega)] at hlt;cases hlt
   obtain⟨hlt,hm⟩:=hlt1;have h3:=h3 hm;have e1:=Con.je hlt;have e2:=Con.vf hlt;have e3:=Con.zgd hlt;refine⟨by omega,λ_=>⟨x.sub.getD i Con.nil,⟨⟨kJ _,trivial⟩,by omega,by omega,Con.Qa hlt t7⟩,⟨200000,by omega,λh=>by omega⟩,?_⟩⟩;intro r hr;obtain⟨r1,r2⟩:=hr;refine⟨by omega,λ_=>⟨by omega,λ_=> ?_⟩⟩;rw [aP trivial];refine⟨⟨(m+r,i+1),hlt,by simp only; omega,λhlt2=> ?_⟩,by show x.sub.length - (i+1)<x.sub.length - i; omega,by simp [SWt],⟨z8 x,trivial⟩,by kernel_rfl,aI _⟩;simp only at hlt2 ⊢;have:=r2 (by omega);omega
  ·refine RetR.scal (hq m ⟨by omega,λhm=> ?_⟩) rfl (by simp [resV])
   have hge:i=x.sub.length:=by
    by_cases g1:i<x.sub.length
    ·rw [aX (show(i:Int)<x.sub.length by omega),aX (show(m:Int)<100000 by omega)] at hge;cases hge
    ·omega
   have h3:=h3 hm;rw [hge,bD] at h3;omega
def Vu:Ctr:=ctrP true (λx:Con=>[x.conA]) (λx=>x.nodes<=1000/\x.thin) (λx r=>r<=2^51+100000*x.nodes/\(r<100000->x.big<=3001*x.nodes+r)) (λ_ (r:Nat)=>(.i (r:Int),[]))
theorem zg3:zd prog 44 Vu:=qY Con.nodes UJ
def zbc:Ctr:=ctrP true (λx:Con=>[x.conA]) (λx=>x.thin) (λx r=>r=false->x.nodes<=600/\x.big<=1900000) (λ_ (r:Bool)=>(.bool r,[]))
noncomputable def GGk:=tb zfh (tb zg3 tz)
theorem VA:zd prog 14 zbc:=by
 refine zf' f14 λx hx O w0 Q hq=> ?_
 refine zb.n GGk.h [] (.ex (λ(x_1:Con×Nat×Nat)=>eqL [(Con.conA x),.i 600,.i 100] [(Con.conA x_1.1),.i x_1.2.1,.i x_1.2.2]/\x_1.2.1<1099511627776/\x_1.2.2<1099511627776) λn=>.all (λ(r:Nat×Bool)=>1<=r.1/\r.1<=n.2.1+1/\(r.2=true->r.1<=n.2.1->r.1=Con.nodes n.1)) λn=>.ex (λ(x_1:Con)=>(bif !Prod.snd n then true else decide ((600:Int)<n.1))=false->eqL [(Con.conA x)] [(Con.conA x_1)]/\Con.nodes x_1<=1000/\Con.thin x_1) λn_1=>.all (λ(x:Nat)=>(bif !Prod.snd n then true else decide ((600:Int)<n.1))=false->x<=2251799813685248+100000*Con.nodes n_1/\(x<100000->Con.big n_1<=3001*Con.nodes n_1+x)) λn_2=>.R [.bool (bif bif !Prod.snd n then true else decide ((600:Int)<n.1) then true else decide ((12000:Int)<n_2))] [.box (Con.zc x)]) ?_;simp only [Tree.holds,ze,inR,lo,hi,aD];refine⟨(x,600,100),⟨⟨zH x,⟨rfl,rfl⟩,⟨rfl,rfl⟩,trivial⟩,by show 600<1099511627776; omega,by show 100<1099511627776; omega⟩,⟨(1,false),aJ _,by show 1<=600+1; omega,λh=>by cases h⟩,?_⟩;rintro⟨c,b⟩ ⟨g1,g2,g3⟩;simp only at g1 g2 g3
 have hsz:(bif !b then true else decide (600<(c:Int)))=false->x.nodes<=600:=by
  intro h;cases b with
  | false=>cases h
  | true=>
   have h:¬ 600<(c:Int):=aC h;have:=g3 rfl (by omega);omega
 refine⟨x,λh=>⟨⟨zH x,trivial⟩,by have:=hsz h; omega,hx⟩,⟨200000,λ_=>⟨by omega,λh=>by omega⟩⟩,?_⟩;intro c2 hc2;refine RetR.scal (hq (bif (bif !b then true else decide (600<(c:Int))) then true else decide (12000<(c2:Int))) λh=> ?_) rfl (by simp [resV]);cases ht:(bif !b then true else decide (600<(c:Int))) with
 | true=>rw [ht] at h; cases h
 | false=>
  rw [ht] at h;obtain⟨_,h2⟩:=hc2 ht;have h:¬ 12000<(c2:Int):=aC h;have h3:=h2 (by omega);have h4:=hsz ht;refine⟨h4,?_⟩;omega
end Go.Proofs.Tryz
end
section
open Go Go.Sx Go.Proofs Go.Nov
namespace Go.Proofs.Tryz
def zcp(p:List Fx×List Ch):Prop:=p.1.length<2^60/\p.2.length<2^60/\(∀ j,j<p.1.length->zj1 (p.1.getD j Fx.nil))/\∀ j,j<p.2.length->zcg (p.2.getD j Ch.nil)
theorem zi8{p:List Fx×List Ch}(h:fitP p):envP p:=by
 obtain⟨h1,h2,h3,h4⟩:=h;refine⟨by omega,by omega,λj hj=> ?_,λj hj=> ?_⟩
 ·obtain⟨a,b⟩:=h3 j hj; exact⟨by omega,by omega⟩
 ·obtain⟨a,b⟩:=h4 j hj; exact⟨by omega,by omega⟩
end Go.Proofs.Tryz
end
section
namespace Go.Nov
end Go.Nov
end
section
set_option maxRecDepth 100000
open Go Go.Sx Go.Proofs Go.Nov
namespace Go.Proofs.Tryz
attribute [local simp] eqKV eqA eqA0 eqH eqB eqL eqL0
noncomputable def K22:=Go.Sx.aA f22
def zmo:Ctr:=ctrP false (λk:FI=>[k.c.conA,.i k.day,envA k.f k.h]) FI.pre (λk r=>r=yi k.c k.day k.f k.h) (λ_ (r:List Fl×Int)=>(.tup [flS r.1,.i r.2],[]))
noncomputable def GFs:=tb VL tz
theorem zad:zd prog 20 zmo:=by
 refine zf' f20 λk hp O w0 Q hq=> ?_
 obtain⟨c,day,fin,f,h⟩:=k;replace hq:=hq _ rfl;simp only at hq;refine zb.n GFs.h [] (.ex (q55 [(Con.conA c),.i day,.i 100000,.agg [.sl f.length 3 (fxG f),.sl h.length 4 (chG h)]]) λn=>.all (λ(r:List Fl×Int)=>r=befM n.c n.day n.fin n.f n.h) λn=>.R [.sl n.1.length 5 (flG n.1),.i n.2] [.box (Con.zc c),.box [.sl f.length 3 (fxG f),.sl h.length 4 (chG h)]]) ?_;simp only [q55,Tree.holds,ze];refine⟨⟨c,day,100000,f,h⟩,⟨⟨zH c,⟨rfl,rfl⟩,⟨rfl,rfl⟩,⟨⟨rfl,rfl,λ_ _ _ _=>rfl⟩,⟨rfl,rfl,λ_ _ _ _=>rfl⟩,trivial⟩,trivial⟩,hp⟩,⟨_,rfl⟩,?_⟩;rintro _ rfl;exact RetR.le0 hq (λh=>by cases h) (LeA.refl _)
theorem Fl.same{x y:Fl}(h1:x.date=y.date)(h2:x.src=y.src)(h3:x.dst=y.dst)(h4:x.ccy=y.ccy)(h5:x.amt=y.amt):x=y:=by
 cases x; cases y; simp_all
def zab:Ctr:=ctrP true (λp:List Fl×List Fl=>[flS p.1,flS p.2]) (λp=>p.1.length<2^40) (λp r=>(r=true↔p.1=p.2)) (λ_ (r:Bool)=>(.bool r,[]))
def SSf(l m:List Fl)(i:Nat):KV:=[(0,flS l),(1,flS m),(5,.i (i:Int))]
theorem Uk:zd prog 22 zab:=by
 refine zf' f22 λp hp O w0 Q hq=> ?_
 obtain⟨l,m⟩:=p;simp only at hp hq;refine zb.n zC [0,1,5] (.N ((l.length:Int)=m.length) (.R [.bool false] []) (.leaf (.loop (lps K22 0).1 (lps K22 0).2 [(0,.sl l.length 5 (flG l)),(1,.sl m.length 5 (flG m)),(5,.i 0)] []))) ?_;simp only [Tree.holds,ze];refine⟨λh=> ?_,λh=> ?_⟩
 ·refine RetR.scal (hq false ⟨λh=>(by cases h),λhe=> ?_⟩) rfl (by simp [resV]);subst he;simp at h
 ·have hl:l.length=m.length:=by simp at h; omega
  refine zb.loop (ι:={i:Nat // i<=l.length/\∀ j,j<i->l.getD j Fl.nil=m.getD j Fl.nil}) (λi=>SSf l m i.1) (λ_=>[]) (λi=>l.length - i.1) ⟨0,aI _,λj hj=>by omega⟩ 0 ?_ ?_ (by kernel_rfl)
  ·exact⟨by simp [SSf,flS,za],trivial,by kernel_rfl,aI _⟩
  ·rintro⟨i,hil,hib⟩;refine zb.n zC [0,1,5] (let v2:=m.getD (i:Int).toNat Fl.nil;let v1:=l.getD (i:Int).toNat Fl.nil;.D ((i:Int)<l.length) (.side ((0:Int)<=i/\(i:Int)<l.length) (.side ((0:Int)<=i/\(i:Int)<m.length) (.ite (!(decide (Fl.date v1=Fl.date v2)&&(decide (Fl.src v1=Fl.src v2)&&(decide (Fl.dst v1=Fl.dst v2)&&(decide (Fl.ccy v1=Fl.ccy v2)&&(decide (Fl.amt v1=Fl.amt v2)&&true)))))) (.R [.bool false] []) (.S (i+1) (.leaf (.back 0 [(0,.sl l.length 5 (flG l)),(1,.sl m.length 5 (flG m)),(5,.i (i+1))] [])))))) (.R [.bool true] [])) ?_;simp only [Tree.holds,ze,inR,lo,hi,aD];refine⟨λhlt=> ?_,λhge=> ?_⟩
   ·have hlt:i<l.length:=by have:=aB hlt; omega
    refine⟨by omega,λ_=>⟨by omega,λ_=>⟨λg=> ?_,λg=>⟨by omega,λ_=> ?_⟩⟩⟩⟩
    ·refine RetR.scal (hq false ⟨λh=>(by cases h),λh3=> ?_⟩) rfl (by simp [resV]);subst h3; simp at g
    ·have g:l.getD i Fl.nil=m.getD i Fl.nil:=by
      rw [Bool.not_eq_false'] at g;simp only [bA,aK,and_true] at g;exact Fl.same g.1 g.2.1 g.2.2.1 g.2.2.2.1 g.2.2.2.2
     rw [aP trivial];refine⟨⟨i+1,hlt,λj hj=> ?_⟩,by show l.length - (i+1)<l.length - i; omega,by simp [SSf,flS,za],trivial,by kernel_rfl,aI _⟩;rcases aR j i with h1 | h1
     ·exact hib j h1
     ·have:j=i:=by omega
      rw [this]; exact g
   ·have hge:i=l.length:=by have:=aC hge; omega
    subst hge;refine RetR.scal (hq true ⟨λ_=> ?_,λ_=>rfl⟩) rfl (by simp [resV]);apply List.ext_getElem hl;intro j g1 g2;have:=hib j g1;simpa [List.getD,g1,g2] using this
end Go.Proofs.Tryz
end
section
namespace Go.Nov
open Go.Sx
namespace Ca
def rel(a:Ca)(y:Ex):Ex:=
 if a.extra=[48] then(if a.ratio=[49] then y else Tm.opx 6 [Tm.kon a.ratio,y])
 else Tm.opx 4 [if a.ratio=[49] then y else Tm.opx 6 [Tm.kon a.ratio,y],Tm.kon a.extra]
def onX(a:Ca)(k:Int)(n:L8)(d:Int):Bool:=decide (n=a.name)&&(decide (k=3)||decide (k=2)&&decide (a.date<=d))
mutual
def chg(a:Ca):Ex->Ex
 | .mk k r n d s=>if a.onX k n d=true then a.rel (.mk k [] a.into d []) else .mk k r n d (chgs a s)
def chgs(a:Ca):List Ex->List Ex
 | []=>[]
 | x::l=>chg a x::chgs a l
end
mutual
def adj(a:Ca):Ex->Ex
 | .mk k r n d s=>if a.onX k n d=true then a.rel (.mk k r a.into d s) else .mk k r n d (adjs a s)
def adjs(a:Ca):List Ex->List Ex
 | []=>[]
 | x::l=>adj a x::adjs a l
end
mutual
def whole(f:Ex->Ex):Con->Con
 | .mk k a b n x d l s=>.mk k a b n (f x) d l (qu f s)
def qu(f:Ex->Ex):List Con->List Con
 | []=>[]
 | c::l=>whole f c::qu f l
end
theorem JJ(f:Ex->Ex):∀ l,qu f l=l.map (whole f)
 | []=>by rw [qu]; rfl
 | x::l=>by rw [qu,JJ f l]; rfl
theorem YX(f:Ex->Ex)(c:Con):whole f c = .mk c.kind c.src c.dst c.name (f c.x) c.date c.days (c.sub.map (whole f)):=by
 cases c; rw [whole,JJ]; rfl
end Ca
end Go.Nov
end
section
namespace Go.Nov
open Go.Sx
theorem YG{k p:Int}(h:p∈qt k):p≠0:=by
 unfold qt ub at h;cases e:shpL.find? (λq=>q.1 == k) with
 | none=>rw [e] at h; simp at h
 | some q=>
  rw [e] at h;simp only [Option.map_some,Option.getD_some] at h;have hq:=List.mem_of_find?_eq_some e;have all:∀ q∈shpL,∀ p∈q.2.1,p≠0:=by decide
  exact all q hq p h
theorem JN{k d:Int}{r n:L8}{ss:List Int}(h:wE k r n d ss≠0):∀ p∈ss,p≠0:=by
 unfold wE at h;split at h
 ·split at h
  ·rename_i h2;rw [h2.2.2.2];exactλp hp=>YG hp
  ·exact absurd rfl h
 ·split at h
  ·rename_i h2;unfold ji at h2;have:ss=[]:=by simp at h2; exact h2.1
   rw [this]; simp
  ·exact absurd rfl h
theorem xp{k d:Int}{r n:L8}{ss:List Int}(h:wE k r n d ss≠0)(hk:k=3\/k=2):r=[]/\ss=[]:=by
 have hs:qL k=false:=by rcases hk with rfl | rfl<;>decide
 rw [wG hs] at h;split at h
 ·rename_i h2;unfold ji at h2;rcases hk with rfl | rfl<;>simp at h2
  ·exact⟨h2.2.1.1,h2.1⟩
  ·exact⟨h2.2.1.1,h2.1⟩
 ·exact absurd rfl h
namespace Ca
mutual
theorem zee(a:Ca):∀ x:Ex,x.zw≠0->adj a x=chg a x
 | .mk k r n d s,h=>by
  rw [Ex.zw] at h;rw [adj,chg];by_cases hh:a.onX k n d=true
  ·rw [aP hh,aP hh]
   have hk:k=3\/k=2:=by
    simp [onX] at hh;rcases hh.2 with h1 | h1
    ·exact .inl h1
    ·exact .inr h1.1
   obtain⟨h1,h2⟩:=xp h hk
   have:s=[]:=by
    cases s with
    | nil=>rfl
    | cons x s=>rw [Ex.qb] at h2; cases h2
   rw [h1,this]
  ·rw [aO hh,aO hh,KL a s (JN h)]
theorem KL(a:Ca):∀ s:List Ex,(∀ p∈Ex.qb s,p≠0)->adjs a s=chgs a s
 | [],_=>by rw [adjs,chgs]
 | x::s,h=>by
  rw [Ex.qb] at h;rw [adjs,chgs,zee a x (h _ (by simp)),KL a s (λp hp=>h p (by simp [hp]))]
end
theorem zl3(a:Ca)(y:Ex):(a.rel y).size<=y.size+4/\(a.rel y).zu<=y.zu+a.ratio.length+a.extra.length:=by
 unfold rel;split<;>split<;>(try simp only [Tm.opx,Tm.kon,Ex.size,Ex.zt,Ex.zu,Ex.zL,List.length_nil])<;>omega
mutual
theorem Jq(a:Ca):∀ x:Ex,(chg a x).size<=5*x.size/\(chg a x).zu<=x.zu+x.size*(a.into.length+a.ratio.length+a.extra.length)
 | .mk k r n d s=>by
  rw [chg];by_cases hh:a.onX k n d=true
  ·rw [aP hh];have h:=zl3 a (.mk k [] a.into d []);simp only [Ex.size,Ex.zt,Ex.zu,Ex.zL,List.length_nil] at h ⊢;have hm:a.into.length+a.ratio.length+a.extra.length<=(1+Ex.zt s)*(a.into.length+a.ratio.length+a.extra.length):=Nat.le_mul_of_pos_left _ (by omega);omega
  ·rw [aO hh];have h:=VC a s;simp only [Ex.size,Ex.zu,bH,Nat.one_mul] at h ⊢;omega
theorem VC(a:Ca):∀ s:List Ex,Ex.zt (chgs a s)<=5*Ex.zt s/\Ex.zL (chgs a s)<=Ex.zL s+Ex.zt s*(a.into.length+a.ratio.length+a.extra.length)
 | []=>by rw [chgs]; simp [Ex.zt,Ex.zL]
 | x::s=>by
  have h1:=Jq a x;have h2:=VC a s;rw [chgs];simp only [Ex.zt,Ex.zL,bH] at h1 h2 ⊢;omega
end
theorem zdd{k d:Int}{s t n:L8}{x:Ex}{l:List Int}{m:Nat}(h:vj k s t n x d l m=true):qS x=true\/x.zw≠0:=by
 have hn:numX x=true->x.zw≠0:=λh=>by simp [numX] at h; omega
 have ht:truX x=true->x.zw≠0:=λh=>by simp [truX] at h; omega
 unfold vj at h
 repeat' split at h
 all_goals simp only [bA,Bool.false_eq_true] at h
 all_goals first
  | exact h.elim
  | exact .inl h.2
  | exact .inr (hn h.2)
  | exact .inr (ht h.2)
  | exact .inr (hn h.1.1.2)
theorem zfk(a:Ca){x:Ex}(h:qS x=true\/x.zw≠0):adj a x=chg a x:=by
 rcases h with h | h
 ·obtain⟨k,r,n,d,s⟩:=x;simp [qS,Ex.kind,Ex.rat,Ex.name,Ex.date,Ex.sub] at h;obtain⟨h0,_,_,_,rfl⟩:=h;obtain rfl:k=0:=aB h0;rw [adj,chg,adjs,chgs];have:a.onX 0 n d=false:=by simp [onX]
  rw [this]; simp
 ·exact zee a x h
mutual
theorem zev(a:Ca):∀ c:Con,c.form=true->whole a.adj c=whole a.chg c
 | .mk k s t n x d l u,h=>by
  rw [Con.form,bA] at h;rw [whole,whole,zfk a (zdd h.1),We a u h.2]
theorem We(a:Ca):∀ u:List Con,Con.w8 u=true->qu a.adj u=qu a.chg u
 | [],_=>by rw [qu,qu]
 | c::u,h=>by
  rw [Con.w8,bA] at h;rw [qu,qu,zev a c h.1,We a u h.2]
end
mutual
theorem W4(a:Ca):∀ c:Con,(whole a.chg c).nodes=c.nodes/\(whole a.chg c).big<=5*c.big+c.big*(a.into.length+a.ratio.length+a.extra.length)
 | .mk k s t n x d l u=>by
  have h1:=Jq a x;have h2:=QH a u;rw [whole];simp only [Con.nodes,Con.big,bH] at h1 h2 ⊢;omega
theorem QH(a:Ca):∀ u:List Con,Con.zx (qu a.chg u)=Con.zx u/\Con.bigs (qu a.chg u)<=5*Con.bigs u+Con.bigs u*(a.into.length+a.ratio.length+a.extra.length)
 | []=>by rw [qu]; simp [Con.zx,Con.bigs]
 | c::u=>by
  have h1:=W4 a c;have h2:=QH a u;rw [qu];simp only [Con.zx,Con.bigs,bH] at h1 h2 ⊢;omega
end
def conv(a:Ca)(c:Con):Con×Int:=if a.ok=true then(if c.errC=0 then(if(whole a.chg c).errC=0 then(whole a.chg c,0) else(Con.nil,(whole a.chg c).errC)) else(Con.nil,c.errC)) else(Con.nil,8)
end Ca
end Go.Nov
end
section
namespace Go.Nov
open Go.Sx
namespace Ca
def more(a:Ca):Nat:=(if a.ratio=[49] then 0 else 2)+(if a.extra=[48] then 0 else 2)
mutual
def grow(a:Ca):Ex->Nat
 | .mk k r n d s=>if a.onX k n d=true then a.more else Uy a s
def Uy(a:Ca):List Ex->Nat
 | []=>0
 | x::l=>grow a x+Uy a l
end
theorem YC{a:Ca}{k d:Int}{n:L8}(h:a.onX k n d=true):k=3\/k=2:=by
 simp [onX] at h;rcases h.2 with h1 | h1
 ·exact .inl h1
 ·exact .inr h1.1
mutual
theorem zm8(a:Ca):∀ x:Ex,x.zw≠0->(chg a x).size=x.size+grow a x
 | .mk k r n d s,h=>by
  rw [Ex.zw] at h;rw [chg,grow];by_cases hh:a.onX k n d=true
  ·rw [aP hh,aP hh];obtain⟨_,h2⟩:=xp h (YC hh)
   have:s=[]:=by
    cases s with
    | nil=>rfl
    | cons x s=>rw [Ex.qb] at h2; cases h2
   subst this;unfold rel more;split<;>split<;>simp [Tm.opx,Tm.kon,Ex.size,Ex.zt]
  ·rw [aO hh,aO hh];simp only [Ex.size];rw [Vz a s (JN h)];omega
theorem Vz(a:Ca):∀ s:List Ex,(∀ p∈Ex.qb s,p≠0)->Ex.zt (chgs a s)=Ex.zt s+Uy a s
 | [],_=>by rw [chgs,Uy]; rfl
 | x::s,h=>by
  rw [Ex.qb] at h;rw [chgs,Uy];simp only [Ex.zt];rw [zm8 a x (h _ (by simp)),Vz a s (λp hp=>h p (by simp [hp]))];omega
end
end Ca
end Go.Nov
end
section
namespace Go.Nov
open Go.Sx
section
variable {x:Ex} {day:Int} {f:List Fx} {c:List Ch}
end
structure Lg(p q x y:Ex):Prop where
 p0:p.errX=0
 p1:p.zw=2
 q0:q.errX=0
 q1:q.zw=2
 x0:x.errX=0
 x1:x.zw=1
 y0:y.errX=0
 y1:y.zw=1
 s:p.size+q.size+x.size+y.size<500
 dp:p.depth<60
 dq:q.depth<60
 dx:x.depth<60
 dy:y.depth<60
section
variable {p q x y:Ex} {day:Int} {f:List Fx} {c:List Ch} (h:Lg p q x y)
include h
end
end Go.Nov
end
section
namespace Go.Nov
open Go.Sx
namespace Ex
mutual
def men(a:L8):Ex->Bool
 | mk _ _ n _ s=>decide (n=a)||mens a s
def mens(a:L8):List Ex->Bool
 | []=>false
 | x::l=>men a x||mens a l
end
mutual
def fixX(day:Int):Ex->Ex
 | mk k r n d s=>mk (if k=3 then 2 else k) r n (if k=3 then day else d) (fixs day s)
def fixs(day:Int):List Ex->List Ex
 | []=>[]
 | x::l=>fixX day x::fixs day l
end
mutual
theorem zi5(day:Int):∀ x:Ex,(fixX day x).size=x.size
 | mk k r n d s=>by rw [fixX,size,size,VH day s]
theorem VH(day:Int):∀ s:List Ex,zt (fixs day s)=zt s
 | []=>rfl
 | x::l=>by rw [fixs,zt,zt,zi5 day x,VH day l]
end
mutual
theorem zey(day:Int):∀ x:Ex,(fixX day x).depth=x.depth
 | mk k r n d s=>by rw [fixX,depth,depth,JP day s]
theorem JP(day:Int):∀ s:List Ex,zz (fixs day s)=zz s
 | []=>rfl
 | x::l=>by rw [fixs,zz,zz,zey day x,JP day l]
end
mutual
theorem zhd(day:Int):∀ x:Ex,(fixX day x).zu=x.zu
 | mk k r n d s=>by rw [fixX,zu,zu,JW day s]
theorem JW(day:Int):∀ s:List Ex,zL (fixs day s)=zL s
 | []=>rfl
 | x::l=>by rw [fixs,zL,zL,zhd day x,JW day l]
end
theorem zl5{k v:Int}(hk:qL k=true)(h:v∈qt k):v≠0:=by
 have h2:(4<=k/\k<=9)\/(11<=k/\k<=15):=by
  by_cases h1:4<=k/\k<=9
  ·exact .inl h1
  ·by_cases h2:11<=k/\k<=15
   ·exact .inr h2
   ·rw [zc8 h1 h2] at hk; cases hk
 have h3:k=4\/k=5\/k=6\/k=7\/k=8\/k=9\/k=11\/k=12\/k=13\/k=14\/k=15:=by omega
 rcases h3 with rfl | rfl | rfl | rfl | rfl | rfl | rfl | rfl | rfl | rfl | rfl<;>(revert v; decide)
mutual
theorem zk1{day:Int}(hd:dayB day=true):∀ x:Ex,x.zw≠0->(fixX day x).zw=x.zw
 | mk k r n d s,h=>by
  rw [fixX,zw,zw];rw [zw] at h;by_cases hk:qL k=true
  ·have k3:k≠3:=λg=>by rw [g] at hk; cases hk
   rw [aO k3,aO k3]
   have hs:qb s=qt k:=by
    unfold wE at h;rw [aP hk] at h;by_cases g:r=[]/\n=[]/\d=0/\qb s=qt k
    ·exact g.2.2.2
    ·rw [aO g] at h; exact absurd rfl h
   rw [Kw hd s λv hv=>zl5 hk (by rw [<- hs]; exact hv)]
  ·have hk:qL k=false:=by simpa using hk
   rw [wG hk] at h ⊢;by_cases g:ji k r n d (qb s).length=true
   ·have hl:(qb s).length=0:=by
     unfold ji at g;simp only [bA,aK] at g;exact g.1
    have hs:s=[]:=aU.1 (by rw [<- j3 s]; exact hl);subst hs;by_cases k3:k=3
    ·rw [aP k3,aP k3,aP g];subst k3;rw [wG (by rfl),aP];unfold ji at g ⊢;simp only [bA,aK,show ¬ (3:Int)=1 by decide,show ¬ (3:Int)=2 by decide,show ¬ (2:Int)=1 by decide,if_false,if_true] at g ⊢;exact⟨rfl,⟨g.2.1.1,g.2.1.2⟩,hd⟩
    ·rw [aO k3,aO k3,fixs,wG hk]
   ·rw [aO g] at h; exact absurd rfl h
theorem Kw{day:Int}(hd:dayB day=true):∀ s:List Ex,(∀ v∈qb s,v≠0)->qb (fixs day s)=qb s
 | [],_=>rfl
 | x::l,h=>by
  rw [fixs,qb,qb];rw [qb] at h;rw [zk1 hd x (h _ (by simp)),Kw hd l λv hv=>h v (by simp [hv])]
end
theorem zoy(f:List Fx)(day k:Int)(r n:L8)(d:Int)(l:List Ev):evN f day (if k=3 then 2 else k) r n (if k=3 then day else d) l=evN f day k r n d l:=by
 by_cases k3:k=3
 ·subst k3;rw [aP rfl,aP rfl];rfl
 ·rw [aO k3,aO k3]
mutual
theorem znd(f:List Fx)(day:Int):∀ x:Ex,(fixX day x).ev f day=x.ev f day
 | mk k r n d s=>by rw [fixX,ev,ev,zdz f day s,zoy]
theorem zdz(f:List Fx)(day:Int):∀ s:List Ex,evs f day (fixs day s)=evs f day s
 | []=>rfl
 | x::l=>by rw [fixs,evs,evs,znd f day x,zdz f day l]
end
mutual
theorem zrv{f g:List Fx}{a:L8}(hf:∀ (n:L8) (d:Int),n≠a->fixR g n d=fixR f n d)(day:Int):∀ x:Ex,x.men a=false->x.ev g day=x.ev f day
 | mk k r n d s,h=>by
  rw [men,Bool.or_eq_false_iff] at h;have hn:n≠a:=aC h.1;rw [ev,ev,zcj hf day s h.2];unfold evN valN;rw [hf n d hn,hf n day hn]
theorem zcj{f g:List Fx}{a:L8}(hf:∀ (n:L8) (d:Int),n≠a->fixR g n d=fixR f n d)(day:Int):∀ s:List Ex,mens a s=false->evs g day s=evs f day s
 | [],_=>rfl
 | x::l,h=>by
  rw [mens,Bool.or_eq_false_iff] at h;rw [evs,evs,zrv hf day x h.1,zcj hf day l h.2]
end
end Ex
end Go.Nov
end
section
namespace Go.Nov
open Go.Sx
namespace Ca
def isNone(a:Ca):Prop:=a.ratio=[49]/\a.extra=[48]/\a.into=a.name
mutual
theorem Ya{a:Ca}(h:a.isNone):∀ x:Ex,x.zw≠0->chg a x=x
 | .mk k r n d s,hs=>by
  rw [Ex.zw] at hs;rw [chg];by_cases hh:a.onX k n d=true
  ·rw [aP hh];obtain⟨h1,h2⟩:=xp hs (YC hh)
   have h3:s=[]:=by
    cases s with
    | nil=>rfl
    | cons x s=>rw [Ex.qb] at h2; cases h2
   have h4:n=a.name:=by simp [onX] at hh; exact hh.1
   unfold rel;rw [aP h.2.1,aP h.1,h.2.2,h1,h3,h4]
  ·rw [aO hh,KP h s (JN hs)]
theorem KP{a:Ca}(h:a.isNone):∀ s:List Ex,(∀ p∈Ex.qb s,p≠0)->chgs a s=s
 | [],_=>by rw [chgs]
 | x::s,hs=>by
  rw [Ex.qb] at hs;rw [chgs,Ya h x (hs _ (by simp)),KP h s (λp hp=>hs p (by simp [hp]))]
end
theorem zm0{a:Ca}{x:Ex}(h:qS x=true):chg a x=x:=by
 obtain⟨k,r,n,d,s⟩:=x;simp [qS,Ex.kind,Ex.rat,Ex.name,Ex.date,Ex.sub] at h;obtain⟨h0,_,_,_,rfl⟩:=h;obtain rfl:k=0:=aB h0;rw [chg,chgs];have:a.onX 0 n d=false:=by simp [onX]
 rw [this]; simp
mutual
theorem zae{a:Ca}(h:a.isNone):∀ c:Con,c.form=true->whole a.chg c=c
 | .mk k s t n x d l u,hf=>by
  rw [Con.form,bA] at hf;rw [whole,Q5 h u hf.2];rcases zdd hf.1 with hx | hx
  ·rw [zm0 hx]
  ·rw [Ya h x hx]
theorem Q5{a:Ca}(h:a.isNone):∀ u:List Con,Con.w8 u=true->qu a.chg u=u
 | [],_=>by rw [qu]
 | c::u,hf=>by
  rw [Con.w8,bA] at hf;rw [qu,zae h c hf.1,Q5 h u hf.2]
end
mutual
theorem zck{a:Ca} : ∀ x:Ex,x.men a.name=false->chg a x=x
 | .mk k r n d s,h=>by
  rw [Ex.men,Bool.or_eq_false_iff] at h;have h1:¬ n=a.name:=aC h.1;rw [chg,aO (by simp [onX,h1]),Yb s h.2]
theorem Yb{a:Ca} : ∀ s:List Ex,Ex.mens a.name s=false->chgs a s=s
 | [],_=>by rw [chgs]
 | x::s,h=>by
  rw [Ex.mens,Bool.or_eq_false_iff] at h;rw [chgs,zck x h.1,Yb s h.2]
end
end Ca
namespace Con
mutual
def men(a:L8):Con->Bool
 | mk _ _ _ _ x _ _ s=>x.men a||mens a s
def mens(a:L8):List Con->Bool
 | []=>false
 | c::l=>men a c||mens a l
end
end Con
namespace Ca
mutual
theorem zge{a:Ca} : ∀ c:Con,c.men a.name=false->whole a.chg c=c
 | .mk k s t n x d l u,h=>by
  rw [Con.men,Bool.or_eq_false_iff] at h;rw [whole,zck x h.1,J4 u h.2]
theorem J4{a:Ca} : ∀ u:List Con,Con.mens a.name u=false->qu a.chg u=u
 | [],_=>by rw [qu]
 | c::u,h=>by
  rw [Con.mens,Bool.or_eq_false_iff] at h;rw [qu,zge c h.1,J4 u h.2]
end
end Ca
end Go.Nov
end
section
namespace Go.Nov
open Go.Sx
namespace Tm
end Tm
end Go.Nov
end
section
namespace Go.Nov
open Go.Sx
structure Per where
 fix:Int
 pay:Int
 part:L8
namespace Per
def nil:Per:=⟨0,0,[]⟩
def cell(p:Per):Nat->AV
 | 0=>.i p.fix
 | 1=>.i p.pay
 | 2=>.str p.part
 | _=>.undef
def av(p:Per):AV:=.agg [.i p.fix,.i p.pay,.str p.part]
end Per
namespace Tm
def short(d:Deal)(l:List Per)(days:List Int):Prop:=fits d/\l.length<=60/\days.length<=200/\∀ i,i<l.length->(l.getD i Per.nil).part.length<=300
end Tm
end Go.Nov
end
section
namespace Go.Nov
open Go.Sx
namespace Tm
def zmd:Con:=.mk 1 [] [] [] (.mk 0 [] [] 0 []) 0 [] []
def both(a b:Con):Con:=.mk 3 [] [] [] (.mk 0 [] [] 0 []) 0 [] [a,b]
def xx:Nat->List Con->Con
 | 0,_=>zmd
 | n+1,l=>if l.length=0 then zmd else if l.length=1 then l.getD 0 Con.nil else both (xx n (l.take ((l.length+1)/2))) (xx n (l.drop ((l.length+1)/2)))
theorem xd:∀ (n m:Nat) (l:List Con),l.length<=n->l.length<=m->xx n l=xx m l
 | 0,0,l,_,_=>rfl
 | 0,m+1,l,h,_=>by
  have:l.length=0:=by omega
  simp [xx,this]
 | n+1,0,l,_,h=>by
  have:l.length=0:=by omega
  simp [xx,this]
 | n+1,m+1,l,h1,h2=>by
  simp only [xx];by_cases h:l.length=0
  ·rw [aP h,aP h]
  ·rw [aO h,aO h];by_cases g:l.length=1
   ·rw [aP g,aP g]
   ·rw [aO g,aO g,xd n m _ (by rw [aH]; omega) (by rw [aH]; omega),xd n m _ (by rw [bV]; omega) (by rw [bV]; omega)]
def whole(l:List Con):Con:=xx l.length l
theorem YX(l:List Con):whole l=if l.length=0 then zmd else if l.length=1 then l.getD 0 Con.nil else both (whole (l.take ((l.length+1)/2))) (whole (l.drop ((l.length+1)/2))):=by
 unfold whole;rw [xd l.length (l.length+1) l (aJ _) (Nat.le_succ _)];simp only [xx];by_cases h:l.length=0
 ·rw [aP h,aP h]
 ·rw [aO h,aO h];by_cases g:l.length=1
  ·rw [aP g,aP g]
  ·rw [aO g,aO g,xd l.length _ _ (by rw [aH]; omega) (aJ _),xd l.length _ _ (by rw [bV]; omega) (aJ _)]
theorem zmm(l m:List Con):Con.bigs (l++m)=Con.bigs l+Con.bigs m:=by
 induction l with
 | nil=>simp [Con.bigs]
 | cons c l ih=>simp only [List.cons_append,Con.bigs,ih]; omega
theorem zgq(l m:List Con):Con.zx (l++m)=Con.zx l+Con.zx m:=by
 induction l with
 | nil=>simp [Con.zx]
 | cons c l ih=>simp only [List.cons_append,Con.zx,ih]; omega
theorem xX:∀ (n:Nat) (l:List Con),l.length<=n->1<=l.length->(whole l).big<=Con.bigs l+2*(l.length - 1)/\(whole l).nodes<=Con.zx l+(l.length - 1)
 | 0,l,h,h'=>by omega
 | n+1,l,h,h'=>by
  rw [YX,aO (by omega:¬ l.length=0)];by_cases h1:l.length=1
  ·rw [aP h1]
   match l,h1 with
   | [c],_=>simp [Con.bigs,Con.zx]
  ·rw [aO h1];obtain⟨a1,a2⟩:=xX n (l.take ((l.length+1)/2)) (by rw [aH]; omega) (by rw [aH]; omega);obtain⟨b1,b2⟩:=xX n (l.drop ((l.length+1)/2)) (by rw [bV]; omega) (by rw [bV]; omega);have e1:=zmm (l.take ((l.length+1)/2)) (l.drop ((l.length+1)/2));have e2:=zgq (l.take ((l.length+1)/2)) (l.drop ((l.length+1)/2));rw [bU] at e1 e2;rw [aH] at a1 a2;rw [bV] at b1 b2;simp only [both,Con.big,Con.bigs,Con.nodes,Con.zx,Ex.size,Ex.zt,Ex.zu,Ex.zL,List.length_nil];omega
theorem W4(l:List Con):(whole l).big<=Con.bigs l+2*l.length+2/\(whole l).nodes<=Con.zx l+l.length+1:=by
 by_cases h:l.length=0
 ·have:l=[]:=aU.1 h;subst this;decide
 ·have:=xX l.length l (aJ _) (by omega);omega
theorem zfy{x:Ex}(h:x.size<=50):numX x=decide (x.zw=1):=by
 unfold numX;by_cases hs:x.zw=1
 ·have hd:=Ex.jG x;have:x.errX=0:=by unfold Ex.errX; rw [aO (by omega),aO (by omega)]
  simp [this,hs]
 ·simp [hs]
theorem zeu{x:Ex}(h:x.size<=50)(hs:x.zw=1):x.errX=0:=by
 have hd:=Ex.jG x;unfold Ex.errX;rw [aO (by omega),aO (by omega)]
theorem zsa(f:List Fx)(h:List Ch)(day:Int)(c:Con)(fr fin:Int):flM f h (at_ day c) fr fin=if fin<=fr then .ok [] else if fr<=day then flM f h c day fin else .ok []:=by
 rw [ka];simp [at_,Con.kind,Con.date,Con.sub]
theorem zon(f:List Fx)(h:List Ch)(a b n:L8)(x:Ex)(fr fin:Int):flM f h (.mk 2 a b n x 0 [] []) fr fin=if fin<=fr then .ok [] else Go.Nov.andM (valM x fr f h) λr=>.ok (payF fr a b n r):=by
 rw [ka];simp [Con.kind,Con.x,Con.src,Con.dst,Con.name]
theorem zgt{x:Ex}{day:Int}{f:List Fx}{h:List Ch}(hx:x.size<=50)(hs:x.zw=1)(he:errE f h=0)(hd:dayB day=true):valM x day f h=if(x.ev f day).e≠0 then .error (x.ev f day).e else .ok (x.ev f day).v:=by
 unfold valM jP;have ha:askE x 1 day f h=0:=by rw [zr4 (zeu hx hs) hs,aP he,aP hd]
 simp only [ha,ne_eq,not_true_eq_false,if_false];by_cases g:(x.ev f day).e=0<;>simp [g]
theorem zos(n:L8)(d:Int)(f:List Fx)(day:Int):((fixg n d).ev f day).v=(fixR f n d).1/\((fixg n d).ev f day).e=(fixR f n d).2:=by
 unfold fixg; rw [Ex.ev,Ex.evs]; exact⟨rfl,rfl⟩
end Tm
end Go.Nov
end
section
namespace Go.Nov
open Go.Sx
theorem xi{d:Int}{a b n r:L8} : ∀ x∈payF d a b n r,x.date=d:=by
 unfold payF;split
 ·simp
 ·split<;>simp
theorem zob{x:Fl}{l:List Fl}(h:x∈ordM l):x∈l:=by
 have h1:x∈onF x.date (ordM l):=List.mem_filter.2 ⟨h,by simp⟩;rw [X2] at h1;exact(List.mem_filter.1 h1).1
theorem wx{α β:Type}{x:Except Int α}{k:α->Except Int β}{e:Int}(h:Go.Nov.andM x k = .error e):x = .error e\/∃ a,x = .ok a/\k a = .error e:=by
 cases x with
 | error e'=>cases h; exact .inl rfl
 | ok a=>exact .inr ⟨a,rfl,h⟩
theorem Yk{x:Ex}{d:Int}{f:List Fx}{h:List Ch}{e:Int}(hv:valM x d f h = .error e):e≠0:=by
 unfold valM at hv;split at hv
 ·cases hv
 ·rename_i h0; cases hv; exact h0
theorem WI{x:Ex}{d:Int}{f:List Fx}{h:List Ch}{e:Int}(hv:holM x d f h = .error e):e≠0:=by
 unfold holM at hv;split at hv
 ·cases hv
 ·rename_i h0; cases hv; exact h0
theorem WZ{k:L8}{e:Int} : ∀ {l:List Fl},qj k l = .error e->e≠0
 | [],h=>by cases h
 | f::l,h=>by
  rw [qj] at h;split at h
  ·rename_i h0; cases h; exact h0
  ·split at h
   ·rename_i e' he; cases h; exact WZ he
   ·cases h
theorem ki{is:Int->Except Int Bool}{day fin e:Int}(his:∀ d e,is d = .error e->e≠0):∀ {l:List Int},firstM is day fin l = .error e->e≠0
 | [],h=>by cases h
 | d::l,h=>by
  rw [firstM] at h;split at h
  ·cases h
  ·split at h
   ·split at h
    ·rename_i e' he; cases h; exact his _ _ he
    ·cases h
    ·exact ki his h
   ·exact ki his h
theorem zpe{f:List Fx}{h:List Ch} : ∀ (c:Con) {day fin e:Int},flM f h c day fin = .error e->e≠0:=by
 refine Con.Jk ?_;intro c ih day fin e hl
 have kid:∀ (i:Nat) {day fin e:Int},flM f h (c.sub.getD i Con.nil) day fin = .error e->e≠0:=by
  intro i day fin e hl;by_cases hi:i<c.sub.length
  ·exact ih i hi hl
  ·rw [wS (by omega),yM] at hl;cases hl
 rw [ka] at hl;split at hl
 ·cases hl
 split at hl
 ·rcases wx hl with h1 | ⟨a,_,h2⟩
  ·exact Yk h1
  ·cases h2
 split at hl
 ·rcases wx hl with h1 | ⟨a,_,h2⟩
  ·exact kid 0 h1
  ·rcases wx h2 with h1 | ⟨a,_,h2⟩
   ·exact kid 1 h1
   ·cases h2
 split at hl
 ·rcases wx hl with h1 | ⟨a,_,h2⟩
  ·exact Yk h1
  ·rcases wx h2 with h1 | ⟨a,_,h2⟩
   ·exact kid 0 h1
   ·exact WZ h2
 split at hl
 ·rcases wx hl with h1 | ⟨a,_,h2⟩
  ·exact WI h1
  ·exact kid _ h2
 split at hl
 ·split at hl
  ·exact kid _ hl
  ·cases hl
 split at hl
 ·exact kid _ hl
 split at hl
 ·rcases wx hl with h1 | ⟨a,_,h2⟩
  ·exact ki (λ_ _ h=>by cases h) h1
  ·exact kid _ h2
 split at hl
 ·rcases wx hl with h1 | ⟨a,_,h2⟩
  ·exact ki (λ_ _ h=>WI h) h1
  ·exact kid _ h2
 split at hl
 ·rcases wx hl with h1 | ⟨a,_,h2⟩
  ·exact ki (λ_ _ h=>WI h) h1
  ·exact kid _ h2
 ·cases hl
theorem vD{is:Int->Except Int Bool}{day fin:Int} : ∀ {l:List Int} {t:Int},firstM is day fin l = .ok t->t=fin\/day<=t/\t<fin
 | [],t,h=>by cases h; exact .inl rfl
 | d::l,t,h=>by
  rw [firstM] at h;split at h
  ·cases h; exact .inl rfl
  ·split at h
   ·split at h
    ·cases h
    ·cases h; exact .inr ⟨by omega,by omega⟩
    ·exact vD h
   ·exact vD h
end Go.Nov
end
section
namespace Go.Nov
open Go.Sx
namespace Tm
theorem zop{a b n:L8}{x:Ex}{day:Int}(hs:x.size<=50)(hf:(at_ day (.mk 2 a b n x 0 [] [])).form=true):dayB day=true/\x.zw=1:=by
 unfold at_ at hf;rw [Con.form,Con.w8,Con.w8,Con.form,Con.w8] at hf;simp only [vj,aL,List.length_nil,zfy hs] at hf;have hb:qS (.mk 0 [] [] 0 [])=true:=by decide
 rw [hb] at hf;by_cases e1:dayB day=true<;>by_cases e6:x.zw=1<;>simp_all
theorem KN:∀ {l:List Con},Con.w8 l=true->∀ c∈l,c.form=true
 | [],_=>by simp
 | c::l,h=>by
  rw [Con.w8,bA] at h;intro x hx;rcases aM.1 hx with rfl | hx
  ·exact h.1
  ·exact KN h.2 x hx
theorem zcl{a b n:L8}{x:Ex}{day fr:Int}{v:L8}{f:List Fx}{h:List Ch}(hs:x.size<=50)(hf:(at_ day (.mk 2 a b n x 0 [] [])).form=true)(he:errE f h=0)(h1:fr<=99999)(hv:¬ day<fr->(x.ev f day).e=0/\(x.ev f day).v=v) :
  flM f h (at_ day (.mk 2 a b n x 0 [] [])) fr 100000 = .ok (if day<fr then [] else payF day a b n v):=by
 obtain⟨h2,h3⟩:=zop hs hf;have hd:0<=day/\day<=99999:=by simpa [dayB] using h2
 rw [zsa,aO (by omega)];by_cases g:day<fr
 ·rw [aP g,aO (by omega)]
 ·obtain⟨v1,v2⟩:=hv g;rw [aO g,aP (by omega),zon,aO (by omega),zgt hs h3 he h2,aO (by simp [v1]),v2];rfl
def za1(d:Deal)(fl:Bool)(p:Per):List Con:=[at_ p.pay (pay d (over d.Qh (fixg d.name p.fix) fl) (mulR p.part d.VR).1)]
theorem zjg{c:Con}(h:c.errC=0):c.form=true:=by
 unfold Con.errC at h;split at h
 ·cases h
 ·split at h
  ·assumption
  ·cases h
theorem znd{n:L8}{z day:Int}{f:List Fx}(hk:(vW f n z).2=true):((fixg n z).ev f day).v=(vW f n z).1/\((fixg n z).ev f day).e=0:=by
 obtain⟨s1,s2⟩:=zos n z f day;unfold fixR at s1 s2;rw [hk,aP rfl] at s1 s2;exact⟨s1,s2⟩
end Tm
end Go.Nov
end
section
namespace Go.Nov
open Go.Sx
namespace Ca
theorem znn(x:Ex):x.size<=vC x+1:=by
 unfold vC;cases h:qS x with
 | false=>simp
 | true=>
  obtain⟨k,r,n,d,s⟩:=x;simp [qS,Ex.kind,Ex.rat,Ex.name,Ex.date,Ex.sub] at h;obtain⟨_,_,_,_,rfl⟩:=h;simp [Ex.size,Ex.zt]
mutual
theorem za9(a:Ca):∀ c:Con,(whole a.chg c).big<=5*c.big+(c.size+c.nodes)*(a.into.length+a.ratio.length+a.extra.length)
 | .mk k s t n x d l u=>by
  have h1:=Jq a x;have h2:=QC a u;have h3:=znn x;have h4:x.size*(a.into.length+a.ratio.length+a.extra.length)<=(1+vC x+1)*(a.into.length+a.ratio.length+a.extra.length):=aT _ (by omega);rw [whole];simp only [Con.nodes,Con.size,Con.big,bH] at h1 h2 h4 ⊢;omega
theorem QC(a:Ca):∀ u:List Con,Con.bigs (qu a.chg u)<=5*Con.bigs u+(Con.zt u+Con.zx u)*(a.into.length+a.ratio.length+a.extra.length)
 | []=>by rw [qu]; simp [Con.zx,Con.bigs,Con.zt]
 | c::u=>by
  have h1:=za9 a c;have h2:=QC a u;rw [qu];simp only [Con.zx,Con.bigs,Con.zt,bH] at h1 h2 ⊢;omega
end
end Ca
end Go.Nov
end
section
set_option maxRecDepth 100000
open Go Go.Sx Go.Proofs Go.Nov
namespace Go.Proofs.Tryz
attribute [local simp] eqKV eqA eqA0 eqH eqB eqL eqL0
noncomputable def K47:=Go.Sx.aA f47
def J1(x:Con):Prop:=x.nodes<=1000/\x.big<2^38/\x.size<2^21
def zcf(n:Nat):Ctr:=ctrP true (λx:Con=>[x.conA]) (λx=>x.nodes<n/\J1 x) (λx r=>r<=2^60+100000*x.nodes) (λ_ (r:Nat)=>(.i (r:Int),[]))
def SWk(m i:Nat):KV:=[(1,.ptr 0 0),(3,.i (m:Int)),(4,.i (i:Int)),Z 20,Z 21]
noncomputable def GWk0:=tb Ul tz
noncomputable def GWkc(n:Nat):Nat->Option Ctr:=λf=>if f=47 then some (zcf n) else GWk0.g f
theorem zcd{n:Nat}(ih:zd prog 47 (zcf n)):∀ g c,GWkc n g=some c->zd prog g c:=λg c h=>by
 unfold GWkc at h;split at h
 ·rename_i e; cases h; subst e; exact ih
 ·exact GWk0.h g c h
theorem zhb(n:Nat)(ih:zd prog 47 (zcf n)):zd prog 47 (zcf (n+1)):=by
 refine zf' f47 λx hp O w0 Q hq=> ?_
 obtain⟨hxn,hle,hbg,hsz⟩:=hp;refine zb.n (zcd ih) [1,3,4,20,21] (.ex (q26 [(Ex.exA x.x)]) λn=>.all (λ(r:Nat)=>r=Ex.size n) λn=>.S ((n:Int)*max (1:Int) (x.days.length:Int)) (.S ((1:Int)+n*max (1:Int) (x.days.length:Int)) (.leaf (.loop (lps K47 0).1 (lps K47 0).2 [(1,.ptr 0 0),(3,.i ((1:Int)+n*max (1:Int) (x.days.length:Int))),(4,.i 0),Z 20,Z 21] [.box (Con.zc x)])))) ?_;simp only [q26,Tree.holds,ze,inR,lo,hi,aD];have hbig:=Con.xn x;have hnod:=Con.jF x;have hsze:=Con.size_eq x;have hxs:=Ca.znn x.x;have hW:x.x.size*max 1 x.days.length<=2^21*2^38:=Nat.mul_le_mul (by omega) (by omega);refine⟨x.x,⟨⟨j2 x.x,trivial⟩,by omega⟩,⟨_,rfl⟩,?_⟩;rintro _ rfl;obtain⟨W,hWe⟩:∃ W,x.x.size*max 1 x.days.length=W:=⟨_,rfl⟩;have e1:(x.x.size:Int)*max 1 (x.days.length:Int)=(W:Int):=by rw [<- hWe]; simp only [Int.natCast_mul]; congr 1; omega
 rw [hWe] at hW;simp only [e1];refine⟨by omega,λ_=>⟨by omega,λ_=> ?_⟩⟩;refine zb.loop (ι:={q:Nat×Nat // q.2<=x.sub.length/\q.1<=2^60+100000*(1+Con.zx (x.sub.take q.2))}) (λq=>SWk q.1.1 q.1.2) (λ_=>[.box x.zc]) (λq=>x.sub.length - q.1.2) ⟨(1+W,0),aI _,by simp only [List.take_zero,Con.zx]; omega⟩ 0 ?_ ?_ (by kernel_rfl)
 ·exact⟨by simp [SWk],⟨z8 x,trivial⟩,by kernel_rfl,aI _⟩
 ·rintro⟨⟨m,i⟩,h1,h2⟩;simp only at h1 h2;refine zb.n (zcd ih) [1,3,4,20,21] (.ite (bif decide ((i:Int)<(x.sub.length:Int)) then decide ((m:Int)<100000) else false) (.side ((0:Int)<=i/\(i:Int)<(x.sub.length:Int)) (.ex (λ(x_1:Con)=>eqL [(Con.conD (List.getD x.sub (i:Int).toNat Con.nil))] [(Con.conA x_1)]/\Con.nodes x_1<n/\J1 x_1) λn=>.all (λ(r:Nat)=>r<=1152921504606846976+100000*Con.nodes n) λn=>.S ((m:Int)+n) (.S (i+1) (.leaf (.back 0 [(1,.ptr 0 0),(3,.i ((m:Int)+n)),(4,.i (i+1)),Z 20,Z 21] [.box (Con.zc x)]))))) (.R [.i m] [.box (Con.zc x)])) ?_;simp only [Tree.holds,ze,inR,lo,hi,aD];have hlt2:=Con.ZV x.sub i;refine⟨λhlt=> ?_,λhge=> ?_⟩
  ·have hlt1:i<x.sub.length/\m<100000:=by
    by_cases g1:i<x.sub.length
    ·by_cases g2:m<100000
     ·exact⟨g1,g2⟩
     ·rw [aW (show ¬ (m:Int)<100000 by omega)] at hlt;cases hx:decide ((i:Int)<x.sub.length)<;>rw [hx] at hlt<;>cases hlt
    ·rw [aW (show ¬ (i:Int)<x.sub.length by omega)] at hlt;cases hlt
   obtain⟨hlt,hm⟩:=hlt1;have g1:=Con.je hlt;have g2:=Con.vf hlt;have g3:=Con.Zy hlt;have g4:=Con.zO hlt;refine⟨by omega,λ_=>⟨x.sub.getD i Con.nil,⟨⟨kJ _,trivial⟩,by omega,by omega,by omega,by omega⟩,⟨0,aI _⟩,?_⟩⟩;intro r hr;have hlb:=Con.xr x.sub;refine⟨by omega,λ_=>⟨by omega,λ_=> ?_⟩⟩;rw [aP trivial];exact⟨⟨(m+r,i+1),hlt,by simp only; omega⟩,by show x.sub.length - (i+1)<x.sub.length - i; omega,by simp [SWk],⟨z8 x,trivial⟩,by kernel_rfl,aI _⟩
  ·exact RetR.scal (hq m (by omega)) rfl (by simp [resV])
def zce:Ctr:=ctrP true (λx:Con=>[x.conA]) J1 (λx r=>r<=2^60+100000*x.nodes) (λ_ (r:Nat)=>(.i (r:Int),[]))
theorem zqm:zd prog 47 zce:=qY Con.nodes zhb
def zba:Ctr:=ctrP true (λp:Con×(List Fx×List Ch)=>[p.1.conA,envA p.2.1 p.2.2]) (λp=>J1 p.1/\p.2.1.length<=2000/\p.2.2.length<=2000) (λ_ (_:Bool)=>True) (λ_ (r:Bool)=>(.bool r,[]))
noncomputable def GHv:=tb zqm tz
theorem Yt:zd prog 18 zba:=by
 refine zf' f18 λp hp O w0 Q hq=> ?_
 obtain⟨c,f,h⟩:=p;obtain⟨hw,hf,hh⟩:=hp;simp only at hw hf hh;have hn:=hw.1;refine zb.n GHv.h [] (.ex (λ(x:Con)=>eqL [(Con.conA c)] [(Con.conA x)]/\J1 x) λn=>.all (λ(r:Nat)=>r<=1152921504606846976+100000*Con.nodes n) λn=>.side (decide ((60000:Int)<n)=false->inR .i64 ((10:Int)+f.length)) (.side (decide ((60000:Int)<n)=false->inR .i64 ((10:Int)+f.length+(h.length:Int))) (.side (decide ((60000:Int)<n)=false->inR .i64 ((n:Int)*((10:Int)+f.length+(h.length:Int)))) (.R [.bool (bif decide ((60000:Int)<n) then true else decide ((600000:Int)<n*((10:Int)+f.length+(h.length:Int))))] [.box (Con.zc c),.box [.sl f.length 3 (fxG f),.sl h.length 4 (chG h)]])))) ?_;simp only [Tree.holds,ze,inR,lo,hi,aD];refine⟨c,⟨⟨zH c,trivial⟩,hw⟩,⟨0,aI _⟩,λr hr=> ?_⟩;refine⟨λ_=>by omega,λ_=>⟨λ_=>by omega,λ_=>⟨λg=> ?_,λ_=>RetR.scal (hq (bif decide (60000<(r:Int)) then true else decide (600000<(r:Int)*(10+(f.length:Int)+(h.length:Int)))) trivial) rfl (by simp [resV])⟩⟩⟩;have g:¬ 60000<(r:Int):=aC g;obtain⟨K,hK⟩:∃ K,10+f.length+h.length=K:=⟨_,rfl⟩;have e1:(10:Int)+f.length+h.length=(K:Int):=by omega
 have hm:r*K<=60000*4010:=Nat.mul_le_mul (by omega) (by omega);have e2:(r:Int)*(K:Int)=((r*K:Nat):Int):=(Int.natCast_mul r K).symm;rw [e1,e2];omega
end Go.Proofs.Tryz
end
section
namespace Go.Nov
open Go.Sx
namespace Tm
def turn(d:Deal):Deal:=⟨d.short,d.long,d.ccy,d.name,d.Qh,d.VR⟩
end Tm
end Go.Nov
end
section
namespace Go.Nov
open Go.Sx
def flt(t:Int)(l:List Fl):List Fl:=l.filter λx=>decide (x.date<t)
theorem Zf(t:Int)(l m:List Fl):flt t (l++m)=flt t l++flt t m:=by unfold flt; rw [List.filter_append]
theorem Zb{t:Int}{l:List Fl}(h:∀ x∈l,x.date<t):flt t l=l:=by
 unfold flt; rw [List.filter_eq_self]; intro x hx; simp [h x hx]
theorem Zx{t:Int}{l:List Fl}(h:∀ x∈l,t<=x.date):flt t l=[]:=by
 unfold flt; rw [List.filter_eq_nil_iff]; intro x hx; have:=h x hx; simp; omega
theorem zcu{t:Int}{l:List Fl}{x:Fl}(h:x∈flt t l):x∈l/\x.date<t:=by
 unfold flt at h; rw [List.mem_filter] at h; exact⟨h.1,by simpa using h.2⟩
theorem Q2{k:L8} : ∀ {l m:List Fl},qj k l = .ok m->∀ x∈m,∃ y∈l,x.date=y.date
 | [],m,h=>by cases h; simp
 | f::l,m,h=>by
  rw [qj] at h;split at h
  ·cases h
  ·split at h
   ·cases h
   ·rename_i m' hm;cases h;intro x hx;rcases bZ.1 hx with hx | hx
    ·exact⟨f,by simp,xi x hx⟩
    ·obtain⟨y,hy,he⟩:=Q2 hm x hx;exact⟨y,by simp [hy],he⟩
theorem K6{k:L8}{t:Int} : ∀ {l m:List Fl},qj k l = .ok m->qj k (flt t l) = .ok (flt t m)
 | [],m,h=>by cases h; rfl
 | f::l,m,h=>by
  rw [qj] at h;split at h
  ·cases h
  ·rename_i h0;split at h
   ·cases h
   ·rename_i m' hm;cases h;have ih:=K6 (t:=t) hm;rw [Zf];by_cases hf:f.date<t
    ·have e:flt t (f::l)=f::flt t l:=by unfold flt; rw [List.filter_cons]; simp [hf]
     rw [e,qj,aO h0,ih,Zb (l:=payF f.date f.src f.dst f.ccy (mulR f.amt k).1) λx hx=>by rw [xi x hx]; exact hf]
    ·have e:flt t (f::l)=flt t l:=by unfold flt; rw [List.filter_cons]; simp [hf]
     rw [e,ih,Zx (l:=payF f.date f.src f.dst f.ccy (mulR f.amt k).1) λx hx=>by rw [xi x hx]; omega];rfl
theorem Qd{is:Int->Except Int Bool}{day fin:Int} : ∀ {l:List Int} {t:Int},firstM is day fin l = .ok t->t=fin\/t∈l
 | [],t,h=>by cases h; exact .inl rfl
 | d::l,t,h=>by
  rw [firstM] at h;split at h
  ·cases h; exact .inl rfl
  split at h
  ·split at h
   ·cases h
   ·cases h; exact .inr (by simp)
   ·exact(Qd h).imp id λh=>by simp [h]
  ·exact(Qd h).imp id λh=>by simp [h]
theorem xh{is:Int->Except Int Bool}{day fin fin':Int}(hle:fin<=fin'):∀ {l:List Int} {t:Int},l.Pairwise (· < ·)->firstM is day fin' l = .ok t->firstM is day fin l = .ok (if t<fin then t else fin)
 | [],t,_,h=>by cases h; rw [aO (by omega)]; rfl
 | d::l,t,hp,h=>by
  rw [List.pairwise_cons] at hp;rw [firstM] at h ⊢;split at h
  ·cases h;rw [aP (by omega),aO (by omega)]
  rename_i h1;by_cases h2:fin<=d
  ·rw [aP h2]
   have ht:fin<=t:=by
    have rest:firstM is day fin' l = .ok t->fin<=t:=λh=>by
     rcases Qd h with h | h
     ·omega
     ·have:=hp.1 t h; omega
    split at h
    ·split at h
     ·cases h
     ·cases h; exact h2
     ·exact rest h
    ·exact rest h
   rw [aO (by omega)]
  ·rw [aO h2];split at h
   ·rename_i h3;rw [aP h3];split at h
    ·cases h
    ·rename_i hi;cases h;rw [aP (by omega)]
    ·rename_i hi;exact xh hle hp.2 h
   ·rename_i h3;rw [aO h3];exact xh hle hp.2 h
theorem Zh{f:List Fx}{h:List Ch} : ∀ (c:Con) {day fin:Int} {l:List Fl},flM f h c day fin = .ok l->∀ x∈l,day<=x.date/\x.date<fin:=by
 refine Con.Jk ?_;intro c ih day fin l hl
 have kid:∀ (i:Nat) {day fin:Int} {l:List Fl},flM f h (c.sub.getD i Con.nil) day fin = .ok l->∀ x∈l,day<=x.date/\x.date<fin:=by
  intro i day fin l hl;by_cases hi:i<c.sub.length
  ·exact ih i hi hl
  ·rw [wS (by omega),yM] at hl;cases hl;simp
 have non:∀ l:List Fl,(Except.ok []:Except Int (List Fl)) = .ok l->∀ x∈l,day<=x.date/\x.date<fin:=by
  intro l hl; cases hl; simp
 rw [ka] at hl;split at hl
 ·exact non l hl
 rename_i hlt;split at hl
 ·obtain⟨r,h1,h2⟩:=zJ hl;cases h2;intro x hx;rw [xi x hx]; omega
 split at hl
 ·obtain⟨u,h1,h2⟩:=zJ hl;obtain⟨v,h3,h4⟩:=zJ h2;cases h4;exactλx hx=>(bZ.1 hx).elim (kid 0 h1 x) (kid 1 h3 x)
 split at hl
 ·obtain⟨r,h1,h2⟩:=zJ hl;obtain⟨u,h3,h4⟩:=zJ h2;intro x hx;obtain⟨y,hy,e⟩:=Q2 h4 x hx;rw [e]; exact kid 0 h3 y hy
 split at hl
 ·obtain⟨t,h1,h2⟩:=zJ hl;exact kid _ h2
 split at hl
 ·split at hl
  ·intro x hx;have:=kid 0 hl x hx;omega
  ·exact non l hl
 split at hl
 ·exact kid _ hl
 split at hl
 ·obtain⟨t,h1,h2⟩:=zJ hl;intro x hx;have k:=kid 0 h2 x hx;rcases vD h1 with e | e<;>omega
 split at hl
 ·obtain⟨t,h1,h2⟩:=zJ hl;intro x hx;have k:=kid 0 h2 x hx;rcases vD h1 with e | e<;>omega
 split at hl
 ·obtain⟨t,h1,h2⟩:=zJ hl;intro x hx;have k:=kid 0 h2 x hx;rcases vD h1 with e | e<;>omega
 ·exact non l hl
theorem zis{l:List Int}(h:kU l=true):l.Pairwise (· < ·):=by
 unfold kU at h;simp only [bA] at h
 have h2:∀ j,j+1<l.length->l.getD j 0<l.getD (j+1) 0:=by
  intro j hj;have:=h.2.2.2;unfold incB ordB at this;rw [bG] at this;have h3:cmpI (l.getD j 0) (l.getD (j+1) 0)<0:=aB (this j (List.mem_range.2 (by omega)));unfold cmpI at h3;split at h3
  ·assumption
  ·split at h3<;>omega
 rw [List.pairwise_iff_getElem];intro i j hi hj hij
 have key:∀ k,i+k+1<l.length->l.getD i 0<l.getD (i+k+1) 0:=by
  intro k
  induction k with
  | zero=>intro hk; exact h2 i hk
  | succ k ih=>intro hk; have h4:=ih (by omega); have h5:=h2 (i+k+1) (by omega); rw [show i+(k+1)+1=i+k+1+1 by omega]; omega
 have:=key (j - i - 1) (by omega);have e:i+(j - i - 1)+1=j:=by omega
 rw [e] at this;simpa [List.getD,hi,hj] using this
theorem zoc{f:List Fx}{h:List Ch} : ∀ (c:Con),c.form=true->∀ {day fin fin':Int} {l:List Fl},fin<=fin'->flM f h c day fin' = .ok l->flM f h c day fin = .ok (flt fin l):=by
 refine Con.Jk (P:=λc=>c.form=true->∀ {day fin fin':Int} {l:List Fl},fin<=fin'->flM f h c day fin' = .ok l->flM f h c day fin = .ok (flt fin l)) ?_;intro c ih hform day fin fin' l hle hl;by_cases hday:fin<=day
 ·rw [ka,aP hday,Zx λx hx=>by have:=(Zh c hl x hx).1; omega]
 rw [Con.zdp,bA] at hform;obtain⟨hnode,hforms⟩:=hform
 have kid:∀ (i:Nat) {day fin fin':Int} {l:List Fl},fin<=fin'->flM f h (c.sub.getD i Con.nil) day fin' = .ok l->flM f h (c.sub.getD i Con.nil) day fin = .ok (flt fin l):=by
  intro i day fin fin' l hle hl;by_cases hi:i<c.sub.length
  ·exact ih i hi (Tm.KN hforms _ (by simp [List.getD,hi])) hle hl
  ·rw [wS (by omega),yM] at hl ⊢;cases hl;rfl
 have same:∀ (i:Nat) {day t:Int} {l:List Fl},t<=fin->flM f h (c.sub.getD i Con.nil) day t = .ok l->flt fin l=l:=λi day t l ht hl=>Zb λx hx=>by have:=(Zh _ hl x hx).2; omega
 have none:∀ (i:Nat) {t fin2:Int} {l:List Fl},fin<=t->flM f h (c.sub.getD i Con.nil) t fin2 = .ok l->flt fin l=[]:=λi t fin2 l ht hl=>Zx λx hx=>by have:=(Zh _ hl x hx).1; omega
 have empty:∀ (i:Nat),flM f h (c.sub.getD i Con.nil) fin fin = .ok []:=λi=>by rw [ka,aP (Int.le_refl _)]
 have hinc:c.kind=8\/c.kind=9\/c.kind=10->c.days.Pairwise (· < ·):=by
  intro hk;refine zis ?_;unfold vj at hnode;rcases hk with hk | hk | hk<;>rw [hk] at hnode<;>simp at hnode<;>simp [hnode]
 rw [ka] at hl ⊢;rw [aO hday];rw [aO (show ¬ fin'<=day by omega)] at hl;split at hl
 ·rename_i hk;rw [aP hk];obtain⟨r,h1,h2⟩:=zJ hl;cases h2;rw [h1,Zb λx hx=>by rw [xi x hx]; omega];rfl
 rename_i k2;rw [aO k2];split at hl
 ·rename_i hk;rw [aP hk];obtain⟨u,h1,h2⟩:=zJ hl;obtain⟨v,h3,h4⟩:=zJ h2;cases h4;rw [kid 0 hle h1,kid 1 hle h3,Zf];rfl
 rename_i k3;rw [aO k3];split at hl
 ·rename_i hk;rw [aP hk];obtain⟨r,h1,h2⟩:=zJ hl;obtain⟨u,h3,h4⟩:=zJ h2;rw [h1,kid 0 hle h3];exact K6 h4
 rename_i k4;rw [aO k4];split at hl
 ·rename_i hk;rw [aP hk];obtain⟨t,h1,h2⟩:=zJ hl;rw [h1];exact kid _ hle h2
 rename_i k5;rw [aO k5];split at hl
 ·rename_i hk;rw [aP hk];split at hl
  ·rename_i hd;rw [aP hd];exact kid 0 hle hl
  ·rename_i hd;rw [aO hd];cases hl; rfl
 rename_i k6;rw [aO k6];split at hl
 ·rename_i hk;rw [aP hk];exact kid _ hle hl
 rename_i k7;rw [aO k7];split at hl
 ·rename_i hk;rw [aP hk];obtain⟨t,h1,h2⟩:=zJ hl;rw [xh hle (hinc (.inl hk)) h1];show flM f h (c.sub.getD 0 Con.nil) (if t<fin then t else fin) fin=_;split
  ·exact kid 0 hle h2
  ·rw [empty,none 0 (by omega) h2]
 rename_i k8;rw [aO k8];split at hl
 ·rename_i hk;rw [aP hk];obtain⟨t,h1,h2⟩:=zJ hl;rw [xh hle (hinc (.inr (.inl hk))) h1];show flM f h (c.sub.getD 0 Con.nil) day (if t<fin then t else fin)=_;split
  ·rw [h2,same 0 (by omega) h2]
  ·exact kid 0 (by omega) h2
 rename_i k9;rw [aO k9];split at hl
 ·rename_i hk;rw [aP hk];obtain⟨t,h1,h2⟩:=zJ hl;rw [xh hle (hinc (.inr (.inr hk))) h1];show flM f h (c.sub.getD 0 Con.nil) (if t<fin then t else fin) fin=_;split
  ·exact kid 0 hle h2
  ·rw [empty,none 0 (by omega) h2]
 rename_i k10;rw [aO k10];cases hl; rfl
def fln(t:Int)(l:List Fl):List Fl:=l.filter λx=> !decide (x.date<t)
theorem zd1(t:Int)(l m:List Fl):fln t (l++m)=fln t l++fln t m:=by unfold fln; rw [List.filter_append]
theorem zq3{t:Int}{l:List Fl}(h:∀ x∈l,t<=x.date):fln t l=l:=by
 unfold fln; rw [List.filter_eq_self]; intro x hx; have:=h x hx; simp; omega
theorem zn3{t:Int}{l:List Fl}(h:∀ x∈l,x.date<t):fln t l=[]:=by
 unfold fln; rw [List.filter_eq_nil_iff]; intro x hx; have:=h x hx; simp; omega
theorem zi4{t:Int}{l:List Fl}(h:jk l):jk (flt t l):=by unfold jk flt at *; exact h.filter _
theorem zjo(d t:Int)(l:List Fl):onF d (flt t l)=flt t (onF d l):=by
 unfold onF flt; rw [List.filter_filter,List.filter_filter]; congr 1; funext x; rw [Bool.and_comm]
theorem zp1(t:Int)(l:List Fl):ordM (flt t l)=flt t (ordM l):=
 Qk (J9 _) (zi4 (J9 _)) λd=>by rw [X2,zjo,zjo,X2]
theorem zer{c:Con}{day fin:Int}{f:List Fx}{h:List Ch}(he:(befM c day fin f h).2=0):c.errC=0/\errE f h=0/\(0<=day/\day<=99999/\0<=fin/\fin<=100000)/\∃ l,flM f h c day fin = .ok l/\befM c day fin f h=(ordM l,0):=by
 unfold befM at he ⊢;split at he
 ·rename_i h1; exact absurd he h1
 rename_i h1;split at he
 ·rename_i h2; exact absurd he h2
 rename_i h2;split at he
 ·cases he
 rename_i h3;refine⟨by omega,by omega,by omega,?_⟩;rw [aO h1,aO h2,aO h3];cases hl:flM f h c day fin with
 | error e=>rw [hl] at he; exact absurd he (zpe c hl)
 | ok l=>exact⟨l,rfl,rfl⟩
theorem Kx{c:Con}{day fin:Int}{f:List Fx}{h:List Ch}(he:(befM c day fin f h).2=0):∀ x∈(befM c day fin f h).1,day<=x.date/\x.date<fin:=by
 obtain⟨_,_,_,l,h1,h2⟩:=zer he;rw [h2];intro x hx;exact Zh c h1 x (zob hx)
theorem zpq{c:Con}{day fin fin':Int}{f:List Fx}{h:List Ch}(h0:0<=fin)(hle:fin<=fin')(he:(befM c day fin' f h).2=0):befM c day fin f h=(flt fin (befM c day fin' f h).1,0):=by
 obtain⟨g1,g2,g3,l,h1,h2⟩:=zer he;rw [h2];unfold befM;rw [aO (by omega),aO (by omega),aO (by omega),zoc c (Tm.zjg g1) hle h1];show(ordM (flt fin l),0)=_;rw [zp1]
theorem kW{α:Type}{s:List α}{v w:α}{i:Nat}(h:i<s.length):(s++[v]).getD i w=s.getD i w:=by simp [List.getD,bT,h]
theorem yN{α:Type}{s:List α}{v w:α} : (s++[v]).getD s.length w=v:=by simp [List.getD]
theorem ztf{s:List Ver}{d:Int}{c:Con}(hs:okV s=true)(hc:c.errC=0)(hd:vK d=true)(hl:(s.getD (s.length - 1) Ver.nil).day<d)(hn:s.length≠100):okV (s++[⟨d,c⟩])=true:=by
 have hlen:=Zo hs;refine zkd (by simp) (by simp; omega) λi hi=> ?_
 simp only [bO,List.length_singleton] at hi;rw [WL];by_cases h:i<s.length
 ·have:=WL.1 (zbf hs h);rw [kW h,kW (show i - 1<s.length by omega)];exact this
 ·have e:i=s.length:=by omega
  subst e;rw [yN,kW (show s.length - 1<s.length by omega)];refine⟨?_,.inr hl,hc⟩;unfold vK at hd;simpa using hd
theorem zd6{s:List Ver}{d:Int}{c:Con}(h:(chgV s d c).2=0):okV s=true/\c.errC=0/\vK d=true/\(s.getD (s.length - 1) Ver.nil).day<d/\s.length≠100/\chgV s d c=(s++[⟨d,c⟩],0):=by
 unfold chgV at h ⊢;split at h
 ·rename_i g; exact absurd h g
 rename_i g1;split at h
 ·rename_i g; exact absurd h g
 rename_i g2;split at h
 ·cases h
 rename_i g3;split at h
 ·cases h
 rename_i g4;split at h
 ·cases h
 rename_i g5;rw [aO g1,aO g2,aO g3,aO g4,aO g5];exact⟨xe.1 (by omega),by omega,by simpa using g3,by omega,g5,rfl⟩
theorem zp4{s:List Ver}{d:Int}{c:Con}(h:(chgV s d c).2≠0):(chgV s d c).1=[]:=by
 unfold chgV at h ⊢;by_cases g1:errV s≠0
 ·rw [aP g1]
 by_cases g2:c.errC≠0
 ·rw [aO g1,aP g2]
 by_cases g3:vK d=false
 ·rw [aO g1,aO g2,aP g3]
 by_cases g4:d<=(s.getD (s.length - 1) Ver.nil).day
 ·rw [aO g1,aO g2,aO g3,aP g4]
 by_cases g5:s.length=100
 ·rw [aO g1,aO g2,aO g3,aO g4,aP g5]
 ·rw [aO g1,aO g2,aO g3,aO g4,aO g5] at h;exact absurd rfl h
theorem zd3{s:List Ver}{f:List Fx}{h:List Ch}(he:(flV s f h).2≠0):(flV s f h).1=[]:=by
 unfold flV at he ⊢;split
 ·rfl
 ·split
  ·rfl
  ·rename_i g1 g2;rw [aO g1,aO g2] at he;split
   ·rfl
   ·rename_i g3;rw [g3] at he;exact absurd rfl he
theorem zqc{s:List Ver}{f:List Fx}{h:List Ch}(he:(flV s f h).2=0):okV s=true/\errE f h=0/\(∀ i,i<s.length->(flAt s f h i).2=0)/\flV s f h=(kn s f h (List.range s.length),0):=by
 unfold flV at he ⊢;split at he
 ·rename_i g; exact absurd he g
 rename_i g1;split at he
 ·rename_i g; exact absurd he g
 rename_i g2;split at he
 ·rename_i i hi;have:=List.find?_some hi;simp only [aK] at this;exact absurd he this
 ·rename_i hb;rw [aO g1,aO g2];refine⟨xe.1 (by omega),by omega,λi hi=> ?_,rfl⟩;have:=List.find?_eq_none.1 hb i (List.mem_range.2 hi);simpa using this
theorem zsr{s:List Ver}{f:List Fx}{h:List Ch}(h1:okV s=true)(h2:errE f h=0)(h3:∀ i,i<s.length->(flAt s f h i).2=0):flV s f h=(kn s f h (List.range s.length),0):=by
 unfold flV;rw [aO (λg=>g (xe.2 h1)),aO (by omega)];have:Kd s f h s.length=none:=List.find?_eq_none.2 λi hi=>by simpa using h3 i (List.mem_range.1 hi)
 rw [this]
theorem Uv{t:Int}{F G:Nat->List Fl} : ∀ {l:List Nat},(∀ i∈l,F i=flt t (G i))->l.flatMap F=flt t (l.flatMap G)
 | [],_=>rfl
 | i::l,h=>by
  rw [List.flatMap_cons,List.flatMap_cons,Zf,h i (by simp),Uv λj hj=>h j (by simp [hj])]
theorem KQ{s:List Ver}{d:Int}{c:Con}{f:List Fx}{h:List Ch}(hs:(chgV s d c).2=0)(hf:(flV s f h).2=0)(hm:(yi c d f h).2=0):flV (s++[⟨d,c⟩]) f h=(flt d (flV s f h).1++(yi c d f h).1,0):=by
 obtain⟨a1,a2,a3,a4,a5,_⟩:=zd6 hs;obtain⟨_,b2,b3,b4⟩:=zqc hf;have hlen:=Zo a1;have hd:0<=d/\d<=99999:=by unfold vK at a3; simpa using a3
 have old:∀ i,i<s.length->flAt (s++[⟨d,c⟩]) f h i=(flt d (flAt s f h i).1,0):=by
  intro i hi;unfold flAt;rw [kW hi];by_cases h1:i+1<s.length
  ·have e:endL (s++[⟨d,c⟩]) i=endL s i:=by
    unfold endL;rw [aP (by simp; omega),aP h1,kW h1]
   have hb:=b3 i hi;unfold flAt at hb;rw [e,Zb λx hx=> ?_]
   ·rw [<- hb]
   ·have h2:=(Kx hb x hx).2
    have h3:endL s i<=(s.getD (s.length - 1) Ver.nil).day:=by
     unfold endL;rw [aP h1];rcases aR (i+1) (s.length - 1) with h4 | h4
     ·have:=zto a1 h4 (by omega); omega
     ·have:i+1=s.length - 1:=by omega
      rw [this]; exact Int.le_refl _
    omega
  ·have e:endL (s++[⟨d,c⟩]) i=d:=by
    unfold endL;rw [aP (by simp; omega)];have:i+1=s.length:=by omega
    rw [this,yN]
   have e2:endL s i=100000:=by unfold endL; rw [aO h1]
   have hb:=b3 i hi;unfold flAt at hb;rw [e2] at hb ⊢;rw [e];exact zpq hd.1 (by omega) hb
 have new:flAt (s++[⟨d,c⟩]) f h s.length=yi c d f h:=by
  unfold flAt yi;rw [yN];have e:endL (s++[⟨d,c⟩]) s.length=100000:=by unfold endL; rw [aO (by simp)]
  rw [e]
 rw [zsr (ztf a1 a2 a3 a4 a5) b2 ?_,b4]
 ·simp only [bO,List.length_singleton,List.range_succ];unfold kn;rw [List.flatMap_append];simp only [List.flatMap_cons,List.flatMap_nil,List.append_nil];rw [new,Uv λi hi=>by rw [old i (List.mem_range.1 hi)]]
 ·intro i hi;simp only [bO,List.length_singleton] at hi;by_cases h1:i<s.length
  ·rw [old i h1]
  ·have:i=s.length:=by omega
   rw [this,new]; exact hm
theorem zjh{k:Con}(hk:k.kind=1){day fin:Int}{f:List Fx}{h:List Ch} : flM f h k day fin = .ok []:=by
 rw [ka,hk];split<;>rfl
theorem zuh{k:Con}(hk:k.kind=1)(day fin:Int)(f:List Fx)(h:List Ch):(befM k day fin f h).1=[]:=by
 unfold befM;split; rfl;split; rfl;split; rfl;rw [zjh hk];rfl
theorem Wu{F:Nat->List Fl}{m:Nat} : ∀ {l:List Nat},(∀ i∈l,(F i).length<=m)->(l.flatMap F).length<=l.length*m
 | [],_=>by simp
 | i::l,h=>by
  rw [List.flatMap_cons,bO,aL,bH];have h1:=h i (by simp);have h2:=Wu (F:=F) (m:=m) (l:=l) λj hj=>h j (by simp [hj])
  omega
theorem Ur(x:Fl):∀ l:List Fl,(insF x l).length=l.length+1
 | []=>rfl
 | y::l=>by rw [insF]; split<;>simp [Ur x l]
theorem KK:∀ (l m:List Fl),(l.foldl (λm x=>insF x m) m).length=m.length+l.length
 | [],m=>rfl
 | x::l,m=>by rw [List.foldl_cons,KK l,Ur,aL]; omega
theorem UE(c:Con)(day fin:Int)(f:List Fx)(h:List Ch):(befM c day fin f h).1.length<=c.nodes:=by
 unfold befM;split
 ·simp
 split
 ·simp
 split
 ·simp
 split
 ·simp
 ·rename_i u hu;have:=(Qm c hu).1;unfold ordM;simp only [KK];simpa using this
theorem zqd{s:List Ver}{f:List Fx}{h:List Ch}(hn:∀ i,i<s.length->(s.getD i Ver.nil).con.nodes<=600)(hl:s.length<=6\/∀ i,i<s.length->(s.getD i Ver.nil).con.kind=1):(flV s f h).1.length<=3600:=by
 have key:(kn s f h (List.range s.length)).length<=3600:=by
  rcases hl with hl | hl
  ·refine bP (Wu (m:=600) λi hi=> ?_) (by rw [List.length_range]; omega);exact bP (UE _ _ _ _ _) (hn i (List.mem_range.1 hi))
  ·refine bP (Wu (m:=0) λi hi=> ?_) (by omega);unfold flAt;rw [zuh (hl i (List.mem_range.1 hi))];exact aJ _
 unfold flV;split; simp;split; simp;split; simp;exact key
theorem zex{s:List Ver}{d:Int}{c:Con}{f:List Fx}{h:List Ch}(hs:(chgV s d c).2=0)(hf:(flV s f h).2=0)(hm:(yi c d f h).2=0):(flV (s++[⟨d,c⟩]) f h).2=0/\flt d (flV (s++[⟨d,c⟩]) f h).1=flt d (flV s f h).1/\fln d (flV (s++[⟨d,c⟩]) f h).1=(yi c d f h).1:=by
 rw [KQ hs hf hm];have h1:∀ x∈(yi c d f h).1,d<=x.date:=λx hx=>(Kx (fin:=100000) hm x hx).1
 refine⟨rfl,?_,?_⟩
 ·show flt d (_++_)=_;rw [Zf,Zx h1,List.append_nil,Zb λx hx=>(zcu hx).2]
 ·show fln d (_++_)=_;rw [zd1,zq3 h1,zn3 λx hx=>(zcu hx).2,List.nil_append]
def zdq(s:List Ver):Prop:=s.length<2^45/\∀ i,(s.getD i Ver.nil).con.thin
theorem zna:Con.nil.thin:=by
 rw [Con.nil,Con.thin]; refine⟨by decide,by decide,by decide,?_,by decide,by decide,?_⟩
 ·rw [Ex.nil,Ex.thin]; exact⟨by decide,by decide,by rw [Ex.jL]; trivial⟩
 ·rw [Con.jL]; trivial
def zdr(s:List Ver):Prop:=s.length<=110/\(∀ i,(s.getD i Ver.nil).con.nodes<=600/\(s.getD i Ver.nil).con.big<=1900000)/\(s.length<=6\/∀ i,i<s.length->(s.getD i Ver.nil).con.kind=1)
theorem zmp{s:List Ver}(h0:s.length<=110)(h:∀ i,i<s.length->((s.getD i Ver.nil).con.nodes<=600/\(s.getD i Ver.nil).con.big<=1900000)/\(s.length<=6\/(s.getD i Ver.nil).con.kind=1)):zdr s:=by
 refine⟨h0,λi=> ?_,?_⟩
 ·by_cases hi:i<s.length
  ·exact(h i hi).1
  ·have:s.getD i Ver.nil=Ver.nil:=by simp [List.getD,hi]
   rw [this]; exact⟨by decide,by decide⟩
 ·by_cases h6:s.length<=6
  ·exact .inl h6
  ·exact .inr λi hi=>(h i hi).2.resolve_left h6
end Go.Nov
end
section
set_option maxRecDepth 100000
open Go Go.Sx Go.Proofs Go.Nov
namespace Go.Proofs.Tryz
attribute [local simp] eqKV eqA eqA0 eqH eqB eqL eqL0
def payK(d:Int)(a b r:L8):Con:=Tm.at_ d (.mk 2 a b [85,83,68] (Tm.kon r) 0 [] [])
def zji:Ctr:=ctrP false (λp:Fl=>[.i p.date,.str p.src,.str p.dst,.str p.amt]) (λ_=>True) (λ_ (_:Unit)=>True) (λp _=>((payK p.date p.src p.dst p.amt).conD,[]))
theorem zdy:zd prog 34 zji:=by
 refine zf' f34 λp hp O w0 Q hq=> ?_
 obtain⟨d,a,b,n,r⟩:=p;replace hq:=hq () trivial;simp only at hq;refine zb.n zC [] (let v2:List AV:=[.int .u8 2,.str a,.str b,.str #[(85:UInt8),(83:UInt8),(68:UInt8)].toList,.int .u8 1,.str r,.str #[].toList,.i 0,.nils,.i 0,.nils,.nils];let v1:List AV:=[.int .u8 6,.str #[].toList,.str #[].toList,.str #[].toList,.int .u8 0,.str #[].toList,.str #[].toList,.i 0,.nils,.i d,.nils,.osl 2 12 0 1];.R [.agg v1] [.box v1,.box v2,.arr 1 12 (zh 12 v2)]) ?_;simp only [Tree.holds,ze];exact RetR.le0 hq (λh=>by cases h) (LeA.agg ⟨LeA.refl _,LeA.refl _,LeA.refl _,LeA.refl _,LeA.refl _,LeA.refl _,LeA.refl _,LeA.refl _,LeA.nils,LeA.refl _,LeA.nils,Con.zny (e:=.mk 2 a b [85,83,68] (Tm.kon r) 0 [] []) ⟨LeA.refl _,LeA.refl _,LeA.refl _,LeA.refl _,LeA.refl _,LeA.refl _,LeA.refl _,LeA.refl _,LeA.nils,LeA.refl _,LeA.nils,LeA.nils,trivial⟩,trivial⟩)
theorem Con.zqo{x y:Con}{k d:Int}{a b n:L8}{z:Ex}{l:List Int}{c:List AV}(h:LeL c (x.xw++y.xw)):LeA (.sl 2 12 (zg (zh 12 c) 0)) (.sl 2 12 (Con.mk k a b n z d l [x,y]).deep):=by
 refine LeA.sl rfl λj o hj ho=> ?_
 rw [Con.zZ (Con.mk k a b n z d l [x,y]) j o (by show j<2; omega) ho];have:=LeL.dAt (j*12+o) h;simp only [zg,zh,Nat.zero_add];rcases(show j=0\/j=1 by omega) with rfl | rfl<;>rcases(show o=0\/o=1\/o=2\/o=3\/o=4\/o=5\/o=6\/o=7\/o=8\/o=9\/o=10\/o=11 by omega) with rfl | rfl | rfl | rfl | rfl | rfl | rfl | rfl | rfl | rfl | rfl | rfl<;>exact this
def sAnn:L8:=[65,110,110]
def sBob:L8:=[66,111,98]
def cE1:Con:=payK 10 sAnn sBob [49]
def cE2:Con:=payK 20 sAnn sBob [50]
def cE3:Con:=payK 20 sBob sAnn [55]
def cE0:Con:=Tm.both cE1 cE2
def zl0:Ctr:=ctrP false (λ_:Unit=>[]) (λ_=>True) (λ_ (_:Unit)=>True) (λ_ _=>(cE0.conD,[]))
noncomputable def GBv:=tb zdy tz
abbrev q56(A:List AV)(x:Fl):Prop:=eqL A [.i x.date,.str x.src,.str x.dst,.str x.amt]/\True
theorem zn8:zd prog 33 zl0:=by
 refine zf' f33 λp hp O w0 Q hq=> ?_
 replace hq:=hq () trivial;refine zb.n GBv.h [] (let v3:List AV:=[.int .u8 3,.str #[].toList,.str #[].toList,.str #[].toList,.int .u8 0,.str #[].toList,.str #[].toList,.i 0,.nils,.i 0,.nils,.osl 1 12 0 2];.ex (q56 [.i 10,.str #[(65:UInt8),(110:UInt8),(110:UInt8)].toList,.str #[(66:UInt8),(111:UInt8),(98:UInt8)].toList,.str #[(49:UInt8)].toList]) λn=>let v2:=payK n.date n.src n.dst n.amt;.A λn_1=>.ex (q56 [.i 20,.str #[(65:UInt8),(110:UInt8),(110:UInt8)].toList,.str #[(66:UInt8),(111:UInt8),(98:UInt8)].toList,.str #[(50:UInt8)].toList]) λn_2=>let v1:=payK n_2.date n_2.src n_2.dst n_2.amt;.A λn_3=>.R [.agg v3] [.box v3,.arr 2 12 (zh 12 [.int .u8 (Con.kind v2),.str (Con.src v2),.str (Con.dst v2),.str (Con.name v2),.int .u8 (Ex.kind (Con.x v2)),.str (Ex.rat (Con.x v2)),.str (Ex.name (Con.x v2)),.i (Ex.date (Con.x v2)),.sl (List.length (Ex.sub (Con.x v2))) 5 (Ex.exG (Ex.sub (Con.x v2))),.i (Con.date v2),.sl (List.length (Con.days v2)) 1 (Con.dayG (Con.days v2)),.sl (List.length (Con.sub v2)) 12 (Con.deep v2),.int .u8 (Con.kind v1),.str (Con.src v1),.str (Con.dst v1),.str (Con.name v1),.int .u8 (Ex.kind (Con.x v1)),.str (Ex.rat (Con.x v1)),.str (Ex.name (Con.x v1)),.i (Ex.date (Con.x v1)),.sl (List.length (Ex.sub (Con.x v1))) 5 (Ex.exG (Ex.sub (Con.x v1))),.i (Con.date v1),.sl (List.length (Con.days v1)) 1 (Con.dayG (Con.days v1)),.sl (List.length (Con.sub v1)) 12 (Con.deep v1)])]) ?_;simp only [q56,Tree.holds,ze];refine⟨⟨10,sAnn,sBob,[],[49]⟩,⟨⟨⟨rfl,rfl⟩,rfl,rfl,rfl,trivial⟩,trivial⟩,⟨(),trivial⟩,λ_ _=>⟨⟨20,sAnn,sBob,[],[50]⟩,⟨⟨⟨rfl,rfl⟩,rfl,rfl,rfl,trivial⟩,trivial⟩,⟨(),trivial⟩,λ_ _=> ?_⟩⟩;exact RetR.le0 hq (λh=>by cases h) (LeA.agg ⟨LeA.refl _,LeA.refl _,LeA.refl _,LeA.refl _,LeA.refl _,LeA.refl _,LeA.refl _,LeA.refl _,LeA.nils,LeA.refl _,LeA.nils,Con.zqo (x:=cE1) (y:=cE2) (LeL.refl _),trivial⟩)
def exV:List Ver:=[⟨5,cE0⟩,⟨15,cE3⟩]
theorem zrx:newV cE0 5=([⟨5,cE0⟩],0):=by kernel_rfl
theorem zhn:chgV [⟨5,cE0⟩] 15 cE3=(exV,0):=by kernel_rfl
theorem zqq:flV exV [] []=([⟨10,sAnn,sBob,[85,83,68],[49]⟩,⟨20,sBob,sAnn,[85,83,68],[55]⟩],0):=by kernel_rfl
theorem zbu:fitC cE0:=⟨by decide +kernel,by decide +kernel⟩
theorem zbe:fitC cE3:=⟨by decide +kernel,by decide +kernel⟩
theorem kY(c:Con):eqA c.conD c.conA:=by
 simp only [Con.conD,Con.outD,Con.conA,eqA];exact⟨⟨rfl,rfl⟩,rfl,rfl,rfl,⟨rfl,rfl⟩,rfl,rfl,⟨rfl,rfl⟩,⟨rfl,rfl,λ_ _ _ _=>rfl⟩,⟨rfl,rfl⟩,⟨rfl,rfl,λ_ _ _ _=>rfl⟩,⟨rfl,rfl,Con.zZ c⟩,trivial⟩
def Ke:Ctr:=ctrP false (λ_:Unit=>[]) (λ_=>True) (λ_ (_:Unit)=>True) (λ_ _=>(.tup [verA exV,.bool true],[]))
noncomputable def GEv:=tb zdy (tb zn8 (tb zq1 (tb zd4 tz)))
abbrev q57(A:List AV)(x:List Ver×Int×Con):Prop:=eqL A [.agg [.sl x.1.length 13 (verG x.1)],.i x.2.1,(Con.conA x.2.2)]/\x.1.length<1073741824/\fitV x.1/\fitC x.2.2
theorem Ua:zd prog 30 Ke:=by
 refine zf' f30 λp hp O w0 Q hq=> ?_
 replace hq:=hq () trivial;refine zb.n GEv.h [] (let v1:=q56 [.i 20,.str #[(66:UInt8),(111:UInt8),(98:UInt8)].toList,.str #[(65:UInt8),(110:UInt8),(110:UInt8)].toList,.str #[(55:UInt8)].toList];.ex (λ(x:Unit)=>eqL [] []/\True) λn=>.A λn=>.ex (λ(x:Con×Int)=>eqL [.agg [.int .u8 3,.str cE0.src,.str cE0.dst,.str cE0.name,.int .u8 0,.str (Ex.rat cE0.x),.str (Ex.name cE0.x),.i 0,.sl 0 5 (Ex.exG (Ex.sub cE0.x)),.i 0,.sl 0 1 (Con.dayG cE0.days),.sl 2 12 (Con.deep cE0)],.i 5] [(Con.conA x.1),.i x.2]/\fitC x.1) λn=>.all (λ(r:List Ver×Int)=>r=newV n.1 n.2) λn=>let v7:=[AV.sl n.1.length 13 (verG n.1)];let v6:List AV:=[.sl n.1.length 13 (verG n.1)];.all (λ(x:Bool)=>True) λn_1=>.ite n_1 (.ex v1 λn_2=>let v2:=q57 [.agg v7,.i 15,(Con.conD (payK n_2.date n_2.src n_2.dst n_2.amt))];.A λn_3=>.all (λ(x:Bool)=>True) λn_4=>.ite n_4 (.ex v2 λn_5=>.all (λ(r:List Ver×Int)=>r=chgV n_5.1 n_5.2.1 n_5.2.2) λn_6=>let v3:List AV:=[.sl n_6.1.length 13 (verG n_6.1)];.R [.agg v3,.bool (bif decide (n.2=0) then decide (n_6.2=0) else false)] [.box v3,.box v6,.box v3]) (.ex v2 λn_5=>.all (λ(r:List Ver×Int)=>r=chgV n_5.1 n_5.2.1 n_5.2.2) λn_6=>let v4:List AV:=[.sl n_6.1.length 13 (verG n_6.1)];.R [.agg v4,.bool (bif decide (n.2=0) then decide (n_6.2=0) else false)] [.box v4,.box v6,.box v4])) (.ex v1 λn_2=>.A λn_3=>.ex (q57 [.agg v7,.i 15,(Con.conD (payK n_2.date n_2.src n_2.dst n_2.amt))]) λn_4=>.all (λ(r:List Ver×Int)=>r=chgV n_4.1 n_4.2.1 n_4.2.2) λn_5=>let v5:List AV:=[.sl n_5.1.length 13 (verG n_5.1)];.R [.agg v5,.bool (bif decide (n.2=0) then decide (n_5.2=0) else false)] [.box v5,.box v6,.box v5])) ?_;simp only [q56,q57,Tree.holds,ze]
 have fit1:fitV [(⟨5,cE0⟩:Ver)]:=λi hi=>by
  have:i=0:=by simp at hi; omega
  subst this; exact zbu
 refine⟨(),⟨trivial,trivial⟩,⟨(),trivial⟩,λ_ _=> ?_⟩;refine⟨(cE0,5),⟨⟨kY cE0,⟨rfl,rfl⟩,trivial⟩,zbu⟩,⟨_,rfl⟩,?_⟩;rintro _ rfl;simp only [zrx];refine⟨⟨true,trivial⟩,λb _=>⟨λ_=> ?_,λ_=> ?_⟩⟩
 all_goals refine⟨⟨20,sBob,sAnn,[],[55]⟩,⟨⟨⟨rfl,rfl⟩,rfl,rfl,rfl,trivial⟩,trivial⟩,⟨(),trivial⟩,λ_ _=> ?_⟩
 ·refine⟨⟨true,trivial⟩,λb _=>⟨λ_=> ?_,λ_=> ?_⟩⟩
  all_goals
   refine⟨([⟨5,cE0⟩],15,cE3),⟨⟨jf _,⟨rfl,rfl⟩,kY cE3,trivial⟩,by decide,fit1,zbe⟩,⟨_,rfl⟩,?_⟩;rintro _ rfl;simp only [zhn,decide_true,cond_true];exact RetR.le0 hq (λh=>by cases h) (LeA.refl _)
 ·refine⟨([⟨5,cE0⟩],15,cE3),⟨⟨jf _,⟨rfl,rfl⟩,kY cE3,trivial⟩,by decide,fit1,zbe⟩,⟨_,rfl⟩,?_⟩;rintro _ rfl;simp only [zhn,decide_true,cond_true];exact RetR.le0 hq (λh=>by cases h) (LeA.refl _)
def zlz:Ctr:=ctrP true (λp:Fl=>[.i p.date,.str p.src,.str p.dst,.str p.amt]) (λ_=>True) (λ_ (_:Unit)=>True) (λp _=>(.agg [.i p.date,.str p.src,.str p.dst,.str [85,83,68],.str p.amt],[]))
theorem zl6:zd prog 32 zlz:=by
 refine zf' f32 λp hp O w0 Q hq=> ?_
 obtain⟨d,a,b,n,r⟩:=p;replace hq:=hq () trivial;simp only at hq;refine zb.n zC [] (.R [.agg [.i d,.str a,.str b,.str #[(85:UInt8),(83:UInt8),(68:UInt8)].toList,.str r]] [.box [.i d,.str a,.str b,.str #[(85:UInt8),(83:UInt8),(68:UInt8)].toList,.str r]]) ?_;simp only [Tree.holds,ze];exact RetR.out0 hq (λ_=>by simp [resV,new2,new1,new0,qA]) (by simp [resV,exp2,exp1,exp0,ren0,eqA2])
theorem env0:envP ([],[]):=⟨by decide,by decide,λj hj=>absurd hj (Nat.not_lt_zero _),λj hj=>absurd hj (Nat.not_lt_zero _)⟩
structure GvA where
 s:List Ver
 l:List Fl
def zl8:Ctr:=ctrP true (λp:GvA=>[verA p.s,flS p.l]) (λp=>p.s.length<2^30/\fitV p.s/\((flV p.s [] []).1.length<2^40)) (λp r=>(r=true↔(flV p.s [] [])=(p.l,0))) (λ_ (r:Bool)=>(.bool r,[]))
noncomputable def GGv:=tb zn1 (tb Uk tz)
abbrev q59(A:List AV)(x:List Fl×List Fl):Prop:=eqL A [.sl x.1.length 5 (flG x.1),.sl x.2.length 5 (flG x.2)]/\x.1.length<1099511627776
abbrev q58(A:List AV)(x:FvA):Prop:=eqL A [.agg [.sl x.s.length 13 (verG x.s)],.agg [.sl x.f.length 3 (fxG x.f),.sl x.h.length 4 (chG x.h)]]/\List.length x.s<1073741824/\fitV x.s/\envP (FvA.f x,FvA.h x)
theorem zk2:zd prog 31 zl8:=by
 refine zf' f31 λp hp O w0 Q hq=> ?_
 obtain⟨s,l⟩:=p;obtain⟨h1,h2,h3⟩:=hp;simp only at h1 h2 h3 hq;refine zb.n GGv.h [] (.ex (q58 [.agg [.sl s.length 13 (verG s)],.agg [AV.nils,AV.nils]]) λn=>.all (λ(r:List Fl×Int)=>r=flV n.s n.f n.h) λn=>.ex (λ(x:List Fl×List Fl)=>decide (n.2=0)=true->q59 [.sl n.1.length 5 (flG n.1),.sl l.length 5 (flG l)] x) λn_1=>.all (λ(x:Bool)=>decide (n.2=0)=true->(x=true↔n_1.1=n_1.2)) λn_2=>.R [.bool (bif decide (n.2=0) then n_2 else false)] [.box [.sl s.length 13 (verG s)]]) ?_;simp only [q58,q59,Tree.holds,ze];refine⟨⟨s,[],[]⟩,⟨⟨jf _,by simp [envA,fxS,chS],trivial⟩,h1,h2,env0⟩,⟨_,rfl⟩,?_⟩;rintro _ rfl;simp only;generalize flV s [] []=m at h3 hq ⊢;refine⟨(m.1,l),λ_=>⟨⟨⟨rfl,rfl,za _ _ _⟩,⟨rfl,rfl,za _ _ _⟩,trivial⟩,h3⟩,(zdm _).imp λ_ h _=>h,λb hb=> ?_⟩;refine RetR.scal (hq (bif decide (m.2=0) then b else false) ?_) rfl (by simp [resV]);simp only at hb;by_cases h0:m.2=0
 ·rw [aX h0,cond_true,hb (aX h0)];exact⟨λh=>by rw [<- h,<- h0],λh=>by rw [h]⟩
 ·rw [aW h0,cond_false];exact⟨λh=>(by cases h),λh=>absurd (by rw [h]) h0⟩
def zdx:Ctr:=ctrP true (λ_:Unit=>[]) (λ_=>True) (λ_ r=>r=true) (λ_ (r:Bool)=>(.bool r,[]))
noncomputable def GAv:=tb Ua (tb zk2 (tb zl6 tz))
abbrev q60(A:List AV)(x:GvA):Prop:=eqL A [.agg [.sl x.s.length 13 (verG x.s)],.sl x.l.length 5 (flG x.l)]/\List.length x.s<1073741824/\fitV x.s/\List.length (Prod.fst (flV x.s [] []))<1099511627776
theorem zfw:zd prog 9 zdx:=by
 refine zf' f9 λp hp O w0 Q hq=> ?_
 replace hq:=hq true rfl;refine zb.n GAv.h [] (.ex (λ(x:Unit)=>eqL [] []/\True) λn=>.A λn=>.ex (λ(x:Fl)=>true=true->q56 [.i 10,.str #[(65:UInt8),(110:UInt8),(110:UInt8)].toList,.str #[(66:UInt8),(111:UInt8),(98:UInt8)].toList,.str #[(49:UInt8)].toList] x) λn=>.all (λ(x:Unit)=>true=true->True) λn_1=>.ex (λ(x:Fl)=>true=true->q56 [.i 20,.str #[(66:UInt8),(111:UInt8),(98:UInt8)].toList,.str #[(65:UInt8),(110:UInt8),(110:UInt8)].toList,.str #[(55:UInt8)].toList] x) λn_2=>.all (λ(x:Unit)=>true=true->True) λn_3=>.ite true (.ex (λ(x:GvA)=>true=true->q60 [.agg [.sl 2 13 (verG exV)],.sl 2 5 (zg (zh 5 [.i n.date,.str n.src,.str n.dst,.str [(85:UInt8),(83:UInt8),(68:UInt8)],.str n.amt,.i n_2.date,.str n_2.src,.str n_2.dst,.str [(85:UInt8),(83:UInt8),(68:UInt8)],.str n_2.amt]) 0)] x) λn_4=>.all (λ(x:Bool)=>true=true->(x=true↔flV n_4.s [] []=(GvA.l n_4,(0:Int)))) λn_5=>.R [.bool (bif true then n_5 else false)] [.box [.sl 2 13 (verG exV)],.arr 2 5 (zh 5 [.i n.date,.str n.src,.str n.dst,.str [(85:UInt8),(83:UInt8),(68:UInt8)],.str n.amt,.i n_2.date,.str n_2.src,.str n_2.dst,.str [(85:UInt8),(83:UInt8),(68:UInt8)],.str n_2.amt])]) (.ex (λ(x:GvA)=>true=true->q60 [.agg [.sl 2 13 (verG exV)],AV.nils] x) λn=>.all (λ(x:Bool)=>true=true->(x=true↔flV n.s [] []=(GvA.l n,(0:Int)))) λn=>.R [.bool (bif true then n else false)] [.box [.sl 2 13 (verG exV)]])) ?_;simp only [q56,q60,Tree.holds,ze]
 have fit:fitV exV:=λi hi=>by
  have:i=0\/i=1:=by have:i<2:=hi; omega
  rcases this with rfl | rfl
  ·exact zbu
  ·exact zbe
 refine⟨(),⟨trivial,trivial⟩,⟨(),trivial⟩,λ_ _=>⟨⟨10,sAnn,sBob,[],[49]⟩,λ_=>⟨⟨⟨rfl,rfl⟩,rfl,rfl,rfl,trivial⟩,trivial⟩,⟨(),λ_=>trivial⟩,λ_ _=>⟨⟨20,sBob,sAnn,[],[55]⟩,λ_=>⟨⟨⟨rfl,rfl⟩,rfl,rfl,rfl,trivial⟩,trivial⟩,⟨(),λ_=>trivial⟩,λ_ _=>⟨λ_=> ?_,λh=>(by cases h)⟩⟩⟩⟩;refine⟨⟨exV,[⟨10,sAnn,sBob,[85,83,68],[49]⟩,⟨20,sBob,sAnn,[85,83,68],[55]⟩]⟩,λ_=>⟨⟨jf exV,⟨rfl,rfl,λj o hj ho=> ?_⟩,trivial⟩,by decide,fit,by rw [zqq]; decide⟩,(zdm _).imp λ_ h _=>h,λb hb=> ?_⟩
 ·rcases(show j=0\/j=1 by omega) with rfl | rfl<;>rcases(show o=0\/o=1\/o=2\/o=3\/o=4 by omega) with rfl | rfl | rfl | rfl | rfl<;>rfl
 ·obtain rfl:b=true:=(hb trivial).2 zqq;exact RetR.scal hq rfl (by simp [resV])
noncomputable def K10:=Go.Sx.aA f10
def zul(s:List Ver):Prop:=s.length<2^40/\∀ i,(s.getD i Ver.nil).con.big<2^40
def zd2:Ctr:=ctrP true (λp:FvA=>[verA p.s,envA p.f p.h]) (λp=>zdq p.s/\zcp (p.f,p.h)) (λp r=>r=false->fitP (p.f,p.h)/\zdr p.s) (λ_ (r:Bool)=>(.bool r,[]))
noncomputable def GVg:=tb zl7 (tb VA (tb Yt tz))
def SVg(i:Nat):KV:=[(2,.ptr 0 0),(3,.ptr 1 0),(5,.i (i:Int)),Z 31,Z 32,Z 33,Z 36,Z 37,Z 38,Z 39,Z 40,Z 41,Z 42,Z 43,Z 44,Z 45,Z 46,Z 47,Z 48,Z 49,Z 50]
def HVg(s:List Ver)(f:List Fx)(h:List Ch):Heap:=[.box [.sl s.length 13 (verG s)],.box [.sl f.length 3 (fxG f),.sl h.length 4 (chG h)]]
theorem zhc:zd prog 10 zd2:=by
 refine zf' f10 λp hp O w0 Q hq=> ?_
 obtain⟨s,f,h⟩:=p;obtain⟨⟨h1,h2⟩,h3⟩:=hp;simp only at h1 h2 h3 hq;refine zb.n GVg.h [2,3,5,31,32,33,36,37,38,39,40,41,42,43,44,45,46,47,48,49,50] (let v1:List Blk:=[.box [.sl s.length 13 (verG s)],.box [.sl f.length 3 (fxG f),.sl h.length 4 (chG h)]];.ex (λ(x:List Fx×List Ch)=>eqL [.agg [.sl f.length 3 (fxG f),.sl h.length 4 (chG h)]] [.agg [.sl x.1.length 3 (fxG x.1),.sl x.2.length 4 (chG x.2)]]/\x.1.length<1152921504606846976/\x.2.length<1152921504606846976/\(∀ (j:Nat),j<x.1.length->zj1 (List.getD x.1 j Fx.nil))/\∀ (j:Nat),j<x.2.length->zcg (List.getD x.2 j Ch.nil)) λn=>.all (λ(r:Bool)=>r=false->fitP n) λn=>.ite (bif n then true else decide ((110:Int)<s.length)) (.R [.bool true] v1) (.leaf (.loop (lps K10 0).1 (lps K10 0).2 [(2,.ptr 0 0),(3,.ptr 1 0),(5,.i 0),Z 31,Z 32,Z 33,Z 36,Z 37,Z 38,Z 39,Z 40,Z 41,Z 42,Z 43,Z 44,Z 45,Z 46,Z 47,Z 48,Z 49,Z 50] v1))) ?_;simp only [Tree.holds,ze,inR,lo,hi,aD];refine⟨(f,h),⟨⟨⟨⟨rfl,rfl,za _ _ _⟩,⟨rfl,rfl,za _ _ _⟩,trivial⟩,trivial⟩,h3⟩,⟨true,λh=>by cases h⟩,λb hb=>⟨λ_=>RetR.scal (hq true λh=>by cases h) rfl (by simp [resV]),λg=> ?_⟩⟩
 have hfit:fitP (f,h):=by
  cases b with
  | false=>exact hb rfl
  | true=>cases g
 have hn:s.length<=110:=by
  cases b with
  | false=>have:=aC g; omega
  | true=>cases g
 refine zb.loop (ι:={i:Nat // i<=s.length/\∀ j,j<i->((s.getD j Ver.nil).con.nodes<=600/\(s.getD j Ver.nil).con.big<=1900000)/\(s.length<=6\/(s.getD j Ver.nil).con.kind=1)}) (λi=>SVg i.1) (λ_=>HVg s f h) (λi=>s.length - i.1) ⟨0,aI _,λj hj=>by omega⟩ 0 ?_ ?_ (by kernel_rfl)
 ·exact⟨by simp [SVg],⟨⟨⟨rfl,rfl,za _ _ _⟩,trivial⟩,⟨⟨rfl,rfl,za _ _ _⟩,⟨rfl,rfl,za _ _ _⟩,trivial⟩,trivial⟩,by kernel_rfl,aI _⟩
 ·rintro⟨i,hil,hib⟩;refine zb.n GVg.h [2,3,5,31,32,33,36,37,38,39,40,41,42,43,44,45,46,47,48,49,50] (let v3:List AV:=[.sl f.length 3 (fxG f),.sl h.length 4 (chG h)];let v1:=Ver.con (s.getD (i:Int).toNat Ver.nil);let v2:List Blk:=[.box [.sl s.length 13 (verG s)],.box v3,.box (Con.xw v1)];.D ((i:Int)<s.length) (.side ((0:Int)<=i/\(i:Int)<s.length) (.ex (λ(x:Con)=>eqL [(Con.conD v1)] [(Con.conA x)]/\Con.thin x) λn=>.all (λ(r:Bool)=>r=false->Con.nodes n<=600/\Con.big n<=1900000) λn=>.ex (λ(x:Con×List Fx×List Ch)=>n=false->eqL [(Con.conD v1),.agg [.sl f.length 3 (fxG f),.sl h.length 4 (chG h)]] [(Con.conA x.1),.agg [.sl x.2.1.length 3 (fxG x.2.1),.sl x.2.2.length 4 (chG x.2.2)]]/\J1 x.1/\x.2.1.length<=2000/\x.2.2.length<=2000) λn_1=>.all (λ(x:Bool)=>n=false->True) λn_2=>.ite (bif bif n then true else n_2 then true else bif decide ((6:Int)<s.length) then bif decide ((s.length:Int)<99) then true else !decide (Con.kind v1=(1:Int)) else false) (.R [.bool true] v2) (.S (i+1) (.leaf (.back 0 [(2,.ptr 0 0),(3,.ptr 1 0),(5,.i (i+1)),Z 31,Z 32,Z 33,Z 36,Z 37,Z 38,Z 39,Z 40,Z 41,Z 42,Z 43,Z 44,Z 45,Z 46,Z 47,Z 48,Z 49,Z 50] v2))))) (.R [.bool false] [.box [.sl s.length 13 (verG s)],.box v3])) ?_;simp only [Tree.holds,ze,inR,lo,hi,aD];refine⟨λhlt=> ?_,λhge=> ?_⟩
  ·have hlt:i<s.length:=by have:=aB hlt; omega
   have hth:=h2 i;have hlf:=hfit.1;have hlh:=hfit.2.1;refine⟨by omega,λ_=>⟨(s.getD i Ver.nil).con,⟨⟨kY _,trivial⟩,hth⟩,⟨true,λh=>by cases h⟩,λb1 hb1=> ?_⟩⟩;refine⟨((s.getD i Ver.nil).con,(f,h)),λe=>⟨⟨kY _,⟨⟨rfl,rfl,za _ _ _⟩,⟨rfl,rfl,za _ _ _⟩,trivial⟩,trivial⟩,?_,by show f.length<=2000; simp only at hlf; omega,by show h.length<=2000; simp only at hlh; omega⟩,⟨true,λ_=>trivial⟩,λb2 _=>⟨λ_=>RetR.scal (hq true λh=>by cases h) rfl (by simp [resV]),λg2=> ?_⟩⟩
   ·obtain⟨w1,w2⟩:=hb1 e;have w3:=Con.J6 (s.getD i Ver.nil).con;exact⟨by show(s.getD i Ver.nil).con.nodes<=1000; omega,by show(s.getD i Ver.nil).con.big<2^38; omega,by show(s.getD i Ver.nil).con.size<2^21; omega⟩
   ·have hb0:b1=false:=by
     cases b1 with
     | false=>rfl
     | true=>cases g2
    subst hb0;obtain⟨w1,w2⟩:=hb1 rfl
    have w3:s.length<=6\/(s.getD i Ver.nil).con.kind=1:=by
     by_cases h6:s.length<=6
     ·exact .inl h6
     ·right;rw [aX (show(6:Int)<s.length by omega)] at g2;cases b2 with
      | true=>cases g2
      | false=>
       by_cases h99:(s.length:Int)<99
       ·rw [aX h99] at g2; cases g2
       ·rw [aW h99] at g2;simpa using g2
    refine⟨by omega,λ_=> ?_⟩;rw [aP trivial];refine⟨⟨i+1,hlt,λj hj=> ?_⟩,by show s.length - (i+1)<s.length - i; omega,by simp [SVg],⟨⟨⟨rfl,rfl,za _ _ _⟩,trivial⟩,⟨⟨rfl,rfl,za _ _ _⟩,⟨rfl,rfl,za _ _ _⟩,trivial⟩,trivial⟩,by kernel_rfl,aI _⟩;rcases aR j i with g1 | g1
    ·exact hib j g1
    ·have:j=i:=by omega
     rw [this]; exact⟨⟨w1,w2⟩,w3⟩
  ·have hge:i=s.length:=by have:=aC hge; omega
   subst hge;exact RetR.scal (hq false λ_=>⟨hfit,zmp hn hib⟩) rfl (by simp [resV])
theorem znf{s:List Ver}(h:zdr s):s.length<=110/\fitV s/\zul s:=by
 obtain⟨h1,h2,h3⟩:=h;exact⟨h1,λi _=>⟨by have:=(h2 i).2; omega,by have:=(h2 i).1; omega⟩,by omega,λi=>by have:=(h2 i).2; omega⟩
noncomputable def K21:=Go.Sx.aA f21
def zeb:Ctr:=ctrP false (λp:List Fl×Int=>[flS p.1,.i p.2]) (λp=>p.1.length<=1000000) (λ_ (_:Unit)=>True) (λp _=>(.tup [flS (flt p.2 p.1),flS (fln p.2 p.1)],[]))
def SSp(l:List Fl)(d:Int)(m k i:Nat):KV:=[(0,flS l),(1,.i d),(4,.osl 0 5 0 m),(5,.osl 1 5 0 k),(6,.i (i:Int))]
def HSp(u v:List Fl):Heap:=[.arr u.length 5 (flG u),.arr v.length 5 (flG v)]
theorem zjd(d:Int){l:List Fl}{i:Nat}(hi:i<l.length):flt d (l.take (i+1))=flt d (l.take i)++(if(l.getD i Fl.nil).date<d then [l.getD i Fl.nil] else [])/\fln d (l.take (i+1))=fln d (l.take i)++(if(l.getD i Fl.nil).date<d then [] else [l.getD i Fl.nil]):=by
 have e:l.take (i+1)=l.take i++[l.getD i Fl.nil]:=by
  rw [List.take_add_one]; simp [List.getD,hi]
 rw [e,Zf,zd1];generalize l.getD i Fl.nil=x;by_cases h:x.date<d<;>simp [flt,fln,h]
theorem ztd(d:Int)(l:List Fl):(flt d l).length<=l.length/\(fln d l).length<=l.length:=⟨List.length_filter_le _ _,List.length_filter_le _ _⟩
theorem zgu:zd prog 21 zeb:=by
 refine zf' f21 λp hp O w0 Q hq=> ?_
 obtain⟨l,d⟩:=p;replace hq:=hq () trivial;simp only at hp hq;refine zb.n zC [0,1,4,5,6] (.leaf (.loop (lps K21 0).1 (lps K21 0).2 [(0,.sl l.length 5 (flG l)),(1,.i d),(4,.nils),(5,.nils),(6,.i 0)] [])) ?_;simp only [Tree.holds,ze,inR,lo,hi,aD];refine zb.bear 4 5 (flG []) rfl (by decide) (by kernel_rfl) ?_;refine zb.bear 5 5 (flG []) rfl (by decide) (by kernel_rfl) ?_;refine zb.loop (ι:={i:Nat // i<=l.length}) (λi=>SSp l d (flt d (l.take i.1)).length (fln d (l.take i.1)).length i.1) (λi=>HSp (flt d (l.take i.1)) (fln d (l.take i.1))) (λi=>l.length - i.1) ⟨0,aI _⟩ 0 ?_ ?_ (by kernel_rfl)
 ·exact⟨by simp [SSp,yv,flS,flt,fln,za],by simp [HSp,flt,fln,za],by kernel_rfl,aI _⟩
 ·rintro⟨i,hi0⟩;have hle:=ztd d (l.take i);rw [aH] at hle;have ht:=zjd d (l:=l) (i:=i);have hu1:i=l.length->flt d (l.take i)=flt d l:=λh=>by rw [h,bD]
  have hv1:i=l.length->fln d (l.take i)=fln d l:=λh=>by rw [h,bD]
  simp only;generalize hu:flt d (l.take i)=u at hle ht hu1 ⊢;generalize hv:fln d (l.take i)=v at hle ht hv1 ⊢;refine zb.n zC [0,1,4,5,6] (let v3:=inR .i64 (i+1);let v2:=l.getD (i:Int).toNat Fl.nil;let v1:=zh 5 [.i v2.date,.str v2.src,.str v2.dst,.str v2.ccy,.str v2.amt];.D ((i:Int)<l.length) (.side ((0:Int)<=i/\(i:Int)<l.length) (.D (Fl.date v2 <d) (.side ((0:Int)<=i/\(i:Int)<l.length) (.side (0=0/\u.length<=u.length/\(u.length+1)*72<=140737488355328) (.side v3 (.leaf (.back 0 [(0,.sl l.length 5 (flG l)),(1,.i d),(4,.osl 0 5 0 (u.length+1)),(5,.osl 1 5 0 v.length),(6,.i (i+1))] [.arr (u.length+1) 5 (appG u.length (flG u) (zg v1 0)),.arr v.length 5 (flG v),.arr 1 5 v1]))))) (.side ((0:Int)<=i/\(i:Int)<l.length) (.side (0=0/\v.length<=v.length/\(v.length+1)*72<=140737488355328) (.side v3 (.leaf (.back 0 [(0,.sl l.length 5 (flG l)),(1,.i d),(4,.osl 0 5 0 u.length),(5,.osl 1 5 0 (v.length+1)),(6,.i (i+1))] [.arr u.length 5 (flG u),.arr (v.length+1) 5 (appG v.length (flG v) (zg v1 0)),.arr 1 5 v1]))))))) (.R [.osl 0 5 0 u.length,.osl 1 5 0 v.length] [.arr u.length 5 (flG u),.arr v.length 5 (flG v)])) ?_;simp only [Tree.holds,ze,inR,lo,hi,aD];refine⟨λhlt=> ?_,λhge=> ?_⟩
  ·have hlt:i<l.length:=by have:=aB hlt; omega
   obtain⟨t1,t2⟩:=ht hlt;refine⟨by omega,λ_=>⟨λg=>⟨by omega,λ_=>⟨⟨trivial,aJ _,by omega⟩,λ_=>⟨by omega,λ_=> ?_⟩⟩⟩,λg=>⟨by omega,λ_=>⟨⟨trivial,aJ _,by omega⟩,λ_=>⟨by omega,λ_=> ?_⟩⟩⟩⟩⟩
   ·have g:=aB g;rw [aP g] at t1 t2;rw [aP trivial,List.append_nil] at *
    refine⟨⟨i+1,hlt⟩,by show l.length - (i+1)<_; omega,?_⟩;simp only [t1,t2];exact⟨by simp [SSp,flS,za],⟨⟨by simp,rfl,ZB⟩,⟨rfl,rfl,za _ _ _⟩,trivial⟩,by kernel_rfl,aI _⟩
   ·have g:=aC g;rw [aO g] at t1 t2;rw [aP trivial,List.append_nil] at *
    refine⟨⟨i+1,hlt⟩,by show l.length - (i+1)<_; omega,?_⟩;simp only [t1,t2];exact⟨by simp [SSp,flS,za],⟨⟨rfl,rfl,za _ _ _⟩,⟨by simp,rfl,ZB⟩,trivial⟩,by kernel_rfl,aI _⟩
  ·have hge:i=l.length:=by have:=aC hge; omega
   rw [<- hu1 hge,<- hv1 hge] at hq;exact RetR.le0 hq (λh=>by cases h) (LeA.tup ⟨LeA.sl rfl λj o hj ho=>(by simp only [zg,Nat.zero_add]; exact LeA.refl _),LeA.sl rfl λj o hj ho=>(by simp only [zg,Nat.zero_add]; exact LeA.refl _),trivial⟩)
structure zub where
 s:List Ver
 d:Int
 c:Con
 f:List Fx
 h:List Ch
def zso:Ctr:=ctrP true (λp:zub=>[verA p.s,.i p.d,p.c.conA,envA p.f p.h]) (λp=>zdq p.s/\p.c.thin/\zcp (p.f,p.h)) (λ_ r=>r=true) (λ_ (r:Bool)=>(.bool r,[]))
noncomputable def GAp:=tb zfw (tb zhc (tb VA (tb Yt (tb zd4 (tb zn1 (tb zad (tb zgu (tb Uk tz))))))))
abbrev q61(A:List AV)(x:List Fl×Int):Prop:=eqL A [.sl x.1.length 5 (flG x.1),.i x.2]/\x.1.length<=1000000
theorem zm1:zd prog 5 zso:=by
 refine zf' f5 λp hp O w0 Q hq=> ?_
 obtain⟨s,d,c,f,h⟩:=p;replace hq:=hq true rfl;simp only at hp hq;obtain⟨hp1,hp2⟩:=hp;refine zb.n GAp.h [] (let v5:=Con.conA c;let v4:List AV:=[.sl f.length 3 (fxG f),.sl h.length 4 (chG h)];let v3:=[AV.sl s.length 13 (verG s)];let v2:=[AV.sl f.length 3 (fxG f),AV.sl h.length 4 (chG h)];.ex (λ(x:Unit)=>eqL [] []/\True) λn=>.all (λ(r:Bool)=>r=true) λn=>.ex (λ(x:FvA)=>eqL [.agg v3,.agg v2] [.agg [.sl x.s.length 13 (verG x.s)],.agg [.sl x.f.length 3 (fxG x.f),.sl x.h.length 4 (chG x.h)]]/\zdq x.s/\zcp (FvA.f x,FvA.h x)) λn_1=>.all (λ(r:Bool)=>r=false->fitP (FvA.f n_1,FvA.h n_1)/\zdr n_1.s) λn_2=>.ex (λ(x:Con)=>n_2=false->eqL [v5] [(Con.conA x)]/\Con.thin x) λn_3=>.all (λ(x:Bool)=>n_2=false->x=false->Con.nodes n_3<=600/\Con.big n_3<=1900000) λn_4=>.ex (λ(x:Con×List Fx×List Ch)=>(bif n_2 then true else n_4)=false->eqL [v5,.agg v2] [(Con.conA x.1),.agg [.sl x.2.1.length 3 (fxG x.2.1),.sl x.2.2.length 4 (chG x.2.2)]]/\J1 x.1/\x.2.1.length<=2000/\x.2.2.length<=2000) λn_5=>.all (λ(x:Bool)=>(bif n_2 then true else n_4)=false->True) λn_6=>.ite (bif bif bif n_2 then true else n_4 then true else n_6 then true else !n) (.R [.bool n] [.box [.sl s.length 13 (verG s)],.box (Con.zc c),.box v4]) (.ex (q57 [.agg v3,.i d,v5]) λn_7=>.all (λ(r:List Ver×Int)=>r=chgV n_7.1 n_7.2.1 n_7.2.2) λn_8=>let v1:List Blk:=[.box [.sl s.length 13 (verG s)],.box (Con.zc c),.box v4,.box [.sl n_8.1.length 13 (verG n_8.1)]];.N (n_8.2=0) (.R [.bool (bif n then decide ((↑n_8.1.length:Int)=0) else false)] v1) (.ex (q58 [.agg v3,.agg v2]) λn_9=>.all (λ(r:List Fl×Int)=>r=flV n_9.s n_9.f n_9.h) λn_10=>.ex (q58 [.agg [.sl n_8.1.length 13 (verG n_8.1)],.agg v2]) λn_11=>.all (λ(r:List Fl×Int)=>r=flV n_11.s n_11.f n_11.h) λn_12=>.ex (λ(x:FI)=>eqL [v5,.i d,.agg v2] [(Con.conA x.c),.i x.day,.agg [.sl x.f.length 3 (fxG x.f),.sl x.h.length 4 (chG x.h)]]/\FI.pre x) λn_13=>.all (λ(r:List Fl×Int)=>r=yi n_13.c n_13.day n_13.f n_13.h) λn_14=>.ite (bif !decide (n_10.2=0) then true else !decide (n_14.2=0)) (.R [.bool (bif n then bif decide (n_12.2=0) then true else decide ((↑n_12.1.length:Int)=0) else false)] v1) (.ex (q61 [.sl n_10.1.length 5 (flG n_10.1),.i d]) λn_15=>.A λn_16=>.ex (q61 [.sl n_12.1.length 5 (flG n_12.1),.i d]) λn_17=>.A λn_18=>.ex (λ(x:List Fl×List Fl)=>(bif n then decide (n_12.2=0) else false)=true->q59 [.sl (flt n_17.2 n_17.1).length 5 (flG (flt n_17.2 n_17.1)),.sl (flt n_15.2 n_15.1).length 5 (flG (flt n_15.2 n_15.1))] x) λn_19=>.all (λ(x:Bool)=>(bif n then decide (n_12.2=0) else false)=true->(x=true↔n_19.1=n_19.2)) λn_20=>.ex (λ(x:List Fl×List Fl)=>(bif bif n then decide (n_12.2=0) else false then n_20 else false)=true->q59 [.sl (fln n_17.2 n_17.1).length 5 (flG (fln n_17.2 n_17.1)),.sl n_14.1.length 5 (flG n_14.1)] x) λn_21=>.all (λ(x:Bool)=>(bif bif n then decide (n_12.2=0) else false then n_20 else false)=true->(x=true↔n_21.1=n_21.2)) λn_22=>.R [.bool (bif bif bif n then decide (n_12.2=0) else false then n_20 else false then n_22 else false)] v1)))) ?_;simp only [q57,q58,q59,q61,Tree.holds,ze,inR,lo,hi,aD];obtain⟨hp2,hp3,hp4,hp5,hp6⟩:=hp2;refine⟨(),⟨trivial,trivial⟩,⟨true,rfl⟩,?_⟩;rintro _ rfl;refine⟨⟨s,f,h⟩,⟨⟨jf s,⟨⟨rfl,rfl,za _ _ _⟩,⟨rfl,rfl,za _ _ _⟩,trivial⟩,trivial⟩,hp1,hp3,hp4,hp5,hp6⟩,⟨true,λh=>by cases h⟩,λb1 hb1=> ?_⟩;refine⟨c,λ_=>⟨⟨zH c,trivial⟩,hp2⟩,⟨true,λ_ h=>by cases h⟩,λb2 hb2=> ?_⟩;refine⟨(c,(f,h)),λe=>⟨⟨zH c,⟨⟨rfl,rfl,za _ _ _⟩,⟨rfl,rfl,za _ _ _⟩,trivial⟩,trivial⟩,?_⟩,⟨true,λ_=>trivial⟩,λb3 _=>⟨λ_=>RetR.scal hq rfl (by simp [resV]),λg=> ?_⟩⟩
 ·have g0:b1=false/\b2=false:=by
   cases b1<;>cases b2<;>first | exact⟨rfl,rfl⟩ | cases e
  obtain⟨rfl,rfl⟩:=g0;obtain⟨hfp,hfine⟩:=hb1 rfl;obtain⟨c1,c2⟩:=hb2 rfl rfl;have c3:=Con.J6 c;have l1:=hfp.1;have l2:=hfp.2.1;simp only at l1 l2;exact⟨⟨by show c.nodes<=1000; omega,by show c.big<2^38; omega,by show c.size<2^21; omega⟩,by show f.length<=2000; omega,by show h.length<=2000; omega⟩
 have g0:b1=false/\b2=false:=by
  cases b1<;>cases b2<;>cases b3<;>first | exact⟨rfl,rfl⟩ | cases g
 obtain⟨rfl,rfl⟩:=g0;obtain⟨hfp,hfine⟩:=hb1 rfl;obtain⟨c1,c2⟩:=hb2 rfl rfl;simp only at hfine hfp;have hE:envP (f,h):=zi8 hfp;obtain⟨hlen,hfit,hsz⟩:=znf hfine;have hfc:fitC c:=⟨by omega,by omega⟩;have hfl:=zqd (s:=s) (f:=f) (h:=h) (λi _=>(hfine.2.1 i).1) hfine.2.2;have hbad:=zd3 (s:=s) (f:=f) (h:=h);refine⟨(s,d,c),⟨⟨jf s,⟨rfl,rfl⟩,zH c,trivial⟩,by show s.length<_; omega,hfit,hfc⟩,⟨_,rfl⟩,?_⟩;rintro _ rfl;simp only;refine⟨λh=> ?_,λk=> ?_⟩
 ·have he:(chgV s d c).2≠0:=λhe=>by rw [aX he] at h; cases h
  rw [zp4 he];exact RetR.scal hq rfl (by simp [resV])
 have he:(chgV s d c).2=0:=by
  by_cases he:(chgV s d c).2=0
  ·exact he
  ·rw [aW he] at k; cases k
 have hsp:=zex (s:=s) (d:=d) (c:=c) (f:=f) (h:=h) he;have hcf:=KQ (s:=s) (d:=d) (c:=c) (f:=f) (h:=h) he;obtain⟨a1,a2,a3,a4,a5,a6⟩:=zd6 he;rw [a6];have hl:(s++[(⟨d,c⟩:Ver)]).length=s.length+1:=by simp
 have hft:fitV (s++[(⟨d,c⟩:Ver)]):=λi hi=>by
  by_cases h1:i<s.length
  ·rw [kW h1]; exact hfit i h1
  ·have:i=s.length:=by rw [hl] at hi; omega
   rw [this,yN]; exact hfc
 generalize s++[(⟨d,c⟩:Ver)]=t at hl hft hsp hcf ⊢;refine⟨⟨s,f,h⟩,⟨⟨jf s,⟨⟨rfl,rfl,za _ _ _⟩,⟨rfl,rfl,za _ _ _⟩,trivial⟩,trivial⟩,by show s.length<_; omega,hfit,hE⟩,⟨_,rfl⟩,?_⟩;rintro _ rfl;refine⟨⟨t,f,h⟩,⟨⟨jf t,⟨⟨rfl,rfl,za _ _ _⟩,⟨rfl,rfl,za _ _ _⟩,trivial⟩,trivial⟩,by show t.length<_; rw [hl]; omega,hft,hE⟩,⟨_,rfl⟩,?_⟩;rintro _ rfl;simp only;have hbt:=zd3 (s:=t) (f:=f) (h:=h);have hml:(yi c d f h).1.length<=600:=bP (UE c d 100000 f h) c1;generalize flV s f h=L at hfl hbad hsp hcf ⊢;generalize flV t f h=M at hsp hcf hbt ⊢;refine⟨⟨c,d,100000,f,h⟩,⟨⟨zH c,⟨rfl,rfl⟩,⟨⟨rfl,rfl,za _ _ _⟩,⟨rfl,rfl,za _ _ _⟩,trivial⟩,trivial⟩,by show c.big<_; omega,by show c.nodes<=_; omega,hE⟩,⟨_,rfl⟩,?_⟩;rintro _ rfl;simp only;generalize yi c d f h=N at hsp hcf hml ⊢;refine⟨λq=>RetR.scal hq rfl ?_,λq=> ?_⟩
 ·by_cases e1:M.2=0
  ·simp [resV,e1]
  ·simp [resV,e1,hbt e1]
 have h1:L.2=0/\N.2=0:=by
  by_cases e1:L.2=0
  ·by_cases e2:N.2=0
   ·exact⟨e1,e2⟩
   ·rw [aX e1,aW e2] at q; cases q
  ·rw [aW e1] at q; cases q
 obtain⟨e1,e2⟩:=h1;obtain⟨s1,s2,s3⟩:=hsp e1 e2;have hM:=hcf e1 e2;have hLf:(flt d L.1).length<=L.1.length:=List.length_filter_le _ _;have hMl:M.1.length<=4200:=by rw [hM,bO]; omega
 have hMf:(flt d M.1).length<=M.1.length:=List.length_filter_le _ _;have hMn:(fln d M.1).length<=M.1.length:=List.length_filter_le _ _;refine⟨(L.1,d),⟨⟨⟨rfl,rfl,za _ _ _⟩,⟨rfl,rfl⟩,trivial⟩,by show L.1.length<=_; omega⟩,⟨(),trivial⟩,λ_ _=> ?_⟩;refine⟨(M.1,d),⟨⟨⟨rfl,rfl,za _ _ _⟩,⟨rfl,rfl⟩,trivial⟩,by show M.1.length<=_; omega⟩,⟨(),trivial⟩,λ_ _=> ?_⟩;rw [aX s1];refine⟨(flt d M.1,flt d L.1),λ_=>⟨⟨⟨rfl,rfl,za _ _ _⟩,⟨rfl,rfl,za _ _ _⟩,trivial⟩,by show(flt d M.1).length<_; omega⟩,⟨true,λ_=>by simp [s2]⟩,λb hb=> ?_⟩;obtain rfl:b=true:=(hb rfl).2 s2;refine⟨(fln d M.1,N.1),λ_=>⟨⟨⟨rfl,rfl,za _ _ _⟩,⟨rfl,rfl,za _ _ _⟩,trivial⟩,by show(fln d M.1).length<_; omega⟩,⟨true,λ_=>by simp [s3]⟩,λb hb=> ?_⟩;obtain rfl:b=true:=(hb rfl).2 s3;exact RetR.scal hq rfl (by simp [resV])
end Go.Proofs.Tryz
end
section
namespace Go.Sx
variable [Stat]
open Go.RowKit (Below)
def E0:Nat->Prop:=Own (λ_=>False) []
theorem KG(b:Nat):¬ E0 b:=by
 rintro(h | ⟨e,he,_⟩)
 ·exact h
 ·simp at he
def Tw(P:Program)(W:World)(t:TypeId)(cs:List Value):Prop:=∃ (H:Type) (enc:TypeId×Value->H) (base fuel:Nat) (d:DataW H) (ps:List MemPlace),DataW.trod enc P W base (λ_=>true) true fuel t cs=some (d,ps)/\∀ n∈d.weights P t,n<=reachBytes
section
variable {P:Program} {W:World} {t e:TypeId} {cs:List Value}
theorem xu(ht:P.underlying t=some .string)(h:Tw P W t cs):∃ s:L8,cs=[.string ⟨s.toArray⟩]/\s.length<=reachBytes:=by
 obtain⟨H,enc,base,fuel,d,ps,h,hw⟩:=h;obtain⟨s,rfl,hx,_⟩:=DataW.trod_string ht h;cases hx;exact⟨s.data.toList,by simp,hw _ (by simp [DataW.weights])⟩
theorem xI{k:IntKind}(ht:P.underlying t=some (.int k))(h:Tw P W t cs):∃ n,cs=[.int k n]/\(Lit.int k n).wf=true:=by
 obtain⟨H,enc,base,fuel,d,ps,h,hw⟩:=h;obtain⟨n,rfl,hx,hwf⟩:=DataW.trod_int ht h;exact⟨n,rfl,hwf⟩
theorem zq2(ht:P.underlying t=some .bool)(h:Tw P W t cs):∃ b,cs=[.bool b]:=by
 obtain⟨H,enc,base,fuel,d,ps,h,hw⟩:=h;obtain⟨b,rfl,hx⟩:=DataW.trod_bool ht h;exact⟨b,rfl⟩
theorem xb{fs:Array Field}(ht:P.underlying t=some (.struct fs))(h:Tw P W t cs):cs.length=P.cellsOf t/\∀ (i:Nat) (f:Field),fs[i]?=some f->Tw P W f.type ((cs.drop f.offset).take (P.cellsOf f.type)):=by
 obtain⟨H,enc,base,fuel,d,ps,h,hw⟩:=h;obtain⟨xs,n,_,hx,hl,hlen,hf⟩:=DataW.trod_struct ht h;cases hx;refine⟨hl,λi f hfi=> ?_⟩;have hi:=hf i f hfi
 have hlt:i<xs.length:=by
  rw [hlen]; exact(aQ.1 hfi).1
 rw [aF hlt] at hi;refine⟨H,enc,base,n,xs[i].1,xs[i].2,hi,λm hm=>hw m ?_⟩;simp only [DataW.weights,ht];exact DataW.weights_mem_each (j:=i) (t:=f.type) (d:=xs[i].1) (by simp [hfi]) (by simp [hlt]) m hm
theorem kq{H:Type}{d:DataW H} : ∀ {l:List (DataW H)},d∈l->∀ n∈d.weights P e,n∈DataW.weightsAll P e l
 | x::l,hd,n,hn=>by
  simp only [DataW.weightsAll,bZ];rcases aM.1 hd with rfl | hd
  ·exact .inl hn
  ·exact .inr (kq hd n hn)
theorem zlt(ht:P.underlying t=some (.slice e))(h:Tw P W t cs):cs=[.slice none 0 0]\/∃ (a:Addr) (len cap:Nat),cs=[.slice (some a) len cap]/\len<=cap/\cap*P.bytesOf e<=reachBytes /\
  ∀ i,i<len->∃ cs',cs'.length=P.cellsOf e/\(∀ o,o<P.cellsOf e->W.cell? ((a.add (i*P.cellsOf e)).add o)=cs'[o]?)/\Tw P W e cs':=by
 obtain⟨H,enc,base,fuel,d,ps,h,hw⟩:=h;rcases DataW.trod_slice ht h with ⟨rfl,_⟩ | ⟨a,len,cap,elems,rest,n,_,rfl,hx,hb,hl,hm,hlen,hel,hsp,_⟩
 ·exact .inl rfl
 ·right;cases hx;obtain⟨hrl,_⟩:=hsp rfl;simp only [DataW.weights,ht] at hw;refine⟨a,len,cap,rfl,hl,?_,λi hi=> ?_⟩
  ·have:=hw _ (List.mem_cons_self);simp only [List.length_map,hlen,hrl] at this
   rwa [show len+(cap - len)=cap by omega] at this
  ·have h1:=hel i hi;have hlt:i<elems.length:=by rw [hlen]; exact hi
   rw [aF hlt,Option.bind_eq_some_iff] at h1;obtain⟨cs',h2,h3⟩:=h1;obtain⟨_,h4,h5⟩:=World.cells?_some h2;refine⟨cs',h4,h5,H,enc,base,n,elems[i].1,elems[i].2,h3,λm hm2=>hw m ?_⟩;simp only [aM,bZ];exact .inr (.inl (kq (d:=elems[i].1) (List.mem_map.2 ⟨elems[i],bK hlt,rfl⟩) m hm2))
theorem y8{α:Type}(z:α)(cell:α->Nat->AV)(good:α->Prop){sz:Nat}(ht:P.underlying t=some (.slice e))(hsz:P.cellsOf e=sz)(hpos:0<sz)
  (hel:∀ cs',Tw P W e cs'->∃ x:α,good x/\∀ o,o<sz->∃ c,cs'[o]?=some c/\c.oneCell'=true/\Rep E0 W (cell x o) [] c) (h:Tw P W t cs) :
  ∃ (l:List α) (v:Value),cs=[v]/\(∀ x∈l,good x)/\l.length*P.bytesOf e<=reachBytes/\v.oneCell'=true/\Rep E0 W (.sl l.length sz λj=>cell (l.getD j z)) [] v:=by
 rcases zlt ht h with rfl | ⟨a,len,cap,rfl,hl,hw,hx⟩
 ·refine⟨[],_,rfl,by simp,by simp,rfl,?_⟩;simp only [Rep];exact⟨none,0,rfl,aJ _,.inl rfl⟩
 ·rw [hsz] at hx
  have hx2:∀ i,∃ x:α,i<len->good x/\∀ o,o<sz->∃ c,W.cell? ((a.add (i*sz)).add o)=some c/\c.oneCell'=true/\Rep E0 W (cell x o) [] c:=λi=>by
   by_cases hi:i<len
   ·obtain⟨cs',h1,h2,h3⟩:=hx i hi;obtain⟨x,hg,hc⟩:=hel cs' h3
    exact⟨x,λ_=>⟨hg,λo ho=>by
     obtain⟨c,g1,g2,g3⟩:=hc o ho;exact⟨c,by rw [h2 o ho,g1],g2,g3⟩⟩⟩
   ·exact⟨z,λh=>absurd h hi⟩
  obtain⟨f,hf⟩:=Classical.axiomOfChoice hx2;have hgd:∀ j,j<len->((List.range len).map f).getD j z=f j:=λj hj=>by simp [List.getD,hj]
  refine⟨(List.range len).map f,_,rfl,λx hxm=> ?_,?_,rfl,?_⟩
  ·obtain⟨i,hi,rfl⟩:=List.mem_map.1 hxm;exact(hf i (List.mem_range.1 hi)).1
  ·simp only [List.length_map,List.length_range];exact bP (aT _ hl) hw
  ·simp only [Rep,List.length_map,List.length_range];refine⟨some a,cap,rfl,hl,?_⟩;rcases bC len with h0 | h0
   ·exact .inl h0
   ·right
    have hspot:a.spot=none:=by
     obtain⟨c,g1,_⟩:=(hf 0 h0).2 0 hpos;have:=World.cell?_spot g1;simpa [Addr.add] using this
    refine⟨a,rfl,hspot,λj o hj ho=>⟨KG _,?_⟩⟩;obtain⟨c,g1,g2,g3⟩:=(hf j hj).2 o ho;refine⟨c,?_,g2,by rw [hgd j hj]; exact g3⟩;rw [<- g1];obtain⟨b,off,spot⟩:=a;simp only at hspot;subst hspot;congr 1;simp only [Addr.add];split<;>split<;>simp_all<;>omega
theorem zh6{g:Nat}{fn:Func}{c:Code}(hf:P.funcs[g]?=some fn)(hb:fn.body=some c) (hn:(fn.name == "runtime.NumGoroutine")=false) {ctr:Ctr} (hok:zd P g ctr) {args:List AV} {vals:List Value}
  (hspec:(ctr.spec args []).holds λr=>r=(.bool true,[])) (hr:RepL E0 W args [] vals) (hst:ku E0 W):Calls P g vals.toArray W λe W'=>e = .returned (.bool true)/\Below W.heap.size W W':=by
 have hn':¬ fn.name = "runtime.NumGoroutine" :=by simpa using hn
 have hg:Good (λ_=>False) W []:=⟨λb h=>h.elim,λi e ad he=>by simp at he,hst⟩;have hh:HRep (Own (λ_=>False) []) W [] []:=⟨rfl,λi j e f a b he=>by simp at he,λi e a he=>by simp at he,λi e b he=>by simp at he⟩;rcases hok args [] _ hspec (λ_=>rfl) (λ_=>False) W [] vals hg hh hr with ⟨_,h⟩ | ⟨v,w',h,_⟩
 ·refine h.mono ?_;rintro e W' ⟨v,rfl,r,hs,Z',hq,h1,_,_,_,_,hx⟩;cases hq;simp only [Rep] at h1;subst h1;exact⟨rfl,hx.os,hx.tape,hx.output,hx.size,λk hk=>hx.keep k hk λ⟨e,he,_⟩=>by simp at he⟩
 ·simp [callFunc,hf,hn',hb] at h
end
end Go.Sx
end
section
namespace Go.Sx
variable [Stat]
def TwN(P:Program)(W:World)(fuel:Nat)(t:TypeId)(cs:List Value):Prop:=∃ (H:Type) (enc:TypeId×Value->H) (base:Nat) (d:DataW H) (ps:List MemPlace),DataW.trod enc P W base (λ_=>true) true fuel t cs=some (d,ps)/\∀ n∈d.weights P t,n<=reachBytes
section
variable {P:Program} {W:World} {t e:TypeId} {cs:List Value}
theorem TwN.tw{fuel:Nat}(h:TwN P W fuel t cs):Tw P W t cs:=by
 obtain⟨H,enc,base,d,ps,h,hw⟩:=h;exact⟨H,enc,base,fuel,d,ps,h,hw⟩
theorem Tw.twn(h:Tw P W t cs):∃ fuel,TwN P W fuel t cs:=by
 obtain⟨H,enc,base,fuel,d,ps,h,hw⟩:=h;exact⟨fuel,H,enc,base,d,ps,h,hw⟩
theorem Jp{fuel:Nat}{fs:Array Field}(ht:P.underlying t=some (.struct fs))(h:TwN P W fuel t cs):cs.length=P.cellsOf t/\∃ n,n<fuel/\∀ (i:Nat) (f:Field),fs[i]?=some f->TwN P W n f.type ((cs.drop f.offset).take (P.cellsOf f.type)):=by
 obtain⟨H,enc,base,d,ps,h,hw⟩:=h;obtain⟨xs,n,hn,hx,hl,hlen,hf⟩:=DataW.trod_struct ht h;cases hx;refine⟨hl,n,by omega,λi f hfi=> ?_⟩;have hi:=hf i f hfi
 have hlt:i<xs.length:=by
  rw [hlen]; exact(aQ.1 hfi).1
 rw [aF hlt] at hi;refine⟨H,enc,base,xs[i].1,xs[i].2,hi,λm hm=>hw m ?_⟩;simp only [DataW.weights,ht];exact DataW.weights_mem_each (j:=i) (t:=f.type) (d:=xs[i].1) (by simp [hfi]) (by simp [hlt]) m hm
theorem zfi{fuel:Nat}(ht:P.underlying t=some (.slice e))(h:TwN P W fuel t cs):cs=[.slice none 0 0]\/∃ (a:Addr) (len cap n:Nat),n<fuel/\cs=[.slice (some a) len cap]/\len<=cap/\cap*P.bytesOf e<=reachBytes /\
  ∀ i,i<len->∃ cs',cs'.length=P.cellsOf e/\(∀ o,o<P.cellsOf e->W.cell? ((a.add (i*P.cellsOf e)).add o)=cs'[o]?)/\TwN P W n e cs':=by
 obtain⟨H,enc,base,d,ps,h,hw⟩:=h;rcases DataW.trod_slice ht h with ⟨rfl,_⟩ | ⟨a,len,cap,elems,rest,n,hn,rfl,hx,hb,hl,hm,hlen,hel,hsp,_⟩
 ·exact .inl rfl
 ·right;cases hx;obtain⟨hrl,_⟩:=hsp rfl;simp only [DataW.weights,ht] at hw;refine⟨a,len,cap,n,by omega,rfl,hl,?_,λi hi=> ?_⟩
  ·have:=hw _ (List.mem_cons_self);simp only [List.length_map,hlen,hrl] at this
   rwa [show len+(cap - len)=cap by omega] at this
  ·have h1:=hel i hi;have hlt:i<elems.length:=by rw [hlen]; exact hi
   rw [aF hlt,Option.bind_eq_some_iff] at h1;obtain⟨cs',h2,h3⟩:=h1;obtain⟨_,h4,h5⟩:=World.cells?_some h2;refine⟨cs',h4,h5,H,enc,base,elems[i].1,elems[i].2,h3,λm hm2=>hw m ?_⟩;simp only [aM,bZ];exact .inr (.inl (kq (d:=elems[i].1) (List.mem_map.2 ⟨elems[i],bK hlt,rfl⟩) m hm2))
theorem Jz{α:Type}(z:α)(cell:α->Nat->AV)(good:α->Prop){sz fuel:Nat}(ht:P.underlying t=some (.slice e))(hsz:P.cellsOf e=sz)(hpos:0<sz)
  (hel:∀ n cs',n<fuel->TwN P W n e cs'->∃ x:α,good x/\∀ o,o<sz->∃ c,cs'[o]?=some c/\c.oneCell'=true/\Rep E0 W (cell x o) [] c) (h:TwN P W fuel t cs) :
  ∃ (l:List α) (v:Value),cs=[v]/\(∀ x∈l,good x)/\l.length*P.bytesOf e<=reachBytes/\v.oneCell'=true/\Rep E0 W (.sl l.length sz λj=>cell (l.getD j z)) [] v:=by
 rcases zfi ht h with rfl | ⟨a,len,cap,n,hn,rfl,hl,hw,hx⟩
 ·refine⟨[],_,rfl,by simp,by simp,rfl,?_⟩;simp only [Rep];exact⟨none,0,rfl,aJ _,.inl rfl⟩
 ·rw [hsz] at hx
  have hx2:∀ i,∃ x:α,i<len->good x/\∀ o,o<sz->∃ c,W.cell? ((a.add (i*sz)).add o)=some c/\c.oneCell'=true/\Rep E0 W (cell x o) [] c:=λi=>by
   by_cases hi:i<len
   ·obtain⟨cs',h1,h2,h3⟩:=hx i hi;obtain⟨x,hg,hc⟩:=hel n cs' hn h3
    exact⟨x,λ_=>⟨hg,λo ho=>by
     obtain⟨c,g1,g2,g3⟩:=hc o ho;exact⟨c,by rw [h2 o ho,g1],g2,g3⟩⟩⟩
   ·exact⟨z,λh=>absurd h hi⟩
  obtain⟨f,hf⟩:=Classical.axiomOfChoice hx2;have hgd:∀ j,j<len->((List.range len).map f).getD j z=f j:=λj hj=>by simp [List.getD,hj]
  refine⟨(List.range len).map f,_,rfl,λx hxm=> ?_,?_,rfl,?_⟩
  ·obtain⟨i,hi,rfl⟩:=List.mem_map.1 hxm;exact(hf i (List.mem_range.1 hi)).1
  ·simp only [List.length_map,List.length_range];exact bP (aT _ hl) hw
  ·simp only [Rep,List.length_map,List.length_range];refine⟨some a,cap,rfl,hl,?_⟩;rcases bC len with h0 | h0
   ·exact .inl h0
   ·right
    have hspot:a.spot=none:=by
     obtain⟨c,g1,_⟩:=(hf 0 h0).2 0 hpos;have:=World.cell?_spot g1;simpa [Addr.add] using this
    refine⟨a,rfl,hspot,λj o hj ho=>⟨KG _,?_⟩⟩;obtain⟨c,g1,g2,g3⟩:=(hf j hj).2 o ho;refine⟨c,?_,g2,by rw [hgd j hj]; exact g3⟩;rw [<- g1];obtain⟨b,off,spot⟩:=a;simp only at hspot;subst hspot;congr 1;simp only [Addr.add];split<;>split<;>simp_all<;>omega
theorem zjc{H:Type}{enc:TypeId×Value->H}{base:Nat}{sp:Nat->Bool}{held:Bool}{fuel:Nat}{kd:IntKind}{ps:List Int}{q:List MemPlace}(ht:P.underlying t=some (.slice e))(he:P.underlying e=some (.int kd))(hc:P.cellsOf e=1)(hne:ps≠[])
  (h:DataW.trod enc P W base sp held fuel t cs=some (.slice (ps.map λz=>.lit (.int kd z)) [],q)):∃ c,cs=[c]/\c.oneCell'=true/\Rep E0 W (.sl ps.length 1 λj _=>.int kd (ps.getD j 0)) [] c:=by
 obtain⟨a,cap,rfl,hl,hel⟩:=open_row ht hc h;refine⟨_,rfl,rfl,?_⟩;simp only [List.length_map] at hl
 have hv:∀ j,j<ps.length->W.cell? (a.add j)=some (.int kd (ps.getD j 0)):=λj hj=>by
  obtain⟨v,n,q',h1,h2⟩:=hel j (.lit (.int kd (ps.getD j 0))) (by simp [List.getD,hj]);obtain⟨m,h3,h4,_⟩:=DataW.trod_int he h2;simp only [List.cons.injEq,and_true] at h3;simp only [bE,DataW.lit.injEq,Lit.int.injEq,true_and] at h4;rw [h1,h3,h4.1]
 simp only [Rep,List.length_map];refine⟨some a,cap,rfl,hl,.inr ⟨a,rfl,?_,λj o hj ho=>⟨KG _,.int kd (ps.getD j 0),?_,rfl,rfl⟩⟩⟩
 ·have:=World.cell?_spot (hv 0 (List.length_pos_iff.2 hne));simpa [Addr.add] using this
 ·have:o=0:=by omega
  subst this
  have hs:a.spot=none:=by
   have:=World.cell?_spot (hv 0 (List.length_pos_iff.2 hne));simpa [Addr.add] using this
  rw [<- hv j hj];obtain⟨b,off,spot⟩:=a;simp only at hs;subst hs;congr 1;simp only [Addr.add];split<;>simp_all
end
section
open Go.WideElems Go.ChangeMaps
variable {H:Type} {enc:TypeId×Value->H} {P:Program} {W:World} {base:Nat} {sp:Nat->Bool} {held:Bool}
theorem J7{x:Lit×DataW H} : ∀ {l:List (Lit×DataW H)},x∈l.foldr DataW.insert []↔x∈l
 | []=>Iff.rfl
 | y::l=>by rw [List.foldr_cons,mem_insert_iff,J7,aM]
theorem X4{g:Nat}{t k e:TypeId}{kd:IntKind}{ag:Bool}{sz:Nat}{ks:List Int}{has:Int->Bool}{get:Int->Nat->AV}{fuel:Nat}{c:Value}{es0:List (Lit×DataW H)}{q:List MemPlace}
  (hg:(Stat.z g).isSome=true) (ht:P.underlying t=some (.map k e)) (hk:P.underlying k=some (.int kd)) (hc:W.cell? ⟨g,0,none⟩=some c) (hne:es0≠[])
  (h:DataW.trod enc P W base sp held fuel t [c]=some (.map es0,q))
  (hin:∀ (n:Int) (d:DataW H),(.int kd n,d)∈es0->has n=true/\∀ (v:Value) (m:Nat) (q:List MemPlace),v.formed P e=true->DataW.trod enc P W base sp held m e v.cells.toList=some (d,q) ->
   match ag with
   | true=>∃ vs:List Value,v = .agg vs.toArray/\vs.length=sz/\∀ o,o<sz->∃ c,vs[o]?=some c/\Rep E0 W (get n o) [] c
   | false=>Rep E0 W (get n 0) [] v)
  (hout:∀ n,has n=true->∃ d,(.int kd n,d)∈es0):Rep E0 W (.mp kd ag sz ks has get) [] c/\∀ b,c = .map (some b)->b<W.heap.size:=by
 rcases open_map ht h with ⟨_,hx⟩ | ⟨b,es,clock,n,_,hcs,hb,_,F,hx⟩
 ·simp at hx
 ·simp only [List.cons.injEq,and_true] at hcs;subst hcs;simp only [bE,DataW.map.injEq] at hx
  have hkey:∀ x∈es.toList,∃ (m:Int) (z:DataW H×List MemPlace),x.key = .int kd m/\elemAt enc P W base sp held n e x.val=some z/\(.int kd m,z.1)∈es0:=by
   intro x hxm;obtain⟨y,hy⟩:=F.reads x hxm;have h1:=rd_key hy;obtain⟨z,h2,h3⟩:=rd_val hy;have h4:y∈es0:=by rw [hx.1,J7]; exact List.mem_map.2 ⟨x,hxm,rg_of hy⟩
   have h5:mapKey P k x.key=some y.1:=by
    simp only [keyOf,hk] at h1;exact h1
   unfold mapKey at h5;rw [hk] at h5;cases hxk:x.key with
   | int k' m=>
    rw [hxk] at h5;simp only at h5;split at h5
    ·rename_i hc2;have h6:=Option.some.inj h5;obtain⟨rfl,_⟩:=hc2;refine⟨m,z,rfl,h2,?_⟩;rw [h6,<- h3]; exact h4
    ·cases h5
   | _=>rw [hxk] at h5; simp at h5
  have hlt:b<W.heap.size:=(aQ.1 hb).1;refine⟨?_,λb' hb'=>by cases hb'; exact hlt⟩;simp only [Rep];refine⟨b,es,clock,rfl,KG _,⟨g,KG _,hg,hc⟩,hb,λm=> ?_⟩
  have hspec:=MapKept.findNow_spec (d:=.int kd) (k:=.int kd m) (by simp [MapKept.IsKey]) es.toList 0 (λx hxm=>by
   obtain⟨m',z,h1,_⟩:=hkey x hxm;rw [h1]; simp [MapKept.IsKey])
  rcases hspec with ⟨h1,h2⟩ | ⟨j,x,h1,h2,h3⟩
  ·refine⟨λ_=>h1,λhm=> ?_⟩;obtain⟨d,hd⟩:=hout m hm;rw [hx.1,J7] at hd;obtain⟨x,hxm,hrx⟩:=List.mem_map.1 hd;obtain⟨y,hy⟩:=F.reads x hxm;rw [rg_of hy] at hrx;have h5:=rd_key hy;rw [hrx] at h5;obtain⟨m',z,g1,_⟩:=hkey x hxm
   have:keyOf P k x.key=some (.int kd m'):=by
    rw [g1] at h5 ⊢;simp only [keyOf,hk,mapKey] at h5 ⊢;split at h5
    ·rename_i hwf; rw [aP hwf]
    ·cases h5
   rw [this] at h5;cases h5;exact absurd g1 (h2 x hxm)
  ·have hxm:x∈es.toList:=aY h2;obtain⟨m',z,g1,g2,g3⟩:=hkey x hxm;rw [h3] at g1;cases g1;obtain⟨hh,hrep⟩:=hin m z.1 g3;refine⟨λhf=>(by rw [hf] at hh; cases hh),λ_=>⟨_,x.val,h1,?_⟩⟩;unfold elemAt at g2;split at g2
   ·rename_i hfm;exact hrep x.val n z.2 hfm g2
   ·cases g2
end
end Go.Sx
end
section
set_option maxRecDepth 100000
namespace Go.Proofs.YtihplbclhhhgdaaGreatDoor
open Go Go.Sx Go.Nov Go.Proofs.Tryz Go.ChangeShapes Go.WideShapes Go.ChangeAt Go.RowKit
theorem wR:Tryz.prog.cellsOf 9=1:=by kernel_rfl
theorem VY:Tryz.prog.cellsOf 31=1:=by kernel_rfl
theorem vV:Tryz.prog.cellsOf 3=1:=by kernel_rfl
theorem za4:Tryz.prog.cellsOf 4=1:=by kernel_rfl
theorem YQ:Tryz.prog.cellsOf 76=3:=by kernel_rfl
theorem Uj:Tryz.prog.cellsOf 106=4:=by kernel_rfl
theorem znm:Tryz.prog.cellsOf 27=1:=by kernel_rfl
theorem zhv:Tryz.prog.cellsOf 28=1:=by kernel_rfl
theorem zgx:Tryz.prog.cellsOf 30=2:=by kernel_rfl
def zj3(x:Fx):Prop:=x.name.length<=reachBytes/\x.value.length<=reachBytes
def znp(x:Ch):Prop:=x.zM.length<=reachBytes/\x.name.length<=reachBytes
theorem zly{W:World}{cs:List Value}(h:Tw Tryz.prog W 76 cs):∃ x:Fx,zj3 x/\cs=[.string ⟨x.name.toArray⟩,.i x.date,.string ⟨x.value.toArray⟩]:=by
 obtain⟨hl,hf⟩:=xb Tryz.underlying76 h;rw [YQ] at hl
 match cs,hl with
 | [a,b,c],_=>
  have h0:Tw Tryz.prog W 9 (([a,b,c].drop 0).take (Tryz.prog.cellsOf 9)):=hf 0 _ rfl;rw [wR] at h0;replace h0:Tw Tryz.prog W 9 [a]:=h0;have h1:Tw Tryz.prog W 3 (([a,b,c].drop 1).take (Tryz.prog.cellsOf 3)):=hf 1 _ rfl;rw [vV] at h1;replace h1:Tw Tryz.prog W 3 [b]:=h1;have h2:Tw Tryz.prog W 31 (([a,b,c].drop 2).take (Tryz.prog.cellsOf 31)):=hf 2 _ rfl;rw [VY] at h2;replace h2:Tw Tryz.prog W 31 [c]:=h2;obtain⟨s,e0,w0⟩:=xu Tryz.underlying9 h0;obtain⟨n,e1,w1⟩:=xI Tryz.underlying3 h1;obtain⟨u,e2,w2⟩:=xu Tryz.underlying31 h2;cases e0; cases e1; cases e2;exact⟨⟨s,n,u⟩,⟨w0,w2⟩,rfl⟩
theorem zki{W:World}{cs:List Value}(h:Tw Tryz.prog W 106 cs):∃ x:Ch,znp x/\cs=[.string ⟨x.zM.toArray⟩,.string ⟨x.name.toArray⟩,.i x.date,.bool x.first]:=by
 obtain⟨hl,hf⟩:=xb Tryz.underlying106 h;rw [Uj] at hl
 match cs,hl with
 | [a,b,c,d],_=>
  have h0:Tw Tryz.prog W 9 (([a,b,c,d].drop 0).take (Tryz.prog.cellsOf 9)):=hf 0 _ rfl;rw [wR] at h0;replace h0:Tw Tryz.prog W 9 [a]:=h0;have h1:Tw Tryz.prog W 9 (([a,b,c,d].drop 1).take (Tryz.prog.cellsOf 9)):=hf 1 _ rfl;rw [wR] at h1;replace h1:Tw Tryz.prog W 9 [b]:=h1;have h2:Tw Tryz.prog W 3 (([a,b,c,d].drop 2).take (Tryz.prog.cellsOf 3)):=hf 2 _ rfl;rw [vV] at h2;replace h2:Tw Tryz.prog W 3 [c]:=h2;have h3:Tw Tryz.prog W 4 (([a,b,c,d].drop 3).take (Tryz.prog.cellsOf 4)):=hf 3 _ rfl;rw [za4] at h3;replace h3:Tw Tryz.prog W 4 [d]:=h3;obtain⟨s,e0,w0⟩:=xu Tryz.underlying9 h0;obtain⟨u,e1,w1⟩:=xu Tryz.underlying9 h1;obtain⟨n,e2,w2⟩:=xI Tryz.underlying3 h2;obtain⟨b,e3⟩:=zq2 Tryz.underlying4 h3;cases e0; cases e1; cases e2; cases e3;exact⟨⟨s,u,n,b⟩,⟨w0,w1⟩,rfl⟩
theorem zf7{W:World}{cs:List Value}(h:Tw Tryz.prog W 30 cs):∃ (f:List Fx) (c:List Ch) (u v:Value),cs=[u,v]/\(∀ x∈f,zj3 x)/\(∀ x∈c,znp x)/\f.length*40<=reachBytes/\c.length*48<=reachBytes/\Rep E0 W (fxS f) [] u/\Rep E0 W (chS c) [] v:=by
 obtain⟨hl,hf⟩:=xb Tryz.underlying30 h;rw [zgx] at hl
 match cs,hl with
 | [a,b],_=>
  have h0:Tw Tryz.prog W 27 (([a,b].drop 0).take (Tryz.prog.cellsOf 27)):=hf 0 _ rfl;rw [znm] at h0;replace h0:Tw Tryz.prog W 27 [a]:=h0;have h1:Tw Tryz.prog W 28 (([a,b].drop 1).take (Tryz.prog.cellsOf 28)):=hf 1 _ rfl;rw [zhv] at h1;replace h1:Tw Tryz.prog W 28 [b]:=h1
  obtain⟨f,u,e0,gf,wf,_,rf⟩:=y8 Fx.nil Fx.cell zj3 Tryz.underlying27 YQ (by decide) (λcs' h'=>by
   obtain⟨x,hx,rfl⟩:=zly h';refine⟨x,hx,λo ho=> ?_⟩
   match o,ho with
   | 0,_=>exact⟨_,rfl,rfl,by simp [Fx.cell,Rep]⟩
   | 1,_=>exact⟨_,rfl,rfl,by simp [Fx.cell,Rep]⟩
   | 2,_=>exact⟨_,rfl,rfl,by simp [Fx.cell,Rep]⟩) h0
  obtain⟨c,v,e1,gc,wc,_,rc⟩:=y8 Ch.nil Ch.cell znp Tryz.underlying28 Uj (by decide) (λcs' h'=>by
   obtain⟨x,hx,rfl⟩:=zki h';refine⟨x,hx,λo ho=> ?_⟩
   match o,ho with
   | 0,_=>exact⟨_,rfl,rfl,by simp [Ch.cell,Rep]⟩
   | 1,_=>exact⟨_,rfl,rfl,by simp [Ch.cell,Rep]⟩
   | 2,_=>exact⟨_,rfl,rfl,by simp [Ch.cell,Rep]⟩
   | 3,_=>exact⟨_,rfl,rfl,by simp [Ch.cell,Rep]⟩) h1
  cases e0; cases e1;have b1:Tryz.prog.bytesOf 76=40:=by kernel_rfl
  have b2:Tryz.prog.bytesOf 106=48:=by kernel_rfl
  rw [b1] at wf;rw [b2] at wc;exact⟨f,c,_,_,rfl,gf,gc,wf,wc,rf,rc⟩
theorem zqe{W:World}{cs:List Value}(h:Tw Tryz.prog W 30 cs):∃ p:List Fx×List Ch,zcp p/\Rep E0 W (envA p.1 p.2) [] (.agg cs.toArray):=by
 obtain⟨f,c,u,v,rfl,gf,gc,wf,wc,rf,rc⟩:=zf7 h;have hr:=reachBytes_lt;refine⟨(f,c),⟨by show f.length<_; omega,by show c.length<_; omega,λj hj=> ?_,λj hj=> ?_⟩,?_⟩
 ·have:=gf (f.getD j Fx.nil) (by simp only at hj; simp [List.getD,hj]);exact⟨by have:=this.1; show(f.getD j Fx.nil).name.length<_; omega,by have:=this.2; show(f.getD j Fx.nil).value.length<_; omega⟩
 ·have:=gc (c.getD j Ch.nil) (by simp only at hj; simp [List.getD,hj]);exact⟨by have:=this.1; show(c.getD j Ch.nil).zM.length<_; omega,by have:=this.2; show(c.getD j Ch.nil).name.length<_; omega⟩
 ·simp only [RepL,Rep,envA];exact⟨[u,v],rfl,u,_,rfl,rf,v,_,rfl,rc,rfl⟩
theorem zok{W:World}{cs:List Value}(h:Tw Tryz.prog W 3 cs):∃ n:Int,cs=[.i n]/\inR .i64 n/\Rep E0 W (.i n) [] (.i n):=by
 obtain⟨n,rfl,hn⟩:=xI Tryz.underlying3 h;refine⟨n,rfl,?_,by simp [Rep]⟩;simp only [Lit.wf,bA,aK] at hn;exact hn
theorem U6:Tryz.prog.cellsOf 5=1:=by kernel_rfl
theorem zhh:Tryz.prog.cellsOf 32=1:=by kernel_rfl
theorem JY:Tryz.prog.cellsOf 34=5:=by kernel_rfl
theorem Yz:∀ {l:List Ex},(∀ x∈l,x.thin)->Ex.jL l
 | [],_=>by rw [Ex.jL]; trivial
 | x::l,h=>by rw [Ex.jL]; exact⟨h x (by simp),Yz λy hy=>h y (by simp [hy])⟩
theorem zjk{W:World} : ∀ (fuel:Nat) {cs:List Value},TwN Tryz.prog W fuel 34 cs ->
  ∃ (x:Ex) (v:Value),x.thin/\cs=[.int .u8 x.kind,.string ⟨x.rat.toArray⟩,.string ⟨x.name.toArray⟩,.i x.date,v]/\v.oneCell'=true/\Rep E0 W (.sl x.sub.length 5 x.deep) [] v:=by
 intro fuel
 induction fuel using Nat.strongRecOn with
 | ind fuel ih=>
  intro cs h;obtain⟨hl,n,hn,hf⟩:=Jp Tryz.underlying34 h;rw [JY] at hl
  match cs,hl with
  | [a,b,c,d,e],_=>
   have h0:TwN Tryz.prog W n 5 (([a,b,c,d,e].drop 0).take (Tryz.prog.cellsOf 5)):=hf 0 _ rfl;rw [U6] at h0;replace h0:TwN Tryz.prog W n 5 [a]:=h0;have h1:TwN Tryz.prog W n 31 (([a,b,c,d,e].drop 1).take (Tryz.prog.cellsOf 31)):=hf 1 _ rfl;rw [VY] at h1;replace h1:TwN Tryz.prog W n 31 [b]:=h1;have h2:TwN Tryz.prog W n 9 (([a,b,c,d,e].drop 2).take (Tryz.prog.cellsOf 9)):=hf 2 _ rfl;rw [wR] at h2;replace h2:TwN Tryz.prog W n 9 [c]:=h2;have h3:TwN Tryz.prog W n 3 (([a,b,c,d,e].drop 3).take (Tryz.prog.cellsOf 3)):=hf 3 _ rfl;rw [vV] at h3;replace h3:TwN Tryz.prog W n 3 [d]:=h3;have h4:TwN Tryz.prog W n 32 (([a,b,c,d,e].drop 4).take (Tryz.prog.cellsOf 32)):=hf 4 _ rfl;rw [zhh] at h4;replace h4:TwN Tryz.prog W n 32 [e]:=h4;obtain⟨k,e0,_⟩:=xI Tryz.underlying5 h0.tw;obtain⟨r,e1,w1⟩:=xu Tryz.underlying31 h1.tw;obtain⟨m,e2,w2⟩:=xu Tryz.underlying9 h2.tw;obtain⟨z,e3,_⟩:=xI Tryz.underlying3 h3.tw
   obtain⟨l,v,e4,gl,_,hone,hr⟩:=Jz Ex.nil (λx=>Ex.cell x.kind x.rat x.name x.date x.sub.length x.deep) Ex.thin Tryz.underlying32 JY (by decide) (λn' cs' hn' h'=>by
    obtain⟨x,v,hx,rfl,hv,hr⟩:=ih n' (by omega) h';refine⟨x,hx,λo ho=> ?_⟩
    match o,ho with
    | 0,_=>exact⟨_,rfl,rfl,by simp [Ex.cell,Rep]⟩
    | 1,_=>exact⟨_,rfl,rfl,by simp [Ex.cell,Rep]⟩
    | 2,_=>exact⟨_,rfl,rfl,by simp [Ex.cell,Rep]⟩
    | 3,_=>exact⟨_,rfl,rfl,by simp [Ex.cell,Rep]⟩
    | 4,_=>exact⟨v,rfl,hv,hr⟩) h4
   cases e0; cases e1; cases e2; cases e3; cases e4;have hb:reachBytes<=2^48:=by decide
   refine⟨.mk k r m z l,_,?_,rfl,hone,?_⟩
   ·rw [Ex.thin]; exact⟨bP w1 hb,bP w2 hb,Yz gl⟩
   ·have hq:=Ex.zZ (.mk k r m z l);simp only [Ex.sub] at hq ⊢;simp only [Rep] at hr ⊢;obtain⟨a,cap,hv,hle,hcase⟩:=hr;refine⟨a,cap,hv,hle,hcase.imp id λ⟨ad,g1,g2,g3⟩=>⟨ad,g1,g2,λj o hj ho=> ?_⟩⟩;obtain⟨g4,c,g5,g6,g7⟩:=g3 j o hj ho;refine⟨g4,c,g5,g6,?_⟩;rw [hq j o hj ho];exact g7
theorem zlb:Tryz.prog.cellsOf 35=1:=by kernel_rfl
theorem zkm:Tryz.prog.cellsOf 36=1:=by kernel_rfl
theorem Qp:Tryz.prog.cellsOf 38=12:=by kernel_rfl
theorem KA:∀ {l:List Con},(∀ x∈l,x.thin)->Con.jL l
 | [],_=>by rw [Con.jL]; trivial
 | x::l,h=>by rw [Con.jL]; exact⟨h x (by simp),KA λy hy=>h y (by simp [hy])⟩
theorem Wl{W:World}{n sz:Nat}{g g':Nat->Nat->AV}{v:Value}(hq:eqG n sz g g')(hr:Rep E0 W (.sl n sz g') [] v):Rep E0 W (.sl n sz g) [] v:=by
 simp only [Rep] at hr ⊢;obtain⟨a,cap,hv,hle,hcase⟩:=hr;refine⟨a,cap,hv,hle,hcase.imp id λ⟨ad,g1,g2,g3⟩=>⟨ad,g1,g2,λj o hj ho=> ?_⟩⟩;obtain⟨g4,c,g5,g6,g7⟩:=g3 j o hj ho;exact⟨g4,c,g5,g6,by rw [hq j o hj ho]; exact g7⟩
theorem Ko{W:World} : ∀ (fuel:Nat) {cs:List Value},TwN Tryz.prog W fuel 38 cs ->
  ∃ (x:Con) (u v w:Value),x.thin/\cs=[.int .u8 x.kind,.string ⟨x.src.toArray⟩,.string ⟨x.dst.toArray⟩,.string ⟨x.name.toArray⟩,.int .u8 x.x.kind,.string ⟨x.x.rat.toArray⟩,.string ⟨x.x.name.toArray⟩,.i x.x.date,u,.i x.date,v,w] /\
   (u.oneCell'=true/\v.oneCell'=true/\w.oneCell'=true)/\Rep E0 W (.sl x.x.sub.length 5 (Ex.exG x.x.sub)) [] u/\Rep E0 W (.sl x.days.length 1 (Con.dayG x.days)) [] v/\Rep E0 W (.sl x.sub.length 12 x.deep) [] w:=by
 intro fuel
 induction fuel using Nat.strongRecOn with
 | ind fuel ih=>
  intro cs h;obtain⟨hl,n,hn,hf⟩:=Jp Tryz.underlying38 h;rw [Qp] at hl
  match cs,hl with
  | [a,b,c,d,e0,e1,e2,e3,e4,f,g,k],_=>
   have h0:TwN Tryz.prog W n 5 (([a,b,c,d,e0,e1,e2,e3,e4,f,g,k].drop 0).take (Tryz.prog.cellsOf 5)):=hf 0 _ rfl;rw [U6] at h0;replace h0:TwN Tryz.prog W n 5 [a]:=h0;have h1:TwN Tryz.prog W n 9 (([a,b,c,d,e0,e1,e2,e3,e4,f,g,k].drop 1).take (Tryz.prog.cellsOf 9)):=hf 1 _ rfl;rw [wR] at h1;replace h1:TwN Tryz.prog W n 9 [b]:=h1;have h2:TwN Tryz.prog W n 9 (([a,b,c,d,e0,e1,e2,e3,e4,f,g,k].drop 2).take (Tryz.prog.cellsOf 9)):=hf 2 _ rfl;rw [wR] at h2;replace h2:TwN Tryz.prog W n 9 [c]:=h2;have h3:TwN Tryz.prog W n 9 (([a,b,c,d,e0,e1,e2,e3,e4,f,g,k].drop 3).take (Tryz.prog.cellsOf 9)):=hf 3 _ rfl;rw [wR] at h3;replace h3:TwN Tryz.prog W n 9 [d]:=h3;have h4:TwN Tryz.prog W n 34 (([a,b,c,d,e0,e1,e2,e3,e4,f,g,k].drop 4).take (Tryz.prog.cellsOf 34)):=hf 4 _ rfl;rw [JY] at h4;replace h4:TwN Tryz.prog W n 34 [e0,e1,e2,e3,e4]:=h4;have h5:TwN Tryz.prog W n 3 (([a,b,c,d,e0,e1,e2,e3,e4,f,g,k].drop 9).take (Tryz.prog.cellsOf 3)):=hf 5 _ rfl;rw [vV] at h5;replace h5:TwN Tryz.prog W n 3 [f]:=h5;have h6:TwN Tryz.prog W n 35 (([a,b,c,d,e0,e1,e2,e3,e4,f,g,k].drop 10).take (Tryz.prog.cellsOf 35)):=hf 6 _ rfl;rw [zlb] at h6;replace h6:TwN Tryz.prog W n 35 [g]:=h6;have h7:TwN Tryz.prog W n 36 (([a,b,c,d,e0,e1,e2,e3,e4,f,g,k].drop 11).take (Tryz.prog.cellsOf 36)):=hf 7 _ rfl;rw [zkm] at h7;replace h7:TwN Tryz.prog W n 36 [k]:=h7;obtain⟨x0,y0,_⟩:=xI Tryz.underlying5 h0.tw;obtain⟨x1,y1,w1⟩:=xu Tryz.underlying9 h1.tw;obtain⟨x2,y2,w2⟩:=xu Tryz.underlying9 h2.tw;obtain⟨x3,y3,w3⟩:=xu Tryz.underlying9 h3.tw;obtain⟨x4,u,g4,y4,o4,r4⟩:=zjk n h4;obtain⟨x5,y5,_⟩:=xI Tryz.underlying3 h5.tw
   obtain⟨x6,v,y6,_,l6,o6,r6⟩:=y8 0 (λ(x:Int) _=>AV.i x) (λ_=>True) Tryz.underlying35 vV (by decide) (λcs' h'=>by
    obtain⟨x,rfl,hx⟩:=xI Tryz.underlying3 h';refine⟨x,trivial,λo ho=> ?_⟩
    match o,ho with
    | 0,_=>exact⟨_,rfl,rfl,by simp [Rep]⟩) h6.tw
   obtain⟨x7,w,y7,g7,l7,o7,r7⟩:=Jz Con.nil (λx=>Con.cell x.kind x.src x.dst x.name x.x x.date x.days x.sub.length x.deep) Con.thin Tryz.underlying36 Qp (by decide) (λn' cs' hn' h'=>by
    obtain⟨x,u,v,w,hx,rfl,⟨hu,hv,hw⟩,ru,rv,rz⟩:=ih n' (by omega) h';refine⟨x,hx,λo ho=> ?_⟩
    match o,ho with
    | 0,_=>exact⟨_,rfl,rfl,by simp [Con.cell,Rep]⟩
    | 1,_=>exact⟨_,rfl,rfl,by simp [Con.cell,Rep]⟩
    | 2,_=>exact⟨_,rfl,rfl,by simp [Con.cell,Rep]⟩
    | 3,_=>exact⟨_,rfl,rfl,by simp [Con.cell,Rep]⟩
    | 4,_=>exact⟨_,rfl,rfl,by simp [Con.cell,Rep]⟩
    | 5,_=>exact⟨_,rfl,rfl,by simp [Con.cell,Rep]⟩
    | 6,_=>exact⟨_,rfl,rfl,by simp [Con.cell,Rep]⟩
    | 7,_=>exact⟨_,rfl,rfl,by simp [Con.cell,Rep]⟩
    | 8,_=>exact⟨u,rfl,hu,ru⟩
    | 9,_=>exact⟨_,rfl,rfl,by simp [Con.cell,Rep]⟩
    | 10,_=>exact⟨v,rfl,hv,rv⟩
    | 11,_=>exact⟨w,rfl,hw,rz⟩) h7
   have b6:Tryz.prog.bytesOf 3=8:=by kernel_rfl
   have b7:Tryz.prog.bytesOf 38=184:=by kernel_rfl
   rw [b6] at l6;rw [b7] at l7;have hb:reachBytes<=2^48:=by decide
   cases y0; cases y1; cases y2; cases y3; cases y4; cases y5; cases y6; cases y7;refine⟨.mk x0 x1 x2 x3 x4 x5 x6 x7,_,_,_,?_,rfl,⟨o4,o6,o7⟩,?_,r6,?_⟩
   ·rw [Con.thin]; exact⟨bP w1 hb,bP w2 hb,bP w3 hb,g4,by omega,by omega,KA g7⟩
   ·exact Wl (λj o hj ho=>(Ex.zZ x4 j o hj ho).symm) r4
   ·exact Wl (Con.zZ (.mk x0 x1 x2 x3 x4 x5 x6 x7)) r7
theorem zp9{W:World}{cs:List Value}(h:Tw Tryz.prog W 38 cs):∃ x:Con,x.thin/\Rep E0 W x.conA [] (.agg cs.toArray):=by
 obtain⟨fuel,h⟩:=h.twn;obtain⟨x,u,v,w,hx,rfl,_,r1,r2,r3⟩:=Ko fuel h;refine⟨x,hx,?_⟩;have r4:Rep E0 W (Con.conS x.sub) [] w:=Wl (λj o hj ho=>(Con.zZ x j o hj ho).symm) r3;simp only [Con.conA,Rep,RepL];exact⟨_,rfl,_,_,rfl,rfl,_,_,rfl,rfl,_,_,rfl,rfl,_,_,rfl,rfl,_,_,rfl,rfl,_,_,rfl,rfl,_,_,rfl,rfl,_,_,rfl,rfl,_,_,rfl,r1,_,_,rfl,rfl,_,_,rfl,r2,_,_,rfl,r4,rfl⟩
theorem Kj:Tryz.prog.cellsOf 44=13:=by kernel_rfl
theorem znb:Tryz.prog.cellsOf 22=1:=by kernel_rfl
theorem znc:Tryz.prog.cellsOf 24=1:=by kernel_rfl
theorem zgj{W:World}{cs:List Value}(h:Tw Tryz.prog W 44 cs) :
  ∃ (x:Ver) (u v w:Value),x.con.thin/\cs=[.i x.day,.int .u8 x.con.kind,.string ⟨x.con.src.toArray⟩,.string ⟨x.con.dst.toArray⟩,.string ⟨x.con.name.toArray⟩,.int .u8 x.con.x.kind,.string ⟨x.con.x.rat.toArray⟩,.string ⟨x.con.x.name.toArray⟩,.i x.con.x.date,u,.i x.con.date,v,w] /\
   (u.oneCell'=true/\v.oneCell'=true/\w.oneCell'=true)/\Rep E0 W (.sl x.con.x.sub.length 5 (Ex.exG x.con.x.sub)) [] u/\Rep E0 W (.sl x.con.days.length 1 (Con.dayG x.con.days)) [] v/\Rep E0 W (.sl x.con.sub.length 12 x.con.deep) [] w:=by
 obtain⟨hl,hf⟩:=xb Tryz.underlying44 h;rw [Kj] at hl
 match cs,hl with
 | [z,a,b,c,d,e0,e1,e2,e3,e4,f,g,k],_=>
  have h0:Tw Tryz.prog W 3 (([z,a,b,c,d,e0,e1,e2,e3,e4,f,g,k].drop 0).take (Tryz.prog.cellsOf 3)):=hf 0 _ rfl;rw [vV] at h0;replace h0:Tw Tryz.prog W 3 [z]:=h0;have h1:Tw Tryz.prog W 38 (([z,a,b,c,d,e0,e1,e2,e3,e4,f,g,k].drop 1).take (Tryz.prog.cellsOf 38)):=hf 1 _ rfl;rw [Qp] at h1;replace h1:Tw Tryz.prog W 38 [a,b,c,d,e0,e1,e2,e3,e4,f,g,k]:=h1;obtain⟨x0,y0,_⟩:=xI Tryz.underlying3 h0;obtain⟨fuel,h1⟩:=h1.twn;obtain⟨x,u,v,w,hx,y1,ho,r1,r2,r3⟩:=Ko fuel h1;cases y0; cases y1;exact⟨⟨x0,x⟩,_,_,_,hx,rfl,ho,r1,r2,r3⟩
theorem zqg{W:World}{cs:List Value}(h:Tw Tryz.prog W 24 cs):∃ s:List Ver,zdq s/\Rep E0 W (verA s) [] (.agg cs.toArray):=by
 obtain⟨hl,hf⟩:=xb Tryz.underlying24 h;rw [znc] at hl
 match cs,hl with
 | [a],_=>
  have h0:Tw Tryz.prog W 22 (([a].drop 0).take (Tryz.prog.cellsOf 22)):=hf 0 _ rfl;rw [znb] at h0;replace h0:Tw Tryz.prog W 22 [a]:=h0
  obtain⟨l,v,e1,gl,wl,_,rl⟩:=y8 Ver.nil (λx=>Ver.cell x.day x.con) (λx=>x.con.thin) Tryz.underlying22 Kj (by decide) (λcs' h'=>by
   obtain⟨x,u,v,w,hx,rfl,⟨hu,hv,hw⟩,ru,rv,rz⟩:=zgj h';refine⟨x,hx,λo ho=> ?_⟩
   match o,ho with
   | 0,_=>exact⟨_,rfl,rfl,by simp [Ver.cell,Rep]⟩
   | 1,_=>exact⟨_,rfl,rfl,by simp [Ver.cell,Rep]⟩
   | 2,_=>exact⟨_,rfl,rfl,by simp [Ver.cell,Rep]⟩
   | 3,_=>exact⟨_,rfl,rfl,by simp [Ver.cell,Rep]⟩
   | 4,_=>exact⟨_,rfl,rfl,by simp [Ver.cell,Rep]⟩
   | 5,_=>exact⟨_,rfl,rfl,by simp [Ver.cell,Rep]⟩
   | 6,_=>exact⟨_,rfl,rfl,by simp [Ver.cell,Rep]⟩
   | 7,_=>exact⟨_,rfl,rfl,by simp [Ver.cell,Rep]⟩
   | 8,_=>exact⟨_,rfl,rfl,by simp [Ver.cell,Rep]⟩
   | 9,_=>exact⟨u,rfl,hu,ru⟩
   | 10,_=>exact⟨_,rfl,rfl,by simp [Ver.cell,Rep]⟩
   | 11,_=>exact⟨v,rfl,hv,rv⟩
   | 12,_=>exact⟨w,rfl,hw,rz⟩) h0
  have b1:Tryz.prog.bytesOf 44=192:=by kernel_rfl
  rw [b1] at wl;have hr:=reachBytes_lt;cases e1;refine⟨l,⟨by omega,λi=> ?_⟩,?_⟩
  ·by_cases hi:i<l.length
   ·exact gl _ (by simp [List.getD,hi])
   ·have:l.getD i Ver.nil=Ver.nil:=by simp [List.getD,hi]
    rw [this]; exact zna
  ·simp only [RepL,Rep,verA];exact⟨_,rfl,_,_,rfl,rl,rfl⟩
theorem U7:Tryz.prog.cellsOf 191=1:=by kernel_rfl
theorem znr:Tryz.prog.cellsOf 229=1:=by kernel_rfl
theorem zm2:Tryz.prog.cellsOf 231=2:=by kernel_rfl
def shpE(H:Type):List (Lit×DataW H):=shpL.map λp=>(.int .u8 p.1,.agg [.slice (p.2.1.map λz=>.lit (.int .u8 z)) [],.lit (.int .u8 p.2.2)])
theorem znv:∀ p∈shpL,ub p.1=some p.2/\p.2.1≠[]:=by decide
theorem zof{k:Int}(h:qL k=true):∃ q,(k,q)∈shpL:=by
 unfold qL ub at h;rw [Option.isSome_map] at h;obtain⟨p,hp⟩:=Option.isSome_iff_exists.1 h;have h1:=List.find?_some hp;have h2:=List.mem_of_find?_eq_some hp;have:p.1=k:=by simpa using h1
 exact⟨p.2,by rw [<- this]; exact h2⟩
theorem za7{W:World}{cs:List Value}{fuel:Nat}{q:List MemPlace}{c:Value}(hc:W.cell? ⟨1,0,none⟩=some c)
  (h:DataW.trod (λ_=>()) Tryz.prog W 0 (λ_=>true) false fuel 233 [c]=some (.map (shpE Unit),q)) :
  Rep E0 W (.mp .u8 true 2 [] (λk=>qL k) λk o=>match o with
   | 0=>.sl (jD k) 1 λj _=>.int .u8 (qP k j)
   | _=>.int .u8 (jr k)) [] c/\∀ b,c = .map (some b)->b<W.heap.size:=by
 refine X4 (g:=1) rfl Tryz.underlying233 Tryz.underlying5 hc (by decide) h ?_ ?_
 ·intro n d hd;obtain⟨p,hp,he⟩:=List.mem_map.1 hd;obtain⟨h1,h2⟩:=znv p hp;simp only [bE,Lit.int.injEq,true_and] at he;obtain⟨rfl,rfl⟩:=he;refine⟨by simp [qL,h1],λv m q' hf ht=> ?_⟩;obtain⟨xs,n',_,hx,hl,hlen,hfs⟩:=DataW.trod_struct Tryz.underlying231 ht;rw [zm2] at hl;cases v with
  | agg cs=>
   simp only [Value.cells] at hl hfs;obtain⟨cs⟩:=cs;simp only at hl hfs
   match cs,hl with
   | [a,b],_=>
    have f0:DataW.trod _ Tryz.prog W 0 _ false n' 229 (([a,b].drop 0).take (Tryz.prog.cellsOf 229))=xs[0]?:=hfs 0 _ rfl;have f1:DataW.trod _ Tryz.prog W 0 _ false n' 191 (([a,b].drop 1).take (Tryz.prog.cellsOf 191))=xs[1]?:=hfs 1 _ rfl;rw [znr] at f0;rw [U7] at f1
    match xs,hlen with
    | [x0,x1],_=>
     simp only [List.map_cons,List.map_nil,bE,DataW.agg.injEq,List.cons.injEq,and_true] at hx;obtain⟨⟨hx0,hx1⟩,_⟩:=hx;have f0:DataW.trod _ Tryz.prog W 0 _ false n' 229 [a]=some x0:=f0;have f1:DataW.trod _ Tryz.prog W 0 _ false n' 191 [b]=some x1:=f1;obtain⟨x0a,x0b⟩:=x0;obtain⟨x1a,x1b⟩:=x1;simp only at hx0 hx1;subst hx0; subst hx1;obtain⟨c0,e0,_,hr⟩:=zjc Tryz.underlying229 Tryz.underlying191 U7 h2 f0;cases e0;obtain⟨z,e1,e2,_⟩:=DataW.trod_int Tryz.underlying191 f1;cases e1;simp only [bE,DataW.lit.injEq,Lit.int.injEq,true_and] at e2;refine⟨[a,.int .u8 z],rfl,rfl,λo ho=> ?_⟩;have g1:qt p.1=p.2.1:=by simp [qt,h1]
     have g2:jr p.1=p.2.2:=by simp [jr,h1]
     match o,ho with
     | 0,_=>
      refine⟨a,rfl,?_⟩;show Rep E0 W (.sl (jD p.1) 1 λj _=>.int .u8 (qP p.1 j)) [] a;unfold jD qP;rw [g1];exact hr
     | 1,_=>
      refine⟨_,rfl,?_⟩;show Rep E0 W (.int .u8 (jr p.1)) [] _;simp only [Rep];rw [g2,e2.1]
  | _=>simp [Value.formed,Tryz.underlying231] at hf
 ·intro n hn;obtain⟨q',hq⟩:=zof hn;exact⟨_,List.mem_map.2 ⟨_,hq,rfl⟩⟩
theorem zp3:Tryz.prog.globalNamed "novation/observable.shapes" = some 1:=by kernel_rfl
theorem zqa:(Tryz.prog.globals[1]?).map (·.type)=some 233:=by kernel_rfl
theorem zo7:(Rows.laid_novation_observable_shapes:DataW Unit) = .map (shpE Unit):=rfl
theorem ztb:Tryz.prog.globalNamed "novation/contract.parts" = some 0:=by kernel_rfl
theorem zs5:(Tryz.prog.globals[0]?).map (·.type)=some 142:=by kernel_rfl
def prtE:List (Lit×DataW Unit):=[(.int .u8 1,.lit (.int .i64 0)),(.int .u8 2,.lit (.int .i64 15)),(.int .u8 3,.lit (.int .i64 256)),(.int .u8 4,.lit (.int .i64 136)),(.int .u8 5,.lit (.int .i64 272)),(.int .u8 6,.lit (.int .i64 160)),(.int .u8 7,.lit (.int .i64 261)),(.int .u8 8,.lit (.int .i64 197)),(.int .u8 9,.lit (.int .i64 208)),(.int .u8 10,.lit (.int .i64 208))]
theorem zle:(Rows.laid_novation_contract_parts:DataW Unit) = .map prtE:=rfl
abbrev KW:List (String×DataW Unit):=[("novation/observable.shapes",Rows.laid_novation_observable_shapes),("novation/observable.operations",Rows.laid_novation_observable_operations),("novation/contract.parts",Rows.laid_novation_contract_parts)]
theorem zfq{W:World}{cs:List Value}{fuel:Nat}{q:List MemPlace}{c:Value}(hc:W.cell? ⟨0,0,none⟩=some c)
  (h:DataW.trod (λ_=>()) Tryz.prog W 0 (λ_=>true) false fuel 142 [c]=some (.map prtE,q)) :
  Rep E0 W (.mp .u8 false 1 [] (λk=>decide (1<=k/\k<=10)) λk _=>.i (kP k)) [] c/\∀ b,c = .map (some b)->b<W.heap.size:=by
 refine X4 (g:=0) rfl Tryz.underlying142 Tryz.underlying5 hc (by decide) h ?_ ?_
 ·intro n d hd
  have one:∀ {v:Value} {m:Nat} {q:List MemPlace} {z:Int},v.formed Tryz.prog 3=true->DataW.trod (λ_=>()) Tryz.prog W 0 (λ_=>true) false m 3 v.cells.toList=some (.lit (.int .i64 z),q)->Rep E0 W (.i z) [] v:=by
   intro v m q z hf ht
   have hcell:v.cells.toList=[v]:=by
    cases v with
    | agg _=>simp [Value.formed,Tryz.underlying3] at hf
    | _=>rfl
   rw [hcell] at ht;obtain⟨z',e1,e2,_⟩:=DataW.trod_int Tryz.underlying3 ht;cases e1;simp only [bE,DataW.lit.injEq,Lit.int.injEq,true_and] at e2;simp only [Rep];rw [e2.1]
  simp only [prtE,aM,bE,Lit.int.injEq,true_and,List.not_mem_nil,or_false] at hd;rcases hd with ⟨rfl,rfl⟩ | ⟨rfl,rfl⟩ | ⟨rfl,rfl⟩ | ⟨rfl,rfl⟩ | ⟨rfl,rfl⟩ | ⟨rfl,rfl⟩ | ⟨rfl,rfl⟩ | ⟨rfl,rfl⟩ | ⟨rfl,rfl⟩ | ⟨rfl,rfl⟩<;>exact⟨rfl,λv m q hf ht=>one hf ht⟩
 ·intro n hn;have hn:=aB hn;have:n=1\/n=2\/n=3\/n=4\/n=5\/n=6\/n=7\/n=8\/n=9\/n=10:=by omega
  rcases this with rfl | rfl | rfl | rfl | rfl | rfl | rfl | rfl | rfl | rfl<;>exact⟨_,by unfold prtE; simp; rfl⟩
theorem zkc{W:World} (h:laidMet Tryz.prog [("novation/observable.shapes",Rows.laid_novation_observable_shapes),("novation/contract.parts",Rows.laid_novation_contract_parts)] W):(∃ c,W.cell? ⟨1,0,none⟩=some c /\
  Rep E0 W (.mp .u8 true 2 [] (λk=>qL k) λk o=>match o with
   | 0=>.sl (jD k) 1 λj _=>.int .u8 (qP k j)
   | _=>.int .u8 (jr k)) [] c/\∀ b,c = .map (some b)->b<W.heap.size)/\∃ c,W.cell? ⟨0,0,none⟩=some c /\
  Rep E0 W (.mp .u8 false 1 [] (λk=>decide (1<=k/\k<=10)) λk _=>.i (kP k)) [] c/\∀ b,c = .map (some b)->b<W.heap.size:=by
 obtain⟨ps,⟨g0,t0,cs0,f0,p0,q0,hg0,ht0,hv0,hd0,hr0,_⟩,_,_⟩:=h;obtain⟨g1,t1,cs1,f1,p1,q1,hg1,ht1,hv1,hd1,_,_⟩:=hr0;obtain rfl:=Option.some.inj (zp3.symm.trans hg0);obtain rfl:=Option.some.inj (zqa.symm.trans ht0);obtain rfl:=Option.some.inj (ztb.symm.trans hg1);obtain rfl:=Option.some.inj (zs5.symm.trans ht1);rw [zo7] at hd0;rw [zle] at hd1
 have hone:∃ c,cs0.toList=[c]:=by
  rcases Go.WideElems.open_map Tryz.underlying233 hd0 with ⟨hcs,_⟩ | ⟨b,es,clock,n,_,hcs,_⟩
  ·exact⟨_,hcs⟩
  ·exact⟨_,hcs⟩
 have hone1:∃ c,cs1.toList=[c]:=by
  rcases Go.WideElems.open_map Tryz.underlying142 hd1 with ⟨hcs,_⟩ | ⟨b,es,clock,n,_,hcs,_⟩
  ·exact⟨_,hcs⟩
  ·exact⟨_,hcs⟩
 obtain⟨c,hcs⟩:=hone;obtain⟨c',hcs'⟩:=hone1;rw [hcs] at hd0;rw [hcs'] at hd1
 have k1:W.cell? ⟨1,0,none⟩=some c:=by
  have:=World.var?_cell hg0 hv0 0;rw [Array.eq_one_of_toList hcs] at this;simpa using this
 have k2:W.cell? ⟨0,0,none⟩=some c':=by
  have:=World.var?_cell hg1 hv1 0;rw [Array.eq_one_of_toList hcs'] at this;simpa using this
 obtain⟨r1,b1⟩:=za7 (cs:=[c]) k1 hd0;obtain⟨r2,b2⟩:=zfq (cs:=[c']) k2 hd1;exact⟨⟨c,k1,r1,b1⟩,c',k2,r2,b2⟩
theorem gOps:Tryz.prog.globalNamed "novation/observable.operations" = some 2:=by kernel_rfl
theorem tOps:(Tryz.prog.globals[2]?).map (·.type)=some 237:=by kernel_rfl
def opNm(b:L8):L8:=[40,42,110,111,118,97,116,105,111,110,47,111,98,115,101,114,118,97,98,108,101,46,115,116,97,116,101,41,46]++b
def opEs:List (Lit×DataW L8):=[(.int .u8 4,.held (opNm [97,100,100])),(.int .u8 5,.held (opNm [115,117,98])),(.int .u8 6,.held (opNm [109,117,108])),(.int .u8 7,.held (opNm [103,114,101,97,116,101,114])),(.int .u8 8,.held (opNm [115,109,97,108,108,101,114]))]
def opsD:DataW Unit:=.map [(.int .u8 4,.iface "func" (.lit (.string (opNm [97,100,100])))),(.int .u8 5,.iface "func" (.lit (.string (opNm [115,117,98])))),(.int .u8 6,.iface "func" (.lit (.string (opNm [109,117,108])))),(.int .u8 7,.iface "func" (.lit (.string (opNm [103,114,101,97,116,101,114])))),(.int .u8 8,.iface "func" (.lit (.string (opNm [115,109,97,108,108,101,114]))))]
theorem zpr:(Rows.laid_novation_observable_operations:DataW Unit) = .iface "func table" opsD:=rfl
theorem zkz:opsD.funcsOut = .map opEs:=rfl
theorem zp2{W:World}{cs:List Value}{fuel:Nat}{q:List MemPlace}{c:Value}(hc:W.cell? ⟨2,0,none⟩=some c)
  (h:DataW.trod (funcToken Tryz.prog) Tryz.prog W 0 (λ_=>true) true fuel 237 [c]=some (.map opEs,q)) :
  Rep E0 W (.mp .u8 false 1 [4,5,6,7,8] (λk=>decide (4<=k/\k<=8)) λk _=>
  if k=4 then .fn 238 [] [] else if k=5 then .fn 239 [] [] else if k=6 then .fn 240 [] []
  else if k=7 then .fn 241 [] [] else .fn 242 [] []) [] c/\∀ b,c = .map (some b)->b<W.heap.size:=by
 refine X4 (g:=2) rfl Tryz.underlying237 Tryz.underlying5 hc (by decide) h ?_ ?_
 ·intro n d hd
  have one:∀ {v:Value} {m:Nat} {q:List MemPlace} {bs:L8} {f0:Nat},((List.range Tryz.prog.funcs.size).filter λf=>(Tryz.prog.funcs[f]?).any (·.name.toUTF8.data.toList == 40::bs))=[f0] ->
    v.formed Tryz.prog 236=true->DataW.trod (funcToken Tryz.prog) Tryz.prog W 0 (λ_=>true) true m 236 v.cells.toList=some (.held (40::bs),q)->Rep E0 W (.fn f0 [] []) [] v:=by
   intro v m q bs f0 hone hf ht
   have hcell:v.cells.toList=[v]:=by
    cases v with
    | agg _=>simp [Value.formed,Tryz.underlying236] at hf
    | _=>rfl
   rw [hcell] at ht;have:=func_of_trod Tryz.underlying236 hone ht;subst this;simp [Rep,RepL]
  simp only [opEs,aM,bE,Lit.int.injEq,true_and,List.not_mem_nil,or_false] at hd;rcases hd with ⟨rfl,rfl⟩ | ⟨rfl,rfl⟩ | ⟨rfl,rfl⟩ | ⟨rfl,rfl⟩ | ⟨rfl,rfl⟩
  ·exact⟨rfl,λv m q hf ht=>one (f0:=238) (by kernel_rfl) hf ht⟩
  ·exact⟨rfl,λv m q hf ht=>one (f0:=239) (by kernel_rfl) hf ht⟩
  ·exact⟨rfl,λv m q hf ht=>one (f0:=240) (by kernel_rfl) hf ht⟩
  ·exact⟨rfl,λv m q hf ht=>one (f0:=241) (by kernel_rfl) hf ht⟩
  ·exact⟨rfl,λv m q hf ht=>one (f0:=242) (by kernel_rfl) hf ht⟩
 ·intro n hn;have hn:=aB hn;have:n=4\/n=5\/n=6\/n=7\/n=8:=by omega
  rcases this with rfl | rfl | rfl | rfl | rfl
  ·exact⟨_,.head _⟩
  ·exact⟨_,.tail _ (.head _)⟩
  ·exact⟨_,.tail _ (.tail _ (.head _))⟩
  ·exact⟨_,.tail _ (.tail _ (.tail _ (.head _)))⟩
  ·exact⟨_,.tail _ (.tail _ (.tail _ (.tail _ (.head _))))⟩
theorem zor{W:World}(h:laidMetH Tryz.prog KW W):ku E0 W:=by
 have h1:laidMet Tryz.prog [("novation/observable.shapes",Rows.laid_novation_observable_shapes),("novation/contract.parts",Rows.laid_novation_contract_parts)] W:=h.1;have h2:=laidMetH.funcs h (n:= "novation/observable.operations") (d:=opsD) (by simp [KW,zpr]);obtain⟨⟨c1,k1,r1,b1⟩,c3,k3,r3,b3⟩:=zkc h1;obtain⟨g0,t0,cs0,f0,p0,hg0,ht0,hv0,hd0⟩:=h2;obtain rfl:=Option.some.inj (gOps.symm.trans hg0);obtain rfl:=Option.some.inj (tOps.symm.trans ht0);rw [zkz] at hd0
 have hone:∃ c,cs0.toList=[c]:=by
  rcases Go.WideElems.open_map Tryz.underlying237 hd0 with ⟨hcs,_⟩ | ⟨b,es,clock,n,_,hcs,_⟩
  ·exact⟨_,hcs⟩
  ·exact⟨_,hcs⟩
 obtain⟨c2,hcs⟩:=hone;rw [hcs] at hd0
 have k2:W.cell? ⟨2,0,none⟩=some c2:=by
  have:=World.var?_cell hg0 hv0 0;rw [Array.eq_one_of_toList hcs] at this;simpa using this
 obtain⟨r2,b2⟩:=zp2 (cs:=[c2]) k2 hd0;refine⟨λg a hz=>⟨KG _,?_⟩⟩;by_cases hg:g=1
 ·subst hg;cases hz;exact⟨c1,k1,r1,b1⟩
 ·by_cases hg2:g=2
  ·subst hg2;cases hz;exact⟨c2,k2,r2,b2⟩
  ·by_cases hg3:g=0
   ·subst hg3;cases hz;exact⟨c3,k3,r3,b3⟩
   ·have:Stat.z g=none:=by
     show(if _ then _ else if _ then _ else if _ then _ else _)=_;rw [aO hg,aO hg3,aO hg2]
    rw [this] at hz; cases hz
theorem walk{W:World}{v0 v1 v2 v3:List Value}(h0:Tw Tryz.prog W 24 v0)(h1:Tw Tryz.prog W 3 v1)(h2:Tw Tryz.prog W 38 v2)(h3:Tw Tryz.prog W 30 v3)(hst:ku E0 W) :
  ∃ s1:Value,v1=[s1]/\Calls Tryz.prog 5 #[.agg v0.toArray,s1,.agg v2.toArray,.agg v3.toArray] W λe W'=>e = .returned (.bool true)/\Below W.heap.size W W':=by
 obtain⟨s,sg,sr⟩:=zqg h0;obtain⟨d,rfl,dg,dr⟩:=zok h1;obtain⟨c,cg,cr⟩:=zp9 h2;obtain⟨v,vg,vr⟩:=zqe h3;refine⟨_,rfl,?_⟩;refine zh6 (fn:=Tryz.f5) (c:=Tryz.f5.body.getD .skip) rfl rfl rfl zm1 (args:=[verA s,.i d,c.conA,envA v.1 v.2]) (vals:=[.agg v0.toArray,.i d,.agg v2.toArray,.agg v3.toArray]) ?_ ?_ hst
 ·refine⟨⟨s,d,c,v.1,v.2⟩,⟨?_,⟨sg,cg,vg⟩⟩,⟨true,rfl⟩,?_⟩
  ·simp [eqL,eqA,eqA0,eqL0,envA,fxS,chS,Fx.av,Ch.av,Ex.exA,Ex.exS,verA,Con.conA,Con.dayS,Con.conS,za]
  ·rintro _ rfl;rfl
 ·exact⟨_,_,rfl,sr,⟨_,_,rfl,dr,⟨_,_,rfl,cr,⟨_,_,rfl,vr,rfl⟩⟩⟩⟩
theorem own:ownKnob Tryz.prog.godebug=none:=by kernel_rfl
theorem laid:laidOutB Tryz.prog=true:=by kernel_rfl
theorem zi3(os:Os)(args:Array Value):laidMetH Tryz.prog KW ((World.doorLaid Tryz.prog 400 os).forCall (λ_ _=>0) ⟨#[],args,[]⟩).memory:=
 laidMetH_of_parts3 (fuel:=8) (laidMet_of_run' 8 (by kernel_rfl) (by kernel_rfl)) (by kernel_rfl) (by kernel_rfl)
theorem lifted(os:Os)(started:os.Started)(H:Type)(enc:TypeId×Value->H) :
  ReturnsInHanded {} Tryz.checked os 5 .any (λw args=>(Rows.amendSplitsSpec.pre enc Tryz.prog Tryz.f5 [] false w args/\laidMetH Tryz.prog KW w)/\sizedMet enc Tryz.prog Tryz.f5 (OpenSpec.ofChange Rows.amendSplitsSpec) false w args)
   (Rows.amendSplitsSpec.post enc Tryz.prog Tryz.f5 false true false false):=by
 refine returnsInHanded_of_change_and (C:=Tryz.checked) (X:=λw _=>laidMetH Tryz.prog KW w) (λ_ _ _ hh h=>h.of_heap hh) own started (by kernel_rfl) Tryz.func5
  (ChangeSpec.witness_shaped (enc:=enc) (C:=Tryz.checked) (os:=os) (X:=λw _=>laidMetH Tryz.prog KW w) false (World.doorLaid Tryz.prog 400 os) #[.agg #[.slice none 0 0],.i 0,.agg #[.int .u8 0,.string ⟨#[]⟩,.string ⟨#[]⟩,.string ⟨#[]⟩,.int .u8 0,.string ⟨#[]⟩,.string ⟨#[]⟩,.i 0,.slice none 0 0,.i 0,.slice none 0 0,.slice none 0 0],.agg #[.slice none 0 0,.slice none 0 0]] 8 rfl (World.shaped_of_RefB (by kernel_rfl) (by kernel_rfl)) (by kernel_rfl) (by kernel_rfl) (by kernel_rfl) (zi3 os _)) ?_
 intro W base args ds gs before hval0 hW hcnd hwt hL _;have hval:∀ (j:Nat) t v,Tryz.f5.params[j]?=some t->args[j]?=some v->Value.okWide Tryz.prog W .any base t v:=hval0;have hW':=hW;obtain⟨p,q,hA0,hV,rfl,hfz,hnd⟩:=hW;have hA:DataW.TrodAll enc Tryz.prog W 0 (λ_=>true) true Tryz.f5.params.toList args.toList ds p:=hA0;rw [Tryz.params5] at hA hval;obtain⟨v0,vs0,d0,ds0,p0,q0,hargs,rfl,rfl,h0,r0⟩:=trodAll_cons hA;obtain⟨v1,vs1,d1,ds1,p1,q1,rfl,rfl,rfl,h1,r1⟩:=trodAll_cons r0;obtain⟨v2,vs2,d2,ds2,p2,q2,rfl,rfl,rfl,h2,r2⟩:=trodAll_cons r1;obtain⟨v3,vs3,d3,ds3,p3,q3,rfl,rfl,rfl,h3,r3⟩:=trodAll_cons r2;obtain⟨rfl,rfl,rfl⟩:=trodAll_nil r3;obtain rfl:args = #[v0,v1,v2,v3]:=by cases args; simp_all
 obtain⟨rfl,rfl⟩:=trodVars_none hV;clear hA0 hval0;simp only [List.append_nil] at hW' hwt
 have hw:∀ (j:Nat) (t:TypeId) (d:DataW H),[24,3,38,30][j]?=some t->[d0,d1,d2,d3][j]?=some d->∀ n∈d.weights Tryz.prog t,n<=reachBytes:=λj t d ht hd n hn=>by
  have:=bG.1 hwt n (DataW.weights_mem_each (j:=j) (t:=t) (d:=d) (by exact ht) (by exact hd) n hn);simpa using this
 obtain⟨c0,rfl,_⟩:=okWide_struct Tryz.underlying24 (hval 0 24 v0 rfl rfl);obtain⟨c1,rfl⟩:=okWide_int Tryz.underlying3 (hval 1 3 v1 rfl rfl);obtain⟨c2,rfl,_⟩:=okWide_struct Tryz.underlying38 (hval 2 38 v2 rfl rfl);obtain⟨c3,rfl,_⟩:=okWide_struct Tryz.underlying30 (hval 3 30 v3 rfl rfl)
 have t0:Tw Tryz.prog W 24 c0.toList:=by
  obtain⟨fuel,hf⟩:=h0;exact⟨H,enc,0,fuel,d0,p0,by simpa [Value.cells] using hf,hw 0 _ d0 rfl rfl⟩
 have t1:Tw Tryz.prog W 3 [.i c1]:=by
  obtain⟨fuel,hf⟩:=h1;exact⟨H,enc,0,fuel,d1,p1,by simpa [Value.cells] using hf,hw 1 _ d1 rfl rfl⟩
 have t2:Tw Tryz.prog W 38 c2.toList:=by
  obtain⟨fuel,hf⟩:=h2;exact⟨H,enc,0,fuel,d2,p2,by simpa [Value.cells] using hf,hw 2 _ d2 rfl rfl⟩
 have t3:Tw Tryz.prog W 30 c3.toList:=by
  obtain⟨fuel,hf⟩:=h3;exact⟨H,enc,0,fuel,d3,p3,by simpa [Value.cells] using hf,hw 3 _ d3 rfl rfl⟩
 have hlt:∀ x∈p0++(p1++(p2++p3)),x.block<W.heap.size:=λx hx=>by simpa using hW'.lt x (by simpa using hx)
 obtain⟨s1,e1,hcall⟩:=walk t0 t1 t2 t3 (zor hL);cases e1;simp only [Array.toArray_toList] at hcall;refine hcall.mono λe W' ⟨he,hb⟩=> ?_
 subst he;refine⟨_,rfl,_,_,_,[],p0++(p1++(p2++p3)),[],hW',trodAll_mk1 (shut_bool Tryz.underlying4 true),?_,rfl,hb.frame _,λh=>by cases h⟩;exact trodAll_mk4 (Below.trod laid (by kernel_rfl) (aB (by kernel_rfl)) h0 hb λx hx=>hlt x (by simp [hx])) (Below.trod laid (by kernel_rfl) (aB (by kernel_rfl)) h1 hb λx hx=>hlt x (by simp [hx])) (Below.trod laid (by kernel_rfl) (aB (by kernel_rfl)) h2 hb λx hx=>hlt x (by simp [hx])) (Below.trod laid (by kernel_rfl) (aB (by kernel_rfl)) h3 hb λx hx=>hlt x (by simp [hx]))
theorem over:Rows.amendSplitsRow.holds Tryz.pinned (OpenSpec.ofChange Rows.amendSplitsSpec):=
 OpenClaim.holds_of_wide 5 Tryz.f5 rfl rfl rfl rfl rfl rfl rfl ⟨rfl,rfl,rfl,rfl,rfl⟩ rfl rfl rfl rfl rfl (by kernel_rfl) Tryz.func5 (by kernel_rfl)
  (aB (by kernel_rfl)) (by unfold Func.isWrapper; first | (rw [aP (by decide +kernel)]; kernel_rfl) | (rw [aO (by decide +kernel)]; exact⟨rfl,rfl⟩))
  (λos started H enc _=>lifted os started H enc)
theorem Q1:Rows.AmendSplitsSaid:=over
theorem amendSplits_holds:Rows.AmendSplitsCardSaid:=
 Claim7.holds_tied_plain_at .later [] [.mappedDeep,.funcs,.mapped] true (true, "5a5bde0e4a7e055d95545a1a53a708b7623a4ebd1245c3f7baff83f2d488665e") true
  Q1 (λ_ h=>by cases h) (by kernel_rfl) (λ_ h=>by cases h) amendSplits_row_tie rfl ⟨rfl,rfl⟩ (by kernel_rfl) rfl
  (λf fn hf hfn=>by
   obtain rfl:f=5:=Option.some.inj ((show Tryz.prog.funcNamed "novation/novationlaw24.AmendSplits" = some 5 by kernel_rfl).symm.trans hf) |>.symm;obtain rfl:fn=Tryz.f5:=(Option.some.inj (Tryz.func5.symm.trans hfn)).symm
   exact⟨by kernel_rfl,λj t ht=>by
    rw [Tryz.params5] at ht;have hm:t∈[24,3,38,30]:=by simpa using Array.mem_of_getElem? ht
    have hall:([24,3,38,30].all λu=> !Tryz.prog.wantsStandIn u)=true:=by kernel_rfl
    exact(show Tryz.prog.wantsStandIn t=false by simpa using bG.1 hall t hm)⟩)
  (by kernel_rfl)
end Go.Proofs.YtihplbclhhhgdaaGreatDoor
end
