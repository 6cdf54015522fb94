/- The law returns true for every input, and each argument reads afterwards as it read before; no condition. -/
import Derived.Test.YtihplbclhhhgdaaGreatDoorSxj
import Derived.Scope
import Derived.SizedLaws
import Derived.ChangeArms
import Derived.Deep.Slices
import Derived.Carry
import Derived.LaidMore
import Derived.WideKeyElems2
import Derived.ProofKit
import Derived.OpenShut
import Derived.ReadAgain
import Derived.Test.YtihplbclhhhgdaaGreatDoorRows
import Derived.MakeChecks
import Derived.Test.YtihplbclhhhgdaaGreatDoorCards
import Derived.Test.YtihplbclhhhgdaaGreatDoorTie
import Derived.Stop.Joined
import Derived.SevenTiedAt
set_option linter.unusedVariables false
set_option linter.unusedSimpArgs false
set_option linter.unusedSectionVars false
section
set_option maxRecDepth 100000
open Go Go.Sx Go.Proofs Go.Nov
namespace Go.Proofs.Tryz
attribute [local simp] eqKV eqA eqA0 eqH eqB eqL eqL0
structure FvA where
 s:List Ver
 f:List Fx
 h:List Ch
def flVC:Ctr:=ctrP false (λp:FvA=>[verA p.s,envA p.f p.h]) (λp=>p.s.length<2^30/\fitV p.s/\envP (p.f,p.h)) (λp r=>r=flV p.s p.f p.h) (λ_ (r:List Fl×Int)=>(.tup [flS r.1,.i r.2],[]))
noncomputable def GFaV:=tb y2 (tb Z9 (tb YE (tb ze1 tz)))
theorem Ver.zpj(v:Ver):cellsOf v.av=some v.cells/\v.cells.length=13/\v.cells.all oneA=true/\v.cells.all kb=true:=⟨rfl,rfl,rfl,rfl⟩
theorem fitV.any{s:List Ver}(h:fitV s)(i:Nat):(s.getD i Ver.nil).con.big<2^37/\(s.getD i Ver.nil).con.nodes<=1000000:=by
 by_cases hi:i<s.length
 ·exact h i hi
 ·have:s.getD i Ver.nil=Ver.nil:=by simp only [List.getD]; rw [aZ (by omega)]; rfl
  rw [this]; exact⟨by decide +kernel,by decide +kernel⟩
theorem zti(l m:List Fl):eqG (l.length+m.length) 5 (appG l.length (flG l) (flG m)) (flG (l++m)):=by
 intro j o hj ho;simp only [appG,flG];by_cases h:j<l.length
 ·rw [aP h]; simp [List.getD,bT,h]
 ·rw [aO h]; simp [List.getD,bT,h]
theorem YB(x:Fl):∀ l:List Fl,(insF x l).length=l.length+1
 | []=>rfl
 | y::l=>by rw [insF]; split<;>simp [YB x l]
theorem VW:∀ (l m:List Fl),(l.foldl (λm x=>insF x m) m).length=m.length+l.length
 | [],m=>rfl
 | x::l,m=>by rw [List.foldl_cons,VW l,YB,aL]; omega
theorem zdw(l:List Fl):(ordM l).length=l.length:=by
 unfold ordM; rw [VW]; simp
theorem zos(c:Con)(day fin:Int)(f:List Fx)(h:List Ch):(befM c day fin f h).1.length<=c.nodes:=by
 unfold befM;split
 ·simp
 split
 ·simp
 split
 ·simp
 split
 ·simp
 ·rename_i u hu;have:=(JY c hu).1;simp only [zdw];omega
theorem zgu{s:List Ver}{f:List Fx}{h:List Ch}{pre:List Nat}{x:Nat}(hp:pre++[x] <+: List.range s.length)(h1:∀ i∈pre,(flAt s f h i).2=0)(h2:(flAt s f h x).2≠0):Yp s f h s.length=some x:=by
 obtain⟨r,hr⟩:=hp;unfold Yp;rw [<- hr,List.append_assoc,List.find?_append]
 have:pre.find? (λi=>decide ((flAt s f h i).2≠0))=none:=by
  rw [List.find?_eq_none];intro i hi;simp [h1 i hi]
 rw [this];simp [h2]
theorem zgs{s:List Ver}{f:List Fx}{h:List Ch}(h1:∀ i∈List.range s.length,(flAt s f h i).2=0):Yp s f h s.length=none:=by
 unfold Yp;rw [List.find?_eq_none];intro i hi;simp [h1 i hi]
theorem U1{s:List Ver}{f:List Fx}{h:List Ch}(pre:List Nat)(x:Nat):yb s f h (pre++[x])=yb s f h pre++(flAt s f h x).1:=by
 unfold yb; simp
theorem ztv(s:List Ver)(f:List Fx)(h:List Ch)(n:Nat):Vz 5 4 n 5 [.box [.sl s.length 13 (verG s)],.box [.sl f.length 3 (fxG f),.sl h.length 4 (chG h)],.box [.nils],.box [.i 0],.box [.osl 5 5 0 n]]:=by
 refine⟨rfl,rfl,λi b hi hb=> ?_⟩
 match i,hi with
 | 0,_=>cases hb; exact⟨_,rfl,rfl⟩
 | 1,_=>cases hb; exact⟨_,rfl,rfl⟩
 | 2,_=>cases hb; exact⟨_,rfl,rfl⟩
 | 3,_=>cases hb; exact⟨_,rfl,rfl⟩
 | i+5,_=>simp at hb
noncomputable def LFv:List Go.Sx.Item:=jk 4 (f19.body.getD .skip)
noncomputable def LFv4:List Go.Sx.Item:=LFv.drop 4
def SFv:KV:=[(2,.ptr 0 0),(3,.ptr 1 0),(4,.ptr 2 0),(5,.ptr 3 0),(8,.ptr 4 0)]
def SFv2:KV:=[(3,.ptr 1 0),(4,.ptr 2 0),(5,.ptr 3 0),(8,.ptr 4 0),Z 24,Z 25,Z 26]
def HFv(s:List Ver)(f:List Fx)(h:List Ch)(o:AV):Heap:=[.box [.sl s.length 13 (verG s)],.box [.sl f.length 3 (fxG f),.sl h.length 4 (chG h)],.box [.nils],.box [.i 0],.box [o]]
abbrev q59(A:List AV)(H:Heap)(x:List Ver):Prop:=eqL A [.agg [.sl x.length 13 (verG x)]]/\eqH H []/\0=0/\True
theorem zlc:zf prog 19 flVC:=by
 refine zh' f19 λp hp O w0 Q hq=> ?_
 obtain⟨s,f,h⟩:=p;replace hq:=hq _ rfl;obtain⟨h1,h2,h3⟩:=hp;simp only at h1 h2 h3 hq;have h8:∀ {e:Int},(!decide (e=0))=true->e≠0:=λh he=>by rw [he] at h; cases h
 have h9:∀ {e:Int},(!decide (e=0))=false->e=0:=λ{e} h=>by
  by_cases he:e=0
  ·exact he
  ·rw [aW he] at h; cases h
 have nil:∀ e:Int,LeA (.tup [.nils,.i e]) (.tup [flS [],.i e]):=λe=>LeA.tup ⟨LeA.nils,LeA.refl _,trivial⟩
 refine zc.spine 4 ?_;refine zc.cutL (ι:={u:Unit // errV s=0/\errE f h=0}) LFv 4 0 (λ_=>SFv) (λ_=>HFv s f h .nils) (by kernel_rfl) (by kernel_rfl) ?_ ?_
 ·refine zc.n GFaV.h [2,3,4,5,8] (let v2:List AV:=[.sl s.length 13 (verG s)];let v1:List AV:=[.sl f.length 3 (fxG f),.sl h.length 4 (chG h)];.ex (q36 [.agg [.sl s.length 13 (verG s)]]) λn=>.all (λ(r:Int)=>r=errV n) λn=>.N (n=0) (.R [.nils,.i n] [.box v2,.box v1,.box [.nils],.box [.i n]]) (.ex (q54 [.agg [.sl f.length 3 (fxG f),.sl h.length 4 (chG h)]]) λn=>.all (λ(r:Int)=>r=errE n.1 n.2) λn=>.N (n=0) (.R [.nils,.i n] [.box v2,.box v1,.box [.nils],.box [.i n]]) (.leaf (.back 0 [(2,.ptr 0 0),(3,.ptr 1 0),(4,.ptr 2 0),(5,.ptr 3 0),(8,.ptr 4 0)] [.box v2,.box v1,.box [.nils],.box [.i 0],.box [.nils]])))) ?_;simp only [q36,q54,Tree.holds,zd,inR,lo,hi,aD];unfold flV at hq;refine⟨s,⟨⟨z7 s,trivial⟩,by omega,h2⟩,⟨_,rfl⟩,?_⟩;rintro _ rfl;refine⟨λg=> ?_,λg=>⟨(f,h),⟨⟨⟨⟨rfl,rfl,za _ _ _⟩,⟨rfl,rfl,za _ _ _⟩,trivial⟩,trivial⟩,h3⟩,⟨_,rfl⟩,?_⟩⟩
  ·rw [aP (h8 g)] at hq;exact RetR.le0 hq (λh=>by cases h) (nil _)
  rintro _ rfl;have g:=h9 g;rw [aO (λh=>h g)] at hq;refine⟨λg2=> ?_,λg2=> ?_⟩
  ·rw [aP (h8 g2)] at hq;exact RetR.le0 hq (λh=>by cases h) (nil _)
  rw [aP trivial];exact⟨⟨(),g,h9 g2⟩,by simp [SFv],by simp [HFv,za],by kernel_rfl,aI _⟩
 rintro⟨_,g1,g2⟩;unfold flV at hq;rw [aO (λh=>h g1),aO (λh=>h g2)] at hq;show zB none prog f19 O 0 w0 [] _ _ LFv4 _;have hlen:=Zb (w7.1 g1);refine zc.zr3 4 0 5 (flG []) rfl rfl (by kernel_rfl) ?_;refine zc.n GFaV.h [3,4,5,8,24,25,26] (.ex (q59 [.agg [.sl s.length 13 (verG s)]] []) λn=>.A λn_1=>.leaf (.range (Prod.fst (rfs LFv4 0)) (Prod.snd (rfs LFv4 0)) [(3,.ptr 1 0),(4,.ptr 2 0),(5,.ptr 3 0),(8,.ptr 4 0),(24,.fn 58 [] [.ptr 6 0]),Z 25,Z 26] [.box [.sl s.length 13 (verG s)],.box [.sl f.length 3 (fxG f),.sl h.length 4 (chG h)],.box [.nils],.box [.i 0],.box [.osl 5 5 0 0],.arr 0 5 (flG []),.box [.sl n.length 13 (verG n)]])) ?_;simp only [q59,Tree.holds,zd,inR,lo,hi,aD];refine⟨s,⟨⟨z7 s,trivial⟩,trivial,trivial,trivial⟩,⟨(),trivial⟩,λ_ _=> ?_⟩;have hfit:=h2.any
 refine zc.znm (tg:=24) (tp:=25) (tq:=26) (td:=9) (te:=10) (t:=44) (n:=13) (id0:=0) (k1:=[]) (kv:=SFv2) (zs:=[.i 0,.int .u8 0,.str [],.str [],.str [],.int .u8 0,.str [],.str [],.i 0,.nils,.i 0,.nils,.nils]) (cap:=[.ptr 6 0]) (gf:=58) (by kernel_rfl) (by kernel_rfl) (by kernel_rfl) rfl (enters_of Tryz.func58 (by kernel_rfl) rfl)
  (λi:Nat=>(s.getD i Ver.nil).av) (λi=>(s.getD i Ver.nil).cells) (λi=>Ver.zpj _) (λi=>.i (endL s i)) (λ_=>rfl)
  (λpre=>(∀ i∈pre,(flAt s f h i).2=0)/\(yb s f h pre).length<=pre.length*1000000) 4 5 (λpre=>HFv s f h (.osl 5 5 0 (yb s f h pre).length)) (λpre=>(yb s f h pre).length) (λpre=>flG (yb s f h pre))
  (λq=>[.box [.sl s.length 13 (verG s)],.box [.sl f.length 3 (fxG f),.sl h.length 4 (chG h)],.box [.nils],.box [.i (flAt s f h (q.getLastD 0)).2],.box [.undef]]) (λ_=>[]) (λq=>∃ pre x,q=pre++[x]/\(∀ i∈pre,(flAt s f h i).2=0)/\(flAt s f h x).2≠0) (λ_=>False) (λxs=>xs=List.range s.length) (λpre=>pre <+: List.range s.length) s.length 5
  rfl (by decide +kernel) (by decide +kernel) (by decide +kernel) (by decide +kernel) (by decide +kernel) (by decide) (by decide) (by decide) (by decide) (by decide) (by decide) ?_ ⟨λi hi=>(by cases hi),by simp [yb]⟩ (by kernel_rfl) (aI _) (λpre=>ztv s f h _) (λpre=>by simp [alive]) (λpre b hb=>by cases hb) ?_ ?_ ?_ (λ⟨_,h⟩=>h.elim) (λ_ _ h=>h.elim) ?_
 ·exact⟨by simp [SFv2],⟨⟨⟨rfl,rfl,za _ _ _⟩,trivial⟩,⟨⟨rfl,rfl,za _ _ _⟩,⟨rfl,rfl,za _ _ _⟩,trivial⟩,⟨trivial,trivial⟩,⟨⟨rfl,rfl⟩,trivial⟩,⟨⟨rfl,rfl,rfl,rfl⟩,trivial⟩,⟨rfl,rfl,za _ _ _⟩,trivial⟩,by kernel_rfl,aI _⟩
 ·intro w σ a hm vb hvb;obtain⟨ev,ew,k1,k2,k3⟩:=Yq (own2:=OwnN O (σ.take (5+1)) w) hm (i:=6) (m:=5+1) rfl (aJ _) (by omega) (λ_ h=>h) hvb;exact⟨ev,ew,k1,k2,k3⟩
 ·intro l pre i ⟨hI1,hI2⟩ hpl W E1;simp only [U1];generalize yb s f h pre=L at hI2 ⊢;refine zc.n GFaV.h [3,4,5,8,24,25,26] (let v4:=s.getD i Ver.nil;let v3:List AV:=[.sl f.length 3 (fxG f),.sl h.length 4 (chG h)];let v1:=Ver.con v4;.ex (λ(x:FI)=>eqL [(Con.conD v1),.i v4.day,.i (endL s i),.agg [.sl f.length 3 (fxG f),.sl h.length 4 (chG h)]] [(Con.conA x.c),.i x.day,.i x.fin,.agg [.sl x.f.length 3 (fxG x.f),.sl x.h.length 4 (chG x.h)]]/\FI.pre x) λn=>.all (λ(r:List Fl×Int)=>r=befM n.c n.day n.fin n.f n.h) λn=>let v2:=List.length L+n.1.length;.N (n.2=0) (.R [] [.box [.sl s.length 13 (verG s)],.box v3,.box [.nils],.box [.i n.2],.box [.osl 5 5 0 L.length],.arr L.length 5 (flG L)]) (.side (0=0/\List.length L<=List.length L/\v2 *72<=140737488355328) (.leaf (.back 1 [(3,.ptr 1 0),(4,.ptr 2 0),(5,.ptr 3 0),(8,.ptr 4 0),Z 24,(25,.agg [.i v4.day,.int .u8 (Con.kind v1),.str (Con.src v1),.str (Con.dst v1),.str (Con.name v1),.int .u8 (Ex.kind (Con.x v1)),.str (Ex.rat (Con.x v1)),.str (Ex.name (Con.x v1)),.i (Ex.date (Con.x v1)),.sl (List.length (Ex.sub (Con.x v1))) 5 (Ex.exG (Ex.sub (Con.x v1))),.i (Con.date v1),.sl (List.length (Con.days v1)) 1 (Con.dayG (Con.days v1)),.sl (List.length (Con.sub v1)) 12 (Con.deep v1)]),(26,.i (endL s i))] [.box [.sl s.length 13 (verG s)],.box v3,.box [.nils],.box [.i 0],.box [.osl 5 5 0 v2],.arr v2 5 (appG L.length (flG L) (flG n.1))])))) ?_;simp only [Tree.holds,zd,inR,lo,hi,aD];obtain⟨f1,f2⟩:=hfit i;refine⟨⟨(s.getD i Ver.nil).con,(s.getD i Ver.nil).day,endL s i,f,h⟩,⟨⟨vg _,⟨rfl,rfl⟩,⟨rfl,rfl⟩,⟨⟨rfl,rfl,za _ _ _⟩,⟨rfl,rfl,za _ _ _⟩,trivial⟩,trivial⟩,by show(s.getD i Ver.nil).con.big<2^40; omega,f2,h3⟩,⟨_,rfl⟩,?_⟩;rintro _ rfl;show((!decide ((flAt s f h i).2=0))=true->_)/\((!decide ((flAt s f h i).2=0))=false->_);have hml:(flAt s f h i).1.length<=1000000:=bP (zos _ _ _ _ _) f2;refine⟨λg=>⟨⟨pre,i,rfl,hI1,h8 g⟩,?_⟩,λg=> ?_⟩
  ·have e:(pre++[i]).getLastD 0=i:=by simp
   rw [e];exact⟨trivial,by simp [za,flAt],by kernel_rfl,aJ _⟩
  ·have hb:(L.length+(flAt s f h i).1.length)*72<=140737488355328:=by
    have:pre.length*1000000<=100*1000000:=aT _ (by omega);omega
   refine⟨⟨trivial,aJ _,hb⟩,λ_=>.inl ⟨trivial,⟨λj hj=> ?_,by simp only [bO,List.length_singleton,bH]; omega⟩,?_⟩⟩
   ·rcases cA.1 hj with hj | hj
    ·exact hI1 j hj
    ·rw [List.mem_singleton.1 hj]; exact h9 g
   ·refine⟨trivial,?_,by kernel_rfl,by show 5<=6; decide⟩;simp only [HFv,accH,List.cons_append,List.nil_append,eqH,eqB,eqL,eqL0,eqA,eqA0];simp [za,flAt];exact zti _ _
 ·intro xs hxs ⟨hI1,hI2⟩;subst hxs;rw [zgs hI1] at hq;generalize yb s f h (List.range s.length)=L at hI2 hq ⊢;refine zc.n GFaV.h [3,4,5,8,24,25,26] (.R [.osl 5 5 0 L.length,.i 0] [.box [.sl s.length 13 (verG s)],.box [.sl f.length 3 (fxG f),.sl h.length 4 (chG h)],.box [.osl 5 5 0 L.length],.box [.i 0],.box [.osl 5 5 0 L.length],.arr L.length 5 (flG L)]) ?_;simp only [Tree.holds,zd];refine RetR.le0 hq (λh=>by cases h) (LeA.tup ⟨LeA.sl rfl λj o hj ho=> ?_,LeA.refl _,trivial⟩);rw [x8 L.length 5 _ j o hj ho];exact LeA.refl _
 ·intro pre hpre hX;obtain⟨q,x,rfl,hX1,hX2⟩:=hX;rw [zgu hpre hX1 hX2] at hq;have e:(q++[x]).getLastD 0=x:=by simp
  rw [e];have e1:resX prog (mk f19.ntmps SFv2 [.box [.sl s.length 13 (verG s)],.box [.sl f.length 3 (fxG f),.sl h.length 4 (chG h)],.box [.nils],.box [.i (flAt s f h x).2],.box [.undef]]) f19.results.toList = .leaf [.nils,.i (flAt s f h x).2]:=by kernel_rfl
  rw [e1];exact RetR.le0 hq (λh=>by cases h) (nil _)
end Go.Proofs.Tryz
end
section
namespace Go.Sx
variable [Stat]
section
variable {O:Nat->Prop} {pin:Nat} {w0:World} {I0:List SE} {P:Program} {fn:Func} {Xp:List PanicEntry->Prop}
theorem zc.label{M:Option Nat}{Hs:Nat->KV->Heap->Prop}{R:List AV->Heap->Prop}{k:List Item}{st:St}{l:Nat}(h:zN Xp M P fn O pin w0 I0 Hs R k st):zN Xp M P fn O pin w0 I0 Hs R (.code (.label l)::k) st:=
 λw σ a hm=>wpIn_label (h w σ a hm)
theorem Zp{M:Option Nat}{H:Nat->Act->World->Prop}{B:Exit->Act->World->Prop}{l:Nat}(hB:∀ a w,¬ B (.goto l) a w):∀ {k:List Item} {a:Act} {w:World},¬ wpK M P H B k (.goto l) a w
 | [],a,w,h=>hB a w h
 | .code c::k,a,w,h=>Zp hB (k:=k) h
 | .inBlock i::k,a,w,h=>Zp hB (k:=k) h
 | .inLoop::k,a,w,h=>Zp hB (k:=k) h
theorem zc.scope{Hs:Nat->KV->Heap->Prop}{R:List AV->Heap->Prop}{k:List Item}{st:St}{c:Code}(h:zN Xp none P fn O pin w0 I0 Hs R (.code c::k) st):zN Xp none P fn O pin w0 I0 Hs R (.code (.scope c)::k) st:=by
 intro w σ a hm;have:=h w σ a hm;simp only [wpK,FM] at this ⊢;rw [wpIn_wide] at this ⊢;refine wp_scope_straight (wp_mono this λe a w h=> ?_);cases e with
 | goto l=>exact Zp (λa w h=>by simp at h) h
 | _=>exact h
end
end Go.Sx
end
section
set_option maxRecDepth 100000
open Go Go.Sx Go.Proofs Go.Nov
namespace Go.Proofs.Tryz
attribute [local simp] eqKV eqA eqA0 eqH eqB eqL eqL0
def atVC:Ctr:=ctrP false (λp:List Ver×Int=>[verA p.1,.i p.2]) (λp=>p.1.length<2^30/\fitV p.1) (λp r=>r=atV p.1 p.2) (λ_ (r:Con×Int)=>(.tup [r.1.conD,.i r.2],[]))
noncomputable def GAtV:=tb y2 (tb yo (tb YE (tb zqa tz)))
def zmi:List Go.Sx.Item->Code
 | [.code (.scope c)]=>c
 | _=>.skip
noncomputable def LAt:List Go.Sx.Item:=jk 1 (f11.body.getD .skip)
noncomputable def XAt:Code:=zmi (LAt.drop 1)
noncomputable def LX:List Go.Sx.Item:=jk 4 XAt
noncomputable def LX4:List Go.Sx.Item:=LX.drop 4
def SAt0:KV:=[(2,.ptr 0 0),(3,.ptr 1 0),(4,.ptr 2 0),(5,.i 0)]
def HAt0(s:List Ver)(d:Int):Heap:=[.box [.sl s.length 13 (verG s)],.box [.i d],.box [.int .u8 0,.str [],.str [],.str [],.int .u8 0,.str [],.str [],.i 0,.nils,.i 0,.nils,.nils]]
def SAt:KV:=[(2,.ptr 0 0),(3,.ptr 1 0),(4,.ptr 2 0),(5,.i 0),(7,.ptr 3 0)]
def bz:Blk:=.box [.int .u8 0,.str [],.str [],.str [],.int .u8 0,.str [],.str [],.i 0,.nils,.i 0,.nils,.nils]
def HAt(s:List Ver)(d:Int)(p:AV):Heap:=[.box [.sl s.length 13 (verG s)],.box [.i d],bz,.box [p]]
def SAt2:KV:=[(3,.ptr 1 0),(4,.ptr 2 0),(5,.i 0),(7,.ptr 3 0),Z 22,Z 23,Z 24]
def HAt1(s:List Ver)(d:Int)(c:Con):Heap:=HAt s d (.ptr 4 0)++[.box c.zp]
noncomputable def KAt:List Go.Sx.Item:=(Go.Sx.exitTo 0 (rfs LX4 0).2).getD []
theorem YT(c:Con):eqL c.zp c.zp:=⟨⟨rfl,rfl⟩,rfl,rfl,rfl,⟨rfl,rfl⟩,rfl,rfl,⟨rfl,rfl⟩,⟨rfl,rfl,za _ _ _⟩,⟨rfl,rfl⟩,⟨rfl,rfl,za _ _ _⟩,⟨rfl,rfl,za _ _ _⟩,trivial⟩
theorem QM:LeA (.agg [.int .u8 0,.str [],.str [],.str [],.int .u8 0,.str [],.str [],.i 0,.nils,.i 0,.nils,.nils]) Con.nil.conD:=LeA.agg ⟨LeA.refl _,LeA.refl _,LeA.refl _,LeA.refl _,LeA.refl _,LeA.refl _,LeA.refl _,LeA.refl _,LeA.nils,LeA.refl _,LeA.nils,LeA.nils,trivial⟩
theorem zoj{s:List Ver}{d:Int}{pre:List Nat}{x:Nat}(hp:pre++[x] <+: List.range s.length)(h1:∀ i∈pre,inV s d i=false)(h2:inV s d x=true):(List.range s.length).find? (inV s d)=some x:=by
 obtain⟨r,hr⟩:=hp;rw [<- hr,List.append_assoc,List.find?_append]
 have:pre.find? (inV s d)=none:=by
  rw [List.find?_eq_none];intro i hi;simp [h1 i hi]
 rw [this];simp [h2]
theorem zo1{s:List Ver}{d:Int}(hk:okV s=true){pre:List Nat}{x:Nat}(hp:pre++[x] <+: List.range s.length)(h1:∀ i∈pre,inV s d i=false)(h2:d<(s.getD x Ver.nil).day):(List.range s.length).find? (inV s d)=none:=by
 rw [List.find?_eq_none];intro i hi;have hi:=List.mem_range.1 hi;obtain⟨r,hr⟩:=hp
 have hx:x=pre.length/\pre=List.range pre.length/\pre.length<s.length:=by
  have hl:=congrArg List.length hr;simp at hl;have e1:(pre++[x]++r)[pre.length]?=(List.range s.length)[pre.length]?:=by rw [hr]
  rw [List.getElem?_range (by omega),List.append_assoc,List.getElem?_append_right (aJ _)] at e1;simp at e1;refine⟨e1,?_,by omega⟩;have e2:=congrArg (List.take pre.length) hr;rw [List.append_assoc,List.take_left] at e2;rw [e2];apply List.ext_getElem?;intro j;rw [bR];by_cases hj:j<pre.length
  ·rw [aP hj,List.getElem?_range (by omega)];rw [aH,List.length_range,Nat.min_eq_left (by omega),List.getElem?_range hj]
  ·rw [aO hj,aZ (by simp; omega)]
 by_cases hip:i<pre.length
 ·have:=h1 i (by rw [hx.2.1]; exact List.mem_range.2 hip);simp [this]
 ·unfold inV
  have:d<(s.getD i Ver.nil).day:=by
   rcases aR x i with h3 | h3
   ·have:=ztg hk h3 hi; omega
   ·have:i=x:=by omega
    rw [this]; exact h2
  rw [aW (by omega)]; simp
theorem zt5:zf prog 11 atVC:=by
 refine zh' f11 λp hp O w0 Q hq=> ?_
 obtain⟨s,d⟩:=p;replace hq:=hq _ rfl;obtain⟨h1,h2⟩:=hp;simp only at h1 h2 hq;refine zc.spine 1 ?_;refine zc.cutL (ι:=Unit) LAt 1 0 (λ_=>SAt0) (λ_=>HAt0 s d) (by kernel_rfl) (by kernel_rfl) ?_ λ_=> ?_
 ·refine zc.n GAtV.h [2,3,4,5] (.leaf (.back 0 [(2,.ptr 0 0),(3,.ptr 1 0),(4,.ptr 2 0),(5,.i 0)] [.box [.sl s.length 13 (verG s)],.box [.i d],.box [.int .u8 0,.str #[].toList,.str #[].toList,.str #[].toList,.int .u8 0,.str #[].toList,.str #[].toList,.i 0,.nils,.i 0,.nils,.nils]])) ?_;simp only [Tree.holds,zd,inR,lo,hi,aD];rw [aP trivial];exact⟨(),by simp [SAt0],by simp [HAt0,za],by kernel_rfl,aI _⟩
 show zB none prog f11 O 0 w0 [] _ _ [.code (.scope XAt)] _;refine zc.scope ?_;refine zc.spine 4 ?_;refine zc.cutL (ι:={u:Unit // errV s=0/\vM d=true}) LX 3 0 (λ_=>SAt) (λ_=>HAt s d .nilp) (by kernel_rfl) (by kernel_rfl) ?_ ?_
 ·refine zc.n GAtV.h [2,3,4,5,7] (let v1:List AV:=[.int .u8 0,.str #[].toList,.str #[].toList,.str #[].toList,.int .u8 0,.str #[].toList,.str #[].toList,.i 0,.nils,.i 0,.nils,.nils];let v2:List Blk:=[.box [.sl s.length 13 (verG s)],.box [.i d],.box v1];.ex (q36 [.agg [.sl s.length 13 (verG s)]]) λn=>.all (λ(r:Int)=>r=errV n) λn=>.N (n=0) (.R [.agg v1,.i n] v2) (.ex (q21 [.i d]) λn=>.all (λ(r:Bool)=>r=vM n) λn=>.ite (!n) (.R [.agg v1,.i 2] v2) (.leaf (.back 0 [(2,.ptr 0 0),(3,.ptr 1 0),(4,.ptr 2 0),(5,.i 0),(7,.ptr 3 0)] [.box [.sl s.length 13 (verG s)],.box [.i d],.box [.int .u8 0,.str [],.str [],.str [],.int .u8 0,.str [],.str [],.i 0,.nils,.i 0,.nils,.nils],.box [.nilp]])))) ?_;simp only [q21,q36,Tree.holds,zd,inR,lo,hi,aD];have h8:∀ {e:Int},(!decide (e=0))=true->e≠0:=λh he=>by rw [he] at h; cases h
  have h9:∀ {e:Int},(!decide (e=0))=false->e=0:=λ{e} h=>by
   by_cases he:e=0
   ·exact he
   ·rw [aW he] at h; cases h
  unfold atV at hq;refine⟨s,⟨⟨z7 s,trivial⟩,by omega,h2⟩,⟨_,rfl⟩,?_⟩;rintro _ rfl;refine⟨λg=> ?_,λg=>⟨d,⟨⟨⟨rfl,rfl⟩,trivial⟩,trivial⟩,⟨_,rfl⟩,?_⟩⟩
  ·rw [aP (h8 g)] at hq;exact RetR.le0 hq (λh=>by cases h) (LeA.tup ⟨QM,LeA.refl _,trivial⟩)
  rintro _ rfl;rw [aO (λh=>h (h9 g))] at hq;refine⟨λg2=> ?_,λg2=> ?_⟩
  ·rw [aP (by simpa using g2)] at hq;exact RetR.le0 hq (λh=>by cases h) (LeA.tup ⟨QM,LeA.refl _,trivial⟩)
  rw [aP trivial];exact⟨⟨(),h9 g,by simpa using g2⟩,by simp [SAt],by simp [HAt,bz,za],by kernel_rfl,aI _⟩
 rintro⟨_,g1,g2⟩;show zB none prog f11 O 0 w0 [] _ _ (.code (.label 0)::LX4) _;refine zc.label ?_;refine zc.n GAtV.h [3,4,5,7,22,23,24] (.ex (q59 [.agg [.sl s.length 13 (verG s)]] []) λn=>.A λn_1=>.leaf (.range (Prod.fst (rfs LX4 0)) (Prod.snd (rfs LX4 0)) [(3,.ptr 1 0),(4,.ptr 2 0),(5,.i 0),(7,.ptr 3 0),(22,.fn 58 [] [.ptr 4 0]),Z 23,Z 24] [.box [.sl s.length 13 (verG s)],.box [.i d],.box [.int .u8 0,.str [],.str [],.str [],.int .u8 0,.str [],.str [],.i 0,.nils,.i 0,.nils,.nils],.box [.nilp],.box [.sl n.length 13 (verG n)]])) ?_;simp only [q59,Tree.holds,zd,inR,lo,hi,aD];have hlen:=Zb (w7.1 g1);have hfit:=h2.any;unfold atV at hq;rw [aO (λh=>h g1),aO (by rw [g2]; simp)] at hq;refine⟨s,⟨⟨z7 s,trivial⟩,trivial,trivial,trivial⟩,⟨(),trivial⟩,λ_ _=> ?_⟩
 refine zc.zmm (tg:=22) (tp:=23) (tq:=24) (td:=8) (te:=9) (t:=44) (n:=13) (id0:=0) (k1:=KAt) (kv:=SAt2) (zs:=[.i 0,.int .u8 0,.str [],.str [],.str [],.int .u8 0,.str [],.str [],.i 0,.nils,.i 0,.nils,.nils]) (cap:=[.ptr 4 0]) (gf:=58) (by kernel_rfl) (by kernel_rfl) (by kernel_rfl) rfl (enters_of Tryz.func58 (by kernel_rfl) rfl)
  (λi:Nat=>(s.getD i Ver.nil).av) (λi=>(s.getD i Ver.nil).cells) (λi=>Ver.zpj _) (λi=>.i (endL s i)) (λ_=>rfl)
  (λpre=>∀ i∈pre,inV s d i=false) (λ_=>HAt s d .nilp) (λ_=>[]) (λq=>if inV s d (q.getLastD 0)=true then HAt1 s d (s.getD (q.getLastD 0) Ver.nil).con else HAt s d .nilp) (λ_=>False) (λq=>∃ pre x,q=pre++[x]/\(∀ i∈pre,inV s d i=false)/\(inV s d x=true\/d<(s.getD x Ver.nil).day)) (λxs=>xs=List.range s.length) (λpre=>pre <+: List.range s.length) s.length 4
  rfl (by decide +kernel) (by decide +kernel) (by decide +kernel) (by decide +kernel) (by decide +kernel) (by decide) (by decide) (by decide) (by decide) (by decide) (by decide) ?_ (λi hi=>(by cases hi)) (by kernel_rfl) (aI _) (λ_=>rfl) (λ_=>by simp [alive,HAt,bz]) (λpre b hb=>by cases hb) ?_ ?_ ?_ ?_ (λ_=>by kernel_rfl) ?_ (λ_ _ h=>h.elim)
 ·exact⟨by simp [SAt2],by simp [HAt,bz,za],by kernel_rfl,aI _⟩
 ·intro pre b hb;split at hb
  ·simp only [HAt1,HAt,bz,List.cons_append,List.nil_append,aM,List.not_mem_nil,or_false] at hb;rcases hb with rfl | rfl | rfl | rfl | rfl<;>trivial
  ·simp only [HAt,bz,aM,List.not_mem_nil,or_false] at hb;rcases hb with rfl | rfl | rfl | rfl<;>trivial
 ·intro w σ a hm vb hvb;obtain⟨ev,ew,k1,k2,k3⟩:=Yq (own2:=Go.Sx.Own O (σ.take 4)) hm (i:=4) (m:=4) rfl (aJ _) (by omega) (λ_ h=>.inl h) hvb;exact⟨ev,ew,k1,k2,k3⟩
 ·intro l pre i hI hpl W E1;refine zc.n GAtV.h [3,4,7,22,23,24,31,32,33] (let v5:=s.getD i Ver.nil;let v3:List AV:=[.int .u8 0,.str [],.str [],.str [],.int .u8 0,.str [],.str [],.i 0,.nils,.i 0,.nils,.nils];let v4:List Blk:=[.box [.sl s.length 13 (verG s)],.box [.i d],.box v3,.box [.nilp]];let v2:=Ver.con v5;let v1:List (Nat×AV):=[(3,.ptr 1 0),(4,.ptr 2 0),(7,.ptr 3 0),Z 22,(23,.agg [.i v5.day,.int .u8 (Con.kind v2),.str (Con.src v2),.str (Con.dst v2),.str (Con.name v2),.int .u8 (Ex.kind (Con.x v2)),.str (Ex.rat (Con.x v2)),.str (Ex.name (Con.x v2)),.i (Ex.date (Con.x v2)),.sl (List.length (Ex.sub (Con.x v2))) 5 (Ex.exG (Ex.sub (Con.x v2))),.i (Con.date v2),.sl (List.length (Con.days v2)) 1 (Con.dayG (Con.days v2)),.sl (List.length (Con.sub v2)) 12 (Con.deep v2)]),(24,.i (endL s i)),Z 31,Z 32,Z 33];.ite (bif decide (Ver.day v5 <=d) then decide (d<endL s i) else false) (.ex (q34 [(Con.conD v2)]) λn=>.A λn_1=>.leaf (.back 0 v1 [.box [.sl s.length 13 (verG s)],.box [.i d],.box v3,.box [.ptr 4 0],.box (Con.zp n)])) (.D (d<Ver.day v5) (.leaf (.back 0 v1 v4)) (.leaf (.back 1 v1 v4)))) ?_;simp only [q34,Tree.holds,zd,inR,lo,hi,aD]
  have hv:inV s d i=(bif decide ((s.getD i Ver.nil).day<=d) then decide (d<endL s i) else false):=by
   unfold inV;cases decide ((s.getD i Ver.nil).day<=d)<;>rfl
  have e:(pre++[i]).getLastD 0=i:=by simp
  rw [e,<- hv];refine⟨λg=>⟨(s.getD i Ver.nil).con,⟨⟨vg _,trivial⟩,by have:=(hfit i).1; omega⟩,⟨(),trivial⟩,λ_ _=> ?_⟩,λg=>⟨λg3=> ?_,λg3=> ?_⟩⟩
  ·refine .inr ⟨trivial,⟨pre,i,rfl,hI,.inl g⟩,?_⟩;rw [aP g];exact⟨trivial,by simp [HAt1,HAt,bz,za]; exact YT _,by kernel_rfl,by show 4<=5; decide⟩
  ·refine .inr ⟨trivial,⟨pre,i,rfl,hI,.inr (aB g3)⟩,?_⟩;rw [aO (by rw [g]; simp)];exact⟨trivial,by simp [HAt,bz,za],by kernel_rfl,aJ _⟩
  ·refine .inl ⟨trivial,λj hj=> ?_,trivial,by simp [HAt,bz,za],by kernel_rfl,aJ _⟩;rcases cA.1 hj with hj | hj
   ·exact hI j hj
   ·rw [List.mem_singleton.1 hj]; exact g
 ·intro xs hxs hI;subst hxs
  have hn:(List.range s.length).find? (inV s d)=none:=by
   rw [List.find?_eq_none];intro i hi;simp [hI i hi]
  rw [hn] at hq;refine zc.n GAtV.h [3,4,5,7,22,23,24,31,32,33] (let v1:List AV:=[.int .u8 0,.str #[].toList,.str #[].toList,.str #[].toList,.int .u8 0,.str #[].toList,.str #[].toList,.i 0,.nils,.i 0,.nils,.nils];.ite true (.R [.agg v1,.i 6] [.box [.sl s.length 13 (verG s)],.box [.i d],.box v1,.box [.nilp]]) .fail) ?_;simp only [Tree.holds,zd];exact⟨λ_=>RetR.le0 hq (λh=>by cases h) (LeA.tup ⟨QM,LeA.refl _,trivial⟩),λh=>by cases h⟩
 ·rintro _ hpre ⟨pre,x,rfl,hI,hx⟩;have e:(pre++[x]).getLastD 0=x:=by simp
  rw [e];by_cases hv:inV s d x=true
  ·rw [aP hv];rw [zoj hpre hI hv] at hq;simp only at hq;generalize (s.getD x Ver.nil).con=c at hq;refine zc.n GAtV.h [3,4,5,7,22,23,24,31,32,33] (let v1:List AV:=[.int .u8 0,.str #[].toList,.str #[].toList,.str #[].toList,.int .u8 0,.str #[].toList,.str #[].toList,.i 0,.nils,.i 0,.nils,.nils];.ite false (.R [.agg v1,.i 6] [.box [.sl s.length 13 (verG s)],.box [.i d],.box v1,.box [.ptr 4 0],.box (Con.zp c)]) (.R [(Con.conD c),.i 0] [.box [.sl s.length 13 (verG s)],.box [.i d],.box (Con.zp c),.box [.ptr 4 0],.box (Con.zp c)])) ?_;simp only [Tree.holds,zd];exact⟨λh=>(by cases h),λ_=>RetR.le0 hq (λh=>by cases h) (LeA.tup ⟨LeA.refl _,LeA.refl _,trivial⟩)⟩
  ·rw [aO hv];rw [zo1 (w7.1 g1) hpre hI (hx.resolve_left hv)] at hq;refine zc.n GAtV.h [3,4,5,7,22,23,24,31,32,33] (let v1:List AV:=[.int .u8 0,.str #[].toList,.str #[].toList,.str #[].toList,.int .u8 0,.str #[].toList,.str #[].toList,.i 0,.nils,.i 0,.nils,.nils];.ite true (.R [.agg v1,.i 6] [.box [.sl s.length 13 (verG s)],.box [.i d],.box v1,.box [.nilp]]) .fail) ?_;simp only [Tree.holds,zd];exact⟨λ_=>RetR.le0 hq (λh=>by cases h) (LeA.tup ⟨QM,LeA.refl _,trivial⟩),λh=>by cases h⟩
end Go.Proofs.Tryz
end
section
open Go Go.Sx Go.Proofs Go.Nov
namespace Go.Proofs.Tryz
end Go.Proofs.Tryz
end
section
namespace Go.Nov
end Go.Nov
end
section
set_option maxRecDepth 100000
open Go Go.Sx Go.Proofs Go.Nov
namespace Go.Proofs.Tryz
attribute [local simp] eqKV eqA eqA0 eqH eqB eqL eqL0
noncomputable def K22:=Go.Sx.aA f22
theorem Fl.same{x y:Fl}(h1:x.date=y.date)(h2:x.src=y.src)(h3:x.dst=y.dst)(h4:x.ccy=y.ccy)(h5:x.amt=y.amt):x=y:=by
 cases x; cases y; simp_all
def zhz:Ctr:=ctrP true (λp:List Fl×List Fl=>[flS p.1,flS p.2]) (λp=>p.1.length<2^40) (λp r=>(r=true↔p.1=p.2)) (λ_ (r:Bool)=>(.bool r,[]))
def SSf(l m:List Fl)(i:Nat):KV:=[(0,flS l),(1,flS m),(5,.i (i:Int))]
theorem zk8:zf prog 22 zhz:=by
 refine zh' f22 λp hp O w0 Q hq=> ?_
 obtain⟨l,m⟩:=p;simp only at hp hq;refine zc.n zH [0,1,5] (.N ((l.length:Int)=m.length) (.R [.bool false] []) (.leaf (.loop (lps K22 0).1 (lps K22 0).2 [(0,.sl l.length 5 (flG l)),(1,.sl m.length 5 (flG m)),(5,.i 0)] []))) ?_;simp only [Tree.holds,zd];refine⟨λh=> ?_,λh=> ?_⟩
 ·refine RetR.scal (hq false ⟨λh=>(by cases h),λhe=> ?_⟩) rfl (by simp [resV]);subst he;simp at h
 ·have hl:l.length=m.length:=by simp at h; omega
  refine zc.loop (ι:={i:Nat // i<=l.length/\∀ j,j<i->l.getD j Fl.nil=m.getD j Fl.nil}) (λi=>SSf l m i.1) (λ_=>[]) (λi=>l.length - i.1) ⟨0,aI _,λj hj=>by omega⟩ 0 ?_ ?_ (by kernel_rfl)
  ·exact⟨by simp [SSf,flS,za],trivial,by kernel_rfl,aI _⟩
  ·rintro⟨i,hil,hib⟩;refine zc.n zH [0,1,5] (let v2:=m.getD (i:Int).toNat Fl.nil;let v1:=l.getD (i:Int).toNat Fl.nil;.D ((i:Int)<l.length) (.side ((0:Int)<=i/\(i:Int)<l.length) (.side ((0:Int)<=i/\(i:Int)<m.length) (.ite (!(decide (Fl.date v1=Fl.date v2)&&(decide (Fl.src v1=Fl.src v2)&&(decide (Fl.dst v1=Fl.dst v2)&&(decide (Fl.ccy v1=Fl.ccy v2)&&(decide (Fl.amt v1=Fl.amt v2)&&true)))))) (.R [.bool false] []) (.S (i+1) (.leaf (.back 0 [(0,.sl l.length 5 (flG l)),(1,.sl m.length 5 (flG m)),(5,.i (i+1))] [])))))) (.R [.bool true] [])) ?_;simp only [Tree.holds,zd,inR,lo,hi,aD];refine⟨λhlt=> ?_,λhge=> ?_⟩
   ·have hlt:i<l.length:=by have:=aB hlt; omega
    refine⟨by omega,λ_=>⟨by omega,λ_=>⟨λg=> ?_,λg=>⟨by omega,λ_=> ?_⟩⟩⟩⟩
    ·refine RetR.scal (hq false ⟨λh=>(by cases h),λh3=> ?_⟩) rfl (by simp [resV]);subst h3; simp at g
    ·have g:l.getD i Fl.nil=m.getD i Fl.nil:=by
      rw [Bool.not_eq_false'] at g;simp only [bA,aK,and_true] at g;exact Fl.same g.1 g.2.1 g.2.2.1 g.2.2.2.1 g.2.2.2.2
     rw [aP trivial];refine⟨⟨i+1,hlt,λj hj=> ?_⟩,by show l.length - (i+1)<l.length - i; omega,by simp [SSf,flS,za],trivial,by kernel_rfl,aI _⟩;rcases aR j i with h1 | h1
     ·exact hib j h1
     ·have:j=i:=by omega
      rw [this]; exact g
   ·have hge:i=l.length:=by have:=aC hge; omega
    subst hge;refine RetR.scal (hq true ⟨λ_=> ?_,λ_=>rfl⟩) rfl (by simp [resV]);apply List.ext_getElem hl;intro j g1 g2;have:=hib j g1;simpa [List.getD,g1,g2] using this
end Go.Proofs.Tryz
end
section
namespace Go.Nov
open Go.Sx
namespace Ca
def rel(a:Ca)(y:Ex):Ex:=
 if a.extra=[48] then(if a.ratio=[49] then y else Tm.opx 6 [Tm.kon a.ratio,y])
 else Tm.opx 4 [if a.ratio=[49] then y else Tm.opx 6 [Tm.kon a.ratio,y],Tm.kon a.extra]
def onX(a:Ca)(k:Int)(n:L8)(d:Int):Bool:=decide (n=a.name)&&(decide (k=3)||decide (k=2)&&decide (a.date<=d))
mutual
def chg(a:Ca):Ex->Ex
 | .mk k r n d s=>if a.onX k n d=true then a.rel (.mk k [] a.into d []) else .mk k r n d (chgs a s)
def chgs(a:Ca):List Ex->List Ex
 | []=>[]
 | x::l=>chg a x::chgs a l
end
mutual
def adj(a:Ca):Ex->Ex
 | .mk k r n d s=>if a.onX k n d=true then a.rel (.mk k r a.into d s) else .mk k r n d (adjs a s)
def adjs(a:Ca):List Ex->List Ex
 | []=>[]
 | x::l=>adj a x::adjs a l
end
mutual
def whole(f:Ex->Ex):Con->Con
 | .mk k a b n x d l s=>.mk k a b n (f x) d l (qy f s)
def qy(f:Ex->Ex):List Con->List Con
 | []=>[]
 | c::l=>whole f c::qy f l
end
theorem Jy(f:Ex->Ex):∀ l,qy f l=l.map (whole f)
 | []=>by rw [qy]; rfl
 | x::l=>by rw [qy,Jy f l]; rfl
theorem Yy(f:Ex->Ex)(c:Con):whole f c = .mk c.kind c.src c.dst c.name (f c.x) c.date c.days (c.sub.map (whole f)):=by
 cases c; rw [whole,Jy]; rfl
end Ca
end Go.Nov
end
section
namespace Go.Nov
open Go.Sx
theorem Yd{k p:Int}(h:p∈qw k):p≠0:=by
 unfold qw yL at h;cases e:shpL.find? (λq=>q.1 == k) with
 | none=>rw [e] at h; simp at h
 | some q=>
  rw [e] at h;simp only [Option.map_some,Option.getD_some] at h;have hq:=List.mem_of_find?_eq_some e;have all:∀ q∈shpL,∀ p∈q.2.1,p≠0:=by decide
  exact all q hq p h
theorem J1{k d:Int}{r n:L8}{ss:List Int}(h:wL k r n d ss≠0):∀ p∈ss,p≠0:=by
 unfold wL at h;split at h
 ·split at h
  ·rename_i h2;rw [h2.2.2.2];exactλp hp=>Yd hp
  ·exact absurd rfl h
 ·split at h
  ·rename_i h2;unfold jn at h2;have:ss=[]:=by simp at h2; exact h2.1
   rw [this]; simp
  ·exact absurd rfl h
theorem xi{k d:Int}{r n:L8}{ss:List Int}(h:wL k r n d ss≠0)(hk:k=3\/k=2):r=[]/\ss=[]:=by
 have hs:qS k=false:=by rcases hk with rfl | rfl<;>decide
 rw [wP hs] at h;split at h
 ·rename_i h2;unfold jn at h2;rcases hk with rfl | rfl<;>simp at h2
  ·exact⟨h2.2.1.1,h2.1⟩
  ·exact⟨h2.2.1.1,h2.1⟩
 ·exact absurd rfl h
namespace Ca
mutual
theorem zd3(a:Ca):∀ x:Ex,x.zx≠0->adj a x=chg a x
 | .mk k r n d s,h=>by
  rw [Ex.zx] at h;rw [adj,chg];by_cases hh:a.onX k n d=true
  ·rw [aP hh,aP hh]
   have hk:k=3\/k=2:=by
    simp [onX] at hh;rcases hh.2 with h1 | h1
    ·exact .inl h1
    ·exact .inr h1.1
   obtain⟨h1,h2⟩:=xi h hk
   have:s=[]:=by
    cases s with
    | nil=>rfl
    | cons x s=>rw [Ex.qc] at h2; cases h2
   rw [h1,this]
  ·rw [aO hh,aO hh,Km a s (J1 h)]
theorem Km(a:Ca):∀ s:List Ex,(∀ p∈Ex.qc s,p≠0)->adjs a s=chgs a s
 | [],_=>by rw [adjs,chgs]
 | x::s,h=>by
  rw [Ex.qc] at h;rw [adjs,chgs,zd3 a x (h _ (by simp)),Km a s (λp hp=>h p (by simp [hp]))]
end
theorem zjf(a:Ca)(y:Ex):(a.rel y).size<=y.size+4/\(a.rel y).zJ<=y.zJ+a.ratio.length+a.extra.length:=by
 unfold rel;split<;>split<;>(try simp only [Tm.opx,Tm.kon,Ex.size,Ex.zw,Ex.zJ,Ex.qV,List.length_nil])<;>omega
mutual
theorem QV(a:Ca):∀ x:Ex,(chg a x).size<=5*x.size/\(chg a x).zJ<=x.zJ+x.size*(a.into.length+a.ratio.length+a.extra.length)
 | .mk k r n d s=>by
  rw [chg];by_cases hh:a.onX k n d=true
  ·rw [aP hh];have h:=zjf a (.mk k [] a.into d []);simp only [Ex.size,Ex.zw,Ex.zJ,Ex.qV,List.length_nil] at h ⊢;have hm:a.into.length+a.ratio.length+a.extra.length<=(1+Ex.zw s)*(a.into.length+a.ratio.length+a.extra.length):=Nat.le_mul_of_pos_left _ (by omega);omega
  ·rw [aO hh];have h:=Vn a s;simp only [Ex.size,Ex.zJ,bH,Nat.one_mul] at h ⊢;omega
theorem Vn(a:Ca):∀ s:List Ex,Ex.zw (chgs a s)<=5*Ex.zw s/\Ex.qV (chgs a s)<=Ex.qV s+Ex.zw s*(a.into.length+a.ratio.length+a.extra.length)
 | []=>by rw [chgs]; simp [Ex.zw,Ex.qV]
 | x::s=>by
  have h1:=QV a x;have h2:=Vn a s;rw [chgs];simp only [Ex.zw,Ex.qV,bH] at h1 h2 ⊢;omega
end
theorem zc7{k d:Int}{s t n:L8}{x:Ex}{l:List Int}{m:Nat}(h:vK k s t n x d l m=true):ja x=true\/x.zx≠0:=by
 have hn:numX x=true->x.zx≠0:=λh=>by simp [numX] at h; omega
 have ht:truX x=true->x.zx≠0:=λh=>by simp [truX] at h; omega
 unfold vK at h
 repeat' split at h
 all_goals simp only [bA,Bool.false_eq_true] at h
 all_goals first
  | exact h.elim
  | exact .inl h.2
  | exact .inr (hn h.2)
  | exact .inr (ht h.2)
  | exact .inr (hn h.1.1.2)
theorem ze9(a:Ca){x:Ex}(h:ja x=true\/x.zx≠0):adj a x=chg a x:=by
 rcases h with h | h
 ·obtain⟨k,r,n,d,s⟩:=x;simp [ja,Ex.kind,Ex.rat,Ex.name,Ex.date,Ex.sub] at h;obtain⟨h0,_,_,_,rfl⟩:=h;obtain rfl:k=0:=aB h0;rw [adj,chg,adjs,chgs];have:a.onX 0 n d=false:=by simp [onX]
  rw [this]; simp
 ·exact zd3 a x h
mutual
theorem zdi(a:Ca):∀ c:Con,c.form=true->whole a.adj c=whole a.chg c
 | .mk k s t n x d l u,h=>by
  rw [Con.form,bA] at h;rw [whole,whole,ze9 a (zc7 h.1),JF a u h.2]
theorem JF(a:Ca):∀ u:List Con,Con.vI u=true->qy a.adj u=qy a.chg u
 | [],_=>by rw [qy,qy]
 | c::u,h=>by
  rw [Con.vI,bA] at h;rw [qy,qy,zdi a c h.1,JF a u h.2]
end
mutual
theorem We(a:Ca):∀ c:Con,(whole a.chg c).nodes=c.nodes/\(whole a.chg c).big<=5*c.big+c.big*(a.into.length+a.ratio.length+a.extra.length)
 | .mk k s t n x d l u=>by
  have h1:=QV a x;have h2:=Qx a u;rw [whole];simp only [Con.nodes,Con.big,bH] at h1 h2 ⊢;omega
theorem Qx(a:Ca):∀ u:List Con,Con.zF (qy a.chg u)=Con.zF u/\Con.bigs (qy a.chg u)<=5*Con.bigs u+Con.bigs u*(a.into.length+a.ratio.length+a.extra.length)
 | []=>by rw [qy]; simp [Con.zF,Con.bigs]
 | c::u=>by
  have h1:=We a c;have h2:=Qx a u;rw [qy];simp only [Con.zF,Con.bigs,bH] at h1 h2 ⊢;omega
end
def conv(a:Ca)(c:Con):Con×Int:=if a.ok=true then(if c.errC=0 then(if(whole a.chg c).errC=0 then(whole a.chg c,0) else(Con.nil,(whole a.chg c).errC)) else(Con.nil,c.errC)) else(Con.nil,8)
end Ca
end Go.Nov
end
section
namespace Go.Nov
open Go.Sx
namespace Ca
def more(a:Ca):Nat:=(if a.ratio=[49] then 0 else 2)+(if a.extra=[48] then 0 else 2)
mutual
def grow(a:Ca):Ex->Nat
 | .mk k r n d s=>if a.onX k n d=true then a.more else YL a s
def YL(a:Ca):List Ex->Nat
 | []=>0
 | x::l=>grow a x+YL a l
end
theorem XY{a:Ca}{k d:Int}{n:L8}(h:a.onX k n d=true):k=3\/k=2:=by
 simp [onX] at h;rcases h.2 with h1 | h1
 ·exact .inl h1
 ·exact .inr h1.1
mutual
theorem zkh(a:Ca):∀ x:Ex,x.zx≠0->(chg a x).size=x.size+grow a x
 | .mk k r n d s,h=>by
  rw [Ex.zx] at h;rw [chg,grow];by_cases hh:a.onX k n d=true
  ·rw [aP hh,aP hh];obtain⟨_,h2⟩:=xi h (XY hh)
   have:s=[]:=by
    cases s with
    | nil=>rfl
    | cons x s=>rw [Ex.qc] at h2; cases h2
   subst this;unfold rel more;split<;>split<;>simp [Tm.opx,Tm.kon,Ex.size,Ex.zw]
  ·rw [aO hh,aO hh];simp only [Ex.size];rw [Vc a s (J1 h)];omega
theorem Vc(a:Ca):∀ s:List Ex,(∀ p∈Ex.qc s,p≠0)->Ex.zw (chgs a s)=Ex.zw s+YL a s
 | [],_=>by rw [chgs,YL]; rfl
 | x::s,h=>by
  rw [Ex.qc] at h;rw [chgs,YL];simp only [Ex.zw];rw [zkh a x (h _ (by simp)),Vc a s (λp hp=>h p (by simp [hp]))];omega
end
end Ca
end Go.Nov
end
section
namespace Go.Nov
open Go.Sx
section
variable {x:Ex} {day:Int} {f:List Fx} {c:List Ch}
end
structure Lg(p q x y:Ex):Prop where
 p0:p.errX=0
 p1:p.zx=2
 q0:q.errX=0
 q1:q.zx=2
 x0:x.errX=0
 x1:x.zx=1
 y0:y.errX=0
 y1:y.zx=1
 s:p.size+q.size+x.size+y.size<500
 dp:p.depth<60
 dq:q.depth<60
 dx:x.depth<60
 dy:y.depth<60
section
variable {p q x y:Ex} {day:Int} {f:List Fx} {c:List Ch} (h:Lg p q x y)
include h
end
end Go.Nov
end
section
namespace Go.Nov
open Go.Sx
namespace Ex
mutual
def men(a:L8):Ex->Bool
 | mk _ _ n _ s=>decide (n=a)||mens a s
def mens(a:L8):List Ex->Bool
 | []=>false
 | x::l=>men a x||mens a l
end
mutual
def fixX(day:Int):Ex->Ex
 | mk k r n d s=>mk (if k=3 then 2 else k) r n (if k=3 then day else d) (fixs day s)
def fixs(day:Int):List Ex->List Ex
 | []=>[]
 | x::l=>fixX day x::fixs day l
end
mutual
theorem zgp(day:Int):∀ x:Ex,(fixX day x).size=x.size
 | mk k r n d s=>by rw [fixX,size,size,Vs day s]
theorem Vs(day:Int):∀ s:List Ex,zw (fixs day s)=zw s
 | []=>rfl
 | x::l=>by rw [fixs,zw,zw,zgp day x,Vs day l]
end
mutual
theorem zdk(day:Int):∀ x:Ex,(fixX day x).depth=x.depth
 | mk k r n d s=>by rw [fixX,depth,depth,J3 day s]
theorem J3(day:Int):∀ s:List Ex,zz (fixs day s)=zz s
 | []=>rfl
 | x::l=>by rw [fixs,zz,zz,zdk day x,J3 day l]
end
mutual
theorem zfv(day:Int):∀ x:Ex,(fixX day x).zJ=x.zJ
 | mk k r n d s=>by rw [fixX,zJ,zJ,J9 day s]
theorem J9(day:Int):∀ s:List Ex,qV (fixs day s)=qV s
 | []=>rfl
 | x::l=>by rw [fixs,qV,qV,zfv day x,J9 day l]
end
theorem zjh{k v:Int}(hk:qS k=true)(h:v∈qw k):v≠0:=by
 have h2:(4<=k/\k<=9)\/(11<=k/\k<=15):=by
  by_cases h1:4<=k/\k<=9
  ·exact .inl h1
  ·by_cases h2:11<=k/\k<=15
   ·exact .inr h2
   ·rw [zb7 h1 h2] at hk; cases hk
 have h3:k=4\/k=5\/k=6\/k=7\/k=8\/k=9\/k=11\/k=12\/k=13\/k=14\/k=15:=by omega
 rcases h3 with rfl | rfl | rfl | rfl | rfl | rfl | rfl | rfl | rfl | rfl | rfl<;>(revert v; decide)
mutual
theorem zig{day:Int}(hd:dayB day=true):∀ x:Ex,x.zx≠0->(fixX day x).zx=x.zx
 | mk k r n d s,h=>by
  rw [fixX,zx,zx];rw [zx] at h;by_cases hk:qS k=true
  ·have k3:k≠3:=λg=>by rw [g] at hk; cases hk
   rw [aO k3,aO k3]
   have hs:qc s=qw k:=by
    unfold wL at h;rw [aP hk] at h;by_cases g:r=[]/\n=[]/\d=0/\qc s=qw k
    ·exact g.2.2.2
    ·rw [aO g] at h; exact absurd rfl h
   rw [VO hd s λv hv=>zjh hk (by rw [<- hs]; exact hv)]
  ·have hk:qS k=false:=by simpa using hk
   rw [wP hk] at h ⊢;by_cases g:jn k r n d (qc s).length=true
   ·have hl:(qc s).length=0:=by
     unfold jn at g;simp only [bA,aK] at g;exact g.1
    have hs:s=[]:=aU.1 (by rw [<- jF s]; exact hl);subst hs;by_cases k3:k=3
    ·rw [aP k3,aP k3,aP g];subst k3;rw [wP (by rfl),aP];unfold jn at g ⊢;simp only [bA,aK,show ¬ (3:Int)=1 by decide,show ¬ (3:Int)=2 by decide,show ¬ (2:Int)=1 by decide,if_false,if_true] at g ⊢;exact⟨rfl,⟨g.2.1.1,g.2.1.2⟩,hd⟩
    ·rw [aO k3,aO k3,fixs,wP hk]
   ·rw [aO g] at h; exact absurd rfl h
theorem VO{day:Int}(hd:dayB day=true):∀ s:List Ex,(∀ v∈qc s,v≠0)->qc (fixs day s)=qc s
 | [],_=>rfl
 | x::l,h=>by
  rw [fixs,qc,qc];rw [qc] at h;rw [zig hd x (h _ (by simp)),VO hd l λv hv=>h v (by simp [hv])]
end
theorem znc(f:List Fx)(day k:Int)(r n:L8)(d:Int)(l:List Ev):evN f day (if k=3 then 2 else k) r n (if k=3 then day else d) l=evN f day k r n d l:=by
 by_cases k3:k=3
 ·subst k3;rw [aP rfl,aP rfl];rfl
 ·rw [aO k3,aO k3]
mutual
theorem zll(f:List Fx)(day:Int):∀ x:Ex,(fixX day x).ev f day=x.ev f day
 | mk k r n d s=>by rw [fixX,ev,ev,zcn f day s,znc]
theorem zcn(f:List Fx)(day:Int):∀ s:List Ex,evs f day (fixs day s)=evs f day s
 | []=>rfl
 | x::l=>by rw [fixs,evs,evs,zll f day x,zcn f day l]
end
mutual
theorem zrf{f g:List Fx}{a:L8}(hf:∀ (n:L8) (d:Int),n≠a->fixR g n d=fixR f n d)(day:Int):∀ x:Ex,x.men a=false->x.ev g day=x.ev f day
 | mk k r n d s,h=>by
  rw [men,Bool.or_eq_false_iff] at h;have hn:n≠a:=aC h.1;rw [ev,ev,zbg hf day s h.2];unfold evN valN;rw [hf n d hn,hf n day hn]
theorem zbg{f g:List Fx}{a:L8}(hf:∀ (n:L8) (d:Int),n≠a->fixR g n d=fixR f n d)(day:Int):∀ s:List Ex,mens a s=false->evs g day s=evs f day s
 | [],_=>rfl
 | x::l,h=>by
  rw [mens,Bool.or_eq_false_iff] at h;rw [evs,evs,zrf hf day x h.1,zbg hf day l h.2]
end
end Ex
end Go.Nov
end
section
namespace Go.Nov
open Go.Sx
namespace Ca
def isNone(a:Ca):Prop:=a.ratio=[49]/\a.extra=[48]/\a.into=a.name
mutual
theorem X0{a:Ca}(h:a.isNone):∀ x:Ex,x.zx≠0->chg a x=x
 | .mk k r n d s,hs=>by
  rw [Ex.zx] at hs;rw [chg];by_cases hh:a.onX k n d=true
  ·rw [aP hh];obtain⟨h1,h2⟩:=xi hs (XY hh)
   have h3:s=[]:=by
    cases s with
    | nil=>rfl
    | cons x s=>rw [Ex.qc] at h2; cases h2
   have h4:n=a.name:=by simp [onX] at hh; exact hh.1
   unfold rel;rw [aP h.2.1,aP h.1,h.2.2,h1,h3,h4]
  ·rw [aO hh,Kq h s (J1 hs)]
theorem Kq{a:Ca}(h:a.isNone):∀ s:List Ex,(∀ p∈Ex.qc s,p≠0)->chgs a s=s
 | [],_=>by rw [chgs]
 | x::s,hs=>by
  rw [Ex.qc] at hs;rw [chgs,X0 h x (hs _ (by simp)),Kq h s (λp hp=>hs p (by simp [hp]))]
end
theorem zka{a:Ca}{x:Ex}(h:ja x=true):chg a x=x:=by
 obtain⟨k,r,n,d,s⟩:=x;simp [ja,Ex.kind,Ex.rat,Ex.name,Ex.date,Ex.sub] at h;obtain⟨h0,_,_,_,rfl⟩:=h;obtain rfl:k=0:=aB h0;rw [chg,chgs];have:a.onX 0 n d=false:=by simp [onX]
 rw [this]; simp
mutual
theorem UA{a:Ca}(h:a.isNone):∀ c:Con,c.form=true->whole a.chg c=c
 | .mk k s t n x d l u,hf=>by
  rw [Con.form,bA] at hf;rw [whole,Qk h u hf.2];rcases zc7 hf.1 with hx | hx
  ·rw [zka hx]
  ·rw [X0 h x hx]
theorem Qk{a:Ca}(h:a.isNone):∀ u:List Con,Con.vI u=true->qy a.chg u=u
 | [],_=>by rw [qy]
 | c::u,hf=>by
  rw [Con.vI,bA] at hf;rw [qy,UA h c hf.1,Qk h u hf.2]
end
mutual
theorem zbh{a:Ca} : ∀ x:Ex,x.men a.name=false->chg a x=x
 | .mk k r n d s,h=>by
  rw [Ex.men,Bool.or_eq_false_iff] at h;have h1:¬ n=a.name:=aC h.1;rw [chg,aO (by simp [onX,h1]),X1 s h.2]
theorem X1{a:Ca} : ∀ s:List Ex,Ex.mens a.name s=false->chgs a s=s
 | [],_=>by rw [chgs]
 | x::s,h=>by
  rw [Ex.mens,Bool.or_eq_false_iff] at h;rw [chgs,zbh x h.1,X1 s h.2]
end
end Ca
namespace Con
mutual
def men(a:L8):Con->Bool
 | mk _ _ _ _ x _ _ s=>x.men a||mens a s
def mens(a:L8):List Con->Bool
 | []=>false
 | c::l=>men a c||mens a l
end
end Con
namespace Ca
mutual
theorem zf3{a:Ca} : ∀ c:Con,c.men a.name=false->whole a.chg c=c
 | .mk k s t n x d l u,h=>by
  rw [Con.men,Bool.or_eq_false_iff] at h;rw [whole,zbh x h.1,Jj u h.2]
theorem Jj{a:Ca} : ∀ u:List Con,Con.mens a.name u=false->qy a.chg u=u
 | [],_=>by rw [qy]
 | c::u,h=>by
  rw [Con.mens,Bool.or_eq_false_iff] at h;rw [qy,zf3 c h.1,Jj u h.2]
end
end Ca
end Go.Nov
end
section
namespace Go.Nov
open Go.Sx
namespace Tm
end Tm
end Go.Nov
end
section
namespace Go.Nov
open Go.Sx
structure Per where
 fix:Int
 pay:Int
 part:L8
namespace Per
def nil:Per:=⟨0,0,[]⟩
def cell(p:Per):Nat->AV
 | 0=>.i p.fix
 | 1=>.i p.pay
 | 2=>.str p.part
 | _=>.undef
def av(p:Per):AV:=.agg [.i p.fix,.i p.pay,.str p.part]
end Per
namespace Tm
def short(d:Deal)(l:List Per)(days:List Int):Prop:=fits d/\l.length<=60/\days.length<=200/\∀ i,i<l.length->(l.getD i Per.nil).part.length<=300
end Tm
end Go.Nov
end
section
namespace Go.Nov
open Go.Sx
namespace Tm
def qO:Con:=.mk 1 [] [] [] (.mk 0 [] [] 0 []) 0 [] []
def both(a b:Con):Con:=.mk 3 [] [] [] (.mk 0 [] [] 0 []) 0 [] [a,b]
def xm:Nat->List Con->Con
 | 0,_=>qO
 | n+1,l=>if l.length=0 then qO else if l.length=1 then l.getD 0 Con.nil else both (xm n (l.take ((l.length+1)/2))) (xm n (l.drop ((l.length+1)/2)))
theorem kZ:∀ (n m:Nat) (l:List Con),l.length<=n->l.length<=m->xm n l=xm m l
 | 0,0,l,_,_=>rfl
 | 0,m+1,l,h,_=>by
  have:l.length=0:=by omega
  simp [xm,this]
 | n+1,0,l,_,h=>by
  have:l.length=0:=by omega
  simp [xm,this]
 | n+1,m+1,l,h1,h2=>by
  simp only [xm];by_cases h:l.length=0
  ·rw [aP h,aP h]
  ·rw [aO h,aO h];by_cases g:l.length=1
   ·rw [aP g,aP g]
   ·rw [aO g,aO g,kZ n m _ (by rw [aH]; omega) (by rw [aH]; omega),kZ n m _ (by rw [bW]; omega) (by rw [bW]; omega)]
def whole(l:List Con):Con:=xm l.length l
theorem Yy(l:List Con):whole l=if l.length=0 then qO else if l.length=1 then l.getD 0 Con.nil else both (whole (l.take ((l.length+1)/2))) (whole (l.drop ((l.length+1)/2))):=by
 unfold whole;rw [kZ l.length (l.length+1) l (aJ _) (Nat.le_succ _)];simp only [xm];by_cases h:l.length=0
 ·rw [aP h,aP h]
 ·rw [aO h,aO h];by_cases g:l.length=1
  ·rw [aP g,aP g]
  ·rw [aO g,aO g,kZ l.length _ _ (by rw [aH]; omega) (aJ _),kZ l.length _ _ (by rw [bW]; omega) (aJ _)]
theorem zkw(l m:List Con):Con.bigs (l++m)=Con.bigs l+Con.bigs m:=by
 induction l with
 | nil=>simp [Con.bigs]
 | cons c l ih=>simp only [List.cons_append,Con.bigs,ih]; omega
theorem zfc(l m:List Con):Con.zF (l++m)=Con.zF l+Con.zF m:=by
 induction l with
 | nil=>simp [Con.zF]
 | cons c l ih=>simp only [List.cons_append,Con.zF,ih]; omega
theorem xO:∀ (n:Nat) (l:List Con),l.length<=n->1<=l.length->(whole l).big<=Con.bigs l+2*(l.length - 1)/\(whole l).nodes<=Con.zF l+(l.length - 1)
 | 0,l,h,h'=>by omega
 | n+1,l,h,h'=>by
  rw [Yy,aO (by omega:¬ l.length=0)];by_cases h1:l.length=1
  ·rw [aP h1]
   match l,h1 with
   | [c],_=>simp [Con.bigs,Con.zF]
  ·rw [aO h1];obtain⟨a1,a2⟩:=xO n (l.take ((l.length+1)/2)) (by rw [aH]; omega) (by rw [aH]; omega);obtain⟨b1,b2⟩:=xO n (l.drop ((l.length+1)/2)) (by rw [bW]; omega) (by rw [bW]; omega);have e1:=zkw (l.take ((l.length+1)/2)) (l.drop ((l.length+1)/2));have e2:=zfc (l.take ((l.length+1)/2)) (l.drop ((l.length+1)/2));rw [bU] at e1 e2;rw [aH] at a1 a2;rw [bW] at b1 b2;simp only [both,Con.big,Con.bigs,Con.nodes,Con.zF,Ex.size,Ex.zw,Ex.zJ,Ex.qV,List.length_nil];omega
theorem We(l:List Con):(whole l).big<=Con.bigs l+2*l.length+2/\(whole l).nodes<=Con.zF l+l.length+1:=by
 by_cases h:l.length=0
 ·have:l=[]:=aU.1 h;subst this;decide
 ·have:=xO l.length l (aJ _) (by omega);omega
theorem zeo{x:Ex}(h:x.size<=50):numX x=decide (x.zx=1):=by
 unfold numX;by_cases hs:x.zx=1
 ·have hd:=Ex.jP x;have:x.errX=0:=by unfold Ex.errX; rw [aO (by omega),aO (by omega)]
  simp [this,hs]
 ·simp [hs]
theorem zdh{x:Ex}(h:x.size<=50)(hs:x.zx=1):x.errX=0:=by
 have hd:=Ex.jP x;unfold Ex.errX;rw [aO (by omega),aO (by omega)]
theorem zrv(f:List Fx)(h:List Ch)(day:Int)(c:Con)(fr fin:Int):flM f h (at_ day c) fr fin=if fin<=fr then .ok [] else if fr<=day then flM f h c day fin else .ok []:=by
 rw [Jh];simp [at_,Con.kind,Con.date,Con.sub]
theorem zmw(f:List Fx)(h:List Ch)(a b n:L8)(x:Ex)(fr fin:Int):flM f h (.mk 2 a b n x 0 [] []) fr fin=if fin<=fr then .ok [] else Go.Nov.andM (valM x fr f h) λr=>.ok (payF fr a b n r):=by
 rw [Jh];simp [Con.kind,Con.x,Con.src,Con.dst,Con.name]
theorem zff{x:Ex}{day:Int}{f:List Fx}{h:List Ch}(hx:x.size<=50)(hs:x.zx=1)(he:errE f h=0)(hd:dayB day=true):valM x day f h=if(x.ev f day).e≠0 then .error (x.ev f day).e else .ok (x.ev f day).v:=by
 unfold valM jW;have ha:askE x 1 day f h=0:=by rw [zq3 (zdh hx hs) hs,aP he,aP hd]
 simp only [ha,ne_eq,not_true_eq_false,if_false];by_cases g:(x.ev f day).e=0<;>simp [g]
theorem zn3(n:L8)(d:Int)(f:List Fx)(day:Int):((fixg n d).ev f day).v=(fixR f n d).1/\((fixg n d).ev f day).e=(fixR f n d).2:=by
 unfold fixg; rw [Ex.ev,Ex.evs]; exact⟨rfl,rfl⟩
end Tm
end Go.Nov
end
section
namespace Go.Nov
open Go.Sx
end Go.Nov
end
section
namespace Go.Nov
open Go.Sx
namespace Tm
theorem zmy{a b n:L8}{x:Ex}{day:Int}(hs:x.size<=50)(hf:(at_ day (.mk 2 a b n x 0 [] [])).form=true):dayB day=true/\x.zx=1:=by
 unfold at_ at hf;rw [Con.form,Con.vI,Con.vI,Con.form,Con.vI] at hf;simp only [vK,aL,List.length_nil,zeo hs] at hf;have hb:ja (.mk 0 [] [] 0 [])=true:=by decide
 rw [hb] at hf;by_cases e1:dayB day=true<;>by_cases e6:x.zx=1<;>simp_all
theorem zbi{a b n:L8}{x:Ex}{day fr:Int}{v:L8}{f:List Fx}{h:List Ch}(hs:x.size<=50)(hf:(at_ day (.mk 2 a b n x 0 [] [])).form=true)(he:errE f h=0)(h1:fr<=99999)(hv:¬ day<fr->(x.ev f day).e=0/\(x.ev f day).v=v) :
  flM f h (at_ day (.mk 2 a b n x 0 [] [])) fr 100000 = .ok (if day<fr then [] else payF day a b n v):=by
 obtain⟨h2,h3⟩:=zmy hs hf;have hd:0<=day/\day<=99999:=by simpa [dayB] using h2
 rw [zrv,aO (by omega)];by_cases g:day<fr
 ·rw [aP g,aO (by omega)]
 ·obtain⟨v1,v2⟩:=hv g;rw [aO g,aP (by omega),zmw,aO (by omega),zff hs h3 he h2,aO (by simp [v1]),v2];rfl
def Uy(d:Deal)(fl:Bool)(p:Per):List Con:=[at_ p.pay (pay d (over d.ZO (fixg d.name p.fix) fl) (mulR p.part d.V0).1)]
theorem zll{n:L8}{z day:Int}{f:List Fx}(hk:(vZ f n z).2=true):((fixg n z).ev f day).v=(vZ f n z).1/\((fixg n z).ev f day).e=0:=by
 obtain⟨s1,s2⟩:=zn3 n z f day;unfold fixR at s1 s2;rw [hk,aP rfl] at s1 s2;exact⟨s1,s2⟩
end Tm
end Go.Nov
end
section
namespace Go.Nov
open Go.Sx
namespace Ca
theorem zto(x:Ex):x.size<=wB x+1:=by
 unfold wB;cases h:ja x with
 | false=>simp
 | true=>
  obtain⟨k,r,n,d,s⟩:=x;simp [ja,Ex.kind,Ex.rat,Ex.name,Ex.date,Ex.sub] at h;obtain⟨_,_,_,_,rfl⟩:=h;simp [Ex.size,Ex.zw]
mutual
theorem U6(a:Ca):∀ c:Con,(whole a.chg c).big<=5*c.big+(c.size+c.nodes)*(a.into.length+a.ratio.length+a.extra.length)
 | .mk k s t n x d l u=>by
  have h1:=QV a x;have h2:=Qr a u;have h3:=zto x;have h4:x.size*(a.into.length+a.ratio.length+a.extra.length)<=(1+wB x+1)*(a.into.length+a.ratio.length+a.extra.length):=aT _ (by omega);rw [whole];simp only [Con.nodes,Con.size,Con.big,bH] at h1 h2 h4 ⊢;omega
theorem Qr(a:Ca):∀ u:List Con,Con.bigs (qy a.chg u)<=5*Con.bigs u+(Con.zw u+Con.zF u)*(a.into.length+a.ratio.length+a.extra.length)
 | []=>by rw [qy]; simp [Con.zF,Con.bigs,Con.zw]
 | c::u=>by
  have h1:=U6 a c;have h2:=Qr a u;rw [qy];simp only [Con.zF,Con.bigs,Con.zw,bH] at h1 h2 ⊢;omega
end
end Ca
end Go.Nov
end
section
set_option maxRecDepth 100000
open Go Go.Sx Go.Proofs Go.Nov
namespace Go.Proofs.Tryz
attribute [local simp] eqKV eqA eqA0 eqH eqB eqL eqL0
noncomputable def K42:=Go.Sx.aA f42
noncomputable def K41:=Go.Sx.aA f41
def KA(n:Nat):Ctr:=ctrP true (λp:Con×Con=>[p.1.conA,p.2.conA]) (λp=>p.1.nodes<n/\p.1.big<2^40) (λp r=>(r=true↔p.1=p.2)) (λ_ (r:Bool)=>(.bool r,[]))
def eqfK(n:Nat):Ctr:=ctrP true (λp:List Con×List Con=>[Con.conS p.1,Con.conS p.2,.fn 13 [] []]) (λp=>Con.zF p.1<n/\Con.bigs p.1<2^40) (λp r=>(r=true↔p.1=p.2)) (λ_ (r:Bool)=>(.bool r,[]))
def SEk(s t:List Con)(i:Nat):KV:=[(1,Con.conS t),(2,.fn 13 [] []),(15,Con.conS s),(16,.i (s.length:Int)),(17,.i (i:Int))]
theorem zri(n:Nat)(ih:zf prog 13 (KA n)):zf prog 42 (eqfK n):=by
 refine zh' f42 λp hp O w0 Q hq=> ?_
 obtain⟨s,t⟩:=p;obtain⟨h1,h2⟩:=hp;simp only at h1 h2 hq;have hlen:=Con.xW s;refine zc.n (wM ih) [1,2,15,16,17] (.N ((s.length:Int)=t.length) (.R [.bool false] []) (.leaf (.loop (lps K42 0).1 (lps K42 0).2 [(1,.sl t.length 12 (Con.conG t)),(2,.fn 13 [] []),(15,.sl s.length 12 (Con.conG s)),(16,.i s.length),(17,.i 0)] []))) ?_;simp only [Tree.holds,zd,inR,lo,hi,aD];refine⟨λh=> ?_,λh=> ?_⟩
 ·refine RetR.scal (hq false ⟨λh=>(by cases h),λhe=> ?_⟩) rfl (by simp [resV]);subst he;simp at h
 ·have hl:s.length=t.length:=by
   by_cases e1:s.length=t.length
   ·exact e1
   ·rw [aW (show ¬ ((s.length:Nat):Int)=t.length by omega)] at h;cases h
  refine zc.loop (ι:={i:Nat // i<=s.length/\∀ j,j<i->s.getD j Con.nil=t.getD j Con.nil}) (λi=>SEk s t i.1) (λ_=>[]) (λi=>s.length - i.1) ⟨0,aI _,λj hj=>by omega⟩ 0 ?_ ?_ (by kernel_rfl)
  ·exact⟨by simp [SEk,Con.conS,za],by simp,by kernel_rfl,aI _⟩
  ·rintro⟨i,hil,hib⟩;refine zc.n (wM ih) [1,2,15,16,17] (let v3:=t.getD (i:Int).toNat Con.nil;let v2:=s.getD (i:Int).toNat Con.nil;let v1:List Blk:=[.box (Con.zp v2),.box (Con.zp v3)];.D ((i:Int)<s.length) (.side ((0:Int)<=i/\(i:Int)<s.length) (.side ((0:Int)<=i/\(i:Int)<t.length) (.ex (λ(x:Con×Con)=>eqL [(Con.conD v2),(Con.conD v3)] [(Con.conA x.1),(Con.conA x.2)]/\Con.nodes x.1<n/\Con.big x.1<1099511627776) λn=>.all (λ(r:Bool)=>r=true↔n.1=n.2) λn=>.ite (!n) (.R [.bool false] v1) (.S (i+1) (.leaf (.back 0 [(1,.sl t.length 12 (Con.conG t)),(2,.fn 13 [] []),(15,.sl s.length 12 (Con.conG s)),(16,.i s.length),(17,.i (i+1))] v1)))))) (.R [.bool true] [])) ?_;simp only [Tree.holds,zd,inR,lo,hi,aD];refine⟨λhlt=> ?_,λhge=> ?_⟩
   ·have hlt:i<s.length:=by have:=aB hlt; omega
    have g1:=Con.jA hlt;have g2:=Con.ye hlt;refine⟨by omega,λ_=>⟨by omega,λ_=>⟨(s.getD i Con.nil,t.getD i Con.nil),⟨⟨vg _,vg _,trivial⟩,by simp only; omega,by simp only; omega⟩,vk _,?_⟩⟩⟩;intro e he;simp only at he;refine⟨λg=> ?_,λg=>⟨by omega,λ_=> ?_⟩⟩
    ·refine RetR.scal (hq false ⟨λh=>(by cases h),λh3=> ?_⟩) rfl (by simp [resV]);have:e=true:=he.2 (by rw [h3]);rw [this] at g; cases g
    ·rw [aP trivial];have g:e=true:=by simpa using g
     refine⟨⟨i+1,hlt,λj hj=> ?_⟩,by show s.length - (i+1)<s.length - i; omega,by simp [SEk,Con.conS,za],by simp,by kernel_rfl,aI _⟩;rcases aR j i with h1 | h1
     ·exact hib j h1
     ·have:j=i:=by omega
      rw [this]; exact he.1 g
   ·have hge:i=s.length:=by have:=aC hge; omega
    subst hge;exact RetR.scal (hq true ⟨λ_=>Con.xf hl hib,λ_=>rfl⟩) rfl (by simp [resV])
def SIe(l m:List Int)(i:Nat):KV:=[(0,Con.dayS l),(1,Con.dayS m),(12,.i (l.length:Int)),(13,.i (i:Int))]
def eqIC:Ctr:=ctrP true (λp:List Int×List Int=>[Con.dayS p.1,Con.dayS p.2]) (λp=>p.1.length<2^40) (λp r=>(r=true↔p.1=p.2)) (λ_ (r:Bool)=>(.bool r,[]))
theorem ztb:zf prog 41 eqIC:=by
 refine zh' f41 λp hp O w0 Q hq=> ?_
 obtain⟨l,m⟩:=p;replace hp:l.length<2^40:=hp;refine zc.n zH [0,1,12,13] (.N ((l.length:Int)=m.length) (.R [.bool false] []) (.leaf (.loop (lps K41 0).1 (lps K41 0).2 [(0,.sl l.length 1 (Con.dayG l)),(1,.sl m.length 1 (Con.dayG m)),(12,.i l.length),(13,.i 0)] []))) ?_;simp only [Tree.holds,zd,inR,lo,hi,aD];refine⟨λh=> ?_,λh=> ?_⟩
 ·refine RetR.scal (hq false ⟨λh=>(by cases h),λhe=> ?_⟩) rfl (by simp [resV]);simp only at he;subst he;simp at h
 ·have hl:l.length=m.length:=by simp at h; omega
  refine zc.loop (ι:={i:Nat // i<=l.length/\∀ j,j<i->l.getD j 0=m.getD j 0}) (λi=>SIe l m i.1) (λ_=>[]) (λi=>l.length - i.1) ⟨0,aI _,λj hj=>by omega⟩ 0 ?_ ?_ (by kernel_rfl)
  ·exact⟨by simp [SIe,Con.dayS,za],trivial,by kernel_rfl,aI _⟩
  ·rintro⟨i,hil,hib⟩;refine zc.n zH [0,1,12,13] (.D ((i:Int)<l.length) (.side ((0:Int)<=i/\(i:Int)<l.length) (.side ((0:Int)<=i/\(i:Int)<m.length) (.N (l.getD (i:Int).toNat (0:Int)=List.getD m (i:Int).toNat (0:Int)) (.R [.bool false] []) (.S (i+1) (.leaf (.back 0 [(0,.sl l.length 1 (Con.dayG l)),(1,.sl m.length 1 (Con.dayG m)),(12,.i l.length),(13,.i (i+1))] [])))))) (.R [.bool true] [])) ?_;simp only [Tree.holds,zd,inR,lo,hi,aD];refine⟨λhlt=> ?_,λhge=> ?_⟩
   ·have hlt:i<l.length:=by have:=aB hlt; omega
    refine⟨by omega,λ_=>⟨by omega,λ_=>⟨λg=> ?_,λg=>⟨by omega,λ_=> ?_⟩⟩⟩⟩
    ·refine RetR.scal (hq false ⟨λh=>(by cases h),λh3=> ?_⟩) rfl (by simp [resV]);simp only at h3;subst h3; simp at g
    ·have g:l.getD i 0=m.getD i 0:=by simpa using g
     rw [aP trivial];refine⟨⟨i+1,hlt,λj hj=> ?_⟩,by show l.length - (i+1)<l.length - i; omega,by simp [SIe,Con.dayS,za],trivial,by kernel_rfl,aI _⟩;rcases aR j i with h1 | h1
     ·exact hib j h1
     ·have:j=i:=by omega
      rw [this]; exact g
   ·have hge:i=l.length:=by have:=aC hge; omega
    subst hge;refine RetR.scal (hq true ⟨λ_=> ?_,λ_=>rfl⟩) rfl (by simp [resV]);apply List.ext_getElem hl;intro j g1 g2;have:=hib j g1;simpa [List.getD,g1,g2] using this
noncomputable def GSk0:=tb zgn (tb ztb tz)
noncomputable def GSkn(n:Nat):Nat->Option Ctr:=λf=>if f=42 then some (eqfK n) else GSk0.g f
theorem zml{n:Nat}(ih:zf prog 13 (KA n)):∀ g c,GSkn n g=some c->zf prog g c:=λg c h=>by
 unfold GSkn at h;split at h
 ·rename_i e; cases h; subst e; exact zri n ih
 ·exact GSk0.h g c h
theorem zb3(n:Nat)(ih:zf prog 13 (KA n)):zf prog 13 (KA (n+1)):=by
 refine zh' f13 λp hp O w0 Q hq=> ?_
 obtain⟨a,b⟩:=p;obtain⟨h1,h2⟩:=hp;simp only at h1 h2 hq;refine zc.n (zml ih) [] (let v5:=Con.dst a=Con.dst b;let v4:=Con.src a=Con.src b;let v3:=Con.date a=Con.date b;let v2:=Con.name a=Con.name b;let v1:=Con.kind a=Con.kind b;.ex (λ(x:Ex×Ex)=>(bif bif bif bif decide v1 then decide v4 else false then decide v5 else false then decide v2 else false then decide v3 else false)=true->q32 [(Ex.exA a.x),(Ex.exA b.x)] x) λn_1=>.all (λ(x:Bool)=>(bif bif bif bif decide v1 then decide v4 else false then decide v5 else false then decide v2 else false then decide v3 else false)=true->(x=true↔n_1.1=n_1.2)) λn_2=>.ex (λ(x:List Int×List Int)=>(bif bif bif bif bif decide v1 then decide v4 else false then decide v5 else false then decide v2 else false then decide v3 else false then n_2 else false)=true->q33 [.sl a.days.length 1 (Con.dayG a.days),.sl b.days.length 1 (Con.dayG b.days)] x) λn_3=>.all (λ(x:Bool)=>(bif bif bif bif bif decide v1 then decide v4 else false then decide v5 else false then decide v2 else false then decide v3 else false then n_2 else false)=true->(x=true↔n_3.1=n_3.2)) λn_4=>.ex (λ(x:List Con×List Con)=>(bif bif bif bif bif bif decide v1 then decide v4 else false then decide v5 else false then decide v2 else false then decide v3 else false then n_2 else false then n_4 else false)=true->eqL [.sl a.sub.length 12 (Con.conG a.sub),.sl b.sub.length 12 (Con.conG b.sub),.fn 13 [] []] [.sl x.1.length 12 (Con.conG x.1),.sl x.2.length 12 (Con.conG x.2),.fn 13 [] []]/\Con.zF x.1<n/\Con.bigs x.1<1099511627776) λn=>.all (λ(x:Bool)=>(bif bif bif bif bif bif decide v1 then decide v4 else false then decide v5 else false then decide v2 else false then decide v3 else false then n_2 else false then n_4 else false)=true->(x=true↔n.1=n.2)) λn=>.R [.bool (bif bif bif bif bif bif bif decide v1 then decide v4 else false then decide v5 else false then decide v2 else false then decide v3 else false then n_2 else false then n_4 else false then n else false)] [.box (Con.ze a),.box (Con.ze b)]) ?_;simp only [q32,q33,Tree.holds,zd,inR,lo,hi,aD];have hb:=h2;rw [Con.xg] at hb;rw [Con.wo] at h1;refine⟨(a.x,b.x),λ_=>⟨⟨jy a.x,jy b.x,trivial⟩,by simp only; omega⟩,(vk _).imp λ_ h _=>h,λe1 g1=> ?_⟩;refine⟨(a.days,b.days),λ_=>⟨by simp [za],by simp only; omega⟩,(vk _).imp λ_ h _=>h,λe2 g2=> ?_⟩;refine⟨(a.sub,b.sub),λ_=>⟨by simp [za],by simp only; omega,by simp only; omega⟩,(vk _).imp λ_ h _=>h,λe3 g3=> ?_⟩;refine RetR.scal (hq _ ?_) rfl (by simp only [resV]; rfl);rw [Con.xL];by_cases q1:a.kind=b.kind
 ·by_cases q2:a.src=b.src
  ·by_cases q3:a.dst=b.dst
   ·by_cases q4:a.name=b.name
    ·by_cases q5:a.date=b.date
     ·simp only [q1,q2,q3,q4,q5,decide_true,cond_true,true_and] at g1 g2 g3 ⊢;replace g1:=g1 trivial;cases e1 with
      | false=>simp only [cond_false]; exact⟨λh=>(by cases h),λh=>by have:=g1.2 h.1; cases this⟩
      | true=>
       simp only [cond_true] at g2 g3 ⊢;replace g2:=g2 trivial;cases e2 with
       | false=>simp only [cond_false]; exact⟨λh=>(by cases h),λh=>by have:=g2.2 h.2.1; cases this⟩
       | true=>
        simp only [cond_true] at g3 ⊢;replace g3:=g3 trivial;exact⟨λh=>⟨g1.1 rfl,g2.1 rfl,g3.1 h⟩,λh=>g3.2 h.2.2⟩
     ·simp [q5]
    ·simp [q4]
   ·simp [q3]
  ·simp [q2]
 ·simp [q1]
def zji:Ctr:=ctrP true (λp:Con×Con=>[p.1.conA,p.2.conA]) (λp=>p.1.big<2^40) (λp r=>(r=true↔p.1=p.2)) (λ_ (r:Bool)=>(.bool r,[]))
theorem zjt:zf prog 13 zji:=jB (λp=>p.1.nodes) zb3
end Go.Proofs.Tryz
end
section
namespace Go.Nov
open Go.Sx
namespace Tm
def turn(d:Deal):Deal:=⟨d.short,d.long,d.ccy,d.name,d.ZO,d.V0⟩
end Tm
end Go.Nov
end
section
namespace Go.Nov
open Go.Sx
end Go.Nov
end
section
set_option maxRecDepth 100000
open Go Go.Sx Go.Proofs Go.Nov
namespace Go.Proofs.Tryz
attribute [local simp] eqKV eqA eqA0 eqH eqB eqL eqL0
def payK(d:Int)(a b r:L8):Con:=Tm.at_ d (.mk 2 a b [85,83,68] (Tm.kon r) 0 [] [])
def zbm:Ctr:=ctrP false (λp:Fl=>[.i p.date,.str p.src,.str p.dst,.str p.amt]) (λ_=>True) (λ_ (_:Unit)=>True) (λp _=>((payK p.date p.src p.dst p.amt).conD,[]))
theorem Xi:zf prog 34 zbm:=by
 refine zh' f34 λp hp O w0 Q hq=> ?_
 obtain⟨d,a,b,n,r⟩:=p;replace hq:=hq () trivial;simp only at hq;refine zc.n zH [] (let v2:List AV:=[.int .u8 2,.str a,.str b,.str #[(85:UInt8),(83:UInt8),(68:UInt8)].toList,.int .u8 1,.str r,.str #[].toList,.i 0,.nils,.i 0,.nils,.nils];let v1:List AV:=[.int .u8 6,.str #[].toList,.str #[].toList,.str #[].toList,.int .u8 0,.str #[].toList,.str #[].toList,.i 0,.nils,.i d,.nils,.osl 2 12 0 1];.R [.agg v1] [.box v1,.box v2,.arr 1 12 (zi 12 v2)]) ?_;simp only [Tree.holds,zd];exact RetR.le0 hq (λh=>by cases h) (LeA.agg ⟨LeA.refl _,LeA.refl _,LeA.refl _,LeA.refl _,LeA.refl _,LeA.refl _,LeA.refl _,LeA.refl _,LeA.nils,LeA.refl _,LeA.nils,Con.zm7 (e:=.mk 2 a b [85,83,68] (Tm.kon r) 0 [] []) ⟨LeA.refl _,LeA.refl _,LeA.refl _,LeA.refl _,LeA.refl _,LeA.refl _,LeA.refl _,LeA.refl _,LeA.nils,LeA.refl _,LeA.nils,LeA.nils,trivial⟩,trivial⟩)
theorem Con.zp5{x y:Con}{k d:Int}{a b n:L8}{z:Ex}{l:List Int}{c:List AV}(h:LeL c (x.zp++y.zp)):LeA (.sl 2 12 (zg (zi 12 c) 0)) (.sl 2 12 (Con.mk k a b n z d l [x,y]).deep):=by
 refine LeA.sl rfl λj o hj ho=> ?_
 rw [Con.qp (Con.mk k a b n z d l [x,y]) j o (by show j<2; omega) ho];have:=LeL.dAt (j*12+o) h;simp only [zg,zi,Nat.zero_add];rcases(show j=0\/j=1 by omega) with rfl | rfl<;>rcases(show o=0\/o=1\/o=2\/o=3\/o=4\/o=5\/o=6\/o=7\/o=8\/o=9\/o=10\/o=11 by omega) with rfl | rfl | rfl | rfl | rfl | rfl | rfl | rfl | rfl | rfl | rfl | rfl<;>exact this
def sAnn:L8:=[65,110,110]
def sBob:L8:=[66,111,98]
def cE1:Con:=payK 10 sAnn sBob [49]
def cE2:Con:=payK 20 sAnn sBob [50]
def cE3:Con:=payK 20 sBob sAnn [55]
def cE0:Con:=Tm.both cE1 cE2
def UW:Ctr:=ctrP false (λ_:Unit=>[]) (λ_=>True) (λ_ (_:Unit)=>True) (λ_ _=>(cE0.conD,[]))
noncomputable def GBv:=tb Xi tz
abbrev q60(A:List AV)(x:Fl):Prop:=eqL A [.i x.date,.str x.src,.str x.dst,.str x.amt]/\True
theorem YW:zf prog 33 UW:=by
 refine zh' f33 λp hp O w0 Q hq=> ?_
 replace hq:=hq () trivial;refine zc.n GBv.h [] (let v3:List AV:=[.int .u8 3,.str #[].toList,.str #[].toList,.str #[].toList,.int .u8 0,.str #[].toList,.str #[].toList,.i 0,.nils,.i 0,.nils,.osl 1 12 0 2];.ex (q60 [.i 10,.str #[(65:UInt8),(110:UInt8),(110:UInt8)].toList,.str #[(66:UInt8),(111:UInt8),(98:UInt8)].toList,.str #[(49:UInt8)].toList]) λn=>let v2:=payK n.date n.src n.dst n.amt;.A λn_1=>.ex (q60 [.i 20,.str #[(65:UInt8),(110:UInt8),(110:UInt8)].toList,.str #[(66:UInt8),(111:UInt8),(98:UInt8)].toList,.str #[(50:UInt8)].toList]) λn_2=>let v1:=payK n_2.date n_2.src n_2.dst n_2.amt;.A λn_3=>.R [.agg v3] [.box v3,.arr 2 12 (zi 12 [.int .u8 (Con.kind v2),.str (Con.src v2),.str (Con.dst v2),.str (Con.name v2),.int .u8 (Ex.kind (Con.x v2)),.str (Ex.rat (Con.x v2)),.str (Ex.name (Con.x v2)),.i (Ex.date (Con.x v2)),.sl (List.length (Ex.sub (Con.x v2))) 5 (Ex.exG (Ex.sub (Con.x v2))),.i (Con.date v2),.sl (List.length (Con.days v2)) 1 (Con.dayG (Con.days v2)),.sl (List.length (Con.sub v2)) 12 (Con.deep v2),.int .u8 (Con.kind v1),.str (Con.src v1),.str (Con.dst v1),.str (Con.name v1),.int .u8 (Ex.kind (Con.x v1)),.str (Ex.rat (Con.x v1)),.str (Ex.name (Con.x v1)),.i (Ex.date (Con.x v1)),.sl (List.length (Ex.sub (Con.x v1))) 5 (Ex.exG (Ex.sub (Con.x v1))),.i (Con.date v1),.sl (List.length (Con.days v1)) 1 (Con.dayG (Con.days v1)),.sl (List.length (Con.sub v1)) 12 (Con.deep v1)])]) ?_;simp only [q60,Tree.holds,zd];refine⟨⟨10,sAnn,sBob,[],[49]⟩,⟨⟨⟨rfl,rfl⟩,rfl,rfl,rfl,trivial⟩,trivial⟩,⟨(),trivial⟩,λ_ _=>⟨⟨20,sAnn,sBob,[],[50]⟩,⟨⟨⟨rfl,rfl⟩,rfl,rfl,rfl,trivial⟩,trivial⟩,⟨(),trivial⟩,λ_ _=> ?_⟩⟩;exact RetR.le0 hq (λh=>by cases h) (LeA.agg ⟨LeA.refl _,LeA.refl _,LeA.refl _,LeA.refl _,LeA.refl _,LeA.refl _,LeA.refl _,LeA.refl _,LeA.nils,LeA.refl _,LeA.nils,Con.zp5 (x:=cE1) (y:=cE2) (LeL.refl _),trivial⟩)
def exV:List Ver:=[⟨5,cE0⟩,⟨15,cE3⟩]
theorem zrh:newV cE0 5=([⟨5,cE0⟩],0):=by kernel_rfl
theorem zg7:chgV [⟨5,cE0⟩] 15 cE3=(exV,0):=by kernel_rfl
theorem zp7:flV exV [] []=([⟨10,sAnn,sBob,[85,83,68],[49]⟩,⟨20,sBob,sAnn,[85,83,68],[55]⟩],0):=by kernel_rfl
theorem Qa:fitC cE0:=⟨by decide +kernel,by decide +kernel⟩
theorem Wm:fitC cE3:=⟨by decide +kernel,by decide +kernel⟩
theorem jD(c:Con):eqA c.conD c.conA:=by
 simp only [Con.conD,Con.outD,Con.conA,eqA];exact⟨⟨rfl,rfl⟩,rfl,rfl,rfl,⟨rfl,rfl⟩,rfl,rfl,⟨rfl,rfl⟩,⟨rfl,rfl,λ_ _ _ _=>rfl⟩,⟨rfl,rfl⟩,⟨rfl,rfl,λ_ _ _ _=>rfl⟩,⟨rfl,rfl,Con.qp c⟩,trivial⟩
def ZK:Ctr:=ctrP false (λ_:Unit=>[]) (λ_=>True) (λ_ (_:Unit)=>True) (λ_ _=>(.tup [verA exV,.bool true],[]))
noncomputable def GEv:=tb Xi (tb YW (tb zct (tb zby tz)))
abbrev q63(A:List AV)(x:List Ver×Int×Con):Prop:=eqL A [.agg [.sl x.1.length 13 (verG x.1)],.i x.2.1,(Con.conA x.2.2)]/\x.1.length<1073741824/\fitV x.1/\fitC x.2.2
abbrev q62(A:List AV)(x:Con×Int):Prop:=eqL A [(Con.conA x.1),.i x.2]/\fitC x.1
abbrev q61(A:List AV)(x:Unit):Prop:=eqL A []/\True
theorem Qs:zf prog 30 ZK:=by
 refine zh' f30 λp hp O w0 Q hq=> ?_
 replace hq:=hq () trivial;refine zc.n GEv.h [] (let v1:=q60 [.i 20,.str #[(66:UInt8),(111:UInt8),(98:UInt8)].toList,.str #[(65:UInt8),(110:UInt8),(110:UInt8)].toList,.str #[(55:UInt8)].toList];.ex (q61 []) λn=>.A λn=>.ex (q62 [.agg [.int .u8 3,.str cE0.src,.str cE0.dst,.str cE0.name,.int .u8 0,.str (Ex.rat cE0.x),.str (Ex.name cE0.x),.i 0,.sl 0 5 (Ex.exG (Ex.sub cE0.x)),.i 0,.sl 0 1 (Con.dayG cE0.days),.sl 2 12 (Con.deep cE0)],.i 5]) λn=>.all (λ(r:List Ver×Int)=>r=newV n.1 n.2) λn=>let v7:=[AV.sl n.1.length 13 (verG n.1)];let v6:List AV:=[.sl n.1.length 13 (verG n.1)];.all (λ(x:Bool)=>True) λn_1=>.ite n_1 (.ex v1 λn_2=>let v2:=q63 [.agg v7,.i 15,(Con.conD (payK n_2.date n_2.src n_2.dst n_2.amt))];.A λn_3=>.all (λ(x:Bool)=>True) λn_4=>.ite n_4 (.ex v2 λn_5=>.all (λ(r:List Ver×Int)=>r=chgV n_5.1 n_5.2.1 n_5.2.2) λn_6=>let v3:List AV:=[.sl n_6.1.length 13 (verG n_6.1)];.R [.agg v3,.bool (bif decide (n.2=0) then decide (n_6.2=0) else false)] [.box v3,.box v6,.box v3]) (.ex v2 λn_5=>.all (λ(r:List Ver×Int)=>r=chgV n_5.1 n_5.2.1 n_5.2.2) λn_6=>let v4:List AV:=[.sl n_6.1.length 13 (verG n_6.1)];.R [.agg v4,.bool (bif decide (n.2=0) then decide (n_6.2=0) else false)] [.box v4,.box v6,.box v4])) (.ex v1 λn_2=>.A λn_3=>.ex (q63 [.agg v7,.i 15,(Con.conD (payK n_2.date n_2.src n_2.dst n_2.amt))]) λn_4=>.all (λ(r:List Ver×Int)=>r=chgV n_4.1 n_4.2.1 n_4.2.2) λn_5=>let v5:List AV:=[.sl n_5.1.length 13 (verG n_5.1)];.R [.agg v5,.bool (bif decide (n.2=0) then decide (n_5.2=0) else false)] [.box v5,.box v6,.box v5])) ?_;simp only [q60,q61,q62,q63,Tree.holds,zd]
 have fit1:fitV [(⟨5,cE0⟩:Ver)]:=λi hi=>by
  have:i=0:=by simp at hi; omega
  subst this; exact Qa
 refine⟨(),⟨trivial,trivial⟩,⟨(),trivial⟩,λ_ _=> ?_⟩;refine⟨(cE0,5),⟨⟨jD cE0,⟨rfl,rfl⟩,trivial⟩,Qa⟩,⟨_,rfl⟩,?_⟩;rintro _ rfl;simp only [zrh];refine⟨⟨true,trivial⟩,λb _=>⟨λ_=> ?_,λ_=> ?_⟩⟩
 all_goals refine⟨⟨20,sBob,sAnn,[],[55]⟩,⟨⟨⟨rfl,rfl⟩,rfl,rfl,rfl,trivial⟩,trivial⟩,⟨(),trivial⟩,λ_ _=> ?_⟩
 ·refine⟨⟨true,trivial⟩,λb _=>⟨λ_=> ?_,λ_=> ?_⟩⟩
  all_goals
   refine⟨([⟨5,cE0⟩],15,cE3),⟨⟨z7 _,⟨rfl,rfl⟩,jD cE3,trivial⟩,by decide,fit1,Wm⟩,⟨_,rfl⟩,?_⟩;rintro _ rfl;simp only [zg7,decide_true,cond_true];exact RetR.le0 hq (λh=>by cases h) (LeA.refl _)
 ·refine⟨([⟨5,cE0⟩],15,cE3),⟨⟨z7 _,⟨rfl,rfl⟩,jD cE3,trivial⟩,by decide,fit1,Wm⟩,⟨_,rfl⟩,?_⟩;rintro _ rfl;simp only [zg7,decide_true,cond_true];exact RetR.le0 hq (λh=>by cases h) (LeA.refl _)
def za8:Ctr:=ctrP true (λp:Fl=>[.i p.date,.str p.src,.str p.dst,.str p.amt]) (λ_=>True) (λ_ (_:Unit)=>True) (λp _=>(.agg [.i p.date,.str p.src,.str p.dst,.str [85,83,68],.str p.amt],[]))
theorem Y2:zf prog 32 za8:=by
 refine zh' f32 λp hp O w0 Q hq=> ?_
 obtain⟨d,a,b,n,r⟩:=p;replace hq:=hq () trivial;simp only at hq;refine zc.n zH [] (.R [.agg [.i d,.str a,.str b,.str #[(85:UInt8),(83:UInt8),(68:UInt8)].toList,.str r]] [.box [.i d,.str a,.str b,.str #[(85:UInt8),(83:UInt8),(68:UInt8)].toList,.str r]]) ?_;simp only [Tree.holds,zd];exact RetR.out0 hq (λ_=>by simp [resV,new2,new1,new0,qF]) (by simp [resV,exp2,exp1,exp0,ren0,eqA2])
theorem env0:envP ([],[]):=⟨by decide,by decide,λj hj=>absurd hj (Nat.not_lt_zero _),λj hj=>absurd hj (Nat.not_lt_zero _)⟩
structure GvA where
 s:List Ver
 l:List Fl
def zjj:Ctr:=ctrP true (λp:GvA=>[verA p.s,flS p.l]) (λp=>p.s.length<2^30/\fitV p.s/\((flV p.s [] []).1.length<2^40)) (λp r=>(r=true↔(flV p.s [] [])=(p.l,0))) (λ_ (r:Bool)=>(.bool r,[]))
noncomputable def GGv:=tb zlc (tb zk8 tz)
abbrev q64(A:List AV)(x:FvA):Prop:=eqL A [.agg [.sl x.s.length 13 (verG x.s)],.agg [.sl x.f.length 3 (fxG x.f),.sl x.h.length 4 (chG x.h)]]/\List.length x.s<1073741824/\fitV x.s/\envP (FvA.f x,FvA.h x)
theorem Yg:zf prog 31 zjj:=by
 refine zh' f31 λp hp O w0 Q hq=> ?_
 obtain⟨s,l⟩:=p;obtain⟨h1,h2,h3⟩:=hp;simp only at h1 h2 h3 hq;refine zc.n GGv.h [] (.ex (q64 [.agg [.sl s.length 13 (verG s)],.agg [AV.nils,AV.nils]]) λn=>.all (λ(r:List Fl×Int)=>r=flV n.s n.f n.h) λn=>.ex (λ(x:List Fl×List Fl)=>decide (n.2=0)=true->eqL [.sl n.1.length 5 (flG n.1),.sl l.length 5 (flG l)] [.sl x.1.length 5 (flG x.1),.sl x.2.length 5 (flG x.2)]/\x.1.length<1099511627776) λn_1=>.all (λ(x:Bool)=>decide (n.2=0)=true->(x=true↔n_1.1=n_1.2)) λn_2=>.R [.bool (bif decide (n.2=0) then n_2 else false)] [.box [.sl s.length 13 (verG s)]]) ?_;simp only [q64,Tree.holds,zd];refine⟨⟨s,[],[]⟩,⟨⟨z7 _,by simp [envA,fxS,chS],trivial⟩,h1,h2,env0⟩,⟨_,rfl⟩,?_⟩;rintro _ rfl;simp only;generalize flV s [] []=m at h3 hq ⊢;refine⟨(m.1,l),λ_=>⟨⟨⟨rfl,rfl,za _ _ _⟩,⟨rfl,rfl,za _ _ _⟩,trivial⟩,h3⟩,(vk _).imp λ_ h _=>h,λb hb=> ?_⟩;refine RetR.scal (hq (bif decide (m.2=0) then b else false) ?_) rfl (by simp [resV]);simp only at hb;by_cases h0:m.2=0
 ·rw [aX h0,cond_true,hb (aX h0)];exact⟨λh=>by rw [<- h,<- h0],λh=>by rw [h]⟩
 ·rw [aW h0,cond_false];exact⟨λh=>(by cases h),λh=>absurd (by rw [h]) h0⟩
def zoh:Ctr:=ctrP true (λ_:Unit=>[]) (λ_=>True) (λ_ r=>r=true) (λ_ (r:Bool)=>(.bool r,[]))
noncomputable def GAv:=tb Qs (tb Yg (tb Y2 tz))
abbrev q65(A:List AV)(x:GvA):Prop:=eqL A [.agg [.sl x.s.length 13 (verG x.s)],.sl x.l.length 5 (flG x.l)]/\List.length x.s<1073741824/\fitV x.s/\List.length (Prod.fst (flV x.s [] []))<1099511627776
theorem zem:zf prog 9 zoh:=by
 refine zh' f9 λp hp O w0 Q hq=> ?_
 replace hq:=hq true rfl;refine zc.n GAv.h [] (.ex (q61 []) λn=>.A λn=>.ex (λ(x:Fl)=>true=true->q60 [.i 10,.str #[(65:UInt8),(110:UInt8),(110:UInt8)].toList,.str #[(66:UInt8),(111:UInt8),(98:UInt8)].toList,.str #[(49:UInt8)].toList] x) λn=>.all (λ(x:Unit)=>true=true->True) λn_1=>.ex (λ(x:Fl)=>true=true->q60 [.i 20,.str #[(66:UInt8),(111:UInt8),(98:UInt8)].toList,.str #[(65:UInt8),(110:UInt8),(110:UInt8)].toList,.str #[(55:UInt8)].toList] x) λn_2=>.all (λ(x:Unit)=>true=true->True) λn_3=>.ite true (.ex (λ(x:GvA)=>true=true->q65 [.agg [.sl 2 13 (verG exV)],.sl 2 5 (zg (zi 5 [.i n.date,.str n.src,.str n.dst,.str [(85:UInt8),(83:UInt8),(68:UInt8)],.str n.amt,.i n_2.date,.str n_2.src,.str n_2.dst,.str [(85:UInt8),(83:UInt8),(68:UInt8)],.str n_2.amt]) 0)] x) λn_4=>.all (λ(x:Bool)=>true=true->(x=true↔flV n_4.s [] []=(GvA.l n_4,(0:Int)))) λn_5=>.R [.bool (bif true then n_5 else false)] [.box [.sl 2 13 (verG exV)],.arr 2 5 (zi 5 [.i n.date,.str n.src,.str n.dst,.str [(85:UInt8),(83:UInt8),(68:UInt8)],.str n.amt,.i n_2.date,.str n_2.src,.str n_2.dst,.str [(85:UInt8),(83:UInt8),(68:UInt8)],.str n_2.amt])]) (.ex (λ(x:GvA)=>true=true->q65 [.agg [.sl 2 13 (verG exV)],AV.nils] x) λn=>.all (λ(x:Bool)=>true=true->(x=true↔flV n.s [] []=(GvA.l n,(0:Int)))) λn=>.R [.bool (bif true then n else false)] [.box [.sl 2 13 (verG exV)]])) ?_;simp only [q60,q61,q65,Tree.holds,zd]
 have fit:fitV exV:=λi hi=>by
  have:i=0\/i=1:=by have:i<2:=hi; omega
  rcases this with rfl | rfl
  ·exact Qa
  ·exact Wm
 refine⟨(),⟨trivial,trivial⟩,⟨(),trivial⟩,λ_ _=>⟨⟨10,sAnn,sBob,[],[49]⟩,λ_=>⟨⟨⟨rfl,rfl⟩,rfl,rfl,rfl,trivial⟩,trivial⟩,⟨(),λ_=>trivial⟩,λ_ _=>⟨⟨20,sBob,sAnn,[],[55]⟩,λ_=>⟨⟨⟨rfl,rfl⟩,rfl,rfl,rfl,trivial⟩,trivial⟩,⟨(),λ_=>trivial⟩,λ_ _=>⟨λ_=> ?_,λh=>(by cases h)⟩⟩⟩⟩;refine⟨⟨exV,[⟨10,sAnn,sBob,[85,83,68],[49]⟩,⟨20,sBob,sAnn,[85,83,68],[55]⟩]⟩,λ_=>⟨⟨z7 exV,⟨rfl,rfl,λj o hj ho=> ?_⟩,trivial⟩,by decide,fit,by rw [zp7]; decide⟩,(vk _).imp λ_ h _=>h,λb hb=> ?_⟩
 ·rcases(show j=0\/j=1 by omega) with rfl | rfl<;>rcases(show o=0\/o=1\/o=2\/o=3\/o=4 by omega) with rfl | rfl | rfl | rfl | rfl<;>rfl
 ·obtain rfl:b=true:=(hb trivial).2 zp7;exact RetR.scal hq rfl (by simp [resV])
noncomputable def K17:=Go.Sx.aA f17
def YN(s:List Ver):Prop:=s.length<2^40/\∀ i,(s.getD i Ver.nil).con.big<2^40
def zr7:Ctr:=ctrP true (λp:List Ver×List Ver=>[verA p.1,verA p.2]) (λp=>YN p.1) (λp r=>(r=true↔p.1=p.2)) (λ_ (r:Bool)=>(.bool r,[]))
noncomputable def GVs:=tb zl7 tz
def SVs(i:Nat):KV:=[(2,.ptr 0 0),(3,.ptr 1 0),(5,.i (i:Int)),Z 34,Z 35,Z 36,Z 37,Z 38,Z 39,Z 40,Z 41,Z 42,Z 43,Z 44,Z 45,Z 46,Z 47]
def HVs(s t:List Ver):Heap:=[.box [.sl s.length 13 (verG s)],.box [.sl t.length 13 (verG t)]]
theorem zgo:zf prog 17 zr7:=by
 refine zh' f17 λp hp O w0 Q hq=> ?_
 obtain⟨s,t⟩:=p;obtain⟨h1,h2⟩:=hp;simp only at h1 h2 hq;refine zc.n GVs.h [2,3,5,34,35,36,37,38,39,40,41,42,43,44,45,46,47] (let v1:List Blk:=[.box [.sl s.length 13 (verG s)],.box [.sl t.length 13 (verG t)]];.N ((s.length:Int)=t.length) (.R [.bool false] v1) (.leaf (.loop (lps K17 0).1 (lps K17 0).2 [(2,.ptr 0 0),(3,.ptr 1 0),(5,.i 0),Z 34,Z 35,Z 36,Z 37,Z 38,Z 39,Z 40,Z 41,Z 42,Z 43,Z 44,Z 45,Z 46,Z 47] v1))) ?_;simp only [Tree.holds,zd,inR,lo,hi,aD];refine⟨λh=> ?_,λh=> ?_⟩
 ·refine RetR.scal (hq false ⟨λh=>(by cases h),λhe=> ?_⟩) rfl (by simp [resV]);subst he;simp at h
 ·have hl:s.length=t.length:=by simp at h; omega
  refine zc.loop (ι:={i:Nat // i<=s.length/\∀ j,j<i->(s.getD j Ver.nil).day=(t.getD j Ver.nil).day/\(s.getD j Ver.nil).con=(t.getD j Ver.nil).con}) (λi=>SVs i.1) (λ_=>HVs s t) (λi=>s.length - i.1) ⟨0,aI _,λj hj=>by omega⟩ 0 ?_ ?_ (by kernel_rfl)
  ·exact⟨by simp [SVs],⟨⟨⟨rfl,rfl,za _ _ _⟩,trivial⟩,⟨⟨rfl,rfl,za _ _ _⟩,trivial⟩,trivial⟩,by kernel_rfl,aI _⟩
  ·rintro⟨i,hil,hib⟩;refine zc.n GVs.h [2,3,5,34,35,36,37,38,39,40,41,42,43,44,45,46,47] (let v4:=t.getD (i:Int).toNat Ver.nil;let v3:=s.getD (i:Int).toNat Ver.nil;let v2:List Blk:=[.box [.sl s.length 13 (verG s)],.box [.sl t.length 13 (verG t)]];let v1:=Ver.day v3=Ver.day v4;.D ((i:Int)<s.length) (.side ((0:Int)<=i/\(i:Int)<s.length) (.side ((0:Int)<=i/\(i:Int)<t.length) (.side ((!decide v1)=false->(0:Int)<=i/\(i:Int)<s.length) (.side ((!decide v1)=false->(0:Int)<=i/\(i:Int)<t.length) (.ex (λ(x:Con×Con)=>(!decide v1)=false->eqL [(Con.conD v3.con),(Con.conD v4.con)] [(Con.conA x.1),(Con.conA x.2)]/\Con.big x.1<1099511627776) λn=>.all (λ(x:Bool)=>(!decide v1)=false->(x=true↔n.1=n.2)) λn=>.ite (bif !decide v1 then true else !n) (.R [.bool false] v2) (.S (i+1) (.leaf (.back 0 [(2,.ptr 0 0),(3,.ptr 1 0),(5,.i (i+1)),Z 34,Z 35,Z 36,Z 37,Z 38,Z 39,Z 40,Z 41,Z 42,Z 43,Z 44,Z 45,Z 46,Z 47] v2)))))))) (.R [.bool true] v2)) ?_;simp only [Tree.holds,zd,inR,lo,hi,aD];refine⟨λhlt=> ?_,λhge=> ?_⟩
   ·have hlt:i<s.length:=by have:=aB hlt; omega
    refine⟨by omega,λ_=>⟨by omega,λ_=>⟨λ_=>by omega,λ_=>⟨λ_=>by omega,λ_=> ?_⟩⟩⟩⟩;refine⟨((s.getD i Ver.nil).con,(t.getD i Ver.nil).con),λ_=>⟨⟨jD _,jD _,trivial⟩,h2 i⟩,(vk _).imp λ_ h _=>h,λb hb=> ?_⟩;simp only at hb;by_cases hd:(s.getD i Ver.nil).day=(t.getD i Ver.nil).day
    ·have hb:=hb (by rw [aX hd]; rfl);rw [aX hd];cases b with
     | false=>
      refine⟨λ_=>RetR.scal (hq false ⟨λh=>(by cases h),λhe=> ?_⟩) rfl (by simp [resV]),λh=>(by cases h)⟩;have:=hb.2 (by rw [he]); cases this
     | true=>
      refine⟨λh=>(by cases h),λ_=>⟨by omega,λ_=> ?_⟩⟩;rw [aP trivial];refine⟨⟨i+1,hlt,λj hj=> ?_⟩,by show s.length - (i+1)<s.length - i; omega,by simp [SVs],⟨⟨⟨rfl,rfl,za _ _ _⟩,trivial⟩,⟨⟨rfl,rfl,za _ _ _⟩,trivial⟩,trivial⟩,by kernel_rfl,aI _⟩;rcases aR j i with g1 | g1
      ·exact hib j g1
      ·have:j=i:=by omega
       rw [this]; exact⟨hd,hb.1 rfl⟩
    ·rw [aW hd];refine⟨λ_=>RetR.scal (hq false ⟨λh=>(by cases h),λhe=> ?_⟩) rfl (by simp [resV]),λh=>(by cases h)⟩;rw [he] at hd; exact absurd rfl hd
   ·have hge:i=s.length:=by have:=aC hge; omega
    subst hge;exact RetR.scal (hq true ⟨λ_=>zfz hl hib,λ_=>rfl⟩) rfl (by simp [resV])
end Go.Proofs.Tryz
end
section
namespace Go.Sx
variable [Stat]
section
variable {O:Nat->Prop} {pin:Nat} {w0:World} {I0:List SE} {w:World} {σ:List SE} {P:Program} {st:St} {a:Act} {fn:Func} {Xp:List PanicEntry->Prop}
def zl4(K:List Nat)(h:Heap):Blk->Blk
 | .box cs=>.box (cs.map (k8 K h))
 | b=>b
def JW(K:List Nat)(h:Heap):Heap:=h.map (zl4 K h)
theorem Vr(i:Nat):∀ (K:List Nat) (h:Heap),(z9 K h)[i]?=(h[i]?).map λb=>K.foldl (λb i=>Vy i b) b
 | [],h=>by simp [z9]
 | j::K,h=>by
  rw [z9,Vr i K];simp only [aN,Option.map_map,List.foldl_cons];rfl
theorem Vb{b:Blk}(hb:∀ cs,b≠.box cs):∀ K:List Nat,K.foldl (λb i=>Vy i b) b=b
 | []=>rfl
 | j::K=>by
  have:Vy j b=b:=by
   cases b with
   | box cs=>exact absurd rfl (hb cs)
   | _=>rfl
  rw [List.foldl_cons,this,Vb hb K]
theorem zdu{h:Heap}(hg:Good O w σ)(hh:HRep (Own O σ) w σ h)(K:List Nat):HRep (Own O (frzS K σ)) w (frzS K σ) (j2 K (JW K h)):=by
 have h0:=kY hh K;refine⟨?_,h0.inj,h0.lt,λi e b he hb=> ?_⟩
 ·have:(j2 K (JW K h)).length=(j2 K (z9 K h)).length:=by
   have e1:(z9 K h).length=h.length:=by
    have:∀ (K:List Nat) (h:Heap),(z9 K h).length=h.length:=by
     intro K
     induction K with
     | nil=>intro h; rfl
     | cons j K ih=>intro h; rw [z9,ih]; simp
    exact this K h
   simp [j2,JW,e1]
  rw [this];exact h0.len
 ·rw [ju] at hb;simp only [JW,aN] at hb;cases hi:h[i]? with
  | none=>simp [hi] at hb
  | some b0=>
   simp only [hi,Option.map_some,aE] at hb;by_cases hk:K.contains i=true
   ·rw [aP hk] at hb; subst hb; trivial
   ·rw [aO hk] at hb
    have hget:(j2 K (z9 K h))[i]?=some (K.foldl (λb i=>Vy i b) b0):=by
     rw [ju,Vr,hi];simp only [Option.map_some];rw [aO hk]
    by_cases hx:∃ cs,b0 = .box cs
    ·obtain⟨cs,rfl⟩:=hx;subst hb
     have he':σ[i]?=some e:=by
      rw [qP] at he;cases hs:σ[i]? with
      | none=>simp [hs] at he
      | some f=>
       simp only [hs,Option.map_some,aE] at he;rw [aO (by simpa using hk)] at he;rw [he]
     have hb0:=hh.blk i e _ he' hi;simp only [zl4,BRep] at hb0 ⊢;obtain⟨ad,vs,el,h1,h2,h3,h4⟩:=hb0;exact⟨ad,vs,el,h1,h2,h3,wm (λa _ v hr=>ug hg hh hr) h4⟩
    ·have hflat:∀ cs,b0≠.box cs:=λcs he=>hx ⟨cs,he⟩
     have e2:zl4 K h b0=b0:=by
      cases b0 with
      | box cs=>exact absurd rfl (hflat cs)
      | _=>rfl
     rw [Vb hflat] at hget;rw [e2] at hb;subst hb;exact h0.blk i e _ he hget
def UY(K:List Nat)(st:St):St:=⟨st.tmps.map (k8 K st.heap),j2 K (JW K st.heap)⟩
theorem zkv(hm:Mod O pin w0 I0 w σ st a){K:List Nat}(hK:∀ i∈K,pin<=i)(hno:st.tmps.all q8=true):Mod O pin w0 I0 w (frzS K σ) (UY K st) a:=by
 have h1:=zm2 hm hK hno;exact⟨h1.good,zdu hm.good hm.hp K,h1.size,h1.tm,h1.df,h1.since,h1.lim⟩
theorem zc.zm9{M:Option Nat}{Hs:Nat->KV->Heap->Prop}{R:List AV->Heap->Prop}{k:List Item}{kv:KV}{h:Heap}(K:List Nat)(hK:∀ i∈K,pin<=i)(hno:(pk fn.ntmps kv).all q8=true)
  (H:zN Xp M P fn O pin w0 I0 Hs R k (mk fn.ntmps (zbr K h kv) (j2 K (JW K h)))):zN Xp M P fn O pin w0 I0 Hs R k (mk fn.ntmps kv h):=by
 intro w σ a hm;have h1:=zkv hm hK hno
 have e:UY K (mk fn.ntmps kv h)=mk fn.ntmps (zbr K h kv) (j2 K (JW K h)):=by
  simp only [UY,mk,pk,List.map_map];congr 1;apply List.map_congr_left;intro t _;simp only [Function.comp_apply,zjd]
 rw [e] at h1;exact H w _ a h1
end
end Go.Sx
end
section
namespace Go.Sx
variable [Stat]
section
variable {O:Nat->Prop} {pin:Nat} {w0:World} {I0:List SE} {P:Program} {fn:Func} {Xp:List PanicEntry->Prop}
theorem zc.wkH{M:Option Nat}{Hs:Nat->KV->Heap->Prop}{R:List AV->Heap->Prop}{k:List Item}{kv:KV}{h h':Heap}(hb:leHs h h')
  (H:zN Xp M P fn O pin w0 I0 Hs R k (mk fn.ntmps kv h')):zN Xp M P fn O pin w0 I0 Hs R k (mk fn.ntmps kv h):=by
 intro w σ a hm;have hl:=Jf hb;refine H w σ a ⟨hm.good,?_,hm.size,hm.tm,hm.df,hm.since,hm.lim⟩;have hh:HRep (Own O σ) w σ h:=hm.hp;refine⟨by show σ.length=h'.length; rw [hh.len,hl],hh.inj,hh.lt,λi e b he hb'=> ?_⟩;have hb':h'[i]?=some b:=hb'
 have hi:i<h.length:=by
  rw [<- hl];exact(aG.1 hb').1
 have h1:h[i]?=some h[i]:=aF hi;exact Zc hb h1 hb' _ _ _ _ (hh.blk i e _ he h1)
end
end Go.Sx
end
section
set_option maxRecDepth 100000
open Go Go.Sx Go.Proofs Go.Nov
namespace Go.Proofs.Tryz
attribute [local simp] eqKV eqA eqA0 eqH eqB eqL eqL0
def zs3:Ctr:=ctrP true (λ_:Unit=>[]) (λ_=>True) (λ_ r=>r=true) (λ_ (r:Bool)=>(.bool r,[]))
theorem zbc{n:Nat}{α:Type}{inp:α->List AV}{pre pre':α->Prop}{post:α->Bool->Prop}(h:zf prog n (ctrP true inp pre post λ_ (r:Bool)=>(.bool r,[])))(h1:∀ a,pre' a->pre a)(h2:∀ a,pre' a->post a true)(h3:∀ a b,pre' a->post a b->b=true):zf prog n (ctrP true inp pre' (λ_ (_:Unit)=>True) λ_ _=>(.bool true,[])):=by
 intro args hc Q hh hf;refine h args hc Q ?_ hf;cases hc with
 | nil=>
  obtain⟨x,⟨hx,hp⟩,_,hk⟩:=hh;refine⟨x,⟨hx,h1 x hp⟩,⟨true,h2 x hp⟩,λb hb=> ?_⟩;obtain rfl:=h3 x b hp hb;exact hk () trivial
 | cons b l=>exact hh.elim
def zb9:Ctr:=ctrP true (λ_:Unit=>[]) (λ_=>True) (λ_ (_:Unit)=>True) (λ_ _=>(.bool true,[]))
theorem U9:zf prog 9 zb9:=zbc zem (λ_ h=>h) (λ_ _=>rfl) (λ_ _ _ h=>h)
def zhw:Ctr:=ctrP true (λp:List Ver×List Ver=>[verA p.1,verA p.2]) (λp=>YN p.1/\p.1=p.2) (λ_ (_:Unit)=>True) (λ_ _=>(.bool true,[]))
theorem ze7:zf prog 17 zhw:=zbc zgo (λ_ h=>h.1) (λ_ h=>by simp [h.2]) (λ_ _ h g=>g.2 h.2)
def zke:Ctr:=ctrP true (λp:Con×Con=>[p.1.conA,p.2.conA]) (λp=>p.1.big<2^40/\p.1=p.2) (λ_ (_:Unit)=>True) (λ_ _=>(.bool true,[]))
theorem zdx:zf prog 13 zke:=zbc zjt (λ_ h=>h.1) (λ_ h=>by simp [h.2]) (λ_ _ h g=>g.2 h.2)
def zlt:Ctr:=ctrP true (λp:GvA=>[verA p.s,flS p.l]) (λp=>(p.s.length<2^30/\fitV p.s/\((flV p.s [] []).1.length<2^40))/\(flV p.s [] [])=(p.l,0)) (λ_ (_:Unit)=>True) (λ_ _=>(.bool true,[]))
theorem zdo:zf prog 31 zlt:=zbc Yg (λ_ h=>h.1) (λ_ h=>by simp [h.2]) (λ_ _ h g=>g.2 h.2)
def flVS:Ctr:={ flVC with sinks:=true }
theorem znk:zf prog 19 flVS:=zf.sink (c:=flVC) zlc
noncomputable def GAn:=tb Qs (tb zct (tb zby (tb znz (tb zt5 (tb znk (tb y2 (tb Y2 (tb YW (tb Xi (tb U9 (tb ze7 (tb zdx (tb zdo tz)))))))))))))
theorem Xy{a:AV}(c:Con)(d:Int){v:List Ver×Int}(ha:eqA a c.conA)(hf:fitC c)(hv:newV c d=v){p:Con×Int->List Ver×Int->Prop}(h:p (c,d) v):∃ n:Con×Int,(eqL [a,.i d] [n.1.conA,.i n.2]/\fitC n.1)/\(∃ r,r=newV n.1 n.2)/\∀ r,r=newV n.1 n.2->p n r:=
 ⟨(c,d),⟨⟨ha,⟨rfl,rfl⟩,trivial⟩,hf⟩,⟨_,rfl⟩,λr hr=>by rw [hr]; show p (c,d) (newV c d); rw [hv]; exact h⟩
theorem uo{a e:AV}(s:List Ver)(d:Int)(c:Con){v:List Ver×Int}(ha:eqA a (verA s))(he:eqA e c.conA)(hl:s.length<2^30)(hs:fitV s)(hf:fitC c)(hv:chgV s d c=v){p:List Ver×Int×Con->List Ver×Int->Prop}(h:p (s,d,c) v):∃ n:List Ver×Int×Con,(eqL [a,.i d,e] [verA n.1,.i n.2.1,n.2.2.conA]/\n.1.length<2^30/\fitV n.1/\fitC n.2.2)/\(∃ r,r=chgV n.1 n.2.1 n.2.2)/\∀ r,r=chgV n.1 n.2.1 n.2.2->p n r:=
 ⟨(s,d,c),⟨⟨ha,⟨rfl,rfl⟩,he,trivial⟩,hl,hs,hf⟩,⟨_,rfl⟩,λr hr=>by rw [hr]; show p (s,d,c) (chgV s d c); rw [hv]; exact h⟩
theorem zah{a:AV}(s:List Ver){v:List Ver×Int}(ha:eqA a (verA s))(hl:s.length<2^30)(hs:fitV s)(hv:undV s=v){p:List Ver->List Ver×Int->Prop}(h:p s v):∃ n:List Ver,(eqL [a] [verA n]/\n.length<2^30/\fitV n)/\(∃ r,r=undV n)/\∀ r,r=undV n->p n r:=
 ⟨s,⟨⟨ha,trivial⟩,hl,hs⟩,⟨_,rfl⟩,λr hr=>by rw [hr,hv]; exact h⟩
theorem XR{a:AV}(s:List Ver)(d:Int){v:Con×Int}(ha:eqA a (verA s))(hl:s.length<2^30)(hs:fitV s)(hv:atV s d=v){p:List Ver×Int->Con×Int->Prop}(h:p (s,d) v):∃ n:List Ver×Int,(eqL [a,.i d] [verA n.1,.i n.2]/\n.1.length<2^30/\fitV n.1)/\(∃ r,r=atV n.1 n.2)/\∀ r,r=atV n.1 n.2->p n r:=
 ⟨(s,d),⟨⟨ha,⟨rfl,rfl⟩,trivial⟩,hl,hs⟩,⟨_,rfl⟩,λr hr=>by rw [hr]; show p (s,d) (atV s d); rw [hv]; exact h⟩
theorem zkb{a b:AV}(s:List Ver)(f:List Fx){v:List Fl×Int}(ha:eqA a (verA s))(hb:eqA b (envA f []))(hl:s.length<2^30)(hs:fitV s)(hf:envP (f,[]))(hv:flV s f []=v){p:FvA->List Fl×Int->Prop}(h:p ⟨s,f,[]⟩ v):∃ n:FvA,(eqL [a,b] [verA n.s,envA n.f n.h]/\n.s.length<2^30/\fitV n.s/\envP (n.f,n.h))/\(∃ r,r=flV n.s n.f n.h)/\∀ r,r=flV n.s n.f n.h->p n r:=
 ⟨⟨s,f,[]⟩,⟨⟨ha,hb,trivial⟩,hl,hs,hf⟩,⟨_,rfl⟩,λr hr=>by rw [hr]; show p ⟨s,f,[]⟩ (flV s f []); rw [hv]; exact h⟩
theorem j4{A B:Prop}(a:A)(b:B):(∃ _:Bool,True)/\∀ n:Bool,True->(n=true->A)/\(n=false->B):=⟨⟨true,trivial⟩,λ_ _=>⟨λ_=>a,λ_=>b⟩⟩
theorem wk:eqA (.agg [.int .u8 1,.str [],.str [],.str [],.int .u8 0,.str [],.str [],.i 0,.nils,.i 0,.nils,.nils]) Tm.qO.conA:=by
 simp [Con.conA,Ex.exS,Con.dayS,Con.conS,Tm.qO,Con.kind,Con.src,Con.dst,Con.name,Con.x,Con.date,Con.days,Con.sub,Ex.kind,Ex.rat,Ex.name,Ex.date,Ex.sub]
theorem zk5:eqA (.agg [.int .u8 0,.str [],.str [],.str [],.int .u8 0,.str [],.str [],.i 0,.nils,.i 0,.nils,.nils]) Con.nil.conA:=by
 simp [Con.conA,Ex.exS,Con.dayS,Con.conS,Con.nil,Con.kind,Con.src,Con.dst,Con.name,Con.x,Con.date,Con.days,Con.sub,Ex.kind,Ex.rat,Ex.name,Ex.date,Ex.sub,Ex.nil]
def k99:Con:=.mk 99 [] [] [] Ex.nil 0 [] []
theorem zic:eqA (.agg [.int .u8 99,.str [],.str [],.str [],.int .u8 0,.str [],.str [],.i 0,.nils,.i 0,.nils,.nils]) k99.conA:=by
 simp [Con.conA,Ex.exS,Con.dayS,Con.conS,k99,Con.kind,Con.src,Con.dst,Con.name,Con.x,Con.date,Con.days,Con.sub,Ex.kind,Ex.rat,Ex.name,Ex.date,Ex.sub,Ex.nil]
def zph:L8:=[115,112,111,116]
def cMis:Con:=.mk 2 sAnn sBob [85,83,68] (.mk 3 [] zph 0 []) 0 [] []
theorem zg0:eqA (.agg [.int .u8 2,.str [65,110,110],.str [66,111,98],.str [85,83,68],.int .u8 3,.str [],.str [115,112,111,116],.i 0,.nils,.i 0,.nils,.nils]) cMis.conA:=by
 simp [Con.conA,Ex.exS,Con.dayS,Con.conS,cMis,sAnn,sBob,zph,Con.kind,Con.src,Con.dst,Con.name,Con.x,Con.date,Con.days,Con.sub,Ex.kind,Ex.rat,Ex.name,Ex.date,Ex.sub]
def bV:List Ver:=[⟨5,cE0⟩,⟨15,cE3⟩,⟨20,Tm.qO⟩]
def dV:List Ver:=[⟨5,cE0⟩]
def badV:List Ver:=[⟨5,Tm.qO⟩,⟨5,Tm.qO⟩]
def misV:List Ver:=[⟨3,cMis⟩]
def zsV(n:Nat):List Ver:=(List.range n).map λi:Nat=>⟨(i:Int),Tm.qO⟩
theorem Z5{n i:Nat}(h:i<n):(zsV n).getD i Ver.nil=⟨(i:Int),Tm.qO⟩:=by simp [zsV,List.getD,h]
theorem kQ(n:Nat):(zsV n).length=n:=by simp [zsV]
theorem zno(n:Nat):zsV n++[⟨(n:Int),Tm.qO⟩]=zsV (n+1):=by simp [zsV,List.range_succ]
theorem uJ:Tm.qO.errC=0:=by decide +kernel
theorem zij{n:Nat}(h1:1<=n)(h2:n<=100):okV (zsV n)=true:=by
 refine ziu (by rw [kQ]; exact h1) (by rw [kQ]; exact h2) λi hi=> ?_
 rw [kQ] at hi;rw [YM,Z5 hi,Z5 (show i - 1<n by omega)];refine⟨by simp only; omega,?_,uJ⟩;simp only;omega
theorem zrt{n:Nat}(h1:1<=n)(h2:n<100):chgV (zsV n) (n:Int) Tm.qO=(zsV (n+1),0):=by
 unfold chgV;have hd:vM (n:Int)=true:=by unfold vM; simp; omega
 rw [aO (λg=>g (w7.2 (zij h1 (by omega)))),aO (λg=>g uJ),aO (by rw [hd]; simp),kQ,Z5 (by omega),aO (by simp only; omega),aO (by omega),zno]
theorem zo9:newV Con.nil 100000=([],8):=by kernel_rfl
theorem zn2:newV Tm.qO 100000=([],2):=by kernel_rfl
theorem zoy:chgV exV 15 Tm.qO=([],40):=by kernel_rfl
theorem zn0:chgV exV (-1) Tm.qO=([],2):=by kernel_rfl
theorem zob:chgV exV 16 k99=([],8):=by kernel_rfl
theorem znr:chgV exV 20 Tm.qO=(bV,0):=by kernel_rfl
theorem zn6:undV bV=(exV,0):=by kernel_rfl
theorem zm1:undV exV=(dV,0):=by kernel_rfl
theorem zn7:undV dV=([],6):=by kernel_rfl
theorem zsj:atV exV 4=(Con.nil,6):=by kernel_rfl
theorem zs2:atV exV 14=(cE0,0):=by kernel_rfl
theorem zt7:atV exV 15=(cE3,0):=by kernel_rfl
theorem zt3:atV exV 100000=(Con.nil,2):=by kernel_rfl
theorem zro:atV badV (-1)=(Con.nil,8):=by kernel_rfl
theorem zsa:flV badV [] []=([],8):=by kernel_rfl
theorem zny:newV Tm.qO 0=(zsV 1,0):=by kernel_rfl
theorem znu:chgV (zsV 100) 100 Tm.qO=([],22):=by
 unfold chgV;rw [aO (λg=>g (w7.2 (zij (by decide) (by decide)))),aO (λg=>g uJ),aO (by decide),kQ,Z5 (by decide),aO (by decide),aP rfl]
theorem zmf:chgV (zsV 100) 99 Tm.qO=([],40):=by
 unfold chgV;rw [aO (λg=>g (w7.2 (zij (by decide) (by decide)))),aO (λg=>g uJ),aO (by decide),kQ,Z5 (by decide),aP (by decide)]
theorem zt1:flV exV [Fx.nil] []=([],8):=by kernel_rfl
theorem zn9:newV cMis 3=(misV,0):=by kernel_rfl
theorem zsr:flV misV [] []=([],30):=by kernel_rfl
def flX1:Fl:=⟨10,sAnn,sBob,[85,83,68],[49]⟩
def flX2:Fl:=⟨20,sAnn,sBob,[85,83,68],[50]⟩
theorem zkx:flV bV [] []=([flX1],0):=by kernel_rfl
theorem zlg:flV dV [] []=([flX1,flX2],0):=by kernel_rfl
theorem fitZ:fitC Tm.qO:=⟨by decide +kernel,by decide +kernel⟩
theorem fitN:fitC Con.nil:=⟨by decide +kernel,by decide +kernel⟩
theorem zun:fitC k99:=⟨by decide +kernel,by decide +kernel⟩
theorem fitM:fitC cMis:=⟨by decide +kernel,by decide +kernel⟩
theorem fitB:fitV bV:=λi hi=>by
 have:i=0\/i=1\/i=2:=by have:i<3:=hi; omega
 rcases this with rfl | rfl | rfl
 ·exact Qa
 ·exact Wm
 ·exact fitZ
theorem fitX:fitV exV:=λi hi=>fitB i (by have:i<2:=hi; show i<3; omega) |> λh=>by
 have:i=0\/i=1:=by have:i<2:=hi; omega
 rcases this with rfl | rfl
 ·exact Qa
 ·exact Wm
theorem fitD:fitV dV:=λi hi=>by
 have:i=0:=by have:i<1:=hi; omega
 subst this; exact Qa
theorem zaw:fitV badV:=λi hi=>by
 have:i=0\/i=1:=by have:i<2:=hi; omega
 rcases this with rfl | rfl<;>exact fitZ
theorem ztd:fitV misV:=λi hi=>by
 have:i=0:=by have:i<1:=hi; omega
 subst this; exact fitM
theorem zi0(n:Nat):fitV (zsV n):=λi hi=>by rw [kQ] at hi; rw [Z5 hi]; exact fitZ
theorem env1:envP ([Fx.nil],[]):=⟨by decide,by decide,λj hj=>by
 have:j=0:=by have:j<1:=hj; omega
 subst this; exact⟨by decide,by decide⟩,λj hj=>absurd hj (Nat.not_lt_zero _)⟩
theorem zcx:eqA (.agg [.nils,.nils]) (envA [] []):=by simp [envA,fxS,chS]
theorem zov:eqA (.agg [.sl 1 3 (zg (zi 3 [.str [],.i 0,.str []]) 0),.nils]) (envA [Fx.nil] []):=by
 refine⟨⟨rfl,rfl,λj o hj ho=> ?_⟩,by simp [chS],trivial⟩;obtain rfl:j=0:=by omega
 rcases(show o=0\/o=1\/o=2 by omega) with rfl | rfl | rfl<;>rfl
theorem zo2:LeB (.arr 2 13 (zi 13 [.i 5,.int .u8 1,.str [],.str [],.str [],.int .u8 0,.str [],.str [],.i 0,.nils,.i 0,.nils,.nils,.i 5,.int .u8 1,.str [],.str [],.str [],.int .u8 0,.str [],.str [],.i 0,.nils,.i 0,.nils,.nils])) (.arr 2 13 (verG badV)):=LeB.arr λj o hj ho=>by
 rcases(show j=0\/j=1 by omega) with rfl | rfl<;>rcases(show o=0\/o=1\/o=2\/o=3\/o=4\/o=5\/o=6\/o=7\/o=8\/o=9\/o=10\/o=11\/o=12 by omega) with rfl | rfl | rfl | rfl | rfl | rfl | rfl | rfl | rfl | rfl | rfl | rfl | rfl<;>first | exact LeA.refl _ | exact LeA.nils
theorem JN:eqA (.agg [.sl 2 13 (zg (verG badV) 0)]) (verA badV):=⟨⟨rfl,rfl,λj o _ _=>by simp only [zg,Nat.zero_add]⟩,trivial⟩
theorem zsb:eqG 1 5 (zg (zi 5 [.i 10,.str [65,110,110],.str [66,111,98],.str [85,83,68],.str [49]]) 0) (flG [flX1]):=by
 intro j o hj ho;rcases(show j=0 by omega) with rfl;rcases(show o=0\/o=1\/o=2\/o=3\/o=4 by omega) with rfl | rfl | rfl | rfl | rfl<;>rfl
theorem zsd:eqG 2 5 (zg (zi 5 [.i 10,.str [65,110,110],.str [66,111,98],.str [85,83,68],.str [49],.i 20,.str [65,110,110],.str [66,111,98],.str [85,83,68],.str [50]]) 0) (flG [flX1,flX2]):=by
 intro j o hj ho;rcases(show j=0\/j=1 by omega) with rfl | rfl<;>rcases(show o=0\/o=1\/o=2\/o=3\/o=4 by omega) with rfl | rfl | rfl | rfl | rfl<;>rfl
theorem zs4:cE0.big<2^40:=by decide +kernel
theorem zra:cE3.big<2^40:=by decide +kernel
theorem wB:YN exV:=⟨by decide,λi=>by
 by_cases h:i<exV.length
 ·have:=fitX i h; omega
 ·have:exV.getD i Ver.nil=Ver.nil:=by simp [List.getD,h]
  rw [this]; decide⟩
theorem zi9:errV badV=8:=by kernel_rfl
theorem zi8:errV []=8:=by kernel_rfl
theorem zlx:eqA (.agg [.nils]) (verA []):=by simp [verA]
noncomputable def LNa0:List Go.Sx.Item:=jk 40 (f8.body.getD .skip)
noncomputable def LNa2:List Go.Sx.Item:=LNa0.drop 2
noncomputable def LNa3:List Go.Sx.Item:=LNa0.drop 3
noncomputable def LNa4:List Go.Sx.Item:=LNa0.drop 4
noncomputable def LNa5:List Go.Sx.Item:=LNa0.drop 5
noncomputable def LNa6:List Go.Sx.Item:=LNa0.drop 6
noncomputable def LNa7:List Go.Sx.Item:=LNa0.drop 7
noncomputable def LNa8:List Go.Sx.Item:=LNa0.drop 8
noncomputable def LNa9:List Go.Sx.Item:=LNa0.drop 9
noncomputable def zr4:List Go.Sx.Item:=LNa0.drop 10
noncomputable def zpf:List Go.Sx.Item:=LNa0.drop 11
noncomputable def zpa:List Go.Sx.Item:=LNa0.drop 12
noncomputable def zpd:List Go.Sx.Item:=LNa0.drop 13
noncomputable def zq7:List Go.Sx.Item:=LNa0.drop 14
noncomputable def zqn:List Go.Sx.Item:=LNa0.drop 15
noncomputable def zqc:List Go.Sx.Item:=LNa0.drop 16
noncomputable def zg1:List Go.Sx.Item:=LNa0.drop 17
noncomputable def zr5:List Go.Sx.Item:=LNa0.drop 18
noncomputable def zqp:List Go.Sx.Item:=LNa0.drop 19
noncomputable def Kk:List Go.Sx.Item:=LNa0.drop 20
noncomputable def zpq:List Go.Sx.Item:=LNa0.drop 21
noncomputable def zqi:List Go.Sx.Item:=LNa0.drop 22
noncomputable def zp8:List Go.Sx.Item:=LNa0.drop 23
noncomputable def zr0:List Go.Sx.Item:=LNa0.drop 24
noncomputable def zpe:List Go.Sx.Item:=LNa0.drop 25
noncomputable def zpl:List Go.Sx.Item:=LNa0.drop 26
noncomputable def zqf:List Go.Sx.Item:=LNa0.drop 27
noncomputable def zu4:List Go.Sx.Item:=LNa0.drop 28
def SNa2:KV:=[(0,.bool false),(1,.ptr 0 0)]
def HNa2:Heap:=[.box [.sl 2 13 (verG exV)]]
def SNa3:KV:=[(0,.bool false),(1,.ptr 0 0),(3,.ptr 1 0)]
def HNa3:Heap:=[.box [.sl 2 13 (verG exV)],.box [.int .u8 1,.str [],.str [],.str [],.int .u8 0,.str [],.str [],.i 0,.nils,.i 0,.nils,.nils]]
def SNa4:KV:=[(0,.bool false),(1,.ptr 0 0),(3,.ptr 1 0),(5,.i 8)]
def HNa4:Heap:=[.box [.sl 2 13 (verG exV)],.box [.int .u8 1,.str [],.str [],.str [],.int .u8 0,.str [],.str [],.i 0,.nils,.i 0,.nils,.nils]]
def SNa5:KV:=[(0,.bool false),(1,.ptr 0 0),(3,.ptr 1 0),(5,.i 8),(7,.i 2)]
def HNa5:Heap:=[.box [.sl 2 13 (verG exV)],.box [.int .u8 1,.str [],.str [],.str [],.int .u8 0,.str [],.str [],.i 0,.nils,.i 0,.nils,.nils]]
def SNa6:KV:=[(0,.bool false),(1,.ptr 0 0),(3,.ptr 1 0),(5,.i 8),(7,.i 2),(9,.i 40)]
def HNa6:Heap:=[.box [.sl 2 13 (verG exV)],.box [.int .u8 1,.str [],.str [],.str [],.int .u8 0,.str [],.str [],.i 0,.nils,.i 0,.nils,.nils]]
def SNa7:KV:=[(0,.bool false),(1,.ptr 0 0),(3,.ptr 1 0),(5,.i 8),(7,.i 2),(9,.i 40),(11,.i 2)]
def HNa7:Heap:=[.box [.sl 2 13 (verG exV)],.box [.int .u8 1,.str [],.str [],.str [],.int .u8 0,.str [],.str [],.i 0,.nils,.i 0,.nils,.nils]]
def SNa8:KV:=[(0,.bool false),(1,.ptr 0 0),(3,.ptr 1 0),(5,.i 8),(7,.i 2),(9,.i 40),(11,.i 2),(13,.i 8)]
def HNa8:Heap:=[.box [.sl 2 13 (verG exV)],.box [.int .u8 1,.str [],.str [],.str [],.int .u8 0,.str [],.str [],.i 0,.nils,.i 0,.nils,.nils]]
def SNa9:KV:=[(0,.bool false),(1,.ptr 0 0),(3,.ptr 1 0),(5,.i 8),(7,.i 2),(9,.i 40),(11,.i 2),(13,.i 8),(14,.ptr 2 0),(15,.i 0)]
def HNa9:Heap:=[.box [.sl 2 13 (verG exV)],.box [.int .u8 1,.str [],.str [],.str [],.int .u8 0,.str [],.str [],.i 0,.nils,.i 0,.nils,.nils],.box [.sl 3 13 (verG bV)]]
def zpk:KV:=[(0,.bool false),(1,.ptr 0 0),(3,.ptr 1 0),(5,.i 8),(7,.i 2),(9,.i 40),(11,.i 2),(13,.i 8),(14,.ptr 2 0),(15,.i 0),(16,.ptr 3 0),(17,.i 0)]
def zu2:Heap:=[.box [.sl 2 13 (verG exV)],.box [.int .u8 1,.str [],.str [],.str [],.int .u8 0,.str [],.str [],.i 0,.nils,.i 0,.nils,.nils],.box [.sl 3 13 (verG bV)],.box [.sl 2 13 (verG exV)]]
def zqu:KV:=[(0,.bool false),(1,.ptr 0 0),(3,.ptr 1 0),(5,.i 8),(7,.i 2),(9,.i 40),(11,.i 2),(13,.i 8),(14,.ptr 2 0),(15,.i 0),(16,.ptr 3 0),(17,.i 0),(18,.ptr 4 0),(19,.i 0)]
def zui:Heap:=[.box [.sl 2 13 (verG exV)],.box [.int .u8 1,.str [],.str [],.str [],.int .u8 0,.str [],.str [],.i 0,.nils,.i 0,.nils,.nils],.box [.sl 3 13 (verG bV)],.box [.sl 2 13 (verG exV)],.box [.sl 1 13 (verG dV)]]
def zpt:KV:=[(0,.bool false),(1,.ptr 0 0),(3,.ptr 1 0),(5,.i 8),(7,.i 2),(9,.i 40),(11,.i 2),(13,.i 8),(14,.ptr 2 0),(15,.i 0),(16,.ptr 3 0),(17,.i 0),(18,.ptr 4 0),(19,.i 0),(21,.i 6)]
def ztr:Heap:=[.box [.sl 2 13 (verG exV)],.box [.int .u8 1,.str [],.str [],.str [],.int .u8 0,.str [],.str [],.i 0,.nils,.i 0,.nils,.nils],.box [.sl 3 13 (verG bV)],.box [.sl 2 13 (verG exV)],.box [.sl 1 13 (verG dV)]]
def zqr:KV:=[(0,.bool false),(1,.ptr 0 0),(3,.ptr 1 0),(5,.i 8),(7,.i 2),(9,.i 40),(11,.i 2),(13,.i 8),(14,.ptr 2 0),(15,.i 0),(16,.ptr 3 0),(17,.i 0),(18,.ptr 4 0),(19,.i 0),(21,.i 6),(23,.i 6)]
def zts:Heap:=[.box [.sl 2 13 (verG exV)],.box [.int .u8 1,.str [],.str [],.str [],.int .u8 0,.str [],.str [],.i 0,.nils,.i 0,.nils,.nils],.box [.sl 3 13 (verG bV)],.box [.sl 2 13 (verG exV)],.box [.sl 1 13 (verG dV)]]
def zpy:KV:=[(0,.bool false),(1,.ptr 0 0),(3,.ptr 1 0),(5,.i 8),(7,.i 2),(9,.i 40),(11,.i 2),(13,.i 8),(14,.ptr 2 0),(15,.i 0),(16,.ptr 3 0),(17,.i 0),(18,.ptr 4 0),(19,.i 0),(21,.i 6),(23,.i 6),(24,.ptr 5 0),(25,.i 0)]
def zuy:Heap:=[.box [.sl 2 13 (verG exV)],.box [.int .u8 1,.str [],.str [],.str [],.int .u8 0,.str [],.str [],.i 0,.nils,.i 0,.nils,.nils],.box [.sl 3 13 (verG bV)],.box [.sl 2 13 (verG exV)],.box [.sl 1 13 (verG dV)],.box cE0.zp]
def zpw:KV:=[(0,.bool false),(1,.ptr 0 0),(3,.ptr 1 0),(5,.i 8),(7,.i 2),(9,.i 40),(11,.i 2),(13,.i 8),(14,.ptr 2 0),(15,.i 0),(16,.ptr 3 0),(17,.i 0),(18,.ptr 4 0),(19,.i 0),(21,.i 6),(23,.i 6),(24,.ptr 5 0),(25,.i 0),(26,.ptr 6 0),(27,.i 0)]
def zuu:Heap:=[.box [.sl 2 13 (verG exV)],.box [.int .u8 1,.str [],.str [],.str [],.int .u8 0,.str [],.str [],.i 0,.nils,.i 0,.nils,.nils],.box [.sl 3 13 (verG bV)],.box [.sl 2 13 (verG exV)],.box [.sl 1 13 (verG dV)],.box cE0.zp,.box cE3.zp]
def zpn:KV:=[(0,.bool false),(1,.ptr 0 0),(3,.ptr 1 0),(5,.i 8),(7,.i 2),(9,.i 40),(11,.i 2),(13,.i 8),(14,.ptr 2 0),(15,.i 0),(16,.ptr 3 0),(17,.i 0),(18,.ptr 4 0),(19,.i 0),(21,.i 6),(23,.i 6),(24,.ptr 5 0),(25,.i 0),(26,.ptr 6 0),(27,.i 0),(29,.i 2)]
def zu8:Heap:=[.box [.sl 2 13 (verG exV)],.box [.int .u8 1,.str [],.str [],.str [],.int .u8 0,.str [],.str [],.i 0,.nils,.i 0,.nils,.nils],.box [.sl 3 13 (verG bV)],.box [.sl 2 13 (verG exV)],.box [.sl 1 13 (verG dV)],.box cE0.zp,.box cE3.zp]
def ziq:KV:=[(0,.bool false),(1,.ptr 0 0),(3,.ptr 1 0),(5,.i 8),(7,.i 2),(9,.i 40),(11,.i 2),(13,.i 8),(14,.ptr 2 0),(15,.i 0),(16,.ptr 3 0),(17,.i 0),(18,.ptr 4 0),(19,.i 0),(21,.i 6),(23,.i 6),(24,.ptr 5 0),(25,.i 0),(26,.ptr 6 0),(27,.i 0),(29,.i 2),(30,.ptr 8 0)]
def zu5:Heap:=[.box [.sl 2 13 (verG exV)],.box [.int .u8 1,.str [],.str [],.str [],.int .u8 0,.str [],.str [],.i 0,.nils,.i 0,.nils,.nils],.box [.sl 3 13 (verG bV)],.box [.sl 2 13 (verG exV)],.box [.sl 1 13 (verG dV)],.box cE0.zp,.box cE3.zp,.arr 2 13 (zi 13 [.i 5,.int .u8 1,.str [],.str [],.str [],.int .u8 0,.str [],.str [],.i 0,.nils,.i 0,.nils,.nils,.i 5,.int .u8 1,.str [],.str [],.str [],.int .u8 0,.str [],.str [],.i 0,.nils,.i 0,.nils,.nils]),.box [.osl 7 13 0 2]]
def zpc:KV:=[(0,.bool false),(1,.ptr 0 0),(3,.ptr 1 0),(5,.i 8),(7,.i 2),(9,.i 40),(11,.i 2),(13,.i 8),(14,.ptr 2 0),(15,.i 0),(16,.ptr 3 0),(17,.i 0),(18,.ptr 4 0),(19,.i 0),(21,.i 6),(23,.i 6),(24,.ptr 5 0),(25,.i 0),(26,.ptr 6 0),(27,.i 0),(29,.i 2),(30,.ptr 8 0),(32,.i 8)]
def ztz:Heap:=[.box [.sl 2 13 (verG exV)],.box [.int .u8 1,.str [],.str [],.str [],.int .u8 0,.str [],.str [],.i 0,.nils,.i 0,.nils,.nils],.box [.sl 3 13 (verG bV)],.box [.sl 2 13 (verG exV)],.box [.sl 1 13 (verG dV)],.box cE0.zp,.box cE3.zp,.dead,.box [.sl 2 13 (zg (verG badV) 0)]]
def zqh:KV:=[(0,.bool false),(1,.ptr 0 0),(3,.ptr 1 0),(5,.i 8),(7,.i 2),(9,.i 40),(11,.i 2),(13,.i 8),(14,.ptr 2 0),(15,.i 0),(16,.ptr 3 0),(17,.i 0),(18,.ptr 4 0),(19,.i 0),(21,.i 6),(23,.i 6),(24,.ptr 5 0),(25,.i 0),(26,.ptr 6 0),(27,.i 0),(29,.i 2),(30,.ptr 8 0),(32,.i 8),(34,.i 8)]
def zuw:Heap:=[.box [.sl 2 13 (verG exV)],.box [.int .u8 1,.str [],.str [],.str [],.int .u8 0,.str [],.str [],.i 0,.nils,.i 0,.nils,.nils],.box [.sl 3 13 (verG bV)],.box [.sl 2 13 (verG exV)],.box [.sl 1 13 (verG dV)],.box cE0.zp,.box cE3.zp,.dead,.box [.sl 2 13 (zg (verG badV) 0)]]
def zq0:KV:=[(0,.bool false),(1,.ptr 0 0),(3,.ptr 1 0),(5,.i 8),(7,.i 2),(9,.i 40),(11,.i 2),(13,.i 8),(14,.ptr 2 0),(15,.i 0),(16,.ptr 3 0),(17,.i 0),(18,.ptr 4 0),(19,.i 0),(21,.i 6),(23,.i 6),(24,.ptr 5 0),(25,.i 0),(26,.ptr 6 0),(27,.i 0),(29,.i 2),(30,.ptr 8 0),(32,.i 8),(34,.i 8),(35,.ptr 9 0),(36,.i 0)]
def zum:Heap:=[.box [.sl 2 13 (verG exV)],.box [.int .u8 1,.str [],.str [],.str [],.int .u8 0,.str [],.str [],.i 0,.nils,.i 0,.nils,.nils],.box [.sl 3 13 (verG bV)],.box [.sl 2 13 (verG exV)],.box [.sl 1 13 (verG dV)],.box cE0.zp,.box cE3.zp,.dead,.box [.sl 2 13 (zg (verG badV) 0)],.box [.sl (zsV 1).length 13 (verG (zsV 1))]]
def zqo:KV:=[(0,.bool false),(1,.ptr 0 0),(3,.ptr 1 0),(5,.i 8),(7,.i 2),(9,.i 40),(11,.i 2),(13,.i 8),(14,.ptr 2 0),(15,.i 0),(16,.ptr 3 0),(17,.i 0),(18,.ptr 4 0),(19,.i 0),(21,.i 6),(23,.i 6),(24,.ptr 5 0),(25,.i 0),(26,.ptr 6 0),(27,.i 0),(29,.i 2),(30,.ptr 8 0),(32,.i 8),(34,.i 8),(35,.ptr 9 0),(36,.i 0),Z 37]
def zud:Heap:=[.box [.sl 2 13 (verG exV)],.box [.int .u8 1,.str [],.str [],.str [],.int .u8 0,.str [],.str [],.i 0,.nils,.i 0,.nils,.nils],.box [.sl 3 13 (verG bV)],.box [.sl 2 13 (verG exV)],.box [.sl 1 13 (verG dV)],.box cE0.zp,.box cE3.zp,.dead,.box [.sl 2 13 (zg (verG badV) 0)],.box [.sl (zsV 100).length 13 (verG (zsV 100))]]
def zq4:KV:=[(0,.bool false),(1,.ptr 0 0),(3,.ptr 1 0),(5,.i 8),(7,.i 2),(9,.i 40),(11,.i 2),(13,.i 8),(14,.ptr 2 0),(15,.i 0),(16,.ptr 3 0),(17,.i 0),(18,.ptr 4 0),(19,.i 0),(21,.i 6),(23,.i 6),(24,.ptr 5 0),(25,.i 0),(26,.ptr 6 0),(27,.i 0),(29,.i 2),(30,.ptr 8 0),(32,.i 8),(34,.i 8),(35,.ptr 9 0),(36,.i 0),(41,.i 22)]
def zty:Heap:=[.box [.sl 2 13 (verG exV)],.box [.int .u8 1,.str [],.str [],.str [],.int .u8 0,.str [],.str [],.i 0,.nils,.i 0,.nils,.nils],.box [.sl 3 13 (verG bV)],.box [.sl 2 13 (verG exV)],.box [.sl 1 13 (verG dV)],.box cE0.zp,.box cE3.zp,.dead,.box [.sl 2 13 (zg (verG badV) 0)],.box [.sl (zsV 100).length 13 (verG (zsV 100))]]
def zqx:KV:=[(0,.bool false),(1,.ptr 0 0),(3,.ptr 1 0),(5,.i 8),(7,.i 2),(9,.i 40),(11,.i 2),(13,.i 8),(14,.ptr 2 0),(15,.i 0),(16,.ptr 3 0),(17,.i 0),(18,.ptr 4 0),(19,.i 0),(21,.i 6),(23,.i 6),(24,.ptr 5 0),(25,.i 0),(26,.ptr 6 0),(27,.i 0),(29,.i 2),(30,.ptr 8 0),(32,.i 8),(34,.i 8),(35,.ptr 9 0),(36,.i 0),(41,.i 22),(43,.i 40)]
def zuc:Heap:=[.box [.sl 2 13 (verG exV)],.box [.int .u8 1,.str [],.str [],.str [],.int .u8 0,.str [],.str [],.i 0,.nils,.i 0,.nils,.nils],.box [.sl 3 13 (verG bV)],.box [.sl 2 13 (verG exV)],.box [.sl 1 13 (verG dV)],.box cE0.zp,.box cE3.zp,.dead,.box [.sl 2 13 (zg (verG badV) 0)],.box [.sl (zsV 100).length 13 (verG (zsV 100))]]
def zpg:KV:=[(0,.bool false),(1,.ptr 0 0),(3,.ptr 1 0),(5,.i 8),(7,.i 2),(9,.i 40),(11,.i 2),(13,.i 8),(14,.ptr 2 0),(15,.i 0),(16,.ptr 3 0),(17,.i 0),(18,.ptr 4 0),(19,.i 0),(21,.i 6),(23,.i 6),(24,.ptr 5 0),(25,.i 0),(26,.ptr 6 0),(27,.i 0),(29,.i 2),(30,.ptr 8 0),(32,.i 8),(34,.i 8),(35,.ptr 9 0),(36,.i 0),(41,.i 22),(43,.i 40),(45,.i 8)]
def zug:Heap:=[.box [.sl 2 13 (verG exV)],.box [.int .u8 1,.str [],.str [],.str [],.int .u8 0,.str [],.str [],.i 0,.nils,.i 0,.nils,.nils],.box [.sl 3 13 (verG bV)],.box [.sl 2 13 (verG exV)],.box [.sl 1 13 (verG dV)],.box cE0.zp,.box cE3.zp,.dead,.box [.sl 2 13 (zg (verG badV) 0)],.box [.sl (zsV 100).length 13 (verG (zsV 100))]]
def zq2:KV:=[(0,.bool false),(1,.ptr 0 0),(3,.ptr 1 0),(5,.i 8),(7,.i 2),(9,.i 40),(11,.i 2),(13,.i 8),(14,.ptr 2 0),(15,.i 0),(16,.ptr 3 0),(17,.i 0),(18,.ptr 4 0),(19,.i 0),(21,.i 6),(23,.i 6),(24,.ptr 5 0),(25,.i 0),(26,.ptr 6 0),(27,.i 0),(29,.i 2),(30,.ptr 8 0),(32,.i 8),(34,.i 8),(35,.ptr 9 0),(36,.i 0),(41,.i 22),(43,.i 40),(45,.i 8),(46,.ptr 10 0)]
def zu3:Heap:=[.box [.sl 2 13 (verG exV)],.box [.int .u8 1,.str [],.str [],.str [],.int .u8 0,.str [],.str [],.i 0,.nils,.i 0,.nils,.nils],.box [.sl 3 13 (verG bV)],.box [.sl 2 13 (verG exV)],.box [.sl 1 13 (verG dV)],.box cE0.zp,.box cE3.zp,.dead,.box [.sl 2 13 (zg (verG badV) 0)],.box [.sl (zsV 100).length 13 (verG (zsV 100))],.box [.sl 1 13 (verG misV)]]
def zqq:KV:=[(0,.bool false),(1,.ptr 0 0),(3,.ptr 1 0),(5,.i 8),(7,.i 2),(9,.i 40),(11,.i 2),(13,.i 8),(14,.ptr 2 0),(15,.i 0),(16,.ptr 3 0),(17,.i 0),(18,.ptr 4 0),(19,.i 0),(21,.i 6),(23,.i 6),(24,.ptr 5 0),(25,.i 0),(26,.ptr 6 0),(27,.i 0),(29,.i 2),(30,.ptr 8 0),(32,.i 8),(34,.i 8),(35,.ptr 9 0),(36,.i 0),(41,.i 22),(43,.i 40),(45,.i 8),(46,.ptr 10 0),(49,.i 30)]
def zub:Heap:=[.box [.sl 2 13 (verG exV)],.box [.int .u8 1,.str [],.str [],.str [],.int .u8 0,.str [],.str [],.i 0,.nils,.i 0,.nils,.nils],.box [.sl 3 13 (verG bV)],.box [.sl 2 13 (verG exV)],.box [.sl 1 13 (verG dV)],.box cE0.zp,.box cE3.zp,.dead,.box [.sl 2 13 (zg (verG badV) 0)],.box [.sl (zsV 100).length 13 (verG (zsV 100))],.box [.sl 1 13 (verG misV)]]
def zpi:KV:=[(0,.bool false),(1,.ptr 0 0),(3,.ptr 1 0),(5,.i 8),(7,.i 2),(9,.i 40),(11,.i 2),(13,.i 8),(14,.ptr 2 0),(15,.i 0),(16,.ptr 3 0),(17,.i 0),(18,.ptr 4 0),(19,.i 0),(21,.i 6),(23,.i 6),(24,.ptr 5 0),(25,.i 0),(26,.ptr 6 0),(27,.i 0),(29,.i 2),(30,.ptr 8 0),(32,.i 8),(34,.i 8),(35,.ptr 9 0),(36,.i 0),(41,.i 22),(43,.i 40),(45,.i 8),(46,.ptr 10 0),(49,.i 30),(50,.bool true)]
def zuv:Heap:=[.box [.sl 2 13 (verG exV)],.box [.int .u8 1,.str [],.str [],.str [],.int .u8 0,.str [],.str [],.i 0,.nils,.i 0,.nils,.nils],.box [.sl 3 13 (verG bV)],.box [.sl 2 13 (verG exV)],.box [.sl 1 13 (verG dV)],.box cE0.zp,.box cE3.zp,.dead,.box [.sl 2 13 (zg (verG badV) 0)],.box [.sl (zsV 100).length 13 (verG (zsV 100))],.box [.sl 1 13 (verG misV)]]
def zqg:KV:=[(0,.bool false),(1,.ptr 0 0),(3,.ptr 1 0),(5,.i 8),(7,.i 2),(9,.i 40),(11,.i 2),(13,.i 8),(14,.ptr 2 0),(15,.i 0),(16,.ptr 3 0),(17,.i 0),(18,.ptr 4 0),(19,.i 0),(21,.i 6),(23,.i 6),(24,.ptr 5 0),(25,.i 0),(26,.ptr 6 0),(27,.i 0),(29,.i 2),(30,.ptr 8 0),(32,.i 8),(34,.i 8),(35,.ptr 9 0),(36,.i 0),(41,.i 22),(43,.i 40),(45,.i 8),(46,.ptr 10 0),(49,.i 30),(50,.bool true),(51,.bool true)]
def zu7:Heap:=[.box [.sl 2 13 (verG exV)],.box [.int .u8 1,.str [],.str [],.str [],.int .u8 0,.str [],.str [],.i 0,.nils,.i 0,.nils,.nils],.box [.sl 3 13 (verG bV)],.box [.sl 2 13 (verG exV)],.box [.sl 1 13 (verG dV)],.box cE0.zp,.box cE3.zp,.dead,.box [.sl 2 13 (zg (verG badV) 0)],.box [.sl (zsV 100).length 13 (verG (zsV 100))],.box [.sl 1 13 (verG misV)]]
def zus:Heap:=[.box [.sl 2 13 (verG exV)],.box [.int .u8 1,.str [],.str [],.str [],.int .u8 0,.str [],.str [],.i 0,.nils,.i 0,.nils,.nils],.box [.sl 3 13 (verG bV)],.box [.sl 2 13 (verG exV)],.box [.sl 1 13 (verG dV)],.box cE0.zp,.box cE3.zp,.arr 2 13 (verG badV),.box [.osl 7 13 0 2]]
def zuq:Heap:=[.box [.sl 2 13 (verG exV)],.box [.int .u8 1,.str [],.str [],.str [],.int .u8 0,.str [],.str [],.i 0,.nils,.i 0,.nils,.nils],.box [.sl 3 13 (verG bV)],.box [.sl 2 13 (verG exV)],.box [.sl 1 13 (verG dV)],.box cE0.zp,.box cE3.zp,.dead,.box [.sl 2 13 (zg (verG badV) 0)]]
def SNx(x:Nat):KV:=[(0,.bool false),(1,.ptr 0 0),(3,.ptr 1 0),(5,.i 8),(7,.i 2),(9,.i 40),(11,.i 2),(13,.i 8),(14,.ptr 2 0),(15,.i 0),(16,.ptr 3 0),(17,.i 0),(18,.ptr 4 0),(19,.i 0),(21,.i 6),(23,.i 6),(24,.ptr 5 0),(25,.i 0),(26,.ptr 6 0),(27,.i 0),(29,.i 2),(30,.ptr 8 0),(32,.i 8),(34,.i 8),(35,.ptr 9 0),(36,.i 0),(37,.i (x:Int))]
def HNx(x:Nat):Heap:=[.box [.sl 2 13 (verG exV)],.box [.int .u8 1,.str [],.str [],.str [],.int .u8 0,.str [],.str [],.i 0,.nils,.i 0,.nils,.nils],.box [.sl 3 13 (verG bV)],.box [.sl 2 13 (verG exV)],.box [.sl 1 13 (verG dV)],.box cE0.zp,.box cE3.zp,.dead,.box [.sl 2 13 (zg (verG badV) 0)],.box [.sl (zsV x).length 13 (verG (zsV x))]]
abbrev q70(A:List AV)(x:Con×Con):Prop:=eqL A [(Con.conA x.1),(Con.conA x.2)]/\Con.big x.1<1099511627776/\x.1=x.2
abbrev q69(A:List AV)(x:List Ver×List Ver):Prop:=eqL A [.agg [.sl x.1.length 13 (verG x.1)],.agg [.sl x.2.length 13 (verG x.2)]]/\YN x.1/\x.1=x.2
abbrev q68(A:List AV)(x:GvA):Prop:=eqL A [.agg [.sl x.s.length 13 (verG x.s)],.sl x.l.length 5 (flG x.l)]/\(List.length x.s<1073741824/\fitV x.s/\List.length (Prod.fst (flV x.s [] []))<1099511627776)/\flV x.s [] []=(GvA.l x,(0:Int))
abbrev q67(A:List AV)(x:List Ver×Int):Prop:=eqL A [.agg [.sl x.1.length 13 (verG x.1)],.i x.2]/\x.1.length<1073741824/\fitV x.1
abbrev q66(A:List AV)(x:List Ver):Prop:=eqL A [.agg [.sl x.length 13 (verG x)]]/\x.length<1073741824/\fitV x
theorem zib:zf prog 8 zs3:=by
 refine zh' f8 λp hp O w0 Q hq=> ?_
 replace hq:=hq true rfl;refine zc.spine 40 ?_;refine zc.cutL (ι:=Unit) LNa0 2 0 (λ_=>SNa2) (λ_=>HNa2) (by kernel_rfl) (by kernel_rfl) ?_ λ_=> ?_
 ·refine zc.n GAn.h [0,1] (.ex (q61 []) λn=>.A λn=>.leaf (.back 0 [(0,.bool false),(1,.ptr 0 0)] [.box [.sl 2 13 (verG exV)]])) ?_;simp only [q61,Tree.holds,zd];refine⟨(),⟨trivial,trivial⟩,⟨(),trivial⟩,λ_ _=> ?_⟩
  repeat' apply j4
  all_goals rw [aP trivial]
  all_goals exact⟨(),by simp [SNa2],⟨zb _,trivial⟩,by kernel_rfl,aI _⟩
 show zB none prog f8 O 0 w0 [] _ _ LNa2 _;refine zc.cutL (ι:=Unit) LNa2 1 0 (λ_=>SNa3) (λ_=>HNa3) (by kernel_rfl) (by kernel_rfl) ?_ λ_=> ?_
 ·refine zc.n GAn.h [0,1,3] (.leaf (.back 0 [(0,.bool false),(1,.ptr 0 0),(3,.ptr 1 0)] [.box [.sl 2 13 (verG exV)],.box [.int .u8 1,.str #[].toList,.str #[].toList,.str #[].toList,.int .u8 0,.str #[].toList,.str #[].toList,.i 0,.nils,.i 0,.nils,.nils]])) ?_;simp only [Tree.holds,zd,inR,lo,hi,aD];rw [aP trivial];exact⟨(),by simp [SNa3],⟨zb _,zb _,trivial⟩,by kernel_rfl,aI _⟩
 show zB none prog f8 O 0 w0 [] _ _ LNa3 _;refine zc.cutL (ι:=Unit) LNa3 1 0 (λ_=>SNa4) (λ_=>HNa4) (by kernel_rfl) (by kernel_rfl) ?_ λ_=> ?_
 ·refine zc.n GAn.h [0,1,3,5] (.ex (q62 [.agg [.int .u8 0,.str #[].toList,.str #[].toList,.str #[].toList,.int .u8 0,.str #[].toList,.str #[].toList,.i 0,AV.nils,.i 0,AV.nils,AV.nils],.i 100000]) λn=>.all (λ(r:List Ver×Int)=>r=newV n.1 n.2) λn=>.leaf (.back 0 [(0,.bool false),(1,.ptr 0 0),(3,.ptr 1 0),(5,.i n.2)] [.box [.sl 2 13 (verG exV)],.box [.int .u8 1,.str [],.str [],.str [],.int .u8 0,.str [],.str [],.i 0,.nils,.i 0,.nils,.nils],.box [.sl n.1.length 13 (verG n.1)]])) ?_;simp only [q62,Tree.holds,zd,inR,lo,hi,aD];refine Xy Con.nil 100000 zk5 fitN zo9 ?_
  repeat' apply j4
  all_goals rw [aP trivial]
  all_goals exact⟨(),by simp [SNa4],⟨zb _,zb _,trivial⟩,by kernel_rfl,aI _⟩
 show zB none prog f8 O 0 w0 [] _ _ LNa4 _;refine zc.cutL (ι:=Unit) LNa4 1 0 (λ_=>SNa5) (λ_=>HNa5) (by kernel_rfl) (by kernel_rfl) ?_ λ_=> ?_
 ·refine zc.n GAn.h [0,1,3,5,7] (.ex (q62 [.agg [.int .u8 1,.str [],.str [],.str [],.int .u8 0,.str [],.str [],.i 0,AV.nils,.i 0,AV.nils,AV.nils],.i 100000]) λn=>.all (λ(r:List Ver×Int)=>r=newV n.1 n.2) λn=>.leaf (.back 0 [(0,.bool false),(1,.ptr 0 0),(3,.ptr 1 0),(5,.i 8),(7,.i n.2)] [.box [.sl 2 13 (verG exV)],.box [.int .u8 1,.str [],.str [],.str [],.int .u8 0,.str [],.str [],.i 0,.nils,.i 0,.nils,.nils],.box [.sl n.1.length 13 (verG n.1)]])) ?_;simp only [q62,Tree.holds,zd,inR,lo,hi,aD];refine Xy Tm.qO 100000 wk fitZ zn2 ?_
  repeat' apply j4
  all_goals rw [aP trivial]
  all_goals exact⟨(),by simp [SNa5],⟨zb _,zb _,trivial⟩,by kernel_rfl,aI _⟩
 show zB none prog f8 O 0 w0 [] _ _ LNa5 _;refine zc.cutL (ι:=Unit) LNa5 1 0 (λ_=>SNa6) (λ_=>HNa6) (by kernel_rfl) (by kernel_rfl) ?_ λ_=> ?_
 ·refine zc.n GAn.h [0,1,3,5,7,9] (.ex (q63 [.agg [.sl 2 13 (verG exV)],.i 15,.agg [.int .u8 1,.str [],.str [],.str [],.int .u8 0,.str [],.str [],.i 0,AV.nils,.i 0,AV.nils,AV.nils]]) λn=>.all (λ(r:List Ver×Int)=>r=chgV n.1 n.2.1 n.2.2) λn=>.leaf (.back 0 [(0,.bool false),(1,.ptr 0 0),(3,.ptr 1 0),(5,.i 8),(7,.i 2),(9,.i n.2)] [.box [.sl 2 13 (verG exV)],.box [.int .u8 1,.str [],.str [],.str [],.int .u8 0,.str [],.str [],.i 0,.nils,.i 0,.nils,.nils],.box [.sl n.1.length 13 (verG n.1)]])) ?_;simp only [q63,Tree.holds,zd,inR,lo,hi,aD];refine uo exV 15 Tm.qO (z7 exV) wk (by decide) fitX fitZ zoy ?_
  repeat' apply j4
  all_goals rw [aP trivial]
  all_goals exact⟨(),by simp [SNa6],⟨zb _,zb _,trivial⟩,by kernel_rfl,aI _⟩
 show zB none prog f8 O 0 w0 [] _ _ LNa6 _;refine zc.cutL (ι:=Unit) LNa6 1 0 (λ_=>SNa7) (λ_=>HNa7) (by kernel_rfl) (by kernel_rfl) ?_ λ_=> ?_
 ·refine zc.n GAn.h [0,1,3,5,7,9,11] (.ex (q63 [.agg [.sl 2 13 (verG exV)],.i (-1:Int),.agg [.int .u8 1,.str [],.str [],.str [],.int .u8 0,.str [],.str [],.i 0,AV.nils,.i 0,AV.nils,AV.nils]]) λn=>.all (λ(r:List Ver×Int)=>r=chgV n.1 n.2.1 n.2.2) λn=>.leaf (.back 0 [(0,.bool false),(1,.ptr 0 0),(3,.ptr 1 0),(5,.i 8),(7,.i 2),(9,.i 40),(11,.i n.2)] [.box [.sl 2 13 (verG exV)],.box [.int .u8 1,.str [],.str [],.str [],.int .u8 0,.str [],.str [],.i 0,.nils,.i 0,.nils,.nils],.box [.sl n.1.length 13 (verG n.1)]])) ?_;simp only [q63,Tree.holds,zd,inR,lo,hi,aD];refine uo exV (-1) Tm.qO (z7 exV) wk (by decide) fitX fitZ zn0 ?_
  repeat' apply j4
  all_goals rw [aP trivial]
  all_goals exact⟨(),by simp [SNa7],⟨zb _,zb _,trivial⟩,by kernel_rfl,aI _⟩
 show zB none prog f8 O 0 w0 [] _ _ LNa7 _;refine zc.cutL (ι:=Unit) LNa7 1 0 (λ_=>SNa8) (λ_=>HNa8) (by kernel_rfl) (by kernel_rfl) ?_ λ_=> ?_
 ·refine zc.n GAn.h [0,1,3,5,7,9,11,13] (.ex (q63 [.agg [.sl 2 13 (verG exV)],.i 16,.agg [.int .u8 99,.str #[].toList,.str #[].toList,.str #[].toList,.int .u8 0,.str #[].toList,.str #[].toList,.i 0,AV.nils,.i 0,AV.nils,AV.nils]]) λn=>.all (λ(r:List Ver×Int)=>r=chgV n.1 n.2.1 n.2.2) λn=>.leaf (.back 0 [(0,.bool false),(1,.ptr 0 0),(3,.ptr 1 0),(5,.i 8),(7,.i 2),(9,.i 40),(11,.i 2),(13,.i n.2)] [.box [.sl 2 13 (verG exV)],.box [.int .u8 1,.str [],.str [],.str [],.int .u8 0,.str [],.str [],.i 0,.nils,.i 0,.nils,.nils],.box [.sl n.1.length 13 (verG n.1)]])) ?_;simp only [q63,Tree.holds,zd,inR,lo,hi,aD];refine uo exV 16 k99 (z7 exV) zic (by decide) fitX zun zob ?_
  repeat' apply j4
  all_goals rw [aP trivial]
  all_goals exact⟨(),by simp [SNa8],⟨zb _,zb _,trivial⟩,by kernel_rfl,aI _⟩
 show zB none prog f8 O 0 w0 [] _ _ LNa8 _;refine zc.cutL (ι:=Unit) LNa8 1 0 (λ_=>SNa9) (λ_=>HNa9) (by kernel_rfl) (by kernel_rfl) ?_ λ_=> ?_
 ·refine zc.n GAn.h [0,1,3,5,7,9,11,13,14,15] (.ex (q63 [.agg [.sl 2 13 (verG exV)],.i 20,.agg [.int .u8 1,.str [],.str [],.str [],.int .u8 0,.str [],.str [],.i 0,AV.nils,.i 0,AV.nils,AV.nils]]) λn=>.all (λ(r:List Ver×Int)=>r=chgV n.1 n.2.1 n.2.2) λn=>.leaf (.back 0 [(0,.bool false),(1,.ptr 0 0),(3,.ptr 1 0),(5,.i 8),(7,.i 2),(9,.i 40),(11,.i 2),(13,.i 8),(14,.ptr 2 0),(15,.i n.2)] [.box [.sl 2 13 (verG exV)],.box [.int .u8 1,.str [],.str [],.str [],.int .u8 0,.str [],.str [],.i 0,.nils,.i 0,.nils,.nils],.box [.sl n.1.length 13 (verG n.1)]])) ?_;simp only [q63,Tree.holds,zd,inR,lo,hi,aD];refine uo exV 20 Tm.qO (z7 exV) wk (by decide) fitX fitZ znr ?_
  repeat' apply j4
  all_goals rw [aP trivial]
  all_goals exact⟨(),by simp [SNa9],⟨zb _,zb _,zb _,trivial⟩,by kernel_rfl,aI _⟩
 show zB none prog f8 O 0 w0 [] _ _ LNa9 _;refine zc.cutL (ι:=Unit) LNa9 1 0 (λ_=>zpk) (λ_=>zu2) (by kernel_rfl) (by kernel_rfl) ?_ λ_=> ?_
 ·refine zc.n GAn.h [0,1,3,5,7,9,11,13,14,15,16,17] (.ex (q66 [.agg [.sl 3 13 (verG bV)]]) λn=>.all (λ(r:List Ver×Int)=>r=undV n) λn=>.leaf (.back 0 [(0,.bool false),(1,.ptr 0 0),(3,.ptr 1 0),(5,.i 8),(7,.i 2),(9,.i 40),(11,.i 2),(13,.i 8),(14,.ptr 2 0),(15,.i 0),(16,.ptr 3 0),(17,.i n.2)] [.box [.sl 2 13 (verG exV)],.box [.int .u8 1,.str [],.str [],.str [],.int .u8 0,.str [],.str [],.i 0,.nils,.i 0,.nils,.nils],.box [.sl 3 13 (verG bV)],.box [.sl n.1.length 13 (verG n.1)]])) ?_;simp only [q66,Tree.holds,zd,inR,lo,hi,aD];refine zah bV (z7 bV) (by decide) fitB zn6 ?_
  repeat' apply j4
  all_goals rw [aP trivial]
  all_goals exact⟨(),by simp [zpk],⟨zb _,zb _,zb _,zb _,trivial⟩,by kernel_rfl,aI _⟩
 show zB none prog f8 O 0 w0 [] _ _ zr4 _;refine zc.cutL (ι:=Unit) zr4 1 0 (λ_=>zqu) (λ_=>zui) (by kernel_rfl) (by kernel_rfl) ?_ λ_=> ?_
 ·refine zc.n GAn.h [0,1,3,5,7,9,11,13,14,15,16,17,18,19] (.ex (q66 [.agg [.sl 2 13 (verG exV)]]) λn=>.all (λ(r:List Ver×Int)=>r=undV n) λn=>.leaf (.back 0 [(0,.bool false),(1,.ptr 0 0),(3,.ptr 1 0),(5,.i 8),(7,.i 2),(9,.i 40),(11,.i 2),(13,.i 8),(14,.ptr 2 0),(15,.i 0),(16,.ptr 3 0),(17,.i 0),(18,.ptr 4 0),(19,.i n.2)] [.box [.sl 2 13 (verG exV)],.box [.int .u8 1,.str [],.str [],.str [],.int .u8 0,.str [],.str [],.i 0,.nils,.i 0,.nils,.nils],.box [.sl 3 13 (verG bV)],.box [.sl 2 13 (verG exV)],.box [.sl n.1.length 13 (verG n.1)]])) ?_;simp only [q66,Tree.holds,zd,inR,lo,hi,aD];refine zah exV (z7 exV) (by decide) fitX zm1 ?_
  repeat' apply j4
  all_goals rw [aP trivial]
  all_goals exact⟨(),by simp [zqu],⟨zb _,zb _,zb _,zb _,zb _,trivial⟩,by kernel_rfl,aI _⟩
 show zB none prog f8 O 0 w0 [] _ _ zpf _;refine zc.cutL (ι:=Unit) zpf 1 0 (λ_=>zpt) (λ_=>ztr) (by kernel_rfl) (by kernel_rfl) ?_ λ_=> ?_
 ·refine zc.n GAn.h [0,1,3,5,7,9,11,13,14,15,16,17,18,19,21] (.ex (q66 [.agg [.sl 1 13 (verG dV)]]) λn=>.all (λ(r:List Ver×Int)=>r=undV n) λn=>.leaf (.back 0 [(0,.bool false),(1,.ptr 0 0),(3,.ptr 1 0),(5,.i 8),(7,.i 2),(9,.i 40),(11,.i 2),(13,.i 8),(14,.ptr 2 0),(15,.i 0),(16,.ptr 3 0),(17,.i 0),(18,.ptr 4 0),(19,.i 0),(21,.i n.2)] [.box [.sl 2 13 (verG exV)],.box [.int .u8 1,.str [],.str [],.str [],.int .u8 0,.str [],.str [],.i 0,.nils,.i 0,.nils,.nils],.box [.sl 3 13 (verG bV)],.box [.sl 2 13 (verG exV)],.box [.sl 1 13 (verG dV)],.box [.sl n.1.length 13 (verG n.1)]])) ?_;simp only [q66,Tree.holds,zd,inR,lo,hi,aD];refine zah dV (z7 dV) (by decide) fitD zn7 ?_
  repeat' apply j4
  all_goals rw [aP trivial]
  all_goals exact⟨(),by simp [zpt],⟨zb _,zb _,zb _,zb _,zb _,trivial⟩,by kernel_rfl,aI _⟩
 show zB none prog f8 O 0 w0 [] _ _ zpa _;refine zc.cutL (ι:=Unit) zpa 1 0 (λ_=>zqr) (λ_=>zts) (by kernel_rfl) (by kernel_rfl) ?_ λ_=> ?_
 ·refine zc.n GAn.h [0,1,3,5,7,9,11,13,14,15,16,17,18,19,21,23] (.ex (q67 [.agg [.sl 2 13 (verG exV)],.i 4]) λn=>.all (λ(r:Con×Int)=>r=atV n.1 n.2) λn=>.leaf (.back 0 [(0,.bool false),(1,.ptr 0 0),(3,.ptr 1 0),(5,.i 8),(7,.i 2),(9,.i 40),(11,.i 2),(13,.i 8),(14,.ptr 2 0),(15,.i 0),(16,.ptr 3 0),(17,.i 0),(18,.ptr 4 0),(19,.i 0),(21,.i 6),(23,.i n.2)] [.box [.sl 2 13 (verG exV)],.box [.int .u8 1,.str [],.str [],.str [],.int .u8 0,.str [],.str [],.i 0,.nils,.i 0,.nils,.nils],.box [.sl 3 13 (verG bV)],.box [.sl 2 13 (verG exV)],.box [.sl 1 13 (verG dV)],.box (Con.zp n.1)])) ?_;simp only [q67,Tree.holds,zd,inR,lo,hi,aD];refine XR exV 4 (z7 exV) (by decide) fitX zsj ?_
  repeat' apply j4
  all_goals rw [aP trivial]
  all_goals exact⟨(),by simp [zqr],⟨zb _,zb _,zb _,zb _,zb _,trivial⟩,by kernel_rfl,aI _⟩
 show zB none prog f8 O 0 w0 [] _ _ zpd _;refine zc.cutL (ι:=Unit) zpd 1 0 (λ_=>zpy) (λ_=>zuy) (by kernel_rfl) (by kernel_rfl) ?_ λ_=> ?_
 ·refine zc.n GAn.h [0,1,3,5,7,9,11,13,14,15,16,17,18,19,21,23,24,25] (.ex (q67 [.agg [.sl 2 13 (verG exV)],.i 14]) λn=>.all (λ(r:Con×Int)=>r=atV n.1 n.2) λn=>.leaf (.back 0 [(0,.bool false),(1,.ptr 0 0),(3,.ptr 1 0),(5,.i 8),(7,.i 2),(9,.i 40),(11,.i 2),(13,.i 8),(14,.ptr 2 0),(15,.i 0),(16,.ptr 3 0),(17,.i 0),(18,.ptr 4 0),(19,.i 0),(21,.i 6),(23,.i 6),(24,.ptr 5 0),(25,.i n.2)] [.box [.sl 2 13 (verG exV)],.box [.int .u8 1,.str [],.str [],.str [],.int .u8 0,.str [],.str [],.i 0,.nils,.i 0,.nils,.nils],.box [.sl 3 13 (verG bV)],.box [.sl 2 13 (verG exV)],.box [.sl 1 13 (verG dV)],.box (Con.zp n.1)])) ?_;simp only [q67,Tree.holds,zd,inR,lo,hi,aD];refine XR exV 14 (z7 exV) (by decide) fitX zs2 ?_
  repeat' apply j4
  all_goals rw [aP trivial]
  all_goals exact⟨(),by simp [zpy],⟨zb _,zb _,zb _,zb _,zb _,zb _,trivial⟩,by kernel_rfl,aI _⟩
 show zB none prog f8 O 0 w0 [] _ _ zq7 _;refine zc.cutL (ι:=Unit) zq7 1 0 (λ_=>zpw) (λ_=>zuu) (by kernel_rfl) (by kernel_rfl) ?_ λ_=> ?_
 ·refine zc.n GAn.h [0,1,3,5,7,9,11,13,14,15,16,17,18,19,21,23,24,25,26,27] (.ex (q67 [.agg [.sl 2 13 (verG exV)],.i 15]) λn=>.all (λ(r:Con×Int)=>r=atV n.1 n.2) λn=>.leaf (.back 0 [(0,.bool false),(1,.ptr 0 0),(3,.ptr 1 0),(5,.i 8),(7,.i 2),(9,.i 40),(11,.i 2),(13,.i 8),(14,.ptr 2 0),(15,.i 0),(16,.ptr 3 0),(17,.i 0),(18,.ptr 4 0),(19,.i 0),(21,.i 6),(23,.i 6),(24,.ptr 5 0),(25,.i 0),(26,.ptr 6 0),(27,.i n.2)] [.box [.sl 2 13 (verG exV)],.box [.int .u8 1,.str [],.str [],.str [],.int .u8 0,.str [],.str [],.i 0,.nils,.i 0,.nils,.nils],.box [.sl 3 13 (verG bV)],.box [.sl 2 13 (verG exV)],.box [.sl 1 13 (verG dV)],.box [.int .u8 3,.str cE0.src,.str cE0.dst,.str cE0.name,.int .u8 0,.str (Ex.rat cE0.x),.str (Ex.name cE0.x),.i 0,.sl 0 5 (Ex.exG (Ex.sub cE0.x)),.i 0,.sl 0 1 (Con.dayG cE0.days),.sl 2 12 (Con.deep cE0)],.box (Con.zp n.1)])) ?_;simp only [q67,Tree.holds,zd,inR,lo,hi,aD];refine XR exV 15 (z7 exV) (by decide) fitX zt7 ?_
  repeat' apply j4
  all_goals rw [aP trivial]
  all_goals exact⟨(),by simp [zpw],⟨zb _,zb _,zb _,zb _,zb _,zb _,zb _,trivial⟩,by kernel_rfl,aI _⟩
 show zB none prog f8 O 0 w0 [] _ _ zqn _;refine zc.cutL (ι:=Unit) zqn 1 0 (λ_=>zpn) (λ_=>zu8) (by kernel_rfl) (by kernel_rfl) ?_ λ_=> ?_
 ·refine zc.n GAn.h [0,1,3,5,7,9,11,13,14,15,16,17,18,19,21,23,24,25,26,27,29] (.ex (q67 [.agg [.sl 2 13 (verG exV)],.i 100000]) λn=>.all (λ(r:Con×Int)=>r=atV n.1 n.2) λn=>.leaf (.back 0 [(0,.bool false),(1,.ptr 0 0),(3,.ptr 1 0),(5,.i 8),(7,.i 2),(9,.i 40),(11,.i 2),(13,.i 8),(14,.ptr 2 0),(15,.i 0),(16,.ptr 3 0),(17,.i 0),(18,.ptr 4 0),(19,.i 0),(21,.i 6),(23,.i 6),(24,.ptr 5 0),(25,.i 0),(26,.ptr 6 0),(27,.i 0),(29,.i n.2)] [.box [.sl 2 13 (verG exV)],.box [.int .u8 1,.str [],.str [],.str [],.int .u8 0,.str [],.str [],.i 0,.nils,.i 0,.nils,.nils],.box [.sl 3 13 (verG bV)],.box [.sl 2 13 (verG exV)],.box [.sl 1 13 (verG dV)],.box [.int .u8 3,.str cE0.src,.str cE0.dst,.str cE0.name,.int .u8 0,.str (Ex.rat cE0.x),.str (Ex.name cE0.x),.i 0,.sl 0 5 (Ex.exG (Ex.sub cE0.x)),.i 0,.sl 0 1 (Con.dayG cE0.days),.sl 2 12 (Con.deep cE0)],.box [.int .u8 6,.str cE3.src,.str cE3.dst,.str cE3.name,.int .u8 0,.str (Ex.rat cE3.x),.str (Ex.name cE3.x),.i 0,.sl 0 5 (Ex.exG (Ex.sub cE3.x)),.i 20,.sl 0 1 (Con.dayG cE3.days),.sl 1 12 (Con.deep cE3)],.box (Con.zp n.1)])) ?_;simp only [q67,Tree.holds,zd,inR,lo,hi,aD];refine XR exV 100000 (z7 exV) (by decide) fitX zt3 ?_
  repeat' apply j4
  all_goals rw [aP trivial]
  all_goals exact⟨(),by simp [zpn],⟨zb _,zb _,zb _,zb _,zb _,zb _,zb _,trivial⟩,by kernel_rfl,aI _⟩
 show zB none prog f8 O 0 w0 [] _ _ zqc _;refine zc.cutL (ι:=Unit) zqc 1 0 (λ_=>ziq) (λ_=>zu5) (by kernel_rfl) (by kernel_rfl) ?_ λ_=> ?_
 ·refine zc.n GAn.h [0,1,3,5,7,9,11,13,14,15,16,17,18,19,21,23,24,25,26,27,29,30] (.leaf (.back 0 [(0,.bool false),(1,.ptr 0 0),(3,.ptr 1 0),(5,.i 8),(7,.i 2),(9,.i 40),(11,.i 2),(13,.i 8),(14,.ptr 2 0),(15,.i 0),(16,.ptr 3 0),(17,.i 0),(18,.ptr 4 0),(19,.i 0),(21,.i 6),(23,.i 6),(24,.ptr 5 0),(25,.i 0),(26,.ptr 6 0),(27,.i 0),(29,.i 2),(30,.ptr 8 0)] [.box [.sl 2 13 (verG exV)],.box [.int .u8 1,.str [],.str [],.str [],.int .u8 0,.str [],.str [],.i 0,.nils,.i 0,.nils,.nils],.box [.sl 3 13 (verG bV)],.box [.sl 2 13 (verG exV)],.box [.sl 1 13 (verG dV)],.box [.int .u8 3,.str cE0.src,.str cE0.dst,.str cE0.name,.int .u8 0,.str (Ex.rat cE0.x),.str (Ex.name cE0.x),.i 0,.sl 0 5 (Ex.exG (Ex.sub cE0.x)),.i 0,.sl 0 1 (Con.dayG cE0.days),.sl 2 12 (Con.deep cE0)],.box [.int .u8 6,.str cE3.src,.str cE3.dst,.str cE3.name,.int .u8 0,.str (Ex.rat cE3.x),.str (Ex.name cE3.x),.i 0,.sl 0 5 (Ex.exG (Ex.sub cE3.x)),.i 20,.sl 0 1 (Con.dayG cE3.days),.sl 1 12 (Con.deep cE3)],.arr 2 13 (zi 13 [.i 5,.int .u8 1,.str [],.str [],.str [],.int .u8 0,.str [],.str [],.i 0,.nils,.i 0,.nils,.nils,.i 5,.int .u8 1,.str [],.str [],.str [],.int .u8 0,.str [],.str [],.i 0,.nils,.i 0,.nils,.nils]),.box [.osl 7 13 0 2]])) ?_;simp only [Tree.holds,zd,inR,lo,hi,aD];rw [aP trivial];exact⟨(),by simp [ziq],⟨zb _,zb _,zb _,zb _,zb _,zb _,zb _,zb _,zb _,trivial⟩,by kernel_rfl,aI _⟩
 show zB none prog f8 O 0 w0 [] _ _ zg1 _;refine zc.wkH (h':=zus) ⟨LeB.refl _,LeB.refl _,LeB.refl _,LeB.refl _,LeB.refl _,LeB.refl _,LeB.refl _,zo2,LeB.refl _,trivial⟩ ?_;refine zc.zm9 [7] (by simp) (by kernel_rfl) ?_;show zB none prog f8 O 0 w0 [] _ _ zg1 (mk f8.ntmps ziq zuq);refine zc.cutL (ι:=Unit) zg1 1 0 (λ_=>zpc) (λ_=>ztz) (by kernel_rfl) (by kernel_rfl) ?_ λ_=> ?_
 ·refine zc.n GAn.h [0,1,3,5,7,9,11,13,14,15,16,17,18,19,21,23,24,25,26,27,29,30,32] (.ex (q67 [.agg [.sl 2 13 (zg (verG badV) 0)],.i (-1:Int)]) λn=>.all (λ(r:Con×Int)=>r=atV n.1 n.2) λn=>.leaf (.back 0 [(0,.bool false),(1,.ptr 0 0),(3,.ptr 1 0),(5,.i 8),(7,.i 2),(9,.i 40),(11,.i 2),(13,.i 8),(14,.ptr 2 0),(15,.i 0),(16,.ptr 3 0),(17,.i 0),(18,.ptr 4 0),(19,.i 0),(21,.i 6),(23,.i 6),(24,.ptr 5 0),(25,.i 0),(26,.ptr 6 0),(27,.i 0),(29,.i 2),(30,.ptr 8 0),(32,.i n.2)] [.box [.sl 2 13 (verG exV)],.box [.int .u8 1,.str [],.str [],.str [],.int .u8 0,.str [],.str [],.i 0,.nils,.i 0,.nils,.nils],.box [.sl 3 13 (verG bV)],.box [.sl 2 13 (verG exV)],.box [.sl 1 13 (verG dV)],.box [.int .u8 3,.str cE0.src,.str cE0.dst,.str cE0.name,.int .u8 0,.str (Ex.rat cE0.x),.str (Ex.name cE0.x),.i 0,.sl 0 5 (Ex.exG (Ex.sub cE0.x)),.i 0,.sl 0 1 (Con.dayG cE0.days),.sl 2 12 (Con.deep cE0)],.box [.int .u8 6,.str cE3.src,.str cE3.dst,.str cE3.name,.int .u8 0,.str (Ex.rat cE3.x),.str (Ex.name cE3.x),.i 0,.sl 0 5 (Ex.exG (Ex.sub cE3.x)),.i 20,.sl 0 1 (Con.dayG cE3.days),.sl 1 12 (Con.deep cE3)],.dead,.box [.sl 2 13 (zg (verG badV) 0)],.box (Con.zp n.1)])) ?_;simp only [q67,Tree.holds,zd,inR,lo,hi,aD];refine XR badV (-1) JN (by decide) zaw zro ?_
  repeat' apply j4
  all_goals rw [aP trivial]
  all_goals exact⟨(),by simp [zpc],⟨zb _,zb _,zb _,zb _,zb _,zb _,zb _,trivial,zb _,trivial⟩,by kernel_rfl,aI _⟩
 show zB none prog f8 O 0 w0 [] _ _ zr5 _;refine zc.cutL (ι:=Unit) zr5 1 0 (λ_=>zqh) (λ_=>zuw) (by kernel_rfl) (by kernel_rfl) ?_ λ_=> ?_
 ·refine zc.n GAn.h [0,1,3,5,7,9,11,13,14,15,16,17,18,19,21,23,24,25,26,27,29,30,32,34] (.ex (q64 [.agg [.sl 2 13 (zg (verG badV) 0)],.agg [AV.nils,AV.nils]]) λn=>.all (λ(r:List Fl×Int)=>r=flV n.s n.f n.h) λn=>.leaf (.back 0 [(0,.bool false),(1,.ptr 0 0),(3,.ptr 1 0),(5,.i 8),(7,.i 2),(9,.i 40),(11,.i 2),(13,.i 8),(14,.ptr 2 0),(15,.i 0),(16,.ptr 3 0),(17,.i 0),(18,.ptr 4 0),(19,.i 0),(21,.i 6),(23,.i 6),(24,.ptr 5 0),(25,.i 0),(26,.ptr 6 0),(27,.i 0),(29,.i 2),(30,.ptr 8 0),(32,.i 8),(34,.i n.2)] [.box [.sl 2 13 (verG exV)],.box [.int .u8 1,.str [],.str [],.str [],.int .u8 0,.str [],.str [],.i 0,.nils,.i 0,.nils,.nils],.box [.sl 3 13 (verG bV)],.box [.sl 2 13 (verG exV)],.box [.sl 1 13 (verG dV)],.box [.int .u8 3,.str cE0.src,.str cE0.dst,.str cE0.name,.int .u8 0,.str (Ex.rat cE0.x),.str (Ex.name cE0.x),.i 0,.sl 0 5 (Ex.exG (Ex.sub cE0.x)),.i 0,.sl 0 1 (Con.dayG cE0.days),.sl 2 12 (Con.deep cE0)],.box [.int .u8 6,.str cE3.src,.str cE3.dst,.str cE3.name,.int .u8 0,.str (Ex.rat cE3.x),.str (Ex.name cE3.x),.i 0,.sl 0 5 (Ex.exG (Ex.sub cE3.x)),.i 20,.sl 0 1 (Con.dayG cE3.days),.sl 1 12 (Con.deep cE3)],.dead,.box [.sl 2 13 (zg (verG badV) 0)]])) ?_;simp only [q64,Tree.holds,zd,inR,lo,hi,aD];refine zkb badV [] JN zcx (by decide) zaw env0 zsa ?_
  repeat' apply j4
  all_goals rw [aP trivial]
  all_goals exact⟨(),by simp [zqh],⟨zb _,zb _,zb _,zb _,zb _,zb _,zb _,trivial,zb _,trivial⟩,by kernel_rfl,aI _⟩
 show zB none prog f8 O 0 w0 [] _ _ zqp _;refine zc.cutL (ι:=Unit) zqp 1 0 (λ_=>zq0) (λ_=>zum) (by kernel_rfl) (by kernel_rfl) ?_ λ_=> ?_
 ·refine zc.n GAn.h [0,1,3,5,7,9,11,13,14,15,16,17,18,19,21,23,24,25,26,27,29,30,32,34,35,36] (.ex (q62 [.agg [.int .u8 1,.str [],.str [],.str [],.int .u8 0,.str [],.str [],.i 0,AV.nils,.i 0,AV.nils,AV.nils],.i 0]) λn=>.all (λ(r:List Ver×Int)=>r=newV n.1 n.2) λn=>.leaf (.back 0 [(0,.bool false),(1,.ptr 0 0),(3,.ptr 1 0),(5,.i 8),(7,.i 2),(9,.i 40),(11,.i 2),(13,.i 8),(14,.ptr 2 0),(15,.i 0),(16,.ptr 3 0),(17,.i 0),(18,.ptr 4 0),(19,.i 0),(21,.i 6),(23,.i 6),(24,.ptr 5 0),(25,.i 0),(26,.ptr 6 0),(27,.i 0),(29,.i 2),(30,.ptr 8 0),(32,.i 8),(34,.i 8),(35,.ptr 9 0),(36,.i n.2)] [.box [.sl 2 13 (verG exV)],.box [.int .u8 1,.str [],.str [],.str [],.int .u8 0,.str [],.str [],.i 0,.nils,.i 0,.nils,.nils],.box [.sl 3 13 (verG bV)],.box [.sl 2 13 (verG exV)],.box [.sl 1 13 (verG dV)],.box [.int .u8 3,.str cE0.src,.str cE0.dst,.str cE0.name,.int .u8 0,.str (Ex.rat cE0.x),.str (Ex.name cE0.x),.i 0,.sl 0 5 (Ex.exG (Ex.sub cE0.x)),.i 0,.sl 0 1 (Con.dayG cE0.days),.sl 2 12 (Con.deep cE0)],.box [.int .u8 6,.str cE3.src,.str cE3.dst,.str cE3.name,.int .u8 0,.str (Ex.rat cE3.x),.str (Ex.name cE3.x),.i 0,.sl 0 5 (Ex.exG (Ex.sub cE3.x)),.i 20,.sl 0 1 (Con.dayG cE3.days),.sl 1 12 (Con.deep cE3)],.dead,.box [.sl 2 13 (zg (verG badV) 0)],.box [.sl n.1.length 13 (verG n.1)]])) ?_;simp only [q62,Tree.holds,zd,inR,lo,hi,aD];refine Xy Tm.qO 0 wk fitZ zny ?_
  repeat' apply j4
  all_goals rw [aP trivial]
  all_goals exact⟨(),by simp [zq0],⟨zb _,zb _,zb _,zb _,zb _,zb _,zb _,trivial,zb _,zb _,trivial⟩,by kernel_rfl,aI _⟩
 show zB none prog f8 O 0 w0 [] _ _ Kk _;refine zc.cutL (ι:=Unit) Kk 1 0 (λ_=>zqo) (λ_=>zud) (by kernel_rfl) (by kernel_rfl) ?_ λ_=> ?_
 ·refine zc.n GAn.h [0,1,3,5,7,9,11,13,14,15,16,17,18,19,21,23,24,25,26,27,29,30,32,34,35,36,37] (let v1:=lps (List.take 1 Kk++Sx.Item.inLoop::List.drop 1 Kk) 0;.leaf (.loop v1.1 v1.2 [(0,.bool false),(1,.ptr 0 0),(3,.ptr 1 0),(5,.i 8),(7,.i 2),(9,.i 40),(11,.i 2),(13,.i 8),(14,.ptr 2 0),(15,.i 0),(16,.ptr 3 0),(17,.i 0),(18,.ptr 4 0),(19,.i 0),(21,.i 6),(23,.i 6),(24,.ptr 5 0),(25,.i 0),(26,.ptr 6 0),(27,.i 0),(29,.i 2),(30,.ptr 8 0),(32,.i 8),(34,.i 8),(35,.ptr 9 0),(36,.i 0),(37,.i 1)] [.box [.sl 2 13 (verG exV)],.box [.int .u8 1,.str [],.str [],.str [],.int .u8 0,.str [],.str [],.i 0,.nils,.i 0,.nils,.nils],.box [.sl 3 13 (verG bV)],.box [.sl 2 13 (verG exV)],.box [.sl 1 13 (verG dV)],.box [.int .u8 3,.str cE0.src,.str cE0.dst,.str cE0.name,.int .u8 0,.str (Ex.rat cE0.x),.str (Ex.name cE0.x),.i 0,.sl 0 5 (Ex.exG (Ex.sub cE0.x)),.i 0,.sl 0 1 (Con.dayG cE0.days),.sl 2 12 (Con.deep cE0)],.box [.int .u8 6,.str cE3.src,.str cE3.dst,.str cE3.name,.int .u8 0,.str (Ex.rat cE3.x),.str (Ex.name cE3.x),.i 0,.sl 0 5 (Ex.exG (Ex.sub cE3.x)),.i 20,.sl 0 1 (Con.dayG cE3.days),.sl 1 12 (Con.deep cE3)],.dead,.box [.sl 2 13 (zg (verG badV) 0)],.box [.sl 1 13 (verG (zsV 1))]])) ?_;simp only [Tree.holds,zd,inR,lo,hi,aD];refine zc.loop (ι:={x:Nat // 1<=x/\x<=100}) (λx=>SNx x.1) (λx=>HNx x.1) (λx=>100 - x.1) ⟨1,by decide,by decide⟩ 1 ?_ ?_ (by kernel_rfl)
  ·exact⟨by simp [SNx],⟨zb _,zb _,zb _,zb _,zb _,zb _,zb _,trivial,zb _,zb _,trivial⟩,by kernel_rfl,aI _⟩
  ·rintro⟨x,hx1,hx2⟩;refine zc.n GAn.h [0,1,3,5,7,9,11,13,14,15,16,17,18,19,21,23,24,25,26,27,29,30,32,34,35,36,37] (let v4:List AV:=[.sl 2 13 (verG exV)];let v3:List AV:=[.int .u8 1,.str [],.str [],.str [],.int .u8 0,.str [],.str [],.i 0,.nils,.i 0,.nils,.nils];let v2:List AV:=[.int .u8 3,.str cE0.src,.str cE0.dst,.str cE0.name,.int .u8 0,.str (Ex.rat cE0.x),.str (Ex.name cE0.x),.i 0,.sl 0 5 (Ex.exG (Ex.sub cE0.x)),.i 0,.sl 0 1 (Con.dayG cE0.days),.sl 2 12 (Con.deep cE0)];let v1:List AV:=[.int .u8 6,.str cE3.src,.str cE3.dst,.str cE3.name,.int .u8 0,.str (Ex.rat cE3.x),.str (Ex.name cE3.x),.i 0,.sl 0 5 (Ex.exG (Ex.sub cE3.x)),.i 20,.sl 0 1 (Con.dayG cE3.days),.sl 1 12 (Con.deep cE3)];.ite (bif decide ((x:Int)<100) then decide ((0:Int)=0) else false) (.ex (q63 [.agg [.sl (zsV x).length 13 (verG (zsV x))],.i x,.agg [.int .u8 1,.str [],.str [],.str [],.int .u8 0,.str [],.str [],.i 0,AV.nils,.i 0,AV.nils,AV.nils]]) λn=>.all (λ(r:List Ver×Int)=>r=chgV n.1 n.2.1 n.2.2) λn=>.S (x+1) (.leaf (.back 1 [(0,.bool false),(1,.ptr 0 0),(3,.ptr 1 0),(5,.i 8),(7,.i 2),(9,.i 40),(11,.i 2),(13,.i 8),(14,.ptr 2 0),(15,.i 0),(16,.ptr 3 0),(17,.i 0),(18,.ptr 4 0),(19,.i 0),(21,.i 6),(23,.i 6),(24,.ptr 5 0),(25,.i 0),(26,.ptr 6 0),(27,.i 0),(29,.i 2),(30,.ptr 8 0),(32,.i 8),(34,.i 8),(35,.ptr 9 0),(36,.i n.2),(37,.i (x+1))] [.box v4,.box v3,.box [.sl 3 13 (verG bV)],.box v4,.box [.sl 1 13 (verG dV)],.box v2,.box v1,.dead,.box [.sl 2 13 (zg (verG badV) 0)],.box [.sl n.1.length 13 (verG n.1)],.box [.sl n.1.length 13 (verG n.1)]]))) (.leaf (.back 0 [(0,.bool false),(1,.ptr 0 0),(3,.ptr 1 0),(5,.i 8),(7,.i 2),(9,.i 40),(11,.i 2),(13,.i 8),(14,.ptr 2 0),(15,.i 0),(16,.ptr 3 0),(17,.i 0),(18,.ptr 4 0),(19,.i 0),(21,.i 6),(23,.i 6),(24,.ptr 5 0),(25,.i 0),(26,.ptr 6 0),(27,.i 0),(29,.i 2),(30,.ptr 8 0),(32,.i 8),(34,.i 8),(35,.ptr 9 0),(36,.i 0),(37,.i x)] [.box v4,.box v3,.box [.sl 3 13 (verG bV)],.box v4,.box [.sl 1 13 (verG dV)],.box v2,.box v1,.dead,.box [.sl 2 13 (zg (verG badV) 0)],.box [.sl (zsV x).length 13 (verG (zsV x))]]))) ?_;simp only [q63,Tree.holds,zd,inR,lo,hi,aD];refine⟨λhlt=> ?_,λhge=> ?_⟩
   ·have hlt:x<100:=by
     by_cases h:(x:Int)<100
     ·omega
     ·rw [aW h] at hlt; cases hlt
    refine uo (zsV x) x Tm.qO (z7 _) wk (by rw [kQ]; omega) (zi0 x) fitZ (zrt hx1 hlt) ?_
    repeat' apply j4
    all_goals
     refine⟨by omega,λ_=> ?_⟩;rw [aP trivial];exact⟨⟨x+1,by omega,hlt⟩,by show 100 - (x+1)<100 - x; omega,by simp [SNx],⟨zb _,zb _,zb _,zb _,zb _,zb _,zb _,trivial,zb _,zb _,trivial⟩,by kernel_rfl,aI _⟩
   ·have hge:x=100:=by
     by_cases h:(x:Int)<100
     ·rw [aX h] at hge; cases hge
     ·omega
    subst hge;rw [aO (by decide),aP trivial];exact⟨(),by simp [SNx,zqo],⟨zb _,zb _,zb _,zb _,zb _,zb _,zb _,trivial,zb _,zb _,trivial⟩,by kernel_rfl,aI _⟩
 show zB none prog f8 O 0 w0 [] _ _ zpq _;refine zc.cutL (ι:=Unit) zpq 1 0 (λ_=>zq4) (λ_=>zty) (by kernel_rfl) (by kernel_rfl) ?_ λ_=> ?_
 ·refine zc.n GAn.h [0,1,3,5,7,9,11,13,14,15,16,17,18,19,21,23,24,25,26,27,29,30,32,34,35,36,41] (.ex (q63 [.agg [.sl 100 13 (verG (zsV 100))],.i 100,.agg [.int .u8 1,.str [],.str [],.str [],.int .u8 0,.str [],.str [],.i 0,AV.nils,.i 0,AV.nils,AV.nils]]) λn=>.all (λ(r:List Ver×Int)=>r=chgV n.1 n.2.1 n.2.2) λn=>.leaf (.back 0 [(0,.bool false),(1,.ptr 0 0),(3,.ptr 1 0),(5,.i 8),(7,.i 2),(9,.i 40),(11,.i 2),(13,.i 8),(14,.ptr 2 0),(15,.i 0),(16,.ptr 3 0),(17,.i 0),(18,.ptr 4 0),(19,.i 0),(21,.i 6),(23,.i 6),(24,.ptr 5 0),(25,.i 0),(26,.ptr 6 0),(27,.i 0),(29,.i 2),(30,.ptr 8 0),(32,.i 8),(34,.i 8),(35,.ptr 9 0),(36,.i 0),(41,.i n.2)] [.box [.sl 2 13 (verG exV)],.box [.int .u8 1,.str [],.str [],.str [],.int .u8 0,.str [],.str [],.i 0,.nils,.i 0,.nils,.nils],.box [.sl 3 13 (verG bV)],.box [.sl 2 13 (verG exV)],.box [.sl 1 13 (verG dV)],.box [.int .u8 3,.str cE0.src,.str cE0.dst,.str cE0.name,.int .u8 0,.str (Ex.rat cE0.x),.str (Ex.name cE0.x),.i 0,.sl 0 5 (Ex.exG (Ex.sub cE0.x)),.i 0,.sl 0 1 (Con.dayG cE0.days),.sl 2 12 (Con.deep cE0)],.box [.int .u8 6,.str cE3.src,.str cE3.dst,.str cE3.name,.int .u8 0,.str (Ex.rat cE3.x),.str (Ex.name cE3.x),.i 0,.sl 0 5 (Ex.exG (Ex.sub cE3.x)),.i 20,.sl 0 1 (Con.dayG cE3.days),.sl 1 12 (Con.deep cE3)],.dead,.box [.sl 2 13 (zg (verG badV) 0)],.box [.sl 100 13 (verG (zsV 100))],.box [.sl n.1.length 13 (verG n.1)]])) ?_;simp only [q63,Tree.holds,zd,inR,lo,hi,aD];refine uo (zsV 100) 100 Tm.qO (z7 _) wk (by rw [kQ]; decide) (zi0 100) fitZ znu ?_
  repeat' apply j4
  all_goals rw [aP trivial]
  all_goals exact⟨(),by simp [zq4],⟨zb _,zb _,zb _,zb _,zb _,zb _,zb _,trivial,zb _,zb _,trivial⟩,by kernel_rfl,aI _⟩
 show zB none prog f8 O 0 w0 [] _ _ zqi _;refine zc.cutL (ι:=Unit) zqi 1 0 (λ_=>zqx) (λ_=>zuc) (by kernel_rfl) (by kernel_rfl) ?_ λ_=> ?_
 ·refine zc.n GAn.h [0,1,3,5,7,9,11,13,14,15,16,17,18,19,21,23,24,25,26,27,29,30,32,34,35,36,41,43] (.ex (q63 [.agg [.sl 100 13 (verG (zsV 100))],.i 99,.agg [.int .u8 1,.str [],.str [],.str [],.int .u8 0,.str [],.str [],.i 0,AV.nils,.i 0,AV.nils,AV.nils]]) λn=>.all (λ(r:List Ver×Int)=>r=chgV n.1 n.2.1 n.2.2) λn=>.leaf (.back 0 [(0,.bool false),(1,.ptr 0 0),(3,.ptr 1 0),(5,.i 8),(7,.i 2),(9,.i 40),(11,.i 2),(13,.i 8),(14,.ptr 2 0),(15,.i 0),(16,.ptr 3 0),(17,.i 0),(18,.ptr 4 0),(19,.i 0),(21,.i 6),(23,.i 6),(24,.ptr 5 0),(25,.i 0),(26,.ptr 6 0),(27,.i 0),(29,.i 2),(30,.ptr 8 0),(32,.i 8),(34,.i 8),(35,.ptr 9 0),(36,.i 0),(41,.i 22),(43,.i n.2)] [.box [.sl 2 13 (verG exV)],.box [.int .u8 1,.str [],.str [],.str [],.int .u8 0,.str [],.str [],.i 0,.nils,.i 0,.nils,.nils],.box [.sl 3 13 (verG bV)],.box [.sl 2 13 (verG exV)],.box [.sl 1 13 (verG dV)],.box [.int .u8 3,.str cE0.src,.str cE0.dst,.str cE0.name,.int .u8 0,.str (Ex.rat cE0.x),.str (Ex.name cE0.x),.i 0,.sl 0 5 (Ex.exG (Ex.sub cE0.x)),.i 0,.sl 0 1 (Con.dayG cE0.days),.sl 2 12 (Con.deep cE0)],.box [.int .u8 6,.str cE3.src,.str cE3.dst,.str cE3.name,.int .u8 0,.str (Ex.rat cE3.x),.str (Ex.name cE3.x),.i 0,.sl 0 5 (Ex.exG (Ex.sub cE3.x)),.i 20,.sl 0 1 (Con.dayG cE3.days),.sl 1 12 (Con.deep cE3)],.dead,.box [.sl 2 13 (zg (verG badV) 0)],.box [.sl 100 13 (verG (zsV 100))],.box [.sl n.1.length 13 (verG n.1)]])) ?_;simp only [q63,Tree.holds,zd,inR,lo,hi,aD];refine uo (zsV 100) 99 Tm.qO (z7 _) wk (by rw [kQ]; decide) (zi0 100) fitZ zmf ?_
  repeat' apply j4
  all_goals rw [aP trivial]
  all_goals exact⟨(),by simp [zqx],⟨zb _,zb _,zb _,zb _,zb _,zb _,zb _,trivial,zb _,zb _,trivial⟩,by kernel_rfl,aI _⟩
 show zB none prog f8 O 0 w0 [] _ _ zp8 _;refine zc.cutL (ι:=Unit) zp8 1 0 (λ_=>zpg) (λ_=>zug) (by kernel_rfl) (by kernel_rfl) ?_ λ_=> ?_
 ·refine zc.n GAn.h [0,1,3,5,7,9,11,13,14,15,16,17,18,19,21,23,24,25,26,27,29,30,32,34,35,36,41,43,45] (.ex (q64 [.agg [.sl 2 13 (verG exV)],.agg [.sl 1 3 (zg (zi 3 [.str #[].toList,.i 0,.str #[].toList]) 0),AV.nils]]) λn=>.all (λ(r:List Fl×Int)=>r=flV n.s n.f n.h) λn=>.leaf (.back 0 [(0,.bool false),(1,.ptr 0 0),(3,.ptr 1 0),(5,.i 8),(7,.i 2),(9,.i 40),(11,.i 2),(13,.i 8),(14,.ptr 2 0),(15,.i 0),(16,.ptr 3 0),(17,.i 0),(18,.ptr 4 0),(19,.i 0),(21,.i 6),(23,.i 6),(24,.ptr 5 0),(25,.i 0),(26,.ptr 6 0),(27,.i 0),(29,.i 2),(30,.ptr 8 0),(32,.i 8),(34,.i 8),(35,.ptr 9 0),(36,.i 0),(41,.i 22),(43,.i 40),(45,.i n.2)] [.box [.sl 2 13 (verG exV)],.box [.int .u8 1,.str [],.str [],.str [],.int .u8 0,.str [],.str [],.i 0,.nils,.i 0,.nils,.nils],.box [.sl 3 13 (verG bV)],.box [.sl 2 13 (verG exV)],.box [.sl 1 13 (verG dV)],.box [.int .u8 3,.str cE0.src,.str cE0.dst,.str cE0.name,.int .u8 0,.str (Ex.rat cE0.x),.str (Ex.name cE0.x),.i 0,.sl 0 5 (Ex.exG (Ex.sub cE0.x)),.i 0,.sl 0 1 (Con.dayG cE0.days),.sl 2 12 (Con.deep cE0)],.box [.int .u8 6,.str cE3.src,.str cE3.dst,.str cE3.name,.int .u8 0,.str (Ex.rat cE3.x),.str (Ex.name cE3.x),.i 0,.sl 0 5 (Ex.exG (Ex.sub cE3.x)),.i 20,.sl 0 1 (Con.dayG cE3.days),.sl 1 12 (Con.deep cE3)],.dead,.box [.sl 2 13 (zg (verG badV) 0)],.box [.sl 100 13 (verG (zsV 100))],.dead])) ?_;simp only [q64,Tree.holds,zd,inR,lo,hi,aD];refine zkb exV [Fx.nil] (z7 exV) zov (by decide) fitX env1 zt1 ?_
  repeat' apply j4
  all_goals rw [aP trivial]
  all_goals exact⟨(),by simp [zpg],⟨zb _,zb _,zb _,zb _,zb _,zb _,zb _,trivial,zb _,zb _,trivial⟩,by kernel_rfl,aI _⟩
 show zB none prog f8 O 0 w0 [] _ _ zr0 _;refine zc.cutL (ι:=Unit) zr0 1 0 (λ_=>zq2) (λ_=>zu3) (by kernel_rfl) (by kernel_rfl) ?_ λ_=> ?_
 ·refine zc.n GAn.h [0,1,3,5,7,9,11,13,14,15,16,17,18,19,21,23,24,25,26,27,29,30,32,34,35,36,41,43,45,46] (.ex (q62 [.agg [.int .u8 2,.str #[(65:UInt8),(110:UInt8),(110:UInt8)].toList,.str #[(66:UInt8),(111:UInt8),(98:UInt8)].toList,.str #[(85:UInt8),(83:UInt8),(68:UInt8)].toList,.int .u8 3,.str #[].toList,.str #[(115:UInt8),(112:UInt8),(111:UInt8),(116:UInt8)].toList,.i 0,AV.nils,.i 0,AV.nils,AV.nils],.i 3]) λn=>.all (λ(r:List Ver×Int)=>r=newV n.1 n.2) λn=>.leaf (.back 0 [(0,.bool false),(1,.ptr 0 0),(3,.ptr 1 0),(5,.i 8),(7,.i 2),(9,.i 40),(11,.i 2),(13,.i 8),(14,.ptr 2 0),(15,.i 0),(16,.ptr 3 0),(17,.i 0),(18,.ptr 4 0),(19,.i 0),(21,.i 6),(23,.i 6),(24,.ptr 5 0),(25,.i 0),(26,.ptr 6 0),(27,.i 0),(29,.i 2),(30,.ptr 8 0),(32,.i 8),(34,.i 8),(35,.ptr 9 0),(36,.i 0),(41,.i 22),(43,.i 40),(45,.i 8),(46,.ptr 10 0)] [.box [.sl 2 13 (verG exV)],.box [.int .u8 1,.str [],.str [],.str [],.int .u8 0,.str [],.str [],.i 0,.nils,.i 0,.nils,.nils],.box [.sl 3 13 (verG bV)],.box [.sl 2 13 (verG exV)],.box [.sl 1 13 (verG dV)],.box [.int .u8 3,.str cE0.src,.str cE0.dst,.str cE0.name,.int .u8 0,.str (Ex.rat cE0.x),.str (Ex.name cE0.x),.i 0,.sl 0 5 (Ex.exG (Ex.sub cE0.x)),.i 0,.sl 0 1 (Con.dayG cE0.days),.sl 2 12 (Con.deep cE0)],.box [.int .u8 6,.str cE3.src,.str cE3.dst,.str cE3.name,.int .u8 0,.str (Ex.rat cE3.x),.str (Ex.name cE3.x),.i 0,.sl 0 5 (Ex.exG (Ex.sub cE3.x)),.i 20,.sl 0 1 (Con.dayG cE3.days),.sl 1 12 (Con.deep cE3)],.dead,.box [.sl 2 13 (zg (verG badV) 0)],.box [.sl 100 13 (verG (zsV 100))],.box [.sl n.1.length 13 (verG n.1)]])) ?_;simp only [q62,Tree.holds,zd,inR,lo,hi,aD];refine Xy cMis 3 zg0 fitM zn9 ?_
  repeat' apply j4
  all_goals rw [aP trivial]
  all_goals exact⟨(),by simp [zq2],⟨zb _,zb _,zb _,zb _,zb _,zb _,zb _,trivial,zb _,zb _,zb _,trivial⟩,by kernel_rfl,aI _⟩
 show zB none prog f8 O 0 w0 [] _ _ zpe _;refine zc.cutL (ι:=Unit) zpe 1 0 (λ_=>zqq) (λ_=>zub) (by kernel_rfl) (by kernel_rfl) ?_ λ_=> ?_
 ·refine zc.n GAn.h [0,1,3,5,7,9,11,13,14,15,16,17,18,19,21,23,24,25,26,27,29,30,32,34,35,36,41,43,45,46,49] (.ex (q64 [.agg [.sl 1 13 (verG misV)],.agg [AV.nils,AV.nils]]) λn=>.all (λ(r:List Fl×Int)=>r=flV n.s n.f n.h) λn=>.leaf (.back 0 [(0,.bool false),(1,.ptr 0 0),(3,.ptr 1 0),(5,.i 8),(7,.i 2),(9,.i 40),(11,.i 2),(13,.i 8),(14,.ptr 2 0),(15,.i 0),(16,.ptr 3 0),(17,.i 0),(18,.ptr 4 0),(19,.i 0),(21,.i 6),(23,.i 6),(24,.ptr 5 0),(25,.i 0),(26,.ptr 6 0),(27,.i 0),(29,.i 2),(30,.ptr 8 0),(32,.i 8),(34,.i 8),(35,.ptr 9 0),(36,.i 0),(41,.i 22),(43,.i 40),(45,.i 8),(46,.ptr 10 0),(49,.i n.2)] [.box [.sl 2 13 (verG exV)],.box [.int .u8 1,.str [],.str [],.str [],.int .u8 0,.str [],.str [],.i 0,.nils,.i 0,.nils,.nils],.box [.sl 3 13 (verG bV)],.box [.sl 2 13 (verG exV)],.box [.sl 1 13 (verG dV)],.box [.int .u8 3,.str cE0.src,.str cE0.dst,.str cE0.name,.int .u8 0,.str (Ex.rat cE0.x),.str (Ex.name cE0.x),.i 0,.sl 0 5 (Ex.exG (Ex.sub cE0.x)),.i 0,.sl 0 1 (Con.dayG cE0.days),.sl 2 12 (Con.deep cE0)],.box [.int .u8 6,.str cE3.src,.str cE3.dst,.str cE3.name,.int .u8 0,.str (Ex.rat cE3.x),.str (Ex.name cE3.x),.i 0,.sl 0 5 (Ex.exG (Ex.sub cE3.x)),.i 20,.sl 0 1 (Con.dayG cE3.days),.sl 1 12 (Con.deep cE3)],.dead,.box [.sl 2 13 (zg (verG badV) 0)],.box [.sl 100 13 (verG (zsV 100))],.box [.sl 1 13 (verG misV)]])) ?_;simp only [q64,Tree.holds,zd,inR,lo,hi,aD];refine zkb misV [] (z7 misV) zcx (by decide) ztd env0 zsr ?_
  repeat' apply j4
  all_goals rw [aP trivial]
  all_goals exact⟨(),by simp [zqq],⟨zb _,zb _,zb _,zb _,zb _,zb _,zb _,trivial,zb _,zb _,zb _,trivial⟩,by kernel_rfl,aI _⟩
 show zB none prog f8 O 0 w0 [] _ _ zpl _;refine zc.cutL (ι:=Unit) zpl 1 0 (λ_=>zpi) (λ_=>zuv) (by kernel_rfl) (by kernel_rfl) ?_ λ_=> ?_
 ·refine zc.n GAn.h [0,1,3,5,7,9,11,13,14,15,16,17,18,19,21,23,24,25,26,27,29,30,32,34,35,36,41,43,45,46,49,50] (let v15:List AV:=[.sl 1 13 (verG dV)];let v14:List AV:=[.sl 3 13 (verG bV)];let v13:List AV:=[.sl 1 13 (verG misV)];let v12:=[AV.sl 1 13 (verG dV)];let v11:=[AV.sl 2 13 (verG exV)];let v10:List AV:=[.sl 100 13 (verG (zsV 100))];let v9:List AV:=[.sl 2 13 (zg (verG badV) 0)];let v7:List AV:=[.sl 2 13 (verG exV)];let v6:=[AV.i 20,AV.str #[(65:UInt8),(110:UInt8),(110:UInt8)].toList,AV.str #[(66:UInt8),(111:UInt8),(98:UInt8)].toList,AV.str #[(50:UInt8)].toList];let v5:=[AV.i 10,AV.str #[(65:UInt8),(110:UInt8),(110:UInt8)].toList,AV.str #[(66:UInt8),(111:UInt8),(98:UInt8)].toList,AV.str #[(49:UInt8)].toList];let v4:List AV:=[.int .u8 1,.str [],.str [],.str [],.int .u8 0,.str [],.str [],.i 0,.nils,.i 0,.nils,.nils];let v3:List AV:=[.int .u8 3,.str cE0.src,.str cE0.dst,.str cE0.name,.int .u8 0,.str (Ex.rat cE0.x),.str (Ex.name cE0.x),.i 0,.sl 0 5 (Ex.exG (Ex.sub cE0.x)),.i 0,.sl 0 1 (Con.dayG cE0.days),.sl 2 12 (Con.deep cE0)];let v2:List AV:=[.int .u8 6,.str cE3.src,.str cE3.dst,.str cE3.name,.int .u8 0,.str (Ex.rat cE3.x),.str (Ex.name cE3.x),.i 0,.sl 0 5 (Ex.exG (Ex.sub cE3.x)),.i 20,.sl 0 1 (Con.dayG cE3.days),.sl 1 12 (Con.deep cE3)];let v1:List (Nat×AV):=[(0,.bool false),(1,.ptr 0 0),(3,.ptr 1 0),(5,.i 8),(7,.i 2),(9,.i 40),(11,.i 2),(13,.i 8),(14,.ptr 2 0),(15,.i 0),(16,.ptr 3 0),(17,.i 0),(18,.ptr 4 0),(19,.i 0),(21,.i 6),(23,.i 6),(24,.ptr 5 0),(25,.i 0),(26,.ptr 6 0),(27,.i 0),(29,.i 2),(30,.ptr 8 0),(32,.i 8),(34,.i 8),(35,.ptr 9 0),(36,.i 0),(41,.i 22),(43,.i 40),(45,.i 8),(46,.ptr 10 0),(49,.i 30),(50,.bool true)];.ex (λ(x:Fl)=>(bif bif bif decide ((40:Int)=40) then decide ((2:Int)=2) else false then decide ((8:Int)=8) else false then decide ((0:Int)=0) else false)=true->q60 v5 x) λn=>let v8:=zi 5 [.i n.date,.str n.src,.str n.dst,.str [(85:UInt8),(83:UInt8),(68:UInt8)],.str n.amt];.all (λ(x:Unit)=>(bif bif bif decide ((40:Int)=40) then decide ((2:Int)=2) else false then decide ((8:Int)=8) else false then decide ((0:Int)=0) else false)=true->True) λn_1=>.ite true (.ex (λ(x:GvA)=>(bif bif bif decide ((40:Int)=40) then decide ((2:Int)=2) else false then decide ((8:Int)=8) else false then decide ((0:Int)=0) else false)=true->q68 [.agg [.sl 3 13 (verG bV)],.sl 1 5 (zg (zi 5 [.i n.date,.str n.src,.str n.dst,.str [(85:UInt8),(83:UInt8),(68:UInt8)],.str n.amt]) 0)] x) λn_2=>.all (λ(x:Unit)=>(bif bif bif decide ((40:Int)=40) then decide ((2:Int)=2) else false then decide ((8:Int)=8) else false then decide ((0:Int)=0) else false)=true->True) λn_3=>.ex (λ(x:List Ver×List Ver)=>(bif bif bif bif bif decide ((40:Int)=40) then decide ((2:Int)=2) else false then decide ((8:Int)=8) else false then decide ((0:Int)=0) else false then true else false then decide ((0:Int)=0) else false)=true->q69 [.agg v11,.agg v11] x) λn_4=>.all (λ(x:Unit)=>(bif bif bif bif bif decide ((40:Int)=40) then decide ((2:Int)=2) else false then decide ((8:Int)=8) else false then decide ((0:Int)=0) else false then true else false then decide ((0:Int)=0) else false)=true->True) λn_5=>.ex (λ(x:Fl)=>(bif bif bif bif bif bif bif decide ((40:Int)=40) then decide ((2:Int)=2) else false then decide ((8:Int)=8) else false then decide ((0:Int)=0) else false then true else false then decide ((0:Int)=0) else false then true else false then decide ((0:Int)=0) else false)=true->q60 v5 x) λn_6=>.all (λ(x:Unit)=>(bif bif bif bif bif bif bif decide ((40:Int)=40) then decide ((2:Int)=2) else false then decide ((8:Int)=8) else false then decide ((0:Int)=0) else false then true else false then decide ((0:Int)=0) else false then true else false then decide ((0:Int)=0) else false)=true->True) λn_7=>.ex (λ(x:Fl)=>(bif bif bif bif bif bif bif decide ((40:Int)=40) then decide ((2:Int)=2) else false then decide ((8:Int)=8) else false then decide ((0:Int)=0) else false then true else false then decide ((0:Int)=0) else false then true else false then decide ((0:Int)=0) else false)=true->q60 v6 x) λn_8=>.all (λ(x:Unit)=>(bif bif bif bif bif bif bif decide ((40:Int)=40) then decide ((2:Int)=2) else false then decide ((8:Int)=8) else false then decide ((0:Int)=0) else false then true else false then decide ((0:Int)=0) else false then true else false then decide ((0:Int)=0) else false)=true->True) λn_9=>.ite true (.ex (λ(x:GvA)=>(bif bif bif bif bif bif bif decide ((40:Int)=40) then decide ((2:Int)=2) else false then decide ((8:Int)=8) else false then decide ((0:Int)=0) else false then true else false then decide ((0:Int)=0) else false then true else false then decide ((0:Int)=0) else false)=true->q68 [.agg v12,.sl 2 5 (zg (zi 5 [.i n_6.date,.str n_6.src,.str n_6.dst,.str [(85:UInt8),(83:UInt8),(68:UInt8)],.str n_6.amt,.i n_8.date,.str n_8.src,.str n_8.dst,.str [(85:UInt8),(83:UInt8),(68:UInt8)],.str n_8.amt]) 0)] x) λn_10=>.all (λ(x:Unit)=>(bif bif bif bif bif bif bif decide ((40:Int)=40) then decide ((2:Int)=2) else false then decide ((8:Int)=8) else false then decide ((0:Int)=0) else false then true else false then decide ((0:Int)=0) else false then true else false then decide ((0:Int)=0) else false)=true->True) λn_11=>.leaf (.back 0 v1 [.box v7,.box v4,.box v14,.box v7,.box v15,.box v3,.box v2,.dead,.box v9,.box v10,.box v13,.arr 1 5 v8,.arr 2 5 (zi 5 [.i n_6.date,.str n_6.src,.str n_6.dst,.str [(85:UInt8),(83:UInt8),(68:UInt8)],.str n_6.amt,.i n_8.date,.str n_8.src,.str n_8.dst,.str [(85:UInt8),(83:UInt8),(68:UInt8)],.str n_8.amt])])) (.ex (λ(x:GvA)=>(bif bif bif bif bif bif bif decide ((40:Int)=40) then decide ((2:Int)=2) else false then decide ((8:Int)=8) else false then decide ((0:Int)=0) else false then true else false then decide ((0:Int)=0) else false then true else false then decide ((0:Int)=0) else false)=true->q68 [.agg v12,AV.nils] x) λn_10=>.all (λ(x:Unit)=>(bif bif bif bif bif bif bif decide ((40:Int)=40) then decide ((2:Int)=2) else false then decide ((8:Int)=8) else false then decide ((0:Int)=0) else false then true else false then decide ((0:Int)=0) else false then true else false then decide ((0:Int)=0) else false)=true->True) λn_11=>.leaf (.back 0 v1 [.box v7,.box v4,.box v14,.box v7,.box v15,.box v3,.box v2,.dead,.box v9,.box v10,.box v13,.arr 1 5 v8]))) (.ex (λ(x:GvA)=>(bif bif bif decide ((40:Int)=40) then decide ((2:Int)=2) else false then decide ((8:Int)=8) else false then decide ((0:Int)=0) else false)=true->q68 [.agg [.sl 3 13 (verG bV)],AV.nils] x) λn=>.all (λ(x:Unit)=>(bif bif bif decide ((40:Int)=40) then decide ((2:Int)=2) else false then decide ((8:Int)=8) else false then decide ((0:Int)=0) else false)=true->True) λn=>.ex (λ(x:List Ver×List Ver)=>(bif bif bif bif bif decide ((40:Int)=40) then decide ((2:Int)=2) else false then decide ((8:Int)=8) else false then decide ((0:Int)=0) else false then true else false then decide ((0:Int)=0) else false)=true->q69 [.agg v11,.agg v11] x) λn=>.all (λ(x:Unit)=>(bif bif bif bif bif decide ((40:Int)=40) then decide ((2:Int)=2) else false then decide ((8:Int)=8) else false then decide ((0:Int)=0) else false then true else false then decide ((0:Int)=0) else false)=true->True) λn=>.ex (λ(x:Fl)=>(bif bif bif bif bif bif bif decide ((40:Int)=40) then decide ((2:Int)=2) else false then decide ((8:Int)=8) else false then decide ((0:Int)=0) else false then true else false then decide ((0:Int)=0) else false then true else false then decide ((0:Int)=0) else false)=true->q60 v5 x) λn=>.all (λ(x:Unit)=>(bif bif bif bif bif bif bif decide ((40:Int)=40) then decide ((2:Int)=2) else false then decide ((8:Int)=8) else false then decide ((0:Int)=0) else false then true else false then decide ((0:Int)=0) else false then true else false then decide ((0:Int)=0) else false)=true->True) λn_2=>.ex (λ(x:Fl)=>(bif bif bif bif bif bif bif decide ((40:Int)=40) then decide ((2:Int)=2) else false then decide ((8:Int)=8) else false then decide ((0:Int)=0) else false then true else false then decide ((0:Int)=0) else false then true else false then decide ((0:Int)=0) else false)=true->q60 v6 x) λn_3=>.all (λ(x:Unit)=>(bif bif bif bif bif bif bif decide ((40:Int)=40) then decide ((2:Int)=2) else false then decide ((8:Int)=8) else false then decide ((0:Int)=0) else false then true else false then decide ((0:Int)=0) else false then true else false then decide ((0:Int)=0) else false)=true->True) λn_4=>.ite true (.ex (λ(x:GvA)=>(bif bif bif bif bif bif bif decide ((40:Int)=40) then decide ((2:Int)=2) else false then decide ((8:Int)=8) else false then decide ((0:Int)=0) else false then true else false then decide ((0:Int)=0) else false then true else false then decide ((0:Int)=0) else false)=true->q68 [.agg v12,.sl 2 5 (zg (zi 5 [.i n.date,.str n.src,.str n.dst,.str [(85:UInt8),(83:UInt8),(68:UInt8)],.str n.amt,.i n_3.date,.str n_3.src,.str n_3.dst,.str [(85:UInt8),(83:UInt8),(68:UInt8)],.str n_3.amt]) 0)] x) λn_5=>.all (λ(x:Unit)=>(bif bif bif bif bif bif bif decide ((40:Int)=40) then decide ((2:Int)=2) else false then decide ((8:Int)=8) else false then decide ((0:Int)=0) else false then true else false then decide ((0:Int)=0) else false then true else false then decide ((0:Int)=0) else false)=true->True) λn_6=>.leaf (.back 0 v1 [.box v7,.box v4,.box v14,.box v7,.box v15,.box v3,.box v2,.dead,.box v9,.box v10,.box v13,.arr 2 5 (zi 5 [.i n.date,.str n.src,.str n.dst,.str [(85:UInt8),(83:UInt8),(68:UInt8)],.str n.amt,.i n_3.date,.str n_3.src,.str n_3.dst,.str [(85:UInt8),(83:UInt8),(68:UInt8)],.str n_3.amt])])) (.ex (λ(x:GvA)=>(bif bif bif bif bif bif bif decide ((40:Int)=40) then decide ((2:Int)=2) else false then decide ((8:Int)=8) else false then decide ((0:Int)=0) else false then true else false then decide ((0:Int)=0) else false then true else false then decide ((0:Int)=0) else false)=true->q68 [.agg v12,AV.nils] x) λn=>.all (λ(x:Unit)=>(bif bif bif bif bif bif bif decide ((40:Int)=40) then decide ((2:Int)=2) else false then decide ((8:Int)=8) else false then decide ((0:Int)=0) else false then true else false then decide ((0:Int)=0) else false then true else false then decide ((0:Int)=0) else false)=true->True) λn=>.leaf (.back 0 v1 [.box v7,.box v4,.box v14,.box v7,.box v15,.box v3,.box v2,.dead,.box v9,.box v10,.box v13])))) ?_;simp only [q60,q68,q69,Tree.holds,zd,inR,lo,hi,aD];refine⟨⟨10,sAnn,sBob,[],[49]⟩,λ_=>⟨⟨⟨rfl,rfl⟩,rfl,rfl,rfl,trivial⟩,trivial⟩,⟨(),λ_=>trivial⟩,λ_ _=> ?_⟩;refine⟨λ_=> ?_,λh=>(by cases h)⟩;refine⟨⟨bV,[flX1]⟩,λ_=>⟨⟨z7 bV,⟨rfl,rfl,zsb⟩,trivial⟩,⟨by decide,fitB,by rw [zkx]; decide⟩,zkx⟩,⟨(),λ_=>trivial⟩,λ_ _=> ?_⟩;refine⟨(exV,exV),λ_=>⟨⟨z7 exV,z7 exV,trivial⟩,wB,rfl⟩,⟨(),λ_=>trivial⟩,λ_ _=> ?_⟩;refine⟨⟨10,sAnn,sBob,[],[49]⟩,λ_=>⟨⟨⟨rfl,rfl⟩,rfl,rfl,rfl,trivial⟩,trivial⟩,⟨(),λ_=>trivial⟩,λ_ _=> ?_⟩;refine⟨⟨20,sAnn,sBob,[],[50]⟩,λ_=>⟨⟨⟨rfl,rfl⟩,rfl,rfl,rfl,trivial⟩,trivial⟩,⟨(),λ_=>trivial⟩,λ_ _=> ?_⟩;refine⟨λ_=> ?_,λh=>(by cases h)⟩;refine⟨⟨dV,[flX1,flX2]⟩,λ_=>⟨⟨z7 dV,⟨rfl,rfl,zsd⟩,trivial⟩,⟨by decide,fitD,by rw [zlg]; decide⟩,zlg⟩,⟨(),λ_=>trivial⟩,λ_ _=> ?_⟩;rw [aP trivial];exact⟨(),by simp [zpi],⟨zb _,zb _,zb _,zb _,zb _,zb _,zb _,trivial,zb _,zb _,zb _,trivial⟩,by kernel_rfl,aI _⟩
 show zB none prog f8 O 0 w0 [] _ _ zqf _;refine zc.cutL (ι:=Unit) zqf 1 0 (λ_=>zqg) (λ_=>zu7) (by kernel_rfl) (by kernel_rfl) ?_ λ_=> ?_
 ·refine zc.n GAn.h [0,1,3,5,7,9,11,13,14,15,16,17,18,19,21,23,24,25,26,27,29,30,32,34,35,36,41,43,45,46,49,50,51] (let v1:=[AV.int .u8 3,AV.str cE0.src,AV.str cE0.dst,AV.str cE0.name,AV.int .u8 0,AV.str (Ex.rat cE0.x),AV.str (Ex.name cE0.x),AV.i 0,AV.sl 0 5 (Ex.exG (Ex.sub cE0.x)),AV.i 0,AV.sl 0 1 (Con.dayG cE0.days),AV.sl 2 12 (Con.deep cE0)];.ex (λ(x:Unit)=>(bif decide ((6:Int)=6) then decide ((0:Int)=0) else false)=true->q61 [] x) λn=>.all (λ(x:Unit)=>(bif decide ((6:Int)=6) then decide ((0:Int)=0) else false)=true->True) λn=>.ex (λ(x:Con×Con)=>(bif decide ((6:Int)=6) then decide ((0:Int)=0) else false)=true->q70 [.agg v1,.agg v1] x) λn=>.all (λ(x:Unit)=>(bif decide ((6:Int)=6) then decide ((0:Int)=0) else false)=true->True) λn=>.ex (λ(x:Fl)=>(bif bif bif decide ((6:Int)=6) then decide ((0:Int)=0) else false then true else false then decide ((0:Int)=0) else false)=true->q60 [.i 20,.str #[(66:UInt8),(111:UInt8),(98:UInt8)].toList,.str #[(65:UInt8),(110:UInt8),(110:UInt8)].toList,.str #[(55:UInt8)].toList] x) λn=>.all (λ(x:Unit)=>(bif bif bif decide ((6:Int)=6) then decide ((0:Int)=0) else false then true else false then decide ((0:Int)=0) else false)=true->True) λn_1=>.ex (λ(x:Con×Con)=>(bif bif bif decide ((6:Int)=6) then decide ((0:Int)=0) else false then true else false then decide ((0:Int)=0) else false)=true->q70 [.agg [.int .u8 6,.str cE3.src,.str cE3.dst,.str cE3.name,.int .u8 0,.str (Ex.rat cE3.x),.str (Ex.name cE3.x),.i 0,.sl 0 5 (Ex.exG (Ex.sub cE3.x)),.i 20,.sl 0 1 (Con.dayG cE3.days),.sl 1 12 (Con.deep cE3)],(Con.conD (payK n.date n.src n.dst n.amt))] x) λn=>.all (λ(x:Unit)=>(bif bif bif decide ((6:Int)=6) then decide ((0:Int)=0) else false then true else false then decide ((0:Int)=0) else false)=true->True) λn=>.leaf (.back 0 [(0,.bool false),(1,.ptr 0 0),(3,.ptr 1 0),(5,.i 8),(7,.i 2),(9,.i 40),(11,.i 2),(13,.i 8),(14,.ptr 2 0),(15,.i 0),(16,.ptr 3 0),(17,.i 0),(18,.ptr 4 0),(19,.i 0),(21,.i 6),(23,.i 6),(24,.ptr 5 0),(25,.i 0),(26,.ptr 6 0),(27,.i 0),(29,.i 2),(30,.ptr 8 0),(32,.i 8),(34,.i 8),(35,.ptr 9 0),(36,.i 0),(41,.i 22),(43,.i 40),(45,.i 8),(46,.ptr 10 0),(49,.i 30),(50,.bool true),(51,.bool true)] [.box [.sl 2 13 (verG exV)],.box [.int .u8 1,.str [],.str [],.str [],.int .u8 0,.str [],.str [],.i 0,.nils,.i 0,.nils,.nils],.box [.sl 3 13 (verG bV)],.box [.sl 2 13 (verG exV)],.box [.sl 1 13 (verG dV)],.box [.int .u8 3,.str cE0.src,.str cE0.dst,.str cE0.name,.int .u8 0,.str (Ex.rat cE0.x),.str (Ex.name cE0.x),.i 0,.sl 0 5 (Ex.exG (Ex.sub cE0.x)),.i 0,.sl 0 1 (Con.dayG cE0.days),.sl 2 12 (Con.deep cE0)],.box [.int .u8 6,.str cE3.src,.str cE3.dst,.str cE3.name,.int .u8 0,.str (Ex.rat cE3.x),.str (Ex.name cE3.x),.i 0,.sl 0 5 (Ex.exG (Ex.sub cE3.x)),.i 20,.sl 0 1 (Con.dayG cE3.days),.sl 1 12 (Con.deep cE3)],.dead,.box [.sl 2 13 (zg (verG badV) 0)],.box [.sl 100 13 (verG (zsV 100))],.box [.sl 1 13 (verG misV)]])) ?_;simp only [q60,q61,q70,Tree.holds,zd,inR,lo,hi,aD];refine⟨(),λ_=>⟨trivial,trivial⟩,⟨(),λ_=>trivial⟩,λ_ _=> ?_⟩;refine⟨(cE0,cE0),λ_=>⟨⟨jD cE0,jD cE0,trivial⟩,zs4,rfl⟩,⟨(),λ_=>trivial⟩,λ_ _=> ?_⟩;refine⟨⟨20,sBob,sAnn,[],[55]⟩,λ_=>⟨⟨⟨rfl,rfl⟩,rfl,rfl,rfl,trivial⟩,trivial⟩,⟨(),λ_=>trivial⟩,λ_ _=> ?_⟩;refine⟨(cE3,cE3),λ_=>⟨⟨jD cE3,jD cE3,trivial⟩,zra,rfl⟩,⟨(),λ_=>trivial⟩,λ_ _=> ?_⟩;rw [aP trivial];exact⟨(),by simp [zqg],⟨zb _,zb _,zb _,zb _,zb _,zb _,zb _,trivial,zb _,zb _,zb _,trivial⟩,by kernel_rfl,aI _⟩
 show zB none prog f8 O 0 w0 [] _ _ zu4 _;refine zc.n GAn.h [0,1,3,5,7,9,11,13,14,15,16,17,18,19,21,23,24,25,26,27,29,30,32,34,35,36,41,43,45,46,49,50,51] (.ex (λ(x:Unit)=>true=true->q61 [] x) λn=>.all (λ(x:Unit)=>true=true->True) λn=>.ex (λ(x:List Ver)=>(bif bif bif bif bif bif bif true then true else false then decide ((8:Int)=8) else false then decide ((2:Int)=2) else false then true else false then true else false then decide ((8:Int)=8) else false then decide ((8:Int)=8) else false)=true->q36 [.agg [.sl 2 13 (zg (verG badV) 0)]] x) λn=>.all (λ(x:Int)=>(bif bif bif bif bif bif bif true then true else false then decide ((8:Int)=8) else false then decide ((2:Int)=2) else false then true else false then true else false then decide ((8:Int)=8) else false then decide ((8:Int)=8) else false)=true->x=errV n) λn=>.ex (λ(x:List Ver)=>(bif bif bif bif bif bif bif bif true then true else false then decide ((8:Int)=8) else false then decide ((2:Int)=2) else false then true else false then true else false then decide ((8:Int)=8) else false then decide ((8:Int)=8) else false then decide (n=8) else false)=true->q36 [.agg [AV.nils]] x) λn_1=>.all (λ(x:Int)=>(bif bif bif bif bif bif bif bif true then true else false then decide ((8:Int)=8) else false then decide ((2:Int)=2) else false then true else false then true else false then decide ((8:Int)=8) else false then decide ((8:Int)=8) else false then decide (n=8) else false)=true->x=errV n_1) λn_2=>.R [.bool (bif bif bif bif bif bif bif bif bif bif bif bif bif bif bif true then true else false then decide ((8:Int)=8) else false then decide ((2:Int)=2) else false then true else false then true else false then decide ((8:Int)=8) else false then decide ((8:Int)=8) else false then decide (n=8) else false then decide (n_2=8) else false then decide ((0:Int)=0) else false then decide ((100:Int)=100) else false then decide ((22:Int)=22) else false then decide ((40:Int)=40) else false then decide ((8:Int)=8) else false then decide ((30:Int)=30) else false)] [.box [.sl 2 13 (verG exV)],.box [.int .u8 1,.str [],.str [],.str [],.int .u8 0,.str [],.str [],.i 0,.nils,.i 0,.nils,.nils],.box [.sl 3 13 (verG bV)],.box [.sl 2 13 (verG exV)],.box [.sl 1 13 (verG dV)],.box [.int .u8 3,.str cE0.src,.str cE0.dst,.str cE0.name,.int .u8 0,.str (Ex.rat cE0.x),.str (Ex.name cE0.x),.i 0,.sl 0 5 (Ex.exG (Ex.sub cE0.x)),.i 0,.sl 0 1 (Con.dayG cE0.days),.sl 2 12 (Con.deep cE0)],.box [.int .u8 6,.str cE3.src,.str cE3.dst,.str cE3.name,.int .u8 0,.str (Ex.rat cE3.x),.str (Ex.name cE3.x),.i 0,.sl 0 5 (Ex.exG (Ex.sub cE3.x)),.i 20,.sl 0 1 (Con.dayG cE3.days),.sl 1 12 (Con.deep cE3)],.dead,.box [.sl 2 13 (zg (verG badV) 0)],.box [.sl 100 13 (verG (zsV 100))],.box [.sl 1 13 (verG misV)]]) ?_;simp only [q36,q61,Tree.holds,zd,inR,lo,hi,aD];refine⟨(),λ_=>⟨trivial,trivial⟩,⟨(),λ_=>trivial⟩,λ_ _=> ?_⟩;refine⟨badV,λ_=>⟨⟨JN,trivial⟩,by decide,zaw⟩,⟨_,λ_=>rfl⟩,λe he=> ?_⟩;obtain rfl:e=8:=by rw [he rfl]; exact zi9
 refine⟨[],λ_=>⟨⟨zlx,trivial⟩,by decide,λi hi=>absurd hi (Nat.not_lt_zero _)⟩,⟨_,λ_=>rfl⟩,λe he=> ?_⟩;obtain rfl:e=8:=by rw [he rfl]; exact zi8
 exact RetR.scal hq rfl (by simp [resV])
end Go.Proofs.Tryz
end
section
namespace Go.Sx
variable [Stat]
open Go.RowKit (Below)
def E0:Nat->Prop:=Own (λ_=>False) []
theorem zd1(b:Nat):¬ E0 b:=by
 rintro(h | ⟨e,he,_⟩)
 ·exact h
 ·simp at he
section
variable {P:Program} {W:World} {t e:TypeId} {cs:List Value}
theorem zfq{g:Nat}{fn:Func}{c:Code}(hf:P.funcs[g]?=some fn)(hb:fn.body=some c) (hn:(fn.name == "runtime.NumGoroutine")=false) {ctr:Ctr} (hok:zf P g ctr) {args:List AV} {vals:List Value}
  (hspec:(ctr.spec args []).holds λr=>r=(.bool true,[])) (hr:RepL E0 W args [] vals) (hst:kr E0 W):Calls P g vals.toArray W λe W'=>e = .returned (.bool true)/\Below W.heap.size W W':=by
 have hn':¬ fn.name = "runtime.NumGoroutine" :=by simpa using hn
 have hg:Good (λ_=>False) W []:=⟨λb h=>h.elim,λi e ad he=>by simp at he,hst⟩;have hh:HRep (Own (λ_=>False) []) W [] []:=⟨rfl,λi j e f a b he=>by simp at he,λi e a he=>by simp at he,λi e b he=>by simp at he⟩;rcases hok args [] _ hspec (λ_=>rfl) (λ_=>False) W [] vals hg hh hr with ⟨_,h⟩ | ⟨v,w',h,_⟩
 ·refine h.mono ?_;rintro e W' ⟨v,rfl,r,hs,Z',hq,h1,_,_,_,_,hx⟩;cases hq;simp only [Rep] at h1;subst h1;exact⟨rfl,hx.os,hx.tape,hx.output,hx.size,λk hk=>hx.keep k hk λ⟨e,he,_⟩=>by simp at he⟩
 ·simp [callFunc,hf,hn',hb] at h
end
end Go.Sx
end
section
namespace Go.Sx
variable [Stat]
section
variable {P:Program} {W:World} {t e:TypeId} {cs:List Value}
theorem zhs{H:Type}{enc:TypeId×Value->H}{base:Nat}{sp:Nat->Bool}{held:Bool}{fuel:Nat}{kd:IntKind}{ps:List Int}{q:List MemPlace}(ht:P.underlying t=some (.slice e))(he:P.underlying e=some (.int kd))(hc:P.cellsOf e=1)(hne:ps≠[])
  (h:DataW.trod enc P W base sp held fuel t cs=some (.slice (ps.map λz=>.lit (.int kd z)) [],q)):∃ c,cs=[c]/\c.oneCell'=true/\Rep E0 W (.sl ps.length 1 λj _=>.int kd (ps.getD j 0)) [] c:=by
 obtain⟨a,cap,rfl,hl,hel⟩:=open_row ht hc h;refine⟨_,rfl,rfl,?_⟩;simp only [List.length_map] at hl
 have hv:∀ j,j<ps.length->W.cell? (a.add j)=some (.int kd (ps.getD j 0)):=λj hj=>by
  obtain⟨v,n,q',h1,h2⟩:=hel j (.lit (.int kd (ps.getD j 0))) (by simp [List.getD,hj]);obtain⟨m,h3,h4,_⟩:=DataW.trod_int he h2;simp only [List.cons.injEq,and_true] at h3;simp only [bE,DataW.lit.injEq,Lit.int.injEq,true_and] at h4;rw [h1,h3,h4.1]
 simp only [Rep,List.length_map];refine⟨some a,cap,rfl,hl,.inr ⟨a,rfl,?_,λj o hj ho=>⟨zd1 _,.int kd (ps.getD j 0),?_,rfl,rfl⟩⟩⟩
 ·have:=World.cell?_spot (hv 0 (List.length_pos_iff.2 hne));simpa [Addr.add] using this
 ·have:o=0:=by omega
  subst this
  have hs:a.spot=none:=by
   have:=World.cell?_spot (hv 0 (List.length_pos_iff.2 hne));simpa [Addr.add] using this
  rw [<- hv j hj];obtain⟨b,off,spot⟩:=a;simp only at hs;subst hs;congr 1;simp only [Addr.add];split<;>simp_all
end
section
open Go.WideElems Go.ChangeMaps
variable {H:Type} {enc:TypeId×Value->H} {P:Program} {W:World} {base:Nat} {sp:Nat->Bool} {held:Bool}
theorem Jl{x:Lit×DataW H} : ∀ {l:List (Lit×DataW H)},x∈l.foldr DataW.insert []↔x∈l
 | []=>Iff.rfl
 | y::l=>by rw [List.foldr_cons,mem_insert_iff,Jl,aM]
theorem KO{g:Nat}{t k e:TypeId}{kd:IntKind}{ag:Bool}{sz:Nat}{ks:List Int}{has:Int->Bool}{get:Int->Nat->AV}{fuel:Nat}{c:Value}{es0:List (Lit×DataW H)}{q:List MemPlace}
  (hg:(Stat.z g).isSome=true) (ht:P.underlying t=some (.map k e)) (hk:P.underlying k=some (.int kd)) (hc:W.cell? ⟨g,0,none⟩=some c) (hne:es0≠[])
  (h:DataW.trod enc P W base sp held fuel t [c]=some (.map es0,q))
  (hin:∀ (n:Int) (d:DataW H),(.int kd n,d)∈es0->has n=true/\∀ (v:Value) (m:Nat) (q:List MemPlace),v.formed P e=true->DataW.trod enc P W base sp held m e v.cells.toList=some (d,q) ->
   match ag with
   | true=>∃ vs:List Value,v = .agg vs.toArray/\vs.length=sz/\∀ o,o<sz->∃ c,vs[o]?=some c/\Rep E0 W (get n o) [] c
   | false=>Rep E0 W (get n 0) [] v)
  (hout:∀ n,has n=true->∃ d,(.int kd n,d)∈es0):Rep E0 W (.mp kd ag sz ks has get) [] c/\∀ b,c = .map (some b)->b<W.heap.size:=by
 rcases open_map ht h with ⟨_,hx⟩ | ⟨b,es,clock,n,_,hcs,hb,_,F,hx⟩
 ·simp at hx
 ·simp only [List.cons.injEq,and_true] at hcs;subst hcs;simp only [bE,DataW.map.injEq] at hx
  have hkey:∀ x∈es.toList,∃ (m:Int) (z:DataW H×List MemPlace),x.key = .int kd m/\elemAt enc P W base sp held n e x.val=some z/\(.int kd m,z.1)∈es0:=by
   intro x hxm;obtain⟨y,hy⟩:=F.reads x hxm;have h1:=rd_key hy;obtain⟨z,h2,h3⟩:=rd_val hy;have h4:y∈es0:=by rw [hx.1,Jl]; exact List.mem_map.2 ⟨x,hxm,rg_of hy⟩
   have h5:mapKey P k x.key=some y.1:=by
    simp only [keyOf,hk] at h1;exact h1
   unfold mapKey at h5;rw [hk] at h5;cases hxk:x.key with
   | int k' m=>
    rw [hxk] at h5;simp only at h5;split at h5
    ·rename_i hc2;have h6:=Option.some.inj h5;obtain⟨rfl,_⟩:=hc2;refine⟨m,z,rfl,h2,?_⟩;rw [h6,<- h3]; exact h4
    ·cases h5
   | _=>rw [hxk] at h5; simp at h5
  have hlt:b<W.heap.size:=(aQ.1 hb).1;refine⟨?_,λb' hb'=>by cases hb'; exact hlt⟩;simp only [Rep];refine⟨b,es,clock,rfl,zd1 _,⟨g,zd1 _,hg,hc⟩,hb,λm=> ?_⟩
  have hspec:=MapKept.findNow_spec (d:=.int kd) (k:=.int kd m) (by simp [MapKept.IsKey]) es.toList 0 (λx hxm=>by
   obtain⟨m',z,h1,_⟩:=hkey x hxm;rw [h1]; simp [MapKept.IsKey])
  rcases hspec with ⟨h1,h2⟩ | ⟨j,x,h1,h2,h3⟩
  ·refine⟨λ_=>h1,λhm=> ?_⟩;obtain⟨d,hd⟩:=hout m hm;rw [hx.1,Jl] at hd;obtain⟨x,hxm,hrx⟩:=List.mem_map.1 hd;obtain⟨y,hy⟩:=F.reads x hxm;rw [rg_of hy] at hrx;have h5:=rd_key hy;rw [hrx] at h5;obtain⟨m',z,g1,_⟩:=hkey x hxm
   have:keyOf P k x.key=some (.int kd m'):=by
    rw [g1] at h5 ⊢;simp only [keyOf,hk,mapKey] at h5 ⊢;split at h5
    ·rename_i hwf; rw [aP hwf]
    ·cases h5
   rw [this] at h5;cases h5;exact absurd g1 (h2 x hxm)
  ·have hxm:x∈es.toList:=aY h2;obtain⟨m',z,g1,g2,g3⟩:=hkey x hxm;rw [h3] at g1;cases g1;obtain⟨hh,hrep⟩:=hin m z.1 g3;refine⟨λhf=>(by rw [hf] at hh; cases hh),λ_=>⟨_,x.val,h1,?_⟩⟩;unfold elemAt at g2;split at g2
   ·rename_i hfm;exact hrep x.val n z.2 hfm g2
   ·cases g2
end
end Go.Sx
end
section
set_option maxRecDepth 100000
namespace Go.Proofs.YtihplbclhhhgdaaGreatDoor
open Go Go.Sx Go.Nov Go.Proofs.Tryz Go.ChangeShapes Go.WideShapes Go.ChangeAt Go.RowKit
theorem YU:Tryz.prog.cellsOf 191=1:=by kernel_rfl
theorem zlw:Tryz.prog.cellsOf 229=1:=by kernel_rfl
theorem zkc:Tryz.prog.cellsOf 231=2:=by kernel_rfl
def shpE(H:Type):List (Lit×DataW H):=shpL.map λp=>(.int .u8 p.1,.agg [.slice (p.2.1.map λz=>.lit (.int .u8 z)) [],.lit (.int .u8 p.2.2)])
theorem zm4:∀ p∈shpL,yL p.1=some p.2/\p.2.1≠[]:=by decide
theorem zmp{k:Int}(h:qS k=true):∃ q,(k,q)∈shpL:=by
 unfold qS yL at h;rw [Option.isSome_map] at h;obtain⟨p,hp⟩:=Option.isSome_iff_exists.1 h;have h1:=List.find?_some hp;have h2:=List.mem_of_find?_eq_some hp;have:p.1=k:=by simpa using h1
 exact⟨p.2,by rw [<- this]; exact h2⟩
theorem U4{W:World}{cs:List Value}{fuel:Nat}{q:List MemPlace}{c:Value}(hc:W.cell? ⟨1,0,none⟩=some c)
  (h:DataW.trod (λ_=>()) Tryz.prog W 0 (λ_=>true) false fuel 233 [c]=some (.map (shpE Unit),q)) :
  Rep E0 W (.mp .u8 true 2 [] (λk=>qS k) λk o=>match o with
   | 0=>.sl (jO k) 1 λj _=>.int .u8 (qX k j)
   | _=>.int .u8 (jv k)) [] c/\∀ b,c = .map (some b)->b<W.heap.size:=by
 refine KO (g:=1) rfl Tryz.underlying233 Tryz.underlying5 hc (by decide) h ?_ ?_
 ·intro n d hd;obtain⟨p,hp,he⟩:=List.mem_map.1 hd;obtain⟨h1,h2⟩:=zm4 p hp;simp only [bE,Lit.int.injEq,true_and] at he;obtain⟨rfl,rfl⟩:=he;refine⟨by simp [qS,h1],λv m q' hf ht=> ?_⟩;obtain⟨xs,n',_,hx,hl,hlen,hfs⟩:=DataW.trod_struct Tryz.underlying231 ht;rw [zkc] at hl;cases v with
  | agg cs=>
   simp only [Value.cells] at hl hfs;obtain⟨cs⟩:=cs;simp only at hl hfs
   match cs,hl with
   | [a,b],_=>
    have f0:DataW.trod _ Tryz.prog W 0 _ false n' 229 (([a,b].drop 0).take (Tryz.prog.cellsOf 229))=xs[0]?:=hfs 0 _ rfl;have f1:DataW.trod _ Tryz.prog W 0 _ false n' 191 (([a,b].drop 1).take (Tryz.prog.cellsOf 191))=xs[1]?:=hfs 1 _ rfl;rw [zlw] at f0;rw [YU] at f1
    match xs,hlen with
    | [x0,x1],_=>
     simp only [List.map_cons,List.map_nil,bE,DataW.agg.injEq,List.cons.injEq,and_true] at hx;obtain⟨⟨hx0,hx1⟩,_⟩:=hx;have f0:DataW.trod _ Tryz.prog W 0 _ false n' 229 [a]=some x0:=f0;have f1:DataW.trod _ Tryz.prog W 0 _ false n' 191 [b]=some x1:=f1;obtain⟨x0a,x0b⟩:=x0;obtain⟨x1a,x1b⟩:=x1;simp only at hx0 hx1;subst hx0; subst hx1;obtain⟨c0,e0,_,hr⟩:=zhs Tryz.underlying229 Tryz.underlying191 YU h2 f0;cases e0;obtain⟨z,e1,e2,_⟩:=DataW.trod_int Tryz.underlying191 f1;cases e1;simp only [bE,DataW.lit.injEq,Lit.int.injEq,true_and] at e2;refine⟨[a,.int .u8 z],rfl,rfl,λo ho=> ?_⟩;have g1:qw p.1=p.2.1:=by simp [qw,h1]
     have g2:jv p.1=p.2.2:=by simp [jv,h1]
     match o,ho with
     | 0,_=>
      refine⟨a,rfl,?_⟩;show Rep E0 W (.sl (jO p.1) 1 λj _=>.int .u8 (qX p.1 j)) [] a;unfold jO qX;rw [g1];exact hr
     | 1,_=>
      refine⟨_,rfl,?_⟩;show Rep E0 W (.int .u8 (jv p.1)) [] _;simp only [Rep];rw [g2,e2.1]
  | _=>simp [Value.formed,Tryz.underlying231] at hf
 ·intro n hn;obtain⟨q',hq⟩:=zmp hn;exact⟨_,List.mem_map.2 ⟨_,hq,rfl⟩⟩
theorem znh:Tryz.prog.globalNamed "novation/observable.shapes" = some 1:=by kernel_rfl
theorem zou:(Tryz.prog.globals[1]?).map (·.type)=some 233:=by kernel_rfl
theorem zmg:(Rows.laid_novation_observable_shapes:DataW Unit) = .map (shpE Unit):=rfl
theorem zt0:Tryz.prog.globalNamed "novation/contract.parts" = some 0:=by kernel_rfl
theorem zrq:(Tryz.prog.globals[0]?).map (·.type)=some 142:=by kernel_rfl
def prtE:List (Lit×DataW Unit):=[(.int .u8 1,.lit (.int .i64 0)),(.int .u8 2,.lit (.int .i64 15)),(.int .u8 3,.lit (.int .i64 256)),(.int .u8 4,.lit (.int .i64 136)),(.int .u8 5,.lit (.int .i64 272)),(.int .u8 6,.lit (.int .i64 160)),(.int .u8 7,.lit (.int .i64 261)),(.int .u8 8,.lit (.int .i64 197)),(.int .u8 9,.lit (.int .i64 208)),(.int .u8 10,.lit (.int .i64 208))]
theorem zjp:(Rows.laid_novation_contract_parts:DataW Unit) = .map prtE:=rfl
abbrev Ks:List (String×DataW Unit):=[("novation/observable.shapes",Rows.laid_novation_observable_shapes),("novation/observable.operations",Rows.laid_novation_observable_operations),("novation/contract.parts",Rows.laid_novation_contract_parts)]
theorem zeg{W:World}{cs:List Value}{fuel:Nat}{q:List MemPlace}{c:Value}(hc:W.cell? ⟨0,0,none⟩=some c)
  (h:DataW.trod (λ_=>()) Tryz.prog W 0 (λ_=>true) false fuel 142 [c]=some (.map prtE,q)) :
  Rep E0 W (.mp .u8 false 1 [] (λk=>decide (1<=k/\k<=10)) λk _=>.i (kL k)) [] c/\∀ b,c = .map (some b)->b<W.heap.size:=by
 refine KO (g:=0) rfl Tryz.underlying142 Tryz.underlying5 hc (by decide) h ?_ ?_
 ·intro n d hd
  have one:∀ {v:Value} {m:Nat} {q:List MemPlace} {z:Int},v.formed Tryz.prog 3=true->DataW.trod (λ_=>()) Tryz.prog W 0 (λ_=>true) false m 3 v.cells.toList=some (.lit (.int .i64 z),q)->Rep E0 W (.i z) [] v:=by
   intro v m q z hf ht
   have hcell:v.cells.toList=[v]:=by
    cases v with
    | agg _=>simp [Value.formed,Tryz.underlying3] at hf
    | _=>rfl
   rw [hcell] at ht;obtain⟨z',e1,e2,_⟩:=DataW.trod_int Tryz.underlying3 ht;cases e1;simp only [bE,DataW.lit.injEq,Lit.int.injEq,true_and] at e2;simp only [Rep];rw [e2.1]
  simp only [prtE,aM,bE,Lit.int.injEq,true_and,List.not_mem_nil,or_false] at hd;rcases hd with ⟨rfl,rfl⟩ | ⟨rfl,rfl⟩ | ⟨rfl,rfl⟩ | ⟨rfl,rfl⟩ | ⟨rfl,rfl⟩ | ⟨rfl,rfl⟩ | ⟨rfl,rfl⟩ | ⟨rfl,rfl⟩ | ⟨rfl,rfl⟩ | ⟨rfl,rfl⟩<;>exact⟨rfl,λv m q hf ht=>one hf ht⟩
 ·intro n hn;have hn:=aB hn;have:n=1\/n=2\/n=3\/n=4\/n=5\/n=6\/n=7\/n=8\/n=9\/n=10:=by omega
  rcases this with rfl | rfl | rfl | rfl | rfl | rfl | rfl | rfl | rfl | rfl<;>exact⟨_,by unfold prtE; simp; rfl⟩
theorem zit{W:World} (h:laidMet Tryz.prog [("novation/observable.shapes",Rows.laid_novation_observable_shapes),("novation/contract.parts",Rows.laid_novation_contract_parts)] W):(∃ c,W.cell? ⟨1,0,none⟩=some c /\
  Rep E0 W (.mp .u8 true 2 [] (λk=>qS k) λk o=>match o with
   | 0=>.sl (jO k) 1 λj _=>.int .u8 (qX k j)
   | _=>.int .u8 (jv k)) [] c/\∀ b,c = .map (some b)->b<W.heap.size)/\∃ c,W.cell? ⟨0,0,none⟩=some c /\
  Rep E0 W (.mp .u8 false 1 [] (λk=>decide (1<=k/\k<=10)) λk _=>.i (kL k)) [] c/\∀ b,c = .map (some b)->b<W.heap.size:=by
 obtain⟨ps,⟨g0,t0,cs0,f0,p0,q0,hg0,ht0,hv0,hd0,hr0,_⟩,_,_⟩:=h;obtain⟨g1,t1,cs1,f1,p1,q1,hg1,ht1,hv1,hd1,_,_⟩:=hr0;obtain rfl:=Option.some.inj (znh.symm.trans hg0);obtain rfl:=Option.some.inj (zou.symm.trans ht0);obtain rfl:=Option.some.inj (zt0.symm.trans hg1);obtain rfl:=Option.some.inj (zrq.symm.trans ht1);rw [zmg] at hd0;rw [zjp] at hd1
 have hone:∃ c,cs0.toList=[c]:=by
  rcases Go.WideElems.open_map Tryz.underlying233 hd0 with ⟨hcs,_⟩ | ⟨b,es,clock,n,_,hcs,_⟩
  ·exact⟨_,hcs⟩
  ·exact⟨_,hcs⟩
 have hone1:∃ c,cs1.toList=[c]:=by
  rcases Go.WideElems.open_map Tryz.underlying142 hd1 with ⟨hcs,_⟩ | ⟨b,es,clock,n,_,hcs,_⟩
  ·exact⟨_,hcs⟩
  ·exact⟨_,hcs⟩
 obtain⟨c,hcs⟩:=hone;obtain⟨c',hcs'⟩:=hone1;rw [hcs] at hd0;rw [hcs'] at hd1
 have k1:W.cell? ⟨1,0,none⟩=some c:=by
  have:=World.var?_cell hg0 hv0 0;rw [Array.eq_one_of_toList hcs] at this;simpa using this
 have k2:W.cell? ⟨0,0,none⟩=some c':=by
  have:=World.var?_cell hg1 hv1 0;rw [Array.eq_one_of_toList hcs'] at this;simpa using this
 obtain⟨r1,b1⟩:=U4 (cs:=[c]) k1 hd0;obtain⟨r2,b2⟩:=zeg (cs:=[c']) k2 hd1;exact⟨⟨c,k1,r1,b1⟩,c',k2,r2,b2⟩
theorem gOps:Tryz.prog.globalNamed "novation/observable.operations" = some 2:=by kernel_rfl
theorem tOps:(Tryz.prog.globals[2]?).map (·.type)=some 237:=by kernel_rfl
def opNm(b:L8):L8:=[40,42,110,111,118,97,116,105,111,110,47,111,98,115,101,114,118,97,98,108,101,46,115,116,97,116,101,41,46]++b
def opEs:List (Lit×DataW L8):=[(.int .u8 4,.held (opNm [97,100,100])),(.int .u8 5,.held (opNm [115,117,98])),(.int .u8 6,.held (opNm [109,117,108])),(.int .u8 7,.held (opNm [103,114,101,97,116,101,114])),(.int .u8 8,.held (opNm [115,109,97,108,108,101,114]))]
def opsD:DataW Unit:=.map [(.int .u8 4,.iface "func" (.lit (.string (opNm [97,100,100])))),(.int .u8 5,.iface "func" (.lit (.string (opNm [115,117,98])))),(.int .u8 6,.iface "func" (.lit (.string (opNm [109,117,108])))),(.int .u8 7,.iface "func" (.lit (.string (opNm [103,114,101,97,116,101,114])))),(.int .u8 8,.iface "func" (.lit (.string (opNm [115,109,97,108,108,101,114]))))]
theorem zoa:(Rows.laid_novation_observable_operations:DataW Unit) = .iface "func table" opsD:=rfl
theorem zjb:opsD.funcsOut = .map opEs:=rfl
theorem znf{W:World}{cs:List Value}{fuel:Nat}{q:List MemPlace}{c:Value}(hc:W.cell? ⟨2,0,none⟩=some c)
  (h:DataW.trod (funcToken Tryz.prog) Tryz.prog W 0 (λ_=>true) true fuel 237 [c]=some (.map opEs,q)) :
  Rep E0 W (.mp .u8 false 1 [4,5,6,7,8] (λk=>decide (4<=k/\k<=8)) λk _=>
  if k=4 then .fn 238 [] [] else if k=5 then .fn 239 [] [] else if k=6 then .fn 240 [] []
  else if k=7 then .fn 241 [] [] else .fn 242 [] []) [] c/\∀ b,c = .map (some b)->b<W.heap.size:=by
 refine KO (g:=2) rfl Tryz.underlying237 Tryz.underlying5 hc (by decide) h ?_ ?_
 ·intro n d hd
  have one:∀ {v:Value} {m:Nat} {q:List MemPlace} {bs:L8} {f0:Nat},((List.range Tryz.prog.funcs.size).filter λf=>(Tryz.prog.funcs[f]?).any (·.name.toUTF8.data.toList == 40::bs))=[f0] ->
    v.formed Tryz.prog 236=true->DataW.trod (funcToken Tryz.prog) Tryz.prog W 0 (λ_=>true) true m 236 v.cells.toList=some (.held (40::bs),q)->Rep E0 W (.fn f0 [] []) [] v:=by
   intro v m q bs f0 hone hf ht
   have hcell:v.cells.toList=[v]:=by
    cases v with
    | agg _=>simp [Value.formed,Tryz.underlying236] at hf
    | _=>rfl
   rw [hcell] at ht;have:=func_of_trod Tryz.underlying236 hone ht;subst this;simp [Rep,RepL]
  simp only [opEs,aM,bE,Lit.int.injEq,true_and,List.not_mem_nil,or_false] at hd;rcases hd with ⟨rfl,rfl⟩ | ⟨rfl,rfl⟩ | ⟨rfl,rfl⟩ | ⟨rfl,rfl⟩ | ⟨rfl,rfl⟩
  ·exact⟨rfl,λv m q hf ht=>one (f0:=238) (by kernel_rfl) hf ht⟩
  ·exact⟨rfl,λv m q hf ht=>one (f0:=239) (by kernel_rfl) hf ht⟩
  ·exact⟨rfl,λv m q hf ht=>one (f0:=240) (by kernel_rfl) hf ht⟩
  ·exact⟨rfl,λv m q hf ht=>one (f0:=241) (by kernel_rfl) hf ht⟩
  ·exact⟨rfl,λv m q hf ht=>one (f0:=242) (by kernel_rfl) hf ht⟩
 ·intro n hn;have hn:=aB hn;have:n=4\/n=5\/n=6\/n=7\/n=8:=by omega
  rcases this with rfl | rfl | rfl | rfl | rfl
  ·exact⟨_,.head _⟩
  ·exact⟨_,.tail _ (.head _)⟩
  ·exact⟨_,.tail _ (.tail _ (.head _))⟩
  ·exact⟨_,.tail _ (.tail _ (.tail _ (.head _)))⟩
  ·exact⟨_,.tail _ (.tail _ (.tail _ (.tail _ (.head _))))⟩
theorem zn1{W:World}(h:laidMetH Tryz.prog Ks W):kr E0 W:=by
 have h1:laidMet Tryz.prog [("novation/observable.shapes",Rows.laid_novation_observable_shapes),("novation/contract.parts",Rows.laid_novation_contract_parts)] W:=h.1;have h2:=laidMetH.funcs h (n:= "novation/observable.operations") (d:=opsD) (by simp [Ks,zoa]);obtain⟨⟨c1,k1,r1,b1⟩,c3,k3,r3,b3⟩:=zit h1;obtain⟨g0,t0,cs0,f0,p0,hg0,ht0,hv0,hd0⟩:=h2;obtain rfl:=Option.some.inj (gOps.symm.trans hg0);obtain rfl:=Option.some.inj (tOps.symm.trans ht0);rw [zjb] at hd0
 have hone:∃ c,cs0.toList=[c]:=by
  rcases Go.WideElems.open_map Tryz.underlying237 hd0 with ⟨hcs,_⟩ | ⟨b,es,clock,n,_,hcs,_⟩
  ·exact⟨_,hcs⟩
  ·exact⟨_,hcs⟩
 obtain⟨c2,hcs⟩:=hone;rw [hcs] at hd0
 have k2:W.cell? ⟨2,0,none⟩=some c2:=by
  have:=World.var?_cell hg0 hv0 0;rw [Array.eq_one_of_toList hcs] at this;simpa using this
 obtain⟨r2,b2⟩:=znf (cs:=[c2]) k2 hd0;refine⟨λg a hz=>⟨zd1 _,?_⟩⟩;by_cases hg:g=1
 ·subst hg;cases hz;exact⟨c1,k1,r1,b1⟩
 ·by_cases hg2:g=2
  ·subst hg2;cases hz;exact⟨c2,k2,r2,b2⟩
  ·by_cases hg3:g=0
   ·subst hg3;cases hz;exact⟨c3,k3,r3,b3⟩
   ·have:Stat.z g=none:=by
     show(if _ then _ else if _ then _ else if _ then _ else _)=_;rw [aO hg,aO hg3,aO hg2]
    rw [this] at hz; cases hz
theorem walk{W:World}  (hst:kr E0 W) :
  Calls Tryz.prog 8 #[] W λe W'=>e = .returned (.bool true)/\Below W.heap.size W W':=by
 refine zfq (fn:=Tryz.f8) (c:=Tryz.f8.body.getD .skip) rfl rfl rfl zib (args:=[]) (vals:=[]) ?_ ?_ hst
 ·refine⟨(),⟨?_,trivial⟩,⟨true,rfl⟩,?_⟩
  ·simp [eqL,eqA,eqA0,eqL0,envA,fxS,chS,Fx.av,Ch.av,Ex.exA,Ex.exS,za]
  ·rintro _ rfl;rfl
 ·exact rfl
theorem own:ownKnob Tryz.prog.godebug=none:=by kernel_rfl
theorem zgm(os:Os)(args:Array Value):laidMetH Tryz.prog Ks ((World.doorLaid Tryz.prog 400 os).forCall (λ_ _=>0) ⟨#[],args,[]⟩).memory:=
 laidMetH_of_parts3 (fuel:=8) (laidMet_of_run' 8 (by kernel_rfl) (by kernel_rfl)) (by kernel_rfl) (by kernel_rfl)
theorem lifted(os:Os)(started:os.Started)(H:Type)(enc:TypeId×Value->H) :
  ReturnsInHanded {} Tryz.checked os 8 .any (λw args=>(Rows.amendNamesSpec.pre enc Tryz.prog Tryz.f8 [] false w args/\laidMetH Tryz.prog Ks w)/\sizedMet enc Tryz.prog Tryz.f8 (OpenSpec.ofChange Rows.amendNamesSpec) false w args)
   (Rows.amendNamesSpec.post enc Tryz.prog Tryz.f8 false true false false):=by
 refine returnsInHanded_of_change_and (C:=Tryz.checked) (X:=λw _=>laidMetH Tryz.prog Ks w) (λ_ _ _ hh h=>h.of_heap hh) own started (by kernel_rfl) Tryz.func8
  (ChangeSpec.witness_shaped (enc:=enc) (C:=Tryz.checked) (os:=os) (X:=λw _=>laidMetH Tryz.prog Ks w) false (World.doorLaid Tryz.prog 400 os) #[] 8 rfl (World.shaped_of_RefB (by kernel_rfl) (by kernel_rfl)) (by kernel_rfl) (by kernel_rfl) (by kernel_rfl) (zgm os _)) ?_
 intro W base args ds gs before hval0 hW hcnd hwt hL _;have hval:∀ (j:Nat) t v,Tryz.f8.params[j]?=some t->args[j]?=some v->Value.okWide Tryz.prog W .any base t v:=hval0;have hW':=hW;obtain⟨p,q,hA0,hV,rfl,hfz,hnd⟩:=hW;have hA:DataW.TrodAll enc Tryz.prog W 0 (λ_=>true) true Tryz.f8.params.toList args.toList ds p:=hA0;rw [Tryz.params8] at hA hval;obtain⟨hargs,rfl,rfl⟩:=trodAll_nil hA;obtain rfl:args = #[]:=by cases args; simp_all
 obtain⟨rfl,rfl⟩:=trodVars_none hV;clear hA0 hval0;simp only [List.append_nil] at hW' hwt;have hcall:=walk (W:=W)  (zn1 hL);refine hcall.mono λe W' ⟨he,hb⟩=> ?_
 subst he;refine⟨_,rfl,_,_,_,[],[],[],hW',trodAll_mk1 (shut_bool Tryz.underlying4 true),?_,rfl,hb.frame _,λh=>by cases h⟩;exact trodAll_mk0
theorem over:Rows.amendNamesRow.holds Tryz.pinned (OpenSpec.ofChange Rows.amendNamesSpec):=
 OpenClaim.holds_of_wide 8 Tryz.f8 rfl rfl rfl rfl rfl rfl rfl ⟨rfl,rfl,rfl,rfl,rfl⟩ rfl rfl rfl rfl rfl (by kernel_rfl) Tryz.func8 (by kernel_rfl)
  (aB (by kernel_rfl)) (by unfold Func.isWrapper; first | (rw [aP (by decide +kernel)]; kernel_rfl) | (rw [aO (by decide +kernel)]; exact⟨rfl,rfl⟩))
  (λos started H enc _=>lifted os started H enc)
theorem Q7:Rows.AmendNamesSaid:=over
theorem amendNames_holds:Rows.AmendNamesCardSaid:=
 Claim7.holds_tied_plain_at .later [] [.mappedDeep,.funcs,.mapped] true (true, "5a5bde0e4a7e055d95545a1a53a708b7623a4ebd1245c3f7baff83f2d488665e") true
  Q7 (λ_ h=>by cases h) (by kernel_rfl) (λ_ h=>by cases h) amendNames_row_tie rfl ⟨rfl,rfl⟩ (by kernel_rfl) rfl
  (λf fn hf hfn=>by
   obtain rfl:f=8:=Option.some.inj ((show Tryz.prog.funcNamed "novation/novationlaw24.AmendNames" = some 8 by kernel_rfl).symm.trans hf) |>.symm;obtain rfl:fn=Tryz.f8:=(Option.some.inj (Tryz.func8.symm.trans hfn)).symm
   exact⟨by kernel_rfl,λj t ht=>by
    rw [Tryz.params8] at ht;simp at ht⟩)
  (by kernel_rfl)
end Go.Proofs.YtihplbclhhhgdaaGreatDoor
end
