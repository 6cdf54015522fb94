/- Part 9 of the proof. -/
import Derived.Test.YtpnllbdffdpoaaaGreatDoorSxc
import Derived.Test.YtpnllbdffdpoaaaGreatDoorSxb
import Derived.Test.YtpnllbdffdpoaaaGreatDoorSxh
import Derived.DefersIn
set_option linter.unusedVariables false
set_option linter.unusedSimpArgs false
set_option linter.unusedSectionVars false
section
set_option maxRecDepth 100000
open Go Go.Sx Go.Proofs Go.Nov
namespace Go.Proofs.Tryz
attribute [local simp] eqKV eqA eqA0 eqH eqB eqL eqL0
theorem zps{own:Nat->Prop}{w:World}{σ:List SE}{n sz:Nat}{g g':Nat->Nat->AV}{v:Value}(hg:eqG n sz g g')(h:Rep own w (.sl n sz g) σ v):Rep own w (.sl n sz g') σ v:=by
 simp only [Rep] at h ⊢;obtain⟨a,cap,h1,h2,h3⟩:=h;refine⟨a,cap,h1,h2,h3.imp id ?_⟩;rintro⟨ad,h4,h5,h6⟩;refine⟨ad,h4,h5,λj o hj ho=> ?_⟩;obtain⟨h7,c,h8,h9,h10⟩:=h6 j o hj ho;exact⟨h7,c,h8,h9,by rw [<- hg j o hj ho]; exact h10⟩
theorem Yl{own:Nat->Prop}{w:World}{σ:List SE}{n sz:Nat}{g:Nat->Nat->AV}{v:Value}(h:Rep own w (.sl n sz g) σ v):∃ a cap,v = .slice a n cap:=by
 simp only [Rep] at h;obtain⟨a,cap,h1,_⟩:=h;exact⟨a,cap,h1⟩
def Link(own:Nat->Prop)(w:World)(l:List Con)(m:List CT):Prop:=l.length=m.length/\∀ (i:Nat) (c:Con) (t:CT),l[i]?=some c->m[i]?=some t->Rep own w c.conA [] t.val
theorem Link.app{own:Nat->Prop}{w:World}{l l':List Con}{m m':List CT}(h:Link own w l m)(h':Link own w l' m'):Link own w (l++l') (m++m'):=by
 refine⟨by simp [h.1,h'.1],λi c t hc ht=> ?_⟩;rw [bT] at hc ht;rw [h.1] at hc;split at hc
 ·rename_i hi; rw [aP hi] at ht; exact h.2 i c t hc ht
 ·rename_i hi; rw [aO hi] at ht; exact h'.2 _ c t hc ht
theorem zot{own:Nat->Prop}{w:World}{c:Con}{vs:List Value}(h:RepL own w [.int .u8 c.kind,.str c.src,.str c.dst,.str c.name,.int .u8 c.x.kind,.str c.x.rat,.str c.x.name,.i c.x.date,Ex.exS c.x.sub,.i c.date,Con.dayS c.days,.sl c.sub.length 12 (Con.conG c.sub)] [] vs) :
  ∃ (p q r:Option Addr) (l m n:Nat),vs=[.int .u8 c.kind,.string ⟨c.src.toArray⟩,.string ⟨c.dst.toArray⟩,.string ⟨c.name.toArray⟩,.int .u8 c.x.kind,.string ⟨c.x.rat.toArray⟩,.string ⟨c.x.name.toArray⟩,.i c.x.date,.slice p c.x.sub.length l,.i c.date,.slice q c.days.length m,.slice r c.sub.length n]:=by
 simp only [RepL] at h;obtain⟨v0,_,rfl,h0,v1,_,rfl,h1,v2,_,rfl,h2,v3,_,rfl,h3,v4,_,rfl,h4,v5,_,rfl,h5,v6,_,rfl,h6,v7,_,rfl,h7,v8,_,rfl,h8,v9,_,rfl,h9,v10,_,rfl,h10,v11,_,rfl,h11,rfl⟩:=h;obtain⟨p,l,rfl⟩:=Yl h8;obtain⟨q,m,rfl⟩:=Yl h10;obtain⟨r,n,rfl⟩:=Yl h11;simp only [Rep] at h0 h1 h2 h3 h4 h5 h6 h7 h9;subst h0 h1 h2 h3 h4 h5 h6 h7 h9;exact⟨p,q,r,l,m,n,rfl⟩
theorem zwg{own:Nat->Prop}{w:World} : ∀ (n:Nat) (c:Con),c.nodes<=n->c.nodes<=1000000->∀ v,Rep own w c.conA [] v->∃ t:CT,t.val=v/\t.mem (j0 own w)/\Link own w c.all t.all:=by
 intro n
 induction n with
 | zero=>intro c h; have:=c.Xk; omega
 | succ n ih=>
  intro c hn hbig v hv;rw [Con.kg] at hn hbig;have hv0:=hv;simp only [Con.conA,Rep] at hv;obtain⟨vs,rfl,hr⟩:=hv;obtain⟨p,q,r,l,m,cap,hvs⟩:=zot hr
  have hsub:Rep own w (.sl c.sub.length 12 (Con.conG c.sub)) [] (.slice r c.sub.length cap):=by
   have:=(zy.1 hr).2 11 (.sl c.sub.length 12 (Con.conG c.sub)) (.slice r c.sub.length cap) rfl (by rw [hvs]; rfl);exact this
  have kidsL:∀ (s:List Con) (j:Nat),(∀ i e,s[i]?=some e->c.sub[j+i]?=some e)->(∀ e∈s,e.nodes<=n/\e.nodes<=1000000)->∃ kids:List CT,kids.length=s.length/\CT.mems (j0 own w) r j kids/\Link own w (Con.alls s) (CT.alls kids):=by
   intro s
   induction s with
   | nil=>intro j _ _; exact⟨[],rfl,trivial,by rw [Con.alls,CT.alls]; exact⟨rfl,λi c t h=>by simp at h⟩⟩
   | cons e s ihs=>
    intro j hat hall;obtain⟨ks,hk1,hk2,hk3⟩:=ihs (j+1) (λi e' he=>by have:=hat (i+1) e' (by simpa using he); rwa [show j+(i+1)=j+1+i by omega] at this) (λe' he=>hall e' (by simp [he]));have hej:=hat 0 e rfl;rw [Nat.add_zero] at hej;have hjl:j<c.sub.length:=(aG.1 hej).1;simp only [Rep] at hsub;obtain⟨r',cap',hrr,_,hz | ⟨ad,rfl,hspot,hcells⟩⟩:=hsub
    ·omega
    simp only [Value.slice.injEq] at hrr;obtain⟨rfl,_,rfl⟩:=hrr;have hce:c.sub.getD j Con.nil=e:=by simp [List.getD,hej]
    have cells:∀ o,o<12->¬ own ad.block/\∃ u,w.cell? ⟨ad.block,ad.off+(j*12+o),none⟩=some u/\u.oneCell'=true/\Rep own w (Con.cell e.kind e.src e.dst e.name e.x e.date e.days e.sub.length e.deep o) [] u:=by
     intro o ho;have:=hcells j o hjl ho;simp only [Con.conG,hce] at this;exact this
    obtain⟨hnb,u0,c0,_,r0⟩:=cells 0 (by decide);obtain⟨_,u1,c1,_,r1⟩:=cells 1 (by decide);obtain⟨_,u2,c2,_,r2⟩:=cells 2 (by decide);obtain⟨_,u3,c3,_,r3⟩:=cells 3 (by decide);obtain⟨_,u4,c4,_,r4⟩:=cells 4 (by decide);obtain⟨_,u5,c5,_,r5⟩:=cells 5 (by decide);obtain⟨_,u6,c6,_,r6⟩:=cells 6 (by decide);obtain⟨_,u7,c7,_,r7⟩:=cells 7 (by decide);obtain⟨_,u8,c8,_,r8⟩:=cells 8 (by decide);obtain⟨_,u9,c9,_,r9⟩:=cells 9 (by decide);obtain⟨_,u10,c10,_,r10⟩:=cells 10 (by decide);obtain⟨_,u11,c11,_,r11⟩:=cells 11 (by decide)
    have hrep:Rep own w e.conA [] (.agg #[u0,u1,u2,u3,u4,u5,u6,u7,u8,u9,u10,u11]):=by
     simp only [Con.conA];rw [Rep];refine⟨[u0,u1,u2,u3,u4,u5,u6,u7,u8,u9,u10,u11],rfl,?_⟩;simp only [RepL];exact⟨_,_,rfl,r0,_,_,rfl,r1,_,_,rfl,r2,_,_,rfl,r3,_,_,rfl,r4,_,_,rfl,r5,_,_,rfl,r6,_,_,rfl,r7,_,_,rfl,r8,_,_,rfl,r9,_,_,rfl,r10,_,_,rfl,zps (Con.qm e) r11,rfl⟩
    obtain⟨hen,heb⟩:=hall e (by simp);obtain⟨t,ht1,ht2,ht3⟩:=ih e hen heb _ hrep;refine⟨t::ks,by simp [hk1],?_,by rw [Con.alls,CT.alls]; exact ht3.app hk3⟩;rw [CT.mems];refine⟨⟨ad,ad.block,ad.off+j*12,rfl,by obtain⟨ab,ao,as'⟩:=ad; simp only at hspot; subst hspot; exact Addr.add_lit ..,λW hW k u hu=> ?_⟩,ht2,hk2⟩
    have hcs:t.cells=[u0,u1,u2,u3,u4,u5,u6,u7,u8,u9,u10,u11]:=by
     have:t.val = .agg t.cells.toArray:=by cases t; rfl
     rw [this] at ht1;simp only [Value.agg.injEq] at ht1;have:=congrArg Array.toList ht1;simpa using this
    rw [hcs] at hu;rw [Nat.add_assoc];refine hW.cell hnb ?_;have hk12:k<12:=by have:=(aG.1 hu).1; simpa using this
    match k,hk12 with
    | 0,_=>cases hu; exact c0
    | 1,_=>cases hu; exact c1
    | 2,_=>cases hu; exact c2
    | 3,_=>cases hu; exact c3
    | 4,_=>cases hu; exact c4
    | 5,_=>cases hu; exact c5
    | 6,_=>cases hu; exact c6
    | 7,_=>cases hu; exact c7
    | 8,_=>cases hu; exact c8
    | 9,_=>cases hu; exact c9
    | 10,_=>cases hu; exact c10
    | 11,_=>cases hu; exact c11
  have hsz:∀ e∈c.sub,e.nodes<=Con.zz c.sub:=by
   intro e he;obtain⟨i,hi,rfl⟩:=List.getElem_of_mem he;have:=Con.vf (s:=c.sub) hi;simpa [List.getD,hi] using this
  obtain⟨kids,hk1,hk2,hk3⟩:=kidsL c.sub 0 (λi e he=>by rw [Nat.zero_add]; exact he) (λe he=>by have:=hsz e he; omega);have hlen:=Con.Kr c.sub;refine⟨.mk c.kind ⟨c.src.toArray⟩ ⟨c.dst.toArray⟩ ⟨c.name.toArray⟩ c.x.kind ⟨c.x.rat.toArray⟩ ⟨c.x.name.toArray⟩ c.x.date p c.x.sub.length l c.date q c.days.length m r cap kids,?_,?_,?_⟩
  ·rw [hvs,<- hk1]; rfl
  ·rw [CT.mem]; exact⟨by omega,hk2⟩
  ·rw [Con.all_eq,CT.all]
   have hone:Link own w [c] [.mk c.kind ⟨c.src.toArray⟩ ⟨c.dst.toArray⟩ ⟨c.name.toArray⟩ c.x.kind ⟨c.x.rat.toArray⟩ ⟨c.x.name.toArray⟩ c.x.date p c.x.sub.length l c.date q c.days.length m r cap kids]:=by
    refine⟨rfl,λi e t he ht=> ?_⟩
    match i with
    | 0=>
     cases he; cases ht;have e1:CT.val (.mk c.kind ⟨c.src.toArray⟩ ⟨c.dst.toArray⟩ ⟨c.name.toArray⟩ c.x.kind ⟨c.x.rat.toArray⟩ ⟨c.x.name.toArray⟩ c.x.date p c.x.sub.length l c.date q c.days.length m r cap kids) = .agg vs.toArray:=by rw [hvs,<- hk1]; rfl
     rw [e1]; exact hv0
    | i+1=>simp at he
   exact hone.app hk3
theorem Yx{n m:Nat}(h:n<=m):List.range n <+: List.range m:=by
 have e:List.range n=(List.range m).take n:=by
  apply List.ext_getElem?;intro i;simp only [List.getElem?_range,bR];split
  ·rename_i hi;rw [List.getElem?_range hi,List.getElem?_range (by omega)]
  ·rename_i hi;rw [aZ (by simp; omega)]
 rw [e]; exact List.take_prefix _ _
theorem YO{own:Nat->Prop}{w:World}{c:Con}{B:Nat}{vs:List Value}{el:TypeId}(hB:w.heap[B]?=some (.cells vs.toArray el (0,0)))(hr:Rep own w c.conA [] (.agg vs.toArray))(hn:c.nodes<=1000000)(hown:∀ b,own b->b<w.heap.size) :
  ∃ ev:Nat->Value,SeqStopsK Fence.wide 0 prog 132 #[.pointer (some ⟨B,0,none⟩)] (λx=> #[ev x]) (j0 own) (λxs=>xs=List.range c.all.length) (λpre=>pre <+: List.range c.all.length) c.all.length w/\∀ i,Rep own w (c.all.getD i c).conA [] (ev i):=by
 obtain⟨t,ht,hm,hlen,hl⟩:=zwg c.nodes c (aJ _) hn _ hr;have ht0:t.all[0]?=some t:=by cases t; rw [CT.all]; rfl
 have hc0:c.all[0]?=some c:=by rw [Con.all_eq]; rfl
 refine⟨λi=>(t.all.getD i t).val,?_,λi=> ?_⟩
 ·intro l J Jx W hW hJ hJx hY h0;have hBl:B<w.heap.size:=(aQ.1 hB).1;have hK:j0 own w W:=⟨hW.size,λb cs el fr _ hc=>by rw [hW.block b (aQ.1 hc).1]; exact hc⟩
  refine CallsIn.mono (Tryz.zgz Fence.wide rfl trivial trivial rfl l w.heap.size 0 B t (j0 own w) (j0 own) (λpre W=>pre <+: t.all/\J (List.range pre.length) W) (λpre W=>Jx (List.range pre.length) W) (λpre A B h hg=>⟨h.1,hJ _ _ _ none h.2 hg λr e=>by cases e⟩)
   (λA B C h k=>h.trans k) (λA B hg=>j0.grown hg λr e=>by cases e) (λA B b cs el hk hb hc=>hk.2 b cs el (0,0) (λho=>by have:=hown b ho; omega) hc) (λA B h k=>h.trans k) (λA h=>h.1) ?_ W hm hK ⟨List.nil_prefix,h0⟩ ?_) ?_
  ·rintro m pre t' W1 ⟨hp,hj⟩ _ hpre;have hlt:pre.length<t.all.length:=by have:=hpre.length_le; simp at this; omega
   have hget:t.all.getD pre.length t=t':=by
    obtain⟨r,hr⟩:=hpre;rw [<- hr]; simp [List.getD]
   refine zcb rfl m (YieldAt.mono (hY (List.range pre.length) pre.length W1 hj (by rw [List.length_range,hlen]; exact hlt)) ?_) |> λh=>by
    simp only [hget] at h;exact h
   rintro e W' (⟨rfl,h2,h3⟩ | ⟨rfl,h2⟩)
   ·refine .inl ⟨rfl,⟨hpre,?_⟩,h3⟩;rw [bO,List.length_singleton,List.range_succ]; exact h2
   ·refine .inr ⟨rfl,?_⟩;show Jx (List.range (pre++[t']).length) W';rw [bO,List.length_singleton,List.range_succ]; exact h2
  ·intro k v hk
   have hcs:t.cells=vs:=by
    have:t.val = .agg t.cells.toArray:=by cases t; rfl
    rw [this] at ht;simp only [Value.agg.injEq] at ht;have:=congrArg Array.toList ht;simpa using this
   rw [hcs] at hk;have:W.heap[B]?=some (.cells vs.toArray el (0,0)):=by rw [hW.block B hBl]; exact hB
   simp only [World.cell?,this];simpa using hk
  ·rintro e W' ⟨hv,h⟩;refine⟨hv,?_⟩;rcases h with ⟨_,h⟩ | ⟨q,hq,h⟩
   ·exact .inl ⟨_,by rw [hlen],h⟩
   ·exact .inr ⟨_,by rw [hlen]; exact Yx hq.length_le,h⟩
 ·by_cases hi:i<c.all.length
  ·have e1:c.all[i]?=some c.all[i]:=aF hi;have e2:t.all[i]?=some (t.all[i]'(by omega)):=aF _;have:=hl i _ _ e1 e2;simpa [List.getD,e1,e2] using this
  ·have e1:c.all[i]?=none:=aZ (by omega);have e2:t.all[i]?=none:=aZ (by omega);have:=hl 0 _ _ hc0 ht0;simpa [List.getD,e1,e2] using this
noncomputable def K98:=Go.Sx.aA f98
def exD(x:Ex):AV:=.agg [.int .u8 x.kind,.str x.rat,.str x.name,.i x.date,.sl x.sub.length 5 x.deep]
def zc9(n:Nat):Ctr:=ctrP false (λx:Ex=>[x.exA]) (λx=>x.size<n/\x.size<2^40) (λ_ (_:Unit)=>True) (λx _=>(exD x,[]))
theorem zmm{s:List Ex}{i:Nat} : eqG (i+1) 5 (appG i (Ex.exG s) (zi (zj 5 [.int .u8 (s.getD i Ex.nil).kind,.str (s.getD i Ex.nil).rat,.str (s.getD i Ex.nil).name,.i (s.getD i Ex.nil).date,.sl (s.getD i Ex.nil).sub.length 5 (s.getD i Ex.nil).deep]) 0)) (Ex.exG s):=by
 intro j o hj ho;simp only [appG,zi,zj];by_cases h:j<i
 ·rw [aP h]
 ·have:j=i:=by omega
  subst this;rw [aO h];have e:j - j=0:=by omega
  match o,ho with
  | 0,_=>simp [e,Ex.exG,Ex.cell]
  | 1,_=>simp [e,Ex.exG,Ex.cell]
  | 2,_=>simp [e,Ex.exG,Ex.cell]
  | 3,_=>simp [e,Ex.exG,Ex.cell]
  | 4,_=>simp [e,Ex.exG,Ex.cell]
def STw(s:List Ex)(i:Nat):KV:=[(1,.ptr 0 0),(2,.ptr 1 0),(3,.osl 2 5 0 i),(7,Ex.exS s),(8,.i (s.length:Int)),(9,.i (i:Int))]
def HTw(x:Ex)(i:Nat):Heap:=[.box [.int .u8 x.kind,.str x.rat,.str x.name,.i x.date,Ex.exS x.sub],.box [.int .u8 0,.str [],.str [],.i 0,.nils],.arr i 5 (Ex.exG x.sub)]
def RTw(x:Ex):List AV:=[.agg [.int .u8 x.kind,.str x.rat,.str x.name,.i x.date,.osl 2 5 0 x.sub.length]]
def HTw2(x:Ex):Heap:=[.box [.int .u8 x.kind,.str x.rat,.str x.name,.i x.date,.osl 2 5 0 x.sub.length],.box [.int .u8 x.kind,.str x.rat,.str x.name,.i x.date,.osl 2 5 0 x.sub.length],.arr x.sub.length 5 (Ex.exG x.sub)]
theorem zo3(n:Nat)(ih:ze prog 98 (zc9 n)){O:Nat->Prop}{w0:World}{C:Ctr}{Q:AV×Heap->Prop}(x:Ex)(h1:x.size<n+1)(h2:x.size<2^40)(hR:RetR C 0 Q (RTw x) (HTw2 x)) :
  zc prog f98 O 0 w0 [] (λ_ _ _=>False) (RetR C 0 Q) K98 (entry f98 [x.exA]):=by
 rw [Ex.size_eq] at h1 h2;have hlen:=Ex.jo x.sub;refine zc.n (Qq ih) [1,2,3,7,8,9] (.leaf (.loop (lps K98 0).1 (lps K98 0).2 [(1,.ptr 0 0),(2,.ptr 1 0),(3,.nils),(7,.sl x.sub.length 5 (Ex.exG x.sub)),(8,.i x.sub.length),(9,.i 0)] [.box [.int .u8 x.kind,.str x.rat,.str x.name,.i x.date,.sl x.sub.length 5 (Ex.exG x.sub)],.box [.int .u8 0,.str #[].toList,.str #[].toList,.i 0,.nils]])) ?_;simp only [Tree.holds,zf,inR,lo,hi,aD];refine zc.bear 3 5 (Ex.exG x.sub) rfl (by decide) (by kernel_rfl) ?_;refine zc.loop (ι:={i:Nat // i<=x.sub.length}) (λi=>STw x.sub i.1) (λi=>HTw x i.1) (λi=>x.sub.length - i.1) ⟨0,aI _⟩ 0 ?_ ?_ (by kernel_rfl)
 ·exact⟨by simp [STw,kC,Ex.exS,za],by simp [HTw,Ex.exS,za],by kernel_rfl,aI _⟩
 ·rintro⟨i,hil⟩;refine zc.n (Qq ih) [1,2,3,7,8,9] (let v4:=Ex.exG x.sub;let v2:List AV:=[.int .u8 x.kind,.str x.rat,.str x.name,.i x.date,.osl 2 5 0 i];let v1:=List.getD x.sub (i:Int).toNat Ex.nil;.D ((i:Int)<x.sub.length) (.side ((0:Int)<=i/\(i:Int)<x.sub.length) (.ex (λ(x_1:Ex)=>eqL [.agg [.int .u8 (Ex.kind v1),.str (Ex.rat v1),.str (Ex.name v1),.i (Ex.date v1),.sl (List.length (Ex.sub v1)) 5 (Ex.deep v1)]] [.agg [.int .u8 x_1.kind,.str x_1.rat,.str x_1.name,.i x_1.date,.sl x_1.sub.length 5 (Ex.exG x_1.sub)]]/\Ex.size x_1<n/\Ex.size x_1<1099511627776) λn=>let v3:=zj 5 [.int .u8 n.kind,.str n.rat,.str n.name,.i n.date,.sl n.sub.length 5 n.deep];.A λn_1=>.side (0=0/\i<=i/\(i+1)*72<=140737488355328) (.S (i+1) (.leaf (.back 0 [(1,.ptr 0 0),(2,.ptr 1 0),(3,.osl 2 5 0 (i+1)),(7,.sl x.sub.length 5 v4),(8,.i x.sub.length),(9,.i (i+1))] [.box [.int .u8 x.kind,.str x.rat,.str x.name,.i x.date,.sl x.sub.length 5 v4],.box [.int .u8 0,.str [],.str [],.i 0,.nils],.arr (i+1) 5 (appG i v4 (zi v3 0)),.box [.int .u8 (Ex.kind v1),.str (Ex.rat v1),.str (Ex.name v1),.i (Ex.date v1),.sl (List.length (Ex.sub v1)) 5 (Ex.deep v1)],.arr 1 5 v3]))))) (.R [.agg v2] [.box v2,.box v2,.arr i 5 v4])) ?_;simp only [Tree.holds,zf,inR,lo,hi,aD];refine⟨λhlt=> ?_,λhge=> ?_⟩
  ·have hlt:i<x.sub.length:=by have:=aB hlt; omega
   have hg:=Ex.qu hlt;refine⟨by omega,λ_=>⟨x.sub.getD i Ex.nil,⟨Z0 rfl rfl rfl rfl rfl (Ex.qm _),by omega,by omega⟩,⟨(),trivial⟩,?_⟩⟩;intro _ _;refine⟨⟨trivial,aJ _,by omega⟩,λ_=>⟨by omega,λ_=> ?_⟩⟩;rw [aP trivial];refine⟨⟨i+1,hlt⟩,by show x.sub.length - (i+1)<x.sub.length - i; omega,by simp [STw,Ex.exS,za],?_,by kernel_rfl,aI _⟩;exact⟨⟨⟨rfl,rfl⟩,rfl,rfl,⟨rfl,rfl⟩,⟨rfl,rfl,za _ _ _⟩,trivial⟩,⟨⟨rfl,rfl⟩,rfl,rfl,⟨rfl,rfl⟩,by simp,trivial⟩,⟨rfl,rfl,zmm⟩,trivial⟩
  ·have hge:i=x.sub.length:=by have:=aC hge; omega
   subst hge;exact hR
theorem zl4{C:Ctr}{Q:AV×Heap->Prop}{x:Ex}{h:Heap}{b:Nat}(hC:C.fresh=false)(hb:h[b]?=some (.arr x.sub.length 5 (Ex.exG x.sub)))(hq:Q (exD x,[])):RetR C 0 Q [.agg [.int .u8 x.kind,.str x.rat,.str x.name,.i x.date,.osl b 5 0 x.sub.length]] h:=by
 refine RetR.out0 hq (λh=>by rw [hC] at h; cases h) ?_;simp only [resV,exp2,exp1,List.map_cons,List.map_nil,exp0,ren0,zO,frz1,wg,hb,eqA2,eqA,eqL0,eqA0,exD,true_and,and_true];simp only [if_true];refine⟨trivial,trivial,λj o hj ho=> ?_⟩;have:=Ex.qm x j o hj ho;simpa [zi] using this.symm
theorem zih(n:Nat)(ih:ze prog 98 (zc9 n)):ze prog 98 (zc9 (n+1)):=by
 refine zh' f98 λx hx O w0 Q hq=> ?_
 exact zo3 n ih x hx.1 hx.2 (zl4 rfl rfl (hq () trivial))
theorem zjz:ze prog 98 (ctrP false (λx:Ex=>[x.exA]) (λx=>x.size<2^40) (λ_ (_:Unit)=>True) (λx _=>(exD x,[]))):=vN Ex.size zih
def zj1:Ctr:=ctrP false (λx:Ex=>[x.exA]) (λx=>x.size<2^40) (λ_ (_:Unit)=>True) (λx _=>(exD x,[]))
noncomputable def K94:=Go.Sx.aA f94
def zdi:Ctr:=ctrP true (λx:Ex=>[x.exA]) (λ_=>True) (λx r=>r=jX x) (λ_ (r:Bool)=>(.bool r,[]))
theorem XS:ze prog 129 zdi:=by
 refine zh' f129 λx hx O w0 Q hq=> ?_
 replace hq:=hq _ rfl;obtain⟨k,r,m,d,s⟩:=x;refine zc.n zw [] (let v1:=Ex.mk k r m d s;.R [.bool (bif bif bif bif decide (Ex.kind v1=(0:Int)) then decide (Ex.rat v1=#[].toList) else false then decide (Ex.name v1=#[].toList) else false then decide (Ex.date v1=(0:Int)) else false then decide ((↑(List.length (Ex.sub v1)):Int)=0) else false)] [.box [.int .u8 (Ex.kind v1),.str (Ex.rat v1),.str (Ex.name v1),.i (Ex.date v1),.sl (List.length (Ex.sub v1)) 5 (Ex.exG (Ex.sub v1))]]) ?_;simp only [Tree.holds,zf];refine RetR.scal hq rfl ?_;refine congrArg AV.bool ?_;rw [Bool.eq_iff_iff];simp [jX,Ex.kind,Ex.rat,Ex.name,Ex.date,Ex.sub,and_assoc]
def zct:Ctr:=ctrT false false (λc:Con=>[c.conA]) (λ_=>[]) (λ_=>True) (λ_ (_:Unit)=>True) (λc _=>(.fn 132 [] [.ptr 0 0],[.box (Con.qN c.kind c.src c.dst c.name c.x c.date c.days c.sub)]))
theorem Y7:ze prog 96 zct:=by
 refine z9 (fn:=f96) (c:=f96.body.getD .skip) rfl rfl rfl (λh=>by cases h) λc hp O w0 I0 Q hl hq=> ?_
 have h0:I0=[]:=aU.1 (by simpa using hl);subst h0;refine zc.n zw [0] (.R [.fn 132 [] [.ptr 0 0]] [.box c.zg]) ?_;simp only [Tree.holds,zf];refine RetR.out1 0 (by simp) (hq () trivial) (λh=>by cases h) (by simp [resV,exp2,exp1,exp0,zO,ren0,eqA2]) ?_;simp only [Con.qN,expB,exp1,List.map_cons,List.map_nil,exp0,Ex.exS,Con.dayS,Con.conS];exact⟨⟨rfl,rfl⟩,rfl,rfl,rfl,⟨rfl,rfl⟩,rfl,rfl,⟨rfl,rfl⟩,⟨rfl,rfl,za _ _ _⟩,⟨rfl,rfl⟩,⟨rfl,rfl,za _ _ _⟩,⟨rfl,rfl,za _ _ _⟩,trivial⟩
noncomputable def GZ1:=tb XS (tb zfc (tb Y7 tz))
def zka:Ctr:=ctrP true (λc:Con=>[c.conA]) (λc=>c.big<2^40/\c.nodes<=1000000) (λc r=>r=c.size) (λ_ (r:Nat)=>(.i (r:Int),[]))
theorem qZ(c:Con):eqA c.conA c.conA:=by
 simp only [Con.conA,Ex.exS,Con.dayS,Con.conS,eqA];exact⟨⟨rfl,rfl⟩,rfl,rfl,rfl,⟨rfl,rfl⟩,rfl,rfl,⟨rfl,rfl⟩,⟨rfl,rfl,za _ _ _⟩,⟨rfl,rfl⟩,⟨rfl,rfl,za _ _ _⟩,⟨rfl,rfl,za _ _ _⟩,trivial⟩
theorem uz{own:Nat->Prop}{w:World}{σ:List SE} : ∀ {l:List AV} {vs:List Value},l.all YN=true->RepL own w l σ vs->RepL own w l [] vs
 | [],vs,_,h=>h
 | a::l,vs,hf,h=>by
  simp only [List.all_cons,bA] at hf;simp only [RepL] at h ⊢;obtain⟨v,r,rfl,h1,h2⟩:=h;exact⟨v,r,rfl,zai hf.1 h1,uz hf.2 h2⟩
theorem zup{O:Nat->Prop}{pin:Nat}{w0 w:World}{I0 σ:List SE}{st:St}{a:Act}(hm:Mod O pin w0 I0 w σ st a):∀ b,Go.Sx.Own O σ b->b<w.heap.size:=by
 rintro b (hO | ⟨e,he,ad,h1,rfl⟩)
 ·exact hm.good.old b hO
 ·obtain⟨j,hj⟩:=List.getElem?_of_mem he;exact hm.hp.lt j e ad hj h1
theorem zS(c:Con):eqL c.zg c.zg:=by
 simp only [Con.zg,Con.qN,Ex.exS,Con.dayS,Con.conS];exact⟨⟨rfl,rfl⟩,rfl,rfl,rfl,⟨rfl,rfl⟩,rfl,rfl,⟨rfl,rfl⟩,⟨rfl,rfl,za _ _ _⟩,⟨rfl,rfl⟩,⟨rfl,rfl,za _ _ _⟩,⟨rfl,rfl,za _ _ _⟩,trivial⟩
theorem vw(x:Ex):eqA x.exA x.exA:=by
 simp only [Ex.exA,Ex.exS,eqA];exact⟨⟨rfl,rfl⟩,rfl,rfl,⟨rfl,rfl⟩,⟨rfl,rfl,za _ _ _⟩,trivial⟩
theorem Wp{O:Nat->Prop}{pin:Nat}{w0 w:World}{I0 σ:List SE}{st:St}{a:Act}(hm:Mod O pin w0 I0 w σ st a){i:Nat}{c:Con}(hb:st.heap[i]?=some (.box c.zg))(hn:c.nodes<=1000000){vb:List Value}(hv:RepL (Go.Sx.Own O σ) w [.ptr i 0] σ vb) :
  ∃ ev:Nat->Value,SeqStopsK Fence.wide 0 prog 132 vb.toArray (λx=> #[ev x]) (j0 (Go.Sx.Own O σ)) (λxs=>xs=List.range c.all.length) (λpre=>pre <+: List.range c.all.length) c.all.length w/\∀ i,Rep (Go.Sx.Own O σ) w (c.all.getD i c).conA [] (ev i):=by
 simp only [RepL,Rep] at hv;obtain⟨v,r,rfl,⟨e,ad,he,had,rfl⟩,rfl⟩:=hv;obtain⟨ad',vs,el,g1,g2,g3,g4⟩:=hm.hp.blk i e _ he hb;rw [had] at g1; cases g1
 have hr:Rep (Go.Sx.Own O σ) w c.conA [] (.agg vs.toArray):=by
  simp only [Con.conA];rw [Rep];exact⟨vs,rfl,uz rfl g4⟩
 have:=YO g3 hr hn (zup hm);rw [g2];exact this
def HCs(c:Con)(m:Nat):Heap:=[.box c.zg,.box [.i (m:Int)],.box c.zg]
abbrev q51(A:List AV)(x:Ex):Prop:=eqL A [x.exA]/\Ex.size x<4611686018427387904
abbrev q50(A:List AV)(x:Ex):Prop:=eqL A [x.exA]/\True
theorem zo6:ze prog 94 zka:=by
 refine zh' f94 λc hc O w0 Q hq=> ?_
 obtain⟨h1,h2⟩:=hc;replace hq:=hq _ rfl;refine zc.n GZ1.h [2,3,6,7] (.ex (λ(x:Con)=>eqL [(Con.conA c)] [(Con.conA x)]/\eqH [] []/\0=0/\True) λn=>.A λn_1=>.leaf (.range (Prod.fst (rfs K94 0)) (Prod.snd (rfs K94 0)) [(2,.i 0),(3,.ptr 1 0),(6,.fn 132 [] [.ptr 2 0]),Z 7] [.box c.zg,.box [.i 0],.box n.zg])) ?_;simp only [Tree.holds,zf];refine⟨c,⟨⟨qZ c,trivial⟩,trivial,trivial,trivial⟩,⟨(),trivial⟩,λ_ _=> ?_⟩
 refine zc.zlw (tg:=6) (tp:=7) (td:=4) (t:=39) (n:=12) (zs:=[.int .u8 0,.str [],.str [],.str [],.int .u8 0,.str [],.str [],.i 0,.nils,.i 0,.nils,.nils]) (cap:=[.ptr 2 0]) (gf:=132) (by kernel_rfl) (by kernel_rfl) (by kernel_rfl) rfl (enters_of Tryz.func132 (by kernel_rfl) rfl) (λi:Nat=>(c.all.getD i c).conA) (λi=>(c.all.getD i c).zg) (λi=>⟨rfl,rfl,rfl,rfl⟩) (λpre=>HCs c (pre.map λi=>(c.all.getD i c).wt).sum) (λ_=>[]) (λ_=>False) (λxs=>xs=List.range c.all.length) (λpre=>pre <+: List.range c.all.length) c.all.length 3
  (by kernel_rfl) (by decide +kernel) (by decide +kernel) (by decide +kernel) (by decide) ⟨by simp,⟨zS c,⟨⟨rfl,rfl⟩,trivial⟩,zS c,trivial⟩,by kernel_rfl,aI _⟩ (by kernel_rfl) (aI _) (λpre=>rfl) (λpre=>by simp [HCs,alive]) (λpre b hb=>by cases hb) ?_ ?_ ?_ (λ_ _ h=>h.elim)
 ·intro w σ a hm vb hvb;exact Wp hm (i:=2) rfl h2 hvb
 ·intro l pre i hlen W E1
  have hwt:(c.all.getD i c).big<=c.big:=by
   by_cases hi:i<c.all.length
   ·exact Con.JG c _ (by simp [List.getD,hi])
   ·simp [List.getD,hi]
  have hm:(pre.map λi=>(c.all.getD i c).wt).sum<=pre.length*2^40:=by
   have hall:∀ j,(c.all.getD j c).wt<=2^40:=λj=>by
    have h1':=Con.Wj (c.all.getD j c).x
    have h2':(c.all.getD j c).big<=c.big:=by
     by_cases hi:j<c.all.length
     ·exact Con.JG c _ (by simp [List.getD,hi])
     ·simp [List.getD,hi]
    rw [Con.Za] at h2';have:(c.all.getD j c).wt=1+kR (c.all.getD j c).x:=rfl;omega
   clear hlen
   induction pre with
   | nil=>simp
   | cons j pre ih=>
    have:=hall j;simp only [List.map_cons,List.sum_cons,aL];omega
  rw [List.map_append,List.sum_append];simp only [List.map_cons,List.map_nil,List.sum_cons,List.sum_nil,Nat.add_zero];rw [Con.Yh] at hlen;have hml:(pre.map λi=>(c.all.getD i c).wt).sum<=1000000*2^40:=bP hm (aT _ (by omega));generalize (pre.map λi=>(c.all.getD i c).wt).sum=m at hml;generalize c.all.getD i c=e at hwt;rw [Con.Za e] at hwt;refine zc.n GZ1.h [3,6,7] (let v1:List (Nat×AV):=[(3,.ptr 1 0),(6,.fn 132 [] [.ptr 2 0]),(7,(Con.conA e))];.S (m+1) (.ex (q50 [(Ex.exA e.x)]) λn=>.all (λ(r:Bool)=>r=jX n) λn=>.ite (!n) (.ex (q51 [(Ex.exA e.x)]) λn=>.all (λ(r:Nat)=>r=Ex.size n) λn=>.S ((m:Int)+(1:Int)+n) (.leaf (.back 0 v1 [.box c.zg,.box [.i ((m:Int)+(1:Int)+n)],.box c.zg]))) (.leaf (.back 0 v1 [.box c.zg,.box [.i (m+1)],.box c.zg])))) ?_;simp only [q50,q51,Tree.holds,zf,inR,lo,hi,aD];have hsx:e.wt=1+kR e.x:=rfl;refine⟨by omega,λ_=>⟨e.x,⟨⟨vw e.x,trivial⟩,trivial⟩,⟨_,rfl⟩,?_⟩⟩;rintro _ rfl;refine⟨λhb=>⟨e.x,⟨⟨vw e.x,trivial⟩,by show e.x.size<_; omega⟩,⟨_,rfl⟩,?_⟩,λhb=> ?_⟩
  ·rintro _ rfl;refine⟨by omega,λ_=>⟨trivial,⟨zS c,⟨⟨rfl,?_⟩,trivial⟩,zS c,trivial⟩,by kernel_rfl,aJ _⟩⟩;have:kR e.x=e.x.size:=by unfold kR; rw [show jX e.x=false by simpa using hb]; rfl
   omega
  ·refine⟨trivial,⟨zS c,⟨⟨rfl,?_⟩,trivial⟩,zS c,trivial⟩,by kernel_rfl,aJ _⟩;have:kR e.x=0:=by unfold kR; rw [show jX e.x=true by simpa using hb]; rfl
   omega
 ·intro xs hxs;subst hxs
  have hsum:((List.range c.all.length).map λi=>(c.all.getD i c).wt).sum=c.size:=by
   rw [Con.Ve];congr 1;apply List.ext_getElem (by simp);intro i h1 h2;simp at h1;simp [List.getD,h1]
  rw [hsum];generalize c.size=m at hq;refine zc.n GZ1.h [2,3,6,7] (.R [.i m] [.box c.zg,.box [.i m],.box c.zg]) ?_;simp only [Tree.holds,zf];exact RetR.scal hq rfl rfl
noncomputable def K131:=Go.Sx.aA f131
noncomputable def K95:=Go.Sx.aA f95
def zeg(n:Nat):Ctr:=ctrP true (λx:Ex=>[x.exA]) (λx=>x.size<n/\x.size<2^62) (λx r=>r=x.depth) (λ_ (r:Nat)=>(.i (r:Int),[]))
def SEd(s:List Ex)(c i:Nat):KV:=[(3,.i (c:Int)),(7,Ex.exS s),(8,.i (s.length:Int)),(9,.i (i:Int))]
theorem Ue(n:Nat)(ih:ze prog 131 (zeg n)):ze prog 131 (zeg (n+1)):=by
 refine zh' f131 λx hp O w0 Q hq=> ?_
 obtain⟨hxn,hxs⟩:=hp;replace hq:=hq _ rfl;have hds:=Ex.jO x;rw [Ex.xn] at hq hds;rw [Ex.size_eq] at hxn hxs hds;obtain⟨k,r,m,d,s⟩:=x;simp only [Ex.sub] at hxn hxs hq hds;have hlen:=Ex.jo s;refine zc.n (Qq ih) [3,7,8,9] (.leaf (.loop (lps K131 0).1 (lps K131 0).2 [(3,.i 0),(7,.sl s.length 5 (Ex.exG s)),(8,.i s.length),(9,.i 0)] [.box [.int .u8 k,.str r,.str m,.i d,.sl s.length 5 (Ex.exG s)]])) ?_;simp only [Tree.holds,zf,inR,lo,hi,aD];refine zc.loop (ι:={i:Nat // i<=s.length}) (λi=>SEd s (Ex.zC (s.take i.1)) i.1) (λ_=>[]) (λi=>s.length - i.1) ⟨0,aI _⟩ 0 ?_ ?_ (by kernel_rfl)
 ·exact⟨by simp [SEd,Ex.zC,Ex.exS,za],by simp,by kernel_rfl,aI _⟩
 ·rintro⟨i,hil⟩;have hcb:Ex.zC (s.take i)<=Ex.zC s:=Ex.Vq s i;obtain⟨c,hc⟩:∃ c,Ex.zC (s.take i)=c:=⟨_,rfl⟩;simp only [hc];refine zc.n (Qq ih) [3,7,8,9] (let v1:=s.getD (i:Int).toNat Ex.nil;.D ((i:Int)<s.length) (.side ((0:Int)<=i/\(i:Int)<s.length) (.ex (λ(x:Ex)=>eqL [(exD v1)] [x.exA]/\Ex.size x<n/\Ex.size x<4611686018427387904) λn=>.all (λ(r:Nat)=>r=Ex.depth n) λn=>.S (i+1) (.leaf (.back 0 [(3,.i (max (c:Int) (n:Int))),(7,.sl s.length 5 (Ex.exG s)),(8,.i s.length),(9,.i (i+1))] [.box v1.cellsD])))) (.S (c+1) (.R [.i (c+1)] []))) ?_;simp only [Tree.holds,zf,inR,lo,hi,aD];refine⟨λhlt=> ?_,λhge=> ?_⟩
  ·have hlt:i<s.length:=by have:=aB hlt; omega
   have hg:=Ex.qu hlt;have ht:=Ex.vD s i hlt;refine⟨by omega,λ_=>⟨s.getD i Ex.nil,⟨⟨⟨⟨rfl,rfl⟩,rfl,rfl,⟨rfl,rfl⟩,⟨rfl,rfl,Ex.qm _⟩,trivial⟩,trivial⟩,by omega,by omega⟩,⟨_,rfl⟩,?_⟩⟩;rintro _ rfl;refine⟨by omega,λ_=> ?_⟩;rw [aP trivial];refine⟨⟨i+1,hlt⟩,by show s.length - (i+1)<s.length - i; omega,?_,by simp,by kernel_rfl,aI _⟩;simp [SEd,ht,hc,Ex.exS,za]; omega
  ·have hge:i=s.length:=by have:=aC hge; omega
   subst hge;rw [bD] at hc;refine⟨by omega,λ_=> ?_⟩;exact RetR.scal hq rfl (by simp [resV]; omega)
def VU:Ctr:=ctrP true (λx:Ex=>[x.exA]) (λx=>x.size<2^62) (λx r=>r=x.depth) (λ_ (r:Nat)=>(.i (r:Int),[]))
theorem zhm:ze prog 131 VU:=vN Ex.size Ue
theorem jD(e:Con):eqA (.agg [.int .u8 e.kind,.str e.src,.str e.dst,.str e.name,.int .u8 e.x.kind,.str e.x.rat,.str e.x.name,.i e.x.date,.sl e.x.sub.length 5 (Ex.exG e.x.sub),.i e.date,.sl e.days.length 1 (Con.dayG e.days),.sl e.sub.length 12 e.deep]) e.conA:=by
 simp only [Con.conA,Ex.exS,Con.dayS,Con.conS,eqA];exact⟨⟨rfl,rfl⟩,rfl,rfl,rfl,⟨rfl,rfl⟩,rfl,rfl,⟨rfl,rfl⟩,⟨rfl,rfl,za _ _ _⟩,⟨rfl,rfl⟩,⟨rfl,rfl,za _ _ _⟩,⟨rfl,rfl,Con.qm e⟩,trivial⟩
theorem JO(x:Ex):xb x<=x.size:=bP (Con.KE x) (Con.Wj x)
def SCd(c:Con)(d i:Nat):KV:=[(3,.i (d:Int)),(14,Con.conS c.sub),(15,.i (c.sub.length:Int)),(16,.i (i:Int))]
def Qh(n:Nat):Ctr:=ctrP true (λc:Con=>[c.conA]) (λc=>c.nodes<n/\c.big<2^40) (λc r=>r=c.depth) (λ_ (r:Nat)=>(.i (r:Int),[]))
noncomputable def GDb:=tb XS (tb zhm tz)
noncomputable def GDc(n:Nat):Nat->Option Ctr:=λf=>if f=95 then some (Qh n) else GDb.g f
theorem zkl{n:Nat}(h:ze prog 95 (Qh n)):∀ f c,GDc n f=some c->ze prog f c:=by
 intro f c hf;simp only [GDc] at hf;split at hf
 ·rename_i hg; subst hg; cases hf; exact h
 ·exact GDb.h f c hf
theorem UN(n:Nat)(ih:ze prog 95 (Qh n)):ze prog 95 (Qh (n+1)):=by
 refine zh' f95 λc hp O w0 Q hq=> ?_
 obtain⟨hcn,hcb⟩:=hp;replace hq:=hq _ rfl;rw [Con.xn] at hq;refine zc.n (zkl ih) [3,14,15,16] (.ex (q50 [(Ex.exA c.x)]) λn=>.all (λ(r:Bool)=>r=jX n) λn=>.ite (!n) (.ex (q51 [(Ex.exA c.x)]) λn=>.all (λ(r:Nat)=>r=Ex.depth n) λn=>.leaf (.loop (lps K95 0).1 (lps K95 0).2 [(3,.i n),(14,.sl c.sub.length 12 (Con.conG c.sub)),(15,.i c.sub.length),(16,.i 0)] [.box c.zg])) (.leaf (.loop (lps K95 0).1 (lps K95 0).2 [(3,.i 0),(14,.sl c.sub.length 12 (Con.conG c.sub)),(15,.i c.sub.length),(16,.i 0)] [.box c.zg]))) ?_;simp only [q50,q51,Tree.holds,zf,inR,lo,hi,aD];have hb:=hcb;rw [Con.Za] at hb;rw [Con.kg] at hcn;have hxd:=JO c.x;have hsd:=Con.zbf c.sub;have hl:=Con.Wr c.sub
 have loop:∀ (d0:Nat) (h:Heap),d0=xb c.x->(∀ S,LeK 0 f95.ntmps S h S []->True)->h=[.box c.zg]->zc prog f95 O 0 w0 [] (λ_ _ _=>False) (RetR (Qh (n+1)) 0 Q) (.code (.loop (lps K95 0).1)::(lps K95 0).2) (mk f95.ntmps [(3,.i (d0:Int)),(14,.sl c.sub.length 12 (Con.conG c.sub)),(15,.i (c.sub.length:Int)),(16,.i 0)] h):=by
  rintro d0 h rfl _ rfl;refine zc.loop (ι:={i:Nat // i<=c.sub.length}) (λi=>SCd c (max (xb c.x) (Con.zC (c.sub.take i.1))) i.1) (λ_=>[]) (λi=>c.sub.length - i.1) ⟨0,aI _⟩ 0 ?_ ?_ (by kernel_rfl)
  ·exact⟨by simp [SCd,Con.zC,Con.conS,za],by simp,by kernel_rfl,aI _⟩
  ·rintro⟨i,hil⟩;have hdb:Con.zC (c.sub.take i)<=Con.zC c.sub:=Con.KL c.sub i;obtain⟨d,hd⟩:∃ d,max (xb c.x) (Con.zC (c.sub.take i))=d:=⟨_,rfl⟩;simp only [hd];refine zc.n (zkl ih) [3,14,15,16] (let v1:=List.getD c.sub (i:Int).toNat Con.nil;.D ((i:Int)<(c.sub.length:Int)) (.side ((0:Int)<=i/\(i:Int)<(c.sub.length:Int)) (.ex (λ(x:Con)=>eqL [v1.conD] [(Con.conA x)]/\Con.nodes x<n/\Con.big x<1099511627776) λn=>.all (λ(r:Nat)=>r=Con.depth n) λn=>.S (i+1) (.leaf (.back 0 [(3,.i (max (d:Int) (n:Int))),(14,.sl c.sub.length 12 (Con.conG c.sub)),(15,.i c.sub.length),(16,.i (i+1))] [.box v1.zl])))) (.S (d+1) (.R [.i (d+1)] []))) ?_;simp only [Tree.holds,zf,inR,lo,hi,aD];refine⟨λhlt=> ?_,λhge=> ?_⟩
   ·have hlt:i<c.sub.length:=by have:=aB hlt; omega
    have hg:=Con.vf hlt;have hgb:=Con.WG hlt;have ht:=Con.vD c.sub i hlt;refine⟨by omega,λ_=>⟨c.sub.getD i Con.nil,⟨⟨jD _,trivial⟩,by omega,by omega⟩,⟨_,rfl⟩,?_⟩⟩;rintro _ rfl;refine⟨by omega,λ_=> ?_⟩;rw [aP trivial];refine⟨⟨i+1,hlt⟩,by show c.sub.length - (i+1)<c.sub.length - i; omega,?_,by simp,by kernel_rfl,aI _⟩;simp [SCd,ht,Con.conS,za]; omega
   ·have hge:i=c.sub.length:=by have:=aC hge; omega
    subst hge;rw [bD] at hd;refine⟨by omega,λ_=> ?_⟩;exact RetR.scal hq rfl (by simp [resV]; omega)
 refine⟨c.x,⟨⟨vw c.x,trivial⟩,trivial⟩,⟨_,rfl⟩,?_⟩;rintro _ rfl;refine⟨λh=>⟨c.x,⟨⟨vw c.x,trivial⟩,by show c.x.size<_; omega⟩,⟨_,rfl⟩,?_⟩,λh=> ?_⟩
 ·rintro _ rfl;exact loop c.x.depth _ (by unfold xb; rw [show jX c.x=false by simpa using h]; rfl) (λ_ _=>trivial) rfl
 ·exact loop 0 _ (by unfold xb; rw [show jX c.x=true by simpa using h]; rfl) (λ_ _=>trivial) rfl
def Ky:Ctr:=ctrP true (λc:Con=>[c.conA]) (λc=>c.big<2^40) (λc r=>r=c.depth) (λ_ (r:Nat)=>(.i (r:Int),[]))
theorem zhk:ze prog 95 Ky:=vN Con.nodes UN
end Go.Proofs.Tryz
end
section
namespace Go.Sx
variable [Stat]
section
variable {P:Program} {Γ:Nat->Option Ctr} {fn:Func}
def inlC(P:Program)(Γ:Nat->Option Ctr)(n:Nat)(fn:Func):Ctr where
 fresh:=false
 spec args hc:=match fn.body with
  | some c=>(run P Γ hc.length n [.code c] (wT fn args hc)).bind λlf=>match lf with
   | .ret st=>(resX P st fn.results.toList).bind λrs=>bif decide (hc.length<=st.heap.length) then .leaf (exp2 st.heap (List.range st.heap.length) (resV rs),expH st.heap (List.range st.heap.length)) else .fail
   | _=>.fail
  | none=>.fail
theorem nodup_range':∀ (n s:Nat),jW (List.range' s n)=true
 | 0,_=>rfl
 | n+1,s=>by
  rw [List.range'_succ];simp only [jW,bA];refine⟨?_,nodup_range' n (s+1)⟩;simp [bY,List.mem_range'_1]
theorem zA(b:Blk):eqB b b:=by
 cases b with
 | dead=>trivial
 | box l=>exact Wi l
 | arr n sz g=>exact⟨rfl,rfl,λ_ _ _ _=>rfl⟩
 | arrI k n f=>exact⟨rfl,λ_ _ _ _=>rfl⟩
 | arrS n f=>exact⟨rfl,λ_ _ _ _=>rfl⟩
 | map ag sh has get pe=>exact⟨⟨rfl,.inr rfl⟩,rfl,λ_=>rfl,λ_ _=>rfl⟩
theorem zhd(h:Heap):eqH h h:=by
 induction h with
 | nil=>trivial
 | cons b l ih=>exact⟨zA b,ih⟩
theorem QF{g n:Nat}(hmix:P.follows .mixedOrders=true)(hΓ:∀ g c,Γ g=some c->ze P g c)(hf:P.funcs[g]?=some fn) (hn:(fn.name == "runtime.NumGoroutine")=false):ze P g (inlC P Γ n fn):=by
 intro args hc Q hq hfr;simp only [inlC] at hq;cases hb:fn.body with
 | none=>rw [hb] at hq; exact hq.elim
 | some c=>
  rw [hb] at hq;simp only [Tree.zu] at hq;refine qO.plain (zsp hf hb hn hfr λO w0 I0 hl=>Safe.run hmix (λg c h=>(hΓ g c h).x) n (Tree.qi (λlf h=> ?_) hq));cases lf with
  | ret st=>
   simp only [Tree.zu] at h;refine Tree.qi (λrs h=> ?_) h;cases hd:decide (hc.length<=st.heap.length) with
   | false=>rw [hd] at h; exact h.elim
   | true=>
    rw [hd] at h;have h:Q (exp2 st.heap (List.range st.heap.length) (resV rs),expH st.heap (List.range st.heap.length)):=h;have hd:=aB hd;exact⟨List.range st.heap.length,by rw [List.range_eq_range']; exact nodup_range' _ _,λi hi=>List.mem_range.1 hi,λj hj=>by rw [List.getElem?_range (by omega)],λh=>(by cases h),_,_,LeA.refl _,.inl (zhd _),by simp [expH],h⟩
  | _=>exact h.elim
end
end Go.Sx
end
section
set_option maxRecDepth 100000
open Go Go.Sx Go.Proofs Go.Nov
namespace Go.Proofs.Tryz
attribute [local simp] eqKV eqA eqA0 eqH eqB eqL eqL0
noncomputable def K139:=Go.Sx.aA f139
def zsw:Ctr:=ctrP true (λl:List Int=>[Con.dayS l]) (λl=>l.length<2^40) (λl r=>r=yj l) (λ_ (r:Bool)=>(.bool r,[]))
noncomputable def zap:Ctr:=inlC prog noG 100 f138
theorem Xh:ze prog 138 zap:=QF hmix zw rfl rfl
noncomputable def GDy:=tb Xh tz
def zfn(l:List Int)(i:Nat):Prop:=∀ j,j<i->dayB (l.getD j 0)=true/\(0<j->l.getD (j - 1) 0<l.getD j 0)
theorem zga{l:List Int}(h1:1<=l.length)(h2:l.length<=100)(h:zfn l l.length):yj l=true:=by
 unfold yj;rw [aX h1,aX h2,zum (z:=0) λj hj=>(h j hj).1];simp only [Bool.true_and];unfold incB;refine Wg λj hj=> ?_
 rw [zed];exact(h (j+1) hj).2 (by omega)
theorem zlz{l:List Int}{i:Nat}(hi:i<l.length)(h:¬ (dayB (l.getD i 0)=true/\(0<i->l.getD (i - 1) 0<l.getD i 0))):yj l=false:=by
 unfold yj;by_cases hd:dayB (l.getD i 0)=true
 ·have h:0<i/\¬ l.getD (i - 1) 0<l.getD i 0:=by
   refine⟨?_,?_⟩
   ·rcases bC i with h0 | h0
    ·exact absurd ⟨hd,λh1=>by omega⟩ h
    ·exact h0
   ·exactλh1=>h ⟨hd,λ_=>h1⟩
  have:incB l=false:=by
   unfold incB;refine JM (j:=i - 1) (by omega) ?_;rw [zed,show i - 1+1=i by omega];exact h.2
  rw [this]; simp
 ·have:l.all dayB=false:=zq9 (z:=0) hi (by simpa using hd);rw [this]; simp
theorem zbv{l:List Int}{i:Nat}(h:zfn l i)(h1:dayB (l.getD i 0)=true/\(0<i->l.getD (i - 1) 0<l.getD i 0)):zfn l (i+1):=λj hj=>by
 rcases aR j i with h2 | h2
 ·exact h j h2
 ·rw [show j=i by omega]; exact h1
theorem zek{l:List Int}{i:Nat}{b:Bool}(hb:b=dayB (l.getD i 0)):(bif !b then true else bif decide (0<(i:Int)) then decide (l.getD i 0<=l.getD ((i:Int) - 1).toNat 0) else false)=false↔(dayB (l.getD i 0)=true/\(0<i->l.getD (i - 1) 0<l.getD i 0)):=by
 have e:((i:Int) - 1).toNat=i - 1:=by omega
 rw [e,<- hb];cases b with
 | false=>simp
 | true=>
  by_cases h0:0<i
  ·have h1:0<(i:Int):=by omega
   rw [aX h1];simp only [Bool.not_true,cond_false,cond_true,aV,true_and];exact⟨λh _=>by omega,λh=>by have:=h h0; omega⟩
  ·have h1:¬ 0<(i:Int):=by omega
   rw [aW h1];simp [h0]
theorem zjj{l:List Int}{i:Nat}{b:Bool}(hb:b=dayB (l.getD i 0)):(bif !b then true else bif decide (0<(i:Int)) then decide (l.getD i 0<=l.getD ((i:Int) - 1).toNat 0) else false)=true->¬ (dayB (l.getD i 0)=true/\(0<i->l.getD (i - 1) 0<l.getD i 0)):=λh g=>by
 rw [(zek hb).2 g] at h; cases h
def SDy(l:List Int)(i:Nat):KV:=[(0,Con.dayS l),(13,Con.dayS l),(14,.i (l.length:Int)),(15,.i (i:Int)),Z 24,Z 25,Z 26,Z 27,Z 28,Z 29,Z 30,Z 31,Z 32,Z 33,Z 34]
theorem ztf(d:Int):(bif decide (0<=d) then decide (d<=99999) else false)=dayB d:=by
 rw [Bool.eq_iff_iff];simp [dayB]
theorem zph:ze prog 139 zsw:=by
 refine zh' f139 λl hl O w0 Q hq=> ?_
 replace hq:=hq _ rfl;refine zc.n GDy.h [0,13,14,15,24,25,26,27,28,29,30,31,32,33,34] (.ite (bif decide ((l.length:Int)<1) then true else decide ((100:Int)<l.length)) (.R [.bool false] []) (.leaf (.loop (lps K139 0).1 (lps K139 0).2 [(0,.sl l.length 1 (Con.dayG l)),(13,.sl l.length 1 (Con.dayG l)),(14,.i l.length),(15,.i 0),Z 24,Z 25,Z 26,Z 27,Z 28,Z 29,Z 30,Z 31,Z 32,Z 33,Z 34] []))) ?_;simp only [Tree.holds,zf,inR,lo,hi,aD];refine⟨λh=> ?_,λh=> ?_⟩
 ·have hb:yj l=false:=by
   unfold yj;by_cases h1:1<=l.length
   ·by_cases h2:l.length<=100
    ·rw [aW (by omega),aW (by omega)] at h; cases h
    ·rw [aW h2]; simp
   ·rw [aW h1]; simp
  rw [hb] at hq;exact RetR.scal hq rfl rfl
 have hlen:1<=l.length/\l.length<=100:=by
  by_cases h1:(l.length:Int)<1
  ·rw [aX h1] at h; cases h
  ·rw [aW h1] at h;have:=aC h;omega
 clear h;refine zc.loop (ι:={i:Nat // i<=l.length/\zfn l i}) (λi=>SDy l i.1) (λ_=>[]) (λi=>l.length - i.1) ⟨0,aI _,λj hj=>by omega⟩ 0 ?_ ?_ (by kernel_rfl)
 ·exact⟨by simp [SDy,Con.dayS,za],by simp,by kernel_rfl,aI _⟩
 rintro⟨i,hil,hg⟩;refine zc.n GDy.h [0,13,14,15,24,25,26,27,28,29,30,31,32,33,34] (let v1:=l.getD (i:Int).toNat (0:Int)<=99999;.D ((i:Int)<l.length) (.side ((0:Int)<=i/\(i:Int)<l.length) (.side ((!bif decide ((0:Int)<=List.getD l (i:Int).toNat (0:Int)) then decide v1 else false)=false/\decide ((0:Int)<i)=true->inR .i64 (i-1)) (.side ((!bif decide ((0:Int)<=List.getD l (i:Int).toNat (0:Int)) then decide v1 else false)=false/\decide ((0:Int)<i)=true->(0:Int)<=i - (1:Int)/\(i:Int) - (1:Int)<l.length) (.ite (bif !bif decide ((0:Int)<=List.getD l (i:Int).toNat (0:Int)) then decide v1 else false then true else bif decide ((0:Int)<i) then decide (l.getD (i:Int).toNat (0:Int)<=List.getD l (Int.toNat (i-1)) (0:Int)) else false) (.R [.bool false] []) (.S (i+1) (.leaf (.back 0 [(0,.sl l.length 1 (Con.dayG l)),(13,.sl l.length 1 (Con.dayG l)),(14,.i l.length),(15,.i (i+1)),Z 24,Z 25,Z 26,Z 27,Z 28,Z 29,Z 30,Z 31,Z 32,Z 33,Z 34] []))))))) (.R [.bool true] [])) ?_;simp only [Tree.holds,zf,inR,lo,hi,aD];refine⟨λhlt=> ?_,λhge=> ?_⟩
 ·have hlt:i<l.length:=by have:=aB hlt; omega
  refine⟨by omega,λ_=>⟨λh=>(by have:=aB h.2; omega),λ_=>⟨λh=>(by have:=aB h.2; omega),λ_=>⟨λht=> ?_,λht=>⟨by omega,λ_=> ?_⟩⟩⟩⟩⟩
  ·rw [zlz hlt (zjj (ztf _) ht)] at hq;exact RetR.scal hq rfl rfl
  ·rw [aP trivial];exact⟨⟨i+1,hlt,zbv hg ((zek (ztf _)).1 ht)⟩,by show l.length - (i+1)<l.length - i; omega,by simp [SDy,Con.dayS,za],by simp,by kernel_rfl,aI _⟩
 ·have hge:i=l.length:=by have:=aC hge; omega
  subst hge;rw [zga hlen.1 hlen.2 hg] at hq;exact RetR.scal hq rfl rfl
def bitB(p q:Int):Bool:=decide (((p.toNat &&& q.toNat:Nat):Int)≠0)
def HHas(p:Int):Heap:=[.box [.i p]]
def hasC:Ctr:=ctrT false false (λp:Int×Int=>[.i p.2,.ptr 0 0]) (λp=>HHas p.1) (λp=>0<=p.1/\p.1<512/\0<=p.2/\p.2<512) (λp r=>r=bitB p.1 p.2) (λp (r:Bool)=>(.bool r,HHas p.1))
theorem zmh:ze prog 134 hasC:=by
 refine z9 (fn:=f134) (c:=f134.body.getD .skip) rfl rfl rfl (λh=>by cases h) λp hp O w0 I0 Q hl0 hq=> ?_
 obtain⟨p,q⟩:=p;obtain⟨h1,h2,h3,h4⟩:=hp;replace hq:=hq _ rfl;simp only at h1 h2 h3 h4 hq;refine zc.n zw [] (.side (((0:Int)<=p/\p<=9223372036854775807)/\(0:Int)<=q/\q<=9223372036854775807) (.R [.bool !decide ((↑(Int.toNat p &&& Int.toNat q):Int)=0)] [.box [.i p]])) ?_;simp only [Tree.holds,zf,inR,lo,hi,aD];refine⟨by omega,λ_=> ?_⟩;refine RetR.keep [0] rfl rfl (by show ∀ j,j<1->_; decide) rfl hq ?_ ?_ rfl
 ·show(!decide (((p.toNat &&& q.toNat:Nat):Int)=0))=bitB p q;simp [bitB]
 ·exact⟨⟨⟨rfl,rfl⟩,trivial⟩,trivial⟩
noncomputable def GNd2:=tb zmh (tb XC tz)
def zss(p:Int):Heap:=[.box [.fn 134 [] [.ptr 1 0]],.box [.i p]]
def wK(b:Bool)(s:L8):Bool:=if b=true then qH s else decide (s=[])
def ztj:Ctr:=ctrT false false (λp:Int×Int×L8=>[.i p.2.1,.str p.2.2,.ptr 0 0]) (λp=>zss p.1) (λp=>0<=p.1/\p.1<512/\0<=p.2.1/\p.2.1<512/\p.2.2.length<2^62) (λp r=>r=wK (bitB p.1 p.2.1) p.2.2) (λp (r:Bool)=>(.bool r,zss p.1))
abbrev q52(A:List AV)(H:Heap)(x:Int×Int):Prop:=eqL A [.i x.2,.ptr 0 0]/\eqH H [.box [.i x.1]]/\1=1/\(0:Int)<=x.1/\x.1<512/\(0:Int)<=x.2/\x.2<512
theorem zq8:ze prog 135 ztj:=by
 refine z9 (fn:=f135) (c:=f135.body.getD .skip) rfl rfl rfl (λh=>by cases h) λp hp O w0 I0 Q hl0 hq=> ?_
 obtain⟨p,q,s⟩:=p;obtain⟨h1,h2,h3,h4,h5⟩:=hp;replace hq:=hq _ rfl;simp only at h1 h2 h3 h4 h5 hq;refine zc.n GNd2.h [] (.ex (q52 [.i q,.ptr 0 0] [.box [.i p]]) λn=>.all (λ(r:Bool)=>r=bitB n.1 n.2) λn_1=>.ex (λ(x:L8)=>n_1=true->q15 [.str s] x) λn_2=>.all (λ(x:Bool)=>n_1=true->x=qH n_2) λn_3=>.ite ((bif n_1 then n_3 else false) == false) (.ex (q52 [.i q,.ptr 0 0] [.box [.i n.1]]) λn=>.all (λ(r:Bool)=>r=bitB n.1 n.2) λn_4=>.R [.bool (bif bif n_1 then n_3 else false then true else bif !n_4 then decide (s=#[].toList) else false)] [.box [.fn 134 [] [.ptr 1 0]],.box [.i n.1]]) (.R [.bool (bif bif n_1 then n_3 else false then true else bif !false then decide (s=#[].toList) else false)] [.box [.fn 134 [] [.ptr 1 0]],.box [.i n.1]])) ?_;simp only [q15,q52,Tree.holds,zf,inR,lo,hi,aD];refine⟨(p,q),⟨⟨⟨rfl,rfl⟩,⟨rfl,rfl⟩,trivial⟩,⟨⟨⟨rfl,rfl⟩,trivial⟩,trivial⟩,trivial,h1,h2,h3,h4⟩,⟨_,rfl⟩,?_⟩;rintro b rfl;refine⟨s,λ_=>⟨⟨rfl,trivial⟩,h5⟩,⟨qH s,λ_=>rfl⟩,λm hm=>⟨λhb=> ?_,λhb=> ?_⟩⟩
 ·refine⟨(p,q),⟨⟨⟨rfl,rfl⟩,⟨rfl,rfl⟩,trivial⟩,⟨⟨⟨rfl,rfl⟩,trivial⟩,trivial⟩,trivial,h1,h2,h3,h4⟩,⟨_,rfl⟩,?_⟩;rintro b rfl;refine RetR.keep [0,1] rfl rfl (by show ∀ j,j<2->_; decide) rfl hq ?_ ?_ rfl
  ·simp only [exp2,exp1,exp0,resV,eqA2,wK];cases hbb:bitB p q with
   | true=>
    have:=hm hbb;rw [hbb] at hb;subst this;have:qH s=false:=by simpa using hb
    rw [this]; rfl
   | false=>simp; rfl
  ·exact⟨⟨rfl,trivial⟩,⟨⟨rfl,rfl⟩,trivial⟩,trivial⟩
 ·refine RetR.keep [0,1] rfl rfl (by show ∀ j,j<2->_; decide) rfl hq ?_ ?_ rfl
  ·simp only [exp2,exp1,exp0,resV,eqA2,wK];cases hbb:bitB p q with
   | true=>
    have:=hm hbb;rw [hbb] at hb;subst this;have:qH s=true:=by simpa using hb
    rw [this]; rfl
   | false=>rw [hbb] at hb; simp at hb
  ·exact⟨⟨rfl,trivial⟩,⟨⟨rfl,rfl⟩,trivial⟩,trivial⟩
noncomputable def GNd:=tb zmh (tb zq8 (tb zur (tb zmf (tb XS (tb Xh (tb zph tz))))))
end Go.Proofs.Tryz
end
section
namespace Go.Sx
variable [Stat]
section
variable {O:Nat->Prop} {pin:Nat} {w0:World} {I0:List SE} {P:Program} {fn:Func} {Xp:List PanicEntry->Prop}
def fstC:Code->Code
 | .seq a _=>a
 | c=>c
def sndC:Code->Code
 | .seq _ b=>b
 | c=>c
def blkC:Code->Code
 | .block _ c=>c
 | c=>c
def blkI:Code->Nat
 | .block i _=>i
 | _=>0
theorem zc.cut{M:Option Nat}{ι:Type}{Hs:Nat->KV->Heap->Prop}{R:List AV->Heap->Prop}{k:List Item}{c:Code}{st:St}(S:ι->KV)(H:ι->Heap)(dk:Nat)
  (h1:zH Xp M P fn O pin w0 I0 (λd kv h=>if d=dk then ∃ x,LeK pin fn.ntmps kv h (S x) (H x) else Hs d kv h) R (.code c::.inLoop::k) st) (hd:jz k=dk)
  (h2:∀ x,zH Xp M P fn O pin w0 I0 Hs R k (mk fn.ntmps (S x) (H x))):zH Xp M P fn O pin w0 I0 Hs R (.code c::k) st:=by
 subst hd;intro w σ a hm;have:=h1 w σ a hm;simp only [wpK] at this ⊢;refine wpIn_mono this λe a' w' he=> ?_
 cases e with
 | normal=>
  simp only [wpK] at he;obtain⟨st',Z',⟨kv,h,hh,rfl⟩,hm'⟩:=he;rw [aP trivial] at hh;obtain⟨x,hle⟩:=hh;exact h2 x w' _ a' (hle.le.mod hm')
 | _=>
  simp only [wpK] at he;refine ju (λd a w hd hh=> ?_) he;obtain⟨st',Z',⟨kv,h,hh,rfl⟩,hm'⟩:=hh;rw [aO (by omega)] at hh;exact⟨_,Z',⟨kv,h,hh,rfl⟩,hm'⟩
theorem zc.seq{M:Option Nat}{Hs:Nat->KV->Heap->Prop}{R:List AV->Heap->Prop}{k:List Item}{c:Code}{st:St}(hc:c = .seq (fstC c) (sndC c))
  (h:zH Xp M P fn O pin w0 I0 Hs R (.code (fstC c)::.code (sndC c)::k) st):zH Xp M P fn O pin w0 I0 Hs R (.code c::k) st:=by
 rw [hc];generalize fstC c=a at h;generalize sndC c=b at h;intro w σ act hm;have:=h w σ act hm;simp only [wpK] at this ⊢;refine wpIn_seq (wpIn_mono this λe a w h=> ?_);cases e<;>exact h
theorem zc.block{M:Option Nat}{Hs:Nat->KV->Heap->Prop}{R:List AV->Heap->Prop}{k:List Item}{c:Code}{st:St}(hc:c = .block (blkI c) (blkC c))
  (h:zH Xp M P fn O pin w0 I0 Hs R (.code (blkC c)::.inBlock (blkI c)::k) st):zH Xp M P fn O pin w0 I0 Hs R (.code c::k) st:=by
 rw [hc];generalize blkC c=a at h;generalize blkI c=i at h;intro w σ act hm;have:=h w σ act hm;simp only [wpK] at this ⊢;refine wpIn_block (wpIn_mono this λe a w h=> ?_);cases e<;>exact h
end
end Go.Sx
end
section
namespace Go.Sx
variable [Stat]
section
variable {O:Nat->Prop} {pin:Nat} {w0:World} {I0:List SE} {P:Program} {fn:Func} {Xp:List PanicEntry->Prop}
def jM:Nat->Code->List Item
 | n+1,.seq a b=>.code a::jM n b
 | _,c=>[.code c]
theorem Vy{M:Option Nat}{H:Nat->Act->World->Prop}{B:Exit->Act->World->Prop}{k:List Item}{e:Exit}(he:e≠.normal){a:Act}{w:World} : ∀ (n:Nat) (c:Code),wpK M P H B (jM n c++k) e a w->wpK M P H B k e a w
 | 0,c,h=>by cases c<;>cases e<;>first | exact absurd rfl he | exact h
 | n+1,c,h=>by
  cases c with
  | seq x y=>cases e<;>first | exact absurd rfl he | exact Vy he n y h
  | _=>cases e<;>first | exact absurd rfl he | exact h
theorem QE{M:Option Nat}{H:Nat->Act->World->Prop}{B:Exit->Act->World->Prop} : ∀ (n:Nat) (c:Code) (k:List Item) (a:Act) (w:World),wpK M P H B (jM n c++k) .normal a w->wpK M P H B (.code c::k) .normal a w
 | 0,c,k,a,w,h=>by cases c<;>exact h
 | n+1,c,k,a,w,h=>by
  cases c with
  | seq x y=>
   simp only [jM,List.cons_append,wpK] at h ⊢;refine wpIn_seq (wpIn_mono h λe a w h=> ?_);cases e with
   | normal=>exact QE n y k a w h
   | _=>exact Vy (by simp) n y h
  | _=>exact h
theorem zc.spine{M:Option Nat}{Hs:Nat->KV->Heap->Prop}{R:List AV->Heap->Prop}{k:List Item}{c:Code}{st:St}(n:Nat)(h:zH Xp M P fn O pin w0 I0 Hs R (Go.Sx.jM n c++k) st):zH Xp M P fn O pin w0 I0 Hs R (.code c::k) st:=
 λw σ a hm=>QE n c k a w (h w σ a hm)
def Jc:Item->Bool
 | .inLoop=>false
 | _=>true
theorem kS{M:Option Nat}{H H':Nat->Act->World->Prop}{B:Exit->Act->World->Prop}{k:List Item}(h1:∀ a w,H' (jz k) a w->wpK M P H B k .normal a w)(h2:∀ d a w,d<jz k->H' d a w->H d a w) :
  ∀ (ks:List Item),ks.all Jc=true->∀ (e:Exit) (a:Act) (w:World),wpK M P H' B (ks++.inLoop::k) e a w->wpK M P H B (ks++k) e a w
 | [],_,e,a,w,h=>by
  cases e with
  | normal=>exact h1 a w h
  | _=>exact ju (k:=k) (λd a w hd h=>h2 d a w hd h) h
 | .code c::ks,hf,e,a,w,h=>by
  have hf':ks.all Jc=true:=by simpa [Jc] using hf
  cases e with
  | normal=>exact wpIn_mono h λe a w h=>kS h1 h2 ks hf' e a w h
  | _=>exact kS h1 h2 ks hf' _ a w h
 | .inBlock id::ks,hf,e,a,w,h=>by
  have hf':ks.all Jc=true:=by simpa [Jc] using hf
  cases e with
  | normal=>exact kS h1 h2 ks hf' _ a w h
  | exit i=>
   simp only [List.cons_append,wpK] at h ⊢;split at h
   ·rename_i hi; rw [aP hi]; exact kS h1 h2 ks hf' _ a w h
   ·rename_i hi; rw [aO hi]; exact kS h1 h2 ks hf' _ a w h
  | _=>exact kS h1 h2 ks hf' _ a w h
 | .inLoop::ks,hf,e,a,w,h=>by simp [Jc] at hf
theorem zc.cutL{M:Option Nat}{ι:Type}{Hs:Nat->KV->Heap->Prop}{R:List AV->Heap->Prop}{st:St}(L:List Item)(m dk:Nat)(S:ι->KV)(H:ι->Heap)(hf:(L.take m).all Jc=true)(hd:jz (L.drop m)=dk)
  (h1:zH Xp M P fn O pin w0 I0 (λd kv h=>if d=dk then ∃ x,LeK pin fn.ntmps kv h (S x) (H x) else Hs d kv h) R (L.take m++.inLoop::L.drop m) st)
  (h2:∀ x,zH Xp M P fn O pin w0 I0 Hs R (L.drop m) (mk fn.ntmps (S x) (H x))):zH Xp M P fn O pin w0 I0 Hs R L st:=by
 subst hd;intro w σ a hm;have:=h1 w σ a hm;rw [<- bU m L];refine kS ?_ ?_ (L.take m) hf .normal a w this
 ·rintro a' w' ⟨st',Z',⟨kv,h,hh,rfl⟩,hm'⟩;rw [aP rfl] at hh;obtain⟨x,hle⟩:=hh;exact h2 x w' _ a' (hle.le.mod hm')
 ·rintro d a' w' hd ⟨st',Z',⟨kv,h,hh,rfl⟩,hm'⟩;rw [aO (by omega)] at hh;exact⟨_,Z',⟨kv,h,hh,rfl⟩,hm'⟩
end
end Go.Sx
end
section
set_option maxRecDepth 100000
open Go Go.Sx Go.Proofs Go.Nov
def Go.Nov.Con.p(c:Con):Int:=kY c.kind
namespace Go.Proofs.Tryz
attribute [local simp] eqKV eqA eqA0 eqH eqB eqL eqL0
def zmb:Ctr:=ctrP true (λc:Con=>[c.conA]) (λc=>c.big<2^40) (λc r=>r=c.yn) (λ_ (r:Bool)=>(.bool r,[]))
noncomputable def LN:List Go.Sx.Item:=jM 12 (f97.body.getD .skip)++[]
noncomputable def LN1:List Go.Sx.Item:=LN.drop 6
noncomputable def LN2:List Go.Sx.Item:=LN1.drop 1
noncomputable def LN3:List Go.Sx.Item:=LN2.drop 3
noncomputable def LN4:List Go.Sx.Item:=LN3.drop 1
noncomputable def LN5:List Go.Sx.Item:=LN4.drop 1
def HNd(c:Con):Heap:=[.box c.zg,.box [.i c.p],.box [.fn 134 [] [.ptr 1 0]]]
def SN1:KV:=[(1,.ptr 0 0),(5,.ptr 2 0),(6,.fn 135 [] [.ptr 2 0])]
def SN2(a:Bool):KV:=[(1,.ptr 0 0),(4,.bool a),(5,.ptr 2 0)]
def SN3(a:Bool)(m:Int):KV:=[(1,.ptr 0 0),(4,.bool a),(5,.ptr 2 0),(7,.i m)]
def SN4(a:Bool)(m:Int)(b:Bool):KV:=[(1,.ptr 0 0),(4,.bool a),(5,.ptr 2 0),(7,.i m),(8,.bool b)]
def SN5(a:Bool)(m:Int)(b d:Bool):KV:=[(1,.ptr 0 0),(4,.bool a),(7,.i m),(8,.bool b),(9,.bool d)]
namespace Nd
def words(c:Con):Prop:=wK (bitB c.p 1) c.src=true/\wK (bitB c.p 2) c.dst=true/\wK (bitB c.p 4) c.name=true/\¬ (bitB c.p 2=true/\c.src=c.dst)
def okX(c:Con):Bool:=if bitB c.p 8=true then numX c.x else if bitB c.p 16=true then truX c.x else jX c.x
def subs(c:Con):Int:=if bitB c.p 256=true then 2 else if bitB c.p 128=true then 1 else 0
def right(c:Con):Bool:=if bitB c.p 32=true then dayB c.date else decide (c.date=0)
def list(c:Con):Bool:=if bitB c.p 64=true then yj c.days else decide (c.days.length=0)
end Nd
theorem zg3(k:Int):0<=kY k/\kY k<512:=by
 unfold kY
 repeat' split
 all_goals decide
theorem Kt{c:Con}(hk:1<=c.kind/\c.kind<=10):c.yn=true↔Nd.words c/\Nd.okX c=true/\Nd.right c=true/\Nd.list c=true/\(c.sub.length:Int)=Nd.subs c:=by
 have hr:c.kind=1\/c.kind=2\/c.kind=3\/c.kind=4\/c.kind=5\/c.kind=6\/c.kind=7\/c.kind=8\/c.kind=9\/c.kind=10:=by omega
 unfold Con.yn kK Nd.words Nd.okX Nd.right Nd.list Nd.subs Con.p kY wK bitB;generalize c.kind=k at hr hk;generalize c.src=a;generalize c.dst=b;generalize c.name=n;generalize c.x=x;generalize c.date=d;generalize c.days=l;generalize c.sub.length=m;rcases hr with rfl | rfl | rfl | rfl | rfl | rfl | rfl | rfl | rfl | rfl
 all_goals
  simp;grind
theorem UY{c:Con}(h:¬ ((1<=c.kind/\c.kind<=10)/\Nd.words c)):c.yn=false:=by
 by_cases hk:1<=c.kind/\c.kind<=10
 ·rw [Bool.eq_false_iff];exactλhh=>h ⟨hk,((Kt hk).1 hh).1⟩
 ·unfold Con.yn kK;rw [aO (by omega),aO (by omega),aO (by omega),aO (by omega),aO (by omega),aO (by omega),aO (by omega),aO (by omega),aO (by omega)]
abbrev q55(A:List AV)(x:List Int):Prop:=eqL A [.sl x.length 1 (Con.dayG x)]/\x.length<1099511627776
abbrev q54(A:List AV)(x:Ex):Prop:=eqL A [x.exA]/\Ex.size x<1099511627776/\Ex.zQ x<1099511627776
abbrev q53(A:List AV)(H:Heap)(x:Int×Int×L8):Prop:=eqL A [.i x.2.1,.str x.2.2,.ptr 0 0]/\eqH H [.box [.fn 134 [] [.ptr 1 0]],.box [.i x.1]]/\2=2/\(0:Int)<=x.1/\x.1<512/\(0:Int)<=x.2.1/\x.2.1<512/\x.2.2.length<4611686018427387904
theorem zpd:ze prog 97 zmb:=by
 refine zh' f97 λc hc O w0 Q hq=> ?_
 replace hq:=hq _ rfl;have hb:=hc;rw [Con.Za] at hb;obtain⟨hp0,hp1⟩:=zg3 c.kind;refine zc.spine 12 ?_;refine zc.cutL (ι:={u:Unit // (1<=c.kind/\c.kind<=10)/\Nd.words c}) LN 6 0 (λ_=>SN1) (λ_=>HNd c) (by kernel_rfl) (by kernel_rfl) ?_ ?_
 ·refine zc.n GNd.h [1,5,6] (let v9:=[AV.i 2,AV.str c.dst,AV.ptr 0 0];let v8:=[AV.i 1,AV.str c.src,AV.ptr 0 0];let v7:=[AV.i 4,AV.str c.name,AV.ptr 0 0];let v6:=[AV.i 2,AV.ptr 0 0];let v5:List AV:=[.bool false];let v4:=[AV.fn 134 [] [.ptr 1 0]];let v3:=Con.src c=Con.dst c;let v2:List AV:=[.fn 134 [] [.ptr 1 0]];let v1:List (Nat×AV):=[(1,.ptr 0 0),(5,.ptr 2 0),(6,.fn 135 [] [.ptr 2 0])];.D ((1:Int)<=Con.kind c/\Con.kind c<=10) (.ite false (.R v5 [.box c.zg,.box [.i (kY c.kind)]]) (.ex (q53 v8 [.box v4,.box [.i (kY c.kind)]]) λn=>let v26:=[AV.i n.1];let v17:List Blk:=[.box c.zg,.box [.i n.1],.box v2];.all (λ(r:Bool)=>r=wK (bitB n.1 n.2.1) n.2.2) λn_1=>.ite ((!n_1) == false) (.ex (q53 v9 [.box v4,.box v26]) λn=>let v13:List Blk:=[.box c.zg,.box [.i n.1],.box v2];.all (λ(r:Bool)=>r=wK (bitB n.1 n.2.1) n.2.2) λn_2=>.ite ((bif !n_1 then true else !n_2) == false) (.ex (q53 v7 [.box v4,.box [.i n.1]]) λn=>let v11:List Blk:=[.box c.zg,.box [.i n.1],.box v2];.all (λ(r:Bool)=>r=wK (bitB n.1 n.2.1) n.2.2) λn_3=>.ite ((bif bif !n_1 then true else !n_2 then true else !n_3) == false) (.ex (q52 v6 [.box [.i n.1]]) λn=>let v10:List Blk:=[.box c.zg,.box [.i n.1],.box v2];.all (λ(r:Bool)=>r=bitB n.1 n.2) λn_4=>.ite (bif bif bif !n_1 then true else !n_2 then true else !n_3 then true else bif n_4 then decide v3 else false) (.R v5 v10) (.leaf (.back 0 v1 v10))) (.ite (bif bif bif !n_1 then true else !n_2 then true else !n_3 then true else bif false then decide v3 else false) (.R v5 v11) (.leaf (.back 0 v1 v11)))) (.ite ((bif bif !n_1 then true else !n_2 then true else !false) == false) (.ex (q52 v6 [.box [.i n.1]]) λn=>let v12:List Blk:=[.box c.zg,.box [.i n.1],.box v2];.all (λ(r:Bool)=>r=bitB n.1 n.2) λn_3=>.ite (bif bif bif !n_1 then true else !n_2 then true else !false then true else bif n_3 then decide v3 else false) (.R v5 v12) (.leaf (.back 0 v1 v12))) (.ite (bif bif bif !n_1 then true else !n_2 then true else !false then true else bif false then decide v3 else false) (.R v5 v13) (.leaf (.back 0 v1 v13))))) (.ite ((bif !n_1 then true else !false) == false) (.ex (q53 v7 [.box v4,.box v26]) λn=>let v15:List Blk:=[.box c.zg,.box [.i n.1],.box v2];.all (λ(r:Bool)=>r=wK (bitB n.1 n.2.1) n.2.2) λn_2=>.ite ((bif bif !n_1 then true else !false then true else !n_2) == false) (.ex (q52 v6 [.box [.i n.1]]) λn=>let v14:List Blk:=[.box c.zg,.box [.i n.1],.box v2];.all (λ(r:Bool)=>r=bitB n.1 n.2) λn_3=>.ite (bif bif bif !n_1 then true else !false then true else !n_2 then true else bif n_3 then decide v3 else false) (.R v5 v14) (.leaf (.back 0 v1 v14))) (.ite (bif bif bif !n_1 then true else !false then true else !n_2 then true else bif false then decide v3 else false) (.R v5 v15) (.leaf (.back 0 v1 v15)))) (.ite ((bif bif !n_1 then true else !false then true else !false) == false) (.ex (q52 v6 [.box v26]) λn=>let v16:List Blk:=[.box c.zg,.box [.i n.1],.box v2];.all (λ(r:Bool)=>r=bitB n.1 n.2) λn_2=>.ite (bif bif bif !n_1 then true else !false then true else !false then true else bif n_2 then decide v3 else false) (.R v5 v16) (.leaf (.back 0 v1 v16))) (.ite (bif bif bif !n_1 then true else !false then true else !false then true else bif false then decide v3 else false) (.R v5 v17) (.leaf (.back 0 v1 v17))))))) (.ite true (.R v5 [.box c.zg,.box [.i 0]]) (.ex (q53 v8 [.box v4,.box [.i 0]]) λn=>let v27:=[AV.i n.1];let v25:List Blk:=[.box c.zg,.box [.i n.1],.box v2];.all (λ(r:Bool)=>r=wK (bitB n.1 n.2.1) n.2.2) λn_1=>.ite ((!n_1) == false) (.ex (q53 v9 [.box v4,.box v27]) λn=>let v21:List Blk:=[.box c.zg,.box [.i n.1],.box v2];.all (λ(r:Bool)=>r=wK (bitB n.1 n.2.1) n.2.2) λn_2=>.ite ((bif !n_1 then true else !n_2) == false) (.ex (q53 v7 [.box v4,.box [.i n.1]]) λn=>let v19:List Blk:=[.box c.zg,.box [.i n.1],.box v2];.all (λ(r:Bool)=>r=wK (bitB n.1 n.2.1) n.2.2) λn_3=>.ite ((bif bif !n_1 then true else !n_2 then true else !n_3) == false) (.ex (q52 v6 [.box [.i n.1]]) λn=>let v18:List Blk:=[.box c.zg,.box [.i n.1],.box v2];.all (λ(r:Bool)=>r=bitB n.1 n.2) λn_4=>.ite (bif bif bif !n_1 then true else !n_2 then true else !n_3 then true else bif n_4 then decide v3 else false) (.R v5 v18) (.leaf (.back 0 v1 v18))) (.ite (bif bif bif !n_1 then true else !n_2 then true else !n_3 then true else bif false then decide v3 else false) (.R v5 v19) (.leaf (.back 0 v1 v19)))) (.ite ((bif bif !n_1 then true else !n_2 then true else !false) == false) (.ex (q52 v6 [.box [.i n.1]]) λn=>let v20:List Blk:=[.box c.zg,.box [.i n.1],.box v2];.all (λ(r:Bool)=>r=bitB n.1 n.2) λn_3=>.ite (bif bif bif !n_1 then true else !n_2 then true else !false then true else bif n_3 then decide v3 else false) (.R v5 v20) (.leaf (.back 0 v1 v20))) (.ite (bif bif bif !n_1 then true else !n_2 then true else !false then true else bif false then decide v3 else false) (.R v5 v21) (.leaf (.back 0 v1 v21))))) (.ite ((bif !n_1 then true else !false) == false) (.ex (q53 v7 [.box v4,.box v27]) λn=>let v23:List Blk:=[.box c.zg,.box [.i n.1],.box v2];.all (λ(r:Bool)=>r=wK (bitB n.1 n.2.1) n.2.2) λn_2=>.ite ((bif bif !n_1 then true else !false then true else !n_2) == false) (.ex (q52 v6 [.box [.i n.1]]) λn=>let v22:List Blk:=[.box c.zg,.box [.i n.1],.box v2];.all (λ(r:Bool)=>r=bitB n.1 n.2) λn_3=>.ite (bif bif bif !n_1 then true else !false then true else !n_2 then true else bif n_3 then decide v3 else false) (.R v5 v22) (.leaf (.back 0 v1 v22))) (.ite (bif bif bif !n_1 then true else !false then true else !n_2 then true else bif false then decide v3 else false) (.R v5 v23) (.leaf (.back 0 v1 v23)))) (.ite ((bif bif !n_1 then true else !false then true else !false) == false) (.ex (q52 v6 [.box v27]) λn=>let v24:List Blk:=[.box c.zg,.box [.i n.1],.box v2];.all (λ(r:Bool)=>r=bitB n.1 n.2) λn_2=>.ite (bif bif bif !n_1 then true else !false then true else !false then true else bif n_2 then decide v3 else false) (.R v5 v24) (.leaf (.back 0 v1 v24))) (.ite (bif bif bif !n_1 then true else !false then true else !false then true else bif false then decide v3 else false) (.R v5 v25) (.leaf (.back 0 v1 v25)))))))) ?_;simp only [q52,q53,Tree.holds,zf,inR,lo,hi,aD];obtain⟨b1,e1⟩:∃ b,wK (bitB c.p 1) c.src=b:=⟨_,rfl⟩;obtain⟨b2,e2⟩:∃ b,wK (bitB c.p 2) c.dst=b:=⟨_,rfl⟩;obtain⟨b3,e3⟩:∃ b,wK (bitB c.p 4) c.name=b:=⟨_,rfl⟩;obtain⟨b4,e4⟩:∃ b,bitB c.p 2=b:=⟨_,rfl⟩;obtain⟨b5,e5⟩:∃ b,decide (c.src=c.dst)=b:=⟨_,rfl⟩
  have hbad:¬ ((1<=c.kind/\c.kind<=10)/\Nd.words c)->∀ h,RetR zmb 0 Q [.bool false] h:=λhn h=>by
   have:c.yn=false:=UY hn;rw [this] at hq;exact RetR.scal hq rfl (by simp [resV])
  refine⟨λhk=>⟨λh=>(by cases h),λ_=> ?_⟩,λhk=> ?_⟩
  ·have hk:=aB hk;refine⟨(c.p,1,c.src),⟨by simp,by simp [Con.p],trivial,hp0,hp1,(by simp only; omega),(by simp only; omega),by simp only; omega⟩,⟨_,rfl⟩,?_⟩;rintro _ rfl;simp only [e1];cases b1 with
   | false=>exact⟨λh=>by simp at h,λ_=>⟨λh=>by simp at h,λ_=>⟨λh=>by simp at h,λ_=>⟨λ_=>hbad (λh=>by have:=h.2.1; rw [e1] at this; cases this) _,λh=>by simp at h⟩⟩⟩⟩
   | true=>
   refine⟨λ_=> ?_,λh=>by simp at h⟩;refine⟨(c.p,2,c.dst),⟨by simp,by simp [Con.p],trivial,hp0,hp1,(by simp only; omega),(by simp only; omega),by simp only; omega⟩,⟨_,rfl⟩,?_⟩;rintro _ rfl;simp only [e2];cases b2 with
   | false=>exact⟨λh=>by simp at h,λ_=>⟨λh=>by simp at h,λ_=>⟨λ_=>hbad (λh=>by have:=h.2.2.1; rw [e2] at this; cases this) _,λh=>by simp at h⟩⟩⟩
   | true=>
   refine⟨λ_=> ?_,λh=>by simp at h⟩;refine⟨(c.p,4,c.name),⟨by simp,by simp [Con.p],trivial,hp0,hp1,(by simp only; omega),(by simp only; omega),by simp only; omega⟩,⟨_,rfl⟩,?_⟩;rintro _ rfl;simp only [e3];cases b3 with
   | false=>exact⟨λh=>by simp at h,λ_=>⟨λ_=>hbad (λh=>by have:=h.2.2.2.1; rw [e3] at this; cases this) _,λh=>by simp at h⟩⟩
   | true=>
   refine⟨λ_=> ?_,λh=>by simp at h⟩;refine⟨(c.p,2),⟨by simp,by simp [Con.p],trivial,hp0,hp1,(by simp only; omega),(by simp only; omega)⟩,⟨_,rfl⟩,?_⟩;rintro _ rfl;simp only [e4];refine⟨λh=> ?_,λh=> ?_⟩
   ·refine hbad (λhn=>hn.2.2.2.2 ?_) _;cases b4 with
    | false=>simp at h
    | true=>exact⟨e4,by simpa using h⟩
   ·rw [aP trivial];refine⟨⟨(),hk,e1,e2,e3,λhh=> ?_⟩,by simp [SN1],⟨zS c,⟨⟨rfl,rfl⟩,trivial⟩,⟨rfl,trivial⟩,trivial⟩,by kernel_rfl,aI _⟩;rw [e4] at hh;rw [hh.1] at h;simp [hh.2] at h
  ·have hk:=aC hk;refine⟨λ_=>hbad (λh=>hk h.1) _,λh=>by cases h⟩
 ·rintro⟨_,hk,hw⟩;show j4 none prog f97 O 0 w0 [] _ _ LN1 _;refine zc.cutL (ι:=Unit) LN1 1 0 (λ_=>SN2 (Nd.okX c)) (λ_=>HNd c) (by kernel_rfl) (by kernel_rfl) ?_ ?_
  ·refine zc.n GNd.h [1,4,5] (.ex (q52 [.i 8,.ptr 0 0] [.box [.i (Con.p c)]]) λn=>.all (λ(r:Bool)=>r=bitB n.1 n.2) λn_1=>.ite n_1 (.ex (q54 [(Ex.exA c.x)]) λn_2=>.all (λ(r:Bool)=>r=(decide (Ex.errX n_2=0)&&decide (Ex.zL n_2=1))) λn_3=>.leaf (.back 0 [(1,.ptr 0 0),(4,.bool n_3),(5,.ptr 2 0)] [.box c.zg,.box [.i n.1],.box [.fn 134 [] [.ptr 1 0]]])) (.ex (q52 [.i 16,.ptr 0 0] [.box [.i n.1]]) λn=>let v1:List Blk:=[.box c.zg,.box [.i n.1],.box [.fn 134 [] [.ptr 1 0]]];.all (λ(r:Bool)=>r=bitB n.1 n.2) λn_2=>.ite n_2 (.ex (q54 [(Ex.exA c.x)]) λn_3=>.all (λ(r:Bool)=>r=(decide (Ex.errX n_3=0)&&decide (Ex.zL n_3=2))) λn_4=>.leaf (.back 0 [(1,.ptr 0 0),(4,.bool n_4),(5,.ptr 2 0)] v1)) (.ex (q50 [(Ex.exA c.x)]) λn_3=>.all (λ(r:Bool)=>r=jX n_3) λn_4=>.leaf (.back 0 [(1,.ptr 0 0),(4,.bool n_4),(5,.ptr 2 0)] v1)))) ?_;simp only [q50,q52,q54,Tree.holds,zf,inR,lo,hi,aD];have hx1:c.x.size<2^40:=by omega
   have hx2:c.x.zQ<2^40:=by omega
   have leaf:∀ b,b=Nd.okX c->LeK 0 f97.ntmps [(1,.ptr 0 0),(4,.bool b),(5,.ptr 2 0)] (HNd c) (SN2 (Nd.okX c)) (HNd c):=λb hb=>by
    subst hb;exact⟨by simp [SN2],⟨zS c,⟨⟨rfl,rfl⟩,trivial⟩,⟨rfl,trivial⟩,trivial⟩,by kernel_rfl,aI _⟩
   refine⟨(c.p,8),⟨by simp,by simp,trivial,hp0,hp1,(by simp only; omega),(by simp only; omega)⟩,⟨_,rfl⟩,?_⟩;rintro _ rfl;refine⟨λh=> ?_,λh=> ?_⟩
   ·refine⟨c.x,⟨(by first | exact⟨vw _,trivial⟩ | simp [za]),hx1,hx2⟩,⟨_,rfl⟩,?_⟩;rintro _ rfl;rw [aP trivial];exact⟨(),leaf _ (by unfold Nd.okX; rw [aP h]; rfl)⟩
   ·have h8:¬ bitB c.p 8=true:=by simpa using h
    refine⟨(c.p,16),⟨by simp,by simp,trivial,hp0,hp1,(by simp only; omega),(by simp only; omega)⟩,⟨_,rfl⟩,?_⟩;rintro _ rfl;refine⟨λh=> ?_,λh=> ?_⟩
    ·refine⟨c.x,⟨(by first | exact⟨vw _,trivial⟩ | simp [za]),hx1,hx2⟩,⟨_,rfl⟩,?_⟩;rintro _ rfl;rw [aP trivial];exact⟨(),leaf _ (by unfold Nd.okX; rw [aO h8,aP h]; rfl)⟩
    ·refine⟨c.x,⟨(by first | exact⟨vw _,trivial⟩ | simp [za]),trivial⟩,⟨_,rfl⟩,?_⟩;rintro _ rfl;rw [aP trivial];exact⟨(),leaf _ (by unfold Nd.okX; rw [aO h8,aO (by simpa using h)])⟩
  ·rintro⟨⟩;obtain⟨a,ea⟩:∃ a,Nd.okX c=a:=⟨_,rfl⟩;rw [ea];show j4 none prog f97 O 0 w0 [] _ _ LN2 _;refine zc.cutL (ι:=Unit) LN2 3 0 (λ_=>SN3 a (Nd.subs c)) (λ_=>HNd c) (by kernel_rfl) (by kernel_rfl) ?_ ?_
   ·refine zc.n GNd.h [1,4,5,7] (let v4:List (Nat×AV):=[(1,.ptr 0 0),(4,.bool a),(5,.ptr 2 0),(7,.i 2)];.ex (q52 [.i 128,.ptr 0 0] [.box [.i (Con.p c)]]) λn=>let v1:=q52 [.i 256,.ptr 0 0] [.box [.i n.1]];.all (λ(r:Bool)=>r=bitB n.1 n.2) λn_1=>.ite n_1 (.ex v1 λn=>let v2:List Blk:=[.box c.zg,.box [.i n.1],.box [.fn 134 [] [.ptr 1 0]]];.all (λ(r:Bool)=>r=bitB n.1 n.2) λn_2=>.ite n_2 (.leaf (.back 0 v4 v2)) (.leaf (.back 0 [(1,.ptr 0 0),(4,.bool a),(5,.ptr 2 0),(7,.i 1)] v2))) (.ex v1 λn=>let v3:List Blk:=[.box c.zg,.box [.i n.1],.box [.fn 134 [] [.ptr 1 0]]];.all (λ(r:Bool)=>r=bitB n.1 n.2) λn_2=>.ite n_2 (.leaf (.back 0 v4 v3)) (.leaf (.back 0 [(1,.ptr 0 0),(4,.bool a),(5,.ptr 2 0),(7,.i 0)] v3)))) ?_;simp only [q52,Tree.holds,zf,inR,lo,hi,aD]
    have leaf:∀ m:Int,m=Nd.subs c->LeK 0 f97.ntmps [(1,.ptr 0 0),(4,.bool a),(5,.ptr 2 0),(7,.i m)] (HNd c) (SN3 a (Nd.subs c)) (HNd c):=λm hm=>by
     subst hm;exact⟨by simp [SN3],⟨zS c,⟨⟨rfl,rfl⟩,trivial⟩,⟨rfl,trivial⟩,trivial⟩,by kernel_rfl,aI _⟩
    refine⟨(c.p,128),⟨by simp,by simp,trivial,hp0,hp1,(by simp only; omega),(by simp only; omega)⟩,⟨_,rfl⟩,?_⟩;rintro _ rfl;refine⟨λh1=> ?_,λh1=> ?_⟩
    all_goals
     refine⟨(c.p,256),⟨by simp,by simp,trivial,hp0,hp1,(by simp only; omega),(by simp only; omega)⟩,⟨_,rfl⟩,?_⟩;rintro _ rfl;refine⟨λh2=> ?_,λh2=> ?_⟩
     all_goals
      rw [aP trivial];simp only at h1 h2;exact⟨(),leaf _ (by unfold Nd.subs; simp [h1,h2])⟩
   ·rintro⟨⟩;show j4 none prog f97 O 0 w0 [] _ _ LN3 _;obtain⟨m,em⟩:∃ m,Nd.subs c=m:=⟨_,rfl⟩;rw [em];refine zc.cutL (ι:=Unit) LN3 1 0 (λ_=>SN4 a m (Nd.right c)) (λ_=>HNd c) (by kernel_rfl) (by kernel_rfl) ?_ ?_
    ·refine zc.n GNd.h [1,4,5,7,8] (let v1:=Con.date c<=99999;.ex (q52 [.i 32,.ptr 0 0] [.box [.i (Con.p c)]]) λn=>.all (λ(r:Bool)=>r=bitB n.1 n.2) λn_1=>.ite ((bif n_1 then bif decide ((0:Int)<=Con.date c) then decide v1 else false else false) == false) (.ex (q52 [.i 32,.ptr 0 0] [.box [.i n.1]]) λn=>.all (λ(r:Bool)=>r=bitB n.1 n.2) λn_2=>.leaf (.back 0 [(1,.ptr 0 0),(4,.bool a),(5,.ptr 2 0),(7,.i m),(8,.bool (bif bif n_1 then bif decide ((0:Int)<=Con.date c) then decide v1 else false else false then true else bif !n_2 then decide (Con.date c=0) else false))] [.box c.zg,.box [.i n.1],.box [.fn 134 [] [.ptr 1 0]]])) (.leaf (.back 0 [(1,.ptr 0 0),(4,.bool a),(5,.ptr 2 0),(7,.i m),(8,.bool (bif bif n_1 then bif decide ((0:Int)<=Con.date c) then decide v1 else false else false then true else bif !false then decide (Con.date c=0) else false))] [.box c.zg,.box [.i n.1],.box [.fn 134 [] [.ptr 1 0]]]))) ?_;simp only [q52,Tree.holds,zf,inR,lo,hi,aD]
     have leaf:∀ b,b=Nd.right c->LeK 0 f97.ntmps [(1,.ptr 0 0),(4,.bool a),(5,.ptr 2 0),(7,.i m),(8,.bool b)] (HNd c) (SN4 a m (Nd.right c)) (HNd c):=λb hb=>by
      subst hb;exact⟨by simp [SN4],⟨zS c,⟨⟨rfl,rfl⟩,trivial⟩,⟨rfl,trivial⟩,trivial⟩,by kernel_rfl,aI _⟩
     refine⟨(c.p,32),⟨by simp,by simp,trivial,hp0,hp1,(by simp only; omega),(by simp only; omega)⟩,⟨_,rfl⟩,?_⟩;rintro _ rfl;refine⟨λh1=> ?_,λh1=> ?_⟩
     ·refine⟨(c.p,32),⟨by simp,by simp,trivial,hp0,hp1,(by simp only; omega),(by simp only; omega)⟩,⟨_,rfl⟩,?_⟩;rintro _ rfl;rw [aP trivial];refine⟨(),leaf _ ?_⟩;unfold Nd.right dayB;simp only;cases bitB c.p 32<;>simp [Bool.cond_eq_ite]
     ·rw [aP trivial];refine⟨(),leaf _ ?_⟩;unfold Nd.right dayB;simp only at h1 ⊢
      revert h1
      cases bitB c.p 32<;>simp [Bool.cond_eq_ite]
      exactλh1 h2 _=>⟨h1,h2⟩
    ·rintro⟨⟩;show j4 none prog f97 O 0 w0 [] _ _ LN4 _;obtain⟨b,eb⟩:∃ b,Nd.right c=b:=⟨_,rfl⟩;rw [eb];refine zc.cutL (ι:=Unit) LN4 1 0 (λ_=>SN5 a m b (Nd.list c)) (λ_=>HNd c) (by kernel_rfl) (by kernel_rfl) ?_ ?_
     ·refine zc.n GNd.h [1,4,7,8,9] (.ex (q52 [.i 64,.ptr 0 0] [.box [.i (Con.p c)]]) λn=>.all (λ(r:Bool)=>r=bitB n.1 n.2) λn_1=>.ex (λ(x:List Int)=>n_1=true->q55 [.sl c.days.length 1 (Con.dayG c.days)] x) λn_2=>.all (λ(x:Bool)=>n_1=true->x=yj n_2) λn_3=>.ite ((bif n_1 then n_3 else false) == false) (.ex (q52 [.i 64,.ptr 0 0] [.box [.i n.1]]) λn=>.all (λ(r:Bool)=>r=bitB n.1 n.2) λn_4=>.leaf (.back 0 [(1,.ptr 0 0),(4,.bool a),(7,.i m),(8,.bool b),(9,.bool (bif bif n_1 then n_3 else false then true else bif !n_4 then decide ((c.days.length:Int)=0) else false))] [.box c.zg,.box [.i n.1],.box [.fn 134 [] [.ptr 1 0]]])) (.leaf (.back 0 [(1,.ptr 0 0),(4,.bool a),(7,.i m),(8,.bool b),(9,.bool (bif bif n_1 then n_3 else false then true else bif !false then decide ((c.days.length:Int)=0) else false))] [.box c.zg,.box [.i n.1],.box [.fn 134 [] [.ptr 1 0]]]))) ?_;simp only [q52,q55,Tree.holds,zf,inR,lo,hi,aD]
      have leaf:∀ d,d=Nd.list c->LeK 0 f97.ntmps [(1,.ptr 0 0),(4,.bool a),(7,.i m),(8,.bool b),(9,.bool d)] (HNd c) (SN5 a m b (Nd.list c)) (HNd c):=λd hd=>by
       subst hd;exact⟨by simp [SN5],⟨zS c,⟨⟨rfl,rfl⟩,trivial⟩,⟨rfl,trivial⟩,trivial⟩,by kernel_rfl,aI _⟩
      refine⟨(c.p,64),⟨by simp,by simp,trivial,hp0,hp1,(by simp only; omega),(by simp only; omega)⟩,⟨_,rfl⟩,?_⟩;rintro _ rfl;refine⟨c.days,λ_=>⟨by simp [za],by omega⟩,⟨_,λ_=>rfl⟩,λn hn=> ?_⟩;refine⟨λh1=> ?_,λh1=> ?_⟩
      ·refine⟨(c.p,64),⟨by simp,by simp,trivial,hp0,hp1,(by simp only; omega),(by simp only; omega)⟩,⟨_,rfl⟩,?_⟩;rintro _ rfl;rw [aP trivial];refine⟨(),leaf _ ?_⟩;unfold Nd.list;simp only at hn ⊢
       revert hn
       cases bitB c.p 64<;>simp [Bool.cond_eq_ite]
      ·rw [aP trivial];refine⟨(),leaf _ ?_⟩;unfold Nd.list;simp only at hn h1 ⊢
       revert hn h1
       cases bitB c.p 64<;>simp [Bool.cond_eq_ite]
       intro h2 h3;rw [<- h2,h3];rfl
     ·rintro⟨⟩;show j4 none prog f97 O 0 w0 [] _ _ LN5 _;obtain⟨d,ed⟩:∃ d,Nd.list c=d:=⟨_,rfl⟩;rw [ed];refine zc.n GNd.h [1,4,7,8,9] (.R [.bool (bif bif bif a then b else false then d else false then decide ((c.sub.length:Int)=m) else false)] [.box c.zg,.box [.i (Con.p c)],.box [.fn 134 [] [.ptr 1 0]]]) ?_;simp only [Tree.holds,zf,inR,lo,hi,aD]
      have hr:c.yn=(bif bif bif a then b else false then d else false then decide ((c.sub.length:Int)=m) else false):=by
       rw [Bool.eq_iff_iff,Kt hk,ea,em,eb,ed];cases a<;>cases b<;>cases d<;>simp [hw]
      rw [hr] at hq;exact RetR.scal hq rfl (by simp [resV])
end Go.Proofs.Tryz
end
section
set_option maxRecDepth 100000
open Go Go.Sx Go.Proofs Go.Nov
namespace Go.Proofs.Tryz
attribute [local simp] eqKV eqA eqA0 eqH eqB eqL eqL0
end Go.Proofs.Tryz
end
section
namespace Go.Sx
variable [Stat]
section
variable {O:Nat->Prop} {pin:Nat} {w0:World} {I0:List SE} {P:Program} {fn:Func}
def noH(n:Nat):Heap:=.box [.ptr n 0]::List.replicate (n - 1) (.box [])
theorem zdw{n:Nat}(h:1<=n):(noH n).length=n:=by simp [noH]; omega
theorem zhj(n:Nat):∀ b∈noH n,alive b:=by
 intro b hb;unfold noH at hb;rcases aM.1 hb with rfl | hb
 ·trivial
 ·rw [List.eq_of_mem_replicate hb]; trivial
theorem zc.never{M:Option Nat}{Hs:Nat->KV->Heap->Prop}{R:List AV->Heap->Prop}{k:List Item}{kv:KV}{n:Nat}(hn:1<=n):j4 M P fn O pin w0 I0 Hs R k (mk fn.ntmps kv (noH n)):=by
 intro w σ a hm;have hl:σ.length=n:=by rw [hm.hp.len]; exact zdw hn
 have h0:σ[0]?=some (σ[0]'(by omega)):=aF _;have hb:=hm.hp.blk 0 _ (.box [.ptr n 0]) h0 rfl;simp only [BRep] at hb;obtain⟨ad,vs,el,_,_,_,q⟩:=hb;simp only [RepL,Rep] at q;obtain⟨v,r,_,⟨e,ad',he,_⟩,_⟩:=q;have:=(aG.1 he).1;omega
open Classical in
theorem zc.ztx{α:Type}{Hs:Nat->KV->Heap->Prop}{R:List AV->Heap->Prop}{k:List Item}{c:Code}{kv:KV}{h:Heap}{tg tp td t n gf:Nat}{cap:List AV}{zs:List AV}(I:List α->Prop)(hc:Xy c tg tp td t=true)(hz:zeroCells P t=some zs)(hn:qf P t=some n)(hzl:zs.length=n)
  (he:∀ args w,(callFunc gf args).run P w = .ok (.enter gf args) w) (av:α->AV) (cs:α->List AV) (hcs:∀ x,cellsOf (av x)=some (cs x)/\(cs x).length=n/\(cs x).all oneA=true/\(cs x).all YN=true) (H Hx:List α->Heap) (X S Sp:List α->Prop) (N pinR:Nat)
  (hg:look kv tg = .fn gf [] cap) (htg:tg<fn.ntmps) (htp:tp<fn.ntmps) (htd:td<fn.ntmps) (hne:td≠tp) (hle:LeK pin fn.ntmps kv h kv (H [])) (hlow:(pk fn.ntmps kv).all (lowB pinR)=true) (hpin:pin<=pinR) (hpos:1<=pinR) (hI:I []) (hlen:∀ pre,(H pre).length=pinR)
  (halive:∀ pre,∀ b∈H pre,alive b) (halivex:∀ pre,∀ b∈Hx pre,alive b)
  (iter:∀ w σ a,Mod O pin w0 I0 w σ (mk fn.ntmps kv (H [])) a->∀ vb,RepL (Own O σ) w cap σ vb->∃ ev:α->Value,SeqStopsK Fence.wide 0 P gf vb.toArray (λx=> #[ev x]) (j0 (Own O σ)) S Sp N w/\∀ x,Rep (Own O σ) w (av x) [] (ev x))
  (round:∀ l pre x,I pre->pre.length<N->∀ (W:World) (E1:List SE),j4 (some l) P (bare fn) O pinR W E1 (λd kv' h'=>I (pre++[x])/\LeK pinR fn.ntmps [] h' [] (H (pre++[x]))) (λ_ h'=>X (pre++[x])/\LeK pinR fn.ntmps [] h' [] (Hx (pre++[x]))) [.code (ym c),.inLoop] (mk fn.ntmps ((td,.iptr n λo=>(cs x).getD o .undef)::(tp,av x)::kv) (H pre)))
  (done:∀ xs,S xs->I xs->zc P fn O pin w0 I0 Hs R k (mk fn.ntmps kv (H xs)))
  (stop:∀ pre,Sp pre->X pre->(resX P (mk fn.ntmps kv (Hx pre)) fn.results.toList).holds λrs=>R rs (Hx pre)) :
  zc P fn O pin w0 I0 Hs R (.code c::k) (mk fn.ntmps kv h):=by
 refine zc.zlw hc hz hn hzl he av cs hcs (λpre=>if I pre then H pre else noH pinR) Hx X S Sp N pinR hg htg htp htd hne (by rw [aP hI]; exact hle) hlow hpin (λpre=> ?_) (λpre=> ?_) halivex ?_ ?_ ?_ stop
 ·split
  ·exact hlen pre
  ·exact zdw hpos
 ·split
  ·exact halive pre
  ·exact zhj _
 ·rw [aP hI]; exact iter
 ·intro l pre x hl W E1;by_cases h1:I pre
  ·simp only [aP h1];intro w σ a hm;refine WY ?_ (round l pre x h1 hl W E1 w σ a hm);rintro d a' w' ⟨st,Z',⟨kv',h',⟨h2,h3⟩,rfl⟩,hm'⟩;exact⟨_,Z',⟨kv',h',by rw [aP h2]; exact h3,rfl⟩,hm'⟩
  ·simp only [aO h1];exact zc.never (fn:=bare fn) hpos
 ·intro xs hs;by_cases h1:I xs
  ·simp only [aP h1]; exact done xs hs h1
  ·simp only [aO h1]; exact zc.never hpos
end
end Go.Sx
end
section
set_option maxRecDepth 100000
open Go Go.Sx Go.Proofs Go.Nov
namespace Go.Proofs.Tryz
attribute [local simp] eqKV eqA eqA0 eqH eqB eqL eqL0
noncomputable def K68:=Go.Sx.aA f68
def J3:Ctr:=ctrP true (λc:Con=>[c.conA]) (λc=>c.big<2^40/\c.nodes<=1000000) (λc r=>r=c.errC) (λ_ (r:Int)=>(.i r,[]))
noncomputable def GCkk:=tb zo6 (tb zhk (tb Y7 (tb zpd tz)))
def HCk(c:Con)(m:Int):Heap:=[.box c.zg,.box [.i m],.box c.zg]
abbrev q56(A:List AV)(x:Con):Prop:=eqL A [(Con.conA x)]/\Con.big x<1099511627776/\Con.nodes x<=1000000
theorem Kh:ze prog 68 J3:=by
 refine zh' f68 λc hc O w0 Q hq=> ?_
 obtain⟨h1,h2⟩:=hc;replace hq:=hq _ rfl;refine zc.n GCkk.h [2,13,14] (.ex (q56 [(Con.conA c)]) λn=>.all (λ(r:Nat)=>r=Con.size n) λn=>.ex (λ(x:Con)=>decide ((500:Int)<n)=false->eqL [(Con.conA c)] [(Con.conA x)]/\Con.big x<1099511627776) λn_1=>.all (λ(x:Nat)=>decide ((500:Int)<n)=false->x=Con.depth n_1) λn_2=>.ite (bif decide ((500:Int)<n) then true else decide ((60:Int)<n_2)) (.R [.i 4] [.box c.zg,.box [.i 4]]) (.ex (λ(x:Con)=>eqL [(Con.conA c)] [(Con.conA x)]/\eqH [] []/\0=0/\True) λn=>.A λn_3=>.leaf (.range (Prod.fst (rfs K68 0)) (Prod.snd (rfs K68 0)) [(2,.ptr 1 0),(13,.fn 132 [] [.ptr 2 0]),Z 14] [.box c.zg,.box [.i 0],.box n.zg]))) ?_;simp only [q56,Tree.holds,zf];have hq1:(500<c.size\/60<c.depth)->Q (.i 4,[]):=λh=>by unfold Con.errC at hq; rw [aP h] at hq; exact hq
 have hq2:¬ (500<c.size\/60<c.depth)->Q (.i (if c.form=true then 0 else 8),[]):=λh=>by unfold Con.errC at hq; rw [aO h] at hq; exact hq
 refine⟨c,⟨⟨qZ c,trivial⟩,h1,h2⟩,⟨_,rfl⟩,?_⟩;rintro _ rfl;refine⟨c,λ_=>⟨⟨qZ c,trivial⟩,h1⟩,⟨_,λ_=>rfl⟩,λn hn=> ?_⟩
 have key:(bif decide (500<(c.size:Int)) then true else decide (60<(n:Int)))=decide (500<c.size\/60<c.depth):=by
  by_cases g:500<c.size
  ·simp [g]; omega
  ·rw [hn (aW (by omega)),Bool.eq_iff_iff]; simp [g]; omega
 rw [key];refine⟨λh=>RetR.scal (hq1 (aB h)) rfl (by simp [resV]),λh=>⟨c,⟨⟨qZ c,trivial⟩,trivial,trivial,trivial⟩,⟨(),trivial⟩,λ_ _=> ?_⟩⟩;have hq2:=hq2 (aC h);clear hq hq1
 refine zc.ztx (λpre:List Nat=>∀ i∈pre,(c.all.getD i c).yn=true) (tg:=13) (tp:=14) (td:=3) (t:=39) (n:=12) (zs:=[.int .u8 0,.str [],.str [],.str [],.int .u8 0,.str [],.str [],.i 0,.nils,.i 0,.nils,.nils]) (cap:=[.ptr 2 0]) (gf:=132) (by kernel_rfl) (by kernel_rfl) (by kernel_rfl) rfl (enters_of Tryz.func132 (by kernel_rfl) rfl) (λi:Nat=>(c.all.getD i c).conA) (λi=>(c.all.getD i c).zg) (λi=>⟨rfl,rfl,rfl,rfl⟩) (λ_=>HCk c 0) (λ_=>HCk c 8) (λpre=>¬ c.form=true) (λxs=>xs=List.range c.all.length) (λpre=>pre <+: List.range c.all.length) c.all.length 3
  (by kernel_rfl) (by decide +kernel) (by decide +kernel) (by decide +kernel) (by decide) ⟨by simp,⟨zS c,⟨⟨rfl,rfl⟩,trivial⟩,zS c,trivial⟩,by kernel_rfl,aI _⟩ (by kernel_rfl) (aI _) (by decide) (λi hi=>by cases hi) (λpre=>rfl) (λpre=>by simp [HCk,alive]) (λpre b hb=>by simp [HCk] at hb; rcases hb with rfl | rfl | rfl<;>trivial) ?_ ?_ ?_ ?_
 ·intro w σ a hm vb hvb;exact Wp hm (i:=2) rfl h2 hvb
 ·intro l pre i hI hlen W E1
  have hwt:(c.all.getD i c).big<=c.big/\(c.all.getD i c)∈c.all:=by
   by_cases hi:i<c.all.length
   ·have:(c.all.getD i c)∈c.all:=by simp [List.getD,hi]
    exact⟨Con.JG c _ this,this⟩
   ·have:c.all.getD i c=c:=by simp [List.getD,hi]
    rw [this];exact⟨aJ _,by rw [Con.all_eq]; simp⟩
  obtain⟨e,he⟩:∃ e,c.all.getD i c=e:=⟨_,rfl⟩;rw [he] at hwt ⊢;refine zc.n GCkk.h [2,13,14] (.ex (λ(x:Con)=>eqL [(Con.conA e)] [(Con.conA x)]/\Con.big x<1099511627776) λn=>.all (λ(r:Bool)=>r=Con.yn n) λn=>.ite (!n) (.R [] [.box c.zg,.box [.i 8],.box c.zg]) (.leaf (.back 0 [(2,.ptr 1 0),(13,.fn 132 [] [.ptr 2 0]),(14,(Con.conA e))] [.box c.zg,.box [.i 0],.box c.zg]))) ?_;simp only [Tree.holds,zf,inR,lo,hi,aD];refine⟨e,⟨⟨qZ e,trivial⟩,by omega⟩,⟨_,rfl⟩,?_⟩;rintro _ rfl;refine⟨λh=>⟨λhf=> ?_,?_⟩,λh=>⟨λj hj=> ?_,?_⟩⟩
  ·rw [Con.V7,bG] at hf;have:=hf e hwt.2;simp [this] at h
  ·exact⟨trivial,⟨zS c,⟨⟨rfl,rfl⟩,trivial⟩,zS c,trivial⟩,by kernel_rfl,aJ _⟩
  ·rcases bZ.1 hj with hj | hj
   ·exact hI j hj
   ·rw [List.mem_singleton.1 hj,he]; simpa using h
  ·exact⟨trivial,⟨zS c,⟨⟨rfl,rfl⟩,trivial⟩,zS c,trivial⟩,by kernel_rfl,aJ _⟩
 ·intro xs hxs hI
  have hform:c.form=true:=by
   rw [Con.V7,bG];intro e hem;obtain⟨j,hj,rfl⟩:=List.getElem_of_mem hem;have:=hI j (by rw [hxs]; simpa using hj);simpa [List.getD,hj] using this
  rw [aP hform] at hq2;refine zc.n GCkk.h [2,13,14] (.R [.i 0] [.box c.zg,.box [.i 0],.box c.zg]) ?_;simp only [Tree.holds,zf];exact RetR.scal hq2 rfl (by simp [resV])
 ·intro pre hpre hX;rw [aO hX] at hq2;exact(RetR.scal hq2 rfl (by simp [resV]):RetR J3 0 Q [.i 8] (HCk c 8))
structure FI where
 c:Con
 day:Int
 fin:Int
 f:List Fx
 h:List Ch
def uX:TypeId:=180
def FI.hC(k:FI):Heap:=[.box [fxS k.f,chS k.h],.box k.c.zg]
def FI.hH(k:FI):Heap:=[.box k.c.zg,.box [fxS k.f,chS k.h]]
def FI.hV(k:FI):Heap:=[.box k.c.zg,.box [.i k.day],.box [fxS k.f,chS k.h]]
def FI.heap(k:FI):Heap:=[.box k.c.zg,.box [.i k.day],.box [.i k.fin],.box [fxS k.f,chS k.h]]
def qC{α:Type}(Xp:List PanicEntry->Prop)(m:Except Int α):Prop:=∀ e,m = .error e->Xp (ZP uX e)
def znd(Xp:List PanicEntry->Prop):Ctr:=ctrS (λ(x:Bool×Int)=>[.bool x.1,.i x.2]) (λ_=>[]) (λx=>x.2≠0->Xp (ZP uX x.2)) (λx=>decide (x.2=0)) (λx=>(.bool x.1,[]))
def zbs(Xp:List PanicEntry->Prop):Ctr:=ctrS (λ(x:L8×Int)=>[.str x.1,.i x.2]) (λ_=>[]) (λx=>x.2≠0->Xp (ZP uX x.2)) (λx=>decide (x.2=0)) (λx=>(.str x.1,[]))
theorem zge(Xp:List PanicEntry->Prop):z8 Xp prog 119 (znd Xp):=
 Uv (fn:=f119) (c:=f119.body.getD .skip) rfl rfl rfl (T:=uX) (λb:Bool=>.bool b) (λb=>.bool b) (λ_ _ _ _ _=>by simp [Rep]) λx e w=>Tryz.zj3 x e w
theorem KB(Xp:List PanicEntry->Prop):z8 Xp prog 122 (zbs Xp):=
 Uv (fn:=f122) (c:=f122.body.getD .skip) rfl rfl rfl (T:=uX) (λs:L8=>.str s) (λs=>.string ⟨s.toArray⟩) (λ_ _ _ _ _=>by simp [Rep]) λx e w=>Tryz.zit ⟨x.toArray⟩ e w
theorem FI.zff(k:FI):eqH (expH k.hC [0,1]) k.hC:=by
 simp [expH,expB,exp1,exp0,ren0,FI.hC,zO,Con.zg,Con.qN,fxS,chS,Ex.exS,Con.dayS,Con.conS,za]
theorem FI.zwu(k:FI):eqH (expH k.hH [0,1]) k.hH:=by
 simp [expH,expB,exp1,exp0,ren0,FI.hH,zO,Con.zg,Con.qN,fxS,chS,Ex.exS,Con.dayS,Con.conS,za]
theorem FI.zw8(k:FI):eqH (expH k.hV [0,1,2]) k.hV:=by
 simp [expH,expB,exp1,exp0,ren0,FI.hV,zO,Con.zg,Con.qN,fxS,chS,Ex.exS,Con.dayS,Con.conS,za]
def Yz:Ctr:=ctrT false false (λp:FI×Int=>[.i p.2,.ptr 0 0,.ptr 1 0]) (λp=>p.1.hC) (λp=>p.1.h.length<2^40) (λ_ (_:Unit)=>True) (λp _=>(.bool (qn p.1.h p.1.c.src p.1.c.name p.2),p.1.hC))
noncomputable def GFc:=tb zhz tz
theorem Vo:ze prog 116 Yz:=by
 refine z9 (fn:=f116) (c:=f116.body.getD .skip) rfl rfl rfl (λh=>by cases h) λp hp O w0 I0 Q hl0 hq=> ?_
 obtain⟨⟨c,day,fin,f,h⟩,d⟩:=p;replace hq:=hq () trivial;simp only at hp hq;refine zc.n GFc.h [] (.ex (λ(x:(List Fx×List Ch)×L8×L8×Int)=>eqL [.agg [.sl f.length 3 (fxG f),.sl h.length 4 (chG h)],.str c.src,.str c.name,.i d] [.agg [.sl x.1.1.length 3 (fxG x.1.1),.sl x.1.2.length 4 (chG x.1.2)],.str x.2.1,.str x.2.2.1,.i x.2.2.2]/\x.1.2.length<1099511627776) λn=>.all (λ(r:Bool)=>r=qn n.1.2 n.2.1 n.2.2.1 n.2.2.2) λn=>.R [.bool n] [.box [.sl f.length 3 (fxG f),.sl h.length 4 (chG h)],.box c.zg]) ?_;simp only [Tree.holds,zf];refine⟨((f,h),(c.src,c.name,d)),⟨⟨⟨⟨rfl,rfl,λ_ _ _ _=>rfl⟩,⟨rfl,rfl,λ_ _ _ _=>rfl⟩,trivial⟩,rfl,rfl,⟨rfl,rfl⟩,trivial⟩,hp⟩,⟨_,rfl⟩,?_⟩;rintro _ rfl;exact RetR.ki [0,1] rfl rfl (by show ∀ j,j<2->_; decide) rfl hq (LeA.refl _) (FI.zff ⟨c,day,fin,f,h⟩) rfl
def zcw(Xp:List PanicEntry->Prop):Ctr:=ctrS (λp:FI×Int=>[.i p.2,.ptr 0 0,.ptr 1 0]) (λp=>p.1.hH) (λp=>VI.ok ⟨p.1.c.x,p.2,p.1.f,p.1.h⟩/\qC Xp (holM p.1.c.x p.2 p.1.f p.1.h)) (λp=>okM (holM p.1.c.x p.2 p.1.f p.1.h)) (λp=>(.bool (getM false (holM p.1.c.x p.2 p.1.f p.1.h)),p.1.hH))
noncomputable def GFh(Xp:List PanicEntry->Prop):Nat->Option Ctr:=λf=>if f=119 then some (znd Xp) else if f=120 then some zj6 else none
theorem ztr(Xp:List PanicEntry->Prop):∀ f c,GFh Xp f=some c->z8 Xp prog f c:=vR (zge Xp) (vR zj2.x ui)
abbrev q57(A:List AV)(x:VI):Prop:=eqL A [x.x.exA,.i x.day,.agg [.sl x.f.length 3 (fxG x.f),.sl x.c.length 4 (chG x.c)]]/\VI.ok x
theorem KW(Xp:List PanicEntry->Prop):z8 Xp prog 118 (zcw Xp):=by
 refine yQ (fn:=f118) (c:=f118.body.getD .skip) rfl rfl rfl λp hp O w0 I0 Q hl0 hq=> ?_
 obtain⟨⟨c,day,fin,f,h⟩,d⟩:=p;obtain⟨h1,h2⟩:=hp;simp only at h1 h2 hq;refine zc.runX hmix (ztr Xp) [] 400 (T:=.ex (q57 [(Ex.exA c.x),.i d,.agg [.sl f.length 3 (fxG f),.sl h.length 4 (chG h)]]) λn=>.all (λ(r:Bool×Int)=>r=yh n.x n.day n.f n.c) λn=>.ex (λ(x:Bool×Int)=>eqL [.bool n.1,.i n.2] [.bool x.1,.i x.2]/\eqH [] []/\0=0/\(x.2≠0->Xp (ZP uX x.2))) λn=>.D (n.2=0) (.R [.bool n.1] [.box c.zg,.box [.sl f.length 3 (fxG f),.sl h.length 4 (chG h)]]) (.leaf qe.gone)) (by kernel_rfl) ?_;simp only [q57,Tree.holds,zf];refine⟨⟨c.x,d,f,h⟩,⟨⟨vw c.x,⟨rfl,rfl⟩,⟨⟨rfl,rfl,λ_ _ _ _=>rfl⟩,⟨rfl,rfl,λ_ _ _ _=>rfl⟩,trivial⟩,trivial⟩,h1⟩,⟨_,rfl⟩,?_⟩;rintro _ rfl;refine⟨yh c.x d f h,⟨⟨rfl,⟨rfl,rfl⟩,trivial⟩,trivial,trivial,λhe=>h2 _ (by unfold holM; rw [aO he])⟩,λhe=> ?_,λ_=>trivial⟩;have he:=aB he;have hm:holM c.x d f h = .ok (yh c.x d f h).1:=by unfold holM; rw [aP he]
 rw [hm] at hq;exact RetR.ki [0,1] rfl rfl (by show ∀ j,j<2->_; decide) rfl (hq rfl) (LeA.refl _) (FI.zwu ⟨c,day,fin,f,h⟩) rfl
def zoo(Xp:List PanicEntry->Prop):Ctr:=ctrS (λk:FI=>[.ptr 0 0,.ptr 1 0,.ptr 2 0]) (λk=>k.hV) (λk=>VI.ok ⟨k.c.x,k.day,k.f,k.h⟩/\qC Xp (valM k.c.x k.day k.f k.h)) (λk=>okM (valM k.c.x k.day k.f k.h)) (λk=>(.str (getM [] (valM k.c.x k.day k.f k.h)),k.hV))
noncomputable def GFv(Xp:List PanicEntry->Prop):Nat->Option Ctr:=λf=>if f=122 then some (zbs Xp) else if f=123 then some znf else none
theorem zv8(Xp:List PanicEntry->Prop):∀ f c,GFv Xp f=some c->z8 Xp prog f c:=vR (KB Xp) (vR zk2.x ui)
theorem zg0(Xp:List PanicEntry->Prop):z8 Xp prog 121 (zoo Xp):=by
 refine yQ (fn:=f121) (c:=f121.body.getD .skip) rfl rfl rfl λp hp O w0 I0 Q hl0 hq=> ?_
 obtain⟨c,day,fin,f,h⟩:=p;obtain⟨h1,h2⟩:=hp;simp only at h1 h2 hq;refine zc.runX hmix (zv8 Xp) [] 400 (T:=.ex (q57 [(Ex.exA c.x),.i day,.agg [.sl f.length 3 (fxG f),.sl h.length 4 (chG h)]]) λn=>.all (λ(r:L8×Int)=>r=jT n.x n.day n.f n.c) λn=>.ex (λ(x:L8×Int)=>eqL [.str n.1,.i n.2] [.str x.1,.i x.2]/\eqH [] []/\0=0/\(x.2≠0->Xp (ZP uX x.2))) λn=>.D (n.2=0) (.R [.str n.1] [.box c.zg,.box [.i day],.box [.sl f.length 3 (fxG f),.sl h.length 4 (chG h)]]) (.leaf qe.gone)) (by kernel_rfl) ?_;simp only [q57,Tree.holds,zf];refine⟨⟨c.x,day,f,h⟩,⟨⟨vw c.x,⟨rfl,rfl⟩,⟨⟨rfl,rfl,λ_ _ _ _=>rfl⟩,⟨rfl,rfl,λ_ _ _ _=>rfl⟩,trivial⟩,trivial⟩,h1⟩,⟨_,rfl⟩,?_⟩;rintro _ rfl;refine⟨jT c.x day f h,⟨⟨rfl,⟨rfl,rfl⟩,trivial⟩,trivial,trivial,λhe=>h2 _ (by unfold valM; rw [aO he])⟩,λhe=> ?_,λ_=>trivial⟩;have he:=aB he;have hm:valM c.x day f h = .ok (jT c.x day f h).1:=by unfold valM; rw [aP he]
 rw [hm] at hq;exact RetR.ki [0,1,2] rfl rfl (by show ∀ j,j<3->_; decide) rfl (hq rfl) (LeA.refl _) (FI.zw8 ⟨c,day,fin,f,h⟩) rfl
noncomputable def K126:=Go.Sx.aA f126
def holT(k:FI):Int->Except Int Bool:=λt=>holM k.c.x t k.f k.h
def Xv(Xp:List PanicEntry->Prop):Ctr:=ctrS (λk:FI=>[k.c.conA,.i k.day,.i k.fin,.fn 118 [] [.ptr 0 0,.ptr 1 0]]) (λk=>k.hH) (λk=>(∀ d,VI.ok ⟨k.c.x,d,k.f,k.h⟩)/\k.c.days.length<2^40/\qC Xp (firstM (holT k) k.day k.fin k.c.days)) (λk=>okM (firstM (holT k) k.day k.fin k.c.days)) (λk=>(.i (getM 0 (firstM (holT k) k.day k.fin k.c.days)),k.hH))
def SFh(k:FI)(i:Nat):KV:=[(1,.i k.day),(2,.i k.fin),(3,.fn 118 [] [.ptr 0 0,.ptr 1 0]),(12,Con.dayS k.c.days),(13,.i (k.c.days.length:Int)),(14,.i (i:Int)),Z 25,Z 26,Z 27]
def HFh(k:FI):Heap:=[.box k.c.zg,.box [fxS k.f,chS k.h],.box k.c.zg]
noncomputable def GFf(Xp:List PanicEntry->Prop):Nat->Option Ctr:=λf=>if f=118 then some (zcw Xp) else none
theorem znq(Xp:List PanicEntry->Prop):∀ f c,GFf Xp f=some c->z8 Xp prog f c:=vR (KW Xp) ui
theorem WJ{T:Int->Except Int Bool}{day fin d:Int}{l:List Int}(h1:fin<=d):firstM T day fin (d::l) = .ok fin:=by rw [firstM,aP h1]
theorem zbe{T:Int->Except Int Bool}{day fin d e:Int}{l:List Int}(h1:¬ fin<=d)(h2:day<=d)(h:T d = .error e):firstM T day fin (d::l) = .error e:=by rw [firstM,aO h1,aP h2,h]
theorem WX{T:Int->Except Int Bool}{day fin d:Int}{l:List Int}(h1:¬ fin<=d)(h2:day<=d)(h:T d = .ok true):firstM T day fin (d::l) = .ok d:=by rw [firstM,aO h1,aP h2,h]
theorem Jr{T:Int->Except Int Bool}{day fin d:Int}{l:List Int}(h1:¬ fin<=d)(h2:day<=d)(h:T d = .ok false):firstM T day fin (d::l)=firstM T day fin l:=by rw [firstM,aO h1,aP h2,h]
theorem WE{T:Int->Except Int Bool}{day fin d:Int}{l:List Int}(h1:¬ fin<=d)(h2:¬ day<=d):firstM T day fin (d::l)=firstM T day fin l:=by rw [firstM,aO h1,aO h2]
theorem qX{α:Type}{d:α}{m:Except Int α}(h:okM m=true):m = .ok (getM d m):=by cases m with
 | ok a=>rfl
 | error e=>cases h
theorem FI.zwk(k:FI):eqH (expH [.box k.c.zg,.box [fxS k.f,chS k.h],.box k.c.zg] [0,1]) k.hH:=by
 simp [expH,expB,exp1,exp0,ren0,FI.hH,zO,Con.zg,Con.qN,fxS,chS,Ex.exS,Con.dayS,Con.conS,za]
theorem FI.h2(k:FI):eqH [.box k.c.zg,.box [fxS k.f,chS k.h]] [.box k.c.zg,.box [fxS k.f,chS k.h]]:=by
 simp [Con.zg,Con.qN,fxS,chS,Ex.exS,Con.dayS,Con.conS,za]
theorem FI.h5(k:FI):eqH [.box k.c.zg,.box [fxS k.f,chS k.h],.box k.c.zg] (HFh k):=by
 simp [HFh,Con.zg,Con.qN,fxS,chS,Ex.exS,Con.dayS,Con.conS,za]
theorem zi2(Xp:List PanicEntry->Prop):z8 Xp prog 126 (Xv Xp):=by
 refine yQ (fn:=f126) (c:=f126.body.getD .skip) rfl rfl rfl λp hp O w0 I0 Q hl0 hq=> ?_
 obtain⟨c,day,fin,f,h⟩:=p;obtain⟨h1,h2,h3⟩:=hp;simp only at h1 h2 h3 hq;refine zc.runX hmix (znq Xp) [1,2,3,12,13,14,25,26,27] 400 (T:=.leaf (.loop (lps K126 0).1 (lps K126 0).2 [(1,.i day),(2,.i fin),(3,.fn 118 [] [.ptr 0 0,.ptr 1 0]),(12,.sl c.days.length 1 (Con.dayG c.days)),(13,.i c.days.length),(14,.i 0),Z 25,Z 26,Z 27] [.box c.zg,.box [.sl f.length 3 (fxG f),.sl h.length 4 (chG h)],.box c.zg])) (by kernel_rfl) ?_;simp only [Tree.holds,zf,inR,lo,hi,aD];refine zc.loop (ι:={i:Nat // i<=c.days.length/\firstM (holT ⟨c,day,fin,f,h⟩) day fin (c.days.drop i)=firstM (holT ⟨c,day,fin,f,h⟩) day fin c.days}) (λi=>SFh ⟨c,day,fin,f,h⟩ i.1) (λ_=>HFh ⟨c,day,fin,f,h⟩) (λi=>c.days.length - i.1) ⟨0,aI _,rfl⟩ 0 ?_ ?_ (by kernel_rfl)
 ·exact⟨by simp [SFh,Con.dayS,za],FI.h5 ⟨c,day,fin,f,h⟩,by kernel_rfl,by show 2<=3; decide⟩
 ·rintro⟨i,hil,hi⟩;refine zc.runX hmix (znq Xp) [1,2,3,12,13,14,25,26,27] 400 (T:=let v6:=inR .i64 (i+1);let v5:=List.getD c.days (i:Int).toNat (0:Int);let v4:=day<=List.getD c.days (i:Int).toNat (0:Int);let v1:List Blk:=[.box c.zg,.box [.sl f.length 3 (fxG f),.sl h.length 4 (chG h)],.box c.zg];.D ((i:Int)<(c.days.length:Int)) (.side ((0:Int)<=i/\(i:Int)<(c.days.length:Int)) (.D (fin<=List.getD c.days (i:Int).toNat (0:Int)) (.R [.i fin] v1) (.ite (decide v4 == true) (.ex (λ(x:FI×Int)=>eqL [.i v5,.ptr 0 0,.ptr 1 0] [.i x.2,.ptr 0 0,.ptr 1 0]/\eqH [.box c.zg,.box [.sl f.length 3 (fxG f),.sl h.length 4 (chG h)]] [.box x.1.c.zg,.box [.sl x.1.f.length 3 (fxG x.1.f),.sl x.1.h.length 4 (chG x.1.h)]]/\2=2/\VI.ok { x:=Con.x x.1.c,day:=x.2,f:=FI.f x.1,c:=FI.h x.1 } /\ qC Xp (holM (Con.x x.1.c) x.2 x.1.f x.1.h)) λn=>let v3:=holM (Con.x n.1.c) n.2 n.1.f n.1.h;let v2:List Blk:=[.box n.1.c.zg,.box [.sl n.1.f.length 3 (fxG n.1.f),.sl n.1.h.length 4 (chG n.1.h)],.box c.zg];.ite (okM v3) (.ite (bif decide v4 then getM false v3 else false) (.R [.i v5] v2) (.side v6 (.leaf (.back 0 [(1,.i day),(2,.i fin),(3,.fn 118 [] [.ptr 0 0,.ptr 1 0]),(12,.sl c.days.length 1 (Con.dayG c.days)),(13,.i c.days.length),(14,.i (i+1)),Z 25,Z 26,(27,.bool (getM false v3))] v2)))) (.leaf qe.gone)) (.ite (bif decide v4 then false else false) (.R [.i v5] v1) (.side v6 (.leaf (.back 0 [(1,.i day),(2,.i fin),(3,.fn 118 [] [.ptr 0 0,.ptr 1 0]),(12,.sl c.days.length 1 (Con.dayG c.days)),(13,.i c.days.length),(14,.i (i+1)),Z 25,Z 26,Z 27] v1))))))) (.R [.i fin] v1)) (by kernel_rfl) ?_;simp only [Tree.holds,zf,inR,lo,hi,aD]
  have hRet:∀ e:Int,firstM (holT ⟨c,day,fin,f,h⟩) day fin c.days = .ok e->RetR (Xv Xp) (FI.hH ⟨c,day,fin,f,h⟩).length Q [.i e] [.box c.zg,.box [fxS f,chS h],.box c.zg]:=by
   intro e he;rw [he] at hq;exact RetR.ki [0,1] rfl rfl (by show ∀ j,j<2->_; decide) rfl (hq rfl) (LeA.refl _) (FI.zwk ⟨c,day,fin,f,h⟩) rfl
  refine⟨λhlt=> ?_,λhge=> ?_⟩
  ·have hlt:i<c.days.length:=by have:=aB hlt; omega
   have hd:c.days.drop i=c.days.getD i 0::c.days.drop (i+1):=by
    rw [List.drop_eq_getElem_cons hlt]; simp [List.getD,hlt]
   rw [hd] at hi
   have hstep:firstM (holT ⟨c,day,fin,f,h⟩) day fin (c.days.drop (i+1))=firstM (holT ⟨c,day,fin,f,h⟩) day fin c.days->∀ x:Bool,∃ x':{i:Nat // i<=c.days.length/\firstM (holT ⟨c,day,fin,f,h⟩) day fin (c.days.drop i)=firstM (holT ⟨c,day,fin,f,h⟩) day fin c.days},c.days.length - x'.val<c.days.length - i/\LeK (FI.hH ⟨c,day,fin,f,h⟩).length f126.ntmps [(1,.i day),(2,.i fin),(3,.fn 118 [] [.ptr 0 0,.ptr 1 0]),(12,Con.dayS c.days),(13,.i (c.days.length:Int)),(14,.i ((i:Int)+1)),Z 25,Z 26,(27,.bool x)] [.box c.zg,.box [fxS f,chS h],.box c.zg] (SFh ⟨c,day,fin,f,h⟩ x'.val) (HFh ⟨c,day,fin,f,h⟩):=by
    intro he x;refine⟨⟨i+1,hlt,he⟩,by show _ - (i+1)<_; omega,?_,FI.h5 ⟨c,day,fin,f,h⟩,by kernel_rfl,by show 2<=3; decide⟩;simp [SFh,Con.dayS,za]
   have hstepU:firstM (holT ⟨c,day,fin,f,h⟩) day fin (c.days.drop (i+1))=firstM (holT ⟨c,day,fin,f,h⟩) day fin c.days->∃ x':{i:Nat // i<=c.days.length/\firstM (holT ⟨c,day,fin,f,h⟩) day fin (c.days.drop i)=firstM (holT ⟨c,day,fin,f,h⟩) day fin c.days},c.days.length - x'.val<c.days.length - i/\LeK (FI.hH ⟨c,day,fin,f,h⟩).length f126.ntmps [(1,.i day),(2,.i fin),(3,.fn 118 [] [.ptr 0 0,.ptr 1 0]),(12,Con.dayS c.days),(13,.i (c.days.length:Int)),(14,.i ((i:Int)+1)),Z 25,Z 26,Z 27] [.box c.zg,.box [fxS f,chS h],.box c.zg] (SFh ⟨c,day,fin,f,h⟩ x'.val) (HFh ⟨c,day,fin,f,h⟩):=by
    intro he;refine⟨⟨i+1,hlt,he⟩,by show _ - (i+1)<_; omega,?_,FI.h5 ⟨c,day,fin,f,h⟩,by kernel_rfl,by show 2<=3; decide⟩;simp [SFh,Con.dayS,za]
   refine⟨⟨by omega,by omega⟩,λ_=>⟨λg=> ?_,λg=> ?_⟩⟩
   ·rw [WJ (aB g)] at hi;exact hRet _ hi.symm
   ·have g:=aC g;refine⟨λg2=> ?_,λg2=> ?_⟩
    ·have g2:day<=c.days.getD i 0:=by simpa using g2
     have hs:qC Xp (holM c.x (c.days.getD i 0) f h):=by
      intro e he;refine h3 e ?_;rw [<- hi];exact zbe g g2 he
     refine⟨(⟨c,day,fin,f,h⟩,c.days.getD i 0),⟨⟨⟨rfl,rfl⟩,⟨rfl,rfl⟩,⟨rfl,rfl⟩,trivial⟩,FI.h2 ⟨c,day,fin,f,h⟩,trivial,h1 _,hs⟩,λhk=> ?_,λ_=>trivial⟩;have hk:=qX (d:=false) hk;simp only at hk ⊢;rw [aX g2,cond_true];refine⟨λg3=> ?_,λg3=>⟨⟨by omega,by show _<=(9223372036854775807:Int); omega⟩,λ_=> ?_⟩⟩
     ·rw [g3] at hk;rw [WX g g2 hk] at hi;exact hRet _ hi.symm
     ·rw [aP trivial,g3];rw [g3] at hk;rw [Jr g g2 hk] at hi;exact hstep hi _
    ·have g2:¬ day<=c.days.getD i 0:=by simpa using g2
     rw [WE g g2] at hi;rw [aW g2,cond_false];refine⟨λg3=>absurd g3 (by decide),λ_=>⟨⟨by omega,by show _<=(9223372036854775807:Int); omega⟩,λ_=> ?_⟩⟩;rw [aP trivial];exact hstepU hi
  ·have hge:i=c.days.length:=by have:=aC hge; omega
   subst hge;rw [List.drop_length] at hi;exact hRet _ hi.symm
def choT(k:FI):Int->Except Int Bool:=λt=>.ok (qn k.h k.c.src k.c.name t)
def Yt(Xp:List PanicEntry->Prop):Ctr:=ctrS (λk:FI=>[k.c.conA,.i k.day,.i k.fin,.fn 116 [] [.ptr 0 0,.ptr 1 0]]) (λk=>k.hC) (λk=>k.h.length<2^40/\k.c.days.length<2^40/\qC Xp (firstM (choT k) k.day k.fin k.c.days)) (λk=>okM (firstM (choT k) k.day k.fin k.c.days)) (λk=>(.i (getM 0 (firstM (choT k) k.day k.fin k.c.days)),k.hC))
def SFc(k:FI)(i:Nat):KV:=[(1,.i k.day),(2,.i k.fin),(3,.fn 116 [] [.ptr 0 0,.ptr 1 0]),(12,Con.dayS k.c.days),(13,.i (k.c.days.length:Int)),(14,.i (i:Int)),Z 25,Z 26,Z 27]
def HFc(k:FI):Heap:=[.box [fxS k.f,chS k.h],.box k.c.zg,.box k.c.zg]
noncomputable def GFg(Xp:List PanicEntry->Prop):Nat->Option Ctr:=λf=>if f=116 then some Yz else none
theorem zk9(Xp:List PanicEntry->Prop):∀ f c,GFg Xp f=some c->z8 Xp prog f c:=vR (Vo.x) ui
theorem FI.zw1(k:FI):eqH (expH [.box [fxS k.f,chS k.h],.box k.c.zg,.box k.c.zg] [0,1]) k.hC:=by
 simp [expH,expB,exp1,exp0,ren0,FI.hC,zO,Con.zg,Con.qN,fxS,chS,Ex.exS,Con.dayS,Con.conS,za]
theorem FI.hC2(k:FI):eqH [.box [fxS k.f,chS k.h],.box k.c.zg] [.box [fxS k.f,chS k.h],.box k.c.zg]:=by
 simp [Con.zg,Con.qN,fxS,chS,Ex.exS,Con.dayS,Con.conS,za]
theorem FI.hC5(k:FI):eqH [.box [fxS k.f,chS k.h],.box k.c.zg,.box k.c.zg] (HFc k):=by
 simp [HFc,Con.zg,Con.qN,fxS,chS,Ex.exS,Con.dayS,Con.conS,za]
abbrev q58(A:List AV)(H:Heap)(x:FI×Int):Prop:=eqL A [.i x.2,.ptr 0 0,.ptr 1 0]/\eqH H [.box [.sl x.1.f.length 3 (fxG x.1.f),.sl x.1.h.length 4 (chG x.1.h)],.box x.1.c.zg]/\2=2/\List.length x.1.h<1099511627776
theorem zhy(Xp:List PanicEntry->Prop):z8 Xp prog 126 (Yt Xp):=by
 refine yQ (fn:=f126) (c:=f126.body.getD .skip) rfl rfl rfl λp hp O w0 I0 Q hl0 hq=> ?_
 obtain⟨c,day,fin,f,h⟩:=p;obtain⟨h1,h2,h3⟩:=hp;simp only at h1 h2 h3 hq;refine zc.runX hmix (zk9 Xp) [1,2,3,12,13,14,25,26,27] 400 (T:=.leaf (.loop (lps K126 0).1 (lps K126 0).2 [(1,.i day),(2,.i fin),(3,.fn 116 [] [.ptr 0 0,.ptr 1 0]),(12,.sl c.days.length 1 (Con.dayG c.days)),(13,.i c.days.length),(14,.i 0),Z 25,Z 26,Z 27] [.box [.sl f.length 3 (fxG f),.sl h.length 4 (chG h)],.box c.zg,.box c.zg])) (by kernel_rfl) ?_;simp only [Tree.holds,zf,inR,lo,hi,aD];refine zc.loop (ι:={i:Nat // i<=c.days.length/\firstM (choT ⟨c,day,fin,f,h⟩) day fin (c.days.drop i)=firstM (choT ⟨c,day,fin,f,h⟩) day fin c.days}) (λi=>SFc ⟨c,day,fin,f,h⟩ i.1) (λ_=>HFc ⟨c,day,fin,f,h⟩) (λi=>c.days.length - i.1) ⟨0,aI _,rfl⟩ 0 ?_ ?_ (by kernel_rfl)
 ·exact⟨by simp [SFc,Con.dayS,za],FI.hC5 ⟨c,day,fin,f,h⟩,by kernel_rfl,by show 2<=3; decide⟩
 ·rintro⟨i,hil,hi⟩;refine zc.runX hmix (zk9 Xp) [1,2,3,12,13,14,25,26,27] 400 (T:=let v5:=inR .i64 (i+1);let v4:=List.getD c.days (i:Int).toNat (0:Int);let v3:=day<=List.getD c.days (i:Int).toNat (0:Int);let v1:List Blk:=[.box [.sl f.length 3 (fxG f),.sl h.length 4 (chG h)],.box c.zg,.box c.zg];.D ((i:Int)<(c.days.length:Int)) (.side ((0:Int)<=i/\(i:Int)<(c.days.length:Int)) (.D (fin<=List.getD c.days (i:Int).toNat (0:Int)) (.R [.i fin] v1) (.ite (decide v3 == true) (.ex (q58 [.i v4,.ptr 0 0,.ptr 1 0] [.box [.sl f.length 3 (fxG f),.sl h.length 4 (chG h)],.box c.zg]) λn=>let v2:List Blk:=[.box [.sl n.1.f.length 3 (fxG n.1.f),.sl n.1.h.length 4 (chG n.1.h)],.box n.1.c.zg,.box c.zg];.A λn_1=>.ite (bif decide v3 then qn n.1.h (Con.src n.1.c) (Con.name n.1.c) n.2 else false) (.R [.i v4] v2) (.side v5 (.leaf (.back 0 [(1,.i day),(2,.i fin),(3,.fn 116 [] [.ptr 0 0,.ptr 1 0]),(12,.sl c.days.length 1 (Con.dayG c.days)),(13,.i c.days.length),(14,.i (i+1)),Z 25,Z 26,(27,.bool (qn n.1.h (Con.src n.1.c) (Con.name n.1.c) n.2))] v2)))) (.ite (bif decide v3 then false else false) (.R [.i v4] v1) (.side v5 (.leaf (.back 0 [(1,.i day),(2,.i fin),(3,.fn 116 [] [.ptr 0 0,.ptr 1 0]),(12,.sl c.days.length 1 (Con.dayG c.days)),(13,.i c.days.length),(14,.i (i+1)),Z 25,Z 26,Z 27] v1))))))) (.R [.i fin] v1)) (by kernel_rfl) ?_;simp only [q58,Tree.holds,zf,inR,lo,hi,aD]
  have hRet:∀ e:Int,firstM (choT ⟨c,day,fin,f,h⟩) day fin c.days = .ok e->RetR (Yt Xp) (FI.hC ⟨c,day,fin,f,h⟩).length Q [.i e] [.box [fxS f,chS h],.box c.zg,.box c.zg]:=by
   intro e he;rw [he] at hq;exact RetR.ki [0,1] rfl rfl (by show ∀ j,j<2->_; decide) rfl (hq rfl) (LeA.refl _) (FI.zw1 ⟨c,day,fin,f,h⟩) rfl
  refine⟨λhlt=> ?_,λhge=> ?_⟩
  ·have hlt:i<c.days.length:=by have:=aB hlt; omega
   have hd:c.days.drop i=c.days.getD i 0::c.days.drop (i+1):=by
    rw [List.drop_eq_getElem_cons hlt]; simp [List.getD,hlt]
   rw [hd] at hi
   have hstep:firstM (choT ⟨c,day,fin,f,h⟩) day fin (c.days.drop (i+1))=firstM (choT ⟨c,day,fin,f,h⟩) day fin c.days->∀ x:Bool,∃ x':{i:Nat // i<=c.days.length/\firstM (choT ⟨c,day,fin,f,h⟩) day fin (c.days.drop i)=firstM (choT ⟨c,day,fin,f,h⟩) day fin c.days},c.days.length - x'.val<c.days.length - i/\LeK (FI.hC ⟨c,day,fin,f,h⟩).length f126.ntmps [(1,.i day),(2,.i fin),(3,.fn 116 [] [.ptr 0 0,.ptr 1 0]),(12,Con.dayS c.days),(13,.i (c.days.length:Int)),(14,.i ((i:Int)+1)),Z 25,Z 26,(27,.bool x)] [.box [fxS f,chS h],.box c.zg,.box c.zg] (SFc ⟨c,day,fin,f,h⟩ x'.val) (HFc ⟨c,day,fin,f,h⟩):=by
    intro he x;refine⟨⟨i+1,hlt,he⟩,by show _ - (i+1)<_; omega,?_,FI.hC5 ⟨c,day,fin,f,h⟩,by kernel_rfl,by show 2<=3; decide⟩;simp [SFc,Con.dayS,za]
   have hstepU:firstM (choT ⟨c,day,fin,f,h⟩) day fin (c.days.drop (i+1))=firstM (choT ⟨c,day,fin,f,h⟩) day fin c.days->∃ x':{i:Nat // i<=c.days.length/\firstM (choT ⟨c,day,fin,f,h⟩) day fin (c.days.drop i)=firstM (choT ⟨c,day,fin,f,h⟩) day fin c.days},c.days.length - x'.val<c.days.length - i/\LeK (FI.hC ⟨c,day,fin,f,h⟩).length f126.ntmps [(1,.i day),(2,.i fin),(3,.fn 116 [] [.ptr 0 0,.ptr 1 0]),(12,Con.dayS c.days),(13,.i (c.days.length:Int)),(14,.i ((i:Int)+1)),Z 25,Z 26,Z 27] [.box [fxS f,chS h],.box c.zg,.box c.zg] (SFc ⟨c,day,fin,f,h⟩ x'.val) (HFc ⟨c,day,fin,f,h⟩):=by
    intro he;refine⟨⟨i+1,hlt,he⟩,by show _ - (i+1)<_; omega,?_,FI.hC5 ⟨c,day,fin,f,h⟩,by kernel_rfl,by show 2<=3; decide⟩;simp [SFc,Con.dayS,za]
   refine⟨⟨by omega,by omega⟩,λ_=>⟨λg=> ?_,λg=> ?_⟩⟩
   ·rw [WJ (aB g)] at hi;exact hRet _ hi.symm
   ·have g:=aC g;refine⟨λg2=> ?_,λg2=> ?_⟩
    ·have g2:day<=c.days.getD i 0:=by simpa using g2
     refine⟨(⟨c,day,fin,f,h⟩,c.days.getD i 0),⟨⟨⟨rfl,rfl⟩,⟨rfl,rfl⟩,⟨rfl,rfl⟩,trivial⟩,FI.hC2 ⟨c,day,fin,f,h⟩,trivial,h1⟩,⟨(),trivial⟩,λ_ _=> ?_⟩;have hk:choT ⟨c,day,fin,f,h⟩ (c.days.getD i 0) = .ok (qn h c.src c.name (c.days.getD i 0)):=rfl;simp only;rw [aX g2,cond_true];refine⟨λg3=> ?_,λg3=>⟨⟨by omega,by show _<=(9223372036854775807:Int); omega⟩,λ_=> ?_⟩⟩
     ·rw [g3] at hk;rw [WX g g2 hk] at hi;exact hRet _ hi.symm
     ·rw [aP trivial,g3];rw [g3] at hk;rw [Jr g g2 hk] at hi;exact hstep hi _
    ·have g2:¬ day<=c.days.getD i 0:=by simpa using g2
     rw [WE g g2] at hi;rw [aW g2,cond_false];refine⟨λg3=>absurd g3 (by decide),λ_=>⟨⟨by omega,by show _<=(9223372036854775807:Int); omega⟩,λ_=> ?_⟩⟩;rw [aP trivial];exact hstepU hi
  ·have hge:i=c.days.length:=by have:=aC hge; omega
   subst hge;rw [List.drop_length] at hi;exact hRet _ hi.symm
def zcy(Xp:List PanicEntry->Prop):Ctr where
 fresh:=false
 spec args hc:=match args with
  | [_,_,_,.fn g _ _]=>if g=116 then(Yt Xp).spec args hc else(Xv Xp).spec args hc
  | _=>.fail
theorem zfv(Xp:List PanicEntry->Prop):z8 Xp prog 126 (zcy Xp):=by
 intro args hc Q hq hf;simp only [zcy] at hq;split at hq
 ·split at hq
  ·exact zhy Xp _ hc Q hq (λh=>by cases h)
  ·exact zi2 Xp _ hc Q hq (λh=>by cases h)
 ·exact hq.elim
theorem vF(c:Con):eqA c.conD c.conA:=by
 simp only [Con.conD,Con.outD,Con.conA,eqA];exact⟨⟨rfl,rfl⟩,rfl,rfl,rfl,⟨rfl,rfl⟩,rfl,rfl,⟨rfl,rfl⟩,⟨rfl,rfl,λ_ _ _ _=>rfl⟩,⟨rfl,rfl⟩,⟨rfl,rfl,λ_ _ _ _=>rfl⟩,⟨rfl,rfl,Con.qm c⟩,trivial⟩
def FI.val(k:FI):Except Int (List Fl):=flM k.f k.h k.c k.day k.fin
def flC(G:FI->Prop)(n:Nat)(Xp:List PanicEntry->Prop):Ctr:=ctrS (λk:FI=>[k.c.conA,.i k.day,.i k.fin,envA k.f k.h]) (λ_=>[]) (λk=>G k/\k.c.nodes<n/\qC Xp k.val) (λk=>okM k.val) (λk=>(.osl 0 5 0 (getM [] k.val).length,[.arr (getM [] k.val).length 5 (flG (getM [] k.val))]))
def FI.kid(k:FI)(i:Nat):FI:=⟨k.c.sub.getD i Con.nil,k.day,k.fin,k.f,k.h⟩
theorem FI.zwo(k:FI)(n:Nat)(g:Nat->Nat->AV):eqH (expH (k.heap++[.arr n 5 g]) [0,1,2,3,4]) (k.heap++[.arr n 5 g]):=by
 simp [expH,expB,exp1,exp0,ren0,FI.heap,zO,Con.zg,Con.qN,fxS,chS,Ex.exS,Con.dayS,Con.conS,za]
def zjr(G:FI->Prop)(n:Nat)(Xp:List PanicEntry->Prop):Ctr:=ctrS (λp:FI×Bool=>[.bool p.2,.ptr 0 0,.ptr 1 0,.ptr 2 0,.ptr 3 0]) (λp=>p.1.heap) (λp=>p.2.toNat<p.1.c.sub.length/\G (p.1.kid p.2.toNat)/\(p.1.kid p.2.toNat).c.nodes<n/\qC Xp (p.1.kid p.2.toNat).val) (λp=>okM (p.1.kid p.2.toNat).val) (λp=>(.osl 4 5 0 (getM [] (p.1.kid p.2.toNat).val).length,p.1.heap++[.arr (getM [] (p.1.kid p.2.toNat).val).length 5 (flG (getM [] (p.1.kid p.2.toNat).val))]))
noncomputable def GFp(G:FI->Prop)(n:Nat)(Xp:List PanicEntry->Prop):Nat->Option Ctr:=λf=>if f=85 then some (flC G n Xp) else none
theorem zuk{G:FI->Prop}{n:Nat}{Xp:List PanicEntry->Prop}(ih:z8 Xp prog 85 (flC G n Xp)):∀ f c,GFp G n Xp f=some c->z8 Xp prog f c:=vR ih ui
theorem ZA{G:FI->Prop}{n:Nat}{Xp:List PanicEntry->Prop}(ih:z8 Xp prog 85 (flC G n Xp)):z8 Xp prog 124 (zjr G n Xp):=by
 refine yQ (fn:=f124) (c:=f124.body.getD .skip) rfl rfl rfl λp hp O w0 I0 Q hl0 hq=> ?_
 obtain⟨⟨c,day,fin,f,h⟩,b⟩:=p;obtain⟨h1,h2,h3,h4⟩:=hp;simp only at h1 h2 h3 h4 hq;refine zc.runX hmix (zuk ih) [] 400 (T:=let v2:List AV:=[.sl f.length 3 (fxG f),.sl h.length 4 (chG h)];let v1:=[AV.sl f.length 3 (fxG f),AV.sl h.length 4 (chG h)];.ite b (.side ((0:Int)<=1/\(1:Int)<(c.sub.length:Int)) (.ex (λ(x:FI)=>eqL [(Con.conD (List.getD c.sub 1 Con.nil)),.i day,.i fin,.agg v1] [(Con.conA x.c),.i x.day,.i x.fin,.agg [.sl x.f.length 3 (fxG x.f),.sl x.h.length 4 (chG x.h)]]/\eqH [] []/\0=0/\G x/\Con.nodes x.c<n/\qC Xp x.val) λn=>let v3:=getM [] n.val;.ite (okM n.val) (.R [.osl 4 5 0 (List.length v3)] [.box c.zg,.box [.i day],.box [.i fin],.box v2,.arr (List.length v3) 5 (flG v3)]) (.leaf qe.gone))) (.side ((0:Int)<=0/\(0:Int)<(c.sub.length:Int)) (.ex (λ(x:FI)=>eqL [(Con.conD (List.getD c.sub 0 Con.nil)),.i day,.i fin,.agg v1] [(Con.conA x.c),.i x.day,.i x.fin,.agg [.sl x.f.length 3 (fxG x.f),.sl x.h.length 4 (chG x.h)]]/\eqH [] []/\0=0/\G x/\Con.nodes x.c<n/\qC Xp x.val) λn=>let v4:=getM [] n.val;.ite (okM n.val) (.R [.osl 4 5 0 (List.length v4)] [.box c.zg,.box [.i day],.box [.i fin],.box v2,.arr (List.length v4) 5 (flG v4)]) (.leaf qe.gone)))) (by kernel_rfl) ?_;simp only [Tree.holds,zf,inR,lo,hi,aD]
 have fin1:∀ (i:Nat) (Q':Prop),i<c.sub.length->b.toNat=i->(okM (FI.kid ⟨c,day,fin,f,h⟩ i).val=true->RetR (zjr G n Xp) (FI.heap ⟨c,day,fin,f,h⟩).length Q [.osl 4 5 0 (getM [] (FI.kid ⟨c,day,fin,f,h⟩ i).val).length] (FI.heap ⟨c,day,fin,f,h⟩++[.arr (getM [] (FI.kid ⟨c,day,fin,f,h⟩ i).val).length 5 (flG (getM [] (FI.kid ⟨c,day,fin,f,h⟩ i).val))])):=by
  intro i _ hi hb ho;rw [hb] at hq;exact RetR.ki [0,1,2,3,4] rfl rfl (by show ∀ j,j<4->_; decide) rfl (hq ho) (LeA.refl _) (FI.zwo ⟨c,day,fin,f,h⟩ _ _) rfl
 have argE:eqA (envA f h) (envA f h):=⟨⟨rfl,rfl,λ_ _ _ _=>rfl⟩,⟨rfl,rfl,λ_ _ _ _=>rfl⟩,trivial⟩;refine⟨λhb=> ?_,λhb=> ?_⟩
 ·subst hb;refine⟨⟨by decide,by have:1<c.sub.length:=h1; omega⟩,λ_=>⟨FI.kid ⟨c,day,fin,f,h⟩ 1,⟨⟨vF _,⟨rfl,rfl⟩,⟨rfl,rfl⟩,argE,trivial⟩,trivial,trivial,h2,h3,h4⟩,fin1 1 True h1 rfl,λ_=>trivial⟩⟩
 ·subst hb;refine⟨⟨by decide,by have:0<c.sub.length:=h1; omega⟩,λ_=>⟨FI.kid ⟨c,day,fin,f,h⟩ 0,⟨⟨vF _,⟨rfl,rfl⟩,⟨rfl,rfl⟩,argE,trivial⟩,trivial,trivial,h2,h3,h4⟩,fin1 0 True h1 rfl,λ_=>trivial⟩⟩
end Go.Proofs.Tryz
end
section
namespace Go.Nov
structure OrdT{α:Type}(c:α->α->Int):Prop extends OrdK c where
 irr:∀ a,c a a=0
 tot:∀ a b,c a b<0\/c a b=0\/c b a<0
 sym:∀ a b,c a b=0->c b a=0
 eqt:∀ a b d,c a b=0->c b d=0->c a d=0
 eq2:∀ a b d,c a b=0->c b d<0->c a d<0
section
variable {α:Type} {c:α->α->Int} {z x y:α} (hk:OrdT c)
include hk
end
end Go.Nov
end
section
namespace Go.Nov
def negS(a:L8):L8:=if a=[48] then a else if a.getD 0 0=45 then a.drop 1 else [45]++a
theorem WR(z:Int):z=0/\(wz z).1=[48]\/z≠0/\room z.natAbs/\(wz z).1=sgn (decide (z<0)) (txt z.natAbs)\/¬ room z.natAbs:=by
 by_cases h0:z=0
 ·left; subst h0; exact⟨rfl,rfl⟩
 ·right;by_cases hr:room z.natAbs
  ·left;refine⟨h0,hr,?_⟩;unfold wz wr;have hr':(dec z.natAbs).length<=1000:=hr;rw [aO (by omega),aO (by omega)]
  ·exact .inr hr
theorem Vg(b:L8):sgn true b=45::b:=rfl
theorem Q2(b:L8):sgn false b=b:=rfl
theorem ziv{r:Rat}(h:kP r):negS (qstr r)=qstr (-r):=by
 have hn:(-r).num = -r.num:=rfl;have hd:(-r).den=r.den:=rfl
 have tail:∀ t:L8,(r.den=1->t=[])->(r.den≠1->t=[47]++(wz (r.den:Int)).1)->qstr r=(wz r.num).1++t/\qstr (-r)=(wz (-r.num)).1++t:=by
  intro t h1 h2;unfold qstr;rw [hn,hd];by_cases hd1:r.den=1
  ·rw [aP hd1,aP hd1,h1 hd1]; simp
  ·rw [aO hd1,aO hd1,h2 hd1]; simp
 obtain⟨t,ht1,ht2⟩:∃ t:L8,(r.den=1->t=[])/\(r.den≠1->t=[47]++(wz (r.den:Int)).1):=by
  by_cases hd1:r.den=1
  ·exact⟨[],λ_=>rfl,λh=>absurd hd1 h⟩
  ·exact⟨_,λh=>absurd h hd1,λ_=>rfl⟩
 obtain⟨e1,e2⟩:=tail t ht1 ht2;rw [e1,e2];rcases WR r.num with ⟨z0,zs⟩ | ⟨z0,zr,zs⟩ | zr
 ·have hr0:r=0:=Rat.num_eq_zero.1 z0;have ht:t=[]:=ht1 (by rw [hr0]; rfl);rw [z0,ht];rfl
 ·rcases WR (-r.num) with ⟨z0',_⟩ | ⟨_,_,zs'⟩ | zr'
  ·omega
  ·rw [zs,zs',Int.natAbs_neg];have hx:r.num.natAbs≠0:=by omega
   obtain⟨f1,f2⟩:=uA hx;have fne:=X7 hx;by_cases hlt:r.num<0
   ·rw [aX hlt,aW (by omega),Vg,Q2];unfold negS;rw [aO (by simp),aP (by simp)];rfl
   ·rw [aW hlt,aX (by omega),Vg,Q2];generalize txt r.num.natAbs=b at *
    cases b with
    | nil=>exact absurd rfl fne
    | cons c b=>
     simp only [List.getD_cons_zero] at f1 f2;unfold negS;rw [aO (by simp [f1]),aO (by simpa using f2)];rfl
  ·rw [Int.natAbs_neg] at zr'; exact absurd zr zr'
 ·exact absurd h.1 zr
theorem zmr{r:Rat}(h:kP r):kP (-r):=by
 refine⟨?_,h.2⟩;show room (-r.num).natAbs;rw [Int.natAbs_neg]; exact h.1
theorem zqp{a:L8}(h:errR a=0):errR (negS a)=0/\qv (negS a) = -qv a/\numR (negS a)=(wz (-zI (numR a))).1/\denR (negS a)=denR a:=by
 obtain⟨h1,h2,h3,h4⟩:=yV h;have e:negS a=qstr (-qv a):=by rw [<- ziv h4,h3]
 have hr:=zmr h4;obtain⟨p1,p2,_⟩:=Zb hr;rw [e];refine⟨uv hr,J4 hr,?_,?_⟩
 ·rw [p1];show(wz (-(qv a).num)).1=_;rw [h1]
 ·rw [p2];show(wz ((qv a).den:Int)).1=_;rw [h2,JE (qR h).2.1]
end Go.Nov
end
section
namespace Go.Nov
open Go.Sx
structure Ca where
 name:L8
 into:L8
 date:Int
 ratio:L8
 extra:L8
theorem xe{a:L8}(h:errR a=0):(a.getD 0 0=45↔qv a<0)/\(a=[48]↔qv a=0)/\a≠[]:=by
 obtain⟨p1,p2,p3,p4⟩:=yV h;generalize qv a=r at p1 p2 p3 p4
 have ht:∃ t:L8,a=(wz r.num).1++t/\(r.den=1->t=[]):=by
  rw [<- p3];unfold qstr;by_cases hd1:r.den=1
  ·rw [aP hd1]; exact⟨[],by simp,λ_=>rfl⟩
  ·rw [aO hd1]; exact⟨[47]++(wz r.den).1,by simp,λh=>absurd h hd1⟩
 obtain⟨t,e,ht⟩:=ht
 have hneg:r<0↔r.num<0:=by
  rw [Rat.lt_iff];simp
 rcases WR r.num with ⟨z0,zs⟩ | ⟨z0,zr,zs⟩ | zr
 ·have hr0:r=0:=Rat.num_eq_zero.1 z0;have ht:=ht (by rw [hr0]; rfl);rw [zs,ht] at e;subst e;rw [hneg,z0];exact⟨⟨λh=>absurd h (by decide),λh=>absurd h (by decide)⟩,⟨λ_=>hr0,λ_=>rfl⟩,by simp⟩
 ·have hr0:r≠0:=λh=>z0 (by rw [h]; rfl)
  have hx:r.num.natAbs≠0:=by omega
  obtain⟨f1,f2⟩:=uA hx;have fne:=X7 hx;rw [zs] at e;rw [hneg];by_cases hlt:r.num<0
  ·rw [aX hlt,Vg] at e;subst e;exact⟨⟨λ_=>hlt,λ_=>rfl⟩,⟨λh=>by simp at h,λh=>absurd h hr0⟩,by simp⟩
  ·rw [aW hlt,Q2] at e;generalize txt r.num.natAbs=b at *
   cases b with
   | nil=>exact absurd rfl fne
   | cons c b=>
    simp only [List.getD_cons_zero] at f1 f2;subst e;exact⟨⟨λh=>absurd h f2,λh=>absurd h hlt⟩,⟨λh=>by simp [f1] at h,λh=>absurd h hr0⟩,by simp⟩
 ·exact absurd p4.1 zr
theorem zra{a:L8}(h:errR a=0):0<qv a↔a≠[48]/\a.getD 0 0≠45:=by
 obtain⟨h1,h2,h3⟩:=xe h;rw [ne_eq,ne_eq,h1,h2];generalize qv a=r;have:=Rat.lt_iff (a:=r) (b:=0);constructor
 ·intro h; exact⟨by grind,by grind⟩
 ·rintro⟨h4,h5⟩; grind
theorem J6:errR [48]=0:=by decide +kernel
theorem zwe:qv [48]=0:=by decide +kernel
theorem zag{a:L8} : (errR a≠0->(cmpR a [48]).2≠0)/\(errR a=0->(cmpR a [48]).2=0/\(cmpR a [48]).1=if qv a<0 then -1 else if 0<qv a then 1 else 0):=by
 constructor
 ·intro h;have h2:qG a [48]=errR a:=by unfold qG; rw [aO h]
  have hc:zJ a [48]=errR a:=by unfold zJ; rw [h2,aP h]
  unfold cmpR;rw [hc,aP h];exact h
 ·intro h;have hn:(cmpR a [48]).2≠14->_:=λg=>(zbg h J6).resolve_left (λk=>g (by rw [k]))
  have key:(cmpR a [48]).2≠14:=by
   obtain⟨a1,a2,b1,b2,a4,b4,h2⟩:=KZ h J6
   have hx:mulI (numR a) (denR [48])=(numR a,0):=by
    rw [show denR [48]=[49] from by decide +kernel,yH (zn.2 ⟨a1,Uf⟩),show zI [49]=1 from by decide +kernel,Int.mul_one];exact JE a1
   have hy:mulI (numR [48]) (denR a)=([48],0):=by
    rw [yH (zn.2 ⟨b1,a2⟩),show zI (numR [48])=0 from by decide +kernel,Int.zero_mul];decide +kernel
   have hc:zJ a [48]=0:=by
    unfold zJ;rw [h2,aO (by simp),hx,hy];simp
   unfold cmpR;rw [hc,aO (by simp),hx,hy];unfold kB;rw [aP (zn.2 ⟨a1,by decide +kernel⟩)];simp
  have:=hn key;rw [this,zwe];exact⟨rfl,rfl⟩
theorem UD(z w:L8×Int):(frac z w).1.length<=2003:=by
 unfold frac;split
 ·simp
 ·unfold wy;split
  ·simp
  ·split
   ·simp
   ·exact zi4 _ _ _
theorem UM(a b:L8):(mulR a b).1.length<=2003:=by
 unfold mulR;split
 ·simp
 ·exact UD _ _
namespace Ca
def ok(a:Ca):Bool:=qH a.name&&(qH a.into&&(dayB a.date&&(decide (errR a.ratio=0)&&(decide (0<qv a.ratio)&&decide (errR a.extra=0)))))
def old(a:Ca)(x:L8):L8×Int:=if(mulR a.ratio x).2≠0 then([],(mulR a.ratio x).2) else addR (mulR a.ratio x).1 a.extra
def hit(a:Ca)(f:Fx):Bool:=decide (f.name=a.into)&&decide (a.date<=f.date)
def keep(a:Ca)(f:Fx):Bool:= !decide (f.name=a.name)||decide (f.date<a.date)
def mk'(a:Ca)(f:Fx):Fx:=⟨a.name,f.date,(a.old f.value).1⟩
def fresh(a:Ca)(l:List Fx):List Fx:=(l.filter a.hit).map a.mk'
def kept(a:Ca)(l:List Fx):List Fx:=l.filter a.keep
def bad(a:Ca)(f:Fx):Bool:=a.hit f&&decide ((a.old f.value).2≠0)
def err(a:Ca)(l:List Fx):Int:=match l.find? a.bad with
 | some f=>(a.old f.value).2
 | none=>0
def at_(a:Ca)(l:List Fx):Nat:=l.findIdx λf=>Op.bytesLess a.name f.name
def join(a:Ca)(l m:List Fx):List Fx:=l.take (a.at_ l)++m++l.drop (a.at_ l)
def before(a:Ca)(f:List Fx)(c:List Ch):(List Fx×List Ch)×Int:=
 if a.ok=false then(([],[]),8) else if errE f c≠0 then(([],[]),errE f c) else if a.err f≠0 then(([],[]),a.err f)
 else if 1000<(a.kept f).length+(a.fresh f).length then(([],[]),22) else((a.join (a.kept f) (a.fresh f),c),0)
end Ca
end Go.Nov
end
section
namespace Go.Nov
open Go.Sx
structure Pt(x y:Ex):Prop where
 x0:x.errX=0
 x1:x.zL=1
 y0:y.errX=0
 y1:y.zL=1
 s:x.size+y.size<500
 d1:x.depth<60
 d2:y.depth<60
section
variable {x y:Ex} {day:Int} {f:List Fx} {c:List Ch} (h:Pt x y)
include h
end
theorem zan{x:Ex}{day:Int}{f:List Fx}{c:List Ch}(h:(jT x day f c).2=0):errR (jT x day f c).1=0:=by
 have ha:askE x 1 day f c=0:=bM λg=>g (by unfold jT at h; rw [aP g] at h; exact h)
 obtain⟨g1,g2,g3,_⟩:=Vp ha;have n0:¬ (0:Int)≠0:=by simp
 have he:(x.ev f day).e=0:=bM λg=>g (by unfold jT at h; rw [ha,aO n0,aP g] at h; exact h)
 have hv:jT x day f c=((x.ev f day).v,0):=by unfold jT; rw [ha,he,aO n0,aO n0]
 rw [hv];exact Ex.Qc (Y2.1 g3).2.1 day x g2 he
end Go.Nov
end
section
namespace Go.Nov
open Go.Sx
theorem Con.zrs{P:Con->Prop}(h:∀ c:Con,(∀ i,i<c.sub.length->P (c.sub.getD i Con.nil))->P c)(c:Con):P c:=by
 generalize hn:c.nodes=n
 induction n using Nat.strongRecOn generalizing c with
 | _ n ih=>
  refine h c λi hi=>ih _ ?_ _ rfl
  have:=Con.vf hi;rw [Con.kg] at hn;omega
theorem uN{α:Type}{l:List α}{d:α}{i:Nat}(h:l.length<=i):l.getD i d=d:=by simp [List.getD,h]
theorem XO(f:List Fx)(h:List Ch)(day fin:Int):flM f h Con.nil day fin = .ok []:=by
 show flM f h (.mk 0 [] [] [] Ex.nil 0 [] []) day fin=_;rw [flM];simp
theorem zgv(f:List Fx)(h:List Ch)(s:List Con)(i:Nat):(flMs f h s).getD i (λ_ _=>.ok [])=flM f h (s.getD i Con.nil):=by
 by_cases hi:i<s.length
 ·exact Y8 f h s i hi
 ·have e:∀ (s:List Con),(flMs f h s).length=s.length:=by
   intro s; induction s with
   | nil=>rw [flMs]; rfl
   | cons a s ih=>rw [flMs]; simp [ih]
  rw [uN (by rw [e]; omega),uN (by omega)];funext day fin;rw [XO]
theorem yr(f:List Fx)(h:List Ch)(c:Con)(day fin:Int):flM f h c day fin =
  if fin<=day then .ok []
  else if c.kind=2 then andM (valM c.x day f h) λr=>.ok (payF day c.src c.dst c.name r)
  else if c.kind=3 then andM (flM f h (c.sub.getD 0 Con.nil) day fin) λu=>andM (flM f h (c.sub.getD 1 Con.nil) day fin) λv=>.ok (u++v)
  else if c.kind=4 then andM (valM c.x day f h) λr=>andM (flM f h (c.sub.getD 0 Con.nil) day fin) λu=>jy r u
  else if c.kind=5 then andM (holM c.x day f h) λt=>flM f h (c.sub.getD (if t=true then 0 else 1) Con.nil) day fin
  else if c.kind=6 then(if day<=c.date then flM f h (c.sub.getD 0 Con.nil) c.date fin else .ok [])
  else if c.kind=7 then flM f h (c.sub.getD (if qn h c.src c.name day=true then 0 else 1) Con.nil) day fin
  else if c.kind=8 then andM (firstM (λt=>.ok (qn h c.src c.name t)) day fin c.days) λt=>flM f h (c.sub.getD 0 Con.nil) t fin
  else if c.kind=9 then andM (firstM (λt=>holM c.x t f h) day fin c.days) λt=>flM f h (c.sub.getD 0 Con.nil) day t
  else if c.kind=10 then andM (firstM (λt=>holM c.x t f h) day fin c.days) λt=>flM f h (c.sub.getD 0 Con.nil) t fin
  else .ok []:=by
 cases c;rw [flM];simp only [zgv];rfl
theorem vV{α β:Type}{x:Except Int α}{k:α->Except Int β}{r:β}(h:andM x k = .ok r):∃ a,x = .ok a/\k a = .ok r:=by
 cases x with
 | error e=>cases h
 | ok a=>exact⟨a,rfl,h⟩
theorem jm(d:Int)(a b n r:L8):(payF d a b n r).length<=1:=by unfold payF; split; simp; split<;>simp
theorem WU{k:L8} : ∀ {l m:List Fl},jy k l = .ok m->m.length<=l.length
 | [],m,h=>by cases h; simp
 | f::l,m,h=>by
  rw [jy] at h;split at h
  ·cases h
  ·split at h
   ·cases h
   ·rename_i m' hm;cases h;have:=WU hm;have:=jm f.date f.src f.dst f.ccy (mulR f.amt k).1;simp; omega
def okFl(x:Fl):Prop:=errR x.amt=0/\0<qv x.amt
theorem zfe{d:Int}{a b n r:L8}(hr:errR r=0):∀ x∈payF d a b n r,okFl x:=by
 intro x hx;obtain⟨s1,s2,s3⟩:=xe hr;unfold payF at hx;split at hx
 ·simp at hx
 ·rename_i h0;split at hx
  ·rename_i h1;simp only [List.mem_singleton] at hx;subst hx;have e:negS r=r.drop 1:=by unfold negS; rw [aO h0,aP h1]
   obtain⟨n1,n2,_⟩:=zqp hr;rw [e] at n1 n2;refine⟨n1,?_⟩;show 0<qv (r.drop 1);rw [n2];have:=s1.1 h1;grind
  ·rename_i h1;simp only [List.mem_singleton] at hx;subst hx;refine⟨hr,(zra hr).2 ⟨h0,h1⟩⟩
theorem J2{x:Ex}{d:Int}{f:List Fx}{h:List Ch}{r:L8}(hv:valM x d f h = .ok r):errR r=0:=by
 unfold valM at hv;split at hv
 ·rename_i h0; cases hv; exact zan h0
 ·cases hv
theorem KT{k:L8}(hk:errR k=0):∀ {l m:List Fl},(∀ x∈l,okFl x)->jy k l = .ok m->∀ x∈m,okFl x
 | [],m,_,h=>by cases h; simp
 | f::l,m,hl,h=>by
  rw [jy] at h;split at h
  ·cases h
  ·rename_i h0;split at h
   ·cases h
   ·rename_i m' hm;cases h;intro x hx;rcases bZ.1 hx with hx | hx
    ·exact zfe (wG (hl f (by simp)).1 hk (by simpa using h0)).1 x hx
    ·exact KT hk (λy hy=>hl y (by simp [hy])) hm x hx
theorem XZ{f:List Fx}{h:List Ch} : ∀ (c:Con) {day fin:Int} {l:List Fl},flM f h c day fin = .ok l->l.length<=c.nodes/\∀ x∈l,okFl x:=by
 refine Con.zrs ?_;intro c ih day fin l hl;have nl:=Con.kg c
 have kid:∀ (i:Nat) {day fin:Int} {l:List Fl},flM f h (c.sub.getD i Con.nil) day fin = .ok l->l.length<=Con.zz c.sub/\∀ x∈l,okFl x:=by
  intro i day fin l hl;by_cases hi:i<c.sub.length
  ·have:=ih i hi hl;exact⟨bP this.1 (Con.vf hi),this.2⟩
  ·rw [uN (by omega),XO] at hl;cases hl;simp
 have kid':∀ (i:Nat) {day fin:Int} {l:List Fl},flM f h (c.sub.getD i Con.nil) day fin = .ok l->l.length<=c.nodes/\∀ x∈l,okFl x:=λi day fin l hl=>⟨by have:=(kid i hl).1; omega,(kid i hl).2⟩
 have non:∀ l:List Fl,(Except.ok []:Except Int (List Fl)) = .ok l->l.length<=c.nodes/\∀ x∈l,okFl x:=by
  intro l hl; cases hl; simp
 rw [yr] at hl;split at hl
 ·exact non l hl
 split at hl
 ·obtain⟨r,h1,h2⟩:=vV hl;cases h2;have:=jm day c.src c.dst c.name r;exact⟨by omega,zfe (J2 h1)⟩
 split at hl
 ·obtain⟨u,h1,h2⟩:=vV hl;obtain⟨v,h3,h4⟩:=vV h2;cases h4;refine⟨?_,λx hx=>(bZ.1 hx).elim ((kid 0 h1).2 x) ((kid 1 h3).2 x)⟩;rw [bO];by_cases hi:1<c.sub.length
  ·have a1:=(ih 0 (by omega) h1).1;have a2:=(ih 1 hi h3).1;have t1:Con.zz (c.sub.take 1)=_:=Con.QY (s:=c.sub) (i:=0) (by omega);have t2:Con.zz (c.sub.take 2)=_:=Con.QY (s:=c.sub) (i:=1) hi;have t3:=Con.zgi c.sub 2;have t4:Con.zz (c.sub.take 0)=0:=by rw [List.take_zero,Con.zz]
   omega
  ·rw [uN (by omega:c.sub.length<=1),XO] at h3;cases h3;have:=(kid' 0 h1).1;simpa using this
 split at hl
 ·obtain⟨r,h1,h2⟩:=vV hl;obtain⟨u,h3,h4⟩:=vV h2;have:=WU h4;have:=(kid' 0 h3).1;exact⟨by omega,KT (J2 h1) (kid' 0 h3).2 h4⟩
 split at hl
 ·obtain⟨t,h1,h2⟩:=vV hl;exact kid' _ h2
 split at hl
 ·split at hl
  ·exact kid' _ hl
  ·exact non l hl
 split at hl
 ·exact kid' _ hl
 split at hl
 ·obtain⟨t,h1,h2⟩:=vV hl;exact kid' _ h2
 split at hl
 ·obtain⟨t,h1,h2⟩:=vV hl;exact kid' _ h2
 split at hl
 ·obtain⟨t,h1,h2⟩:=vV hl;exact kid' _ h2
 ·exact non l hl
end Go.Nov
end
section
set_option maxRecDepth 100000
open Go Go.Sx Go.Proofs Go.Nov
namespace Go.Proofs.Tryz
attribute [local simp] eqKV eqA eqA0 eqH eqB eqL eqL0
noncomputable def K85:=Go.Sx.aA f85
def FI.G(k:FI):Prop:=k.c.form=true/\k.c.big<2^40/\k.c.nodes<2^20/\envP (k.f,k.h)
theorem jE{α β:Type}{Xp:List PanicEntry->Prop}{x:Except Int α}{k:α->Except Int β}(h:qC Xp (andM x k)):qC Xp x/\∀ a,x = .ok a->qC Xp (k a):=
 ⟨λe he=>h e (by rw [he]; rfl),λa ha e he=>h e (by rw [ha]; exact he)⟩
noncomputable def GFl(n:Nat)(Xp:List PanicEntry->Prop):Nat->Option Ctr:=λf=>if f=116 then some Yz else if f=118 then some (zcw Xp) else if f=121 then some (zoo Xp) else if f=124 then some (zjr FI.G n Xp) else if f=126 then some (zcy Xp) else if f=125 then some ztb else if f=85 then some (flC FI.G n Xp) else if f=42 then some WQ else if f=122 then some (zbs Xp) else none
theorem zng{n:Nat}{Xp:List PanicEntry->Prop}(ih:z8 Xp prog 85 (flC FI.G n Xp)):∀ f c,GFl n Xp f=some c->z8 Xp prog f c:=
 vR Vo.x (vR (KW Xp) (vR (zg0 Xp) (vR (ZA ih) (vR (zfv Xp) (vR zpz.x (vR ih (vR yY.x (vR (KB Xp) ui))))))))
theorem zws{α β:Type}{a:α}{k:α->Except Int β} : Go.Nov.andM (.ok a) k=k a:=rfl
def SFl(r:L8)(u:List Fl)(m i:Nat):KV:=[(13,.str r),(14,.osl 5 5 0 m),(50,.osl 4 5 0 u.length),(51,.i (u.length:Int)),(52,.i (i:Int))]
def HFl(c:Con)(day fin:Int)(f:List Fx)(h:List Ch)(u m:List Fl):Heap:=[.box c.zg,.box [.i day],.box [.i fin],.box [.sl f.length 3 (fxG f),.sl h.length 4 (chG h)],.arr u.length 5 (flG u),.arr m.length 5 (flG m)]
abbrev q59(A:List AV)(x:Fl):Prop:=eqL A [.i x.date,.str x.src,.str x.dst,.str x.ccy,.str x.amt]/\Fl.amt x≠[]/\List.length x.amt<1099511627776
theorem zca{n:Nat}{Xp:List PanicEntry->Prop}(ih:z8 Xp prog 85 (flC FI.G n Xp)){c:Con}{day fin:Int}{f:List Fx}{h:List Ch}{r:L8}{u:List Fl}(hfl:flM f h c day fin=jy r u)(hst:qC Xp (jy r u))(hlen:u.length<2^20)(hok:∀ x∈u,okFl x)(hr:errR r=0){Q:AV×Heap->Prop}(hQ:∀ l,flM f h c day fin = .ok l->Q (.osl 0 5 0 l.length,[.arr l.length 5 (flG l)])){O:Nat->Prop}{w0:World}{I0:List SE} :
  zH Xp none prog f85 O 0 w0 I0 (λ_ _ _=>False) (RetR (flC FI.G (n+1) Xp) 0 (upQ Q)) (.code (.loop (lps K85 0).1)::(lps K85 0).2) (mk f85.ntmps [(13,.str r),(14,.nils),(50,.osl 4 5 0 u.length),(51,.i (u.length:Int)),(52,.i 0)] [.box c.zg,.box [.i day],.box [.i fin],.box [.sl f.length 3 (fxG f),.sl h.length 4 (chG h)],.arr u.length 5 (flG u)]):=by
 refine zc.bear 14 5 (flG []) rfl (by decide) (by kernel_rfl) ?_
 refine zc.loop (ι:={z:Nat×List Fl // z.1<=u.length/\z.2.length<=z.1/\jy r u=andM (jy r (u.drop z.1)) λl=>.ok (z.2++l)}) (λz=>SFl r u z.1.2.length z.1.1) (λz=>HFl c day fin f h u z.1.2) (λz=>u.length - z.1.1) ⟨(0,[]),aI _,aJ _,by
  show jy r u=_;rw [List.drop_zero];cases jy r u<;>rfl⟩ 0 ?_ ?_ (by kernel_rfl)
 ·exact⟨by simp [SFl,kC,za],by simp [HFl,za,Con.zg,Con.qN,fxS,chS,Ex.exS,Con.dayS,Con.conS],by kernel_rfl,aI _⟩
 ·rintro⟨⟨i,m⟩,hi,hm,hs⟩;simp only at hi hm hs;refine zc.runX hmix (zng ih) [13,14,50,51,52] 400 (T:=let v4:List AV:=[.sl f.length 3 (fxG f),.sl h.length 4 (chG h)];let v1:=u.getD (0+Int.toNat i) Fl.nil;.D ((i:Int)<u.length) (.side ((0:Int)<=i/\(i:Int)<u.length) (.ex (q44 [.str v1.amt,.str r]) λn=>.all (λ(r:L8×Int)=>r=mulR n.1 n.2) λn=>.ex (λ(x:L8×Int)=>eqL [.str n.1,.i n.2] [.str x.1,.i x.2]/\eqH [] []/\0=0/\(x.2≠0->Xp (ZP uX x.2))) λn=>.D (n.2=0) (.ex (q59 [.i v1.date,.str v1.src,.str v1.dst,.str v1.ccy,.str n.1]) λn=>let v2:=payF n.date n.src n.dst n.ccy n.amt;let v3:=m.length+List.length v2;.A λn_1=>.side (0=0/\m.length<=m.length/\v3 *72<=140737488355328) (.S (i+1) (.leaf (.back 0 [(13,.str r),(14,.osl 5 5 0 v3),(50,.osl 4 5 0 u.length),(51,.i u.length),(52,.i (i+1))] [.box c.zg,.box [.i day],.box [.i fin],.box v4,.arr u.length 5 (flG u),.arr v3 5 (appG m.length (flG m) (zi (flG v2) 0)),.box [.i v1.date,.str v1.src,.str v1.dst,.str v1.ccy,.str v1.amt],.arr (List.length v2) 5 (flG v2)])))) (.leaf qe.gone))) (.R [.osl 5 5 0 m.length] [.box c.zg,.box [.i day],.box [.i fin],.box v4,.arr u.length 5 (flG u),.arr m.length 5 (flG m)])) (by kernel_rfl) ?_;simp only [q44,q59,Tree.holds,zf,inR,lo,hi,aD];refine⟨λhlt=> ?_,λhge=> ?_⟩
  ·have hlt:i<u.length:=by have:=aB hlt; omega
   have hd:u.drop i=u.getD i Fl.nil::u.drop (i+1):=by
    rw [List.drop_eq_getElem_cons hlt]; simp [List.getD,hlt]
   have hmem:u.getD i Fl.nil∈u:=by simp [List.getD,hlt]
   rw [hd,jy] at hs;rw [Nat.zero_add];have hx:=hok _ hmem;refine⟨⟨by omega,by omega⟩,λ_=>⟨((u.getD i Fl.nil).amt,r),⟨⟨rfl,rfl,trivial⟩,by have:=wx hx.1; show(u.getD i Fl.nil).amt.length<_; omega,by have:=wx hr; show r.length<_; omega⟩,⟨_,rfl⟩,?_⟩⟩;rintro _ rfl;refine⟨mulR (u.getD i Fl.nil).amt r,⟨⟨rfl,⟨rfl,rfl⟩,trivial⟩,trivial,trivial,λhe=> ?_⟩,λhe=> ?_,λ_=>trivial⟩
   ·refine hst _ ?_;rw [hs,aP he]; rfl
   ·have he:=aB he;have hmr:=(wG hx.1 hr he).1;rw [aO (λhne=>hne he)] at hs;have hpl:=jm (u.getD i Fl.nil).date (u.getD i Fl.nil).src (u.getD i Fl.nil).dst (u.getD i Fl.nil).ccy (mulR (u.getD i Fl.nil).amt r).1;refine⟨⟨(u.getD i Fl.nil).date,(u.getD i Fl.nil).src,(u.getD i Fl.nil).dst,(u.getD i Fl.nil).ccy,(mulR (u.getD i Fl.nil).amt r).1⟩,⟨⟨⟨rfl,rfl⟩,rfl,rfl,rfl,rfl,trivial⟩,(xe hmr).2.2,by have:=wx hmr; show List.length (mulR (u.getD i Fl.nil).amt r).1<_; omega⟩,⟨(),trivial⟩,λ_ _=>⟨⟨trivial,aJ _,?_⟩,λ_=>⟨⟨by omega,by show _<=(9223372036854775807:Int); omega⟩,λ_=> ?_⟩⟩⟩
    ·show(m.length+(payF (u.getD i Fl.nil).date (u.getD i Fl.nil).src (u.getD i Fl.nil).dst (u.getD i Fl.nil).ccy (mulR (u.getD i Fl.nil).amt r).1).length)*72<=_;omega
    ·rw [aP trivial];simp only;generalize payF (u.getD i Fl.nil).date (u.getD i Fl.nil).src (u.getD i Fl.nil).dst (u.getD i Fl.nil).ccy (mulR (u.getD i Fl.nil).amt r).1=p at hs hpl ⊢;refine⟨⟨(i+1,m++p),hlt,by simp only [bO]; omega,?_⟩,by show _ - (i+1)<_; omega,?_,?_,by kernel_rfl,aI _⟩
     ·rw [hs];cases jy r (u.drop (i+1)) with
      | error e=>rfl
      | ok l=>simp [zws,List.append_assoc]
     ·simp [SFl]
     ·refine⟨by simp [Con.zg,Con.qN,Ex.exS,Con.dayS,Con.conS,za],by simp,by simp,by simp [za],⟨rfl,rfl,za _ _ _⟩,⟨by simp,rfl,?_⟩,trivial⟩;intro j k hj hk;have:=xx (o:=m) (a:=p) rfl rfl j k hj hk;show _=flG (m++p) j k;rw [<- this];simp only [appG,zi,Nat.zero_add]
  ·have hge:i=u.length:=by have:=aC hge; omega
   subst hge;rw [List.drop_length,jy] at hs;have hs:jy r u = .ok m:=by rw [hs]; show Except.ok (m++[])=_; rw [List.append_nil]
   exact RetR.zen (Q:=upQ Q) [5] rfl (by simp [HFl]) (by simp) rfl (.inl (hQ m (by rw [hfl,hs]))) (LeA.refl _) ⟨LeB.refl _,trivial⟩
theorem zar{n:Nat}{Xp:List PanicEntry->Prop}(ih:z8 Xp prog 85 (flC FI.G n Xp)):z8 Xp prog 85 (flC FI.G (n+1) Xp):=by
 refine zjk (fn:=f85) (c:=f85.body.getD .skip) rfl rfl rfl λp hp O w0 I0 Q hl0 hq=> ?_
 obtain⟨c,day,fin,f,h⟩:=p;obtain⟨h1,h2,h3⟩:=hp;simp only at h1 h2 h3 hq;refine zc.runX hmix (zng ih) [13,14,50,51,52] 400 (T:=let v31:=[AV.i day,AV.ptr 0 0,AV.ptr 1 0];let v30:List AV:=[.sl f.length 3 (fxG f),.sl h.length 4 (chG h)];let v28:List AV:=[.i day];let v27:=[AV.i fin];let v20:List AV:=[.i fin];let v18:=[AV.bool false,AV.ptr 0 0,AV.ptr 1 0,AV.ptr 2 0,AV.ptr 3 0];let v17:=[AV.i day];let v11:=[AV.ptr 0 0,AV.ptr 1 0,AV.ptr 2 0];let v10:=[AV.ptr 0 0,AV.ptr 1 0];let v9:=Con.conD (List.getD c.sub 0 Con.nil);let v3:qe:=.ret [.nils] [.box c.zg,.box v28,.box v20,.box v30];let v1:=[AV.sl f.length 3 (fxG f),AV.sl h.length 4 (chG h)];let v33:List Blk:=[.box c.zg,.box v1];.D (fin<=day) (.leaf v3) (.D (Con.kind c=2) (.ex (λ(x:FI)=>eqL v11 v11/\eqH [.box c.zg,.box v17,.box v1] [.box x.c.zg,.box [.i x.day],.box [.sl x.f.length 3 (fxG x.f),.sl x.h.length 4 (chG x.h)]]/\3=3/\VI.ok { x:=Con.x x.c,day:=FI.day x,f:=FI.f x,c:=FI.h x } /\ qC Xp (valM (Con.x x.c) x.day x.f x.h)) λn=>let v26:=valM (Con.x n.c) n.day n.f n.h;.ite (okM v26) (.side (Con.name n.c=Con.name c) (.side (Con.dst n.c=Con.dst c) (.side (Con.src n.c=Con.src c) (.side (FI.day n=day) (.ex (q59 [.i day,.str c.src,.str c.dst,.str c.name,.str (getM [] v26)]) λn_1=>let v6:=payF n_1.date n_1.src n_1.dst n_1.ccy n_1.amt;.A λn_2=>.R [.osl 4 5 0 (List.length v6)] [.box n.c.zg,.box [.i n.day],.box v20,.box [.sl n.f.length 3 (fxG n.f),.sl n.h.length 4 (chG n.h)],.arr (List.length v6) 5 (flG v6)]))))) (.leaf qe.gone)) (.D (Con.kind c=3) (.ex (λ(x:FI×Bool)=>let v21:=FI.kid x.1 (Bool.toNat x.2);eqL v18 [.bool x.2,.ptr 0 0,.ptr 1 0,.ptr 2 0,.ptr 3 0]/\eqH [.box c.zg,.box v17,.box v27,.box v1] [.box x.1.c.zg,.box [.i x.1.day],.box [.i x.1.fin],.box [.sl x.1.f.length 3 (fxG x.1.f),.sl x.1.h.length 4 (chG x.1.h)]]/\4=4/\Bool.toNat x.2<List.length (Con.sub x.1.c)/\FI.G v21/\Con.nodes v21.c<n/\qC Xp v21.val) λn_1=>let v29:=FI.val (FI.kid n_1.1 (Bool.toNat n_1.2));let v2:=getM [] v29;.ite (okM v29) (.ex (λ(x:FI×Bool)=>let v22:=FI.kid x.1 (Bool.toNat x.2);eqL [.bool true,.ptr 0 0,.ptr 1 0,.ptr 2 0,.ptr 3 0] [.bool x.2,.ptr 0 0,.ptr 1 0,.ptr 2 0,.ptr 3 0]/\eqH [.box n_1.1.c.zg,.box [.i n_1.1.day],.box [.i n_1.1.fin],.box [.sl n_1.1.f.length 3 (fxG n_1.1.f),.sl n_1.1.h.length 4 (chG n_1.1.h)]] [.box x.1.c.zg,.box [.i x.1.day],.box [.i x.1.fin],.box [.sl x.1.f.length 3 (fxG x.1.f),.sl x.1.h.length 4 (chG x.1.h)]]/\4=4/\Bool.toNat x.2<List.length (Con.sub x.1.c)/\FI.G v22/\Con.nodes v22.c<n/\qC Xp v22.val) λn=>let v32:=FI.val (FI.kid n.1 (Bool.toNat n.2));let v4:=getM [] v32;let v15:=List.length v2 +List.length v4;.ite (okM v32) (.side (0=0/\List.length v2 <=List.length v2/\v15 *72<=140737488355328) (.R [.osl 4 5 0 v15] [.box n.1.c.zg,.box [.i n.1.day],.box [.i n.1.fin],.box [.sl n.1.f.length 3 (fxG n.1.f),.sl n.1.h.length 4 (chG n.1.h)],.arr v15 5 (appG (List.length v2) (flG v2) (zi (flG v4) 0)),.arr (List.length v4) 5 (flG v4)])) (.leaf qe.gone)) (.leaf qe.gone)) (.D (Con.kind c=4) (.ex (λ(x:FI)=>eqL v11 v11/\eqH [.box c.zg,.box v17,.box v1] [.box x.c.zg,.box [.i x.day],.box [.sl x.f.length 3 (fxG x.f),.sl x.h.length 4 (chG x.h)]]/\3=3/\VI.ok { x:=Con.x x.c,day:=FI.day x,f:=FI.f x,c:=FI.h x } /\ qC Xp (valM (Con.x x.c) x.day x.f x.h)) λn_1=>let v16:=valM (Con.x n_1.c) n_1.day n_1.f n_1.h;.ite (okM v16) (.ex (λ(x:FI×Bool)=>let v23:=FI.kid x.1 (Bool.toNat x.2);eqL v18 [.bool x.2,.ptr 0 0,.ptr 1 0,.ptr 2 0,.ptr 3 0]/\eqH [.box n_1.c.zg,.box [.i n_1.day],.box v27,.box [.sl n_1.f.length 3 (fxG n_1.f),.sl n_1.h.length 4 (chG n_1.h)]] [.box x.1.c.zg,.box [.i x.1.day],.box [.i x.1.fin],.box [.sl x.1.f.length 3 (fxG x.1.f),.sl x.1.h.length 4 (chG x.1.h)]]/\4=4/\Bool.toNat x.2<List.length (Con.sub x.1.c)/\FI.G v23/\Con.nodes v23.c<n/\qC Xp v23.val) λn=>let v5:=FI.val (FI.kid n.1 (Bool.toNat n.2));let v38:=getM [] v5;.ite (okM v5) (.leaf (.loop (lps K85 0).1 (lps K85 0).2 [(13,.str (getM [] v16)),(14,.nils),(50,.osl 4 5 0 (List.length v38)),(51,.int .i64 ↑(List.length v38)),(52,.i 0)] [.box n.1.c.zg,.box [.i n.1.day],.box [.i n.1.fin],.box [.sl n.1.f.length 3 (fxG n.1.f),.sl n.1.h.length 4 (chG n.1.h)],.arr (List.length v38) 5 (flG v38)])) (.leaf qe.gone)) (.leaf qe.gone)) (.D (Con.kind c=5) (.ex (λ(x:FI×Int)=>eqL v31 [.i x.2,.ptr 0 0,.ptr 1 0]/\eqH v33 [.box x.1.c.zg,.box [.sl x.1.f.length 3 (fxG x.1.f),.sl x.1.h.length 4 (chG x.1.h)]]/\2=2/\VI.ok { x:=Con.x x.1.c,day:=x.2,f:=FI.f x.1,c:=FI.h x.1 } /\ qC Xp (holM (Con.x x.1.c) x.2 x.1.f x.1.h)) λn_1=>let v19:=holM (Con.x n_1.1.c) n_1.2 n_1.1.f n_1.1.h;.ite (okM v19) (.ex (λ(x:FI×Bool)=>let v24:=FI.kid x.1 (Bool.toNat x.2);eqL [.bool !getM false v19,.ptr 0 0,.ptr 1 0,.ptr 2 0,.ptr 3 0] [.bool x.2,.ptr 0 0,.ptr 1 0,.ptr 2 0,.ptr 3 0]/\eqH [.box n_1.1.c.zg,.box v17,.box v27,.box [.sl n_1.1.f.length 3 (fxG n_1.1.f),.sl n_1.1.h.length 4 (chG n_1.1.h)]] [.box x.1.c.zg,.box [.i x.1.day],.box [.i x.1.fin],.box [.sl x.1.f.length 3 (fxG x.1.f),.sl x.1.h.length 4 (chG x.1.h)]]/\4=4/\Bool.toNat x.2<List.length (Con.sub x.1.c)/\FI.G v24/\Con.nodes v24.c<n/\qC Xp v24.val) λn=>let v7:=FI.val (FI.kid n.1 (Bool.toNat n.2));.ite (okM v7) (.R [.osl 4 5 0 (List.length (getM [] v7))] [.box n.1.c.zg,.box [.i n.1.day],.box [.i n.1.fin],.box [.sl n.1.f.length 3 (fxG n.1.f),.sl n.1.h.length 4 (chG n.1.h)],.arr (List.length (getM [] v7)) 5 (flG (getM [] v7))]) (.leaf qe.gone)) (.leaf qe.gone)) (.D (Con.kind c=7) (.ex (q58 v31 [.box v1,.box c.zg]) λn_1=>.A λn_2=>.ex (λ(x:FI×Bool)=>let v25:=FI.kid x.1 (Bool.toNat x.2);eqL [.bool !qn n_1.1.h (Con.src n_1.1.c) (Con.name n_1.1.c) n_1.2,.ptr 0 0,.ptr 1 0,.ptr 2 0,.ptr 3 0] [.bool x.2,.ptr 0 0,.ptr 1 0,.ptr 2 0,.ptr 3 0]/\eqH [.box n_1.1.c.zg,.box v17,.box v27,.box [.sl n_1.1.f.length 3 (fxG n_1.1.f),.sl n_1.1.h.length 4 (chG n_1.1.h)]] [.box x.1.c.zg,.box [.i x.1.day],.box [.i x.1.fin],.box [.sl x.1.f.length 3 (fxG x.1.f),.sl x.1.h.length 4 (chG x.1.h)]]/\4=4/\Bool.toNat x.2<List.length (Con.sub x.1.c)/\FI.G v25/\Con.nodes v25.c<n/\qC Xp v25.val) λn=>let v8:=FI.val (FI.kid n.1 (Bool.toNat n.2));.ite (okM v8) (.R [.osl 4 5 0 (List.length (getM [] v8))] [.box n.1.c.zg,.box [.i n.1.day],.box [.i n.1.fin],.box [.sl n.1.f.length 3 (fxG n.1.f),.sl n.1.h.length 4 (chG n.1.h)],.arr (List.length (getM [] v8)) 5 (flG (getM [] v8))]) (.leaf qe.gone)) (.D (Con.kind c=6) (.D (day<=Con.date c) (.side ((0:Int)<=0/\(0:Int)<(c.sub.length:Int)) (.ex (λ(x:FI)=>eqL [v9,.i c.date,.i fin,.agg v1] [(Con.conA x.c),.i x.day,.i x.fin,.agg [.sl x.f.length 3 (fxG x.f),.sl x.h.length 4 (chG x.h)]]/\eqH [] []/\0=0/\FI.G x/\Con.nodes x.c<n/\qC Xp x.val) λn=>let v34:=getM [] n.val;.ite (okM n.val) (.R [.osl 4 5 0 (List.length v34)] [.box c.zg,.box v28,.box v20,.box v30,.arr (List.length v34) 5 (flG v34)]) (.leaf qe.gone))) (.leaf v3)) (.D (Con.kind c=8) (.side ((0:Int)<=0/\(0:Int)<(c.sub.length:Int)) (.ex (λ(x:FI)=>eqL [(Con.conA c),.i day,.i fin,.fn 116 [] v10] [(Con.conA x.c),.i x.day,.i x.fin,.fn 116 [] v10]/\eqH [.box v1,.box c.zg] [.box [.sl x.f.length 3 (fxG x.f),.sl x.h.length 4 (chG x.h)],.box x.c.zg]/\2=2/\List.length x.h<1099511627776/\List.length (Con.days x.c)<1099511627776/\qC Xp (firstM (choT x) x.day x.fin (Con.days x.c))) λn_1=>let v12:=firstM (choT n_1) n_1.day n_1.fin (Con.days n_1.c);.ite (okM v12) (.side ((List.length n_1.f=f.length/\3=3/\fxG n_1.f=fxG f)/\(List.length n_1.h=h.length/\4=4/\chG n_1.h=chG h)/\True) (.side (List.length (Con.sub n_1.c)=List.length c.sub/\12=12/\Con.conG (Con.sub n_1.c)=Con.conG c.sub) (.ex (λ(x:FI)=>eqL [v9,.i (getM (0:Int) v12),.i fin,.agg v1] [(Con.conA x.c),.i x.day,.i x.fin,.agg [.sl x.f.length 3 (fxG x.f),.sl x.h.length 4 (chG x.h)]]/\eqH [] []/\0=0/\FI.G x/\Con.nodes x.c<n/\qC Xp x.val) λn=>let v35:=getM [] n.val;.ite (okM n.val) (.R [.osl 4 5 0 (List.length v35)] [.box n_1.c.zg,.box v28,.box v20,.box [.sl n_1.f.length 3 (fxG n_1.f),.sl n_1.h.length 4 (chG n_1.h)],.arr (List.length v35) 5 (flG v35)]) (.leaf qe.gone)))) (.leaf qe.gone))) (.D (Con.kind c=9) (.side ((0:Int)<=0/\(0:Int)<(c.sub.length:Int)) (.ex (λ(x:FI)=>eqL [(Con.conA c),.i day,.i fin,.fn 118 [] v10] [(Con.conA x.c),.i x.day,.i x.fin,.fn 118 [] v10]/\eqH v33 [.box x.c.zg,.box [.sl x.f.length 3 (fxG x.f),.sl x.h.length 4 (chG x.h)]]/\2=2/\(∀ (d:Int),VI.ok { x:=Con.x x.c,day:=d,f:=FI.f x,c:=FI.h x })/\List.length (Con.days x.c)<1099511627776/\qC Xp (firstM (holT x) x.day x.fin (Con.days x.c))) λn_1=>let v13:=firstM (holT n_1) n_1.day n_1.fin (Con.days n_1.c);.ite (okM v13) (.side ((List.length n_1.f=f.length/\3=3/\fxG n_1.f=fxG f)/\(List.length n_1.h=h.length/\4=4/\chG n_1.h=chG h)/\True) (.side (List.length (Con.sub n_1.c)=List.length c.sub/\12=12/\Con.conG (Con.sub n_1.c)=Con.conG c.sub) (.ex (λ(x:FI)=>eqL [v9,.i day,.i (getM (0:Int) v13),.agg v1] [(Con.conA x.c),.i x.day,.i x.fin,.agg [.sl x.f.length 3 (fxG x.f),.sl x.h.length 4 (chG x.h)]]/\eqH [] []/\0=0/\FI.G x/\Con.nodes x.c<n/\qC Xp x.val) λn=>let v36:=getM [] n.val;.ite (okM n.val) (.R [.osl 4 5 0 (List.length v36)] [.box n_1.c.zg,.box v28,.box v20,.box [.sl n_1.f.length 3 (fxG n_1.f),.sl n_1.h.length 4 (chG n_1.h)],.arr (List.length v36) 5 (flG v36)]) (.leaf qe.gone)))) (.leaf qe.gone))) (.D (Con.kind c=10) (.side ((0:Int)<=0/\(0:Int)<(c.sub.length:Int)) (.ex (λ(x:FI)=>eqL [(Con.conA c),.i day,.i fin,.fn 118 [] v10] [(Con.conA x.c),.i x.day,.i x.fin,.fn 118 [] v10]/\eqH v33 [.box x.c.zg,.box [.sl x.f.length 3 (fxG x.f),.sl x.h.length 4 (chG x.h)]]/\2=2/\(∀ (d:Int),VI.ok { x:=Con.x x.c,day:=d,f:=FI.f x,c:=FI.h x })/\List.length (Con.days x.c)<1099511627776/\qC Xp (firstM (holT x) x.day x.fin (Con.days x.c))) λn_1=>let v14:=firstM (holT n_1) n_1.day n_1.fin (Con.days n_1.c);.ite (okM v14) (.side ((List.length n_1.f=f.length/\3=3/\fxG n_1.f=fxG f)/\(List.length n_1.h=h.length/\4=4/\chG n_1.h=chG h)/\True) (.side (List.length (Con.sub n_1.c)=List.length c.sub/\12=12/\Con.conG (Con.sub n_1.c)=Con.conG c.sub) (.ex (λ(x:FI)=>eqL [v9,.i (getM (0:Int) v14),.i fin,.agg v1] [(Con.conA x.c),.i x.day,.i x.fin,.agg [.sl x.f.length 3 (fxG x.f),.sl x.h.length 4 (chG x.h)]]/\eqH [] []/\0=0/\FI.G x/\Con.nodes x.c<n/\qC Xp x.val) λn=>let v37:=getM [] n.val;.ite (okM n.val) (.R [.osl 4 5 0 (List.length v37)] [.box n_1.c.zg,.box v28,.box v20,.box [.sl n_1.f.length 3 (fxG n_1.f),.sl n_1.h.length 4 (chG n_1.h)],.arr (List.length v37) 5 (flG v37)]) (.leaf qe.gone)))) (.leaf qe.gone))) (.leaf v3))))))))))) (by kernel_rfl) ?_;simp only [q58,q59,Tree.holds,zf,inR,lo,hi,aD];obtain⟨g1,g2,g3,g4⟩:=h1;simp only at g1 g2 g3 g4;have hv:FI.val ⟨c,day,fin,f,h⟩=flM f h c day fin:=rfl;rw [hv] at h3
 have hQ:∀ l,flM f h c day fin = .ok l->Q (.osl 0 5 0 l.length,[.arr l.length 5 (flG l)]):=by
  intro l hl;have:=hq (by rw [hv,hl]; rfl);rw [hv,hl] at this;exact this
 clear hq
 have ret:∀ (l:List Fl) (m:Nat) (g:Nat->Nat->AV) (b0 b1 b2 b3:Blk) (rest:Heap),flM f h c day fin = .ok l->m=l.length->eqG m 5 g (flG l)->RetR (flC FI.G (n+1) Xp) 0 (upQ Q) [.osl 4 5 0 m] (b0::b1::b2::b3::.arr m 5 g::rest):=by
  intro l m g b0 b1 b2 b3 rest hl hm hg;subst hm;exact RetR.zen (Q:=upQ Q) [4] rfl (by simp) (by simp) rfl (.inl (hQ l hl)) (LeA.refl _) ⟨LeB.arr λj o hj ho=>by rw [hg j o hj ho]; exact LeA.refl _,trivial⟩
 have nil:∀ hs:Heap,flM f h c day fin = .ok []->RetR (flC FI.G (n+1) Xp) 0 (upQ Q) [.nils] hs:=by
  intro hs hl;exact RetR.le0 (Q:=upQ Q) (r:=.nils) (.inr ⟨.osl 0 5 0 0,[(5,flG [])],⟨⟨aJ _,Nat.zero_lt_one⟩,rfl,rfl⟩,hQ [] hl⟩) (λh=>by cases h) (LeA.refl _)
 have hbig:=Con.Za c;have hnod:=Con.kg c;have hform:=g1;rw [Con.zr3,bA] at hform;obtain⟨hnb,hfs⟩:=hform
 have kidG:∀ (i:Nat) (d e:Int),i<c.sub.length->FI.G ⟨c.sub.getD i Con.nil,d,e,f,h⟩/\(c.sub.getD i Con.nil).nodes<n:=by
  intro i d e hi;have k1:=Con.vf hi;have k2:=Con.WG hi;refine⟨⟨?_,by show(c.sub.getD i Con.nil).big<_; omega,by show(c.sub.getD i Con.nil).nodes<_; omega,g4⟩,by omega⟩;cases hf:(c.sub.getD i Con.nil).form with
  | true=>rfl
  | false=>rw [Con.Xj c.sub i hi hf] at hfs; cases hfs
 have okx:∀ d,VI.ok ⟨c.x,d,f,h⟩:=λd=>⟨by show c.x.size<_; omega,by show c.x.zQ<_; omega,g4⟩
 have hhl:h.length<2^40:=g4.2.1;have hdl:c.days.length<2^40:=by omega
 have eC:eqH (FI.mk c day fin f h).hC (FI.mk c day fin f h).hC:=by simp [FI.hC,Con.zg,Con.qN,fxS,chS,Ex.exS,Con.dayS,Con.conS,za]
 have eT:eqH (FI.mk c day fin f h).hH (FI.mk c day fin f h).hH:=by simp [FI.hH,Con.zg,Con.qN,fxS,chS,Ex.exS,Con.dayS,Con.conS,za]
 have eV:eqH (FI.mk c day fin f h).hV (FI.mk c day fin f h).hV:=by simp [FI.hV,Con.zg,Con.qN,fxS,chS,Ex.exS,Con.dayS,Con.conS,za]
 have eH:eqH (FI.mk c day fin f h).heap (FI.mk c day fin f h).heap:=by simp [FI.heap,Con.zg,Con.qN,fxS,chS,Ex.exS,Con.dayS,Con.conS,za]
 have eA:eqA (envA f h) (envA f h):=⟨⟨rfl,rfl,λ_ _ _ _=>rfl⟩,⟨rfl,rfl,λ_ _ _ _=>rfl⟩,trivial⟩;have hst:=h3;refine⟨λh0=> ?_,λh0=> ?_⟩
 ·refine nil _ ?_;rw [yr,aP (aB h0)]
 have h0:=aC h0;have hfl:=yr f h c day fin;rw [aO h0] at hfl;refine⟨λhk=> ?_,λnk2=>⟨λhk=> ?_,λnk3=>⟨λhk=> ?_,λnk4=>⟨λhk=> ?_,λnk5=>⟨λhk=> ?_,λnk7=>⟨λhk=> ?_,λnk6=>⟨λhk=> ?_,λnk8=>⟨λhk=> ?_,λnk9=>⟨λhk=> ?_,λnk10=> ?_⟩⟩⟩⟩⟩⟩⟩⟩⟩
 ·have hk:=aB hk;simp only [hk,Int.reduceEq,if_true,if_false,reduceIte] at hfl;rw [hfl] at h3;refine⟨⟨c,day,fin,f,h⟩,⟨by simp,eV,trivial,okx _,(jE h3).1⟩,λho=>⟨rfl,λ_=>⟨rfl,λ_=>⟨rfl,λ_=>⟨rfl,λ_=> ?_⟩⟩⟩⟩,λ_=>trivial⟩;have hr:valM c.x day f h = .ok (getM [] (valM c.x day f h)):=qX ho;have hr2:=J2 hr;refine⟨⟨day,c.src,c.dst,c.name,getM [] (valM c.x day f h)⟩,⟨by simp,(xe hr2).2.2,?_⟩,⟨(),trivial⟩,λ_ _=> ?_⟩
  ·show List.length (getM [] (valM c.x day f h))<_;have:=wx hr2;omega
  ·refine ret (payF day c.src c.dst c.name (getM [] (valM c.x day f h))) _ _ _ _ _ _ _ ?_ rfl (za _ _ _);rw [hfl,hr];rfl
 ·have hk:=aB hk;simp only [hk,kK] at hnb;have hl:c.sub.length=2:=by simp at hnb; omega
  simp only [hk,Int.reduceEq,if_true,if_false,reduceIte] at hfl;rw [hfl] at h3;obtain⟨s1,s2⟩:=jE h3;refine⟨(⟨c,day,fin,f,h⟩,false),⟨by simp,eH,trivial,by show 0<c.sub.length; omega,(kidG 0 _ _ (by omega)).1,(kidG 0 day fin (by omega)).2,s1⟩,λho=> ?_,λ_=>trivial⟩;have hr:flM f h (c.sub.getD 0 Con.nil) day fin = .ok (getM [] (flM f h (c.sub.getD 0 Con.nil) day fin)):=qX ho;obtain⟨s3,s4⟩:=jE (s2 _ hr);refine⟨(⟨c,day,fin,f,h⟩,true),⟨by simp,eH,trivial,by show 1<c.sub.length; omega,(kidG 1 _ _ (by omega)).1,(kidG 1 day fin (by omega)).2,s3⟩,λho2=> ?_,λ_=>trivial⟩;have hr2:flM f h (c.sub.getD 1 Con.nil) day fin = .ok (getM [] (flM f h (c.sub.getD 1 Con.nil) day fin)):=qX ho2;have l1:=(XZ _ hr).1;have l2:=(XZ _ hr2).1;have n1:(c.sub.getD 0 Con.nil).nodes<2^20:=(kidG 0 day fin (by omega)).1.2.2.1;have n2:(c.sub.getD 1 Con.nil).nodes<2^20:=(kidG 1 day fin (by omega)).1.2.2.1;refine⟨⟨trivial,aJ _,?_⟩,λ_=> ?_⟩
  ·show((getM [] (flM f h (c.sub.getD 0 Con.nil) day fin)).length+(getM [] (flM f h (c.sub.getD 1 Con.nil) day fin)).length)*72<=_;omega
  ·refine ret (getM [] (flM f h (c.sub.getD 0 Con.nil) day fin)++getM [] (flM f h (c.sub.getD 1 Con.nil) day fin)) _ _ _ _ _ _ _ ?_ (by rw [bO]; rfl) ?_
   ·rw [hfl,hr,hr2]; rfl
   ·intro j k hj hk;show appG (getM [] (flM f h (c.sub.getD 0 Con.nil) day fin)).length (flG (getM [] (flM f h (c.sub.getD 0 Con.nil) day fin))) (zi (flG (getM [] (flM f h (c.sub.getD 1 Con.nil) day fin))) 0) j k=_;have:=xx (o:=getM [] (flM f h (c.sub.getD 0 Con.nil) day fin)) (a:=getM [] (flM f h (c.sub.getD 1 Con.nil) day fin)) rfl rfl j k hj hk;rw [<- this];simp only [appG,zi,Nat.zero_add]
 ·have hk:=aB hk;simp only [hk,kK] at hnb;have hl:c.sub.length=1:=by simp at hnb; omega
  simp only [hk,Int.reduceEq,if_true,if_false,reduceIte] at hfl;rw [hfl] at h3;obtain⟨s1,s2⟩:=jE h3;refine⟨⟨c,day,fin,f,h⟩,⟨by simp,eV,trivial,okx _,s1⟩,λho=> ?_,λ_=>trivial⟩;have hr:valM c.x day f h = .ok (getM [] (valM c.x day f h)):=qX ho;obtain⟨s3,s4⟩:=jE (s2 _ hr);refine⟨(⟨c,day,fin,f,h⟩,false),⟨by simp,eH,trivial,by show 0<c.sub.length; omega,(kidG 0 _ _ (by omega)).1,(kidG 0 day fin (by omega)).2,s3⟩,λho2=> ?_,λ_=>trivial⟩;have hr2:flM f h (c.sub.getD 0 Con.nil) day fin = .ok (getM [] (flM f h (c.sub.getD 0 Con.nil) day fin)):=qX ho2;have s5:=s4 _ hr2;have n1:(c.sub.getD 0 Con.nil).nodes<2^20:=(kidG 0 day fin (by omega)).1.2.2.1;obtain⟨l1,l2⟩:=XZ _ hr2;have hr3:=J2 hr;rw [hr,hr2] at hfl;show zH Xp none prog f85 O 0 w0 I0 (λ_ _ _=>False) (RetR (flC FI.G (n+1) Xp) 0 (upQ Q)) (.code (.loop (lps K85 0).1)::(lps K85 0).2) (mk f85.ntmps [(13,.str (getM [] (valM c.x day f h))),(14,.nils),(50,.osl 4 5 0 (getM [] (flM f h (c.sub.getD 0 Con.nil) day fin)).length),(51,.i ((getM [] (flM f h (c.sub.getD 0 Con.nil) day fin)).length:Int)),(52,.i 0)] [.box c.zg,.box [.i day],.box [.i fin],.box [.sl f.length 3 (fxG f),.sl h.length 4 (chG h)],.arr (getM [] (flM f h (c.sub.getD 0 Con.nil) day fin)).length 5 (flG (getM [] (flM f h (c.sub.getD 0 Con.nil) day fin)))]);change flM f h c day fin=jy (getM [] (valM c.x day f h)) (getM [] (flM f h (c.sub.getD 0 Con.nil) day fin)) at hfl;generalize getM [] (flM f h (c.sub.getD 0 Con.nil) day fin)=u at hfl s5 l1 l2 ⊢;generalize getM [] (valM c.x day f h)=r at hfl s5 hr3 ⊢;exact zca ih hfl s5 (by omega) l2 hr3 hQ
 ·have hk:=aB hk;simp only [hk,kK] at hnb;have hl:c.sub.length=2:=by simp at hnb; omega
  simp only [hk,Int.reduceEq,if_true,if_false,reduceIte] at hfl;rw [hfl] at h3;obtain⟨s1,s2⟩:=jE h3;refine⟨(⟨c,day,fin,f,h⟩,day),⟨by simp,eT,trivial,okx _,s1⟩,λho=> ?_,λ_=>trivial⟩;have hr:holM c.x day f h = .ok (getM false (holM c.x day f h)):=qX ho;have s3:=s2 _ hr;have eb:(if getM false (holM c.x day f h)=true then 0 else 1)=(!getM false (holM c.x day f h)).toNat:=by cases getM false (holM c.x day f h)<;>rfl
  have hb:(!getM false (holM c.x day f h)).toNat<c.sub.length:=by rw [hl]; cases getM false (holM c.x day f h)<;>decide
  rw [eb] at s3;refine⟨(⟨c,day,fin,f,h⟩,!getM false (holM c.x day f h)),⟨by simp,eH,trivial,hb,(kidG _ _ _ hb).1,(kidG _ day fin hb).2,s3⟩,λho2=> ?_,λ_=>trivial⟩;have hr2:=qX (d:=[]) ho2;refine ret _ _ _ _ _ _ _ _ ?_ rfl (za _ _ _);rw [hfl,hr];show flM f h (c.sub.getD (if getM false (holM c.x day f h)=true then 0 else 1) Con.nil) day fin=_;rw [eb];exact hr2
 ·have hk:=aB hk;simp only [hk,kK] at hnb;have hl:c.sub.length=2:=by simp at hnb; omega
  simp only [hk,Int.reduceEq,if_true,if_false,reduceIte] at hfl;rw [hfl] at h3;refine⟨(⟨c,day,fin,f,h⟩,day),⟨by simp,eC,trivial,hhl⟩,⟨(),trivial⟩,λ_ _=> ?_⟩;have eb:(if qn h c.src c.name day=true then 0 else 1)=(!qn h c.src c.name day).toNat:=by cases qn h c.src c.name day<;>rfl
  have hb:(!qn h c.src c.name day).toNat<c.sub.length:=by rw [hl]; cases qn h c.src c.name day<;>decide
  rw [eb] at h3 hfl;refine⟨(⟨c,day,fin,f,h⟩,!qn h c.src c.name day),⟨by simp,eH,trivial,hb,(kidG _ _ _ hb).1,(kidG _ day fin hb).2,h3⟩,λho2=> ?_,λ_=>trivial⟩;have hr2:=qX (d:=[]) ho2;refine ret _ _ _ _ _ _ _ _ ?_ rfl (za _ _ _);rw [hfl];exact hr2
 ·have hk:=aB hk;simp only [hk,kK] at hnb;have hl:c.sub.length=1:=by simp at hnb; omega
  simp only [hk,Int.reduceEq,if_true,if_false,reduceIte] at hfl;refine⟨λhd=> ?_,λhd=> ?_⟩
  ·rw [aP (aB hd)] at hfl;rw [hfl] at h3;refine⟨⟨by decide,by omega⟩,λ_=>⟨⟨c.sub.getD 0 Con.nil,c.date,fin,f,h⟩,⟨⟨vF _,⟨rfl,rfl⟩,⟨rfl,rfl⟩,eA,trivial⟩,trivial,trivial,(kidG 0 _ _ (by omega)).1,(kidG 0 day fin (by omega)).2,h3⟩,λho2=> ?_,λ_=>trivial⟩⟩;have hr2:=qX (d:=[]) ho2;refine ret _ _ _ _ _ _ _ _ ?_ rfl (za _ _ _);rw [hfl];exact hr2
  ·rw [aO (aC hd)] at hfl;exact nil _ hfl
 ·have hk:=aB hk;simp only [hk,kK] at hnb;have hl:c.sub.length=1:=by simp at hnb; omega
  simp only [hk,Int.reduceEq,if_true,if_false,reduceIte] at hfl;rw [hfl] at h3;obtain⟨s1,s2⟩:=jE h3;refine⟨⟨by decide,by omega⟩,λ_=>⟨⟨c,day,fin,f,h⟩,⟨⟨qZ c,⟨rfl,rfl⟩,⟨rfl,rfl⟩,by simp,trivial⟩,eC,trivial,hhl,hdl,s1⟩,λho=>⟨⟨⟨rfl,trivial,rfl⟩,⟨rfl,trivial,rfl⟩,trivial⟩,λ_=>⟨⟨rfl,trivial,rfl⟩,λ_=> ?_⟩⟩,λ_=>trivial⟩⟩;have hr:=qX (d:=0) ho;refine⟨⟨c.sub.getD 0 Con.nil,getM 0 (firstM (choT ⟨c,day,fin,f,h⟩) day fin c.days),fin,f,h⟩,⟨⟨vF _,⟨rfl,rfl⟩,⟨rfl,rfl⟩,eA,trivial⟩,trivial,trivial,(kidG 0 _ _ (by omega)).1,(kidG 0 day fin (by omega)).2,s2 _ hr⟩,λho2=> ?_,λ_=>trivial⟩;have hr2:=qX (d:=[]) ho2;refine ret _ _ _ _ _ _ _ _ ?_ rfl (za _ _ _);rw [hfl];have hr':firstM (λt=>.ok (qn h c.src c.name t)) day fin c.days = .ok (getM 0 (firstM (choT ⟨c,day,fin,f,h⟩) day fin c.days)):=hr;rw [hr'];exact hr2
 ·have hk:=aB hk;simp only [hk,kK] at hnb;have hl:c.sub.length=1:=by simp at hnb; omega
  simp only [hk,Int.reduceEq,if_true,if_false,reduceIte] at hfl;rw [hfl] at h3;obtain⟨s1,s2⟩:=jE h3;refine⟨⟨by decide,by omega⟩,λ_=>⟨⟨c,day,fin,f,h⟩,⟨⟨qZ c,⟨rfl,rfl⟩,⟨rfl,rfl⟩,by simp,trivial⟩,eT,trivial,okx,hdl,s1⟩,λho=>⟨⟨⟨rfl,trivial,rfl⟩,⟨rfl,trivial,rfl⟩,trivial⟩,λ_=>⟨⟨rfl,trivial,rfl⟩,λ_=> ?_⟩⟩,λ_=>trivial⟩⟩;have hr:=qX (d:=0) ho;refine⟨⟨c.sub.getD 0 Con.nil,day,getM 0 (firstM (holT ⟨c,day,fin,f,h⟩) day fin c.days),f,h⟩,⟨⟨vF _,⟨rfl,rfl⟩,⟨rfl,rfl⟩,eA,trivial⟩,trivial,trivial,(kidG 0 _ _ (by omega)).1,(kidG 0 day fin (by omega)).2,s2 _ hr⟩,λho2=> ?_,λ_=>trivial⟩;have hr2:=qX (d:=[]) ho2;refine ret _ _ _ _ _ _ _ _ ?_ rfl (za _ _ _);rw [hfl];have hr':firstM (λt=>holM c.x t f h) day fin c.days = .ok (getM 0 (firstM (holT ⟨c,day,fin,f,h⟩) day fin c.days)):=hr;rw [hr'];exact hr2
 ·have hk:=aB hk;simp only [hk,kK] at hnb;have hl:c.sub.length=1:=by simp at hnb; omega
  simp only [hk,Int.reduceEq,if_true,if_false,reduceIte] at hfl;rw [hfl] at h3;obtain⟨s1,s2⟩:=jE h3;refine⟨⟨by decide,by omega⟩,λ_=>⟨⟨c,day,fin,f,h⟩,⟨⟨qZ c,⟨rfl,rfl⟩,⟨rfl,rfl⟩,by simp,trivial⟩,eT,trivial,okx,hdl,s1⟩,λho=>⟨⟨⟨rfl,trivial,rfl⟩,⟨rfl,trivial,rfl⟩,trivial⟩,λ_=>⟨⟨rfl,trivial,rfl⟩,λ_=> ?_⟩⟩,λ_=>trivial⟩⟩;have hr:=qX (d:=0) ho;refine⟨⟨c.sub.getD 0 Con.nil,getM 0 (firstM (holT ⟨c,day,fin,f,h⟩) day fin c.days),fin,f,h⟩,⟨⟨vF _,⟨rfl,rfl⟩,⟨rfl,rfl⟩,eA,trivial⟩,trivial,trivial,(kidG 0 _ _ (by omega)).1,(kidG 0 day fin (by omega)).2,s2 _ hr⟩,λho2=> ?_,λ_=>trivial⟩;have hr2:=qX (d:=[]) ho2;refine ret _ _ _ _ _ _ _ _ ?_ rfl (za _ _ _);rw [hfl];have hr':firstM (λt=>holM c.x t f h) day fin c.days = .ok (getM 0 (firstM (holT ⟨c,day,fin,f,h⟩) day fin c.days)):=hr;rw [hr'];exact hr2
 ·refine nil _ ?_;have n2:=aC nk2;have n3:=aC nk3;have n4:=aC nk4;have n5:=aC nk5;have n6:=aC nk6;have n7:=aC nk7;have n8:=aC nk8;have n9:=aC nk9;have n10:=aC nk10;rw [hfl,aO n2,aO n3,aO n4,aO n5,aO n6,aO n7,aO n8,aO n9,aO n10]
theorem zh9(Xp:List PanicEntry->Prop)(n:Nat):z8 Xp prog 85 (flC FI.G n Xp):=by
 induction n with
 | zero=>
  intro args hc Q hq _;obtain⟨x,⟨_,_,_,_,h,_⟩,_⟩:=hq;exact absurd h (Nat.not_lt_zero _)
 | succ n ih=>exact zar ih
def flR(Xp:List PanicEntry->Prop):Ctr:=ctrS (λk:FI=>[k.c.conA,.i k.day,.i k.fin,envA k.f k.h]) (λ_=>[]) (λk=>k.G/\qC Xp k.val) (λk=>okM k.val) (λk=>(flS (getM [] k.val),[]))
theorem zak(Xp:List PanicEntry->Prop):z8 Xp prog 85 (flR Xp):=by
 intro args hc Q hq hf;obtain⟨x,⟨h1,h2,h3,h4,h5⟩,h6⟩:=hq;refine z8.zqt (out':=λk=>flS (getM [] k.val)) (zh9 Xp (x.c.nodes+1)) (λk=>LeA.sl rfl λj o _ _=> ?_) args hc Q ⟨x,⟨h1,h2,h3,h4,Nat.lt_succ_self _,h5⟩,h6⟩ hf;simp only [zi,Nat.zero_add];exact LeA.refl _
end Go.Proofs.Tryz
end
section
namespace Go.Sx
variable [Stat]
section
variable {F:Fence} {n:Nat} {P:Program} {ops:Array Oper} {Q Q':Exit->Act->World->Prop}
end
def Zm(O:Nat->Prop)(w:World)(I0:List SE)(ctr:Ctr)(hc:Heap)(Q:AV×Heap->Prop)(e:Ending)(w':World):Prop:=
 ∃ v',e = .returned v'/\∃ r hs Z',Q (r,hs)/\Rep (λb=>Own O Z' b\/(ctr.fresh=true/\b<w.heap.size)) w' r Z' v' /\
  HRep (λb=>Own O Z' b\/(ctr.fresh=true/\b<w.heap.size)) w' Z' hs/\Good O w' Z'/\hc.length<=hs.length/\Hold (if ctr.vJ=true then(List.range hc.length).drop ctr.pins else []) w I0 w' Z'/\Ext (Mine I0) w (Mine Z') w'
theorem zfs{P:Program}{fn:Func}{ctr:Ctr}{hc:Heap}{Q:AV×Heap->Prop}{O:Nat->Prop}{w:World}{I0:List SE}(hh:I0.length=hc.length)(hfr:ctr.fresh=true->hc=[]) :
  ∀ (st:St) (σ:List SE) (a':Act) (w':World),((resX P st fn.results.toList).holds λrs=>RetR ctr hc.length Q rs st.heap)->Mod O (vS ctr hc) w I0 w' σ st a'->∃ v,(results fn a'.tmps).run P w' = .ok v w'/\Zm O w I0 ctr hc Q (.returned v) w':=by
 intro st σ a' w' hR hm;obtain⟨rs,v,h1,⟨M,h2,h3,h4,h5,r0,hs0,hq1,hq2,hq3,h6⟩,h7⟩:=uS hm hR
 let EM:List SE:=M.map λi=>σ.getD i ⟨none,0⟩
 have hMZ:∀ i∈M,i<σ.length:=λi hi=>by rw [hm.hp.len]; exact h3 i hi
 have hget:∀ j:Nat,EM[j]?=(M[j]?).bind λi=>σ[i]?:=by
  intro j;simp only [EM,aN];cases hj:M[j]? with
  | none=>rfl
  | some i=>
   have:=hMZ i (aY hj);simp [this]
 have hnewO:ctr.fresh=true->∀ b,Mine σ b->w.heap.size<=b:=by
  intro hf b hb;have h0:=hfr hf;have hZ0:I0=[]:=by have:=hh; rw [h0] at this; exact aU.1 (by simpa using this)
  obtain⟨i,e,ad,g1,g2,g3⟩:=z7.1 hb;rcases hm.since.ext.grow b (.inr hb) with hx | hx
  ·rcases hx with hx | ⟨e',he',_⟩
   ·exact absurd (g3▸hx) (hm.good.dis i e ad g1 g2)
   ·rw [hZ0] at he'; simp at he'
  ·exact hx
 have X:Exp O w' σ st.heap M EM (λb=>Own O EM b\/(ctr.fresh=true/\b<w.heap.size)):=⟨hm.good,hm.hp,h2,h3,hget,λb hb=>by
  rcases hb with hb | ⟨hf,hb⟩
  ·exact .inl hb
  ·exact .inr λhmn=>by have:=hnewO hf b hmn; omega⟩
 have hor:∀ {p:Prop},(ctr.fresh=true->p)->(∀ b,(Own O EM b\/(ctr.fresh=true/\b<w.heap.size))->Own O σ b)\/p:=by
  intro p hp;cases hf:ctr.fresh with
  | true=>exact .inr (hp hf)
  | false=>
   left;rintro b (hb | ⟨hf',_⟩)
   ·exact X.sub hb
   ·cases hf'
 have hmlen:hc.length<=M.length:=by
  rcases aR M.length hc.length with hlt | hge
  ·have:=h4 M.length hlt;simp at this
  ·exact hge
 refine⟨v,h1,v,rfl,r0,hs0,EM,h6,hq1 _ _ _ _ (Zv X (hor λhf=>(h5 hf).1) h7),⟨?_,?_,?_,?_⟩,⟨?_,?_,hm.good.stat.own λb hb=>hb.imp id λ⟨e,he,ad,h1,h2⟩=>by
  obtain⟨j,hj⟩:=List.mem_iff_getElem?.1 he;obtain⟨i,_,g2⟩:=X.get' hj;exact⟨e,aY g2,ad,h1,h2⟩⟩,by omega,?_,?_⟩
 ·simp [EM,hq3]
 ·intro i j e f a b he hf ha hb' hij;obtain⟨i',g1,g2⟩:=X.get' he;obtain⟨j',g3,g4⟩:=X.get' hf;refine hm.hp.inj i' j' e f a b g2 g4 ha hb' ?_;rintro rfl;have g5:=wF h2 g1;have g6:=wF h2 g3;rw [g5] at g6; cases g6; exact hij rfl
 ·intro i e a he ha;obtain⟨i',g1,g2⟩:=X.get' he;exact hm.hp.lt i' e a g2 ha
 ·intro j e b he hb';obtain⟨i,g1,g2⟩:=X.get' he;have hb2:(expH st.heap M)[j]?=some (expB st.heap M (st.heap.getD i .dead)):=by simp only [expH,aN,g1,Option.map_some]
  refine(hq2.elim (λhq2=>LeB.of_eq (uh hq2 hb2 hb')) λhq2=>Wz hq2 hb2 hb') _ _ _ _ ?_;have hlt:=h3 i (aY g1);have hgd:st.heap.getD i .dead=st.heap[i]:=by simp [hlt]
  have hbr:=hm.hp.blk i e _ g2 (aF hlt);rw [<- hgd] at hbr;exact VA X (hor λhf=>(h5 hf).2 i (aY g1)) hbr
 ·exact hm.good.old
 ·intro i e ad he had;obtain⟨i',g1,g2⟩:=X.get' he;exact hm.good.dis i' e ad g2 had
 ·cases hmv:ctr.vJ with
  | true=>
   intro i e he hi;have hlt:=(aG.1 he).1;rw [hh] at hlt
   have hip:i<ctr.pins:=by
    refine bM λg=>hi ?_
    rw [aP rfl];refine List.mem_iff_getElem?.2 ⟨i - ctr.pins,?_⟩;rw [List.getElem?_drop,show ctr.pins+(i - ctr.pins)=i by omega];exact List.getElem?_range hlt
   obtain⟨g1,g2⟩:=hm.since.hold i e (by simpa [vS,hmv] using hip) he;exact⟨by rw [hget,h4 i hlt]; exact g1,g2⟩
  | false=>
   intro i e he _;have hlt:=(aG.1 he).1;rw [hh] at hlt;obtain⟨g1,g2⟩:=hm.since.hold i e (by simpa [vS,hmv] using hlt) he;exact⟨by rw [hget,h4 i hlt]; exact g1,g2⟩
 ·refine⟨hm.since.ext.os,hm.since.ext.tape,hm.since.ext.output,hm.since.ext.size,λb hb' hno=> ?_,λb hb'=> ?_⟩
  ·by_cases hOb:O b
   ·exact hm.since.wi b hOb hb'
   ·exact hm.since.ext.keep b hb' (λhx=>by rcases hx with hx | hx; exact hOb hx; exact hno hx)
  ·rcases X.sub (.inr hb') with hx | hx
   ·obtain⟨j,e,ad,g1,g2,g3⟩:=z7.1 hb';obtain⟨i,_,g4⟩:=X.get' g1;exact absurd (g3▸hx) (hm.good.dis i e ad g4 g2)
   ·obtain⟨i,e,ad,g1,g2,g3⟩:=z7.1 hx;rcases hm.since.ext.grow b (.inr hx) with hy | hy
    ·rcases hy with hy | hy
     ·exact absurd (g3▸hy) (hm.good.dis i e ad g1 g2)
     ·exact .inl hy
    ·exact .inr hy
theorem wh{M:Option Nat}{P:Program}{H:Nat->Act->World->Prop}{B B':Exit->Act->World->Prop}(hB:∀ e a w,B e a w->B' e a w):∀ {k:List Item} {e:Exit} {a:Act} {w:World},wpK M P H B k e a w->wpK M P H B' k e a w
 | [],e,a,w,h=>hB _ _ _ h
 | .code c::k,e,a,w,h=>by
  cases e with
  | normal=>exact wpIn_mono h λe a w h=>wh hB h
  | _=>exact wh (k:=k) hB h
 | .inBlock id::k,e,a,w,h=>by
  cases e with
  | normal=>exact wh (k:=k) hB h
  | exit i=>
   simp only [wpK] at h ⊢;split at h
   ·rename_i hi; rw [aP hi]; exact wh hB h
   ·rename_i hi; rw [aO hi]; exact wh hB h
  | _=>exact wh (k:=k) hB h
 | .inLoop::k,e,a,w,h=>by
  cases e with
  | normal=>exact h
  | _=>exact wh (k:=k) hB h
theorem door{P:Program}{fn:Func}{g:Nat}{c:Code}{ctr:Ctr}(hf:P.funcs[g]?=some fn)(hb:fn.body=some c) (hn:(fn.name == "runtime.NumGoroutine")=false)
  {args:List AV} {hc:Heap} {Q:AV×Heap->Prop} (hfr:ctr.fresh=true->hc=[]) {ι:Type} (S:ι->KV) (H:ι->Heap) (n m:Nat) (hfl:((jM n c).take m).all Jc=true) (hd:jz ((jM n c).drop m)=0)
  (h1:∀ (O:Nat->Prop) (w0:World) (I0:List SE),I0.length=hc.length->zc P fn O (vS ctr hc) w0 I0 (λ_ kv h=>∃ x,LeK (vS ctr hc) fn.ntmps kv h (S x) (H x)) (RetR ctr hc.length Q) ((jM n c).take m++.inLoop::(jM n c).drop m) (wT fn args hc))
  (h2:∀ (x:ι) (O:Nat->Prop) (w0:World) (I0:List SE) (w:World) (σ:List SE) (a:Act),I0.length=hc.length->Mod O (vS ctr hc) w0 I0 w σ (mk fn.ntmps (S x) (H x)) a ->
   wpK none P (λ_ _ _=>False) (bodyPostM Fence.wide 0 P fn (Zm O w0 I0 ctr hc Q)) ((jM n c).drop m) .normal a w):jI P g ctr args hc Q:=by
 intro O w I0 vals hg hh hr;left;have hn':¬ fn.name = "runtime.NumGoroutine" :=by simpa using hn
 refine⟨by simp [callFunc,hf,hn',hb],?_⟩;refine callsIn_wide.1 (callsIn_of_wp_marks (F:=Fence.wide) (n:=0) (R:=Zm O w I0 ctr hc Q) hf hb trivial ?_);show wpK none P (λ_ _ _=>False) (bodyPostM Fence.wide 0 P fn (Zm O w I0 ctr hc Q)) [.code c] .normal _ w;refine QE n c [] _ w ?_;rw [List.append_nil,<- bU m (jM n c)];refine kS (H':=λd a w'=>∃ st σ,(∃ kv h,(∃ x,LeK (vS ctr hc) fn.ntmps kv h (S x) (H x))/\st=mk fn.ntmps kv h)/\Mod O (vS ctr hc) w I0 w' σ st a) ?_ ?_ _ hfl .normal _ w (wh ?_ (h1 O w I0 hh.len w I0 _ (Ke hg hh hr)))
 ·rintro a w1 ⟨st,σ,⟨kv,h,⟨x,hle⟩,rfl⟩,hm⟩;exact h2 x O w I0 w1 _ a hh.len (hle.le.mod hm)
 ·intro d a w1 hlt;rw [hd] at hlt;omega
 ·intro e a1 w1 h
  have hend:∀ (st:St) (σ:List SE),((resX P st fn.results.toList).holds λrs=>RetR ctr hc.length Q rs st.heap)->Mod O (vS ctr hc) w I0 w1 σ st a1->LeavesInM Fence.wide 0 P fn a1.tmps (Zm O w I0 ctr hc Q) a1.defers .returning w1:=by
   intro st σ hR hm;refine vW a1.defers w1 hm λw' hm'=> ?_
   obtain⟨v,h1,h2⟩:=zfs hh.len hfr st σ _ _ hR hm';exact⟨v,h1,h2⟩
  rcases h with ⟨rfl | rfl,st,σ,hR,hm⟩ | ⟨ch,_,h,_⟩
  ·exact hend st σ hR hm
  ·exact hend st σ hR hm
  ·exact h.elim
structure Kept(w w':World):Prop where
 os:w'.os=w.os
 tape:w'.tape=w.tape
 output:w'.output=w.output
 size:w.heap.size<=w'.heap.size
 keep:∀ b,b<w.heap.size->w'.heap[b]?=w.heap[b]?
theorem Kept.of{w w':World}{p:Nat->Prop}(h:Ext (Mine []) w p w'):Kept w w':=⟨h.os,h.tape,h.output,h.size,λb hb=>h.keep b hb λhm=>by obtain⟨_,he,_⟩:=hm; simp at he⟩
theorem Kept.ext{w w':World}(h:Kept w w')(own:Nat->Prop):Ext own w own w':=⟨h.os,h.tape,h.output,h.size,λb hb _=>h.keep b hb,λb hb=>.inl hb⟩
theorem Kept.hold{w w':World}(h:Kept w w')(K:List Nat)(σ:List SE):Hold K w σ w' σ:=λi e he _=>⟨he,λad had cs el hcs=>⟨cs,el,by rw [h.keep _ (aQ.1 hcs).1]; exact hcs,rfl⟩⟩
theorem Kept.good{O:Nat->Prop}{w w':World}{σ:List SE}(h:Kept w w')(hg:Good O w σ):Good O w' σ:=⟨λb hb=>bB (hg.old b hb) h.size,hg.dis,hg.stat.ext (h.ext _)⟩
theorem Kept.rep{own:Nat->Prop}{w w':World}{σ:List SE}{a:AV}{v:Value}(h:Kept w w')(hr:Rep own w a σ v):Rep own w' a σ v:=zU (h.ext own) (h.hold [] σ) a v (qW a) hr
theorem Kept.hrep{own:Nat->Prop}{w w':World}{σ:List SE}{hp:Heap}(h:Kept w w')(hh:HRep own w σ hp):HRep own w' σ hp:=
 ⟨hh.len,hh.inj,λi e a he ha=>bB (hh.lt i e a he ha) h.size,λi e b he hb=>by
  have:=jd (K:=[]) (h.ext own) (h.hold [] σ) (hh.blk i e b he hb) λad had=>h.keep _ (hh.lt i e ad he had)
  rwa [jf] at this⟩
theorem Kept.trans{w1 w2 w3:World}(h:Kept w1 w2)(k:Kept w2 w3):Kept w1 w3:=⟨k.os.trans h.os,k.tape.trans h.tape,k.output.trans h.output,bP h.size k.size,λb hb=>(k.keep b (bB hb h.size)).trans (h.keep b hb)⟩
theorem Kept.alloc(w:World)(o:Obj):Kept w (w.alloc o):=⟨rfl,rfl,rfl,by show _<=(w.heap.push o).size; simp,λb hb=>by
 show(w.heap.push o)[b]?=_;rw [Array.getElem?_push,aO (Nat.ne_of_lt hb)]⟩
theorem Qu{Xp:List PanicEntry->Prop}{P:Program}{g:Nat}{c:Ctr}{args:List AV}{r:AV}{O:Nat->Prop}{w:World}{σ:List SE}{vals:List Value}(hc:z8 Xp P g c)(hq:(c.spec args []).holds λp=>p=(r,[])\/p=(.bot,[]))(hg:Good O w σ){hp:Heap}(hh:HRep (Own O σ) w σ hp)(hr:RepL (Own O σ) w args [] vals) :
  qI Xp (Kept w) P g vals.toArray w λv w'=>Kept w w'/\Rep (Own O σ) w' r [] v:=by
 have hO:∀ b,Own (Own O σ) [] b->Own O σ b:=λb hb=>hb.elim id λ⟨e,he,_⟩=>by simp at he
 have hg':Good (Own O σ) w []:=⟨?_,λi e ad he=>by simp at he,hg.stat.own hO⟩
 ·refine qI.map (λw' h=>Kept.of h) ?_ (hc args [] _ hq (λ_=>rfl) (Own O σ) w [] vals hg' ⟨rfl,λi j e f a b he=>by simp at he,λi e a he=>by simp at he,λi e b he=>by simp at he⟩ (qY (K:=[]) ⟨rfl,rfl,rfl,aJ _,λ_ _ _=>rfl,λb hb=>.inl (hO b hb)⟩ (λi e he=>by simp at he) _ _ (wu _) hr));rintro v w' ⟨r',hs,Z',h1,h2,h3,h4,h5,h6,h7⟩;rcases h1 with h1 | h1
  ·cases h1;have hZ:Z'=[]:=aU.1 h3.len;subst hZ;exact⟨Kept.of h7,w6 (λb hb=>.inl (.inl hb)) h2⟩
  ·cases h1;exact h2.elim
 ·intro b hb;rcases hb with hb | ⟨e,he,ad,h1,rfl⟩
  ·exact hg.old b hb
  ·obtain⟨i,hi⟩:=List.mem_iff_getElem?.1 he;exact hh.lt i e ad hi h1
theorem LeA.tup{l m:List AV}(h:LeL l m):LeA (.tup l) (.tup m):=by
 intro own w σ v hr;simp only [Rep] at hr ⊢;obtain⟨vs,hv,hr⟩:=hr;exact⟨vs,hv,h.rep hr⟩
section
variable {P:Program} {ops:Array Oper} {rest:List Oper} {o:Oper} {a:Act} {w w':World} {Q:Exit->Act->World->Prop}
theorem UZ{v:Value}(hg:o.guard=none)(hd:∀ c,o.op≠.defer c)(hrun:(execOp a.eval o).run P w = .ok (.value v) w')(h:wpListIn Fence.wide 0 P ops Q rest (a.put o.dst v) w'):wpListIn Fence.wide 0 P ops Q (o::rest) a w:=
 wpListIn_plain hg λK hK=>jS (M:=none) hd (by unfold Oper.wp; rw [hrun]; exact hK _ _ h)
theorem step_skip(hg:o.guard=none)(hd:∀ c,o.op≠.defer c)(hrun:(execOp a.eval o).run P w = .ok .skip w')(h:wpListIn Fence.wide 0 P ops Q rest (a.put o.dst undef) w'):wpListIn Fence.wide 0 P ops Q (o::rest) a w:=
 wpListIn_plain hg λK hK=>jS (M:=none) hd (by unfold Oper.wp; rw [hrun]; exact hK _ _ h)
theorem KA{x:Operand}(hg:o.guard=none)(ho:o.op = .move x)(h:wpListIn Fence.wide 0 P ops Q rest (a.put o.dst (a.eval x)) w):wpListIn Fence.wide 0 P ops Q (o::rest) a w:=
 UZ hg (by simp [ho]) (by simp only [execOp,ho]; rfl) h
theorem KY{O:Nat->Prop}{σ:List SE}{hp:Heap}{t:TypeId}{x:Operand}{p r:AV}(hh:HRep (Own O σ) w σ hp)(hg:o.guard=none)(ho:o.op = .load t x)(hx:Rep (Own O σ) w p σ (a.eval x))(hq:ZC P hp t p = .leaf r)
  (h:∀ v,Rep (Own O σ) w r σ v->wpListIn Fence.wide 0 P ops Q rest (a.put o.dst v) w):wpListIn Fence.wide 0 P ops Q (o::rest) a w:=by
 obtain⟨r',v,h1,h2,h3⟩:=Zj (P:=P) hh hx (Q:=(· = r)) (by rw [hq]; exact rfl);subst h2;refine UZ hg (by simp [ho]) ?_ (h v h3);simp only [execOp,ho,Sem.run_bind,h1,Result.andThen_ok,Sem.run_pure]
theorem VC{O:Nat->Prop}{σ:List SE}{hp:Heap}{t:TypeId}{x y:Operand}{i:Nat}{c r:AV}(hgd:Good O w σ)(hh:HRep (Own O σ) w σ hp)(hg:o.guard=none)(ho:o.op = .store t x y)(hx:Rep (Own O σ) w (.ptr i 0) σ (a.eval x))(hb:hp[i]?=some (.box [c]))(hn:qf P t=some 1)(hy:Rep (Own O σ) w r σ (a.eval y))(hc:cellsOf r=some [r])(h1:oneA r=true)
  (h:∀ w',Post O w σ hp ⟨.undef,[(i,.box [r])],[]⟩ undef w' σ->wpListIn Fence.wide 0 P ops Q rest (a.put o.dst undef) w'):wpListIn Fence.wide 0 P ops Q (o::rest) a w:=by
 obtain⟨w',h2,h3⟩:=xf (P:=P) hgd hh hx hb hn (qg hc hy) rfl (aJ _) (by simp [h1]);refine step_skip hg (by simp [ho]) ?_ (h w' h3);simp only [execOp,ho,Sem.run_bind,h2,Result.andThen_ok,Sem.run_pure]
theorem K3{Xp:List PanicEntry->Prop}{D:World->Prop}{R:Value->World->Prop}{c:Call}{f:Operand}{g:Nat}(hg:o.guard=none)(ho:o.op = .call c)(hc:c.callee = .value f)(hf:a.eval f = .func (.func g) #[] #[])(h:qI Xp D P g (c.args.toList.map a.eval).toArray w R)
  (hK:∀ v w',R v w'->wpListIn Fence.wide 0 P ops Q rest (a.put o.dst v) w') (hP:∀ ch w',Xp ch->D w'->Q (.panic ch) a w'):wpListIn Fence.wide 0 P ops Q (o::rest) a w:=
 wpListIn_plain hg λK hKK=>jS (M:=none) (by simp [ho]) (by
  have hcall:(execOp a.eval o).run P w=(callFunc g (c.args.toList.map a.eval).toArray).run P w:=by
   obtain⟨callee,args,ats⟩:=c;simp only at hc;subst hc;simp only [execOp,ho,resolve,hf,Deferred.ofValue,Sem.run_bind,Sem.run_pure,Result.andThen_ok,invoke];congr 2;simp [<- Array.toList_inj]
  unfold Oper.wp;rcases h with ⟨h3,h4⟩ | ⟨v,w',h3,h4⟩
  ·rw [hcall,h3];refine h4.mono λe w' he=> ?_
   rcases he with ⟨v,he,hR⟩ | ⟨ch,he,h5,h6⟩
   ·subst he; exact hKK _ _ (hK _ _ hR)
   ·subst he; exact hP ch w' h5 h6
  ·rw [hcall,h3];exact hKK _ _ (hK _ _ h4))
theorem step_defer{c:Call}{f:Operand}{g:Nat}(hg:o.guard=none)(ho:o.op = .defer c)(hdst:o.dst=none)(hc:c.callee = .value f)(hf:a.eval f = .func (.func g) #[] #[])
  (h:wpListIn Fence.wide 0 P ops Q rest { a with defers:={ target:=.fn (.func g) #[],args:=(c.args.toList.map a.eval).toArray } :: a.defers } w):wpListIn Fence.wide 0 P ops Q (o::rest) a w:=
 wpListIn_plain hg λK hKK=>by
  obtain⟨callee,args,ats⟩:=c;simp only at hc;subst hc;refine⟨λf _=>trivial,?_⟩
  have:(Oper.semAt Fence.wide.round a.eval o).run P w = .ok (.defer { target:=.fn (.func g) #[],args:=(args.toList.map a.eval).toArray }) w:=by
   show(execOp a.eval o).run P w=_;simp only [execOp,ho,resolve,hf,Deferred.ofValue,Sem.run_bind,Sem.run_pure,Result.andThen_ok];congr 3;simp [<- Array.toList_inj]
  rw [this];simp only [Oper.uponIn,hdst];exact hKK _ _ h
theorem Wd{t:TypeId}{b:Nat}{old v:Value}(hn:qf P t=some 1)(hv:v.cells = #[v])(hc:w.cell? ⟨b,0,none⟩=some old)(hz:w.frozen? ⟨b,0,none⟩=false)(h1:v.oneCell'=true) :
  (Instr.storeAt t (.pointer (some ⟨b,0,none⟩)) v).run P w = .ok () (w.setCell ⟨b,0,none⟩ v):=by
 simp only [Instr.storeAt,Instr.sureAddr,Sem.run_bind,Sem.run_pure,Result.andThen_ok,storeVar,zB hn,hv];simp [storeCells,go_sem,hc,hz];rw [run_store _ _ _ _ _ h1,hc];simp [hz]
end
theorem yL{O:Nat->Prop}{w:World}{σ:List SE}{hp:Heap}{i:Nat}{c:AV}{v:Value}(hh:HRep (Own O σ) w σ hp)(hx:Rep (Own O σ) w (.ptr i 0) σ v)(hb:hp[i]?=some (.box [c])) :
  ∃ b u,v = .pointer (some ⟨b,0,none⟩)/\w.cell? ⟨b,0,none⟩=some u/\w.frozen? ⟨b,0,none⟩=false/\Rep (Own O σ) w c σ u/\∃ e ad,σ[i]?=some e/\e.ad=some ad/\ad.block=b:=by
 simp only [Rep] at hx;obtain⟨e,ad,he,had,rfl⟩:=hx;obtain⟨ad',vs,el,had',h0,hcs,hr⟩:=hh.blk i e _ he hb;rw [had] at had';cases had';simp only [RepL] at hr;obtain⟨u,r,rfl,h1,rfl⟩:=hr;refine⟨ad.block,u,by rw [h0],?_,?_,h1,e,ad,he,had,rfl⟩
 ·simp [World.cell?,hcs]
 ·simp [World.frozen?,hcs]
end Go.Sx
end
section
set_option maxRecDepth 100000
open Go Go.Sx Go.Proofs Go.Nov
namespace Go.Proofs.Tryz
attribute [local simp] eqKV eqA eqA0 eqH eqB eqL eqL0
def FI.pre(k:FI):Prop:=k.c.big<2^40/\k.c.nodes<=1000000/\envP (k.f,k.h)
def vX:Ctr:=ctrP false (λk:FI=>[k.c.conA,.i k.day,.i k.fin,envA k.f k.h]) FI.pre (λk r=>r=befM k.c k.day k.fin k.f k.h) (λ_ (r:List Fl×Int)=>(.tup [flS r.1,.i r.2],[]))
noncomputable def LB:List Go.Sx.Item:=(jM 6 (f52.body.getD .skip)).take 4++.inLoop::(jM 6 (f52.body.getD .skip)).drop 4
noncomputable def GBef:=tb Kh (tb Qy tz)
def SBe(day fin:Int):KV:=[(1,.i day),(2,.i fin),(4,.ptr 0 0),(7,.ptr 1 0),(8,.ptr 2 0),(9,.ptr 3 0)]
def HBe(c:Con)(f:List Fx)(h:List Ch):Heap:=[.box c.zg,.box [fxS f,chS h],.box [.nils],.box [.i 0]]
theorem ziy(c:Con)(day fin:Int)(f:List Fx)(h:List Ch)(hp:FI.pre ⟨c,day,fin,f,h⟩){Q:AV×Heap->Prop}(hq:Q (.tup [flS (befM c day fin f h).1,.i (befM c day fin f h).2],[])){O:Nat->Prop}{w0:World}{I0:List SE} :
  zc prog f52 O 0 w0 I0 (λ_ kv hh=>∃ x:{u:Unit // c.errC=0/\errE f h=0/\0<=day/\day<=99999/\0<=fin/\fin<=100000},LeK 0 f52.ntmps kv hh (SBe day fin) (HBe c f h)) (RetR vX 0 Q) LB (wT f52 [c.conA,.i day,.i fin,envA f h] []):=by
 obtain⟨p1,p2,p3⟩:=hp;simp only at p1 p2 p3;refine zc.n GBef.h [1,2,4,7,8,9] (let v1:List AV:=[.sl f.length 3 (fxG f),.sl h.length 4 (chG h)];.ex (q56 [(Con.conA c)]) λn=>.all (λ(r:Int)=>r=Con.errC n) λn=>.N (n=0) (.R [.nils,.i n] [.box c.zg,.box v1,.box [.nils],.box [.i n]]) (.ex (q48 [.agg [.sl f.length 3 (fxG f),.sl h.length 4 (chG h)]]) λn=>.all (λ(r:Int)=>r=errE n.1 n.2) λn=>.N (n=0) (.R [.nils,.i n] [.box c.zg,.box v1,.box [.nils],.box [.i n]]) (.ite (bif bif bif decide (day<0) then true else decide ((99999:Int)<day) then true else decide (fin<0) then true else decide ((100000:Int)<fin)) (.R [.nils,.i 2] [.box c.zg,.box v1,.box [.nils],.box [.i 2]]) (.leaf (.back 0 [(1,.i day),(2,.i fin),(4,.ptr 0 0),(7,.ptr 1 0),(8,.ptr 2 0),(9,.ptr 3 0)] [.box c.zg,.box v1,.box [.nils],.box [.i 0]]))))) ?_;simp only [q48,q56,Tree.holds,zf,inR,lo,hi,aD]
 have ret:∀ (e:Int) (hs:Heap),befM c day fin f h=([],e)->RetR vX 0 Q [.nils,.i e] hs:=by
  intro e hs he;rw [he] at hq;exact RetR.le0 hq (λh=>by cases h) (LeA.tup ⟨LeA.nils,LeA.refl _,trivial⟩)
 refine⟨c,⟨⟨qZ c,trivial⟩,p1,p2⟩,⟨_,rfl⟩,?_⟩;rintro _ rfl;refine⟨λhe=>ret _ _ ?_,λhe=>⟨(f,h),⟨⟨⟨⟨rfl,rfl,λ_ _ _ _=>rfl⟩,⟨rfl,rfl,λ_ _ _ _=>rfl⟩,trivial⟩,trivial⟩,p3⟩,⟨_,rfl⟩,?_⟩⟩
 ·have he:c.errC≠0:=by simpa using he
  unfold befM; rw [aP he]
 have he:c.errC=0:=by simpa using he
 rintro _ rfl;refine⟨λhE=>ret _ _ ?_,λhE=>⟨λhr=>ret _ _ ?_,λhr=>⟨⟨(),?_⟩,?_⟩⟩⟩
 ·have hE:errE f h≠0:=by simpa using hE
  unfold befM; rw [aO (by simp [he]),aP hE]
 ·have hE:errE f h=0:=by simpa using hE
  have hr:day<0\/99999<day\/fin<0\/100000<fin:=by
   by_cases a:day<0
   ·exact .inl a
   by_cases b:99999<day
   ·exact .inr (.inl b)
   by_cases d:fin<0
   ·exact .inr (.inr (.inl d))
   ·simpa [a,b,d] using hr
  unfold befM; rw [aO (by simp [he]),aO (by simp [hE]),aP hr]
 ·have hE:errE f h=0:=by simpa using hE
  by_cases a:day<0
  ·simp [a] at hr
  by_cases b:99999<day
  ·simp [a,b] at hr
  by_cases d:fin<0
  ·simp [a,b,d] at hr
  by_cases e:100000<fin
  ·simp [a,b,d,e] at hr
  exact⟨he,hE,by omega,by omega,by omega,by omega⟩
 ·exact⟨by simp [SBe],by simp [HBe,za,Con.zg,Con.qN,fxS,chS,Ex.exS,Con.dayS,Con.conS],by kernel_rfl,aI _⟩
noncomputable def LBt:List Go.Sx.Item:=(jM 6 (f52.body.getD .skip)).drop 4
def opsI:Go.Sx.Item->List Oper
 | .code (.region _ ops _)=>ops.toList
 | _=>[]
def zwr:Oper:={ dst:=none,op:=.move (.const undef),type:=0,pos:= "",after:= #[],guard:=none }
noncomputable def opB(r k:Nat):Oper:=(opsI (LBt.getD r .inLoop)).getD k zwr
theorem zvb:LBt=[.code (.region 9 #[opB 0 0] false),.code (.region 10 #[opB 1 0,opB 1 1,opB 1 2,opB 1 3,opB 1 4,opB 1 5,opB 1 6,opB 1 7] false),.code .ret]:=by kernel_rfl
theorem opD:(opB 0 0).guard=none/\(opB 0 0).dst=none/\(opB 0 0).op = .defer { callee:=.value (.func 83),args:= #[.tmp 9,.tmp 8],argTypes:= #[140,141] } :=⟨by kernel_rfl,by kernel_rfl,by kernel_rfl⟩
theorem opB0:(opB 1 0).guard=none/\(opB 1 0).dst=some 36/\(opB 1 0).op = .load 39 (.tmp 4):=⟨by kernel_rfl,by kernel_rfl,by kernel_rfl⟩
theorem opB1:(opB 1 1).guard=none/\(opB 1 1).dst=some 37/\(opB 1 1).op = .move (.tmp 1):=⟨by kernel_rfl,by kernel_rfl,by kernel_rfl⟩
theorem opB2:(opB 1 2).guard=none/\(opB 1 2).dst=some 38/\(opB 1 2).op = .move (.tmp 2):=⟨by kernel_rfl,by kernel_rfl,by kernel_rfl⟩
theorem opB3:(opB 1 3).guard=none/\(opB 1 3).dst=some 39/\(opB 1 3).op = .load 28 (.tmp 7):=⟨by kernel_rfl,by kernel_rfl,by kernel_rfl⟩
theorem opB4:(opB 1 4).guard=none/\(opB 1 4).dst=some 40/\(opB 1 4).op = .call { callee:=.value (.func 85),args:= #[.tmp 36,.tmp 37,.tmp 38,.tmp 39],argTypes:= #[39,3,3,28] } :=⟨by kernel_rfl,by kernel_rfl,by kernel_rfl⟩
def argT(o:Oper):Array TypeId:=match o.op with
 | .call c=>c.argTypes
 | _=> #[]
theorem opB5:(opB 1 5).guard=none/\(opB 1 5).dst=some 41/\(opB 1 5).op = .call { callee:=.value (.func 84),args:= #[.tmp 40,.func 86],argTypes:=argT (opB 1 5) } :=⟨by kernel_rfl,by kernel_rfl,by kernel_rfl⟩
theorem opB6:(opB 1 6).guard=none/\(opB 1 6).dst=none/\(opB 1 6).op = .store 56 (.tmp 8) (.tmp 41):=⟨by kernel_rfl,by kernel_rfl,by kernel_rfl⟩
theorem opB7:(opB 1 7).guard=none/\(opB 1 7).dst=none/\(opB 1 7).op = .store 40 (.tmp 9) (.const (.i 0)):=⟨by kernel_rfl,by kernel_rfl,by kernel_rfl⟩
theorem zfd{a:Act}{d t:Nat}{v:Value} : (a.put (some d) v).tmps.getD t undef=if t=d/\d<a.tmps.size then v else a.tmps.getD t undef:=by
 simp only [Act.put,bQ,Array.getElem?_setIfInBounds];by_cases h:d=t
 ·subst h;by_cases h2:d<a.tmps.size
  ·simp [h2]
  ·simp [h2]
 ·rw [aO h,aO (λx=>h x.1.symm)]
theorem size_put{a:Act}{d:Nat}{v:Value} : (a.put (some d) v).tmps.size=a.tmps.size:=by simp [Act.put]
theorem uM{a:Act}{d:Nat}{v:Value}{P:Act->Prop}(h:∀ b:Act,b.defers=a.defers->b.tmps.size=a.tmps.size->(d<a.tmps.size->b.tmps.getD d undef=v)->(∀ t,t≠d->b.tmps.getD t undef=a.tmps.getD t undef)->P b):P (a.put (some d) v):=
 h _ rfl size_put (λhd=>by rw [zfd,aP ⟨rfl,hd⟩]) λt ht=>by rw [zfd,aO (λx=>ht x.1)]
theorem zf8{c:Con}{day fin:Int}{f:List Fx}{h:List Ch}{Q:AV×Heap->Prop}(hq:Q (.tup [flS (befM c day fin f h).1,.i (befM c day fin f h).2],[])){O:Nat->Prop}{w0 w:World}{σ:List SE}{a:Act}(hm:Mod O 0 w0 [] w σ (mk f52.ntmps (SBe day fin) (HBe c f h)) a)
  {w4:World} {T:Array Value} {x:AV} {e:Int} (g1:Go.Sx.Good O w4 σ) (g2:HRep (Go.Sx.Own O σ) w4 σ [.box c.zg,.box [fxS f,chS h],.box [x],.box [.i e]]) (g3:Ext (Go.Sx.Own O σ) w (Go.Sx.Own O σ) w4) (g4:∀ b,O b->b<w.heap.size->w4.heap[b]?=w.heap[b]?)
  (g5:T.getD 8 undef=a.tmps.getD 8 undef) (g6:T.getD 9 undef=a.tmps.getD 9 undef) (g7:T.size=a.tmps.size) (hx:x = .nils/\(befM c day fin f h).1=[]\/x=flS (befM c day fin f h).1) (he:e=(befM c day fin f h).2) :
  LeavesInM Fence.wide 0 prog f52 T (Zm O w0 [] vX [] Q) a.defers .returning w4:=by
 have hm4:Mod O 0 w0 [] w4 σ (mk f52.ntmps [(8,.ptr 2 0),(9,.ptr 3 0)] [.box c.zg,.box [fxS f,chS h],.box [x],.box [.i e]]) { tmps:=T,defers:=a.defers } :=by
  refine⟨g1,g2,?_,λt=> ?_,hm.df.ext g3,hm.since.trans ⟨g3,g4,λi e hi _=>absurd hi (Nat.not_lt_zero i)⟩,hm.lim⟩
  ·rw [show({ tmps:=T,defers:=a.defers } : Act).tmps=T from rfl,g7,hm.size];simp [mk,pk]
  ·by_cases h8:t=8
   ·subst h8;show Rep (Go.Sx.Own O σ) w4 (.ptr 2 0) σ (T.getD 8 undef);rw [g5];have:Rep (Go.Sx.Own O σ) w (.ptr 2 0) σ (a.tmps.getD 8 undef):=hm.tm 8;simpa only [Rep] using this
   ·by_cases h9:t=9
    ·subst h9;show Rep (Go.Sx.Own O σ) w4 (.ptr 3 0) σ (T.getD 9 undef);rw [g6];have:Rep (Go.Sx.Own O σ) w (.ptr 3 0) σ (a.tmps.getD 9 undef):=hm.tm 9;simpa only [Rep] using this
    ·have:(mk f52.ntmps [(8,.ptr 2 0),(9,.ptr 3 0)] [.box c.zg,.box [fxS f,chS h],.box [x],.box [.i e]]).tmps.getD t .undef = .undef:=by
      simp only [mk];by_cases hlt:t<f52.ntmps
      ·rw [jC hlt]; simp [Go.Sx.look,Ne.symm h8,Ne.symm h9]
      ·have:(pk f52.ntmps [(8,.ptr 2 0),(9,.ptr 3 0)])[t]?=none:=aZ (by simp [pk]; exact Nat.not_lt.1 hlt);rw [List.getD_eq_getElem?_getD,this]; rfl
     rw [this];simp [TRep,Rep]
 refine vW a.defers w4 hm4 λw' hm'=> ?_
 refine zfs (ctr:=vX) (hc:=[]) rfl (λhh=>by cases hh) _ σ _ _ ?_ hm';subst he;rcases hx with ⟨rfl,hx⟩ | rfl
 ·have e1:resX prog (mk f52.ntmps [(8,.ptr 2 0),(9,.ptr 3 0)] [.box c.zg,.box [fxS f,chS h],.box [.nils],.box [.i (befM c day fin f h).2]]) f52.results.toList = .leaf [.nils,.i (befM c day fin f h).2]:=by kernel_rfl
  rw [e1];rw [hx] at hq;exact RetR.le0 hq (λh=>by cases h) (LeA.tup ⟨LeA.nils,LeA.refl _,trivial⟩)
 ·have e1:resX prog (mk f52.ntmps [(8,.ptr 2 0),(9,.ptr 3 0)] [.box c.zg,.box [fxS f,chS h],.box [flS (befM c day fin f h).1],.box [.i (befM c day fin f h).2]]) f52.results.toList = .leaf [flS (befM c day fin f h).1,.i (befM c day fin f h).2]:=by kernel_rfl
  rw [e1];exact RetR.le0 hq (λh=>by cases h) (LeA.refl _)
def zdn(c:Con)(day fin:Int)(f:List Fx)(h:List Ch)(ch:List PanicEntry):Prop:=∃ x,flM f h c day fin = .error x/\ch=ZP uX x
theorem zlb{c:Con}{day fin:Int}{f:List Fx}{h:List Ch}(hp:FI.pre ⟨c,day,fin,f,h⟩)(hx:c.errC=0/\errE f h=0/\0<=day/\day<=99999/\0<=fin/\fin<=100000){Q:AV×Heap->Prop}(hq:Q (.tup [flS (befM c day fin f h).1,.i (befM c day fin f h).2],[])){O:Nat->Prop}{w0 w:World}{σ:List SE}{a:Act}(hm:Mod O 0 w0 [] w σ (mk f52.ntmps (SBe day fin) (HBe c f h)) a) :
  wpK none prog (λ_ _ _=>False) (bodyPostM Fence.wide 0 prog f52 (Zm O w0 [] vX [] Q)) LBt .normal a w:=by
 obtain⟨p1,p2,p3⟩:=hp;obtain⟨x1,x2,x3,x4,x5,x6⟩:=hx;simp only at p1 p2 p3
 have hform:c.form=true/\c.size<=500:=by
  unfold Con.errC at x1;split at x1
  ·cases x1
  ·rename_i hs;split at x1
   ·rename_i hf; exact⟨hf,by omega⟩
   ·cases x1
 have hG:FI.G ⟨c,day,fin,f,h⟩:=⟨hform.1,p1,by have:=Con.uY c; show c.nodes<_; omega,p3⟩
 have hbef:befM c day fin f h=match flM f h c day fin with
  | .error e=>([],e)
  | .ok l=>(ordM l,0):=by
  unfold befM; rw [aO (by simp [x1]),aO (by simp [x2]),aO (by omega)];cases flM f h c day fin<;>rfl
 have sz:a.tmps.size=42:=by rw [hm.size]; simp only [mk,pk,List.length_map,List.length_range]; rfl
 have t1:a.tmps.getD 1 undef = .i day:=hm.tm 1;have t2:a.tmps.getD 2 undef = .i fin:=hm.tm 2;have t4:Rep (Go.Sx.Own O σ) w (.ptr 0 0) σ (a.tmps.getD 4 undef):=hm.tm 4;have t7:Rep (Go.Sx.Own O σ) w (.ptr 1 0) σ (a.tmps.getD 7 undef):=hm.tm 7;have t8:Rep (Go.Sx.Own O σ) w (.ptr 2 0) σ (a.tmps.getD 8 undef):=hm.tm 8;have t9:Rep (Go.Sx.Own O σ) w (.ptr 3 0) σ (a.tmps.getD 9 undef):=hm.tm 9;have hhp:HRep (Go.Sx.Own O σ) w σ (HBe c f h):=hm.hp;rw [zvb];simp only [wpK];obtain⟨d1,d2,d3⟩:=opD;refine wpIn_region_list (Go.Sx.step_defer d1 d3 d2 rfl rfl ?_);refine wpListIn_nil ?_;simp only [wpK];obtain⟨bl,ul,hl1,hl2,hl3,hl4,el,adl,hl5,hl6,hl7⟩:=yL hhp t8 rfl;obtain⟨be,ue,he1,he2,he3,he4,ee,ade,he5,he6,he7⟩:=yL hhp t9 rfl
 have hne:be≠bl:=by
  rw [<- he7,<- hl7];exact hhp.inj 3 2 _ _ _ _ he5 hl5 he6 hl6 (by decide)
 have hnl:¬ O bl:=by rw [<- hl7]; exact hm.good.dis 2 _ _ hl5 hl6
 have hne2:¬ O be:=by rw [<- he7]; exact hm.good.dis 3 _ _ he5 he6
 obtain⟨o0g,o0d,o0o⟩:=opB0;obtain⟨o1g,o1d,o1o⟩:=opB1;obtain⟨o2g,o2d,o2o⟩:=opB2;obtain⟨o3g,o3d,o3o⟩:=opB3;obtain⟨o4g,o4d,o4o⟩:=opB4;obtain⟨o5g,o5d,o5o⟩:=opB5;obtain⟨o6g,o6d,o6o⟩:=opB6;obtain⟨o7g,o7d,o7o⟩:=opB7
 have hD:(([.tmp 9,.tmp 8]:List Operand).map a.eval).toArray = #[.pointer (some ⟨be,0,none⟩),.pointer (some ⟨bl,0,none⟩)]:=by
  show #[a.tmps.getD 9 undef,a.tmps.getD 8 undef]=_;rw [hl1,he1]
 refine wpIn_region_list ?_;obtain⟨b0,hb0⟩:∃ b:Act,b={ a with defers:={ target:=.fn (.func 83) #[],args:=(([.tmp 9,.tmp 8]:List Operand).map a.eval).toArray } :: a.defers } :=⟨_,rfl⟩;have s0:b0.tmps=a.tmps:=by rw [hb0]
 have f0:b0.defers={ target:=.fn (.func 83) #[],args:= #[.pointer (some ⟨be,0,none⟩),.pointer (some ⟨bl,0,none⟩)] } :: a.defers:=by rw [hb0,<- hD]
 show wpListIn _ _ _ _ _ _ { a with defers:={ target:=.fn (.func 83) #[],args:=(([.tmp 9,.tmp 8]:List Operand).map a.eval).toArray } :: a.defers } w;rw [<- hb0];clear hb0;show wpListIn Fence.wide 0 _ _ _ [opB 1 0,opB 1 1,opB 1 2,opB 1 3,opB 1 4,opB 1 5,opB 1 6,opB 1 7] b0 w;refine KY (r:=c.conA) hhp o0g o0o (p:=.ptr 0 0) (by show Rep _ _ _ _ (b0.tmps.getD 4 undef); rw [s0]; exact t4) (by kernel_rfl) λv36 r36=> ?_
 rw [o0d];refine uM (P:=λb=>wpListIn _ _ _ _ _ _ b w) λb1 f1 z1 v1 u1=> ?_
 rw [s0] at z1 v1 u1;refine KA o1g o1o ?_;rw [o1d,show b1.eval (.tmp 1) = .i day from(u1 1 (by decide)).trans t1];refine uM (P:=λb=>wpListIn _ _ _ _ _ _ b w) λb2 f2 z2 v2 u2=> ?_
 refine KA o2g o2o ?_;rw [o2d,show b2.eval (.tmp 2) = .i fin from(u2 2 (by decide)).trans ((u1 2 (by decide)).trans t2)];refine uM (P:=λb=>wpListIn _ _ _ _ _ _ b w) λb3 f3 z3 v3 u3=> ?_
 have k7:b3.eval (.tmp 7)=a.tmps.getD 7 undef:=(u3 7 (by decide)).trans ((u2 7 (by decide)).trans (u1 7 (by decide)));refine KY (r:=envA f h) hhp o3g o3o (p:=.ptr 1 0) (by rw [k7]; exact t7) (by kernel_rfl) λv39 r39=> ?_
 rw [o3d];refine uM (P:=λb=>wpListIn _ _ _ _ _ _ b w) λb4 f4 z4 v4 u4=> ?_
 have k36:b4.eval (.tmp 36)=v36:=(u4 36 (by decide)).trans ((u3 36 (by decide)).trans ((u2 36 (by decide)).trans (v1 (by omega))));have k37:b4.eval (.tmp 37) = .i day:=(u4 37 (by decide)).trans ((u3 37 (by decide)).trans (v2 (by omega)));have k38:b4.eval (.tmp 38) = .i fin:=(u4 38 (by decide)).trans (v3 (by omega));have k39:b4.eval (.tmp 39)=v39:=v4 (by omega);have fb4:b4.defers={ target:=.fn (.func 83) #[],args:= #[.pointer (some ⟨be,0,none⟩),.pointer (some ⟨bl,0,none⟩)] } :: a.defers:=f4.trans (f3.trans (f2.trans (f1.trans f0)));have u8:∀ t,t<36->b4.tmps.getD t undef=a.tmps.getD t undef:=λt ht=>(u4 t (by omega)).trans ((u3 t (by omega)).trans ((u2 t (by omega)).trans (u1 t (by omega))))
 have zb4:b4.tmps.size=a.tmps.size:=z4.trans (z3.trans (z2.trans z1))
 have nil36:Rep (Go.Sx.Own O σ) w c.conA [] v36:=by
  simp only [Con.conA,Ex.exS,Con.dayS,Con.conS,Rep] at r36 ⊢;obtain⟨vs,hv,hr⟩:=r36;exact⟨vs,hv,uz rfl hr⟩
 have nil39:Rep (Go.Sx.Own O σ) w (envA f h) [] v39:=by
  simp only [envA,Rep] at r39 ⊢;obtain⟨vs,hv,hr⟩:=r39;exact⟨vs,hv,uz rfl hr⟩
 refine K3 (Xp:=zdn c day fin f h) (D:=Kept w) (R:=λv w'=>∃ l,flM f h c day fin = .ok l/\Kept w w'/\Rep (Go.Sx.Own O σ) w' (flS l) [] v) o4g o4o rfl rfl ?_ ?_ ?_
 ·show qI _ _ _ _ [b4.eval (.tmp 36),b4.eval (.tmp 37),b4.eval (.tmp 38),b4.eval (.tmp 39)].toArray w _;rw [k36,k37,k38,k39]
  have hr4:RepL (Go.Sx.Own O σ) w [c.conA,.i day,.i fin,envA f h] [] [v36,.i day,.i fin,v39]:=by
   simp only [RepL];exact⟨_,_,rfl,nil36,_,_,rfl,rfl,_,_,rfl,rfl,_,_,rfl,nil39,rfl⟩
  have hst:qC (zdn c day fin f h) (FI.val ⟨c,day,fin,f,h⟩):=λe he=>⟨e,he,rfl⟩
  have eA:eqA (envA f h) (envA f h):=⟨⟨rfl,rfl,λ_ _ _ _=>rfl⟩,⟨rfl,rfl,λ_ _ _ _=>rfl⟩,trivial⟩;cases hfl:flM f h c day fin with
  | error e=>
   refine qI.map (λ_ h=>h) ?_ (Qu (args:=[c.conA,.i day,.i fin,envA f h]) (r:=.bot) (zak (zdn c day fin f h)) ⟨⟨c,day,fin,f,h⟩,⟨⟨qZ c,⟨rfl,rfl⟩,⟨rfl,rfl⟩,eA,trivial⟩,trivial,rfl,hG,hst⟩,λho=> ?_,λ_=>.inr rfl⟩ hm.good hhp hr4)
   ·rintro v w' ⟨_,hb⟩;exact hb.elim
   ·have ho:okM (flM f h c day fin)=true:=ho;rw [hfl] at ho; cases ho
  | ok l=>
   refine qI.map (λ_ h=>h) ?_ (Qu (args:=[c.conA,.i day,.i fin,envA f h]) (r:=flS l) (zak (zdn c day fin f h)) ⟨⟨c,day,fin,f,h⟩,⟨⟨qZ c,⟨rfl,rfl⟩,⟨rfl,rfl⟩,eA,trivial⟩,trivial,rfl,hG,hst⟩,λ_=>.inl ?_,λ_=>.inr rfl⟩ hm.good hhp hr4)
   ·rintro v w' ⟨h1,h2⟩;exact⟨l,rfl,h1,h2⟩
   ·show(flS (getM [] (flM f h c day fin)),[])=_;rw [hfl]; rfl
 ·rintro v40 w1 ⟨l,hfl,k1,r40⟩;rw [o4d];refine uM (P:=λb=>wpListIn _ _ _ _ _ _ b w1) λb5 f5 z5 v5 u5=> ?_
  have g1:=k1.good hm.good;have hh1:=k1.hrep hhp;refine K3 (Xp:=λ_=>False) (D:=Kept w1) (R:=λv w'=>Kept w1 w'/\Rep (Go.Sx.Own O σ) w' (flS (ordM l)) [] v) o5g o5o rfl rfl ?_ ?_ (λ_ _ h=>h.elim)
  ·show qI _ _ _ _ [b5.eval (.tmp 40),.func (.func 86) #[] #[]].toArray w1 _;rw [show b5.eval (.tmp 40)=v40 from v5 (by omega)];refine Qu (args:=[flS l,.fn 86 [] []]) (r:=flS (ordM l)) (zu0).x ⟨l,⟨⟨⟨rfl,rfl,λ_ _ _ _=>rfl⟩,rfl,trivial⟩,?_⟩,⟨(),trivial⟩,λ_ _=>.inl rfl⟩ g1 hh1 ?_
   ·have:=(XZ c hfl).1;have:=Con.uY c;show l.length<_;omega
   ·simp only [RepL];exact⟨_,_,rfl,r40,_,_,rfl,⟨[],[],rfl,rfl,rfl⟩,rfl⟩
  ·rintro v41 w2 ⟨k2,r41⟩;rw [o5d];refine uM (P:=λb=>wpListIn _ _ _ _ _ _ b w2) λb6 f6 z6 v6 u6=> ?_
   have u68:∀ t,t<36->b6.tmps.getD t undef=a.tmps.getD t undef:=λt ht=>(u6 t (by omega)).trans ((u5 t (by omega)).trans (u8 t ht))
   have g2:=k2.good g1;have hh2:=k2.hrep hh1;have k12:=k1.trans k2;refine VC (i:=2) (c:=.nils) (r:=flS (ordM l)) g2 hh2 o6g o6o (by show Rep _ _ _ _ (b6.tmps.getD 8 undef); rw [u68 8 (by decide)]; exact k12.rep t8) rfl (by kernel_rfl) (by rw [show b6.eval (.tmp 41)=v41 from v6 (by omega)]; exact Rep.any r41 σ) rfl rfl λw3 P3=> ?_
   rw [o6d]
   refine VC (i:=3) (c:=.i 0) (r:=.i 0) P3.good P3.hp o7g o7o (by
    show Rep _ _ _ _ (b6.tmps.getD 9 undef);rw [u68 9 (by decide)];exact zU (K:=[]) P3.ext P3.hold _ _ (qW _) (k12.rep t9)) rfl (by kernel_rfl) rfl rfl rfl λw4 P4=> ?_
   rw [o7d];refine wpListIn_nil ?_;show Code.ret.wpIn (FM none) 0 _ _ _ w4;refine wpIn_ret ?_;show LeavesInM _ _ _ _ b6.tmps _ b6.defers .returning w4;rw [f6.trans (f5.trans fb4)];refine⟨by simp,.inr ⟨λhh=>(by cases hh),.func 83,#[],83,#[.pointer (some ⟨be,0,none⟩),.pointer (some ⟨bl,0,none⟩)],rfl,?_,λ_ _=>trivial,?_⟩⟩
   ·simp [go_sem]
   ·refine(Uj ⟨be,0,none⟩ ⟨bl,0,none⟩ w4).mono ?_;rintro e u' w5 ⟨rfl,rfl,rfl⟩;show LeavesInM _ _ _ _ _ _ _ .returning _;refine zf8 hq hm (x:=flS (ordM l)) (e:=0) P4.good P4.hp ((k12.ext _).trans (P3.ext.trans P4.ext)) (λb hO hb=> ?_) (u68 8 (by decide)) (u68 9 (by decide)) ?_ (.inr ?_) ?_
    ·have h2:b<w2.heap.size:=bB hb k12.size;rw [P4.wi b hO (bB h2 P3.ext.size),P3.wi b hO h2,k12.keep b hb]
    ·rw [z6,z5,zb4]
    ·rw [hbef,hfl]
    ·rw [hbef,hfl]
 ·rintro ch w1 ⟨x,hfl,rfl⟩ k1;have g1:=k1.good hm.good;have hh1:=k1.hrep hhp;have t8':=k1.rep t8;have t9':=k1.rep t9;show LeavesInM _ _ _ _ b4.tmps _ b4.defers (.panicking (ZP uX x)) w1;rw [fb4];refine⟨by simp,.inr ⟨λhh=>(by cases hh),.func 83,#[],83,#[.pointer (some ⟨be,0,none⟩),.pointer (some ⟨bl,0,none⟩)],rfl,?_,λ_ _=>trivial,?_⟩⟩
  ·simp [go_sem]
  ·obtain⟨bl',ul',a1,a2,a3,a4,_⟩:=yL hh1 t8' rfl;obtain⟨be',ue',c1,c2,c3,c4,_⟩:=yL hh1 t9' rfl;rw [hl1] at a1;rw [he1] at c1;cases a1;cases c1;simp only [Rep] at c4;subst c4;refine(YH be bl x 0 ul' [] w1 c2 c3 a2 a3 hne).mono ?_;rintro e u' w5 ⟨rfl,rfl,rfl⟩;show LeavesInM _ _ _ _ _ _ _ .returning _;rw [he1] at t9';obtain⟨ws1,q1,P1⟩:=xf (P:=prog) (t:=40) (cv:=[.i x]) (v:=.i x) (n:=1) g1 hh1 t9' (cells:=[.i 0]) rfl (by kernel_rfl) ⟨_,_,rfl,rfl,rfl⟩ rfl (aJ _) rfl;rw [Wd (P:=prog) (by kernel_rfl) rfl c2 c3 rfl] at q1;cases q1;have t8'':Rep (Go.Sx.Own O σ) (w1.setCell ⟨be,0,none⟩ (.i x)) (.ptr 2 0) σ (a.tmps.getD 8 undef):=zU (K:=[]) P1.ext P1.hold _ _ (qW _) t8';obtain⟨bl2,ul2,d1,d2,d3,d4,_⟩:=yL P1.hp t8'' rfl;rw [hl1] at d1;cases d1;rw [hl1] at t8'';obtain⟨ws2,q2,P2⟩:=xf (P:=prog) (t:=56) (cv:=[.nils]) (v:=.slice none 0 0) (n:=1) P1.good P1.hp t8'' (cells:=[.nils]) rfl (by kernel_rfl) ⟨_,_,rfl,by simp [Rep],rfl⟩ rfl (aJ _) rfl;rw [Wd (P:=prog) (by kernel_rfl) rfl d2 d3 rfl] at q2;cases q2;have k3:=Kept.alloc ((w1.setCell ⟨be,0,none⟩ (.i x)).setCell ⟨bl,0,none⟩ (.slice none 0 0)) (.cells #[.i x] 180);refine zf8 hq hm (x:=.nils) (e:=x) (k3.good P2.good) (k3.hrep P2.hp) ((k1.ext _).trans (P1.ext.trans (P2.ext.trans (k3.ext _)))) (λb hO hb=> ?_) (u8 8 (by decide)) (u8 9 (by decide)) zb4 (.inl ⟨rfl,?_⟩) ?_
   ·have h2:b<w1.heap.size:=bB hb k1.size;have h3:=bB h2 P1.ext.size;rw [k3.keep b (bB h3 P2.ext.size),P2.wi b hO h3,P1.wi b hO h2,k1.keep b hb]
   ·rw [hbef,hfl]
   ·rw [hbef,hfl]
theorem zgc:ze prog 52 vX:=by
 intro args hc Q hq _;simp only [vX,ctrP] at hq;split at hq
 ·obtain⟨⟨c,day,fin,f,h⟩,⟨h1,h2⟩,h3,h4⟩:=hq;have hq:=h4 _ rfl;refine jI.le h1 (door (fn:=f52) (c:=f52.body.getD .skip) (ctr:=vX) rfl rfl rfl (λhh=>by cases hh) (ι:={u:Unit // c.errC=0/\errE f h=0/\0<=day/\day<=99999/\0<=fin/\fin<=100000}) (λ_=>SBe day fin) (λ_=>HBe c f h) 6 4 (by kernel_rfl) (by kernel_rfl) ?_ ?_)
  ·intro O w0 I0 hl;exact ziy c day fin f h h2 hq
  ·rintro⟨_,hx⟩ O w0 I0 w σ a hl hm;have h0:I0=[]:=aU.1 (by simpa using hl);subst h0;exact zlb h2 hx hq hm
 ·exact hq.elim
end Go.Proofs.Tryz
end
section
namespace Go.Nov
theorem zuv{l:List Nat}(h:∀ p,p<l.length->l.getD p 0<10):Ten.dig l:=by
 intro d hd;obtain⟨i,hi,rfl⟩:=List.getElem_of_mem hd;have:=h i hi;simpa [List.getD,hi] using this
theorem zoi{l:List Nat}{n:Nat}(hn:l.length=n+1)(h:∀ p,p<n->l.getD p 0<10)(hv:Ten.val l<10^(n+1)):Ten.dig l:=by
 refine zuv λp hp=> ?_
 rcases aR p n with h1 | h1
 ·exact h p h1
 ·have:p=n:=by omega
  subst this;have e:=Ten.zt l p;rw [bF (by omega)] at e;rw [Nat.pow_succ] at hv;rcases aR (l.getD p 0) 10 with h2 | h2
  ·exact h2
  ·have:10^p*10<=10^p*l.getD p 0:=aS _ h2;have hB:Ten.B=10:=rfl;rw [hB] at e;omega
def Yj(p:List Nat×List Nat)(r:List Nat):Prop:=r.length=p.1.length+p.2.length/\Ten.dig r/\Ten.val r=Ten.val p.1*Ten.val p.2
theorem ze3{l m:List Nat}(hl:Ten.dig l)(hm:Ten.dig m):Ten.val l*Ten.val m<10^(l.length+m.length):=by
 have h1:=Ten.zZ hl;have h2:=Ten.zZ hm;have hB:Ten.B=10:=rfl;rw [hB] at h1 h2;rw [Nat.pow_add];exact Nat.mul_lt_mul_of_lt_of_lt h1 h2
theorem zkq{l m:List Nat}(hl:Ten.dig l)(hm:Ten.dig m):∃ r,Yj (l,m) r:=
 ⟨decs (l.length+m.length) (Ten.val l*Ten.val m),kG _ _,yp _ _,yO _ _ (ze3 hl hm)⟩
theorem zjw{o:List Nat}{i j V a vt b:Nat}(hp:i+j<o.length)(h:Ten.val o=V+10^i*(a*vt)):Ten.val (o.set (i+j) (o.getD (i+j) 0+a*b))=V+10^i*(a*(vt+10^j*b)):=by
 have hs:=Ten.kV o (i+j) (o.getD (i+j) 0+a*b) hp;have hB:Ten.B=10:=rfl;rw [hB,bN,Nat.pow_add] at hs
 have e:10^i*(a*(vt+10^j*b))=10^i*(a*vt)+10^i*10^j*(a*b):=by
  rw [bN,bN];congr 1;rw [bI,Nat.mul_left_comm a]
 rw [e];omega
theorem zcl{o:List Nat}{i:Nat}(hi:i+1<o.length):Ten.val ((o.set (i+1) (o.getD (i+1) 0+o.getD i 0/10)).set i (o.getD i 0%10))=Ten.val o:=by
 have h1:=Ten.kV o (i+1) (o.getD (i+1) 0+o.getD i 0/10) hi;have h2:=Ten.kV (o.set (i+1) (o.getD (i+1) 0+o.getD i 0/10)) i (o.getD i 0%10) (by simp; omega)
 have e:(o.set (i+1) (o.getD (i+1) 0+o.getD i 0/10)).getD i 0=o.getD i 0:=by
  simp only [List.getD];rw [bS (by omega)]
 have hB:Ten.B=10:=rfl;rw [e,hB] at h2;rw [hB,bN,Nat.pow_succ] at h1;have hdm:=Nat.div_add_mod (o.getD i 0) 10
 have:10^i*o.getD i 0=10^i*10*(o.getD i 0/10)+10^i*(o.getD i 0%10):=by
  rw [bI,<- bN,hdm]
 omega
theorem vL{o:List Nat}{i p x:Nat}(hi:i<o.length):(o.set i x).getD p 0=if p=i then x else o.getD p 0:=by
 simp only [List.getD];by_cases h:p=i
 ·subst h; simp [hi]
 ·rw [bS (by omega),aO h]
end Go.Nov
end
section
set_option maxRecDepth 100000
open Go Go.Sx Go.Proofs Go.Nov
namespace Go.Proofs.Tryz
attribute [local simp] eqKV eqA eqA0 eqH eqB eqL eqL0
noncomputable def K150:=Go.Sx.aA f150
def Xt:Ctr:=ctrP true (λp:List Nat×List Nat=>[nat6 p.1,nat6 p.2]) (λp=>Ten.dig p.1/\Ten.dig p.2/\0<p.1.length/\0<p.2.length/\p.1.length<2^30/\p.2.length<2^30) Yj (λ_ r=>(nat6 r,[]))
def STm(l m o:List Nat)(i:Nat):KV:=[(0,nat6 l),(1,nat6 m),(5,.osl 0 1 0 o.length),(6,.i (i:Int)),Z 7,Z 8]
def STm2(l m o:List Nat)(i j:Nat):KV:=[(0,nat6 l),(1,nat6 m),(5,.osl 0 1 0 o.length),(6,.i (i:Int)),(7,.i (j:Int)),Z 8]
def STm3(o:List Nat)(i:Nat):KV:=[Z 0,Z 1,(5,.osl 0 1 0 o.length),Z 6,Z 7,(8,.i (i:Int))]
theorem VS{o:List Nat}{i:Nat}{v:Int}{x:Nat}(hv:v=x)(hi:i<o.length):eqG o.length 1 (updG (natG .i64 o) i 0 [.i v]) (natG .i64 (o.set i x)):=by
 have:=vA (k:=.i64) (l:=o) (v:=v) (by omega) hi;subst hv;simpa using this
theorem U3{O:Nat->Prop}{w0:World}{Q:AV×Heap->Prop}{Hs:Nat->KV->Heap->Prop}(l m o0:List Nat)(hl:Ten.dig l)(hm:Ten.dig m)(hll:0<l.length)(hml:0<m.length)(hl2:l.length<2^30)(hm2:m.length<2^30)(hlen:o0.length=l.length+m.length)(hv:Ten.val o0=Ten.val l*Ten.val m)(hb:∀ p,o0.getD p 0<=81*2^30)
  (hq:∀ r,Yj (l,m) r->Q (nat6 r,[])) (kv:KV) (h:Heap) (hle:LeK 0 f150.ntmps kv h (STm3 o0 0) [.arr o0.length 1 (natG .i64 o0)]) :
  zc prog f150 O 0 w0 [] Hs (RetR Xt 0 Q) (.code (.loop (lps (inside K150 0) 1).1)::(lps (inside K150 0) 1).2) (mk f150.ntmps kv h):=by
 refine zc.loop (ι:={z:List Nat×Nat // z.1.length=l.length+m.length/\z.2<l.length+m.length/\Ten.val z.1=Ten.val l*Ten.val m/\(∀ p,p<z.2->z.1.getD p 0<10)/\(∀ p,z.2<p->z.1.getD p 0<=81*2^30)/\z.1.getD z.2 0<=2*(81*2^30)}) (λz=>STm3 z.1.1 z.1.2) (λz=>[.arr z.1.1.length 1 (natG .i64 z.1.1)]) (λz=>l.length+m.length - z.1.2) ⟨(o0,0),hlen,by simp only; omega,hv,λp hp=>by simp at hp,λp _=>hb p,by have:=hb 0; simp only; omega⟩ 0 hle ?_ (by kernel_rfl);rintro⟨⟨o,i⟩,hol,hil,hov,h10,hM,h2M⟩;simp only at hol hil hov h10 hM h2M;by_cases hlt:i+1<o.length
 ·refine zc.seq (by kernel_rfl) (zc.cut (ι:=Unit) (λ_=>STm3 o i) (λ_=>[.arr o.length 1 (natG .i64 o)]) 1 ?_ (by kernel_rfl) λ_=> ?_)
  ·refine zc.n zw [0,1,5,6,7,8] (.S (i+1) (.D ((i:Int)+(1:Int)<o.length) (.leaf (.back 1 [Z 0,Z 1,(5,.osl 0 1 0 o.length),Z 6,Z 7,(8,.i i)] [.arr o.length 1 (natG .i64 o)])) (.R [.osl 0 1 0 o.length] [.arr o.length 1 (natG .i64 o)]))) ?_;simp only [Tree.holds,zf,inR,lo,hi,aD];refine⟨by omega,λ_=>⟨λ_=> ?_,λhno=>absurd (aC hno) (by omega)⟩⟩;rw [aP trivial];exact⟨(),by simp [STm3],by simp [za],by kernel_rfl,aI _⟩
  have hx:o.getD i 0/10<=o.getD i 0:=Nat.div_le_self _ _;have hnext:=hM (i+1) (by omega);have c1:((i:Int)+1)=((i+1:Nat):Int):=by omega
  have hl1:(o.set (i+1) (o.getD (i+1) 0+o.getD i 0/10)).length=o.length:=by simp
  refine zc.seq (by kernel_rfl) (zc.block (by kernel_rfl) (zc.seq (by kernel_rfl) (zc.cut (ι:=Unit) (λ_=>STm3 (o.set (i+1) (o.getD (i+1) 0+o.getD i 0/10)) i) (λ_=>[.arr (o.set (i+1) (o.getD (i+1) 0+o.getD i 0/10)).length 1 (natG .i64 (o.set (i+1) (o.getD (i+1) 0+o.getD i 0/10)))]) 1 ?_ (by kernel_rfl) λ_=> ?_)))
  ·refine zc.n zw [0,1,5,6,7,8] (let v1:=inR .i64 (i+1);.side v1 (.side v1 (.side ((0:Int)<=i+(1:Int)/\(i:Int)+(1:Int)<o.length) (.side ((0:Int)<=i/\(i:Int)<o.length) (.side ((10:Int)≠0/\inR .i64 (Int.tdiv (↑(o.getD (0+Int.toNat i) 0):Int) (10:Int))) (.S ((↑(o.getD (0+Int.toNat (i+1)) 0):Int)+Int.tdiv (↑(o.getD (0+Int.toNat i) 0):Int) (10:Int)) (.side ((0:Int)<=i+(1:Int)/\(i:Int)+(1:Int)<o.length) (.leaf (.back 1 [Z 0,Z 1,(5,.osl 0 1 0 o.length),Z 6,Z 7,(8,.i i)] [.arr o.length 1 (updG (natG .i64 o) (0+Int.toNat (i+1)) 0 [.i ((↑(o.getD (0+Int.toNat (i+1)) 0):Int)+Int.tdiv (↑(o.getD (0+Int.toNat i) 0):Int) (10:Int))])]))))))))) ?_;simp only [Tree.holds,zf,inR,lo,hi,c1,aD,Nat.zero_add];have ed:((o.getD i 0:Nat):Int).tdiv 10=((o.getD i 0/10:Nat):Int):=rfl;rw [ed];generalize ho1:o.getD (i+1) 0=x1 at *
   generalize ho0:o.getD i 0/10=x0 at *
   iterate 7 refine⟨by omega,λ_=> ?_⟩
   rw [aP trivial];refine⟨(),by simp [STm3],⟨⟨by simp,rfl,VS (by omega) hlt⟩,trivial⟩,by kernel_rfl,aI _⟩
  obtain⟨o1,ho1⟩:∃ o1,o.set (i+1) (o.getD (i+1) 0+o.getD i 0/10)=o1:=⟨_,rfl⟩;have hcar:=zcl hlt;have g0:o1.getD i 0=o.getD i 0:=by rw [<- ho1,vL hlt,aO (by omega)]
  have g1:o1.getD (i+1) 0=o.getD (i+1) 0+o.getD i 0/10:=by rw [<- ho1,vL hlt,aP rfl]
  have gn:∀ p,p≠i+1->o1.getD p 0=o.getD p 0:=λp hp=>by rw [<- ho1,vL hlt,aO hp]
  have hl2':o1.length=o.length:=by rw [<- ho1]; simp
  rw [ho1] at hcar ⊢;rw [<- g0] at hcar;refine zc.n zw [0,1,5,6,7,8] (.side ((0:Int)<=i/\(i:Int)<o1.length) (.side ((10:Int)≠0) (.side ((0:Int)<=i/\(i:Int)<o1.length) (.S (i+1) (.leaf (.back 0 [Z 0,Z 1,(5,.osl 0 1 0 o1.length),Z 6,Z 7,(8,.i (i+1))] [.arr o1.length 1 (updG (natG .i64 o1) (0+Int.toNat i) 0 [.i (Int.tmod (↑(o1.getD (0+Int.toNat i) 0):Int) (10:Int))])])))))) ?_;simp only [Tree.holds,zf,inR,lo,hi,c1,aD,Nat.zero_add];have em:((o1.getD i 0:Nat):Int).tmod 10=((o1.getD i 0%10:Nat):Int):=rfl;rw [em];have hm10:o1.getD i 0%10<10:=Nat.mod_lt _ (by decide)
  iterate 4 refine⟨by first | omega | decide,λ_=> ?_⟩
  rw [aP trivial];refine⟨⟨(o1.set i (o1.getD i 0%10),i+1),by simp [hl2',hol],by omega,by rw [hcar]; exact hov,λp hp=> ?_,λp hp=> ?_,?_⟩,by show _ - (i+1)<_ - i; omega,by simp [STm3],⟨⟨by simp,rfl,VS rfl (by omega)⟩,trivial⟩,by kernel_rfl,aI _⟩
  ·show(o1.set i _).getD p 0<10;rw [vL (by omega)];split
   ·exact hm10
   ·rw [gn p (by have:p<i+1:=hp; omega)]; exact h10 p (by have:p<i+1:=hp; omega)
  ·have hp:i+1<p:=hp;show(o1.set i _).getD p 0<=_;rw [vL (by omega),aO (by omega),gn p (by omega)];exact hM p (by omega)
  ·show(o1.set i _).getD (i+1) 0<=_;rw [vL (by omega),aO (by omega),g1];have:o.getD i 0/10<=2*(81*2^30)/10:=Nat.div_le_div_right h2M;omega
 ·refine zc.seq (by kernel_rfl) (zc.cut (ι:={x:Unit // False}) (λ_=>[]) (λ_=>[]) 1 ?_ (by kernel_rfl) λx=>x.2.elim)
  ·refine zc.n zw [0,1,5,6,7,8] (.S (i+1) (.D ((i:Int)+(1:Int)<o.length) (.leaf (.back 1 [Z 0,Z 1,(5,.osl 0 1 0 o.length),Z 6,Z 7,(8,.i i)] [.arr o.length 1 (natG .i64 o)])) (.R [.osl 0 1 0 o.length] [.arr o.length 1 (natG .i64 o)]))) ?_;simp only [Tree.holds,zf,inR,lo,hi,aD];refine⟨by omega,λ_=>⟨λhno=>absurd (aB hno) (by omega),λ_=> ?_⟩⟩;refine RetR.nats (hq o ⟨hol,zoi (n:=i) (by omega) h10 ?_,hov⟩) rfl;rw [hov];have:=ze3 hl hm;rw [show i+1=l.length+m.length by omega];exact this
theorem zg9{o:List Nat}{v:Int}{i d i':Nat}(hv:v=d)(hi:i<o.length)(hi':i'=i):eqH [.arr o.length 1 (updG (natG .i64 o) i' 0 [.i v])] [.arr (o.set i d).length 1 (natG .i64 (o.set i d))]:=heap_set hv hi hi'
theorem zgj:ze prog 150 Xt:=by
 refine zh' f150 λp hp O w0 Q hq=> ?_
 obtain⟨l,m⟩:=p;obtain⟨hl,hm,hll,hml,hl2,hm2⟩:=hp;simp only at hq hl hm hll hml hl2 hm2;refine zc.n zw [0,1,5,6,7,8] (let v1:=Int.toNat ((l.length:Int)+m.length);.S ((l.length:Int)+m.length) (.side ((0:Int)<=l.length+(m.length:Int)/\(l.length:Int)+m.length<=(l.length:Int)+m.length/\inR .i64 ((l.length:Int)+m.length)/\Int.toNat ((l.length:Int)+m.length)*8<=140737488355328) (.leaf (.loop (lps K150 0).1 (lps K150 0).2 [(0,.sl l.length 1 (natG .i64 l)),(1,.sl m.length 1 (natG .i64 m)),(5,.osl 0 1 0 v1),(6,.i 0),Z 7,Z 8] [.arr v1 1 (kT [.i 0])])))) ?_;have es:((l.length:Int)+(m.length:Int))=((l.length+m.length:Nat):Int):=by omega
 simp only [Tree.holds,zf,inR,lo,hi,es,aD];refine⟨by omega,λ_=>⟨by omega,λ_=> ?_⟩⟩
 have hrep:∀ p,(List.replicate (l.length+m.length) 0).getD p 0=0:=λp=>by
  simp only [List.getD,List.getElem?_replicate];split<;>rfl
 refine zc.loop (ι:={z:List Nat×Nat // z.1.length=l.length+m.length/\z.2<=l.length/\Ten.val z.1=Ten.val (l.take z.2)*Ten.val m/\∀ p,z.1.getD p 0<=81*z.2}) (λz=>STm l m z.1.1 z.1.2) (λz=>[.arr z.1.1.length 1 (natG .i64 z.1.1)]) (λz=>l.length - z.1.2) ⟨(List.replicate (l.length+m.length) 0,0),by simp,aI _,by simp [Ten.qP,Ten.val],λp=>by simp only [hrep]; exact aI _⟩ 0 ?_ ?_ (by kernel_rfl)
 ·exact⟨by simp [STm,natS,za],by simp [uD],by kernel_rfl,aI _⟩
 rintro⟨⟨o,i⟩,hol,hil,hov,hob⟩;simp only at hol hil hov hob;refine zc.n zw [0,1,5,6,7,8] (let v1:=inside K150 0;.D ((i:Int)<l.length) (.leaf (.loop (lps v1 0).1 (lps v1 0).2 [(0,.sl l.length 1 (natG .i64 l)),(1,.sl m.length 1 (natG .i64 m)),(5,.osl 0 1 0 o.length),(6,.i i),(7,.i 0),Z 8] [.arr o.length 1 (natG .i64 o)])) (.leaf (.loop (lps v1 1).1 (lps v1 1).2 [(0,.sl l.length 1 (natG .i64 l)),(1,.sl m.length 1 (natG .i64 m)),(5,.osl 0 1 0 o.length),(6,.i i),Z 7,(8,.i 0)] [.arr o.length 1 (natG .i64 o)]))) ?_;simp only [Tree.holds,zf,inR,lo,hi,aD];refine⟨λhlt=> ?_,λhge=> ?_⟩
 ·have hlt:i<l.length:=by have:=aB hlt; omega
  refine zc.loop (ι:={z:List Nat×Nat // z.1.length=l.length+m.length/\z.2<=m.length/\Ten.val z.1=Ten.val (l.take i)*Ten.val m+10^i*(l.getD i 0*Ten.val (m.take z.2))/\(∀ p,z.1.getD p 0<=81*i+81)/\∀ p,i+z.2<=p->z.1.getD p 0<=81*i}) (λz=>STm2 l m z.1.1 i z.1.2) (λz=>[.arr z.1.1.length 1 (natG .i64 z.1.1)]) (λz=>m.length - z.1.2) ⟨(o,0),hol,aI _,by simp [hov,Ten.val],λp=>by have:=hob p; simp only; omega,λp _=>hob p⟩ 1 ?_ ?_ (by kernel_rfl)
  ·exact⟨by simp [STm2,natS,za],by simp [za],by kernel_rfl,aI _⟩
  rintro⟨⟨o2,j⟩,hol2,hjl,hov2,hob2,hob3⟩;simp only at hol2 hjl hov2 hob2 hob3;have e1:((i:Int)+(j:Int))=((i+j:Nat):Int):=by omega
  refine zc.n zw [0,1,5,6,7,8] (.D ((j:Int)<m.length) (.S ((i:Int)+j) (.S ((i:Int)+j) (.side ((0:Int)<=i+(j:Int)/\(i:Int)+j<(o2.length:Int)) (.side ((0:Int)<=i/\(i:Int)<l.length) (.side ((0:Int)<=j/\(j:Int)<m.length) (.S ((↑(l.getD (i:Int).toNat 0):Int)*(↑(m.getD (j:Int).toNat 0):Int)) (.S ((↑(o2.getD (0+Int.toNat ((i:Int)+j)) 0):Int)+(↑(l.getD (i:Int).toNat 0):Int)*(↑(m.getD (j:Int).toNat 0):Int)) (.side ((0:Int)<=i+(j:Int)/\(i:Int)+j<(o2.length:Int)) (.S (j+1) (.leaf (.back 1 [(0,.sl l.length 1 (natG .i64 l)),(1,.sl m.length 1 (natG .i64 m)),(5,.osl 0 1 0 o2.length),(6,.i i),(7,.i (j+1)),Z 8] [.arr o2.length 1 (updG (natG .i64 o2) (0+Int.toNat ((i:Int)+j)) 0 [.i ((↑(o2.getD (0+Int.toNat ((i:Int)+j)) 0):Int)+(↑(l.getD (i:Int).toNat 0):Int)*(↑(m.getD (j:Int).toNat 0):Int))])]))))))))))) (.S (i+1) (.leaf (.back 0 [(0,.sl l.length 1 (natG .i64 l)),(1,.sl m.length 1 (natG .i64 m)),(5,.osl 0 1 0 o2.length),(6,.i (i+1)),(7,.i j),Z 8] [.arr o2.length 1 (natG .i64 o2)])))) ?_;simp only [Tree.holds,zf,inR,lo,hi,e1,aD,Nat.zero_add];have hx:l.getD i 0<10:=Ten.zP hl i;have hy:m.getD j 0<10:=Ten.zP hm j;have hxy:l.getD i 0*m.getD j 0<=9*9:=Nat.mul_le_mul (by omega) (by omega);have e3:(((l.getD i 0:Nat):Int))*((m.getD j 0:Nat):Int)=((l.getD i 0*m.getD j 0:Nat):Int):=by simp
  rw [e3];have hob3':=hob3 (i+j) (aJ _);refine⟨λhj=> ?_,λhj=> ?_⟩
  ·have hj:j<m.length:=by have:=aB hj; omega
   have hp:i+j<o2.length:=by omega
   have hcell:=zjw (o:=o2) (i:=i) (j:=j) (V:=Ten.val (l.take i)*Ten.val m) (a:=l.getD i 0) (vt:=Ten.val (m.take j)) (b:=m.getD j 0) hp hov2;have htk:=Ten.zt m j;have hB:Ten.B=10:=rfl;rw [hB] at htk;rw [<- htk] at hcell;generalize hxyv:l.getD i 0*m.getD j 0=xy at *
   iterate 9 refine⟨by omega,λ_=> ?_⟩
   rw [aP trivial];refine⟨⟨(o2.set (i+j) (o2.getD (i+j) 0+xy),j+1),by simpa using hol2,hj,hcell,λp=> ?_,λp hp2=> ?_⟩,by show _ - (j+1)<_ - j; omega,by simp [STm2,natS,za],zg9 (by omega) hp rfl,by kernel_rfl,aI _⟩
   ·show(o2.set _ _).getD p 0<=_;rw [vL hp];split
    ·omega
    ·exact hob2 p
   ·have hp2:i+(j+1)<=p:=hp2;show(o2.set _ _).getD p 0<=_;rw [vL hp,aO (by omega)];exact hob3 p (by omega)
  ·have hj:j=m.length:=by have:=aC hj; omega
   subst hj;refine⟨by omega,λ_=> ?_⟩;rw [aO (by decide),aP trivial];refine⟨⟨(o2,i+1),hol2,hlt,?_,λp=>by have:=hob2 p; simp only; omega⟩,by show _ - (i+1)<_ - i; omega,by simp [STm,natS,za],by simp [za],by kernel_rfl,aI _⟩;show Ten.val o2=Ten.val (l.take (i+1))*Ten.val m;rw [bD] at hov2;have htk:=Ten.zt l i;have hB:Ten.B=10:=rfl;rw [hB] at htk;rw [hov2,htk,bH,bI]
 ·have hge:i=l.length:=by have:=aC hge; omega
  subst hge;rw [bD] at hov;exact U3 l m o hl hm hll hml hl2 hm2 hol hov (λp=>by have:=hob p; omega) hq _ _ ⟨by simp [STm3],by simp [za],by kernel_rfl,aI _⟩
end Go.Proofs.Tryz
end
