/- Part 6 of the proof. -/
import Derived.Test.YtpmofcdjkhmdaaaGreatDoorSxe
set_option linter.unusedVariables false
set_option linter.unusedSimpArgs false
set_option linter.unusedSectionVars false
section
namespace Go.Sx
variable [Stat]
section
variable {own own' O:Nat→Prop} {w w':World} {σ σ':List SE} {P:Program} {fn:Func} {Xp:List PanicEntry→Prop}
def upA0(d k:Nat):AV→AV→Prop
 | .nils,.osl i _ off n=>(d≤i∧i<d+k)∧off=0∧n=0
 | a,b=>a=b
def upL0(d k:Nat):List AV→List AV→Prop
 | [],[]=>True
 | a::l,b::m=>upA0 d k a b∧upL0 d k l m
 | _,_=>False
def upA1(d k:Nat):AV→AV→Prop
 | .agg l,.agg m=>upL0 d k l m
 | a,b=>upA0 d k a b
def upL1(d k:Nat):List AV→List AV→Prop
 | [],[]=>True
 | a::l,b::m=>upA1 d k a b∧upL1 d k l m
 | _,_=>False
def upA2(d k:Nat):AV→AV→Prop
 | .tup l,.tup m=>upL1 d k l m
 | a,b=>upA1 d k a b
def jM(k:Nat):List SE:=List.replicate k ⟨none,0⟩
theorem Qa.mono{g:Nat}{vals:Array Value}{R R':Value→World→Prop}(hR:∀ v w',R v w'→R' v w')(h:Qa P g vals w R):Qa P g vals w R':=by
 rcases h with ⟨h1,h2⟩ | ⟨v,w',h1,h2⟩
 ·exact .inl ⟨h1,h2.mono fun e w' ⟨v,he,hv⟩=>⟨v,he,hR v w' hv⟩⟩
 ·exact .inr ⟨v,w',h1,hR v w' h2⟩
theorem qX{k i:Nat}{e:SE}(h:(σ++jM k)[i]?=some e):(i<σ.length∧σ[i]?=some e)∨(σ.length≤i∧e=⟨none,0⟩):=by
 rw [List.getElem?_append] at h
 split at h
 ·rename_i hi; exact .inl ⟨hi,h⟩
 ·rename_i hi
  right
  refine⟨by omega,?_⟩
  simp only [jM,List.getElem?_replicate] at h
  split at h
  ·cases h; rfl
  ·cases h
theorem JK{k b:Nat}(h:Mine (σ++jM k) b):Mine σ b:=by
 obtain⟨e,he,ad,h1,h2⟩:=h
 rcases List.mem_append.1 he with he | he
 ·exact⟨e,he,ad,h1,h2⟩
 ·have:=List.eq_of_mem_replicate he
  subst this
  cases h1
theorem ZG{k b:Nat}(h:Own O (σ++jM k) b):Own O σ b:=by
 rcases h with h | h
 ·exact .inl h
 ·exact .inr (JK h)
theorem ke(K:List Nat)(w:World)(σ:List SE)(k:Nat):Hold K w σ w (σ++jM k):=fun i e he _=>by
 have hi:=(List.getElem?_eq_some_iff.1 he).1
 exact⟨by rw [List.getElem?_append_left hi]; exact he,fun ad _ cs el h=>⟨cs,el,h,rfl⟩⟩
theorem V6{k:Nat}(hx:Ext own w own' w){a b:AV}{v:Value}(hu:upA0 σ.length k a b)(ha:Rep own w a σ v):Rep own' w b (σ++jM k) v:=by
 unfold upA0 at hu
 split at hu
 ·obtain⟨⟨h1,h2⟩,rfl,rfl⟩:=hu
  rename_i i sz _ _
  simp only [Rep] at ha ⊢
  refine⟨⟨none,0⟩,?_,by simp,none,0,ha,Nat.le_refl _,.inl rfl⟩
  rw [List.getElem?_append_right h1,jM,List.getElem?_replicate,if_pos (by omega)]
 ·subst hu
  exact zW (K:=[]) hx (ke [] w σ k) _ _ (jc _) ha
theorem Q9{k:Nat}(hx:Ext own w own' w):∀ {l m:List AV} {vs:List Value},upL0 σ.length k l m→RepL own w l σ vs→RepL own' w m (σ++jM k) vs
 | [],[],vs,_,h=>by simpa [RepL] using h
 | a::l,b::m,vs,hl,h=>by
  simp only [RepL] at h ⊢
  obtain⟨v,r,hv,h1,h2⟩:=h
  exact⟨v,r,hv,V6 hx hl.1 h1,Q9 hx hl.2 h2⟩
 | [],_::_,_,hl,_=>hl.elim
 | _::_,[],_,hl,_=>hl.elim
theorem Wv{k:Nat}(hx:Ext own w own' w){a b:AV}{v:Value}(hu:upA1 σ.length k a b)(ha:Rep own w a σ v):Rep own' w b (σ++jM k) v:=by
 unfold upA1 at hu
 split at hu
 ·simp only [Rep] at ha ⊢
  obtain⟨vs,hv,hr⟩:=ha
  exact⟨vs,hv,Q9 hx hu hr⟩
 ·exact V6 hx hu ha
theorem yJ{k:Nat}(hx:Ext own w own' w):∀ {l m:List AV} {vs:List Value},upL1 σ.length k l m→RepL own w l σ vs→RepL own' w m (σ++jM k) vs
 | [],[],vs,_,h=>by simpa [RepL] using h
 | a::l,b::m,vs,hl,h=>by
  simp only [RepL] at h ⊢
  obtain⟨v,r,hv,h1,h2⟩:=h
  exact⟨v,r,hv,Wv hx hl.1 h1,yJ hx hl.2 h2⟩
 | [],_::_,_,hl,_=>hl.elim
 | _::_,[],_,hl,_=>hl.elim
theorem Vr{k:Nat}(hx:Ext own w own' w){a b:AV}{v:Value}(hu:upA2 σ.length k a b)(ha:Rep own w a σ v):Rep own' w b (σ++jM k) v:=by
 unfold upA2 at hu
 split at hu
 ·simp only [Rep] at ha ⊢
  obtain⟨vs,hv,hr⟩:=ha
  exact⟨vs,hv,yJ hx hu hr⟩
 ·exact Wv hx hu ha
def kH(szs:List (Nat×(Nat→Nat→AV))):Heap:=szs.map fun s=>.arr 0 s.1 s.2
theorem zk5(hx:Ext own w own' w){hs:Heap}(hh:HRep own w σ hs)(szs:List (Nat×(Nat→Nat→AV))):HRep own' w (σ++jM szs.length) (hs++kH szs):=by
 have hl:=hh.len
 refine⟨by simp [jM,kH,hl],fun i j e f a b he hf ha hb hij=> ?_,fun i e a he ha=> ?_,fun i e b he hb=> ?_⟩
 ·rcases qX he with ⟨_,he⟩ | ⟨_,rfl⟩
  ·rcases qX hf with ⟨_,hf⟩ | ⟨_,rfl⟩
   ·exact hh.inj i j e f a b he hf ha hb hij
   ·cases hb
  ·cases ha
 ·rcases qX he with ⟨_,he⟩ | ⟨_,rfl⟩
  ·exact hh.lt i e a he ha
  ·cases ha
 ·rcases qX he with ⟨hi,he⟩ | ⟨hi,rfl⟩
  ·rw [List.getElem?_append_left (by omega)] at hb
   have:=ja (K:=[]) hx (ke [] w σ szs.length) (hh.blk i e b he hb) (fun _ _=>rfl)
   rwa [ji] at this
  ·rw [List.getElem?_append_right (by omega)] at hb
   simp only [kH,List.getElem?_map] at hb
   cases hz:szs[i - hs.length]? with
   | none=>simp [hz] at hb
   | some s=>
    simp only [hz,Option.map_some,Option.some.injEq] at hb
    subst hb
    exact⟨rfl,.inl rfl⟩
def upQ(Q:AV×Heap→Prop)(p:AV×Heap):Prop:=Q p∨∃ (r:AV) (szs:List (Nat×(Nat→Nat→AV))),upA2 p.2.length szs.length p.1 r∧Q (r,p.2++kH szs)
theorem jH.up{g:Nat}{c:Ctr}{args:List AV}{hc:Heap}{Q:AV×Heap→Prop}(h:jH P g c args hc (upQ Q)):jH P g c args hc Q:=by
 intro O w σ vals hg hh hr
 refine Qa.mono ?_ (h O w σ vals hg hh hr)
 rintro v w' ⟨r,hs,σ',hq,h1,h2,h3,h4,h5,h6⟩
 rcases hq with hq | ⟨r',szs,hu,hq⟩
 ·exact⟨r,hs,σ',hq,h1,h2,h3,h4,h5,h6⟩
 ·have hx:Ext (fun b=>Own O σ' b∨(c.fresh=true∧b<w.heap.size)) w' (fun b=>Own O (σ'++jM szs.length) b∨(c.fresh=true∧b<w.heap.size)) w':=
   ⟨rfl,rfl,rfl,Nat.le_refl _,fun _ _ _=>rfl,fun b hb=>.inl (hb.imp ZG id)⟩
  have hl:hs.length=σ'.length:=h2.len.symm
  refine⟨r',hs++kH szs,σ'++jM szs.length,hq,Vr hx (by rw [← hl]; exact hu) h1,zk5 hx h2 szs,⟨h3.old,fun i e ad he had=> ?_,h3.stat.own fun b hb=>ZG hb⟩,by simp; omega,h5.Ub (ke [] w' σ' _),?_⟩
  ·rcases qX he with ⟨_,he⟩ | ⟨_,rfl⟩
   ·exact h3.dis i e ad he had
   ·cases had
  ·exact⟨h6.os,h6.tape,h6.output,h6.size,h6.keep,fun b hb=>h6.grow b (JK hb)⟩
theorem ze5{X R:Type}{fresh:Bool}{inp:X→List AV}{pre:X→Prop}{post:X→R→Prop}{out:X→R→AV×Heap}{g:Nat}{c:Code}(hf:P.funcs[g]?=some fn)(hb:fn.body=some c) (hn:(fn.name == "runtime.NumGoroutine")=false)
  (H:∀ x,pre x→∀ (O:Nat→Prop) (w0:World) (Q:AV×Heap→Prop),(∀ r,post x r→Q (out x r)) →
   zb P fn O 0 w0 [] (fun _ _ _=>False) (RetR (ctrP fresh inp pre post out) 0 (upQ Q)) [.code c] (entry fn (inp x))):zd P g (ctrP fresh inp pre post out):=by
 intro args hc Q hq _
 simp only [ctrP] at hq
 split at hq
 ·obtain⟨x,⟨h1,h4⟩,h5,h6⟩:=hq
  refine jH.le h1 (jH.up (fn_k hf hb hn (fun h=>rfl) fun O w0 σ0 hl=> ?_))
  have h0:σ0=[]:=List.length_eq_zero_iff.1 (by simpa using hl)
  subst h0
  exact H x h4 O w0 Q h6
 ·exact hq.elim
def upKV(d k:Nat):KV→KV→Prop
 | [],[]=>True
 | (i,a)::l,(j,b)::m=>i=j∧upA2 d k a b∧upKV d k l m
 | _,_=>False
def upB(d k:Nat):Blk→Blk→Prop
 | .box l,.box m=>upL1 d k l m
 | a,b=>a=b
def upH(d k:Nat):Heap→Heap→Prop
 | [],[]=>True
 | b::l,c::m=>upB d k b c∧upH d k l m
 | _,_=>False
theorem W5{d k:Nat} : ∀ {l m:KV} (t:Nat),upKV d k l m→upA2 d k (look l t) (look m t)
 | [],[],t,_=>by simp [look,upA2,upA1,upA0]
 | (i,a)::l,(j,b)::m,t,h=>by
  obtain⟨rfl,h1,h2⟩:=h
  simp only [look]
  split
  ·exact h1
  ·exact W5 t h2
 | [],_::_,_,h=>h.elim
 | _::_,[],_,h=>h.elim
theorem UX{d k:Nat} : ∀ {l m:Heap},upH d k l m→l.length=m.length
 | [],[],_=>rfl
 | _::l,_::m,h=>by simp [UX h.2]
 | [],_::_,h=>h.elim
 | _::_,[],h=>h.elim
theorem zam{d k:Nat} : ∀ {l m:Heap} {i:Nat} {b':Blk},upH d k l m→m[i]?=some b'→∃ b,l[i]?=some b∧upB d k b b'
 | b::l,c::m,0,b',h,h1=>by simp at h1; subst h1; exact⟨b,rfl,h.1⟩
 | b::l,c::m,i+1,b',h,h1=>by simpa using zam h.2 (by simpa using h1)
 | [],[],_,_,_,h1=>by simp at h1
 | [],_::_,_,_,h,_=>h.elim
 | _::_,[],_,_,h,_=>h.elim
theorem zdc{k:Nat}(hx:Ext own w own' w){e:SE}{b b':Blk}(hu:upB σ.length k b b')(hb:BRep own w σ e b):BRep own' w (σ++jM k) e b':=by
 unfold upB at hu
 split at hu
 ·simp only [BRep] at hb ⊢
  obtain⟨ad,vs,el,h1,h2,h3,h4⟩:=hb
  exact⟨ad,vs,el,h1,h2,h3,yJ hx hu h4⟩
 ·subst hu
  have:=ja (K:=[]) hx (ke [] w σ k) hb (fun _ _=>rfl)
  rwa [ji] at this
variable {pin:Nat} {w0:World} {σ0:List SE} {a:Act}
theorem up_mod{kv kv2:KV}{h h2:Heap}{n:Nat}(hm:Mod O pin w0 σ0 w σ (mk n kv h) a){szs:List (Nat×(Nat→Nat→AV))}(hkv:upKV h.length szs.length kv kv2)(hh2:upH h.length szs.length h h2)(hno:(pk n kv).all zF=true)(hno2:(pk n kv2).all zF=true):Mod O pin w0 σ0 w (σ++jM szs.length) (mk n kv2 (h2++kH szs)) a:=by
 have hx:Ext (Own O σ) w (Own O (σ++jM szs.length)) w:=⟨rfl,rfl,rfl,Nat.le_refl _,fun _ _ _=>rfl,fun b hb=>.inl (ZG hb)⟩
 have hl:h.length=σ.length:=hm.hp.len.symm
 rw [hl] at hkv hh2
 have hl2:=UX hh2
 refine⟨⟨hm.good.old,fun i e ad he had=> ?_,hm.good.stat.ext hx⟩,?_,by simp [hm.size,mk,pk],fun u=> ?_,hm.df.ext hx,hm.since.trans ⟨hx,fun _ _ _=>rfl,wL.of (ke [] w σ _) (by simp)⟩,hm.lim⟩
 ·rcases qX he with ⟨_,he⟩ | ⟨_,rfl⟩
  ·exact hm.good.dis i e ad he had
  ·cases had
 ·have hh:=hm.hp
  refine⟨by simp [mk,jM,kH,← hl2,hl],fun i j e f x y he hf ha hb hij=> ?_,fun i e x he ha=> ?_,fun i e b he hb=> ?_⟩
  ·rcases qX he with ⟨_,he⟩ | ⟨_,rfl⟩
   ·rcases qX hf with ⟨_,hf⟩ | ⟨_,rfl⟩
    ·exact hh.inj i j e f x y he hf ha hb hij
    ·cases hb
   ·cases ha
  ·rcases qX he with ⟨_,he⟩ | ⟨_,rfl⟩
   ·exact hh.lt i e x he ha
   ·cases ha
  ·simp only [mk] at hb
   rcases qX he with ⟨hi,he⟩ | ⟨hi,rfl⟩
   ·rw [List.getElem?_append_left (by omega)] at hb
    obtain⟨b0,h1,h3⟩:=zam hh2 hb
    exact zdc hx h3 (hh.blk i e b0 he h1)
   ·rw [List.getElem?_append_right (by omega)] at hb
    simp only [kH,List.getElem?_map] at hb
    cases hz:szs[i - h2.length]? with
    | none=>simp [hz] at hb
    | some s=>
     simp only [hz,Option.map_some,Option.some.injEq] at hb
     subst hb
     exact⟨rfl,.inl rfl⟩
 ·have hu:=hm.tm u
  have key:∀ (kv:KV) (h:Heap),(pk n kv).all zF=true→zF ((mk n kv h).tmps.getD u .undef)=true:=by
   intro kv h hno
   by_cases hlt:u<(mk n kv h).tmps.length
   ·simp only [List.getD,List.getElem?_eq_getElem hlt,Option.getD_some]
    exact List.all_eq_true.1 hno _ (List.getElem_mem hlt)
   ·simp only [List.getD]
    rw [List.getElem?_eq_none (by omega)]; rfl
  have n1:=key kv h hno
  have n2:=key kv2 (h2++kH szs) hno2
  have hr:Rep (Own O σ) w ((mk n kv h).tmps.getD u .undef) σ (a.tmps.getD u undef):=by
   generalize (mk n kv h).tmps.getD u .undef=x at hu n1
   cases x with
   | opt _ _ _=>simp [zF] at n1
   | _=>simpa only [TRep] using hu
  have hup:upA2 σ.length szs.length ((mk n kv h).tmps.getD u .undef) ((mk n kv2 (h2++kH szs)).tmps.getD u .undef):=by
   by_cases hlt:u<n
   ·simp only [mk]
    rw [j2 hlt,j2 hlt]
    exact W5 u hkv
   ·simp [mk,pk,List.getD,hlt,upA2,upA1,upA0]
  have:=Vr hx hup hr
  generalize (mk n kv2 (h2++kH szs)).tmps.getD u .undef=y at this n2
  cases y with
  | opt _ _ _=>simp [zF] at n2
  | _=>simpa only [TRep] using this
theorem zb.up{M:Option Nat}{Hs:Nat→KV→Heap→Prop}{R:List AV→Heap→Prop}{k:List Item}{kv:KV}{h:Heap}(szs:List (Nat×(Nat→Nat→AV)))(kv2:KV)(h2:Heap)(hkv:upKV h.length szs.length kv kv2)(hh2:upH h.length szs.length h h2)(hno:(pk fn.ntmps kv).all zF=true)(hno2:(pk fn.ntmps kv2).all zF=true)
  (H:z7 Xp M P fn O pin w0 σ0 Hs R k (mk fn.ntmps kv2 (h2++kH szs))):z7 Xp M P fn O pin w0 σ0 Hs R k (mk fn.ntmps kv h):=
 fun w σ a hm=>H w _ a (up_mod hm hkv hh2 hno hno2)
theorem RetR.outs{ctr:Ctr}{Q:AV×Heap→Prop}{rs:List AV}{h:Heap}{r:AV}{hs:Heap}(L:List Nat)(hnd:jT L=true)(hlt:(L.all fun i=>decide (i<h.length))=true)(hq:Q (r,hs))(hn:ctr.fresh=true→new2 h L (resV rs)∧∀ i∈L,newB (h.getD i .dead))
  (he:eqA2 (exp2 h L (resV rs)) r) (hb:eqH (expH h L) hs) (hl:hs.length=L.length):RetR ctr 0 Q rs h:=
 ⟨L,hnd,fun i hi=>by have:=List.all_eq_true.1 hlt i hi; simpa using this,by simp,hn,r,hs,qA he,hb,hl,hq⟩
theorem RetR.keep{ctr:Ctr}{m:Nat}{Q:AV×Heap→Prop}{rs:List AV}{h:Heap}{r:AV}{hs:Heap}(L:List Nat)(hnd:jT L=true)(hlt:(L.all fun i=>decide (i<h.length))=true)(hj:∀ j,j<m→L[j]?=some j)(hf:ctr.fresh=false)(hq:Q (r,hs))
  (he:eqA2 (exp2 h L (resV rs)) r) (hb:eqH (expH h L) hs) (hl:hs.length=L.length):RetR ctr m Q rs h:=
 ⟨L,hnd,fun i hi=>by have:=List.all_eq_true.1 hlt i hi; simpa using this,hj,(fun hh=>absurd hh (by rw [hf]; decide)),r,hs,qA he,hb,hl,hq⟩
end
end Go.Sx
end
section
set_option maxRecDepth 100000
open Go Go.Sx Go.Proofs Go.Nov
namespace Go.Proofs.Tryz
attribute [local simp] eqKV eqA eqA0 eqH eqB eqL eqL0
noncomputable def K214:List Go.Sx.Item:=[.code (Tryz.f214.body.getD .skip)]
noncomputable def K104:List Go.Sx.Item:=[.code (Tryz.f104.body.getD .skip)]
def exD(x:Ex):AV:=.agg [.int .u8 x.kind,.str x.rat,.str x.name,.int .i64 x.date,.sl x.sub.length 5 x.deep]
def Jq(n:Nat):Ctr:=ctrP false (fun x:Ex=>[x.exA]) (fun x=>x.size<n∧x.size<2^40) (fun _ (_:Unit)=>True) (fun x _=>(exD x,[]))
theorem X9{s:List Ex}{i:Nat} : eqG (i+1) 5 (appG i (Ex.exG s) (zj (zi 5 [.int .u8 (s.getD i Ex.nil).kind,.str (s.getD i Ex.nil).rat,.str (s.getD i Ex.nil).name,.int .i64 (s.getD i Ex.nil).date,.sl (s.getD i Ex.nil).sub.length 5 (s.getD i Ex.nil).deep]) 0)) (Ex.exG s):=by
 intro j o hj ho
 simp only [appG,zj,zi]
 by_cases h:j<i
 ·rw [if_pos h]
 ·have:j=i:=by omega
  subst this
  rw [if_neg h]
  have e:j - j=0:=by omega
  match o,ho with
  | 0,_=>simp [e,Ex.exG,Ex.cell]
  | 1,_=>simp [e,Ex.exG,Ex.cell]
  | 2,_=>simp [e,Ex.exG,Ex.cell]
  | 3,_=>simp [e,Ex.exG,Ex.cell]
  | 4,_=>simp [e,Ex.exG,Ex.cell]
def STw(s:List Ex)(i:Nat):KV:=[(1,.ptr 0 0),(2,.ptr 1 0),(3,.osl 2 5 0 i),(7,Ex.exS s),(8,.int .i64 (s.length:Int)),(9,.int .i64 (i:Int))]
def HTw(x:Ex)(i:Nat):Heap:=[.box [.int .u8 x.kind,.str x.rat,.str x.name,.int .i64 x.date,Ex.exS x.sub],.box [.int .u8 0,.str [],.str [],.int .i64 0,.nils],.arr i 5 (Ex.exG x.sub)]
def RTw(x:Ex):List AV:=[.agg [.int .u8 x.kind,.str x.rat,.str x.name,.int .i64 x.date,.osl 2 5 0 x.sub.length]]
def HTw2(x:Ex):Heap:=[.box [.int .u8 x.kind,.str x.rat,.str x.name,.int .i64 x.date,.osl 2 5 0 x.sub.length],.box [.int .u8 x.kind,.str x.rat,.str x.name,.int .i64 x.date,.osl 2 5 0 x.sub.length],.arr x.sub.length 5 (Ex.exG x.sub)]
theorem zi6(n:Nat)(ih:zd Tryz.prog 214 (Jq n)){O:Nat→Prop}{w0:World}{C:Ctr}{Q:AV×Heap→Prop}(x:Ex)(h1:x.size<n+1)(h2:x.size<2^40)(hR:RetR C 0 Q (RTw x) (HTw2 x)) :
  zb Tryz.prog Tryz.f214 O 0 w0 [] (fun _ _ _=>False) (RetR C 0 Q) K214 (entry Tryz.f214 [x.exA]):=by
 rw [Ex.size_eq] at h1 h2
 have hlen:=Ex.zH x.sub
 refine zb.run hmix (ve ih) [1,2,3,7,8,9] 400 (T:=.leaf (.loop (Prod.fst (lps K214 0)) (Prod.snd (lps K214 0)) [(1,.ptr 0 0),(2,.ptr 1 0),(3,.nils),(7,.sl x.sub.length 5 (Ex.exG x.sub)),(8,.int .i64 x.sub.length),(9,.int .i64 0)] [.box [.int .u8 x.kind,.str x.rat,.str x.name,.int .i64 x.date,.sl x.sub.length 5 (Ex.exG x.sub)],.box [.int .u8 0,.str #[].toList,.str #[].toList,.int .i64 0,.nils]])) (by kernel_rfl) ?_
 simp only [Tree.holds,ze,inR,lo,hi,Int.toNat_natCast]
 refine zb.bear 3 5 (Ex.exG x.sub) rfl (by decide) (by kernel_rfl) ?_
 refine zb.loop (ι:={i:Nat // i≤x.sub.length}) (fun i=>STw x.sub i.1) (fun i=>HTw x i.1) (fun i=>x.sub.length - i.1) ⟨0,Nat.zero_le _⟩ 0 ?_ ?_ (by kernel_rfl)
 ·exact⟨by simp [STw,wW,Ex.exS,za],by simp [HTw,Ex.exS,za],by kernel_rfl,Nat.zero_le _⟩
 ·rintro⟨i,hil⟩
  refine zb.run hmix (ve ih) [1,2,3,7,8,9] 400 (T:=.ite (decide ((↑i:Int)<x.sub.length)) (.side ((0:Int)≤i∧(↑i:Int)<x.sub.length) (.ex (fun(x_1:Ex)=>eqL [AV.agg [AV.int .u8 (Ex.kind (List.getD x.sub (↑i:Int).toNat Ex.nil)),AV.str (Ex.rat (List.getD x.sub (↑i:Int).toNat Ex.nil)),AV.str (Ex.name (List.getD x.sub (↑i:Int).toNat Ex.nil)),AV.int .i64 (Ex.date (List.getD x.sub (↑i:Int).toNat Ex.nil)),AV.sl (List.length (Ex.sub (List.getD x.sub (↑i:Int).toNat Ex.nil))) 5 (Ex.deep (List.getD x.sub (↑i:Int).toNat Ex.nil))]] [AV.agg [AV.int .u8 x_1.kind,AV.str x_1.rat,AV.str x_1.name,AV.int .i64 x_1.date,AV.sl x_1.sub.length 5 (Ex.exG x_1.sub)]]∧Ex.size x_1<n∧Ex.size x_1<1099511627776) fun n=>.all (fun(x:Unit)=>True) fun n_1=>.side (0=0∧i≤i∧(i+1)*72≤140737488355328) (.side (inR .i64 ((↑i:Int)+(1:Int))) (.leaf (.back 0 [(1,.ptr 0 0),(2,.ptr 1 0),(3,.osl 2 5 0 (i+1)),(7,.sl x.sub.length 5 (Ex.exG x.sub)),(8,.int .i64 x.sub.length),(9,.int .i64 ((↑i:Int)+(1:Int)))] [.box [.int .u8 x.kind,.str x.rat,.str x.name,.int .i64 x.date,.sl x.sub.length 5 (Ex.exG x.sub)],.box [.int .u8 0,.str [],.str [],.int .i64 0,.nils],.arr (i+1) 5 (appG i (Ex.exG x.sub) (zj (zi 5 [.int .u8 n.kind,.str n.rat,.str n.name,.int .i64 n.date,.sl n.sub.length 5 n.deep]) 0)),.box [.int .u8 (Ex.kind (List.getD x.sub (↑i:Int).toNat Ex.nil)),.str (Ex.rat (List.getD x.sub (↑i:Int).toNat Ex.nil)),.str (Ex.name (List.getD x.sub (↑i:Int).toNat Ex.nil)),.int .i64 (Ex.date (List.getD x.sub (↑i:Int).toNat Ex.nil)),.sl (List.length (Ex.sub (List.getD x.sub (↑i:Int).toNat Ex.nil))) 5 (Ex.deep (List.getD x.sub (↑i:Int).toNat Ex.nil))],.arr 1 5 (zi 5 [.int .u8 n.kind,.str n.rat,.str n.name,.int .i64 n.date,.sl n.sub.length 5 n.deep])]))))) (.leaf (.ret [.agg [.int .u8 x.kind,.str x.rat,.str x.name,.int .i64 x.date,.osl 2 5 0 i]] [.box [.int .u8 x.kind,.str x.rat,.str x.name,.int .i64 x.date,.osl 2 5 0 i],.box [.int .u8 x.kind,.str x.rat,.str x.name,.int .i64 x.date,.osl 2 5 0 i],.arr i 5 (Ex.exG x.sub)]))) (by kernel_rfl) ?_
  simp only [Tree.holds,ze,inR,lo,hi,Int.toNat_natCast]
  refine⟨fun hlt=> ?_,fun hge=> ?_⟩
  ·have hlt:i<x.sub.length:=by have:=of_decide_eq_true hlt; omega
   have hg:=Ex.qI hlt
   refine⟨by omega,fun _=>⟨x.sub.getD i Ex.nil,⟨w9 rfl rfl rfl rfl rfl (Ex.zJ _),by omega,by omega⟩,⟨(),trivial⟩,?_⟩⟩
   intro _ _
   refine⟨⟨trivial,Nat.le_refl _,by omega⟩,fun _=>⟨by omega,fun _=> ?_⟩⟩
   rw [if_pos trivial]
   refine⟨⟨i+1,hlt⟩,by show x.sub.length - (i+1)<x.sub.length - i; omega,by simp [STw,Ex.exS,za],?_,by kernel_rfl,Nat.zero_le _⟩
   exact⟨⟨⟨rfl,rfl⟩,rfl,rfl,⟨rfl,rfl⟩,⟨rfl,rfl,za _ _ _⟩,trivial⟩,⟨⟨rfl,rfl⟩,rfl,rfl,⟨rfl,rfl⟩,by simp,trivial⟩,⟨rfl,rfl,X9⟩,trivial⟩
  ·have hge:i=x.sub.length:=by have:=of_decide_eq_false hge; omega
   subst hge
   exact hR
theorem Xl{C:Ctr}{Q:AV×Heap→Prop}{x:Ex}{h:Heap}{b:Nat}(hC:C.fresh=false)(hb:h[b]?=some (.arr x.sub.length 5 (Ex.exG x.sub)))(hq:Q (exD x,[])):RetR C 0 Q [.agg [.int .u8 x.kind,.str x.rat,.str x.name,.int .i64 x.date,.osl b 5 0 x.sub.length]] h:=by
 refine RetR.out0 hq (fun h=>by rw [hC] at h; cases h) ?_
 simp only [resV,exp2,exp1,List.map_cons,List.map_nil,exp0,ren0,zE,frz1,j0,hb,eqA2,eqA,eqL0,eqA0,exD,true_and,and_true]
 simp only [if_true]
 refine⟨trivial,trivial,fun j o hj ho=> ?_⟩
 have:=Ex.zJ x j o hj ho
 simpa [zj] using this.symm
theorem zdu(n:Nat)(ih:zd Tryz.prog 214 (Jq n)):zd Tryz.prog 214 (Jq (n+1)):=by
 refine zh (fn:=Tryz.f214) (c:=Tryz.f214.body.getD .skip) rfl rfl rfl fun x hx O w0 Q hq=> ?_
 exact zi6 n ih x hx.1 hx.2 (Xl rfl rfl (hq () trivial))
theorem zf1:zd Tryz.prog 214 (ctrP false (fun x:Ex=>[x.exA]) (fun x=>x.size<2^40) (fun _ (_:Unit)=>True) (fun x _=>(exD x,[]))):=zT Ex.size zdu
def SRt(i:Nat):KV:=[(1,.ptr 0 0),(2,.ptr 1 0),(3,.ptr 2 0),(4,.int .i64 (i:Int))]
def HRt1(x:Ex):Heap:=[.box [.int .u8 x.kind,.str x.rat,.str x.name,.int .i64 x.date,Ex.exS x.sub],.box [.int .u8 0,.str [],.str [],.int .i64 0,.nils],.box [.int .u8 x.kind,.str x.rat,.str x.name,.int .i64 x.date,.osl 3 5 0 0]]
def HRt(x:Ex)(i:Nat):Heap:=[.box [.int .u8 x.kind,.str x.rat,.str x.name,.int .i64 x.date,Ex.exS x.sub],.box [.int .u8 0,.str [],.str [],.int .i64 0,.nils],.box [.int .u8 x.kind,.str x.rat,.str x.name,.int .i64 x.date,.osl 3 5 0 i],.arr i 5 (Ex.exG x.sub)]
theorem YG(n:Nat)(ih:zd Tryz.prog 104 (Jq n)):zd Tryz.prog 104 (Jq (n+1)):=by
 refine zh (fn:=Tryz.f104) (c:=Tryz.f104.body.getD .skip) rfl rfl rfl fun x hx O w0 Q hq=> ?_
 obtain⟨h1,h2⟩:=hx
 replace hq:=hq () trivial
 rw [Ex.size_eq] at h1 h2
 have hlen:=Ex.zH x.sub
 refine zb.run hmix (ve ih) [1,2,3,4] 400 (T:=.leaf (.loop (Prod.fst (lps K104 0)) (Prod.snd (lps K104 0)) [(1,.ptr 0 0),(2,.ptr 1 0),(3,.ptr 2 0),(4,.int .i64 0)] [.box [.int .u8 x.kind,.str x.rat,.str x.name,.int .i64 x.date,.sl x.sub.length 5 (Ex.exG x.sub)],.box [.int .u8 0,.str #[].toList,.str #[].toList,.int .i64 0,.nils],.box [.int .u8 x.kind,.str x.rat,.str x.name,.int .i64 x.date,.nils]])) (by kernel_rfl) ?_
 simp only [Tree.holds,ze,inR,lo,hi,Int.toNat_natCast]
 refine zb.up [(5,Ex.exG x.sub)] (SRt 0) (HRt1 x) (by simp [SRt,upKV,upA2,upA1,upA0]) (by simp [HRt1,upH,upB,upL1,upA1,upA0,Ex.exS]) (by kernel_rfl) (by kernel_rfl) ?_
 refine zb.loop (ι:={i:Nat // i≤x.sub.length}) (fun i=>SRt i.1) (fun i=>HRt x i.1) (fun i=>x.sub.length - i.1) ⟨0,Nat.zero_le _⟩ 0 ?_ ?_ (by kernel_rfl)
 ·exact⟨by simp [SRt],by simp [HRt,HRt1,kH,Ex.exS,za],by kernel_rfl,Nat.zero_le _⟩
 ·rintro⟨i,hil⟩
  refine zb.run hmix (ve ih) [1,2,3,4] 400 (T:=.ite (decide ((↑i:Int)<x.sub.length)) (.side ((0:Int)≤i∧(↑i:Int)<x.sub.length) (.ex (fun(x_1:Ex)=>eqL [AV.agg [AV.int .u8 (Ex.kind (List.getD x.sub (↑i:Int).toNat Ex.nil)),AV.str (Ex.rat (List.getD x.sub (↑i:Int).toNat Ex.nil)),AV.str (Ex.name (List.getD x.sub (↑i:Int).toNat Ex.nil)),AV.int .i64 (Ex.date (List.getD x.sub (↑i:Int).toNat Ex.nil)),AV.sl (List.length (Ex.sub (List.getD x.sub (↑i:Int).toNat Ex.nil))) 5 (Ex.deep (List.getD x.sub (↑i:Int).toNat Ex.nil))]] [AV.agg [AV.int .u8 x_1.kind,AV.str x_1.rat,AV.str x_1.name,AV.int .i64 x_1.date,AV.sl x_1.sub.length 5 (Ex.exG x_1.sub)]]∧Ex.size x_1<n∧Ex.size x_1<1099511627776) fun n=>.all (fun(x:Unit)=>True) fun n_1=>.side (0=0∧i≤i∧(i+1)*72≤140737488355328) (.side (inR .i64 ((↑i:Int)+(1:Int))) (.leaf (.back 0 [(1,.ptr 0 0),(2,.ptr 1 0),(3,.ptr 2 0),(4,.int .i64 ((↑i:Int)+(1:Int)))] [.box [.int .u8 x.kind,.str x.rat,.str x.name,.int .i64 x.date,.sl x.sub.length 5 (Ex.exG x.sub)],.box [.int .u8 0,.str [],.str [],.int .i64 0,.nils],.box [.int .u8 x.kind,.str x.rat,.str x.name,.int .i64 x.date,.osl 3 5 0 (i+1)],.arr (i+1) 5 (appG i (Ex.exG x.sub) (zj (zi 5 [.int .u8 n.kind,.str n.rat,.str n.name,.int .i64 n.date,.sl n.sub.length 5 n.deep]) 0)),.arr 1 5 (zi 5 [.int .u8 n.kind,.str n.rat,.str n.name,.int .i64 n.date,.sl n.sub.length 5 n.deep])]))))) (.leaf (.ret [.agg [.int .u8 x.kind,.str x.rat,.str x.name,.int .i64 x.date,.osl 3 5 0 i]] [.box [.int .u8 x.kind,.str x.rat,.str x.name,.int .i64 x.date,.sl x.sub.length 5 (Ex.exG x.sub)],.box [.int .u8 x.kind,.str x.rat,.str x.name,.int .i64 x.date,.osl 3 5 0 i],.box [.int .u8 x.kind,.str x.rat,.str x.name,.int .i64 x.date,.osl 3 5 0 i],.arr i 5 (Ex.exG x.sub)]))) (by kernel_rfl) ?_
  simp only [Tree.holds,ze,inR,lo,hi,Int.toNat_natCast]
  refine⟨fun hlt=> ?_,fun hge=> ?_⟩
  ·have hlt:i<x.sub.length:=by have:=of_decide_eq_true hlt; omega
   have hg:=Ex.qI hlt
   refine⟨by omega,fun _=>⟨x.sub.getD i Ex.nil,⟨w9 rfl rfl rfl rfl rfl (Ex.zJ _),by omega,by omega⟩,⟨(),trivial⟩,?_⟩⟩
   intro _ _
   refine⟨⟨trivial,Nat.le_refl _,by omega⟩,fun _=>⟨by omega,fun _=> ?_⟩⟩
   rw [if_pos trivial]
   refine⟨⟨i+1,hlt⟩,by show x.sub.length - (i+1)<x.sub.length - i; omega,by simp [SRt],?_,by kernel_rfl,Nat.zero_le _⟩
   exact⟨⟨⟨rfl,rfl⟩,rfl,rfl,⟨rfl,rfl⟩,⟨rfl,rfl,za _ _ _⟩,trivial⟩,⟨⟨rfl,rfl⟩,rfl,rfl,⟨rfl,rfl⟩,by simp,trivial⟩,⟨⟨rfl,rfl⟩,rfl,rfl,⟨rfl,rfl⟩,⟨rfl,rfl,rfl,rfl⟩,trivial⟩,⟨rfl,rfl,X9⟩,trivial⟩
  ·have hge:i=x.sub.length:=by have:=of_decide_eq_false hge; omega
   subst hge
   exact Xl rfl rfl hq
def Q5:Ctr:=ctrP false (fun x:Ex=>[x.exA]) (fun x=>x.size<2^40) (fun _ (_:Unit)=>True) (fun x _=>(exD x,[]))
theorem zdi:zd Tryz.prog 104 Q5:=zT Ex.size YG
noncomputable def K118:List Go.Sx.Item:=[.code (Tryz.f118.body.getD .skip)]
def ZP:Ctr:=ctrP true (fun x:Ex=>[x.exA]) (fun _=>True) (fun x r=>r=qF x) (fun _ (r:Bool)=>(.bool r,[]))
theorem Kb:zd Tryz.prog 204 ZP:=by
 refine zh (fn:=Tryz.f204) (c:=Tryz.f204.body.getD .skip) rfl rfl rfl fun x hx O w0 Q hq=> ?_
 replace hq:=hq _ rfl
 obtain⟨k,r,m,d,s⟩:=x
 refine zb.run hmix zy [] 400 (T:=.leaf (.ret [.bool (bif bif bif bif decide (Ex.kind (Ex.mk k r m d s)=(0:Int)) then decide (Ex.rat (Ex.mk k r m d s)=#[].toList) else false then decide (Ex.name (Ex.mk k r m d s)=#[].toList) else false then decide (Ex.date (Ex.mk k r m d s)=(0:Int)) else false then decide ((↑(List.length (Ex.sub (Ex.mk k r m d s))):Int)=0) else false)] [.box [.int .u8 (Ex.kind (Ex.mk k r m d s)),.str (Ex.rat (Ex.mk k r m d s)),.str (Ex.name (Ex.mk k r m d s)),.int .i64 (Ex.date (Ex.mk k r m d s)),.sl (List.length (Ex.sub (Ex.mk k r m d s))) 5 (Ex.exG (Ex.sub (Ex.mk k r m d s)))]])) (by kernel_rfl) ?_
 simp only [Tree.holds,ze]
 refine RetR.scal hq rfl ?_
 refine congrArg AV.bool ?_
 rw [Bool.eq_iff_iff]
 simp [qF,Ex.kind,Ex.rat,Ex.name,Ex.date,Ex.sub,and_assoc]
theorem QW:zd Tryz.prog 213 ZP:=by
 refine zh (fn:=Tryz.f213) (c:=Tryz.f213.body.getD .skip) rfl rfl rfl fun x hx O w0 Q hq=> ?_
 replace hq:=hq _ rfl
 obtain⟨k,r,m,d,s⟩:=x
 refine zb.run hmix zy [] 400 (T:=.leaf (.ret [.bool (bif bif bif bif decide (Ex.kind (Ex.mk k r m d s)=(0:Int)) then decide (Ex.rat (Ex.mk k r m d s)=#[].toList) else false then decide (Ex.name (Ex.mk k r m d s)=#[].toList) else false then decide (Ex.date (Ex.mk k r m d s)=(0:Int)) else false then decide ((↑(List.length (Ex.sub (Ex.mk k r m d s))):Int)=0) else false)] [.box [.int .u8 (Ex.kind (Ex.mk k r m d s)),.str (Ex.rat (Ex.mk k r m d s)),.str (Ex.name (Ex.mk k r m d s)),.int .i64 (Ex.date (Ex.mk k r m d s)),.sl (List.length (Ex.sub (Ex.mk k r m d s))) 5 (Ex.exG (Ex.sub (Ex.mk k r m d s)))]])) (by kernel_rfl) ?_
 simp only [Tree.holds,ze]
 refine RetR.scal hq rfl ?_
 refine congrArg AV.bool ?_
 rw [Bool.eq_iff_iff]
 simp [qF,Ex.kind,Ex.rat,Ex.name,Ex.date,Ex.sub,and_assoc]
def UA:Ctr:=ctrT false false (fun c:Con=>[c.conA]) (fun _=>[]) (fun _=>True) (fun _ (_:Unit)=>True) (fun c _=>(.fn 206 [] [.ptr 0 0],[.box (Con.VF c.kind c.src c.dst c.name c.x c.date c.days c.sub)]))
theorem KB:zd Tryz.prog 120 UA:=by
 refine qt (fn:=Tryz.f120) (c:=Tryz.f120.body.getD .skip) rfl rfl rfl (fun h=>by cases h) fun c hp O w0 σ0 Q hl hq=> ?_
 have h0:σ0=[]:=List.length_eq_zero_iff.1 (by simpa using hl)
 subst h0
 refine zb.run hmix zy [0] 400 (T:=.leaf (.ret [.fn 206 [] [.ptr 0 0]] [.box (Con.zg c)])) (by kernel_rfl) ?_
 simp only [Tree.holds,ze]
 refine RetR.out1 0 (by simp) (hq () trivial) (fun h=>by cases h) (by simp [resV,exp2,exp1,exp0,zE,ren0,eqA2]) ?_
 simp only [Con.VF,expB,exp1,List.map_cons,List.map_nil,exp0,Ex.exS,Con.dayS,Con.conS]
 exact⟨⟨rfl,rfl⟩,rfl,rfl,rfl,⟨rfl,rfl⟩,rfl,rfl,⟨rfl,rfl⟩,⟨rfl,rfl,za _ _ _⟩,⟨rfl,rfl⟩,⟨rfl,rfl,za _ _ _⟩,⟨rfl,rfl,za _ _ _⟩,trivial⟩
noncomputable def GZ1:Nat→Option Ctr:=fun f=>if f=204 then some (ZP) else if f=24 then some (Qq) else if f=120 then some (UA) else none
theorem UQ:∀ g c,GZ1 g=some c→zd Tryz.prog g c:=okIf Kb (okIf zbm (okIf KB (zn)))
def zf5:Ctr:=ctrP true (fun c:Con=>[c.conA]) (fun c=>c.big<2^40∧c.nodes≤1000000) (fun c r=>r=c.size) (fun _ (r:Nat)=>(.int .i64 (r:Int),[]))
theorem wR(c:Con):eqA c.conA c.conA:=by
 simp only [Con.conA,Ex.exS,Con.dayS,Con.conS,eqA]
 exact⟨⟨rfl,rfl⟩,rfl,rfl,rfl,⟨rfl,rfl⟩,rfl,rfl,⟨rfl,rfl⟩,⟨rfl,rfl,za _ _ _⟩,⟨rfl,rfl⟩,⟨rfl,rfl,za _ _ _⟩,⟨rfl,rfl,za _ _ _⟩,trivial⟩
theorem Vh{own:Nat→Prop}{w:World}{σ:List SE} : ∀ {l:List AV} {vs:List Value},l.all KL=true→RepL own w l σ vs→RepL own w l [] vs
 | [],vs,_,h=>h
 | a::l,vs,hf,h=>by
  simp only [List.all_cons,Bool.and_eq_true] at hf
  simp only [RepL] at h ⊢
  obtain⟨v,r,rfl,h1,h2⟩:=h
  exact⟨v,r,rfl,Yu hf.1 h1,Vh hf.2 h2⟩
theorem zmw{O:Nat→Prop}{pin:Nat}{w0 w:World}{σ0 σ:List SE}{st:St}{a:Act}(hm:Mod O pin w0 σ0 w σ st a):∀ b,Go.Sx.Own O σ b→b<w.heap.size:=by
 rintro b (hO | ⟨e,he,ad,h1,rfl⟩)
 ·exact hm.good.old b hO
 ·obtain⟨j,hj⟩:=List.getElem?_of_mem he
  exact hm.hp.lt j e ad hj h1
theorem zu(c:Con):eqL c.zg c.zg:=by
 simp only [Con.zg,Con.VF,Ex.exS,Con.dayS,Con.conS]
 exact⟨⟨rfl,rfl⟩,rfl,rfl,rfl,⟨rfl,rfl⟩,rfl,rfl,⟨rfl,rfl⟩,⟨rfl,rfl,za _ _ _⟩,⟨rfl,rfl⟩,⟨rfl,rfl,za _ _ _⟩,⟨rfl,rfl,za _ _ _⟩,trivial⟩
theorem zV(x:Ex):eqA x.exA x.exA:=by
 simp only [Ex.exA,Ex.exS,eqA]
 exact⟨⟨rfl,rfl⟩,rfl,rfl,⟨rfl,rfl⟩,⟨rfl,rfl,za _ _ _⟩,trivial⟩
theorem QS{O:Nat→Prop}{pin:Nat}{w0 w:World}{σ0 σ:List SE}{st:St}{a:Act}(hm:Mod O pin w0 σ0 w σ st a){i:Nat}{c:Con}(hb:st.heap[i]?=some (.box c.zg))(hn:c.nodes≤1000000){vb:List Value}(hv:RepL (Go.Sx.Own O σ) w [.ptr i 0] σ vb) :
  ∃ ev:Nat→Value,SeqStopsK Fence.wide 0 Tryz.prog 206 vb.toArray (fun x=> #[ev x]) (je (Go.Sx.Own O σ)) (fun xs=>xs=List.range c.all.length) (fun pre=>pre <+: List.range c.all.length) c.all.length w∧∀ i,Rep (Go.Sx.Own O σ) w (c.all.getD i c).conA [] (ev i):=by
 simp only [RepL,Rep] at hv
 obtain⟨v,r,rfl,⟨e,ad,he,had,rfl⟩,rfl⟩:=hv
 obtain⟨ad',vs,el,g1,g2,g3,g4⟩:=hm.hp.blk i e _ he hb
 rw [had] at g1; cases g1
 have hr:Rep (Go.Sx.Own O σ) w c.conA [] (.agg vs.toArray):=by
  simp only [Con.conA]
  rw [Rep]
  exact⟨vs,rfl,Vh rfl g4⟩
 have:=KO g3 hr hn (zmw hm)
 rw [g2]
 exact this
def HCs(c:Con)(m:Nat):Heap:=[.box c.zg,.box [.int .i64 (m:Int)],.box c.zg]
theorem zia:zd Tryz.prog 118 zf5:=by
 refine zh (fn:=Tryz.f118) (c:=Tryz.f118.body.getD .skip) rfl rfl rfl fun c hc O w0 Q hq=> ?_
 obtain⟨h1,h2⟩:=hc
 replace hq:=hq _ rfl
 refine zb.run hmix UQ [2,3,6,7] 400 (T:=.ex (fun(x:Con)=>eqL [(Con.conA c)] [(Con.conA x)]∧eqH [] []∧0=0∧True) fun n=>.all (fun(x:Unit)=>True) fun n_1=>.leaf (.range (Prod.fst (rfs K118 0)) (Prod.snd (rfs K118 0)) [(2,.int .i64 0),(3,.ptr 1 0),(6,.fn 206 [] [.ptr 2 0]),(7,.undef)] [.box (Con.zg c),.box [.int .i64 0],.box (Con.zg n)])) (by kernel_rfl) ?_
 simp only [Tree.holds,ze]
 refine⟨c,⟨⟨wR c,trivial⟩,trivial,trivial,trivial⟩,⟨(),trivial⟩,fun _ _=> ?_⟩
 refine zb.zgf (tg:=6) (tp:=7) (td:=4) (t:=53) (n:=12) (zs:=[.int .u8 0,.str [],.str [],.str [],.int .u8 0,.str [],.str [],.int .i64 0,.nils,.int .i64 0,.nils,.nils]) (cap:=[.ptr 2 0]) (gf:=206) (by kernel_rfl) (by kernel_rfl) (by kernel_rfl) rfl (enters_of Tryz.func206 (by kernel_rfl) rfl) (fun i:Nat=>(c.all.getD i c).conA) (fun i=>(c.all.getD i c).zg) (fun i=>⟨rfl,rfl,rfl,rfl⟩) (fun pre=>HCs c (pre.map fun i=>(c.all.getD i c).wt).sum) (fun _=>[]) (fun _=>False) (fun xs=>xs=List.range c.all.length) (fun pre=>pre <+: List.range c.all.length) c.all.length 3
  (by kernel_rfl) (by decide +kernel) (by decide +kernel) (by decide +kernel) (by decide) ⟨by simp,⟨zu c,⟨⟨rfl,rfl⟩,trivial⟩,zu c,trivial⟩,by kernel_rfl,Nat.zero_le _⟩ (by kernel_rfl) (Nat.zero_le _) (fun pre=>rfl) (fun pre=>by simp [HCs,alive]) (fun pre b hb=>by cases hb) ?_ ?_ ?_ (fun _ _ h=>h.elim)
 ·intro w σ a hm vb hvb
  exact QS hm (i:=2) rfl h2 hvb
 ·intro l pre i hlen W σ1
  have hwt:(c.all.getD i c).big≤c.big:=by
   by_cases hi:i<c.all.length
   ·exact Con.Qy c _ (by simp [List.getD,hi])
   ·simp [List.getD,hi]
  have hm:(pre.map fun i=>(c.all.getD i c).wt).sum≤pre.length*2^40:=by
   have hall:∀ j,(c.all.getD j c).wt≤2^40:=fun j=>by
    have h1':=Con.xM (c.all.getD j c).x
    have h2':(c.all.getD j c).big≤c.big:=by
     by_cases hi:j<c.all.length
     ·exact Con.Qy c _ (by simp [List.getD,hi])
     ·simp [List.getD,hi]
    rw [Con.vJ] at h2'
    have:(c.all.getD j c).wt=1+wc (c.all.getD j c).x:=rfl
    omega
   clear hlen
   induction pre with
   | nil=>simp
   | cons j pre ih=>
    have:=hall j
    simp only [List.map_cons,List.sum_cons,List.length_cons]
    omega
  rw [List.map_append,List.sum_append]
  simp only [List.map_cons,List.map_nil,List.sum_cons,List.sum_nil,Nat.add_zero]
  rw [Con.zba] at hlen
  have hml:(pre.map fun i=>(c.all.getD i c).wt).sum≤1000000*2^40:=Nat.le_trans hm (Nat.mul_le_mul_right _ (by omega))
  generalize (pre.map fun i=>(c.all.getD i c).wt).sum=m at hml
  generalize c.all.getD i c=e at hwt
  rw [Con.vJ e] at hwt
  refine zb.run hmix UQ [3,6,7] 400 (T:=.side (inR .i64 ((↑m:Int)+(1:Int))) (.ex (fun(x:Ex)=>eqL [(Ex.exA e.x)] [x.exA]∧True) fun n=>.all (fun(r:Bool)=>r=qF n) fun n=>.ite (!n) (.ex (fun(x:Ex)=>eqL [(Ex.exA e.x)] [x.exA]∧Ex.size x<4611686018427387904) fun n=>.all (fun(r:Nat)=>r=Ex.size n) fun n=>.side (inR .i64 ((↑m:Int)+(1:Int)+n)) (.leaf (.back 0 [(3,.ptr 1 0),(6,.fn 206 [] [.ptr 2 0]),(7,(Con.conA e))] [.box (Con.zg c),.box [.int .i64 ((↑m:Int)+(1:Int)+n)],.box (Con.zg c)]))) (.leaf (.back 0 [(3,.ptr 1 0),(6,.fn 206 [] [.ptr 2 0]),(7,(Con.conA e))] [.box (Con.zg c),.box [.int .i64 ((↑m:Int)+(1:Int))],.box (Con.zg c)])))) (by kernel_rfl) ?_
  simp only [Tree.holds,ze,inR,lo,hi,Int.toNat_natCast]
  have hsx:e.wt=1+wc e.x:=rfl
  refine⟨by omega,fun _=>⟨e.x,⟨⟨zV e.x,trivial⟩,trivial⟩,⟨_,rfl⟩,?_⟩⟩
  rintro _ rfl
  refine⟨fun hb=>⟨e.x,⟨⟨zV e.x,trivial⟩,by show e.x.size<_; omega⟩,⟨_,rfl⟩,?_⟩,fun hb=> ?_⟩
  ·rintro _ rfl
   refine⟨by omega,fun _=>⟨trivial,⟨zu c,⟨⟨rfl,?_⟩,trivial⟩,zu c,trivial⟩,by kernel_rfl,Nat.le_refl _⟩⟩
   have:wc e.x=e.x.size:=by unfold wc; rw [show qF e.x=false by simpa using hb]; rfl
   omega
  ·refine⟨trivial,⟨zu c,⟨⟨rfl,?_⟩,trivial⟩,zu c,trivial⟩,by kernel_rfl,Nat.le_refl _⟩
   have:wc e.x=0:=by unfold wc; rw [show qF e.x=true by simpa using hb]; rfl
   omega
 ·intro xs hxs
  subst hxs
  have hsum:((List.range c.all.length).map fun i=>(c.all.getD i c).wt).sum=c.size:=by
   rw [Con.XO]
   congr 1
   apply List.ext_getElem (by simp)
   intro i h1 h2
   simp at h1
   simp [List.getD,h1]
  rw [hsum]
  generalize c.size=m at hq
  refine zb.run hmix UQ [2,3,6,7] 400 (T:=.leaf (.ret [.int .i64 m] [.box (Con.zg c),.box [.int .i64 m],.box (Con.zg c)])) (by kernel_rfl) ?_
  simp only [Tree.holds,ze]
  exact RetR.scal hq rfl rfl
noncomputable def K205:List Go.Sx.Item:=[.code (Tryz.f205.body.getD .skip)]
noncomputable def K119:List Go.Sx.Item:=[.code (Tryz.f119.body.getD .skip)]
noncomputable def K196:List Go.Sx.Item:=[.code (Tryz.f196.body.getD .skip)]
noncomputable def K131:List Go.Sx.Item:=[.code (Tryz.f131.body.getD .skip)]
def zaw(n:Nat):Ctr:=ctrP true (fun x:Ex=>[x.exA]) (fun x=>x.size<n∧x.size<2^62) (fun x r=>r=x.depth) (fun _ (r:Nat)=>(.int .i64 (r:Int),[]))
def SEd(s:List Ex)(c i:Nat):KV:=[(3,.int .i64 (c:Int)),(7,Ex.exS s),(8,.int .i64 (s.length:Int)),(9,.int .i64 (i:Int))]
theorem Xd(n:Nat)(ih:zd Tryz.prog 205 (zaw n)):zd Tryz.prog 205 (zaw (n+1)):=by
 refine zh (fn:=Tryz.f205) (c:=Tryz.f205.body.getD .skip) rfl rfl rfl fun x hp O w0 Q hq=> ?_
 obtain⟨hxn,hxs⟩:=hp
 replace hq:=hq _ rfl
 have hds:=Ex.wB x
 rw [Ex.wX] at hq hds
 rw [Ex.size_eq] at hxn hxs hds
 obtain⟨k,r,m,d,s⟩:=x
 simp only [Ex.sub] at hxn hxs hq hds
 have hlen:=Ex.zH s
 refine zb.run hmix (ve ih) [3,7,8,9] 400 (T:=.leaf (.loop (Prod.fst (lps K205 0)) (Prod.snd (lps K205 0)) [(3,.int .i64 0),(7,.sl s.length 5 (Ex.exG s)),(8,.int .i64 s.length),(9,.int .i64 0)] [.box [.int .u8 k,.str r,.str m,.int .i64 d,.sl s.length 5 (Ex.exG s)]])) (by kernel_rfl) ?_
 simp only [Tree.holds,ze,inR,lo,hi,Int.toNat_natCast]
 refine zb.loop (ι:={i:Nat // i≤s.length}) (fun i=>SEd s (Ex.zx (s.take i.1)) i.1) (fun _=>[]) (fun i=>s.length - i.1) ⟨0,Nat.zero_le _⟩ 0 ?_ ?_ (by kernel_rfl)
 ·exact⟨by simp [SEd,Ex.zx,Ex.exS,za],by simp,by kernel_rfl,Nat.zero_le _⟩
 ·rintro⟨i,hil⟩
  have hcb:Ex.zx (s.take i)≤Ex.zx s:=Ex.JH s i
  obtain⟨c,hc⟩:∃ c,Ex.zx (s.take i)=c:=⟨_,rfl⟩
  simp only [hc]
  refine zb.run hmix (ve ih) [3,7,8,9] 400 (T:=.ite (decide ((↑i:Int)<s.length)) (.side ((0:Int)≤i∧(↑i:Int)<s.length) (.ex (fun(x:Ex)=>eqL [(exD (s.getD (↑i:Int).toNat Ex.nil))] [x.exA]∧Ex.size x<n∧Ex.size x<4611686018427387904) fun n=>.all (fun(r:Nat)=>r=Ex.depth n) fun n=>.side (inR .i64 ((↑i:Int)+(1:Int))) (.leaf (.back 0 [(3,.int .i64 (max (↑c:Int) (↑n:Int))),(7,.sl s.length 5 (Ex.exG s)),(8,.int .i64 s.length),(9,.int .i64 ((↑i:Int)+(1:Int)))] [.box (Ex.cellsD (s.getD (↑i:Int).toNat Ex.nil))])))) (.side (inR .i64 ((↑c:Int)+(1:Int))) (.leaf (.ret [.int .i64 ((↑c:Int)+(1:Int))] [])))) (by kernel_rfl) ?_
  simp only [Tree.holds,ze,inR,lo,hi,Int.toNat_natCast]
  refine⟨fun hlt=> ?_,fun hge=> ?_⟩
  ·have hlt:i<s.length:=by have:=of_decide_eq_true hlt; omega
   have hg:=Ex.qI hlt
   have ht:=Ex.jh s i hlt
   refine⟨by omega,fun _=>⟨s.getD i Ex.nil,⟨⟨⟨⟨rfl,rfl⟩,rfl,rfl,⟨rfl,rfl⟩,⟨rfl,rfl,Ex.zJ _⟩,trivial⟩,trivial⟩,by omega,by omega⟩,⟨_,rfl⟩,?_⟩⟩
   rintro _ rfl
   refine⟨by omega,fun _=> ?_⟩
   rw [if_pos trivial]
   refine⟨⟨i+1,hlt⟩,by show s.length - (i+1)<s.length - i; omega,?_,by simp,by kernel_rfl,Nat.zero_le _⟩
   simp [SEd,ht,hc,Ex.exS,za]; omega
  ·have hge:i=s.length:=by have:=of_decide_eq_false hge; omega
   subst hge
   rw [List.take_length] at hc
   refine⟨by omega,fun _=> ?_⟩
   exact RetR.scal hq rfl (by simp [resV]; omega)
def Wu:Ctr:=ctrP true (fun x:Ex=>[x.exA]) (fun x=>x.size<2^62) (fun x r=>r=x.depth) (fun _ (r:Nat)=>(.int .i64 (r:Int),[]))
theorem zd9:zd Tryz.prog 205 Wu:=zT Ex.size Xd
theorem zQ(e:Con):eqA (.agg [.int .u8 e.kind,.str e.src,.str e.dst,.str e.name,.int .u8 e.x.kind,.str e.x.rat,.str e.x.name,.int .i64 e.x.date,.sl e.x.sub.length 5 (Ex.exG e.x.sub),.int .i64 e.date,.sl e.days.length 1 (Con.dayG e.days),.sl e.sub.length 12 e.deep]) e.conA:=by
 simp only [Con.conA,Ex.exS,Con.dayS,Con.conS,eqA]
 exact⟨⟨rfl,rfl⟩,rfl,rfl,rfl,⟨rfl,rfl⟩,rfl,rfl,⟨rfl,rfl⟩,⟨rfl,rfl,za _ _ _⟩,⟨rfl,rfl⟩,⟨rfl,rfl,za _ _ _⟩,⟨rfl,rfl,Con.zJ e⟩,trivial⟩
theorem vH(x:Ex):j8 x≤x.size:=Nat.le_trans (Con.Vb x) (Con.xM x)
def SCd(c:Con)(d i:Nat):KV:=[(3,.int .i64 (d:Int)),(14,Con.conS c.sub),(15,.int .i64 (c.sub.length:Int)),(16,.int .i64 (i:Int))]
def wH(n:Nat):Ctr:=ctrP true (fun c:Con=>[c.conA]) (fun c=>c.nodes<n∧c.big<2^40) (fun c r=>r=c.depth) (fun _ (r:Nat)=>(.int .i64 (r:Int),[]))
noncomputable def GDb:Nat→Option Ctr:=fun f=>if f=204 then some (ZP) else if f=205 then some (Wu) else none
theorem zn5:∀ g c,GDb g=some c→zd Tryz.prog g c:=okIf Kb (okIf zd9 (zn))
noncomputable def GDc(n:Nat):Nat→Option Ctr:=fun f=>if f=119 then some (wH n) else GDb f
theorem zfe{n:Nat}(h:zd Tryz.prog 119 (wH n)):∀ f c,GDc n f=some c→zd Tryz.prog f c:=by
 intro f c hf
 simp only [GDc] at hf
 split at hf
 ·rename_i hg; subst hg; cases hf; exact h
 ·exact zn5 f c hf
theorem XP(n:Nat)(ih:zd Tryz.prog 119 (wH n)):zd Tryz.prog 119 (wH (n+1)):=by
 refine zh (fn:=Tryz.f119) (c:=Tryz.f119.body.getD .skip) rfl rfl rfl fun c hp O w0 Q hq=> ?_
 obtain⟨hcn,hcb⟩:=hp
 replace hq:=hq _ rfl
 rw [Con.wX] at hq
 refine zb.run hmix (zfe ih) [3,14,15,16] 400 (T:=.ex (fun(x:Ex)=>eqL [(Ex.exA c.x)] [x.exA]∧True) fun n=>.all (fun(r:Bool)=>r=qF n) fun n=>.ite (!n) (.ex (fun(x:Ex)=>eqL [(Ex.exA c.x)] [x.exA]∧Ex.size x<4611686018427387904) fun n=>.all (fun(r:Nat)=>r=Ex.depth n) fun n=>.leaf (.loop (Prod.fst (lps K119 0)) (Prod.snd (lps K119 0)) [(3,.int .i64 n),(14,.sl c.sub.length 12 (Con.conG c.sub)),(15,.int .i64 (↑c.sub.length:Int)),(16,.int .i64 0)] [.box (Con.zg c)])) (.leaf (.loop (Prod.fst (lps K119 0)) (Prod.snd (lps K119 0)) [(3,.int .i64 0),(14,.sl c.sub.length 12 (Con.conG c.sub)),(15,.int .i64 (↑c.sub.length:Int)),(16,.int .i64 0)] [.box (Con.zg c)]))) (by kernel_rfl) ?_
 simp only [Tree.holds,ze,inR,lo,hi,Int.toNat_natCast]
 have hb:=hcb
 rw [Con.vJ] at hb
 rw [Con.jK] at hcn
 have hxd:=vH c.x
 have hsd:=Con.yP c.sub
 have hl:=Con.wP c.sub
 have loop:∀ (d0:Nat) (h:Heap),d0=j8 c.x→(∀ S,LeK 0 Tryz.f119.ntmps S h S []→True)→h=[.box c.zg]→zb Tryz.prog Tryz.f119 O 0 w0 [] (fun _ _ _=>False) (RetR (wH (n+1)) 0 Q) (.code (.loop (lps K119 0).1)::(lps K119 0).2) (mk Tryz.f119.ntmps [(3,.int .i64 (d0:Int)),(14,.sl c.sub.length 12 (Con.conG c.sub)),(15,.int .i64 (c.sub.length:Int)),(16,.int .i64 0)] h):=by
  rintro d0 h rfl _ rfl
  refine zb.loop (ι:={i:Nat // i≤c.sub.length}) (fun i=>SCd c (max (j8 c.x) (Con.zx (c.sub.take i.1))) i.1) (fun _=>[]) (fun i=>c.sub.length - i.1) ⟨0,Nat.zero_le _⟩ 0 ?_ ?_ (by kernel_rfl)
  ·exact⟨by simp [SCd,Con.zx,Con.conS,za],by simp,by kernel_rfl,Nat.zero_le _⟩
  ·rintro⟨i,hil⟩
   have hdb:Con.zx (c.sub.take i)≤Con.zx c.sub:=Con.yu c.sub i
   obtain⟨d,hd⟩:∃ d,max (j8 c.x) (Con.zx (c.sub.take i))=d:=⟨_,rfl⟩
   simp only [hd]
   refine zb.run hmix (zfe ih) [3,14,15,16] 400 (T:=.ite (decide ((↑i:Int)<(↑c.sub.length:Int))) (.side ((0:Int)≤i∧(↑i:Int)<(↑c.sub.length:Int)) (.ex (fun(x:Con)=>eqL [(Con.conD (List.getD c.sub (↑i:Int).toNat Con.nil))] [(Con.conA x)]∧Con.nodes x<n∧Con.big x<1099511627776) fun n=>.all (fun(r:Nat)=>r=Con.depth n) fun n=>.side (inR .i64 ((↑i:Int)+(1:Int))) (.leaf (.back 0 [(3,.int .i64 (max (↑d:Int) (↑n:Int))),(14,.sl c.sub.length 12 (Con.conG c.sub)),(15,.int .i64 (↑c.sub.length:Int)),(16,.int .i64 ((↑i:Int)+(1:Int)))] [.box (Con.zr (List.getD c.sub (↑i:Int).toNat Con.nil))])))) (.side (inR .i64 ((↑d:Int)+(1:Int))) (.leaf (.ret [.int .i64 ((↑d:Int)+(1:Int))] [])))) (by kernel_rfl) ?_
   simp only [Tree.holds,ze,inR,lo,hi,Int.toNat_natCast]
   refine⟨fun hlt=> ?_,fun hge=> ?_⟩
   ·have hlt:i<c.sub.length:=by have:=of_decide_eq_true hlt; omega
    have hg:=Con.jn hlt
    have hgb:=Con.vV hlt
    have ht:=Con.jh c.sub i hlt
    refine⟨by omega,fun _=>⟨c.sub.getD i Con.nil,⟨⟨zQ _,trivial⟩,by omega,by omega⟩,⟨_,rfl⟩,?_⟩⟩
    rintro _ rfl
    refine⟨by omega,fun _=> ?_⟩
    rw [if_pos trivial]
    refine⟨⟨i+1,hlt⟩,by show c.sub.length - (i+1)<c.sub.length - i; omega,?_,by simp,by kernel_rfl,Nat.zero_le _⟩
    simp [SCd,ht,Con.conS,za]; omega
   ·have hge:i=c.sub.length:=by have:=of_decide_eq_false hge; omega
    subst hge
    rw [List.take_length] at hd
    refine⟨by omega,fun _=> ?_⟩
    exact RetR.scal hq rfl (by simp [resV]; omega)
 refine⟨c.x,⟨⟨zV c.x,trivial⟩,trivial⟩,⟨_,rfl⟩,?_⟩
 rintro _ rfl
 refine⟨fun h=>⟨c.x,⟨⟨zV c.x,trivial⟩,by show c.x.size<_; omega⟩,⟨_,rfl⟩,?_⟩,fun h=> ?_⟩
 ·rintro _ rfl
  exact loop c.x.depth _ (by unfold j8; rw [show qF c.x=false by simpa using h]; rfl) (fun _ _=>trivial) rfl
 ·exact loop 0 _ (by unfold j8; rw [show qF c.x=true by simpa using h]; rfl) (fun _ _=>trivial) rfl
def yq:Ctr:=ctrP true (fun c:Con=>[c.conA]) (fun c=>c.big<2^40) (fun c r=>r=c.depth) (fun _ (r:Nat)=>(.int .i64 (r:Int),[]))
theorem zd7:zd Tryz.prog 119 yq:=zT Con.nodes XP
noncomputable def GDpr:Nat→Option Ctr:=fun f=>if f=213 then some (ZP) else if f=193 then some (WA) else none
theorem zkm:∀ g c,GDpr g=some c→zd Tryz.prog g c:=okIf QW (okIf WE (zn))
noncomputable def zlm(n:Nat):Nat→Option Ctr:=fun f=>if f=196 then some (wH n) else GDpr f
theorem XE{n:Nat}(h:zd Tryz.prog 196 (wH n)):∀ f c,zlm n f=some c→zd Tryz.prog f c:=by
 intro f c hf
 simp only [zlm] at hf
 split at hf
 ·rename_i hg; subst hg; cases hf; exact h
 ·exact zkm f c hf
def SDpr(d i:Nat):KV:=[(1,.ptr 0 0),(3,.int .i64 (d:Int)),(4,.int .i64 (i:Int))]
def HDpr(c:Con):Heap:=[.box c.zg]
theorem zid(n:Nat)(ih:zd Tryz.prog 196 (wH n)):zd Tryz.prog 196 (wH (n+1)):=by
 refine zh (fn:=Tryz.f196) (c:=Tryz.f196.body.getD .skip) rfl rfl rfl fun c hp O w0 Q hq=> ?_
 obtain⟨hcn,hcb⟩:=hp
 replace hq:=hq _ rfl
 rw [Con.wX] at hq
 refine zb.run hmix (XE ih) [1,3,4] 400 (T:=.ex (fun(x:Ex)=>eqL [(Ex.exA c.x)] [x.exA]∧True) fun n=>.all (fun(r:Bool)=>r=qF n) fun n=>.ite (!n) (.ex (fun(x:Ex)=>eqL [(Ex.exA c.x)] [x.exA]∧Ex.size x<4611686018427387904) fun n=>.all (fun(r:Nat)=>r=Ex.depth n) fun n=>.leaf (.loop (Prod.fst (lps K196 0)) (Prod.snd (lps K196 0)) [(1,.ptr 0 0),(3,.int .i64 n),(4,.int .i64 0)] [.box (Con.zg c)])) (.leaf (.loop (Prod.fst (lps K196 0)) (Prod.snd (lps K196 0)) [(1,.ptr 0 0),(3,.int .i64 0),(4,.int .i64 0)] [.box (Con.zg c)]))) (by kernel_rfl) ?_
 simp only [Tree.holds,ze,inR,lo,hi,Int.toNat_natCast]
 have hb:=hcb
 rw [Con.vJ] at hb
 rw [Con.jK] at hcn
 have hxd:=vH c.x
 have hxs:=Con.xM c.x
 have hsd:=Con.yP c.sub
 have hss:=Con.k6 c.sub
 have hl:=Con.wP c.sub
 have loop:∀ (d0:Nat) (h:Heap),d0=j8 c.x→h=[.box c.zg]→zb Tryz.prog Tryz.f196 O 0 w0 [] (fun _ _ _=>False) (RetR (wH (n+1)) 0 Q) (.code (.loop (lps K196 0).1)::(lps K196 0).2) (mk Tryz.f196.ntmps [(1,.ptr 0 0),(3,.int .i64 (d0:Int)),(4,.int .i64 0)] h):=by
  rintro d0 h rfl rfl
  refine zb.loop (ι:={i:Nat // i≤c.sub.length}) (fun i=>SDpr (max (j8 c.x) (Con.zx (c.sub.take i.1))) i.1) (fun _=>HDpr c) (fun i=>c.sub.length - i.1) ⟨0,Nat.zero_le _⟩ 0 ?_ ?_ (by kernel_rfl)
  ·exact⟨by simp [SDpr,Con.zx,Con.z1],⟨zu c,trivial⟩,by kernel_rfl,Nat.zero_le _⟩
  ·rintro⟨i,hil⟩
   have hdb:Con.zx (c.sub.take i)≤Con.zx c.sub:=Con.yu c.sub i
   have hsb:Con.z1 (c.sub.take i)≤Con.z1 c.sub:=Con.uo c.sub i
   obtain⟨d,hd⟩:∃ d,max (j8 c.x) (Con.zx (c.sub.take i))=d:=⟨_,rfl⟩
   simp only [hd]
   refine zb.run hmix (XE ih) [1,3,4] 400 (T:=.ite (decide ((↑i:Int)<(↑c.sub.length:Int))) (.side ((0:Int)≤i∧(↑i:Int)<(↑c.sub.length:Int)) (.ex (fun(x:Con)=>eqL [(Con.conD (List.getD c.sub (↑i:Int).toNat Con.nil))] [(Con.conA x)]∧Con.nodes x<n∧Con.big x<1099511627776) fun n=>.all (fun(r:Nat)=>r=Con.depth n) fun n=>.side (inR .i64 ((↑i:Int)+(1:Int))) (.leaf (.back 0 [(1,.ptr 0 0),(3,.int .i64 (max (↑d:Int) (↑n:Int))),(4,.int .i64 ((↑i:Int)+(1:Int)))] [.box (Con.zg c)])))) (.side (inR .i64 ((↑d:Int)+(1:Int))) (.leaf (.ret [.int .i64 ((↑d:Int)+(1:Int))] [.box (Con.zg c)])))) (by kernel_rfl) ?_
   simp only [Tree.holds,ze,inR,lo,hi,Int.toNat_natCast]
   refine⟨fun hlt=> ?_,fun hge=> ?_⟩
   ·have hlt:i<c.sub.length:=by have:=of_decide_eq_true hlt; omega
    have hg:=Con.jn hlt
    have hgb:=Con.vV hlt
    have hsl2:Con.z1 (c.sub.take (i+1))≤Con.z1 c.sub:=Con.uo c.sub (i+1)
    have ht:=Con.jh c.sub i hlt
    refine⟨by omega,fun _=>⟨c.sub.getD i Con.nil,⟨⟨zQ _,trivial⟩,by omega,by omega⟩,⟨_,rfl⟩,?_⟩⟩
    rintro _ rfl
    iterate 1 refine⟨by omega,fun _=> ?_⟩
    rw [if_pos trivial]
    refine⟨⟨i+1,hlt⟩,by show c.sub.length - (i+1)<c.sub.length - i; omega,?_,⟨zu c,trivial⟩,by kernel_rfl,Nat.zero_le _⟩
    simp [SDpr,ht]; omega
   ·have hge:i=c.sub.length:=by have:=of_decide_eq_false hge; omega
    subst hge
    rw [List.take_length] at hd
    refine⟨by omega,fun _=> ?_⟩
    exact RetR.scal hq rfl (by simp [resV]; omega)
 refine⟨c.x,⟨⟨zV c.x,trivial⟩,trivial⟩,⟨_,rfl⟩,?_⟩
 rintro _ rfl
 refine⟨fun h=>⟨c.x,⟨⟨zV c.x,trivial⟩,by show c.x.size<_; omega⟩,⟨_,rfl⟩,?_⟩,fun h=> ?_⟩
 ·rintro _ rfl
  exact loop c.x.depth _ (by unfold j8; rw [show qF c.x=false by simpa using h]; rfl) rfl
 ·exact loop 0 _ (by unfold j8; rw [show qF c.x=true by simpa using h]; rfl) rfl
theorem Uv:zd Tryz.prog 196 yq:=zT Con.nodes zid
def uL(n:Nat):Ctr:=ctrP true (fun c:Con=>[c.conA]) (fun c=>c.nodes<n∧c.big<2^40) (fun c r=>r=c.size) (fun _ (r:Nat)=>(.int .i64 (r:Int),[]))
noncomputable def GSzr:Nat→Option Ctr:=fun f=>if f=213 then some (ZP) else if f=192 then some (Qq) else none
theorem zjy:∀ g c,GSzr g=some c→zd Tryz.prog g c:=okIf QW (okIf XJ (zn))
noncomputable def zlp(n:Nat):Nat→Option Ctr:=fun f=>if f=131 then some (uL n) else GSzr f
theorem Yh{n:Nat}(h:zd Tryz.prog 131 (uL n)):∀ f c,zlp n f=some c→zd Tryz.prog f c:=by
 intro f c hf
 simp only [zlp] at hf
 split at hf
 ·rename_i hg; subst hg; cases hf; exact h
 ·exact zjy f c hf
def SSzr(d i:Nat):KV:=[(1,.ptr 0 0),(3,.int .i64 (d:Int)),(4,.int .i64 (i:Int))]
def HSzr(c:Con):Heap:=[.box c.zg]
theorem zic(n:Nat)(ih:zd Tryz.prog 131 (uL n)):zd Tryz.prog 131 (uL (n+1)):=by
 refine zh (fn:=Tryz.f131) (c:=Tryz.f131.body.getD .skip) rfl rfl rfl fun c hp O w0 Q hq=> ?_
 obtain⟨hcn,hcb⟩:=hp
 replace hq:=hq _ rfl
 rw [Con.size_eq] at hq
 refine zb.run hmix (Yh ih) [1,3,4] 400 (T:=.ex (fun(x:Ex)=>eqL [(Ex.exA c.x)] [x.exA]∧True) fun n=>.all (fun(r:Bool)=>r=qF n) fun n=>.ite (!n) (.ex (fun(x:Ex)=>eqL [(Ex.exA c.x)] [x.exA]∧Ex.size x<4611686018427387904) fun n=>.all (fun(r:Nat)=>r=Ex.size n) fun n=>.side (inR .i64 ((1:Int)+n)) (.leaf (.loop (Prod.fst (lps K131 0)) (Prod.snd (lps K131 0)) [(1,.ptr 0 0),(3,.int .i64 ((1:Int)+n)),(4,.int .i64 0)] [.box (Con.zg c)]))) (.leaf (.loop (Prod.fst (lps K131 0)) (Prod.snd (lps K131 0)) [(1,.ptr 0 0),(3,.int .i64 1),(4,.int .i64 0)] [.box (Con.zg c)]))) (by kernel_rfl) ?_
 simp only [Tree.holds,ze,inR,lo,hi,Int.toNat_natCast]
 have hb:=hcb
 rw [Con.vJ] at hb
 rw [Con.jK] at hcn
 have hxd:=vH c.x
 have hxs:=Con.xM c.x
 have hsd:=Con.yP c.sub
 have hss:=Con.k6 c.sub
 have hl:=Con.wP c.sub
 have loop:∀ (d0:Nat) (h:Heap),d0=1+wc c.x→h=[.box c.zg]→zb Tryz.prog Tryz.f131 O 0 w0 [] (fun _ _ _=>False) (RetR (uL (n+1)) 0 Q) (.code (.loop (lps K131 0).1)::(lps K131 0).2) (mk Tryz.f131.ntmps [(1,.ptr 0 0),(3,.int .i64 (d0:Int)),(4,.int .i64 0)] h):=by
  rintro d0 h rfl rfl
  refine zb.loop (ι:={i:Nat // i≤c.sub.length}) (fun i=>SSzr (1+wc c.x+Con.z1 (c.sub.take i.1)) i.1) (fun _=>HSzr c) (fun i=>c.sub.length - i.1) ⟨0,Nat.zero_le _⟩ 0 ?_ ?_ (by kernel_rfl)
  ·exact⟨by simp [SSzr,Con.zx,Con.z1],⟨zu c,trivial⟩,by kernel_rfl,Nat.zero_le _⟩
  ·rintro⟨i,hil⟩
   have hdb:Con.zx (c.sub.take i)≤Con.zx c.sub:=Con.yu c.sub i
   have hsb:Con.z1 (c.sub.take i)≤Con.z1 c.sub:=Con.uo c.sub i
   obtain⟨d,hd⟩:∃ d,1+wc c.x+Con.z1 (c.sub.take i)=d:=⟨_,rfl⟩
   simp only [hd]
   refine zb.run hmix (Yh ih) [1,3,4] 400 (T:=.ite (decide ((↑i:Int)<(↑c.sub.length:Int))) (.side ((0:Int)≤i∧(↑i:Int)<(↑c.sub.length:Int)) (.ex (fun(x:Con)=>eqL [(Con.conD (List.getD c.sub (↑i:Int).toNat Con.nil))] [(Con.conA x)]∧Con.nodes x<n∧Con.big x<1099511627776) fun n=>.all (fun(r:Nat)=>r=Con.size n) fun n=>.side (inR .i64 ((↑d:Int)+n)) (.side (inR .i64 ((↑i:Int)+(1:Int))) (.leaf (.back 0 [(1,.ptr 0 0),(3,.int .i64 ((↑d:Int)+n)),(4,.int .i64 ((↑i:Int)+(1:Int)))] [.box (Con.zg c)]))))) (.leaf (.ret [.int .i64 d] [.box (Con.zg c)]))) (by kernel_rfl) ?_
   simp only [Tree.holds,ze,inR,lo,hi,Int.toNat_natCast]
   refine⟨fun hlt=> ?_,fun hge=> ?_⟩
   ·have hlt:i<c.sub.length:=by have:=of_decide_eq_true hlt; omega
    have hg:=Con.jn hlt
    have hgb:=Con.vV hlt
    have hsl2:Con.z1 (c.sub.take (i+1))≤Con.z1 c.sub:=Con.uo c.sub (i+1)
    have ht:=Con.xl hlt
    refine⟨by omega,fun _=>⟨c.sub.getD i Con.nil,⟨⟨zQ _,trivial⟩,by omega,by omega⟩,⟨_,rfl⟩,?_⟩⟩
    rintro _ rfl
    iterate 2 refine⟨by omega,fun _=> ?_⟩
    rw [if_pos trivial]
    refine⟨⟨i+1,hlt⟩,by show c.sub.length - (i+1)<c.sub.length - i; omega,?_,⟨zu c,trivial⟩,by kernel_rfl,Nat.zero_le _⟩
    simp [SSzr,ht]; omega
   ·have hge:i=c.sub.length:=by have:=of_decide_eq_false hge; omega
    subst hge
    rw [List.take_length] at hd
    exact RetR.scal hq rfl (by simp [resV]; omega)
 refine⟨c.x,⟨⟨zV c.x,trivial⟩,trivial⟩,⟨_,rfl⟩,?_⟩
 rintro _ rfl
 refine⟨fun h=>⟨c.x,⟨⟨zV c.x,trivial⟩,by show c.x.size<_; omega⟩,⟨_,rfl⟩,?_⟩,fun h=> ?_⟩
 ·rintro _ rfl
  refine⟨by omega,fun _=> ?_⟩
  have:=loop (1+c.x.size) _ (by unfold wc; rw [show qF c.x=false by simpa using h]; rfl) rfl
  rw [Int.natCast_add] at this
  exact this
 ·exact loop 1 _ (by unfold wc; rw [show qF c.x=true by simpa using h]; rfl) rfl
def Vs:Ctr:=ctrP true (fun c:Con=>[c.conA]) (fun c=>c.big<2^40) (fun c r=>r=c.size) (fun _ (r:Nat)=>(.int .i64 (r:Int),[]))
theorem zbv:zd Tryz.prog 131 Vs:=zT Con.nodes zic
end Go.Proofs.Tryz
end
section
namespace Go.Sx
variable [Stat]
section
variable {P:Program}
theorem WM(a:AV):eqA0 a a:=by
 cases a<;>simp [eqA0]
 exact fun _ _ _ _=>rfl
theorem Z3:∀ l:List AV,eqL0 l l
 | []=>trivial
 | a::l=>⟨WM a,Z3 l⟩
theorem zh7(a:AV):eqA a a:=by
 cases a with
 | agg l=>exact Z3 l
 | tup l=>exact Z3 l
 | _=>unfold eqA; exact WM _
theorem QN:∀ l:List AV,eqL l l
 | []=>trivial
 | a::l=>by
  unfold eqL
  split
  ·rename_i h1 h2; cases h1
  ·rename_i h1 h2; cases h1; cases h2; exact QN l
  ·rename_i h1 h2; cases h1; cases h2; exact⟨zh7 _,QN l⟩
  ·rename_i hx; exact(hx _ _ _ _ rfl rfl).elim
end
end Go.Sx
end
section
namespace Go.Sx
variable [Stat]
section
variable {P:Program} {Γ:Nat→Option Ctr} {fn:Func}
def inlC(P:Program)(Γ:Nat→Option Ctr)(n:Nat)(fn:Func):Ctr where
 fresh:=false
 spec args hc:=match fn.body with
  | some c=>(run P Γ hc.length n [.code c] (kV fn args hc)).bind fun lf=>match lf with
   | .ret st=>(resX P st fn.results.toList).bind fun rs=>bif decide (hc.length≤st.heap.length) then .leaf (exp2 st.heap (List.range st.heap.length) (resV rs),expH st.heap (List.range st.heap.length)) else .fail
   | _=>.fail
  | none=>.fail
theorem nodup_range':∀ (n s:Nat),jT (List.range' s n)=true
 | 0,_=>rfl
 | n+1,s=>by
  rw [List.range'_succ]
  simp only [jT,Bool.and_eq_true]
  refine⟨?_,nodup_range' n (s+1)⟩
  simp [List.contains_eq_mem,List.mem_range'_1]
theorem zc1(b:Blk):eqB b b:=by
 cases b with
 | dead=>trivial
 | box l=>exact QN l
 | arr n sz g=>exact⟨rfl,rfl,fun _ _ _ _=>rfl⟩
 | arrI k n f=>exact⟨rfl,fun _ _ _ _=>rfl⟩
 | arrS n f=>exact⟨rfl,fun _ _ _ _=>rfl⟩
 | map ag sh has get pe=>exact⟨⟨rfl,.inr rfl⟩,rfl,fun _=>rfl,fun _ _=>rfl⟩
theorem zd3(h:Heap):eqH h h:=by
 induction h with
 | nil=>trivial
 | cons b l ih=>exact⟨zc1 b,ih⟩
theorem Z1{g n:Nat}(hmix:P.follows .mixedOrders=true)(hΓ:∀ g c,Γ g=some c→zd P g c)(hf:P.funcs[g]?=some fn) (hn:(fn.name == "runtime.NumGoroutine")=false):zd P g (inlC P Γ n fn):=by
 intro args hc Q hq hfr
 simp only [inlC] at hq
 cases hb:fn.body with
 | none=>rw [hb] at hq; exact hq.elim
 | some c=>
  rw [hb] at hq
  simp only [Tree.zq] at hq
  refine vf.plain (zle hf hb hn hfr fun O w0 σ0 hl=>Safe.run hmix (fun g c h=>(hΓ g c h).x) n (Tree.zX (fun lf h=> ?_) hq))
  cases lf with
  | ret st=>
   simp only [Tree.zq] at h
   refine Tree.zX (fun rs h=> ?_) h
   cases hd:decide (hc.length≤st.heap.length) with
   | false=>rw [hd] at h; exact h.elim
   | true=>
    rw [hd] at h
    have h:Q (exp2 st.heap (List.range st.heap.length) (resV rs),expH st.heap (List.range st.heap.length)):=h
    have hd:=of_decide_eq_true hd
    exact⟨List.range st.heap.length,by rw [List.range_eq_range']; exact nodup_range' _ _,fun i hi=>List.mem_range.1 hi,fun j hj=>by rw [List.getElem?_range (by omega)],fun h=>(by cases h),_,_,LeA.refl _,zd3 _,by simp [expH],h⟩
  | _=>exact h.elim
end
end Go.Sx
end
section
namespace Go.Nov
open Go.Sx
structure OrdK{α:Type}(c:α→α→Int):Prop where
 lt:∀ a b d,c a b<0→c b d<0→c a d<0
 eq:∀ a b d,c a b<0→c b d=0→c a d<0
section
variable {α:Type} {c:α→α→Int} {z x:α}
end
theorem zmt{α:Type}{p:α→Bool}{z:α}{l:List α}(h:∀ j,j<l.length→p (l.getD j z)=true):l.all p=true:=by
 rw [List.all_eq_true]
 intro x hx
 obtain⟨j,hj,rfl⟩:=List.getElem_of_mem hx
 have:=h j hj
 simpa [List.getD,hj] using this
theorem zjt{α:Type}{p:α→Bool}{z:α}{l:List α}{j:Nat}(hj:j<l.length)(h:p (l.getD j z)=false):l.all p=false:=by
 rw [List.all_eq_false]
 exact⟨l[j],List.getElem_mem hj,by simpa [List.getD,hj] using h⟩
end Go.Nov
end
section
set_option maxRecDepth 100000
open Go Go.Sx Go.Proofs Go.Nov
namespace Go.Proofs.Tryz
attribute [local simp] eqKV eqA eqA0 eqH eqB eqL eqL0
noncomputable def K211:List Go.Sx.Item:=[.code (Tryz.f211.body.getD .skip)]
noncomputable def K234:List Go.Sx.Item:=[.code (Tryz.f234.body.getD .skip)]
def zat:Ctr:=ctrP true (fun l:List Int=>[Con.dayS l]) (fun l=>l.length<2^40) (fun l r=>r=vI l) (fun _ (r:Bool)=>(.bool r,[]))
noncomputable def Yy:Ctr:=inlC Tryz.prog noG 100 Tryz.f210
theorem V0:zd Tryz.prog 210 Yy:=Z1 hmix zy rfl rfl
noncomputable def GDy:Nat→Option Ctr:=fun f=>if f=210 then some (Yy) else none
theorem zgk:∀ g c,GDy g=some c→zd Tryz.prog g c:=okIf V0 (zn)
def Yp(l:List Int)(i:Nat):Prop:=∀ j,j<i→dayB (l.getD j 0)=true∧(0<j→l.getD (j - 1) 0<l.getD j 0)
theorem WD{l:List Int}(h1:1≤l.length)(h2:l.length≤100)(h:Yp l l.length):vI l=true:=by
 unfold vI
 rw [decide_eq_true h1,decide_eq_true h2,zmt (z:=0) fun j hj=>(h j hj).1]
 simp only [Bool.true_and]
 unfold incB
 refine zfg fun j hj=> ?_
 rw [zav]
 exact(h (j+1) hj).2 (by omega)
theorem X3{l:List Int}{i:Nat}(hi:i<l.length)(h:¬ (dayB (l.getD i 0)=true∧(0<i→l.getD (i - 1) 0<l.getD i 0))):vI l=false:=by
 unfold vI
 by_cases hd:dayB (l.getD i 0)=true
 ·have h:0<i∧¬ l.getD (i - 1) 0<l.getD i 0:=by
   refine⟨?_,?_⟩
   ·rcases Nat.eq_zero_or_pos i with h0 | h0
    ·exact absurd ⟨hd,fun h1=>by omega⟩ h
    ·exact h0
   ·exact fun h1=>h ⟨hd,fun _=>h1⟩
  have:incB l=false:=by
   unfold incB
   refine zdw (j:=i - 1) (by omega) ?_
   rw [zav,show i - 1+1=i by omega]
   exact h.2
  rw [this]; simp
 ·have:l.all dayB=false:=zjt (z:=0) hi (by simpa using hd)
  rw [this]; simp
theorem Jl{l:List Int}{i:Nat}(h:Yp l i)(h1:dayB (l.getD i 0)=true∧(0<i→l.getD (i - 1) 0<l.getD i 0)):Yp l (i+1):=fun j hj=>by
 rcases Nat.lt_or_ge j i with h2 | h2
 ·exact h j h2
 ·rw [show j=i by omega]; exact h1
theorem Kd{l:List Int}{i:Nat}{b:Bool}(hb:b=dayB (l.getD i 0)):(bif !b then true else bif decide (0<(i:Int)) then decide (l.getD i 0≤l.getD ((i:Int) - 1).toNat 0) else false)=false↔(dayB (l.getD i 0)=true∧(0<i→l.getD (i - 1) 0<l.getD i 0)):=by
 have e:((i:Int) - 1).toNat=i - 1:=by omega
 rw [e,← hb]
 cases b with
 | false=>simp
 | true=>
  by_cases h0:0<i
  ·have h1:0<(i:Int):=by omega
   rw [decide_eq_true h1]
   simp only [Bool.not_true,cond_false,cond_true,decide_eq_false_iff_not,true_and]
   exact⟨fun h _=>by omega,fun h=>by have:=h h0; omega⟩
  ·have h1:¬ 0<(i:Int):=by omega
   rw [decide_eq_false h1]
   simp [h0]
theorem KM{l:List Int}{i:Nat}{b:Bool}(hb:b=dayB (l.getD i 0)):(bif !b then true else bif decide (0<(i:Int)) then decide (l.getD i 0≤l.getD ((i:Int) - 1).toNat 0) else false)=true→¬ (dayB (l.getD i 0)=true∧(0<i→l.getD (i - 1) 0<l.getD i 0)):=fun h g=>by
 rw [(Kd hb).2 g] at h; cases h
def SDy(l:List Int)(i:Nat):KV:=[(0,Con.dayS l),(13,Con.dayS l),(14,.int .i64 (l.length:Int)),(15,.int .i64 (i:Int)),(24,.undef),(25,.undef),(26,.undef),(27,.undef),(28,.undef),(29,.undef),(30,.undef),(31,.undef),(32,.undef),(33,.undef),(34,.undef)]
def SDyr(l:List Int)(i:Nat):KV:=[(0,Con.dayS l),(3,.int .i64 (i:Int)),(17,.undef),(18,.undef),(19,.undef),(20,.undef),(21,.undef),(22,.undef),(23,.undef),(24,.undef),(25,.undef),(26,.undef),(27,.undef),(28,.undef),(29,.undef),(30,.undef),(36,.undef),(37,.undef),(38,.undef)]
theorem zlv(d:Int):(bif decide (0≤d) then decide (d≤99999) else false)=dayB d:=by
 rw [Bool.eq_iff_iff]
 simp [dayB]
theorem zje:zd Tryz.prog 211 zat:=by
 refine zh (fn:=Tryz.f211) (c:=Tryz.f211.body.getD .skip) rfl rfl rfl fun l hl O w0 Q hq=> ?_
 replace hq:=hq _ rfl
 refine zb.run hmix zgk [0,13,14,15,24,25,26,27,28,29,30,31,32,33,34] 400 (T:=.ite (bif decide ((↑l.length:Int)<1) then true else decide ((100:Int)<l.length)) (.leaf (.ret [.bool false] [])) (.leaf (.loop (Prod.fst (lps K211 0)) (Prod.snd (lps K211 0)) [(0,.sl l.length 1 (Con.dayG l)),(13,.sl l.length 1 (Con.dayG l)),(14,.int .i64 l.length),(15,.int .i64 0),(24,.undef),(25,.undef),(26,.undef),(27,.undef),(28,.undef),(29,.undef),(30,.undef),(31,.undef),(32,.undef),(33,.undef),(34,.undef)] []))) (by kernel_rfl) ?_
 simp only [Tree.holds,ze,inR,lo,hi,Int.toNat_natCast]
 refine⟨fun h=> ?_,fun h=> ?_⟩
 ·have hb:vI l=false:=by
   unfold vI
   by_cases h1:1≤l.length
   ·by_cases h2:l.length≤100
    ·rw [decide_eq_false (by omega),decide_eq_false (by omega)] at h; cases h
    ·rw [decide_eq_false h2]; simp
   ·rw [decide_eq_false h1]; simp
  rw [hb] at hq
  exact RetR.scal hq rfl rfl
 have hlen:1≤l.length∧l.length≤100:=by
  by_cases h1:(l.length:Int)<1
  ·rw [decide_eq_true h1] at h; cases h
  ·rw [decide_eq_false h1] at h
   have:=of_decide_eq_false h
   omega
 clear h
 refine zb.loop (ι:={i:Nat // i≤l.length∧Yp l i}) (fun i=>SDy l i.1) (fun _=>[]) (fun i=>l.length - i.1) ⟨0,Nat.zero_le _,fun j hj=>by omega⟩ 0 ?_ ?_ (by kernel_rfl)
 ·exact⟨by simp [SDy,Con.dayS,za],by simp,by kernel_rfl,Nat.zero_le _⟩
 rintro⟨i,hil,hg⟩
 refine zb.run hmix zgk [0,13,14,15,24,25,26,27,28,29,30,31,32,33,34] 400 (T:=.ite (decide ((↑i:Int)<l.length)) (.side ((0:Int)≤i∧(↑i:Int)<l.length) (.side ((!bif decide ((0:Int)≤List.getD l (↑i:Int).toNat (0:Int)) then decide (l.getD (↑i:Int).toNat (0:Int)≤99999) else false)=false∧decide ((0:Int)<i)=true→inR .i64 ((↑i:Int) - (1:Int))) (.side ((!bif decide ((0:Int)≤List.getD l (↑i:Int).toNat (0:Int)) then decide (l.getD (↑i:Int).toNat (0:Int)≤99999) else false)=false∧decide ((0:Int)<i)=true→(0:Int)≤i - (1:Int)∧(↑i:Int) - (1:Int)<l.length) (.ite (bif !bif decide ((0:Int)≤List.getD l (↑i:Int).toNat (0:Int)) then decide (l.getD (↑i:Int).toNat (0:Int)≤99999) else false then true else bif decide ((0:Int)<i) then decide (l.getD (↑i:Int).toNat (0:Int)≤List.getD l (Int.toNat ((↑i:Int) - (1:Int))) (0:Int)) else false) (.leaf (.ret [.bool false] [])) (.side (inR .i64 ((↑i:Int)+(1:Int))) (.leaf (.back 0 [(0,.sl l.length 1 (Con.dayG l)),(13,.sl l.length 1 (Con.dayG l)),(14,.int .i64 l.length),(15,.int .i64 ((↑i:Int)+(1:Int))),(24,.undef),(25,.undef),(26,.undef),(27,.undef),(28,.undef),(29,.undef),(30,.undef),(31,.undef),(32,.undef),(33,.undef),(34,.undef)] []))))))) (.leaf (.ret [.bool true] []))) (by kernel_rfl) ?_
 simp only [Tree.holds,ze,inR,lo,hi,Int.toNat_natCast]
 refine⟨fun hlt=> ?_,fun hge=> ?_⟩
 ·have hlt:i<l.length:=by have:=of_decide_eq_true hlt; omega
  refine⟨by omega,fun _=>⟨fun h=>(by have:=of_decide_eq_true h.2; omega),fun _=>⟨fun h=>(by have:=of_decide_eq_true h.2; omega),fun _=>⟨fun ht=> ?_,fun ht=>⟨by omega,fun _=> ?_⟩⟩⟩⟩⟩
  ·rw [X3 hlt (KM (zlv _) ht)] at hq
   exact RetR.scal hq rfl rfl
  ·rw [if_pos trivial]
   exact⟨⟨i+1,hlt,Jl hg ((Kd (zlv _)).1 ht)⟩,by show l.length - (i+1)<l.length - i; omega,by simp [SDy,Con.dayS,za],by simp,by kernel_rfl,Nat.zero_le _⟩
 ·have hge:i=l.length:=by have:=of_decide_eq_false hge; omega
  subst hge
  rw [WD hlen.1 hlen.2 hg] at hq
  exact RetR.scal hq rfl rfl
noncomputable def GDyr:Nat→Option Ctr:=fun f=>if f=115 then some (y9) else none
theorem UU:∀ g c,GDyr g=some c→zd Tryz.prog g c:=okIf VQ (zn)
theorem zho:zd Tryz.prog 234 zat:=by
 refine zh (fn:=Tryz.f234) (c:=Tryz.f234.body.getD .skip) rfl rfl rfl fun l hl O w0 Q hq=> ?_
 replace hq:=hq _ rfl
 refine zb.run hmix UU [0,3,17,18,19,20,21,22,23,24,25,26,27,28,29,30,36,37,38] 400 (T:=.leaf (.loop (Prod.fst (lps K234 0)) (Prod.snd (lps K234 0)) [(0,.sl l.length 1 (Con.dayG l)),(3,.int .i64 0),(17,.undef),(18,.undef),(19,.undef),(20,.undef),(21,.undef),(22,.undef),(23,.undef),(24,.undef),(25,.undef),(26,.undef),(27,.undef),(28,.undef),(29,.undef),(30,.undef),(36,.undef),(37,.undef),(38,.undef)] [])) (by kernel_rfl) ?_
 simp only [Tree.holds,ze,inR,lo,hi,Int.toNat_natCast]
 refine zb.loop (ι:={i:Nat // i≤l.length∧Yp l i}) (fun i=>SDyr l i.1) (fun _=>[]) (fun i=>l.length - i.1) ⟨0,Nat.zero_le _,fun j hj=>by omega⟩ 0 ?_ ?_ (by kernel_rfl)
 ·exact⟨by simp [SDyr,Con.dayS,za],by simp,by kernel_rfl,Nat.zero_le _⟩
 rintro⟨i,hil,hg⟩
 refine zb.run hmix UU [0,3,17,18,19,20,21,22,23,24,25,26,27,28,29,30,36,37,38] 400 (T:=.ite (decide ((↑i:Int)<l.length)) (.side ((0:Int)≤i∧(↑i:Int)<l.length) (.ex (fun(x:Int)=>eqL [AV.int .i64 (l.getD (↑i:Int).toNat (0:Int))] [AV.int .i64 x]∧True) fun n=>.all (fun(r:Bool)=>r=dayB n) fun n=>.side ((!n)=false∧decide ((0:Int)<i)=true→(0:Int)≤i∧(↑i:Int)<l.length) (.side ((!n)=false∧decide ((0:Int)<i)=true→inR .i64 ((↑i:Int) - (1:Int))) (.side ((!n)=false∧decide ((0:Int)<i)=true→(0:Int)≤i - (1:Int)∧(↑i:Int) - (1:Int)<l.length) (.ite (bif !n then true else bif decide ((0:Int)<i) then decide (l.getD (↑i:Int).toNat (0:Int)≤List.getD l (Int.toNat ((↑i:Int) - (1:Int))) (0:Int)) else false) (.leaf (.ret [.bool false] [])) (.side (inR .i64 ((↑i:Int)+(1:Int))) (.leaf (.back 0 [(0,.sl l.length 1 (Con.dayG l)),(3,.int .i64 ((↑i:Int)+(1:Int))),(17,.undef),(18,.undef),(19,.undef),(20,.undef),(21,.undef),(22,.undef),(23,.undef),(24,.undef),(25,.undef),(26,.undef),(27,.undef),(28,.undef),(29,.undef),(30,.undef),(36,.undef),(37,.undef),(38,.undef)] [])))))))) (.leaf (.ret [.bool (bif decide ((1:Int)≤l.length) then decide ((↑l.length:Int)≤100) else false)] []))) (by kernel_rfl) ?_
 simp only [Tree.holds,ze,inR,lo,hi,Int.toNat_natCast]
 refine⟨fun hlt=> ?_,fun hge=> ?_⟩
 ·have hlt:i<l.length:=by have:=of_decide_eq_true hlt; omega
  refine⟨by omega,fun _=>⟨l.getD i 0,⟨by simp,trivial⟩,⟨_,rfl⟩,?_⟩⟩
  rintro _ rfl
  refine⟨fun _=>(by omega),fun _=>⟨fun h=>(by have:=of_decide_eq_true h.2; omega),fun _=>⟨fun h=>(by have:=of_decide_eq_true h.2; omega),fun _=>⟨fun ht=> ?_,fun ht=>⟨by omega,fun _=> ?_⟩⟩⟩⟩⟩
  ·rw [X3 hlt (KM rfl ht)] at hq
   exact RetR.scal hq rfl rfl
  ·rw [if_pos trivial]
   exact⟨⟨i+1,hlt,Jl hg ((Kd rfl).1 ht)⟩,by show l.length - (i+1)<l.length - i; omega,by simp [SDyr,Con.dayS,za],by simp,by kernel_rfl,Nat.zero_le _⟩
 ·have hge:i=l.length:=by have:=of_decide_eq_false hge; omega
  subst hge
  have e:(bif decide (1≤(l.length:Int)) then decide ((l.length:Int)≤100) else false)=vI l:=by
   by_cases h1:1≤l.length
   ·by_cases h2:l.length≤100
    ·rw [WD h1 h2 hg,decide_eq_true (by omega),decide_eq_true (by omega)]; rfl
    ·rw [decide_eq_true (by omega),decide_eq_false (by omega)]; unfold vI; rw [decide_eq_false h2]; simp
   ·rw [decide_eq_false (by omega)]; unfold vI; rw [decide_eq_false h1]; simp
  rw [e]
  exact RetR.scal hq rfl rfl
def bitB(p q:Int):Bool:=decide (((p.toNat &&& q.toNat:Nat):Int)≠0)
def HHas(p:Int):Heap:=[.box [.int .i64 p]]
def hasC:Ctr:=ctrT false false (fun p:Int×Int=>[.int .i64 p.2,.ptr 0 0]) (fun p=>HHas p.1) (fun p=>0≤p.1∧p.1<512∧0≤p.2∧p.2<512) (fun p r=>r=bitB p.1 p.2) (fun p (r:Bool)=>(.bool r,HHas p.1))
theorem zgx:zd Tryz.prog 208 hasC:=by
 refine qt (fn:=Tryz.f208) (c:=Tryz.f208.body.getD .skip) rfl rfl rfl (fun h=>by cases h) fun p hp O w0 σ0 Q hl0 hq=> ?_
 obtain⟨p,q⟩:=p
 obtain⟨h1,h2,h3,h4⟩:=hp
 replace hq:=hq _ rfl
 simp only at h1 h2 h3 h4 hq
 refine zb.run hmix zy [] 400 (T:=.side (((0:Int)≤p∧p≤9223372036854775807)∧(0:Int)≤q∧q≤9223372036854775807) (.leaf (.ret [.bool !decide ((↑(Int.toNat p &&& Int.toNat q):Int)=0)] [.box [.int .i64 p]]))) (by kernel_rfl) ?_
 simp only [Tree.holds,ze,inR,lo,hi,Int.toNat_natCast]
 refine⟨by omega,fun _=> ?_⟩
 refine RetR.keep [0] rfl rfl (by show ∀ j,j<1→_; decide) rfl hq ?_ ?_ rfl
 ·show(!decide (((p.toNat &&& q.toNat:Nat):Int)=0))=bitB p q
  simp [bitB]
 ·exact⟨⟨⟨rfl,rfl⟩,trivial⟩,trivial⟩
noncomputable def GNd2:Nat→Option Ctr:=fun f=>if f=208 then some (hasC) else if f=81 then some (ZW) else none
theorem zk6:∀ g c,GNd2 g=some c→zd Tryz.prog g c:=okIf zgx (okIf zad (zn))
def zlg(p:Int):Heap:=[.box [.fn 208 [] [.ptr 1 0]],.box [.int .i64 p]]
def jV(b:Bool)(s:List UInt8):Bool:=if b=true then qh s else decide (s=[])
def zly:Ctr:=ctrT false false (fun p:Int×Int×List UInt8=>[.int .i64 p.2.1,.str p.2.2,.ptr 0 0]) (fun p=>zlg p.1) (fun p=>0≤p.1∧p.1<512∧0≤p.2.1∧p.2.1<512∧p.2.2.length<2^62) (fun p r=>r=jV (bitB p.1 p.2.1) p.2.2) (fun p (r:Bool)=>(.bool r,zlg p.1))
theorem zjs:zd Tryz.prog 209 zly:=by
 refine qt (fn:=Tryz.f209) (c:=Tryz.f209.body.getD .skip) rfl rfl rfl (fun h=>by cases h) fun p hp O w0 σ0 Q hl0 hq=> ?_
 obtain⟨p,q,s⟩:=p
 obtain⟨h1,h2,h3,h4,h5⟩:=hp
 replace hq:=hq _ rfl
 simp only at h1 h2 h3 h4 h5 hq
 refine zb.run hmix zk6 [] 400 (T:=.ex (fun(x:Int×Int)=>eqL [AV.int .i64 q,AV.ptr 0 0] [AV.int .i64 x.2,AV.ptr 0 0]∧eqH [.box [AV.int .i64 p]] [.box [AV.int .i64 x.1]]∧1=1∧(0:Int)≤x.1∧x.1<512∧(0:Int)≤x.2∧x.2<512) fun n=>.all (fun(r:Bool)=>r=bitB n.1 n.2) fun n_1=>.ex (fun(x:List UInt8)=>n_1=true→eqL [AV.str s] [AV.str x]∧x.length<4611686018427387904) fun n_2=>.all (fun(x:Bool)=>n_1=true→x=qh n_2) fun n_3=>.ite ((bif n_1 then n_3 else false) == false) (.ex (fun(x:Int×Int)=>eqL [AV.int .i64 q,AV.ptr 0 0] [AV.int .i64 x.2,AV.ptr 0 0]∧eqH [.box [AV.int .i64 n.1]] [.box [AV.int .i64 x.1]]∧1=1∧(0:Int)≤x.1∧x.1<512∧(0:Int)≤x.2∧x.2<512) fun n=>.all (fun(r:Bool)=>r=bitB n.1 n.2) fun n_4=>.leaf (.ret [.bool (bif bif n_1 then n_3 else false then true else bif !n_4 then decide (s=#[].toList) else false)] [.box [.fn 208 [] [.ptr 1 0]],.box [.int .i64 n.1]])) (.leaf (.ret [.bool (bif bif n_1 then n_3 else false then true else bif !false then decide (s=#[].toList) else false)] [.box [.fn 208 [] [.ptr 1 0]],.box [.int .i64 n.1]]))) (by kernel_rfl) ?_
 simp only [Tree.holds,ze,inR,lo,hi,Int.toNat_natCast]
 refine⟨(p,q),⟨⟨⟨rfl,rfl⟩,⟨rfl,rfl⟩,trivial⟩,⟨⟨⟨rfl,rfl⟩,trivial⟩,trivial⟩,trivial,h1,h2,h3,h4⟩,⟨_,rfl⟩,?_⟩
 rintro b rfl
 refine⟨s,fun _=>⟨⟨rfl,trivial⟩,h5⟩,⟨qh s,fun _=>rfl⟩,fun m hm=>⟨fun hb=> ?_,fun hb=> ?_⟩⟩
 ·refine⟨(p,q),⟨⟨⟨rfl,rfl⟩,⟨rfl,rfl⟩,trivial⟩,⟨⟨⟨rfl,rfl⟩,trivial⟩,trivial⟩,trivial,h1,h2,h3,h4⟩,⟨_,rfl⟩,?_⟩
  rintro b rfl
  refine RetR.keep [0,1] rfl rfl (by show ∀ j,j<2→_; decide) rfl hq ?_ ?_ rfl
  ·simp only [exp2,exp1,exp0,resV,eqA2,jV]
   cases hbb:bitB p q with
   | true=>
    have:=hm hbb
    rw [hbb] at hb
    subst this
    have:qh s=false:=by simpa using hb
    rw [this]; rfl
   | false=>simp; rfl
  ·exact⟨⟨rfl,trivial⟩,⟨⟨rfl,rfl⟩,trivial⟩,trivial⟩
 ·refine RetR.keep [0,1] rfl rfl (by show ∀ j,j<2→_; decide) rfl hq ?_ ?_ rfl
  ·simp only [exp2,exp1,exp0,resV,eqA2,jV]
   cases hbb:bitB p q with
   | true=>
    have:=hm hbb
    rw [hbb] at hb
    subst this
    have:qh s=true:=by simpa using hb
    rw [this]; rfl
   | false=>rw [hbb] at hb; simp at hb
  ·exact⟨⟨rfl,trivial⟩,⟨⟨rfl,rfl⟩,trivial⟩,trivial⟩
noncomputable def GNd:Nat→Option Ctr:=fun f=>if f=208 then some (hasC) else if f=209 then some (zly) else if f=22 then some ((Qd 1)) else if f=23 then some ((Qd 2)) else if f=204 then some (ZP) else if f=210 then some (Yy) else if f=211 then some (zat) else none
theorem Z6:∀ g c,GNd g=some c→zd Tryz.prog g c:=okIf zgx (okIf zjs (okIf zmx (okIf zgv (okIf Kb (okIf V0 (okIf zje (zn)))))))
end Go.Proofs.Tryz
end
section
namespace Go.Sx
variable [Stat]
section
variable {O:Nat→Prop} {pin:Nat} {w0:World} {σ0:List SE} {P:Program} {fn:Func} {Xp:List PanicEntry→Prop}
def fstC:Code→Code
 | .seq a _=>a
 | c=>c
def sndC:Code→Code
 | .seq _ b=>b
 | c=>c
def blkC:Code→Code
 | .block _ c=>c
 | c=>c
def blkI:Code→Nat
 | .block i _=>i
 | _=>0
theorem zb.cut{M:Option Nat}{ι:Type}{Hs:Nat→KV→Heap→Prop}{R:List AV→Heap→Prop}{k:List Item}{c:Code}{st:St}(S:ι→KV)(H:ι→Heap)(dk:Nat)
  (h1:z7 Xp M P fn O pin w0 σ0 (fun d kv h=>if d=dk then ∃ x,LeK pin fn.ntmps kv h (S x) (H x) else Hs d kv h) R (.code c::.inLoop::k) st) (hd:jr k=dk)
  (h2:∀ x,z7 Xp M P fn O pin w0 σ0 Hs R k (mk fn.ntmps (S x) (H x))):z7 Xp M P fn O pin w0 σ0 Hs R (.code c::k) st:=by
 subst hd
 intro w σ a hm
 have:=h1 w σ a hm
 simp only [wpK] at this ⊢
 refine wpIn_mono this fun e a' w' he=> ?_
 cases e with
 | normal=>
  simp only [wpK] at he
  obtain⟨st',σ',⟨kv,h,hh,rfl⟩,hm'⟩:=he
  rw [if_pos trivial] at hh
  obtain⟨x,hle⟩:=hh
  exact h2 x w' _ a' (hle.le.mod hm')
 | _=>
  simp only [wpK] at he
  refine qZ (fun d a w hd hh=> ?_) he
  obtain⟨st',σ',⟨kv,h,hh,rfl⟩,hm'⟩:=hh
  rw [if_neg (by omega)] at hh
  exact⟨_,σ',⟨kv,h,hh,rfl⟩,hm'⟩
theorem zb.seq{M:Option Nat}{Hs:Nat→KV→Heap→Prop}{R:List AV→Heap→Prop}{k:List Item}{c:Code}{st:St}(hc:c = .seq (fstC c) (sndC c))
  (h:z7 Xp M P fn O pin w0 σ0 Hs R (.code (fstC c)::.code (sndC c)::k) st):z7 Xp M P fn O pin w0 σ0 Hs R (.code c::k) st:=by
 rw [hc]
 generalize fstC c=a at h
 generalize sndC c=b at h
 intro w σ act hm
 have:=h w σ act hm
 simp only [wpK] at this ⊢
 refine wpIn_seq (wpIn_mono this fun e a w h=> ?_)
 cases e<;>exact h
theorem zb.block{M:Option Nat}{Hs:Nat→KV→Heap→Prop}{R:List AV→Heap→Prop}{k:List Item}{c:Code}{st:St}(hc:c = .block (blkI c) (blkC c))
  (h:z7 Xp M P fn O pin w0 σ0 Hs R (.code (blkC c)::.inBlock (blkI c)::k) st):z7 Xp M P fn O pin w0 σ0 Hs R (.code c::k) st:=by
 rw [hc]
 generalize blkC c=a at h
 generalize blkI c=i at h
 intro w σ act hm
 have:=h w σ act hm
 simp only [wpK] at this ⊢
 refine wpIn_block (wpIn_mono this fun e a w h=> ?_)
 cases e<;>exact h
end
end Go.Sx
end
section
namespace Go.Sx
variable [Stat]
section
variable {O:Nat→Prop} {pin:Nat} {w0:World} {σ0:List SE} {P:Program} {fn:Func} {Xp:List PanicEntry→Prop}
def ZB:Nat→Code→List Item
 | n+1,.seq a b=>.code a::ZB n b
 | _,c=>[.code c]
theorem JR{M:Option Nat}{H:Nat→Act→World→Prop}{B:Exit→Act→World→Prop}{k:List Item}{e:Exit}(he:e≠.normal){a:Act}{w:World} : ∀ (n:Nat) (c:Code),wpK M P H B (ZB n c++k) e a w→wpK M P H B k e a w
 | 0,c,h=>by cases c<;>cases e<;>first | exact absurd rfl he | exact h
 | n+1,c,h=>by
  cases c with
  | seq x y=>cases e<;>first | exact absurd rfl he | exact JR he n y h
  | _=>cases e<;>first | exact absurd rfl he | exact h
theorem WY{M:Option Nat}{H:Nat→Act→World→Prop}{B:Exit→Act→World→Prop} : ∀ (n:Nat) (c:Code) (k:List Item) (a:Act) (w:World),wpK M P H B (ZB n c++k) .normal a w→wpK M P H B (.code c::k) .normal a w
 | 0,c,k,a,w,h=>by cases c<;>exact h
 | n+1,c,k,a,w,h=>by
  cases c with
  | seq x y=>
   simp only [ZB,List.cons_append,wpK] at h ⊢
   refine wpIn_seq (wpIn_mono h fun e a w h=> ?_)
   cases e with
   | normal=>exact WY n y k a w h
   | _=>exact JR (by simp) n y h
  | _=>exact h
theorem zb.spine{M:Option Nat}{Hs:Nat→KV→Heap→Prop}{R:List AV→Heap→Prop}{k:List Item}{c:Code}{st:St}(n:Nat)(h:z7 Xp M P fn O pin w0 σ0 Hs R (Go.Sx.ZB n c++k) st):z7 Xp M P fn O pin w0 σ0 Hs R (.code c::k) st:=
 fun w σ a hm=>WY n c k a w (h w σ a hm)
def QA:Item→Bool
 | .inLoop=>false
 | _=>true
theorem xr{M:Option Nat}{H H':Nat→Act→World→Prop}{B:Exit→Act→World→Prop}{k:List Item}(h1:∀ a w,H' (jr k) a w→wpK M P H B k .normal a w)(h2:∀ d a w,d<jr k→H' d a w→H d a w) :
  ∀ (ks:List Item),ks.all QA=true→∀ (e:Exit) (a:Act) (w:World),wpK M P H' B (ks++.inLoop::k) e a w→wpK M P H B (ks++k) e a w
 | [],_,e,a,w,h=>by
  cases e with
  | normal=>exact h1 a w h
  | _=>exact qZ (k:=k) (fun d a w hd h=>h2 d a w hd h) h
 | .code c::ks,hf,e,a,w,h=>by
  have hf':ks.all QA=true:=by simpa [QA] using hf
  cases e with
  | normal=>exact wpIn_mono h fun e a w h=>xr h1 h2 ks hf' e a w h
  | _=>exact xr h1 h2 ks hf' _ a w h
 | .inBlock id::ks,hf,e,a,w,h=>by
  have hf':ks.all QA=true:=by simpa [QA] using hf
  cases e with
  | normal=>exact xr h1 h2 ks hf' _ a w h
  | exit i=>
   simp only [List.cons_append,wpK] at h ⊢
   split at h
   ·rename_i hi; rw [if_pos hi]; exact xr h1 h2 ks hf' _ a w h
   ·rename_i hi; rw [if_neg hi]; exact xr h1 h2 ks hf' _ a w h
  | _=>exact xr h1 h2 ks hf' _ a w h
 | .inLoop::ks,hf,e,a,w,h=>by simp [QA] at hf
theorem zb.cutL{M:Option Nat}{ι:Type}{Hs:Nat→KV→Heap→Prop}{R:List AV→Heap→Prop}{st:St}(L:List Item)(m dk:Nat)(S:ι→KV)(H:ι→Heap)(hf:(L.take m).all QA=true)(hd:jr (L.drop m)=dk)
  (h1:z7 Xp M P fn O pin w0 σ0 (fun d kv h=>if d=dk then ∃ x,LeK pin fn.ntmps kv h (S x) (H x) else Hs d kv h) R (L.take m++.inLoop::L.drop m) st)
  (h2:∀ x,z7 Xp M P fn O pin w0 σ0 Hs R (L.drop m) (mk fn.ntmps (S x) (H x))):z7 Xp M P fn O pin w0 σ0 Hs R L st:=by
 subst hd
 intro w σ a hm
 have:=h1 w σ a hm
 rw [← List.take_append_drop m L]
 refine xr ?_ ?_ (L.take m) hf .normal a w this
 ·rintro a' w' ⟨st',σ',⟨kv,h,hh,rfl⟩,hm'⟩
  rw [if_pos rfl] at hh
  obtain⟨x,hle⟩:=hh
  exact h2 x w' _ a' (hle.le.mod hm')
 ·rintro d a' w' hd ⟨st',σ',⟨kv,h,hh,rfl⟩,hm'⟩
  rw [if_neg (by omega)] at hh
  exact⟨_,σ',⟨kv,h,hh,rfl⟩,hm'⟩
end
end Go.Sx
end
section
set_option maxRecDepth 100000
open Go Go.Sx Go.Proofs Go.Nov
def Go.Nov.Con.p(c:Con):Int:=kP c.kind
namespace Go.Proofs.Tryz
attribute [local simp] eqKV eqA eqA0 eqH eqB eqL eqL0
def zgs:Ctr:=ctrP true (fun c:Con=>[c.conA]) (fun c=>c.big<2^40) (fun c r=>r=c.xG) (fun _ (r:Bool)=>(.bool r,[]))
noncomputable def LN:List Go.Sx.Item:=ZB 12 (Tryz.f121.body.getD .skip)++[]
noncomputable def LN1:List Go.Sx.Item:=LN.drop 6
noncomputable def LN2:List Go.Sx.Item:=LN1.drop 1
noncomputable def LN3:List Go.Sx.Item:=LN2.drop 3
noncomputable def LN4:List Go.Sx.Item:=LN3.drop 1
noncomputable def LN5:List Go.Sx.Item:=LN4.drop 1
def HNd(c:Con):Heap:=[.box c.zg,.box [.int .i64 c.p],.box [.fn 208 [] [.ptr 1 0]]]
def SN1:KV:=[(1,.ptr 0 0),(5,.ptr 2 0),(6,.fn 209 [] [.ptr 2 0])]
def SN2(a:Bool):KV:=[(1,.ptr 0 0),(4,.bool a),(5,.ptr 2 0)]
def SN3(a:Bool)(m:Int):KV:=[(1,.ptr 0 0),(4,.bool a),(5,.ptr 2 0),(7,.int .i64 m)]
def SN4(a:Bool)(m:Int)(b:Bool):KV:=[(1,.ptr 0 0),(4,.bool a),(5,.ptr 2 0),(7,.int .i64 m),(8,.bool b)]
def SN5(a:Bool)(m:Int)(b d:Bool):KV:=[(1,.ptr 0 0),(4,.bool a),(7,.int .i64 m),(8,.bool b),(9,.bool d)]
namespace Nd
def words(c:Con):Prop:=jV (bitB c.p 1) c.src=true∧jV (bitB c.p 2) c.dst=true∧jV (bitB c.p 4) c.name=true∧¬ (bitB c.p 2=true∧c.src=c.dst)
def okX(c:Con):Bool:=if bitB c.p 8=true then numX c.x else if bitB c.p 16=true then truX c.x else qF c.x
def subs(c:Con):Int:=if bitB c.p 256=true then 2 else if bitB c.p 128=true then 1 else 0
def right(c:Con):Bool:=if bitB c.p 32=true then dayB c.date else decide (c.date=0)
def list(c:Con):Bool:=if bitB c.p 64=true then vI c.days else decide (c.days.length=0)
end Nd
theorem zc4(k:Int):0≤kP k∧kP k<512:=by
 unfold kP
 repeat' split
 all_goals decide
theorem WJ{c:Con}(hk:1≤c.kind∧c.kind≤10):c.xG=true↔Nd.words c∧Nd.okX c=true∧Nd.right c=true∧Nd.list c=true∧(c.sub.length:Int)=Nd.subs c:=by
 have hr:c.kind=1∨c.kind=2∨c.kind=3∨c.kind=4∨c.kind=5∨c.kind=6∨c.kind=7∨c.kind=8∨c.kind=9∨c.kind=10:=by omega
 unfold Con.xG k0 Nd.words Nd.okX Nd.right Nd.list Nd.subs Con.p kP jV bitB
 generalize c.kind=k at hr hk
 generalize c.src=a
 generalize c.dst=b
 generalize c.name=n
 generalize c.x=x
 generalize c.date=d
 generalize c.days=l
 generalize c.sub.length=m
 rcases hr with rfl | rfl | rfl | rfl | rfl | rfl | rfl | rfl | rfl | rfl
 all_goals
  simp
  grind
theorem Yd{c:Con}(h:¬ ((1≤c.kind∧c.kind≤10)∧Nd.words c)):c.xG=false:=by
 by_cases hk:1≤c.kind∧c.kind≤10
 ·rw [Bool.eq_false_iff]
  exact fun hh=>h ⟨hk,((WJ hk).1 hh).1⟩
 ·unfold Con.xG k0
  rw [if_neg (by omega),if_neg (by omega),if_neg (by omega),if_neg (by omega),if_neg (by omega),if_neg (by omega),if_neg (by omega),if_neg (by omega),if_neg (by omega)]
theorem zj8:zd Tryz.prog 121 zgs:=by
 refine zh (fn:=Tryz.f121) (c:=Tryz.f121.body.getD .skip) rfl rfl rfl fun c hc O w0 Q hq=> ?_
 replace hq:=hq _ rfl
 have hb:=hc
 rw [Con.vJ] at hb
 obtain⟨hp0,hp1⟩:=zc4 c.kind
 refine zb.spine 12 ?_
 refine zb.cutL (ι:={u:Unit // (1≤c.kind∧c.kind≤10)∧Nd.words c}) LN 6 0 (fun _=>SN1) (fun _=>HNd c) (by kernel_rfl) (by kernel_rfl) ?_ ?_
 ·refine zb.run hmix Z6 [1,5,6] 400 (T:=.ite (decide ((1:Int)≤Con.kind c∧Con.kind c≤10)) (.ite false (.leaf (.ret [.bool false] [.box (Con.zg c),.box [.int .i64 (kP c.kind)]])) (.ex (fun(x:Int×Int×List UInt8)=>eqL [AV.int .i64 1,AV.str c.src,AV.ptr 0 0] [AV.int .i64 x.2.1,AV.str x.2.2,AV.ptr 0 0]∧eqH [.box [AV.fn 208 [] [AV.ptr 1 0]],.box [AV.int .i64 (kP c.kind)]] [.box [AV.fn 208 [] [AV.ptr 1 0]],.box [AV.int .i64 x.1]]∧2=2∧(0:Int)≤x.1∧x.1<512∧(0:Int)≤x.2.1∧x.2.1<512∧x.2.2.length<4611686018427387904) fun n=>.all (fun(r:Bool)=>r=jV (bitB n.1 n.2.1) n.2.2) fun n_1=>.ite ((!n_1) == false) (.ex (fun(x:Int×Int×List UInt8)=>eqL [AV.int .i64 2,AV.str c.dst,AV.ptr 0 0] [AV.int .i64 x.2.1,AV.str x.2.2,AV.ptr 0 0]∧eqH [.box [AV.fn 208 [] [AV.ptr 1 0]],.box [AV.int .i64 n.1]] [.box [AV.fn 208 [] [AV.ptr 1 0]],.box [AV.int .i64 x.1]]∧2=2∧(0:Int)≤x.1∧x.1<512∧(0:Int)≤x.2.1∧x.2.1<512∧x.2.2.length<4611686018427387904) fun n=>.all (fun(r:Bool)=>r=jV (bitB n.1 n.2.1) n.2.2) fun n_2=>.ite ((bif !n_1 then true else !n_2) == false) (.ex (fun(x:Int×Int×List UInt8)=>eqL [AV.int .i64 4,AV.str c.name,AV.ptr 0 0] [AV.int .i64 x.2.1,AV.str x.2.2,AV.ptr 0 0]∧eqH [.box [AV.fn 208 [] [AV.ptr 1 0]],.box [AV.int .i64 n.1]] [.box [AV.fn 208 [] [AV.ptr 1 0]],.box [AV.int .i64 x.1]]∧2=2∧(0:Int)≤x.1∧x.1<512∧(0:Int)≤x.2.1∧x.2.1<512∧x.2.2.length<4611686018427387904) fun n=>.all (fun(r:Bool)=>r=jV (bitB n.1 n.2.1) n.2.2) fun n_3=>.ite ((bif bif !n_1 then true else !n_2 then true else !n_3) == false) (.ex (fun(x:Int×Int)=>eqL [AV.int .i64 2,AV.ptr 0 0] [AV.int .i64 x.2,AV.ptr 0 0]∧eqH [.box [AV.int .i64 n.1]] [.box [AV.int .i64 x.1]]∧1=1∧(0:Int)≤x.1∧x.1<512∧(0:Int)≤x.2∧x.2<512) fun n=>.all (fun(r:Bool)=>r=bitB n.1 n.2) fun n_4=>.ite (bif bif bif !n_1 then true else !n_2 then true else !n_3 then true else bif n_4 then decide (Con.src c=Con.dst c) else false) (.leaf (.ret [.bool false] [.box (Con.zg c),.box [.int .i64 n.1],.box [.fn 208 [] [.ptr 1 0]]])) (.leaf (.back 0 [(1,.ptr 0 0),(5,.ptr 2 0),(6,.fn 209 [] [.ptr 2 0])] [.box (Con.zg c),.box [.int .i64 n.1],.box [.fn 208 [] [.ptr 1 0]]]))) (.ite (bif bif bif !n_1 then true else !n_2 then true else !n_3 then true else bif false then decide (Con.src c=Con.dst c) else false) (.leaf (.ret [.bool false] [.box (Con.zg c),.box [.int .i64 n.1],.box [.fn 208 [] [.ptr 1 0]]])) (.leaf (.back 0 [(1,.ptr 0 0),(5,.ptr 2 0),(6,.fn 209 [] [.ptr 2 0])] [.box (Con.zg c),.box [.int .i64 n.1],.box [.fn 208 [] [.ptr 1 0]]])))) (.ite ((bif bif !n_1 then true else !n_2 then true else !false) == false) (.ex (fun(x:Int×Int)=>eqL [AV.int .i64 2,AV.ptr 0 0] [AV.int .i64 x.2,AV.ptr 0 0]∧eqH [.box [AV.int .i64 n.1]] [.box [AV.int .i64 x.1]]∧1=1∧(0:Int)≤x.1∧x.1<512∧(0:Int)≤x.2∧x.2<512) fun n=>.all (fun(r:Bool)=>r=bitB n.1 n.2) fun n_3=>.ite (bif bif bif !n_1 then true else !n_2 then true else !false then true else bif n_3 then decide (Con.src c=Con.dst c) else false) (.leaf (.ret [.bool false] [.box (Con.zg c),.box [.int .i64 n.1],.box [.fn 208 [] [.ptr 1 0]]])) (.leaf (.back 0 [(1,.ptr 0 0),(5,.ptr 2 0),(6,.fn 209 [] [.ptr 2 0])] [.box (Con.zg c),.box [.int .i64 n.1],.box [.fn 208 [] [.ptr 1 0]]]))) (.ite (bif bif bif !n_1 then true else !n_2 then true else !false then true else bif false then decide (Con.src c=Con.dst c) else false) (.leaf (.ret [.bool false] [.box (Con.zg c),.box [.int .i64 n.1],.box [.fn 208 [] [.ptr 1 0]]])) (.leaf (.back 0 [(1,.ptr 0 0),(5,.ptr 2 0),(6,.fn 209 [] [.ptr 2 0])] [.box (Con.zg c),.box [.int .i64 n.1],.box [.fn 208 [] [.ptr 1 0]]]))))) (.ite ((bif !n_1 then true else !false) == false) (.ex (fun(x:Int×Int×List UInt8)=>eqL [AV.int .i64 4,AV.str c.name,AV.ptr 0 0] [AV.int .i64 x.2.1,AV.str x.2.2,AV.ptr 0 0]∧eqH [.box [AV.fn 208 [] [AV.ptr 1 0]],.box [AV.int .i64 n.1]] [.box [AV.fn 208 [] [AV.ptr 1 0]],.box [AV.int .i64 x.1]]∧2=2∧(0:Int)≤x.1∧x.1<512∧(0:Int)≤x.2.1∧x.2.1<512∧x.2.2.length<4611686018427387904) fun n=>.all (fun(r:Bool)=>r=jV (bitB n.1 n.2.1) n.2.2) fun n_2=>.ite ((bif bif !n_1 then true else !false then true else !n_2) == false) (.ex (fun(x:Int×Int)=>eqL [AV.int .i64 2,AV.ptr 0 0] [AV.int .i64 x.2,AV.ptr 0 0]∧eqH [.box [AV.int .i64 n.1]] [.box [AV.int .i64 x.1]]∧1=1∧(0:Int)≤x.1∧x.1<512∧(0:Int)≤x.2∧x.2<512) fun n=>.all (fun(r:Bool)=>r=bitB n.1 n.2) fun n_3=>.ite (bif bif bif !n_1 then true else !false then true else !n_2 then true else bif n_3 then decide (Con.src c=Con.dst c) else false) (.leaf (.ret [.bool false] [.box (Con.zg c),.box [.int .i64 n.1],.box [.fn 208 [] [.ptr 1 0]]])) (.leaf (.back 0 [(1,.ptr 0 0),(5,.ptr 2 0),(6,.fn 209 [] [.ptr 2 0])] [.box (Con.zg c),.box [.int .i64 n.1],.box [.fn 208 [] [.ptr 1 0]]]))) (.ite (bif bif bif !n_1 then true else !false then true else !n_2 then true else bif false then decide (Con.src c=Con.dst c) else false) (.leaf (.ret [.bool false] [.box (Con.zg c),.box [.int .i64 n.1],.box [.fn 208 [] [.ptr 1 0]]])) (.leaf (.back 0 [(1,.ptr 0 0),(5,.ptr 2 0),(6,.fn 209 [] [.ptr 2 0])] [.box (Con.zg c),.box [.int .i64 n.1],.box [.fn 208 [] [.ptr 1 0]]])))) (.ite ((bif bif !n_1 then true else !false then true else !false) == false) (.ex (fun(x:Int×Int)=>eqL [AV.int .i64 2,AV.ptr 0 0] [AV.int .i64 x.2,AV.ptr 0 0]∧eqH [.box [AV.int .i64 n.1]] [.box [AV.int .i64 x.1]]∧1=1∧(0:Int)≤x.1∧x.1<512∧(0:Int)≤x.2∧x.2<512) fun n=>.all (fun(r:Bool)=>r=bitB n.1 n.2) fun n_2=>.ite (bif bif bif !n_1 then true else !false then true else !false then true else bif n_2 then decide (Con.src c=Con.dst c) else false) (.leaf (.ret [.bool false] [.box (Con.zg c),.box [.int .i64 n.1],.box [.fn 208 [] [.ptr 1 0]]])) (.leaf (.back 0 [(1,.ptr 0 0),(5,.ptr 2 0),(6,.fn 209 [] [.ptr 2 0])] [.box (Con.zg c),.box [.int .i64 n.1],.box [.fn 208 [] [.ptr 1 0]]]))) (.ite (bif bif bif !n_1 then true else !false then true else !false then true else bif false then decide (Con.src c=Con.dst c) else false) (.leaf (.ret [.bool false] [.box (Con.zg c),.box [.int .i64 n.1],.box [.fn 208 [] [.ptr 1 0]]])) (.leaf (.back 0 [(1,.ptr 0 0),(5,.ptr 2 0),(6,.fn 209 [] [.ptr 2 0])] [.box (Con.zg c),.box [.int .i64 n.1],.box [.fn 208 [] [.ptr 1 0]]]))))))) (.ite true (.leaf (.ret [.bool false] [.box (Con.zg c),.box [.int .i64 0]])) (.ex (fun(x:Int×Int×List UInt8)=>eqL [AV.int .i64 1,AV.str c.src,AV.ptr 0 0] [AV.int .i64 x.2.1,AV.str x.2.2,AV.ptr 0 0]∧eqH [.box [AV.fn 208 [] [AV.ptr 1 0]],.box [AV.int .i64 0]] [.box [AV.fn 208 [] [AV.ptr 1 0]],.box [AV.int .i64 x.1]]∧2=2∧(0:Int)≤x.1∧x.1<512∧(0:Int)≤x.2.1∧x.2.1<512∧x.2.2.length<4611686018427387904) fun n=>.all (fun(r:Bool)=>r=jV (bitB n.1 n.2.1) n.2.2) fun n_1=>.ite ((!n_1) == false) (.ex (fun(x:Int×Int×List UInt8)=>eqL [AV.int .i64 2,AV.str c.dst,AV.ptr 0 0] [AV.int .i64 x.2.1,AV.str x.2.2,AV.ptr 0 0]∧eqH [.box [AV.fn 208 [] [AV.ptr 1 0]],.box [AV.int .i64 n.1]] [.box [AV.fn 208 [] [AV.ptr 1 0]],.box [AV.int .i64 x.1]]∧2=2∧(0:Int)≤x.1∧x.1<512∧(0:Int)≤x.2.1∧x.2.1<512∧x.2.2.length<4611686018427387904) fun n=>.all (fun(r:Bool)=>r=jV (bitB n.1 n.2.1) n.2.2) fun n_2=>.ite ((bif !n_1 then true else !n_2) == false) (.ex (fun(x:Int×Int×List UInt8)=>eqL [AV.int .i64 4,AV.str c.name,AV.ptr 0 0] [AV.int .i64 x.2.1,AV.str x.2.2,AV.ptr 0 0]∧eqH [.box [AV.fn 208 [] [AV.ptr 1 0]],.box [AV.int .i64 n.1]] [.box [AV.fn 208 [] [AV.ptr 1 0]],.box [AV.int .i64 x.1]]∧2=2∧(0:Int)≤x.1∧x.1<512∧(0:Int)≤x.2.1∧x.2.1<512∧x.2.2.length<4611686018427387904) fun n=>.all (fun(r:Bool)=>r=jV (bitB n.1 n.2.1) n.2.2) fun n_3=>.ite ((bif bif !n_1 then true else !n_2 then true else !n_3) == false) (.ex (fun(x:Int×Int)=>eqL [AV.int .i64 2,AV.ptr 0 0] [AV.int .i64 x.2,AV.ptr 0 0]∧eqH [.box [AV.int .i64 n.1]] [.box [AV.int .i64 x.1]]∧1=1∧(0:Int)≤x.1∧x.1<512∧(0:Int)≤x.2∧x.2<512) fun n=>.all (fun(r:Bool)=>r=bitB n.1 n.2) fun n_4=>.ite (bif bif bif !n_1 then true else !n_2 then true else !n_3 then true else bif n_4 then decide (Con.src c=Con.dst c) else false) (.leaf (.ret [.bool false] [.box (Con.zg c),.box [.int .i64 n.1],.box [.fn 208 [] [.ptr 1 0]]])) (.leaf (.back 0 [(1,.ptr 0 0),(5,.ptr 2 0),(6,.fn 209 [] [.ptr 2 0])] [.box (Con.zg c),.box [.int .i64 n.1],.box [.fn 208 [] [.ptr 1 0]]]))) (.ite (bif bif bif !n_1 then true else !n_2 then true else !n_3 then true else bif false then decide (Con.src c=Con.dst c) else false) (.leaf (.ret [.bool false] [.box (Con.zg c),.box [.int .i64 n.1],.box [.fn 208 [] [.ptr 1 0]]])) (.leaf (.back 0 [(1,.ptr 0 0),(5,.ptr 2 0),(6,.fn 209 [] [.ptr 2 0])] [.box (Con.zg c),.box [.int .i64 n.1],.box [.fn 208 [] [.ptr 1 0]]])))) (.ite ((bif bif !n_1 then true else !n_2 then true else !false) == false) (.ex (fun(x:Int×Int)=>eqL [AV.int .i64 2,AV.ptr 0 0] [AV.int .i64 x.2,AV.ptr 0 0]∧eqH [.box [AV.int .i64 n.1]] [.box [AV.int .i64 x.1]]∧1=1∧(0:Int)≤x.1∧x.1<512∧(0:Int)≤x.2∧x.2<512) fun n=>.all (fun(r:Bool)=>r=bitB n.1 n.2) fun n_3=>.ite (bif bif bif !n_1 then true else !n_2 then true else !false then true else bif n_3 then decide (Con.src c=Con.dst c) else false) (.leaf (.ret [.bool false] [.box (Con.zg c),.box [.int .i64 n.1],.box [.fn 208 [] [.ptr 1 0]]])) (.leaf (.back 0 [(1,.ptr 0 0),(5,.ptr 2 0),(6,.fn 209 [] [.ptr 2 0])] [.box (Con.zg c),.box [.int .i64 n.1],.box [.fn 208 [] [.ptr 1 0]]]))) (.ite (bif bif bif !n_1 then true else !n_2 then true else !false then true else bif false then decide (Con.src c=Con.dst c) else false) (.leaf (.ret [.bool false] [.box (Con.zg c),.box [.int .i64 n.1],.box [.fn 208 [] [.ptr 1 0]]])) (.leaf (.back 0 [(1,.ptr 0 0),(5,.ptr 2 0),(6,.fn 209 [] [.ptr 2 0])] [.box (Con.zg c),.box [.int .i64 n.1],.box [.fn 208 [] [.ptr 1 0]]]))))) (.ite ((bif !n_1 then true else !false) == false) (.ex (fun(x:Int×Int×List UInt8)=>eqL [AV.int .i64 4,AV.str c.name,AV.ptr 0 0] [AV.int .i64 x.2.1,AV.str x.2.2,AV.ptr 0 0]∧eqH [.box [AV.fn 208 [] [AV.ptr 1 0]],.box [AV.int .i64 n.1]] [.box [AV.fn 208 [] [AV.ptr 1 0]],.box [AV.int .i64 x.1]]∧2=2∧(0:Int)≤x.1∧x.1<512∧(0:Int)≤x.2.1∧x.2.1<512∧x.2.2.length<4611686018427387904) fun n=>.all (fun(r:Bool)=>r=jV (bitB n.1 n.2.1) n.2.2) fun n_2=>.ite ((bif bif !n_1 then true else !false then true else !n_2) == false) (.ex (fun(x:Int×Int)=>eqL [AV.int .i64 2,AV.ptr 0 0] [AV.int .i64 x.2,AV.ptr 0 0]∧eqH [.box [AV.int .i64 n.1]] [.box [AV.int .i64 x.1]]∧1=1∧(0:Int)≤x.1∧x.1<512∧(0:Int)≤x.2∧x.2<512) fun n=>.all (fun(r:Bool)=>r=bitB n.1 n.2) fun n_3=>.ite (bif bif bif !n_1 then true else !false then true else !n_2 then true else bif n_3 then decide (Con.src c=Con.dst c) else false) (.leaf (.ret [.bool false] [.box (Con.zg c),.box [.int .i64 n.1],.box [.fn 208 [] [.ptr 1 0]]])) (.leaf (.back 0 [(1,.ptr 0 0),(5,.ptr 2 0),(6,.fn 209 [] [.ptr 2 0])] [.box (Con.zg c),.box [.int .i64 n.1],.box [.fn 208 [] [.ptr 1 0]]]))) (.ite (bif bif bif !n_1 then true else !false then true else !n_2 then true else bif false then decide (Con.src c=Con.dst c) else false) (.leaf (.ret [.bool false] [.box (Con.zg c),.box [.int .i64 n.1],.box [.fn 208 [] [.ptr 1 0]]])) (.leaf (.back 0 [(1,.ptr 0 0),(5,.ptr 2 0),(6,.fn 209 [] [.ptr 2 0])] [.box (Con.zg c),.box [.int .i64 n.1],.box [.fn 208 [] [.ptr 1 0]]])))) (.ite ((bif bif !n_1 then true else !false then true else !false) == false) (.ex (fun(x:Int×Int)=>eqL [AV.int .i64 2,AV.ptr 0 0] [AV.int .i64 x.2,AV.ptr 0 0]∧eqH [.box [AV.int .i64 n.1]] [.box [AV.int .i64 x.1]]∧1=1∧(0:Int)≤x.1∧x.1<512∧(0:Int)≤x.2∧x.2<512) fun n=>.all (fun(r:Bool)=>r=bitB n.1 n.2) fun n_2=>.ite (bif bif bif !n_1 then true else !false then true else !false then true else bif n_2 then decide (Con.src c=Con.dst c) else false) (.leaf (.ret [.bool false] [.box (Con.zg c),.box [.int .i64 n.1],.box [.fn 208 [] [.ptr 1 0]]])) (.leaf (.back 0 [(1,.ptr 0 0),(5,.ptr 2 0),(6,.fn 209 [] [.ptr 2 0])] [.box (Con.zg c),.box [.int .i64 n.1],.box [.fn 208 [] [.ptr 1 0]]]))) (.ite (bif bif bif !n_1 then true else !false then true else !false then true else bif false then decide (Con.src c=Con.dst c) else false) (.leaf (.ret [.bool false] [.box (Con.zg c),.box [.int .i64 n.1],.box [.fn 208 [] [.ptr 1 0]]])) (.leaf (.back 0 [(1,.ptr 0 0),(5,.ptr 2 0),(6,.fn 209 [] [.ptr 2 0])] [.box (Con.zg c),.box [.int .i64 n.1],.box [.fn 208 [] [.ptr 1 0]]])))))))) (by kernel_rfl) ?_
  simp only [Tree.holds,ze,inR,lo,hi,Int.toNat_natCast]
  obtain⟨b1,e1⟩:∃ b,jV (bitB c.p 1) c.src=b:=⟨_,rfl⟩
  obtain⟨b2,e2⟩:∃ b,jV (bitB c.p 2) c.dst=b:=⟨_,rfl⟩
  obtain⟨b3,e3⟩:∃ b,jV (bitB c.p 4) c.name=b:=⟨_,rfl⟩
  obtain⟨b4,e4⟩:∃ b,bitB c.p 2=b:=⟨_,rfl⟩
  obtain⟨b5,e5⟩:∃ b,decide (c.src=c.dst)=b:=⟨_,rfl⟩
  have hbad:¬ ((1≤c.kind∧c.kind≤10)∧Nd.words c)→∀ h,RetR zgs 0 Q [.bool false] h:=fun hn h=>by
   have:c.xG=false:=Yd hn
   rw [this] at hq
   exact RetR.scal hq rfl (by simp [resV])
  refine⟨fun hk=>⟨fun h=>(by cases h),fun _=> ?_⟩,fun hk=> ?_⟩
  ·have hk:=of_decide_eq_true hk
   refine⟨(c.p,1,c.src),⟨by simp,by simp [Con.p],trivial,hp0,hp1,(by simp only; omega),(by simp only; omega),by simp only; omega⟩,⟨_,rfl⟩,?_⟩
   rintro _ rfl
   simp only [e1]
   cases b1 with
   | false=>exact⟨fun h=>by simp at h,fun _=>⟨fun h=>by simp at h,fun _=>⟨fun h=>by simp at h,fun _=>⟨fun _=>hbad (fun h=>by have:=h.2.1; rw [e1] at this; cases this) _,fun h=>by simp at h⟩⟩⟩⟩
   | true=>
   refine⟨fun _=> ?_,fun h=>by simp at h⟩
   refine⟨(c.p,2,c.dst),⟨by simp,by simp [Con.p],trivial,hp0,hp1,(by simp only; omega),(by simp only; omega),by simp only; omega⟩,⟨_,rfl⟩,?_⟩
   rintro _ rfl
   simp only [e2]
   cases b2 with
   | false=>exact⟨fun h=>by simp at h,fun _=>⟨fun h=>by simp at h,fun _=>⟨fun _=>hbad (fun h=>by have:=h.2.2.1; rw [e2] at this; cases this) _,fun h=>by simp at h⟩⟩⟩
   | true=>
   refine⟨fun _=> ?_,fun h=>by simp at h⟩
   refine⟨(c.p,4,c.name),⟨by simp,by simp [Con.p],trivial,hp0,hp1,(by simp only; omega),(by simp only; omega),by simp only; omega⟩,⟨_,rfl⟩,?_⟩
   rintro _ rfl
   simp only [e3]
   cases b3 with
   | false=>exact⟨fun h=>by simp at h,fun _=>⟨fun _=>hbad (fun h=>by have:=h.2.2.2.1; rw [e3] at this; cases this) _,fun h=>by simp at h⟩⟩
   | true=>
   refine⟨fun _=> ?_,fun h=>by simp at h⟩
   refine⟨(c.p,2),⟨by simp,by simp [Con.p],trivial,hp0,hp1,(by simp only; omega),(by simp only; omega)⟩,⟨_,rfl⟩,?_⟩
   rintro _ rfl
   simp only [e4]
   refine⟨fun h=> ?_,fun h=> ?_⟩
   ·refine hbad (fun hn=>hn.2.2.2.2 ?_) _
    cases b4 with
    | false=>simp at h
    | true=>exact⟨e4,by simpa using h⟩
   ·rw [if_pos trivial]
    refine⟨⟨(),hk,e1,e2,e3,fun hh=> ?_⟩,by simp [SN1],⟨zu c,⟨⟨rfl,rfl⟩,trivial⟩,⟨rfl,trivial⟩,trivial⟩,by kernel_rfl,Nat.zero_le _⟩
    rw [e4] at hh
    rw [hh.1] at h
    simp [hh.2] at h
  ·have hk:=of_decide_eq_false hk
   refine⟨fun _=>hbad (fun h=>hk h.1) _,fun h=>by cases h⟩
 ·rintro⟨_,hk,hw⟩
  show wg none Tryz.prog Tryz.f121 O 0 w0 [] _ _ LN1 _
  refine zb.cutL (ι:=Unit) LN1 1 0 (fun _=>SN2 (Nd.okX c)) (fun _=>HNd c) (by kernel_rfl) (by kernel_rfl) ?_ ?_
  ·refine zb.run hmix Z6 [1,4,5] 400 (T:=.ex (fun(x:Int×Int)=>eqL [AV.int .i64 8,AV.ptr 0 0] [AV.int .i64 x.2,AV.ptr 0 0]∧eqH [.box [AV.int .i64 (Con.p c)]] [.box [AV.int .i64 x.1]]∧1=1∧(0:Int)≤x.1∧x.1<512∧(0:Int)≤x.2∧x.2<512) fun n=>.all (fun(r:Bool)=>r=bitB n.1 n.2) fun n_1=>.ite n_1 (.ex (fun(x:Ex)=>eqL [(Ex.exA c.x)] [x.exA]∧Ex.size x<1099511627776∧Ex.zD x<1099511627776) fun n_2=>.all (fun(r:Bool)=>r=(decide (Ex.errX n_2=0)&&decide (Ex.qD n_2=1))) fun n_3=>.leaf (.back 0 [(1,.ptr 0 0),(4,.bool n_3),(5,.ptr 2 0)] [.box (Con.zg c),.box [.int .i64 n.1],.box [.fn 208 [] [.ptr 1 0]]])) (.ex (fun(x:Int×Int)=>eqL [AV.int .i64 16,AV.ptr 0 0] [AV.int .i64 x.2,AV.ptr 0 0]∧eqH [.box [AV.int .i64 n.1]] [.box [AV.int .i64 x.1]]∧1=1∧(0:Int)≤x.1∧x.1<512∧(0:Int)≤x.2∧x.2<512) fun n=>.all (fun(r:Bool)=>r=bitB n.1 n.2) fun n_2=>.ite n_2 (.ex (fun(x:Ex)=>eqL [(Ex.exA c.x)] [x.exA]∧Ex.size x<1099511627776∧Ex.zD x<1099511627776) fun n_3=>.all (fun(r:Bool)=>r=(decide (Ex.errX n_3=0)&&decide (Ex.qD n_3=2))) fun n_4=>.leaf (.back 0 [(1,.ptr 0 0),(4,.bool n_4),(5,.ptr 2 0)] [.box (Con.zg c),.box [.int .i64 n.1],.box [.fn 208 [] [.ptr 1 0]]])) (.ex (fun(x:Ex)=>eqL [(Ex.exA c.x)] [x.exA]∧True) fun n_3=>.all (fun(r:Bool)=>r=qF n_3) fun n_4=>.leaf (.back 0 [(1,.ptr 0 0),(4,.bool n_4),(5,.ptr 2 0)] [.box (Con.zg c),.box [.int .i64 n.1],.box [.fn 208 [] [.ptr 1 0]]])))) (by kernel_rfl) ?_
   simp only [Tree.holds,ze,inR,lo,hi,Int.toNat_natCast]
   have hx1:c.x.size<2^40:=by omega
   have hx2:c.x.zD<2^40:=by omega
   have leaf:∀ b,b=Nd.okX c→LeK 0 Tryz.f121.ntmps [(1,.ptr 0 0),(4,.bool b),(5,.ptr 2 0)] (HNd c) (SN2 (Nd.okX c)) (HNd c):=fun b hb=>by
    subst hb
    exact⟨by simp [SN2],⟨zu c,⟨⟨rfl,rfl⟩,trivial⟩,⟨rfl,trivial⟩,trivial⟩,by kernel_rfl,Nat.zero_le _⟩
   refine⟨(c.p,8),⟨by simp,by simp,trivial,hp0,hp1,(by simp only; omega),(by simp only; omega)⟩,⟨_,rfl⟩,?_⟩
   rintro _ rfl
   refine⟨fun h=> ?_,fun h=> ?_⟩
   ·refine⟨c.x,⟨(by first | exact⟨zV _,trivial⟩ | simp [za]),hx1,hx2⟩,⟨_,rfl⟩,?_⟩
    rintro _ rfl
    rw [if_pos trivial]
    exact⟨(),leaf _ (by unfold Nd.okX; rw [if_pos h]; rfl)⟩
   ·have h8:¬ bitB c.p 8=true:=by simpa using h
    refine⟨(c.p,16),⟨by simp,by simp,trivial,hp0,hp1,(by simp only; omega),(by simp only; omega)⟩,⟨_,rfl⟩,?_⟩
    rintro _ rfl
    refine⟨fun h=> ?_,fun h=> ?_⟩
    ·refine⟨c.x,⟨(by first | exact⟨zV _,trivial⟩ | simp [za]),hx1,hx2⟩,⟨_,rfl⟩,?_⟩
     rintro _ rfl
     rw [if_pos trivial]
     exact⟨(),leaf _ (by unfold Nd.okX; rw [if_neg h8,if_pos h]; rfl)⟩
    ·refine⟨c.x,⟨(by first | exact⟨zV _,trivial⟩ | simp [za]),trivial⟩,⟨_,rfl⟩,?_⟩
     rintro _ rfl
     rw [if_pos trivial]
     exact⟨(),leaf _ (by unfold Nd.okX; rw [if_neg h8,if_neg (by simpa using h)])⟩
  ·rintro⟨⟩
   obtain⟨a,ea⟩:∃ a,Nd.okX c=a:=⟨_,rfl⟩
   rw [ea]
   show wg none Tryz.prog Tryz.f121 O 0 w0 [] _ _ LN2 _
   refine zb.cutL (ι:=Unit) LN2 3 0 (fun _=>SN3 a (Nd.subs c)) (fun _=>HNd c) (by kernel_rfl) (by kernel_rfl) ?_ ?_
   ·refine zb.run hmix Z6 [1,4,5,7] 400 (T:=.ex (fun(x:Int×Int)=>eqL [AV.int .i64 128,AV.ptr 0 0] [AV.int .i64 x.2,AV.ptr 0 0]∧eqH [.box [AV.int .i64 (Con.p c)]] [.box [AV.int .i64 x.1]]∧1=1∧(0:Int)≤x.1∧x.1<512∧(0:Int)≤x.2∧x.2<512) fun n=>.all (fun(r:Bool)=>r=bitB n.1 n.2) fun n_1=>.ite n_1 (.ex (fun(x:Int×Int)=>eqL [AV.int .i64 256,AV.ptr 0 0] [AV.int .i64 x.2,AV.ptr 0 0]∧eqH [.box [AV.int .i64 n.1]] [.box [AV.int .i64 x.1]]∧1=1∧(0:Int)≤x.1∧x.1<512∧(0:Int)≤x.2∧x.2<512) fun n=>.all (fun(r:Bool)=>r=bitB n.1 n.2) fun n_2=>.ite n_2 (.leaf (.back 0 [(1,.ptr 0 0),(4,.bool a),(5,.ptr 2 0),(7,.int .i64 2)] [.box (Con.zg c),.box [.int .i64 n.1],.box [.fn 208 [] [.ptr 1 0]]])) (.leaf (.back 0 [(1,.ptr 0 0),(4,.bool a),(5,.ptr 2 0),(7,.int .i64 1)] [.box (Con.zg c),.box [.int .i64 n.1],.box [.fn 208 [] [.ptr 1 0]]]))) (.ex (fun(x:Int×Int)=>eqL [AV.int .i64 256,AV.ptr 0 0] [AV.int .i64 x.2,AV.ptr 0 0]∧eqH [.box [AV.int .i64 n.1]] [.box [AV.int .i64 x.1]]∧1=1∧(0:Int)≤x.1∧x.1<512∧(0:Int)≤x.2∧x.2<512) fun n=>.all (fun(r:Bool)=>r=bitB n.1 n.2) fun n_2=>.ite n_2 (.leaf (.back 0 [(1,.ptr 0 0),(4,.bool a),(5,.ptr 2 0),(7,.int .i64 2)] [.box (Con.zg c),.box [.int .i64 n.1],.box [.fn 208 [] [.ptr 1 0]]])) (.leaf (.back 0 [(1,.ptr 0 0),(4,.bool a),(5,.ptr 2 0),(7,.int .i64 0)] [.box (Con.zg c),.box [.int .i64 n.1],.box [.fn 208 [] [.ptr 1 0]]])))) (by kernel_rfl) ?_
    simp only [Tree.holds,ze,inR,lo,hi,Int.toNat_natCast]
    have leaf:∀ m:Int,m=Nd.subs c→LeK 0 Tryz.f121.ntmps [(1,.ptr 0 0),(4,.bool a),(5,.ptr 2 0),(7,.int .i64 m)] (HNd c) (SN3 a (Nd.subs c)) (HNd c):=fun m hm=>by
     subst hm
     exact⟨by simp [SN3],⟨zu c,⟨⟨rfl,rfl⟩,trivial⟩,⟨rfl,trivial⟩,trivial⟩,by kernel_rfl,Nat.zero_le _⟩
    refine⟨(c.p,128),⟨by simp,by simp,trivial,hp0,hp1,(by simp only; omega),(by simp only; omega)⟩,⟨_,rfl⟩,?_⟩
    rintro _ rfl
    refine⟨fun h1=> ?_,fun h1=> ?_⟩
    all_goals
     refine⟨(c.p,256),⟨by simp,by simp,trivial,hp0,hp1,(by simp only; omega),(by simp only; omega)⟩,⟨_,rfl⟩,?_⟩
     rintro _ rfl
     refine⟨fun h2=> ?_,fun h2=> ?_⟩
     all_goals
      rw [if_pos trivial]
      simp only at h1 h2
      exact⟨(),leaf _ (by unfold Nd.subs; simp [h1,h2])⟩
   ·rintro⟨⟩
    show wg none Tryz.prog Tryz.f121 O 0 w0 [] _ _ LN3 _
    obtain⟨m,em⟩:∃ m,Nd.subs c=m:=⟨_,rfl⟩
    rw [em]
    refine zb.cutL (ι:=Unit) LN3 1 0 (fun _=>SN4 a m (Nd.right c)) (fun _=>HNd c) (by kernel_rfl) (by kernel_rfl) ?_ ?_
    ·refine zb.run hmix Z6 [1,4,5,7,8] 400 (T:=.ex (fun(x:Int×Int)=>eqL [AV.int .i64 32,AV.ptr 0 0] [AV.int .i64 x.2,AV.ptr 0 0]∧eqH [.box [AV.int .i64 (Con.p c)]] [.box [AV.int .i64 x.1]]∧1=1∧(0:Int)≤x.1∧x.1<512∧(0:Int)≤x.2∧x.2<512) fun n=>.all (fun(r:Bool)=>r=bitB n.1 n.2) fun n_1=>.ite ((bif n_1 then bif decide ((0:Int)≤Con.date c) then decide (Con.date c≤99999) else false else false) == false) (.ex (fun(x:Int×Int)=>eqL [AV.int .i64 32,AV.ptr 0 0] [AV.int .i64 x.2,AV.ptr 0 0]∧eqH [.box [AV.int .i64 n.1]] [.box [AV.int .i64 x.1]]∧1=1∧(0:Int)≤x.1∧x.1<512∧(0:Int)≤x.2∧x.2<512) fun n=>.all (fun(r:Bool)=>r=bitB n.1 n.2) fun n_2=>.leaf (.back 0 [(1,.ptr 0 0),(4,.bool a),(5,.ptr 2 0),(7,.int .i64 m),(8,.bool (bif bif n_1 then bif decide ((0:Int)≤Con.date c) then decide (Con.date c≤99999) else false else false then true else bif !n_2 then decide (Con.date c=0) else false))] [.box (Con.zg c),.box [.int .i64 n.1],.box [.fn 208 [] [.ptr 1 0]]])) (.leaf (.back 0 [(1,.ptr 0 0),(4,.bool a),(5,.ptr 2 0),(7,.int .i64 m),(8,.bool (bif bif n_1 then bif decide ((0:Int)≤Con.date c) then decide (Con.date c≤99999) else false else false then true else bif !false then decide (Con.date c=0) else false))] [.box (Con.zg c),.box [.int .i64 n.1],.box [.fn 208 [] [.ptr 1 0]]]))) (by kernel_rfl) ?_
     simp only [Tree.holds,ze,inR,lo,hi,Int.toNat_natCast]
     have leaf:∀ b,b=Nd.right c→LeK 0 Tryz.f121.ntmps [(1,.ptr 0 0),(4,.bool a),(5,.ptr 2 0),(7,.int .i64 m),(8,.bool b)] (HNd c) (SN4 a m (Nd.right c)) (HNd c):=fun b hb=>by
      subst hb
      exact⟨by simp [SN4],⟨zu c,⟨⟨rfl,rfl⟩,trivial⟩,⟨rfl,trivial⟩,trivial⟩,by kernel_rfl,Nat.zero_le _⟩
     refine⟨(c.p,32),⟨by simp,by simp,trivial,hp0,hp1,(by simp only; omega),(by simp only; omega)⟩,⟨_,rfl⟩,?_⟩
     rintro _ rfl
     refine⟨fun h1=> ?_,fun h1=> ?_⟩
     ·refine⟨(c.p,32),⟨by simp,by simp,trivial,hp0,hp1,(by simp only; omega),(by simp only; omega)⟩,⟨_,rfl⟩,?_⟩
      rintro _ rfl
      rw [if_pos trivial]
      refine⟨(),leaf _ ?_⟩
      unfold Nd.right dayB
      simp only
      cases bitB c.p 32<;>simp [Bool.cond_eq_ite]
     ·rw [if_pos trivial]
      refine⟨(),leaf _ ?_⟩
      unfold Nd.right dayB
      simp only at h1 ⊢
      revert h1
      cases bitB c.p 32<;>simp [Bool.cond_eq_ite]
      exact fun h1 h2 _=>⟨h1,h2⟩
    ·rintro⟨⟩
     show wg none Tryz.prog Tryz.f121 O 0 w0 [] _ _ LN4 _
     obtain⟨b,eb⟩:∃ b,Nd.right c=b:=⟨_,rfl⟩
     rw [eb]
     refine zb.cutL (ι:=Unit) LN4 1 0 (fun _=>SN5 a m b (Nd.list c)) (fun _=>HNd c) (by kernel_rfl) (by kernel_rfl) ?_ ?_
     ·refine zb.run hmix Z6 [1,4,7,8,9] 400 (T:=.ex (fun(x:Int×Int)=>eqL [AV.int .i64 64,AV.ptr 0 0] [AV.int .i64 x.2,AV.ptr 0 0]∧eqH [.box [AV.int .i64 (Con.p c)]] [.box [AV.int .i64 x.1]]∧1=1∧(0:Int)≤x.1∧x.1<512∧(0:Int)≤x.2∧x.2<512) fun n=>.all (fun(r:Bool)=>r=bitB n.1 n.2) fun n_1=>.ex (fun(x:List Int)=>n_1=true→eqL [AV.sl c.days.length 1 (Con.dayG c.days)] [AV.sl x.length 1 (Con.dayG x)]∧x.length<1099511627776) fun n_2=>.all (fun(x:Bool)=>n_1=true→x=vI n_2) fun n_3=>.ite ((bif n_1 then n_3 else false) == false) (.ex (fun(x:Int×Int)=>eqL [AV.int .i64 64,AV.ptr 0 0] [AV.int .i64 x.2,AV.ptr 0 0]∧eqH [.box [AV.int .i64 n.1]] [.box [AV.int .i64 x.1]]∧1=1∧(0:Int)≤x.1∧x.1<512∧(0:Int)≤x.2∧x.2<512) fun n=>.all (fun(r:Bool)=>r=bitB n.1 n.2) fun n_4=>.leaf (.back 0 [(1,.ptr 0 0),(4,.bool a),(7,.int .i64 m),(8,.bool b),(9,.bool (bif bif n_1 then n_3 else false then true else bif !n_4 then decide ((↑c.days.length:Int)=0) else false))] [.box (Con.zg c),.box [.int .i64 n.1],.box [.fn 208 [] [.ptr 1 0]]])) (.leaf (.back 0 [(1,.ptr 0 0),(4,.bool a),(7,.int .i64 m),(8,.bool b),(9,.bool (bif bif n_1 then n_3 else false then true else bif !false then decide ((↑c.days.length:Int)=0) else false))] [.box (Con.zg c),.box [.int .i64 n.1],.box [.fn 208 [] [.ptr 1 0]]]))) (by kernel_rfl) ?_
      simp only [Tree.holds,ze,inR,lo,hi,Int.toNat_natCast]
      have leaf:∀ d,d=Nd.list c→LeK 0 Tryz.f121.ntmps [(1,.ptr 0 0),(4,.bool a),(7,.int .i64 m),(8,.bool b),(9,.bool d)] (HNd c) (SN5 a m b (Nd.list c)) (HNd c):=fun d hd=>by
       subst hd
       exact⟨by simp [SN5],⟨zu c,⟨⟨rfl,rfl⟩,trivial⟩,⟨rfl,trivial⟩,trivial⟩,by kernel_rfl,Nat.zero_le _⟩
      refine⟨(c.p,64),⟨by simp,by simp,trivial,hp0,hp1,(by simp only; omega),(by simp only; omega)⟩,⟨_,rfl⟩,?_⟩
      rintro _ rfl
      refine⟨c.days,fun _=>⟨by simp [za],by omega⟩,⟨_,fun _=>rfl⟩,fun n hn=> ?_⟩
      refine⟨fun h1=> ?_,fun h1=> ?_⟩
      ·refine⟨(c.p,64),⟨by simp,by simp,trivial,hp0,hp1,(by simp only; omega),(by simp only; omega)⟩,⟨_,rfl⟩,?_⟩
       rintro _ rfl
       rw [if_pos trivial]
       refine⟨(),leaf _ ?_⟩
       unfold Nd.list
       simp only at hn ⊢
       revert hn
       cases bitB c.p 64<;>simp [Bool.cond_eq_ite]
      ·rw [if_pos trivial]
       refine⟨(),leaf _ ?_⟩
       unfold Nd.list
       simp only at hn h1 ⊢
       revert hn h1
       cases bitB c.p 64<;>simp [Bool.cond_eq_ite]
       intro h2 h3
       rw [← h2,h3]
       rfl
     ·rintro⟨⟩
      show wg none Tryz.prog Tryz.f121 O 0 w0 [] _ _ LN5 _
      obtain⟨d,ed⟩:∃ d,Nd.list c=d:=⟨_,rfl⟩
      rw [ed]
      refine zb.run hmix Z6 [1,4,7,8,9] 400 (T:=.leaf (.ret [.bool (bif bif bif a then b else false then d else false then decide ((↑c.sub.length:Int)=m) else false)] [.box (Con.zg c),.box [.int .i64 (Con.p c)],.box [.fn 208 [] [.ptr 1 0]]])) (by kernel_rfl) ?_
      simp only [Tree.holds,ze,inR,lo,hi,Int.toNat_natCast]
      have hr:c.xG=(bif bif bif a then b else false then d else false then decide ((c.sub.length:Int)=m) else false):=by
       rw [Bool.eq_iff_iff,WJ hk,ea,em,eb,ed]
       cases a<;>cases b<;>cases d<;>simp [hw]
      rw [hr] at hq
      exact RetR.scal hq rfl (by simp [resV])
end Go.Proofs.Tryz
end
section
set_option maxRecDepth 100000
open Go Go.Sx Go.Proofs Go.Nov
namespace Go.Proofs.Tryz
attribute [local simp] eqKV eqA eqA0 eqH eqB eqL eqL0
noncomputable def K197:List Go.Sx.Item:=[.code (Tryz.f197.body.getD .skip)]
theorem yx(a b:Bool):(bif a then b else false)=(a&&b):=by cases a<;>rfl
def J4(n:Nat):Ctr:=ctrP true (fun c:Con=>[c.conA]) (fun c=>c.nodes<n∧c.big<2^40) (fun c r=>r=c.form) (fun _ (r:Bool)=>(.bool r,[]))
noncomputable def GFo:Nat→Option Ctr:=fun f=>if f=114 then some (ZW) else if f=115 then some (y9) else if f=235 then some ((Qd 1)) else if f=236 then some ((Qd 2)) else if f=213 then some (ZP) else if f=234 then some (zat) else none
theorem znq:∀ g c,GFo g=some c→zd Tryz.prog g c:=okIf X2 (okIf VQ (okIf zl0 (okIf zca (okIf QW (okIf zho (zn))))))
noncomputable def GFoc(n:Nat):Nat→Option Ctr:=fun f=>if f=197 then some (J4 n) else GFo f
theorem zar{n:Nat}(h:zd Tryz.prog 197 (J4 n)):∀ f c,GFoc n f=some c→zd Tryz.prog f c:=by
  intro f c hf
  simp only [GFoc] at hf
  split at hf
  · rename_i hg; subst hg; cases hf; exact h
  · exact znq f c hf
def SFo(i:Nat):KV:=[(1,.ptr 0 0),(3,.int .i64 (i:Int)),(74,.undef),(77,.undef),(80,.undef),(83,.undef),(86,.undef),(89,.undef),(96,.undef),(99,.undef),(100,.undef),(101,.undef),(104,.undef),(105,.undef),(106,.undef),(107,.undef),(108,.undef),(111,.undef),(114,.undef),(117,.undef),(120,.undef),(127,.undef),(130,.undef),(133,.undef),(136,.undef),(139,.undef),(142,.undef),(149,.undef),(152,.undef),(155,.undef),(158,.undef),(161,.undef),(164,.undef),(171,.undef),(174,.undef),(177,.undef),(180,.undef),(183,.undef),(186,.undef),(193,.undef),(196,.undef),(199,.undef),(202,.undef),(203,.undef),(204,.undef),(207,.undef),(210,.undef),(217,.undef),(220,.undef),(223,.undef),(226,.undef),(229,.undef),(232,.undef),(239,.undef),(242,.undef),(245,.undef),(248,.undef),(251,.undef),(254,.undef),(262,.undef),(265,.undef),(268,.undef),(271,.undef),(274,.undef),(277,.undef)]
def HFo(c:Con):Heap:=[.box c.zg]
theorem zc8(n:Nat)(ih:zd Tryz.prog 197 (J4 n)):zd Tryz.prog 197 (J4 (n+1)):=by
  refine zh (fn:=Tryz.f197) (c:=Tryz.f197.body.getD .skip) rfl rfl rfl fun c hp O w0 Q hq=> ?_
  obtain⟨hcn,hcb⟩:=hp
  replace hq:=hq _ rfl
  rw [Con.zkc] at hq
  refine zb.run hmix (zar ih) [1,3,74,77,80,83,86,89,96,99,100,101,104,105,106,107,108,111,114,117,120,127,130,133,136,139,142,149,152,155,158,161,164,171,174,177,180,183,186,193,196,199,202,203,204,207,210,217,220,223,226,229,232,239,242,245,248,251,254,262,265,268,271,274,277] 400 (T:=.leaf (.loop (Prod.fst (lps K197 0)) (Prod.snd (lps K197 0)) [(1,.ptr 0 0),(3,.int .i64 0),(74,.undef),(77,.undef),(80,.undef),(83,.undef),(86,.undef),(89,.undef),(96,.undef),(99,.undef),(100,.undef),(101,.undef),(104,.undef),(105,.undef),(106,.undef),(107,.undef),(108,.undef),(111,.undef),(114,.undef),(117,.undef),(120,.undef),(127,.undef),(130,.undef),(133,.undef),(136,.undef),(139,.undef),(142,.undef),(149,.undef),(152,.undef),(155,.undef),(158,.undef),(161,.undef),(164,.undef),(171,.undef),(174,.undef),(177,.undef),(180,.undef),(183,.undef),(186,.undef),(193,.undef),(196,.undef),(199,.undef),(202,.undef),(203,.undef),(204,.undef),(207,.undef),(210,.undef),(217,.undef),(220,.undef),(223,.undef),(226,.undef),(229,.undef),(232,.undef),(239,.undef),(242,.undef),(245,.undef),(248,.undef),(251,.undef),(254,.undef),(262,.undef),(265,.undef),(268,.undef),(271,.undef),(274,.undef),(277,.undef)] [.box (Con.zg c)])) (by kernel_rfl) ?_
  simp only [Tree.holds,ze,inR,lo,hi,Int.toNat_natCast]
  have hb:=hcb
  rw [Con.vJ] at hb
  rw [Con.jK] at hcn
  have hl:=Con.wP c.sub
  refine zb.loop (ι:={i:Nat // i≤c.sub.length∧Con.vG (c.sub.take i)=true}) (fun i=>SFo i.1) (fun _=>HFo c) (fun i=>c.sub.length - i.1) ⟨0,Nat.zero_le _,by simp [Con.vG]⟩ 0 ?_ ?_ (by kernel_rfl)
  · exact⟨by simp [SFo],⟨zu c,trivial⟩,by kernel_rfl,Nat.zero_le _⟩
  rintro⟨i,hil,hf⟩
  refine zb.run hmix (zar ih) [1,3,74,77,80,83,86,89,96,99,100,101,104,105,106,107,108,111,114,117,120,127,130,133,136,139,142,149,152,155,158,161,164,171,174,177,180,183,186,193,196,199,202,203,204,207,210,217,220,223,226,229,232,239,242,245,248,251,254,262,265,268,271,274,277] 400 (T:=.ite (decide ((↑i:Int)<(↑c.sub.length:Int))) (.side ((0:Int)≤i∧(↑i:Int)<(↑c.sub.length:Int)) (.ex (fun(x:Con)=>eqL [(Con.conD (List.getD c.sub (↑i:Int).toNat Con.nil))] [(Con.conA x)]∧Con.nodes x<n∧Con.big x<1099511627776) fun n=>.all (fun(r:Bool)=>r=Con.form n) fun n=>.ite (!n) (.leaf (.ret [.bool false] [.box (Con.zg c)])) (.side (inR .i64 ((↑i:Int)+(1:Int))) (.leaf (.back 0 [(1,.ptr 0 0),(3,.int .i64 ((↑i:Int)+(1:Int))),(74,.undef),(77,.undef),(80,.undef),(83,.undef),(86,.undef),(89,.undef),(96,.undef),(99,.undef),(100,.undef),(101,.undef),(104,.undef),(105,.undef),(106,.undef),(107,.undef),(108,.undef),(111,.undef),(114,.undef),(117,.undef),(120,.undef),(127,.undef),(130,.undef),(133,.undef),(136,.undef),(139,.undef),(142,.undef),(149,.undef),(152,.undef),(155,.undef),(158,.undef),(161,.undef),(164,.undef),(171,.undef),(174,.undef),(177,.undef),(180,.undef),(183,.undef),(186,.undef),(193,.undef),(196,.undef),(199,.undef),(202,.undef),(203,.undef),(204,.undef),(207,.undef),(210,.undef),(217,.undef),(220,.undef),(223,.undef),(226,.undef),(229,.undef),(232,.undef),(239,.undef),(242,.undef),(245,.undef),(248,.undef),(251,.undef),(254,.undef),(262,.undef),(265,.undef),(268,.undef),(271,.undef),(274,.undef),(277,.undef)] [.box (Con.zg c)]))))) (.ex (fun(x:List UInt8)=>eqL [AV.str c.src] [AV.str x]∧x.length<4611686018427387904) fun n=>.all (fun(r:Bool)=>r=qh n) fun n=>.ex (fun(x:List UInt8)=>eqL [AV.str c.name] [AV.str x]∧x.length<4611686018427387904) fun n_1=>.all (fun(r:Bool)=>r=qh n_1) fun n_2=>.ex (fun(x:Ex)=>eqL [(Ex.exA c.x)] [x.exA]∧True) fun n_3=>.all (fun(r:Bool)=>r=qF n_3) fun n_4=>.ex (fun(x:List Int)=>eqL [AV.sl c.days.length 1 (Con.dayG c.days)] [AV.sl x.length 1 (Con.dayG x)]∧x.length<1099511627776) fun n_5=>.all (fun(r:Bool)=>r=vI n_5) fun n_6=>.ex (fun(x:Ex)=>eqL [(Ex.exA c.x)] [x.exA]∧Ex.size x<1099511627776∧Ex.zD x<1099511627776) fun n_7=>.all (fun(r:Bool)=>r=(decide (Ex.errX n_7=0)&&decide (Ex.qD n_7=1))) fun n_8=>.ex (fun(x:Ex)=>eqL [(Ex.exA c.x)] [x.exA]∧Ex.size x<1099511627776∧Ex.zD x<1099511627776) fun n_9=>.all (fun(r:Bool)=>r=(decide (Ex.errX n_9=0)&&decide (Ex.qD n_9=2))) fun n_10=>.ite (decide (Con.kind c=1)) (.leaf (.ret [.bool (bif bif bif bif bif bif decide ((↑c.sub.length:Int)=0) then decide (Con.src c=#[].toList) else false then decide (Con.dst c=#[].toList) else false then decide (Con.name c=#[].toList) else false then decide (Con.date c=0) else false then decide ((↑c.days.length:Int)=0) else false then n_4 else false)] [.box (Con.zg c)])) (.ite (decide (Con.kind c=2)) (.ex (fun(x:List UInt8)=>(bif decide ((↑c.sub.length:Int)=0) then n else false)=true→eqL [AV.str c.dst] [AV.str x]∧x.length<4611686018427387904) fun n_11=>.all (fun(x:Bool)=>(bif decide ((↑c.sub.length:Int)=0) then n else false)=true→x=qh n_11) fun n_12=>.leaf (.ret [.bool (bif bif bif bif bif bif bif decide ((↑c.sub.length:Int)=0) then n else false then n_12 else false then !decide (Con.src c=Con.dst c) else false then n_2 else false then n_8 else false then decide (Con.date c=0) else false then decide ((↑c.days.length:Int)=0) else false)] [.box (Con.zg c)])) (.ite (decide (Con.kind c=3)) (.leaf (.ret [.bool (bif bif bif bif bif bif decide ((↑c.sub.length:Int)=2) then decide (Con.src c=#[].toList) else false then decide (Con.dst c=#[].toList) else false then decide (Con.name c=#[].toList) else false then decide (Con.date c=0) else false then decide ((↑c.days.length:Int)=0) else false then n_4 else false)] [.box (Con.zg c)])) (.ite (decide (Con.kind c=4)) (.leaf (.ret [.bool (bif bif bif bif bif bif decide ((↑c.sub.length:Int)=1) then decide (Con.src c=#[].toList) else false then decide (Con.dst c=#[].toList) else false then decide (Con.name c=#[].toList) else false then decide (Con.date c=0) else false then decide ((↑c.days.length:Int)=0) else false then n_8 else false)] [.box (Con.zg c)])) (.ite (decide (Con.kind c=5)) (.leaf (.ret [.bool (bif bif bif bif bif bif decide ((↑c.sub.length:Int)=2) then decide (Con.src c=#[].toList) else false then decide (Con.dst c=#[].toList) else false then decide (Con.name c=#[].toList) else false then decide (Con.date c=0) else false then decide ((↑c.days.length:Int)=0) else false then n_10 else false)] [.box (Con.zg c)])) (.ite (decide (Con.kind c=6)) (.ex (fun(x:Int)=>(bif bif bif decide ((↑c.sub.length:Int)=1) then decide (Con.src c=#[].toList) else false then decide (Con.dst c=#[].toList) else false then decide (Con.name c=#[].toList) else false)=true→eqL [AV.int .i64 c.date] [AV.int .i64 x]∧True) fun n=>.all (fun(x:Bool)=>(bif bif bif decide ((↑c.sub.length:Int)=1) then decide (Con.src c=#[].toList) else false then decide (Con.dst c=#[].toList) else false then decide (Con.name c=#[].toList) else false)=true→x=dayB n) fun n=>.leaf (.ret [.bool (bif bif bif bif bif bif decide ((↑c.sub.length:Int)=1) then decide (Con.src c=#[].toList) else false then decide (Con.dst c=#[].toList) else false then decide (Con.name c=#[].toList) else false then n else false then decide ((↑c.days.length:Int)=0) else false then n_4 else false)] [.box (Con.zg c)])) (.ite (decide (Con.kind c=7)) (.leaf (.ret [.bool (bif bif bif bif bif bif decide ((↑c.sub.length:Int)=2) then n else false then decide (Con.dst c=#[].toList) else false then n_2 else false then decide (Con.date c=0) else false then decide ((↑c.days.length:Int)=0) else false then n_4 else false)] [.box (Con.zg c)])) (.ite (decide (Con.kind c=8)) (.leaf (.ret [.bool (bif bif bif bif bif bif decide ((↑c.sub.length:Int)=1) then n else false then decide (Con.dst c=#[].toList) else false then n_2 else false then decide (Con.date c=0) else false then n_6 else false then n_4 else false)] [.box (Con.zg c)])) (.ite (decide (Con.kind c=9)) (.ite (decide (Con.kind c=9)) (.leaf (.ret [.bool (bif bif bif bif bif bif decide ((↑c.sub.length:Int)=1) then decide (Con.src c=#[].toList) else false then decide (Con.dst c=#[].toList) else false then decide (Con.name c=#[].toList) else false then decide (Con.date c=0) else false then n_6 else false then n_10 else false)] [.box (Con.zg c)])) (.leaf (.ret [.bool false] [.box (Con.zg c)]))) (.ite (decide (Con.kind c=10)) (.leaf (.ret [.bool (bif bif bif bif bif bif decide ((↑c.sub.length:Int)=1) then decide (Con.src c=#[].toList) else false then decide (Con.dst c=#[].toList) else false then decide (Con.name c=#[].toList) else false then decide (Con.date c=0) else false then n_6 else false then n_10 else false)] [.box (Con.zg c)])) (.leaf (.ret [.bool false] [.box (Con.zg c)]))))))))))))) (by kernel_rfl) ?_
  simp only [Tree.holds,ze,inR,lo,hi,Int.toNat_natCast]
  refine⟨fun hlt=> ?_,fun hge=> ?_⟩
  · have hlt:i<c.sub.length:=by have:=of_decide_eq_true hlt; omega
    have hg:=Con.jn hlt
    have hgb:=Con.vV hlt
    have ht:=Con.J2 c.sub i hlt
    refine⟨by omega,fun _=>⟨c.sub.getD i Con.nil,⟨⟨zQ _,trivial⟩,by omega,by omega⟩,⟨_,rfl⟩,?_⟩⟩
    rintro _ rfl
    refine⟨fun hb=> ?_,fun hb=>⟨by omega,fun _=> ?_⟩⟩
    · have hb:(c.sub.getD i Con.nil).form=false:=by simpa using hb
      rw [Con.V2 c.sub i hlt hb,Bool.and_false] at hq
      exact RetR.scal hq rfl rfl
    · have hb:(c.sub.getD i Con.nil).form=true:=by simpa using hb
      rw [if_pos trivial]
      exact⟨⟨i+1,hlt,by rw [ht,hf,hb]; rfl⟩,by show c.sub.length - (i+1)<c.sub.length - i; omega,by simp [SFo],⟨zu c,trivial⟩,by kernel_rfl,Nat.zero_le _⟩
  have hge:i=c.sub.length:=by have:=of_decide_eq_false hge; omega
  subst hge
  rw [List.take_length] at hf
  rw [hf,Bool.and_true] at hq
  have fin:∀ (E:Bool) (h:Heap),(E=true↔k0 c.kind c.src c.dst c.name c.x c.date c.days c.sub.length=true)→RetR (J4 (n+1)) 0 Q [.bool E] h:=fun E h he=>by
    rw [← Bool.eq_iff_iff] at he
    rw [← he] at hq
    exact RetR.scal hq rfl rfl
  have e0:((c.sub.length:Int)=0)↔c.sub.length=0:=by omega
  have e1:((c.sub.length:Int)=1)↔c.sub.length=1:=by omega
  have e2:((c.sub.length:Int)=2)↔c.sub.length=2:=by omega
  have ed:((c.days.length:Int)=0)↔c.days=[]:=by rw [← List.length_eq_zero_iff]; omega
  refine⟨c.src,⟨⟨rfl,trivial⟩,by omega⟩,⟨_,rfl⟩,?_⟩
  rintro _ rfl
  refine⟨c.name,⟨⟨rfl,trivial⟩,by omega⟩,⟨_,rfl⟩,?_⟩
  rintro _ rfl
  refine⟨c.x,⟨⟨zV c.x,trivial⟩,trivial⟩,⟨_,rfl⟩,?_⟩
  rintro _ rfl
  refine⟨c.days,⟨⟨⟨rfl,rfl,za _ _ _⟩,trivial⟩,by omega⟩,⟨_,rfl⟩,?_⟩
  rintro _ rfl
  refine⟨c.x,⟨⟨zV c.x,trivial⟩,by omega,by omega⟩,⟨_,rfl⟩,?_⟩
  rintro _ rfl
  refine⟨c.x,⟨⟨zV c.x,trivial⟩,by omega,by omega⟩,⟨_,rfl⟩,?_⟩
  rintro _ rfl
  refine⟨fun hk=>fin _ _ ?_,fun _=>⟨fun hk=>⟨c.dst,fun _=>⟨⟨rfl,trivial⟩,by omega⟩,⟨_,fun _=>rfl⟩,fun b hb=>fin _ _ ?_⟩,fun _=>⟨fun hk=>fin _ _ ?_,fun _=>⟨fun hk=>fin _ _ ?_,fun _=>⟨fun hk=>fin _ _ ?_,fun _=>⟨fun hk=>⟨c.date,fun _=>⟨⟨⟨rfl,rfl⟩,trivial⟩,trivial⟩,⟨_,fun _=>rfl⟩,fun b hb=>fin _ _ ?_⟩,fun _=>⟨fun hk=>fin _ _ ?_,fun _=>⟨fun hk=>fin _ _ ?_,fun _=>⟨fun hk=> ?_,fun hk=> ?_⟩⟩⟩⟩⟩⟩⟩⟩⟩
  rotate_right 2
  · refine⟨fun _=>fin _ _ ?_,fun h=>by rw [h] at hk; cases hk⟩
    have hk:=of_decide_eq_true hk
    clear hq fin
    unfold k0 numX truX
    simp only [hk]
    simp only [yx]
    simp [e0,e1,e2,ed,and_assoc]
  · refine⟨fun hk=>fin _ _ ?_,fun h10=> ?_⟩
    · have hk:=of_decide_eq_true hk
      clear hq fin
      unfold k0 numX truX
      simp only [hk]
      simp only [yx]
      simp [e0,e1,e2,ed,and_assoc]
    · have q:∀ z:Int,decide (c.kind=z)=false→c.kind≠z:=fun z h=>of_decide_eq_false h
      have hn:k0 c.kind c.src c.dst c.name c.x c.date c.days c.sub.length=false:=by
        unfold k0
        rw [if_neg (q _ ‹_›),if_neg (q _ ‹_›),if_neg (q _ ‹_›),if_neg (q _ ‹_›),if_neg (q _ ‹_›),if_neg (q _ ‹_›),if_neg (q _ ‹_›),if_neg (q _ ‹_›),if_neg (fun h=>h.elim (q _ hk) (q _ h10))]
      rw [hn] at hq
      exact RetR.scal hq rfl rfl
  all_goals first
    | (have hk:=of_decide_eq_true hk
       have hk2:((c.kind=2∨c.kind=6)→True):=fun _=>trivial
       clear hq fin
       unfold k0 numX truX
       simp only [hk]
       try (simp only [yx,Bool.and_eq_true,decide_eq_true_eq] at hb)
       simp only [yx]
       simp [e0,e1,e2,ed,and_assoc]
       done)
    | (have hk:=of_decide_eq_true hk
       clear hq fin
       unfold k0 numX truX
       simp only [hk]
       simp only [yx] at hb ⊢
       by_cases h1:c.sub.length=0
       · by_cases h2:qh c.src=true
         · rw [hb (by simp [e0,h1,h2])]
           simp [e0,e1,e2,ed,and_assoc]
         · simp [h2]
       · simp [e0,h1]
       done)
    | (have hk:=of_decide_eq_true hk
       clear hq fin
       unfold k0 numX truX
       simp only [hk]
       simp only [yx] at hb ⊢
       by_cases h1:c.sub.length=1
       · by_cases h2:c.src=[]
         · by_cases h3:c.dst=[]
           · by_cases h4:c.name=[]
             · rw [hb (by simp [e1,h1,h2,h3,h4])]
               simp [e0,e1,e2,ed,and_assoc]
             · simp [h4]
           · simp [h3]
         · simp [h2]
       · simp [e1,h1]
       done)
def Yl:Ctr:=ctrP true (fun c:Con=>[c.conA]) (fun c=>c.big<2^40) (fun c r=>r=c.form) (fun _ (r:Bool)=>(.bool r,[]))
theorem zhy:zd Tryz.prog 197 Yl:=zT Con.nodes zc8
end Go.Proofs.Tryz
end
section
namespace Go.Sx
variable [Stat]
section
variable {O:Nat→Prop} {pin:Nat} {w0:World} {σ0:List SE} {P:Program} {fn:Func}
def noH(n:Nat):Heap:=.box [.ptr n 0]::List.replicate (n - 1) (.box [])
theorem zah{n:Nat}(h:1≤n):(noH n).length=n:=by simp [noH]; omega
theorem zd6(n:Nat):∀ b∈noH n,alive b:=by
 intro b hb
 unfold noH at hb
 rcases List.mem_cons.1 hb with rfl | hb
 ·trivial
 ·rw [List.eq_of_mem_replicate hb]; trivial
theorem zb.never{M:Option Nat}{Hs:Nat→KV→Heap→Prop}{R:List AV→Heap→Prop}{k:List Item}{kv:KV}{n:Nat}(hn:1≤n):wg M P fn O pin w0 σ0 Hs R k (mk fn.ntmps kv (noH n)):=by
 intro w σ a hm
 have hl:σ.length=n:=by rw [hm.hp.len]; exact zah hn
 have h0:σ[0]?=some (σ[0]'(by omega)):=List.getElem?_eq_getElem _
 have hb:=hm.hp.blk 0 _ (.box [.ptr n 0]) h0 rfl
 simp only [BRep] at hb
 obtain⟨ad,vs,el,_,_,_,q⟩:=hb
 simp only [RepL,Rep] at q
 obtain⟨v,r,_,⟨e,ad',he,_⟩,_⟩:=q
 have:=(List.getElem?_eq_some_iff.1 he).1
 omega
open Classical in
theorem zb.zm9{α:Type}{Hs:Nat→KV→Heap→Prop}{R:List AV→Heap→Prop}{k:List Item}{c:Code}{kv:KV}{h:Heap}{tg tp td t n gf:Nat}{cap:List AV}{zs:List AV}(I:List α→Prop)(hc:VI c tg tp td t=true)(hz:zeroCells P t=some zs)(hn:zY P t=some n)(hzl:zs.length=n)
  (he:∀ args w,(callFunc gf args).run P w = .ok (.enter gf args) w) (av:α→AV) (cs:α→List AV) (hcs:∀ x,cellsOf (av x)=some (cs x)∧(cs x).length=n∧(cs x).all oneA=true∧(cs x).all KL=true) (H Hx:List α→Heap) (X S Sp:List α→Prop) (N pinR:Nat)
  (hg:look kv tg = .fn gf [] cap) (htg:tg<fn.ntmps) (htp:tp<fn.ntmps) (htd:td<fn.ntmps) (hne:td≠tp) (hle:LeK pin fn.ntmps kv h kv (H [])) (hlow:(pk fn.ntmps kv).all (lowB pinR)=true) (hpin:pin≤pinR) (hpos:1≤pinR) (hI:I []) (hlen:∀ pre,(H pre).length=pinR)
  (halive:∀ pre,∀ b∈H pre,alive b) (halivex:∀ pre,∀ b∈Hx pre,alive b)
  (iter:∀ w σ a,Mod O pin w0 σ0 w σ (mk fn.ntmps kv (H [])) a→∀ vb,RepL (Own O σ) w cap σ vb→∃ ev:α→Value,SeqStopsK Fence.wide 0 P gf vb.toArray (fun x=> #[ev x]) (je (Own O σ)) S Sp N w∧∀ x,Rep (Own O σ) w (av x) [] (ev x))
  (round:∀ l pre x,I pre→pre.length<N→∀ (W:World) (σ1:List SE),wg (some l) P (bare fn) O pinR W σ1 (fun d kv' h'=>I (pre++[x])∧LeK pinR fn.ntmps [] h' [] (H (pre++[x]))) (fun _ h'=>X (pre++[x])∧LeK pinR fn.ntmps [] h' [] (Hx (pre++[x]))) [.code (xF c),.inLoop] (mk fn.ntmps ((td,.iptr n fun o=>(cs x).getD o .undef)::(tp,av x)::kv) (H pre)))
  (done:∀ xs,S xs→I xs→zb P fn O pin w0 σ0 Hs R k (mk fn.ntmps kv (H xs)))
  (stop:∀ pre,Sp pre→X pre→(resX P (mk fn.ntmps kv (Hx pre)) fn.results.toList).holds fun rs=>R rs (Hx pre)) :
  zb P fn O pin w0 σ0 Hs R (.code c::k) (mk fn.ntmps kv h):=by
 refine zb.zgf hc hz hn hzl he av cs hcs (fun pre=>if I pre then H pre else noH pinR) Hx X S Sp N pinR hg htg htp htd hne (by rw [if_pos hI]; exact hle) hlow hpin (fun pre=> ?_) (fun pre=> ?_) halivex ?_ ?_ ?_ stop
 ·split
  ·exact hlen pre
  ·exact zah hpos
 ·split
  ·exact halive pre
  ·exact zd6 _
 ·rw [if_pos hI]; exact iter
 ·intro l pre x hl W σ1
  by_cases h1:I pre
  ·simp only [if_pos h1]
   intro w σ a hm
   refine J6 ?_ (round l pre x h1 hl W σ1 w σ a hm)
   rintro d a' w' ⟨st,σ',⟨kv',h',⟨h2,h3⟩,rfl⟩,hm'⟩
   exact⟨_,σ',⟨kv',h',by rw [if_pos h2]; exact h3,rfl⟩,hm'⟩
  ·simp only [if_neg h1]
   exact zb.never (fn:=bare fn) hpos
 ·intro xs hs
  by_cases h1:I xs
  ·simp only [if_pos h1]; exact done xs hs h1
  ·simp only [if_neg h1]; exact zb.never hpos
end
end Go.Sx
end
section
set_option maxRecDepth 100000
open Go Go.Sx Go.Proofs Go.Nov
namespace Go.Proofs.Tryz
attribute [local simp] eqKV eqA eqA0 eqH eqB eqL eqL0
noncomputable def K36:List Go.Sx.Item:=[.code (Tryz.f36.body.getD .skip)]
def uz:Ctr:=ctrP true (fun c:Con=>[c.conA]) (fun c=>c.big<2^40∧c.nodes≤1000000) (fun c r=>r=c.errC) (fun _ (r:Int)=>(.int .i64 r,[]))
noncomputable def GCk0:Nat→Option Ctr:=fun f=>if f=131 then some (Vs) else if f=196 then some (yq) else if f=197 then some (Yl) else none
theorem zjb:∀ g c,GCk0 g=some c→zd Tryz.prog g c:=okIf zbv (okIf Uv (okIf zhy (zn)))
theorem Uu:zd Tryz.prog 110 uz:=by
 refine zh (fn:=Tryz.f110) (c:=Tryz.f110.body.getD .skip) rfl rfl rfl fun c hc O w0 Q hq=> ?_
 obtain⟨h1,h2⟩:=hc
 replace hq:=hq _ rfl
 refine zb.run hmix zjb [] 400 (T:=.ex (fun(x:Con)=>eqL [(Con.conA c)] [(Con.conA x)]∧Con.big x<1099511627776) fun n=>.all (fun(r:Nat)=>r=Con.size n) fun n=>.ex (fun(x:Con)=>decide ((500:Int)<n)=false→eqL [(Con.conA c)] [(Con.conA x)]∧Con.big x<1099511627776) fun n_1=>.all (fun(x:Nat)=>decide ((500:Int)<n)=false→x=Con.depth n_1) fun n_2=>.ite (bif decide ((500:Int)<n) then true else decide ((60:Int)<n_2)) (.leaf (.ret [.int .i64 4] [.box (Con.zg c)])) (.ex (fun(x:Con)=>eqL [(Con.conA c)] [(Con.conA x)]∧Con.big x<1099511627776) fun n=>.all (fun(r:Bool)=>r=Con.form n) fun n=>.ite (!n) (.leaf (.ret [.int .i64 8] [.box (Con.zg c)])) (.leaf (.ret [.int .i64 0] [.box (Con.zg c)])))) (by kernel_rfl) ?_
 simp only [Tree.holds,ze]
 have hq1:(500<c.size∨60<c.depth)→Q (.int .i64 4,[]):=fun h=>by unfold Con.errC at hq; rw [if_pos h] at hq; exact hq
 have hq2:¬ (500<c.size∨60<c.depth)→Q (.int .i64 (if c.form=true then 0 else 8),[]):=fun h=>by unfold Con.errC at hq; rw [if_neg h] at hq; exact hq
 refine⟨c,⟨⟨wR c,trivial⟩,h1⟩,⟨_,rfl⟩,?_⟩
 rintro _ rfl
 refine⟨c,fun _=>⟨⟨wR c,trivial⟩,h1⟩,⟨_,fun _=>rfl⟩,fun n hn=> ?_⟩
 have key:(bif decide (500<(c.size:Int)) then true else decide (60<(n:Int)))=decide (500<c.size∨60<c.depth):=by
  by_cases g:500<c.size
  ·simp [g]; omega
  ·rw [hn (decide_eq_false (by omega)),Bool.eq_iff_iff]; simp [g]; omega
 rw [key]
 refine⟨fun h=>RetR.scal (hq1 (of_decide_eq_true h)) rfl (by simp [resV]),fun h=>⟨c,⟨⟨wR c,trivial⟩,h1⟩,⟨_,rfl⟩,?_⟩⟩
 rintro _ rfl
 have hq2:=hq2 (of_decide_eq_false h)
 refine⟨fun h=> ?_,fun h=> ?_⟩
 ·rw [if_neg (by simpa using h)] at hq2; exact RetR.scal hq2 rfl (by simp [resV])
 ·rw [if_pos (by simpa using h)] at hq2; exact RetR.scal hq2 rfl (by simp [resV])
noncomputable def GCkk:Nat→Option Ctr:=fun f=>if f=118 then some (zf5) else if f=119 then some (yq) else if f=120 then some (UA) else if f=121 then some (zgs) else none
theorem Ks:∀ g c,GCkk g=some c→zd Tryz.prog g c:=okIf zia (okIf zd7 (okIf KB (okIf zj8 (zn))))
def HCk(c:Con)(m:Int):Heap:=[.box c.zg,.box [.int .i64 m],.box c.zg]
theorem zc5:zd Tryz.prog 36 uz:=by
 refine zh (fn:=Tryz.f36) (c:=Tryz.f36.body.getD .skip) rfl rfl rfl fun c hc O w0 Q hq=> ?_
 obtain⟨h1,h2⟩:=hc
 replace hq:=hq _ rfl
 refine zb.run hmix Ks [2,13,14] 400 (T:=.ex (fun(x:Con)=>eqL [(Con.conA c)] [(Con.conA x)]∧Con.big x<1099511627776∧Con.nodes x≤1000000) fun n=>.all (fun(r:Nat)=>r=Con.size n) fun n=>.ex (fun(x:Con)=>decide ((500:Int)<n)=false→eqL [(Con.conA c)] [(Con.conA x)]∧Con.big x<1099511627776) fun n_1=>.all (fun(x:Nat)=>decide ((500:Int)<n)=false→x=Con.depth n_1) fun n_2=>.ite (bif decide ((500:Int)<n) then true else decide ((60:Int)<n_2)) (.leaf (.ret [.int .i64 4] [.box (Con.zg c),.box [.int .i64 4]])) (.ex (fun(x:Con)=>eqL [(Con.conA c)] [(Con.conA x)]∧eqH [] []∧0=0∧True) fun n=>.all (fun(x:Unit)=>True) fun n_3=>.leaf (.range (Prod.fst (rfs K36 0)) (Prod.snd (rfs K36 0)) [(2,.ptr 1 0),(13,.fn 206 [] [.ptr 2 0]),(14,.undef)] [.box (Con.zg c),.box [.int .i64 0],.box (Con.zg n)]))) (by kernel_rfl) ?_
 simp only [Tree.holds,ze]
 have hq1:(500<c.size∨60<c.depth)→Q (.int .i64 4,[]):=fun h=>by unfold Con.errC at hq; rw [if_pos h] at hq; exact hq
 have hq2:¬ (500<c.size∨60<c.depth)→Q (.int .i64 (if c.form=true then 0 else 8),[]):=fun h=>by unfold Con.errC at hq; rw [if_neg h] at hq; exact hq
 refine⟨c,⟨⟨wR c,trivial⟩,h1,h2⟩,⟨_,rfl⟩,?_⟩
 rintro _ rfl
 refine⟨c,fun _=>⟨⟨wR c,trivial⟩,h1⟩,⟨_,fun _=>rfl⟩,fun n hn=> ?_⟩
 have key:(bif decide (500<(c.size:Int)) then true else decide (60<(n:Int)))=decide (500<c.size∨60<c.depth):=by
  by_cases g:500<c.size
  ·simp [g]; omega
  ·rw [hn (decide_eq_false (by omega)),Bool.eq_iff_iff]; simp [g]; omega
 rw [key]
 refine⟨fun h=>RetR.scal (hq1 (of_decide_eq_true h)) rfl (by simp [resV]),fun h=>⟨c,⟨⟨wR c,trivial⟩,trivial,trivial,trivial⟩,⟨(),trivial⟩,fun _ _=> ?_⟩⟩
 have hq2:=hq2 (of_decide_eq_false h)
 clear hq hq1
 refine zb.zm9 (fun pre:List Nat=>∀ i∈pre,(c.all.getD i c).xG=true) (tg:=13) (tp:=14) (td:=3) (t:=53) (n:=12) (zs:=[.int .u8 0,.str [],.str [],.str [],.int .u8 0,.str [],.str [],.int .i64 0,.nils,.int .i64 0,.nils,.nils]) (cap:=[.ptr 2 0]) (gf:=206) (by kernel_rfl) (by kernel_rfl) (by kernel_rfl) rfl (enters_of Tryz.func206 (by kernel_rfl) rfl) (fun i:Nat=>(c.all.getD i c).conA) (fun i=>(c.all.getD i c).zg) (fun i=>⟨rfl,rfl,rfl,rfl⟩) (fun _=>HCk c 0) (fun _=>HCk c 8) (fun pre=>¬ c.form=true) (fun xs=>xs=List.range c.all.length) (fun pre=>pre <+: List.range c.all.length) c.all.length 3
  (by kernel_rfl) (by decide +kernel) (by decide +kernel) (by decide +kernel) (by decide) ⟨by simp,⟨zu c,⟨⟨rfl,rfl⟩,trivial⟩,zu c,trivial⟩,by kernel_rfl,Nat.zero_le _⟩ (by kernel_rfl) (Nat.zero_le _) (by decide) (fun i hi=>by cases hi) (fun pre=>rfl) (fun pre=>by simp [HCk,alive]) (fun pre b hb=>by simp [HCk] at hb; rcases hb with rfl | rfl | rfl<;>trivial) ?_ ?_ ?_ ?_
 ·intro w σ a hm vb hvb
  exact QS hm (i:=2) rfl h2 hvb
 ·intro l pre i hI hlen W σ1
  have hwt:(c.all.getD i c).big≤c.big∧(c.all.getD i c)∈c.all:=by
   by_cases hi:i<c.all.length
   ·have:(c.all.getD i c)∈c.all:=by simp [List.getD,hi]
    exact⟨Con.Qy c _ this,this⟩
   ·have:c.all.getD i c=c:=by simp [List.getD,hi]
    rw [this]
    exact⟨Nat.le_refl _,by rw [Con.all_eq]; simp⟩
  obtain⟨e,he⟩:∃ e,c.all.getD i c=e:=⟨_,rfl⟩
  rw [he] at hwt ⊢
  refine zb.run hmix Ks [2,13,14] 400 (T:=.ex (fun(x:Con)=>eqL [(Con.conA e)] [(Con.conA x)]∧Con.big x<1099511627776) fun n=>.all (fun(r:Bool)=>r=Con.xG n) fun n=>.ite (!n) (.leaf (.ret [] [.box (Con.zg c),.box [.int .i64 8],.box (Con.zg c)])) (.leaf (.back 0 [(2,.ptr 1 0),(13,.fn 206 [] [.ptr 2 0]),(14,(Con.conA e))] [.box (Con.zg c),.box [.int .i64 0],.box (Con.zg c)]))) (by kernel_rfl) ?_
  simp only [Tree.holds,ze,inR,lo,hi,Int.toNat_natCast]
  refine⟨e,⟨⟨wR e,trivial⟩,by omega⟩,⟨_,rfl⟩,?_⟩
  rintro _ rfl
  refine⟨fun h=>⟨fun hf=> ?_,?_⟩,fun h=>⟨fun j hj=> ?_,?_⟩⟩
  ·rw [Con.Wa,List.all_eq_true] at hf
   have:=hf e hwt.2
   simp [this] at h
  ·exact⟨trivial,⟨zu c,⟨⟨rfl,rfl⟩,trivial⟩,zu c,trivial⟩,by kernel_rfl,Nat.le_refl _⟩
  ·rcases List.mem_append.1 hj with hj | hj
   ·exact hI j hj
   ·rw [List.mem_singleton.1 hj,he]; simpa using h
  ·exact⟨trivial,⟨zu c,⟨⟨rfl,rfl⟩,trivial⟩,zu c,trivial⟩,by kernel_rfl,Nat.le_refl _⟩
 ·intro xs hxs hI
  have hform:c.form=true:=by
   rw [Con.Wa,List.all_eq_true]
   intro e hem
   obtain⟨j,hj,rfl⟩:=List.getElem_of_mem hem
   have:=hI j (by rw [hxs]; simpa using hj)
   simpa [List.getD,hj] using this
  rw [if_pos hform] at hq2
  refine zb.run hmix Ks [2,13,14] 400 (T:=.leaf (.ret [.int .i64 0] [.box (Con.zg c),.box [.int .i64 0],.box (Con.zg c)])) (by kernel_rfl) ?_
  simp only [Tree.holds,ze]
  exact RetR.scal hq2 rfl (by simp [resV])
 ·intro pre hpre hX
  rw [if_neg hX] at hq2
  exact(RetR.scal hq2 rfl (by simp [resV]):RetR uz 0 Q [.int .i64 8] (HCk c 8))
end Go.Proofs.Tryz
end
section
namespace Go.Nov
open Go.Sx
theorem X8(n sz:Nat)(g g':Nat→Nat→AV):eqG (0+n) sz (appG 0 g g') g':=by
 intro j o _ _
 simp [appG]
end Go.Nov
end
section
set_option maxRecDepth 100000
open Go Go.Sx Go.Proofs Go.Nov
namespace Go.Proofs.Tryz
attribute [local simp] eqKV eqA eqA0 eqH eqB eqL eqL0
noncomputable def K134:List Go.Sx.Item:=[.code (Tryz.f134.body.getD .skip)]
noncomputable def K27:List Go.Sx.Item:=[.code (Tryz.f27.body.getD .skip)]
theorem zcy(n sz:Nat)(g g':Nat→Nat→AV):eqG (0+n) sz (appG 0 g g') g':=X8 n sz g g'
def zaf:Ctr:=ctrP false (fun l:List Int=>[Con.dayS l]) (fun l=>l.length<2^40) (fun _ (_:Unit)=>True) (fun l _=>(.osl 0 1 0 l.length,[.arr l.length 1 (Con.dayG l)]))
theorem zcp:zd Tryz.prog 108 zaf:=by
 refine ze5 (fn:=Tryz.f108) (c:=Tryz.f108.body.getD .skip) rfl rfl rfl fun l hl O w0 Q hq=> ?_
 replace hq:=hq () trivial
 refine zb.run hmix zy [] 400 (T:=.all (fun(b:Bool)=>0<l.length→b=false) fun n=>.ite n (.leaf (.ret [.nils] [])) (.side (0=0∧0≤0∧(0+l.length)*8≤140737488355328) (.leaf (.ret [.osl 0 1 0 (0+l.length)] [.arr (0+l.length) 1 (appG 0 (zi 1 []) (Con.dayG l))])))) (by kernel_rfl) ?_
 simp only [Tree.holds,ze]
 refine⟨⟨false,fun _=>rfl⟩,fun b hb=>⟨fun h=> ?_,fun h=>⟨⟨trivial,Nat.le_refl _,by omega⟩,fun _=> ?_⟩⟩⟩
 ·have h0:l=[]:=by
   rcases Nat.eq_zero_or_pos l.length with h0 | h0
   ·exact List.length_eq_zero_iff.1 h0
   ·rw [hb h0] at h; cases h
  subst h0
  refine RetR.scal (.inr ⟨.osl 0 1 0 0,[(1,Con.dayG [])],by simp [upA2,upA1,upA0],?_⟩) (r:=.nils) rfl (by simp [resV])
  exact hq
 ·refine RetR.outs [0] rfl rfl (.inl hq) (fun h=>by cases h) ?_ ?_ rfl
  ·simp [resV,exp2,exp1,exp0,zE,eqA2,eqL1]
  ·exact⟨⟨by omega,rfl,zcy _ _ _ _⟩,trivial⟩
def xe(n:Nat):Ctr:=ctrP false (fun c:Con=>[c.conA]) (fun c=>c.nodes<n∧c.big<2^38) (fun _ (_:Unit)=>True) (fun c _=>(c.conD,[]))
noncomputable def GTw0:Nat→Option Ctr:=fun f=>if f=214 then some (Q5) else if f=108 then some (zaf) else none
theorem zjg:∀ g c,GTw0 g=some c→zd Tryz.prog g c:=okIf zf1 (okIf zcp (zn))
noncomputable def GTwc(n:Nat):Nat→Option Ctr:=fun f=>if f=134 then some (xe n) else GTw0 f
theorem zbg{n:Nat}(ih:zd Tryz.prog 134 (xe n)):∀ g c,GTwc n g=some c→zd Tryz.prog g c:=fun g c h=>by
 unfold GTwc at h
 split at h
 ·rename_i e; cases h; subst e; exact ih
 ·exact zjg g c h
def STc(c:Con)(i:Nat):KV:=[(1,.ptr 0 0),(2,.ptr 1 0),(3,.osl 3 12 0 i),(15,Con.conS c.sub),(16,.int .i64 (c.sub.length:Int)),(17,.int .i64 (i:Int))]
def BTc(c:Con)(s:AV):Blk:=.box [.int .u8 c.kind,.str c.src,.str c.dst,.str c.name,.int .u8 c.x.kind,.str c.x.rat,.str c.x.name,.int .i64 c.x.date,.sl c.x.sub.length 5 c.x.deep,.int .i64 c.date,.osl 2 1 0 c.days.length,s]
def BTz:Blk:=.box [.int .u8 0,.str [],.str [],.str [],.int .u8 0,.str [],.str [],.int .i64 0,.nils,.int .i64 0,.nils,.nils]
def RTc(c:Con):List AV:=[c.outD (.sl c.x.sub.length 5 c.x.deep) (.osl 2 1 0 c.days.length) (.osl 3 12 0 c.sub.length)]
def HTc(c:Con)(i:Nat):Heap:=[BTc c (Con.conS c.sub),BTz,.arr c.days.length 1 (Con.dayG c.days),.arr i 12 (Con.conG c.sub)]
theorem WZ{s:List Con}{i:Nat} : eqG (i+1) 12 (appG i (Con.conG s) (zj (zi 12 [.int .u8 (s.getD i Con.nil).kind,.str (s.getD i Con.nil).src,.str (s.getD i Con.nil).dst,.str (s.getD i Con.nil).name,.int .u8 (s.getD i Con.nil).x.kind,.str (s.getD i Con.nil).x.rat,.str (s.getD i Con.nil).x.name,.int .i64 (s.getD i Con.nil).x.date,.sl (s.getD i Con.nil).x.sub.length 5 (Ex.exG (s.getD i Con.nil).x.sub),.int .i64 (s.getD i Con.nil).date,.sl (s.getD i Con.nil).days.length 1 (Con.dayG (s.getD i Con.nil).days),.sl (s.getD i Con.nil).sub.length 12 (s.getD i Con.nil).deep]) 0)) (Con.conG s):=by
 intro j o hj ho
 simp only [appG,zj,zi]
 by_cases h:j<i
 ·rw [if_pos h]
 ·have:j=i:=by omega
  subst this
  rw [if_neg h]
  have e:j - j=0:=by omega
  match o,ho with
  | 0,_=>simp [e,Con.conG,Con.cell]
  | 1,_=>simp [e,Con.conG,Con.cell]
  | 2,_=>simp [e,Con.conG,Con.cell]
  | 3,_=>simp [e,Con.conG,Con.cell]
  | 4,_=>simp [e,Con.conG,Con.cell]
  | 5,_=>simp [e,Con.conG,Con.cell]
  | 6,_=>simp [e,Con.conG,Con.cell]
  | 7,_=>simp [e,Con.conG,Con.cell]
  | 8,_=>simp [e,Con.conG,Con.cell]
  | 9,_=>simp [e,Con.conG,Con.cell]
  | 10,_=>simp [e,Con.conG,Con.cell]
  | 11,_=>simp [e,Con.conG,Con.cell]
theorem zjv(n:Nat)(ih:zd Tryz.prog 134 (xe n)){O:Nat→Prop}{w0:World}{C:Ctr}{Q:AV×Heap→Prop}(c:Con)(h1:c.nodes<n+1)(h2:c.big<2^38)(hR:∀ h:Heap,h[2]?=some (.arr c.days.length 1 (Con.dayG c.days))→h[3]?=some (.arr c.sub.length 12 (Con.conG c.sub))→RetR C 0 Q (RTc c) h) :
  zb Tryz.prog Tryz.f134 O 0 w0 [] (fun _ _ _=>False) (RetR C 0 Q) K134 (entry Tryz.f134 [c.conA]):=by
 refine zb.run hmix (zbg ih) [1,2,3,15,16,17] 400 (T:=.ex (fun(x:Ex)=>eqL [(Ex.exA c.x)] [x.exA]∧Ex.size x<1099511627776) fun n=>.all (fun(x:Unit)=>True) fun n_1=>.ex (fun(x:List Int)=>eqL [AV.sl c.days.length 1 (Con.dayG c.days)] [AV.sl x.length 1 (Con.dayG x)]∧x.length<1099511627776) fun n_2=>.all (fun(x:Unit)=>True) fun n_3=>.leaf (.loop (Prod.fst (lps K134 0)) (Prod.snd (lps K134 0)) [(1,.ptr 0 0),(2,.ptr 1 0),(3,.nils),(15,.sl c.sub.length 12 (Con.conG c.sub)),(16,.int .i64 (↑c.sub.length:Int)),(17,.int .i64 0)] [.box [.int .u8 c.kind,.str c.src,.str c.dst,.str c.name,.int .u8 n.kind,.str n.rat,.str n.name,.int .i64 n.date,.sl n.sub.length 5 n.deep,.int .i64 c.date,.osl 2 1 0 n_2.length,.sl c.sub.length 12 (Con.conG c.sub)],.box [.int .u8 0,.str #[].toList,.str #[].toList,.str #[].toList,.int .u8 0,.str #[].toList,.str #[].toList,.int .i64 0,.nils,.int .i64 0,.nils,.nils],.arr n_2.length 1 (Con.dayG n_2)])) (by kernel_rfl) ?_
 simp only [Tree.holds,ze,inR,lo,hi,Int.toNat_natCast]
 have hb:=h2
 rw [Con.vJ] at hb
 refine⟨c.x,⟨⟨zV c.x,trivial⟩,by show c.x.size<_; omega⟩,⟨(),trivial⟩,fun _ _=>⟨c.days,⟨by simp [za],by omega⟩,⟨(),trivial⟩,fun _ _=> ?_⟩⟩
 refine zb.bear 3 12 (Con.conG c.sub) rfl (by decide) (by kernel_rfl) ?_
 refine zb.loop (ι:={i:Nat // i≤c.sub.length}) (fun i=>STc c i.1) (fun i=>HTc c i.1) (fun i=>c.sub.length - i.1) ⟨0,Nat.zero_le _⟩ 0 ?_ ?_ (by kernel_rfl)
 ·refine⟨by simp [STc,wW,Con.conS,za],?_,by kernel_rfl,Nat.zero_le _⟩
  simp [HTc,BTc,BTz,Con.conS,za]
 ·rintro⟨i,hil⟩
  refine zb.run hmix (zbg ih) [1,2,3,15,16,17] 400 (T:=.ite (decide ((↑i:Int)<(↑c.sub.length:Int))) (.side ((0:Int)≤i∧(↑i:Int)<(↑c.sub.length:Int)) (.ex (fun(x:Con)=>eqL [(Con.conD (List.getD c.sub (↑i:Int).toNat Con.nil))] [(Con.conA x)]∧Con.nodes x<n∧Con.big x<274877906944) fun n=>.all (fun(x:Unit)=>True) fun n_1=>.side (0=0∧i≤i∧(i+1)*184≤140737488355328) (.side (inR .i64 ((↑i:Int)+(1:Int))) (.leaf (.back 0 [(1,.ptr 0 0),(2,.ptr 1 0),(3,.osl 3 12 0 (i+1)),(15,.sl c.sub.length 12 (Con.conG c.sub)),(16,.int .i64 (↑c.sub.length:Int)),(17,.int .i64 ((↑i:Int)+(1:Int)))] [.box [.int .u8 c.kind,.str c.src,.str c.dst,.str c.name,.int .u8 (Ex.kind c.x),.str (Ex.rat c.x),.str (Ex.name c.x),.int .i64 (Ex.date c.x),.sl (List.length (Ex.sub c.x)) 5 (Ex.deep c.x),.int .i64 c.date,.osl 2 1 0 c.days.length,.sl c.sub.length 12 (Con.conG c.sub)],.box [.int .u8 0,.str [],.str [],.str [],.int .u8 0,.str [],.str [],.int .i64 0,.nils,.int .i64 0,.nils,.nils],.arr c.days.length 1 (Con.dayG c.days),.arr (i+1) 12 (appG i (Con.conG c.sub) (zj (zi 12 (Con.zr n)) 0)),.box (Con.zr (List.getD c.sub (↑i:Int).toNat Con.nil)),.arr 1 12 (zi 12 (Con.zr n))]))))) (.leaf (.ret [.agg [.int .u8 c.kind,.str c.src,.str c.dst,.str c.name,.int .u8 (Ex.kind c.x),.str (Ex.rat c.x),.str (Ex.name c.x),.int .i64 (Ex.date c.x),.sl (List.length (Ex.sub c.x)) 5 (Ex.deep c.x),.int .i64 c.date,.osl 2 1 0 c.days.length,.osl 3 12 0 i]] [.box [.int .u8 c.kind,.str c.src,.str c.dst,.str c.name,.int .u8 (Ex.kind c.x),.str (Ex.rat c.x),.str (Ex.name c.x),.int .i64 (Ex.date c.x),.sl (List.length (Ex.sub c.x)) 5 (Ex.deep c.x),.int .i64 c.date,.osl 2 1 0 c.days.length,.osl 3 12 0 i],.box [.int .u8 c.kind,.str c.src,.str c.dst,.str c.name,.int .u8 (Ex.kind c.x),.str (Ex.rat c.x),.str (Ex.name c.x),.int .i64 (Ex.date c.x),.sl (List.length (Ex.sub c.x)) 5 (Ex.deep c.x),.int .i64 c.date,.osl 2 1 0 c.days.length,.osl 3 12 0 i],.arr c.days.length 1 (Con.dayG c.days),.arr i 12 (Con.conG c.sub)]))) (by kernel_rfl) ?_
  simp only [Tree.holds,ze,inR,lo,hi,Int.toNat_natCast]
  have hlb:=Con.wP c.sub
  refine⟨fun hlt=> ?_,fun hge=> ?_⟩
  ·have hlt:i<c.sub.length:=by have:=of_decide_eq_true hlt; omega
   have g1:=Con.jn hlt
   have g2:=Con.vV hlt
   rw [Con.jK] at h1
   refine⟨by omega,fun _=>⟨c.sub.getD i Con.nil,⟨⟨zQ _,trivial⟩,by omega,by omega⟩,⟨(),trivial⟩,fun _ _=> ?_⟩⟩
   refine⟨⟨trivial,Nat.le_refl _,by omega⟩,fun _=>⟨by omega,fun _=> ?_⟩⟩
   rw [if_pos trivial]
   refine⟨⟨i+1,hlt⟩,by show c.sub.length - (i+1)<c.sub.length - i; omega,by simp [STc,Con.conS,za],?_,by kernel_rfl,Nat.zero_le _⟩
   refine⟨?_,?_,⟨rfl,rfl,za _ _ _⟩,⟨rfl,rfl,WZ⟩,trivial⟩
   ·simp [BTc,Con.conS,za]
   ·simp [BTz]
  ·have hge:i=c.sub.length:=by have:=of_decide_eq_false hge; omega
   subst hge
   exact hR _ rfl rfl
theorem w8(n sz:Nat)(g:Nat→Nat→AV):eqG n sz (zj g 0) g:=fun j o _ _=>by simp [zj]
theorem znc{C:Ctr}{Q:AV×Heap→Prop}{c:Con}{h:Heap}(hC:C.fresh=false)(h2:h[2]?=some (.arr c.days.length 1 (Con.dayG c.days)))(h3:h[3]?=some (.arr c.sub.length 12 (Con.conG c.sub)))(hq:Q (c.conD,[])):RetR C 0 Q (RTc c) h:=by
 refine RetR.out0 hq (fun h=>by rw [hC] at h; cases h) ?_
 simp only [RTc,Con.outD,resV,exp2,exp1,List.map_cons,List.map_nil,exp0,ren0,zE,frz1,j0,h2,h3,eqA2,eqA,eqL0,eqA0,Con.conD,Con.dayS,Ex.exS,true_and,and_true]
 simp only [if_true]
 exact⟨Ex.zJ _,⟨trivial,trivial,w8 _ _ _⟩,trivial,trivial,fun j o hj ho=>by have:=Con.zJ c j o hj ho; simpa [zj] using this.symm⟩
theorem zkg(n:Nat)(ih:zd Tryz.prog 134 (xe n)):zd Tryz.prog 134 (xe (n+1)):=by
 refine zh (fn:=Tryz.f134) (c:=Tryz.f134.body.getD .skip) rfl rfl rfl fun c hx O w0 Q hq=> ?_
 exact zjv n ih c hx.1 hx.2 fun h a b=>znc rfl a b (hq () trivial)
def Zc:Ctr:=ctrP false (fun c:Con=>[c.conA]) (fun c=>c.big<2^38) (fun _ (_:Unit)=>True) (fun c _=>(c.conD,[]))
theorem zo7:zd Tryz.prog 134 Zc:=zT Con.nodes zkg
noncomputable def GRt0:Nat→Option Ctr:=fun f=>if f=104 then some (Q5) else none
theorem zj9:∀ g c,GRt0 g=some c→zd Tryz.prog g c:=okIf zdi (zn)
noncomputable def GRtc(n:Nat):Nat→Option Ctr:=fun f=>if f=27 then some (xe n) else GRt0 f
theorem zak{n:Nat}(ih:zd Tryz.prog 27 (xe n)):∀ g c,GRtc n g=some c→zd Tryz.prog g c:=fun g c h=>by
 unfold GRtc at h
 split at h
 ·rename_i e; cases h; subst e; exact ih
 ·exact zj9 g c h
def SRc(i:Nat):KV:=[(1,.ptr 0 0),(2,.ptr 1 0),(3,.ptr 2 0),(4,.int .i64 (i:Int))]
def HRc(c:Con)(i:Nat):Heap:=[.box c.zg,BTz,.box [.int .u8 c.kind,.str c.src,.str c.dst,.str c.name,.int .u8 c.x.kind,.str c.x.rat,.str c.x.name,.int .i64 c.x.date,.sl c.x.sub.length 5 c.x.deep,.int .i64 c.date,.osl 3 1 0 c.days.length,.osl 4 12 0 i],.arr c.days.length 1 (Con.dayG c.days),.arr i 12 (Con.conG c.sub)]
theorem zdx(n:Nat)(ih:zd Tryz.prog 27 (xe n)):zd Tryz.prog 27 (xe (n+1)):=by
 refine zh (fn:=Tryz.f27) (c:=Tryz.f27.body.getD .skip) rfl rfl rfl fun c hx O w0 Q hq=> ?_
 obtain⟨h1,h2⟩:=hx
 replace hq:=hq () trivial
 have hb:=h2
 rw [Con.vJ] at hb
 refine zb.run hmix (zak ih) [1,2,3,4] 400 (T:=.ex (fun(x:Ex)=>eqL [(Ex.exA c.x)] [x.exA]∧Ex.size x<1099511627776) fun n=>.all (fun(x:Unit)=>True) fun n_1=>.side (0=0∧0≤0∧(0+List.length c.days)*8≤140737488355328) (.leaf (.loop (Prod.fst (lps K27 0)) (Prod.snd (lps K27 0)) [(1,.ptr 0 0),(2,.ptr 1 0),(3,.ptr 2 0),(4,.int .i64 0)] [.box (Con.zg c),.box [.int .u8 0,.str #[].toList,.str #[].toList,.str #[].toList,.int .u8 0,.str #[].toList,.str #[].toList,.int .i64 0,.nils,.int .i64 0,.nils,.nils],.box [.int .u8 c.kind,.str c.src,.str c.dst,.str c.name,.int .u8 n.kind,.str n.rat,.str n.name,.int .i64 n.date,.sl n.sub.length 5 n.deep,.int .i64 c.date,.osl 3 1 0 (0+List.length c.days),.nils],.arr (0+List.length c.days) 1 (appG 0 (zi 1 []) (Con.dayG c.days))]))) (by kernel_rfl) ?_
 simp only [Tree.holds,ze,inR,lo,hi,Int.toNat_natCast]
 have hlb:=Con.wP c.sub
 refine⟨c.x,⟨⟨zV c.x,trivial⟩,by show c.x.size<_; omega⟩,⟨(),trivial⟩,fun _ _=>⟨⟨trivial,Nat.le_refl _,by omega⟩,fun _=> ?_⟩⟩
 refine zb.zoc 2 11 12 (Con.conG c.sub) rfl rfl (by kernel_rfl) ?_
 refine zb.loop (ι:={i:Nat // i≤c.sub.length}) (fun i=>SRc i.1) (fun i=>HRc c i.1) (fun i=>c.sub.length - i.1) ⟨0,Nat.zero_le _⟩ 0 ?_ ?_ (by kernel_rfl)
 ·refine⟨by simp [SRc],?_,by kernel_rfl,Nat.zero_le _⟩
  refine⟨zu c,by simp [BTz],?_,⟨by omega,rfl,X8 _ _ _ _⟩,⟨rfl,rfl,za _ _ _⟩,trivial⟩
  simp [Con.conS,za]
 ·rintro⟨i,hil⟩
  refine zb.run hmix (zak ih) [1,2,3,4] 400 (T:=.ite (decide ((↑i:Int)<(↑c.sub.length:Int))) (.side ((0:Int)≤i∧(↑i:Int)<(↑c.sub.length:Int)) (.ex (fun(x:Con)=>eqL [(Con.conD (List.getD c.sub (↑i:Int).toNat Con.nil))] [(Con.conA x)]∧Con.nodes x<n∧Con.big x<274877906944) fun n=>.all (fun(x:Unit)=>True) fun n_1=>.side (0=0∧i≤i∧(i+1)*184≤140737488355328) (.side (inR .i64 ((↑i:Int)+(1:Int))) (.leaf (.back 0 [(1,.ptr 0 0),(2,.ptr 1 0),(3,.ptr 2 0),(4,.int .i64 ((↑i:Int)+(1:Int)))] [.box (Con.zg c),.box [.int .u8 0,.str [],.str [],.str [],.int .u8 0,.str [],.str [],.int .i64 0,.nils,.int .i64 0,.nils,.nils],.box [.int .u8 c.kind,.str c.src,.str c.dst,.str c.name,.int .u8 (Ex.kind c.x),.str (Ex.rat c.x),.str (Ex.name c.x),.int .i64 (Ex.date c.x),.sl (List.length (Ex.sub c.x)) 5 (Ex.deep c.x),.int .i64 c.date,.osl 3 1 0 c.days.length,.osl 4 12 0 (i+1)],.arr c.days.length 1 (Con.dayG c.days),.arr (i+1) 12 (appG i (Con.conG c.sub) (zj (zi 12 (Con.zr n)) 0)),.arr 1 12 (zi 12 (Con.zr n))]))))) (.leaf (.ret [.agg [.int .u8 c.kind,.str c.src,.str c.dst,.str c.name,.int .u8 (Ex.kind c.x),.str (Ex.rat c.x),.str (Ex.name c.x),.int .i64 (Ex.date c.x),.sl (List.length (Ex.sub c.x)) 5 (Ex.deep c.x),.int .i64 c.date,.osl 3 1 0 c.days.length,.osl 4 12 0 i]] [.box (Con.zg c),.box [.int .u8 c.kind,.str c.src,.str c.dst,.str c.name,.int .u8 (Ex.kind c.x),.str (Ex.rat c.x),.str (Ex.name c.x),.int .i64 (Ex.date c.x),.sl (List.length (Ex.sub c.x)) 5 (Ex.deep c.x),.int .i64 c.date,.osl 3 1 0 c.days.length,.osl 4 12 0 i],.box [.int .u8 c.kind,.str c.src,.str c.dst,.str c.name,.int .u8 (Ex.kind c.x),.str (Ex.rat c.x),.str (Ex.name c.x),.int .i64 (Ex.date c.x),.sl (List.length (Ex.sub c.x)) 5 (Ex.deep c.x),.int .i64 c.date,.osl 3 1 0 c.days.length,.osl 4 12 0 i],.arr c.days.length 1 (Con.dayG c.days),.arr i 12 (Con.conG c.sub)]))) (by kernel_rfl) ?_
  simp only [Tree.holds,ze,inR,lo,hi,Int.toNat_natCast]
  refine⟨fun hlt=> ?_,fun hge=> ?_⟩
  ·have hlt:i<c.sub.length:=by have:=of_decide_eq_true hlt; omega
   have g1:=Con.jn hlt
   have g2:=Con.vV hlt
   rw [Con.jK] at h1
   refine⟨by omega,fun _=>⟨c.sub.getD i Con.nil,⟨⟨zQ _,trivial⟩,by omega,by omega⟩,⟨(),trivial⟩,fun _ _=> ?_⟩⟩
   refine⟨⟨trivial,Nat.le_refl _,by omega⟩,fun _=>⟨by omega,fun _=> ?_⟩⟩
   rw [if_pos trivial]
   refine⟨⟨i+1,hlt⟩,by show c.sub.length - (i+1)<c.sub.length - i; omega,by simp [SRc],?_,by kernel_rfl,Nat.zero_le _⟩
   refine⟨zu c,by simp [BTz],?_,⟨rfl,rfl,za _ _ _⟩,⟨rfl,rfl,WZ⟩,trivial⟩
   simp [Con.conS,za]
  ·have hge:i=c.sub.length:=by have:=of_decide_eq_false hge; omega
   subst hge
   refine RetR.out0 hq (fun h=>by cases h) ?_
   simp only [Con.outD,resV,exp2,exp1,List.map_cons,List.map_nil,exp0,ren0,zE,frz1,j0,List.getElem?_cons_zero,List.getElem?_cons_succ,eqA2,eqA,eqL0,eqA0,Con.conD,Con.dayS,Ex.exS,true_and,and_true]
   simp only [if_true]
   exact⟨Ex.zJ _,⟨trivial,trivial,w8 _ _ _⟩,trivial,trivial,fun j o hj ho=>by have:=Con.zJ c j o hj ho; simpa [zj] using this.symm⟩
theorem zmc:zd Tryz.prog 27 Zc:=zT Con.nodes zdx
noncomputable def K61:List Go.Sx.Item:=[.code (Tryz.f61.body.getD .skip)]
noncomputable def K32:List Go.Sx.Item:=[.code (Tryz.f32.body.getD .skip)]
def zgt:Ctr:=ctrP true (fun p:List Int×List Int=>[Con.dayS p.1,Con.dayS p.2]) (fun p=>p.1.length<2^40) (fun p r=>(r=true↔p.1=p.2)) (fun _ (r:Bool)=>(.bool r,[]))
def SSd(l m:List Int)(i:Nat):KV:=[(0,Con.dayS l),(1,Con.dayS m),(5,.int .i64 (i:Int))]
theorem zf9:zd Tryz.prog 61 zgt:=by
 refine zh (fn:=Tryz.f61) (c:=Tryz.f61.body.getD .skip) rfl rfl rfl fun p hp O w0 Q hq=> ?_
 obtain⟨l,m⟩:=p
 simp only at hp hq
 refine zb.run hmix zy [0,1,5] 400 (T:=.ite (!decide ((↑l.length:Int)=m.length)) (.leaf (.ret [.bool false] [])) (.leaf (.loop (Prod.fst (lps K61 0)) (Prod.snd (lps K61 0)) [(0,.sl l.length 1 (Con.dayG l)),(1,.sl m.length 1 (Con.dayG m)),(5,.int .i64 0)] []))) (by kernel_rfl) ?_
 simp only [Tree.holds,ze,inR,lo,hi,Int.toNat_natCast]
 refine⟨fun h=> ?_,fun h=> ?_⟩
 ·refine RetR.scal (hq false ⟨fun h=>(by cases h),fun he=> ?_⟩) rfl (by simp [resV])
  subst he
  simp at h
 ·have hl:l.length=m.length:=by simp at h; omega
  refine zb.loop (ι:={i:Nat // i≤l.length∧∀ j,j<i→l.getD j 0=m.getD j 0}) (fun i=>SSd l m i.1) (fun _=>[]) (fun i=>l.length - i.1) ⟨0,Nat.zero_le _,fun j hj=>by omega⟩ 0 ?_ ?_ (by kernel_rfl)
  ·exact⟨by simp [SSd,Con.dayS,za],trivial,by kernel_rfl,Nat.zero_le _⟩
  ·rintro⟨i,hil,hib⟩
   refine zb.run hmix zy [0,1,5] 400 (T:=.ite (decide ((↑i:Int)<l.length)) (.side ((0:Int)≤i∧(↑i:Int)<l.length) (.side ((0:Int)≤i∧(↑i:Int)<m.length) (.ite (!decide (l.getD (↑i:Int).toNat (0:Int)=List.getD m (↑i:Int).toNat (0:Int))) (.leaf (.ret [.bool false] [])) (.side (inR .i64 ((↑i:Int)+(1:Int))) (.leaf (.back 0 [(0,.sl l.length 1 (Con.dayG l)),(1,.sl m.length 1 (Con.dayG m)),(5,.int .i64 ((↑i:Int)+(1:Int)))] [])))))) (.leaf (.ret [.bool true] []))) (by kernel_rfl) ?_
   simp only [Tree.holds,ze,inR,lo,hi,Int.toNat_natCast]
   refine⟨fun hlt=> ?_,fun hge=> ?_⟩
   ·have hlt:i<l.length:=by have:=of_decide_eq_true hlt; omega
    refine⟨by omega,fun _=>⟨by omega,fun _=>⟨fun g=> ?_,fun g=>⟨by omega,fun _=> ?_⟩⟩⟩⟩
    ·refine RetR.scal (hq false ⟨fun h=>(by cases h),fun h3=> ?_⟩) rfl (by simp [resV])
     subst h3; simp at g
    ·have g:l.getD i 0=m.getD i 0:=by simpa using g
     rw [if_pos trivial]
     refine⟨⟨i+1,hlt,fun j hj=> ?_⟩,by show l.length - (i+1)<l.length - i; omega,by simp [SSd,Con.dayS,za],trivial,by kernel_rfl,Nat.zero_le _⟩
     rcases Nat.lt_or_ge j i with h1 | h1
     ·exact hib j h1
     ·have:j=i:=by omega
      rw [this]; exact g
   ·have hge:i=l.length:=by have:=of_decide_eq_false hge; omega
    subst hge
    refine RetR.scal (hq true ⟨fun _=> ?_,fun _=>rfl⟩) rfl (by simp [resV])
    apply List.ext_getElem hl
    intro j g1 g2
    have:=hib j g1
    simpa [List.getD,g1,g2] using this
theorem US(p:Prop):∃ b:Bool,(b=true↔p):=by
 classical
 exact⟨decide p,by simp⟩
def Ki(n:Nat):Ctr:=ctrP true (fun p:Con×Con=>[p.1.conA,p.2.conA]) (fun p=>p.1.nodes<n∧p.1.big<2^40) (fun p r=>(r=true↔p.1=p.2)) (fun _ (r:Bool)=>(.bool r,[]))
noncomputable def GSc0:Nat→Option Ctr:=fun f=>if f=31 then some (XY) else if f=61 then some (zgt) else none
theorem zj0:∀ g c,GSc0 g=some c→zd Tryz.prog g c:=okIf zcl (okIf zf9 (zn))
noncomputable def GScn(n:Nat):Nat→Option Ctr:=fun f=>if f=32 then some (Ki n) else GSc0 f
theorem za3{n:Nat}(ih:zd Tryz.prog 32 (Ki n)):∀ g c,GScn n g=some c→zd Tryz.prog g c:=fun g c h=>by
 unfold GScn at h
 split at h
 ·rename_i e; cases h; subst e; exact ih
 ·exact zj0 g c h
def SSc(i:Nat):KV:=[(2,.ptr 0 0),(3,.ptr 1 0),(5,.int .i64 (i:Int)),(73,.undef),(74,.undef),(75,.undef),(76,.undef),(77,.undef)]
theorem Yz(n:Nat)(ih:zd Tryz.prog 32 (Ki n)):zd Tryz.prog 32 (Ki (n+1)):=by
 refine zh (fn:=Tryz.f32) (c:=Tryz.f32.body.getD .skip) rfl rfl rfl fun p hp O w0 Q hq=> ?_
 obtain⟨a,b⟩:=p
 obtain⟨h1,h2⟩:=hp
 simp only at h1 h2 hq
 refine zb.run hmix (za3 ih) [2,3,5,73,74,75,76,77] 400 (T:=.ite (bif bif bif bif bif !decide (Con.kind a=Con.kind b) then true else !decide (Con.src a=Con.src b) then true else !decide (Con.dst a=Con.dst b) then true else !decide (Con.name a=Con.name b) then true else !decide (Con.date a=Con.date b) then true else !decide ((↑a.sub.length:Int)=(↑b.sub.length:Int))) (.leaf (.ret [.bool false] [.box (Con.zg a),.box (Con.zg b)])) (.leaf (.loop (Prod.fst (lps K32 0)) (Prod.snd (lps K32 0)) [(2,.ptr 0 0),(3,.ptr 1 0),(5,.int .i64 0),(73,.undef),(74,.undef),(75,.undef),(76,.undef),(77,.undef)] [.box (Con.zg a),.box (Con.zg b)]))) (by kernel_rfl) ?_
 simp only [Tree.holds,ze,inR,lo,hi,Int.toNat_natCast]
 have hb:=h2
 rw [Con.vJ] at hb
 have hlb:=Con.wP a.sub
 refine⟨fun h=> ?_,fun h=> ?_⟩
 ·refine RetR.scal (hq false ⟨fun h=>(by cases h),fun he=> ?_⟩) rfl (by simp [resV])
  subst he
  simp at h
 ·simp at h
  obtain⟨⟨⟨⟨⟨g1,g2⟩,g3⟩,g4⟩,g5⟩,g6⟩:=h
  have g6:a.sub.length=b.sub.length:=by omega
  refine zb.loop (ι:={i:Nat // i≤a.sub.length∧∀ j,j<i→a.sub.getD j Con.nil=b.sub.getD j Con.nil}) (fun i=>SSc i.1) (fun _=>[.box a.zg,.box b.zg]) (fun i=>a.sub.length - i.1) ⟨0,Nat.zero_le _,fun j hj=>by omega⟩ 0 ?_ ?_ (by kernel_rfl)
  ·exact⟨by simp [SSc],⟨zu a,zu b,trivial⟩,by kernel_rfl,Nat.zero_le _⟩
  ·rintro⟨i,hil,hib⟩
   refine zb.run hmix (za3 ih) [2,3,5,73,74,75,76,77] 400 (T:=.ite (decide ((↑i:Int)<(↑a.sub.length:Int))) (.side ((0:Int)≤i∧(↑i:Int)<(↑a.sub.length:Int)) (.side ((0:Int)≤i∧(↑i:Int)<(↑b.sub.length:Int)) (.ex (fun(x:Con×Con)=>eqL [(Con.conD (List.getD a.sub (↑i:Int).toNat Con.nil)),(Con.conD (List.getD b.sub (↑i:Int).toNat Con.nil))] [(Con.conA x.1),(Con.conA x.2)]∧Con.nodes x.1<n∧Con.big x.1<1099511627776) fun n=>.all (fun(r:Bool)=>r=true↔n.1=n.2) fun n=>.ite (!n) (.leaf (.ret [.bool false] [.box (Con.zg a),.box (Con.zg b)])) (.side (inR .i64 ((↑i:Int)+(1:Int))) (.leaf (.back 0 [(2,.ptr 0 0),(3,.ptr 1 0),(5,.int .i64 ((↑i:Int)+(1:Int))),(73,.undef),(74,.undef),(75,.undef),(76,.undef),(77,.undef)] [.box (Con.zg a),.box (Con.zg b)])))))) (.ex (fun(x:Ex×Ex)=>eqL [(Ex.exA a.x),(Ex.exA b.x)] [x.1.exA,x.2.exA]∧Ex.size x.1<1152921504606846976) fun n=>.all (fun(r:Bool)=>r=true↔n.1=n.2) fun n=>.ex (fun(x:List Int×List Int)=>n=true→eqL [AV.sl a.days.length 1 (Con.dayG a.days),AV.sl b.days.length 1 (Con.dayG b.days)] [AV.sl x.1.length 1 (Con.dayG x.1),AV.sl x.2.length 1 (Con.dayG x.2)]∧x.1.length<1099511627776) fun n_1=>.all (fun(x:Bool)=>n=true→(x=true↔n_1.1=n_1.2)) fun n_2=>.leaf (.ret [.bool (bif n then n_2 else false)] [.box (Con.zg a),.box (Con.zg b)]))) (by kernel_rfl) ?_
   simp only [Tree.holds,ze,inR,lo,hi,Int.toNat_natCast]
   refine⟨fun hlt=> ?_,fun hge=> ?_⟩
   ·have hlt:i<a.sub.length:=by have:=of_decide_eq_true hlt; omega
    have e1:=Con.jn hlt
    have e2:=Con.vV hlt
    rw [Con.jK] at h1
    refine⟨by omega,fun _=>⟨by omega,fun _=>⟨(a.sub.getD i Con.nil,b.sub.getD i Con.nil),⟨⟨zQ _,zQ _,trivial⟩,by simp only; omega,by simp only; omega⟩,US _,?_⟩⟩⟩
    intro e he
    simp only at he
    refine⟨fun g=> ?_,fun g=>⟨by omega,fun _=> ?_⟩⟩
    ·refine RetR.scal (hq false ⟨fun h=>(by cases h),fun h3=> ?_⟩) rfl (by simp [resV])
     have:e=true:=he.2 (by rw [h3])
     rw [this] at g; cases g
    ·rw [if_pos trivial]
     have g:e=true:=by simpa using g
     refine⟨⟨i+1,hlt,fun j hj=> ?_⟩,by show a.sub.length - (i+1)<a.sub.length - i; omega,by simp [SSc],⟨zu a,zu b,trivial⟩,by kernel_rfl,Nat.zero_le _⟩
     rcases Nat.lt_or_ge j i with h1 | h1
     ·exact hib j h1
     ·have:j=i:=by omega
      rw [this]; exact he.1 g
   ·have hge:i=a.sub.length:=by have:=of_decide_eq_false hge; omega
    subst hge
    have hls:=Con.ZL g6 hib
    refine⟨(a.x,b.x),⟨⟨zV a.x,zV b.x,trivial⟩,by simp only; omega⟩,US _,fun e1 h1=> ?_⟩
    refine⟨(a.days,b.days),fun _=>⟨by simp [za],by simp only; omega⟩,?_,fun e2 h2=> ?_⟩
    ·obtain⟨b,hb⟩:=US (a.days=b.days)
     exact⟨b,fun _=>hb⟩
    ·refine RetR.scal (hq (bif e1 then e2 else false) ?_) rfl (by simp [resV])
     rw [Con.Q3]
     simp only at h1 h2
     cases e1 with
     | false=>simp only [cond_false]; exact⟨fun h=>(by cases h),fun h=>by have:=h1.2 h.2.2.2.2.1; cases this⟩
     | true=>
      rw [cond_true,h2 rfl]
      exact⟨fun h=>⟨g1,g2,g3,g4,h1.1 rfl,g5,h,hls⟩,fun h=>h.2.2.2.2.2.2.1⟩
def Yv:Ctr:=ctrP true (fun p:Con×Con=>[p.1.conA,p.2.conA]) (fun p=>p.1.big<2^40) (fun p r=>(r=true↔p.1=p.2)) (fun _ (r:Bool)=>(.bool r,[]))
theorem zi5:zd Tryz.prog 32 Yv:=zT (fun p=>p.1.nodes) Yz
end Go.Proofs.Tryz
end
section
namespace Go.Sx
variable [Stat]
variable {P:Program} {fn:Func} {Xp:List PanicEntry→Prop}
theorem zb.weak{M:Option Nat}{O:Nat→Prop}{pin:Nat}{w0:World}{σ0:List SE}{Hs:Nat→KV→Heap→Prop}{R:List AV→Heap→Prop}{k:List Item}{kv:KV}{h:Heap}{S:KV}{H:Heap}(hle:LeK pin fn.ntmps kv h S H)
  (hs:z7 Xp M P fn O pin w0 σ0 Hs R k (mk fn.ntmps S H)):z7 Xp M P fn O pin w0 σ0 Hs R k (mk fn.ntmps kv h):=Safe.le hle.le hs
end Go.Sx
end
section
namespace Go.Nov
def sumS(m:Bool)(x:Nat)(n:Bool)(y:Nat):Bool×Nat:=if m=n then(m,x+y) else if y≤x then(m,x - y) else(n,y - x)
def addI(s t:List UInt8):List UInt8×Int:=if z0 s t=0 then wr (sumS (negI s) (numI s) (negI t) (numI t)).1 (sumS (negI s) (numI s) (negI t) (numI t)).2 else([],z0 s t)
def subI(s t:List UInt8):List UInt8×Int:=if z0 s t=0 then wr (sumS (negI s) (numI s) (!negI t) (numI t)).1 (sumS (negI s) (numI s) (!negI t) (numI t)).2 else([],z0 s t)
def mulI(s t:List UInt8):List UInt8×Int:=if z0 s t=0 then wr (negI s != negI t) (numI s*numI t) else([],z0 s t)
def cmpZ(m:Bool)(x:Nat)(n:Bool)(y:Nat):Int:=if m=true∧n=false then -1 else if n=true∧m=false then 1 else if m=true then cmpN y x else cmpN x y
def zhn(s t:List UInt8):Int×Int:=if z0 s t=0 then(cmpZ (negI s) (numI s) (negI t) (numI t),0) else(0,z0 s t)
theorem Qn{d:Nat}(h:d<10):(byt d).toNat=48+d:=by
 unfold byt
 rw [UInt8.toNat_ofNat']
 omega
theorem ub{x:Nat}(h:x≠0):txt x=((dec x).map byt).reverse:=if_neg h
theorem y8{x:Nat}(h:x≠0):(txt x).length=(dec x).length:=by rw [ub h]; simp
theorem zky{x:Nat}(h:x≠0):allD (txt x):=by
 intro c hc
 rw [ub h] at hc
 simp only [List.mem_reverse,List.mem_map] at hc
 obtain⟨d,hd,rfl⟩:=hc
 have:d<10:=Ten.zk x d hd
 rw [Qn this]
 omega
theorem zm7{x:Nat}(h:x≠0):dg (txt x)=dec x:=by
 rw [ub h,dg,List.map_reverse,List.reverse_reverse,List.map_map]
 conv=>rhs; rw [← List.map_id (dec x)]
 refine List.map_congr_left fun d hd=> ?_
 have:d<10:=Ten.zk x d hd
 simp only [Function.comp,Qn this,id]
 omega
theorem zk7{x:Nat}(h:x≠0):numD (txt x)=x:=by
 rw [← Kg,zm7 h]
 exact Ten.zo x
theorem Vi{x:Nat}(h:x≠0):(txt x).getD 0 0≠48∧(txt x).getD 0 0≠45:=by
 have hl:=Km h
 have ht:=zbf hl
 have hlt:=dec_lt x ((dec x).length - 1)
 have e:(txt x).getD 0 0=byt ((dec x).getD ((dec x).length - 1) 0):=by
  rw [ub h]
  simp only [List.getD_eq_getElem?_getD]
  rw [List.getElem?_reverse (by simpa using hl)]
  simp [List.getElem?_eq_getElem (show(dec x).length - 1<(dec x).length by omega)]
 rw [e]
 have hb:=Qn hlt
 constructor
 ·intro h2
  rw [h2] at hb
  have:(48:UInt8).toNat=48:=rfl
  omega
 ·intro h2
  rw [h2] at hb
  have:(45:UInt8).toNat=45:=rfl
  omega
theorem zet{x:Nat}(h:x≠0):txt x≠[]:=by
 intro h2
 have:=y8 h
 rw [h2] at this
 have:=Km h
 simp at *; omega
theorem WQ{x:Nat}(h:x≠0)(neg:Bool):parse (sgn neg (txt x))=(neg,txt x):=by
 cases neg with
 | true=>rfl
 | false=>
  simp only [sgn,Bool.false_eq_true,if_false]
  have h1:=(Vi h).2
  cases ht:txt x with
  | nil=>exact absurd ht (zet h)
  | cons c b=>
   rw [ht] at h1
   have:c≠45:=h1
   simp [parse,this]
theorem X4{x:Nat}(h:x≠0)(neg:Bool):qm neg (txt x)=true:=by
 have h1:=(Vi h).1
 have h2:txt x≠[48]:=by
  intro h2
  rw [h2] at h1
  exact h1 rfl
 have h3:=zet h
 have h4:(txt x).all isD=true:=zbj.2 (zky h)
 simp only [List.getD_eq_getElem?_getD] at h1
 simp [qm,h3,h2,h1,h4]
theorem Vj{neg:Bool}{x:Nat}(h:(wr neg x).2=0):errI (wr neg x).1=0∧numI (wr neg x).1=x∧negI (wr neg x).1=(neg&&decide (x≠0)):=by
 unfold wr at h ⊢
 by_cases h0:x=0
 ·subst h0
  simp only [if_true]
  refine⟨rfl,rfl,?_⟩
  simp [negI,parse]
 ·rw [if_neg h0] at h ⊢
  by_cases h1:1000<(dec x).length
  ·rw [if_pos h1] at h; cases h
  ·rw [if_neg h1]
   simp only [errI,numI,negI,WQ h0,X4 h0,if_true]
   rw [y8 h0,if_neg h1]
   exact⟨rfl,zk7 h0,by simp [h0]⟩
theorem zi9(neg:Bool)(x:Nat):(wr neg x).2=0∨wr neg x=([],14):=by
 unfold wr
 split
 ·exact .inl rfl
 ·split
  ·exact .inr rfl
  ·exact .inl rfl
theorem zal(neg:Bool)(b:List UInt8):(sgn neg b).length≤b.length+1:=by
 unfold sgn; split<;>simp
theorem wv(neg:Bool)(x:Nat):(wr neg x).1.length≤1001:=by
 unfold wr
 split
 ·simp
 ·rename_i h0
  split
  ·simp
  ·rename_i h1
   have:=zal neg (txt x)
   rw [y8 h0] at this
   simp only
   omega
theorem zfr(s t:List UInt8):(addI s t).1.length≤1001:=by
 unfold addI
 split
 ·exact wv _ _
 ·simp
theorem zfo(s t:List UInt8):(subI s t).1.length≤1001:=by
 unfold subI
 split
 ·exact wv _ _
 ·simp
theorem yf(s t:List UInt8):(mulI s t).1.length≤1001:=by
 unfold mulI
 split
 ·exact wv _ _
 ·simp
theorem zjw(b:Bool)(x:Nat):wr (b&&decide (0<x)) x=wr b x:=by
 unfold wr
 by_cases h:x=0
 ·rw [if_pos h,if_pos h]
 ·rw [if_neg h,if_neg h]
  have:decide (0<x)=true:=decide_eq_true (Nat.pos_of_ne_zero h)
  rw [this,Bool.and_true]
theorem zjr(m:Bool)(x:Nat)(n:Bool)(y:Nat):(sumS m x n y).2≤x+y:=by
 unfold sumS
 split
 ·exact Nat.le_refl _
 ·split
  ·simp only; omega
  ·simp only; omega
end Go.Nov
end
section
namespace Go.Nov
def Js(neg:Bool)(x y:Nat):List UInt8:=
 if y/Nat.gcd x y=1 then(wr neg (x/Nat.gcd x y)).1 else(wr neg (x/Nat.gcd x y)).1++[47]++(wr false (y/Nat.gcd x y)).1
def jz(n d:List UInt8):List UInt8×Int:=if z0 n d≠0 then([],z0 n d) else if numI d=0 then([],16) else(Js (negI n != negI d) (numI n) (numI d),0)
def wT(a b:List UInt8):Int:=if errR a=0 then errR b else errR a
def numR(a:List UInt8):List UInt8:=(cutR a).1
def denR(a:List UInt8):List UInt8:=if(cutR a).2.2 then(cutR a).2.1 else [49]
def frac(z w:List UInt8×Int):List UInt8×Int:=if z.2≠0∨w.2≠0 then([],14) else jz z.1 w.1
def zfz(a b:List UInt8):Int:=if wT a b≠0 then wT a b else if(mulI (numR a) (denR b)).2≠0∨(mulI (numR b) (denR a)).2≠0 then 14 else 0
def addR(a b:List UInt8):List UInt8×Int:=if zfz a b≠0 then([],zfz a b) else frac (addI (mulI (numR a) (denR b)).1 (mulI (numR b) (denR a)).1) (mulI (denR a) (denR b))
def mulR(a b:List UInt8):List UInt8×Int:=if wT a b≠0 then([],wT a b) else frac (mulI (numR a) (numR b)) (mulI (denR a) (denR b))
end Go.Nov
namespace Go.Nov
def dmQ(s t:List UInt8):Nat:=if negI s=true∧0<numI s%numI t then numI s/numI t+1 else numI s/numI t
def dmM(s t:List UInt8):Nat:=if negI s=true∧0<numI s%numI t then numI t - numI s%numI t else numI s%numI t
def dmI(s t:List UInt8):List UInt8×List UInt8×Int:=
 if z0 s t≠0 then([],[],z0 s t) else if numI t=0 then([],[],16) else((wr (negI s != negI t) (dmQ s t)).1,(wr false (dmM s t)).1,0)
theorem zix{s:List UInt8}(h:errI s=0):∃ k,k≤1000∧numI s<10^k:=by
 obtain⟨_,h1,_,h2⟩:=xL h
 exact⟨_,h2,yp h1⟩
def room(x:Nat):Prop:=(dec x).length≤1000
theorem room_le{x y:Nat}(h:x≤y)(hy:room y):room x:=by
 rcases Nat.lt_or_ge (dec y).length (dec x).length with h1 | h1
 ·have:=Ten.qa h1
  omega
 ·exact Nat.le_trans h1 hy
theorem wQ{s:List UInt8}(h:errI s=0):room (numI s):=by
 obtain⟨k,h1,h2⟩:=zix h
 exact Nat.le_trans (kM h2) h1
theorem kq{neg:Bool}{x:Nat}(h:room x):(wr neg x).2=0:=by
 unfold wr
 split
 ·rfl
 ·rw [if_neg (by have:(dec x).length≤1000:=h; omega)]
theorem Xu{s t:List UInt8}(hs:errI s=0)(ht:numI t≠0):room (dmQ s t):=by
 have h:=wQ hs
 unfold dmQ
 split
 ·rename_i hc
  by_cases h1:numI t=1
  ·rw [h1,Nat.mod_one] at hc; omega
  ·refine room_le ?_ h
   have h2:numI s/numI t≤numI s/2:=Nat.div_le_div_left (by omega) (by omega)
   have h3:numI s≠0:=fun h0=>by rw [h0,Nat.zero_mod] at hc; omega
   by_cases h4:numI s=1
   ·have:numI s/numI t=0:=Nat.div_eq_of_lt (by omega)
    omega
   ·omega
 ·exact room_le (Nat.div_le_self _ _) h
theorem XV{s t:List UInt8}(ht:errI t=0)(h0:numI t≠0):room (dmM s t):=by
 have h:=wQ ht
 have hm:=Nat.mod_lt (numI s) (Nat.pos_of_ne_zero h0)
 unfold dmM
 split
 ·exact room_le (Nat.sub_le _ _) h
 ·exact room_le (by omega) h
end Go.Nov
namespace Go.Nov
theorem Y7:wr false 1=([49],0):=by
 have h:dec 1=[1]:=by
  show Ten.canon 1=[1]
  rw [Ten.qV (by decide)]
  exact congrArg (1 :: ·) Ten.zN
 simp [wr,h,txt,sgn,byt]
theorem Kt{x:Nat}(h:room x):(wr false x).1=[49]↔x=1:=by
 constructor
 ·intro e
  have:=(Vj (kq (neg:=false) h)).2.1
  rw [e] at this
  exact this.symm
 ·rintro rfl
  rw [Y7]
theorem zg1{x:Nat}(h0:x≠0)(h:room x):[45]++(wr false x).1=(wr true x).1:=by
 unfold wr
 rw [if_neg h0,if_neg h0,if_neg (by have:(dec x).length≤1000:=h; omega),if_neg (by have:(dec x).length≤1000:=h; omega)]
 rfl
theorem k7{t:List UInt8}(h:errI t=0):t=[48]↔numI t=0:=by
 constructor
 ·rintro rfl; rfl
 ·intro h0
  obtain⟨neg,b,h1,h2,h3,h4,h5,h6⟩:=Qv h
  have hb:numD b=0:=by simpa [numI,h2] using h0
  cases b with
  | nil=>exact absurd rfl h5
  | cons c r=>
   have hc:=h4 c (by simp)
   have e:numD (c::r)=(c.toNat - 48)*10^r.length+numD r:=by
    have:=kh [c] r
    simp only [List.singleton_append] at this
    rw [this]
    simp [numD]
   rw [e] at hb
   have hc0:c.toNat=48:=by
    rcases Nat.eq_zero_or_pos (c.toNat - 48) with h7 | h7
    ·omega
    ·have:=Nat.mul_pos h7 (Nat.pow_pos (n:=r.length) (show 0<10 by decide))
     omega
   have hc1:c=48:=UInt8.toNat_inj.1 (by rw [hc0]; rfl)
   subst hc1
   have hr:r=[]:=by
    cases r with
    | nil=>rfl
    | cons d r=>
     have:=vT (neg:=neg) (b:=48::d::r) rfl (by simp)
     rw [this] at h3; cases h3
   subst hr
   cases neg with
   | true=>cases h3
   | false=>simpa [sgn] using h1
theorem uy{s:List UInt8}{b:Bool}{g:Nat}(hs:errI s=0)(h0:g≠0)(hg:room g)(hd:g ∣ numI s):dmI s (wr b g).1=((wr (negI s != b) (numI s/g)).1,[48],0):=by
 obtain⟨h1,h2,h3⟩:=Vj (kq (neg:=b) hg)
 have hb:negI (wr b g).1=b:=by rw [h3]; simp [h0]
 have he:z0 s (wr b g).1=0:=zM.2 ⟨hs,h1⟩
 have hm:numI s%g=0:=Nat.mod_eq_zero_of_dvd hd
 unfold dmI
 rw [if_neg (by rw [he]; decide),h2,if_neg h0,hb]
 have hq:dmQ s (wr b g).1=numI s/g:=by
  unfold dmQ
  rw [h2,hm,if_neg (by omega)]
 have hr:dmM s (wr b g).1=0:=by
  unfold dmM
  rw [h2,hm,if_neg (by omega)]
 rw [hq,hr]
 rfl
theorem XQ{s t:List UInt8}(ht:errI t=0)(h0:numI t≠0):Nat.gcd (numI s) (numI t)≠0∧room (Nat.gcd (numI s) (numI t)):=by
 have hp:=Nat.pos_of_ne_zero h0
 refine⟨fun h=> ?_,room_le (Nat.le_of_dvd hp (Nat.gcd_dvd_right _ _)) (wQ ht)⟩
 have:=Nat.eq_zero_of_gcd_eq_zero_right h
 exact h0 this
theorem zdh(neg:Bool)(x y:Nat):(Js neg x y).length≤2003:=by
 unfold Js
 have h1:=wv neg (x/Nat.gcd x y)
 have h2:=wv false (y/Nat.gcd x y)
 split
 ·omega
 ·simp only [List.length_append,List.length_cons,List.length_nil]; omega
end Go.Nov
namespace Go.Nov
theorem zfj:errI [49]=0:=rfl
theorem QX{a:List UInt8}(h:errR a=0):errI (numR a)=0∧errI (denR a)=0∧negI (denR a)=false∧numI (denR a)≠0:=by
 unfold errR at h
 unfold numR denR
 cases hc:(cutR a).2.2 with
 | true=>
  rw [hc] at h
  simp only [if_true] at h ⊢
  split at h
  ·cases h
  ·rename_i h1
   simp only [not_or] at h1
   split at h
   ·cases h
   ·rename_i h2
    simp only [not_or,Classical.not_not] at h2
    refine⟨h2.1,h2.2,by simpa using h1.2.2.1,fun h0=> ?_⟩
    exact h1.2.2.2.1 ((k7 h2.2).2 h0)
 | false=>
  rw [hc] at h
  simp only [Bool.false_eq_true,if_false] at h ⊢
  have:(cutR a).1=a:=by
   unfold cutR at hc ⊢
   split at hc
   ·cases hc
   ·rename_i hn; rw [if_neg hn]
  rw [this]
  exact⟨h,zfj,rfl,by decide⟩
theorem uI(a:List UInt8):(numR a).length≤a.length:=(Qw a).1
theorem uG(a:List UInt8):(denR a).length≤a.length+1:=by
 unfold denR
 split
 ·exact Nat.le_trans (Qw a).2 (Nat.le_succ _)
 ·simp
theorem Yf{s t:List UInt8}(h:z0 s t=0):(mulI s t).2=0∧errI (mulI s t).1=0∨mulI s t=([],14):=by
 unfold mulI
 rw [if_pos h]
 exact(zi9 _ _).imp (fun h=>⟨h,(Vj h).1⟩) id
end Go.Nov
namespace Go.Nov
def stp(e:Int)(f:List UInt8→List UInt8→List UInt8×Int)(x y:List UInt8):List UInt8×Int:=if e≠0 then([],e) else f x y
theorem zkr{e:Int}{f:List UInt8→List UInt8→List UInt8×Int}{x y:List UInt8}(h:(f x y).1.length≤1001):(stp e f x y).1.length≤1001:=by
 unfold stp
 split
 ·simp
 ·exact h
theorem Z2{e:Int}(h:e≠0)(f:List UInt8→List UInt8→List UInt8×Int)(x y:List UInt8):stp e f x y=([],e):=if_pos h
theorem VP(f:List UInt8→List UInt8→List UInt8×Int)(x y:List UInt8):stp 0 f x y=f x y:=if_neg (by simp)
section
variable {a b n m d c:List UInt8} {e:Int} (hp:(e≠0∧wT a b=e)∨(e=0∧errR a=0∧errR b=0∧n=numR a∧m=numR b∧d=denR a∧c=denR b))
include hp
theorem zdq{x y z w:List UInt8}{r1 r2 r3:List UInt8×Int}(h1:r1=stp e mulI x y)(h2:r2=stp r1.2 mulI z w)(h3:r3=stp r2.2 jz r1.1 r2.1)
  (hv:errR a=0→errR b=0→z0 x y=0∧z0 z w=0):r3=if wT a b≠0 then([],wT a b) else frac (mulI x y) (mulI z w):=by
 rcases hp with ⟨he,h2e⟩ | ⟨rfl,ha,hb,_⟩
 ·rw [h2e,if_pos he]
  rw [Z2 he] at h1
  subst h1
  rw [Z2 he] at h2
  subst h2
  rw [h3,Z2 he]
 ·obtain⟨v1,v2⟩:=hv ha hb
  have he2:wT a b=0:=by unfold wT; rw [if_pos ha]; exact hb
  have e14:(14:Int)≠0:=by decide
  rw [he2,if_neg (by simp)]
  rw [VP] at h1
  unfold frac
  rcases Yf v1 with ⟨g1,_⟩ | g1
  ·rw [← h1] at g1 ⊢
   rw [g1,VP] at h2
   rcases Yf v2 with ⟨g2,_⟩ | g2
   ·rw [← h2] at g2 ⊢
    rw [g1,g2,if_neg (by simp),h3,g2,VP]
   ·rw [← h2] at g2 ⊢
    rw [g2,if_pos (by simp),h3,g2,Z2 e14]
  ·rw [← h1] at g1 ⊢
   have q2:r2=([],14):=by rw [h2,g1]; exact Z2 e14 _ _ _
   rw [g1,if_pos (by simp),h3,q2,Z2 e14]
end
end Go.Nov
end
section
namespace Go.Nov
theorem zmi{b:List UInt8}(h:allD b)(hn:b≠[])(hz:b.getD 0 0≠48):numD b≠0∧txt (numD b)=b:=by
 have hd:=zep h
 have hl:0<b.length:=List.length_pos_iff.2 hn
 have htl:Ten.tlen (dg b)=(dg b).length:=by
  rcases Nat.lt_or_ge (Ten.tlen (dg b)) (dg b).length with h1 | h1
  ·exfalso
   have h2:=Ten.qW (dg b) ((dg b).length - 1) (by omega)
   rw [xn] at h2
   have e:(dg b).getD (b.length - 1) 0=(b.getD 0 0).toNat - 48:=by
    simp only [dg,List.getD_eq_getElem?_getD]
    rw [List.getElem?_reverse (by simp; omega)]
    simp [List.getElem?_eq_getElem hl,show b.length - 1 - (b.length - 1)=0 by omega]
   rw [e] at h2
   have h3:48≤(b.getD 0 0).toNat:=by
    cases b with
    | nil=>exact absurd rfl hn
    | cons c r=>exact(h c (by simp)).1
   apply hz
   apply UInt8.toNat_inj.1
   show _=48
   omega
  ·exact Nat.le_antisymm (Ten.zZ _) h1
 have hc:dec (numD b)=dg b:=by
  rw [← Kg]
  exact Ten.Vk hd htl
 have h0:numD b≠0:=by
  intro h0
  rw [h0] at hc
  have:dg b=[]:=by rw [← hc]; exact Ten.zN
  have:=congrArg List.length this
  rw [xn,List.length_nil] at this
  omega
 refine⟨h0,?_⟩
 rw [ub h0,hc,dg,← List.map_reverse,List.reverse_reverse,List.map_map]
 conv=>rhs; rw [← List.map_id b]
 refine List.map_congr_left fun c hcm=> ?_
 obtain⟨h1,h2⟩:=h c hcm
 apply UInt8.toNat_inj.1
 simp only [Function.comp,id]
 rw [Qn (by omega)]
 omega
theorem zj4{s:List UInt8}(h:errI s=0):wr (negI s) (numI s)=(s,0):=by
 obtain⟨neg,b,h1,h2,h3,h4,h5,h6⟩:=Qv h
 have e1:negI s=neg:=by simp [negI,h2]
 have e2:numI s=numD b:=by simp [numI,h2]
 rw [e1,e2]
 by_cases hz:b.getD 0 0=48
 ·have hb:b=[48]:=by
   cases b with
   | nil=>exact absurd rfl h5
   | cons c r=>
    cases r with
    | nil=>have:c=48:=hz; rw [this]
    | cons d r=>rw [vT hz (by simp)] at h3; cases h3
  subst hb
  cases neg with
  | true=>cases h3
  | false=>rw [h1]; rfl
 ·obtain⟨g1,g2⟩:=zmi h4 h5 hz
  unfold wr
  rw [if_neg g1,g2,if_neg,h1]
  have:=y8 g1
  rw [g2] at this
  omega
def zI(s:List UInt8):Int:=if negI s then -(numI s:Int) else numI s
theorem Z5(s:List UInt8):(zI s).natAbs=numI s:=by unfold zI; split<;>simp
theorem We{s:List UInt8}(h:errI s=0):negI s=decide (zI s<0):=by
 unfold zI
 cases hn:negI s with
 | false=>simp
 | true=>
  simp only [if_true]
  have:numI s≠0:=by
   intro h0
   have:=(k7 h).2 h0
   rw [this] at hn
   cases hn
  exact(decide_eq_true (by omega)).symm
def wz(z:Int):List UInt8×Int:=wr (decide (z<0)) z.natAbs
theorem zb7{s:List UInt8}(h:errI s=0):wz (zI s)=(s,0):=by
 unfold wz
 rw [Z5,← We h,zj4 h]
theorem zns{neg:Bool}{x:Nat}(h:(wr neg x).2=0):zI (wr neg x).1=if neg then -(x:Int) else x:=by
 obtain⟨h1,h2,h3⟩:=Vj h
 unfold zI
 rw [h2,h3]
 by_cases h0:x=0
 ·subst h0; simp
 ·cases neg<;>simp [h0]
theorem za0{z:Int}(h:(wz z).2=0):zI (wz z).1=z:=by
 unfold wz at h ⊢
 rw [zns h]
 by_cases hz:z<0
 ·rw [decide_eq_true hz]; simp only [if_true]; omega
 ·rw [decide_eq_false hz]; simp only [Bool.false_eq_true,if_false]; omega
theorem zla{z:Int}(h:(wz z).2=0):errI (wz z).1=0:=(Vj h).1
theorem zo6{neg:Bool}{x:Nat} : wr neg x=wz (if neg then -(x:Int) else x):=by
 unfold wz
 by_cases h0:x=0
 ·subst h0
  cases neg<;>rfl
 ·cases neg with
  | false=>simp only [Bool.false_eq_true,if_false,Int.natAbs_natCast]; rw [decide_eq_false (by omega)]
  | true=>simp only [if_true,Int.natAbs_neg,Int.natAbs_natCast]; rw [decide_eq_true (by omega)]
def qv(a:List UInt8):Rat:=Rat.divInt (zI (numR a)) (zI (denR a))
end Go.Nov
end
section
namespace Go.Nov
section
variable {a b:List UInt8} (ha:errR a=0) (hb:errR b=0)
include ha hb
end
end Go.Nov
end
section
namespace Go.Nov
end Go.Nov
end
section
namespace Go.Nov
open Go.Sx
structure TOp where
 kind:Int
 a:Int
 b:Int
 rat:List UInt8
abbrev TOp.nil:TOp:=⟨0,0,0,[]⟩
def TOp.cell(o:TOp):Nat→AV
 | 0=>.int .u8 o.kind
 | 1=>.int .i64 o.a
 | 2=>.int .i64 o.b
 | 3=>.str o.rat
 | _=>.undef
def opG(l:List TOp):Nat→Nat→AV:=fun j=>(l.getD j TOp.nil).cell
def opS(l:List TOp):AV:=.sl l.length 4 (opG l)
structure Tp where
 n:Int
 ops:List TOp
def Tp.av(t:Tp):AV:=.agg [.int .i64 t.n,opS t.ops]
def ratG(l:List (List UInt8)):Nat→Nat→AV:=fun j _=>.str (l.getD j [])
end Go.Nov
end
section
namespace Go.Nov
open Go.Sx
structure Deal where
 long:List UInt8
 short:List UInt8
 ccy:List UInt8
 name:List UInt8
 zc:List UInt8
 zf:List UInt8
def Deal.av(d:Deal):AV:=.agg [.str d.long,.str d.short,.str d.ccy,.str d.name,.str d.zc,.str d.zf]
def Deal.cells(d:Deal)(e:Int):List AV:=[.int .i64 e,.str d.long,.str d.short,.str d.ccy,.str d.name,.str d.zc,.str d.zf]
namespace Tm
def kon(r:List UInt8):Ex:=.mk 1 r [] 0 []
def spot(n:List UInt8):Ex:=.mk 3 [] n 0 []
def fixg(n:List UInt8)(d:Int):Ex:=.mk 2 [] n d []
def opx(k:Int)(s:List Ex):Ex:=.mk k [] [] 0 s
def over(k:List UInt8)(x:Ex)(below:Bool):Ex:=opx 7 [kon [48],opx 5 (if below=true then [kon k,x] else [x,kon k])]
def pay(d:Deal)(x:Ex)(r:List UInt8):Con:=.mk 2 d.short d.long d.ccy (opx 6 [x,kon r]) 0 [] []
def at_(day:Int)(c:Con):Con:=.mk 6 [] [] [] (.mk 0 [] [] 0 []) day [] [c]
def call(d:Deal)(ch:List UInt8)(days:List Int)(c:Con):Con:=.mk 8 d.long [] ch (.mk 0 [] [] 0 []) 0 days [c]
def first(e:Int)(l:List (List UInt8)):Int:=l.foldl (fun e r=>if e=0 then errR r else e) e
def zero:Con:=.mk 0 [] [] [] (.mk 0 [] [] 0 []) 0 [] []
def fits(d:Deal):Prop:=d.long.length≤200∧d.short.length≤200∧d.ccy.length≤200∧d.name.length≤200∧d.zc.length≤2500∧d.zf.length≤2500
def res(d:Deal)(c:Con):Int:=if first 0 [d.zc,d.zf]=0 then c.errC else first 0 [d.zc,d.zf]
def out(e:Int)(c:Con):Con:=if e=0 then c else zero
def opt(d:Deal)(ch:List UInt8)(days:List Int)(put:Bool):Con:=call d ch days (pay d (over d.zc (spot d.name) put) d.zf)
theorem xg{e:Int}{l:List (List UInt8)}{i:Nat}(h:i<l.length):first e (l.take (i+1))=if first e (l.take i)=0 then errR (l.getD i []) else first e (l.take i):=by
 have:l.take (i+1)=l.take i++[l.getD i []]:=by
  rw [List.take_add_one]; simp [List.getD,h]
 unfold first
 rw [this,List.foldl_append]
 rfl
end Tm
end Go.Nov
end
section
namespace Go.Sx
open Go.Nov
variable [Stat]
theorem zd.sink{P:Go.Program}{g:Nat}{c:Ctr}(h:zd P g c):zd P g { c with sinks:=true } :=h
theorem LeL.dAt:∀ {l m:List AV} (i:Nat),LeL l m→LeA (l.getD i .undef) (m.getD i .undef)
 | [],[],_,_=>LeA.refl _
 | [],_::_,_,h=>by simp [LeL] at h
 | _::_,[],_,h=>by simp [LeL] at h
 | a::l,b::m,0,h=>by simp only [LeL] at h; exact h.1
 | a::l,b::m,i+1,h=>by
  simp only [LeL] at h
  have:=LeL.dAt i h.2
  simpa [List.getD] using this
theorem RetR.KP{ctr:Ctr}{m:Nat}{Q:AV×Heap→Prop}{rs:List AV}{h:Heap}{r:AV}{hs:Heap}(L:List Nat)(hnd:jT L=true)(hlt:(L.all fun i=>decide (i<h.length))=true)(hj:∀ j,j<m→L[j]?=some j)(hf:ctr.fresh=false)(hq:Q (r,hs))
  (he:LeA (exp2 h L (resV rs)) r) (hb:eqH (expH h L) hs) (hl:hs.length=L.length):RetR ctr m Q rs h:=
 ⟨L,hnd,fun i hi=>by have:=List.all_eq_true.1 hlt i hi; simpa using this,hj,(fun hh=>absurd hh (by rw [hf]; decide)),r,hs,he,hb,hl,hq⟩
end Go.Sx
namespace Go.Nov
open Go.Sx
variable [Go.Sx.Stat]
theorem Ex.VB{x:Ex}{k d:Int}{r n:List UInt8}{c:List AV}(h:LeL c x.cellsD):LeA (.sl 1 5 (zj (zi 5 c) 0)) (.sl 1 5 (Ex.mk k r n d [x]).deep):=by
 refine LeA.sl rfl fun j o hj ho=> ?_
 have h0:j=0:=by omega
 subst h0
 rw [Ex.zJ (Ex.mk k r n d [x]) 0 o (by show 0<1; decide) ho]
 have:=LeL.dAt o h
 simp only [zj,zi,Nat.zero_add,Nat.zero_mul]
 rcases(show o=0∨o=1∨o=2∨o=3∨o=4 by omega) with rfl | rfl | rfl | rfl | rfl<;>exact this
theorem Ex.kL{x y:Ex}{k d:Int}{r n:List UInt8}{c:List AV}(h:LeL c (x.cellsD++y.cellsD)):LeA (.sl 2 5 (zj (zi 5 c) 0)) (.sl 2 5 (Ex.mk k r n d [x,y]).deep):=by
 refine LeA.sl rfl fun j o hj ho=> ?_
 rw [Ex.zJ (Ex.mk k r n d [x,y]) j o (by show j<2; omega) ho]
 have:=LeL.dAt (j*5+o) h
 simp only [zj,zi,Nat.zero_add]
 rcases(show j=0∨j=1 by omega) with rfl | rfl<;>rcases(show o=0∨o=1∨o=2∨o=3∨o=4 by omega) with rfl | rfl | rfl | rfl | rfl<;>exact this
theorem Ex.zb5(x y:Ex):eqG 2 5 (zj (zi 5 (x.cellsD++y.cellsD)) 0) (Ex.exG [x,y]):=by
 intro j o hj ho
 simp only [zj,zi,Nat.zero_add]
 rcases(show j=0∨j=1 by omega) with rfl | rfl<;>rcases(show o=0∨o=1∨o=2∨o=3∨o=4 by omega) with rfl | rfl | rfl | rfl | rfl<;>rfl
theorem Ex.zjf{x y:Ex}{c:List AV}(h:LeL c (x.cellsD++y.cellsD)):LeA (.sl 2 5 (zj (zi 5 c) 0)) (.sl 2 5 (Ex.exG [x,y])):=by
 refine LeA.sl rfl fun j o hj ho=> ?_
 have:=LeL.dAt (j*5+o) h
 simp only [zj,zi,Nat.zero_add]
 rcases(show j=0∨j=1 by omega) with rfl | rfl<;>rcases(show o=0∨o=1∨o=2∨o=3∨o=4 by omega) with rfl | rfl | rfl | rfl | rfl<;>exact this
theorem Ex.wJ(z:Ex):LeA (.sl z.sub.length 5 (Ex.exG z.sub)) (.sl z.sub.length 5 z.deep):=LeA.sl rfl fun j o hj ho=>by rw [Ex.zJ z j o hj ho]; exact LeA.refl _
theorem Con.wJ(z:Con):LeA (.sl z.sub.length 12 (Con.conG z.sub)) (.sl z.sub.length 12 z.deep):=LeA.sl rfl fun j o hj ho=>by rw [Con.zJ z j o hj ho]; exact LeA.refl _
theorem Con.VB{e:Con}{k d:Int}{a b n:List UInt8}{x:Ex}{l:List Int}{c:List AV}(h:LeL c e.zr):LeA (.sl 1 12 (zj (zi 12 c) 0)) (.sl 1 12 (Con.mk k a b n x d l [e]).deep):=by
 refine LeA.sl rfl fun j o hj ho=> ?_
 have h0:j=0:=by omega
 subst h0
 rw [Con.zJ (Con.mk k a b n x d l [e]) 0 o (by show 0<1; decide) ho]
 have:=LeL.dAt o h
 simp only [zj,zi,Nat.zero_add,Nat.zero_mul]
 rcases(show o=0∨o=1∨o=2∨o=3∨o=4∨o=5∨o=6∨o=7∨o=8∨o=9∨o=10∨o=11 by omega) with rfl | rfl | rfl | rfl | rfl | rfl | rfl | rfl | rfl | rfl | rfl | rfl<;>exact this
end Go.Nov
end
section
set_option maxRecDepth 100000
open Go Go.Sx Go.Proofs Go.Nov
namespace Go.Proofs.Tryz
attribute [local simp] eqKV eqA eqA0 eqH eqB eqL eqL0
noncomputable def K156:List Go.Sx.Item:=[.code (Tryz.f156.body.getD .skip)]
def opC:Ctr:=ctrP false (fun p:Int×List Ex=>[.int .u8 p.1,Ex.exS p.2]) (fun _=>True) (fun _ (_:Unit)=>True) (fun p _=>(exD (Tm.opx p.1 p.2),[]))
def konC:Ctr:=ctrP false (fun r:List UInt8=>[.str r]) (fun _=>True) (fun _ (_:Unit)=>True) (fun r _=>(exD (Tm.kon r),[]))
theorem zff:zd Tryz.prog 144 konC:=by
 refine zh (fn:=Tryz.f144) (c:=Tryz.f144.body.getD .skip) rfl rfl rfl fun r hp O w0 Q hq=> ?_
 replace hq:=hq () trivial
 refine zb.run hmix zy [] 400 (T:=.leaf (.ret [.agg [.int .u8 1,.str r,.str #[].toList,.int .i64 0,.nils]] [.box [.int .u8 1,.str r,.str #[].toList,.int .i64 0,.nils]])) (by kernel_rfl) ?_
 simp only [Tree.holds,ze]
 refine RetR.out0 hq (fun h=>by cases h) ?_
 exact⟨⟨rfl,rfl⟩,rfl,rfl,⟨rfl,rfl⟩,rfl,trivial⟩
noncomputable def WS:Ctr:=inlC Tryz.prog noG 100 Tryz.f216
theorem xE:zd Tryz.prog 216 WS:=Z1 hmix zy rfl rfl
noncomputable def GTnu:Nat→Option Ctr:=fun f=>if f=83 then some (Qp) else if f=216 then some (WS) else none
theorem zap:∀ g c,GTnu g=some c→zd Tryz.prog g c:=okIf ZC (okIf xE (zn))
def SNu(l:List (List UInt8))(i:Nat):KV:=[(0,.ptr 0 0),(6,.osl 1 1 0 l.length),(7,.int .i64 (l.length:Int)),(8,.int .i64 (i:Int))]
def Qo:Ctr:=ctrT false false (fun p:Deal×Int×List (List UInt8)=>[.ptr 0 0,.osl 1 1 0 p.2.2.length]) (fun p=>[.box (p.1.cells p.2.1),.arr p.2.2.length 1 (ratG p.2.2)]) (fun p=>p.2.2.length<2^40∧∀ r∈p.2.2,r.length<2^40) (fun _ (_:Unit)=>True) (fun p _=>(.tup [],[.box (p.1.cells (Tm.first p.2.1 p.2.2)),.arr p.2.2.length 1 (ratG p.2.2)]))
theorem Zn:zd Tryz.prog 156 Qo:=by
 refine qt (fn:=Tryz.f156) (c:=Tryz.f156.body.getD .skip) rfl rfl rfl (fun h=>by cases h) fun p hp O w0 σ0 Q hl0 hq=> ?_
 obtain⟨t,e,l⟩:=p
 obtain⟨hl,hr⟩:=hp
 replace hq:=hq () trivial
 simp only at hl hr hq
 refine zb.run hmix zap [0,6,7,8] 400 (T:=.leaf (.loop (Prod.fst (lps K156 0)) (Prod.snd (lps K156 0)) [(0,.ptr 0 0),(6,.osl 1 1 0 l.length),(7,.int .i64 l.length),(8,.int .i64 0)] [.box [.int .i64 e,.str (Deal.long t),.str (Deal.short t),.str (Deal.ccy t),.str t.name,.str (Deal.zc t),.str (Deal.zf t)],.arr l.length 1 (ratG l)])) (by kernel_rfl) ?_
 simp only [Tree.holds,ze,inR,lo,hi,Int.toNat_natCast]
 show wg none Tryz.prog Tryz.f156 O 2 w0 σ0 _ _ _ _
 refine zb.loop (ι:={i:Nat // i≤l.length}) (fun i=>SNu l i.1) (fun i=>[.box (t.cells (Tm.first e (l.take i.1))),.arr l.length 1 (ratG l)]) (fun i=>l.length - i.1) ⟨0,Nat.zero_le _⟩ 0 ?_ ?_ (by kernel_rfl)
 ·exact⟨by simp [SNu],by simp [Deal.cells,Tm.first,za],by kernel_rfl,Nat.le_refl _⟩
 ·rintro⟨i,hil⟩
  obtain⟨e',he'⟩:∃ e',Tm.first e (l.take i)=e':=⟨_,rfl⟩
  simp only [he']
  refine zb.run hmix zap [0,6,7,8] 400 (T:=.ite (decide ((↑i:Int)<l.length)) (.side ((0:Int)≤i∧(↑i:Int)<l.length) (.ex (fun(x:List UInt8)=>eqL [AV.str (l.getD (0+Int.toNat (↑i:Int)) [])] [AV.str x]∧x.length<4611686018427387904) fun n=>.all (fun(r:Int)=>r=errR n) fun n=>.ite (decide (e'=(0:Int))) (.side (inR .i64 ((↑i:Int)+(1:Int))) (.leaf (.back 0 [(0,.ptr 0 0),(6,.osl 1 1 0 l.length),(7,.int .i64 l.length),(8,.int .i64 ((↑i:Int)+(1:Int)))] [.box [.int .i64 n,.str (Deal.long t),.str (Deal.short t),.str (Deal.ccy t),.str t.name,.str (Deal.zc t),.str (Deal.zf t)],.arr l.length 1 (ratG l)]))) (.side (inR .i64 ((↑i:Int)+(1:Int))) (.leaf (.back 0 [(0,.ptr 0 0),(6,.osl 1 1 0 l.length),(7,.int .i64 l.length),(8,.int .i64 ((↑i:Int)+(1:Int)))] [.box [.int .i64 e',.str (Deal.long t),.str (Deal.short t),.str (Deal.ccy t),.str t.name,.str (Deal.zc t),.str (Deal.zf t)],.arr l.length 1 (ratG l)]))))) (.leaf (.ret [] [.box [.int .i64 e',.str (Deal.long t),.str (Deal.short t),.str (Deal.ccy t),.str t.name,.str (Deal.zc t),.str (Deal.zf t)],.arr l.length 1 (ratG l)]))) (by kernel_rfl) ?_
  simp only [Tree.holds,ze,inR,lo,hi,Int.toNat_natCast]
  refine⟨fun hlt=> ?_,fun hge=> ?_⟩
  ·have hlt:i<l.length:=by have:=of_decide_eq_true hlt; omega
   have ht:=Tm.xg (e:=e) hlt
   rw [he'] at ht
   have hrl:=hr (l.getD i []) (by simp [List.getD,hlt])
   refine⟨by omega,fun _=>⟨l.getD i [],⟨by simp,by omega⟩,⟨_,rfl⟩,?_⟩⟩
   rintro _ rfl
   refine⟨fun h=>⟨by omega,fun _=> ?_⟩,fun h=>⟨by omega,fun _=> ?_⟩⟩
   ·rw [if_pos (of_decide_eq_true h)] at ht
    rw [if_pos trivial]
    exact⟨⟨i+1,hlt⟩,by show l.length - (i+1)<l.length - i; omega,by simp [SNu],by simp [Deal.cells,ht,za],by kernel_rfl,Nat.le_refl _⟩
   ·rw [if_neg (of_decide_eq_false h)] at ht
    rw [if_pos trivial]
    exact⟨⟨i+1,hlt⟩,by show l.length - (i+1)<l.length - i; omega,by simp [SNu],by simp [Deal.cells,ht,za],by kernel_rfl,Nat.le_refl _⟩
  ·have hge:i=l.length:=by have:=of_decide_eq_false hge; omega
   rw [hge,List.take_length] at he'
   rw [he'] at hq
   exact RetR.keep [0,1] rfl rfl (by show ∀ j,j<2→_; decide) rfl hq (by simp [resV,exp2,exp1,exp0,ren0,eqA2,eqL1]) (by simp [expH,expB,exp1,exp0,ren0,Deal.cells,za]) rfl
noncomputable def opI:Ctr:=inlC Tryz.prog noG 100 Tryz.f142
theorem zml:zd Tryz.prog 142 opI:=Z1 hmix zy rfl rfl
noncomputable def GPt:Nat→Option Ctr:=fun f=>if f=142 then some (opI) else if f=144 then some (konC) else none
theorem zgi:∀ g c,GPt g=some c→zd Tryz.prog g c:=okIf zml (okIf zff (zn))
def zld:Ctr:=ctrT false false (fun p:Deal×Int×Ex×Bool=>[.ptr 0 0,p.2.2.1.exA,.bool p.2.2.2]) (fun p=>[.box (p.1.cells p.2.1)]) (fun _=>True) (fun _ (_:Unit)=>True) (fun p _=>(exD (Tm.over p.1.zc p.2.2.1 p.2.2.2),[.box (p.1.cells p.2.1)]))
theorem zkp:zd Tryz.prog 152 zld:=by
 refine qt (fn:=Tryz.f152) (c:=Tryz.f152.body.getD .skip) rfl rfl rfl (fun h=>by cases h) fun p hp O w0 σ0 Q hl0 hq=> ?_
 obtain⟨t,e,x,b⟩:=p
 replace hq:=hq () trivial
 simp only at hq
 refine zb.run hmix zgi [] 400 (T:=.ex (fun(x:List UInt8)=>eqL [AV.str (Deal.zc t)] [AV.str x]∧True) fun n=>.all (fun(x:Unit)=>True) fun n_1=>.ite b (.all (fun(x:Bool)=>True) fun n_2=>.ite n_2 (.ex (fun(x:List UInt8)=>eqL [AV.str #[(48:UInt8)].toList] [AV.str x]∧True) fun n_3=>.all (fun(x:Unit)=>True) fun n_4=>.leaf (.ret [.agg [.int .u8 7,.str #[].toList,.str #[].toList,.int .i64 0,.osl 6 5 0 2]] [.box [.int .i64 e,.str (Deal.long t),.str (Deal.short t),.str (Deal.ccy t),.str t.name,.str (Deal.zc t),.str (Deal.zf t)],.box (Ex.cellsD (Tm.kon n)),.box [.int .u8 7,.str #[].toList,.str #[].toList,.int .i64 0,.osl 6 5 0 2],.box [.int .u8 x.kind,.str x.rat,.str x.name,.int .i64 x.date,.sl x.sub.length 5 (Ex.exG x.sub)],.arr 2 5 (zi 5 [.int .u8 (Ex.kind (Tm.kon n)),.str (Ex.rat (Tm.kon n)),.str (Ex.name (Tm.kon n)),.int .i64 (Ex.date (Tm.kon n)),.sl (List.length (Ex.sub (Tm.kon n))) 5 (Ex.deep (Tm.kon n)),.int .u8 x.kind,.str x.rat,.str x.name,.int .i64 x.date,.sl x.sub.length 5 (Ex.exG x.sub)]),.box [.int .u8 5,.str #[].toList,.str #[].toList,.int .i64 0,.osl 4 5 0 2],.box [.int .u8 (Ex.kind (Tm.kon n_3)),.str (Ex.rat (Tm.kon n_3)),.str (Ex.name (Tm.kon n_3)),.int .i64 (Ex.date (Tm.kon n_3)),.sl (List.length (Ex.sub (Tm.kon n_3))) 5 (Ex.deep (Tm.kon n_3)),.int .u8 5,.str #[].toList,.str #[].toList,.int .i64 0,.osl 4 5 0 2],.box [.int .u8 7,.str #[].toList,.str #[].toList,.int .i64 0,.osl 6 5 0 2]])) (.ex (fun(x:List UInt8)=>eqL [AV.str #[(48:UInt8)].toList] [AV.str x]∧True) fun n_3=>.all (fun(x:Unit)=>True) fun n_4=>.leaf (.ret [.agg [.int .u8 7,.str #[].toList,.str #[].toList,.int .i64 0,.osl 6 5 0 2]] [.box [.int .i64 e,.str (Deal.long t),.str (Deal.short t),.str (Deal.ccy t),.str t.name,.str (Deal.zc t),.str (Deal.zf t)],.box (Ex.cellsD (Tm.kon n)),.box [.int .u8 7,.str #[].toList,.str #[].toList,.int .i64 0,.osl 6 5 0 2],.box [.int .u8 x.kind,.str x.rat,.str x.name,.int .i64 x.date,.sl x.sub.length 5 (Ex.exG x.sub)],.arr 2 5 (zi 5 [.int .u8 (Ex.kind (Tm.kon n)),.str (Ex.rat (Tm.kon n)),.str (Ex.name (Tm.kon n)),.int .i64 (Ex.date (Tm.kon n)),.sl (List.length (Ex.sub (Tm.kon n))) 5 (Ex.deep (Tm.kon n)),.int .u8 x.kind,.str x.rat,.str x.name,.int .i64 x.date,.sl x.sub.length 5 (Ex.exG x.sub)]),.box [.int .u8 5,.str #[].toList,.str #[].toList,.int .i64 0,.osl 4 5 0 2],.box [.int .u8 (Ex.kind (Tm.kon n_3)),.str (Ex.rat (Tm.kon n_3)),.str (Ex.name (Tm.kon n_3)),.int .i64 (Ex.date (Tm.kon n_3)),.sl (List.length (Ex.sub (Tm.kon n_3))) 5 (Ex.deep (Tm.kon n_3)),.int .u8 5,.str #[].toList,.str #[].toList,.int .i64 0,.osl 4 5 0 2],.box [.int .u8 7,.str #[].toList,.str #[].toList,.int .i64 0,.osl 6 5 0 2]]))) (.all (fun(x:Bool)=>True) fun n_2=>.ite n_2 (.ex (fun(x:List UInt8)=>eqL [AV.str #[(48:UInt8)].toList] [AV.str x]∧True) fun n_3=>.all (fun(x:Unit)=>True) fun n_4=>.leaf (.ret [.agg [.int .u8 7,.str #[].toList,.str #[].toList,.int .i64 0,.osl 6 5 0 2]] [.box [.int .i64 e,.str (Deal.long t),.str (Deal.short t),.str (Deal.ccy t),.str t.name,.str (Deal.zc t),.str (Deal.zf t)],.box [.int .u8 x.kind,.str x.rat,.str x.name,.int .i64 x.date,.sl x.sub.length 5 (Ex.exG x.sub)],.box [.int .u8 7,.str #[].toList,.str #[].toList,.int .i64 0,.osl 6 5 0 2],.box (Ex.cellsD (Tm.kon n)),.arr 2 5 (zi 5 [.int .u8 x.kind,.str x.rat,.str x.name,.int .i64 x.date,.sl x.sub.length 5 (Ex.exG x.sub),.int .u8 (Ex.kind (Tm.kon n)),.str (Ex.rat (Tm.kon n)),.str (Ex.name (Tm.kon n)),.int .i64 (Ex.date (Tm.kon n)),.sl (List.length (Ex.sub (Tm.kon n))) 5 (Ex.deep (Tm.kon n))]),.box [.int .u8 5,.str #[].toList,.str #[].toList,.int .i64 0,.osl 4 5 0 2],.box [.int .u8 (Ex.kind (Tm.kon n_3)),.str (Ex.rat (Tm.kon n_3)),.str (Ex.name (Tm.kon n_3)),.int .i64 (Ex.date (Tm.kon n_3)),.sl (List.length (Ex.sub (Tm.kon n_3))) 5 (Ex.deep (Tm.kon n_3)),.int .u8 5,.str #[].toList,.str #[].toList,.int .i64 0,.osl 4 5 0 2],.box [.int .u8 7,.str #[].toList,.str #[].toList,.int .i64 0,.osl 6 5 0 2]])) (.ex (fun(x:List UInt8)=>eqL [AV.str #[(48:UInt8)].toList] [AV.str x]∧True) fun n_3=>.all (fun(x:Unit)=>True) fun n_4=>.leaf (.ret [.agg [.int .u8 7,.str #[].toList,.str #[].toList,.int .i64 0,.osl 6 5 0 2]] [.box [.int .i64 e,.str (Deal.long t),.str (Deal.short t),.str (Deal.ccy t),.str t.name,.str (Deal.zc t),.str (Deal.zf t)],.box [.int .u8 x.kind,.str x.rat,.str x.name,.int .i64 x.date,.sl x.sub.length 5 (Ex.exG x.sub)],.box [.int .u8 7,.str #[].toList,.str #[].toList,.int .i64 0,.osl 6 5 0 2],.box (Ex.cellsD (Tm.kon n)),.arr 2 5 (zi 5 [.int .u8 x.kind,.str x.rat,.str x.name,.int .i64 x.date,.sl x.sub.length 5 (Ex.exG x.sub),.int .u8 (Ex.kind (Tm.kon n)),.str (Ex.rat (Tm.kon n)),.str (Ex.name (Tm.kon n)),.int .i64 (Ex.date (Tm.kon n)),.sl (List.length (Ex.sub (Tm.kon n))) 5 (Ex.deep (Tm.kon n))]),.box [.int .u8 5,.str #[].toList,.str #[].toList,.int .i64 0,.osl 4 5 0 2],.box [.int .u8 (Ex.kind (Tm.kon n_3)),.str (Ex.rat (Tm.kon n_3)),.str (Ex.name (Tm.kon n_3)),.int .i64 (Ex.date (Tm.kon n_3)),.sl (List.length (Ex.sub (Tm.kon n_3))) 5 (Ex.deep (Tm.kon n_3)),.int .u8 5,.str #[].toList,.str #[].toList,.int .i64 0,.osl 4 5 0 2],.box [.int .u8 7,.str #[].toList,.str #[].toList,.int .i64 0,.osl 6 5 0 2]])))) (by kernel_rfl) ?_
 simp only [Tree.holds,ze]
 refine⟨t.zc,⟨⟨rfl,trivial⟩,trivial⟩,⟨(),trivial⟩,fun _ _=>⟨fun h=> ?_,fun h=> ?_⟩⟩
 ·subst h
  refine⟨⟨true,trivial⟩,fun _ _=>⟨fun _=> ?_,fun _=> ?_⟩⟩
  all_goals
   refine⟨[48],⟨⟨rfl,trivial⟩,trivial⟩,⟨(),trivial⟩,fun _ _=> ?_⟩
   exact RetR.KP [0] rfl rfl (by show ∀ j,j<1→_; decide) rfl hq (LeA.agg ⟨LeA.refl _,LeA.refl _,LeA.refl _,LeA.refl _,Ex.kL (x:=Tm.kon [48]) (y:=Tm.opx 5 [Tm.kon t.zc,x]) ⟨LeA.refl _,LeA.refl _,LeA.refl _,LeA.refl _,LeA.refl _,LeA.refl _,LeA.refl _,LeA.refl _,LeA.refl _,Ex.kL ⟨LeA.refl _,LeA.refl _,LeA.refl _,LeA.refl _,LeA.refl _,LeA.refl _,LeA.refl _,LeA.refl _,LeA.refl _,Ex.wJ x,trivial⟩,trivial⟩,trivial⟩) (by simp [expH,expB,exp1,exp0,ren0,Deal.cells]) rfl
 ·subst h
  refine⟨⟨true,trivial⟩,fun _ _=>⟨fun _=> ?_,fun _=> ?_⟩⟩
  all_goals
   refine⟨[48],⟨⟨rfl,trivial⟩,trivial⟩,⟨(),trivial⟩,fun _ _=> ?_⟩
   exact RetR.KP [0] rfl rfl (by show ∀ j,j<1→_; decide) rfl hq (LeA.agg ⟨LeA.refl _,LeA.refl _,LeA.refl _,LeA.refl _,Ex.kL (x:=Tm.kon [48]) (y:=Tm.opx 5 [x,Tm.kon t.zc]) ⟨LeA.refl _,LeA.refl _,LeA.refl _,LeA.refl _,LeA.refl _,LeA.refl _,LeA.refl _,LeA.refl _,LeA.refl _,Ex.kL ⟨LeA.refl _,LeA.refl _,LeA.refl _,LeA.refl _,Ex.wJ x,LeA.refl _,LeA.refl _,LeA.refl _,LeA.refl _,LeA.refl _,trivial⟩,trivial⟩,trivial⟩) (by simp [expH,expB,exp1,exp0,ren0,Deal.cells]) rfl
def payC:Ctr:=ctrT false false (fun p:Deal×Int×Ex×List UInt8=>[.ptr 0 0,p.2.2.1.exA,.str p.2.2.2]) (fun p=>[.box (p.1.cells p.2.1)]) (fun _=>True) (fun _ (_:Unit)=>True) (fun p _=>((Tm.pay p.1 p.2.2.1 p.2.2.2).conD,[.box (p.1.cells p.2.1)]))
theorem zmy:zd Tryz.prog 141 payC:=by
 refine qt (fn:=Tryz.f141) (c:=Tryz.f141.body.getD .skip) rfl rfl rfl (fun h=>by cases h) fun p hp O w0 σ0 Q hl0 hq=> ?_
 obtain⟨t,e,x,r⟩:=p
 replace hq:=hq () trivial
 simp only at hq
 refine zb.run hmix zgi [] 400 (T:=.ex (fun(x:List UInt8)=>eqL [AV.str r] [AV.str x]∧True) fun n=>.all (fun(x:Unit)=>True) fun n_1=>.leaf (.ret [.agg [.int .u8 2,.str (Deal.short t),.str (Deal.long t),.str (Deal.ccy t),.int .u8 6,.str #[].toList,.str #[].toList,.int .i64 0,.osl 3 5 0 2,.int .i64 0,.nils,.nils]] [.box [.int .i64 e,.str (Deal.long t),.str (Deal.short t),.str (Deal.ccy t),.str t.name,.str (Deal.zc t),.str (Deal.zf t)],.box [.int .u8 x.kind,.str x.rat,.str x.name,.int .i64 x.date,.sl x.sub.length 5 (Ex.exG x.sub)],.box [.int .u8 2,.str (Deal.short t),.str (Deal.long t),.str (Deal.ccy t),.int .u8 6,.str #[].toList,.str #[].toList,.int .i64 0,.osl 3 5 0 2,.int .i64 0,.nils,.nils],.arr 2 5 (zi 5 [.int .u8 x.kind,.str x.rat,.str x.name,.int .i64 x.date,.sl x.sub.length 5 (Ex.exG x.sub),.int .u8 (Ex.kind (Tm.kon n)),.str (Ex.rat (Tm.kon n)),.str (Ex.name (Tm.kon n)),.int .i64 (Ex.date (Tm.kon n)),.sl (List.length (Ex.sub (Tm.kon n))) 5 (Ex.deep (Tm.kon n))]),.box [.int .u8 6,.str #[].toList,.str #[].toList,.int .i64 0,.osl 3 5 0 2]])) (by kernel_rfl) ?_
 simp only [Tree.holds,ze]
 refine⟨r,⟨⟨rfl,trivial⟩,trivial⟩,⟨(),trivial⟩,fun _ _=> ?_⟩
 exact RetR.KP [0] rfl rfl (by show ∀ j,j<1→_; decide) rfl hq (LeA.agg ⟨LeA.refl _,LeA.refl _,LeA.refl _,LeA.refl _,LeA.refl _,LeA.refl _,LeA.refl _,LeA.refl _,Ex.zjf (x:=x) (y:=Tm.kon r) ⟨LeA.refl _,LeA.refl _,LeA.refl _,LeA.refl _,Ex.wJ x,LeA.refl _,LeA.refl _,LeA.refl _,LeA.refl _,LeA.refl _,trivial⟩,LeA.refl _,LeA.nils,LeA.nils,trivial⟩) (by simp [expH,expB,exp1,exp0,ren0,Deal.cells]) rfl
def onC:Ctr:=ctrP false (fun p:Int×Con=>[.int .i64 p.1,p.2.conA]) (fun _=>True) (fun _ (_:Unit)=>True) (fun p _=>((Tm.at_ p.1 p.2).conD,[]))
theorem zo1:zd Tryz.prog 140 onC:=by
 refine zh (fn:=Tryz.f140) (c:=Tryz.f140.body.getD .skip) rfl rfl rfl fun p hp O w0 Q hq=> ?_
 obtain⟨d,c⟩:=p
 replace hq:=hq () trivial
 simp only at hq
 refine zb.run hmix zy [] 400 (T:=.leaf (.ret [.agg [.int .u8 6,.str #[].toList,.str #[].toList,.str #[].toList,.int .u8 0,.str #[].toList,.str #[].toList,.int .i64 0,.nils,.int .i64 d,.nils,.osl 2 12 0 1]] [.box (Con.zg c),.box [.int .u8 6,.str #[].toList,.str #[].toList,.str #[].toList,.int .u8 0,.str #[].toList,.str #[].toList,.int .i64 0,.nils,.int .i64 d,.nils,.osl 2 12 0 1],.arr 1 12 (zi 12 (Con.zg c))])) (by kernel_rfl) ?_
 simp only [Tree.holds,ze]
 exact RetR.le0 hq (fun h=>by cases h) (LeA.agg ⟨LeA.refl _,LeA.refl _,LeA.refl _,LeA.refl _,LeA.refl _,LeA.refl _,LeA.refl _,LeA.refl _,LeA.nils,LeA.refl _,LeA.nils,Con.VB (e:=c) ⟨LeA.refl _,LeA.refl _,LeA.refl _,LeA.refl _,LeA.refl _,LeA.refl _,LeA.refl _,LeA.refl _,LeA.refl _,LeA.refl _,LeA.refl _,Con.wJ c,trivial⟩,trivial⟩)
end Go.Proofs.Tryz
end
section
namespace Go.Nov
open Go.Sx
namespace Tm
theorem zbr{d:Deal}{x:Ex}{r:List UInt8}(h:fits d):(pay d x r).big≤1000+x.size+x.zD+r.length:=by
 obtain⟨h1,h2,h3,h4,h5,h6⟩:=h
 simp only [pay,opx,kon,Con.big,Con.bigs,Ex.size,Ex.z1,Ex.zD,Ex.j9,List.length_nil]
 omega
theorem zhx:zero.big<100000:=by decide +kernel
end Tm
end Go.Nov
end
section
set_option maxRecDepth 100000
open Go Go.Sx Go.Proofs Go.Nov
namespace Go.Proofs.Tryz
attribute [local simp] eqKV eqA eqA0 eqH eqB eqL eqL0
def opS:Ctr:={ opC with sinks:=true }
def zlo:Ctr:={ zld with sinks:=true }
theorem zer:zd Tryz.prog 152 zlo:=zkp.sink
def payS:Ctr:={ payC with sinks:=true }
theorem za4:zd Tryz.prog 141 payS:=zmy.sink
def onS:Ctr:={ onC with sinks:=true }
theorem zfs:zd Tryz.prog 140 onS:=zo1.sink
def zlz:Ctr:={ Zc with sinks:=true }
theorem zed:zd Tryz.prog 134 zlz:=zo7.sink
noncomputable def GBe:Nat→Option Ctr:=fun f=>if f=156 then some (Qo) else none
theorem zmo:∀ g c,GBe g=some c→zd Tryz.prog g c:=okIf Zn (zn)
noncomputable def Uw:Ctr:=inlC Tryz.prog GBe 100 Tryz.f138
theorem WH:zd Tryz.prog 138 Uw:=Z1 hmix zmo rfl rfl
noncomputable def GDo1:Nat→Option Ctr:=fun f=>if f=36 then some (uz) else if f=134 then some (zlz) else if f=216 then some (WS) else none
theorem zl1:∀ g c,GDo1 g=some c→zd Tryz.prog g c:=okIf zc5 (okIf zed (okIf xE (zn)))
noncomputable def ze6:Ctr:=inlC Tryz.prog GDo1 100 Tryz.f139
theorem zeb:zd Tryz.prog 139 ze6:=Z1 hmix zl1 rfl rfl
theorem za6(a b:List UInt8):eqG 2 1 (zi 1 [.str a,.str b]) (ratG [a,b]):=by
 intro j o hj ho
 rcases(show j=0∨j=1 by omega) with rfl | rfl<;>rcases(show o=0 by omega) with rfl<;>rfl
theorem qO(e:Ex):eqA (exD e) e.exA:=by
 simp only [exD,Ex.exA,Ex.exS,eqA]
 exact⟨⟨rfl,rfl⟩,rfl,rfl,⟨rfl,rfl⟩,⟨rfl,rfl,Ex.zJ e⟩,trivial⟩
theorem Wc{d:Deal}(h:Tm.fits d):∀ r∈[d.zc,d.zf],r.length<2^40:=by
 obtain⟨h1,h2,h3,h4,h5,h6⟩:=h
 intro r hr
 rcases List.mem_cons.1 hr with rfl | hr
 ·omega
 ·rcases List.mem_cons.1 hr with rfl | hr
  ·omega
  ·cases hr
theorem zero_eq{n:Int} : eqA2 (.tup [.agg [.int .u8 0,.str [],.str [],.str [],.int .u8 0,.str [],.str [],.int .i64 0,.nils,.int .i64 0,.nils,.nils],.int .i64 n]) (.tup [Tm.zero.conD,.int .i64 n]):=by
 simp [eqA2,eqL1,Tm.zero,Con.conD,Con.outD,Con.dayS,Ex.exS,Con.kind,Con.src,Con.dst,Con.name,Con.x,Con.date,Con.days,Con.sub,Ex.kind,Ex.rat,Ex.name,Ex.date,Ex.sub]
theorem Con.zaq(e:Con):eqG 1 12 (zj (zi 12 (Con.zr e)) 0) (Con.conG [e]):=by
 intro j o hj ho
 rcases(show j=0 by omega) with rfl
 simp only [zj,zi,Nat.zero_add]
 rcases(show o=0∨o=1∨o=2∨o=3∨o=4∨o=5∨o=6∨o=7∨o=8∨o=9∨o=10∨o=11 by omega) with rfl | rfl | rfl | rfl | rfl | rfl | rfl | rfl | rfl | rfl | rfl | rfl<;>rfl
structure OptA where
 d:Deal
 ch:List UInt8
 days:List Int
 put:Bool
theorem x9{A B:Prop}(ha:A)(hb:B):(∃ _:Bool,True)∧∀ n:Bool,True→(n=true→A)∧(n=false→B):=⟨⟨true,trivial⟩,fun _ _=>⟨fun _=>ha,fun _=>hb⟩⟩
theorem za2:zd Tryz.prog 151 konC:=by
 refine zh (fn:=Tryz.f151) (c:=Tryz.f151.body.getD .skip) rfl rfl rfl fun r hp O w0 Q hq=> ?_
 replace hq:=hq () trivial
 refine zb.run hmix zy [] 400 (T:=.leaf (.ret [.agg [.int .u8 1,.str r,.str #[].toList,.int .i64 0,.nils]] [.box [.int .u8 1,.str r,.str #[].toList,.int .i64 0,.nils]])) (by kernel_rfl) ?_
 simp only [Tree.holds,ze]
 refine RetR.out0 hq (fun h=>by cases h) ?_
 exact⟨⟨rfl,rfl⟩,rfl,rfl,⟨rfl,rfl⟩,rfl,trivial⟩
def zlk:Ctr:=ctrP false (fun p:List UInt8×Int=>[.str p.1,.int .i64 p.2]) (fun _=>True) (fun _ (_:Unit)=>True) (fun p _=>(exD (Tm.fixg p.1 p.2),[]))
theorem zkl:zd Tryz.prog 163 zlk:=by
 refine zh (fn:=Tryz.f163) (c:=Tryz.f163.body.getD .skip) rfl rfl rfl fun p hp O w0 Q hq=> ?_
 obtain⟨r,d⟩:=p
 replace hq:=hq () trivial
 refine zb.run hmix zy [] 400 (T:=.leaf (.ret [.agg [.int .u8 2,.str #[].toList,.str r,.int .i64 d,.nils]] [.box [.int .u8 2,.str #[].toList,.str r,.int .i64 d,.nils]])) (by kernel_rfl) ?_
 simp only [Tree.holds,ze]
 refine RetR.out0 hq (fun h=>by cases h) ?_
 exact⟨⟨rfl,rfl⟩,rfl,rfl,⟨rfl,rfl⟩,rfl,trivial⟩
def YO:Ctr:={ ctrP false (fun p:Int×Ex×Ex=>[.int .u8 p.1,p.2.1.exA,p.2.2.exA]) (fun _=>True) (fun _ (_:Unit)=>True) (fun p _=>(exD (Tm.opx p.1 [p.2.1,p.2.2]),[])) with sinks:=true }
theorem Xy:zd Tryz.prog 149 YO:=by
 refine zd.sink (zh (fn:=Tryz.f149) (c:=Tryz.f149.body.getD .skip) rfl rfl rfl fun p hp O w0 Q hq=> ?_)
 obtain⟨k,x,y⟩:=p
 replace hq:=hq () trivial
 refine zb.run hmix zy [] 400 (T:=.leaf (.ret [.agg [.int .u8 k,.str #[].toList,.str #[].toList,.int .i64 0,.osl 3 5 0 2]] [.box [.int .u8 x.kind,.str x.rat,.str x.name,.int .i64 x.date,.sl x.sub.length 5 (Ex.exG x.sub)],.box [.int .u8 y.kind,.str y.rat,.str y.name,.int .i64 y.date,.sl y.sub.length 5 (Ex.exG y.sub)],.box [.int .u8 k,.str #[].toList,.str #[].toList,.int .i64 0,.osl 3 5 0 2],.arr 2 5 (zi 5 [.int .u8 x.kind,.str x.rat,.str x.name,.int .i64 x.date,.sl x.sub.length 5 (Ex.exG x.sub),.int .u8 y.kind,.str y.rat,.str y.name,.int .i64 y.date,.sl y.sub.length 5 (Ex.exG y.sub)])])) (by kernel_rfl) ?_
 simp only [Tree.holds,ze]
 exact RetR.le0 hq (fun h=>by cases h) (LeA.agg ⟨LeA.refl _,LeA.refl _,LeA.refl _,LeA.refl _,Ex.kL ⟨LeA.refl _,LeA.refl _,LeA.refl _,LeA.refl _,Ex.wJ x,LeA.refl _,LeA.refl _,LeA.refl _,LeA.refl _,Ex.wJ y,trivial⟩,trivial⟩)
noncomputable def GRex:Nat→Option Ctr:=fun f=>if f=151 then some (konC) else if f=149 then some (YO) else none
theorem zkk:∀ g c,GRex g=some c→zd Tryz.prog g c:=okIf za2 (okIf Xy (zn))
def zeh(a b:Ex)(c:Bool):Ex:=Tm.opx 7 [Tm.kon [48],Tm.opx 5 (if c=true then [b,a] else [a,b])]
def zac:Ctr:={ ctrP false (fun p:Ex×Ex×Bool=>[p.1.exA,p.2.1.exA,.bool p.2.2]) (fun _=>True) (fun _ (_:Unit)=>True) (fun p _=>(exD (zeh p.1 p.2.1 p.2.2),[])) with sinks:=true }
theorem zbu:zd Tryz.prog 165 zac:=by
 refine zd.sink (zh (fn:=Tryz.f165) (c:=Tryz.f165.body.getD .skip) rfl rfl rfl fun p hp O w0 Q hq=> ?_)
 obtain⟨a,b,c⟩:=p
 replace hq:=hq () trivial
 simp only at hq
 refine zb.run hmix zkk [] 400 (T:=.ite c (.ex (fun(x:List UInt8)=>eqL [AV.str #[(48:UInt8)].toList] [AV.str x]∧True) fun n=>.all (fun(x:Unit)=>True) fun n_1=>.ex (fun(x:Int×Ex×Ex)=>eqL [AV.int .u8 5,b.exA,a.exA] [AV.int .u8 x.1,x.2.1.exA,x.2.2.exA]∧True) fun n_2=>.all (fun(x:Unit)=>True) fun n_3=>.ex (fun(x:Int×Ex×Ex)=>eqL [AV.int .u8 7,(exD (Tm.kon n)),(exD (Tm.opx n_2.1 [n_2.2.1,n_2.2.2]))] [AV.int .u8 x.1,x.2.1.exA,x.2.2.exA]∧True) fun n=>.all (fun(x:Unit)=>True) fun n_4=>.leaf (.ret [(exD (Tm.opx n.1 [n.2.1,n.2.2]))] [.box [.int .u8 a.kind,.str a.rat,.str a.name,.int .i64 a.date,.sl a.sub.length 5 (Ex.exG a.sub)],.box [.int .u8 b.kind,.str b.rat,.str b.name,.int .i64 b.date,.sl b.sub.length 5 (Ex.exG b.sub)],.box (Ex.cellsD (Tm.opx n.1 [n.2.1,n.2.2]))])) (.ex (fun(x:List UInt8)=>eqL [AV.str #[(48:UInt8)].toList] [AV.str x]∧True) fun n=>.all (fun(x:Unit)=>True) fun n_1=>.ex (fun(x:Int×Ex×Ex)=>eqL [AV.int .u8 5,a.exA,b.exA] [AV.int .u8 x.1,x.2.1.exA,x.2.2.exA]∧True) fun n_2=>.all (fun(x:Unit)=>True) fun n_3=>.ex (fun(x:Int×Ex×Ex)=>eqL [AV.int .u8 7,(exD (Tm.kon n)),(exD (Tm.opx n_2.1 [n_2.2.1,n_2.2.2]))] [AV.int .u8 x.1,x.2.1.exA,x.2.2.exA]∧True) fun n=>.all (fun(x:Unit)=>True) fun n_4=>.leaf (.ret [(exD (Tm.opx n.1 [n.2.1,n.2.2]))] [.box [.int .u8 a.kind,.str a.rat,.str a.name,.int .i64 a.date,.sl a.sub.length 5 (Ex.exG a.sub)],.box [.int .u8 b.kind,.str b.rat,.str b.name,.int .i64 b.date,.sl b.sub.length 5 (Ex.exG b.sub)],.box (Ex.cellsD (Tm.opx n.1 [n.2.1,n.2.2]))]))) (by kernel_rfl) ?_
 simp only [Tree.holds,ze]
 refine⟨fun h=> ?_,fun h=> ?_⟩
 all_goals
  subst h
  refine⟨[48],⟨⟨rfl,trivial⟩,trivial⟩,⟨(),trivial⟩,fun _ _=> ?_⟩
 ·refine⟨(5,b,a),⟨⟨⟨rfl,rfl⟩,zV b,zV a,trivial⟩,trivial⟩,⟨(),trivial⟩,fun _ _=> ?_⟩
  refine⟨(7,Tm.kon [48],Tm.opx 5 [b,a]),⟨⟨⟨rfl,rfl⟩,qO _,qO _,trivial⟩,trivial⟩,⟨(),trivial⟩,fun _ _=> ?_⟩
  exact RetR.le0 hq (fun h=>by cases h) (LeA.refl _)
 ·refine⟨(5,a,b),⟨⟨⟨rfl,rfl⟩,zV a,zV b,trivial⟩,trivial⟩,⟨(),trivial⟩,fun _ _=> ?_⟩
  refine⟨(7,Tm.kon [48],Tm.opx 5 [a,b]),⟨⟨⟨rfl,rfl⟩,qO _,qO _,trivial⟩,trivial⟩,⟨(),trivial⟩,fun _ _=> ?_⟩
  exact RetR.le0 hq (fun h=>by cases h) (LeA.refl _)
def zii:Ctr:={ ctrP false (fun p:Deal×Ex=>[p.1.av,p.2.exA]) (fun _=>True) (fun _ (_:Unit)=>True) (fun p _=>((Con.mk 2 p.1.short p.1.long p.1.ccy p.2 0 [] []).conD,[])) with sinks:=true }
theorem zfv:zd Tryz.prog 148 zii:=by
 refine zd.sink (zh (fn:=Tryz.f148) (c:=Tryz.f148.body.getD .skip) rfl rfl rfl fun p hp O w0 Q hq=> ?_)
 obtain⟨d,x⟩:=p
 replace hq:=hq () trivial
 simp only at hq
 refine zb.run hmix zy [] 400 (T:=.leaf (.ret [.agg [.int .u8 2,.str (Deal.short d),.str (Deal.long d),.str (Deal.ccy d),.int .u8 x.kind,.str x.rat,.str x.name,.int .i64 x.date,.sl x.sub.length 5 (Ex.exG x.sub),.int .i64 0,.nils,.nils]] [.box [.str (Deal.long d),.str (Deal.short d),.str (Deal.ccy d),.str d.name,.str (Deal.zc d),.str (Deal.zf d)],.box [.int .u8 x.kind,.str x.rat,.str x.name,.int .i64 x.date,.sl x.sub.length 5 (Ex.exG x.sub)],.box [.int .u8 2,.str (Deal.short d),.str (Deal.long d),.str (Deal.ccy d),.int .u8 x.kind,.str x.rat,.str x.name,.int .i64 x.date,.sl x.sub.length 5 (Ex.exG x.sub),.int .i64 0,.nils,.nils]])) (by kernel_rfl) ?_
 simp only [Tree.holds,ze]
 exact RetR.le0 hq (fun h=>by cases h) (LeA.agg ⟨LeA.refl _,LeA.refl _,LeA.refl _,LeA.refl _,LeA.refl _,LeA.refl _,LeA.refl _,LeA.refl _,LeA.refl _,LeA.refl _,LeA.nils,LeA.nils,trivial⟩)
def ronC:Ctr:={ onC with sinks:=true }
theorem zm3:zd Tryz.prog 147 ronC:=by
 refine zd.sink (c:=onC) (zh (fn:=Tryz.f147) (c:=Tryz.f147.body.getD .skip) rfl rfl rfl fun p hp O w0 Q hq=> ?_)
 obtain⟨d,c⟩:=p
 replace hq:=hq () trivial
 simp only at hq
 refine zb.run hmix zy [] 400 (T:=.leaf (.ret [.agg [.int .u8 6,.str #[].toList,.str #[].toList,.str #[].toList,.int .u8 0,.str #[].toList,.str #[].toList,.int .i64 0,.nils,.int .i64 d,.nils,.osl 2 12 0 1]] [.box (Con.zg c),.box [.int .u8 6,.str #[].toList,.str #[].toList,.str #[].toList,.int .u8 0,.str #[].toList,.str #[].toList,.int .i64 0,.nils,.int .i64 d,.nils,.osl 2 12 0 1],.arr 1 12 (zi 12 (Con.zg c))])) (by kernel_rfl) ?_
 simp only [Tree.holds,ze]
 exact RetR.le0 hq (fun h=>by cases h) (LeA.agg ⟨LeA.refl _,LeA.refl _,LeA.refl _,LeA.refl _,LeA.refl _,LeA.refl _,LeA.refl _,LeA.refl _,LeA.nils,LeA.refl _,LeA.nils,Con.VB (e:=c) ⟨LeA.refl _,LeA.refl _,LeA.refl _,LeA.refl _,LeA.refl _,LeA.refl _,LeA.refl _,LeA.refl _,LeA.refl _,LeA.refl _,LeA.refl _,Con.wJ c,trivial⟩,trivial⟩)
noncomputable def GRte:Nat→Option Ctr:=fun f=>if f=116 then some (yi) else none
theorem zl4:∀ g c,GRte g=some c→zd Tryz.prog g c:=okIf xv (zn)
def ze3:Ctr:=ctrP true (fun d:Deal=>[d.av]) (fun d=>Tm.fits d) (fun d r=>r=Tm.first 0 [d.zc,d.zf]) (fun _ (r:Int)=>(.int .i64 r,[]))
theorem zio:zd Tryz.prog 145 ze3:=by
 refine zh (fn:=Tryz.f145) (c:=Tryz.f145.body.getD .skip) rfl rfl rfl fun d hp O w0 Q hq=> ?_
 replace hq:=hq _ rfl
 refine zb.run hmix zl4 [] 400 (T:=.ex (fun(x:List UInt8)=>eqL [AV.str (Deal.zc d)] [AV.str x]∧x.length<1099511627776) fun n=>.all (fun(r:Int)=>r=errR n) fun n=>.ite (decide (n=0)) (.ex (fun(x:List UInt8)=>eqL [AV.str (Deal.zf d)] [AV.str x]∧x.length<1099511627776) fun n=>.all (fun(r:Int)=>r=errR n) fun n=>.leaf (.ret [.int .i64 n] [.box [.str (Deal.long d),.str (Deal.short d),.str (Deal.ccy d),.str d.name,.str (Deal.zc d),.str (Deal.zf d)]])) (.leaf (.ret [.int .i64 n] [.box [.str (Deal.long d),.str (Deal.short d),.str (Deal.ccy d),.str d.name,.str (Deal.zc d),.str (Deal.zf d)]]))) (by kernel_rfl) ?_
 simp only [Tree.holds,ze]
 have h5:d.zc.length≤2500:=hp.2.2.2.2.1
 have h6:d.zf.length≤2500:=hp.2.2.2.2.2
 simp only [Tm.first,List.foldl_cons,List.foldl_nil,if_true] at hq
 refine⟨d.zc,⟨by simp,by omega⟩,⟨_,rfl⟩,?_⟩
 rintro _ rfl
 refine⟨fun h=> ?_,fun h=> ?_⟩
 ·rw [if_pos (of_decide_eq_true h)] at hq
  refine⟨d.zf,⟨by simp,by omega⟩,⟨_,rfl⟩,?_⟩
  rintro _ rfl
  exact RetR.scal hq rfl (by simp [resV])
 ·rw [if_neg (of_decide_eq_false h)] at hq
  exact RetR.scal hq rfl (by simp [resV])
def zg2:Ctr:={ Zc with sinks:=true }
theorem zc6:zd Tryz.prog 27 zg2:=zmc.sink
noncomputable def GRch:Nat→Option Ctr:=fun f=>if f=110 then some (uz) else if f=27 then some (zg2) else none
theorem zju:∀ g c,GRch g=some c→zd Tryz.prog g c:=okIf Uu (okIf zc6 (zn))
noncomputable def Ye:Ctr:={ inlC Tryz.prog GRch 100 Tryz.f146 with sinks:=true }
theorem KJ:zd Tryz.prog 146 Ye:=zd.sink (c:=inlC Tryz.prog GRch 100 Tryz.f146) (Z1 hmix zju rfl rfl)
end Go.Proofs.Tryz
end
section
namespace Go.Nov
open Go.Sx
structure Per where
 fix:Int
 pay:Int
 part:List UInt8
namespace Per
def nil:Per:=⟨0,0,[]⟩
def cell(p:Per):Nat→AV
 | 0=>.int .i64 p.fix
 | 1=>.int .i64 p.pay
 | 2=>.str p.part
 | _=>.undef
def av(p:Per):AV:=.agg [.int .i64 p.fix,.int .i64 p.pay,.str p.part]
end Per
def perG(l:List Per):Nat→Nat→AV:=fun j=>(l.getD j Per.nil).cell
def perS(l:List Per):AV:=.sl l.length 3 (perG l)
namespace Tm
def short(d:Deal)(l:List Per)(days:List Int):Prop:=fits d∧l.length≤60∧days.length≤200∧∀ i,i<l.length→(l.getD i Per.nil).part.length≤300
end Tm
end Go.Nov
end
section
namespace Go.Nov
structure OrdT{α:Type}(c:α→α→Int):Prop extends OrdK c where
 irr:∀ a,c a a=0
 tot:∀ a b,c a b<0∨c a b=0∨c b a<0
 sym:∀ a b,c a b=0→c b a=0
 eqt:∀ a b d,c a b=0→c b d=0→c a d=0
 eq2:∀ a b d,c a b=0→c b d<0→c a d<0
section
variable {α:Type} {c:α→α→Int} {z x y:α} (hk:OrdT c)
include hk
end
end Go.Nov
end
section
namespace Go.Nov
theorem K3{b c:Bool}{x:Nat}(h:x≠0→b=c):wr b x=wr c x:=by
 by_cases h0:x=0
 ·subst h0; rfl
 ·rw [h h0]
theorem QH(z:Int):(wz (-z)).2=(wz z).2:=by
 unfold wz wr
 rw [Int.natAbs_neg]
 split
 ·rfl
 ·split<;>rfl
end Go.Nov
end
section
namespace Go.Nov
open Go.Sx
structure Ca where
 name:List UInt8
 into:List UInt8
 date:Int
 ratio:List UInt8
 extra:List UInt8
def Ca.av(a:Ca):AV:=.agg [.str a.name,.str a.into,.int .i64 a.date,.str a.ratio,.str a.extra]
theorem zh3(z w:List UInt8×Int):(frac z w).1.length≤2003:=by
 unfold frac
 split
 ·simp
 ·unfold jz
  split
  ·simp
  ·split
   ·simp
   ·exact zdh _ _ _
theorem XN(a b:List UInt8):(mulR a b).1.length≤2003:=by
 unfold mulR
 split
 ·simp
 ·exact zh3 _ _
namespace Ca
def ok(a:Ca):Bool:=qh a.name&&(qh a.into&&(dayB a.date&&(decide (errR a.ratio=0)&&(decide (0<qv a.ratio)&&decide (errR a.extra=0)))))
def old(a:Ca)(x:List UInt8):List UInt8×Int:=if(mulR a.ratio x).2≠0 then([],(mulR a.ratio x).2) else addR (mulR a.ratio x).1 a.extra
def hit(a:Ca)(f:Fx):Bool:=decide (f.name=a.into)&&decide (a.date≤f.date)
def keep(a:Ca)(f:Fx):Bool:= !decide (f.name=a.name)||decide (f.date<a.date)
def mk'(a:Ca)(f:Fx):Fx:=⟨a.name,f.date,(a.old f.value).1⟩
def fresh(a:Ca)(l:List Fx):List Fx:=(l.filter a.hit).map a.mk'
def kept(a:Ca)(l:List Fx):List Fx:=l.filter a.keep
def bad(a:Ca)(f:Fx):Bool:=a.hit f&&decide ((a.old f.value).2≠0)
def err(a:Ca)(l:List Fx):Int:=match l.find? a.bad with
 | some f=>(a.old f.value).2
 | none=>0
def at_(a:Ca)(l:List Fx):Nat:=l.findIdx fun f=>Op.bytesLess a.name f.name
def join(a:Ca)(l m:List Fx):List Fx:=l.take (a.at_ l)++m++l.drop (a.at_ l)
def before(a:Ca)(f:List Fx)(c:List Ch):(List Fx×List Ch)×Int:=
 if a.ok=false then(([],[]),8) else if errE f c≠0 then(([],[]),errE f c) else if a.err f≠0 then(([],[]),a.err f)
 else if 1000<(a.kept f).length+(a.fresh f).length then(([],[]),22) else((a.join (a.kept f) (a.fresh f),c),0)
end Ca
end Go.Nov
end
section
namespace Go.Nov
open Go.Sx
namespace Tm
def zbe:Con:=.mk 1 [] [] [] (.mk 0 [] [] 0 []) 0 [] []
def both(a b:Con):Con:=.mk 3 [] [] [] (.mk 0 [] [] 0 []) 0 [] [a,b]
def kY:Nat→List Con→Con
 | 0,_=>zbe
 | n+1,l=>if l.length=0 then zbe else if l.length=1 then l.getD 0 Con.nil else both (kY n (l.take ((l.length+1)/2))) (kY n (l.drop ((l.length+1)/2)))
theorem kD:∀ (n m:Nat) (l:List Con),l.length≤n→l.length≤m→kY n l=kY m l
 | 0,0,l,_,_=>rfl
 | 0,m+1,l,h,_=>by
  have:l.length=0:=by omega
  simp [kY,this]
 | n+1,0,l,_,h=>by
  have:l.length=0:=by omega
  simp [kY,this]
 | n+1,m+1,l,h1,h2=>by
  simp only [kY]
  by_cases h:l.length=0
  ·rw [if_pos h,if_pos h]
  ·rw [if_neg h,if_neg h]
   by_cases g:l.length=1
   ·rw [if_pos g,if_pos g]
   ·rw [if_neg g,if_neg g,kD n m _ (by rw [List.length_take]; omega) (by rw [List.length_take]; omega),kD n m _ (by rw [List.length_drop]; omega) (by rw [List.length_drop]; omega)]
def whole(l:List Con):Con:=kY l.length l
theorem Jn(l:List Con):whole l=if l.length=0 then zbe else if l.length=1 then l.getD 0 Con.nil else both (whole (l.take ((l.length+1)/2))) (whole (l.drop ((l.length+1)/2))):=by
 unfold whole
 rw [kD l.length (l.length+1) l (Nat.le_refl _) (Nat.le_succ _)]
 simp only [kY]
 by_cases h:l.length=0
 ·rw [if_pos h,if_pos h]
 ·rw [if_neg h,if_neg h]
  by_cases g:l.length=1
  ·rw [if_pos g,if_pos g]
  ·rw [if_neg g,if_neg g,kD l.length _ _ (by rw [List.length_take]; omega) (Nat.le_refl _),kD l.length _ _ (by rw [List.length_drop]; omega) (Nat.le_refl _)]
theorem JF(l m:List Con):Con.bigs (l++m)=Con.bigs l+Con.bigs m:=by
 induction l with
 | nil=>simp [Con.bigs]
 | cons c l ih=>simp only [List.cons_append,Con.bigs,ih]; omega
theorem Z8(l m:List Con):Con.z6 (l++m)=Con.z6 l+Con.z6 m:=by
 induction l with
 | nil=>simp [Con.z6]
 | cons c l ih=>simp only [List.cons_append,Con.z6,ih]; omega
theorem xD:∀ (n:Nat) (l:List Con),l.length≤n→1≤l.length→(whole l).big≤Con.bigs l+2*(l.length - 1)∧(whole l).nodes≤Con.z6 l+(l.length - 1)
 | 0,l,h,h'=>by omega
 | n+1,l,h,h'=>by
  rw [Jn,if_neg (by omega:¬ l.length=0)]
  by_cases h1:l.length=1
  ·rw [if_pos h1]
   match l,h1 with
   | [c],_=>simp [Con.bigs,Con.z6]
  ·rw [if_neg h1]
   obtain⟨a1,a2⟩:=xD n (l.take ((l.length+1)/2)) (by rw [List.length_take]; omega) (by rw [List.length_take]; omega)
   obtain⟨b1,b2⟩:=xD n (l.drop ((l.length+1)/2)) (by rw [List.length_drop]; omega) (by rw [List.length_drop]; omega)
   have e1:=JF (l.take ((l.length+1)/2)) (l.drop ((l.length+1)/2))
   have e2:=Z8 (l.take ((l.length+1)/2)) (l.drop ((l.length+1)/2))
   rw [List.take_append_drop] at e1 e2
   rw [List.length_take] at a1 a2
   rw [List.length_drop] at b1 b2
   simp only [both,Con.big,Con.bigs,Con.nodes,Con.z6,Ex.size,Ex.z1,Ex.zD,Ex.j9,List.length_nil]
   omega
theorem vZ(l:List Con):(whole l).big≤Con.bigs l+2*l.length+2∧(whole l).nodes≤Con.z6 l+l.length+1:=by
 by_cases h:l.length=0
 ·have:l=[]:=List.length_eq_zero_iff.1 h
  subst this
  decide
 ·have:=xD l.length l (Nat.le_refl _) (by omega)
  omega
structure Leg where
 e:Int
 acc:List Con
def prod(e:Int)(a b:List UInt8):List UInt8×Int:=if e≠0 then([48],e) else mulR a b
theorem xU{e:Int}{a b:List UInt8} : (prod e a b).1.length≤2003:=by
 unfold prod
 split
 ·simp
 ·exact XN a b
def legS(d:Deal)(s:Leg)(p:Per):Leg:=
 ⟨(prod (prod s.e p.part d.zf).2 d.zc (prod s.e p.part d.zf).1).2,s.acc++[at_ p.pay (.mk 2 d.long d.short d.ccy (kon (prod (prod s.e p.part d.zf).2 d.zc (prod s.e p.part d.zf).1).1) 0 [] []),at_ p.pay (pay d (fixg d.name p.fix) (prod s.e p.part d.zf).1)]⟩
def legC(d:Deal)(fl:Bool)(s:Leg)(p:Per):Leg:=
 ⟨(prod s.e p.part d.zf).2,s.acc++[at_ p.pay (pay d (over d.zc (fixg d.name p.fix) fl) (prod s.e p.part d.zf).1)]⟩
def badT(l:List Per)(i:Nat):Bool:=(List.range i).any fun j=>decide ((l.getD j Per.nil).pay<(l.getD j Per.nil).fix)||(decide (0<j)&&decide ((l.getD j Per.nil).pay≤(l.getD (j - 1) Per.nil).pay))
theorem V5(l:List Per)(i:Nat):badT l (i+1)=(badT l i||(decide ((l.getD i Per.nil).pay<(l.getD i Per.nil).fix)||(decide (0<i)&&decide ((l.getD i Per.nil).pay≤(l.getD (i - 1) Per.nil).pay)))):=by
 unfold badT
 rw [List.range_succ,List.any_append]
 simp
def kA(l:List Per)(i:Nat):Int:=if i=0 then -9223372036854775808 else(l.getD (i - 1) Per.nil).pay
def perE(d:Deal)(l:List Per):Int:=first (first 0 [d.zc,d.zf]) (l.map Per.part)
def qb(e:Int)(l:List Per)(i:Nat):Int:=if e=0 then(if badT l i=true then 40 else 0) else e
theorem JX(l:List Per)(i:Nat):kA l (i+1)=(l.getD i Per.nil).pay:=by simp [kA]
theorem QL{e:Int}{l:List Per}{i:Nat}{b:Bool}(hb:b=(decide ((l.getD i Per.nil).pay<(l.getD i Per.nil).fix)||(decide (0<(i:Int))&&decide ((l.getD i Per.nil).pay≤kA l i)))):qb e l (i+1)=if b=true then(if qb e l i=0 then 40 else qb e l i) else qb e l i:=by
 have hs:badT l (i+1)=(badT l i||b):=by
  rw [V5,hb]
  congr 2
  by_cases h:i=0
  ·simp [h]
  ·have:kA l i=(l.getD (i - 1) Per.nil).pay:=by simp [kA,h]
   rw [this]
   simp
 unfold qb
 rw [hs]
 by_cases he:e=0
 ·cases badT l i<;>cases b<;>simp [he]
 ·cases b<;>simp [he]
def zz(f:Leg→Per→Leg)(e:Int)(l:List Per)(i:Nat):Leg:=(l.take i).foldl f ⟨e,[]⟩
theorem kS{f:Leg→Per→Leg}{e:Int}{l:List Per}{i:Nat}(h:i<l.length):zz f e l (i+1)=f (zz f e l i) (l.getD i Per.nil):=by
 have:l.take (i+1)=l.take i++[l.getD i Per.nil]:=by rw [List.take_add_one]; simp [List.getD,h]
 unfold zz
 rw [this,List.foldl_append]
 rfl
end Tm
end Go.Nov
end
section
set_option maxRecDepth 100000
open Go Go.Sx Go.Proofs Go.Nov
namespace Go.Proofs.Tryz
attribute [local simp] eqKV eqA eqA0 eqH eqB eqL eqL0
theorem Vc(l:List Con)(k:Nat)(hk:k≤l.length):eqG k 12 (zj (Con.conG l) 0) (Con.conG (l.take k)):=by
 intro j o hj ho
 simp [zj,Con.conG,List.getD,List.getElem?_take,hj]
theorem Wy(l:List Con)(k:Nat):eqG (l.length - k) 12 (zj (Con.conG l) k) (Con.conG (l.drop k)):=by
 intro j o hj ho
 simp [zj,Con.conG,List.getD,List.getElem?_drop]
theorem Con.kL{x y:Con}{k d:Int}{a b n:List UInt8}{z:Ex}{l:List Int}{c:List AV}(h:LeL c (x.zr++y.zr)):LeA (.sl 2 12 (zj (zi 12 c) 0)) (.sl 2 12 (Con.mk k a b n z d l [x,y]).deep):=by
 refine LeA.sl rfl fun j o hj ho=> ?_
 rw [Con.zJ (Con.mk k a b n z d l [x,y]) j o (by show j<2; omega) ho]
 have:=LeL.dAt (j*12+o) h
 simp only [zj,zi,Nat.zero_add]
 rcases(show j=0∨j=1 by omega) with rfl | rfl<;>rcases(show o=0∨o=1∨o=2∨o=3∨o=4∨o=5∨o=6∨o=7∨o=8∨o=9∨o=10∨o=11 by omega) with rfl | rfl | rfl | rfl | rfl | rfl | rfl | rfl | rfl | rfl | rfl | rfl<;>exact this
theorem zbi(x y:Con):LeA (.agg [.int .u8 3,.str [],.str [],.str [],.int .u8 0,.str [],.str [],.int .i64 0,.nils,.int .i64 0,.nils,.sl 2 12 (zj (zi 12 (x.zr++y.zr)) 0)]) (Tm.both x y).conD:=
 LeA.agg ⟨LeA.refl _,LeA.refl _,LeA.refl _,LeA.refl _,LeA.refl _,LeA.refl _,LeA.refl _,LeA.refl _,LeA.nils,LeA.refl _,LeA.nils,Con.kL (LeL.refl _),trivial⟩
theorem XC:LeA (.agg [.int .u8 1,.str [],.str [],.str [],.int .u8 0,.str [],.str [],.int .i64 0,.nils,.int .i64 0,.nils,.nils]) Tm.zbe.conD:=
 LeA.agg ⟨LeA.refl _,LeA.refl _,LeA.refl _,LeA.refl _,LeA.refl _,LeA.refl _,LeA.refl _,LeA.refl _,LeA.nils,LeA.refl _,LeA.nils,LeA.nils,trivial⟩
def Qf(n:Nat):Ctr:=ctrP false (fun l:List Con=>[Con.conS l]) (fun l=>l.length<n∧l.length<2^40) (fun _ (_:Unit)=>True) (fun l _=>((Tm.whole l).conD,[]))
noncomputable def GAlc(n:Nat):Nat→Option Ctr:=fun f=>if f=154 then some (Qf n) else none
theorem zl5{n:Nat}(ih:zd Tryz.prog 154 (Qf n)):∀ g c,GAlc n g=some c→zd Tryz.prog g c:=okIf ih zn
theorem zi1(n:Nat)(ih:zd Tryz.prog 154 (Qf n)):zd Tryz.prog 154 (Qf (n+1)):=by
 refine zh (fn:=Tryz.f154) (c:=Tryz.f154.body.getD .skip) rfl rfl rfl fun l hp O w0 Q hq=> ?_
 obtain⟨h1,h2⟩:=hp
 replace hq:=hq () trivial
 rw [Tm.Jn] at hq
 refine zb.run hmix (zl5 ih) [] 400 (T:=.ite (decide ((↑l.length:Int)=0)) (.leaf (.ret [.agg [.int .u8 1,.str #[].toList,.str #[].toList,.str #[].toList,.int .u8 0,.str #[].toList,.str #[].toList,.int .i64 0,.nils,.int .i64 0,.nils,.nils]] [.box [.int .u8 1,.str #[].toList,.str #[].toList,.str #[].toList,.int .u8 0,.str #[].toList,.str #[].toList,.int .i64 0,.nils,.int .i64 0,.nils,.nils]])) (.ite (decide ((↑l.length:Int)=1)) (.side ((0:Int)≤0∧(0:Int)<l.length) (.leaf (.ret [(Con.conD (l.getD 0 Con.nil))] [.box (Con.zr (l.getD 0 Con.nil))]))) (.side ((2:Int)≠0∧inR .i64 (Int.tdiv (↑l.length:Int) (2:Int))) (.side (inR .i64 ((↑l.length:Int) - Int.tdiv (↑l.length:Int) (2:Int))) (.side ((0:Int)≤l.length - Int.tdiv (↑l.length:Int) (2:Int)∧(↑l.length:Int) - Int.tdiv (↑l.length:Int) (2:Int)≤l.length - Int.tdiv (↑l.length:Int) (2:Int)∧(↑l.length:Int) - Int.tdiv (↑l.length:Int) (2:Int)≤l.length) (.side ((0:Int)≤l.length - Int.tdiv (↑l.length:Int) (2:Int)∧(↑l.length:Int) - Int.tdiv (↑l.length:Int) (2:Int)≤l.length) (.ex (fun(x:List Con)=>eqL [AV.sl (Int.toNat ((↑l.length:Int) - Int.tdiv (↑l.length:Int) (2:Int))) 12 (zj (Con.conG l) 0)] [AV.sl x.length 12 (Con.conG x)]∧x.length<n∧x.length<1099511627776) fun n_1=>.all (fun(x:Unit)=>True) fun n_2=>.ex (fun(x:List Con)=>eqL [AV.sl (l.length - Int.toNat ((↑l.length:Int) - Int.tdiv (↑l.length:Int) (2:Int))) 12 (zj (Con.conG l) (Int.toNat ((↑l.length:Int) - Int.tdiv (↑l.length:Int) (2:Int))))] [AV.sl x.length 12 (Con.conG x)]∧x.length<n∧x.length<1099511627776) fun n=>.all (fun(x:Unit)=>True) fun n_3=>.leaf (.ret [.agg [.int .u8 3,.str #[].toList,.str #[].toList,.str #[].toList,.int .u8 0,.str #[].toList,.str #[].toList,.int .i64 0,.nils,.int .i64 0,.nils,.osl 1 12 0 2]] [.box [.int .u8 3,.str #[].toList,.str #[].toList,.str #[].toList,.int .u8 0,.str #[].toList,.str #[].toList,.int .i64 0,.nils,.int .i64 0,.nils,.osl 1 12 0 2],.arr 2 12 (zi 12 [.int .u8 (Con.kind (Tm.whole n_1)),.str (Con.src (Tm.whole n_1)),.str (Con.dst (Tm.whole n_1)),.str (Con.name (Tm.whole n_1)),.int .u8 (Ex.kind (Con.x (Tm.whole n_1))),.str (Ex.rat (Con.x (Tm.whole n_1))),.str (Ex.name (Con.x (Tm.whole n_1))),.int .i64 (Ex.date (Con.x (Tm.whole n_1))),.sl (List.length (Ex.sub (Con.x (Tm.whole n_1)))) 5 (Ex.exG (Ex.sub (Con.x (Tm.whole n_1)))),.int .i64 (Con.date (Tm.whole n_1)),.sl (List.length (Con.days (Tm.whole n_1))) 1 (Con.dayG (Con.days (Tm.whole n_1))),.sl (List.length (Con.sub (Tm.whole n_1))) 12 (Con.deep (Tm.whole n_1)),.int .u8 (Con.kind (Tm.whole n)),.str (Con.src (Tm.whole n)),.str (Con.dst (Tm.whole n)),.str (Con.name (Tm.whole n)),.int .u8 (Ex.kind (Con.x (Tm.whole n))),.str (Ex.rat (Con.x (Tm.whole n))),.str (Ex.name (Con.x (Tm.whole n))),.int .i64 (Ex.date (Con.x (Tm.whole n))),.sl (List.length (Ex.sub (Con.x (Tm.whole n)))) 5 (Ex.exG (Ex.sub (Con.x (Tm.whole n)))),.int .i64 (Con.date (Tm.whole n)),.sl (List.length (Con.days (Tm.whole n))) 1 (Con.dayG (Con.days (Tm.whole n))),.sl (List.length (Con.sub (Tm.whole n))) 12 (Con.deep (Tm.whole n))])])))))))) (by kernel_rfl) ?_
 simp only [Tree.holds,ze]
 have e0:((l.length:Int)).tdiv 2=((l.length/2:Nat):Int):=rfl
 have e1:(l.length:Int) - ((l.length/2:Nat):Int)=(((l.length+1)/2:Nat):Int):=by omega
 simp only [e0,e1,Int.toNat_natCast,inR,lo,hi]
 obtain⟨k,hk⟩:∃ k,(l.length+1)/2=k:=⟨_,rfl⟩
 rw [hk] at hq ⊢
 refine⟨fun h=> ?_,fun h=>⟨fun g=> ?_,fun g=> ?_⟩⟩
 ·have h:=of_decide_eq_true h
  rw [if_pos (by omega)] at hq
  exact RetR.le0 hq (fun h=>by cases h) XC
 ·have h:=of_decide_eq_false h
  have g:=of_decide_eq_true g
  rw [if_neg (by omega),if_pos (by omega)] at hq
  exact⟨by omega,fun _=>RetR.le0 hq (fun h=>by cases h) (LeA.refl _)⟩
 ·have h:=of_decide_eq_false h
  have g:=of_decide_eq_false g
  rw [if_neg (by omega),if_neg (by omega)] at hq
  have l1:(l.take k).length=k:=by rw [List.length_take]; omega
  have l2:(l.drop k).length=l.length - k:=List.length_drop
  refine⟨⟨by omega,by omega⟩,fun _=>⟨by omega,fun _=>⟨by omega,fun _=>⟨by omega,fun _=> ?_⟩⟩⟩⟩
  refine⟨l.take k,⟨⟨⟨l1.symm,rfl,Vc l k (by omega)⟩,trivial⟩,by omega,by omega⟩,⟨(),trivial⟩,fun _ _=> ?_⟩
  refine⟨l.drop k,⟨⟨⟨l2.symm,rfl,Wy l k⟩,trivial⟩,by omega,by omega⟩,⟨(),trivial⟩,fun _ _=> ?_⟩
  exact RetR.le0 hq (fun h=>by cases h) (zbi _ _)
def J8:Ctr:=ctrP false (fun l:List Con=>[Con.conS l]) (fun l=>l.length<2^40) (fun _ (_:Unit)=>True) (fun l _=>((Tm.whole l).conD,[]))
theorem zna:zd Tryz.prog 154 J8:=zT List.length zi1
noncomputable def GWhc(n:Nat):Nat→Option Ctr:=fun f=>if f=155 then some (Qf n) else none
theorem zjd{n:Nat}(ih:zd Tryz.prog 155 (Qf n)):∀ g c,GWhc n g=some c→zd Tryz.prog g c:=okIf ih zn
theorem YI(n:Nat)(ih:zd Tryz.prog 155 (Qf n)):zd Tryz.prog 155 (Qf (n+1)):=by
 refine zh (fn:=Tryz.f155) (c:=Tryz.f155.body.getD .skip) rfl rfl rfl fun l hp O w0 Q hq=> ?_
 obtain⟨h1,h2⟩:=hp
 replace hq:=hq () trivial
 rw [Tm.Jn] at hq
 refine zb.run hmix (zjd ih) [] 400 (T:=.ite (decide ((↑l.length:Int)=0)) (.leaf (.ret [.agg [.int .u8 1,.str #[].toList,.str #[].toList,.str #[].toList,.int .u8 0,.str #[].toList,.str #[].toList,.int .i64 0,.nils,.int .i64 0,.nils,.nils]] [.box [.int .u8 1,.str #[].toList,.str #[].toList,.str #[].toList,.int .u8 0,.str #[].toList,.str #[].toList,.int .i64 0,.nils,.int .i64 0,.nils,.nils]])) (.ite (decide ((↑l.length:Int)=1)) (.side ((0:Int)≤0∧(0:Int)<l.length) (.leaf (.ret [(Con.conD (l.getD 0 Con.nil))] [.box (Con.zr (l.getD 0 Con.nil))]))) (.side (inR .i64 ((↑l.length:Int)+(1:Int))) (.side ((2:Int)≠0∧inR .i64 (Int.tdiv ((↑l.length:Int)+(1:Int)) (2:Int))) (.side ((0:Int)≤Int.tdiv ((↑l.length:Int)+(1:Int)) (2:Int)∧Int.tdiv ((↑l.length:Int)+(1:Int)) (2:Int)≤l.length) (.side ((0:Int)≤Int.tdiv ((↑l.length:Int)+(1:Int)) (2:Int)∧Int.tdiv ((↑l.length:Int)+(1:Int)) (2:Int)≤l.length) (.ex (fun(x:List Con)=>eqL [AV.sl (Int.toNat (Int.tdiv ((↑l.length:Int)+(1:Int)) (2:Int)) - 0) 12 (zj (Con.conG l) 0)] [AV.sl x.length 12 (Con.conG x)]∧x.length<n∧x.length<1099511627776) fun n_1=>.all (fun(x:Unit)=>True) fun n_2=>.ex (fun(x:List Con)=>eqL [AV.sl (l.length - Int.toNat (Int.tdiv ((↑l.length:Int)+(1:Int)) (2:Int))) 12 (zj (Con.conG l) (Int.toNat (Int.tdiv ((↑l.length:Int)+(1:Int)) (2:Int))))] [AV.sl x.length 12 (Con.conG x)]∧x.length<n∧x.length<1099511627776) fun n=>.all (fun(x:Unit)=>True) fun n_3=>.leaf (.ret [.agg [.int .u8 3,.str #[].toList,.str #[].toList,.str #[].toList,.int .u8 0,.str #[].toList,.str #[].toList,.int .i64 0,.nils,.int .i64 0,.nils,.osl 1 12 0 2]] [.box [.int .u8 3,.str #[].toList,.str #[].toList,.str #[].toList,.int .u8 0,.str #[].toList,.str #[].toList,.int .i64 0,.nils,.int .i64 0,.nils,.osl 1 12 0 2],.arr 2 12 (zi 12 [.int .u8 (Con.kind (Tm.whole n_1)),.str (Con.src (Tm.whole n_1)),.str (Con.dst (Tm.whole n_1)),.str (Con.name (Tm.whole n_1)),.int .u8 (Ex.kind (Con.x (Tm.whole n_1))),.str (Ex.rat (Con.x (Tm.whole n_1))),.str (Ex.name (Con.x (Tm.whole n_1))),.int .i64 (Ex.date (Con.x (Tm.whole n_1))),.sl (List.length (Ex.sub (Con.x (Tm.whole n_1)))) 5 (Ex.exG (Ex.sub (Con.x (Tm.whole n_1)))),.int .i64 (Con.date (Tm.whole n_1)),.sl (List.length (Con.days (Tm.whole n_1))) 1 (Con.dayG (Con.days (Tm.whole n_1))),.sl (List.length (Con.sub (Tm.whole n_1))) 12 (Con.deep (Tm.whole n_1)),.int .u8 (Con.kind (Tm.whole n)),.str (Con.src (Tm.whole n)),.str (Con.dst (Tm.whole n)),.str (Con.name (Tm.whole n)),.int .u8 (Ex.kind (Con.x (Tm.whole n))),.str (Ex.rat (Con.x (Tm.whole n))),.str (Ex.name (Con.x (Tm.whole n))),.int .i64 (Ex.date (Con.x (Tm.whole n))),.sl (List.length (Ex.sub (Con.x (Tm.whole n)))) 5 (Ex.exG (Ex.sub (Con.x (Tm.whole n)))),.int .i64 (Con.date (Tm.whole n)),.sl (List.length (Con.days (Tm.whole n))) 1 (Con.dayG (Con.days (Tm.whole n))),.sl (List.length (Con.sub (Tm.whole n))) 12 (Con.deep (Tm.whole n))])])))))))) (by kernel_rfl) ?_
 simp only [Tree.holds,ze]
 have e0:((l.length:Int)+1).tdiv 2=(((l.length+1)/2:Nat):Int):=rfl
 simp only [e0,Int.toNat_natCast,inR,lo,hi]
 obtain⟨k,hk⟩:∃ k,(l.length+1)/2=k:=⟨_,rfl⟩
 rw [hk] at hq ⊢
 refine⟨fun h=> ?_,fun h=>⟨fun g=> ?_,fun g=> ?_⟩⟩
 ·have h:=of_decide_eq_true h
  rw [if_pos (by omega)] at hq
  exact RetR.le0 hq (fun h=>by cases h) XC
 ·have h:=of_decide_eq_false h
  have g:=of_decide_eq_true g
  rw [if_neg (by omega),if_pos (by omega)] at hq
  exact⟨by omega,fun _=>RetR.le0 hq (fun h=>by cases h) (LeA.refl _)⟩
 ·have h:=of_decide_eq_false h
  have g:=of_decide_eq_false g
  rw [if_neg (by omega),if_neg (by omega)] at hq
  have l1:(l.take k).length=k:=by rw [List.length_take]; omega
  have l2:(l.drop k).length=l.length - k:=List.length_drop
  refine⟨by omega,fun _=>⟨⟨by omega,by omega⟩,fun _=>⟨by omega,fun _=>⟨by omega,fun _=> ?_⟩⟩⟩⟩
  refine⟨l.take k,⟨⟨⟨by rw [l1]; omega,rfl,Vc l k (by omega)⟩,trivial⟩,by omega,by omega⟩,⟨(),trivial⟩,fun _ _=> ?_⟩
  refine⟨l.drop k,⟨⟨⟨l2.symm,rfl,Wy l k⟩,trivial⟩,by omega,by omega⟩,⟨(),trivial⟩,fun _ _=> ?_⟩
  exact RetR.le0 hq (fun h=>by cases h) (zbi _ _)
theorem zfw:zd Tryz.prog 155 J8:=zT List.length YI
end Go.Proofs.Tryz
end
