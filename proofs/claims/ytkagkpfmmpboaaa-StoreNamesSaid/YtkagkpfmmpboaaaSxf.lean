/- Part 6 of the proof. -/
import Derived.Test.YtkagkpfmmpboaaaSxb
import Derived.Test.YtkagkpfmmpboaaaSxe
set_option linter.unusedVariables false
set_option linter.unusedSimpArgs false
set_option linter.unusedSectionVars false
section
namespace Go.Sx
variable [Stat]
section
variable {own own' O:Nat→Prop} {w w':World} {σ σ':List SE} {P:Program} {fn:Func} {Xp:List PanicEntry→Prop}
def upA0(d k:Nat):AV→AV→Prop
 | .nils,.osl i _ off n=>(d≤i∧i<d+k)∧off=0∧n=0
 | a,b=>a=b
def upL0(d k:Nat):List AV→List AV→Prop
 | [],[]=>True
 | a::l,b::m=>upA0 d k a b∧upL0 d k l m
 | _,_=>False
def upA1(d k:Nat):AV→AV→Prop
 | .agg l,.agg m=>upL0 d k l m
 | a,b=>upA0 d k a b
def upL1(d k:Nat):List AV→List AV→Prop
 | [],[]=>True
 | a::l,b::m=>upA1 d k a b∧upL1 d k l m
 | _,_=>False
def upA2(d k:Nat):AV→AV→Prop
 | .tup l,.tup m=>upL1 d k l m
 | a,b=>upA1 d k a b
def jx(k:Nat):List SE:=List.replicate k ⟨none,0⟩
theorem xm.mono{g:Nat}{vals:Array Value}{R R':Value→World→Prop}(hR:∀ v w',R v w'→R' v w')(h:xm P g vals w R):xm P g vals w R':=by
 rcases h with ⟨h1,h2⟩ | ⟨v,w',h1,h2⟩
 ·exact .inl ⟨h1,h2.mono fun e w' ⟨v,he,hv⟩=>⟨v,he,hR v w' hv⟩⟩
 ·exact .inr ⟨v,w',h1,hR v w' h2⟩
theorem qC{k i:Nat}{e:SE}(h:(σ++jx k)[i]?=some e):(i<σ.length∧σ[i]?=some e)∨(σ.length≤i∧e=⟨none,0⟩):=by
 rw [List.getElem?_append] at h
 split at h
 ·rename_i hi; exact .inl ⟨hi,h⟩
 ·rename_i hi
  right
  refine⟨by omega,?_⟩
  simp only [jx,List.getElem?_replicate] at h
  split at h
  ·cases h; rfl
  ·cases h
theorem uq{k b:Nat}(h:Mine (σ++jx k) b):Mine σ b:=by
 obtain⟨e,he,ad,h1,h2⟩:=h
 rcases List.mem_append.1 he with he | he
 ·exact⟨e,he,ad,h1,h2⟩
 ·have:=List.eq_of_mem_replicate he
  subst this
  cases h1
theorem ya{k b:Nat}(h:Own O (σ++jx k) b):Own O σ b:=by
 rcases h with h | h
 ·exact .inl h
 ·exact .inr (uq h)
theorem wF(K:List Nat)(w:World)(σ:List SE)(k:Nat):Hold K w σ w (σ++jx k):=fun i e he _=>by
 have hi:=(List.getElem?_eq_some_iff.1 he).1
 exact⟨by rw [List.getElem?_append_left hi]; exact he,fun ad _ cs el h=>⟨cs,el,h,rfl⟩⟩
theorem ZL{k:Nat}(hx:Ext own w own' w){a b:AV}{v:Value}(hu:upA0 σ.length k a b)(ha:Rep own w a σ v):Rep own' w b (σ++jx k) v:=by
 unfold upA0 at hu
 split at hu
 ·obtain⟨⟨h1,h2⟩,rfl,rfl⟩:=hu
  rename_i i sz _ _
  simp only [Rep] at ha ⊢
  refine⟨⟨none,0⟩,?_,by simp,none,0,ha,Nat.le_refl _,.inl rfl⟩
  rw [List.getElem?_append_right h1,jx,List.getElem?_replicate,if_pos (by omega)]
 ·subst hu
  exact qa (K:=[]) hx (wF [] w σ k) _ _ (jb _) ha
theorem yP{k:Nat}(hx:Ext own w own' w):∀ {l m:List AV} {vs:List Value},upL0 σ.length k l m→RepL own w l σ vs→RepL own' w m (σ++jx k) vs
 | [],[],vs,_,h=>by simpa [RepL] using h
 | a::l,b::m,vs,hl,h=>by
  simp only [RepL] at h ⊢
  obtain⟨v,r,hv,h1,h2⟩:=h
  exact⟨v,r,hv,ZL hx hl.1 h1,yP hx hl.2 h2⟩
 | [],_::_,_,hl,_=>hl.elim
 | _::_,[],_,hl,_=>hl.elim
theorem Zk{k:Nat}(hx:Ext own w own' w){a b:AV}{v:Value}(hu:upA1 σ.length k a b)(ha:Rep own w a σ v):Rep own' w b (σ++jx k) v:=by
 unfold upA1 at hu
 split at hu
 ·simp only [Rep] at ha ⊢
  obtain⟨vs,hv,hr⟩:=ha
  exact⟨vs,hv,yP hx hu hr⟩
 ·exact ZL hx hu ha
theorem kM{k:Nat}(hx:Ext own w own' w):∀ {l m:List AV} {vs:List Value},upL1 σ.length k l m→RepL own w l σ vs→RepL own' w m (σ++jx k) vs
 | [],[],vs,_,h=>by simpa [RepL] using h
 | a::l,b::m,vs,hl,h=>by
  simp only [RepL] at h ⊢
  obtain⟨v,r,hv,h1,h2⟩:=h
  exact⟨v,r,hv,Zk hx hl.1 h1,kM hx hl.2 h2⟩
 | [],_::_,_,hl,_=>hl.elim
 | _::_,[],_,hl,_=>hl.elim
theorem Z1{k:Nat}(hx:Ext own w own' w){a b:AV}{v:Value}(hu:upA2 σ.length k a b)(ha:Rep own w a σ v):Rep own' w b (σ++jx k) v:=by
 unfold upA2 at hu
 split at hu
 ·simp only [Rep] at ha ⊢
  obtain⟨vs,hv,hr⟩:=ha
  exact⟨vs,hv,kM hx hu hr⟩
 ·exact Zk hx hu ha
def vN(szs:List (Nat×(Nat→Nat→AV))):Heap:=szs.map fun s=>.arr 0 s.1 s.2
theorem U3(hx:Ext own w own' w){hs:Heap}(hh:HRep own w σ hs)(szs:List (Nat×(Nat→Nat→AV))):HRep own' w (σ++jx szs.length) (hs++vN szs):=by
 have hl:=hh.len
 refine⟨by simp [jx,vN,hl],fun i j e f a b he hf ha hb hij=> ?_,fun i e a he ha=> ?_,fun i e b he hb=> ?_⟩
 ·rcases qC he with ⟨_,he⟩ | ⟨_,rfl⟩
  ·rcases qC hf with ⟨_,hf⟩ | ⟨_,rfl⟩
   ·exact hh.inj i j e f a b he hf ha hb hij
   ·cases hb
  ·cases ha
 ·rcases qC he with ⟨_,he⟩ | ⟨_,rfl⟩
  ·exact hh.lt i e a he ha
  ·cases ha
 ·rcases qC he with ⟨hi,he⟩ | ⟨hi,rfl⟩
  ·rw [List.getElem?_append_left (by omega)] at hb
   have:=q8 (K:=[]) hx (wF [] w σ szs.length) (hh.blk i e b he hb) (fun _ _=>rfl)
   rwa [qK] at this
  ·rw [List.getElem?_append_right (by omega)] at hb
   simp only [vN,List.getElem?_map] at hb
   cases hz:szs[i - hs.length]? with
   | none=>simp [hz] at hb
   | some s=>
    simp only [hz,Option.map_some,Option.some.injEq] at hb
    subst hb
    exact⟨rfl,.inl rfl⟩
def upQ(Q:AV×Heap→Prop)(p:AV×Heap):Prop:=Q p∨∃ (r:AV) (szs:List (Nat×(Nat→Nat→AV))),upA2 p.2.length szs.length p.1 r∧Q (r,p.2++vN szs)
theorem qk.up{g:Nat}{c:Ctr}{args:List AV}{hc:Heap}{Q:AV×Heap→Prop}(h:qk P g c args hc (upQ Q)):qk P g c args hc Q:=by
 intro O w σ vals hg hh hr
 refine xm.mono ?_ (h O w σ vals hg hh hr)
 rintro v w' ⟨r,hs,σ',hq,h1,h2,h3,h4,h5,h6⟩
 rcases hq with hq | ⟨r',szs,hu,hq⟩
 ·exact⟨r,hs,σ',hq,h1,h2,h3,h4,h5,h6⟩
 ·have hx:Ext (fun b=>Own O σ' b∨(c.fresh=true∧b<w.heap.size)) w' (fun b=>Own O (σ'++jx szs.length) b∨(c.fresh=true∧b<w.heap.size)) w':=
   ⟨rfl,rfl,rfl,Nat.le_refl _,fun _ _ _=>rfl,fun b hb=>.inl (hb.imp ya id)⟩
  have hl:hs.length=σ'.length:=h2.len.symm
  refine⟨r',hs++vN szs,σ'++jx szs.length,hq,Z1 hx (by rw [← hl]; exact hu) h1,U3 hx h2 szs,⟨h3.old,fun i e ad he had=> ?_,h3.stat.own fun b hb=>ya hb⟩,by simp; omega,h5.JB (wF [] w' σ' _),?_⟩
  ·rcases qC he with ⟨_,he⟩ | ⟨_,rfl⟩
   ·exact h3.dis i e ad he had
   ·cases had
  ·exact⟨h6.os,h6.tape,h6.output,h6.size,h6.keep,fun b hb=>h6.grow b (uq hb)⟩
theorem vU{X R:Type}{fresh:Bool}{inp:X→List AV}{pre:X→Prop}{post:X→R→Prop}{out:X→R→AV×Heap}{g:Nat}{c:Code}(hf:P.funcs[g]?=some fn)(hb:fn.body=some c) (hn:(fn.name == "runtime.NumGoroutine")=false)
  (H:∀ x,pre x→∀ (O:Nat→Prop) (w0:World) (Q:AV×Heap→Prop),(∀ r,post x r→Q (out x r)) →
   zc P fn O 0 w0 [] (fun _ _ _=>False) (RetR (ctrP fresh inp pre post out) 0 (upQ Q)) [.code c] (entry fn (inp x))):zf P g (ctrP fresh inp pre post out):=by
 intro args hc Q hq _
 simp only [ctrP] at hq
 split at hq
 ·obtain⟨x,⟨h1,h4⟩,h5,h6⟩:=hq
  refine qk.le h1 (qk.up (fn_k hf hb hn (fun h=>rfl) fun O w0 σ0 hl=> ?_))
  have h0:σ0=[]:=List.length_eq_zero_iff.1 (by simpa using hl)
  subst h0
  exact H x h4 O w0 Q h6
 ·exact hq.elim
def upKV(d k:Nat):KV→KV→Prop
 | [],[]=>True
 | (i,a)::l,(j,b)::m=>i=j∧upA2 d k a b∧upKV d k l m
 | _,_=>False
def upB(d k:Nat):Blk→Blk→Prop
 | .box l,.box m=>upL1 d k l m
 | a,b=>a=b
def upH(d k:Nat):Heap→Heap→Prop
 | [],[]=>True
 | b::l,c::m=>upB d k b c∧upH d k l m
 | _,_=>False
theorem Zq{d k:Nat} : ∀ {l m:KV} (t:Nat),upKV d k l m→upA2 d k (look l t) (look m t)
 | [],[],t,_=>by simp [look,upA2,upA1,upA0]
 | (i,a)::l,(j,b)::m,t,h=>by
  obtain⟨rfl,h1,h2⟩:=h
  simp only [look]
  split
  ·exact h1
  ·exact Zq t h2
 | [],_::_,_,h=>h.elim
 | _::_,[],_,h=>h.elim
theorem WM{d k:Nat} : ∀ {l m:Heap},upH d k l m→l.length=m.length
 | [],[],_=>rfl
 | _::l,_::m,h=>by simp [WM h.2]
 | [],_::_,h=>h.elim
 | _::_,[],h=>h.elim
theorem Vy{d k:Nat} : ∀ {l m:Heap} {i:Nat} {b':Blk},upH d k l m→m[i]?=some b'→∃ b,l[i]?=some b∧upB d k b b'
 | b::l,c::m,0,b',h,h1=>by simp at h1; subst h1; exact⟨b,rfl,h.1⟩
 | b::l,c::m,i+1,b',h,h1=>by simpa using Vy h.2 (by simpa using h1)
 | [],[],_,_,_,h1=>by simp at h1
 | [],_::_,_,_,h,_=>h.elim
 | _::_,[],_,_,h,_=>h.elim
theorem Ka{k:Nat}(hx:Ext own w own' w){e:SE}{b b':Blk}(hu:upB σ.length k b b')(hb:BRep own w σ e b):BRep own' w (σ++jx k) e b':=by
 unfold upB at hu
 split at hu
 ·simp only [BRep] at hb ⊢
  obtain⟨ad,vs,el,h1,h2,h3,h4⟩:=hb
  exact⟨ad,vs,el,h1,h2,h3,kM hx hu h4⟩
 ·subst hu
  have:=q8 (K:=[]) hx (wF [] w σ k) hb (fun _ _=>rfl)
  rwa [qK] at this
variable {pin:Nat} {w0:World} {σ0:List SE} {a:Act}
theorem up_mod{kv kv2:KV}{h h2:Heap}{n:Nat}(hm:Mod O pin w0 σ0 w σ (mk n kv h) a){szs:List (Nat×(Nat→Nat→AV))}(hkv:upKV h.length szs.length kv kv2)(hh2:upH h.length szs.length h h2)(hno:(pk n kv).all zB=true)(hno2:(pk n kv2).all zB=true):Mod O pin w0 σ0 w (σ++jx szs.length) (mk n kv2 (h2++vN szs)) a:=by
 have hx:Ext (Own O σ) w (Own O (σ++jx szs.length)) w:=⟨rfl,rfl,rfl,Nat.le_refl _,fun _ _ _=>rfl,fun b hb=>.inl (ya hb)⟩
 have hl:h.length=σ.length:=hm.hp.len.symm
 rw [hl] at hkv hh2
 have hl2:=WM hh2
 refine⟨⟨hm.good.old,fun i e ad he had=> ?_,hm.good.stat.ext hx⟩,?_,by simp [hm.size,mk,pk],fun u=> ?_,hm.df.ext hx,hm.since.trans ⟨hx,fun _ _ _=>rfl,w4.of (wF [] w σ _) (by simp)⟩,hm.lim⟩
 ·rcases qC he with ⟨_,he⟩ | ⟨_,rfl⟩
  ·exact hm.good.dis i e ad he had
  ·cases had
 ·have hh:=hm.hp
  refine⟨by simp [mk,jx,vN,← hl2,hl],fun i j e f x y he hf ha hb hij=> ?_,fun i e x he ha=> ?_,fun i e b he hb=> ?_⟩
  ·rcases qC he with ⟨_,he⟩ | ⟨_,rfl⟩
   ·rcases qC hf with ⟨_,hf⟩ | ⟨_,rfl⟩
    ·exact hh.inj i j e f x y he hf ha hb hij
    ·cases hb
   ·cases ha
  ·rcases qC he with ⟨_,he⟩ | ⟨_,rfl⟩
   ·exact hh.lt i e x he ha
   ·cases ha
  ·simp only [mk] at hb
   rcases qC he with ⟨hi,he⟩ | ⟨hi,rfl⟩
   ·rw [List.getElem?_append_left (by omega)] at hb
    obtain⟨b0,h1,h3⟩:=Vy hh2 hb
    exact Ka hx h3 (hh.blk i e b0 he h1)
   ·rw [List.getElem?_append_right (by omega)] at hb
    simp only [vN,List.getElem?_map] at hb
    cases hz:szs[i - h2.length]? with
    | none=>simp [hz] at hb
    | some s=>
     simp only [hz,Option.map_some,Option.some.injEq] at hb
     subst hb
     exact⟨rfl,.inl rfl⟩
 ·have hu:=hm.tm u
  have key:∀ (kv:KV) (h:Heap),(pk n kv).all zB=true→zB ((mk n kv h).tmps.getD u .undef)=true:=by
   intro kv h hno
   by_cases hlt:u<(mk n kv h).tmps.length
   ·simp only [List.getD,List.getElem?_eq_getElem hlt,Option.getD_some]
    exact List.all_eq_true.1 hno _ (List.getElem_mem hlt)
   ·simp only [List.getD]
    rw [List.getElem?_eq_none (by omega)]; rfl
  have n1:=key kv h hno
  have n2:=key kv2 (h2++vN szs) hno2
  have hr:Rep (Own O σ) w ((mk n kv h).tmps.getD u .undef) σ (a.tmps.getD u undef):=by
   generalize (mk n kv h).tmps.getD u .undef=x at hu n1
   cases x with
   | opt _ _ _=>simp [zB] at n1
   | _=>simpa only [TRep] using hu
  have hup:upA2 σ.length szs.length ((mk n kv h).tmps.getD u .undef) ((mk n kv2 (h2++vN szs)).tmps.getD u .undef):=by
   by_cases hlt:u<n
   ·simp only [mk]
    rw [wJ hlt,wJ hlt]
    exact Zq u hkv
   ·simp [mk,pk,List.getD,hlt,upA2,upA1,upA0]
  have:=Z1 hx hup hr
  generalize (mk n kv2 (h2++vN szs)).tmps.getD u .undef=y at this n2
  cases y with
  | opt _ _ _=>simp [zB] at n2
  | _=>simpa only [TRep] using this
theorem zc.up{M:Option Nat}{Hs:Nat→KV→Heap→Prop}{R:List AV→Heap→Prop}{k:List Item}{kv:KV}{h:Heap}(szs:List (Nat×(Nat→Nat→AV)))(kv2:KV)(h2:Heap)(hkv:upKV h.length szs.length kv kv2)(hh2:upH h.length szs.length h h2)(hno:(pk fn.ntmps kv).all zB=true)(hno2:(pk fn.ntmps kv2).all zB=true)
  (H:z7 Xp M P fn O pin w0 σ0 Hs R k (mk fn.ntmps kv2 (h2++vN szs))):z7 Xp M P fn O pin w0 σ0 Hs R k (mk fn.ntmps kv h):=
 fun w σ a hm=>H w _ a (up_mod hm hkv hh2 hno hno2)
theorem RetR.outs{ctr:Ctr}{Q:AV×Heap→Prop}{rs:List AV}{h:Heap}{r:AV}{hs:Heap}(L:List Nat)(hnd:jH L=true)(hlt:(L.all fun i=>decide (i<h.length))=true)(hq:Q (r,hs))(hn:ctr.fresh=true→new2 h L (resV rs)∧∀ i∈L,newB (h.getD i .dead))
  (he:eqA2 (exp2 h L (resV rs)) r) (hb:eqH (expH h L) hs) (hl:hs.length=L.length):RetR ctr 0 Q rs h:=
 ⟨L,hnd,fun i hi=>by have:=List.all_eq_true.1 hlt i hi; simpa using this,by simp,hn,r,hs,zR he,.inl hb,hl,hq⟩
theorem RetR.keep{ctr:Ctr}{m:Nat}{Q:AV×Heap→Prop}{rs:List AV}{h:Heap}{r:AV}{hs:Heap}(L:List Nat)(hnd:jH L=true)(hlt:(L.all fun i=>decide (i<h.length))=true)(hj:∀ j,j<m→L[j]?=some j)(hf:ctr.fresh=false)(hq:Q (r,hs))
  (he:eqA2 (exp2 h L (resV rs)) r) (hb:eqH (expH h L) hs) (hl:hs.length=L.length):RetR ctr m Q rs h:=
 ⟨L,hnd,fun i hi=>by have:=List.all_eq_true.1 hlt i hi; simpa using this,hj,(fun hh=>absurd hh (by rw [hf]; decide)),r,hs,zR he,.inl hb,hl,hq⟩
end
end Go.Sx
end
section
namespace Go.Sx
variable [Stat]
section
variable {P:Program}
theorem ZH(a:AV):eqA0 a a:=by
 cases a<;>simp [eqA0]
 exact fun _ _ _ _=>rfl
theorem xJ:∀ l:List AV,eqL0 l l
 | []=>trivial
 | a::l=>⟨ZH a,xJ l⟩
theorem Xl(a:AV):eqA a a:=by
 cases a with
 | agg l=>exact xJ l
 | tup l=>exact xJ l
 | _=>unfold eqA; exact ZH _
theorem ux:∀ l:List AV,eqL l l
 | []=>trivial
 | a::l=>by
  unfold eqL
  split
  ·rename_i h1 h2; cases h1
  ·rename_i h1 h2; cases h1; cases h2; exact ux l
  ·rename_i h1 h2; cases h1; cases h2; exact⟨Xl _,ux l⟩
  ·rename_i hx; exact(hx _ _ _ _ rfl rfl).elim
end
end Go.Sx
end
section
namespace Go.Sx
variable [Stat]
section
variable {P:Program} {Γ:Nat→Option Ctr} {fn:Func}
def inlC(P:Program)(Γ:Nat→Option Ctr)(n:Nat)(fn:Func):Ctr where
 fresh:=false
 spec args hc:=match fn.body with
  | some c=>(run P Γ hc.length n [.code c] (wV fn args hc)).bind fun lf=>match lf with
   | .ret st=>(resX P st fn.results.toList).bind fun rs=>bif decide (hc.length≤st.heap.length) then .leaf (exp2 st.heap (List.range st.heap.length) (resV rs),expH st.heap (List.range st.heap.length)) else .fail
   | _=>.fail
  | none=>.fail
theorem nodup_range':∀ (n s:Nat),jH (List.range' s n)=true
 | 0,_=>rfl
 | n+1,s=>by
  rw [List.range'_succ]
  simp only [jH,Bool.and_eq_true]
  refine⟨?_,nodup_range' n (s+1)⟩
  simp [List.contains_eq_mem,List.mem_range'_1]
theorem ze(b:Blk):eqB b b:=by
 cases b with
 | dead=>trivial
 | box l=>exact ux l
 | arr n sz g=>exact⟨rfl,rfl,fun _ _ _ _=>rfl⟩
 | arrI k n f=>exact⟨rfl,fun _ _ _ _=>rfl⟩
 | arrS n f=>exact⟨rfl,fun _ _ _ _=>rfl⟩
 | map ag sh has get pe=>exact⟨⟨rfl,.inr rfl⟩,rfl,fun _=>rfl,fun _ _=>rfl⟩
theorem VK(h:Heap):eqH h h:=by
 induction h with
 | nil=>trivial
 | cons b l ih=>exact⟨ze b,ih⟩
theorem ZQ{g n:Nat}(hmix:P.follows .mixedOrders=true)(hΓ:∀ g c,Γ g=some c→zf P g c)(hf:P.funcs[g]?=some fn) (hn:(fn.name == "runtime.NumGoroutine")=false):zf P g (inlC P Γ n fn):=by
 intro args hc Q hq hfr
 simp only [inlC] at hq
 cases hb:fn.body with
 | none=>rw [hb] at hq; exact hq.elim
 | some c=>
  rw [hb] at hq
  simp only [Tree.zl] at hq
  refine we.plain (UM hf hb hn hfr fun O w0 σ0 hl=>Safe.run hmix (fun g c h=>(hΓ g c h).x) n (Tree.zK (fun lf h=> ?_) hq))
  cases lf with
  | ret st=>
   simp only [Tree.zl] at h
   refine Tree.zK (fun rs h=> ?_) h
   cases hd:decide (hc.length≤st.heap.length) with
   | false=>rw [hd] at h; exact h.elim
   | true=>
    rw [hd] at h
    have h:Q (exp2 st.heap (List.range st.heap.length) (resV rs),expH st.heap (List.range st.heap.length)):=h
    have hd:=of_decide_eq_true hd
    exact⟨List.range st.heap.length,by rw [List.range_eq_range']; exact nodup_range' _ _,fun i hi=>List.mem_range.1 hi,fun j hj=>by rw [List.getElem?_range (by omega)],fun h=>(by cases h),_,_,LeA.refl _,.inl (VK _),by simp [expH],h⟩
  | _=>exact h.elim
end
end Go.Sx
end
section
namespace Go.Nov
open Go.Sx
def cmpS(s t:List UInt8):Int:=if Op.bytesLess s t then -1 else if s=t then 0 else 1
def cmpI(x y:Int):Int:=if x<y then -1 else if y<x then 1 else 0
def orI:List Int→Int
 | []=>0
 | x::l=>if x=0 then orI l else x
structure Fx where
 name:List UInt8
 date:Int
 value:List UInt8
structure Ch where
 zb:List UInt8
 name:List UInt8
 date:Int
 first:Bool
abbrev Fx.nil:Fx:=⟨[],0,[]⟩
abbrev Ch.nil:Ch:=⟨[],[],0,false⟩
def Fx.cell(f:Fx):Nat→AV
 | 0=>.str f.name
 | 1=>.int .i64 f.date
 | 2=>.str f.value
 | _=>.undef
def Ch.cell(c:Ch):Nat→AV
 | 0=>.str c.zb
 | 1=>.str c.name
 | 2=>.int .i64 c.date
 | 3=>.bool c.first
 | _=>.undef
def fxG(l:List Fx):Nat→Nat→AV:=fun j=>(l.getD j Fx.nil).cell
def chG(l:List Ch):Nat→Nat→AV:=fun j=>(l.getD j Ch.nil).cell
def Fx.av(f:Fx):AV:=.agg [.str f.name,.int .i64 f.date,.str f.value]
def Ch.av(c:Ch):AV:=.agg [.str c.zb,.str c.name,.int .i64 c.date,.bool c.first]
def fxS(l:List Fx):AV:=.sl l.length 3 (fxG l)
def chS(l:List Ch):AV:=.sl l.length 4 (chG l)
def envA(f:List Fx)(c:List Ch):AV:=.agg [fxS f,chS c]
def cmpF(a b:Fx):Int:=if cmpS a.name b.name=0 then cmpI a.date b.date else cmpS a.name b.name
def cmpC(a b:Ch):Int:=if cmpS a.zb b.zb=0 then(if cmpS a.name b.name=0 then cmpI a.date b.date else cmpS a.name b.name) else cmpS a.zb b.zb
end Go.Nov
namespace Go.Nov
def okF(f:Fx):Bool:=zN f.name&&dayB f.date&&decide (errR f.value=0)
def okC(c:Ch):Bool:=zN c.zb&&zN c.name&&dayB c.date
def idxB{α:Type}(p:α→Bool)(l:List α):Int:=if l.findIdx p<l.length then(l.findIdx p:Int) else -1
theorem QF{α:Type}(p:α→Bool)(l:List α):decide (0≤idxB p l)=l.any p:=by
 unfold idxB
 by_cases h:l.findIdx p<l.length
 ·rw [if_pos h]
  have:l.any p=true:=by
   rw [List.any_eq_true]
   exact⟨_,List.getElem_mem h,List.findIdx_getElem (w:=h)⟩
  rw [this]; simp
 ·rw [if_neg h]
  have:l.any p=false:=by
   rw [List.any_eq_false]
   intro x hx hpx
   exact h (List.findIdx_lt_length_of_exists ⟨x,hx,hpx⟩)
  rw [this]; rfl
theorem xw{α:Type}{p:α→Bool}{l:List α}{z:α}{i:Nat}(hi:i<l.length)(h:p (l.getD i z)=true)(hb:∀ j,j<i→p (l.getD j z)=false):idxB p l=i:=by
 have hlt:l.findIdx p<l.length:=List.findIdx_lt_length_of_exists ⟨l[i],List.getElem_mem hi,by simpa [List.getD,hi] using h⟩
 have e:l.findIdx p=i:=by
  rcases Nat.lt_trichotomy (l.findIdx p) i with h1 | h1 | h1
  ·have h2:=List.findIdx_getElem (w:=hlt)
   have h3:=hb _ h1
   simp only [List.getD,List.getElem?_eq_getElem hlt,Option.getD_some] at h3
   rw [h2] at h3; cases h3
  ·exact h1
  ·have h2:=List.not_of_lt_findIdx h1
   simp only [List.getD,List.getElem?_eq_getElem hi,Option.getD_some] at h
   exact absurd h (by simpa using h2)
 unfold idxB
 rw [if_pos hlt,e]
theorem vf{α:Type}{p:α→Bool}{l:List α}{z:α}(hb:∀ j,j<l.length→p (l.getD j z)=false):idxB p l = -1:=by
 unfold idxB
 rw [if_neg]
 intro h
 have h2:=List.findIdx_getElem (w:=h)
 have h3:=hb _ h
 simp only [List.getD,List.getElem?_eq_getElem h,Option.getD_some] at h3
 rw [h2] at h3; cases h3
end Go.Nov
namespace Go.Nov
def ordB{α:Type}(c:α→α→Int)(z:α)(l:List α):Bool:=(List.range (l.length - 1)).all fun i=>decide (c (l.getD i z) (l.getD (i+1) z)<0)
theorem Jh{α:Type}{c:α→α→Int}{z:α}{l:List α}(h:∀ j,j+1<l.length→c (l.getD j z) (l.getD (j+1) z)<0):ordB c z l=true:=by
 simp only [ordB,List.all_eq_true,List.mem_range,decide_eq_true_eq]
 exact fun j hj=>h j (by omega)
theorem QB{α:Type}{c:α→α→Int}{z:α}{l:List α}{j:Nat}(hj:j+1<l.length)(h:¬ c (l.getD j z) (l.getD (j+1) z)<0):ordB c z l=false:=by
 simp only [ordB,List.all_eq_false,List.mem_range]
 exact⟨j,by omega,by simpa using h⟩
def errE(f:List Fx)(c:List Ch):Int:=if 1000<f.length∨1000<c.length then 4 else if(f.all okF&&c.all okC&&ordB cmpF Fx.nil f&&ordB cmpC Ch.nil c)=true then 0 else 8
end Go.Nov
namespace Go.Nov
theorem Uz{x y:Int} : cmpI x y<0↔x<y:=by
 unfold cmpI
 split
 ·rename_i h; exact⟨fun _=>h,fun _=>by decide⟩
 ·rename_i h
  split
  ·exact⟨fun h2=>by omega,fun h2=>absurd h2 h⟩
  ·exact⟨fun h2=>by omega,fun h2=>absurd h2 h⟩
end Go.Nov
namespace Go.Nov
theorem Fx.eq_iff{a b:Fx} : (decide (a.name=b.name)&&(decide (a.date=b.date)&&(decide (a.value=b.value)&&true)))=true↔a=b:=by
 cases a; cases b
 simp [Fx.mk.injEq]
theorem Ch.eq_iff{a b:Ch} : (decide (a.zb=b.zb)&&(decide (a.name=b.name)&&(decide (a.date=b.date)&&((a.first == b.first)&&true))))=true↔a=b:=by
 cases a; cases b
 simp [Ch.mk.injEq]
theorem QT{α:Type}{l m:List α}{z:α}(hl:l.length=m.length)(h:∀ j,j<l.length→l.getD j z=m.getD j z):l=m:=by
 apply List.ext_getElem hl
 intro j h1 h2
 have:=h j h1
 simpa [List.getD,h1,h2] using this
end Go.Nov
end
section
namespace Go.Nov
open Go.Sx
theorem Qj:∀ s:List UInt8,Op.bytesLess s s=false
 | []=>rfl
 | a::s=>by simp [Op.bytesLess,Qj s]
theorem xr:∀ {s t u:List UInt8},Op.bytesLess s t=true→Op.bytesLess t u=true→Op.bytesLess s u=true
 | s,[],u,h,_=>by cases s<;>simp [Op.bytesLess] at h
 | [],b::t,[],_,h=>by simp [Op.bytesLess] at h
 | [],b::t,c::u,_,_=>rfl
 | a::s,b::t,[],_,h=>by simp [Op.bytesLess] at h
 | a::s,b::t,c::u,h,k=>by
  simp only [Op.bytesLess,Bool.or_eq_true,Bool.and_eq_true,decide_eq_true_eq,beq_iff_eq] at h k ⊢
  rcases h with h | ⟨rfl,h⟩
  ·rcases k with k | ⟨rfl,k⟩
   ·exact .inl (UInt8.lt_trans h k)
   ·exact .inl h
  ·rcases k with k | ⟨rfl,k⟩
   ·exact .inl k
   ·exact .inr ⟨rfl,xr h k⟩
theorem WT{s t:List UInt8} : cmpS s t<0↔Op.bytesLess s t=true:=by
 unfold cmpS
 cases Op.bytesLess s t with
 | true=>simp
 | false=>by_cases h:s=t<;>simp [h]
theorem jP{s t:List UInt8} : cmpS s t=0↔s=t:=by
 unfold cmpS
 cases hb:Op.bytesLess s t with
 | true=>
  simp only [if_true]
  refine⟨fun h=>by omega,fun h=> ?_⟩
  subst h; rw [Qj] at hb; cases hb
 | false=>by_cases h:s=t<;>simp [h]
theorem WS{x y:Int} : cmpI x y=0↔x=y:=by
 unfold cmpI
 split
 ·exact⟨fun h=>by omega,fun h=>by omega⟩
 ·split
  ·exact⟨fun h=>by omega,fun h=>by omega⟩
  ·exact⟨fun _=>by omega,fun _=>rfl⟩
theorem YC{a b:Fx} : cmpF a b=0↔a.name=b.name∧a.date=b.date:=by
 unfold cmpF
 by_cases h:cmpS a.name b.name=0
 ·rw [if_pos h,WS]; exact⟨fun h2=>⟨jP.1 h,h2⟩,fun h2=>h2.2⟩
 ·rw [if_neg h]; exact⟨fun h2=>absurd h2 h,fun h2=>absurd (jP.2 h2.1) h⟩
theorem Qi{a b:Fx} : cmpF a b<0↔Op.bytesLess a.name b.name=true∨a.name=b.name∧a.date<b.date:=by
 unfold cmpF
 by_cases h:cmpS a.name b.name=0
 ·rw [if_pos h,Uz]
  have h2:=jP.1 h
  rw [h2,Qj]
  simp
 ·rw [if_neg h,WT]
  exact⟨fun h2=>.inl h2,fun h2=>h2.elim id fun h3=>absurd (jP.2 h3.1) h⟩
theorem V8{a b:Ch} : cmpC a b=0↔a.zb=b.zb∧a.name=b.name∧a.date=b.date:=by
 unfold cmpC
 by_cases h:cmpS a.zb b.zb=0
 ·rw [if_pos h]
  have h1:=jP.1 h
  by_cases h':cmpS a.name b.name=0
  ·rw [if_pos h',WS]; exact⟨fun h2=>⟨h1,jP.1 h',h2⟩,fun h2=>h2.2.2⟩
  ·rw [if_neg h']; exact⟨fun h2=>absurd h2 h',fun h2=>absurd (jP.2 h2.2.1) h'⟩
 ·rw [if_neg h]; exact⟨fun h2=>absurd h2 h,fun h2=>absurd (jP.2 h2.1) h⟩
theorem Vt{a b:Ch} : cmpC a b<0↔Op.bytesLess a.zb b.zb=true∨a.zb=b.zb∧(Op.bytesLess a.name b.name=true∨a.name=b.name∧a.date<b.date):=by
 unfold cmpC
 by_cases h:cmpS a.zb b.zb=0
 ·rw [if_pos h]
  have h1:=jP.1 h
  rw [h1,Qj]
  have:=@Qi ⟨a.name,a.date,[]⟩ ⟨b.name,b.date,[]⟩
  simp only [cmpF] at this
  simpa using this
 ·rw [if_neg h,WT]
  exact⟨fun h2=>.inl h2,fun h2=>h2.elim id fun h3=>absurd (jP.2 h3.1) h⟩
structure OrdK{α:Type}(c:α→α→Int):Prop where
 lt:∀ a b d,c a b<0→c b d<0→c a d<0
 eq:∀ a b d,c a b<0→c b d=0→c a d<0
theorem Xo:OrdK cmpF where
 lt a b d h k:=by
  rw [Qi] at *
  rcases h with h | ⟨h1,h2⟩
  ·rcases k with k | ⟨k1,k2⟩
   ·exact .inl (xr h k)
   ·rw [k1] at h; exact .inl h
  ·rcases k with k | ⟨k1,k2⟩
   ·rw [← h1] at k; exact .inl k
   ·exact .inr ⟨h1.trans k1,by omega⟩
 eq a b d h k:=by
  rw [YC] at k
  rw [Qi] at *
  rw [k.1,k.2] at h
  exact h
theorem Y2:OrdK cmpC where
 lt a b d h k:=by
  rw [Vt] at *
  rcases h with h | ⟨h0,h⟩
  ·rcases k with k | ⟨k0,k⟩
   ·exact .inl (xr h k)
   ·rw [k0] at h; exact .inl h
  ·rcases k with k | ⟨k0,k⟩
   ·rw [← h0] at k; exact .inl k
   ·refine .inr ⟨h0.trans k0,?_⟩
    rcases h with h | ⟨h1,h2⟩
    ·rcases k with k | ⟨k1,k2⟩
     ·exact .inl (xr h k)
     ·rw [k1] at h; exact .inl h
    ·rcases k with k | ⟨k1,k2⟩
     ·rw [← h1] at k; exact .inl k
     ·exact .inr ⟨h1.trans k1,by omega⟩
 eq a b d h k:=by
  rw [V8] at k
  rw [Vt] at *
  rw [k.1,k.2.1,k.2.2] at h
  exact h
section
variable {α:Type} {c:α→α→Int} {z x:α}
def z8(c:α→α→Int)(x:α):List α→List α
 | []=>[x]
 | o::l=>if c o x<0 then o::z8 c x l else if c o x=0 then x::l else x::o::l
theorem Qn(hk:OrdK c):∀ {l:List α},ordB c z l=true→l.Pairwise fun a b=>c a b<0
 | [],_=>.nil
 | [a],_=>by simp
 | a::b::l,h=>by
  have h1:c a b<0:=by
   simp only [ordB,List.all_eq_true,List.mem_range,decide_eq_true_eq] at h
   have:=h 0 (by simp)
   simpa using this
  have h2:ordB c z (b::l)=true:=by
   simp only [ordB,List.all_eq_true,List.mem_range,decide_eq_true_eq] at h ⊢
   intro i hi
   have:=h (i+1) (by simp at hi ⊢; omega)
   simpa using this
  have ih:=Qn hk h2
  refine List.pairwise_cons.2 ⟨fun y hy=> ?_,ih⟩
  rcases List.mem_cons.1 hy with rfl | hy
  ·exact h1
  ·exact hk.lt _ _ _ h1 (List.rel_of_pairwise_cons ih hy)
theorem xY(hk:OrdK c):∀ {l:List α} {k:Nat},l.Pairwise (fun a b=>c a b<0)→k<l.length→c (l.getD k z) x=0→l.set k x=z8 c x l
 | [],k,_,h,_=>by simp at h
 | o::l,0,_,_,h=>by
  simp only [List.getD_cons_zero] at h
  simp only [List.set_cons_zero,z8]
  rw [if_neg (by omega),if_pos h]
 | o::l,k+1,hp,hl,h=>by
  simp only [List.getD_cons_succ] at h
  have hl:k<l.length:=by simpa using hl
  have ih:=xY hk (List.pairwise_cons.1 hp).2 hl h
  have ho:c o (l.getD k z)<0:=List.rel_of_pairwise_cons hp (by simp [List.getD,hl])
  simp only [List.set_cons_succ,z8]
  rw [if_pos (hk.eq _ _ _ ho h),ih]
theorem xG:∀ {l:List α} {i:Nat},(∀ j,j<l.length→c (l.getD j z) x≠0)→(∀ j,j<i→c (l.getD j z) x<0)→i≤l.length→(i<l.length→¬ c (l.getD i z) x<0)→l.take i++x::l.drop i=z8 c x l
 | [],i,_,_,hi,_=>by
  have:i=0:=by simpa using hi
  subst this; rfl
 | o::l,0,h0,_,_,h=>by
  have h1:=h (by simp)
  have h2:=h0 0 (by simp)
  simp only [List.getD_cons_zero] at h1 h2
  simp only [z8]
  rw [if_neg h1,if_neg h2]; rfl
 | o::l,i+1,h0,hb,hi,h=>by
  have h1:=hb 0 (by omega)
  simp only [List.getD_cons_zero] at h1
  have ih:=xG (l:=l) (i:=i) (fun j hj=>by have:=h0 (j+1) (by simp; omega); simpa using this) (fun j hj=>by have:=hb (j+1) (by omega); simpa using this) (by simpa using hi) (fun hlt=>by have:=h (by simp; omega); simpa using this)
  simp only [z8]
  rw [if_pos h1,← ih]; rfl
end
theorem WD{f:List Fx}{c:List Ch} : errE f c=0↔¬ (1000<f.length∨1000<c.length)∧f.all okF=true∧c.all okC=true∧ordB cmpF Fx.nil f=true∧ordB cmpC Ch.nil c=true:=by
 unfold errE
 by_cases hb:1000<f.length∨1000<c.length
 ·rw [if_pos hb]; simp [hb]
 ·rw [if_neg hb]
  by_cases h:(f.all okF&&c.all okC&&ordB cmpF Fx.nil f&&ordB cmpC Ch.nil c)=true
  ·rw [if_pos h]
   simp only [Bool.and_eq_true] at h
   exact⟨fun _=>⟨hb,h.1.1.1,h.1.1.2,h.1.2,h.2⟩,fun _=>rfl⟩
  ·rw [if_neg h]
   refine⟨fun h2=>by omega,fun h2=>absurd ?_ h⟩
   simp [h2.2.1,h2.2.2.1,h2.2.2.2.1,h2.2.2.2.2]
def xt(l:List Ch)(p n:List UInt8)(d:Int):Bool:=match l.find? fun x=>decide (x.zb=p)&&(decide (x.name=n)&&decide (x.date=d)) with
 | some x=>x.first
 | none=>false
theorem Un{α:Type}{p:α→Bool}{l:List α}{z:α}{i:Nat}(hi:i<l.length)(h:p (l.getD i z)=true)(hb:∀ j,j<i→p (l.getD j z)=false):l.find? p=some (l.getD i z):=by
 induction l generalizing i with
 | nil=>simp at hi
 | cons a l ih=>
  cases i with
  | zero=>simp only [List.getD_cons_zero] at h ⊢; simp [h]
  | succ i=>
   have h0:=hb 0 (by omega)
   simp only [List.getD_cons_zero,List.getD_cons_succ] at h h0 ⊢
   rw [List.find?_cons,h0]
   exact ih (by simpa using hi) h fun j hj=>by have:=hb (j+1) (by omega); simpa using this
def putF(f:List Fx)(c:List Ch)(x:Fx):(List Fx×List Ch)×Int:=
 if errE f c≠0 then(([],[]),errE f c) else if(zN x.name&&dayB x.date)=false then(([],[]),2) else if errR x.value≠0 then(([],[]),errR x.value)
 else if 1000<(z8 cmpF x f).length then(([],[]),22) else((z8 cmpF x f,c),0)
def putC(f:List Fx)(c:List Ch)(x:Ch):(List Fx×List Ch)×Int:=
 if errE f c≠0 then(([],[]),errE f c) else if okC x=false then(([],[]),2)
 else if 1000<(z8 cmpC x c).length then(([],[]),22) else((f,z8 cmpC x c),0)
end Go.Nov
end
section
namespace Go.Nov
open Go.Sx
theorem Fx.xK(x:Fx){j o:Nat}(hj:j<1)(ho:o<3):zg (zh 3 [.str x.name,.int .i64 x.date,.str x.value]) 0 j o=x.cell o:=by
 have:j=0:=by omega
 subst this
 rcases o with _ | _ | _ | o
 ·rfl
 ·rfl
 ·rfl
 ·omega
theorem Ch.xK(x:Ch){j o:Nat}(hj:j<1)(ho:o<4):zg (zh 4 [.str x.zb,.str x.name,.int .i64 x.date,.bool x.first]) 0 j o=x.cell o:=by
 have:j=0:=by omega
 subst this
 rcases o with _ | _ | _ | _ | o
 ·rfl
 ·rfl
 ·rfl
 ·rfl
 ·omega
theorem ZE{α:Type}(l:List α)(x z:α)(j:Nat):(l++[x]).getD j z=if j<l.length then l.getD j z else if j=l.length then x else z:=by
 simp only [List.getD,List.getElem?_append]
 split
 ·rfl
 ·rename_i h
  split
  ·rename_i h2; subst h2; simp
  ·rename_i h2
   have:j - l.length≠0:=by omega
   obtain⟨k,hk⟩:=Nat.exists_eq_succ_of_ne_zero this
   rw [hk]; simp
theorem zar{l:List Fx}{x:Fx}{k:Nat}(hk:k<l.length):eqG l.length 3 (updG (fxG l) k 0 [.str x.name,.int .i64 x.date,.str x.value]) (fxG (l.set k x)):=by
 intro j o hj ho
 simp only [updG,fxG]
 by_cases h:j=k
 ·subst h
  rw [if_pos ⟨rfl,Nat.zero_le _,by simpa using ho⟩]
  have:(l.set j x).getD j Fx.nil=x:=by simp [List.getD,hk]
  rw [this]
  rcases o with _ | _ | _ | o
  ·rfl
  ·rfl
  ·rfl
  ·omega
 ·rw [if_neg (fun h2=>h h2.1)]
  have:(l.set k x).getD j Fx.nil=l.getD j Fx.nil:=by simp [List.getD,List.getElem?_set,Ne.symm h]
  rw [this]
theorem zan{l:List Ch}{x:Ch}{k:Nat}(hk:k<l.length):eqG l.length 4 (updG (chG l) k 0 [.str x.zb,.str x.name,.int .i64 x.date,.bool x.first]) (chG (l.set k x)):=by
 intro j o hj ho
 simp only [updG,chG]
 by_cases h:j=k
 ·subst h
  rw [if_pos ⟨rfl,Nat.zero_le _,by simpa using ho⟩]
  have:(l.set j x).getD j Ch.nil=x:=by simp [List.getD,hk]
  rw [this]
  rcases o with _ | _ | _ | _ | o
  ·rfl
  ·rfl
  ·rfl
  ·rfl
  ·omega
 ·rw [if_neg (fun h2=>h h2.1)]
  have:(l.set k x).getD j Ch.nil=l.getD j Ch.nil:=by simp [List.getD,List.getElem?_set,Ne.symm h]
  rw [this]
theorem xg(n sz:Nat)(g g':Nat→Nat→AV):eqG (0+n) sz (appG 0 g g') g':=by
 intro j o _ _
 simp [appG]
theorem k8(n sz:Nat)(g:Nat→Nat→AV):eqG n sz (zg g 0) g:=by
 intro j o _ _
 simp [zg]
theorem WO(l:List Fx)(j o:Nat)(ho:o<3):zT (fxG l j o)=true:=by
 simp only [fxG]
 rcases o with _ | _ | _ | o
 ·rfl
 ·rfl
 ·rfl
 ·omega
theorem WX(l:List Ch)(j o:Nat)(ho:o<4):zT (chG l j o)=true:=by
 simp only [chG]
 rcases o with _ | _ | _ | _ | o
 ·rfl
 ·rfl
 ·rfl
 ·rfl
 ·omega
theorem xN{α:Type}{p:α→Bool}(z:α)(l:List α):idxB p l<l.length∧l.find? p=if 0≤idxB p l then some (l.getD (idxB p l).toNat z) else none:=by
 unfold idxB
 by_cases h:l.findIdx p<l.length
 ·rw [if_pos h]
  refine⟨by omega,?_⟩
  rw [if_pos (by omega),Int.toNat_natCast]
  refine Un h ?_ fun j hj=> ?_
  ·have:=List.findIdx_getElem (w:=h)
   simpa [List.getD,h] using this
  ·have:=List.not_of_lt_findIdx hj
   have hjl:j<l.length:=by omega
   simpa [List.getD,hjl] using this
 ·rw [if_neg h]
  refine⟨by omega,?_⟩
  rw [if_neg (by omega),List.find?_eq_none]
  intro x hx hpx
  exact h (List.findIdx_lt_length_of_exists ⟨x,hx,hpx⟩)
theorem Wl(c:List Ch)(a v:List UInt8)(d:Int):idxB (fun x=>decide (cmpC x ⟨a,v,d,false⟩=0)) c<c.length∧xt c a v d=if 0≤idxB (fun x=>decide (cmpC x ⟨a,v,d,false⟩=0)) c then(c.getD (idxB (fun x=>decide (cmpC x ⟨a,v,d,false⟩=0)) c).toNat Ch.nil).first else false:=by
 obtain⟨h1,h2⟩:=xN (p:=fun x=>decide (cmpC x ⟨a,v,d,false⟩=0)) Ch.nil c
 refine⟨h1,?_⟩
 have e:(fun x:Ch=>decide (x.zb=a)&&(decide (x.name=v)&&decide (x.date=d)))=fun x=>decide (cmpC x ⟨a,v,d,false⟩=0):=by
  funext x
  rw [← Bool.decide_and,← Bool.decide_and]; exact decide_eq_decide.2 (@V8 x ⟨a,v,d,false⟩).symm
 unfold xt
 rw [e,h2]
 by_cases h:0≤idxB (fun x=>decide (cmpC x ⟨a,v,d,false⟩=0)) c
 ·rw [if_pos h,if_pos h]
 ·rw [if_neg h,if_neg h]
structure Ev where
 kind:Int
 id:Int
 entry:Int
 target:Int
 date:Int
 zb:List UInt8
 name:List UInt8
 value:List UInt8
 first:Bool
deriving DecidableEq
abbrev Ev.nil:Ev:=⟨0,0,0,0,0,[],[],[],false⟩
def Ev.cell(e:Ev):Nat→AV
 | 0=>.int .u8 e.kind
 | 1=>.int .i64 e.id
 | 2=>.int .i64 e.entry
 | 3=>.int .i64 e.target
 | 4=>.int .i64 e.date
 | 5=>.str e.zb
 | 6=>.str e.name
 | 7=>.str e.value
 | 8=>.bool e.first
 | _=>.undef
def evG(l:List Ev):Nat→Nat→AV:=fun j=>(l.getD j Ev.nil).cell
def Ev.av(e:Ev):AV:=.agg [.int .u8 e.kind,.int .i64 e.id,.int .i64 e.entry,.int .i64 e.target,.int .i64 e.date,.str e.zb,.str e.name,.str e.value,.bool e.first]
def evS(l:List Ev):AV:=.sl l.length 9 (evG l)
theorem WN(l:List Ev)(j o:Nat)(ho:o<9):zT (evG l j o)=true:=by
 unfold evG
 rcases(show o=0∨o=1∨o=2∨o=3∨o=4∨o=5∨o=6∨o=7∨o=8 by omega) with rfl | rfl | rfl | rfl | rfl | rfl | rfl | rfl | rfl<;>rfl
theorem wQ{l:List Ev}{x:Ev}{g:Nat→Nat→AV}(hg:eqG l.length 9 g (evG l)):eqG (l.length+1) 9 (appG l.length g (zg (zh 9 [.int .u8 x.kind,.int .i64 x.id,.int .i64 x.entry,.int .i64 x.target,.int .i64 x.date,.str x.zb,.str x.name,.str x.value,.bool x.first]) 0)) (evG (l++[x])):=by
 intro j p hj hp
 simp only [appG,zg,zh]
 by_cases q:j<l.length
 ·rw [if_pos q,hg j p q hp]
  simp only [evG,List.getD,List.getElem?_append_left q]
 ·rw [if_neg q]
  obtain rfl:j=l.length:=by omega
  have e:(l++[x]).getD l.length Ev.nil=x:=by simp [List.getD]
  unfold evG
  rw [e]
  rcases(show p=0∨p=1∨p=2∨p=3∨p=4∨p=5∨p=6∨p=7∨p=8 by omega) with rfl | rfl | rfl | rfl | rfl | rfl | rfl | rfl | rfl<;>simp [Ev.cell]
def inB(n a b:Int):Bool:=decide (a≤n)&&decide (n≤b)
def zp(e:Ev):Prop:=e.zb.length<2^40∧e.name.length<2^40∧e.value.length<2^40
def Ev.valid(e:Ev):Bool:=
 inB e.id 1 1073741824&&inB e.entry 0 1125899906842624 &&
 (if e.kind=1 then zN e.name&&dayB e.date&&decide (errR e.value=0)&&decide (e.target=0)&&decide (e.zb=[]) && !e.first
  else if e.kind=2 then zN e.zb&&zN e.name&&dayB e.date&&decide (e.target=0)&&decide (e.value=[])
  else inB e.target 1 (e.id - 1)&&decide (e.date=0)&&decide (e.zb=[])&&decide (e.name=[]) &&
   (if e.kind=3 then decide (errR e.value=0) && !e.first
   else if e.kind=4 then decide (e.value=[])
   else decide (e.kind=5)&&decide (e.value=[]) && !e.first))
def Ev.key(e:Ev):List Sc:=[.inl e.kind,.inr e.zb,.inr e.name,.inl e.date]
def Ev.ji(k:List Sc)(x:Ev):Bool:=decide (x.kind≠0)&&decide (x.key=k)
def zr(l:List Ev):List Sc→Bool:=fun k=>l.any (Ev.ji k)
def z2(l:List Ev):List Sc→AV:=fun k=>.int .i64 ((l.findIdx (Ev.ji k):Nat)+1:Int)
structure SS where
 evs:List Ev
 lat:List Ev
def SS.fact(s:SS)(e:Ev):Ev:=s.lat.getD (e.target.toNat - 1) Ev.nil
def SS.errC(s:SS)(e:Ev):Int:=
 if(s.lat.length:Int)<e.target∨(s.fact e).kind=0 then 6
 else if e.kind=5 then 0
 else if decide (e.kind=3)≠decide ((s.fact e).kind=1) then 32 else 0
def SS.fixed(s:SS)(e:Ev):Ev:=if e.kind=5 then Ev.nil else { s.fact e with value:=e.value,first:=e.first }
def SS.cor(s:SS)(e:Ev):SS:=if s.errC e=0 then⟨s.evs,s.lat.set (e.target.toNat - 1) (s.fixed e)⟩ else s
def SS.errA(s:SS)(e:Ev):Int:=
 if e.valid=false∨e.id≠s.evs.length+1 then 2
 else if 0<s.evs.length∧e.entry<(s.evs.getD (s.evs.length - 1) Ev.nil).entry then 21
 else if 1000≤s.evs.length then 22
 else if 0<e.target then s.errC e
 else if zr s.lat e.key then 24 else 0
def SS.add(s:SS)(e:Ev):SS:=
 if s.errA e≠0 then s
 else if 0<e.target then⟨s.evs++[e],(s.cor e).lat++[Ev.nil]⟩
 else⟨s.evs++[e],s.lat++[e]⟩
structure SS.ok(s:SS):Prop where
 len:s.lat.length=s.evs.length
 uniq:∀ i j,i<s.lat.length→j<s.lat.length→(s.lat.getD i Ev.nil).kind≠0→(s.lat.getD j Ev.nil).kind≠0→(s.lat.getD i Ev.nil).key=(s.lat.getD j Ev.nil).key→i=j
 kinds:∀ i,i<s.lat.length→(s.lat.getD i Ev.nil).kind=0∨(s.lat.getD i Ev.nil).kind=1∨(s.lat.getD i Ev.nil).kind=2
end Go.Nov
end
section
set_option maxRecDepth 100000
open Go Go.Sx Go.Proofs Go.Nov
namespace Go.Proofs.Try
attribute [local simp] eqKV eqA eqA0 eqH eqB eqL eqL0
noncomputable def JI:Ctr:=inlC Try.prog noG 100 Try.f35
theorem Jk:zf Try.prog 35 JI:=ZQ hmix zA rfl rfl
noncomputable def GEv0:Nat→Option Ctr:=fun f=>if f=35 then some (JI) else none
theorem Y9:∀ g c,GEv0 g=some c→zf Try.prog g c:=okIf Jk (zx)
noncomputable def U5:Ctr:=inlC Try.prog GEv0 100 Try.f38
theorem Y7:zf Try.prog 38 U5:=ZQ hmix Y9 rfl rfl
def y3:Ctr:=ctrP true (fun e:Ev=>[e.av]) zp (fun e r=>r=if e.valid then 0 else 8) (fun _ (r:Int)=>(.int .i64 r,[]))
noncomputable def GEv:Nat→Option Ctr:=fun f=>if f=35 then some (JI) else if f=38 then some (U5) else if f=36 then some (y4) else if f=37 then some (J5) else none
theorem zaa:∀ g c,GEv g=some c→zf Try.prog g c:=okIf Jk (okIf Y7 (okIf xV (okIf Qp (zx))))
theorem Km:zf Try.prog 22 y3:=by
 refine zn (fn:=Try.f22) (c:=Try.f22.body.getD .skip) rfl rfl rfl fun p hp O w0 Q hq=> ?_
 obtain⟨k,i,n,t,d,pa,na,va,b⟩:=p
 obtain⟨h1,h2,h3⟩:=hp
 replace hq:=hq _ rfl
 simp only at hq h1 h2 h3
 refine zc.run hmix zaa [] 400 (T:=.ite (bif !bif decide ((1:Int)≤i) then decide (i≤1073741824) else false then true else !bif decide ((0:Int)≤n) then decide (n≤1125899906842624) else false) (.leaf (.ret [.int .i64 8] [.box [.int .u8 k,.int .i64 i,.int .i64 n,.int .i64 t,.int .i64 d,.str pa,.str na,.str va,.bool b]])) (.side (inR .i64 (i - (1:Int))) (.ex (fun(x:List UInt8)=>eqL [AV.str va] [AV.str x]∧x.length<4611686018427387904) fun n_1=>.all (fun(r:Int)=>r=errR n_1) fun n_2=>.ite (decide (k=1)) (.ex (fun(x:List UInt8)=>eqL [AV.str na] [AV.str x]∧x.length<4611686018427387904) fun n_3=>.all (fun(r:Bool)=>r=zN n_3) fun n_4=>.ite (bif !bif bif n_4 then bif decide ((0:Int)≤d) then decide (d≤99999) else false else false then decide (n_2=0) else false then true else !(decide (k=k)&&(decide (i=i)&&(decide (n=n)&&(decide (t=0)&&(decide (d=d)&&(decide (pa=#[].toList)&&(decide (na=na)&&(decide (va=va)&&(b == false&&true)))))))))) (.leaf (.ret [.int .i64 8] [.box [.int .u8 k,.int .i64 i,.int .i64 n,.int .i64 t,.int .i64 d,.str pa,.str na,.str va,.bool b],.box [.int .u8 k,.int .i64 i,.int .i64 n,.int .i64 0,.int .i64 d,.str #[].toList,.str na,.str va,.bool false]])) (.leaf (.ret [.int .i64 0] [.box [.int .u8 k,.int .i64 i,.int .i64 n,.int .i64 t,.int .i64 d,.str pa,.str na,.str va,.bool b],.box [.int .u8 k,.int .i64 i,.int .i64 n,.int .i64 0,.int .i64 d,.str #[].toList,.str na,.str va,.bool false]]))) (.ite (decide (k=2)) (.ex (fun(x:List UInt8)=>eqL [AV.str pa] [AV.str x]∧x.length<4611686018427387904) fun n_3=>.all (fun(r:Bool)=>r=zN n_3) fun n_4=>.ex (fun(x:List UInt8)=>n_4=true→eqL [AV.str na] [AV.str x]∧x.length<4611686018427387904) fun n_5=>.all (fun(x:Bool)=>n_4=true→x=zN n_5) fun n_6=>.ite (bif !bif bif n_4 then n_6 else false then bif decide ((0:Int)≤d) then decide (d≤99999) else false else false then true else !(decide (k=k)&&(decide (i=i)&&(decide (n=n)&&(decide (t=0)&&(decide (d=d)&&(decide (pa=pa)&&(decide (na=na)&&(decide (va=#[].toList)&&(b == b&&true)))))))))) (.leaf (.ret [.int .i64 8] [.box [.int .u8 k,.int .i64 i,.int .i64 n,.int .i64 t,.int .i64 d,.str pa,.str na,.str va,.bool b],.box [.int .u8 k,.int .i64 i,.int .i64 n,.int .i64 0,.int .i64 d,.str pa,.str na,.str #[].toList,.bool b]])) (.leaf (.ret [.int .i64 0] [.box [.int .u8 k,.int .i64 i,.int .i64 n,.int .i64 t,.int .i64 d,.str pa,.str na,.str va,.bool b],.box [.int .u8 k,.int .i64 i,.int .i64 n,.int .i64 0,.int .i64 d,.str pa,.str na,.str #[].toList,.bool b]]))) (.ite (decide (k=3)) (.ite (bif !bif bif decide ((1:Int)≤t) then decide (t≤i - (1:Int)) else false then decide (n_2=0) else false then true else !(decide (k=k)&&(decide (i=i)&&(decide (n=n)&&(decide (t=t)&&(decide (d=0)&&(decide (pa=#[].toList)&&(decide (na=#[].toList)&&(decide (va=va)&&(b == false&&true)))))))))) (.leaf (.ret [.int .i64 8] [.box [.int .u8 k,.int .i64 i,.int .i64 n,.int .i64 t,.int .i64 d,.str pa,.str na,.str va,.bool b],.box [.int .u8 k,.int .i64 i,.int .i64 n,.int .i64 t,.int .i64 0,.str #[].toList,.str #[].toList,.str va,.bool false]])) (.leaf (.ret [.int .i64 0] [.box [.int .u8 k,.int .i64 i,.int .i64 n,.int .i64 t,.int .i64 d,.str pa,.str na,.str va,.bool b],.box [.int .u8 k,.int .i64 i,.int .i64 n,.int .i64 t,.int .i64 0,.str #[].toList,.str #[].toList,.str va,.bool false]]))) (.ite (decide (k=4)) (.ite (bif !bif decide ((1:Int)≤t) then decide (t≤i - (1:Int)) else false then true else !(decide (k=k)&&(decide (i=i)&&(decide (n=n)&&(decide (t=t)&&(decide (d=0)&&(decide (pa=#[].toList)&&(decide (na=#[].toList)&&(decide (va=#[].toList)&&(b == b&&true)))))))))) (.leaf (.ret [.int .i64 8] [.box [.int .u8 k,.int .i64 i,.int .i64 n,.int .i64 t,.int .i64 d,.str pa,.str na,.str va,.bool b],.box [.int .u8 k,.int .i64 i,.int .i64 n,.int .i64 t,.int .i64 0,.str #[].toList,.str #[].toList,.str #[].toList,.bool b]])) (.leaf (.ret [.int .i64 0] [.box [.int .u8 k,.int .i64 i,.int .i64 n,.int .i64 t,.int .i64 d,.str pa,.str na,.str va,.bool b],.box [.int .u8 k,.int .i64 i,.int .i64 n,.int .i64 t,.int .i64 0,.str #[].toList,.str #[].toList,.str #[].toList,.bool b]]))) (.ite (decide (k=5)) (.ite (bif !bif decide ((1:Int)≤t) then decide (t≤i - (1:Int)) else false then true else !(decide (k=k)&&(decide (i=i)&&(decide (n=n)&&(decide (t=t)&&(decide (d=0)&&(decide (pa=#[].toList)&&(decide (na=#[].toList)&&(decide (va=#[].toList)&&(b == false&&true)))))))))) (.leaf (.ret [.int .i64 8] [.box [.int .u8 k,.int .i64 i,.int .i64 n,.int .i64 t,.int .i64 d,.str pa,.str na,.str va,.bool b],.box [.int .u8 k,.int .i64 i,.int .i64 n,.int .i64 t,.int .i64 0,.str #[].toList,.str #[].toList,.str #[].toList,.bool false]])) (.leaf (.ret [.int .i64 0] [.box [.int .u8 k,.int .i64 i,.int .i64 n,.int .i64 t,.int .i64 d,.str pa,.str na,.str va,.bool b],.box [.int .u8 k,.int .i64 i,.int .i64 n,.int .i64 t,.int .i64 0,.str #[].toList,.str #[].toList,.str #[].toList,.bool false]]))) (.ite (bif !false then true else !(decide (k=k)&&(decide (i=i)&&(decide (n=n)&&(decide (t=0)&&(decide (d=0)&&(decide (pa=#[].toList)&&(decide (na=#[].toList)&&(decide (va=#[].toList)&&(b == false&&true)))))))))) (.leaf (.ret [.int .i64 8] [.box [.int .u8 k,.int .i64 i,.int .i64 n,.int .i64 t,.int .i64 d,.str pa,.str na,.str va,.bool b],.box [.int .u8 k,.int .i64 i,.int .i64 n,.int .i64 0,.int .i64 0,.str #[].toList,.str #[].toList,.str #[].toList,.bool false]])) (.leaf (.ret [.int .i64 0] [.box [.int .u8 k,.int .i64 i,.int .i64 n,.int .i64 t,.int .i64 d,.str pa,.str na,.str va,.bool b],.box [.int .u8 k,.int .i64 i,.int .i64 n,.int .i64 0,.int .i64 0,.str #[].toList,.str #[].toList,.str #[].toList,.bool false]])))))))))) (by kernel_rfl) ?_
 simp only [Tree.holds,zd]
 have two:∀ (c:Bool) (h h':Heap),(c = !(Ev.valid ⟨k,i,n,t,d,pa,na,va,b⟩))→(c=true→RetR y3 0 Q [.int .i64 8] h)∧(c=false→RetR y3 0 Q [.int .i64 0] h'):=by
  intro c h h' hc
  rw [hc]
  refine⟨fun g=>RetR.scal hq rfl ?_,fun g=>RetR.scal hq rfl ?_⟩
  ·rw [if_neg (by simpa using g)]; rfl
  ·rw [if_pos (by simpa using g)]; rfl
 refine⟨fun g=>(two true _ [] (by
  have g':(inB i 1 1073741824&&inB n 0 1125899906842624)=false:=by
   simp only [inB]
   revert g
   cases decide (1≤i)<;>cases decide (i≤1073741824)<;>cases decide (0≤n)<;>cases decide (n≤1125899906842624)<;>simp
  simp only [Ev.valid,g',Bool.false_and]; rfl)).1 rfl,fun g=> ?_⟩
 have g':(inB i 1 1073741824&&inB n 0 1125899906842624)=true:=by
  simp only [inB]
  revert g
  cases decide (1≤i)<;>cases decide (i≤1073741824)<;>cases decide (0≤n)<;>cases decide (n≤1125899906842624)<;>simp
 have hv:Ev.valid ⟨k,i,n,t,d,pa,na,va,b⟩=(if k=1 then zN na&&dayB d&&decide (errR va=0)&&decide (t=0)&&decide (pa=[]) && !b
  else if k=2 then zN pa&&zN na&&dayB d&&decide (t=0)&&decide (va=[])
  else inB t 1 (i - 1)&&decide (d=0)&&decide (pa=[])&&decide (na=[]) &&
   (if k=3 then decide (errR va=0) && !b
   else if k=4 then decide (va=[])
   else if k=5 then decide (va=[]) && !b else false)):=by
  simp only [Ev.valid,g',Bool.true_and]
  by_cases k5:k=5<;>simp [k5]
 have hi1:inR .i64 (i - 1):=by
  simp only [inB,Bool.and_eq_true,decide_eq_true_eq] at g'
  simp only [inR,lo,hi]
  omega
 rw [hv] at two
 clear hv g hq
 refine⟨hi1,fun _=>⟨va,⟨by simp,by omega⟩,⟨_,rfl⟩,?_⟩⟩
 rintro _ rfl
 simp only [dayB,inB] at two
 have B:∀ b:Bool,(b == false) = !b:=by decide
 simp only [B,beq_self_eq_true,decide_true,Bool.true_and,Bool.and_true]
 have bi:∀ x y:Bool,(bif x then y else false)=(x&&y):=by decide
 have bo:∀ x y:Bool,(bif x then true else y)=(x||y):=by decide
 simp only [bi,bo]
 generalize decide (errR va=0)=e1 at two ⊢
 generalize decide (t=0)=e2 at two ⊢
 generalize decide (pa=[])=e3 at two ⊢
 generalize decide (va=[])=e4 at two ⊢
 generalize decide (0≤d)=e5 at two ⊢
 generalize decide (d≤99999)=e6 at two ⊢
 generalize decide (na=[])=e7 at two ⊢
 generalize decide (d=0)=e8 at two ⊢
 generalize decide (1≤t)=e9 at two ⊢
 generalize decide (t≤i - 1)=e10 at two ⊢
 refine⟨fun k1=> ?_,fun k1=>⟨fun k2=> ?_,fun k2=>⟨fun k3=> ?_,fun k3=>⟨fun k4=> ?_,fun k4=>⟨fun k5=> ?_,fun k5=> ?_⟩⟩⟩⟩⟩<;>simp only [decide_eq_true_eq,decide_eq_false_iff_not] at *
 ·rw [if_pos k1] at two
  refine⟨na,⟨by simp,by omega⟩,⟨_,rfl⟩,?_⟩
  rintro _ rfl
  refine two _ _ _ ?_
  generalize zN na=e11
  clear two hi1
  cases e1<;>cases e2<;>cases e3<;>cases e5<;>cases e6<;>cases e11<;>cases b<;>rfl
 ·rw [if_neg k1,if_pos k2] at two
  refine⟨pa,⟨by simp,by omega⟩,⟨_,rfl⟩,?_⟩
  rintro _ rfl
  refine⟨na,fun _=>⟨by simp,by omega⟩,⟨_,fun _=>rfl⟩,?_⟩
  intro b6 h6
  refine two _ _ _ ?_
  generalize zN na=e11 at h6 ⊢
  generalize zN pa=e12 at h6 ⊢
  clear two hi1
  cases e12
  ·rfl
  ·rw [h6 rfl]
   cases e2<;>cases e4<;>cases e5<;>cases e6<;>cases e11<;>rfl
 ·rw [if_neg k1,if_neg k2,if_pos k3] at two
  refine two _ _ _ ?_
  clear two hi1
  cases e1<;>cases e3<;>cases e7<;>cases e8<;>cases e9<;>cases e10<;>cases b<;>rfl
 ·rw [if_neg k1,if_neg k2,if_neg k3,if_pos k4] at two
  refine two _ _ _ ?_
  clear two hi1
  cases e4<;>cases e3<;>cases e7<;>cases e8<;>cases e9<;>cases e10<;>rfl
 ·rw [if_neg k1,if_neg k2,if_neg k3,if_neg k4,if_pos k5] at two
  refine two _ _ _ ?_
  clear two hi1
  cases e4<;>cases e3<;>cases e7<;>cases e8<;>cases e9<;>cases e10<;>cases b<;>rfl
 ·rw [if_neg k1,if_neg k2,if_neg k3,if_neg k4,if_neg k5] at two
  refine two _ _ _ ?_
  clear two hi1
  cases e4<;>cases e3<;>cases e7<;>cases e8<;>cases e9<;>cases e10<;>cases b<;>rfl
end Go.Proofs.Try
end
section
namespace Go.Nov
open Go.Sx
theorem wP{α:Type}{l:List α}{z:α}{j:Nat}(h:j<l.length):l.getD j z=l[j]:=by simp [List.getD,h]
theorem Ug{α:Type}{p:α→Bool}{l:List α}{z:α}{j:Nat}(hj:j<l.length)(hp:p (l.getD j z)=true)(hu:∀ i,i<l.length→p (l.getD i z)=true→i=j):l.findIdx p=j:=by
 have hlt:l.findIdx p<l.length:=List.findIdx_lt_length_of_exists ⟨l[j],List.getElem_mem hj,by rwa [wP hj] at hp⟩
 exact hu _ hlt (by rw [wP hlt]; exact List.findIdx_getElem (w:=hlt))
theorem uO{l:List Ev}{k:List Sc} : zr l k=true↔∃ j,j<l.length∧(l.getD j Ev.nil).kind≠0∧(l.getD j Ev.nil).key=k:=by
 unfold zr
 rw [List.any_eq_true]
 constructor
 ·rintro⟨x,hx,hl⟩
  obtain⟨j,hj,rfl⟩:=List.mem_iff_getElem.1 hx
  refine⟨j,hj,?_⟩
  rw [wP hj]
  simpa [Ev.ji] using hl
 ·rintro⟨j,hj,hl⟩
  rw [wP hj] at hl
  exact⟨_,List.getElem_mem hj,by simpa [Ev.ji] using hl⟩
theorem jW{α:Type}{l:List α}{z y:α}{i j:Nat}(hi:i<l.length):(l.set i y).getD j z=if j=i then y else l.getD j z:=by
 by_cases h:j=i
 ·subst h; rw [if_pos rfl]; simp [List.getD,hi]
 ·rw [if_neg h]
  simp only [List.getD]
  rw [List.getElem?_set_ne (fun g=>h g.symm)]
theorem X8{s:SS}(ho:s.ok){k:List Sc}{j:Nat}(hj:j<s.lat.length)(h1:(s.lat.getD j Ev.nil).kind≠0)(h2:(s.lat.getD j Ev.nil).key=k):s.lat.findIdx (Ev.ji k)=j:=
 Ug (z:=Ev.nil) hj (by simp only [Ev.ji,h2,decide_true,Bool.and_true]; exact decide_eq_true h1) fun i hi hl=>by
  have hl:(s.lat.getD i Ev.nil).kind≠0∧(s.lat.getD i Ev.nil).key=k:=by simpa [Ev.ji] using hl
  exact ho.uniq i j hi hj hl.1 h1 (by rw [hl.2,h2])
theorem KN{s:SS}(ho:s.ok){i:Nat}(hi:i<s.lat.length):SS.ok ⟨s.evs,s.lat.set i Ev.nil⟩ where
 len:=by simpa using ho.len
 uniq a b ha hb:=by
  simp only [List.length_set] at ha hb
  simp only [jW hi]
  by_cases h1:a=i
  ·rw [if_pos h1]; intro h; exact absurd rfl h
  ·by_cases h2:b=i
   ·rw [if_pos h2]; intro _ h; exact absurd rfl h
   ·rw [if_neg h1,if_neg h2]; exact ho.uniq a b ha hb
 kinds a ha:=by
  simp only [List.length_set] at ha
  simp only [jW hi]
  by_cases h1:a=i
  ·rw [if_pos h1]; exact .inl rfl
  ·rw [if_neg h1]; exact ho.kinds a ha
theorem Yi{s:SS}(ho:s.ok){i:Nat}(hi:i<s.lat.length)(hk:(s.lat.getD i Ev.nil).kind≠0)(k:List Sc):xU (zr s.lat) (s.lat.getD i Ev.nil).key k=zr (s.lat.set i Ev.nil) k:=by
 rw [Bool.eq_iff_iff]
 simp only [xU,Bool.and_eq_true,Bool.not_eq_true',decide_eq_false_iff_not]
 rw [uO,uO]
 simp only [List.length_set,jW hi]
 constructor
 ·rintro⟨h1,j,hj,h2,h3⟩
  have:j≠i:=fun e=>h1 (by rw [← h3,e])
  exact⟨j,hj,by rw [if_neg this]; exact⟨h2,h3⟩⟩
 ·rintro⟨j,hj,h2⟩
  by_cases e:j=i
  ·rw [if_pos e] at h2; exact absurd rfl h2.1
  ·rw [if_neg e] at h2
   exact⟨fun g=>e (ho.uniq j i hj hi h2.1 hk (by rw [h2.2,g])),j,hj,h2⟩
theorem Kg{s:SS}(ho:s.ok){i:Nat}(hi:i<s.lat.length){k:List Sc}(h:zr (s.lat.set i Ev.nil) k=true):z2 s.lat k=z2 (s.lat.set i Ev.nil) k:=by
 obtain⟨j,hj,h1,h2⟩:=uO.1 h
 have e2:=X8 (KN ho hi) hj h1 h2
 rw [List.length_set] at hj
 rw [jW hi] at h1 h2
 by_cases e:j=i
 ·rw [if_pos e] at h1; exact absurd rfl h1
 ·rw [if_neg e] at h1 h2
  unfold z2
  rw [X8 ho hj h1 h2,e2]
theorem K1{l:List Ev}{i:Nat}{y:Ev}(hi:i<l.length)(h1:y.kind=(l.getD i Ev.nil).kind)(h2:y.key=(l.getD i Ev.nil).key)(k:List Sc):∀ j,j<l.length→Ev.ji k ((l.set i y).getD j Ev.nil)=Ev.ji k (l.getD j Ev.nil):=by
 intro j hj
 rw [jW hi]
 by_cases e:j=i
 ·rw [if_pos e,e]; simp only [Ev.ji,h1,h2]
 ·rw [if_neg e]
theorem YZ{α:Type}{p q:α→Bool}{l m:List α}{z:α}(hl:l.length=m.length)(h:∀ j,j<l.length→p (l.getD j z)=q (m.getD j z)):l.any p=m.any q∧l.findIdx p=m.findIdx q:=by
 induction l generalizing m with
 | nil=>cases m with
  | nil=>exact⟨rfl,rfl⟩
  | cons _ _=>simp at hl
 | cons x l ih=>
  cases m with
  | nil=>simp at hl
  | cons y m=>
   have h0:=h 0 (by simp)
   simp only [List.getD_cons_zero] at h0
   have hr:=ih (m:=m) (by simpa using hl) fun j hj=>by
    have:=h (j+1) (by simpa using hj)
    simpa using this
   refine⟨by simp only [List.any_cons,h0,hr.1],?_⟩
   simp only [List.findIdx_cons,h0,hr.2]
theorem za5{l:List Ev}{i:Nat}{y:Ev}(hi:i<l.length)(h1:y.kind=(l.getD i Ev.nil).kind)(h2:y.key=(l.getD i Ev.nil).key)(k:List Sc):zr l k=zr (l.set i y) k∧z2 l k=z2 (l.set i y) k:=by
 have:=YZ (p:=Ev.ji k) (q:=Ev.ji k) (l:=l) (m:=l.set i y) (z:=Ev.nil) (by simp) fun j hj=>(K1 hi h1 h2 k j hj).symm
 unfold zr z2
 rw [this.1,this.2]
 exact⟨rfl,rfl⟩
theorem za4{s:SS}(ho:s.ok){i:Nat}{y:Ev}(hi:i<s.lat.length)(h1:y.kind=(s.lat.getD i Ev.nil).kind)(h2:y.key=(s.lat.getD i Ev.nil).key):SS.ok ⟨s.evs,s.lat.set i y⟩:=by
 have e1:∀ j,((s.lat.set i y).getD j Ev.nil).kind=(s.lat.getD j Ev.nil).kind:=fun j=>by
  rw [jW hi]; by_cases e:j=i
  ·rw [if_pos e,e,h1]
  ·rw [if_neg e]
 have e2:∀ j,((s.lat.set i y).getD j Ev.nil).key=(s.lat.getD j Ev.nil).key:=fun j=>by
  rw [jW hi]; by_cases e:j=i
  ·rw [if_pos e,e,h2]
  ·rw [if_neg e]
 refine⟨by simpa using ho.len,fun a b ha hb=> ?_,fun a ha=> ?_⟩
 ·simp only [List.length_set] at ha hb
  simp only [e1,e2]
  exact ho.uniq a b ha hb
 ·simp only [List.length_set] at ha
  simp only [e1]
  exact ho.kinds a ha
theorem Yq{s:SS}{e:Ev}(hk:e.kind≠0)(k:List Sc):jd (zr s.lat) e.key k=zr (s.lat++[e]) k:=by
 simp only [jd,zr,List.any_append,List.any_cons,List.any_nil,Bool.or_false,Ev.ji,hk,ne_eq,not_false_eq_true,decide_true,Bool.true_and]
 rw [Bool.or_comm]
 congr 1
 exact decide_eq_decide.2 ⟨fun h=>h.symm,fun h=>h.symm⟩
theorem VZ{s:SS}{e:Ev}(hk:e.kind≠0)(hid:e.id=s.lat.length+1)(hn:zr s.lat e.key=false)(k:List Sc)(h:zr (s.lat++[e]) k=true):zF (z2 s.lat) e.key (.int .i64 e.id) k=z2 (s.lat++[e]) k:=by
 unfold zF z2
 rw [List.findIdx_append]
 by_cases q:k=e.key
 ·rw [if_pos q]
  subst q
  have:¬ s.lat.findIdx (Ev.ji e.key)<s.lat.length:=by
   rw [List.findIdx_lt_length]
   rintro⟨x,hx,hl⟩
   have:zr s.lat e.key=true:=List.any_eq_true.2 ⟨x,hx,hl⟩
   rw [hn] at this; cases this
  rw [if_neg this]
  have e1:Ev.ji e.key e=true:=by simp [Ev.ji,hk]
  simp only [List.findIdx_cons,e1]
  rw [hid]; simp
 ·rw [if_neg q]
  have:s.lat.findIdx (Ev.ji k)<s.lat.length:=by
   rw [List.findIdx_lt_length]
   simp only [zr,List.any_append,List.any_cons,List.any_nil,Bool.or_false,Bool.or_eq_true] at h
   rcases h with h | h
   ·exact List.any_eq_true.1 h
   ·have h:e.kind≠0∧e.key=k:=by simpa [Ev.ji] using h
    exact absurd h.2.symm q
  rw [if_pos this]
theorem xO{l:List Ev}(k:List Sc):zr l k=zr (l++[Ev.nil]) k∧(zr (l++[Ev.nil]) k=true→z2 l k=z2 (l++[Ev.nil]) k):=by
 have e:zr l k=zr (l++[Ev.nil]) k:=by
  simp [zr,Ev.ji]
 refine⟨e,fun h=> ?_⟩
 rw [← e] at h
 unfold z2
 rw [List.findIdx_append,if_pos]
 rw [List.findIdx_lt_length]
 exact List.any_eq_true.1 h
theorem yG{α:Type}{l:List α}{x z:α}{j:Nat}(h:j<l.length+1):(l++[x]).getD j z=if j<l.length then l.getD j z else x:=by
 by_cases q:j<l.length
 ·rw [if_pos q]; simp only [List.getD,List.getElem?_append_left q]
 ·rw [if_neg q]
  obtain rfl:j=l.length:=by omega
  simp [List.getD]
theorem Xe{s:SS}(ho:s.ok){e x:Ev}(hx:x.kind=0∨(x.kind=1∨x.kind=2)∧zr s.lat x.key=false):SS.ok ⟨s.evs++[e],s.lat++[x]⟩:=by
 refine⟨by simp [ho.len],fun a b ha hb=> ?_,fun a ha=> ?_⟩
 ·simp only [List.length_append,List.length_cons,List.length_nil] at ha hb
  simp only
  rw [yG (by omega),yG (by omega)]
  by_cases h1:a<s.lat.length<;>by_cases h2:b<s.lat.length
  ·rw [if_pos h1,if_pos h2]; exact ho.uniq a b h1 h2
  ·rw [if_pos h1,if_neg h2]
   intro k1 k2 k3
   rcases hx with hx | ⟨_,hx⟩
   ·exact absurd hx k2
   ·have:zr s.lat x.key=true:=uO.2 ⟨a,h1,k1,k3⟩
    rw [hx] at this; cases this
  ·rw [if_neg h1,if_pos h2]
   intro k1 k2 k3
   rcases hx with hx | ⟨_,hx⟩
   ·exact absurd hx k1
   ·have:zr s.lat x.key=true:=uO.2 ⟨b,h2,k2,k3.symm⟩
    rw [hx] at this; cases this
  ·intros; omega
 ·simp only [List.length_append,List.length_cons,List.length_nil] at ha
  simp only
  rw [yG (by omega)]
  by_cases h1:a<s.lat.length
  ·rw [if_pos h1]; exact ho.kinds a h1
  ·rw [if_neg h1]
   rcases hx with hx | ⟨hx,_⟩
   ·exact .inl hx
   ·exact .inr hx
theorem KI{l:List Ev}{i:Nat}{y:Ev}(hi:i<l.length){g:Nat→Nat→AV}(h1:∀ o,o<9→g i o=y.cell o)(h2:∀ j o,j≠i→g j o=evG l j o):eqG l.length 9 g (evG (l.set i y)):=by
 intro j o hj ho
 unfold evG
 rw [jW hi]
 by_cases e:j=i
 ·rw [if_pos e,e]; exact h1 o ho
 ·rw [if_neg e]; exact h2 j o e
theorem VA{s:SS}(ho:s.ok){e:Ev}(ht:0<e.target):(s.cor e).ok∧(s.cor e).lat.length=s.lat.length∧(s.cor e).evs=s.evs:=by
 unfold SS.cor
 by_cases h:s.errC e=0
 ·rw [if_pos h]
  unfold SS.errC at h
  by_cases h1:(s.lat.length:Int)<e.target∨(s.fact e).kind=0
  ·rw [if_pos h1] at h; cases h
  ·have hi:e.target.toNat - 1<s.lat.length:=by omega
   refine⟨?_,by simp,rfl⟩
   unfold SS.fixed
   split
   ·exact KN ho hi
   ·exact za4 ho hi rfl rfl
 ·rw [if_neg h]; exact⟨ho,rfl,rfl⟩
theorem KP{s:SS}(ho:s.ok)(e:Ev):(s.add e).ok:=by
 unfold SS.add
 by_cases h:s.errA e=0
 ·rw [if_neg (by simpa using h)]
  unfold SS.errA at h
  by_cases h1:e.valid=false∨e.id≠s.evs.length+1
  ·rw [if_pos h1] at h; cases h
  ·rw [if_neg h1] at h
   by_cases h2:0<s.evs.length∧e.entry<(s.evs.getD (s.evs.length - 1) Ev.nil).entry
   ·rw [if_pos h2] at h; cases h
   ·rw [if_neg h2] at h
    by_cases h3:1000≤s.evs.length
    ·rw [if_pos h3] at h; cases h
    ·rw [if_neg h3] at h
     by_cases ht:0<e.target
     ·rw [if_pos ht]
      obtain⟨c1,c2,c3⟩:=VA ho ht
      have:=Xe c1 (e:=e) (x:=Ev.nil) (.inl rfl)
      rw [c3] at this
      exact this
     ·rw [if_neg ht] at h ⊢
      by_cases h4:zr s.lat e.key=true
      ·rw [if_pos h4] at h; cases h
      ·refine Xe ho (.inr ⟨?_,by simpa using h4⟩)
       have hv:e.valid=true:=by
        cases hv:e.valid
        ·exact absurd (.inl hv) h1
        ·rfl
       unfold Ev.valid at hv
       by_cases k1:e.kind=1
       ·exact .inl k1
       ·by_cases k2:e.kind=2
        ·exact .inr k2
        ·rw [if_neg k1,if_neg k2] at hv
         simp only [Bool.and_eq_true,inB,decide_eq_true_eq] at hv
         omega
 ·rw [if_pos h]; exact ho
end Go.Nov
namespace Go.Nov
def SS.play(s:SS):List Ev→Option SS
 | []=>some s
 | e::l=>if s.errA e=0 then(s.add e).play l else none
end Go.Nov
namespace Go.Nov
theorem VM{s:SS}{l:List Ev}{i:Nat}(h:i<l.length):s.play (l.drop i)=if s.errA (l.getD i Ev.nil)=0 then(s.add (l.getD i Ev.nil)).play (l.drop (i+1)) else none:=by
 rw [List.drop_eq_getElem_cons h,wP h]
 rfl
theorem Qa{s:SS}{e:Ev}(h:s.errA e=0):(s.add e).evs=s.evs++[e]∧s.evs.length<1000:=by
 have h2:s.evs.length<1000:=by
  refine Decidable.byContradiction fun g=> ?_
  unfold SS.errA at h
  split at h
  ·cases h
  split at h
  ·cases h
  ·rw [if_pos (by omega)] at h; cases h
 refine⟨?_,h2⟩
 unfold SS.add
 rw [if_neg (by simpa using h)]
 split<;>rfl
theorem vp{l:List Ev}(h:∀ e∈l,zp e)(i:Nat):zp (l.getD i Ev.nil):=by
 by_cases hi:i<l.length
 ·rw [wP hi]; exact h _ (List.getElem_mem hi)
 ·have:l.getD i Ev.nil=Ev.nil:=by simp [List.getD,List.getElem?_eq_none (Nat.le_of_not_lt hi)]
  rw [this]; exact⟨by decide,by decide,by decide⟩
end Go.Nov
namespace Go.Nov
theorem Vx:∀ {l:List Ev} {s t:SS},s.ok→s.evs.length≤1000→s.play l=some t→t.ok∧t.evs=s.evs++l∧t.evs.length≤1000
 | [],s,t,ho,hl,h=>by cases h; exact⟨ho,by simp,hl⟩
 | e::l,s,t,ho,hl,h=>by
  simp only [SS.play] at h
  by_cases g:s.errA e=0
  ·rw [if_pos g] at h
   obtain⟨a1,a2⟩:=Qa g
   obtain⟨b1,b2,b3⟩:=Vx (KP ho e) (by rw [a1]; simp; omega) h
   exact⟨b1,by rw [b2,a1]; simp,b3⟩
  ·rw [if_neg g] at h; cases h
theorem Xg:SS.ok ⟨[],[]⟩:=⟨rfl,fun _ _ h=>by simp at h,fun _ h=>by simp at h⟩
theorem KX{l:List Ev}{t:SS}(h:SS.play ⟨[],[]⟩ l=some t):t.ok∧t.evs=l∧t.evs.length≤1000:=by
 obtain⟨a,b,c⟩:=Vx Xg (by simp) h
 exact⟨a,by simpa using b,c⟩
end Go.Nov
end
section
set_option maxRecDepth 100000
open Go Go.Sx Go.Proofs Go.Nov
namespace Go.Proofs.Try
attribute [local simp] eqKV eqA eqA0 eqH eqB eqL eqL0
def HSt(s:SS):Heap:=[.box [.osl 1 9 0 s.evs.length,.omap 2,.osl 3 9 0 s.lat.length],.arr s.evs.length 9 (evG s.evs),.map true [.inl .u8,.inr false,.inr false,.inl .i64] (zr s.lat) (z2 s.lat),.arr s.lat.length 9 (evG s.lat)]
noncomputable def Wk:Ctr:=inlC Try.prog noG 100 Try.f24
theorem J1:zf Try.prog 24 Wk:=ZQ hmix zA rfl rfl
def corC:Ctr:=ctrM 1 (fun p:SS×Ev=>[.ptr 0 0,p.2.av]) (fun p=>HSt p.1) (fun p=>p.1.ok∧p.1.lat.length≤1000∧0<p.2.target) (fun p (r:Int)=>r=p.1.errC p.2) (fun p r=>(.int .i64 r,HSt (p.1.cor p.2)))
noncomputable def GCo:Nat→Option Ctr:=fun f=>if f=24 then some (Wk) else none
theorem zaw:∀ g c,GCo g=some c→zf Try.prog g c:=okIf J1 (zx)
theorem zas:zf Try.prog 23 corC:=by
 refine Vo (fn:=Try.f23) (c:=Try.f23.body.getD .skip) rfl rfl rfl fun p hp O w0 σ0 Q hl0 hq=> ?_
 obtain⟨⟨evs,lat⟩,e⟩:=p
 obtain⟨ho,hl,ht⟩:=hp
 replace hq:=hq _ rfl
 simp only at hq ho hl ht
 refine zc.run hmix zaw [] 400 (T:=.side (decide ((↑lat.length:Int)<Ev.target e)=false→inR .i64 (Ev.target e - (1:Int))) (.side (decide ((↑lat.length:Int)<Ev.target e)=false→(0:Int)≤Ev.target e - (1:Int)∧Ev.target e - (1:Int)<lat.length) (.ite (bif decide ((↑lat.length:Int)<Ev.target e) then true else decide (Ev.kind (lat.getD (0+Int.toNat (Ev.target e - (1:Int))) Ev.nil)=(0:Int))) (.leaf (.ret [.int .i64 6] [.box [.osl 1 9 0 evs.length,.omap 2,.osl 3 9 0 lat.length],.arr evs.length 9 (evG evs),Blk.map true [Sum.inl .u8,Sum.inr false,Sum.inr false,Sum.inl .i64] (zr lat) (z2 lat),.arr lat.length 9 (evG lat),.box [.int .u8 e.kind,.int .i64 e.id,.int .i64 e.entry,.int .i64 e.target,.int .i64 e.date,.str e.zb,.str e.name,.str e.value,.bool e.first]])) (.side (inR .i64 (Ev.target e - (1:Int))) (.side ((0:Int)≤Ev.target e - (1:Int)∧Ev.target e - (1:Int)<lat.length) (.ite (decide (Ev.kind e=5)) (.leaf (.ret [.int .i64 0] [.box [.osl 1 9 0 evs.length,.omap 2,.osl 3 9 0 lat.length],.arr evs.length 9 (evG evs),Blk.map true [Sum.inl .u8,Sum.inr false,Sum.inr false,Sum.inl .i64] (xU (zr lat) [Sum.inl (Ev.kind (List.getD (SS.lat { evs:=evs,lat:=lat }) (0+Int.toNat (Ev.target e - (1:Int))) Ev.nil)),Sum.inr (Ev.zb (List.getD (SS.lat { evs:=evs,lat:=lat }) (0+Int.toNat (Ev.target e - (1:Int))) Ev.nil)),Sum.inr (Ev.name (List.getD (SS.lat { evs:=evs,lat:=lat }) (0+Int.toNat (Ev.target e - (1:Int))) Ev.nil)),Sum.inl (Ev.date (List.getD (SS.lat { evs:=evs,lat:=lat }) (0+Int.toNat (Ev.target e - (1:Int))) Ev.nil))]) (z2 lat),.arr lat.length 9 (updG (evG lat) (0+Int.toNat (Ev.target e - (1:Int))) 0 [.int .u8 0,.int .i64 0,.int .i64 0,.int .i64 0,.int .i64 0,.str #[].toList,.str #[].toList,.str #[].toList,.bool false]),.box [.int .u8 e.kind,.int .i64 e.id,.int .i64 e.entry,.int .i64 e.target,.int .i64 e.date,.str e.zb,.str e.name,.str e.value,.bool e.first],.box [.int .u8 (Ev.kind (lat.getD (0+Int.toNat (Ev.target e - (1:Int))) Ev.nil)),.int .i64 (Ev.id (lat.getD (0+Int.toNat (Ev.target e - (1:Int))) Ev.nil)),.int .i64 (Ev.entry (lat.getD (0+Int.toNat (Ev.target e - (1:Int))) Ev.nil)),.int .i64 (Ev.target (lat.getD (0+Int.toNat (Ev.target e - (1:Int))) Ev.nil)),.int .i64 (Ev.date (lat.getD (0+Int.toNat (Ev.target e - (1:Int))) Ev.nil)),.str (Ev.zb (lat.getD (0+Int.toNat (Ev.target e - (1:Int))) Ev.nil)),.str (Ev.name (lat.getD (0+Int.toNat (Ev.target e - (1:Int))) Ev.nil)),.str (Ev.value (lat.getD (0+Int.toNat (Ev.target e - (1:Int))) Ev.nil)),.bool (Ev.first (lat.getD (0+Int.toNat (Ev.target e - (1:Int))) Ev.nil))],.box [.int .u8 (Ev.kind (lat.getD (0+Int.toNat (Ev.target e - (1:Int))) Ev.nil)),.str (Ev.zb (lat.getD (0+Int.toNat (Ev.target e - (1:Int))) Ev.nil)),.str (Ev.name (lat.getD (0+Int.toNat (Ev.target e - (1:Int))) Ev.nil)),.int .i64 (Ev.date (lat.getD (0+Int.toNat (Ev.target e - (1:Int))) Ev.nil))]])) (.ite (!decide (Ev.kind e=3) == decide (Ev.kind (lat.getD (0+Int.toNat (Ev.target e - (1:Int))) Ev.nil)=(1:Int))) (.leaf (.ret [.int .i64 32] [.box [.osl 1 9 0 evs.length,.omap 2,.osl 3 9 0 lat.length],.arr evs.length 9 (evG evs),Blk.map true [Sum.inl .u8,Sum.inr false,Sum.inr false,Sum.inl .i64] (zr lat) (z2 lat),.arr lat.length 9 (evG lat),.box [.int .u8 e.kind,.int .i64 e.id,.int .i64 e.entry,.int .i64 e.target,.int .i64 e.date,.str e.zb,.str e.name,.str e.value,.bool e.first]])) (.leaf (.ret [.int .i64 0] [.box [.osl 1 9 0 evs.length,.omap 2,.osl 3 9 0 lat.length],.arr evs.length 9 (evG evs),Blk.map true [Sum.inl .u8,Sum.inr false,Sum.inr false,Sum.inl .i64] (zr lat) (z2 lat),.arr lat.length 9 (updG (updG (evG lat) (0+Int.toNat (Ev.target e - (1:Int))) 7 [.str e.value]) (0+Int.toNat (Ev.target e - (1:Int))) 8 [.bool e.first]),.box [.int .u8 e.kind,.int .i64 e.id,.int .i64 e.entry,.int .i64 e.target,.int .i64 e.date,.str e.zb,.str e.name,.str e.value,.bool e.first]]))))))))) (by kernel_rfl) ?_
 simp only [Tree.holds,zd]
 have ei:(e.target - 1).toNat=e.target.toNat - 1:=by omega
 simp only [ei,Nat.zero_add,inR,lo,hi]
 have hfx:SS.fact ⟨evs,lat⟩ e=lat.getD (e.target.toNat - 1) Ev.nil:=rfl
 have fin:∀ (r:Int) (h:Heap) (b1 b2 b3 b4:Blk) (rest:Heap),h=b1::b2::b3::b4::rest→r=SS.errC ⟨evs,lat⟩ e→eqH (expH (b1::b2::b3::b4::rest) [0,1,2,3]) (HSt (SS.cor ⟨evs,lat⟩ e))→RetR corC 4 Q [.int .i64 r] h:=by
  rintro r h b1 b2 b3 b4 rest rfl rfl he
  exact RetR.keep [0,1,2,3] rfl (by simp) (by show ∀ j,j<4→_; decide) rfl hq (by simp [resV,exp2,exp1,exp0,ren0,eqA2,eqL1]) he rfl
 refine⟨fun h=>by have:=of_decide_eq_false h; omega,fun _=>⟨fun h=>by have:=of_decide_eq_false h; omega,fun _=>⟨fun h=> ?_,fun h=> ?_⟩⟩⟩
 ·have h6:SS.errC ⟨evs,lat⟩ e=6:=by
   unfold SS.errC
   rw [if_pos]
   rw [hfx]
   cases hd:decide ((lat.length:Int)<e.target) with
   | true=>exact .inl (of_decide_eq_true hd)
   | false=>rw [hd] at h; exact .inr (of_decide_eq_true h)
  refine fin _ _ _ _ _ _ _ rfl h6.symm ?_
  unfold SS.cor
  rw [if_neg (by rw [h6]; decide)]
  simp [expH,expB,exp1,exp0,ren0,zo,HSt,za]
 ·have h6:¬ ((lat.length:Int)<e.target∨(SS.fact ⟨evs,lat⟩ e).kind=0):=by
   rw [hfx]
   cases hd:decide ((lat.length:Int)<e.target) with
   | true=>rw [hd] at h; cases h
   | false=>
    rw [hd] at h
    rintro(g | g)
    ·exact absurd g (of_decide_eq_false hd)
    ·exact absurd g (of_decide_eq_false h)
  have hlt:(e.target:Int)≤lat.length:=by omega
  have hil:e.target.toNat - 1<lat.length:=by omega
  have hk0:(lat.getD (e.target.toNat - 1) Ev.nil).kind≠0:=fun g=>h6 (.inr (by rw [hfx]; exact g))
  refine⟨by omega,fun _=>⟨by omega,fun _=>⟨fun h5=> ?_,fun h5=>⟨fun h3=> ?_,fun h3=> ?_⟩⟩⟩⟩
  ·have h5:e.kind=5:=of_decide_eq_true h5
   have hr:SS.errC ⟨evs,lat⟩ e=0:=by unfold SS.errC; rw [if_neg h6,if_pos h5]
   refine fin _ _ _ _ _ _ _ rfl hr.symm ?_
   have hc:SS.cor ⟨evs,lat⟩ e=⟨evs,lat.set (e.target.toNat - 1) Ev.nil⟩:=by unfold SS.cor SS.fixed; rw [if_pos hr,if_pos h5]
   rw [hc]
   refine⟨by simp [expB,exp1,exp0,ren0,zo],by simp [expB,za],⟨⟨rfl,.inl rfl⟩,rfl,fun k=>Yi ho hil hk0 k,fun k hk=> ?_⟩,⟨by simp,rfl,KI hil ?_ ?_⟩,trivial⟩
   ·refine Kg ho hil ?_
    rw [← Yi ho hil hk0 k]
    exact hk
   ·intro o ho
    simp only [updG]
    rcases(show o=0∨o=1∨o=2∨o=3∨o=4∨o=5∨o=6∨o=7∨o=8 by omega) with rfl | rfl | rfl | rfl | rfl | rfl | rfl | rfl | rfl<;>rfl
   ·intro j o hj
    simp only [updG]
    rw [if_neg (fun g=>hj g.1)]
  ·have h5:¬ e.kind=5:=of_decide_eq_false h5
   have h32:decide (e.kind=3)≠decide ((SS.fact ⟨evs,lat⟩ e).kind=1):=by
    rw [hfx]; intro g; rw [g] at h3; simp at h3
   have hr:SS.errC ⟨evs,lat⟩ e=32:=by unfold SS.errC; rw [if_neg h6,if_neg h5,if_pos h32]
   refine fin _ _ _ _ _ _ _ rfl hr.symm ?_
   unfold SS.cor
   rw [if_neg (by rw [hr]; decide)]
   simp [expH,expB,exp1,exp0,ren0,zo,HSt,za]
  ·have h5:¬ e.kind=5:=of_decide_eq_false h5
   have h32:¬ decide (e.kind=3)≠decide ((SS.fact ⟨evs,lat⟩ e).kind=1):=by
    rw [hfx]; intro g
    generalize decide (e.kind=3)=x at h3 g
    generalize decide ((lat.getD (e.target.toNat - 1) Ev.nil).kind=1)=y at h3 g
    cases x<;>cases y<;>simp at h3 g
   have hr:SS.errC ⟨evs,lat⟩ e=0:=by unfold SS.errC; rw [if_neg h6,if_neg h5,if_neg h32]
   refine fin _ _ _ _ _ _ _ rfl hr.symm ?_
   have hc:SS.cor ⟨evs,lat⟩ e=⟨evs,lat.set (e.target.toNat - 1) { lat.getD (e.target.toNat - 1) Ev.nil with value:=e.value,first:=e.first }⟩:=by unfold SS.cor SS.fixed; rw [if_pos hr,if_neg h5]; rfl
   rw [hc]
   have lv:=fun k=>za5 (l:=lat) (i:=e.target.toNat - 1) (y:={ lat.getD (e.target.toNat - 1) Ev.nil with value:=e.value,first:=e.first }) hil rfl rfl k
   refine⟨by simp [expB,exp1,exp0,ren0,zo],by simp [expB,za],⟨⟨rfl,.inl rfl⟩,rfl,fun k=>(lv k).1,fun k _=>(lv k).2⟩,⟨by simp,rfl,KI hil ?_ ?_⟩,trivial⟩
   ·intro o ho
    simp only [updG]
    rcases(show o=0∨o=1∨o=2∨o=3∨o=4∨o=5∨o=6∨o=7∨o=8 by omega) with rfl | rfl | rfl | rfl | rfl | rfl | rfl | rfl | rfl<;>rfl
   ·intro j o hj
    simp only [updG]
    rw [if_neg (fun g=>hj g.1),if_neg (fun g=>hj g.1)]
theorem vC{A B:Prop}(ha:A)(hb:B):(∃ _:Bool,True)∧∀ n:Bool,True→(n=true→A)∧(n=false→B):=⟨⟨true,trivial⟩,fun _ _=>⟨fun _=>ha,fun _=>hb⟩⟩
theorem Vh(x y:Bool):(bif x then y else false)=(x&&y):=by cases x<;>rfl
def addC:Ctr:=ctrM 1 (fun p:SS×Ev=>[.ptr 0 0,p.2.av]) (fun p=>HSt p.1) (fun p=>p.1.ok∧p.1.evs.length≤1000∧zp p.2) (fun p (r:Int)=>r=p.1.errA p.2) (fun p r=>(.int .i64 r,HSt (p.1.add p.2)))
noncomputable def GAd:Nat→Option Ctr:=fun f=>if f=24 then some (Wk) else if f=23 then some (corC) else if f=22 then some (y3) else none
theorem zae:∀ g c,GAd g=some c→zf Try.prog g c:=okIf J1 (okIf zas (okIf Km (zx)))
theorem V7:zf Try.prog 15 addC:=by
 refine Vo (fn:=Try.f15) (c:=Try.f15.body.getD .skip) rfl rfl rfl fun p hp O w0 σ0 Q hl0 hq=> ?_
 obtain⟨⟨evs,lat⟩,e⟩:=p
 obtain⟨ho,hl,hs⟩:=hp
 replace hq:=hq _ rfl
 simp only at hq ho hl hs
 refine zc.run hmix zae [] 400 (T:=.ex (fun(x:Ev)=>eqL [AV.agg [AV.int .u8 e.kind,AV.int .i64 e.id,AV.int .i64 e.entry,AV.int .i64 e.target,AV.int .i64 e.date,AV.str e.zb,AV.str e.name,AV.str e.value,AV.bool e.first]] [AV.agg [AV.int .u8 x.kind,AV.int .i64 x.id,AV.int .i64 x.entry,AV.int .i64 x.target,AV.int .i64 x.date,AV.str x.zb,AV.str x.name,AV.str x.value,AV.bool x.first]]∧zp x) fun n=>.all (fun(r:Int)=>r=if Ev.valid n=true then(0:Int) else(8:Int)) fun n=>.side ((!decide (n=0))=false→inR .i64 ((↑evs.length:Int)+(1:Int))) (.ite (bif !decide (n=0) then true else !decide (Ev.id e=(↑evs.length:Int)+(1:Int))) (.leaf (.ret [.int .i64 2] [.box [.osl 1 9 0 evs.length,.omap 2,.osl 3 9 0 lat.length],.arr evs.length 9 (evG evs),Blk.map true [Sum.inl .u8,Sum.inr false,Sum.inr false,Sum.inl .i64] (zr lat) (z2 lat),.arr lat.length 9 (evG lat),.box [.int .u8 e.kind,.int .i64 e.id,.int .i64 e.entry,.int .i64 e.target,.int .i64 e.date,.str e.zb,.str e.name,.str e.value,.bool e.first]])) (.side (decide ((0:Int)<evs.length)=true→inR .i64 ((↑evs.length:Int) - (1:Int))) (.side (decide ((0:Int)<evs.length)=true→(0:Int)≤evs.length - (1:Int)∧(↑evs.length:Int) - (1:Int)<evs.length) (.ite (bif decide ((0:Int)<evs.length) then decide (Ev.entry e<Ev.entry (evs.getD (0+Int.toNat ((↑evs.length:Int) - (1:Int))) Ev.nil)) else false) (.leaf (.ret [.int .i64 21] [.box [.osl 1 9 0 evs.length,.omap 2,.osl 3 9 0 lat.length],.arr evs.length 9 (evG evs),Blk.map true [Sum.inl .u8,Sum.inr false,Sum.inr false,Sum.inl .i64] (zr lat) (z2 lat),.arr lat.length 9 (evG lat),.box [.int .u8 e.kind,.int .i64 e.id,.int .i64 e.entry,.int .i64 e.target,.int .i64 e.date,.str e.zb,.str e.name,.str e.value,.bool e.first]])) (.ite (decide ((1000:Int)≤evs.length)) (.leaf (.ret [.int .i64 22] [.box [.osl 1 9 0 evs.length,.omap 2,.osl 3 9 0 lat.length],.arr evs.length 9 (evG evs),Blk.map true [Sum.inl .u8,Sum.inr false,Sum.inr false,Sum.inl .i64] (zr lat) (z2 lat),.arr lat.length 9 (evG lat),.box [.int .u8 e.kind,.int .i64 e.id,.int .i64 e.entry,.int .i64 e.target,.int .i64 e.date,.str e.zb,.str e.name,.str e.value,.bool e.first]])) (.ite (decide ((0:Int)<Ev.target e)) (.ex (fun(x:SS×Ev)=>eqL [AV.ptr 0 0,AV.agg [AV.int .u8 e.kind,AV.int .i64 e.id,AV.int .i64 e.entry,AV.int .i64 e.target,AV.int .i64 e.date,AV.str e.zb,AV.str e.name,AV.str e.value,AV.bool e.first]] [AV.ptr 0 0,AV.agg [AV.int .u8 x.2.kind,AV.int .i64 x.2.id,AV.int .i64 x.2.entry,AV.int .i64 x.2.target,AV.int .i64 x.2.date,AV.str x.2.zb,AV.str x.2.name,AV.str x.2.value,AV.bool x.2.first]]∧eqH [.box [AV.osl 1 9 0 evs.length,AV.omap 2,AV.osl 3 9 0 lat.length],.arr evs.length 9 (evG evs),Blk.map true [Sum.inl .u8,Sum.inr false,Sum.inr false,Sum.inl .i64] (zr lat) (z2 lat),.arr lat.length 9 (evG lat)] [.box [AV.osl 1 9 0 (SS.evs x.1).length,AV.omap 2,AV.osl 3 9 0 (SS.lat x.1).length],.arr (SS.evs x.1).length 9 (evG (SS.evs x.1)),Blk.map true [Sum.inl .u8,Sum.inr false,Sum.inr false,Sum.inl .i64] (zr (SS.lat x.1)) (z2 (SS.lat x.1)),.arr (SS.lat x.1).length 9 (evG (SS.lat x.1))]∧4=4∧SS.ok x.1∧List.length (SS.lat x.1)≤1000∧(0:Int)<Ev.target x.2) fun n=>.all (fun(r:Int)=>r=SS.errC n.1 n.2) fun n_1=>.ite (!decide (n_1=0)) (.leaf (.ret [.int .i64 n_1] [.box [.osl 1 9 0 (List.length (SS.evs (SS.cor n.1 n.2))),.omap 2,.osl 3 9 0 (List.length (SS.lat (SS.cor n.1 n.2)))],.arr (List.length (SS.evs (SS.cor n.1 n.2))) 9 (evG (SS.evs (SS.cor n.1 n.2))),Blk.map true [Sum.inl .u8,Sum.inr false,Sum.inr false,Sum.inl .i64] (zr (SS.lat (SS.cor n.1 n.2))) (z2 (SS.lat (SS.cor n.1 n.2))),.arr (List.length (SS.lat (SS.cor n.1 n.2))) 9 (evG (SS.lat (SS.cor n.1 n.2))),.box [.int .u8 e.kind,.int .i64 e.id,.int .i64 e.entry,.int .i64 e.target,.int .i64 e.date,.str e.zb,.str e.name,.str e.value,.bool e.first],.box [.int .u8 0,.int .i64 0,.int .i64 0,.int .i64 0,.int .i64 0,.str #[].toList,.str #[].toList,.str #[].toList,.bool false]])) (.all (fun(x:Bool)=>True) fun n_2=>.ite n_2 (.all (fun(x:Bool)=>True) fun n_3=>.ite n_3 (.side (0=0∧List.length (SS.evs (SS.cor n.1 n.2))≤List.length (SS.evs (SS.cor n.1 n.2))∧(List.length (SS.evs (SS.cor n.1 n.2))+1)*96≤140737488355328) (.side (0=0∧List.length (SS.lat (SS.cor n.1 n.2))=List.length (SS.lat (SS.cor n.1 n.2))) (.side (0=0∧List.length (SS.lat (SS.cor n.1 n.2))≤List.length (SS.lat (SS.cor n.1 n.2))∧(List.length (SS.lat (SS.cor n.1 n.2))+1)*96≤140737488355328) (.leaf (.ret [.int .i64 0] [.box [.osl 1 9 0 (List.length (SS.evs (SS.cor n.1 n.2))+1),.omap 2,.osl 3 9 0 (List.length (SS.lat (SS.cor n.1 n.2))+1)],.arr (List.length (SS.evs (SS.cor n.1 n.2))+1) 9 (appG (List.length (SS.evs (SS.cor n.1 n.2))) (evG (SS.evs (SS.cor n.1 n.2))) (zg (zh 9 [.int .u8 e.kind,.int .i64 e.id,.int .i64 e.entry,.int .i64 e.target,.int .i64 e.date,.str e.zb,.str e.name,.str e.value,.bool e.first]) 0)),Blk.map true [Sum.inl .u8,Sum.inr false,Sum.inr false,Sum.inl .i64] (zr (SS.lat (SS.cor n.1 n.2))) (z2 (SS.lat (SS.cor n.1 n.2))),.arr (List.length (SS.lat (SS.cor n.1 n.2))+1) 9 (appG (List.length (SS.lat (SS.cor n.1 n.2))) (evG (SS.lat (SS.cor n.1 n.2))) (zg (zh 9 [.int .u8 0,.int .i64 0,.int .i64 0,.int .i64 0,.int .i64 0,.str #[].toList,.str #[].toList,.str #[].toList,.bool false]) 0)),.box [.int .u8 e.kind,.int .i64 e.id,.int .i64 e.entry,.int .i64 e.target,.int .i64 e.date,.str e.zb,.str e.name,.str e.value,.bool e.first],.box [.int .u8 0,.int .i64 0,.int .i64 0,.int .i64 0,.int .i64 0,.str #[].toList,.str #[].toList,.str #[].toList,.bool false],.arr 1 9 (zh 9 [.int .u8 e.kind,.int .i64 e.id,.int .i64 e.entry,.int .i64 e.target,.int .i64 e.date,.str e.zb,.str e.name,.str e.value,.bool e.first]),.arr 1 9 (zh 9 [.int .u8 0,.int .i64 0,.int .i64 0,.int .i64 0,.int .i64 0,.str #[].toList,.str #[].toList,.str #[].toList,.bool false])]))))) (.side (0=0∧List.length (SS.evs (SS.cor n.1 n.2))≤List.length (SS.evs (SS.cor n.1 n.2))∧(List.length (SS.evs (SS.cor n.1 n.2))+1)*96≤140737488355328) (.side (0=0∧List.length (SS.lat (SS.cor n.1 n.2))=List.length (SS.lat (SS.cor n.1 n.2))) (.side (0=0∧List.length (SS.lat (SS.cor n.1 n.2))≤List.length (SS.lat (SS.cor n.1 n.2))∧(List.length (SS.lat (SS.cor n.1 n.2))+1)*96≤140737488355328) (.leaf (.ret [.int .i64 0] [.box [.osl 1 9 0 (List.length (SS.evs (SS.cor n.1 n.2))+1),.omap 2,.osl 3 9 0 (List.length (SS.lat (SS.cor n.1 n.2))+1)],.arr (List.length (SS.evs (SS.cor n.1 n.2))+1) 9 (appG (List.length (SS.evs (SS.cor n.1 n.2))) (evG (SS.evs (SS.cor n.1 n.2))) (zg (zh 9 [.int .u8 e.kind,.int .i64 e.id,.int .i64 e.entry,.int .i64 e.target,.int .i64 e.date,.str e.zb,.str e.name,.str e.value,.bool e.first]) 0)),Blk.map true [Sum.inl .u8,Sum.inr false,Sum.inr false,Sum.inl .i64] (zr (SS.lat (SS.cor n.1 n.2))) (z2 (SS.lat (SS.cor n.1 n.2))),.arr (List.length (SS.lat (SS.cor n.1 n.2))+1) 9 (appG (List.length (SS.lat (SS.cor n.1 n.2))) (evG (SS.lat (SS.cor n.1 n.2))) (zg (zh 9 [.int .u8 0,.int .i64 0,.int .i64 0,.int .i64 0,.int .i64 0,.str #[].toList,.str #[].toList,.str #[].toList,.bool false]) 0)),.box [.int .u8 e.kind,.int .i64 e.id,.int .i64 e.entry,.int .i64 e.target,.int .i64 e.date,.str e.zb,.str e.name,.str e.value,.bool e.first],.box [.int .u8 0,.int .i64 0,.int .i64 0,.int .i64 0,.int .i64 0,.str #[].toList,.str #[].toList,.str #[].toList,.bool false],.arr 1 9 (zh 9 [.int .u8 e.kind,.int .i64 e.id,.int .i64 e.entry,.int .i64 e.target,.int .i64 e.date,.str e.zb,.str e.name,.str e.value,.bool e.first]),.arr 1 9 (zh 9 [.int .u8 0,.int .i64 0,.int .i64 0,.int .i64 0,.int .i64 0,.str #[].toList,.str #[].toList,.str #[].toList,.bool false])])))))) (.side (0=0∧List.length (SS.evs (SS.cor n.1 n.2))≤List.length (SS.evs (SS.cor n.1 n.2))∧(List.length (SS.evs (SS.cor n.1 n.2))+1)*96≤140737488355328) (.side (0=0∧List.length (SS.lat (SS.cor n.1 n.2))=List.length (SS.lat (SS.cor n.1 n.2))) (.side (0=0∧List.length (SS.lat (SS.cor n.1 n.2))≤List.length (SS.lat (SS.cor n.1 n.2))∧(List.length (SS.lat (SS.cor n.1 n.2))+1)*96≤140737488355328) (.leaf (.ret [.int .i64 0] [.box [.osl 1 9 0 (List.length (SS.evs (SS.cor n.1 n.2))+1),.omap 2,.osl 3 9 0 (List.length (SS.lat (SS.cor n.1 n.2))+1)],.arr (List.length (SS.evs (SS.cor n.1 n.2))+1) 9 (appG (List.length (SS.evs (SS.cor n.1 n.2))) (evG (SS.evs (SS.cor n.1 n.2))) (zg (zh 9 [.int .u8 e.kind,.int .i64 e.id,.int .i64 e.entry,.int .i64 e.target,.int .i64 e.date,.str e.zb,.str e.name,.str e.value,.bool e.first]) 0)),Blk.map true [Sum.inl .u8,Sum.inr false,Sum.inr false,Sum.inl .i64] (zr (SS.lat (SS.cor n.1 n.2))) (z2 (SS.lat (SS.cor n.1 n.2))),.arr (List.length (SS.lat (SS.cor n.1 n.2))+1) 9 (appG (List.length (SS.lat (SS.cor n.1 n.2))) (evG (SS.lat (SS.cor n.1 n.2))) (zg (zh 9 [.int .u8 0,.int .i64 0,.int .i64 0,.int .i64 0,.int .i64 0,.str #[].toList,.str #[].toList,.str #[].toList,.bool false]) 0)),.box [.int .u8 e.kind,.int .i64 e.id,.int .i64 e.entry,.int .i64 e.target,.int .i64 e.date,.str e.zb,.str e.name,.str e.value,.bool e.first],.box [.int .u8 0,.int .i64 0,.int .i64 0,.int .i64 0,.int .i64 0,.str #[].toList,.str #[].toList,.str #[].toList,.bool false],.arr 1 9 (zh 9 [.int .u8 0,.int .i64 0,.int .i64 0,.int .i64 0,.int .i64 0,.str #[].toList,.str #[].toList,.str #[].toList,.bool false]),.arr 1 9 (zh 9 [.int .u8 e.kind,.int .i64 e.id,.int .i64 e.entry,.int .i64 e.target,.int .i64 e.date,.str e.zb,.str e.name,.str e.value,.bool e.first])]))))))) (.ite (zr lat [Sum.inl e.kind,Sum.inr e.zb,Sum.inr e.name,Sum.inl e.date]) (.ite (decide ((0:Int)<(↑(List.findIdx (Ev.ji [Sum.inl e.kind,Sum.inr e.zb,Sum.inr e.name,Sum.inl e.date]) lat):Int)+(1:Int))) (.leaf (.ret [.int .i64 24] [.box [.osl 1 9 0 evs.length,.omap 2,.osl 3 9 0 lat.length],.arr evs.length 9 (evG evs),Blk.map true [Sum.inl .u8,Sum.inr false,Sum.inr false,Sum.inl .i64] (zr lat) (z2 lat),.arr lat.length 9 (evG lat),.box [.int .u8 e.kind,.int .i64 e.id,.int .i64 e.entry,.int .i64 e.target,.int .i64 e.date,.str e.zb,.str e.name,.str e.value,.bool e.first],.box [.int .u8 0,.int .i64 0,.int .i64 0,.int .i64 0,.int .i64 0,.str #[].toList,.str #[].toList,.str #[].toList,.bool false],.box [.int .u8 e.kind,.int .i64 e.id,.int .i64 e.entry,.int .i64 e.target,.int .i64 e.date,.str e.zb,.str e.name,.str e.value,.bool e.first],.box [.int .u8 e.kind,.str e.zb,.str e.name,.int .i64 e.date]])) (.all (fun(x:Int)=>True) fun n=>.side (n=n) (.all (fun(x:Bool)=>True) fun n=>.ite n (.all (fun(x:Bool)=>True) fun n=>.ite n (.side (0=0∧evs.length≤evs.length∧(evs.length+1)*96≤140737488355328) (.side (0=0∧lat.length=lat.length) (.side (0=0∧lat.length≤lat.length∧(lat.length+1)*96≤140737488355328) (.leaf (.ret [.int .i64 0] [.box [.osl 1 9 0 (evs.length+1),.omap 2,.osl 3 9 0 (lat.length+1)],.arr (evs.length+1) 9 (appG evs.length (evG evs) (zg (zh 9 [.int .u8 e.kind,.int .i64 e.id,.int .i64 e.entry,.int .i64 e.target,.int .i64 e.date,.str e.zb,.str e.name,.str e.value,.bool e.first]) 0)),Blk.map true [Sum.inl .u8,Sum.inr false,Sum.inr false,Sum.inl .i64] (jd (zr lat) [Sum.inl e.kind,Sum.inr e.zb,Sum.inr e.name,Sum.inl e.date]) (zF (zF (z2 lat) [Sum.inl e.kind,Sum.inr e.zb,Sum.inr e.name,Sum.inl e.date] .undef) [Sum.inl e.kind,Sum.inr e.zb,Sum.inr e.name,Sum.inl e.date] (.int .i64 e.id)),.arr (lat.length+1) 9 (appG lat.length (evG lat) (zg (zh 9 [.int .u8 e.kind,.int .i64 e.id,.int .i64 e.entry,.int .i64 e.target,.int .i64 e.date,.str e.zb,.str e.name,.str e.value,.bool e.first]) 0)),.box [.int .u8 e.kind,.int .i64 e.id,.int .i64 e.entry,.int .i64 e.target,.int .i64 e.date,.str e.zb,.str e.name,.str e.value,.bool e.first],.box [.int .u8 e.kind,.int .i64 e.id,.int .i64 e.entry,.int .i64 e.target,.int .i64 e.date,.str e.zb,.str e.name,.str e.value,.bool e.first],.box [.int .u8 e.kind,.int .i64 e.id,.int .i64 e.entry,.int .i64 e.target,.int .i64 e.date,.str e.zb,.str e.name,.str e.value,.bool e.first],.box [.int .u8 e.kind,.str e.zb,.str e.name,.int .i64 e.date],.box [.int .u8 e.kind,.int .i64 e.id,.int .i64 e.entry,.int .i64 e.target,.int .i64 e.date,.str e.zb,.str e.name,.str e.value,.bool e.first],.box [.int .u8 e.kind,.str e.zb,.str e.name,.int .i64 e.date],.arr 1 9 (zh 9 [.int .u8 e.kind,.int .i64 e.id,.int .i64 e.entry,.int .i64 e.target,.int .i64 e.date,.str e.zb,.str e.name,.str e.value,.bool e.first]),.arr 1 9 (zh 9 [.int .u8 e.kind,.int .i64 e.id,.int .i64 e.entry,.int .i64 e.target,.int .i64 e.date,.str e.zb,.str e.name,.str e.value,.bool e.first])]))))) (.side (0=0∧evs.length≤evs.length∧(evs.length+1)*96≤140737488355328) (.side (0=0∧lat.length=lat.length) (.side (0=0∧lat.length≤lat.length∧(lat.length+1)*96≤140737488355328) (.leaf (.ret [.int .i64 0] [.box [.osl 1 9 0 (evs.length+1),.omap 2,.osl 3 9 0 (lat.length+1)],.arr (evs.length+1) 9 (appG evs.length (evG evs) (zg (zh 9 [.int .u8 e.kind,.int .i64 e.id,.int .i64 e.entry,.int .i64 e.target,.int .i64 e.date,.str e.zb,.str e.name,.str e.value,.bool e.first]) 0)),Blk.map true [Sum.inl .u8,Sum.inr false,Sum.inr false,Sum.inl .i64] (jd (zr lat) [Sum.inl e.kind,Sum.inr e.zb,Sum.inr e.name,Sum.inl e.date]) (zF (zF (z2 lat) [Sum.inl e.kind,Sum.inr e.zb,Sum.inr e.name,Sum.inl e.date] .undef) [Sum.inl e.kind,Sum.inr e.zb,Sum.inr e.name,Sum.inl e.date] (.int .i64 e.id)),.arr (lat.length+1) 9 (appG lat.length (evG lat) (zg (zh 9 [.int .u8 e.kind,.int .i64 e.id,.int .i64 e.entry,.int .i64 e.target,.int .i64 e.date,.str e.zb,.str e.name,.str e.value,.bool e.first]) 0)),.box [.int .u8 e.kind,.int .i64 e.id,.int .i64 e.entry,.int .i64 e.target,.int .i64 e.date,.str e.zb,.str e.name,.str e.value,.bool e.first],.box [.int .u8 e.kind,.int .i64 e.id,.int .i64 e.entry,.int .i64 e.target,.int .i64 e.date,.str e.zb,.str e.name,.str e.value,.bool e.first],.box [.int .u8 e.kind,.int .i64 e.id,.int .i64 e.entry,.int .i64 e.target,.int .i64 e.date,.str e.zb,.str e.name,.str e.value,.bool e.first],.box [.int .u8 e.kind,.str e.zb,.str e.name,.int .i64 e.date],.box [.int .u8 e.kind,.int .i64 e.id,.int .i64 e.entry,.int .i64 e.target,.int .i64 e.date,.str e.zb,.str e.name,.str e.value,.bool e.first],.box [.int .u8 e.kind,.str e.zb,.str e.name,.int .i64 e.date],.arr 1 9 (zh 9 [.int .u8 e.kind,.int .i64 e.id,.int .i64 e.entry,.int .i64 e.target,.int .i64 e.date,.str e.zb,.str e.name,.str e.value,.bool e.first]),.arr 1 9 (zh 9 [.int .u8 e.kind,.int .i64 e.id,.int .i64 e.entry,.int .i64 e.target,.int .i64 e.date,.str e.zb,.str e.name,.str e.value,.bool e.first])])))))) (.side (0=0∧evs.length≤evs.length∧(evs.length+1)*96≤140737488355328) (.side (0=0∧lat.length=lat.length) (.side (0=0∧lat.length≤lat.length∧(lat.length+1)*96≤140737488355328) (.leaf (.ret [.int .i64 0] [.box [.osl 1 9 0 (evs.length+1),.omap 2,.osl 3 9 0 (lat.length+1)],.arr (evs.length+1) 9 (appG evs.length (evG evs) (zg (zh 9 [.int .u8 e.kind,.int .i64 e.id,.int .i64 e.entry,.int .i64 e.target,.int .i64 e.date,.str e.zb,.str e.name,.str e.value,.bool e.first]) 0)),Blk.map true [Sum.inl .u8,Sum.inr false,Sum.inr false,Sum.inl .i64] (jd (zr lat) [Sum.inl e.kind,Sum.inr e.zb,Sum.inr e.name,Sum.inl e.date]) (zF (zF (z2 lat) [Sum.inl e.kind,Sum.inr e.zb,Sum.inr e.name,Sum.inl e.date] .undef) [Sum.inl e.kind,Sum.inr e.zb,Sum.inr e.name,Sum.inl e.date] (.int .i64 e.id)),.arr (lat.length+1) 9 (appG lat.length (evG lat) (zg (zh 9 [.int .u8 e.kind,.int .i64 e.id,.int .i64 e.entry,.int .i64 e.target,.int .i64 e.date,.str e.zb,.str e.name,.str e.value,.bool e.first]) 0)),.box [.int .u8 e.kind,.int .i64 e.id,.int .i64 e.entry,.int .i64 e.target,.int .i64 e.date,.str e.zb,.str e.name,.str e.value,.bool e.first],.box [.int .u8 e.kind,.int .i64 e.id,.int .i64 e.entry,.int .i64 e.target,.int .i64 e.date,.str e.zb,.str e.name,.str e.value,.bool e.first],.box [.int .u8 e.kind,.int .i64 e.id,.int .i64 e.entry,.int .i64 e.target,.int .i64 e.date,.str e.zb,.str e.name,.str e.value,.bool e.first],.box [.int .u8 e.kind,.str e.zb,.str e.name,.int .i64 e.date],.box [.int .u8 e.kind,.int .i64 e.id,.int .i64 e.entry,.int .i64 e.target,.int .i64 e.date,.str e.zb,.str e.name,.str e.value,.bool e.first],.box [.int .u8 e.kind,.str e.zb,.str e.name,.int .i64 e.date],.arr 1 9 (zh 9 [.int .u8 e.kind,.int .i64 e.id,.int .i64 e.entry,.int .i64 e.target,.int .i64 e.date,.str e.zb,.str e.name,.str e.value,.bool e.first]),.arr 1 9 (zh 9 [.int .u8 e.kind,.int .i64 e.id,.int .i64 e.entry,.int .i64 e.target,.int .i64 e.date,.str e.zb,.str e.name,.str e.value,.bool e.first])])))))))) (.ite false (.leaf (.ret [.int .i64 24] [.box [.osl 1 9 0 evs.length,.omap 2,.osl 3 9 0 lat.length],.arr evs.length 9 (evG evs),Blk.map true [Sum.inl .u8,Sum.inr false,Sum.inr false,Sum.inl .i64] (zr lat) (z2 lat),.arr lat.length 9 (evG lat),.box [.int .u8 e.kind,.int .i64 e.id,.int .i64 e.entry,.int .i64 e.target,.int .i64 e.date,.str e.zb,.str e.name,.str e.value,.bool e.first],.box [.int .u8 0,.int .i64 0,.int .i64 0,.int .i64 0,.int .i64 0,.str #[].toList,.str #[].toList,.str #[].toList,.bool false],.box [.int .u8 e.kind,.int .i64 e.id,.int .i64 e.entry,.int .i64 e.target,.int .i64 e.date,.str e.zb,.str e.name,.str e.value,.bool e.first],.box [.int .u8 e.kind,.str e.zb,.str e.name,.int .i64 e.date]])) (.all (fun(x:Int)=>True) fun n=>.side (n=n) (.all (fun(x:Bool)=>True) fun n=>.ite n (.all (fun(x:Bool)=>True) fun n=>.ite n (.side (0=0∧evs.length≤evs.length∧(evs.length+1)*96≤140737488355328) (.side (0=0∧lat.length=lat.length) (.side (0=0∧lat.length≤lat.length∧(lat.length+1)*96≤140737488355328) (.leaf (.ret [.int .i64 0] [.box [.osl 1 9 0 (evs.length+1),.omap 2,.osl 3 9 0 (lat.length+1)],.arr (evs.length+1) 9 (appG evs.length (evG evs) (zg (zh 9 [.int .u8 e.kind,.int .i64 e.id,.int .i64 e.entry,.int .i64 e.target,.int .i64 e.date,.str e.zb,.str e.name,.str e.value,.bool e.first]) 0)),Blk.map true [Sum.inl .u8,Sum.inr false,Sum.inr false,Sum.inl .i64] (jd (zr lat) [Sum.inl e.kind,Sum.inr e.zb,Sum.inr e.name,Sum.inl e.date]) (zF (zF (z2 lat) [Sum.inl e.kind,Sum.inr e.zb,Sum.inr e.name,Sum.inl e.date] .undef) [Sum.inl e.kind,Sum.inr e.zb,Sum.inr e.name,Sum.inl e.date] (.int .i64 e.id)),.arr (lat.length+1) 9 (appG lat.length (evG lat) (zg (zh 9 [.int .u8 e.kind,.int .i64 e.id,.int .i64 e.entry,.int .i64 e.target,.int .i64 e.date,.str e.zb,.str e.name,.str e.value,.bool e.first]) 0)),.box [.int .u8 e.kind,.int .i64 e.id,.int .i64 e.entry,.int .i64 e.target,.int .i64 e.date,.str e.zb,.str e.name,.str e.value,.bool e.first],.box [.int .u8 e.kind,.int .i64 e.id,.int .i64 e.entry,.int .i64 e.target,.int .i64 e.date,.str e.zb,.str e.name,.str e.value,.bool e.first],.box [.int .u8 e.kind,.int .i64 e.id,.int .i64 e.entry,.int .i64 e.target,.int .i64 e.date,.str e.zb,.str e.name,.str e.value,.bool e.first],.box [.int .u8 e.kind,.str e.zb,.str e.name,.int .i64 e.date],.box [.int .u8 e.kind,.int .i64 e.id,.int .i64 e.entry,.int .i64 e.target,.int .i64 e.date,.str e.zb,.str e.name,.str e.value,.bool e.first],.box [.int .u8 e.kind,.str e.zb,.str e.name,.int .i64 e.date],.arr 1 9 (zh 9 [.int .u8 e.kind,.int .i64 e.id,.int .i64 e.entry,.int .i64 e.target,.int .i64 e.date,.str e.zb,.str e.name,.str e.value,.bool e.first]),.arr 1 9 (zh 9 [.int .u8 e.kind,.int .i64 e.id,.int .i64 e.entry,.int .i64 e.target,.int .i64 e.date,.str e.zb,.str e.name,.str e.value,.bool e.first])]))))) (.side (0=0∧evs.length≤evs.length∧(evs.length+1)*96≤140737488355328) (.side (0=0∧lat.length=lat.length) (.side (0=0∧lat.length≤lat.length∧(lat.length+1)*96≤140737488355328) (.leaf (.ret [.int .i64 0] [.box [.osl 1 9 0 (evs.length+1),.omap 2,.osl 3 9 0 (lat.length+1)],.arr (evs.length+1) 9 (appG evs.length (evG evs) (zg (zh 9 [.int .u8 e.kind,.int .i64 e.id,.int .i64 e.entry,.int .i64 e.target,.int .i64 e.date,.str e.zb,.str e.name,.str e.value,.bool e.first]) 0)),Blk.map true [Sum.inl .u8,Sum.inr false,Sum.inr false,Sum.inl .i64] (jd (zr lat) [Sum.inl e.kind,Sum.inr e.zb,Sum.inr e.name,Sum.inl e.date]) (zF (zF (z2 lat) [Sum.inl e.kind,Sum.inr e.zb,Sum.inr e.name,Sum.inl e.date] .undef) [Sum.inl e.kind,Sum.inr e.zb,Sum.inr e.name,Sum.inl e.date] (.int .i64 e.id)),.arr (lat.length+1) 9 (appG lat.length (evG lat) (zg (zh 9 [.int .u8 e.kind,.int .i64 e.id,.int .i64 e.entry,.int .i64 e.target,.int .i64 e.date,.str e.zb,.str e.name,.str e.value,.bool e.first]) 0)),.box [.int .u8 e.kind,.int .i64 e.id,.int .i64 e.entry,.int .i64 e.target,.int .i64 e.date,.str e.zb,.str e.name,.str e.value,.bool e.first],.box [.int .u8 e.kind,.int .i64 e.id,.int .i64 e.entry,.int .i64 e.target,.int .i64 e.date,.str e.zb,.str e.name,.str e.value,.bool e.first],.box [.int .u8 e.kind,.int .i64 e.id,.int .i64 e.entry,.int .i64 e.target,.int .i64 e.date,.str e.zb,.str e.name,.str e.value,.bool e.first],.box [.int .u8 e.kind,.str e.zb,.str e.name,.int .i64 e.date],.box [.int .u8 e.kind,.int .i64 e.id,.int .i64 e.entry,.int .i64 e.target,.int .i64 e.date,.str e.zb,.str e.name,.str e.value,.bool e.first],.box [.int .u8 e.kind,.str e.zb,.str e.name,.int .i64 e.date],.arr 1 9 (zh 9 [.int .u8 e.kind,.int .i64 e.id,.int .i64 e.entry,.int .i64 e.target,.int .i64 e.date,.str e.zb,.str e.name,.str e.value,.bool e.first]),.arr 1 9 (zh 9 [.int .u8 e.kind,.int .i64 e.id,.int .i64 e.entry,.int .i64 e.target,.int .i64 e.date,.str e.zb,.str e.name,.str e.value,.bool e.first])])))))) (.side (0=0∧evs.length≤evs.length∧(evs.length+1)*96≤140737488355328) (.side (0=0∧lat.length=lat.length) (.side (0=0∧lat.length≤lat.length∧(lat.length+1)*96≤140737488355328) (.leaf (.ret [.int .i64 0] [.box [.osl 1 9 0 (evs.length+1),.omap 2,.osl 3 9 0 (lat.length+1)],.arr (evs.length+1) 9 (appG evs.length (evG evs) (zg (zh 9 [.int .u8 e.kind,.int .i64 e.id,.int .i64 e.entry,.int .i64 e.target,.int .i64 e.date,.str e.zb,.str e.name,.str e.value,.bool e.first]) 0)),Blk.map true [Sum.inl .u8,Sum.inr false,Sum.inr false,Sum.inl .i64] (jd (zr lat) [Sum.inl e.kind,Sum.inr e.zb,Sum.inr e.name,Sum.inl e.date]) (zF (zF (z2 lat) [Sum.inl e.kind,Sum.inr e.zb,Sum.inr e.name,Sum.inl e.date] .undef) [Sum.inl e.kind,Sum.inr e.zb,Sum.inr e.name,Sum.inl e.date] (.int .i64 e.id)),.arr (lat.length+1) 9 (appG lat.length (evG lat) (zg (zh 9 [.int .u8 e.kind,.int .i64 e.id,.int .i64 e.entry,.int .i64 e.target,.int .i64 e.date,.str e.zb,.str e.name,.str e.value,.bool e.first]) 0)),.box [.int .u8 e.kind,.int .i64 e.id,.int .i64 e.entry,.int .i64 e.target,.int .i64 e.date,.str e.zb,.str e.name,.str e.value,.bool e.first],.box [.int .u8 e.kind,.int .i64 e.id,.int .i64 e.entry,.int .i64 e.target,.int .i64 e.date,.str e.zb,.str e.name,.str e.value,.bool e.first],.box [.int .u8 e.kind,.int .i64 e.id,.int .i64 e.entry,.int .i64 e.target,.int .i64 e.date,.str e.zb,.str e.name,.str e.value,.bool e.first],.box [.int .u8 e.kind,.str e.zb,.str e.name,.int .i64 e.date],.box [.int .u8 e.kind,.int .i64 e.id,.int .i64 e.entry,.int .i64 e.target,.int .i64 e.date,.str e.zb,.str e.name,.str e.value,.bool e.first],.box [.int .u8 e.kind,.str e.zb,.str e.name,.int .i64 e.date],.arr 1 9 (zh 9 [.int .u8 e.kind,.int .i64 e.id,.int .i64 e.entry,.int .i64 e.target,.int .i64 e.date,.str e.zb,.str e.name,.str e.value,.bool e.first]),.arr 1 9 (zh 9 [.int .u8 e.kind,.int .i64 e.id,.int .i64 e.entry,.int .i64 e.target,.int .i64 e.date,.str e.zb,.str e.name,.str e.value,.bool e.first])])))))))))))))))) (by kernel_rfl) ?_
 simp only [Tree.holds,zd]
 have fin:∀ (r:Int) (h:Heap) (b1 b2 b3 b4:Blk) (rest:Heap),h=b1::b2::b3::b4::rest→r=SS.errA ⟨evs,lat⟩ e→eqH (expH (b1::b2::b3::b4::rest) [0,1,2,3]) (HSt (SS.add ⟨evs,lat⟩ e))→RetR addC 4 Q [.int .i64 r] h:=by
  rintro r h b1 b2 b3 b4 rest rfl rfl he
  exact RetR.keep [0,1,2,3] rfl (by simp) (by show ∀ j,j<4→_; decide) rfl hq (by simp [resV,exp2,exp1,exp0,ren0,eqA2,eqL1]) he rfl
 have bad:∀ (r:Int) (h:Heap) (rest:Heap),h=HSt ⟨evs,lat⟩++rest→r≠0→SS.errA ⟨evs,lat⟩ e=r→RetR addC 4 Q [.int .i64 r] h:=by
  intro r h rest hh hr0 hr
  refine fin _ _ _ _ _ _ _ hh hr.symm ?_
  have:SS.add ⟨evs,lat⟩ e=⟨evs,lat⟩:=by unfold SS.add; rw [if_pos (by rw [hr]; exact hr0)]
  rw [this]
  simp [expH,expB,exp1,exp0,ren0,zo,HSt,za]
 clear hq
 simp only [inR,lo,hi]
 refine⟨e,⟨by simp [Ev.av],hs⟩,⟨_,rfl⟩,?_⟩
 rintro _ rfl
 refine⟨fun _=>by omega,fun _=>⟨fun h=> ?_,fun h=> ?_⟩⟩
 ·refine bad _ _ _ rfl (by decide) ?_
  unfold SS.errA
  rw [if_pos]
  cases hv:e.valid with
  | false=>exact .inl rfl
  | true=>
   rw [hv] at h
   right
   simpa using h
 have h2:¬ (e.valid=false∨e.id≠evs.length+1):=by
  cases hv:e.valid with
  | false=>rw [hv] at h; simp at h
  | true=>
   rw [hv] at h
   simpa using h
 clear h
 have hv:e.valid=true:=by
  cases hv:e.valid
  ·exact absurd (.inl hv) h2
  ·rfl
 have hid:e.id=evs.length+1:=Decidable.byContradiction fun g=>h2 (.inr g)
 refine⟨fun g=>by have:=of_decide_eq_true g; omega,fun _=>⟨fun g=>by have:=of_decide_eq_true g; omega,fun _=>⟨fun h=> ?_,fun h=> ?_⟩⟩⟩
 ·refine bad _ _ _ rfl (by decide) ?_
  unfold SS.errA
  rw [if_neg h2,if_pos]
  rw [Vh,Bool.and_eq_true,decide_eq_true_eq,decide_eq_true_eq] at h
  rw [show 0+((evs.length:Int) - 1).toNat=evs.length - 1 by omega] at h
  exact⟨by simp only; omega,h.2⟩
 have h21:¬ (0<evs.length∧e.entry<(evs.getD (evs.length - 1) Ev.nil).entry):=by
  rw [Vh,Bool.and_eq_false_iff,decide_eq_false_iff_not,decide_eq_false_iff_not] at h
  rw [show 0+((evs.length:Int) - 1).toNat=evs.length - 1 by omega] at h
  rintro⟨g1,g2⟩
  rcases h with h | h
  ·omega
  ·exact h g2
 clear h
 refine⟨fun h=> ?_,fun h=> ?_⟩
 ·refine bad _ _ _ rfl (by decide) ?_
  unfold SS.errA
  rw [if_neg h2,if_neg h21,if_pos]
  have:=of_decide_eq_true h
  simp only; omega
 have h22:¬ 1000≤evs.length:=by have:=of_decide_eq_false h; omega
 clear h
 have hlen:=ho.len
 simp only at hlen
 refine⟨fun ht=> ?_,fun ht=> ?_⟩
 ·have ht:0<e.target:=of_decide_eq_true ht
  have hA:SS.errA ⟨evs,lat⟩ e=SS.errC ⟨evs,lat⟩ e:=by unfold SS.errA; rw [if_neg h2,if_neg h21,if_neg h22,if_pos ht]
  obtain⟨c1,c2,c3⟩:=VA ho ht
  refine⟨(⟨evs,lat⟩,e),⟨by simp [Ev.av],by simp [za],trivial,ho,by simp only; omega,ht⟩,⟨_,rfl⟩,?_⟩
  rintro _ rfl
  refine⟨fun h=> ?_,fun h=> ?_⟩
  ·have h:SS.errC ⟨evs,lat⟩ e≠0:=by simpa using h
   have hc:SS.cor ⟨evs,lat⟩ e=⟨evs,lat⟩:=by unfold SS.cor; rw [if_neg h]
   refine bad _ _ _ (by simp only [hc]; rfl) h hA
  ·have h:SS.errC ⟨evs,lat⟩ e=0:=by simpa using h
   dsimp only
   have had:SS.add ⟨evs,lat⟩ e=⟨(SS.cor ⟨evs,lat⟩ e).evs++[e],(SS.cor ⟨evs,lat⟩ e).lat++[Ev.nil]⟩:=by
    unfold SS.add; rw [if_neg (by rw [hA,h]; decide),if_pos ht,c3]
   rw [had] at fin
   simp only at c2 c3
   have e1:(SS.cor ⟨evs,lat⟩ e).evs.length=evs.length:=by rw [c3]
   refine vC ?_ ?_
   ·refine vC ?_ ?_<;>refine⟨⟨trivial,Nat.le_refl _,by omega⟩,fun _=>⟨⟨trivial,trivial⟩,fun _=>⟨⟨trivial,Nat.le_refl _,by omega⟩,fun _=>fin _ _ _ _ _ _ _ rfl (by rw [hA,h]) ?_⟩⟩⟩ <;>
     exact⟨by simp [expB,exp1,exp0,ren0,zo],⟨by simp,rfl,wQ (x:=e) (za _ _ _)⟩,⟨⟨rfl,.inl rfl⟩,rfl,fun k=>(xO k).1,fun k hk=>(xO k).2 (by rw [← (xO k).1]; exact hk)⟩,⟨by simp,rfl,wQ (x:=Ev.nil) (za _ _ _)⟩,trivial⟩
   ·refine⟨⟨trivial,Nat.le_refl _,by omega⟩,fun _=>⟨⟨trivial,trivial⟩,fun _=>⟨⟨trivial,Nat.le_refl _,by omega⟩,fun _=>fin _ _ _ _ _ _ _ rfl (by rw [hA,h]) ?_⟩⟩⟩
    exact⟨by simp [expB,exp1,exp0,ren0,zo],⟨by simp,rfl,wQ (x:=e) (za _ _ _)⟩,⟨⟨rfl,.inl rfl⟩,rfl,fun k=>(xO k).1,fun k hk=>(xO k).2 (by rw [← (xO k).1]; exact hk)⟩,⟨by simp,rfl,wQ (x:=Ev.nil) (za _ _ _)⟩,trivial⟩
 ·have ht:¬ 0<e.target:=of_decide_eq_false ht
  refine⟨fun hk=>⟨fun _=> ?_,fun g=>by have:=of_decide_eq_false g; omega⟩,fun hk=>⟨fun g=>(by cases g),fun _=>⟨⟨0,trivial⟩,fun st _=>⟨trivial,fun _=> ?_⟩⟩⟩⟩
  ·refine bad _ _ _ rfl (by decide) ?_
   unfold SS.errA
   rw [if_neg h2,if_neg h21,if_neg h22,if_neg ht,if_pos]
   exact hk
  ·have hA:SS.errA ⟨evs,lat⟩ e=0:=by
    unfold SS.errA
    rw [if_neg h2,if_neg h21,if_neg h22,if_neg ht,if_neg]
    simp only [Ev.key]
    rw [hk]; decide
   have had:SS.add ⟨evs,lat⟩ e=⟨evs++[e],lat++[e]⟩:=by unfold SS.add; rw [if_neg (by rw [hA]; decide),if_neg ht]
   rw [had] at fin
   have hk0:e.kind≠0:=by
    intro g
    unfold Ev.valid at hv
    rw [if_neg (by omega),if_neg (by omega)] at hv
    simp only [Bool.and_eq_true,inB,decide_eq_true_eq] at hv
    omega
   have hmap:eqB (.map true [.inl .u8,.inr false,.inr false,.inl .i64] (jd (zr lat) e.key) (zF (zF (z2 lat) e.key .undef) e.key (.int .i64 e.id))) (.map true [.inl .u8,.inr false,.inr false,.inl .i64] (zr (lat++[e])) (z2 (lat++[e]))):=by
    refine⟨⟨rfl,.inl rfl⟩,rfl,fun k=>Yq (s:=⟨evs,lat⟩) hk0 k,fun k hk'=> ?_⟩
    rw [Yq (s:=⟨evs,lat⟩) hk0 k] at hk'
    have:=VZ (s:=⟨evs,lat⟩) hk0 (by simp only [hlen]; omega) hk k hk'
    rw [← this]
    unfold zF
    split<;>rfl
   refine vC ?_ ?_
   ·refine vC ?_ ?_<;>refine⟨⟨trivial,Nat.le_refl _,by omega⟩,fun _=>⟨⟨trivial,trivial⟩,fun _=>⟨⟨trivial,Nat.le_refl _,by omega⟩,fun _=>fin _ _ _ _ _ _ _ rfl hA.symm ?_⟩⟩⟩ <;>
     exact⟨by simp [expB,exp1,exp0,ren0,zo],⟨by simp,rfl,wQ (x:=e) (za _ _ _)⟩,hmap,⟨by simp,rfl,wQ (x:=e) (za _ _ _)⟩,trivial⟩
   ·refine⟨⟨trivial,Nat.le_refl _,by omega⟩,fun _=>⟨⟨trivial,trivial⟩,fun _=>⟨⟨trivial,Nat.le_refl _,by omega⟩,fun _=>fin _ _ _ _ _ _ _ rfl hA.symm ?_⟩⟩⟩
    exact⟨by simp [expB,exp1,exp0,ren0,zo],⟨by simp,rfl,wQ (x:=e) (za _ _ _)⟩,hmap,⟨by simp,rfl,wQ (x:=e) (za _ _ _)⟩,trivial⟩
end Go.Proofs.Try
end
section
namespace Go.Sx
variable [Stat]
section
variable {O:Nat→Prop} {pin:Nat} {w0:World} {σ0:List SE} {w:World} {σ:List SE} {P:Program} {st:St} {a:Act} {fn:Func} {Xp:List PanicEntry→Prop}
theorem Zo{own:Nat→Prop}{i sz:Nat}(he:σ[i]?=some ⟨none,0⟩):∀ (cs:List AV) (j:Nat) (vs:List Value),cs[j]?=some .nils→RepL own w cs σ vs→RepL own w (cs.set j (.osl i sz 0 0)) σ vs
 | [],j,_,h,_=>by simp at h
 | b::l,0,vs,h,hr=>by
  simp only [List.getElem?_cons_zero,Option.some.injEq] at h
  subst h
  simp only [RepL] at hr
  obtain⟨v,r,rfl,h1,h2⟩:=hr
  simp only [Rep] at h1
  simp only [List.set_cons_zero,RepL]
  refine⟨v,r,rfl,?_,h2⟩
  rw [h1]
  simp only [Rep]
  exact⟨⟨none,0⟩,he,by simp,none,0,rfl,Nat.le_refl _,.inl rfl⟩
 | b::l,j+1,vs,h,hr=>by
  simp only [List.getElem?_cons_succ] at h
  simp only [RepL] at hr
  obtain⟨v,r,rfl,h1,h2⟩:=hr
  simp only [List.set_cons_succ,RepL]
  exact⟨v,r,rfl,h1,Zo he l j r h h2⟩
def V1(st:St)(i j sz:Nat)(g:Nat→Nat→AV)(cs:List AV):St:=⟨st.tmps,st.heap.set i (.box (cs.set j (.osl st.heap.length sz 0 0)))++[.arr 0 sz g]⟩
theorem VY(hm:Mod O pin w0 σ0 w σ st a){i j sz:Nat}{g:Nat→Nat→AV}{cs:List AV}(hb:st.heap[i]?=some (.box cs))(hj:cs[j]?=some .nils)(hno:st.tmps.all zB=true):Mod O pin w0 σ0 w (σ++[⟨none,0⟩]) (V1 st i j sz g cs) a:=by
 obtain⟨k1,k2,k3⟩:=WI hm.good hm.hp sz g
 have hx:=ext_nil (O:=O) w σ 0
 have hlt:=(List.getElem?_eq_some_iff.1 hb).1
 have hp:HRep (Own O (σ++[⟨none,0⟩])) w (σ++[⟨none,0⟩]) ((st.heap++[Blk.arr 0 sz g]).set i (Blk.box (cs.set j (.osl st.heap.length sz 0 0)))):=by
  refine Q0 k1 fun e he=> ?_
  have h1:=k1.blk i e (.box cs) he (by rw [List.getElem?_append_left hlt]; exact hb)
  simp only [BRep] at h1 ⊢
  obtain⟨ad,vs,el,q1,q2,q3,q4⟩:=h1
  exact⟨ad,vs,el,q1,q2,q3,Zo (by rw [← hm.hp.len]; simp) cs j vs hj q4⟩
 rw [List.set_append_left _ _ hlt] at hp
 refine⟨k2,hp,by simp [V1,hm.size],fun u=> ?_,hm.df.ext hx,hm.since.trans ⟨hx,fun _ _ _=>rfl,w4.of k3 (by simp)⟩,hm.lim⟩
 have hu:=hm.tm u
 show TRep _ _ _ _ (st.tmps.getD u .undef) _
 have hn:zB (st.tmps.getD u .undef)=true:=by
  by_cases hlt:u<st.tmps.length
  ·simp only [List.getD,List.getElem?_eq_getElem hlt,Option.getD_some]
   exact List.all_eq_true.1 hno _ (List.getElem_mem hlt)
  ·simp only [List.getD]
   rw [List.getElem?_eq_none (by omega)]; rfl
 generalize st.tmps.getD u .undef=x at hu hn
 cases x with
 | opt _ _ _=>simp [zB] at hn
 | _=>simp only [TRep] at hu ⊢; exact qa hx k3 _ _ (jb _) hu
theorem zc.UX{M:Option Nat}{Hs:Nat→KV→Heap→Prop}{R:List AV→Heap→Prop}{k:List Item}{kv:KV}{h:Heap}(i j sz:Nat)(g:Nat→Nat→AV){cs:List AV}(hb:h[i]?=some (.box cs))(hj:cs[j]?=some .nils)(hno:(pk fn.ntmps kv).all zB=true)
  (H:z7 Xp M P fn O pin w0 σ0 Hs R k (mk fn.ntmps kv (h.set i (.box (cs.set j (.osl h.length sz 0 0)))++[.arr 0 sz g]))):z7 Xp M P fn O pin w0 σ0 Hs R k (mk fn.ntmps kv h):=
 fun w σ a hm=>H w _ a (VY hm hb hj hno)
end
end Go.Sx
end
section
namespace Go.Sx
variable [Stat]
variable {P:Program} {fn:Func} {Xp:List PanicEntry→Prop}
def ctrD{X R:Type}(fresh:Bool)(inp:X→List AV)(pre:X→Prop)(yes:X→Bool)(post:X→R→Prop)(out:X→R→AV×Heap)(no:X→AV×Heap):Ctr where
 fresh:=fresh
 spec args hc:=match hc with
  | []=>.ex (fun x=>eqL args (inp x)∧pre x) fun x=>.ite (yes x) (.all (post x) fun r=>.leaf (out x r)) (.leaf (no x))
  | _=>.fail
theorem YE{X R:Type}{fresh:Bool}{inp:X→List AV}{pre:X→Prop}{yes:X→Bool}{post:X→R→Prop}{out:X→R→AV×Heap}{no:X→AV×Heap}{g:Nat}{c:Code}(hf:P.funcs[g]?=some fn)(hb:fn.body=some c) (hn:(fn.name == "runtime.NumGoroutine")=false)
  (H:∀ x,pre x→∀ (O:Nat→Prop) (w0:World) (Q:AV×Heap→Prop),(yes x=true→∀ r,post x r→Q (out x r))→(yes x=false→Q (no x)) →
   zc P fn O 0 w0 [] (fun _ _ _=>False) (RetR (ctrD fresh inp pre yes post out no) 0 Q) [.code c] (entry fn (inp x))):zf P g (ctrD fresh inp pre yes post out no):=by
 intro args hc Q hq _
 simp only [ctrD] at hq
 split at hq
 ·obtain⟨x,⟨h1,h4⟩,h5,h6⟩:=hq
  refine qk.le h1 (fn_k hf hb hn (fun _=>rfl) fun O w0 σ0 hl=> ?_)
  have:σ0=[]:=List.length_eq_zero_iff.1 (by simpa using hl)
  subst this
  exact H x h4 O w0 Q (fun hy r hr=>(h5 hy).2 r hr) h6
 ·exact hq.elim
theorem zf.frozen{X R:Type}{inp:X→List AV}{pre:X→Prop}{post:X→R→Prop}{out:X→R→AV×Heap}{out':X→R→AV}{g:Nat}(h:zf P g (ctrP true inp pre post out))
  (hn:∀ x r,pre x→post x r→new2 (out x r).2 [] (out x r).1) (he:∀ x r,pre x→post x r→LeA (exp2 (out x r).2 [] (out x r).1) (out' x r)):zf P g (ctrP true inp pre post fun x r=>(out' x r,[])):=by
 intro args hc Q hq hfr
 have hc0:=hfr rfl
 subst hc0
 simp only [ctrP] at hq
 obtain⟨x,⟨h1,h2⟩,h3,h4⟩:=hq
 have k:=h args [] (fun p=>∃ r,post x r∧p=out x r) (by simp only [ctrP]; exact⟨x,⟨h1,h2⟩,h3,fun r hr=>⟨r,hr,rfl⟩⟩) (fun _=>rfl)
 intro O w σ vals hg hh hr
 have hσ:σ=[]:=List.length_eq_zero_iff.1 (by simpa using hh.len)
 subst hσ
 refine xm.mono ?_ (k O w [] vals hg hh hr)
 rintro v w' ⟨a,hs,σ',⟨r,hr,e⟩,g1,g2,g3,g4,g5,g6⟩
 have ea:a=(out x r).1:=by rw [← e]
 have eh:hs=(out x r).2:=by rw [← e]
 have sub:∀ b,Own O σ' b→(Own O σ' b∨((ctrP true inp pre post out).fresh=true∧b<w.heap.size)):=fun b hb=>.inl hb
 have hnew:∀ b,Mine σ' b→w.heap.size≤b:=fun b hb=>by
  rcases g6.grow b hb with hx | hx
  ·obtain⟨_,he,_⟩:=hx; simp at he
  ·exact hx
 have XX:Exp O w' σ' hs [] [] (fun b=>Own O [] b∨((ctrP true inp pre post fun x r=>(out' x r,([]:Heap))).fresh=true∧b<w.heap.size)):=
  ⟨g3,⟨g2.len,g2.inj,g2.lt,fun i e b he hb=>um sub (g2.blk i e b he hb)⟩,rfl,by simp,fun j=>by simp,fun b hb=>by
   rcases hb with hb | ⟨_,hb⟩
   ·exact .inl hb
   ·exact .inr fun hm=>by have:=hnew b hm; omega⟩
 refine⟨out' x r,[],[],h4 r hr,he x r h2 hr _ _ _ _ ?_,⟨rfl,fun i j e f a b he=>by simp at he,fun i e a he=>by simp at he,fun i e b he=>by simp at he⟩,⟨g3.old,fun i e ad he=>by simp at he,g3.stat.own fun b hb=>by
  rcases hb with hb | ⟨e,he,_⟩
  ·exact .inl hb
  ·simp at he⟩,Nat.le_refl _,fun i e he=>by simp at he,⟨g6.os,g6.tape,g6.output,g6.size,fun b hb hno=>g6.keep b hb hno,fun b hb=>by obtain⟨_,he,_⟩:=hb; simp at he⟩⟩
 rw [← ea,← eh]
 exact uF XX (.inr (by rw [ea,eh]; exact hn x r h2 hr)) (jO sub g1)
theorem zc.weak{M:Option Nat}{O:Nat→Prop}{pin:Nat}{w0:World}{σ0:List SE}{Hs:Nat→KV→Heap→Prop}{R:List AV→Heap→Prop}{k:List Item}{kv:KV}{h:Heap}{S:KV}{H:Heap}(hle:LeK pin fn.ntmps kv h S H)
  (hs:z7 Xp M P fn O pin w0 σ0 Hs R k (mk fn.ntmps S H)):z7 Xp M P fn O pin w0 σ0 Hs R k (mk fn.ntmps kv h):=Safe.le hle.le hs
end Go.Sx
end
section
set_option maxRecDepth 100000
open Go Go.Sx Go.Proofs Go.Nov
namespace Go.Proofs.Try
attribute [local simp] eqKV eqA eqA0 eqH eqB eqL eqL0
noncomputable def K14:List Go.Sx.Item:=[.code (Try.f14.body.getD .skip)]
def repC:Ctr:=ctrD false (fun l:List Ev=>[evS l]) (fun l=>l.length<2^40∧∀ e∈l,zp e) (fun l=>(SS.play ⟨[],[]⟩ l).isSome) (fun l (s:SS)=>SS.play ⟨[],[]⟩ l=some s) (fun _ s=>(.tup [.ptr 0 0,.bool true],HSt s)) (fun _=>(.tup [.nilp,.bool false],[]))
def SRe(l:List Ev)(i:Nat):KV:=[(4,.ptr 1 0),(10,evS l),(11,.int .i64 l.length),(12,.int .i64 i)]
def HRe(s:SS):Heap:=[.map true [.inl .u8,.inr false,.inr false,.inl .i64] (zr s.lat) (z2 s.lat),.box [.osl 2 9 0 s.evs.length,.omap 0,.osl 3 9 0 s.lat.length],.arr s.evs.length 9 (evG s.evs),.arr s.lat.length 9 (evG s.lat)]
noncomputable def GRe:Nat→Option Ctr:=fun f=>if f=15 then some (addC) else none
theorem Xf:∀ g c,GRe g=some c→zf Try.prog g c:=okIf V7 (zx)
theorem Qk:zf Try.prog 14 repC:=by
 refine YE (fn:=Try.f14) (c:=Try.f14.body.getD .skip) rfl rfl rfl fun l hp O w0 Q hq hq2=> ?_
 obtain⟨h1,h2⟩:=hp
 refine zc.run hmix Xf [4,10,11,12] 400 (T:=.leaf (.loop (Prod.fst (lps K14 0)) (Prod.snd (lps K14 0)) [(4,.ptr 1 0),(10,.sl l.length 9 (evG l)),(11,.int .i64 l.length),(12,.int .i64 0)] [Blk.map true [Sum.inl .u8,Sum.inr false,Sum.inr false,Sum.inl .i64] QL KH,.box [.nils,.omap 0,.nils]])) (by kernel_rfl) ?_
 refine zc.UX 1 0 9 (evG []) rfl rfl (by kernel_rfl) ?_
 refine zc.UX 1 2 9 (evG []) rfl rfl (by kernel_rfl) ?_
 refine zc.loop (ι:={p:Nat×SS // p.1≤l.length∧p.2.ok∧p.2.evs.length=p.1∧p.2.evs.length≤1000∧p.2.play (l.drop p.1)=SS.play ⟨[],[]⟩ l}) (fun p=>SRe l p.1.1) (fun p=>HRe p.1.2) (fun p=>l.length - p.1.1) ⟨(0,⟨[],[]⟩),Nat.zero_le _,Xg,rfl,by simp,rfl⟩ 0 ?_ ?_ (by kernel_rfl)
 ·exact⟨by simp [SRe,evS,za],by simp [HRe,za,QL,zr],by kernel_rfl,Nat.zero_le _⟩
 ·rintro⟨⟨i,s⟩,hil,hso,hsl,hsm,hpl⟩
  simp only at hil hso hsl hsm hpl
  refine zc.run hmix Xf [4,10,11,12] 400 (T:=.ite (decide ((↑i:Int)<l.length)) (.side ((0:Int)≤i∧(↑i:Int)<l.length) (.ex (fun(x:SS×Ev)=>eqL [AV.ptr 0 0,AV.agg [AV.int .u8 (Ev.kind (l.getD (↑i:Int).toNat Ev.nil)),AV.int .i64 (Ev.id (l.getD (↑i:Int).toNat Ev.nil)),AV.int .i64 (Ev.entry (l.getD (↑i:Int).toNat Ev.nil)),AV.int .i64 (Ev.target (l.getD (↑i:Int).toNat Ev.nil)),AV.int .i64 (Ev.date (l.getD (↑i:Int).toNat Ev.nil)),AV.str (Ev.zb (l.getD (↑i:Int).toNat Ev.nil)),AV.str (Ev.name (l.getD (↑i:Int).toNat Ev.nil)),AV.str (Ev.value (l.getD (↑i:Int).toNat Ev.nil)),AV.bool (Ev.first (l.getD (↑i:Int).toNat Ev.nil))]] [AV.ptr 0 0,AV.agg [AV.int .u8 x.2.kind,AV.int .i64 x.2.id,AV.int .i64 x.2.entry,AV.int .i64 x.2.target,AV.int .i64 x.2.date,AV.str x.2.zb,AV.str x.2.name,AV.str x.2.value,AV.bool x.2.first]]∧eqH [.box [AV.osl 1 9 0 (SS.evs s).length,AV.omap 2,AV.osl 3 9 0 (SS.lat s).length],.arr (SS.evs s).length 9 (evG (SS.evs s)),Blk.map true [Sum.inl .u8,Sum.inr false,Sum.inr false,Sum.inl .i64] (zr (SS.lat s)) (z2 (SS.lat s)),.arr (SS.lat s).length 9 (evG (SS.lat s))] [.box [AV.osl 1 9 0 (SS.evs x.1).length,AV.omap 2,AV.osl 3 9 0 (SS.lat x.1).length],.arr (SS.evs x.1).length 9 (evG (SS.evs x.1)),Blk.map true [Sum.inl .u8,Sum.inr false,Sum.inr false,Sum.inl .i64] (zr (SS.lat x.1)) (z2 (SS.lat x.1)),.arr (SS.lat x.1).length 9 (evG (SS.lat x.1))]∧4=4∧SS.ok x.1∧List.length (SS.evs x.1)≤1000∧zp x.2) fun n=>.all (fun(r:Int)=>r=SS.errA n.1 n.2) fun n_1=>.ite (!decide (n_1=0)) (.leaf (.ret [.nilp,.bool false] [Blk.map true [Sum.inl .u8,Sum.inr false,Sum.inr false,Sum.inl .i64] (zr (SS.lat (SS.add n.1 n.2))) (z2 (SS.lat (SS.add n.1 n.2))),.box [.osl 2 9 0 (List.length (SS.evs (SS.add n.1 n.2))),.omap 0,.osl 3 9 0 (List.length (SS.lat (SS.add n.1 n.2)))],.arr (List.length (SS.evs (SS.add n.1 n.2))) 9 (evG (SS.evs (SS.add n.1 n.2))),.arr (List.length (SS.lat (SS.add n.1 n.2))) 9 (evG (SS.lat (SS.add n.1 n.2))),.box [.int .u8 (Ev.kind (l.getD (↑i:Int).toNat Ev.nil)),.int .i64 (Ev.id (l.getD (↑i:Int).toNat Ev.nil)),.int .i64 (Ev.entry (l.getD (↑i:Int).toNat Ev.nil)),.int .i64 (Ev.target (l.getD (↑i:Int).toNat Ev.nil)),.int .i64 (Ev.date (l.getD (↑i:Int).toNat Ev.nil)),.str (Ev.zb (l.getD (↑i:Int).toNat Ev.nil)),.str (Ev.name (l.getD (↑i:Int).toNat Ev.nil)),.str (Ev.value (l.getD (↑i:Int).toNat Ev.nil)),.bool (Ev.first (l.getD (↑i:Int).toNat Ev.nil))]])) (.side (inR .i64 ((↑i:Int)+(1:Int))) (.leaf (.back 0 [(4,.ptr 1 0),(10,.sl l.length 9 (evG l)),(11,.int .i64 l.length),(12,.int .i64 ((↑i:Int)+(1:Int)))] [Blk.map true [Sum.inl .u8,Sum.inr false,Sum.inr false,Sum.inl .i64] (zr (SS.lat (SS.add n.1 n.2))) (z2 (SS.lat (SS.add n.1 n.2))),.box [.osl 2 9 0 (List.length (SS.evs (SS.add n.1 n.2))),.omap 0,.osl 3 9 0 (List.length (SS.lat (SS.add n.1 n.2)))],.arr (List.length (SS.evs (SS.add n.1 n.2))) 9 (evG (SS.evs (SS.add n.1 n.2))),.arr (List.length (SS.lat (SS.add n.1 n.2))) 9 (evG (SS.lat (SS.add n.1 n.2))),.box [.int .u8 (Ev.kind (l.getD (↑i:Int).toNat Ev.nil)),.int .i64 (Ev.id (l.getD (↑i:Int).toNat Ev.nil)),.int .i64 (Ev.entry (l.getD (↑i:Int).toNat Ev.nil)),.int .i64 (Ev.target (l.getD (↑i:Int).toNat Ev.nil)),.int .i64 (Ev.date (l.getD (↑i:Int).toNat Ev.nil)),.str (Ev.zb (l.getD (↑i:Int).toNat Ev.nil)),.str (Ev.name (l.getD (↑i:Int).toNat Ev.nil)),.str (Ev.value (l.getD (↑i:Int).toNat Ev.nil)),.bool (Ev.first (l.getD (↑i:Int).toNat Ev.nil))]]))))) (.leaf (.ret [.ptr 1 0,.bool true] [Blk.map true [Sum.inl .u8,Sum.inr false,Sum.inr false,Sum.inl .i64] (zr (SS.lat s)) (z2 (SS.lat s)),.box [.osl 2 9 0 (SS.evs s).length,.omap 0,.osl 3 9 0 (SS.lat s).length],.arr (SS.evs s).length 9 (evG (SS.evs s)),.arr (SS.lat s).length 9 (evG (SS.lat s))]))) (by kernel_rfl) ?_
  simp only [Tree.holds,zd]
  simp only [Int.toNat_natCast,inR,lo,hi]
  refine⟨fun h=>⟨by have:=of_decide_eq_true h; omega,fun _=> ?_⟩,fun h=> ?_⟩
  ·have hlt:i<l.length:=by have:=of_decide_eq_true h; omega
   rw [VM hlt] at hpl
   have hsm1:=vp h2 i
   generalize l.getD i Ev.nil=e at hpl hsm1 ⊢
   refine⟨(s,e),⟨by simp [Ev.av],by simp [za],trivial,hso,hsm,hsm1⟩,⟨_,rfl⟩,?_⟩
   rintro _ rfl
   refine⟨fun g=> ?_,fun g=>⟨by omega,fun _=> ?_⟩⟩
   ·have g:s.errA e≠0:=by simpa using g
    rw [if_neg g] at hpl
    rw [← hpl] at hq2
    exact RetR.scal (hq2 rfl) rfl (by simp [resV])
   ·have g:s.errA e=0:=by simpa using g
    rw [if_pos g] at hpl
    obtain⟨a1,a2⟩:=Qa g
    rw [if_pos trivial]
    refine⟨⟨(i+1,s.add e),hlt,KP hso e,by rw [a1]; simp; omega,by rw [a1]; simp; omega,hpl⟩,by show l.length - (i+1)<l.length - i; omega,?_⟩
    exact⟨by simp [SRe,evS,za],by simp [HRe,za],by kernel_rfl,Nat.zero_le _⟩
  ·have hge:i=l.length:=by have:=of_decide_eq_false h; omega
   subst hge
   rw [List.drop_length] at hpl
   rw [← hpl] at hq
   refine RetR.outs [1,2,0,3] rfl rfl (hq rfl _ rfl) (fun h=>by cases h) (by simp [resV,exp2,exp1,exp0,ren0,zo,eqA2,eqL1]) ?_ rfl
   simp [expH,expB,exp1,exp0,ren0,zo,HSt,za]
end Go.Proofs.Try
end
section
namespace Go.Nov
open Go.Sx
def Ev.fact(e:Ev):Bool:=decide (e.kind=1)||decide (e.kind=2)
def zb9(l:List Ev)(id:Int):Bool:=l.any fun x=>decide (x.kind=5)&&decide (x.target=id)
def appS(l:List Ev)(e:Ev):List Ev×Int:=match SS.play ⟨[],[]⟩ l with
 | none=>([],8)
 | some s=>if s.errA e≠0 then([],s.errA e) else(s.evs++[e],0)
end Go.Nov
namespace Go.Nov
end Go.Nov
namespace Go.Nov
end Go.Nov
end
section
set_option maxRecDepth 100000
open Go Go.Sx Go.Proofs Go.Nov
namespace Go.Proofs.Try
attribute [local simp] eqKV eqA eqA0 eqH eqB eqL eqL0
def evP(l:List Ev):Prop:=l.length<2^40∧∀ e∈l,zp e
def kA:Ctr:=ctrP true (fun l:List Ev=>[.agg [evS l]]) evP (fun l r=>r=if(SS.play ⟨[],[]⟩ l).isSome then 0 else 8) (fun _ (r:Int)=>(.int .i64 r,[]))
noncomputable def GCl:Nat→Option Ctr:=fun f=>if f=14 then some (repC) else none
theorem zav:∀ g c,GCl g=some c→zf Try.prog g c:=okIf Qk (zx)
theorem k9:zf Try.prog 13 kA:=by
 refine zn (fn:=Try.f13) (c:=Try.f13.body.getD .skip) rfl rfl rfl fun l hp O w0 Q hq=> ?_
 replace hq:=hq _ rfl
 refine zc.run hmix zav [] 400 (T:=.ex (fun(x:List Ev)=>eqL [AV.sl l.length 9 (evG l)] [AV.sl x.length 9 (evG x)]∧x.length<1099511627776∧∀ (e:Ev),e∈x→zp e) fun n=>.ite (Option.isSome (SS.play { evs:=[],lat:=[] } n)) (.all (fun(s:SS)=>SS.play { evs:=[],lat:=[] } n=some s) fun n=>.ite false (.leaf (.ret [.int .i64 8] [.box [.sl l.length 9 (evG l)],.box [.osl 2 9 0 (SS.evs n).length,.omap 3,.osl 4 9 0 (SS.lat n).length],.arr (SS.evs n).length 9 (evG (SS.evs n)),Blk.map true [Sum.inl .u8,Sum.inr false,Sum.inr false,Sum.inl .i64] (zr (SS.lat n)) (z2 (SS.lat n)),.arr (SS.lat n).length 9 (evG (SS.lat n))])) (.leaf (.ret [.int .i64 0] [.box [.sl l.length 9 (evG l)],.box [.osl 2 9 0 (SS.evs n).length,.omap 3,.osl 4 9 0 (SS.lat n).length],.arr (SS.evs n).length 9 (evG (SS.evs n)),Blk.map true [Sum.inl .u8,Sum.inr false,Sum.inr false,Sum.inl .i64] (zr (SS.lat n)) (z2 (SS.lat n)),.arr (SS.lat n).length 9 (evG (SS.lat n))]))) (.ite true (.leaf (.ret [.int .i64 8] [.box [.sl l.length 9 (evG l)]])) (.leaf (.ret [.int .i64 0] [.box [.sl l.length 9 (evG l)]])))) (by kernel_rfl) ?_
 simp only [Tree.holds,zd]
 have fin:∀ (z:Int) (h:Heap),z=(if(SS.play ⟨[],[]⟩ l).isSome then 0 else 8)→RetR kA 0 Q [.int .i64 z] h:=by
  rintro z h rfl
  exact RetR.scal hq rfl rfl
 refine⟨l,⟨by simp [za],hp⟩,fun h=> ?_,fun h=> ?_⟩
 ·obtain⟨t,ht⟩:=Option.isSome_iff_exists.1 h
  refine⟨⟨t,ht⟩,fun s hs=>⟨fun g=>(by cases g),fun _=>fin _ _ (by rw [if_pos h])⟩⟩
 ·exact⟨fun _=>fin _ _ (by rw [if_neg (by rw [h]; decide)]),fun g=>(by cases g)⟩
theorem Xr{ctr:Ctr}{Q:AV×Heap→Prop}(e:Int)(h:Heap)(hq:Q (.tup [.agg [.osl 0 9 0 0],.int .i64 e],[.arr 0 9 (evG [])])):RetR ctr 0 (upQ Q) [.agg [.nils],.int .i64 e] h:=by
 refine RetR.out0 (r:=.tup [.agg [.nils],.int .i64 e]) (.inr ⟨_,[(9,evG [])],?_,hq⟩) (fun _=>by simp [resV,new2,new1,new0,zT]) (by simp [resV,exp2,exp1,exp0,ren0,eqA2,eqL1])
 simp [upA2,upL1,upA1,upL0,upA0]
theorem Uv{n:Nat}{g:Nat→Nat→AV}{l:List Ev}(h:eqG n 9 g (evG l)):newB (.arr n 9 g):=fun j o hj ho=>by rw [h j o hj ho]; exact WN l j o ho
def US:Ctr:=ctrP true (fun p:List Ev×Ev=>[.agg [evS p.1],p.2.av]) (fun p=>evP p.1∧zp p.2) (fun p r=>r=appS p.1 p.2) (fun _ (r:List Ev×Int)=>(.tup [.agg [.osl 0 9 0 r.1.length],.int .i64 r.2],[.arr r.1.length 9 (evG r.1)]))
noncomputable def GAp:Nat→Option Ctr:=fun f=>if f=14 then some (repC) else if f=15 then some (addC) else none
theorem zax:∀ g c,GAp g=some c→zf Try.prog g c:=okIf Qk (okIf V7 (zx))
theorem Ud:zf Try.prog 5 US:=by
 refine vU (fn:=Try.f5) (c:=Try.f5.body.getD .skip) rfl rfl rfl fun p hp O w0 Q hq=> ?_
 obtain⟨l,e⟩:=p
 replace hq:=hq _ rfl
 refine zc.run hmix zax [] 400 (T:=.ex (fun(x:List Ev)=>eqL [AV.sl l.length 9 (evG l)] [AV.sl x.length 9 (evG x)]∧x.length<1099511627776∧∀ (e:Ev),e∈x→zp e) fun n=>.ite (Option.isSome (SS.play { evs:=[],lat:=[] } n)) (.all (fun(s:SS)=>SS.play { evs:=[],lat:=[] } n=some s) fun n=>.ite false (.leaf (.ret [.agg [.nils],.int .i64 8] [.box [.sl l.length 9 (evG l)],.box [.int .u8 e.kind,.int .i64 e.id,.int .i64 e.entry,.int .i64 e.target,.int .i64 e.date,.str e.zb,.str e.name,.str e.value,.bool e.first],.box [.nils],.box [.osl 4 9 0 (SS.evs n).length,.omap 5,.osl 6 9 0 (SS.lat n).length],.arr (SS.evs n).length 9 (evG (SS.evs n)),Blk.map true [Sum.inl .u8,Sum.inr false,Sum.inr false,Sum.inl .i64] (zr (SS.lat n)) (z2 (SS.lat n)),.arr (SS.lat n).length 9 (evG (SS.lat n))])) (.ex (fun(x:SS×Ev)=>eqL [AV.ptr 0 0,AV.agg [AV.int .u8 e.kind,AV.int .i64 e.id,AV.int .i64 e.entry,AV.int .i64 e.target,AV.int .i64 e.date,AV.str e.zb,AV.str e.name,AV.str e.value,AV.bool e.first]] [AV.ptr 0 0,AV.agg [AV.int .u8 x.2.kind,AV.int .i64 x.2.id,AV.int .i64 x.2.entry,AV.int .i64 x.2.target,AV.int .i64 x.2.date,AV.str x.2.zb,AV.str x.2.name,AV.str x.2.value,AV.bool x.2.first]]∧eqH [.box [AV.osl 1 9 0 (SS.evs n).length,AV.omap 2,AV.osl 3 9 0 (SS.lat n).length],.arr (SS.evs n).length 9 (evG (SS.evs n)),Blk.map true [Sum.inl .u8,Sum.inr false,Sum.inr false,Sum.inl .i64] (zr (SS.lat n)) (z2 (SS.lat n)),.arr (SS.lat n).length 9 (evG (SS.lat n))] [.box [AV.osl 1 9 0 (SS.evs x.1).length,AV.omap 2,AV.osl 3 9 0 (SS.lat x.1).length],.arr (SS.evs x.1).length 9 (evG (SS.evs x.1)),Blk.map true [Sum.inl .u8,Sum.inr false,Sum.inr false,Sum.inl .i64] (zr (SS.lat x.1)) (z2 (SS.lat x.1)),.arr (SS.lat x.1).length 9 (evG (SS.lat x.1))]∧4=4∧SS.ok x.1∧List.length (SS.evs x.1)≤1000∧zp x.2) fun n=>.all (fun(r:Int)=>r=SS.errA n.1 n.2) fun n_1=>.ite (!decide (n_1=0)) (.leaf (.ret [.agg [.nils],.int .i64 n_1] [.box [.sl l.length 9 (evG l)],.box [.int .u8 e.kind,.int .i64 e.id,.int .i64 e.entry,.int .i64 e.target,.int .i64 e.date,.str e.zb,.str e.name,.str e.value,.bool e.first],.box [.nils],.box [.osl 4 9 0 (List.length (SS.evs (SS.add n.1 n.2))),.omap 5,.osl 6 9 0 (List.length (SS.lat (SS.add n.1 n.2)))],.arr (List.length (SS.evs (SS.add n.1 n.2))) 9 (evG (SS.evs (SS.add n.1 n.2))),Blk.map true [Sum.inl .u8,Sum.inr false,Sum.inr false,Sum.inl .i64] (zr (SS.lat (SS.add n.1 n.2))) (z2 (SS.lat (SS.add n.1 n.2))),.arr (List.length (SS.lat (SS.add n.1 n.2))) 9 (evG (SS.lat (SS.add n.1 n.2)))])) (.leaf (.ret [.agg [.osl 4 9 0 (List.length (SS.evs (SS.add n.1 n.2)))],.int .i64 0] [.box [.sl l.length 9 (evG l)],.box [.int .u8 e.kind,.int .i64 e.id,.int .i64 e.entry,.int .i64 e.target,.int .i64 e.date,.str e.zb,.str e.name,.str e.value,.bool e.first],.box [.osl 4 9 0 (List.length (SS.evs (SS.add n.1 n.2)))],.box [.osl 4 9 0 (List.length (SS.evs (SS.add n.1 n.2))),.omap 5,.osl 6 9 0 (List.length (SS.lat (SS.add n.1 n.2)))],.arr (List.length (SS.evs (SS.add n.1 n.2))) 9 (evG (SS.evs (SS.add n.1 n.2))),Blk.map true [Sum.inl .u8,Sum.inr false,Sum.inr false,Sum.inl .i64] (zr (SS.lat (SS.add n.1 n.2))) (z2 (SS.lat (SS.add n.1 n.2))),.arr (List.length (SS.lat (SS.add n.1 n.2))) 9 (evG (SS.lat (SS.add n.1 n.2)))])))) (.ite true (.leaf (.ret [.agg [.nils],.int .i64 8] [.box [.sl l.length 9 (evG l)],.box [.int .u8 e.kind,.int .i64 e.id,.int .i64 e.entry,.int .i64 e.target,.int .i64 e.date,.str e.zb,.str e.name,.str e.value,.bool e.first],.box [.nils]])) (.ex (fun(x:SS×Ev)=>eqL [AV.nilp,AV.agg [AV.int .u8 e.kind,AV.int .i64 e.id,AV.int .i64 e.entry,AV.int .i64 e.target,AV.int .i64 e.date,AV.str e.zb,AV.str e.name,AV.str e.value,AV.bool e.first]] [AV.ptr 0 0,AV.agg [AV.int .u8 x.2.kind,AV.int .i64 x.2.id,AV.int .i64 x.2.entry,AV.int .i64 x.2.target,AV.int .i64 x.2.date,AV.str x.2.zb,AV.str x.2.name,AV.str x.2.value,AV.bool x.2.first]]∧eqH [] [.box [AV.osl 1 9 0 (SS.evs x.1).length,AV.omap 2,AV.osl 3 9 0 (SS.lat x.1).length],.arr (SS.evs x.1).length 9 (evG (SS.evs x.1)),Blk.map true [Sum.inl .u8,Sum.inr false,Sum.inr false,Sum.inl .i64] (zr (SS.lat x.1)) (z2 (SS.lat x.1)),.arr (SS.lat x.1).length 9 (evG (SS.lat x.1))]∧0=4∧SS.ok x.1∧List.length (SS.evs x.1)≤1000∧zp x.2) fun n=>.all (fun(r:Int)=>r=SS.errA n.1 n.2) fun n_1=>.ite (!decide (n_1=0)) (.leaf (.ret [.agg [.nils],.int .i64 n_1] [.box [.sl l.length 9 (evG l)],.box [.int .u8 e.kind,.int .i64 e.id,.int .i64 e.entry,.int .i64 e.target,.int .i64 e.date,.str e.zb,.str e.name,.str e.value,.bool e.first],.box [.nils],.box [.osl 4 9 0 (List.length (SS.evs (SS.add n.1 n.2))),.omap 5,.osl 6 9 0 (List.length (SS.lat (SS.add n.1 n.2)))],.arr (List.length (SS.evs (SS.add n.1 n.2))) 9 (evG (SS.evs (SS.add n.1 n.2))),Blk.map true [Sum.inl .u8,Sum.inr false,Sum.inr false,Sum.inl .i64] (zr (SS.lat (SS.add n.1 n.2))) (z2 (SS.lat (SS.add n.1 n.2))),.arr (List.length (SS.lat (SS.add n.1 n.2))) 9 (evG (SS.lat (SS.add n.1 n.2)))])) .fail))) (by kernel_rfl) ?_
 simp only [Tree.holds,zd]
 obtain⟨hl,he⟩:=hp
 have bad:∀ (z:Int) (h:Heap),appS l e=([],z)→RetR US 0 (upQ Q) [.agg [.nils],.int .i64 z] h:=fun z h hr=>by
  simp only [hr] at hq
  exact Xr z h hq
 refine⟨l,⟨by simp [za],hl⟩,fun h=> ?_,fun h=> ?_⟩
 ·obtain⟨t,ht⟩:=Option.isSome_iff_exists.1 h
  refine⟨⟨t,ht⟩,fun s hs=>⟨fun g=>(by cases g),fun _=> ?_⟩⟩
  obtain⟨a1,a2,a3⟩:=KX hs
  refine⟨(s,e),⟨by simp [Ev.av],by simp [za],trivial,a1,a3,he⟩,⟨_,rfl⟩,?_⟩
  rintro _ rfl
  dsimp only
  refine⟨fun g=> ?_,fun g=> ?_⟩
  ·have g:s.errA e≠0:=by simpa using g
   exact bad _ _ (by unfold appS; rw [hs]; simp only; rw [if_pos g])
  ·have g:s.errA e=0:=by simpa using g
   have hr:appS l e=(s.evs++[e],0):=by unfold appS; rw [hs]; simp only; rw [if_neg (by simpa using g)]
   simp only [hr] at hq
   obtain⟨b1,b2⟩:=Qa g
   rw [b1]
   refine RetR.outs [4] rfl rfl (.inl hq) (fun _=>⟨?_,?_⟩) ?_ ?_ rfl
   ·simp [resV,new2,new1,new0,zo,zT]
   ·simp only [List.mem_cons,List.not_mem_nil,or_false,forall_eq]
    exact Uv (za _ _ _)
   ·simp [resV,exp2,exp1,exp0,ren0,zo,eqA2,eqL1]
   ·simp [expH,expB,za]
 ·refine⟨fun _=>bad _ _ ?_,fun g=>(by cases g)⟩
  unfold appS
  cases hs:SS.play ⟨[],[]⟩ l with
  | none=>rfl
  | some s=>rw [hs] at h; cases h
noncomputable def K31:List Go.Sx.Item:=[.code (Try.f31.body.getD .skip)]
def nanS:Ctr:=ctrP true (fun s:List UInt8=>[.str s]) (fun _=>True) (fun s r=>r=false) (fun _ (r:Bool)=>(.bool r,[]))
def nanI:Ctr:=ctrP true (fun x:Int=>[.int .i64 x]) (fun _=>True) (fun s r=>r=false) (fun _ (r:Bool)=>(.bool r,[]))
theorem YR:zf Try.prog 46 nanS:=by
 refine zn (fn:=Try.f46) (c:=Try.f46.body.getD .skip) rfl rfl rfl fun s hs O w0 Q hq=> ?_
 replace hq:=hq _ rfl
 refine zc.run hmix zA [] 400 (T:=.leaf (.ret [.bool !decide (s=s)] [])) (by kernel_rfl) ?_
 simp only [Tree.holds,zd]
 exact RetR.scal hq rfl (by simp [resV])
theorem Uq:zf Try.prog 47 nanI:=by
 refine zn (fn:=Try.f47) (c:=Try.f47.body.getD .skip) rfl rfl rfl fun s hs O w0 Q hq=> ?_
 replace hq:=hq _ rfl
 refine zc.run hmix zA [] 400 (T:=.leaf (.ret [.bool !decide (s=s)] [])) (by kernel_rfl) ?_
 simp only [Tree.holds,zd]
 exact RetR.scal hq rfl (by simp [resV])
def UH:Ctr:=ctrP true (fun p:List UInt8×List UInt8=>[.str p.1,.str p.2]) (fun _=>True) (fun p r=>r=cmpS p.1 p.2) (fun _ (r:Int)=>(.int .i64 r,[]))
def UT:Ctr:=ctrP true (fun p:Int×Int=>[.int .i64 p.1,.int .i64 p.2]) (fun _=>True) (fun p r=>r=cmpI p.1 p.2) (fun _ (r:Int)=>(.int .i64 r,[]))
noncomputable def GN2:Nat→Option Ctr:=fun f=>if f=46 then some (nanS) else if f=47 then some (nanI) else none
theorem KE:∀ g c,GN2 g=some c→zf Try.prog g c:=okIf YR (okIf Uq (zx))
theorem YV:zf Try.prog 32 UH:=by
 refine zn (fn:=Try.f32) (c:=Try.f32.body.getD .skip) rfl rfl rfl fun p hs O w0 Q hq=> ?_
 obtain⟨s,t⟩:=p
 replace hq:=hq _ rfl
 simp only at hq
 refine zc.run hmix KE [] 400 (T:=.ex (fun(x:List UInt8)=>eqL [AV.str s] [AV.str x]∧True) fun n=>.all (fun(r:Bool)=>r=false) fun n=>.ex (fun(x:List UInt8)=>eqL [AV.str t] [AV.str x]∧True) fun n_1=>.all (fun(r:Bool)=>r=false) fun n_2=>.ite n (.ite n_2 (.leaf (.ret [.int .i64 0] [])) (.leaf (.ret [.int .i64 (-1:Int)] []))) (.ite n_2 (.leaf (.ret [.int .i64 1] [])) (.ite (Op.bytesLess s t) (.leaf (.ret [.int .i64 (-1:Int)] [])) (.ite (!(Op.bytesLess s t||decide (s=t))) (.leaf (.ret [.int .i64 1] [])) (.leaf (.ret [.int .i64 0] [])))))) (by kernel_rfl) ?_
 simp only [Tree.holds,zd]
 refine⟨s,⟨by simp,trivial⟩,⟨_,rfl⟩,?_⟩
 rintro _ rfl
 refine⟨t,⟨by simp,trivial⟩,⟨_,rfl⟩,?_⟩
 rintro _ rfl
 refine⟨fun h=>(by cases h),fun _=>⟨fun h=>(by cases h),fun _=>⟨fun h=> ?_,fun h=>⟨fun h2=> ?_,fun h2=> ?_⟩⟩⟩⟩
 ·have:cmpS s t = -1:=by simp [cmpS,h]
  rw [this] at hq; exact RetR.scal hq rfl (by simp [resV])
 ·have h2:s≠t:=by simpa [h] using h2
  have:cmpS s t=1:=by simp [cmpS,h,h2]
  rw [this] at hq; exact RetR.scal hq rfl (by simp [resV])
 ·have h2:s=t:=by simpa [h] using h2
  subst h2
  have:cmpS s s=0:=by simp [cmpS,h]
  rw [this] at hq; exact RetR.scal hq rfl (by simp [resV])
theorem YP:zf Try.prog 33 UT:=by
 refine zn (fn:=Try.f33) (c:=Try.f33.body.getD .skip) rfl rfl rfl fun p hs O w0 Q hq=> ?_
 obtain⟨s,t⟩:=p
 replace hq:=hq _ rfl
 simp only at hq
 refine zc.run hmix KE [] 400 (T:=.ex (fun(x:Int)=>eqL [AV.int .i64 s] [AV.int .i64 x]∧True) fun n=>.all (fun(r:Bool)=>r=false) fun n=>.ex (fun(x:Int)=>eqL [AV.int .i64 t] [AV.int .i64 x]∧True) fun n_1=>.all (fun(r:Bool)=>r=false) fun n_2=>.ite n (.ite n_2 (.leaf (.ret [.int .i64 0] [])) (.leaf (.ret [.int .i64 (-1:Int)] []))) (.ite n_2 (.leaf (.ret [.int .i64 1] [])) (.ite (decide (s<t)) (.leaf (.ret [.int .i64 (-1:Int)] [])) (.ite (decide (t<s)) (.leaf (.ret [.int .i64 1] [])) (.leaf (.ret [.int .i64 0] [])))))) (by kernel_rfl) ?_
 simp only [Tree.holds,zd]
 refine⟨s,⟨by simp,trivial⟩,⟨_,rfl⟩,?_⟩
 rintro _ rfl
 refine⟨t,⟨by simp,trivial⟩,⟨_,rfl⟩,?_⟩
 rintro _ rfl
 refine⟨fun h=>(by cases h),fun _=>⟨fun h=>(by cases h),fun _=>⟨fun h=> ?_,fun h=>⟨fun h2=> ?_,fun h2=> ?_⟩⟩⟩⟩
 ·have h:=of_decide_eq_true h
  have:cmpI s t = -1:=by simp [cmpI,h]
  rw [this] at hq; exact RetR.scal hq rfl (by simp [resV])
 ·have h:=of_decide_eq_false h
  have h2:=of_decide_eq_true h2
  have:cmpI s t=1:=by simp [cmpI,h,h2]
  rw [this] at hq; exact RetR.scal hq rfl (by simp [resV])
 ·have h:=of_decide_eq_false h
  have h2:=of_decide_eq_false h2
  have:cmpI s t=0:=by simp [cmpI,h,h2]
  rw [this] at hq; exact RetR.scal hq rfl (by simp [resV])
def orC:Ctr:=ctrP true (fun l:List Int=>[.sl l.length 1 (fun j _=>.int .i64 (l.getD j 0))]) (fun l=>l.length<2^40) (fun l r=>r=orI l) (fun _ (r:Int)=>(.int .i64 r,[]))
def SOr(l:List Int)(i:Nat):KV:=[(3,.int .i64 0),(6,.sl l.length 1 (fun j _=>.int .i64 (l.getD j 0))),(7,.int .i64 (l.length:Int)),(8,.int .i64 (i:Int))]
theorem zb3:zf Try.prog 31 orC:=by
 refine zn (fn:=Try.f31) (c:=Try.f31.body.getD .skip) rfl rfl rfl fun l hl O w0 Q hq=> ?_
 replace hq:=hq _ rfl
 refine zc.run hmix zA [3,6,7,8] 400 (T:=.leaf (.loop (Prod.fst (lps K31 0)) (Prod.snd (lps K31 0)) [(3,.int .i64 0),(6,.sl l.length 1 fun(j x:Nat)=>.int .i64 (l.getD j (0:Int))),(7,.int .i64 l.length),(8,.int .i64 0)] [])) (by kernel_rfl) ?_
 simp only [Tree.holds,zd]
 refine zc.loop (ι:={i:Nat // i≤l.length∧orI (l.drop i)=orI l}) (fun i=>SOr l i.1) (fun _=>[]) (fun i=>l.length - i.1) ⟨0,Nat.zero_le _,rfl⟩ 0 ?_ ?_ (by kernel_rfl)
 ·exact⟨by simp [SOr,za],by simp,by kernel_rfl,Nat.zero_le _⟩
 ·rintro⟨i,hil,hio⟩
  refine zc.run hmix zA [3,6,7,8] 400 (T:=.ite (decide ((↑i:Int)<l.length)) (.side ((0:Int)≤i∧(↑i:Int)<l.length) (.ite (!decide (l.getD (↑i:Int).toNat (0:Int)=0)) (.leaf (.ret [.int .i64 (l.getD (↑i:Int).toNat (0:Int))] [])) (.side (inR .i64 ((↑i:Int)+(1:Int))) (.leaf (.back 0 [(3,.int .i64 0),(6,.sl l.length 1 fun(j x:Nat)=>.int .i64 (l.getD j (0:Int))),(7,.int .i64 l.length),(8,.int .i64 ((↑i:Int)+(1:Int)))] []))))) (.leaf (.ret [.int .i64 0] []))) (by kernel_rfl) ?_
  simp only [Tree.holds,zd,inR,lo,hi,Int.toNat_natCast]
  refine⟨fun hlt=> ?_,fun hge=> ?_⟩
  ·have hlt:i<l.length:=by have:=of_decide_eq_true hlt; omega
   have hd:l.drop i=l.getD i 0::l.drop (i+1):=by
    rw [List.drop_eq_getElem_cons hlt]; simp [List.getD,hlt]
   rw [hd] at hio
   refine⟨by omega,fun _=>⟨fun h=> ?_,fun h=>⟨by omega,fun _=> ?_⟩⟩⟩
   ·have h:l.getD i 0≠0:=by simpa using h
    have:orI l=l.getD i 0:=by rw [← hio]; simp only [orI]; rw [if_neg h]
    rw [this] at hq; exact RetR.scal hq rfl (by simp [resV])
   ·have h:l.getD i 0=0:=by simpa using h
    rw [if_pos trivial]
    refine⟨⟨i+1,hlt,?_⟩,by show l.length - (i+1)<l.length - i; omega,by simp [SOr,za],by simp,by kernel_rfl,Nat.zero_le _⟩
    rw [← hio]; simp only [orI]; rw [if_pos h]
  ·have hge:i=l.length:=by have:=of_decide_eq_false hge; omega
   subst hge
   rw [List.drop_length] at hio
   rw [← hio] at hq; exact RetR.scal hq rfl (by simp [resV,orI])
def xo:Ctr:=ctrP true (fun p:Fx×Fx=>[p.1.av,p.2.av]) (fun _=>True) (fun p r=>r=cmpF p.1 p.2) (fun _ (r:Int)=>(.int .i64 r,[]))
def x5:Ctr:=ctrP true (fun p:Ch×Ch=>[p.1.av,p.2.av]) (fun _=>True) (fun p r=>r=cmpC p.1 p.2) (fun _ (r:Int)=>(.int .i64 r,[]))
noncomputable def GN3:Nat→Option Ctr:=fun f=>if f=32 then some (UH) else if f=33 then some (UT) else if f=31 then some (orC) else none
theorem XC:∀ g c,GN3 g=some c→zf Try.prog g c:=okIf YV (okIf YP (okIf zb3 (zx)))
theorem K5(x y:Int):eqG 2 1 (zg (zh 1 [.int .i64 x,.int .i64 y]) 0) (fun j _=>.int .i64 ([x,y].getD j 0)):=by
 intro j o hj ho
 have ho:o=0:=by omega
 subst ho
 rcases j with _ | _ | j
 ·rfl
 ·rfl
 ·omega
theorem Ky(x y z:Int):eqG 3 1 (zg (zh 1 [.int .i64 x,.int .i64 y,.int .i64 z]) 0) (fun j _=>.int .i64 ([x,y,z].getD j 0)):=by
 intro j o hj ho
 have ho:o=0:=by omega
 subst ho
 rcases j with _ | _ | _ | j
 ·rfl
 ·rfl
 ·rfl
 ·omega
theorem kI:zf Try.prog 42 xo:=by
 refine zn (fn:=Try.f42) (c:=Try.f42.body.getD .skip) rfl rfl rfl fun p hs O w0 Q hq=> ?_
 obtain⟨⟨a,d,v⟩,⟨b,e,u⟩⟩:=p
 replace hq:=hq _ rfl
 simp only at hq
 refine zc.run hmix XC [] 400 (T:=.ex (fun(x:List UInt8×List UInt8)=>eqL [AV.str a,AV.str b] [AV.str x.1,AV.str x.2]∧True) fun n=>.all (fun(r:Int)=>r=cmpS n.1 n.2) fun n=>.ex (fun(x:Int×Int)=>eqL [AV.int .i64 d,AV.int .i64 e] [AV.int .i64 x.1,AV.int .i64 x.2]∧True) fun n_1=>.all (fun(r:Int)=>r=cmpI n_1.1 n_1.2) fun n_2=>.ex (fun(x:List Int)=>eqL [AV.sl 2 1 (zg (zh 1 [AV.int .i64 n,AV.int .i64 n_2]) 0)] [AV.sl x.length 1 fun(j x_1:Nat)=>AV.int .i64 (x.getD j (0:Int))]∧x.length<1099511627776) fun n_3=>.all (fun(r:Int)=>r=orI n_3) fun n_4=>.leaf (.ret [.int .i64 n_4] [.box [.str a,.int .i64 d,.str v],.box [.str b,.int .i64 e,.str u],.arr 2 1 (zh 1 [.int .i64 n,.int .i64 n_2])])) (by kernel_rfl) ?_
 simp only [Tree.holds,zd]
 refine⟨(a,b),⟨by simp,trivial⟩,⟨_,rfl⟩,?_⟩
 rintro _ rfl
 refine⟨(d,e),⟨by simp,trivial⟩,⟨_,rfl⟩,?_⟩
 rintro _ rfl
 refine⟨[cmpS a b,cmpI d e],⟨⟨⟨rfl,rfl,K5 _ _⟩,trivial⟩,by simp⟩,⟨_,rfl⟩,?_⟩
 rintro _ rfl
 have:orI [cmpS a b,cmpI d e]=cmpF ⟨a,d,v⟩ ⟨b,e,u⟩:=by
  simp only [orI,cmpF]
  by_cases h:cmpS a b=0
  ·simp only [h,if_true]; split<;>simp_all
  ·simp only [if_neg h]
 rw [this]
 exact RetR.scal hq rfl (by simp [resV])
theorem kU:zf Try.prog 20 x5:=by
 refine zn (fn:=Try.f20) (c:=Try.f20.body.getD .skip) rfl rfl rfl fun p hs O w0 Q hq=> ?_
 obtain⟨⟨a,d,v,f⟩,⟨b,e,u,g⟩⟩:=p
 replace hq:=hq _ rfl
 simp only at hq
 refine zc.run hmix XC [] 400 (T:=.ex (fun(x:List UInt8×List UInt8)=>eqL [AV.str a,AV.str b] [AV.str x.1,AV.str x.2]∧True) fun n=>.all (fun(r:Int)=>r=cmpS n.1 n.2) fun n=>.ex (fun(x:List UInt8×List UInt8)=>eqL [AV.str d,AV.str e] [AV.str x.1,AV.str x.2]∧True) fun n_1=>.all (fun(r:Int)=>r=cmpS n_1.1 n_1.2) fun n_2=>.ex (fun(x:Int×Int)=>eqL [AV.int .i64 v,AV.int .i64 u] [AV.int .i64 x.1,AV.int .i64 x.2]∧True) fun n_3=>.all (fun(r:Int)=>r=cmpI n_3.1 n_3.2) fun n_4=>.ex (fun(x:List Int)=>eqL [AV.sl 3 1 (zg (zh 1 [AV.int .i64 n,AV.int .i64 n_2,AV.int .i64 n_4]) 0)] [AV.sl x.length 1 fun(j x_1:Nat)=>AV.int .i64 (x.getD j (0:Int))]∧x.length<1099511627776) fun n_5=>.all (fun(r:Int)=>r=orI n_5) fun n_6=>.leaf (.ret [.int .i64 n_6] [.box [.str a,.str d,.int .i64 v,.bool f],.box [.str b,.str e,.int .i64 u,.bool g],.arr 3 1 (zh 1 [.int .i64 n,.int .i64 n_2,.int .i64 n_4])])) (by kernel_rfl) ?_
 simp only [Tree.holds,zd]
 refine⟨(a,b),⟨by simp,trivial⟩,⟨_,rfl⟩,?_⟩
 rintro _ rfl
 refine⟨(d,e),⟨by simp,trivial⟩,⟨_,rfl⟩,?_⟩
 rintro _ rfl
 refine⟨(v,u),⟨by simp,trivial⟩,⟨_,rfl⟩,?_⟩
 rintro _ rfl
 refine⟨[cmpS a b,cmpS d e,cmpI v u],⟨⟨⟨rfl,rfl,Ky _ _ _⟩,trivial⟩,by simp⟩,⟨_,rfl⟩,?_⟩
 rintro _ rfl
 have:orI [cmpS a b,cmpS d e,cmpI v u]=cmpC ⟨a,d,v,f⟩ ⟨b,e,u,g⟩:=by
  simp only [orI,cmpC]
  by_cases h:cmpS a b=0
  ·simp only [h,if_true]
   by_cases h2:cmpS d e=0
   ·simp only [h2,if_true]; split<;>simp_all
   ·simp only [if_neg h2]
  ·simp only [if_neg h]
 rw [this]
 exact RetR.scal hq rfl (by simp [resV])
noncomputable def K66:List Go.Sx.Item:=[.code (Try.f66.body.getD .skip)]
noncomputable def K29:List Go.Sx.Item:=[.code (Try.f29.body.getD .skip)]
noncomputable def K57:List Go.Sx.Item:=[.code (Try.f57.body.getD .skip)]
noncomputable def K58:List Go.Sx.Item:=[.code (Try.f58.body.getD .skip)]
def qF(f:Fx):Prop:=f.name.length<2^40∧f.value.length<2^40
def qG(c:Ch):Prop:=c.zb.length<2^40∧c.name.length<2^40
def UL:Ctr:=ctrP true (fun f:Fx=>[f.av]) qF (fun f r=>r = !okF f) (fun _ (r:Bool)=>(.bool r,[]))
def UF:Ctr:=ctrP true (fun c:Ch=>[c.av]) qG (fun c r=>r = !okC c) (fun _ (r:Bool)=>(.bool r,[]))
noncomputable def GE1:Nat→Option Ctr:=fun f=>if f=37 then some (J5) else if f=40 then some (Q6) else if f=36 then some (y4) else none
theorem KM:∀ g c,GE1 g=some c→zf Try.prog g c:=okIf Qp (okIf ZJ (okIf xV (zx)))
theorem YI:zf Try.prog 53 UL:=by
 refine zn (fn:=Try.f53) (c:=Try.f53.body.getD .skip) rfl rfl rfl fun f hs O w0 Q hq=> ?_
 obtain⟨a,d,v⟩:=f
 obtain⟨h1,h2⟩:=hs
 replace hq:=hq _ rfl
 simp only [okF] at hq h1 h2
 refine zc.run hmix KM [] 400 (T:=.ex (fun(x:List UInt8)=>eqL [AV.str a] [AV.str x]∧x.length<4611686018427387904) fun n=>.all (fun(r:Bool)=>r=zN n) fun n=>.ex (fun(x:Int)=>(!n)=false→eqL [AV.int .i64 d] [AV.int .i64 x]∧True) fun n_1=>.all (fun(x:Bool)=>(!n)=false→x=dayB n_1) fun n_2=>.ex (fun(x:List UInt8)=>(bif !n then true else !n_2)=false→eqL [AV.str v] [AV.str x]∧x.length<4611686018427387904) fun n_3=>.all (fun(x:Int)=>(bif !n then true else !n_2)=false→x=errR n_3) fun n_4=>.leaf (.ret [.bool (bif bif !n then true else !n_2 then true else !decide (n_4=0))] [.box [.str a,.int .i64 d,.str v]])) (by kernel_rfl) ?_
 simp only [Tree.holds,zd]
 refine⟨a,⟨by simp,by omega⟩,⟨_,rfl⟩,?_⟩
 rintro _ rfl
 refine⟨d,fun _=>⟨by simp,trivial⟩,⟨_,fun _=>rfl⟩,?_⟩
 intro x hx
 refine⟨v,fun _=>⟨by simp,by omega⟩,⟨_,fun _=>rfl⟩,?_⟩
 intro y hy
 refine RetR.scal hq rfl ?_
 simp only [resV]
 cases hn:zN a with
 | false=>rfl
 | true=>
  rw [hx (by rw [hn]; rfl)] at hy ⊢
  cases hd:dayB d with
  | false=>rfl
  | true=>rw [hy (by rw [hn,hd]; rfl)]; rfl
theorem Ux:zf Try.prog 54 UF:=by
 refine zn (fn:=Try.f54) (c:=Try.f54.body.getD .skip) rfl rfl rfl fun f hs O w0 Q hq=> ?_
 obtain⟨a,v,d,f⟩:=f
 obtain⟨h1,h2⟩:=hs
 replace hq:=hq _ rfl
 simp only [okC] at hq h1 h2
 refine zc.run hmix KM [] 400 (T:=.ex (fun(x:List UInt8)=>eqL [AV.str a] [AV.str x]∧x.length<4611686018427387904) fun n=>.all (fun(r:Bool)=>r=zN n) fun n=>.ex (fun(x:List UInt8)=>(!n)=false→eqL [AV.str v] [AV.str x]∧x.length<4611686018427387904) fun n_1=>.all (fun(x:Bool)=>(!n)=false→x=zN n_1) fun n_2=>.ex (fun(x:Int)=>(bif !n then true else !n_2)=false→eqL [AV.int .i64 d] [AV.int .i64 x]∧True) fun n_3=>.all (fun(x:Bool)=>(bif !n then true else !n_2)=false→x=dayB n_3) fun n_4=>.leaf (.ret [.bool (bif bif !n then true else !n_2 then true else !n_4)] [.box [.str a,.str v,.int .i64 d,.bool f]])) (by kernel_rfl) ?_
 simp only [Tree.holds,zd]
 refine⟨a,⟨by simp,by omega⟩,⟨_,rfl⟩,?_⟩
 rintro _ rfl
 refine⟨v,fun _=>⟨by simp,by omega⟩,⟨_,fun _=>rfl⟩,?_⟩
 intro x hx
 refine⟨d,fun _=>⟨by simp,trivial⟩,⟨_,fun _=>rfl⟩,?_⟩
 intro y hy
 refine RetR.scal hq rfl ?_
 simp only [resV]
 cases hn:zN a with
 | false=>rfl
 | true=>
  rw [hx (by rw [hn]; rfl)] at hy ⊢
  cases hd:zN v with
  | false=>rfl
  | true=>rw [hy (by rw [hn,hd]; rfl)]; rfl
def UN:Ctr:=ctrP true (fun l:List Fx=>[fxS l,.fn 53 [] []]) (fun l=>l.length<2^40∧∀ j,j<l.length→qF (l.getD j Fx.nil)) (fun l r=>r=idxB (fun x=> !okF x) l) (fun _ (r:Int)=>(.int .i64 r,[]))
def SIxF(l:List Fx)(i:Nat):KV:=[(0,fxS l),(1,.fn 53 [] []),(7,.int .i64 (l.length:Int)),(8,.int .i64 (i:Int))]
noncomputable def GE2F:Nat→Option Ctr:=fun f=>if f=53 then some (UL) else none
theorem WL:∀ g c,GE2F g=some c→zf Try.prog g c:=okIf YI (zx)
theorem YD:zf Try.prog 66 UN:=by
 refine zn (fn:=Try.f66) (c:=Try.f66.body.getD .skip) rfl rfl rfl fun l hl O w0 Q hq=> ?_
 obtain⟨hl,hsm⟩:=hl
 replace hq:=hq _ rfl
 refine zc.run hmix WL [0,1,7,8] 400 (T:=.leaf (.loop (Prod.fst (lps K66 0)) (Prod.snd (lps K66 0)) [(0,.sl l.length 3 (fxG l)),(1,.fn 53 [] []),(7,.int .i64 l.length),(8,.int .i64 0)] [])) (by kernel_rfl) ?_
 simp only [Tree.holds,zd]
 refine zc.loop (ι:={i:Nat // i≤l.length∧∀ j,j<i→(!okF (l.getD j Fx.nil))=false}) (fun i=>SIxF l i.1) (fun _=>[]) (fun i=>l.length - i.1) ⟨0,Nat.zero_le _,fun j hj=>by omega⟩ 0 ?_ ?_ (by kernel_rfl)
 ·exact⟨by simp [SIxF,fxS,za],by simp,by kernel_rfl,Nat.zero_le _⟩
 ·rintro⟨i,hil,hib⟩
  refine zc.run hmix WL [0,1,7,8] 400 (T:=.ite (decide ((↑i:Int)<l.length)) (.side ((0:Int)≤i∧(↑i:Int)<l.length) (.ex (fun(x:Fx)=>eqL [AV.agg [AV.str (Fx.name (l.getD (↑i:Int).toNat Fx.nil)),AV.int .i64 (Fx.date (l.getD (↑i:Int).toNat Fx.nil)),AV.str (Fx.value (l.getD (↑i:Int).toNat Fx.nil))]] [AV.agg [AV.str x.name,AV.int .i64 x.date,AV.str x.value]]∧qF x) fun n=>.all (fun(r:Bool)=>r = !okF n) fun n=>.ite n (.leaf (.ret [.int .i64 i] [])) (.side (inR .i64 ((↑i:Int)+(1:Int))) (.leaf (.back 0 [(0,.sl l.length 3 (fxG l)),(1,.fn 53 [] []),(7,.int .i64 l.length),(8,.int .i64 ((↑i:Int)+(1:Int)))] []))))) (.leaf (.ret [.int .i64 (-1:Int)] []))) (by kernel_rfl) ?_
  simp only [Tree.holds,zd,inR,lo,hi,Int.toNat_natCast]
  refine⟨fun hlt=> ?_,fun hge=> ?_⟩
  ·have hlt:i<l.length:=by have:=of_decide_eq_true hlt; omega
   refine⟨by omega,fun _=>⟨l.getD i Fx.nil,⟨by simp,hsm i hlt⟩,⟨_,rfl⟩,?_⟩⟩
   rintro _ rfl
   refine⟨fun h=> ?_,fun h=>⟨by omega,fun _=> ?_⟩⟩
   ·rw [xw hlt h hib] at hq
    exact RetR.scal hq rfl (by simp [resV])
   ·rw [if_pos trivial]
    refine⟨⟨i+1,hlt,fun j hj=> ?_⟩,by show l.length - (i+1)<l.length - i; omega,by simp [SIxF,fxS,za],by simp,by kernel_rfl,Nat.zero_le _⟩
    rcases Nat.lt_or_ge j i with h1 | h1
    ·exact hib j h1
    ·have:j=i:=by omega
     rw [this]; exact h
  ·have hge:i=l.length:=by have:=of_decide_eq_false hge; omega
   subst hge
   rw [vf hib] at hq
   exact RetR.scal hq rfl (by simp [resV])
def UA:Ctr:=ctrP true (fun l:List Fx=>[fxS l,.fn 53 [] []]) (fun l=>l.length<2^40∧∀ j,j<l.length→qF (l.getD j Fx.nil)) (fun l r=>r=l.any fun x=> !okF x) (fun _ (r:Bool)=>(.bool r,[]))
noncomputable def GE3F:Nat→Option Ctr:=fun f=>if f=66 then some (UN) else none
theorem YH:∀ g c,GE3F g=some c→zf Try.prog g c:=okIf YD (zx)
theorem Ua:zf Try.prog 55 UA:=by
 refine zn (fn:=Try.f55) (c:=Try.f55.body.getD .skip) rfl rfl rfl fun l hl O w0 Q hq=> ?_
 replace hq:=hq _ rfl
 refine zc.run hmix YH [] 400 (T:=.ex (fun(x:List Fx)=>eqL [AV.sl l.length 3 (fxG l),AV.fn 53 [] []] [AV.sl x.length 3 (fxG x),AV.fn 53 [] []]∧x.length<1099511627776∧∀ (j:Nat),j<x.length→qF (x.getD j Fx.nil)) fun n=>.all (fun(r:Int)=>r=idxB (fun(x:Fx)=> !okF x) n) fun n=>.leaf (.ret [.bool (decide ((0:Int)≤n))] [])) (by kernel_rfl) ?_
 simp only [Tree.holds,zd]
 refine⟨l,⟨by simp [za],hl⟩,⟨_,rfl⟩,?_⟩
 rintro _ rfl
 rw [← QF] at hq
 exact RetR.scal hq rfl (by simp [resV])
def UB:Ctr:=ctrP true (fun l:List Ch=>[chS l,.fn 54 [] []]) (fun l=>l.length<2^40∧∀ j,j<l.length→qG (l.getD j Ch.nil)) (fun l r=>r=idxB (fun x=> !okC x) l) (fun _ (r:Int)=>(.int .i64 r,[]))
def SIxC(l:List Ch)(i:Nat):KV:=[(0,chS l),(1,.fn 54 [] []),(7,.int .i64 (l.length:Int)),(8,.int .i64 (i:Int))]
noncomputable def GE2C:Nat→Option Ctr:=fun f=>if f=54 then some (UF) else none
theorem WQ:∀ g c,GE2C g=some c→zf Try.prog g c:=okIf Ux (zx)
theorem YJ:zf Try.prog 29 UB:=by
 refine zn (fn:=Try.f29) (c:=Try.f29.body.getD .skip) rfl rfl rfl fun l hl O w0 Q hq=> ?_
 obtain⟨hl,hsm⟩:=hl
 replace hq:=hq _ rfl
 refine zc.run hmix WQ [0,1,7,8] 400 (T:=.leaf (.loop (Prod.fst (lps K29 0)) (Prod.snd (lps K29 0)) [(0,.sl l.length 4 (chG l)),(1,.fn 54 [] []),(7,.int .i64 l.length),(8,.int .i64 0)] [])) (by kernel_rfl) ?_
 simp only [Tree.holds,zd]
 refine zc.loop (ι:={i:Nat // i≤l.length∧∀ j,j<i→(!okC (l.getD j Ch.nil))=false}) (fun i=>SIxC l i.1) (fun _=>[]) (fun i=>l.length - i.1) ⟨0,Nat.zero_le _,fun j hj=>by omega⟩ 0 ?_ ?_ (by kernel_rfl)
 ·exact⟨by simp [SIxC,chS,za],by simp,by kernel_rfl,Nat.zero_le _⟩
 ·rintro⟨i,hil,hib⟩
  refine zc.run hmix WQ [0,1,7,8] 400 (T:=.ite (decide ((↑i:Int)<l.length)) (.side ((0:Int)≤i∧(↑i:Int)<l.length) (.ex (fun(x:Ch)=>eqL [AV.agg [AV.str (Ch.zb (l.getD (↑i:Int).toNat Ch.nil)),AV.str (Ch.name (l.getD (↑i:Int).toNat Ch.nil)),AV.int .i64 (Ch.date (l.getD (↑i:Int).toNat Ch.nil)),AV.bool (Ch.first (l.getD (↑i:Int).toNat Ch.nil))]] [AV.agg [AV.str x.zb,AV.str x.name,AV.int .i64 x.date,AV.bool x.first]]∧qG x) fun n=>.all (fun(r:Bool)=>r = !okC n) fun n=>.ite n (.leaf (.ret [.int .i64 i] [])) (.side (inR .i64 ((↑i:Int)+(1:Int))) (.leaf (.back 0 [(0,.sl l.length 4 (chG l)),(1,.fn 54 [] []),(7,.int .i64 l.length),(8,.int .i64 ((↑i:Int)+(1:Int)))] []))))) (.leaf (.ret [.int .i64 (-1:Int)] []))) (by kernel_rfl) ?_
  simp only [Tree.holds,zd,inR,lo,hi,Int.toNat_natCast]
  refine⟨fun hlt=> ?_,fun hge=> ?_⟩
  ·have hlt:i<l.length:=by have:=of_decide_eq_true hlt; omega
   refine⟨by omega,fun _=>⟨l.getD i Ch.nil,⟨by simp,hsm i hlt⟩,⟨_,rfl⟩,?_⟩⟩
   rintro _ rfl
   refine⟨fun h=> ?_,fun h=>⟨by omega,fun _=> ?_⟩⟩
   ·rw [xw hlt h hib] at hq
    exact RetR.scal hq rfl (by simp [resV])
   ·rw [if_pos trivial]
    refine⟨⟨i+1,hlt,fun j hj=> ?_⟩,by show l.length - (i+1)<l.length - i; omega,by simp [SIxC,chS,za],by simp,by kernel_rfl,Nat.zero_le _⟩
    rcases Nat.lt_or_ge j i with h1 | h1
    ·exact hib j h1
    ·have:j=i:=by omega
     rw [this]; exact h
  ·have hge:i=l.length:=by have:=of_decide_eq_false hge; omega
   subst hge
   rw [vf hib] at hq
   exact RetR.scal hq rfl (by simp [resV])
def UC:Ctr:=ctrP true (fun l:List Ch=>[chS l,.fn 54 [] []]) (fun l=>l.length<2^40∧∀ j,j<l.length→qG (l.getD j Ch.nil)) (fun l r=>r=l.any fun x=> !okC x) (fun _ (r:Bool)=>(.bool r,[]))
noncomputable def GE3C:Nat→Option Ctr:=fun f=>if f=29 then some (UB) else none
theorem Um:∀ g c,GE3C g=some c→zf Try.prog g c:=okIf YJ (zx)
theorem U4:zf Try.prog 56 UC:=by
 refine zn (fn:=Try.f56) (c:=Try.f56.body.getD .skip) rfl rfl rfl fun l hl O w0 Q hq=> ?_
 replace hq:=hq _ rfl
 refine zc.run hmix Um [] 400 (T:=.ex (fun(x:List Ch)=>eqL [AV.sl l.length 4 (chG l),AV.fn 54 [] []] [AV.sl x.length 4 (chG x),AV.fn 54 [] []]∧x.length<1099511627776∧∀ (j:Nat),j<x.length→qG (x.getD j Ch.nil)) fun n=>.all (fun(r:Int)=>r=idxB (fun(x:Ch)=> !okC x) n) fun n=>.leaf (.ret [.bool (decide ((0:Int)≤n))] [])) (by kernel_rfl) ?_
 simp only [Tree.holds,zd]
 refine⟨l,⟨by simp [za],hl⟩,⟨_,rfl⟩,?_⟩
 rintro _ rfl
 rw [← QF] at hq
 exact RetR.scal hq rfl (by simp [resV])
def UD:Ctr:=ctrP true (fun l:List Fx=>[fxS l,.fn 42 [] []]) (fun l=>l.length<2^40) (fun l r=>r=ordB cmpF Fx.nil l) (fun _ (r:Bool)=>(.bool r,[]))
def SOdF(l:List Fx)(i:Nat):KV:=[(0,fxS l),(1,.fn 42 [] []),(5,.int .i64 (i:Int))]
noncomputable def GE4F:Nat→Option Ctr:=fun f=>if f=42 then some (xo) else none
theorem V2:∀ g c,GE4F g=some c→zf Try.prog g c:=okIf kI (zx)
theorem YT:zf Try.prog 57 UD:=by
 refine zn (fn:=Try.f57) (c:=Try.f57.body.getD .skip) rfl rfl rfl fun l hl O w0 Q hq=> ?_
 replace hq:=hq _ rfl
 refine zc.run hmix V2 [0,1,5] 400 (T:=.leaf (.loop (Prod.fst (lps K57 0)) (Prod.snd (lps K57 0)) [(0,.sl l.length 3 (fxG l)),(1,.fn 42 [] []),(5,.int .i64 1)] [])) (by kernel_rfl) ?_
 simp only [Tree.holds,zd]
 refine zc.loop (ι:={i:Nat // 0<i∧(i≤l.length∨i=1)∧∀ j,j+1<i→cmpF (l.getD j Fx.nil) (l.getD (j+1) Fx.nil)<0}) (fun i=>SOdF l i.1) (fun _=>[]) (fun i=>l.length - i.1) ⟨1,Nat.one_pos,.inr rfl,fun j hj=>by omega⟩ 0 ?_ ?_ (by kernel_rfl)
 ·exact⟨by simp [SOdF,fxS,za],by simp,by kernel_rfl,Nat.zero_le _⟩
 ·rintro⟨i,hi0,hil,hib⟩
  refine zc.run hmix V2 [0,1,5] 400 (T:=.ite (decide ((↑i:Int)<l.length)) (.side (inR .i64 ((↑i:Int) - (1:Int))) (.side ((0:Int)≤i - (1:Int)∧(↑i:Int) - (1:Int)<l.length) (.side ((0:Int)≤i∧(↑i:Int)<l.length) (.ex (fun(x:Fx×Fx)=>eqL [AV.agg [AV.str (Fx.name (l.getD (Int.toNat ((↑i:Int) - (1:Int))) Fx.nil)),AV.int .i64 (Fx.date (l.getD (Int.toNat ((↑i:Int) - (1:Int))) Fx.nil)),AV.str (Fx.value (l.getD (Int.toNat ((↑i:Int) - (1:Int))) Fx.nil))],AV.agg [AV.str (Fx.name (l.getD (↑i:Int).toNat Fx.nil)),AV.int .i64 (Fx.date (l.getD (↑i:Int).toNat Fx.nil)),AV.str (Fx.value (l.getD (↑i:Int).toNat Fx.nil))]] [AV.agg [AV.str x.1.name,AV.int .i64 x.1.date,AV.str x.1.value],AV.agg [AV.str x.2.name,AV.int .i64 x.2.date,AV.str x.2.value]]∧True) fun n=>.all (fun(r:Int)=>r=cmpF n.1 n.2) fun n=>.ite (decide ((0:Int)≤n)) (.leaf (.ret [.bool false] [])) (.side (inR .i64 ((↑i:Int)+(1:Int))) (.leaf (.back 0 [(0,.sl l.length 3 (fxG l)),(1,.fn 42 [] []),(5,.int .i64 ((↑i:Int)+(1:Int)))] []))))))) (.leaf (.ret [.bool true] []))) (by kernel_rfl) ?_
  simp only [Tree.holds,zd,inR,lo,hi,Int.toNat_natCast]
  have e:((i:Int) - 1).toNat=i - 1:=by omega
  have e2:i - 1+1=i:=by omega
  refine⟨fun hlt=> ?_,fun hge=> ?_⟩
  ·have hlt:i<l.length:=by have:=of_decide_eq_true hlt; omega
   simp only [e]
   refine⟨by omega,fun _=>⟨by omega,fun _=>⟨by omega,fun _=>⟨(l.getD (i - 1) Fx.nil,l.getD i Fx.nil),⟨by simp,trivial⟩,⟨_,rfl⟩,?_⟩⟩⟩⟩
   rintro _ rfl
   refine⟨fun h=> ?_,fun h=>⟨by omega,fun _=> ?_⟩⟩
   ·have h:=of_decide_eq_true h
    rw [QB (z:=Fx.nil) (j:=i - 1) (by omega) (by rw [e2]; simp only at h; omega)] at hq
    exact RetR.scal hq rfl (by simp [resV])
   ·have h:=of_decide_eq_false h
    rw [if_pos trivial]
    refine⟨⟨i+1,by omega,.inl hlt,fun j hj=> ?_⟩,by show l.length - (i+1)<l.length - i; omega,by simp [SOdF,fxS,za],by simp,by kernel_rfl,Nat.zero_le _⟩
    rcases Nat.lt_or_ge (j+1) i with h1 | h1
    ·exact hib j h1
    ·have:j=i - 1:=by omega
     rw [this,e2]; simp only at h; omega
  ·have hge:l.length≤i:=by have:=of_decide_eq_false hge; omega
   rw [Jh (z:=Fx.nil) fun j hj=>hib j (by omega)] at hq
   exact RetR.scal hq rfl (by simp [resV])
def UP:Ctr:=ctrP true (fun l:List Ch=>[chS l,.fn 20 [] []]) (fun l=>l.length<2^40) (fun l r=>r=ordB cmpC Ch.nil l) (fun _ (r:Bool)=>(.bool r,[]))
def SOdC(l:List Ch)(i:Nat):KV:=[(0,chS l),(1,.fn 20 [] []),(5,.int .i64 (i:Int))]
noncomputable def GE4C:Nat→Option Ctr:=fun f=>if f=20 then some (x5) else none
theorem Vp:∀ g c,GE4C g=some c→zf Try.prog g c:=okIf kU (zx)
theorem Ui:zf Try.prog 58 UP:=by
 refine zn (fn:=Try.f58) (c:=Try.f58.body.getD .skip) rfl rfl rfl fun l hl O w0 Q hq=> ?_
 replace hq:=hq _ rfl
 refine zc.run hmix Vp [0,1,5] 400 (T:=.leaf (.loop (Prod.fst (lps K58 0)) (Prod.snd (lps K58 0)) [(0,.sl l.length 4 (chG l)),(1,.fn 20 [] []),(5,.int .i64 1)] [])) (by kernel_rfl) ?_
 simp only [Tree.holds,zd]
 refine zc.loop (ι:={i:Nat // 0<i∧(i≤l.length∨i=1)∧∀ j,j+1<i→cmpC (l.getD j Ch.nil) (l.getD (j+1) Ch.nil)<0}) (fun i=>SOdC l i.1) (fun _=>[]) (fun i=>l.length - i.1) ⟨1,Nat.one_pos,.inr rfl,fun j hj=>by omega⟩ 0 ?_ ?_ (by kernel_rfl)
 ·exact⟨by simp [SOdC,chS,za],by simp,by kernel_rfl,Nat.zero_le _⟩
 ·rintro⟨i,hi0,hil,hib⟩
  refine zc.run hmix Vp [0,1,5] 400 (T:=.ite (decide ((↑i:Int)<l.length)) (.side (inR .i64 ((↑i:Int) - (1:Int))) (.side ((0:Int)≤i - (1:Int)∧(↑i:Int) - (1:Int)<l.length) (.side ((0:Int)≤i∧(↑i:Int)<l.length) (.ex (fun(x:Ch×Ch)=>eqL [AV.agg [AV.str (Ch.zb (l.getD (Int.toNat ((↑i:Int) - (1:Int))) Ch.nil)),AV.str (Ch.name (l.getD (Int.toNat ((↑i:Int) - (1:Int))) Ch.nil)),AV.int .i64 (Ch.date (l.getD (Int.toNat ((↑i:Int) - (1:Int))) Ch.nil)),AV.bool (Ch.first (l.getD (Int.toNat ((↑i:Int) - (1:Int))) Ch.nil))],AV.agg [AV.str (Ch.zb (l.getD (↑i:Int).toNat Ch.nil)),AV.str (Ch.name (l.getD (↑i:Int).toNat Ch.nil)),AV.int .i64 (Ch.date (l.getD (↑i:Int).toNat Ch.nil)),AV.bool (Ch.first (l.getD (↑i:Int).toNat Ch.nil))]] [AV.agg [AV.str x.1.zb,AV.str x.1.name,AV.int .i64 x.1.date,AV.bool x.1.first],AV.agg [AV.str x.2.zb,AV.str x.2.name,AV.int .i64 x.2.date,AV.bool x.2.first]]∧True) fun n=>.all (fun(r:Int)=>r=cmpC n.1 n.2) fun n=>.ite (decide ((0:Int)≤n)) (.leaf (.ret [.bool false] [])) (.side (inR .i64 ((↑i:Int)+(1:Int))) (.leaf (.back 0 [(0,.sl l.length 4 (chG l)),(1,.fn 20 [] []),(5,.int .i64 ((↑i:Int)+(1:Int)))] []))))))) (.leaf (.ret [.bool true] []))) (by kernel_rfl) ?_
  simp only [Tree.holds,zd,inR,lo,hi,Int.toNat_natCast]
  have e:((i:Int) - 1).toNat=i - 1:=by omega
  have e2:i - 1+1=i:=by omega
  refine⟨fun hlt=> ?_,fun hge=> ?_⟩
  ·have hlt:i<l.length:=by have:=of_decide_eq_true hlt; omega
   simp only [e]
   refine⟨by omega,fun _=>⟨by omega,fun _=>⟨by omega,fun _=>⟨(l.getD (i - 1) Ch.nil,l.getD i Ch.nil),⟨by simp,trivial⟩,⟨_,rfl⟩,?_⟩⟩⟩⟩
   rintro _ rfl
   refine⟨fun h=> ?_,fun h=>⟨by omega,fun _=> ?_⟩⟩
   ·have h:=of_decide_eq_true h
    rw [QB (z:=Ch.nil) (j:=i - 1) (by omega) (by rw [e2]; simp only at h; omega)] at hq
    exact RetR.scal hq rfl (by simp [resV])
   ·have h:=of_decide_eq_false h
    rw [if_pos trivial]
    refine⟨⟨i+1,by omega,.inl hlt,fun j hj=> ?_⟩,by show l.length - (i+1)<l.length - i; omega,by simp [SOdC,chS,za],by simp,by kernel_rfl,Nat.zero_le _⟩
    rcases Nat.lt_or_ge (j+1) i with h1 | h1
    ·exact hib j h1
    ·have:j=i - 1:=by omega
     rw [this,e2]; simp only at h; omega
  ·have hge:l.length≤i:=by have:=of_decide_eq_false hge; omega
   rw [Jh (z:=Ch.nil) fun j hj=>hib j (by omega)] at hq
   exact RetR.scal hq rfl (by simp [resV])
def envP(p:List Fx×List Ch):Prop:=p.1.length<2^40∧p.2.length<2^40∧(∀ j,j<p.1.length→qF (p.1.getD j Fx.nil))∧∀ j,j<p.2.length→qG (p.2.getD j Ch.nil)
def Vi:Ctr:=ctrP true (fun p:List Fx×List Ch=>[envA p.1 p.2]) envP (fun p r=>r=errE p.1 p.2) (fun _ (r:Int)=>(.int .i64 r,[]))
noncomputable def GE5:Nat→Option Ctr:=fun f=>if f=55 then some (UA) else if f=56 then some (UC) else if f=57 then some (UD) else if f=58 then some (UP) else none
theorem zap:∀ g c,GE5 g=some c→zf Try.prog g c:=okIf Ua (okIf U4 (okIf YT (okIf Ui (zx))))
theorem VP:zf Try.prog 39 Vi:=by
 refine zn (fn:=Try.f39) (c:=Try.f39.body.getD .skip) rfl rfl rfl fun p hp O w0 Q hq=> ?_
 obtain⟨f,c⟩:=p
 obtain⟨h1,h2,h3,h4⟩:=hp
 replace hq:=hq _ rfl
 simp only at hq h1 h2 h3 h4
 refine zc.run hmix zap [] 400 (T:=.ite (bif decide ((1000:Int)<f.length) then true else decide ((1000:Int)<c.length)) (.leaf (.ret [.int .i64 4] [.box [.sl f.length 3 (fxG f),.sl c.length 4 (chG c)]])) (.ex (fun(x:List Fx)=>eqL [AV.sl f.length 3 (fxG f),AV.fn 53 [] []] [AV.sl x.length 3 (fxG x),AV.fn 53 [] []]∧x.length<1099511627776∧∀ (j:Nat),j<x.length→qF (x.getD j Fx.nil)) fun n=>.all (fun(r:Bool)=>r=List.any n fun(x:Fx)=> !okF x) fun n=>.ex (fun(x:List Ch)=>n=false→eqL [AV.sl c.length 4 (chG c),AV.fn 54 [] []] [AV.sl x.length 4 (chG x),AV.fn 54 [] []]∧x.length<1099511627776∧∀ (j:Nat),j<x.length→qG (x.getD j Ch.nil)) fun n_1=>.all (fun(x:Bool)=>n=false→x=List.any n_1 fun(x:Ch)=> !okC x) fun n_2=>.ex (fun(x:List Fx)=>(bif n then true else n_2)=false→eqL [AV.sl f.length 3 (fxG f),AV.fn 42 [] []] [AV.sl x.length 3 (fxG x),AV.fn 42 [] []]∧x.length<1099511627776) fun n_3=>.all (fun(x:Bool)=>(bif n then true else n_2)=false→x=ordB cmpF Fx.nil n_3) fun n_4=>.ex (fun(x:List Ch)=>(bif bif n then true else n_2 then true else !n_4)=false→eqL [AV.sl c.length 4 (chG c),AV.fn 20 [] []] [AV.sl x.length 4 (chG x),AV.fn 20 [] []]∧x.length<1099511627776) fun n_5=>.all (fun(x:Bool)=>(bif bif n then true else n_2 then true else !n_4)=false→x=ordB cmpC Ch.nil n_5) fun n_6=>.ite (bif bif bif n then true else n_2 then true else !n_4 then true else !n_6) (.leaf (.ret [.int .i64 8] [.box [.sl f.length 3 (fxG f),.sl c.length 4 (chG c)]])) (.leaf (.ret [.int .i64 0] [.box [.sl f.length 3 (fxG f),.sl c.length 4 (chG c)]])))) (by kernel_rfl) ?_
 simp only [Tree.holds,zd]
 refine⟨fun h=> ?_,fun h=> ?_⟩
 ·have h:1000<f.length∨1000<c.length:=by
   rw [Bool.cond_eq_ite] at h
   split at h
   ·rename_i h1; left; have:=of_decide_eq_true h1; omega
   ·right; have:=of_decide_eq_true h; omega
  have:errE f c=4:=if_pos h
  rw [this] at hq; exact RetR.scal hq rfl (by simp [resV])
 ·have h:¬ (1000<f.length∨1000<c.length):=by
   rw [Bool.cond_eq_ite] at h
   split at h
   ·cases h
   ·rename_i h1
    have h2:=of_decide_eq_false h
    rintro(h3 | h3)
    ·exact h1 (decide_eq_true (by omega))
    ·omega
  have he:errE f c=if(f.all okF&&c.all okC&&ordB cmpF Fx.nil f&&ordB cmpC Ch.nil c)=true then 0 else 8:=if_neg h
  have a1:(f.any fun x=> !okF x) = !f.all okF:=by rw [List.not_all_eq_any_not]
  have a2:(c.any fun x=> !okC x) = !c.all okC:=by rw [List.not_all_eq_any_not]
  refine⟨f,⟨by simp [za],h1,h3⟩,⟨_,rfl⟩,?_⟩
  rintro _ rfl
  refine⟨c,fun _=>⟨by simp [za],h2,h4⟩,⟨_,fun _=>rfl⟩,?_⟩
  intro b1 g1
  refine⟨f,fun _=>⟨by simp [za],h1⟩,⟨_,fun _=>rfl⟩,?_⟩
  intro b2 g2
  refine⟨c,fun _=>⟨by simp [za],h2⟩,⟨_,fun _=>rfl⟩,?_⟩
  intro b3 g3
  rw [a1] at g1 g2 g3 ⊢
  rw [a2] at g1
  clear a1 a2
  generalize f.all okF=p1 at *
  generalize c.all okC=p2 at *
  generalize ordB cmpF Fx.nil f=p3 at *
  generalize ordB cmpC Ch.nil c=p4 at *
  have key:(bif bif bif !p1 then true else b1 then true else !b2 then true else !b3) = !(p1&&p2&&p3&&p4):=by
   cases p1 with
   | false=>rfl
   | true=>
    have g1:=g1 rfl
    subst g1
    cases p2 with
    | false=>rfl
    | true=>
     have g2:=g2 rfl
     subst g2
     cases b2 with
     | false=>rfl
     | true=>have g3:=g3 rfl; subst g3; rfl
  rw [key]
  clear key g1 g2 g3
  generalize (p1&&p2&&p3&&p4)=q at *
  refine⟨fun h=> ?_,fun h=> ?_⟩
  ·cases q with
   | true=>cases h
   | false=>rw [he,if_neg (by decide)] at hq; exact RetR.scal hq rfl (by simp [resV])
  ·cases q with
   | false=>cases h
   | true=>rw [he,if_pos rfl] at hq; exact RetR.scal hq rfl (by simp [resV])
noncomputable def K34:List Go.Sx.Item:=[.code (Try.f34.body.getD .skip)]
def SSE(i:Nat):KV:=[(2,.ptr 0 0),(3,.ptr 1 0),(5,.int .i64 (i:Int)),(6,.undef)]
def SSE2(i:Nat):KV:=[(2,.ptr 0 0),(3,.ptr 1 0),(5,.undef),(6,.int .i64 (i:Int))]
def HSE(f f2:List Fx)(c c2:List Ch):Heap:=[.box [fxS f,chS c],.box [fxS f2,chS c2]]
def JG:Ctr:=ctrP true (fun p:(List Fx×List Ch)×(List Fx×List Ch)=>[envA p.1.1 p.1.2,envA p.2.1 p.2.2]) (fun p=>p.1.1.length<2^40∧p.1.2.length<2^40) (fun p r=>(r=true↔p.1=p.2)) (fun _ (r:Bool)=>(.bool r,[]))
theorem QJ{O:Nat→Prop}{w0:World}{Q:AV×Heap→Prop}{Hs:Nat→KV→Heap→Prop}(f f2:List Fx)(c c2:List Ch)(h2:c.length<2^40)(hf:f=f2)(hl:c.length=c2.length)(hq:∀ (r:Bool),(r=true↔(f,c)=(f2,c2))→Q (.bool r,[]))(kv:KV)(h:Heap)(hle:LeK 0 Try.f34.ntmps kv h (SSE2 0) (HSE f f2 c c2)) :
  zc Try.prog Try.f34 O 0 w0 [] Hs (RetR JG 0 Q) (.code (.loop (lps (inside K34 0) 0).1)::(lps (inside K34 0) 0).2) (mk Try.f34.ntmps kv h):=by
 refine zc.loop (ι:={i:Nat // i≤c.length∧∀ j,j<i→c.getD j Ch.nil=c2.getD j Ch.nil}) (fun i=>SSE2 i.1) (fun _=>HSE f f2 c c2) (fun i=>c.length - i.1) ⟨0,Nat.zero_le _,fun j hj=>by omega⟩ 0 hle ?_ (by kernel_rfl)
 rintro⟨i,hil,hib⟩
 refine zc.run hmix zA [2,3,5,6] 400 (T:=.ite (decide ((↑i:Int)<c.length)) (.side ((0:Int)≤i∧(↑i:Int)<c.length) (.side ((0:Int)≤i∧(↑i:Int)<c2.length) (.ite (!(decide (Ch.zb (c.getD (↑i:Int).toNat Ch.nil)=Ch.zb (c2.getD (↑i:Int).toNat Ch.nil))&&(decide (Ch.name (c.getD (↑i:Int).toNat Ch.nil)=Ch.name (c2.getD (↑i:Int).toNat Ch.nil))&&(decide (Ch.date (c.getD (↑i:Int).toNat Ch.nil)=Ch.date (c2.getD (↑i:Int).toNat Ch.nil))&&(Ch.first (c.getD (↑i:Int).toNat Ch.nil) == Ch.first (c2.getD (↑i:Int).toNat Ch.nil)&&true))))) (.leaf (.ret [.bool false] [.box [.sl f.length 3 (fxG f),.sl c.length 4 (chG c)],.box [.sl f2.length 3 (fxG f2),.sl c2.length 4 (chG c2)]])) (.side (inR .i64 ((↑i:Int)+(1:Int))) (.leaf (.back 0 [(2,.ptr 0 0),(3,.ptr 1 0),(5,.undef),(6,.int .i64 ((↑i:Int)+(1:Int)))] [.box [.sl f.length 3 (fxG f),.sl c.length 4 (chG c)],.box [.sl f2.length 3 (fxG f2),.sl c2.length 4 (chG c2)]])))))) (.leaf (.ret [.bool true] [.box [.sl f.length 3 (fxG f),.sl c.length 4 (chG c)],.box [.sl f2.length 3 (fxG f2),.sl c2.length 4 (chG c2)]]))) (by kernel_rfl) ?_
 simp only [Tree.holds,zd,inR,lo,hi,Int.toNat_natCast]
 refine⟨fun hlt=> ?_,fun hge=> ?_⟩
 ·have hlt:i<c.length:=by have:=of_decide_eq_true hlt; omega
  refine⟨by omega,fun _=>⟨by omega,fun _=>⟨fun h=> ?_,fun h=>⟨by omega,fun _=> ?_⟩⟩⟩⟩
  ·refine RetR.scal (hq false ⟨fun h=>(by cases h),fun he=> ?_⟩) rfl (by simp [resV])
   have hc:c=c2:=(Prod.mk.inj he).2
   have:=Ch.eq_iff.2 (show c.getD i Ch.nil=c2.getD i Ch.nil by rw [hc])
   rw [this] at h; cases h
  ·rw [if_pos trivial]
   have he:=Ch.eq_iff.1 (by simpa only [Bool.not_eq_false'] using h)
   refine⟨⟨i+1,hlt,fun j hj=> ?_⟩,by show c.length - (i+1)<c.length - i; omega,by simp [SSE2],by simp [HSE,fxS,chS,za],by kernel_rfl,Nat.zero_le _⟩
   rcases Nat.lt_or_ge j i with h1 | h1
   ·exact hib j h1
   ·have:j=i:=by omega
    rw [this]; exact he
 ·have hge:i=c.length:=by have:=of_decide_eq_false hge; omega
  subst hge
  have hc:=QT hl hib
  exact RetR.scal (hq true ⟨fun _=>by rw [hf,hc],fun _=>rfl⟩) rfl (by simp [resV])
theorem Yr:zf Try.prog 34 JG:=by
 refine zn (fn:=Try.f34) (c:=Try.f34.body.getD .skip) rfl rfl rfl fun p hp O w0 Q hq=> ?_
 obtain⟨⟨f,c⟩,⟨f2,c2⟩⟩:=p
 obtain⟨h1,h2⟩:=hp
 simp only at hq h1 h2
 refine zc.run hmix zA [2,3,5,6] 400 (T:=.ite (bif !decide ((↑f.length:Int)=f2.length) then true else !decide ((↑c.length:Int)=c2.length)) (.leaf (.ret [.bool false] [.box [.sl f.length 3 (fxG f),.sl c.length 4 (chG c)],.box [.sl f2.length 3 (fxG f2),.sl c2.length 4 (chG c2)]])) (.leaf (.loop (Prod.fst (lps K34 0)) (Prod.snd (lps K34 0)) [(2,.ptr 0 0),(3,.ptr 1 0),(5,.int .i64 0),(6,.undef)] [.box [.sl f.length 3 (fxG f),.sl c.length 4 (chG c)],.box [.sl f2.length 3 (fxG f2),.sl c2.length 4 (chG c2)]]))) (by kernel_rfl) ?_
 simp only [Tree.holds,zd]
 refine⟨fun h=> ?_,fun h=> ?_⟩
 ·refine RetR.scal (hq false ⟨fun h=>(by cases h),fun he=> ?_⟩) rfl (by simp [resV])
  obtain⟨e1,e2⟩:=Prod.mk.inj he
  subst e1; subst e2
  simp at h
 ·have hl:f.length=f2.length∧c.length=c2.length:=by
   by_cases e1:f.length=f2.length
   ·by_cases e2:c.length=c2.length
    ·exact⟨e1,e2⟩
    ·rw [decide_eq_false (show ¬ ((c.length:Nat):Int)=c2.length by omega)] at h
     rw [decide_eq_true (show((f.length:Nat):Int)=f2.length by omega)] at h
     cases h
   ·rw [decide_eq_false (show ¬ ((f.length:Nat):Int)=f2.length by omega)] at h
    cases h
  refine zc.loop (ι:={i:Nat // i≤f.length∧∀ j,j<i→f.getD j Fx.nil=f2.getD j Fx.nil}) (fun i=>SSE i.1) (fun _=>HSE f f2 c c2) (fun i=>f.length - i.1) ⟨0,Nat.zero_le _,fun j hj=>by omega⟩ 0 ?_ ?_ (by kernel_rfl)
  ·exact⟨by simp [SSE],by simp [HSE,fxS,chS,za],by kernel_rfl,Nat.zero_le _⟩
  ·rintro⟨i,hil,hib⟩
   refine zc.run hmix zA [2,3,5,6] 400 (T:=.ite (decide ((↑i:Int)<f.length)) (.side ((0:Int)≤i∧(↑i:Int)<f.length) (.side ((0:Int)≤i∧(↑i:Int)<f2.length) (.ite (!(decide (Fx.name (f.getD (↑i:Int).toNat Fx.nil)=Fx.name (f2.getD (↑i:Int).toNat Fx.nil))&&(decide (Fx.date (f.getD (↑i:Int).toNat Fx.nil)=Fx.date (f2.getD (↑i:Int).toNat Fx.nil))&&(decide (Fx.value (f.getD (↑i:Int).toNat Fx.nil)=Fx.value (f2.getD (↑i:Int).toNat Fx.nil))&&true)))) (.leaf (.ret [.bool false] [.box [.sl f.length 3 (fxG f),.sl c.length 4 (chG c)],.box [.sl f2.length 3 (fxG f2),.sl c2.length 4 (chG c2)]])) (.side (inR .i64 ((↑i:Int)+(1:Int))) (.leaf (.back 0 [(2,.ptr 0 0),(3,.ptr 1 0),(5,.int .i64 ((↑i:Int)+(1:Int))),(6,.undef)] [.box [.sl f.length 3 (fxG f),.sl c.length 4 (chG c)],.box [.sl f2.length 3 (fxG f2),.sl c2.length 4 (chG c2)]])))))) (.leaf (.loop (Prod.fst (lps (inside K34 0) 0)) (Prod.snd (lps (inside K34 0) 0)) [(2,.ptr 0 0),(3,.ptr 1 0),(5,.int .i64 i),(6,.int .i64 0)] [.box [.sl f.length 3 (fxG f),.sl c.length 4 (chG c)],.box [.sl f2.length 3 (fxG f2),.sl c2.length 4 (chG c2)]]))) (by kernel_rfl) ?_
   simp only [Tree.holds,zd,inR,lo,hi,Int.toNat_natCast]
   refine⟨fun hlt=> ?_,fun hge=> ?_⟩
   ·have hlt:i<f.length:=by have:=of_decide_eq_true hlt; omega
    refine⟨by omega,fun _=>⟨by omega,fun _=>⟨fun h=> ?_,fun h=>⟨by omega,fun _=> ?_⟩⟩⟩⟩
    ·refine RetR.scal (hq false ⟨fun h=>(by cases h),fun he=> ?_⟩) rfl (by simp [resV])
     have hc:f=f2:=(Prod.mk.inj he).1
     have:=Fx.eq_iff.2 (show f.getD i Fx.nil=f2.getD i Fx.nil by rw [hc])
     rw [this] at h; cases h
    ·rw [if_pos trivial]
     have he:=Fx.eq_iff.1 (by simpa only [Bool.not_eq_false'] using h)
     refine⟨⟨i+1,hlt,fun j hj=> ?_⟩,by show f.length - (i+1)<f.length - i; omega,by simp [SSE],by simp [HSE,fxS,chS,za],by kernel_rfl,Nat.zero_le _⟩
     rcases Nat.lt_or_ge j i with h1 | h1
     ·exact hib j h1
     ·have:j=i:=by omega
      rw [this]; exact he
   ·have hge:i=f.length:=by have:=of_decide_eq_false hge; omega
    subst hge
    have hf:=QT hl.1 hib
    exact QJ f f2 c c2 h2 hf hl.2 hq _ _ ⟨by simp [SSE2],by simp [HSE,fxS,chS,za],by kernel_rfl,Nat.zero_le _⟩
def VB:Ctr:=ctrP true (fun p:(List Fx×List Ch)×(List UInt8×List UInt8×Int)=>[envA p.1.1 p.1.2,.str p.2.1,.str p.2.2.1,.int .i64 p.2.2.2]) (fun p=>p.1.2.length<2^40) (fun p r=>r=xt p.1.2 p.2.1 p.2.2.1 p.2.2.2) (fun _ r=>(.bool r,[]))
theorem y8{n:Nat}{g:Nat→Nat→AV}{l:List Fx}(h:eqG n 3 g (fxG l)):newB (.arr n 3 g):=fun j o hj ho=>by rw [h j o hj ho]; exact WO l j o ho
theorem y5{n:Nat}{g:Nat→Nat→AV}{l:List Ch}(h:eqG n 4 g (chG l)):newB (.arr n 4 g):=fun j o hj ho=>by rw [h j o hj ho]; exact WX l j o ho
def ZN:Ctr:=ctrP true (fun l:List Fx=>[fxS l]) (fun l=>l.length<2^40) (fun _ (_:Unit)=>True) (fun l _=>(.osl 0 3 0 l.length,[.arr l.length 3 (fxG l)]))
def ZO:Ctr:=ctrP true (fun l:List Ch=>[chS l]) (fun l=>l.length<2^40) (fun _ (_:Unit)=>True) (fun l _=>(.osl 0 4 0 l.length,[.arr l.length 4 (chG l)]))
theorem Z7:zf Try.prog 45 ZN:=by
 refine vU (fn:=Try.f45) (c:=Try.f45.body.getD .skip) rfl rfl rfl fun l hl O w0 Q hq=> ?_
 replace hq:=hq () trivial
 refine zc.run hmix zA [] 400 (T:=.all (fun(b:Bool)=>0<l.length→b=false) fun n=>.ite n (.leaf (.ret [.nils] [])) (.side (0=0∧0≤0∧(0+l.length)*40≤140737488355328) (.leaf (.ret [.osl 0 3 0 (0+l.length)] [.arr (0+l.length) 3 (appG 0 (zh 3 []) (fxG l))])))) (by kernel_rfl) ?_
 simp only [Tree.holds,zd]
 refine⟨⟨false,fun _=>rfl⟩,fun b hb=>⟨fun h=> ?_,fun h=>⟨⟨trivial,Nat.le_refl _,by omega⟩,fun _=> ?_⟩⟩⟩
 ·have h0:l=[]:=by
   rcases Nat.eq_zero_or_pos l.length with h0 | h0
   ·exact List.length_eq_zero_iff.1 h0
   ·rw [hb h0] at h; cases h
  subst h0
  refine RetR.scal (.inr ⟨.osl 0 3 0 0,[(3,fxG [])],by simp [upA2,upA1,upA0],?_⟩) (r:=.nils) rfl (by simp [resV])
  exact hq
 ·refine RetR.outs [0] rfl rfl (.inl hq) (fun _=>⟨?_,?_⟩) ?_ ?_ rfl
  ·simp [resV,new2,new1,new0,zo]
  ·simp only [List.mem_cons,List.not_mem_nil,or_false,forall_eq]
   exact y8 (xg _ _ _ _)
  ·simp [resV,exp2,exp1,exp0,zo,eqA2,eqL1]
  ·exact⟨⟨by omega,rfl,xg _ _ _ _⟩,trivial⟩
theorem Zh:zf Try.prog 43 ZO:=by
 refine vU (fn:=Try.f43) (c:=Try.f43.body.getD .skip) rfl rfl rfl fun l hl O w0 Q hq=> ?_
 replace hq:=hq () trivial
 refine zc.run hmix zA [] 400 (T:=.all (fun(b:Bool)=>0<l.length→b=false) fun n=>.ite n (.leaf (.ret [.nils] [])) (.side (0=0∧0≤0∧(0+l.length)*48≤140737488355328) (.leaf (.ret [.osl 0 4 0 (0+l.length)] [.arr (0+l.length) 4 (appG 0 (zh 4 []) (chG l))])))) (by kernel_rfl) ?_
 simp only [Tree.holds,zd]
 refine⟨⟨false,fun _=>rfl⟩,fun b hb=>⟨fun h=> ?_,fun h=>⟨⟨trivial,Nat.le_refl _,by omega⟩,fun _=> ?_⟩⟩⟩
 ·have h0:l=[]:=by
   rcases Nat.eq_zero_or_pos l.length with h0 | h0
   ·exact List.length_eq_zero_iff.1 h0
   ·rw [hb h0] at h; cases h
  subst h0
  refine RetR.scal (.inr ⟨.osl 0 4 0 0,[(4,chG [])],by simp [upA2,upA1,upA0],?_⟩) (r:=.nils) rfl (by simp [resV])
  exact hq
 ·refine RetR.outs [0] rfl rfl (.inl hq) (fun _=>⟨?_,?_⟩) ?_ ?_ rfl
  ·simp [resV,new2,new1,new0,zo]
  ·simp only [List.mem_cons,List.not_mem_nil,or_false,forall_eq]
   exact y5 (xg _ _ _ _)
  ·simp [resV,exp2,exp1,exp0,zo,eqA2,eqL1]
  ·exact⟨⟨by omega,rfl,xg _ _ _ _⟩,trivial⟩
def HIdF(x:Fx):Heap:=[.box [.fn 42 [] []],.box [.str x.name,.int .i64 x.date,.str x.value]]
def HIdC(x:Ch):Heap:=[.box [.fn 20 [] []],.box [.str x.zb,.str x.name,.int .i64 x.date,.bool x.first]]
def U6:Ctr:=ctrT false false (fun p:Fx×Fx=>[p.1.av,.ptr 0 0,.ptr 1 0]) (fun p=>HIdF p.2) (fun _=>True) (fun p r=>r=decide (cmpF p.1 p.2=0)) (fun p (r:Bool)=>(.bool r,HIdF p.2))
def UG:Ctr:=ctrT false false (fun p:Ch×Ch=>[p.1.av,.ptr 0 0,.ptr 1 0]) (fun p=>HIdC p.2) (fun _=>True) (fun p r=>r=decide (cmpC p.1 p.2=0)) (fun p (r:Bool)=>(.bool r,HIdC p.2))
noncomputable def GI1:Nat→Option Ctr:=fun f=>if f=42 then some (xo) else if f=20 then some (x5) else none
theorem Yk:∀ g c,GI1 g=some c→zf Try.prog g c:=okIf kI (okIf kU (zx))
theorem Uf:zf Try.prog 67 U6:=by
 refine ja (fn:=Try.f67) (c:=Try.f67.body.getD .skip) rfl rfl rfl (fun h=>by cases h) fun p hp O w0 σ0 Q hl0 hq=> ?_
 obtain⟨⟨a,d,v⟩,⟨b,e,u⟩⟩:=p
 replace hq:=hq _ rfl
 simp only at hq
 refine zc.run hmix Yk [] 400 (T:=.ex (fun(x:Fx×Fx)=>eqL [AV.agg [AV.str a,AV.int .i64 d,AV.str v],AV.agg [AV.str b,AV.int .i64 e,AV.str u]] [AV.agg [AV.str x.1.name,AV.int .i64 x.1.date,AV.str x.1.value],AV.agg [AV.str x.2.name,AV.int .i64 x.2.date,AV.str x.2.value]]∧True) fun n=>.all (fun(r:Int)=>r=cmpF n.1 n.2) fun n=>.leaf (.ret [.bool (decide (n=0))] [.box [.fn 42 [] []],.box [.str b,.int .i64 e,.str u],.box [.str a,.int .i64 d,.str v]])) (by kernel_rfl) ?_
 simp only [Tree.holds,zd]
 refine⟨(⟨a,d,v⟩,⟨b,e,u⟩),⟨by simp,trivial⟩,⟨_,rfl⟩,?_⟩
 rintro _ rfl
 exact RetR.keep [0,1] rfl rfl (by show ∀ j,j<2→_; decide) rfl hq (by simp [resV,exp2,exp1,exp0,ren0,eqA2]) (by simp [expH,expB,exp1,exp0,ren0,HIdF]) rfl
theorem Uy:zf Try.prog 30 UG:=by
 refine ja (fn:=Try.f30) (c:=Try.f30.body.getD .skip) rfl rfl rfl (fun h=>by cases h) fun p hp O w0 σ0 Q hl0 hq=> ?_
 obtain⟨⟨a,v,d,x⟩,⟨b,u,e,y⟩⟩:=p
 replace hq:=hq _ rfl
 simp only at hq
 refine zc.run hmix Yk [] 400 (T:=.ex (fun(x_1:Ch×Ch)=>eqL [AV.agg [AV.str a,AV.str v,AV.int .i64 d,AV.bool x],AV.agg [AV.str b,AV.str u,AV.int .i64 e,AV.bool y]] [AV.agg [AV.str x_1.1.zb,AV.str x_1.1.name,AV.int .i64 x_1.1.date,AV.bool x_1.1.first],AV.agg [AV.str x_1.2.zb,AV.str x_1.2.name,AV.int .i64 x_1.2.date,AV.bool x_1.2.first]]∧True) fun n=>.all (fun(r:Int)=>r=cmpC n.1 n.2) fun n=>.leaf (.ret [.bool (decide (n=0))] [.box [.fn 20 [] []],.box [.str b,.str u,.int .i64 e,.bool y],.box [.str a,.str v,.int .i64 d,.bool x]])) (by kernel_rfl) ?_
 simp only [Tree.holds,zd]
 refine⟨(⟨a,v,d,x⟩,⟨b,u,e,y⟩),⟨by simp,trivial⟩,⟨_,rfl⟩,?_⟩
 rintro _ rfl
 exact RetR.keep [0,1] rfl rfl (by show ∀ j,j<2→_; decide) rfl hq (by simp [resV,exp2,exp1,exp0,ren0,eqA2]) (by simp [expH,expB,exp1,exp0,ren0,HIdC]) rfl
def SIdF(l:List Fx)(i:Nat):KV:=[(0,fxS l),(1,.fn 67 [] [.ptr 0 0,.ptr 1 0]),(7,.int .i64 (l.length:Int)),(8,.int .i64 (i:Int))]
def SIdC(l:List Ch)(i:Nat):KV:=[(0,chS l),(1,.fn 30 [] [.ptr 0 0,.ptr 1 0]),(7,.int .i64 (l.length:Int)),(8,.int .i64 (i:Int))]
def XO:Ctr:=ctrT false false (fun p:List Fx×Fx=>[fxS p.1,.fn 67 [] [.ptr 0 0,.ptr 1 0]]) (fun p=>HIdF p.2) (fun p=>p.1.length<2^40) (fun p r=>r=idxB (fun x=>decide (cmpF x p.2=0)) p.1) (fun p (r:Int)=>(.int .i64 r,HIdF p.2))
def Yw:Ctr:=ctrT false false (fun p:List Ch×Ch=>[chS p.1,.fn 30 [] [.ptr 0 0,.ptr 1 0]]) (fun p=>HIdC p.2) (fun p=>p.1.length<2^40) (fun p r=>r=idxB (fun x=>decide (cmpC x p.2=0)) p.1) (fun p (r:Int)=>(.int .i64 r,HIdC p.2))
noncomputable def GI2:Nat→Option Ctr:=fun f=>if f=67 then some (U6) else if f=30 then some (UG) else none
theorem Qx:∀ g c,GI2 g=some c→zf Try.prog g c:=okIf Uf (okIf Uy (zx))
theorem Ub:zf Try.prog 66 XO:=by
 refine ja (fn:=Try.f66) (c:=Try.f66.body.getD .skip) rfl rfl rfl (fun h=>by cases h) fun p hl O w0 σ0 Q hl0 hq=> ?_
 obtain⟨l,x⟩:=p
 replace hq:=hq _ rfl
 simp only at hq hl
 refine zc.run hmix Qx [0,1,7,8] 400 (T:=.leaf (.loop (Prod.fst (lps K66 0)) (Prod.snd (lps K66 0)) [(0,.sl l.length 3 (fxG l)),(1,.fn 67 [] [.ptr 0 0,.ptr 1 0]),(7,.int .i64 l.length),(8,.int .i64 0)] [.box [.fn 42 [] []],.box [.str x.name,.int .i64 x.date,.str x.value]])) (by kernel_rfl) ?_
 simp only [Tree.holds,zd]
 have fin:∀ (i:Int) (h:Heap),i=idxB (fun y=>decide (cmpF y x=0)) l→h=HIdF x→RetR XO 2 Q [.int .i64 i] h:=by
  intro i h hi2 hh
  subst hh
  rw [← hi2] at hq
  exact RetR.keep [0,1] rfl rfl (by show ∀ j,j<2→_; decide) rfl hq (by simp [resV,exp2,exp1,exp0,ren0,eqA2]) (by simp [expH,expB,exp1,exp0,ren0,HIdF]) rfl
 refine zc.loop (ι:={i:Nat // i≤l.length∧∀ j,j<i→decide (cmpF (l.getD j Fx.nil) x=0)=false}) (fun i=>SIdF l i.1) (fun _=>HIdF x) (fun i=>l.length - i.1) ⟨0,Nat.zero_le _,fun j hj=>by omega⟩ 0 ?_ ?_ (by kernel_rfl)
 ·exact⟨by simp [SIdF,fxS,za],by simp [HIdF],by kernel_rfl,Nat.le_refl _⟩
 ·rintro⟨i,hil,hib⟩
  refine zc.run hmix Qx [0,1,7,8] 400 (T:=.ite (decide ((↑i:Int)<l.length)) (.side ((0:Int)≤i∧(↑i:Int)<l.length) (.ex (fun(x_1:Fx×Fx)=>eqL [AV.agg [AV.str (Fx.name (l.getD (↑i:Int).toNat Fx.nil)),AV.int .i64 (Fx.date (l.getD (↑i:Int).toNat Fx.nil)),AV.str (Fx.value (l.getD (↑i:Int).toNat Fx.nil))],AV.ptr 0 0,AV.ptr 1 0] [AV.agg [AV.str x_1.1.name,AV.int .i64 x_1.1.date,AV.str x_1.1.value],AV.ptr 0 0,AV.ptr 1 0]∧eqH [.box [AV.fn 42 [] []],.box [AV.str x.name,AV.int .i64 x.date,AV.str x.value]] [.box [AV.fn 42 [] []],.box [AV.str x_1.2.name,AV.int .i64 x_1.2.date,AV.str x_1.2.value]]∧2=2∧True) fun n=>.all (fun(r:Bool)=>r=decide (cmpF n.1 n.2=0)) fun n_1=>.ite n_1 (.leaf (.ret [.int .i64 i] [.box [.fn 42 [] []],.box [.str n.2.name,.int .i64 n.2.date,.str n.2.value]])) (.side (inR .i64 ((↑i:Int)+(1:Int))) (.leaf (.back 0 [(0,.sl l.length 3 (fxG l)),(1,.fn 67 [] [.ptr 0 0,.ptr 1 0]),(7,.int .i64 l.length),(8,.int .i64 ((↑i:Int)+(1:Int)))] [.box [.fn 42 [] []],.box [.str n.2.name,.int .i64 n.2.date,.str n.2.value]]))))) (.leaf (.ret [.int .i64 (-1:Int)] [.box [.fn 42 [] []],.box [.str x.name,.int .i64 x.date,.str x.value]]))) (by kernel_rfl) ?_
  simp only [Tree.holds,zd,inR,lo,hi,Int.toNat_natCast]
  refine⟨fun hlt=> ?_,fun hge=> ?_⟩
  ·have hlt:i<l.length:=by have:=of_decide_eq_true hlt; omega
   refine⟨by omega,fun _=>⟨(l.getD i Fx.nil,x),⟨by simp,by simp,trivial,trivial⟩,⟨_,rfl⟩,?_⟩⟩
   rintro _ rfl
   refine⟨fun h=> ?_,fun h=>⟨by omega,fun _=> ?_⟩⟩
   ·exact fin _ _ (xw hlt h hib).symm rfl
   ·rw [if_pos trivial]
    refine⟨⟨i+1,hlt,fun j hj=> ?_⟩,by show l.length - (i+1)<l.length - i; omega,by simp [SIdF,fxS,za],by simp [HIdF],by kernel_rfl,Nat.le_refl _⟩
    rcases Nat.lt_or_ge j i with h1 | h1
    ·exact hib j h1
    ·have:j=i:=by omega
     rw [this]; exact h
  ·have hge:i=l.length:=by have:=of_decide_eq_false hge; omega
   subst hge
   exact fin _ _ (vf (p:=fun y=>decide (cmpF y x=0)) hib).symm rfl
theorem YO:zf Try.prog 29 Yw:=by
 refine ja (fn:=Try.f29) (c:=Try.f29.body.getD .skip) rfl rfl rfl (fun h=>by cases h) fun p hl O w0 σ0 Q hl0 hq=> ?_
 obtain⟨l,x⟩:=p
 replace hq:=hq _ rfl
 simp only at hq hl
 refine zc.run hmix Qx [0,1,7,8] 400 (T:=.leaf (.loop (Prod.fst (lps K29 0)) (Prod.snd (lps K29 0)) [(0,.sl l.length 4 (chG l)),(1,.fn 30 [] [.ptr 0 0,.ptr 1 0]),(7,.int .i64 l.length),(8,.int .i64 0)] [.box [.fn 20 [] []],.box [.str x.zb,.str x.name,.int .i64 x.date,.bool x.first]])) (by kernel_rfl) ?_
 simp only [Tree.holds,zd]
 have fin:∀ (i:Int) (h:Heap),i=idxB (fun y=>decide (cmpC y x=0)) l→h=HIdC x→RetR Yw 2 Q [.int .i64 i] h:=by
  intro i h hi2 hh
  subst hh
  rw [← hi2] at hq
  exact RetR.keep [0,1] rfl rfl (by show ∀ j,j<2→_; decide) rfl hq (by simp [resV,exp2,exp1,exp0,ren0,eqA2]) (by simp [expH,expB,exp1,exp0,ren0,HIdC]) rfl
 refine zc.loop (ι:={i:Nat // i≤l.length∧∀ j,j<i→decide (cmpC (l.getD j Ch.nil) x=0)=false}) (fun i=>SIdC l i.1) (fun _=>HIdC x) (fun i=>l.length - i.1) ⟨0,Nat.zero_le _,fun j hj=>by omega⟩ 0 ?_ ?_ (by kernel_rfl)
 ·exact⟨by simp [SIdC,chS,za],by simp [HIdC],by kernel_rfl,Nat.le_refl _⟩
 ·rintro⟨i,hil,hib⟩
  refine zc.run hmix Qx [0,1,7,8] 400 (T:=.ite (decide ((↑i:Int)<l.length)) (.side ((0:Int)≤i∧(↑i:Int)<l.length) (.ex (fun(x_1:Ch×Ch)=>eqL [AV.agg [AV.str (Ch.zb (l.getD (↑i:Int).toNat Ch.nil)),AV.str (Ch.name (l.getD (↑i:Int).toNat Ch.nil)),AV.int .i64 (Ch.date (l.getD (↑i:Int).toNat Ch.nil)),AV.bool (Ch.first (l.getD (↑i:Int).toNat Ch.nil))],AV.ptr 0 0,AV.ptr 1 0] [AV.agg [AV.str x_1.1.zb,AV.str x_1.1.name,AV.int .i64 x_1.1.date,AV.bool x_1.1.first],AV.ptr 0 0,AV.ptr 1 0]∧eqH [.box [AV.fn 20 [] []],.box [AV.str x.zb,AV.str x.name,AV.int .i64 x.date,AV.bool x.first]] [.box [AV.fn 20 [] []],.box [AV.str x_1.2.zb,AV.str x_1.2.name,AV.int .i64 x_1.2.date,AV.bool x_1.2.first]]∧2=2∧True) fun n=>.all (fun(r:Bool)=>r=decide (cmpC n.1 n.2=0)) fun n_1=>.ite n_1 (.leaf (.ret [.int .i64 i] [.box [.fn 20 [] []],.box [.str n.2.zb,.str n.2.name,.int .i64 n.2.date,.bool n.2.first]])) (.side (inR .i64 ((↑i:Int)+(1:Int))) (.leaf (.back 0 [(0,.sl l.length 4 (chG l)),(1,.fn 30 [] [.ptr 0 0,.ptr 1 0]),(7,.int .i64 l.length),(8,.int .i64 ((↑i:Int)+(1:Int)))] [.box [.fn 20 [] []],.box [.str n.2.zb,.str n.2.name,.int .i64 n.2.date,.bool n.2.first]]))))) (.leaf (.ret [.int .i64 (-1:Int)] [.box [.fn 20 [] []],.box [.str x.zb,.str x.name,.int .i64 x.date,.bool x.first]]))) (by kernel_rfl) ?_
  simp only [Tree.holds,zd,inR,lo,hi,Int.toNat_natCast]
  refine⟨fun hlt=> ?_,fun hge=> ?_⟩
  ·have hlt:i<l.length:=by have:=of_decide_eq_true hlt; omega
   refine⟨by omega,fun _=>⟨(l.getD i Ch.nil,x),⟨by simp,by simp,trivial,trivial⟩,⟨_,rfl⟩,?_⟩⟩
   rintro _ rfl
   refine⟨fun h=> ?_,fun h=>⟨by omega,fun _=> ?_⟩⟩
   ·exact fin _ _ (xw hlt h hib).symm rfl
   ·rw [if_pos trivial]
    refine⟨⟨i+1,hlt,fun j hj=> ?_⟩,by show l.length - (i+1)<l.length - i; omega,by simp [SIdC,chS,za],by simp [HIdC],by kernel_rfl,Nat.le_refl _⟩
    rcases Nat.lt_or_ge j i with h1 | h1
    ·exact hib j h1
    ·have:j=i:=by omega
     rw [this]; exact h
  ·have hge:i=l.length:=by have:=of_decide_eq_false hge; omega
   subst hge
   exact fin _ _ (vf (p:=fun y=>decide (cmpC y x=0)) hib).symm rfl
def Qg:Ctr:=ctrP true (fun p:List Fx×Fx=>[fxS p.1,p.2.av,.fn 42 [] []]) (fun p=>p.1.length<2^40) (fun p r=>r=idxB (fun x=>decide (cmpF x p.2=0)) p.1) (fun _ (r:Int)=>(.int .i64 r,[]))
def Q7:Ctr:=ctrP true (fun p:List Ch×Ch=>[chS p.1,p.2.av,.fn 20 [] []]) (fun p=>p.1.length<2^40) (fun p r=>r=idxB (fun x=>decide (cmpC x p.2=0)) p.1) (fun _ (r:Int)=>(.int .i64 r,[]))
noncomputable def GI3:Nat→Option Ctr:=fun f=>if f=66 then some (XO) else if f=29 then some (Yw) else none
theorem XS:∀ g c,GI3 g=some c→zf Try.prog g c:=okIf Ub (okIf YO (zx))
theorem Zy:zf Try.prog 59 Qg:=by
 refine zn (fn:=Try.f59) (c:=Try.f59.body.getD .skip) rfl rfl rfl fun p hp O w0 Q hq=> ?_
 obtain⟨l,⟨a,d,v⟩⟩:=p
 replace hq:=hq _ rfl
 simp only at hq hp
 refine zc.run hmix XS [] 400 (T:=.ex (fun(x:List Fx×Fx)=>eqL [AV.sl l.length 3 (fxG l),AV.fn 67 [] [AV.ptr 0 0,AV.ptr 1 0]] [AV.sl x.1.length 3 (fxG x.1),AV.fn 67 [] [AV.ptr 0 0,AV.ptr 1 0]]∧eqH [.box [AV.fn 42 [] []],.box [AV.str a,AV.int .i64 d,AV.str v]] [.box [AV.fn 42 [] []],.box [AV.str x.2.name,AV.int .i64 x.2.date,AV.str x.2.value]]∧2=2∧x.1.length<1099511627776) fun n=>.all (fun(r:Int)=>r=idxB (fun(x:Fx)=>decide (cmpF x n.2=0)) n.1) fun n_1=>.leaf (.ret [.int .i64 n_1] [.box [.str n.2.name,.int .i64 n.2.date,.str n.2.value],.box [.fn 42 [] []]])) (by kernel_rfl) ?_
 simp only [Tree.holds,zd]
 refine⟨(l,⟨a,d,v⟩),⟨by simp [za],by simp,trivial,hp⟩,⟨_,rfl⟩,?_⟩
 rintro _ rfl
 exact RetR.scal hq rfl (by simp [resV])
theorem Z2:zf Try.prog 19 Q7:=by
 refine zn (fn:=Try.f19) (c:=Try.f19.body.getD .skip) rfl rfl rfl fun p hp O w0 Q hq=> ?_
 obtain⟨l,⟨a,v,d,b⟩⟩:=p
 replace hq:=hq _ rfl
 simp only at hq hp
 refine zc.run hmix XS [] 400 (T:=.ex (fun(x:List Ch×Ch)=>eqL [AV.sl l.length 4 (chG l),AV.fn 30 [] [AV.ptr 0 0,AV.ptr 1 0]] [AV.sl x.1.length 4 (chG x.1),AV.fn 30 [] [AV.ptr 0 0,AV.ptr 1 0]]∧eqH [.box [AV.fn 20 [] []],.box [AV.str a,AV.str v,AV.int .i64 d,AV.bool b]] [.box [AV.fn 20 [] []],.box [AV.str x.2.zb,AV.str x.2.name,AV.int .i64 x.2.date,AV.bool x.2.first]]∧2=2∧x.1.length<1099511627776) fun n=>.all (fun(r:Int)=>r=idxB (fun(x:Ch)=>decide (cmpC x n.2=0)) n.1) fun n_1=>.leaf (.ret [.int .i64 n_1] [.box [.str n.2.zb,.str n.2.name,.int .i64 n.2.date,.bool n.2.first],.box [.fn 20 [] []]])) (by kernel_rfl) ?_
 simp only [Tree.holds,zd]
 refine⟨(l,⟨a,v,d,b⟩),⟨by simp [za],by simp,trivial,hp⟩,⟨_,rfl⟩,?_⟩
 rintro _ rfl
 exact RetR.scal hq rfl (by simp [resV])
noncomputable def GI4:Nat→Option Ctr:=fun f=>if f=59 then some (Qg) else if f=19 then some (Q7) else none
theorem zag:∀ g c,GI4 g=some c→zf Try.prog g c:=okIf Zy (okIf Z2 (zx))
theorem Kh:zf Try.prog 10 VB:=by
 refine zn (fn:=Try.f10) (c:=Try.f10.body.getD .skip) rfl rfl rfl fun p hp O w0 Q hq=> ?_
 obtain⟨⟨f,c⟩,⟨a,v,d⟩⟩:=p
 replace hq:=hq _ rfl
 simp only at hq hp
 refine zc.run hmix zag [] 400 (T:=.ex (fun(x:List Ch×Ch)=>eqL [AV.sl c.length 4 (chG c),AV.agg [AV.str a,AV.str v,AV.int .i64 d,AV.bool false],AV.fn 20 [] []] [AV.sl x.1.length 4 (chG x.1),AV.agg [AV.str x.2.zb,AV.str x.2.name,AV.int .i64 x.2.date,AV.bool x.2.first],AV.fn 20 [] []]∧x.1.length<1099511627776) fun n=>.all (fun(r:Int)=>r=idxB (fun(x:Ch)=>decide (cmpC x n.2=0)) n.1) fun n=>.side (decide ((0:Int)≤n)=true→(0:Int)≤n∧n<(↑c.length:Int)) (.leaf (.ret [.bool (bif decide ((0:Int)≤n) then Ch.first (c.getD (Int.toNat n) Ch.nil) else false)] [.box [.sl f.length 3 (fxG f),.sl c.length 4 (chG c)]]))) (by kernel_rfl) ?_
 simp only [Tree.holds,zd]
 refine⟨(c,⟨a,v,d,false⟩),⟨by simp [za],hp⟩,⟨_,rfl⟩,?_⟩
 rintro _ rfl
 obtain⟨hlt,hr⟩:=Wl c a v d
 simp only at hq ⊢
 refine⟨fun h=>⟨of_decide_eq_true h,hlt⟩,fun _=> ?_⟩
 refine RetR.scal hq rfl ?_
 rw [hr]
 simp only [resV]
 by_cases h:0≤idxB (fun x=>decide (cmpC x ⟨a,v,d,false⟩=0)) c
 ·rw [decide_eq_true h,if_pos h]; rfl
 ·rw [decide_eq_false h,if_neg h]; rfl
end Go.Proofs.Try
end
section
namespace Go.Sx
variable [Stat]
def Q5(P:Program)(g sz bytes:Nat):Prop:=∀ (b off n c i vb voff vc:Nat) (cur vcur:Array Value) (el vel:TypeId) (w:World),i<n→n≤c→(n+1)*bytes≤140737488355328→vb≠b →
 w.heap[b]?=some (.cells cur el (0,0))→w.heap[vb]?=some (.cells vcur vel (0,0))→off+c*sz≤cur.size→voff+sz≤vcur.size →
 (∀ (j:Nat) (v:Value),j<n*sz→cur[off+j]?=some v→v.oneCell'=true)→(∀ (j:Nat) (v:Value),j<sz→vcur[voff+j]?=some v→v.oneCell'=true) →
 Calls P g #[.slice (some ⟨b,off,none⟩) n c,.int .i64 i,.slice (some ⟨vb,voff,none⟩) 1 vc] w fun e w'=>∃ (b' o' c':Nat) (cur':Array Value) (el':TypeId),
  e = .returned (.slice (some ⟨b',o',none⟩) (n+1) c')∧n+1≤c'∧w'.heap[b']?=some (.cells cur' el' (0,0))∧o'+c'*sz≤cur'.size ∧
  (∀ j,j<(n+1)*sz→cur'[o'+j]?=if j<i*sz then cur[off+j]? else if j<i*sz+sz then vcur[voff+(j - i*sz)]? else cur[off+(j - sz)]?) ∧
  (b'=b∨w.heap.size≤b')∧w.heap.size≤w'.heap.size∧(∀ k,k<w.heap.size→k≠b→w'.heap[k]?=w.heap[k]?)∧w'.os=w.os∧w'.tape=w.tape∧w'.output=w.output
def insG(i:Nat)(gl gv:Nat→Nat→AV):Nat→Nat→AV:=fun j o=>if j<i then gl j o else if j=i then gv 0 o else gl (j - 1) o
theorem Zl{a b sz o:Nat}(h:a<b)(ho:o<sz):a*sz+o<b*sz:=by
 have:(a+1)*sz≤b*sz:=Nat.mul_le_mul_right _ h
 rw [Nat.succ_mul] at this; omega
theorem Vb{P:Program}{g:Nat}{fn:Func}{c:Code}(hf:P.funcs[g]?=some fn)(hb:fn.body=some c) (hn:(fn.name == "runtime.NumGoroutine")=false) {sz bytes:Nat} (hsz:0<sz) (W:Q5 P g sz bytes)
  {gl gv gt:Nat→Nat→AV} {n i:Nat} (hi:i<n) (hbig:(n+1)*bytes≤140737488355328) (hgt:eqG (n+1) sz (insG i gl gv) gt) {ctr:Ctr} (hfr:ctr.fresh=false) (hmv:ctr.jS=true) (hpi:ctr.pins=0) {Q:AV×Heap→Prop}
  (hq:Q (.osl 0 sz 0 (n+1),[.arr (n+1) sz gt,.dead])):qk P g ctr [.osl 0 sz 0 n,.int .i64 i,.osl 1 sz 0 1] [.arr n sz gl,.arr 1 sz gv] Q:=by
 intro O w σ vals hg hh hr
 simp only [RepL] at hr
 obtain⟨v0,r0,rfl,h0,v1,r1,rfl,h1,v2,r2,rfl,h2,rfl⟩:=hr
 simp only [Rep] at h0 h1 h2
 subst h1
 obtain⟨e0,he0,hl0,a0,cap,rfl,hnc,hr0⟩:=h0
 obtain⟨e1,he1,hl1,a1,vc,rfl,hvc,hr1⟩:=h2
 rcases hr0 with hr0 | ⟨ad,had,rfl,cur,el,hcur,hsize⟩
 ·omega
 rcases hr1 with hr1 | ⟨vd,hvd,rfl,vcur,vel,hvcur,hvsize⟩
 ·omega
 obtain⟨hen0,hz0 | ⟨ad',cs0,el0,had',hcs0,hs0,hc0⟩⟩:=hh.blk 0 e0 _ he0 rfl
 ·omega
 rw [had] at had'; cases had'
 rw [hcur] at hcs0; cases hcs0
 obtain⟨hen1,hz1 | ⟨vd',cs1,el1,hvd',hcs1,hs1,hc1⟩⟩:=hh.blk 1 e1 _ he1 rfl
 ·omega
 rw [hvd] at hvd'; cases hvd'
 rw [hvcur] at hcs1; cases hcs1
 have hne:vd.block≠ad.block:=fun h=>hh.inj 0 1 e0 e1 ad vd he0 he1 had hvd (by decide) h.symm
 have hmb:Mine σ ad.block:=⟨e0,List.mem_of_getElem? he0,ad,had,rfl⟩
 have hbw:ad.block<w.heap.size:=hh.lt 0 e0 ad he0 had
 simp only [Nat.zero_mul,Nat.add_zero,Nat.zero_add] at hsize hvsize ⊢
 have hn':¬ fn.name = "runtime.NumGoroutine" :=by simpa using hn
 left
 refine⟨by simp [callFunc,hf,hn',hb],?_⟩
 have hvfit:vd.off+sz≤vcur.size:=by simpa using hs1
 refine(W ad.block ad.off n cap i vd.block vd.off vc cur vcur el vel w hi hnc hbig hne hcur hvcur hsize hvfit ?_ ?_).mono ?_
 ·intro j v hj hv
  have ho:j%sz<sz:=Nat.mod_lt _ hsz
  have hjn:j/sz<n:=Nat.div_lt_of_lt_mul (by rw [Nat.mul_comm]; exact hj)
  obtain⟨c,g1,g2,_⟩:=hc0 (j/sz) (j%sz) hjn ho
  have:j/sz*sz+j%sz=j:=by rw [Nat.mul_comm]; exact Nat.div_add_mod j sz
  rw [this,hv] at g1
  cases g1; exact g2
 ·intro j v hj hv
  obtain⟨c,g1,g2,_⟩:=hc1 0 j (by decide) hj
  rw [Nat.zero_mul,Nat.zero_add,hv] at g1
  cases g1; exact g2
 rintro e w' ⟨b',o',c',cur',el',rfl,hc',hcur',hsz',hel,hb',hws,hkeep,hos,htape,hout⟩
 refine⟨_,rfl,.osl 0 sz 0 (n+1),[.arr (n+1) sz gt,.dead],[⟨some ⟨b',o',none⟩,n+1⟩,⟨none,0⟩],hq,?_⟩
 have hlt':b'<w'.heap.size:=(Array.getElem?_eq_some_iff.1 hcur').1
 have hmine:∀ b,Mine [⟨some ⟨b',o',none⟩,n+1⟩,⟨none,0⟩] b→b=b':=by
  rintro b ⟨e,he,ad2,h1,h2⟩
  simp only [List.mem_cons,List.not_mem_nil,or_false] at he
  rcases he with rfl | rfl
  ·cases h1; exact h2.symm
  ·cases h1
 have hown:∀ b,Own O [⟨some ⟨b',o',none⟩,n+1⟩,⟨none,0⟩] b→O b∨b=b':=fun b hb=>hb.imp id fun h=>hmine b h
 have hx:Ext (Own O σ) w (fun b=>Own O [⟨some ⟨b',o',none⟩,n+1⟩,⟨none,0⟩] b∨(ctr.fresh=true∧b<w.heap.size)) w':=by
  refine⟨hos,htape,hout,hws,fun b hb hno=>hkeep b hb fun h=>hno (.inr (h▸hmb)),fun b hb=> ?_⟩
  rcases hb with hb | ⟨hb,_⟩
  ·rcases hown b hb with hb | rfl
   ·exact .inl (.inl hb)
   ·rcases hb' with rfl | hb'
    ·exact .inl (.inr hmb)
    ·exact .inr hb'
  ·rw [hfr] at hb; cases hb
 refine⟨?_,⟨rfl,?_,?_,?_⟩,⟨fun b hb=>Nat.lt_of_lt_of_le (hg.old b hb) hws,?_,hg.stat.ext ⟨hx.os,hx.tape,hx.output,hx.size,hx.keep,fun b hb=>hx.grow b (.inl hb)⟩⟩,Nat.le_refl _,?_,⟨hos,htape,hout,hws,fun b hb hno=>hkeep b hb fun h=>hno (h▸hmb),fun b hb=> ?_⟩⟩
 ·simp only [Rep]
  exact⟨⟨some ⟨b',o',none⟩,n+1⟩,rfl,by simp,some ⟨b',o',none⟩,c',rfl,hc',.inr ⟨⟨b',o',none⟩,rfl,by simp,cur',el',hcur',by simpa using hsz'⟩⟩
 ·intro i j e f a b he hf ha hb hij
  match i,j with
  | 0,0=>exact absurd rfl hij
  | 0,1=>simp at hf; subst hf; cases hb
  | 1,_=>simp at he; subst he; cases ha
  | 0,j+2=>simp at hf
  | i+2,_=>simp at he
 ·intro i e a he ha
  match i with
  | 0=>simp at he; subst he; cases ha; exact hlt'
  | 1=>simp at he; subst he; cases ha
  | i+2=>simp at he
 ·intro k e b he hb
  match k with
  | 0=>
   simp at he hb; subst he; subst hb
   refine⟨rfl,.inr ⟨_,cur',el',rfl,hcur',?_,fun j o hj ho=> ?_⟩⟩
   ·have:(n+1)*sz≤c'*sz:=Nat.mul_le_mul_right _ hc'
    simp only; omega
   ·have hlt:=Zl hj ho
    have he:=hel (j*sz+o) hlt
    have hg2:=hgt j o hj ho
    simp only
    rw [he,← hg2]
    simp only [insG]
    by_cases h1:j<i
    ·rw [if_pos (Zl h1 ho),if_pos h1]
     obtain⟨c,g1,g2,g3⟩:=hc0 j o (by omega) ho
     exact⟨c,g1,g2,zj hx _ _ g3⟩
    ·have h2:¬ j*sz+o<i*sz:=by
      have:i*sz≤j*sz:=Nat.mul_le_mul_right _ (by omega)
      omega
     rw [if_neg h2,if_neg h1]
     by_cases h3:j=i
     ·subst h3
      rw [if_pos (by omega),if_pos rfl]
      obtain⟨c,g1,g2,g3⟩:=hc1 0 o (by decide) ho
      refine⟨c,?_,g2,zj hx _ _ g3⟩
      rw [← g1]; congr 1; omega
     ·have h4:(i+1)*sz≤j*sz:=Nat.mul_le_mul_right _ (by omega)
      rw [Nat.succ_mul] at h4
      rw [if_neg (by omega),if_neg h3]
      obtain⟨c,g1,g2,g3⟩:=hc0 (j - 1) o (by omega) ho
      refine⟨c,?_,g2,zj hx _ _ g3⟩
      rw [← g1]; congr 1
      have:(j - 1)*sz+sz=j*sz:=by rw [← Nat.succ_mul]; congr 1; omega
      omega
  | 1=>simp at hb; subst hb; trivial
  | k+2=>simp at he
 ·intro k e ad2 he had2
  match k with
  | 0=>
   simp at he; subst he; cases had2
   simp only
   rcases hb' with rfl | hb'
   ·exact hg.dis 0 e0 ad he0 had
   ·intro hO; have:=hg.old _ hO; omega
  | 1=>simp at he; subst he; cases had2
  | k+2=>simp at he
 ·rw [hmv,hpi]
  intro k e he hk
  simp only [if_true,List.drop_zero,List.mem_range] at hk
  have hlt:=(List.getElem?_eq_some_iff.1 he).1
  have hl:=hh.len
  simp at hl hk
  omega
 ·rcases hmine b hb with rfl
  rcases hb' with rfl | hb'
  ·exact .inl hmb
  ·exact .inr hb'
end Go.Sx
end
section
set_option maxRecDepth 100000
open Go Go.Sx Go.Proofs Go.Nov
namespace Go.Proofs.Try
attribute [local simp] eqKV eqA eqA0 eqH eqB eqL eqL0
theorem qO{α:Type}{l m:List α}{a:Nat}(h:a+m.length≤l.length)(k:Nat):(l.take a++m++l.drop (a+m.length))[k]?=if k<a then l[k]? else if k<a+m.length then m[k - a]? else l[k]?:=by
 have hl:(l.take a).length=a:=by rw [List.length_take]; omega
 rw [List.getElem?_append,List.getElem?_append,hl]
 simp only [List.length_append,hl]
 by_cases h1:k<a
 ·rw [if_pos (by omega),if_pos h1,if_pos h1,List.getElem?_take,if_pos h1]
 ·rw [if_neg h1,if_neg h1]
  by_cases h2:k<a+m.length
  ·rw [if_pos h2,if_pos h2]
  ·rw [if_neg h2,if_neg h2,List.getElem?_drop]; congr 1; omega
theorem q0{l:List Value}{o k j:Nat} : ((l.drop o).take k)[j]?=if j<k then l[o+j]? else none:=by
 rw [List.getElem?_take]
 split
 ·rw [List.getElem?_drop]
 ·rfl
theorem VU:Q5 Try.prog 60 3 40:=by
 intro b off n c i vb voff vc cur vcur el vel w hi hnc hbig hne hB hV hfit hvfit h1 h2
 have hcl:((cur.toList.drop off).take (n*3)).length=n*3:=by
  have:n*3≤c*3:=Nat.mul_le_mul_right _ hnc
  simp; omega
 have hvl:((vcur.toList.drop voff).take 3).length=3:=by simp; omega
 have hcs:∀ j v,((cur.toList.drop off).take (n*3))[j]?=some v→w.cell? ⟨b,off+j,none⟩=some v:=fun j v hj=>by
  rw [q0] at hj
  split at hj
  ·simp only [World.cell?,hB]; simpa using hj
  ·cases hj
 have hvs:∀ j v,((vcur.toList.drop voff).take 3)[j]?=some v→w.cell? ⟨vb,voff+j,none⟩=some v:=fun j v hj=>by
  rw [q0] at hj
  split at hj
  ·simp only [World.cell?,hV]; simpa using hj
  ·cases hj
 have h1c:∀ v∈(cur.toList.drop off).take (n*3),v.oneCell'=true:=fun v hv=>by
  obtain⟨j,hj⟩:=List.getElem?_of_mem hv
  rw [q0] at hj
  split at hj
  ·rename_i hlt; exact h1 j v hlt (by simpa using hj)
  ·cases hj
 have h1v:∀ v∈(vcur.toList.drop voff).take 3,v.oneCell'=true:=fun v hv=>by
  obtain⟨j,hj⟩:=List.getElem?_of_mem hv
  rw [q0] at hj
  split at hj
  ·rename_i hlt; exact h2 j v hlt (by simpa using hj)
  ·cases hj
 have hcg:∀ j,j<n*3→((cur.toList.drop off).take (n*3))[j]?=cur[off+j]?:=fun j hj=>by rw [q0,if_pos hj]; simp
 have hvg:∀ j,j<3→((vcur.toList.drop voff).take 3)[j]?=vcur[voff+j]?:=fun j hj=>by rw [q0,if_pos hj]; simp
 generalize (cur.toList.drop off).take (n*3)=cs at hcl hcs h1c hcg
 generalize (vcur.toList.drop voff).take 3=vs at hvl hvs h1v hvg
 have hin3:i*3+3≤n*3:=by have:=Nat.mul_le_mul_right 3 (show i+1≤n from hi); omega
 have hdl:(cs.drop (i*3)).length=n*3 - i*3:=by rw [List.length_drop,hcl]
 have hbw:b<w.heap.size:=(Array.getElem?_eq_some_iff.1 hB).1
 by_cases hroom:n+1≤c
 ·have hcn:(n+1)*3≤c*3:=Nat.mul_le_mul_right _ hroom
  obtain⟨X1,hX1⟩:∃ X1,X1=cur.toList.take (off+(i+1)*3)++cs.drop (i*3)++cur.toList.drop (off+(i+1)*3+(cs.drop (i*3)).length):=⟨_,rfl⟩
  obtain⟨X2,hX2⟩:∃ X2,X2=X1.take (off+i*3)++vs++X1.drop (off+i*3+vs.length):=⟨_,rfl⟩
  have hX1l:X1.length=cur.size:=by rw [hX1]; simp only [List.length_append,List.length_take,List.length_drop,Array.length_toList,hdl,hcl]; omega
  have hX2l:X2.length=cur.size:=by rw [hX2]; simp only [List.length_append,List.length_take,List.length_drop,hX1l,hvl]; omega
  have g1:∀ k:Nat,X1[k]?=(if k<off+(i+1)*3 then cur.toList[k]? else if k<off+(i+1)*3+(cs.drop (i*3)).length then(cs.drop (i*3))[k - (off+(i+1)*3)]? else cur.toList[k]?):=fun k=>by rw [hX1]; exact qO (by simp only [Array.length_toList,hdl]; omega) k
  have g2:∀ k:Nat,X2[k]?=(if k<off+i*3 then X1[k]? else if k<off+i*3+(vs).length then(vs)[k - (off+i*3)]? else X1[k]?):=fun k=>by rw [hX2]; exact qO (by rw [hX1l,hvl]; omega) k
  refine(Wf b off n c i vb voff vc cur vcur el vel cs vs w hi hroom (by omega) hne hB hV hfit hcl hvl hcs hvs h1c h1v X1 X2 hX1 hX2).mono ?_
  rintro e w' ⟨he,hh,hos,htape,hout⟩
  refine⟨b,off,c,X2.toArray,el,he,hroom,?_,by simp only [List.size_toArray,hX2l]; omega,?_,.inl rfl,?_,?_,hos,htape,hout⟩
  ·rw [hh]; exact setRow_heap _ b _ _ el _ (setRow_heap w b cur _ el _ hB)
  ·intro j hj
   simp only [List.getElem?_toArray,g2,g1,hvl,hdl]
   by_cases k1:j<i*3
   ·rw [if_pos (by omega),if_pos (by omega),if_pos k1]; simp
   ·rw [if_neg (by omega),if_neg k1]
    by_cases k2:j<i*3+3
    ·rw [if_pos (by omega),if_pos k2,show off+j - (off+i*3)=j - i*3 by omega,hvg _ (by omega)]
    ·rw [if_neg (by omega),if_neg k2,if_neg (by omega),if_pos (by omega),List.getElem?_drop,hcg _ (by omega)]; congr 1; omega
  ·rw [hh]; simp
  ·intro k hk hkb
   rw [hh,setRow_other _ b k _ hkb,setRow_other _ b k _ hkb]
 ·have hc1:c<n+1:=by omega
  obtain⟨G,hG⟩:∃ G,G=grownCap w (n+1) c 68:=⟨_,rfl⟩
  have hGn:n+1≤G:=by rw [hG]; exact grownCap_ge w _ _ _
  obtain⟨zs,hz⟩:∃ zs:List Value,Builtin.zeroCells (Value.agg #[.string ⟨#[]⟩,.int .i64 0,.string ⟨#[]⟩]).cells (n+1 - i)=zs.toArray:=⟨_,(Array.toArray_toList).symm⟩
  obtain⟨rest,hrest⟩:∃ zs:List Value,Builtin.zeroCells (Value.agg #[.string ⟨#[]⟩,.int .i64 0,.string ⟨#[]⟩]).cells (G - (n+1))=zs.toArray:=⟨_,(Array.toArray_toList).symm⟩
  have hzl:zs.length=(n+1 - i)*3:=by
   have:=congrArg Array.size hz
   simpa [Builtin.zeroCells,Value.cells] using this.symm
  have hrl:rest.length=(G - (n+1))*3:=by
   have:=congrArg Array.size hrest
   simpa [Builtin.zeroCells,Value.cells] using this.symm
  obtain⟨ROW,hROW⟩:∃ ROW,ROW=cs.take (i*3)++zs++rest:=⟨_,rfl⟩
  obtain⟨X1,hX1⟩:∃ X1,X1=ROW.take (i*3)++vs++ROW.drop (i*3+vs.length):=⟨_,rfl⟩
  obtain⟨X2,hX2⟩:∃ X2,X2=X1.take ((i+1)*3)++cs.drop (i*3)++X1.drop ((i+1)*3+(cs.drop (i*3)).length):=⟨_,rfl⟩
  have hsum:(n+1)*3+(G - (n+1))*3=G*3:=by rw [← Nat.add_mul]; congr 1; omega
  have hsum2:i*3+(n+1 - i)*3=(n+1)*3:=by rw [← Nat.add_mul]; congr 1; omega
  have hROWl:ROW.length=G*3:=by
   rw [hROW]; simp only [List.length_append,List.length_take,hcl,hzl,hrl]; omega
  have hX1l:X1.length=G*3:=by rw [hX1]; simp only [List.length_append,List.length_take,List.length_drop,hROWl,hvl]; omega
  have hX2l:X2.length=G*3:=by rw [hX2]; simp only [List.length_append,List.length_take,List.length_drop,hX1l,hdl,hcl]; omega
  have g1:∀ k:Nat,X1[k]?=(if k<i*3 then ROW[k]? else if k<i*3+(vs).length then(vs)[k - (i*3)]? else ROW[k]?):=fun k=>by rw [hX1]; exact qO (by rw [hROWl,hvl]; omega) k
  have g2:∀ k:Nat,X2[k]?=(if k<(i+1)*3 then X1[k]? else if k<(i+1)*3+(cs.drop (i*3)).length then(cs.drop (i*3))[k - ((i+1)*3)]? else X1[k]?):=fun k=>by rw [hX2]; exact qO (by rw [hX1l,hdl]; omega) k
  have g0:∀ k,k<i*3→ROW[k]?=cs[k]?:=fun k hk=>by
   rw [hROW,List.append_assoc,List.getElem?_append_left (by rw [List.length_take]; omega),List.getElem?_take,if_pos hk]
  refine(Kk b off n c i vb voff vc cur vcur el vel cs vs w hi hnc hc1 hbig hB hV hcl hvl hcs hvs h1c h1v zs hz G hG rest hrest ROW X1 X2 hROW hX1 hX2).mono ?_
  rintro e w' ⟨he,hh,hos,htape,hout⟩
  refine⟨w.heap.size,0,G,X2.toArray,68,he,hGn,?_,by simp only [List.size_toArray,hX2l]; omega,?_,.inr (Nat.le_refl _),?_,?_,hos,htape,hout⟩
  ·rw [hh]
   exact setRow_heap _ w.heap.size _ _ _ _ (setRow_heap _ w.heap.size _ _ _ _ (show((w.heap.push _))[w.heap.size]?=some (.cells ROW.toArray 68 (0,0)) from Array.getElem?_push_size))
  ·intro j hj
   simp only [List.getElem?_toArray,Nat.zero_add,g2,g1,hvl,hdl]
   by_cases k1:j<i*3
   ·rw [if_pos (by omega),if_pos k1,if_pos k1,g0 j k1,hcg j (by omega)]
   ·simp only [if_neg k1]
    by_cases k2:j<i*3+3
    ·rw [if_pos (by omega)]
     simp only [if_pos k2]
     exact hvg _ (by omega)
    ·simp only [if_neg k2]
     rw [if_neg (by omega),if_pos (by omega),List.getElem?_drop,hcg _ (by omega)]; congr 1; omega
  ·rw [hh,setRow_size,setRow_size]
   show _≤(w.heap.push _).size
   rw [Array.size_push]; omega
  ·intro k hk hkb
   rw [hh,setRow_other _ _ k _ (by omega),setRow_other _ _ k _ (by omega)]
   show(w.heap.push _)[k]?=_
   rw [Array.getElem?_push,if_neg (by omega)]
theorem Kq:Q5 Try.prog 61 4 48:=by
 intro b off n c i vb voff vc cur vcur el vel w hi hnc hbig hne hB hV hfit hvfit h1 h2
 have hcl:((cur.toList.drop off).take (n*4)).length=n*4:=by
  have:n*4≤c*4:=Nat.mul_le_mul_right _ hnc
  simp; omega
 have hvl:((vcur.toList.drop voff).take 4).length=4:=by simp; omega
 have hcs:∀ j v,((cur.toList.drop off).take (n*4))[j]?=some v→w.cell? ⟨b,off+j,none⟩=some v:=fun j v hj=>by
  rw [q0] at hj
  split at hj
  ·simp only [World.cell?,hB]; simpa using hj
  ·cases hj
 have hvs:∀ j v,((vcur.toList.drop voff).take 4)[j]?=some v→w.cell? ⟨vb,voff+j,none⟩=some v:=fun j v hj=>by
  rw [q0] at hj
  split at hj
  ·simp only [World.cell?,hV]; simpa using hj
  ·cases hj
 have h1c:∀ v∈(cur.toList.drop off).take (n*4),v.oneCell'=true:=fun v hv=>by
  obtain⟨j,hj⟩:=List.getElem?_of_mem hv
  rw [q0] at hj
  split at hj
  ·rename_i hlt; exact h1 j v hlt (by simpa using hj)
  ·cases hj
 have h1v:∀ v∈(vcur.toList.drop voff).take 4,v.oneCell'=true:=fun v hv=>by
  obtain⟨j,hj⟩:=List.getElem?_of_mem hv
  rw [q0] at hj
  split at hj
  ·rename_i hlt; exact h2 j v hlt (by simpa using hj)
  ·cases hj
 have hcg:∀ j,j<n*4→((cur.toList.drop off).take (n*4))[j]?=cur[off+j]?:=fun j hj=>by rw [q0,if_pos hj]; simp
 have hvg:∀ j,j<4→((vcur.toList.drop voff).take 4)[j]?=vcur[voff+j]?:=fun j hj=>by rw [q0,if_pos hj]; simp
 generalize (cur.toList.drop off).take (n*4)=cs at hcl hcs h1c hcg
 generalize (vcur.toList.drop voff).take 4=vs at hvl hvs h1v hvg
 have hin3:i*4+4≤n*4:=by have:=Nat.mul_le_mul_right 4 (show i+1≤n from hi); omega
 have hdl:(cs.drop (i*4)).length=n*4 - i*4:=by rw [List.length_drop,hcl]
 have hbw:b<w.heap.size:=(Array.getElem?_eq_some_iff.1 hB).1
 by_cases hroom:n+1≤c
 ·have hcn:(n+1)*4≤c*4:=Nat.mul_le_mul_right _ hroom
  obtain⟨X1,hX1⟩:∃ X1,X1=cur.toList.take (off+(i+1)*4)++cs.drop (i*4)++cur.toList.drop (off+(i+1)*4+(cs.drop (i*4)).length):=⟨_,rfl⟩
  obtain⟨X2,hX2⟩:∃ X2,X2=X1.take (off+i*4)++vs++X1.drop (off+i*4+vs.length):=⟨_,rfl⟩
  have hX1l:X1.length=cur.size:=by rw [hX1]; simp only [List.length_append,List.length_take,List.length_drop,Array.length_toList,hdl,hcl]; omega
  have hX2l:X2.length=cur.size:=by rw [hX2]; simp only [List.length_append,List.length_take,List.length_drop,hX1l,hvl]; omega
  have g1:∀ k:Nat,X1[k]?=(if k<off+(i+1)*4 then cur.toList[k]? else if k<off+(i+1)*4+(cs.drop (i*4)).length then(cs.drop (i*4))[k - (off+(i+1)*4)]? else cur.toList[k]?):=fun k=>by rw [hX1]; exact qO (by simp only [Array.length_toList,hdl]; omega) k
  have g2:∀ k:Nat,X2[k]?=(if k<off+i*4 then X1[k]? else if k<off+i*4+(vs).length then(vs)[k - (off+i*4)]? else X1[k]?):=fun k=>by rw [hX2]; exact qO (by rw [hX1l,hvl]; omega) k
  refine(WE b off n c i vb voff vc cur vcur el vel cs vs w hi hroom (by omega) hne hB hV hfit hcl hvl hcs hvs h1c h1v X1 X2 hX1 hX2).mono ?_
  rintro e w' ⟨he,hh,hos,htape,hout⟩
  refine⟨b,off,c,X2.toArray,el,he,hroom,?_,by simp only [List.size_toArray,hX2l]; omega,?_,.inl rfl,?_,?_,hos,htape,hout⟩
  ·rw [hh]; exact setRow_heap _ b _ _ el _ (setRow_heap w b cur _ el _ hB)
  ·intro j hj
   simp only [List.getElem?_toArray,g2,g1,hvl,hdl]
   by_cases k1:j<i*4
   ·rw [if_pos (by omega),if_pos (by omega),if_pos k1]; simp
   ·rw [if_neg (by omega),if_neg k1]
    by_cases k2:j<i*4+4
    ·rw [if_pos (by omega),if_pos k2,show off+j - (off+i*4)=j - i*4 by omega,hvg _ (by omega)]
    ·rw [if_neg (by omega),if_neg k2,if_neg (by omega),if_pos (by omega),List.getElem?_drop,hcg _ (by omega)]; congr 1; omega
  ·rw [hh]; simp
  ·intro k hk hkb
   rw [hh,setRow_other _ b k _ hkb,setRow_other _ b k _ hkb]
 ·have hc1:c<n+1:=by omega
  obtain⟨G,hG⟩:∃ G,G=grownCap w (n+1) c 59:=⟨_,rfl⟩
  have hGn:n+1≤G:=by rw [hG]; exact grownCap_ge w _ _ _
  obtain⟨zs,hz⟩:∃ zs:List Value,Builtin.zeroCells (Value.agg #[.string ⟨#[]⟩,.string ⟨#[]⟩,.int .i64 0,.bool false]).cells (n+1 - i)=zs.toArray:=⟨_,(Array.toArray_toList).symm⟩
  obtain⟨rest,hrest⟩:∃ zs:List Value,Builtin.zeroCells (Value.agg #[.string ⟨#[]⟩,.string ⟨#[]⟩,.int .i64 0,.bool false]).cells (G - (n+1))=zs.toArray:=⟨_,(Array.toArray_toList).symm⟩
  have hzl:zs.length=(n+1 - i)*4:=by
   have:=congrArg Array.size hz
   simpa [Builtin.zeroCells,Value.cells] using this.symm
  have hrl:rest.length=(G - (n+1))*4:=by
   have:=congrArg Array.size hrest
   simpa [Builtin.zeroCells,Value.cells] using this.symm
  obtain⟨ROW,hROW⟩:∃ ROW,ROW=cs.take (i*4)++zs++rest:=⟨_,rfl⟩
  obtain⟨X1,hX1⟩:∃ X1,X1=ROW.take (i*4)++vs++ROW.drop (i*4+vs.length):=⟨_,rfl⟩
  obtain⟨X2,hX2⟩:∃ X2,X2=X1.take ((i+1)*4)++cs.drop (i*4)++X1.drop ((i+1)*4+(cs.drop (i*4)).length):=⟨_,rfl⟩
  have hsum:(n+1)*4+(G - (n+1))*4=G*4:=by rw [← Nat.add_mul]; congr 1; omega
  have hsum2:i*4+(n+1 - i)*4=(n+1)*4:=by rw [← Nat.add_mul]; congr 1; omega
  have hROWl:ROW.length=G*4:=by
   rw [hROW]; simp only [List.length_append,List.length_take,hcl,hzl,hrl]; omega
  have hX1l:X1.length=G*4:=by rw [hX1]; simp only [List.length_append,List.length_take,List.length_drop,hROWl,hvl]; omega
  have hX2l:X2.length=G*4:=by rw [hX2]; simp only [List.length_append,List.length_take,List.length_drop,hX1l,hdl,hcl]; omega
  have g1:∀ k:Nat,X1[k]?=(if k<i*4 then ROW[k]? else if k<i*4+(vs).length then(vs)[k - (i*4)]? else ROW[k]?):=fun k=>by rw [hX1]; exact qO (by rw [hROWl,hvl]; omega) k
  have g2:∀ k:Nat,X2[k]?=(if k<(i+1)*4 then X1[k]? else if k<(i+1)*4+(cs.drop (i*4)).length then(cs.drop (i*4))[k - ((i+1)*4)]? else X1[k]?):=fun k=>by rw [hX2]; exact qO (by rw [hX1l,hdl]; omega) k
  have g0:∀ k,k<i*4→ROW[k]?=cs[k]?:=fun k hk=>by
   rw [hROW,List.append_assoc,List.getElem?_append_left (by rw [List.length_take]; omega),List.getElem?_take,if_pos hk]
  refine(Ks b off n c i vb voff vc cur vcur el vel cs vs w hi hnc hc1 hbig hB hV hcl hvl hcs hvs h1c h1v zs hz G hG rest hrest ROW X1 X2 hROW hX1 hX2).mono ?_
  rintro e w' ⟨he,hh,hos,htape,hout⟩
  refine⟨w.heap.size,0,G,X2.toArray,59,he,hGn,?_,by simp only [List.size_toArray,hX2l]; omega,?_,.inr (Nat.le_refl _),?_,?_,hos,htape,hout⟩
  ·rw [hh]
   exact setRow_heap _ w.heap.size _ _ _ _ (setRow_heap _ w.heap.size _ _ _ _ (show((w.heap.push _))[w.heap.size]?=some (.cells ROW.toArray 59 (0,0)) from Array.getElem?_push_size))
  ·intro j hj
   simp only [List.getElem?_toArray,Nat.zero_add,g2,g1,hvl,hdl]
   by_cases k1:j<i*4
   ·rw [if_pos (by omega),if_pos k1,if_pos k1,g0 j k1,hcg j (by omega)]
   ·simp only [if_neg k1]
    by_cases k2:j<i*4+4
    ·rw [if_pos (by omega)]
     simp only [if_pos k2]
     exact hvg _ (by omega)
    ·simp only [if_neg k2]
     rw [if_neg (by omega),if_pos (by omega),List.getElem?_drop,hcg _ (by omega)]; congr 1; omega
  ·rw [hh,setRow_size,setRow_size]
   show _≤(w.heap.push _).size
   rw [Array.size_push]; omega
  ·intro k hk hkb
   rw [hh,setRow_other _ _ k _ (by omega),setRow_other _ _ k _ (by omega)]
   show(w.heap.push _)[k]?=_
   rw [Array.getElem?_push,if_neg (by omega)]
theorem Uj{l:List Fx}{x:Fx}{i:Nat}(hi:i≤l.length){gl gv:Nat→Nat→AV}(hl:eqG l.length 3 gl (fxG l))(hv:eqG 1 3 gv (fxG [x])):eqG (l.length+1) 3 (insG i gl gv) (fxG (l.take i++x::l.drop i)):=by
 intro j o hj ho
 have hlt:(l.take i).length=i:=by rw [List.length_take]; omega
 simp only [insG]
 have e:fxG (l.take i++x::l.drop i) j o=((l.take i++x::l.drop i).getD j Fx.nil).cell o:=rfl
 rw [e]
 simp only [List.getD,List.getElem?_append,hlt]
 by_cases h1:j<i
 ·rw [if_pos h1,if_pos h1,hl j o (by omega) ho,List.getElem?_take,if_pos h1]; rfl
 ·rw [if_neg h1,if_neg h1]
  by_cases h2:j=i
  ·subst h2
   rw [if_pos rfl,hv 0 o (by decide) ho,Nat.sub_self]; rfl
  ·rw [if_neg h2,hl (j - 1) o (by omega) ho]
   obtain⟨k,hk⟩:=Nat.exists_eq_succ_of_ne_zero (show j - i≠0 by omega)
   rw [hk,List.getElem?_cons_succ,List.getElem?_drop,show i+k=j - 1 by omega]; rfl
theorem Uc{l:List Ch}{x:Ch}{i:Nat}(hi:i≤l.length){gl gv:Nat→Nat→AV}(hl:eqG l.length 4 gl (chG l))(hv:eqG 1 4 gv (chG [x])):eqG (l.length+1) 4 (insG i gl gv) (chG (l.take i++x::l.drop i)):=by
 intro j o hj ho
 have hlt:(l.take i).length=i:=by rw [List.length_take]; omega
 simp only [insG]
 have e:chG (l.take i++x::l.drop i) j o=((l.take i++x::l.drop i).getD j Ch.nil).cell o:=rfl
 rw [e]
 simp only [List.getD,List.getElem?_append,hlt]
 by_cases h1:j<i
 ·rw [if_pos h1,if_pos h1,hl j o (by omega) ho,List.getElem?_take,if_pos h1]; rfl
 ·rw [if_neg h1,if_neg h1]
  by_cases h2:j=i
  ·subst h2
   rw [if_pos rfl,hv 0 o (by decide) ho,Nat.sub_self]; rfl
  ·rw [if_neg h2,hl (j - 1) o (by omega) ho]
   obtain⟨k,hk⟩:=Nat.exists_eq_succ_of_ne_zero (show j - i≠0 by omega)
   rw [hk,List.getElem?_cons_succ,List.getElem?_drop,show i+k=j - 1 by omega]; rfl
def UE:Ctr:=ctrT false true (fun p:List Fx×Fx×Nat=>[.osl 0 3 0 p.1.length,.int .i64 (p.2.2:Int),.osl 1 3 0 1]) (fun p=>[.arr p.1.length 3 (fxG p.1),.arr 1 3 (fxG [p.2.1])]) (fun p=>p.2.2≤p.1.length∧p.1.length<2^40) (fun _ (_:Unit)=>True) (fun p (_:Unit)=>(.osl 0 3 0 (p.1.length+1),[.arr (p.1.length+1) 3 (fxG (p.1.take p.2.2++p.2.1::p.1.drop p.2.2)),.dead]))
def UU:Ctr:=ctrT false true (fun p:List Ch×Ch×Nat=>[.osl 0 4 0 p.1.length,.int .i64 (p.2.2:Int),.osl 1 4 0 1]) (fun p=>[.arr p.1.length 4 (chG p.1),.arr 1 4 (chG [p.2.1])]) (fun p=>p.2.2≤p.1.length∧p.1.length<2^40) (fun _ (_:Unit)=>True) (fun p (_:Unit)=>(.osl 0 4 0 (p.1.length+1),[.arr (p.1.length+1) 4 (chG (p.1.take p.2.2++p.2.1::p.1.drop p.2.2)),.dead]))
def zab:Ctr:=ctrT false true (fun p:List Fx×Fx×Nat=>[.osl 0 3 0 p.1.length,.int .i64 (p.2.2:Int),.osl 1 3 0 1]) (fun p=>[.arr p.1.length 3 (fxG p.1),.arr 1 3 (fxG [p.2.1])]) (fun p=>p.2.2=p.1.length∧p.1.length<2^40) (fun _ (_:Unit)=>True) (fun p (_:Unit)=>(.osl 0 3 0 (p.1.length+1),[.arr (p.1.length+1) 3 (fxG (p.1.take p.2.2++p.2.1::p.1.drop p.2.2)),.dead]))
def za2:Ctr:=ctrT false true (fun p:List Ch×Ch×Nat=>[.osl 0 4 0 p.1.length,.int .i64 (p.2.2:Int),.osl 1 4 0 1]) (fun p=>[.arr p.1.length 4 (chG p.1),.arr 1 4 (chG [p.2.1])]) (fun p=>p.2.2=p.1.length∧p.1.length<2^40) (fun _ (_:Unit)=>True) (fun p (_:Unit)=>(.osl 0 4 0 (p.1.length+1),[.arr (p.1.length+1) 4 (chG (p.1.take p.2.2++p.2.1::p.1.drop p.2.2)),.dead]))
theorem KT:zf Try.prog 60 zab:=by
 refine ja (fn:=Try.f60) (c:=Try.f60.body.getD .skip) rfl rfl rfl (fun h=>by cases h) fun p hp O w0 σ0 Q hl0 hq=> ?_
 obtain⟨l,x,i⟩:=p
 obtain⟨h1,h2⟩:=hp
 replace hq:=hq () trivial
 simp only at hq h1 h2
 refine zc.run hmix zA [] 400 (T:=.side ((0:Int)≤i∧(↑i:Int)≤l.length) (.ite false (.leaf (.ret [.osl 0 3 0 l.length] [.arr l.length 3 (fxG l),.arr 1 3 (fxG [x])])) (.ite (decide ((↑i:Int)=l.length)) (.side (0=0∧l.length≤l.length∧(l.length+1)*40≤140737488355328) (.leaf (.ret [.osl 0 3 0 (l.length+1)] [.arr (l.length+1) 3 (appG l.length (fxG l) (zg (fxG [x]) 0)),.arr 1 3 (fxG [x])]))) (.side (inR .i64 ((↑l.length:Int)+(1:Int))) .fail)))) (by kernel_rfl) ?_
 simp only [Tree.holds,zd]
 refine⟨by omega,fun _=>⟨fun h=>by simp at h,fun _=>⟨fun h=>⟨⟨trivial,Nat.le_refl _,by omega⟩,fun _=> ?_⟩,fun h=> ?_⟩⟩⟩
 ·refine RetR.keep [0,1] rfl rfl (by show ∀ j,j<2→_; decide) rfl hq (by simp [resV,exp2,exp1,exp0,zo,eqA2]) ?_ rfl
  refine⟨⟨rfl,rfl,?_⟩,trivial,trivial⟩
  have e:l.take i++x::l.drop i=l++[x]:=by rw [h1,List.take_length,List.drop_length]
  rw [e]
  intro j o hj ho
  simp only [appG,fxG,ZE,zg,Nat.zero_add]
  split
  ·rfl
  ·have:j=l.length:=by omega
   subst this
   rw [if_pos rfl,Nat.sub_self]; rfl
 ·exact absurd h1 (by have:=of_decide_eq_false h; omega)
theorem KU:zf Try.prog 61 za2:=by
 refine ja (fn:=Try.f61) (c:=Try.f61.body.getD .skip) rfl rfl rfl (fun h=>by cases h) fun p hp O w0 σ0 Q hl0 hq=> ?_
 obtain⟨l,x,i⟩:=p
 obtain⟨h1,h2⟩:=hp
 replace hq:=hq () trivial
 simp only at hq h1 h2
 refine zc.run hmix zA [] 400 (T:=.side ((0:Int)≤i∧(↑i:Int)≤l.length) (.ite false (.leaf (.ret [.osl 0 4 0 l.length] [.arr l.length 4 (chG l),.arr 1 4 (chG [x])])) (.ite (decide ((↑i:Int)=l.length)) (.side (0=0∧l.length≤l.length∧(l.length+1)*48≤140737488355328) (.leaf (.ret [.osl 0 4 0 (l.length+1)] [.arr (l.length+1) 4 (appG l.length (chG l) (zg (chG [x]) 0)),.arr 1 4 (chG [x])]))) (.side (inR .i64 ((↑l.length:Int)+(1:Int))) .fail)))) (by kernel_rfl) ?_
 simp only [Tree.holds,zd]
 refine⟨by omega,fun _=>⟨fun h=>by simp at h,fun _=>⟨fun h=>⟨⟨trivial,Nat.le_refl _,by omega⟩,fun _=> ?_⟩,fun h=> ?_⟩⟩⟩
 ·refine RetR.keep [0,1] rfl rfl (by show ∀ j,j<2→_; decide) rfl hq (by simp [resV,exp2,exp1,exp0,zo,eqA2]) ?_ rfl
  refine⟨⟨rfl,rfl,?_⟩,trivial,trivial⟩
  have e:l.take i++x::l.drop i=l++[x]:=by rw [h1,List.take_length,List.drop_length]
  rw [e]
  intro j o hj ho
  simp only [appG,chG,ZE,zg,Nat.zero_add]
  split
  ·rfl
  ·have:j=l.length:=by omega
   subst this
   rw [if_pos rfl,Nat.sub_self]; rfl
 ·exact absurd h1 (by have:=of_decide_eq_false h; omega)
theorem Uw:zf Try.prog 60 UE:=by
 intro args hc Q hq hfr
 obtain⟨⟨l,x,i⟩,⟨h1,h2,h3,h4,h5⟩,h6,h7⟩:=hq
 simp only at h1 h2 h3 h4 h5 h7
 rcases Nat.lt_or_ge i l.length with hlt | hge
 ·exact qk.le h1 (qk.leH h2 h3 (Vb (fn:=Try.f60) (c:=Try.f60.body.getD .skip) rfl rfl rfl (by decide) VU hlt (by omega) (Uj h4 (za _ _ _) (za _ _ _)) rfl rfl rfl (h7 () trivial)))
 ·exact KT args hc Q ⟨(l,x,i),⟨h1,h2,h3,by show i=l.length; omega,h5⟩,h6,h7⟩ hfr
theorem Ut:zf Try.prog 61 UU:=by
 intro args hc Q hq hfr
 obtain⟨⟨l,x,i⟩,⟨h1,h2,h3,h4,h5⟩,h6,h7⟩:=hq
 simp only at h1 h2 h3 h4 h5 h7
 rcases Nat.lt_or_ge i l.length with hlt | hge
 ·exact qk.le h1 (qk.leH h2 h3 (Vb (fn:=Try.f61) (c:=Try.f61.body.getD .skip) rfl rfl rfl (by decide) Kq hlt (by omega) (Uc h4 (za _ _ _) (za _ _ _)) rfl rfl rfl (h7 () trivial)))
 ·exact KU args hc Q ⟨(l,x,i),⟨h1,h2,h3,by show i=l.length; omega,h5⟩,h6,h7⟩ hfr
noncomputable def K41:List Go.Sx.Item:=[.code (Try.f41.body.getD .skip)]
noncomputable def K44:List Go.Sx.Item:=[.code (Try.f44.body.getD .skip)]
noncomputable def GPl:Nat→Option Ctr:=fun f=>if f=42 then some (xo) else if f=20 then some (x5) else if f=45 then some (ZN) else if f=43 then some (ZO) else if f=59 then some (Qg) else if f=19 then some (Q7) else if f=60 then some (UE) else if f=61 then some (UU) else none
theorem Q9:∀ g c,GPl g=some c→zf Try.prog g c:=okIf kI (okIf kU (okIf Z7 (okIf Zh (okIf Zy (okIf Z2 (okIf Uw (okIf Ut (zx))))))))
def SPlc(l:List Fx)(i:Nat):KV:=[(0,fxS l),(2,.fn 42 [] []),(4,.ptr 0 0),(8,.osl 1 3 0 l.length),(10,.int .i64 (i:Int)),(29,.undef),(30,.undef),(31,.undef),(32,.undef),(33,.undef),(34,.undef),(35,.undef),(36,.undef)]
def HPl(l:List Fx)(x:Fx):Heap:=[.box [.str x.name,.int .i64 x.date,.str x.value],.arr l.length 3 (fxG l)]
def SQl(l:List Ch)(i:Nat):KV:=[(0,chS l),(2,.fn 20 [] []),(4,.ptr 0 0),(8,.osl 1 4 0 l.length),(10,.int .i64 (i:Int)),(29,.undef),(30,.undef),(31,.undef),(32,.undef),(33,.undef),(34,.undef),(35,.undef),(36,.undef)]
def HQl(l:List Ch)(x:Ch):Heap:=[.box [.str x.zb,.str x.name,.int .i64 x.date,.bool x.first],.arr l.length 4 (chG l)]
def yY:Ctr:=ctrP true (fun p:List Fx×Fx=>[fxS p.1,p.2.av,.fn 42 [] []]) (fun p=>p.1.length≤1000∧ordB cmpF Fx.nil p.1=true) (fun p (r:List Fx×Bool)=>r=(z8 cmpF p.2 p.1,decide ((z8 cmpF p.2 p.1).length≤1000))) (fun _ r=>(.tup [.osl 0 3 0 r.1.length,.bool r.2],[.arr r.1.length 3 (fxG r.1)]))
theorem JY:zf Try.prog 41 yY:=by
 refine zn (fn:=Try.f41) (c:=Try.f41.body.getD .skip) rfl rfl rfl fun p hp O w0 Q hq=> ?_
 obtain⟨l,x⟩:=p
 obtain⟨hl,hord⟩:=hp
 replace hq:=hq _ rfl
 simp only at hq hl hord
 have hpw:=Qn Xo hord
 refine zc.run hmix Q9 [0,2,4,8,10,29,30,31,32,33,34,35,36] 400 (T:=.ex (fun(x:List Fx)=>eqL [AV.sl l.length 3 (fxG l)] [AV.sl x.length 3 (fxG x)]∧x.length<1099511627776) fun n=>.all (fun(x:Unit)=>True) fun n_1=>.ex (fun(x_1:List Fx×Fx)=>eqL [AV.sl n.length 3 (zg (fxG n) 0),AV.agg [AV.str x.name,AV.int .i64 x.date,AV.str x.value],AV.fn 42 [] []] [AV.sl x_1.1.length 3 (fxG x_1.1),AV.agg [AV.str x_1.2.name,AV.int .i64 x_1.2.date,AV.str x_1.2.value],AV.fn 42 [] []]∧x_1.1.length<1099511627776) fun n_2=>.all (fun(r:Int)=>r=idxB (fun(x:Fx)=>decide (cmpF x n_2.2=0)) n_2.1) fun n_3=>.ite (decide ((0:Int)≤n_3)) (.side ((0:Int)≤n_3∧n_3<(↑n.length:Int)) (.leaf (.ret [.osl 1 3 0 n.length,.bool true] [.box [.str x.name,.int .i64 x.date,.str x.value],.arr n.length 3 (updG (fxG n) (0+Int.toNat n_3) 0 [.str x.name,.int .i64 x.date,.str x.value])]))) (.leaf (.loop (Prod.fst (lps K41 0)) (Prod.snd (lps K41 0)) [(0,.sl l.length 3 (fxG l)),(2,.fn 42 [] []),(4,.ptr 0 0),(8,.osl 1 3 0 n.length),(10,.int .i64 0),(29,.undef),(30,.undef),(31,.undef),(32,.undef),(33,.undef),(34,.undef),(35,.undef),(36,.undef)] [.box [.str x.name,.int .i64 x.date,.str x.value],.arr n.length 3 (fxG n)]))) (by kernel_rfl) ?_
 simp only [Tree.holds,zd]
 have fin:∀ (r:List Fx) (b:Bool) (h:Heap) (g:Nat→Nat→AV),r=z8 cmpF x l→b=decide ((z8 cmpF x l).length≤1000)→h.length=2∨h.length=3→h.getD 1 .dead = .arr r.length 3 g→eqG r.length 3 g (fxG r)→RetR yY 0 Q [.osl 1 3 0 r.length,.bool b] h:=by
  intro r b h g hr hb hlen hh hg
  subst hr; subst hb
  refine RetR.outs [1] rfl (by simp; omega) hq (fun _=>⟨?_,?_⟩) ?_ ?_ rfl
  ·simp [resV,new2,new1,new0,zo,zT]
  ·simp only [List.mem_cons,List.not_mem_nil,or_false,forall_eq,hh]
   exact y8 hg
  ·simp [resV,exp2,exp1,exp0,zo,ren0,eqA2,eqL1]
  ·simp only [expH,List.map_cons,List.map_nil,hh,expB]
   exact⟨⟨rfl,rfl,hg⟩,trivial⟩
 refine⟨l,⟨by simp [za],by omega⟩,⟨(),trivial⟩,fun _ _=>⟨(l,x),⟨by simp [k8],by show l.length<2^40; omega⟩,⟨_,rfl⟩,?_⟩⟩
 rintro _ rfl
 obtain⟨hlt,hfd⟩:=xN (p:=fun y=>decide (cmpF y x=0)) Fx.nil l
 refine⟨fun h=> ?_,fun h=> ?_⟩
 ·have h:=of_decide_eq_true h
  rw [if_pos h] at hfd
  simp only at h hlt ⊢
  have hk:=List.find?_some hfd
  have hk:cmpF (l.getD (idxB (fun y=>decide (cmpF y x=0)) l).toNat Fx.nil) x=0:=of_decide_eq_true hk
  have hsp:=xY Xo (x:=x) (z:=Fx.nil) hpw (show(idxB (fun y=>decide (cmpF y x=0)) l).toNat<l.length by omega) hk
  refine⟨⟨h,hlt⟩,fun _=> ?_⟩
  have hlen:(l.set (idxB (fun y=>decide (cmpF y x=0)) l).toNat x).length=l.length:=List.length_set
  have:=fin _ true _ (updG (fxG l) (0+(idxB (fun y=>decide (cmpF y x=0)) l).toNat) 0 [.str x.name,.int .i64 x.date,.str x.value]) hsp (by rw [← hsp,hlen]; exact(decide_eq_true hl).symm) (.inl (rfl:([.box [.str x.name,.int .i64 x.date,.str x.value],.arr l.length 3 (updG (fxG l) (0+(idxB (fun y=>decide (cmpF y x=0)) l).toNat) 0 [.str x.name,.int .i64 x.date,.str x.value])]:Heap).length=2)) (by rw [hlen]; rfl) (by rw [hlen,Nat.zero_add]; exact zar (by omega))
  rw [hlen] at this
  exact this
 ·have h:=of_decide_eq_false h
  rw [if_neg h,List.find?_eq_none] at hfd
  have hno:∀ j,j<l.length→cmpF (l.getD j Fx.nil) x≠0:=fun j hj h0=>by
   exact hfd (l.getD j Fx.nil) (by simp [List.getD,hj]) (decide_eq_true h0)
  refine zc.loop (ι:={i:Nat // i≤l.length∧∀ j,j<i→cmpF (l.getD j Fx.nil) x<0}) (fun i=>SPlc l i.1) (fun _=>HPl l x) (fun i=>l.length - i.1) ⟨0,Nat.zero_le _,fun j hj=>by omega⟩ 0 ?_ ?_ (by kernel_rfl)
  ·exact⟨by simp [SPlc,fxS,za],by simp [HPl,za],by kernel_rfl,Nat.zero_le _⟩
  ·rintro⟨i,hil,hib⟩
   refine zc.run hmix Q9 [0,2,4,8,10,29,30,31,32,33,34,35,36] 400 (T:=.side (decide ((↑i:Int)<l.length)=true→(0:Int)≤i∧(↑i:Int)<l.length) (.ex (fun(x_1:Fx×Fx)=>decide ((↑i:Int)<l.length)=true→eqL [AV.agg [AV.str (Fx.name (l.getD (0+Int.toNat (↑i:Int)) Fx.nil)),AV.int .i64 (Fx.date (l.getD (0+Int.toNat (↑i:Int)) Fx.nil)),AV.str (Fx.value (l.getD (0+Int.toNat (↑i:Int)) Fx.nil))],AV.agg [AV.str x.name,AV.int .i64 x.date,AV.str x.value]] [AV.agg [AV.str x_1.1.name,AV.int .i64 x_1.1.date,AV.str x_1.1.value],AV.agg [AV.str x_1.2.name,AV.int .i64 x_1.2.date,AV.str x_1.2.value]]∧True) fun n=>.all (fun(x:Int)=>decide ((↑i:Int)<l.length)=true→x=cmpF n.1 n.2) fun n=>.ite (bif decide ((↑i:Int)<l.length) then decide (n<0) else false) (.side (inR .i64 ((↑i:Int)+(1:Int))) (.leaf (.back 0 [(0,.sl l.length 3 (fxG l)),(2,.fn 42 [] []),(4,.ptr 0 0),(8,.osl 1 3 0 l.length),(10,.int .i64 ((↑i:Int)+(1:Int))),(29,.undef),(30,.undef),(31,.undef),(32,.undef),(33,.undef),(34,.undef),(35,.undef),(36,.undef)] [.box [.str x.name,.int .i64 x.date,.str x.value],.arr l.length 3 (fxG l)]))) (.ex (fun(x_1:List Fx×Fx×Nat)=>eqL [AV.osl 0 3 0 l.length,AV.int .i64 i,AV.osl 1 3 0 1] [AV.osl 0 3 0 x_1.1.length,AV.int .i64 x_1.2.2,AV.osl 1 3 0 1]∧eqH [.arr l.length 3 (fxG l),.arr 1 3 (zh 3 [AV.str x.name,AV.int .i64 x.date,AV.str x.value])] [.arr x_1.1.length 3 (fxG x_1.1),.arr 1 3 (fxG [x_1.2.1])]∧2=2∧x_1.2.2≤x_1.1.length∧x_1.1.length<1099511627776) fun n=>.all (fun(x:Unit)=>True) fun n_1=>.leaf (.ret [.osl 1 3 0 (n.1.length+1),.bool (decide ((↑l.length:Int)<1000))] [.box [.str x.name,.int .i64 x.date,.str x.value],.arr (n.1.length+1) 3 (fxG (List.take n.2.2 n.1++n.2.1::List.drop n.2.2 n.1)),.dead])))) (by kernel_rfl) ?_
   simp only [Tree.holds,zd,inR,lo,hi,Int.toNat_natCast,Nat.zero_add]
   refine⟨fun h=>by have:=of_decide_eq_true h; omega,fun _=>⟨(l.getD i Fx.nil,x),fun _=>⟨by simp,trivial⟩,⟨_,fun _=>rfl⟩,?_⟩⟩
   intro n hn
   refine⟨fun h2=> ?_,fun h2=> ?_⟩
   ·rw [Bool.cond_eq_ite] at h2
    split at h2
    ·rename_i g1
     rw [hn g1] at h2
     have g1:=of_decide_eq_true g1
     have h2:=of_decide_eq_true h2
     refine⟨by omega,fun _=> ?_⟩
     rw [if_pos trivial]
     refine⟨⟨i+1,by omega,fun j hj=> ?_⟩,by show l.length - (i+1)<l.length - i; omega,by simp [SPlc,fxS,za],by simp [HPl,za],by kernel_rfl,Nat.zero_le _⟩
     rcases Nat.lt_or_ge j i with h1 | h1
     ·exact hib j h1
     ·have:j=i:=by omega
      rw [this]; exact h2
    ·cases h2
   ·have hnot:i<l.length→¬ cmpF (l.getD i Fx.nil) x<0:=fun hlt2=>by
     have g1:decide ((i:Int)<l.length)=true:=decide_eq_true (by omega)
     rw [g1,hn g1] at h2
     exact of_decide_eq_false h2
    refine⟨(l,x,i),⟨by simp,⟨⟨rfl,rfl,za _ _ _⟩,⟨rfl,rfl,fun j o hj ho=> ?_⟩,trivial⟩,trivial,hil,by show l.length<2^40; omega⟩,⟨(),trivial⟩,fun _ _=> ?_⟩
    ·have:=Fx.xK x hj ho
     simp only [zg,Nat.zero_add] at this
     rw [this]
     have:j=0:=by omega
     subst this; rfl
    ·have hins:=xG (x:=x) (z:=Fx.nil) hno hib hil hnot
     have hlen:(l.take i++x::l.drop i).length=l.length+1:=by simp; omega
     have:=fin _ (decide ((l.length:Int)<1000)) [.box [.str x.name,.int .i64 x.date,.str x.value],.arr (l.length+1) 3 (fxG (l.take i++x::l.drop i)),.dead] (fxG (l.take i++x::l.drop i)) hins (by rw [← hins,hlen]; exact decide_eq_decide.2 (by omega)) (.inr rfl) (by rw [hlen]; rfl) (za _ _ _)
     rw [hlen] at this
     exact this
def yT:Ctr:=ctrP true (fun p:List Ch×Ch=>[chS p.1,p.2.av,.fn 20 [] []]) (fun p=>p.1.length≤1000∧ordB cmpC Ch.nil p.1=true) (fun p (r:List Ch×Bool)=>r=(z8 cmpC p.2 p.1,decide ((z8 cmpC p.2 p.1).length≤1000))) (fun _ r=>(.tup [.osl 0 4 0 r.1.length,.bool r.2],[.arr r.1.length 4 (chG r.1)]))
theorem WC:zf Try.prog 44 yT:=by
 refine zn (fn:=Try.f44) (c:=Try.f44.body.getD .skip) rfl rfl rfl fun p hp O w0 Q hq=> ?_
 obtain⟨l,x⟩:=p
 obtain⟨hl,hord⟩:=hp
 replace hq:=hq _ rfl
 simp only at hq hl hord
 have hpw:=Qn Y2 hord
 refine zc.run hmix Q9 [0,2,4,8,10,29,30,31,32,33,34,35,36] 400 (T:=.ex (fun(x:List Ch)=>eqL [AV.sl l.length 4 (chG l)] [AV.sl x.length 4 (chG x)]∧x.length<1099511627776) fun n=>.all (fun(x:Unit)=>True) fun n_1=>.ex (fun(x_1:List Ch×Ch)=>eqL [AV.sl n.length 4 (zg (chG n) 0),AV.agg [AV.str x.zb,AV.str x.name,AV.int .i64 x.date,AV.bool x.first],AV.fn 20 [] []] [AV.sl x_1.1.length 4 (chG x_1.1),AV.agg [AV.str x_1.2.zb,AV.str x_1.2.name,AV.int .i64 x_1.2.date,AV.bool x_1.2.first],AV.fn 20 [] []]∧x_1.1.length<1099511627776) fun n_2=>.all (fun(r:Int)=>r=idxB (fun(x:Ch)=>decide (cmpC x n_2.2=0)) n_2.1) fun n_3=>.ite (decide ((0:Int)≤n_3)) (.side ((0:Int)≤n_3∧n_3<(↑n.length:Int)) (.leaf (.ret [.osl 1 4 0 n.length,.bool true] [.box [.str x.zb,.str x.name,.int .i64 x.date,.bool x.first],.arr n.length 4 (updG (chG n) (0+Int.toNat n_3) 0 [.str x.zb,.str x.name,.int .i64 x.date,.bool x.first])]))) (.leaf (.loop (Prod.fst (lps K44 0)) (Prod.snd (lps K44 0)) [(0,.sl l.length 4 (chG l)),(2,.fn 20 [] []),(4,.ptr 0 0),(8,.osl 1 4 0 n.length),(10,.int .i64 0),(29,.undef),(30,.undef),(31,.undef),(32,.undef),(33,.undef),(34,.undef),(35,.undef),(36,.undef)] [.box [.str x.zb,.str x.name,.int .i64 x.date,.bool x.first],.arr n.length 4 (chG n)]))) (by kernel_rfl) ?_
 simp only [Tree.holds,zd]
 have fin:∀ (r:List Ch) (b:Bool) (h:Heap) (g:Nat→Nat→AV),r=z8 cmpC x l→b=decide ((z8 cmpC x l).length≤1000)→h.length=2∨h.length=3→h.getD 1 .dead = .arr r.length 4 g→eqG r.length 4 g (chG r)→RetR yT 0 Q [.osl 1 4 0 r.length,.bool b] h:=by
  intro r b h g hr hb hlen hh hg
  subst hr; subst hb
  refine RetR.outs [1] rfl (by simp; omega) hq (fun _=>⟨?_,?_⟩) ?_ ?_ rfl
  ·simp [resV,new2,new1,new0,zo,zT]
  ·simp only [List.mem_cons,List.not_mem_nil,or_false,forall_eq,hh]
   exact y5 hg
  ·simp [resV,exp2,exp1,exp0,zo,ren0,eqA2,eqL1]
  ·simp only [expH,List.map_cons,List.map_nil,hh,expB]
   exact⟨⟨rfl,rfl,hg⟩,trivial⟩
 refine⟨l,⟨by simp [za],by omega⟩,⟨(),trivial⟩,fun _ _=>⟨(l,x),⟨by simp [k8],by show l.length<2^40; omega⟩,⟨_,rfl⟩,?_⟩⟩
 rintro _ rfl
 obtain⟨hlt,hfd⟩:=xN (p:=fun y=>decide (cmpC y x=0)) Ch.nil l
 refine⟨fun h=> ?_,fun h=> ?_⟩
 ·have h:=of_decide_eq_true h
  rw [if_pos h] at hfd
  simp only at h hlt ⊢
  have hk:=List.find?_some hfd
  have hk:cmpC (l.getD (idxB (fun y=>decide (cmpC y x=0)) l).toNat Ch.nil) x=0:=of_decide_eq_true hk
  have hsp:=xY Y2 (x:=x) (z:=Ch.nil) hpw (show(idxB (fun y=>decide (cmpC y x=0)) l).toNat<l.length by omega) hk
  refine⟨⟨h,hlt⟩,fun _=> ?_⟩
  have hlen:(l.set (idxB (fun y=>decide (cmpC y x=0)) l).toNat x).length=l.length:=List.length_set
  have:=fin _ true _ (updG (chG l) (0+(idxB (fun y=>decide (cmpC y x=0)) l).toNat) 0 [.str x.zb,.str x.name,.int .i64 x.date,.bool x.first]) hsp (by rw [← hsp,hlen]; exact(decide_eq_true hl).symm) (.inl (rfl:([.box [.str x.zb,.str x.name,.int .i64 x.date,.bool x.first],.arr l.length 4 (updG (chG l) (0+(idxB (fun y=>decide (cmpC y x=0)) l).toNat) 0 [.str x.zb,.str x.name,.int .i64 x.date,.bool x.first])]:Heap).length=2)) (by rw [hlen]; rfl) (by rw [hlen,Nat.zero_add]; exact zan (by omega))
  rw [hlen] at this
  exact this
 ·have h:=of_decide_eq_false h
  rw [if_neg h,List.find?_eq_none] at hfd
  have hno:∀ j,j<l.length→cmpC (l.getD j Ch.nil) x≠0:=fun j hj h0=>by
   exact hfd (l.getD j Ch.nil) (by simp [List.getD,hj]) (decide_eq_true h0)
  refine zc.loop (ι:={i:Nat // i≤l.length∧∀ j,j<i→cmpC (l.getD j Ch.nil) x<0}) (fun i=>SQl l i.1) (fun _=>HQl l x) (fun i=>l.length - i.1) ⟨0,Nat.zero_le _,fun j hj=>by omega⟩ 0 ?_ ?_ (by kernel_rfl)
  ·exact⟨by simp [SQl,chS,za],by simp [HQl,za],by kernel_rfl,Nat.zero_le _⟩
  ·rintro⟨i,hil,hib⟩
   refine zc.run hmix Q9 [0,2,4,8,10,29,30,31,32,33,34,35,36] 400 (T:=.side (decide ((↑i:Int)<l.length)=true→(0:Int)≤i∧(↑i:Int)<l.length) (.ex (fun(x_1:Ch×Ch)=>decide ((↑i:Int)<l.length)=true→eqL [AV.agg [AV.str (Ch.zb (l.getD (0+Int.toNat (↑i:Int)) Ch.nil)),AV.str (Ch.name (l.getD (0+Int.toNat (↑i:Int)) Ch.nil)),AV.int .i64 (Ch.date (l.getD (0+Int.toNat (↑i:Int)) Ch.nil)),AV.bool (Ch.first (l.getD (0+Int.toNat (↑i:Int)) Ch.nil))],AV.agg [AV.str x.zb,AV.str x.name,AV.int .i64 x.date,AV.bool x.first]] [AV.agg [AV.str x_1.1.zb,AV.str x_1.1.name,AV.int .i64 x_1.1.date,AV.bool x_1.1.first],AV.agg [AV.str x_1.2.zb,AV.str x_1.2.name,AV.int .i64 x_1.2.date,AV.bool x_1.2.first]]∧True) fun n=>.all (fun(x:Int)=>decide ((↑i:Int)<l.length)=true→x=cmpC n.1 n.2) fun n=>.ite (bif decide ((↑i:Int)<l.length) then decide (n<0) else false) (.side (inR .i64 ((↑i:Int)+(1:Int))) (.leaf (.back 0 [(0,.sl l.length 4 (chG l)),(2,.fn 20 [] []),(4,.ptr 0 0),(8,.osl 1 4 0 l.length),(10,.int .i64 ((↑i:Int)+(1:Int))),(29,.undef),(30,.undef),(31,.undef),(32,.undef),(33,.undef),(34,.undef),(35,.undef),(36,.undef)] [.box [.str x.zb,.str x.name,.int .i64 x.date,.bool x.first],.arr l.length 4 (chG l)]))) (.ex (fun(x_1:List Ch×Ch×Nat)=>eqL [AV.osl 0 4 0 l.length,AV.int .i64 i,AV.osl 1 4 0 1] [AV.osl 0 4 0 x_1.1.length,AV.int .i64 x_1.2.2,AV.osl 1 4 0 1]∧eqH [.arr l.length 4 (chG l),.arr 1 4 (zh 4 [AV.str x.zb,AV.str x.name,AV.int .i64 x.date,AV.bool x.first])] [.arr x_1.1.length 4 (chG x_1.1),.arr 1 4 (chG [x_1.2.1])]∧2=2∧x_1.2.2≤x_1.1.length∧x_1.1.length<1099511627776) fun n=>.all (fun(x:Unit)=>True) fun n_1=>.leaf (.ret [.osl 1 4 0 (n.1.length+1),.bool (decide ((↑l.length:Int)<1000))] [.box [.str x.zb,.str x.name,.int .i64 x.date,.bool x.first],.arr (n.1.length+1) 4 (chG (List.take n.2.2 n.1++n.2.1::List.drop n.2.2 n.1)),.dead])))) (by kernel_rfl) ?_
   simp only [Tree.holds,zd,inR,lo,hi,Int.toNat_natCast,Nat.zero_add]
   refine⟨fun h=>by have:=of_decide_eq_true h; omega,fun _=>⟨(l.getD i Ch.nil,x),fun _=>⟨by simp,trivial⟩,⟨_,fun _=>rfl⟩,?_⟩⟩
   intro n hn
   refine⟨fun h2=> ?_,fun h2=> ?_⟩
   ·rw [Bool.cond_eq_ite] at h2
    split at h2
    ·rename_i g1
     rw [hn g1] at h2
     have g1:=of_decide_eq_true g1
     have h2:=of_decide_eq_true h2
     refine⟨by omega,fun _=> ?_⟩
     rw [if_pos trivial]
     refine⟨⟨i+1,by omega,fun j hj=> ?_⟩,by show l.length - (i+1)<l.length - i; omega,by simp [SQl,chS,za],by simp [HQl,za],by kernel_rfl,Nat.zero_le _⟩
     rcases Nat.lt_or_ge j i with h1 | h1
     ·exact hib j h1
     ·have:j=i:=by omega
      rw [this]; exact h2
    ·cases h2
   ·have hnot:i<l.length→¬ cmpC (l.getD i Ch.nil) x<0:=fun hlt2=>by
     have g1:decide ((i:Int)<l.length)=true:=decide_eq_true (by omega)
     rw [g1,hn g1] at h2
     exact of_decide_eq_false h2
    refine⟨(l,x,i),⟨by simp,⟨⟨rfl,rfl,za _ _ _⟩,⟨rfl,rfl,fun j o hj ho=> ?_⟩,trivial⟩,trivial,hil,by show l.length<2^40; omega⟩,⟨(),trivial⟩,fun _ _=> ?_⟩
    ·have:=Ch.xK x hj ho
     simp only [zg,Nat.zero_add] at this
     rw [this]
     have:j=0:=by omega
     subst this; rfl
    ·have hins:=xG (x:=x) (z:=Ch.nil) hno hib hil hnot
     have hlen:(l.take i++x::l.drop i).length=l.length+1:=by simp; omega
     have:=fin _ (decide ((l.length:Int)<1000)) [.box [.str x.zb,.str x.name,.int .i64 x.date,.bool x.first],.arr (l.length+1) 4 (chG (l.take i++x::l.drop i)),.dead] (chG (l.take i++x::l.drop i)) hins (by rw [← hins,hlen]; exact decide_eq_decide.2 (by omega)) (.inr rfl) (by rw [hlen]; rfl) (za _ _ _)
     rw [hlen] at this
     exact this
noncomputable def GPu:Nat→Option Ctr:=fun f=>if f=39 then some (Vi) else if f=37 then some (J5) else if f=40 then some (Q6) else if f=36 then some (y4) else if f=41 then some (yY) else if f=44 then some (yT) else if f=45 then some (ZN) else if f=43 then some (ZO) else none
theorem KO:∀ g c,GPu g=some c→zf Try.prog g c:=okIf VP (okIf Qp (okIf ZJ (okIf xV (okIf JY (okIf WC (okIf Z7 (okIf Zh (zx))))))))
def UJ:Ctr:=ctrP true (fun p:(List Fx×List Ch)×Fx=>[envA p.1.1 p.1.2,p.2.av]) (fun p=>envP p.1∧qF p.2) (fun p r=>r=putF p.1.1 p.1.2 p.2) (fun _ (r:(List Fx×List Ch)×Int)=>(.tup [.agg [.osl 0 3 0 r.1.1.length,.osl 1 4 0 r.1.2.length],.int .i64 r.2],[.arr r.1.1.length 3 (fxG r.1.1),.arr r.1.2.length 4 (chG r.1.2)]))
def UI:Ctr:=ctrP true (fun p:(List Fx×List Ch)×Ch=>[envA p.1.1 p.1.2,p.2.av]) (fun p=>envP p.1∧qG p.2) (fun p r=>r=putC p.1.1 p.1.2 p.2) (fun _ (r:(List Fx×List Ch)×Int)=>(.tup [.agg [.osl 0 3 0 r.1.1.length,.osl 1 4 0 r.1.2.length],.int .i64 r.2],[.arr r.1.1.length 3 (fxG r.1.1),.arr r.1.2.length 4 (chG r.1.2)]))
theorem Vl{ctr:Ctr}{Q:AV×Heap→Prop}(e:Int)(h:Heap)(hq:Q (.tup [.agg [.osl 0 3 0 ([]:List Fx).length,.osl 1 4 0 ([]:List Ch).length],.int .i64 e],[.arr ([]:List Fx).length 3 (fxG []),.arr ([]:List Ch).length 4 (chG [])])):RetR ctr 0 (upQ Q) [.agg [.nils,.nils],.int .i64 e] h:=by
 refine RetR.out0 (r:=.tup [.agg [.nils,.nils],.int .i64 e]) (.inr ⟨_,[(3,fxG []),(4,chG [])],?_,hq⟩) (fun _=>by simp [resV,new2,new1,new0,zT]) (by simp [resV,exp2,exp1,exp0,ren0,eqA2,eqL1])
 simp [upA2,upA1,upA0,upL1,upL0]
theorem Uo:zf Try.prog 27 UJ:=by
 refine vU (fn:=Try.f27) (c:=Try.f27.body.getD .skip) rfl rfl rfl fun p hp O w0 Q hq=> ?_
 obtain⟨⟨f,c⟩,⟨a,d,v⟩⟩:=p
 obtain⟨he,hs1,hs2⟩:=hp
 replace hq:=hq _ rfl
 simp only at hq he hs1 hs2
 refine zc.run hmix KO [] 400 (T:=.ex (fun(x:List Fx×List Ch)=>eqL [AV.agg [AV.sl f.length 3 (fxG f),AV.sl c.length 4 (chG c)]] [AV.agg [AV.sl x.1.length 3 (fxG x.1),AV.sl x.2.length 4 (chG x.2)]]∧envP x) fun n=>.all (fun(r:Int)=>r=errE n.1 n.2) fun n=>.ite (!decide (n=0)) (.leaf (.ret [.agg [.nils,.nils],.int .i64 n] [.box [.sl f.length 3 (fxG f),.sl c.length 4 (chG c)],.box [.str a,.int .i64 d,.str v],.box [.nils,.nils]])) (.ex (fun(x:List UInt8)=>eqL [AV.str a] [AV.str x]∧x.length<4611686018427387904) fun n=>.all (fun(r:Bool)=>r=zN n) fun n=>.ex (fun(x:Int)=>(!n)=false→eqL [AV.int .i64 d] [AV.int .i64 x]∧True) fun n_1=>.all (fun(x:Bool)=>(!n)=false→x=dayB n_1) fun n_2=>.ite (bif !n then true else !n_2) (.leaf (.ret [.agg [.nils,.nils],.int .i64 2] [.box [.sl f.length 3 (fxG f),.sl c.length 4 (chG c)],.box [.str a,.int .i64 d,.str v],.box [.nils,.nils]])) (.ex (fun(x:List UInt8)=>eqL [AV.str v] [AV.str x]∧x.length<4611686018427387904) fun n=>.all (fun(r:Int)=>r=errR n) fun n=>.ite (!decide (n=0)) (.leaf (.ret [.agg [.nils,.nils],.int .i64 n] [.box [.sl f.length 3 (fxG f),.sl c.length 4 (chG c)],.box [.str a,.int .i64 d,.str v],.box [.nils,.nils]])) (.ex (fun(x:List Fx×Fx)=>eqL [AV.sl f.length 3 (fxG f),AV.agg [AV.str a,AV.int .i64 d,AV.str v],AV.fn 42 [] []] [AV.sl x.1.length 3 (fxG x.1),AV.agg [AV.str x.2.name,AV.int .i64 x.2.date,AV.str x.2.value],AV.fn 42 [] []]∧x.1.length≤1000∧ordB cmpF Fx.nil x.1=true) fun n=>.all (fun(r:List Fx×Bool)=>r=(z8 cmpF n.2 n.1,decide (List.length (z8 cmpF n.2 n.1)≤1000))) fun n=>.ite (!Prod.snd n) (.leaf (.ret [.agg [.nils,.nils],.int .i64 22] [.box [.sl f.length 3 (fxG f),.sl c.length 4 (chG c)],.box [.str a,.int .i64 d,.str v],.box [.nils,.nils],.arr n.1.length 3 (fxG n.1)])) (.ex (fun(x:List Ch)=>eqL [AV.sl c.length 4 (chG c)] [AV.sl x.length 4 (chG x)]∧x.length<1099511627776) fun n_3=>.all (fun(x:Unit)=>True) fun n_4=>.leaf (.ret [.agg [.osl 3 3 0 n.1.length,.osl 4 4 0 n_3.length],.int .i64 0] [.box [.sl f.length 3 (fxG f),.sl c.length 4 (chG c)],.box [.str a,.int .i64 d,.str v],.box [.osl 3 3 0 n.1.length,.osl 4 4 0 n_3.length],.arr n.1.length 3 (fxG n.1),.arr n_3.length 4 (chG n_3)])))))) (by kernel_rfl) ?_
 simp only [Tree.holds,zd]
 have bad:∀ (e:Int) (h:Heap),putF f c ⟨a,d,v⟩=(([],[]),e)→RetR UJ 0 (upQ Q) [.agg [.nils,.nils],.int .i64 e] h:=fun e h hr=>by
  rw [hr] at hq
  exact Vl e h hq
 refine⟨(f,c),⟨by simp [za],he⟩,⟨_,rfl⟩,?_⟩
 rintro _ rfl
 refine⟨fun h=> ?_,fun h=> ?_⟩
 ·have h:errE f c≠0:=by simpa using h
  exact bad _ _ (by simp [putF,h])
 ·have h:errE f c=0:=by simpa using h
  refine⟨a,⟨by simp,by omega⟩,⟨_,rfl⟩,?_⟩
  rintro _ rfl
  refine⟨d,fun _=>⟨by simp,trivial⟩,⟨_,fun _=>rfl⟩,?_⟩
  intro b1 g1
  have key:(bif !zN a then true else !b1) = !(zN a&&dayB d):=by
   cases hn:zN a with
   | false=>rfl
   | true=>rw [g1 (by rw [hn]; rfl)]; rfl
  rw [key]
  refine⟨fun h2=> ?_,fun h2=> ?_⟩
  ·exact bad _ _ (by simp only [putF]; rw [if_neg (by simp [h]),if_pos (by simpa only [Bool.not_eq_true'] using h2)])
  ·have h2:¬ (zN a&&dayB d)=false:=by simpa using h2
   refine⟨v,⟨by simp,by omega⟩,⟨_,rfl⟩,?_⟩
   rintro _ rfl
   refine⟨fun h3=> ?_,fun h3=> ?_⟩
   ·have h3:errR v≠0:=by simpa using h3
    exact bad _ _ (by simp only [putF]; rw [if_neg (by simp [h]),if_neg h2,if_pos h3])
   ·have h3:¬ errR v≠0:=by simpa using h3
    obtain⟨hb,_,_,ho,_⟩:=WD.1 h
    refine⟨(f,⟨a,d,v⟩),⟨by simp [za],by show f.length≤1000; omega,ho⟩,⟨_,rfl⟩,?_⟩
    rintro _ rfl
    refine⟨fun h4=> ?_,fun h4=> ?_⟩
    ·have h4:1000<(z8 cmpF ⟨a,d,v⟩ f).length:=by simpa using h4
     exact bad _ _ (by simp only [putF]; rw [if_neg (by simp [h]),if_neg h2,if_neg h3,if_pos h4])
    ·have h4:¬ 1000<(z8 cmpF ⟨a,d,v⟩ f).length:=by simpa using h4
     have hr:putF f c ⟨a,d,v⟩=((z8 cmpF ⟨a,d,v⟩ f,c),0):=by simp only [putF]; rw [if_neg (by simp [h]),if_neg h2,if_neg h3,if_neg h4]
     rw [hr] at hq
     refine⟨c,⟨by simp [za],by omega⟩,⟨(),trivial⟩,fun _ _=> ?_⟩
     refine RetR.outs [3,4] rfl rfl (.inl hq) (fun _=>⟨?_,?_⟩) ?_ ?_ rfl
     ·simp [resV,new2,new1,new0,zo,zT]
     ·simp only [List.mem_cons,List.not_mem_nil,or_false,forall_eq_or_imp,forall_eq]
      exact⟨y8 (za _ _ _),y5 (za _ _ _)⟩
     ·simp [resV,exp2,exp1,exp0,zo,ren0,eqA2,eqL1]
     ·exact⟨⟨rfl,rfl,za _ _ _⟩,⟨rfl,rfl,za _ _ _⟩,trivial⟩
theorem YG:zf Try.prog 28 UI:=by
 refine vU (fn:=Try.f28) (c:=Try.f28.body.getD .skip) rfl rfl rfl fun p hp O w0 Q hq=> ?_
 obtain⟨⟨f,c⟩,⟨a,v,d,b⟩⟩:=p
 obtain⟨he,hs1,hs2⟩:=hp
 replace hq:=hq _ rfl
 simp only at hq he hs1 hs2
 refine zc.run hmix KO [] 400 (T:=.ex (fun(x:List Fx×List Ch)=>eqL [AV.agg [AV.sl f.length 3 (fxG f),AV.sl c.length 4 (chG c)]] [AV.agg [AV.sl x.1.length 3 (fxG x.1),AV.sl x.2.length 4 (chG x.2)]]∧envP x) fun n=>.all (fun(r:Int)=>r=errE n.1 n.2) fun n=>.ite (!decide (n=0)) (.leaf (.ret [.agg [.nils,.nils],.int .i64 n] [.box [.sl f.length 3 (fxG f),.sl c.length 4 (chG c)],.box [.str a,.str v,.int .i64 d,.bool b],.box [.nils,.nils]])) (.ex (fun(x:List UInt8)=>eqL [AV.str a] [AV.str x]∧x.length<4611686018427387904) fun n=>.all (fun(r:Bool)=>r=zN n) fun n=>.ex (fun(x:List UInt8)=>(!n)=false→eqL [AV.str v] [AV.str x]∧x.length<4611686018427387904) fun n_1=>.all (fun(x:Bool)=>(!n)=false→x=zN n_1) fun n_2=>.ex (fun(x:Int)=>(bif !n then true else !n_2)=false→eqL [AV.int .i64 d] [AV.int .i64 x]∧True) fun n_3=>.all (fun(x:Bool)=>(bif !n then true else !n_2)=false→x=dayB n_3) fun n_4=>.ite (bif bif !n then true else !n_2 then true else !n_4) (.leaf (.ret [.agg [.nils,.nils],.int .i64 2] [.box [.sl f.length 3 (fxG f),.sl c.length 4 (chG c)],.box [.str a,.str v,.int .i64 d,.bool b],.box [.nils,.nils]])) (.ex (fun(x:List Ch×Ch)=>eqL [AV.sl c.length 4 (chG c),AV.agg [AV.str a,AV.str v,AV.int .i64 d,AV.bool b],AV.fn 20 [] []] [AV.sl x.1.length 4 (chG x.1),AV.agg [AV.str x.2.zb,AV.str x.2.name,AV.int .i64 x.2.date,AV.bool x.2.first],AV.fn 20 [] []]∧x.1.length≤1000∧ordB cmpC Ch.nil x.1=true) fun n=>.all (fun(r:List Ch×Bool)=>r=(z8 cmpC n.2 n.1,decide (List.length (z8 cmpC n.2 n.1)≤1000))) fun n=>.ite (!Prod.snd n) (.leaf (.ret [.agg [.nils,.nils],.int .i64 22] [.box [.sl f.length 3 (fxG f),.sl c.length 4 (chG c)],.box [.str a,.str v,.int .i64 d,.bool b],.box [.nils,.nils],.arr n.1.length 4 (chG n.1)])) (.ex (fun(x:List Fx)=>eqL [AV.sl f.length 3 (fxG f)] [AV.sl x.length 3 (fxG x)]∧x.length<1099511627776) fun n_5=>.all (fun(x:Unit)=>True) fun n_6=>.leaf (.ret [.agg [.osl 4 3 0 n_5.length,.osl 3 4 0 n.1.length],.int .i64 0] [.box [.sl f.length 3 (fxG f),.sl c.length 4 (chG c)],.box [.str a,.str v,.int .i64 d,.bool b],.box [.osl 4 3 0 n_5.length,.osl 3 4 0 n.1.length],.arr n.1.length 4 (chG n.1),.arr n_5.length 3 (fxG n_5)]))))) (by kernel_rfl) ?_
 simp only [Tree.holds,zd]
 have bad:∀ (e:Int) (h:Heap),putC f c ⟨a,v,d,b⟩=(([],[]),e)→RetR UI 0 (upQ Q) [.agg [.nils,.nils],.int .i64 e] h:=fun e h hr=>by
  rw [hr] at hq
  exact Vl e h hq
 refine⟨(f,c),⟨by simp [za],he⟩,⟨_,rfl⟩,?_⟩
 rintro _ rfl
 refine⟨fun h=> ?_,fun h=> ?_⟩
 ·have h:errE f c≠0:=by simpa using h
  exact bad _ _ (by simp [putC,h])
 ·have h:errE f c=0:=by simpa using h
  refine⟨a,⟨by simp,by omega⟩,⟨_,rfl⟩,?_⟩
  rintro _ rfl
  refine⟨v,fun _=>⟨by simp,by omega⟩,⟨_,fun _=>rfl⟩,?_⟩
  intro b1 g1
  refine⟨d,fun _=>⟨by simp,trivial⟩,⟨_,fun _=>rfl⟩,?_⟩
  intro b2 g2
  have key:(bif bif !zN a then true else !b1 then true else !b2) = !okC ⟨a,v,d,b⟩:=by
   simp only [okC]
   cases hn:zN a with
   | false=>rfl
   | true=>
    have g1:=g1 (by rw [hn]; rfl)
    subst g1
    cases hv:zN v with
    | false=>rfl
    | true=>rw [g2 (by rw [hn,hv]; rfl)]; rfl
  rw [key]
  refine⟨fun h2=> ?_,fun h2=> ?_⟩
  ·exact bad _ _ (by simp only [putC]; rw [if_neg (by simp [h]),if_pos (by simpa only [Bool.not_eq_true'] using h2)])
  ·have h2:¬ okC ⟨a,v,d,b⟩=false:=by simpa using h2
   obtain⟨hb,_,_,_,ho⟩:=WD.1 h
   refine⟨(c,⟨a,v,d,b⟩),⟨by simp [za],by show c.length≤1000; omega,ho⟩,⟨_,rfl⟩,?_⟩
   rintro _ rfl
   refine⟨fun h4=> ?_,fun h4=> ?_⟩
   ·have h4:1000<(z8 cmpC ⟨a,v,d,b⟩ c).length:=by simpa using h4
    exact bad _ _ (by simp only [putC]; rw [if_neg (by simp [h]),if_neg h2,if_pos h4])
   ·have h4:¬ 1000<(z8 cmpC ⟨a,v,d,b⟩ c).length:=by simpa using h4
    have hr:putC f c ⟨a,v,d,b⟩=((f,z8 cmpC ⟨a,v,d,b⟩ c),0):=by simp only [putC]; rw [if_neg (by simp [h]),if_neg h2,if_neg h4]
    rw [hr] at hq
    refine⟨f,⟨by simp [za],by omega⟩,⟨(),trivial⟩,fun _ _=> ?_⟩
    refine RetR.outs [4,3] rfl rfl (.inl hq) (fun _=>⟨?_,?_⟩) ?_ ?_ rfl
    ·simp [resV,new2,new1,new0,zo,zT]
    ·simp only [List.mem_cons,List.not_mem_nil,or_false,forall_eq_or_imp,forall_eq]
     exact⟨y8 (za _ _ _),y5 (za _ _ _)⟩
    ·simp [resV,exp2,exp1,exp0,zo,ren0,eqA2,eqL1]
    ·exact⟨⟨rfl,rfl,za _ _ _⟩,⟨rfl,rfl,za _ _ _⟩,trivial⟩
end Go.Proofs.Try
end
section
namespace Go.Nov
structure OrdT{α:Type}(c:α→α→Int):Prop extends OrdK c where
 irr:∀ a,c a a=0
 tot:∀ a b,c a b<0∨c a b=0∨c b a<0
 sym:∀ a b,c a b=0→c b a=0
 eqt:∀ a b d,c a b=0→c b d=0→c a d=0
 eq2:∀ a b d,c a b=0→c b d<0→c a d<0
section
variable {α:Type} {c:α→α→Int} {z x y:α} (hk:OrdT c)
theorem xM{w:α} : ∀ {l:List α},w∈z8 c x l→w=x∨w∈l
 | [],h=>by simp [z8] at h; exact .inl h
 | o::l,h=>by
  unfold z8 at h
  split at h
  ·rcases List.mem_cons.1 h with rfl | h
   ·exact .inr (by simp)
   ·exact(xM h).imp id fun g=>by simp [g]
  ·split at h
   ·rcases List.mem_cons.1 h with rfl | h
    ·exact .inl rfl
    ·exact .inr (by simp [h])
   ·rcases List.mem_cons.1 h with rfl | h
    ·exact .inl rfl
    ·exact .inr h
include hk
end
theorem V3{f:List Fx}{c:List Ch}{x:Fx}(h:(putF f c x).2=0):errE f c=0∧okF x=true∧(z8 cmpF x f).length≤1000∧putF f c x=((z8 cmpF x f,c),0):=by
 unfold putF at h ⊢
 split at h
 ·rename_i g; exact absurd h g
 rename_i g1
 rw [if_neg g1]
 split at h
 ·cases h
 rename_i g2
 rw [if_neg g2]
 split at h
 ·rename_i g; exact absurd h g
 rename_i g3
 rw [if_neg g3]
 split at h
 ·cases h
 rename_i g4
 rw [if_neg g4]
 refine⟨Classical.not_not.1 g1,?_,by omega,rfl⟩
 unfold okF
 have:(zN x.name&&dayB x.date)=true:=by simpa using g2
 rw [this,Classical.not_not.1 g3]; rfl
theorem V0{f:List Fx}{c:List Ch}{x:Ch}(h:(putC f c x).2=0):errE f c=0∧okC x=true∧(z8 cmpC x c).length≤1000∧putC f c x=((f,z8 cmpC x c),0):=by
 unfold putC at h ⊢
 split at h
 ·rename_i g; exact absurd h g
 rename_i g1
 rw [if_neg g1]
 split at h
 ·cases h
 rename_i g2
 rw [if_neg g2]
 split at h
 ·cases h
 rename_i g4
 rw [if_neg g4]
 exact⟨Classical.not_not.1 g1,by simpa using g2,by omega,rfl⟩
end Go.Nov
end
section
namespace Go.Nov
end Go.Nov
end
section
namespace Go.Nov
open Go.Sx
def fixS(t:Int)(a y:Ev):Ev:=if y.target=t∧y.kind=3 then { a with value:=y.value } else if y.target=t∧y.kind=4 then { a with first:=y.first } else a
def zb6(l:List Ev)(x:Ev):Ev:=l.foldl (fixS x.id) x
def latF(l:List Ev)(i:Nat):Ev:=if(l.getD i Ev.nil).fact && !zb9 l ((i:Int)+1) then zb6 l (l.getD i Ev.nil) else Ev.nil
structure Inv(l:List Ev)(s:SS):Prop where
 evs:s.evs=l
 ok:s.ok
 lat:∀ i,i<l.length→s.lat.getD i Ev.nil=latF l i
 ids:∀ i,i<l.length→(l.getD i Ev.nil).id=(i:Int)+1
 val:∀ i,i<l.length→(l.getD i Ev.nil).valid=true
 side:∀ i,i<l.length→((s.lat.getD i Ev.nil).kind=1→(s.lat.getD i Ev.nil).first=false)∧((s.lat.getD i Ev.nil).kind=2→(s.lat.getD i Ev.nil).value=[])
end Go.Nov
end
