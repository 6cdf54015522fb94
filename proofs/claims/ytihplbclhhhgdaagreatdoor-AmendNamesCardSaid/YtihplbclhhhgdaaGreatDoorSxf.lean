/- Part 6 of the proof. -/
import Derived.KernelRfl
import Derived.Test.YtihplbclhhhgdaaGreatDoorSxe
import Derived.Control
import Derived.Test.YtihplbclhhhgdaaGreatDoorProg
set_option linter.unusedVariables false
set_option linter.unusedSimpArgs false
set_option linter.unusedSectionVars false
section
namespace Go.Sx
variable [Stat]
open Go.RowKit (Below)
def TRep(own:Nat->Prop)(w:World)(σ:List SE)(tmps:Array Value):AV->Value->Prop
 | .opt t want x,v=>(tmps.getD t undef = .bool want/\Rep own w x σ v)\/(tmps.getD t undef≠.bool want/\v=undef)
 | a,v=>Rep own w a σ v
def ka(pin:Nat)(w:World)(σ:List SE)(w':World)(Z':List SE):Prop:=
 ∀ (i:Nat) (e:SE),i<pin->σ[i]?=some e->Z'[i]?=some e/\∀ ad,e.ad=some ad->∀ cs el,w.heap[ad.block]?=some (.cells cs el (0,0)) ->
  ∃ cs' el',w'.heap[ad.block]?=some (.cells cs' el' (0,0))/\cs'.size=cs.size
structure Stp(O:Nat->Prop)(pin:Nat)(w:World)(σ:List SE)(w':World)(Z':List SE):Prop where
 ext:Ext (Own O σ) w (Own O Z') w'
 jT:∀ b,O b->b<w.heap.size->w'.heap[b]?=w.heap[b]?
 hold:ka pin w σ w' Z'
theorem Stp.refl(O:Nat->Prop)(pin:Nat)(w:World)(σ:List SE):Stp O pin w σ w σ:=⟨Ext.refl _ _,λ_ _ _=>rfl,λ_ _ _ h=>⟨h,λ_ _ cs el h=>⟨cs,el,h,rfl⟩⟩⟩
theorem Stp.trans{O:Nat->Prop}{pin:Nat}{w1 w2 w3:World}{E1 E2 E3:List SE}(h:Stp O pin w1 E1 w2 E2)(k:Stp O pin w2 E2 w3 E3):Stp O pin w1 E1 w3 E3:=
 ⟨h.ext.trans k.ext,λb hb hlt=>(k.jT b hb (bB hlt h.ext.size)).trans (h.jT b hb hlt),λi e hi he=>by
  obtain⟨h1,h2⟩:=h.hold i e hi he;obtain⟨h3,h4⟩:=k.hold i e hi h1;refine⟨h3,λad had cs el hcs=> ?_⟩;obtain⟨cs2,el2,h5,h6⟩:=h2 ad had cs el hcs;obtain⟨cs3,el3,h7,h8⟩:=h4 ad had cs2 el2 h5;exact⟨cs3,el3,h7,h8.trans h6⟩⟩
theorem ka.of{K:List Nat}{pin:Nat}{w w':World}{σ Z':List SE}(h:Hold K w σ w' Z')(hk:∀ i∈K,pin<=i):ka pin w σ w' Z':=
 λi e hi he=>h i e he λhm=>by have:=hk i hm; omega
def Marks(w0:World)(own:Nat->Prop)(w:World)(ds:List Deferred):Prop:=
 ds.Nodup/\∀ d∈ds,∃ D,d={ target:=.collected D,args:= #[] } /\ w0.heap.size<=D/\¬ own D/\w.heap[D]?=some (.deferred (some []))
theorem Marks.nil(w0:World)(own:Nat->Prop)(w:World):Marks w0 own w []:=⟨List.nodup_nil,λd hd=>by cases hd⟩
theorem Marks.ext{w0 w w':World}{own own':Nat->Prop}{ds:List Deferred}(h:Marks w0 own w ds)(hx:Ext own w own' w'):Marks w0 own' w' ds:=
 ⟨h.1,λd hd=>by
  obtain⟨D,h1,h2,h3,h4⟩:=h.2 d hd;have hlt:=(aQ.1 h4).1;exact⟨D,h1,h2,hx.ZL hlt h3,by rw [hx.keep D hlt h3]; exact h4⟩⟩
structure Mod(O:Nat->Prop)(pin:Nat)(w0:World)(I0:List SE)(w:World)(σ:List SE)(st:St)(a:Act):Prop where
 good:Good O w σ
 hp:HRep (Own O σ) w σ st.heap
 size:a.tmps.size=st.tmps.length
 tm:∀ t,TRep (Own O σ) w σ a.tmps (st.tmps.getD t .undef) (a.tmps.getD t undef)
 df:Marks w0 (Own O σ) w a.defers
 since:Stp O pin w0 I0 w σ
 lim:kr (Own O I0) w0
section
variable {O:Nat->Prop} {pin:Nat} {w0:World} {I0:List SE} {w:World} {σ:List SE} {P:Program} {st:St} {a:Act}
structure Dead(I0:List SE)(w0 w':World)(ds:List Deferred):Prop where
 died:Died I0 w0 w'
 df:Marks w0 (λ_=>False) w' ds
theorem Mod.dead{w':World}(hm:Mod O pin w0 I0 w σ st a)(h:Died σ w w'):Dead I0 w0 w' a.defers:=by
 refine⟨⟨h.os.trans hm.since.ext.os,h.tape.trans hm.since.ext.tape,h.output.trans hm.since.ext.output,bP hm.since.ext.size h.size,λb hb hn=> ?_,λb hb=>hb.elim⟩,hm.df.ext ⟨h.os,h.tape,h.output,h.size,λb hb hn=>h.keep b hb λhx=>hn (.inr hx),λb hb=>hb.elim⟩⟩
 have h1:¬ Mine σ b:=λhx=>by
  obtain⟨i,e,ad,g1,g2,g3⟩:=zu.1 hx;rcases hm.since.ext.grow b (.inr hx) with hy | hy
  ·rcases hy with hy | hy
   ·exact hm.good.dis i e ad g1 g2 (g3▸hy)
   ·exact hn hy
  ·omega
 rw [h.keep b (bB hb hm.since.ext.size) h1];by_cases hO:O b
 ·exact hm.since.jT b hO hb
 ·exact hm.since.ext.keep b hb λhx=>by rcases hx with hx | hx; exact hO hx; exact hn hx
theorem TRep.rep{own:Nat->Prop}{tmps:Array Value}{x:AV}{v:Value}(h:TRep own w σ tmps x v):Rep own w (see [] x) σ v:=by
 cases x<;>simp only [TRep,see] at h ⊢ <;> first | exact h | simp [Rep]
theorem zfd{own:Nat->Prop}{tmps:Array Value}{K:List (Nat×Bool)}(hK:∀ p∈K,tmps.getD p.1 undef = .bool p.2){x:AV}{v:Value}(h:TRep own w σ tmps x v):Rep own w (see K x) σ v:=by
 cases x with
 | opt t want x=>
  simp only [TRep,see] at h ⊢;split
  ·rename_i hc;have:=hK (t,want) (by simpa using hc);rcases h with h | h
   ·exact h.2
   ·exact absurd this h.1
  ·simp [Rep]
 | _=>simpa only [TRep,see] using h
theorem xp(hm:Mod O pin w0 I0 w σ st a){K:List (Nat×Bool)}(hK:∀ p∈K,a.tmps.getD p.1 undef = .bool p.2)(x:Operand):Rep (Own O σ) w (zV st K x) σ (a.eval x):=by
 cases x with
 | tmp t=>exact zfd hK (hm.tm t)
 | const v=>exact kE v
 | global g=>
  simp only [zV,Act.eval];cases hz:Stat.z g with
  | none=>simp [Rep]
  | some a=>
   obtain⟨h1,c,h2,h3,_⟩:=hm.good.stat.at_ g a hz;simp only [Rep]
   exact⟨⟨g,0,none⟩,rfl,rfl,λo ho=>⟨h1,c,(by
    have:o=0:=by omega
    subst this; exact h2),h3⟩⟩
 | func f=>simp only [zV,Act.eval,Rep]; exact⟨[],[],rfl,by simp [RepL],by simp [RepL]⟩
theorem Vh{own own':Nat->Prop}{w':World}{Z':List SE}{K:List Nat}{tmps tmps':Array Value}(hx:Ext own w own' w')(hh:Hold K w σ w' Z'){x:AV}{v:Value}(h:TRep own w σ tmps x v)
  (ht:∀ t want y,x = .opt t want y->tmps'.getD t undef=tmps.getD t undef):TRep own' w' Z' tmps' (zL K x) v:=by
 cases K with
 | nil=>
  simp only [zL];cases x with
  | opt t want y=>
   simp only [TRep] at h ⊢;rw [ht t want y rfl];rcases h with ⟨h1,h2⟩ | h
   ·exact .inl ⟨h1,zK hx hh y v (qm y) h2⟩
   ·exact .inr h
  | _=>simp only [TRep] at h ⊢; exact zK hx hh _ v (qm _) h
 | cons i k=>
  have hr:Rep own' w' (zL (i::k) x) Z' v:=by
   have hx':Rep own w (zL (i::k) x) σ v:=by
    cases x with
    | opt t want y=>
     have:Rep own w (.opt t want y) σ v:=by simp [Rep]
     exact w8 this
    | _=>exact w8 (by simpa only [TRep] using h)
   exact zK hx hh _ v (xv _ _) hx'
  cases hz:zL (i::k) x with
  | opt t want y=>
   have hx1:=xC hz;have hf:=X9 hz;subst hx1;simp only [TRep] at h ⊢;rw [ht t want y rfl];rcases h with ⟨h1,h2⟩ | h
   ·exact .inl ⟨h1,zK hx hh y v (zg4 hf) h2⟩
   ·exact .inr h
  | _=>rw [hz] at hr; simpa only [TRep] using hr
theorem getD_map{f:AV->AV}(hf:f .undef = .undef)(l:List AV)(t:Nat):(l.map f).getD t .undef=f (l.getD t .undef):=by
 simp only [List.getD,aN];cases l[t]?<;>simp [hf]
theorem wv:∀ K:List Nat,zL K .undef = .undef
 | []=>rfl
 | i::k=>by simp only [zL,qh,j9]; exact wv k
theorem zkf{own:Nat->Prop}{d:Nat}{tmps tmps':Array Value}{x:AV}{v:Value}(h:TRep own w σ tmps x v)(ht:∀ t,t≠d->tmps'.getD t undef=tmps.getD t undef):TRep own w σ tmps' (qu d x) v:=by
 cases x with
 | opt t want y=>
  simp only [qu];split
  ·simp [TRep,Rep]
  ·rename_i hne;simp only [TRep] at h ⊢;rw [ht t hne]; exact h
 | _=>simpa only [qu,TRep] using h
theorem kR(hm:Mod O pin w0 I0 w σ st a){r:Res}{v:Value}{w':World}{Z':List SE}(hp:Post O w σ st.heap r v w' Z')(hpin:∀ i∈r.kill,pin<=i)(dst:Option Nat){x:AV}
  (hx:∀ d,dst=some d->TRep (Own O Z') w' Z' (a.put dst v).tmps x v):Mod O pin w0 I0 w' Z' (putX st dst ⟨x,r.eff,r.kill⟩) (a.put dst v):=by
 have htk:∀ t,TRep (Own O Z') w' Z' a.tmps ((kp r.kill st.tmps).getD t .undef) (a.tmps.getD t undef):=λt=>by
  rw [wy,getD_map (wv _)];exact Vh hp.ext hp.hold (hm.tm t) (λ_ _ _ _=>rfl)
 cases dst with
 | none=>
  exact⟨hp.good,hp.hp,by simp [putX,Act.put,wy,hm.size],htk,hm.df.ext hp.ext,hm.since.trans ⟨hp.ext,hp.jT,ka.of hp.hold hpin⟩,hm.lim⟩
 | some d=>
  have hsz:(a.put (some d) v).tmps.size=a.tmps.size:=by simp [Act.put]
  refine⟨hp.good,hp.hp,by simp [putX,wy,hm.size,hsz],λt=> ?_,by simpa [Act.put] using hm.df.ext hp.ext,hm.since.trans ⟨hp.ext,hp.jT,ka.of hp.hold hpin⟩,hm.lim⟩;have hl:((kp r.kill st.tmps).map (qu d)).length=a.tmps.size:=by simp [wy,hm.size]
  simp only [putX];by_cases htd:t=d
  ·subst htd;by_cases hlt:t<a.tmps.size
   ·have e1:(((kp r.kill st.tmps).map (qu t)).set t x).getD t .undef=x:=by
     simp only [List.getD];rw [List.getElem?_set_self (by rw [hl]; exact hlt)]; rfl
    have e2:(a.put (some t) v).tmps.getD t undef=v:=by simp [Act.put,hlt]
    rw [e1,e2];exact hx t rfl
   ·have e1:(((kp r.kill st.tmps).map (qu t)).set t x).getD t .undef = .undef:=by
     simp only [List.getD];rw [aZ (by simp [wy]; rw [<- hm.size]; omega)]; rfl
    rw [e1];simp [TRep,Rep]
  ·have e1:(((kp r.kill st.tmps).map (qu d)).set d x).getD t .undef=qu d ((kp r.kill st.tmps).getD t .undef):=by
    rw [<- getD_map (f:=qu d) rfl];simp only [List.getD];rw [bS (λh=>htd h.symm)]
   have hother:∀ u,u≠d->(a.put (some d) v).tmps.getD u undef=a.tmps.getD u undef:=λu hu=>by
    simp only [Act.put,bQ];rw [Array.getElem?_setIfInBounds_ne (λh=>hu h.symm)]
   rw [e1,hother t htd];exact zkf (htk t) hother
theorem wQ{q:Prop}{u:Nat}{want:Bool}{Q:Res->Prop}(hq:q):∀ {t:Tree Res},(kM q u want t).holds Q->t.holds λr=>∃ v,r=⟨v,[],[]⟩/\Q ⟨.opt u want v,[],[]⟩
 | .leaf ⟨v,[],[]⟩,h=>⟨v,rfl,h⟩
 | .leaf ⟨_,_::_,_⟩,h=>h.elim
 | .leaf ⟨_,[],_::_⟩,h=>h.elim
 | .ite _ _ _,h=>⟨λhb=>wQ hq (h.1 hb),λhb=>wQ hq (h.2 hb)⟩
 | .side _ _,h=>⟨h.1 hq,λ_=>wQ hq (h.2 h.1)⟩
 | .ex _ _,h=>by obtain⟨x,h1,h2⟩:=h; exact⟨x,h1 hq,wQ hq h2⟩
 | .all _ _,h=>by
  obtain⟨⟨x,h1⟩,h2⟩:=h;exact⟨⟨x,h1 hq⟩,λy hy=>wQ hq (h2 y λ_=>hy)⟩
 | .fail,h=>h.elim
theorem vV{q:Prop}{u:Nat}{want:Bool}{Q:Res->Prop} : ∀ {t:Tree Res},(kM q u want t).holds Q->∃ v,Q ⟨.opt u want v,[],[]⟩
 | .leaf ⟨v,[],[]⟩,h=>⟨v,h⟩
 | .leaf ⟨_,_::_,_⟩,h=>h.elim
 | .leaf ⟨_,[],_::_⟩,h=>h.elim
 | .ite true _ _,h=>vV (h.1 rfl)
 | .ite false _ _,h=>vV (h.2 rfl)
 | .side _ _,h=>vV (h.2 h.1)
 | .ex _ _,h=>by obtain⟨x,_,h2⟩:=h; exact vV h2
 | .all _ _,h=>by obtain⟨⟨x,h1⟩,h2⟩:=h; exact vV (h2 x h1)
 | .fail,h=>h.elim
theorem wj{q:Prop}{u:Nat}{want:Bool}{Q Q':Res->Prop}(hQ:∀ v,Q ⟨.opt u want v,[],[]⟩->Q' ⟨.opt u want v,[],[]⟩):∀ {t:Tree Res},(kM q u want t).holds Q->(kM q u want t).holds Q'
 | .leaf ⟨v,[],[]⟩,h=>hQ v h
 | .leaf ⟨_,_::_,_⟩,h=>h.elim
 | .leaf ⟨_,[],_::_⟩,h=>h.elim
 | .ite _ _ _,h=>⟨λhb=>wj hQ (h.1 hb),λhb=>wj hQ (h.2 hb)⟩
 | .side _ _,h=>⟨h.1,λhp=>wj hQ (h.2 hp)⟩
 | .ex _ _,h=>by obtain⟨x,h1,h2⟩:=h; exact⟨x,h1,wj hQ h2⟩
 | .all _ _,h=>⟨h.1,λx hx=>wj hQ (h.2 x hx)⟩
 | .fail,h=>h.elim
theorem xn(hm:Mod O pin w0 I0 w σ st a):∀ (n t:Nat) (want:Bool),a.tmps.getD t undef = .bool want->∀ p∈jl st.tmps n t want,a.tmps.getD p.1 undef = .bool p.2
 | 0,t,want,h,p,hp=>by simp [jl] at hp; subst hp; exact h
 | n+1,t,want,h,p,hp=>by
  simp only [jl,aM] at hp;rcases hp with rfl | hp
  ·exact h
  ·have ht:=hm.tm t;generalize st.tmps.getD t .undef=x at ht hp;cases x<;>simp only at hp<;>try (cases hp; done)
   rename_i u w' y;simp only [TRep] at ht;rcases ht with ⟨h1,_⟩ | ⟨_,h2⟩
   ·exact xn hm n u w' h1 p hp
   ·rw [h2] at h; cases h
theorem xE(hm:Mod O pin w0 I0 w σ st a):∀ (n t:Nat) (want:Bool) (q:Prop),we st.tmps n t want=some q->a.tmps.getD t undef = .bool want->q
 | 0,t,want,q,hq,h=>by simp [we] at hq
 | n+1,t,want,q,hq,h=>by
  simp only [we] at hq;have ht:=hm.tm t;generalize st.tmps.getD t .undef=x at ht hq;split at hq
  ·rename_i b;simp only [TRep,Rep] at ht;rw [ht] at h;cases hq;cases h; rfl
  ·rename_i u w' b;split at hq
   ·rename_i p hp;cases hq;simp only [TRep,Rep] at ht;rcases ht with ⟨h1,h2⟩ | ⟨_,h2⟩
    ·rw [h2] at h;cases h;exact⟨xE hm n u w' p hp h1,rfl⟩
    ·rw [h2] at h; cases h
   ·cases hq
  ·cases hq
theorem uH(hm:Mod O pin w0 I0 w σ st a):∀ (n t:Nat) (want:Bool) (g:Bool),xT st.tmps n t want=some g->(a.tmps.getD t undef = .bool want↔g=true)
 | 0,t,want,g,hq=>by simp [xT] at hq
 | n+1,t,want,g,hq=>by
  simp only [xT] at hq;have ht:=hm.tm t;generalize st.tmps.getD t .undef=x at ht hq;split at hq
  ·rename_i b;simp only [TRep,Rep] at ht;rw [ht];cases hq;cases b<;>cases want<;>simp
  ·rename_i u w' b;split at hq
   ·rename_i g' hg';cases hq;have ih:=uH hm n u w' g' hg';simp only [TRep,Rep] at ht;rcases ht with ⟨h1,h2⟩ | ⟨h1,h2⟩
    ·rw [h2,ih.1 h1];cases b<;>cases want<;>simp
    ·rw [h2]
     have:g'=false:=by
      cases g' with
      | false=>rfl
      | true=>exact absurd (ih.2 rfl) h1
     rw [this];simp [undef]
   ·cases hq
  ·cases hq
theorem UX(hm:Mod O pin w0 I0 w σ st a){K:List (Nat×Bool)}(hK:∀ p∈K,a.tmps.getD p.1 undef = .bool p.2){o:Oper}{t:Nat}{x y:Operand}(ho:o.op = .pick (.tmp t) x y){Q:AV->Prop}
  (hq:(zj2 (λb=>match b with | true=>zV st ((t,true)::K) x | false=>zV st ((t,false)::K) y) (zV st K (.tmp t))).holds Q) :
  ∃ r v,(execOp a.eval o).run P w = .ok (.value v) w/\Q r/\Rep (Own O σ) w r σ v:=by
 have hc:=xp hm hK (.tmp t);generalize zV st K (.tmp t)=c at hc hq;cases c with
 | bool cb=>
  simp only [Rep] at hc;have hct:a.tmps.getD t undef = .bool cb:=hc;simp only [zj2] at hq;split at hq
  ·rename_i p q h1 h2;refine⟨_,.bool (bif cb then p else q),?_,hq,by simp [Rep]⟩;simp only [execOp,ho,hc,asBool,Sem.run_bind,Sem.run_pure,Result.andThen_ok];cases cb with
   | true=>
    have:=xp hm (K:=(t,true)::K) (λz hz=>by rcases aM.1 hz with rfl | hz; exact hct; exact hK z hz) x;rw [h1] at this;simp only [Rep] at this;simp [this]
   | false=>
    have:=xp hm (K:=(t,false)::K) (λz hz=>by rcases aM.1 hz with rfl | hz; exact hct; exact hK z hz) y;rw [h2] at this;simp only [Rep] at this;simp [this]
  ·exact hq.elim
 | _=>exact hq.elim
end
end Go.Sx
end
section
namespace Go.Sx
variable [Stat]
open Go.RowKit (Below)
section
variable {O:Nat->Prop} {pin:Nat} {w0:World} {I0:List SE} {w:World} {σ:List SE} {P:Program} {st:St} {a:Act} {Γ:Nat->Option Ctr} {Xp:List PanicEntry->Prop}
theorem Q0{ops:Array Oper}{tmps:Array Value}{j t:Nat}{want:Bool}(h:(ops[j]?).bind (·.dst)=some t):(yielded ops tmps j == some want)=true↔tmps.getD t undef = .bool want:=by
 unfold yielded;rw [h];simp only [Option.bind_some,bQ];cases ht:tmps[t]? with
 | none=>simp [undef]
 | some v=>cases v<;>simp
theorem Kd{α:Type}{r:Res}{t:Tree α}{Q:α->Prop}(h:(pinX pin r t).holds Q):(∀ i∈r.kill,pin<=i)/\t.holds Q:=by
 unfold pinX at h;split at h
 ·rename_i hk; rw [hk]; exact⟨by simp,h⟩
 ·split at h
  ·rename_i hall; exact⟨λi hi=>by simpa using bG.1 hall i hi,h⟩
  ·exact h.elim
theorem ZF(hΓ:∀ g c,Γ g=some c->zy Xp P g c)(hm:Mod O pin w0 I0 w σ st a){K:List (Nat×Bool)}(hK:∀ p∈K,a.tmps.getD p.1 undef = .bool p.2){o:Oper}{Q:Res->Prop}(hq:(opV P Γ st K o.op).holds Q)
  {Kc:Act->World->Prop} {Qe:Exit->Act->World->Prop} (hKc:∀ r v w' Z',Q r->Post O w σ st.heap r v w' Z'->Kc (a.put o.dst v) w') (hP:∀ ch a w',Xp ch->Dead I0 w0 w' a.defers->Qe (.panic ch) a w'):o.wp P a w Kc Qe:=by
 unfold opV at hq;split at hq
 ·rename_i c x y hop;rw [Tree.zn] at hq;unfold zlz at hq;split at hq
  ·rename_i t;obtain⟨r,v,h1,h2,h3⟩:=UX (P:=P) hm hK hop hq;unfold Oper.wp;rw [h1];exact hKc ⟨r,[],[]⟩ v w σ h2 (Post.still hm.good hm.hp h3)
  ·exact hq.elim
 ·exact zk1 hΓ hm.good hm.hp (xp hm hK) hq hKc λch w' h1 h2=>hP ch a w' h1 (hm.dead h2)
theorem K0(hΓ:∀ g c,Γ g=some c->zy Xp P g c)(hm:Mod O pin w0 I0 w σ st a){ops:Array Oper}{o:Oper}{Q:Res->Prop}(hq:(jz P Γ ops st o).holds Q){K:Act->World->Prop}{Qe:Exit->Act->World->Prop}
  (hK:∀ r w' Z' v,Q r->((∀ i∈r.kill,pin<=i)->Mod O pin w0 I0 w' Z' (putX st o.dst r) (a.put o.dst v))->K (a.put o.dst v) w') (hP:∀ ch a w',Xp ch->Dead I0 w0 w' a.defers->Qe (.panic ch) a w') :
  if Region.wanted o (yielded ops a.tmps) then o.wp P a w K Qe else K (a.put o.dst undef) w:=by
 unfold jz at hq;split at hq
 ·rename_i hgd;rw [aP (by simp [Region.wanted,hgd])];rw [Tree.zn] at hq;refine ZF hΓ hm (by simp) hq (λr v w' Z' hQ hP=>hK _ w' Z' v hQ λhpin=>kR hm hP hpin o.dst (λd hd=> ?_)) hP;have:=hP.rep;cases hr:r.val with
  | opt t want y=>simp [see,TRep,Rep]
  | _=>rw [hr] at this; simpa only [TRep,see] using this
 ·rename_i j want hgd;split at hq
  ·exact hq.elim
  ·rename_i t ht;split at hq
   ·unfold KT at hq;split at hq
    ·rename_i g d hgb hdst;split at hq
     ·rename_i hdt
      have hw:Region.wanted o (yielded ops a.tmps)=true↔a.tmps.getD t undef = .bool want:=by
       simp only [Region.wanted,hgd];exact Q0 ht
      have hput:∀ u,(a.put (some d) u).tmps.getD t undef=a.tmps.getD t undef:=λu=>by
       simp only [Act.put,bQ];rw [Array.getElem?_setIfInBounds_ne hdt]
      have hg:=uH hm 4 t want g hgb;by_cases hb:a.tmps.getD t undef = .bool want
      ·rw [aP (hw.2 hb)];have hKs:=xn hm 4 t want hb;have h1:=hq.1 (hg.1 hb);rw [Tree.zn] at h1;refine ZF hΓ hm hKs h1 (λr v w' Z' hQ hP=>hK _ w' Z' v hQ λhpin=>kR hm hP hpin o.dst (λd hd=> ?_)) hP;have:=hP.rep;cases hr:r.val with
       | opt t want y=>simp [see,TRep,Rep]
       | _=>rw [hr] at this; simpa only [TRep,see] using this
      ·rw [aO (λh=>hb (hw.1 h))]
       have hgf:g=false:=by
        cases g with
        | false=>rfl
        | true=>exact absurd (hg.2 rfl) hb
       have hQ:=hq.2 hgf;refine hK _ w σ _ hQ (λhpin=> ?_);rw [hdst];refine kR hm (r:=⟨.undef,[],[]⟩) (v:=undef) (Post.still hm.good hm.hp (by simp [Rep])) (by simp) (some d) (x:=.opt t want (zlp P o.type)) (λd' hd'=> ?_);cases hd';simp only [TRep];exact .inr ⟨by rw [hput]; exact hb,trivial⟩
     ·exact hq.elim
    ·exact hq.elim
   split at hq
   ·rename_i q d hgp hdst;split at hq
    ·rename_i hdt
     have hw:Region.wanted o (yielded ops a.tmps)=true↔a.tmps.getD t undef = .bool want:=by
      simp only [Region.wanted,hgd];exact Q0 ht
     have hput:∀ u,(a.put (some d) u).tmps.getD t undef=a.tmps.getD t undef:=λu=>by
      simp only [Act.put,bQ];rw [Array.getElem?_setIfInBounds_ne hdt]
     by_cases hb:a.tmps.getD t undef = .bool want
     ·rw [aP (hw.2 hb)];have hKs:=xn hm 4 t want hb;have htr:=wQ (xE hm 4 t want q hgp hb) hq;refine ZF hΓ hm hKs htr (λr u w' Z' hr hP=> ?_) hP;obtain⟨v,rfl,hQ⟩:=hr;refine hK _ w' Z' _ hQ (λhpin=> ?_);rw [hdst];refine kR hm hP (by simp) (some d) (x:=.opt t want v) (λd' hd'=> ?_);cases hd';simp only [TRep];exact .inl ⟨by rw [hput]; exact hb,hP.rep⟩
     ·rw [aO (λh=>hb (hw.1 h))];obtain⟨v,hQ⟩:=vV hq;refine hK _ w σ _ hQ (λhpin=> ?_);rw [hdst];refine kR hm (r:=⟨.undef,[],[]⟩) (v:=undef) (Post.still hm.good hm.hp (by simp [Rep])) (by simp) (some d) (x:=.opt t want v) (λd' hd'=> ?_);cases hd';simp only [TRep];exact .inr ⟨by rw [hput]; exact hb,trivial⟩
    ·exact hq.elim
   ·exact hq.elim
theorem YX{K:List (Nat×Bool)}{op:Op}{Q:Res->Prop}(hq:(opV P Γ st K op).holds Q):∀ c,op≠.defer c:=by
 unfold opV at hq;split at hq
 ·intro c h; cases h
 ·exact Y5 hq
theorem zer{K:List (Nat×Bool)}{c:Call} : opV P Γ st K (.defer c) = .fail:=rfl
theorem WV{ops:Array Oper}{o:Oper}{Q:Res->Prop}(hq:(jz P Γ ops st o).holds Q):∀ c,o.op≠.defer c:=by
 unfold jz at hq;split at hq
 ·rw [Tree.zn] at hq;exact YX hq
 ·split at hq
  ·exact hq.elim
  ·split at hq
   ·rename_i heff;intro c hc;rw [hc] at heff;cases heff
   ·split at hq
    ·split at hq
     ·intro c hc;rw [hc,zer] at hq;exact hq.elim
     ·exact hq.elim
    ·exact hq.elim
theorem yj{M:Option Nat}(hΓ:∀ g c,Γ g=some c->zy Xp P g c)(hm:Mod O pin w0 I0 w σ st a){ops:Array Oper}{o:Oper}{Q:Res->Prop}(hq:(jz P Γ ops st o).holds Q){K:Act->World->Prop}{Qe:Exit->Act->World->Prop}
  (hK:∀ r w' Z' v,Q r->((∀ i∈r.kill,pin<=i)->Mod O pin w0 I0 w' Z' (putX st o.dst r) (a.put o.dst v))->K (a.put o.dst v) w') (hP:∀ ch a w',Xp ch->Dead I0 w0 w' a.defers->Qe (.panic ch) a w') :
  if Region.wanted o (yielded ops a.tmps) then o.wpIn (FM M) 0 P a w K Qe else(∀ f,o.about P w a.eval=some f->(FM M).fn f)/\K (a.put o.dst undef) w:=by
 have h:=K0 hΓ hm hq hK (Qe:=Qe) hP;split
 ·rename_i hw; rw [aP hw] at h; exact jV (WV hq) h
 ·rename_i hw; rw [aO hw] at h; exact⟨λf _=>zha M f,h⟩
theorem yW(h:Q1 st=true)(hm:Mod O pin w0 I0 w σ st a):False:=by
 unfold Q1 at h;split at h
 ·rename_i l hl;have:=hm.tm 0;rw [hl] at this;simp [TRep,Rep] at this
 ·cases h
theorem WZ{dst:Option Nat}{r:Res}(h:botR st dst r=true)(hm:(∀ i∈r.kill,pin<=i)->Mod O pin w0 I0 w σ (putX st dst r) a):False:=by
 unfold botR at h;split at h
 ·rename_i hv;split at h
  ·rename_i d;split at h
   ·rename_i hk;have h2:=(hm (by simp [hk])).tm d
    have e:(putX st (some d) r).tmps.getD d .undef = .bot:=by
     simp only [putX,hk,kp,hv,List.getD];rw [List.getElem?_set_self (by simpa using aB h)]; rfl
    rw [e] at h2;simp [TRep,Rep] at h2
   ·cases h
  ·cases h
 ·cases h
theorem Ux{M:Option Nat}(hΓ:∀ g c,Γ g=some c->zy Xp P g c)(hm:Mod O pin w0 I0 w σ st a){ops:Array Oper}{o:Oper}{Q:St->Prop}(hq:(zk2 P Γ pin ops st o).holds Q){K:Act->World->Prop}{Qe:Exit->Act->World->Prop}
  (hK:∀ st' w' Z' a',Q st'->Mod O pin w0 I0 w' Z' st' a'->K a' w') (hP:∀ ch a w',Xp ch->Dead I0 w0 w' a.defers->Qe (.panic ch) a w') :
  if Region.wanted o (yielded ops a.tmps) then o.wpIn (FM M) 0 P a w K Qe else(∀ f,o.about P w a.eval=some f->(FM M).fn f)/\K (a.put o.dst undef) w:=by
 unfold zk2 at hq;rw [Tree.zn] at hq;refine yj hΓ hm hq (λr w' Z' v hQ hM=> ?_) hP;cases hb:botR st o.dst r with
 | true=>exact(WZ hb hM).elim
 | false=>
  rw [hb] at hQ;obtain⟨h1,h2⟩:=Kd hQ;exact hK _ w' Z' _ h2 (hM h1)
theorem WY{ρ ρ':Operand->AV}{parts:Array (Nat×Operand)}(h:∀ p∈parts,ρ p.2=ρ' p.2):(parts.toList.map λp=>(p.1,ρ p.2))=parts.toList.map λp=>(p.1,ρ' p.2):=
 List.map_congr_left λp hp=>by rw [h p (by simpa using hp)]
theorem kX{ρ ρ':Operand->AV}{l:Array Operand}(h:∀ x∈l,ρ x=ρ' x):l.toList.map ρ=l.toList.map ρ':=List.map_congr_left λx hx=>h x (by simpa using hx)
theorem ub{ρ ρ':Operand->AV}{h:Heap}{op:Op}(he:∀ x∈op.operands,ρ x=ρ' x):valX P ρ h op=valX P ρ' h op:=by
 cases op with
 | call c=>
  obtain⟨callee,args,ats⟩:=c;have ha:∀ x∈args,ρ x=ρ' x:=λx hx=>he x (by simp [Op.operands,Call.operands,hx])
  cases callee with
  | builtin b=>
   cases b<;>simp only [valX]
   case len=>
    obtain⟨args⟩:=args;obtain⟨ats⟩:=ats
    match ats,args with
    | [t],[x]=>simp only [ha x (by simp)]
    | [],_=>rfl
    | _::_::_,_=>rfl
    | [_],[]=>rfl
    | [_],_::_::_=>rfl
   case max=>rw [kX ha]
   case min=>rw [kX ha]
  | _=>rfl
 | build t ps=>
  simp only [valX];rw [WY λp hp=>he p.2 (by simp only [Op.operands,List.mem_toArray,List.mem_map]; exact⟨p,by simpa using hp,rfl⟩)]
 | makeFunc f first cap=>
  cases f<;>simp only [valX]
  rw [kX λx hx=>he x (by simp [Op.operands,hx]),kX λx hx=>he x (by simp [Op.operands,hx])]
 | slice t x l hi m=>
  have hx:=he x (by simp [Op.operands]);cases m with
  | some m=>
   cases hi with
   | none=>simp only [valX]
   | some h'=>
    simp only [valX];rw [hx,he h' (by simp [Op.operands]),he m (by simp [Op.operands])];cases l with
    | none=>rfl
    | some l'=>simp only [Option.map_some]; rw [he l' (by simp [Op.operands])]
  | none=>
  simp only [valX];rw [hx];cases l<;>cases hi<;>simp only [Option.map_none,Option.map_some]
  ·rw [he _ (by simp [Op.operands])]
  ·rw [he _ (by simp [Op.operands])]
  ·rename_i l' h';rw [he l' (by simp [Op.operands]),he h' (by simp [Op.operands])]
 | move x=>simp only [valX,he x (by simp [Op.operands])]
 | assign x=>simp only [valX,he x (by simp [Op.operands])]
 | load t x=>simp only [valX,he x (by simp [Op.operands])]
 | nilCheck x=>simp only [valX,he x (by simp [Op.operands])]
 | unOp _ _ x=>simp only [valX,he x (by simp [Op.operands])]
 | convert _ _ x=>simp only [valX,he x (by simp [Op.operands])]
 | fieldAddr _ x _=>simp only [valX,he x (by simp [Op.operands])]
 | field _ x _=>simp only [valX,he x (by simp [Op.operands])]
 | extract x _=>simp only [valX,he x (by simp [Op.operands])]
 | binOp _ _ x y _=>simp only [valX,he x (by simp [Op.operands]),he y (by simp [Op.operands])]
 | indexAddr _ x y=>simp only [valX,he x (by simp [Op.operands]),he y (by simp [Op.operands])]
 | index _ x y=>simp only [valX,he x (by simp [Op.operands]),he y (by simp [Op.operands])]
 | lookup _ x y _=>simp only [valX,he x (by simp [Op.operands]),he y (by simp [Op.operands])]
 | _=>rfl
theorem zfr{ρ ρ':Operand->AV}{h:Heap}{op:Op}(he:∀ x∈op.operands,ρ x=ρ' x):opX P Γ ρ h op=opX P Γ ρ' h op:=by
 cases op with
 | alloc t=>rfl
 | box t x=>simp only [opX,he x (by simp [Op.operands])]
 | buildSlice t n ps=>
  simp only [opX];rw [WY λp hp=>he p.2 (by simp only [Op.operands,List.mem_toArray,List.mem_map]; exact⟨p,by simpa using hp,rfl⟩)]
 | store t x y=>simp only [opX,he x (by simp [Op.operands]),he y (by simp [Op.operands])]
 | makeSlice t x y=>simp only [opX,he x (by simp [Op.operands]),he y (by simp [Op.operands])]
 | call c=>
  have hv:=ub (P:=P) (h:=h) he;obtain⟨callee,args,ats⟩:=c;have ha:∀ x∈args,ρ x=ρ' x:=λx hx=>he x (by simp [Op.operands,Call.operands,hx])
  cases callee with
  | builtin b=>
   by_cases hb:b = .append
   ·subst hb;obtain⟨args⟩:=args;obtain⟨ats⟩:=ats;simp only [opX]
    match ats,args with
    | [t,tx],[x,y]=>simp only [ha x (by simp),ha y (by simp)]
    | [],_=>rfl
    | [_],_=>rfl
    | _::_::_::_,_=>rfl
    | [_,_],[]=>rfl
    | [_,_],[_]=>rfl
    | [_,_],_::_::_::_=>rfl
   ·by_cases hb2:b = .delete
    ·subst hb2;obtain⟨args⟩:=args;obtain⟨ats⟩:=ats;simp only [opX]
    ·cases b<;>first | exact absurd rfl hb | exact absurd rfl hb2 | (simp only [opX]; rw [hv])
  | value f=>
   simp only [opX];rw [he f (by simp [Op.operands,Call.operands]),kX ha]
  | invoke _ _=>rfl
 | makeMap t r=>
  cases r with
  | none=>rfl
  | some _=>simp only [opX]; rw [ub he]
 | mapUpdate t m k v=>simp only [opX,he m (by simp [Op.operands]),he k (by simp [Op.operands]),he v (by simp [Op.operands])]
 | insert t m k v=>simp only [opX,he m (by simp [Op.operands]),he k (by simp [Op.operands]),he v (by simp [Op.operands])]
 | mapEntry t m k=>simp only [opX,he m (by simp [Op.operands]),he k (by simp [Op.operands])]
 | entryStore t m k v=>simp only [opX,he m (by simp [Op.operands]),he k (by simp [Op.operands]),he v (by simp [Op.operands])]
 | _=>simp only [opX]; rw [ub he]
theorem Y1{ρ:Operand->AV}{h h':Heap}{op:Op}{ls:List Nat}(hq:qo ρ op=some ls)(hl:∀ i∈ls,h'[i]?=h[i]?):opX P Γ ρ h' op=opX P Γ ρ h op:=by
 cases op with
 | load t x=>
  simp only [qo] at hq;simp only [opX,valX];generalize ρ x=y at hq;cases y with
  | ptr i off=>simp only [aE] at hq; subst hq; simp only [uV,hl i (by simp)]
  | eptr i sz idx off=>simp only [aE] at hq; subst hq; simp only [uV,hl i (by simp)]
  | iptr m g=>rfl
  | _=>simp at hq
 | convert s t x=>
  simp only [qo] at hq;simp only [opX,valX];generalize ρ x=y at hq;cases y with
  | int k n=>rfl
  | str b=>rfl
  | _=>simp at hq
 | call c=>
  simp only [qo] at hq;obtain⟨callee,args,ats⟩:=c;cases callee with
  | builtin b=>cases b<;>simp at hq<;>rfl
  | _=>simp at hq
 | makeFunc f _ _=>cases f<;>rfl
 | slice _ _ _ h m=>cases m<;>cases h<;>rfl
 | _=>first | rfl | (simp [qo] at hq; done)
def mask(D:List Nat)(st:St):St:=⟨st.tmps.zipIdx.map λp=>if D.contains p.2 then .undef else p.1,st.heap⟩
theorem jr(D:List Nat)(st:St)(t:Nat):(mask D st).tmps.getD t .undef=if t∈D then .undef else st.tmps.getD t .undef:=by
 simp only [mask,List.getD,aN,List.getElem?_zipIdx];cases st.tmps[t]?<;>simp
theorem jC(D:List Nat)(st:St):(mask D st).tmps.length=st.tmps.length:=by simp [mask]
variable {st2:St}
theorem kx:∀ {n t:Nat} {want:Bool},(∀ u∈jM st.tmps n t,st2.tmps.getD u .undef=st.tmps.getD u .undef)->jl st2.tmps n t want=jl st.tmps n t want
 | 0,t,want,h=>rfl
 | n+1,t,want,h=>by
  simp only [jl,jM] at h ⊢;rw [h t (by simp)];generalize st.tmps.getD t .undef=x at h;cases x<;>try rfl
  simp only at h ⊢;rw [kx λu hu=>h u (by simp [hu])]
theorem xJ:∀ {n t:Nat} {want:Bool},(∀ u∈jM st.tmps n t,st2.tmps.getD u .undef=st.tmps.getD u .undef)->we st2.tmps n t want=we st.tmps n t want
 | 0,t,want,h=>rfl
 | n+1,t,want,h=>by
  simp only [we,jM] at h ⊢;rw [h t (by simp)];generalize st.tmps.getD t .undef=x at h;cases x<;>try rfl
  rename_i u w' y;cases y<;>try rfl
  simp only at h ⊢;rw [xJ λv hv=>h v (by simp [hv])]
theorem uY:∀ {n t:Nat},(∀ u∈jM st.tmps n t,st2.tmps.getD u .undef=st.tmps.getD u .undef)->jM st2.tmps n t=jM st.tmps n t
 | 0,t,h=>rfl
 | n+1,t,h=>by
  simp only [jM] at h ⊢;rw [h t (by simp)];generalize st.tmps.getD t .undef=x at h;cases x<;>try rfl
  simp only at h ⊢;rw [uY λu hu=>h u (by simp [hu])]
theorem Wr{ops:Array Oper}{o:Oper}{t:Nat}(h : .tmp t∈o.op.operands)(l:List AV):t∈jm ops l o:=by
 simp only [jm,zin,cA,List.mem_filterMap];exact .inl ⟨.tmp t,by simpa using h,rfl⟩
theorem kh{ops:Array Oper}{o:Oper}{j t:Nat}{want:Bool}(hg:o.guard=some (j,want))(ht:(ops[j]?).bind (·.dst)=some t){l:List AV}{u:Nat}(hu:u∈jM l 4 t):u∈jm ops l o:=by
 simp only [jm,hg,ht,cA];exact .inr hu
theorem yc{K:List (Nat×Bool)}{x:Operand}(h:∀ t,x = .tmp t->st2.tmps.getD t .undef=st.tmps.getD t .undef):zV st2 K x=zV st K x:=by
 cases x with
 | tmp t=>simp only [zV,h t rfl]
 | _=>rfl
theorem V1{ops:Array Oper}{o:Oper}{K:List (Nat×Bool)}(ht:∀ t∈jm ops st.tmps o,st2.tmps.getD t .undef=st.tmps.getD t .undef)
  (hh:st2.heap=st.heap\/∃ ls,qo (zV st K) o.op=some ls/\∀ i∈ls,st2.heap[i]?=st.heap[i]?):opV P Γ st2 K o.op=opV P Γ st K o.op:=by
 have hev:∀ K,∀ x∈o.op.operands,zV st2 K x=zV st K x:=λK x hx=>yc λt hxt=>ht t (Wr (hxt▸hx) _)
 have hgen:opX P Γ (zV st2 K) st2.heap o.op=opX P Γ (zV st K) st.heap o.op:=by
  rw [zfr (hev K)];rcases hh with hh | ⟨ls,h1,h2⟩
  ·rw [hh]
  ·exact Y1 h1 h2
 unfold opV;cases hop:o.op with
 | pick c x y=>
  simp only;congr 1;have hc:∀ K,zV st2 K c=zV st K c:=λK=>hev K c (by simp [hop,Op.operands])
  have hx:∀ K,zV st2 K x=zV st K x:=λK=>hev K x (by simp [hop,Op.operands])
  have hy:∀ K,zV st2 K y=zV st K y:=λK=>hev K y (by simp [hop,Op.operands])
  simp only [zlz,hc,hx,hy]
 | _=>rw [hop] at hgen; exact hgen
theorem xk{ops:Array Oper}{o:Oper}(ht:∀ t∈jm ops st.tmps o,st2.tmps.getD t .undef=st.tmps.getD t .undef):xo ops st2 o=xo ops st o:=by
 unfold xo;cases hg:o.guard with
 | none=>rfl
 | some p=>
  obtain⟨j,want⟩:=p;simp only;cases hj:(ops[j]?).bind (·.dst) with
  | none=>rfl
  | some t=>exact kx λu hu=>ht u (kh hg hj hu)
theorem Ze:∀ {n t:Nat} {want:Bool},(∀ u∈jM st.tmps n t,st2.tmps.getD u .undef=st.tmps.getD u .undef)->xT st2.tmps n t want=xT st.tmps n t want
 | 0,t,want,h=>rfl
 | n+1,t,want,h=>by
  simp only [xT,jM] at h ⊢;rw [h t (by simp)];generalize st.tmps.getD t .undef=x at h;cases x<;>try rfl
  rename_i u w' y;cases y<;>try rfl
  simp only at h ⊢;rw [Ze λv hv=>h v (by simp [hv])]
theorem yI{ρ:Operand->AV}{h:Heap}{op:Op}{ls:List Nat}(hq:qo ρ op=some ls):xA Γ ρ h op=false:=by
 cases op with
 | call c=>
  obtain⟨callee,args,ats⟩:=c;cases callee with
  | value f=>simp [qo] at hq
  | builtin b=>cases b<;>first | rfl | simp [qo] at hq
  | _=>rfl
 | buildSlice t n p=>simp [qo] at hq
 | _=>rfl
theorem Xo{ρ ρ':Operand->AV}{h:Heap}{op:Op}(he:∀ x∈op.operands,ρ x=ρ' x):xA Γ ρ h op=xA Γ ρ' h op:=by
 cases op with
 | call c=>
  obtain⟨callee,args,ats⟩:=c;have ha:∀ x∈args,ρ x=ρ' x:=λx hx=>he x (by simp [Op.operands,Call.operands,hx])
  cases callee with
  | value f=>
   simp only [xA];rw [he f (by simp [Op.operands,Call.operands]),kX ha]
  | builtin b=>cases b<;>rfl
  | _=>rfl
 | _=>rfl
theorem WN{ops:Array Oper}{o:Oper}{K:List (Nat×Bool)}(ht:∀ t∈jm ops st.tmps o,st2.tmps.getD t .undef=st.tmps.getD t .undef)
  (hh:st2.heap=st.heap\/∃ ls,qo (zV st K) o.op=some ls/\∀ i∈ls,st2.heap[i]?=st.heap[i]?):xA Γ (zV st2 K) st2.heap o.op=xA Γ (zV st K) st.heap o.op:=by
 have hev:∀ x∈o.op.operands,zV st2 K x=zV st K x:=λx hx=>yc λt hxt=>ht t (Wr (hxt▸hx) _)
 rw [Xo hev];rcases hh with hh | ⟨ls,h1,_⟩
 ·rw [hh]
 ·rw [yI h1,yI h1]
theorem vA{ops:Array Oper}{o:Oper}(ht:∀ t∈jm ops st.tmps o,st2.tmps.getD t .undef=st.tmps.getD t .undef)
  (hh:st2.heap=st.heap\/∃ ls,qo (zV st (xo ops st o)) o.op=some ls/\∀ i∈ls,st2.heap[i]?=st.heap[i]?):jz P Γ ops st2 o=jz P Γ ops st o:=by
 unfold jz;cases hg:o.guard with
 | none=>
  simp only;rw [V1 (ops:=ops) ht (by simpa [xo,hg] using hh)]
 | some p=>
  obtain⟨j,want⟩:=p;simp only;cases hj:(ops[j]?).bind (·.dst) with
  | none=>rfl
  | some t=>
   simp only;have hc:∀ u∈jM st.tmps 4 t,st2.tmps.getD u .undef=st.tmps.getD u .undef:=λu hu=>ht u (kh hg hj hu)
   have hh':st2.heap=st.heap\/∃ ls,qo (zV st (jl st.tmps 4 t want)) o.op=some ls/\∀ i∈ls,st2.heap[i]?=st.heap[i]?:=by simpa [xo,hg,hj] using hh
   simp only [KT];rw [Ze hc,xJ hc,kx hc,WN ht hh',V1 (ops:=ops) ht hh']
theorem zar{ops:Array Oper}{o:Oper}(ht:∀ t∈jm ops st.tmps o,st2.tmps.getD t .undef=st.tmps.getD t .undef):jm ops st2.tmps o=jm ops st.tmps o:=by
 unfold jm;cases hg:o.guard with
 | none=>rfl
 | some p=>
  obtain⟨j,want⟩:=p;simp only;cases hj:(ops[j]?).bind (·.dst) with
  | none=>rfl
  | some t=>simp only; rw [uY λu hu=>ht u (kh hg hj hu)]
theorem yf{ops:Array Oper}{o:Oper}(ht:∀ t∈jm ops st.tmps o,st2.tmps.getD t .undef=st.tmps.getD t .undef):qe ops st2.tmps o=qe ops st.tmps o:=by
 unfold qe;rw [zar ht];congr 1;rw [List.flatMap_def,List.flatMap_def,List.map_congr_left λt h=>by rw [ht t h]]
theorem kK{ops:Array Oper}{o:Oper}{K:List (Nat×Bool)}(ht:∀ t∈jm ops st.tmps o,st2.tmps.getD t .undef=st.tmps.getD t .undef):qo (zV st2 K) o.op=qo (zV st K) o.op:=by
 have hev:∀ x∈o.op.operands,zV st2 K x=zV st K x:=λx hx=>yc λt hxt=>ht t (Wr (hxt▸hx) _)
 cases hop:o.op with
 | load t x=>simp only [qo,hev x (by simp [hop,Op.operands])]
 | convert s t x=>simp only [qo,hev x (by simp [hop,Op.operands])]
 | _=>rfl
theorem YD{ops:Array Oper}{o:Oper}{dst:Option Nat}{r:Res}(hd:∀ d,dst=some d->d∉qe ops st.tmps o)(hk:r.kill=[]):∀ t∈jm ops st.tmps o,(putX st dst r).tmps.getD t .undef=st.tmps.getD t .undef:=by
 intro t ht;cases dst with
 | none=>simp [putX,hk,kp]
 | some d=>
  have hd:=hd d rfl;have htd:t≠d:=λe=>hd (e▸by simp [qe,ht])
  simp only [putX,hk,kp,List.getD];rw [bS (λe=>htd e.symm),aN];cases hx:st.tmps[t]? with
  | none=>rfl
  | some x=>
   simp only [Option.map_some,Option.getD_some];cases x<;>try rfl
   rename_i u w' y;simp only [qu];rw [aO];rintro rfl;refine hd ?_;simp only [qe,cA,List.mem_flatMap];exact .inr ⟨t,ht,by simp [List.getD,hx,zko]⟩
theorem Zw:∀ (eff:List (Nat×Blk)) (h:Heap),h.length<=(zk h eff).length
 | [],h=>aJ _
 | (l,b)::eff,h=>by
  simp only [zk];have hlen:h.length<=(qE h l b).length:=by unfold qE; split<;>simp
  exact bP hlen (Zw eff _)
theorem Qo:∀ {eff:List (Nat×Blk)} {h:Heap} {i:Nat},i<h.length->(∀ p∈eff,p.1≠i)->(zk h eff)[i]?=h[i]?/\h.length<=(zk h eff).length
 | [],h,i,_,_=>⟨rfl,aJ _⟩
 | (l,b)::eff,h,i,hi,hn=>by
  simp only [zk];have hne:=hn (l,b) (by simp);have hlen:h.length<=(qE h l b).length:=by unfold qE; split<;>simp
  obtain⟨h1,h2⟩:=Qo (eff:=eff) (h:=qE h l b) (i:=i) (by omega) λp hp=>hn p (by simp [hp])
  refine⟨h1.trans ?_,bP hlen h2⟩;unfold qE;split
  ·rw [bS hne]
  ·rw [bL hi]
def okL(ops:Array Oper):List Nat->Prop
 | []=>True
 | i::L=>(∀ o,ops[i]?=some o->∀ k∈wV o,k∈L)/\i∉L/\okL ops L
structure Yv(P:Program)(Γ:Nat->Option Ctr)(ops:Array Oper)(st:St)(e:Ent)(o:Oper):Prop where
 op:ops[e.k]?=some o
 dst:o.dst=some e.d
 val:(jz P Γ ops st o).holds (λr=>r=⟨e.x,[],[]⟩)
 looks:qe ops st.tmps o=e.looks
 self:e.d∉e.looks
 quiet:qo (zV st (xo ops st o)) o.op=some e.labs
 lab:∀ i∈e.labs,i<st.heap.length
 slot:e.d<st.tmps.length->st.tmps.getD e.d .undef=e.x
def zil(ops:Array Oper)(e f:Ent):Prop:=e.d∉f.looks/\e.d≠f.d/\((∀ o,ops[e.k]?=some o->f.k∈w9 ops o)\/f.d∉e.looks)
structure Inv(P:Program)(Γ:Nat->Option Ctr)(ops:Array Oper)(L:List Nat)(st:St)(pend:List Ent)(listed:Array Bool):Prop where
 lis:∀ k,k<ops.size->(listed.getD k true=false↔(k∉L\/∃ e∈pend,e.k=k))
 out:∀ k,¬ k<ops.size->listed.getD k true=true/\listed.getD k false=false
 lis2:∀ k,k<ops.size->listed.getD k true=listed.getD k false
 ok:okL ops L
 lt:∀ k∈L,k<ops.size
 key:∀ e∈pend,e.k∈L
 uniq:∀ e∈pend,∀ f∈pend,e.k=f.k->e=f
 ord:∀ e∈pend,∀ f∈pend,e.k≠f.k->zil ops e f\/zil ops f e
 good:∀ e∈pend,∃ o,Yv P Γ ops st e o
 Yf:∀ e∈pend,∀ t want x,st.tmps.getD t .undef = .opt e.d want x->∃ f∈pend,f.d=t
 cl:∀ k o,listed.getD k false=true->ops[k]?=some o->∀ j∈wV o,listed.getD j false=true
theorem Wf{o:Oper}{j:Nat} : j∈wV o↔∃ e∈o.after,Region.binds .any e=true/\e.on=j:=by
 simp only [wV,List.mem_filterMap,Array.mem_toList_iff];constructor
 ·rintro⟨e,he,h⟩;split at h
  ·rename_i hb; cases h; exact⟨e,he,hb,rfl⟩
  ·cases h
 ·rintro⟨e,he,hb,rfl⟩;exact⟨e,he,by simp [hb]⟩
theorem wN{ops:Array Oper}{listed:Array Bool}{j:Nat} : j∈Region.ready .any ops listed↔listed.getD j true=false/\∃ o,ops[j]?=some o/\∀ k∈wV o,listed.getD k false=true:=by
 rw [mem_ready];constructor
 ·rintro⟨h,o,ho,hall⟩;refine⟨h,o,ho,λk hk=> ?_⟩;obtain⟨e,he,hb,rfl⟩:=Wf.1 hk;exact hall e he hb
 ·rintro⟨h,o,ho,hall⟩;exact⟨h,o,ho,λe he hb=>hall _ (Wf.2 ⟨e,he,hb,rfl⟩)⟩
theorem ui{ops:Array Oper}{L:List Nat}{j:Nat} : j∈xu ops L↔j∉L/\∃ o,ops[j]?=some o/\∀ k∈wV o,k∈L:=by
 simp only [xu,List.mem_filter,List.mem_range,YZ,bA,Bool.not_eq_true',bZ,aV];constructor
 ·rintro⟨h1,h2,h3⟩;cases ho:ops[j]? with
  | none=>simp [ho] at h3
  | some o=>simp only [ho,bG,aK] at h3; exact⟨h2,o,rfl,h3⟩
 ·rintro⟨h2,o,ho,h3⟩;exact⟨(aQ.1 ho).1,h2,by simp only [ho,bG,aK]; exact h3⟩
theorem Jp{ops:Array Oper}{T:Nat->Prop}(cl:∀ k o,T k->ops[k]?=some o->∀ j∈wV o,T j):∀ (n:Nat) (todo acc:List Nat),(∀ k∈todo,T k)->(∀ k∈acc,T k)->∀ k∈ancs ops n todo acc,T k
 | 0,todo,acc,_,ha,k,hk=>ha k (by simpa [ancs] using hk)
 | n+1,[],acc,_,ha,k,hk=>ha k (by simpa [ancs] using hk)
 | n+1,i::t,acc,ht,ha,k,hk=>by
  simp only [ancs] at hk;split at hk
  ·exact Jp cl n t acc (λj hj=>ht j (by simp [hj])) ha k hk
  ·refine Jp cl n _ _ ?_ ?_ k hk
   ·intro j hj;rcases cA.1 hj with hj | hj
    ·cases ho:ops[i]? with
     | none=>simp [ho] at hj
     | some o=>simp only [ho] at hj; exact cl i o (ht i (by simp)) ho j hj
    ·exact ht j (by simp [hj])
   ·intro j hj;rcases aM.1 hj with rfl | hj
    ·exact ht j (by simp)
    ·exact ha j hj
theorem Xu{ops:Array Oper}{T:Nat->Prop}(cl:∀ k o,T k->ops[k]?=some o->∀ j∈wV o,T j){o:Oper}(h:∀ k∈wV o,T k):∀ k∈w9 ops o,T k:=
 Jp cl _ _ _ h (by simp)
section
variable {ops:Array Oper} {L:List Nat} {pend:List Ent} {listed:Array Bool}
theorem Inv.T(I:Inv P Γ ops L st pend listed)(k:Nat):listed.getD k false=true↔k∈L/\¬ ∃ e∈pend,e.k=k:=by
 by_cases hk:k<ops.size
 ·rw [<- I.lis2 k hk];have:=I.lis k hk;cases hl:listed.getD k true with
  | false=>
   rw [hl] at this;simp only [true_iff] at this;simp only [Bool.false_eq_true,false_iff,not_and,Classical.not_not];intro h;rcases this with h2 | h2
   ·exact absurd h h2
   ·exact h2
  | true=>
   rw [hl] at this;simp only [Bool.true_eq_false,false_iff,not_or,Classical.not_not] at this;simp [this]
 ·rw [(I.out k hk).2];simp only [Bool.false_eq_true,false_iff];exactλh=>hk (I.lt k h.1)
theorem Inv.first(I:Inv P Γ ops L st pend listed)(hne:pend≠[]):∃ e∈pend,e.k∈Region.ready .any ops listed:=by
 have key:∀ L':List Nat,okL ops L'->(∀ k∈L',k∈L)->(∃ e∈pend,e.k∈L')->∃ e∈pend,e.k∈L'/\∀ o,ops[e.k]?=some o->∀ k∈wV o,k∈L'/\¬ ∃ f∈pend,f.k=k:=by
  intro L'
  induction L' with
  | nil=>rintro _ _ ⟨e,_,h⟩; simp at h
  | cons i L' ih=>
   rintro⟨h1,h2,h3⟩ hsub ⟨e,he,hk⟩;by_cases hex:∃ e∈pend,e.k∈L'
   ·obtain⟨f,hf,h4,h5⟩:=ih h3 (λk hk=>hsub k (by simp [hk])) hex;exact⟨f,hf,by simp [h4],λo ho k hk=>⟨by simp [(h5 o ho k hk).1],(h5 o ho k hk).2⟩⟩
   ·rcases aM.1 hk with hk | hk
    ·refine⟨e,he,by simp [hk],λo ho k hk'=> ?_⟩;have:=h1 o (hk▸ho) k hk';exact⟨by simp [this],λ⟨f,hf,hfk⟩=>hex ⟨f,hf,hfk▸this⟩⟩
    ·exact absurd ⟨e,he,hk⟩ hex
 obtain⟨e0,he0⟩:=List.exists_mem_of_ne_nil _ hne;obtain⟨e,he,h1,h2⟩:=key L I.ok (λ_ h=>h) ⟨e0,he0,I.key e0 he0⟩;obtain⟨o,ho⟩:=I.good e he;refine⟨e,he,wN.2 ⟨(I.lis e.k (I.lt _ h1)).2 (.inr ⟨e,he,rfl⟩),o,ho.op,λk hk=> ?_⟩⟩;exact(I.T k).2 (h2 o ho.op k hk)
end
end
end Go.Sx
end
section
namespace Go.Sx
variable [Stat]
open Go.RowKit (Below)
section
variable {O:Nat->Prop} {pin:Nat} {w0:World} {I0:List SE} {w:World} {σ:List SE} {P:Program} {st st2:St} {a:Act} {Γ:Nat->Option Ctr}
variable {ops:Array Oper} {L:List Nat} {pend res:List Ent} {listed:Array Bool}
theorem J4{α:Type}{Q:α->Prop} : ∀ {t:Tree α} {ps:List Prop} {y:α},t.chain=some (ps,y)->t.holds Q->Q y/\t.holds (· = y)
 | .leaf x,ps,y,h,hq=>by simp only [Tree.chain,aE,bE] at h; obtain⟨_,rfl⟩:=h; exact⟨hq,rfl⟩
 | .ite _ _ _,_,_,h,_=>by simp [Tree.chain] at h
 | .fail,_,_,h,_=>by simp [Tree.chain] at h
 | .ex _ _,_,_,h,_=>by simp [Tree.chain] at h
 | .all _ _,_,_,h,_=>by simp [Tree.chain] at h
 | .side p t,ps,y,h,hq=>by
  simp only [Tree.chain] at h;split at h
  ·rename_i qs z hc;simp only [aE,bE] at h;obtain⟨_,rfl⟩:=h;obtain⟨h1,h2⟩:=J4 hc (hq.2 hq.1);exact⟨h1,hq.1,λ_=>h2⟩
  ·cases h
theorem Kn(x:AV):∀ t want y,see [] x≠.opt t want y:=by
 intro t want y;cases x<;>simp [see]
theorem VL{o:Oper}{Q:Res->Prop}(h:(jz P Γ ops st o).holds Q):(jz P Γ ops st o).holds λr=>Q r/\∀ u want x,r.val = .opt u want x->u∈jm ops st.tmps o:=by
 unfold jz at h ⊢;cases hg:o.guard with
 | none=>
  rw [hg] at h;simp only at h ⊢;rw [Tree.zn] at h ⊢;exact Tree.qf (λx hx=>⟨hx,λu want y hy=>absurd hy (Kn _ _ _ _)⟩) h
 | some p=>
  obtain⟨j,want⟩:=p;rw [hg] at h;simp only at h ⊢;cases hj:(ops[j]?).bind (·.dst) with
  | none=>rw [hj] at h; exact h.elim
  | some t=>
   rw [hj] at h;simp only at h ⊢;split at h
   ·rename_i heff;unfold KT at h ⊢;split at h
    ·split at h
     ·rename_i hdt;rw [aP hdt];refine⟨λhb=> ?_,λhb=>⟨h.2 hb,λu want' x hx=> ?_⟩⟩
      ·have h1:=h.1 hb;rw [Tree.zn] at h1 ⊢;exact Tree.qf (λx hx=>⟨hx,λu want y hy=>absurd hy (Kn _ _ _ _)⟩) h1
      ·simp only [AV.opt.injEq] at hx;obtain⟨rfl,_⟩:=hx;exact kh hg hj (by simp [jM])
     ·exact h.elim
    ·exact h.elim
   split at h
   ·split at h
    ·rename_i hdt;rw [aP hdt];refine wj (λv hv=>⟨hv,λu want' x hx=> ?_⟩) h;simp only [AV.opt.injEq] at hx;obtain⟨rfl,_⟩:=hx;exact kh hg hj (by simp [jM])
    ·exact h.elim
   ·exact h.elim
theorem wx(dst:Option Nat)(r:Res)(t:Nat):(putX st dst r).tmps.getD t .undef=match dst with
  | some d=>if t=d/\d<st.tmps.length then r.val else qu d (zL r.kill (st.tmps.getD t .undef))
  | none=>zL r.kill (st.tmps.getD t .undef):=by
 cases dst with
 | none=>simp only [putX]; rw [wy,getD_map (wv _)]
 | some d=>
  simp only [putX];rw [wy];have hl:((st.tmps.map (zL r.kill)).map (qu d)).length=st.tmps.length:=by simp
  by_cases h:t=d
  ·subst h;by_cases hlt:t<st.tmps.length
   ·rw [aP ⟨rfl,hlt⟩];simp only [List.getD];rw [List.getElem?_set_self (by rw [hl]; exact hlt)]; rfl
   ·rw [aO (λh=>hlt h.2)];simp only [List.getD];rw [aZ (by simpa using Nat.le_of_not_lt hlt),aZ (by simpa using Nat.le_of_not_lt hlt)];simp only [Option.getD_none,wv]; rfl
  ·rw [aO (λh'=>h h'.1)];simp only [List.getD];rw [bS (λe=>h e.symm)];have:=getD_map (f:=qu d) rfl (st.tmps.map (zL r.kill)) t;simp only [List.getD] at this;rw [this];have:=getD_map (f:=zL r.kill) (wv _) st.tmps t;simp only [List.getD] at this;rw [this]
theorem xy(dst:Option Nat)(r:Res):(putX st dst r).tmps.length=st.tmps.length:=by
 cases dst<;>simp [putX,wy]
theorem kj(dst:Option Nat)(r:Res):(putX st dst r).heap=zk (z9 r.kill st.heap) r.eff:=by
 cases dst<;>rfl
theorem Mod.weaken(hm:Mod O pin w0 I0 w σ st a)(hh:st2.heap=st.heap)(hl:st2.tmps.length=st.tmps.length)(ht:∀ t,st2.tmps.getD t .undef=st.tmps.getD t .undef\/st2.tmps.getD t .undef = .undef):Mod O pin w0 I0 w σ st2 a:=by
 refine⟨hm.good,hh▸hm.hp,by rw [hl]; exact hm.size,λt=> ?_,hm.df,hm.since,hm.lim⟩;rcases ht t with h | h
 ·rw [h]; exact hm.tm t
 ·rw [h]; simp [TRep,Rep]
theorem Wv{K:List Nat}{i:Nat}(hi:i∈K){a:AV}(h:xI K a=true):j9 i a=a:=by
 cases a with
 | osl j sz off n=>
  simp only [xI,bZ,Bool.not_eq_true',aV] at h;simp only [j9]; rw [aO (λ(e:i=j)=>h (e▸hi))]
 | eptr j sz idx off=>
  simp only [xI,bZ,Bool.not_eq_true',aV] at h;simp only [j9]; rw [aO (λ(e:i=j)=>h (e▸hi))]
 | ptr j off=>
  simp only [xI,bZ,Bool.not_eq_true',aV] at h;simp only [j9]; rw [aO (λ(e:i=j)=>h (e▸hi))]
 | omap j=>
  simp only [xI,bZ,Bool.not_eq_true',aV] at h;simp only [j9]; rw [aO (λ(e:i=j)=>h (e▸hi))]
 | agg _=>cases h
 | tup _=>cases h
 | opt _ _ _=>cases h
 | fn f x y=>
  cases x<;>cases y<;>simp [xI] at h
  rfl
 | _=>rfl
theorem za9{K:List Nat}{i:Nat}(hi:i∈K){a:AV}(h:Q3 K a=true):qh i a=a:=by
 have hL:∀ l:List AV,l.all (xI K)=true->l.map (j9 i)=l:=λl hl=>by
  rw [bG] at hl
  conv=>rhs; rw [<- List.map_id l]
  exact List.map_congr_left λx hx=>Wv hi (hl x hx)
 cases a with
 | agg l=>simp only [qh]; rw [hL l h]
 | tup l=>simp only [qh]; rw [hL l h]
 | fn f x y=>
  cases x<;>cases y<;>simp [Q3,xI] at h
  rfl
 | opt _ _ _=>simp [Q3,xI] at h
 | _=>simp only [Q3] at h; simp only [qh]; exact Wv (K:=K) hi h
theorem Jc{a:AV} : ∀ {K:List Nat},(∀ i∈K,qh i a=a)->zL K a=a
 | [],_=>rfl
 | i::K,h=>by
  simp only [zL];rw [h i (by simp)];exact Jc λj hj=>h j (by simp [hj])
theorem xY{K:List Nat}{a:AV}(h:Q3 K a=true):zL K a=a:=Jc λi hi=>za9 hi h
theorem YQ{K:List Nat}{b:Blk}(h:zgt K b=true):jN K b=b:=by
 cases b with
 | box cs=>
  simp only [zgt,bG] at h;simp only [jN];congr 1
  conv=>rhs; rw [<- List.map_id cs]
  exact List.map_congr_left λx hx=>xY (h x hx)
 | _=>rfl
theorem zdy{ops:Array Oper}{o:Oper}{dst:Option Nat}{r:Res}(hd:∀ d,dst=some d->d∉qe ops st.tmps o)(hk:∀ t∈qe ops st.tmps o,zL r.kill (st.tmps.getD t .undef)=st.tmps.getD t .undef):∀ t∈jm ops st.tmps o,(putX st dst r).tmps.getD t .undef=st.tmps.getD t .undef:=by
 intro t ht;have htl:t∈qe ops st.tmps o:=by simp [qe,ht]
 rw [wx];cases dst with
 | none=>exact hk t htl
 | some d=>
  have hd:=hd d rfl;have htd:t≠d:=λe=>hd (e▸htl)
  simp only;rw [aO (λh=>htd h.1),hk t htl];cases hx:st.tmps.getD t .undef with
  | opt u w' y=>
   simp only [qu];rw [aO];rintro rfl;refine hd ?_;simp only [qe,cA,List.mem_flatMap];exact .inr ⟨t,ht,by rw [hx]; simp [zko]⟩
  | _=>rfl
theorem xa(d:Nat)(y:AV):qu d y=y/\(∀ want x,y≠.opt d want x)\/qu d y = .undef:=by
 cases y with
 | opt u want x=>
  simp only [qu];by_cases h:u=d
  ·right; rw [aP h]
  ·left; rw [aO h]; exact⟨rfl,λwant' x' e=>by cases e; exact h rfl⟩
 | _=>left; exact⟨rfl,λwant' x' e=>by cases e⟩
theorem Inv.clear(I:Inv P Γ ops L st pend listed){e:Ent}(he:e∈pend)(hr:e.k∈Region.ready .any ops listed):∀ f∈pend,f.k≠e.k->f.d∉e.looks/\f.d≠e.d:=by
 intro f hf hne;obtain⟨o,ho⟩:=I.good e he;obtain⟨_,o',ho',hall⟩:=wN.1 hr;rw [ho.op] at ho'; cases ho';rcases I.ord e he f hf (λh=>hne h.symm) with ⟨_,h2,h3⟩ | ⟨h1,h2,_⟩
 ·rcases h3 with h3 | h3
  ·have:=Xu (T:=λk=>listed.getD k false=true) I.cl hall f.k (h3 o ho.op);exact absurd ⟨f,hf,rfl⟩ ((I.T f.k).1 this).2
  ·exact⟨h3,λh=>h2 h.symm⟩
 ·exact⟨h1,h2⟩
theorem Yv.Uu{e:Ent}{o:Oper}(h:Yv P Γ ops st e o){u:Nat}{want:Bool}{x:AV}(hx:e.x = .opt u want x):u∈e.looks:=by
 obtain⟨r,hr,h2⟩:=Tree.kg (VL h.val);subst hr;have:=h2 u want x hx;rw [<- h.looks];simp [qe,this]
theorem yZ{k:Nat}(hk:listed.getD k true=false)(j:Nat)(d:Bool):(listed.setIfInBounds k true).getD j d=if j=k then true else listed.getD j d:=by
 by_cases h:j=k
 ·subst h;rw [aP rfl]
  have:j<listed.size:=by
   rcases aR j listed.size with h | h
   ·exact h
   ·simp [h] at hk
  simp [this]
 ·rw [aO h]; exact getD_set_ne d (λe=>h e.symm)
theorem Inv.ztu(I:Inv P Γ ops L st pend listed){e:Ent}(he:e∈pend)(hr:e.k∈Region.ready .any ops listed):Inv P Γ ops L st (pend.filter λf=>f.k != e.k) (listed.setIfInBounds e.k true):=by
 obtain⟨hun,o',ho',hall⟩:=wN.1 hr;have hset:=yZ hun;have hmem:∀ f,f∈pend.filter (λf=>f.k != e.k)↔f∈pend/\f.k≠e.k:=λf=>by simp
 have hlt:e.k<ops.size:=(aQ.1 ho').1;have hcl:=I.clear he hr;obtain⟨o,ho⟩:=I.good e he;refine⟨λk hk=> ?_,λk hk=> ?_,λk hk=> ?_,I.ok,I.lt,λf hf=>I.key f ((hmem f).1 hf).1,λf hf g hg=>I.uniq f ((hmem f).1 hf).1 g ((hmem g).1 hg).1,λf hf g hg=>I.ord f ((hmem f).1 hf).1 g ((hmem g).1 hg).1,λf hf=>I.good f ((hmem f).1 hf).1,?_,?_⟩
 ·rw [hset];by_cases h:k=e.k
  ·rw [aP h];simp only [Bool.true_eq_false,false_iff,not_or,Classical.not_not];refine⟨h▸I.key e he,?_⟩;rintro⟨f,hf,hfk⟩;exact((hmem f).1 hf).2 (hfk.trans h)
  ·rw [aO h,I.lis k hk];constructor
   ·rintro(h1 | ⟨f,hf,hfk⟩)
    ·exact .inl h1
    ·exact .inr ⟨f,(hmem f).2 ⟨hf,λe'=>h (hfk.symm.trans e')⟩,hfk⟩
   ·rintro(h1 | ⟨f,hf,hfk⟩)
    ·exact .inl h1
    ·exact .inr ⟨f,((hmem f).1 hf).1,hfk⟩
 ·rw [hset,hset,aO (λh=>hk (by omega)),aO (λh=>hk (by omega))]; exact I.out k hk
 ·rw [hset,hset]; split
  ·rfl
  ·exact I.lis2 k hk
 ·intro f hf t want x hx;obtain⟨hf1,hf2⟩:=(hmem f).1 hf;obtain⟨g,hg,hgt⟩:=I.Yf f hf1 t want x hx;by_cases hge:g.k=e.k
  ·exfalso;have:=I.uniq g hg e he hge;subst this;subst hgt
   have hlt2:g.d<st.tmps.length:=by
    rcases aR g.d st.tmps.length with h | h
    ·exact h
    ·simp [List.getD,aZ h] at hx
   rw [ho.slot hlt2] at hx;exact(hcl f hf1 hf2).1 (ho.Uu hx)
  ·exact⟨g,(hmem g).2 ⟨hg,hge⟩,hgt⟩
 ·intro k o2 hk ho2 j hj;rw [hset] at hk ⊢;split
  ·rfl
  ·split at hk
   ·rename_i hke;subst hke;rw [ho'] at ho2; cases ho2;exact hall j hj
   ·exact I.cl k o2 hk ho2 j hj
theorem modA(I:Inv P Γ ops L st pend listed){e:Ent}(he:e∈pend)(hr:e.k∈Region.ready .any ops listed){w':World}{Z':List SE}{a':Act}(hm:Mod O pin w0 I0 w' Z' (putX (mask (pend.map (·.d)) st) (some e.d) ⟨e.x,[],[]⟩) a') :
  Mod O pin w0 I0 w' Z' (mask ((pend.filter λf=>f.k != e.k).map (·.d)) st) a':=by
 obtain⟨o,ho⟩:=I.good e he;have hcl:=I.clear he hr;refine hm.weaken ?_ (by rw [xy,jC,jC]) λt=> ?_
 ·rw [kj]; simp only [z9,zk]; rfl
 ·rw [wx,jr,jr,jC];simp only [zL];by_cases hD':t∈(pend.filter λf=>f.k != e.k).map (·.d)
  ·rw [aP hD']; exact .inr rfl
  ·rw [aO hD'];by_cases htd:t=e.d
   ·subst htd;by_cases hlt:e.d<st.tmps.length
    ·rw [aP ⟨rfl,hlt⟩];exact .inl (ho.slot hlt)
    ·right;simp only [List.getD];rw [aZ (by omega)]; rfl
   ·rw [aO (λh=>htd h.1)]
    have hD:t∉pend.map (·.d):=by
     intro h;obtain⟨f,hf,hft⟩:=List.mem_map.1 h;apply hD';refine List.mem_map.2 ⟨f,?_,hft⟩;simp only [List.mem_filter,bne_iff_ne,ne_eq];exact⟨hf,λhk=>htd (by rw [<- hft,I.uniq f hf e he hk])⟩
    rw [aO hD];rcases xa e.d (st.tmps.getD t .undef) with ⟨h,_⟩ | h
    ·rw [h]; exact .inl rfl
    ·left;rw [h];generalize hy:st.tmps.getD t .undef=y at h ⊢;cases y with
     | opt u want x=>
      simp only [qu] at h;split at h
      ·rename_i hu;subst hu;obtain⟨f,hf,hft⟩:=I.Yf e he t want x hy;exact absurd (List.mem_map.2 ⟨f,hf,hft⟩) hD
      ·cases h
     | undef=>rfl
     | _=>simp only [qu] at h; exact h
theorem Inv.ahead(I:Inv P Γ ops L st pend listed){e:Ent}{o:Oper}(h1:ops[e.k]?=some o)(h2:o.dst=some e.d)(h3:(jz P Γ ops st o).holds (λr=>r=⟨e.x,[],[]⟩))(h4:qe ops st.tmps o=e.looks)(h5:e.d∉e.looks)
  (h6:qo (zV st (xo ops st o)) o.op=some e.labs) (h7:∀ i∈e.labs,i<st.heap.length) (hrd:e.k∈xu ops L) (hb:∀ f∈pend,vj (w9 ops o) (some e.d) e.looks true f=true) :
  Inv P Γ ops (e.k::L) (putX st (some e.d) ⟨e.x,[],[]⟩) (e::pend) listed:=by
 obtain⟨hkL,o2,ho2,hall⟩:=ui.1 hrd;rw [h1] at ho2; cases ho2;have hlt:e.k<ops.size:=(aQ.1 h1).1
 have hb':∀ f∈pend,e.d∉f.looks/\e.d≠f.d/\(f.k∈w9 ops o\/f.d∉e.looks):=by
  intro f hf;have:=hb f hf;simp only [vj,Bool.or_eq_true,bA,Bool.not_true,Bool.false_or,Bool.not_eq_true',bZ,aK,aV,beq_eq_false_iff_ne,ne_eq] at this;rcases this with ⟨g1,g2,g3⟩ | ⟨⟨g1,g2⟩,g3⟩
  ·exact⟨g2,g3,.inl g1⟩
  ·exact⟨g1,g2,.inr g3⟩
 have hheap:(putX st (some e.d) ⟨e.x,[],[]⟩).heap=st.heap:=by rw [kj]; simp [z9,zk]
 have hself:∀ t∈jm ops st.tmps o,(putX st (some e.d) ⟨e.x,[],[]⟩).tmps.getD t .undef=st.tmps.getD t .undef:=YD (λd hd=>by cases hd; rw [h4]; exact h5) rfl
 have hslot:∀ t,t≠e.d->(putX st (some e.d) ⟨e.x,[],[]⟩).tmps.getD t .undef=qu e.d (st.tmps.getD t .undef):=by
  intro t ht;rw [wx]; simp only [zL];rw [aO (λh=>ht h.1)]
 have hE:Yv P Γ ops (putX st (some e.d) ⟨e.x,[],[]⟩) e o:=by
  refine⟨h1,h2,?_,?_,h5,?_,?_,?_⟩
  ·rw [vA hself (.inl hheap)]; exact h3
  ·rw [yf hself]; exact h4
  ·rw [xk hself,kK hself]; exact h6
  ·rw [hheap]; exact h7
  ·intro hl;rw [xy] at hl;rw [wx]; simp only;rw [aP ⟨trivial,hl⟩]
 have h0:Yv P Γ ops (putX st (some e.d) ⟨e.x,[],[]⟩) e o:=hE;refine⟨λk hk=> ?_,I.out,I.lis2,⟨λo2 ho2 k hk=> ?_,hkL,I.ok⟩,λk hk=> ?_,λf hf=> ?_,λf hf g hg hfg=> ?_,λf hf g hg hne=> ?_,λf hf=> ?_,?_,I.cl⟩
 ·by_cases hke:k=e.k
  ·subst hke;have:=(I.lis e.k hk).2 (.inl hkL);simp [this]
  ·rw [I.lis k hk];constructor
   ·rintro(g1 | ⟨f,hf,g1⟩)
    ·exact .inl (by simp [hke,g1])
    ·exact .inr ⟨f,by simp [hf],g1⟩
   ·rintro(g1 | ⟨f,hf,g1⟩)
    ·exact .inl (λh=>g1 (by simp [h]))
    ·rcases aM.1 hf with rfl | hf
     ·exact absurd g1.symm hke
     ·exact .inr ⟨f,hf,g1⟩
 ·rw [h1] at ho2; cases ho2; exact hall k hk
 ·rcases aM.1 hk with rfl | hk
  ·exact hlt
  ·exact I.lt k hk
 ·rcases aM.1 hf with rfl | hf
  ·simp
  ·simp [I.key f hf]
 ·rcases aM.1 hf with hf2 | hf2<;>rcases aM.1 hg with hg2 | hg2
  ·rw [hf2,hg2]
  ·rw [hf2] at hfg; exact absurd (hfg▸I.key g hg2) hkL
  ·rw [hg2] at hfg; exact absurd (hfg▸I.key f hf2) hkL
  ·exact I.uniq f hf2 g hg2 hfg
 ·have hLat:∀ g∈pend,zil ops e g:=λg hg=>by
   obtain⟨g1,g2,g3⟩:=hb' g hg;exact⟨g1,g2,g3.imp (λh o2 ho2=>by rw [h1] at ho2; cases ho2; exact h) id⟩
  rcases aM.1 hf with hf2 | hf2<;>rcases aM.1 hg with hg2 | hg2
  ·rw [hf2,hg2] at hne; exact absurd rfl hne
  ·rw [hf2]; exact .inl (hLat g hg2)
  ·rw [hg2]; exact .inr (hLat f hf2)
  ·exact I.ord f hf2 g hg2 hne
 ·rcases aM.1 hf with rfl | hf
  ·exact⟨o,hE⟩
  ·obtain⟨o2,ho2⟩:=I.good f hf;obtain⟨g1,g2,g3⟩:=hb' f hf;have hs2:∀ t∈jm ops st.tmps o2,(putX st (some e.d) ⟨e.x,[],[]⟩).tmps.getD t .undef=st.tmps.getD t .undef:=YD (λd hd=>by cases hd; rw [ho2.looks]; exact g1) rfl;refine⟨o2,ho2.op,ho2.dst,?_,?_,ho2.self,?_,?_,?_⟩
   ·rw [vA hs2 (.inl hheap)]; exact ho2.val
   ·rw [yf hs2]; exact ho2.looks
   ·rw [xk hs2,kK hs2]; exact ho2.quiet
   ·rw [hheap]; exact ho2.lab
   ·intro hl;rw [xy] at hl;rw [hslot f.d (λh=>g2 h.symm),ho2.slot hl];rcases xa e.d f.x with ⟨h,_⟩ | h
    ·exact h
    ·cases hx:f.x with
     | opt u want y=>
      rw [hx] at h;simp only [qu] at h ⊢;split
      ·rename_i hu;subst hu;exact absurd (ho2.Uu hx) g1
      ·rfl
     | _=>simp only [qu]
 ·intro f hf t want x hx;by_cases htd:t=e.d
  ·exact⟨e,by simp,htd.symm⟩
  ·rw [hslot t htd] at hx;rcases xa e.d (st.tmps.getD t .undef) with ⟨h,h'⟩ | h
   ·rw [h] at hx;rcases aM.1 hf with rfl | hf
    ·exact absurd hx (h' want x)
    ·obtain⟨g,hg,hgt⟩:=I.Yf f hf t want x hx;exact⟨g,by simp [hg],hgt⟩
   ·rw [h] at hx; cases hx
theorem modC{e:Ent}(hm:Mod O pin w0 I0 w σ (mask (pend.map (·.d)) st) a):Mod O pin w0 I0 w σ (mask ((e::pend).map (·.d)) (putX st (some e.d) ⟨e.x,[],[]⟩)) a:=by
 refine hm.weaken ?_ (by rw [jC,jC,xy]) λt=> ?_
 ·show(putX st (some e.d) ⟨e.x,[],[]⟩).heap=st.heap;rw [kj]; simp [z9,zk]
 ·rw [jr,jr];by_cases h1:t∈(e::pend).map (·.d)
  ·rw [aP h1]; exact .inr rfl
  ·rw [aO h1,aO (λh=>h1 (by simp only [List.map_cons,aM]; exact .inr h)),wx];simp only [zL];rw [aO (λh=>h1 (by simp [h.1]))];rcases xa e.d (st.tmps.getD t .undef) with ⟨h,_⟩ | h
   ·exact .inl h
   ·exact .inr h
theorem Inv.zua(I:Inv P Γ ops L st pend listed){i:Nat}{o:Oper}{r:Res}(h1:ops[i]?=some o)(hiL:i∉L)(hr:i∈Region.ready .any ops listed)
  (hb:∀ f∈pend,vj (w9 ops o) o.dst (qe ops st.tmps o) false f=true) (he:∀ f∈pend,effK (w9 ops o) st r f=true) (ha:∀ f∈pend,effE (w9 ops o) st r f=true\/∃ o2,ops[f.k]?=some o2/\(jz P Γ ops (putX st o.dst r) o2).holds (λr'=>r'=⟨f.x,[],[]⟩)) (hopt:∀ u want x,r.val = .opt u want x->u∈jm ops st.tmps o) :
  Inv P Γ ops (i::L) (putX st o.dst r) pend (listed.setIfInBounds i true):=by
 obtain⟨hun,o',ho',hall⟩:=wN.1 hr;rw [h1] at ho'; cases ho';have hset:=yZ hun;have hlt:i<ops.size:=(aQ.1 h1).1
 have hanc:∀ f∈pend,f.k∉w9 ops o:=by
  intro f hf h;have:=Xu (T:=λk=>listed.getD k false=true) I.cl hall f.k h;exact((I.T f.k).1 this).2 ⟨f,hf,rfl⟩
 have hnp:∀ f∈pend,f.k≠i:=λf hf h=>hiL (h▸I.key f hf)
 have hb':∀ f∈pend,(∀ d,o.dst=some d->d∉f.looks/\d≠f.d)/\f.d∉qe ops st.tmps o:=by
  intro f hf;have:=hb f hf;simp only [vj,bZ,aK,hanc f hf,decide_false,Bool.false_and,Bool.false_or,bA,Bool.not_eq_true',aV] at this;refine⟨λd hd=> ?_,this.2⟩;have h3:=this.1;rw [hd] at h3;simpa using h3
 have he':∀ f∈pend,zL r.kill f.x=f.x/\∀ t∈f.looks,zL r.kill (st.tmps.getD t .undef)=st.tmps.getD t .undef:=by
  intro f hf;have:=he f hf;simp only [effK,bZ,hanc f hf,decide_false,Bool.false_or,Bool.or_eq_true,bA,List.isEmpty_iff,bG] at this;rcases this with h | ⟨h1,h2⟩
  ·rw [h]; exact⟨rfl,λ_ _=>rfl⟩
  ·exact⟨xY h1,λt ht=>xY (h2 t ht)⟩
 have ha':∀ f∈pend,((∀ p∈r.eff,p.1∉f.labs)/\∀ j∈f.labs,jN r.kill (st.heap.getD j .dead)=st.heap.getD j .dead)\/∃ o2,ops[f.k]?=some o2/\(jz P Γ ops (putX st o.dst r) o2).holds (λr'=>r'=⟨f.x,[],[]⟩):=by
  intro f hf;refine(ha f hf).imp (λh=> ?_) id;simp only [effE,bZ,hanc f hf,decide_false,Bool.false_or,bA,Bool.or_eq_true,List.isEmpty_iff,bG,Bool.not_eq_true',aV] at h;refine⟨h.1,λj hj=> ?_⟩;rcases h.2 with h | h
  ·rw [h]; exact j1 _
  ·exact YQ (h j hj)
 refine⟨λk hk=> ?_,λk hk=> ?_,λk hk=> ?_,⟨λo2 ho2 k hk=> ?_,hiL,I.ok⟩,λk hk=> ?_,λf hf=>by simp [I.key f hf],I.uniq,I.ord,λf hf=> ?_,?_,?_⟩
 ·rw [hset];by_cases h:k=i
  ·subst h;simp only [if_true,Bool.true_eq_false,aM,true_or,not_true,false_or,false_iff];rintro⟨f,hf,g⟩;exact hnp f hf g
  ·rw [aO h,I.lis k hk];simp [h]
 ·rw [hset,hset,aO (λh=>hk (by omega)),aO (λh=>hk (by omega))]; exact I.out k hk
 ·rw [hset,hset]; split
  ·rfl
  ·exact I.lis2 k hk
 ·rw [h1] at ho2; cases ho2;exact((I.T k).1 (hall k hk)).1
 ·rcases aM.1 hk with rfl | hk
  ·exact hlt
  ·exact I.lt k hk
 ·obtain⟨o2,ho2⟩:=I.good f hf;obtain⟨g1,g2⟩:=hb' f hf;obtain⟨g3x,g3s⟩:=he' f hf;have hs2:∀ t∈jm ops st.tmps o2,(putX st o.dst r).tmps.getD t .undef=st.tmps.getD t .undef:=zdy (λd hd=>by rw [ho2.looks]; exact(g1 d hd).1) (λt ht=>g3s t (by rw [<- ho2.looks]; exact ht))
  have hlen:st.heap.length<=(putX st o.dst r).heap.length:=by
   rw [kj];have hkl:(z9 r.kill st.heap).length=st.heap.length:=by simp [zT]
   have:=Zw r.eff (z9 r.kill st.heap);omega
  refine⟨o2,ho2.op,ho2.dst,?_,?_,ho2.self,?_,?_,?_⟩
  ·rcases ha' f hf with ⟨g4,g3b⟩ | ⟨o3,g4,g5⟩
   ·have hheap:∀ j∈f.labs,(putX st o.dst r).heap[j]?=st.heap[j]?:=by
     intro j hj;rw [kj];have hlt:=ho2.lab j hj;have hkl:(z9 r.kill st.heap).length=st.heap.length:=by simp [zT]
     obtain⟨k1,k2⟩:=Qo (h:=z9 r.kill st.heap) (eff:=r.eff) (i:=j) (by omega) λp hp h=>g4 p hp (h▸hj)
     refine k1.trans ?_;have:=g3b j hj;simp only [List.getD,aF hlt,Option.getD_some] at this;rw [zT,aN,aF hlt,Option.map_some,this]
    rw [vA hs2 (.inr ⟨_,ho2.quiet,hheap⟩)]; exact ho2.val
   ·rw [ho2.op] at g4; cases g4; exact g5
  ·rw [yf hs2]; exact ho2.looks
  ·rw [xk hs2,kK hs2]; exact ho2.quiet
  ·intro j hj;exact bB (ho2.lab j hj) hlen
  ·intro hl;rw [xy] at hl;rw [wx,ho2.slot hl,g3x];cases hd:o.dst with
   | none=>rfl
   | some d=>
    simp only;rw [aO (λh=>(g1 d hd).2 h.1.symm)];cases hx:f.x with
    | opt u want y=>
     simp only [qu];split
     ·rename_i hu;subst hu;exact absurd (ho2.Uu hx) (g1 _ hd).1
     ·rfl
    | _=>simp only [qu]
 ·intro f hf t want x hx;obtain⟨g1,g2⟩:=hb' f hf;rw [wx] at hx;cases hd:o.dst with
  | none=>rw [hd] at hx; exact I.Yf f hf t want x (xC hx)
  | some d=>
   rw [hd] at hx;simp only at hx;split at hx
   ·exact absurd (by simp [qe,hopt _ _ _ hx]) g2
   ·rcases xa d (zL r.kill (st.tmps.getD t .undef)) with ⟨h,_⟩ | h
    ·rw [h] at hx; exact I.Yf f hf t want x (xC hx)
    ·rw [h] at hx; cases hx
 ·intro k o2 hk ho2 j hj;rw [hset] at hk ⊢;split
  ·rfl
  ·split at hk
   ·rename_i hke;subst hke;rw [h1] at ho2; cases ho2;exact hall j hj
   ·exact I.cl k o2 hk ho2 j hj
theorem modB{D:List Nat}{o:Oper}{r:Res}{w':World}{Z':List SE}{a':Act}(hm:Mod O pin w0 I0 w' Z' (putX (mask D st) o.dst r) a'):Mod O pin w0 I0 w' Z' (mask D (putX st o.dst r)) a':=by
 refine hm.weaken ?_ (by rw [jC,xy,xy,jC]) λt=> ?_
 ·show(putX st o.dst r).heap=_;rw [kj,kj]; rfl
 ·rw [jr];by_cases h:t∈D
  ·rw [aP h]; exact .inr rfl
  ·rw [aO h,wx,wx,jC,jr,aO h]; exact .inl rfl
end
end Go.Sx
end
section
namespace Go.Sx
variable [Stat]
open Go.RowKit (Below)
section
variable {O:Nat->Prop} {pin:Nat} {w0:World} {I0:List SE} {P:Program} {Γ:Nat->Option Ctr}
variable {ops:Array Oper} {Qe:Exit->Act->World->Prop} {Xp:List PanicEntry->Prop}
def Fine(M:Option Nat)(P:Program)(Γ:Nat->Option Ctr)(O:Nat->Prop)(pin:Nat)(w0:World)(I0:List SE)(ops:Array Oper)(Qe:Exit->Act->World->Prop)(L:List Nat)(res:List Ent)(st:St):Prop:=
 ∀ (pend:List Ent) (listed:Array Bool) (fuel:Nat) (U:List Nat) (w:World) (σ:List SE) (a:Act),Inv P Γ ops L st pend listed->(∀ e∈pend,e∈res) ->
  (∀ k,k<ops.size->listed.getD k true=false->k∈U)->U.length<=fuel->Mod O pin w0 I0 w σ (mask (pend.map (·.d)) st) a->wpAnyIn (FM M) 0 P .any ops Qe fuel listed a w
theorem J6{α:Type}{Q:α->Prop} : ∀ {l:List (Tree α)},(zce l).holds Q->∀ t∈l,t.holds Q
 | [],_,t,ht=>by cases ht
 | [t],h,t',ht=>by simp only [List.mem_singleton] at ht; subst ht; exact h
 | t::t2::l,h,t',ht=>by
  simp only [zce,Tree.holds] at h;rcases aM.1 ht with rfl | ht
  ·exact(h.2 true trivial).1 rfl
  ·exact J6 ((h.2 false trivial).2 rfl) t' ht
theorem zhl{w:World}{σ:List SE}{st:St}{a:Act}(hm:Mod O pin w0 I0 w σ (mask [] st) a):Mod O pin w0 I0 w σ st a:=
 hm.weaken rfl (by rw [jC]) λt=>.inl (by rw [jr]; simp)
theorem WX{x y:AV}{p:Prop}(h:KH x y=some p)(hp:p):x=y:=by
 unfold KH at h;split at h
 ·cases h; rw [hp]
 ·split at h
  ·rename_i hk; cases h; rw [hk,hp]
  ·cases h
 ·cases h; rw [hp]
 ·split at h
  ·rename_i hk; rw [hk.1,hk.2]
  ·cases h
 ·split at h
  ·rename_i hk; cases h; rw [hk.1,hk.2.1,hk.2.2,hp]
  ·cases h
 ·split at h
  ·rename_i hk; rw [hk]
  ·cases h
 ·cases h; rw [hp]
 ·rfl
 ·rfl
 ·rfl
 ·cases h; rw [hp.1,hp.2.1,hp.2.2]
 ·split at h
  ·rename_i hk; cases h; rw [hk.1,hk.2,hp.1,hp.2]
  ·cases h
 ·cases h
theorem Ug:∀ {l m:List AV} {p:Prop},Ke l m=some p->p->l=m
 | [],[],_,_,_=>rfl
 | [],_::_,_,h,_=>by simp [Ke] at h
 | _::_,[],_,h,_=>by simp [Ke] at h
 | a::l,b::m,p,h,hp=>by
  simp only [Ke] at h;split at h
  ·rename_i p1 h1;split at h
   ·rename_i p2 h2;cases h;rw [WX h1 hp.1,Ug h2 hp.2]
   ·cases h
  ·cases h
theorem zf4{x y:AV}{p:Prop}(h:KE x y=some p)(hp:p):x=y:=by
 unfold KE at h;split at h
 ·rw [Ug h hp]
 ·exact WX h hp
theorem Qn{α:Type}{st:St}{Q:α->Prop}{t:Tree α} : ∀ {l:List Ent},(Qb P Γ ops st l t).holds Q->(∀ e∈l,∃ o2,ops[e.k]?=some o2/\(jz P Γ ops st o2).holds (λr'=>r'=⟨e.x,[],[]⟩))/\t.holds Q
 | [],h=>⟨by simp,h⟩
 | e::l,h=>by
  simp only [Qb] at h;split at h
  ·rename_i o ho;rw [Tree.zn] at h
   have key:∀ r:Res,(match r with
     | ⟨x,[],[]⟩=>match KE x e.x with
      | some p=>Tree.side p (Qb P Γ ops st l t)
      | none=>.fail
     | _=>.fail).holds Q->r=⟨e.x,[],[]⟩/\(Qb P Γ ops st l t).holds Q:=by
    intro r hr;split at hr
    ·rename_i x;split at hr
     ·rename_i p hp;obtain⟨h1,h2⟩:=hr;exact⟨by rw [zf4 hp h1],h2 h1⟩
     ·exact hr.elim
    ·exact hr.elim
   obtain⟨r,hr⟩:=Tree.kg h;obtain⟨h1,h2⟩:=Qn (key r hr).2;refine⟨λf hf=> ?_,h2⟩;rcases aM.1 hf with rfl | hf
   ·exact⟨o,ho,Tree.qf (λr hr=>(key r hr).1) h⟩
   ·exact h1 f hf
  ·exact h.elim
theorem zl9{st st':St}{dst:Option Nat}{r:Res}(h:st'.tmps.length=st.tmps.length):botR st' dst r=botR st dst r:=by unfold botR; rw [h]
theorem JB{M:Option Nat}(hΓ:∀ g c,Γ g=some c->zy Xp P g c)(hP:∀ ch a w',Xp ch->Dead I0 w0 w' a.defers->Qe (.panic ch) a w'){L:List Nat}{res:List Ent}{st:St}
  (h:(xu ops L=[]/\∀ w σ a,Mod O pin w0 I0 w σ st a->Qe .normal a w) \/
   xu ops L≠[]/\∀ i∈xu ops L,∃ o,ops[i]?=some o/\(∀ f∈res,vj (w9 ops o) o.dst (qe ops st.tmps o) false f=true) /\
    (jz P Γ ops st o).holds λr=>botR st o.dst r=true\/((∀ f∈res,effK (w9 ops o) st r f=true)/\∀ f∈res,effE (w9 ops o) st r f=true\/∃ o2,ops[f.k]?=some o2/\(jz P Γ ops (putX st o.dst r) o2).holds (λr'=>r'=⟨f.x,[],[]⟩))/\(∀ j∈r.kill,pin<=j)/\Fine M P Γ O pin w0 I0 ops Qe (i::L) res (putX st o.dst r)) :
  ∀ m,∀ (pend:List Ent) (listed:Array Bool) (fuel:Nat) (U:List Nat) (w:World) (σ:List SE) (a:Act),pend.length<=m->Inv P Γ ops L st pend listed->(∀ e∈pend,e∈res) ->
  (∀ k,k<ops.size->listed.getD k true=false->k∈U)->U.length<=fuel->Mod O pin w0 I0 w σ (mask (pend.map (·.d)) st) a->wpAnyIn (FM M) 0 P .any ops Qe fuel listed a w:=by
 intro m
 induction m using Nat.strongRecOn with
 | _ m ih=>
  intro pend listed fuel U w σ a hlen I hsub hU hfuel hm
  have hnone:Region.ready .any ops listed=[]->Qe .normal a w:=by
   intro hnil
   have hp:pend=[]:=by
    rcases Classical.em (pend=[]) with h | h
    ·exact h
    ·obtain⟨e,_,he⟩:=I.first h;rw [hnil] at he; cases he
   subst hp;rcases h with ⟨h1,h2⟩ | ⟨h1,h2⟩
   ·exact h2 w σ a (zhl hm)
   ·exfalso;obtain⟨i,hi⟩:=List.exists_mem_of_ne_nil _ h1;obtain⟨g1,o2,g2,g3⟩:=ui.1 hi;have hlt:=(aQ.1 g2).1;have:i∈Region.ready .any ops listed:=wN.2 ⟨(I.lis i hlt).2 (.inl g1),o2,g2,λk hk=>(I.T k).2 ⟨g3 k hk,by simp⟩⟩;rw [hnil] at this; cases this
  have hinU:∀ k∈Region.ready .any ops listed,k∈U:=by
   intro k hk;obtain⟨g1,o,g2,_⟩:=wN.1 hk;exact hU k (aQ.1 g2).1 g1
  cases fuel with
  | zero=>
   have hnil:Region.ready .any ops listed=[]:=by
    rw [List.eq_nil_iff_forall_not_mem];intro k hk;have:=hinU k hk;rw [aU.1 (Nat.le_zero.1 hfuel)] at this;cases this
   exact⟨hnil,hnone hnil⟩
  | succ fuel=>
   refine⟨hnone,λk hk=> ?_⟩;obtain⟨hun,ok,hok,hall⟩:=wN.1 hk;have hkU:=hinU k hk
   have hUe:∀ j,j<ops.size->(listed.setIfInBounds k true).getD j true=false->j∈U.erase k:=by
    intro j hj hl;rw [yZ hun] at hl;split at hl
    ·cases hl
    ·rename_i hne;exact(List.mem_erase_of_ne hne).2 (hU j hj hl)
   have hUl:(U.erase k).length<=fuel:=by
    rw [List.length_erase_of_mem hkU]; omega
   by_cases hp:∃ e∈pend,e.k=k
   ·obtain⟨e,he,rfl⟩:=hp;obtain⟨o,ho⟩:=I.good e he;have hoo:o=ok:=by rw [ho.op] at hok; exact Option.some.inj hok
    subst hoo;have hcl:=I.clear he hk
    have hcore:∀ t∈jm ops st.tmps o,(mask (pend.map (·.d)) st).tmps.getD t .undef=st.tmps.getD t .undef:=by
     intro t ht;rw [jr,aO];intro hd;obtain⟨f,hf,hft⟩:=List.mem_map.1 hd;have htl:t∈e.looks:=by rw [<- ho.looks]; simp [qe,ht]
     by_cases hfe:f.k=e.k
     ·have:=I.uniq f hf e he hfe;subst this;exact ho.self (hft▸htl)
     ·exact(hcl f hf hfe).1 (hft▸htl)
    have hq:(jz P Γ ops (mask (pend.map (·.d)) st) o).holds (λr=>r=⟨e.x,[],[]⟩):=by
     rw [vA hcore (.inl rfl)]; exact ho.val
    have:=yj (M:=M) hΓ hm (Qe:=Qe) (K:=wpAnyIn (FM M) 0 P .any ops Qe fuel (listed.setIfInBounds e.k true)) hq (λr w' Z' v hr hM=>by
     subst hr;have hM:=hM (by simp);rw [ho.dst] at hM ⊢;refine ih (pend.filter λf=>f.k != e.k).length ?_ _ _ fuel (U.erase e.k) w' Z' _ (aJ _) (I.ztu he hk) (λf hf=>hsub f (List.mem_filter.1 hf).1) hUe hUl (modA I he hk hM);refine bB ?_ hlen;exact List.length_filter_lt_length_iff_exists.2 ⟨e,he,by simp⟩) hP
    unfold wpOpIn;rw [ho.op];simp only;split
    ·rename_i hw; rw [aP hw] at this; exact this
    ·rename_i hw; rw [aO hw] at this; exact this
   ·have hkL:k∉L:=by
     have hlt:=(aQ.1 hok).1;rcases(I.lis k hlt).1 hun with h1 | h1
     ·exact h1
     ·exact absurd h1 hp
    have hkr:k∈xu ops L:=ui.2 ⟨hkL,ok,hok,λj hj=>((I.T j).1 (hall j hj)).1⟩;rcases h with ⟨h1,h2⟩ | ⟨h1,hall2⟩
    ·rw [h1] at hkr; cases hkr
    ·obtain⟨o,h2,h3,h4⟩:=hall2 k hkr;have hoo:o=ok:=by rw [h2] at hok; exact Option.some.inj hok
     subst hoo;have hb:∀ f∈pend,vj (w9 ops o) o.dst (qe ops st.tmps o) false f=true:=λf hf=>h3 f (hsub f hf)
     have hcore:∀ t∈jm ops st.tmps o,(mask (pend.map (·.d)) st).tmps.getD t .undef=st.tmps.getD t .undef:=by
      intro t ht;rw [jr,aO];intro hd;obtain⟨f,hf,hft⟩:=List.mem_map.1 hd
      have hanc:f.k∉w9 ops o:=λh'=>by
       have:=Xu (T:=λk=>listed.getD k false=true) I.cl hall f.k h';exact((I.T f.k).1 this).2 ⟨f,hf,rfl⟩
      have:=hb f hf;simp only [vj,bZ,hanc,decide_false,Bool.false_and,Bool.false_or,bA,Bool.not_eq_true',aV] at this;exact this.2 (by rw [hft]; simp [qe,ht])
     have hq:=VL h4;rw [<- vA (P:=P) (Γ:=Γ) hcore (.inl rfl)] at hq
     have:=yj (M:=M) hΓ hm (Qe:=Qe) (K:=wpAnyIn (FM M) 0 P .any ops Qe fuel (listed.setIfInBounds k true)) hq (λr w' Z' v hr hM=>by
      obtain⟨hr0,g4⟩:=hr;rcases hr0 with hb0 | ⟨g1,g2,g3⟩
      ·exact(WZ ((zl9 (jC _ st)).trans hb0) hM).elim
      have hM:=hM g2;exact g3 pend _ fuel (U.erase k) w' Z' _ (I.zua h2 hkL hk hb (λf hf=>g1.1 f (hsub f hf)) (λf hf=>g1.2 f (hsub f hf)) g4) hsub hUe hUl (modB hM)) hP
     unfold wpOpIn;rw [h2];simp only;split
     ·rename_i hw; rw [aP hw] at this; exact this
     ·rename_i hw; rw [aO hw] at this; exact this
theorem Wp{M:Option Nat}(hΓ:∀ g c,Γ g=some c->zy Xp P g c)(hP:∀ ch a w',Xp ch->Dead I0 w0 w' a.defers->Qe (.panic ch) a w'){Q:St->Prop}(hQe:∀ st' w' Z' a',Q st'->Mod O pin w0 I0 w' Z' st' a'->Qe .normal a' w') :
  ∀ (n:Nat) (L:List Nat) (res:List Ent) (st:St),(anyX P Γ pin ops n L res st).holds Q->Fine M P Γ O pin w0 I0 ops Qe L res st
 | 0,L,res,st,hq=>by simp only [anyX] at hq; exact hq.elim
 | n+1,L,res,st,hq=>by
  simp only [anyX] at hq;split at hq
  ·rename_i hnil;intro pend listed fuel U w σ a I hs hU hf hm;exact JB hΓ hP (.inl ⟨hnil,λw σ a hm=>hQe _ _ _ _ hq hm⟩) pend.length pend listed fuel U w σ a (aJ _) I hs hU hf hm
  ·rename_i i0 rs hrs;split at hq
   ·
    rename_i e hfind;split at hq
    ·rename_i o ho;split at hq
     ·rename_i hcond;simp only [bA,bG] at hcond;obtain⟨hbes,hmem⟩:=hcond;obtain⟨j,hj,hent0⟩:=List.exists_of_findSome?_eq_some hfind
      have hent:zjs P Γ ops st j=some e:=by
       unfold zqz at hent0;split at hent0
       ·split at hent0
        ·split at hent0
         ·cases hent0; assumption
         ·cases hent0
        ·cases hent0
       ·cases hent0
      unfold zjs at hent;split at hent
      ·rename_i o2 ho2;split at hent
       ·rename_i d ls hd hls;split at hent
        ·cases hent
        ·rename_i hcon;split at hent
         ·rename_i ps x hch;cases hent;simp only at ho hq hbes hmem;have hoo:o2=o:=by rw [ho2] at ho; exact Option.some.inj ho
          subst hoo;rw [Tree.zn] at hq;obtain⟨hq1,hq2⟩:=J4 hch hq;have hF:=Wp (M:=M) hΓ hP hQe n _ _ _ hq1;simp only [Bool.or_eq_true,bZ,aK,Bool.not_eq_true',List.all_eq_false,not_or,not_exists,not_and,Bool.not_eq_false] at hcon;intro pend listed fuel U w σ a I hs hU hf hm;have hrd:j∈xu ops L:=by rw [hrs]; simpa using hmem
          rw [hd] at hF;refine hF (_::pend) listed fuel U w σ a (I.ahead (e:=⟨j,d,qe ops st.tmps o2,ls,x⟩) ho2 hd hq2 rfl hcon.1 hls (λi hi=>by simpa using hcon.2 i hi) hrd ?_) ?_ hU hf (modC (e:=⟨j,d,qe ops st.tmps o2,ls,x⟩) hm)
          ·intro f hf';have:=hbes f (hs f hf');rw [hd] at this;exact this
          ·intro f hf';rcases aM.1 hf' with rfl | hf'
           ·simp
           ·simp [hs f hf']
         ·cases hent
       ·cases hent
      ·cases hent
     ·exact hq.elim
    ·exact hq.elim
   ·intro pend listed fuel U w σ a I hs hU hf hm;refine JB hΓ hP (.inr ⟨by rw [hrs]; simp,λi hi=> ?_⟩) pend.length pend listed fuel U w σ a (aJ _) I hs hU hf hm;rw [hrs] at hi;have hq:=J6 hq _ (List.mem_map_of_mem hi);split at hq
    ·rename_i o ho;split at hq
     ·rename_i hbes;rw [bG] at hbes;rw [Tree.zn] at hq;refine⟨o,ho,hbes,Tree.qf ?_ hq⟩;intro r hr;cases hb0:botR st o.dst r with
      | true=>exact .inl rfl
      | false=>
      rw [hb0] at hr;right;simp only [cond_false] at hr;split at hr
      ·rename_i he;rw [bG] at he;obtain⟨h1,h2⟩:=Kd hr;obtain⟨h3,h4⟩:=Qn h2;refine⟨⟨he,λf hf=> ?_⟩,h1,Wp (M:=M) hΓ hP hQe n _ _ _ h4⟩;cases hE:effE (w9 ops o) st r f with
       | true=>exact .inl rfl
       | false=>exact .inr (h3 f (List.mem_filter.2 ⟨hf,by rw [hE]; rfl⟩))
      ·exact hr.elim
     ·exact hq.elim
    ·exact hq.elim
theorem zed{M:Option Nat}(hmix:P.follows .mixedOrders=true)(hΓ:∀ g c,Γ g=some c->zy Xp P g c){Q:St->Prop}{w:World}{σ:List SE}{st:St}{a:Act}{n id:Nat}(hq:(anyX P Γ pin ops n [] [] st).holds Q)(hm:Mod O pin w0 I0 w σ st a)
  (hQe:∀ st' w' Z' a',Q st'->Mod O pin w0 I0 w' Z' st' a'->Qe .normal a' w') (hP:∀ ch a w',Xp ch->Dead I0 w0 w' a.defers->Qe (.panic ch) a w'):(Code.region id ops true).wpIn (FM M) 0 P Qe a w:=by
 refine wpIn_region_any hmix ?_;have hF:=Wp (M:=M) hΓ hP hQe n [] [] st hq
 have hget:∀ k,(Array.replicate ops.size false).getD k true=decide (¬ k<ops.size)/\(Array.replicate ops.size false).getD k false=false:=by
  intro k;by_cases hk:k<ops.size<;>simp [hk]
 refine hF [] _ ops.size (List.range ops.size) _ σ a ⟨λk hk=>by simp [hk],λk hk=>by simp [hk],λk hk=>by simp [hk],trivial,by simp,by simp,by simp,by simp,by simp,by simp,λk o hk=> ?_⟩ (by simp) (λk hk _=>by simpa using hk) (by simp) ?_
 ·rw [(hget k).2] at hk; cases hk
 ·have hx:Ext (Own O σ) w (Own O σ) { w with drawn:=w.drawn+1 } :=⟨rfl,rfl,rfl,aJ _,λ_ _ _=>rfl,λ_ h=>.inl h⟩;have hh:Hold [] w σ { w with drawn:=w.drawn+1 } σ:=λ_ _ h _=>⟨h,λ_ _ cs el h=>⟨cs,el,h,rfl⟩⟩
  have hm2:Mod O pin w0 I0 { w with drawn:=w.drawn+1 } σ st a:=by
   refine⟨⟨hm.good.old,hm.good.dis,hm.good.stat.ext hx⟩,⟨hm.hp.len,hm.hp.inj,hm.hp.lt,λi e b he hb=> ?_⟩,hm.size,λt=> ?_,hm.df.ext hx,hm.since.trans ⟨hx,λ_ _ _=>rfl,ka.of hh (by simp)⟩,hm.lim⟩
   ·have:=js hx hh (hm.hp.blk i e b he hb) (λ_ _=>rfl)
    rwa [j1] at this
   ·exact Vh (K:=[]) hx hh (hm.tm t) (λ_ _ _ _=>rfl)
  exact hm2.weaken rfl (by rw [List.map_nil,jC]) λt=>.inl (by rw [jr]; simp)
end
end Go.Sx
end
section
namespace Go.Sx
variable [Stat]
open Go.RowKit (Below)
section
variable {O:Nat->Prop} {pin:Nat} {w0:World} {I0:List SE} {w:World} {σ:List SE} {P:Program} {st:St} {a:Act} {Γ:Nat->Option Ctr} {Xp:List PanicEntry->Prop}
theorem Kf{M:Option Nat}(hΓ:∀ g c,Γ g=some c->zy Xp P g c){ops:Array Oper}{Q:St->Prop}{Qe:Exit->Act->World->Prop}(hK:∀ st' w' Z' a',Q st'->Mod O pin w0 I0 w' Z' st' a'->Qe .normal a' w')(hP:∀ ch a w',Xp ch->Dead I0 w0 w' a.defers->Qe (.panic ch) a w') :
  ∀ (l:List Oper) {st:St} {w:World} {σ:List SE} {a:Act},Mod O pin w0 I0 w σ st a->(opsX P Γ pin ops l st).holds Q->wpListIn (FM M) 0 P ops Qe l a w
 | [],st,w,σ,a,hm,hq=>hK st w σ a hq hm
 | o::l,st,w,σ,a,hm,hq=>by
  simp only [opsX,Tree.zn] at hq
  exact wpListIn_step λK hKK=>Ux hΓ hm hq (λst' w' Z' a' hq' hm'=>by
   cases hg:Q1 st' with
   | true=>exact(yW hg hm').elim
   | false=>rw [hg] at hq'; exact hKK _ _ (Kf hΓ hK hP l hm' hq')) (λch a w' h1 h2=>hP ch a w' h1 h2)
theorem JP(hm:Mod O pin w0 I0 w σ st a):Mod O pin w0 I0 w σ (uF st) a:=by
 refine⟨hm.good,hm.hp,by simp [uF,hm.size],λt=> ?_,hm.df,hm.since,hm.lim⟩;have h:=hm.tm t;have:(uF st).tmps.getD t .undef=(fun | .opt _ _ _=>.undef | x=>x) (st.tmps.getD t .undef):=getD_map rfl _ _;rw [this];generalize st.tmps.getD t .undef=x at h;cases x<;>simp only [TRep] at h ⊢ <;> first | exact h | simp [Rep]
def wpK(M:Option Nat)(P:Program)(H:Nat->Act->World->Prop)(B:Exit->Act->World->Prop):List Item->Exit->Act->World->Prop
 | [],e,a,w=>B e a w
 | .code c::k,.normal,a,w=>c.wpIn (FM M) 0 P (wpK M P H B k) a w
 | .code _::k,e,a,w=>wpK M P H B k e a w
 | .inBlock _::k,.normal,a,w=>wpK M P H B k .normal a w
 | .inBlock id::k,.exit i,a,w=>if i=id then wpK M P H B k .normal a w else wpK M P H B k (.exit i) a w
 | .inBlock _::k,e,a,w=>wpK M P H B k e a w
 | .inLoop::k,.normal,a,w=>H (qM k) a w
 | .inLoop::k,e,a,w=>wpK M P H B k e a w
section
variable {H:Nat->Act->World->Prop} {B:Exit->Act->World->Prop}
theorem kH{M:Option Nat} : ∀ {k:List Item} {a:Act} {w:World},B .ret a w->wpK M P H B k .ret a w
 | [],_,_,h=>h
 | .code _::k,_,_,h=>kH (k:=k) h
 | .inBlock _::k,_,_,h=>kH (k:=k) h
 | .inLoop::k,_,_,h=>kH (k:=k) h
theorem xb{M:Option Nat}{ch:List PanicEntry} : ∀ {k:List Item} {a:Act} {w:World},B (.panic ch) a w->wpK M P H B k (.panic ch) a w
 | [],_,_,h=>h
 | .code _::k,_,_,h=>xb (k:=k) h
 | .inBlock _::k,_,_,h=>xb (k:=k) h
 | .inLoop::k,_,_,h=>xb (k:=k) h
theorem xc{M:Option Nat}{id:Nat} : ∀ {k k':List Item} {a:Act} {w:World},exitTo id k=some k'->wpK M P H B k' .normal a w->wpK M P H B k (.exit id) a w
 | [],_,_,_,h,_=>by simp [exitTo] at h
 | .code _::k,_,_,_,h,hk=>xc (k:=k) (by simpa [exitTo] using h) hk
 | .inLoop::k,_,_,_,h,hk=>xc (k:=k) (by simpa [exitTo] using h) hk
 | .inBlock i::k,_,_,_,h,hk=>by
  simp only [exitTo] at h;simp only [wpK];split at h
  ·rename_i hi;cases h;rw [aP hi.symm]; exact hk
  ·rename_i hi;rw [aO (λe=>hi e.symm)];exact xc h hk
def ZU(M:Option Nat)(P:Program)(H:Nat->Act->World->Prop)(B:Exit->Act->World->Prop)(O:Nat->Prop)(pin:Nat)(w0:World)(I0:List SE):Leaf->Prop
 | .ret st=>∀ w σ a,Mod O pin w0 I0 w σ st a->B .ret a w/\B .normal a w
 | .back d st=>∀ w σ a,Mod O pin w0 I0 w σ st a->H d a w
 | .loop c k st=>∀ w σ a,Mod O pin w0 I0 w σ st a->(Code.loop c).wpIn (FM M) 0 P (wpK M P H B k) a w
 | .range c k st=>∀ w σ a,Mod O pin w0 I0 w σ st a->c.wpIn (FM M) 0 P (wpK M P H B k) a w
 | .gone=>True
theorem je{M:Option Nat}(hmix:P.follows .mixedOrders=true)(hΓ:∀ g c,Γ g=some c->zy Xp P g c)(hB:∀ ch a w',Xp ch->Dead I0 w0 w' a.defers->B (.panic ch) a w'):∀ (n:Nat) {k:List Item} {st:St} {w:World} {σ:List SE} {a:Act},(run P Γ pin n k st).holds (ZU M P H B O pin w0 I0)->Mod O pin w0 I0 w σ st a->wpK M P H B k .normal a w
 | 0,k,st,w,σ,a,hq,hm=>by simp only [run] at hq; exact hq.elim
 | n+1,[],st,w,σ,a,hq,hm=>by
  simp only [run,Tree.holds,ZU] at hq;exact(hq w σ a hm).2
 | n+1,.inBlock id::k,st,w,σ,a,hq,hm=>by
  simp only [run] at hq;have:=je hmix hΓ hB n hq hm;simpa only [wpK] using this
 | n+1,.inLoop::k,st,w,σ,a,hq,hm=>by
  simp only [run,Tree.holds,ZU] at hq;exact hq w σ a hm
 | n+1,.code c::k,st,w,σ,a,hq,hm=>by
  simp only [wpK];cases c with
  | skip=>
   simp only [run] at hq;exact wpIn_skip (je hmix hΓ hB n hq hm)
  | seq x y=>
   simp only [run] at hq;have:=je hmix hΓ hB n hq hm;simp only [wpK] at this;refine wpIn_seq (wpIn_mono this λe a w h=> ?_);cases e<;>exact h
  | region id ops draw=>
   cases draw with
   | true=>
    simp only [run,Tree.zn,force_eq] at hq
    exact zed hmix hΓ hq hm (λst' w' Z' a' hq' hm'=>by
     cases hg:Q1 st' with
     | true=>exact(yW hg hm').elim
     | false=>rw [hg] at hq'; exact je hmix hΓ hB n hq' (JP hm')) λch a w' h1 h2=>xb (hB ch a w' h1 h2)
   | false=>
    simp only [run,Tree.zn,force_eq] at hq
    exact wpIn_region_list (Kf hΓ (λst' w' Z' a' hq' hm'=>by
     cases hg:Q1 st' with
     | true=>exact(yW hg hm').elim
     | false=>rw [hg] at hq'; exact je hmix hΓ hB n hq' (JP hm')) (λch a w' h1 h2=>xb (hB ch a w' h1 h2)) _ hm hq)
  | cond c x y=>
   cases c with
   | tmp t=>
    simp only [run] at hq;have ht:=hm.tm t;generalize st.tmps.getD t .undef=v at ht hq;cases v with
    | bool b=>
     simp only [TRep,Rep] at ht;simp only [Tree.holds] at hq;refine wpIn_cond (t:=b) ht ?_;cases b with
     | true=>
      have:=je hmix hΓ hB n (hq.1 rfl) hm;simpa only [wpK,if_true] using this
     | false=>
      have:=je hmix hΓ hB n (hq.2 rfl) hm;simpa only [wpK,Bool.false_eq_true,if_false] using this
    | _=>exact hq.elim
   | _=>simp only [run] at hq; exact hq.elim
  | block id c=>
   simp only [run] at hq;have:=je hmix hΓ hB n hq hm;simp only [wpK] at this;refine wpIn_block (wpIn_mono this λe a w h=> ?_);cases e<;>exact h
  | loop c=>
   simp only [run,Tree.holds,ZU] at hq;exact hq w σ a hm
  | rangeFunc g ps x y=>
   simp only [run,Tree.holds,ZU] at hq;exact hq w σ a hm
  | exit id=>
   simp only [run] at hq;split at hq
   ·rename_i k' hk;exact wpIn_exit (xc hk (je hmix hΓ hB n hq hm))
   ·exact hq.elim
  | ret=>
   simp only [run,Tree.holds,ZU] at hq;exact wpIn_ret (kH (hq w σ a hm).1)
  | _=>simp only [run] at hq; exact hq.elim
end
end
end Go.Sx
end
section
namespace Go.Sx
variable [Stat]
open Go.RowKit (Below)
structure wi(w w':World):Prop where
 cells:∀ (b:Nat) (cs:Array Value) (el:TypeId) (fr:Nat×Nat),w.heap[b]?=some (Obj.cells cs el fr)->w'.heap[b]?=some (Obj.cells cs el fr)
 maps:∀ (b:Nat) (es:Array MapEntry) (clock:Nat),(∃ g,Us w b g)->w.heap[b]?=some (.map es clock)->w'.heap[b]?=some (.map es clock)
theorem wi.cell{w w':World}(h:wi w w'){a:Addr}{c:Value}(hc:w.cell? a=some c):w'.cell? a=some c:=by
 unfold World.cell? at hc ⊢;cases hb:w.heap[a.block]? with
 | none=>simp [hb] at hc
 | some o=>
  rw [hb] at hc;cases o with
  | cells cs el fr=>rw [h.cells _ _ _ _ hb]; exact hc
  | _=>simp at hc
mutual
theorem qC{own:Nat->Prop}{w w':World}(hx:wi w w')(σ:List SE):∀ (a:AV) (v:Value),Rep own w a σ v->Rep own w' a σ v
 | .undef,_,_=>by simp [Rep]
 | .bool b,v,h=>by simpa [Rep] using h
 | .int k n,v,h=>by simpa [Rep] using h
 | .str s,v,h=>by simpa [Rep] using h
 | .nils,v,h=>by simpa [Rep] using h
 | .sl n sz get,v,h=>by
  simp only [Rep] at h ⊢;obtain⟨a,cap,hv,hle,hr⟩:=h;refine⟨a,cap,hv,hle,?_⟩;rcases hr with hr | ⟨ad,ha,hs,hr⟩
  ·exact .inl hr
  ·refine .inr ⟨ad,ha,hs,λj o hj ho=> ?_⟩;obtain⟨hn,c,hc,h1,hR⟩:=hr j o hj ho;exact⟨hn,c,hx.cell hc,h1,qC hx [] (get j o) c hR⟩
 | .osl i sz off n,v,h=>by
  simp only [Rep] at h ⊢;obtain⟨e,he,hl,a,cap,hv,hc,hr⟩:=h;refine⟨e,he,hl,a,cap,hv,hc,?_⟩;rcases hr with hr | ⟨ad,ha,hb,cs,el,hcs,hsz⟩
  ·exact .inl hr
  ·exact .inr ⟨ad,ha,hb,cs,el,hx.cells _ _ _ _ hcs,hsz⟩
 | .ptr i off,v,h=>by simpa only [Rep] using h
 | .nilp,v,h=>by simpa [Rep] using h
 | .eptr i sz idx off,v,h=>by simpa only [Rep] using h
 | .omap i,v,h=>by simpa only [Rep] using h
 | .iptr m get,v,h=>by
  simp only [Rep] at h ⊢;obtain⟨ad,hv,hs,hr⟩:=h;refine⟨ad,hv,hs,λo ho=> ?_⟩;obtain⟨hn,c,hc,hR⟩:=hr o ho;exact⟨hn,c,hx.cell hc,qC hx [] (get o) c hR⟩
 | .gptr g,v,h=>by simpa [Rep] using h
 | .agg cs,v,h=>by
  simp only [Rep] at h ⊢;obtain⟨vs,hv,hr⟩:=h;exact⟨vs,hv,wZ hx σ cs vs hr⟩
 | .tup cs,v,h=>by
  simp only [Rep] at h ⊢;obtain⟨vs,hv,hr⟩:=h;exact⟨vs,hv,wZ hx σ cs vs hr⟩
 | .fn f a b,v,h=>by
  simp only [Rep] at h ⊢;obtain⟨va,vb,hv,hr,hr2⟩:=h;exact⟨va,vb,hv,wZ hx σ a va hr,wZ hx σ b vb hr2⟩
 | .nilf,v,h=>by simpa [Rep] using h
 | .bot,v,h=>by simp [Rep] at h
 | .opt _ _ _,_,_=>by simp [Rep]
 | .mp k ag sz ks has get,v,h=>by
  simp only [Rep] at h ⊢;obtain⟨b,es,clock,hv,hn,hlim,hb,hg⟩:=h
  refine⟨b,es,clock,hv,hn,(by
   obtain⟨g,h1,h2,h3⟩:=hlim;exact⟨g,h1,h2,hx.cell h3⟩),hx.maps b es clock (hlim.imp λg h=>h.2) hb,λn=>⟨(hg n).1,λh1=> ?_⟩⟩
  obtain⟨i,x,h2,h3⟩:=(hg n).2 h1;refine⟨i,x,h2,?_⟩;cases ag with
  | true=>
   obtain⟨vs,e1,e2,e3⟩:=h3
   exact⟨vs,e1,e2,λo ho=>by
    obtain⟨c,g1,g2⟩:=e3 o ho;exact⟨c,g1,qC hx [] (get n o) c g2⟩⟩
  | false=>exact qC hx [] (get n 0) x h3
theorem wZ{own:Nat->Prop}{w w':World}(hx:wi w w')(σ:List SE):∀ (l:List AV) (vs:List Value),RepL own w l σ vs->RepL own w' l σ vs
 | [],vs,h=>by simpa [RepL] using h
 | a::l,vs,h=>by
  simp only [RepL] at h ⊢;obtain⟨v,r,hv,h1,h2⟩:=h;exact⟨v,r,hv,qC hx σ a v h1,wZ hx σ l r h2⟩
end
def ZB:Blk->Bool
 | .map _ _ _ _ _=>true
 | _=>false
theorem U5{own:Nat->Prop}{w w':World}(hx:wi w w'){σ:List SE}{e:SE}{b:Blk}(hmp:ZB b=true->∀ (b:Nat) (es:Array MapEntry) (clock:Nat),w.heap[b]?=some (.map es clock)->w'.heap[b]?=some (.map es clock))(h:BRep own w σ e b):BRep own w' σ e b:=by
 cases b with
 | dead=>trivial
 | box cells=>
  obtain⟨ad,vs,el,h1,h2,h3,h4⟩:=h;exact⟨ad,vs,el,h1,h2,hx.cells _ _ _ _ h3,wZ hx σ _ _ h4⟩
 | map ag sh has get pe=>
  obtain⟨ad,es,clock,l,h1,h2,h3,h4,h5,h6⟩:=h;refine⟨ad,es,clock,l,h1,hmp rfl _ _ _ h2,h3,h4,h5,?_⟩;rw [QY] at h6 ⊢
  exact⟨h6.1,λi e x g1 g2=>by
   obtain⟨a1,a2,a3⟩:=h6.2 i e x g1 g2;exact⟨a1,qC hx [] _ _ a2,qC hx [] _ _ a3⟩⟩
 | arr n sz g=>
  obtain⟨h1,h2⟩:=h;refine⟨h1,?_⟩;rcases h2 with h2 | ⟨ad,cs,el,h3,h4,h5,h6⟩
  ·exact .inl h2
  ·refine .inr ⟨ad,cs,el,h3,hx.cells _ _ _ _ h4,h5,λj o hj ho=> ?_⟩;obtain⟨c,h7,h8,h9⟩:=h6 j o hj ho;exact⟨c,h7,h8,qC hx [] _ _ h9⟩
 | arrI _ n _=>
  obtain⟨h1,h2⟩:=h;refine⟨h1,?_⟩;rcases h2 with h2 | ⟨ad,cs,el,h3,h4,h5,h6⟩
  ·exact .inl h2
  ·refine .inr ⟨ad,cs,el,h3,hx.cells _ _ _ _ h4,h5,λj o hj ho=> ?_⟩;obtain⟨c,h7,h8,h9⟩:=h6 j o hj ho;exact⟨c,h7,h8,qC hx [] _ _ h9⟩
 | arrS n _=>
  obtain⟨h1,h2⟩:=h;refine⟨h1,?_⟩;rcases h2 with h2 | ⟨ad,cs,el,h3,h4,h5,h6⟩
  ·exact .inl h2
  ·refine .inr ⟨ad,cs,el,h3,hx.cells _ _ _ _ h4,h5,λj o hj ho=> ?_⟩;obtain⟨c,h7,h8,h9⟩:=h6 j o hj ho;exact⟨c,h7,h8,qC hx [] _ _ h9⟩
theorem zao{own:Nat->Prop}{w w':World}(hx:wi w w')(hs:w.heap.size<=w'.heap.size){σ:List SE}{h:Heap}(hmp:(∀ b∈h,ZB b=false)\/∀ (b:Nat) (es:Array MapEntry) (clock:Nat),w.heap[b]?=some (.map es clock)->w'.heap[b]?=some (.map es clock))(hh:HRep own w σ h):HRep own w' σ h:=
 ⟨hh.len,hh.inj,λi e a h1 h2=>bB (hh.lt i e a h1 h2) hs,λi e b h1 h2=>U5 hx (λhm=>hmp.elim (λq=>by rw [q b (aY h2)] at hm; cases hm) id) (hh.blk i e b h1 h2)⟩
theorem uX{w w':World}{row:Option Nat}(hg:w.grownBy w' row)(hr:∀ r,row=some r->(∀ g,¬ Us w r g)/\∃ o:Obj,w.heap[r]?=some o/\o.isCells=false):wi w w':=by
 refine⟨λb cs el fr hb=> ?_,λb es clock hl hb=> ?_⟩
 rotate_left
 ·rw [hg.block b (aQ.1 hb).1 λe=>by obtain⟨g,h⟩:=hl; exact(hr b e.symm).1 g h];exact hb
 have hlt:=(aQ.1 hb).1;rw [hg.block b hlt ?_]
 ·exact hb
 ·intro e;obtain⟨_,o,h1,h2⟩:=hr b e.symm;rw [hb] at h1;cases h1;simp [Obj.isCells] at h2
theorem Uq{w w':World}{row:Option Nat}(hg:w.grownBy w' row)(hr:∀ r,row=some r->∃ o:Obj,w.heap[r]?=some o/\o.isCells=false){a:Addr}{c:Value}(hc:w.cell? a=some c):w'.cell? a=some c:=by
 unfold World.cell? at hc ⊢;cases hb:w.heap[a.block]? with
 | none=>simp [hb] at hc
 | some o=>
  rw [hb] at hc;have hlt:=(aQ.1 hb).1
  rw [hg.block a.block hlt λe=>by
   obtain⟨o',h1,h2⟩:=hr _ e.symm;rw [hb] at h1;cases h1;cases o with
   | cells _ _ _=>simp [Obj.isCells] at h2
   | _=>simp at hc,hb]
  exact hc
section
variable {O:Nat->Prop} {pin:Nat} {w0:World} {I0:List SE} {w w':World} {σ:List SE} {P:Program} {st:St} {a:Act}
theorem Mod.turn(hm:Mod O pin w0 I0 w σ st a){row:Option Nat}(hg:w.grownBy w' row)(hr:∀ r,row=some r->w0.heap.size<=r/\∃ o:Obj,w.heap[r]?=some o/\o.isCells=false)(hmp:(∀ b∈st.heap,ZB b=false)\/∀ r,row=some r->∀ es clock,w.heap[r]?≠some (.map es clock)){ds:List Deferred}(hds:Marks w0 (Own O σ) w' ds):Mod O pin w0 I0 w' σ st { a with defers:=ds } :=by
 have hx:=uX hg λr h=>⟨λg hg=>by
  obtain⟨h1,h2⟩:=hg;obtain⟨a,ha⟩:=Option.isSome_iff_exists.1 h1;obtain⟨h3,c,h4,_,h5⟩:=hm.lim.at_ g a ha;have h6:=hm.since.ext.cell (a:=⟨g,0,none⟩) h3 h4;rw [h2] at h6;have:=h5 r (by cases h6; rfl);have:=(hr r h).1;omega,(hr r h).2⟩
 have hlow:∀ b,b<w0.heap.size->w'.heap[b]?=w.heap[b]?:=by
  intro b hb;refine hg.block b (bB hb hm.since.ext.size) λe=> ?_
  have:=(hr b e.symm).1;omega
 refine⟨⟨λb hb=>bB (hm.good.old b hb) hg.size,hm.good.dis,⟨λg a hz=>by
  obtain⟨h1,c,h2,h3,h4⟩:=hm.good.stat.at_ g a hz;exact⟨h1,c,hx.cell h2,qC hx [] a _ h3,λb hb=>bB (h4 b hb) hg.size⟩⟩⟩,zao hx hg.size (hmp.imp id λq b es clock hb=>by rw [hg.block b (aQ.1 hb).1 λe=>q b e.symm es clock hb]; exact hb) hm.hp,hm.size,λt=> ?_,hds,?_,hm.lim⟩
 ·have ht:=hm.tm t;show TRep (Own O σ) w' σ a.tmps (st.tmps.getD t .undef) (a.tmps.getD t undef);generalize st.tmps.getD t .undef=x at ht;cases x with
  | opt u want y=>
   simp only [TRep] at ht ⊢;rcases ht with ⟨h1,h2⟩ | h
   ·exact .inl ⟨h1,qC hx σ _ _ h2⟩
   ·exact .inr h
  | _=>simp only [TRep] at ht ⊢; exact qC hx σ _ _ ht
 ·refine⟨⟨hg.os.trans hm.since.ext.os,hg.tape.trans hm.since.ext.tape,hg.output.trans hm.since.ext.output,bP hm.since.ext.size hg.size,λb hb hn=> ?_,hm.since.ext.grow⟩,λb hO hb=> ?_,λi e hi he=> ?_⟩
  ·rw [hlow b hb]; exact hm.since.ext.keep b hb hn
  ·rw [hlow b hb]; exact hm.since.jT b hO hb
  ·obtain⟨h1,h2⟩:=hm.since.hold i e hi he;refine⟨h1,λad had cs el hcs=> ?_⟩;obtain⟨cs',el',h3,h4⟩:=h2 ad had cs el hcs;exact⟨cs',el',hx.cells _ _ _ _ h3,h4⟩
theorem Marks.turn{own:Nat->Prop}{ds:List Deferred}(h:Marks w0 own w ds){row:Option Nat}(hg:w.grownBy w' row)(hr:∀ r,row=some r->{ target:=.collected r,args:= #[] } ∉ ds):Marks w0 own w' ds:=
 ⟨h.1,λd hd=>by
  obtain⟨D,h1,h2,h3,h4⟩:=h.2 d hd;refine⟨D,h1,h2,h3,?_⟩;rw [hg.block D (aQ.1 h4).1 λe=>hr D e.symm (h1▸hd)];exact h4⟩
theorem vQ{fn:Func}{R:Ending->World->Prop}{tmps:Array Value} : ∀ (ds:List Deferred) (w:World),Mod O pin w0 I0 w σ st { tmps:=tmps,defers:=ds } ->
  (∀ w',Mod O pin w0 I0 w' σ st { tmps:=tmps,defers:=[] } -> ∃ v,(results fn tmps).run P w' = .ok v w'/\R (.returned v) w')->LeavesInM Fence.wide 0 P fn tmps R ds .returning w
 | [],w,hm,h=>h w hm
 | d::ds,w,hm,h=>by
  obtain⟨D,h1,h2,h3,h4⟩:=hm.df.2 d (by simp);subst h1;have hnd:=List.nodup_cons.1 hm.df.1;refine⟨by simp,.inl ⟨D,w.putObj D (.deferred none),rfl,run_takeDeferred h4,?_⟩⟩;have hg:=grownBy_putObj' w D (.deferred none);have hsub:Marks w0 (Own O σ) w ds:=⟨hnd.2,λd' hd'=>hm.df.2 d' (by simp [hd'])⟩;have hm2:=hm.turn hg (λr e=>by cases e; exact⟨h2,_,h4,rfl⟩) (.inr λr e es clock h=>by cases e; rw [h4] at h; cases h) (hsub.turn hg λr e=>by cases e; exact hnd.1);exact vQ ds _ hm2 h
theorem Qq{fn:Func}{R:Ending->World->Prop}{tmps:Array Value}{ch:List PanicEntry} : ∀ (ds:List Deferred) (w:World),Dead I0 w0 w ds ->
  (∀ w',Dead I0 w0 w' []->R (.panicked ch) w')->LeavesInM Fence.wide 0 P fn tmps R ds (.panicking ch) w
 | [],w,hm,h=>h w hm
 | d::ds,w,hm,h=>by
  obtain⟨D,h1,h2,h3,h4⟩:=hm.df.2 d (by simp);subst h1;have hnd:=List.nodup_cons.1 hm.df.1;refine⟨by simp,.inl ⟨D,w.putObj D (.deferred none),rfl,run_takeDeferred h4,?_⟩⟩;have hg:=grownBy_putObj' w D (.deferred none);have hsub:Marks w0 (λ_=>False) w ds:=⟨hnd.2,λd' hd'=>hm.df.2 d' (by simp [hd'])⟩;refine Qq ds _ ⟨⟨hg.os.trans hm.died.os,hg.tape.trans hm.died.tape,hg.output.trans hm.died.output,bP hm.died.size hg.size,λb hb hn=> ?_,λb hb=>hb.elim⟩,hsub.turn hg λr e=>by cases e; exact hnd.1⟩ h;rw [hg.block b (bB hb hm.died.size) λe=>by cases e; omega];exact hm.died.keep b hb hn
end
end Go.Sx
end
section
namespace Go.Sx
variable [Stat]
open Go.RowKit (Below)
def LeA(a b:AV):Prop:=∀ own w σ v,Rep own w a σ v->Rep own w b σ v
theorem LeA.refl(a:AV):LeA a a:=λ_ _ _ _ h=>h
theorem LeA.undef(a:AV):LeA a .undef:=λ_ _ _ _ _=>by simp [Rep]
theorem LeA.sl{n n' sz:Nat}{g g':Nat->Nat->AV}(hn:n=n')(hg:∀ j o,j<n->o<sz->LeA (g j o) (g' j o)):LeA (.sl n sz g) (.sl n' sz g'):=by
 subst hn;intro own w σ v h;simp only [Rep] at h ⊢;obtain⟨a,cap,hv,hc,hr⟩:=h;refine⟨a,cap,hv,hc,?_⟩;rcases hr with hr | ⟨ad,h1,h2,h3⟩
 ·exact .inl hr
 ·refine .inr ⟨ad,h1,h2,λj o hj ho=> ?_⟩;obtain⟨h4,c,h5,h6,h7⟩:=h3 j o hj ho;exact⟨h4,c,h5,h6,hg j o hj ho _ _ _ _ h7⟩
theorem LeA.nils{sz:Nat}{g:Nat->Nat->AV} : LeA .nils (.sl 0 sz g):=by
 intro own w σ v h;simp only [Rep] at h ⊢;exact⟨none,0,h,aJ _,.inl trivial⟩
def LeL:List AV->List AV->Prop
 | [],[]=>True
 | a::l,b::m=>LeA a b/\LeL l m
 | _,_=>False
theorem LeL.rep{own:Nat->Prop}{w:World}{σ:List SE} : ∀ {l m:List AV} {vs:List Value},LeL l m->RepL own w l σ vs->RepL own w m σ vs
 | [],[],vs,_,h=>h
 | a::l,b::m,vs,hl,h=>by
  simp only [RepL] at h ⊢;obtain⟨v,r,rfl,h1,h2⟩:=h;exact⟨v,r,rfl,hl.1 _ _ _ _ h1,LeL.rep hl.2 h2⟩
 | [],_::_,_,hl,_=>hl.elim
 | _::_,[],_,hl,_=>hl.elim
theorem LeL.refl:∀ l:List AV,LeL l l
 | []=>trivial
 | a::l=>⟨LeA.refl a,LeL.refl l⟩
theorem LeA.agg{l m:List AV}(h:LeL l m):LeA (.agg l) (.agg m):=by
 intro own w σ v hr;simp only [Rep] at hr ⊢;obtain⟨vs,hv,hr⟩:=hr;exact⟨vs,hv,h.rep hr⟩
def eqG(n sz:Nat)(g g':Nat->Nat->AV):Prop:=∀ j o,j<n->o<sz->g j o=g' j o
def eqA0:AV->AV->Prop
 | _,.undef=>True
 | .int k n,.int k' n'=>k=k'/\n=n'
 | .bool b,.bool b'=>b=b'
 | .str s,.str s'=>s=s'
 | .nils,.nils=>True
 | .nils,.sl n _ _=>n=0
 | .sl n sz g,.sl n' sz' g'=>n=n'/\sz=sz'/\eqG n sz g g'
 | .osl i sz off n,.osl i' sz' off' n'=>i=i'/\sz=sz'/\off=off'/\n=n'
 | .ptr i off,.ptr i' off'=>i=i'/\off=off'
 | a,b=>a=b
def eqL0:List AV->List AV->Prop
 | [],[]=>True
 | a::l,b::m=>eqA0 a b/\eqL0 l m
 | _,_=>False
def eqA:AV->AV->Prop
 | .agg l,.agg m=>eqL0 l m
 | .tup l,.tup m=>eqL0 l m
 | a,b=>eqA0 a b
def eqL:List AV->List AV->Prop
 | [],[]=>True
 | _::l,.undef::m=>eqL l m
 | a::l,b::m=>eqA a b/\eqL l m
 | _,_=>False
theorem WL{a b:AV}(h:eqA0 a b):LeA a b:=by
 unfold eqA0 at h;split at h
 ·exact LeA.undef _
 ·obtain⟨rfl,rfl⟩:=h; exact LeA.refl _
 ·subst h; exact LeA.refl _
 ·subst h; exact LeA.refl _
 ·exact LeA.refl _
 ·subst h; exact LeA.nils
 ·obtain⟨rfl,rfl,hg⟩:=h;exact LeA.sl rfl λj o hj ho=>by rw [hg j o hj ho]; exact LeA.refl _
 ·obtain⟨rfl,rfl,rfl,rfl⟩:=h; exact LeA.refl _
 ·obtain⟨rfl,rfl⟩:=h; exact LeA.refl _
 ·subst h; exact LeA.refl _
theorem yY:∀ {l m:List AV},eqL0 l m->LeL l m
 | [],[],_=>trivial
 | a::l,b::m,h=>⟨WL h.1,yY h.2⟩
 | [],_::_,h=>h.elim
 | _::_,[],h=>h.elim
theorem Z6{a b:AV}(h:eqA a b):LeA a b:=by
 unfold eqA at h;split at h
 ·exact LeA.agg (yY h)
 ·intro own w σ v hr;simp only [Rep] at hr ⊢;obtain⟨vs,hv,hr⟩:=hr;exact⟨vs,hv,(yY h).rep hr⟩
 ·exact WL h
theorem vT:∀ {l m:List AV},eqL l m->LeL l m
 | [],[],_=>trivial
 | [],_::_,h=>h.elim
 | _::_,[],h=>h.elim
 | a::l,b::m,h=>by
  unfold eqL at h;split at h
  ·rename_i h1 h2; cases h1
  ·rename_i h1 h2; cases h1; cases h2;exact⟨LeA.undef _,vT h⟩
  ·rename_i h1 h2; cases h1; cases h2;exact⟨Z6 h.1,vT h.2⟩
  ·exact h.elim
def eqB:Blk->Blk->Prop
 | _,.dead=>True
 | .box l,.box m=>eqL l m
 | .arr n sz g,.arr n' sz' g'=>n=n'/\sz=sz'/\eqG n sz g g'
 | .arr n sz g,.arrI k n' f=>n=n'/\sz=1/\eqG n 1 g (tgI k f)
 | .arr n sz g,.arrS n' f=>n=n'/\sz=1/\eqG n 1 g (tgS f)
 | .arrI k n f,.arr n' sz' g'=>n=n'/\1=sz'/\eqG n 1 (tgI k f) g'
 | .arrS n f,.arr n' sz' g'=>n=n'/\1=sz'/\eqG n 1 (tgS f) g'
 | .arrI k n f,.arrI k' n' f'=>n=n'/\eqG n 1 (tgI k f) (tgI k' f')
 | .arrS n f,.arrS n' f'=>n=n'/\eqG n 1 (tgS f) (tgS f')
 | .map ag sh has get pe,.map ag' sh' has' get' pe'=>(ag=ag'/\(pe'=none\/pe=pe'))/\sh=sh'/\(∀ k,has k=has' k)/\∀ k,has k=true->get k=get' k
 | _,_=>False
def eqH:Heap->Heap->Prop
 | _,[]=>True
 | b::l,c::m=>eqB b c/\eqH l m
 | [],_::_=>False
def q8:AV->Bool
 | .opt _ _ _=>false
 | _=>true
def lowA(m:Nat):AV->Bool
 | .osl i _ _ _=>decide (i<m)
 | .ptr i _=>decide (i<m)
 | .eptr i _ _ _=>decide (i<m)
 | .omap i=>decide (i<m)
 | .agg _=>false
 | .tup _=>false
 | .fn _ [] []=>true
 | .fn _ _ _=>false
 | .opt _ _ _=>false
 | _=>true
def lowB(m:Nat):AV->Bool
 | .agg l=>l.all (lowA m)
 | .tup l=>l.all (lowA m)
 | .fn _ a b=>a.all (lowA m)&&b.all (lowA m)
 | a=>lowA m a
def Kx(m:Nat):Blk->Bool
 | .box l=>l.all (lowB m)
 | _=>true
def chk(st st':St):Bool:=st.tmps.all q8&&st'.tmps.all (lowB st'.heap.length)&&decide (st'.heap.length<=st.heap.length)&&st'.heap.all (Kx st'.heap.length)
theorem xS{m k:Nat}{a:AV}(h:lowA m a=true):NoH (List.range' m k) a:=by
 have hr:∀ i,i<m->i∉List.range' m k:=λi hi hm=>by
  rw [List.mem_range'] at hm;obtain⟨j,_,h2⟩:=hm;omega
 cases a with
 | osl i sz off n=>simp only [lowA,aK] at h; simp only [NoH]; exact hr i h
 | ptr i off=>simp only [lowA,aK] at h; simp only [NoH]; exact hr i h
 | eptr i sz idx off=>simp only [lowA,aK] at h; simp only [NoH]; exact hr i h
 | omap i=>simp only [lowA,aK] at h; simp only [NoH]; exact hr i h
 | agg l=>simp [lowA] at h
 | tup l=>simp [lowA] at h
 | fn f x y=>
  cases x<;>cases y<;>simp [lowA] at h
  simp [NoH,NoHL]
 | opt _ _ _=>simp [lowA] at h
 | _=>simp [NoH]
theorem ym{m k:Nat}{a:AV}(h:lowB m a=true):NoH (List.range' m k) a:=by
 cases a with
 | agg l=>simp only [lowB,bG] at h; simp only [NoH]; exact zX.2 λx hx=>xS (h x hx)
 | tup l=>simp only [lowB,bG] at h; simp only [NoH]; exact zX.2 λx hx=>xS (h x hx)
 | fn f x y=>
  simp only [lowB,bA,bG] at h; simp only [NoH];exact⟨zX.2 λx hx=>xS (h.1 x hx),zX.2 λx hx=>xS (h.2 x hx)⟩
 | _=>exact xS (by simpa only [lowB] using h)
theorem j6{m:Nat}{a:AV}(h:lowB m a=true):∀ t b y,a≠.opt t b y:=by
 rintro t b y rfl;simp [lowB,lowA] at h
structure Le(pin:Nat)(st st':St):Prop where
 tmps:eqL st.tmps st'.tmps
 heap:eqH st.heap st'.heap
 ok:chk st st'=true
 pinned:pin<=st'.heap.length
theorem Xe:∀ {l m:List AV},eqL l m->l.length=m.length
 | [],[],_=>rfl
 | [],_::_,h=>h.elim
 | _::_,[],h=>h.elim
 | a::l,b::m,h=>by
  unfold eqL at h;split at h
  ·rename_i h1 h2; cases h1
  ·rename_i h1 h2; cases h1; cases h2;simp [Xe h]
  ·rename_i h1 h2; cases h1; cases h2;simp [Xe h.2]
  ·exact h.elim
theorem LeL.get:∀ {l m:List AV} (t:Nat) (h1:t<l.length) (h2:t<m.length),LeL l m->LeA l[t] m[t]
 | a::l,b::m,0,_,_,h=>h.1
 | a::l,b::m,t+1,h1,h2,h=>LeL.get t (by simpa using h1) (by simpa using h2) h.2
theorem yw:∀ {l m:Heap} {i:Nat} {b b':Blk},eqH l m->l[i]?=some b->m[i]?=some b'->eqB b b'
 | b::l,c::m,0,_,_,h,h1,h2=>by simp at h1 h2; subst h1; subst h2; exact h.1
 | b::l,c::m,i+1,_,_,h,h1,h2=>yw h.2 (by simpa using h1) (by simpa using h2)
 | _,[],_,_,_,_,_,h2=>by simp at h2
 | [],_::_,_,_,_,h,_,_=>h.elim
theorem yv{own:Nat->Prop}{w:World}{σ:List SE}{e:SE}{b c:Blk}(h:eqB b c)(hb:BRep own w σ e b):BRep own w σ e c:=by
 have arr:∀ {n n' sz sz':Nat} {g g':Nat->Nat->AV},n=n'->sz=sz'->eqG n sz g g'->BRep own w σ e (.arr n sz g)->BRep own w σ e (.arr n' sz' g'):=by
  rintro n _ sz _ g g' rfl rfl hg hb;exact UP hg hb
 cases c with
 | dead=>trivial
 | box m=>
  cases b with
  | box l=>
   simp only [eqB] at h;simp only [BRep] at hb ⊢;obtain⟨ad,vs,el,h1,h2,h3,h4⟩:=hb;exact⟨ad,vs,el,h1,h2,h3,(vT h).rep h4⟩
  | _=>exact h.elim
 | arr n' sz' g'=>
  cases b with
  | arr n sz g=>exact arr h.1 h.2.1 h.2.2 hb
  | arrI k n f=>exact arr h.1 h.2.1 h.2.2 (xH.1 hb)
  | arrS n f=>exact arr h.1 h.2.1 h.2.2 (xG.1 hb)
  | _=>exact h.elim
 | arrI k' n' f'=>
  cases b with
  | arr n sz g=>obtain⟨h1,rfl,h3⟩:=h; exact xH.2 (arr h1 rfl h3 hb)
  | arrI k n f=>exact xH.2 (arr h.1 rfl h.2 (xH.1 hb))
  | _=>exact h.elim
 | arrS n' f'=>
  cases b with
  | arr n sz g=>obtain⟨h1,rfl,h3⟩:=h; exact xG.2 (arr h1 rfl h3 hb)
  | arrS n f=>exact xG.2 (arr h.1 rfl h.2 (xG.1 hb))
  | _=>exact h.elim
 | map ag' sh' has' get' pe'=>
  cases b with
  | map ag sh has get pe=>
   obtain⟨⟨rfl,hpe⟩,rfl,h3,h4⟩:=h;simp only [BRep] at hb ⊢;obtain⟨ad,es,clock,l,g1,g2,g3,g4,g5,g6⟩:=hb;refine⟨ad,es,clock,l,g1,g2,g3,⟨g4.1,g4.2.nd,g4.2.lt,λk st hk=> ?_⟩,λk=>by rw [<- h3 k]; exact g5 k,?_⟩
   ·rcases hpe with hpe | hpe
    ·rw [hpe] at hk; cases hk
    ·rw [<- hpe] at hk; exact g4.2.pend k st hk
   rw [QY] at g6 ⊢
   exact⟨g6.1,λi e x q1 q2=>by
    obtain⟨a1,a2,a3⟩:=g6.2 i e x q1 q2;exact⟨a1,a2,by rw [<- h4 x ((g5 x).2 (aY q2))]; exact a3⟩⟩
  | _=>exact h.elim
section
variable {O:Nat->Prop} {pin:Nat} {w0:World} {I0:List SE} {w:World} {σ:List SE} {P:Program} {st st':St} {a:Act} {Γ:Nat->Option Ctr} {Xp:List PanicEntry->Prop}
theorem JS{m b:Nat}(h:Own O (σ.take m) b):Own O σ b:=by
 rcases h with h | ⟨e,he,ad,h1,h2⟩
 ·exact .inl h
 ·exact .inr ⟨e,List.mem_of_mem_take he,ad,h1,h2⟩
theorem Le.mod(h:Le pin st st')(hm:Mod O pin w0 I0 w σ st a):Mod O pin w0 I0 w (σ.take st'.heap.length) st' a:=by
 have hok:=h.ok;simp only [chk,bA,aK,bG] at hok;obtain⟨⟨⟨hno,hlow⟩,hle⟩,hlowH⟩:=hok;generalize hmm:st'.heap.length=m at hle hlow hlowH;have hx:Ext (Own O σ) w (Own O (σ.take m)) w:=⟨rfl,rfl,rfl,aJ _,λ_ _ _=>rfl,λb hb=>.inl (JS hb)⟩;have hlen:=hm.hp.len;have htl:=Xe h.tmps
 have hhold:Hold (List.range' m (st.heap.length - m)) w σ w (σ.take m):=by
  intro i e he hi;have hlt:=(aG.1 he).1
  have him:i<m:=by
   rw [List.mem_range'] at hi;rcases aR i m with h1 | h1
   ·exact h1
   ·exact absurd ⟨i - m,by omega,by omega⟩ hi
  exact⟨by rw [bR,aP him]; exact he,λad _ cs el hcs=>⟨cs,el,hcs,rfl⟩⟩
 have hget:∀ (i:Nat) (e:SE),(σ.take m)[i]?=some e->i<m/\σ[i]?=some e:=by
  intro i e he;rw [bR] at he;split at he
  ·rename_i hi; exact⟨hi,he⟩
  ·cases he
 refine⟨⟨hm.good.old,λi e ad he=>hm.good.dis i e ad (hget i e he).2,hm.good.stat.ext hx⟩,⟨?_,?_,?_,?_⟩,by rw [hm.size,htl],λt=> ?_,hm.df.ext hx,hm.since.trans ⟨hx,λ_ _ _=>rfl,ka.of hhold (λi hi=>by
  rw [List.mem_range'] at hi;obtain⟨j,_,h2⟩:=hi;have:=h.pinned;omega)⟩,hm.lim⟩
 ·rw [aH,hmm,hlen]; exact Nat.min_eq_left hle
 ·intro i j e f x y he hf;exact hm.hp.inj i j e f x y (hget i e he).2 (hget j f hf).2
 ·intro i e x he;exact hm.hp.lt i e x (hget i e he).2
 ·intro i e b' he hb';obtain⟨hi,he⟩:=hget i e he;have hil:i<st.heap.length:=bB hi hle;have hbr:=yv (yw h.heap (aF hil) hb') (hm.hp.blk i e _ he (aF hil))
  have arr:∀ {n sz:Nat} {g:Nat->Nat->AV},BRep (Own O σ) w σ e (.arr n sz g)->BRep (Own O (σ.take m)) w (σ.take m) e (.arr n sz g):=by
   intro n sz g hbr;simp only [BRep] at hbr ⊢;obtain⟨h1,h2 | ⟨ad,cs,el,h3,h4,h5,h6⟩⟩:=hbr
   ·exact⟨h1,.inl h2⟩
   ·refine⟨h1,.inr ⟨ad,cs,el,h3,h4,h5,λj o hj ho=> ?_⟩⟩;obtain⟨c,h7,h8,h9⟩:=h6 j o hj ho;exact⟨c,h7,h8,zD hx _ _ h9⟩
  cases b' with
  | dead=>trivial
  | box mcs=>
   simp only [BRep] at hbr ⊢;obtain⟨ad,vs,el,h1,h2,h3,h4⟩:=hbr;have:=hlowH _ (aY hb');simp only [Kx,bG] at this;exact⟨ad,vs,el,h1,h2,h3,jb hx hhold _ _ (zX.2 λx hx=>ym (this x hx)) h4⟩
  | arr n' sz' g'=>exact arr hbr
  | arrI k n f=>exact xH.2 (arr (xH.1 hbr))
  | arrS n f=>exact xG.2 (arr (xG.1 hbr))
  | map ag sh has get pe=>
   simp only [BRep] at hbr ⊢;obtain⟨ad,es,clock,l,h1,h2,h3,h4,h5,h6⟩:=hbr;exact⟨ad,es,clock,l,h1,h2,h3,h4,h5,h6.ext hx⟩
 ·have ht:=hm.tm t;by_cases htl1:t<st.tmps.length
  ·have htl':t<st'.tmps.length:=by rw [<- htl]; exact htl1
   have hno1:=hno st.tmps[t] (bK htl1);have hl1:=hlow st'.tmps[t] (bK htl');have hla:=LeL.get t htl1 htl' (vT h.tmps);have e1:st.tmps.getD t .undef=st.tmps[t]:=by simp [List.getD,htl1]
   have e2:st'.tmps.getD t .undef=st'.tmps[t]:=by simp [List.getD,htl']
   rw [e1] at ht;rw [e2];generalize st.tmps[t]=x at ht hno1 hla;generalize st'.tmps[t]=y at hl1 hla
   have hr:Rep (Own O σ) w x σ (a.tmps.getD t Go.undef):=by
    cases x with
    | opt t b y=>simp [q8] at hno1
    | _=>simpa only [TRep] using ht
   have hr2:=zK hx hhold y _ (ym hl1) (hla _ _ _ _ hr);cases y with
   | opt t b z=>exact absurd rfl (j6 hl1 t b z)
   | _=>simpa only [TRep] using hr2
  ·have e2:st'.tmps.getD t .undef = .undef:=by
    simp only [List.getD];rw [aZ (by omega)]; rfl
   rw [e2];simp [TRep,Rep]
def Safe(Xp:List PanicEntry->Prop)(M:Option Nat)(P:Program)(O:Nat->Prop)(pin:Nat)(w0:World)(I0:List SE)(Hs:Nat->St->Prop)(R:St->Prop)(k:List Item)(st:St):Prop:=
 ∀ w σ a,Mod O pin w0 I0 w σ st a->wpK M P (λd a w=>∃ st σ,Hs d st/\Mod O pin w0 I0 w σ st a) (λe a w=>((e = .ret\/e = .normal)/\∃ st σ,R st/\Mod O pin w0 I0 w σ st a)\/∃ ch,e = .panic ch/\Xp ch/\Dead I0 w0 w a.defers) k .normal a w
def zue(Xp:List PanicEntry->Prop)(M:Option Nat)(P:Program)(O:Nat->Prop)(pin:Nat)(w0:World)(I0:List SE)(Hs:Nat->St->Prop)(R:St->Prop):Leaf->Prop
 | .ret st=>R st
 | .back d st=>Hs d st
 | .loop c k st=>Safe Xp M P O pin w0 I0 Hs R (.code (.loop c)::k) st
 | .range c k st=>Safe Xp M P O pin w0 I0 Hs R (.code c::k) st
 | .gone=>True
theorem Safe.run{M:Option Nat}{Hs:Nat->St->Prop}{R:St->Prop}{k:List Item}(hmix:P.follows .mixedOrders=true)(hΓ:∀ g c,Γ g=some c->zy Xp P g c)(n:Nat)(h:(Go.Sx.run P Γ pin n k st).holds (zue Xp M P O pin w0 I0 Hs R)):Safe Xp M P O pin w0 I0 Hs R k st:=by
 intro w σ a hm;refine je hmix hΓ (λch a w' h1 h2=>.inr ⟨ch,rfl,h1,h2⟩) n (Tree.qf ?_ h) hm;intro lf hl;cases lf with
 | ret st=>exactλw σ a hm=>⟨.inl ⟨.inl rfl,st,σ,hl,hm⟩,.inl ⟨.inr rfl,st,σ,hl,hm⟩⟩
 | back d st=>exactλw σ a hm=>⟨st,σ,hl,hm⟩
 | loop c k st=>exactλw σ a hm=>hl w σ a hm
 | range c k st=>exactλw σ a hm=>hl w σ a hm
 | gone=>trivial
theorem WQ{M:Option Nat}{c:Code}{Q:Exit->Act->World->Prop}{ι:Type}(I:ι->Act->World->Prop)(μ:ι->Nat)(x0:ι)(h0:I x0 a w)
  (round:∀ x a w,I x a w->c.wpIn (FM M) 0 P (Exit.then (λa' w'=>∃ x',I x' a' w'/\μ x'<μ x) Q) a w):(Code.loop c).wpIn (FM M) 0 P Q a w:=by
 classical
 have least:∀ (p:Nat->Prop),(∃ n,p n)->∃ n,p n/\∀ m,p m->n<=m:=by
  rintro p ⟨n,hn⟩
  induction n using Nat.strongRecOn with
  | _ n ih=>
   by_cases h:∃ m,m<n/\p m
   ·obtain⟨m,h1,h2⟩:=h; exact ih m h1 h2
   ·exact⟨n,hn,λm hm=>Nat.le_of_not_lt λhlt=>h ⟨m,hlt,hm⟩⟩
 have hl:∀ a w,∃ n,(∃ x,I x a w)->(∃ x,I x a w/\μ x=n)/\∀ x,I x a w->n<=μ x:=by
  intro a w;by_cases h:∃ x,I x a w
  ·obtain⟨n,⟨x,h1,h2⟩,h3⟩:=least (λn=>∃ x,I x a w/\μ x=n) (by obtain⟨x,hx⟩:=h; exact⟨_,x,hx,rfl⟩);exact⟨n,λ_=>⟨⟨x,h1,h2⟩,λy hy=>h3 _ ⟨y,hy,rfl⟩⟩⟩
  ·exact⟨0,λh'=>absurd h' h⟩
 refine wpIn_loop (λa w=>∃ x,I x a w) (λa w=>(hl a w).choose) ⟨x0,h0⟩ ?_;intro a w hI;obtain⟨⟨x,h1,h2⟩,h3⟩:=(hl a w).choose_spec hI;refine wpIn_mono (round x a w h1) λe a' w' h=> ?_
 cases e with
 | normal=>
  obtain⟨x',h4,h5⟩:=h;have h6:=((hl a' w').choose_spec ⟨x',h4⟩).2 x' h4;exact⟨⟨x',h4⟩,by omega⟩
 | _=>exact h
theorem jG{M:Option Nat}{H H':Nat->Act->World->Prop}{B:Exit->Act->World->Prop} : ∀ {k:List Item} {e:Exit} {a:Act} {w:World},(∀ d a w,d<qM k->H' d a w->H d a w)->wpK M P H' B k e a w->wpK M P H B k e a w
 | [],e,a,w,hh,h=>h
 | .code c::k,e,a,w,hh,h=>by
  cases e with
  | normal=>exact wpIn_mono h λe a w h=>jG hh h
  | _=>exact jG (k:=k) hh h
 | .inBlock id::k,e,a,w,hh,h=>by
  cases e with
  | exit i=>
   simp only [wpK] at h ⊢;split at h
   ·rename_i hi; rw [aP hi]; exact jG hh h
   ·rename_i hi; rw [aO hi]; exact jG hh h
  | _=>exact jG (k:=k) hh h
 | .inLoop::k,e,a,w,hh,h=>by
  cases e with
  | normal=>exact hh _ _ _ (by simp [qM]) h
  | _=>exact jG (k:=k) (λd a w hd=>hh d a w (by simp [qM]; omega)) h
theorem Safe.loop{M:Option Nat}{ι:Type}{Hs:Nat->St->Prop}{R:St->Prop}{k:List Item}{c:Code}(S:ι->St)(μ:ι->Nat)(x0:ι)(hle:Le pin st (S x0))
  (round:∀ x,Safe Xp M P O pin w0 I0 (λd st'=>if d=qM k then ∃ x',μ x'<μ x/\Le pin st' (S x') else Hs d st') R (.code c::.inLoop::k) (S x)) :
  Safe Xp M P O pin w0 I0 Hs R (.code (.loop c)::k) st:=by
 intro w σ a hm;simp only [wpK];refine WQ (λx a w=>∃ σ,Mod O pin w0 I0 w σ (S x) a) μ x0 ⟨_,hle.mod hm⟩ ?_;rintro x a w ⟨σ,hm⟩;have:=round x w σ a hm;simp only [wpK] at this;refine wpIn_mono this λe a w h=> ?_
 cases e with
 | normal=>
  simp only [wpK] at h;obtain⟨st',Z',h1,h2⟩:=h;simp only [if_true] at h1;obtain⟨x',h3,h4⟩:=h1;exact⟨x',⟨_,h4.mod h2⟩,h3⟩
 | _=>
  refine jG (k:=k) (λd a w hd h=> ?_) h;obtain⟨st',Z',h1,h2⟩:=h;rw [aO (by omega)] at h1;exact⟨st',Z',h1,h2⟩
def vN(st:St)(t:Nat)(sz:Nat)(g:Nat->Nat->AV):St:=⟨st.tmps.set t (.osl st.heap.length sz 0 0),st.heap++[.arr 0 sz g]⟩
theorem zla(hm:Mod O pin w0 I0 w σ st a){t sz:Nat}{g:Nat->Nat->AV}(ht:st.tmps.getD t .undef = .nils)(hno:st.tmps.all q8=true):Mod O pin w0 I0 w (σ++[⟨none,0⟩]) (vN st t sz g) a:=by
 obtain⟨k1,k2,k3⟩:=zb2 hm.good hm.hp sz g;have hx:=ext_nil (O:=O) w σ 0;refine⟨k2,k1,by simp [vN,hm.size],λu=> ?_,hm.df.ext hx,hm.since.trans ⟨hx,λ_ _ _=>rfl,ka.of k3 (by simp)⟩,hm.lim⟩;have hu:=hm.tm u;by_cases htu:u=t
 ·subst htu;rw [ht] at hu;simp only [TRep,Rep] at hu
  have hlt:u<st.tmps.length:=by
   rcases aR u st.tmps.length with h | h
   ·exact h
   ·simp [List.getD,aZ h] at ht
  have:(vN st u sz g).tmps.getD u .undef = .osl st.heap.length sz 0 0:=by
   simp only [vN,List.getD];rw [List.getElem?_set_self hlt]; rfl
  rw [this,hu];simp only [TRep,Rep];exact⟨⟨none,0⟩,by rw [<- hm.hp.len]; simp,by simp,none,0,rfl,aJ _,.inl rfl⟩
 ·have:(vN st t sz g).tmps.getD u .undef=st.tmps.getD u .undef:=by
   simp only [vN,List.getD];rw [bS (λh=>htu h.symm)]
  rw [this]
  have hn:q8 (st.tmps.getD u .undef)=true:=by
   by_cases hlt:u<st.tmps.length
   ·simp only [List.getD,aF hlt,Option.getD_some];exact bG.1 hno _ (bK hlt)
   ·simp only [List.getD];rw [aZ (by omega)]; rfl
  generalize st.tmps.getD u .undef=x at hu hn;cases x with
  | opt _ _ _=>simp [q8] at hn
  | _=>simp only [TRep] at hu ⊢; exact zK hx k3 _ _ (qm _) hu
theorem Safe.bear{M:Option Nat}{Hs:Nat->St->Prop}{R:St->Prop}{k:List Item}(t sz:Nat)(g:Nat->Nat->AV)(ht:st.tmps.getD t .undef = .nils)(hno:st.tmps.all q8=true)(h:Safe Xp M P O pin w0 I0 Hs R k (vN st t sz g)):Safe Xp M P O pin w0 I0 Hs R k st:=
 λw σ a hm=>h w _ a (zla hm ht hno)
def resX(P:Program)(st:St):List ResultVar->Tree (List AV)
 | []=>.leaf []
 | .tmp t::l=>(resX P st l).bind λr=>.leaf (see [] (st.tmps.getD t .undef)::r)
 | .cell t ty::l=>(uV P st.heap ty (see [] (st.tmps.getD t .undef))).bind λv=>(resX P st l).bind λr=>.leaf (v::r)
def resV(rs:List AV):AV:=match rs with
 | [r]=>r
 | rs=>.tup rs
def KQ(tmps:Array Value):ResultVar->Sem Value
 | .tmp t=>pure (tmps.getD t Go.undef)
 | .cell x t=>do loadVar t (<- asAddr (tmps.getD x Go.undef))
theorem UD(fn:Func)(tmps:Array Value):results fn tmps=(do let vs <- fn.results.mapM (KQ tmps); pure (if h:vs.size=1 then vs[0] else .tuple vs)):=by
 unfold results;congr 1
theorem Qd(hm:Mod O pin w0 I0 w σ st a):∀ {l:List ResultVar} {Q:List AV->Prop},(resX P st l).holds Q ->
  ∃ rs vs,(l.mapM (KQ a.tmps)).run P w = .ok vs w/\Q rs/\RepL (Own O σ) w rs σ vs
 | [],Q,hq=>⟨[],[],by simp,hq,by simp [RepL]⟩
 | .tmp t::l,Q,hq=>by
  simp only [resX,Tree.zn] at hq;obtain⟨rs,vs,h1,h2,h3⟩:=Qd hm hq;refine⟨_,a.tmps.getD t Go.undef::vs,?_,h2,?_⟩
  ·simp only [List.mapM_cons,KQ,Sem.run_bind,Sem.run_pure,Result.andThen_ok];rw [h1]; rfl
  ·simp only [RepL];exact⟨_,_,rfl,(hm.tm t).rep,h3⟩
 | .cell x t::l,Q,hq=>by
  simp only [resX,Tree.zn] at hq;have hx:=(hm.tm x).rep;obtain⟨r,v,h1,hq,hr⟩:=uh (P:=P) hm.hp hx hq;obtain⟨rs,vs,h4,h2,h3⟩:=Qd hm hq;refine⟨_,v::vs,?_,h2,?_⟩
  ·simp only [List.mapM_cons,Sem.run_bind,KQ]
   have:(do loadVar t (<- asAddr (a.tmps.getD x Go.undef)):Sem Value).run P w = .ok v w:=by
    simp only [Instr.loadAt,Sem.run_bind] at h1 ⊢;generalize a.tmps.getD x Go.undef=va at h1;cases va with
    | pointer p=>
     cases p with
     | none=>simp [Instr.sureAddr] at h1
     | some ad=>simpa [Instr.sureAddr,asAddr] using h1
    | _=>simp [Instr.sureAddr] at h1
   simp only [Sem.run_bind] at this;rw [this];simp only [Result.andThen_ok];rw [h4]; rfl
  ·simp only [RepL];exact⟨_,_,rfl,hr,h3⟩
def qF:AV->Bool
 | .bool _=>true
 | .int _ _=>true
 | .str _=>true
 | .nils=>true
 | .nilp=>true
 | .fn _ [] []=>true
 | .nilf=>true
 | _=>false
theorem yl{own own':Nat->Prop}{w':World}{Z':List SE}{x:AV}{v:Value}(h:qF x=true)(hr:Rep own w x σ v):Rep own' w' x Z' v:=by
 cases x with
 | fn f p q=>
  cases p<;>cases q<;>simp [qF] at h
  simp only [Rep,RepL] at hr ⊢; exact hr
 | bool _=>simpa only [Rep] using hr
 | int _ _=>simpa only [Rep] using hr
 | str _=>simpa only [Rep] using hr
 | nils=>simpa only [Rep] using hr
 | nilp=>simpa only [Rep] using hr
 | nilf=>simpa only [Rep] using hr
 | _=>simp [qF] at h
def Zs:AV->Bool
 | .agg l=>l.all qF
 | .tup l=>l.all qF
 | a=>qF a
def wS(fn:Func)(args:List AV)(hc:Heap):St:=⟨args.map (see [])++List.replicate (fn.ntmps - args.length) .undef,hc⟩
def entry(fn:Func)(args:List AV):St:=wS fn args []
theorem yM{fn:Func}(hm:Mod O pin w0 I0 w σ st a){Q:List AV->Prop}(hq:(resX P st fn.results.toList).holds Q):∃ rs v,(results fn a.tmps).run P w = .ok v w/\Q rs/\Rep (Own O σ) w (resV rs) σ v:=by
 obtain⟨rs,vs,h1,h2,h3⟩:=Qd hm hq
 have hr:(results fn a.tmps).run P w = .ok (if h:vs.toArray.size=1 then vs.toArray[0] else .tuple vs.toArray) w:=by
  rw [UD];obtain⟨l,hl⟩:∃ l:List ResultVar,fn.results=l.toArray:=⟨fn.results.toList,by simp⟩;rw [hl] at h1 ⊢;simp only [Sem.run_bind,List.mapM_toArray,Sem.run_map];rw [h1];rfl
 refine⟨rs,_,hr,h2,?_⟩
 match rs,vs,h3 with
 | [r],vs,h3=>
  simp only [RepL] at h3;obtain⟨v,_,rfl,h4,rfl⟩:=h3;exact h4
 | [],vs,h3=>
  simp only [RepL] at h3;subst h3;simp only [resV,Rep];exact⟨[],by simp,by simp [RepL]⟩
 | r1::r2::rs,vs,h3=>
  have:=h3.length;rw [dif_neg (by simp at this ⊢; omega)];simp only [resV,Rep];exact⟨vs,rfl,h3⟩
theorem Vi{fn:Func}{args:List AV}{hc:Heap}{vals:List Value}(hg:Good O w σ)(hh:HRep (Own O σ) w σ hc)(hr:RepL (Own O σ) w args σ vals):Mod O pin w σ w σ (wS fn args hc) ⟨vals.toArray++Array.replicate (fn.ntmps - vals.toArray.size) Go.undef,[]⟩:=by
 have hl:=hr.length;refine⟨hg,hh,by simp [wS,hl],λt=> ?_,Marks.nil _ _ _,Stp.refl _ _ _ _,hg.stat⟩;simp only [wS];by_cases ht:t<args.length
 ·have e1:(args.map (see [])++List.replicate (fn.ntmps - args.length) AV.undef).getD t .undef=see [] args[t]:=by
   simp only [List.getD];rw [bL (by simpa using ht)];simp [ht]
  have e2:(vals.toArray++Array.replicate (fn.ntmps - vals.toArray.size) Go.undef).getD t Go.undef=vals[t]'(by omega):=by
   simp only [bQ];rw [Array.getElem?_append_left (by simp; omega)];simp [show t<vals.length by omega]
  rw [e1,e2];have:=(zo.1 hr).2 t args[t] (vals[t]'(by omega)) (by simp [ht]) (by simp [show t<vals.length by omega]);generalize args[t]=x at this;cases x with
  | opt _ _ _=>simp [see,TRep,Rep]
  | _=>simpa only [see,TRep] using this
 ·have e1:(args.map (see [])++List.replicate (fn.ntmps - args.length) AV.undef).getD t .undef = .undef:=by
   simp only [List.getD];rw [List.getElem?_append_right (by simp; omega)];simp only [List.getElem?_replicate];split<;>rfl
  rw [e1];simp [TRep,Rep]
def exp0(h:Heap)(M:List Nat):AV->AV
 | .osl i sz off n=>match zG M i with
  | some j=>.osl j sz off n
  | none=>match frz1 h (.osl i sz off n) with
   | some (a,[_])=>a
   | some (a,k)=>bif k.all λi=>(zG M i).isNone then a else .undef
   | none=>.undef
 | x=>ren0 (zG M) x
def exp1(h:Heap)(M:List Nat):AV->AV
 | .agg cs=>.agg (cs.map (exp0 h M))
 | .tup cs=>.tup (cs.map (exp0 h M))
 | .fn g a b=>.fn g (a.map (exp0 h M)) (b.map (exp0 h M))
 | x=>exp0 h M x
def exp2(h:Heap)(M:List Nat):AV->AV
 | .tup cs=>.tup (cs.map (exp1 h M))
 | .fn g a b=>.fn g (a.map (exp1 h M)) (b.map (exp1 h M))
 | x=>exp1 h M x
def expB(h:Heap)(M:List Nat):Blk->Blk
 | .box cs=>.box (cs.map (exp1 h M))
 | b=>b
def expH(h:Heap)(M:List Nat):Heap:=M.map λi=>expB h M (h.getD i .dead)
def zpb:AV->Prop
 | .sl n sz g=>∀ j o,j<n->o<sz->qF (g j o)=true
 | _=>True
def new0(h:Heap)(M:List Nat):AV->Prop
 | .osl i sz off n=>zG M i=none->zpb (exp0 h M (.osl i sz off n))
 | .sl n _ _=>n=0
 | a=>qF a=true
def new1(h:Heap)(M:List Nat):AV->Prop
 | .agg cs=>∀ a∈cs,new0 h M a
 | .tup cs=>∀ a∈cs,new0 h M a
 | a=>new0 h M a
def new2(h:Heap)(M:List Nat):AV->Prop
 | .tup cs=>∀ a∈cs,new1 h M a
 | a=>new1 h M a
def newB:Blk->Prop
 | .arr n sz g=>zpb (.sl n sz g)
 | .dead=>True
 | .box _=>False
 | .arrI _ _ _=>True
 | .arrS _ _=>True
 | .map _ _ _ _ _=>False
theorem wm{own own':Nat->Prop}{w w':World}{E1 E2:List SE}{f:AV->AV}{l:List AV}{vs:List Value}(hf:∀ a∈l,∀ v,Rep own w a E1 v->Rep own' w' (f a) E2 v)(h:RepL own w l E1 vs):RepL own' w' (l.map f) E2 vs:=by
 refine zo.2 ⟨by simp [h.length],λi x u hx hu=> ?_⟩;simp only [aN] at hx;cases hl:l[i]? with
 | none=>simp [hl] at hx
 | some y=>
  simp only [hl,Option.map_some,aE] at hx;subst hx;exact hf y (aY hl) u ((zo.1 h).2 i y u hl hu)
structure Exp(O:Nat->Prop)(w:World)(σ:List SE)(h:Heap)(M:List Nat)(EM:List SE)(own':Nat->Prop):Prop where
 good:Good O w σ
 hp:HRep (Own O σ) w σ h
 nd:jY M=true
 lt:∀ i∈M,i<h.length
 get:∀ j:Nat,EM[j]?=(M[j]?).bind λi=>σ[i]?
 own:∀ b,own' b->Own O EM b\/¬ Mine σ b
section
variable {h:Heap} {M:List Nat} {EM:List SE} {own':Nat->Prop}
theorem Exp.get'(x:Exp O w σ h M EM own'){j:Nat}{e:SE}(he:EM[j]?=some e):∃ i,M[j]?=some i/\σ[i]?=some e:=by
 rw [x.get] at he;cases hj:M[j]? with
 | none=>simp [hj] at he
 | some i=>simp only [hj,Option.bind_some] at he; exact⟨i,rfl,he⟩
theorem Exp.pos(x:Exp O w σ h M EM own')(i j:Nat)(hp:zG M i=some j):EM[j]?=σ[i]?:=by
 rw [x.get,xl hp]; rfl
theorem Exp.sub(x:Exp O w σ h M EM own'){b:Nat}(hb:Own O EM b):Own O σ b:=by
 rcases hb with hb | hb
 ·exact .inl hb
 ·obtain⟨j,e,ad,h1,h2,h3⟩:=zu.1 hb;obtain⟨i,_,hi⟩:=x.get' h1;exact .inr (zu.2 ⟨i,e,ad,hi,h2,h3⟩)
theorem Exp.out(x:Exp O w σ h M EM own'){i:Nat}{e:SE}{ad:Addr}(hi:i∉M)(he:σ[i]?=some e)(had:e.ad=some ad):¬ own' ad.block:=by
 intro hb;rcases x.own _ hb with hb | hb
 ·rcases hb with hb | hb
  ·exact x.good.dis i e ad he had hb
  ·obtain⟨j,f,ad',h1,h2,h3⟩:=zu.1 hb;obtain⟨k,hk,hf⟩:=x.get' h1;exact x.hp.inj k i f e ad' ad hf he h2 had (λe=>hi (e▸aY hk)) h3
 ·exact hb (zu.2 ⟨i,e,ad,he,had,rfl⟩)
theorem Y9{h:Heap}{i sz off n:Nat}{a:AV}{k:List Nat}(hf:frz1 h (.osl i sz off n)=some (a,k)):∃ n' sz' g k',a = .sl n' sz' g/\k=i::k':=by
 simp only [frz1] at hf;split at hf
 ·simp only [aE,bE] at hf; exact⟨_,_,_,[],hf.1.symm,hf.2.symm⟩
 ·simp only [frzD] at hf;split at hf
  ·simp only [aE,bE] at hf; exact⟨_,_,_,[],hf.1.symm,hf.2.symm⟩
  ·split at hf
   ·split at hf
    ·split at hf
     ·simp only [aE,bE] at hf; exact⟨_,_,_,_,hf.1.symm,hf.2.symm⟩
     ·cases hf
    ·cases hf
   ·cases hf
theorem ki(x:Exp O w σ h M EM own'){a:AV}{v:Value}(hs:(∀ b,own' b->Own O σ b)\/new0 h M a)(ha:Rep (Own O σ) w a σ v):Rep own' w (exp0 h M a) EM v:=by
 have hren:∀ a,exp0 h M a=ren0 (zG M) a->((∀ b,own' b->Own O σ b)\/qF a=true\/(∃ i sz off n,a = .osl i sz off n))->Rep (Own O σ) w a σ v->Rep own' w (exp0 h M a) EM v:=by
  intro a he hs ha;rw [he];rcases hs with hs | hs | ⟨i,sz,off,n,rfl⟩
  ·exact jE hs (wY x.pos ha)
  ·have:ren0 (zG M) a=a:=by
    cases a with
    | fn g p q=>cases p<;>cases q<;>simp [qF] at hs; rfl
    | _=>first | rfl | simp [qF] at hs
   rw [this];exact yl hs ha
  ·have:=wY x.pos ha;simp only [ren0] at this ⊢;split
   ·rename_i j hj;rw [hj] at this;simpa only [Rep] using this
   ·simp [Rep]
 cases a with
 | osl i sz off n=>
  cases hp:zG M i with
  | some j=>exact hren _ (by simp [exp0,ren0,hp]) (.inr (.inr ⟨i,sz,off,n,rfl⟩)) ha
  | none=>
   have hiM:=qT.1 hp;cases hf:frz1 h (.osl i sz off n) with
   | none=>simp [exp0,hp,hf,Rep]
   | some p=>
    obtain⟨a',k⟩:=p;obtain⟨n',sz',g,k',rfl,rfl⟩:=Y9 hf;by_cases hall:∀ q∈i::k',q∉M
    rotate_left
    ·have:exp0 h M (.osl i sz off n) = .undef:=by
      cases k' with
      | nil=>exact absurd (λq hq=>by rw [List.mem_singleton.1 hq]; exact hiM) hall
      | cons q k'=>
       simp only [exp0,hp,hf]
       have:((i::q::k').all λi=>(zG M i).isNone)=false:=by
        rw [Bool.eq_false_iff];intro h2;refine hall λq hq=> ?_
        have:=bG.1 h2 q hq;exact qT.1 (by simpa using this)
       rw [this]; rfl
     rw [this]; simp [Rep]
    have key:exp0 h M (.osl i sz off n) = .sl n' sz' g:=by
     cases k' with
     | nil=>simp only [exp0,hp,hf]
     | cons q k'=>
      simp only [exp0,hp,hf]
      have:((i::q::k').all λi=>(zG M i).isNone)=true:=by
       rw [bG];intro q hq;rw [qT.2 (hall q hq)]; rfl
      rw [this]; rfl
    rw [key];have hfs:=(uy (K:=i::k') x.good x.hp ha hf (λ_ h=>h)).1;simp only [Rep] at hfs ⊢;obtain⟨ba,cap,hv,hc,hr⟩:=hfs;refine⟨ba,cap,hv,hc,?_⟩;rcases hr with hr | ⟨ad,h1,h2,h3⟩
    ·exact .inl hr
    ·refine .inr ⟨ad,h1,h2,λj o hj ho=> ?_⟩;obtain⟨h4,c,h5,h6,h7⟩:=h3 j o hj ho
     have hblk:¬ own' ad.block:=by
      simp only [Rep] at ha;obtain⟨e,he,_,a2,cap2,hv2,_,hr2⟩:=ha;rw [hv] at hv2;simp only [Value.slice.injEq] at hv2;obtain⟨e1,e2,e3⟩:=hv2;rcases hr2 with hr2 | ⟨ad2,had2,ha2,_⟩
      ·omega
      ·have:ad.block=ad2.block:=by
        rw [h1,ha2] at e1;simp only [aE] at e1;rw [e1]
       rw [this];exact x.out hiM he had2
     refine⟨hblk,c,h5,h6,?_⟩;rcases hs with hs | hs
     ·exact jE (λb hb=>by
       rcases x.own b hb with h8 | h8
       ·rcases h8 with h8 | h8
        ·exact .inl h8
        ·obtain⟨jj,f,ad',g1,g2,g3⟩:=zu.1 h8;obtain⟨kk,hk,hf'⟩:=x.get' g1
         exact .inr (zu.2 ⟨kk,f,ad',by
           have hne:kk∉i::k':=λe=>hall kk e (aY hk)
           rw [qP,hf']; simp only [Option.map_some]; rw [aO (by simpa using hne)],g2,g3⟩)
       ·rcases hs b hb with h9 | h9
        ·exact .inl h9
        ·exact absurd h9 h8) h7
     ·have hsl:=hs hp;rw [key] at hsl;exact yl (hsl j o hj ho) h7
 | sl n sz g=>
  rcases hs with hs | hs
  ·exact hren _ rfl (.inl hs) ha
  ·simp only [new0] at hs;subst hs;simp only [exp0,ren0,Rep] at ha ⊢;obtain⟨b,cap,hv,hc,_⟩:=ha;exact⟨b,cap,hv,hc,.inl trivial⟩
 | agg cs=>simp [exp0,ren0,Rep]
 | tup cs=>simp [exp0,ren0,Rep]
 | opt _ _ _=>simp [exp0,ren0,Rep]
 | undef=>simp [exp0,ren0,Rep]
 | _=>exact hren _ rfl (by rcases hs with hs | hs; exact .inl hs; exact .inr (.inl hs)) ha
theorem kf(x:Exp O w σ h M EM own'){a:AV}{v:Value}(hs:(∀ b,own' b->Own O σ b)\/new1 h M a)(ha:Rep (Own O σ) w a σ v):Rep own' w (exp1 h M a) EM v:=by
 cases a with
 | agg cs=>
  simp only [exp1,Rep] at ha ⊢;obtain⟨vs,hv,hr⟩:=ha;exact⟨vs,hv,wm (λa ha v=>ki x (by rcases hs with hs | hs; exact .inl hs; exact .inr (hs a ha))) hr⟩
 | tup cs=>
  simp only [exp1,Rep] at ha ⊢;obtain⟨vs,hv,hr⟩:=ha;exact⟨vs,hv,wm (λa ha v=>ki x (by rcases hs with hs | hs; exact .inl hs; exact .inr (hs a ha))) hr⟩
 | fn g p q=>
  rcases hs with hs | hs
  ·simp only [exp1,Rep] at ha ⊢;obtain⟨va,vb,hv,h1,h2⟩:=ha;exact⟨va,vb,hv,wm (λa ha v=>ki x (.inl hs)) h1,wm (λa ha v=>ki x (.inl hs)) h2⟩
  ·cases p<;>cases q<;>simp [new1,new0,qF] at hs
   simp only [exp1,Rep,RepL,List.map_nil] at ha ⊢;exact ha
 | _=>exact ki x (by simpa only [new1] using hs) ha
theorem uC(x:Exp O w σ h M EM own'){a:AV}{v:Value}(hs:(∀ b,own' b->Own O σ b)\/new2 h M a)(ha:Rep (Own O σ) w a σ v):Rep own' w (exp2 h M a) EM v:=by
 cases a with
 | tup cs=>
  simp only [exp2,Rep] at ha ⊢;obtain⟨vs,hv,hr⟩:=ha;exact⟨vs,hv,wm (λa ha v=>kf x (by rcases hs with hs | hs; exact .inl hs; exact .inr (hs a ha))) hr⟩
 | fn g p q=>
  rcases hs with hs | hs
  ·simp only [exp2,Rep] at ha ⊢;obtain⟨va,vb,hv,h1,h2⟩:=ha;exact⟨va,vb,hv,wm (λa ha v=>kf x (.inl hs)) h1,wm (λa ha v=>kf x (.inl hs)) h2⟩
  ·cases p<;>cases q<;>simp [new2,new1,new0,qF] at hs
   simp only [exp2,Rep,RepL,List.map_nil] at ha ⊢;exact ha
 | _=>exact kf x (by simpa only [new2] using hs) ha
theorem WK(x:Exp O w σ h M EM own'){e:SE}{b:Blk}(hs:(∀ b,own' b->Own O σ b)\/newB b)(hb:BRep (Own O σ) w σ e b):BRep own' w EM e (expB h M b):=by
 have arr:∀ {n sz:Nat} {g:Nat->Nat->AV},((∀ b,own' b->Own O σ b)\/newB (.arr n sz g))->BRep (Own O σ) w σ e (.arr n sz g)->BRep own' w EM e (.arr n sz g):=by
  intro n sz g hs hb;simp only [BRep] at hb ⊢;obtain⟨h1,h2 | ⟨ad,cs,el,h3,h4,h5,h6⟩⟩:=hb
  ·exact⟨h1,.inl h2⟩
  ·refine⟨h1,.inr ⟨ad,cs,el,h3,h4,h5,λj o hj ho=> ?_⟩⟩;obtain⟨c,h7,h8,h9⟩:=h6 j o hj ho;refine⟨c,h7,h8,?_⟩;rcases hs with hs | hs
   ·exact jE hs h9
   ·exact yl (hs j o hj ho) h9
 cases b with
 | dead=>trivial
 | box cs=>
  rcases hs with hs | hs
  ·simp only [expB,BRep] at hb ⊢;obtain⟨ad,vs,el,h1,h2,h3,h4⟩:=hb;exact⟨ad,vs,el,h1,h2,h3,wm (λa ha v=>kf x (.inl hs)) h4⟩
  ·exact hs.elim
 | arr n sz g=>exact arr hs hb
 | arrI k n f=>exact xH.2 (arr (.inr λj o _ _=>rfl) (xH.1 hb))
 | arrS n f=>exact xG.2 (arr (.inr λj o _ _=>rfl) (xG.1 hb))
 | map ag sh has get pe=>
  rcases hs with hs | hs
  ·simp only [expB,BRep] at hb ⊢;obtain⟨ad,es,clock,l,h1,h2,h3,h4,h5,h6⟩:=hb;refine⟨ad,es,clock,l,h1,h2,h3,h4,h5,h6.ext ⟨rfl,rfl,rfl,aJ _,λ_ _ _=>rfl,λb hb=>.inl (hs b hb)⟩⟩
  ·exact hs.elim
end
def eqL1:List AV->List AV->Prop
 | [],[]=>True
 | a::l,b::m=>eqA a b/\eqL1 l m
 | _,_=>False
def eqA2:AV->AV->Prop
 | .tup l,.tup m=>eqL1 l m
 | a,b=>eqA a b
theorem Jr:∀ {l m:List AV},eqL1 l m->LeL l m
 | [],[],_=>trivial
 | a::l,b::m,h=>⟨Z6 h.1,Jr h.2⟩
 | [],_::_,h=>h.elim
 | _::_,[],h=>h.elim
theorem qW{a b:AV}(h:eqA2 a b):LeA a b:=by
 unfold eqA2 at h;split at h
 ·intro own w σ v hr;simp only [Rep] at hr ⊢;obtain⟨vs,hv,hr⟩:=hr;exact⟨vs,hv,(Jr h).rep hr⟩
 ·exact Z6 h
def LeB(b b':Blk):Prop:=∀ own w σ e,BRep own w σ e b->BRep own w σ e b'
def leHs:Heap->Heap->Prop
 | [],[]=>True
 | b::l,c::m=>LeB b c/\leHs l m
 | _,_=>False
theorem Jf:∀ {l m:Heap},leHs l m->m.length=l.length
 | [],[],_=>rfl
 | _::l,_::m,h=>by simp [Jf h.2]
 | [],_::_,h=>h.elim
 | _::_,[],h=>h.elim
theorem Zc:∀ {l m:Heap} {j:Nat} {b c:Blk},leHs l m->l[j]?=some b->m[j]?=some c->LeB b c
 | _::l,_::m,0,b,c,h,h1,h2=>by simp at h1 h2; subst h1; subst h2; exact h.1
 | _::l,_::m,j+1,b,c,h,h1,h2=>Zc h.2 (by simpa using h1) (by simpa using h2)
 | [],[],_,_,_,_,h1,_=>by simp at h1
 | [],_::_,_,_,_,h,_,_=>h.elim
 | _::_,[],_,_,_,h,_,_=>h.elim
theorem LeB.refl(b:Blk):LeB b b:=λ_ _ _ _ h=>h
theorem LeB.of_eq{b b':Blk}(h:eqB b b'):LeB b b':=λ_ _ _ _ hb=>yv h hb
theorem LeB.arr{n sz:Nat}{g g':Nat->Nat->AV}(h:∀ j o,j<n->o<sz->LeA (g j o) (g' j o)):LeB (.arr n sz g) (.arr n sz g'):=λown w σ e hb=>by
 simp only [BRep] at hb ⊢;obtain⟨h1,h2 | ⟨ad,cs,el,h3,h4,h5,h6⟩⟩:=hb
 ·exact⟨h1,.inl h2⟩
 ·refine⟨h1,.inr ⟨ad,cs,el,h3,h4,h5,λj o hj ho=> ?_⟩⟩;obtain⟨c,h7,h8,h9⟩:=h6 j o hj ho;exact⟨c,h7,h8,h j o hj ho _ _ _ _ h9⟩
def RetR(ctr:Ctr)(m:Nat)(Q:AV×Heap->Prop)(rs:List AV)(h:Heap):Prop:=
 ∃ M:List Nat,jY M=true/\(∀ i∈M,i<h.length)/\(∀ j,j<m->M[j]?=some j)/\(ctr.fresh=true->new2 h M (resV rs)/\∀ i∈M,newB (h.getD i .dead))/\∃ r hs,LeA (exp2 h M (resV rs)) r/\(eqH (expH h M) hs\/leHs (expH h M) hs)/\hs.length=M.length/\Q (r,hs)
def vL(ctr:Ctr)(hc:Heap):Nat:=bif ctr.vD then ctr.pins else hc.length
theorem zpr{g:Nat}{fn:Func}{c:Code}{ctr:Ctr}(hf:P.funcs[g]?=some fn)(hb:fn.body=some c) (hn:(fn.name == "runtime.NumGoroutine")=false)
  {args:List AV} {hc:Heap} {Q:AV×Heap->Prop} (hfr:ctr.fresh=true->hc=[]) (H:∀ (O:Nat->Prop) (w0:World) (I0:List SE),I0.length=hc.length ->
   Safe Xp none P O (vL ctr hc) w0 I0 (λ_ _=>False) (λst=>(resX P st fn.results.toList).holds λrs=>RetR ctr hc.length Q rs st.heap) [.code c] (wS fn args hc)):qR Xp P g ctr args hc Q:=by
 intro O w I0 vals hg hh hr;left;have hn':¬ fn.name = "runtime.NumGoroutine" :=by simpa using hn
 refine⟨by simp [callFunc,hf,hn',hb],?_⟩;refine callsIn_wide.1 (callsIn_of_wp_marks (F:=Fence.wide) (n:=0) hf hb trivial ?_);have:=H O w I0 hh.len w I0 _ (Vi hg hh hr);simp only [wpK,FM] at this;refine wpIn_mono this ?_;rintro e a1 w1 h
 have hfin:∀ (st:St) (σ:List SE) (a':Act) (w':World),((resX P st fn.results.toList).holds λrs=>RetR ctr hc.length Q rs st.heap)->Mod O (vL ctr hc) w I0 w' σ st a'->∃ v,(results fn a'.tmps).run P w' = .ok v w'/\∃ v',Ending.returned v = .returned v'/\∃ r hs Z',Q (r,hs)/\Rep (λb=>Own O Z' b\/(ctr.fresh=true/\b<w.heap.size)) w' r Z' v' /\
   HRep (λb=>Own O Z' b\/(ctr.fresh=true/\b<w.heap.size)) w' Z' hs/\Good O w' Z'/\hc.length<=hs.length/\Hold (if ctr.vD=true then(List.range hc.length).drop ctr.pins else []) w I0 w' Z'/\Ext (Mine I0) w (Mine Z') w':=by
  intro st σ a' w' hR hm;obtain⟨rs,v,h1,⟨M,h2,h3,h4,h5,r0,hs0,hq1,hq2,hq3,h6⟩,h7⟩:=yM hm hR
  let EM:List SE:=M.map λi=>σ.getD i ⟨none,0⟩
  have hMZ:∀ i∈M,i<σ.length:=λi hi=>by rw [hm.hp.len]; exact h3 i hi
  have hget:∀ j:Nat,EM[j]?=(M[j]?).bind λi=>σ[i]?:=by
   intro j;simp only [EM,aN];cases hj:M[j]? with
   | none=>rfl
   | some i=>
    have:=hMZ i (aY hj);simp [this]
  have hnewO:ctr.fresh=true->∀ b,Mine σ b->w.heap.size<=b:=by
   intro hf b hb;have h0:=hfr hf;have hZ0:I0=[]:=by have:=hh.len; rw [h0] at this; exact aU.1 (by simpa using this)
   obtain⟨i,e,ad,g1,g2,g3⟩:=zu.1 hb;rcases hm.since.ext.grow b (.inr hb) with hx | hx
   ·rcases hx with hx | ⟨e',he',_⟩
    ·exact absurd (g3▸hx) (hm.good.dis i e ad g1 g2)
    ·rw [hZ0] at he'; simp at he'
   ·exact hx
  have X:Exp O w' σ st.heap M EM (λb=>Own O EM b\/(ctr.fresh=true/\b<w.heap.size)):=⟨hm.good,hm.hp,h2,h3,hget,λb hb=>by
   rcases hb with hb | ⟨hf,hb⟩
   ·exact .inl hb
   ·exact .inr λhmn=>by have:=hnewO hf b hmn; omega⟩
  have hor:∀ {p:Prop},(ctr.fresh=true->p)->(∀ b,(Own O EM b\/(ctr.fresh=true/\b<w.heap.size))->Own O σ b)\/p:=by
   intro p hp;cases hf:ctr.fresh with
   | true=>exact .inr (hp hf)
   | false=>
    left;rintro b (hb | ⟨hf',_⟩)
    ·exact X.sub hb
    ·cases hf'
  have hmlen:hc.length<=M.length:=by
   rcases aR M.length hc.length with hlt | hge
   ·have:=h4 M.length hlt;simp at this
   ·exact hge
  refine⟨v,h1,v,rfl,r0,hs0,EM,h6,hq1 _ _ _ _ (uC X (hor λhf=>(h5 hf).1) h7),⟨?_,?_,?_,?_⟩,⟨?_,?_,hm.good.stat.own λb hb=>hb.imp id λ⟨e,he,ad,h1,h2⟩=>by
   obtain⟨j,hj⟩:=List.mem_iff_getElem?.1 he;obtain⟨i,_,g2⟩:=X.get' hj;exact⟨e,aY g2,ad,h1,h2⟩⟩,by omega,?_,?_⟩
  ·simp [EM,hq3]
  ·intro i j e f a b he hf ha hb' hij;obtain⟨i',g1,g2⟩:=X.get' he;obtain⟨j',g3,g4⟩:=X.get' hf;refine hm.hp.inj i' j' e f a b g2 g4 ha hb' ?_;rintro rfl;have g5:=wA h2 g1;have g6:=wA h2 g3;rw [g5] at g6; cases g6; exact hij rfl
  ·intro i e a he ha;obtain⟨i',g1,g2⟩:=X.get' he;exact hm.hp.lt i' e a g2 ha
  ·intro j e b he hb';obtain⟨i,g1,g2⟩:=X.get' he;have hb2:(expH st.heap M)[j]?=some (expB st.heap M (st.heap.getD i .dead)):=by simp only [expH,aN,g1,Option.map_some]
   refine(hq2.elim (λhq2=>LeB.of_eq (yw hq2 hb2 hb')) λhq2=>Zc hq2 hb2 hb') _ _ _ _ ?_;have hlt:=h3 i (aY g1);have hgd:st.heap.getD i .dead=st.heap[i]:=by simp [hlt]
   have hbr:=hm.hp.blk i e _ g2 (aF hlt);rw [<- hgd] at hbr;exact WK X (hor λhf=>(h5 hf).2 i (aY g1)) hbr
  ·exact hm.good.old
  ·intro i e ad he had;obtain⟨i',g1,g2⟩:=X.get' he;exact hm.good.dis i' e ad g2 had
  ·cases hmv:ctr.vD with
   | true=>
    intro i e he hi;have hlt:=(aG.1 he).1;rw [hh.len] at hlt
    have hip:i<ctr.pins:=by
     refine bM λg=>hi ?_
     rw [aP rfl];refine List.mem_iff_getElem?.2 ⟨i - ctr.pins,?_⟩;rw [List.getElem?_drop,show ctr.pins+(i - ctr.pins)=i by omega];exact List.getElem?_range hlt
    obtain⟨g1,g2⟩:=hm.since.hold i e (by simpa [vL,hmv] using hip) he;exact⟨by rw [hget,h4 i hlt]; exact g1,g2⟩
   | false=>
    intro i e he _;have hlt:=(aG.1 he).1;rw [hh.len] at hlt;obtain⟨g1,g2⟩:=hm.since.hold i e (by simpa [vL,hmv] using hlt) he;exact⟨by rw [hget,h4 i hlt]; exact g1,g2⟩
  ·refine⟨hm.since.ext.os,hm.since.ext.tape,hm.since.ext.output,hm.since.ext.size,λb hb' hno=> ?_,λb hb'=> ?_⟩
   ·by_cases hOb:O b
    ·exact hm.since.jT b hOb hb'
    ·exact hm.since.ext.keep b hb' (λhx=>by rcases hx with hx | hx; exact hOb hx; exact hno hx)
   ·rcases X.sub (.inr hb') with hx | hx
    ·obtain⟨j,e,ad,g1,g2,g3⟩:=zu.1 hb';obtain⟨i,_,g4⟩:=X.get' g1;exact absurd (g3▸hx) (hm.good.dis i e ad g4 g2)
    ·obtain⟨i,e,ad,g1,g2,g3⟩:=zu.1 hx;rcases hm.since.ext.grow b (.inr hx) with hy | hy
     ·rcases hy with hy | hy
      ·exact absurd (g3▸hy) (hm.good.dis i e ad g1 g2)
      ·exact .inl hy
     ·exact .inr hy
 have hend:∀ (st:St) (σ:List SE),((resX P st fn.results.toList).holds λrs=>RetR ctr hc.length Q rs st.heap)->Mod O (vL ctr hc) w I0 w1 σ st a1->LeavesInM Fence.wide 0 P fn a1.tmps (λe w'=>(∃ v,e = .returned v/\∃ r hs Z',Q (r,hs)/\Rep (λb=>Own O Z' b\/(ctr.fresh=true/\b<w.heap.size)) w' r Z' v /\
   HRep (λb=>Own O Z' b\/(ctr.fresh=true/\b<w.heap.size)) w' Z' hs/\Good O w' Z'/\hc.length<=hs.length/\Hold (if ctr.vD=true then(List.range hc.length).drop ctr.pins else []) w I0 w' Z'/\Ext (Mine I0) w (Mine Z') w')\/∃ ch,e = .panicked ch/\Xp ch/\Died I0 w w') a1.defers .returning w1:=by
  intro st σ hR hm;refine vQ a1.defers w1 hm λw' hm'=> ?_
  obtain⟨v,h1,v',h2,h3⟩:=hfin st σ _ _ hR hm';exact⟨v,h1,.inl ⟨v',h2,h3⟩⟩
 cases e with
 | normal=>
  simp only [wpK] at h;rcases h with ⟨_,st,σ,hR,hm⟩ | ⟨ch,h,_⟩
  ·exact hend st σ hR hm
  ·cases h
 | ret=>
  simp only [wpK] at h;rcases h with ⟨_,st,σ,hR,hm⟩ | ⟨ch,h,_⟩
  ·exact hend st σ hR hm
  ·cases h
 | exit i=>exact absurd h (by simp [wpK])
 | goto l=>exact absurd h (by simp [wpK])
 | panic ch=>
  rcases h with ⟨h,_⟩ | ⟨ch',h,hx,hd⟩
  ·simp at h
  ·cases h;exact Qq a1.defers w1 hd λw' hd'=>.inr ⟨ch,rfl,hx,hd'.died⟩
 | outgrown=>exact absurd h (by simp [wpK])
end
end Go.Sx
end
section
namespace Go.Sx
variable [Stat]
open Go.RowKit (Below)
def natG(k:IntKind)(l:List Nat):Nat->Nat->AV:=λj _=>.int k ((l.getD j 0:Nat):Int)
def natS(k:IntKind)(l:List Nat):AV:=.sl l.length 1 (natG k l)
abbrev KV:=List (Nat×AV)
def look:KV->Nat->AV
 | [],_=>.undef
 | (i,a)::l,t=>if i=t then a else look l t
def pk(n:Nat)(l:KV):List AV:=(List.range n).map (look l)
def mk(n:Nat)(l:KV)(h:Heap):St:=⟨pk n l,h⟩
inductive qa where
 | ret (rs:List AV) (h:Heap)
 | back (d:Nat) (kv:KV) (h:Heap)
 | loop (c:Code) (k:List Item) (kv:KV) (h:Heap)
 | range (c:Code) (k:List Item) (kv:KV) (h:Heap)
 | gone
abbrev Tree.R(a:List AV)(h:Heap):Tree qa:=.leaf (.ret a h)
abbrev Tree.S(v:Int)(t:Tree qa):Tree qa:=.side (inR .i64 v) t
abbrev Tree.D(p:Prop)[Decidable p](a b:Tree qa):Tree qa:=.ite (decide p) a b
abbrev Tree.N(p:Prop)[Decidable p](a b:Tree qa):Tree qa:=.ite (!decide p) a b
abbrev Tree.A(k:Unit->Tree qa):Tree qa:=.all (λ_=>True) k
abbrev Z(n:Nat):Nat×AV:=(n,.undef)
def kvOf(live:List Nat)(st:St):KV:=live.map λi=>(i,see [] (st.tmps.getD i .undef))
def post(P:Program)(fn:Func)(live:List Nat):Leaf->Tree qa
 | .ret st=>(resX P st fn.results.toList).bind λrs=>.leaf (.ret rs st.heap)
 | .back d st=>if st.tmps.length=fn.ntmps then .leaf (.back d (kvOf live st) st.heap) else .fail
 | .loop c k st=>if st.tmps.length=fn.ntmps then .leaf (.loop c k (kvOf live st) st.heap) else .fail
 | .range c k st=>if st.tmps.length=fn.ntmps then .leaf (.range c k (kvOf live st) st.heap) else .fail
 | .gone=>.leaf .gone
def vS:Nat->List Item->List (Code×List Item)
 | 0,_=>[]
 | _+1,[]=>[]
 | n+1,.inBlock _::k=>vS n k
 | _+1,.inLoop::_=>[]
 | n+1,.code c::k=>match c with
  | .skip=>vS n k
  | .seq a b=>vS n (.code a::.code b::k)
  | .region _ _ _=>vS n k
  | .cond _ x y=>vS n (.code x::k)++vS n (.code y::k)
  | .block id c=>vS n (.code c::.inBlock id::k)
  | .loop c=>[(c,k)]
  | .exit id=>match exitTo id k with
   | some k'=>vS n k'
   | none=>[]
  | _=>[]
def wD:Nat->List Item->List (Code×List Item)
 | 0,_=>[]
 | _+1,[]=>[]
 | n+1,.inBlock _::k=>wD n k
 | _+1,.inLoop::_=>[]
 | n+1,.code c::k=>match c with
  | .skip=>wD n k
  | .seq a b=>wD n (.code a::.code b::k)
  | .region _ _ _=>wD n k
  | .cond _ x y=>wD n (.code x::k)++wD n (.code y::k)
  | .block id c=>wD n (.code c::.inBlock id::k)
  | .rangeFunc g ps x y=>[(.rangeFunc g ps x y,k)]
  | .exit id=>match exitTo id k with
   | some k'=>wD n k'
   | none=>[]
  | _=>[]
def rfs(K:List Item)(j:Nat):Code×List Item:=(wD 400 K).getD j (.skip,[])
def wO:Code->Code
 | .rangeFunc _ _ _ y=>y
 | c=>c
def roundOf(K:List Item)(j:Nat):List Item:=[.code (wO (rfs K j).1),.inLoop]
def bare(fn:Func):Func:={ fn with results:= #[] }
def lps(K:List Item)(j:Nat):Code×List Item:=(vS 400 K).getD j (.skip,[])
def inside(K:List Item)(j:Nat):List Item:=.code (lps K j).1::.inLoop::(lps K j).2
def runL(P:Program)(Γ:Nat->Option Ctr)(pin:Nat)(fn:Func)(live:List Nat)(n:Nat)(k:List Item)(st:St):Tree qa:=(run P Γ pin n k st).bind (post P fn live)
section
variable {O:Nat->Prop} {pin:Nat} {w0:World} {I0:List SE} {w:World} {σ:List SE} {P:Program} {st st':St} {a:Act} {Γ:Nat->Option Ctr} {fn:Func} {Xp:List PanicEntry->Prop}
theorem qH{n t:Nat}{l:KV}(h:t<n):(pk n l).getD t .undef=look l t:=by simp [pk,List.getD,h]
theorem znl{live:List Nat}{st:St}{t:Nat} : look (kvOf live st) t=see [] (st.tmps.getD t .undef)\/look (kvOf live st) t = .undef:=by
 unfold kvOf
 induction live with
 | nil=>exact .inr rfl
 | cons i l ih=>
  simp only [List.map_cons,look];split
  ·rename_i h; subst h; exact .inl rfl
  ·exact ih
theorem WD(hm:Mod O pin w0 I0 w σ st a)(live:List Nat)(hn:st.tmps.length=fn.ntmps):Mod O pin w0 I0 w σ (mk fn.ntmps (kvOf live st) st.heap) a:=by
 refine⟨hm.good,hm.hp,by simp [mk,pk,hm.size,hn],λt=> ?_,hm.df,hm.since,hm.lim⟩;by_cases ht:t<fn.ntmps
 ·simp only [mk];rw [qH ht];have:=(hm.tm t).rep;rcases znl (live:=live) (st:=st) (t:=t) with h | h<;>rw [h]
  ·generalize st.tmps.getD t .undef=x at this;cases x with
   | opt _ _ _=>simp [see,TRep,Rep]
   | _=>simpa only [see,TRep] using this
  ·simp [TRep,Rep]
 ·have:(mk fn.ntmps (kvOf live st) st.heap).tmps.getD t .undef = .undef:=by simp [mk,pk,List.getD,ht]
  rw [this]; simp [TRep,Rep]
def zN(Xp:List PanicEntry->Prop)(M:Option Nat)(P:Program)(fn:Func)(O:Nat->Prop)(pin:Nat)(w0:World)(I0:List SE)(Hs:Nat->KV->Heap->Prop)(R:List AV->Heap->Prop)(k:List Item)(st:St):Prop:=
 Safe Xp M P O pin w0 I0 (λd st=>∃ kv h,Hs d kv h/\st=mk fn.ntmps kv h) (λst=>(resX P st fn.results.toList).holds λrs=>R rs st.heap) k st
abbrev zB(M:Option Nat)(P:Program)(fn:Func)(O:Nat->Prop)(pin:Nat)(w0:World)(I0:List SE)(Hs:Nat->KV->Heap->Prop)(R:List AV->Heap->Prop)(k:List Item)(st:St):Prop:=zN (λ_=>False) M P fn O pin w0 I0 Hs R k st
abbrev zc(P:Program)(fn:Func)(O:Nat->Prop)(pin:Nat)(w0:World)(I0:List SE)(Hs:Nat->KV->Heap->Prop)(R:List AV->Heap->Prop)(k:List Item)(st:St):Prop:=zN (λ_=>False) none P fn O pin w0 I0 Hs R k st
abbrev Uz(Xp:List PanicEntry->Prop)(P:Program)(fn:Func)(O:Nat->Prop)(pin:Nat)(w0:World)(I0:List SE)(Hs:Nat->KV->Heap->Prop)(R:List AV->Heap->Prop)(k:List Item)(st:St):Prop:=zN Xp none P fn O pin w0 I0 Hs R k st
def zd(Xp:List PanicEntry->Prop)(M:Option Nat)(P:Program)(fn:Func)(O:Nat->Prop)(pin:Nat)(w0:World)(I0:List SE)(Hs:Nat->KV->Heap->Prop)(R:List AV->Heap->Prop):qa->Prop
 | .ret rs h=>R rs h
 | .back d kv h=>Hs d kv h
 | .loop c k kv h=>zN Xp M P fn O pin w0 I0 Hs R (.code (.loop c)::k) (mk fn.ntmps kv h)
 | .range c k kv h=>zN Xp M P fn O pin w0 I0 Hs R (.code c::k) (mk fn.ntmps kv h)
 | .gone=>True
theorem zc.runX{M:Option Nat}{Hs:Nat->KV->Heap->Prop}{R:List AV->Heap->Prop}{k:List Item}(hmix:P.follows .mixedOrders=true)(hΓ:∀ g c,Γ g=some c->zy Xp P g c)(live:List Nat)(n:Nat){T:Tree qa}(ht:runL P Γ pin fn live n k st=T)(h:T.holds (zd Xp M P fn O pin w0 I0 Hs R)):zN Xp M P fn O pin w0 I0 Hs R k st:=by
 subst ht;simp only [runL,Tree.zn] at h;intro w σ a hm;refine je hmix hΓ (λch a w' h1 h2=>.inr ⟨ch,rfl,h1,h2⟩) n (Tree.qf ?_ h) hm;intro lf hl;cases lf with
 | ret st=>
  simp only [post,Tree.zn] at hl;exactλw σ a hm=>⟨.inl ⟨.inl rfl,st,σ,hl,hm⟩,.inl ⟨.inr rfl,st,σ,hl,hm⟩⟩
 | back d st=>
  simp only [post] at hl;split at hl
  ·rename_i hn;exactλw σ a hm=>⟨_,σ,⟨_,_,hl,rfl⟩,WD hm live hn⟩
  ·exact hl.elim
 | loop c k st=>
  simp only [post] at hl;split at hl
  ·rename_i hn;exactλw σ a hm=>hl w σ a (WD hm live hn)
  ·exact hl.elim
 | range c k st=>
  simp only [post] at hl;split at hl
  ·rename_i hn;exactλw σ a hm=>hl w σ a (WD hm live hn)
  ·exact hl.elim
 | gone=>trivial
def eqKV:KV->KV->Prop
 | [],[]=>True
 | (i,a)::l,(j,b)::m=>i=j/\eqA a b/\eqKV l m
 | _,_=>False
theorem zc.run{M:Option Nat}{Hs:Nat->KV->Heap->Prop}{R:List AV->Heap->Prop}{k:List Item}(hmix:P.follows .mixedOrders=true)(hΓ:∀ g c,Γ g=some c->zf P g c)(live:List Nat)(n:Nat){T:Tree qa}(ht:runL P Γ pin fn live n k st=T)(h:T.holds (zd Xp M P fn O pin w0 I0 Hs R)):zN Xp M P fn O pin w0 I0 Hs R k st:=
 zc.runX hmix (λg c h=>(hΓ g c h).x) live n ht h
theorem zc.n{M:Option Nat}{Hs:Nat->KV->Heap->Prop}{R:List AV->Heap->Prop}{k:List Item}(hΓ:∀ g c,Γ g=some c->zf P g c)(live:List Nat)(T:Tree qa)(h:T.holds (zd Xp M P fn O pin w0 I0 Hs R))(hmix:P.follows .mixedOrders=true:=by kernel_rfl)(ht:runL P Γ pin fn live 400 k st=T:=by kernel_rfl):zN Xp M P fn O pin w0 I0 Hs R k st:=zc.run hmix hΓ live 400 ht h
theorem zec:eqA .undef .undef:=by simp [eqA,eqA0]
theorem zrj{l m:List AV}(hl:l.length=m.length)(h:∀ (i:Nat) (a b:AV),l[i]?=some a->m[i]?=some b->eqA a b):eqL l m:=by
 induction l generalizing m with
 | nil=>cases m with
  | nil=>trivial
  | cons b m=>simp at hl
 | cons a l ih=>
  cases m with
  | nil=>simp at hl
  | cons b m=>
   have h0:=h 0 a b (by simp) (by simp);have hr:=ih (m:=m) (by simpa using hl) (λi x y hx hy=>h (i+1) x y (by simpa using hx) (by simpa using hy));unfold eqL;split
   ·rename_i h1 h2; cases h1
   ·rename_i h1 h2; cases h1; cases h2; exact hr
   ·rename_i h1 h2; cases h1; cases h2; exact⟨h0,hr⟩
   ·rename_i h1 h2 h3; exact absurd rfl (h3 _ _ _ _ rfl)
theorem VG:∀ {l m:KV} (t:Nat),eqKV l m->eqA (look l t) (look m t)
 | [],[],t,_=>zec
 | (i,a)::l,(j,b)::m,t,h=>by
  obtain⟨rfl,h1,h2⟩:=h;simp only [look];split
  ·exact h1
  ·exact VG t h2
 | [],_::_,_,h=>h.elim
 | _::_,[],_,h=>h.elim
def zkp(n:Nat)(l m:KV)(h h':Heap):Bool:=(pk n l).all q8&&(pk n m).all (lowB h'.length)&&decide (h'.length<=h.length)&&h'.all (Kx h'.length)
def zks(n:Nat)(l m:KV)(h h':Heap):Bool:=l.all (λp=>q8 p.2)&&m.all (λp=>lowB h'.length p.2)&&decide (h'.length<=h.length)&&h'.all (Kx h'.length)
theorem YO{f:AV->Bool}(hu:f .undef=true):∀ {l:KV} (t:Nat),(l.all λp=>f p.2)=true->f (look l t)=true
 | [],t,_=>hu
 | (i,a)::l,t,h=>by
  rw [List.all_cons,bA] at h;simp only [look];split
  ·exact h.1
  ·exact YO hu t h.2
theorem zl6{f:AV->Bool}(hu:f .undef=true){l:KV}{n:Nat}(h:(l.all λp=>f p.2)=true):(pk n l).all f=true:=by
 unfold pk;rw [List.all_map,bG];exactλt _=>YO hu t h
theorem zp3{n:Nat}{l m:KV}{h h':Heap}(k:zks n l m h h'=true):zkp n l m h h'=true:=by
 unfold zks at k;unfold zkp;simp only [bA] at k ⊢;exact⟨⟨⟨zl6 rfl k.1.1.1,zl6 rfl k.1.1.2⟩,k.1.2⟩,k.2⟩
def LeK(pin n:Nat)(l:KV)(h:Heap)(m:KV)(h':Heap):Prop:=eqKV l m/\eqH h h'/\zks n l m h h'=true/\pin<=h'.length
theorem LeK.le{pin n:Nat}{l m:KV}{h h':Heap}(hle:LeK pin n l h m h'):Le pin (mk n l h) (mk n m h'):=by
 obtain⟨h1,h2,h3,h4⟩:=hle;refine⟨?_,h2,zp3 h3,h4⟩;refine zrj (by simp [mk,pk]) λi a b ha hb=> ?_
 simp only [mk,pk,aN] at ha hb;cases hi:(List.range n)[i]? with
 | none=>simp [hi] at ha
 | some t=>
  simp only [hi,Option.map_some,aE] at ha hb;subst ha; subst hb;exact VG t h1
theorem Wh{M:Option Nat}{H H':Nat->Act->World->Prop}{B:Exit->Act->World->Prop}{k:List Item}{e:Exit}{a:Act}{w:World}(hh:∀ d a w,H' d a w->H d a w)(h:wpK M P H' B k e a w):wpK M P H B k e a w:=
 jG (λd a w _ h=>hh d a w h) h
theorem zc.loop{M:Option Nat}{ι:Type}{Hs:Nat->KV->Heap->Prop}{R:List AV->Heap->Prop}{k:List Item}{c:Code}{kv:KV}{h:Heap}(S:ι->KV)(H:ι->Heap)(μ:ι->Nat)(x0:ι)(dk:Nat)(hle:LeK pin fn.ntmps kv h (S x0) (H x0))
  (round:∀ x,zN Xp M P fn O pin w0 I0 (λd kv h=>if d=dk then ∃ x',μ x'<μ x/\LeK pin fn.ntmps kv h (S x') (H x') else Hs d kv h) R (.code c::.inLoop::k) (mk fn.ntmps (S x) (H x)))
  (hd:qM k=dk):zN Xp M P fn O pin w0 I0 Hs R (.code (.loop c)::k) (mk fn.ntmps kv h):=by
 subst hd;refine Safe.loop (λx=>mk fn.ntmps (S x) (H x)) μ x0 hle.le λx=> ?_
 intro w σ a hm;have:=round x w σ a hm;refine Wh ?_ this;intro d a w hh;obtain⟨st,σ,⟨kv,h,h1,rfl⟩,h2⟩:=hh;refine⟨_,σ,?_,h2⟩;split at h1
 ·rename_i hd;rw [aP hd];obtain⟨x',h3,h4⟩:=h1;exact⟨x',h3,h4.le⟩
 ·rename_i hd;rw [aO hd];exact⟨kv,h,h1,rfl⟩
theorem zh3{g:Nat}{c:Code}{ctr:Ctr}(hf:P.funcs[g]?=some fn)(hb:fn.body=some c) (hn:(fn.name == "runtime.NumGoroutine")=false)
  {args:List AV} {hc:Heap} {Q:AV×Heap->Prop} (hfr:ctr.fresh=true->hc=[]) (H:∀ (O:Nat->Prop) (w0:World) (I0:List SE),I0.length=hc.length ->
   Uz Xp P fn O (vL ctr hc) w0 I0 (λ_ _ _=>False) (RetR ctr hc.length Q) [.code c] (wS fn args hc)):qR Xp P g ctr args hc Q:=by
 refine zpr hf hb hn hfr λO w0 I0 hl=> ?_
 intro w σ a hm;refine Wh ?_ (H O w0 I0 hl w σ a hm);rintro d a w ⟨st,σ,⟨kv,h,h1,_⟩,_⟩;exact h1.elim
theorem fn_k{g:Nat}{c:Code}{ctr:Ctr}(hf:P.funcs[g]?=some fn)(hb:fn.body=some c) (hn:(fn.name == "runtime.NumGoroutine")=false)
  {args:List AV} {hc:Heap} {Q:AV×Heap->Prop} (hfr:ctr.fresh=true->hc=[]) (H:∀ (O:Nat->Prop) (w0:World) (I0:List SE),I0.length=hc.length ->
   zc P fn O (vL ctr hc) w0 I0 (λ_ _ _=>False) (RetR ctr hc.length Q) [.code c] (wS fn args hc)):jK P g ctr args hc Q:=
 (zh3 hf hb hn hfr H).plain
theorem jI{a:AV}(h:qF a=true):eqA0 a a:=by cases a<;>simp [qF] at h<;>simp [eqA0]
theorem Kg{a:AV}(h:Zs a=true):eqA2 a a:=by
 have hL:∀ l:List AV,l.all qF=true->eqL0 l l:=by
  intro l
  induction l with
  | nil=>exactλ_=>trivial
  | cons a l ih=>intro h; simp only [List.all_cons,bA] at h; exact⟨jI h.1,ih h.2⟩
 cases a with
 | agg l=>exact hL l h
 | tup l=>
  have:∀ l:List AV,l.all qF=true->eqL1 l l:=by
   intro l
   induction l with
   | nil=>exactλ_=>trivial
   | cons a l ih=>
    intro h; simp only [List.all_cons,bA] at h;refine⟨?_,ih h.2⟩;have:=jI h.1;cases a<;>first | exact this | (simp [qF] at h; done)
  exact this l h
 | fn g p q=>exact jI (a:=.fn g p q) h
 | bool b=>exact jI (a:=.bool b) h
 | int k n=>exact jI (a:=.int k n) h
 | str b=>exact jI (a:=.str b) h
 | nils=>exact jI (a:=.nils) h
 | nilp=>exact jI (a:=.nilp) h
 | nilf=>exact jI (a:=.nilf) h
 | _=>simp [Zs,qF] at h
theorem RetR.scal{ctr:Ctr}{Q:AV×Heap->Prop}{rs:List AV}{h:Heap}{r:AV}(hq:Q (r,[]))(hs:Zs r=true)(hr:resV rs=r):RetR ctr 0 Q rs h:=by
 subst hr
 have e0:∀ a,qF a=true->exp0 h [] a=a/\new0 h [] a:=by
  intro a ha;cases a with
  | fn g p q=>cases p<;>cases q<;>simp [qF] at ha; exact⟨rfl,rfl⟩
  | _=>first | exact⟨rfl,rfl⟩ | simp [qF] at ha
 have eL:∀ l:List AV,l.all qF=true->l.map (exp0 h [])=l/\∀ a∈l,new0 h [] a:=by
  intro l hl;rw [bG] at hl;refine⟨?_,λa ha=>(e0 a (hl a ha)).2⟩
  conv=>rhs; rw [<- List.map_id l]
  exact List.map_congr_left λa ha=>(e0 a (hl a ha)).1
 have e1:exp2 h [] (resV rs)=resV rs/\new2 h [] (resV rs):=by
  generalize resV rs=a at hs;cases a with
  | agg l=>simp only [Zs] at hs; simp only [exp2,exp1,new2,new1,(eL l hs).1]; exact⟨trivial,(eL l hs).2⟩
  | tup l=>
   simp only [Zs] at hs;have hall:=bG.1 hs
   have h1:∀ a∈l,exp1 h [] a=a/\new1 h [] a:=by
    intro a ha;have hsa:=hall a ha;obtain⟨h2,h3⟩:=e0 a hsa;cases a with
    | agg _=>simp [qF] at hsa
    | tup _=>simp [qF] at hsa
    | fn g p q=>cases p<;>cases q<;>simp [qF] at hsa; exact⟨rfl,rfl⟩
    | _=>exact⟨h2,h3⟩
   refine⟨?_,λa ha=>(h1 a ha).2⟩;simp only [exp2];congr 1
   conv=>rhs; rw [<- List.map_id l]
   exact List.map_congr_left λa ha=>(h1 a ha).1
  | fn g p q=>cases p<;>cases q<;>simp [Zs,qF] at hs; exact⟨rfl,rfl⟩
  | bool b=>exact e0 (.bool b) rfl
  | int k n=>exact e0 (.int k n) rfl
  | str b=>exact e0 (.str b) rfl
  | nils=>exact e0 .nils rfl
  | nilp=>exact e0 .nilp rfl
  | nilf=>exact e0 .nilf rfl
  | _=>simp [Zs,qF] at hs
 exact⟨[],rfl,by simp,by simp,λ_=>⟨e1.2,by simp⟩,_,[],by rw [e1.1]; exact LeA.refl _,.inl (by simp [eqH]),rfl,hq⟩
def ctrT{X R:Type}(fresh vD:Bool)(inp:X->List AV)(hin:X->Heap)(pre:X->Prop)(post:X->R->Prop)(out:X->R->AV×Heap):Ctr where
 fresh:=fresh
 vD:=vD
 spec args hc:=.ex (λx=>eqL args (inp x)/\eqH hc (hin x)/\hc.length=(hin x).length/\pre x) λx=>.all (post x) λr=>.leaf (out x r)
def ctrP{X R:Type}(fresh:Bool)(inp:X->List AV)(pre:X->Prop)(post:X->R->Prop)(out:X->R->AV×Heap):Ctr where
 fresh:=fresh
 spec args hc:=match hc with
  | []=>.ex (λx=>eqL args (inp x)/\pre x) λx=>.all (post x) λr=>.leaf (out x r)
  | _=>.fail
theorem jK.le{ctr:Ctr}{g:Nat}{args args':List AV}{hc:Heap}{Q:AV×Heap->Prop}(h:eqL args args')(k:jK P g ctr args' hc Q):jK P g ctr args hc Q:=
 λO w σ vals hg hh hr=>k O w σ vals hg hh ((vT h).rep hr)
theorem jK.leH{ctr:Ctr}{g:Nat}{args:List AV}{hc hc':Heap}{Q:AV×Heap->Prop}(h:eqH hc hc')(hl:hc.length=hc'.length)(k:jK P g ctr args hc' Q):jK P g ctr args hc Q:=by
 intro O w σ vals hg hh hr
 have hh':HRep (Own O σ) w σ hc':=by
  refine⟨hl▸hh.len,hh.inj,hh.lt,λi e b he hb=> ?_⟩;have hi:i<hc.length:=by rw [hl]; exact(aG.1 hb).1
  exact yv (yw h (aF hi) hb) (hh.blk i e _ he (aF hi))
 have:=k O w σ vals hg hh' hr;rw [hl];exact this
theorem zP{X R:Type}{fresh vD:Bool}{inp:X->List AV}{hin:X->Heap}{pre:X->Prop}{post:X->R->Prop}{out:X->R->AV×Heap}{g:Nat}{c:Code}(hf:P.funcs[g]?=some fn)(hb:fn.body=some c) (hn:(fn.name == "runtime.NumGoroutine")=false)
  (hfr:fresh=true->∀ x,hin x=[])
  (H:∀ x,pre x->∀ (O:Nat->Prop) (w0:World) (I0:List SE) (Q:AV×Heap->Prop),I0.length=(hin x).length->(∀ r,post x r->Q (out x r)) ->
   zc P fn O (bif vD then 0 else(hin x).length) w0 I0 (λ_ _ _=>False) (RetR (ctrT fresh vD inp hin pre post out) (hin x).length Q) [.code c] (wS fn (inp x) (hin x))):zf P g (ctrT fresh vD inp hin pre post out):=by
 intro args hc Q hq _;obtain⟨x,⟨h1,h2,h3,h4⟩,h5,h6⟩:=hq;refine jK.le h1 (jK.leH h2 h3 (fn_k hf hb hn (λh=>hfr h x) λO w0 I0 hl=> ?_));exact H x h4 O w0 I0 Q hl h6
theorem zh{X R:Type}{fresh:Bool}{inp:X->List AV}{pre:X->Prop}{post:X->R->Prop}{out:X->R->AV×Heap}{g:Nat}{c:Code}(hf:P.funcs[g]?=some fn)(hb:fn.body=some c) (hn:(fn.name == "runtime.NumGoroutine")=false)
  (H:∀ x,pre x->∀ (O:Nat->Prop) (w0:World) (Q:AV×Heap->Prop),(∀ r,post x r->Q (out x r)) ->
   zc P fn O 0 w0 [] (λ_ _ _=>False) (RetR (ctrP fresh inp pre post out) 0 Q) [.code c] (entry fn (inp x))):zf P g (ctrP fresh inp pre post out):=by
 intro args hc Q hq _;simp only [ctrP] at hq;split at hq
 ·obtain⟨x,⟨h1,h4⟩,h5,h6⟩:=hq;refine jK.le h1 (fn_k hf hb hn (λh=>rfl) λO w0 I0 hl=> ?_);have h0:I0=[]:=aU.1 (by simpa using hl);subst h0;exact H x h4 O w0 Q h6
 ·exact hq.elim
theorem zh'(fn:Func){X R:Type}{fresh:Bool}{inp:X->List AV}{pre:X->Prop}{post:X->R->Prop}{out:X->R->AV×Heap}{g:Nat} (H:∀ x,pre x->∀ (O:Nat->Prop) (w0:World) (Q:AV×Heap->Prop),(∀ r,post x r->Q (out x r)) ->
   zc P fn O 0 w0 [] (λ_ _ _=>False) (RetR (ctrP fresh inp pre post out) 0 Q) [.code (fn.body.getD .skip)] (entry fn (inp x))) (hf:P.funcs[g]?=some fn:=by exact rfl)(hb:fn.body=some (fn.body.getD .skip):=by exact rfl)(hn:(fn.name == "runtime.NumGoroutine")=false:=by exact rfl):zf P g (ctrP fresh inp pre post out):=zh hf hb hn H
theorem qR.le{ctr:Ctr}{g:Nat}{args args':List AV}{hc:Heap}{Q:AV×Heap->Prop}(h:eqL args args')(k:qR Xp P g ctr args' hc Q):qR Xp P g ctr args hc Q:=
 λO w σ vals hg hh hr=>k O w σ vals hg hh ((vT h).rep hr)
theorem qR.leH{ctr:Ctr}{g:Nat}{args:List AV}{hc hc':Heap}{Q:AV×Heap->Prop}(h:eqH hc hc')(hl:hc.length=hc'.length)(k:qR Xp P g ctr args hc' Q):qR Xp P g ctr args hc Q:=by
 intro O w σ vals hg hh hr
 have hh':HRep (Own O σ) w σ hc':=by
  refine⟨hl▸hh.len,hh.inj,hh.lt,λi e b he hb=> ?_⟩;have hi:i<hc.length:=by rw [hl]; exact(aG.1 hb).1
  exact yv (yw h (aF hi) hb) (hh.blk i e _ he (aF hi))
 have:=k O w σ vals hg hh' hr;rw [hl];exact this
theorem RetR.out0{ctr:Ctr}{Q:AV×Heap->Prop}{rs:List AV}{h:Heap}{r:AV}(hq:Q (r,[]))(hn:ctr.fresh=true->new2 h [] (resV rs))(he:eqA2 (exp2 h [] (resV rs)) r):RetR ctr 0 Q rs h:=
 ⟨[],rfl,by simp,by simp,λhf=>⟨hn hf,by simp⟩,r,[],qW he,.inl (by simp [expH,eqH]),rfl,hq⟩
theorem RetR.le0{ctr:Ctr}{Q:AV×Heap->Prop}{rs:List AV}{h:Heap}{r:AV}(hq:Q (r,[]))(hn:ctr.fresh=true->new2 h [] (resV rs))(he:LeA (exp2 h [] (resV rs)) r):RetR ctr 0 Q rs h:=
 ⟨[],rfl,by simp,by simp,λhf=>⟨hn hf,by simp⟩,r,[],he,.inl (by simp [expH,eqH]),rfl,hq⟩
theorem RetR.out1{ctr:Ctr}{Q:AV×Heap->Prop}{rs:List AV}{h:Heap}{r:AV}{b:Blk}(i:Nat)(hi:i<h.length)(hq:Q (r,[b]))(hn:ctr.fresh=true->new2 h [i] (resV rs)/\newB (h.getD i .dead))
  (he:eqA2 (exp2 h [i] (resV rs)) r) (hb:eqB (expB h [i] (h.getD i .dead)) b):RetR ctr 0 Q rs h:=
 ⟨[i],rfl,by simpa using hi,by simp,λhf=>⟨(hn hf).1,by simpa using (hn hf).2⟩,r,[b],qW he,.inl (by simpa [expH,eqH] using hb),rfl,hq⟩
theorem yx{P:Program}(g:Nat)(c:Ctr)(h:(none:Option Ctr)=some c):zy Xp P g c:=by cases h
theorem vJ{P:Program}{F:Nat->Option Ctr}{n:Nat}{C:Ctr}(h:zy Xp P n C)(r:∀ g c,F g=some c->zy Xp P g c)(g:Nat)(c:Ctr)(e:(if g=n then some C else F g)=some c):zy Xp P g c:=by
 by_cases hg:g=n
 ·subst hg;rw [aP rfl] at e;cases e;exact h
 ·rw [aO hg] at e;exact r g c e
theorem zm{P:Program}(g:Nat)(c:Ctr)(h:(none:Option Ctr)=some c):zf P g c:=by cases h
theorem okIf{P:Program}{F:Nat->Option Ctr}{n:Nat}{C:Ctr}(h:zf P n C)(r:∀ g c,F g=some c->zf P g c)(g:Nat)(c:Ctr)(e:(if g=n then some C else F g)=some c):zf P g c:=by
 by_cases hg:g=n
 ·subst hg;rw [aP rfl] at e;cases e;exact h
 ·rw [aO hg] at e;exact r g c e
structure Tb(P:Program)where
 g:Nat->Option Ctr
 h:∀ f c,g f=some c->zf P f c
def tb{P:Program}{n:Nat}{C:Ctr}(h:zf P n C)(r:Tb P):Tb P:=⟨λf=>if f=n then some C else r.g f,okIf h r.h⟩
def tz{P:Program}:Tb P:=⟨λ_=>none,zm⟩
end
end Go.Sx
end
section
namespace Go.Nov
abbrev B:Nat:=1000000000
def val:List Nat->Nat
 | []=>0
 | d::l=>d+B*val l
def dig(l:List Nat):Prop:=∀ d∈l,d<B
def canon(x:Nat):List Nat:=if h:x=0 then [] else x%B::canon (x/B)
termination_by x
decreasing_by exact Nat.div_lt_self (bX h) (by decide)
theorem zS:canon 0=[]:=by rw [canon]; simp
theorem jo{x:Nat}(h:x≠0):canon x=x%B::canon (x/B):=by rw [canon]; simp [h]
theorem zl(x:Nat):val (canon x)=x:=by
 induction x using Nat.strongRecOn with
 | _ x ih=>
  by_cases h:x=0
  ·subst h; simp [zS,val]
  ·rw [jo h,val,ih _ (Nat.div_lt_self (bX h) (by decide))];exact Nat.mod_add_div x B
theorem zj(x:Nat):dig (canon x):=by
 induction x using Nat.strongRecOn with
 | _ x ih=>
  by_cases h:x=0
  ·subst h; simp [zS,dig]
  ·rw [jo h];intro d hd;rcases aM.1 hd with rfl | hd
   ·exact Nat.mod_lt _ (by decide)
   ·exact ih _ (Nat.div_lt_self (bX h) (by decide)) d hd
theorem jc{d:Nat}{l:List Nat} : dig (d::l)↔d<B/\dig l:=by simp [dig]
theorem j7{l m:List Nat} : dig (l++m)↔dig l/\dig m:=by
 simp only [dig,cA];exact⟨λh=>⟨λd hd=>h d (.inl hd),λd hd=>h d (.inr hd)⟩,λh d hd=>hd.elim (h.1 d) (h.2 d)⟩
theorem zR(l m:List Nat):val (l++m)=val l+B^l.length*val m:=by
 induction l with
 | nil=>simp [val]
 | cons d l ih=>simp only [List.cons_append,val,ih,aL,Nat.pow_succ]; rw [bN,<- bI,bJ B (B^l.length),Nat.add_assoc]
theorem qG{l:List Nat}(h:dig l):val l<B^l.length:=by
 induction l with
 | nil=>simp [val]
 | cons d l ih=>
  obtain⟨h1,h2⟩:=jc.1 h;have:=ih h2;simp only [val,aL,Nat.pow_succ];have h3:B*(val l+1)<=B*B^l.length:=aS _ this;rw [bN] at h3;rw [bJ (B^l.length)];omega
def tlen:List Nat->Nat
 | []=>0
 | d::l=>if d=0/\tlen l=0 then 0 else tlen l+1
def jf(l:List Nat):List Nat:=l.take (tlen l)
theorem qA:∀ l:List Nat,tlen l<=l.length
 | []=>aJ _
 | d::l=>by
  have:=qA l;simp only [tlen,aL];split<;>omega
theorem jZ:∀ (l:List Nat) (j:Nat),tlen l<=j->l.getD j 0=0
 | [],j,_=>by simp
 | d::l,j,h=>by
  simp only [tlen] at h;split at h
  ·rename_i hd;cases j with
   | zero=>simp [hd.1]
   | succ j=>simpa using jZ l j (by omega)
  ·cases j with
   | zero=>omega
   | succ j=>simpa using jZ l j (by omega)
theorem qZ:∀ l:List Nat,0<tlen l->l.getD (tlen l - 1) 0≠0
 | [],h=>by simp [tlen] at h
 | d::l,h=>by
  simp only [tlen] at h ⊢;split at h
  ·omega
  ·rename_i hd;rw [aO hd];rcases bC (tlen l) with h0 | h0
   ·rw [h0];simp only [h0,and_true] at hd;simpa using hd
   ·have:=qZ l h0;rw [show tlen l+1 - 1=(tlen l - 1)+1 by omega];simpa using this
theorem val_zero{l:List Nat}(h:tlen l=0):val l=0:=by
 induction l with
 | nil=>rfl
 | cons d l ih=>
  simp only [tlen] at h;split at h
  ·rename_i hd; simp [val,hd.1,ih hd.2]
  ·omega
theorem J5{l:List Nat}(h:0<tlen l):0<val l:=by
 induction l with
 | nil=>simp [tlen] at h
 | cons d l ih=>
  simp only [tlen] at h;split at h
  ·omega
  ·rename_i hd;simp only [val];rcases bC (tlen l) with h0 | h0
   ·simp only [h0,and_true] at hd; omega
   ·have:=ih h0;have:0<B*val l:=Nat.mul_pos (by decide) this;omega
theorem zY{l:List Nat}(h:dig l):jf l=canon (val l):=by
 induction l with
 | nil=>simp [jf,tlen,val,zS]
 | cons d l ih=>
  obtain⟨h1,h2⟩:=jc.1 h;have ih:=ih h2;simp only [jf] at ih ⊢;by_cases hz:d=0/\tlen l=0
  ·have:=val_zero hz.2;simp [tlen,hz,val,this,zS]
  ·have hne:d+B*val l≠0:=by
    rcases bC (tlen l) with h0 | h0
    ·simp only [h0,and_true] at hz; omega
    ·have:=Nat.mul_pos (show 0<B by decide) (J5 h0);omega
   simp only [val,tlen,aO hz,List.take_succ_cons];rw [jo hne,ih];have e1:(d+B*val l)%B=d:=by rw [Nat.add_mul_mod_self_left,Nat.mod_eq_of_lt h1]
   have e2:(d+B*val l)/B=val l:=by rw [Nat.add_mul_div_left _ _ (by decide),Nat.div_eq_of_lt h1,Nat.zero_add]
   rw [e1,e2]
theorem j3(x:Nat):tlen (canon x)=(canon x).length:=by
 have:=zY (zj x);rw [zl] at this;have h:=congrArg List.length this;simp only [jf,aH] at h;have:=qA (canon x);omega
theorem VJ{l:List Nat}(h:dig l)(ht:tlen l=l.length):canon (val l)=l:=by
 rw [<- zY h,jf,ht,bD]
theorem Jw:∀ {l m:List Nat},dig l->dig m->l.length=m.length->val l=val m->l=m
 | [],[],_,_,_,_=>rfl
 | [],_::_,_,_,h,_=>by simp at h
 | _::_,[],_,_,h,_=>by simp at h
 | d::l,e::m,h1,h2,h3,h4=>by
  obtain⟨a1,a2⟩:=jc.1 h1;obtain⟨b1,b2⟩:=jc.1 h2;simp only [val] at h4
  have e1:d=e:=by
   have:=congrArg (· % B) h4;simpa only [Nat.add_mul_mod_self_left,Nat.mod_eq_of_lt a1,Nat.mod_eq_of_lt b1] using this
  subst e1;have e2:val l=val m:=Nat.eq_of_mul_eq_mul_left (show 0<B by decide) (by omega);rw [Jw a2 b2 (by simpa using h3) e2]
theorem ZZ{i:Nat} : ∀ {l m:List Nat},dig l->l.length=m.length->(∀ j,i<j->l.getD j 0=m.getD j 0)->l.getD i 0<m.getD i 0->val l<val m:=by
 induction i with
 | zero=>
  intro l m h1 h3 h4 h5;cases l with
  | nil=>cases m with
   | nil=>simp at h5
   | cons _ _=>simp at h3
  | cons d l=>cases m with
   | nil=>simp at h3
   | cons e m=>
    simp only [List.getD_cons_zero] at h5
    have:l=m:=by
     apply List.ext_getElem (by simpa using h3);intro j hj hj';have:=h4 (j+1) (by omega);simpa [hj,hj'] using this
    subst this;simp only [val]; omega
 | succ i ih=>
  intro l m h1 h3 h4 h5;cases l with
  | nil=>cases m with
   | nil=>simp at h5
   | cons _ _=>simp at h3
  | cons d l=>cases m with
   | nil=>simp at h3
   | cons e m=>
    simp only [List.getD_cons_succ] at h5;obtain⟨a1,a2⟩:=jc.1 h1;have:=ih a2 (by simpa using h3) (λj hj=>by simpa using h4 (j+1) (by omega)) h5;simp only [val];have h6:B*(val l+1)<=B*val m:=aS _ this;rw [bN] at h6;omega
theorem qj{x y:Nat}(h:(canon x).length<(canon y).length):x<y:=by
 have h1:=qG (zj x);rw [zl] at h1
 have h2:B^((canon y).length - 1)<=y:=by
  have hl:=j3 y;have hpos:0<tlen (canon y):=by omega
  have:=qZ (canon y) hpos;rw [hl] at this;generalize hc:canon y=l at *
  have hy:val l=y:=by rw [<- hc,zl]
  have hsplit:l=l.take (l.length - 1)++[l.getD (l.length - 1) 0]:=by
   have hlt:l.length - 1<l.length:=by omega
   rw [show l.getD (l.length - 1) 0=l[l.length - 1] by simp [List.getD,hlt]];have:=List.take_append_getElem hlt;rw [this,show l.length - 1+1=l.length by omega,bD]
  rw [<- hy]
  conv=>rhs; rw [hsplit]
  rw [zR];simp only [val,aH,Nat.mul_zero,Nat.add_zero];rw [show min (l.length - 1) l.length=l.length - 1 by omega];have:B^(l.length - 1)*1<=B^(l.length - 1)*l.getD (l.length - 1) 0:=aS _ (bX this);omega
 have h3:B^(canon x).length<=B^((canon y).length - 1):=bY (by decide) (by omega);omega
theorem zt:∀ (l:List Nat) (i:Nat),val (l.take (i+1))=val (l.take i)+B^i*l.getD i 0
 | [],i=>by simp [val]
 | d::l,0=>by simp [val]
 | d::l,i+1=>by
  have:=zt l i;simp only [List.take_succ_cons,val,this,List.getD_cons_succ,Nat.pow_succ];rw [bN,Nat.add_assoc,<- bI,bJ B (B^i)]
theorem zU{l:List Nat}(h:dig l)(i:Nat):l.getD i 0<B:=by
 by_cases hi:i<l.length
 ·have:=h l[i] (bK hi);simpa [List.getD,hi] using this
 ·simp [List.getD,aZ (Nat.le_of_not_lt hi)]
theorem Z3:∀ (l:List Nat) (p d:Nat),p<l.length->val (l.set p d)+B^p*l.getD p 0=val l+B^p*d
 | [],p,d,h=>by simp at h
 | e::l,0,d,_=>by simp only [List.set_cons_zero,val,List.getD_cons_zero,Nat.pow_zero]; omega
 | e::l,p+1,d,h=>by
  have:=Z3 l p d (by simpa using h);have h2:=congrArg (B * ·) this;simp only [bN,<- bI] at h2;simp only [List.set_cons_succ,val,List.getD_cons_succ,Nat.pow_succ,bJ (B^p) B];omega
theorem QK{l:List Nat}(h:dig l)(p:Nat){d:Nat}(hd:d<B):dig (l.set p d):=by
 intro e he;rcases List.mem_or_eq_of_mem_set he with he | rfl
 ·exact h e he
 ·exact hd
theorem jQ{l:List Nat}(h:dig l)(n:Nat):dig (l.take n):=λe he=>h e (List.mem_of_mem_take he)
theorem J2{l:List Nat}(h:dig l)(n:Nat):dig (l.drop n):=λe he=>h e (List.mem_of_mem_drop he)
theorem JE{l:List Nat}{n:Nat}(hv:val l<B^n){p:Nat}(hp:n<=p):l.getD p 0=0:=by
 rcases bC (l.getD p 0) with h | h
 ·exact h
 exfalso;have h1:=zt l p;have h2:val l=val (l.take (p+1))+B^(l.take (p+1)).length*val (l.drop (p+1)):=by rw [<- zR,bU]
 have h3:B^p*1<=B^p*l.getD p 0:=aS _ h;have h4:B^n<=B^p:=bY (by decide) hp;omega
def padN(n x:Nat):List Nat:=canon x++List.replicate (n - (canon x).length) 0
theorem jR(n:Nat):val (List.replicate n 0)=0:=by
 induction n with
 | zero=>rfl
 | succ n ih=>simp [List.replicate_succ,val,ih]
theorem jt(n:Nat):dig (List.replicate n 0):=by
 intro d hd;rw [List.mem_replicate] at hd;rw [hd.2]; decide
theorem za0{l:List Nat}(h:dig l):l=padN l.length (val l):=by
 have ht:=zY h;have hl:=congrArg List.length ht;have:=qA l;simp only [jf,aH] at hl;refine Jw h (j7.2 ⟨zj _,jt _⟩) ?_ ?_
 ·simp only [padN,bO,List.length_replicate]; omega
 ·rw [padN,zR,zl,jR]; omega
theorem Yh{l:List Nat}(h:dig l):tlen l=(canon (val l)).length:=by
 have hl:=congrArg List.length (zY h);have:=qA l;simp only [jf,aH] at hl;omega
end Go.Nov
end
section
set_option maxRecDepth 20000
namespace Go.Nov
def jw(v y z:Nat):Nat->Nat->Nat->Nat
 | 0,q,_=>q
 | n+1,q,r=>if B<=q\/r*B+v<q*z then(if B<=r+y then q - 1 else jw v y z n (q - 1) (r+y)) else q
theorem Y4{v y z top Q:Nat}(hQ:Q<B)(hT:Q*(y*B+z)<=top*B+v):∀ (n q r:Nat),q*y+r=top->Q<=q->Q<=jw v y z n q r
 | 0,q,r,_,h=>h
 | n+1,q,r,hi,h=>by
  simp only [jw];split
  ·rename_i hc
   have h1:Q<=q - 1:=by
    rcases hc with hc | hc
    ·omega
    ·have:Q≠q:=by
      rintro rfl;have e:top*B=Q*y*B+r*B:=by rw [<- hi,bH]
      have e2:Q*(y*B+z)=Q*y*B+Q*z:=by rw [bN,bI]
      omega
     omega
   split
   ·exact h1
   ·rcases bC q with h0 | h0
    ·subst h0;have:Q=0:=by omega
     subst this;exact aI _
    ·refine Y4 hQ hT n (q - 1) (r+y) ?_ h1
     have:q*y=(q - 1)*y+y:=by
      conv=>lhs; rw [show q=(q - 1)+1 by omega,bH,Nat.one_mul]
     omega
  ·exact h
theorem Yk{v y z top:Nat}(hz:z<B):∀ (n q r:Nat),q*y+r=top->r<B->B<=r+n*y->(q<=B\/(q=B+1/\r+y<B)) ->
  jw v y z n q r<B/\jw v y z n q r*(y*B+z)<=top*B+v
 | 0,q,r,hi,hr,hn,hq=>by omega
 | n+1,q,r,hi,hr,hn,hq=>by
  have hBB:B=1000000000:=rfl;have e:top*B=q*y*B+r*B:=by rw [<- hi,bH]
  simp only [jw];split
  ·rename_i hc
   have h0:0<q:=by
    rcases bC q with h0 | h0
    ·subst h0; simp at hc
    ·exact h0
   have hqy:q*y=(q - 1)*y+y:=by
    conv=>lhs; rw [show q=(q - 1)+1 by omega,bH,Nat.one_mul]
   split
   ·rename_i hb;have hq1:q - 1<B:=by omega
    refine⟨hq1,?_⟩;have e2:(q - 1)*(y*B+z)=(q - 1)*y*B+(q - 1)*z:=by rw [bN,bI]
    have e3:q*y*B=(q - 1)*y*B+y*B:=by rw [hqy,bH]
    have e4:(q - 1)*z<=B*B:=Nat.mul_le_mul (Nat.le_of_lt hq1) (Nat.le_of_lt hz);have e5:B*B<=(r+y)*B:=aT _ hb;rw [bH] at e5;omega
   ·rename_i hb;refine Yk hz n (q - 1) (r+y) (by omega) (by omega) ?_ (.inl (by omega));rw [bH] at hn;omega
  ·rename_i hc;have e2:q*(y*B+z)=q*y*B+q*z:=by rw [bN,bI]
   exact⟨by omega,by omega⟩
theorem zur{W V T D S p:Nat}(hS:0<S)(hV1:D*S<=V)(hV2:V<(D+1)*S)(hW1:T*S<=W)(hD:B<=D)(hp:p<B)(hpT:p*D<=T):p<=W/V+1:=by
 have hBB:B=1000000000:=rfl;have hV0:0<V:=bB (Nat.mul_pos (by omega) hS) hV1;rcases aR (W/V+1) p with h | h
 ·exfalso
  have h1:W<(p - 1)*V:=by
   have:=Nat.lt_mul_div_succ W hV0;have h2:V*(W/V+1)<=V*(p - 1):=aS _ (by omega);rw [bJ (p - 1)];omega
  have h2:p*D*S<=T*S:=aT _ hpT;have h3:(p - 1)*V<=(p - 1)*((D+1)*S):=aS _ (Nat.le_of_lt hV2)
  have h4:p*D*S<(p - 1)*(D+1)*S:=by
   rw [bI (p - 1)]; omega
  have h5:=Nat.lt_of_mul_lt_mul_right h4;have h6:(p - 1)*(D+1)=(p - 1)*D+(p - 1):=by rw [bN,Nat.mul_one]
  have hp1:1<=p:=by
   have:0<=W/V:=aI _;omega
  have h7:p*D=(p - 1)*D+D:=by
   have e:p=(p - 1)+1:=by omega
   conv=>lhs; rw [e,bH,Nat.one_mul]
  omega
 ·exact h
theorem zk6{W V T D S:Nat}(hS:0<S)(hV0:0<V)(hV1:D*S<=V)(hW2:W<(T+1)*S):W/V*D<=T:=by
 have h1:W/V*V<=W:=Nat.div_mul_le_self W V;have h2:W/V*(D*S)<=W/V*V:=aS _ hV1;have h3:W/V*D*S<(T+1)*S:=by rw [bI]; omega
 have:=Nat.lt_of_mul_lt_mul_right h3;omega
theorem zgi{y z:Nat}(hy:0<y):B<=y*B+z:=by
 exact bP (Nat.le_mul_of_pos_left B hy) (Nat.le_add_right _ _)
theorem zt2{X v D S V W:Nat}(hV2:V<(D+1)*S)(hW1:(X*B+v)*S<=W)(hWV:W<V*B):X<=D:=by
 have h2:V*B<(D+1)*S*B:=Nat.mul_lt_mul_of_pos_right hV2 (by decide);rw [bI,bJ S B,<- bI] at h2;have h1:(X*B+v)*S<((D+1)*B)*S:=Nat.lt_of_le_of_lt hW1 (Nat.lt_trans hWV h2);have h3:=Nat.lt_of_mul_lt_mul_right h1;have h4:X*B<(D+1)*B:=Nat.lt_of_le_of_lt (Nat.le_add_right _ _) h3;exact Nat.le_of_lt_succ (Nat.lt_of_mul_lt_mul_right h4)
theorem ztk{Q q r y z top v:Nat}(hQ:Q*(y*B+z)<=top*B+v)(hv:v<B)(hdm:q*y+r=top)(hr:r<y):Q<=q:=by
 have h1:Q*(y*B)<=Q*(y*B+z):=aS _ (Nat.le_add_right _ _)
 have h2:Q*y*B<(top+1)*B:=by
  rw [bI,bH,Nat.one_mul];exact Nat.lt_of_le_of_lt (bP h1 hQ) (Nat.add_lt_add_left hv _)
 have h3:=Nat.lt_of_mul_lt_mul_right h2
 have h4:Q*y<(q+1)*y:=by
  rw [bH,Nat.one_mul];clear h1 h2 hQ;omega
 exact Nat.le_of_lt_succ (Nat.lt_of_mul_lt_mul_right h4)
theorem zh4{q r y z top:Nat}(htop:top<=y*B+z)(hdm:q*y+r=top)(hr:r<y)(hz:z<B)(hy:B<=2*y):q<=B\/(q=B+1/\r+y<B):=by
 rcases aR B q with h | h
 ·right;have h1:(B+1)*y<=q*y:=aT _ h;have e1:(B+1)*y=y*B+y:=by rw [bH,Nat.one_mul,bJ]
  rcases aR (B+1) q with h2 | h2
  ·exfalso;have h3:(B+2)*y<=q*y:=aT _ h2;have e2:(B+2)*y=y*B+2*y:=by rw [bH,bJ B]
   omega
  ·have:q=B+1:=by omega
   subst this;exact⟨rfl,by omega⟩
 ·exact .inl h
theorem XZ{W V S t u v y z:Nat}(hS:0<S)(hV1:(y*B+z)*S<=V)(hV2:V<(y*B+z+1)*S)(hW1:((t*B+u)*B+v)*S<=W)(hW2:W<((t*B+u)*B+v+1)*S)
  (hWV:W<V*B) (hz:z<B) (hv:v<B) (hy:B<=2*y) (hyB:y<B) (hy0:0<y) :
  W/V<=jw v y z 2 ((t*B+u)/y) ((t*B+u)%y)/\jw v y z 2 ((t*B+u)/y) ((t*B+u)%y)<=W/V+1/\jw v y z 2 ((t*B+u)/y) ((t*B+u)%y)<B/\t*B+u<=y*B+z:=by
 have hD:B<=y*B+z:=zgi hy0;have hV0:0<V:=bB (Nat.mul_pos (bB (by decide) hD) hS) hV1;have htop:=zt2 hV2 hW1 hWV;have hQB:W/V<B:=Nat.div_lt_of_lt_mul hWV;have hQD:=zk6 (T:=(t*B+u)*B+v) hS hV0 hV1 hW2;have hdm:(t*B+u)/y*y+(t*B+u)%y=t*B+u:=by rw [bJ]; exact Nat.div_add_mod _ y
 have hmod:(t*B+u)%y<y:=Nat.mod_lt _ hy0;have hQq:=ztk hQD hv hdm hmod;have hq:=zh4 htop hdm hmod hz hy;have hrB:(t*B+u)%y<B:=Nat.lt_trans hmod hyB;have hle:=Yk (v:=v) hz 2 _ _ hdm hrB (bP hy (Nat.le_add_left _ _)) hq;exact⟨Y4 hQB hQD 2 _ _ hdm hQq,zur hS hV1 hV2 hW1 hD hle.1 hle.2,hle.1,htop⟩
end Go.Nov
end
section
namespace Go.Nov
theorem top2{l:List Nat}{m:Nat}(h:dig l)(hl:l.length=m+2):∃ r,r<B^m/\val l=r+B^m*(l.getD m 0+B*l.getD (m+1) 0):=by
 refine⟨val (l.take m),?_,?_⟩
 ·have:=qG (jQ h m)
  rwa [aH,Nat.min_eq_left (by omega)] at this
 ·have h1:=zt l m;have h2:=zt l (m+1);rw [bF (by omega),h1,Nat.pow_succ] at h2;rw [h2,bN,bI,Nat.add_assoc]
theorem top3{l:List Nat}{m:Nat}(h:dig l)(hl:l.length=m+3):∃ r,r<B^m/\val l=r+B^m*(l.getD m 0+B*(l.getD (m+1) 0+B*l.getD (m+2) 0)):=by
 refine⟨val (l.take m),?_,?_⟩
 ·have:=qG (jQ h m)
  rwa [aH,Nat.min_eq_left (by omega)] at this
 ·have h1:=zt l m;have h2:=zt l (m+1);have h3:=zt l (m+2);rw [bF (by omega),h2,h1,Nat.pow_succ,Nat.pow_succ] at h3;rw [h3,Nat.pow_succ];simp only [bN,bI,Nat.add_assoc]
theorem horner(b t u v:Nat):v+b*(u+b*t)=(t*b+u)*b+v:=by grind
theorem zj1(p b y:Nat):2*(p*(y*b))=p*b*(2*y):=by grind
theorem zdg{r S x V:Nat}(hr:r<S)(h:V=r+S*x):x*S<=V/\V<(x+1)*S:=by
 rw [h,Nat.succ_mul,bJ x S]; omega
theorem yC(u:List Nat)(j k i:Nat)(hi:i<k):((u.drop j).take k).getD i 0=u.getD (j+i) 0:=by
 simp [bR,hi,List.getElem?_drop]
theorem Va(u:List Nat)(j k:Nat)(h:j+k<=u.length):val u=val (u.take j)+B^j*(val ((u.drop j).take k)+B^k*val (u.drop (j+k))):=by
 have h1:u=u.take j++((u.drop j).take k++u.drop (j+k)):=by
  rw [<- List.drop_drop,bU,bU]
 conv=>lhs; rw [h1]
 rw [zR,zR,aH,Nat.min_eq_left (by omega),aH,bW,Nat.min_eq_left (by omega)]
theorem zC{x n:Nat}(h:x<B^n):(canon x).length<=n:=by
 rcases aR n (canon x).length with h1 | h1
 ·exfalso;have h2:=qj (x:=B^n - 1) (y:=x) ?_
  ·omega
  ·have h3:=qG (zj (B^n - 1))
   have:¬ n<(canon (B^n - 1)).length:=by
    intro hlt;have hne:canon (B^n - 1)≠[]:=by intro h0; rw [h0] at hlt; simp at hlt
    have hl:=j3 (B^n - 1);have htop:=qZ (canon (B^n - 1)) (by omega);rw [hl] at htop;have h4:=zt (canon (B^n - 1)) ((canon (B^n - 1)).length - 1);rw [Nat.sub_add_cancel (by omega),bD,zl] at h4;have h5:B^n<=B^((canon (B^n - 1)).length - 1):=bY (by decide) (by omega);have h6:B^((canon (B^n - 1)).length - 1)*1<=B^((canon (B^n - 1)).length - 1)*(canon (B^n - 1)).getD ((canon (B^n - 1)).length - 1) 0:=aS _ (by omega);have h7:0<B^n:=Nat.pow_pos (by decide);omega
   omega
 ·exact h1
theorem jU{x n:Nat}(h:B^n<=x):n<(canon x).length:=by
 have:=qG (zj x);rw [zl] at this;rcases aR n (canon x).length with h1 | h1
 ·exact h1
 ·have:B^(canon x).length<=B^n:=bY (by decide) h1;omega
theorem zh7{t s:Nat}(ht:0<t)(hs:s=B/(t+1))(htB:t<B):0<s/\s*(t+1)<=B/\B<=2*(t*s):=by
 have h1:s*(t+1)<=B:=hs▸Nat.div_mul_le_self _ _
 have h2:B<(s+1)*(t+1):=by
  have:=Nat.lt_mul_div_succ B (show 0<t+1 by omega);rw [<- hs,bJ] at this; exact this
 have h3:0<s:=by rw [hs]; exact Nat.div_pos (by omega) (by omega)
 refine⟨h3,h1,?_⟩;obtain⟨a,rfl⟩:∃ a,t=a+1:=⟨t - 1,by omega⟩;obtain⟨b,rfl⟩:∃ b,s=b+1:=⟨s - 1,by omega⟩;have e:(a+1)*(b+1)=a*b+a+b+1:=by simp only [bH,bN]; omega
 have e2:(b+1+1)*(a+1+1)=a*b+2*a+2*b+4:=by simp only [bH,bN,bJ b a]; omega
 rw [e2] at h2;rw [e];have hB:B=1000000000:=rfl;generalize a*b=p at *
 omega
theorem scaled{y n s t r:Nat}(hr:r<B^n)(hy:y=r+B^n*t)(hs:0<s)(h1:s*(t+1)<=B)(h2:B<=2*(t*s)) :
  y*s<B^(n+1)/\B^(n+1)<=2*(y*s):=by
 have h3:y<B^n*(t+1):=by rw [bN]; omega
 constructor
 ·calc y*s<B^n*(t+1)*s:=Nat.mul_lt_mul_of_pos_right h3 hs
   _=B^n*(s*(t+1)):=by rw [bI,bJ (t+1)]
   _<=B^n*B:=aS _ h1
   _=B^(n+1):=(Nat.pow_succ ..).symm
 ·calc B^(n+1)=B^n*B:=Nat.pow_succ ..
   _<=B^n*(2*(t*s)):=aS _ h2
   _=2*(B^n*t*s):=by rw [Nat.mul_left_comm,bI]
   _<=2*(y*s):=aS _ (aT _ (by omega))
theorem zk9{u:List Nat}{j m V W d:Nat}(hd:dig u)(hj:j+(m+2)+1<=u.length)(hVl:(canon V).length=m+2)(hV2:B^(m+2)<=2*V)(hlt:val u<V*B^(j+1))
  (hW:val ((u.drop j).take (m+2+1))=W) (hdd:jw (u.getD (j+m) 0) ((canon V).getD (m+1) 0) ((canon V).getD m 0) 2 ((u.getD (j+(m+2)) 0*B+u.getD (j+(m+1)) 0)/(canon V).getD (m+1) 0) ((u.getD (j+(m+2)) 0*B+u.getD (j+(m+1)) 0)%(canon V).getD (m+1) 0)=d) :
  W<V*B/\B<=2*(canon V).getD (m+1) 0/\u.getD (j+(m+2)) 0<=(canon V).getD (m+1) 0/\W/V<=d/\d<=W/V+1/\d<B:=by
 have hB:B=1000000000:=rfl;have hVB:=qG (zj V);rw [zl,hVl] at hVB;have hP:0<B^m:=Nat.pow_pos (by decide)
 have hWV:W<V*B:=by
  have h1:=Va u j (m+2+1) (by omega);have h2:B^j*W<=val u:=by rw [h1,bN,hW]; exact bP (Nat.le_add_right _ _) (Nat.le_add_left _ _)
  have h3:B^j*W<B^j*(V*B):=by
   calc B^j*W<=val u:=h2
    _<V*B^(j+1):=hlt
    _=B^j*(V*B):=by rw [Nat.pow_succ,Nat.mul_left_comm]
  exact Nat.lt_of_mul_lt_mul_left h3
 obtain⟨rv,hrv,hv⟩:=top2 (zj V) hVl;rw [zl] at hv;have hwl:((u.drop j).take (m+2+1)).length=m+3:=by simp; omega
 obtain⟨rw',hrw,hw⟩:=top3 (jQ (J2 hd j) (m+2+1)) hwl;rw [yC _ _ _ _ (by omega),yC _ _ _ _ (by omega),yC _ _ _ _ (by omega)] at hw;have hyB:=zU (zj V) (m+1);have hzB:=zU (zj V) m;have hvB:=zU hd (j+m);have huB:=zU hd (j+(m+1));rw [hW] at hw;generalize hyy:(canon V).getD (m+1) 0=y at *
 generalize hzz:(canon V).getD m 0=z at *
 generalize u.getD (j+(m+2)) 0=t at *
 generalize u.getD (j+(m+1)) 0=uu at *
 generalize u.getD (j+m) 0=vv at *
 have ev:z+B*y=y*B+z:=by rw [bJ y B,Nat.add_comm]
 have ew:vv+B*(uu+B*t)=(t*B+uu)*B+vv:=horner B t uu vv;rw [ev] at hv; rw [ew] at hw
 have hy2:B<=2*y:=by
  rcases aR (2*y) B with h1 | h1
  ·exfalso;have h2:V<B^m*(y*B+z+1):=by rw [bN]; omega
   have h3:B^m*(y*B+z+1)<=B^m*((y+1)*B):=aS _ (by rw [bH]; omega)
   have h4:2*(B^m*((y+1)*B))=B^(m+1)*(2*(y+1)):=by
    rw [Nat.pow_succ]; exact zj1 _ _ _
   have h5:B^(m+1)*(2*(y+1))<=B^(m+1)*B:=aS _ (by omega);have h6:B^(m+2)=B^(m+1)*B:=Nat.pow_succ ..;omega
  ·exact h1
 obtain⟨a1,a2⟩:=zdg hrv hv;obtain⟨b1,b2⟩:=zdg hrw hw;obtain⟨g1,g2,g3,g4⟩:=XZ (W:=W) (V:=V) (S:=B^m) (t:=t) (u:=uu) (v:=vv) (y:=y) (z:=z) hP a1 a2 b1 b2 hWV hzB hvB hy2 hyB (by omega);rw [hdd] at g1 g2 g3;refine⟨hWV,hy2,?_,g1,g2,g3⟩;rcases aR y t with h1 | h1
 ·exfalso;have h2:(y+1)*B<=t*B:=aT _ h1;rw [bH] at h2;omega
 ·exact h1
theorem step_eq{u u' q:List Nat}{j k V U0:Nat}(hd:dig u)(hj:j+k<=u.length)(hV:V<B^(k - 1))(hk:1<=k)(hV0:0<V)(hlt:val u<V*B^(j+1))(hq:j<q.length)(heq:U0=V*B^(j+1)*val (q.drop (j+1))+val u)
  (hu':val u'=val (u.take j)+B^j*(val ((u.drop j).take k)%V+B^k*val (u.drop (j+k)))) :
  val u'<V*B^j/\U0=V*B^j*val ((q.set j (val ((u.drop j).take k)/V)).drop j)+val u':=by
 have h1:=Va u j k hj;have h0:=qG (jQ hd j);rw [aH,Nat.min_eq_left (by omega)] at h0;have hP:0<B^j:=Nat.pow_pos (by decide);generalize val ((u.drop j).take k)=W at *
 generalize val (u.take j)=r at *
 have hH:val (u.drop (j+k))=0:=by
  rcases bC (val (u.drop (j+k))) with h | h
  ·exact h
  ·exfalso;have h2:B^k*1<=B^k*val (u.drop (j+k)):=aS _ h
   have h3:B^j*B^k<=val u:=by
    rw [h1];refine bP (aS _ (m:=W+B^k*val (u.drop (j+k))) (by omega)) (Nat.le_add_left _ _)
   have h4:V*B^(j+1)<B^(k - 1)*B^(j+1):=Nat.mul_lt_mul_of_pos_right hV (Nat.pow_pos (by decide));have h5:B^(k - 1)*B^(j+1)=B^j*B^k:=by rw [<- Nat.pow_add,<- Nat.pow_add]; congr 1; omega
   omega
 rw [hH] at h1 hu';simp only [Nat.mul_zero,Nat.add_zero] at h1 hu';have hm:=Nat.mod_lt W hV0;have hdm:=Nat.div_add_mod W V;constructor
 ·rw [hu'];have:B^j*(W%V+1)<=B^j*V:=aS _ hm;rw [bN] at this;rw [bJ V]; omega
 ·have hset:(q.set j (W/V)).drop j=(W/V)::q.drop (j+1):=by
   rw [List.drop_eq_getElem_cons (by simpa using hq)];simp [List.drop_set_of_lt]
  rw [hset,heq,hu',h1];simp only [val];generalize W/V=d at *
  generalize W%V=e at *
  rw [<- hdm,Nat.pow_succ];simp only [bN,<- bI];have e1:V*B^j*B*val (List.drop (j+1) q)=V*B^j*B*val (List.drop (j+1) q):=rfl;have e2:B^j*V*d=V*B^j*d:=by rw [bJ (B^j) V]
  omega
def mixL(u c:List Nat)(j i:Nat):List Nat:=(List.range u.length).map λp=>if j<=p/\p<j+i then c.getD (p - j) 0 else u.getD p 0
theorem XS(u c:List Nat)(j i:Nat):(mixL u c j i).length=u.length:=by simp [mixL]
theorem zev(u c:List Nat)(j:Nat):mixL u c j 0=u:=by
 apply List.ext_getElem (by simp [mixL]);intro p h1 h2;simp only [mixL,List.getElem_map,List.getElem_range];rw [aO (by omega)]; simp [h2]
theorem Ye(u c:List Nat)(j i:Nat)(x:Nat):((mixL u c j i).set (j+i) x).set (j+i) (c.getD i 0)=mixL u c j (i+1):=by
 rw [List.set_set];apply List.ext_getElem (by simp [mixL]);intro p h1 h2;simp only [List.getElem_set,mixL,List.getElem_map,List.getElem_range];by_cases hp:j+i=p
 ·subst hp; rw [aP rfl,aP ⟨by omega,by omega⟩]; congr 1; omega
 ·rw [aO hp];by_cases hc:j<=p/\p<j+i
  ·rw [aP hc,aP ⟨hc.1,by omega⟩]
  ·rw [aO hc,aO (by omega)]
theorem zj0{u c:List Nat}(hu:dig u)(hc:dig c)(j i:Nat):dig (mixL u c j i):=by
 intro d hd;simp only [mixL,List.mem_map] at hd;obtain⟨p,_,rfl⟩:=hd;split
 ·exact zU hc _
 ·exact zU hu _
theorem zh9{u:List Nat}{L j k:Nat}(hj:j+k<=u.length)(hL:(canon L).length<=k):val (mixL u (canon L) j k)=val (u.take j)+B^j*(L+B^k*val (u.drop (j+k))):=by
 have h:mixL u (canon L) j k=u.take j++(padN k L++u.drop (j+k)):=by
  apply List.ext_getElem (by simp [mixL,padN]; omega);intro p h1 h2;simp only [mixL,List.getElem_map,List.getElem_range];rw [XS] at h1;by_cases ha:p<j
  ·rw [aO (by omega),List.getElem_append_left (by simp; omega)]; simp [h1]
  ·have hjl:(u.take j).length=j:=by simp; omega
   rw [List.getElem_append_right (by omega)];simp only [hjl];have hpl:(padN k L).length=k:=by simp [padN]; omega
   by_cases hb:p - j<k
   ·rw [aP (by omega),List.getElem_append_left (by omega)];simp only [padN];by_cases hc:p - j<(canon L).length
    ·rw [List.getElem_append_left hc]; simp [hc]
    ·rw [List.getElem_append_right (by omega)]; simp [aZ (Nat.le_of_not_lt hc)]
   ·rw [aO (by omega),List.getElem_append_right (by omega)];simp only [hpl,List.getElem_drop];have:j+k+(p - j - k)=p:=by omega
    simp [this,h1]
 rw [h,zR,zR,aH,Nat.min_eq_left (by omega)];have hpl:(padN k L).length=k:=by simp [padN]; omega
 have hpv:val (padN k L)=L:=by rw [padN,zR,zl,jR]; simp
 rw [hpl,hpv]
def isD(c:UInt8):Bool:=48<=c.toNat&&c.toNat<=57
def allD(l:L8):Prop:=∀ c∈l,48<=c.toNat/\c.toNat<=57
def numD(l:L8):Nat:=l.foldl (λa c=>a*10+(c.toNat - 48)) 0
theorem zv0(l:L8)(a:Nat):l.foldl (λa c=>a*10+(c.toNat - 48)) a=a*10^l.length+numD l:=by
 induction l generalizing a with
 | nil=>simp [numD]
 | cons c l ih=>
  simp only [List.foldl_cons,numD,aL];rw [ih,ih (0*10+(c.toNat - 48)),Nat.pow_succ];generalize 10^l.length=p;generalize numD l=q;generalize c.toNat - 48=d;rw [bH,Nat.zero_mul,Nat.zero_add,bI,bJ 10 p];omega
theorem kB(l m:L8):numD (l++m)=numD l*10^m.length+numD m:=by
 rw [numD,List.foldl_append,zv0]; rfl
theorem zfk(l:L8)(c:UInt8):numD (l++[c])=numD l*10+(c.toNat - 48):=by
 simp [numD]
theorem uW{l:L8}(h:allD l):numD l<10^l.length:=by
 induction l with
 | nil=>simp [numD]
 | cons c l ih=>
  have hc:=h c (by simp);have hl:=ih λd hd=>h d (by simp [hd])
  have:numD (c::l)=(c.toNat - 48)*10^l.length+numD l:=by
   rw [show c::l=[c]++l from rfl,kB]; simp [numD]
  rw [this,aL,Nat.pow_succ];have h2:(c.toNat - 48)*10^l.length<=9*10^l.length:=aT _ (by omega);omega
theorem UT(l:L8)(i:Nat)(h:i<l.length):l.take (i+1)=l.take i++[l.getD i 0]:=by
 rw [List.take_succ_eq_append_getElem h]; simp [List.getD,h]
def decB(x:ByteArray):Nat:=numD x.data.toList
theorem znw{x:ByteArray}(h:allD x.data.toList)(hl:x.size<=9):decB x<B:=by
 have h1:=uW h;have h2:x.data.toList.length=x.size:=by rw [Array.length_toList]; rfl
 have h3:10^x.data.toList.length<=10^9:=bY (by decide) (by omega);have h4:(10:Nat)^9=B:=by decide
 unfold decB;omega
end Go.Nov
end
section
namespace Go.Nov.Ten
abbrev B:Nat:=10
def val:List Nat->Nat
 | []=>0
 | d::l=>d+B*val l
def dig(l:List Nat):Prop:=∀ d∈l,d<B
def xZ:Nat->Nat->List Nat
 | 0,_=>[]
 | n+1,x=>if x=0 then [] else x%B::xZ n (x/B)
def canon(x:Nat):List Nat:=xZ x x
theorem Vl:∀ (n m x:Nat),x<=n->x<=m->xZ n x=xZ m x
 | 0,m,x,h,_=>by
  have:x=0:=by omega
  subst this;cases m<;>simp [xZ]
 | n+1,0,x,_,h=>by
  have:x=0:=by omega
  subst this;simp [xZ]
 | n+1,m+1,x,h1,h2=>by
  simp only [xZ];by_cases h:x=0
  ·rw [aP h,aP h]
  ·have:=Nat.div_lt_self (bX h) (show 1<B by decide);rw [aO h,aO h,Vl n m (x/B) (by omega) (by omega)]
theorem zS:canon 0=[]:=rfl
theorem jo{x:Nat}(h:x≠0):canon x=x%B::canon (x/B):=by
 have:=Nat.div_lt_self (bX h) (show 1<B by decide);obtain⟨n,rfl⟩:∃ n,x=n+1:=⟨x - 1,by omega⟩;unfold canon;rw [xZ,aO h,Vl n ((n+1)/B) _ (by omega) (aJ _)]
theorem zl(x:Nat):val (canon x)=x:=by
 induction x using Nat.strongRecOn with
 | _ x ih=>
  by_cases h:x=0
  ·subst h; simp [zS,val]
  ·rw [jo h,val,ih _ (Nat.div_lt_self (bX h) (by decide))];exact Nat.mod_add_div x B
theorem zj(x:Nat):dig (canon x):=by
 induction x using Nat.strongRecOn with
 | _ x ih=>
  by_cases h:x=0
  ·subst h; simp [zS,dig]
  ·rw [jo h];intro d hd;rcases aM.1 hd with rfl | hd
   ·exact Nat.mod_lt _ (by decide)
   ·exact ih _ (Nat.div_lt_self (bX h) (by decide)) d hd
theorem jc{d:Nat}{l:List Nat} : dig (d::l)↔d<B/\dig l:=by simp [dig]
theorem j7{l m:List Nat} : dig (l++m)↔dig l/\dig m:=by
 simp only [dig,cA];exact⟨λh=>⟨λd hd=>h d (.inl hd),λd hd=>h d (.inr hd)⟩,λh d hd=>hd.elim (h.1 d) (h.2 d)⟩
theorem zR(l m:List Nat):val (l++m)=val l+B^l.length*val m:=by
 induction l with
 | nil=>simp [val]
 | cons d l ih=>simp only [List.cons_append,val,ih,aL,Nat.pow_succ]; rw [bN,<- bI,bJ B (B^l.length),Nat.add_assoc]
theorem qG{l:List Nat}(h:dig l):val l<B^l.length:=by
 induction l with
 | nil=>simp [val]
 | cons d l ih=>
  obtain⟨h1,h2⟩:=jc.1 h;have:=ih h2;simp only [val,aL,Nat.pow_succ];have h3:B*(val l+1)<=B*B^l.length:=aS _ this;rw [bN] at h3;rw [bJ (B^l.length)];omega
def tlen:List Nat->Nat
 | []=>0
 | d::l=>if d=0/\tlen l=0 then 0 else tlen l+1
def jf(l:List Nat):List Nat:=l.take (tlen l)
theorem qA:∀ l:List Nat,tlen l<=l.length
 | []=>aJ _
 | d::l=>by
  have:=qA l;simp only [tlen,aL];split<;>omega
theorem jZ:∀ (l:List Nat) (j:Nat),tlen l<=j->l.getD j 0=0
 | [],j,_=>by simp
 | d::l,j,h=>by
  simp only [tlen] at h;split at h
  ·rename_i hd;cases j with
   | zero=>simp [hd.1]
   | succ j=>simpa using jZ l j (by omega)
  ·cases j with
   | zero=>omega
   | succ j=>simpa using jZ l j (by omega)
theorem qZ:∀ l:List Nat,0<tlen l->l.getD (tlen l - 1) 0≠0
 | [],h=>by simp [tlen] at h
 | d::l,h=>by
  simp only [tlen] at h ⊢;split at h
  ·omega
  ·rename_i hd;rw [aO hd];rcases bC (tlen l) with h0 | h0
   ·rw [h0];simp only [h0,and_true] at hd;simpa using hd
   ·have:=qZ l h0;rw [show tlen l+1 - 1=(tlen l - 1)+1 by omega];simpa using this
theorem val_zero{l:List Nat}(h:tlen l=0):val l=0:=by
 induction l with
 | nil=>rfl
 | cons d l ih=>
  simp only [tlen] at h;split at h
  ·rename_i hd; simp [val,hd.1,ih hd.2]
  ·omega
theorem J5{l:List Nat}(h:0<tlen l):0<val l:=by
 induction l with
 | nil=>simp [tlen] at h
 | cons d l ih=>
  simp only [tlen] at h;split at h
  ·omega
  ·rename_i hd;simp only [val];rcases bC (tlen l) with h0 | h0
   ·simp only [h0,and_true] at hd; omega
   ·have:=ih h0;have:0<B*val l:=Nat.mul_pos (by decide) this;omega
theorem zY{l:List Nat}(h:dig l):jf l=canon (val l):=by
 induction l with
 | nil=>simp [jf,tlen,val,zS]
 | cons d l ih=>
  obtain⟨h1,h2⟩:=jc.1 h;have ih:=ih h2;simp only [jf] at ih ⊢;by_cases hz:d=0/\tlen l=0
  ·have:=val_zero hz.2;simp [tlen,hz,val,this,zS]
  ·have hne:d+B*val l≠0:=by
    rcases bC (tlen l) with h0 | h0
    ·simp only [h0,and_true] at hz; omega
    ·have:=Nat.mul_pos (show 0<B by decide) (J5 h0);omega
   simp only [val,tlen,aO hz,List.take_succ_cons];rw [jo hne,ih];have e1:(d+B*val l)%B=d:=by rw [Nat.add_mul_mod_self_left,Nat.mod_eq_of_lt h1]
   have e2:(d+B*val l)/B=val l:=by rw [Nat.add_mul_div_left _ _ (by decide),Nat.div_eq_of_lt h1,Nat.zero_add]
   rw [e1,e2]
theorem j3(x:Nat):tlen (canon x)=(canon x).length:=by
 have:=zY (zj x);rw [zl] at this;have h:=congrArg List.length this;simp only [jf,aH] at h;have:=qA (canon x);omega
theorem VJ{l:List Nat}(h:dig l)(ht:tlen l=l.length):canon (val l)=l:=by
 rw [<- zY h,jf,ht,bD]
theorem Jw:∀ {l m:List Nat},dig l->dig m->l.length=m.length->val l=val m->l=m
 | [],[],_,_,_,_=>rfl
 | [],_::_,_,_,h,_=>by simp at h
 | _::_,[],_,_,h,_=>by simp at h
 | d::l,e::m,h1,h2,h3,h4=>by
  obtain⟨a1,a2⟩:=jc.1 h1;obtain⟨b1,b2⟩:=jc.1 h2;simp only [val] at h4
  have e1:d=e:=by
   have:=congrArg (· % B) h4;simpa only [Nat.add_mul_mod_self_left,Nat.mod_eq_of_lt a1,Nat.mod_eq_of_lt b1] using this
  subst e1;have e2:val l=val m:=Nat.eq_of_mul_eq_mul_left (show 0<B by decide) (by omega);rw [Jw a2 b2 (by simpa using h3) e2]
theorem ZZ{i:Nat} : ∀ {l m:List Nat},dig l->l.length=m.length->(∀ j,i<j->l.getD j 0=m.getD j 0)->l.getD i 0<m.getD i 0->val l<val m:=by
 induction i with
 | zero=>
  intro l m h1 h3 h4 h5;cases l with
  | nil=>cases m with
   | nil=>simp at h5
   | cons _ _=>simp at h3
  | cons d l=>cases m with
   | nil=>simp at h3
   | cons e m=>
    simp only [List.getD_cons_zero] at h5
    have:l=m:=by
     apply List.ext_getElem (by simpa using h3);intro j hj hj';have:=h4 (j+1) (by omega);simpa [hj,hj'] using this
    subst this;simp only [val]; omega
 | succ i ih=>
  intro l m h1 h3 h4 h5;cases l with
  | nil=>cases m with
   | nil=>simp at h5
   | cons _ _=>simp at h3
  | cons d l=>cases m with
   | nil=>simp at h3
   | cons e m=>
    simp only [List.getD_cons_succ] at h5;obtain⟨a1,a2⟩:=jc.1 h1;have:=ih a2 (by simpa using h3) (λj hj=>by simpa using h4 (j+1) (by omega)) h5;simp only [val];have h6:B*(val l+1)<=B*val m:=aS _ this;rw [bN] at h6;omega
theorem qj{x y:Nat}(h:(canon x).length<(canon y).length):x<y:=by
 have h1:=qG (zj x);rw [zl] at h1
 have h2:B^((canon y).length - 1)<=y:=by
  have hl:=j3 y;have hpos:0<tlen (canon y):=by omega
  have:=qZ (canon y) hpos;rw [hl] at this;generalize hc:canon y=l at *
  have hy:val l=y:=by rw [<- hc,zl]
  have hsplit:l=l.take (l.length - 1)++[l.getD (l.length - 1) 0]:=by
   have hlt:l.length - 1<l.length:=by omega
   rw [show l.getD (l.length - 1) 0=l[l.length - 1] by simp [List.getD,hlt]];have:=List.take_append_getElem hlt;rw [this,show l.length - 1+1=l.length by omega,bD]
  rw [<- hy]
  conv=>rhs; rw [hsplit]
  rw [zR];simp only [val,aH,Nat.mul_zero,Nat.add_zero];rw [show min (l.length - 1) l.length=l.length - 1 by omega];have:B^(l.length - 1)*1<=B^(l.length - 1)*l.getD (l.length - 1) 0:=aS _ (bX this);omega
 have h3:B^(canon x).length<=B^((canon y).length - 1):=bY (by decide) (by omega);omega
theorem zt:∀ (l:List Nat) (i:Nat),val (l.take (i+1))=val (l.take i)+B^i*l.getD i 0
 | [],i=>by simp [val]
 | d::l,0=>by simp [val]
 | d::l,i+1=>by
  have:=zt l i;simp only [List.take_succ_cons,val,this,List.getD_cons_succ,Nat.pow_succ];rw [bN,Nat.add_assoc,<- bI,bJ B (B^i)]
theorem zU{l:List Nat}(h:dig l)(i:Nat):l.getD i 0<B:=by
 by_cases hi:i<l.length
 ·have:=h l[i] (bK hi);simpa [List.getD,hi] using this
 ·simp [List.getD,aZ (Nat.le_of_not_lt hi)]
theorem Z3:∀ (l:List Nat) (p d:Nat),p<l.length->val (l.set p d)+B^p*l.getD p 0=val l+B^p*d
 | [],p,d,h=>by simp at h
 | e::l,0,d,_=>by simp only [List.set_cons_zero,val,List.getD_cons_zero,Nat.pow_zero]; omega
 | e::l,p+1,d,h=>by
  have:=Z3 l p d (by simpa using h);have h2:=congrArg (B * ·) this;simp only [bN,<- bI] at h2;simp only [List.set_cons_succ,val,List.getD_cons_succ,Nat.pow_succ,bJ (B^p) B];omega
theorem QK{l:List Nat}(h:dig l)(p:Nat){d:Nat}(hd:d<B):dig (l.set p d):=by
 intro e he;rcases List.mem_or_eq_of_mem_set he with he | rfl
 ·exact h e he
 ·exact hd
theorem jQ{l:List Nat}(h:dig l)(n:Nat):dig (l.take n):=λe he=>h e (List.mem_of_mem_take he)
theorem J2{l:List Nat}(h:dig l)(n:Nat):dig (l.drop n):=λe he=>h e (List.mem_of_mem_drop he)
theorem JE{l:List Nat}{n:Nat}(hv:val l<B^n){p:Nat}(hp:n<=p):l.getD p 0=0:=by
 rcases bC (l.getD p 0) with h | h
 ·exact h
 exfalso;have h1:=zt l p;have h2:val l=val (l.take (p+1))+B^(l.take (p+1)).length*val (l.drop (p+1)):=by rw [<- zR,bU]
 have h3:B^p*1<=B^p*l.getD p 0:=aS _ h;have h4:B^n<=B^p:=bY (by decide) hp;omega
def padN(n x:Nat):List Nat:=canon x++List.replicate (n - (canon x).length) 0
theorem jR(n:Nat):val (List.replicate n 0)=0:=by
 induction n with
 | zero=>rfl
 | succ n ih=>simp [List.replicate_succ,val,ih]
theorem jt(n:Nat):dig (List.replicate n 0):=by
 intro d hd;rw [List.mem_replicate] at hd;rw [hd.2]; decide
theorem za0{l:List Nat}(h:dig l):l=padN l.length (val l):=by
 have ht:=zY h;have hl:=congrArg List.length ht;have:=qA l;simp only [jf,aH] at hl;refine Jw h (j7.2 ⟨zj _,jt _⟩) ?_ ?_
 ·simp only [padN,bO,List.length_replicate]; omega
 ·rw [padN,zR,zl,jR]; omega
theorem Yh{l:List Nat}(h:dig l):tlen l=(canon (val l)).length:=by
 have hl:=congrArg List.length (zY h);have:=qA l;simp only [jf,aH] at hl;omega
end Go.Nov.Ten
end
section
namespace Go.Nov
theorem Zl(s:ByteArray)(a b:Nat):(s.extract a b).data.toList=(s.data.toList.take b).drop a:=by
 rw [ByteArray.data_extract,Array.toList_extract];show List.extract s.data.toList a b=_;rw [List.extract_eq_drop_take',List.drop_take]
theorem uA{α:Type}{l m:List α}{p:Nat}{z:α}(h:p<l.length):(l++m).getD p z=l.getD p z:=by
 simp only [List.getD]; rw [bL h]
theorem JK{α:Type}{l m:List α}{p:Nat}{z:α}(h:l.length<=p):(l++m).getD p z=m.getD (p - l.length) z:=by
 simp only [List.getD]; rw [List.getElem?_append_right h]
theorem zdz{α β:Type}{f:α->β}{l:List α}{p:Nat}{z:α}{y:β}(h:p<l.length):(l.map f).getD p y=f (l.getD p z):=by
 simp [List.getD,h]
theorem zlb{α:Type}{n p:Nat}{a z:α}(h:p<n):(List.replicate n a).getD p z=a:=by
 simp [List.getD,h]
theorem zgk{α:Type}{l:List α}{p:Nat}{z:α}(h:l.length<=p):l.getD p z=z:=by
 simp [List.getD,aZ h]
theorem zci{α:Type}{l:List α}{n p:Nat}{z:α}(h:p<n):(l.take n).getD p z=l.getD p z:=by
 simp only [List.getD,bR,aP h]
def decs:Nat->Nat->List Nat
 | 0,_=>[]
 | k+1,x=>x%10::decs k (x/10)
theorem Zz:∀ k x,(decs k x).length=k
 | 0,_=>rfl
 | k+1,x=>by simp [decs,Zz k]
theorem XD:∀ k x,Ten.dig (decs k x)
 | 0,_=>by simp [decs,Ten.dig]
 | k+1,x=>Ten.jc.2 ⟨Nat.mod_lt _ (by decide),XD k _⟩
theorem Y7:∀ k x,x<10^k->Ten.val (decs k x)=x
 | 0,x,h=>by simp [decs,Ten.val] at h ⊢; omega
 | k+1,x,h=>by
  simp only [decs,Ten.val];rw [Y7 k (x/10) (Nat.div_lt_of_lt_mul (by rw [Nat.pow_succ,bJ] at h; exact h))];exact Nat.mod_add_div x 10
theorem Qz:∀ (a b v w:Nat),v<10^a->decs (a+b) (v+10^a*w)=decs a v++decs b w
 | 0,b,v,w,h=>by simp at h; subst h; simp [decs]
 | a+1,b,v,w,h=>by
  rw [show a+1+b=(a+b)+1 by omega];simp only [decs,List.cons_append];have e1:10^(a+1)*w=10*(10^a*w):=by rw [Nat.pow_succ,bJ (10^a) 10,bI]
  have h2:v/10<10^a:=Nat.div_lt_of_lt_mul (by rw [Nat.pow_succ,bJ] at h; exact h);rw [e1,Nat.add_mul_mod_self_left,Nat.add_mul_div_left _ _ (by decide),Qz a b (v/10) w h2]
theorem Vk:∀ (k x:Nat),decs (k+1) x=decs k x++[x/10^k%10]
 | 0,x=>by simp [decs]
 | k+1,x=>by
  rw [decs,Vk k (x/10),decs,List.cons_append];congr 3;rw [Nat.div_div_eq_div_mul,Nat.pow_succ,bJ]
theorem ziz{k x:Nat}(h:x<10^k):decs k x=Ten.padN k x:=by
 have:=Ten.za0 (XD k x)
 rwa [Zz,Y7 k x h] at this
def dec(x:Nat):List Nat:=Ten.canon x
def byt(d:Nat):UInt8:=UInt8.ofNat (48+d)
theorem QX{k x:Nat}(h:x<10^k):(dec x).length<=k:=by
 rcases aR k (dec x).length with h1 | h1
 ·exfalso;have hl:=Ten.j3 x;have htop:=Ten.qZ (Ten.canon x) (by simp only [dec] at h1; omega);rw [hl] at htop;have h4:=Ten.zt (Ten.canon x) ((Ten.canon x).length - 1);simp only [dec] at h1;rw [Nat.sub_add_cancel (by omega),bD,Ten.zl] at h4;have h5:10^k<=10^((Ten.canon x).length - 1):=bY (by decide) (by omega);have h6:10^((Ten.canon x).length - 1)*1<=10^((Ten.canon x).length - 1)*(Ten.canon x).getD ((Ten.canon x).length - 1) 0:=aS _ (by omega);have h7:x=Ten.val ((Ten.canon x).take ((Ten.canon x).length - 1))+10^((Ten.canon x).length - 1)*(Ten.canon x).getD ((Ten.canon x).length - 1) 0:=h4;omega
 ·exact h1
theorem zcq{x:Nat}(h:0<(dec x).length):(dec x).getD ((dec x).length - 1) 0≠0:=by
 have hl:=Ten.j3 x;have htop:=Ten.qZ (Ten.canon x) (by simp only [dec] at h; omega)
 rwa [hl] at htop
theorem Xd{x:Nat}(h:x≠0):0<(dec x).length:=by
 simp only [dec]; rw [Ten.jo h]; simp
theorem dec_lt(x i:Nat):(dec x).getD i 0<10:=Ten.zU (Ten.zj x) i
def txt(x:Nat):L8:=if x=0 then [48] else((dec x).map byt).reverse
def parse:L8->Bool×L8
 | []=>(false,[])
 | c::b=>if c=45 then(true,b) else(false,c::b)
def sgn(neg:Bool)(b:L8):L8:=if neg then 45::b else b
theorem zel(s:L8):sgn (parse s).1 (parse s).2=s:=by
 cases s with
 | nil=>rfl
 | cons c b=>
  simp only [parse];split
  ·rename_i h; subst h; rfl
  ·rfl
def wF(neg:Bool)(b:L8):Bool:= !(decide (b=[])) && !(neg&&decide (b=[48])) && !(decide (b.getD 0 0=48)&&decide (1<b.length))&&b.all isD
def errI(s:L8):Int:=if wF (parse s).1 (parse s).2 then(if 1000<(parse s).2.length then 14 else 0) else 12
theorem zcs{b:L8} : b.all isD=true↔allD b:=by
 simp only [bG,allD,isD,bA,aK]
theorem Xn{neg:Bool}{b:L8}(h:wF neg b=true):allD b/\b≠[]:=by
 simp only [wF,bA,Bool.not_eq_true',aV] at h;exact⟨zcs.1 h.2,h.1.1.1⟩
theorem xq{neg:Bool}{b:L8}(h:b.getD 0 0=48)(hl:1<b.length):wF neg b=false:=by
 have e:(decide (b.getD 0 0=48)&&decide (1<b.length))=true:=by rw [h]; simp [hl]
 unfold wF;rw [e];simp
theorem YA{c d:UInt8}(h:(c.toNat:Int)=(d.toNat:Int)):c=d:=UInt8.toNat_inj.1 (by omega)
theorem KW{s:L8}(h:errI s=0):∃ neg b,s=sgn neg b/\parse s=(neg,b)/\wF neg b=true/\allD b/\b≠[]/\b.length<=1000:=by
 unfold errI at h;split at h
 ·rename_i hf;split at h
  ·cases h
  ·rename_i hl;obtain⟨h1,h2⟩:=Xn hf;exact⟨_,_,(zel s).symm,rfl,hf,h1,h2,by omega⟩
 ·cases h
theorem xw(s:L8):errI s=0\/errI s=12\/errI s=14:=by
 unfold errI;split
 ·split<;>simp
 ·simp
def negI(s:L8):Bool:=(parse s).1
def numI(s:L8):Nat:=numD (parse s).2
theorem Jn{s:L8}(h:errI s=0):s=sgn (negI s) (parse s).2/\allD (parse s).2/\(parse s).2≠[]/\(parse s).2.length<=1000:=by
 obtain⟨neg,b,h1,h2,h3,h4,h5,h6⟩:=KW h;simp only [negI,h2];exact⟨h1,h4,h5,h6⟩
theorem UI{a b c k:Nat}(h:k=b*c):(a^b)^c=a^k:=by rw [h,Nat.pow_mul]
theorem uz{s:L8}(h:errI s=0):(canon (numI s)).length<=112:=by
 obtain⟨_,h1,_,h2⟩:=Jn h;refine zC ?_;have h3:=uW h1;obtain⟨k,hk⟩:∃ k,k=9*112:=⟨_,rfl⟩;have h4:10^(parse s).2.length<=10^k:=bY (by decide) (by omega);have h5:B^112=10^k:=by rw [show B=10^9 by decide]; exact UI hk
 rw [h5];exact bB h3 h4
def z8(s t:L8):Int:=if errI s=0 then errI t else errI s
theorem zq{s t:L8} : z8 s t=0↔errI s=0/\errI t=0:=by
 unfold z8;split
 ·rename_i h; simp [h]
 ·rename_i h; simp [h]
def wr(neg:Bool)(x:Nat):L8×Int:=if x=0 then([48],0) else if 1000<(dec x).length then([],14) else(sgn neg (txt x),0)
def gcdR(s t:L8):L8×Int:=if z8 s t=0 then wr false (Nat.gcd (numI s) (numI t)) else([],z8 s t)
def dg(b:L8):List Nat:=(b.map λc=>c.toNat - 48).reverse
theorem zai(b:L8):(dg b).length=b.length:=by simp [dg]
theorem zrl{b:L8}(h:allD b):Ten.dig (dg b):=by
 intro d hd;simp only [dg,List.mem_reverse,List.mem_map] at hd;obtain⟨c,hc,rfl⟩:=hd;have:=h c hc;show c.toNat - 48<10;omega
theorem za2:∀ b:L8,Ten.val (dg b)=numD b
 | []=>rfl
 | c::b=>by
  have e:dg (c::b)=dg b++[c.toNat - 48]:=by simp [dg]
  rw [e,Ten.zR,za2 b,zai,show c::b=[c]++b from rfl,kB];simp only [Ten.val,numD,List.foldl_cons,List.foldl_nil];rw [bJ]; simp [Nat.add_comm]
def cmpN(x y:Nat):Int:=if x<y then -1 else if y<x then 1 else 0
def zQ(s:L8):Nat:=s.findIdx (· == 47)
def cutR(s:L8):L8×L8×Bool:=if zQ s<s.length then(s.take (zQ s),s.drop (zQ s+1),true) else(s,[],false)
theorem V7(s:L8):zQ s<=s.length:=List.findIdx_le_length
theorem JA{s:L8}(h:zQ s<s.length):s.getD (zQ s) 0=47:=by
 have:=List.findIdx_getElem (w:=h);simp only [List.getD,aF h,Option.getD_some];exact beq_iff_eq.1 this
theorem Ku{s:L8}{j:Nat}(h:j<zQ s):s.getD j 0≠47:=by
 have hl:j<s.length:=bB h (V7 s);have:=List.not_of_lt_findIdx h;simp only [List.getD,aF hl,Option.getD_some];simpa using this
theorem zgz{s:L8}{i:Nat}(hi:i<s.length)(h:s.getD i 0=47)(hb:∀ j,j<i->s.getD j 0≠47):zQ s=i:=by
 rcases Nat.lt_trichotomy (zQ s) i with h1 | h1 | h1
 ·exact absurd (JA (Nat.lt_trans h1 hi)) (hb _ h1)
 ·exact h1
 ·exact absurd h (Ku h1)
theorem za1{s:L8}(hb:∀ j,j<s.length->s.getD j 0≠47):zQ s=s.length:=by
 rcases aR (zQ s) s.length with h | h
 ·exact absurd (JA h) (hb _ h)
 ·exact Nat.le_antisymm (V7 s) h
def errR(s:L8):Int:=
 if(cutR s).2.2 then
  if errI (cutR s).1=12\/errI (cutR s).2.1=12\/negI (cutR s).2.1=true\/(cutR s).2.1=[48]\/(cutR s).2.1=[49] then 12
  else if errI (cutR s).1≠0\/errI (cutR s).2.1≠0 then 14
  else if(gcdR (cutR s).1 (cutR s).2.1).1≠[49] then 12 else 0
 else errI s
theorem zgl{s:L8}(h:¬ zQ s<s.length):cutR s=(s,[],false):=aO h
theorem zb8{s:L8}(h:zQ s<s.length):cutR s=(s.take (zQ s),s.drop (zQ s+1),true):=aP h
theorem KZ(s:L8):(cutR s).1.length<=s.length/\(cutR s).2.1.length<=s.length:=by
 unfold cutR;split<;>simp<;>omega
theorem Vq{s:L8}(h:s≠[]):negI s=decide (s.getD 0 0=45):=by
 cases s with
 | nil=>exact absurd rfl h
 | cons c b=>
  simp only [negI,parse];split
  ·rename_i hc; subst hc; rfl
  ·rename_i hc; simp [hc]
theorem YY:errI []=12:=rfl
def isL(c:UInt8):Bool:=(97<=c.toNat&&c.toNat<=122)||(65<=c.toNat&&c.toNat<=90)
def isN(c:UInt8):Bool:=isL c||isD c||c == 95||c == 45
def qI(s:L8):Bool:=decide (0<s.length)&&decide (s.length<=40)&&isL (s.getD 0 0)&&s.all isN
theorem zlr{p:UInt8->Bool}{s:L8}(h:∀ j,j<s.length->p (s.getD j 0)=true):s.all p=true:=by
 rw [bG];intro c hc;obtain⟨j,hj,rfl⟩:=List.getElem_of_mem hc;have:=h j hj;simpa [List.getD,hj] using this
theorem Xs{p:UInt8->Bool}{s:L8}{j:Nat}(hj:j<s.length)(h:p (s.getD j 0)=false):s.all p=false:=by
 rw [List.all_eq_false];refine⟨s.getD j 0,by simp [List.getD,hj],by simpa using h⟩
def dayB(d:Int):Bool:=decide (0<=d)&&decide (d<=99999)
end Go.Nov
end
section
namespace Go.Sx
variable [Stat]
open Go.RowKit (Below)
def alive:Blk->Prop
 | .box _=>True
 | .arr n _ _=>0<n
 | .dead=>False
 | .arrI _ n _=>0<n
 | .arrS n _=>0<n
 | .map _ _ _ _ _=>False
theorem vu{h:Heap}(hl:∀ b∈h,alive b):∀ b∈h,ZB b=false:=by
 intro b hb;have:=hl b hb;cases b<;>first | rfl | exact this.elim
section
variable {O:Nat->Prop} {pin:Nat} {w0:World} {I0:List SE} {w:World} {σ:List SE} {P:Program} {a:Act} {fn:Func}
theorem wX{h:Heap}{own:Nat->Prop}(hp:HRep own w σ h)(hl:∀ b∈h,alive b){b:Nat}(hb:Mine σ b):∃ cs el fr,w.heap[b]?=some (Obj.cells cs el fr):=by
 obtain⟨i,e,ad,h1,h2,h3⟩:=zu.1 hb;have hi:i<h.length:=by rw [<- hp.len]; exact(aG.1 h1).1
 have hbr:=hp.blk i e _ h1 (aF hi);have ha:=hl _ (bK hi);generalize h[i]=bl at hbr ha;subst h3;cases bl with
 | dead=>exact ha.elim
 | box cells=>
  obtain⟨ad',vs,el,g1,_,g3,_⟩:=hbr;rw [h2] at g1; cases g1;exact⟨_,_,_,g3⟩
 | arr n sz g=>
  obtain⟨_,g⟩:=hbr;rcases g with g | ⟨ad',cs,el,g1,g2,_⟩
  ·simp only [alive] at ha; omega
  ·rw [h2] at g1; cases g1;exact⟨_,_,_,g2⟩
 | arrI _ n _=>
  obtain⟨_,g⟩:=hbr;rcases g with g | ⟨ad',cs,el,g1,g2,_⟩
  ·simp only [alive] at ha; omega
  ·rw [h2] at g1; cases g1;exact⟨_,_,_,g2⟩
 | arrS n _=>
  obtain⟨_,g⟩:=hbr;rcases g with g | ⟨ad',cs,el,g1,g2,_⟩
  ·simp only [alive] at ha; omega
  ·rw [h2] at g1; cases g1;exact⟨_,_,_,g2⟩
 | map _ _ _ _ _=>exact ha.elim
theorem xz{c:Code}{Q:Exit->Act->World->Prop}(n m:Nat)(h:c.wpIn (FM none) n P Q a w):c.wpIn (FM none) m P Q a w:=by
 simp only [FM] at h ⊢;exact wpIn_wide.2 (wpIn_wide.1 h)
def zl5(c:Code)(tg tp td:Nat):Bool:=match c with
 | .rangeFunc (.tmp g) ps (.region _ ops false) _=>decide (g=tg)&&decide (ps.toList=[tp])&&match ops.toList with
  | [o]=>decide (o.dst=some td)&&o.guard.isNone&&match o.op with
   | .assign (.tmp t)=>decide (t=tp)
   | _=>false
  | _=>false
 | _=>false
theorem zay{c:Code}{tg tp td:Nat}(h:zl5 c tg tp td=true):∃ id o,c = .rangeFunc (.tmp tg) #[tp] (.region id #[o] false) (wO c)/\o.dst=some td/\o.guard=none/\o.op = .assign (.tmp tp):=by
 unfold zl5 at h;split at h
 ·rename_i g ps id ops body;simp only [bA,aK] at h;obtain⟨⟨rfl,h2⟩,h3⟩:=h;split at h3
  ·rename_i o ho;simp only [bA,aK,Option.isNone_iff_eq_none] at h3;obtain⟨⟨h4,h5⟩,h6⟩:=h3;split at h6
   ·rename_i t ht;simp only [aK] at h6;subst h6;refine⟨id,o,?_,h4,h5,ht⟩;have e1:ps = #[t]:=by rw [<- Array.toList_inj]; exact h2
    have e2:ops = #[o]:=by rw [<- Array.toList_inj]; exact ho
    rw [e1,e2]; rfl
   ·cases h6
  ·cases h3
 ·cases h
theorem uB{M:Option Nat}{td tp id:Nat}{o:Oper}(hd:o.dst=some td)(hgd:o.guard=none)(hop:o.op = .assign (.tmp tp)){K:Act->World->Prop}{Qe:Exit->Act->World->Prop}(h:K { a with tmps:=a.tmps.setIfInBounds td (a.tmps.getD tp undef) } w) :
  (Code.region id #[o] false).wpIn (FM M) 0 P (Exit.then K Qe) a w:=by
 refine wpIn_region_list ?_;simp only [Array.toList];refine wpListIn_step λK' hK'=> ?_
 rw [aP (by simp [Region.wanted,hgd])];refine jV (by simp [hop]) ?_;unfold Oper.wp
 have:(execOp a.eval o).run P w = .ok (.value (a.eval (.tmp tp))) w:=by
  simp [execOp,hop]
 rw [this];have e:a.put o.dst (a.eval (.tmp tp))={ a with tmps:=a.tmps.setIfInBounds td (a.tmps.getD tp undef) } :=by rw [hd]; rfl
 show K' (a.put o.dst (a.eval (.tmp tp))) w;rw [e];exact hK' _ _ h
theorem ka.le{pin pinR:Nat}{w':World}{Z':List SE}(h:ka pinR w σ w' Z')(hp:pin<=pinR):ka pin w σ w' Z':=λi e hi he=>h i e (bB hi hp) he
theorem ka.hold{pinR:Nat}{w':World}{Z':List SE}(h:ka pinR w σ w' Z'):Hold (List.range' pinR σ.length) w σ w' Z':=by
 intro i e he hi;have hlt:=(aG.1 he).1;refine h i e ?_ he;rcases aR i pinR with h1 | h1
 ·exact h1
 ·exact absurd (List.mem_range'_1.2 ⟨h1,by omega⟩) hi
theorem zc.range{α:Type}{Hs:Nat->KV->Heap->Prop}{R:List AV->Heap->Prop}{k:List Item}{c:Code}{kv:KV}{h:Heap}{tg tp td gf:Nat}{cap:List AV}(hc:zl5 c tg tp td=true)
  (he:∀ args w,(callFunc gf args).run P w = .ok (.enter gf args) w) (av:α->AV) (H Hx:List α->Heap) (X S Sp:List α->Prop) (N pinR:Nat)
  (hg:look kv tg = .fn gf [] cap) (htg:tg<fn.ntmps) (htp:tp<fn.ntmps) (hno:∀ x t b y,av x≠.opt t b y) (hle:LeK pin fn.ntmps kv h kv (H [])) (hlow:(pk fn.ntmps kv).all (lowB pinR)=true) (hpin:pin<=pinR) (halive:∀ pre,∀ b∈H pre,alive b) (halivex:∀ pre,∀ b∈Hx pre,alive b)
  (iter:∀ w σ a,Mod O pin w0 I0 w σ (mk fn.ntmps kv (H [])) a->∀ vb,RepL (Own O σ) w cap σ vb->∃ (Keep:World->Prop) (ev:α->Value),SeqStopsK Fence.wide 0 P gf vb.toArray (λx=> #[ev x]) (λW W'=>Keep W->Keep W') S Sp N w /\
   (∀ pre W Z',Mod O pin w0 I0 W Z' (mk fn.ntmps kv (H pre)) a->Keep W/\∀ x,Rep (Own O Z') W (av x) Z' (ev x)) /\
   (∀ W l o o',w.heap.size<=l->W.heap[l]?=some o->o.isCells=false->Keep W->Keep (W.putObj l o')))
  (round:∀ l pre x,pre.length<N->∀ (W:World) (E1:List SE),zB (some l) P (bare fn) O pinR W E1 (λd kv' h'=>LeK pinR fn.ntmps [] h' [] (H (pre++[x]))) (λ_ h'=>X (pre++[x])/\LeK pinR fn.ntmps [] h' [] (Hx (pre++[x]))) [.code (wO c),.inLoop] (mk fn.ntmps ((td,av x)::(tp,av x)::kv) (H pre)))
  (done:∀ xs,S xs->zc P fn O pin w0 I0 Hs R k (mk fn.ntmps kv (H xs)))
  (stop:∀ pre,Sp pre->X pre->(resX P (mk fn.ntmps kv (Hx pre)) fn.results.toList).holds λrs=>R rs (Hx pre)) :
  zc P fn O pin w0 I0 Hs R (.code c::k) (mk fn.ntmps kv h):=by
 obtain⟨id,o,hco,hod,hog,hop⟩:=zay hc;generalize wO c=body at *
 subst hco;clear hc;intro w σ a hm0;have hm:=hle.le.mod hm0;clear hm0;generalize σ.take (mk fn.ntmps kv (H [])).heap.length=σ at hm;simp only [wpK];have hgt:=hm.tm tg;have hev:(mk fn.ntmps kv (H [])).tmps.getD tg .undef = .fn gf [] cap:=by simp only [mk]; rw [qH htg]; exact hg
 rw [hev] at hgt;simp only [TRep,Rep] at hgt;obtain⟨va,vb,hval,hva,hvb⟩:=hgt;have hva:va=[]:=by simpa [RepL] using hva
 subst hva;obtain⟨Keep,ev,hseq,hkeep,hstab⟩:=iter w σ a hm vb hvb
 have hB:∀ d∈a.defers,∃ D,d={ target:=.collected D,args:= #[] } /\ D<w.heap.size:=by
  intro d hd;obtain⟨D,h1,_,_,h4⟩:=hm.df.2 d hd;exact⟨D,h1,(aQ.1 h4).1⟩
 have hOB:∀ b,O b->b<w.heap.size:=hm.good.old;have hmarks:∀ (W:World) (Z':List SE),Mod O pin w0 I0 W Z' (mk fn.ntmps kv (H [])) a\/True:=λ_ _=>.inr trivial
 have turnI:∀ (Hh:List α->Heap),(∀ pre,∀ b∈Hh pre,alive b)->OwnFrom w.heap.size (λpre W=>∃ Z',Mod O pin w0 I0 W Z' (mk fn.ntmps kv (Hh pre)) a):=by
  intro Hh hal pre W W' row hI hgr hr;obtain⟨Z',hM⟩:=hI;refine⟨Z',?_⟩
  have:=hM.turn hgr (ds:=a.defers) (λr e=>⟨bP hm.since.ext.size (hr r e).1,(hr r e).2⟩) (.inl (vu (hal pre))) (hM.df.turn hgr λr e hmem=>by
   obtain⟨D,h1,h2⟩:=hB _ hmem;have:=(hr r e).1;simp only [Deferred.mk.injEq,Target.collected.injEq,and_true] at h1;omega)
  exact this
 have push:∀ (D:Nat) (Hh:Heap) (W:World) (Z':List SE),(∀ b∈Hh,alive b)->w.heap.size<=D->W.heap[D]?=some (.deferred (some []))->Mod O pin w0 I0 W Z' (mk fn.ntmps kv Hh) a->Mod O pin w0 I0 W Z' (mk fn.ntmps kv Hh) { a with defers:={ target:=.collected D,args:= #[] } :: a.defers } :=by
  intro D Hh W Z' hal hD hWD hM;refine⟨hM.good,hM.hp,hM.size,hM.tm,⟨List.nodup_cons.2 ⟨λhmem=> ?_,hM.df.1⟩,λd hd=> ?_⟩,hM.since,hM.lim⟩
  ·obtain⟨D',h1,h2⟩:=hB _ hmem;simp only [Deferred.mk.injEq,Target.collected.injEq,and_true] at h1;omega
  ·rcases aM.1 hd with rfl | hd
   ·refine⟨D,rfl,bP hm.since.ext.size hD,?_,hWD⟩;rintro(hO | hM')
    ·have:=hOB D hO; omega
    ·obtain⟨cs,el,fr,hcs⟩:=wX hM.hp hal hM';rw [hWD] at hcs; cases hcs
   ·exact hM.df.2 d hd
 refine xz 1 0 ?_
 refine wpIn_rangeFunc_ownG (F:=Fence.wide) rfl (aJ 1) (gf:=gf) (lb:=vb.toArray) (by simp only [Act.eval]; exact hval) trivial he (encs:=λx=> #[ev x]) (Kp:=λW W'=>Keep W->Keep W') (S:=S) (Sp:=Sp) (N:=N) (w0:=w) hseq
  (λh1 h2 h3=>h2 (h1 h3)) (λW l o o' h1 h2 h3 _ h4=>hstab W l o o' h1 h2 h3 h4) (Below.refl _ _) (λ_=>rfl)
  (λpre W=>∃ Z',Mod O pin w0 I0 W Z' (mk fn.ntmps kv (H pre)) a) (λc pre W=>c = .ret/\X pre/\∃ Z',Mod O pin w0 I0 W Z' (mk fn.ntmps kv (Hx pre)) a)
  (turnI H halive) (λc pre W W' row hI hgr hr=>⟨hI.1,hI.2.1,turnI Hx halivex pre W W' row hI.2.2 hgr hr⟩) ⟨σ,hm⟩
  (λx=>{ tmps:=(a.tmps.setIfInBounds tp (ev x)).setIfInBounds td ((a.tmps.setIfInBounds tp (ev x)).getD tp undef),defers:=[] }) ?_ ?_ ?_ ?_
 ·
  intro l x W K hK;refine uB (M:=some l) hod hog hop ?_;simpa using hK
 ·
  rintro l pre x W ⟨E1,hM⟩ hlen;have hsz:a.tmps.size=fn.ntmps:=by rw [hM.size]; simp [mk,pk]
  have hM2:Mod O pinR W E1 W E1 (mk fn.ntmps ((td,av x)::(tp,av x)::kv) (H pre)) { tmps:=(a.tmps.setIfInBounds tp (ev x)).setIfInBounds td ((a.tmps.setIfInBounds tp (ev x)).getD tp undef),defers:=[] } :=by
   have hx:=(hkeep pre W E1 hM).2 x
   have hxT:∀ T,TRep (Own O E1) W E1 T (av x) (ev x):=by
    intro T;have:=hno x;generalize av x=y at hx this;cases y with
    | opt t b z=>exact absurd rfl (this t b z)
    | _=>simpa only [TRep] using hx
   refine⟨hM.good,hM.hp,by simp [mk,pk,hsz],λt=> ?_,Marks.nil _ _ _,Stp.refl _ _ _ _,hM.good.stat⟩;by_cases ht:t<fn.ntmps
   ·simp only [mk];rw [qH ht];have htp':(a.tmps.setIfInBounds tp (ev x)).getD tp undef=ev x:=by simp [hsz,htp]
    rw [htp'];by_cases h1:td=t
    ·subst h1;simp only [look,if_true];have:((a.tmps.setIfInBounds tp (ev x)).setIfInBounds td (ev x)).getD td undef=ev x:=by simp [hsz,ht]
     rw [this]; exact hxT _
    ·have e1:((a.tmps.setIfInBounds tp (ev x)).setIfInBounds td (ev x)).getD t undef=(a.tmps.setIfInBounds tp (ev x)).getD t undef:=by
      simp only [bQ];rw [Array.getElem?_setIfInBounds_ne h1]
     rw [e1];by_cases h2:tp=t
     ·subst h2;simp only [look,aO h1,if_true];rw [htp']; exact hxT _
     ·simp only [look,aO h1,aO h2]
      have e2:(a.tmps.setIfInBounds tp (ev x)).getD t undef=a.tmps.getD t undef:=by
       simp only [bQ];rw [Array.getElem?_setIfInBounds_ne h2]
      rw [e2];have:=hM.tm t;simp only [mk] at this;rw [qH ht] at this;have hl:lowB pinR (look kv t)=true:=bG.1 hlow (look kv t) (by simp only [pk,List.mem_map,List.mem_range]; exact⟨t,ht,rfl⟩);generalize look kv t=y at this hl;cases y with
      | opt u b z=>exact absurd rfl (j6 hl u b z)
      | _=>simpa only [TRep] using this
   ·have:(mk fn.ntmps ((td,av x)::(tp,av x)::kv) (H pre)).tmps.getD t .undef = .undef:=by simp [mk,pk,List.getD,ht]
    rw [this]; simp [TRep,Rep]
  have hr:=round l pre x hlen W E1 W E1 _ hM2;simp only [wpK] at hr
  have fin:∀ (Hh:Heap) (st':St) (W':World) (τ:List SE) (a':Act),LeK pinR fn.ntmps [] st'.heap [] Hh->Mod O pinR W E1 W' τ st' a'->KeepsFrom w.heap.size W W'/\∃ Z',Mod O pin w0 I0 W' Z' (mk fn.ntmps kv Hh) a:=by
   intro Hh st' W' τ a' hL hM'
   have h1:Mod O pinR W E1 W' τ (mk fn.ntmps [] st'.heap) { tmps:=Array.replicate fn.ntmps undef,defers:=[] } :=by
    refine⟨hM'.good,hM'.hp,by simp [mk,pk],λt=> ?_,Marks.nil _ _ _,hM'.since,hM'.lim⟩
    have:(mk fn.ntmps [] st'.heap).tmps.getD t .undef = .undef:=by
     simp only [mk,pk,List.getD,aN];cases (List.range fn.ntmps)[t]?<;>simp [look]
    rw [this]; simp [TRep,Rep]
   have h2:=hL.le.mod h1;generalize τ.take (mk fn.ntmps [] Hh).heap.length=τ' at h2;have hx:=h2.since.ext;refine⟨⟨hx.size,λb o hb ho hoc=> ?_⟩,τ',?_⟩
   ·have hlt:=(aQ.1 ho).1;rw [<- ho];by_cases hO:O b
    ·exact h2.since.jT b hO hlt
    ·refine hx.keep b hlt ?_;rintro(h3 | h3)
     ·exact hO h3
     ·obtain⟨cs,el,fr,hcs⟩:=wX hM.hp (halive pre) h3;rw [ho] at hcs; cases hcs; simp [Obj.isCells] at hoc
   ·refine⟨h2.good,h2.hp,hM.size,λt=> ?_,hM.df.ext hx,hM.since.trans ⟨hx,h2.since.jT,h2.since.hold.le hpin⟩,hM.lim⟩;have ht:=hM.tm t;by_cases htn:t<fn.ntmps
    ·simp only [mk] at ht ⊢;rw [qH htn] at ht ⊢;have hl:lowB pinR (look kv t)=true:=bG.1 hlow (look kv t) (by simp only [pk,List.mem_map,List.mem_range]; exact⟨t,htn,rfl⟩);generalize look kv t=y at ht hl;cases y with
     | opt u b z=>exact absurd rfl (j6 hl u b z)
     | _=>simp only [TRep] at ht ⊢; exact zK hx h2.since.hold.hold _ _ (ym hl) ht
    ·have:(mk fn.ntmps kv Hh).tmps.getD t .undef = .undef:=by simp [mk,pk,List.getD,htn]
     rw [this]; simp [TRep,Rep]
  refine wpIn_mono hr λe a' W' h=> ?_
  cases e with
  | normal=>
   simp only [wpK] at h;obtain⟨st,τ,⟨kv',h',hL,rfl⟩,hM'⟩:=h;obtain⟨h1,Z',h2⟩:=fin _ (mk fn.ntmps kv' h') _ _ _ hL hM';exact⟨h1,λ_=>(hkeep _ _ _ h2).1,Z',h2⟩
  | ret=>
   simp only [wpK] at h;rcases h with ⟨_,st,τ,⟨hX,hL⟩,hM'⟩ | ⟨_,_,h,_⟩
   rotate_left
   ·exact h.elim
   obtain⟨h1,Z',h2⟩:=fin _ st _ _ _ hL hM';exact⟨h1,rfl,hX,Z',h2⟩
  | exit i=>simp only [wpK] at h; exact absurd h (by simp)
  | goto t=>simp only [wpK] at h; exact absurd h (by simp)
  | panic ch=>simp only [wpK] at h; exact absurd h (by simp)
  | outgrown=>simp only [wpK] at h; exact absurd h (by simp)
 ·
  rintro D xs W hD hS ⟨E1,hM⟩ hWD;exact done xs hS W E1 _ (push D _ W E1 (halive xs) hD hWD hM)
 ·rintro D c pre W hD hSp ⟨rfl,hX,E1,hM⟩ hWD;refine wpIn_ret (kH (.inl ⟨.inl rfl,mk fn.ntmps kv (Hx pre),E1,stop pre hSp hX,push D _ W E1 (halivex pre) hD hWD hM⟩))
def yR(kv:KV)(t:Nat)(a:AV):KV:=kv.map λp=>if p.1=t then(t,a) else p
theorem zj9{kv:KV}{t:Nat}{a:AV} : ∀ u,look (yR kv t a) u=if u=t then(if(kv.any λp=>p.1 == t) then a else .undef) else look kv u:=by
 intro u
 induction kv with
 | nil=>simp [yR,look]
 | cons p l ih=>
  obtain⟨i,x⟩:=p;simp only [yR,List.map_cons,List.any_cons] at ih ⊢;by_cases hit:i=t
  ·subst hit;simp only [if_true,look,beq_self_eq_true,Bool.true_or];by_cases hu:i=u
   ·subst hu; simp
   ·rw [aO hu,aO (λh=>hu h.symm),ih,aO (λh=>hu h.symm),aO hu]
  ·have hb:(i == t)=false:=by simpa using hit
   simp only [aO hit,look,hb,Bool.false_or];by_cases hu:i=u
   ·subst hu; simp [hit]
   ·rw [aO hu,ih,aO hu]
theorem zc.bear{Xp:List PanicEntry->Prop}{M:Option Nat}{Hs:Nat->KV->Heap->Prop}{R:List AV->Heap->Prop}{k:List Item}{kv:KV}{h:Heap}(t sz:Nat)(g:Nat->Nat->AV)(hnil:look kv t = .nils)(ht:t<fn.ntmps)(hno:(pk fn.ntmps kv).all q8=true)
  (H:zN Xp M P fn O pin w0 I0 Hs R k (mk fn.ntmps (yR kv t (.osl h.length sz 0 0)) (h++[.arr 0 sz g]))):zN Xp M P fn O pin w0 I0 Hs R k (mk fn.ntmps kv h):=by
 refine Safe.bear t sz g (by simp only [mk]; rw [qH ht]; exact hnil) hno ?_
 have e:vN (mk fn.ntmps kv h) t sz g=mk fn.ntmps (yR kv t (.osl h.length sz 0 0)) (h++[.arr 0 sz g]):=by
  simp only [vN,mk];congr 1;apply List.ext_getElem (by simp [pk]);intro u h1 h2;simp only [pk,List.getElem_map,List.getElem_range,List.getElem_set,zj9];by_cases hu:t=u
  ·subst hu;rw [aP rfl,aP rfl]
   have:kv.any (λp=>p.1 == t)=true:=by
    rcases Bool.eq_false_or_eq_true (kv.any λp=>p.1 == t) with hh | hh
    ·exact hh
    ·exfalso
     have:look kv t = .undef:=by
      clear hnil hno H ht h1 h2
      induction kv with
      | nil=>rfl
      | cons p l ih=>
       simp only [List.any_cons,Bool.or_eq_false_iff,beq_eq_false_iff_ne] at hh;simp only [look,aO hh.1];exact ih hh.2
     rw [hnil] at this; cases this
   rw [this]; rfl
  ·rw [aO hu,aO (λhh=>hu hh.symm)]
 rw [e];exact H
end
end Go.Sx
end
section
namespace Go.Sx
variable [Stat]
section
variable {O:Nat->Prop} {pin:Nat} {w0:World} {I0:List SE} {w:World} {σ:List SE} {P:Program} {st:St} {a:Act} {fn:Func} {Xp:List PanicEntry->Prop}
theorem Uc(i:Nat){a:AV}(h:q8 a=true):q8 (qh i a)=true:=by
  cases a with
  | opt _ _ _=>cases h
  | _=>
    simp only [qh]
    try simp only [j9]
    repeat (first | rfl | split)
theorem xD:∀ (K:List Nat) {a:AV},q8 a=true->q8 (zL K a)=true
  | [],_,h=>h
  | i::K,_,h=>xD K (Uc i h)
theorem zdp{h:Heap}{a a':AV}{k:List Nat}(hf:frz h a=some (a',k)):q8 a'=true:=by
  cases a with
  | fn f x y=>cases x<;>cases y<;>simp [frz,frz1] at hf; obtain⟨rfl,_⟩:=hf; rfl
  | opt _ _ _=>simp [frz,frz1] at hf
  | osl i sz off n=>
    simp only [frz] at hf;obtain⟨_,_,_,_,rfl,_⟩:=Y9 hf;rfl
  | _=>
    simp only [frz,frz1] at hf
    first
    | (simp only [aE,bE] at hf; obtain⟨rfl,_⟩:=hf; rfl)
    | (cases hf; done)
    | (split at hf
       · simp only [aE,bE] at hf; obtain⟨rfl,_⟩:=hf; rfl
       · cases hf)
theorem zaa{K:List Nat}{h:Heap}{a:AV}(ha:q8 a=true):q8 (k8 K h a)=true:=by
  unfold k8;split
  · rename_i a' k hf;cases k.all K.contains with
    | false=>exact xD K ha
    | true=>exact zdp hf
  · exact xD K ha
def Ya(K:List Nat)(st:St):St:=⟨st.tmps.map (k8 K st.heap),j2 K (z9 K st.heap)⟩
theorem zm2(hm:Mod O pin w0 I0 w σ st a){K:List Nat}(hK:∀ i∈K,pin<=i)(hno:st.tmps.all q8=true):Mod O pin w0 I0 w (frzS K σ) (Ya K st) a:=by
  have hx:=j0 (O:=O) K w σ;refine⟨kW K hm.good,kY hm.hp K,by simp [Ya,hm.size],λt=> ?_,hm.df.ext hx,hm.since.trans ⟨hx,λ_ _ _=>rfl,λi e hi2 he=>kA K w σ i e he λh=>by have:=hK i h; omega⟩,hm.lim⟩;have ht:=hm.tm t
  have e:(Ya K st).tmps.getD t .undef=k8 K st.heap (st.tmps.getD t .undef)\/(Ya K st).tmps.getD t .undef = .undef:=by
    simp only [Ya,List.getD,aN];cases st.tmps[t]? with
    | none=>exact .inr rfl
    | some x=>exact .inl rfl
  have hn:q8 (st.tmps.getD t .undef)=true:=by
    by_cases hlt:t<st.tmps.length
    · simp only [List.getD,aF hlt,Option.getD_some];exact bG.1 hno _ (bK hlt)
    · simp only [List.getD];rw [aZ (by omega)]; rfl
  rcases e with e | e
  · rw [e]
    have hr:Rep (Own O σ) w (st.tmps.getD t .undef) σ (a.tmps.getD t undef):=by
      generalize st.tmps.getD t .undef=x at ht hn;cases x with
      | opt _ _ _=>cases hn
      | _=>exact ht
    have:=ug hm.good hm.hp (K:=K) hr;have hno2:=zaa (K:=K) (h:=st.heap) hn;generalize k8 K st.heap (st.tmps.getD t .undef)=y at this hno2;cases y with
    | opt t b x=>cases hno2
    | _=>exact this
  · rw [e]; simp [TRep,Rep]
def zbr(K:List Nat)(h:Heap)(kv:KV):KV:=kv.map λp=>(p.1,k8 K h p.2)
theorem zjd{K:List Nat}{h:Heap}{kv:KV}(t:Nat):look (zbr K h kv) t=k8 K h (look kv t):=by
  induction kv with
  | nil=>
    show AV.undef=k8 K h .undef;simp only [k8,frz,frz1]
    have:∀ K,zL K .undef = .undef:=by
      intro K
      induction K with
      | nil=>rfl
      | cons i K ih=>exact ih
    rw [this]
  | cons p l ih=>
    simp only [zbr,List.map_cons,look] at ih ⊢;split
    · rfl
    · exact ih
end
end Go.Sx
end
section
namespace Go.Nov
open Go.Sx
inductive Ex where
 | mk (kind:Int) (rat name:L8) (date:Int) (sub:List Ex)
namespace Ex
def kind:Ex->Int | mk k _ _ _ _=>k
def rat:Ex->L8 | mk _ r _ _ _=>r
def name:Ex->L8 | mk _ _ n _ _=>n
def date:Ex->Int | mk _ _ _ d _=>d
def sub:Ex->List Ex | mk _ _ _ _ s=>s
mutual
def size:Ex->Nat
 | mk _ _ _ _ s=>1+zw s
def zw:List Ex->Nat
 | []=>0
 | x::l=>size x+zw l
end
abbrev nil:Ex:=mk 0 [] [] 0 []
theorem size_eq(x:Ex):x.size=1+zw x.sub:=by cases x; rw [size]; rfl
theorem size_pos(x:Ex):0<x.size:=by rw [size_eq]; omega
theorem Wi(s:List Ex)(i:Nat)(h:i<s.length):zw (s.take (i+1))=zw (s.take i)+(s.getD i nil).size:=by
 induction s generalizing i with
 | nil=>simp at h
 | cons x s ih=>
  cases i with
  | zero=>simp [zw]
  | succ i=>
   simp only [List.take_succ_cons,zw,List.getD_cons_succ];rw [ih i (by simpa using h)];omega
theorem qb{s:List Ex}{i:Nat}(h:i<s.length):(s.getD i nil).size<=zw s:=by
 induction s generalizing i with
 | nil=>simp at h
 | cons x s ih=>
  cases i with
  | zero=>simp [zw]
  | succ i=>
   simp only [List.getD_cons_succ,zw];have:=ih (i:=i) (by simpa using h);omega
theorem yK(s:List Ex)(i:Nat):zw (s.take i)<=zw s:=by
 induction s generalizing i with
 | nil=>simp [zw]
 | cons x s ih=>
  cases i with
  | zero=>simp [zw]
  | succ i=>simp only [List.take_succ_cons,zw]; have:=ih i; omega
theorem qt(s:List Ex):s.length<=zw s:=by
 induction s with
 | nil=>simp [zw]
 | cons x s ih=>simp only [aL,zw]; have:=size_pos x; omega
def cell(k:Int)(r n:L8)(d:Int)(l:Nat)(g:Nat->Nat->AV):Nat->AV
 | 0=>.int .u8 k
 | 1=>.str r
 | 2=>.str n
 | 3=>.i d
 | 4=>.sl l 5 g
 | _=>.undef
def deep:Ex->Nat->Nat->AV
 | mk _ _ _ _ s=>λj=>(s.map λx=>cell x.kind x.rat x.name x.date x.sub.length (deep x)).getD j λ_=>.undef
def exG(s:List Ex):Nat->Nat->AV:=λj=>cell (s.getD j nil).kind (s.getD j nil).rat (s.getD j nil).name (s.getD j nil).date (s.getD j nil).sub.length (deep (s.getD j nil))
def exS(s:List Ex):AV:=.sl s.length 5 (exG s)
def exA(x:Ex):AV:=.agg [.int .u8 x.kind,.str x.rat,.str x.name,.i x.date,exS x.sub]
theorem qp(x:Ex):eqG x.sub.length 5 (deep x) (exG x.sub):=by
 intro j o hj ho;cases x with
 | mk k r n d s=>
  rw [deep];change j<s.length at hj;show _=exG s j o;simp [exG,List.getD,hj]
end Ex
end Go.Nov
end
section
namespace Go.Nov
open Go.Sx
def shpL:List (Int×List Int×Int):=[(4,[1,1],1),(5,[1,1],1),(6,[1,1],1),(7,[1,1],1),(8,[1,1],1),(9,[2,1,1],1),(11,[1,1],2),(12,[1,1],2),(13,[2,2],2),(14,[2,2],2),(15,[2],2)]
def yL(k:Int):Option (List Int×Int):=(shpL.find? λp=>p.1 == k).map (·.2)
def qS(k:Int):Bool:=(yL k).isSome
def qw(k:Int):List Int:=((yL k).getD ([],0)).1
def jO(k:Int):Nat:=(qw k).length
def qX(k:Int)(j:Nat):Int:=(qw k).getD j 0
def jv(k:Int):Int:=((yL k).getD ([],0)).2
def kL(k:Int):Int:=if k=1 then 0 else if k=2 then 15 else if k=3 then 256 else if k=4 then 136 else if k=5 then 272 else if k=6 then 160 else if k=7 then 261 else if k=8 then 197 else 208
end Go.Nov
end
section
open Go Go.Sx Go.Proofs Go.Nov
namespace Go.Proofs.Tryz
noncomputable instance:Go.Sx.Stat:=⟨λg=>
 if g=1 then some (.mp .u8 true 2 [] (λk=>qS k) λk o=>match o with
 | 0=>.sl (jO k) 1 λj _=>.int .u8 (qX k j)
 | _=>.int .u8 (jv k)) else
 if g=0 then some (.mp .u8 false 1 [] (λk=>decide (1<=k/\k<=10)) λk _=>.i (kL k)) else
 if g=2 then some (.mp .u8 false 1 [4,5,6,7,8] (λk=>decide (4<=k/\k<=8)) λk _=>
  if k=4 then .fn 238 [] [] else if k=5 then .fn 239 [] [] else if k=6 then .fn 240 [] []
  else if k=7 then .fn 241 [] [] else .fn 242 [] []) else
 none⟩
end Go.Proofs.Tryz
end
