/- The law returns true for every input, and each argument reads afterwards as it read before; no condition. -/
import Derived.Test.YtpnllbdffdpoaaaGreatDoorSxc
import Derived.Test.YtpnllbdffdpoaaaGreatDoorSxi
import Derived.DefersIn
import Derived.SizedLaws
import Derived.ChangeArms
import Derived.Deep.Slices
import Derived.Carry
import Derived.LaidMore
import Derived.WideKeyElems2
import Derived.ProofKit
import Derived.OpenShut
import Derived.ReadAgain
import Derived.Test.YtpnllbdffdpoaaaGreatDoorRows
import Derived.MakeChecks
import Derived.Test.YtpnllbdffdpoaaaGreatDoorCards
import Derived.Test.YtpnllbdffdpoaaaGreatDoorTie
import Derived.Stop.Joined
import Derived.SevenTiedAt
set_option linter.unusedVariables false
set_option linter.unusedSimpArgs false
set_option linter.unusedSectionVars false
section
namespace Go.Sx
variable [Stat]
section
variable {F:Fence} {n:Nat} {P:Program} {ops:Array Oper} {Q Q':Exit->Act->World->Prop}
end
def uM(O:Nat->Prop)(w:World)(I0:List SE)(ctr:Ctr)(hc:Heap)(Q:AV×Heap->Prop)(e:Ending)(w':World):Prop:=
 ∃ v',e = .returned v'/\∃ r hs Z',Q (r,hs)/\Rep (λb=>Own O Z' b\/(ctr.fresh=true/\b<w.heap.size)) w' r Z' v' /\
  HRep (λb=>Own O Z' b\/(ctr.fresh=true/\b<w.heap.size)) w' Z' hs/\Good O w' Z'/\hc.length<=hs.length/\Hold (if ctr.vF=true then(List.range hc.length).drop ctr.pins else []) w I0 w' Z'/\Ext (Mine I0) w (Mine Z') w'
theorem zek{P:Program}{fn:Func}{ctr:Ctr}{hc:Heap}{Q:AV×Heap->Prop}{O:Nat->Prop}{w:World}{I0:List SE}(hh:I0.length=hc.length)(hfr:ctr.fresh=true->hc=[]) :
  ∀ (st:St) (σ:List SE) (a':Act) (w':World),((resX P st fn.results.toList).holds λrs=>RetR ctr hc.length Q rs st.heap)->Mod O (vN ctr hc) w I0 w' σ st a'->∃ v,(results fn a'.tmps).run P w' = .ok v w'/\uM O w I0 ctr hc Q (.returned v) w':=by
 intro st σ a' w' hR hm;obtain⟨rs,v,h1,⟨M,h2,h3,h4,h5,r0,hs0,hq1,hq2,hq3,h6⟩,h7⟩:=uv hm hR
 let EM:List SE:=M.map λi=>σ.getD i ⟨none,0⟩
 have hMZ:∀ i∈M,i<σ.length:=λi hi=>by rw [hm.hp.len]; exact h3 i hi
 have hget:∀ j:Nat,EM[j]?=(M[j]?).bind λi=>σ[i]?:=by
  intro j;simp only [EM,aN];cases hj:M[j]? with
  | none=>rfl
  | some i=>
   have:=hMZ i (aY hj);simp [this]
 have hnewO:ctr.fresh=true->∀ b,Mine σ b->w.heap.size<=b:=by
  intro hf b hb;have h0:=hfr hf;have hZ0:I0=[]:=by have:=hh; rw [h0] at this; exact aU.1 (by simpa using this)
  obtain⟨i,e,ad,g1,g2,g3⟩:=z7.1 hb;rcases hm.since.ext.grow b (.inr hb) with hx | hx
  ·rcases hx with hx | ⟨e',he',_⟩
   ·exact absurd (g3▸hx) (hm.good.dis i e ad g1 g2)
   ·rw [hZ0] at he'; simp at he'
  ·exact hx
 have X:Exp O w' σ st.heap M EM (λb=>Own O EM b\/(ctr.fresh=true/\b<w.heap.size)):=⟨hm.good,hm.hp,h2,h3,hget,λb hb=>by
  rcases hb with hb | ⟨hf,hb⟩
  ·exact .inl hb
  ·exact .inr λhmn=>by have:=hnewO hf b hmn; omega⟩
 have hor:∀ {p:Prop},(ctr.fresh=true->p)->(∀ b,(Own O EM b\/(ctr.fresh=true/\b<w.heap.size))->Own O σ b)\/p:=by
  intro p hp;cases hf:ctr.fresh with
  | true=>exact .inr (hp hf)
  | false=>
   left;rintro b (hb | ⟨hf',_⟩)
   ·exact X.sub hb
   ·cases hf'
 have hmlen:hc.length<=M.length:=by
  rcases aR M.length hc.length with hlt | hge
  ·have:=h4 M.length hlt;simp at this
  ·exact hge
 refine⟨v,h1,v,rfl,r0,hs0,EM,h6,hq1 _ _ _ _ (uV X (hor λhf=>(h5 hf).1) h7),⟨?_,?_,?_,?_⟩,⟨?_,?_,hm.good.stat.own λb hb=>hb.imp id λ⟨e,he,ad,h1,h2⟩=>by
  obtain⟨j,hj⟩:=List.mem_iff_getElem?.1 he;obtain⟨i,_,g2⟩:=X.get' hj;exact⟨e,aY g2,ad,h1,h2⟩⟩,by omega,?_,?_⟩
 ·simp [EM,hq3]
 ·intro i j e f a b he hf ha hb' hij;obtain⟨i',g1,g2⟩:=X.get' he;obtain⟨j',g3,g4⟩:=X.get' hf;refine hm.hp.inj i' j' e f a b g2 g4 ha hb' ?_;rintro rfl;have g5:=wE h2 g1;have g6:=wE h2 g3;rw [g5] at g6; cases g6; exact hij rfl
 ·intro i e a he ha;obtain⟨i',g1,g2⟩:=X.get' he;exact hm.hp.lt i' e a g2 ha
 ·intro j e b he hb';obtain⟨i,g1,g2⟩:=X.get' he;have hb2:(expH st.heap M)[j]?=some (expB st.heap M (st.heap.getD i .dead)):=by simp only [expH,aN,g1,Option.map_some]
  refine(hq2.elim (λhq2=>LeB.of_eq (yI hq2 hb2 hb')) λhq2=>JS hq2 hb2 hb') _ _ _ _ ?_;have hlt:=h3 i (aY g1);have hgd:st.heap.getD i .dead=st.heap[i]:=by simp [hlt]
  have hbr:=hm.hp.blk i e _ g2 (aF hlt);rw [<- hgd] at hbr;exact Ve X (hor λhf=>(h5 hf).2 i (aY g1)) hbr
 ·exact hm.good.old
 ·intro i e ad he had;obtain⟨i',g1,g2⟩:=X.get' he;exact hm.good.dis i' e ad g2 had
 ·cases hmv:ctr.vF with
  | true=>
   intro i e he hi;have hlt:=(aG.1 he).1;rw [hh] at hlt
   have hip:i<ctr.pins:=by
    refine bM λg=>hi ?_
    rw [aP rfl];refine List.mem_iff_getElem?.2 ⟨i - ctr.pins,?_⟩;rw [List.getElem?_drop,show ctr.pins+(i - ctr.pins)=i by omega];exact List.getElem?_range hlt
   obtain⟨g1,g2⟩:=hm.since.hold i e (by simpa [vN,hmv] using hip) he;exact⟨by rw [hget,h4 i hlt]; exact g1,g2⟩
  | false=>
   intro i e he _;have hlt:=(aG.1 he).1;rw [hh] at hlt;obtain⟨g1,g2⟩:=hm.since.hold i e (by simpa [vN,hmv] using hlt) he;exact⟨by rw [hget,h4 i hlt]; exact g1,g2⟩
 ·refine⟨hm.since.ext.os,hm.since.ext.tape,hm.since.ext.output,hm.since.ext.size,λb hb' hno=> ?_,λb hb'=> ?_⟩
  ·by_cases hOb:O b
   ·exact hm.since.wh b hOb hb'
   ·exact hm.since.ext.keep b hb' (λhx=>by rcases hx with hx | hx; exact hOb hx; exact hno hx)
  ·rcases X.sub (.inr hb') with hx | hx
   ·obtain⟨j,e,ad,g1,g2,g3⟩:=z7.1 hb';obtain⟨i,_,g4⟩:=X.get' g1;exact absurd (g3▸hx) (hm.good.dis i e ad g4 g2)
   ·obtain⟨i,e,ad,g1,g2,g3⟩:=z7.1 hx;rcases hm.since.ext.grow b (.inr hx) with hy | hy
    ·rcases hy with hy | hy
     ·exact absurd (g3▸hy) (hm.good.dis i e ad g1 g2)
     ·exact .inl hy
    ·exact .inr hy
theorem wg{M:Option Nat}{P:Program}{H:Nat->Act->World->Prop}{B B':Exit->Act->World->Prop}(hB:∀ e a w,B e a w->B' e a w):∀ {k:List Item} {e:Exit} {a:Act} {w:World},wpK M P H B k e a w->wpK M P H B' k e a w
 | [],e,a,w,h=>hB _ _ _ h
 | .code c::k,e,a,w,h=>by
  cases e with
  | normal=>exact wpIn_mono h λe a w h=>wg hB h
  | _=>exact wg (k:=k) hB h
 | .inBlock id::k,e,a,w,h=>by
  cases e with
  | normal=>exact wg (k:=k) hB h
  | exit i=>
   simp only [wpK] at h ⊢;split at h
   ·rename_i hi; rw [aP hi]; exact wg hB h
   ·rename_i hi; rw [aO hi]; exact wg hB h
  | _=>exact wg (k:=k) hB h
 | .inLoop::k,e,a,w,h=>by
  cases e with
  | normal=>exact h
  | _=>exact wg (k:=k) hB h
theorem door{P:Program}{fn:Func}{g:Nat}{c:Code}{ctr:Ctr}(hf:P.funcs[g]?=some fn)(hb:fn.body=some c) (hn:(fn.name == "runtime.NumGoroutine")=false)
  {args:List AV} {hc:Heap} {Q:AV×Heap->Prop} (hfr:ctr.fresh=true->hc=[]) {ι:Type} (S:ι->KV) (H:ι->Heap) (n m:Nat) (hfl:((jE n c).take m).all Q4=true) (hd:j1 ((jE n c).drop m)=0)
  (h1:∀ (O:Nat->Prop) (w0:World) (I0:List SE),I0.length=hc.length->zc P fn O (vN ctr hc) w0 I0 (λ_ kv h=>∃ x,LeK (vN ctr hc) fn.ntmps kv h (S x) (H x)) (RetR ctr hc.length Q) ((jE n c).take m++.inLoop::(jE n c).drop m) (wS fn args hc))
  (h2:∀ (x:ι) (O:Nat->Prop) (w0:World) (I0:List SE) (w:World) (σ:List SE) (a:Act),I0.length=hc.length->Mod O (vN ctr hc) w0 I0 w σ (mk fn.ntmps (S x) (H x)) a ->
   wpK none P (λ_ _ _=>False) (bodyPostM Fence.wide 0 P fn (uM O w0 I0 ctr hc Q)) ((jE n c).drop m) .normal a w):j9 P g ctr args hc Q:=by
 intro O w I0 vals hg hh hr;left;have hn':¬ fn.name = "runtime.NumGoroutine" :=by simpa using hn
 refine⟨by simp [callFunc,hf,hn',hb],?_⟩;refine callsIn_wide.1 (callsIn_of_wp_marks (F:=Fence.wide) (n:=0) (R:=uM O w I0 ctr hc Q) hf hb trivial ?_);show wpK none P (λ_ _ _=>False) (bodyPostM Fence.wide 0 P fn (uM O w I0 ctr hc Q)) [.code c] .normal _ w;refine Qi n c [] _ w ?_;rw [List.append_nil,<- bU m (jE n c)];refine kQ (H':=λd a w'=>∃ st σ,(∃ kv h,(∃ x,LeK (vN ctr hc) fn.ntmps kv h (S x) (H x))/\st=mk fn.ntmps kv h)/\Mod O (vN ctr hc) w I0 w' σ st a) ?_ ?_ _ hfl .normal _ w (wg ?_ (h1 O w I0 hh.len w I0 _ (V6 hg hh hr)))
 ·rintro a w1 ⟨st,σ,⟨kv,h,⟨x,hle⟩,rfl⟩,hm⟩;exact h2 x O w I0 w1 _ a hh.len (hle.le.mod hm)
 ·intro d a w1 hlt;rw [hd] at hlt;omega
 ·intro e a1 w1 h
  have hend:∀ (st:St) (σ:List SE),((resX P st fn.results.toList).holds λrs=>RetR ctr hc.length Q rs st.heap)->Mod O (vN ctr hc) w I0 w1 σ st a1->LeavesInM Fence.wide 0 P fn a1.tmps (uM O w I0 ctr hc Q) a1.defers .returning w1:=by
   intro st σ hR hm;refine vS a1.defers w1 hm λw' hm'=> ?_
   obtain⟨v,h1,h2⟩:=zek hh.len hfr st σ _ _ hR hm';exact⟨v,h1,h2⟩
  rcases h with ⟨rfl | rfl,st,σ,hR,hm⟩ | ⟨ch,_,h,_⟩
  ·exact hend st σ hR hm
  ·exact hend st σ hR hm
  ·exact h.elim
structure Kept(w w':World):Prop where
 os:w'.os=w.os
 tape:w'.tape=w.tape
 output:w'.output=w.output
 size:w.heap.size<=w'.heap.size
 keep:∀ b,b<w.heap.size->w'.heap[b]?=w.heap[b]?
theorem Kept.of{w w':World}{p:Nat->Prop}(h:Ext (Mine []) w p w'):Kept w w':=⟨h.os,h.tape,h.output,h.size,λb hb=>h.keep b hb λhm=>by obtain⟨_,he,_⟩:=hm; simp at he⟩
theorem Kept.ext{w w':World}(h:Kept w w')(own:Nat->Prop):Ext own w own w':=⟨h.os,h.tape,h.output,h.size,λb hb _=>h.keep b hb,λb hb=>.inl hb⟩
theorem Kept.hold{w w':World}(h:Kept w w')(K:List Nat)(σ:List SE):Hold K w σ w' σ:=λi e he _=>⟨he,λad had cs el hcs=>⟨cs,el,by rw [h.keep _ (aQ.1 hcs).1]; exact hcs,rfl⟩⟩
theorem Kept.good{O:Nat->Prop}{w w':World}{σ:List SE}(h:Kept w w')(hg:Good O w σ):Good O w' σ:=⟨λb hb=>bB (hg.old b hb) h.size,hg.dis,hg.stat.ext (h.ext _)⟩
theorem Kept.rep{own:Nat->Prop}{w w':World}{σ:List SE}{a:AV}{v:Value}(h:Kept w w')(hr:Rep own w a σ v):Rep own w' a σ v:=zT (h.ext own) (h.hold [] σ) a v (qX a) hr
theorem Kept.hrep{own:Nat->Prop}{w w':World}{σ:List SE}{hp:Heap}(h:Kept w w')(hh:HRep own w σ hp):HRep own w' σ hp:=
 ⟨hh.len,hh.inj,λi e a he ha=>bB (hh.lt i e a he ha) h.size,λi e b he hb=>by
  have:=jh (K:=[]) (h.ext own) (h.hold [] σ) (hh.blk i e b he hb) λad had=>h.keep _ (hh.lt i e ad he had)
  rwa [jr] at this⟩
theorem Kept.trans{w1 w2 w3:World}(h:Kept w1 w2)(k:Kept w2 w3):Kept w1 w3:=⟨k.os.trans h.os,k.tape.trans h.tape,k.output.trans h.output,bP h.size k.size,λb hb=>(k.keep b (bB hb h.size)).trans (h.keep b hb)⟩
theorem Kept.alloc(w:World)(o:Obj):Kept w (w.alloc o):=⟨rfl,rfl,rfl,by show _<=(w.heap.push o).size; simp,λb hb=>by
 show(w.heap.push o)[b]?=_;rw [Array.getElem?_push,aO (Nat.ne_of_lt hb)]⟩
theorem ZS{Xp:List PanicEntry->Prop}{P:Program}{g:Nat}{c:Ctr}{args:List AV}{r:AV}{O:Nat->Prop}{w:World}{σ:List SE}{vals:List Value}(hc:z9 Xp P g c)(hq:(c.spec args []).holds λp=>p=(r,[])\/p=(.bot,[]))(hg:Good O w σ){hp:Heap}(hh:HRep (Own O σ) w σ hp)(hr:RepL (Own O σ) w args [] vals) :
  q9 Xp (Kept w) P g vals.toArray w λv w'=>Kept w w'/\Rep (Own O σ) w' r [] v:=by
 have hO:∀ b,Own (Own O σ) [] b->Own O σ b:=λb hb=>hb.elim id λ⟨e,he,_⟩=>by simp at he
 have hg':Good (Own O σ) w []:=⟨?_,λi e ad he=>by simp at he,hg.stat.own hO⟩
 ·refine q9.map (λw' h=>Kept.of h) ?_ (hc args [] _ hq (λ_=>rfl) (Own O σ) w [] vals hg' ⟨rfl,λi j e f a b he=>by simp at he,λi e a he=>by simp at he,λi e b he=>by simp at he⟩ (qP (K:=[]) ⟨rfl,rfl,rfl,aJ _,λ_ _ _=>rfl,λb hb=>.inl (hO b hb)⟩ (λi e he=>by simp at he) _ _ (wu _) hr));rintro v w' ⟨r',hs,Z',h1,h2,h3,h4,h5,h6,h7⟩;rcases h1 with h1 | h1
  ·cases h1;have hZ:Z'=[]:=aU.1 h3.len;subst hZ;exact⟨Kept.of h7,w7 (λb hb=>.inl (.inl hb)) h2⟩
  ·cases h1;exact h2.elim
 ·intro b hb;rcases hb with hb | ⟨e,he,ad,h1,rfl⟩
  ·exact hg.old b hb
  ·obtain⟨i,hi⟩:=List.mem_iff_getElem?.1 he;exact hh.lt i e ad hi h1
theorem LeA.tup{l m:List AV}(h:LeL l m):LeA (.tup l) (.tup m):=by
 intro own w σ v hr;simp only [Rep] at hr ⊢;obtain⟨vs,hv,hr⟩:=hr;exact⟨vs,hv,h.rep hr⟩
section
variable {P:Program} {ops:Array Oper} {rest:List Oper} {o:Oper} {a:Act} {w w':World} {Q:Exit->Act->World->Prop}
theorem Ux{v:Value}(hg:o.guard=none)(hd:∀ c,o.op≠.defer c)(hrun:(execOp a.eval o).run P w = .ok (.value v) w')(h:wpListIn Fence.wide 0 P ops Q rest (a.put o.dst v) w'):wpListIn Fence.wide 0 P ops Q (o::rest) a w:=
 wpListIn_plain hg λK hK=>jQ (M:=none) hd (by unfold Oper.wp; rw [hrun]; exact hK _ _ h)
theorem step_skip(hg:o.guard=none)(hd:∀ c,o.op≠.defer c)(hrun:(execOp a.eval o).run P w = .ok .skip w')(h:wpListIn Fence.wide 0 P ops Q rest (a.put o.dst undef) w'):wpListIn Fence.wide 0 P ops Q (o::rest) a w:=
 wpListIn_plain hg λK hK=>jQ (M:=none) hd (by unfold Oper.wp; rw [hrun]; exact hK _ _ h)
theorem VW{x:Operand}(hg:o.guard=none)(ho:o.op = .move x)(h:wpListIn Fence.wide 0 P ops Q rest (a.put o.dst (a.eval x)) w):wpListIn Fence.wide 0 P ops Q (o::rest) a w:=
 Ux hg (by simp [ho]) (by simp only [execOp,ho]; rfl) h
theorem Kw{O:Nat->Prop}{σ:List SE}{hp:Heap}{t:TypeId}{x:Operand}{p r:AV}(hh:HRep (Own O σ) w σ hp)(hg:o.guard=none)(ho:o.op = .load t x)(hx:Rep (Own O σ) w p σ (a.eval x))(hq:Zn P hp t p = .leaf r)
  (h:∀ v,Rep (Own O σ) w r σ v->wpListIn Fence.wide 0 P ops Q rest (a.put o.dst v) w):wpListIn Fence.wide 0 P ops Q (o::rest) a w:=by
 obtain⟨r',v,h1,h2,h3⟩:=uK (P:=P) hh hx (Q:=(· = r)) (by rw [hq]; exact rfl);subst h2;refine Ux hg (by simp [ho]) ?_ (h v h3);simp only [execOp,ho,Sem.run_bind,h1,Result.andThen_ok,Sem.run_pure]
theorem Vg{O:Nat->Prop}{σ:List SE}{hp:Heap}{t:TypeId}{x y:Operand}{i:Nat}{c r:AV}(hgd:Good O w σ)(hh:HRep (Own O σ) w σ hp)(hg:o.guard=none)(ho:o.op = .store t x y)(hx:Rep (Own O σ) w (.ptr i 0) σ (a.eval x))(hb:hp[i]?=some (.box [c]))(hn:qa P t=some 1)(hy:Rep (Own O σ) w r σ (a.eval y))(hc:cellsOf r=some [r])(h1:oneA r=true)
  (h:∀ w',Post O w σ hp ⟨.undef,[(i,.box [r])],[]⟩ undef w' σ->wpListIn Fence.wide 0 P ops Q rest (a.put o.dst undef) w'):wpListIn Fence.wide 0 P ops Q (o::rest) a w:=by
 obtain⟨w',h2,h3⟩:=xa (P:=P) hgd hh hx hb hn (qb hc hy) rfl (aJ _) (by simp [h1]);refine step_skip hg (by simp [ho]) ?_ (h w' h3);simp only [execOp,ho,Sem.run_bind,h2,Result.andThen_ok,Sem.run_pure]
theorem VS{Xp:List PanicEntry->Prop}{D:World->Prop}{R:Value->World->Prop}{c:Call}{f:Operand}{g:Nat}(hg:o.guard=none)(ho:o.op = .call c)(hc:c.callee = .value f)(hf:a.eval f = .func (.func g) #[] #[])(h:q9 Xp D P g (c.args.toList.map a.eval).toArray w R)
  (hK:∀ v w',R v w'->wpListIn Fence.wide 0 P ops Q rest (a.put o.dst v) w') (hP:∀ ch w',Xp ch->D w'->Q (.panic ch) a w'):wpListIn Fence.wide 0 P ops Q (o::rest) a w:=
 wpListIn_plain hg λK hKK=>jQ (M:=none) (by simp [ho]) (by
  have hcall:(execOp a.eval o).run P w=(callFunc g (c.args.toList.map a.eval).toArray).run P w:=by
   obtain⟨callee,args,ats⟩:=c;simp only at hc;subst hc;simp only [execOp,ho,resolve,hf,Deferred.ofValue,Sem.run_bind,Sem.run_pure,Result.andThen_ok,invoke];congr 2;simp [<- Array.toList_inj]
  unfold Oper.wp;rcases h with ⟨h3,h4⟩ | ⟨v,w',h3,h4⟩
  ·rw [hcall,h3];refine h4.mono λe w' he=> ?_
   rcases he with ⟨v,he,hR⟩ | ⟨ch,he,h5,h6⟩
   ·subst he; exact hKK _ _ (hK _ _ hR)
   ·subst he; exact hP ch w' h5 h6
  ·rw [hcall,h3];exact hKK _ _ (hK _ _ h4))
theorem step_defer{c:Call}{f:Operand}{g:Nat}(hg:o.guard=none)(ho:o.op = .defer c)(hdst:o.dst=none)(hc:c.callee = .value f)(hf:a.eval f = .func (.func g) #[] #[])
  (h:wpListIn Fence.wide 0 P ops Q rest { a with defers:={ target:=.fn (.func g) #[],args:=(c.args.toList.map a.eval).toArray } :: a.defers } w):wpListIn Fence.wide 0 P ops Q (o::rest) a w:=
 wpListIn_plain hg λK hKK=>by
  obtain⟨callee,args,ats⟩:=c;simp only at hc;subst hc;refine⟨λf _=>trivial,?_⟩
  have:(Oper.semAt Fence.wide.round a.eval o).run P w = .ok (.defer { target:=.fn (.func g) #[],args:=(args.toList.map a.eval).toArray }) w:=by
   show(execOp a.eval o).run P w=_;simp only [execOp,ho,resolve,hf,Deferred.ofValue,Sem.run_bind,Sem.run_pure,Result.andThen_ok];congr 3;simp [<- Array.toList_inj]
  rw [this];simp only [Oper.uponIn,hdst];exact hKK _ _ h
theorem J3{t:TypeId}{b:Nat}{old v:Value}(hn:qa P t=some 1)(hv:v.cells = #[v])(hc:w.cell? ⟨b,0,none⟩=some old)(hz:w.frozen? ⟨b,0,none⟩=false)(h1:v.oneCell'=true) :
  (Instr.storeAt t (.pointer (some ⟨b,0,none⟩)) v).run P w = .ok () (w.setCell ⟨b,0,none⟩ v):=by
 simp only [Instr.storeAt,Instr.sureAddr,Sem.run_bind,Sem.run_pure,Result.andThen_ok,storeVar,zC hn,hv];simp [storeCells,go_sem,hc,hz];rw [run_store _ _ _ _ _ h1,hc];simp [hz]
end
theorem yv{O:Nat->Prop}{w:World}{σ:List SE}{hp:Heap}{i:Nat}{c:AV}{v:Value}(hh:HRep (Own O σ) w σ hp)(hx:Rep (Own O σ) w (.ptr i 0) σ v)(hb:hp[i]?=some (.box [c])) :
  ∃ b u,v = .pointer (some ⟨b,0,none⟩)/\w.cell? ⟨b,0,none⟩=some u/\w.frozen? ⟨b,0,none⟩=false/\Rep (Own O σ) w c σ u/\∃ e ad,σ[i]?=some e/\e.ad=some ad/\ad.block=b:=by
 simp only [Rep] at hx;obtain⟨e,ad,he,had,rfl⟩:=hx;obtain⟨ad',vs,el,had',h0,hcs,hr⟩:=hh.blk i e _ he hb;rw [had] at had';cases had';simp only [RepL] at hr;obtain⟨u,r,rfl,h1,rfl⟩:=hr;refine⟨ad.block,u,by rw [h0],?_,?_,h1,e,ad,he,had,rfl⟩
 ·simp [World.cell?,hcs]
 ·simp [World.frozen?,hcs]
end Go.Sx
end
section
set_option maxRecDepth 100000
open Go Go.Sx Go.Proofs Go.Nov
namespace Go.Proofs.Tryz
attribute [local simp] eqKV eqA eqA0 eqH eqB eqL eqL0
def FI.pre(k:FI):Prop:=k.c.big<2^40/\k.c.nodes<=1000000/\envP (k.f,k.h)
def vT:Ctr:=ctrP false (λk:FI=>[k.c.conA,.i k.day,.i k.fin,envA k.f k.h]) FI.pre (λk r=>r=befM k.c k.day k.fin k.f k.h) (λ_ (r:List Fl×Int)=>(.tup [flS r.1,.i r.2],[]))
noncomputable def LB:List Go.Sx.Item:=(jE 6 (f52.body.getD .skip)).take 4++.inLoop::(jE 6 (f52.body.getD .skip)).drop 4
noncomputable def GBef:=tb V9 (tb V4 tz)
def SBe(day fin:Int):KV:=[(1,.i day),(2,.i fin),(4,.ptr 0 0),(7,.ptr 1 0),(8,.ptr 2 0),(9,.ptr 3 0)]
def HBe(c:Con)(f:List Fx)(h:List Ch):Heap:=[.box c.ze,.box [fxS f,chS h],.box [.nils],.box [.i 0]]
theorem zhl(c:Con)(day fin:Int)(f:List Fx)(h:List Ch)(hp:FI.pre ⟨c,day,fin,f,h⟩){Q:AV×Heap->Prop}(hq:Q (.tup [flS (befM c day fin f h).1,.i (befM c day fin f h).2],[])){O:Nat->Prop}{w0:World}{I0:List SE} :
  zc prog f52 O 0 w0 I0 (λ_ kv hh=>∃ x:{u:Unit // c.errC=0/\errE f h=0/\0<=day/\day<=99999/\0<=fin/\fin<=100000},LeK 0 f52.ntmps kv hh (SBe day fin) (HBe c f h)) (RetR vT 0 Q) LB (wS f52 [c.conA,.i day,.i fin,envA f h] []):=by
 obtain⟨p1,p2,p3⟩:=hp;simp only at p1 p2 p3;refine zc.n GBef.h [1,2,4,7,8,9] (let v1:List AV:=[.sl f.length 3 (fxG f),.sl h.length 4 (chG h)];.ex (q31 [(Con.conA c)]) λn=>.all (λ(r:Int)=>r=Con.errC n) λn=>.N (n=0) (.R [.nils,.i n] [.box c.ze,.box v1,.box [.nils],.box [.i n]]) (.ex (q56 [.agg [.sl f.length 3 (fxG f),.sl h.length 4 (chG h)]]) λn=>.all (λ(r:Int)=>r=errE n.1 n.2) λn=>.N (n=0) (.R [.nils,.i n] [.box c.ze,.box v1,.box [.nils],.box [.i n]]) (.ite (bif bif bif decide (day<0) then true else decide ((99999:Int)<day) then true else decide (fin<0) then true else decide ((100000:Int)<fin)) (.R [.nils,.i 2] [.box c.ze,.box v1,.box [.nils],.box [.i 2]]) (.leaf (.back 0 [(1,.i day),(2,.i fin),(4,.ptr 0 0),(7,.ptr 1 0),(8,.ptr 2 0),(9,.ptr 3 0)] [.box c.ze,.box v1,.box [.nils],.box [.i 0]]))))) ?_;simp only [q31,q56,Tree.holds,zf,inR,lo,hi,aD]
 have ret:∀ (e:Int) (hs:Heap),befM c day fin f h=([],e)->RetR vT 0 Q [.nils,.i e] hs:=by
  intro e hs he;rw [he] at hq;exact RetR.le0 hq (λh=>by cases h) (LeA.tup ⟨LeA.nils,LeA.refl _,trivial⟩)
 refine⟨c,⟨⟨qQ c,trivial⟩,p1,p2⟩,⟨_,rfl⟩,?_⟩;rintro _ rfl;refine⟨λhe=>ret _ _ ?_,λhe=>⟨(f,h),⟨⟨⟨⟨rfl,rfl,λ_ _ _ _=>rfl⟩,⟨rfl,rfl,λ_ _ _ _=>rfl⟩,trivial⟩,trivial⟩,p3⟩,⟨_,rfl⟩,?_⟩⟩
 ·have he:c.errC≠0:=by simpa using he
  unfold befM; rw [aP he]
 have he:c.errC=0:=by simpa using he
 rintro _ rfl;refine⟨λhE=>ret _ _ ?_,λhE=>⟨λhr=>ret _ _ ?_,λhr=>⟨⟨(),?_⟩,?_⟩⟩⟩
 ·have hE:errE f h≠0:=by simpa using hE
  unfold befM; rw [aO (by simp [he]),aP hE]
 ·have hE:errE f h=0:=by simpa using hE
  have hr:day<0\/99999<day\/fin<0\/100000<fin:=by
   by_cases a:day<0
   ·exact .inl a
   by_cases b:99999<day
   ·exact .inr (.inl b)
   by_cases d:fin<0
   ·exact .inr (.inr (.inl d))
   ·simpa [a,b,d] using hr
  unfold befM; rw [aO (by simp [he]),aO (by simp [hE]),aP hr]
 ·have hE:errE f h=0:=by simpa using hE
  by_cases a:day<0
  ·simp [a] at hr
  by_cases b:99999<day
  ·simp [a,b] at hr
  by_cases d:fin<0
  ·simp [a,b,d] at hr
  by_cases e:100000<fin
  ·simp [a,b,d,e] at hr
  exact⟨he,hE,by omega,by omega,by omega,by omega⟩
 ·exact⟨by simp [SBe],by simp [HBe,za,Con.ze,Con.qE,fxS,chS,Ex.exS,Con.dayS,Con.conS],by kernel_rfl,aI _⟩
noncomputable def LBt:List Go.Sx.Item:=(jE 6 (f52.body.getD .skip)).drop 4
def opsI:Go.Sx.Item->List Oper
 | .code (.region _ ops _)=>ops.toList
 | _=>[]
def zuh:Oper:={ dst:=none,op:=.move (.const undef),type:=0,pos:= "",after:= #[],guard:=none }
noncomputable def opB(r k:Nat):Oper:=(opsI (LBt.getD r .inLoop)).getD k zuh
theorem ztb:LBt=[.code (.region 9 #[opB 0 0] false),.code (.region 10 #[opB 1 0,opB 1 1,opB 1 2,opB 1 3,opB 1 4,opB 1 5,opB 1 6,opB 1 7] false),.code .ret]:=by kernel_rfl
theorem opD:(opB 0 0).guard=none/\(opB 0 0).dst=none/\(opB 0 0).op = .defer { callee:=.value (.func 83),args:= #[.tmp 9,.tmp 8],argTypes:= #[140,141] } :=⟨by kernel_rfl,by kernel_rfl,by kernel_rfl⟩
theorem opB0:(opB 1 0).guard=none/\(opB 1 0).dst=some 36/\(opB 1 0).op = .load 39 (.tmp 4):=⟨by kernel_rfl,by kernel_rfl,by kernel_rfl⟩
theorem opB1:(opB 1 1).guard=none/\(opB 1 1).dst=some 37/\(opB 1 1).op = .move (.tmp 1):=⟨by kernel_rfl,by kernel_rfl,by kernel_rfl⟩
theorem opB2:(opB 1 2).guard=none/\(opB 1 2).dst=some 38/\(opB 1 2).op = .move (.tmp 2):=⟨by kernel_rfl,by kernel_rfl,by kernel_rfl⟩
theorem opB3:(opB 1 3).guard=none/\(opB 1 3).dst=some 39/\(opB 1 3).op = .load 28 (.tmp 7):=⟨by kernel_rfl,by kernel_rfl,by kernel_rfl⟩
theorem opB4:(opB 1 4).guard=none/\(opB 1 4).dst=some 40/\(opB 1 4).op = .call { callee:=.value (.func 85),args:= #[.tmp 36,.tmp 37,.tmp 38,.tmp 39],argTypes:= #[39,3,3,28] } :=⟨by kernel_rfl,by kernel_rfl,by kernel_rfl⟩
def argT(o:Oper):Array TypeId:=match o.op with
 | .call c=>c.argTypes
 | _=> #[]
theorem opB5:(opB 1 5).guard=none/\(opB 1 5).dst=some 41/\(opB 1 5).op = .call { callee:=.value (.func 84),args:= #[.tmp 40,.func 86],argTypes:=argT (opB 1 5) } :=⟨by kernel_rfl,by kernel_rfl,by kernel_rfl⟩
theorem opB6:(opB 1 6).guard=none/\(opB 1 6).dst=none/\(opB 1 6).op = .store 56 (.tmp 8) (.tmp 41):=⟨by kernel_rfl,by kernel_rfl,by kernel_rfl⟩
theorem opB7:(opB 1 7).guard=none/\(opB 1 7).dst=none/\(opB 1 7).op = .store 40 (.tmp 9) (.const (.i 0)):=⟨by kernel_rfl,by kernel_rfl,by kernel_rfl⟩
theorem ze4{a:Act}{d t:Nat}{v:Value} : (a.put (some d) v).tmps.getD t undef=if t=d/\d<a.tmps.size then v else a.tmps.getD t undef:=by
 simp only [Act.put,bQ,Array.getElem?_setIfInBounds];by_cases h:d=t
 ·subst h;by_cases h2:d<a.tmps.size
  ·simp [h2]
  ·simp [h2]
 ·rw [aO h,aO (λx=>h x.1.symm)]
theorem size_put{a:Act}{d:Nat}{v:Value} : (a.put (some d) v).tmps.size=a.tmps.size:=by simp [Act.put]
theorem uh{a:Act}{d:Nat}{v:Value}{P:Act->Prop}(h:∀ b:Act,b.defers=a.defers->b.tmps.size=a.tmps.size->(d<a.tmps.size->b.tmps.getD d undef=v)->(∀ t,t≠d->b.tmps.getD t undef=a.tmps.getD t undef)->P b):P (a.put (some d) v):=
 h _ rfl size_put (λhd=>by rw [ze4,aP ⟨rfl,hd⟩]) λt ht=>by rw [ze4,aO (λx=>ht x.1)]
theorem ze1{c:Con}{day fin:Int}{f:List Fx}{h:List Ch}{Q:AV×Heap->Prop}(hq:Q (.tup [flS (befM c day fin f h).1,.i (befM c day fin f h).2],[])){O:Nat->Prop}{w0 w:World}{σ:List SE}{a:Act}(hm:Mod O 0 w0 [] w σ (mk f52.ntmps (SBe day fin) (HBe c f h)) a)
  {w4:World} {T:Array Value} {x:AV} {e:Int} (g1:Go.Sx.Good O w4 σ) (g2:HRep (Go.Sx.Own O σ) w4 σ [.box c.ze,.box [fxS f,chS h],.box [x],.box [.i e]]) (g3:Ext (Go.Sx.Own O σ) w (Go.Sx.Own O σ) w4) (g4:∀ b,O b->b<w.heap.size->w4.heap[b]?=w.heap[b]?)
  (g5:T.getD 8 undef=a.tmps.getD 8 undef) (g6:T.getD 9 undef=a.tmps.getD 9 undef) (g7:T.size=a.tmps.size) (hx:x = .nils/\(befM c day fin f h).1=[]\/x=flS (befM c day fin f h).1) (he:e=(befM c day fin f h).2) :
  LeavesInM Fence.wide 0 prog f52 T (uM O w0 [] vT [] Q) a.defers .returning w4:=by
 have hm4:Mod O 0 w0 [] w4 σ (mk f52.ntmps [(8,.ptr 2 0),(9,.ptr 3 0)] [.box c.ze,.box [fxS f,chS h],.box [x],.box [.i e]]) { tmps:=T,defers:=a.defers } :=by
  refine⟨g1,g2,?_,λt=> ?_,hm.df.ext g3,hm.since.trans ⟨g3,g4,λi e hi _=>absurd hi (Nat.not_lt_zero i)⟩,hm.lim⟩
  ·rw [show({ tmps:=T,defers:=a.defers } : Act).tmps=T from rfl,g7,hm.size];simp [mk,pk]
  ·by_cases h8:t=8
   ·subst h8;show Rep (Go.Sx.Own O σ) w4 (.ptr 2 0) σ (T.getD 8 undef);rw [g5];have:Rep (Go.Sx.Own O σ) w (.ptr 2 0) σ (a.tmps.getD 8 undef):=hm.tm 8;simpa only [Rep] using this
   ·by_cases h9:t=9
    ·subst h9;show Rep (Go.Sx.Own O σ) w4 (.ptr 3 0) σ (T.getD 9 undef);rw [g6];have:Rep (Go.Sx.Own O σ) w (.ptr 3 0) σ (a.tmps.getD 9 undef):=hm.tm 9;simpa only [Rep] using this
    ·have:(mk f52.ntmps [(8,.ptr 2 0),(9,.ptr 3 0)] [.box c.ze,.box [fxS f,chS h],.box [x],.box [.i e]]).tmps.getD t .undef = .undef:=by
      simp only [mk];by_cases hlt:t<f52.ntmps
      ·rw [wo hlt]; simp [Go.Sx.look,Ne.symm h8,Ne.symm h9]
      ·have:(pk f52.ntmps [(8,.ptr 2 0),(9,.ptr 3 0)])[t]?=none:=aZ (by simp [pk]; exact Nat.not_lt.1 hlt);rw [List.getD_eq_getElem?_getD,this]; rfl
     rw [this];simp [TRep,Rep]
 refine vS a.defers w4 hm4 λw' hm'=> ?_
 refine zek (ctr:=vT) (hc:=[]) rfl (λhh=>by cases hh) _ σ _ _ ?_ hm';subst he;rcases hx with ⟨rfl,hx⟩ | rfl
 ·have e1:resX prog (mk f52.ntmps [(8,.ptr 2 0),(9,.ptr 3 0)] [.box c.ze,.box [fxS f,chS h],.box [.nils],.box [.i (befM c day fin f h).2]]) f52.results.toList = .leaf [.nils,.i (befM c day fin f h).2]:=by kernel_rfl
  rw [e1];rw [hx] at hq;exact RetR.le0 hq (λh=>by cases h) (LeA.tup ⟨LeA.nils,LeA.refl _,trivial⟩)
 ·have e1:resX prog (mk f52.ntmps [(8,.ptr 2 0),(9,.ptr 3 0)] [.box c.ze,.box [fxS f,chS h],.box [flS (befM c day fin f h).1],.box [.i (befM c day fin f h).2]]) f52.results.toList = .leaf [flS (befM c day fin f h).1,.i (befM c day fin f h).2]:=by kernel_rfl
  rw [e1];exact RetR.le0 hq (λh=>by cases h) (LeA.refl _)
def zci(c:Con)(day fin:Int)(f:List Fx)(h:List Ch)(ch:List PanicEntry):Prop:=∃ x,flM f h c day fin = .error x/\ch=Zz uA x
theorem zjx{c:Con}{day fin:Int}{f:List Fx}{h:List Ch}(hp:FI.pre ⟨c,day,fin,f,h⟩)(hx:c.errC=0/\errE f h=0/\0<=day/\day<=99999/\0<=fin/\fin<=100000){Q:AV×Heap->Prop}(hq:Q (.tup [flS (befM c day fin f h).1,.i (befM c day fin f h).2],[])){O:Nat->Prop}{w0 w:World}{σ:List SE}{a:Act}(hm:Mod O 0 w0 [] w σ (mk f52.ntmps (SBe day fin) (HBe c f h)) a) :
  wpK none prog (λ_ _ _=>False) (bodyPostM Fence.wide 0 prog f52 (uM O w0 [] vT [] Q)) LBt .normal a w:=by
 obtain⟨p1,p2,p3⟩:=hp;obtain⟨x1,x2,x3,x4,x5,x6⟩:=hx;simp only at p1 p2 p3
 have hform:c.form=true/\c.size<=500:=by
  unfold Con.errC at x1;split at x1
  ·cases x1
  ·rename_i hs;split at x1
   ·rename_i hf; exact⟨hf,by omega⟩
   ·cases x1
 have hG:FI.G ⟨c,day,fin,f,h⟩:=⟨hform.1,p1,by have:=Con.jN c; show c.nodes<_; omega,p3⟩
 have hbef:befM c day fin f h=match flM f h c day fin with
  | .error e=>([],e)
  | .ok l=>(ordM l,0):=by
  unfold befM; rw [aO (by simp [x1]),aO (by simp [x2]),aO (by omega)];cases flM f h c day fin<;>rfl
 have sz:a.tmps.size=42:=by rw [hm.size]; simp only [mk,pk,List.length_map,List.length_range]; rfl
 have t1:a.tmps.getD 1 undef = .i day:=hm.tm 1;have t2:a.tmps.getD 2 undef = .i fin:=hm.tm 2;have t4:Rep (Go.Sx.Own O σ) w (.ptr 0 0) σ (a.tmps.getD 4 undef):=hm.tm 4;have t7:Rep (Go.Sx.Own O σ) w (.ptr 1 0) σ (a.tmps.getD 7 undef):=hm.tm 7;have t8:Rep (Go.Sx.Own O σ) w (.ptr 2 0) σ (a.tmps.getD 8 undef):=hm.tm 8;have t9:Rep (Go.Sx.Own O σ) w (.ptr 3 0) σ (a.tmps.getD 9 undef):=hm.tm 9;have hhp:HRep (Go.Sx.Own O σ) w σ (HBe c f h):=hm.hp;rw [ztb];simp only [wpK];obtain⟨d1,d2,d3⟩:=opD;refine wpIn_region_list (Go.Sx.step_defer d1 d3 d2 rfl rfl ?_);refine wpListIn_nil ?_;simp only [wpK];obtain⟨bl,ul,hl1,hl2,hl3,hl4,el,adl,hl5,hl6,hl7⟩:=yv hhp t8 rfl;obtain⟨be,ue,he1,he2,he3,he4,ee,ade,he5,he6,he7⟩:=yv hhp t9 rfl
 have hne:be≠bl:=by
  rw [<- he7,<- hl7];exact hhp.inj 3 2 _ _ _ _ he5 hl5 he6 hl6 (by decide)
 have hnl:¬ O bl:=by rw [<- hl7]; exact hm.good.dis 2 _ _ hl5 hl6
 have hne2:¬ O be:=by rw [<- he7]; exact hm.good.dis 3 _ _ he5 he6
 obtain⟨o0g,o0d,o0o⟩:=opB0;obtain⟨o1g,o1d,o1o⟩:=opB1;obtain⟨o2g,o2d,o2o⟩:=opB2;obtain⟨o3g,o3d,o3o⟩:=opB3;obtain⟨o4g,o4d,o4o⟩:=opB4;obtain⟨o5g,o5d,o5o⟩:=opB5;obtain⟨o6g,o6d,o6o⟩:=opB6;obtain⟨o7g,o7d,o7o⟩:=opB7
 have hD:(([.tmp 9,.tmp 8]:List Operand).map a.eval).toArray = #[.pointer (some ⟨be,0,none⟩),.pointer (some ⟨bl,0,none⟩)]:=by
  show #[a.tmps.getD 9 undef,a.tmps.getD 8 undef]=_;rw [hl1,he1]
 refine wpIn_region_list ?_;obtain⟨b0,hb0⟩:∃ b:Act,b={ a with defers:={ target:=.fn (.func 83) #[],args:=(([.tmp 9,.tmp 8]:List Operand).map a.eval).toArray } :: a.defers } :=⟨_,rfl⟩;have s0:b0.tmps=a.tmps:=by rw [hb0]
 have f0:b0.defers={ target:=.fn (.func 83) #[],args:= #[.pointer (some ⟨be,0,none⟩),.pointer (some ⟨bl,0,none⟩)] } :: a.defers:=by rw [hb0,<- hD]
 show wpListIn _ _ _ _ _ _ { a with defers:={ target:=.fn (.func 83) #[],args:=(([.tmp 9,.tmp 8]:List Operand).map a.eval).toArray } :: a.defers } w;rw [<- hb0];clear hb0;show wpListIn Fence.wide 0 _ _ _ [opB 1 0,opB 1 1,opB 1 2,opB 1 3,opB 1 4,opB 1 5,opB 1 6,opB 1 7] b0 w;refine Kw (r:=c.conA) hhp o0g o0o (p:=.ptr 0 0) (by show Rep _ _ _ _ (b0.tmps.getD 4 undef); rw [s0]; exact t4) (by kernel_rfl) λv36 r36=> ?_
 rw [o0d];refine uh (P:=λb=>wpListIn _ _ _ _ _ _ b w) λb1 f1 z1 v1 u1=> ?_
 rw [s0] at z1 v1 u1;refine VW o1g o1o ?_;rw [o1d,show b1.eval (.tmp 1) = .i day from(u1 1 (by decide)).trans t1];refine uh (P:=λb=>wpListIn _ _ _ _ _ _ b w) λb2 f2 z2 v2 u2=> ?_
 refine VW o2g o2o ?_;rw [o2d,show b2.eval (.tmp 2) = .i fin from(u2 2 (by decide)).trans ((u1 2 (by decide)).trans t2)];refine uh (P:=λb=>wpListIn _ _ _ _ _ _ b w) λb3 f3 z3 v3 u3=> ?_
 have k7:b3.eval (.tmp 7)=a.tmps.getD 7 undef:=(u3 7 (by decide)).trans ((u2 7 (by decide)).trans (u1 7 (by decide)));refine Kw (r:=envA f h) hhp o3g o3o (p:=.ptr 1 0) (by rw [k7]; exact t7) (by kernel_rfl) λv39 r39=> ?_
 rw [o3d];refine uh (P:=λb=>wpListIn _ _ _ _ _ _ b w) λb4 f4 z4 v4 u4=> ?_
 have k36:b4.eval (.tmp 36)=v36:=(u4 36 (by decide)).trans ((u3 36 (by decide)).trans ((u2 36 (by decide)).trans (v1 (by omega))));have k37:b4.eval (.tmp 37) = .i day:=(u4 37 (by decide)).trans ((u3 37 (by decide)).trans (v2 (by omega)));have k38:b4.eval (.tmp 38) = .i fin:=(u4 38 (by decide)).trans (v3 (by omega));have k39:b4.eval (.tmp 39)=v39:=v4 (by omega);have fb4:b4.defers={ target:=.fn (.func 83) #[],args:= #[.pointer (some ⟨be,0,none⟩),.pointer (some ⟨bl,0,none⟩)] } :: a.defers:=f4.trans (f3.trans (f2.trans (f1.trans f0)));have u8:∀ t,t<36->b4.tmps.getD t undef=a.tmps.getD t undef:=λt ht=>(u4 t (by omega)).trans ((u3 t (by omega)).trans ((u2 t (by omega)).trans (u1 t (by omega))))
 have zb4:b4.tmps.size=a.tmps.size:=z4.trans (z3.trans (z2.trans z1))
 have nil36:Rep (Go.Sx.Own O σ) w c.conA [] v36:=by
  simp only [Con.conA,Ex.exS,Con.dayS,Con.conS,Rep] at r36 ⊢;obtain⟨vs,hv,hr⟩:=r36;exact⟨vs,hv,yU rfl hr⟩
 have nil39:Rep (Go.Sx.Own O σ) w (envA f h) [] v39:=by
  simp only [envA,Rep] at r39 ⊢;obtain⟨vs,hv,hr⟩:=r39;exact⟨vs,hv,yU rfl hr⟩
 refine VS (Xp:=zci c day fin f h) (D:=Kept w) (R:=λv w'=>∃ l,flM f h c day fin = .ok l/\Kept w w'/\Rep (Go.Sx.Own O σ) w' (flS l) [] v) o4g o4o rfl rfl ?_ ?_ ?_
 ·show q9 _ _ _ _ [b4.eval (.tmp 36),b4.eval (.tmp 37),b4.eval (.tmp 38),b4.eval (.tmp 39)].toArray w _;rw [k36,k37,k38,k39]
  have hr4:RepL (Go.Sx.Own O σ) w [c.conA,.i day,.i fin,envA f h] [] [v36,.i day,.i fin,v39]:=by
   simp only [RepL];exact⟨_,_,rfl,nil36,_,_,rfl,rfl,_,_,rfl,rfl,_,_,rfl,nil39,rfl⟩
  have hst:q5 (zci c day fin f h) (FI.val ⟨c,day,fin,f,h⟩):=λe he=>⟨e,he,rfl⟩
  have eA:eqA (envA f h) (envA f h):=⟨⟨rfl,rfl,λ_ _ _ _=>rfl⟩,⟨rfl,rfl,λ_ _ _ _=>rfl⟩,trivial⟩;cases hfl:flM f h c day fin with
  | error e=>
   refine q9.map (λ_ h=>h) ?_ (ZS (args:=[c.conA,.i day,.i fin,envA f h]) (r:=.bot) (UE (zci c day fin f h)) ⟨⟨c,day,fin,f,h⟩,⟨⟨qQ c,⟨rfl,rfl⟩,⟨rfl,rfl⟩,eA,trivial⟩,trivial,rfl,hG,hst⟩,λho=> ?_,λ_=>.inr rfl⟩ hm.good hhp hr4)
   ·rintro v w' ⟨_,hb⟩;exact hb.elim
   ·have ho:okM (flM f h c day fin)=true:=ho;rw [hfl] at ho; cases ho
  | ok l=>
   refine q9.map (λ_ h=>h) ?_ (ZS (args:=[c.conA,.i day,.i fin,envA f h]) (r:=flS l) (UE (zci c day fin f h)) ⟨⟨c,day,fin,f,h⟩,⟨⟨qQ c,⟨rfl,rfl⟩,⟨rfl,rfl⟩,eA,trivial⟩,trivial,rfl,hG,hst⟩,λ_=>.inl ?_,λ_=>.inr rfl⟩ hm.good hhp hr4)
   ·rintro v w' ⟨h1,h2⟩;exact⟨l,rfl,h1,h2⟩
   ·show(flS (getM [] (flM f h c day fin)),[])=_;rw [hfl]; rfl
 ·rintro v40 w1 ⟨l,hfl,k1,r40⟩;rw [o4d];refine uh (P:=λb=>wpListIn _ _ _ _ _ _ b w1) λb5 f5 z5 v5 u5=> ?_
  have g1:=k1.good hm.good;have hh1:=k1.hrep hhp;refine VS (Xp:=λ_=>False) (D:=Kept w1) (R:=λv w'=>Kept w1 w'/\Rep (Go.Sx.Own O σ) w' (flS (ordM l)) [] v) o5g o5o rfl rfl ?_ ?_ (λ_ _ h=>h.elim)
  ·show q9 _ _ _ _ [b5.eval (.tmp 40),.func (.func 86) #[] #[]].toArray w1 _;rw [show b5.eval (.tmp 40)=v40 from v5 (by omega)];refine ZS (args:=[flS l,.fn 86 [] []]) (r:=flS (ordM l)) (zs7).x ⟨l,⟨⟨⟨rfl,rfl,λ_ _ _ _=>rfl⟩,rfl,trivial⟩,?_⟩,⟨(),trivial⟩,λ_ _=>.inl rfl⟩ g1 hh1 ?_
   ·have:=(X1 c hfl).1;have:=Con.jN c;show l.length<_;omega
   ·simp only [RepL];exact⟨_,_,rfl,r40,_,_,rfl,⟨[],[],rfl,rfl,rfl⟩,rfl⟩
  ·rintro v41 w2 ⟨k2,r41⟩;rw [o5d];refine uh (P:=λb=>wpListIn _ _ _ _ _ _ b w2) λb6 f6 z6 v6 u6=> ?_
   have u68:∀ t,t<36->b6.tmps.getD t undef=a.tmps.getD t undef:=λt ht=>(u6 t (by omega)).trans ((u5 t (by omega)).trans (u8 t ht))
   have g2:=k2.good g1;have hh2:=k2.hrep hh1;have k12:=k1.trans k2;refine Vg (i:=2) (c:=.nils) (r:=flS (ordM l)) g2 hh2 o6g o6o (by show Rep _ _ _ _ (b6.tmps.getD 8 undef); rw [u68 8 (by decide)]; exact k12.rep t8) rfl (by kernel_rfl) (by rw [show b6.eval (.tmp 41)=v41 from v6 (by omega)]; exact Rep.any r41 σ) rfl rfl λw3 P3=> ?_
   rw [o6d]
   refine Vg (i:=3) (c:=.i 0) (r:=.i 0) P3.good P3.hp o7g o7o (by
    show Rep _ _ _ _ (b6.tmps.getD 9 undef);rw [u68 9 (by decide)];exact zT (K:=[]) P3.ext P3.hold _ _ (qX _) (k12.rep t9)) rfl (by kernel_rfl) rfl rfl rfl λw4 P4=> ?_
   rw [o7d];refine wpListIn_nil ?_;show Code.ret.wpIn (FM none) 0 _ _ _ w4;refine wpIn_ret ?_;show LeavesInM _ _ _ _ b6.tmps _ b6.defers .returning w4;rw [f6.trans (f5.trans fb4)];refine⟨by simp,.inr ⟨λhh=>(by cases hh),.func 83,#[],83,#[.pointer (some ⟨be,0,none⟩),.pointer (some ⟨bl,0,none⟩)],rfl,?_,λ_ _=>trivial,?_⟩⟩
   ·simp [go_sem]
   ·refine(YA ⟨be,0,none⟩ ⟨bl,0,none⟩ w4).mono ?_;rintro e u' w5 ⟨rfl,rfl,rfl⟩;show LeavesInM _ _ _ _ _ _ _ .returning _;refine ze1 hq hm (x:=flS (ordM l)) (e:=0) P4.good P4.hp ((k12.ext _).trans (P3.ext.trans P4.ext)) (λb hO hb=> ?_) (u68 8 (by decide)) (u68 9 (by decide)) ?_ (.inr ?_) ?_
    ·have h2:b<w2.heap.size:=bB hb k12.size;rw [P4.wh b hO (bB h2 P3.ext.size),P3.wh b hO h2,k12.keep b hb]
    ·rw [z6,z5,zb4]
    ·rw [hbef,hfl]
    ·rw [hbef,hfl]
 ·rintro ch w1 ⟨x,hfl,rfl⟩ k1;have g1:=k1.good hm.good;have hh1:=k1.hrep hhp;have t8':=k1.rep t8;have t9':=k1.rep t9;show LeavesInM _ _ _ _ b4.tmps _ b4.defers (.panicking (Zz uA x)) w1;rw [fb4];refine⟨by simp,.inr ⟨λhh=>(by cases hh),.func 83,#[],83,#[.pointer (some ⟨be,0,none⟩),.pointer (some ⟨bl,0,none⟩)],rfl,?_,λ_ _=>trivial,?_⟩⟩
  ·simp [go_sem]
  ·obtain⟨bl',ul',a1,a2,a3,a4,_⟩:=yv hh1 t8' rfl;obtain⟨be',ue',c1,c2,c3,c4,_⟩:=yv hh1 t9' rfl;rw [hl1] at a1;rw [he1] at c1;cases a1;cases c1;simp only [Rep] at c4;subst c4;refine(Yk be bl x 0 ul' [] w1 c2 c3 a2 a3 hne).mono ?_;rintro e u' w5 ⟨rfl,rfl,rfl⟩;show LeavesInM _ _ _ _ _ _ _ .returning _;rw [he1] at t9';obtain⟨ws1,q1,P1⟩:=xa (P:=prog) (t:=40) (cv:=[.i x]) (v:=.i x) (n:=1) g1 hh1 t9' (cells:=[.i 0]) rfl (by kernel_rfl) ⟨_,_,rfl,rfl,rfl⟩ rfl (aJ _) rfl;rw [J3 (P:=prog) (by kernel_rfl) rfl c2 c3 rfl] at q1;cases q1;have t8'':Rep (Go.Sx.Own O σ) (w1.setCell ⟨be,0,none⟩ (.i x)) (.ptr 2 0) σ (a.tmps.getD 8 undef):=zT (K:=[]) P1.ext P1.hold _ _ (qX _) t8';obtain⟨bl2,ul2,d1,d2,d3,d4,_⟩:=yv P1.hp t8'' rfl;rw [hl1] at d1;cases d1;rw [hl1] at t8'';obtain⟨ws2,q2,P2⟩:=xa (P:=prog) (t:=56) (cv:=[.nils]) (v:=.slice none 0 0) (n:=1) P1.good P1.hp t8'' (cells:=[.nils]) rfl (by kernel_rfl) ⟨_,_,rfl,by simp [Rep],rfl⟩ rfl (aJ _) rfl;rw [J3 (P:=prog) (by kernel_rfl) rfl d2 d3 rfl] at q2;cases q2;have k3:=Kept.alloc ((w1.setCell ⟨be,0,none⟩ (.i x)).setCell ⟨bl,0,none⟩ (.slice none 0 0)) (.cells #[.i x] 180);refine ze1 hq hm (x:=.nils) (e:=x) (k3.good P2.good) (k3.hrep P2.hp) ((k1.ext _).trans (P1.ext.trans (P2.ext.trans (k3.ext _)))) (λb hO hb=> ?_) (u8 8 (by decide)) (u8 9 (by decide)) zb4 (.inl ⟨rfl,?_⟩) ?_
   ·have h2:b<w1.heap.size:=bB hb k1.size;have h3:=bB h2 P1.ext.size;rw [k3.keep b (bB h3 P2.ext.size),P2.wh b hO h3,P1.wh b hO h2,k1.keep b hb]
   ·rw [hbef,hfl]
   ·rw [hbef,hfl]
theorem zf5:zd prog 52 vT:=by
 intro args hc Q hq _;simp only [vT,ctrP] at hq;split at hq
 ·obtain⟨⟨c,day,fin,f,h⟩,⟨h1,h2⟩,h3,h4⟩:=hq;have hq:=h4 _ rfl;refine j9.le h1 (door (fn:=f52) (c:=f52.body.getD .skip) (ctr:=vT) rfl rfl rfl (λhh=>by cases hh) (ι:={u:Unit // c.errC=0/\errE f h=0/\0<=day/\day<=99999/\0<=fin/\fin<=100000}) (λ_=>SBe day fin) (λ_=>HBe c f h) 6 4 (by kernel_rfl) (by kernel_rfl) ?_ ?_)
  ·intro O w0 I0 hl;exact zhl c day fin f h h2 hq
  ·rintro⟨_,hx⟩ O w0 I0 w σ a hl hm;have h0:I0=[]:=aU.1 (by simpa using hl);subst h0;exact zjx h2 hx hq hm
 ·exact hq.elim
noncomputable def K23:=Go.Sx.aA f23
def zbi:Ctr:=ctrP false (λk:FI=>[k.c.conA,.i k.day,envA k.f k.h]) FI.pre (λk r=>r=jm k.c k.day k.f k.h) (λ_ (r:List Fl×Int)=>(.tup [flS r.1,.i r.2],[]))
noncomputable def GFs:=tb zf5 tz
theorem JA:zd prog 22 zbi:=by
 refine zh' f22 λk hp O w0 Q hq=> ?_
 obtain⟨c,day,fin,f,h⟩:=k;replace hq:=hq _ rfl;simp only at hq;refine zc.n GFs.h [] (.ex (λ(x:FI)=>eqL [(Con.conA c),.i day,.i 100000,.agg [.sl f.length 3 (fxG f),.sl h.length 4 (chG h)]] [(Con.conA x.c),.i x.day,.i x.fin,.agg [.sl x.f.length 3 (fxG x.f),.sl x.h.length 4 (chG x.h)]]/\FI.pre x) λn=>.all (λ(r:List Fl×Int)=>r=befM n.c n.day n.fin n.f n.h) λn=>.R [.sl n.1.length 5 (flG n.1),.i n.2] [.box c.ze,.box [.sl f.length 3 (fxG f),.sl h.length 4 (chG h)]]) ?_;simp only [Tree.holds,zf];refine⟨⟨c,day,100000,f,h⟩,⟨⟨qQ c,⟨rfl,rfl⟩,⟨rfl,rfl⟩,⟨⟨rfl,rfl,λ_ _ _ _=>rfl⟩,⟨rfl,rfl,λ_ _ _ _=>rfl⟩,trivial⟩,trivial⟩,hp⟩,⟨_,rfl⟩,?_⟩;rintro _ rfl;exact RetR.le0 hq (λh=>by cases h) (LeA.refl _)
theorem Fl.same{x y:Fl}(h1:x.date=y.date)(h2:x.src=y.src)(h3:x.dst=y.dst)(h4:x.ccy=y.ccy)(h5:x.amt=y.amt):x=y:=by
 cases x; cases y; simp_all
def zja:Ctr:=ctrP true (λp:List Fl×List Fl=>[flS p.1,flS p.2]) (λp=>p.1.length<2^40) (λp r=>(r=true↔p.1=p.2)) (λ_ (r:Bool)=>(.bool r,[]))
def SSf(l m:List Fl)(i:Nat):KV:=[(0,flS l),(1,flS m),(5,.i (i:Int))]
theorem zlo:zd prog 23 zja:=by
 refine zh' f23 λp hp O w0 Q hq=> ?_
 obtain⟨l,m⟩:=p;simp only at hp hq;refine zc.n zD [0,1,5] (.N ((l.length:Int)=m.length) (.R [.bool false] []) (.leaf (.loop (lps K23 0).1 (lps K23 0).2 [(0,.sl l.length 5 (flG l)),(1,.sl m.length 5 (flG m)),(5,.i 0)] []))) ?_;simp only [Tree.holds,zf];refine⟨λh=> ?_,λh=> ?_⟩
 ·refine RetR.scal (hq false ⟨λh=>(by cases h),λhe=> ?_⟩) rfl (by simp [resV]);subst he;simp at h
 ·have hl:l.length=m.length:=by simp at h; omega
  refine zc.loop (ι:={i:Nat // i<=l.length/\∀ j,j<i->l.getD j Fl.nil=m.getD j Fl.nil}) (λi=>SSf l m i.1) (λ_=>[]) (λi=>l.length - i.1) ⟨0,aI _,λj hj=>by omega⟩ 0 ?_ ?_ (by kernel_rfl)
  ·exact⟨by simp [SSf,flS,za],trivial,by kernel_rfl,aI _⟩
  ·rintro⟨i,hil,hib⟩;refine zc.n zD [0,1,5] (let v2:=m.getD (i:Int).toNat Fl.nil;let v1:=l.getD (i:Int).toNat Fl.nil;.D ((i:Int)<l.length) (.side ((0:Int)<=i/\(i:Int)<l.length) (.side ((0:Int)<=i/\(i:Int)<m.length) (.ite (!(decide (Fl.date v1=Fl.date v2)&&(decide (Fl.src v1=Fl.src v2)&&(decide (Fl.dst v1=Fl.dst v2)&&(decide (Fl.ccy v1=Fl.ccy v2)&&(decide (Fl.amt v1=Fl.amt v2)&&true)))))) (.R [.bool false] []) (.S (i+1) (.leaf (.back 0 [(0,.sl l.length 5 (flG l)),(1,.sl m.length 5 (flG m)),(5,.i (i+1))] [])))))) (.R [.bool true] [])) ?_;simp only [Tree.holds,zf,inR,lo,hi,aD];refine⟨λhlt=> ?_,λhge=> ?_⟩
   ·have hlt:i<l.length:=by have:=aB hlt; omega
    refine⟨by omega,λ_=>⟨by omega,λ_=>⟨λg=> ?_,λg=>⟨by omega,λ_=> ?_⟩⟩⟩⟩
    ·refine RetR.scal (hq false ⟨λh=>(by cases h),λh3=> ?_⟩) rfl (by simp [resV]);subst h3; simp at g
    ·have g:l.getD i Fl.nil=m.getD i Fl.nil:=by
      rw [Bool.not_eq_false'] at g;simp only [bA,aK,and_true] at g;exact Fl.same g.1 g.2.1 g.2.2.1 g.2.2.2.1 g.2.2.2.2
     rw [aP trivial];refine⟨⟨i+1,hlt,λj hj=> ?_⟩,by show l.length - (i+1)<l.length - i; omega,by simp [SSf,flS,za],trivial,by kernel_rfl,aI _⟩;rcases aR j i with h1 | h1
     ·exact hib j h1
     ·have:j=i:=by omega
      rw [this]; exact g
   ·have hge:i=l.length:=by have:=aC hge; omega
    subst hge;refine RetR.scal (hq true ⟨λ_=> ?_,λ_=>rfl⟩) rfl (by simp [resV]);apply List.ext_getElem hl;intro j g1 g2;have:=hib j g1;simpa [List.getD,g1,g2] using this
end Go.Proofs.Tryz
end
section
namespace Go.Nov
open Go.Sx
section
variable {x:Ex} {day:Int} {f:List Fx} {c:List Ch}
end
structure Lg(p q x y:Ex):Prop where
 p0:p.errX=0
 p1:p.zt=2
 q0:q.errX=0
 q1:q.zt=2
 x0:x.errX=0
 x1:x.zt=1
 y0:y.errX=0
 y1:y.zt=1
 s:p.size+q.size+x.size+y.size<500
 dp:p.depth<60
 dq:q.depth<60
 dx:x.depth<60
 dy:y.depth<60
section
variable {p q x y:Ex} {day:Int} {f:List Fx} {c:List Ch} (h:Lg p q x y)
include h
end
end Go.Nov
end
section
namespace Go.Nov
open Go.Sx
namespace Tm
theorem k9(r:L8):(kon r).zt=if errR r=0 then 1 else 0:=by
 unfold kon;rw [Ex.zt,Ex.zP,jt (by decide)];simp [qV]
theorem V2(n:L8):(spot n).zt=if zy n=true then 1 else 0:=by
 unfold spot;rw [Ex.zt,Ex.zP,jt (by decide)];simp [qV]
theorem kj{k:Int}(hk:k=5\/k=6\/k=7)(x y:Ex):(opx k [x,y]).zt=if x.zt=1/\y.zt=1 then 1 else 0:=by
 unfold opx;rw [Ex.zt,Ex.zP,Ex.zP,Ex.zP];rcases hk with rfl | rfl | rfl<;>rw [Qg (ps:=[1,1]) (w:=1) (by decide)]<;>simp [zj7]
theorem VT{x:Ex}(h:x.size<=50):numX x=decide (x.zt=1):=by
 unfold numX;by_cases hs:x.zt=1
 ·have hd:=Ex.jF x;have:x.errX=0:=by unfold Ex.errX; rw [aO (by omega),aO (by omega)]
  simp [this,hs]
 ·simp [hs]
theorem zem{x:Ex}(h:x.size<=50)(hs:x.zt=1):x.errX=0:=by
 have hd:=Ex.jF x;unfold Ex.errX;rw [aO (by omega),aO (by omega)]
theorem Jv{a b n:L8}{x:Ex}{day:Int}(hs:x.size<=50):(at_ day (.mk 2 a b n x 0 [] [])).errC=if dayB day=true/\zy a=true/\zy b=true/\a≠b/\zy n=true/\x.zt=1 then 0 else 8:=by
 have h1:(at_ day (.mk 2 a b n x 0 [] [])).size<=60:=by
  unfold at_;rw [Con.size,Con.zu,Con.zu,Con.size,Con.zu];have:=Con.yg x;have h0:vH (.mk 0 [] [] 0 [])=0:=by decide
  omega
 have h2:=Con.xq (at_ day (.mk 2 a b n x 0 [] []))
 have hf:(at_ day (.mk 2 a b n x 0 [] [])).form=decide (dayB day=true/\zy a=true/\zy b=true/\a≠b/\zy n=true/\x.zt=1):=by
  unfold at_;rw [Con.form,Con.j7,Con.j7,Con.form,Con.j7];simp only [wL,aL,List.length_nil,VT hs];have hb:qO (.mk 0 [] [] 0 [])=true:=by decide
  rw [hb];by_cases e1:dayB day=true<;>by_cases e2:zy a=true<;>by_cases e3:zy b=true<;>by_cases e4:a=b<;>by_cases e5:zy n=true<;>by_cases e6:x.zt=1<;>simp_all
 unfold Con.errC;rw [aO (by omega),hf];simp
theorem zjb(f:List Fx)(h:List Ch)(day:Int)(c:Con)(fr fin:Int):flM f h (at_ day c) fr fin=if fin<=fr then .ok [] else if fr<=day then flM f h c day fin else .ok []:=by
 rw [uD];simp [at_,Con.kind,Con.date,Con.sub]
theorem zcn(f:List Fx)(h:List Ch)(a b n:L8)(x:Ex)(fr fin:Int):flM f h (.mk 2 a b n x 0 [] []) fr fin=if fin<=fr then .ok [] else Go.Nov.andM (valM x fr f h) λr=>.ok (payF fr a b n r):=by
 rw [uD];simp [Con.kind,Con.x,Con.src,Con.dst,Con.name]
theorem Ko{x:Ex}{day:Int}{f:List Fx}{h:List Ch}(hx:x.size<=50)(hs:x.zt=1)(he:errE f h=0)(hd:dayB day=true):valM x day f h=if(x.ev f day).e≠0 then .error (x.ev f day).e else .ok (x.ev f day).v:=by
 unfold valM jR;have ha:askE x 1 day f h=0:=by rw [zr9 (zem hx hs) hs,aP he,aP hd]
 simp only [ha,ne_eq,not_true_eq_false,if_false];by_cases g:(x.ev f day).e=0<;>simp [g]
theorem yo(r:L8)(f:List Fx)(day:Int):((kon r).ev f day).v=r/\((kon r).ev f day).e=0:=by
 unfold kon; rw [Ex.ev,Ex.evs]; exact⟨rfl,rfl⟩
theorem zdv(n:L8)(f:List Fx)(day:Int):((spot n).ev f day).v=(fixR f n day).1/\((spot n).ev f day).e=(fixR f n day).2:=by
 unfold spot; rw [Ex.ev,Ex.evs]; exact⟨rfl,rfl⟩
theorem zom(n:L8)(d:Int)(f:List Fx)(day:Int):((fixg n d).ev f day).v=(fixR f n d).1/\((fixg n d).ev f day).e=(fixR f n d).2:=by
 unfold fixg; rw [Ex.ev,Ex.evs]; exact⟨rfl,rfl⟩
theorem zav{k:Int}(hk:k=5\/k=6\/k=7)(x y:Ex)(f:List Fx)(day:Int):((opx k [x,y]).ev f day).v=(xJ [] (x.ev f day) (y.ev f day) (opR k)).1/\((opx k [x,y]).ev f day).e=(xJ [] (x.ev f day) (y.ev f day) (opR k)).2:=by
 unfold opx;rw [Ex.ev,Ex.evs,Ex.evs,Ex.evs];rcases hk with rfl | rfl | rfl<;>exact⟨rfl,rfl⟩
theorem Xu{k:Int}(hk:k=5\/k=6\/k=7){x y:Ex}{f:List Fx}{day:Int}(hx:(x.ev f day).e=0)(hy:(y.ev f day).e=0):((opx k [x,y]).ev f day).v=(opR k (x.ev f day).v (y.ev f day).v).1/\((opx k [x,y]).ev f day).e=(opR k (x.ev f day).v (y.ev f day).v).2:=by
 obtain⟨h1,h2⟩:=zav hk x y f day;rw [h1,h2];unfold xJ;rw [aO (by simp [hx]),aO (by simp [hy])];exact⟨rfl,rfl⟩
theorem zbc{k:Int}(hk:k=5\/k=6\/k=7){x y:Ex}{f:List Fx}{day e:Int}(he:e≠0)(hx:(x.ev f day).e=e):((opx k [x,y]).ev f day).e=e:=by
 rw [(zav hk x y f day).2];unfold xJ;rw [aP (by rw [hx]; exact he),hx]
theorem Xz{k:Int}(hk:k=5\/k=6\/k=7){x y:Ex}{f:List Fx}{day e:Int}(he:e≠0)(hx:(x.ev f day).e=0)(hy:(y.ev f day).e=e):((opx k [x,y]).ev f day).e=e:=by
 rw [(zav hk x y f day).2];unfold xJ;rw [aO (by simp [hx]),aP (by rw [hy]; exact he),hy]
theorem zht(a b:L8):(subR a b).1.length<=2003:=by
 unfold subR;split
 ·simp
 ·exact Wm _ _
def posR(t:L8):L8:=if(cmpR t [48]).1<0 then [48] else t
theorem Wd{t:L8}(ht:errR t=0):opR 7 [48] t=(posR t,0)/\(cmpR t [48]).2=0/\errR (posR t)=0:=by
 obtain⟨c1,c2⟩:=Vd.2 ht;obtain⟨d1,d2⟩:=zhv ht vu;have hz:qv t=0->t=[48]:=(jJ ht).2.1.2;refine⟨?_,c1,?_⟩
 ·show jW 7 [48] t=_;unfold jW posR;rw [aP rfl,d1,c1,aO (by simp)];congr 1;by_cases h1:0<(cmpR t [48]).1
  ·rw [aP (d2.2 h1),aO (by omega)]
  ·rw [aO (λx=>h1 (d2.1 x))];by_cases h2:(cmpR t [48]).1<0
   ·rw [aP h2]
   ·rw [aO h2]
    have h3:qv t=0:=by
     rw [c2] at h1 h2;by_cases n:qv t<0
     ·rw [aP n] at h2; exact absurd (by decide) h2
     ·rw [aO n] at h1;by_cases p:0<qv t
      ·rw [aP p] at h1; exact absurd (by decide) h1
      ·grind
    exact(hz h3).symm
 ·unfold posR;split
  ·exact vu
  ·exact ht
theorem xW(n k u:L8):(opx 6 [opx 5 [spot n,kon k],kon u]).size<=50:=by
 unfold opx spot kon; simp [Ex.size,Ex.zu]
theorem yy(n k u:L8)(put:Bool):(opx 6 [over k (spot n) put,kon u]).size<=50:=by
 unfold over opx spot kon; cases put<;>simp [Ex.size,Ex.zu]
theorem zcd{a b:L8} : first 0 [a,b]=0↔errR a=0/\errR b=0:=by
 unfold first;by_cases h:errR a=0
 ·simp [h]
 ·simp [h]
theorem zhf{n k u:L8}(hk:errR k=0)(hu:errR u=0):(opx 6 [opx 5 [spot n,kon k],kon u]).zt=if zy n=true then 1 else 0:=by
 rw [kj (.inr (.inl rfl)),kj (.inl rfl),V2,k9,k9,aP hk,aP hu];cases zy n<;>simp
theorem zgl{x:Ex}{k:L8}{put:Bool}(hk:errR k=0):(over k x put).zt=if x.zt=1 then 1 else 0:=by
 unfold over;cases put with
 | true=>
  rw [aP rfl,kj (.inr (.inr rfl)),kj (.inl rfl),k9,k9,aP hk,aP vu];by_cases h:x.zt=1<;>simp [h]
 | false=>
  rw [aO (by decide),kj (.inr (.inr rfl)),kj (.inl rfl),k9,k9,aP hk,aP vu];by_cases h:x.zt=1<;>simp [h]
theorem zii{n k u:L8}{put:Bool}(hk:errR k=0)(hu:errR u=0):(opx 6 [over k (spot n) put,kon u]).zt=if zy n=true then 1 else 0:=by
 rw [kj (.inr (.inl rfl)),zgl hk,V2,k9,aP hu];cases zy n<;>simp
theorem KL{d:Deal}{day:Int}{put:Bool} : res d (pff d day put)=res d (fwd d day):=by
 unfold res;by_cases h:first 0 [d.zb,d.zg]=0
 ·rw [aP h,aP h];obtain⟨h1,h2⟩:=zcd.1 h;unfold pff fwd pay;rw [Jv (yy _ _ _ _),Jv (xW _ _ _),zii h1 h2,zhf h1 h2]
 ·rw [aO h,aO h]
theorem yk{d:Deal}{c:Con}(h:res d c=0):errR d.zb=0/\errR d.zg=0/\c.errC=0/\out (res d c) c=c:=by
 have h0:=h;unfold res at h;split at h
 ·rename_i g;obtain⟨h1,h2⟩:=zcd.1 g;exact⟨h1,h2,h,by unfold out; rw [aP h0]⟩
 ·rename_i g; exact absurd h g
def ya(put:Bool)(s k:L8):L8×Int:=if put=true then subR k s else subR s k
theorem zqg{x:Ex}{k s:L8}{put:Bool}{f:List Fx}{day:Int}(hs:errR s=0)(hk:errR k=0)(h1:(x.ev f day).v=s)(h2:(x.ev f day).e=0)(hd:(ya put s k).2=0):((over k x put).ev f day).e=0/\((over k x put).ev f day).v=posR (ya put s k).1/\errR (posR (ya put s k).1)=0:=by
 obtain⟨k1,k2⟩:=yo k f day;obtain⟨z1,z2⟩:=yo [48] f day
 have ht:errR (ya put s k).1=0:=by
  unfold ya at hd ⊢;cases put with
  | true=>exact(yX hk hs hd).1
  | false=>exact(yX hs hk hd).1
 have e5:((opx 5 (if put=true then [kon k,x] else [x,kon k])).ev f day).v=(ya put s k).1/\((opx 5 (if put=true then [kon k,x] else [x,kon k])).ev f day).e=0:=by
  unfold ya at hd ⊢;cases put with
  | true=>
   obtain⟨a1,a2⟩:=Xu (k:=5) (.inl rfl) k2 h2;rw [k1,h1] at a1 a2;exact⟨a1,a2.trans hd⟩
  | false=>
   obtain⟨a1,a2⟩:=Xu (k:=5) (.inl rfl) h2 k2;rw [k1,h1] at a1 a2;exact⟨a1,a2.trans hd⟩
 obtain⟨p1,p2,p3⟩:=Wd ht;obtain⟨b1,b2⟩:=Xu (k:=7) (.inr (.inr rfl)) z2 e5.2;rw [z1,e5.1,p1] at b1 b2;exact⟨b2,b1,p3⟩
theorem zk1{x:Ex}{k:L8}{put:Bool}{f:List Fx}{day e:Int}(he:e≠0)(h2:(x.ev f day).e=e):((over k x put).ev f day).e=e:=by
 obtain⟨k1,k2⟩:=yo k f day;obtain⟨z1,z2⟩:=yo [48] f day;refine Xz (.inr (.inr rfl)) he z2 ?_;cases put with
 | true=>exact Xz (.inl rfl) he k2 h2
 | false=>exact zbc (.inl rfl) he h2
end Tm
end Go.Nov
end
section
set_option maxRecDepth 100000
open Go Go.Sx Go.Proofs Go.Nov
namespace Go.Proofs.Tryz
attribute [local simp] eqKV eqA eqA0 eqH eqB eqL eqL0
structure FlA where
 c:Con
 e:Int
 day:Int
 f:List Fx
 h:List Ch
 l:List Fl
def zcf:Ctr:=ctrP true (λp:FlA=>[p.c.conA,.i p.e,.i p.day,envA p.f p.h,flS p.l]) (λp=>FI.pre ⟨p.c,p.day,100000,p.f,p.h⟩/\p.e=0/\jm p.c p.day p.f p.h=(p.l,0)/\p.l.length<2^40) (λ_ r=>r=true) (λ_ (r:Bool)=>(.bool r,[]))
noncomputable def GFlL:=tb JA (tb zlo tz)
abbrev q61(A:List AV)(x:FI):Prop:=eqL A [(Con.conA x.c),.i x.day,.agg [.sl x.f.length 3 (fxG x.f),.sl x.h.length 4 (chG x.h)]]/\FI.pre x
theorem zgs:zd prog 29 zcf:=by
 refine zh' f29 λp hp O w0 Q hq=> ?_
 obtain⟨c,e,day,f,h,l⟩:=p;obtain⟨p1,p2,p3,p4⟩:=hp;replace hq:=hq _ rfl;simp only at hq p1 p2 p3 p4;subst p2;refine zc.n GFlL.h [] (.ex (q61 [(Con.conA c),.i day,.agg [.sl f.length 3 (fxG f),.sl h.length 4 (chG h)]]) λn=>.all (λ(r:List Fl×Int)=>r=jm n.c n.day n.f n.h) λn=>.ex (λ(x:List Fl×List Fl)=>(bif decide ((0:Int)=0) then decide (n.2=0) else false)=true->eqL [.sl n.1.length 5 (flG n.1),.sl l.length 5 (flG l)] [.sl x.1.length 5 (flG x.1),.sl x.2.length 5 (flG x.2)]/\x.1.length<1099511627776) λn_1=>.all (λ(x:Bool)=>(bif decide ((0:Int)=0) then decide (n.2=0) else false)=true->(x=true↔n_1.1=n_1.2)) λn_2=>.R [.bool (bif bif decide ((0:Int)=0) then decide (n.2=0) else false then n_2 else false)] [.box c.ze,.box [.sl f.length 3 (fxG f),.sl h.length 4 (chG h)]]) ?_;simp only [q61,Tree.holds,zf];refine⟨⟨c,day,100000,f,h⟩,⟨⟨qQ c,⟨rfl,rfl⟩,⟨⟨rfl,rfl,λ_ _ _ _=>rfl⟩,⟨rfl,rfl,λ_ _ _ _=>rfl⟩,trivial⟩,trivial⟩,p1⟩,⟨_,rfl⟩,?_⟩;rintro _ rfl;simp only [p3];refine⟨(l,l),λ_=>⟨⟨⟨rfl,rfl,λ_ _ _ _=>rfl⟩,⟨rfl,rfl,λ_ _ _ _=>rfl⟩,trivial⟩,p4⟩,⟨true,λ_=>by simp⟩,λr hr=> ?_⟩;obtain rfl:r=true:=(hr (by simp)).2 rfl;exact RetR.scal hq rfl (by simp [resV])
noncomputable def zri:Ctr:=inlC prog noG 100 f27
theorem zmi:zd prog 27 zri:=Qj hmix zD rfl rfl
def zkg:Ctr:=ctrP true (λp:Fl=>[.i p.date,.str p.src,.str p.dst,.str p.amt]) (λ_=>True) (λ_ (_:Unit)=>True) (λp _=>(.agg [.i p.date,.str p.src,.str p.dst,.str [85,83,68],.str p.amt],[]))
theorem znm:zd prog 30 zkg:=by
 refine zh' f30 λp hp O w0 Q hq=> ?_
 obtain⟨d,a,b,n,r⟩:=p;replace hq:=hq () trivial;simp only at hq;refine zc.n zD [] (.R [.agg [.i d,.str a,.str b,.str #[(85:UInt8),(83:UInt8),(68:UInt8)].toList,.str r]] [.box [.i d,.str a,.str b,.str #[(85:UInt8),(83:UInt8),(68:UInt8)].toList,.str r]]) ?_;simp only [Tree.holds,zf];exact RetR.scal hq rfl (by simp [resV])
def zq4:Ctr:=ctrP true (λ_:Unit=>[]) (λ_=>True) (λ_ r=>r=true) (λ_ (r:Bool)=>(.bool r,[]))
def zqz:Ctr:={ zrb with sinks:=true }
theorem zh9:zd prog 19 zqz:=zq7.sink
noncomputable def GAlT:=tb zgs (tb zmi (tb znm (tb Wc (tb zh9 tz))))
def dAl1:Deal:=⟨[65,110,110],[66,111,98],[85,83,68],[115,112,111,116],[51],[49,48]⟩
def dAl2:Deal:=⟨[65,110,110],[66,111,98],[85,83,68],[105,100,120],[49,47,50,48],[49,48,48]⟩
def lAl2:List Per:=[⟨1,9,[49,47,50]⟩]
def cAl1:Con:=Tm.fwd dAl1 5
def cAl2:Con:=Tm.WO (Tm.legS dAl2) dAl2 lAl2
theorem zpf:Tm.res dAl1 (Tm.fwd dAl1 5)=0:=by decide +kernel
theorem zos:Tm.out 0 (Tm.fwd dAl1 5)=cAl1:=by unfold Tm.out cAl1; rw [aP rfl]
theorem zor:Tm.Js (Tm.legS dAl2) dAl2 lAl2=0:=by decide +kernel
def zn4:Fl:=⟨5,[66,111,98],[65,110,110],[85,83,68],[53]⟩
def zis:Fl:=⟨9,[65,110,110],[66,111,98],[85,83,68],[53,47,50]⟩
def zn1:Fl:=⟨9,[66,111,98],[65,110,110],[85,83,68],[53]⟩
def fxAl:List Fx:=[⟨[105,100,120],1,[49,47,49,48]⟩,⟨[115,112,111,116],5,[55,47,50]⟩]
theorem zlk:jm cAl1 2 fxAl []=([zn4],0):=by kernel_rfl
theorem zlv:jm cAl2 2 fxAl []=([zis,zn1],0):=by kernel_rfl
theorem zh8:envP (fxAl,[]):=⟨by decide,by decide,by unfold xZ; decide,λj hj=>absurd hj (Nat.not_lt_zero j)⟩
theorem zon:FI.pre ⟨cAl1,2,100000,fxAl,[]⟩:=⟨by show cAl1.big<_; decide +kernel,by show cAl1.nodes<=_; decide +kernel,zh8⟩
theorem zny:FI.pre ⟨cAl2,2,100000,fxAl,[]⟩:=⟨by show cAl2.big<_; decide +kernel,by show cAl2.nodes<=_; decide +kernel,zh8⟩
noncomputable def LAt:List Go.Sx.Item:=jE 12 (f8.body.getD .skip)
noncomputable def LAt2:List Go.Sx.Item:=LAt.drop 2
def SAt3:KV:=[(1,.ptr 1 0),(2,.ptr 3 0),(3,.i 0)]
def HAt3:Heap:=[.arr 2 3 (fxG fxAl),.box [.osl 0 3 0 2,.nils],.dead,.box cAl1.zl]
noncomputable def LAt3:List Go.Sx.Item:=LAt2.drop 1
def SAt4:KV:=[(1,.ptr 1 0),(2,.ptr 3 0),(3,.i 0),(4,.ptr 6 0),(5,.i 0)]
def HAt4:Heap:=[.arr 2 3 (fxG fxAl),.box [.osl 0 3 0 2,.nils],.dead,.box cAl1.zl,.dead,.dead,.box cAl2.zl]
noncomputable def LAt4:List Go.Sx.Item:=LAt3.drop 1
def SAt2:KV:=[(1,.ptr 1 0)]
def HAt2:Heap:=[.arr 2 3 (fxG fxAl),.box [.osl 0 3 0 2,.nils]]
abbrev q63(A:List AV)(x:Fl):Prop:=eqL A [.i x.date,.str x.src,.str x.dst,.str x.amt]/\True
abbrev q62(A:List AV)(x:Deal×Int):Prop:=eqL A [x.1.av,.i x.2]/\Tm.fits x.1
theorem zf1:zd prog 8 zq4:=by
 refine zh' f8 λp hp O w0 Q hq=> ?_
 replace hq:=hq true rfl;refine zc.spine 12 ?_;refine zc.cutL (ι:=Unit) LAt 2 0 (λ_=>SAt2) (λ_=>HAt2) (by kernel_rfl) (by kernel_rfl) ?_ λ_=> ?_
 ·refine zc.n GAlT.h [1] (.leaf (.back 0 [(1,.ptr 1 0)] [.arr 2 3 (zj 3 [.str #[(105:UInt8),(100:UInt8),(120:UInt8)].toList,.i 1,.str #[(49:UInt8),(47:UInt8),(49:UInt8),(48:UInt8)].toList,.str #[(115:UInt8),(112:UInt8),(111:UInt8),(116:UInt8)].toList,.i 5,.str #[(55:UInt8),(47:UInt8),(50:UInt8)].toList]),.box [.osl 0 3 0 2,.nils]])) ?_;simp only [Tree.holds,zf];rw [aP trivial];refine⟨(),by simp [SAt2],⟨⟨rfl,rfl,?_⟩,by simp,trivial⟩,by kernel_rfl,aI _⟩;intro j o hj ho;rcases(show j=0\/j=1 by omega) with rfl | rfl<;>rcases(show o=0\/o=1\/o=2 by omega) with rfl | rfl | rfl<;>rfl
 show jD none prog f8 O 0 w0 [] _ _ LAt2 _;refine zc.cutL (ι:=Unit) LAt2 1 0 (λ_=>SAt3) (λ_=>HAt3) (by kernel_rfl) (by kernel_rfl) ?_ λ_=> ?_
 ·refine zc.n GAlT.h [1,2,3] (.ex (q62 [.agg [.str #[(65:UInt8),(110:UInt8),(110:UInt8)].toList,.str #[(66:UInt8),(111:UInt8),(98:UInt8)].toList,.str #[(85:UInt8),(83:UInt8),(68:UInt8)].toList,.str #[(115:UInt8),(112:UInt8),(111:UInt8),(116:UInt8)].toList,.str #[(51:UInt8)].toList,.str #[(49:UInt8),(48:UInt8)].toList],.i 5]) λn=>.A λn_1=>.leaf (.back 0 [(1,.ptr 1 0),(2,.ptr 3 0),(3,.i (Tm.res n.1 (Tm.fwd n.1 n.2)))] [.arr 2 3 (fxG fxAl),.box [.osl 0 3 0 2,.nils],.box [.str #[(65:UInt8),(110:UInt8),(110:UInt8)].toList,.str #[(66:UInt8),(111:UInt8),(98:UInt8)].toList,.str #[(85:UInt8),(83:UInt8),(68:UInt8)].toList,.str #[(115:UInt8),(112:UInt8),(111:UInt8),(116:UInt8)].toList,.str #[(51:UInt8)].toList,.str #[(49:UInt8),(48:UInt8)].toList],.box (Con.zl (Tm.out (Tm.res n.1 (Tm.fwd n.1 n.2)) (Tm.fwd n.1 n.2)))])) ?_;simp only [q62,Tree.holds,zf];refine⟨(dAl1,5),⟨⟨⟨rfl,rfl,rfl,rfl,rfl,rfl,trivial⟩,⟨rfl,rfl⟩,trivial⟩,by unfold Tm.fits; decide⟩,⟨(),trivial⟩,λ_ _=> ?_⟩;rw [aP trivial];simp only [zpf,zos];exact⟨(),by simp [SAt3],⟨jV _,jV _,trivial,jV _,trivial⟩,by kernel_rfl,aI _⟩
 show jD none prog f8 O 0 w0 [] _ _ LAt3 _;refine zc.cutL (ι:=Unit) LAt3 1 0 (λ_=>SAt4) (λ_=>HAt4) (by kernel_rfl) (by kernel_rfl) ?_ λ_=> ?_
 ·refine zc.n GAlT.h [1,2,3,4,5] (.ex (λ(x:PeA)=>eqL [.agg [.str #[(65:UInt8),(110:UInt8),(110:UInt8)].toList,.str #[(66:UInt8),(111:UInt8),(98:UInt8)].toList,.str #[(85:UInt8),(83:UInt8),(68:UInt8)].toList,.str #[(105:UInt8),(100:UInt8),(120:UInt8)].toList,.str #[(49:UInt8),(47:UInt8),(50:UInt8),(48:UInt8)].toList,.str #[(49:UInt8),(48:UInt8),(48:UInt8)].toList],.sl 1 3 (zi (zj 3 [.i 1,.i 9,.str #[(49:UInt8),(47:UInt8),(50:UInt8)].toList]) 0)] [x.d.av,.sl x.l.length 3 (perG x.l)]/\PeA.ok x) λn=>.A λn_1=>.leaf (.back 0 [(1,.ptr 1 0),(2,.ptr 3 0),(3,.i 0),(4,.ptr 6 0),(5,.i (Tm.Js (Tm.legS n.d) n.d n.l))] [.arr 2 3 (fxG fxAl),.box [.osl 0 3 0 2,.nils],.dead,.box [.int .u8 6,.str cAl1.src,.str cAl1.dst,.str cAl1.name,.int .u8 0,.str (Ex.rat cAl1.x),.str (Ex.name cAl1.x),.i 0,.sl 0 5 (Ex.exG (Ex.sub cAl1.x)),.i 5,.sl 0 1 (Con.dayG cAl1.days),.sl 1 12 (Con.deep cAl1)],.box [.str #[(65:UInt8),(110:UInt8),(110:UInt8)].toList,.str #[(66:UInt8),(111:UInt8),(98:UInt8)].toList,.str #[(85:UInt8),(83:UInt8),(68:UInt8)].toList,.str #[(105:UInt8),(100:UInt8),(120:UInt8)].toList,.str #[(49:UInt8),(47:UInt8),(50:UInt8),(48:UInt8)].toList,.str #[(49:UInt8),(48:UInt8),(48:UInt8)].toList],.dead,.box (Con.zl (Tm.WO (Tm.legS n.d) n.d n.l))])) ?_;simp only [Tree.holds,zf];refine⟨⟨dAl2,lAl2,false⟩,⟨⟨⟨rfl,rfl,rfl,rfl,rfl,rfl,trivial⟩,⟨rfl,rfl,?_⟩,trivial⟩,by unfold Tm.fits; decide,by decide,by decide⟩,⟨(),trivial⟩,λ_ _=> ?_⟩
  ·intro j o hj ho;rcases(show j=0 by omega) with rfl;rcases(show o=0\/o=1\/o=2 by omega) with rfl | rfl | rfl<;>rfl
  rw [aP trivial];simp only [zor];exact⟨(),by simp [SAt4],⟨jV _,jV _,trivial,jV _,trivial,trivial,jV _,trivial⟩,by kernel_rfl,aI _⟩
 show jD none prog f8 O 0 w0 [] _ _ LAt4 _;refine zc.n GAlT.h [] (let v5:=[AV.sl 2 3 (zi (fxG fxAl) 0),AV.nils];let v3:List AV:=[.int .u8 3,.str cAl2.src,.str cAl2.dst,.str cAl2.name,.int .u8 0,.str (Ex.rat cAl2.x),.str (Ex.name cAl2.x),.i 0,.sl 0 5 (Ex.exG (Ex.sub cAl2.x)),.i 0,.sl 0 1 (Con.dayG cAl2.days),.sl 2 12 (Con.deep cAl2)];let v2:List AV:=[.int .u8 6,.str cAl1.src,.str cAl1.dst,.str cAl1.name,.int .u8 0,.str (Ex.rat cAl1.x),.str (Ex.name cAl1.x),.i 0,.sl 0 5 (Ex.exG (Ex.sub cAl1.x)),.i 5,.sl 0 1 (Con.dayG cAl1.days),.sl 1 12 (Con.deep cAl1)];let v1:=[AV.int .u8 3,AV.str cAl2.src,AV.str cAl2.dst,AV.str cAl2.name,AV.int .u8 0,AV.str (Ex.rat cAl2.x),AV.str (Ex.name cAl2.x),AV.i 0,AV.sl 0 5 (Ex.exG (Ex.sub cAl2.x)),AV.i 0,AV.sl 0 1 (Con.dayG cAl2.days),AV.sl 2 12 (Con.deep cAl2)];.ex (q63 [.i 5,.str #[(66:UInt8),(111:UInt8),(98:UInt8)].toList,.str #[(65:UInt8),(110:UInt8),(110:UInt8)].toList,.str #[(53:UInt8)].toList]) λn=>let v4:=zj 5 [.i n.date,.str n.src,.str n.dst,.str [(85:UInt8),(83:UInt8),(68:UInt8)],.str n.amt];.A λn_1=>.ex (λ(x:FlA)=>eqL [.agg [.int .u8 6,.str cAl1.src,.str cAl1.dst,.str cAl1.name,.int .u8 0,.str (Ex.rat cAl1.x),.str (Ex.name cAl1.x),.i 0,.sl 0 5 (Ex.exG (Ex.sub cAl1.x)),.i 5,.sl 0 1 (Con.dayG cAl1.days),.sl 1 12 (Con.deep cAl1)],.i 0,.i 2,.agg v5,.sl 1 5 (zi (zj 5 [.i n.date,.str n.src,.str n.dst,.str [(85:UInt8),(83:UInt8),(68:UInt8)],.str n.amt]) 0)] [(Con.conA x.c),.i x.e,.i x.day,.agg [.sl x.f.length 3 (fxG x.f),.sl x.h.length 4 (chG x.h)],.sl x.l.length 5 (flG x.l)]/\FI.pre { c:=FlA.c x,day:=FlA.day x,fin:=(100000:Int),f:=FlA.f x,h:=FlA.h x } /\ FlA.e x=0/\jm x.c x.day x.f x.h=(FlA.l x,(0:Int))/\List.length x.l<1099511627776) λn_2=>.all (λ(r:Bool)=>r=true) λn_3=>.ex (λ(x:Fl)=>n_3=true->q63 [.i 9,.str #[(65:UInt8),(110:UInt8),(110:UInt8)].toList,.str #[(66:UInt8),(111:UInt8),(98:UInt8)].toList,.str #[(53:UInt8),(47:UInt8),(50:UInt8)].toList] x) λn_4=>.all (λ(x:Unit)=>n_3=true->True) λn_5=>.ex (λ(x:Fl)=>n_3=true->q63 [.i 9,.str #[(66:UInt8),(111:UInt8),(98:UInt8)].toList,.str #[(65:UInt8),(110:UInt8),(110:UInt8)].toList,.str #[(53:UInt8)].toList] x) λn_6=>.all (λ(x:Unit)=>n_3=true->True) λn_7=>.ite (n_3 == true) (.ex (λ(x:FlA)=>n_3=true->eqL [.agg v1,.i 0,.i 2,.agg v5,.sl 2 5 (zi (zj 5 [.i n_4.date,.str n_4.src,.str n_4.dst,.str [(85:UInt8),(83:UInt8),(68:UInt8)],.str n_4.amt,.i n_6.date,.str n_6.src,.str n_6.dst,.str [(85:UInt8),(83:UInt8),(68:UInt8)],.str n_6.amt]) 0)] [(Con.conA x.c),.i x.e,.i x.day,.agg [.sl x.f.length 3 (fxG x.f),.sl x.h.length 4 (chG x.h)],.sl x.l.length 5 (flG x.l)]/\FI.pre { c:=FlA.c x,day:=FlA.day x,fin:=(100000:Int),f:=FlA.f x,h:=FlA.h x } /\ FlA.e x=0/\jm x.c x.day x.f x.h=(FlA.l x,(0:Int))/\List.length x.l<1099511627776) λn_8=>.all (λ(x:Bool)=>n_3=true->x=true) λn_9=>.R [.bool (bif n_3 then n_9 else false)] [.arr 2 3 (fxG fxAl),.box [.osl 0 3 0 2,.nils],.dead,.box v2,.dead,.dead,.box v3,.arr 1 5 v4,.arr 2 5 (zj 5 [.i n_4.date,.str n_4.src,.str n_4.dst,.str [(85:UInt8),(83:UInt8),(68:UInt8)],.str n_4.amt,.i n_6.date,.str n_6.src,.str n_6.dst,.str [(85:UInt8),(83:UInt8),(68:UInt8)],.str n_6.amt])]) (.ex (λ(x:FlA)=>n_3=true->eqL [.agg v1,.i 0,.i 2,.agg v5,AV.nils] [(Con.conA x.c),.i x.e,.i x.day,.agg [.sl x.f.length 3 (fxG x.f),.sl x.h.length 4 (chG x.h)],.sl x.l.length 5 (flG x.l)]/\FI.pre { c:=FlA.c x,day:=FlA.day x,fin:=(100000:Int),f:=FlA.f x,h:=FlA.h x } /\ FlA.e x=0/\jm x.c x.day x.f x.h=(FlA.l x,(0:Int))/\List.length x.l<1099511627776) λn_8=>.all (λ(x:Bool)=>n_3=true->x=true) λn_9=>.R [.bool (bif n_3 then n_9 else false)] [.arr 2 3 (fxG fxAl),.box [.osl 0 3 0 2,.nils],.dead,.box v2,.dead,.dead,.box v3,.arr 1 5 v4])) ?_;simp only [q63,Tree.holds,zf];refine⟨zn4,⟨⟨⟨rfl,rfl⟩,rfl,rfl,rfl,trivial⟩,trivial⟩,⟨(),trivial⟩,λ_ _=> ?_⟩;have eF:eqA (.agg [.sl 2 3 (zi (fxG fxAl) 0),.nils]) (envA fxAl []):=⟨⟨rfl,rfl,λj o _ _=>by simp only [zi,Nat.zero_add]⟩,by simp [chS],trivial⟩;refine⟨⟨cAl1,0,2,fxAl,[],[zn4]⟩,⟨⟨j0 cAl1,⟨rfl,rfl⟩,⟨rfl,rfl⟩,eF,⟨rfl,rfl,?_⟩,trivial⟩,zon,rfl,zlk,by show(1:Nat)<_; decide⟩,⟨true,rfl⟩,?_⟩
 ·intro j o hj ho;rcases(show j=0 by omega) with rfl;rcases(show o=0\/o=1\/o=2\/o=3\/o=4 by omega) with rfl | rfl | rfl | rfl | rfl<;>rfl
 rintro _ rfl;refine⟨zis,λ_=>⟨⟨⟨rfl,rfl⟩,rfl,rfl,rfl,trivial⟩,trivial⟩,⟨(),λ_=>trivial⟩,λ_ _=> ?_⟩;refine⟨zn1,λ_=>⟨⟨⟨rfl,rfl⟩,rfl,rfl,rfl,trivial⟩,trivial⟩,⟨(),λ_=>trivial⟩,λ_ _=> ?_⟩;refine⟨λ_=> ?_,λg=>absurd g (by decide)⟩;refine⟨⟨cAl2,0,2,fxAl,[],[zis,zn1]⟩,λ_=>⟨⟨j0 cAl2,⟨rfl,rfl⟩,⟨rfl,rfl⟩,eF,⟨rfl,rfl,?_⟩,trivial⟩,zny,rfl,zlv,by show(2:Nat)<_; decide⟩,⟨true,λ_=>rfl⟩,λr hr=> ?_⟩
 ·intro j o hj ho;rcases(show j=0\/j=1 by omega) with rfl | rfl<;>rcases(show o=0\/o=1\/o=2\/o=3\/o=4 by omega) with rfl | rfl | rfl | rfl | rfl<;>rfl
 ·obtain rfl:=hr rfl;exact RetR.scal hq rfl (by simp [resV])
structure zty where
 d:Deal
 day:Int
 fr:Int
 f:List Fx
 h:List Ch
def ztz:Ctr:=ctrP true (λp:zty=>[p.d.av,.i p.day,.i p.fr,envA p.f p.h]) (λp=>(p.f.length<2^60/\p.h.length<2^60/\(∀ j,j<p.f.length->zcp (p.f.getD j Fx.nil))/\∀ j,j<p.h.length->Yi (p.h.getD j Ch.nil))) (λ_ r=>r=true) (λ_ (r:Bool)=>(.bool r,[]))
theorem zpc{p:List Fx×List Ch}(h:fitP p):envP p:=by
 obtain⟨a,b,c,d⟩:=h;exact⟨by omega,by omega,λj hj=>⟨by have:=(c j hj).1; omega,by have:=(c j hj).2; omega⟩,λj hj=>⟨by have:=(d j hj).1; omega,by have:=(d j hj).2; omega⟩⟩
end Go.Proofs.Tryz
end
section
namespace Go.Nov
open Go.Sx
theorem wG{α β:Type}{x:Except Int α}{k:α->Except Int β}{e:Int}(h:Go.Nov.andM x k = .error e):x = .error e\/∃ a,x = .ok a/\k a = .error e:=by
 cases x with
 | error e'=>cases h; exact .inl rfl
 | ok a=>exact .inr ⟨a,rfl,h⟩
theorem Yh{x:Ex}{d:Int}{f:List Fx}{h:List Ch}{e:Int}(hv:valM x d f h = .error e):e≠0:=by
 unfold valM at hv;split at hv
 ·cases hv
 ·rename_i h0; cases hv; exact h0
theorem WA{x:Ex}{d:Int}{f:List Fx}{h:List Ch}{e:Int}(hv:holM x d f h = .error e):e≠0:=by
 unfold holM at hv;split at hv
 ·cases hv
 ·rename_i h0; cases hv; exact h0
theorem WW{k:L8}{e:Int} : ∀ {l:List Fl},qW k l = .error e->e≠0
 | [],h=>by cases h
 | f::l,h=>by
  rw [qW] at h;split at h
  ·rename_i h0; cases h; exact h0
  ·split at h
   ·rename_i e' he; cases h; exact WW he
   ·cases h
theorem kr{is:Int->Except Int Bool}{day fin e:Int}(his:∀ d e,is d = .error e->e≠0):∀ {l:List Int},firstM is day fin l = .error e->e≠0
 | [],h=>by cases h
 | d::l,h=>by
  rw [firstM] at h;split at h
  ·cases h
  ·split at h
   ·split at h
    ·rename_i e' he; cases h; exact his _ _ he
    ·cases h
    ·exact kr his h
   ·exact kr his h
theorem zpb{f:List Fx}{h:List Ch} : ∀ (c:Con) {day fin e:Int},flM f h c day fin = .error e->e≠0:=by
 refine Con.ze0 ?_;intro c ih day fin e hl
 have kid:∀ (i:Nat) {day fin e:Int},flM f h (c.sub.getD i Con.nil) day fin = .error e->e≠0:=by
  intro i day fin e hl;by_cases hi:i<c.sub.length
  ·exact ih i hi hl
  ·rw [xj (by omega),QU] at hl;cases hl
 rw [uD] at hl;split at hl
 ·cases hl
 split at hl
 ·rcases wG hl with h1 | ⟨a,_,h2⟩
  ·exact Yh h1
  ·cases h2
 split at hl
 ·rcases wG hl with h1 | ⟨a,_,h2⟩
  ·exact kid 0 h1
  ·rcases wG h2 with h1 | ⟨a,_,h2⟩
   ·exact kid 1 h1
   ·cases h2
 split at hl
 ·rcases wG hl with h1 | ⟨a,_,h2⟩
  ·exact Yh h1
  ·rcases wG h2 with h1 | ⟨a,_,h2⟩
   ·exact kid 0 h1
   ·exact WW h2
 split at hl
 ·rcases wG hl with h1 | ⟨a,_,h2⟩
  ·exact WA h1
  ·exact kid _ h2
 split at hl
 ·split at hl
  ·exact kid _ hl
  ·cases hl
 split at hl
 ·exact kid _ hl
 split at hl
 ·rcases wG hl with h1 | ⟨a,_,h2⟩
  ·exact kr (λ_ _ h=>by cases h) h1
  ·exact kid _ h2
 split at hl
 ·rcases wG hl with h1 | ⟨a,_,h2⟩
  ·exact kr (λ_ _ h=>WA h) h1
  ·exact kid _ h2
 split at hl
 ·rcases wG hl with h1 | ⟨a,_,h2⟩
  ·exact kr (λ_ _ h=>WA h) h1
  ·exact kid _ h2
 ·cases hl
end Go.Nov
end
section
set_option maxRecDepth 100000
open Go Go.Sx Go.Proofs Go.Nov
namespace Go.Proofs.Tryz
attribute [local simp] eqKV eqA eqA0 eqH eqB eqL eqL0
def zdk:Ctr:=ctrP true (λ_:Unit=>[]) (λ_=>True) (λ_ (_:Unit)=>True) (λ_ _=>(.bool true,[]))
theorem zf2:zd prog 8 zdk:=by
 intro args hc Q h hf;refine zf1 args hc Q ?_ hf;cases hc with
 | nil=>
  obtain⟨x,hx,_,hk⟩:=h;refine⟨x,hx,⟨true,rfl⟩,?_⟩;rintro _ rfl;exact hk () trivial
 | cons b l=>exact h.elim
end Go.Proofs.Tryz
end
section
namespace Go.Nov
open Go.Sx
namespace Tm
theorem zcq{a b n:L8}{x:Ex}{day:Int}(hs:x.size<=50)(hf:(at_ day (.mk 2 a b n x 0 [] [])).form=true):dayB day=true/\x.zt=1:=by
 unfold at_ at hf;rw [Con.form,Con.j7,Con.j7,Con.form,Con.j7] at hf;simp only [wL,aL,List.length_nil,VT hs] at hf;have hb:qO (.mk 0 [] [] 0 [])=true:=by decide
 rw [hb] at hf;by_cases e1:dayB day=true<;>by_cases e6:x.zt=1<;>simp_all
theorem zcm{a b n:L8}{x:Ex}{day fr:Int}{v:L8}{f:List Fx}{h:List Ch}(hs:x.size<=50)(hf:(at_ day (.mk 2 a b n x 0 [] [])).form=true)(he:errE f h=0)(h1:fr<=99999)(hv:¬ day<fr->(x.ev f day).e=0/\(x.ev f day).v=v) :
  flM f h (at_ day (.mk 2 a b n x 0 [] [])) fr 100000 = .ok (if day<fr then [] else payF day a b n v):=by
 obtain⟨h2,h3⟩:=zcq hs hf;have hd:0<=day/\day<=99999:=by simpa [dayB] using h2
 rw [zjb,aO (by omega)];by_cases g:day<fr
 ·rw [aP g,aO (by omega)]
 ·obtain⟨v1,v2⟩:=hv g;rw [aO g,aP (by omega),zcn,aO (by omega),Ko hs h3 he h2,aO (by simp [v1]),v2];rfl
def UU(d:Deal)(fl:Bool)(p:Per):List Con:=[at_ p.pay (pay d (over d.zb (fixg d.name p.fix) fl) (mulR p.part d.zg).1)]
theorem yf{c:Con}(h:c.errC=0):c.form=true:=by
 unfold Con.errC at h;split at h
 ·cases h
 ·split at h
  ·assumption
  ·cases h
theorem zn3{n:L8}{z day:Int}{f:List Fx}(hk:(qu f n z).2=true):((fixg n z).ev f day).v=(qu f n z).1/\((fixg n z).ev f day).e=0:=by
 obtain⟨s1,s2⟩:=zom n z f day;unfold fixR at s1 s2;rw [hk,aP rfl] at s1 s2;exact⟨s1,s2⟩
end Tm
end Go.Nov
end
section
namespace Go.Nov
open Go.Sx
namespace Ca
def rel(a:Ca)(y:Ex):Ex:=
 if a.extra=[48] then(if a.ratio=[49] then y else Tm.opx 6 [Tm.kon a.ratio,y])
 else Tm.opx 4 [if a.ratio=[49] then y else Tm.opx 6 [Tm.kon a.ratio,y],Tm.kon a.extra]
def onX(a:Ca)(k:Int)(n:L8)(d:Int):Bool:=decide (n=a.name)&&(decide (k=3)||decide (k=2)&&decide (a.date<=d))
mutual
def chg(a:Ca):Ex->Ex
 | .mk k r n d s=>if a.onX k n d=true then a.rel (.mk k [] a.into d []) else .mk k r n d (chgs a s)
def chgs(a:Ca):List Ex->List Ex
 | []=>[]
 | x::l=>chg a x::chgs a l
end
mutual
def adj(a:Ca):Ex->Ex
 | .mk k r n d s=>if a.onX k n d=true then a.rel (.mk k r a.into d s) else .mk k r n d (adjs a s)
def adjs(a:Ca):List Ex->List Ex
 | []=>[]
 | x::l=>adj a x::adjs a l
end
mutual
def whole(f:Ex->Ex):Con->Con
 | .mk k a b n x d l s=>.mk k a b n (f x) d l (qG f s)
def qG(f:Ex->Ex):List Con->List Con
 | []=>[]
 | c::l=>whole f c::qG f l
end
theorem JB(f:Ex->Ex):∀ l,qG f l=l.map (whole f)
 | []=>by rw [qG]; rfl
 | x::l=>by rw [qG,JB f l]; rfl
theorem xc(f:Ex->Ex)(c:Con):whole f c = .mk c.kind c.src c.dst c.name (f c.x) c.date c.days (c.sub.map (whole f)):=by
 cases c; rw [whole,JB]; rfl
end Ca
end Go.Nov
end
section
namespace Go.Nov
open Go.Sx
theorem YD{k p:Int}(h:p∈qt k):p≠0:=by
 unfold qt ur at h;cases e:shpL.find? (λq=>q.1 == k) with
 | none=>rw [e] at h; simp at h
 | some q=>
  rw [e] at h;simp only [Option.map_some,Option.getD_some] at h;have hq:=List.mem_of_find?_eq_some e;have all:∀ q∈shpL,∀ p∈q.2.1,p≠0:=by decide
  exact all q hq p h
theorem JG{k d:Int}{r n:L8}{ss:List Int}(h:wO k r n d ss≠0):∀ p∈ss,p≠0:=by
 unfold wO at h;split at h
 ·split at h
  ·rename_i h2;rw [h2.2.2.2];exactλp hp=>YD hp
  ·exact absurd rfl h
 ·split at h
  ·rename_i h2;unfold qV at h2;have:ss=[]:=by simp at h2; exact h2.1
   rw [this]; simp
  ·exact absurd rfl h
theorem xl{k d:Int}{r n:L8}{ss:List Int}(h:wO k r n d ss≠0)(hk:k=3\/k=2):r=[]/\ss=[]:=by
 have hs:qH k=false:=by rcases hk with rfl | rfl<;>decide
 rw [jt hs] at h;split at h
 ·rename_i h2;unfold qV at h2;rcases hk with rfl | rfl<;>simp at h2
  ·exact⟨h2.2.1.1,h2.1⟩
  ·exact⟨h2.2.1.1,h2.1⟩
 ·exact absurd rfl h
namespace Ca
mutual
theorem ze6(a:Ca):∀ x:Ex,x.zt≠0->adj a x=chg a x
 | .mk k r n d s,h=>by
  rw [Ex.zt] at h;rw [adj,chg];by_cases hh:a.onX k n d=true
  ·rw [aP hh,aP hh]
   have hk:k=3\/k=2:=by
    simp [onX] at hh;rcases hh.2 with h1 | h1
    ·exact .inl h1
    ·exact .inr h1.1
   obtain⟨h1,h2⟩:=xl h hk
   have:s=[]:=by
    cases s with
    | nil=>rfl
    | cons x s=>rw [Ex.zP] at h2; cases h2
   rw [h1,this]
  ·rw [aO hh,aO hh,KC a s (JG h)]
theorem KC(a:Ca):∀ s:List Ex,(∀ p∈Ex.zP s,p≠0)->adjs a s=chgs a s
 | [],_=>by rw [adjs,chgs]
 | x::s,h=>by
  rw [Ex.zP] at h;rw [adjs,chgs,ze6 a x (h _ (by simp)),KC a s (λp hp=>h p (by simp [hp]))]
end
theorem zkt(a:Ca)(y:Ex):(a.rel y).size<=y.size+4/\(a.rel y).zB<=y.zB+a.ratio.length+a.extra.length:=by
 unfold rel;split<;>split<;>(try simp only [Tm.opx,Tm.kon,Ex.size,Ex.zu,Ex.zB,Ex.qk,List.length_nil])<;>omega
mutual
theorem XZ(a:Ca):∀ x:Ex,(chg a x).size<=5*x.size/\(chg a x).zB<=x.zB+x.size*(a.into.length+a.ratio.length+a.extra.length)
 | .mk k r n d s=>by
  rw [chg];by_cases hh:a.onX k n d=true
  ·rw [aP hh];have h:=zkt a (.mk k [] a.into d []);simp only [Ex.size,Ex.zu,Ex.zB,Ex.qk,List.length_nil] at h ⊢;have hm:a.into.length+a.ratio.length+a.extra.length<=(1+Ex.zu s)*(a.into.length+a.ratio.length+a.extra.length):=Nat.le_mul_of_pos_left _ (by omega);omega
  ·rw [aO hh];have h:=VB a s;simp only [Ex.size,Ex.zB,bH,Nat.one_mul] at h ⊢;omega
theorem VB(a:Ca):∀ s:List Ex,Ex.zu (chgs a s)<=5*Ex.zu s/\Ex.qk (chgs a s)<=Ex.qk s+Ex.zu s*(a.into.length+a.ratio.length+a.extra.length)
 | []=>by rw [chgs]; simp [Ex.zu,Ex.qk]
 | x::s=>by
  have h1:=XZ a x;have h2:=VB a s;rw [chgs];simp only [Ex.zu,Ex.qk,bH] at h1 h2 ⊢;omega
end
theorem zdc{k d:Int}{s t n:L8}{x:Ex}{l:List Int}{m:Nat}(h:wL k s t n x d l m=true):qO x=true\/x.zt≠0:=by
 have hn:numX x=true->x.zt≠0:=λh=>by simp [numX] at h; omega
 have ht:truX x=true->x.zt≠0:=λh=>by simp [truX] at h; omega
 unfold wL at h
 repeat' split at h
 all_goals simp only [bA,Bool.false_eq_true] at h
 all_goals first
  | exact h.elim
  | exact .inl h.2
  | exact .inr (hn h.2)
  | exact .inr (ht h.2)
  | exact .inr (hn h.1.1.2)
theorem zfc(a:Ca){x:Ex}(h:qO x=true\/x.zt≠0):adj a x=chg a x:=by
 rcases h with h | h
 ·obtain⟨k,r,n,d,s⟩:=x;simp [qO,Ex.kind,Ex.rat,Ex.name,Ex.date,Ex.sub] at h;obtain⟨h0,_,_,_,rfl⟩:=h;obtain rfl:k=0:=aB h0;rw [adj,chg,adjs,chgs];have:a.onX 0 n d=false:=by simp [onX]
  rw [this]; simp
 ·exact ze6 a x h
mutual
theorem zen(a:Ca):∀ c:Con,c.form=true->whole a.adj c=whole a.chg c
 | .mk k s t n x d l u,h=>by
  rw [Con.form,bA] at h;rw [whole,whole,zfc a (zdc h.1),JW a u h.2]
theorem JW(a:Ca):∀ u:List Con,Con.j7 u=true->qG a.adj u=qG a.chg u
 | [],_=>by rw [qG,qG]
 | c::u,h=>by
  rw [Con.j7,bA] at h;rw [qG,qG,zen a c h.1,JW a u h.2]
end
mutual
theorem xC(a:Ca):∀ c:Con,(whole a.chg c).nodes=c.nodes/\(whole a.chg c).big<=5*c.big+c.big*(a.into.length+a.ratio.length+a.extra.length)
 | .mk k s t n x d l u=>by
  have h1:=XZ a x;have h2:=QE a u;rw [whole];simp only [Con.nodes,Con.big,bH] at h1 h2 ⊢;omega
theorem QE(a:Ca):∀ u:List Con,Con.zz (qG a.chg u)=Con.zz u/\Con.bigs (qG a.chg u)<=5*Con.bigs u+Con.bigs u*(a.into.length+a.ratio.length+a.extra.length)
 | []=>by rw [qG]; simp [Con.zz,Con.bigs]
 | c::u=>by
  have h1:=xC a c;have h2:=QE a u;rw [qG];simp only [Con.zz,Con.bigs,bH] at h1 h2 ⊢;omega
end
def conv(a:Ca)(c:Con):Con×Int:=if a.ok=true then(if c.errC=0 then(if(whole a.chg c).errC=0 then(whole a.chg c,0) else(Con.nil,(whole a.chg c).errC)) else(Con.nil,c.errC)) else(Con.nil,8)
end Ca
end Go.Nov
end
section
namespace Go.Nov
open Go.Sx
namespace Ca
def more(a:Ca):Nat:=(if a.ratio=[49] then 0 else 2)+(if a.extra=[48] then 0 else 2)
mutual
def grow(a:Ca):Ex->Nat
 | .mk k r n d s=>if a.onX k n d=true then a.more else Ur a s
def Ur(a:Ca):List Ex->Nat
 | []=>0
 | x::l=>grow a x+Ur a l
end
theorem Y8{a:Ca}{k d:Int}{n:L8}(h:a.onX k n d=true):k=3\/k=2:=by
 simp [onX] at h;rcases h.2 with h1 | h1
 ·exact .inl h1
 ·exact .inr h1.1
mutual
theorem zm0(a:Ca):∀ x:Ex,x.zt≠0->(chg a x).size=x.size+grow a x
 | .mk k r n d s,h=>by
  rw [Ex.zt] at h;rw [chg,grow];by_cases hh:a.onX k n d=true
  ·rw [aP hh,aP hh];obtain⟨_,h2⟩:=xl h (Y8 hh)
   have:s=[]:=by
    cases s with
    | nil=>rfl
    | cons x s=>rw [Ex.zP] at h2; cases h2
   subst this;unfold rel more;split<;>split<;>simp [Tm.opx,Tm.kon,Ex.size,Ex.zu]
  ·rw [aO hh,aO hh];simp only [Ex.size];rw [Vy a s (JG h)];omega
theorem Vy(a:Ca):∀ s:List Ex,(∀ p∈Ex.zP s,p≠0)->Ex.zu (chgs a s)=Ex.zu s+Ur a s
 | [],_=>by rw [chgs,Ur]; rfl
 | x::s,h=>by
  rw [Ex.zP] at h;rw [chgs,Ur];simp only [Ex.zu];rw [zm0 a x (h _ (by simp)),Vy a s (λp hp=>h p (by simp [hp]))];omega
end
end Ca
end Go.Nov
end
section
namespace Go.Nov
open Go.Sx
namespace Ex
mutual
def men(a:L8):Ex->Bool
 | mk _ _ n _ s=>decide (n=a)||mens a s
def mens(a:L8):List Ex->Bool
 | []=>false
 | x::l=>men a x||mens a l
end
mutual
def fixX(day:Int):Ex->Ex
 | mk k r n d s=>mk (if k=3 then 2 else k) r n (if k=3 then day else d) (fixs day s)
def fixs(day:Int):List Ex->List Ex
 | []=>[]
 | x::l=>fixX day x::fixs day l
end
mutual
theorem zi1(day:Int):∀ x:Ex,(fixX day x).size=x.size
 | mk k r n d s=>by rw [fixX,size,size,VF day s]
theorem VF(day:Int):∀ s:List Ex,zu (fixs day s)=zu s
 | []=>rfl
 | x::l=>by rw [fixs,zu,zu,zi1 day x,VF day l]
end
mutual
theorem zeq(day:Int):∀ x:Ex,(fixX day x).depth=x.depth
 | mk k r n d s=>by rw [fixX,depth,depth,JI day s]
theorem JI(day:Int):∀ s:List Ex,z8 (fixs day s)=z8 s
 | []=>rfl
 | x::l=>by rw [fixs,z8,z8,zeq day x,JI day l]
end
mutual
theorem zh4(day:Int):∀ x:Ex,(fixX day x).zB=x.zB
 | mk k r n d s=>by rw [fixX,zB,zB,JQ day s]
theorem JQ(day:Int):∀ s:List Ex,qk (fixs day s)=qk s
 | []=>rfl
 | x::l=>by rw [fixs,qk,qk,zh4 day x,JQ day l]
end
theorem zkv{k v:Int}(hk:qH k=true)(h:v∈qt k):v≠0:=by
 have h2:(4<=k/\k<=9)\/(11<=k/\k<=15):=by
  by_cases h1:4<=k/\k<=9
  ·exact .inl h1
  ·by_cases h2:11<=k/\k<=15
   ·exact .inr h2
   ·rw [zc6 h1 h2] at hk; cases hk
 have h3:k=4\/k=5\/k=6\/k=7\/k=8\/k=9\/k=11\/k=12\/k=13\/k=14\/k=15:=by omega
 rcases h3 with rfl | rfl | rfl | rfl | rfl | rfl | rfl | rfl | rfl | rfl | rfl<;>(revert v; decide)
mutual
theorem zjo{day:Int}(hd:dayB day=true):∀ x:Ex,x.zt≠0->(fixX day x).zt=x.zt
 | mk k r n d s,h=>by
  rw [fixX,zt,zt];rw [zt] at h;by_cases hk:qH k=true
  ·have k3:k≠3:=λg=>by rw [g] at hk; cases hk
   rw [aO k3,aO k3]
   have hs:zP s=qt k:=by
    unfold wO at h;rw [aP hk] at h;by_cases g:r=[]/\n=[]/\d=0/\zP s=qt k
    ·exact g.2.2.2
    ·rw [aO g] at h; exact absurd rfl h
   rw [Km hd s λv hv=>zkv hk (by rw [<- hs]; exact hv)]
  ·have hk:qH k=false:=by simpa using hk
   rw [jt hk] at h ⊢;by_cases g:qV k r n d (zP s).length=true
   ·have hl:(zP s).length=0:=by
     unfold qV at g;simp only [bA,aK] at g;exact g.1
    have hs:s=[]:=aU.1 (by rw [<- j2 s]; exact hl);subst hs;by_cases k3:k=3
    ·rw [aP k3,aP k3,aP g];subst k3;rw [jt (by rfl),aP];unfold qV at g ⊢;simp only [bA,aK,show ¬ (3:Int)=1 by decide,show ¬ (3:Int)=2 by decide,show ¬ (2:Int)=1 by decide,if_false,if_true] at g ⊢;exact⟨rfl,⟨g.2.1.1,g.2.1.2⟩,hd⟩
    ·rw [aO k3,aO k3,fixs,jt hk]
   ·rw [aO g] at h; exact absurd rfl h
theorem Km{day:Int}(hd:dayB day=true):∀ s:List Ex,(∀ v∈zP s,v≠0)->zP (fixs day s)=zP s
 | [],_=>rfl
 | x::l,h=>by
  rw [fixs,zP,zP];rw [zP] at h;rw [zjo hd x (h _ (by simp)),Km hd l λv hv=>h v (by simp [hv])]
end
theorem zow(f:List Fx)(day k:Int)(r n:L8)(d:Int)(l:List Ev):evN f day (if k=3 then 2 else k) r n (if k=3 then day else d) l=evN f day k r n d l:=by
 by_cases k3:k=3
 ·subst k3;rw [aP rfl,aP rfl];rfl
 ·rw [aO k3,aO k3]
mutual
theorem zn3(f:List Fx)(day:Int):∀ x:Ex,(fixX day x).ev f day=x.ev f day
 | mk k r n d s=>by rw [fixX,ev,ev,zdt f day s,zow]
theorem zdt(f:List Fx)(day:Int):∀ s:List Ex,evs f day (fixs day s)=evs f day s
 | []=>rfl
 | x::l=>by rw [fixs,evs,evs,zn3 f day x,zdt f day l]
end
mutual
theorem zs1{f g:List Fx}{a:L8}(hf:∀ (n:L8) (d:Int),n≠a->fixR g n d=fixR f n d)(day:Int):∀ x:Ex,x.men a=false->x.ev g day=x.ev f day
 | mk k r n d s,h=>by
  rw [men,Bool.or_eq_false_iff] at h;have hn:n≠a:=aC h.1;rw [ev,ev,zcj hf day s h.2];unfold evN valN;rw [hf n d hn,hf n day hn]
theorem zcj{f g:List Fx}{a:L8}(hf:∀ (n:L8) (d:Int),n≠a->fixR g n d=fixR f n d)(day:Int):∀ s:List Ex,mens a s=false->evs g day s=evs f day s
 | [],_=>rfl
 | x::l,h=>by
  rw [mens,Bool.or_eq_false_iff] at h;rw [evs,evs,zs1 hf day x h.1,zcj hf day l h.2]
end
end Ex
end Go.Nov
end
section
namespace Go.Nov
open Go.Sx
namespace Ca
def isNone(a:Ca):Prop:=a.ratio=[49]/\a.extra=[48]/\a.into=a.name
mutual
theorem XT{a:Ca}(h:a.isNone):∀ x:Ex,x.zt≠0->chg a x=x
 | .mk k r n d s,hs=>by
  rw [Ex.zt] at hs;rw [chg];by_cases hh:a.onX k n d=true
  ·rw [aP hh];obtain⟨h1,h2⟩:=xl hs (Y8 hh)
   have h3:s=[]:=by
    cases s with
    | nil=>rfl
    | cons x s=>rw [Ex.zP] at h2; cases h2
   have h4:n=a.name:=by simp [onX] at hh; exact hh.1
   unfold rel;rw [aP h.2.1,aP h.1,h.2.2,h1,h3,h4]
  ·rw [aO hh,KF h s (JG hs)]
theorem KF{a:Ca}(h:a.isNone):∀ s:List Ex,(∀ p∈Ex.zP s,p≠0)->chgs a s=s
 | [],_=>by rw [chgs]
 | x::s,hs=>by
  rw [Ex.zP] at hs;rw [chgs,XT h x (hs _ (by simp)),KF h s (λp hp=>hs p (by simp [hp]))]
end
theorem zlt{a:Ca}{x:Ex}(h:qO x=true):chg a x=x:=by
 obtain⟨k,r,n,d,s⟩:=x;simp [qO,Ex.kind,Ex.rat,Ex.name,Ex.date,Ex.sub] at h;obtain⟨h0,_,_,_,rfl⟩:=h;obtain rfl:k=0:=aB h0;rw [chg,chgs];have:a.onX 0 n d=false:=by simp [onX]
 rw [this]; simp
mutual
theorem za7{a:Ca}(h:a.isNone):∀ c:Con,c.form=true->whole a.chg c=c
 | .mk k s t n x d l u,hf=>by
  rw [Con.form,bA] at hf;rw [whole,Q3 h u hf.2];rcases zdc hf.1 with hx | hx
  ·rw [zlt hx]
  ·rw [XT h x hx]
theorem Q3{a:Ca}(h:a.isNone):∀ u:List Con,Con.j7 u=true->qG a.chg u=u
 | [],_=>by rw [qG]
 | c::u,hf=>by
  rw [Con.j7,bA] at hf;rw [qG,za7 h c hf.1,Q3 h u hf.2]
end
mutual
theorem zcl{a:Ca} : ∀ x:Ex,x.men a.name=false->chg a x=x
 | .mk k r n d s,h=>by
  rw [Ex.men,Bool.or_eq_false_iff] at h;have h1:¬ n=a.name:=aC h.1;rw [chg,aO (by simp [onX,h1]),XU s h.2]
theorem XU{a:Ca} : ∀ s:List Ex,Ex.mens a.name s=false->chgs a s=s
 | [],_=>by rw [chgs]
 | x::s,h=>by
  rw [Ex.mens,Bool.or_eq_false_iff] at h;rw [chgs,zcl x h.1,XU s h.2]
end
end Ca
namespace Con
mutual
def men(a:L8):Con->Bool
 | mk _ _ _ _ x _ _ s=>x.men a||mens a s
def mens(a:L8):List Con->Bool
 | []=>false
 | c::l=>men a c||mens a l
end
end Con
namespace Ca
mutual
theorem zg5{a:Ca} : ∀ c:Con,c.men a.name=false->whole a.chg c=c
 | .mk k s t n x d l u,h=>by
  rw [Con.men,Bool.or_eq_false_iff] at h;rw [whole,zcl x h.1,Jy u h.2]
theorem Jy{a:Ca} : ∀ u:List Con,Con.mens a.name u=false->qG a.chg u=u
 | [],_=>by rw [qG]
 | c::u,h=>by
  rw [Con.mens,Bool.or_eq_false_iff] at h;rw [qG,zg5 c h.1,Jy u h.2]
end
end Ca
end Go.Nov
end
section
namespace Go.Nov
open Go.Sx
def Fl.good(f:Fl):Prop:=zy f.src=true/\zy f.dst=true/\zy f.ccy=true/\f.src≠f.dst/\(0<=f.date/\f.date<=99999)/\errR f.amt=0/\f.amt≠[48]/\f.amt.getD 0 0≠45
def Q8(l:List Fl):Prop:=(∀ x∈l,x.good)/\jx l
theorem zep{day:Int}{a b n r:L8}(ha:zy a=true)(hb:zy b=true)(hn:zy n=true)(hab:a≠b)(hd:dayB day=true)(hr:errR r=0):∀ x∈payF day a b n r,x.good:=by
 obtain⟨s1,s2,s3⟩:=jJ hr;have hd:0<=day/\day<=99999:=by simpa [dayB] using hd
 intro x hx;unfold payF at hx;split at hx
 ·simp at hx
 rename_i h0;split at hx
 ·rename_i h1;simp only [List.mem_singleton] at hx;subst hx;obtain⟨n1,n2,_,_⟩:=vR hr;have e:negS r=r.drop 1:=by unfold negS; rw [aO h0,aP h1]
  rw [e] at n1 n2;have hneg:=s1.1 h1;obtain⟨t1,t2,t3⟩:=jJ n1;refine⟨hb,ha,hn,λh=>hab h.symm,hd,n1,λh=> ?_,λh=> ?_⟩
  ·have:=t2.1 h; rw [n2] at this; grind
  ·have:=t1.1 h; rw [n2] at this; grind
 ·rename_i h1;simp only [List.mem_singleton] at hx;subst hx;exact⟨ha,hb,hn,hab,hd,hr,h0,h1⟩
def netR(p c:L8):L8->List Fl->L8×Int
 | s,[]=>(s,0)
 | s,f::l=>let r:=if f.ccy≠c then(s,0) else if f.dst=p then addR s f.amt else if f.src=p then subR s f.amt else(s,0)
  if r.2≠0 then([],r.2) else netR p c r.1 l
theorem kX(p c s:L8)(f:Fl)(l:List Fl):netR p c s (f::l)=if(if f.ccy≠c then(s,0) else if f.dst=p then addR s f.amt else if f.src=p then subR s f.amt else(s,0):L8×Int).2≠0 then([],(if f.ccy≠c then(s,0) else if f.dst=p then addR s f.amt else if f.src=p then subR s f.amt else(s,0):L8×Int).2) else netR p c (if f.ccy≠c then(s,0) else if f.dst=p then addR s f.amt else if f.src=p then subR s f.amt else(s,0):L8×Int).1 l:=rfl
theorem zero_sub{h:L8}(hh:errR h=0):subR [48] h=(negS h,0):=by
 obtain⟨n1,n2,_,_⟩:=vR hh;have z1:=vu;have z2:=YP;obtain⟨a1,a2,b1,b2,a4,b4,h2⟩:=ZC z1 hh;have p1:numR [48]=[48]:=by decide +kernel
 have p2:denR [48]=[49]:=by decide +kernel
 have p3:zI [48]=0:=by decide +kernel
 have p4:zI [49]=1:=by decide +kernel
 have p5:(wz 0).2=0:=by decide +kernel
 have key:(subR [48] h).2=0:=by
  have m1:=wV (zk.2 ⟨a1,b2⟩);have m2:=wV (zk.2 ⟨b1,a2⟩);have m3:=wV (zk.2 ⟨a2,b2⟩);rw [p1,p3,Int.zero_mul] at m1;rw [p2,p4,Int.mul_one] at m2;rw [p2,p4,Int.one_mul] at m3;have s2:=xB b1;have s3:=xB b2;have k1:(mulI (numR [48]) (denR h)).2=0:=by rw [p1,m1]; exact p5
  have k2:(mulI (numR h) (denR [48])).2=0:=by rw [p2,m2,s2]
  have k3:(mulI (denR [48]) (denR h)).2=0:=by rw [p2,m3,s3]
  have hc:zG [48] h=0:=by
   unfold zG;rw [h2,aO (by simp),aO (by rw [k1,k2]; simp)]
  unfold subR;rw [hc,aO (by simp)];have e1:errI (mulI (numR [48]) (denR h)).1=0:=by rw [p1,m1]; exact jG p5
  have e2:errI (mulI (numR h) (denR [48])).1=0:=by rw [p2,m2]; exact jG (by rw [s2])
  have su:=zbm (zk.2 ⟨e1,e2⟩);have v1:zI (mulI (numR [48]) (denR h)).1=0:=by rw [p1,m1]; exact wq p5
  have v2:zI (mulI (numR h) (denR [48])).1=zI (numR h):=by rw [p2,m2]; exact wq (by rw [s2])
  rw [v1,v2,Int.zero_sub] at su;have k4:(subI (mulI (numR [48]) (denR h)).1 (mulI (numR h) (denR [48])).1).2=0:=by rw [su,ki,s2]
  unfold frac;rw [aO (by rw [k4,k3]; simp)];have f1:errI (subI (mulI (numR [48]) (denR h)).1 (mulI (numR h) (denR [48])).1).1=0:=by rw [su]; exact jG (by rw [ki,s2])
  have f2:errI (mulI (denR [48]) (denR h)).1=0:=by rw [p2,m3]; exact jG (by rw [s3])
  have f3:zI (mulI (denR [48]) (denR h)).1=zI (denR h):=by rw [p2,m3]; exact wq (by rw [s3])
  have:=zn7 f1 f2 (λg=>b4 (by rw [<- f3]; have:=wC (mulI (denR [48]) (denR h)).1; omega));rw [this.1]
 obtain⟨c1,c2⟩:=yX z1 hh key;have:(subR [48] h).1=negS h:=Qa c1 n1 (by rw [c2,n2,z2]; grind);rw [<- this,<- key]
theorem zft{x:L8}(h:errR x=0):addR [48] x=(x,0):=by
 obtain⟨n1,n2,_,_⟩:=vR h
 have e:negS (negS x)=x:=by
  obtain⟨m1,m2,_,_⟩:=vR n1;exact Qa m1 h (by rw [m2,n2]; grind)
 have:=sub_neg vu n1;rw [e,zero_sub n1,e] at this;exact this
theorem zpo{p c:L8}{f:Fl}(h:f.good):(netR p c [48] [f]).2=0:=by
 have hz:=zft h.2.2.2.2.2.1;have hs:=zero_sub h.2.2.2.2.2.1;rw [kX,hz,hs];by_cases g1:f.ccy=c<;>by_cases g2:f.dst=p<;>by_cases g3:f.src=p<;>simp [g1,g2,g3,netR]
namespace Tm
def turn(d:Deal):Deal:=⟨d.short,d.long,d.ccy,d.name,d.zb,d.zg⟩
theorem Vt{d:Deal}(h:fits d):fits (turn d):=⟨h.2.1,h.1,h.2.2.1,h.2.2.2.1,h.2.2.2.2.1,h.2.2.2.2.2⟩
theorem YQ{d:Deal}{day:Int}{put:Bool} : res (turn d) (pff (turn d) day put)=res d (fwd d day):=by
 rw [KL];unfold res turn;by_cases h:first 0 [d.zb,d.zg]=0
 ·rw [aP h,aP h];unfold fwd pay;rw [Jv (xW _ _ _),Jv (xW _ _ _)];congr 1;simp only [eq_iff_iff];constructor
  ·rintro⟨h1,h2,h3,h4,h5⟩; exact⟨h1,h3,h2,λe=>h4 e.symm,h5⟩
  ·rintro⟨h1,h2,h3,h4,h5⟩; exact⟨h1,h3,h2,λe=>h4 e.symm,h5⟩
 ·rw [aO h,aO h]
theorem K7(a b:Con):whole [a,b]=both a b:=by
 rw [xc];simp only [aL,List.length_nil];rw [aO (by decide),aO (by decide)];show both (whole [a]) (whole [b])=_;rw [xc,xc];rfl
theorem zec{a b n:L8}{x:Ex}{day:Int}(hs:x.size<=50):(at_ day (.mk 2 a b n x 0 [] [])).size<=55:=by
 unfold at_;rw [Con.size,Con.zu,Con.zu,Con.size,Con.zu];have:=Con.yg x;have h0:vH (.mk 0 [] [] 0 [])=0:=by decide
 omega
theorem zmp{a b:Con}(ha:a.errC=0)(hb:b.errC=0)(h1:a.size<=55)(h2:b.size<=55):(both a b).errC=0:=by
 have fa:=yf ha;have fb:=yf hb;have hx:vH (.mk 0 [] [] 0 [])=0:=by decide
 have hs:(both a b).size<=130:=by
  unfold both;rw [Con.size,Con.zu,Con.zu,Con.zu];omega
 have hd:(both a b).depth<=60:=by
  have d1:=Con.xq a;have d2:=Con.xq b;have d3:kC (.mk 0 [] [] 0 [])=0:=by decide
  unfold both;rw [Con.depth,Con.z8,Con.z8,Con.z8];omega
 have hf:(both a b).form=true:=by
  unfold both;rw [Con.form,Con.j7,Con.j7,Con.j7];have hb:qO (.mk 0 [] [] 0 [])=true:=by decide
  simp [wL,fa,fb,hb]
 unfold Con.errC;rw [aO (by omega),hf];simp
theorem uQ{k:Int}(hk:k=5\/k=6\/k=7){x y:Ex}{f:List Fx}{day:Int}(h:((opx k [x,y]).ev f day).e=0):(x.ev f day).e=0/\(y.ev f day).e=0/\((opx k [x,y]).ev f day).v=(opR k (x.ev f day).v (y.ev f day).v).1/\(opR k (x.ev f day).v (y.ev f day).v).2=0:=by
 have hx:(x.ev f day).e=0:=by
  by_cases hx:(x.ev f day).e=0
  ·exact hx
  ·rw [zbc hk hx rfl] at h; exact absurd h hx
 have hy:(y.ev f day).e=0:=by
  by_cases hy:(y.ev f day).e=0
  ·exact hy
  ·rw [Xz hk hy hx rfl] at h; exact absurd h hy
 obtain⟨a,b⟩:=Xu hk hx hy (f:=f) (day:=day);exact⟨hx,hy,a,by rw [<- b]; exact h⟩
theorem Ju{a b n:L8}{x:Ex}{day fr:Int}{f:List Fx}{h:List Ch}{u:List Fl}(hs:x.size<=50)(hf:(at_ day (.mk 2 a b n x 0 [] [])).form=true)(he:errE f h=0)(h1:fr<=99999)(hu:flM f h (at_ day (.mk 2 a b n x 0 [] [])) fr 100000 = .ok u) :
  (day<fr/\u=[])\/(¬ day<fr/\(x.ev f day).e=0/\u=payF day a b n (x.ev f day).v):=by
 obtain⟨h2,h3⟩:=zcq hs hf;have hd:0<=day/\day<=99999:=by simpa [dayB] using h2
 rw [zjb,aO (by omega)] at hu;by_cases g:day<fr
 ·rw [aO (by omega)] at hu;cases hu;exact .inl ⟨g,rfl⟩
 ·rw [aP (by omega),zcn,aO (by omega),Ko hs h3 he h2] at hu;right;by_cases e:(x.ev f day).e=0
  ·rw [aO (by simp [e])] at hu;cases hu;exact⟨g,e,rfl⟩
  ·rw [aP e] at hu;cases hu
theorem Uj{c:Con}{fr:Int}{f:List Fx}{h:List Ch}{u:List Fl}(hm:jm c fr f h=(u,0)):∃ w,flM f h c fr 100000 = .ok w/\u=ordM w:=by
 unfold jm befM at hm;split at hm
 ·rename_i g; exact absurd (congrArg Prod.snd hm) g
 split at hm
 ·rename_i g; exact absurd (congrArg Prod.snd hm) g
 split at hm
 ·have h2:(2:Int)=0:=congrArg Prod.snd hm;exact absurd h2 (by decide)
 ·cases hw:flM f h c fr 100000 with
  | error e=>
   rw [hw] at hm;have h2:e=0:=congrArg Prod.snd hm;exact absurd h2 (zpb c hw)
  | ok w=>
   rw [hw] at hm;exact⟨w,rfl,(congrArg Prod.fst hm).symm⟩
theorem zch(d:Int)(a b n r:L8):ordM (payF d a b n r)=payF d a b n r:=by
 unfold payF;split
 ·rfl
 ·split<;>rfl
theorem zim{day:Int}{a b n r:L8}(hr:errR r=0):payF day b a n (negS r)=payF day a b n r:=by
 obtain⟨s1,s2,s3⟩:=jJ hr;obtain⟨n1,n2,_,_⟩:=vR hr;obtain⟨t1,t2,t3⟩:=jJ n1
 have e:negS (negS r)=r:=by
  obtain⟨m1,m2,_,_⟩:=vR n1;exact Qa m1 hr (by rw [m2,n2]; grind)
 by_cases h0:r=[48]
 ·subst h0; rfl
 ·have h0':negS r≠[48]:=λg=>h0 (s2.2 (by have:=t2.1 g; rw [n2] at this; grind))
  have hq:qv r≠0:=λg=>h0 (s2.2 g)
  unfold payF;rw [aO h0,aO h0'];by_cases h1:r.getD 0 0=45
  ·have h2:¬ (negS r).getD 0 0=45:=λg=>by
    have a1:=s1.1 h1; have a2:=t1.1 g; rw [n2] at a2; grind
   rw [aP h1,aO h2];unfold negS;rw [aO h0,aP h1]
  ·have h2:(negS r).getD 0 0=45:=t1.2 (by
    have a1:¬ qv r<0:=λg=>h1 (s1.2 g)
    rw [n2]; grind)
   rw [aO h1,aP h2]
   have:(negS r).drop 1=r:=by
    have h3:negS (negS r)=(negS r).drop 1:=by
     generalize negS r=t at h0' h2;unfold negS;rw [aO h0',aP h2]
    rw [<- h3,e]
   rw [this]
theorem zjp{x:Ex}{k s:L8}{put:Bool}{f:List Fx}{day:Int}(hs:errR s=0)(hk:errR k=0)(h1:(x.ev f day).v=s)(h:((over k x put).ev f day).e=0):(ya put s k).2=0:=by
 obtain⟨k1,k2⟩:=yo k f day;cases put with
 | true=>
  obtain⟨_,a2,_,_⟩:=uQ (.inr (.inr rfl)) (x:=kon [48]) (y:=opx 5 [kon k,x]) h;obtain⟨_,_,_,b4⟩:=uQ (.inl rfl) a2;rw [k1,h1] at b4;exact b4
 | false=>
  obtain⟨_,a2,_,_⟩:=uQ (.inr (.inr rfl)) (x:=kon [48]) (y:=opx 5 [x,kon k]) h;obtain⟨_,_,_,b4⟩:=uQ (.inl rfl) a2;rw [k1,h1] at b4;exact b4
theorem zd5{n k u:L8}{put:Bool}{f:List Fx}{day:Int}(hs:(qu f n day).2=true->errR (qu f n day).1=0)(hk:errR k=0)(hu:errR u=0)(h:((opx 6 [over k (spot n) put,kon u]).ev f day).e=0) :
  (qu f n day).2=true/\(ya put (qu f n day).1 k).2=0/\(mulR (posR (ya put (qu f n day).1 k).1) u).2=0/\((opx 6 [over k (spot n) put,kon u]).ev f day).v=(mulR (posR (ya put (qu f n day).1 k).1) u).1:=by
 obtain⟨s1,s2⟩:=zdv n f day;obtain⟨u1,u2⟩:=yo u f day;unfold fixR at s1 s2;cases hf:(qu f n day).2 with
 | false=>
  rw [hf,aO (by decide)] at s2;have e1:((opx 6 [over k (spot n) put,kon u]).ev f day).e=30:=zbc (.inr (.inl rfl)) (by decide) (zk1 (by decide) s2);rw [e1] at h; cases h
 | true=>
  rw [hf,aP rfl] at s1 s2;obtain⟨a1,a2,a3,a4⟩:=uQ (.inr (.inl rfl)) h;have hd:=zjp (hs hf) hk s1 a1;obtain⟨o1,o2,o3⟩:=zqg (put:=put) (hs hf) hk s1 s2 hd;rw [o2,u1] at a3 a4;exact⟨rfl,hd,a4,a3⟩
theorem zpd{n k u:L8}{f:List Fx}{day:Int}(h:((opx 6 [opx 5 [spot n,kon k],kon u]).ev f day).e=0) :
  (qu f n day).2=true/\(subR (qu f n day).1 k).2=0/\(mulR (subR (qu f n day).1 k).1 u).2=0/\((opx 6 [opx 5 [spot n,kon k],kon u]).ev f day).v=(mulR (subR (qu f n day).1 k).1 u).1:=by
 obtain⟨s1,s2⟩:=zdv n f day;obtain⟨k1,k2⟩:=yo k f day;obtain⟨u1,u2⟩:=yo u f day;unfold fixR at s1 s2;obtain⟨a1,a2,a3,a4⟩:=uQ (.inr (.inl rfl)) h;obtain⟨b1,b2,b3,b4⟩:=uQ (.inl rfl) a1;cases hf:(qu f n day).2 with
 | false=>
  rw [hf,aO (by decide)] at s2;rw [s2] at b1; cases b1
 | true=>
  rw [hf,aP rfl] at s1 s2;rw [s1,k1] at b3 b4;rw [b3,u1] at a3 a4;exact⟨rfl,b4,a4,a3⟩
theorem zfu{d:Deal}{day fr:Int}{f:List Fx}{h:List Ch}{x y:List Fl}(hc:res d (fwd d day)=0)(he:errE f h=0)(h1:fr<=99999)(hs:(qu f d.name day).2=true->errR (qu f d.name day).1=0)
  (hx:jm (fwd d day) fr f h=(x,0)) (hy:jm (whole [pff d day false,pff (turn d) day true]) fr f h=(y,0)):x=y/\Q8 x/\x.length<=1/\zy d.long=true/\zy d.ccy=true:=by
 obtain⟨r1,r2,r3,_⟩:=yk hc;obtain⟨_,_,q3,_⟩:=yk (c:=pff d day false) (by rw [KL]; exact hc);obtain⟨_,_,z3,_⟩:=yk (d:=turn d) (c:=pff (turn d) day true) (by rw [YQ]; exact hc)
 have hcnd:dayB day=true/\zy d.short=true/\zy d.long=true/\d.short≠d.long/\zy d.ccy=true/\(opx 6 [opx 5 [spot d.name,kon d.zb],kon d.zg]).zt=1:=by
  have hw:=r3;unfold fwd pay at hw;rw [Jv (xW _ _ _)] at hw;by_cases g:dayB day=true/\zy d.short=true/\zy d.long=true/\d.short≠d.long/\zy d.ccy=true/\(opx 6 [opx 5 [spot d.name,kon d.zb],kon d.zg]).zt=1
  ·exact g
  ·rw [aO g] at hw; cases hw
 obtain⟨hd1,n1,n2,n3,n4,_⟩:=hcnd;obtain⟨wx,x1,x2⟩:=Uj hx;obtain⟨wy,y1,y2⟩:=Uj hy;rw [K7,uD] at y1;have hnl:¬ (100000:Int)<=fr:=by omega
 simp only [both,Con.kind,Con.sub] at y1;rw [aO hnl,aO (by decide),aP (by decide)] at y1;simp only [List.getD_cons_zero,List.getD_cons_succ] at y1;cases ha:flM f h (pff d day false) fr 100000 with
 | error e=>rw [ha] at y1; cases y1
 | ok ua=>
 rw [ha] at y1;cases hb:flM f h (pff (turn d) day true) fr 100000 with
 | error e=>rw [hb] at y1; cases y1
 | ok ub=>
 rw [hb] at y1;have y1:ua++ub=wy:=by cases y1; rfl
 have px:=Ju (xW d.name d.zb d.zg) (yf r3) he h1 x1;have pa:=Ju (yy d.name d.zb d.zg false) (yf q3) he h1 ha;have pb:=Ju (yy (turn d).name (turn d).zb (turn d).zg true) (yf z3) he h1 hb;rcases px with ⟨g,px⟩ | ⟨g,e1,px⟩
 ·rcases pa with ⟨_,pa⟩ | ⟨g',_⟩
  ·rcases pb with ⟨_,pb⟩ | ⟨g',_⟩
   ·subst px pa pb y1;have hx0:x=[]:=x2;have hy0:y=[]:=y2;rw [hx0,hy0];exact⟨rfl,⟨by simp,List.Pairwise.nil⟩,by simp,n2,n4⟩
   ·exact absurd g g'
  ·exact absurd g g'
 ·rcases pa with ⟨g',_⟩ | ⟨_,e2,pa⟩
  ·exact absurd g' g
  rcases pb with ⟨g',_⟩ | ⟨_,e3,pb⟩
  ·exact absurd g' g
  obtain⟨f1,f2,f3,f4⟩:=zpd e1;obtain⟨_,a2,a3,a4⟩:=zd5 hs r1 r2 e2;obtain⟨_,b2,b3,b4⟩:=zd5 (n:=d.name) hs r1 r2 e3;rw [f4] at px;rw [a4] at pa;rw [show((opx 6 [over (turn d).zb (spot (turn d).name) true,kon (turn d).zg]).ev f day).v=_ from b4] at pb;have hS:=hs f1;generalize (qu f d.name day).1=S at *
  have a2:(subR S d.zb).2=0:=a2;have b2:(subR d.zb S).2=0:=b2;have a3:(mulR (posR (subR S d.zb).1) d.zg).2=0:=a3;have b3:(mulR (posR (subR d.zb S).1) d.zg).2=0:=b3;have pa:ua=payF day d.short d.long d.ccy (mulR (posR (subR S d.zb).1) d.zg).1:=pa;have pb:ub=payF day d.long d.short d.ccy (mulR (posR (subR d.zb S).1) d.zg).1:=pb;obtain⟨v1,v2⟩:=yX hS r1 f2;obtain⟨w1,w2⟩:=yX r1 hS b2;obtain⟨m1,m2⟩:=yW v1 r2 f3
  have key:payF day d.short d.long d.ccy (mulR (subR S d.zb).1 d.zg).1=ua++ub:=by
   obtain⟨c1,c2⟩:=Vd.2 v1;obtain⟨c3,c4⟩:=Vd.2 w1;obtain⟨_,_,p3⟩:=Wd v1;obtain⟨_,_,p4⟩:=Wd w1;obtain⟨g1,g2⟩:=yW p3 r2 a3;obtain⟨g3,g4⟩:=yW p4 r2 b3;have hz:qv (subR d.zb S).1 = - qv (subR S d.zb).1:=by rw [v2,w2]; grind
   by_cases hn:qv (subR S d.zb).1<0
   ·have e1:posR (subR S d.zb).1=[48]:=by
     unfold posR; rw [c2,aP hn,aP (by decide)]
    have e2:posR (subR d.zb S).1=(subR d.zb S).1:=by
     unfold posR; rw [c4,aO (by rw [hz]; grind)]
    rw [e1] at g1 g2;rw [e2] at g3 g4;have k1:(mulR [48] d.zg).1=[48]:=Qa g1 vu (by rw [g2,YP]; grind)
    have k2:(mulR (subR d.zb S).1 d.zg).1=negS (mulR (subR S d.zb).1 d.zg).1:=by
     obtain⟨i1,i2,_,_⟩:=vR m1;exact Qa g3 i1 (by rw [g4,i2,m2,hz]; grind)
    rw [pa,pb,e1,e2,k1,k2,zim m1];rfl
   ·have e1:posR (subR S d.zb).1=(subR S d.zb).1:=by
     unfold posR; rw [c2,aO hn];rw [aO]; split<;>decide
    have e2:(mulR (posR (subR d.zb S).1) d.zg).1=[48]:=by
     have:qv (posR (subR d.zb S).1)=0:=by
      unfold posR;rw [c4];by_cases h0:qv (subR S d.zb).1=0
      ·have:qv (subR d.zb S).1=0:=by rw [hz,h0]; grind
       rw [this];rw [aO (by rw [aO (by grind),aO (by grind)]; decide)];exact this
      ·rw [aP (show qv (subR d.zb S).1<0 by rw [hz]; grind),aP (by decide)];exact YP
     exact Qa g3 vu (by rw [g4,this,YP]; grind)
    rw [pa,pb,e1,e2];show _=_++[];rw [List.append_nil]
  have hxy:x=y:=by rw [x2,y2,px,<- y1,key]
  refine⟨hxy,?_,?_,n2,n4⟩
  ·rw [x2,px,zch];refine⟨zep n1 n2 n4 n3 hd1 m1,?_⟩;have:=yq day d.short d.long d.ccy (mulR (subR S d.zb).1 d.zg).1;generalize payF day d.short d.long d.ccy (mulR (subR S d.zb).1 d.zg).1=l at this
   match l,this with
   | [],_=>exact List.Pairwise.nil
   | [z],_=>exact List.pairwise_singleton _ _
  ·rw [x2,px,zch];exact yq _ _ _ _ _
end Tm
end Go.Nov
end
section
set_option maxRecDepth 100000
open Go Go.Sx Go.Proofs Go.Nov
namespace Go.Proofs.Tryz
attribute [local simp] eqKV eqA eqA0 eqH eqB eqL eqL0
noncomputable def K55:=Go.Sx.aA f55
noncomputable def K26:=Go.Sx.aA f26
noncomputable def GCf:=tb Zm (tb xg tz)
theorem Zp{s:L8}(h:zy s=true):s.length<=40:=by
 unfold zy at h; simp only [bA,aK] at h; exact h.1.1.2
theorem zuk{c:UInt8}(h:c.toNat=45):c=45:=UInt8.toNat_inj.1 (by rw [h]; rfl)
def zce:Ctr:=ctrP true (λl:List Fl=>[flS l]) (λl=>l.length<=5000/\Q8 l) (λ_ (_:Unit)=>True) (λ_ _=>(.i 0,[]))
def SCf(l:List Fl)(d:Int)(i:Nat):KV:=[(3,.i d),(10,flS l),(11,.i (l.length:Int)),(12,.i (i:Int)),Z 20,Z 21,Z 22,Z 25,Z 26,Z 27,Z 30,Z 31,Z 32,Z 33,Z 34,Z 39,Z 40,Z 41,Z 42,Z 45,Z 46,Z 47,Z 50,Z 51,Z 52,Z 53,Z 56,Z 57,Z 58,Z 61,Z 62,Z 63,Z 64]
theorem zfo:zd prog 55 zce:=by
 refine zh' f55 λl hp O w0 Q hq=> ?_
 obtain⟨hl,hg,hs⟩:=hp;replace hq:=hq () trivial;refine zc.n GCf.h [3,10,11,12,20,21,22,25,26,27,30,31,32,33,34,39,40,41,42,45,46,47,50,51,52,53,56,57,58,61,62,63,64] (.D ((5000:Int)<l.length) (.R [.i 4] []) (.leaf (.loop (lps K55 0).1 (lps K55 0).2 [(3,.i 0),(10,.sl l.length 5 (flG l)),(11,.i l.length),(12,.i 0),Z 20,Z 21,Z 22,Z 25,Z 26,Z 27,Z 30,Z 31,Z 32,Z 33,Z 34,Z 39,Z 40,Z 41,Z 42,Z 45,Z 46,Z 47,Z 50,Z 51,Z 52,Z 53,Z 56,Z 57,Z 58,Z 61,Z 62,Z 63,Z 64] []))) ?_;simp only [Tree.holds,zf,inR,lo,hi,aD];refine⟨λh=>by have:=aB h; omega,λ_=> ?_⟩;refine zc.loop (ι:={i:Nat // i<=l.length}) (λi=>SCf l (if i.1=0 then 0 else(l.getD (i.1 - 1) Fl.nil).date) i.1) (λi=>[]) (λi=>l.length - i.1) ⟨0,aI _⟩ 0 ?_ ?_ (by kernel_rfl)
 ·exact⟨by simp [SCf,flS,za],trivial,by kernel_rfl,aJ _⟩
 ·rintro⟨i,hil⟩;generalize hd:(if i=0 then 0 else(l.getD (i - 1) Fl.nil).date)=d;simp only [hd];refine zc.n GCf.h [3,10,11,12,20,21,22,25,26,27,30,31,32,33,34,39,40,41,42,45,46,47,50,51,52,53,56,57,58,61,62,63,64] (let v1:=l.getD (i:Int).toNat Fl.nil;let v5:=Fl.amt v1=#[(48:UInt8)].toList;let v4:=Fl.date v1 <d;let v3:=Fl.src v1=Fl.dst v1;let v2:List Blk:=[.box [.i v1.date,.str v1.src,.str v1.dst,.str v1.ccy,.str v1.amt]];.D ((i:Int)<l.length) (.side ((0:Int)<=i/\(i:Int)<l.length) (.ex (q15 [.str v1.src]) λn=>.all (λ(r:Bool)=>r=zy n) λn=>.ex (λ(x:L8)=>n=true->q15 [.str v1.dst] x) λn_1=>.all (λ(x:Bool)=>n=true->x=zy n_1) λn_2=>.ex (λ(x:L8)=>(bif n then n_2 else false)=true->q15 [.str v1.ccy] x) λn_3=>.all (λ(x:Bool)=>(bif n then n_2 else false)=true->x=zy n_3) λn_4=>.ex (λ(x:L8)=>(bif bif !bif bif bif n then n_2 else false then n_4 else false then !decide v3 else false then true else decide v4 then true else decide ((99999:Int)<Fl.date v1))=false->eqL [.str v1.amt] [.str x]/\x.length<4611686018427387904) λn_5=>.all (λ(x:Int)=>(bif bif !bif bif bif n then n_2 else false then n_4 else false then !decide v3 else false then true else decide v4 then true else decide ((99999:Int)<Fl.date v1))=false->x=errR n_5) λn_6=>.side ((bif bif bif bif !bif bif bif n then n_2 else false then n_4 else false then !decide v3 else false then true else decide v4 then true else decide ((99999:Int)<Fl.date v1) then true else !decide (n_6=0) then true else decide v5)=false->(0:Int)<=0/\(0:Int)<(↑(List.length v1.amt):Int)) (.ite (bif bif bif bif bif !bif bif bif n then n_2 else false then n_4 else false then !decide v3 else false then true else decide v4 then true else decide ((99999:Int)<Fl.date v1) then true else !decide (n_6=0) then true else decide v5 then true else decide ((↑(UInt8.toNat (List.getD v1.amt 0 (0:UInt8))):Int)=45)) (.R [.i 8] v2) (.S (i+1) (.leaf (.back 0 [(3,.i v1.date),(10,.sl l.length 5 (flG l)),(11,.i l.length),(12,.i (i+1)),Z 20,Z 21,Z 22,Z 25,Z 26,Z 27,Z 30,Z 31,Z 32,Z 33,Z 34,Z 39,Z 40,Z 41,Z 42,Z 45,Z 46,Z 47,Z 50,Z 51,Z 52,Z 53,Z 56,Z 57,Z 58,Z 61,Z 62,Z 63,Z 64] v2)))))) (.R [.i 0] [])) ?_;simp only [q15,Tree.holds,zf,inR,lo,hi,aD];refine⟨λhlt=> ?_,λ_=>RetR.scal hq rfl rfl⟩;have hlt:i<l.length:=by have:=aB hlt; omega
  have hm:l.getD i Fl.nil∈l:=by simp [List.getD,hlt]
  have hnx:∀ kv hp,LeK 0 f55.ntmps kv hp (SCf l (l.getD i Fl.nil).date (i+1)) []->∃ x':{i:Nat // i<=l.length},l.length - x'.1<l.length - i/\LeK 0 f55.ntmps kv hp (SCf l (if x'.1=0 then 0 else(l.getD (x'.1 - 1) Fl.nil).date) x'.1) []:=λkv hp h=>⟨⟨i+1,hlt⟩,by show l.length - (i+1)<_; omega,by rw [aO (Nat.succ_ne_zero i)]; exact h⟩
  have hdx:d<=(l.getD i Fl.nil).date:=by
   rw [<- hd];split
   ·exact(hg _ hm).2.2.2.2.1.1
   ·have hl1:i - 1<l.length:=by omega
    have:=(List.pairwise_iff_getElem.1 hs) (i - 1) i hl1 hlt (by omega);simpa [List.getD,hlt,hl1] using this
  obtain⟨g1,g2,g3,g4,g5,g6,g7,g8⟩:=hg _ hm;clear hg hs hd hm hq;have k1:=Zp g1;have k2:=Zp g2;have k3:=Zp g3;have k6:=jK g6;have f4:decide ((l.getD i Fl.nil).src=(l.getD i Fl.nil).dst)=false:=aW g4;have f5:decide ((l.getD i Fl.nil).date<d)=false:=aW (by omega);have f6:decide (99999<(l.getD i Fl.nil).date)=false:=aW (by omega);have f7:decide ((l.getD i Fl.nil).amt=[48])=false:=aW g7;have f8:decide ((((l.getD i Fl.nil).amt.getD 0 0).toNat:Int)=45)=false:=aW λh=>g8 (zuk (by omega))
  have f9:0<(l.getD i Fl.nil).amt.length:=by
   have:=(jJ g6).2.2;cases hx:(l.getD i Fl.nil).amt with
   | nil=>exact absurd hx this
   | cons a b=>simp
  refine⟨⟨by omega,by omega⟩,λ_=>⟨(l.getD i Fl.nil).src,⟨⟨rfl,trivial⟩,by omega⟩,⟨_,rfl⟩,?_⟩⟩;rintro _ rfl;rw [g1,f4,f5,f6,f7,f8];refine⟨(l.getD i Fl.nil).dst,λ_=>⟨⟨rfl,trivial⟩,by omega⟩,⟨_,λ_=>rfl⟩,λb hb=> ?_⟩;obtain rfl:=hb rfl;rw [g2];refine⟨(l.getD i Fl.nil).ccy,λ_=>⟨⟨rfl,trivial⟩,by omega⟩,⟨_,λ_=>rfl⟩,λb hb=> ?_⟩;obtain rfl:=hb rfl;rw [g3];refine⟨(l.getD i Fl.nil).amt,λ_=>⟨⟨rfl,trivial⟩,by omega⟩,⟨_,λ_=>rfl⟩,λb hb=> ?_⟩;obtain rfl:=hb rfl;rw [g6];refine⟨λ_=>⟨Int.le_refl _,by omega⟩,λ_=>⟨λh=>(by cases h),λ_=>⟨by omega,λ_=> ?_⟩⟩⟩;rw [aP trivial];exact hnx _ _ ⟨by simp [SCf,flS,za],trivial,by kernel_rfl,aI _⟩
noncomputable def GNt:=tb zfo (tb Zm (tb QT (tb Jh tz)))
structure NetA where
 l:List Fl
 p:L8
 c:L8
def netC:Ctr:=ctrP true (λa:NetA=>[flS a.l,.str a.p,.str a.c]) (λa=>a.l.length<=5000/\Q8 a.l/\zy a.p=true/\zy a.c=true) (λ_ (_:Unit)=>True) (λa _=>(.tup [.str (netR a.p a.c [48] a.l).1,.i (netR a.p a.c [48] a.l).2],[]))
theorem zna{p c s:L8}{f:Fl}{l:List Fl}(h:f.ccy≠c):netR p c s (f::l)=netR p c s l:=by
 have e:(if f.ccy≠c then(s,0) else if f.dst=p then addR s f.amt else if f.src=p then subR s f.amt else(s,0):L8×Int)=(s,0):=by rw [aP h]
 rw [kX,e]; rfl
theorem zsw{p c s:L8}{f:Fl}{l:List Fl}(h:f.ccy=c)(g:f.dst=p):netR p c s (f::l)=if(addR s f.amt).2≠0 then([],(addR s f.amt).2) else netR p c (addR s f.amt).1 l:=by
 have e:(if f.ccy≠c then(s,0) else if f.dst=p then addR s f.amt else if f.src=p then subR s f.amt else(s,0):L8×Int)=addR s f.amt:=by rw [aO (λq=>q h),aP g]
 rw [kX,e]
theorem zqi{p c s:L8}{f:Fl}{l:List Fl}(h:f.ccy=c)(g:f.dst≠p)(k:f.src=p):netR p c s (f::l)=if(subR s f.amt).2≠0 then([],(subR s f.amt).2) else netR p c (subR s f.amt).1 l:=by
 have e:(if f.ccy≠c then(s,0) else if f.dst=p then addR s f.amt else if f.src=p then subR s f.amt else(s,0):L8×Int)=subR s f.amt:=by rw [aO (λq=>q h),aO g,aP k]
 rw [kX,e]
theorem zhn{p c s:L8}{f:Fl}{l:List Fl}(h:f.ccy=c)(g:f.dst≠p)(k:f.src≠p):netR p c s (f::l)=netR p c s l:=by
 have e:(if f.ccy≠c then(s,0) else if f.dst=p then addR s f.amt else if f.src=p then subR s f.amt else(s,0):L8×Int)=(s,0):=by rw [aO (λq=>q h),aO g,aO k]
 rw [kX,e]; rfl
def SNt(l:List Fl)(p c s:L8)(i:Nat):KV:=[(1,.str p),(2,.str c),(9,.str s),(10,.i 0),(26,flS l),(27,.i (l.length:Int)),(28,.i (i:Int))]
theorem zsm:zd prog 26 netC:=by
 refine zh' f26 λa hp O w0 Q hq=> ?_
 obtain⟨l,p,c⟩:=a;obtain⟨hl,hg,hpn,hcn⟩:=hp;simp only at hl hg hpn hcn;replace hq:=hq () trivial;simp only at hq;refine zc.n GNt.h [1,2,9,10,26,27,28] (.ex (λ(x:List Fl)=>eqL [.sl l.length 5 (flG l)] [.sl x.length 5 (flG x)]/\x.length<=5000/\Q8 x) λn=>.A λn=>.ite false (.R [.str #[].toList,.i 0] []) (.ex (q15 [.str p]) λn=>.all (λ(r:Bool)=>r=zy n) λn=>.ex (λ(x:L8)=>(!n)=false->eqL [.str c] [.str x]/\x.length<4611686018427387904) λn_1=>.all (λ(x:Bool)=>(!n)=false->x=zy n_1) λn_2=>.ite (bif !n then true else !n_2) (.R [.str #[].toList,.i 2] []) (.leaf (.loop (lps K26 0).1 (lps K26 0).2 [(1,.str p),(2,.str c),(9,.str #[(48:UInt8)].toList),(10,.i 0),(26,.sl l.length 5 (flG l)),(27,.i l.length),(28,.i 0)] [])))) ?_;simp only [q15,Tree.holds,zf,inR,lo,hi,aD];have e40:∀ s,zy s=true->s.length<4611686018427387904:=λs h=>by have:=Zp h; omega
 refine⟨l,⟨⟨⟨rfl,rfl,za _ _ _⟩,trivial⟩,hl,hg⟩,⟨(),trivial⟩,λ_ _=>⟨λh=>(by cases h),λ_=> ?_⟩⟩;refine⟨p,⟨⟨rfl,trivial⟩,e40 _ hpn⟩,⟨_,rfl⟩,?_⟩;rintro _ rfl;refine⟨c,λ_=>⟨⟨rfl,trivial⟩,e40 _ hcn⟩,⟨_,λ_=>rfl⟩,λb hb=> ?_⟩;obtain rfl:=hb (by rw [hpn]; rfl);refine⟨λh=>(by rw [hpn,hcn] at h; cases h),λ_=> ?_⟩;refine zc.loop (ι:={z:L8×Nat // z.2<=l.length/\z.1.length<=2003/\netR p c [48] l=netR p c z.1 (l.drop z.2)}) (λz=>SNt l p c z.1.1 z.1.2) (λ_=>[]) (λz=>l.length - z.1.2) ⟨([48],0),aI _,by decide,rfl⟩ 0 ?_ ?_ (by kernel_rfl)
 ·exact⟨by simp [SNt,flS,za],trivial,by kernel_rfl,aJ _⟩
 ·rintro⟨⟨s,i⟩,hil,hsl,hnet⟩;simp only at hil hsl hnet;refine zc.n GNt.h [1,2,9,10,26,27,28] (let v4:=inR .i64 (i+1);let v2:=l.getD (i:Int).toNat Fl.nil;let v6:=q44 [.str s,.str v2.amt];let v1:List Blk:=[.box [.i v2.date,.str v2.src,.str v2.dst,.str v2.ccy,.str v2.amt]];let v5:zZ:=.ret [.str #[].toList,.i 0] v1;let v3:zZ:=.back 0 [(1,.str p),(2,.str c),(9,.str s),(10,.i 0),(26,.sl l.length 5 (flG l)),(27,.i l.length),(28,.i (i+1))] v1;.D ((i:Int)<l.length) (.side ((0:Int)<=i/\(i:Int)<l.length) (.N (Fl.ccy v2=c) (.ite false (.leaf v5) (.side v4 (.leaf v3))) (.D (Fl.dst v2=p) (.ex v6 λn=>.all (λ(r:L8×Int)=>r=addR n.1 n.2) λn=>.N (n.2=0) (.R [.str #[].toList,.i n.2] v1) (.side v4 (.leaf (.back 0 [(1,.str p),(2,.str c),(9,.str n.1),(10,.i n.2),(26,.sl l.length 5 (flG l)),(27,.i l.length),(28,.i (i+1))] v1)))) (.D (Fl.src v2=p) (.ex v6 λn=>.all (λ(r:L8×Int)=>r=subR n.1 n.2) λn=>.N (n.2=0) (.R [.str #[].toList,.i n.2] v1) (.side v4 (.leaf (.back 0 [(1,.str p),(2,.str c),(9,.str n.1),(10,.i n.2),(26,.sl l.length 5 (flG l)),(27,.i l.length),(28,.i (i+1))] v1)))) (.ite false (.leaf v5) (.side v4 (.leaf v3))))))) (.R [.str s,.i 0] [])) ?_;simp only [q44,Tree.holds,zf,inR,lo,hi,aD]
  have hx0:i=l.length->Q (.tup [.str s,.i 0],[]):=λh=>by
   rw [hnet,h,List.drop_length] at hq; exact hq
  refine⟨λhlt=> ?_,λhge=>RetR.scal (hx0 (by have:=aC hge; omega)) rfl rfl⟩;have hlt:i<l.length:=by have:=aB hlt; omega
  clear hx0;have hm:l.getD i Fl.nil∈l:=by simp [List.getD,hlt]
  have hgd:=hg.1 _ hm;have k6:=jK hgd.2.2.2.2.2.1
  have hdr:l.drop i=l.getD i Fl.nil::l.drop (i+1):=by
   rw [List.drop_eq_getElem_cons hlt]; simp [List.getD,hlt]
  rw [hdr] at hnet;have hnx:∀ s':L8,s'.length<=2003->netR p c [48] l=netR p c s' (l.drop (i+1))->∀ kv hp,LeK 0 f26.ntmps kv hp (SNt l p c s' (i+1)) []->∃ x':{z:L8×Nat // z.2<=l.length/\z.1.length<=2003/\netR p c [48] l=netR p c z.1 (l.drop z.2)},l.length - x'.1.2<l.length - i/\LeK 0 f26.ntmps kv hp (SNt l p c x'.1.1 x'.1.2) []:=λs' h1 h2 kv hp h=>⟨⟨(s',i+1),hlt,h1,h2⟩,by show l.length - (i+1)<_; omega,h⟩
  refine⟨⟨by omega,by omega⟩,λ_=>⟨λh=> ?_,λh=> ?_⟩⟩
  ·have h:(l.getD i Fl.nil).ccy≠c:=by simpa using h
   rw [zna h] at hnet;refine⟨λh=>(by cases h),λ_=>⟨by omega,λ_=> ?_⟩⟩;rw [aP trivial];exact hnx s hsl hnet _ _ ⟨by simp [SNt,flS,za],trivial,by kernel_rfl,aI _⟩
  have h:(l.getD i Fl.nil).ccy=c:=by simpa using h
  have hc:=h;clear h;refine⟨λh=> ?_,λh=>⟨λg=> ?_,λg=> ?_⟩⟩
  ·have h:=aB h;rw [zsw hc h] at hnet;refine⟨(s,(l.getD i Fl.nil).amt),⟨⟨rfl,rfl,trivial⟩,by show s.length<_; omega,by show List.length (l.getD i Fl.nil).amt<_; omega⟩,⟨_,rfl⟩,?_⟩;rintro _ rfl;refine⟨λe=> ?_,λe=>⟨by omega,λ_=> ?_⟩⟩
   ·have e:(addR s (l.getD i Fl.nil).amt).2≠0:=by simpa using e
    rw [aP e] at hnet;rw [hnet] at hq;exact RetR.scal hq rfl rfl
   ·have e:(addR s (l.getD i Fl.nil).amt).2=0:=by simpa using e
    rw [aO (λq=>q e)] at hnet;rw [aP trivial];exact hnx _ (zk7 _ _) hnet _ _ ⟨by simp [SNt,flS,za]; simpa using e,trivial,by kernel_rfl,aI _⟩
  ·have h:=aC h;have g:=aB g;rw [zqi hc h g] at hnet;refine⟨(s,(l.getD i Fl.nil).amt),⟨⟨rfl,rfl,trivial⟩,by show s.length<_; omega,by show List.length (l.getD i Fl.nil).amt<_; omega⟩,⟨_,rfl⟩,?_⟩;rintro _ rfl;refine⟨λe=> ?_,λe=>⟨by omega,λ_=> ?_⟩⟩
   ·have e:(subR s (l.getD i Fl.nil).amt).2≠0:=by simpa using e
    rw [aP e] at hnet;rw [hnet] at hq;exact RetR.scal hq rfl rfl
   ·have e:(subR s (l.getD i Fl.nil).amt).2=0:=by simpa using e
    rw [aO (λq=>q e)] at hnet;rw [aP trivial];exact hnx _ (Tm.zht _ _) hnet _ _ ⟨by simp [SNt,flS,za]; simpa using e,trivial,by kernel_rfl,aI _⟩
  ·have h:=aC h;have g:=aC g;rw [zhn hc h g] at hnet;refine⟨λh=>(by cases h),λ_=>⟨by omega,λ_=> ?_⟩⟩;rw [aP trivial];exact hnx s hsl hnet _ _ ⟨by simp [SNt,flS,za],trivial,by kernel_rfl,aI _⟩
namespace Tm
theorem Vs{c:Con}(r:Int)(h:c.big<100000):(Tm.out r c).big<100000:=by
 unfold Tm.out;split
 ·exact h
 ·exact Tm.zmc
theorem Kx{a b:Con}(h1:a.big<100000)(h2:b.big<100000):(Tm.whole [a,b]).big<5000000/\(Tm.whole [a,b]).nodes<=1000000:=by
 have h:=Tm.xC [a,b];have:=Con.jN a;have:=Con.Zl a;have:=Con.jN b;have:=Con.Zl b;simp only [Con.bigs,Con.zz,aL,List.length_nil] at h;omega
end Tm
theorem znp{f:List Fx}{h:List Ch}{n:L8}{z:Int}(he:errE f h=0)(hf:(qu f n z).2=true):errR (qu f n z).1=0:=by
 have e:fixR f n z=((qu f n z).1,0):=by unfold fixR; rw [aP hf]
 have:=XG (XQ.1 he).2.1 (a:=n) (d:=z) (by rw [e]);rw [e] at this;exact this
theorem zmv{c:Con}{fr:Int}{f:List Fx}{h:List Ch}(hm:(jm c fr f h).2=0):errE f h=0/\0<=fr/\fr<=99999:=by
 unfold jm befM at hm;split at hm
 ·rename_i g; exact absurd hm g
 split at hm
 ·rename_i g; exact absurd hm g
 split at hm
 ·have h2:(2:Int)=0:=hm;exact absurd h2 (by decide)
 ·rename_i a b c;refine⟨by simpa using b,by omega,by omega⟩
theorem zgb{p c:L8}{l:List Fl}(h:Q8 l)(hl:l.length<=1):(netR p c [48] l).2=0:=by
 match l,hl with
 | [],_=>rfl
 | [x],_=>exact zpo (h.1 x (by simp))
noncomputable def GAL:=tb YJ (tb zlg tz)
def allT:Ctr:=ctrP false (λl:List Con=>[Con.conS l]) (λl=>l.length<=2/\(Tm.whole l).big<5000000/\(Tm.whole l).nodes<=1000000) (λ_ (_:Unit)=>True) (λl _=>(.tup [(Tm.out (Tm.whole l).errC (Tm.whole l)).conD,.i (Tm.whole l).errC],[]))
theorem zoz:zd prog 25 allT:=by
 refine zh' f25 λl hp O w0 Q hq=> ?_
 obtain⟨h1,h2,h3⟩:=hp;replace hq:=hq () trivial;refine zc.n GAL.h [] (let v1:List AV:=[.int .u8 0,.str #[].toList,.str #[].toList,.str #[].toList,.int .u8 0,.str #[].toList,.str #[].toList,.i 0,.nils,.i 0,.nils,.nils];.D ((500:Int)<l.length) (.R [.agg v1,.i 4] [.box v1,.box [.i 0]]) (.ex (q47 [.sl l.length 12 (Con.conG l)]) λn=>let v4:=Con.conD (Tm.whole n);let v2:=Con.zl (Tm.whole n);let v3:zZ:=.ret [.agg v1,.i 0] [.box v1,.box [.i 0],.box v2,.box v1];.A λn_1=>.ite true (.ex (q31 [v4]) λn_2=>.all (λ(r:Int)=>r=Con.errC n_2) λn_3=>.ite true (.N (n_3=0) (.R [.agg v1,.i n_3] [.box v1,.box [.i n_3],.box v2,.box v1]) (.ex (q36 [v4]) λn_4=>.A λn_5=>.R [n_4.conD,.i 0] [.box n_4.zl,.box [.i n_3],.box v2,.box n_4.zl])) (.ite false (.leaf v3) (.ex (q36 [v4]) λn_4=>.A λn_5=>.R [n_4.conD,.i 0] [.box n_4.zl,.box [.i 0],.box v2,.box n_4.zl]))) (.ite false (.leaf v3) (.ex (q36 [v4]) λn_2=>.A λn_3=>.R [n_2.conD,.i 0] [.box n_2.zl,.box [.i 0],.box v2,.box n_2.zl])))) ?_
 have hq1:(Tm.whole l).errC≠0->Q (.tup [Tm.zero.conD,.i (Tm.whole l).errC],[]):=λh=>by
  unfold Tm.out at hq; rw [aO h] at hq; exact hq
 have hq2:(Tm.whole l).errC=0->Q (.tup [(Tm.whole l).conD,.i 0],[]):=λh=>by
  unfold Tm.out at hq; rw [aP h,h] at hq; exact hq
 clear hq;simp only [Tree.holds,zf];refine⟨λh=>absurd (aB h) (by omega),λ_=> ?_⟩;refine⟨l,⟨⟨⟨rfl,rfl,za _ _ _⟩,trivial⟩,by omega⟩,⟨(),trivial⟩,λ_ _=>⟨λ_=> ?_,λh=>(by cases h)⟩⟩;refine⟨Tm.whole l,⟨⟨jI _,trivial⟩,by omega,h3⟩,⟨_,rfl⟩,?_⟩;rintro _ rfl;refine⟨λ_=>⟨λh=> ?_,λh=> ?_⟩,λh=>(by cases h)⟩
 ·exact RetR.out0 (hq1 (by simpa using h)) (λh=>by cases h) zero_eq
 ·refine⟨Tm.whole l,⟨⟨jI _,trivial⟩,by omega⟩,⟨(),trivial⟩,λ_ _=> ?_⟩;exact RetR.le0 (hq2 (by simpa using h)) (λh=>by cases h) (LeA.refl _)
def zre:Ctr:={ allT with sinks:=true }
theorem zjw:zd prog 25 zre:=zd.sink (c:=allT) zoz
noncomputable def GPr:=tb zf2 (tb zp0 (tb zkx (tb Wc (tb zgz (tb zjw (tb JA (tb zsm tz)))))))
abbrev q65(A:List AV)(x:NetA):Prop:=eqL A [.sl x.l.length 5 (flG x.l),.str x.p,.str x.c]/\List.length x.l<=5000/\Q8 x.l/\zy x.p=true/\zy x.c=true
abbrev q64(A:List AV)(x:Deal×Int×Bool):Prop:=eqL A [x.1.av,.i x.2.1,.bool x.2.2]/\Tm.fits x.1
theorem zlr:zd prog 6 ztz:=by
 refine zh' Tryz.f6 λp hp O w0 Q hq=> ?_
 obtain⟨d,day,fr,f,h⟩:=p;replace hq:=hq true rfl;simp only at hp;refine zc.n GPr.h [] (let v16:List AV:=[.sl f.length 3 (fxG f),.sl h.length 4 (chG h)];let v15:=Deal.ccy d;let v13:=Deal.long d;let v6:List AV:=[.str v13,.str d.short,.str v15,.str d.name,.str d.zb,.str d.zg];let v5:=[AV.sl f.length 3 (fxG f),AV.sl h.length 4 (chG h)];.ex (λ(x:Unit)=>eqL [] []/\True) λn=>.A λn=>.ex (λ(x:xR)=>eqL [d.av,AV.nils,AV.nils] [(Deal.av (xR.d x)),.sl (xR.l x).length 3 (perG (xR.l x)),.sl (xR.days x).length 1 (Con.dayG (xR.days x))]/\List.length (xR.l x)<1152921504606846976) λn=>.all (λ(r:Bool)=>r=false->Tm.short (xR.d n) (xR.l n) (xR.days n)) λn=>.ex (λ(x:List Fx×List Ch)=>n=false->eqL [.agg v5] [.agg [.sl x.1.length 3 (fxG x.1),.sl x.2.length 4 (chG x.2)]]/\x.1.length<1152921504606846976/\x.2.length<1152921504606846976/\(∀ (j:Nat),j<x.1.length->zcp (List.getD x.1 j Fx.nil))/\∀ (j:Nat),j<x.2.length->Yi (List.getD x.2 j Ch.nil)) λn_1=>.all (λ(x:Bool)=>n=false->x=false->fitP n_1) λn_2=>.ite (bif bif n then true else n_2 then true else !true) (.R [.bool true] [.box v6,.box v16]) (.ex (q62 [d.av,.i day]) λn=>let v8:=Tm.fwd n.1 n.2;let v14:=Tm.res n.1 v8=(0:Int);.A λn_3=>.ex (q64 [d.av,.i day,.bool false]) λn_4=>let v4:=Tm.pff n_4.1 n_4.2.1 n_4.2.2;let v12:=Tm.res n_4.1 v4=(0:Int);let v1:=Tm.out (Tm.res n_4.1 v4) v4;.A λn_5=>.ex (q64 [.agg [.str d.short,.str v13,.str v15,.str d.name,.str d.zb,.str d.zg],.i day,.bool true]) λn_6=>let v7:=Tm.pff n_6.1 n_6.2.1 n_6.2.2;let v2:=Tm.out (Tm.res n_6.1 v7) v7;.A λn_7=>.ex (λ(x:List Con)=>eqL [.sl 2 12 (zi (zj 12 [.int .u8 (Con.kind v1),.str (Con.src v1),.str (Con.dst v1),.str (Con.name v1),.int .u8 (Ex.kind (Con.x v1)),.str (Ex.rat (Con.x v1)),.str (Ex.name (Con.x v1)),.i (Ex.date (Con.x v1)),.sl (List.length (Ex.sub (Con.x v1))) 5 (Ex.exG (Ex.sub (Con.x v1))),.i (Con.date v1),.sl (List.length (Con.days v1)) 1 (Con.dayG (Con.days v1)),.sl (List.length (Con.sub v1)) 12 (Con.deep v1),.int .u8 (Con.kind v2),.str (Con.src v2),.str (Con.dst v2),.str (Con.name v2),.int .u8 (Ex.kind (Con.x v2)),.str (Ex.rat (Con.x v2)),.str (Ex.name (Con.x v2)),.i (Ex.date (Con.x v2)),.sl (List.length (Ex.sub (Con.x v2))) 5 (Ex.exG (Ex.sub (Con.x v2))),.i (Con.date v2),.sl (List.length (Con.days v2)) 1 (Con.dayG (Con.days v2)),.sl (List.length (Con.sub v2)) 12 (Con.deep v2)]) 0)] [.sl x.length 12 (Con.conG x)]/\x.length<=2/\Con.big (Tm.whole x)<5000000/\Con.nodes (Tm.whole x)<=1000000) λn_8=>let v11:=Tm.whole n_8;let v3:List Blk:=[.box v6,.box v16,.box [.str d.short,.str v13,.str v15,.str d.name,.str d.zb,.str d.zg],.box (Con.zl (Tm.out (Tm.res n.1 v8) v8)),.box v1.zl,.box v2.zl,.dead,.box (Con.zl (Tm.out (Con.errC v11) v11))];.A λn_9=>.ite (bif bif bif !decide v14 then true else !decide v12 then true else !decide (Tm.res n_6.1 v7=(0:Int)) then true else !decide (Con.errC v11=(0:Int))) (.R [.bool (bif bif bif true then decide v14 == decide v12 else false then decide v12 == decide (Tm.res n_6.1 v7=(0:Int)) else false then bif !decide v14 then true else decide (Con.errC v11=(0:Int)) else false)] v3) (.ex (q61 [(Con.conD (Tm.out (Tm.res n.1 v8) v8)),.i fr,.agg v5]) λn_10=>.all (λ(r:List Fl×Int)=>r=jm n_10.c n_10.day n_10.f n_10.h) λn_11=>.ex (q61 [(Con.conD (Tm.out (Con.errC v11) v11)),.i fr,.agg v5]) λn_12=>.all (λ(r:List Fl×Int)=>r=jm n_12.c n_12.day n_12.f n_12.h) λn_13=>.ite (bif !decide (n_11.2=0) then true else !decide (n_13.2=0)) (.R [.bool true] v3) (.ex (q65 [.sl n_11.1.length 5 (flG n_11.1),.str v13,.str v15]) λn_14=>let v9:=netR n_14.p n_14.c [(48:UInt8)] n_14.l;.A λn_15=>.ex (q65 [.sl n_13.1.length 5 (flG n_13.1),.str v13,.str v15]) λn_16=>let v10:=netR n_16.p n_16.c [(48:UInt8)] n_16.l;.A λn_17=>.R [.bool (bif bif bif true then decide (Prod.snd v9=(0:Int)) else false then decide (Prod.snd v10=(0:Int)) else false then decide (Prod.fst v9=Prod.fst v10) else false)] v3)))) ?_;simp only [q61,q62,q64,q65,Tree.holds,zf];refine⟨(),⟨trivial,trivial⟩,⟨(),trivial⟩,λ_ _=> ?_⟩;have e0:eqA d.av d.av:=⟨rfl,rfl,rfl,rfl,rfl,rfl,trivial⟩;refine⟨⟨d,[],[]⟩,⟨⟨e0,by simp [perS],by simp [Con.dayS],trivial⟩,by show(0:Nat)<_; decide⟩,⟨true,λh=>by cases h⟩,λb1 hb1=> ?_⟩;have eF:eqA (.agg [.sl f.length 3 (fxG f),.sl h.length 4 (chG h)]) (envA f h):=⟨⟨rfl,rfl,λ_ _ _ _=>rfl⟩,⟨rfl,rfl,λ_ _ _ _=>rfl⟩,trivial⟩;refine⟨(f,h),λ_=>⟨⟨eF,trivial⟩,hp⟩,⟨true,λ_ h=>by cases h⟩,λb2 hb2=> ?_⟩;cases b1 with
 | true=>exact⟨λ_=>RetR.scal hq rfl rfl,λh=>by cases h⟩
 | false=>
 cases b2 with
 | true=>exact⟨λ_=>RetR.scal hq rfl rfl,λh=>by cases h⟩
 | false=>
 refine⟨λh=>(by cases h),λ_=> ?_⟩;have hfit:fitP (f,h):=hb2 rfl rfl;have hsh:=(hb1 rfl).1;simp only at hsh;have henv:envP (f,h):=zpc hfit;clear hb1 hb2 hp;refine⟨(d,day),⟨⟨e0,⟨rfl,rfl⟩,trivial⟩,hsh⟩,⟨(),trivial⟩,λ_ _=> ?_⟩;refine⟨(d,day,false),⟨⟨e0,⟨rfl,rfl⟩,rfl,trivial⟩,hsh⟩,⟨(),trivial⟩,λ_ _=> ?_⟩;refine⟨(Tm.turn d,day,true),⟨⟨⟨rfl,rfl,rfl,rfl,rfl,rfl,trivial⟩,⟨rfl,rfl⟩,rfl,trivial⟩,Tm.Vt hsh⟩,⟨(),trivial⟩,λ_ _=> ?_⟩;have hR1:Tm.res d (Tm.pff d day false)=Tm.res d (Tm.fwd d day):=Tm.KL;have hR2:Tm.res (Tm.turn d) (Tm.pff (Tm.turn d) day true)=Tm.res d (Tm.fwd d day):=Tm.YQ;simp only [hR1,hR2];have s1:=Tm.Vs (Tm.res d (Tm.fwd d day)) (Tm.XP (day:=day) (put:=false) hsh);have s2:=Tm.Vs (Tm.res d (Tm.fwd d day)) (Tm.XP (day:=day) (put:=true) (Tm.Vt hsh));refine⟨[Tm.out (Tm.res d (Tm.fwd d day)) (Tm.pff d day false),Tm.out (Tm.res d (Tm.fwd d day)) (Tm.pff (Tm.turn d) day true)],⟨⟨⟨rfl,rfl,Con.Jc _ _⟩,trivial⟩,by simp,Tm.Kx s1 s2⟩,⟨(),trivial⟩,λ_ _=> ?_⟩;by_cases hr:Tm.res d (Tm.fwd d day)=0
 ·have hA:∀ c,Tm.out (Tm.res d (Tm.fwd d day)) c=c:=λc=>by unfold Tm.out; rw [aP hr]
  simp only [hA];rw [hA] at s1 s2;have hs12:=Tm.Kx s1 s2
  have hE:(Tm.whole [Tm.pff d day false,Tm.pff (Tm.turn d) day true]).errC=0:=by
   rw [Tm.K7];exact Tm.zmp (Tm.yk (hR1.trans hr)).2.2.1 (Tm.yk (hR2.trans hr)).2.2.1 (Tm.zec (Tm.yy _ _ _ _)) (Tm.zec (Tm.yy _ _ _ _))
  have hW:Tm.out (Tm.whole [Tm.pff d day false,Tm.pff (Tm.turn d) day true]).errC (Tm.whole [Tm.pff d day false,Tm.pff (Tm.turn d) day true])=Tm.whole [Tm.pff d day false,Tm.pff (Tm.turn d) day true]:=by unfold Tm.out; rw [aP hE]
  have hw0:=@Tm.zfu d day fr f h;rw [hW];simp only [hE,hr];generalize Tm.whole [Tm.pff d day false,Tm.pff (Tm.turn d) day true]=W at hs12 hw0 ⊢;refine⟨λg=>(by cases g),λ_=> ?_⟩;refine⟨⟨Tm.fwd d day,fr,100000,f,h⟩,⟨⟨jI _,⟨rfl,rfl⟩,eF,trivial⟩,by have:=Tm.Xe (day:=day) hsh; show(Tm.fwd d day).big<_; omega,by have:=Tm.Xe (day:=day) hsh; have:=Con.jN (Tm.fwd d day); have:=Con.Zl (Tm.fwd d day); show(Tm.fwd d day).nodes<=_; omega,henv⟩,⟨_,rfl⟩,?_⟩;rintro _ rfl;refine⟨⟨W,fr,100000,f,h⟩,⟨⟨jI _,⟨rfl,rfl⟩,eF,trivial⟩,by show W.big<_; omega,by show W.nodes<=_; omega,henv⟩,⟨_,rfl⟩,?_⟩;rintro _ rfl
  have hx:(jm (Tm.fwd d day) fr f h).2=0->(jm W fr f h).2=0->(jm (Tm.fwd d day) fr f h).1=(jm W fr f h).1/\Q8 (jm (Tm.fwd d day) fr f h).1/\(jm (Tm.fwd d day) fr f h).1.length<=1/\zy d.long=true/\zy d.ccy=true:=λa b=>by
   obtain⟨p1,p2,p3⟩:=zmv a;exact hw0 hr p1 p3 (λk=>znp p1 k) (Prod.ext rfl a) (Prod.ext rfl b)
  clear hw0;generalize jm (Tm.fwd d day) fr f h=m1 at hx ⊢;generalize jm W fr f h=m2 at hx ⊢;refine⟨λ_=>RetR.scal hq rfl rfl,λg=> ?_⟩
  have g':m1.2=0/\m2.2=0:=by
   by_cases a:m1.2=0<;>by_cases b:m2.2=0<;>simp [a,b] at g ⊢
  obtain⟨x1,x2,x3,x4,x5⟩:=hx g'.1 g'.2;rw [<- x1];have hn:(netR d.long d.ccy [48] m1.1).2=0:=zgb x2 x3;refine⟨⟨m1.1,d.long,d.ccy⟩,⟨⟨⟨rfl,rfl,za _ _ _⟩,rfl,rfl,trivial⟩,by show m1.1.length<=_; omega,x2,x4,x5⟩,⟨(),trivial⟩,λ_ _=> ?_⟩;refine⟨⟨m1.1,d.long,d.ccy⟩,⟨⟨⟨rfl,rfl,za _ _ _⟩,rfl,rfl,trivial⟩,by show m1.1.length<=_; omega,x2,x4,x5⟩,⟨(),trivial⟩,λ_ _=> ?_⟩;exact RetR.scal hq rfl (by simp [resV,hn])
 ·refine⟨λ_=>RetR.scal hq rfl (by simp [resV,hr]),λg=>by simp [hr] at g⟩
end Go.Proofs.Tryz
end
section
open Go Go.Sx Go.Proofs Go.Nov
namespace Go.Proofs.Tryz
def zu0(p:List Fx×List Ch):Prop:=p.1.length<2^60/\p.2.length<2^60/\(∀ j,j<p.1.length->zcp (p.1.getD j Fx.nil))/\∀ j,j<p.2.length->Yi (p.2.getD j Ch.nil)
end Go.Proofs.Tryz
end
section
namespace Go.Sx
variable [Stat]
open Go.RowKit (Below)
def E0:Nat->Prop:=Own (λ_=>False) []
theorem U1(b:Nat):¬ E0 b:=by
 rintro(h | ⟨e,he,_⟩)
 ·exact h
 ·simp at he
def Tw(P:Program)(W:World)(t:TypeId)(cs:List Value):Prop:=∃ (H:Type) (enc:TypeId×Value->H) (base fuel:Nat) (d:DataW H) (ps:List MemPlace),DataW.trod enc P W base (λ_=>true) true fuel t cs=some (d,ps)/\∀ n∈d.weights P t,n<=reachBytes
section
variable {P:Program} {W:World} {t e:TypeId} {cs:List Value}
theorem kV(ht:P.underlying t=some .string)(h:Tw P W t cs):∃ s:L8,cs=[.string ⟨s.toArray⟩]/\s.length<=reachBytes:=by
 obtain⟨H,enc,base,fuel,d,ps,h,hw⟩:=h;obtain⟨s,rfl,hx,_⟩:=DataW.trod_string ht h;cases hx;exact⟨s.data.toList,by simp,hw _ (by simp [DataW.weights])⟩
theorem zba{k:IntKind}(ht:P.underlying t=some (.int k))(h:Tw P W t cs):∃ n,cs=[.int k n]/\(Lit.int k n).wf=true:=by
 obtain⟨H,enc,base,fuel,d,ps,h,hw⟩:=h;obtain⟨n,rfl,hx,hwf⟩:=DataW.trod_int ht h;exact⟨n,rfl,hwf⟩
theorem zq6(ht:P.underlying t=some .bool)(h:Tw P W t cs):∃ b,cs=[.bool b]:=by
 obtain⟨H,enc,base,fuel,d,ps,h,hw⟩:=h;obtain⟨b,rfl,hx⟩:=DataW.trod_bool ht h;exact⟨b,rfl⟩
theorem yR{fs:Array Field}(ht:P.underlying t=some (.struct fs))(h:Tw P W t cs):cs.length=P.cellsOf t/\∀ (i:Nat) (f:Field),fs[i]?=some f->Tw P W f.type ((cs.drop f.offset).take (P.cellsOf f.type)):=by
 obtain⟨H,enc,base,fuel,d,ps,h,hw⟩:=h;obtain⟨xs,n,_,hx,hl,hlen,hf⟩:=DataW.trod_struct ht h;cases hx;refine⟨hl,λi f hfi=> ?_⟩;have hi:=hf i f hfi
 have hlt:i<xs.length:=by
  rw [hlen]; exact(aQ.1 hfi).1
 rw [aF hlt] at hi;refine⟨H,enc,base,n,xs[i].1,xs[i].2,hi,λm hm=>hw m ?_⟩;simp only [DataW.weights,ht];exact DataW.weights_mem_each (j:=i) (t:=f.type) (d:=xs[i].1) (by simp [hfi]) (by simp [hlt]) m hm
theorem yw{H:Type}{d:DataW H} : ∀ {l:List (DataW H)},d∈l->∀ n∈d.weights P e,n∈DataW.weightsAll P e l
 | x::l,hd,n,hn=>by
  simp only [DataW.weightsAll,bZ];rcases aM.1 hd with rfl | hd
  ·exact .inl hn
  ·exact .inr (yw hd n hn)
theorem zll(ht:P.underlying t=some (.slice e))(h:Tw P W t cs):cs=[.slice none 0 0]\/∃ (a:Addr) (len cap:Nat),cs=[.slice (some a) len cap]/\len<=cap/\cap*P.bytesOf e<=reachBytes /\
  ∀ i,i<len->∃ cs',cs'.length=P.cellsOf e/\(∀ o,o<P.cellsOf e->W.cell? ((a.add (i*P.cellsOf e)).add o)=cs'[o]?)/\Tw P W e cs':=by
 obtain⟨H,enc,base,fuel,d,ps,h,hw⟩:=h;rcases DataW.trod_slice ht h with ⟨rfl,_⟩ | ⟨a,len,cap,elems,rest,n,_,rfl,hx,hb,hl,hm,hlen,hel,hsp,_⟩
 ·exact .inl rfl
 ·right;cases hx;obtain⟨hrl,_⟩:=hsp rfl;simp only [DataW.weights,ht] at hw;refine⟨a,len,cap,rfl,hl,?_,λi hi=> ?_⟩
  ·have:=hw _ (List.mem_cons_self);simp only [List.length_map,hlen,hrl] at this
   rwa [show len+(cap - len)=cap by omega] at this
  ·have h1:=hel i hi;have hlt:i<elems.length:=by rw [hlen]; exact hi
   rw [aF hlt,Option.bind_eq_some_iff] at h1;obtain⟨cs',h2,h3⟩:=h1;obtain⟨_,h4,h5⟩:=World.cells?_some h2;refine⟨cs',h4,h5,H,enc,base,n,elems[i].1,elems[i].2,h3,λm hm2=>hw m ?_⟩;simp only [aM,bZ];exact .inr (.inl (yw (d:=elems[i].1) (List.mem_map.2 ⟨elems[i],bK hlt,rfl⟩) m hm2))
theorem Vx{α:Type}(z:α)(cell:α->Nat->AV)(good:α->Prop){sz:Nat}(ht:P.underlying t=some (.slice e))(hsz:P.cellsOf e=sz)(hpos:0<sz)
  (hel:∀ cs',Tw P W e cs'->∃ x:α,good x/\∀ o,o<sz->∃ c,cs'[o]?=some c/\c.oneCell'=true/\Rep E0 W (cell x o) [] c) (h:Tw P W t cs) :
  ∃ (l:List α) (v:Value),cs=[v]/\(∀ x∈l,good x)/\l.length*P.bytesOf e<=reachBytes/\v.oneCell'=true/\Rep E0 W (.sl l.length sz λj=>cell (l.getD j z)) [] v:=by
 rcases zll ht h with rfl | ⟨a,len,cap,rfl,hl,hw,hx⟩
 ·refine⟨[],_,rfl,by simp,by simp,rfl,?_⟩;simp only [Rep];exact⟨none,0,rfl,aJ _,.inl rfl⟩
 ·rw [hsz] at hx
  have hx2:∀ i,∃ x:α,i<len->good x/\∀ o,o<sz->∃ c,W.cell? ((a.add (i*sz)).add o)=some c/\c.oneCell'=true/\Rep E0 W (cell x o) [] c:=λi=>by
   by_cases hi:i<len
   ·obtain⟨cs',h1,h2,h3⟩:=hx i hi;obtain⟨x,hg,hc⟩:=hel cs' h3
    exact⟨x,λ_=>⟨hg,λo ho=>by
     obtain⟨c,g1,g2,g3⟩:=hc o ho;exact⟨c,by rw [h2 o ho,g1],g2,g3⟩⟩⟩
   ·exact⟨z,λh=>absurd h hi⟩
  obtain⟨f,hf⟩:=Classical.axiomOfChoice hx2;have hgd:∀ j,j<len->((List.range len).map f).getD j z=f j:=λj hj=>by simp [List.getD,hj]
  refine⟨(List.range len).map f,_,rfl,λx hxm=> ?_,?_,rfl,?_⟩
  ·obtain⟨i,hi,rfl⟩:=List.mem_map.1 hxm;exact(hf i (List.mem_range.1 hi)).1
  ·simp only [List.length_map,List.length_range];exact bP (aT _ hl) hw
  ·simp only [Rep,List.length_map,List.length_range];refine⟨some a,cap,rfl,hl,?_⟩;rcases bC len with h0 | h0
   ·exact .inl h0
   ·right
    have hspot:a.spot=none:=by
     obtain⟨c,g1,_⟩:=(hf 0 h0).2 0 hpos;have:=World.cell?_spot g1;simpa [Addr.add] using this
    refine⟨a,rfl,hspot,λj o hj ho=>⟨U1 _,?_⟩⟩;obtain⟨c,g1,g2,g3⟩:=(hf j hj).2 o ho;refine⟨c,?_,g2,by rw [hgd j hj]; exact g3⟩;rw [<- g1];obtain⟨b,off,spot⟩:=a;simp only at hspot;subst hspot;congr 1;simp only [Addr.add];split<;>split<;>simp_all<;>omega
theorem zgw{g:Nat}{fn:Func}{c:Code}(hf:P.funcs[g]?=some fn)(hb:fn.body=some c) (hn:(fn.name == "runtime.NumGoroutine")=false) {ctr:Ctr} (hok:zd P g ctr) {args:List AV} {vals:List Value}
  (hspec:(ctr.spec args []).holds λr=>r=(.bool true,[])) (hr:RepL E0 W args [] vals) (hst:kA E0 W):Calls P g vals.toArray W λe W'=>e = .returned (.bool true)/\Below W.heap.size W W':=by
 have hn':¬ fn.name = "runtime.NumGoroutine" :=by simpa using hn
 have hg:Good (λ_=>False) W []:=⟨λb h=>h.elim,λi e ad he=>by simp at he,hst⟩;have hh:HRep (Own (λ_=>False) []) W [] []:=⟨rfl,λi j e f a b he=>by simp at he,λi e a he=>by simp at he,λi e b he=>by simp at he⟩;rcases hok args [] _ hspec (λ_=>rfl) (λ_=>False) W [] vals hg hh hr with ⟨_,h⟩ | ⟨v,w',h,_⟩
 ·refine h.mono ?_;rintro e W' ⟨v,rfl,r,hs,Z',hq,h1,_,_,_,_,hx⟩;cases hq;simp only [Rep] at h1;subst h1;exact⟨rfl,hx.os,hx.tape,hx.output,hx.size,λk hk=>hx.keep k hk λ⟨e,he,_⟩=>by simp at he⟩
 ·simp [callFunc,hf,hn',hb] at h
end
end Go.Sx
end
section
namespace Go.Sx
variable [Stat]
section
variable {P:Program} {W:World} {t e:TypeId} {cs:List Value}
theorem zj4{H:Type}{enc:TypeId×Value->H}{base:Nat}{sp:Nat->Bool}{held:Bool}{fuel:Nat}{kd:IntKind}{ps:List Int}{q:List MemPlace}(ht:P.underlying t=some (.slice e))(he:P.underlying e=some (.int kd))(hc:P.cellsOf e=1)(hne:ps≠[])
  (h:DataW.trod enc P W base sp held fuel t cs=some (.slice (ps.map λz=>.lit (.int kd z)) [],q)):∃ c,cs=[c]/\c.oneCell'=true/\Rep E0 W (.sl ps.length 1 λj _=>.int kd (ps.getD j 0)) [] c:=by
 obtain⟨a,cap,rfl,hl,hel⟩:=open_row ht hc h;refine⟨_,rfl,rfl,?_⟩;simp only [List.length_map] at hl
 have hv:∀ j,j<ps.length->W.cell? (a.add j)=some (.int kd (ps.getD j 0)):=λj hj=>by
  obtain⟨v,n,q',h1,h2⟩:=hel j (.lit (.int kd (ps.getD j 0))) (by simp [List.getD,hj]);obtain⟨m,h3,h4,_⟩:=DataW.trod_int he h2;simp only [List.cons.injEq,and_true] at h3;simp only [bE,DataW.lit.injEq,Lit.int.injEq,true_and] at h4;rw [h1,h3,h4.1]
 simp only [Rep,List.length_map];refine⟨some a,cap,rfl,hl,.inr ⟨a,rfl,?_,λj o hj ho=>⟨U1 _,.int kd (ps.getD j 0),?_,rfl,rfl⟩⟩⟩
 ·have:=World.cell?_spot (hv 0 (List.length_pos_iff.2 hne));simpa [Addr.add] using this
 ·have:o=0:=by omega
  subst this
  have hs:a.spot=none:=by
   have:=World.cell?_spot (hv 0 (List.length_pos_iff.2 hne));simpa [Addr.add] using this
  rw [<- hv j hj];obtain⟨b,off,spot⟩:=a;simp only at hs;subst hs;congr 1;simp only [Addr.add];split<;>simp_all
end
section
open Go.WideElems Go.ChangeMaps
variable {H:Type} {enc:TypeId×Value->H} {P:Program} {W:World} {base:Nat} {sp:Nat->Bool} {held:Bool}
theorem J0{x:Lit×DataW H} : ∀ {l:List (Lit×DataW H)},x∈l.foldr DataW.insert []↔x∈l
 | []=>Iff.rfl
 | y::l=>by rw [List.foldr_cons,mem_insert_iff,J0,aM]
theorem Xs{g:Nat}{t k e:TypeId}{kd:IntKind}{ag:Bool}{sz:Nat}{ks:List Int}{has:Int->Bool}{get:Int->Nat->AV}{fuel:Nat}{c:Value}{es0:List (Lit×DataW H)}{q:List MemPlace}
  (hg:(Stat.z g).isSome=true) (ht:P.underlying t=some (.map k e)) (hk:P.underlying k=some (.int kd)) (hc:W.cell? ⟨g,0,none⟩=some c) (hne:es0≠[])
  (h:DataW.trod enc P W base sp held fuel t [c]=some (.map es0,q))
  (hin:∀ (n:Int) (d:DataW H),(.int kd n,d)∈es0->has n=true/\∀ (v:Value) (m:Nat) (q:List MemPlace),v.formed P e=true->DataW.trod enc P W base sp held m e v.cells.toList=some (d,q) ->
   match ag with
   | true=>∃ vs:List Value,v = .agg vs.toArray/\vs.length=sz/\∀ o,o<sz->∃ c,vs[o]?=some c/\Rep E0 W (get n o) [] c
   | false=>Rep E0 W (get n 0) [] v)
  (hout:∀ n,has n=true->∃ d,(.int kd n,d)∈es0):Rep E0 W (.mp kd ag sz ks has get) [] c/\∀ b,c = .map (some b)->b<W.heap.size:=by
 rcases open_map ht h with ⟨_,hx⟩ | ⟨b,es,clock,n,_,hcs,hb,_,F,hx⟩
 ·simp at hx
 ·simp only [List.cons.injEq,and_true] at hcs;subst hcs;simp only [bE,DataW.map.injEq] at hx
  have hkey:∀ x∈es.toList,∃ (m:Int) (z:DataW H×List MemPlace),x.key = .int kd m/\elemAt enc P W base sp held n e x.val=some z/\(.int kd m,z.1)∈es0:=by
   intro x hxm;obtain⟨y,hy⟩:=F.reads x hxm;have h1:=rd_key hy;obtain⟨z,h2,h3⟩:=rd_val hy;have h4:y∈es0:=by rw [hx.1,J0]; exact List.mem_map.2 ⟨x,hxm,rg_of hy⟩
   have h5:mapKey P k x.key=some y.1:=by
    simp only [keyOf,hk] at h1;exact h1
   unfold mapKey at h5;rw [hk] at h5;cases hxk:x.key with
   | int k' m=>
    rw [hxk] at h5;simp only at h5;split at h5
    ·rename_i hc2;have h6:=Option.some.inj h5;obtain⟨rfl,_⟩:=hc2;refine⟨m,z,rfl,h2,?_⟩;rw [h6,<- h3]; exact h4
    ·cases h5
   | _=>rw [hxk] at h5; simp at h5
  have hlt:b<W.heap.size:=(aQ.1 hb).1;refine⟨?_,λb' hb'=>by cases hb'; exact hlt⟩;simp only [Rep];refine⟨b,es,clock,rfl,U1 _,⟨g,U1 _,hg,hc⟩,hb,λm=> ?_⟩
  have hspec:=MapKept.findNow_spec (d:=.int kd) (k:=.int kd m) (by simp [MapKept.IsKey]) es.toList 0 (λx hxm=>by
   obtain⟨m',z,h1,_⟩:=hkey x hxm;rw [h1]; simp [MapKept.IsKey])
  rcases hspec with ⟨h1,h2⟩ | ⟨j,x,h1,h2,h3⟩
  ·refine⟨λ_=>h1,λhm=> ?_⟩;obtain⟨d,hd⟩:=hout m hm;rw [hx.1,J0] at hd;obtain⟨x,hxm,hrx⟩:=List.mem_map.1 hd;obtain⟨y,hy⟩:=F.reads x hxm;rw [rg_of hy] at hrx;have h5:=rd_key hy;rw [hrx] at h5;obtain⟨m',z,g1,_⟩:=hkey x hxm
   have:keyOf P k x.key=some (.int kd m'):=by
    rw [g1] at h5 ⊢;simp only [keyOf,hk,mapKey] at h5 ⊢;split at h5
    ·rename_i hwf; rw [aP hwf]
    ·cases h5
   rw [this] at h5;cases h5;exact absurd g1 (h2 x hxm)
  ·have hxm:x∈es.toList:=aY h2;obtain⟨m',z,g1,g2,g3⟩:=hkey x hxm;rw [h3] at g1;cases g1;obtain⟨hh,hrep⟩:=hin m z.1 g3;refine⟨λhf=>(by rw [hf] at hh; cases hh),λ_=>⟨_,x.val,h1,?_⟩⟩;unfold elemAt at g2;split at g2
   ·rename_i hfm;exact hrep x.val n z.2 hfm g2
   ·cases g2
end
end Go.Sx
end
section
set_option maxRecDepth 100000
namespace Go.Proofs.YtpnllbdffdpoaaaGreatDoor
open Go Go.Sx Go.Nov Go.Proofs.Tryz Go.ChangeShapes Go.WideShapes Go.ChangeAt Go.RowKit
theorem ve:Tryz.prog.cellsOf 9=1:=by kernel_rfl
theorem ZZ:Tryz.prog.cellsOf 22=1:=by kernel_rfl
theorem K4:Tryz.prog.cellsOf 3=1:=by kernel_rfl
theorem UX:Tryz.prog.cellsOf 4=1:=by kernel_rfl
theorem YO:Tryz.prog.cellsOf 70=3:=by kernel_rfl
theorem Ug:Tryz.prog.cellsOf 72=4:=by kernel_rfl
theorem zne:Tryz.prog.cellsOf 25=1:=by kernel_rfl
theorem zho:Tryz.prog.cellsOf 26=1:=by kernel_rfl
theorem zgk:Tryz.prog.cellsOf 28=2:=by kernel_rfl
def ziu(x:Fx):Prop:=x.name.length<=reachBytes/\x.value.length<=reachBytes
def zng(x:Ch):Prop:=x.zN.length<=reachBytes/\x.name.length<=reachBytes
theorem zls{W:World}{cs:List Value}(h:Tw Tryz.prog W 70 cs):∃ x:Fx,ziu x/\cs=[.string ⟨x.name.toArray⟩,.i x.date,.string ⟨x.value.toArray⟩]:=by
 obtain⟨hl,hf⟩:=yR Tryz.underlying70 h;rw [YO] at hl
 match cs,hl with
 | [a,b,c],_=>
  have h0:Tw Tryz.prog W 9 (([a,b,c].drop 0).take (Tryz.prog.cellsOf 9)):=hf 0 _ rfl;rw [ve] at h0;replace h0:Tw Tryz.prog W 9 [a]:=h0;have h1:Tw Tryz.prog W 3 (([a,b,c].drop 1).take (Tryz.prog.cellsOf 3)):=hf 1 _ rfl;rw [K4] at h1;replace h1:Tw Tryz.prog W 3 [b]:=h1;have h2:Tw Tryz.prog W 22 (([a,b,c].drop 2).take (Tryz.prog.cellsOf 22)):=hf 2 _ rfl;rw [ZZ] at h2;replace h2:Tw Tryz.prog W 22 [c]:=h2;obtain⟨s,e0,w0⟩:=kV Tryz.underlying9 h0;obtain⟨n,e1,w1⟩:=zba Tryz.underlying3 h1;obtain⟨u,e2,w2⟩:=kV Tryz.underlying22 h2;cases e0; cases e1; cases e2;exact⟨⟨s,n,u⟩,⟨w0,w2⟩,rfl⟩
theorem zk8{W:World}{cs:List Value}(h:Tw Tryz.prog W 72 cs):∃ x:Ch,zng x/\cs=[.string ⟨x.zN.toArray⟩,.string ⟨x.name.toArray⟩,.i x.date,.bool x.first]:=by
 obtain⟨hl,hf⟩:=yR Tryz.underlying72 h;rw [Ug] at hl
 match cs,hl with
 | [a,b,c,d],_=>
  have h0:Tw Tryz.prog W 9 (([a,b,c,d].drop 0).take (Tryz.prog.cellsOf 9)):=hf 0 _ rfl;rw [ve] at h0;replace h0:Tw Tryz.prog W 9 [a]:=h0;have h1:Tw Tryz.prog W 9 (([a,b,c,d].drop 1).take (Tryz.prog.cellsOf 9)):=hf 1 _ rfl;rw [ve] at h1;replace h1:Tw Tryz.prog W 9 [b]:=h1;have h2:Tw Tryz.prog W 3 (([a,b,c,d].drop 2).take (Tryz.prog.cellsOf 3)):=hf 2 _ rfl;rw [K4] at h2;replace h2:Tw Tryz.prog W 3 [c]:=h2;have h3:Tw Tryz.prog W 4 (([a,b,c,d].drop 3).take (Tryz.prog.cellsOf 4)):=hf 3 _ rfl;rw [UX] at h3;replace h3:Tw Tryz.prog W 4 [d]:=h3;obtain⟨s,e0,w0⟩:=kV Tryz.underlying9 h0;obtain⟨u,e1,w1⟩:=kV Tryz.underlying9 h1;obtain⟨n,e2,w2⟩:=zba Tryz.underlying3 h2;obtain⟨b,e3⟩:=zq6 Tryz.underlying4 h3;cases e0; cases e1; cases e2; cases e3;exact⟨⟨s,u,n,b⟩,⟨w0,w1⟩,rfl⟩
theorem zez{W:World}{cs:List Value}(h:Tw Tryz.prog W 28 cs):∃ (f:List Fx) (c:List Ch) (u v:Value),cs=[u,v]/\(∀ x∈f,ziu x)/\(∀ x∈c,zng x)/\f.length*40<=reachBytes/\c.length*48<=reachBytes/\Rep E0 W (fxS f) [] u/\Rep E0 W (chS c) [] v:=by
 obtain⟨hl,hf⟩:=yR Tryz.underlying28 h;rw [zgk] at hl
 match cs,hl with
 | [a,b],_=>
  have h0:Tw Tryz.prog W 25 (([a,b].drop 0).take (Tryz.prog.cellsOf 25)):=hf 0 _ rfl;rw [zne] at h0;replace h0:Tw Tryz.prog W 25 [a]:=h0;have h1:Tw Tryz.prog W 26 (([a,b].drop 1).take (Tryz.prog.cellsOf 26)):=hf 1 _ rfl;rw [zho] at h1;replace h1:Tw Tryz.prog W 26 [b]:=h1
  obtain⟨f,u,e0,gf,wf,_,rf⟩:=Vx Fx.nil Fx.cell ziu Tryz.underlying25 YO (by decide) (λcs' h'=>by
   obtain⟨x,hx,rfl⟩:=zls h';refine⟨x,hx,λo ho=> ?_⟩
   match o,ho with
   | 0,_=>exact⟨_,rfl,rfl,by simp [Fx.cell,Rep]⟩
   | 1,_=>exact⟨_,rfl,rfl,by simp [Fx.cell,Rep]⟩
   | 2,_=>exact⟨_,rfl,rfl,by simp [Fx.cell,Rep]⟩) h0
  obtain⟨c,v,e1,gc,wc,_,rc⟩:=Vx Ch.nil Ch.cell zng Tryz.underlying26 Ug (by decide) (λcs' h'=>by
   obtain⟨x,hx,rfl⟩:=zk8 h';refine⟨x,hx,λo ho=> ?_⟩
   match o,ho with
   | 0,_=>exact⟨_,rfl,rfl,by simp [Ch.cell,Rep]⟩
   | 1,_=>exact⟨_,rfl,rfl,by simp [Ch.cell,Rep]⟩
   | 2,_=>exact⟨_,rfl,rfl,by simp [Ch.cell,Rep]⟩
   | 3,_=>exact⟨_,rfl,rfl,by simp [Ch.cell,Rep]⟩) h1
  cases e0; cases e1;have b1:Tryz.prog.bytesOf 70=40:=by kernel_rfl
  have b2:Tryz.prog.bytesOf 72=48:=by kernel_rfl
  rw [b1] at wf;rw [b2] at wc;exact⟨f,c,_,_,rfl,gf,gc,wf,wc,rf,rc⟩
theorem zqh{W:World}{cs:List Value}(h:Tw Tryz.prog W 28 cs):∃ p:List Fx×List Ch,zu0 p/\Rep E0 W (envA p.1 p.2) [] (.agg cs.toArray):=by
 obtain⟨f,c,u,v,rfl,gf,gc,wf,wc,rf,rc⟩:=zez h;have hr:=reachBytes_lt;refine⟨(f,c),⟨by show f.length<_; omega,by show c.length<_; omega,λj hj=> ?_,λj hj=> ?_⟩,?_⟩
 ·have:=gf (f.getD j Fx.nil) (by simp only at hj; simp [List.getD,hj]);exact⟨by have:=this.1; show(f.getD j Fx.nil).name.length<_; omega,by have:=this.2; show(f.getD j Fx.nil).value.length<_; omega⟩
 ·have:=gc (c.getD j Ch.nil) (by simp only at hj; simp [List.getD,hj]);exact⟨by have:=this.1; show(c.getD j Ch.nil).zN.length<_; omega,by have:=this.2; show(c.getD j Ch.nil).name.length<_; omega⟩
 ·simp only [RepL,Rep,envA];exact⟨[u,v],rfl,u,_,rfl,rf,v,_,rfl,rc,rfl⟩
theorem zck{W:World}{cs:List Value}(h:Tw Tryz.prog W 3 cs):∃ n:Int,cs=[.i n]/\inR .i64 n/\Rep E0 W (.i n) [] (.i n):=by
 obtain⟨n,rfl,hn⟩:=zba Tryz.underlying3 h;refine⟨n,rfl,?_,by simp [Rep]⟩;simp only [Lit.wf,bA,aK] at hn;exact hn
theorem zb9:Tryz.prog.cellsOf 24=6:=by kernel_rfl
theorem zha{W:World}{cs:List Value}(h:Tw Tryz.prog W 24 cs):∃ x:Deal,True/\Rep E0 W x.av [] (.agg cs.toArray):=by
 obtain⟨hl,hf⟩:=yR Tryz.underlying24 h;rw [zb9] at hl
 match cs,hl with
 | [a,b,c,d,e,f],_=>
  have h0:Tw Tryz.prog W 9 (([a,b,c,d,e,f].drop 0).take (Tryz.prog.cellsOf 9)):=hf 0 _ rfl;rw [ve] at h0;replace h0:Tw Tryz.prog W 9 [a]:=h0;have h1:Tw Tryz.prog W 9 (([a,b,c,d,e,f].drop 1).take (Tryz.prog.cellsOf 9)):=hf 1 _ rfl;rw [ve] at h1;replace h1:Tw Tryz.prog W 9 [b]:=h1;have h2:Tw Tryz.prog W 9 (([a,b,c,d,e,f].drop 2).take (Tryz.prog.cellsOf 9)):=hf 2 _ rfl;rw [ve] at h2;replace h2:Tw Tryz.prog W 9 [c]:=h2;have h3:Tw Tryz.prog W 9 (([a,b,c,d,e,f].drop 3).take (Tryz.prog.cellsOf 9)):=hf 3 _ rfl;rw [ve] at h3;replace h3:Tw Tryz.prog W 9 [d]:=h3;have h4:Tw Tryz.prog W 22 (([a,b,c,d,e,f].drop 4).take (Tryz.prog.cellsOf 22)):=hf 4 _ rfl;rw [ZZ] at h4;replace h4:Tw Tryz.prog W 22 [e]:=h4;have h5:Tw Tryz.prog W 22 (([a,b,c,d,e,f].drop 5).take (Tryz.prog.cellsOf 22)):=hf 5 _ rfl;rw [ZZ] at h5;replace h5:Tw Tryz.prog W 22 [f]:=h5;obtain⟨x0,y0,w0⟩:=kV Tryz.underlying9 h0;obtain⟨x1,y1,w1⟩:=kV Tryz.underlying9 h1;obtain⟨x2,y2,w2⟩:=kV Tryz.underlying9 h2;obtain⟨x3,y3,w3⟩:=kV Tryz.underlying9 h3;obtain⟨x4,y4,w4⟩:=kV Tryz.underlying22 h4;obtain⟨x5,y5,w5⟩:=kV Tryz.underlying22 h5;cases y0; cases y1; cases y2; cases y3; cases y4; cases y5;refine⟨⟨x0,x1,x2,x3,x4,x5⟩,trivial,?_⟩;simp only [RepL,Rep,Deal.av];exact⟨_,rfl,_,_,rfl,rfl,_,_,rfl,rfl,_,_,rfl,rfl,_,_,rfl,rfl,_,_,rfl,rfl,_,_,rfl,rfl,rfl⟩
theorem Uy:Tryz.prog.cellsOf 220=1:=by kernel_rfl
theorem zni:Tryz.prog.cellsOf 239=1:=by kernel_rfl
theorem zlu:Tryz.prog.cellsOf 241=2:=by kernel_rfl
def shpE(H:Type):List (Lit×DataW H):=shpL.map λp=>(.int .u8 p.1,.agg [.slice (p.2.1.map λz=>.lit (.int .u8 z)) [],.lit (.int .u8 p.2.2)])
theorem znq:∀ p∈shpL,ur p.1=some p.2/\p.2.1≠[]:=by decide
theorem zo9{k:Int}(h:qH k=true):∃ q,(k,q)∈shpL:=by
 unfold qH ur at h;rw [Option.isSome_map] at h;obtain⟨p,hp⟩:=Option.isSome_iff_exists.1 h;have h1:=List.find?_some hp;have h2:=List.mem_of_find?_eq_some hp;have:p.1=k:=by simpa using h1
 exact⟨p.2,by rw [<- this]; exact h2⟩
theorem za1{W:World}{cs:List Value}{fuel:Nat}{q:List MemPlace}{c:Value}(hc:W.cell? ⟨2,0,none⟩=some c)
  (h:DataW.trod (λ_=>()) Tryz.prog W 0 (λ_=>true) false fuel 243 [c]=some (.map (shpE Unit),q)) :
  Rep E0 W (.mp .u8 true 2 [] (λk=>qH k) λk o=>match o with
   | 0=>.sl (jC k) 1 λj _=>.int .u8 (qL k j)
   | _=>.int .u8 (jk k)) [] c/\∀ b,c = .map (some b)->b<W.heap.size:=by
 refine Xs (g:=2) rfl Tryz.underlying243 Tryz.underlying5 hc (by decide) h ?_ ?_
 ·intro n d hd;obtain⟨p,hp,he⟩:=List.mem_map.1 hd;obtain⟨h1,h2⟩:=znq p hp;simp only [bE,Lit.int.injEq,true_and] at he;obtain⟨rfl,rfl⟩:=he;refine⟨by simp [qH,h1],λv m q' hf ht=> ?_⟩;obtain⟨xs,n',_,hx,hl,hlen,hfs⟩:=DataW.trod_struct Tryz.underlying241 ht;rw [zlu] at hl;cases v with
  | agg cs=>
   simp only [Value.cells] at hl hfs;obtain⟨cs⟩:=cs;simp only at hl hfs
   match cs,hl with
   | [a,b],_=>
    have f0:DataW.trod _ Tryz.prog W 0 _ false n' 239 (([a,b].drop 0).take (Tryz.prog.cellsOf 239))=xs[0]?:=hfs 0 _ rfl;have f1:DataW.trod _ Tryz.prog W 0 _ false n' 220 (([a,b].drop 1).take (Tryz.prog.cellsOf 220))=xs[1]?:=hfs 1 _ rfl;rw [zni] at f0;rw [Uy] at f1
    match xs,hlen with
    | [x0,x1],_=>
     simp only [List.map_cons,List.map_nil,bE,DataW.agg.injEq,List.cons.injEq,and_true] at hx;obtain⟨⟨hx0,hx1⟩,_⟩:=hx;have f0:DataW.trod _ Tryz.prog W 0 _ false n' 239 [a]=some x0:=f0;have f1:DataW.trod _ Tryz.prog W 0 _ false n' 220 [b]=some x1:=f1;obtain⟨x0a,x0b⟩:=x0;obtain⟨x1a,x1b⟩:=x1;simp only at hx0 hx1;subst hx0; subst hx1;obtain⟨c0,e0,_,hr⟩:=zj4 Tryz.underlying239 Tryz.underlying220 Uy h2 f0;cases e0;obtain⟨z,e1,e2,_⟩:=DataW.trod_int Tryz.underlying220 f1;cases e1;simp only [bE,DataW.lit.injEq,Lit.int.injEq,true_and] at e2;refine⟨[a,.int .u8 z],rfl,rfl,λo ho=> ?_⟩;have g1:qt p.1=p.2.1:=by simp [qt,h1]
     have g2:jk p.1=p.2.2:=by simp [jk,h1]
     match o,ho with
     | 0,_=>
      refine⟨a,rfl,?_⟩;show Rep E0 W (.sl (jC p.1) 1 λj _=>.int .u8 (qL p.1 j)) [] a;unfold jC qL;rw [g1];exact hr
     | 1,_=>
      refine⟨_,rfl,?_⟩;show Rep E0 W (.int .u8 (jk p.1)) [] _;simp only [Rep];rw [g2,e2.1]
  | _=>simp [Value.formed,Tryz.underlying241] at hf
 ·intro n hn;obtain⟨q',hq⟩:=zo9 hn;exact⟨_,List.mem_map.2 ⟨_,hq,rfl⟩⟩
theorem zp4:Tryz.prog.globalNamed "novation/observable.shapes" = some 2:=by kernel_rfl
theorem zqd:(Tryz.prog.globals[2]?).map (·.type)=some 243:=by kernel_rfl
theorem zo2:(Rows.laid_novation_observable_shapes:DataW Unit) = .map (shpE Unit):=rfl
theorem ztf:Tryz.prog.globalNamed "novation/contract.parts" = some 0:=by kernel_rfl
theorem zs9:(Tryz.prog.globals[0]?).map (·.type)=some 199:=by kernel_rfl
def prtE:List (Lit×DataW Unit):=[(.int .u8 1,.lit (.int .i64 0)),(.int .u8 2,.lit (.int .i64 15)),(.int .u8 3,.lit (.int .i64 256)),(.int .u8 4,.lit (.int .i64 136)),(.int .u8 5,.lit (.int .i64 272)),(.int .u8 6,.lit (.int .i64 160)),(.int .u8 7,.lit (.int .i64 261)),(.int .u8 8,.lit (.int .i64 197)),(.int .u8 9,.lit (.int .i64 208)),(.int .u8 10,.lit (.int .i64 208))]
theorem zl3:(Rows.laid_novation_contract_parts:DataW Unit) = .map prtE:=rfl
abbrev KI:List (String×DataW Unit):=[("novation/observable.shapes",Rows.laid_novation_observable_shapes),("novation/observable.operations",Rows.laid_novation_observable_operations),("novation/contract.parts",Rows.laid_novation_contract_parts)]
theorem zfi{W:World}{cs:List Value}{fuel:Nat}{q:List MemPlace}{c:Value}(hc:W.cell? ⟨0,0,none⟩=some c)
  (h:DataW.trod (λ_=>()) Tryz.prog W 0 (λ_=>true) false fuel 199 [c]=some (.map prtE,q)) :
  Rep E0 W (.mp .u8 false 1 [] (λk=>decide (1<=k/\k<=10)) λk _=>.i (kT k)) [] c/\∀ b,c = .map (some b)->b<W.heap.size:=by
 refine Xs (g:=0) rfl Tryz.underlying199 Tryz.underlying5 hc (by decide) h ?_ ?_
 ·intro n d hd
  have one:∀ {v:Value} {m:Nat} {q:List MemPlace} {z:Int},v.formed Tryz.prog 3=true->DataW.trod (λ_=>()) Tryz.prog W 0 (λ_=>true) false m 3 v.cells.toList=some (.lit (.int .i64 z),q)->Rep E0 W (.i z) [] v:=by
   intro v m q z hf ht
   have hcell:v.cells.toList=[v]:=by
    cases v with
    | agg _=>simp [Value.formed,Tryz.underlying3] at hf
    | _=>rfl
   rw [hcell] at ht;obtain⟨z',e1,e2,_⟩:=DataW.trod_int Tryz.underlying3 ht;cases e1;simp only [bE,DataW.lit.injEq,Lit.int.injEq,true_and] at e2;simp only [Rep];rw [e2.1]
  simp only [prtE,aM,bE,Lit.int.injEq,true_and,List.not_mem_nil,or_false] at hd;rcases hd with ⟨rfl,rfl⟩ | ⟨rfl,rfl⟩ | ⟨rfl,rfl⟩ | ⟨rfl,rfl⟩ | ⟨rfl,rfl⟩ | ⟨rfl,rfl⟩ | ⟨rfl,rfl⟩ | ⟨rfl,rfl⟩ | ⟨rfl,rfl⟩ | ⟨rfl,rfl⟩<;>exact⟨rfl,λv m q hf ht=>one hf ht⟩
 ·intro n hn;have hn:=aB hn;have:n=1\/n=2\/n=3\/n=4\/n=5\/n=6\/n=7\/n=8\/n=9\/n=10:=by omega
  rcases this with rfl | rfl | rfl | rfl | rfl | rfl | rfl | rfl | rfl | rfl<;>exact⟨_,by unfold prtE; simp; rfl⟩
theorem zk2{W:World} (h:laidMet Tryz.prog [("novation/observable.shapes",Rows.laid_novation_observable_shapes),("novation/contract.parts",Rows.laid_novation_contract_parts)] W):(∃ c,W.cell? ⟨2,0,none⟩=some c /\
  Rep E0 W (.mp .u8 true 2 [] (λk=>qH k) λk o=>match o with
   | 0=>.sl (jC k) 1 λj _=>.int .u8 (qL k j)
   | _=>.int .u8 (jk k)) [] c/\∀ b,c = .map (some b)->b<W.heap.size)/\∃ c,W.cell? ⟨0,0,none⟩=some c /\
  Rep E0 W (.mp .u8 false 1 [] (λk=>decide (1<=k/\k<=10)) λk _=>.i (kT k)) [] c/\∀ b,c = .map (some b)->b<W.heap.size:=by
 obtain⟨ps,⟨g0,t0,cs0,f0,p0,q0,hg0,ht0,hv0,hd0,hr0,_⟩,_,_⟩:=h;obtain⟨g1,t1,cs1,f1,p1,q1,hg1,ht1,hv1,hd1,_,_⟩:=hr0;obtain rfl:=Option.some.inj (zp4.symm.trans hg0);obtain rfl:=Option.some.inj (zqd.symm.trans ht0);obtain rfl:=Option.some.inj (ztf.symm.trans hg1);obtain rfl:=Option.some.inj (zs9.symm.trans ht1);rw [zo2] at hd0;rw [zl3] at hd1
 have hone:∃ c,cs0.toList=[c]:=by
  rcases Go.WideElems.open_map Tryz.underlying243 hd0 with ⟨hcs,_⟩ | ⟨b,es,clock,n,_,hcs,_⟩
  ·exact⟨_,hcs⟩
  ·exact⟨_,hcs⟩
 have hone1:∃ c,cs1.toList=[c]:=by
  rcases Go.WideElems.open_map Tryz.underlying199 hd1 with ⟨hcs,_⟩ | ⟨b,es,clock,n,_,hcs,_⟩
  ·exact⟨_,hcs⟩
  ·exact⟨_,hcs⟩
 obtain⟨c,hcs⟩:=hone;obtain⟨c',hcs'⟩:=hone1;rw [hcs] at hd0;rw [hcs'] at hd1
 have k1:W.cell? ⟨2,0,none⟩=some c:=by
  have:=World.var?_cell hg0 hv0 0;rw [Array.eq_one_of_toList hcs] at this;simpa using this
 have k2:W.cell? ⟨0,0,none⟩=some c':=by
  have:=World.var?_cell hg1 hv1 0;rw [Array.eq_one_of_toList hcs'] at this;simpa using this
 obtain⟨r1,b1⟩:=za1 (cs:=[c]) k1 hd0;obtain⟨r2,b2⟩:=zfi (cs:=[c']) k2 hd1;exact⟨⟨c,k1,r1,b1⟩,c',k2,r2,b2⟩
theorem gOps:Tryz.prog.globalNamed "novation/observable.operations" = some 1:=by kernel_rfl
theorem tOps:(Tryz.prog.globals[1]?).map (·.type)=some 236:=by kernel_rfl
def opNm(b:L8):L8:=[40,42,110,111,118,97,116,105,111,110,47,111,98,115,101,114,118,97,98,108,101,46,115,116,97,116,101,41,46]++b
def opEs:List (Lit×DataW L8):=[(.int .u8 4,.held (opNm [97,100,100])),(.int .u8 5,.held (opNm [115,117,98])),(.int .u8 6,.held (opNm [109,117,108])),(.int .u8 7,.held (opNm [103,114,101,97,116,101,114])),(.int .u8 8,.held (opNm [115,109,97,108,108,101,114]))]
def opsD:DataW Unit:=.map [(.int .u8 4,.iface "func" (.lit (.string (opNm [97,100,100])))),(.int .u8 5,.iface "func" (.lit (.string (opNm [115,117,98])))),(.int .u8 6,.iface "func" (.lit (.string (opNm [109,117,108])))),(.int .u8 7,.iface "func" (.lit (.string (opNm [103,114,101,97,116,101,114])))),(.int .u8 8,.iface "func" (.lit (.string (opNm [115,109,97,108,108,101,114]))))]
theorem zpu:(Rows.laid_novation_observable_operations:DataW Unit) = .iface "func table" opsD:=rfl
theorem zkp:opsD.funcsOut = .map opEs:=rfl
theorem zp1{W:World}{cs:List Value}{fuel:Nat}{q:List MemPlace}{c:Value}(hc:W.cell? ⟨1,0,none⟩=some c)
  (h:DataW.trod (funcToken Tryz.prog) Tryz.prog W 0 (λ_=>true) true fuel 236 [c]=some (.map opEs,q)) :
  Rep E0 W (.mp .u8 false 1 [4,5,6,7,8] (λk=>decide (4<=k/\k<=8)) λk _=>
  if k=4 then .fn 201 [] [] else if k=5 then .fn 202 [] [] else if k=6 then .fn 203 [] []
  else if k=7 then .fn 204 [] [] else .fn 205 [] []) [] c/\∀ b,c = .map (some b)->b<W.heap.size:=by
 refine Xs (g:=1) rfl Tryz.underlying236 Tryz.underlying5 hc (by decide) h ?_ ?_
 ·intro n d hd
  have one:∀ {v:Value} {m:Nat} {q:List MemPlace} {bs:L8} {f0:Nat},((List.range Tryz.prog.funcs.size).filter λf=>(Tryz.prog.funcs[f]?).any (·.name.toUTF8.data.toList == 40::bs))=[f0] ->
    v.formed Tryz.prog 235=true->DataW.trod (funcToken Tryz.prog) Tryz.prog W 0 (λ_=>true) true m 235 v.cells.toList=some (.held (40::bs),q)->Rep E0 W (.fn f0 [] []) [] v:=by
   intro v m q bs f0 hone hf ht
   have hcell:v.cells.toList=[v]:=by
    cases v with
    | agg _=>simp [Value.formed,Tryz.underlying235] at hf
    | _=>rfl
   rw [hcell] at ht;have:=func_of_trod Tryz.underlying235 hone ht;subst this;simp [Rep,RepL]
  simp only [opEs,aM,bE,Lit.int.injEq,true_and,List.not_mem_nil,or_false] at hd;rcases hd with ⟨rfl,rfl⟩ | ⟨rfl,rfl⟩ | ⟨rfl,rfl⟩ | ⟨rfl,rfl⟩ | ⟨rfl,rfl⟩
  ·exact⟨rfl,λv m q hf ht=>one (f0:=201) (by kernel_rfl) hf ht⟩
  ·exact⟨rfl,λv m q hf ht=>one (f0:=202) (by kernel_rfl) hf ht⟩
  ·exact⟨rfl,λv m q hf ht=>one (f0:=203) (by kernel_rfl) hf ht⟩
  ·exact⟨rfl,λv m q hf ht=>one (f0:=204) (by kernel_rfl) hf ht⟩
  ·exact⟨rfl,λv m q hf ht=>one (f0:=205) (by kernel_rfl) hf ht⟩
 ·intro n hn;have hn:=aB hn;have:n=4\/n=5\/n=6\/n=7\/n=8:=by omega
  rcases this with rfl | rfl | rfl | rfl | rfl
  ·exact⟨_,.head _⟩
  ·exact⟨_,.tail _ (.head _)⟩
  ·exact⟨_,.tail _ (.tail _ (.head _))⟩
  ·exact⟨_,.tail _ (.tail _ (.tail _ (.head _)))⟩
  ·exact⟨_,.tail _ (.tail _ (.tail _ (.tail _ (.head _))))⟩
theorem zol{W:World}(h:laidMetH Tryz.prog KI W):kA E0 W:=by
 have h1:laidMet Tryz.prog [("novation/observable.shapes",Rows.laid_novation_observable_shapes),("novation/contract.parts",Rows.laid_novation_contract_parts)] W:=h.1;have h2:=laidMetH.funcs h (n:= "novation/observable.operations") (d:=opsD) (by simp [KI,zpu]);obtain⟨⟨c1,k1,r1,b1⟩,c3,k3,r3,b3⟩:=zk2 h1;obtain⟨g0,t0,cs0,f0,p0,hg0,ht0,hv0,hd0⟩:=h2;obtain rfl:=Option.some.inj (gOps.symm.trans hg0);obtain rfl:=Option.some.inj (tOps.symm.trans ht0);rw [zkp] at hd0
 have hone:∃ c,cs0.toList=[c]:=by
  rcases Go.WideElems.open_map Tryz.underlying236 hd0 with ⟨hcs,_⟩ | ⟨b,es,clock,n,_,hcs,_⟩
  ·exact⟨_,hcs⟩
  ·exact⟨_,hcs⟩
 obtain⟨c2,hcs⟩:=hone;rw [hcs] at hd0
 have k2:W.cell? ⟨1,0,none⟩=some c2:=by
  have:=World.var?_cell hg0 hv0 0;rw [Array.eq_one_of_toList hcs] at this;simpa using this
 obtain⟨r2,b2⟩:=zp1 (cs:=[c2]) k2 hd0;refine⟨λg a hz=>⟨U1 _,?_⟩⟩;by_cases hg:g=2
 ·subst hg;cases hz;exact⟨c1,k1,r1,b1⟩
 ·by_cases hg2:g=1
  ·subst hg2;cases hz;exact⟨c2,k2,r2,b2⟩
  ·by_cases hg3:g=0
   ·subst hg3;cases hz;exact⟨c3,k3,r3,b3⟩
   ·have:Stat.z g=none:=by
     show(if _ then _ else if _ then _ else if _ then _ else _)=_;rw [aO hg,aO hg3,aO hg2]
    rw [this] at hz; cases hz
theorem walk{W:World}{v0 v1 v2 v3:List Value}(h0:Tw Tryz.prog W 24 v0)(h1:Tw Tryz.prog W 3 v1)(h2:Tw Tryz.prog W 3 v2)(h3:Tw Tryz.prog W 28 v3)(hst:kA E0 W) :
  ∃ s1:Value,v1=[s1]/\∃ s2:Value,v2=[s2]/\Calls Tryz.prog 6 #[.agg v0.toArray,s1,s2,.agg v3.toArray] W λe W'=>e = .returned (.bool true)/\Below W.heap.size W W':=by
 obtain⟨d,dg,dr⟩:=zha h0;obtain⟨day,rfl,dayg,dayr⟩:=zck h1;obtain⟨from_,rfl,from_g,from_r⟩:=zck h2;obtain⟨v,vg,vr⟩:=zqh h3;refine⟨_,rfl,?_⟩;refine⟨_,rfl,?_⟩;refine zgw (fn:=Tryz.f6) (c:=Tryz.f6.body.getD .skip) rfl rfl rfl zlr (args:=[d.av,.i day,.i from_,envA v.1 v.2]) (vals:=[.agg v0.toArray,.i day,.i from_,.agg v3.toArray]) ?_ ?_ hst
 ·refine⟨⟨d,day,from_,v.1,v.2⟩,⟨?_,vg⟩,⟨true,rfl⟩,?_⟩
  ·simp [eqL,eqA,eqA0,eqL0,envA,fxS,chS,Fx.av,Ch.av,Ex.exA,Ex.exS,Deal.av,za]
  ·rintro _ rfl;rfl
 ·exact⟨_,_,rfl,dr,⟨_,_,rfl,dayr,⟨_,_,rfl,from_r,⟨_,_,rfl,vr,rfl⟩⟩⟩⟩
theorem own:ownKnob Tryz.prog.godebug=none:=by kernel_rfl
theorem laid:laidOutB Tryz.prog=true:=by kernel_rfl
theorem zhz(os:Os)(args:Array Value):laidMetH Tryz.prog KI ((World.doorLaid Tryz.prog 400 os).forCall (λ_ _=>0) ⟨#[],args,[]⟩).memory:=
 laidMetH_of_parts3 (fuel:=8) (laidMet_of_run' 8 (by kernel_rfl) (by kernel_rfl)) (by kernel_rfl) (by kernel_rfl)
theorem lifted(os:Os)(started:os.Started)(H:Type)(enc:TypeId×Value->H) :
  ReturnsInHanded {} Tryz.checked os 6 .any (λw args=>(Rows.templateParitySpec.pre enc Tryz.prog Tryz.f6 [] false w args/\laidMetH Tryz.prog KI w)/\sizedMet enc Tryz.prog Tryz.f6 (OpenSpec.ofChange Rows.templateParitySpec) false w args)
   (Rows.templateParitySpec.post enc Tryz.prog Tryz.f6 false true false false):=by
 refine returnsInHanded_of_change_and (C:=Tryz.checked) (X:=λw _=>laidMetH Tryz.prog KI w) (λ_ _ _ hh h=>h.of_heap hh) own started (by kernel_rfl) Tryz.func6
  (ChangeSpec.witness_shaped (enc:=enc) (C:=Tryz.checked) (os:=os) (X:=λw _=>laidMetH Tryz.prog KI w) false (World.doorLaid Tryz.prog 400 os) #[.agg #[.string ⟨#[]⟩,.string ⟨#[]⟩,.string ⟨#[]⟩,.string ⟨#[]⟩,.string ⟨#[]⟩,.string ⟨#[]⟩],.i 0,.i 0,.agg #[.slice none 0 0,.slice none 0 0]] 8 rfl (World.shaped_of_RefB (by kernel_rfl) (by kernel_rfl)) (by kernel_rfl) (by kernel_rfl) (by kernel_rfl) (zhz os _)) ?_
 intro W base args ds gs before hval0 hW hcnd hwt hL _;have hval:∀ (j:Nat) t v,Tryz.f6.params[j]?=some t->args[j]?=some v->Value.okWide Tryz.prog W .any base t v:=hval0;have hW':=hW;obtain⟨p,q,hA0,hV,rfl,hfz,hnd⟩:=hW;have hA:DataW.TrodAll enc Tryz.prog W 0 (λ_=>true) true Tryz.f6.params.toList args.toList ds p:=hA0;rw [Tryz.params6] at hA hval;obtain⟨v0,vs0,d0,ds0,p0,q0,hargs,rfl,rfl,h0,r0⟩:=trodAll_cons hA;obtain⟨v1,vs1,d1,ds1,p1,q1,rfl,rfl,rfl,h1,r1⟩:=trodAll_cons r0;obtain⟨v2,vs2,d2,ds2,p2,q2,rfl,rfl,rfl,h2,r2⟩:=trodAll_cons r1;obtain⟨v3,vs3,d3,ds3,p3,q3,rfl,rfl,rfl,h3,r3⟩:=trodAll_cons r2;obtain⟨rfl,rfl,rfl⟩:=trodAll_nil r3;obtain rfl:args = #[v0,v1,v2,v3]:=by cases args; simp_all
 obtain⟨rfl,rfl⟩:=trodVars_none hV;clear hA0 hval0;simp only [List.append_nil] at hW' hwt
 have hw:∀ (j:Nat) (t:TypeId) (d:DataW H),[24,3,3,28][j]?=some t->[d0,d1,d2,d3][j]?=some d->∀ n∈d.weights Tryz.prog t,n<=reachBytes:=λj t d ht hd n hn=>by
  have:=bG.1 hwt n (DataW.weights_mem_each (j:=j) (t:=t) (d:=d) (by exact ht) (by exact hd) n hn);simpa using this
 obtain⟨c0,rfl,_⟩:=okWide_struct Tryz.underlying24 (hval 0 24 v0 rfl rfl);obtain⟨c1,rfl⟩:=okWide_int Tryz.underlying3 (hval 1 3 v1 rfl rfl);obtain⟨c2,rfl⟩:=okWide_int Tryz.underlying3 (hval 2 3 v2 rfl rfl);obtain⟨c3,rfl,_⟩:=okWide_struct Tryz.underlying28 (hval 3 28 v3 rfl rfl)
 have t0:Tw Tryz.prog W 24 c0.toList:=by
  obtain⟨fuel,hf⟩:=h0;exact⟨H,enc,0,fuel,d0,p0,by simpa [Value.cells] using hf,hw 0 _ d0 rfl rfl⟩
 have t1:Tw Tryz.prog W 3 [.i c1]:=by
  obtain⟨fuel,hf⟩:=h1;exact⟨H,enc,0,fuel,d1,p1,by simpa [Value.cells] using hf,hw 1 _ d1 rfl rfl⟩
 have t2:Tw Tryz.prog W 3 [.i c2]:=by
  obtain⟨fuel,hf⟩:=h2;exact⟨H,enc,0,fuel,d2,p2,by simpa [Value.cells] using hf,hw 2 _ d2 rfl rfl⟩
 have t3:Tw Tryz.prog W 28 c3.toList:=by
  obtain⟨fuel,hf⟩:=h3;exact⟨H,enc,0,fuel,d3,p3,by simpa [Value.cells] using hf,hw 3 _ d3 rfl rfl⟩
 have hlt:∀ x∈p0++(p1++(p2++p3)),x.block<W.heap.size:=λx hx=>by simpa using hW'.lt x (by simpa using hx)
 obtain⟨s1,e1,s2,e2,hcall⟩:=walk t0 t1 t2 t3 (zol hL);cases e1;cases e2;simp only [Array.toArray_toList] at hcall;refine hcall.mono λe W' ⟨he,hb⟩=> ?_
 subst he;refine⟨_,rfl,_,_,_,[],p0++(p1++(p2++p3)),[],hW',trodAll_mk1 (shut_bool Tryz.underlying4 true),?_,rfl,hb.frame _,λh=>by cases h⟩;exact trodAll_mk4 (Below.trod laid (by kernel_rfl) (aB (by kernel_rfl)) h0 hb λx hx=>hlt x (by simp [hx])) (Below.trod laid (by kernel_rfl) (aB (by kernel_rfl)) h1 hb λx hx=>hlt x (by simp [hx])) (Below.trod laid (by kernel_rfl) (aB (by kernel_rfl)) h2 hb λx hx=>hlt x (by simp [hx])) (Below.trod laid (by kernel_rfl) (aB (by kernel_rfl)) h3 hb λx hx=>hlt x (by simp [hx]))
theorem over:Rows.templateParityRow.holds Tryz.pinned (OpenSpec.ofChange Rows.templateParitySpec):=
 OpenClaim.holds_of_wide 6 Tryz.f6 rfl rfl rfl rfl rfl rfl rfl ⟨rfl,rfl,rfl,rfl,rfl⟩ rfl rfl rfl rfl rfl (by kernel_rfl) Tryz.func6 (by kernel_rfl)
  (aB (by kernel_rfl)) (by unfold Func.isWrapper; first | (rw [aP (by decide +kernel)]; kernel_rfl) | (rw [aO (by decide +kernel)]; exact⟨rfl,rfl⟩))
  (λos started H enc _=>lifted os started H enc)
theorem uj:Rows.TemplateParitySaid:=over
theorem templateParity_holds:Rows.TemplateParityCardSaid:=
 Claim7.holds_tied_plain_at .later [] [.mappedDeep,.funcs,.mapped] true (true, "47370d2515ba6a51d1609e58d5aa5405615658d069b08cae6c05f31fd91428f6") true
  uj (λ_ h=>by cases h) (by kernel_rfl) (λ_ h=>by cases h) templateParity_row_tie rfl ⟨rfl,rfl⟩ (by kernel_rfl) rfl
  (λf fn hf hfn=>by
   obtain rfl:f=6:=Option.some.inj ((show Tryz.prog.funcNamed "novation/novationlaw16.TemplateParity" = some 6 by kernel_rfl).symm.trans hf) |>.symm;obtain rfl:fn=Tryz.f6:=(Option.some.inj (Tryz.func6.symm.trans hfn)).symm
   exact⟨by kernel_rfl,λj t ht=>by
    rw [Tryz.params6] at ht;have hm:t∈[24,3,3,28]:=by simpa using Array.mem_of_getElem? ht
    have hall:([24,3,3,28].all λu=> !Tryz.prog.wantsStandIn u)=true:=by kernel_rfl
    exact(show Tryz.prog.wantsStandIn t=false by simpa using bG.1 hall t hm)⟩)
  (by kernel_rfl)
end Go.Proofs.YtpnllbdffdpoaaaGreatDoor
end
