/- Part 3 of the proof. -/
import Derived.KernelRfl
import Derived.Test.YtfiocgnojggdjaaGreatDoorSxb
import Derived.MapKept
import Derived.RangeFuncNested
import Derived.RangeFuncLeaves
import Derived.RangeFuncCalls
import Derived.OwnWalkIn
import Derived.TacticsInMore
set_option linter.unusedVariables false
set_option linter.unusedSimpArgs false
set_option linter.unusedSectionVars false
section
namespace Go.Sx
variable [Stat]
section
variable {O own:Nat->Prop} {w:World} {σ:List SE} {P:Program}
def zK:SK->Sc->Value
 | .inl k,.inl n=>.int k n
 | .inr false,.inr s=>.string ⟨s.toArray⟩
 | .inr true,.inl n=>.bool (decide (n=1))
 | _,_=>undef
def z8(ag:Bool)(sh:List SK)(k:List Sc):Value:=bif ag then .agg (List.zipWith zK sh k).toArray else zK (sh.headD (.inr false)) (k.headD (.inl 0))
theorem Wl{s:SK}{x:Sc}(h:okSc s x){v:Value} : Rep own w (scV s x) σ v↔v=zK s x:=by
 match s,x,h with
 | .inl k,.inl n,_=>simp [scV,zK,Rep]
 | .inr false,.inr s,_=>simp [scV,zK,Rep]
 | .inr true,.inl n,_=>simp [scV,zK,Rep]
theorem yD:∀ {sh:List SK} {k:List Sc} {vs:List Value},qI sh k->(RepL own w (List.zipWith scV sh k) σ vs↔vs=List.zipWith zK sh k)
 | [],[],vs,_=>by simp [RepL]
 | s::sh,x::k,vs,h=>by
  simp only [List.zipWith_cons_cons,RepL];constructor
  ·rintro⟨v,r,rfl,h1,h2⟩;rw [(Wl h.1).1 h1,(yD h.2).1 h2]
  ·rintro rfl;exact⟨_,_,rfl,(Wl h.1).2 rfl,(yD h.2).2 rfl⟩
 | [],_::_,_,h=>h.elim
 | _::_,[],_,h=>h.elim
theorem x7{s:SK}{k:List Sc}(h:qI [s] k):∃ x,k=[x]/\okSc s x:=by
 match k,h with
 | [x],h=>exact⟨x,rfl,h.1⟩
 | [],h=>exact h.elim
 | _::_::_,h=>exact h.2.elim
theorem wD{ag:Bool}{sh:List SK}{k:List Sc}(h:qI sh k)(h1:ag=false->sh.length=1){v:Value} : Rep own w (keyA ag sh k) σ v↔v=z8 ag sh k:=by
 cases ag with
 | true=>
  simp only [keyA,z8,cond_true,Rep];constructor
  ·rintro⟨vs,rfl,hr⟩;rw [(yD h).1 hr]
  ·rintro rfl;exact⟨_,rfl,(yD h).2 rfl⟩
 | false=>
  obtain⟨s,rfl⟩:=List.length_eq_one_iff.1 (h1 rfl);obtain⟨x,rfl,hx⟩:=x7 h;exact Wl hx
theorem JH{s:SK}{x y:Sc}(hx:okSc s x)(hy:okSc s y)(h:zK s x=zK s y):x=y:=by
 match s,x,y,hx,hy with
 | .inl k,.inl n,.inl m,_,_=>simpa [zK] using h
 | .inr false,.inr s,.inr t,_,_=>
  simp only [zK,Value.string.injEq,ByteArray.mk.injEq] at h;rw [show s=t by simpa using congrArg Array.toList h]
 | .inr true,.inl n,.inl m,hx,hy=>
  have hx:n=0\/n=1:=hx;have hy:m=0\/m=1:=hy;simp only [zK,Value.bool.injEq] at h;have:n=m:=by rcases hx with rfl | rfl<;>rcases hy with rfl | rfl<;>simp at h ⊢
  rw [this]
theorem XB{ag:Bool}{sh:List SK}{k k':List Sc}(h:qI sh k)(h':qI sh k')(h1:ag=false->sh.length=1)(he:z8 ag sh k=z8 ag sh k'):k=k':=by
 cases ag with
 | true=>
  simp only [z8,cond_true,Value.agg.injEq] at he;have he:List.zipWith zK sh k=List.zipWith zK sh k':=by simpa using congrArg Array.toList he
  clear h1
  induction sh generalizing k k' with
  | nil=>cases k<;>cases k'<;>first | rfl | exact h.elim | exact h'.elim
  | cons s sh ih=>
   match k,k',h,h' with
   | x::k,y::k',h,h'=>
    simp only [List.zipWith_cons_cons,List.cons.injEq] at he;rw [JH h.1 h'.1 he.1,ih h.2 h'.2 (by rw [he.2]) he.2]
   | [],_,h,_=>exact h.elim
   | _::_,[],_,h'=>exact h'.elim
 | false=>
  obtain⟨s,rfl⟩:=List.length_eq_one_iff.1 (h1 rfl);obtain⟨x,rfl,hx⟩:=x7 h;obtain⟨y,rfl,hy⟩:=x7 h';rw [JH hx hy he]
theorem Jv{a:AV}{s:SK}{x:Sc}{v:Value}(h:scX a=some (s,x))(hr:Rep own w a σ v):okSc s x/\v=zK s x:=by
 cases a<;>simp only [scX,aE,bE] at h<;>try (cases h; done)
 ·obtain⟨rfl,rfl⟩:=h;simp only [Rep] at hr;rename_i b;refine⟨by cases b<;>simp [okSc],?_⟩;rw [hr]; cases b<;>simp [zK]
 ·obtain⟨rfl,rfl⟩:=h;simp only [Rep] at hr;exact⟨trivial,hr⟩
 ·obtain⟨rfl,rfl⟩:=h;simp only [Rep] at hr;exact⟨trivial,hr⟩
theorem ZY:∀ {l:List AV} {sh:List SK} {k:List Sc} {vs:List Value},scsX l=some (sh,k)->RepL own w l σ vs->qI sh k/\vs=List.zipWith zK sh k
 | [],sh,k,vs,h,hr=>by
  simp only [scsX,aE,bE] at h;obtain⟨rfl,rfl⟩:=h;simp only [RepL] at hr;exact⟨trivial,hr⟩
 | a::l,sh,k,vs,h,hr=>by
  simp only [scsX] at h;split at h
  ·rename_i s x ss xs h1 h2;simp only [aE,bE] at h;obtain⟨rfl,rfl⟩:=h;simp only [RepL] at hr;obtain⟨v,r,rfl,hv,hr⟩:=hr;obtain⟨a1,a2⟩:=Jv h1 hv;obtain⟨b1,b2⟩:=ZY h2 hr;exact⟨⟨a1,b1⟩,by rw [a2,b2]; rfl⟩
  ·cases h
theorem kQ{a:AV}{ag:Bool}{sh:List SK}{k:List Sc}{v:Value}(h:keyX a=some (ag,sh,k))(hr:Rep own w a σ v):qI sh k/\v=z8 ag sh k:=by
 have one:∀ {a:AV},(match scX a with | some (k,s)=>some (false,[k],[s]) | none=>none)=some (ag,sh,k)->Rep own w a σ v->qI sh k/\v=z8 ag sh k:=by
  intro a h hr;split at h
  ·rename_i s x h1;simp only [aE,bE] at h;obtain⟨rfl,rfl,rfl⟩:=h;obtain⟨a1,a2⟩:=Jv h1 hr;exact⟨⟨a1,trivial⟩,a2⟩
  ·cases h
 unfold keyX at h;split at h
 ·split at h
  ·rename_i h1;simp only [aE,bE] at h;obtain⟨rfl,rfl,rfl⟩:=h;simp only [Rep] at hr;obtain⟨vs,rfl,hr⟩:=hr;obtain⟨a1,a2⟩:=ZY h1 hr;exact⟨a1,by rw [a2]; rfl⟩
  ·cases h
 ·exact one h hr
theorem Ub{va vb:Array Value}(d:Nat):∀ {fs:List Field} {o:Nat} {sh:List SK} {k k':List Sc},xO P o fs=some sh->qI sh k->qI sh k'->va.toList.drop o=List.zipWith zK sh k->vb.toList.drop o=List.zipWith zK sh k' ->
  (Op.eqFields (d+1) va vb fs).run P w = .ok (decide (k=k')) w
 | [],o,sh,k,k',h,hk,hk',ha,hb=>by
  simp only [xO,aE] at h;subst h;cases k<;>cases k'<;>first | exact hk.elim | exact hk'.elim | skip
  simp [Op.eqFields]
 | f::fs,o,sh,k,k',h,hk,hk',ha,hb=>by
  simp only [xO] at h;split at h
  ·rename_i hc;obtain⟨hn,ho⟩:=hc;subst ho
   have step:∀ (s:SK) (l:List SK),xO P (f.offset+1) fs=some l->sh=s::l->jA P f.type=some false->(∀ x y:Sc,okSc s x->okSc s y->(Op.equalIn (d+1) f.type (zK s x) (zK s y)).run P w = .ok (decide (x=y)) w)->(Op.eqFields (d+1) va vb (f::fs)).run P w = .ok (decide (k=k')) w:=by
    rintro s l hl rfl hg heq
    match k,k',hk,hk' with
    | x::k,y::k',hk,hk'=>
     simp only [List.zipWith_cons_cons] at ha hb
     have g:∀ {v:Array Value} {u:Value} {r:List Value},v.toList.drop f.offset=u::r->v[f.offset]?=some u/\v.toList.drop (f.offset+1)=r:=by
      intro v u r h;have h0:(v.toList.drop f.offset)[0]?=some u:=by rw [h]; rfl
      rw [List.getElem?_drop] at h0;refine⟨by simpa using h0,?_⟩;rw [<- List.drop_drop,h]; rfl
     obtain⟨a1,a2⟩:=g ha;obtain⟨b1,b2⟩:=g hb;have ih:=Ub d hl hk.2 hk'.2 a2 b2;simp only [Op.eqFields,aP hn,Sem.run_bind,jv hg a1,jv hg b1,Result.andThen_ok,heq x y hk.1 hk'.1];by_cases hxy:x=y
     ·subst hxy; simp [ih]
     ·simp [hxy]
    | [],_,hk,_=>exact hk.elim
    | _::_,[],_,hk'=>exact hk'.elim
   split at h
   ·rename_i kd l hg hu hl;simp only [aE] at h;refine step _ l hl h.symm hg λx y hx hy=> ?_
    match x,y,hx,hy with
    | .inl n,.inl m,_,_=>
     simp only [zK,run_equalIn_int _ _ _ _ _ _ _ hu];congr 1;by_cases hnm:n=m<;>simp [hnm]
   ·rename_i l hg hu hl;simp only [aE] at h;refine step _ l hl h.symm hg λx y hx hy=> ?_
    match x,y,hx,hy with
    | .inr s,.inr t,_,_=>
     simp only [zK,run_equalIn_string _ _ _ _ _ hu];congr 1;by_cases hnm:s=t<;>simp [hnm]
   ·rename_i l hg hu hl;simp only [aE] at h;refine step _ l hl h.symm hg λx y hx hy=> ?_
    match x,y,hx,hy with
    | .inl n,.inl m,hx,hy=>
     have hx:n=0\/n=1:=hx;have hy:m=0\/m=1:=hy;simp only [zK,run_equalIn_bool hu];congr 1;rcases hx with rfl | rfl<;>rcases hy with rfl | rfl<;>rfl
   ·cases h
  ·cases h
theorem Z3(em:Bool)(d:Nat){va:Array Value} : ∀ {fs:List Field} {o:Nat} {sh:List SK} {k:List Sc},xO P o fs=some sh->qI sh k->va.toList.drop o=List.zipWith zK sh k ->
  (forIn fs PUnit.unit (λf (_:PUnit)=>if f.name ≠ "_" then(do
    let x <- part f.type va f.offset
    Instr.checkKey em (d+1) f.type x
    pure (ForInStep.yield PUnit.unit)) else pure (ForInStep.yield PUnit.unit):Field->PUnit->Sem (ForInStep PUnit))).run P w = .ok PUnit.unit w
 | [],o,sh,k,h,hk,ha=>by simp
 | f::fs,o,sh,k,h,hk,ha=>by
  simp only [xO] at h;split at h
  ·rename_i hc;obtain⟨hn,ho⟩:=hc;subst ho
   have step:∀ (s:SK) (l:List SK),xO P (f.offset+1) fs=some l->sh=s::l->jA P f.type=some false->(∀ x:Sc,okSc s x->(Instr.checkKey em (d+1) f.type (zK s x)).run P w = .ok () w)->(forIn (f::fs) PUnit.unit (λf (_:PUnit)=>if f.name ≠ "_" then(do
    let x <- part f.type va f.offset
    Instr.checkKey em (d+1) f.type x
    pure (ForInStep.yield PUnit.unit)) else pure (ForInStep.yield PUnit.unit):Field->PUnit->Sem (ForInStep PUnit))).run P w = .ok PUnit.unit w:=by
    rintro s l hl rfl hg heq
    match k,hk with
    | x::k,hk=>
     simp only [List.zipWith_cons_cons] at ha;have h0:(va.toList.drop f.offset)[0]?=some (zK s x):=by rw [ha]; rfl
     rw [List.getElem?_drop] at h0;have h1:va.toList.drop (f.offset+1)=List.zipWith zK l k:=by rw [<- List.drop_drop,ha]; rfl
     have ih:=Z3 em d hl hk.2 h1;simp only [List.forIn_cons,Sem.run_bind,aP hn,jv hg (by simpa using h0),Result.andThen_ok,heq x hk.1,Sem.run_pure];exact ih
    | [],hk=>exact hk.elim
   split at h
   ·rename_i kd l hg hu hl;simp only [aE] at h;refine step _ l hl h.symm hg λx hx=> ?_
    match x,hx with
    | .inl n,_=>exact Go.MapKept.run_checkKey hu (by simp [zK,Go.MapKept.IsKey]) em d
   ·rename_i l hg hu hl;simp only [aE] at h;refine step _ l hl h.symm hg λx hx=> ?_
    match x,hx with
    | .inr n,_=>exact Go.MapKept.run_checkKey hu (by simp [zK,Go.MapKept.IsKey]) em d
   ·rename_i l hg hu hl;simp only [aE] at h;refine step _ l hl h.symm hg λx hx=> ?_
    match x,hx with
    | .inl n,_=>exact Go.MapKept.run_checkKey hu (by simp [zK,Go.MapKept.IsKey]) em d
   ·cases h
  ·cases h
theorem JU(d:Nat):∀ {sh:List SK} {k:List Sc},qI sh k->((List.zipWith zK sh k).zip (List.zipWith zK sh k)).all (λ(x,y)=>Instr.sameBits d x y)=true
 | [],[],_=>rfl
 | s::sh,x::k,h=>by
  simp only [List.zipWith_cons_cons,List.zip_cons_cons,List.all_cons,bA];refine⟨?_,JU d h.2⟩
  match s,x,h.1 with
  | .inl k,.inl n,_=>simp [zK,Instr.sameBits]
  | .inr false,.inr s,_=>simp [zK,Instr.sameBits,Go.MapKept.bytes_beq]
  | .inr true,.inl n,_=>simp [zK,Instr.sameBits]
 | [],_::_,h=>h.elim
 | _::_,[],h=>h.elim
structure zch(P:Program)(w:World)(kt:TypeId)(ag:Bool)(sh:List SK):Prop where
 one:ag=false->sh.length=1
 check:∀ (em:Bool) (k:List Sc),qI sh k->(Instr.checkKey em 10000 kt (z8 ag sh k)).run P w = .ok () w
 stays:∀ (k:List Sc),qI sh k->(Instr.keyThatStays (z8 ag sh k) (z8 ag sh k)).run P w = .ok (z8 ag sh k) w
 find:∀ (k:List Sc),qI sh k->∀ (es:List MapEntry) (l:List (List Sc)),es.length=l.length->(∀ (i:Nat) (e:MapEntry) (x:List Sc),es[i]?=some e->l[i]?=some x->qI sh x/\e.key=z8 ag sh x) ->
  (k∉l/\(Instr.findKey kt (z8 ag sh k) es).run P w = .ok none w)\/∃ j e,es[j]?=some e/\l[j]?=some k/\(Instr.findKey kt (z8 ag sh k) es).run P w = .ok (some (j,e.val)) w
theorem Kz{kt:TypeId}{ag:Bool}{sh:List SK}(heq:∀ k k':List Sc,qI sh k->qI sh k'->(Op.equal kt (z8 ag sh k) (z8 ag sh k')).run P w = .ok (decide (k=k')) w){k:List Sc}(hk:qI sh k) :
  ∀ (es:List MapEntry) (l:List (List Sc)) (i:Nat),es.length=l.length->(∀ (i:Nat) (e:MapEntry) (x:List Sc),es[i]?=some e->l[i]?=some x->qI sh x/\e.key=z8 ag sh x) ->
  (k∉l/\(Instr.findAsking kt (z8 ag sh k) es i).run P w = .ok none w)\/∃ j e,es[j]?=some e/\l[j]?=some k/\(Instr.findAsking kt (z8 ag sh k) es i).run P w = .ok (some (i+j,e.val)) w
 | [],[],i,_,_=>.inl ⟨by simp,by simp [Instr.findAsking]⟩
 | e::es,x::l,i,hl,h=>by
  obtain⟨h1,h2⟩:=h 0 e x rfl rfl;have hr:=heq k x hk h1;rw [<- h2] at hr;by_cases hkx:k=x
  ·subst hkx;right;exact⟨0,e,rfl,rfl,by simp [Instr.findAsking,hr]⟩
  ·rw [aW hkx] at hr;rcases Kz heq hk es l (i+1) (by simpa using hl) (λj e x he hx=>h (j+1) e x (by simpa using he) (by simpa using hx)) with ⟨g1,g2⟩ | ⟨j,e',g1,g2,g3⟩
   ·left;exact⟨by simp [hkx,g1],by simp [Instr.findAsking,hr,g2]⟩
   ·right;exact⟨j+1,e',by simpa using g1,by simpa using g2,by simp [Instr.findAsking,hr,g3,Nat.add_assoc,Nat.add_comm 1 j]⟩
 | [],_::_,_,hl,_=>by simp at hl
 | _::_,[],_,hl,_=>by simp at hl
theorem ui{kt:TypeId}{s:SK}{d:TypeDesc}(hd:P.underlying kt=some d)(hk:∀ x,okSc s x->Go.MapKept.IsKey d (zK s x)):zch P w kt false [s]:=by
 have key:∀ k,qI [s] k->Go.MapKept.IsKey d (z8 false [s] k):=by
  intro k h;obtain⟨x,rfl,hx⟩:=x7 h;exact hk x hx
 refine⟨λ_=>rfl,λem k h=>Go.MapKept.run_checkKey hd (key k h) em 9999,λk h=>Go.MapKept.run_keyThatStays (key k h),λk h es l hl he=> ?_⟩
 have hkeys:∀ x∈es,Go.MapKept.IsKey d x.key:=by
  intro x hx;obtain⟨i,hi⟩:=List.mem_iff_getElem?.1 hx;have hil:=(aG.1 hi).1;obtain⟨h1,h2⟩:=he i x _ hi (aF (by omega));rw [h2]; exact key _ h1
 rcases Go.MapKept.findNow_spec (key k h) es 0 hkeys with ⟨h1,h2⟩ | ⟨j,e,h1,h2,h3⟩
 ·left;refine⟨λhm=> ?_,Go.MapKept.run_findKey hd h1⟩;obtain⟨i,hi⟩:=List.mem_iff_getElem?.1 hm;have hil:=(aG.1 hi).1;have he':=aF (l:=es) (i:=i) (by omega);exact h2 _ (aY he') (he i _ k he' hi).2
 ·right;have hjl:=(aG.1 h2).1;have hx:=aF (l:=l) (i:=j) (by omega);obtain⟨g1,g2⟩:=he j e _ h2 hx;refine⟨j,e,h2,?_,by simpa using Go.MapKept.run_findKey hd h1⟩;rw [hx,XB g1 h (λ_=>rfl) (g2.symm.trans h3)]
theorem XV{kt:TypeId}{fs:Array Field}{sh:List SK}(hu:P.underlying kt=some (.struct fs))(hs:P.stoodInHeld kt=false)(hf:xO P 0 fs.toList=some sh):zch P w kt true sh:=by
 have heq:∀ k k':List Sc,qI sh k->qI sh k'->(Op.equal kt (z8 true sh k) (z8 true sh k')).run P w = .ok (decide (k=k')) w:=by
  intro k k' h h';have hfs:P.fieldsOf kt=fs:=by simp [Program.fieldsOf,hu]
  show(Op.equalIn 10000 kt (.agg _) (.agg _)).run P w=_;rw [run_equalIn_struct w 9999 kt _ _ (by rw [hfs]; exact hu) hs,hfs];exact Ub 9998 hf h h' (by simp) (by simp)
 refine⟨λh=>(by cases h),λem k h=> ?_,λk h=> ?_,λk h es l hl he=> ?_⟩
 ·simp only [z8,cond_true];rw [show 10000=9998+1+1 from rfl,Instr.checkKey];simp only [Sem.run_bind,run_underlying hu,Result.andThen_ok];rw [<- Array.forIn_toList];have:=Z3 (w:=w) (P:=P) (va:=(List.zipWith zK sh k).toArray) em 9998 hf h (by simp);rw [this];rfl
 ·have:Instr.sameBits 10000 (z8 true sh k) (z8 true sh k)=true:=by
   simp only [z8,cond_true,Instr.sameBits,bA];exact⟨by simp,JU _ h⟩
  simp [Instr.keyThatStays,this]
 ·have hrun:(Instr.findKey kt (z8 true sh k) es).run P w=(Instr.findAsking kt (z8 true sh k) es).run P w:=by
   simp only [Instr.findKey,Sem.run_bind,run_underlying hu,Result.andThen_ok];cases es with
   | nil=>simp [Instr.findNow,Instr.findAsking]
   | cons e es=>simp [Instr.findNow,Instr.sameNow]
  rw [hrun];rcases Kz heq h es l 0 hl he with ⟨g1,g2⟩ | ⟨j,e,g1,g2,g3⟩
  ·exact .inl ⟨g1,g2⟩
  ·exact .inr ⟨j,e,g1,g2,by simpa using g3⟩
theorem xd{kt:TypeId}{ag:Bool}{sh:List SK}(h:xV P kt=some (ag,sh)):zch P w kt ag sh:=by
 unfold xV at h;split at h
 ·rename_i hu;simp only [aE,bE] at h;obtain⟨rfl,rfl⟩:=h;refine ui hu λx hx=> ?_
  match x,hx with
  | .inl n,_=>simp [zK,Go.MapKept.IsKey]
 ·rename_i hu;simp only [aE,bE] at h;obtain⟨rfl,rfl⟩:=h;refine ui hu λx hx=> ?_
  match x,hx with
  | .inr n,_=>simp [zK,Go.MapKept.IsKey]
 ·rename_i hu;simp only [aE,bE] at h;obtain⟨rfl,rfl⟩:=h;refine ui hu λx hx=> ?_
  match x,hx with
  | .inl n,_=>simp [zK,Go.MapKept.IsKey]
 ·rename_i fs hu;split at h
  ·rename_i hs;split at h
   ·rename_i l hf;simp only [aE,bE] at h;obtain⟨rfl,rfl⟩:=h;exact XV hu hs hf
   ·cases h
  ·cases h
 ·cases h
theorem qx{ag:Bool}{sh:List SK}{get:List Sc->AV} : ∀ {es:List MapEntry} {l:List (List Sc)},xq own w ag sh get es l↔es.length=l.length/\∀ (i:Nat) (e:MapEntry) (x:List Sc),es[i]?=some e->l[i]?=some x->qI sh x/\Rep own w (keyA ag sh x) [] e.key/\Rep own w (get x) [] e.val
 | [],[]=>by simp [xq]
 | e::es,x::l=>by
  simp only [xq,qx (es:=es) (l:=l),aL,Nat.add_right_cancel_iff];constructor
  ·rintro⟨h1,h2,h3,h4,h5⟩;refine⟨h4,λi e' y he hy=> ?_⟩;cases i with
   | zero=>simp at he hy; subst he; subst hy; exact⟨h1,h2,h3⟩
   | succ i=>exact h5 i e' y (by simpa using he) (by simpa using hy)
  ·rintro⟨h4,h5⟩;obtain⟨h1,h2,h3⟩:=h5 0 e x rfl rfl;exact⟨h1,h2,h3,h4,λi e' y he hy=>h5 (i+1) e' y (by simpa using he) (by simpa using hy)⟩
 | [],_::_=>by simp [xq]
 | _::_,[]=>by simp [xq]
theorem wj.none{es:Array MapEntry}{clock:Nat}{l l':List (List Sc)}{pe:Option (List Sc×Int)}(h:wj es clock l pe):wj es clock l' Option.none:=⟨h.nd,h.lt,λk st hk=>by cases hk⟩
theorem wj.push{es:Array MapEntry}{clock:Nat}{l:List (List Sc)}{pe:Option (List Sc×Int)}(h:wj es clock l pe)(k v:Value){l':List (List Sc)} : wj (es.push { key:=k,val:=v,born:=clock }) (clock+1) l' Option.none:=by
 refine⟨?_,λx hx=> ?_,λk st hk=>by cases hk⟩
 ·simp only [Array.toList_push,List.map_append,List.map_cons,List.map_nil];refine List.nodup_append.2 ⟨h.nd,by simp,λa ha c hc e1=> ?_⟩;simp only [List.mem_singleton] at hc;obtain⟨x,hx,rfl⟩:=List.mem_map.1 ha;have:=h.lt x hx;omega
 ·simp only [Array.toList_push,bY,List.mem_singleton] at hx;rcases hx with hx | rfl
  ·have:=h.lt x hx; omega
  ·simp
theorem JE{es:Array MapEntry}(j:Nat){f:MapEntry->MapEntry}(hf:∀ e,(f e).born=e.born):(es.modify j f).toList.map (·.born)=es.toList.map (·.born):=by
 apply List.ext_getElem?;intro i;simp only [aN,Array.getElem?_toList,Array.getElem?_modify];split
 ·cases es[i]? with
  | none=>rfl
  | some e=>simp [hf]
 ·rfl
theorem wj.turn{es:Array MapEntry}{clock:Nat}{l l':List (List Sc)}{pe:Option (List Sc×Int)}(h:wj es clock l pe)(j:Nat){f:MapEntry->MapEntry}(hf:∀ e,(f e).born=e.born):wj (es.modify j f) clock l' Option.none:=by
 refine⟨by rw [JE j hf]; exact h.nd,λx hx=> ?_,λk st hk=>by cases hk⟩;have:x.born∈(es.modify j f).toList.map (·.born):=List.mem_map.2 ⟨x,hx,rfl⟩;rw [JE j hf] at this;obtain⟨y,hy,e⟩:=List.mem_map.1 this;rw [<- e]; exact h.lt y hy
theorem wj.erase{es es':Array MapEntry}{clock j:Nat}{l l':List (List Sc)}{pe:Option (List Sc×Int)}(h:wj es clock l pe)(he:es'.toList=es.toList.eraseIdx j):wj es' clock l' Option.none:=by
 refine⟨?_,λx hx=> ?_,λk st hk=>by cases hk⟩
 ·rw [he]; exact((List.eraseIdx_sublist es.toList j).map _).nodup h.nd
 ·rw [he] at hx; exact h.lt x ((List.eraseIdx_sublist es.toList j).subset hx)
theorem Kv{h:Heap}(hh:HRep own w σ h){t:TypeId}{ok:Bool}{i:Nat}{key:AV}{vx vi:Value}(hx:Rep own w (.omap i) σ vx)(hi2:Rep own w key σ vi){Q:AV->Prop}(hq:(XC P h t ok i key).holds Q) :
  ∃ r v,(Instr.lookup t vx vi ok).run P w = .ok v w/\Q r/\Rep own w r σ v:=by
 unfold XC at hq;split at hq
 ·rename_i ag sh has get pe ag' sh' k kt et hb hk hu;split at hq
  ·rename_i ag2 sh2 z hs hz;split at hq
   ·rename_i hc;obtain⟨rfl,rfl,rfl,rfl⟩:=hc;have K:=xd (w:=w) hs;obtain⟨k1,rfl⟩:=kQ hk hi2;simp only [Rep] at hx;obtain⟨e,ad,he,had,rfl⟩:=hx;have hB:=hh.blk i e _ he hb;simp only [BRep] at hB;obtain⟨ad',es,clock,l,had',hes,hone,⟨hnd,hst⟩,hhas,hE⟩:=hB;rw [had] at had'; cases had';obtain⟨hl,hget⟩:=qx.1 hE
    have hzr:(zeroValue et).run P w = .ok z w:=by
     cases hin:P.info? et with
     | none=>simp [hin] at hz
     | some inf=>
      simp only [hin,Option.bind_some] at hz;simp [zeroValue,run_typeInfo w hin,hz]
    have hrun:∀ r,(Instr.findKey kt (z8 ag2 sh2 k) es.toList).run P w = .ok r w->(Instr.lookup t (.map (some ad.block)) (z8 ag2 sh2 k) ok).run P w=(match r with
      | some (_,v)=>.ok (if ok then .tuple #[v,.bool true] else v) w
      | none=>.ok (if ok then .tuple #[z,.bool false] else z) w):=by
     intro r hr;simp only [Instr.lookup,Sem.run_bind,run_underlying hu,Result.andThen_ok,Sem.run_pure,Go.MapKept.run_getObj_map hes,K.check _ k k1,hr];cases r with
     | none=>simp [hzr]
     | some p=>simp
    rcases K.find k k1 es.toList l hl (λi e x g1 g2=>by
      obtain⟨a1,a2,_⟩:=hget i e x g1 g2;exact⟨a1,(wD a1 K.one).1 a2⟩) with ⟨g1,g2⟩ | ⟨j,e',g1,g2,g3⟩
    ·have hno:has k=false:=by
      cases hb:has k with
      | false=>rfl
      | true=>exact absurd ((hhas k).1 hb) g1
     have hq1:=hq.2 hno;have hy:Rep own w (xH z) σ z:=wJ z;refine⟨_,_,hrun _ g2,hq1,?_⟩;cases ok with
     | true=>
      simp only [qL,cond_true,if_true,Rep];exact⟨[z,.bool false],rfl,by simp only [RepL]; exact⟨_,_,rfl,hy,_,_,rfl,by simp [Rep],rfl⟩⟩
     | false=>simpa [qL] using hy
    ·have hyes:has k=true:=(hhas k).2 (aY g2);have hq1:=hq.1 hyes;obtain⟨_,_,a3⟩:=hget j e' k g1 g2;have hy:Rep own w (get k) σ e'.val:=a3.any σ;refine⟨_,_,hrun _ g3,hq1,?_⟩;cases ok with
     | true=>
      simp only [qL,cond_true,if_true,Rep];exact⟨[e'.val,.bool true],rfl,by simp only [RepL]; exact⟨_,_,rfl,hy,_,_,rfl,by simp [Rep],rfl⟩⟩
     | false=>simpa [qL] using hy
   ·exact hq.elim
  ·exact hq.elim
 ·exact hq.elim
theorem yJ{a:AV}{v:Value}(h:uf a=true)(hr:Rep own w a σ v):Rep own w a [] v:=by
 cases a with
 | fn f x y=>cases x<;>cases y<;>simp [uf] at h; simpa [Rep,RepL] using hr
 | _=>first | (simp [uf] at h; done) | simpa [Rep] using hr
theorem yK:∀ {l:List AV} {vs:List Value},l.all uf=true->RepL own w l σ vs->RepL own w l [] vs
 | [],_,_,h=>by simpa [RepL] using h
 | a::l,vs,hp,h=>by
  simp only [List.all_cons,bA] at hp;simp only [RepL] at h ⊢;obtain⟨v,r,rfl,h1,h2⟩:=h;exact⟨v,r,rfl,yJ hp.1 h1,yK hp.2 h2⟩
theorem yI{a:AV}{v:Value}(h:WV a=true)(hr:Rep own w a σ v):Rep own w a [] v:=by
 cases a with
 | agg l=>
  simp only [WV] at h;simp only [Rep] at hr ⊢;obtain⟨vs,rfl,hr⟩:=hr;exact⟨vs,rfl,yK h hr⟩
 | _=>exact yJ h hr
def vR(w:World)(b:Nat)(o:Obj):World:={ w with heap:=w.heap.setIfInBounds b o }
theorem Yj{b:Nat}{o o':Obj}(hb:w.heap[b]?=some o'):Turn w (vR w b o) b:=⟨rfl,rfl,rfl,by simp [vR],λk hk=>(Go.MapKept.heap_set (o':=o) hb).2 k hk⟩
theorem jD{h:Heap}(hg:Good O w σ)(hh:HRep (Own O σ) w σ h){i:Nat}{e:SE}{ad:Addr}{es:Array MapEntry}{clock:Nat}{o:Obj}{B:Blk}{r:AV}{v:Value}(he:σ[i]?=some e)(had:e.ad=some ad)(hes:w.heap[ad.block]?=some (.map es clock))
  (hr:∀ w',Rep (Own O σ) w' r σ v) (hB:Ext (Own O σ) w (Own O σ) (vR w ad.block o)->(vR w ad.block o).heap[ad.block]?=some o->BRep (Own O σ) (vR w ad.block o) σ e B):Post O w σ h ⟨r,[(i,B)],[]⟩ v (vR w ad.block o) σ:=by
 have ht:=Yj (o:=o) hes;have hown:Own O σ ad.block:=.inr ⟨e,aY he,ad,had,rfl⟩;have hsz:∀ cs el,w.heap[ad.block]?=some (.cells cs el (0,0))->∃ cs' el',(vR w ad.block o).heap[ad.block]?=some (.cells cs' el' (0,0))/\cs'.size=cs.size:=λcs el hcs=>by rw [hes] at hcs; cases hcs
 refine⟨hr _,qM ht hown,?_,wX ht hsz,⟨λb hb=>by rw [ht.size]; exact hg.old b hb,hg.dis,hg.stat.ext (qM ht hown)⟩,λb hb _=>ht.other b (λh=>hg.dis i e ad he had (h▸hb)),λj f a hf ha hj=>ht.other _ (hh.inj j i f e a ad hf he ha had (by simpa using hj))⟩;simp only [zx,zk];exact uG hh he had ht hsz (hB (qM ht hown) (Go.MapKept.heap_set hes).1)
theorem Zs{h:Heap}(hg:Good O w σ)(hh:HRep (Own O σ) w σ h){t:TypeId}{m key x:AV}{vm vk vx:Value}(hm:Rep (Own O σ) w m σ vm)(hk0:Rep (Own O σ) w key σ vk)(hx:Rep (Own O σ) w x σ vx){Q:Res->Prop}(hq:(YY P h t m key x).holds Q) :
  ∃ r w' Z',(Instr.mapUpdate t vm vk vx).run P w = .ok () w'/\Q r/\Post O w σ h r undef w' Z':=by
 unfold YY at hq;split at hq
 ·rename_i i;split at hq
  ·rename_i ag sh has get pe ag' sh' k kt et hb hk hu;split at hq
   ·rename_i ag2 sh2 hs;split at hq
    ·rename_i hc;obtain⟨rfl,rfl,rfl,rfl,hpl⟩:=hc;have K:=xd (w:=w) hs;obtain⟨k1,rfl⟩:=kQ hk hk0;simp only [Rep] at hm;obtain⟨e,ad,he,had,rfl⟩:=hm;have hB:=hh.blk i e _ he hb;simp only [BRep] at hB;obtain⟨ad',es,clock,l,had',hes,hone,⟨hnd,hst⟩,hhas,hE⟩:=hB;rw [had] at had'; cases had';obtain⟨hl,hget⟩:=qx.1 hE;have hxv:=yI hpl hx
     rcases K.find k k1 es.toList l hl (λi e x g1 g2=>by
       obtain⟨a1,a2,_⟩:=hget i e x g1 g2;exact⟨a1,(wD a1 K.one).1 a2⟩) with ⟨g1,g2⟩ | ⟨j,e',g1,g2,g3⟩
     ·refine⟨_,vR w ad.block (.map (es.push { key:=z8 ag2 sh2 k,val:=vx,born:=clock }) (clock+1)),σ,?_,hq,jD hg hh he had hes (λ_=>by simp [Rep]) λhext hnew=> ?_⟩
      ·simp only [Instr.mapUpdate,Sem.run_bind,run_underlying hu,Result.andThen_ok,Go.MapKept.run_getObj_map hes,K.check _ k k1,g2];exact Go.MapKept.run_setObj_map _ hes
      ·simp only [BRep];refine⟨ad,_,_,l++[k],had,hnew,hone,⟨?_,hst.push _ _⟩,λy=> ?_,qx.2 ⟨by simpa using hl,λi e2 y h1 h2=> ?_⟩⟩
       ·rw [List.nodup_append];exact⟨hnd,by simp,λa ha b hb=>by simp at hb; subst hb; exactλhab=>g1 (hab▸ha)⟩
       ·simp only [zR,Bool.or_eq_true,aK,hhas,bY,List.mem_singleton];exact Or.comm
       ·simp only [Array.toList_push,bT] at h1;rw [bT] at h2;by_cases hi:i<l.length
        ·rw [aP (by omega)] at h1;rw [aP hi] at h2;obtain⟨a1,a2,a3⟩:=hget i e2 y h1 h2;refine⟨a1,zn hext _ _ a2,?_⟩;have hne:y≠k:=λhy=>g1 (hy▸aY h2)
         simp only [zB,aO hne];exact zn hext _ _ a3
        ·rw [aO (by omega)] at h1;rw [aO hi] at h2
         have hi0:i - l.length=0:=by
          have:=(aG.1 h2).1;simp at this; omega
         rw [hl,hi0] at h1;rw [hi0] at h2;simp at h1 h2;subst h1; subst h2;refine⟨k1,(wD k1 K.one).2 rfl,?_⟩;simp only [zB,if_true];exact zn hext _ _ hxv
     ·have g1':es[j]?=some e':=by simpa using g1
      obtain⟨_,b2,_⟩:=hget j e' k g1 g2;have hkey:e'.key=z8 ag2 sh2 k:=(wD k1 K.one).1 b2;refine⟨_,vR w ad.block (.map (es.modify j λe=>{ e with key:=z8 ag2 sh2 k,val:=vx }) clock),σ,?_,hq,jD hg hh he had hes (λ_=>by simp [Rep]) λhext hnew=> ?_⟩
      ·simp only [Instr.mapUpdate,Sem.run_bind,run_underlying hu,Result.andThen_ok,Go.MapKept.run_getObj_map hes,K.check _ k k1,g3,g1',Option.map_some,Option.getD_some,hkey,K.stays k k1];exact Go.MapKept.run_setObj_map _ hes
      ·simp only [BRep];refine⟨ad,_,_,l,had,hnew,hone,⟨hnd,hst.turn j (λ_=>rfl)⟩,λy=> ?_,qx.2 ⟨by simpa using hl,λi e2 y h1 h2=> ?_⟩⟩
       ·simp only [zR,Bool.or_eq_true,aK,hhas];exact⟨λh=>h.elim (λh=>h▸aY g2) id,.inr⟩
       ·simp only [Array.getElem?_toList,Array.getElem?_modify] at h1;by_cases hij:j=i
        ·subst hij;rw [aP rfl,g1'] at h1;simp only [Option.map_some,aE] at h1;subst h1;rw [g2] at h2; cases h2;refine⟨k1,(wD k1 K.one).2 rfl,?_⟩;simp only [zB,if_true];exact zn hext _ _ hxv
        ·rw [aO hij] at h1;obtain⟨a1,a2,a3⟩:=hget i e2 y (by simpa using h1) h2;refine⟨a1,zn hext _ _ a2,?_⟩
         have hne:y≠k:=λhy=>by
          subst hy;exact hij ((List.getElem?_inj (aG.1 g2).1 hnd).1 (g2.trans h2.symm))
         simp only [zB,aO hne];exact zn hext _ _ a3
    ·exact hq.elim
   ·exact hq.elim
  ·exact hq.elim
 ·exact hq.elim
theorem Xk{h:Heap}(hg:Good O w σ)(hh:HRep (Own O σ) w σ h){t ty:TypeId}{tk:TypeId}{m key:AV}{vm vk:Value}(hm:Rep (Own O σ) w m σ vm)(hk0:Rep (Own O σ) w key σ vk){Q:Res->Prop}(hq:(zcf P h t m key).holds Q) :
  ∃ r w' Z',(Builtin.delete_ #[t,tk] ty #[vm,vk]).run P w = .ok (.tuple #[]) w'/\Q r/\Post O w σ h r (.tuple #[]) w' Z':=by
 unfold zcf at hq;split at hq
 ·rename_i i;split at hq
  ·rename_i ag sh has get pe ag' sh' k kt et hb hk hu;split at hq
   ·rename_i ag2 sh2 hs;split at hq
    ·rename_i hc;obtain⟨rfl,rfl,rfl,rfl⟩:=hc;have K:=xd (w:=w) hs;obtain⟨k1,rfl⟩:=kQ hk hk0;simp only [Rep] at hm;obtain⟨e,ad,he,had,rfl⟩:=hm;have hB:=hh.blk i e _ he hb;simp only [BRep] at hB;obtain⟨ad',es,clock,l,had',hes,hone,⟨hnd,hst⟩,hhas,hE⟩:=hB;rw [had] at had'; cases had';obtain⟨hl,hget⟩:=qx.1 hE;have rt:∀ w',Rep (Own O σ) w' (.tup []) σ (.tuple #[]):=λw'=>by simp [Rep,RepL]
     rcases K.find k k1 es.toList l hl (λi e x g1 g2=>by
       obtain⟨a1,a2,_⟩:=hget i e x g1 g2;exact⟨a1,(wD a1 K.one).1 a2⟩) with ⟨g1,g2⟩ | ⟨j,e',g1,g2,g3⟩
     ·refine⟨_,vR w ad.block (.map es clock),σ,?_,hq,jD hg hh he had hes rt λhext hnew=> ?_⟩
      ·simp only [Builtin.delete_,Sem.run_bind,run_underlying hu,Result.andThen_ok,Go.MapKept.run_getObj_map hes,K.check _ k k1,g2,Go.MapKept.run_setObj_map _ hes,Sem.run_pure,List.getElem?_toArray,List.getElem?_cons_zero,List.getElem?_cons_succ];rfl
      ·simp only [BRep];refine⟨ad,_,_,l,had,hnew,hone,⟨hnd,hst.none⟩,λy=> ?_,hE.ext hext⟩;simp only [XP,bA,Bool.not_eq_true',aV,hhas];exact⟨λh=>h.2,λh=>⟨λhy=>g1 (hy▸h),h⟩⟩
     ·have g1':es[j]?=some e':=by simpa using g1
      have hjs:j<es.size:=(aQ.1 g1').1;refine⟨_,vR w ad.block (.map (es.eraseIdxIfInBounds j) clock),σ,?_,hq,jD hg hh he had hes rt λhext hnew=> ?_⟩
      ·simp only [Builtin.delete_,Sem.run_bind,run_underlying hu,Result.andThen_ok,Go.MapKept.run_getObj_map hes,K.check _ k k1,g3,Go.MapKept.run_setObj_map _ hes,Sem.run_pure,List.getElem?_toArray,List.getElem?_cons_zero,List.getElem?_cons_succ];rfl
      ·simp only [BRep]
       have hlist:(es.eraseIdxIfInBounds j).toList=es.toList.eraseIdx j:=by
        unfold Array.eraseIdxIfInBounds;rw [dif_pos hjs,Array.toList_eraseIdx]
       have hjl:j<l.length:=(aG.1 g2).1;refine⟨ad,_,_,l.eraseIdx j,had,hnew,hone,⟨(List.eraseIdx_sublist _ _).nodup hnd,hst.erase hlist⟩,λy=> ?_,qx.2 ⟨?_,λi e2 y h1 h2=> ?_⟩⟩
       ·simp only [XP,bA,Bool.not_eq_true',aV,hhas,List.mem_eraseIdx_iff_getElem?];constructor
        ·rintro⟨h1,h2⟩;obtain⟨i,hi⟩:=List.mem_iff_getElem?.1 h2;refine⟨i,λhij=>h1 ?_,hi⟩;subst hij;rw [g2] at hi; cases hi; rfl
        ·rintro⟨i,hij,hi⟩;refine⟨λhy=>hij ?_,aY hi⟩;subst hy;exact(List.getElem?_inj (aG.1 hi).1 hnd).1 (hi.trans g2.symm)
       ·rw [hlist,List.length_eraseIdx,List.length_eraseIdx,hl]
       ·rw [hlist,List.getElem?_eraseIdx] at h1;rw [List.getElem?_eraseIdx] at h2;split at h1
        ·rename_i hij;rw [aP hij] at h2;obtain⟨a1,a2,a3⟩:=hget i e2 y h1 h2;exact⟨a1,zn hext _ _ a2,zn hext _ _ a3⟩
        ·rename_i hij;rw [aO hij] at h2;obtain⟨a1,a2,a3⟩:=hget (i+1) e2 y h1 h2;exact⟨a1,zn hext _ _ a2,zn hext _ _ a3⟩
    ·exact hq.elim
   ·exact hq.elim
  ·exact hq.elim
 ·exact hq.elim
theorem find_born{l:List MapEntry}(hn:(l.map (·.born)).Nodup){j:Nat}{e0:MapEntry}(h:l[j]?=some e0):l.findIdx? (λe=>((e.born:Nat):Int) == ((e0.born:Nat):Int))=some j:=by
 induction l generalizing j with
 | nil=>simp at h
 | cons a r ih=>
  simp only [List.map_cons,List.nodup_cons] at hn;cases j with
  | zero=>
   simp only [List.getElem?_cons_zero,aE] at h;subst h;simp [List.findIdx?_cons]
  | succ j=>
   simp only [List.getElem?_cons_succ] at h;have hne:a.born≠e0.born:=λe1=>hn.1 (List.mem_map.2 ⟨e0,aY h,e1.symm⟩)
   have hb:(((a.born:Nat):Int) == ((e0.born:Nat):Int))=false:=by
    simp only [beq_eq_false_iff_ne,ne_eq,Int.natCast_inj];exact hne
   rw [List.findIdx?_cons,hb];simp [ih hn.2 h]
theorem KM{h:Heap}(hg:Good O w σ)(hh:HRep (Own O σ) w σ h){t:TypeId}{m key:AV}{vm vk:Value}(hm:Rep (Own O σ) w m σ vm)(hk0:Rep (Own O σ) w key σ vk){Q:Res->Prop}(hq:(zfc P h t m key).holds Q) :
  ∃ r v w' Z',(Instr.mapEntry t vm vk).run P w = .ok v w'/\Q r/\Post O w σ h r v w' Z':=by
 unfold zfc at hq;split at hq
 ·rename_i i;split at hq
  ·rename_i ag sh has get pe ag' sh' k kt et hb hk hu;split at hq
   ·rename_i ag2 sh2 z hs hz;split at hq
    ·rename_i hc;obtain⟨rfl,rfl,rfl,rfl⟩:=hc;have K:=xd (w:=w) hs;obtain⟨k1,rfl⟩:=kQ hk hk0;simp only [Rep] at hm;obtain⟨e,ad,he,had,rfl⟩:=hm;have hB:=hh.blk i e _ he hb;simp only [BRep] at hB;obtain⟨ad',es,clock,l,had',hes,hone,⟨hnd,hst⟩,hhas,hE⟩:=hB;rw [had] at had'; cases had';obtain⟨hl,hget⟩:=qx.1 hE
     have hzr:(zeroValue et).run P w = .ok z w:=by
      cases hin:P.info? et with
      | none=>simp [hin] at hz
      | some inf=>
       simp only [hin,Option.bind_some] at hz;simp [zeroValue,run_typeInfo w hin,hz]
     have hq:=hq.2
     have rv:∀ (v0:Value) (n:Nat) w',Rep (Own O σ) w' (.tup [.undef,.i (n:Int)]) σ (.tuple #[v0,goInt n]):=λv0 n w'=>by
      simp only [Rep];exact⟨[v0,goInt n],rfl,by simp only [RepL]; exact⟨_,_,rfl,by simp [Rep],_,_,rfl,by simp [Rep,goInt],rfl⟩⟩
     rcases K.find k k1 es.toList l hl (λi e x g1 g2=>by
       obtain⟨a1,a2,_⟩:=hget i e x g1 g2;exact⟨a1,(wD a1 K.one).1 a2⟩) with ⟨g1,g2⟩ | ⟨j,e',g1,g2,g3⟩
     ·refine⟨_,.tuple #[z,goInt clock],vR w ad.block (.map (es.push { key:=z8 ag2 sh2 k,val:=z,born:=clock }) (clock+1)),σ,?_,hq (clock:Int) trivial,jD hg hh he had hes (rv z clock) λhext hnew=> ?_⟩
      ·simp only [Instr.mapEntry,Sem.run_bind,run_underlying hu,Result.andThen_ok,Go.MapKept.run_getObj_map hes,K.check _ k k1,g2,hzr,Go.MapKept.run_setObj_map _ hes,Sem.run_pure];rfl
      ·simp only [BRep];have hp:=hst.push (z8 ag2 sh2 k) z (l':=l++[k]);refine⟨ad,_,_,l++[k],had,hnew,hone,⟨?_,hp.nd,hp.lt,λk' st hk'=> ?_⟩,λy=> ?_,qx.2 ⟨by simpa using hl,λi e2 y h1 h2=> ?_⟩⟩
       ·rw [List.nodup_append];exact⟨hnd,by simp,λa ha b hb=>by simp at hb; subst hb; exactλhab=>g1 (hab▸ha)⟩
       ·simp only [aE,bE] at hk';obtain⟨rfl,rfl⟩:=hk';refine⟨es.size,_,Array.getElem?_push_size,?_,rfl⟩;rw [<- Array.length_toList,hl];simp
       ·simp only [zR,Bool.or_eq_true,aK,hhas,bY,List.mem_singleton];exact Or.comm
       ·simp only [Array.toList_push,bT] at h1;rw [bT] at h2;by_cases hi:i<l.length
        ·rw [aP (by omega)] at h1;rw [aP hi] at h2;obtain⟨a1,a2,a3⟩:=hget i e2 y h1 h2;refine⟨a1,zn hext _ _ a2,?_⟩;have hne:y≠k:=λhy=>g1 (hy▸aY h2)
         simp only [zB,aO hne];exact zn hext _ _ a3
        ·rw [aO (by omega)] at h1;rw [aO hi] at h2
         have hi0:i - l.length=0:=by
          have:=(aG.1 h2).1;simp at this; omega
         rw [hl,hi0] at h1;rw [hi0] at h2;simp at h1 h2;subst h1; subst h2;refine⟨k1,(wD k1 K.one).2 rfl,?_⟩;simp [zB,Rep]
     ·have g1':es[j]?=some e':=by simpa using g1
      obtain⟨_,b2,_⟩:=hget j e' k g1 g2;have hkey:e'.key=z8 ag2 sh2 k:=(wD k1 K.one).1 b2;refine⟨_,.tuple #[e'.val,goInt e'.born],vR w ad.block (.map (es.modify j λe=>{ e with key:=z8 ag2 sh2 k }) clock),σ,?_,hq (e'.born:Int) trivial,jD hg hh he had hes (rv e'.val e'.born) λhext hnew=> ?_⟩
      ·simp only [Instr.mapEntry,Sem.run_bind,run_underlying hu,Result.andThen_ok,Go.MapKept.run_getObj_map hes,K.check _ k k1,g3,g1',Option.map_some,Option.getD_some,hkey,K.stays k k1,Go.MapKept.run_setObj_map _ hes,Sem.run_pure];rfl
      ·simp only [BRep];have hp:=hst.turn (l':=l) j (f:=λe=>{ e with key:=z8 ag2 sh2 k }) (λ_=>rfl);refine⟨ad,_,_,l,had,hnew,hone,⟨hnd,hp.nd,hp.lt,λk' st hk'=> ?_⟩,λy=> ?_,qx.2 ⟨by simpa using hl,λi e2 y h1 h2=> ?_⟩⟩
       ·simp only [aE,bE] at hk';obtain⟨rfl,rfl⟩:=hk';exact⟨j,{ e' with key:=z8 ag2 sh2 k },by rw [Array.getElem?_modify,aP rfl,g1']; rfl,g2,rfl⟩
       ·simp only [zR,Bool.or_eq_true,aK,hhas];exact⟨λh=>h.elim (λh=>h▸aY g2) id,.inr⟩
       ·simp only [Array.getElem?_toList,Array.getElem?_modify] at h1;by_cases hij:j=i
        ·subst hij;rw [aP rfl,g1'] at h1;simp only [Option.map_some,aE] at h1;subst h1;rw [g2] at h2; cases h2;refine⟨k1,(wD k1 K.one).2 rfl,?_⟩;simp [zB,Rep]
        ·rw [aO hij] at h1;obtain⟨a1,a2,a3⟩:=hget i e2 y (by simpa using h1) h2;refine⟨a1,zn hext _ _ a2,?_⟩
         have hne:y≠k:=λhy=>by
          subst hy;exact hij ((List.getElem?_inj (aG.1 g2).1 hnd).1 (g2.trans h2.symm))
         simp only [zB,aO hne];exact zn hext _ _ a3
    ·exact hq.elim
   ·exact hq.elim
  ·exact hq.elim
 ·exact hq.elim
theorem Yd{h:Heap}(hg:Good O w σ)(hh:HRep (Own O σ) w σ h){t:TypeId}{m s x:AV}{vm vs vx:Value}(hm:Rep (Own O σ) w m σ vm)(hs:Rep (Own O σ) w s σ vs)(hx:Rep (Own O σ) w x σ vx){Q:Res->Prop}(hq:(zc8 h m s x).holds Q) :
  ∃ r w' Z',(Instr.entryStore t vm vs vx).run P w = .ok () w'/\Q r/\Post O w σ h r undef w' Z':=by
 unfold zc8 at hq;split at hq
 ·rename_i i ik st;split at hq
  ·rename_i ag sh has get k st' hb;split at hq
   ·rename_i hpl;obtain⟨rfl,hq⟩:=hq;have hq:=hq rfl;simp only [Rep] at hm hs;obtain⟨e,ad,he,had,rfl⟩:=hm;have hB:=hh.blk i e _ he hb;simp only [BRep] at hB;obtain⟨ad',es,clock,l,had',hes,hone,⟨hnd,hst⟩,hhas,hE⟩:=hB;rw [had] at had'; cases had';obtain⟨hl,hget⟩:=qx.1 hE;have hxv:=yI hpl hx;obtain⟨j,e',g1',g2,g4⟩:=hst.pend k st rfl;have g1:es.toList[j]?=some e':=by simpa using g1'
    obtain⟨b1,b2,_⟩:=hget j e' k g1 g2;refine⟨_,vR w ad.block (.map (es.modify j λe=>{ e with val:=vx }) clock),σ,?_,hq,jD hg hh he had hes (λ_=>by simp [Rep]) λhext hnew=> ?_⟩
    ·subst g4
     have hidx:es.findIdx? (λe=>((e.born:Nat):Int) == ((e'.born:Nat):Int))=some j:=by
      have:=find_born hst.nd g1;cases es;simpa using this
     rw [hs];simp only [Instr.entryStore,Sem.run_bind,Go.MapKept.run_getObj_map hes,Result.andThen_ok,asInt,asIntOf,Sem.run_pure,hidx];exact Go.MapKept.run_setObj_map _ hes
    ·simp only [BRep];refine⟨ad,_,_,l,had,hnew,hone,⟨hnd,hst.turn j (λ_=>rfl)⟩,hhas,qx.2 ⟨by simpa using hl,λi e2 y h1 h2=> ?_⟩⟩;simp only [Array.getElem?_toList,Array.getElem?_modify] at h1;by_cases hij:j=i
     ·subst hij;rw [aP rfl,g1'] at h1;simp only [Option.map_some,aE] at h1;subst h1;rw [g2] at h2; cases h2;refine⟨b1,zn hext _ _ b2,?_⟩;simp only [zB,if_true];exact zn hext _ _ hxv
     ·rw [aO hij] at h1;obtain⟨a1,a2,a3⟩:=hget i e2 y (by simpa using h1) h2;refine⟨a1,zn hext _ _ a2,?_⟩
      have hne:y≠k:=λhy=>by
       subst hy;exact hij ((List.getElem?_inj (aG.1 g2).1 hnd).1 (g2.trans h2.symm))
      simp only [zB,aO hne];exact zn hext _ _ a3
   ·exact hq.elim
  ·exact hq.elim
 ·exact hq.elim
theorem Ja{h:Heap}(hg:Good O w σ)(hh:HRep (Own O σ) w σ h){t:TypeId}{Q:Res->Prop}(hq:(Qd P h t).holds Q) :
  ∃ r v w' Z',(Instr.makeMap t none).run P w = .ok v w'/\Q r/\Post O w σ h r v w' Z':=by
 unfold Qd at hq;split at hq
 ·rename_i kt et hu;split at hq
  ·rename_i ag sh hs;have K:=xd (w:=w) hs;refine⟨_,.map (some w.heap.size),w.alloc (.map #[] 0),σ++[⟨some ⟨w.heap.size,0,none⟩,0⟩],?_,hq,?_⟩
   ·simp [Instr.makeMap,newObj,Sem.run_bind,Sem.run_pure];rfl
   ·have hx:=qt (O:=O) hh (.map #[] 0) 0;have hd:=q5 (O:=O) hh (.map #[] 0) ⟨some ⟨w.heap.size,0,none⟩,0⟩
    have hB:BRep (Own O (σ++[⟨some ⟨w.heap.size,0,none⟩,0⟩])) (w.alloc (.map #[] 0)) (σ++[⟨some ⟨w.heap.size,0,none⟩,0⟩]) ⟨some ⟨w.heap.size,0,none⟩,0⟩ (.map ag sh xL yn):=by
     simp only [BRep];exact⟨_,#[],0,[],rfl,heap_alloc_new w _,K.one,⟨List.nodup_nil,by simp,by simp,λk st h=>by cases h⟩,λk=>by simp [xL],trivial⟩
    refine⟨?_,hx,?_,hd,w9 hh hg _ _,λb _ hb=>Go.RowKit.Below.heap_alloc w _ b hb,λi e ad he had _=>Go.RowKit.Below.heap_alloc w _ _ (hh.lt i e ad he had)⟩
    ·simp only [Rep];exact⟨⟨some ⟨w.heap.size,0,none⟩,0⟩,⟨w.heap.size,0,none⟩,by rw [<- hh.len]; simp,rfl,rfl⟩
    ·simp only [zx,zk,qm,Nat.lt_irrefl,if_false];exact wv hh hB
  ·exact hq.elim
 ·exact hq.elim
theorem Ut{h h2:Heap}{i:Nat}{B B2:Blk}{r:AV}{v:Value}{w':World}{Z':List SE}(hlen:h2.length=h.length)(hi:i<h.length)(hsame:∀ j,j≠i->h2[j]?=h[j]?)(hB:∀ e,BRep (Own O Z') w' Z' e B2->BRep (Own O Z') w' Z' e B)(hp:Post O w σ h2 ⟨r,[(i,B2)],[]⟩ v w' Z'):Post O w σ h ⟨r,[(i,B)],[]⟩ v w' Z':=by
 refine⟨hp.rep,hp.ext,?_,hp.hold,hp.good,hp.km,hp.fr⟩;have:=hp.hp;simp only [zx,zk,qm,hlen,aP hi] at this;have e1:zk (zx [] h) [(i,B)]=h.set i B:=aP hi;show HRep _ _ _ (zk (zx [] h) [(i,B)]);rw [e1];refine⟨by rw [this.len]; simp [hlen],this.inj,this.lt,λj e b he hb=> ?_⟩;rw [List.getElem?_set] at hb;split at hb
 ·rename_i hij;subst hij;simp at hb;obtain⟨_,rfl⟩:=hb;exact hB e (this.blk i e B2 he (by rw [List.getElem?_set]; simp [hlen,hi]))
 ·rename_i hij;refine this.blk j e b he ?_;rw [List.getElem?_set,aO hij,hsame j (λh=>hij h.symm)];exact hb
theorem W4{h:Heap}{i:Nat}{B:Blk}(hh:HRep own w σ h)(hB:∀ e,σ[i]?=some e->BRep own w σ e B):HRep own w σ (h.set i B):=by
 refine⟨by simp [hh.len],hh.inj,hh.lt,λj e b he hb=> ?_⟩;rw [List.getElem?_set] at hb;split at hb
 ·rename_i hij;subst hij;simp at hb;obtain⟨_,rfl⟩:=hb;exact hB e he
 ·exact hh.blk j e b he hb
theorem X0{e:SE}{n sz:Nat}{g g':Nat->Nat->AV}(h:∀ j o,j<n->o<sz->g j o=g' j o)(hb:BRep own w σ e (.arr n sz g)):BRep own w σ e (.arr n sz g'):=by
 simp only [BRep] at hb ⊢;obtain⟨h1,h2 | ⟨ad,cs,el,h3,h4,h5,h6⟩⟩:=hb
 ·exact⟨h1,.inl h2⟩
 ·exact⟨h1,.inr ⟨ad,cs,el,h3,h4,h5,λj o hj ho=>by
   obtain⟨c,g1,g2,g3⟩:=h6 j o hj ho;exact⟨c,g1,g2,by rw [<- h j o hj ho]; exact g3⟩⟩⟩
theorem XS{h:Heap}(hg:Good O w σ)(hh:HRep (Own O σ) w σ h){t:TypeId}{i idx N:Nat}{k:IntKind}{f:Nat->Int}{a:AV}{x:Int}{va v:Value}(ha:Rep (Own O σ) w (.eptr i 1 idx 0) σ va)(hb:h[i]?=some (.arrI k N f))
  (hn:qj P t=some 1) (hc:cellsOf a=some [.int k x]) (hr:Rep (Own O σ) w a σ v) :
  ∃ w' Z',(Instr.storeAt t va v).run P w = .ok () w'/\Post O w σ h ⟨.undef,[(i,.arrI k N (updI f idx x))],[]⟩ undef w' Z':=by
 have hi:i<h.length:=(aG.1 hb).1;obtain⟨w',Z',h1,h2⟩:=uE (P:=P) (N:=N) (g:=tgI k f) (k:=[]) (cv':=[.int k x]) hg (W4 (i:=i) (B:=.arr N 1 (tgI k f)) hh λe he=>kV.1 (hh.blk i e _ he hb)) ha (by simp [hi]) hn (qz hc hr) rfl (by omega) (by rfl) (by simp);refine⟨w',Z',h1,Ut (by simp) hi (λj hj=>by rw [List.getElem?_set,aO (Ne.symm hj)]) (λe hB=>kV.2 (X0 (λj o hj ho=> ?_) hB)) h2⟩;have ho:o=0:=by omega
 subst ho;simp only [updG,tgI,updI];by_cases hji:j=idx
 ·subst hji; simp
 ·rw [aO (λq=>hji q.1),aO hji]
theorem XM{h:Heap}(hg:Good O w σ)(hh:HRep (Own O σ) w σ h){t:TypeId}{i idx N:Nat}{f:Nat->L8}{a:AV}{x:L8}{va v:Value}(ha:Rep (Own O σ) w (.eptr i 1 idx 0) σ va)(hb:h[i]?=some (.arrS N f))
  (hn:qj P t=some 1) (hc:cellsOf a=some [.str x]) (hr:Rep (Own O σ) w a σ v) :
  ∃ w' Z',(Instr.storeAt t va v).run P w = .ok () w'/\Post O w σ h ⟨.undef,[(i,.arrS N (updS f idx x))],[]⟩ undef w' Z':=by
 have hi:i<h.length:=(aG.1 hb).1;obtain⟨w',Z',h1,h2⟩:=uE (P:=P) (N:=N) (g:=tgS f) (k:=[]) (cv':=[.str x]) hg (W4 (i:=i) (B:=.arr N 1 (tgS f)) hh λe he=>kU.1 (hh.blk i e _ he hb)) ha (by simp [hi]) hn (qz hc hr) rfl (by omega) (by rfl) (by simp);refine⟨w',Z',h1,Ut (by simp) hi (λj hj=>by rw [List.getElem?_set,aO (Ne.symm hj)]) (λe hB=>kU.2 (X0 (λj o hj ho=> ?_) hB)) h2⟩;have ho:o=0:=by omega
 subst ho;simp only [updG,tgS,updS];by_cases hji:j=idx
 ·subst hji; simp
 ·rw [aO (λq=>hji q.1),aO hji]
end
end Go.Sx
end
section
namespace Go.Sx
variable [Stat]
open Go.RowKit (Below)
section
variable {O:Nat->Prop} {w:World} {σ:List SE} {P:Program}
theorem ub{own:Nat->Prop}{b:Builtin}{t:Array TypeId}{ty:TypeId}{args:List Operand}{ρ:Operand->AV}{ρc:Operand->Value}(hρ:∀ x,Rep own w (ρ x) σ (ρc x)){Q:AV->Prop}(hq:(yr b (args.map ρ)).holds Q) :
  (b = .max->∃ r v,(Builtin.max_ t ty (args.map ρc).toArray).run P w = .ok v w/\Q r/\Rep own w r σ v) /\
  (b = .min->∃ r v,(Builtin.min_ t ty (args.map ρc).toArray).run P w = .ok v w/\Q r/\Rep own w r σ v):=by
 match args,hq with
 | [x,y],hq=>
  have hx:=hρ x;have hy:=hρ y;simp only [List.map_cons,List.map_nil] at hq ⊢;generalize ρ x=a at hx hq;generalize ρ y=c at hy hq;cases a with
  | int k m=>
   cases c with
   | int k' m'=>
    simp only [yr] at hq;split at hq
    ·rename_i hk; subst hk;simp only [Rep] at hx hy;rw [hx,hy];constructor
     ·rintro rfl;refine⟨_,.int k (max m m'),?_,hq,by simp [Rep]⟩;simp [Builtin.max_,Builtin.max2];split<;>omega
     ·rintro rfl;refine⟨_,.int k (min m m'),?_,hq,by simp [Rep]⟩;simp [Builtin.min_,Builtin.min2];split<;>omega
    ·exact hq.elim
   | _=>exact hq.elim
  | _=>exact hq.elim
 | [],hq=>exact hq.elim
 | [_],hq=>simp only [List.map_cons,List.map_nil] at hq; generalize ρ _=a at hq; cases a<;>exact hq.elim
 | _::_::_::_,hq=>
  simp only [List.map_cons] at hq;generalize ρ _=a at hq;cases a<;>first | exact hq.elim | (rename_i hh; generalize ρ _=a at hq; cases a<;>exact hq.elim) | skip
  all_goals (simp only [yr] at hq; exact hq.elim)
theorem uv{own:Nat->Prop}{ρ:Operand->AV}{ρc:Operand->Value}(hρ:∀ x,Rep own w (ρ x) σ (ρc x))(l:List Operand):RepL own w (l.map ρ) σ (l.map ρc):=zt.2 ⟨by simp,λi a v ha hv=>by
 simp only [aN] at ha hv;cases hx:l[i]? with
 | none=>simp [hx] at ha
 | some x=>
  simp only [hx,Option.map_some,aE] at ha hv;subst ha; subst hv; exact hρ x⟩
theorem yH{ok ag:Bool}{sz:Nat}{get:Int->Nat->AV}{n:Int}{Q:AV->Prop} : ∀ {l:List Int},(XD ok ag sz get n l).holds Q->Q (qL ok (Zy ag sz (get n)) true)
 | [],h=>h.elim
 | k::l,h=>by
  by_cases hk:n=k
  ·subst hk; exact h.1 (aX rfl)
  ·exact yH (h.2 (aW hk))
theorem QC{ok ag:Bool}{sz:Nat}{get:Int->Nat->AV}{n:Int}{Q:AV->Prop} : ∀ {l:List Int},(V0 ok ag sz get n l).holds Q->Q (qL ok (Zy ag sz (get n)) true)
 | [],h=>h
 | _::_,h=>yH h
theorem WI{own:Nat->Prop}{h:Heap}(hh:HRep own w σ h){t:TypeId}{ok:Bool}{x i:AV}{vx vi:Value}(hx:Rep own w x σ vx)(hi2:Rep own w i σ vi){Q:AV->Prop}(hq:(yw P h t ok x i).holds Q) :
  ∃ r v,(Instr.lookup t vx vi ok).run P w = .ok v w/\Q r/\Rep own w r σ v:=by
 cases x with
 | mp k ag sz ks has get=>
  cases i with
  | int k' n=>
   simp only [yw] at hq;split at hq
   ·rename_i kt et hu;split at hq
    ·rename_i kk a z hk ha hz;split at hq
     ·rename_i hc;obtain⟨rfl,rfl,rfl⟩:=hc;simp only [Rep] at hx hi2;obtain⟨b,es,clock,rfl,hn,hlim,hb,hg⟩:=hx;subst hi2;have hck:∀ e,(Instr.checkKey e 10000 kt (.int kk n)).run P w = .ok () w:=λe=>Go.MapKept.run_checkKey hk (by simp [Go.MapKept.IsKey]) e 9999
      have hzr:(zeroValue et).run P w = .ok z w:=by
       cases hin:P.info? et with
       | none=>simp [hin] at hz
       | some inf=>
        simp only [hin,Option.bind_some] at hz;simp [zeroValue,run_typeInfo w hin,hz]
      have hrun:∀ r,Instr.findNow (.int kk) (.int kk n) es.toList 0=some r->(Instr.lookup t (.map (some b)) (.int kk n) ok).run P w=(match r with
        | some (_,v)=>.ok (if ok then .tuple #[v,.bool true] else v) w
        | none=>.ok (if ok then .tuple #[z,.bool false] else z) w):=by
       intro r hr;simp only [Instr.lookup,Sem.run_bind,run_underlying hu,Result.andThen_ok,Sem.run_pure,Go.MapKept.run_getObj_map hb,hck,Go.MapKept.run_findKey hk hr];cases r with
       | none=>simp [hzr]
       | some p=>simp
      cases hh:has n with
      | true=>
       obtain⟨j,y,h1,h2⟩:=(hg n).2 hh;have hq1:=QC (hq.1 hh)
       have hy:Rep own w (Zy a sz (get n)) σ y:=by
        cases a with
        | true=>
         obtain⟨vs,rfl,hl,hr⟩:=h2;simp only [Zy,cond_true,Rep];refine⟨vs,rfl,zt.2 ⟨by simp [hl],λo c v hc hv=> ?_⟩⟩;have ho:o<sz:=by rw [<- hl]; exact(aG.1 hv).1
         obtain⟨c',g1,g2⟩:=hr o ho;rw [hv] at g1; cases g1;simp [ho] at hc;subst hc;exact qi (K:=[]) (Ext.refl own w) (λi e he=>by simp at he) _ v (j6 _) g2
        | false=>
         simp only [Zy,cond_false];exact qi (K:=[]) (Ext.refl own w) (λi e he=>by simp at he) _ y (j6 _) h2
       refine⟨_,_,hrun _ h1,hq1,?_⟩;cases ok with
       | true=>
        simp only [qL,cond_true,if_true,Rep];exact⟨[y,.bool true],rfl,by simp only [RepL]; exact⟨_,_,rfl,hy,_,_,rfl,by simp [Rep],rfl⟩⟩
       | false=>simpa [qL] using hy
      | false=>
       have h1:=(hg n).1 hh;have hq1:=hq.2 hh;have hy:Rep own w (xH z) σ z:=wJ z;refine⟨_,_,hrun _ h1,hq1,?_⟩;cases ok with
       | true=>
        simp only [qL,cond_true,if_true,Rep];exact⟨[z,.bool false],rfl,by simp only [RepL]; exact⟨_,_,rfl,hy,_,_,rfl,by simp [Rep],rfl⟩⟩
       | false=>simpa [qL] using hy
     ·exact hq.elim
    ·exact hq.elim
   ·exact hq.elim
  | _=>simp only [yw] at hq; exact hq.elim
 | omap j=>exact Kv hh hx hi2 hq
 | _=>simp only [yw] at hq; exact hq.elim
theorem U6{h:Heap}{own:Nat->Prop}(hh:HRep own w σ h){ρ:Operand->AV}{ρc:Operand->Value}(hρ:∀ x,Rep own w (ρ x) σ (ρc x)){o:Oper}{Q:AV->Prop}(hq:(valX P ρ h o.op).holds Q) :
  ∃ r v,(execOp ρc o).run P w = .ok (.value v) w/\Q r/\Rep own w r σ v:=by
 cases ho:o.op<;>rw [ho] at hq<;>simp only [valX] at hq<;>try exact hq.elim
 case move x=>exact⟨_,_,by simp only [execOp,ho]; rfl,hq,hρ x⟩
 case assign x=>exact⟨_,_,by simp only [execOp,ho]; rfl,hq,hρ x⟩
 case build t parts=>
  obtain⟨r,v,h1,h2⟩:=Ku hρ hq;exact⟨r,v,by simp only [execOp,ho,Sem.run_bind,h1,Result.andThen_ok,Sem.run_pure],h2⟩
 case load t a=>
  obtain⟨r,v,h1,h2⟩:=Qb hh (hρ a) hq;exact⟨r,v,by simp only [execOp,ho,Sem.run_bind,h1,Result.andThen_ok,Sem.run_pure],h2⟩
 case nilCheck x=>exact UN ho (hρ x) hq
 case binOp op t x y yt=>
  obtain⟨r,v,h1,h2⟩:=za8 (x:=x) (y:=y) (hρ x) (hρ y) hq;exact⟨r,v,by simp only [execOp,ho,Sem.run_bind] at h1 ⊢; rw [h1]; rfl,h2⟩
 case unOp op t x=>
  obtain⟨r,v,h1,h2⟩:=zfb (P:=P) (hρ x) hq;exact⟨r,v,by simp only [execOp,ho,Sem.run_bind,h1,Result.andThen_ok,Sem.run_pure],h2⟩
 case convert s t x=>
  obtain⟨r,v,h1,h2⟩:=XO hh (hρ x) hq;exact⟨r,v,by simp only [execOp,ho,Sem.run_bind,h1,Result.andThen_ok,Sem.run_pure],h2⟩
 case makeFunc fn first cap=>
  cases fn with
  | func f=>
   refine⟨_,.func (.func f) (first.map ρc) (cap.map ρc),by simp [execOp,ho,Instr.makeFunc],hq,?_⟩;simp only [Rep];exact⟨first.toList.map ρc,cap.toList.map ρc,by rw [<- Array.toList_map,<- Array.toList_map],uv hρ _,uv hρ _⟩
  | _=>exact hq.elim
 case slice t x l hi mx=>
  cases mx with
  | none=>
   obtain⟨r,v,h1,h2⟩:=Kj hρ (hρ x) hq;exact⟨r,v,by simp only [execOp,ho,Sem.run_bind,Option.map_none,h1,Result.andThen_ok,Sem.run_pure],h2⟩
  | some m=>
   cases hi with
   | none=>exact hq.elim
   | some h'=>
    obtain⟨r,v,h1,h2⟩:=W0 hρ (hρ x) hq;exact⟨r,v,by simp only [execOp,ho,Sem.run_bind,Option.map_some,h1,Result.andThen_ok,Sem.run_pure],h2⟩
 case fieldAddr t x f=>
  split at hq
  ·rename_i o' a b hf;obtain⟨r,v,h1,h2⟩:=Zd hf (hρ x) hq;exact⟨r,v,by simp only [execOp,ho,Sem.run_bind,h1,Result.andThen_ok,Sem.run_pure],h2⟩
  ·exact hq.elim
 case field t x f=>
  obtain⟨r,v,h1,h2⟩:=Vo (hρ x) hq;exact⟨r,v,by simp only [execOp,ho,Sem.run_bind,h1,Result.andThen_ok,Sem.run_pure],h2⟩
 case indexAddr t x i=>
  obtain⟨r,v,h1,h2⟩:=QZ (hρ x) (hρ i) hq;exact⟨r,v,by simp only [execOp,ho,Sem.run_bind,h1,Result.andThen_ok,Sem.run_pure],h2⟩
 case index t x i=>
  obtain⟨r,v,h1,h2⟩:=V8 (hρ x) (hρ i) hq;exact⟨r,v,by simp only [execOp,ho,Sem.run_bind,h1,Result.andThen_ok,Sem.run_pure],h2⟩
 case lookup t x i ok=>
  obtain⟨r,v,h1,h2⟩:=WI hh (hρ x) (hρ i) hq;exact⟨r,v,by simp only [execOp,ho,Sem.run_bind,h1,Result.andThen_ok,Sem.run_pure],h2⟩
 case extract t i=>
  obtain⟨r,v,h1,h2⟩:=QU (P:=P) (hρ t) hq;exact⟨r,v,by simp only [execOp,ho,Sem.run_bind,h1,Result.andThen_ok,Sem.run_pure],h2⟩
 case call c=>
  obtain⟨callee,args,ats⟩:=c;cases callee with
  | builtin b=>
   cases b<;>try exact hq.elim
   case len=>
    obtain⟨args⟩:=args;obtain⟨ats⟩:=ats
    match ats,args,hq with
    | [t],[x],hq=>
     obtain⟨r,v,h1,h2⟩:=U2 (ty:=o.type) (hρ x) hq;refine⟨r,v,?_,h2⟩;simp only [execOp,ho,resolve,Sem.run_bind,Sem.run_pure,Result.andThen_ok,invoke,builtin,List.map_toArray,List.map_cons,List.map_nil];rw [h1]; rfl
    | [],_,hq=>exact hq.elim
    | _::_::_,_,hq=>exact hq.elim
    | [_],[],hq=>exact hq.elim
    | [_],_::_::_,hq=>exact hq.elim
   case max=>
    obtain⟨r,v,h1,h2⟩:=(ub (P:=P) (t:=ats) (ty:=o.type) hρ hq).1 rfl;refine⟨r,v,?_,h2⟩;simp only [execOp,ho,resolve,Sem.run_bind,Sem.run_pure,Result.andThen_ok,invoke,builtin];rw [show(args.map ρc)=(args.toList.map ρc).toArray by rw [<- Array.toList_map],h1]; rfl
   case min=>
    obtain⟨r,v,h1,h2⟩:=(ub (P:=P) (t:=ats) (ty:=o.type) hρ hq).2 rfl;refine⟨r,v,?_,h2⟩;simp only [execOp,ho,resolve,Sem.run_bind,Sem.run_pure,Result.andThen_ok,invoke,builtin];rw [show(args.map ρc)=(args.toList.map ρc).toArray by rw [<- Array.toList_map],h1]; rfl
  | _=>exact hq.elim
theorem Post.still{h:Heap}(hg:Good O w σ)(hh:HRep (Own O σ) w σ h){r:AV}{v:Value}(hr:Rep (Own O σ) w r σ v):Post O w σ h ⟨r,[],[]⟩ v w σ :=
 ⟨hr,Ext.refl _ _,hh,Hold.refl _ _ _,hg,λ_ _ _=>rfl,λ_ _ _ _ _ _=>rfl⟩
theorem zdx{Xp:List PanicEntry->Prop}{h:Heap}{Γ:Nat->Option Ctr}(hΓ:∀ g c,Γ g=some c->j2 Xp P g c)(hg:Good O w σ)(hh:HRep (Own O σ) w σ h){a:Act}{ρ:Operand->AV}(hρ:∀ x,Rep (Own O σ) w (ρ x) σ (a.eval x)){o:Oper}
  {Q:Res->Prop} (hq:(opX P Γ ρ h o.op).holds Q) {K:Act->World->Prop} {Qe:Exit->Act->World->Prop} (hK:∀ r v w' Z',Q r->Post O w σ h r v w' Z'->K (a.put o.dst v) w') (hD:∀ ch w',Xp ch->Died σ w w'->Qe (.panic ch) a w'):o.wp P a w K Qe:=by
 have hval:(valX P ρ h o.op).holds (λv=>Q ⟨v,[],[]⟩)->o.wp P a w K Qe:=λhq=>by
  obtain⟨r,v,h1,h2,h3⟩:=U6 (P:=P) hh hρ hq;unfold Oper.wp;rw [h1];exact hK _ v w σ h2 (Post.still hg hh h3)
 cases ho:o.op<;>rw [ho] at hq hval<;>simp only [opX] at hq<;>try exact hval (Tree.zo.1 hq)
 case alloc t=>
  split at hq
  ·rename_i cs hz;obtain⟨v,hv,hr⟩:=vp (P:=P) (own:=Own O σ) (w:=w) (σ:=σ) hz;unfold Oper.wp
   have:(execOp a.eval o).run P w = .ok (.value (.pointer (some ⟨w.heap.size,0,none⟩))) (w.alloc (.cells v.cells t)):=by
    simp only [execOp,ho,Instr.alloc,Sem.run_bind,hv,Result.andThen_ok];simp [newVar,newRow]
   rw [this];have hp:=uK hg hh (el:=t) hr;simp only [Array.toArray_toList] at hp;exact hK _ _ _ _ hq hp
  ·exact hq.elim
 case box t x=>
  split at hq
  ·rename_i cs hc;have hr:=qz hc (hρ x);unfold Oper.wp
   have:(execOp a.eval o).run P w = .ok (.value (.pointer (some ⟨w.heap.size,0,none⟩))) (w.alloc (.cells (a.eval x).cells t)):=by
    simp only [execOp,ho,Instr.box,Sem.run_bind];simp [newVar,newRow]
   rw [this];have hp:=uK hg hh (el:=t) hr;simp only [Array.toArray_toList] at hp;exact hK _ _ _ _ hq hp
  ·exact hq.elim
 case buildSlice t len parts=>
  split at hq
  ·rename_i e hu;split at hq
   ·rename_i zs sz hz hs;split at hq
    ·rename_i hlen;split at hq
     ·rename_i cs hf;rw [Bool.cond_eq_ite] at hq;split at hq
      ·obtain⟨v,w',Z',h1,h2⟩:=Z6 hg hh hρ hu hz hs hlen.1 hlen.2 hf;unfold Oper.wp
       have:(execOp a.eval o).run P w = .ok (.value v) w':=by
        simp only [execOp,ho,Sem.run_bind,h1,Result.andThen_ok,Sem.run_pure]
       rw [this];exact hK _ _ _ _ hq h2
      split at hq
      ·rename_i cs' k hfr;obtain⟨v,w',Z',h1,h2⟩:=uD hg hh hρ hu hz hs hlen.1 hlen.2 hf hfr;unfold Oper.wp
       have:(execOp a.eval o).run P w = .ok (.value v) w':=by
        simp only [execOp,ho,Sem.run_bind,h1,Result.andThen_ok,Sem.run_pure]
       rw [this];exact hK _ _ _ _ hq h2
      ·exact hq.elim
     ·exact hq.elim
    ·exact hq.elim
   ·exact hq.elim
  ·exact hq.elim
 case store t x y=>
  have hst:∀ w',(Instr.storeAt t (a.eval x) (a.eval y)).run P w = .ok () w'->(execOp a.eval o).run P w = .ok .skip w':=λw' h=>by
   simp only [execOp,ho,Sem.run_bind,h,Result.andThen_ok,Sem.run_pure]
  have hx:=hρ x;have hy:=hρ y;generalize ρ x=ax at hx hq;generalize ρ y=ay at hy hq;cases ax with
  | ptr i off=>
   simp only [XY] at hq;split at hq
   ·rename_i cells n cv hb hn hc;split at hq
    ·rename_i hcond;obtain⟨w',h1,h2⟩:=Jr hg hh hx hb hn (qz hc hy) hcond.1 hcond.2.1 hcond.2.2;unfold Oper.wp;rw [hst w' h1];exact hK _ _ _ _ hq h2
    ·exact hq.elim
   ·exact hq.elim
  | eptr i sz idx off=>
   simp only [XY] at hq;split at hq
   ·rename_i N sz' g n cv hb hn hc;split at hq
    ·rename_i hcond;split at hq
     ·rename_i cv' k hf;split at hq
      ·exact hq.elim
      ·rename_i hk;obtain⟨rfl,hc1,hc2⟩:=hcond;obtain⟨w',Z',h1,h2⟩:=uE hg hh hx hb hn (qz hc hy) hc1 hc2 hf (by simpa using hk);unfold Oper.wp;rw [hst w' h1];exact hK _ _ _ _ hq h2
     ·exact hq.elim
    ·exact hq.elim
   ·rename_i k N f n k' v hb hn hc;split at hq
    ·rename_i hcond;obtain⟨rfl,rfl,rfl⟩:=hcond;obtain⟨w',Z',h1,h2⟩:=XS hg hh hx hb hn hc hy;unfold Oper.wp;rw [hst w' h1];exact hK _ _ _ _ hq h2
    ·exact hq.elim
   ·rename_i N f n v hb hn hc;split at hq
    ·rename_i hcond;obtain⟨rfl,rfl⟩:=hcond;obtain⟨w',Z',h1,h2⟩:=XM hg hh hx hb hn hc hy;unfold Oper.wp;rw [hst w' h1];exact hK _ _ _ _ hq h2
    ·exact hq.elim
   ·rename_i cells n cv hb hn hc;split at hq
    ·rename_i hcond
     have hx':Rep (Own O σ) w (.ptr i (idx*sz+off)) σ (a.eval x):=by
      simp only [Rep] at hx ⊢;obtain⟨e,ad,g1,g2,_,g3⟩:=hx;exact⟨e,ad,g1,g2,g3⟩
     obtain⟨w',h1,h2⟩:=Jr hg hh hx' hb hn (qz hc hy) hcond.1 hcond.2.1 hcond.2.2;unfold Oper.wp;rw [hst w' h1];exact hK _ _ _ _ hq h2
    ·exact hq.elim
   ·exact hq.elim
  | _=>exact hq.elim
 case makeMap t r=>
  cases r with
  | none=>
   obtain⟨r,v,w',Z',h1,h2,h3⟩:=Ja (P:=P) hg hh hq;unfold Oper.wp
   have:(execOp a.eval o).run P w = .ok (.value v) w':=by
    simp only [execOp,ho,Sem.run_bind,Option.map_none,h1,Result.andThen_ok,Sem.run_pure]
   rw [this];exact hK _ _ _ _ h2 h3
  | some _=>exact hval (Tree.zo.1 hq)
 case mapUpdate t m k x=>
  obtain⟨r,w',Z',h1,h2,h3⟩:=Zs (P:=P) hg hh (hρ m) (hρ k) (hρ x) hq;unfold Oper.wp
  have:(execOp a.eval o).run P w = .ok .skip w':=by
   simp only [execOp,ho,Sem.run_bind,h1,Result.andThen_ok,Sem.run_pure]
  rw [this];exact hK _ _ _ _ h2 h3
 case mapEntry t m k=>
  obtain⟨r,v,w',Z',h1,h2,h3⟩:=KM (P:=P) hg hh (hρ m) (hρ k) hq;unfold Oper.wp
  have:(execOp a.eval o).run P w = .ok (.value v) w':=by
   simp only [execOp,ho,Sem.run_bind,h1,Result.andThen_ok,Sem.run_pure]
  rw [this];exact hK _ _ _ _ h2 h3
 case entryStore t m s x=>
  obtain⟨r,w',Z',h1,h2,h3⟩:=Yd (P:=P) (t:=t) hg hh (hρ m) (hρ s) (hρ x) hq;unfold Oper.wp
  have:(execOp a.eval o).run P w = .ok .skip w':=by
   simp only [execOp,ho,Sem.run_bind,h1,Result.andThen_ok,Sem.run_pure]
  rw [this];exact hK _ _ _ _ h2 h3
 case insert t m k x=>
  obtain⟨r,w',Z',h1,h2,h3⟩:=Zs (P:=P) hg hh (hρ m) (hρ k) (hρ x) hq;unfold Oper.wp
  have:(execOp a.eval o).run P w = .ok .skip w':=by
   simp only [execOp,ho,Sem.run_bind,h1,Result.andThen_ok,Sem.run_pure]
  rw [this];exact hK _ _ _ _ h2 h3
 case makeSlice t l c=>
  split at hq
  ·rename_i e kl lv kc cv hu hl hc;split at hq
   ·rename_i i z hi hz;split at hq
    ·rename_i hcond;obtain⟨hsd,hq⟩:=hq;have hQ:=hq hsd;have hl':=hρ l;have hc':=hρ c;rw [hl] at hl';rw [hc] at hc';simp only [Rep] at hl' hc';obtain⟨v,w',Z',h1,h2⟩:=Zc (kl:=kl) (kc:=kc) hg hh hu hi hz hcond.1 hcond.2 hsd.1 hsd.2.1 hsd.2.2.1 hsd.2.2.2;unfold Oper.wp
     have:(execOp a.eval o).run P w = .ok (.value v) w':=by
      simp only [execOp,ho,Sem.run_bind,hl',hc',h1,Result.andThen_ok,Sem.run_pure]
     rw [this];exact hK _ _ _ _ hQ h2
    ·exact hq.elim
   ·exact hq.elim
  ·exact hq.elim
 case call c=>
  obtain⟨callee,args,ats⟩:=c;cases callee with
  | builtin b=>
   by_cases hb:b = .append
   ·subst hb;obtain⟨args⟩:=args;obtain⟨ats⟩:=ats
    match ats,args,hq with
    | [t,tx],[x,y],hq=>
     obtain⟨r,v,w',Z',h1,h2,h3⟩:=W6 (ty:=o.type) hg hh (hρ x) (hρ y) hq;unfold Oper.wp
     have:(execOp a.eval o).run P w = .ok (.value v) w':=by
      simp only [execOp,ho,resolve,Sem.run_bind,Sem.run_pure,Result.andThen_ok,invoke,builtin,List.map_toArray,List.map_cons,List.map_nil];rw [h1]; rfl
     rw [this];exact hK _ _ _ _ h2 h3
    | [],_,hq=>exact hq.elim
    | [_],_,hq=>exact hq.elim
    | _::_::_::_,_,hq=>exact hq.elim
    | [_,_],[],hq=>exact hq.elim
    | [_,_],[_],hq=>exact hq.elim
    | [_,_],_::_::_::_,hq=>exact hq.elim
   ·by_cases hb2:b = .delete
    ·subst hb2;obtain⟨args⟩:=args;obtain⟨ats⟩:=ats
     match ats,args,hq with
     | [t,tk],[m,k],hq=>
      obtain⟨r,w',Z',h1,h2,h3⟩:=Xk (P:=P) (ty:=o.type) (tk:=tk) hg hh (hρ m) (hρ k) hq;unfold Oper.wp
      have:(execOp a.eval o).run P w = .ok (.value (.tuple #[])) w':=by
       simp only [execOp,ho,resolve,Sem.run_bind,Sem.run_pure,Result.andThen_ok,invoke,builtin,List.map_toArray,List.map_cons,List.map_nil];rw [h1]; rfl
      rw [this];exact hK _ _ _ _ h2 h3
     | [],_,hq=>exact hq.elim
     | [_],_,hq=>exact hq.elim
     | _::_::_::_,_,hq=>exact hq.elim
     | [_,_],[],hq=>exact hq.elim
     | [_,_],[_],hq=>exact hq.elim
     | [_,_],_::_::_::_,hq=>exact hq.elim
    ·refine hval ?_;cases b<;>first | exact absurd rfl hb | exact absurd rfl hb2 | exact Tree.zo.1 hq
  | invoke r m=>exact hq.elim
  | value f=>
   have hf:=hρ f;simp only at hq;generalize ρ f=af at hf hq;cases af with
   | fn g first cap=>
    simp only [Rep] at hf;obtain⟨va,vb,hv,h1,h2⟩:=hf;have hargs:=(h1.app (uv hρ args.toList)).app h2;have hc:=Xo (P:=P) hΓ hg hh hargs hq
    have hcall:(execOp a.eval o).run P w=(callFunc g (va++args.toList.map a.eval++vb).toArray).run P w:=by
     simp only [execOp,ho,resolve,hv,Deferred.ofValue,Sem.run_bind,Sem.run_pure,Result.andThen_ok,invoke];congr 2;simp
    unfold Oper.wp;rcases hc with ⟨h3,h4⟩ | ⟨v,w',h3,r,Z',h4,h5⟩
    ·rw [hcall,h3];refine h4.mono λe w' he=> ?_
     rcases he with ⟨v,he,r,Z',hQ,hP⟩ | ⟨ch,he,h5,h6⟩
     ·subst he; exact hK _ _ _ _ hQ hP
     ·subst he; exact hD ch w' h5 h6
    ·rw [hcall,h3];exact hK _ _ _ _ h4 h5
   | _=>exact hq.elim
theorem Kh{h:Heap}{Γ:Nat->Option Ctr}{ρ:Operand->AV}{op:Op}{Q:Res->Prop}(hq:(opX P Γ ρ h op).holds Q):∀ c,op≠.defer c:=by
 rintro c rfl;exact hq.elim
end
def FM:Option Nat->Fence
 | none=>Fence.wide
 | some l=>Fence.wide.inRound l
theorem zbr(M:Option Nat)(f:Nat):(FM M).fn f:=by cases M<;>trivial
theorem zax(M:Option Nat):(FM M).depth=none:=by cases M<;>rfl
theorem Jz(P:Program)(M:Option Nat):Machine.fenced P (FM M)=Machine.fenced P Fence.wide:=by cases M<;>rfl
theorem zgv{P:Program}{M:Option Nat}{n:Nat}{f:FuncId}{args:Array Value}{w:World}{R:Ending->World->Prop}(h:Calls P f args w R):CallsIn (FM M) n P f args w R:=by
 refine⟨zbr M f,λcs _=> ?_⟩;obtain⟨e,w',fr,r,s,x⟩:=h cs;exact⟨e,w',fr,r,by rw [Jz]; exact comesIn_wide.2 s,x⟩
theorem ZV{P:Program}{M:Option Nat}{n:Nat}{o:Oper}{a:Act}{w:World}{K:Act->World->Prop}{Qe:Exit->Act->World->Prop}(hd:∀ c,o.op≠.defer c)(h:o.wp P a w K Qe):o.wpIn (FM M) n P a w K Qe:=by
 refine⟨λf _=>zbr M f,?_⟩;rw [Oper.semAt_eq _ _ _ hd];unfold Oper.wp at h;have hdep:(FM M).depth.isSome=true->1<=n:=by rw [zax]; simp
 cases hr:(execOp a.eval o).run P w with
 | ok x w'=>
  rw [hr] at h
  cases x<;>first
   | exact h
   | exact⟨hdep,zgv h⟩
   | exact⟨hdep,λc cs _=>by
     obtain⟨v,w'',r,s⟩:=h c cs;exact⟨v,w'',r,by rw [Jz]; exact stepsIn_wide.2 s⟩⟩
   | exact h.elim
 | halt x w'=>
  rw [hr] at h
  cases x<;>first
   | exact h
   | exact h.elim
end Go.Sx
end
section
namespace Go.Sx
variable [Stat]
open Go.RowKit (Below)
def TRep(own:Nat->Prop)(w:World)(σ:List SE)(tmps:Array Value):AV->Value->Prop
 | .opt t want x,v=>(tmps.getD t undef = .bool want/\Rep own w x σ v)\/(tmps.getD t undef≠.bool want/\v=undef)
 | a,v=>Rep own w a σ v
def vK(pin:Nat)(w:World)(σ:List SE)(w':World)(Z':List SE):Prop:=
 ∀ (i:Nat) (e:SE),i<pin->σ[i]?=some e->Z'[i]?=some e/\∀ ad,e.ad=some ad->∀ cs el,w.heap[ad.block]?=some (.cells cs el (0,0)) ->
  ∃ cs' el',w'.heap[ad.block]?=some (.cells cs' el' (0,0))/\cs'.size=cs.size
structure Stp(O:Nat->Prop)(pin:Nat)(w:World)(σ:List SE)(w':World)(Z':List SE):Prop where
 ext:Ext (Own O σ) w (Own O Z') w'
 km:∀ b,O b->b<w.heap.size->w'.heap[b]?=w.heap[b]?
 hold:vK pin w σ w' Z'
theorem Stp.refl(O:Nat->Prop)(pin:Nat)(w:World)(σ:List SE):Stp O pin w σ w σ:=⟨Ext.refl _ _,λ_ _ _=>rfl,λ_ _ _ h=>⟨h,λ_ _ cs el h=>⟨cs,el,h,rfl⟩⟩⟩
theorem Stp.trans{O:Nat->Prop}{pin:Nat}{w1 w2 w3:World}{E1 E2 E3:List SE}(h:Stp O pin w1 E1 w2 E2)(k:Stp O pin w2 E2 w3 E3):Stp O pin w1 E1 w3 E3:=
 ⟨h.ext.trans k.ext,λb hb hlt=>(k.km b hb (bB hlt h.ext.size)).trans (h.km b hb hlt),λi e hi he=>by
  obtain⟨h1,h2⟩:=h.hold i e hi he;obtain⟨h3,h4⟩:=k.hold i e hi h1;refine⟨h3,λad had cs el hcs=> ?_⟩;obtain⟨cs2,el2,h5,h6⟩:=h2 ad had cs el hcs;obtain⟨cs3,el3,h7,h8⟩:=h4 ad had cs2 el2 h5;exact⟨cs3,el3,h7,h8.trans h6⟩⟩
theorem vK.of{K:List Nat}{pin:Nat}{w w':World}{σ Z':List SE}(h:Hold K w σ w' Z')(hk:∀ i∈K,pin<=i):vK pin w σ w' Z':=
 λi e hi he=>h i e he λhm=>by have:=hk i hm; omega
def Marks(w0:World)(own:Nat->Prop)(w:World)(ds:List Deferred):Prop:=
 ds.Nodup/\∀ d∈ds,∃ D,d={ target:=.collected D,args:= #[] } /\ w0.heap.size<=D/\¬ own D/\w.heap[D]?=some (.deferred (some []))
theorem Marks.nil(w0:World)(own:Nat->Prop)(w:World):Marks w0 own w []:=⟨List.nodup_nil,λd hd=>by cases hd⟩
theorem Marks.ext{w0 w w':World}{own own':Nat->Prop}{ds:List Deferred}(h:Marks w0 own w ds)(hx:Ext own w own' w'):Marks w0 own' w' ds:=
 ⟨h.1,λd hd=>by
  obtain⟨D,h1,h2,h3,h4⟩:=h.2 d hd;have hlt:=(aQ.1 h4).1;exact⟨D,h1,h2,hx.uz hlt h3,by rw [hx.keep D hlt h3]; exact h4⟩⟩
structure Mod(O:Nat->Prop)(pin:Nat)(w0:World)(I0:List SE)(w:World)(σ:List SE)(st:St)(a:Act):Prop where
 good:Good O w σ
 hp:HRep (Own O σ) w σ st.heap
 size:a.tmps.size=st.tmps.length
 tm:∀ t,TRep (Own O σ) w σ a.tmps (st.tmps.getD t .undef) (a.tmps.getD t undef)
 df:Marks w0 (Own O σ) w a.defers
 since:Stp O pin w0 I0 w σ
 lim:vC (Own O I0) w0
section
variable {O:Nat->Prop} {pin:Nat} {w0:World} {I0:List SE} {w:World} {σ:List SE} {P:Program} {st:St} {a:Act}
structure Dead(I0:List SE)(w0 w':World)(ds:List Deferred):Prop where
 died:Died I0 w0 w'
 df:Marks w0 (λ_=>False) w' ds
theorem Mod.dead{w':World}(hm:Mod O pin w0 I0 w σ st a)(h:Died σ w w'):Dead I0 w0 w' a.defers:=by
 refine⟨⟨h.os.trans hm.since.ext.os,h.tape.trans hm.since.ext.tape,h.output.trans hm.since.ext.output,bP hm.since.ext.size h.size,λb hb hn=> ?_,λb hb=>hb.elim⟩,hm.df.ext ⟨h.os,h.tape,h.output,h.size,λb hb hn=>h.keep b hb λhx=>hn (.inr hx),λb hb=>hb.elim⟩⟩
 have h1:¬ Mine σ b:=λhx=>by
  obtain⟨i,e,ad,g1,g2,g3⟩:=zw.1 hx;rcases hm.since.ext.grow b (.inr hx) with hy | hy
  ·rcases hy with hy | hy
   ·exact hm.good.dis i e ad g1 g2 (g3▸hy)
   ·exact hn hy
  ·omega
 rw [h.keep b (bB hb hm.since.ext.size) h1];by_cases hO:O b
 ·exact hm.since.km b hO hb
 ·exact hm.since.ext.keep b hb λhx=>by rcases hx with hx | hx; exact hO hx; exact hn hx
theorem TRep.rep{own:Nat->Prop}{tmps:Array Value}{x:AV}{v:Value}(h:TRep own w σ tmps x v):Rep own w (see [] x) σ v:=by
 cases x<;>simp only [TRep,see] at h ⊢ <;> first | exact h | simp [Rep]
theorem za9{own:Nat->Prop}{tmps:Array Value}{K:List (Nat×Bool)}(hK:∀ p∈K,tmps.getD p.1 undef = .bool p.2){x:AV}{v:Value}(h:TRep own w σ tmps x v):Rep own w (see K x) σ v:=by
 cases x with
 | opt t want x=>
  simp only [TRep,see] at h ⊢;split
  ·rename_i hc;have:=hK (t,want) (by simpa using hc);rcases h with h | h
   ·exact h.2
   ·exact absurd this h.1
  ·simp [Rep]
 | _=>simpa only [TRep,see] using h
theorem kA(hm:Mod O pin w0 I0 w σ st a){K:List (Nat×Bool)}(hK:∀ p∈K,a.tmps.getD p.1 undef = .bool p.2)(x:Operand):Rep (Own O σ) w (zM st K x) σ (a.eval x):=by
 cases x with
 | tmp t=>exact za9 hK (hm.tm t)
 | const v=>exact wJ v
 | global g=>
  simp only [zM,Act.eval];cases hz:Stat.z g with
  | none=>simp [Rep]
  | some a=>
   obtain⟨h1,c,h2,h3,_⟩:=hm.good.stat.at_ g a hz;simp only [Rep]
   exact⟨⟨g,0,none⟩,rfl,rfl,λo ho=>⟨h1,c,(by
    have:o=0:=by omega
    subst this; exact h2),h3⟩⟩
 | func f=>simp only [zM,Act.eval,Rep]; exact⟨[],[],rfl,by simp [RepL],by simp [RepL]⟩
theorem Jn{own own':Nat->Prop}{w':World}{Z':List SE}{K:List Nat}{tmps tmps':Array Value}(hx:Ext own w own' w')(hh:Hold K w σ w' Z'){x:AV}{v:Value}(h:TRep own w σ tmps x v)
  (ht:∀ t want y,x = .opt t want y->tmps'.getD t undef=tmps.getD t undef):TRep own' w' Z' tmps' (z7 K x) v:=by
 cases K with
 | nil=>
  simp only [z7];cases x with
  | opt t want y=>
   simp only [TRep] at h ⊢;rw [ht t want y rfl];rcases h with ⟨h1,h2⟩ | h
   ·exact .inl ⟨h1,qi hx hh y v (j6 y) h2⟩
   ·exact .inr h
  | _=>simp only [TRep] at h ⊢; exact qi hx hh _ v (j6 _) h
 | cons i k=>
  have hr:Rep own' w' (z7 (i::k) x) Z' v:=by
   have hx':Rep own w (z7 (i::k) x) σ v:=by
    cases x with
    | opt t want y=>
     have:Rep own w (.opt t want y) σ v:=by simp [Rep]
     exact jW this
    | _=>exact jW (by simpa only [TRep] using h)
   exact qi hx hh _ v (kF _ _) hx'
  cases hz:z7 (i::k) x with
  | opt t want y=>
   have hx1:=kN hz;have hf:=Vq hz;subst hx1;simp only [TRep] at h ⊢;rw [ht t want y rfl];rcases h with ⟨h1,h2⟩ | h
   ·exact .inl ⟨h1,qi hx hh y v (zaw hf) h2⟩
   ·exact .inr h
  | _=>rw [hz] at hr; simpa only [TRep] using hr
theorem getD_map{f:AV->AV}(hf:f .undef = .undef)(l:List AV)(t:Nat):(l.map f).getD t .undef=f (l.getD t .undef):=by
 simp only [List.getD,aN];cases l[t]?<;>simp [hf]
theorem jR:∀ K:List Nat,z7 K .undef = .undef
 | []=>rfl
 | i::k=>by simp only [z7,zY,jm]; exact jR k
theorem ze9{own:Nat->Prop}{d:Nat}{tmps tmps':Array Value}{x:AV}{v:Value}(h:TRep own w σ tmps x v)(ht:∀ t,t≠d->tmps'.getD t undef=tmps.getD t undef):TRep own w σ tmps' (qh d x) v:=by
 cases x with
 | opt t want y=>
  simp only [qh];split
  ·simp [TRep,Rep]
  ·rename_i hne;simp only [TRep] at h ⊢;rw [ht t hne]; exact h
 | _=>simpa only [qh,TRep] using h
theorem ka(hm:Mod O pin w0 I0 w σ st a){r:Res}{v:Value}{w':World}{Z':List SE}(hp:Post O w σ st.heap r v w' Z')(hpin:∀ i∈r.kill,pin<=i)(dst:Option Nat){x:AV}
  (hx:∀ d,dst=some d->TRep (Own O Z') w' Z' (a.put dst v).tmps x v):Mod O pin w0 I0 w' Z' (putX st dst ⟨x,r.eff,r.kill⟩) (a.put dst v):=by
 have htk:∀ t,TRep (Own O Z') w' Z' a.tmps ((v9 r.kill st.tmps).getD t .undef) (a.tmps.getD t undef):=λt=>by
  rw [jV,getD_map (jR _)];exact Jn hp.ext hp.hold (hm.tm t) (λ_ _ _ _=>rfl)
 cases dst with
 | none=>
  exact⟨hp.good,hp.hp,by simp [putX,Act.put,jV,hm.size],htk,hm.df.ext hp.ext,hm.since.trans ⟨hp.ext,hp.km,vK.of hp.hold hpin⟩,hm.lim⟩
 | some d=>
  have hsz:(a.put (some d) v).tmps.size=a.tmps.size:=by simp [Act.put]
  refine⟨hp.good,hp.hp,by simp [putX,jV,hm.size,hsz],λt=> ?_,by simpa [Act.put] using hm.df.ext hp.ext,hm.since.trans ⟨hp.ext,hp.km,vK.of hp.hold hpin⟩,hm.lim⟩;have hl:((v9 r.kill st.tmps).map (qh d)).length=a.tmps.size:=by simp [jV,hm.size]
  simp only [putX];by_cases htd:t=d
  ·subst htd;by_cases hlt:t<a.tmps.size
   ·have e1:(((v9 r.kill st.tmps).map (qh t)).set t x).getD t .undef=x:=by
     simp only [List.getD];rw [List.getElem?_set_self (by rw [hl]; exact hlt)]; rfl
    have e2:(a.put (some t) v).tmps.getD t undef=v:=by simp [Act.put,hlt]
    rw [e1,e2];exact hx t rfl
   ·have e1:(((v9 r.kill st.tmps).map (qh t)).set t x).getD t .undef = .undef:=by
     simp only [List.getD];rw [aZ (by simp [jV]; rw [<- hm.size]; omega)]; rfl
    rw [e1];simp [TRep,Rep]
  ·have e1:(((v9 r.kill st.tmps).map (qh d)).set d x).getD t .undef=qh d ((v9 r.kill st.tmps).getD t .undef):=by
    rw [<- getD_map (f:=qh d) rfl];simp only [List.getD];rw [bS (λh=>htd h.symm)]
   have hother:∀ u,u≠d->(a.put (some d) v).tmps.getD u undef=a.tmps.getD u undef:=λu hu=>by
    simp only [Act.put,bQ];rw [Array.getElem?_setIfInBounds_ne (λh=>hu h.symm)]
   rw [e1,hother t htd];exact ze9 (htk t) hother
theorem wk{q:Prop}{u:Nat}{want:Bool}{Q:Res->Prop}(hq:q):∀ {t:Tree Res},(vW q u want t).holds Q->t.holds λr=>∃ v,r=⟨v,[],[]⟩/\Q ⟨.opt u want v,[],[]⟩
 | .leaf ⟨v,[],[]⟩,h=>⟨v,rfl,h⟩
 | .leaf ⟨_,_::_,_⟩,h=>h.elim
 | .leaf ⟨_,[],_::_⟩,h=>h.elim
 | .ite _ _ _,h=>⟨λhb=>wk hq (h.1 hb),λhb=>wk hq (h.2 hb)⟩
 | .side _ _,h=>⟨h.1 hq,λ_=>wk hq (h.2 h.1)⟩
 | .ex _ _,h=>by obtain⟨x,h1,h2⟩:=h; exact⟨x,h1 hq,wk hq h2⟩
 | .all _ _,h=>by
  obtain⟨⟨x,h1⟩,h2⟩:=h;exact⟨⟨x,h1 hq⟩,λy hy=>wk hq (h2 y λ_=>hy)⟩
 | .fail,h=>h.elim
theorem wY{q:Prop}{u:Nat}{want:Bool}{Q:Res->Prop} : ∀ {t:Tree Res},(vW q u want t).holds Q->∃ v,Q ⟨.opt u want v,[],[]⟩
 | .leaf ⟨v,[],[]⟩,h=>⟨v,h⟩
 | .leaf ⟨_,_::_,_⟩,h=>h.elim
 | .leaf ⟨_,[],_::_⟩,h=>h.elim
 | .ite true _ _,h=>wY (h.1 rfl)
 | .ite false _ _,h=>wY (h.2 rfl)
 | .side _ _,h=>wY (h.2 h.1)
 | .ex _ _,h=>by obtain⟨x,_,h2⟩:=h; exact wY h2
 | .all _ _,h=>by obtain⟨⟨x,h1⟩,h2⟩:=h; exact wY (h2 x h1)
 | .fail,h=>h.elim
theorem jK{q:Prop}{u:Nat}{want:Bool}{Q Q':Res->Prop}(hQ:∀ v,Q ⟨.opt u want v,[],[]⟩->Q' ⟨.opt u want v,[],[]⟩):∀ {t:Tree Res},(vW q u want t).holds Q->(vW q u want t).holds Q'
 | .leaf ⟨v,[],[]⟩,h=>hQ v h
 | .leaf ⟨_,_::_,_⟩,h=>h.elim
 | .leaf ⟨_,[],_::_⟩,h=>h.elim
 | .ite _ _ _,h=>⟨λhb=>jK hQ (h.1 hb),λhb=>jK hQ (h.2 hb)⟩
 | .side _ _,h=>⟨h.1,λhp=>jK hQ (h.2 hp)⟩
 | .ex _ _,h=>by obtain⟨x,h1,h2⟩:=h; exact⟨x,h1,jK hQ h2⟩
 | .all _ _,h=>⟨h.1,λx hx=>jK hQ (h.2 x hx)⟩
 | .fail,h=>h.elim
theorem k7(hm:Mod O pin w0 I0 w σ st a):∀ (n t:Nat) (want:Bool),a.tmps.getD t undef = .bool want->∀ p∈qN st.tmps n t want,a.tmps.getD p.1 undef = .bool p.2
 | 0,t,want,h,p,hp=>by simp [qN] at hp; subst hp; exact h
 | n+1,t,want,h,p,hp=>by
  simp only [qN,aM] at hp;rcases hp with rfl | hp
  ·exact h
  ·have ht:=hm.tm t;generalize st.tmps.getD t .undef=x at ht hp;cases x<;>simp only at hp<;>try (cases hp; done)
   rename_i u w' y;simp only [TRep] at ht;rcases ht with ⟨h1,_⟩ | ⟨_,h2⟩
   ·exact k7 hm n u w' h1 p hp
   ·rw [h2] at h; cases h
theorem kR(hm:Mod O pin w0 I0 w σ st a):∀ (n t:Nat) (want:Bool) (q:Prop),jH st.tmps n t want=some q->a.tmps.getD t undef = .bool want->q
 | 0,t,want,q,hq,h=>by simp [jH] at hq
 | n+1,t,want,q,hq,h=>by
  simp only [jH] at hq;have ht:=hm.tm t;generalize st.tmps.getD t .undef=x at ht hq;split at hq
  ·rename_i b;simp only [TRep,Rep] at ht;rw [ht] at h;cases hq;cases h; rfl
  ·rename_i u w' b;split at hq
   ·rename_i p hp;cases hq;simp only [TRep,Rep] at ht;rcases ht with ⟨h1,h2⟩ | ⟨_,h2⟩
    ·rw [h2] at h;cases h;exact⟨kR hm n u w' p hp h1,rfl⟩
    ·rw [h2] at h; cases h
   ·cases hq
  ·cases hq
theorem yo(hm:Mod O pin w0 I0 w σ st a):∀ (n t:Nat) (want:Bool) (g:Bool),xe st.tmps n t want=some g->(a.tmps.getD t undef = .bool want↔g=true)
 | 0,t,want,g,hq=>by simp [xe] at hq
 | n+1,t,want,g,hq=>by
  simp only [xe] at hq;have ht:=hm.tm t;generalize st.tmps.getD t .undef=x at ht hq;split at hq
  ·rename_i b;simp only [TRep,Rep] at ht;rw [ht];cases hq;cases b<;>cases want<;>simp
  ·rename_i u w' b;split at hq
   ·rename_i g' hg';cases hq;have ih:=yo hm n u w' g' hg';simp only [TRep,Rep] at ht;rcases ht with ⟨h1,h2⟩ | ⟨h1,h2⟩
    ·rw [h2,ih.1 h1];cases b<;>cases want<;>simp
    ·rw [h2]
     have:g'=false:=by
      cases g' with
      | false=>rfl
      | true=>exact absurd (ih.2 rfl) h1
     rw [this];simp [undef]
   ·cases hq
  ·cases hq
theorem X4(hm:Mod O pin w0 I0 w σ st a){K:List (Nat×Bool)}(hK:∀ p∈K,a.tmps.getD p.1 undef = .bool p.2){o:Oper}{t:Nat}{x y:Operand}(ho:o.op = .pick (.tmp t) x y){Q:AV->Prop}
  (hq:(zd3 (λb=>match b with | true=>zM st ((t,true)::K) x | false=>zM st ((t,false)::K) y) (zM st K (.tmp t))).holds Q) :
  ∃ r v,(execOp a.eval o).run P w = .ok (.value v) w/\Q r/\Rep (Own O σ) w r σ v:=by
 have hc:=kA hm hK (.tmp t);generalize zM st K (.tmp t)=c at hc hq;cases c with
 | bool cb=>
  simp only [Rep] at hc;have hct:a.tmps.getD t undef = .bool cb:=hc;simp only [zd3] at hq;split at hq
  ·rename_i p q h1 h2;refine⟨_,.bool (bif cb then p else q),?_,hq,by simp [Rep]⟩;simp only [execOp,ho,hc,asBool,Sem.run_bind,Sem.run_pure,Result.andThen_ok];cases cb with
   | true=>
    have:=kA hm (K:=(t,true)::K) (λz hz=>by rcases aM.1 hz with rfl | hz; exact hct; exact hK z hz) x;rw [h1] at this;simp only [Rep] at this;simp [this]
   | false=>
    have:=kA hm (K:=(t,false)::K) (λz hz=>by rcases aM.1 hz with rfl | hz; exact hct; exact hK z hz) y;rw [h2] at this;simp only [Rep] at this;simp [this]
  ·exact hq.elim
 | _=>exact hq.elim
end
end Go.Sx
end
section
namespace Go.Sx
variable [Stat]
open Go.RowKit (Below)
section
variable {O:Nat->Prop} {pin:Nat} {w0:World} {I0:List SE} {w:World} {σ:List SE} {P:Program} {st:St} {a:Act} {Γ:Nat->Option Ctr} {Xp:List PanicEntry->Prop}
theorem uW{ops:Array Oper}{tmps:Array Value}{j t:Nat}{want:Bool}(h:(ops[j]?).bind (·.dst)=some t):(yielded ops tmps j == some want)=true↔tmps.getD t undef = .bool want:=by
 unfold yielded;rw [h];simp only [Option.bind_some,bQ];cases ht:tmps[t]? with
 | none=>simp [undef]
 | some v=>cases v<;>simp
theorem JP{α:Type}{r:Res}{t:Tree α}{Q:α->Prop}(h:(pinX pin r t).holds Q):(∀ i∈r.kill,pin<=i)/\t.holds Q:=by
 unfold pinX at h;split at h
 ·rename_i hk; rw [hk]; exact⟨by simp,h⟩
 ·split at h
  ·rename_i hall; exact⟨λi hi=>by simpa using bG.1 hall i hi,h⟩
  ·exact h.elim
theorem uw(hΓ:∀ g c,Γ g=some c->j2 Xp P g c)(hm:Mod O pin w0 I0 w σ st a){K:List (Nat×Bool)}(hK:∀ p∈K,a.tmps.getD p.1 undef = .bool p.2){o:Oper}{Q:Res->Prop}(hq:(opV P Γ st K o.op).holds Q)
  {Kc:Act->World->Prop} {Qe:Exit->Act->World->Prop} (hKc:∀ r v w' Z',Q r->Post O w σ st.heap r v w' Z'->Kc (a.put o.dst v) w') (hP:∀ ch a w',Xp ch->Dead I0 w0 w' a.defers->Qe (.panic ch) a w'):o.wp P a w Kc Qe:=by
 unfold opV at hq;split at hq
 ·rename_i c x y hop;rw [Tree.zo] at hq;unfold zfr at hq;split at hq
  ·rename_i t;obtain⟨r,v,h1,h2,h3⟩:=X4 (P:=P) hm hK hop hq;unfold Oper.wp;rw [h1];exact hKc ⟨r,[],[]⟩ v w σ h2 (Post.still hm.good hm.hp h3)
  ·exact hq.elim
 ·exact zdx hΓ hm.good hm.hp (kA hm hK) hq hKc λch w' h1 h2=>hP ch a w' h1 (hm.dead h2)
theorem Wi(hΓ:∀ g c,Γ g=some c->j2 Xp P g c)(hm:Mod O pin w0 I0 w σ st a){ops:Array Oper}{o:Oper}{Q:Res->Prop}(hq:(qZ P Γ ops st o).holds Q){K:Act->World->Prop}{Qe:Exit->Act->World->Prop}
  (hK:∀ r w' Z' v,Q r->((∀ i∈r.kill,pin<=i)->Mod O pin w0 I0 w' Z' (putX st o.dst r) (a.put o.dst v))->K (a.put o.dst v) w') (hP:∀ ch a w',Xp ch->Dead I0 w0 w' a.defers->Qe (.panic ch) a w') :
  if Region.wanted o (yielded ops a.tmps) then o.wp P a w K Qe else K (a.put o.dst undef) w:=by
 unfold qZ at hq;split at hq
 ·rename_i hgd;rw [aP (by simp [Region.wanted,hgd])];rw [Tree.zo] at hq;refine uw hΓ hm (by simp) hq (λr v w' Z' hQ hP=>hK _ w' Z' v hQ λhpin=>ka hm hP hpin o.dst (λd hd=> ?_)) hP;have:=hP.rep;cases hr:r.val with
  | opt t want y=>simp [see,TRep,Rep]
  | _=>rw [hr] at this; simpa only [TRep,see] using this
 ·rename_i j want hgd;split at hq
  ·exact hq.elim
  ·rename_i t ht;split at hq
   ·unfold WB at hq;split at hq
    ·rename_i g d hgb hdst;split at hq
     ·rename_i hdt
      have hw:Region.wanted o (yielded ops a.tmps)=true↔a.tmps.getD t undef = .bool want:=by
       simp only [Region.wanted,hgd];exact uW ht
      have hput:∀ u,(a.put (some d) u).tmps.getD t undef=a.tmps.getD t undef:=λu=>by
       simp only [Act.put,bQ];rw [Array.getElem?_setIfInBounds_ne hdt]
      have hg:=yo hm 4 t want g hgb;by_cases hb:a.tmps.getD t undef = .bool want
      ·rw [aP (hw.2 hb)];have hKs:=k7 hm 4 t want hb;have h1:=hq.1 (hg.1 hb);rw [Tree.zo] at h1;refine uw hΓ hm hKs h1 (λr v w' Z' hQ hP=>hK _ w' Z' v hQ λhpin=>ka hm hP hpin o.dst (λd hd=> ?_)) hP;have:=hP.rep;cases hr:r.val with
       | opt t want y=>simp [see,TRep,Rep]
       | _=>rw [hr] at this; simpa only [TRep,see] using this
      ·rw [aO (λh=>hb (hw.1 h))]
       have hgf:g=false:=by
        cases g with
        | false=>rfl
        | true=>exact absurd (hg.2 rfl) hb
       have hQ:=hq.2 hgf;refine hK _ w σ _ hQ (λhpin=> ?_);rw [hdst];refine ka hm (r:=⟨.undef,[],[]⟩) (v:=undef) (Post.still hm.good hm.hp (by simp [Rep])) (by simp) (some d) (x:=.opt t want (zfl P o.type)) (λd' hd'=> ?_);cases hd';simp only [TRep];exact .inr ⟨by rw [hput]; exact hb,trivial⟩
     ·exact hq.elim
    ·exact hq.elim
   split at hq
   ·rename_i q d hgp hdst;split at hq
    ·rename_i hdt
     have hw:Region.wanted o (yielded ops a.tmps)=true↔a.tmps.getD t undef = .bool want:=by
      simp only [Region.wanted,hgd];exact uW ht
     have hput:∀ u,(a.put (some d) u).tmps.getD t undef=a.tmps.getD t undef:=λu=>by
      simp only [Act.put,bQ];rw [Array.getElem?_setIfInBounds_ne hdt]
     by_cases hb:a.tmps.getD t undef = .bool want
     ·rw [aP (hw.2 hb)];have hKs:=k7 hm 4 t want hb;have htr:=wk (kR hm 4 t want q hgp hb) hq;refine uw hΓ hm hKs htr (λr u w' Z' hr hP=> ?_) hP;obtain⟨v,rfl,hQ⟩:=hr;refine hK _ w' Z' _ hQ (λhpin=> ?_);rw [hdst];refine ka hm hP (by simp) (some d) (x:=.opt t want v) (λd' hd'=> ?_);cases hd';simp only [TRep];exact .inl ⟨by rw [hput]; exact hb,hP.rep⟩
     ·rw [aO (λh=>hb (hw.1 h))];obtain⟨v,hQ⟩:=wY hq;refine hK _ w σ _ hQ (λhpin=> ?_);rw [hdst];refine ka hm (r:=⟨.undef,[],[]⟩) (v:=undef) (Post.still hm.good hm.hp (by simp [Rep])) (by simp) (some d) (x:=.opt t want v) (λd' hd'=> ?_);cases hd';simp only [TRep];exact .inr ⟨by rw [hput]; exact hb,trivial⟩
    ·exact hq.elim
   ·exact hq.elim
theorem K9{K:List (Nat×Bool)}{op:Op}{Q:Res->Prop}(hq:(opV P Γ st K op).holds Q):∀ c,op≠.defer c:=by
 unfold opV at hq;split at hq
 ·intro c h; cases h
 ·exact Kh hq
theorem UT{K:List (Nat×Bool)}{c:Call} : opV P Γ st K (.defer c) = .fail:=rfl
theorem Jc{ops:Array Oper}{o:Oper}{Q:Res->Prop}(hq:(qZ P Γ ops st o).holds Q):∀ c,o.op≠.defer c:=by
 unfold qZ at hq;split at hq
 ·rw [Tree.zo] at hq;exact K9 hq
 ·split at hq
  ·exact hq.elim
  ·split at hq
   ·rename_i heff;intro c hc;rw [hc] at heff;cases heff
   ·split at hq
    ·split at hq
     ·intro c hc;rw [hc,UT] at hq;exact hq.elim
     ·exact hq.elim
    ·exact hq.elim
theorem xw{M:Option Nat}(hΓ:∀ g c,Γ g=some c->j2 Xp P g c)(hm:Mod O pin w0 I0 w σ st a){ops:Array Oper}{o:Oper}{Q:Res->Prop}(hq:(qZ P Γ ops st o).holds Q){K:Act->World->Prop}{Qe:Exit->Act->World->Prop}
  (hK:∀ r w' Z' v,Q r->((∀ i∈r.kill,pin<=i)->Mod O pin w0 I0 w' Z' (putX st o.dst r) (a.put o.dst v))->K (a.put o.dst v) w') (hP:∀ ch a w',Xp ch->Dead I0 w0 w' a.defers->Qe (.panic ch) a w') :
  if Region.wanted o (yielded ops a.tmps) then o.wpIn (FM M) 0 P a w K Qe else(∀ f,o.about P w a.eval=some f->(FM M).fn f)/\K (a.put o.dst undef) w:=by
 have h:=Wi hΓ hm hq hK (Qe:=Qe) hP;split
 ·rename_i hw; rw [aP hw] at h; exact ZV (Jc hq) h
 ·rename_i hw; rw [aO hw] at h; exact⟨λf _=>zbr M f,h⟩
theorem xR(h:uY st=true)(hm:Mod O pin w0 I0 w σ st a):False:=by
 unfold uY at h;split at h
 ·rename_i l hl;have:=hm.tm 0;rw [hl] at this;simp [TRep,Rep] at this
 ·cases h
theorem Jg{dst:Option Nat}{r:Res}(h:botR st dst r=true)(hm:(∀ i∈r.kill,pin<=i)->Mod O pin w0 I0 w σ (putX st dst r) a):False:=by
 unfold botR at h;split at h
 ·rename_i hv;split at h
  ·rename_i d;split at h
   ·rename_i hk;have h2:=(hm (by simp [hk])).tm d
    have e:(putX st (some d) r).tmps.getD d .undef = .bot:=by
     simp only [putX,hk,v9,hv,List.getD];rw [List.getElem?_set_self (by simpa using aB h)]; rfl
    rw [e] at h2;simp [TRep,Rep] at h2
   ·cases h
  ·cases h
 ·cases h
theorem KZ{M:Option Nat}(hΓ:∀ g c,Γ g=some c->j2 Xp P g c)(hm:Mod O pin w0 I0 w σ st a){ops:Array Oper}{o:Oper}{Q:St->Prop}(hq:(zdy P Γ pin ops st o).holds Q){K:Act->World->Prop}{Qe:Exit->Act->World->Prop}
  (hK:∀ st' w' Z' a',Q st'->Mod O pin w0 I0 w' Z' st' a'->K a' w') (hP:∀ ch a w',Xp ch->Dead I0 w0 w' a.defers->Qe (.panic ch) a w') :
  if Region.wanted o (yielded ops a.tmps) then o.wpIn (FM M) 0 P a w K Qe else(∀ f,o.about P w a.eval=some f->(FM M).fn f)/\K (a.put o.dst undef) w:=by
 unfold zdy at hq;rw [Tree.zo] at hq;refine xw hΓ hm hq (λr w' Z' v hQ hM=> ?_) hP;cases hb:botR st o.dst r with
 | true=>exact(Jg hb hM).elim
 | false=>
  rw [hb] at hQ;obtain⟨h1,h2⟩:=JP hQ;exact hK _ w' Z' _ h2 (hM h1)
theorem Je{ρ ρ':Operand->AV}{parts:Array (Nat×Operand)}(h:∀ p∈parts,ρ p.2=ρ' p.2):(parts.toList.map λp=>(p.1,ρ p.2))=parts.toList.map λp=>(p.1,ρ' p.2):=
 List.map_congr_left λp hp=>by rw [h p (by simpa using hp)]
theorem ki{ρ ρ':Operand->AV}{l:Array Operand}(h:∀ x∈l,ρ x=ρ' x):l.toList.map ρ=l.toList.map ρ':=List.map_congr_left λx hx=>h x (by simpa using hx)
theorem xW{ρ ρ':Operand->AV}{h:Heap}{op:Op}(he:∀ x∈op.operands,ρ x=ρ' x):valX P ρ h op=valX P ρ' h op:=by
 cases op with
 | call c=>
  obtain⟨callee,args,ats⟩:=c;have ha:∀ x∈args,ρ x=ρ' x:=λx hx=>he x (by simp [Op.operands,Call.operands,hx])
  cases callee with
  | builtin b=>
   cases b<;>simp only [valX]
   case len=>
    obtain⟨args⟩:=args;obtain⟨ats⟩:=ats
    match ats,args with
    | [t],[x]=>simp only [ha x (by simp)]
    | [],_=>rfl
    | _::_::_,_=>rfl
    | [_],[]=>rfl
    | [_],_::_::_=>rfl
   case max=>rw [ki ha]
   case min=>rw [ki ha]
  | _=>rfl
 | build t ps=>
  simp only [valX];rw [Je λp hp=>he p.2 (by simp only [Op.operands,List.mem_toArray,List.mem_map]; exact⟨p,by simpa using hp,rfl⟩)]
 | makeFunc f first cap=>
  cases f<;>simp only [valX]
  rw [ki λx hx=>he x (by simp [Op.operands,hx]),ki λx hx=>he x (by simp [Op.operands,hx])]
 | slice t x l hi m=>
  have hx:=he x (by simp [Op.operands]);cases m with
  | some m=>
   cases hi with
   | none=>simp only [valX]
   | some h'=>
    simp only [valX];rw [hx,he h' (by simp [Op.operands]),he m (by simp [Op.operands])];cases l with
    | none=>rfl
    | some l'=>simp only [Option.map_some]; rw [he l' (by simp [Op.operands])]
  | none=>
  simp only [valX];rw [hx];cases l<;>cases hi<;>simp only [Option.map_none,Option.map_some]
  ·rw [he _ (by simp [Op.operands])]
  ·rw [he _ (by simp [Op.operands])]
  ·rename_i l' h';rw [he l' (by simp [Op.operands]),he h' (by simp [Op.operands])]
 | move x=>simp only [valX,he x (by simp [Op.operands])]
 | assign x=>simp only [valX,he x (by simp [Op.operands])]
 | load t x=>simp only [valX,he x (by simp [Op.operands])]
 | nilCheck x=>simp only [valX,he x (by simp [Op.operands])]
 | unOp _ _ x=>simp only [valX,he x (by simp [Op.operands])]
 | convert _ _ x=>simp only [valX,he x (by simp [Op.operands])]
 | fieldAddr _ x _=>simp only [valX,he x (by simp [Op.operands])]
 | field _ x _=>simp only [valX,he x (by simp [Op.operands])]
 | extract x _=>simp only [valX,he x (by simp [Op.operands])]
 | binOp _ _ x y _=>simp only [valX,he x (by simp [Op.operands]),he y (by simp [Op.operands])]
 | indexAddr _ x y=>simp only [valX,he x (by simp [Op.operands]),he y (by simp [Op.operands])]
 | index _ x y=>simp only [valX,he x (by simp [Op.operands]),he y (by simp [Op.operands])]
 | lookup _ x y _=>simp only [valX,he x (by simp [Op.operands]),he y (by simp [Op.operands])]
 | _=>rfl
theorem zam{ρ ρ':Operand->AV}{h:Heap}{op:Op}(he:∀ x∈op.operands,ρ x=ρ' x):opX P Γ ρ h op=opX P Γ ρ' h op:=by
 cases op with
 | alloc t=>rfl
 | box t x=>simp only [opX,he x (by simp [Op.operands])]
 | buildSlice t n ps=>
  simp only [opX];rw [Je λp hp=>he p.2 (by simp only [Op.operands,List.mem_toArray,List.mem_map]; exact⟨p,by simpa using hp,rfl⟩)]
 | store t x y=>simp only [opX,he x (by simp [Op.operands]),he y (by simp [Op.operands])]
 | makeSlice t x y=>simp only [opX,he x (by simp [Op.operands]),he y (by simp [Op.operands])]
 | call c=>
  have hv:=xW (P:=P) (h:=h) he;obtain⟨callee,args,ats⟩:=c;have ha:∀ x∈args,ρ x=ρ' x:=λx hx=>he x (by simp [Op.operands,Call.operands,hx])
  cases callee with
  | builtin b=>
   by_cases hb:b = .append
   ·subst hb;obtain⟨args⟩:=args;obtain⟨ats⟩:=ats;simp only [opX]
    match ats,args with
    | [t,tx],[x,y]=>simp only [ha x (by simp),ha y (by simp)]
    | [],_=>rfl
    | [_],_=>rfl
    | _::_::_::_,_=>rfl
    | [_,_],[]=>rfl
    | [_,_],[_]=>rfl
    | [_,_],_::_::_::_=>rfl
   ·by_cases hb2:b = .delete
    ·subst hb2;obtain⟨args⟩:=args;obtain⟨ats⟩:=ats;simp only [opX]
     match ats,args with
     | [t,tx],[x,y]=>simp only [ha x (by simp),ha y (by simp)]
     | [],_=>rfl
     | [_],_=>rfl
     | _::_::_::_,_=>rfl
     | [_,_],[]=>rfl
     | [_,_],[_]=>rfl
     | [_,_],_::_::_::_=>rfl
    ·cases b<;>first | exact absurd rfl hb | exact absurd rfl hb2 | (simp only [opX]; rw [hv])
  | value f=>
   simp only [opX];rw [he f (by simp [Op.operands,Call.operands]),ki ha]
  | invoke _ _=>rfl
 | makeMap t r=>
  cases r with
  | none=>rfl
  | some _=>simp only [opX]; rw [xW he]
 | mapUpdate t m k v=>simp only [opX,he m (by simp [Op.operands]),he k (by simp [Op.operands]),he v (by simp [Op.operands])]
 | insert t m k v=>simp only [opX,he m (by simp [Op.operands]),he k (by simp [Op.operands]),he v (by simp [Op.operands])]
 | mapEntry t m k=>simp only [opX,he m (by simp [Op.operands]),he k (by simp [Op.operands])]
 | entryStore t m k v=>simp only [opX,he m (by simp [Op.operands]),he k (by simp [Op.operands]),he v (by simp [Op.operands])]
 | _=>simp only [opX]; rw [xW he]
theorem Kd{ρ:Operand->AV}{h h':Heap}{op:Op}{ls:List Nat}(hq:qc ρ op=some ls)(hl:∀ i∈ls,h'[i]?=h[i]?):opX P Γ ρ h' op=opX P Γ ρ h op:=by
 cases op with
 | load t x=>
  simp only [qc] at hq;simp only [opX,valX];generalize ρ x=y at hq;cases y with
  | ptr i off=>simp only [aE] at hq; subst hq; simp only [uQ,hl i (by simp)]
  | eptr i sz idx off=>simp only [aE] at hq; subst hq; simp only [uQ,hl i (by simp)]
  | iptr m g=>rfl
  | _=>simp at hq
 | convert s t x=>
  simp only [qc] at hq;simp only [opX,valX];generalize ρ x=y at hq;cases y with
  | int k n=>rfl
  | str b=>rfl
  | _=>simp at hq
 | call c=>
  simp only [qc] at hq;obtain⟨callee,args,ats⟩:=c;cases callee with
  | builtin b=>cases b<;>simp at hq<;>rfl
  | _=>simp at hq
 | makeFunc f _ _=>cases f<;>rfl
 | slice _ _ _ h m=>cases m<;>cases h<;>rfl
 | _=>first | rfl | (simp [qc] at hq; done)
def mask(D:List Nat)(st:St):St:=⟨st.tmps.zipIdx.map λp=>if D.contains p.2 then .undef else p.1,st.heap⟩
theorem qS(D:List Nat)(st:St)(t:Nat):(mask D st).tmps.getD t .undef=if t∈D then .undef else st.tmps.getD t .undef:=by
 simp only [mask,List.getD,aN,List.getElem?_zipIdx];cases st.tmps[t]?<;>simp
theorem jn(D:List Nat)(st:St):(mask D st).tmps.length=st.tmps.length:=by simp [mask]
variable {st2:St}
theorem vE:∀ {n t:Nat} {want:Bool},(∀ u∈jz st.tmps n t,st2.tmps.getD u .undef=st.tmps.getD u .undef)->qN st2.tmps n t want=qN st.tmps n t want
 | 0,t,want,h=>rfl
 | n+1,t,want,h=>by
  simp only [qN,jz] at h ⊢;rw [h t (by simp)];generalize st.tmps.getD t .undef=x at h;cases x<;>try rfl
  simp only at h ⊢;rw [vE λu hu=>h u (by simp [hu])]
theorem kX:∀ {n t:Nat} {want:Bool},(∀ u∈jz st.tmps n t,st2.tmps.getD u .undef=st.tmps.getD u .undef)->jH st2.tmps n t want=jH st.tmps n t want
 | 0,t,want,h=>rfl
 | n+1,t,want,h=>by
  simp only [jH,jz] at h ⊢;rw [h t (by simp)];generalize st.tmps.getD t .undef=x at h;cases x<;>try rfl
  rename_i u w' y;cases y<;>try rfl
  simp only at h ⊢;rw [kX λv hv=>h v (by simp [hv])]
theorem y5:∀ {n t:Nat},(∀ u∈jz st.tmps n t,st2.tmps.getD u .undef=st.tmps.getD u .undef)->jz st2.tmps n t=jz st.tmps n t
 | 0,t,h=>rfl
 | n+1,t,h=>by
  simp only [jz] at h ⊢;rw [h t (by simp)];generalize st.tmps.getD t .undef=x at h;cases x<;>try rfl
  simp only at h ⊢;rw [y5 λu hu=>h u (by simp [hu])]
theorem Qy{ops:Array Oper}{o:Oper}{t:Nat}(h : .tmp t∈o.op.operands)(l:List AV):t∈qO ops l o:=by
 simp only [qO,zcq,bY,List.mem_filterMap];exact .inl ⟨.tmp t,by simpa using h,rfl⟩
theorem vn{ops:Array Oper}{o:Oper}{j t:Nat}{want:Bool}(hg:o.guard=some (j,want))(ht:(ops[j]?).bind (·.dst)=some t){l:List AV}{u:Nat}(hu:u∈jz l 4 t):u∈qO ops l o:=by
 simp only [qO,hg,ht,bY];exact .inr hu
theorem xm{K:List (Nat×Bool)}{x:Operand}(h:∀ t,x = .tmp t->st2.tmps.getD t .undef=st.tmps.getD t .undef):zM st2 K x=zM st K x:=by
 cases x with
 | tmp t=>simp only [zM,h t rfl]
 | _=>rfl
theorem J4{ops:Array Oper}{o:Oper}{K:List (Nat×Bool)}(ht:∀ t∈qO ops st.tmps o,st2.tmps.getD t .undef=st.tmps.getD t .undef)
  (hh:st2.heap=st.heap\/∃ ls,qc (zM st K) o.op=some ls/\∀ i∈ls,st2.heap[i]?=st.heap[i]?):opV P Γ st2 K o.op=opV P Γ st K o.op:=by
 have hev:∀ K,∀ x∈o.op.operands,zM st2 K x=zM st K x:=λK x hx=>xm λt hxt=>ht t (Qy (hxt▸hx) _)
 have hgen:opX P Γ (zM st2 K) st2.heap o.op=opX P Γ (zM st K) st.heap o.op:=by
  rw [zam (hev K)];rcases hh with hh | ⟨ls,h1,h2⟩
  ·rw [hh]
  ·exact Kd h1 h2
 unfold opV;cases hop:o.op with
 | pick c x y=>
  simp only;congr 1;have hc:∀ K,zM st2 K c=zM st K c:=λK=>hev K c (by simp [hop,Op.operands])
  have hx:∀ K,zM st2 K x=zM st K x:=λK=>hev K x (by simp [hop,Op.operands])
  have hy:∀ K,zM st2 K y=zM st K y:=λK=>hev K y (by simp [hop,Op.operands])
  simp only [zfr,hc,hx,hy]
 | _=>rw [hop] at hgen; exact hgen
theorem ky{ops:Array Oper}{o:Oper}(ht:∀ t∈qO ops st.tmps o,st2.tmps.getD t .undef=st.tmps.getD t .undef):k9 ops st2 o=k9 ops st o:=by
 unfold k9;cases hg:o.guard with
 | none=>rfl
 | some p=>
  obtain⟨j,want⟩:=p;simp only;cases hj:(ops[j]?).bind (·.dst) with
  | none=>rfl
  | some t=>exact vE λu hu=>ht u (vn hg hj hu)
theorem yA:∀ {n t:Nat} {want:Bool},(∀ u∈jz st.tmps n t,st2.tmps.getD u .undef=st.tmps.getD u .undef)->xe st2.tmps n t want=xe st.tmps n t want
 | 0,t,want,h=>rfl
 | n+1,t,want,h=>by
  simp only [xe,jz] at h ⊢;rw [h t (by simp)];generalize st.tmps.getD t .undef=x at h;cases x<;>try rfl
  rename_i u w' y;cases y<;>try rfl
  simp only at h ⊢;rw [yA λv hv=>h v (by simp [hv])]
theorem xE{ρ:Operand->AV}{h:Heap}{op:Op}{ls:List Nat}(hq:qc ρ op=some ls):kL Γ ρ h op=false:=by
 cases op with
 | call c=>
  obtain⟨callee,args,ats⟩:=c;cases callee with
  | value f=>simp [qc] at hq
  | builtin b=>cases b<;>first | rfl | simp [qc] at hq
  | _=>rfl
 | buildSlice t n p=>simp [qc] at hq
 | _=>rfl
theorem WU{ρ ρ':Operand->AV}{h:Heap}{op:Op}(he:∀ x∈op.operands,ρ x=ρ' x):kL Γ ρ h op=kL Γ ρ' h op:=by
 cases op with
 | call c=>
  obtain⟨callee,args,ats⟩:=c;have ha:∀ x∈args,ρ x=ρ' x:=λx hx=>he x (by simp [Op.operands,Call.operands,hx])
  cases callee with
  | value f=>
   simp only [kL];rw [he f (by simp [Op.operands,Call.operands]),ki ha]
  | builtin b=>cases b<;>rfl
  | _=>rfl
 | _=>rfl
theorem QT{ops:Array Oper}{o:Oper}{K:List (Nat×Bool)}(ht:∀ t∈qO ops st.tmps o,st2.tmps.getD t .undef=st.tmps.getD t .undef)
  (hh:st2.heap=st.heap\/∃ ls,qc (zM st K) o.op=some ls/\∀ i∈ls,st2.heap[i]?=st.heap[i]?):kL Γ (zM st2 K) st2.heap o.op=kL Γ (zM st K) st.heap o.op:=by
 have hev:∀ x∈o.op.operands,zM st2 K x=zM st K x:=λx hx=>xm λt hxt=>ht t (Qy (hxt▸hx) _)
 rw [WU hev];rcases hh with hh | ⟨ls,h1,_⟩
 ·rw [hh]
 ·rw [xE h1,xE h1]
theorem wK{ops:Array Oper}{o:Oper}(ht:∀ t∈qO ops st.tmps o,st2.tmps.getD t .undef=st.tmps.getD t .undef)
  (hh:st2.heap=st.heap\/∃ ls,qc (zM st (k9 ops st o)) o.op=some ls/\∀ i∈ls,st2.heap[i]?=st.heap[i]?):qZ P Γ ops st2 o=qZ P Γ ops st o:=by
 unfold qZ;cases hg:o.guard with
 | none=>
  simp only;rw [J4 (ops:=ops) ht (by simpa [k9,hg] using hh)]
 | some p=>
  obtain⟨j,want⟩:=p;simp only;cases hj:(ops[j]?).bind (·.dst) with
  | none=>rfl
  | some t=>
   simp only;have hc:∀ u∈jz st.tmps 4 t,st2.tmps.getD u .undef=st.tmps.getD u .undef:=λu hu=>ht u (vn hg hj hu)
   have hh':st2.heap=st.heap\/∃ ls,qc (zM st (qN st.tmps 4 t want)) o.op=some ls/\∀ i∈ls,st2.heap[i]?=st.heap[i]?:=by simpa [k9,hg,hj] using hh
   simp only [WB];rw [yA hc,kX hc,vE hc,QT ht hh',J4 (ops:=ops) ht hh']
theorem XW{ops:Array Oper}{o:Oper}(ht:∀ t∈qO ops st.tmps o,st2.tmps.getD t .undef=st.tmps.getD t .undef):qO ops st2.tmps o=qO ops st.tmps o:=by
 unfold qO;cases hg:o.guard with
 | none=>rfl
 | some p=>
  obtain⟨j,want⟩:=p;simp only;cases hj:(ops[j]?).bind (·.dst) with
  | none=>rfl
  | some t=>simp only; rw [y5 λu hu=>ht u (vn hg hj hu)]
theorem xo{ops:Array Oper}{o:Oper}(ht:∀ t∈qO ops st.tmps o,st2.tmps.getD t .undef=st.tmps.getD t .undef):zQ ops st2.tmps o=zQ ops st.tmps o:=by
 unfold zQ;rw [XW ht];congr 1;rw [List.flatMap_def,List.flatMap_def,List.map_congr_left λt h=>by rw [ht t h]]
theorem vV{ops:Array Oper}{o:Oper}{K:List (Nat×Bool)}(ht:∀ t∈qO ops st.tmps o,st2.tmps.getD t .undef=st.tmps.getD t .undef):qc (zM st2 K) o.op=qc (zM st K) o.op:=by
 have hev:∀ x∈o.op.operands,zM st2 K x=zM st K x:=λx hx=>xm λt hxt=>ht t (Qy (hxt▸hx) _)
 cases hop:o.op with
 | load t x=>simp only [qc,hev x (by simp [hop,Op.operands])]
 | convert s t x=>simp only [qc,hev x (by simp [hop,Op.operands])]
 | _=>rfl
theorem Kq{ops:Array Oper}{o:Oper}{dst:Option Nat}{r:Res}(hd:∀ d,dst=some d->d∉zQ ops st.tmps o)(hk:r.kill=[]):∀ t∈qO ops st.tmps o,(putX st dst r).tmps.getD t .undef=st.tmps.getD t .undef:=by
 intro t ht;cases dst with
 | none=>simp [putX,hk,v9]
 | some d=>
  have hd:=hd d rfl;have htd:t≠d:=λe=>hd (e▸by simp [zQ,ht])
  simp only [putX,hk,v9,List.getD];rw [bS (λe=>htd e.symm),aN];cases hx:st.tmps[t]? with
  | none=>rfl
  | some x=>
   simp only [Option.map_some,Option.getD_some];cases x<;>try rfl
   rename_i u w' y;simp only [qh];rw [aO];rintro rfl;refine hd ?_;simp only [zQ,bY,List.mem_flatMap];exact .inr ⟨t,ht,by simp [List.getD,hx,zee]⟩
theorem yX:∀ (eff:List (Nat×Blk)) (h:Heap),h.length<=(zk h eff).length
 | [],h=>aJ _
 | (l,b)::eff,h=>by
  simp only [zk];have hlen:h.length<=(qm h l b).length:=by unfold qm; split<;>simp
  exact bP hlen (yX eff _)
theorem uN:∀ {eff:List (Nat×Blk)} {h:Heap} {i:Nat},i<h.length->(∀ p∈eff,p.1≠i)->(zk h eff)[i]?=h[i]?/\h.length<=(zk h eff).length
 | [],h,i,_,_=>⟨rfl,aJ _⟩
 | (l,b)::eff,h,i,hi,hn=>by
  simp only [zk];have hne:=hn (l,b) (by simp);have hlen:h.length<=(qm h l b).length:=by unfold qm; split<;>simp
  obtain⟨h1,h2⟩:=uN (eff:=eff) (h:=qm h l b) (i:=i) (by omega) λp hp=>hn p (by simp [hp])
  refine⟨h1.trans ?_,bP hlen h2⟩;unfold qm;split
  ·rw [bS hne]
  ·rw [bL hi]
def okL(ops:Array Oper):List Nat->Prop
 | []=>True
 | i::L=>(∀ o,ops[i]?=some o->∀ k∈wu o,k∈L)/\i∉L/\okL ops L
structure VU(P:Program)(Γ:Nat->Option Ctr)(ops:Array Oper)(st:St)(e:Ent)(o:Oper):Prop where
 op:ops[e.k]?=some o
 dst:o.dst=some e.d
 val:(qZ P Γ ops st o).holds (λr=>r=⟨e.x,[],[]⟩)
 looks:zQ ops st.tmps o=e.looks
 self:e.d∉e.looks
 quiet:qc (zM st (k9 ops st o)) o.op=some e.labs
 lab:∀ i∈e.labs,i<st.heap.length
 slot:e.d<st.tmps.length->st.tmps.getD e.d .undef=e.x
def zcn(ops:Array Oper)(e f:Ent):Prop:=e.d∉f.looks/\e.d≠f.d/\((∀ o,ops[e.k]?=some o->f.k∈jX ops o)\/f.d∉e.looks)
structure Inv(P:Program)(Γ:Nat->Option Ctr)(ops:Array Oper)(L:List Nat)(st:St)(pend:List Ent)(listed:Array Bool):Prop where
 lis:∀ k,k<ops.size->(listed.getD k true=false↔(k∉L\/∃ e∈pend,e.k=k))
 out:∀ k,¬ k<ops.size->listed.getD k true=true/\listed.getD k false=false
 lis2:∀ k,k<ops.size->listed.getD k true=listed.getD k false
 ok:okL ops L
 lt:∀ k∈L,k<ops.size
 key:∀ e∈pend,e.k∈L
 uniq:∀ e∈pend,∀ f∈pend,e.k=f.k->e=f
 ord:∀ e∈pend,∀ f∈pend,e.k≠f.k->zcn ops e f\/zcn ops f e
 good:∀ e∈pend,∃ o,VU P Γ ops st e o
 VG:∀ e∈pend,∀ t want x,st.tmps.getD t .undef = .opt e.d want x->∃ f∈pend,f.d=t
 cl:∀ k o,listed.getD k false=true->ops[k]?=some o->∀ j∈wu o,listed.getD j false=true
theorem Qo{o:Oper}{j:Nat} : j∈wu o↔∃ e∈o.after,Region.binds .any e=true/\e.on=j:=by
 simp only [wu,List.mem_filterMap,Array.mem_toList_iff];constructor
 ·rintro⟨e,he,h⟩;split at h
  ·rename_i hb; cases h; exact⟨e,he,hb,rfl⟩
  ·cases h
 ·rintro⟨e,he,hb,rfl⟩;exact⟨e,he,by simp [hb]⟩
theorem wi{ops:Array Oper}{listed:Array Bool}{j:Nat} : j∈Region.ready .any ops listed↔listed.getD j true=false/\∃ o,ops[j]?=some o/\∀ k∈wu o,listed.getD k false=true:=by
 rw [mem_ready];constructor
 ·rintro⟨h,o,ho,hall⟩;refine⟨h,o,ho,λk hk=> ?_⟩;obtain⟨e,he,hb,rfl⟩:=Qo.1 hk;exact hall e he hb
 ·rintro⟨h,o,ho,hall⟩;exact⟨h,o,ho,λe he hb=>hall _ (Qo.2 ⟨e,he,hb,rfl⟩)⟩
theorem yc{ops:Array Oper}{L:List Nat}{j:Nat} : j∈kD ops L↔j∉L/\∃ o,ops[j]?=some o/\∀ k∈wu o,k∈L:=by
 simp only [kD,List.mem_filter,List.mem_range,KB,bA,Bool.not_eq_true',bX,aV];constructor
 ·rintro⟨h1,h2,h3⟩;cases ho:ops[j]? with
  | none=>simp [ho] at h3
  | some o=>simp only [ho,bG,aK] at h3; exact⟨h2,o,rfl,h3⟩
 ·rintro⟨h2,o,ho,h3⟩;exact⟨(aQ.1 ho).1,h2,by simp only [ho,bG,aK]; exact h3⟩
theorem ZA{ops:Array Oper}{T:Nat->Prop}(cl:∀ k o,T k->ops[k]?=some o->∀ j∈wu o,T j):∀ (n:Nat) (todo acc:List Nat),(∀ k∈todo,T k)->(∀ k∈acc,T k)->∀ k∈ancs ops n todo acc,T k
 | 0,todo,acc,_,ha,k,hk=>ha k (by simpa [ancs] using hk)
 | n+1,[],acc,_,ha,k,hk=>ha k (by simpa [ancs] using hk)
 | n+1,i::t,acc,ht,ha,k,hk=>by
  simp only [ancs] at hk;split at hk
  ·exact ZA cl n t acc (λj hj=>ht j (by simp [hj])) ha k hk
  ·refine ZA cl n _ _ ?_ ?_ k hk
   ·intro j hj;rcases bY.1 hj with hj | hj
    ·cases ho:ops[i]? with
     | none=>simp [ho] at hj
     | some o=>simp only [ho] at hj; exact cl i o (ht i (by simp)) ho j hj
    ·exact ht j (by simp [hj])
   ·intro j hj;rcases aM.1 hj with rfl | hj
    ·exact ht j (by simp)
    ·exact ha j hj
theorem WZ{ops:Array Oper}{T:Nat->Prop}(cl:∀ k o,T k->ops[k]?=some o->∀ j∈wu o,T j){o:Oper}(h:∀ k∈wu o,T k):∀ k∈jX ops o,T k:=
 ZA cl _ _ _ h (by simp)
section
variable {ops:Array Oper} {L:List Nat} {pend:List Ent} {listed:Array Bool}
theorem Inv.T(I:Inv P Γ ops L st pend listed)(k:Nat):listed.getD k false=true↔k∈L/\¬ ∃ e∈pend,e.k=k:=by
 by_cases hk:k<ops.size
 ·rw [<- I.lis2 k hk];have:=I.lis k hk;cases hl:listed.getD k true with
  | false=>
   rw [hl] at this;simp only [true_iff] at this;simp only [Bool.false_eq_true,false_iff,not_and,Classical.not_not];intro h;rcases this with h2 | h2
   ·exact absurd h h2
   ·exact h2
  | true=>
   rw [hl] at this;simp only [Bool.true_eq_false,false_iff,not_or,Classical.not_not] at this;simp [this]
 ·rw [(I.out k hk).2];simp only [Bool.false_eq_true,false_iff];exactλh=>hk (I.lt k h.1)
theorem Inv.first(I:Inv P Γ ops L st pend listed)(hne:pend≠[]):∃ e∈pend,e.k∈Region.ready .any ops listed:=by
 have key:∀ L':List Nat,okL ops L'->(∀ k∈L',k∈L)->(∃ e∈pend,e.k∈L')->∃ e∈pend,e.k∈L'/\∀ o,ops[e.k]?=some o->∀ k∈wu o,k∈L'/\¬ ∃ f∈pend,f.k=k:=by
  intro L'
  induction L' with
  | nil=>rintro _ _ ⟨e,_,h⟩; simp at h
  | cons i L' ih=>
   rintro⟨h1,h2,h3⟩ hsub ⟨e,he,hk⟩;by_cases hex:∃ e∈pend,e.k∈L'
   ·obtain⟨f,hf,h4,h5⟩:=ih h3 (λk hk=>hsub k (by simp [hk])) hex;exact⟨f,hf,by simp [h4],λo ho k hk=>⟨by simp [(h5 o ho k hk).1],(h5 o ho k hk).2⟩⟩
   ·rcases aM.1 hk with hk | hk
    ·refine⟨e,he,by simp [hk],λo ho k hk'=> ?_⟩;have:=h1 o (hk▸ho) k hk';exact⟨by simp [this],λ⟨f,hf,hfk⟩=>hex ⟨f,hf,hfk▸this⟩⟩
    ·exact absurd ⟨e,he,hk⟩ hex
 obtain⟨e0,he0⟩:=List.exists_mem_of_ne_nil _ hne;obtain⟨e,he,h1,h2⟩:=key L I.ok (λ_ h=>h) ⟨e0,he0,I.key e0 he0⟩;obtain⟨o,ho⟩:=I.good e he;refine⟨e,he,wi.2 ⟨(I.lis e.k (I.lt _ h1)).2 (.inr ⟨e,he,rfl⟩),o,ho.op,λk hk=> ?_⟩⟩;exact(I.T k).2 (h2 o ho.op k hk)
end
end
end Go.Sx
end
section
namespace Go.Sx
variable [Stat]
open Go.RowKit (Below)
section
variable {O:Nat->Prop} {pin:Nat} {w0:World} {I0:List SE} {w:World} {σ:List SE} {P:Program} {st st2:St} {a:Act} {Γ:Nat->Option Ctr}
variable {ops:Array Oper} {L:List Nat} {pend res:List Ent} {listed:Array Bool}
theorem ZI{α:Type}{Q:α->Prop} : ∀ {t:Tree α} {ps:List Prop} {y:α},t.chain=some (ps,y)->t.holds Q->Q y/\t.holds (· = y)
 | .leaf x,ps,y,h,hq=>by simp only [Tree.chain,aE,bE] at h; obtain⟨_,rfl⟩:=h; exact⟨hq,rfl⟩
 | .ite _ _ _,_,_,h,_=>by simp [Tree.chain] at h
 | .fail,_,_,h,_=>by simp [Tree.chain] at h
 | .ex _ _,_,_,h,_=>by simp [Tree.chain] at h
 | .all _ _,_,_,h,_=>by simp [Tree.chain] at h
 | .side p t,ps,y,h,hq=>by
  simp only [Tree.chain] at h;split at h
  ·rename_i qs z hc;simp only [aE,bE] at h;obtain⟨_,rfl⟩:=h;obtain⟨h1,h2⟩:=ZI hc (hq.2 hq.1);exact⟨h1,hq.1,λ_=>h2⟩
  ·cases h
theorem JX(x:AV):∀ t want y,see [] x≠.opt t want y:=by
 intro t want y;cases x<;>simp [see]
theorem JI{o:Oper}{Q:Res->Prop}(h:(qZ P Γ ops st o).holds Q):(qZ P Γ ops st o).holds λr=>Q r/\∀ u want x,r.val = .opt u want x->u∈qO ops st.tmps o:=by
 unfold qZ at h ⊢;cases hg:o.guard with
 | none=>
  rw [hg] at h;simp only at h ⊢;rw [Tree.zo] at h ⊢;exact Tree.zU (λx hx=>⟨hx,λu want y hy=>absurd hy (JX _ _ _ _)⟩) h
 | some p=>
  obtain⟨j,want⟩:=p;rw [hg] at h;simp only at h ⊢;cases hj:(ops[j]?).bind (·.dst) with
  | none=>rw [hj] at h; exact h.elim
  | some t=>
   rw [hj] at h;simp only at h ⊢;split at h
   ·rename_i heff;unfold WB at h ⊢;split at h
    ·split at h
     ·rename_i hdt;rw [aP hdt];refine⟨λhb=> ?_,λhb=>⟨h.2 hb,λu want' x hx=> ?_⟩⟩
      ·have h1:=h.1 hb;rw [Tree.zo] at h1 ⊢;exact Tree.zU (λx hx=>⟨hx,λu want y hy=>absurd hy (JX _ _ _ _)⟩) h1
      ·simp only [AV.opt.injEq] at hx;obtain⟨rfl,_⟩:=hx;exact vn hg hj (by simp [jz])
     ·exact h.elim
    ·exact h.elim
   split at h
   ·split at h
    ·rename_i hdt;rw [aP hdt];refine jK (λv hv=>⟨hv,λu want' x hx=> ?_⟩) h;simp only [AV.opt.injEq] at hx;obtain⟨rfl,_⟩:=hx;exact vn hg hj (by simp [jz])
    ·exact h.elim
   ·exact h.elim
theorem jU(dst:Option Nat)(r:Res)(t:Nat):(putX st dst r).tmps.getD t .undef=match dst with
  | some d=>if t=d/\d<st.tmps.length then r.val else qh d (z7 r.kill (st.tmps.getD t .undef))
  | none=>z7 r.kill (st.tmps.getD t .undef):=by
 cases dst with
 | none=>simp only [putX]; rw [jV,getD_map (jR _)]
 | some d=>
  simp only [putX];rw [jV];have hl:((st.tmps.map (z7 r.kill)).map (qh d)).length=st.tmps.length:=by simp
  by_cases h:t=d
  ·subst h;by_cases hlt:t<st.tmps.length
   ·rw [aP ⟨rfl,hlt⟩];simp only [List.getD];rw [List.getElem?_set_self (by rw [hl]; exact hlt)]; rfl
   ·rw [aO (λh=>hlt h.2)];simp only [List.getD];rw [aZ (by simpa using Nat.le_of_not_lt hlt),aZ (by simpa using Nat.le_of_not_lt hlt)];simp only [Option.getD_none,jR]; rfl
  ·rw [aO (λh'=>h h'.1)];simp only [List.getD];rw [bS (λe=>h e.symm)];have:=getD_map (f:=qh d) rfl (st.tmps.map (z7 r.kill)) t;simp only [List.getD] at this;rw [this];have:=getD_map (f:=z7 r.kill) (jR _) st.tmps t;simp only [List.getD] at this;rw [this]
theorem kI(dst:Option Nat)(r:Res):(putX st dst r).tmps.length=st.tmps.length:=by
 cases dst<;>simp [putX,jV]
theorem vw(dst:Option Nat)(r:Res):(putX st dst r).heap=zk (zx r.kill st.heap) r.eff:=by
 cases dst<;>rfl
theorem Mod.weaken(hm:Mod O pin w0 I0 w σ st a)(hh:st2.heap=st.heap)(hl:st2.tmps.length=st.tmps.length)(ht:∀ t,st2.tmps.getD t .undef=st.tmps.getD t .undef\/st2.tmps.getD t .undef = .undef):Mod O pin w0 I0 w σ st2 a:=by
 refine⟨hm.good,hh▸hm.hp,by rw [hl]; exact hm.size,λt=> ?_,hm.df,hm.since,hm.lim⟩;rcases ht t with h | h
 ·rw [h]; exact hm.tm t
 ·rw [h]; simp [TRep,Rep]
theorem Q1{K:List Nat}{i:Nat}(hi:i∈K){a:AV}(h:kW K a=true):jm i a=a:=by
 cases a with
 | osl j sz off n=>
  simp only [kW,bX,Bool.not_eq_true',aV] at h;simp only [jm]; rw [aO (λ(e:i=j)=>h (e▸hi))]
 | eptr j sz idx off=>
  simp only [kW,bX,Bool.not_eq_true',aV] at h;simp only [jm]; rw [aO (λ(e:i=j)=>h (e▸hi))]
 | ptr j off=>
  simp only [kW,bX,Bool.not_eq_true',aV] at h;simp only [jm]; rw [aO (λ(e:i=j)=>h (e▸hi))]
 | omap j=>
  simp only [kW,bX,Bool.not_eq_true',aV] at h;simp only [jm]; rw [aO (λ(e:i=j)=>h (e▸hi))]
 | agg _=>cases h
 | tup _=>cases h
 | opt _ _ _=>cases h
 | fn f x y=>
  cases x<;>cases y<;>simp [kW] at h
  rfl
 | _=>rfl
theorem XG{K:List Nat}{i:Nat}(hi:i∈K){a:AV}(h:uZ K a=true):zY i a=a:=by
 have hL:∀ l:List AV,l.all (kW K)=true->l.map (jm i)=l:=λl hl=>by
  rw [bG] at hl
  conv=>rhs; rw [<- List.map_id l]
  exact List.map_congr_left λx hx=>Q1 hi (hl x hx)
 cases a with
 | agg l=>simp only [zY]; rw [hL l h]
 | tup l=>simp only [zY]; rw [hL l h]
 | fn f x y=>
  cases x<;>cases y<;>simp [uZ,kW] at h
  rfl
 | opt _ _ _=>simp [uZ,kW] at h
 | _=>simp only [uZ] at h; simp only [zY]; exact Q1 (K:=K) hi h
theorem Zx{a:AV} : ∀ {K:List Nat},(∀ i∈K,zY i a=a)->z7 K a=a
 | [],_=>rfl
 | i::K,h=>by
  simp only [z7];rw [h i (by simp)];exact Zx λj hj=>h j (by simp [hj])
theorem xi{K:List Nat}{a:AV}(h:uZ K a=true):z7 K a=a:=Zx λi hi=>XG hi h
theorem K5{K:List Nat}{b:Blk}(h:zbg K b=true):j0 K b=b:=by
 cases b with
 | box cs=>
  simp only [zbg,bG] at h;simp only [j0];congr 1
  conv=>rhs; rw [<- List.map_id cs]
  exact List.map_congr_left λx hx=>xi (h x hx)
 | _=>rfl
theorem UB{ops:Array Oper}{o:Oper}{dst:Option Nat}{r:Res}(hd:∀ d,dst=some d->d∉zQ ops st.tmps o)(hk:∀ t∈zQ ops st.tmps o,z7 r.kill (st.tmps.getD t .undef)=st.tmps.getD t .undef):∀ t∈qO ops st.tmps o,(putX st dst r).tmps.getD t .undef=st.tmps.getD t .undef:=by
 intro t ht;have htl:t∈zQ ops st.tmps o:=by simp [zQ,ht]
 rw [jU];cases dst with
 | none=>exact hk t htl
 | some d=>
  have hd:=hd d rfl;have htd:t≠d:=λe=>hd (e▸htl)
  simp only;rw [aO (λh=>htd h.1),hk t htl];cases hx:st.tmps.getD t .undef with
  | opt u w' y=>
   simp only [qh];rw [aO];rintro rfl;refine hd ?_;simp only [zQ,bY,List.mem_flatMap];exact .inr ⟨t,ht,by rw [hx]; simp [zee]⟩
  | _=>rfl
theorem kn(d:Nat)(y:AV):qh d y=y/\(∀ want x,y≠.opt d want x)\/qh d y = .undef:=by
 cases y with
 | opt u want x=>
  simp only [qh];by_cases h:u=d
  ·right; rw [aP h]
  ·left; rw [aO h]; exact⟨rfl,λwant' x' e=>by cases e; exact h rfl⟩
 | _=>left; exact⟨rfl,λwant' x' e=>by cases e⟩
theorem Inv.clear(I:Inv P Γ ops L st pend listed){e:Ent}(he:e∈pend)(hr:e.k∈Region.ready .any ops listed):∀ f∈pend,f.k≠e.k->f.d∉e.looks/\f.d≠e.d:=by
 intro f hf hne;obtain⟨o,ho⟩:=I.good e he;obtain⟨_,o',ho',hall⟩:=wi.1 hr;rw [ho.op] at ho'; cases ho';rcases I.ord e he f hf (λh=>hne h.symm) with ⟨_,h2,h3⟩ | ⟨h1,h2,_⟩
 ·rcases h3 with h3 | h3
  ·have:=WZ (T:=λk=>listed.getD k false=true) I.cl hall f.k (h3 o ho.op);exact absurd ⟨f,hf,rfl⟩ ((I.T f.k).1 this).2
  ·exact⟨h3,λh=>h2 h.symm⟩
 ·exact⟨h1,h2⟩
theorem VU.KU{e:Ent}{o:Oper}(h:VU P Γ ops st e o){u:Nat}{want:Bool}{x:AV}(hx:e.x = .opt u want x):u∈e.looks:=by
 obtain⟨r,hr,h2⟩:=Tree.vg (JI h.val);subst hr;have:=h2 u want x hx;rw [<- h.looks];simp [zQ,this]
theorem xU{k:Nat}(hk:listed.getD k true=false)(j:Nat)(d:Bool):(listed.setIfInBounds k true).getD j d=if j=k then true else listed.getD j d:=by
 by_cases h:j=k
 ·subst h;rw [aP rfl]
  have:j<listed.size:=by
   rcases aR j listed.size with h | h
   ·exact h
   ·simp [h] at hk
  simp [this]
 ·rw [aO h]; exact getD_set_ne d (λe=>h e.symm)
theorem Inv.zkq(I:Inv P Γ ops L st pend listed){e:Ent}(he:e∈pend)(hr:e.k∈Region.ready .any ops listed):Inv P Γ ops L st (pend.filter λf=>f.k != e.k) (listed.setIfInBounds e.k true):=by
 obtain⟨hun,o',ho',hall⟩:=wi.1 hr;have hset:=xU hun;have hmem:∀ f,f∈pend.filter (λf=>f.k != e.k)↔f∈pend/\f.k≠e.k:=λf=>by simp
 have hlt:e.k<ops.size:=(aQ.1 ho').1;have hcl:=I.clear he hr;obtain⟨o,ho⟩:=I.good e he;refine⟨λk hk=> ?_,λk hk=> ?_,λk hk=> ?_,I.ok,I.lt,λf hf=>I.key f ((hmem f).1 hf).1,λf hf g hg=>I.uniq f ((hmem f).1 hf).1 g ((hmem g).1 hg).1,λf hf g hg=>I.ord f ((hmem f).1 hf).1 g ((hmem g).1 hg).1,λf hf=>I.good f ((hmem f).1 hf).1,?_,?_⟩
 ·rw [hset];by_cases h:k=e.k
  ·rw [aP h];simp only [Bool.true_eq_false,false_iff,not_or,Classical.not_not];refine⟨h▸I.key e he,?_⟩;rintro⟨f,hf,hfk⟩;exact((hmem f).1 hf).2 (hfk.trans h)
  ·rw [aO h,I.lis k hk];constructor
   ·rintro(h1 | ⟨f,hf,hfk⟩)
    ·exact .inl h1
    ·exact .inr ⟨f,(hmem f).2 ⟨hf,λe'=>h (hfk.symm.trans e')⟩,hfk⟩
   ·rintro(h1 | ⟨f,hf,hfk⟩)
    ·exact .inl h1
    ·exact .inr ⟨f,((hmem f).1 hf).1,hfk⟩
 ·rw [hset,hset,aO (λh=>hk (by omega)),aO (λh=>hk (by omega))]; exact I.out k hk
 ·rw [hset,hset]; split
  ·rfl
  ·exact I.lis2 k hk
 ·intro f hf t want x hx;obtain⟨hf1,hf2⟩:=(hmem f).1 hf;obtain⟨g,hg,hgt⟩:=I.VG f hf1 t want x hx;by_cases hge:g.k=e.k
  ·exfalso;have:=I.uniq g hg e he hge;subst this;subst hgt
   have hlt2:g.d<st.tmps.length:=by
    rcases aR g.d st.tmps.length with h | h
    ·exact h
    ·simp [List.getD,aZ h] at hx
   rw [ho.slot hlt2] at hx;exact(hcl f hf1 hf2).1 (ho.KU hx)
  ·exact⟨g,(hmem g).2 ⟨hg,hge⟩,hgt⟩
 ·intro k o2 hk ho2 j hj;rw [hset] at hk ⊢;split
  ·rfl
  ·split at hk
   ·rename_i hke;subst hke;rw [ho'] at ho2; cases ho2;exact hall j hj
   ·exact I.cl k o2 hk ho2 j hj
theorem modA(I:Inv P Γ ops L st pend listed){e:Ent}(he:e∈pend)(hr:e.k∈Region.ready .any ops listed){w':World}{Z':List SE}{a':Act}(hm:Mod O pin w0 I0 w' Z' (putX (mask (pend.map (·.d)) st) (some e.d) ⟨e.x,[],[]⟩) a') :
  Mod O pin w0 I0 w' Z' (mask ((pend.filter λf=>f.k != e.k).map (·.d)) st) a':=by
 obtain⟨o,ho⟩:=I.good e he;have hcl:=I.clear he hr;refine hm.weaken ?_ (by rw [kI,jn,jn]) λt=> ?_
 ·rw [vw]; simp only [zx,zk]; rfl
 ·rw [jU,qS,qS,jn];simp only [z7];by_cases hD':t∈(pend.filter λf=>f.k != e.k).map (·.d)
  ·rw [aP hD']; exact .inr rfl
  ·rw [aO hD'];by_cases htd:t=e.d
   ·subst htd;by_cases hlt:e.d<st.tmps.length
    ·rw [aP ⟨rfl,hlt⟩];exact .inl (ho.slot hlt)
    ·right;simp only [List.getD];rw [aZ (by omega)]; rfl
   ·rw [aO (λh=>htd h.1)]
    have hD:t∉pend.map (·.d):=by
     intro h;obtain⟨f,hf,hft⟩:=List.mem_map.1 h;apply hD';refine List.mem_map.2 ⟨f,?_,hft⟩;simp only [List.mem_filter,bne_iff_ne,ne_eq];exact⟨hf,λhk=>htd (by rw [<- hft,I.uniq f hf e he hk])⟩
    rw [aO hD];rcases kn e.d (st.tmps.getD t .undef) with ⟨h,_⟩ | h
    ·rw [h]; exact .inl rfl
    ·left;rw [h];generalize hy:st.tmps.getD t .undef=y at h ⊢;cases y with
     | opt u want x=>
      simp only [qh] at h;split at h
      ·rename_i hu;subst hu;obtain⟨f,hf,hft⟩:=I.VG e he t want x hy;exact absurd (List.mem_map.2 ⟨f,hf,hft⟩) hD
      ·cases h
     | undef=>rfl
     | _=>simp only [qh] at h; exact h
theorem Inv.ahead(I:Inv P Γ ops L st pend listed){e:Ent}{o:Oper}(h1:ops[e.k]?=some o)(h2:o.dst=some e.d)(h3:(qZ P Γ ops st o).holds (λr=>r=⟨e.x,[],[]⟩))(h4:zQ ops st.tmps o=e.looks)(h5:e.d∉e.looks)
  (h6:qc (zM st (k9 ops st o)) o.op=some e.labs) (h7:∀ i∈e.labs,i<st.heap.length) (hrd:e.k∈kD ops L) (hb:∀ f∈pend,wE (jX ops o) (some e.d) e.looks true f=true) :
  Inv P Γ ops (e.k::L) (putX st (some e.d) ⟨e.x,[],[]⟩) (e::pend) listed:=by
 obtain⟨hkL,o2,ho2,hall⟩:=yc.1 hrd;rw [h1] at ho2; cases ho2;have hlt:e.k<ops.size:=(aQ.1 h1).1
 have hb':∀ f∈pend,e.d∉f.looks/\e.d≠f.d/\(f.k∈jX ops o\/f.d∉e.looks):=by
  intro f hf;have:=hb f hf;simp only [wE,Bool.or_eq_true,bA,Bool.not_true,Bool.false_or,Bool.not_eq_true',bX,aK,aV,beq_eq_false_iff_ne,ne_eq] at this;rcases this with ⟨g1,g2,g3⟩ | ⟨⟨g1,g2⟩,g3⟩
  ·exact⟨g2,g3,.inl g1⟩
  ·exact⟨g1,g2,.inr g3⟩
 have hheap:(putX st (some e.d) ⟨e.x,[],[]⟩).heap=st.heap:=by rw [vw]; simp [zx,zk]
 have hself:∀ t∈qO ops st.tmps o,(putX st (some e.d) ⟨e.x,[],[]⟩).tmps.getD t .undef=st.tmps.getD t .undef:=Kq (λd hd=>by cases hd; rw [h4]; exact h5) rfl
 have hslot:∀ t,t≠e.d->(putX st (some e.d) ⟨e.x,[],[]⟩).tmps.getD t .undef=qh e.d (st.tmps.getD t .undef):=by
  intro t ht;rw [jU]; simp only [z7];rw [aO (λh=>ht h.1)]
 have hE:VU P Γ ops (putX st (some e.d) ⟨e.x,[],[]⟩) e o:=by
  refine⟨h1,h2,?_,?_,h5,?_,?_,?_⟩
  ·rw [wK hself (.inl hheap)]; exact h3
  ·rw [xo hself]; exact h4
  ·rw [ky hself,vV hself]; exact h6
  ·rw [hheap]; exact h7
  ·intro hl;rw [kI] at hl;rw [jU]; simp only;rw [aP ⟨trivial,hl⟩]
 have h0:VU P Γ ops (putX st (some e.d) ⟨e.x,[],[]⟩) e o:=hE;refine⟨λk hk=> ?_,I.out,I.lis2,⟨λo2 ho2 k hk=> ?_,hkL,I.ok⟩,λk hk=> ?_,λf hf=> ?_,λf hf g hg hfg=> ?_,λf hf g hg hne=> ?_,λf hf=> ?_,?_,I.cl⟩
 ·by_cases hke:k=e.k
  ·subst hke;have:=(I.lis e.k hk).2 (.inl hkL);simp [this]
  ·rw [I.lis k hk];constructor
   ·rintro(g1 | ⟨f,hf,g1⟩)
    ·exact .inl (by simp [hke,g1])
    ·exact .inr ⟨f,by simp [hf],g1⟩
   ·rintro(g1 | ⟨f,hf,g1⟩)
    ·exact .inl (λh=>g1 (by simp [h]))
    ·rcases aM.1 hf with rfl | hf
     ·exact absurd g1.symm hke
     ·exact .inr ⟨f,hf,g1⟩
 ·rw [h1] at ho2; cases ho2; exact hall k hk
 ·rcases aM.1 hk with rfl | hk
  ·exact hlt
  ·exact I.lt k hk
 ·rcases aM.1 hf with rfl | hf
  ·simp
  ·simp [I.key f hf]
 ·rcases aM.1 hf with hf2 | hf2<;>rcases aM.1 hg with hg2 | hg2
  ·rw [hf2,hg2]
  ·rw [hf2] at hfg; exact absurd (hfg▸I.key g hg2) hkL
  ·rw [hg2] at hfg; exact absurd (hfg▸I.key f hf2) hkL
  ·exact I.uniq f hf2 g hg2 hfg
 ·have hLat:∀ g∈pend,zcn ops e g:=λg hg=>by
   obtain⟨g1,g2,g3⟩:=hb' g hg;exact⟨g1,g2,g3.imp (λh o2 ho2=>by rw [h1] at ho2; cases ho2; exact h) id⟩
  rcases aM.1 hf with hf2 | hf2<;>rcases aM.1 hg with hg2 | hg2
  ·rw [hf2,hg2] at hne; exact absurd rfl hne
  ·rw [hf2]; exact .inl (hLat g hg2)
  ·rw [hg2]; exact .inr (hLat f hf2)
  ·exact I.ord f hf2 g hg2 hne
 ·rcases aM.1 hf with rfl | hf
  ·exact⟨o,hE⟩
  ·obtain⟨o2,ho2⟩:=I.good f hf;obtain⟨g1,g2,g3⟩:=hb' f hf;have hs2:∀ t∈qO ops st.tmps o2,(putX st (some e.d) ⟨e.x,[],[]⟩).tmps.getD t .undef=st.tmps.getD t .undef:=Kq (λd hd=>by cases hd; rw [ho2.looks]; exact g1) rfl;refine⟨o2,ho2.op,ho2.dst,?_,?_,ho2.self,?_,?_,?_⟩
   ·rw [wK hs2 (.inl hheap)]; exact ho2.val
   ·rw [xo hs2]; exact ho2.looks
   ·rw [ky hs2,vV hs2]; exact ho2.quiet
   ·rw [hheap]; exact ho2.lab
   ·intro hl;rw [kI] at hl;rw [hslot f.d (λh=>g2 h.symm),ho2.slot hl];rcases kn e.d f.x with ⟨h,_⟩ | h
    ·exact h
    ·cases hx:f.x with
     | opt u want y=>
      rw [hx] at h;simp only [qh] at h ⊢;split
      ·rename_i hu;subst hu;exact absurd (ho2.KU hx) g1
      ·rfl
     | _=>simp only [qh]
 ·intro f hf t want x hx;by_cases htd:t=e.d
  ·exact⟨e,by simp,htd.symm⟩
  ·rw [hslot t htd] at hx;rcases kn e.d (st.tmps.getD t .undef) with ⟨h,h'⟩ | h
   ·rw [h] at hx;rcases aM.1 hf with rfl | hf
    ·exact absurd hx (h' want x)
    ·obtain⟨g,hg,hgt⟩:=I.VG f hf t want x hx;exact⟨g,by simp [hg],hgt⟩
   ·rw [h] at hx; cases hx
theorem modC{e:Ent}(hm:Mod O pin w0 I0 w σ (mask (pend.map (·.d)) st) a):Mod O pin w0 I0 w σ (mask ((e::pend).map (·.d)) (putX st (some e.d) ⟨e.x,[],[]⟩)) a:=by
 refine hm.weaken ?_ (by rw [jn,jn,kI]) λt=> ?_
 ·show(putX st (some e.d) ⟨e.x,[],[]⟩).heap=st.heap;rw [vw]; simp [zx,zk]
 ·rw [qS,qS];by_cases h1:t∈(e::pend).map (·.d)
  ·rw [aP h1]; exact .inr rfl
  ·rw [aO h1,aO (λh=>h1 (by simp only [List.map_cons,aM]; exact .inr h)),jU];simp only [z7];rw [aO (λh=>h1 (by simp [h.1]))];rcases kn e.d (st.tmps.getD t .undef) with ⟨h,_⟩ | h
   ·exact .inl h
   ·exact .inr h
theorem Inv.zkx(I:Inv P Γ ops L st pend listed){i:Nat}{o:Oper}{r:Res}(h1:ops[i]?=some o)(hiL:i∉L)(hr:i∈Region.ready .any ops listed)
  (hb:∀ f∈pend,wE (jX ops o) o.dst (zQ ops st.tmps o) false f=true) (he:∀ f∈pend,effK (jX ops o) st r f=true) (ha:∀ f∈pend,effE (jX ops o) st r f=true\/∃ o2,ops[f.k]?=some o2/\(qZ P Γ ops (putX st o.dst r) o2).holds (λr'=>r'=⟨f.x,[],[]⟩)) (hopt:∀ u want x,r.val = .opt u want x->u∈qO ops st.tmps o) :
  Inv P Γ ops (i::L) (putX st o.dst r) pend (listed.setIfInBounds i true):=by
 obtain⟨hun,o',ho',hall⟩:=wi.1 hr;rw [h1] at ho'; cases ho';have hset:=xU hun;have hlt:i<ops.size:=(aQ.1 h1).1
 have hanc:∀ f∈pend,f.k∉jX ops o:=by
  intro f hf h;have:=WZ (T:=λk=>listed.getD k false=true) I.cl hall f.k h;exact((I.T f.k).1 this).2 ⟨f,hf,rfl⟩
 have hnp:∀ f∈pend,f.k≠i:=λf hf h=>hiL (h▸I.key f hf)
 have hb':∀ f∈pend,(∀ d,o.dst=some d->d∉f.looks/\d≠f.d)/\f.d∉zQ ops st.tmps o:=by
  intro f hf;have:=hb f hf;simp only [wE,bX,aK,hanc f hf,decide_false,Bool.false_and,Bool.false_or,bA,Bool.not_eq_true',aV] at this;refine⟨λd hd=> ?_,this.2⟩;have h3:=this.1;rw [hd] at h3;simpa using h3
 have he':∀ f∈pend,z7 r.kill f.x=f.x/\∀ t∈f.looks,z7 r.kill (st.tmps.getD t .undef)=st.tmps.getD t .undef:=by
  intro f hf;have:=he f hf;simp only [effK,bX,hanc f hf,decide_false,Bool.false_or,Bool.or_eq_true,bA,List.isEmpty_iff,bG] at this;rcases this with h | ⟨h1,h2⟩
  ·rw [h]; exact⟨rfl,λ_ _=>rfl⟩
  ·exact⟨xi h1,λt ht=>xi (h2 t ht)⟩
 have ha':∀ f∈pend,((∀ p∈r.eff,p.1∉f.labs)/\∀ j∈f.labs,j0 r.kill (st.heap.getD j .dead)=st.heap.getD j .dead)\/∃ o2,ops[f.k]?=some o2/\(qZ P Γ ops (putX st o.dst r) o2).holds (λr'=>r'=⟨f.x,[],[]⟩):=by
  intro f hf;refine(ha f hf).imp (λh=> ?_) id;simp only [effE,bX,hanc f hf,decide_false,Bool.false_or,bA,Bool.or_eq_true,List.isEmpty_iff,bG,Bool.not_eq_true',aV] at h;refine⟨h.1,λj hj=> ?_⟩;rcases h.2 with h | h
  ·rw [h]; exact j9 _
  ·exact K5 (h j hj)
 refine⟨λk hk=> ?_,λk hk=> ?_,λk hk=> ?_,⟨λo2 ho2 k hk=> ?_,hiL,I.ok⟩,λk hk=> ?_,λf hf=>by simp [I.key f hf],I.uniq,I.ord,λf hf=> ?_,?_,?_⟩
 ·rw [hset];by_cases h:k=i
  ·subst h;simp only [if_true,Bool.true_eq_false,aM,true_or,not_true,false_or,false_iff];rintro⟨f,hf,g⟩;exact hnp f hf g
  ·rw [aO h,I.lis k hk];simp [h]
 ·rw [hset,hset,aO (λh=>hk (by omega)),aO (λh=>hk (by omega))]; exact I.out k hk
 ·rw [hset,hset]; split
  ·rfl
  ·exact I.lis2 k hk
 ·rw [h1] at ho2; cases ho2;exact((I.T k).1 (hall k hk)).1
 ·rcases aM.1 hk with rfl | hk
  ·exact hlt
  ·exact I.lt k hk
 ·obtain⟨o2,ho2⟩:=I.good f hf;obtain⟨g1,g2⟩:=hb' f hf;obtain⟨g3x,g3s⟩:=he' f hf;have hs2:∀ t∈qO ops st.tmps o2,(putX st o.dst r).tmps.getD t .undef=st.tmps.getD t .undef:=UB (λd hd=>by rw [ho2.looks]; exact(g1 d hd).1) (λt ht=>g3s t (by rw [<- ho2.looks]; exact ht))
  have hlen:st.heap.length<=(putX st o.dst r).heap.length:=by
   rw [vw];have hkl:(zx r.kill st.heap).length=st.heap.length:=by simp [zJ]
   have:=yX r.eff (zx r.kill st.heap);omega
  refine⟨o2,ho2.op,ho2.dst,?_,?_,ho2.self,?_,?_,?_⟩
  ·rcases ha' f hf with ⟨g4,g3b⟩ | ⟨o3,g4,g5⟩
   ·have hheap:∀ j∈f.labs,(putX st o.dst r).heap[j]?=st.heap[j]?:=by
     intro j hj;rw [vw];have hlt:=ho2.lab j hj;have hkl:(zx r.kill st.heap).length=st.heap.length:=by simp [zJ]
     obtain⟨k1,k2⟩:=uN (h:=zx r.kill st.heap) (eff:=r.eff) (i:=j) (by omega) λp hp h=>g4 p hp (h▸hj)
     refine k1.trans ?_;have:=g3b j hj;simp only [List.getD,aF hlt,Option.getD_some] at this;rw [zJ,aN,aF hlt,Option.map_some,this]
    rw [wK hs2 (.inr ⟨_,ho2.quiet,hheap⟩)]; exact ho2.val
   ·rw [ho2.op] at g4; cases g4; exact g5
  ·rw [xo hs2]; exact ho2.looks
  ·rw [ky hs2,vV hs2]; exact ho2.quiet
  ·intro j hj;exact bB (ho2.lab j hj) hlen
  ·intro hl;rw [kI] at hl;rw [jU,ho2.slot hl,g3x];cases hd:o.dst with
   | none=>rfl
   | some d=>
    simp only;rw [aO (λh=>(g1 d hd).2 h.1.symm)];cases hx:f.x with
    | opt u want y=>
     simp only [qh];split
     ·rename_i hu;subst hu;exact absurd (ho2.KU hx) (g1 _ hd).1
     ·rfl
    | _=>simp only [qh]
 ·intro f hf t want x hx;obtain⟨g1,g2⟩:=hb' f hf;rw [jU] at hx;cases hd:o.dst with
  | none=>rw [hd] at hx; exact I.VG f hf t want x (kN hx)
  | some d=>
   rw [hd] at hx;simp only at hx;split at hx
   ·exact absurd (by simp [zQ,hopt _ _ _ hx]) g2
   ·rcases kn d (z7 r.kill (st.tmps.getD t .undef)) with ⟨h,_⟩ | h
    ·rw [h] at hx; exact I.VG f hf t want x (kN hx)
    ·rw [h] at hx; cases hx
 ·intro k o2 hk ho2 j hj;rw [hset] at hk ⊢;split
  ·rfl
  ·split at hk
   ·rename_i hke;subst hke;rw [h1] at ho2; cases ho2;exact hall j hj
   ·exact I.cl k o2 hk ho2 j hj
theorem modB{D:List Nat}{o:Oper}{r:Res}{w':World}{Z':List SE}{a':Act}(hm:Mod O pin w0 I0 w' Z' (putX (mask D st) o.dst r) a'):Mod O pin w0 I0 w' Z' (mask D (putX st o.dst r)) a':=by
 refine hm.weaken ?_ (by rw [jn,kI,kI,jn]) λt=> ?_
 ·show(putX st o.dst r).heap=_;rw [vw,vw]; rfl
 ·rw [qS];by_cases h:t∈D
  ·rw [aP h]; exact .inr rfl
  ·rw [aO h,jU,jU,jn,qS,aO h]; exact .inl rfl
end
end Go.Sx
end
section
namespace Go.Sx
variable [Stat]
open Go.RowKit (Below)
section
variable {O:Nat->Prop} {pin:Nat} {w0:World} {I0:List SE} {P:Program} {Γ:Nat->Option Ctr}
variable {ops:Array Oper} {Qe:Exit->Act->World->Prop} {Xp:List PanicEntry->Prop}
def Fine(M:Option Nat)(P:Program)(Γ:Nat->Option Ctr)(O:Nat->Prop)(pin:Nat)(w0:World)(I0:List SE)(ops:Array Oper)(Qe:Exit->Act->World->Prop)(L:List Nat)(res:List Ent)(st:St):Prop:=
 ∀ (pend:List Ent) (listed:Array Bool) (fuel:Nat) (U:List Nat) (w:World) (σ:List SE) (a:Act),Inv P Γ ops L st pend listed->(∀ e∈pend,e∈res) ->
  (∀ k,k<ops.size->listed.getD k true=false->k∈U)->U.length<=fuel->Mod O pin w0 I0 w σ (mask (pend.map (·.d)) st) a->wpAnyIn (FM M) 0 P .any ops Qe fuel listed a w
theorem ZK{α:Type}{Q:α->Prop} : ∀ {l:List (Tree α)},(YQ l).holds Q->∀ t∈l,t.holds Q
 | [],_,t,ht=>by cases ht
 | [t],h,t',ht=>by simp only [List.mem_singleton] at ht; subst ht; exact h
 | t::t2::l,h,t',ht=>by
  simp only [YQ,Tree.holds] at h;rcases aM.1 ht with rfl | ht
  ·exact(h.2 true trivial).1 rfl
  ·exact ZK ((h.2 false trivial).2 rfl) t' ht
theorem zbv{w:World}{σ:List SE}{st:St}{a:Act}(hm:Mod O pin w0 I0 w σ (mask [] st) a):Mod O pin w0 I0 w σ st a:=
 hm.weaken rfl (by rw [jn]) λt=>.inl (by rw [qS]; simp)
theorem Jd{x y:AV}{p:Prop}(h:W3 x y=some p)(hp:p):x=y:=by
 unfold W3 at h;split at h
 ·cases h; rw [hp]
 ·split at h
  ·rename_i hk; cases h; rw [hk,hp]
  ·cases h
 ·cases h; rw [hp]
 ·split at h
  ·rename_i hk; rw [hk.1,hk.2]
  ·cases h
 ·split at h
  ·rename_i hk; cases h; rw [hk.1,hk.2.1,hk.2.2,hp]
  ·cases h
 ·split at h
  ·rename_i hk; rw [hk]
  ·cases h
 ·cases h; rw [hp]
 ·rfl
 ·rfl
 ·rfl
 ·cases h; rw [hp.1,hp.2.1,hp.2.2]
 ·split at h
  ·rename_i hk; cases h; rw [hk.1,hk.2,hp.1,hp.2]
  ·cases h
 ·cases h
theorem KH:∀ {l m:List AV} {p:Prop},JQ l m=some p->p->l=m
 | [],[],_,_,_=>rfl
 | [],_::_,_,h,_=>by simp [JQ] at h
 | _::_,[],_,h,_=>by simp [JQ] at h
 | a::l,b::m,p,h,hp=>by
  simp only [JQ] at h;split at h
  ·rename_i p1 h1;split at h
   ·rename_i p2 h2;cases h;rw [Jd h1 hp.1,KH h2 hp.2]
   ·cases h
  ·cases h
theorem za2{x y:AV}{p:Prop}(h:Wy x y=some p)(hp:p):x=y:=by
 unfold Wy at h;split at h
 ·rw [KH h hp]
 ·exact Jd h hp
theorem uM{α:Type}{st:St}{Q:α->Prop}{t:Tree α} : ∀ {l:List Ent},(uH P Γ ops st l t).holds Q->(∀ e∈l,∃ o2,ops[e.k]?=some o2/\(qZ P Γ ops st o2).holds (λr'=>r'=⟨e.x,[],[]⟩))/\t.holds Q
 | [],h=>⟨by simp,h⟩
 | e::l,h=>by
  simp only [uH] at h;split at h
  ·rename_i o ho;rw [Tree.zo] at h
   have key:∀ r:Res,(match r with
     | ⟨x,[],[]⟩=>match Wy x e.x with
      | some p=>Tree.side p (uH P Γ ops st l t)
      | none=>.fail
     | _=>.fail).holds Q->r=⟨e.x,[],[]⟩/\(uH P Γ ops st l t).holds Q:=by
    intro r hr;split at hr
    ·rename_i x;split at hr
     ·rename_i p hp;obtain⟨h1,h2⟩:=hr;exact⟨by rw [za2 hp h1],h2 h1⟩
     ·exact hr.elim
    ·exact hr.elim
   obtain⟨r,hr⟩:=Tree.vg h;obtain⟨h1,h2⟩:=uM (key r hr).2;refine⟨λf hf=> ?_,h2⟩;rcases aM.1 hf with rfl | hf
   ·exact⟨o,ho,Tree.zU (λr hr=>(key r hr).1) h⟩
   ·exact h1 f hf
  ·exact h.elim
theorem zez{st st':St}{dst:Option Nat}{r:Res}(h:st'.tmps.length=st.tmps.length):botR st' dst r=botR st dst r:=by unfold botR; rw [h]
theorem ZS{M:Option Nat}(hΓ:∀ g c,Γ g=some c->j2 Xp P g c)(hP:∀ ch a w',Xp ch->Dead I0 w0 w' a.defers->Qe (.panic ch) a w'){L:List Nat}{res:List Ent}{st:St}
  (h:(kD ops L=[]/\∀ w σ a,Mod O pin w0 I0 w σ st a->Qe .normal a w) \/
   kD ops L≠[]/\∀ i∈kD ops L,∃ o,ops[i]?=some o/\(∀ f∈res,wE (jX ops o) o.dst (zQ ops st.tmps o) false f=true) /\
    (qZ P Γ ops st o).holds λr=>botR st o.dst r=true\/((∀ f∈res,effK (jX ops o) st r f=true)/\∀ f∈res,effE (jX ops o) st r f=true\/∃ o2,ops[f.k]?=some o2/\(qZ P Γ ops (putX st o.dst r) o2).holds (λr'=>r'=⟨f.x,[],[]⟩))/\(∀ j∈r.kill,pin<=j)/\Fine M P Γ O pin w0 I0 ops Qe (i::L) res (putX st o.dst r)) :
  ∀ m,∀ (pend:List Ent) (listed:Array Bool) (fuel:Nat) (U:List Nat) (w:World) (σ:List SE) (a:Act),pend.length<=m->Inv P Γ ops L st pend listed->(∀ e∈pend,e∈res) ->
  (∀ k,k<ops.size->listed.getD k true=false->k∈U)->U.length<=fuel->Mod O pin w0 I0 w σ (mask (pend.map (·.d)) st) a->wpAnyIn (FM M) 0 P .any ops Qe fuel listed a w:=by
 intro m
 induction m using Nat.strongRecOn with
 | _ m ih=>
  intro pend listed fuel U w σ a hlen I hsub hU hfuel hm
  have hnone:Region.ready .any ops listed=[]->Qe .normal a w:=by
   intro hnil
   have hp:pend=[]:=by
    rcases Classical.em (pend=[]) with h | h
    ·exact h
    ·obtain⟨e,_,he⟩:=I.first h;rw [hnil] at he; cases he
   subst hp;rcases h with ⟨h1,h2⟩ | ⟨h1,h2⟩
   ·exact h2 w σ a (zbv hm)
   ·exfalso;obtain⟨i,hi⟩:=List.exists_mem_of_ne_nil _ h1;obtain⟨g1,o2,g2,g3⟩:=yc.1 hi;have hlt:=(aQ.1 g2).1;have:i∈Region.ready .any ops listed:=wi.2 ⟨(I.lis i hlt).2 (.inl g1),o2,g2,λk hk=>(I.T k).2 ⟨g3 k hk,by simp⟩⟩;rw [hnil] at this; cases this
  have hinU:∀ k∈Region.ready .any ops listed,k∈U:=by
   intro k hk;obtain⟨g1,o,g2,_⟩:=wi.1 hk;exact hU k (aQ.1 g2).1 g1
  cases fuel with
  | zero=>
   have hnil:Region.ready .any ops listed=[]:=by
    rw [List.eq_nil_iff_forall_not_mem];intro k hk;have:=hinU k hk;rw [aU.1 (Nat.le_zero.1 hfuel)] at this;cases this
   exact⟨hnil,hnone hnil⟩
  | succ fuel=>
   refine⟨hnone,λk hk=> ?_⟩;obtain⟨hun,ok,hok,hall⟩:=wi.1 hk;have hkU:=hinU k hk
   have hUe:∀ j,j<ops.size->(listed.setIfInBounds k true).getD j true=false->j∈U.erase k:=by
    intro j hj hl;rw [xU hun] at hl;split at hl
    ·cases hl
    ·rename_i hne;exact(List.mem_erase_of_ne hne).2 (hU j hj hl)
   have hUl:(U.erase k).length<=fuel:=by
    rw [List.length_erase_of_mem hkU]; omega
   by_cases hp:∃ e∈pend,e.k=k
   ·obtain⟨e,he,rfl⟩:=hp;obtain⟨o,ho⟩:=I.good e he;have hoo:o=ok:=by rw [ho.op] at hok; exact Option.some.inj hok
    subst hoo;have hcl:=I.clear he hk
    have hcore:∀ t∈qO ops st.tmps o,(mask (pend.map (·.d)) st).tmps.getD t .undef=st.tmps.getD t .undef:=by
     intro t ht;rw [qS,aO];intro hd;obtain⟨f,hf,hft⟩:=List.mem_map.1 hd;have htl:t∈e.looks:=by rw [<- ho.looks]; simp [zQ,ht]
     by_cases hfe:f.k=e.k
     ·have:=I.uniq f hf e he hfe;subst this;exact ho.self (hft▸htl)
     ·exact(hcl f hf hfe).1 (hft▸htl)
    have hq:(qZ P Γ ops (mask (pend.map (·.d)) st) o).holds (λr=>r=⟨e.x,[],[]⟩):=by
     rw [wK hcore (.inl rfl)]; exact ho.val
    have:=xw (M:=M) hΓ hm (Qe:=Qe) (K:=wpAnyIn (FM M) 0 P .any ops Qe fuel (listed.setIfInBounds e.k true)) hq (λr w' Z' v hr hM=>by
     subst hr;have hM:=hM (by simp);rw [ho.dst] at hM ⊢;refine ih (pend.filter λf=>f.k != e.k).length ?_ _ _ fuel (U.erase e.k) w' Z' _ (aJ _) (I.zkq he hk) (λf hf=>hsub f (List.mem_filter.1 hf).1) hUe hUl (modA I he hk hM);refine bB ?_ hlen;exact List.length_filter_lt_length_iff_exists.2 ⟨e,he,by simp⟩) hP
    unfold wpOpIn;rw [ho.op];simp only;split
    ·rename_i hw; rw [aP hw] at this; exact this
    ·rename_i hw; rw [aO hw] at this; exact this
   ·have hkL:k∉L:=by
     have hlt:=(aQ.1 hok).1;rcases(I.lis k hlt).1 hun with h1 | h1
     ·exact h1
     ·exact absurd h1 hp
    have hkr:k∈kD ops L:=yc.2 ⟨hkL,ok,hok,λj hj=>((I.T j).1 (hall j hj)).1⟩;rcases h with ⟨h1,h2⟩ | ⟨h1,hall2⟩
    ·rw [h1] at hkr; cases hkr
    ·obtain⟨o,h2,h3,h4⟩:=hall2 k hkr;have hoo:o=ok:=by rw [h2] at hok; exact Option.some.inj hok
     subst hoo;have hb:∀ f∈pend,wE (jX ops o) o.dst (zQ ops st.tmps o) false f=true:=λf hf=>h3 f (hsub f hf)
     have hcore:∀ t∈qO ops st.tmps o,(mask (pend.map (·.d)) st).tmps.getD t .undef=st.tmps.getD t .undef:=by
      intro t ht;rw [qS,aO];intro hd;obtain⟨f,hf,hft⟩:=List.mem_map.1 hd
      have hanc:f.k∉jX ops o:=λh'=>by
       have:=WZ (T:=λk=>listed.getD k false=true) I.cl hall f.k h';exact((I.T f.k).1 this).2 ⟨f,hf,rfl⟩
      have:=hb f hf;simp only [wE,bX,hanc,decide_false,Bool.false_and,Bool.false_or,bA,Bool.not_eq_true',aV] at this;exact this.2 (by rw [hft]; simp [zQ,ht])
     have hq:=JI h4;rw [<- wK (P:=P) (Γ:=Γ) hcore (.inl rfl)] at hq
     have:=xw (M:=M) hΓ hm (Qe:=Qe) (K:=wpAnyIn (FM M) 0 P .any ops Qe fuel (listed.setIfInBounds k true)) hq (λr w' Z' v hr hM=>by
      obtain⟨hr0,g4⟩:=hr;rcases hr0 with hb0 | ⟨g1,g2,g3⟩
      ·exact(Jg ((zez (jn _ st)).trans hb0) hM).elim
      have hM:=hM g2;exact g3 pend _ fuel (U.erase k) w' Z' _ (I.zkx h2 hkL hk hb (λf hf=>g1.1 f (hsub f hf)) (λf hf=>g1.2 f (hsub f hf)) g4) hsub hUe hUl (modB hM)) hP
     unfold wpOpIn;rw [h2];simp only;split
     ·rename_i hw; rw [aP hw] at this; exact this
     ·rename_i hw; rw [aO hw] at this; exact this
theorem Qw{M:Option Nat}(hΓ:∀ g c,Γ g=some c->j2 Xp P g c)(hP:∀ ch a w',Xp ch->Dead I0 w0 w' a.defers->Qe (.panic ch) a w'){Q:St->Prop}(hQe:∀ st' w' Z' a',Q st'->Mod O pin w0 I0 w' Z' st' a'->Qe .normal a' w') :
  ∀ (n:Nat) (L:List Nat) (res:List Ent) (st:St),(anyX P Γ pin ops n L res st).holds Q->Fine M P Γ O pin w0 I0 ops Qe L res st
 | 0,L,res,st,hq=>by simp only [anyX] at hq; exact hq.elim
 | n+1,L,res,st,hq=>by
  simp only [anyX] at hq;split at hq
  ·rename_i hnil;intro pend listed fuel U w σ a I hs hU hf hm;exact ZS hΓ hP (.inl ⟨hnil,λw σ a hm=>hQe _ _ _ _ hq hm⟩) pend.length pend listed fuel U w σ a (aJ _) I hs hU hf hm
  ·rename_i i0 rs hrs;split at hq
   ·
    rename_i e hfind;split at hq
    ·rename_i o ho;split at hq
     ·rename_i hcond;simp only [bA,bG] at hcond;obtain⟨hbes,hmem⟩:=hcond;obtain⟨j,hj,hent0⟩:=List.exists_of_findSome?_eq_some hfind
      have hent:zdo P Γ ops st j=some e:=by
       unfold ziz at hent0;split at hent0
       ·split at hent0
        ·split at hent0
         ·cases hent0; assumption
         ·cases hent0
        ·cases hent0
       ·cases hent0
      unfold zdo at hent;split at hent
      ·rename_i o2 ho2;split at hent
       ·rename_i d ls hd hls;split at hent
        ·cases hent
        ·rename_i hcon;split at hent
         ·rename_i ps x hch;cases hent;simp only at ho hq hbes hmem;have hoo:o2=o:=by rw [ho2] at ho; exact Option.some.inj ho
          subst hoo;rw [Tree.zo] at hq;obtain⟨hq1,hq2⟩:=ZI hch hq;have hF:=Qw (M:=M) hΓ hP hQe n _ _ _ hq1;simp only [Bool.or_eq_true,bX,aK,Bool.not_eq_true',List.all_eq_false,not_or,not_exists,not_and,Bool.not_eq_false] at hcon;intro pend listed fuel U w σ a I hs hU hf hm;have hrd:j∈kD ops L:=by rw [hrs]; simpa using hmem
          rw [hd] at hF;refine hF (_::pend) listed fuel U w σ a (I.ahead (e:=⟨j,d,zQ ops st.tmps o2,ls,x⟩) ho2 hd hq2 rfl hcon.1 hls (λi hi=>by simpa using hcon.2 i hi) hrd ?_) ?_ hU hf (modC (e:=⟨j,d,zQ ops st.tmps o2,ls,x⟩) hm)
          ·intro f hf';have:=hbes f (hs f hf');rw [hd] at this;exact this
          ·intro f hf';rcases aM.1 hf' with rfl | hf'
           ·simp
           ·simp [hs f hf']
         ·cases hent
       ·cases hent
      ·cases hent
     ·exact hq.elim
    ·exact hq.elim
   ·intro pend listed fuel U w σ a I hs hU hf hm;refine ZS hΓ hP (.inr ⟨by rw [hrs]; simp,λi hi=> ?_⟩) pend.length pend listed fuel U w σ a (aJ _) I hs hU hf hm;rw [hrs] at hi;have hq:=ZK hq _ (List.mem_map_of_mem hi);split at hq
    ·rename_i o ho;split at hq
     ·rename_i hbes;rw [bG] at hbes;rw [Tree.zo] at hq;refine⟨o,ho,hbes,Tree.zU ?_ hq⟩;intro r hr;cases hb0:botR st o.dst r with
      | true=>exact .inl rfl
      | false=>
      rw [hb0] at hr;right;simp only [cond_false] at hr;split at hr
      ·rename_i he;rw [bG] at he;obtain⟨h1,h2⟩:=JP hr;obtain⟨h3,h4⟩:=uM h2;refine⟨⟨he,λf hf=> ?_⟩,h1,Qw (M:=M) hΓ hP hQe n _ _ _ h4⟩;cases hE:effE (jX ops o) st r f with
       | true=>exact .inl rfl
       | false=>exact .inr (h3 f (List.mem_filter.2 ⟨hf,by rw [hE]; rfl⟩))
      ·exact hr.elim
     ·exact hq.elim
    ·exact hq.elim
theorem UM{M:Option Nat}(hmix:P.follows .mixedOrders=true)(hΓ:∀ g c,Γ g=some c->j2 Xp P g c){Q:St->Prop}{w:World}{σ:List SE}{st:St}{a:Act}{n id:Nat}(hq:(anyX P Γ pin ops n [] [] st).holds Q)(hm:Mod O pin w0 I0 w σ st a)
  (hQe:∀ st' w' Z' a',Q st'->Mod O pin w0 I0 w' Z' st' a'->Qe .normal a' w') (hP:∀ ch a w',Xp ch->Dead I0 w0 w' a.defers->Qe (.panic ch) a w'):(Code.region id ops true).wpIn (FM M) 0 P Qe a w:=by
 refine wpIn_region_any hmix ?_;have hF:=Qw (M:=M) hΓ hP hQe n [] [] st hq
 have hget:∀ k,(Array.replicate ops.size false).getD k true=decide (¬ k<ops.size)/\(Array.replicate ops.size false).getD k false=false:=by
  intro k;by_cases hk:k<ops.size<;>simp [hk]
 refine hF [] _ ops.size (List.range ops.size) _ σ a ⟨λk hk=>by simp [hk],λk hk=>by simp [hk],λk hk=>by simp [hk],trivial,by simp,by simp,by simp,by simp,by simp,by simp,λk o hk=> ?_⟩ (by simp) (λk hk _=>by simpa using hk) (by simp) ?_
 ·rw [(hget k).2] at hk; cases hk
 ·have hx:Ext (Own O σ) w (Own O σ) { w with drawn:=w.drawn+1 } :=⟨rfl,rfl,rfl,aJ _,λ_ _ _=>rfl,λ_ h=>.inl h⟩;have hh:Hold [] w σ { w with drawn:=w.drawn+1 } σ:=λ_ _ h _=>⟨h,λ_ _ cs el h=>⟨cs,el,h,rfl⟩⟩
  have hm2:Mod O pin w0 I0 { w with drawn:=w.drawn+1 } σ st a:=by
   refine⟨⟨hm.good.old,hm.good.dis,hm.good.stat.ext hx⟩,⟨hm.hp.len,hm.hp.inj,hm.hp.lt,λi e b he hb=> ?_⟩,hm.size,λt=> ?_,hm.df.ext hx,hm.since.trans ⟨hx,λ_ _ _=>rfl,vK.of hh (by simp)⟩,hm.lim⟩
   ·have:=jt hx hh (hm.hp.blk i e b he hb) (λ_ _=>rfl)
    rwa [j9] at this
   ·exact Jn (K:=[]) hx hh (hm.tm t) (λ_ _ _ _=>rfl)
  exact hm2.weaken rfl (by rw [List.map_nil,jn]) λt=>.inl (by rw [qS]; simp)
end
end Go.Sx
end
section
namespace Go.Sx
variable [Stat]
open Go.RowKit (Below)
section
variable {O:Nat->Prop} {pin:Nat} {w0:World} {I0:List SE} {w:World} {σ:List SE} {P:Program} {st:St} {a:Act} {Γ:Nat->Option Ctr} {Xp:List PanicEntry->Prop}
theorem JR{M:Option Nat}(hΓ:∀ g c,Γ g=some c->j2 Xp P g c){ops:Array Oper}{Q:St->Prop}{Qe:Exit->Act->World->Prop}(hK:∀ st' w' Z' a',Q st'->Mod O pin w0 I0 w' Z' st' a'->Qe .normal a' w')(hP:∀ ch a w',Xp ch->Dead I0 w0 w' a.defers->Qe (.panic ch) a w') :
  ∀ (l:List Oper) {st:St} {w:World} {σ:List SE} {a:Act},Mod O pin w0 I0 w σ st a->(opsX P Γ pin ops l st).holds Q->wpListIn (FM M) 0 P ops Qe l a w
 | [],st,w,σ,a,hm,hq=>hK st w σ a hq hm
 | o::l,st,w,σ,a,hm,hq=>by
  simp only [opsX,Tree.zo] at hq
  exact wpListIn_step λK hKK=>KZ hΓ hm hq (λst' w' Z' a' hq' hm'=>by
   cases hg:uY st' with
   | true=>exact(xR hg hm').elim
   | false=>rw [hg] at hq'; exact hKK _ _ (JR hΓ hK hP l hm' hq')) (λch a w' h1 h2=>hP ch a w' h1 h2)
theorem Qg(hm:Mod O pin w0 I0 w σ st a):Mod O pin w0 I0 w σ (ym st) a:=by
 refine⟨hm.good,hm.hp,by simp [ym,hm.size],λt=> ?_,hm.df,hm.since,hm.lim⟩;have h:=hm.tm t;have:(ym st).tmps.getD t .undef=(fun | .opt _ _ _=>.undef | x=>x) (st.tmps.getD t .undef):=getD_map rfl _ _;rw [this];generalize st.tmps.getD t .undef=x at h;cases x<;>simp only [TRep] at h ⊢ <;> first | exact h | simp [Rep]
def wpK(M:Option Nat)(P:Program)(H:Nat->Act->World->Prop)(B:Exit->Act->World->Prop):List Item->Exit->Act->World->Prop
 | [],e,a,w=>B e a w
 | .code c::k,.normal,a,w=>c.wpIn (FM M) 0 P (wpK M P H B k) a w
 | .code _::k,e,a,w=>wpK M P H B k e a w
 | .inBlock _::k,.normal,a,w=>wpK M P H B k .normal a w
 | .inBlock id::k,.exit i,a,w=>if i=id then wpK M P H B k .normal a w else wpK M P H B k (.exit i) a w
 | .inBlock _::k,e,a,w=>wpK M P H B k e a w
 | .inLoop::k,.normal,a,w=>H (j7 k) a w
 | .inLoop::k,e,a,w=>wpK M P H B k e a w
section
variable {H:Nat->Act->World->Prop} {B:Exit->Act->World->Prop}
theorem yT{M:Option Nat} : ∀ {k:List Item} {a:Act} {w:World},B .ret a w->wpK M P H B k .ret a w
 | [],_,_,h=>h
 | .code _::k,_,_,h=>yT (k:=k) h
 | .inBlock _::k,_,_,h=>yT (k:=k) h
 | .inLoop::k,_,_,h=>yT (k:=k) h
theorem kp{M:Option Nat}{ch:List PanicEntry} : ∀ {k:List Item} {a:Act} {w:World},B (.panic ch) a w->wpK M P H B k (.panic ch) a w
 | [],_,_,h=>h
 | .code _::k,_,_,h=>kp (k:=k) h
 | .inBlock _::k,_,_,h=>kp (k:=k) h
 | .inLoop::k,_,_,h=>kp (k:=k) h
theorem yU{M:Option Nat}{id:Nat} : ∀ {k k':List Item} {a:Act} {w:World},exitTo id k=some k'->wpK M P H B k' .normal a w->wpK M P H B k (.exit id) a w
 | [],_,_,_,h,_=>by simp [exitTo] at h
 | .code _::k,_,_,_,h,hk=>yU (k:=k) (by simpa [exitTo] using h) hk
 | .inLoop::k,_,_,_,h,hk=>yU (k:=k) (by simpa [exitTo] using h) hk
 | .inBlock i::k,_,_,_,h,hk=>by
  simp only [exitTo] at h;simp only [wpK];split at h
  ·rename_i hi;cases h;rw [aP hi.symm]; exact hk
  ·rename_i hi;rw [aO (λe=>hi e.symm)];exact yU h hk
def uB(M:Option Nat)(P:Program)(H:Nat->Act->World->Prop)(B:Exit->Act->World->Prop)(O:Nat->Prop)(pin:Nat)(w0:World)(I0:List SE):Leaf->Prop
 | .ret st=>∀ w σ a,Mod O pin w0 I0 w σ st a->B .ret a w/\B .normal a w
 | .back d st=>∀ w σ a,Mod O pin w0 I0 w σ st a->H d a w
 | .loop c k st=>∀ w σ a,Mod O pin w0 I0 w σ st a->(Code.loop c).wpIn (FM M) 0 P (wpK M P H B k) a w
 | .range c k st=>∀ w σ a,Mod O pin w0 I0 w σ st a->c.wpIn (FM M) 0 P (wpK M P H B k) a w
 | .gone=>True
theorem qE{M:Option Nat}(hmix:P.follows .mixedOrders=true)(hΓ:∀ g c,Γ g=some c->j2 Xp P g c)(hB:∀ ch a w',Xp ch->Dead I0 w0 w' a.defers->B (.panic ch) a w'):∀ (n:Nat) {k:List Item} {st:St} {w:World} {σ:List SE} {a:Act},(run P Γ pin n k st).holds (uB M P H B O pin w0 I0)->Mod O pin w0 I0 w σ st a->wpK M P H B k .normal a w
 | 0,k,st,w,σ,a,hq,hm=>by simp only [run] at hq; exact hq.elim
 | n+1,[],st,w,σ,a,hq,hm=>by
  simp only [run,Tree.holds,uB] at hq;exact(hq w σ a hm).2
 | n+1,.inBlock id::k,st,w,σ,a,hq,hm=>by
  simp only [run] at hq;have:=qE hmix hΓ hB n hq hm;simpa only [wpK] using this
 | n+1,.inLoop::k,st,w,σ,a,hq,hm=>by
  simp only [run,Tree.holds,uB] at hq;exact hq w σ a hm
 | n+1,.code c::k,st,w,σ,a,hq,hm=>by
  simp only [wpK];cases c with
  | skip=>
   simp only [run] at hq;exact wpIn_skip (qE hmix hΓ hB n hq hm)
  | seq x y=>
   simp only [run] at hq;have:=qE hmix hΓ hB n hq hm;simp only [wpK] at this;refine wpIn_seq (wpIn_mono this λe a w h=> ?_);cases e<;>exact h
  | region id ops draw=>
   cases draw with
   | true=>
    simp only [run,Tree.zo,force_eq] at hq
    exact UM hmix hΓ hq hm (λst' w' Z' a' hq' hm'=>by
     cases hg:uY st' with
     | true=>exact(xR hg hm').elim
     | false=>rw [hg] at hq'; exact qE hmix hΓ hB n hq' (Qg hm')) λch a w' h1 h2=>kp (hB ch a w' h1 h2)
   | false=>
    simp only [run,Tree.zo,force_eq] at hq
    exact wpIn_region_list (JR hΓ (λst' w' Z' a' hq' hm'=>by
     cases hg:uY st' with
     | true=>exact(xR hg hm').elim
     | false=>rw [hg] at hq'; exact qE hmix hΓ hB n hq' (Qg hm')) (λch a w' h1 h2=>kp (hB ch a w' h1 h2)) _ hm hq)
  | cond c x y=>
   cases c with
   | tmp t=>
    simp only [run] at hq;have ht:=hm.tm t;generalize st.tmps.getD t .undef=v at ht hq;cases v with
    | bool b=>
     simp only [TRep,Rep] at ht;simp only [Tree.holds] at hq;refine wpIn_cond (t:=b) ht ?_;cases b with
     | true=>
      have:=qE hmix hΓ hB n (hq.1 rfl) hm;simpa only [wpK,if_true] using this
     | false=>
      have:=qE hmix hΓ hB n (hq.2 rfl) hm;simpa only [wpK,Bool.false_eq_true,if_false] using this
    | _=>exact hq.elim
   | _=>simp only [run] at hq; exact hq.elim
  | block id c=>
   simp only [run] at hq;have:=qE hmix hΓ hB n hq hm;simp only [wpK] at this;refine wpIn_block (wpIn_mono this λe a w h=> ?_);cases e<;>exact h
  | loop c=>
   simp only [run,Tree.holds,uB] at hq;exact hq w σ a hm
  | rangeFunc g ps x y=>
   simp only [run,Tree.holds,uB] at hq;exact hq w σ a hm
  | exit id=>
   simp only [run] at hq;split at hq
   ·rename_i k' hk;exact wpIn_exit (yU hk (qE hmix hΓ hB n hq hm))
   ·exact hq.elim
  | ret=>
   simp only [run,Tree.holds,uB] at hq;exact wpIn_ret (yT (hq w σ a hm).1)
  | _=>simp only [run] at hq; exact hq.elim
end
end
end Go.Sx
end
section
namespace Go.Sx
variable [Stat]
open Go.RowKit (Below)
structure wy(w w':World):Prop where
 cells:∀ (b:Nat) (cs:Array Value) (el:TypeId) (fr:Nat×Nat),w.heap[b]?=some (Obj.cells cs el fr)->w'.heap[b]?=some (Obj.cells cs el fr)
 maps:∀ (b:Nat) (es:Array MapEntry) (clock:Nat),(∃ g,KQ w b g)->w.heap[b]?=some (.map es clock)->w'.heap[b]?=some (.map es clock)
theorem wy.cell{w w':World}(h:wy w w'){a:Addr}{c:Value}(hc:w.cell? a=some c):w'.cell? a=some c:=by
 unfold World.cell? at hc ⊢;cases hb:w.heap[a.block]? with
 | none=>simp [hb] at hc
 | some o=>
  rw [hb] at hc;cases o with
  | cells cs el fr=>rw [h.cells _ _ _ _ hb]; exact hc
  | _=>simp at hc
mutual
theorem qq{own:Nat->Prop}{w w':World}(hx:wy w w')(σ:List SE):∀ (a:AV) (v:Value),Rep own w a σ v->Rep own w' a σ v
 | .undef,_,_=>by simp [Rep]
 | .bool b,v,h=>by simpa [Rep] using h
 | .int k n,v,h=>by simpa [Rep] using h
 | .str s,v,h=>by simpa [Rep] using h
 | .nils,v,h=>by simpa [Rep] using h
 | .sl n sz get,v,h=>by
  simp only [Rep] at h ⊢;obtain⟨a,cap,hv,hle,hr⟩:=h;refine⟨a,cap,hv,hle,?_⟩;rcases hr with hr | ⟨ad,ha,hs,hr⟩
  ·exact .inl hr
  ·refine .inr ⟨ad,ha,hs,λj o hj ho=> ?_⟩;obtain⟨hn,c,hc,h1,hR⟩:=hr j o hj ho;exact⟨hn,c,hx.cell hc,h1,qq hx [] (get j o) c hR⟩
 | .osl i sz off n,v,h=>by
  simp only [Rep] at h ⊢;obtain⟨e,he,hl,a,cap,hv,hc,hr⟩:=h;refine⟨e,he,hl,a,cap,hv,hc,?_⟩;rcases hr with hr | ⟨ad,ha,hb,cs,el,hcs,hsz⟩
  ·exact .inl hr
  ·exact .inr ⟨ad,ha,hb,cs,el,hx.cells _ _ _ _ hcs,hsz⟩
 | .ptr i off,v,h=>by simpa only [Rep] using h
 | .nilp,v,h=>by simpa [Rep] using h
 | .eptr i sz idx off,v,h=>by simpa only [Rep] using h
 | .omap i,v,h=>by simpa only [Rep] using h
 | .iptr m get,v,h=>by
  simp only [Rep] at h ⊢;obtain⟨ad,hv,hs,hr⟩:=h;refine⟨ad,hv,hs,λo ho=> ?_⟩;obtain⟨hn,c,hc,hR⟩:=hr o ho;exact⟨hn,c,hx.cell hc,qq hx [] (get o) c hR⟩
 | .gptr g,v,h=>by simpa [Rep] using h
 | .agg cs,v,h=>by
  simp only [Rep] at h ⊢;obtain⟨vs,hv,hr⟩:=h;exact⟨vs,hv,w7 hx σ cs vs hr⟩
 | .tup cs,v,h=>by
  simp only [Rep] at h ⊢;obtain⟨vs,hv,hr⟩:=h;exact⟨vs,hv,w7 hx σ cs vs hr⟩
 | .fn f a b,v,h=>by
  simp only [Rep] at h ⊢;obtain⟨va,vb,hv,hr,hr2⟩:=h;exact⟨va,vb,hv,w7 hx σ a va hr,w7 hx σ b vb hr2⟩
 | .nilf,v,h=>by simpa [Rep] using h
 | .bot,v,h=>by simp [Rep] at h
 | .opt _ _ _,_,_=>by simp [Rep]
 | .mp k ag sz ks has get,v,h=>by
  simp only [Rep] at h ⊢;obtain⟨b,es,clock,hv,hn,hlim,hb,hg⟩:=h
  refine⟨b,es,clock,hv,hn,(by
   obtain⟨g,h1,h2,h3⟩:=hlim;exact⟨g,h1,h2,hx.cell h3⟩),hx.maps b es clock (hlim.imp λg h=>h.2) hb,λn=>⟨(hg n).1,λh1=> ?_⟩⟩
  obtain⟨i,x,h2,h3⟩:=(hg n).2 h1;refine⟨i,x,h2,?_⟩;cases ag with
  | true=>
   obtain⟨vs,e1,e2,e3⟩:=h3
   exact⟨vs,e1,e2,λo ho=>by
    obtain⟨c,g1,g2⟩:=e3 o ho;exact⟨c,g1,qq hx [] (get n o) c g2⟩⟩
  | false=>exact qq hx [] (get n 0) x h3
theorem w7{own:Nat->Prop}{w w':World}(hx:wy w w')(σ:List SE):∀ (l:List AV) (vs:List Value),RepL own w l σ vs->RepL own w' l σ vs
 | [],vs,h=>by simpa [RepL] using h
 | a::l,vs,h=>by
  simp only [RepL] at h ⊢;obtain⟨v,r,hv,h1,h2⟩:=h;exact⟨v,r,hv,qq hx σ a v h1,w7 hx σ l r h2⟩
end
def Wq:Blk->Bool
 | .map _ _ _ _ _=>true
 | _=>false
theorem Xf{own:Nat->Prop}{w w':World}(hx:wy w w'){σ:List SE}{e:SE}{b:Blk}(hmp:Wq b=true->∀ (b:Nat) (es:Array MapEntry) (clock:Nat),w.heap[b]?=some (.map es clock)->w'.heap[b]?=some (.map es clock))(h:BRep own w σ e b):BRep own w' σ e b:=by
 cases b with
 | dead=>trivial
 | box cells=>
  obtain⟨ad,vs,el,h1,h2,h3,h4⟩:=h;exact⟨ad,vs,el,h1,h2,hx.cells _ _ _ _ h3,w7 hx σ _ _ h4⟩
 | map ag sh has get pe=>
  obtain⟨ad,es,clock,l,h1,h2,h3,h4,h5,h6⟩:=h;refine⟨ad,es,clock,l,h1,hmp rfl _ _ _ h2,h3,h4,h5,?_⟩;rw [qx] at h6 ⊢
  exact⟨h6.1,λi e x g1 g2=>by
   obtain⟨a1,a2,a3⟩:=h6.2 i e x g1 g2;exact⟨a1,qq hx [] _ _ a2,qq hx [] _ _ a3⟩⟩
 | arr n sz g=>
  obtain⟨h1,h2⟩:=h;refine⟨h1,?_⟩;rcases h2 with h2 | ⟨ad,cs,el,h3,h4,h5,h6⟩
  ·exact .inl h2
  ·refine .inr ⟨ad,cs,el,h3,hx.cells _ _ _ _ h4,h5,λj o hj ho=> ?_⟩;obtain⟨c,h7,h8,h9⟩:=h6 j o hj ho;exact⟨c,h7,h8,qq hx [] _ _ h9⟩
 | arrI _ n _=>
  obtain⟨h1,h2⟩:=h;refine⟨h1,?_⟩;rcases h2 with h2 | ⟨ad,cs,el,h3,h4,h5,h6⟩
  ·exact .inl h2
  ·refine .inr ⟨ad,cs,el,h3,hx.cells _ _ _ _ h4,h5,λj o hj ho=> ?_⟩;obtain⟨c,h7,h8,h9⟩:=h6 j o hj ho;exact⟨c,h7,h8,qq hx [] _ _ h9⟩
 | arrS n _=>
  obtain⟨h1,h2⟩:=h;refine⟨h1,?_⟩;rcases h2 with h2 | ⟨ad,cs,el,h3,h4,h5,h6⟩
  ·exact .inl h2
  ·refine .inr ⟨ad,cs,el,h3,hx.cells _ _ _ _ h4,h5,λj o hj ho=> ?_⟩;obtain⟨c,h7,h8,h9⟩:=h6 j o hj ho;exact⟨c,h7,h8,qq hx [] _ _ h9⟩
theorem XT{own:Nat->Prop}{w w':World}(hx:wy w w')(hs:w.heap.size<=w'.heap.size){σ:List SE}{h:Heap}(hmp:(∀ b∈h,Wq b=false)\/∀ (b:Nat) (es:Array MapEntry) (clock:Nat),w.heap[b]?=some (.map es clock)->w'.heap[b]?=some (.map es clock))(hh:HRep own w σ h):HRep own w' σ h:=
 ⟨hh.len,hh.inj,λi e a h1 h2=>bB (hh.lt i e a h1 h2) hs,λi e b h1 h2=>Xf hx (λhm=>hmp.elim (λq=>by rw [q b (aY h2)] at hm; cases hm) id) (hh.blk i e b h1 h2)⟩
theorem Wx{w w':World}{row:Option Nat}(hg:w.grownBy w' row)(hr:∀ r,row=some r->(∀ g,¬ KQ w r g)/\∃ o:Obj,w.heap[r]?=some o/\o.isCells=false):wy w w':=by
 refine⟨λb cs el fr hb=> ?_,λb es clock hl hb=> ?_⟩
 rotate_left
 ·rw [hg.block b (aQ.1 hb).1 λe=>by obtain⟨g,h⟩:=hl; exact(hr b e.symm).1 g h];exact hb
 have hlt:=(aQ.1 hb).1;rw [hg.block b hlt ?_]
 ·exact hb
 ·intro e;obtain⟨_,o,h1,h2⟩:=hr b e.symm;rw [hb] at h1;cases h1;simp [Obj.isCells] at h2
theorem KO{w w':World}{row:Option Nat}(hg:w.grownBy w' row)(hr:∀ r,row=some r->∃ o:Obj,w.heap[r]?=some o/\o.isCells=false){a:Addr}{c:Value}(hc:w.cell? a=some c):w'.cell? a=some c:=by
 unfold World.cell? at hc ⊢;cases hb:w.heap[a.block]? with
 | none=>simp [hb] at hc
 | some o=>
  rw [hb] at hc;have hlt:=(aQ.1 hb).1
  rw [hg.block a.block hlt λe=>by
   obtain⟨o',h1,h2⟩:=hr _ e.symm;rw [hb] at h1;cases h1;cases o with
   | cells _ _ _=>simp [Obj.isCells] at h2
   | _=>simp at hc,hb]
  exact hc
section
variable {O:Nat->Prop} {pin:Nat} {w0:World} {I0:List SE} {w w':World} {σ:List SE} {P:Program} {st:St} {a:Act}
theorem Mod.turn(hm:Mod O pin w0 I0 w σ st a){row:Option Nat}(hg:w.grownBy w' row)(hr:∀ r,row=some r->w0.heap.size<=r/\∃ o:Obj,w.heap[r]?=some o/\o.isCells=false)(hmp:(∀ b∈st.heap,Wq b=false)\/∀ r,row=some r->∀ es clock,w.heap[r]?≠some (.map es clock)){ds:List Deferred}(hds:Marks w0 (Own O σ) w' ds):Mod O pin w0 I0 w' σ st { a with defers:=ds } :=by
 have hx:=Wx hg λr h=>⟨λg hg=>by
  obtain⟨h1,h2⟩:=hg;obtain⟨a,ha⟩:=Option.isSome_iff_exists.1 h1;obtain⟨h3,c,h4,_,h5⟩:=hm.lim.at_ g a ha;have h6:=hm.since.ext.cell (a:=⟨g,0,none⟩) h3 h4;rw [h2] at h6;have:=h5 r (by cases h6; rfl);have:=(hr r h).1;omega,(hr r h).2⟩
 have hlow:∀ b,b<w0.heap.size->w'.heap[b]?=w.heap[b]?:=by
  intro b hb;refine hg.block b (bB hb hm.since.ext.size) λe=> ?_
  have:=(hr b e.symm).1;omega
 refine⟨⟨λb hb=>bB (hm.good.old b hb) hg.size,hm.good.dis,⟨λg a hz=>by
  obtain⟨h1,c,h2,h3,h4⟩:=hm.good.stat.at_ g a hz;exact⟨h1,c,hx.cell h2,qq hx [] a _ h3,λb hb=>bB (h4 b hb) hg.size⟩⟩⟩,XT hx hg.size (hmp.imp id λq b es clock hb=>by rw [hg.block b (aQ.1 hb).1 λe=>q b e.symm es clock hb]; exact hb) hm.hp,hm.size,λt=> ?_,hds,?_,hm.lim⟩
 ·have ht:=hm.tm t;show TRep (Own O σ) w' σ a.tmps (st.tmps.getD t .undef) (a.tmps.getD t undef);generalize st.tmps.getD t .undef=x at ht;cases x with
  | opt u want y=>
   simp only [TRep] at ht ⊢;rcases ht with ⟨h1,h2⟩ | h
   ·exact .inl ⟨h1,qq hx σ _ _ h2⟩
   ·exact .inr h
  | _=>simp only [TRep] at ht ⊢; exact qq hx σ _ _ ht
 ·refine⟨⟨hg.os.trans hm.since.ext.os,hg.tape.trans hm.since.ext.tape,hg.output.trans hm.since.ext.output,bP hm.since.ext.size hg.size,λb hb hn=> ?_,hm.since.ext.grow⟩,λb hO hb=> ?_,λi e hi he=> ?_⟩
  ·rw [hlow b hb]; exact hm.since.ext.keep b hb hn
  ·rw [hlow b hb]; exact hm.since.km b hO hb
  ·obtain⟨h1,h2⟩:=hm.since.hold i e hi he;refine⟨h1,λad had cs el hcs=> ?_⟩;obtain⟨cs',el',h3,h4⟩:=h2 ad had cs el hcs;exact⟨cs',el',hx.cells _ _ _ _ h3,h4⟩
theorem Marks.turn{own:Nat->Prop}{ds:List Deferred}(h:Marks w0 own w ds){row:Option Nat}(hg:w.grownBy w' row)(hr:∀ r,row=some r->{ target:=.collected r,args:= #[] } ∉ ds):Marks w0 own w' ds:=
 ⟨h.1,λd hd=>by
  obtain⟨D,h1,h2,h3,h4⟩:=h.2 d hd;refine⟨D,h1,h2,h3,?_⟩;rw [hg.block D (aQ.1 h4).1 λe=>hr D e.symm (h1▸hd)];exact h4⟩
theorem yF{fn:Func}{R:Ending->World->Prop}{tmps:Array Value} : ∀ (ds:List Deferred) (w:World),Mod O pin w0 I0 w σ st { tmps:=tmps,defers:=ds } ->
  (∀ w',Mod O pin w0 I0 w' σ st { tmps:=tmps,defers:=[] } -> ∃ v,(results fn tmps).run P w' = .ok v w'/\R (.returned v) w')->LeavesInM Fence.wide 0 P fn tmps R ds .returning w
 | [],w,hm,h=>h w hm
 | d::ds,w,hm,h=>by
  obtain⟨D,h1,h2,h3,h4⟩:=hm.df.2 d (by simp);subst h1;have hnd:=List.nodup_cons.1 hm.df.1;refine⟨by simp,.inl ⟨D,w.putObj D (.deferred none),rfl,run_takeDeferred h4,?_⟩⟩;have hg:=grownBy_putObj' w D (.deferred none);have hsub:Marks w0 (Own O σ) w ds:=⟨hnd.2,λd' hd'=>hm.df.2 d' (by simp [hd'])⟩;have hm2:=hm.turn hg (λr e=>by cases e; exact⟨h2,_,h4,rfl⟩) (.inr λr e es clock h=>by cases e; rw [h4] at h; cases h) (hsub.turn hg λr e=>by cases e; exact hnd.1);exact yF ds _ hm2 h
theorem uR{fn:Func}{R:Ending->World->Prop}{tmps:Array Value}{ch:List PanicEntry} : ∀ (ds:List Deferred) (w:World),Dead I0 w0 w ds ->
  (∀ w',Dead I0 w0 w' []->R (.panicked ch) w')->LeavesInM Fence.wide 0 P fn tmps R ds (.panicking ch) w
 | [],w,hm,h=>h w hm
 | d::ds,w,hm,h=>by
  obtain⟨D,h1,h2,h3,h4⟩:=hm.df.2 d (by simp);subst h1;have hnd:=List.nodup_cons.1 hm.df.1;refine⟨by simp,.inl ⟨D,w.putObj D (.deferred none),rfl,run_takeDeferred h4,?_⟩⟩;have hg:=grownBy_putObj' w D (.deferred none);have hsub:Marks w0 (λ_=>False) w ds:=⟨hnd.2,λd' hd'=>hm.df.2 d' (by simp [hd'])⟩;refine uR ds _ ⟨⟨hg.os.trans hm.died.os,hg.tape.trans hm.died.tape,hg.output.trans hm.died.output,bP hm.died.size hg.size,λb hb hn=> ?_,λb hb=>hb.elim⟩,hsub.turn hg λr e=>by cases e; exact hnd.1⟩ h;rw [hg.block b (bB hb hm.died.size) λe=>by cases e; omega];exact hm.died.keep b hb hn
end
end Go.Sx
end
section
namespace Go.Sx
variable [Stat]
open Go.RowKit (Below)
def LeA(a b:AV):Prop:=∀ own w σ v,Rep own w a σ v->Rep own w b σ v
theorem LeA.refl(a:AV):LeA a a:=λ_ _ _ _ h=>h
theorem LeA.undef(a:AV):LeA a .undef:=λ_ _ _ _ _=>by simp [Rep]
theorem LeA.sl{n n' sz:Nat}{g g':Nat->Nat->AV}(hn:n=n')(hg:∀ j o,j<n->o<sz->LeA (g j o) (g' j o)):LeA (.sl n sz g) (.sl n' sz g'):=by
 subst hn;intro own w σ v h;simp only [Rep] at h ⊢;obtain⟨a,cap,hv,hc,hr⟩:=h;refine⟨a,cap,hv,hc,?_⟩;rcases hr with hr | ⟨ad,h1,h2,h3⟩
 ·exact .inl hr
 ·refine .inr ⟨ad,h1,h2,λj o hj ho=> ?_⟩;obtain⟨h4,c,h5,h6,h7⟩:=h3 j o hj ho;exact⟨h4,c,h5,h6,hg j o hj ho _ _ _ _ h7⟩
theorem LeA.nils{sz:Nat}{g:Nat->Nat->AV} : LeA .nils (.sl 0 sz g):=by
 intro own w σ v h;simp only [Rep] at h ⊢;exact⟨none,0,h,aJ _,.inl trivial⟩
def LeL:List AV->List AV->Prop
 | [],[]=>True
 | a::l,b::m=>LeA a b/\LeL l m
 | _,_=>False
theorem LeL.rep{own:Nat->Prop}{w:World}{σ:List SE} : ∀ {l m:List AV} {vs:List Value},LeL l m->RepL own w l σ vs->RepL own w m σ vs
 | [],[],vs,_,h=>h
 | a::l,b::m,vs,hl,h=>by
  simp only [RepL] at h ⊢;obtain⟨v,r,rfl,h1,h2⟩:=h;exact⟨v,r,rfl,hl.1 _ _ _ _ h1,LeL.rep hl.2 h2⟩
 | [],_::_,_,hl,_=>hl.elim
 | _::_,[],_,hl,_=>hl.elim
theorem LeA.agg{l m:List AV}(h:LeL l m):LeA (.agg l) (.agg m):=by
 intro own w σ v hr;simp only [Rep] at hr ⊢;obtain⟨vs,hv,hr⟩:=hr;exact⟨vs,hv,h.rep hr⟩
def eqG(n sz:Nat)(g g':Nat->Nat->AV):Prop:=∀ j o,j<n->o<sz->g j o=g' j o
def eqA0:AV->AV->Prop
 | _,.undef=>True
 | .int k n,.int k' n'=>k=k'/\n=n'
 | .bool b,.bool b'=>b=b'
 | .str s,.str s'=>s=s'
 | .nils,.nils=>True
 | .nils,.sl n _ _=>n=0
 | .sl n sz g,.sl n' sz' g'=>n=n'/\sz=sz'/\eqG n sz g g'
 | .osl i sz off n,.osl i' sz' off' n'=>i=i'/\sz=sz'/\off=off'/\n=n'
 | .ptr i off,.ptr i' off'=>i=i'/\off=off'
 | a,b=>a=b
def eqL0:List AV->List AV->Prop
 | [],[]=>True
 | a::l,b::m=>eqA0 a b/\eqL0 l m
 | _,_=>False
def eqA:AV->AV->Prop
 | .agg l,.agg m=>eqL0 l m
 | .tup l,.tup m=>eqL0 l m
 | a,b=>eqA0 a b
def eqL:List AV->List AV->Prop
 | [],[]=>True
 | _::l,.undef::m=>eqL l m
 | a::l,b::m=>eqA a b/\eqL l m
 | _,_=>False
theorem QR{a b:AV}(h:eqA0 a b):LeA a b:=by
 unfold eqA0 at h;split at h
 ·exact LeA.undef _
 ·obtain⟨rfl,rfl⟩:=h; exact LeA.refl _
 ·subst h; exact LeA.refl _
 ·subst h; exact LeA.refl _
 ·exact LeA.refl _
 ·subst h; exact LeA.nils
 ·obtain⟨rfl,rfl,hg⟩:=h;exact LeA.sl rfl λj o hj ho=>by rw [hg j o hj ho]; exact LeA.refl _
 ·obtain⟨rfl,rfl,rfl,rfl⟩:=h; exact LeA.refl _
 ·obtain⟨rfl,rfl⟩:=h; exact LeA.refl _
 ·subst h; exact LeA.refl _
theorem xT:∀ {l m:List AV},eqL0 l m->LeL l m
 | [],[],_=>trivial
 | a::l,b::m,h=>⟨QR h.1,xT h.2⟩
 | [],_::_,h=>h.elim
 | _::_,[],h=>h.elim
theorem ug{a b:AV}(h:eqA a b):LeA a b:=by
 unfold eqA at h;split at h
 ·exact LeA.agg (xT h)
 ·intro own w σ v hr;simp only [Rep] at hr ⊢;obtain⟨vs,hv,hr⟩:=hr;exact⟨vs,hv,(xT h).rep hr⟩
 ·exact QR h
theorem ke:∀ {l m:List AV},eqL l m->LeL l m
 | [],[],_=>trivial
 | [],_::_,h=>h.elim
 | _::_,[],h=>h.elim
 | a::l,b::m,h=>by
  unfold eqL at h;split at h
  ·rename_i h1 h2; cases h1
  ·rename_i h1 h2; cases h1; cases h2;exact⟨LeA.undef _,ke h⟩
  ·rename_i h1 h2; cases h1; cases h2;exact⟨ug h.1,ke h.2⟩
  ·exact h.elim
def eqB:Blk->Blk->Prop
 | _,.dead=>True
 | .box l,.box m=>eqL l m
 | .arr n sz g,.arr n' sz' g'=>n=n'/\sz=sz'/\eqG n sz g g'
 | .arr n sz g,.arrI k n' f=>n=n'/\sz=1/\eqG n 1 g (tgI k f)
 | .arr n sz g,.arrS n' f=>n=n'/\sz=1/\eqG n 1 g (tgS f)
 | .arrI k n f,.arr n' sz' g'=>n=n'/\1=sz'/\eqG n 1 (tgI k f) g'
 | .arrS n f,.arr n' sz' g'=>n=n'/\1=sz'/\eqG n 1 (tgS f) g'
 | .arrI k n f,.arrI k' n' f'=>n=n'/\eqG n 1 (tgI k f) (tgI k' f')
 | .arrS n f,.arrS n' f'=>n=n'/\eqG n 1 (tgS f) (tgS f')
 | .map ag sh has get pe,.map ag' sh' has' get' pe'=>(ag=ag'/\(pe'=none\/pe=pe'))/\sh=sh'/\(∀ k,has k=has' k)/\∀ k,has k=true->get k=get' k
 | _,_=>False
def eqH:Heap->Heap->Prop
 | _,[]=>True
 | b::l,c::m=>eqB b c/\eqH l m
 | [],_::_=>False
def qn:AV->Bool
 | .opt _ _ _=>false
 | _=>true
def lowA(m:Nat):AV->Bool
 | .osl i _ _ _=>decide (i<m)
 | .ptr i _=>decide (i<m)
 | .eptr i _ _ _=>decide (i<m)
 | .omap i=>decide (i<m)
 | .agg _=>false
 | .tup _=>false
 | .fn _ [] []=>true
 | .fn _ _ _=>false
 | .opt _ _ _=>false
 | _=>true
def lowB(m:Nat):AV->Bool
 | .agg l=>l.all (lowA m)
 | .tup l=>l.all (lowA m)
 | .fn _ a b=>a.all (lowA m)&&b.all (lowA m)
 | a=>lowA m a
def Wg(m:Nat):Blk->Bool
 | .box l=>l.all (lowB m)
 | _=>true
def chk(st st':St):Bool:=st.tmps.all qn&&st'.tmps.all (lowB st'.heap.length)&&decide (st'.heap.length<=st.heap.length)&&st'.heap.all (Wg st'.heap.length)
theorem xc{m k:Nat}{a:AV}(h:lowA m a=true):NoH (List.range' m k) a:=by
 have hr:∀ i,i<m->i∉List.range' m k:=λi hi hm=>by
  rw [List.mem_range'] at hm;obtain⟨j,_,h2⟩:=hm;omega
 cases a with
 | osl i sz off n=>simp only [lowA,aK] at h; simp only [NoH]; exact hr i h
 | ptr i off=>simp only [lowA,aK] at h; simp only [NoH]; exact hr i h
 | eptr i sz idx off=>simp only [lowA,aK] at h; simp only [NoH]; exact hr i h
 | omap i=>simp only [lowA,aK] at h; simp only [NoH]; exact hr i h
 | agg l=>simp [lowA] at h
 | tup l=>simp [lowA] at h
 | fn f x y=>
  cases x<;>cases y<;>simp [lowA] at h
  simp [NoH,NoHL]
 | opt _ _ _=>simp [lowA] at h
 | _=>simp [NoH]
theorem QP{m k:Nat}{a:AV}(h:lowB m a=true):NoH (List.range' m k) a:=by
 cases a with
 | agg l=>simp only [lowB,bG] at h; simp only [NoH]; exact zN.2 λx hx=>xc (h x hx)
 | tup l=>simp only [lowB,bG] at h; simp only [NoH]; exact zN.2 λx hx=>xc (h x hx)
 | fn f x y=>
  simp only [lowB,bA,bG] at h; simp only [NoH];exact⟨zN.2 λx hx=>xc (h.1 x hx),zN.2 λx hx=>xc (h.2 x hx)⟩
 | _=>exact xc (by simpa only [lowB] using h)
theorem xY{m:Nat}{a:AV}(h:lowB m a=true):∀ t b y,a≠.opt t b y:=by
 rintro t b y rfl;simp [lowB,lowA] at h
structure Le(pin:Nat)(st st':St):Prop where
 tmps:eqL st.tmps st'.tmps
 heap:eqH st.heap st'.heap
 ok:chk st st'=true
 pinned:pin<=st'.heap.length
theorem WK:∀ {l m:List AV},eqL l m->l.length=m.length
 | [],[],_=>rfl
 | [],_::_,h=>h.elim
 | _::_,[],h=>h.elim
 | a::l,b::m,h=>by
  unfold eqL at h;split at h
  ·rename_i h1 h2; cases h1
  ·rename_i h1 h2; cases h1; cases h2;simp [WK h]
  ·rename_i h1 h2; cases h1; cases h2;simp [WK h.2]
  ·exact h.elim
theorem LeL.get:∀ {l m:List AV} (t:Nat) (h1:t<l.length) (h2:t<m.length),LeL l m->LeA l[t] m[t]
 | a::l,b::m,0,_,_,h=>h.1
 | a::l,b::m,t+1,h1,h2,h=>LeL.get t (by simpa using h1) (by simpa using h2) h.2
theorem Zi:∀ {l m:Heap} {i:Nat} {b b':Blk},eqH l m->l[i]?=some b->m[i]?=some b'->eqB b b'
 | b::l,c::m,0,_,_,h,h1,h2=>by simp at h1 h2; subst h1; subst h2; exact h.1
 | b::l,c::m,i+1,_,_,h,h1,h2=>Zi h.2 (by simpa using h1) (by simpa using h2)
 | _,[],_,_,_,_,_,h2=>by simp at h2
 | [],_::_,_,_,_,h,_,_=>h.elim
theorem um{own:Nat->Prop}{w:World}{σ:List SE}{e:SE}{b c:Blk}(h:eqB b c)(hb:BRep own w σ e b):BRep own w σ e c:=by
 have arr:∀ {n n' sz sz':Nat} {g g':Nat->Nat->AV},n=n'->sz=sz'->eqG n sz g g'->BRep own w σ e (.arr n sz g)->BRep own w σ e (.arr n' sz' g'):=by
  rintro n _ sz _ g g' rfl rfl hg hb;exact X0 hg hb
 cases c with
 | dead=>trivial
 | box m=>
  cases b with
  | box l=>
   simp only [eqB] at h;simp only [BRep] at hb ⊢;obtain⟨ad,vs,el,h1,h2,h3,h4⟩:=hb;exact⟨ad,vs,el,h1,h2,h3,(ke h).rep h4⟩
  | _=>exact h.elim
 | arr n' sz' g'=>
  cases b with
  | arr n sz g=>exact arr h.1 h.2.1 h.2.2 hb
  | arrI k n f=>exact arr h.1 h.2.1 h.2.2 (kV.1 hb)
  | arrS n f=>exact arr h.1 h.2.1 h.2.2 (kU.1 hb)
  | _=>exact h.elim
 | arrI k' n' f'=>
  cases b with
  | arr n sz g=>obtain⟨h1,rfl,h3⟩:=h; exact kV.2 (arr h1 rfl h3 hb)
  | arrI k n f=>exact kV.2 (arr h.1 rfl h.2 (kV.1 hb))
  | _=>exact h.elim
 | arrS n' f'=>
  cases b with
  | arr n sz g=>obtain⟨h1,rfl,h3⟩:=h; exact kU.2 (arr h1 rfl h3 hb)
  | arrS n f=>exact kU.2 (arr h.1 rfl h.2 (kU.1 hb))
  | _=>exact h.elim
 | map ag' sh' has' get' pe'=>
  cases b with
  | map ag sh has get pe=>
   obtain⟨⟨rfl,hpe⟩,rfl,h3,h4⟩:=h;simp only [BRep] at hb ⊢;obtain⟨ad,es,clock,l,g1,g2,g3,g4,g5,g6⟩:=hb;refine⟨ad,es,clock,l,g1,g2,g3,⟨g4.1,g4.2.nd,g4.2.lt,λk st hk=> ?_⟩,λk=>by rw [<- h3 k]; exact g5 k,?_⟩
   ·rcases hpe with hpe | hpe
    ·rw [hpe] at hk; cases hk
    ·rw [<- hpe] at hk; exact g4.2.pend k st hk
   rw [qx] at g6 ⊢
   exact⟨g6.1,λi e x q1 q2=>by
    obtain⟨a1,a2,a3⟩:=g6.2 i e x q1 q2;exact⟨a1,a2,by rw [<- h4 x ((g5 x).2 (aY q2))]; exact a3⟩⟩
  | _=>exact h.elim
section
variable {O:Nat->Prop} {pin:Nat} {w0:World} {I0:List SE} {w:World} {σ:List SE} {P:Program} {st st':St} {a:Act} {Γ:Nat->Option Ctr} {Xp:List PanicEntry->Prop}
theorem zds{m b:Nat}(h:Own O (σ.take m) b):Own O σ b:=by
 rcases h with h | ⟨e,he,ad,h1,h2⟩
 ·exact .inl h
 ·exact .inr ⟨e,List.mem_of_mem_take he,ad,h1,h2⟩
theorem Le.mod(h:Le pin st st')(hm:Mod O pin w0 I0 w σ st a):Mod O pin w0 I0 w (σ.take st'.heap.length) st' a:=by
 have hok:=h.ok;simp only [chk,bA,aK,bG] at hok;obtain⟨⟨⟨hno,hlow⟩,hle⟩,hlowH⟩:=hok;generalize hmm:st'.heap.length=m at hle hlow hlowH;have hx:Ext (Own O σ) w (Own O (σ.take m)) w:=⟨rfl,rfl,rfl,aJ _,λ_ _ _=>rfl,λb hb=>.inl (zds hb)⟩;have hlen:=hm.hp.len;have htl:=WK h.tmps
 have hhold:Hold (List.range' m (st.heap.length - m)) w σ w (σ.take m):=by
  intro i e he hi;have hlt:=(aG.1 he).1
  have him:i<m:=by
   rw [List.mem_range'] at hi;rcases aR i m with h1 | h1
   ·exact h1
   ·exact absurd ⟨i - m,by omega,by omega⟩ hi
  exact⟨by rw [bR,aP him]; exact he,λad _ cs el hcs=>⟨cs,el,hcs,rfl⟩⟩
 have hget:∀ (i:Nat) (e:SE),(σ.take m)[i]?=some e->i<m/\σ[i]?=some e:=by
  intro i e he;rw [bR] at he;split at he
  ·rename_i hi; exact⟨hi,he⟩
  ·cases he
 refine⟨⟨hm.good.old,λi e ad he=>hm.good.dis i e ad (hget i e he).2,hm.good.stat.ext hx⟩,⟨?_,?_,?_,?_⟩,by rw [hm.size,htl],λt=> ?_,hm.df.ext hx,hm.since.trans ⟨hx,λ_ _ _=>rfl,vK.of hhold (λi hi=>by
  rw [List.mem_range'] at hi;obtain⟨j,_,h2⟩:=hi;have:=h.pinned;omega)⟩,hm.lim⟩
 ·rw [aH,hmm,hlen]; exact Nat.min_eq_left hle
 ·intro i j e f x y he hf;exact hm.hp.inj i j e f x y (hget i e he).2 (hget j f hf).2
 ·intro i e x he;exact hm.hp.lt i e x (hget i e he).2
 ·intro i e b' he hb';obtain⟨hi,he⟩:=hget i e he;have hil:i<st.heap.length:=bB hi hle;have hbr:=um (Zi h.heap (aF hil) hb') (hm.hp.blk i e _ he (aF hil))
  have arr:∀ {n sz:Nat} {g:Nat->Nat->AV},BRep (Own O σ) w σ e (.arr n sz g)->BRep (Own O (σ.take m)) w (σ.take m) e (.arr n sz g):=by
   intro n sz g hbr;simp only [BRep] at hbr ⊢;obtain⟨h1,h2 | ⟨ad,cs,el,h3,h4,h5,h6⟩⟩:=hbr
   ·exact⟨h1,.inl h2⟩
   ·refine⟨h1,.inr ⟨ad,cs,el,h3,h4,h5,λj o hj ho=> ?_⟩⟩;obtain⟨c,h7,h8,h9⟩:=h6 j o hj ho;exact⟨c,h7,h8,zn hx _ _ h9⟩
  cases b' with
  | dead=>trivial
  | box mcs=>
   simp only [BRep] at hbr ⊢;obtain⟨ad,vs,el,h1,h2,h3,h4⟩:=hbr;have:=hlowH _ (aY hb');simp only [Wg,bG] at this;exact⟨ad,vs,el,h1,h2,h3,qR hx hhold _ _ (zN.2 λx hx=>QP (this x hx)) h4⟩
  | arr n' sz' g'=>exact arr hbr
  | arrI k n f=>exact kV.2 (arr (kV.1 hbr))
  | arrS n f=>exact kU.2 (arr (kU.1 hbr))
  | map ag sh has get pe=>
   simp only [BRep] at hbr ⊢;obtain⟨ad,es,clock,l,h1,h2,h3,h4,h5,h6⟩:=hbr;exact⟨ad,es,clock,l,h1,h2,h3,h4,h5,h6.ext hx⟩
 ·have ht:=hm.tm t;by_cases htl1:t<st.tmps.length
  ·have htl':t<st'.tmps.length:=by rw [<- htl]; exact htl1
   have hno1:=hno st.tmps[t] (bK htl1);have hl1:=hlow st'.tmps[t] (bK htl');have hla:=LeL.get t htl1 htl' (ke h.tmps);have e1:st.tmps.getD t .undef=st.tmps[t]:=by simp [List.getD,htl1]
   have e2:st'.tmps.getD t .undef=st'.tmps[t]:=by simp [List.getD,htl']
   rw [e1] at ht;rw [e2];generalize st.tmps[t]=x at ht hno1 hla;generalize st'.tmps[t]=y at hl1 hla
   have hr:Rep (Own O σ) w x σ (a.tmps.getD t Go.undef):=by
    cases x with
    | opt t b y=>simp [qn] at hno1
    | _=>simpa only [TRep] using ht
   have hr2:=qi hx hhold y _ (QP hl1) (hla _ _ _ _ hr);cases y with
   | opt t b z=>exact absurd rfl (xY hl1 t b z)
   | _=>simpa only [TRep] using hr2
  ·have e2:st'.tmps.getD t .undef = .undef:=by
    simp only [List.getD];rw [aZ (by omega)]; rfl
   rw [e2];simp [TRep,Rep]
def Safe(Xp:List PanicEntry->Prop)(M:Option Nat)(P:Program)(O:Nat->Prop)(pin:Nat)(w0:World)(I0:List SE)(Hs:Nat->St->Prop)(R:St->Prop)(k:List Item)(st:St):Prop:=
 ∀ w σ a,Mod O pin w0 I0 w σ st a->wpK M P (λd a w=>∃ st σ,Hs d st/\Mod O pin w0 I0 w σ st a) (λe a w=>((e = .ret\/e = .normal)/\∃ st σ,R st/\Mod O pin w0 I0 w σ st a)\/∃ ch,e = .panic ch/\Xp ch/\Dead I0 w0 w a.defers) k .normal a w
def zkz(Xp:List PanicEntry->Prop)(M:Option Nat)(P:Program)(O:Nat->Prop)(pin:Nat)(w0:World)(I0:List SE)(Hs:Nat->St->Prop)(R:St->Prop):Leaf->Prop
 | .ret st=>R st
 | .back d st=>Hs d st
 | .loop c k st=>Safe Xp M P O pin w0 I0 Hs R (.code (.loop c)::k) st
 | .range c k st=>Safe Xp M P O pin w0 I0 Hs R (.code c::k) st
 | .gone=>True
theorem Safe.run{M:Option Nat}{Hs:Nat->St->Prop}{R:St->Prop}{k:List Item}(hmix:P.follows .mixedOrders=true)(hΓ:∀ g c,Γ g=some c->j2 Xp P g c)(n:Nat)(h:(Go.Sx.run P Γ pin n k st).holds (zkz Xp M P O pin w0 I0 Hs R)):Safe Xp M P O pin w0 I0 Hs R k st:=by
 intro w σ a hm;refine qE hmix hΓ (λch a w' h1 h2=>.inr ⟨ch,rfl,h1,h2⟩) n (Tree.zU ?_ h) hm;intro lf hl;cases lf with
 | ret st=>exactλw σ a hm=>⟨.inl ⟨.inl rfl,st,σ,hl,hm⟩,.inl ⟨.inr rfl,st,σ,hl,hm⟩⟩
 | back d st=>exactλw σ a hm=>⟨st,σ,hl,hm⟩
 | loop c k st=>exactλw σ a hm=>hl w σ a hm
 | range c k st=>exactλw σ a hm=>hl w σ a hm
 | gone=>trivial
theorem QW{M:Option Nat}{c:Code}{Q:Exit->Act->World->Prop}{ι:Type}(I:ι->Act->World->Prop)(μ:ι->Nat)(x0:ι)(h0:I x0 a w)
  (round:∀ x a w,I x a w->c.wpIn (FM M) 0 P (Exit.then (λa' w'=>∃ x',I x' a' w'/\μ x'<μ x) Q) a w):(Code.loop c).wpIn (FM M) 0 P Q a w:=by
 classical
 have least:∀ (p:Nat->Prop),(∃ n,p n)->∃ n,p n/\∀ m,p m->n<=m:=by
  rintro p ⟨n,hn⟩
  induction n using Nat.strongRecOn with
  | _ n ih=>
   by_cases h:∃ m,m<n/\p m
   ·obtain⟨m,h1,h2⟩:=h; exact ih m h1 h2
   ·exact⟨n,hn,λm hm=>Nat.le_of_not_lt λhlt=>h ⟨m,hlt,hm⟩⟩
 have hl:∀ a w,∃ n,(∃ x,I x a w)->(∃ x,I x a w/\μ x=n)/\∀ x,I x a w->n<=μ x:=by
  intro a w;by_cases h:∃ x,I x a w
  ·obtain⟨n,⟨x,h1,h2⟩,h3⟩:=least (λn=>∃ x,I x a w/\μ x=n) (by obtain⟨x,hx⟩:=h; exact⟨_,x,hx,rfl⟩);exact⟨n,λ_=>⟨⟨x,h1,h2⟩,λy hy=>h3 _ ⟨y,hy,rfl⟩⟩⟩
  ·exact⟨0,λh'=>absurd h' h⟩
 refine wpIn_loop (λa w=>∃ x,I x a w) (λa w=>(hl a w).choose) ⟨x0,h0⟩ ?_;intro a w hI;obtain⟨⟨x,h1,h2⟩,h3⟩:=(hl a w).choose_spec hI;refine wpIn_mono (round x a w h1) λe a' w' h=> ?_
 cases e with
 | normal=>
  obtain⟨x',h4,h5⟩:=h;have h6:=((hl a' w').choose_spec ⟨x',h4⟩).2 x' h4;exact⟨⟨x',h4⟩,by omega⟩
 | _=>exact h
theorem js{M:Option Nat}{H H':Nat->Act->World->Prop}{B:Exit->Act->World->Prop} : ∀ {k:List Item} {e:Exit} {a:Act} {w:World},(∀ d a w,d<j7 k->H' d a w->H d a w)->wpK M P H' B k e a w->wpK M P H B k e a w
 | [],e,a,w,hh,h=>h
 | .code c::k,e,a,w,hh,h=>by
  cases e with
  | normal=>exact wpIn_mono h λe a w h=>js hh h
  | _=>exact js (k:=k) hh h
 | .inBlock id::k,e,a,w,hh,h=>by
  cases e with
  | exit i=>
   simp only [wpK] at h ⊢;split at h
   ·rename_i hi; rw [aP hi]; exact js hh h
   ·rename_i hi; rw [aO hi]; exact js hh h
  | _=>exact js (k:=k) hh h
 | .inLoop::k,e,a,w,hh,h=>by
  cases e with
  | normal=>exact hh _ _ _ (by simp [j7]) h
  | _=>exact js (k:=k) (λd a w hd=>hh d a w (by simp [j7]; omega)) h
theorem Safe.loop{M:Option Nat}{ι:Type}{Hs:Nat->St->Prop}{R:St->Prop}{k:List Item}{c:Code}(S:ι->St)(μ:ι->Nat)(x0:ι)(hle:Le pin st (S x0))
  (round:∀ x,Safe Xp M P O pin w0 I0 (λd st'=>if d=j7 k then ∃ x',μ x'<μ x/\Le pin st' (S x') else Hs d st') R (.code c::.inLoop::k) (S x)) :
  Safe Xp M P O pin w0 I0 Hs R (.code (.loop c)::k) st:=by
 intro w σ a hm;simp only [wpK];refine QW (λx a w=>∃ σ,Mod O pin w0 I0 w σ (S x) a) μ x0 ⟨_,hle.mod hm⟩ ?_;rintro x a w ⟨σ,hm⟩;have:=round x w σ a hm;simp only [wpK] at this;refine wpIn_mono this λe a w h=> ?_
 cases e with
 | normal=>
  simp only [wpK] at h;obtain⟨st',Z',h1,h2⟩:=h;simp only [if_true] at h1;obtain⟨x',h3,h4⟩:=h1;exact⟨x',⟨_,h4.mod h2⟩,h3⟩
 | _=>
  refine js (k:=k) (λd a w hd h=> ?_) h;obtain⟨st',Z',h1,h2⟩:=h;rw [aO (by omega)] at h1;exact⟨st',Z',h1,h2⟩
def wT(st:St)(t:Nat)(sz:Nat)(g:Nat->Nat->AV):St:=⟨st.tmps.set t (.osl st.heap.length sz 0 0),st.heap++[.arr 0 sz g]⟩
theorem zf0(hm:Mod O pin w0 I0 w σ st a){t sz:Nat}{g:Nat->Nat->AV}(ht:st.tmps.getD t .undef = .nils)(hno:st.tmps.all qn=true):Mod O pin w0 I0 w (σ++[⟨none,0⟩]) (wT st t sz g) a:=by
 obtain⟨k1,k2,k3⟩:=Yl hm.good hm.hp sz g;have hx:=ext_nil (O:=O) w σ 0;refine⟨k2,k1,by simp [wT,hm.size],λu=> ?_,hm.df.ext hx,hm.since.trans ⟨hx,λ_ _ _=>rfl,vK.of k3 (by simp)⟩,hm.lim⟩;have hu:=hm.tm u;by_cases htu:u=t
 ·subst htu;rw [ht] at hu;simp only [TRep,Rep] at hu
  have hlt:u<st.tmps.length:=by
   rcases aR u st.tmps.length with h | h
   ·exact h
   ·simp [List.getD,aZ h] at ht
  have:(wT st u sz g).tmps.getD u .undef = .osl st.heap.length sz 0 0:=by
   simp only [wT,List.getD];rw [List.getElem?_set_self hlt]; rfl
  rw [this,hu];simp only [TRep,Rep];exact⟨⟨none,0⟩,by rw [<- hm.hp.len]; simp,by simp,none,0,rfl,aJ _,.inl rfl⟩
 ·have:(wT st t sz g).tmps.getD u .undef=st.tmps.getD u .undef:=by
   simp only [wT,List.getD];rw [bS (λh=>htu h.symm)]
  rw [this]
  have hn:qn (st.tmps.getD u .undef)=true:=by
   by_cases hlt:u<st.tmps.length
   ·simp only [List.getD,aF hlt,Option.getD_some];exact bG.1 hno _ (bK hlt)
   ·simp only [List.getD];rw [aZ (by omega)]; rfl
  generalize st.tmps.getD u .undef=x at hu hn;cases x with
  | opt _ _ _=>simp [qn] at hn
  | _=>simp only [TRep] at hu ⊢; exact qi hx k3 _ _ (j6 _) hu
theorem Safe.bear{M:Option Nat}{Hs:Nat->St->Prop}{R:St->Prop}{k:List Item}(t sz:Nat)(g:Nat->Nat->AV)(ht:st.tmps.getD t .undef = .nils)(hno:st.tmps.all qn=true)(h:Safe Xp M P O pin w0 I0 Hs R k (wT st t sz g)):Safe Xp M P O pin w0 I0 Hs R k st:=
 λw σ a hm=>h w _ a (zf0 hm ht hno)
def resX(P:Program)(st:St):List ResultVar->Tree (List AV)
 | []=>.leaf []
 | .tmp t::l=>(resX P st l).bind λr=>.leaf (see [] (st.tmps.getD t .undef)::r)
 | .cell t ty::l=>(uQ P st.heap ty (see [] (st.tmps.getD t .undef))).bind λv=>(resX P st l).bind λr=>.leaf (v::r)
def resV(rs:List AV):AV:=match rs with
 | [r]=>r
 | rs=>.tup rs
def WA(tmps:Array Value):ResultVar->Sem Value
 | .tmp t=>pure (tmps.getD t Go.undef)
 | .cell x t=>do loadVar t (<- asAddr (tmps.getD x Go.undef))
theorem Xm(fn:Func)(tmps:Array Value):results fn tmps=(do let vs <- fn.results.mapM (WA tmps); pure (if h:vs.size=1 then vs[0] else .tuple vs)):=by
 unfold results;congr 1
theorem uJ(hm:Mod O pin w0 I0 w σ st a):∀ {l:List ResultVar} {Q:List AV->Prop},(resX P st l).holds Q ->
  ∃ rs vs,(l.mapM (WA a.tmps)).run P w = .ok vs w/\Q rs/\RepL (Own O σ) w rs σ vs
 | [],Q,hq=>⟨[],[],by simp,hq,by simp [RepL]⟩
 | .tmp t::l,Q,hq=>by
  simp only [resX,Tree.zo] at hq;obtain⟨rs,vs,h1,h2,h3⟩:=uJ hm hq;refine⟨_,a.tmps.getD t Go.undef::vs,?_,h2,?_⟩
  ·simp only [List.mapM_cons,WA,Sem.run_bind,Sem.run_pure,Result.andThen_ok];rw [h1]; rfl
  ·simp only [RepL];exact⟨_,_,rfl,(hm.tm t).rep,h3⟩
 | .cell x t::l,Q,hq=>by
  simp only [resX,Tree.zo] at hq;have hx:=(hm.tm x).rep;obtain⟨r,v,h1,hq,hr⟩:=Qb (P:=P) hm.hp hx hq;obtain⟨rs,vs,h4,h2,h3⟩:=uJ hm hq;refine⟨_,v::vs,?_,h2,?_⟩
  ·simp only [List.mapM_cons,Sem.run_bind,WA]
   have:(do loadVar t (<- asAddr (a.tmps.getD x Go.undef)):Sem Value).run P w = .ok v w:=by
    simp only [Instr.loadAt,Sem.run_bind] at h1 ⊢;generalize a.tmps.getD x Go.undef=va at h1;cases va with
    | pointer p=>
     cases p with
     | none=>simp [Instr.sureAddr] at h1
     | some ad=>simpa [Instr.sureAddr,asAddr] using h1
    | _=>simp [Instr.sureAddr] at h1
   simp only [Sem.run_bind] at this;rw [this];simp only [Result.andThen_ok];rw [h4]; rfl
  ·simp only [RepL];exact⟨_,_,rfl,hr,h3⟩
def qk:AV->Bool
 | .bool _=>true
 | .int _ _=>true
 | .str _=>true
 | .nils=>true
 | .nilp=>true
 | .fn _ [] []=>true
 | .nilf=>true
 | _=>false
theorem xx{own own':Nat->Prop}{w':World}{Z':List SE}{x:AV}{v:Value}(h:qk x=true)(hr:Rep own w x σ v):Rep own' w' x Z' v:=by
 cases x with
 | fn f p q=>
  cases p<;>cases q<;>simp [qk] at h
  simp only [Rep,RepL] at hr ⊢; exact hr
 | bool _=>simpa only [Rep] using hr
 | int _ _=>simpa only [Rep] using hr
 | str _=>simpa only [Rep] using hr
 | nils=>simpa only [Rep] using hr
 | nilp=>simpa only [Rep] using hr
 | nilf=>simpa only [Rep] using hr
 | _=>simp [qk] at h
def yV:AV->Bool
 | .agg l=>l.all qk
 | .tup l=>l.all qk
 | a=>qk a
def vX(fn:Func)(args:List AV)(hc:Heap):St:=⟨args.map (see [])++List.replicate (fn.ntmps - args.length) .undef,hc⟩
def entry(fn:Func)(args:List AV):St:=vX fn args []
theorem QV{fn:Func}(hm:Mod O pin w0 I0 w σ st a){Q:List AV->Prop}(hq:(resX P st fn.results.toList).holds Q):∃ rs v,(results fn a.tmps).run P w = .ok v w/\Q rs/\Rep (Own O σ) w (resV rs) σ v:=by
 obtain⟨rs,vs,h1,h2,h3⟩:=uJ hm hq
 have hr:(results fn a.tmps).run P w = .ok (if h:vs.toArray.size=1 then vs.toArray[0] else .tuple vs.toArray) w:=by
  rw [Xm];obtain⟨l,hl⟩:∃ l:List ResultVar,fn.results=l.toArray:=⟨fn.results.toList,by simp⟩;rw [hl] at h1 ⊢;simp only [Sem.run_bind,List.mapM_toArray,Sem.run_map];rw [h1];rfl
 refine⟨rs,_,hr,h2,?_⟩
 match rs,vs,h3 with
 | [r],vs,h3=>
  simp only [RepL] at h3;obtain⟨v,_,rfl,h4,rfl⟩:=h3;exact h4
 | [],vs,h3=>
  simp only [RepL] at h3;subst h3;simp only [resV,Rep];exact⟨[],by simp,by simp [RepL]⟩
 | r1::r2::rs,vs,h3=>
  have:=h3.length;rw [dif_neg (by simp at this ⊢; omega)];simp only [resV,Rep];exact⟨vs,rfl,h3⟩
theorem U7{fn:Func}{args:List AV}{hc:Heap}{vals:List Value}(hg:Good O w σ)(hh:HRep (Own O σ) w σ hc)(hr:RepL (Own O σ) w args σ vals):Mod O pin w σ w σ (vX fn args hc) ⟨vals.toArray++Array.replicate (fn.ntmps - vals.toArray.size) Go.undef,[]⟩:=by
 have hl:=hr.length;refine⟨hg,hh,by simp [vX,hl],λt=> ?_,Marks.nil _ _ _,Stp.refl _ _ _ _,hg.stat⟩;simp only [vX];by_cases ht:t<args.length
 ·have e1:(args.map (see [])++List.replicate (fn.ntmps - args.length) AV.undef).getD t .undef=see [] args[t]:=by
   simp only [List.getD];rw [bL (by simpa using ht)];simp [ht]
  have e2:(vals.toArray++Array.replicate (fn.ntmps - vals.toArray.size) Go.undef).getD t Go.undef=vals[t]'(by omega):=by
   simp only [bQ];rw [Array.getElem?_append_left (by simp; omega)];simp [show t<vals.length by omega]
  rw [e1,e2];have:=(zt.1 hr).2 t args[t] (vals[t]'(by omega)) (by simp [ht]) (by simp [show t<vals.length by omega]);generalize args[t]=x at this;cases x with
  | opt _ _ _=>simp [see,TRep,Rep]
  | _=>simpa only [see,TRep] using this
 ·have e1:(args.map (see [])++List.replicate (fn.ntmps - args.length) AV.undef).getD t .undef = .undef:=by
   simp only [List.getD];rw [List.getElem?_append_right (by simp; omega)];simp only [List.getElem?_replicate];split<;>rfl
  rw [e1];simp [TRep,Rep]
def exp0(h:Heap)(M:List Nat):AV->AV
 | .osl i sz off n=>match z4 M i with
  | some j=>.osl j sz off n
  | none=>match frz1 h (.osl i sz off n) with
   | some (a,[_])=>a
   | some (a,k)=>bif k.all λi=>(z4 M i).isNone then a else .undef
   | none=>.undef
 | x=>ren0 (z4 M) x
def exp1(h:Heap)(M:List Nat):AV->AV
 | .agg cs=>.agg (cs.map (exp0 h M))
 | .tup cs=>.tup (cs.map (exp0 h M))
 | .fn g a b=>.fn g (a.map (exp0 h M)) (b.map (exp0 h M))
 | x=>exp0 h M x
def exp2(h:Heap)(M:List Nat):AV->AV
 | .tup cs=>.tup (cs.map (exp1 h M))
 | .fn g a b=>.fn g (a.map (exp1 h M)) (b.map (exp1 h M))
 | x=>exp1 h M x
def expB(h:Heap)(M:List Nat):Blk->Blk
 | .box cs=>.box (cs.map (exp1 h M))
 | b=>b
def expH(h:Heap)(M:List Nat):Heap:=M.map λi=>expB h M (h.getD i .dead)
def zb7:AV->Prop
 | .sl n sz g=>∀ j o,j<n->o<sz->qk (g j o)=true
 | _=>True
def new0(h:Heap)(M:List Nat):AV->Prop
 | .osl i sz off n=>z4 M i=none->zb7 (exp0 h M (.osl i sz off n))
 | .sl n _ _=>n=0
 | a=>qk a=true
def new1(h:Heap)(M:List Nat):AV->Prop
 | .agg cs=>∀ a∈cs,new0 h M a
 | .tup cs=>∀ a∈cs,new0 h M a
 | a=>new0 h M a
def new2(h:Heap)(M:List Nat):AV->Prop
 | .tup cs=>∀ a∈cs,new1 h M a
 | a=>new1 h M a
def newB:Blk->Prop
 | .arr n sz g=>zb7 (.sl n sz g)
 | .dead=>True
 | .box _=>False
 | .arrI _ _ _=>True
 | .arrS _ _=>True
 | .map _ _ _ _ _=>False
theorem jN{own own':Nat->Prop}{w w':World}{E1 E2:List SE}{f:AV->AV}{l:List AV}{vs:List Value}(hf:∀ a∈l,∀ v,Rep own w a E1 v->Rep own' w' (f a) E2 v)(h:RepL own w l E1 vs):RepL own' w' (l.map f) E2 vs:=by
 refine zt.2 ⟨by simp [h.length],λi x u hx hu=> ?_⟩;simp only [aN] at hx;cases hl:l[i]? with
 | none=>simp [hl] at hx
 | some y=>
  simp only [hl,Option.map_some,aE] at hx;subst hx;exact hf y (aY hl) u ((zt.1 h).2 i y u hl hu)
structure Exp(O:Nat->Prop)(w:World)(σ:List SE)(h:Heap)(M:List Nat)(EM:List SE)(own':Nat->Prop):Prop where
 good:Good O w σ
 hp:HRep (Own O σ) w σ h
 nd:w8 M=true
 lt:∀ i∈M,i<h.length
 get:∀ j:Nat,EM[j]?=(M[j]?).bind λi=>σ[i]?
 own:∀ b,own' b->Own O EM b\/¬ Mine σ b
section
variable {h:Heap} {M:List Nat} {EM:List SE} {own':Nat->Prop}
theorem Exp.get'(x:Exp O w σ h M EM own'){j:Nat}{e:SE}(he:EM[j]?=some e):∃ i,M[j]?=some i/\σ[i]?=some e:=by
 rw [x.get] at he;cases hj:M[j]? with
 | none=>simp [hj] at he
 | some i=>simp only [hj,Option.bind_some] at he; exact⟨i,rfl,he⟩
theorem Exp.pos(x:Exp O w σ h M EM own')(i j:Nat)(hp:z4 M i=some j):EM[j]?=σ[i]?:=by
 rw [x.get,kz hp]; rfl
theorem Exp.sub(x:Exp O w σ h M EM own'){b:Nat}(hb:Own O EM b):Own O σ b:=by
 rcases hb with hb | hb
 ·exact .inl hb
 ·obtain⟨j,e,ad,h1,h2,h3⟩:=zw.1 hb;obtain⟨i,_,hi⟩:=x.get' h1;exact .inr (zw.2 ⟨i,e,ad,hi,h2,h3⟩)
theorem Exp.out(x:Exp O w σ h M EM own'){i:Nat}{e:SE}{ad:Addr}(hi:i∉M)(he:σ[i]?=some e)(had:e.ad=some ad):¬ own' ad.block:=by
 intro hb;rcases x.own _ hb with hb | hb
 ·rcases hb with hb | hb
  ·exact x.good.dis i e ad he had hb
  ·obtain⟨j,f,ad',h1,h2,h3⟩:=zw.1 hb;obtain⟨k,hk,hf⟩:=x.get' h1;exact x.hp.inj k i f e ad' ad hf he h2 had (λe=>hi (e▸aY hk)) h3
 ·exact hb (zw.2 ⟨i,e,ad,he,had,rfl⟩)
theorem Kl{h:Heap}{i sz off n:Nat}{a:AV}{k:List Nat}(hf:frz1 h (.osl i sz off n)=some (a,k)):∃ n' sz' g k',a = .sl n' sz' g/\k=i::k':=by
 simp only [frz1] at hf;split at hf
 ·simp only [aE,bE] at hf; exact⟨_,_,_,[],hf.1.symm,hf.2.symm⟩
 ·simp only [frzD] at hf;split at hf
  ·simp only [aE,bE] at hf; exact⟨_,_,_,[],hf.1.symm,hf.2.symm⟩
  ·split at hf
   ·split at hf
    ·split at hf
     ·simp only [aE,bE] at hf; exact⟨_,_,_,_,hf.1.symm,hf.2.symm⟩
     ·cases hf
    ·cases hf
   ·cases hf
theorem vq(x:Exp O w σ h M EM own'){a:AV}{v:Value}(hs:(∀ b,own' b->Own O σ b)\/new0 h M a)(ha:Rep (Own O σ) w a σ v):Rep own' w (exp0 h M a) EM v:=by
 have hren:∀ a,exp0 h M a=ren0 (z4 M) a->((∀ b,own' b->Own O σ b)\/qk a=true\/(∃ i sz off n,a = .osl i sz off n))->Rep (Own O σ) w a σ v->Rep own' w (exp0 h M a) EM v:=by
  intro a he hs ha;rw [he];rcases hs with hs | hs | ⟨i,sz,off,n,rfl⟩
  ·exact wC hs (w6 x.pos ha)
  ·have:ren0 (z4 M) a=a:=by
    cases a with
    | fn g p q=>cases p<;>cases q<;>simp [qk] at hs; rfl
    | _=>first | rfl | simp [qk] at hs
   rw [this];exact xx hs ha
  ·have:=w6 x.pos ha;simp only [ren0] at this ⊢;split
   ·rename_i j hj;rw [hj] at this;simpa only [Rep] using this
   ·simp [Rep]
 cases a with
 | osl i sz off n=>
  cases hp:z4 M i with
  | some j=>exact hren _ (by simp [exp0,ren0,hp]) (.inr (.inr ⟨i,sz,off,n,rfl⟩)) ha
  | none=>
   have hiM:=q6.1 hp;cases hf:frz1 h (.osl i sz off n) with
   | none=>simp [exp0,hp,hf,Rep]
   | some p=>
    obtain⟨a',k⟩:=p;obtain⟨n',sz',g,k',rfl,rfl⟩:=Kl hf;by_cases hall:∀ q∈i::k',q∉M
    rotate_left
    ·have:exp0 h M (.osl i sz off n) = .undef:=by
      cases k' with
      | nil=>exact absurd (λq hq=>by rw [List.mem_singleton.1 hq]; exact hiM) hall
      | cons q k'=>
       simp only [exp0,hp,hf]
       have:((i::q::k').all λi=>(z4 M i).isNone)=false:=by
        rw [Bool.eq_false_iff];intro h2;refine hall λq hq=> ?_
        have:=bG.1 h2 q hq;exact q6.1 (by simpa using this)
       rw [this]; rfl
     rw [this]; simp [Rep]
    have key:exp0 h M (.osl i sz off n) = .sl n' sz' g:=by
     cases k' with
     | nil=>simp only [exp0,hp,hf]
     | cons q k'=>
      simp only [exp0,hp,hf]
      have:((i::q::k').all λi=>(z4 M i).isNone)=true:=by
       rw [bG];intro q hq;rw [q6.2 (hall q hq)]; rfl
      rw [this]; rfl
    rw [key];have hfs:=(yf (K:=i::k') x.good x.hp ha hf (λ_ h=>h)).1;simp only [Rep] at hfs ⊢;obtain⟨ba,cap,hv,hc,hr⟩:=hfs;refine⟨ba,cap,hv,hc,?_⟩;rcases hr with hr | ⟨ad,h1,h2,h3⟩
    ·exact .inl hr
    ·refine .inr ⟨ad,h1,h2,λj o hj ho=> ?_⟩;obtain⟨h4,c,h5,h6,h7⟩:=h3 j o hj ho
     have hblk:¬ own' ad.block:=by
      simp only [Rep] at ha;obtain⟨e,he,_,a2,cap2,hv2,_,hr2⟩:=ha;rw [hv] at hv2;simp only [Value.slice.injEq] at hv2;obtain⟨e1,e2,e3⟩:=hv2;rcases hr2 with hr2 | ⟨ad2,had2,ha2,_⟩
      ·omega
      ·have:ad.block=ad2.block:=by
        rw [h1,ha2] at e1;simp only [aE] at e1;rw [e1]
       rw [this];exact x.out hiM he had2
     refine⟨hblk,c,h5,h6,?_⟩;rcases hs with hs | hs
     ·exact wC (λb hb=>by
       rcases x.own b hb with h8 | h8
       ·rcases h8 with h8 | h8
        ·exact .inl h8
        ·obtain⟨jj,f,ad',g1,g2,g3⟩:=zw.1 h8;obtain⟨kk,hk,hf'⟩:=x.get' g1
         exact .inr (zw.2 ⟨kk,f,ad',by
           have hne:kk∉i::k':=λe=>hall kk e (aY hk)
           rw [qP,hf']; simp only [Option.map_some]; rw [aO (by simpa using hne)],g2,g3⟩)
       ·rcases hs b hb with h9 | h9
        ·exact .inl h9
        ·exact absurd h9 h8) h7
     ·have hsl:=hs hp;rw [key] at hsl;exact xx (hsl j o hj ho) h7
 | sl n sz g=>
  rcases hs with hs | hs
  ·exact hren _ rfl (.inl hs) ha
  ·simp only [new0] at hs;subst hs;simp only [exp0,ren0,Rep] at ha ⊢;obtain⟨b,cap,hv,hc,_⟩:=ha;exact⟨b,cap,hv,hc,.inl trivial⟩
 | agg cs=>simp [exp0,ren0,Rep]
 | tup cs=>simp [exp0,ren0,Rep]
 | opt _ _ _=>simp [exp0,ren0,Rep]
 | undef=>simp [exp0,ren0,Rep]
 | _=>exact hren _ rfl (by rcases hs with hs | hs; exact .inl hs; exact .inr (.inl hs)) ha
theorem vf(x:Exp O w σ h M EM own'){a:AV}{v:Value}(hs:(∀ b,own' b->Own O σ b)\/new1 h M a)(ha:Rep (Own O σ) w a σ v):Rep own' w (exp1 h M a) EM v:=by
 cases a with
 | agg cs=>
  simp only [exp1,Rep] at ha ⊢;obtain⟨vs,hv,hr⟩:=ha;exact⟨vs,hv,jN (λa ha v=>vq x (by rcases hs with hs | hs; exact .inl hs; exact .inr (hs a ha))) hr⟩
 | tup cs=>
  simp only [exp1,Rep] at ha ⊢;obtain⟨vs,hv,hr⟩:=ha;exact⟨vs,hv,jN (λa ha v=>vq x (by rcases hs with hs | hs; exact .inl hs; exact .inr (hs a ha))) hr⟩
 | fn g p q=>
  rcases hs with hs | hs
  ·simp only [exp1,Rep] at ha ⊢;obtain⟨va,vb,hv,h1,h2⟩:=ha;exact⟨va,vb,hv,jN (λa ha v=>vq x (.inl hs)) h1,jN (λa ha v=>vq x (.inl hs)) h2⟩
  ·cases p<;>cases q<;>simp [new1,new0,qk] at hs
   simp only [exp1,Rep,RepL,List.map_nil] at ha ⊢;exact ha
 | _=>exact vq x (by simpa only [new1] using hs) ha
theorem QK(x:Exp O w σ h M EM own'){a:AV}{v:Value}(hs:(∀ b,own' b->Own O σ b)\/new2 h M a)(ha:Rep (Own O σ) w a σ v):Rep own' w (exp2 h M a) EM v:=by
 cases a with
 | tup cs=>
  simp only [exp2,Rep] at ha ⊢;obtain⟨vs,hv,hr⟩:=ha;exact⟨vs,hv,jN (λa ha v=>vf x (by rcases hs with hs | hs; exact .inl hs; exact .inr (hs a ha))) hr⟩
 | fn g p q=>
  rcases hs with hs | hs
  ·simp only [exp2,Rep] at ha ⊢;obtain⟨va,vb,hv,h1,h2⟩:=ha;exact⟨va,vb,hv,jN (λa ha v=>vf x (.inl hs)) h1,jN (λa ha v=>vf x (.inl hs)) h2⟩
  ·cases p<;>cases q<;>simp [new2,new1,new0,qk] at hs
   simp only [exp2,Rep,RepL,List.map_nil] at ha ⊢;exact ha
 | _=>exact vf x (by simpa only [new2] using hs) ha
theorem Yk(x:Exp O w σ h M EM own'){e:SE}{b:Blk}(hs:(∀ b,own' b->Own O σ b)\/newB b)(hb:BRep (Own O σ) w σ e b):BRep own' w EM e (expB h M b):=by
 have arr:∀ {n sz:Nat} {g:Nat->Nat->AV},((∀ b,own' b->Own O σ b)\/newB (.arr n sz g))->BRep (Own O σ) w σ e (.arr n sz g)->BRep own' w EM e (.arr n sz g):=by
  intro n sz g hs hb;simp only [BRep] at hb ⊢;obtain⟨h1,h2 | ⟨ad,cs,el,h3,h4,h5,h6⟩⟩:=hb
  ·exact⟨h1,.inl h2⟩
  ·refine⟨h1,.inr ⟨ad,cs,el,h3,h4,h5,λj o hj ho=> ?_⟩⟩;obtain⟨c,h7,h8,h9⟩:=h6 j o hj ho;refine⟨c,h7,h8,?_⟩;rcases hs with hs | hs
   ·exact wC hs h9
   ·exact xx (hs j o hj ho) h9
 cases b with
 | dead=>trivial
 | box cs=>
  rcases hs with hs | hs
  ·simp only [expB,BRep] at hb ⊢;obtain⟨ad,vs,el,h1,h2,h3,h4⟩:=hb;exact⟨ad,vs,el,h1,h2,h3,jN (λa ha v=>vf x (.inl hs)) h4⟩
  ·exact hs.elim
 | arr n sz g=>exact arr hs hb
 | arrI k n f=>exact kV.2 (arr (.inr λj o _ _=>rfl) (kV.1 hb))
 | arrS n f=>exact kU.2 (arr (.inr λj o _ _=>rfl) (kU.1 hb))
 | map ag sh has get pe=>
  rcases hs with hs | hs
  ·simp only [expB,BRep] at hb ⊢;obtain⟨ad,es,clock,l,h1,h2,h3,h4,h5,h6⟩:=hb;refine⟨ad,es,clock,l,h1,h2,h3,h4,h5,h6.ext ⟨rfl,rfl,rfl,aJ _,λ_ _ _=>rfl,λb hb=>.inl (hs b hb)⟩⟩
  ·exact hs.elim
end
def eqL1:List AV->List AV->Prop
 | [],[]=>True
 | a::l,b::m=>eqA a b/\eqL1 l m
 | _,_=>False
def eqA2:AV->AV->Prop
 | .tup l,.tup m=>eqL1 l m
 | a,b=>eqA a b
theorem ZC:∀ {l m:List AV},eqL1 l m->LeL l m
 | [],[],_=>trivial
 | a::l,b::m,h=>⟨ug h.1,ZC h.2⟩
 | [],_::_,h=>h.elim
 | _::_,[],h=>h.elim
theorem qw{a b:AV}(h:eqA2 a b):LeA a b:=by
 unfold eqA2 at h;split at h
 ·intro own w σ v hr;simp only [Rep] at hr ⊢;obtain⟨vs,hv,hr⟩:=hr;exact⟨vs,hv,(ZC h).rep hr⟩
 ·exact ug h
def LeB(b b':Blk):Prop:=∀ own w σ e,BRep own w σ e b->BRep own w σ e b'
def leHs:Heap->Heap->Prop
 | [],[]=>True
 | b::l,c::m=>LeB b c/\leHs l m
 | _,_=>False
theorem Vt:∀ {l m:Heap},leHs l m->m.length=l.length
 | [],[],_=>rfl
 | _::l,_::m,h=>by simp [Vt h.2]
 | [],_::_,h=>h.elim
 | _::_,[],h=>h.elim
theorem ZQ:∀ {l m:Heap} {j:Nat} {b c:Blk},leHs l m->l[j]?=some b->m[j]?=some c->LeB b c
 | _::l,_::m,0,b,c,h,h1,h2=>by simp at h1 h2; subst h1; subst h2; exact h.1
 | _::l,_::m,j+1,b,c,h,h1,h2=>ZQ h.2 (by simpa using h1) (by simpa using h2)
 | [],[],_,_,_,_,h1,_=>by simp at h1
 | [],_::_,_,_,_,h,_,_=>h.elim
 | _::_,[],_,_,_,h,_,_=>h.elim
theorem LeB.refl(b:Blk):LeB b b:=λ_ _ _ _ h=>h
theorem LeB.of_eq{b b':Blk}(h:eqB b b'):LeB b b':=λ_ _ _ _ hb=>um h hb
theorem LeB.box{l m:List AV}(h:LeL l m):LeB (.box l) (.box m):=λown w σ e hb=>by
 simp only [BRep] at hb ⊢;obtain⟨ad,vs,el,h1,h2,h3,h4⟩:=hb;exact⟨ad,vs,el,h1,h2,h3,h.rep h4⟩
def RetR(ctr:Ctr)(m:Nat)(Q:AV×Heap->Prop)(rs:List AV)(h:Heap):Prop:=
 ∃ M:List Nat,w8 M=true/\(∀ i∈M,i<h.length)/\(∀ j,j<m->M[j]?=some j)/\(ctr.fresh=true->new2 h M (resV rs)/\∀ i∈M,newB (h.getD i .dead))/\∃ r hs,LeA (exp2 h M (resV rs)) r/\(eqH (expH h M) hs\/leHs (expH h M) hs)/\hs.length=M.length/\Q (r,hs)
def ZO(ctr:Ctr)(hc:Heap):Nat:=bif ctr.wS then ctr.pins else hc.length
theorem zi5{g:Nat}{fn:Func}{c:Code}{ctr:Ctr}(hf:P.funcs[g]?=some fn)(hb:fn.body=some c) (hn:(fn.name == "runtime.NumGoroutine")=false)
  {args:List AV} {hc:Heap} {Q:AV×Heap->Prop} (hfr:ctr.fresh=true->hc=[]) (H:∀ (O:Nat->Prop) (w0:World) (I0:List SE),I0.length=hc.length ->
   Safe Xp none P O (ZO ctr hc) w0 I0 (λ_ _=>False) (λst=>(resX P st fn.results.toList).holds λrs=>RetR ctr hc.length Q rs st.heap) [.code c] (vX fn args hc)):uj Xp P g ctr args hc Q:=by
 intro O w I0 vals hg hh hr;left;have hn':¬ fn.name = "runtime.NumGoroutine" :=by simpa using hn
 refine⟨by simp [callFunc,hf,hn',hb],?_⟩;refine callsIn_wide.1 (callsIn_of_wp_marks (F:=Fence.wide) (n:=0) hf hb trivial ?_);have:=H O w I0 hh.len w I0 _ (U7 hg hh hr);simp only [wpK,FM] at this;refine wpIn_mono this ?_;rintro e a1 w1 h
 have hfin:∀ (st:St) (σ:List SE) (a':Act) (w':World),((resX P st fn.results.toList).holds λrs=>RetR ctr hc.length Q rs st.heap)->Mod O (ZO ctr hc) w I0 w' σ st a'->∃ v,(results fn a'.tmps).run P w' = .ok v w'/\∃ v',Ending.returned v = .returned v'/\∃ r hs Z',Q (r,hs)/\Rep (λb=>Own O Z' b\/(ctr.fresh=true/\b<w.heap.size)) w' r Z' v' /\
   HRep (λb=>Own O Z' b\/(ctr.fresh=true/\b<w.heap.size)) w' Z' hs/\Good O w' Z'/\hc.length<=hs.length/\Hold (if ctr.wS=true then(List.range hc.length).drop ctr.pins else []) w I0 w' Z'/\Ext (Mine I0) w (Mine Z') w':=by
  intro st σ a' w' hR hm;obtain⟨rs,v,h1,⟨M,h2,h3,h4,h5,r0,hs0,hq1,hq2,hq3,h6⟩,h7⟩:=QV hm hR
  let EM:List SE:=M.map λi=>σ.getD i ⟨none,0⟩
  have hMZ:∀ i∈M,i<σ.length:=λi hi=>by rw [hm.hp.len]; exact h3 i hi
  have hget:∀ j:Nat,EM[j]?=(M[j]?).bind λi=>σ[i]?:=by
   intro j;simp only [EM,aN];cases hj:M[j]? with
   | none=>rfl
   | some i=>
    have:=hMZ i (aY hj);simp [this]
  have hnewO:ctr.fresh=true->∀ b,Mine σ b->w.heap.size<=b:=by
   intro hf b hb;have h0:=hfr hf;have hZ0:I0=[]:=by have:=hh.len; rw [h0] at this; exact aU.1 (by simpa using this)
   obtain⟨i,e,ad,g1,g2,g3⟩:=zw.1 hb;rcases hm.since.ext.grow b (.inr hb) with hx | hx
   ·rcases hx with hx | ⟨e',he',_⟩
    ·exact absurd (g3▸hx) (hm.good.dis i e ad g1 g2)
    ·rw [hZ0] at he'; simp at he'
   ·exact hx
  have X:Exp O w' σ st.heap M EM (λb=>Own O EM b\/(ctr.fresh=true/\b<w.heap.size)):=⟨hm.good,hm.hp,h2,h3,hget,λb hb=>by
   rcases hb with hb | ⟨hf,hb⟩
   ·exact .inl hb
   ·exact .inr λhmn=>by have:=hnewO hf b hmn; omega⟩
  have hor:∀ {p:Prop},(ctr.fresh=true->p)->(∀ b,(Own O EM b\/(ctr.fresh=true/\b<w.heap.size))->Own O σ b)\/p:=by
   intro p hp;cases hf:ctr.fresh with
   | true=>exact .inr (hp hf)
   | false=>
    left;rintro b (hb | ⟨hf',_⟩)
    ·exact X.sub hb
    ·cases hf'
  have hmlen:hc.length<=M.length:=by
   rcases aR M.length hc.length with hlt | hge
   ·have:=h4 M.length hlt;simp at this
   ·exact hge
  refine⟨v,h1,v,rfl,r0,hs0,EM,h6,hq1 _ _ _ _ (QK X (hor λhf=>(h5 hf).1) h7),⟨?_,?_,?_,?_⟩,⟨?_,?_,hm.good.stat.own λb hb=>hb.imp id λ⟨e,he,ad,h1,h2⟩=>by
   obtain⟨j,hj⟩:=List.mem_iff_getElem?.1 he;obtain⟨i,_,g2⟩:=X.get' hj;exact⟨e,aY g2,ad,h1,h2⟩⟩,by omega,?_,?_⟩
  ·simp [EM,hq3]
  ·intro i j e f a b he hf ha hb' hij;obtain⟨i',g1,g2⟩:=X.get' he;obtain⟨j',g3,g4⟩:=X.get' hf;refine hm.hp.inj i' j' e f a b g2 g4 ha hb' ?_;rintro rfl;have g5:=vA h2 g1;have g6:=vA h2 g3;rw [g5] at g6; cases g6; exact hij rfl
  ·intro i e a he ha;obtain⟨i',g1,g2⟩:=X.get' he;exact hm.hp.lt i' e a g2 ha
  ·intro j e b he hb';obtain⟨i,g1,g2⟩:=X.get' he;have hb2:(expH st.heap M)[j]?=some (expB st.heap M (st.heap.getD i .dead)):=by simp only [expH,aN,g1,Option.map_some]
   refine(hq2.elim (λhq2=>LeB.of_eq (Zi hq2 hb2 hb')) λhq2=>ZQ hq2 hb2 hb') _ _ _ _ ?_;have hlt:=h3 i (aY g1);have hgd:st.heap.getD i .dead=st.heap[i]:=by simp [hlt]
   have hbr:=hm.hp.blk i e _ g2 (aF hlt);rw [<- hgd] at hbr;exact Yk X (hor λhf=>(h5 hf).2 i (aY g1)) hbr
  ·exact hm.good.old
  ·intro i e ad he had;obtain⟨i',g1,g2⟩:=X.get' he;exact hm.good.dis i' e ad g2 had
  ·cases hmv:ctr.wS with
   | true=>
    intro i e he hi;have hlt:=(aG.1 he).1;rw [hh.len] at hlt
    have hip:i<ctr.pins:=by
     refine bM λg=>hi ?_
     rw [aP rfl];refine List.mem_iff_getElem?.2 ⟨i - ctr.pins,?_⟩;rw [List.getElem?_drop,show ctr.pins+(i - ctr.pins)=i by omega];exact List.getElem?_range hlt
    obtain⟨g1,g2⟩:=hm.since.hold i e (by simpa [ZO,hmv] using hip) he;exact⟨by rw [hget,h4 i hlt]; exact g1,g2⟩
   | false=>
    intro i e he _;have hlt:=(aG.1 he).1;rw [hh.len] at hlt;obtain⟨g1,g2⟩:=hm.since.hold i e (by simpa [ZO,hmv] using hlt) he;exact⟨by rw [hget,h4 i hlt]; exact g1,g2⟩
  ·refine⟨hm.since.ext.os,hm.since.ext.tape,hm.since.ext.output,hm.since.ext.size,λb hb' hno=> ?_,λb hb'=> ?_⟩
   ·by_cases hOb:O b
    ·exact hm.since.km b hOb hb'
    ·exact hm.since.ext.keep b hb' (λhx=>by rcases hx with hx | hx; exact hOb hx; exact hno hx)
   ·rcases X.sub (.inr hb') with hx | hx
    ·obtain⟨j,e,ad,g1,g2,g3⟩:=zw.1 hb';obtain⟨i,_,g4⟩:=X.get' g1;exact absurd (g3▸hx) (hm.good.dis i e ad g4 g2)
    ·obtain⟨i,e,ad,g1,g2,g3⟩:=zw.1 hx;rcases hm.since.ext.grow b (.inr hx) with hy | hy
     ·rcases hy with hy | hy
      ·exact absurd (g3▸hy) (hm.good.dis i e ad g1 g2)
      ·exact .inl hy
     ·exact .inr hy
 have hend:∀ (st:St) (σ:List SE),((resX P st fn.results.toList).holds λrs=>RetR ctr hc.length Q rs st.heap)->Mod O (ZO ctr hc) w I0 w1 σ st a1->LeavesInM Fence.wide 0 P fn a1.tmps (λe w'=>(∃ v,e = .returned v/\∃ r hs Z',Q (r,hs)/\Rep (λb=>Own O Z' b\/(ctr.fresh=true/\b<w.heap.size)) w' r Z' v /\
   HRep (λb=>Own O Z' b\/(ctr.fresh=true/\b<w.heap.size)) w' Z' hs/\Good O w' Z'/\hc.length<=hs.length/\Hold (if ctr.wS=true then(List.range hc.length).drop ctr.pins else []) w I0 w' Z'/\Ext (Mine I0) w (Mine Z') w')\/∃ ch,e = .panicked ch/\Xp ch/\Died I0 w w') a1.defers .returning w1:=by
  intro st σ hR hm;refine yF a1.defers w1 hm λw' hm'=> ?_
  obtain⟨v,h1,v',h2,h3⟩:=hfin st σ _ _ hR hm';exact⟨v,h1,.inl ⟨v',h2,h3⟩⟩
 cases e with
 | normal=>
  simp only [wpK] at h;rcases h with ⟨_,st,σ,hR,hm⟩ | ⟨ch,h,_⟩
  ·exact hend st σ hR hm
  ·cases h
 | ret=>
  simp only [wpK] at h;rcases h with ⟨_,st,σ,hR,hm⟩ | ⟨ch,h,_⟩
  ·exact hend st σ hR hm
  ·cases h
 | exit i=>exact absurd h (by simp [wpK])
 | goto l=>exact absurd h (by simp [wpK])
 | panic ch=>
  rcases h with ⟨h,_⟩ | ⟨ch',h,hx,hd⟩
  ·simp at h
  ·cases h;exact uR a1.defers w1 hd λw' hd'=>.inr ⟨ch,rfl,hx,hd'.died⟩
 | outgrown=>exact absurd h (by simp [wpK])
end
end Go.Sx
end
section
namespace Go.Sx
variable [Stat]
open Go.RowKit (Below)
def natG(k:IntKind)(l:List Nat):Nat->Nat->AV:=λj _=>.int k ((l.getD j 0:Nat):Int)
def natS(k:IntKind)(l:List Nat):AV:=.sl l.length 1 (natG k l)
abbrev KV:=List (Nat×AV)
def look:KV->Nat->AV
 | [],_=>.undef
 | (i,a)::l,t=>if i=t then a else look l t
def pk(n:Nat)(l:KV):List AV:=(List.range n).map (look l)
def mk(n:Nat)(l:KV)(h:Heap):St:=⟨pk n l,h⟩
inductive we where
 | ret (rs:List AV) (h:Heap)
 | back (d:Nat) (kv:KV) (h:Heap)
 | loop (c:Code) (k:List Item) (kv:KV) (h:Heap)
 | range (c:Code) (k:List Item) (kv:KV) (h:Heap)
 | gone
abbrev Tree.R(a:List AV)(h:Heap):Tree we:=.leaf (.ret a h)
abbrev Tree.S(v:Int)(t:Tree we):Tree we:=.side (inR .i64 v) t
abbrev Tree.D(p:Prop)[Decidable p](a b:Tree we):Tree we:=.ite (decide p) a b
abbrev Tree.N(p:Prop)[Decidable p](a b:Tree we):Tree we:=.ite (!decide p) a b
abbrev Tree.A(k:Unit->Tree we):Tree we:=.all (λ_=>True) k
abbrev Z(n:Nat):Nat×AV:=(n,.undef)
def kvOf(live:List Nat)(st:St):KV:=live.map λi=>(i,see [] (st.tmps.getD i .undef))
def post(P:Program)(fn:Func)(live:List Nat):Leaf->Tree we
 | .ret st=>(resX P st fn.results.toList).bind λrs=>.leaf (.ret rs st.heap)
 | .back d st=>if st.tmps.length=fn.ntmps then .leaf (.back d (kvOf live st) st.heap) else .fail
 | .loop c k st=>if st.tmps.length=fn.ntmps then .leaf (.loop c k (kvOf live st) st.heap) else .fail
 | .range c k st=>if st.tmps.length=fn.ntmps then .leaf (.range c k (kvOf live st) st.heap) else .fail
 | .gone=>.leaf .gone
def wW:Nat->List Item->List (Code×List Item)
 | 0,_=>[]
 | _+1,[]=>[]
 | n+1,.inBlock _::k=>wW n k
 | _+1,.inLoop::_=>[]
 | n+1,.code c::k=>match c with
  | .skip=>wW n k
  | .seq a b=>wW n (.code a::.code b::k)
  | .region _ _ _=>wW n k
  | .cond _ x y=>wW n (.code x::k)++wW n (.code y::k)
  | .block id c=>wW n (.code c::.inBlock id::k)
  | .loop c=>[(c,k)]
  | .exit id=>match exitTo id k with
   | some k'=>wW n k'
   | none=>[]
  | _=>[]
def jZ:Nat->List Item->List (Code×List Item)
 | 0,_=>[]
 | _+1,[]=>[]
 | n+1,.inBlock _::k=>jZ n k
 | _+1,.inLoop::_=>[]
 | n+1,.code c::k=>match c with
  | .skip=>jZ n k
  | .seq a b=>jZ n (.code a::.code b::k)
  | .region _ _ _=>jZ n k
  | .cond _ x y=>jZ n (.code x::k)++jZ n (.code y::k)
  | .block id c=>jZ n (.code c::.inBlock id::k)
  | .rangeFunc g ps x y=>[(.rangeFunc g ps x y,k)]
  | .exit id=>match exitTo id k with
   | some k'=>jZ n k'
   | none=>[]
  | _=>[]
def rfs(K:List Item)(j:Nat):Code×List Item:=(jZ 400 K).getD j (.skip,[])
def Wf:Code->Code
 | .rangeFunc _ _ _ y=>y
 | c=>c
def roundOf(K:List Item)(j:Nat):List Item:=[.code (Wf (rfs K j).1),.inLoop]
def bare(fn:Func):Func:={ fn with results:= #[] }
def lps(K:List Item)(j:Nat):Code×List Item:=(wW 400 K).getD j (.skip,[])
def inside(K:List Item)(j:Nat):List Item:=.code (lps K j).1::.inLoop::(lps K j).2
def runL(P:Program)(Γ:Nat->Option Ctr)(pin:Nat)(fn:Func)(live:List Nat)(n:Nat)(k:List Item)(st:St):Tree we:=(run P Γ pin n k st).bind (post P fn live)
section
variable {O:Nat->Prop} {pin:Nat} {w0:World} {I0:List SE} {w:World} {σ:List SE} {P:Program} {st st':St} {a:Act} {Γ:Nat->Option Ctr} {fn:Func} {Xp:List PanicEntry->Prop}
theorem x3{n t:Nat}{l:KV}(h:t<n):(pk n l).getD t .undef=look l t:=by simp [pk,List.getD,h]
theorem zgo{live:List Nat}{st:St}{t:Nat} : look (kvOf live st) t=see [] (st.tmps.getD t .undef)\/look (kvOf live st) t = .undef:=by
 unfold kvOf
 induction live with
 | nil=>exact .inr rfl
 | cons i l ih=>
  simp only [List.map_cons,look];split
  ·rename_i h; subst h; exact .inl rfl
  ·exact ih
theorem QM(hm:Mod O pin w0 I0 w σ st a)(live:List Nat)(hn:st.tmps.length=fn.ntmps):Mod O pin w0 I0 w σ (mk fn.ntmps (kvOf live st) st.heap) a:=by
 refine⟨hm.good,hm.hp,by simp [mk,pk,hm.size,hn],λt=> ?_,hm.df,hm.since,hm.lim⟩;by_cases ht:t<fn.ntmps
 ·simp only [mk];rw [x3 ht];have:=(hm.tm t).rep;rcases zgo (live:=live) (st:=st) (t:=t) with h | h<;>rw [h]
  ·generalize st.tmps.getD t .undef=x at this;cases x with
   | opt _ _ _=>simp [see,TRep,Rep]
   | _=>simpa only [see,TRep] using this
  ·simp [TRep,Rep]
 ·have:(mk fn.ntmps (kvOf live st) st.heap).tmps.getD t .undef = .undef:=by simp [mk,pk,List.getD,ht]
  rw [this]; simp [TRep,Rep]
def zS(Xp:List PanicEntry->Prop)(M:Option Nat)(P:Program)(fn:Func)(O:Nat->Prop)(pin:Nat)(w0:World)(I0:List SE)(Hs:Nat->KV->Heap->Prop)(R:List AV->Heap->Prop)(k:List Item)(st:St):Prop:=
 Safe Xp M P O pin w0 I0 (λd st=>∃ kv h,Hs d kv h/\st=mk fn.ntmps kv h) (λst=>(resX P st fn.results.toList).holds λrs=>R rs st.heap) k st
abbrev jP(M:Option Nat)(P:Program)(fn:Func)(O:Nat->Prop)(pin:Nat)(w0:World)(I0:List SE)(Hs:Nat->KV->Heap->Prop)(R:List AV->Heap->Prop)(k:List Item)(st:St):Prop:=zS (λ_=>False) M P fn O pin w0 I0 Hs R k st
abbrev zb(P:Program)(fn:Func)(O:Nat->Prop)(pin:Nat)(w0:World)(I0:List SE)(Hs:Nat->KV->Heap->Prop)(R:List AV->Heap->Prop)(k:List Item)(st:St):Prop:=zS (λ_=>False) none P fn O pin w0 I0 Hs R k st
abbrev zjc(Xp:List PanicEntry->Prop)(P:Program)(fn:Func)(O:Nat->Prop)(pin:Nat)(w0:World)(I0:List SE)(Hs:Nat->KV->Heap->Prop)(R:List AV->Heap->Prop)(k:List Item)(st:St):Prop:=zS Xp none P fn O pin w0 I0 Hs R k st
def ze(Xp:List PanicEntry->Prop)(M:Option Nat)(P:Program)(fn:Func)(O:Nat->Prop)(pin:Nat)(w0:World)(I0:List SE)(Hs:Nat->KV->Heap->Prop)(R:List AV->Heap->Prop):we->Prop
 | .ret rs h=>R rs h
 | .back d kv h=>Hs d kv h
 | .loop c k kv h=>zS Xp M P fn O pin w0 I0 Hs R (.code (.loop c)::k) (mk fn.ntmps kv h)
 | .range c k kv h=>zS Xp M P fn O pin w0 I0 Hs R (.code c::k) (mk fn.ntmps kv h)
 | .gone=>True
theorem zb.runX{M:Option Nat}{Hs:Nat->KV->Heap->Prop}{R:List AV->Heap->Prop}{k:List Item}(hmix:P.follows .mixedOrders=true)(hΓ:∀ g c,Γ g=some c->j2 Xp P g c)(live:List Nat)(n:Nat){T:Tree we}(ht:runL P Γ pin fn live n k st=T)(h:T.holds (ze Xp M P fn O pin w0 I0 Hs R)):zS Xp M P fn O pin w0 I0 Hs R k st:=by
 subst ht;simp only [runL,Tree.zo] at h;intro w σ a hm;refine qE hmix hΓ (λch a w' h1 h2=>.inr ⟨ch,rfl,h1,h2⟩) n (Tree.zU ?_ h) hm;intro lf hl;cases lf with
 | ret st=>
  simp only [post,Tree.zo] at hl;exactλw σ a hm=>⟨.inl ⟨.inl rfl,st,σ,hl,hm⟩,.inl ⟨.inr rfl,st,σ,hl,hm⟩⟩
 | back d st=>
  simp only [post] at hl;split at hl
  ·rename_i hn;exactλw σ a hm=>⟨_,σ,⟨_,_,hl,rfl⟩,QM hm live hn⟩
  ·exact hl.elim
 | loop c k st=>
  simp only [post] at hl;split at hl
  ·rename_i hn;exactλw σ a hm=>hl w σ a (QM hm live hn)
  ·exact hl.elim
 | range c k st=>
  simp only [post] at hl;split at hl
  ·rename_i hn;exactλw σ a hm=>hl w σ a (QM hm live hn)
  ·exact hl.elim
 | gone=>trivial
def eqKV:KV->KV->Prop
 | [],[]=>True
 | (i,a)::l,(j,b)::m=>i=j/\eqA a b/\eqKV l m
 | _,_=>False
theorem zb.run{M:Option Nat}{Hs:Nat->KV->Heap->Prop}{R:List AV->Heap->Prop}{k:List Item}(hmix:P.follows .mixedOrders=true)(hΓ:∀ g c,Γ g=some c->zc P g c)(live:List Nat)(n:Nat){T:Tree we}(ht:runL P Γ pin fn live n k st=T)(h:T.holds (ze Xp M P fn O pin w0 I0 Hs R)):zS Xp M P fn O pin w0 I0 Hs R k st:=
 zb.runX hmix (λg c h=>(hΓ g c h).x) live n ht h
theorem zb.n{M:Option Nat}{Hs:Nat->KV->Heap->Prop}{R:List AV->Heap->Prop}{k:List Item}(hΓ:∀ g c,Γ g=some c->zc P g c)(live:List Nat)(T:Tree we)(h:T.holds (ze Xp M P fn O pin w0 I0 Hs R))(hmix:P.follows .mixedOrders=true:=by kernel_rfl)(ht:runL P Γ pin fn live 400 k st=T:=by kernel_rfl):zS Xp M P fn O pin w0 I0 Hs R k st:=zb.run hmix hΓ live 400 ht h
theorem UK:eqA .undef .undef:=by simp [eqA,eqA0]
theorem zj9{l m:List AV}(hl:l.length=m.length)(h:∀ (i:Nat) (a b:AV),l[i]?=some a->m[i]?=some b->eqA a b):eqL l m:=by
 induction l generalizing m with
 | nil=>cases m with
  | nil=>trivial
  | cons b m=>simp at hl
 | cons a l ih=>
  cases m with
  | nil=>simp at hl
  | cons b m=>
   have h0:=h 0 a b (by simp) (by simp);have hr:=ih (m:=m) (by simpa using hl) (λi x y hx hy=>h (i+1) x y (by simpa using hx) (by simpa using hy));unfold eqL;split
   ·rename_i h1 h2; cases h1
   ·rename_i h1 h2; cases h1; cases h2; exact hr
   ·rename_i h1 h2; cases h1; cases h2; exact⟨h0,hr⟩
   ·rename_i h1 h2 h3; exact absurd rfl (h3 _ _ _ _ rfl)
theorem JD:∀ {l m:KV} (t:Nat),eqKV l m->eqA (look l t) (look m t)
 | [],[],t,_=>UK
 | (i,a)::l,(j,b)::m,t,h=>by
  obtain⟨rfl,h1,h2⟩:=h;simp only [look];split
  ·exact h1
  ·exact JD t h2
 | [],_::_,_,h=>h.elim
 | _::_,[],_,h=>h.elim
def zef(n:Nat)(l m:KV)(h h':Heap):Bool:=(pk n l).all qn&&(pk n m).all (lowB h'.length)&&decide (h'.length<=h.length)&&h'.all (Wg h'.length)
def zei(n:Nat)(l m:KV)(h h':Heap):Bool:=l.all (λp=>qn p.2)&&m.all (λp=>lowB h'.length p.2)&&decide (h'.length<=h.length)&&h'.all (Wg h'.length)
theorem K1{f:AV->Bool}(hu:f .undef=true):∀ {l:KV} (t:Nat),(l.all λp=>f p.2)=true->f (look l t)=true
 | [],t,_=>hu
 | (i,a)::l,t,h=>by
  rw [List.all_cons,bA] at h;simp only [look];split
  ·exact h.1
  ·exact K1 hu t h.2
theorem zex{f:AV->Bool}(hu:f .undef=true){l:KV}{n:Nat}(h:(l.all λp=>f p.2)=true):(pk n l).all f=true:=by
 unfold pk;rw [List.all_map,bG];exactλt _=>K1 hu t h
theorem zhu{n:Nat}{l m:KV}{h h':Heap}(k:zei n l m h h'=true):zef n l m h h'=true:=by
 unfold zei at k;unfold zef;simp only [bA] at k ⊢;exact⟨⟨⟨zex rfl k.1.1.1,zex rfl k.1.1.2⟩,k.1.2⟩,k.2⟩
def LeK(pin n:Nat)(l:KV)(h:Heap)(m:KV)(h':Heap):Prop:=eqKV l m/\eqH h h'/\zei n l m h h'=true/\pin<=h'.length
theorem LeK.le{pin n:Nat}{l m:KV}{h h':Heap}(hle:LeK pin n l h m h'):Le pin (mk n l h) (mk n m h'):=by
 obtain⟨h1,h2,h3,h4⟩:=hle;refine⟨?_,h2,zhu h3,h4⟩;refine zj9 (by simp [mk,pk]) λi a b ha hb=> ?_
 simp only [mk,pk,aN] at ha hb;cases hi:(List.range n)[i]? with
 | none=>simp [hi] at ha
 | some t=>
  simp only [hi,Option.map_some,aE] at ha hb;subst ha; subst hb;exact JD t h1
theorem Ko{M:Option Nat}{H H':Nat->Act->World->Prop}{B:Exit->Act->World->Prop}{k:List Item}{e:Exit}{a:Act}{w:World}(hh:∀ d a w,H' d a w->H d a w)(h:wpK M P H' B k e a w):wpK M P H B k e a w:=
 js (λd a w _ h=>hh d a w h) h
theorem zb.loop{M:Option Nat}{ι:Type}{Hs:Nat->KV->Heap->Prop}{R:List AV->Heap->Prop}{k:List Item}{c:Code}{kv:KV}{h:Heap}(S:ι->KV)(H:ι->Heap)(μ:ι->Nat)(x0:ι)(dk:Nat)(hle:LeK pin fn.ntmps kv h (S x0) (H x0))
  (round:∀ x,zS Xp M P fn O pin w0 I0 (λd kv h=>if d=dk then ∃ x',μ x'<μ x/\LeK pin fn.ntmps kv h (S x') (H x') else Hs d kv h) R (.code c::.inLoop::k) (mk fn.ntmps (S x) (H x)))
  (hd:j7 k=dk):zS Xp M P fn O pin w0 I0 Hs R (.code (.loop c)::k) (mk fn.ntmps kv h):=by
 subst hd;refine Safe.loop (λx=>mk fn.ntmps (S x) (H x)) μ x0 hle.le λx=> ?_
 intro w σ a hm;have:=round x w σ a hm;refine Ko ?_ this;intro d a w hh;obtain⟨st,σ,⟨kv,h,h1,rfl⟩,h2⟩:=hh;refine⟨_,σ,?_,h2⟩;split at h1
 ·rename_i hd;rw [aP hd];obtain⟨x',h3,h4⟩:=h1;exact⟨x',h3,h4.le⟩
 ·rename_i hd;rw [aO hd];exact⟨kv,h,h1,rfl⟩
theorem zku{g:Nat}{c:Code}{ctr:Ctr}(hf:P.funcs[g]?=some fn)(hb:fn.body=some c) (hn:(fn.name == "runtime.NumGoroutine")=false)
  {args:List AV} {hc:Heap} {Q:AV×Heap->Prop} (hfr:ctr.fresh=true->hc=[]) (H:∀ (O:Nat->Prop) (w0:World) (I0:List SE),I0.length=hc.length ->
   zjc Xp P fn O (ZO ctr hc) w0 I0 (λ_ _ _=>False) (RetR ctr hc.length Q) [.code c] (vX fn args hc)):uj Xp P g ctr args hc Q:=by
 refine zi5 hf hb hn hfr λO w0 I0 hl=> ?_
 intro w σ a hm;refine Ko ?_ (H O w0 I0 hl w σ a hm);rintro d a w ⟨st,σ,⟨kv,h,h1,_⟩,_⟩;exact h1.elim
theorem fn_k{g:Nat}{c:Code}{ctr:Ctr}(hf:P.funcs[g]?=some fn)(hb:fn.body=some c) (hn:(fn.name == "runtime.NumGoroutine")=false)
  {args:List AV} {hc:Heap} {Q:AV×Heap->Prop} (hfr:ctr.fresh=true->hc=[]) (H:∀ (O:Nat->Prop) (w0:World) (I0:List SE),I0.length=hc.length ->
   zb P fn O (ZO ctr hc) w0 I0 (λ_ _ _=>False) (RetR ctr hc.length Q) [.code c] (vX fn args hc)):jy P g ctr args hc Q:=
 (zku hf hb hn hfr H).plain
theorem ju{a:AV}(h:qk a=true):eqA0 a a:=by cases a<;>simp [qk] at h<;>simp [eqA0]
theorem JT{a:AV}(h:yV a=true):eqA2 a a:=by
 have hL:∀ l:List AV,l.all qk=true->eqL0 l l:=by
  intro l
  induction l with
  | nil=>exactλ_=>trivial
  | cons a l ih=>intro h; simp only [List.all_cons,bA] at h; exact⟨ju h.1,ih h.2⟩
 cases a with
 | agg l=>exact hL l h
 | tup l=>
  have:∀ l:List AV,l.all qk=true->eqL1 l l:=by
   intro l
   induction l with
   | nil=>exactλ_=>trivial
   | cons a l ih=>
    intro h; simp only [List.all_cons,bA] at h;refine⟨?_,ih h.2⟩;have:=ju h.1;cases a<;>first | exact this | (simp [qk] at h; done)
  exact this l h
 | fn g p q=>exact ju (a:=.fn g p q) h
 | bool b=>exact ju (a:=.bool b) h
 | int k n=>exact ju (a:=.int k n) h
 | str b=>exact ju (a:=.str b) h
 | nils=>exact ju (a:=.nils) h
 | nilp=>exact ju (a:=.nilp) h
 | nilf=>exact ju (a:=.nilf) h
 | _=>simp [yV,qk] at h
theorem RetR.scal{ctr:Ctr}{Q:AV×Heap->Prop}{rs:List AV}{h:Heap}{r:AV}(hq:Q (r,[]))(hs:yV r=true)(hr:resV rs=r):RetR ctr 0 Q rs h:=by
 subst hr
 have e0:∀ a,qk a=true->exp0 h [] a=a/\new0 h [] a:=by
  intro a ha;cases a with
  | fn g p q=>cases p<;>cases q<;>simp [qk] at ha; exact⟨rfl,rfl⟩
  | _=>first | exact⟨rfl,rfl⟩ | simp [qk] at ha
 have eL:∀ l:List AV,l.all qk=true->l.map (exp0 h [])=l/\∀ a∈l,new0 h [] a:=by
  intro l hl;rw [bG] at hl;refine⟨?_,λa ha=>(e0 a (hl a ha)).2⟩
  conv=>rhs; rw [<- List.map_id l]
  exact List.map_congr_left λa ha=>(e0 a (hl a ha)).1
 have e1:exp2 h [] (resV rs)=resV rs/\new2 h [] (resV rs):=by
  generalize resV rs=a at hs;cases a with
  | agg l=>simp only [yV] at hs; simp only [exp2,exp1,new2,new1,(eL l hs).1]; exact⟨trivial,(eL l hs).2⟩
  | tup l=>
   simp only [yV] at hs;have hall:=bG.1 hs
   have h1:∀ a∈l,exp1 h [] a=a/\new1 h [] a:=by
    intro a ha;have hsa:=hall a ha;obtain⟨h2,h3⟩:=e0 a hsa;cases a with
    | agg _=>simp [qk] at hsa
    | tup _=>simp [qk] at hsa
    | fn g p q=>cases p<;>cases q<;>simp [qk] at hsa; exact⟨rfl,rfl⟩
    | _=>exact⟨h2,h3⟩
   refine⟨?_,λa ha=>(h1 a ha).2⟩;simp only [exp2];congr 1
   conv=>rhs; rw [<- List.map_id l]
   exact List.map_congr_left λa ha=>(h1 a ha).1
  | fn g p q=>cases p<;>cases q<;>simp [yV,qk] at hs; exact⟨rfl,rfl⟩
  | bool b=>exact e0 (.bool b) rfl
  | int k n=>exact e0 (.int k n) rfl
  | str b=>exact e0 (.str b) rfl
  | nils=>exact e0 .nils rfl
  | nilp=>exact e0 .nilp rfl
  | nilf=>exact e0 .nilf rfl
  | _=>simp [yV,qk] at hs
 exact⟨[],rfl,by simp,by simp,λ_=>⟨e1.2,by simp⟩,_,[],by rw [e1.1]; exact LeA.refl _,.inl (by simp [eqH]),rfl,hq⟩
def ctrT{X R:Type}(fresh wS:Bool)(inp:X->List AV)(hin:X->Heap)(pre:X->Prop)(post:X->R->Prop)(out:X->R->AV×Heap):Ctr where
 fresh:=fresh
 wS:=wS
 spec args hc:=.ex (λx=>eqL args (inp x)/\eqH hc (hin x)/\hc.length=(hin x).length/\pre x) λx=>.all (post x) λr=>.leaf (out x r)
def ctrM{X R:Type}(pins:Nat)(inp:X->List AV)(hin:X->Heap)(pre:X->Prop)(post:X->R->Prop)(out:X->R->AV×Heap):Ctr where
 fresh:=false
 wS:=true
 pins:=pins
 spec args hc:=.ex (λx=>eqL args (inp x)/\eqH hc (hin x)/\hc.length=(hin x).length/\pre x) λx=>.all (post x) λr=>.leaf (out x r)
def ctrP{X R:Type}(fresh:Bool)(inp:X->List AV)(pre:X->Prop)(post:X->R->Prop)(out:X->R->AV×Heap):Ctr where
 fresh:=fresh
 spec args hc:=match hc with
  | []=>.ex (λx=>eqL args (inp x)/\pre x) λx=>.all (post x) λr=>.leaf (out x r)
  | _=>.fail
theorem jy.le{ctr:Ctr}{g:Nat}{args args':List AV}{hc:Heap}{Q:AV×Heap->Prop}(h:eqL args args')(k:jy P g ctr args' hc Q):jy P g ctr args hc Q:=
 λO w σ vals hg hh hr=>k O w σ vals hg hh ((ke h).rep hr)
theorem jy.leH{ctr:Ctr}{g:Nat}{args:List AV}{hc hc':Heap}{Q:AV×Heap->Prop}(h:eqH hc hc')(hl:hc.length=hc'.length)(k:jy P g ctr args hc' Q):jy P g ctr args hc Q:=by
 intro O w σ vals hg hh hr
 have hh':HRep (Own O σ) w σ hc':=by
  refine⟨hl▸hh.len,hh.inj,hh.lt,λi e b he hb=> ?_⟩;have hi:i<hc.length:=by rw [hl]; exact(aG.1 hb).1
  exact um (Zi h (aF hi) hb) (hh.blk i e _ he (aF hi))
 have:=k O w σ vals hg hh' hr;rw [hl];exact this
theorem zD{X R:Type}{fresh wS:Bool}{inp:X->List AV}{hin:X->Heap}{pre:X->Prop}{post:X->R->Prop}{out:X->R->AV×Heap}{g:Nat}{c:Code}(hf:P.funcs[g]?=some fn)(hb:fn.body=some c) (hn:(fn.name == "runtime.NumGoroutine")=false)
  (hfr:fresh=true->∀ x,hin x=[])
  (H:∀ x,pre x->∀ (O:Nat->Prop) (w0:World) (I0:List SE) (Q:AV×Heap->Prop),I0.length=(hin x).length->(∀ r,post x r->Q (out x r)) ->
   zb P fn O (bif wS then 0 else(hin x).length) w0 I0 (λ_ _ _=>False) (RetR (ctrT fresh wS inp hin pre post out) (hin x).length Q) [.code c] (vX fn (inp x) (hin x))):zc P g (ctrT fresh wS inp hin pre post out):=by
 intro args hc Q hq _;obtain⟨x,⟨h1,h2,h3,h4⟩,h5,h6⟩:=hq;refine jy.le h1 (jy.leH h2 h3 (fn_k hf hb hn (λh=>hfr h x) λO w0 I0 hl=> ?_));exact H x h4 O w0 I0 Q hl h6
theorem Wt{X R:Type}{pins:Nat}{inp:X->List AV}{hin:X->Heap}{pre:X->Prop}{post:X->R->Prop}{out:X->R->AV×Heap}{g:Nat}{c:Code}(hf:P.funcs[g]?=some fn)(hb:fn.body=some c) (hn:(fn.name == "runtime.NumGoroutine")=false)
  (H:∀ x,pre x->∀ (O:Nat->Prop) (w0:World) (I0:List SE) (Q:AV×Heap->Prop),I0.length=(hin x).length->(∀ r,post x r->Q (out x r)) ->
   zb P fn O pins w0 I0 (λ_ _ _=>False) (RetR (ctrM pins inp hin pre post out) (hin x).length Q) [.code c] (vX fn (inp x) (hin x))):zc P g (ctrM pins inp hin pre post out):=by
 intro args hc Q hq _;obtain⟨x,⟨h1,h2,h3,h4⟩,h5,h6⟩:=hq;refine jy.le h1 (jy.leH h2 h3 (fn_k hf hb hn (λh=>by cases h) λO w0 I0 hl=> ?_));exact H x h4 O w0 I0 Q hl h6
theorem zh{X R:Type}{fresh:Bool}{inp:X->List AV}{pre:X->Prop}{post:X->R->Prop}{out:X->R->AV×Heap}{g:Nat}{c:Code}(hf:P.funcs[g]?=some fn)(hb:fn.body=some c) (hn:(fn.name == "runtime.NumGoroutine")=false)
  (H:∀ x,pre x->∀ (O:Nat->Prop) (w0:World) (Q:AV×Heap->Prop),(∀ r,post x r->Q (out x r)) ->
   zb P fn O 0 w0 [] (λ_ _ _=>False) (RetR (ctrP fresh inp pre post out) 0 Q) [.code c] (entry fn (inp x))):zc P g (ctrP fresh inp pre post out):=by
 intro args hc Q hq _;simp only [ctrP] at hq;split at hq
 ·obtain⟨x,⟨h1,h4⟩,h5,h6⟩:=hq;refine jy.le h1 (fn_k hf hb hn (λh=>rfl) λO w0 I0 hl=> ?_);have h0:I0=[]:=aU.1 (by simpa using hl);subst h0;exact H x h4 O w0 Q h6
 ·exact hq.elim
theorem zh'(fn:Func){X R:Type}{fresh:Bool}{inp:X->List AV}{pre:X->Prop}{post:X->R->Prop}{out:X->R->AV×Heap}{g:Nat} (H:∀ x,pre x->∀ (O:Nat->Prop) (w0:World) (Q:AV×Heap->Prop),(∀ r,post x r->Q (out x r)) ->
   zb P fn O 0 w0 [] (λ_ _ _=>False) (RetR (ctrP fresh inp pre post out) 0 Q) [.code (fn.body.getD .skip)] (entry fn (inp x))) (hf:P.funcs[g]?=some fn:=by exact rfl)(hb:fn.body=some (fn.body.getD .skip):=by exact rfl)(hn:(fn.name == "runtime.NumGoroutine")=false:=by exact rfl):zc P g (ctrP fresh inp pre post out):=zh hf hb hn H
theorem RetR.out0{ctr:Ctr}{Q:AV×Heap->Prop}{rs:List AV}{h:Heap}{r:AV}(hq:Q (r,[]))(hn:ctr.fresh=true->new2 h [] (resV rs))(he:eqA2 (exp2 h [] (resV rs)) r):RetR ctr 0 Q rs h:=
 ⟨[],rfl,by simp,by simp,λhf=>⟨hn hf,by simp⟩,r,[],qw he,.inl (by simp [expH,eqH]),rfl,hq⟩
theorem RetR.le0{ctr:Ctr}{Q:AV×Heap->Prop}{rs:List AV}{h:Heap}{r:AV}(hq:Q (r,[]))(hn:ctr.fresh=true->new2 h [] (resV rs))(he:LeA (exp2 h [] (resV rs)) r):RetR ctr 0 Q rs h:=
 ⟨[],rfl,by simp,by simp,λhf=>⟨hn hf,by simp⟩,r,[],he,.inl (by simp [expH,eqH]),rfl,hq⟩
theorem RetR.out1{ctr:Ctr}{Q:AV×Heap->Prop}{rs:List AV}{h:Heap}{r:AV}{b:Blk}(i:Nat)(hi:i<h.length)(hq:Q (r,[b]))(hn:ctr.fresh=true->new2 h [i] (resV rs)/\newB (h.getD i .dead))
  (he:eqA2 (exp2 h [i] (resV rs)) r) (hb:eqB (expB h [i] (h.getD i .dead)) b):RetR ctr 0 Q rs h:=
 ⟨[i],rfl,by simpa using hi,by simp,λhf=>⟨(hn hf).1,by simpa using (hn hf).2⟩,r,[b],qw he,.inl (by simpa [expH,eqH] using hb),rfl,hq⟩
theorem zp{P:Program}(g:Nat)(c:Ctr)(h:(none:Option Ctr)=some c):zc P g c:=by cases h
theorem okIf{P:Program}{F:Nat->Option Ctr}{n:Nat}{C:Ctr}(h:zc P n C)(r:∀ g c,F g=some c->zc P g c)(g:Nat)(c:Ctr)(e:(if g=n then some C else F g)=some c):zc P g c:=by
 by_cases hg:g=n
 ·subst hg;rw [aP rfl] at e;cases e;exact h
 ·rw [aO hg] at e;exact r g c e
structure Tb(P:Program)where
 g:Nat->Option Ctr
 h:∀ f c,g f=some c->zc P f c
def tb{P:Program}{n:Nat}{C:Ctr}(h:zc P n C)(r:Tb P):Tb P:=⟨λf=>if f=n then some C else r.g f,okIf h r.h⟩
def tz{P:Program}:Tb P:=⟨λ_=>none,zp⟩
end
end Go.Sx
end
section
namespace Go.Nov
abbrev B:Nat:=1000000000
def val:List Nat->Nat
 | []=>0
 | d::l=>d+B*val l
def dig(l:List Nat):Prop:=∀ d∈l,d<B
def canon(x:Nat):List Nat:=if h:x=0 then [] else x%B::canon (x/B)
termination_by x
decreasing_by exact Nat.div_lt_self (bV h) (by decide)
theorem zH:canon 0=[]:=by rw [canon]; simp
theorem qQ{x:Nat}(h:x≠0):canon x=x%B::canon (x/B):=by rw [canon]; simp [h]
theorem zm(x:Nat):val (canon x)=x:=by
 induction x using Nat.strongRecOn with
 | _ x ih=>
  by_cases h:x=0
  ·subst h; simp [zH,val]
  ·rw [qQ h,val,ih _ (Nat.div_lt_self (bV h) (by decide))];exact Nat.mod_add_div x B
theorem zj(x:Nat):dig (canon x):=by
 induction x using Nat.strongRecOn with
 | _ x ih=>
  by_cases h:x=0
  ·subst h; simp [zH,dig]
  ·rw [qQ h];intro d hd;rcases aM.1 hd with rfl | hd
   ·exact Nat.mod_lt _ (by decide)
   ·exact ih _ (Nat.div_lt_self (bV h) (by decide)) d hd
theorem qC{d:Nat}{l:List Nat} : dig (d::l)↔d<B/\dig l:=by simp [dig]
theorem ji{l m:List Nat} : dig (l++m)↔dig l/\dig m:=by
 simp only [dig,bY];exact⟨λh=>⟨λd hd=>h d (.inl hd),λd hd=>h d (.inr hd)⟩,λh d hd=>hd.elim (h.1 d) (h.2 d)⟩
theorem zG(l m:List Nat):val (l++m)=val l+B^l.length*val m:=by
 induction l with
 | nil=>simp [val]
 | cons d l ih=>simp only [List.cons_append,val,ih,aL,Nat.pow_succ]; rw [bN,<- bI,bJ B (B^l.length),Nat.add_assoc]
theorem qu{l:List Nat}(h:dig l):val l<B^l.length:=by
 induction l with
 | nil=>simp [val]
 | cons d l ih=>
  obtain⟨h1,h2⟩:=qC.1 h;have:=ih h2;simp only [val,aL,Nat.pow_succ];have h3:B*(val l+1)<=B*B^l.length:=aS _ this;rw [bN] at h3;rw [bJ (B^l.length)];omega
def tlen:List Nat->Nat
 | []=>0
 | d::l=>if d=0/\tlen l=0 then 0 else tlen l+1
def qF(l:List Nat):List Nat:=l.take (tlen l)
theorem qp:∀ l:List Nat,tlen l<=l.length
 | []=>aJ _
 | d::l=>by
  have:=qp l;simp only [tlen,aL];split<;>omega
theorem jE:∀ (l:List Nat) (j:Nat),tlen l<=j->l.getD j 0=0
 | [],j,_=>by simp
 | d::l,j,h=>by
  simp only [tlen] at h;split at h
  ·rename_i hd;cases j with
   | zero=>simp [hd.1]
   | succ j=>simpa using jE l j (by omega)
  ·cases j with
   | zero=>omega
   | succ j=>simpa using jE l j (by omega)
theorem q9:∀ l:List Nat,0<tlen l->l.getD (tlen l - 1) 0≠0
 | [],h=>by simp [tlen] at h
 | d::l,h=>by
  simp only [tlen] at h ⊢;split at h
  ·omega
  ·rename_i hd;rw [aO hd];rcases bC (tlen l) with h0 | h0
   ·rw [h0];simp only [h0,and_true] at hd;simpa using hd
   ·have:=q9 l h0;rw [show tlen l+1 - 1=(tlen l - 1)+1 by omega];simpa using this
theorem val_zero{l:List Nat}(h:tlen l=0):val l=0:=by
 induction l with
 | nil=>rfl
 | cons d l ih=>
  simp only [tlen] at h;split at h
  ·rename_i hd; simp [val,hd.1,ih hd.2]
  ·omega
theorem ZJ{l:List Nat}(h:0<tlen l):0<val l:=by
 induction l with
 | nil=>simp [tlen] at h
 | cons d l ih=>
  simp only [tlen] at h;split at h
  ·omega
  ·rename_i hd;simp only [val];rcases bC (tlen l) with h0 | h0
   ·simp only [h0,and_true] at hd; omega
   ·have:=ih h0;have:0<B*val l:=Nat.mul_pos (by decide) this;omega
theorem zO{l:List Nat}(h:dig l):qF l=canon (val l):=by
 induction l with
 | nil=>simp [qF,tlen,val,zH]
 | cons d l ih=>
  obtain⟨h1,h2⟩:=qC.1 h;have ih:=ih h2;simp only [qF] at ih ⊢;by_cases hz:d=0/\tlen l=0
  ·have:=val_zero hz.2;simp [tlen,hz,val,this,zH]
  ·have hne:d+B*val l≠0:=by
    rcases bC (tlen l) with h0 | h0
    ·simp only [h0,and_true] at hz; omega
    ·have:=Nat.mul_pos (show 0<B by decide) (ZJ h0);omega
   simp only [val,tlen,aO hz,List.take_succ_cons];rw [qQ hne,ih];have e1:(d+B*val l)%B=d:=by rw [Nat.add_mul_mod_self_left,Nat.mod_eq_of_lt h1]
   have e2:(d+B*val l)/B=val l:=by rw [Nat.add_mul_div_left _ _ (by decide),Nat.div_eq_of_lt h1,Nat.zero_add]
   rw [e1,e2]
theorem jd(x:Nat):tlen (canon x)=(canon x).length:=by
 have:=zO (zj x);rw [zm] at this;have h:=congrArg List.length this;simp only [qF,aH] at h;have:=qp (canon x);omega
theorem JF{l:List Nat}(h:dig l)(ht:tlen l=l.length):canon (val l)=l:=by
 rw [<- zO h,qF,ht,bD]
theorem ZF:∀ {l m:List Nat},dig l->dig m->l.length=m.length->val l=val m->l=m
 | [],[],_,_,_,_=>rfl
 | [],_::_,_,_,h,_=>by simp at h
 | _::_,[],_,_,h,_=>by simp at h
 | d::l,e::m,h1,h2,h3,h4=>by
  obtain⟨a1,a2⟩:=qC.1 h1;obtain⟨b1,b2⟩:=qC.1 h2;simp only [val] at h4
  have e1:d=e:=by
   have:=congrArg (· % B) h4;simpa only [Nat.add_mul_mod_self_left,Nat.mod_eq_of_lt a1,Nat.mod_eq_of_lt b1] using this
  subst e1;have e2:val l=val m:=Nat.eq_of_mul_eq_mul_left (show 0<B by decide) (by omega);rw [ZF a2 b2 (by simpa using h3) e2]
theorem uF{i:Nat} : ∀ {l m:List Nat},dig l->l.length=m.length->(∀ j,i<j->l.getD j 0=m.getD j 0)->l.getD i 0<m.getD i 0->val l<val m:=by
 induction i with
 | zero=>
  intro l m h1 h3 h4 h5;cases l with
  | nil=>cases m with
   | nil=>simp at h5
   | cons _ _=>simp at h3
  | cons d l=>cases m with
   | nil=>simp at h3
   | cons e m=>
    simp only [List.getD_cons_zero] at h5
    have:l=m:=by
     apply List.ext_getElem (by simpa using h3);intro j hj hj';have:=h4 (j+1) (by omega);simpa [hj,hj'] using this
    subst this;simp only [val]; omega
 | succ i ih=>
  intro l m h1 h3 h4 h5;cases l with
  | nil=>cases m with
   | nil=>simp at h5
   | cons _ _=>simp at h3
  | cons d l=>cases m with
   | nil=>simp at h3
   | cons e m=>
    simp only [List.getD_cons_succ] at h5;obtain⟨a1,a2⟩:=qC.1 h1;have:=ih a2 (by simpa using h3) (λj hj=>by simpa using h4 (j+1) (by omega)) h5;simp only [val];have h6:B*(val l+1)<=B*val m:=aS _ this;rw [bN] at h6;omega
theorem zZ{x y:Nat}(h:(canon x).length<(canon y).length):x<y:=by
 have h1:=qu (zj x);rw [zm] at h1
 have h2:B^((canon y).length - 1)<=y:=by
  have hl:=jd y;have hpos:0<tlen (canon y):=by omega
  have:=q9 (canon y) hpos;rw [hl] at this;generalize hc:canon y=l at *
  have hy:val l=y:=by rw [<- hc,zm]
  have hsplit:l=l.take (l.length - 1)++[l.getD (l.length - 1) 0]:=by
   have hlt:l.length - 1<l.length:=by omega
   rw [show l.getD (l.length - 1) 0=l[l.length - 1] by simp [List.getD,hlt]];have:=List.take_append_getElem hlt;rw [this,show l.length - 1+1=l.length by omega,bD]
  rw [<- hy]
  conv=>rhs; rw [hsplit]
  rw [zG];simp only [val,aH,Nat.mul_zero,Nat.add_zero];rw [show min (l.length - 1) l.length=l.length - 1 by omega];have:B^(l.length - 1)*1<=B^(l.length - 1)*l.getD (l.length - 1) 0:=aS _ (bV this);omega
 have h3:B^(canon x).length<=B^((canon y).length - 1):=bW (by decide) (by omega);omega
theorem zq:∀ (l:List Nat) (i:Nat),val (l.take (i+1))=val (l.take i)+B^i*l.getD i 0
 | [],i=>by simp [val]
 | d::l,0=>by simp [val]
 | d::l,i+1=>by
  have:=zq l i;simp only [List.take_succ_cons,val,this,List.getD_cons_succ,Nat.pow_succ];rw [bN,Nat.add_assoc,<- bI,bJ B (B^i)]
theorem zL{l:List Nat}(h:dig l)(i:Nat):l.getD i 0<B:=by
 by_cases hi:i<l.length
 ·have:=h l[i] (bK hi);simpa [List.getD,hi] using this
 ·simp [List.getD,aZ (Nat.le_of_not_lt hi)]
theorem uc:∀ (l:List Nat) (p d:Nat),p<l.length->val (l.set p d)+B^p*l.getD p 0=val l+B^p*d
 | [],p,d,h=>by simp at h
 | e::l,0,d,_=>by simp only [List.set_cons_zero,val,List.getD_cons_zero,Nat.pow_zero]; omega
 | e::l,p+1,d,h=>by
  have:=uc l p d (by simpa using h);have h2:=congrArg (B * ·) this;simp only [bN,<- bI] at h2;simp only [List.set_cons_succ,val,List.getD_cons_succ,Nat.pow_succ,bJ (B^p) B];omega
theorem Zn{l:List Nat}(h:dig l)(p:Nat){d:Nat}(hd:d<B):dig (l.set p d):=by
 intro e he;rcases List.mem_or_eq_of_mem_set he with he | rfl
 ·exact h e he
 ·exact hd
theorem j3{l:List Nat}(h:dig l)(n:Nat):dig (l.take n):=λe he=>h e (List.mem_of_mem_take he)
theorem ZH{l:List Nat}(h:dig l)(n:Nat):dig (l.drop n):=λe he=>h e (List.mem_of_mem_drop he)
theorem ZU{l:List Nat}{n:Nat}(hv:val l<B^n){p:Nat}(hp:n<=p):l.getD p 0=0:=by
 rcases bC (l.getD p 0) with h | h
 ·exact h
 exfalso;have h1:=zq l p;have h2:val l=val (l.take (p+1))+B^(l.take (p+1)).length*val (l.drop (p+1)):=by rw [<- zG,bU]
 have h3:B^p*1<=B^p*l.getD p 0:=aS _ h;have h4:B^n<=B^p:=bW (by decide) hp;omega
def padN(n x:Nat):List Nat:=canon x++List.replicate (n - (canon x).length) 0
theorem j4(n:Nat):val (List.replicate n 0)=0:=by
 induction n with
 | zero=>rfl
 | succ n ih=>simp [List.replicate_succ,val,ih]
theorem qT(n:Nat):dig (List.replicate n 0):=by
 intro d hd;rw [List.mem_replicate] at hd;rw [hd.2]; decide
theorem X8{l:List Nat}(h:dig l):l=padN l.length (val l):=by
 have ht:=zO h;have hl:=congrArg List.length ht;have:=qp l;simp only [qF,aH] at hl;refine ZF h (ji.2 ⟨zj _,qT _⟩) ?_ ?_
 ·simp only [padN,bO,List.length_replicate]; omega
 ·rw [padN,zG,zm,j4]; omega
theorem VH{l:List Nat}(h:dig l):tlen l=(canon (val l)).length:=by
 have hl:=congrArg List.length (zO h);have:=qp l;simp only [qF,aH] at hl;omega
end Go.Nov
end
section
set_option maxRecDepth 20000
namespace Go.Nov
def qW(v y z:Nat):Nat->Nat->Nat->Nat
 | 0,q,_=>q
 | n+1,q,r=>if B<=q\/r*B+v<q*z then(if B<=r+y then q - 1 else qW v y z n (q - 1) (r+y)) else q
theorem Kg{v y z top Q:Nat}(hQ:Q<B)(hT:Q*(y*B+z)<=top*B+v):∀ (n q r:Nat),q*y+r=top->Q<=q->Q<=qW v y z n q r
 | 0,q,r,_,h=>h
 | n+1,q,r,hi,h=>by
  simp only [qW];split
  ·rename_i hc
   have h1:Q<=q - 1:=by
    rcases hc with hc | hc
    ·omega
    ·have:Q≠q:=by
      rintro rfl;have e:top*B=Q*y*B+r*B:=by rw [<- hi,bH]
      have e2:Q*(y*B+z)=Q*y*B+Q*z:=by rw [bN,bI]
      omega
     omega
   split
   ·exact h1
   ·rcases bC q with h0 | h0
    ·subst h0;have:Q=0:=by omega
     subst this;exact aI _
    ·refine Kg hQ hT n (q - 1) (r+y) ?_ h1
     have:q*y=(q - 1)*y+y:=by
      conv=>lhs; rw [show q=(q - 1)+1 by omega,bH,Nat.one_mul]
     omega
  ·exact h
theorem VL{v y z top:Nat}(hz:z<B):∀ (n q r:Nat),q*y+r=top->r<B->B<=r+n*y->(q<=B\/(q=B+1/\r+y<B)) ->
  qW v y z n q r<B/\qW v y z n q r*(y*B+z)<=top*B+v
 | 0,q,r,hi,hr,hn,hq=>by omega
 | n+1,q,r,hi,hr,hn,hq=>by
  have hBB:B=1000000000:=rfl;have e:top*B=q*y*B+r*B:=by rw [<- hi,bH]
  simp only [qW];split
  ·rename_i hc
   have h0:0<q:=by
    rcases bC q with h0 | h0
    ·subst h0; simp at hc
    ·exact h0
   have hqy:q*y=(q - 1)*y+y:=by
    conv=>lhs; rw [show q=(q - 1)+1 by omega,bH,Nat.one_mul]
   split
   ·rename_i hb;have hq1:q - 1<B:=by omega
    refine⟨hq1,?_⟩;have e2:(q - 1)*(y*B+z)=(q - 1)*y*B+(q - 1)*z:=by rw [bN,bI]
    have e3:q*y*B=(q - 1)*y*B+y*B:=by rw [hqy,bH]
    have e4:(q - 1)*z<=B*B:=Nat.mul_le_mul (Nat.le_of_lt hq1) (Nat.le_of_lt hz);have e5:B*B<=(r+y)*B:=aT _ hb;rw [bH] at e5;omega
   ·rename_i hb;refine VL hz n (q - 1) (r+y) (by omega) (by omega) ?_ (.inl (by omega));rw [bH] at hn;omega
  ·rename_i hc;have e2:q*(y*B+z)=q*y*B+q*z:=by rw [bN,bI]
   exact⟨by omega,by omega⟩
theorem zl7{W V T D S p:Nat}(hS:0<S)(hV1:D*S<=V)(hV2:V<(D+1)*S)(hW1:T*S<=W)(hD:B<=D)(hp:p<B)(hpT:p*D<=T):p<=W/V+1:=by
 have hBB:B=1000000000:=rfl;have hV0:0<V:=bB (Nat.mul_pos (by omega) hS) hV1;rcases aR (W/V+1) p with h | h
 ·exfalso
  have h1:W<(p - 1)*V:=by
   have:=Nat.lt_mul_div_succ W hV0;have h2:V*(W/V+1)<=V*(p - 1):=aS _ (by omega);rw [bJ (p - 1)];omega
  have h2:p*D*S<=T*S:=aT _ hpT;have h3:(p - 1)*V<=(p - 1)*((D+1)*S):=aS _ (Nat.le_of_lt hV2)
  have h4:p*D*S<(p - 1)*(D+1)*S:=by
   rw [bI (p - 1)]; omega
  have h5:=Nat.lt_of_mul_lt_mul_right h4;have h6:(p - 1)*(D+1)=(p - 1)*D+(p - 1):=by rw [bN,Nat.mul_one]
  have hp1:1<=p:=by
   have:0<=W/V:=aI _;omega
  have h7:p*D=(p - 1)*D+D:=by
   have e:p=(p - 1)+1:=by omega
   conv=>lhs; rw [e,bH,Nat.one_mul]
  omega
 ·exact h
theorem ze0{W V T D S:Nat}(hS:0<S)(hV0:0<V)(hV1:D*S<=V)(hW2:W<(T+1)*S):W/V*D<=T:=by
 have h1:W/V*V<=W:=Nat.div_mul_le_self W V;have h2:W/V*(D*S)<=W/V*V:=aS _ hV1;have h3:W/V*D*S<(T+1)*S:=by rw [bI]; omega
 have:=Nat.lt_of_mul_lt_mul_right h3;omega
theorem zb8{y z:Nat}(hy:0<y):B<=y*B+z:=by
 exact bP (Nat.le_mul_of_pos_left B hy) (Nat.le_add_right _ _)
theorem zkb{X v D S V W:Nat}(hV2:V<(D+1)*S)(hW1:(X*B+v)*S<=W)(hWV:W<V*B):X<=D:=by
 have h2:V*B<(D+1)*S*B:=Nat.mul_lt_mul_of_pos_right hV2 (by decide);rw [bI,bJ S B,<- bI] at h2;have h1:(X*B+v)*S<((D+1)*B)*S:=Nat.lt_of_le_of_lt hW1 (Nat.lt_trans hWV h2);have h3:=Nat.lt_of_mul_lt_mul_right h1;have h4:X*B<(D+1)*B:=Nat.lt_of_le_of_lt (Nat.le_add_right _ _) h3;exact Nat.le_of_lt_succ (Nat.lt_of_mul_lt_mul_right h4)
theorem zkm{Q q r y z top v:Nat}(hQ:Q*(y*B+z)<=top*B+v)(hv:v<B)(hdm:q*y+r=top)(hr:r<y):Q<=q:=by
 have h1:Q*(y*B)<=Q*(y*B+z):=aS _ (Nat.le_add_right _ _)
 have h2:Q*y*B<(top+1)*B:=by
  rw [bI,bH,Nat.one_mul];exact Nat.lt_of_le_of_lt (bP h1 hQ) (Nat.add_lt_add_left hv _)
 have h3:=Nat.lt_of_mul_lt_mul_right h2
 have h4:Q*y<(q+1)*y:=by
  rw [bH,Nat.one_mul];clear h1 h2 hQ;omega
 exact Nat.le_of_lt_succ (Nat.lt_of_mul_lt_mul_right h4)
theorem zbm{q r y z top:Nat}(htop:top<=y*B+z)(hdm:q*y+r=top)(hr:r<y)(hz:z<B)(hy:B<=2*y):q<=B\/(q=B+1/\r+y<B):=by
 rcases aR B q with h | h
 ·right;have h1:(B+1)*y<=q*y:=aT _ h;have e1:(B+1)*y=y*B+y:=by rw [bH,Nat.one_mul,bJ]
  rcases aR (B+1) q with h2 | h2
  ·exfalso;have h3:(B+2)*y<=q*y:=aT _ h2;have e2:(B+2)*y=y*B+2*y:=by rw [bH,bJ B]
   omega
  ·have:q=B+1:=by omega
   subst this;exact⟨rfl,by omega⟩
 ·exact .inl h
theorem VD{W V S t u v y z:Nat}(hS:0<S)(hV1:(y*B+z)*S<=V)(hV2:V<(y*B+z+1)*S)(hW1:((t*B+u)*B+v)*S<=W)(hW2:W<((t*B+u)*B+v+1)*S)
  (hWV:W<V*B) (hz:z<B) (hv:v<B) (hy:B<=2*y) (hyB:y<B) (hy0:0<y) :
  W/V<=qW v y z 2 ((t*B+u)/y) ((t*B+u)%y)/\qW v y z 2 ((t*B+u)/y) ((t*B+u)%y)<=W/V+1/\qW v y z 2 ((t*B+u)/y) ((t*B+u)%y)<B/\t*B+u<=y*B+z:=by
 have hD:B<=y*B+z:=zb8 hy0;have hV0:0<V:=bB (Nat.mul_pos (bB (by decide) hD) hS) hV1;have htop:=zkb hV2 hW1 hWV;have hQB:W/V<B:=Nat.div_lt_of_lt_mul hWV;have hQD:=ze0 (T:=(t*B+u)*B+v) hS hV0 hV1 hW2;have hdm:(t*B+u)/y*y+(t*B+u)%y=t*B+u:=by rw [bJ]; exact Nat.div_add_mod _ y
 have hmod:(t*B+u)%y<y:=Nat.mod_lt _ hy0;have hQq:=zkm hQD hv hdm hmod;have hq:=zbm htop hdm hmod hz hy;have hrB:(t*B+u)%y<B:=Nat.lt_trans hmod hyB;have hle:=VL (v:=v) hz 2 _ _ hdm hrB (bP hy (Nat.le_add_left _ _)) hq;exact⟨Kg hQB hQD 2 _ _ hdm hQq,zl7 hS hV1 hV2 hW1 hD hle.1 hle.2,hle.1,htop⟩
end Go.Nov
end
