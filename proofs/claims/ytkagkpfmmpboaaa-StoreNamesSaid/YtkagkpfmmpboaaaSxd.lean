/- Part 4 of the proof. -/
import Derived.Test.YtkagkpfmmpboaaaSxc
import Derived.MapKept
import Derived.RangeFuncNested
import Derived.RangeFuncLeaves
import Derived.RangeFuncCalls
import Derived.OwnWalkIn
import Derived.TacticsInMore
set_option linter.unusedVariables false
set_option linter.unusedSimpArgs false
set_option linter.unusedSectionVars false
section
namespace Go.Sx
variable [Stat]
section
variable {O own:Nat→Prop} {w:World} {σ:List SE} {P:Program}
def zD:SK→Sc→Value
 | .inl k,.inl n=>.int k n
 | .inr false,.inr s=>.string ⟨s.toArray⟩
 | .inr true,.inl n=>.bool (decide (n=1))
 | _,_=>undef
def z6(ag:Bool)(sh:List SK)(k:List Sc):Value:=bif ag then .agg (List.zipWith zD sh k).toArray else zD (sh.headD (.inr false)) (k.headD (.inl 0))
theorem ZZ{s:SK}{x:Sc}(h:okSc s x){v:Value} : Rep own w (scV s x) σ v↔v=zD s x:=by
 match s,x,h with
 | .inl k,.inl n,_=>simp [scV,zD,Rep]
 | .inr false,.inr s,_=>simp [scV,zD,Rep]
 | .inr true,.inl n,_=>simp [scV,zD,Rep]
theorem kY:∀ {sh:List SK} {k:List Sc} {vs:List Value},qu sh k→(RepL own w (List.zipWith scV sh k) σ vs↔vs=List.zipWith zD sh k)
 | [],[],vs,_=>by simp [RepL]
 | s::sh,x::k,vs,h=>by
  simp only [List.zipWith_cons_cons,RepL]
  constructor
  ·rintro⟨v,r,rfl,h1,h2⟩
   rw [(ZZ h.1).1 h1,(kY h.2).1 h2]
  ·rintro rfl
   exact⟨_,_,rfl,(ZZ h.1).2 rfl,(kY h.2).2 rfl⟩
 | [],_::_,_,h=>h.elim
 | _::_,[],_,h=>h.elim
theorem ky{s:SK}{k:List Sc}(h:qu [s] k):∃ x,k=[x]∧okSc s x:=by
 match k,h with
 | [x],h=>exact⟨x,rfl,h.1⟩
 | [],h=>exact h.elim
 | _::_::_,h=>exact h.2.elim
theorem jQ{ag:Bool}{sh:List SK}{k:List Sc}(h:qu sh k)(h1:ag=false→sh.length=1){v:Value} : Rep own w (keyA ag sh k) σ v↔v=z6 ag sh k:=by
 cases ag with
 | true=>
  simp only [keyA,z6,cond_true,Rep]
  constructor
  ·rintro⟨vs,rfl,hr⟩
   rw [(kY h).1 hr]
  ·rintro rfl
   exact⟨_,rfl,(kY h).2 rfl⟩
 | false=>
  obtain⟨s,rfl⟩:=List.length_eq_one_iff.1 (h1 rfl)
  obtain⟨x,rfl,hx⟩:=ky h
  exact ZZ hx
theorem Zr{s:SK}{x y:Sc}(hx:okSc s x)(hy:okSc s y)(h:zD s x=zD s y):x=y:=by
 match s,x,y,hx,hy with
 | .inl k,.inl n,.inl m,_,_=>simpa [zD] using h
 | .inr false,.inr s,.inr t,_,_=>
  simp only [zD,Value.string.injEq,ByteArray.mk.injEq] at h
  rw [show s=t by simpa using congrArg Array.toList h]
 | .inr true,.inl n,.inl m,hx,hy=>
  have hx:n=0∨n=1:=hx
  have hy:m=0∨m=1:=hy
  simp only [zD,Value.bool.injEq] at h
  have:n=m:=by rcases hx with rfl | rfl<;>rcases hy with rfl | rfl<;>simp at h ⊢
  rw [this]
theorem JU{ag:Bool}{sh:List SK}{k k':List Sc}(h:qu sh k)(h':qu sh k')(h1:ag=false→sh.length=1)(he:z6 ag sh k=z6 ag sh k'):k=k':=by
 cases ag with
 | true=>
  simp only [z6,cond_true,Value.agg.injEq] at he
  have he:List.zipWith zD sh k=List.zipWith zD sh k':=by simpa using congrArg Array.toList he
  clear h1
  induction sh generalizing k k' with
  | nil=>cases k<;>cases k'<;>first | rfl | exact h.elim | exact h'.elim
  | cons s sh ih=>
   match k,k',h,h' with
   | x::k,y::k',h,h'=>
    simp only [List.zipWith_cons_cons,List.cons.injEq] at he
    rw [Zr h.1 h'.1 he.1,ih h.2 h'.2 (by rw [he.2]) he.2]
   | [],_,h,_=>exact h.elim
   | _::_,[],_,h'=>exact h'.elim
 | false=>
  obtain⟨s,rfl⟩:=List.length_eq_one_iff.1 (h1 rfl)
  obtain⟨x,rfl,hx⟩:=ky h
  obtain⟨y,rfl,hy⟩:=ky h'
  rw [Zr hx hy he]
theorem Z3{a:AV}{s:SK}{x:Sc}{v:Value}(h:scX a=some (s,x))(hr:Rep own w a σ v):okSc s x∧v=zD s x:=by
 cases a<;>simp only [scX,Option.some.injEq,Prod.mk.injEq] at h<;>try (cases h; done)
 ·obtain⟨rfl,rfl⟩:=h
  simp only [Rep] at hr
  rename_i b
  refine⟨by cases b<;>simp [okSc],?_⟩
  rw [hr]; cases b<;>simp [zD]
 ·obtain⟨rfl,rfl⟩:=h
  simp only [Rep] at hr
  exact⟨trivial,hr⟩
 ·obtain⟨rfl,rfl⟩:=h
  simp only [Rep] at hr
  exact⟨trivial,hr⟩
theorem yA:∀ {l:List AV} {sh:List SK} {k:List Sc} {vs:List Value},scsX l=some (sh,k)→RepL own w l σ vs→qu sh k∧vs=List.zipWith zD sh k
 | [],sh,k,vs,h,hr=>by
  simp only [scsX,Option.some.injEq,Prod.mk.injEq] at h
  obtain⟨rfl,rfl⟩:=h
  simp only [RepL] at hr
  exact⟨trivial,hr⟩
 | a::l,sh,k,vs,h,hr=>by
  simp only [scsX] at h
  split at h
  ·rename_i s x ss xs h1 h2
   simp only [Option.some.injEq,Prod.mk.injEq] at h
   obtain⟨rfl,rfl⟩:=h
   simp only [RepL] at hr
   obtain⟨v,r,rfl,hv,hr⟩:=hr
   obtain⟨a1,a2⟩:=Z3 h1 hv
   obtain⟨b1,b2⟩:=yA h2 hr
   exact⟨⟨a1,b1⟩,by rw [a2,b2]; rfl⟩
  ·cases h
theorem vJ{a:AV}{ag:Bool}{sh:List SK}{k:List Sc}{v:Value}(h:keyX a=some (ag,sh,k))(hr:Rep own w a σ v):qu sh k∧v=z6 ag sh k:=by
 have one:∀ {a:AV},(match scX a with | some (k,s)=>some (false,[k],[s]) | none=>none)=some (ag,sh,k)→Rep own w a σ v→qu sh k∧v=z6 ag sh k:=by
  intro a h hr
  split at h
  ·rename_i s x h1
   simp only [Option.some.injEq,Prod.mk.injEq] at h
   obtain⟨rfl,rfl,rfl⟩:=h
   obtain⟨a1,a2⟩:=Z3 h1 hr
   exact⟨⟨a1,trivial⟩,a2⟩
  ·cases h
 unfold keyX at h
 split at h
 ·split at h
  ·rename_i h1
   simp only [Option.some.injEq,Prod.mk.injEq] at h
   obtain⟨rfl,rfl,rfl⟩:=h
   simp only [Rep] at hr
   obtain⟨vs,rfl,hr⟩:=hr
   obtain⟨a1,a2⟩:=yA h1 hr
   exact⟨a1,by rw [a2]; rfl⟩
  ·cases h
 ·exact one h hr
theorem Vf{va vb:Array Value}(d:Nat):∀ {fs:List Field} {o:Nat} {sh:List SK} {k k':List Sc},kH P o fs=some sh→qu sh k→qu sh k'→va.toList.drop o=List.zipWith zD sh k→vb.toList.drop o=List.zipWith zD sh k' →
  (Op.eqFields (d+1) va vb fs).run P w = .ok (decide (k=k')) w
 | [],o,sh,k,k',h,hk,hk',ha,hb=>by
  simp only [kH,Option.some.injEq] at h
  subst h
  cases k<;>cases k'<;>first | exact hk.elim | exact hk'.elim | skip
  simp [Op.eqFields]
 | f::fs,o,sh,k,k',h,hk,hk',ha,hb=>by
  simp only [kH] at h
  split at h
  ·rename_i hc
   obtain⟨hn,ho⟩:=hc
   subst ho
   have step:∀ (s:SK) (l:List SK),kH P (f.offset+1) fs=some l→sh=s::l→jf P f.type=some false→(∀ x y:Sc,okSc s x→okSc s y→(Op.equalIn (d+1) f.type (zD s x) (zD s y)).run P w = .ok (decide (x=y)) w)→(Op.eqFields (d+1) va vb (f::fs)).run P w = .ok (decide (k=k')) w:=by
    rintro s l hl rfl hg heq
    match k,k',hk,hk' with
    | x::k,y::k',hk,hk'=>
     simp only [List.zipWith_cons_cons] at ha hb
     have g:∀ {v:Array Value} {u:Value} {r:List Value},v.toList.drop f.offset=u::r→v[f.offset]?=some u∧v.toList.drop (f.offset+1)=r:=by
      intro v u r h
      have h0:(v.toList.drop f.offset)[0]?=some u:=by rw [h]; rfl
      rw [List.getElem?_drop] at h0
      refine⟨by simpa using h0,?_⟩
      rw [← List.drop_drop,h]; rfl
     obtain⟨a1,a2⟩:=g ha
     obtain⟨b1,b2⟩:=g hb
     have ih:=Vf d hl hk.2 hk'.2 a2 b2
     simp only [Op.eqFields,if_pos hn,Sem.run_bind,qQ hg a1,qQ hg b1,Result.andThen_ok,heq x y hk.1 hk'.1]
     by_cases hxy:x=y
     ·subst hxy; simp [ih]
     ·simp [hxy]
    | [],_,hk,_=>exact hk.elim
    | _::_,[],_,hk'=>exact hk'.elim
   split at h
   ·rename_i kd l hg hu hl
    simp only [Option.some.injEq] at h
    refine step _ l hl h.symm hg fun x y hx hy=> ?_
    match x,y,hx,hy with
    | .inl n,.inl m,_,_=>
     simp only [zD,run_equalIn_int _ _ _ _ _ _ _ hu]
     congr 1
     by_cases hnm:n=m<;>simp [hnm]
   ·rename_i l hg hu hl
    simp only [Option.some.injEq] at h
    refine step _ l hl h.symm hg fun x y hx hy=> ?_
    match x,y,hx,hy with
    | .inr s,.inr t,_,_=>
     simp only [zD,run_equalIn_string _ _ _ _ _ hu]
     congr 1
     by_cases hnm:s=t<;>simp [hnm]
   ·rename_i l hg hu hl
    simp only [Option.some.injEq] at h
    refine step _ l hl h.symm hg fun x y hx hy=> ?_
    match x,y,hx,hy with
    | .inl n,.inl m,hx,hy=>
     have hx:n=0∨n=1:=hx
     have hy:m=0∨m=1:=hy
     simp only [zD,run_equalIn_bool hu]
     congr 1
     rcases hx with rfl | rfl<;>rcases hy with rfl | rfl<;>rfl
   ·cases h
  ·cases h
theorem ue(em:Bool)(d:Nat){va:Array Value} : ∀ {fs:List Field} {o:Nat} {sh:List SK} {k:List Sc},kH P o fs=some sh→qu sh k→va.toList.drop o=List.zipWith zD sh k →
  (forIn fs PUnit.unit (fun f (_:PUnit)=>if f.name ≠ "_" then(do
    let x ← part f.type va f.offset
    Instr.checkKey em (d+1) f.type x
    pure (ForInStep.yield PUnit.unit)) else pure (ForInStep.yield PUnit.unit):Field→PUnit→Sem (ForInStep PUnit))).run P w = .ok PUnit.unit w
 | [],o,sh,k,h,hk,ha=>by simp
 | f::fs,o,sh,k,h,hk,ha=>by
  simp only [kH] at h
  split at h
  ·rename_i hc
   obtain⟨hn,ho⟩:=hc
   subst ho
   have step:∀ (s:SK) (l:List SK),kH P (f.offset+1) fs=some l→sh=s::l→jf P f.type=some false→(∀ x:Sc,okSc s x→(Instr.checkKey em (d+1) f.type (zD s x)).run P w = .ok () w)→(forIn (f::fs) PUnit.unit (fun f (_:PUnit)=>if f.name ≠ "_" then(do
    let x ← part f.type va f.offset
    Instr.checkKey em (d+1) f.type x
    pure (ForInStep.yield PUnit.unit)) else pure (ForInStep.yield PUnit.unit):Field→PUnit→Sem (ForInStep PUnit))).run P w = .ok PUnit.unit w:=by
    rintro s l hl rfl hg heq
    match k,hk with
    | x::k,hk=>
     simp only [List.zipWith_cons_cons] at ha
     have h0:(va.toList.drop f.offset)[0]?=some (zD s x):=by rw [ha]; rfl
     rw [List.getElem?_drop] at h0
     have h1:va.toList.drop (f.offset+1)=List.zipWith zD l k:=by rw [← List.drop_drop,ha]; rfl
     have ih:=ue em d hl hk.2 h1
     simp only [List.forIn_cons,Sem.run_bind,if_pos hn,qQ hg (by simpa using h0),Result.andThen_ok,heq x hk.1,Sem.run_pure]
     exact ih
    | [],hk=>exact hk.elim
   split at h
   ·rename_i kd l hg hu hl
    simp only [Option.some.injEq] at h
    refine step _ l hl h.symm hg fun x hx=> ?_
    match x,hx with
    | .inl n,_=>exact Go.MapKept.run_checkKey hu (by simp [zD,Go.MapKept.IsKey]) em d
   ·rename_i l hg hu hl
    simp only [Option.some.injEq] at h
    refine step _ l hl h.symm hg fun x hx=> ?_
    match x,hx with
    | .inr n,_=>exact Go.MapKept.run_checkKey hu (by simp [zD,Go.MapKept.IsKey]) em d
   ·rename_i l hg hu hl
    simp only [Option.some.injEq] at h
    refine step _ l hl h.symm hg fun x hx=> ?_
    match x,hx with
    | .inl n,_=>exact Go.MapKept.run_checkKey hu (by simp [zD,Go.MapKept.IsKey]) em d
   ·cases h
  ·cases h
theorem ZF(d:Nat):∀ {sh:List SK} {k:List Sc},qu sh k→((List.zipWith zD sh k).zip (List.zipWith zD sh k)).all (fun(x,y)=>Instr.sameBits d x y)=true
 | [],[],_=>rfl
 | s::sh,x::k,h=>by
  simp only [List.zipWith_cons_cons,List.zip_cons_cons,List.all_cons,Bool.and_eq_true]
  refine⟨?_,ZF d h.2⟩
  match s,x,h.1 with
  | .inl k,.inl n,_=>simp [zD,Instr.sameBits]
  | .inr false,.inr s,_=>simp [zD,Instr.sameBits,Go.MapKept.bytes_beq]
  | .inr true,.inl n,_=>simp [zD,Instr.sameBits]
 | [],_::_,h=>h.elim
 | _::_,[],h=>h.elim
structure Yb(P:Program)(w:World)(kt:TypeId)(ag:Bool)(sh:List SK):Prop where
 one:ag=false→sh.length=1
 check:∀ (em:Bool) (k:List Sc),qu sh k→(Instr.checkKey em 10000 kt (z6 ag sh k)).run P w = .ok () w
 stays:∀ (k:List Sc),qu sh k→(Instr.keyThatStays (z6 ag sh k) (z6 ag sh k)).run P w = .ok (z6 ag sh k) w
 find:∀ (k:List Sc),qu sh k→∀ (es:List MapEntry) (l:List (List Sc)),es.length=l.length→(∀ (i:Nat) (e:MapEntry) (x:List Sc),es[i]?=some e→l[i]?=some x→qu sh x∧e.key=z6 ag sh x) →
  (k∉l∧(Instr.findKey kt (z6 ag sh k) es).run P w = .ok none w)∨∃ j e,es[j]?=some e∧l[j]?=some k∧(Instr.findKey kt (z6 ag sh k) es).run P w = .ok (some (j,e.val)) w
theorem Jf{kt:TypeId}{ag:Bool}{sh:List SK}(heq:∀ k k':List Sc,qu sh k→qu sh k'→(Op.equal kt (z6 ag sh k) (z6 ag sh k')).run P w = .ok (decide (k=k')) w){k:List Sc}(hk:qu sh k) :
  ∀ (es:List MapEntry) (l:List (List Sc)) (i:Nat),es.length=l.length→(∀ (i:Nat) (e:MapEntry) (x:List Sc),es[i]?=some e→l[i]?=some x→qu sh x∧e.key=z6 ag sh x) →
  (k∉l∧(Instr.findAsking kt (z6 ag sh k) es i).run P w = .ok none w)∨∃ j e,es[j]?=some e∧l[j]?=some k∧(Instr.findAsking kt (z6 ag sh k) es i).run P w = .ok (some (i+j,e.val)) w
 | [],[],i,_,_=>.inl ⟨by simp,by simp [Instr.findAsking]⟩
 | e::es,x::l,i,hl,h=>by
  obtain⟨h1,h2⟩:=h 0 e x rfl rfl
  have hr:=heq k x hk h1
  rw [← h2] at hr
  by_cases hkx:k=x
  ·subst hkx
   right
   exact⟨0,e,rfl,rfl,by simp [Instr.findAsking,hr]⟩
  ·rw [decide_eq_false hkx] at hr
   rcases Jf heq hk es l (i+1) (by simpa using hl) (fun j e x he hx=>h (j+1) e x (by simpa using he) (by simpa using hx)) with ⟨g1,g2⟩ | ⟨j,e',g1,g2,g3⟩
   ·left
    exact⟨by simp [hkx,g1],by simp [Instr.findAsking,hr,g2]⟩
   ·right
    exact⟨j+1,e',by simpa using g1,by simpa using g2,by simp [Instr.findAsking,hr,g3,Nat.add_assoc,Nat.add_comm 1 j]⟩
 | [],_::_,_,hl,_=>by simp at hl
 | _::_,[],_,hl,_=>by simp at hl
theorem xI{kt:TypeId}{s:SK}{d:TypeDesc}(hd:P.underlying kt=some d)(hk:∀ x,okSc s x→Go.MapKept.IsKey d (zD s x)):Yb P w kt false [s]:=by
 have key:∀ k,qu [s] k→Go.MapKept.IsKey d (z6 false [s] k):=by
  intro k h
  obtain⟨x,rfl,hx⟩:=ky h
  exact hk x hx
 refine⟨fun _=>rfl,fun em k h=>Go.MapKept.run_checkKey hd (key k h) em 9999,fun k h=>Go.MapKept.run_keyThatStays (key k h),fun k h es l hl he=> ?_⟩
 have hkeys:∀ x∈es,Go.MapKept.IsKey d x.key:=by
  intro x hx
  obtain⟨i,hi⟩:=List.mem_iff_getElem?.1 hx
  have hil:=(List.getElem?_eq_some_iff.1 hi).1
  obtain⟨h1,h2⟩:=he i x _ hi (List.getElem?_eq_getElem (by omega))
  rw [h2]; exact key _ h1
 rcases Go.MapKept.findNow_spec (key k h) es 0 hkeys with ⟨h1,h2⟩ | ⟨j,e,h1,h2,h3⟩
 ·left
  refine⟨fun hm=> ?_,Go.MapKept.run_findKey hd h1⟩
  obtain⟨i,hi⟩:=List.mem_iff_getElem?.1 hm
  have hil:=(List.getElem?_eq_some_iff.1 hi).1
  have he':=List.getElem?_eq_getElem (l:=es) (i:=i) (by omega)
  exact h2 _ (List.mem_of_getElem? he') (he i _ k he' hi).2
 ·right
  have hjl:=(List.getElem?_eq_some_iff.1 h2).1
  have hx:=List.getElem?_eq_getElem (l:=l) (i:=j) (by omega)
  obtain⟨g1,g2⟩:=he j e _ h2 hx
  refine⟨j,e,h2,?_,by simpa using Go.MapKept.run_findKey hd h1⟩
  rw [hx,JU g1 h (fun _=>rfl) (g2.symm.trans h3)]
theorem Wu{kt:TypeId}{fs:Array Field}{sh:List SK}(hu:P.underlying kt=some (.struct fs))(hs:P.stoodInHeld kt=false)(hf:kH P 0 fs.toList=some sh):Yb P w kt true sh:=by
 have heq:∀ k k':List Sc,qu sh k→qu sh k'→(Op.equal kt (z6 true sh k) (z6 true sh k')).run P w = .ok (decide (k=k')) w:=by
  intro k k' h h'
  have hfs:P.fieldsOf kt=fs:=by simp [Program.fieldsOf,hu]
  show(Op.equalIn 10000 kt (.agg _) (.agg _)).run P w=_
  rw [run_equalIn_struct w 9999 kt _ _ (by rw [hfs]; exact hu) hs,hfs]
  exact Vf 9998 hf h h' (by simp) (by simp)
 refine⟨fun h=>(by cases h),fun em k h=> ?_,fun k h=> ?_,fun k h es l hl he=> ?_⟩
 ·simp only [z6,cond_true]
  rw [show 10000=9998+1+1 from rfl,Instr.checkKey]
  simp only [Sem.run_bind,run_underlying hu,Result.andThen_ok]
  rw [← Array.forIn_toList]
  have:=ue (w:=w) (P:=P) (va:=(List.zipWith zD sh k).toArray) em 9998 hf h (by simp)
  rw [this]
  rfl
 ·have:Instr.sameBits 10000 (z6 true sh k) (z6 true sh k)=true:=by
   simp only [z6,cond_true,Instr.sameBits,Bool.and_eq_true]
   exact⟨by simp,ZF _ h⟩
  simp [Instr.keyThatStays,this]
 ·have hrun:(Instr.findKey kt (z6 true sh k) es).run P w=(Instr.findAsking kt (z6 true sh k) es).run P w:=by
   simp only [Instr.findKey,Sem.run_bind,run_underlying hu,Result.andThen_ok]
   cases es with
   | nil=>simp [Instr.findNow,Instr.findAsking]
   | cons e es=>simp [Instr.findNow,Instr.sameNow]
  rw [hrun]
  rcases Jf heq h es l 0 hl he with ⟨g1,g2⟩ | ⟨j,e,g1,g2,g3⟩
  ·exact .inl ⟨g1,g2⟩
  ·exact .inr ⟨j,e,g1,g2,by simpa using g3⟩
theorem ke{kt:TypeId}{ag:Bool}{sh:List SK}(h:kP P kt=some (ag,sh)):Yb P w kt ag sh:=by
 unfold kP at h
 split at h
 ·rename_i hu
  simp only [Option.some.injEq,Prod.mk.injEq] at h
  obtain⟨rfl,rfl⟩:=h
  refine xI hu fun x hx=> ?_
  match x,hx with
  | .inl n,_=>simp [zD,Go.MapKept.IsKey]
 ·rename_i hu
  simp only [Option.some.injEq,Prod.mk.injEq] at h
  obtain⟨rfl,rfl⟩:=h
  refine xI hu fun x hx=> ?_
  match x,hx with
  | .inr n,_=>simp [zD,Go.MapKept.IsKey]
 ·rename_i hu
  simp only [Option.some.injEq,Prod.mk.injEq] at h
  obtain⟨rfl,rfl⟩:=h
  refine xI hu fun x hx=> ?_
  match x,hx with
  | .inl n,_=>simp [zD,Go.MapKept.IsKey]
 ·rename_i fs hu
  split at h
  ·rename_i hs
   split at h
   ·rename_i l hf
    simp only [Option.some.injEq,Prod.mk.injEq] at h
    obtain⟨rfl,rfl⟩:=h
    exact Wu hu hs hf
   ·cases h
  ·cases h
 ·cases h
theorem qe{ag:Bool}{sh:List SK}{get:List Sc→AV} : ∀ {es:List MapEntry} {l:List (List Sc)},vW own w ag sh get es l↔es.length=l.length∧∀ (i:Nat) (e:MapEntry) (x:List Sc),es[i]?=some e→l[i]?=some x→qu sh x∧Rep own w (keyA ag sh x) [] e.key∧Rep own w (get x) [] e.val
 | [],[]=>by simp [vW]
 | e::es,x::l=>by
  simp only [vW,qe (es:=es) (l:=l),List.length_cons,Nat.add_right_cancel_iff]
  constructor
  ·rintro⟨h1,h2,h3,h4,h5⟩
   refine⟨h4,fun i e' y he hy=> ?_⟩
   cases i with
   | zero=>simp at he hy; subst he; subst hy; exact⟨h1,h2,h3⟩
   | succ i=>exact h5 i e' y (by simpa using he) (by simpa using hy)
  ·rintro⟨h4,h5⟩
   obtain⟨h1,h2,h3⟩:=h5 0 e x rfl rfl
   exact⟨h1,h2,h3,h4,fun i e' y he hy=>h5 (i+1) e' y (by simpa using he) (by simpa using hy)⟩
 | [],_::_=>by simp [vW]
 | _::_,[]=>by simp [vW]
theorem jF.none{es:Array MapEntry}{clock:Nat}{l l':List (List Sc)}{pe:Option (List Sc×Int)}(h:jF es clock l pe):jF es clock l' Option.none:=⟨h.nd,h.lt,fun k st hk=>by cases hk⟩
theorem jF.push{es:Array MapEntry}{clock:Nat}{l:List (List Sc)}{pe:Option (List Sc×Int)}(h:jF es clock l pe)(k v:Value){l':List (List Sc)} : jF (es.push { key:=k,val:=v,born:=clock }) (clock+1) l' Option.none:=by
 refine⟨?_,fun x hx=> ?_,fun k st hk=>by cases hk⟩
 ·simp only [Array.toList_push,List.map_append,List.map_cons,List.map_nil]
  refine List.nodup_append.2 ⟨h.nd,by simp,fun a ha c hc e1=> ?_⟩
  simp only [List.mem_singleton] at hc
  obtain⟨x,hx,rfl⟩:=List.mem_map.1 ha
  have:=h.lt x hx
  omega
 ·simp only [Array.toList_push,List.mem_append,List.mem_singleton] at hx
  rcases hx with hx | rfl
  ·have:=h.lt x hx; omega
  ·simp
theorem Zn{es:Array MapEntry}(j:Nat){f:MapEntry→MapEntry}(hf:∀ e,(f e).born=e.born):(es.modify j f).toList.map (·.born)=es.toList.map (·.born):=by
 apply List.ext_getElem?
 intro i
 simp only [List.getElem?_map,Array.getElem?_toList,Array.getElem?_modify]
 split
 ·cases es[i]? with
  | none=>rfl
  | some e=>simp [hf]
 ·rfl
theorem jF.turn{es:Array MapEntry}{clock:Nat}{l l':List (List Sc)}{pe:Option (List Sc×Int)}(h:jF es clock l pe)(j:Nat){f:MapEntry→MapEntry}(hf:∀ e,(f e).born=e.born):jF (es.modify j f) clock l' Option.none:=by
 refine⟨by rw [Zn j hf]; exact h.nd,fun x hx=> ?_,fun k st hk=>by cases hk⟩
 have:x.born∈(es.modify j f).toList.map (·.born):=List.mem_map.2 ⟨x,hx,rfl⟩
 rw [Zn j hf] at this
 obtain⟨y,hy,e⟩:=List.mem_map.1 this
 rw [← e]; exact h.lt y hy
theorem jF.erase{es es':Array MapEntry}{clock j:Nat}{l l':List (List Sc)}{pe:Option (List Sc×Int)}(h:jF es clock l pe)(he:es'.toList=es.toList.eraseIdx j):jF es' clock l' Option.none:=by
 refine⟨?_,fun x hx=> ?_,fun k st hk=>by cases hk⟩
 ·rw [he]; exact((List.eraseIdx_sublist es.toList j).map _).nodup h.nd
 ·rw [he] at hx; exact h.lt x ((List.eraseIdx_sublist es.toList j).subset hx)
theorem Ja{h:Heap}(hh:HRep own w σ h){t:TypeId}{ok:Bool}{i:Nat}{key:AV}{vx vi:Value}(hx:Rep own w (.omap i) σ vx)(hi2:Rep own w key σ vi){Q:AV→Prop}(hq:(JX P h t ok i key).holds Q) :
  ∃ r v,(Instr.lookup t vx vi ok).run P w = .ok v w∧Q r∧Rep own w r σ v:=by
 unfold JX at hq
 split at hq
 ·rename_i ag sh has get pe ag' sh' k kt et hb hk hu
  split at hq
  ·rename_i ag2 sh2 z hs hz
   split at hq
   ·rename_i hc
    obtain⟨rfl,rfl,rfl,rfl⟩:=hc
    have K:=ke (w:=w) hs
    obtain⟨k1,rfl⟩:=vJ hk hi2
    simp only [Rep] at hx
    obtain⟨e,ad,he,had,rfl⟩:=hx
    have hB:=hh.blk i e _ he hb
    simp only [BRep] at hB
    obtain⟨ad',es,clock,l,had',hes,hone,⟨hnd,hst⟩,hhas,hE⟩:=hB
    rw [had] at had'; cases had'
    obtain⟨hl,hget⟩:=qe.1 hE
    have hzr:(zeroValue et).run P w = .ok z w:=by
     cases hin:P.info? et with
     | none=>simp [hin] at hz
     | some inf=>
      simp only [hin,Option.bind_some] at hz
      simp [zeroValue,run_typeInfo w hin,hz]
    have hrun:∀ r,(Instr.findKey kt (z6 ag2 sh2 k) es.toList).run P w = .ok r w→(Instr.lookup t (.map (some ad.block)) (z6 ag2 sh2 k) ok).run P w=(match r with
      | some (_,v)=>.ok (if ok then .tuple #[v,.bool true] else v) w
      | none=>.ok (if ok then .tuple #[z,.bool false] else z) w):=by
     intro r hr
     simp only [Instr.lookup,Sem.run_bind,run_underlying hu,Result.andThen_ok,Sem.run_pure,Go.MapKept.run_getObj_map hes,K.check _ k k1,hr]
     cases r with
     | none=>simp [hzr]
     | some p=>simp
    rcases K.find k k1 es.toList l hl (fun i e x g1 g2=>by
      obtain⟨a1,a2,_⟩:=hget i e x g1 g2
      exact⟨a1,(jQ a1 K.one).1 a2⟩) with ⟨g1,g2⟩ | ⟨j,e',g1,g2,g3⟩
    ·have hno:has k=false:=by
      cases hb:has k with
      | false=>rfl
      | true=>exact absurd ((hhas k).1 hb) g1
     have hq1:=hq.2 hno
     have hy:Rep own w (kC z) σ z:=jU z
     refine⟨_,_,hrun _ g2,hq1,?_⟩
     cases ok with
     | true=>
      simp only [qv,cond_true,if_true,Rep]
      exact⟨[z,.bool false],rfl,by simp only [RepL]; exact⟨_,_,rfl,hy,_,_,rfl,by simp [Rep],rfl⟩⟩
     | false=>simpa [qv] using hy
    ·have hyes:has k=true:=(hhas k).2 (List.mem_of_getElem? g2)
     have hq1:=hq.1 hyes
     obtain⟨_,_,a3⟩:=hget j e' k g1 g2
     have hy:Rep own w (get k) σ e'.val:=a3.any σ
     refine⟨_,_,hrun _ g3,hq1,?_⟩
     cases ok with
     | true=>
      simp only [qv,cond_true,if_true,Rep]
      exact⟨[e'.val,.bool true],rfl,by simp only [RepL]; exact⟨_,_,rfl,hy,_,_,rfl,by simp [Rep],rfl⟩⟩
     | false=>simpa [qv] using hy
   ·exact hq.elim
  ·exact hq.elim
 ·exact hq.elim
theorem xf{a:AV}{v:Value}(h:xE a=true)(hr:Rep own w a σ v):Rep own w a [] v:=by
 cases a with
 | fn f x y=>cases x<;>cases y<;>simp [xE] at h; simpa [Rep,RepL] using hr
 | _=>first | (simp [xE] at h; done) | simpa [Rep] using hr
theorem xh:∀ {l:List AV} {vs:List Value},l.all xE=true→RepL own w l σ vs→RepL own w l [] vs
 | [],_,_,h=>by simpa [RepL] using h
 | a::l,vs,hp,h=>by
  simp only [List.all_cons,Bool.and_eq_true] at hp
  simp only [RepL] at h ⊢
  obtain⟨v,r,rfl,h1,h2⟩:=h
  exact⟨v,r,rfl,xf hp.1 h1,xh hp.2 h2⟩
theorem xd{a:AV}{v:Value}(h:Qw a=true)(hr:Rep own w a σ v):Rep own w a [] v:=by
 cases a with
 | agg l=>
  simp only [Qw] at h
  simp only [Rep] at hr ⊢
  obtain⟨vs,rfl,hr⟩:=hr
  exact⟨vs,rfl,xh h hr⟩
 | _=>exact xf h hr
def wL(w:World)(b:Nat)(o:Obj):World:={ w with heap:=w.heap.setIfInBounds b o }
theorem WG{b:Nat}{o o':Obj}(hb:w.heap[b]?=some o'):Turn w (wL w b o) b:=⟨rfl,rfl,rfl,by simp [wL],fun k hk=>(Go.MapKept.heap_set (o':=o) hb).2 k hk⟩
theorem jg{h:Heap}(hg:Good O w σ)(hh:HRep (Own O σ) w σ h){i:Nat}{e:SE}{ad:Addr}{es:Array MapEntry}{clock:Nat}{o:Obj}{B:Blk}{r:AV}{v:Value}(he:σ[i]?=some e)(had:e.ad=some ad)(hes:w.heap[ad.block]?=some (.map es clock))
  (hr:∀ w',Rep (Own O σ) w' r σ v) (hB:Ext (Own O σ) w (Own O σ) (wL w ad.block o)→(wL w ad.block o).heap[ad.block]?=some o→BRep (Own O σ) (wL w ad.block o) σ e B):Post O w σ h ⟨r,[(i,B)],[]⟩ v (wL w ad.block o) σ:=by
 have ht:=WG (o:=o) hes
 have hown:Own O σ ad.block:=.inr ⟨e,List.mem_of_getElem? he,ad,had,rfl⟩
 have hsz:∀ cs el,w.heap[ad.block]?=some (.cells cs el (0,0))→∃ cs' el',(wL w ad.block o).heap[ad.block]?=some (.cells cs' el' (0,0))∧cs'.size=cs.size:=fun cs el hcs=>by rw [hes] at hcs; cases hcs
 refine⟨hr _,qx ht hown,?_,wv ht hsz,⟨fun b hb=>by rw [ht.size]; exact hg.old b hb,hg.dis,hg.stat.ext (qx ht hown)⟩,fun b hb _=>ht.other b (fun h=>hg.dis i e ad he had (h▸hb)),fun j f a hf ha hj=>ht.other _ (hh.inj j i f e a ad hf he ha had (by simpa using hj))⟩
 simp only [zw,zi]
 exact yd hh he had ht hsz (hB (qx ht hown) (Go.MapKept.heap_set hes).1)
theorem y9{h:Heap}(hg:Good O w σ)(hh:HRep (Own O σ) w σ h){t:TypeId}{m key x:AV}{vm vk vx:Value}(hm:Rep (Own O σ) w m σ vm)(hk0:Rep (Own O σ) w key σ vk)(hx:Rep (Own O σ) w x σ vx){Q:Res→Prop}(hq:(Ve P h t m key x).holds Q) :
  ∃ r w' σ',(Instr.mapUpdate t vm vk vx).run P w = .ok () w'∧Q r∧Post O w σ h r undef w' σ':=by
 unfold Ve at hq
 split at hq
 ·rename_i i
  split at hq
  ·rename_i ag sh has get pe ag' sh' k kt et hb hk hu
   split at hq
   ·rename_i ag2 sh2 hs
    split at hq
    ·rename_i hc
     obtain⟨rfl,rfl,rfl,rfl,hpl⟩:=hc
     have K:=ke (w:=w) hs
     obtain⟨k1,rfl⟩:=vJ hk hk0
     simp only [Rep] at hm
     obtain⟨e,ad,he,had,rfl⟩:=hm
     have hB:=hh.blk i e _ he hb
     simp only [BRep] at hB
     obtain⟨ad',es,clock,l,had',hes,hone,⟨hnd,hst⟩,hhas,hE⟩:=hB
     rw [had] at had'; cases had'
     obtain⟨hl,hget⟩:=qe.1 hE
     have hxv:=xd hpl hx
     rcases K.find k k1 es.toList l hl (fun i e x g1 g2=>by
       obtain⟨a1,a2,_⟩:=hget i e x g1 g2
       exact⟨a1,(jQ a1 K.one).1 a2⟩) with ⟨g1,g2⟩ | ⟨j,e',g1,g2,g3⟩
     ·refine⟨_,wL w ad.block (.map (es.push { key:=z6 ag2 sh2 k,val:=vx,born:=clock }) (clock+1)),σ,?_,hq,jg hg hh he had hes (fun _=>by simp [Rep]) fun hext hnew=> ?_⟩
      ·simp only [Instr.mapUpdate,Sem.run_bind,run_underlying hu,Result.andThen_ok,Go.MapKept.run_getObj_map hes,K.check _ k k1,g2]
       exact Go.MapKept.run_setObj_map _ hes
      ·simp only [BRep]
       refine⟨ad,_,_,l++[k],had,hnew,hone,⟨?_,hst.push _ _⟩,fun y=> ?_,qe.2 ⟨by simpa using hl,fun i e2 y h1 h2=> ?_⟩⟩
       ·rw [List.nodup_append]
        exact⟨hnd,by simp,fun a ha b hb=>by simp at hb; subst hb; exact fun hab=>g1 (hab▸ha)⟩
       ·simp only [jd,Bool.or_eq_true,decide_eq_true_eq,hhas,List.mem_append,List.mem_singleton]
        exact Or.comm
       ·simp only [Array.toList_push,List.getElem?_append] at h1
        rw [List.getElem?_append] at h2
        by_cases hi:i<l.length
        ·rw [if_pos (by omega)] at h1
         rw [if_pos hi] at h2
         obtain⟨a1,a2,a3⟩:=hget i e2 y h1 h2
         refine⟨a1,zj hext _ _ a2,?_⟩
         have hne:y≠k:=fun hy=>g1 (hy▸List.mem_of_getElem? h2)
         simp only [zF,if_neg hne]
         exact zj hext _ _ a3
        ·rw [if_neg (by omega)] at h1
         rw [if_neg hi] at h2
         have hi0:i - l.length=0:=by
          have:=(List.getElem?_eq_some_iff.1 h2).1
          simp at this; omega
         rw [hl,hi0] at h1
         rw [hi0] at h2
         simp at h1 h2
         subst h1; subst h2
         refine⟨k1,(jQ k1 K.one).2 rfl,?_⟩
         simp only [zF,if_true]
         exact zj hext _ _ hxv
     ·have g1':es[j]?=some e':=by simpa using g1
      obtain⟨_,b2,_⟩:=hget j e' k g1 g2
      have hkey:e'.key=z6 ag2 sh2 k:=(jQ k1 K.one).1 b2
      refine⟨_,wL w ad.block (.map (es.modify j fun e=>{ e with key:=z6 ag2 sh2 k,val:=vx }) clock),σ,?_,hq,jg hg hh he had hes (fun _=>by simp [Rep]) fun hext hnew=> ?_⟩
      ·simp only [Instr.mapUpdate,Sem.run_bind,run_underlying hu,Result.andThen_ok,Go.MapKept.run_getObj_map hes,K.check _ k k1,g3,g1',Option.map_some,Option.getD_some,hkey,K.stays k k1]
       exact Go.MapKept.run_setObj_map _ hes
      ·simp only [BRep]
       refine⟨ad,_,_,l,had,hnew,hone,⟨hnd,hst.turn j (fun _=>rfl)⟩,fun y=> ?_,qe.2 ⟨by simpa using hl,fun i e2 y h1 h2=> ?_⟩⟩
       ·simp only [jd,Bool.or_eq_true,decide_eq_true_eq,hhas]
        exact⟨fun h=>h.elim (fun h=>h▸List.mem_of_getElem? g2) id,.inr⟩
       ·simp only [Array.getElem?_toList,Array.getElem?_modify] at h1
        by_cases hij:j=i
        ·subst hij
         rw [if_pos rfl,g1'] at h1
         simp only [Option.map_some,Option.some.injEq] at h1
         subst h1
         rw [g2] at h2; cases h2
         refine⟨k1,(jQ k1 K.one).2 rfl,?_⟩
         simp only [zF,if_true]
         exact zj hext _ _ hxv
        ·rw [if_neg hij] at h1
         obtain⟨a1,a2,a3⟩:=hget i e2 y (by simpa using h1) h2
         refine⟨a1,zj hext _ _ a2,?_⟩
         have hne:y≠k:=fun hy=>by
          subst hy
          exact hij ((List.getElem?_inj (List.getElem?_eq_some_iff.1 g2).1 hnd).1 (g2.trans h2.symm))
         simp only [zF,if_neg hne]
         exact zj hext _ _ a3
    ·exact hq.elim
   ·exact hq.elim
  ·exact hq.elim
 ·exact hq.elim
theorem Wx{h:Heap}(hg:Good O w σ)(hh:HRep (Own O σ) w σ h){t ty:TypeId}{tk:TypeId}{m key:AV}{vm vk:Value}(hm:Rep (Own O σ) w m σ vm)(hk0:Rep (Own O σ) w key σ vk){Q:Res→Prop}(hq:(Ya P h t m key).holds Q) :
  ∃ r w' σ',(Builtin.delete_ #[t,tk] ty #[vm,vk]).run P w = .ok (.tuple #[]) w'∧Q r∧Post O w σ h r (.tuple #[]) w' σ':=by
 unfold Ya at hq
 split at hq
 ·rename_i i
  split at hq
  ·rename_i ag sh has get pe ag' sh' k kt et hb hk hu
   split at hq
   ·rename_i ag2 sh2 hs
    split at hq
    ·rename_i hc
     obtain⟨rfl,rfl,rfl,rfl⟩:=hc
     have K:=ke (w:=w) hs
     obtain⟨k1,rfl⟩:=vJ hk hk0
     simp only [Rep] at hm
     obtain⟨e,ad,he,had,rfl⟩:=hm
     have hB:=hh.blk i e _ he hb
     simp only [BRep] at hB
     obtain⟨ad',es,clock,l,had',hes,hone,⟨hnd,hst⟩,hhas,hE⟩:=hB
     rw [had] at had'; cases had'
     obtain⟨hl,hget⟩:=qe.1 hE
     have rt:∀ w',Rep (Own O σ) w' (.tup []) σ (.tuple #[]):=fun w'=>by simp [Rep,RepL]
     rcases K.find k k1 es.toList l hl (fun i e x g1 g2=>by
       obtain⟨a1,a2,_⟩:=hget i e x g1 g2
       exact⟨a1,(jQ a1 K.one).1 a2⟩) with ⟨g1,g2⟩ | ⟨j,e',g1,g2,g3⟩
     ·refine⟨_,wL w ad.block (.map es clock),σ,?_,hq,jg hg hh he had hes rt fun hext hnew=> ?_⟩
      ·simp only [Builtin.delete_,Sem.run_bind,run_underlying hu,Result.andThen_ok,Go.MapKept.run_getObj_map hes,K.check _ k k1,g2,Go.MapKept.run_setObj_map _ hes,Sem.run_pure,List.getElem?_toArray,List.getElem?_cons_zero,List.getElem?_cons_succ]
       rfl
      ·simp only [BRep]
       refine⟨ad,_,_,l,had,hnew,hone,⟨hnd,hst.none⟩,fun y=> ?_,hE.ext hext⟩
       simp only [xU,Bool.and_eq_true,Bool.not_eq_true',decide_eq_false_iff_not,hhas]
       exact⟨fun h=>h.2,fun h=>⟨fun hy=>g1 (hy▸h),h⟩⟩
     ·have g1':es[j]?=some e':=by simpa using g1
      have hjs:j<es.size:=(Array.getElem?_eq_some_iff.1 g1').1
      refine⟨_,wL w ad.block (.map (es.eraseIdxIfInBounds j) clock),σ,?_,hq,jg hg hh he had hes rt fun hext hnew=> ?_⟩
      ·simp only [Builtin.delete_,Sem.run_bind,run_underlying hu,Result.andThen_ok,Go.MapKept.run_getObj_map hes,K.check _ k k1,g3,Go.MapKept.run_setObj_map _ hes,Sem.run_pure,List.getElem?_toArray,List.getElem?_cons_zero,List.getElem?_cons_succ]
       rfl
      ·simp only [BRep]
       have hlist:(es.eraseIdxIfInBounds j).toList=es.toList.eraseIdx j:=by
        unfold Array.eraseIdxIfInBounds
        rw [dif_pos hjs,Array.toList_eraseIdx]
       have hjl:j<l.length:=(List.getElem?_eq_some_iff.1 g2).1
       refine⟨ad,_,_,l.eraseIdx j,had,hnew,hone,⟨(List.eraseIdx_sublist _ _).nodup hnd,hst.erase hlist⟩,fun y=> ?_,qe.2 ⟨?_,fun i e2 y h1 h2=> ?_⟩⟩
       ·simp only [xU,Bool.and_eq_true,Bool.not_eq_true',decide_eq_false_iff_not,hhas,List.mem_eraseIdx_iff_getElem?]
        constructor
        ·rintro⟨h1,h2⟩
         obtain⟨i,hi⟩:=List.mem_iff_getElem?.1 h2
         refine⟨i,fun hij=>h1 ?_,hi⟩
         subst hij
         rw [g2] at hi; cases hi; rfl
        ·rintro⟨i,hij,hi⟩
         refine⟨fun hy=>hij ?_,List.mem_of_getElem? hi⟩
         subst hy
         exact(List.getElem?_inj (List.getElem?_eq_some_iff.1 hi).1 hnd).1 (hi.trans g2.symm)
       ·rw [hlist,List.length_eraseIdx,List.length_eraseIdx,hl]
       ·rw [hlist,List.getElem?_eraseIdx] at h1
        rw [List.getElem?_eraseIdx] at h2
        split at h1
        ·rename_i hij
         rw [if_pos hij] at h2
         obtain⟨a1,a2,a3⟩:=hget i e2 y h1 h2
         exact⟨a1,zj hext _ _ a2,zj hext _ _ a3⟩
        ·rename_i hij
         rw [if_neg hij] at h2
         obtain⟨a1,a2,a3⟩:=hget (i+1) e2 y h1 h2
         exact⟨a1,zj hext _ _ a2,zj hext _ _ a3⟩
    ·exact hq.elim
   ·exact hq.elim
  ·exact hq.elim
 ·exact hq.elim
theorem find_born{l:List MapEntry}(hn:(l.map (·.born)).Nodup){j:Nat}{e0:MapEntry}(h:l[j]?=some e0):l.findIdx? (fun e=>((e.born:Nat):Int) == ((e0.born:Nat):Int))=some j:=by
 induction l generalizing j with
 | nil=>simp at h
 | cons a r ih=>
  simp only [List.map_cons,List.nodup_cons] at hn
  cases j with
  | zero=>
   simp only [List.getElem?_cons_zero,Option.some.injEq] at h
   subst h
   simp [List.findIdx?_cons]
  | succ j=>
   simp only [List.getElem?_cons_succ] at h
   have hne:a.born≠e0.born:=fun e1=>hn.1 (List.mem_map.2 ⟨e0,List.mem_of_getElem? h,e1.symm⟩)
   have hb:(((a.born:Nat):Int) == ((e0.born:Nat):Int))=false:=by
    simp only [beq_eq_false_iff_ne,ne_eq,Int.natCast_inj]
    exact hne
   rw [List.findIdx?_cons,hb]
   simp [ih hn.2 h]
theorem JO{h:Heap}(hg:Good O w σ)(hh:HRep (Own O σ) w σ h){t:TypeId}{m key:AV}{vm vk:Value}(hm:Rep (Own O σ) w m σ vm)(hk0:Rep (Own O σ) w key σ vk){Q:Res→Prop}(hq:(Yh P h t m key).holds Q) :
  ∃ r v w' σ',(Instr.mapEntry t vm vk).run P w = .ok v w'∧Q r∧Post O w σ h r v w' σ':=by
 unfold Yh at hq
 split at hq
 ·rename_i i
  split at hq
  ·rename_i ag sh has get pe ag' sh' k kt et hb hk hu
   split at hq
   ·rename_i ag2 sh2 z hs hz
    split at hq
    ·rename_i hc
     obtain⟨rfl,rfl,rfl,rfl⟩:=hc
     have K:=ke (w:=w) hs
     obtain⟨k1,rfl⟩:=vJ hk hk0
     simp only [Rep] at hm
     obtain⟨e,ad,he,had,rfl⟩:=hm
     have hB:=hh.blk i e _ he hb
     simp only [BRep] at hB
     obtain⟨ad',es,clock,l,had',hes,hone,⟨hnd,hst⟩,hhas,hE⟩:=hB
     rw [had] at had'; cases had'
     obtain⟨hl,hget⟩:=qe.1 hE
     have hzr:(zeroValue et).run P w = .ok z w:=by
      cases hin:P.info? et with
      | none=>simp [hin] at hz
      | some inf=>
       simp only [hin,Option.bind_some] at hz
       simp [zeroValue,run_typeInfo w hin,hz]
     have hq:=hq.2
     have rv:∀ (v0:Value) (n:Nat) w',Rep (Own O σ) w' (.tup [.undef,.int .i64 (n:Int)]) σ (.tuple #[v0,goInt n]):=fun v0 n w'=>by
      simp only [Rep]
      exact⟨[v0,goInt n],rfl,by simp only [RepL]; exact⟨_,_,rfl,by simp [Rep],_,_,rfl,by simp [Rep,goInt],rfl⟩⟩
     rcases K.find k k1 es.toList l hl (fun i e x g1 g2=>by
       obtain⟨a1,a2,_⟩:=hget i e x g1 g2
       exact⟨a1,(jQ a1 K.one).1 a2⟩) with ⟨g1,g2⟩ | ⟨j,e',g1,g2,g3⟩
     ·refine⟨_,.tuple #[z,goInt clock],wL w ad.block (.map (es.push { key:=z6 ag2 sh2 k,val:=z,born:=clock }) (clock+1)),σ,?_,hq (clock:Int) trivial,jg hg hh he had hes (rv z clock) fun hext hnew=> ?_⟩
      ·simp only [Instr.mapEntry,Sem.run_bind,run_underlying hu,Result.andThen_ok,Go.MapKept.run_getObj_map hes,K.check _ k k1,g2,hzr,Go.MapKept.run_setObj_map _ hes,Sem.run_pure]
       rfl
      ·simp only [BRep]
       have hp:=hst.push (z6 ag2 sh2 k) z (l':=l++[k])
       refine⟨ad,_,_,l++[k],had,hnew,hone,⟨?_,hp.nd,hp.lt,fun k' st hk'=> ?_⟩,fun y=> ?_,qe.2 ⟨by simpa using hl,fun i e2 y h1 h2=> ?_⟩⟩
       ·rw [List.nodup_append]
        exact⟨hnd,by simp,fun a ha b hb=>by simp at hb; subst hb; exact fun hab=>g1 (hab▸ha)⟩
       ·simp only [Option.some.injEq,Prod.mk.injEq] at hk'
        obtain⟨rfl,rfl⟩:=hk'
        refine⟨es.size,_,Array.getElem?_push_size,?_,rfl⟩
        rw [← Array.length_toList,hl]
        simp
       ·simp only [jd,Bool.or_eq_true,decide_eq_true_eq,hhas,List.mem_append,List.mem_singleton]
        exact Or.comm
       ·simp only [Array.toList_push,List.getElem?_append] at h1
        rw [List.getElem?_append] at h2
        by_cases hi:i<l.length
        ·rw [if_pos (by omega)] at h1
         rw [if_pos hi] at h2
         obtain⟨a1,a2,a3⟩:=hget i e2 y h1 h2
         refine⟨a1,zj hext _ _ a2,?_⟩
         have hne:y≠k:=fun hy=>g1 (hy▸List.mem_of_getElem? h2)
         simp only [zF,if_neg hne]
         exact zj hext _ _ a3
        ·rw [if_neg (by omega)] at h1
         rw [if_neg hi] at h2
         have hi0:i - l.length=0:=by
          have:=(List.getElem?_eq_some_iff.1 h2).1
          simp at this; omega
         rw [hl,hi0] at h1
         rw [hi0] at h2
         simp at h1 h2
         subst h1; subst h2
         refine⟨k1,(jQ k1 K.one).2 rfl,?_⟩
         simp [zF,Rep]
     ·have g1':es[j]?=some e':=by simpa using g1
      obtain⟨_,b2,_⟩:=hget j e' k g1 g2
      have hkey:e'.key=z6 ag2 sh2 k:=(jQ k1 K.one).1 b2
      refine⟨_,.tuple #[e'.val,goInt e'.born],wL w ad.block (.map (es.modify j fun e=>{ e with key:=z6 ag2 sh2 k }) clock),σ,?_,hq (e'.born:Int) trivial,jg hg hh he had hes (rv e'.val e'.born) fun hext hnew=> ?_⟩
      ·simp only [Instr.mapEntry,Sem.run_bind,run_underlying hu,Result.andThen_ok,Go.MapKept.run_getObj_map hes,K.check _ k k1,g3,g1',Option.map_some,Option.getD_some,hkey,K.stays k k1,Go.MapKept.run_setObj_map _ hes,Sem.run_pure]
       rfl
      ·simp only [BRep]
       have hp:=hst.turn (l':=l) j (f:=fun e=>{ e with key:=z6 ag2 sh2 k }) (fun _=>rfl)
       refine⟨ad,_,_,l,had,hnew,hone,⟨hnd,hp.nd,hp.lt,fun k' st hk'=> ?_⟩,fun y=> ?_,qe.2 ⟨by simpa using hl,fun i e2 y h1 h2=> ?_⟩⟩
       ·simp only [Option.some.injEq,Prod.mk.injEq] at hk'
        obtain⟨rfl,rfl⟩:=hk'
        exact⟨j,{ e' with key:=z6 ag2 sh2 k },by rw [Array.getElem?_modify,if_pos rfl,g1']; rfl,g2,rfl⟩
       ·simp only [jd,Bool.or_eq_true,decide_eq_true_eq,hhas]
        exact⟨fun h=>h.elim (fun h=>h▸List.mem_of_getElem? g2) id,.inr⟩
       ·simp only [Array.getElem?_toList,Array.getElem?_modify] at h1
        by_cases hij:j=i
        ·subst hij
         rw [if_pos rfl,g1'] at h1
         simp only [Option.map_some,Option.some.injEq] at h1
         subst h1
         rw [g2] at h2; cases h2
         refine⟨k1,(jQ k1 K.one).2 rfl,?_⟩
         simp [zF,Rep]
        ·rw [if_neg hij] at h1
         obtain⟨a1,a2,a3⟩:=hget i e2 y (by simpa using h1) h2
         refine⟨a1,zj hext _ _ a2,?_⟩
         have hne:y≠k:=fun hy=>by
          subst hy
          exact hij ((List.getElem?_inj (List.getElem?_eq_some_iff.1 g2).1 hnd).1 (g2.trans h2.symm))
         simp only [zF,if_neg hne]
         exact zj hext _ _ a3
    ·exact hq.elim
   ·exact hq.elim
  ·exact hq.elim
 ·exact hq.elim
theorem W6{h:Heap}(hg:Good O w σ)(hh:HRep (Own O σ) w σ h){t:TypeId}{m s x:AV}{vm vs vx:Value}(hm:Rep (Own O σ) w m σ vm)(hs:Rep (Own O σ) w s σ vs)(hx:Rep (Own O σ) w x σ vx){Q:Res→Prop}(hq:(XQ h m s x).holds Q) :
  ∃ r w' σ',(Instr.entryStore t vm vs vx).run P w = .ok () w'∧Q r∧Post O w σ h r undef w' σ':=by
 unfold XQ at hq
 split at hq
 ·rename_i i ik st
  split at hq
  ·rename_i ag sh has get k st' hb
   split at hq
   ·rename_i hpl
    obtain⟨rfl,hq⟩:=hq
    have hq:=hq rfl
    simp only [Rep] at hm hs
    obtain⟨e,ad,he,had,rfl⟩:=hm
    have hB:=hh.blk i e _ he hb
    simp only [BRep] at hB
    obtain⟨ad',es,clock,l,had',hes,hone,⟨hnd,hst⟩,hhas,hE⟩:=hB
    rw [had] at had'; cases had'
    obtain⟨hl,hget⟩:=qe.1 hE
    have hxv:=xd hpl hx
    obtain⟨j,e',g1',g2,g4⟩:=hst.pend k st rfl
    have g1:es.toList[j]?=some e':=by simpa using g1'
    obtain⟨b1,b2,_⟩:=hget j e' k g1 g2
    refine⟨_,wL w ad.block (.map (es.modify j fun e=>{ e with val:=vx }) clock),σ,?_,hq,jg hg hh he had hes (fun _=>by simp [Rep]) fun hext hnew=> ?_⟩
    ·subst g4
     have hidx:es.findIdx? (fun e=>((e.born:Nat):Int) == ((e'.born:Nat):Int))=some j:=by
      have:=find_born hst.nd g1
      cases es
      simpa using this
     rw [hs]
     simp only [Instr.entryStore,Sem.run_bind,Go.MapKept.run_getObj_map hes,Result.andThen_ok,asInt,asIntOf,Sem.run_pure,hidx]
     exact Go.MapKept.run_setObj_map _ hes
    ·simp only [BRep]
     refine⟨ad,_,_,l,had,hnew,hone,⟨hnd,hst.turn j (fun _=>rfl)⟩,hhas,qe.2 ⟨by simpa using hl,fun i e2 y h1 h2=> ?_⟩⟩
     simp only [Array.getElem?_toList,Array.getElem?_modify] at h1
     by_cases hij:j=i
     ·subst hij
      rw [if_pos rfl,g1'] at h1
      simp only [Option.map_some,Option.some.injEq] at h1
      subst h1
      rw [g2] at h2; cases h2
      refine⟨b1,zj hext _ _ b2,?_⟩
      simp only [zF,if_true]
      exact zj hext _ _ hxv
     ·rw [if_neg hij] at h1
      obtain⟨a1,a2,a3⟩:=hget i e2 y (by simpa using h1) h2
      refine⟨a1,zj hext _ _ a2,?_⟩
      have hne:y≠k:=fun hy=>by
       subst hy
       exact hij ((List.getElem?_inj (List.getElem?_eq_some_iff.1 g2).1 hnd).1 (g2.trans h2.symm))
      simp only [zF,if_neg hne]
      exact zj hext _ _ a3
   ·exact hq.elim
  ·exact hq.elim
 ·exact hq.elim
theorem Zb{h:Heap}(hg:Good O w σ)(hh:HRep (Own O σ) w σ h){t:TypeId}{Q:Res→Prop}(hq:(yJ P h t).holds Q) :
  ∃ r v w' σ',(Instr.makeMap t none).run P w = .ok v w'∧Q r∧Post O w σ h r v w' σ':=by
 unfold yJ at hq
 split at hq
 ·rename_i kt et hu
  split at hq
  ·rename_i ag sh hs
   have K:=ke (w:=w) hs
   refine⟨_,.map (some w.heap.size),w.alloc (.map #[] 0),σ++[⟨some ⟨w.heap.size,0,none⟩,0⟩],?_,hq,?_⟩
   ·simp [Instr.makeMap,newObj,Sem.run_bind,Sem.run_pure]
    rfl
   ·have hx:=zY (O:=O) hh (.map #[] 0) 0
    have hd:=qh (O:=O) hh (.map #[] 0) ⟨some ⟨w.heap.size,0,none⟩,0⟩
    have hB:BRep (Own O (σ++[⟨some ⟨w.heap.size,0,none⟩,0⟩])) (w.alloc (.map #[] 0)) (σ++[⟨some ⟨w.heap.size,0,none⟩,0⟩]) ⟨some ⟨w.heap.size,0,none⟩,0⟩ (.map ag sh QL KH):=by
     simp only [BRep]
     exact⟨_,#[],0,[],rfl,heap_alloc_new w _,K.one,⟨List.nodup_nil,by simp,by simp,fun k st h=>by cases h⟩,fun k=>by simp [QL],trivial⟩
    refine⟨?_,hx,?_,hd,jI hh hg _ _,fun b _ hb=>Go.RowKit.Below.heap_alloc w _ b hb,fun i e ad he had _=>Go.RowKit.Below.heap_alloc w _ _ (hh.lt i e ad he had)⟩
    ·simp only [Rep]
     exact⟨⟨some ⟨w.heap.size,0,none⟩,0⟩,⟨w.heap.size,0,none⟩,by rw [← hh.len]; simp,rfl,rfl⟩
    ·simp only [zw,zi,zU,Nat.lt_irrefl,if_false]
     exact j6 hh hB
  ·exact hq.elim
 ·exact hq.elim
theorem V9{h h2:Heap}{i:Nat}{B B2:Blk}{r:AV}{v:Value}{w':World}{σ':List SE}(hlen:h2.length=h.length)(hi:i<h.length)(hsame:∀ j,j≠i→h2[j]?=h[j]?)(hB:∀ e,BRep (Own O σ') w' σ' e B2→BRep (Own O σ') w' σ' e B)(hp:Post O w σ h2 ⟨r,[(i,B2)],[]⟩ v w' σ'):Post O w σ h ⟨r,[(i,B)],[]⟩ v w' σ':=by
 refine⟨hp.rep,hp.ext,?_,hp.hold,hp.good,hp.wZ,hp.fr⟩
 have:=hp.hp
 simp only [zw,zi,zU,hlen,if_pos hi] at this
 have e1:zi (zw [] h) [(i,B)]=h.set i B:=if_pos hi
 show HRep _ _ _ (zi (zw [] h) [(i,B)])
 rw [e1]
 refine⟨by rw [this.len]; simp [hlen],this.inj,this.lt,fun j e b he hb=> ?_⟩
 rw [List.getElem?_set] at hb
 split at hb
 ·rename_i hij
  subst hij
  simp at hb
  obtain⟨_,rfl⟩:=hb
  exact hB e (this.blk i e B2 he (by rw [List.getElem?_set]; simp [hlen,hi]))
 ·rename_i hij
  refine this.blk j e b he ?_
  rw [List.getElem?_set,if_neg hij,hsame j (fun h=>hij h.symm)]
  exact hb
theorem Q0{h:Heap}{i:Nat}{B:Blk}(hh:HRep own w σ h)(hB:∀ e,σ[i]?=some e→BRep own w σ e B):HRep own w σ (h.set i B):=by
 refine⟨by simp [hh.len],hh.inj,hh.lt,fun j e b he hb=> ?_⟩
 rw [List.getElem?_set] at hb
 split at hb
 ·rename_i hij
  subst hij
  simp at hb
  obtain⟨_,rfl⟩:=hb
  exact hB e he
 ·exact hh.blk j e b he hb
theorem JF{e:SE}{n sz:Nat}{g g':Nat→Nat→AV}(h:∀ j o,j<n→o<sz→g j o=g' j o)(hb:BRep own w σ e (.arr n sz g)):BRep own w σ e (.arr n sz g'):=by
 simp only [BRep] at hb ⊢
 obtain⟨h1,h2 | ⟨ad,cs,el,h3,h4,h5,h6⟩⟩:=hb
 ·exact⟨h1,.inl h2⟩
 ·exact⟨h1,.inr ⟨ad,cs,el,h3,h4,h5,fun j o hj ho=>by
   obtain⟨c,g1,g2,g3⟩:=h6 j o hj ho
   exact⟨c,g1,g2,by rw [← h j o hj ho]; exact g3⟩⟩⟩
theorem Ws{h:Heap}(hg:Good O w σ)(hh:HRep (Own O σ) w σ h){t:TypeId}{i idx N:Nat}{k:IntKind}{f:Nat→Int}{a:AV}{x:Int}{va v:Value}(ha:Rep (Own O σ) w (.eptr i 1 idx 0) σ va)(hb:h[i]?=some (.arrI k N f))
  (hn:zS P t=some 1) (hc:cellsOf a=some [.int k x]) (hr:Rep (Own O σ) w a σ v) :
  ∃ w' σ',(Instr.storeAt t va v).run P w = .ok () w'∧Post O w σ h ⟨.undef,[(i,.arrI k N (updI f idx x))],[]⟩ undef w' σ':=by
 have hi:i<h.length:=(List.getElem?_eq_some_iff.1 hb).1
 obtain⟨w',σ',h1,h2⟩:=xZ (P:=P) (N:=N) (g:=tgI k f) (k:=[]) (cv':=[.int k x]) hg (Q0 (i:=i) (B:=.arr N 1 (tgI k f)) hh fun e he=>vK.1 (hh.blk i e _ he hb)) ha (by simp [hi]) hn (qf hc hr) rfl (by omega) (by rfl) (by simp)
 refine⟨w',σ',h1,V9 (by simp) hi (fun j hj=>by rw [List.getElem?_set,if_neg (Ne.symm hj)]) (fun e hB=>vK.2 (JF (fun j o hj ho=> ?_) hB)) h2⟩
 have ho:o=0:=by omega
 subst ho
 simp only [updG,tgI,updI]
 by_cases hji:j=idx
 ·subst hji; simp
 ·rw [if_neg (fun q=>hji q.1),if_neg hji]
theorem Wp{h:Heap}(hg:Good O w σ)(hh:HRep (Own O σ) w σ h){t:TypeId}{i idx N:Nat}{f:Nat→List UInt8}{a:AV}{x:List UInt8}{va v:Value}(ha:Rep (Own O σ) w (.eptr i 1 idx 0) σ va)(hb:h[i]?=some (.arrS N f))
  (hn:zS P t=some 1) (hc:cellsOf a=some [.str x]) (hr:Rep (Own O σ) w a σ v) :
  ∃ w' σ',(Instr.storeAt t va v).run P w = .ok () w'∧Post O w σ h ⟨.undef,[(i,.arrS N (updS f idx x))],[]⟩ undef w' σ':=by
 have hi:i<h.length:=(List.getElem?_eq_some_iff.1 hb).1
 obtain⟨w',σ',h1,h2⟩:=xZ (P:=P) (N:=N) (g:=tgS f) (k:=[]) (cv':=[.str x]) hg (Q0 (i:=i) (B:=.arr N 1 (tgS f)) hh fun e he=>vQ.1 (hh.blk i e _ he hb)) ha (by simp [hi]) hn (qf hc hr) rfl (by omega) (by rfl) (by simp)
 refine⟨w',σ',h1,V9 (by simp) hi (fun j hj=>by rw [List.getElem?_set,if_neg (Ne.symm hj)]) (fun e hB=>vQ.2 (JF (fun j o hj ho=> ?_) hB)) h2⟩
 have ho:o=0:=by omega
 subst ho
 simp only [updG,tgS,updS]
 by_cases hji:j=idx
 ·subst hji; simp
 ·rw [if_neg (fun q=>hji q.1),if_neg hji]
end
end Go.Sx
end
section
namespace Go.Sx
variable [Stat]
open Go.RowKit (Below)
section
variable {O:Nat→Prop} {w:World} {σ:List SE} {P:Program}
theorem x9{own:Nat→Prop}{b:Builtin}{t:Array TypeId}{ty:TypeId}{args:List Operand}{ρ:Operand→AV}{ρc:Operand→Value}(hρ:∀ x,Rep own w (ρ x) σ (ρc x)){Q:AV→Prop}(hq:(xc b (args.map ρ)).holds Q) :
  (b = .max→∃ r v,(Builtin.max_ t ty (args.map ρc).toArray).run P w = .ok v w∧Q r∧Rep own w r σ v) ∧
  (b = .min→∃ r v,(Builtin.min_ t ty (args.map ρc).toArray).run P w = .ok v w∧Q r∧Rep own w r σ v):=by
 match args,hq with
 | [x,y],hq=>
  have hx:=hρ x
  have hy:=hρ y
  simp only [List.map_cons,List.map_nil] at hq ⊢
  generalize ρ x=a at hx hq
  generalize ρ y=c at hy hq
  cases a with
  | int k m=>
   cases c with
   | int k' m'=>
    simp only [xc] at hq
    split at hq
    ·rename_i hk; subst hk
     simp only [Rep] at hx hy
     rw [hx,hy]
     constructor
     ·rintro rfl
      refine⟨_,.int k (max m m'),?_,hq,by simp [Rep]⟩
      simp [Builtin.max_,Builtin.max2]
      split<;>omega
     ·rintro rfl
      refine⟨_,.int k (min m m'),?_,hq,by simp [Rep]⟩
      simp [Builtin.min_,Builtin.min2]
      split<;>omega
    ·exact hq.elim
   | _=>exact hq.elim
  | _=>exact hq.elim
 | [],hq=>exact hq.elim
 | [_],hq=>simp only [List.map_cons,List.map_nil] at hq; generalize ρ _=a at hq; cases a<;>exact hq.elim
 | _::_::_::_,hq=>
  simp only [List.map_cons] at hq
  generalize ρ _=a at hq
  cases a<;>first | exact hq.elim | (rename_i hh; generalize ρ _=a at hq; cases a<;>exact hq.elim) | skip
  all_goals (simp only [xc] at hq; exact hq.elim)
theorem xW{own:Nat→Prop}{ρ:Operand→AV}{ρc:Operand→Value}(hρ:∀ x,Rep own w (ρ x) σ (ρc x))(l:List Operand):RepL own w (l.map ρ) σ (l.map ρc):=zq.2 ⟨by simp,fun i a v ha hv=>by
 simp only [List.getElem?_map] at ha hv
 cases hx:l[i]? with
 | none=>simp [hx] at ha
 | some x=>
  simp only [hx,Option.map_some,Option.some.injEq] at ha hv
  subst ha; subst hv; exact hρ x⟩
theorem xb{ok ag:Bool}{sz:Nat}{get:Int→Nat→AV}{n:Int}{Q:AV→Prop} : ∀ {l:List Int},(JZ ok ag sz get n l).holds Q→Q (qv ok (yN ag sz (get n)) true)
 | [],h=>h.elim
 | k::l,h=>by
  by_cases hk:n=k
  ·subst hk; exact h.1 (decide_eq_true rfl)
  ·exact xb (h.2 (decide_eq_false hk))
theorem u4{ok ag:Bool}{sz:Nat}{get:Int→Nat→AV}{n:Int}{Q:AV→Prop} : ∀ {l:List Int},(QX ok ag sz get n l).holds Q→Q (qv ok (yN ag sz (get n)) true)
 | [],h=>h
 | _::_,h=>xb h
theorem Qf{own:Nat→Prop}{h:Heap}(hh:HRep own w σ h){t:TypeId}{ok:Bool}{x i:AV}{vx vi:Value}(hx:Rep own w x σ vx)(hi2:Rep own w i σ vi){Q:AV→Prop}(hq:(xe P h t ok x i).holds Q) :
  ∃ r v,(Instr.lookup t vx vi ok).run P w = .ok v w∧Q r∧Rep own w r σ v:=by
 cases x with
 | mp k ag sz ks has get=>
  cases i with
  | int k' n=>
   simp only [xe] at hq
   split at hq
   ·rename_i kt et hu
    split at hq
    ·rename_i kk a z hk ha hz
     split at hq
     ·rename_i hc
      obtain⟨rfl,rfl,rfl⟩:=hc
      simp only [Rep] at hx hi2
      obtain⟨b,es,clock,rfl,hn,hlim,hb,hg⟩:=hx
      subst hi2
      have hck:∀ e,(Instr.checkKey e 10000 kt (.int kk n)).run P w = .ok () w:=fun e=>Go.MapKept.run_checkKey hk (by simp [Go.MapKept.IsKey]) e 9999
      have hzr:(zeroValue et).run P w = .ok z w:=by
       cases hin:P.info? et with
       | none=>simp [hin] at hz
       | some inf=>
        simp only [hin,Option.bind_some] at hz
        simp [zeroValue,run_typeInfo w hin,hz]
      have hrun:∀ r,Instr.findNow (.int kk) (.int kk n) es.toList 0=some r→(Instr.lookup t (.map (some b)) (.int kk n) ok).run P w=(match r with
        | some (_,v)=>.ok (if ok then .tuple #[v,.bool true] else v) w
        | none=>.ok (if ok then .tuple #[z,.bool false] else z) w):=by
       intro r hr
       simp only [Instr.lookup,Sem.run_bind,run_underlying hu,Result.andThen_ok,Sem.run_pure,Go.MapKept.run_getObj_map hb,hck,Go.MapKept.run_findKey hk hr]
       cases r with
       | none=>simp [hzr]
       | some p=>simp
      cases hh:has n with
      | true=>
       obtain⟨j,y,h1,h2⟩:=(hg n).2 hh
       have hq1:=u4 (hq.1 hh)
       have hy:Rep own w (yN a sz (get n)) σ y:=by
        cases a with
        | true=>
         obtain⟨vs,rfl,hl,hr⟩:=h2
         simp only [yN,cond_true,Rep]
         refine⟨vs,rfl,zq.2 ⟨by simp [hl],fun o c v hc hv=> ?_⟩⟩
         have ho:o<sz:=by rw [← hl]; exact(List.getElem?_eq_some_iff.1 hv).1
         obtain⟨c',g1,g2⟩:=hr o ho
         rw [hv] at g1; cases g1
         simp [ho] at hc
         subst hc
         exact qa (K:=[]) (Ext.refl own w) (fun i e he=>by simp at he) _ v (jb _) g2
        | false=>
         simp only [yN,cond_false]
         exact qa (K:=[]) (Ext.refl own w) (fun i e he=>by simp at he) _ y (jb _) h2
       refine⟨_,_,hrun _ h1,hq1,?_⟩
       cases ok with
       | true=>
        simp only [qv,cond_true,if_true,Rep]
        exact⟨[y,.bool true],rfl,by simp only [RepL]; exact⟨_,_,rfl,hy,_,_,rfl,by simp [Rep],rfl⟩⟩
       | false=>simpa [qv] using hy
      | false=>
       have h1:=(hg n).1 hh
       have hq1:=hq.2 hh
       have hy:Rep own w (kC z) σ z:=jU z
       refine⟨_,_,hrun _ h1,hq1,?_⟩
       cases ok with
       | true=>
        simp only [qv,cond_true,if_true,Rep]
        exact⟨[z,.bool false],rfl,by simp only [RepL]; exact⟨_,_,rfl,hy,_,_,rfl,by simp [Rep],rfl⟩⟩
       | false=>simpa [qv] using hy
     ·exact hq.elim
    ·exact hq.elim
   ·exact hq.elim
  | _=>simp only [xe] at hq; exact hq.elim
 | omap j=>exact Ja hh hx hi2 hq
 | _=>simp only [xe] at hq; exact hq.elim
theorem VQ{h:Heap}{own:Nat→Prop}(hh:HRep own w σ h){ρ:Operand→AV}{ρc:Operand→Value}(hρ:∀ x,Rep own w (ρ x) σ (ρc x)){o:Oper}{Q:AV→Prop}(hq:(valX P ρ h o.op).holds Q) :
  ∃ r v,(execOp ρc o).run P w = .ok (.value v) w∧Q r∧Rep own w r σ v:=by
 cases ho:o.op<;>rw [ho] at hq<;>simp only [valX] at hq<;>try exact hq.elim
 case move x=>exact⟨_,_,by simp only [execOp,ho]; rfl,hq,hρ x⟩
 case assign x=>exact⟨_,_,by simp only [execOp,ho]; rfl,hq,hρ x⟩
 case build t parts=>
  obtain⟨r,v,h1,h2⟩:=QZ hρ hq
  exact⟨r,v,by simp only [execOp,ho,Sem.run_bind,h1,Result.andThen_ok,Sem.run_pure],h2⟩
 case load t a=>
  obtain⟨r,v,h1,h2⟩:=yE hh (hρ a) hq
  exact⟨r,v,by simp only [execOp,ho,Sem.run_bind,h1,Result.andThen_ok,Sem.run_pure],h2⟩
 case nilCheck x=>exact Kz ho (hρ x) hq
 case binOp op t x y yt=>
  obtain⟨r,v,h1,h2⟩:=VT (x:=x) (y:=y) (hρ x) (hρ y) hq
  exact⟨r,v,by simp only [execOp,ho,Sem.run_bind] at h1 ⊢; rw [h1]; rfl,h2⟩
 case unOp op t x=>
  obtain⟨r,v,h1,h2⟩:=Yg (P:=P) (hρ x) hq
  exact⟨r,v,by simp only [execOp,ho,Sem.run_bind,h1,Result.andThen_ok,Sem.run_pure],h2⟩
 case convert s t x=>
  obtain⟨r,v,h1,h2⟩:=Wr hh (hρ x) hq
  exact⟨r,v,by simp only [execOp,ho,Sem.run_bind,h1,Result.andThen_ok,Sem.run_pure],h2⟩
 case makeFunc fn first cap=>
  cases fn with
  | func f=>
   refine⟨_,.func (.func f) (first.map ρc) (cap.map ρc),by simp [execOp,ho,Instr.makeFunc],hq,?_⟩
   simp only [Rep]
   exact⟨first.toList.map ρc,cap.toList.map ρc,by rw [← Array.toList_map,← Array.toList_map],xW hρ _,xW hρ _⟩
  | _=>exact hq.elim
 case slice t x l hi mx=>
  cases mx with
  | none=>
   obtain⟨r,v,h1,h2⟩:=QO hρ (hρ x) hq
   exact⟨r,v,by simp only [execOp,ho,Sem.run_bind,Option.map_none,h1,Result.andThen_ok,Sem.run_pure],h2⟩
  | some m=>
   cases hi with
   | none=>exact hq.elim
   | some h'=>
    obtain⟨r,v,h1,h2⟩:=Qy hρ (hρ x) hq
    exact⟨r,v,by simp only [execOp,ho,Sem.run_bind,Option.map_some,h1,Result.andThen_ok,Sem.run_pure],h2⟩
 case fieldAddr t x f=>
  split at hq
  ·rename_i o' a b hf
   obtain⟨r,v,h1,h2⟩:=yv hf (hρ x) hq
   exact⟨r,v,by simp only [execOp,ho,Sem.run_bind,h1,Result.andThen_ok,Sem.run_pure],h2⟩
  ·exact hq.elim
 case field t x f=>
  obtain⟨r,v,h1,h2⟩:=QI (hρ x) hq
  exact⟨r,v,by simp only [execOp,ho,Sem.run_bind,h1,Result.andThen_ok,Sem.run_pure],h2⟩
 case indexAddr t x i=>
  obtain⟨r,v,h1,h2⟩:=Za (hρ x) (hρ i) hq
  exact⟨r,v,by simp only [execOp,ho,Sem.run_bind,h1,Result.andThen_ok,Sem.run_pure],h2⟩
 case index t x i=>
  obtain⟨r,v,h1,h2⟩:=Jc (hρ x) (hρ i) hq
  exact⟨r,v,by simp only [execOp,ho,Sem.run_bind,h1,Result.andThen_ok,Sem.run_pure],h2⟩
 case lookup t x i ok=>
  obtain⟨r,v,h1,h2⟩:=Qf hh (hρ x) (hρ i) hq
  exact⟨r,v,by simp only [execOp,ho,Sem.run_bind,h1,Result.andThen_ok,Sem.run_pure],h2⟩
 case extract t i=>
  obtain⟨r,v,h1,h2⟩:=uW (P:=P) (hρ t) hq
  exact⟨r,v,by simp only [execOp,ho,Sem.run_bind,h1,Result.andThen_ok,Sem.run_pure],h2⟩
 case call c=>
  obtain⟨callee,args,ats⟩:=c
  cases callee with
  | builtin b=>
   cases b<;>try exact hq.elim
   case len=>
    obtain⟨args⟩:=args
    obtain⟨ats⟩:=ats
    match ats,args,hq with
    | [t],[x],hq=>
     obtain⟨r,v,h1,h2⟩:=VL (ty:=o.type) (hρ x) hq
     refine⟨r,v,?_,h2⟩
     simp only [execOp,ho,resolve,Sem.run_bind,Sem.run_pure,Result.andThen_ok,invoke,builtin,List.map_toArray,List.map_cons,List.map_nil]
     rw [h1]; rfl
    | [],_,hq=>exact hq.elim
    | _::_::_,_,hq=>exact hq.elim
    | [_],[],hq=>exact hq.elim
    | [_],_::_::_,hq=>exact hq.elim
   case max=>
    obtain⟨r,v,h1,h2⟩:=(x9 (P:=P) (t:=ats) (ty:=o.type) hρ hq).1 rfl
    refine⟨r,v,?_,h2⟩
    simp only [execOp,ho,resolve,Sem.run_bind,Sem.run_pure,Result.andThen_ok,invoke,builtin]
    rw [show(args.map ρc)=(args.toList.map ρc).toArray by rw [← Array.toList_map],h1]; rfl
   case min=>
    obtain⟨r,v,h1,h2⟩:=(x9 (P:=P) (t:=ats) (ty:=o.type) hρ hq).2 rfl
    refine⟨r,v,?_,h2⟩
    simp only [execOp,ho,resolve,Sem.run_bind,Sem.run_pure,Result.andThen_ok,invoke,builtin]
    rw [show(args.map ρc)=(args.toList.map ρc).toArray by rw [← Array.toList_map],h1]; rfl
  | _=>exact hq.elim
theorem Post.still{h:Heap}(hg:Good O w σ)(hh:HRep (Own O σ) w σ h){r:AV}{v:Value}(hr:Rep (Own O σ) w r σ v):Post O w σ h ⟨r,[],[]⟩ v w σ :=
 ⟨hr,Ext.refl _ _,hh,Hold.refl _ _ _,hg,fun _ _ _=>rfl,fun _ _ _ _ _ _=>rfl⟩
theorem Xm{Xp:List PanicEntry→Prop}{h:Heap}{Γ:Nat→Option Ctr}(hΓ:∀ g c,Γ g=some c→qg Xp P g c)(hg:Good O w σ)(hh:HRep (Own O σ) w σ h){a:Act}{ρ:Operand→AV}(hρ:∀ x,Rep (Own O σ) w (ρ x) σ (a.eval x)){o:Oper}
  {Q:Res→Prop} (hq:(opX P Γ ρ h o.op).holds Q) {K:Act→World→Prop} {Qe:Exit→Act→World→Prop} (hK:∀ r v w' σ',Q r→Post O w σ h r v w' σ'→K (a.put o.dst v) w') (hD:∀ ch w',Xp ch→Died σ w w'→Qe (.panic ch) a w'):o.wp P a w K Qe:=by
 have hval:(valX P ρ h o.op).holds (fun v=>Q ⟨v,[],[]⟩)→o.wp P a w K Qe:=fun hq=>by
  obtain⟨r,v,h1,h2,h3⟩:=VQ (P:=P) hh hρ hq
  unfold Oper.wp
  rw [h1]
  exact hK _ v w σ h2 (Post.still hg hh h3)
 cases ho:o.op<;>rw [ho] at hq hval<;>simp only [opX] at hq<;>try exact hval (Tree.zl.1 hq)
 case alloc t=>
  split at hq
  ·rename_i cs hz
   obtain⟨v,hv,hr⟩:=wC (P:=P) (own:=Own O σ) (w:=w) (σ:=σ) hz
   unfold Oper.wp
   have:(execOp a.eval o).run P w = .ok (.value (.pointer (some ⟨w.heap.size,0,none⟩))) (w.alloc (.cells v.cells t)):=by
    simp only [execOp,ho,Instr.alloc,Sem.run_bind,hv,Result.andThen_ok]
    simp [newVar,newRow]
   rw [this]
   have hp:=yi hg hh (el:=t) hr
   simp only [Array.toArray_toList] at hp
   exact hK _ _ _ _ hq hp
  ·exact hq.elim
 case box t x=>
  split at hq
  ·rename_i cs hc
   have hr:=qf hc (hρ x)
   unfold Oper.wp
   have:(execOp a.eval o).run P w = .ok (.value (.pointer (some ⟨w.heap.size,0,none⟩))) (w.alloc (.cells (a.eval x).cells t)):=by
    simp only [execOp,ho,Instr.box,Sem.run_bind]
    simp [newVar,newRow]
   rw [this]
   have hp:=yi hg hh (el:=t) hr
   simp only [Array.toArray_toList] at hp
   exact hK _ _ _ _ hq hp
  ·exact hq.elim
 case buildSlice t len parts=>
  split at hq
  ·rename_i e hu
   split at hq
   ·rename_i zs sz hz hs
    split at hq
    ·rename_i hlen
     split at hq
     ·rename_i cs hf
      rw [Bool.cond_eq_ite] at hq
      split at hq
      ·obtain⟨v,w',σ',h1,h2⟩:=uh hg hh hρ hu hz hs hlen.1 hlen.2 hf
       unfold Oper.wp
       have:(execOp a.eval o).run P w = .ok (.value v) w':=by
        simp only [execOp,ho,Sem.run_bind,h1,Result.andThen_ok,Sem.run_pure]
       rw [this]
       exact hK _ _ _ _ hq h2
      split at hq
      ·rename_i cs' k hfr
       obtain⟨v,w',σ',h1,h2⟩:=xX hg hh hρ hu hz hs hlen.1 hlen.2 hf hfr
       unfold Oper.wp
       have:(execOp a.eval o).run P w = .ok (.value v) w':=by
        simp only [execOp,ho,Sem.run_bind,h1,Result.andThen_ok,Sem.run_pure]
       rw [this]
       exact hK _ _ _ _ hq h2
      ·exact hq.elim
     ·exact hq.elim
    ·exact hq.elim
   ·exact hq.elim
  ·exact hq.elim
 case store t x y=>
  have hst:∀ w',(Instr.storeAt t (a.eval x) (a.eval y)).run P w = .ok () w'→(execOp a.eval o).run P w = .ok .skip w':=fun w' h=>by
   simp only [execOp,ho,Sem.run_bind,h,Result.andThen_ok,Sem.run_pure]
  have hx:=hρ x
  have hy:=hρ y
  generalize ρ x=ax at hx hq
  generalize ρ y=ay at hy hq
  cases ax with
  | ptr i off=>
   simp only [Wz] at hq
   split at hq
   ·rename_i cells n cv hb hn hc
    split at hq
    ·rename_i hcond
     obtain⟨w',h1,h2⟩:=Zx hg hh hx hb hn (qf hc hy) hcond.1 hcond.2.1 hcond.2.2
     unfold Oper.wp
     rw [hst w' h1]
     exact hK _ _ _ _ hq h2
    ·exact hq.elim
   ·exact hq.elim
  | eptr i sz idx off=>
   simp only [Wz] at hq
   split at hq
   ·rename_i N sz' g n cv hb hn hc
    split at hq
    ·rename_i hcond
     split at hq
     ·rename_i cv' k hf
      split at hq
      ·exact hq.elim
      ·rename_i hk
       obtain⟨rfl,hc1,hc2⟩:=hcond
       obtain⟨w',σ',h1,h2⟩:=xZ hg hh hx hb hn (qf hc hy) hc1 hc2 hf (by simpa using hk)
       unfold Oper.wp
       rw [hst w' h1]
       exact hK _ _ _ _ hq h2
     ·exact hq.elim
    ·exact hq.elim
   ·rename_i k N f n k' v hb hn hc
    split at hq
    ·rename_i hcond
     obtain⟨rfl,rfl,rfl⟩:=hcond
     obtain⟨w',σ',h1,h2⟩:=Ws hg hh hx hb hn hc hy
     unfold Oper.wp
     rw [hst w' h1]
     exact hK _ _ _ _ hq h2
    ·exact hq.elim
   ·rename_i N f n v hb hn hc
    split at hq
    ·rename_i hcond
     obtain⟨rfl,rfl⟩:=hcond
     obtain⟨w',σ',h1,h2⟩:=Wp hg hh hx hb hn hc hy
     unfold Oper.wp
     rw [hst w' h1]
     exact hK _ _ _ _ hq h2
    ·exact hq.elim
   ·rename_i cells n cv hb hn hc
    split at hq
    ·rename_i hcond
     have hx':Rep (Own O σ) w (.ptr i (idx*sz+off)) σ (a.eval x):=by
      simp only [Rep] at hx ⊢
      obtain⟨e,ad,g1,g2,_,g3⟩:=hx
      exact⟨e,ad,g1,g2,g3⟩
     obtain⟨w',h1,h2⟩:=Zx hg hh hx' hb hn (qf hc hy) hcond.1 hcond.2.1 hcond.2.2
     unfold Oper.wp
     rw [hst w' h1]
     exact hK _ _ _ _ hq h2
    ·exact hq.elim
   ·exact hq.elim
  | _=>exact hq.elim
 case makeMap t r=>
  cases r with
  | none=>
   obtain⟨r,v,w',σ',h1,h2,h3⟩:=Zb (P:=P) hg hh hq
   unfold Oper.wp
   have:(execOp a.eval o).run P w = .ok (.value v) w':=by
    simp only [execOp,ho,Sem.run_bind,Option.map_none,h1,Result.andThen_ok,Sem.run_pure]
   rw [this]
   exact hK _ _ _ _ h2 h3
  | some _=>exact hval (Tree.zl.1 hq)
 case mapUpdate t m k x=>
  obtain⟨r,w',σ',h1,h2,h3⟩:=y9 (P:=P) hg hh (hρ m) (hρ k) (hρ x) hq
  unfold Oper.wp
  have:(execOp a.eval o).run P w = .ok .skip w':=by
   simp only [execOp,ho,Sem.run_bind,h1,Result.andThen_ok,Sem.run_pure]
  rw [this]
  exact hK _ _ _ _ h2 h3
 case mapEntry t m k=>
  obtain⟨r,v,w',σ',h1,h2,h3⟩:=JO (P:=P) hg hh (hρ m) (hρ k) hq
  unfold Oper.wp
  have:(execOp a.eval o).run P w = .ok (.value v) w':=by
   simp only [execOp,ho,Sem.run_bind,h1,Result.andThen_ok,Sem.run_pure]
  rw [this]
  exact hK _ _ _ _ h2 h3
 case entryStore t m s x=>
  obtain⟨r,w',σ',h1,h2,h3⟩:=W6 (P:=P) (t:=t) hg hh (hρ m) (hρ s) (hρ x) hq
  unfold Oper.wp
  have:(execOp a.eval o).run P w = .ok .skip w':=by
   simp only [execOp,ho,Sem.run_bind,h1,Result.andThen_ok,Sem.run_pure]
  rw [this]
  exact hK _ _ _ _ h2 h3
 case insert t m k x=>
  obtain⟨r,w',σ',h1,h2,h3⟩:=y9 (P:=P) hg hh (hρ m) (hρ k) (hρ x) hq
  unfold Oper.wp
  have:(execOp a.eval o).run P w = .ok .skip w':=by
   simp only [execOp,ho,Sem.run_bind,h1,Result.andThen_ok,Sem.run_pure]
  rw [this]
  exact hK _ _ _ _ h2 h3
 case makeSlice t l c=>
  split at hq
  ·rename_i e kl lv kc cv hu hl hc
   split at hq
   ·rename_i i z hi hz
    split at hq
    ·rename_i hcond
     obtain⟨hsd,hq⟩:=hq
     have hQ:=hq hsd
     have hl':=hρ l
     have hc':=hρ c
     rw [hl] at hl'
     rw [hc] at hc'
     simp only [Rep] at hl' hc'
     obtain⟨v,w',σ',h1,h2⟩:=yu (kl:=kl) (kc:=kc) hg hh hu hi hz hcond.1 hcond.2 hsd.1 hsd.2.1 hsd.2.2.1 hsd.2.2.2
     unfold Oper.wp
     have:(execOp a.eval o).run P w = .ok (.value v) w':=by
      simp only [execOp,ho,Sem.run_bind,hl',hc',h1,Result.andThen_ok,Sem.run_pure]
     rw [this]
     exact hK _ _ _ _ hQ h2
    ·exact hq.elim
   ·exact hq.elim
  ·exact hq.elim
 case call c=>
  obtain⟨callee,args,ats⟩:=c
  cases callee with
  | builtin b=>
   by_cases hb:b = .append
   ·subst hb
    obtain⟨args⟩:=args
    obtain⟨ats⟩:=ats
    match ats,args,hq with
    | [t,tx],[x,y],hq=>
     obtain⟨r,v,w',σ',h1,h2,h3⟩:=Q2 (ty:=o.type) hg hh (hρ x) (hρ y) hq
     unfold Oper.wp
     have:(execOp a.eval o).run P w = .ok (.value v) w':=by
      simp only [execOp,ho,resolve,Sem.run_bind,Sem.run_pure,Result.andThen_ok,invoke,builtin,List.map_toArray,List.map_cons,List.map_nil]
      rw [h1]; rfl
     rw [this]
     exact hK _ _ _ _ h2 h3
    | [],_,hq=>exact hq.elim
    | [_],_,hq=>exact hq.elim
    | _::_::_::_,_,hq=>exact hq.elim
    | [_,_],[],hq=>exact hq.elim
    | [_,_],[_],hq=>exact hq.elim
    | [_,_],_::_::_::_,hq=>exact hq.elim
   ·by_cases hb2:b = .delete
    ·subst hb2
     obtain⟨args⟩:=args
     obtain⟨ats⟩:=ats
     match ats,args,hq with
     | [t,tk],[m,k],hq=>
      obtain⟨r,w',σ',h1,h2,h3⟩:=Wx (P:=P) (ty:=o.type) (tk:=tk) hg hh (hρ m) (hρ k) hq
      unfold Oper.wp
      have:(execOp a.eval o).run P w = .ok (.value (.tuple #[])) w':=by
       simp only [execOp,ho,resolve,Sem.run_bind,Sem.run_pure,Result.andThen_ok,invoke,builtin,List.map_toArray,List.map_cons,List.map_nil]
       rw [h1]; rfl
      rw [this]
      exact hK _ _ _ _ h2 h3
     | [],_,hq=>exact hq.elim
     | [_],_,hq=>exact hq.elim
     | _::_::_::_,_,hq=>exact hq.elim
     | [_,_],[],hq=>exact hq.elim
     | [_,_],[_],hq=>exact hq.elim
     | [_,_],_::_::_::_,hq=>exact hq.elim
    ·refine hval ?_
     cases b<;>first | exact absurd rfl hb | exact absurd rfl hb2 | exact Tree.zl.1 hq
  | invoke r m=>exact hq.elim
  | value f=>
   have hf:=hρ f
   simp only at hq
   generalize ρ f=af at hf hq
   cases af with
   | fn g first cap=>
    simp only [Rep] at hf
    obtain⟨va,vb,hv,h1,h2⟩:=hf
    have hargs:=(h1.app (xW hρ args.toList)).app h2
    have hc:=W8 (P:=P) hΓ hg hh hargs hq
    have hcall:(execOp a.eval o).run P w=(callFunc g (va++args.toList.map a.eval++vb).toArray).run P w:=by
     simp only [execOp,ho,resolve,hv,Deferred.ofValue,Sem.run_bind,Sem.run_pure,Result.andThen_ok,invoke]
     congr 2
     simp
    unfold Oper.wp
    rcases hc with ⟨h3,h4⟩ | ⟨v,w',h3,r,σ',h4,h5⟩
    ·rw [hcall,h3]
     refine h4.mono fun e w' he=> ?_
     rcases he with ⟨v,he,r,σ',hQ,hP⟩ | ⟨ch,he,h5,h6⟩
     ·subst he; exact hK _ _ _ _ hQ hP
     ·subst he; exact hD ch w' h5 h6
    ·rw [hcall,h3]
     exact hK _ _ _ _ h4 h5
   | _=>exact hq.elim
theorem QM{h:Heap}{Γ:Nat→Option Ctr}{ρ:Operand→AV}{op:Op}{Q:Res→Prop}(hq:(opX P Γ ρ h op).holds Q):∀ c,op≠.defer c:=by
 rintro c rfl
 exact hq.elim
end
def FM:Option Nat→Fence
 | none=>Fence.wide
 | some l=>Fence.wide.inRound l
theorem X5(M:Option Nat)(f:Nat):(FM M).fn f:=by cases M<;>trivial
theorem KJ(M:Option Nat):(FM M).depth=none:=by cases M<;>rfl
theorem Z6(P:Program)(M:Option Nat):Machine.fenced P (FM M)=Machine.fenced P Fence.wide:=by cases M<;>rfl
theorem YL{P:Program}{M:Option Nat}{n:Nat}{f:FuncId}{args:Array Value}{w:World}{R:Ending→World→Prop}(h:Calls P f args w R):CallsIn (FM M) n P f args w R:=by
 refine⟨X5 M f,fun cs _=> ?_⟩
 obtain⟨e,w',fr,r,s,x⟩:=h cs
 exact⟨e,w',fr,r,by rw [Z6]; exact comesIn_wide.2 s,x⟩
theorem uT{P:Program}{M:Option Nat}{n:Nat}{o:Oper}{a:Act}{w:World}{K:Act→World→Prop}{Qe:Exit→Act→World→Prop}(hd:∀ c,o.op≠.defer c)(h:o.wp P a w K Qe):o.wpIn (FM M) n P a w K Qe:=by
 refine⟨fun f _=>X5 M f,?_⟩
 rw [Oper.semAt_eq _ _ _ hd]
 unfold Oper.wp at h
 have hdep:(FM M).depth.isSome=true→1≤n:=by rw [KJ]; simp
 cases hr:(execOp a.eval o).run P w with
 | ok x w'=>
  rw [hr] at h
  cases x<;>first
   | exact h
   | exact⟨hdep,YL h⟩
   | exact⟨hdep,fun c cs _=>by
     obtain⟨v,w'',r,s⟩:=h c cs
     exact⟨v,w'',r,by rw [Z6]; exact stepsIn_wide.2 s⟩⟩
   | exact h.elim
 | halt x w'=>
  rw [hr] at h
  cases x<;>first
   | exact h
   | exact h.elim
end Go.Sx
end
section
namespace Go.Sx
variable [Stat]
open Go.RowKit (Below)
def TRep(own:Nat→Prop)(w:World)(σ:List SE)(tmps:Array Value):AV→Value→Prop
 | .opt t want x,v=>(tmps.getD t undef = .bool want∧Rep own w x σ v)∨(tmps.getD t undef≠.bool want∧v=undef)
 | a,v=>Rep own w a σ v
def w4(pin:Nat)(w:World)(σ:List SE)(w':World)(σ':List SE):Prop:=
 ∀ (i:Nat) (e:SE),i<pin→σ[i]?=some e→σ'[i]?=some e∧∀ ad,e.ad=some ad→∀ cs el,w.heap[ad.block]?=some (.cells cs el (0,0)) →
  ∃ cs' el',w'.heap[ad.block]?=some (.cells cs' el' (0,0))∧cs'.size=cs.size
structure Stp(O:Nat→Prop)(pin:Nat)(w:World)(σ:List SE)(w':World)(σ':List SE):Prop where
 ext:Ext (Own O σ) w (Own O σ') w'
 wZ:∀ b,O b→b<w.heap.size→w'.heap[b]?=w.heap[b]?
 hold:w4 pin w σ w' σ'
theorem Stp.refl(O:Nat→Prop)(pin:Nat)(w:World)(σ:List SE):Stp O pin w σ w σ:=⟨Ext.refl _ _,fun _ _ _=>rfl,fun _ _ _ h=>⟨h,fun _ _ cs el h=>⟨cs,el,h,rfl⟩⟩⟩
theorem Stp.trans{O:Nat→Prop}{pin:Nat}{w1 w2 w3:World}{σ1 σ2 σ3:List SE}(h:Stp O pin w1 σ1 w2 σ2)(k:Stp O pin w2 σ2 w3 σ3):Stp O pin w1 σ1 w3 σ3:=
 ⟨h.ext.trans k.ext,fun b hb hlt=>(k.wZ b hb (Nat.lt_of_lt_of_le hlt h.ext.size)).trans (h.wZ b hb hlt),fun i e hi he=>by
  obtain⟨h1,h2⟩:=h.hold i e hi he
  obtain⟨h3,h4⟩:=k.hold i e hi h1
  refine⟨h3,fun ad had cs el hcs=> ?_⟩
  obtain⟨cs2,el2,h5,h6⟩:=h2 ad had cs el hcs
  obtain⟨cs3,el3,h7,h8⟩:=h4 ad had cs2 el2 h5
  exact⟨cs3,el3,h7,h8.trans h6⟩⟩
theorem w4.of{K:List Nat}{pin:Nat}{w w':World}{σ σ':List SE}(h:Hold K w σ w' σ')(hk:∀ i∈K,pin≤i):w4 pin w σ w' σ':=
 fun i e hi he=>h i e he fun hm=>by have:=hk i hm; omega
def Marks(w0:World)(own:Nat→Prop)(w:World)(ds:List Deferred):Prop:=
 ds.Nodup∧∀ d∈ds,∃ D,d={ target:=.collected D,args:= #[] } ∧ w0.heap.size≤D∧¬ own D∧w.heap[D]?=some (.deferred (some []))
theorem Marks.nil(w0:World)(own:Nat→Prop)(w:World):Marks w0 own w []:=⟨List.nodup_nil,fun d hd=>by cases hd⟩
theorem Marks.ext{w0 w w':World}{own own':Nat→Prop}{ds:List Deferred}(h:Marks w0 own w ds)(hx:Ext own w own' w'):Marks w0 own' w' ds:=
 ⟨h.1,fun d hd=>by
  obtain⟨D,h1,h2,h3,h4⟩:=h.2 d hd
  have hlt:=(Array.getElem?_eq_some_iff.1 h4).1
  exact⟨D,h1,h2,hx.yh hlt h3,by rw [hx.keep D hlt h3]; exact h4⟩⟩
structure Mod(O:Nat→Prop)(pin:Nat)(w0:World)(σ0:List SE)(w:World)(σ:List SE)(st:St)(a:Act):Prop where
 good:Good O w σ
 hp:HRep (Own O σ) w σ st.heap
 size:a.tmps.size=st.tmps.length
 tm:∀ t,TRep (Own O σ) w σ a.tmps (st.tmps.getD t .undef) (a.tmps.getD t undef)
 df:Marks w0 (Own O σ) w a.defers
 since:Stp O pin w0 σ0 w σ
 lim:wT (Own O σ0) w0
section
variable {O:Nat→Prop} {pin:Nat} {w0:World} {σ0:List SE} {w:World} {σ:List SE} {P:Program} {st:St} {a:Act}
structure Dead(σ0:List SE)(w0 w':World)(ds:List Deferred):Prop where
 died:Died σ0 w0 w'
 df:Marks w0 (fun _=>False) w' ds
theorem Mod.dead{w':World}(hm:Mod O pin w0 σ0 w σ st a)(h:Died σ w w'):Dead σ0 w0 w' a.defers:=by
 refine⟨⟨h.os.trans hm.since.ext.os,h.tape.trans hm.since.ext.tape,h.output.trans hm.since.ext.output,Nat.le_trans hm.since.ext.size h.size,fun b hb hn=> ?_,fun b hb=>hb.elim⟩,hm.df.ext ⟨h.os,h.tape,h.output,h.size,fun b hb hn=>h.keep b hb fun hx=>hn (.inr hx),fun b hb=>hb.elim⟩⟩
 have h1:¬ Mine σ b:=fun hx=>by
  obtain⟨i,e,ad,g1,g2,g3⟩:=zu.1 hx
  rcases hm.since.ext.grow b (.inr hx) with hy | hy
  ·rcases hy with hy | hy
   ·exact hm.good.dis i e ad g1 g2 (g3▸hy)
   ·exact hn hy
  ·omega
 rw [h.keep b (Nat.lt_of_lt_of_le hb hm.since.ext.size) h1]
 by_cases hO:O b
 ·exact hm.since.wZ b hO hb
 ·exact hm.since.ext.keep b hb fun hx=>by rcases hx with hx | hx; exact hO hx; exact hn hx
theorem TRep.rep{own:Nat→Prop}{tmps:Array Value}{x:AV}{v:Value}(h:TRep own w σ tmps x v):Rep own w (see [] x) σ v:=by
 cases x<;>simp only [TRep,see] at h ⊢ <;> first | exact h | simp [Rep]
theorem VW{own:Nat→Prop}{tmps:Array Value}{K:List (Nat×Bool)}(hK:∀ p∈K,tmps.getD p.1 undef = .bool p.2){x:AV}{v:Value}(h:TRep own w σ tmps x v):Rep own w (see K x) σ v:=by
 cases x with
 | opt t want x=>
  simp only [TRep,see] at h ⊢
  split
  ·rename_i hc
   have:=hK (t,want) (by simpa using hc)
   rcases h with h | h
   ·exact h.2
   ·exact absurd this h.1
  ·simp [Rep]
 | _=>simpa only [TRep,see] using h
theorem vw(hm:Mod O pin w0 σ0 w σ st a){K:List (Nat×Bool)}(hK:∀ p∈K,a.tmps.getD p.1 undef = .bool p.2)(x:Operand):Rep (Own O σ) w (zG st K x) σ (a.eval x):=by
 cases x with
 | tmp t=>exact VW hK (hm.tm t)
 | const v=>exact jU v
 | global g=>
  simp only [zG,Act.eval]
  cases hz:Stat.z g with
  | none=>simp [Rep]
  | some a=>
   obtain⟨h1,c,h2,h3,_⟩:=hm.good.stat.at_ g a hz
   simp only [Rep]
   exact⟨⟨g,0,none⟩,rfl,rfl,fun o ho=>⟨h1,c,(by
    have:o=0:=by omega
    subst this; exact h2),h3⟩⟩
 | func f=>simp only [zG,Act.eval,Rep]; exact⟨[],[],rfl,by simp [RepL],by simp [RepL]⟩
theorem Zp{own own':Nat→Prop}{w':World}{σ':List SE}{K:List Nat}{tmps tmps':Array Value}(hx:Ext own w own' w')(hh:Hold K w σ w' σ'){x:AV}{v:Value}(h:TRep own w σ tmps x v)
  (ht:∀ t want y,x = .opt t want y→tmps'.getD t undef=tmps.getD t undef):TRep own' w' σ' tmps' (z5 K x) v:=by
 cases K with
 | nil=>
  simp only [z5]
  cases x with
  | opt t want y=>
   simp only [TRep] at h ⊢
   rw [ht t want y rfl]
   rcases h with ⟨h1,h2⟩ | h
   ·exact .inl ⟨h1,qa hx hh y v (jb y) h2⟩
   ·exact .inr h
  | _=>simp only [TRep] at h ⊢; exact qa hx hh _ v (jb _) h
 | cons i k=>
  have hno:∀ t want y,z5 (i::k) x≠.opt t want y:=by
   have h1:∀ (L:List Nat) (z:AV),(∀ t want y,z≠.opt t want y)→∀ t want y,z5 L z≠.opt t want y:=by
    intro L
    induction L with
    | nil=>intro z hz; exact hz
    | cons j L ih=>
     intro z hz
     apply ih
     intro t want y
     cases z<;>simp only [zO,qw]<;>(try (intro h; cases h; done))<;>(try (split<;>intro h<;>cases h))<;>(try exact hz t want y)
   exact h1 k (zO i x) (by
    intro t want y
    cases x<;>simp only [zO,qw]<;>(try (intro h; cases h; done))<;>(try (split<;>intro h<;>cases h)))
  have hr:Rep own' w' (z5 (i::k) x) σ' v:=by
   have hx':Rep own w (z5 (i::k) x) σ v:=by
    cases x with
    | opt t want y=>
     have:Rep own w (.opt t want y) σ v:=by simp [Rep]
     exact jt this
    | _=>exact jt (by simpa only [TRep] using h)
   exact qa hx hh _ v (v7 _ _) hx'
  generalize z5 (i::k) x=z at hno hr
  cases z with
  | opt t want y=>exact absurd rfl (hno t want y)
  | _=>simpa only [TRep] using hr
theorem getD_map{f:AV→AV}(hf:f .undef = .undef)(l:List AV)(t:Nat):(l.map f).getD t .undef=f (l.getD t .undef):=by
 simp only [List.getD,List.getElem?_map]
 cases l[t]?<;>simp [hf]
theorem jz:∀ K:List Nat,z5 K .undef = .undef
 | []=>rfl
 | i::k=>by simp only [z5,zO,qw]; exact jz k
theorem X6{own:Nat→Prop}{d:Nat}{tmps tmps':Array Value}{x:AV}{v:Value}(h:TRep own w σ tmps x v)(ht:∀ t,t≠d→tmps'.getD t undef=tmps.getD t undef):TRep own w σ tmps' (zQ d x) v:=by
 cases x with
 | opt t want y=>
  simp only [zQ]
  split
  ·simp [TRep,Rep]
  ·rename_i hne
   simp only [TRep] at h ⊢
   rw [ht t hne]; exact h
 | _=>simpa only [zQ,TRep] using h
theorem ve(hm:Mod O pin w0 σ0 w σ st a){r:Res}{v:Value}{w':World}{σ':List SE}(hp:Post O w σ st.heap r v w' σ')(hpin:∀ i∈r.kill,pin≤i)(dst:Option Nat){x:AV}
  (hx:∀ d,dst=some d→TRep (Own O σ') w' σ' (a.put dst v).tmps x v):Mod O pin w0 σ0 w' σ' (putX st dst ⟨x,r.eff,r.kill⟩) (a.put dst v):=by
 have htk:∀ t,TRep (Own O σ') w' σ' a.tmps ((wK r.kill st.tmps).getD t .undef) (a.tmps.getD t undef):=fun t=>by
  rw [jr,getD_map (jz _)]
  exact Zp hp.ext hp.hold (hm.tm t) (fun _ _ _ _=>rfl)
 cases dst with
 | none=>
  exact⟨hp.good,hp.hp,by simp [putX,Act.put,jr,hm.size],htk,hm.df.ext hp.ext,hm.since.trans ⟨hp.ext,hp.wZ,w4.of hp.hold hpin⟩,hm.lim⟩
 | some d=>
  have hsz:(a.put (some d) v).tmps.size=a.tmps.size:=by simp [Act.put]
  refine⟨hp.good,hp.hp,by simp [putX,jr,hm.size,hsz],fun t=> ?_,by simpa [Act.put] using hm.df.ext hp.ext,hm.since.trans ⟨hp.ext,hp.wZ,w4.of hp.hold hpin⟩,hm.lim⟩
  have hl:((wK r.kill st.tmps).map (zQ d)).length=a.tmps.size:=by simp [jr,hm.size]
  simp only [putX]
  by_cases htd:t=d
  ·subst htd
   by_cases hlt:t<a.tmps.size
   ·have e1:(((wK r.kill st.tmps).map (zQ t)).set t x).getD t .undef=x:=by
     simp only [List.getD]
     rw [List.getElem?_set_self (by rw [hl]; exact hlt)]; rfl
    have e2:(a.put (some t) v).tmps.getD t undef=v:=by simp [Act.put,hlt]
    rw [e1,e2]
    exact hx t rfl
   ·have e1:(((wK r.kill st.tmps).map (zQ t)).set t x).getD t .undef = .undef:=by
     simp only [List.getD]
     rw [List.getElem?_eq_none (by simp [jr]; rw [← hm.size]; omega)]; rfl
    rw [e1]
    simp [TRep,Rep]
  ·have e1:(((wK r.kill st.tmps).map (zQ d)).set d x).getD t .undef=zQ d ((wK r.kill st.tmps).getD t .undef):=by
    rw [← getD_map (f:=zQ d) rfl]
    simp only [List.getD]
    rw [List.getElem?_set_ne (fun h=>htd h.symm)]
   have hother:∀ u,u≠d→(a.put (some d) v).tmps.getD u undef=a.tmps.getD u undef:=fun u hu=>by
    simp only [Act.put,Array.getD_eq_getD_getElem?]
    rw [Array.getElem?_setIfInBounds_ne (fun h=>hu h.symm)]
   rw [e1,hother t htd]
   exact X6 (htk t) hother
theorem jG{q:Prop}{u:Nat}{want:Bool}{Q:Res→Prop}(hq:q):∀ {t:Tree Res},(wU q u want t).holds Q→t.holds fun r=>∃ v,r=⟨v,[],[]⟩∧Q ⟨.opt u want v,[],[]⟩
 | .leaf ⟨v,[],[]⟩,h=>⟨v,rfl,h⟩
 | .leaf ⟨_,_::_,_⟩,h=>h.elim
 | .leaf ⟨_,[],_::_⟩,h=>h.elim
 | .ite _ _ _,h=>⟨fun hb=>jG hq (h.1 hb),fun hb=>jG hq (h.2 hb)⟩
 | .side _ _,h=>⟨h.1 hq,fun _=>jG hq (h.2 h.1)⟩
 | .ex _ _,h=>by obtain⟨x,h1,h2⟩:=h; exact⟨x,h1 hq,jG hq h2⟩
 | .all _ _,h=>by
  obtain⟨⟨x,h1⟩,h2⟩:=h
  exact⟨⟨x,h1 hq⟩,fun y hy=>jG hq (h2 y fun _=>hy)⟩
 | .fail,h=>h.elim
theorem wu{q:Prop}{u:Nat}{want:Bool}{Q:Res→Prop} : ∀ {t:Tree Res},(wU q u want t).holds Q→∃ v,Q ⟨.opt u want v,[],[]⟩
 | .leaf ⟨v,[],[]⟩,h=>⟨v,h⟩
 | .leaf ⟨_,_::_,_⟩,h=>h.elim
 | .leaf ⟨_,[],_::_⟩,h=>h.elim
 | .ite true _ _,h=>wu (h.1 rfl)
 | .ite false _ _,h=>wu (h.2 rfl)
 | .side _ _,h=>wu (h.2 h.1)
 | .ex _ _,h=>by obtain⟨x,_,h2⟩:=h; exact wu h2
 | .all _ _,h=>by obtain⟨⟨x,h1⟩,h2⟩:=h; exact wu (h2 x h1)
 | .fail,h=>h.elim
theorem jl{q:Prop}{u:Nat}{want:Bool}{Q Q':Res→Prop}(hQ:∀ v,Q ⟨.opt u want v,[],[]⟩→Q' ⟨.opt u want v,[],[]⟩):∀ {t:Tree Res},(wU q u want t).holds Q→(wU q u want t).holds Q'
 | .leaf ⟨v,[],[]⟩,h=>hQ v h
 | .leaf ⟨_,_::_,_⟩,h=>h.elim
 | .leaf ⟨_,[],_::_⟩,h=>h.elim
 | .ite _ _ _,h=>⟨fun hb=>jl hQ (h.1 hb),fun hb=>jl hQ (h.2 hb)⟩
 | .side _ _,h=>⟨h.1,fun hp=>jl hQ (h.2 hp)⟩
 | .ex _ _,h=>by obtain⟨x,h1,h2⟩:=h; exact⟨x,h1,jl hQ h2⟩
 | .all _ _,h=>⟨h.1,fun x hx=>jl hQ (h.2 x hx)⟩
 | .fail,h=>h.elim
theorem vr(hm:Mod O pin w0 σ0 w σ st a):∀ (n t:Nat) (want:Bool),a.tmps.getD t undef = .bool want→∀ p∈q5 st.tmps n t want,a.tmps.getD p.1 undef = .bool p.2
 | 0,t,want,h,p,hp=>by simp [q5] at hp; subst hp; exact h
 | n+1,t,want,h,p,hp=>by
  simp only [q5,List.mem_cons] at hp
  rcases hp with rfl | hp
  ·exact h
  ·have ht:=hm.tm t
   generalize st.tmps.getD t .undef=x at ht hp
   cases x<;>simp only at hp<;>try (cases hp; done)
   rename_i u w' y
   simp only [TRep] at ht
   rcases ht with ⟨h1,_⟩ | ⟨_,h2⟩
   ·exact vr hm n u w' h1 p hp
   ·rw [h2] at h; cases h
theorem vL(hm:Mod O pin w0 σ0 w σ st a):∀ (n t:Nat) (want:Bool) (q:Prop),jn st.tmps n t want=some q→a.tmps.getD t undef = .bool want→q
 | 0,t,want,q,hq,h=>by simp [jn] at hq
 | n+1,t,want,q,hq,h=>by
  simp only [jn] at hq
  have ht:=hm.tm t
  generalize st.tmps.getD t .undef=x at ht hq
  split at hq
  ·rename_i b
   simp only [TRep,Rep] at ht
   rw [ht] at h
   cases hq
   cases h; rfl
  ·rename_i u w' b
   split at hq
   ·rename_i p hp
    cases hq
    simp only [TRep,Rep] at ht
    rcases ht with ⟨h1,h2⟩ | ⟨_,h2⟩
    ·rw [h2] at h
     cases h
     exact⟨vL hm n u w' p hp h1,rfl⟩
    ·rw [h2] at h; cases h
   ·cases hq
  ·cases hq
theorem xa(hm:Mod O pin w0 σ0 w σ st a):∀ (n t:Nat) (want:Bool) (g:Bool),kf st.tmps n t want=some g→(a.tmps.getD t undef = .bool want↔g=true)
 | 0,t,want,g,hq=>by simp [kf] at hq
 | n+1,t,want,g,hq=>by
  simp only [kf] at hq
  have ht:=hm.tm t
  generalize st.tmps.getD t .undef=x at ht hq
  split at hq
  ·rename_i b
   simp only [TRep,Rep] at ht
   rw [ht]
   cases hq
   cases b<;>cases want<;>simp
  ·rename_i u w' b
   split at hq
   ·rename_i g' hg'
    cases hq
    have ih:=xa hm n u w' g' hg'
    simp only [TRep,Rep] at ht
    rcases ht with ⟨h1,h2⟩ | ⟨h1,h2⟩
    ·rw [h2,ih.1 h1]
     cases b<;>cases want<;>simp
    ·rw [h2]
     have:g'=false:=by
      cases g' with
      | false=>rfl
      | true=>exact absurd (ih.2 rfl) h1
     rw [this]
     simp [undef]
   ·cases hq
  ·cases hq
theorem JM(hm:Mod O pin w0 σ0 w σ st a){K:List (Nat×Bool)}(hK:∀ p∈K,a.tmps.getD p.1 undef = .bool p.2){o:Oper}{t:Nat}{x y:Operand}(ho:o.op = .pick (.tmp t) x y){Q:AV→Prop}
  (hq:(KD (fun b=>match b with | true=>zG st ((t,true)::K) x | false=>zG st ((t,false)::K) y) (zG st K (.tmp t))).holds Q) :
  ∃ r v,(execOp a.eval o).run P w = .ok (.value v) w∧Q r∧Rep (Own O σ) w r σ v:=by
 have hc:=vw hm hK (.tmp t)
 generalize zG st K (.tmp t)=c at hc hq
 cases c with
 | bool cb=>
  simp only [Rep] at hc
  have hct:a.tmps.getD t undef = .bool cb:=hc
  simp only [KD] at hq
  split at hq
  ·rename_i p q h1 h2
   refine⟨_,.bool (bif cb then p else q),?_,hq,by simp [Rep]⟩
   simp only [execOp,ho,hc,asBool,Sem.run_bind,Sem.run_pure,Result.andThen_ok]
   cases cb with
   | true=>
    have:=vw hm (K:=(t,true)::K) (fun z hz=>by rcases List.mem_cons.1 hz with rfl | hz; exact hct; exact hK z hz) x
    rw [h1] at this
    simp only [Rep] at this
    simp [this]
   | false=>
    have:=vw hm (K:=(t,false)::K) (fun z hz=>by rcases List.mem_cons.1 hz with rfl | hz; exact hct; exact hK z hz) y
    rw [h2] at this
    simp only [Rep] at this
    simp [this]
  ·exact hq.elim
 | _=>exact hq.elim
end
end Go.Sx
end
section
namespace Go.Sx
variable [Stat]
open Go.RowKit (Below)
section
variable {O:Nat→Prop} {pin:Nat} {w0:World} {σ0:List SE} {w:World} {σ:List SE} {P:Program} {st:St} {a:Act} {Γ:Nat→Option Ctr} {Xp:List PanicEntry→Prop}
theorem yp{ops:Array Oper}{tmps:Array Value}{j t:Nat}{want:Bool}(h:(ops[j]?).bind (·.dst)=some t):(yielded ops tmps j == some want)=true↔tmps.getD t undef = .bool want:=by
 unfold yielded
 rw [h]
 simp only [Option.bind_some,Array.getD_eq_getD_getElem?]
 cases ht:tmps[t]? with
 | none=>simp [undef]
 | some v=>cases v<;>simp
theorem ZB{α:Type}{r:Res}{t:Tree α}{Q:α→Prop}(h:(pinX pin r t).holds Q):(∀ i∈r.kill,pin≤i)∧t.holds Q:=by
 unfold pinX at h
 split at h
 ·rename_i hk; rw [hk]; exact⟨by simp,h⟩
 ·split at h
  ·rename_i hall; exact⟨fun i hi=>by simpa using List.all_eq_true.1 hall i hi,h⟩
  ·exact h.elim
theorem yc(hΓ:∀ g c,Γ g=some c→qg Xp P g c)(hm:Mod O pin w0 σ0 w σ st a){K:List (Nat×Bool)}(hK:∀ p∈K,a.tmps.getD p.1 undef = .bool p.2){o:Oper}{Q:Res→Prop}(hq:(opV P Γ st K o.op).holds Q)
  {Kc:Act→World→Prop} {Qe:Exit→Act→World→Prop} (hKc:∀ r v w' σ',Q r→Post O w σ st.heap r v w' σ'→Kc (a.put o.dst v) w') (hP:∀ ch a w',Xp ch→Dead σ0 w0 w' a.defers→Qe (.panic ch) a w'):o.wp P a w Kc Qe:=by
 unfold opV at hq
 split at hq
 ·rename_i c x y hop
  rw [Tree.zl] at hq
  unfold Y3 at hq
  split at hq
  ·rename_i t
   obtain⟨r,v,h1,h2,h3⟩:=JM (P:=P) hm hK hop hq
   unfold Oper.wp
   rw [h1]
   exact hKc ⟨r,[],[]⟩ v w σ h2 (Post.still hm.good hm.hp h3)
  ·exact hq.elim
 ·exact Xm hΓ hm.good hm.hp (vw hm hK) hq hKc fun ch w' h1 h2=>hP ch a w' h1 (hm.dead h2)
theorem ZY(hΓ:∀ g c,Γ g=some c→qg Xp P g c)(hm:Mod O pin w0 σ0 w σ st a){ops:Array Oper}{o:Oper}{Q:Res→Prop}(hq:(qI P Γ ops st o).holds Q){K:Act→World→Prop}{Qe:Exit→Act→World→Prop}
  (hK:∀ r w' σ' v,Q r→((∀ i∈r.kill,pin≤i)→Mod O pin w0 σ0 w' σ' (putX st o.dst r) (a.put o.dst v))→K (a.put o.dst v) w') (hP:∀ ch a w',Xp ch→Dead σ0 w0 w' a.defers→Qe (.panic ch) a w') :
  if Region.wanted o (yielded ops a.tmps) then o.wp P a w K Qe else K (a.put o.dst undef) w:=by
 unfold qI at hq
 split at hq
 ·rename_i hgd
  rw [if_pos (by simp [Region.wanted,hgd])]
  rw [Tree.zl] at hq
  refine yc hΓ hm (by simp) hq (fun r v w' σ' hQ hP=>hK _ w' σ' v hQ fun hpin=>ve hm hP hpin o.dst (fun d hd=> ?_)) hP
  have:=hP.rep
  cases hr:r.val with
  | opt t want y=>simp [see,TRep,Rep]
  | _=>rw [hr] at this; simpa only [TRep,see] using this
 ·rename_i j want hgd
  split at hq
  ·exact hq.elim
  ·rename_i t ht
   split at hq
   ·unfold ZS at hq
    split at hq
    ·rename_i g d hgb hdst
     split at hq
     ·rename_i hdt
      have hw:Region.wanted o (yielded ops a.tmps)=true↔a.tmps.getD t undef = .bool want:=by
       simp only [Region.wanted,hgd]
       exact yp ht
      have hput:∀ u,(a.put (some d) u).tmps.getD t undef=a.tmps.getD t undef:=fun u=>by
       simp only [Act.put,Array.getD_eq_getD_getElem?]
       rw [Array.getElem?_setIfInBounds_ne hdt]
      have hg:=xa hm 4 t want g hgb
      by_cases hb:a.tmps.getD t undef = .bool want
      ·rw [if_pos (hw.2 hb)]
       have hKs:=vr hm 4 t want hb
       have h1:=hq.1 (hg.1 hb)
       rw [Tree.zl] at h1
       refine yc hΓ hm hKs h1 (fun r v w' σ' hQ hP=>hK _ w' σ' v hQ fun hpin=>ve hm hP hpin o.dst (fun d hd=> ?_)) hP
       have:=hP.rep
       cases hr:r.val with
       | opt t want y=>simp [see,TRep,Rep]
       | _=>rw [hr] at this; simpa only [TRep,see] using this
      ·rw [if_neg (fun h=>hb (hw.1 h))]
       have hgf:g=false:=by
        cases g with
        | false=>rfl
        | true=>exact absurd (hg.2 rfl) hb
       have hQ:=hq.2 hgf
       refine hK _ w σ _ hQ (fun hpin=> ?_)
       rw [hdst]
       refine ve hm (r:=⟨.undef,[],[]⟩) (v:=undef) (Post.still hm.good hm.hp (by simp [Rep])) (by simp) (some d) (x:=.opt t want (Yu P o.type)) (fun d' hd'=> ?_)
       cases hd'
       simp only [TRep]
       exact .inr ⟨by rw [hput]; exact hb,trivial⟩
     ·exact hq.elim
    ·exact hq.elim
   split at hq
   ·rename_i q d hgp hdst
    split at hq
    ·rename_i hdt
     have hw:Region.wanted o (yielded ops a.tmps)=true↔a.tmps.getD t undef = .bool want:=by
      simp only [Region.wanted,hgd]
      exact yp ht
     have hput:∀ u,(a.put (some d) u).tmps.getD t undef=a.tmps.getD t undef:=fun u=>by
      simp only [Act.put,Array.getD_eq_getD_getElem?]
      rw [Array.getElem?_setIfInBounds_ne hdt]
     by_cases hb:a.tmps.getD t undef = .bool want
     ·rw [if_pos (hw.2 hb)]
      have hKs:=vr hm 4 t want hb
      have htr:=jG (vL hm 4 t want q hgp hb) hq
      refine yc hΓ hm hKs htr (fun r u w' σ' hr hP=> ?_) hP
      obtain⟨v,rfl,hQ⟩:=hr
      refine hK _ w' σ' _ hQ (fun hpin=> ?_)
      rw [hdst]
      refine ve hm hP (by simp) (some d) (x:=.opt t want v) (fun d' hd'=> ?_)
      cases hd'
      simp only [TRep]
      exact .inl ⟨by rw [hput]; exact hb,hP.rep⟩
     ·rw [if_neg (fun h=>hb (hw.1 h))]
      obtain⟨v,hQ⟩:=wu hq
      refine hK _ w σ _ hQ (fun hpin=> ?_)
      rw [hdst]
      refine ve hm (r:=⟨.undef,[],[]⟩) (v:=undef) (Post.still hm.good hm.hp (by simp [Rep])) (by simp) (some d) (x:=.opt t want v) (fun d' hd'=> ?_)
      cases hd'
      simp only [TRep]
      exact .inr ⟨by rw [hput]; exact hb,trivial⟩
    ·exact hq.elim
   ·exact hq.elim
theorem Jt{K:List (Nat×Bool)}{op:Op}{Q:Res→Prop}(hq:(opV P Γ st K op).holds Q):∀ c,op≠.defer c:=by
 unfold opV at hq
 split at hq
 ·intro c h; cases h
 ·exact QM hq
theorem K7{K:List (Nat×Bool)}{c:Call} : opV P Γ st K (.defer c) = .fail:=rfl
theorem Zd{ops:Array Oper}{o:Oper}{Q:Res→Prop}(hq:(qI P Γ ops st o).holds Q):∀ c,o.op≠.defer c:=by
 unfold qI at hq
 split at hq
 ·rw [Tree.zl] at hq
  exact Jt hq
 ·split at hq
  ·exact hq.elim
  ·split at hq
   ·rename_i heff
    intro c hc
    rw [hc] at heff
    cases heff
   ·split at hq
    ·split at hq
     ·intro c hc
      rw [hc,K7] at hq
      exact hq.elim
     ·exact hq.elim
    ·exact hq.elim
theorem kh{M:Option Nat}(hΓ:∀ g c,Γ g=some c→qg Xp P g c)(hm:Mod O pin w0 σ0 w σ st a){ops:Array Oper}{o:Oper}{Q:Res→Prop}(hq:(qI P Γ ops st o).holds Q){K:Act→World→Prop}{Qe:Exit→Act→World→Prop}
  (hK:∀ r w' σ' v,Q r→((∀ i∈r.kill,pin≤i)→Mod O pin w0 σ0 w' σ' (putX st o.dst r) (a.put o.dst v))→K (a.put o.dst v) w') (hP:∀ ch a w',Xp ch→Dead σ0 w0 w' a.defers→Qe (.panic ch) a w') :
  if Region.wanted o (yielded ops a.tmps) then o.wpIn (FM M) 0 P a w K Qe else(∀ f,o.about P w a.eval=some f→(FM M).fn f)∧K (a.put o.dst undef) w:=by
 have h:=ZY hΓ hm hq hK (Qe:=Qe) hP
 split
 ·rename_i hw; rw [if_pos hw] at h; exact uT (Zd hq) h
 ·rename_i hw; rw [if_neg hw] at h; exact⟨fun f _=>X5 M f,h⟩
theorem We{M:Option Nat}(hΓ:∀ g c,Γ g=some c→qg Xp P g c)(hm:Mod O pin w0 σ0 w σ st a){ops:Array Oper}{o:Oper}{Q:St→Prop}(hq:(Xn P Γ pin ops st o).holds Q){K:Act→World→Prop}{Qe:Exit→Act→World→Prop}
  (hK:∀ st' w' σ' a',Q st'→Mod O pin w0 σ0 w' σ' st' a'→K a' w') (hP:∀ ch a w',Xp ch→Dead σ0 w0 w' a.defers→Qe (.panic ch) a w') :
  if Region.wanted o (yielded ops a.tmps) then o.wpIn (FM M) 0 P a w K Qe else(∀ f,o.about P w a.eval=some f→(FM M).fn f)∧K (a.put o.dst undef) w:=by
 unfold Xn at hq
 rw [Tree.zl] at hq
 refine kh hΓ hm hq (fun r w' σ' v hQ hM=> ?_) hP
 obtain⟨h1,h2⟩:=ZB hQ
 exact hK _ w' σ' _ h2 (hM h1)
theorem Zf{ρ ρ':Operand→AV}{parts:Array (Nat×Operand)}(h:∀ p∈parts,ρ p.2=ρ' p.2):(parts.toList.map fun p=>(p.1,ρ p.2))=parts.toList.map fun p=>(p.1,ρ' p.2):=
 List.map_congr_left fun p hp=>by rw [h p (by simpa using hp)]
theorem vq{ρ ρ':Operand→AV}{l:Array Operand}(h:∀ x∈l,ρ x=ρ' x):l.toList.map ρ=l.toList.map ρ':=List.map_congr_left fun x hx=>h x (by simpa using hx)
theorem kR{ρ ρ':Operand→AV}{h:Heap}{op:Op}(he:∀ x∈op.operands,ρ x=ρ' x):valX P ρ h op=valX P ρ' h op:=by
 cases op with
 | call c=>
  obtain⟨callee,args,ats⟩:=c
  have ha:∀ x∈args,ρ x=ρ' x:=fun x hx=>he x (by simp [Op.operands,Call.operands,hx])
  cases callee with
  | builtin b=>
   cases b<;>simp only [valX]
   case len=>
    obtain⟨args⟩:=args
    obtain⟨ats⟩:=ats
    match ats,args with
    | [t],[x]=>simp only [ha x (by simp)]
    | [],_=>rfl
    | _::_::_,_=>rfl
    | [_],[]=>rfl
    | [_],_::_::_=>rfl
   case max=>rw [vq ha]
   case min=>rw [vq ha]
  | _=>rfl
 | build t ps=>
  simp only [valX]
  rw [Zf fun p hp=>he p.2 (by simp only [Op.operands,List.mem_toArray,List.mem_map]; exact⟨p,by simpa using hp,rfl⟩)]
 | makeFunc f first cap=>
  cases f<;>simp only [valX]
  rw [vq fun x hx=>he x (by simp [Op.operands,hx]),vq fun x hx=>he x (by simp [Op.operands,hx])]
 | slice t x l hi m=>
  have hx:=he x (by simp [Op.operands])
  cases m with
  | some m=>
   cases hi with
   | none=>simp only [valX]
   | some h'=>
    simp only [valX]
    rw [hx,he h' (by simp [Op.operands]),he m (by simp [Op.operands])]
    cases l with
    | none=>rfl
    | some l'=>simp only [Option.map_some]; rw [he l' (by simp [Op.operands])]
  | none=>
  simp only [valX]
  rw [hx]
  cases l<;>cases hi<;>simp only [Option.map_none,Option.map_some]
  ·rw [he _ (by simp [Op.operands])]
  ·rw [he _ (by simp [Op.operands])]
  ·rename_i l' h'
   rw [he l' (by simp [Op.operands]),he h' (by simp [Op.operands])]
 | move x=>simp only [valX,he x (by simp [Op.operands])]
 | assign x=>simp only [valX,he x (by simp [Op.operands])]
 | load t x=>simp only [valX,he x (by simp [Op.operands])]
 | nilCheck x=>simp only [valX,he x (by simp [Op.operands])]
 | unOp _ _ x=>simp only [valX,he x (by simp [Op.operands])]
 | convert _ _ x=>simp only [valX,he x (by simp [Op.operands])]
 | fieldAddr _ x _=>simp only [valX,he x (by simp [Op.operands])]
 | field _ x _=>simp only [valX,he x (by simp [Op.operands])]
 | extract x _=>simp only [valX,he x (by simp [Op.operands])]
 | binOp _ _ x y _=>simp only [valX,he x (by simp [Op.operands]),he y (by simp [Op.operands])]
 | indexAddr _ x y=>simp only [valX,he x (by simp [Op.operands]),he y (by simp [Op.operands])]
 | index _ x y=>simp only [valX,he x (by simp [Op.operands]),he y (by simp [Op.operands])]
 | lookup _ x y _=>simp only [valX,he x (by simp [Op.operands]),he y (by simp [Op.operands])]
 | _=>rfl
theorem Kt{ρ ρ':Operand→AV}{h:Heap}{op:Op}(he:∀ x∈op.operands,ρ x=ρ' x):opX P Γ ρ h op=opX P Γ ρ' h op:=by
 cases op with
 | alloc t=>rfl
 | box t x=>simp only [opX,he x (by simp [Op.operands])]
 | buildSlice t n ps=>
  simp only [opX]
  rw [Zf fun p hp=>he p.2 (by simp only [Op.operands,List.mem_toArray,List.mem_map]; exact⟨p,by simpa using hp,rfl⟩)]
 | store t x y=>simp only [opX,he x (by simp [Op.operands]),he y (by simp [Op.operands])]
 | makeSlice t x y=>simp only [opX,he x (by simp [Op.operands]),he y (by simp [Op.operands])]
 | call c=>
  have hv:=kR (P:=P) (h:=h) he
  obtain⟨callee,args,ats⟩:=c
  have ha:∀ x∈args,ρ x=ρ' x:=fun x hx=>he x (by simp [Op.operands,Call.operands,hx])
  cases callee with
  | builtin b=>
   by_cases hb:b = .append
   ·subst hb
    obtain⟨args⟩:=args
    obtain⟨ats⟩:=ats
    simp only [opX]
    match ats,args with
    | [t,tx],[x,y]=>simp only [ha x (by simp),ha y (by simp)]
    | [],_=>rfl
    | [_],_=>rfl
    | _::_::_::_,_=>rfl
    | [_,_],[]=>rfl
    | [_,_],[_]=>rfl
    | [_,_],_::_::_::_=>rfl
   ·by_cases hb2:b = .delete
    ·subst hb2
     obtain⟨args⟩:=args
     obtain⟨ats⟩:=ats
     simp only [opX]
     match ats,args with
     | [t,tx],[x,y]=>simp only [ha x (by simp),ha y (by simp)]
     | [],_=>rfl
     | [_],_=>rfl
     | _::_::_::_,_=>rfl
     | [_,_],[]=>rfl
     | [_,_],[_]=>rfl
     | [_,_],_::_::_::_=>rfl
    ·cases b<;>first | exact absurd rfl hb | exact absurd rfl hb2 | (simp only [opX]; rw [hv])
  | value f=>
   simp only [opX]
   rw [he f (by simp [Op.operands,Call.operands]),vq ha]
  | invoke _ _=>rfl
 | makeMap t r=>
  cases r with
  | none=>rfl
  | some _=>simp only [opX]; rw [kR he]
 | mapUpdate t m k v=>simp only [opX,he m (by simp [Op.operands]),he k (by simp [Op.operands]),he v (by simp [Op.operands])]
 | insert t m k v=>simp only [opX,he m (by simp [Op.operands]),he k (by simp [Op.operands]),he v (by simp [Op.operands])]
 | mapEntry t m k=>simp only [opX,he m (by simp [Op.operands]),he k (by simp [Op.operands])]
 | entryStore t m k v=>simp only [opX,he m (by simp [Op.operands]),he k (by simp [Op.operands]),he v (by simp [Op.operands])]
 | _=>simp only [opX]; rw [kR he]
theorem QH{ρ:Operand→AV}{h h':Heap}{op:Op}{ls:List Nat}(hq:zV ρ op=some ls)(hl:∀ i∈ls,h'[i]?=h[i]?):opX P Γ ρ h' op=opX P Γ ρ h op:=by
 cases op with
 | load t x=>
  simp only [zV] at hq
  simp only [opX,valX]
  generalize ρ x=y at hq
  cases y with
  | ptr i off=>simp only [Option.some.injEq] at hq; subst hq; simp only [yn,hl i (by simp)]
  | eptr i sz idx off=>simp only [Option.some.injEq] at hq; subst hq; simp only [yn,hl i (by simp)]
  | iptr m g=>rfl
  | _=>simp at hq
 | convert s t x=>
  simp only [zV] at hq
  simp only [opX,valX]
  generalize ρ x=y at hq
  cases y with
  | int k n=>rfl
  | str b=>rfl
  | _=>simp at hq
 | call c=>
  simp only [zV] at hq
  obtain⟨callee,args,ats⟩:=c
  cases callee with
  | builtin b=>cases b<;>simp at hq<;>rfl
  | _=>simp at hq
 | makeFunc f _ _=>cases f<;>rfl
 | slice _ _ _ h m=>cases m<;>cases h<;>rfl
 | _=>first | rfl | (simp [zV] at hq; done)
def mask(D:List Nat)(st:St):St:=⟨st.tmps.zipIdx.map fun p=>if D.contains p.2 then .undef else p.1,st.heap⟩
theorem qD(D:List Nat)(st:St)(t:Nat):(mask D st).tmps.getD t .undef=if t∈D then .undef else st.tmps.getD t .undef:=by
 simp only [mask,List.getD,List.getElem?_map,List.getElem?_zipIdx]
 cases st.tmps[t]?<;>simp
theorem qZ(D:List Nat)(st:St):(mask D st).tmps.length=st.tmps.length:=by simp [mask]
variable {st2:St}
theorem wE:∀ {n t:Nat} {want:Bool},(∀ u∈qV st.tmps n t,st2.tmps.getD u .undef=st.tmps.getD u .undef)→q5 st2.tmps n t want=q5 st.tmps n t want
 | 0,t,want,h=>rfl
 | n+1,t,want,h=>by
  simp only [q5,qV] at h ⊢
  rw [h t (by simp)]
  generalize st.tmps.getD t .undef=x at h
  cases x<;>try rfl
  simp only at h ⊢
  rw [wE fun u hu=>h u (by simp [hu])]
theorem vP:∀ {n t:Nat} {want:Bool},(∀ u∈qV st.tmps n t,st2.tmps.getD u .undef=st.tmps.getD u .undef)→jn st2.tmps n t want=jn st.tmps n t want
 | 0,t,want,h=>rfl
 | n+1,t,want,h=>by
  simp only [jn,qV] at h ⊢
  rw [h t (by simp)]
  generalize st.tmps.getD t .undef=x at h
  cases x<;>try rfl
  rename_i u w' y
  cases y<;>try rfl
  simp only at h ⊢
  rw [vP fun v hv=>h v (by simp [hv])]
theorem xy:∀ {n t:Nat},(∀ u∈qV st.tmps n t,st2.tmps.getD u .undef=st.tmps.getD u .undef)→qV st2.tmps n t=qV st.tmps n t
 | 0,t,h=>rfl
 | n+1,t,h=>by
  simp only [qV] at h ⊢
  rw [h t (by simp)]
  generalize st.tmps.getD t .undef=x at h
  cases x<;>try rfl
  simp only at h ⊢
  rw [xy fun u hu=>h u (by simp [hu])]
theorem uf{ops:Array Oper}{o:Oper}{t:Nat}(h : .tmp t∈o.op.operands)(l:List AV):t∈qy ops l o:=by
 simp only [qy,Yp,List.mem_append,List.mem_filterMap]
 exact .inl ⟨.tmp t,by simpa using h,rfl⟩
theorem wB{ops:Array Oper}{o:Oper}{j t:Nat}{want:Bool}(hg:o.guard=some (j,want))(ht:(ops[j]?).bind (·.dst)=some t){l:List AV}{u:Nat}(hu:u∈qV l 4 t):u∈qy ops l o:=by
 simp only [qy,hg,ht,List.mem_append]
 exact .inr hu
theorem vT{K:List (Nat×Bool)}{x:Operand}(h:∀ t,x = .tmp t→st2.tmps.getD t .undef=st.tmps.getD t .undef):zG st2 K x=zG st K x:=by
 cases x with
 | tmp t=>simp only [zG,h t rfl]
 | _=>rfl
theorem ZG{ops:Array Oper}{o:Oper}{K:List (Nat×Bool)}(ht:∀ t∈qy ops st.tmps o,st2.tmps.getD t .undef=st.tmps.getD t .undef)
  (hh:st2.heap=st.heap∨∃ ls,zV (zG st K) o.op=some ls∧∀ i∈ls,st2.heap[i]?=st.heap[i]?):opV P Γ st2 K o.op=opV P Γ st K o.op:=by
 have hev:∀ K,∀ x∈o.op.operands,zG st2 K x=zG st K x:=fun K x hx=>vT fun t hxt=>ht t (uf (hxt▸hx) _)
 have hgen:opX P Γ (zG st2 K) st2.heap o.op=opX P Γ (zG st K) st.heap o.op:=by
  rw [Kt (hev K)]
  rcases hh with hh | ⟨ls,h1,h2⟩
  ·rw [hh]
  ·exact QH h1 h2
 unfold opV
 cases hop:o.op with
 | pick c x y=>
  simp only
  congr 1
  have hc:∀ K,zG st2 K c=zG st K c:=fun K=>hev K c (by simp [hop,Op.operands])
  have hx:∀ K,zG st2 K x=zG st K x:=fun K=>hev K x (by simp [hop,Op.operands])
  have hy:∀ K,zG st2 K y=zG st K y:=fun K=>hev K y (by simp [hop,Op.operands])
  simp only [Y3,hc,hx,hy]
 | _=>rw [hop] at hgen; exact hgen
theorem vD{ops:Array Oper}{o:Oper}(ht:∀ t∈qy ops st.tmps o,st2.tmps.getD t .undef=st.tmps.getD t .undef):vu ops st2 o=vu ops st o:=by
 unfold vu
 cases hg:o.guard with
 | none=>rfl
 | some p=>
  obtain⟨j,want⟩:=p
  simp only
  cases hj:(ops[j]?).bind (·.dst) with
  | none=>rfl
  | some t=>exact wE fun u hu=>ht u (wB hg hj hu)
theorem x8:∀ {n t:Nat} {want:Bool},(∀ u∈qV st.tmps n t,st2.tmps.getD u .undef=st.tmps.getD u .undef)→kf st2.tmps n t want=kf st.tmps n t want
 | 0,t,want,h=>rfl
 | n+1,t,want,h=>by
  simp only [kf,qV] at h ⊢
  rw [h t (by simp)]
  generalize st.tmps.getD t .undef=x at h
  cases x<;>try rfl
  rename_i u w' y
  cases y<;>try rfl
  simp only at h ⊢
  rw [x8 fun v hv=>h v (by simp [hv])]
theorem kB{ρ:Operand→AV}{h:Heap}{op:Op}{ls:List Nat}(hq:zV ρ op=some ls):vF Γ ρ h op=false:=by
 cases op with
 | call c=>
  obtain⟨callee,args,ats⟩:=c
  cases callee with
  | value f=>simp [zV] at hq
  | _=>rfl
 | buildSlice t n p=>simp [zV] at hq
 | _=>rfl
theorem Qv{ρ ρ':Operand→AV}{h:Heap}{op:Op}(he:∀ x∈op.operands,ρ x=ρ' x):vF Γ ρ h op=vF Γ ρ' h op:=by
 cases op with
 | call c=>
  obtain⟨callee,args,ats⟩:=c
  have ha:∀ x∈args,ρ x=ρ' x:=fun x hx=>he x (by simp [Op.operands,Call.operands,hx])
  cases callee with
  | value f=>
   simp only [vF]
   rw [he f (by simp [Op.operands,Call.operands]),vq ha]
  | _=>rfl
 | _=>rfl
theorem uV{ops:Array Oper}{o:Oper}{K:List (Nat×Bool)}(ht:∀ t∈qy ops st.tmps o,st2.tmps.getD t .undef=st.tmps.getD t .undef)
  (hh:st2.heap=st.heap∨∃ ls,zV (zG st K) o.op=some ls∧∀ i∈ls,st2.heap[i]?=st.heap[i]?):vF Γ (zG st2 K) st2.heap o.op=vF Γ (zG st K) st.heap o.op:=by
 have hev:∀ x∈o.op.operands,zG st2 K x=zG st K x:=fun x hx=>vT fun t hxt=>ht t (uf (hxt▸hx) _)
 rw [Qv hev]
 rcases hh with hh | ⟨ls,h1,_⟩
 ·rw [hh]
 ·rw [kB h1,kB h1]
theorem jV{ops:Array Oper}{o:Oper}(ht:∀ t∈qy ops st.tmps o,st2.tmps.getD t .undef=st.tmps.getD t .undef)
  (hh:st2.heap=st.heap∨∃ ls,zV (zG st (vu ops st o)) o.op=some ls∧∀ i∈ls,st2.heap[i]?=st.heap[i]?):qI P Γ ops st2 o=qI P Γ ops st o:=by
 unfold qI
 cases hg:o.guard with
 | none=>
  simp only
  rw [ZG (ops:=ops) ht (by simpa [vu,hg] using hh)]
 | some p=>
  obtain⟨j,want⟩:=p
  simp only
  cases hj:(ops[j]?).bind (·.dst) with
  | none=>rfl
  | some t=>
   simp only
   have hc:∀ u∈qV st.tmps 4 t,st2.tmps.getD u .undef=st.tmps.getD u .undef:=fun u hu=>ht u (wB hg hj hu)
   have hh':st2.heap=st.heap∨∃ ls,zV (zG st (q5 st.tmps 4 t want)) o.op=some ls∧∀ i∈ls,st2.heap[i]?=st.heap[i]?:=by simpa [vu,hg,hj] using hh
   simp only [ZS]
   rw [x8 hc,vP hc,wE hc,uV ht hh',ZG (ops:=ops) ht hh']
theorem Ww{ops:Array Oper}{o:Oper}(ht:∀ t∈qy ops st.tmps o,st2.tmps.getD t .undef=st.tmps.getD t .undef):qy ops st2.tmps o=qy ops st.tmps o:=by
 unfold qy
 cases hg:o.guard with
 | none=>rfl
 | some p=>
  obtain⟨j,want⟩:=p
  simp only
  cases hj:(ops[j]?).bind (·.dst) with
  | none=>rfl
  | some t=>simp only; rw [xy fun u hu=>ht u (wB hg hj hu)]
theorem vV{ops:Array Oper}{o:Oper}(ht:∀ t∈qy ops st.tmps o,st2.tmps.getD t .undef=st.tmps.getD t .undef):zJ ops st2.tmps o=zJ ops st.tmps o:=by
 unfold zJ
 rw [Ww ht]
 congr 1
 rw [List.flatMap_def,List.flatMap_def,List.map_congr_left fun t h=>by rw [ht t h]]
theorem wS{ops:Array Oper}{o:Oper}{K:List (Nat×Bool)}(ht:∀ t∈qy ops st.tmps o,st2.tmps.getD t .undef=st.tmps.getD t .undef):zV (zG st2 K) o.op=zV (zG st K) o.op:=by
 have hev:∀ x∈o.op.operands,zG st2 K x=zG st K x:=fun x hx=>vT fun t hxt=>ht t (uf (hxt▸hx) _)
 cases hop:o.op with
 | load t x=>simp only [zV,hev x (by simp [hop,Op.operands])]
 | convert s t x=>simp only [zV,hev x (by simp [hop,Op.operands])]
 | _=>rfl
theorem QW{ops:Array Oper}{o:Oper}{dst:Option Nat}{r:Res}(hd:∀ d,dst=some d→d∉zJ ops st.tmps o)(hk:r.kill=[]):∀ t∈qy ops st.tmps o,(putX st dst r).tmps.getD t .undef=st.tmps.getD t .undef:=by
 intro t ht
 cases dst with
 | none=>simp [putX,hk,wK]
 | some d=>
  have hd:=hd d rfl
  have htd:t≠d:=fun e=>hd (e▸by simp [zJ,ht])
  simp only [putX,hk,wK,List.getD]
  rw [List.getElem?_set_ne (fun e=>htd e.symm),List.getElem?_map]
  cases hx:st.tmps[t]? with
  | none=>rfl
  | some x=>
   simp only [Option.map_some,Option.getD_some]
   cases x<;>try rfl
   rename_i u w' y
   simp only [zQ]
   rw [if_neg]
   rintro rfl
   refine hd ?_
   simp only [zJ,List.mem_append,List.mem_flatMap]
   exact .inr ⟨t,ht,by simp [List.getD,hx,XD]⟩
theorem x2:∀ (eff:List (Nat×Blk)) (h:Heap),h.length≤(zi h eff).length
 | [],h=>Nat.le_refl _
 | (l,b)::eff,h=>by
  simp only [zi]
  have hlen:h.length≤(zU h l b).length:=by unfold zU; split<;>simp
  exact Nat.le_trans hlen (x2 eff _)
theorem ym:∀ {eff:List (Nat×Blk)} {h:Heap} {i:Nat},i<h.length→(∀ p∈eff,p.1≠i)→(zi h eff)[i]?=h[i]?∧h.length≤(zi h eff).length
 | [],h,i,_,_=>⟨rfl,Nat.le_refl _⟩
 | (l,b)::eff,h,i,hi,hn=>by
  simp only [zi]
  have hne:=hn (l,b) (by simp)
  have hlen:h.length≤(zU h l b).length:=by unfold zU; split<;>simp
  obtain⟨h1,h2⟩:=ym (eff:=eff) (h:=zU h l b) (i:=i) (by omega) fun p hp=>hn p (by simp [hp])
  refine⟨h1.trans ?_,Nat.le_trans hlen h2⟩
  unfold zU
  split
  ·rw [List.getElem?_set_ne hne]
  ·rw [List.getElem?_append_left hi]
def okL(ops:Array Oper):List Nat→Prop
 | []=>True
 | i::L=>(∀ o,ops[i]?=some o→∀ k∈jL o,k∈L)∧i∉L∧okL ops L
structure QA(P:Program)(Γ:Nat→Option Ctr)(ops:Array Oper)(st:St)(e:Ent)(o:Oper):Prop where
 op:ops[e.k]?=some o
 dst:o.dst=some e.d
 val:(qI P Γ ops st o).holds (fun r=>r=⟨e.x,[],[]⟩)
 looks:zJ ops st.tmps o=e.looks
 self:e.d∉e.looks
 quiet:zV (zG st (vu ops st o)) o.op=some e.labs
 lab:∀ i∈e.labs,i<st.heap.length
 slot:e.d<st.tmps.length→st.tmps.getD e.d .undef=e.x
def Ym(ops:Array Oper)(e f:Ent):Prop:=e.d∉f.looks∧e.d≠f.d∧((∀ o,ops[e.k]?=some o→f.k∈ju ops o)∨f.d∉e.looks)
structure Inv(P:Program)(Γ:Nat→Option Ctr)(ops:Array Oper)(L:List Nat)(st:St)(pend:List Ent)(listed:Array Bool):Prop where
 lis:∀ k,k<ops.size→(listed.getD k true=false↔(k∉L∨∃ e∈pend,e.k=k))
 out:∀ k,¬ k<ops.size→listed.getD k true=true∧listed.getD k false=false
 lis2:∀ k,k<ops.size→listed.getD k true=listed.getD k false
 ok:okL ops L
 lt:∀ k∈L,k<ops.size
 key:∀ e∈pend,e.k∈L
 uniq:∀ e∈pend,∀ f∈pend,e.k=f.k→e=f
 ord:∀ e∈pend,∀ f∈pend,e.k≠f.k→Ym ops e f∨Ym ops f e
 good:∀ e∈pend,∃ o,QA P Γ ops st e o
 Ju:∀ e∈pend,∀ t want x,st.tmps.getD t .undef = .opt e.d want x→∃ f∈pend,f.d=t
 cl:∀ k o,listed.getD k false=true→ops[k]?=some o→∀ j∈jL o,listed.getD j false=true
theorem yX{o:Oper}{j:Nat} : j∈jL o↔∃ e∈o.after,Region.binds .any e=true∧e.on=j:=by
 simp only [jL,List.mem_filterMap,Array.mem_toList_iff]
 constructor
 ·rintro⟨e,he,h⟩
  split at h
  ·rename_i hb; cases h; exact⟨e,he,hb,rfl⟩
  ·cases h
 ·rintro⟨e,he,hb,rfl⟩
  exact⟨e,he,by simp [hb]⟩
theorem j8{ops:Array Oper}{listed:Array Bool}{j:Nat} : j∈Region.ready .any ops listed↔listed.getD j true=false∧∃ o,ops[j]?=some o∧∀ k∈jL o,listed.getD k false=true:=by
 rw [mem_ready]
 constructor
 ·rintro⟨h,o,ho,hall⟩
  refine⟨h,o,ho,fun k hk=> ?_⟩
  obtain⟨e,he,hb,rfl⟩:=yX.1 hk
  exact hall e he hb
 ·rintro⟨h,o,ho,hall⟩
  exact⟨h,o,ho,fun e he hb=>hall _ (yX.2 ⟨e,he,hb,rfl⟩)⟩
theorem kJ{ops:Array Oper}{L:List Nat}{j:Nat} : j∈vy ops L↔j∉L∧∃ o,ops[j]?=some o∧∀ k∈jL o,k∈L:=by
 simp only [vy,List.mem_filter,List.mem_range,Jy,Bool.and_eq_true,Bool.not_eq_true',List.contains_eq_mem,decide_eq_false_iff_not]
 constructor
 ·rintro⟨h1,h2,h3⟩
  cases ho:ops[j]? with
  | none=>simp [ho] at h3
  | some o=>simp only [ho,List.all_eq_true,decide_eq_true_eq] at h3; exact⟨h2,o,rfl,h3⟩
 ·rintro⟨h2,o,ho,h3⟩
  exact⟨(Array.getElem?_eq_some_iff.1 ho).1,h2,by simp only [ho,List.all_eq_true,decide_eq_true_eq]; exact h3⟩
theorem uk{ops:Array Oper}{T:Nat→Prop}(cl:∀ k o,T k→ops[k]?=some o→∀ j∈jL o,T j):∀ (n:Nat) (todo acc:List Nat),(∀ k∈todo,T k)→(∀ k∈acc,T k)→∀ k∈ancs ops n todo acc,T k
 | 0,todo,acc,_,ha,k,hk=>ha k (by simpa [ancs] using hk)
 | n+1,[],acc,_,ha,k,hk=>ha k (by simpa [ancs] using hk)
 | n+1,i::t,acc,ht,ha,k,hk=>by
  simp only [ancs] at hk
  split at hk
  ·exact uk cl n t acc (fun j hj=>ht j (by simp [hj])) ha k hk
  ·refine uk cl n _ _ ?_ ?_ k hk
   ·intro j hj
    rcases List.mem_append.1 hj with hj | hj
    ·cases ho:ops[i]? with
     | none=>simp [ho] at hj
     | some o=>simp only [ho] at hj; exact cl i o (ht i (by simp)) ho j hj
    ·exact ht j (by simp [hj])
   ·intro j hj
    rcases List.mem_cons.1 hj with rfl | hj
    ·exact ht j (by simp)
    ·exact ha j hj
theorem Q3{ops:Array Oper}{T:Nat→Prop}(cl:∀ k o,T k→ops[k]?=some o→∀ j∈jL o,T j){o:Oper}(h:∀ k∈jL o,T k):∀ k∈ju ops o,T k:=
 uk cl _ _ _ h (by simp)
section
variable {ops:Array Oper} {L:List Nat} {pend:List Ent} {listed:Array Bool}
theorem Inv.T(I:Inv P Γ ops L st pend listed)(k:Nat):listed.getD k false=true↔k∈L∧¬ ∃ e∈pend,e.k=k:=by
 by_cases hk:k<ops.size
 ·rw [← I.lis2 k hk]
  have:=I.lis k hk
  cases hl:listed.getD k true with
  | false=>
   rw [hl] at this
   simp only [true_iff] at this
   simp only [Bool.false_eq_true,false_iff,not_and,Classical.not_not]
   intro h
   rcases this with h2 | h2
   ·exact absurd h h2
   ·exact h2
  | true=>
   rw [hl] at this
   simp only [Bool.true_eq_false,false_iff,not_or,Classical.not_not] at this
   simp [this]
 ·rw [(I.out k hk).2]
  simp only [Bool.false_eq_true,false_iff]
  exact fun h=>hk (I.lt k h.1)
theorem Inv.first(I:Inv P Γ ops L st pend listed)(hne:pend≠[]):∃ e∈pend,e.k∈Region.ready .any ops listed:=by
 have key:∀ L':List Nat,okL ops L'→(∀ k∈L',k∈L)→(∃ e∈pend,e.k∈L')→∃ e∈pend,e.k∈L'∧∀ o,ops[e.k]?=some o→∀ k∈jL o,k∈L'∧¬ ∃ f∈pend,f.k=k:=by
  intro L'
  induction L' with
  | nil=>rintro _ _ ⟨e,_,h⟩; simp at h
  | cons i L' ih=>
   rintro⟨h1,h2,h3⟩ hsub ⟨e,he,hk⟩
   by_cases hex:∃ e∈pend,e.k∈L'
   ·obtain⟨f,hf,h4,h5⟩:=ih h3 (fun k hk=>hsub k (by simp [hk])) hex
    exact⟨f,hf,by simp [h4],fun o ho k hk=>⟨by simp [(h5 o ho k hk).1],(h5 o ho k hk).2⟩⟩
   ·rcases List.mem_cons.1 hk with hk | hk
    ·refine⟨e,he,by simp [hk],fun o ho k hk'=> ?_⟩
     have:=h1 o (hk▸ho) k hk'
     exact⟨by simp [this],fun⟨f,hf,hfk⟩=>hex ⟨f,hf,hfk▸this⟩⟩
    ·exact absurd ⟨e,he,hk⟩ hex
 obtain⟨e0,he0⟩:=List.exists_mem_of_ne_nil _ hne
 obtain⟨e,he,h1,h2⟩:=key L I.ok (fun _ h=>h) ⟨e0,he0,I.key e0 he0⟩
 obtain⟨o,ho⟩:=I.good e he
 refine⟨e,he,j8.2 ⟨(I.lis e.k (I.lt _ h1)).2 (.inr ⟨e,he,rfl⟩),o,ho.op,fun k hk=> ?_⟩⟩
 exact(I.T k).2 (h2 o ho.op k hk)
end
end
end Go.Sx
end
section
namespace Go.Sx
variable [Stat]
open Go.RowKit (Below)
section
variable {O:Nat→Prop} {pin:Nat} {w0:World} {σ0:List SE} {w:World} {σ:List SE} {P:Program} {st st2:St} {a:Act} {Γ:Nat→Option Ctr}
variable {ops:Array Oper} {L:List Nat} {pend res:List Ent} {listed:Array Bool}
theorem uD{α:Type}{Q:α→Prop} : ∀ {t:Tree α} {ps:List Prop} {y:α},t.chain=some (ps,y)→t.holds Q→Q y∧t.holds (· = y)
 | .leaf x,ps,y,h,hq=>by simp only [Tree.chain,Option.some.injEq,Prod.mk.injEq] at h; obtain⟨_,rfl⟩:=h; exact⟨hq,rfl⟩
 | .ite _ _ _,_,_,h,_=>by simp [Tree.chain] at h
 | .fail,_,_,h,_=>by simp [Tree.chain] at h
 | .ex _ _,_,_,h,_=>by simp [Tree.chain] at h
 | .all _ _,_,_,h,_=>by simp [Tree.chain] at h
 | .side p t,ps,y,h,hq=>by
  simp only [Tree.chain] at h
  split at h
  ·rename_i qs z hc
   simp only [Option.some.injEq,Prod.mk.injEq] at h
   obtain⟨_,rfl⟩:=h
   obtain⟨h1,h2⟩:=uD hc (hq.2 hq.1)
   exact⟨h1,hq.1,fun _=>h2⟩
  ·cases h
theorem ZI(x:AV):∀ t want y,see [] x≠.opt t want y:=by
 intro t want y
 cases x<;>simp [see]
theorem Zu{o:Oper}{Q:Res→Prop}(h:(qI P Γ ops st o).holds Q):(qI P Γ ops st o).holds fun r=>Q r∧∀ u want x,r.val = .opt u want x→u∈qy ops st.tmps o:=by
 unfold qI at h ⊢
 cases hg:o.guard with
 | none=>
  rw [hg] at h
  simp only at h ⊢
  rw [Tree.zl] at h ⊢
  exact Tree.zK (fun x hx=>⟨hx,fun u want y hy=>absurd hy (ZI _ _ _ _)⟩) h
 | some p=>
  obtain⟨j,want⟩:=p
  rw [hg] at h
  simp only at h ⊢
  cases hj:(ops[j]?).bind (·.dst) with
  | none=>rw [hj] at h; exact h.elim
  | some t=>
   rw [hj] at h
   simp only at h ⊢
   split at h
   ·rename_i heff
    unfold ZS at h ⊢
    split at h
    ·split at h
     ·rename_i hdt
      rw [if_pos hdt]
      refine⟨fun hb=> ?_,fun hb=>⟨h.2 hb,fun u want' x hx=> ?_⟩⟩
      ·have h1:=h.1 hb
       rw [Tree.zl] at h1 ⊢
       exact Tree.zK (fun x hx=>⟨hx,fun u want y hy=>absurd hy (ZI _ _ _ _)⟩) h1
      ·simp only [AV.opt.injEq] at hx
       obtain⟨rfl,_⟩:=hx
       exact wB hg hj (by simp [qV])
     ·exact h.elim
    ·exact h.elim
   split at h
   ·split at h
    ·rename_i hdt
     rw [if_pos hdt]
     refine jl (fun v hv=>⟨hv,fun u want' x hx=> ?_⟩) h
     simp only [AV.opt.injEq] at hx
     obtain⟨rfl,_⟩:=hx
     exact wB hg hj (by simp [qV])
    ·exact h.elim
   ·exact h.elim
theorem jo(dst:Option Nat)(r:Res)(t:Nat):(putX st dst r).tmps.getD t .undef=match dst with
  | some d=>if t=d∧d<st.tmps.length then r.val else zQ d (z5 r.kill (st.tmps.getD t .undef))
  | none=>z5 r.kill (st.tmps.getD t .undef):=by
 cases dst with
 | none=>simp only [putX]; rw [jr,getD_map (jz _)]
 | some d=>
  simp only [putX]
  rw [jr]
  have hl:((st.tmps.map (z5 r.kill)).map (zQ d)).length=st.tmps.length:=by simp
  by_cases h:t=d
  ·subst h
   by_cases hlt:t<st.tmps.length
   ·rw [if_pos ⟨rfl,hlt⟩]
    simp only [List.getD]
    rw [List.getElem?_set_self (by rw [hl]; exact hlt)]; rfl
   ·rw [if_neg (fun h=>hlt h.2)]
    simp only [List.getD]
    rw [List.getElem?_eq_none (by simpa using Nat.le_of_not_lt hlt),List.getElem?_eq_none (by simpa using Nat.le_of_not_lt hlt)]
    simp only [Option.getD_none,jz]; rfl
  ·rw [if_neg (fun h'=>h h'.1)]
   simp only [List.getD]
   rw [List.getElem?_set_ne (fun e=>h e.symm)]
   have:=getD_map (f:=zQ d) rfl (st.tmps.map (z5 r.kill)) t
   simp only [List.getD] at this
   rw [this]
   have:=getD_map (f:=z5 r.kill) (jz _) st.tmps t
   simp only [List.getD] at this
   rw [this]
theorem wM(dst:Option Nat)(r:Res):(putX st dst r).tmps.length=st.tmps.length:=by
 cases dst<;>simp [putX,jr]
theorem wH(dst:Option Nat)(r:Res):(putX st dst r).heap=zi (zw r.kill st.heap) r.eff:=by
 cases dst<;>rfl
theorem Mod.weaken(hm:Mod O pin w0 σ0 w σ st a)(hh:st2.heap=st.heap)(hl:st2.tmps.length=st.tmps.length)(ht:∀ t,st2.tmps.getD t .undef=st.tmps.getD t .undef∨st2.tmps.getD t .undef = .undef):Mod O pin w0 σ0 w σ st2 a:=by
 refine⟨hm.good,hh▸hm.hp,by rw [hl]; exact hm.size,fun t=> ?_,hm.df,hm.since,hm.lim⟩
 rcases ht t with h | h
 ·rw [h]; exact hm.tm t
 ·rw [h]; simp [TRep,Rep]
theorem uj{K:List Nat}{i:Nat}(hi:i∈K){a:AV}(h:ka K a=true):qw i a=a:=by
 cases a with
 | osl j sz off n=>
  simp only [ka,List.contains_eq_mem,Bool.not_eq_true',decide_eq_false_iff_not] at h
  simp only [qw]; rw [if_neg (fun(e:i=j)=>h (e▸hi))]
 | eptr j sz idx off=>
  simp only [ka,List.contains_eq_mem,Bool.not_eq_true',decide_eq_false_iff_not] at h
  simp only [qw]; rw [if_neg (fun(e:i=j)=>h (e▸hi))]
 | ptr j off=>
  simp only [ka,List.contains_eq_mem,Bool.not_eq_true',decide_eq_false_iff_not] at h
  simp only [qw]; rw [if_neg (fun(e:i=j)=>h (e▸hi))]
 | omap j=>
  simp only [ka,List.contains_eq_mem,Bool.not_eq_true',decide_eq_false_iff_not] at h
  simp only [qw]; rw [if_neg (fun(e:i=j)=>h (e▸hi))]
 | agg _=>cases h
 | tup _=>cases h
 | opt _ _ _=>cases h
 | fn f x y=>
  cases x<;>cases y<;>simp [ka] at h
  rfl
 | _=>rfl
theorem Wh{K:List Nat}{i:Nat}(hi:i∈K){a:AV}(h:uC K a=true):zO i a=a:=by
 have hL:∀ l:List AV,l.all (ka K)=true→l.map (qw i)=l:=fun l hl=>by
  rw [List.all_eq_true] at hl
  conv=>rhs; rw [← List.map_id l]
  exact List.map_congr_left fun x hx=>uj hi (hl x hx)
 cases a with
 | agg l=>simp only [zO]; rw [hL l h]
 | tup l=>simp only [zO]; rw [hL l h]
 | fn f x y=>
  cases x<;>cases y<;>simp [uC,ka] at h
  rfl
 | _=>simp only [uC] at h; simp only [zO]; exact uj (K:=K) hi h
theorem yK{a:AV} : ∀ {K:List Nat},(∀ i∈K,zO i a=a)→z5 K a=a
 | [],_=>rfl
 | i::K,h=>by
  simp only [z5]
  rw [h i (by simp)]
  exact yK fun j hj=>h j (by simp [hj])
theorem kn{K:List Nat}{a:AV}(h:uC K a=true):z5 K a=a:=yK fun i hi=>Wh hi h
theorem Jl{K:List Nat}{b:Blk}(h:Xj K b=true):qW K b=b:=by
 cases b with
 | box cs=>
  simp only [Xj,List.all_eq_true] at h
  simp only [qW]
  congr 1
  conv=>rhs; rw [← List.map_id cs]
  exact List.map_congr_left fun x hx=>kn (h x hx)
 | _=>rfl
theorem uE{K:List Nat}{a:AV}{u:Nat}{want:Bool}{x:AV}(h:z5 K a = .opt u want x):a = .opt u want x:=by
 have h0:∀ (i:Nat) (y:AV),zO i y≠.opt u want x:=by
  intro i y h
  cases y with
  | agg _=>cases h
  | tup _=>cases h
  | fn f p q=>cases h
  | osl j _ _ _=>simp only [zO,qw] at h; split at h<;>cases h
  | ptr j _=>simp only [zO,qw] at h; split at h<;>cases h
  | eptr j _ _ _=>simp only [zO,qw] at h; split at h<;>cases h
  | omap j=>simp only [zO,qw] at h; split at h<;>cases h
  | _=>cases h
 induction K generalizing a with
 | nil=>exact h
 | cons i K ih=>exact absurd (ih h) (h0 i a)
theorem Kb{ops:Array Oper}{o:Oper}{dst:Option Nat}{r:Res}(hd:∀ d,dst=some d→d∉zJ ops st.tmps o)(hk:∀ t∈zJ ops st.tmps o,z5 r.kill (st.tmps.getD t .undef)=st.tmps.getD t .undef):∀ t∈qy ops st.tmps o,(putX st dst r).tmps.getD t .undef=st.tmps.getD t .undef:=by
 intro t ht
 have htl:t∈zJ ops st.tmps o:=by simp [zJ,ht]
 rw [jo]
 cases dst with
 | none=>exact hk t htl
 | some d=>
  have hd:=hd d rfl
  have htd:t≠d:=fun e=>hd (e▸htl)
  simp only
  rw [if_neg (fun h=>htd h.1),hk t htl]
  cases hx:st.tmps.getD t .undef with
  | opt u w' y=>
   simp only [zQ]
   rw [if_neg]
   rintro rfl
   refine hd ?_
   simp only [zJ,List.mem_append,List.mem_flatMap]
   exact .inr ⟨t,ht,by rw [hx]; simp [XD]⟩
  | _=>rfl
theorem vg(d:Nat)(y:AV):zQ d y=y∧(∀ want x,y≠.opt d want x)∨zQ d y = .undef:=by
 cases y with
 | opt u want x=>
  simp only [zQ]
  by_cases h:u=d
  ·right; rw [if_pos h]
  ·left; rw [if_neg h]; exact⟨rfl,fun want' x' e=>by cases e; exact h rfl⟩
 | _=>left; exact⟨rfl,fun want' x' e=>by cases e⟩
theorem Inv.clear(I:Inv P Γ ops L st pend listed){e:Ent}(he:e∈pend)(hr:e.k∈Region.ready .any ops listed):∀ f∈pend,f.k≠e.k→f.d∉e.looks∧f.d≠e.d:=by
 intro f hf hne
 obtain⟨o,ho⟩:=I.good e he
 obtain⟨_,o',ho',hall⟩:=j8.1 hr
 rw [ho.op] at ho'; cases ho'
 rcases I.ord e he f hf (fun h=>hne h.symm) with ⟨_,h2,h3⟩ | ⟨h1,h2,_⟩
 ·rcases h3 with h3 | h3
  ·have:=Q3 (T:=fun k=>listed.getD k false=true) I.cl hall f.k (h3 o ho.op)
   exact absurd ⟨f,hf,rfl⟩ ((I.T f.k).1 this).2
  ·exact⟨h3,fun h=>h2 h.symm⟩
 ·exact⟨h1,h2⟩
theorem QA.Wb{e:Ent}{o:Oper}(h:QA P Γ ops st e o){u:Nat}{want:Bool}{x:AV}(hx:e.x = .opt u want x):u∈e.looks:=by
 obtain⟨r,hr,h2⟩:=Tree.wA (Zu h.val)
 subst hr
 have:=h2 u want x hx
 rw [← h.looks]
 simp [zJ,this]
theorem kO{k:Nat}(hk:listed.getD k true=false)(j:Nat)(d:Bool):(listed.setIfInBounds k true).getD j d=if j=k then true else listed.getD j d:=by
 by_cases h:j=k
 ·subst h
  rw [if_pos rfl]
  have:j<listed.size:=by
   rcases Nat.lt_or_ge j listed.size with h | h
   ·exact h
   ·simp [h] at hk
  simp [this]
 ·rw [if_neg h]; exact getD_set_ne d (fun e=>h e.symm)
theorem Inv.zb1(I:Inv P Γ ops L st pend listed){e:Ent}(he:e∈pend)(hr:e.k∈Region.ready .any ops listed):Inv P Γ ops L st (pend.filter fun f=>f.k != e.k) (listed.setIfInBounds e.k true):=by
 obtain⟨hun,o',ho',hall⟩:=j8.1 hr
 have hset:=kO hun
 have hmem:∀ f,f∈pend.filter (fun f=>f.k != e.k)↔f∈pend∧f.k≠e.k:=fun f=>by simp
 have hlt:e.k<ops.size:=(Array.getElem?_eq_some_iff.1 ho').1
 have hcl:=I.clear he hr
 obtain⟨o,ho⟩:=I.good e he
 refine⟨fun k hk=> ?_,fun k hk=> ?_,fun k hk=> ?_,I.ok,I.lt,fun f hf=>I.key f ((hmem f).1 hf).1,fun f hf g hg=>I.uniq f ((hmem f).1 hf).1 g ((hmem g).1 hg).1,fun f hf g hg=>I.ord f ((hmem f).1 hf).1 g ((hmem g).1 hg).1,fun f hf=>I.good f ((hmem f).1 hf).1,?_,?_⟩
 ·rw [hset]
  by_cases h:k=e.k
  ·rw [if_pos h]
   simp only [Bool.true_eq_false,false_iff,not_or,Classical.not_not]
   refine⟨h▸I.key e he,?_⟩
   rintro⟨f,hf,hfk⟩
   exact((hmem f).1 hf).2 (hfk.trans h)
  ·rw [if_neg h,I.lis k hk]
   constructor
   ·rintro(h1 | ⟨f,hf,hfk⟩)
    ·exact .inl h1
    ·exact .inr ⟨f,(hmem f).2 ⟨hf,fun e'=>h (hfk.symm.trans e')⟩,hfk⟩
   ·rintro(h1 | ⟨f,hf,hfk⟩)
    ·exact .inl h1
    ·exact .inr ⟨f,((hmem f).1 hf).1,hfk⟩
 ·rw [hset,hset,if_neg (fun h=>hk (by omega)),if_neg (fun h=>hk (by omega))]; exact I.out k hk
 ·rw [hset,hset]; split
  ·rfl
  ·exact I.lis2 k hk
 ·intro f hf t want x hx
  obtain⟨hf1,hf2⟩:=(hmem f).1 hf
  obtain⟨g,hg,hgt⟩:=I.Ju f hf1 t want x hx
  by_cases hge:g.k=e.k
  ·exfalso
   have:=I.uniq g hg e he hge
   subst this
   subst hgt
   have hlt2:g.d<st.tmps.length:=by
    rcases Nat.lt_or_ge g.d st.tmps.length with h | h
    ·exact h
    ·simp [List.getD,List.getElem?_eq_none h] at hx
   rw [ho.slot hlt2] at hx
   exact(hcl f hf1 hf2).1 (ho.Wb hx)
  ·exact⟨g,(hmem g).2 ⟨hg,hge⟩,hgt⟩
 ·intro k o2 hk ho2 j hj
  rw [hset] at hk ⊢
  split
  ·rfl
  ·split at hk
   ·rename_i hke
    subst hke
    rw [ho'] at ho2; cases ho2
    exact hall j hj
   ·exact I.cl k o2 hk ho2 j hj
theorem modA(I:Inv P Γ ops L st pend listed){e:Ent}(he:e∈pend)(hr:e.k∈Region.ready .any ops listed){w':World}{σ':List SE}{a':Act}(hm:Mod O pin w0 σ0 w' σ' (putX (mask (pend.map (·.d)) st) (some e.d) ⟨e.x,[],[]⟩) a') :
  Mod O pin w0 σ0 w' σ' (mask ((pend.filter fun f=>f.k != e.k).map (·.d)) st) a':=by
 obtain⟨o,ho⟩:=I.good e he
 have hcl:=I.clear he hr
 refine hm.weaken ?_ (by rw [wM,qZ,qZ]) fun t=> ?_
 ·rw [wH]; simp only [zw,zi]; rfl
 ·rw [jo,qD,qD,qZ]
  simp only [z5]
  by_cases hD':t∈(pend.filter fun f=>f.k != e.k).map (·.d)
  ·rw [if_pos hD']; exact .inr rfl
  ·rw [if_neg hD']
   by_cases htd:t=e.d
   ·subst htd
    by_cases hlt:e.d<st.tmps.length
    ·rw [if_pos ⟨rfl,hlt⟩]
     exact .inl (ho.slot hlt)
    ·right
     simp only [List.getD]
     rw [List.getElem?_eq_none (by omega)]; rfl
   ·rw [if_neg (fun h=>htd h.1)]
    have hD:t∉pend.map (·.d):=by
     intro h
     obtain⟨f,hf,hft⟩:=List.mem_map.1 h
     apply hD'
     refine List.mem_map.2 ⟨f,?_,hft⟩
     simp only [List.mem_filter,bne_iff_ne,ne_eq]
     exact⟨hf,fun hk=>htd (by rw [← hft,I.uniq f hf e he hk])⟩
    rw [if_neg hD]
    rcases vg e.d (st.tmps.getD t .undef) with ⟨h,_⟩ | h
    ·rw [h]; exact .inl rfl
    ·left
     rw [h]
     generalize hy:st.tmps.getD t .undef=y at h ⊢
     cases y with
     | opt u want x=>
      simp only [zQ] at h
      split at h
      ·rename_i hu
       subst hu
       obtain⟨f,hf,hft⟩:=I.Ju e he t want x hy
       exact absurd (List.mem_map.2 ⟨f,hf,hft⟩) hD
      ·cases h
     | undef=>rfl
     | _=>simp only [zQ] at h; exact h
theorem Inv.ahead(I:Inv P Γ ops L st pend listed){e:Ent}{o:Oper}(h1:ops[e.k]?=some o)(h2:o.dst=some e.d)(h3:(qI P Γ ops st o).holds (fun r=>r=⟨e.x,[],[]⟩))(h4:zJ ops st.tmps o=e.looks)(h5:e.d∉e.looks)
  (h6:zV (zG st (vu ops st o)) o.op=some e.labs) (h7:∀ i∈e.labs,i<st.heap.length) (hrd:e.k∈vy ops L) (hb:∀ f∈pend,jR (ju ops o) (some e.d) e.looks true f=true) :
  Inv P Γ ops (e.k::L) (putX st (some e.d) ⟨e.x,[],[]⟩) (e::pend) listed:=by
 obtain⟨hkL,o2,ho2,hall⟩:=kJ.1 hrd
 rw [h1] at ho2; cases ho2
 have hlt:e.k<ops.size:=(Array.getElem?_eq_some_iff.1 h1).1
 have hb':∀ f∈pend,e.d∉f.looks∧e.d≠f.d∧(f.k∈ju ops o∨f.d∉e.looks):=by
  intro f hf
  have:=hb f hf
  simp only [jR,Bool.or_eq_true,Bool.and_eq_true,Bool.not_true,Bool.false_or,Bool.not_eq_true',List.contains_eq_mem,decide_eq_true_eq,decide_eq_false_iff_not,beq_eq_false_iff_ne,ne_eq] at this
  rcases this with ⟨g1,g2,g3⟩ | ⟨⟨g1,g2⟩,g3⟩
  ·exact⟨g2,g3,.inl g1⟩
  ·exact⟨g1,g2,.inr g3⟩
 have hheap:(putX st (some e.d) ⟨e.x,[],[]⟩).heap=st.heap:=by rw [wH]; simp [zw,zi]
 have hself:∀ t∈qy ops st.tmps o,(putX st (some e.d) ⟨e.x,[],[]⟩).tmps.getD t .undef=st.tmps.getD t .undef:=QW (fun d hd=>by cases hd; rw [h4]; exact h5) rfl
 have hslot:∀ t,t≠e.d→(putX st (some e.d) ⟨e.x,[],[]⟩).tmps.getD t .undef=zQ e.d (st.tmps.getD t .undef):=by
  intro t ht
  rw [jo]; simp only [z5]
  rw [if_neg (fun h=>ht h.1)]
 have hE:QA P Γ ops (putX st (some e.d) ⟨e.x,[],[]⟩) e o:=by
  refine⟨h1,h2,?_,?_,h5,?_,?_,?_⟩
  ·rw [jV hself (.inl hheap)]; exact h3
  ·rw [vV hself]; exact h4
  ·rw [vD hself,wS hself]; exact h6
  ·rw [hheap]; exact h7
  ·intro hl
   rw [wM] at hl
   rw [jo]; simp only
   rw [if_pos ⟨trivial,hl⟩]
 have h0:QA P Γ ops (putX st (some e.d) ⟨e.x,[],[]⟩) e o:=hE
 refine⟨fun k hk=> ?_,I.out,I.lis2,⟨fun o2 ho2 k hk=> ?_,hkL,I.ok⟩,fun k hk=> ?_,fun f hf=> ?_,fun f hf g hg hfg=> ?_,fun f hf g hg hne=> ?_,fun f hf=> ?_,?_,I.cl⟩
 ·by_cases hke:k=e.k
  ·subst hke
   have:=(I.lis e.k hk).2 (.inl hkL)
   simp [this]
  ·rw [I.lis k hk]
   constructor
   ·rintro(g1 | ⟨f,hf,g1⟩)
    ·exact .inl (by simp [hke,g1])
    ·exact .inr ⟨f,by simp [hf],g1⟩
   ·rintro(g1 | ⟨f,hf,g1⟩)
    ·exact .inl (fun h=>g1 (by simp [h]))
    ·rcases List.mem_cons.1 hf with rfl | hf
     ·exact absurd g1.symm hke
     ·exact .inr ⟨f,hf,g1⟩
 ·rw [h1] at ho2; cases ho2; exact hall k hk
 ·rcases List.mem_cons.1 hk with rfl | hk
  ·exact hlt
  ·exact I.lt k hk
 ·rcases List.mem_cons.1 hf with rfl | hf
  ·simp
  ·simp [I.key f hf]
 ·rcases List.mem_cons.1 hf with hf2 | hf2<;>rcases List.mem_cons.1 hg with hg2 | hg2
  ·rw [hf2,hg2]
  ·rw [hf2] at hfg; exact absurd (hfg▸I.key g hg2) hkL
  ·rw [hg2] at hfg; exact absurd (hfg▸I.key f hf2) hkL
  ·exact I.uniq f hf2 g hg2 hfg
 ·have hLat:∀ g∈pend,Ym ops e g:=fun g hg=>by
   obtain⟨g1,g2,g3⟩:=hb' g hg
   exact⟨g1,g2,g3.imp (fun h o2 ho2=>by rw [h1] at ho2; cases ho2; exact h) id⟩
  rcases List.mem_cons.1 hf with hf2 | hf2<;>rcases List.mem_cons.1 hg with hg2 | hg2
  ·rw [hf2,hg2] at hne; exact absurd rfl hne
  ·rw [hf2]; exact .inl (hLat g hg2)
  ·rw [hg2]; exact .inr (hLat f hf2)
  ·exact I.ord f hf2 g hg2 hne
 ·rcases List.mem_cons.1 hf with rfl | hf
  ·exact⟨o,hE⟩
  ·obtain⟨o2,ho2⟩:=I.good f hf
   obtain⟨g1,g2,g3⟩:=hb' f hf
   have hs2:∀ t∈qy ops st.tmps o2,(putX st (some e.d) ⟨e.x,[],[]⟩).tmps.getD t .undef=st.tmps.getD t .undef:=QW (fun d hd=>by cases hd; rw [ho2.looks]; exact g1) rfl
   refine⟨o2,ho2.op,ho2.dst,?_,?_,ho2.self,?_,?_,?_⟩
   ·rw [jV hs2 (.inl hheap)]; exact ho2.val
   ·rw [vV hs2]; exact ho2.looks
   ·rw [vD hs2,wS hs2]; exact ho2.quiet
   ·rw [hheap]; exact ho2.lab
   ·intro hl
    rw [wM] at hl
    rw [hslot f.d (fun h=>g2 h.symm),ho2.slot hl]
    rcases vg e.d f.x with ⟨h,_⟩ | h
    ·exact h
    ·cases hx:f.x with
     | opt u want y=>
      rw [hx] at h
      simp only [zQ] at h ⊢
      split
      ·rename_i hu
       subst hu
       exact absurd (ho2.Wb hx) g1
      ·rfl
     | _=>simp only [zQ]
 ·intro f hf t want x hx
  by_cases htd:t=e.d
  ·exact⟨e,by simp,htd.symm⟩
  ·rw [hslot t htd] at hx
   rcases vg e.d (st.tmps.getD t .undef) with ⟨h,h'⟩ | h
   ·rw [h] at hx
    rcases List.mem_cons.1 hf with rfl | hf
    ·exact absurd hx (h' want x)
    ·obtain⟨g,hg,hgt⟩:=I.Ju f hf t want x hx
     exact⟨g,by simp [hg],hgt⟩
   ·rw [h] at hx; cases hx
theorem modC{e:Ent}(hm:Mod O pin w0 σ0 w σ (mask (pend.map (·.d)) st) a):Mod O pin w0 σ0 w σ (mask ((e::pend).map (·.d)) (putX st (some e.d) ⟨e.x,[],[]⟩)) a:=by
 refine hm.weaken ?_ (by rw [qZ,qZ,wM]) fun t=> ?_
 ·show(putX st (some e.d) ⟨e.x,[],[]⟩).heap=st.heap
  rw [wH]; simp [zw,zi]
 ·rw [qD,qD]
  by_cases h1:t∈(e::pend).map (·.d)
  ·rw [if_pos h1]; exact .inr rfl
  ·rw [if_neg h1,if_neg (fun h=>h1 (by simp only [List.map_cons,List.mem_cons]; exact .inr h)),jo]
   simp only [z5]
   rw [if_neg (fun h=>h1 (by simp [h.1]))]
   rcases vg e.d (st.tmps.getD t .undef) with ⟨h,_⟩ | h
   ·exact .inl h
   ·exact .inr h
theorem Inv.zba(I:Inv P Γ ops L st pend listed){i:Nat}{o:Oper}{r:Res}(h1:ops[i]?=some o)(hiL:i∉L)(hr:i∈Region.ready .any ops listed)
  (hb:∀ f∈pend,jR (ju ops o) o.dst (zJ ops st.tmps o) false f=true) (he:∀ f∈pend,effK (ju ops o) st r f=true) (ha:∀ f∈pend,effE (ju ops o) st r f=true∨∃ o2,ops[f.k]?=some o2∧(qI P Γ ops (putX st o.dst r) o2).holds (fun r'=>r'=⟨f.x,[],[]⟩)) (hopt:∀ u want x,r.val = .opt u want x→u∈qy ops st.tmps o) :
  Inv P Γ ops (i::L) (putX st o.dst r) pend (listed.setIfInBounds i true):=by
 obtain⟨hun,o',ho',hall⟩:=j8.1 hr
 rw [h1] at ho'; cases ho'
 have hset:=kO hun
 have hlt:i<ops.size:=(Array.getElem?_eq_some_iff.1 h1).1
 have hanc:∀ f∈pend,f.k∉ju ops o:=by
  intro f hf h
  have:=Q3 (T:=fun k=>listed.getD k false=true) I.cl hall f.k h
  exact((I.T f.k).1 this).2 ⟨f,hf,rfl⟩
 have hnp:∀ f∈pend,f.k≠i:=fun f hf h=>hiL (h▸I.key f hf)
 have hb':∀ f∈pend,(∀ d,o.dst=some d→d∉f.looks∧d≠f.d)∧f.d∉zJ ops st.tmps o:=by
  intro f hf
  have:=hb f hf
  simp only [jR,List.contains_eq_mem,decide_eq_true_eq,hanc f hf,decide_false,Bool.false_and,Bool.false_or,Bool.and_eq_true,Bool.not_eq_true',decide_eq_false_iff_not] at this
  refine⟨fun d hd=> ?_,this.2⟩
  have h3:=this.1
  rw [hd] at h3
  simpa using h3
 have he':∀ f∈pend,z5 r.kill f.x=f.x∧∀ t∈f.looks,z5 r.kill (st.tmps.getD t .undef)=st.tmps.getD t .undef:=by
  intro f hf
  have:=he f hf
  simp only [effK,List.contains_eq_mem,hanc f hf,decide_false,Bool.false_or,Bool.or_eq_true,Bool.and_eq_true,List.isEmpty_iff,List.all_eq_true] at this
  rcases this with h | ⟨h1,h2⟩
  ·rw [h]; exact⟨rfl,fun _ _=>rfl⟩
  ·exact⟨kn h1,fun t ht=>kn (h2 t ht)⟩
 have ha':∀ f∈pend,((∀ p∈r.eff,p.1∉f.labs)∧∀ j∈f.labs,qW r.kill (st.heap.getD j .dead)=st.heap.getD j .dead)∨∃ o2,ops[f.k]?=some o2∧(qI P Γ ops (putX st o.dst r) o2).holds (fun r'=>r'=⟨f.x,[],[]⟩):=by
  intro f hf
  refine(ha f hf).imp (fun h=> ?_) id
  simp only [effE,List.contains_eq_mem,hanc f hf,decide_false,Bool.false_or,Bool.and_eq_true,Bool.or_eq_true,List.isEmpty_iff,List.all_eq_true,Bool.not_eq_true',decide_eq_false_iff_not] at h
  refine⟨h.1,fun j hj=> ?_⟩
  rcases h.2 with h | h
  ·rw [h]; exact qK _
  ·exact Jl (h j hj)
 refine⟨fun k hk=> ?_,fun k hk=> ?_,fun k hk=> ?_,⟨fun o2 ho2 k hk=> ?_,hiL,I.ok⟩,fun k hk=> ?_,fun f hf=>by simp [I.key f hf],I.uniq,I.ord,fun f hf=> ?_,?_,?_⟩
 ·rw [hset]
  by_cases h:k=i
  ·subst h
   simp only [if_true,Bool.true_eq_false,List.mem_cons,true_or,not_true,false_or,false_iff]
   rintro⟨f,hf,g⟩
   exact hnp f hf g
  ·rw [if_neg h,I.lis k hk]
   simp [h]
 ·rw [hset,hset,if_neg (fun h=>hk (by omega)),if_neg (fun h=>hk (by omega))]; exact I.out k hk
 ·rw [hset,hset]; split
  ·rfl
  ·exact I.lis2 k hk
 ·rw [h1] at ho2; cases ho2
  exact((I.T k).1 (hall k hk)).1
 ·rcases List.mem_cons.1 hk with rfl | hk
  ·exact hlt
  ·exact I.lt k hk
 ·obtain⟨o2,ho2⟩:=I.good f hf
  obtain⟨g1,g2⟩:=hb' f hf
  obtain⟨g3x,g3s⟩:=he' f hf
  have hs2:∀ t∈qy ops st.tmps o2,(putX st o.dst r).tmps.getD t .undef=st.tmps.getD t .undef:=Kb (fun d hd=>by rw [ho2.looks]; exact(g1 d hd).1) (fun t ht=>g3s t (by rw [← ho2.looks]; exact ht))
  have hlen:st.heap.length≤(putX st o.dst r).heap.length:=by
   rw [wH]
   have hkl:(zw r.kill st.heap).length=st.heap.length:=by simp [zC]
   have:=x2 r.eff (zw r.kill st.heap)
   omega
  refine⟨o2,ho2.op,ho2.dst,?_,?_,ho2.self,?_,?_,?_⟩
  ·rcases ha' f hf with ⟨g4,g3b⟩ | ⟨o3,g4,g5⟩
   ·have hheap:∀ j∈f.labs,(putX st o.dst r).heap[j]?=st.heap[j]?:=by
     intro j hj
     rw [wH]
     have hlt:=ho2.lab j hj
     have hkl:(zw r.kill st.heap).length=st.heap.length:=by simp [zC]
     obtain⟨k1,k2⟩:=ym (h:=zw r.kill st.heap) (eff:=r.eff) (i:=j) (by omega) fun p hp h=>g4 p hp (h▸hj)
     refine k1.trans ?_
     have:=g3b j hj
     simp only [List.getD,List.getElem?_eq_getElem hlt,Option.getD_some] at this
     rw [zC,List.getElem?_map,List.getElem?_eq_getElem hlt,Option.map_some,this]
    rw [jV hs2 (.inr ⟨_,ho2.quiet,hheap⟩)]; exact ho2.val
   ·rw [ho2.op] at g4; cases g4; exact g5
  ·rw [vV hs2]; exact ho2.looks
  ·rw [vD hs2,wS hs2]; exact ho2.quiet
  ·intro j hj
   exact Nat.lt_of_lt_of_le (ho2.lab j hj) hlen
  ·intro hl
   rw [wM] at hl
   rw [jo,ho2.slot hl,g3x]
   cases hd:o.dst with
   | none=>rfl
   | some d=>
    simp only
    rw [if_neg (fun h=>(g1 d hd).2 h.1.symm)]
    cases hx:f.x with
    | opt u want y=>
     simp only [zQ]
     split
     ·rename_i hu
      subst hu
      exact absurd (ho2.Wb hx) (g1 _ hd).1
     ·rfl
    | _=>simp only [zQ]
 ·intro f hf t want x hx
  obtain⟨g1,g2⟩:=hb' f hf
  rw [jo] at hx
  cases hd:o.dst with
  | none=>rw [hd] at hx; exact I.Ju f hf t want x (uE hx)
  | some d=>
   rw [hd] at hx
   simp only at hx
   split at hx
   ·exact absurd (by simp [zJ,hopt _ _ _ hx]) g2
   ·rcases vg d (z5 r.kill (st.tmps.getD t .undef)) with ⟨h,_⟩ | h
    ·rw [h] at hx; exact I.Ju f hf t want x (uE hx)
    ·rw [h] at hx; cases hx
 ·intro k o2 hk ho2 j hj
  rw [hset] at hk ⊢
  split
  ·rfl
  ·split at hk
   ·rename_i hke
    subst hke
    rw [h1] at ho2; cases ho2
    exact hall j hj
   ·exact I.cl k o2 hk ho2 j hj
theorem modB{D:List Nat}{o:Oper}{r:Res}{w':World}{σ':List SE}{a':Act}(hm:Mod O pin w0 σ0 w' σ' (putX (mask D st) o.dst r) a'):Mod O pin w0 σ0 w' σ' (mask D (putX st o.dst r)) a':=by
 refine hm.weaken ?_ (by rw [qZ,wM,wM,qZ]) fun t=> ?_
 ·show(putX st o.dst r).heap=_
  rw [wH,wH]; rfl
 ·rw [qD]
  by_cases h:t∈D
  ·rw [if_pos h]; exact .inr rfl
  ·rw [if_neg h,jo,jo,qZ,qD,if_neg h]; exact .inl rfl
end
end Go.Sx
end
section
namespace Go.Sx
variable [Stat]
open Go.RowKit (Below)
section
variable {O:Nat→Prop} {pin:Nat} {w0:World} {σ0:List SE} {P:Program} {Γ:Nat→Option Ctr}
variable {ops:Array Oper} {Qe:Exit→Act→World→Prop} {Xp:List PanicEntry→Prop}
def Fine(M:Option Nat)(P:Program)(Γ:Nat→Option Ctr)(O:Nat→Prop)(pin:Nat)(w0:World)(σ0:List SE)(ops:Array Oper)(Qe:Exit→Act→World→Prop)(L:List Nat)(res:List Ent)(st:St):Prop:=
 ∀ (pend:List Ent) (listed:Array Bool) (fuel:Nat) (U:List Nat) (w:World) (σ:List SE) (a:Act),Inv P Γ ops L st pend listed→(∀ e∈pend,e∈res) →
  (∀ k,k<ops.size→listed.getD k true=false→k∈U)→U.length≤fuel→Mod O pin w0 σ0 w σ (mask (pend.map (·.d)) st) a→wpAnyIn (FM M) 0 P .any ops Qe fuel listed a w
theorem uH{α:Type}{Q:α→Prop} : ∀ {l:List (Tree α)},(WU l).holds Q→∀ t∈l,t.holds Q
 | [],_,t,ht=>by cases ht
 | [t],h,t',ht=>by simp only [List.mem_singleton] at ht; subst ht; exact h
 | t::t2::l,h,t',ht=>by
  simp only [WU,Tree.holds] at h
  rcases List.mem_cons.1 ht with rfl | ht
  ·exact(h.2 true trivial).1 rfl
  ·exact uH ((h.2 false trivial).2 rfl) t' ht
theorem X9{w:World}{σ:List SE}{st:St}{a:Act}(hm:Mod O pin w0 σ0 w σ (mask [] st) a):Mod O pin w0 σ0 w σ st a:=
 hm.weaken rfl (by rw [qZ]) fun t=>.inl (by rw [qD]; simp)
theorem VG{x y:AV}{p:Prop}(h:Qs x y=some p)(hp:p):x=y:=by
 unfold Qs at h
 split at h
 ·cases h; rw [hp]
 ·split at h
  ·rename_i hk; cases h; rw [hk,hp]
  ·cases h
 ·cases h; rw [hp]
 ·split at h
  ·rename_i hk; rw [hk.1,hk.2]
  ·cases h
 ·split at h
  ·rename_i hk; cases h; rw [hk.1,hk.2.1,hk.2.2,hp]
  ·cases h
 ·split at h
  ·rename_i hk; rw [hk]
  ·cases h
 ·cases h; rw [hp]
 ·rfl
 ·rfl
 ·rfl
 ·cases h; rw [hp.1,hp.2.1,hp.2.2]
 ·split at h
  ·rename_i hk; cases h; rw [hk.1,hk.2,hp.1,hp.2]
  ·cases h
 ·cases h
theorem yl{α:Type}{st:St}{Q:α→Prop}{t:Tree α} : ∀ {l:List Ent},(ye P Γ ops st l t).holds Q→(∀ e∈l,∃ o2,ops[e.k]?=some o2∧(qI P Γ ops st o2).holds (fun r'=>r'=⟨e.x,[],[]⟩))∧t.holds Q
 | [],h=>⟨by simp,h⟩
 | e::l,h=>by
  simp only [ye] at h
  split at h
  ·rename_i o ho
   rw [Tree.zl] at h
   have key:∀ r:Res,(match r with
     | ⟨x,[],[]⟩=>match Qs x e.x with
      | some p=>Tree.side p (ye P Γ ops st l t)
      | none=>.fail
     | _=>.fail).holds Q→r=⟨e.x,[],[]⟩∧(ye P Γ ops st l t).holds Q:=by
    intro r hr
    split at hr
    ·rename_i x
     split at hr
     ·rename_i p hp
      obtain⟨h1,h2⟩:=hr
      exact⟨by rw [VG hp h1],h2 h1⟩
     ·exact hr.elim
    ·exact hr.elim
   obtain⟨r,hr⟩:=Tree.wA h
   obtain⟨h1,h2⟩:=yl (key r hr).2
   refine⟨fun f hf=> ?_,h2⟩
   rcases List.mem_cons.1 hf with rfl | hf
   ·exact⟨o,ho,Tree.zK (fun r hr=>(key r hr).1) h⟩
   ·exact h1 f hf
  ·exact h.elim
theorem uQ{M:Option Nat}(hΓ:∀ g c,Γ g=some c→qg Xp P g c)(hP:∀ ch a w',Xp ch→Dead σ0 w0 w' a.defers→Qe (.panic ch) a w'){L:List Nat}{res:List Ent}{st:St}
  (h:(vy ops L=[]∧∀ w σ a,Mod O pin w0 σ0 w σ st a→Qe .normal a w) ∨
   vy ops L≠[]∧∀ i∈vy ops L,∃ o,ops[i]?=some o∧(∀ f∈res,jR (ju ops o) o.dst (zJ ops st.tmps o) false f=true) ∧
    (qI P Γ ops st o).holds fun r=>((∀ f∈res,effK (ju ops o) st r f=true)∧∀ f∈res,effE (ju ops o) st r f=true∨∃ o2,ops[f.k]?=some o2∧(qI P Γ ops (putX st o.dst r) o2).holds (fun r'=>r'=⟨f.x,[],[]⟩))∧(∀ j∈r.kill,pin≤j)∧Fine M P Γ O pin w0 σ0 ops Qe (i::L) res (putX st o.dst r)) :
  ∀ m,∀ (pend:List Ent) (listed:Array Bool) (fuel:Nat) (U:List Nat) (w:World) (σ:List SE) (a:Act),pend.length≤m→Inv P Γ ops L st pend listed→(∀ e∈pend,e∈res) →
  (∀ k,k<ops.size→listed.getD k true=false→k∈U)→U.length≤fuel→Mod O pin w0 σ0 w σ (mask (pend.map (·.d)) st) a→wpAnyIn (FM M) 0 P .any ops Qe fuel listed a w:=by
 intro m
 induction m using Nat.strongRecOn with
 | _ m ih=>
  intro pend listed fuel U w σ a hlen I hsub hU hfuel hm
  have hnone:Region.ready .any ops listed=[]→Qe .normal a w:=by
   intro hnil
   have hp:pend=[]:=by
    rcases Classical.em (pend=[]) with h | h
    ·exact h
    ·obtain⟨e,_,he⟩:=I.first h
     rw [hnil] at he; cases he
   subst hp
   rcases h with ⟨h1,h2⟩ | ⟨h1,h2⟩
   ·exact h2 w σ a (X9 hm)
   ·exfalso
    obtain⟨i,hi⟩:=List.exists_mem_of_ne_nil _ h1
    obtain⟨g1,o2,g2,g3⟩:=kJ.1 hi
    have hlt:=(Array.getElem?_eq_some_iff.1 g2).1
    have:i∈Region.ready .any ops listed:=j8.2 ⟨(I.lis i hlt).2 (.inl g1),o2,g2,fun k hk=>(I.T k).2 ⟨g3 k hk,by simp⟩⟩
    rw [hnil] at this; cases this
  have hinU:∀ k∈Region.ready .any ops listed,k∈U:=by
   intro k hk
   obtain⟨g1,o,g2,_⟩:=j8.1 hk
   exact hU k (Array.getElem?_eq_some_iff.1 g2).1 g1
  cases fuel with
  | zero=>
   have hnil:Region.ready .any ops listed=[]:=by
    rw [List.eq_nil_iff_forall_not_mem]
    intro k hk
    have:=hinU k hk
    rw [List.length_eq_zero_iff.1 (Nat.le_zero.1 hfuel)] at this
    cases this
   exact⟨hnil,hnone hnil⟩
  | succ fuel=>
   refine⟨hnone,fun k hk=> ?_⟩
   obtain⟨hun,ok,hok,hall⟩:=j8.1 hk
   have hkU:=hinU k hk
   have hUe:∀ j,j<ops.size→(listed.setIfInBounds k true).getD j true=false→j∈U.erase k:=by
    intro j hj hl
    rw [kO hun] at hl
    split at hl
    ·cases hl
    ·rename_i hne
     exact(List.mem_erase_of_ne hne).2 (hU j hj hl)
   have hUl:(U.erase k).length≤fuel:=by
    rw [List.length_erase_of_mem hkU]; omega
   by_cases hp:∃ e∈pend,e.k=k
   ·obtain⟨e,he,rfl⟩:=hp
    obtain⟨o,ho⟩:=I.good e he
    have hoo:o=ok:=by rw [ho.op] at hok; exact Option.some.inj hok
    subst hoo
    have hcl:=I.clear he hk
    have hcore:∀ t∈qy ops st.tmps o,(mask (pend.map (·.d)) st).tmps.getD t .undef=st.tmps.getD t .undef:=by
     intro t ht
     rw [qD,if_neg]
     intro hd
     obtain⟨f,hf,hft⟩:=List.mem_map.1 hd
     have htl:t∈e.looks:=by rw [← ho.looks]; simp [zJ,ht]
     by_cases hfe:f.k=e.k
     ·have:=I.uniq f hf e he hfe
      subst this
      exact ho.self (hft▸htl)
     ·exact(hcl f hf hfe).1 (hft▸htl)
    have hq:(qI P Γ ops (mask (pend.map (·.d)) st) o).holds (fun r=>r=⟨e.x,[],[]⟩):=by
     rw [jV hcore (.inl rfl)]; exact ho.val
    have:=kh (M:=M) hΓ hm (Qe:=Qe) (K:=wpAnyIn (FM M) 0 P .any ops Qe fuel (listed.setIfInBounds e.k true)) hq (fun r w' σ' v hr hM=>by
     subst hr
     have hM:=hM (by simp)
     rw [ho.dst] at hM ⊢
     refine ih (pend.filter fun f=>f.k != e.k).length ?_ _ _ fuel (U.erase e.k) w' σ' _ (Nat.le_refl _) (I.zb1 he hk) (fun f hf=>hsub f (List.mem_filter.1 hf).1) hUe hUl (modA I he hk hM)
     refine Nat.lt_of_lt_of_le ?_ hlen
     exact List.length_filter_lt_length_iff_exists.2 ⟨e,he,by simp⟩) hP
    unfold wpOpIn
    rw [ho.op]
    simp only
    split
    ·rename_i hw; rw [if_pos hw] at this; exact this
    ·rename_i hw; rw [if_neg hw] at this; exact this
   ·have hkL:k∉L:=by
     have hlt:=(Array.getElem?_eq_some_iff.1 hok).1
     rcases(I.lis k hlt).1 hun with h1 | h1
     ·exact h1
     ·exact absurd h1 hp
    have hkr:k∈vy ops L:=kJ.2 ⟨hkL,ok,hok,fun j hj=>((I.T j).1 (hall j hj)).1⟩
    rcases h with ⟨h1,h2⟩ | ⟨h1,hall2⟩
    ·rw [h1] at hkr; cases hkr
    ·obtain⟨o,h2,h3,h4⟩:=hall2 k hkr
     have hoo:o=ok:=by rw [h2] at hok; exact Option.some.inj hok
     subst hoo
     have hb:∀ f∈pend,jR (ju ops o) o.dst (zJ ops st.tmps o) false f=true:=fun f hf=>h3 f (hsub f hf)
     have hcore:∀ t∈qy ops st.tmps o,(mask (pend.map (·.d)) st).tmps.getD t .undef=st.tmps.getD t .undef:=by
      intro t ht
      rw [qD,if_neg]
      intro hd
      obtain⟨f,hf,hft⟩:=List.mem_map.1 hd
      have hanc:f.k∉ju ops o:=fun h'=>by
       have:=Q3 (T:=fun k=>listed.getD k false=true) I.cl hall f.k h'
       exact((I.T f.k).1 this).2 ⟨f,hf,rfl⟩
      have:=hb f hf
      simp only [jR,List.contains_eq_mem,hanc,decide_false,Bool.false_and,Bool.false_or,Bool.and_eq_true,Bool.not_eq_true',decide_eq_false_iff_not] at this
      exact this.2 (by rw [hft]; simp [zJ,ht])
     have hq:=Zu h4
     rw [← jV (P:=P) (Γ:=Γ) hcore (.inl rfl)] at hq
     have:=kh (M:=M) hΓ hm (Qe:=Qe) (K:=wpAnyIn (FM M) 0 P .any ops Qe fuel (listed.setIfInBounds k true)) hq (fun r w' σ' v hr hM=>by
      obtain⟨⟨g1,g2,g3⟩,g4⟩:=hr
      have hM:=hM g2
      exact g3 pend _ fuel (U.erase k) w' σ' _ (I.zba h2 hkL hk hb (fun f hf=>g1.1 f (hsub f hf)) (fun f hf=>g1.2 f (hsub f hf)) g4) hsub hUe hUl (modB hM)) hP
     unfold wpOpIn
     rw [h2]
     simp only
     split
     ·rename_i hw; rw [if_pos hw] at this; exact this
     ·rename_i hw; rw [if_neg hw] at this; exact this
theorem ud{M:Option Nat}(hΓ:∀ g c,Γ g=some c→qg Xp P g c)(hP:∀ ch a w',Xp ch→Dead σ0 w0 w' a.defers→Qe (.panic ch) a w'){Q:St→Prop}(hQe:∀ st' w' σ' a',Q st'→Mod O pin w0 σ0 w' σ' st' a'→Qe .normal a' w') :
  ∀ (n:Nat) (L:List Nat) (res:List Ent) (st:St),(anyX P Γ pin ops n L res st).holds Q→Fine M P Γ O pin w0 σ0 ops Qe L res st
 | 0,L,res,st,hq=>by simp only [anyX] at hq; exact hq.elim
 | n+1,L,res,st,hq=>by
  simp only [anyX] at hq
  split at hq
  ·rename_i hnil
   intro pend listed fuel U w σ a I hs hU hf hm
   exact uQ hΓ hP (.inl ⟨hnil,fun w σ a hm=>hQe _ _ _ _ hq hm⟩) pend.length pend listed fuel U w σ a (Nat.le_refl _) I hs hU hf hm
  ·rename_i i0 rs hrs
   split at hq
   ·
    rename_i e hfind
    split at hq
    ·rename_i o ho
     split at hq
     ·rename_i hcond
      simp only [Bool.and_eq_true,List.all_eq_true] at hcond
      obtain⟨hbes,hmem⟩:=hcond
      obtain⟨j,hj,hent0⟩:=List.exists_of_findSome?_eq_some hfind
      have hent:Xd P Γ ops st j=some e:=by
       unfold UW at hent0
       split at hent0
       ·split at hent0
        ·split at hent0
         ·cases hent0; assumption
         ·cases hent0
        ·cases hent0
       ·cases hent0
      unfold Xd at hent
      split at hent
      ·rename_i o2 ho2
       split at hent
       ·rename_i d ls hd hls
        split at hent
        ·cases hent
        ·rename_i hcon
         split at hent
         ·rename_i ps x hch
          cases hent
          simp only at ho hq hbes hmem
          have hoo:o2=o:=by rw [ho2] at ho; exact Option.some.inj ho
          subst hoo
          rw [Tree.zl] at hq
          obtain⟨hq1,hq2⟩:=uD hch hq
          have hF:=ud (M:=M) hΓ hP hQe n _ _ _ hq1
          simp only [Bool.or_eq_true,List.contains_eq_mem,decide_eq_true_eq,Bool.not_eq_true',List.all_eq_false,not_or,not_exists,not_and,Bool.not_eq_false] at hcon
          intro pend listed fuel U w σ a I hs hU hf hm
          have hrd:j∈vy ops L:=by rw [hrs]; simpa using hmem
          rw [hd] at hF
          refine hF (_::pend) listed fuel U w σ a (I.ahead (e:=⟨j,d,zJ ops st.tmps o2,ls,x⟩) ho2 hd hq2 rfl hcon.1 hls (fun i hi=>by simpa using hcon.2 i hi) hrd ?_) ?_ hU hf (modC (e:=⟨j,d,zJ ops st.tmps o2,ls,x⟩) hm)
          ·intro f hf'
           have:=hbes f (hs f hf')
           rw [hd] at this
           exact this
          ·intro f hf'
           rcases List.mem_cons.1 hf' with rfl | hf'
           ·simp
           ·simp [hs f hf']
         ·cases hent
       ·cases hent
      ·cases hent
     ·exact hq.elim
    ·exact hq.elim
   ·intro pend listed fuel U w σ a I hs hU hf hm
    refine uQ hΓ hP (.inr ⟨by rw [hrs]; simp,fun i hi=> ?_⟩) pend.length pend listed fuel U w σ a (Nat.le_refl _) I hs hU hf hm
    rw [hrs] at hi
    have hq:=uH hq _ (List.mem_map_of_mem hi)
    split at hq
    ·rename_i o ho
     split at hq
     ·rename_i hbes
      rw [List.all_eq_true] at hbes
      rw [Tree.zl] at hq
      refine⟨o,ho,hbes,Tree.zK ?_ hq⟩
      intro r hr
      split at hr
      ·rename_i he
       rw [List.all_eq_true] at he
       obtain⟨h1,h2⟩:=ZB hr
       obtain⟨h3,h4⟩:=yl h2
       refine⟨⟨he,fun f hf=> ?_⟩,h1,ud (M:=M) hΓ hP hQe n _ _ _ h4⟩
       cases hE:effE (ju ops o) st r f with
       | true=>exact .inl rfl
       | false=>exact .inr (h3 f (List.mem_filter.2 ⟨hf,by rw [hE]; rfl⟩))
      ·exact hr.elim
     ·exact hq.elim
    ·exact hq.elim
theorem Kw{M:Option Nat}(hmix:P.follows .mixedOrders=true)(hΓ:∀ g c,Γ g=some c→qg Xp P g c){Q:St→Prop}{w:World}{σ:List SE}{st:St}{a:Act}{n id:Nat}(hq:(anyX P Γ pin ops n [] [] st).holds Q)(hm:Mod O pin w0 σ0 w σ st a)
  (hQe:∀ st' w' σ' a',Q st'→Mod O pin w0 σ0 w' σ' st' a'→Qe .normal a' w') (hP:∀ ch a w',Xp ch→Dead σ0 w0 w' a.defers→Qe (.panic ch) a w'):(Code.region id ops true).wpIn (FM M) 0 P Qe a w:=by
 refine wpIn_region_any hmix ?_
 have hF:=ud (M:=M) hΓ hP hQe n [] [] st hq
 have hget:∀ k,(Array.replicate ops.size false).getD k true=decide (¬ k<ops.size)∧(Array.replicate ops.size false).getD k false=false:=by
  intro k
  by_cases hk:k<ops.size<;>simp [hk]
 refine hF [] _ ops.size (List.range ops.size) _ σ a ⟨fun k hk=>by simp [hk],fun k hk=>by simp [hk],fun k hk=>by simp [hk],trivial,by simp,by simp,by simp,by simp,by simp,by simp,fun k o hk=> ?_⟩ (by simp) (fun k hk _=>by simpa using hk) (by simp) ?_
 ·rw [(hget k).2] at hk; cases hk
 ·have hx:Ext (Own O σ) w (Own O σ) { w with drawn:=w.drawn+1 } :=⟨rfl,rfl,rfl,Nat.le_refl _,fun _ _ _=>rfl,fun _ h=>.inl h⟩
  have hh:Hold [] w σ { w with drawn:=w.drawn+1 } σ:=fun _ _ h _=>⟨h,fun _ _ cs el h=>⟨cs,el,h,rfl⟩⟩
  have hm2:Mod O pin w0 σ0 { w with drawn:=w.drawn+1 } σ st a:=by
   refine⟨⟨hm.good.old,hm.good.dis,hm.good.stat.ext hx⟩,⟨hm.hp.len,hm.hp.inj,hm.hp.lt,fun i e b he hb=> ?_⟩,hm.size,fun t=> ?_,hm.df.ext hx,hm.since.trans ⟨hx,fun _ _ _=>rfl,w4.of hh (by simp)⟩,hm.lim⟩
   ·have:=q8 hx hh (hm.hp.blk i e b he hb) (fun _ _=>rfl)
    rwa [qK] at this
   ·exact Zp (K:=[]) hx hh (hm.tm t) (fun _ _ _ _=>rfl)
  exact hm2.weaken rfl (by rw [List.map_nil,qZ]) fun t=>.inl (by rw [qD]; simp)
end
end Go.Sx
end
section
namespace Go.Sx
variable [Stat]
open Go.RowKit (Below)
section
variable {O:Nat→Prop} {pin:Nat} {w0:World} {σ0:List SE} {w:World} {σ:List SE} {P:Program} {st:St} {a:Act} {Γ:Nat→Option Ctr} {Xp:List PanicEntry→Prop}
theorem ZD{M:Option Nat}(hΓ:∀ g c,Γ g=some c→qg Xp P g c){ops:Array Oper}{Q:St→Prop}{Qe:Exit→Act→World→Prop}(hK:∀ st' w' σ' a',Q st'→Mod O pin w0 σ0 w' σ' st' a'→Qe .normal a' w')(hP:∀ ch a w',Xp ch→Dead σ0 w0 w' a.defers→Qe (.panic ch) a w') :
  ∀ (l:List Oper) {st:St} {w:World} {σ:List SE} {a:Act},Mod O pin w0 σ0 w σ st a→(opsX P Γ pin ops l st).holds Q→wpListIn (FM M) 0 P ops Qe l a w
 | [],st,w,σ,a,hm,hq=>hK st w σ a hq hm
 | o::l,st,w,σ,a,hm,hq=>by
  simp only [opsX,Tree.zl] at hq
  exact wpListIn_step fun K hKK=>We hΓ hm hq (fun st' w' σ' a' hq' hm'=>hKK _ _ (ZD hΓ hK hP l hm' hq')) (fun ch a w' h1 h2=>hP ch a w' h1 h2)
theorem yM(hm:Mod O pin w0 σ0 w σ st a):Mod O pin w0 σ0 w σ (kX st) a:=by
 refine⟨hm.good,hm.hp,by simp [kX,hm.size],fun t=> ?_,hm.df,hm.since,hm.lim⟩
 have h:=hm.tm t
 have:(kX st).tmps.getD t .undef=(fun | .opt _ _ _=>.undef | x=>x) (st.tmps.getD t .undef):=getD_map rfl _ _
 rw [this]
 generalize st.tmps.getD t .undef=x at h
 cases x<;>simp only [TRep] at h ⊢ <;> first | exact h | simp [Rep]
def wpK(M:Option Nat)(P:Program)(H:Nat→Act→World→Prop)(B:Exit→Act→World→Prop):List Item→Exit→Act→World→Prop
 | [],e,a,w=>B e a w
 | .code c::k,.normal,a,w=>c.wpIn (FM M) 0 P (wpK M P H B k) a w
 | .code _::k,e,a,w=>wpK M P H B k e a w
 | .inBlock _::k,.normal,a,w=>wpK M P H B k .normal a w
 | .inBlock id::k,.exit i,a,w=>if i=id then wpK M P H B k .normal a w else wpK M P H B k (.exit i) a w
 | .inBlock _::k,e,a,w=>wpK M P H B k e a w
 | .inLoop::k,.normal,a,w=>H (qR k) a w
 | .inLoop::k,e,a,w=>wpK M P H B k e a w
section
variable {H:Nat→Act→World→Prop} {B:Exit→Act→World→Prop}
theorem xu{M:Option Nat} : ∀ {k:List Item} {a:Act} {w:World},B .ret a w→wpK M P H B k .ret a w
 | [],_,_,h=>h
 | .code _::k,_,_,h=>xu (k:=k) h
 | .inBlock _::k,_,_,h=>xu (k:=k) h
 | .inLoop::k,_,_,h=>xu (k:=k) h
theorem vj{M:Option Nat}{ch:List PanicEntry} : ∀ {k:List Item} {a:Act} {w:World},B (.panic ch) a w→wpK M P H B k (.panic ch) a w
 | [],_,_,h=>h
 | .code _::k,_,_,h=>vj (k:=k) h
 | .inBlock _::k,_,_,h=>vj (k:=k) h
 | .inLoop::k,_,_,h=>vj (k:=k) h
theorem xv{M:Option Nat}{id:Nat} : ∀ {k k':List Item} {a:Act} {w:World},exitTo id k=some k'→wpK M P H B k' .normal a w→wpK M P H B k (.exit id) a w
 | [],_,_,_,h,_=>by simp [exitTo] at h
 | .code _::k,_,_,_,h,hk=>xv (k:=k) (by simpa [exitTo] using h) hk
 | .inLoop::k,_,_,_,h,hk=>xv (k:=k) (by simpa [exitTo] using h) hk
 | .inBlock i::k,_,_,_,h,hk=>by
  simp only [exitTo] at h
  simp only [wpK]
  split at h
  ·rename_i hi
   cases h
   rw [if_pos hi.symm]; exact hk
  ·rename_i hi
   rw [if_neg (fun e=>hi e.symm)]
   exact xv h hk
def xR(M:Option Nat)(P:Program)(H:Nat→Act→World→Prop)(B:Exit→Act→World→Prop)(O:Nat→Prop)(pin:Nat)(w0:World)(σ0:List SE):Leaf→Prop
 | .ret st=>∀ w σ a,Mod O pin w0 σ0 w σ st a→B .ret a w∧B .normal a w
 | .back d st=>∀ w σ a,Mod O pin w0 σ0 w σ st a→H d a w
 | .loop c k st=>∀ w σ a,Mod O pin w0 σ0 w σ st a→(Code.loop c).wpIn (FM M) 0 P (wpK M P H B k) a w
 | .range c k st=>∀ w σ a,Mod O pin w0 σ0 w σ st a→c.wpIn (FM M) 0 P (wpK M P H B k) a w
theorem qn{M:Option Nat}(hmix:P.follows .mixedOrders=true)(hΓ:∀ g c,Γ g=some c→qg Xp P g c)(hB:∀ ch a w',Xp ch→Dead σ0 w0 w' a.defers→B (.panic ch) a w'):∀ (n:Nat) {k:List Item} {st:St} {w:World} {σ:List SE} {a:Act},(run P Γ pin n k st).holds (xR M P H B O pin w0 σ0)→Mod O pin w0 σ0 w σ st a→wpK M P H B k .normal a w
 | 0,k,st,w,σ,a,hq,hm=>by simp only [run] at hq; exact hq.elim
 | n+1,[],st,w,σ,a,hq,hm=>by
  simp only [run,Tree.holds,xR] at hq
  exact(hq w σ a hm).2
 | n+1,.inBlock id::k,st,w,σ,a,hq,hm=>by
  simp only [run] at hq
  have:=qn hmix hΓ hB n hq hm
  simpa only [wpK] using this
 | n+1,.inLoop::k,st,w,σ,a,hq,hm=>by
  simp only [run,Tree.holds,xR] at hq
  exact hq w σ a hm
 | n+1,.code c::k,st,w,σ,a,hq,hm=>by
  simp only [wpK]
  cases c with
  | skip=>
   simp only [run] at hq
   exact wpIn_skip (qn hmix hΓ hB n hq hm)
  | seq x y=>
   simp only [run] at hq
   have:=qn hmix hΓ hB n hq hm
   simp only [wpK] at this
   refine wpIn_seq (wpIn_mono this fun e a w h=> ?_)
   cases e<;>exact h
  | region id ops draw=>
   cases draw with
   | true=>
    simp only [run,Tree.zl,force_eq] at hq
    exact Kw hmix hΓ hq hm (fun st' w' σ' a' hq' hm'=>qn hmix hΓ hB n hq' (yM hm')) fun ch a w' h1 h2=>vj (hB ch a w' h1 h2)
   | false=>
    simp only [run,Tree.zl,force_eq] at hq
    exact wpIn_region_list (ZD hΓ (fun st' w' σ' a' hq' hm'=>qn hmix hΓ hB n hq' (yM hm')) (fun ch a w' h1 h2=>vj (hB ch a w' h1 h2)) _ hm hq)
  | cond c x y=>
   cases c with
   | tmp t=>
    simp only [run] at hq
    have ht:=hm.tm t
    generalize st.tmps.getD t .undef=v at ht hq
    cases v with
    | bool b=>
     simp only [TRep,Rep] at ht
     simp only [Tree.holds] at hq
     refine wpIn_cond (t:=b) ht ?_
     cases b with
     | true=>
      have:=qn hmix hΓ hB n (hq.1 rfl) hm
      simpa only [wpK,if_true] using this
     | false=>
      have:=qn hmix hΓ hB n (hq.2 rfl) hm
      simpa only [wpK,Bool.false_eq_true,if_false] using this
    | _=>exact hq.elim
   | _=>simp only [run] at hq; exact hq.elim
  | block id c=>
   simp only [run] at hq
   have:=qn hmix hΓ hB n hq hm
   simp only [wpK] at this
   refine wpIn_block (wpIn_mono this fun e a w h=> ?_)
   cases e<;>exact h
  | loop c=>
   simp only [run,Tree.holds,xR] at hq
   exact hq w σ a hm
  | rangeFunc g ps x y=>
   simp only [run,Tree.holds,xR] at hq
   exact hq w σ a hm
  | exit id=>
   simp only [run] at hq
   split at hq
   ·rename_i k' hk
    exact wpIn_exit (xv hk (qn hmix hΓ hB n hq hm))
   ·exact hq.elim
  | ret=>
   simp only [run,Tree.holds,xR] at hq
   exact wpIn_ret (xu (hq w σ a hm).1)
  | _=>simp only [run] at hq; exact hq.elim
end
end
end Go.Sx
end
section
namespace Go.Sx
variable [Stat]
open Go.RowKit (Below)
structure j9(w w':World):Prop where
 cells:∀ (b:Nat) (cs:Array Value) (el:TypeId) (fr:Nat×Nat),w.heap[b]?=some (Obj.cells cs el fr)→w'.heap[b]?=some (Obj.cells cs el fr)
 maps:∀ (b:Nat) (es:Array MapEntry) (clock:Nat),(∃ g,JT w b g)→w.heap[b]?=some (.map es clock)→w'.heap[b]?=some (.map es clock)
theorem j9.cell{w w':World}(h:j9 w w'){a:Addr}{c:Value}(hc:w.cell? a=some c):w'.cell? a=some c:=by
 unfold World.cell? at hc ⊢
 cases hb:w.heap[a.block]? with
 | none=>simp [hb] at hc
 | some o=>
  rw [hb] at hc
  cases o with
  | cells cs el fr=>rw [h.cells _ _ _ _ hb]; exact hc
  | _=>simp at hc
mutual
theorem zX{own:Nat→Prop}{w w':World}(hx:j9 w w')(σ:List SE):∀ (a:AV) (v:Value),Rep own w a σ v→Rep own w' a σ v
 | .undef,_,_=>by simp [Rep]
 | .bool b,v,h=>by simpa [Rep] using h
 | .int k n,v,h=>by simpa [Rep] using h
 | .str s,v,h=>by simpa [Rep] using h
 | .nils,v,h=>by simpa [Rep] using h
 | .sl n sz get,v,h=>by
  simp only [Rep] at h ⊢
  obtain⟨a,cap,hv,hle,hr⟩:=h
  refine⟨a,cap,hv,hle,?_⟩
  rcases hr with hr | ⟨ad,ha,hs,hr⟩
  ·exact .inl hr
  ·refine .inr ⟨ad,ha,hs,fun j o hj ho=> ?_⟩
   obtain⟨hn,c,hc,h1,hR⟩:=hr j o hj ho
   exact⟨hn,c,hx.cell hc,h1,zX hx [] (get j o) c hR⟩
 | .osl i sz off n,v,h=>by
  simp only [Rep] at h ⊢
  obtain⟨e,he,hl,a,cap,hv,hc,hr⟩:=h
  refine⟨e,he,hl,a,cap,hv,hc,?_⟩
  rcases hr with hr | ⟨ad,ha,hb,cs,el,hcs,hsz⟩
  ·exact .inl hr
  ·exact .inr ⟨ad,ha,hb,cs,el,hx.cells _ _ _ _ hcs,hsz⟩
 | .ptr i off,v,h=>by simpa only [Rep] using h
 | .nilp,v,h=>by simpa [Rep] using h
 | .eptr i sz idx off,v,h=>by simpa only [Rep] using h
 | .omap i,v,h=>by simpa only [Rep] using h
 | .iptr m get,v,h=>by
  simp only [Rep] at h ⊢
  obtain⟨ad,hv,hs,hr⟩:=h
  refine⟨ad,hv,hs,fun o ho=> ?_⟩
  obtain⟨hn,c,hc,hR⟩:=hr o ho
  exact⟨hn,c,hx.cell hc,zX hx [] (get o) c hR⟩
 | .gptr g,v,h=>by simpa [Rep] using h
 | .agg cs,v,h=>by
  simp only [Rep] at h ⊢
  obtain⟨vs,hv,hr⟩:=h
  exact⟨vs,hv,jD hx σ cs vs hr⟩
 | .tup cs,v,h=>by
  simp only [Rep] at h ⊢
  obtain⟨vs,hv,hr⟩:=h
  exact⟨vs,hv,jD hx σ cs vs hr⟩
 | .fn f a b,v,h=>by
  simp only [Rep] at h ⊢
  obtain⟨va,vb,hv,hr,hr2⟩:=h
  exact⟨va,vb,hv,jD hx σ a va hr,jD hx σ b vb hr2⟩
 | .nilf,v,h=>by simpa [Rep] using h
 | .opt _ _ _,_,_=>by simp [Rep]
 | .mp k ag sz ks has get,v,h=>by
  simp only [Rep] at h ⊢
  obtain⟨b,es,clock,hv,hn,hlim,hb,hg⟩:=h
  refine⟨b,es,clock,hv,hn,(by
   obtain⟨g,h1,h2,h3⟩:=hlim
   exact⟨g,h1,h2,hx.cell h3⟩),hx.maps b es clock (hlim.imp fun g h=>h.2) hb,fun n=>⟨(hg n).1,fun h1=> ?_⟩⟩
  obtain⟨i,x,h2,h3⟩:=(hg n).2 h1
  refine⟨i,x,h2,?_⟩
  cases ag with
  | true=>
   obtain⟨vs,e1,e2,e3⟩:=h3
   exact⟨vs,e1,e2,fun o ho=>by
    obtain⟨c,g1,g2⟩:=e3 o ho
    exact⟨c,g1,zX hx [] (get n o) c g2⟩⟩
  | false=>exact zX hx [] (get n 0) x h3
theorem jD{own:Nat→Prop}{w w':World}(hx:j9 w w')(σ:List SE):∀ (l:List AV) (vs:List Value),RepL own w l σ vs→RepL own w' l σ vs
 | [],vs,h=>by simpa [RepL] using h
 | a::l,vs,h=>by
  simp only [RepL] at h ⊢
  obtain⟨v,r,hv,h1,h2⟩:=h
  exact⟨v,r,hv,zX hx σ a v h1,jD hx σ l r h2⟩
end
def Ql:Blk→Bool
 | .map _ _ _ _ _=>true
 | _=>false
theorem Wq{own:Nat→Prop}{w w':World}(hx:j9 w w'){σ:List SE}{e:SE}{b:Blk}(hmp:Ql b=true→∀ (b:Nat) (es:Array MapEntry) (clock:Nat),w.heap[b]?=some (.map es clock)→w'.heap[b]?=some (.map es clock))(h:BRep own w σ e b):BRep own w' σ e b:=by
 cases b with
 | dead=>trivial
 | box cells=>
  obtain⟨ad,vs,el,h1,h2,h3,h4⟩:=h
  exact⟨ad,vs,el,h1,h2,hx.cells _ _ _ _ h3,jD hx σ _ _ h4⟩
 | map ag sh has get pe=>
  obtain⟨ad,es,clock,l,h1,h2,h3,h4,h5,h6⟩:=h
  refine⟨ad,es,clock,l,h1,hmp rfl _ _ _ h2,h3,h4,h5,?_⟩
  rw [qe] at h6 ⊢
  exact⟨h6.1,fun i e x g1 g2=>by
   obtain⟨a1,a2,a3⟩:=h6.2 i e x g1 g2
   exact⟨a1,zX hx [] _ _ a2,zX hx [] _ _ a3⟩⟩
 | arr n sz g=>
  obtain⟨h1,h2⟩:=h
  refine⟨h1,?_⟩
  rcases h2 with h2 | ⟨ad,cs,el,h3,h4,h5,h6⟩
  ·exact .inl h2
  ·refine .inr ⟨ad,cs,el,h3,hx.cells _ _ _ _ h4,h5,fun j o hj ho=> ?_⟩
   obtain⟨c,h7,h8,h9⟩:=h6 j o hj ho
   exact⟨c,h7,h8,zX hx [] _ _ h9⟩
 | arrI _ n _=>
  obtain⟨h1,h2⟩:=h
  refine⟨h1,?_⟩
  rcases h2 with h2 | ⟨ad,cs,el,h3,h4,h5,h6⟩
  ·exact .inl h2
  ·refine .inr ⟨ad,cs,el,h3,hx.cells _ _ _ _ h4,h5,fun j o hj ho=> ?_⟩
   obtain⟨c,h7,h8,h9⟩:=h6 j o hj ho
   exact⟨c,h7,h8,zX hx [] _ _ h9⟩
 | arrS n _=>
  obtain⟨h1,h2⟩:=h
  refine⟨h1,?_⟩
  rcases h2 with h2 | ⟨ad,cs,el,h3,h4,h5,h6⟩
  ·exact .inl h2
  ·refine .inr ⟨ad,cs,el,h3,hx.cells _ _ _ _ h4,h5,fun j o hj ho=> ?_⟩
   obtain⟨c,h7,h8,h9⟩:=h6 j o hj ho
   exact⟨c,h7,h8,zX hx [] _ _ h9⟩
theorem Wt{own:Nat→Prop}{w w':World}(hx:j9 w w')(hs:w.heap.size≤w'.heap.size){σ:List SE}{h:Heap}(hmp:(∀ b∈h,Ql b=false)∨∀ (b:Nat) (es:Array MapEntry) (clock:Nat),w.heap[b]?=some (.map es clock)→w'.heap[b]?=some (.map es clock))(hh:HRep own w σ h):HRep own w' σ h:=
 ⟨hh.len,hh.inj,fun i e a h1 h2=>Nat.lt_of_lt_of_le (hh.lt i e a h1 h2) hs,fun i e b h1 h2=>Wq hx (fun hm=>hmp.elim (fun q=>by rw [q b (List.mem_of_getElem? h2)] at hm; cases hm) id) (hh.blk i e b h1 h2)⟩
theorem Qr{w w':World}{row:Option Nat}(hg:w.grownBy w' row)(hr:∀ r,row=some r→(∀ g,¬ JT w r g)∧∃ o:Obj,w.heap[r]?=some o∧o.isCells=false):j9 w w':=by
 refine⟨fun b cs el fr hb=> ?_,fun b es clock hl hb=> ?_⟩
 rotate_left
 ·rw [hg.block b (Array.getElem?_eq_some_iff.1 hb).1 fun e=>by obtain⟨g,h⟩:=hl; exact(hr b e.symm).1 g h]
  exact hb
 have hlt:=(Array.getElem?_eq_some_iff.1 hb).1
 rw [hg.block b hlt ?_]
 ·exact hb
 ·intro e
  obtain⟨_,o,h1,h2⟩:=hr b e.symm
  rw [hb] at h1
  cases h1
  simp [Obj.isCells] at h2
theorem JS{w w':World}{row:Option Nat}(hg:w.grownBy w' row)(hr:∀ r,row=some r→∃ o:Obj,w.heap[r]?=some o∧o.isCells=false){a:Addr}{c:Value}(hc:w.cell? a=some c):w'.cell? a=some c:=by
 unfold World.cell? at hc ⊢
 cases hb:w.heap[a.block]? with
 | none=>simp [hb] at hc
 | some o=>
  rw [hb] at hc
  have hlt:=(Array.getElem?_eq_some_iff.1 hb).1
  rw [hg.block a.block hlt fun e=>by
   obtain⟨o',h1,h2⟩:=hr _ e.symm
   rw [hb] at h1
   cases h1
   cases o with
   | cells _ _ _=>simp [Obj.isCells] at h2
   | _=>simp at hc,hb]
  exact hc
section
variable {O:Nat→Prop} {pin:Nat} {w0:World} {σ0:List SE} {w w':World} {σ:List SE} {P:Program} {st:St} {a:Act}
theorem Mod.turn(hm:Mod O pin w0 σ0 w σ st a){row:Option Nat}(hg:w.grownBy w' row)(hr:∀ r,row=some r→w0.heap.size≤r∧∃ o:Obj,w.heap[r]?=some o∧o.isCells=false)(hmp:(∀ b∈st.heap,Ql b=false)∨∀ r,row=some r→∀ es clock,w.heap[r]?≠some (.map es clock)){ds:List Deferred}(hds:Marks w0 (Own O σ) w' ds):Mod O pin w0 σ0 w' σ st { a with defers:=ds } :=by
 have hx:=Qr hg fun r h=>⟨fun g hg=>by
  obtain⟨h1,h2⟩:=hg
  obtain⟨a,ha⟩:=Option.isSome_iff_exists.1 h1
  obtain⟨h3,c,h4,_,h5⟩:=hm.lim.at_ g a ha
  have h6:=hm.since.ext.cell (a:=⟨g,0,none⟩) h3 h4
  rw [h2] at h6
  have:=h5 r (by cases h6; rfl)
  have:=(hr r h).1
  omega,(hr r h).2⟩
 have hlow:∀ b,b<w0.heap.size→w'.heap[b]?=w.heap[b]?:=by
  intro b hb
  refine hg.block b (Nat.lt_of_lt_of_le hb hm.since.ext.size) fun e=> ?_
  have:=(hr b e.symm).1
  omega
 refine⟨⟨fun b hb=>Nat.lt_of_lt_of_le (hm.good.old b hb) hg.size,hm.good.dis,⟨fun g a hz=>by
  obtain⟨h1,c,h2,h3,h4⟩:=hm.good.stat.at_ g a hz
  exact⟨h1,c,hx.cell h2,zX hx [] a _ h3,fun b hb=>Nat.lt_of_lt_of_le (h4 b hb) hg.size⟩⟩⟩,Wt hx hg.size (hmp.imp id fun q b es clock hb=>by rw [hg.block b (Array.getElem?_eq_some_iff.1 hb).1 fun e=>q b e.symm es clock hb]; exact hb) hm.hp,hm.size,fun t=> ?_,hds,?_,hm.lim⟩
 ·have ht:=hm.tm t
  show TRep (Own O σ) w' σ a.tmps (st.tmps.getD t .undef) (a.tmps.getD t undef)
  generalize st.tmps.getD t .undef=x at ht
  cases x with
  | opt u want y=>
   simp only [TRep] at ht ⊢
   rcases ht with ⟨h1,h2⟩ | h
   ·exact .inl ⟨h1,zX hx σ _ _ h2⟩
   ·exact .inr h
  | _=>simp only [TRep] at ht ⊢; exact zX hx σ _ _ ht
 ·refine⟨⟨hg.os.trans hm.since.ext.os,hg.tape.trans hm.since.ext.tape,hg.output.trans hm.since.ext.output,Nat.le_trans hm.since.ext.size hg.size,fun b hb hn=> ?_,hm.since.ext.grow⟩,fun b hO hb=> ?_,fun i e hi he=> ?_⟩
  ·rw [hlow b hb]; exact hm.since.ext.keep b hb hn
  ·rw [hlow b hb]; exact hm.since.wZ b hO hb
  ·obtain⟨h1,h2⟩:=hm.since.hold i e hi he
   refine⟨h1,fun ad had cs el hcs=> ?_⟩
   obtain⟨cs',el',h3,h4⟩:=h2 ad had cs el hcs
   exact⟨cs',el',hx.cells _ _ _ _ h3,h4⟩
theorem Marks.turn{own:Nat→Prop}{ds:List Deferred}(h:Marks w0 own w ds){row:Option Nat}(hg:w.grownBy w' row)(hr:∀ r,row=some r→{ target:=.collected r,args:= #[] } ∉ ds):Marks w0 own w' ds:=
 ⟨h.1,fun d hd=>by
  obtain⟨D,h1,h2,h3,h4⟩:=h.2 d hd
  refine⟨D,h1,h2,h3,?_⟩
  rw [hg.block D (Array.getElem?_eq_some_iff.1 h4).1 fun e=>hr D e.symm (h1▸hd)]
  exact h4⟩
theorem kZ{fn:Func}{R:Ending→World→Prop}{tmps:Array Value} : ∀ (ds:List Deferred) (w:World),Mod O pin w0 σ0 w σ st { tmps:=tmps,defers:=ds } →
  (∀ w',Mod O pin w0 σ0 w' σ st { tmps:=tmps,defers:=[] } → ∃ v,(results fn tmps).run P w' = .ok v w'∧R (.returned v) w')→LeavesInM Fence.wide 0 P fn tmps R ds .returning w
 | [],w,hm,h=>h w hm
 | d::ds,w,hm,h=>by
  obtain⟨D,h1,h2,h3,h4⟩:=hm.df.2 d (by simp)
  subst h1
  have hnd:=List.nodup_cons.1 hm.df.1
  refine⟨by simp,.inl ⟨D,w.putObj D (.deferred none),rfl,run_takeDeferred h4,?_⟩⟩
  have hg:=grownBy_putObj' w D (.deferred none)
  have hsub:Marks w0 (Own O σ) w ds:=⟨hnd.2,fun d' hd'=>hm.df.2 d' (by simp [hd'])⟩
  have hm2:=hm.turn hg (fun r e=>by cases e; exact⟨h2,_,h4,rfl⟩) (.inr fun r e es clock h=>by cases e; rw [h4] at h; cases h) (hsub.turn hg fun r e=>by cases e; exact hnd.1)
  exact kZ ds _ hm2 h
theorem yq{fn:Func}{R:Ending→World→Prop}{tmps:Array Value}{ch:List PanicEntry} : ∀ (ds:List Deferred) (w:World),Dead σ0 w0 w ds →
  (∀ w',Dead σ0 w0 w' []→R (.panicked ch) w')→LeavesInM Fence.wide 0 P fn tmps R ds (.panicking ch) w
 | [],w,hm,h=>h w hm
 | d::ds,w,hm,h=>by
  obtain⟨D,h1,h2,h3,h4⟩:=hm.df.2 d (by simp)
  subst h1
  have hnd:=List.nodup_cons.1 hm.df.1
  refine⟨by simp,.inl ⟨D,w.putObj D (.deferred none),rfl,run_takeDeferred h4,?_⟩⟩
  have hg:=grownBy_putObj' w D (.deferred none)
  have hsub:Marks w0 (fun _=>False) w ds:=⟨hnd.2,fun d' hd'=>hm.df.2 d' (by simp [hd'])⟩
  refine yq ds _ ⟨⟨hg.os.trans hm.died.os,hg.tape.trans hm.died.tape,hg.output.trans hm.died.output,Nat.le_trans hm.died.size hg.size,fun b hb hn=> ?_,fun b hb=>hb.elim⟩,hsub.turn hg fun r e=>by cases e; exact hnd.1⟩ h
  rw [hg.block b (Nat.lt_of_lt_of_le hb hm.died.size) fun e=>by cases e; omega]
  exact hm.died.keep b hb hn
end
end Go.Sx
end
section
namespace Go.Sx
variable [Stat]
open Go.RowKit (Below)
def LeA(a b:AV):Prop:=∀ own w σ v,Rep own w a σ v→Rep own w b σ v
theorem LeA.refl(a:AV):LeA a a:=fun _ _ _ _ h=>h
theorem LeA.undef(a:AV):LeA a .undef:=fun _ _ _ _ _=>by simp [Rep]
theorem LeA.sl{n n' sz:Nat}{g g':Nat→Nat→AV}(hn:n=n')(hg:∀ j o,j<n→o<sz→LeA (g j o) (g' j o)):LeA (.sl n sz g) (.sl n' sz g'):=by
 subst hn
 intro own w σ v h
 simp only [Rep] at h ⊢
 obtain⟨a,cap,hv,hc,hr⟩:=h
 refine⟨a,cap,hv,hc,?_⟩
 rcases hr with hr | ⟨ad,h1,h2,h3⟩
 ·exact .inl hr
 ·refine .inr ⟨ad,h1,h2,fun j o hj ho=> ?_⟩
  obtain⟨h4,c,h5,h6,h7⟩:=h3 j o hj ho
  exact⟨h4,c,h5,h6,hg j o hj ho _ _ _ _ h7⟩
theorem LeA.nils{sz:Nat}{g:Nat→Nat→AV} : LeA .nils (.sl 0 sz g):=by
 intro own w σ v h
 simp only [Rep] at h ⊢
 exact⟨none,0,h,Nat.le_refl _,.inl trivial⟩
def LeL:List AV→List AV→Prop
 | [],[]=>True
 | a::l,b::m=>LeA a b∧LeL l m
 | _,_=>False
theorem LeL.rep{own:Nat→Prop}{w:World}{σ:List SE} : ∀ {l m:List AV} {vs:List Value},LeL l m→RepL own w l σ vs→RepL own w m σ vs
 | [],[],vs,_,h=>h
 | a::l,b::m,vs,hl,h=>by
  simp only [RepL] at h ⊢
  obtain⟨v,r,rfl,h1,h2⟩:=h
  exact⟨v,r,rfl,hl.1 _ _ _ _ h1,LeL.rep hl.2 h2⟩
 | [],_::_,_,hl,_=>hl.elim
 | _::_,[],_,hl,_=>hl.elim
theorem LeL.refl:∀ l:List AV,LeL l l
 | []=>trivial
 | a::l=>⟨LeA.refl a,LeL.refl l⟩
theorem LeA.agg{l m:List AV}(h:LeL l m):LeA (.agg l) (.agg m):=by
 intro own w σ v hr
 simp only [Rep] at hr ⊢
 obtain⟨vs,hv,hr⟩:=hr
 exact⟨vs,hv,h.rep hr⟩
def eqG(n sz:Nat)(g g':Nat→Nat→AV):Prop:=∀ j o,j<n→o<sz→g j o=g' j o
def eqA0:AV→AV→Prop
 | _,.undef=>True
 | .int k n,.int k' n'=>k=k'∧n=n'
 | .bool b,.bool b'=>b=b'
 | .str s,.str s'=>s=s'
 | .nils,.nils=>True
 | .nils,.sl n _ _=>n=0
 | .sl n sz g,.sl n' sz' g'=>n=n'∧sz=sz'∧eqG n sz g g'
 | .osl i sz off n,.osl i' sz' off' n'=>i=i'∧sz=sz'∧off=off'∧n=n'
 | .ptr i off,.ptr i' off'=>i=i'∧off=off'
 | a,b=>a=b
def eqL0:List AV→List AV→Prop
 | [],[]=>True
 | a::l,b::m=>eqA0 a b∧eqL0 l m
 | _,_=>False
def eqA:AV→AV→Prop
 | .agg l,.agg m=>eqL0 l m
 | .tup l,.tup m=>eqL0 l m
 | a,b=>eqA0 a b
def eqL:List AV→List AV→Prop
 | [],[]=>True
 | _::l,.undef::m=>eqL l m
 | a::l,b::m=>eqA a b∧eqL l m
 | _,_=>False
theorem uP{a b:AV}(h:eqA0 a b):LeA a b:=by
 unfold eqA0 at h
 split at h
 ·exact LeA.undef _
 ·obtain⟨rfl,rfl⟩:=h; exact LeA.refl _
 ·subst h; exact LeA.refl _
 ·subst h; exact LeA.refl _
 ·exact LeA.refl _
 ·subst h; exact LeA.nils
 ·obtain⟨rfl,rfl,hg⟩:=h
  exact LeA.sl rfl fun j o hj ho=>by rw [hg j o hj ho]; exact LeA.refl _
 ·obtain⟨rfl,rfl,rfl,rfl⟩:=h; exact LeA.refl _
 ·obtain⟨rfl,rfl⟩:=h; exact LeA.refl _
 ·subst h; exact LeA.refl _
theorem kN:∀ {l m:List AV},eqL0 l m→LeL l m
 | [],[],_=>trivial
 | a::l,b::m,h=>⟨uP h.1,kN h.2⟩
 | [],_::_,h=>h.elim
 | _::_,[],h=>h.elim
theorem xF{a b:AV}(h:eqA a b):LeA a b:=by
 unfold eqA at h
 split at h
 ·exact LeA.agg (kN h)
 ·intro own w σ v hr
  simp only [Rep] at hr ⊢
  obtain⟨vs,hv,hr⟩:=hr
  exact⟨vs,hv,(kN h).rep hr⟩
 ·exact uP h
theorem wy:∀ {l m:List AV},eqL l m→LeL l m
 | [],[],_=>trivial
 | [],_::_,h=>h.elim
 | _::_,[],h=>h.elim
 | a::l,b::m,h=>by
  unfold eqL at h
  split at h
  ·rename_i h1 h2; cases h1
  ·rename_i h1 h2; cases h1; cases h2
   exact⟨LeA.undef _,wy h⟩
  ·rename_i h1 h2; cases h1; cases h2
   exact⟨xF h.1,wy h.2⟩
  ·exact h.elim
def eqB:Blk→Blk→Prop
 | _,.dead=>True
 | .box l,.box m=>eqL l m
 | .arr n sz g,.arr n' sz' g'=>n=n'∧sz=sz'∧eqG n sz g g'
 | .arr n sz g,.arrI k n' f=>n=n'∧sz=1∧eqG n 1 g (tgI k f)
 | .arr n sz g,.arrS n' f=>n=n'∧sz=1∧eqG n 1 g (tgS f)
 | .arrI k n f,.arr n' sz' g'=>n=n'∧1=sz'∧eqG n 1 (tgI k f) g'
 | .arrS n f,.arr n' sz' g'=>n=n'∧1=sz'∧eqG n 1 (tgS f) g'
 | .arrI k n f,.arrI k' n' f'=>n=n'∧eqG n 1 (tgI k f) (tgI k' f')
 | .arrS n f,.arrS n' f'=>n=n'∧eqG n 1 (tgS f) (tgS f')
 | .map ag sh has get pe,.map ag' sh' has' get' pe'=>(ag=ag'∧(pe'=none∨pe=pe'))∧sh=sh'∧(∀ k,has k=has' k)∧∀ k,has k=true→get k=get' k
 | _,_=>False
def eqH:Heap→Heap→Prop
 | _,[]=>True
 | b::l,c::m=>eqB b c∧eqH l m
 | [],_::_=>False
def zB:AV→Bool
 | .opt _ _ _=>false
 | _=>true
def lowA(m:Nat):AV→Bool
 | .osl i _ _ _=>decide (i<m)
 | .ptr i _=>decide (i<m)
 | .eptr i _ _ _=>decide (i<m)
 | .omap i=>decide (i<m)
 | .agg _=>false
 | .tup _=>false
 | .fn _ [] []=>true
 | .fn _ _ _=>false
 | .opt _ _ _=>false
 | _=>true
def lowB(m:Nat):AV→Bool
 | .agg l=>l.all (lowA m)
 | .tup l=>l.all (lowA m)
 | .fn _ a b=>a.all (lowA m)&&b.all (lowA m)
 | a=>lowA m a
def ZW(m:Nat):Blk→Bool
 | .box l=>l.all (lowB m)
 | _=>true
def chk(st st':St):Bool:=st.tmps.all zB&&st'.tmps.all (lowB st'.heap.length)&&decide (st'.heap.length≤st.heap.length)&&st'.heap.all (ZW st'.heap.length)
theorem kb{m k:Nat}{a:AV}(h:lowA m a=true):NoH (List.range' m k) a:=by
 have hr:∀ i,i<m→i∉List.range' m k:=fun i hi hm=>by
  rw [List.mem_range'] at hm
  obtain⟨j,_,h2⟩:=hm
  omega
 cases a with
 | osl i sz off n=>simp only [lowA,decide_eq_true_eq] at h; simp only [NoH]; exact hr i h
 | ptr i off=>simp only [lowA,decide_eq_true_eq] at h; simp only [NoH]; exact hr i h
 | eptr i sz idx off=>simp only [lowA,decide_eq_true_eq] at h; simp only [NoH]; exact hr i h
 | omap i=>simp only [lowA,decide_eq_true_eq] at h; simp only [NoH]; exact hr i h
 | agg l=>simp [lowA] at h
 | tup l=>simp [lowA] at h
 | fn f x y=>
  cases x<;>cases y<;>simp [lowA] at h
  simp [NoH,NoHL]
 | opt _ _ _=>simp [lowA] at h
 | _=>simp [NoH]
theorem uM{m k:Nat}{a:AV}(h:lowB m a=true):NoH (List.range' m k) a:=by
 cases a with
 | agg l=>simp only [lowB,List.all_eq_true] at h; simp only [NoH]; exact zH.2 fun x hx=>kb (h x hx)
 | tup l=>simp only [lowB,List.all_eq_true] at h; simp only [NoH]; exact zH.2 fun x hx=>kb (h x hx)
 | fn f x y=>
  simp only [lowB,Bool.and_eq_true,List.all_eq_true] at h; simp only [NoH]
  exact⟨zH.2 fun x hx=>kb (h.1 x hx),zH.2 fun x hx=>kb (h.2 x hx)⟩
 | _=>exact kb (by simpa only [lowB] using h)
theorem kS{m:Nat}{a:AV}(h:lowB m a=true):∀ t b y,a≠.opt t b y:=by
 rintro t b y rfl
 simp [lowB,lowA] at h
structure Le(pin:Nat)(st st':St):Prop where
 tmps:eqL st.tmps st'.tmps
 heap:eqH st.heap st'.heap
 ok:chk st st'=true
 pinned:pin≤st'.heap.length
theorem Qh:∀ {l m:List AV},eqL l m→l.length=m.length
 | [],[],_=>rfl
 | [],_::_,h=>h.elim
 | _::_,[],h=>h.elim
 | a::l,b::m,h=>by
  unfold eqL at h
  split at h
  ·rename_i h1 h2; cases h1
  ·rename_i h1 h2; cases h1; cases h2
   simp [Qh h]
  ·rename_i h1 h2; cases h1; cases h2
   simp [Qh h.2]
  ·exact h.elim
theorem LeL.get:∀ {l m:List AV} (t:Nat) (h1:t<l.length) (h2:t<m.length),LeL l m→LeA l[t] m[t]
 | a::l,b::m,0,_,_,h=>h.1
 | a::l,b::m,t+1,h1,h2,h=>LeL.get t (by simpa using h1) (by simpa using h2) h.2
theorem xl:∀ {l m:Heap} {i:Nat} {b b':Blk},eqH l m→l[i]?=some b→m[i]?=some b'→eqB b b'
 | b::l,c::m,0,_,_,h,h1,h2=>by simp at h1 h2; subst h1; subst h2; exact h.1
 | b::l,c::m,i+1,_,_,h,h1,h2=>xl h.2 (by simpa using h1) (by simpa using h2)
 | _,[],_,_,_,_,_,h2=>by simp at h2
 | [],_::_,_,_,_,h,_,_=>h.elim
theorem kx{own:Nat→Prop}{w:World}{σ:List SE}{e:SE}{b c:Blk}(h:eqB b c)(hb:BRep own w σ e b):BRep own w σ e c:=by
 have arr:∀ {n n' sz sz':Nat} {g g':Nat→Nat→AV},n=n'→sz=sz'→eqG n sz g g'→BRep own w σ e (.arr n sz g)→BRep own w σ e (.arr n' sz' g'):=by
  rintro n _ sz _ g g' rfl rfl hg hb
  exact JF hg hb
 cases c with
 | dead=>trivial
 | box m=>
  cases b with
  | box l=>
   simp only [eqB] at h
   simp only [BRep] at hb ⊢
   obtain⟨ad,vs,el,h1,h2,h3,h4⟩:=hb
   exact⟨ad,vs,el,h1,h2,h3,(wy h).rep h4⟩
  | _=>exact h.elim
 | arr n' sz' g'=>
  cases b with
  | arr n sz g=>exact arr h.1 h.2.1 h.2.2 hb
  | arrI k n f=>exact arr h.1 h.2.1 h.2.2 (vK.1 hb)
  | arrS n f=>exact arr h.1 h.2.1 h.2.2 (vQ.1 hb)
  | _=>exact h.elim
 | arrI k' n' f'=>
  cases b with
  | arr n sz g=>obtain⟨h1,rfl,h3⟩:=h; exact vK.2 (arr h1 rfl h3 hb)
  | arrI k n f=>exact vK.2 (arr h.1 rfl h.2 (vK.1 hb))
  | _=>exact h.elim
 | arrS n' f'=>
  cases b with
  | arr n sz g=>obtain⟨h1,rfl,h3⟩:=h; exact vQ.2 (arr h1 rfl h3 hb)
  | arrS n f=>exact vQ.2 (arr h.1 rfl h.2 (vQ.1 hb))
  | _=>exact h.elim
 | map ag' sh' has' get' pe'=>
  cases b with
  | map ag sh has get pe=>
   obtain⟨⟨rfl,hpe⟩,rfl,h3,h4⟩:=h
   simp only [BRep] at hb ⊢
   obtain⟨ad,es,clock,l,g1,g2,g3,g4,g5,g6⟩:=hb
   refine⟨ad,es,clock,l,g1,g2,g3,⟨g4.1,g4.2.nd,g4.2.lt,fun k st hk=> ?_⟩,fun k=>by rw [← h3 k]; exact g5 k,?_⟩
   ·rcases hpe with hpe | hpe
    ·rw [hpe] at hk; cases hk
    ·rw [← hpe] at hk; exact g4.2.pend k st hk
   rw [qe] at g6 ⊢
   exact⟨g6.1,fun i e x q1 q2=>by
    obtain⟨a1,a2,a3⟩:=g6.2 i e x q1 q2
    exact⟨a1,a2,by rw [← h4 x ((g5 x).2 (List.mem_of_getElem? q2))]; exact a3⟩⟩
  | _=>exact h.elim
section
variable {O:Nat→Prop} {pin:Nat} {w0:World} {σ0:List SE} {w:World} {σ:List SE} {P:Program} {st st':St} {a:Act} {Γ:Nat→Option Ctr} {Xp:List PanicEntry→Prop}
theorem Xh{m b:Nat}(h:Own O (σ.take m) b):Own O σ b:=by
 rcases h with h | ⟨e,he,ad,h1,h2⟩
 ·exact .inl h
 ·exact .inr ⟨e,List.mem_of_mem_take he,ad,h1,h2⟩
theorem Le.mod(h:Le pin st st')(hm:Mod O pin w0 σ0 w σ st a):Mod O pin w0 σ0 w (σ.take st'.heap.length) st' a:=by
 have hok:=h.ok
 simp only [chk,Bool.and_eq_true,decide_eq_true_eq,List.all_eq_true] at hok
 obtain⟨⟨⟨hno,hlow⟩,hle⟩,hlowH⟩:=hok
 generalize hmm:st'.heap.length=m at hle hlow hlowH
 have hx:Ext (Own O σ) w (Own O (σ.take m)) w:=⟨rfl,rfl,rfl,Nat.le_refl _,fun _ _ _=>rfl,fun b hb=>.inl (Xh hb)⟩
 have hlen:=hm.hp.len
 have htl:=Qh h.tmps
 have hhold:Hold (List.range' m (st.heap.length - m)) w σ w (σ.take m):=by
  intro i e he hi
  have hlt:=(List.getElem?_eq_some_iff.1 he).1
  have him:i<m:=by
   rw [List.mem_range'] at hi
   rcases Nat.lt_or_ge i m with h1 | h1
   ·exact h1
   ·exact absurd ⟨i - m,by omega,by omega⟩ hi
  exact⟨by rw [List.getElem?_take,if_pos him]; exact he,fun ad _ cs el hcs=>⟨cs,el,hcs,rfl⟩⟩
 have hget:∀ (i:Nat) (e:SE),(σ.take m)[i]?=some e→i<m∧σ[i]?=some e:=by
  intro i e he
  rw [List.getElem?_take] at he
  split at he
  ·rename_i hi; exact⟨hi,he⟩
  ·cases he
 refine⟨⟨hm.good.old,fun i e ad he=>hm.good.dis i e ad (hget i e he).2,hm.good.stat.ext hx⟩,⟨?_,?_,?_,?_⟩,by rw [hm.size,htl],fun t=> ?_,hm.df.ext hx,hm.since.trans ⟨hx,fun _ _ _=>rfl,w4.of hhold (fun i hi=>by
  rw [List.mem_range'] at hi
  obtain⟨j,_,h2⟩:=hi
  have:=h.pinned
  omega)⟩,hm.lim⟩
 ·rw [List.length_take,hmm,hlen]; exact Nat.min_eq_left hle
 ·intro i j e f x y he hf
  exact hm.hp.inj i j e f x y (hget i e he).2 (hget j f hf).2
 ·intro i e x he
  exact hm.hp.lt i e x (hget i e he).2
 ·intro i e b' he hb'
  obtain⟨hi,he⟩:=hget i e he
  have hil:i<st.heap.length:=Nat.lt_of_lt_of_le hi hle
  have hbr:=kx (xl h.heap (List.getElem?_eq_getElem hil) hb') (hm.hp.blk i e _ he (List.getElem?_eq_getElem hil))
  have arr:∀ {n sz:Nat} {g:Nat→Nat→AV},BRep (Own O σ) w σ e (.arr n sz g)→BRep (Own O (σ.take m)) w (σ.take m) e (.arr n sz g):=by
   intro n sz g hbr
   simp only [BRep] at hbr ⊢
   obtain⟨h1,h2 | ⟨ad,cs,el,h3,h4,h5,h6⟩⟩:=hbr
   ·exact⟨h1,.inl h2⟩
   ·refine⟨h1,.inr ⟨ad,cs,el,h3,h4,h5,fun j o hj ho=> ?_⟩⟩
    obtain⟨c,h7,h8,h9⟩:=h6 j o hj ho
    exact⟨c,h7,h8,zj hx _ _ h9⟩
  cases b' with
  | dead=>trivial
  | box mcs=>
   simp only [BRep] at hbr ⊢
   obtain⟨ad,vs,el,h1,h2,h3,h4⟩:=hbr
   have:=hlowH _ (List.mem_of_getElem? hb')
   simp only [ZW,List.all_eq_true] at this
   exact⟨ad,vs,el,h1,h2,h3,qq hx hhold _ _ (zH.2 fun x hx=>uM (this x hx)) h4⟩
  | arr n' sz' g'=>exact arr hbr
  | arrI k n f=>exact vK.2 (arr (vK.1 hbr))
  | arrS n f=>exact vQ.2 (arr (vQ.1 hbr))
  | map ag sh has get pe=>
   simp only [BRep] at hbr ⊢
   obtain⟨ad,es,clock,l,h1,h2,h3,h4,h5,h6⟩:=hbr
   exact⟨ad,es,clock,l,h1,h2,h3,h4,h5,h6.ext hx⟩
 ·have ht:=hm.tm t
  by_cases htl1:t<st.tmps.length
  ·have htl':t<st'.tmps.length:=by rw [← htl]; exact htl1
   have hno1:=hno st.tmps[t] (List.getElem_mem htl1)
   have hl1:=hlow st'.tmps[t] (List.getElem_mem htl')
   have hla:=LeL.get t htl1 htl' (wy h.tmps)
   have e1:st.tmps.getD t .undef=st.tmps[t]:=by simp [List.getD,htl1]
   have e2:st'.tmps.getD t .undef=st'.tmps[t]:=by simp [List.getD,htl']
   rw [e1] at ht
   rw [e2]
   generalize st.tmps[t]=x at ht hno1 hla
   generalize st'.tmps[t]=y at hl1 hla
   have hr:Rep (Own O σ) w x σ (a.tmps.getD t Go.undef):=by
    cases x with
    | opt t b y=>simp [zB] at hno1
    | _=>simpa only [TRep] using ht
   have hr2:=qa hx hhold y _ (uM hl1) (hla _ _ _ _ hr)
   cases y with
   | opt t b z=>exact absurd rfl (kS hl1 t b z)
   | _=>simpa only [TRep] using hr2
  ·have e2:st'.tmps.getD t .undef = .undef:=by
    simp only [List.getD]
    rw [List.getElem?_eq_none (by omega)]; rfl
   rw [e2]
   simp [TRep,Rep]
def Safe(Xp:List PanicEntry→Prop)(M:Option Nat)(P:Program)(O:Nat→Prop)(pin:Nat)(w0:World)(σ0:List SE)(Hs:Nat→St→Prop)(R:St→Prop)(k:List Item)(st:St):Prop:=
 ∀ w σ a,Mod O pin w0 σ0 w σ st a→wpK M P (fun d a w=>∃ st σ,Hs d st∧Mod O pin w0 σ0 w σ st a) (fun e a w=>((e = .ret∨e = .normal)∧∃ st σ,R st∧Mod O pin w0 σ0 w σ st a)∨∃ ch,e = .panic ch∧Xp ch∧Dead σ0 w0 w a.defers) k .normal a w
def zb0(Xp:List PanicEntry→Prop)(M:Option Nat)(P:Program)(O:Nat→Prop)(pin:Nat)(w0:World)(σ0:List SE)(Hs:Nat→St→Prop)(R:St→Prop):Leaf→Prop
 | .ret st=>R st
 | .back d st=>Hs d st
 | .loop c k st=>Safe Xp M P O pin w0 σ0 Hs R (.code (.loop c)::k) st
 | .range c k st=>Safe Xp M P O pin w0 σ0 Hs R (.code c::k) st
theorem Safe.run{M:Option Nat}{Hs:Nat→St→Prop}{R:St→Prop}{k:List Item}(hmix:P.follows .mixedOrders=true)(hΓ:∀ g c,Γ g=some c→qg Xp P g c)(n:Nat)(h:(Go.Sx.run P Γ pin n k st).holds (zb0 Xp M P O pin w0 σ0 Hs R)):Safe Xp M P O pin w0 σ0 Hs R k st:=by
 intro w σ a hm
 refine qn hmix hΓ (fun ch a w' h1 h2=>.inr ⟨ch,rfl,h1,h2⟩) n (Tree.zK ?_ h) hm
 intro lf hl
 cases lf with
 | ret st=>exact fun w σ a hm=>⟨.inl ⟨.inl rfl,st,σ,hl,hm⟩,.inl ⟨.inr rfl,st,σ,hl,hm⟩⟩
 | back d st=>exact fun w σ a hm=>⟨st,σ,hl,hm⟩
 | loop c k st=>exact fun w σ a hm=>hl w σ a hm
 | range c k st=>exact fun w σ a hm=>hl w σ a hm
theorem Safe.le{M:Option Nat}{Hs:Nat→St→Prop}{R:St→Prop}{k:List Item}(hle:Le pin st st')(h:Safe Xp M P O pin w0 σ0 Hs R k st'):Safe Xp M P O pin w0 σ0 Hs R k st:=
 fun w σ a hm=>h w _ a (hle.mod hm)
theorem wp_loop_ghost{M:Option Nat}{c:Code}{Q:Exit→Act→World→Prop}{ι:Type}(I:ι→Act→World→Prop)(μ:ι→Nat)(x0:ι)(h0:I x0 a w)
  (round:∀ x a w,I x a w→c.wpIn (FM M) 0 P (Exit.then (fun a' w'=>∃ x',I x' a' w'∧μ x'<μ x) Q) a w):(Code.loop c).wpIn (FM M) 0 P Q a w:=by
 classical
 have least:∀ (p:Nat→Prop),(∃ n,p n)→∃ n,p n∧∀ m,p m→n≤m:=by
  rintro p ⟨n,hn⟩
  induction n using Nat.strongRecOn with
  | _ n ih=>
   by_cases h:∃ m,m<n∧p m
   ·obtain⟨m,h1,h2⟩:=h; exact ih m h1 h2
   ·exact⟨n,hn,fun m hm=>Nat.le_of_not_lt fun hlt=>h ⟨m,hlt,hm⟩⟩
 have hl:∀ a w,∃ n,(∃ x,I x a w)→(∃ x,I x a w∧μ x=n)∧∀ x,I x a w→n≤μ x:=by
  intro a w
  by_cases h:∃ x,I x a w
  ·obtain⟨n,⟨x,h1,h2⟩,h3⟩:=least (fun n=>∃ x,I x a w∧μ x=n) (by obtain⟨x,hx⟩:=h; exact⟨_,x,hx,rfl⟩)
   exact⟨n,fun _=>⟨⟨x,h1,h2⟩,fun y hy=>h3 _ ⟨y,hy,rfl⟩⟩⟩
  ·exact⟨0,fun h'=>absurd h' h⟩
 refine wpIn_loop (fun a w=>∃ x,I x a w) (fun a w=>(hl a w).choose) ⟨x0,h0⟩ ?_
 intro a w hI
 obtain⟨⟨x,h1,h2⟩,h3⟩:=(hl a w).choose_spec hI
 refine wpIn_mono (round x a w h1) fun e a' w' h=> ?_
 cases e with
 | normal=>
  obtain⟨x',h4,h5⟩:=h
  have h6:=((hl a' w').choose_spec ⟨x',h4⟩).2 x' h4
  exact⟨⟨x',h4⟩,by omega⟩
 | _=>exact h
theorem q7{M:Option Nat}{H H':Nat→Act→World→Prop}{B:Exit→Act→World→Prop} : ∀ {k:List Item} {e:Exit} {a:Act} {w:World},(∀ d a w,d<qR k→H' d a w→H d a w)→wpK M P H' B k e a w→wpK M P H B k e a w
 | [],e,a,w,hh,h=>h
 | .code c::k,e,a,w,hh,h=>by
  cases e with
  | normal=>exact wpIn_mono h fun e a w h=>q7 hh h
  | _=>exact q7 (k:=k) hh h
 | .inBlock id::k,e,a,w,hh,h=>by
  cases e with
  | exit i=>
   simp only [wpK] at h ⊢
   split at h
   ·rename_i hi; rw [if_pos hi]; exact q7 hh h
   ·rename_i hi; rw [if_neg hi]; exact q7 hh h
  | _=>exact q7 (k:=k) hh h
 | .inLoop::k,e,a,w,hh,h=>by
  cases e with
  | normal=>exact hh _ _ _ (by simp [qR]) h
  | _=>exact q7 (k:=k) (fun d a w hd=>hh d a w (by simp [qR]; omega)) h
theorem Safe.loop{M:Option Nat}{ι:Type}{Hs:Nat→St→Prop}{R:St→Prop}{k:List Item}{c:Code}(S:ι→St)(μ:ι→Nat)(x0:ι)(hle:Le pin st (S x0))
  (round:∀ x,Safe Xp M P O pin w0 σ0 (fun d st'=>if d=qR k then ∃ x',μ x'<μ x∧Le pin st' (S x') else Hs d st') R (.code c::.inLoop::k) (S x)) :
  Safe Xp M P O pin w0 σ0 Hs R (.code (.loop c)::k) st:=by
 intro w σ a hm
 simp only [wpK]
 refine wp_loop_ghost (fun x a w=>∃ σ,Mod O pin w0 σ0 w σ (S x) a) μ x0 ⟨_,hle.mod hm⟩ ?_
 rintro x a w ⟨σ,hm⟩
 have:=round x w σ a hm
 simp only [wpK] at this
 refine wpIn_mono this fun e a w h=> ?_
 cases e with
 | normal=>
  simp only [wpK] at h
  obtain⟨st',σ',h1,h2⟩:=h
  simp only [if_true] at h1
  obtain⟨x',h3,h4⟩:=h1
  exact⟨x',⟨_,h4.mod h2⟩,h3⟩
 | _=>
  refine q7 (k:=k) (fun d a w hd h=> ?_) h
  obtain⟨st',σ',h1,h2⟩:=h
  rw [if_neg (by omega)] at h1
  exact⟨st',σ',h1,h2⟩
def wm(st:St)(t:Nat)(sz:Nat)(g:Nat→Nat→AV):St:=⟨st.tmps.set t (.osl st.heap.length sz 0 0),st.heap++[.arr 0 sz g]⟩
theorem XW(hm:Mod O pin w0 σ0 w σ st a){t sz:Nat}{g:Nat→Nat→AV}(ht:st.tmps.getD t .undef = .nils)(hno:st.tmps.all zB=true):Mod O pin w0 σ0 w (σ++[⟨none,0⟩]) (wm st t sz g) a:=by
 obtain⟨k1,k2,k3⟩:=WI hm.good hm.hp sz g
 have hx:=ext_nil (O:=O) w σ 0
 refine⟨k2,k1,by simp [wm,hm.size],fun u=> ?_,hm.df.ext hx,hm.since.trans ⟨hx,fun _ _ _=>rfl,w4.of k3 (by simp)⟩,hm.lim⟩
 have hu:=hm.tm u
 by_cases htu:u=t
 ·subst htu
  rw [ht] at hu
  simp only [TRep,Rep] at hu
  have hlt:u<st.tmps.length:=by
   rcases Nat.lt_or_ge u st.tmps.length with h | h
   ·exact h
   ·simp [List.getD,List.getElem?_eq_none h] at ht
  have:(wm st u sz g).tmps.getD u .undef = .osl st.heap.length sz 0 0:=by
   simp only [wm,List.getD]
   rw [List.getElem?_set_self hlt]; rfl
  rw [this,hu]
  simp only [TRep,Rep]
  exact⟨⟨none,0⟩,by rw [← hm.hp.len]; simp,by simp,none,0,rfl,Nat.le_refl _,.inl rfl⟩
 ·have:(wm st t sz g).tmps.getD u .undef=st.tmps.getD u .undef:=by
   simp only [wm,List.getD]
   rw [List.getElem?_set_ne (fun h=>htu h.symm)]
  rw [this]
  have hn:zB (st.tmps.getD u .undef)=true:=by
   by_cases hlt:u<st.tmps.length
   ·simp only [List.getD,List.getElem?_eq_getElem hlt,Option.getD_some]
    exact List.all_eq_true.1 hno _ (List.getElem_mem hlt)
   ·simp only [List.getD]
    rw [List.getElem?_eq_none (by omega)]; rfl
  generalize st.tmps.getD u .undef=x at hu hn
  cases x with
  | opt _ _ _=>simp [zB] at hn
  | _=>simp only [TRep] at hu ⊢; exact qa hx k3 _ _ (jb _) hu
theorem Safe.bear{M:Option Nat}{Hs:Nat→St→Prop}{R:St→Prop}{k:List Item}(t sz:Nat)(g:Nat→Nat→AV)(ht:st.tmps.getD t .undef = .nils)(hno:st.tmps.all zB=true)(h:Safe Xp M P O pin w0 σ0 Hs R k (wm st t sz g)):Safe Xp M P O pin w0 σ0 Hs R k st:=
 fun w σ a hm=>h w _ a (XW hm ht hno)
def resX(P:Program)(st:St):List ResultVar→Tree (List AV)
 | []=>.leaf []
 | .tmp t::l=>(resX P st l).bind fun r=>.leaf (see [] (st.tmps.getD t .undef)::r)
 | .cell t ty::l=>(yn P st.heap ty (see [] (st.tmps.getD t .undef))).bind fun v=>(resX P st l).bind fun r=>.leaf (v::r)
def resV(rs:List AV):AV:=match rs with
 | [r]=>r
 | rs=>.tup rs
def ZR(tmps:Array Value):ResultVar→Sem Value
 | .tmp t=>pure (tmps.getD t Go.undef)
 | .cell x t=>do loadVar t (← asAddr (tmps.getD x Go.undef))
theorem W5(fn:Func)(tmps:Array Value):results fn tmps=(do let vs ← fn.results.mapM (ZR tmps); pure (if h:vs.size=1 then vs[0] else .tuple vs)):=by
 unfold results
 congr 1
theorem yg(hm:Mod O pin w0 σ0 w σ st a):∀ {l:List ResultVar} {Q:List AV→Prop},(resX P st l).holds Q →
  ∃ rs vs,(l.mapM (ZR a.tmps)).run P w = .ok vs w∧Q rs∧RepL (Own O σ) w rs σ vs
 | [],Q,hq=>⟨[],[],by simp,hq,by simp [RepL]⟩
 | .tmp t::l,Q,hq=>by
  simp only [resX,Tree.zl] at hq
  obtain⟨rs,vs,h1,h2,h3⟩:=yg hm hq
  refine⟨_,a.tmps.getD t Go.undef::vs,?_,h2,?_⟩
  ·simp only [List.mapM_cons,ZR,Sem.run_bind,Sem.run_pure,Result.andThen_ok]
   rw [h1]; rfl
  ·simp only [RepL]
   exact⟨_,_,rfl,(hm.tm t).rep,h3⟩
 | .cell x t::l,Q,hq=>by
  simp only [resX,Tree.zl] at hq
  have hx:=(hm.tm x).rep
  obtain⟨r,v,h1,hq,hr⟩:=yE (P:=P) hm.hp hx hq
  obtain⟨rs,vs,h4,h2,h3⟩:=yg hm hq
  refine⟨_,v::vs,?_,h2,?_⟩
  ·simp only [List.mapM_cons,Sem.run_bind,ZR]
   have:(do loadVar t (← asAddr (a.tmps.getD x Go.undef)):Sem Value).run P w = .ok v w:=by
    simp only [Instr.loadAt,Sem.run_bind] at h1 ⊢
    generalize a.tmps.getD x Go.undef=va at h1
    cases va with
    | pointer p=>
     cases p with
     | none=>simp [Instr.sureAddr] at h1
     | some ad=>simpa [Instr.sureAddr,asAddr] using h1
    | _=>simp [Instr.sureAddr] at h1
   simp only [Sem.run_bind] at this
   rw [this]
   simp only [Result.andThen_ok]
   rw [h4]; rfl
  ·simp only [RepL]
   exact⟨_,_,rfl,hr,h3⟩
def zT:AV→Bool
 | .bool _=>true
 | .int _ _=>true
 | .str _=>true
 | .nils=>true
 | .nilp=>true
 | .fn _ [] []=>true
 | .nilf=>true
 | _=>false
theorem kj{own own':Nat→Prop}{w':World}{σ':List SE}{x:AV}{v:Value}(h:zT x=true)(hr:Rep own w x σ v):Rep own' w' x σ' v:=by
 cases x with
 | fn f p q=>
  cases p<;>cases q<;>simp [zT] at h
  simp only [Rep,RepL] at hr ⊢; exact hr
 | bool _=>simpa only [Rep] using hr
 | int _ _=>simpa only [Rep] using hr
 | str _=>simpa only [Rep] using hr
 | nils=>simpa only [Rep] using hr
 | nilp=>simpa only [Rep] using hr
 | nilf=>simpa only [Rep] using hr
 | _=>simp [zT] at h
def Je:AV→Bool
 | .agg l=>l.all zT
 | .tup l=>l.all zT
 | a=>zT a
def wV(fn:Func)(args:List AV)(hc:Heap):St:=⟨args.map (see [])++List.replicate (fn.ntmps - args.length) .undef,hc⟩
def entry(fn:Func)(args:List AV):St:=wV fn args []
theorem uX{fn:Func}(hm:Mod O pin w0 σ0 w σ st a){Q:List AV→Prop}(hq:(resX P st fn.results.toList).holds Q):∃ rs v,(results fn a.tmps).run P w = .ok v w∧Q rs∧Rep (Own O σ) w (resV rs) σ v:=by
 obtain⟨rs,vs,h1,h2,h3⟩:=yg hm hq
 have hr:(results fn a.tmps).run P w = .ok (if h:vs.toArray.size=1 then vs.toArray[0] else .tuple vs.toArray) w:=by
  rw [W5]
  obtain⟨l,hl⟩:∃ l:List ResultVar,fn.results=l.toArray:=⟨fn.results.toList,by simp⟩
  rw [hl] at h1 ⊢
  simp only [Sem.run_bind,List.mapM_toArray,Sem.run_map]
  rw [h1]
  rfl
 refine⟨rs,_,hr,h2,?_⟩
 match rs,vs,h3 with
 | [r],vs,h3=>
  simp only [RepL] at h3
  obtain⟨v,_,rfl,h4,rfl⟩:=h3
  exact h4
 | [],vs,h3=>
  simp only [RepL] at h3
  subst h3
  simp only [resV,Rep]
  exact⟨[],by simp,by simp [RepL]⟩
 | r1::r2::rs,vs,h3=>
  have:=h3.length
  rw [dif_neg (by simp at this ⊢; omega)]
  simp only [resV,Rep]
  exact⟨vs,rfl,h3⟩
theorem VR{fn:Func}{args:List AV}{hc:Heap}{vals:List Value}(hg:Good O w σ)(hh:HRep (Own O σ) w σ hc)(hr:RepL (Own O σ) w args σ vals):Mod O pin w σ w σ (wV fn args hc) ⟨vals.toArray++Array.replicate (fn.ntmps - vals.toArray.size) Go.undef,[]⟩:=by
 have hl:=hr.length
 refine⟨hg,hh,by simp [wV,hl],fun t=> ?_,Marks.nil _ _ _,Stp.refl _ _ _ _,hg.stat⟩
 simp only [wV]
 by_cases ht:t<args.length
 ·have e1:(args.map (see [])++List.replicate (fn.ntmps - args.length) AV.undef).getD t .undef=see [] args[t]:=by
   simp only [List.getD]
   rw [List.getElem?_append_left (by simpa using ht)]
   simp [ht]
  have e2:(vals.toArray++Array.replicate (fn.ntmps - vals.toArray.size) Go.undef).getD t Go.undef=vals[t]'(by omega):=by
   simp only [Array.getD_eq_getD_getElem?]
   rw [Array.getElem?_append_left (by simp; omega)]
   simp [show t<vals.length by omega]
  rw [e1,e2]
  have:=(zq.1 hr).2 t args[t] (vals[t]'(by omega)) (by simp [ht]) (by simp [show t<vals.length by omega])
  generalize args[t]=x at this
  cases x with
  | opt _ _ _=>simp [see,TRep,Rep]
  | _=>simpa only [see,TRep] using this
 ·have e1:(args.map (see [])++List.replicate (fn.ntmps - args.length) AV.undef).getD t .undef = .undef:=by
   simp only [List.getD]
   rw [List.getElem?_append_right (by simp; omega)]
   simp only [List.getElem?_replicate]
   split<;>rfl
  rw [e1]
  simp [TRep,Rep]
def exp0(h:Heap)(M:List Nat):AV→AV
 | .osl i sz off n=>match zo M i with
  | some j=>.osl j sz off n
  | none=>match frz1 h (.osl i sz off n) with
   | some (a,[_])=>a
   | some (a,k)=>bif k.all fun i=>(zo M i).isNone then a else .undef
   | none=>.undef
 | x=>ren0 (zo M) x
def exp1(h:Heap)(M:List Nat):AV→AV
 | .agg cs=>.agg (cs.map (exp0 h M))
 | .tup cs=>.tup (cs.map (exp0 h M))
 | .fn g a b=>.fn g (a.map (exp0 h M)) (b.map (exp0 h M))
 | x=>exp0 h M x
def exp2(h:Heap)(M:List Nat):AV→AV
 | .tup cs=>.tup (cs.map (exp1 h M))
 | .fn g a b=>.fn g (a.map (exp1 h M)) (b.map (exp1 h M))
 | x=>exp1 h M x
def expB(h:Heap)(M:List Nat):Blk→Blk
 | .box cs=>.box (cs.map (exp1 h M))
 | b=>b
def expH(h:Heap)(M:List Nat):Heap:=M.map fun i=>expB h M (h.getD i .dead)
def Zj:AV→Prop
 | .sl n sz g=>∀ j o,j<n→o<sz→zT (g j o)=true
 | _=>True
def new0(h:Heap)(M:List Nat):AV→Prop
 | .osl i sz off n=>zo M i=none→Zj (exp0 h M (.osl i sz off n))
 | .sl n _ _=>n=0
 | a=>zT a=true
def new1(h:Heap)(M:List Nat):AV→Prop
 | .agg cs=>∀ a∈cs,new0 h M a
 | .tup cs=>∀ a∈cs,new0 h M a
 | a=>new0 h M a
def new2(h:Heap)(M:List Nat):AV→Prop
 | .tup cs=>∀ a∈cs,new1 h M a
 | a=>new1 h M a
def newB:Blk→Prop
 | .arr n sz g=>Zj (.sl n sz g)
 | .dead=>True
 | .box _=>False
 | .arrI _ _ _=>True
 | .arrS _ _=>True
 | .map _ _ _ _ _=>False
theorem js{own own':Nat→Prop}{w w':World}{σ1 σ2:List SE}{f:AV→AV}{l:List AV}{vs:List Value}(hf:∀ a∈l,∀ v,Rep own w a σ1 v→Rep own' w' (f a) σ2 v)(h:RepL own w l σ1 vs):RepL own' w' (l.map f) σ2 vs:=by
 refine zq.2 ⟨by simp [h.length],fun i x u hx hu=> ?_⟩
 simp only [List.getElem?_map] at hx
 cases hl:l[i]? with
 | none=>simp [hl] at hx
 | some y=>
  simp only [hl,Option.map_some,Option.some.injEq] at hx
  subst hx
  exact hf y (List.mem_of_getElem? hl) u ((zq.1 h).2 i y u hl hu)
structure Exp(O:Nat→Prop)(w:World)(σ:List SE)(h:Heap)(M:List Nat)(σM:List SE)(own':Nat→Prop):Prop where
 good:Good O w σ
 hp:HRep (Own O σ) w σ h
 nd:jH M=true
 lt:∀ i∈M,i<h.length
 get:∀ j:Nat,σM[j]?=(M[j]?).bind fun i=>σ[i]?
 own:∀ b,own' b→Own O σM b∨¬ Mine σ b
section
variable {h:Heap} {M:List Nat} {σM:List SE} {own':Nat→Prop}
theorem Exp.get'(x:Exp O w σ h M σM own'){j:Nat}{e:SE}(he:σM[j]?=some e):∃ i,M[j]?=some i∧σ[i]?=some e:=by
 rw [x.get] at he
 cases hj:M[j]? with
 | none=>simp [hj] at he
 | some i=>simp only [hj,Option.bind_some] at he; exact⟨i,rfl,he⟩
theorem Exp.pos(x:Exp O w σ h M σM own')(i j:Nat)(hp:zo M i=some j):σM[j]?=σ[i]?:=by
 rw [x.get,vH hp]; rfl
theorem Exp.sub(x:Exp O w σ h M σM own'){b:Nat}(hb:Own O σM b):Own O σ b:=by
 rcases hb with hb | hb
 ·exact .inl hb
 ·obtain⟨j,e,ad,h1,h2,h3⟩:=zu.1 hb
  obtain⟨i,_,hi⟩:=x.get' h1
  exact .inr (zu.2 ⟨i,e,ad,hi,h2,h3⟩)
theorem Exp.out(x:Exp O w σ h M σM own'){i:Nat}{e:SE}{ad:Addr}(hi:i∉M)(he:σ[i]?=some e)(had:e.ad=some ad):¬ own' ad.block:=by
 intro hb
 rcases x.own _ hb with hb | hb
 ·rcases hb with hb | hb
  ·exact x.good.dis i e ad he had hb
  ·obtain⟨j,f,ad',h1,h2,h3⟩:=zu.1 hb
   obtain⟨k,hk,hf⟩:=x.get' h1
   exact x.hp.inj k i f e ad' ad hf he h2 had (fun e=>hi (e▸List.mem_of_getElem? hk)) h3
 ·exact hb (zu.2 ⟨i,e,ad,he,had,rfl⟩)
theorem QQ{h:Heap}{i sz off n:Nat}{a:AV}{k:List Nat}(hf:frz1 h (.osl i sz off n)=some (a,k)):∃ n' sz' g k',a = .sl n' sz' g∧k=i::k':=by
 simp only [frz1] at hf
 split at hf
 ·simp only [Option.some.injEq,Prod.mk.injEq] at hf; exact⟨_,_,_,[],hf.1.symm,hf.2.symm⟩
 ·simp only [frzD] at hf
  split at hf
  ·simp only [Option.some.injEq,Prod.mk.injEq] at hf; exact⟨_,_,_,[],hf.1.symm,hf.2.symm⟩
  ·split at hf
   ·split at hf
    ·split at hf
     ·simp only [Option.some.injEq,Prod.mk.injEq] at hf; exact⟨_,_,_,_,hf.1.symm,hf.2.symm⟩
     ·cases hf
    ·cases hf
   ·cases hf
theorem wD(x:Exp O w σ h M σM own'){a:AV}{v:Value}(hs:(∀ b,own' b→Own O σ b)∨new0 h M a)(ha:Rep (Own O σ) w a σ v):Rep own' w (exp0 h M a) σM v:=by
 have hren:∀ a,exp0 h M a=ren0 (zo M) a→((∀ b,own' b→Own O σ b)∨zT a=true∨(∃ i sz off n,a = .osl i sz off n))→Rep (Own O σ) w a σ v→Rep own' w (exp0 h M a) σM v:=by
  intro a he hs ha
  rw [he]
  rcases hs with hs | hs | ⟨i,sz,off,n,rfl⟩
  ·exact jO hs (jC x.pos ha)
  ·have:ren0 (zo M) a=a:=by
    cases a with
    | fn g p q=>cases p<;>cases q<;>simp [zT] at hs; rfl
    | _=>first | rfl | simp [zT] at hs
   rw [this]
   exact kj hs ha
  ·have:=jC x.pos ha
   simp only [ren0] at this ⊢
   split
   ·rename_i j hj
    rw [hj] at this
    simpa only [Rep] using this
   ·simp [Rep]
 cases a with
 | osl i sz off n=>
  cases hp:zo M i with
  | some j=>exact hren _ (by simp [exp0,ren0,hp]) (.inr (.inr ⟨i,sz,off,n,rfl⟩)) ha
  | none=>
   have hiM:=qi.1 hp
   cases hf:frz1 h (.osl i sz off n) with
   | none=>simp [exp0,hp,hf,Rep]
   | some p=>
    obtain⟨a',k⟩:=p
    obtain⟨n',sz',g,k',rfl,rfl⟩:=QQ hf
    by_cases hall:∀ q∈i::k',q∉M
    rotate_left
    ·have:exp0 h M (.osl i sz off n) = .undef:=by
      cases k' with
      | nil=>exact absurd (fun q hq=>by rw [List.mem_singleton.1 hq]; exact hiM) hall
      | cons q k'=>
       simp only [exp0,hp,hf]
       have:((i::q::k').all fun i=>(zo M i).isNone)=false:=by
        rw [Bool.eq_false_iff]
        intro h2
        refine hall fun q hq=> ?_
        have:=List.all_eq_true.1 h2 q hq
        exact qi.1 (by simpa using this)
       rw [this]; rfl
     rw [this]; simp [Rep]
    have key:exp0 h M (.osl i sz off n) = .sl n' sz' g:=by
     cases k' with
     | nil=>simp only [exp0,hp,hf]
     | cons q k'=>
      simp only [exp0,hp,hf]
      have:((i::q::k').all fun i=>(zo M i).isNone)=true:=by
       rw [List.all_eq_true]
       intro q hq
       rw [qi.2 (hall q hq)]; rfl
      rw [this]; rfl
    rw [key]
    have hfs:=(kQ (K:=i::k') x.good x.hp ha hf (fun _ h=>h)).1
    simp only [Rep] at hfs ⊢
    obtain⟨ba,cap,hv,hc,hr⟩:=hfs
    refine⟨ba,cap,hv,hc,?_⟩
    rcases hr with hr | ⟨ad,h1,h2,h3⟩
    ·exact .inl hr
    ·refine .inr ⟨ad,h1,h2,fun j o hj ho=> ?_⟩
     obtain⟨h4,c,h5,h6,h7⟩:=h3 j o hj ho
     have hblk:¬ own' ad.block:=by
      simp only [Rep] at ha
      obtain⟨e,he,_,a2,cap2,hv2,_,hr2⟩:=ha
      rw [hv] at hv2
      simp only [Value.slice.injEq] at hv2
      obtain⟨e1,e2,e3⟩:=hv2
      rcases hr2 with hr2 | ⟨ad2,had2,ha2,_⟩
      ·omega
      ·have:ad.block=ad2.block:=by
        rw [h1,ha2] at e1
        simp only [Option.some.injEq] at e1
        rw [e1]
       rw [this]
       exact x.out hiM he had2
     refine⟨hblk,c,h5,h6,?_⟩
     rcases hs with hs | hs
     ·exact jO (fun b hb=>by
       rcases x.own b hb with h8 | h8
       ·rcases h8 with h8 | h8
        ·exact .inl h8
        ·obtain⟨jj,f,ad',g1,g2,g3⟩:=zu.1 h8
         obtain⟨kk,hk,hf'⟩:=x.get' g1
         exact .inr (zu.2 ⟨kk,f,ad',by
           have hne:kk∉i::k':=fun e=>hall kk e (List.mem_of_getElem? hk)
           rw [q6,hf']; simp only [Option.map_some]; rw [if_neg (by simpa using hne)],g2,g3⟩)
       ·rcases hs b hb with h9 | h9
        ·exact .inl h9
        ·exact absurd h9 h8) h7
     ·have hsl:=hs hp
      rw [key] at hsl
      exact kj (hsl j o hj ho) h7
 | sl n sz g=>
  rcases hs with hs | hs
  ·exact hren _ rfl (.inl hs) ha
  ·simp only [new0] at hs
   subst hs
   simp only [exp0,ren0,Rep] at ha ⊢
   obtain⟨b,cap,hv,hc,_⟩:=ha
   exact⟨b,cap,hv,hc,.inl trivial⟩
 | agg cs=>simp [exp0,ren0,Rep]
 | tup cs=>simp [exp0,ren0,Rep]
 | opt _ _ _=>simp [exp0,ren0,Rep]
 | undef=>simp [exp0,ren0,Rep]
 | _=>exact hren _ rfl (by rcases hs with hs | hs; exact .inl hs; exact .inr (.inl hs)) ha
theorem w8(x:Exp O w σ h M σM own'){a:AV}{v:Value}(hs:(∀ b,own' b→Own O σ b)∨new1 h M a)(ha:Rep (Own O σ) w a σ v):Rep own' w (exp1 h M a) σM v:=by
 cases a with
 | agg cs=>
  simp only [exp1,Rep] at ha ⊢
  obtain⟨vs,hv,hr⟩:=ha
  exact⟨vs,hv,js (fun a ha v=>wD x (by rcases hs with hs | hs; exact .inl hs; exact .inr (hs a ha))) hr⟩
 | tup cs=>
  simp only [exp1,Rep] at ha ⊢
  obtain⟨vs,hv,hr⟩:=ha
  exact⟨vs,hv,js (fun a ha v=>wD x (by rcases hs with hs | hs; exact .inl hs; exact .inr (hs a ha))) hr⟩
 | fn g p q=>
  rcases hs with hs | hs
  ·simp only [exp1,Rep] at ha ⊢
   obtain⟨va,vb,hv,h1,h2⟩:=ha
   exact⟨va,vb,hv,js (fun a ha v=>wD x (.inl hs)) h1,js (fun a ha v=>wD x (.inl hs)) h2⟩
  ·cases p<;>cases q<;>simp [new1,new0,zT] at hs
   simp only [exp1,Rep,RepL,List.map_nil] at ha ⊢
   exact ha
 | _=>exact wD x (by simpa only [new1] using hs) ha
theorem uF(x:Exp O w σ h M σM own'){a:AV}{v:Value}(hs:(∀ b,own' b→Own O σ b)∨new2 h M a)(ha:Rep (Own O σ) w a σ v):Rep own' w (exp2 h M a) σM v:=by
 cases a with
 | tup cs=>
  simp only [exp2,Rep] at ha ⊢
  obtain⟨vs,hv,hr⟩:=ha
  exact⟨vs,hv,js (fun a ha v=>w8 x (by rcases hs with hs | hs; exact .inl hs; exact .inr (hs a ha))) hr⟩
 | fn g p q=>
  rcases hs with hs | hs
  ·simp only [exp2,Rep] at ha ⊢
   obtain⟨va,vb,hv,h1,h2⟩:=ha
   exact⟨va,vb,hv,js (fun a ha v=>w8 x (.inl hs)) h1,js (fun a ha v=>w8 x (.inl hs)) h2⟩
  ·cases p<;>cases q<;>simp [new2,new1,new0,zT] at hs
   simp only [exp2,Rep,RepL,List.map_nil] at ha ⊢
   exact ha
 | _=>exact w8 x (by simpa only [new2] using hs) ha
theorem WH(x:Exp O w σ h M σM own'){e:SE}{b:Blk}(hs:(∀ b,own' b→Own O σ b)∨newB b)(hb:BRep (Own O σ) w σ e b):BRep own' w σM e (expB h M b):=by
 have arr:∀ {n sz:Nat} {g:Nat→Nat→AV},((∀ b,own' b→Own O σ b)∨newB (.arr n sz g))→BRep (Own O σ) w σ e (.arr n sz g)→BRep own' w σM e (.arr n sz g):=by
  intro n sz g hs hb
  simp only [BRep] at hb ⊢
  obtain⟨h1,h2 | ⟨ad,cs,el,h3,h4,h5,h6⟩⟩:=hb
  ·exact⟨h1,.inl h2⟩
  ·refine⟨h1,.inr ⟨ad,cs,el,h3,h4,h5,fun j o hj ho=> ?_⟩⟩
   obtain⟨c,h7,h8,h9⟩:=h6 j o hj ho
   refine⟨c,h7,h8,?_⟩
   rcases hs with hs | hs
   ·exact jO hs h9
   ·exact kj (hs j o hj ho) h9
 cases b with
 | dead=>trivial
 | box cs=>
  rcases hs with hs | hs
  ·simp only [expB,BRep] at hb ⊢
   obtain⟨ad,vs,el,h1,h2,h3,h4⟩:=hb
   exact⟨ad,vs,el,h1,h2,h3,js (fun a ha v=>w8 x (.inl hs)) h4⟩
  ·exact hs.elim
 | arr n sz g=>exact arr hs hb
 | arrI k n f=>exact vK.2 (arr (.inr fun j o _ _=>rfl) (vK.1 hb))
 | arrS n f=>exact vQ.2 (arr (.inr fun j o _ _=>rfl) (vQ.1 hb))
 | map ag sh has get pe=>
  rcases hs with hs | hs
  ·simp only [expB,BRep] at hb ⊢
   obtain⟨ad,es,clock,l,h1,h2,h3,h4,h5,h6⟩:=hb
   refine⟨ad,es,clock,l,h1,h2,h3,h4,h5,h6.ext ⟨rfl,rfl,rfl,Nat.le_refl _,fun _ _ _=>rfl,fun b hb=>.inl (hs b hb)⟩⟩
  ·exact hs.elim
end
def eqL1:List AV→List AV→Prop
 | [],[]=>True
 | a::l,b::m=>eqA a b∧eqL1 l m
 | _,_=>False
def eqA2:AV→AV→Prop
 | .tup l,.tup m=>eqL1 l m
 | a,b=>eqA a b
theorem uv:∀ {l m:List AV},eqL1 l m→LeL l m
 | [],[],_=>trivial
 | a::l,b::m,h=>⟨xF h.1,uv h.2⟩
 | [],_::_,h=>h.elim
 | _::_,[],h=>h.elim
theorem zR{a b:AV}(h:eqA2 a b):LeA a b:=by
 unfold eqA2 at h
 split at h
 ·intro own w σ v hr
  simp only [Rep] at hr ⊢
  obtain⟨vs,hv,hr⟩:=hr
  exact⟨vs,hv,(uv h).rep hr⟩
 ·exact xF h
def LeB(b b':Blk):Prop:=∀ own w σ e,BRep own w σ e b→BRep own w σ e b'
def leHs:Heap→Heap→Prop
 | [],[]=>True
 | b::l,c::m=>LeB b c∧leHs l m
 | _,_=>False
theorem J6:∀ {l m:Heap} {j:Nat} {b c:Blk},leHs l m→l[j]?=some b→m[j]?=some c→LeB b c
 | _::l,_::m,0,b,c,h,h1,h2=>by simp at h1 h2; subst h1; subst h2; exact h.1
 | _::l,_::m,j+1,b,c,h,h1,h2=>J6 h.2 (by simpa using h1) (by simpa using h2)
 | [],[],_,_,_,_,h1,_=>by simp at h1
 | [],_::_,_,_,_,h,_,_=>h.elim
 | _::_,[],_,_,_,h,_,_=>h.elim
theorem LeB.refl(b:Blk):LeB b b:=fun _ _ _ _ h=>h
theorem LeB.of_eq{b b':Blk}(h:eqB b b'):LeB b b':=fun _ _ _ _ hb=>kx h hb
theorem LeB.box{l m:List AV}(h:LeL l m):LeB (.box l) (.box m):=fun own w σ e hb=>by
 simp only [BRep] at hb ⊢
 obtain⟨ad,vs,el,h1,h2,h3,h4⟩:=hb
 exact⟨ad,vs,el,h1,h2,h3,h.rep h4⟩
theorem LeB.arr{n sz:Nat}{g g':Nat→Nat→AV}(h:∀ j o,j<n→o<sz→LeA (g j o) (g' j o)):LeB (.arr n sz g) (.arr n sz g'):=fun own w σ e hb=>by
 simp only [BRep] at hb ⊢
 obtain⟨h1,h2 | ⟨ad,cs,el,h3,h4,h5,h6⟩⟩:=hb
 ·exact⟨h1,.inl h2⟩
 ·refine⟨h1,.inr ⟨ad,cs,el,h3,h4,h5,fun j o hj ho=> ?_⟩⟩
  obtain⟨c,h7,h8,h9⟩:=h6 j o hj ho
  exact⟨c,h7,h8,h j o hj ho _ _ _ _ h9⟩
def RetR(ctr:Ctr)(m:Nat)(Q:AV×Heap→Prop)(rs:List AV)(h:Heap):Prop:=
 ∃ M:List Nat,jH M=true∧(∀ i∈M,i<h.length)∧(∀ j,j<m→M[j]?=some j)∧(ctr.fresh=true→new2 h M (resV rs)∧∀ i∈M,newB (h.getD i .dead))∧∃ r hs,LeA (exp2 h M (resV rs)) r∧(eqH (expH h M) hs∨leHs (expH h M) hs)∧hs.length=M.length∧Q (r,hs)
def uL(ctr:Ctr)(hc:Heap):Nat:=bif ctr.jS then ctr.pins else hc.length
theorem UM{g:Nat}{fn:Func}{c:Code}{ctr:Ctr}(hf:P.funcs[g]?=some fn)(hb:fn.body=some c) (hn:(fn.name == "runtime.NumGoroutine")=false)
  {args:List AV} {hc:Heap} {Q:AV×Heap→Prop} (hfr:ctr.fresh=true→hc=[]) (H:∀ (O:Nat→Prop) (w0:World) (σ0:List SE),σ0.length=hc.length →
   Safe Xp none P O (uL ctr hc) w0 σ0 (fun _ _=>False) (fun st=>(resX P st fn.results.toList).holds fun rs=>RetR ctr hc.length Q rs st.heap) [.code c] (wV fn args hc)):we Xp P g ctr args hc Q:=by
 intro O w σ0 vals hg hh hr
 left
 have hn':¬ fn.name = "runtime.NumGoroutine" :=by simpa using hn
 refine⟨by simp [callFunc,hf,hn',hb],?_⟩
 refine callsIn_wide.1 (callsIn_of_wp_marks (F:=Fence.wide) (n:=0) hf hb trivial ?_)
 have:=H O w σ0 hh.len w σ0 _ (VR hg hh hr)
 simp only [wpK,FM] at this
 refine wpIn_mono this ?_
 rintro e a1 w1 h
 have hfin:∀ (st:St) (σ:List SE) (a':Act) (w':World),((resX P st fn.results.toList).holds fun rs=>RetR ctr hc.length Q rs st.heap)→Mod O (uL ctr hc) w σ0 w' σ st a'→∃ v,(results fn a'.tmps).run P w' = .ok v w'∧∃ v',Ending.returned v = .returned v'∧∃ r hs σ',Q (r,hs)∧Rep (fun b=>Own O σ' b∨(ctr.fresh=true∧b<w.heap.size)) w' r σ' v' ∧
   HRep (fun b=>Own O σ' b∨(ctr.fresh=true∧b<w.heap.size)) w' σ' hs∧Good O w' σ'∧hc.length≤hs.length∧Hold (if ctr.jS=true then(List.range hc.length).drop ctr.pins else []) w σ0 w' σ'∧Ext (Mine σ0) w (Mine σ') w':=by
  intro st σ a' w' hR hm
  obtain⟨rs,v,h1,⟨M,h2,h3,h4,h5,r0,hs0,hq1,hq2,hq3,h6⟩,h7⟩:=uX hm hR
  let σM:List SE:=M.map fun i=>σ.getD i ⟨none,0⟩
  have hMσ:∀ i∈M,i<σ.length:=fun i hi=>by rw [hm.hp.len]; exact h3 i hi
  have hget:∀ j:Nat,σM[j]?=(M[j]?).bind fun i=>σ[i]?:=by
   intro j
   simp only [σM,List.getElem?_map]
   cases hj:M[j]? with
   | none=>rfl
   | some i=>
    have:=hMσ i (List.mem_of_getElem? hj)
    simp [this]
  have hnewO:ctr.fresh=true→∀ b,Mine σ b→w.heap.size≤b:=by
   intro hf b hb
   have h0:=hfr hf
   have hσ0:σ0=[]:=by have:=hh.len; rw [h0] at this; exact List.length_eq_zero_iff.1 (by simpa using this)
   obtain⟨i,e,ad,g1,g2,g3⟩:=zu.1 hb
   rcases hm.since.ext.grow b (.inr hb) with hx | hx
   ·rcases hx with hx | ⟨e',he',_⟩
    ·exact absurd (g3▸hx) (hm.good.dis i e ad g1 g2)
    ·rw [hσ0] at he'; simp at he'
   ·exact hx
  have X:Exp O w' σ st.heap M σM (fun b=>Own O σM b∨(ctr.fresh=true∧b<w.heap.size)):=⟨hm.good,hm.hp,h2,h3,hget,fun b hb=>by
   rcases hb with hb | ⟨hf,hb⟩
   ·exact .inl hb
   ·exact .inr fun hmn=>by have:=hnewO hf b hmn; omega⟩
  have hor:∀ {p:Prop},(ctr.fresh=true→p)→(∀ b,(Own O σM b∨(ctr.fresh=true∧b<w.heap.size))→Own O σ b)∨p:=by
   intro p hp
   cases hf:ctr.fresh with
   | true=>exact .inr (hp hf)
   | false=>
    left
    rintro b (hb | ⟨hf',_⟩)
    ·exact X.sub hb
    ·cases hf'
  have hmlen:hc.length≤M.length:=by
   rcases Nat.lt_or_ge M.length hc.length with hlt | hge
   ·have:=h4 M.length hlt
    simp at this
   ·exact hge
  refine⟨v,h1,v,rfl,r0,hs0,σM,h6,hq1 _ _ _ _ (uF X (hor fun hf=>(h5 hf).1) h7),⟨?_,?_,?_,?_⟩,⟨?_,?_,hm.good.stat.own fun b hb=>hb.imp id fun⟨e,he,ad,h1,h2⟩=>by
   obtain⟨j,hj⟩:=List.mem_iff_getElem?.1 he
   obtain⟨i,_,g2⟩:=X.get' hj
   exact⟨e,List.mem_of_getElem? g2,ad,h1,h2⟩⟩,by omega,?_,?_⟩
  ·simp [σM,hq3]
  ·intro i j e f a b he hf ha hb' hij
   obtain⟨i',g1,g2⟩:=X.get' he
   obtain⟨j',g3,g4⟩:=X.get' hf
   refine hm.hp.inj i' j' e f a b g2 g4 ha hb' ?_
   rintro rfl
   have g5:=w5 h2 g1
   have g6:=w5 h2 g3
   rw [g5] at g6; cases g6; exact hij rfl
  ·intro i e a he ha
   obtain⟨i',g1,g2⟩:=X.get' he
   exact hm.hp.lt i' e a g2 ha
  ·intro j e b he hb'
   obtain⟨i,g1,g2⟩:=X.get' he
   have hb2:(expH st.heap M)[j]?=some (expB st.heap M (st.heap.getD i .dead)):=by simp only [expH,List.getElem?_map,g1,Option.map_some]
   refine(hq2.elim (fun hq2=>LeB.of_eq (xl hq2 hb2 hb')) fun hq2=>J6 hq2 hb2 hb') _ _ _ _ ?_
   have hlt:=h3 i (List.mem_of_getElem? g1)
   have hgd:st.heap.getD i .dead=st.heap[i]:=by simp [hlt]
   have hbr:=hm.hp.blk i e _ g2 (List.getElem?_eq_getElem hlt)
   rw [← hgd] at hbr
   exact WH X (hor fun hf=>(h5 hf).2 i (List.mem_of_getElem? g1)) hbr
  ·exact hm.good.old
  ·intro i e ad he had
   obtain⟨i',g1,g2⟩:=X.get' he
   exact hm.good.dis i' e ad g2 had
  ·cases hmv:ctr.jS with
   | true=>
    intro i e he hi
    have hlt:=(List.getElem?_eq_some_iff.1 he).1
    rw [hh.len] at hlt
    have hip:i<ctr.pins:=by
     refine Decidable.byContradiction fun g=>hi ?_
     rw [if_pos rfl]
     refine List.mem_iff_getElem?.2 ⟨i - ctr.pins,?_⟩
     rw [List.getElem?_drop,show ctr.pins+(i - ctr.pins)=i by omega]
     exact List.getElem?_range hlt
    obtain⟨g1,g2⟩:=hm.since.hold i e (by simpa [uL,hmv] using hip) he
    exact⟨by rw [hget,h4 i hlt]; exact g1,g2⟩
   | false=>
    intro i e he _
    have hlt:=(List.getElem?_eq_some_iff.1 he).1
    rw [hh.len] at hlt
    obtain⟨g1,g2⟩:=hm.since.hold i e (by simpa [uL,hmv] using hlt) he
    exact⟨by rw [hget,h4 i hlt]; exact g1,g2⟩
  ·refine⟨hm.since.ext.os,hm.since.ext.tape,hm.since.ext.output,hm.since.ext.size,fun b hb' hno=> ?_,fun b hb'=> ?_⟩
   ·by_cases hOb:O b
    ·exact hm.since.wZ b hOb hb'
    ·exact hm.since.ext.keep b hb' (fun hx=>by rcases hx with hx | hx; exact hOb hx; exact hno hx)
   ·rcases X.sub (.inr hb') with hx | hx
    ·obtain⟨j,e,ad,g1,g2,g3⟩:=zu.1 hb'
     obtain⟨i,_,g4⟩:=X.get' g1
     exact absurd (g3▸hx) (hm.good.dis i e ad g4 g2)
    ·obtain⟨i,e,ad,g1,g2,g3⟩:=zu.1 hx
     rcases hm.since.ext.grow b (.inr hx) with hy | hy
     ·rcases hy with hy | hy
      ·exact absurd (g3▸hy) (hm.good.dis i e ad g1 g2)
      ·exact .inl hy
     ·exact .inr hy
 have hend:∀ (st:St) (σ:List SE),((resX P st fn.results.toList).holds fun rs=>RetR ctr hc.length Q rs st.heap)→Mod O (uL ctr hc) w σ0 w1 σ st a1→LeavesInM Fence.wide 0 P fn a1.tmps (fun e w'=>(∃ v,e = .returned v∧∃ r hs σ',Q (r,hs)∧Rep (fun b=>Own O σ' b∨(ctr.fresh=true∧b<w.heap.size)) w' r σ' v ∧
   HRep (fun b=>Own O σ' b∨(ctr.fresh=true∧b<w.heap.size)) w' σ' hs∧Good O w' σ'∧hc.length≤hs.length∧Hold (if ctr.jS=true then(List.range hc.length).drop ctr.pins else []) w σ0 w' σ'∧Ext (Mine σ0) w (Mine σ') w')∨∃ ch,e = .panicked ch∧Xp ch∧Died σ0 w w') a1.defers .returning w1:=by
  intro st σ hR hm
  refine kZ a1.defers w1 hm fun w' hm'=> ?_
  obtain⟨v,h1,v',h2,h3⟩:=hfin st σ _ _ hR hm'
  exact⟨v,h1,.inl ⟨v',h2,h3⟩⟩
 cases e with
 | normal=>
  simp only [wpK] at h
  rcases h with ⟨_,st,σ,hR,hm⟩ | ⟨ch,h,_⟩
  ·exact hend st σ hR hm
  ·cases h
 | ret=>
  simp only [wpK] at h
  rcases h with ⟨_,st,σ,hR,hm⟩ | ⟨ch,h,_⟩
  ·exact hend st σ hR hm
  ·cases h
 | exit i=>exact absurd h (by simp [wpK])
 | goto l=>exact absurd h (by simp [wpK])
 | panic ch=>
  rcases h with ⟨h,_⟩ | ⟨ch',h,hx,hd⟩
  ·simp at h
  ·cases h
   exact yq a1.defers w1 hd fun w' hd'=>.inr ⟨ch,rfl,hx,hd'.died⟩
 | outgrown=>exact absurd h (by simp [wpK])
end
end Go.Sx
end
section
namespace Go.Sx
variable [Stat]
open Go.RowKit (Below)
def natG(k:IntKind)(l:List Nat):Nat→Nat→AV:=fun j _=>.int k ((l.getD j 0:Nat):Int)
def natS(k:IntKind)(l:List Nat):AV:=.sl l.length 1 (natG k l)
abbrev KV:=List (Nat×AV)
def look:KV→Nat→AV
 | [],_=>.undef
 | (i,a)::l,t=>if i=t then a else look l t
def pk(n:Nat)(l:KV):List AV:=(List.range n).map (look l)
def mk(n:Nat)(l:KV)(h:Heap):St:=⟨pk n l,h⟩
inductive j1 where
 | ret (rs:List AV) (h:Heap)
 | back (d:Nat) (kv:KV) (h:Heap)
 | loop (c:Code) (k:List Item) (kv:KV) (h:Heap)
 | range (c:Code) (k:List Item) (kv:KV) (h:Heap)
def kvOf(live:List Nat)(st:St):KV:=live.map fun i=>(i,see [] (st.tmps.getD i .undef))
def post(P:Program)(fn:Func)(live:List Nat):Leaf→Tree j1
 | .ret st=>(resX P st fn.results.toList).bind fun rs=>.leaf (.ret rs st.heap)
 | .back d st=>if st.tmps.length=fn.ntmps then .leaf (.back d (kvOf live st) st.heap) else .fail
 | .loop c k st=>if st.tmps.length=fn.ntmps then .leaf (.loop c k (kvOf live st) st.heap) else .fail
 | .range c k st=>if st.tmps.length=fn.ntmps then .leaf (.range c k (kvOf live st) st.heap) else .fail
def wq:Nat→List Item→List (Code×List Item)
 | 0,_=>[]
 | _+1,[]=>[]
 | n+1,.inBlock _::k=>wq n k
 | _+1,.inLoop::_=>[]
 | n+1,.code c::k=>match c with
  | .skip=>wq n k
  | .seq a b=>wq n (.code a::.code b::k)
  | .region _ _ _=>wq n k
  | .cond _ x y=>wq n (.code x::k)++wq n (.code y::k)
  | .block id c=>wq n (.code c::.inBlock id::k)
  | .loop c=>[(c,k)]
  | .exit id=>match exitTo id k with
   | some k'=>wq n k'
   | none=>[]
  | _=>[]
def j0:Nat→List Item→List (Code×List Item)
 | 0,_=>[]
 | _+1,[]=>[]
 | n+1,.inBlock _::k=>j0 n k
 | _+1,.inLoop::_=>[]
 | n+1,.code c::k=>match c with
  | .skip=>j0 n k
  | .seq a b=>j0 n (.code a::.code b::k)
  | .region _ _ _=>j0 n k
  | .cond _ x y=>j0 n (.code x::k)++j0 n (.code y::k)
  | .block id c=>j0 n (.code c::.inBlock id::k)
  | .rangeFunc g ps x y=>[(.rangeFunc g ps x y,k)]
  | .exit id=>match exitTo id k with
   | some k'=>j0 n k'
   | none=>[]
  | _=>[]
def rfs(K:List Item)(j:Nat):Code×List Item:=(j0 400 K).getD j (.skip,[])
def ZV:Code→Code
 | .rangeFunc _ _ _ y=>y
 | c=>c
def roundOf(K:List Item)(j:Nat):List Item:=[.code (ZV (rfs K j).1),.inLoop]
def bare(fn:Func):Func:={ fn with results:= #[] }
def lps(K:List Item)(j:Nat):Code×List Item:=(wq 400 K).getD j (.skip,[])
def inside(K:List Item)(j:Nat):List Item:=.code (lps K j).1::.inLoop::(lps K j).2
def runL(P:Program)(Γ:Nat→Option Ctr)(pin:Nat)(fn:Func)(live:List Nat)(n:Nat)(k:List Item)(st:St):Tree j1:=(run P Γ pin n k st).bind (post P fn live)
section
variable {O:Nat→Prop} {pin:Nat} {w0:World} {σ0:List SE} {w:World} {σ:List SE} {P:Program} {st st':St} {a:Act} {Γ:Nat→Option Ctr} {fn:Func} {Xp:List PanicEntry→Prop}
theorem wJ{n t:Nat}{l:KV}(h:t<n):(pk n l).getD t .undef=look l t:=by simp [pk,List.getD,h]
theorem U2{live:List Nat}{st:St}{t:Nat} : look (kvOf live st) t=see [] (st.tmps.getD t .undef)∨look (kvOf live st) t = .undef:=by
 unfold kvOf
 induction live with
 | nil=>exact .inr rfl
 | cons i l ih=>
  simp only [List.map_cons,look]
  split
  ·rename_i h; subst h; exact .inl rfl
  ·exact ih
theorem uJ(hm:Mod O pin w0 σ0 w σ st a)(live:List Nat)(hn:st.tmps.length=fn.ntmps):Mod O pin w0 σ0 w σ (mk fn.ntmps (kvOf live st) st.heap) a:=by
 refine⟨hm.good,hm.hp,by simp [mk,pk,hm.size,hn],fun t=> ?_,hm.df,hm.since,hm.lim⟩
 by_cases ht:t<fn.ntmps
 ·simp only [mk]
  rw [wJ ht]
  have:=(hm.tm t).rep
  rcases U2 (live:=live) (st:=st) (t:=t) with h | h<;>rw [h]
  ·generalize st.tmps.getD t .undef=x at this
   cases x with
   | opt _ _ _=>simp [see,TRep,Rep]
   | _=>simpa only [see,TRep] using this
  ·simp [TRep,Rep]
 ·have:(mk fn.ntmps (kvOf live st) st.heap).tmps.getD t .undef = .undef:=by simp [mk,pk,List.getD,ht]
  rw [this]; simp [TRep,Rep]
def z7(Xp:List PanicEntry→Prop)(M:Option Nat)(P:Program)(fn:Func)(O:Nat→Prop)(pin:Nat)(w0:World)(σ0:List SE)(Hs:Nat→KV→Heap→Prop)(R:List AV→Heap→Prop)(k:List Item)(st:St):Prop:=
 Safe Xp M P O pin w0 σ0 (fun d st=>∃ kv h,Hs d kv h∧st=mk fn.ntmps kv h) (fun st=>(resX P st fn.results.toList).holds fun rs=>R rs st.heap) k st
abbrev zE(M:Option Nat)(P:Program)(fn:Func)(O:Nat→Prop)(pin:Nat)(w0:World)(σ0:List SE)(Hs:Nat→KV→Heap→Prop)(R:List AV→Heap→Prop)(k:List Item)(st:St):Prop:=z7 (fun _=>False) M P fn O pin w0 σ0 Hs R k st
abbrev zc(P:Program)(fn:Func)(O:Nat→Prop)(pin:Nat)(w0:World)(σ0:List SE)(Hs:Nat→KV→Heap→Prop)(R:List AV→Heap→Prop)(k:List Item)(st:St):Prop:=z7 (fun _=>False) none P fn O pin w0 σ0 Hs R k st
abbrev zac(Xp:List PanicEntry→Prop)(P:Program)(fn:Func)(O:Nat→Prop)(pin:Nat)(w0:World)(σ0:List SE)(Hs:Nat→KV→Heap→Prop)(R:List AV→Heap→Prop)(k:List Item)(st:St):Prop:=z7 Xp none P fn O pin w0 σ0 Hs R k st
def zd(Xp:List PanicEntry→Prop)(M:Option Nat)(P:Program)(fn:Func)(O:Nat→Prop)(pin:Nat)(w0:World)(σ0:List SE)(Hs:Nat→KV→Heap→Prop)(R:List AV→Heap→Prop):j1→Prop
 | .ret rs h=>R rs h
 | .back d kv h=>Hs d kv h
 | .loop c k kv h=>z7 Xp M P fn O pin w0 σ0 Hs R (.code (.loop c)::k) (mk fn.ntmps kv h)
 | .range c k kv h=>z7 Xp M P fn O pin w0 σ0 Hs R (.code c::k) (mk fn.ntmps kv h)
theorem zc.runX{M:Option Nat}{Hs:Nat→KV→Heap→Prop}{R:List AV→Heap→Prop}{k:List Item}(hmix:P.follows .mixedOrders=true)(hΓ:∀ g c,Γ g=some c→qg Xp P g c)(live:List Nat)(n:Nat){T:Tree j1}(ht:runL P Γ pin fn live n k st=T)(h:T.holds (zd Xp M P fn O pin w0 σ0 Hs R)):z7 Xp M P fn O pin w0 σ0 Hs R k st:=by
 subst ht
 simp only [runL,Tree.zl] at h
 intro w σ a hm
 refine qn hmix hΓ (fun ch a w' h1 h2=>.inr ⟨ch,rfl,h1,h2⟩) n (Tree.zK ?_ h) hm
 intro lf hl
 cases lf with
 | ret st=>
  simp only [post,Tree.zl] at hl
  exact fun w σ a hm=>⟨.inl ⟨.inl rfl,st,σ,hl,hm⟩,.inl ⟨.inr rfl,st,σ,hl,hm⟩⟩
 | back d st=>
  simp only [post] at hl
  split at hl
  ·rename_i hn
   exact fun w σ a hm=>⟨_,σ,⟨_,_,hl,rfl⟩,uJ hm live hn⟩
  ·exact hl.elim
 | loop c k st=>
  simp only [post] at hl
  split at hl
  ·rename_i hn
   exact fun w σ a hm=>hl w σ a (uJ hm live hn)
  ·exact hl.elim
 | range c k st=>
  simp only [post] at hl
  split at hl
  ·rename_i hn
   exact fun w σ a hm=>hl w σ a (uJ hm live hn)
  ·exact hl.elim
def eqKV:KV→KV→Prop
 | [],[]=>True
 | (i,a)::l,(j,b)::m=>i=j∧eqA a b∧eqKV l m
 | _,_=>False
theorem zc.run{M:Option Nat}{Hs:Nat→KV→Heap→Prop}{R:List AV→Heap→Prop}{k:List Item}(hmix:P.follows .mixedOrders=true)(hΓ:∀ g c,Γ g=some c→zf P g c)(live:List Nat)(n:Nat){T:Tree j1}(ht:runL P Γ pin fn live n k st=T)(h:T.holds (zd Xp M P fn O pin w0 σ0 Hs R)):z7 Xp M P fn O pin w0 σ0 Hs R k st:=
 zc.runX hmix (fun g c h=>(hΓ g c h).x) live n ht h
theorem Kv:eqA .undef .undef:=by simp [eqA,eqA0]
theorem za9{l m:List AV}(hl:l.length=m.length)(h:∀ (i:Nat) (a b:AV),l[i]?=some a→m[i]?=some b→eqA a b):eqL l m:=by
 induction l generalizing m with
 | nil=>cases m with
  | nil=>trivial
  | cons b m=>simp at hl
 | cons a l ih=>
  cases m with
  | nil=>simp at hl
  | cons b m=>
   have h0:=h 0 a b (by simp) (by simp)
   have hr:=ih (m:=m) (by simpa using hl) (fun i x y hx hy=>h (i+1) x y (by simpa using hx) (by simpa using hy))
   unfold eqL
   split
   ·rename_i h1 h2; cases h1
   ·rename_i h1 h2; cases h1; cases h2; exact hr
   ·rename_i h1 h2; cases h1; cases h2; exact⟨h0,hr⟩
   ·rename_i h1 h2 h3; exact absurd rfl (h3 _ _ _ _ rfl)
theorem Zm:∀ {l m:KV} (t:Nat),eqKV l m→eqA (look l t) (look m t)
 | [],[],t,_=>Kv
 | (i,a)::l,(j,b)::m,t,h=>by
  obtain⟨rfl,h1,h2⟩:=h
  simp only [look]
  split
  ·exact h1
  ·exact Zm t h2
 | [],_::_,_,h=>h.elim
 | _::_,[],_,h=>h.elim
def XE(n:Nat)(l m:KV)(h h':Heap):Bool:=(pk n l).all zB&&(pk n m).all (lowB h'.length)&&decide (h'.length≤h.length)&&h'.all (ZW h'.length)
def XF(n:Nat)(l m:KV)(h h':Heap):Bool:=l.all (fun p=>zB p.2)&&m.all (fun p=>lowB h'.length p.2)&&decide (h'.length≤h.length)&&h'.all (ZW h'.length)
theorem Ji{f:AV→Bool}(hu:f .undef=true):∀ {l:KV} (t:Nat),(l.all fun p=>f p.2)=true→f (look l t)=true
 | [],t,_=>hu
 | (i,a)::l,t,h=>by
  rw [List.all_cons,Bool.and_eq_true] at h
  simp only [look]
  split
  ·exact h.1
  ·exact Ji hu t h.2
theorem XU{f:AV→Bool}(hu:f .undef=true){l:KV}{n:Nat}(h:(l.all fun p=>f p.2)=true):(pk n l).all f=true:=by
 unfold pk
 rw [List.all_map,List.all_eq_true]
 exact fun t _=>Ji hu t h
theorem U1{n:Nat}{l m:KV}{h h':Heap}(k:XF n l m h h'=true):XE n l m h h'=true:=by
 unfold XF at k
 unfold XE
 simp only [Bool.and_eq_true] at k ⊢
 exact⟨⟨⟨XU rfl k.1.1.1,XU rfl k.1.1.2⟩,k.1.2⟩,k.2⟩
def LeK(pin n:Nat)(l:KV)(h:Heap)(m:KV)(h':Heap):Prop:=eqKV l m∧eqH h h'∧XF n l m h h'=true∧pin≤h'.length
theorem LeK.le{pin n:Nat}{l m:KV}{h h':Heap}(hle:LeK pin n l h m h'):Le pin (mk n l h) (mk n m h'):=by
 obtain⟨h1,h2,h3,h4⟩:=hle
 refine⟨?_,h2,U1 h3,h4⟩
 refine za9 (by simp [mk,pk]) fun i a b ha hb=> ?_
 simp only [mk,pk,List.getElem?_map] at ha hb
 cases hi:(List.range n)[i]? with
 | none=>simp [hi] at ha
 | some t=>
  simp only [hi,Option.map_some,Option.some.injEq] at ha hb
  subst ha; subst hb
  exact Zm t h1
theorem QU{M:Option Nat}{H H':Nat→Act→World→Prop}{B:Exit→Act→World→Prop}{k:List Item}{e:Exit}{a:Act}{w:World}(hh:∀ d a w,H' d a w→H d a w)(h:wpK M P H' B k e a w):wpK M P H B k e a w:=
 q7 (fun d a w _ h=>hh d a w h) h
theorem zc.loop{M:Option Nat}{ι:Type}{Hs:Nat→KV→Heap→Prop}{R:List AV→Heap→Prop}{k:List Item}{c:Code}{kv:KV}{h:Heap}(S:ι→KV)(H:ι→Heap)(μ:ι→Nat)(x0:ι)(dk:Nat)(hle:LeK pin fn.ntmps kv h (S x0) (H x0))
  (round:∀ x,z7 Xp M P fn O pin w0 σ0 (fun d kv h=>if d=dk then ∃ x',μ x'<μ x∧LeK pin fn.ntmps kv h (S x') (H x') else Hs d kv h) R (.code c::.inLoop::k) (mk fn.ntmps (S x) (H x)))
  (hd:qR k=dk):z7 Xp M P fn O pin w0 σ0 Hs R (.code (.loop c)::k) (mk fn.ntmps kv h):=by
 subst hd
 refine Safe.loop (fun x=>mk fn.ntmps (S x) (H x)) μ x0 hle.le fun x=> ?_
 intro w σ a hm
 have:=round x w σ a hm
 refine QU ?_ this
 intro d a w hh
 obtain⟨st,σ,⟨kv,h,h1,rfl⟩,h2⟩:=hh
 refine⟨_,σ,?_,h2⟩
 split at h1
 ·rename_i hd
  rw [if_pos hd]
  obtain⟨x',h3,h4⟩:=h1
  exact⟨x',h3,h4.le⟩
 ·rename_i hd
  rw [if_neg hd]
  exact⟨kv,h,h1,rfl⟩
theorem zb5{g:Nat}{c:Code}{ctr:Ctr}(hf:P.funcs[g]?=some fn)(hb:fn.body=some c) (hn:(fn.name == "runtime.NumGoroutine")=false)
  {args:List AV} {hc:Heap} {Q:AV×Heap→Prop} (hfr:ctr.fresh=true→hc=[]) (H:∀ (O:Nat→Prop) (w0:World) (σ0:List SE),σ0.length=hc.length →
   zac Xp P fn O (uL ctr hc) w0 σ0 (fun _ _ _=>False) (RetR ctr hc.length Q) [.code c] (wV fn args hc)):we Xp P g ctr args hc Q:=by
 refine UM hf hb hn hfr fun O w0 σ0 hl=> ?_
 intro w σ a hm
 refine QU ?_ (H O w0 σ0 hl w σ a hm)
 rintro d a w ⟨st,σ,⟨kv,h,h1,_⟩,_⟩
 exact h1.elim
theorem fn_k{g:Nat}{c:Code}{ctr:Ctr}(hf:P.funcs[g]?=some fn)(hb:fn.body=some c) (hn:(fn.name == "runtime.NumGoroutine")=false)
  {args:List AV} {hc:Heap} {Q:AV×Heap→Prop} (hfr:ctr.fresh=true→hc=[]) (H:∀ (O:Nat→Prop) (w0:World) (σ0:List SE),σ0.length=hc.length →
   zc P fn O (uL ctr hc) w0 σ0 (fun _ _ _=>False) (RetR ctr hc.length Q) [.code c] (wV fn args hc)):qk P g ctr args hc Q:=
 (zb5 hf hb hn hfr H).plain
theorem RetR.scal{ctr:Ctr}{Q:AV×Heap→Prop}{rs:List AV}{h:Heap}{r:AV}(hq:Q (r,[]))(hs:Je r=true)(hr:resV rs=r):RetR ctr 0 Q rs h:=by
 subst hr
 have e0:∀ a,zT a=true→exp0 h [] a=a∧new0 h [] a:=by
  intro a ha
  cases a with
  | fn g p q=>cases p<;>cases q<;>simp [zT] at ha; exact⟨rfl,rfl⟩
  | _=>first | exact⟨rfl,rfl⟩ | simp [zT] at ha
 have eL:∀ l:List AV,l.all zT=true→l.map (exp0 h [])=l∧∀ a∈l,new0 h [] a:=by
  intro l hl
  rw [List.all_eq_true] at hl
  refine⟨?_,fun a ha=>(e0 a (hl a ha)).2⟩
  conv=>rhs; rw [← List.map_id l]
  exact List.map_congr_left fun a ha=>(e0 a (hl a ha)).1
 have e1:exp2 h [] (resV rs)=resV rs∧new2 h [] (resV rs):=by
  generalize resV rs=a at hs
  cases a with
  | agg l=>simp only [Je] at hs; simp only [exp2,exp1,new2,new1,(eL l hs).1]; exact⟨trivial,(eL l hs).2⟩
  | tup l=>
   simp only [Je] at hs
   have hall:=List.all_eq_true.1 hs
   have h1:∀ a∈l,exp1 h [] a=a∧new1 h [] a:=by
    intro a ha
    have hsa:=hall a ha
    obtain⟨h2,h3⟩:=e0 a hsa
    cases a with
    | agg _=>simp [zT] at hsa
    | tup _=>simp [zT] at hsa
    | fn g p q=>cases p<;>cases q<;>simp [zT] at hsa; exact⟨rfl,rfl⟩
    | _=>exact⟨h2,h3⟩
   refine⟨?_,fun a ha=>(h1 a ha).2⟩
   simp only [exp2]
   congr 1
   conv=>rhs; rw [← List.map_id l]
   exact List.map_congr_left fun a ha=>(h1 a ha).1
  | fn g p q=>cases p<;>cases q<;>simp [Je,zT] at hs; exact⟨rfl,rfl⟩
  | bool b=>exact e0 (.bool b) rfl
  | int k n=>exact e0 (.int k n) rfl
  | str b=>exact e0 (.str b) rfl
  | nils=>exact e0 .nils rfl
  | nilp=>exact e0 .nilp rfl
  | nilf=>exact e0 .nilf rfl
  | _=>simp [Je,zT] at hs
 exact⟨[],rfl,by simp,by simp,fun _=>⟨e1.2,by simp⟩,_,[],by rw [e1.1]; exact LeA.refl _,.inl (by simp [eqH]),rfl,hq⟩
def ctrT{X R:Type}(fresh jS:Bool)(inp:X→List AV)(hin:X→Heap)(pre:X→Prop)(post:X→R→Prop)(out:X→R→AV×Heap):Ctr where
 fresh:=fresh
 jS:=jS
 spec args hc:=.ex (fun x=>eqL args (inp x)∧eqH hc (hin x)∧hc.length=(hin x).length∧pre x) fun x=>.all (post x) fun r=>.leaf (out x r)
def ctrM{X R:Type}(pins:Nat)(inp:X→List AV)(hin:X→Heap)(pre:X→Prop)(post:X→R→Prop)(out:X→R→AV×Heap):Ctr where
 fresh:=false
 jS:=true
 pins:=pins
 spec args hc:=.ex (fun x=>eqL args (inp x)∧eqH hc (hin x)∧hc.length=(hin x).length∧pre x) fun x=>.all (post x) fun r=>.leaf (out x r)
def ctrP{X R:Type}(fresh:Bool)(inp:X→List AV)(pre:X→Prop)(post:X→R→Prop)(out:X→R→AV×Heap):Ctr where
 fresh:=fresh
 spec args hc:=match hc with
  | []=>.ex (fun x=>eqL args (inp x)∧pre x) fun x=>.all (post x) fun r=>.leaf (out x r)
  | _=>.fail
theorem qk.le{ctr:Ctr}{g:Nat}{args args':List AV}{hc:Heap}{Q:AV×Heap→Prop}(h:eqL args args')(k:qk P g ctr args' hc Q):qk P g ctr args hc Q:=
 fun O w σ vals hg hh hr=>k O w σ vals hg hh ((wy h).rep hr)
theorem qk.leH{ctr:Ctr}{g:Nat}{args:List AV}{hc hc':Heap}{Q:AV×Heap→Prop}(h:eqH hc hc')(hl:hc.length=hc'.length)(k:qk P g ctr args hc' Q):qk P g ctr args hc Q:=by
 intro O w σ vals hg hh hr
 have hh':HRep (Own O σ) w σ hc':=by
  refine⟨hl▸hh.len,hh.inj,hh.lt,fun i e b he hb=> ?_⟩
  have hi:i<hc.length:=by rw [hl]; exact(List.getElem?_eq_some_iff.1 hb).1
  exact kx (xl h (List.getElem?_eq_getElem hi) hb) (hh.blk i e _ he (List.getElem?_eq_getElem hi))
 have:=k O w σ vals hg hh' hr
 rw [hl]
 exact this
theorem ja{X R:Type}{fresh jS:Bool}{inp:X→List AV}{hin:X→Heap}{pre:X→Prop}{post:X→R→Prop}{out:X→R→AV×Heap}{g:Nat}{c:Code}(hf:P.funcs[g]?=some fn)(hb:fn.body=some c) (hn:(fn.name == "runtime.NumGoroutine")=false)
  (hfr:fresh=true→∀ x,hin x=[])
  (H:∀ x,pre x→∀ (O:Nat→Prop) (w0:World) (σ0:List SE) (Q:AV×Heap→Prop),σ0.length=(hin x).length→(∀ r,post x r→Q (out x r)) →
   zc P fn O (bif jS then 0 else(hin x).length) w0 σ0 (fun _ _ _=>False) (RetR (ctrT fresh jS inp hin pre post out) (hin x).length Q) [.code c] (wV fn (inp x) (hin x))):zf P g (ctrT fresh jS inp hin pre post out):=by
 intro args hc Q hq _
 obtain⟨x,⟨h1,h2,h3,h4⟩,h5,h6⟩:=hq
 refine qk.le h1 (qk.leH h2 h3 (fn_k hf hb hn (fun h=>hfr h x) fun O w0 σ0 hl=> ?_))
 exact H x h4 O w0 σ0 Q hl h6
theorem Vo{X R:Type}{pins:Nat}{inp:X→List AV}{hin:X→Heap}{pre:X→Prop}{post:X→R→Prop}{out:X→R→AV×Heap}{g:Nat}{c:Code}(hf:P.funcs[g]?=some fn)(hb:fn.body=some c) (hn:(fn.name == "runtime.NumGoroutine")=false)
  (H:∀ x,pre x→∀ (O:Nat→Prop) (w0:World) (σ0:List SE) (Q:AV×Heap→Prop),σ0.length=(hin x).length→(∀ r,post x r→Q (out x r)) →
   zc P fn O pins w0 σ0 (fun _ _ _=>False) (RetR (ctrM pins inp hin pre post out) (hin x).length Q) [.code c] (wV fn (inp x) (hin x))):zf P g (ctrM pins inp hin pre post out):=by
 intro args hc Q hq _
 obtain⟨x,⟨h1,h2,h3,h4⟩,h5,h6⟩:=hq
 refine qk.le h1 (qk.leH h2 h3 (fn_k hf hb hn (fun h=>by cases h) fun O w0 σ0 hl=> ?_))
 exact H x h4 O w0 σ0 Q hl h6
theorem zn{X R:Type}{fresh:Bool}{inp:X→List AV}{pre:X→Prop}{post:X→R→Prop}{out:X→R→AV×Heap}{g:Nat}{c:Code}(hf:P.funcs[g]?=some fn)(hb:fn.body=some c) (hn:(fn.name == "runtime.NumGoroutine")=false)
  (H:∀ x,pre x→∀ (O:Nat→Prop) (w0:World) (Q:AV×Heap→Prop),(∀ r,post x r→Q (out x r)) →
   zc P fn O 0 w0 [] (fun _ _ _=>False) (RetR (ctrP fresh inp pre post out) 0 Q) [.code c] (entry fn (inp x))):zf P g (ctrP fresh inp pre post out):=by
 intro args hc Q hq _
 simp only [ctrP] at hq
 split at hq
 ·obtain⟨x,⟨h1,h4⟩,h5,h6⟩:=hq
  refine qk.le h1 (fn_k hf hb hn (fun h=>rfl) fun O w0 σ0 hl=> ?_)
  have h0:σ0=[]:=List.length_eq_zero_iff.1 (by simpa using hl)
  subst h0
  exact H x h4 O w0 Q h6
 ·exact hq.elim
theorem we.le{ctr:Ctr}{g:Nat}{args args':List AV}{hc:Heap}{Q:AV×Heap→Prop}(h:eqL args args')(k:we Xp P g ctr args' hc Q):we Xp P g ctr args hc Q:=
 fun O w σ vals hg hh hr=>k O w σ vals hg hh ((wy h).rep hr)
theorem we.leH{ctr:Ctr}{g:Nat}{args:List AV}{hc hc':Heap}{Q:AV×Heap→Prop}(h:eqH hc hc')(hl:hc.length=hc'.length)(k:we Xp P g ctr args hc' Q):we Xp P g ctr args hc Q:=by
 intro O w σ vals hg hh hr
 have hh':HRep (Own O σ) w σ hc':=by
  refine⟨hl▸hh.len,hh.inj,hh.lt,fun i e b he hb=> ?_⟩
  have hi:i<hc.length:=by rw [hl]; exact(List.getElem?_eq_some_iff.1 hb).1
  exact kx (xl h (List.getElem?_eq_getElem hi) hb) (hh.blk i e _ he (List.getElem?_eq_getElem hi))
 have:=k O w σ vals hg hh' hr
 rw [hl]
 exact this
theorem RetR.out0{ctr:Ctr}{Q:AV×Heap→Prop}{rs:List AV}{h:Heap}{r:AV}(hq:Q (r,[]))(hn:ctr.fresh=true→new2 h [] (resV rs))(he:eqA2 (exp2 h [] (resV rs)) r):RetR ctr 0 Q rs h:=
 ⟨[],rfl,by simp,by simp,fun hf=>⟨hn hf,by simp⟩,r,[],zR he,.inl (by simp [expH,eqH]),rfl,hq⟩
theorem RetR.out1{ctr:Ctr}{Q:AV×Heap→Prop}{rs:List AV}{h:Heap}{r:AV}{b:Blk}(i:Nat)(hi:i<h.length)(hq:Q (r,[b]))(hn:ctr.fresh=true→new2 h [i] (resV rs)∧newB (h.getD i .dead))
  (he:eqA2 (exp2 h [i] (resV rs)) r) (hb:eqB (expB h [i] (h.getD i .dead)) b):RetR ctr 0 Q rs h:=
 ⟨[i],rfl,by simpa using hi,by simp,fun hf=>⟨(hn hf).1,by simpa using (hn hf).2⟩,r,[b],zR he,.inl (by simpa [expH,eqH] using hb),rfl,hq⟩
theorem zx{P:Program}(g:Nat)(c:Ctr)(h:(none:Option Ctr)=some c):zf P g c:=by cases h
theorem okIf{P:Program}{F:Nat→Option Ctr}{n:Nat}{C:Ctr}(h:zf P n C)(r:∀ g c,F g=some c→zf P g c)(g:Nat)(c:Ctr)(e:(if g=n then some C else F g)=some c):zf P g c:=by
 by_cases hg:g=n
 ·subst hg
  rw [if_pos rfl] at e
  cases e
  exact h
 ·rw [if_neg hg] at e
  exact r g c e
end
end Go.Sx
end
section
namespace Go.Nov
abbrev B:Nat:=1000000000
def val:List Nat→Nat
 | []=>0
 | d::l=>d+B*val l
def dig(l:List Nat):Prop:=∀ d∈l,d<B
def canon(x:Nat):List Nat:=if h:x=0 then [] else x%B::canon (x/B)
termination_by x
decreasing_by exact Nat.div_lt_self (Nat.pos_of_ne_zero h) (by decide)
theorem zP:canon 0=[]:=by rw [canon]; simp
theorem jh{x:Nat}(h:x≠0):canon x=x%B::canon (x/B):=by rw [canon]; simp [h]
theorem zm(x:Nat):val (canon x)=x:=by
 induction x using Nat.strongRecOn with
 | _ x ih=>
  by_cases h:x=0
  ·subst h; simp [zP,val]
  ·rw [jh h,val,ih _ (Nat.div_lt_self (Nat.pos_of_ne_zero h) (by decide))]
   exact Nat.mod_add_div x B
theorem zk(x:Nat):dig (canon x):=by
 induction x using Nat.strongRecOn with
 | _ x ih=>
  by_cases h:x=0
  ·subst h; simp [zP,dig]
  ·rw [jh h]
   intro d hd
   rcases List.mem_cons.1 hd with rfl | hd
   ·exact Nat.mod_lt _ (by decide)
   ·exact ih _ (Nat.div_lt_self (Nat.pos_of_ne_zero h) (by decide)) d hd
theorem qt{d:Nat}{l:List Nat} : dig (d::l)↔d<B∧dig l:=by simp [dig]
theorem j7{l m:List Nat} : dig (l++m)↔dig l∧dig m:=by
 simp only [dig,List.mem_append]
 exact⟨fun h=>⟨fun d hd=>h d (.inl hd),fun d hd=>h d (.inr hd)⟩,fun h d hd=>hd.elim (h.1 d) (h.2 d)⟩
theorem zI(l m:List Nat):val (l++m)=val l+B^l.length*val m:=by
 induction l with
 | nil=>simp [val]
 | cons d l ih=>simp only [List.cons_append,val,ih,List.length_cons,Nat.pow_succ]; rw [Nat.mul_add,← Nat.mul_assoc,Nat.mul_comm B (B^l.length),Nat.add_assoc]
theorem qc{l:List Nat}(h:dig l):val l<B^l.length:=by
 induction l with
 | nil=>simp [val]
 | cons d l ih=>
  obtain⟨h1,h2⟩:=qt.1 h
  have:=ih h2
  simp only [val,List.length_cons,Nat.pow_succ]
  have h3:B*(val l+1)≤B*B^l.length:=Nat.mul_le_mul_left _ this
  rw [Nat.mul_add] at h3
  rw [Nat.mul_comm (B^l.length)]
  omega
def tlen:List Nat→Nat
 | []=>0
 | d::l=>if d=0∧tlen l=0 then 0 else tlen l+1
def qU(l:List Nat):List Nat:=l.take (tlen l)
theorem qm:∀ l:List Nat,tlen l≤l.length
 | []=>Nat.le_refl _
 | d::l=>by
  have:=qm l
  simp only [tlen,List.length_cons]
  split<;>omega
theorem jB:∀ (l:List Nat) (j:Nat),tlen l≤j→l.getD j 0=0
 | [],j,_=>by simp
 | d::l,j,h=>by
  simp only [tlen] at h
  split at h
  ·rename_i hd
   cases j with
   | zero=>simp [hd.1]
   | succ j=>simpa using jB l j (by omega)
  ·cases j with
   | zero=>omega
   | succ j=>simpa using jB l j (by omega)
theorem qo:∀ l:List Nat,0<tlen l→l.getD (tlen l - 1) 0≠0
 | [],h=>by simp [tlen] at h
 | d::l,h=>by
  simp only [tlen] at h ⊢
  split at h
  ·omega
  ·rename_i hd
   rw [if_neg hd]
   rcases Nat.eq_zero_or_pos (tlen l) with h0 | h0
   ·rw [h0]
    simp only [h0,and_true] at hd
    simpa using hd
   ·have:=qo l h0
    rw [show tlen l+1 - 1=(tlen l - 1)+1 by omega]
    simpa using this
theorem val_zero{l:List Nat}(h:tlen l=0):val l=0:=by
 induction l with
 | nil=>rfl
 | cons d l ih=>
  simp only [tlen] at h
  split at h
  ·rename_i hd; simp [val,hd.1,ih hd.2]
  ·omega
theorem uG{l:List Nat}(h:0<tlen l):0<val l:=by
 induction l with
 | nil=>simp [tlen] at h
 | cons d l ih=>
  simp only [tlen] at h
  split at h
  ·omega
  ·rename_i hd
   simp only [val]
   rcases Nat.eq_zero_or_pos (tlen l) with h0 | h0
   ·simp only [h0,and_true] at hd; omega
   ·have:=ih h0
    have:0<B*val l:=Nat.mul_pos (by decide) this
    omega
theorem qb{l:List Nat}(h:dig l):qU l=canon (val l):=by
 induction l with
 | nil=>simp [qU,tlen,val,zP]
 | cons d l ih=>
  obtain⟨h1,h2⟩:=qt.1 h
  have ih:=ih h2
  simp only [qU] at ih ⊢
  by_cases hz:d=0∧tlen l=0
  ·have:=val_zero hz.2
   simp [tlen,hz,val,this,zP]
  ·have hne:d+B*val l≠0:=by
    rcases Nat.eq_zero_or_pos (tlen l) with h0 | h0
    ·simp only [h0,and_true] at hz; omega
    ·have:=Nat.mul_pos (show 0<B by decide) (uG h0)
     omega
   simp only [val,tlen,if_neg hz,List.take_succ_cons]
   rw [jh hne,ih]
   have e1:(d+B*val l)%B=d:=by rw [Nat.add_mul_mod_self_left,Nat.mod_eq_of_lt h1]
   have e2:(d+B*val l)/B=val l:=by rw [Nat.add_mul_div_left _ _ (by decide),Nat.div_eq_of_lt h1,Nat.zero_add]
   rw [e1,e2]
theorem qN(x:Nat):tlen (canon x)=(canon x).length:=by
 have:=qb (zk x)
 rw [zm] at this
 have h:=congrArg List.length this
 simp only [qU,List.length_take] at h
 have:=qm (canon x)
 omega
theorem u2:∀ {l m:List Nat},dig l→dig m→l.length=m.length→val l=val m→l=m
 | [],[],_,_,_,_=>rfl
 | [],_::_,_,_,h,_=>by simp at h
 | _::_,[],_,_,h,_=>by simp at h
 | d::l,e::m,h1,h2,h3,h4=>by
  obtain⟨a1,a2⟩:=qt.1 h1
  obtain⟨b1,b2⟩:=qt.1 h2
  simp only [val] at h4
  have e1:d=e:=by
   have:=congrArg (· % B) h4
   simpa only [Nat.add_mul_mod_self_left,Nat.mod_eq_of_lt a1,Nat.mod_eq_of_lt b1] using this
  subst e1
  have e2:val l=val m:=Nat.eq_of_mul_eq_mul_left (show 0<B by decide) (by omega)
  rw [u2 a2 b2 (by simpa using h3) e2]
theorem yb{i:Nat} : ∀ {l m:List Nat},dig l→l.length=m.length→(∀ j,i<j→l.getD j 0=m.getD j 0)→l.getD i 0<m.getD i 0→val l<val m:=by
 induction i with
 | zero=>
  intro l m h1 h3 h4 h5
  cases l with
  | nil=>cases m with
   | nil=>simp at h5
   | cons _ _=>simp at h3
  | cons d l=>cases m with
   | nil=>simp at h3
   | cons e m=>
    simp only [List.getD_cons_zero] at h5
    have:l=m:=by
     apply List.ext_getElem (by simpa using h3)
     intro j hj hj'
     have:=h4 (j+1) (by omega)
     simpa [hj,hj'] using this
    subst this
    simp only [val]; omega
 | succ i ih=>
  intro l m h1 h3 h4 h5
  cases l with
  | nil=>cases m with
   | nil=>simp at h5
   | cons _ _=>simp at h3
  | cons d l=>cases m with
   | nil=>simp at h3
   | cons e m=>
    simp only [List.getD_cons_succ] at h5
    obtain⟨a1,a2⟩:=qt.1 h1
    have:=ih a2 (by simpa using h3) (fun j hj=>by simpa using h4 (j+1) (by omega)) h5
    simp only [val]
    have h6:B*(val l+1)≤B*val m:=Nat.mul_le_mul_left _ this
    rw [Nat.mul_add] at h6
    omega
theorem zZ{x y:Nat}(h:(canon x).length<(canon y).length):x<y:=by
 have h1:=qc (zk x)
 rw [zm] at h1
 have h2:B^((canon y).length - 1)≤y:=by
  have hl:=qN y
  have hpos:0<tlen (canon y):=by omega
  have:=qo (canon y) hpos
  rw [hl] at this
  generalize hc:canon y=l at *
  have hy:val l=y:=by rw [← hc,zm]
  have hsplit:l=l.take (l.length - 1)++[l.getD (l.length - 1) 0]:=by
   have hlt:l.length - 1<l.length:=by omega
   rw [show l.getD (l.length - 1) 0=l[l.length - 1] by simp [List.getD,hlt]]
   have:=List.take_append_getElem hlt
   rw [this,show l.length - 1+1=l.length by omega,List.take_length]
  rw [← hy]
  conv=>rhs; rw [hsplit]
  rw [zI]
  simp only [val,List.length_take,Nat.mul_zero,Nat.add_zero]
  rw [show min (l.length - 1) l.length=l.length - 1 by omega]
  have:B^(l.length - 1)*1≤B^(l.length - 1)*l.getD (l.length - 1) 0:=Nat.mul_le_mul_left _ (Nat.pos_of_ne_zero this)
  omega
 have h3:B^(canon x).length≤B^((canon y).length - 1):=Nat.pow_le_pow_right (by decide) (by omega)
 omega
theorem zt:∀ (l:List Nat) (i:Nat),val (l.take (i+1))=val (l.take i)+B^i*l.getD i 0
 | [],i=>by simp [val]
 | d::l,0=>by simp [val]
 | d::l,i+1=>by
  have:=zt l i
  simp only [List.take_succ_cons,val,this,List.getD_cons_succ,Nat.pow_succ]
  rw [Nat.mul_add,Nat.add_assoc,← Nat.mul_assoc,Nat.mul_comm B (B^i)]
theorem zM{l:List Nat}(h:dig l)(i:Nat):l.getD i 0<B:=by
 by_cases hi:i<l.length
 ·have:=h l[i] (List.getElem_mem hi)
  simpa [List.getD,hi] using this
 ·simp [List.getD,List.getElem?_eq_none (Nat.le_of_not_lt hi)]
theorem xA:∀ (l:List Nat) (p d:Nat),p<l.length→val (l.set p d)+B^p*l.getD p 0=val l+B^p*d
 | [],p,d,h=>by simp at h
 | e::l,0,d,_=>by simp only [List.set_cons_zero,val,List.getD_cons_zero,Nat.pow_zero]; omega
 | e::l,p+1,d,h=>by
  have:=xA l p d (by simpa using h)
  have h2:=congrArg (B * ·) this
  simp only [Nat.mul_add,← Nat.mul_assoc] at h2
  simp only [List.set_cons_succ,val,List.getD_cons_succ,Nat.pow_succ,Nat.mul_comm (B^p) B]
  omega
theorem yz{l:List Nat}(h:dig l)(p:Nat){d:Nat}(hd:d<B):dig (l.set p d):=by
 intro e he
 rcases List.mem_or_eq_of_mem_set he with he | rfl
 ·exact h e he
 ·exact hd
theorem qX{l:List Nat}(h:dig l)(n:Nat):dig (l.take n):=fun e he=>h e (List.mem_of_mem_take he)
theorem uB{l:List Nat}(h:dig l)(n:Nat):dig (l.drop n):=fun e he=>h e (List.mem_of_mem_drop he)
theorem uS{l:List Nat}{n:Nat}(hv:val l<B^n){p:Nat}(hp:n≤p):l.getD p 0=0:=by
 rcases Nat.eq_zero_or_pos (l.getD p 0) with h | h
 ·exact h
 exfalso
 have h1:=zt l p
 have h2:val l=val (l.take (p+1))+B^(l.take (p+1)).length*val (l.drop (p+1)):=by rw [← zI,List.take_append_drop]
 have h3:B^p*1≤B^p*l.getD p 0:=Nat.mul_le_mul_left _ h
 have h4:B^n≤B^p:=Nat.pow_le_pow_right (by decide) hp
 omega
def padN(n x:Nat):List Nat:=canon x++List.replicate (n - (canon x).length) 0
theorem qY(n:Nat):val (List.replicate n 0)=0:=by
 induction n with
 | zero=>rfl
 | succ n ih=>simp [List.replicate_succ,val,ih]
theorem q9(n:Nat):dig (List.replicate n 0):=by
 intro d hd
 rw [List.mem_replicate] at hd
 rw [hd.2]; decide
theorem JR{l:List Nat}(h:dig l):l=padN l.length (val l):=by
 have ht:=qb h
 have hl:=congrArg List.length ht
 have:=qm l
 simp only [qU,List.length_take] at hl
 refine u2 h (j7.2 ⟨zk _,q9 _⟩) ?_ ?_
 ·simp only [padN,List.length_append,List.length_replicate]; omega
 ·rw [padN,zI,zm,qY]; omega
theorem Jv{l:List Nat}(h:dig l):tlen l=(canon (val l)).length:=by
 have hl:=congrArg List.length (qb h)
 have:=qm l
 simp only [qU,List.length_take] at hl
 omega
end Go.Nov
end
section
set_option maxRecDepth 20000
namespace Go.Nov
def qH(v y z:Nat):Nat→Nat→Nat→Nat
 | 0,q,_=>q
 | n+1,q,r=>if B≤q∨r*B+v<q*z then(if B≤r+y then q - 1 else qH v y z n (q - 1) (r+y)) else q
theorem QK{v y z top Q:Nat}(hQ:Q<B)(hT:Q*(y*B+z)≤top*B+v):∀ (n q r:Nat),q*y+r=top→Q≤q→Q≤qH v y z n q r
 | 0,q,r,_,h=>h
 | n+1,q,r,hi,h=>by
  simp only [qH]
  split
  ·rename_i hc
   have h1:Q≤q - 1:=by
    rcases hc with hc | hc
    ·omega
    ·have:Q≠q:=by
      rintro rfl
      have e:top*B=Q*y*B+r*B:=by rw [← hi,Nat.add_mul]
      have e2:Q*(y*B+z)=Q*y*B+Q*z:=by rw [Nat.mul_add,Nat.mul_assoc]
      omega
     omega
   split
   ·exact h1
   ·rcases Nat.eq_zero_or_pos q with h0 | h0
    ·subst h0
     have:Q=0:=by omega
     subst this
     exact Nat.zero_le _
    ·refine QK hQ hT n (q - 1) (r+y) ?_ h1
     have:q*y=(q - 1)*y+y:=by
      conv=>lhs; rw [show q=(q - 1)+1 by omega,Nat.add_mul,Nat.one_mul]
     omega
  ·exact h
theorem J0{v y z top:Nat}(hz:z<B):∀ (n q r:Nat),q*y+r=top→r<B→B≤r+n*y→(q≤B∨(q=B+1∧r+y<B)) →
  qH v y z n q r<B∧qH v y z n q r*(y*B+z)≤top*B+v
 | 0,q,r,hi,hr,hn,hq=>by omega
 | n+1,q,r,hi,hr,hn,hq=>by
  have hBB:B=1000000000:=rfl
  have e:top*B=q*y*B+r*B:=by rw [← hi,Nat.add_mul]
  simp only [qH]
  split
  ·rename_i hc
   have h0:0<q:=by
    rcases Nat.eq_zero_or_pos q with h0 | h0
    ·subst h0; simp at hc
    ·exact h0
   have hqy:q*y=(q - 1)*y+y:=by
    conv=>lhs; rw [show q=(q - 1)+1 by omega,Nat.add_mul,Nat.one_mul]
   split
   ·rename_i hb
    have hq1:q - 1<B:=by omega
    refine⟨hq1,?_⟩
    have e2:(q - 1)*(y*B+z)=(q - 1)*y*B+(q - 1)*z:=by rw [Nat.mul_add,Nat.mul_assoc]
    have e3:q*y*B=(q - 1)*y*B+y*B:=by rw [hqy,Nat.add_mul]
    have e4:(q - 1)*z≤B*B:=Nat.mul_le_mul (Nat.le_of_lt hq1) (Nat.le_of_lt hz)
    have e5:B*B≤(r+y)*B:=Nat.mul_le_mul_right _ hb
    rw [Nat.add_mul] at e5
    omega
   ·rename_i hb
    refine J0 hz n (q - 1) (r+y) (by omega) (by omega) ?_ (.inl (by omega))
    rw [Nat.add_mul] at hn
    omega
  ·rename_i hc
   have e2:q*(y*B+z)=q*y*B+q*z:=by rw [Nat.mul_add,Nat.mul_assoc]
   exact⟨by omega,by omega⟩
theorem zb7{W V T D S p:Nat}(hS:0<S)(hV1:D*S≤V)(hV2:V<(D+1)*S)(hW1:T*S≤W)(hD:B≤D)(hp:p<B)(hpT:p*D≤T):p≤W/V+1:=by
 have hBB:B=1000000000:=rfl
 have hV0:0<V:=Nat.lt_of_lt_of_le (Nat.mul_pos (by omega) hS) hV1
 rcases Nat.lt_or_ge (W/V+1) p with h | h
 ·exfalso
  have h1:W<(p - 1)*V:=by
   have:=Nat.lt_mul_div_succ W hV0
   have h2:V*(W/V+1)≤V*(p - 1):=Nat.mul_le_mul_left _ (by omega)
   rw [Nat.mul_comm (p - 1)]
   omega
  have h2:p*D*S≤T*S:=Nat.mul_le_mul_right _ hpT
  have h3:(p - 1)*V≤(p - 1)*((D+1)*S):=Nat.mul_le_mul_left _ (Nat.le_of_lt hV2)
  have h4:p*D*S<(p - 1)*(D+1)*S:=by
   rw [Nat.mul_assoc (p - 1)]; omega
  have h5:=Nat.lt_of_mul_lt_mul_right h4
  have h6:(p - 1)*(D+1)=(p - 1)*D+(p - 1):=by rw [Nat.mul_add,Nat.mul_one]
  have hp1:1≤p:=by
   have:0≤W/V:=Nat.zero_le _
   omega
  have h7:p*D=(p - 1)*D+D:=by
   have e:p=(p - 1)+1:=by omega
   conv=>lhs; rw [e,Nat.add_mul,Nat.one_mul]
  omega
 ·exact h
theorem Xu{W V T D S:Nat}(hS:0<S)(hV0:0<V)(hV1:D*S≤V)(hW2:W<(T+1)*S):W/V*D≤T:=by
 have h1:W/V*V≤W:=Nat.div_mul_le_self W V
 have h2:W/V*(D*S)≤W/V*V:=Nat.mul_le_mul_left _ hV1
 have h3:W/V*D*S<(T+1)*S:=by rw [Nat.mul_assoc]; omega
 have:=Nat.lt_of_mul_lt_mul_right h3
 omega
theorem KW{y z:Nat}(hy:0<y):B≤y*B+z:=by
 exact Nat.le_trans (Nat.le_mul_of_pos_left B hy) (Nat.le_add_right _ _)
theorem zaf{X v D S V W:Nat}(hV2:V<(D+1)*S)(hW1:(X*B+v)*S≤W)(hWV:W<V*B):X≤D:=by
 have h2:V*B<(D+1)*S*B:=Nat.mul_lt_mul_of_pos_right hV2 (by decide)
 rw [Nat.mul_assoc,Nat.mul_comm S B,← Nat.mul_assoc] at h2
 have h1:(X*B+v)*S<((D+1)*B)*S:=Nat.lt_of_le_of_lt hW1 (Nat.lt_trans hWV h2)
 have h3:=Nat.lt_of_mul_lt_mul_right h1
 have h4:X*B<(D+1)*B:=Nat.lt_of_le_of_lt (Nat.le_add_right _ _) h3
 exact Nat.le_of_lt_succ (Nat.lt_of_mul_lt_mul_right h4)
theorem zat{Q q r y z top v:Nat}(hQ:Q*(y*B+z)≤top*B+v)(hv:v<B)(hdm:q*y+r=top)(hr:r<y):Q≤q:=by
 have h1:Q*(y*B)≤Q*(y*B+z):=Nat.mul_le_mul_left _ (Nat.le_add_right _ _)
 have h2:Q*y*B<(top+1)*B:=by
  rw [Nat.mul_assoc,Nat.add_mul,Nat.one_mul]
  exact Nat.lt_of_le_of_lt (Nat.le_trans h1 hQ) (Nat.add_lt_add_left hv _)
 have h3:=Nat.lt_of_mul_lt_mul_right h2
 have h4:Q*y<(q+1)*y:=by
  rw [Nat.add_mul,Nat.one_mul]
  clear h1 h2 hQ
  omega
 exact Nat.le_of_lt_succ (Nat.lt_of_mul_lt_mul_right h4)
theorem Xx{q r y z top:Nat}(htop:top≤y*B+z)(hdm:q*y+r=top)(hr:r<y)(hz:z<B)(hy:B≤2*y):q≤B∨(q=B+1∧r+y<B):=by
 rcases Nat.lt_or_ge B q with h | h
 ·right
  have h1:(B+1)*y≤q*y:=Nat.mul_le_mul_right _ h
  have e1:(B+1)*y=y*B+y:=by rw [Nat.add_mul,Nat.one_mul,Nat.mul_comm]
  rcases Nat.lt_or_ge (B+1) q with h2 | h2
  ·exfalso
   have h3:(B+2)*y≤q*y:=Nat.mul_le_mul_right _ h2
   have e2:(B+2)*y=y*B+2*y:=by rw [Nat.add_mul,Nat.mul_comm B]
   omega
  ·have:q=B+1:=by omega
   subst this
   exact⟨rfl,by omega⟩
 ·exact .inl h
theorem Jo{W V S t u v y z:Nat}(hS:0<S)(hV1:(y*B+z)*S≤V)(hV2:V<(y*B+z+1)*S)(hW1:((t*B+u)*B+v)*S≤W)(hW2:W<((t*B+u)*B+v+1)*S)
  (hWV:W<V*B) (hz:z<B) (hv:v<B) (hy:B≤2*y) (hyB:y<B) (hy0:0<y) :
  W/V≤qH v y z 2 ((t*B+u)/y) ((t*B+u)%y)∧qH v y z 2 ((t*B+u)/y) ((t*B+u)%y)≤W/V+1∧qH v y z 2 ((t*B+u)/y) ((t*B+u)%y)<B∧t*B+u≤y*B+z:=by
 have hD:B≤y*B+z:=KW hy0
 have hV0:0<V:=Nat.lt_of_lt_of_le (Nat.mul_pos (Nat.lt_of_lt_of_le (by decide) hD) hS) hV1
 have htop:=zaf hV2 hW1 hWV
 have hQB:W/V<B:=Nat.div_lt_of_lt_mul hWV
 have hQD:=Xu (T:=(t*B+u)*B+v) hS hV0 hV1 hW2
 have hdm:(t*B+u)/y*y+(t*B+u)%y=t*B+u:=by rw [Nat.mul_comm]; exact Nat.div_add_mod _ y
 have hmod:(t*B+u)%y<y:=Nat.mod_lt _ hy0
 have hQq:=zat hQD hv hdm hmod
 have hq:=Xx htop hdm hmod hz hy
 have hrB:(t*B+u)%y<B:=Nat.lt_trans hmod hyB
 have hle:=J0 (v:=v) hz 2 _ _ hdm hrB (Nat.le_trans hy (Nat.le_add_left _ _)) hq
 exact⟨QK hQB hQD 2 _ _ hdm hQq,zb7 hS hV1 hV2 hW1 hD hle.1 hle.2,hle.1,htop⟩
end Go.Nov
end
