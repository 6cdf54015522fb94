/- The law returns true for every input, and each argument reads afterwards as it read before; no condition. -/
import Derived.Test.YtkagkpfmmpboaaaSxf
import Derived.KernelRfl
import Derived.SizedLaws
import Derived.ChangeArms
import Derived.Deep.Slices
import Derived.Carry
import Derived.LaidMore
import Derived.WideKeyElems2
import Derived.ProofKit
import Derived.OpenShut
import Derived.ReadAgain
import Derived.Test.YtkagkpfmmpboaaaRows
set_option linter.unusedVariables false
set_option linter.unusedSimpArgs false
set_option linter.unusedSectionVars false
section
namespace Go.Nov
open Go.Sx
abbrev EnvL:=List Fx×List Ch
def WZ(d:Option Int)(x:Ev):Bool:=match d with
 | none=>true
 | some d=>decide (x.date≤d)
def Ev.fx(x:Ev):Fx:=⟨x.name,x.date,x.value⟩
def Ev.ch(x:Ev):Ch:=⟨x.zb,x.name,x.date,x.first⟩
def qp(d:Option Int)(v:EnvL)(x:Ev):EnvL×Int:=
 if(decide (x.kind=0) || !WZ d x)=true then(v,0) else if x.kind=1 then putF v.1 v.2 x.fx else putC v.1 v.2 x.ch
def qj(d:Option Int):List Ev→EnvL→EnvL×Int
 | [],v=>(v,0)
 | x::r,v=>if(qp d v x).2≠0 then(([],[]),(qp d v x).2) else qj d r (qp d v x).1
def cutE(l:List Ev)(entry:Int):Nat:=l.findIdx fun e=>decide (entry<e.entry)
def zy(l:List Ev)(entry:Int)(d:Option Int):EnvL×Int:=
 if(SS.play ⟨[],[]⟩ l).isSome=false then(([],[]),8)
 else if entry<0∨1125899906842624<entry then(([],[]),2)
 else match SS.play ⟨[],[]⟩ (l.take (cutE l entry)) with
  | some s=>qj d s.lat ([],[])
  | none=>(([],[]),0)
theorem J8:∀ {a b:List Ev} {s:SS},s.play (a++b)=(s.play a).bind fun t=>t.play b
 | [],b,s=>rfl
 | e::a,b,s=>by
  simp only [List.cons_append,SS.play]
  split
  ·exact J8
  ·rfl
theorem ZK{l:List Ev}{s:SS}(h:(s.play l).isSome=true)(n:Nat):(s.play (l.take n)).isSome=true:=by
 rw [← List.take_append_drop n l,J8] at h
 cases hp:s.play (l.take n) with
 | some t=>rfl
 | none=>rw [hp] at h; cases h
theorem yH{d:Option Int}{l:List Ev}{i:Nat}(h:i<l.length)(v:EnvL):qj d (l.drop i) v=if(qp d v (l.getD i Ev.nil)).2≠0 then(([],[]),(qp d v (l.getD i Ev.nil)).2) else qj d (l.drop (i+1)) (qp d v (l.getD i Ev.nil)).1:=by
 rw [List.drop_eq_getElem_cons h,wP h]
 rfl
end Go.Nov
namespace Go.Nov
theorem bifO(x y:Bool):(bif x then true else y)=(x||y):=by cases x<;>rfl
theorem bifA(x y:Bool):(bif x then y else false)=(x&&y):=by cases x<;>rfl
end Go.Nov
namespace Go.Nov
def uz(l:List Ev)(tm d:Int):EnvL×Int:=if(zy l tm (some d)).2=0∧(d<0∨99999<d) then(([],[]),2) else zy l tm (some d)
def wi(l:List Ev)(id:Int):List Int×Int:=
 if(SS.play ⟨[],[]⟩ l).isSome=false then([],8) else if id<1∨(l.length:Int)<id then([],6)
 else(id::(l.filter fun e=>decide (e.target=id)).map Ev.id,0)
def intS(l:List Int):Go.Sx.AV:=.sl l.length 1 fun j _=>.int .i64 (l.getD j 0)
end Go.Nov
namespace Go.Nov
def intG(l:List Int):Nat→Nat→Go.Sx.AV:=fun j _=>.int .i64 (l.getD j 0)
theorem Xw{l:List Int}{x:Int}{g:Nat→Nat→Go.Sx.AV}(hg:Go.Sx.eqG l.length 1 g (intG l)):Go.Sx.eqG (l.length+1) 1 (Go.Sx.appG l.length g (Go.Sx.zg (Go.Sx.zh 1 [.int .i64 x]) 0)) (intG (l++[x])):=by
 intro j p hj hp
 obtain rfl:p=0:=by omega
 simp only [Go.Sx.appG,Go.Sx.zg,Go.Sx.zh]
 by_cases q:j<l.length
 ·rw [if_pos q,hg j 0 q (by omega)]
  simp only [intG,List.getD,List.getElem?_append_left q]
 ·rw [if_neg q]
  obtain rfl:j=l.length:=by omega
  simp [intG,List.getD]
def idsT(l:List Ev)(id:Int)(n:Nat):List Int:=id::((l.take n).filter fun e=>decide (e.target=id)).map Ev.id
theorem VJ{l:List Ev}{id:Int}{i:Nat}(h:i<l.length):idsT l id (i+1)=if(l.getD i Ev.nil).target=id then idsT l id i++[(l.getD i Ev.nil).id] else idsT l id i:=by
 unfold idsT
 rw [List.take_add_one,List.getElem?_eq_getElem h,wP h]
 simp only [Option.toList_some,List.filter_append,List.map_append,List.filter_cons,List.filter_nil]
 by_cases g:l[i].target=id
 ·simp [g]
 ·simp [g]
theorem X3(l:List Ev)(id:Int)(n:Nat):(idsT l id n).length≤n+1:=by
 unfold idsT
 simp only [List.length_cons,List.length_map]
 have h1:=List.length_filter_le (fun e:Ev=>decide (e.target=id)) (l.take n)
 have h2:=List.length_take_le n l
 omega
end Go.Nov
namespace Go.Nov
def lenE(v:EnvL):Prop:=v.1.length≤1000∧v.2.length≤1000
theorem Xb{d:Option Int}{v:EnvL}{x:Ev}(h:lenE v)(h0:(qp d v x).2=0):lenE (qp d v x).1:=by
 unfold qp at h0 ⊢
 split
 ·exact h
 ·rename_i g
  rw [if_neg g] at h0
  split
  ·rename_i k
   rw [if_pos k] at h0
   obtain⟨_,_,a3,a4⟩:=V3 h0
   rw [a4]; exact⟨a3,h.2⟩
  ·rename_i k
   rw [if_neg k] at h0
   obtain⟨_,_,a3,a4⟩:=V0 h0
   rw [a4]; exact⟨h.1,a3⟩
theorem J7{d:Option Int} : ∀ {l:List Ev} {v:EnvL},lenE v→lenE (qj d l v).1
 | [],v,h=>h
 | x::l,v,h=>by
  simp only [qj]
  split
  ·exact⟨Nat.zero_le _,Nat.zero_le _⟩
  ·rename_i g
   exact J7 (Xb h (by simpa using g))
theorem VI(l:List Ev)(tm:Int)(d:Option Int):lenE (zy l tm d).1:=by
 unfold zy
 split
 ·exact⟨Nat.zero_le _,Nat.zero_le _⟩
 ·split
  ·exact⟨Nat.zero_le _,Nat.zero_le _⟩
  ·split
   ·exact J7 ⟨Nat.zero_le _,Nat.zero_le _⟩
   ·exact⟨Nat.zero_le _,Nat.zero_le _⟩
end Go.Nov
end
section
set_option maxRecDepth 100000
open Go Go.Sx Go.Proofs Go.Nov
namespace Go.Proofs.Try
attribute [local simp] eqKV eqA eqA0 eqH eqB eqL eqL0
noncomputable def K25:List Go.Sx.Item:=[.code (Try.f25.body.getD .skip)]
theorem Vu{f:List Fx}{c:List Ch}{z:Int} : LeA (exp2 [.arr f.length 3 (fxG f),.arr c.length 4 (chG c)] [] (.tup [.agg [.osl 0 3 0 f.length,.osl 1 4 0 c.length],.int .i64 z])) (.tup [envA f c,.int .i64 z]):=by
 refine zR ?_
 simp [exp2,exp1,exp0,zo,frz1,qJ,ren0,eqA2,eqL1,envA,fxS,chS,k8]
theorem WW{f:List Fx}{c:List Ch}{z:Int} : new2 [.arr f.length 3 (fxG f),.arr c.length 4 (chG c)] [] (.tup [.agg [.osl 0 3 0 f.length,.osl 1 4 0 c.length],.int .i64 z]):=by
 simp only [new2,List.mem_cons,List.not_mem_nil,or_false,forall_eq_or_imp,forall_eq,new1,new0]
 refine⟨⟨fun _=> ?_,fun _=> ?_⟩,rfl⟩
 ·simp only [exp0,zo,frz1,qJ,List.getElem?_cons_zero,if_true,Zj]
  exact fun j o hj ho=>WO _ _ _ ho
 ·simp only [exp0,zo,frz1,qJ,List.getElem?_cons_succ,List.getElem?_cons_zero,if_true,Zj]
  exact fun j o hj ho=>WX _ _ _ ho
def Yl:Ctr:=ctrP true (fun p:(List Fx×List Ch)×Fx=>[envA p.1.1 p.1.2,p.2.av]) (fun p=>envP p.1∧qF p.2) (fun p r=>r=putF p.1.1 p.1.2 p.2) (fun _ (r:(List Fx×List Ch)×Int)=>(.tup [envA r.1.1 r.1.2,.int .i64 r.2],[]))
def XG:Ctr:=ctrP true (fun p:(List Fx×List Ch)×Ch=>[envA p.1.1 p.1.2,p.2.av]) (fun p=>envP p.1∧qG p.2) (fun p r=>r=putC p.1.1 p.1.2 p.2) (fun _ (r:(List Fx×List Ch)×Int)=>(.tup [envA r.1.1 r.1.2,.int .i64 r.2],[]))
theorem V5:zf Try.prog 27 Yl:=zf.frozen Uo (fun _ _ _ _=>WW) (fun _ _ _ _=>Vu)
theorem Va:zf Try.prog 28 XG:=zf.frozen YG (fun _ _ _ _=>WW) (fun _ _ _ _=>Vu)
theorem y2{f:List Fx}{c:List Ch}(h1:f.length<2^40)(h2:c.length<2^40)(h3:∀ x∈f,qF x)(h4:∀ x∈c,qG x):envP (f,c):=by
 refine⟨h1,h2,fun j hj=>h3 _ ?_,fun j hj=>h4 _ ?_⟩
 ·have:j<f.length:=hj
  simp [List.getD,this]
 ·have:j<c.length:=hj
  simp [List.getD,this]
theorem Jn{f:List Fx}{c:List Ch}(h:envP (f,c)):(∀ x∈f,qF x)∧∀ x∈c,qG x:=by
 refine⟨fun x hx=> ?_,fun x hx=> ?_⟩
 ·obtain⟨j,hj,rfl⟩:=List.mem_iff_getElem.1 hx
  have:=h.2.2.1 j hj
  simpa [List.getD,hj] using this
 ·obtain⟨j,hj,rfl⟩:=List.mem_iff_getElem.1 hx
  have:=h.2.2.2 j hj
  simpa [List.getD,hj] using this
theorem uA{f:List Fx}{c:List Ch}{x:Fx}(h:envP (f,c))(hx:qF x)(hp:(putF f c x).2=0):envP (putF f c x).1:=by
 obtain⟨a1,a2,a3,a4⟩:=V3 hp
 rw [a4]
 obtain⟨m1,m2⟩:=Jn h
 refine y2 (Nat.lt_of_le_of_lt a3 (by decide)) h.2.1 (fun y hy=> ?_) m2
 rcases xM hy with rfl | g
 ·exact hx
 ·exact m1 _ g
theorem yF{f:List Fx}{c:List Ch}{x:Ch}(h:envP (f,c))(hx:qG x)(hp:(putC f c x).2=0):envP (putC f c x).1:=by
 obtain⟨a1,a2,a3,a4⟩:=V0 hp
 rw [a4]
 obtain⟨m1,m2⟩:=Jn h
 refine y2 h.1 (Nat.lt_of_le_of_lt a3 (by decide)) m1 (fun y hy=> ?_)
 rcases xM hy with rfl | g
 ·exact hx
 ·exact m2 _ g
def kv1C:Ctr:=ctrP true (fun e:Ev=>[e.av]) (fun _=>True) (fun e r=>r=true) (fun _ (r:Bool)=>(.bool r,[]))
theorem za7:zf Try.prog 17 kv1C:=by
 refine zn (fn:=Try.f17) (c:=Try.f17.body.getD .skip) rfl rfl rfl fun e hp O w0 Q hq=> ?_
 replace hq:=hq _ rfl
 refine zc.run hmix zA [] 400 (T:=.leaf (.ret [.bool true] [.box [.int .u8 e.kind,.int .i64 e.id,.int .i64 e.entry,.int .i64 e.target,.int .i64 e.date,.str e.zb,.str e.name,.str e.value,.bool e.first]])) (by kernel_rfl) ?_
 simp only [Tree.holds,zd]
 exact RetR.scal hq rfl rfl
def kp1C:Ctr:=ctrT false false (fun p:Ev×Int=>[p.1.av,.ptr 0 0]) (fun p=>[.box [.int .i64 p.2]]) (fun _=>True) (fun p r=>r=decide (p.1.date≤p.2)) (fun p (r:Bool)=>(.bool r,[.box [.int .i64 p.2]]))
def kk1C:Ctr:=ctrT false false (fun p:Ev×Int=>[p.1.av,.ptr 0 0]) (fun p=>[.box [.int .i64 p.2]]) (fun _=>True) (fun p r=>r=decide (p.2<p.1.entry)) (fun p (r:Bool)=>(.bool r,[.box [.int .i64 p.2]]))
theorem zai:zf Try.prog 18 kp1C:=by
 refine ja (fn:=Try.f18) (c:=Try.f18.body.getD .skip) rfl rfl rfl (fun h=>by cases h) fun p hp O w0 σ0 Q hl0 hq=> ?_
 obtain⟨e,d⟩:=p
 replace hq:=hq _ rfl
 refine zc.run hmix zA [] 400 (T:=.leaf (.ret [.bool (decide (Ev.date e≤d))] [.box [.int .i64 d],.box [.int .u8 e.kind,.int .i64 e.id,.int .i64 e.entry,.int .i64 e.target,.int .i64 e.date,.str e.zb,.str e.name,.str e.value,.bool e.first]])) (by kernel_rfl) ?_
 simp only [Tree.holds,zd]
 exact RetR.keep [0] rfl rfl (by show ∀ j,j<1→_; decide) rfl hq (by simp [resV,exp2,exp1,exp0,ren0,eqA2]) (by simp [expH,expB,exp1,exp0,ren0]) rfl
theorem zah:zf Try.prog 26 kk1C:=by
 refine ja (fn:=Try.f26) (c:=Try.f26.body.getD .skip) rfl rfl rfl (fun h=>by cases h) fun p hp O w0 σ0 Q hl0 hq=> ?_
 obtain⟨e,d⟩:=p
 replace hq:=hq _ rfl
 refine zc.run hmix zA [] 400 (T:=.leaf (.ret [.bool (decide (d<Ev.entry e))] [.box [.int .i64 d],.box [.int .u8 e.kind,.int .i64 e.id,.int .i64 e.entry,.int .i64 e.target,.int .i64 e.date,.str e.zb,.str e.name,.str e.value,.bool e.first]])) (by kernel_rfl) ?_
 simp only [Tree.holds,zd]
 exact RetR.keep [0] rfl rfl (by show ∀ j,j<1→_; decide) rfl hq (by simp [resV,exp2,exp1,exp0,ren0,eqA2]) (by simp [expH,expB,exp1,exp0,ren0]) rfl
def SIe(l:List Ev)(i:Nat):KV:=[(0,evS l),(1,.fn 26 [] [.ptr 0 0]),(7,.int .i64 (l.length:Int)),(8,.int .i64 (i:Int))]
def ixEC:Ctr:=ctrT false false (fun p:List Ev×Int=>[evS p.1,.fn 26 [] [.ptr 0 0]]) (fun p=>[.box [.int .i64 p.2]]) (fun p=>p.1.length<2^40) (fun p r=>r=idxB (fun x=>decide (p.2<x.entry)) p.1) (fun p (r:Int)=>(.int .i64 r,[.box [.int .i64 p.2]]))
noncomputable def GIe:Nat→Option Ctr:=fun f=>if f=26 then some (kk1C) else none
theorem XM:∀ g c,GIe g=some c→zf Try.prog g c:=okIf zah (zx)
theorem KC:zf Try.prog 25 ixEC:=by
 refine ja (fn:=Try.f25) (c:=Try.f25.body.getD .skip) rfl rfl rfl (fun h=>by cases h) fun p hl O w0 σ0 Q hl0 hq=> ?_
 obtain⟨l,x⟩:=p
 replace hq:=hq _ rfl
 simp only at hq hl
 refine zc.run hmix XM [0,1,7,8] 400 (T:=.leaf (.loop (Prod.fst (lps K25 0)) (Prod.snd (lps K25 0)) [(0,.sl l.length 9 (evG l)),(1,.fn 26 [] [.ptr 0 0]),(7,.int .i64 l.length),(8,.int .i64 0)] [.box [.int .i64 x]])) (by kernel_rfl) ?_
 simp only [Tree.holds,zd]
 have fin:∀ (i:Int) (h rest:Heap),i=idxB (fun y:Ev=>decide (x<y.entry)) l→h = .box [.int .i64 x]::rest→RetR ixEC 1 Q [.int .i64 i] h:=by
  intro i h rest hi2 hh
  subst hh
  rw [← hi2] at hq
  exact RetR.keep [0] rfl (by simp) (by show ∀ j,j<1→_; decide) rfl hq (by simp [resV,exp2,exp1,exp0,ren0,eqA2]) (by simp [expH,expB,exp1,exp0,ren0]) rfl
 refine zc.loop (ι:={i:Nat // i≤l.length∧∀ j,j<i→decide (x<(l.getD j Ev.nil).entry)=false}) (fun i=>SIe l i.1) (fun _=>[.box [.int .i64 x]]) (fun i=>l.length - i.1) ⟨0,Nat.zero_le _,fun j hj=>by omega⟩ 0 ?_ ?_ (by kernel_rfl)
 ·exact⟨by simp [SIe,evS,za],by simp,by kernel_rfl,Nat.le_refl _⟩
 ·rintro⟨i,hil,hib⟩
  refine zc.run hmix XM [0,1,7,8] 400 (T:=.ite (decide ((↑i:Int)<l.length)) (.side ((0:Int)≤i∧(↑i:Int)<l.length) (.ex (fun(x_1:Ev×Int)=>eqL [AV.agg [AV.int .u8 (Ev.kind (l.getD (↑i:Int).toNat Ev.nil)),AV.int .i64 (Ev.id (l.getD (↑i:Int).toNat Ev.nil)),AV.int .i64 (Ev.entry (l.getD (↑i:Int).toNat Ev.nil)),AV.int .i64 (Ev.target (l.getD (↑i:Int).toNat Ev.nil)),AV.int .i64 (Ev.date (l.getD (↑i:Int).toNat Ev.nil)),AV.str (Ev.zb (l.getD (↑i:Int).toNat Ev.nil)),AV.str (Ev.name (l.getD (↑i:Int).toNat Ev.nil)),AV.str (Ev.value (l.getD (↑i:Int).toNat Ev.nil)),AV.bool (Ev.first (l.getD (↑i:Int).toNat Ev.nil))],AV.ptr 0 0] [AV.agg [AV.int .u8 x_1.1.kind,AV.int .i64 x_1.1.id,AV.int .i64 x_1.1.entry,AV.int .i64 x_1.1.target,AV.int .i64 x_1.1.date,AV.str x_1.1.zb,AV.str x_1.1.name,AV.str x_1.1.value,AV.bool x_1.1.first],AV.ptr 0 0]∧eqH [.box [AV.int .i64 x]] [.box [AV.int .i64 x_1.2]]∧1=1∧True) fun n=>.all (fun(r:Bool)=>r=decide (n.2<Ev.entry n.1)) fun n_1=>.ite n_1 (.leaf (.ret [.int .i64 i] [.box [.int .i64 n.2]])) (.side (inR .i64 ((↑i:Int)+(1:Int))) (.leaf (.back 0 [(0,.sl l.length 9 (evG l)),(1,.fn 26 [] [.ptr 0 0]),(7,.int .i64 l.length),(8,.int .i64 ((↑i:Int)+(1:Int)))] [.box [.int .i64 n.2]]))))) (.leaf (.ret [.int .i64 (-1:Int)] [.box [.int .i64 x]]))) (by kernel_rfl) ?_
  simp only [Tree.holds,zd,inR,lo,hi,Int.toNat_natCast]
  refine⟨fun hlt=> ?_,fun hge=> ?_⟩
  ·have hlt:i<l.length:=by have:=of_decide_eq_true hlt; omega
   refine⟨by omega,fun _=>⟨(l.getD i Ev.nil,x),⟨by simp [Ev.av],by simp,trivial,trivial⟩,⟨_,rfl⟩,?_⟩⟩
   rintro _ rfl
   refine⟨fun h=> ?_,fun h=>⟨by omega,fun _=> ?_⟩⟩
   ·exact fin _ _ _ (xw hlt h hib).symm rfl
   ·rw [if_pos trivial]
    refine⟨⟨i+1,hlt,fun j hj=> ?_⟩,by show l.length - (i+1)<l.length - i; omega,by simp [SIe,evS,za],by simp,by kernel_rfl,Nat.le_refl _⟩
    rcases Nat.lt_or_ge j i with h1 | h1
    ·exact hib j h1
    ·have:j=i:=by omega
     rw [this]; exact h
  ·have hge:i=l.length:=by have:=of_decide_eq_false hge; omega
   subst hge
   exact fin _ _ _ (vf (p:=fun y:Ev=>decide (x<y.entry)) hib).symm rfl
noncomputable def K16:List Go.Sx.Item:=[.code (Try.f16.body.getD .skip)]
theorem xx{l:List Ev}{n:Nat}(h:n≤l.length):eqG n 9 (zg (evG l) 0) (evG (l.take n)):=by
 intro j o hj ho
 simp only [zg,evG,Nat.zero_add]
 congr 1
 simp only [List.getD]
 rw [List.getElem?_take,if_pos hj]
theorem Vq{l:List Ev}{tm:Int} : (if idxB (fun x:Ev=>decide (tm<x.entry)) l<0 then(l.length:Int) else idxB (fun x:Ev=>decide (tm<x.entry)) l)=(cutE l tm:Int)∧cutE l tm≤l.length:=by
 unfold idxB cutE
 have h:=List.findIdx_le_length (xs:=l) (p:=fun e=>decide (tm<e.entry))
 refine⟨?_,h⟩
 split
 ·rw [if_neg (by omega)]
 ·rw [if_pos (by omega)]; omega
def jE(l:List Ev):Prop:=∀ e∈l,zp e
theorem VO{l:List Ev}{i:Nat}{x:Ev}(h:jE l)(hx:zp x):jE (l.set i x):=fun e he=>by
 rcases List.mem_or_eq_of_mem_set he with h1 | h1
 ·exact h e h1
 ·rw [h1]; exact hx
theorem Kx{s:SS}{e:Ev}(h:jE s.lat)(he:zp e):jE (s.add e).lat:=by
 have hn:zp Ev.nil:=⟨by decide,by decide,by decide⟩
 have app:∀ {l:List Ev} {x:Ev},jE l→zp x→jE (l++[x]):=fun {l x} hl hx y hy=>by
  rcases List.mem_append.1 hy with g | g
  ·exact hl y g
  ·rw [List.mem_singleton.1 g]; exact hx
 unfold SS.add
 split
 ·exact h
 ·split
  ·refine app ?_ hn
   unfold SS.cor
   split
   ·refine VO h ?_
    unfold SS.fixed
    split
    ·exact hn
    ·have:=vp h (e.target.toNat - 1)
     exact⟨this.1,this.2.1,he.2.2⟩
   ·exact h
  ·exact app h he
theorem kL:∀ {l:List Ev} {s t:SS},jE s.lat→jE l→s.play l=some t→jE t.lat
 | [],s,t,h,_,hp=>by cases hp; exact h
 | e::l,s,t,h,hl,hp=>by
  simp only [SS.play] at hp
  split at hp
  ·exact kL (Kx h (hl e (by simp))) (fun x hx=>hl x (by simp [hx])) hp
  ·cases hp
def wY(lat:List Ev)(i:Nat):KV:=[(2,.fn 17 [] []),(6,.ptr 2 0),(11,.ptr 7 0),(46,.osl 6 9 0 lat.length),(47,.int .i64 (lat.length:Int)),(48,.int .i64 i),(71,.undef),(72,.undef),(73,.undef),(74,.undef)]
def jy(lat:List Ev)(f:List Fx)(c:List Ch):Heap:=[.dead,.dead,.box [.nils,.nils],.dead,.dead,.dead,.arr lat.length 9 (evG lat),.box [fxS f,chS c]]
def knVC:Ctr:=ctrP false (fun p:List Ev×Int=>[.agg [evS p.1],.int .i64 p.2,.fn 17 [] []]) (fun p=>evP p.1) (fun p r=>r=zy p.1 p.2 none) (fun _ (r:EnvL×Int)=>(.tup [envA r.1.1 r.1.2,.int .i64 r.2],[]))
noncomputable def GKnV:Nat→Option Ctr:=fun f=>if f=13 then some (kA) else if f=25 then some (ixEC) else if f=14 then some (repC) else if f=17 then some (kv1C) else if f=27 then some (Yl) else if f=28 then some (XG) else none
theorem Vz:∀ g c,GKnV g=some c→zf Try.prog g c:=okIf k9 (okIf KC (okIf Qk (okIf za7 (okIf V5 (okIf Va (zx))))))
theorem Yc{O:Nat→Prop}{w0:World}{Q:AV×Heap→Prop}{Hs:Nat→KV→Heap→Prop}(lat:List Ev)(hs:jE lat)(hl:lat.length≤1000)
  (hq:Q (.tup [envA (qj none lat ([],[])).1.1 (qj none lat ([],[])).1.2,.int .i64 (qj none lat ([],[])).2],[])) :
  zc Try.prog Try.f16 O 0 w0 [] Hs (RetR knVC 0 Q) (.code (.loop (lps K16 0).1)::(lps K16 0).2) (mk Try.f16.ntmps (wY lat 0) (jy lat [] [])):=by
 refine zc.loop (ι:={p:Nat×EnvL // p.1≤lat.length∧envP p.2∧qj none (lat.drop p.1) p.2=qj none lat ([],[])}) (fun p=>wY lat p.1.1) (fun p=>jy lat p.1.2.1 p.1.2.2) (fun p=>lat.length - p.1.1) ⟨(0,([],[])),Nat.zero_le _,y2 (by decide) (by decide) (by simp) (by simp),rfl⟩ 0 ?_ ?_ (by kernel_rfl)
 ·exact⟨by simp [wY],by simp [jy,fxS,chS,za],by kernel_rfl,by simp [jy]⟩
 ·rintro⟨⟨i,f,c⟩,hil,hep,hfo⟩
  simp only at hil hep hfo
  refine zc.run hmix Vz [2,6,11,46,47,48,71,72,73,74] 400 (T:=.ite (decide ((↑i:Int)<lat.length)) (.side ((0:Int)≤i∧(↑i:Int)<lat.length) (.ex (fun(x:Ev)=>decide (Ev.kind (lat.getD (0+Int.toNat (↑i:Int)) Ev.nil)=(0:Int))=false→eqL [AV.agg [AV.int .u8 (Ev.kind (lat.getD (0+Int.toNat (↑i:Int)) Ev.nil)),AV.int .i64 (Ev.id (lat.getD (0+Int.toNat (↑i:Int)) Ev.nil)),AV.int .i64 (Ev.entry (lat.getD (0+Int.toNat (↑i:Int)) Ev.nil)),AV.int .i64 (Ev.target (lat.getD (0+Int.toNat (↑i:Int)) Ev.nil)),AV.int .i64 (Ev.date (lat.getD (0+Int.toNat (↑i:Int)) Ev.nil)),AV.str (Ev.zb (lat.getD (0+Int.toNat (↑i:Int)) Ev.nil)),AV.str (Ev.name (lat.getD (0+Int.toNat (↑i:Int)) Ev.nil)),AV.str (Ev.value (lat.getD (0+Int.toNat (↑i:Int)) Ev.nil)),AV.bool (Ev.first (lat.getD (0+Int.toNat (↑i:Int)) Ev.nil))]] [AV.agg [AV.int .u8 x.kind,AV.int .i64 x.id,AV.int .i64 x.entry,AV.int .i64 x.target,AV.int .i64 x.date,AV.str x.zb,AV.str x.name,AV.str x.value,AV.bool x.first]]∧True) fun n=>.all (fun(x:Bool)=>decide (Ev.kind (lat.getD (0+Int.toNat (↑i:Int)) Ev.nil)=(0:Int))=false→x=true) fun n=>.ite (bif decide (Ev.kind (lat.getD (0+Int.toNat (↑i:Int)) Ev.nil)=(0:Int)) then true else !n) (.ite false (.leaf (.ret [.agg [.nils,.nils],.int .i64 0] [.dead,.dead,.box [.nils,.nils],.dead,.dead,.dead,.arr lat.length 9 (evG lat),.box [.sl f.length 3 (fxG f),.sl c.length 4 (chG c)],.box [.int .u8 (Ev.kind (lat.getD (0+Int.toNat (↑i:Int)) Ev.nil)),.int .i64 (Ev.id (lat.getD (0+Int.toNat (↑i:Int)) Ev.nil)),.int .i64 (Ev.entry (lat.getD (0+Int.toNat (↑i:Int)) Ev.nil)),.int .i64 (Ev.target (lat.getD (0+Int.toNat (↑i:Int)) Ev.nil)),.int .i64 (Ev.date (lat.getD (0+Int.toNat (↑i:Int)) Ev.nil)),.str (Ev.zb (lat.getD (0+Int.toNat (↑i:Int)) Ev.nil)),.str (Ev.name (lat.getD (0+Int.toNat (↑i:Int)) Ev.nil)),.str (Ev.value (lat.getD (0+Int.toNat (↑i:Int)) Ev.nil)),.bool (Ev.first (lat.getD (0+Int.toNat (↑i:Int)) Ev.nil))]])) (.side (inR .i64 ((↑i:Int)+(1:Int))) (.leaf (.back 0 [(2,.fn 17 [] []),(6,.ptr 2 0),(11,.ptr 7 0),(46,.osl 6 9 0 lat.length),(47,.int .i64 lat.length),(48,.int .i64 ((↑i:Int)+(1:Int))),(71,.undef),(72,.undef),(73,.undef),(74,.undef)] [.dead,.dead,.box [.nils,.nils],.dead,.dead,.dead,.arr lat.length 9 (evG lat),.box [.sl f.length 3 (fxG f),.sl c.length 4 (chG c)],.box [.int .u8 (Ev.kind (lat.getD (0+Int.toNat (↑i:Int)) Ev.nil)),.int .i64 (Ev.id (lat.getD (0+Int.toNat (↑i:Int)) Ev.nil)),.int .i64 (Ev.entry (lat.getD (0+Int.toNat (↑i:Int)) Ev.nil)),.int .i64 (Ev.target (lat.getD (0+Int.toNat (↑i:Int)) Ev.nil)),.int .i64 (Ev.date (lat.getD (0+Int.toNat (↑i:Int)) Ev.nil)),.str (Ev.zb (lat.getD (0+Int.toNat (↑i:Int)) Ev.nil)),.str (Ev.name (lat.getD (0+Int.toNat (↑i:Int)) Ev.nil)),.str (Ev.value (lat.getD (0+Int.toNat (↑i:Int)) Ev.nil)),.bool (Ev.first (lat.getD (0+Int.toNat (↑i:Int)) Ev.nil))]])))) (.ite (decide (Ev.kind (lat.getD (0+Int.toNat (↑i:Int)) Ev.nil)=(1:Int))) (.ex (fun(x:(List Fx×List Ch)×Fx)=>eqL [AV.agg [AV.sl f.length 3 (fxG f),AV.sl c.length 4 (chG c)],AV.agg [AV.str (Ev.name (lat.getD (0+Int.toNat (↑i:Int)) Ev.nil)),AV.int .i64 (Ev.date (lat.getD (0+Int.toNat (↑i:Int)) Ev.nil)),AV.str (Ev.value (lat.getD (0+Int.toNat (↑i:Int)) Ev.nil))]] [AV.agg [AV.sl x.1.1.length 3 (fxG x.1.1),AV.sl x.1.2.length 4 (chG x.1.2)],AV.agg [AV.str x.2.name,AV.int .i64 x.2.date,AV.str x.2.value]]∧envP x.1∧qF x.2) fun n=>.all (fun(r:(List Fx×List Ch)×Int)=>r=putF n.1.1 n.1.2 n.2) fun n=>.ite (!decide (n.2=0)) (.leaf (.ret [.agg [.nils,.nils],.int .i64 n.2] [.dead,.dead,.box [.nils,.nils],.dead,.dead,.dead,.arr lat.length 9 (evG lat),.box [.sl n.1.1.length 3 (fxG n.1.1),.sl n.1.2.length 4 (chG n.1.2)],.box [.int .u8 (Ev.kind (lat.getD (0+Int.toNat (↑i:Int)) Ev.nil)),.int .i64 (Ev.id (lat.getD (0+Int.toNat (↑i:Int)) Ev.nil)),.int .i64 (Ev.entry (lat.getD (0+Int.toNat (↑i:Int)) Ev.nil)),.int .i64 (Ev.target (lat.getD (0+Int.toNat (↑i:Int)) Ev.nil)),.int .i64 (Ev.date (lat.getD (0+Int.toNat (↑i:Int)) Ev.nil)),.str (Ev.zb (lat.getD (0+Int.toNat (↑i:Int)) Ev.nil)),.str (Ev.name (lat.getD (0+Int.toNat (↑i:Int)) Ev.nil)),.str (Ev.value (lat.getD (0+Int.toNat (↑i:Int)) Ev.nil)),.bool (Ev.first (lat.getD (0+Int.toNat (↑i:Int)) Ev.nil))]])) (.side (inR .i64 ((↑i:Int)+(1:Int))) (.leaf (.back 0 [(2,.fn 17 [] []),(6,.ptr 2 0),(11,.ptr 7 0),(46,.osl 6 9 0 lat.length),(47,.int .i64 lat.length),(48,.int .i64 ((↑i:Int)+(1:Int))),(71,.undef),(72,.undef),(73,.undef),(74,.undef)] [.dead,.dead,.box [.nils,.nils],.dead,.dead,.dead,.arr lat.length 9 (evG lat),.box [.sl n.1.1.length 3 (fxG n.1.1),.sl n.1.2.length 4 (chG n.1.2)],.box [.int .u8 (Ev.kind (lat.getD (0+Int.toNat (↑i:Int)) Ev.nil)),.int .i64 (Ev.id (lat.getD (0+Int.toNat (↑i:Int)) Ev.nil)),.int .i64 (Ev.entry (lat.getD (0+Int.toNat (↑i:Int)) Ev.nil)),.int .i64 (Ev.target (lat.getD (0+Int.toNat (↑i:Int)) Ev.nil)),.int .i64 (Ev.date (lat.getD (0+Int.toNat (↑i:Int)) Ev.nil)),.str (Ev.zb (lat.getD (0+Int.toNat (↑i:Int)) Ev.nil)),.str (Ev.name (lat.getD (0+Int.toNat (↑i:Int)) Ev.nil)),.str (Ev.value (lat.getD (0+Int.toNat (↑i:Int)) Ev.nil)),.bool (Ev.first (lat.getD (0+Int.toNat (↑i:Int)) Ev.nil))]])))) (.ex (fun(x:(List Fx×List Ch)×Ch)=>eqL [AV.agg [AV.sl f.length 3 (fxG f),AV.sl c.length 4 (chG c)],AV.agg [AV.str (Ev.zb (lat.getD (0+Int.toNat (↑i:Int)) Ev.nil)),AV.str (Ev.name (lat.getD (0+Int.toNat (↑i:Int)) Ev.nil)),AV.int .i64 (Ev.date (lat.getD (0+Int.toNat (↑i:Int)) Ev.nil)),AV.bool (Ev.first (lat.getD (0+Int.toNat (↑i:Int)) Ev.nil))]] [AV.agg [AV.sl x.1.1.length 3 (fxG x.1.1),AV.sl x.1.2.length 4 (chG x.1.2)],AV.agg [AV.str x.2.zb,AV.str x.2.name,AV.int .i64 x.2.date,AV.bool x.2.first]]∧envP x.1∧qG x.2) fun n=>.all (fun(r:(List Fx×List Ch)×Int)=>r=putC n.1.1 n.1.2 n.2) fun n=>.ite (!decide (n.2=0)) (.leaf (.ret [.agg [.nils,.nils],.int .i64 n.2] [.dead,.dead,.box [.nils,.nils],.dead,.dead,.dead,.arr lat.length 9 (evG lat),.box [.sl n.1.1.length 3 (fxG n.1.1),.sl n.1.2.length 4 (chG n.1.2)],.box [.int .u8 (Ev.kind (lat.getD (0+Int.toNat (↑i:Int)) Ev.nil)),.int .i64 (Ev.id (lat.getD (0+Int.toNat (↑i:Int)) Ev.nil)),.int .i64 (Ev.entry (lat.getD (0+Int.toNat (↑i:Int)) Ev.nil)),.int .i64 (Ev.target (lat.getD (0+Int.toNat (↑i:Int)) Ev.nil)),.int .i64 (Ev.date (lat.getD (0+Int.toNat (↑i:Int)) Ev.nil)),.str (Ev.zb (lat.getD (0+Int.toNat (↑i:Int)) Ev.nil)),.str (Ev.name (lat.getD (0+Int.toNat (↑i:Int)) Ev.nil)),.str (Ev.value (lat.getD (0+Int.toNat (↑i:Int)) Ev.nil)),.bool (Ev.first (lat.getD (0+Int.toNat (↑i:Int)) Ev.nil))]])) (.side (inR .i64 ((↑i:Int)+(1:Int))) (.leaf (.back 0 [(2,.fn 17 [] []),(6,.ptr 2 0),(11,.ptr 7 0),(46,.osl 6 9 0 lat.length),(47,.int .i64 lat.length),(48,.int .i64 ((↑i:Int)+(1:Int))),(71,.undef),(72,.undef),(73,.undef),(74,.undef)] [.dead,.dead,.box [.nils,.nils],.dead,.dead,.dead,.arr lat.length 9 (evG lat),.box [.sl n.1.1.length 3 (fxG n.1.1),.sl n.1.2.length 4 (chG n.1.2)],.box [.int .u8 (Ev.kind (lat.getD (0+Int.toNat (↑i:Int)) Ev.nil)),.int .i64 (Ev.id (lat.getD (0+Int.toNat (↑i:Int)) Ev.nil)),.int .i64 (Ev.entry (lat.getD (0+Int.toNat (↑i:Int)) Ev.nil)),.int .i64 (Ev.target (lat.getD (0+Int.toNat (↑i:Int)) Ev.nil)),.int .i64 (Ev.date (lat.getD (0+Int.toNat (↑i:Int)) Ev.nil)),.str (Ev.zb (lat.getD (0+Int.toNat (↑i:Int)) Ev.nil)),.str (Ev.name (lat.getD (0+Int.toNat (↑i:Int)) Ev.nil)),.str (Ev.value (lat.getD (0+Int.toNat (↑i:Int)) Ev.nil)),.bool (Ev.first (lat.getD (0+Int.toNat (↑i:Int)) Ev.nil))]]))))))) (.leaf (.ret [.agg [.sl f.length 3 (fxG f),.sl c.length 4 (chG c)],.int .i64 0] [.dead,.dead,.box [.sl f.length 3 (fxG f),.sl c.length 4 (chG c)],.dead,.dead,.dead,.arr lat.length 9 (evG lat),.box [.sl f.length 3 (fxG f),.sl c.length 4 (chG c)]]))) (by kernel_rfl) ?_
  simp only [Tree.holds,zd,inR,lo,hi,Int.toNat_natCast,Nat.zero_add]
  have cont:∀ (v':EnvL) (kv:KV) (h:Heap),envP v'→qj none (lat.drop (i+1)) v'=qj none lat ([],[])→i<lat.length→LeK 0 Try.f16.ntmps kv h (wY lat (i+1)) (jy lat v'.1 v'.2) →
    ∃ x':{p:Nat×EnvL // p.1≤lat.length∧envP p.2∧qj none (lat.drop p.1) p.2=qj none lat ([],[])},lat.length - x'.1.1<lat.length - i∧LeK 0 Try.f16.ntmps kv h (wY lat x'.1.1) (jy lat x'.1.2.1 x'.1.2.2):=
   fun v' kv h g1 g2 hlt g3=>⟨⟨(i+1,v'),hlt,g1,g2⟩,by show lat.length - (i+1)<lat.length - i; omega,g3⟩
  refine⟨fun hlt=> ?_,fun hge=> ?_⟩
  ·have hlt:i<lat.length:=by have:=of_decide_eq_true hlt; omega
   refine⟨by omega,fun _=> ?_⟩
   rw [yH hlt] at hfo
   have hsx:=vp hs i
   generalize lat.getD i Ev.nil=x at hfo hsx ⊢
   refine⟨x,fun _=>⟨by simp [Ev.av],trivial⟩,⟨true,fun _=>rfl⟩,?_⟩
   intro b hb
   have hkb:(bif decide (x.kind=0) then true else !b)=(decide (x.kind=0) || !WZ none x):=by
    cases hd:decide (x.kind=0) with
    | true=>rfl
    | false=>rw [hb hd]; rfl
   rw [hkb]
   refine⟨fun ht=>⟨fun g=>(by cases g),fun _=>⟨by omega,fun _=> ?_⟩⟩,fun ht=>⟨fun hk=> ?_,fun hk=> ?_⟩⟩
   ·rw [if_pos trivial]
    have hst:qp none (f,c) x=((f,c),0):=by unfold qp; rw [if_pos ht]
    rw [hst,if_neg (by simp)] at hfo
    exact cont (f,c) _ _ hep hfo hlt ⟨by simp [wY],by simp [jy,fxS,chS,za],by kernel_rfl,by simp [jy]⟩
   ·have hst:qp none (f,c) x=putF f c x.fx:=by unfold qp; rw [if_neg (by rw [ht]; decide),if_pos (of_decide_eq_true hk)]
    refine⟨((f,c),x.fx),⟨by simp [Ev.fx,za],hep,hsx.2⟩,⟨_,rfl⟩,?_⟩
    rintro _ rfl
    dsimp only
    rw [hst] at hfo
    refine⟨fun h=> ?_,fun h=>⟨by omega,fun _=> ?_⟩⟩
    ·have h:(putF f c x.fx).2≠0:=by simpa using h
     rw [if_pos h] at hfo
     rw [← hfo] at hq
     exact RetR.out0 hq (fun h=>by cases h) (by simp [resV,exp2,exp1,exp0,ren0,eqA2,eqL1,envA,fxS,chS,za])
    ·have h:(putF f c x.fx).2=0:=by simpa using h
     rw [if_neg (by simpa using h)] at hfo
     rw [if_pos trivial]
     exact cont _ _ _ (uA hep (show qF x.fx from hsx.2) h) hfo hlt ⟨by simp [wY],by simp [jy,fxS,chS,za],by kernel_rfl,by simp [jy]⟩
   ·have hst:qp none (f,c) x=putC f c x.ch:=by unfold qp; rw [if_neg (by rw [ht]; decide),if_neg (of_decide_eq_false hk)]
    refine⟨((f,c),x.ch),⟨by simp [Ev.ch,za],hep,⟨hsx.1,hsx.2.1⟩⟩,⟨_,rfl⟩,?_⟩
    rintro _ rfl
    dsimp only
    rw [hst] at hfo
    refine⟨fun h=> ?_,fun h=>⟨by omega,fun _=> ?_⟩⟩
    ·have h:(putC f c x.ch).2≠0:=by simpa using h
     rw [if_pos h] at hfo
     rw [← hfo] at hq
     exact RetR.out0 hq (fun h=>by cases h) (by simp [resV,exp2,exp1,exp0,ren0,eqA2,eqL1,envA,fxS,chS,za])
    ·have h:(putC f c x.ch).2=0:=by simpa using h
     rw [if_neg (by simpa using h)] at hfo
     rw [if_pos trivial]
     exact cont _ _ _ (yF hep (show qG x.ch from⟨hsx.1,hsx.2.1⟩) h) hfo hlt ⟨by simp [wY],by simp [jy,fxS,chS,za],by kernel_rfl,by simp [jy]⟩
  ·have hge:i=lat.length:=by have:=of_decide_eq_false hge; omega
   subst hge
   rw [List.drop_length,show qj none [] (f,c)=((f,c),0) from rfl] at hfo
   rw [← hfo] at hq
   exact RetR.out0 hq (fun h=>by cases h) (by simp [resV,exp2,exp1,exp0,ren0,eqA2,eqL1,envA,fxS,chS,za])
theorem zay:zf Try.prog 16 knVC:=by
 refine zn (fn:=Try.f16) (c:=Try.f16.body.getD .skip) rfl rfl rfl fun p hp O w0 Q hq=> ?_
 obtain⟨l,tm⟩:=p
 replace hq:=hq _ rfl
 simp only at hq hp
 refine zc.run hmix Vz [2,6,11,46,47,48,71,72,73,74] 400 (T:=.ex (fun(x:List Ev)=>eqL [AV.agg [AV.sl l.length 9 (evG l)]] [AV.agg [AV.sl x.length 9 (evG x)]]∧evP x) fun n=>.all (fun(r:Int)=>r=if Option.isSome (SS.play { evs:=[],lat:=[] } n)=true then(0:Int) else(8:Int)) fun n=>.ite (!decide (n=0)) (.leaf (.ret [.agg [.nils,.nils],.int .i64 8] [.box [.sl l.length 9 (evG l)],.box [.int .i64 tm],.box [.nils,.nils]])) (.ite (bif decide (tm<0) then true else decide ((1125899906842624:Int)<tm)) (.leaf (.ret [.agg [.nils,.nils],.int .i64 2] [.box [.sl l.length 9 (evG l)],.box [.int .i64 tm],.box [.nils,.nils]])) (.ex (fun(x:List Ev×Int)=>eqL [AV.sl l.length 9 (evG l),AV.fn 26 [] [AV.ptr 0 0]] [AV.sl x.1.length 9 (evG x.1),AV.fn 26 [] [AV.ptr 0 0]]∧eqH [.box [AV.int .i64 tm]] [.box [AV.int .i64 x.2]]∧1=1∧x.1.length<1099511627776) fun n=>.all (fun(r:Int)=>r=idxB (fun(x:Ev)=>decide (n.2<Ev.entry x)) n.1) fun n_1=>.ite (decide (n_1<0)) (.side ((0:Int)≤l.length∧(↑l.length:Int)≤l.length) (.ex (fun(x:List Ev)=>eqL [AV.sl (Int.toNat (↑l.length:Int) - 0) 9 (zg (evG l) 0)] [AV.sl x.length 9 (evG x)]∧x.length<1099511627776∧∀ (e:Ev),e∈x→zp e) fun n_2=>.ite (Option.isSome (SS.play { evs:=[],lat:=[] } n_2)) (.all (fun(s:SS)=>SS.play { evs:=[],lat:=[] } n_2=some s) fun n_3=>.leaf (.loop (Prod.fst (lps K16 0)) (Prod.snd (lps K16 0)) [(2,.fn 17 [] []),(6,.ptr 2 0),(11,.ptr 7 0),(46,.osl 6 9 0 (SS.lat n_3).length),(47,.int .i64 (↑(SS.lat n_3).length:Int)),(48,.int .i64 0),(71,.undef),(72,.undef),(73,.undef),(74,.undef)] [.box [.sl l.length 9 (evG l)],.box [.int .i64 n.2],.box [.nils,.nils],.box [.osl 4 9 0 (SS.evs n_3).length,.omap 5,.osl 6 9 0 (SS.lat n_3).length],.arr (SS.evs n_3).length 9 (evG (SS.evs n_3)),Blk.map true [Sum.inl .u8,Sum.inr false,Sum.inr false,Sum.inl .i64] (zr (SS.lat n_3)) (z2 (SS.lat n_3)),.arr (SS.lat n_3).length 9 (evG (SS.lat n_3)),.box [.nils,.nils]])) .fail)) (.side ((0:Int)≤n_1∧n_1≤(↑l.length:Int)) (.ex (fun(x:List Ev)=>eqL [AV.sl (Int.toNat n_1 - 0) 9 (zg (evG l) 0)] [AV.sl x.length 9 (evG x)]∧x.length<1099511627776∧∀ (e:Ev),e∈x→zp e) fun n_2=>.ite (Option.isSome (SS.play { evs:=[],lat:=[] } n_2)) (.all (fun(s:SS)=>SS.play { evs:=[],lat:=[] } n_2=some s) fun n_3=>.leaf (.loop (Prod.fst (lps K16 0)) (Prod.snd (lps K16 0)) [(2,.fn 17 [] []),(6,.ptr 2 0),(11,.ptr 7 0),(46,.osl 6 9 0 (SS.lat n_3).length),(47,.int .i64 (↑(SS.lat n_3).length:Int)),(48,.int .i64 0),(71,.undef),(72,.undef),(73,.undef),(74,.undef)] [.box [.sl l.length 9 (evG l)],.box [.int .i64 n.2],.box [.nils,.nils],.box [.osl 4 9 0 (SS.evs n_3).length,.omap 5,.osl 6 9 0 (SS.lat n_3).length],.arr (SS.evs n_3).length 9 (evG (SS.evs n_3)),Blk.map true [Sum.inl .u8,Sum.inr false,Sum.inr false,Sum.inl .i64] (zr (SS.lat n_3)) (z2 (SS.lat n_3)),.arr (SS.lat n_3).length 9 (evG (SS.lat n_3)),.box [.nils,.nils]])) .fail))))) (by kernel_rfl) ?_
 simp only [Tree.holds,zd,bifO]
 have bad:∀ (z:Int) (h:Heap),zy l tm none=(([],[]),z)→RetR knVC 0 Q [.agg [.nils,.nils],.int .i64 z] h:=by
  intro z h hr
  rw [hr] at hq
  exact RetR.out0 hq (fun h=>by cases h) (by simp [resV,exp2,exp1,exp0,ren0,eqA2,eqL1,envA,fxS,chS,za])
 refine⟨l,⟨by simp [evS,za],hp⟩,⟨_,rfl⟩,?_⟩
 rintro _ rfl
 refine⟨fun h=>bad _ _ ?_,fun h=>⟨fun h2=>bad _ _ ?_,fun h2=> ?_⟩⟩
 ·unfold zy
  rw [if_pos]
  cases hs:(SS.play ⟨[],[]⟩ l).isSome with
  | false=>rfl
  | true=>rw [hs] at h; simp at h
 ·have hv:(SS.play ⟨[],[]⟩ l).isSome=true:=by
   cases hs:(SS.play ⟨[],[]⟩ l).isSome with
   | true=>rfl
   | false=>rw [hs] at h; simp at h
  unfold zy
  rw [if_neg (by rw [hv]; decide),if_pos (by simpa using h2)]
 have hv:(SS.play ⟨[],[]⟩ l).isSome=true:=by
  cases hs:(SS.play ⟨[],[]⟩ l).isSome with
  | true=>rfl
  | false=>rw [hs] at h; simp at h
 obtain⟨hc1,hc2⟩:=Vq (l:=l) (tm:=tm)
 have hlp:∀ e∈l.take (cutE l tm),zp e:=fun e he=>hp.2 e (List.mem_of_mem_take he)
 have hpl:=hp.1
 have hpt:=ZK hv (cutE l tm)
 have fin:∀ s,SS.play ⟨[],[]⟩ (l.take (cutE l tm))=some s→jE s.lat∧s.lat.length≤1000∧zy l tm none=qj none s.lat ([],[]):=by
  intro s hs
  obtain⟨a1,a2,a3⟩:=KX hs
  refine⟨kL (s:=⟨[],[]⟩) (fun e he=>by simp at he) hlp hs,by rw [a1.len]; exact a3,?_⟩
  unfold zy
  rw [if_neg (by rw [hv]; decide),if_neg (by simpa using h2),hs]
 refine⟨(l,tm),⟨by simp [evS,za],by simp,trivial,hpl⟩,⟨_,rfl⟩,?_⟩
 rintro _ rfl
 dsimp only
 have done:∀ s,SS.play ⟨[],[]⟩ (l.take (cutE l tm))=some s→zc Try.prog Try.f16 O 0 w0 [] (fun _ _ _=>False) (RetR knVC 0 Q) (.code (.loop (lps K16 0).1)::(lps K16 0).2) (mk Try.f16.ntmps (wY s.lat 0) (jy s.lat [] [])):=by
  intro s hs
  obtain⟨b1,b2,b3⟩:=fin s hs
  rw [b3] at hq
  exact Yc s.lat b1 b2 hq
 refine⟨fun hn=>⟨by omega,fun _=> ?_⟩,fun hn=> ?_⟩
 ·have hn:=of_decide_eq_true hn
  rw [if_pos hn] at hc1
  have e1:cutE l tm=l.length:=by omega
  refine⟨l.take (cutE l tm),⟨⟨⟨by rw [e1]; simp,rfl,by have:=xx hc2; simpa [e1] using this⟩,trivial⟩,by rw [List.length_take]; omega,hlp⟩,fun _=>⟨Option.isSome_iff_exists.1 hpt,fun s hs=> ?_⟩,fun g=>by rw [hpt] at g; cases g⟩
  refine zc.weak (S:=wY s.lat 0) (H:=jy s.lat [] []) ⟨by simp [wY],by simp [jy,fxS,chS,za],by kernel_rfl,by simp [jy]⟩ (done s hs)
 ·have hn:=of_decide_eq_false hn
  rw [if_neg hn] at hc1
  refine⟨by omega,fun _=> ?_⟩
  have e1:(idxB (fun x:Ev=>decide (tm<x.entry)) l).toNat=cutE l tm:=by omega
  refine⟨l.take (cutE l tm),⟨⟨⟨by rw [e1,List.length_take]; omega,rfl,by have:=xx hc2; rw [e1]; simpa using this⟩,trivial⟩,by rw [List.length_take]; omega,hlp⟩,fun _=>⟨Option.isSome_iff_exists.1 hpt,fun s hs=> ?_⟩,fun g=>by rw [hpt] at g; cases g⟩
  refine zc.weak (S:=wY s.lat 0) (H:=jy s.lat [] []) ⟨by simp [wY],by simp [jy,fxS,chS,za],by kernel_rfl,by simp [jy]⟩ (done s hs)
def wk(lat:List Ev)(i:Nat):KV:=[(2,.fn 18 [] [.ptr 0 0]),(6,.ptr 3 0),(11,.ptr 8 0),(46,.osl 7 9 0 lat.length),(47,.int .i64 (lat.length:Int)),(48,.int .i64 i),(71,.undef),(72,.undef),(73,.undef),(74,.undef)]
def qz(lat:List Ev)(d:Int)(f:List Fx)(c:List Ch):Heap:=[.box [.int .i64 d],.dead,.dead,.box [.nils,.nils],.dead,.dead,.dead,.arr lat.length 9 (evG lat),.box [fxS f,chS c]]
def knPC:Ctr:=ctrT false false (fun p:List Ev×Int×Int=>[.agg [evS p.1],.int .i64 p.2.1,.fn 18 [] [.ptr 0 0]]) (fun p=>[.box [.int .i64 p.2.2]]) (fun p=>evP p.1) (fun p r=>r=zy p.1 p.2.1 (some p.2.2)) (fun p (r:EnvL×Int)=>(.tup [envA r.1.1 r.1.2,.int .i64 r.2],[.box [.int .i64 p.2.2]]))
noncomputable def GKnP:Nat→Option Ctr:=fun f=>if f=13 then some (kA) else if f=25 then some (ixEC) else if f=14 then some (repC) else if f=18 then some (kp1C) else if f=27 then some (Yl) else if f=28 then some (XG) else none
theorem Vj:∀ g c,GKnP g=some c→zf Try.prog g c:=okIf k9 (okIf KC (okIf Qk (okIf zai (okIf V5 (okIf Va (zx))))))
theorem KL{O:Nat→Prop}{w0:World}{σ0:List SE}{Q:AV×Heap→Prop}{Hs:Nat→KV→Heap→Prop}(lat:List Ev)(d:Int)(hs:jE lat)(hl:lat.length≤1000)
  (hq:Q (.tup [envA (qj (some d) lat ([],[])).1.1 (qj (some d) lat ([],[])).1.2,.int .i64 (qj (some d) lat ([],[])).2],[.box [.int .i64 d]])) :
  zc Try.prog Try.f16 O 1 w0 σ0 Hs (RetR knPC 1 Q) (.code (.loop (lps K16 0).1)::(lps K16 0).2) (mk Try.f16.ntmps (wk lat 0) (qz lat d [] [])):=by
 refine zc.loop (ι:={p:Nat×EnvL // p.1≤lat.length∧envP p.2∧qj (some d) (lat.drop p.1) p.2=qj (some d) lat ([],[])}) (fun p=>wk lat p.1.1) (fun p=>qz lat d p.1.2.1 p.1.2.2) (fun p=>lat.length - p.1.1) ⟨(0,([],[])),Nat.zero_le _,y2 (by decide) (by decide) (by simp) (by simp),rfl⟩ 0 ?_ ?_ (by kernel_rfl)
 ·exact⟨by simp [wk],by simp [qz,fxS,chS,za],by kernel_rfl,by simp [qz]⟩
 ·rintro⟨⟨i,f,c⟩,hil,hep,hfo⟩
  simp only at hil hep hfo
  refine zc.run hmix Vj [2,6,11,46,47,48,71,72,73,74] 400 (T:=.ite (decide ((↑i:Int)<lat.length)) (.side ((0:Int)≤i∧(↑i:Int)<lat.length) (.ite (decide (Ev.kind (lat.getD (0+Int.toNat (↑i:Int)) Ev.nil)=(0:Int)) == false) (.ex (fun(x:Ev×Int)=>eqL [AV.agg [AV.int .u8 (Ev.kind (lat.getD (0+Int.toNat (↑i:Int)) Ev.nil)),AV.int .i64 (Ev.id (lat.getD (0+Int.toNat (↑i:Int)) Ev.nil)),AV.int .i64 (Ev.entry (lat.getD (0+Int.toNat (↑i:Int)) Ev.nil)),AV.int .i64 (Ev.target (lat.getD (0+Int.toNat (↑i:Int)) Ev.nil)),AV.int .i64 (Ev.date (lat.getD (0+Int.toNat (↑i:Int)) Ev.nil)),AV.str (Ev.zb (lat.getD (0+Int.toNat (↑i:Int)) Ev.nil)),AV.str (Ev.name (lat.getD (0+Int.toNat (↑i:Int)) Ev.nil)),AV.str (Ev.value (lat.getD (0+Int.toNat (↑i:Int)) Ev.nil)),AV.bool (Ev.first (lat.getD (0+Int.toNat (↑i:Int)) Ev.nil))],AV.ptr 0 0] [AV.agg [AV.int .u8 x.1.kind,AV.int .i64 x.1.id,AV.int .i64 x.1.entry,AV.int .i64 x.1.target,AV.int .i64 x.1.date,AV.str x.1.zb,AV.str x.1.name,AV.str x.1.value,AV.bool x.1.first],AV.ptr 0 0]∧eqH [.box [AV.int .i64 d]] [.box [AV.int .i64 x.2]]∧1=1∧True) fun n=>.all (fun(r:Bool)=>r=decide (Ev.date n.1≤n.2)) fun n_1=>.ite (bif decide (Ev.kind (lat.getD (0+Int.toNat (↑i:Int)) Ev.nil)=(0:Int)) then true else !n_1) (.ite false (.leaf (.ret [.agg [.nils,.nils],.int .i64 0] [.box [.int .i64 n.2],.dead,.dead,.box [.nils,.nils],.dead,.dead,.dead,.arr lat.length 9 (evG lat),.box [.sl f.length 3 (fxG f),.sl c.length 4 (chG c)],.box [.int .u8 (Ev.kind (lat.getD (0+Int.toNat (↑i:Int)) Ev.nil)),.int .i64 (Ev.id (lat.getD (0+Int.toNat (↑i:Int)) Ev.nil)),.int .i64 (Ev.entry (lat.getD (0+Int.toNat (↑i:Int)) Ev.nil)),.int .i64 (Ev.target (lat.getD (0+Int.toNat (↑i:Int)) Ev.nil)),.int .i64 (Ev.date (lat.getD (0+Int.toNat (↑i:Int)) Ev.nil)),.str (Ev.zb (lat.getD (0+Int.toNat (↑i:Int)) Ev.nil)),.str (Ev.name (lat.getD (0+Int.toNat (↑i:Int)) Ev.nil)),.str (Ev.value (lat.getD (0+Int.toNat (↑i:Int)) Ev.nil)),.bool (Ev.first (lat.getD (0+Int.toNat (↑i:Int)) Ev.nil))]])) (.side (inR .i64 ((↑i:Int)+(1:Int))) (.leaf (.back 0 [(2,.fn 18 [] [.ptr 0 0]),(6,.ptr 3 0),(11,.ptr 8 0),(46,.osl 7 9 0 lat.length),(47,.int .i64 lat.length),(48,.int .i64 ((↑i:Int)+(1:Int))),(71,.undef),(72,.undef),(73,.bool n_1),(74,.undef)] [.box [.int .i64 n.2],.dead,.dead,.box [.nils,.nils],.dead,.dead,.dead,.arr lat.length 9 (evG lat),.box [.sl f.length 3 (fxG f),.sl c.length 4 (chG c)],.box [.int .u8 (Ev.kind (lat.getD (0+Int.toNat (↑i:Int)) Ev.nil)),.int .i64 (Ev.id (lat.getD (0+Int.toNat (↑i:Int)) Ev.nil)),.int .i64 (Ev.entry (lat.getD (0+Int.toNat (↑i:Int)) Ev.nil)),.int .i64 (Ev.target (lat.getD (0+Int.toNat (↑i:Int)) Ev.nil)),.int .i64 (Ev.date (lat.getD (0+Int.toNat (↑i:Int)) Ev.nil)),.str (Ev.zb (lat.getD (0+Int.toNat (↑i:Int)) Ev.nil)),.str (Ev.name (lat.getD (0+Int.toNat (↑i:Int)) Ev.nil)),.str (Ev.value (lat.getD (0+Int.toNat (↑i:Int)) Ev.nil)),.bool (Ev.first (lat.getD (0+Int.toNat (↑i:Int)) Ev.nil))]])))) (.ite (decide (Ev.kind (lat.getD (0+Int.toNat (↑i:Int)) Ev.nil)=(1:Int))) (.ex (fun(x:(List Fx×List Ch)×Fx)=>eqL [AV.agg [AV.sl f.length 3 (fxG f),AV.sl c.length 4 (chG c)],AV.agg [AV.str (Ev.name (lat.getD (0+Int.toNat (↑i:Int)) Ev.nil)),AV.int .i64 (Ev.date (lat.getD (0+Int.toNat (↑i:Int)) Ev.nil)),AV.str (Ev.value (lat.getD (0+Int.toNat (↑i:Int)) Ev.nil))]] [AV.agg [AV.sl x.1.1.length 3 (fxG x.1.1),AV.sl x.1.2.length 4 (chG x.1.2)],AV.agg [AV.str x.2.name,AV.int .i64 x.2.date,AV.str x.2.value]]∧envP x.1∧qF x.2) fun n_2=>.all (fun(r:(List Fx×List Ch)×Int)=>r=putF n_2.1.1 n_2.1.2 n_2.2) fun n_3=>.ite (!decide (n_3.2=0)) (.leaf (.ret [.agg [.nils,.nils],.int .i64 n_3.2] [.box [.int .i64 n.2],.dead,.dead,.box [.nils,.nils],.dead,.dead,.dead,.arr lat.length 9 (evG lat),.box [.sl n_3.1.1.length 3 (fxG n_3.1.1),.sl n_3.1.2.length 4 (chG n_3.1.2)],.box [.int .u8 (Ev.kind (lat.getD (0+Int.toNat (↑i:Int)) Ev.nil)),.int .i64 (Ev.id (lat.getD (0+Int.toNat (↑i:Int)) Ev.nil)),.int .i64 (Ev.entry (lat.getD (0+Int.toNat (↑i:Int)) Ev.nil)),.int .i64 (Ev.target (lat.getD (0+Int.toNat (↑i:Int)) Ev.nil)),.int .i64 (Ev.date (lat.getD (0+Int.toNat (↑i:Int)) Ev.nil)),.str (Ev.zb (lat.getD (0+Int.toNat (↑i:Int)) Ev.nil)),.str (Ev.name (lat.getD (0+Int.toNat (↑i:Int)) Ev.nil)),.str (Ev.value (lat.getD (0+Int.toNat (↑i:Int)) Ev.nil)),.bool (Ev.first (lat.getD (0+Int.toNat (↑i:Int)) Ev.nil))]])) (.side (inR .i64 ((↑i:Int)+(1:Int))) (.leaf (.back 0 [(2,.fn 18 [] [.ptr 0 0]),(6,.ptr 3 0),(11,.ptr 8 0),(46,.osl 7 9 0 lat.length),(47,.int .i64 lat.length),(48,.int .i64 ((↑i:Int)+(1:Int))),(71,.undef),(72,.undef),(73,.bool n_1),(74,.undef)] [.box [.int .i64 n.2],.dead,.dead,.box [.nils,.nils],.dead,.dead,.dead,.arr lat.length 9 (evG lat),.box [.sl n_3.1.1.length 3 (fxG n_3.1.1),.sl n_3.1.2.length 4 (chG n_3.1.2)],.box [.int .u8 (Ev.kind (lat.getD (0+Int.toNat (↑i:Int)) Ev.nil)),.int .i64 (Ev.id (lat.getD (0+Int.toNat (↑i:Int)) Ev.nil)),.int .i64 (Ev.entry (lat.getD (0+Int.toNat (↑i:Int)) Ev.nil)),.int .i64 (Ev.target (lat.getD (0+Int.toNat (↑i:Int)) Ev.nil)),.int .i64 (Ev.date (lat.getD (0+Int.toNat (↑i:Int)) Ev.nil)),.str (Ev.zb (lat.getD (0+Int.toNat (↑i:Int)) Ev.nil)),.str (Ev.name (lat.getD (0+Int.toNat (↑i:Int)) Ev.nil)),.str (Ev.value (lat.getD (0+Int.toNat (↑i:Int)) Ev.nil)),.bool (Ev.first (lat.getD (0+Int.toNat (↑i:Int)) Ev.nil))]])))) (.ex (fun(x:(List Fx×List Ch)×Ch)=>eqL [AV.agg [AV.sl f.length 3 (fxG f),AV.sl c.length 4 (chG c)],AV.agg [AV.str (Ev.zb (lat.getD (0+Int.toNat (↑i:Int)) Ev.nil)),AV.str (Ev.name (lat.getD (0+Int.toNat (↑i:Int)) Ev.nil)),AV.int .i64 (Ev.date (lat.getD (0+Int.toNat (↑i:Int)) Ev.nil)),AV.bool (Ev.first (lat.getD (0+Int.toNat (↑i:Int)) Ev.nil))]] [AV.agg [AV.sl x.1.1.length 3 (fxG x.1.1),AV.sl x.1.2.length 4 (chG x.1.2)],AV.agg [AV.str x.2.zb,AV.str x.2.name,AV.int .i64 x.2.date,AV.bool x.2.first]]∧envP x.1∧qG x.2) fun n_2=>.all (fun(r:(List Fx×List Ch)×Int)=>r=putC n_2.1.1 n_2.1.2 n_2.2) fun n_3=>.ite (!decide (n_3.2=0)) (.leaf (.ret [.agg [.nils,.nils],.int .i64 n_3.2] [.box [.int .i64 n.2],.dead,.dead,.box [.nils,.nils],.dead,.dead,.dead,.arr lat.length 9 (evG lat),.box [.sl n_3.1.1.length 3 (fxG n_3.1.1),.sl n_3.1.2.length 4 (chG n_3.1.2)],.box [.int .u8 (Ev.kind (lat.getD (0+Int.toNat (↑i:Int)) Ev.nil)),.int .i64 (Ev.id (lat.getD (0+Int.toNat (↑i:Int)) Ev.nil)),.int .i64 (Ev.entry (lat.getD (0+Int.toNat (↑i:Int)) Ev.nil)),.int .i64 (Ev.target (lat.getD (0+Int.toNat (↑i:Int)) Ev.nil)),.int .i64 (Ev.date (lat.getD (0+Int.toNat (↑i:Int)) Ev.nil)),.str (Ev.zb (lat.getD (0+Int.toNat (↑i:Int)) Ev.nil)),.str (Ev.name (lat.getD (0+Int.toNat (↑i:Int)) Ev.nil)),.str (Ev.value (lat.getD (0+Int.toNat (↑i:Int)) Ev.nil)),.bool (Ev.first (lat.getD (0+Int.toNat (↑i:Int)) Ev.nil))]])) (.side (inR .i64 ((↑i:Int)+(1:Int))) (.leaf (.back 0 [(2,.fn 18 [] [.ptr 0 0]),(6,.ptr 3 0),(11,.ptr 8 0),(46,.osl 7 9 0 lat.length),(47,.int .i64 lat.length),(48,.int .i64 ((↑i:Int)+(1:Int))),(71,.undef),(72,.undef),(73,.bool n_1),(74,.undef)] [.box [.int .i64 n.2],.dead,.dead,.box [.nils,.nils],.dead,.dead,.dead,.arr lat.length 9 (evG lat),.box [.sl n_3.1.1.length 3 (fxG n_3.1.1),.sl n_3.1.2.length 4 (chG n_3.1.2)],.box [.int .u8 (Ev.kind (lat.getD (0+Int.toNat (↑i:Int)) Ev.nil)),.int .i64 (Ev.id (lat.getD (0+Int.toNat (↑i:Int)) Ev.nil)),.int .i64 (Ev.entry (lat.getD (0+Int.toNat (↑i:Int)) Ev.nil)),.int .i64 (Ev.target (lat.getD (0+Int.toNat (↑i:Int)) Ev.nil)),.int .i64 (Ev.date (lat.getD (0+Int.toNat (↑i:Int)) Ev.nil)),.str (Ev.zb (lat.getD (0+Int.toNat (↑i:Int)) Ev.nil)),.str (Ev.name (lat.getD (0+Int.toNat (↑i:Int)) Ev.nil)),.str (Ev.value (lat.getD (0+Int.toNat (↑i:Int)) Ev.nil)),.bool (Ev.first (lat.getD (0+Int.toNat (↑i:Int)) Ev.nil))]])))))) (.ite (bif decide (Ev.kind (lat.getD (0+Int.toNat (↑i:Int)) Ev.nil)=(0:Int)) then true else !false) (.ite false (.leaf (.ret [.agg [.nils,.nils],.int .i64 0] [.box [.int .i64 d],.dead,.dead,.box [.nils,.nils],.dead,.dead,.dead,.arr lat.length 9 (evG lat),.box [.sl f.length 3 (fxG f),.sl c.length 4 (chG c)],.box [.int .u8 (Ev.kind (lat.getD (0+Int.toNat (↑i:Int)) Ev.nil)),.int .i64 (Ev.id (lat.getD (0+Int.toNat (↑i:Int)) Ev.nil)),.int .i64 (Ev.entry (lat.getD (0+Int.toNat (↑i:Int)) Ev.nil)),.int .i64 (Ev.target (lat.getD (0+Int.toNat (↑i:Int)) Ev.nil)),.int .i64 (Ev.date (lat.getD (0+Int.toNat (↑i:Int)) Ev.nil)),.str (Ev.zb (lat.getD (0+Int.toNat (↑i:Int)) Ev.nil)),.str (Ev.name (lat.getD (0+Int.toNat (↑i:Int)) Ev.nil)),.str (Ev.value (lat.getD (0+Int.toNat (↑i:Int)) Ev.nil)),.bool (Ev.first (lat.getD (0+Int.toNat (↑i:Int)) Ev.nil))]])) (.side (inR .i64 ((↑i:Int)+(1:Int))) (.leaf (.back 0 [(2,.fn 18 [] [.ptr 0 0]),(6,.ptr 3 0),(11,.ptr 8 0),(46,.osl 7 9 0 lat.length),(47,.int .i64 lat.length),(48,.int .i64 ((↑i:Int)+(1:Int))),(71,.undef),(72,.undef),(73,.undef),(74,.undef)] [.box [.int .i64 d],.dead,.dead,.box [.nils,.nils],.dead,.dead,.dead,.arr lat.length 9 (evG lat),.box [.sl f.length 3 (fxG f),.sl c.length 4 (chG c)],.box [.int .u8 (Ev.kind (lat.getD (0+Int.toNat (↑i:Int)) Ev.nil)),.int .i64 (Ev.id (lat.getD (0+Int.toNat (↑i:Int)) Ev.nil)),.int .i64 (Ev.entry (lat.getD (0+Int.toNat (↑i:Int)) Ev.nil)),.int .i64 (Ev.target (lat.getD (0+Int.toNat (↑i:Int)) Ev.nil)),.int .i64 (Ev.date (lat.getD (0+Int.toNat (↑i:Int)) Ev.nil)),.str (Ev.zb (lat.getD (0+Int.toNat (↑i:Int)) Ev.nil)),.str (Ev.name (lat.getD (0+Int.toNat (↑i:Int)) Ev.nil)),.str (Ev.value (lat.getD (0+Int.toNat (↑i:Int)) Ev.nil)),.bool (Ev.first (lat.getD (0+Int.toNat (↑i:Int)) Ev.nil))]])))) (.ite (decide (Ev.kind (lat.getD (0+Int.toNat (↑i:Int)) Ev.nil)=(1:Int))) (.ex (fun(x:(List Fx×List Ch)×Fx)=>eqL [AV.agg [AV.sl f.length 3 (fxG f),AV.sl c.length 4 (chG c)],AV.agg [AV.str (Ev.name (lat.getD (0+Int.toNat (↑i:Int)) Ev.nil)),AV.int .i64 (Ev.date (lat.getD (0+Int.toNat (↑i:Int)) Ev.nil)),AV.str (Ev.value (lat.getD (0+Int.toNat (↑i:Int)) Ev.nil))]] [AV.agg [AV.sl x.1.1.length 3 (fxG x.1.1),AV.sl x.1.2.length 4 (chG x.1.2)],AV.agg [AV.str x.2.name,AV.int .i64 x.2.date,AV.str x.2.value]]∧envP x.1∧qF x.2) fun n=>.all (fun(r:(List Fx×List Ch)×Int)=>r=putF n.1.1 n.1.2 n.2) fun n=>.ite (!decide (n.2=0)) (.leaf (.ret [.agg [.nils,.nils],.int .i64 n.2] [.box [.int .i64 d],.dead,.dead,.box [.nils,.nils],.dead,.dead,.dead,.arr lat.length 9 (evG lat),.box [.sl n.1.1.length 3 (fxG n.1.1),.sl n.1.2.length 4 (chG n.1.2)],.box [.int .u8 (Ev.kind (lat.getD (0+Int.toNat (↑i:Int)) Ev.nil)),.int .i64 (Ev.id (lat.getD (0+Int.toNat (↑i:Int)) Ev.nil)),.int .i64 (Ev.entry (lat.getD (0+Int.toNat (↑i:Int)) Ev.nil)),.int .i64 (Ev.target (lat.getD (0+Int.toNat (↑i:Int)) Ev.nil)),.int .i64 (Ev.date (lat.getD (0+Int.toNat (↑i:Int)) Ev.nil)),.str (Ev.zb (lat.getD (0+Int.toNat (↑i:Int)) Ev.nil)),.str (Ev.name (lat.getD (0+Int.toNat (↑i:Int)) Ev.nil)),.str (Ev.value (lat.getD (0+Int.toNat (↑i:Int)) Ev.nil)),.bool (Ev.first (lat.getD (0+Int.toNat (↑i:Int)) Ev.nil))]])) (.side (inR .i64 ((↑i:Int)+(1:Int))) (.leaf (.back 0 [(2,.fn 18 [] [.ptr 0 0]),(6,.ptr 3 0),(11,.ptr 8 0),(46,.osl 7 9 0 lat.length),(47,.int .i64 lat.length),(48,.int .i64 ((↑i:Int)+(1:Int))),(71,.undef),(72,.undef),(73,.undef),(74,.undef)] [.box [.int .i64 d],.dead,.dead,.box [.nils,.nils],.dead,.dead,.dead,.arr lat.length 9 (evG lat),.box [.sl n.1.1.length 3 (fxG n.1.1),.sl n.1.2.length 4 (chG n.1.2)],.box [.int .u8 (Ev.kind (lat.getD (0+Int.toNat (↑i:Int)) Ev.nil)),.int .i64 (Ev.id (lat.getD (0+Int.toNat (↑i:Int)) Ev.nil)),.int .i64 (Ev.entry (lat.getD (0+Int.toNat (↑i:Int)) Ev.nil)),.int .i64 (Ev.target (lat.getD (0+Int.toNat (↑i:Int)) Ev.nil)),.int .i64 (Ev.date (lat.getD (0+Int.toNat (↑i:Int)) Ev.nil)),.str (Ev.zb (lat.getD (0+Int.toNat (↑i:Int)) Ev.nil)),.str (Ev.name (lat.getD (0+Int.toNat (↑i:Int)) Ev.nil)),.str (Ev.value (lat.getD (0+Int.toNat (↑i:Int)) Ev.nil)),.bool (Ev.first (lat.getD (0+Int.toNat (↑i:Int)) Ev.nil))]])))) (.ex (fun(x:(List Fx×List Ch)×Ch)=>eqL [AV.agg [AV.sl f.length 3 (fxG f),AV.sl c.length 4 (chG c)],AV.agg [AV.str (Ev.zb (lat.getD (0+Int.toNat (↑i:Int)) Ev.nil)),AV.str (Ev.name (lat.getD (0+Int.toNat (↑i:Int)) Ev.nil)),AV.int .i64 (Ev.date (lat.getD (0+Int.toNat (↑i:Int)) Ev.nil)),AV.bool (Ev.first (lat.getD (0+Int.toNat (↑i:Int)) Ev.nil))]] [AV.agg [AV.sl x.1.1.length 3 (fxG x.1.1),AV.sl x.1.2.length 4 (chG x.1.2)],AV.agg [AV.str x.2.zb,AV.str x.2.name,AV.int .i64 x.2.date,AV.bool x.2.first]]∧envP x.1∧qG x.2) fun n=>.all (fun(r:(List Fx×List Ch)×Int)=>r=putC n.1.1 n.1.2 n.2) fun n=>.ite (!decide (n.2=0)) (.leaf (.ret [.agg [.nils,.nils],.int .i64 n.2] [.box [.int .i64 d],.dead,.dead,.box [.nils,.nils],.dead,.dead,.dead,.arr lat.length 9 (evG lat),.box [.sl n.1.1.length 3 (fxG n.1.1),.sl n.1.2.length 4 (chG n.1.2)],.box [.int .u8 (Ev.kind (lat.getD (0+Int.toNat (↑i:Int)) Ev.nil)),.int .i64 (Ev.id (lat.getD (0+Int.toNat (↑i:Int)) Ev.nil)),.int .i64 (Ev.entry (lat.getD (0+Int.toNat (↑i:Int)) Ev.nil)),.int .i64 (Ev.target (lat.getD (0+Int.toNat (↑i:Int)) Ev.nil)),.int .i64 (Ev.date (lat.getD (0+Int.toNat (↑i:Int)) Ev.nil)),.str (Ev.zb (lat.getD (0+Int.toNat (↑i:Int)) Ev.nil)),.str (Ev.name (lat.getD (0+Int.toNat (↑i:Int)) Ev.nil)),.str (Ev.value (lat.getD (0+Int.toNat (↑i:Int)) Ev.nil)),.bool (Ev.first (lat.getD (0+Int.toNat (↑i:Int)) Ev.nil))]])) (.side (inR .i64 ((↑i:Int)+(1:Int))) (.leaf (.back 0 [(2,.fn 18 [] [.ptr 0 0]),(6,.ptr 3 0),(11,.ptr 8 0),(46,.osl 7 9 0 lat.length),(47,.int .i64 lat.length),(48,.int .i64 ((↑i:Int)+(1:Int))),(71,.undef),(72,.undef),(73,.undef),(74,.undef)] [.box [.int .i64 d],.dead,.dead,.box [.nils,.nils],.dead,.dead,.dead,.arr lat.length 9 (evG lat),.box [.sl n.1.1.length 3 (fxG n.1.1),.sl n.1.2.length 4 (chG n.1.2)],.box [.int .u8 (Ev.kind (lat.getD (0+Int.toNat (↑i:Int)) Ev.nil)),.int .i64 (Ev.id (lat.getD (0+Int.toNat (↑i:Int)) Ev.nil)),.int .i64 (Ev.entry (lat.getD (0+Int.toNat (↑i:Int)) Ev.nil)),.int .i64 (Ev.target (lat.getD (0+Int.toNat (↑i:Int)) Ev.nil)),.int .i64 (Ev.date (lat.getD (0+Int.toNat (↑i:Int)) Ev.nil)),.str (Ev.zb (lat.getD (0+Int.toNat (↑i:Int)) Ev.nil)),.str (Ev.name (lat.getD (0+Int.toNat (↑i:Int)) Ev.nil)),.str (Ev.value (lat.getD (0+Int.toNat (↑i:Int)) Ev.nil)),.bool (Ev.first (lat.getD (0+Int.toNat (↑i:Int)) Ev.nil))]])))))))) (.leaf (.ret [.agg [.sl f.length 3 (fxG f),.sl c.length 4 (chG c)],.int .i64 0] [.box [.int .i64 d],.dead,.dead,.box [.sl f.length 3 (fxG f),.sl c.length 4 (chG c)],.dead,.dead,.dead,.arr lat.length 9 (evG lat),.box [.sl f.length 3 (fxG f),.sl c.length 4 (chG c)]]))) (by kernel_rfl) ?_
  simp only [Tree.holds,zd,inR,lo,hi,Int.toNat_natCast,Nat.zero_add]
  have cont:∀ (v':EnvL) (kv:KV) (h:Heap),envP v'→qj (some d) (lat.drop (i+1)) v'=qj (some d) lat ([],[])→i<lat.length→LeK 1 Try.f16.ntmps kv h (wk lat (i+1)) (qz lat d v'.1 v'.2) →
    ∃ x':{p:Nat×EnvL // p.1≤lat.length∧envP p.2∧qj (some d) (lat.drop p.1) p.2=qj (some d) lat ([],[])},lat.length - x'.1.1<lat.length - i∧LeK 1 Try.f16.ntmps kv h (wk lat x'.1.1) (qz lat d x'.1.2.1 x'.1.2.2):=
   fun v' kv h g1 g2 hlt g3=>⟨⟨(i+1,v'),hlt,g1,g2⟩,by show lat.length - (i+1)<lat.length - i; omega,g3⟩
  refine⟨fun hlt=> ?_,fun hge=> ?_⟩
  ·have hlt:i<lat.length:=by have:=of_decide_eq_true hlt; omega
   refine⟨by omega,fun _=> ?_⟩
   rw [yH hlt] at hfo
   have hsx:=vp hs i
   generalize lat.getD i Ev.nil=x at hfo hsx ⊢
   refine⟨fun hz=> ?_,fun hz=> ?_⟩
   ·refine⟨(x,d),⟨by simp [Ev.av],by simp,trivial,trivial⟩,⟨_,rfl⟩,?_⟩
    rintro _ rfl
    dsimp only
    rw [show(bif decide (x.kind=0) then true else !decide (x.date≤d))=(decide (x.kind=0) || !WZ (some d) x) from bifO _ _]
    refine⟨fun ht=>⟨fun g=>(by cases g),fun _=>⟨by omega,fun _=> ?_⟩⟩,fun ht=>⟨fun hk=> ?_,fun hk=> ?_⟩⟩
    ·rw [if_pos trivial]
     have hst:qp (some d) (f,c) x=((f,c),0):=by unfold qp; rw [if_pos ht]
     rw [hst,if_neg (by simp)] at hfo
     exact cont (f,c) _ _ hep hfo hlt ⟨by simp [wk],by simp [qz,fxS,chS,za],by kernel_rfl,by simp [qz]⟩
    ·have hst:qp (some d) (f,c) x=putF f c x.fx:=by unfold qp; rw [if_neg (by rw [ht]; decide),if_pos (of_decide_eq_true hk)]
     refine⟨((f,c),x.fx),⟨by simp [Ev.fx,za],hep,hsx.2⟩,⟨_,rfl⟩,?_⟩
     rintro _ rfl
     dsimp only
     rw [hst] at hfo
     refine⟨fun h=> ?_,fun h=>⟨by omega,fun _=> ?_⟩⟩
     ·have h:(putF f c x.fx).2≠0:=by simpa using h
      rw [if_pos h] at hfo
      rw [← hfo] at hq
      exact RetR.keep [0] rfl (by simp) (by show ∀ j,j<1→_; decide) rfl hq (by simp [resV,exp2,exp1,exp0,ren0,eqA2,eqL1,envA,fxS,chS,za]) (by simp [expH,expB,exp1,exp0,ren0]) rfl
     ·have h:(putF f c x.fx).2=0:=by simpa using h
      rw [if_neg (by simpa using h)] at hfo
      rw [if_pos trivial]
      exact cont _ _ _ (uA hep (show qF x.fx from hsx.2) h) hfo hlt ⟨by simp [wk],by simp [qz,fxS,chS,za],by kernel_rfl,by simp [qz]⟩
    ·have hst:qp (some d) (f,c) x=putC f c x.ch:=by unfold qp; rw [if_neg (by rw [ht]; decide),if_neg (of_decide_eq_false hk)]
     refine⟨((f,c),x.ch),⟨by simp [Ev.ch,za],hep,⟨hsx.1,hsx.2.1⟩⟩,⟨_,rfl⟩,?_⟩
     rintro _ rfl
     dsimp only
     rw [hst] at hfo
     refine⟨fun h=> ?_,fun h=>⟨by omega,fun _=> ?_⟩⟩
     ·have h:(putC f c x.ch).2≠0:=by simpa using h
      rw [if_pos h] at hfo
      rw [← hfo] at hq
      exact RetR.keep [0] rfl (by simp) (by show ∀ j,j<1→_; decide) rfl hq (by simp [resV,exp2,exp1,exp0,ren0,eqA2,eqL1,envA,fxS,chS,za]) (by simp [expH,expB,exp1,exp0,ren0]) rfl
     ·have h:(putC f c x.ch).2=0:=by simpa using h
      rw [if_neg (by simpa using h)] at hfo
      rw [if_pos trivial]
      exact cont _ _ _ (yF hep (show qG x.ch from⟨hsx.1,hsx.2.1⟩) h) hfo hlt ⟨by simp [wk],by simp [qz,fxS,chS,za],by kernel_rfl,by simp [qz]⟩
   ·have hz:decide (x.kind=0)=true:=by
     cases hd:decide (x.kind=0) with
     | true=>rfl
     | false=>rw [hd] at hz; simp at hz
    rw [show(bif decide (x.kind=0) then true else !false)=(decide (x.kind=0) || !WZ (some d) x) by rw [hz]; rfl]
    refine⟨fun ht=>⟨fun g=>(by cases g),fun _=>⟨by omega,fun _=> ?_⟩⟩,fun ht=>⟨fun hk=> ?_,fun hk=> ?_⟩⟩
    ·rw [if_pos trivial]
     have hst:qp (some d) (f,c) x=((f,c),0):=by unfold qp; rw [if_pos ht]
     rw [hst,if_neg (by simp)] at hfo
     exact cont (f,c) _ _ hep hfo hlt ⟨by simp [wk],by simp [qz,fxS,chS,za],by kernel_rfl,by simp [qz]⟩
    ·have hst:qp (some d) (f,c) x=putF f c x.fx:=by unfold qp; rw [if_neg (by rw [ht]; decide),if_pos (of_decide_eq_true hk)]
     refine⟨((f,c),x.fx),⟨by simp [Ev.fx,za],hep,hsx.2⟩,⟨_,rfl⟩,?_⟩
     rintro _ rfl
     dsimp only
     rw [hst] at hfo
     refine⟨fun h=> ?_,fun h=>⟨by omega,fun _=> ?_⟩⟩
     ·have h:(putF f c x.fx).2≠0:=by simpa using h
      rw [if_pos h] at hfo
      rw [← hfo] at hq
      exact RetR.keep [0] rfl (by simp) (by show ∀ j,j<1→_; decide) rfl hq (by simp [resV,exp2,exp1,exp0,ren0,eqA2,eqL1,envA,fxS,chS,za]) (by simp [expH,expB,exp1,exp0,ren0]) rfl
     ·have h:(putF f c x.fx).2=0:=by simpa using h
      rw [if_neg (by simpa using h)] at hfo
      rw [if_pos trivial]
      exact cont _ _ _ (uA hep (show qF x.fx from hsx.2) h) hfo hlt ⟨by simp [wk],by simp [qz,fxS,chS,za],by kernel_rfl,by simp [qz]⟩
    ·have hst:qp (some d) (f,c) x=putC f c x.ch:=by unfold qp; rw [if_neg (by rw [ht]; decide),if_neg (of_decide_eq_false hk)]
     refine⟨((f,c),x.ch),⟨by simp [Ev.ch,za],hep,⟨hsx.1,hsx.2.1⟩⟩,⟨_,rfl⟩,?_⟩
     rintro _ rfl
     dsimp only
     rw [hst] at hfo
     refine⟨fun h=> ?_,fun h=>⟨by omega,fun _=> ?_⟩⟩
     ·have h:(putC f c x.ch).2≠0:=by simpa using h
      rw [if_pos h] at hfo
      rw [← hfo] at hq
      exact RetR.keep [0] rfl (by simp) (by show ∀ j,j<1→_; decide) rfl hq (by simp [resV,exp2,exp1,exp0,ren0,eqA2,eqL1,envA,fxS,chS,za]) (by simp [expH,expB,exp1,exp0,ren0]) rfl
     ·have h:(putC f c x.ch).2=0:=by simpa using h
      rw [if_neg (by simpa using h)] at hfo
      rw [if_pos trivial]
      exact cont _ _ _ (yF hep (show qG x.ch from⟨hsx.1,hsx.2.1⟩) h) hfo hlt ⟨by simp [wk],by simp [qz,fxS,chS,za],by kernel_rfl,by simp [qz]⟩
  ·have hge:i=lat.length:=by have:=of_decide_eq_false hge; omega
   subst hge
   rw [List.drop_length,show qj (some d) [] (f,c)=((f,c),0) from rfl] at hfo
   rw [← hfo] at hq
   exact RetR.keep [0] rfl (by simp) (by show ∀ j,j<1→_; decide) rfl hq (by simp [resV,exp2,exp1,exp0,ren0,eqA2,eqL1,envA,fxS,chS,za]) (by simp [expH,expB,exp1,exp0,ren0]) rfl
theorem zam:zf Try.prog 16 knPC:=by
 refine ja (fn:=Try.f16) (c:=Try.f16.body.getD .skip) rfl rfl rfl (fun h=>by cases h) fun p hp O w0 σ0 Q hl0 hq=> ?_
 obtain⟨l,tm,d⟩:=p
 replace hq:=hq _ rfl
 simp only at hq hp
 refine zc.run hmix Vj [2,6,11,46,47,48,71,72,73,74] 400 (T:=.ex (fun(x:List Ev)=>eqL [AV.agg [AV.sl l.length 9 (evG l)]] [AV.agg [AV.sl x.length 9 (evG x)]]∧evP x) fun n=>.all (fun(r:Int)=>r=if Option.isSome (SS.play { evs:=[],lat:=[] } n)=true then(0:Int) else(8:Int)) fun n=>.ite (!decide (n=0)) (.leaf (.ret [.agg [.nils,.nils],.int .i64 8] [.box [.int .i64 d],.box [.sl l.length 9 (evG l)],.box [.int .i64 tm],.box [.nils,.nils]])) (.ite (bif decide (tm<0) then true else decide ((1125899906842624:Int)<tm)) (.leaf (.ret [.agg [.nils,.nils],.int .i64 2] [.box [.int .i64 d],.box [.sl l.length 9 (evG l)],.box [.int .i64 tm],.box [.nils,.nils]])) (.ex (fun(x:List Ev×Int)=>eqL [AV.sl l.length 9 (evG l),AV.fn 26 [] [AV.ptr 0 0]] [AV.sl x.1.length 9 (evG x.1),AV.fn 26 [] [AV.ptr 0 0]]∧eqH [.box [AV.int .i64 tm]] [.box [AV.int .i64 x.2]]∧1=1∧x.1.length<1099511627776) fun n=>.all (fun(r:Int)=>r=idxB (fun(x:Ev)=>decide (n.2<Ev.entry x)) n.1) fun n_1=>.ite (decide (n_1<0)) (.side ((0:Int)≤l.length∧(↑l.length:Int)≤l.length) (.ex (fun(x:List Ev)=>eqL [AV.sl (Int.toNat (↑l.length:Int) - 0) 9 (zg (evG l) 0)] [AV.sl x.length 9 (evG x)]∧x.length<1099511627776∧∀ (e:Ev),e∈x→zp e) fun n_2=>.ite (Option.isSome (SS.play { evs:=[],lat:=[] } n_2)) (.all (fun(s:SS)=>SS.play { evs:=[],lat:=[] } n_2=some s) fun n_3=>.leaf (.loop (Prod.fst (lps K16 0)) (Prod.snd (lps K16 0)) [(2,.fn 18 [] [.ptr 0 0]),(6,.ptr 3 0),(11,.ptr 8 0),(46,.osl 7 9 0 (SS.lat n_3).length),(47,.int .i64 (↑(SS.lat n_3).length:Int)),(48,.int .i64 0),(71,.undef),(72,.undef),(73,.undef),(74,.undef)] [.box [.int .i64 d],.box [.sl l.length 9 (evG l)],.box [.int .i64 n.2],.box [.nils,.nils],.box [.osl 5 9 0 (SS.evs n_3).length,.omap 6,.osl 7 9 0 (SS.lat n_3).length],.arr (SS.evs n_3).length 9 (evG (SS.evs n_3)),Blk.map true [Sum.inl .u8,Sum.inr false,Sum.inr false,Sum.inl .i64] (zr (SS.lat n_3)) (z2 (SS.lat n_3)),.arr (SS.lat n_3).length 9 (evG (SS.lat n_3)),.box [.nils,.nils]])) .fail)) (.side ((0:Int)≤n_1∧n_1≤(↑l.length:Int)) (.ex (fun(x:List Ev)=>eqL [AV.sl (Int.toNat n_1 - 0) 9 (zg (evG l) 0)] [AV.sl x.length 9 (evG x)]∧x.length<1099511627776∧∀ (e:Ev),e∈x→zp e) fun n_2=>.ite (Option.isSome (SS.play { evs:=[],lat:=[] } n_2)) (.all (fun(s:SS)=>SS.play { evs:=[],lat:=[] } n_2=some s) fun n_3=>.leaf (.loop (Prod.fst (lps K16 0)) (Prod.snd (lps K16 0)) [(2,.fn 18 [] [.ptr 0 0]),(6,.ptr 3 0),(11,.ptr 8 0),(46,.osl 7 9 0 (SS.lat n_3).length),(47,.int .i64 (↑(SS.lat n_3).length:Int)),(48,.int .i64 0),(71,.undef),(72,.undef),(73,.undef),(74,.undef)] [.box [.int .i64 d],.box [.sl l.length 9 (evG l)],.box [.int .i64 n.2],.box [.nils,.nils],.box [.osl 5 9 0 (SS.evs n_3).length,.omap 6,.osl 7 9 0 (SS.lat n_3).length],.arr (SS.evs n_3).length 9 (evG (SS.evs n_3)),Blk.map true [Sum.inl .u8,Sum.inr false,Sum.inr false,Sum.inl .i64] (zr (SS.lat n_3)) (z2 (SS.lat n_3)),.arr (SS.lat n_3).length 9 (evG (SS.lat n_3)),.box [.nils,.nils]])) .fail))))) (by kernel_rfl) ?_
 simp only [Tree.holds,zd,bifO]
 have bad:∀ (z:Int) (h:Heap),(∃ rest,h = .box [.int .i64 d]::rest)→zy l tm (some d)=(([],[]),z)→RetR knPC 1 Q [.agg [.nils,.nils],.int .i64 z] h:=by
  intro z h ⟨rest,hh⟩ hr
  rw [hr] at hq
  subst hh
  exact RetR.keep [0] rfl (by simp) (by show ∀ j,j<1→_; decide) rfl hq (by simp [resV,exp2,exp1,exp0,ren0,eqA2,eqL1,envA,fxS,chS,za]) (by simp [expH,expB,exp1,exp0,ren0]) rfl
 refine⟨l,⟨by simp [evS,za],hp⟩,⟨_,rfl⟩,?_⟩
 rintro _ rfl
 refine⟨fun h=>bad _ _ ⟨_,rfl⟩ ?_,fun h=>⟨fun h2=>bad _ _ ⟨_,rfl⟩ ?_,fun h2=> ?_⟩⟩
 ·unfold zy
  rw [if_pos]
  cases hs:(SS.play ⟨[],[]⟩ l).isSome with
  | false=>rfl
  | true=>rw [hs] at h; simp at h
 ·have hv:(SS.play ⟨[],[]⟩ l).isSome=true:=by
   cases hs:(SS.play ⟨[],[]⟩ l).isSome with
   | true=>rfl
   | false=>rw [hs] at h; simp at h
  unfold zy
  rw [if_neg (by rw [hv]; decide),if_pos (by simpa using h2)]
 have hv:(SS.play ⟨[],[]⟩ l).isSome=true:=by
  cases hs:(SS.play ⟨[],[]⟩ l).isSome with
  | true=>rfl
  | false=>rw [hs] at h; simp at h
 obtain⟨hc1,hc2⟩:=Vq (l:=l) (tm:=tm)
 have hlp:∀ e∈l.take (cutE l tm),zp e:=fun e he=>hp.2 e (List.mem_of_mem_take he)
 have hpl:=hp.1
 have hpt:=ZK hv (cutE l tm)
 have fin:∀ s,SS.play ⟨[],[]⟩ (l.take (cutE l tm))=some s→jE s.lat∧s.lat.length≤1000∧zy l tm (some d)=qj (some d) s.lat ([],[]):=by
  intro s hs
  obtain⟨a1,a2,a3⟩:=KX hs
  refine⟨kL (s:=⟨[],[]⟩) (fun e he=>by simp at he) hlp hs,by rw [a1.len]; exact a3,?_⟩
  unfold zy
  rw [if_neg (by rw [hv]; decide),if_neg (by simpa using h2),hs]
 refine⟨(l,tm),⟨by simp [evS,za],by simp,trivial,hpl⟩,⟨_,rfl⟩,?_⟩
 rintro _ rfl
 dsimp only
 have done:∀ s,SS.play ⟨[],[]⟩ (l.take (cutE l tm))=some s→zc Try.prog Try.f16 O 1 w0 σ0 (fun _ _ _=>False) (RetR knPC 1 Q) (.code (.loop (lps K16 0).1)::(lps K16 0).2) (mk Try.f16.ntmps (wk s.lat 0) (qz s.lat d [] [])):=by
  intro s hs
  obtain⟨b1,b2,b3⟩:=fin s hs
  rw [b3] at hq
  exact KL s.lat d b1 b2 hq
 refine⟨fun hn=>⟨by omega,fun _=> ?_⟩,fun hn=> ?_⟩
 ·have hn:=of_decide_eq_true hn
  rw [if_pos hn] at hc1
  have e1:cutE l tm=l.length:=by omega
  refine⟨l.take (cutE l tm),⟨⟨⟨by rw [e1]; simp,rfl,by have:=xx hc2; simpa [e1] using this⟩,trivial⟩,by rw [List.length_take]; omega,hlp⟩,fun _=>⟨Option.isSome_iff_exists.1 hpt,fun s hs=> ?_⟩,fun g=>by rw [hpt] at g; cases g⟩
  refine zc.weak (S:=wk s.lat 0) (H:=qz s.lat d [] []) ⟨by simp [wk],by simp [qz,fxS,chS,za],by kernel_rfl,by simp [qz]⟩ (done s hs)
 ·have hn:=of_decide_eq_false hn
  rw [if_neg hn] at hc1
  refine⟨by omega,fun _=> ?_⟩
  have e1:(idxB (fun x:Ev=>decide (tm<x.entry)) l).toNat=cutE l tm:=by omega
  refine⟨l.take (cutE l tm),⟨⟨⟨by rw [e1,List.length_take]; omega,rfl,by have:=xx hc2; rw [e1]; simpa using this⟩,trivial⟩,by rw [List.length_take]; omega,hlp⟩,fun _=>⟨Option.isSome_iff_exists.1 hpt,fun s hs=> ?_⟩,fun g=>by rw [hpt] at g; cases g⟩
  refine zc.weak (S:=wk s.lat 0) (H:=qz s.lat d [] []) ⟨by simp [wk],by simp [qz,fxS,chS,za],by kernel_rfl,by simp [qz]⟩ (done s hs)
noncomputable def K9:List Go.Sx.Item:=[.code (Try.f9.body.getD .skip)]
theorem retE{ctr:Ctr}{Q:AV×Heap→Prop}{h:Heap}{f:List Fx}{c:List Ch}{z:Int}(hf:ctr.fresh=false)(hq:Q (.tup [envA f c,.int .i64 z],[])):RetR ctr 0 Q [.agg [.sl f.length 3 (fxG f),.sl c.length 4 (chG c)],.int .i64 z] h:=
 RetR.out0 hq (fun g=>by rw [hf] at g; cases g) (by simp [resV,exp2,exp1,exp0,ren0,eqA2,eqL1,envA,fxS,chS,za])
theorem retN{ctr:Ctr}{Q:AV×Heap→Prop}{h:Heap}{z:Int}(hf:ctr.fresh=false)(hq:Q (.tup [envA [] [],.int .i64 z],[])):RetR ctr 0 Q [.agg [.nils,.nils],.int .i64 z] h:=
 RetR.out0 hq (fun g=>by rw [hf] at g; cases g) (by simp [resV,exp2,exp1,exp0,ren0,eqA2,eqL1,envA,fxS,chS])
def Vc:Ctr:=ctrP false (fun p:List Ev×Int=>[.agg [evS p.1],.int .i64 p.2]) (fun p=>evP p.1) (fun p r=>r=zy p.1 p.2 none) (fun _ (r:EnvL×Int)=>(.tup [envA r.1.1 r.1.2,.int .i64 r.2],[]))
noncomputable def GVw:Nat→Option Ctr:=fun f=>if f=16 then some (knVC) else none
theorem zaq:∀ g c,GVw g=some c→zf Try.prog g c:=okIf zay (zx)
theorem ZP:zf Try.prog 7 Vc:=by
 refine zn (fn:=Try.f7) (c:=Try.f7.body.getD .skip) rfl rfl rfl fun p hp O w0 Q hq=> ?_
 obtain⟨l,tm⟩:=p
 replace hq:=hq _ rfl
 refine zc.run hmix zaq [] 400 (T:=.ex (fun(x:List Ev×Int)=>eqL [AV.agg [AV.sl l.length 9 (evG l)],AV.int .i64 tm,AV.fn 17 [] []] [AV.agg [AV.sl x.1.length 9 (evG x.1)],AV.int .i64 x.2,AV.fn 17 [] []]∧evP x.1) fun n=>.all (fun(r:EnvL×Int)=>r=zy n.1 n.2 none) fun n=>.leaf (.ret [.agg [.sl n.1.1.length 3 (fxG n.1.1),.sl n.1.2.length 4 (chG n.1.2)],.int .i64 n.2] [.box [.sl l.length 9 (evG l)],.box [.sl n.1.1.length 3 (fxG n.1.1),.sl n.1.2.length 4 (chG n.1.2)]])) (by kernel_rfl) ?_
 simp only [Tree.holds,zd]
 refine⟨(l,tm),⟨by simp [evS,za],hp⟩,⟨_,rfl⟩,?_⟩
 rintro _ rfl
 exact retE rfl hq
def U9:Ctr:=ctrP false (fun p:List Ev×Int×Int=>[.agg [evS p.1],.int .i64 p.2.1,.int .i64 p.2.2]) (fun p=>evP p.1) (fun p r=>r=uz p.1 p.2.1 p.2.2) (fun _ (r:EnvL×Int)=>(.tup [envA r.1.1 r.1.2,.int .i64 r.2],[]))
noncomputable def GPs:Nat→Option Ctr:=fun f=>if f=16 then some (knPC) else none
theorem zaz:∀ g c,GPs g=some c→zf Try.prog g c:=okIf zam (zx)
theorem YB:zf Try.prog 8 U9:=by
 refine zn (fn:=Try.f8) (c:=Try.f8.body.getD .skip) rfl rfl rfl fun p hp O w0 Q hq=> ?_
 obtain⟨l,tm,d⟩:=p
 replace hq:=hq _ rfl
 refine zc.run hmix zaz [] 400 (T:=.ex (fun(x:List Ev×Int×Int)=>eqL [AV.agg [AV.sl l.length 9 (evG l)],AV.int .i64 tm,AV.fn 18 [] [AV.ptr 0 0]] [AV.agg [AV.sl x.1.length 9 (evG x.1)],AV.int .i64 x.2.1,AV.fn 18 [] [AV.ptr 0 0]]∧eqH [.box [AV.int .i64 d]] [.box [AV.int .i64 x.2.2]]∧1=1∧evP x.1) fun n=>.all (fun(r:EnvL×Int)=>r=zy n.1 n.2.1 (some n.2.2)) fun n_1=>.ite (bif decide (n_1.2=0) then bif decide (n.2.2<0) then true else decide ((99999:Int)<n.2.2) else false) (.leaf (.ret [.agg [.nils,.nils],.int .i64 2] [.box [.sl l.length 9 (evG l)],.box [.int .i64 n.2.2],.box [.nils,.nils],.box [.sl n_1.1.1.length 3 (fxG n_1.1.1),.sl n_1.1.2.length 4 (chG n_1.1.2)]])) (.leaf (.ret [.agg [.sl n_1.1.1.length 3 (fxG n_1.1.1),.sl n_1.1.2.length 4 (chG n_1.1.2)],.int .i64 n_1.2] [.box [.sl l.length 9 (evG l)],.box [.int .i64 n.2.2],.box [.sl n_1.1.1.length 3 (fxG n_1.1.1),.sl n_1.1.2.length 4 (chG n_1.1.2)],.box [.sl n_1.1.1.length 3 (fxG n_1.1.1),.sl n_1.1.2.length 4 (chG n_1.1.2)]]))) (by kernel_rfl) ?_
 simp only [Tree.holds,zd]
 simp only [bifO,bifA]
 refine⟨(l,tm,d),⟨by simp [evS,za],by simp,trivial,hp⟩,⟨_,rfl⟩,?_⟩
 intro r hr
 replace hr:r=zy l tm (some d):=hr
 have e:uz l tm d=if r.2=0∧(d<0∨99999<d) then(([],[]),2) else r:=by unfold uz; rw [← hr]
 simp only [e] at hq
 dsimp only
 refine⟨fun h=> ?_,fun h=> ?_⟩
 ·have h:r.2=0∧(d<0∨99999<d):=by simpa using h
  rw [if_pos h] at hq
  exact retN rfl hq
 ·have h:¬ (r.2=0∧(d<0∨99999<d)):=by
   intro g
   have:(decide (r.2=0)&&(decide (d<0)||decide (99999<d)))=true:=by simpa using g
   rw [this] at h; cases h
  rw [if_neg h] at hq
  exact retE rfl hq
def STl(l:List Ev)(id:Int)(i n:Nat):KV:=[(1,.int .i64 id),(6,.osl 1 1 0 n),(24,evS l),(25,.int .i64 (l.length:Int)),(26,.int .i64 i)]
def JV:Ctr:=ctrP true (fun p:List Ev×Int=>[.agg [evS p.1],.int .i64 p.2]) (fun p=>evP p.1) (fun p r=>r=wi p.1 p.2) (fun _ (r:List Int×Int)=>(.tup [intS r.1,.int .i64 r.2],[]))
noncomputable def GTl:Nat→Option Ctr:=fun f=>if f=13 then some (kA) else none
theorem Yy:∀ g c,GTl g=some c→zf Try.prog g c:=okIf k9 (zx)
theorem Xc:zf Try.prog 9 JV:=by
 refine zn (fn:=Try.f9) (c:=Try.f9.body.getD .skip) rfl rfl rfl fun p hp O w0 Q hq=> ?_
 obtain⟨l,id⟩:=p
 replace hq:=hq _ rfl
 refine zc.run hmix Yy [1,6,24,25,26] 400 (T:=.ex (fun(x:List Ev)=>eqL [AV.agg [AV.sl l.length 9 (evG l)]] [AV.agg [AV.sl x.length 9 (evG x)]]∧evP x) fun n=>.all (fun(r:Int)=>r=if Option.isSome (SS.play { evs:=[],lat:=[] } n)=true then(0:Int) else(8:Int)) fun n=>.ite (!decide (n=0)) (.leaf (.ret [.nils,.int .i64 8] [.box [.sl l.length 9 (evG l)]])) (.ite (bif decide (id<1) then true else decide ((↑l.length:Int)<id)) (.leaf (.ret [.nils,.int .i64 6] [.box [.sl l.length 9 (evG l)]])) (.leaf (.loop (Prod.fst (lps K9 0)) (Prod.snd (lps K9 0)) [(1,.int .i64 id),(6,.osl 1 1 0 1),(24,.sl l.length 9 (evG l)),(25,.int .i64 l.length),(26,.int .i64 0)] [.box [.sl l.length 9 (evG l)],.arr 1 1 (zh 1 [.int .i64 id])])))) (by kernel_rfl) ?_
 simp only [Tree.holds,zd]
 simp only [bifO]
 have hl1:l.length<2^40:=hp.1
 have bad:∀ (z:Int) (h:Heap),wi l id=([],z)→RetR JV 0 Q [.nils,.int .i64 z] h:=fun z h hr=>by
  simp only [hr] at hq
  exact RetR.out0 hq (fun _=>by simp [resV,new2,new1,new0,zT]) (by simp [resV,exp2,exp1,exp0,ren0,eqA2,eqL1,intS])
 refine⟨l,⟨by simp [evS,za],hp⟩,⟨_,rfl⟩,?_⟩
 rintro _ rfl
 refine⟨fun h=>bad _ _ ?_,fun h=>⟨fun h2=>bad _ _ ?_,fun h2=> ?_⟩⟩
 ·unfold wi
  rw [if_pos]
  cases hs:(SS.play ⟨[],[]⟩ l).isSome with
  | false=>rfl
  | true=>rw [hs] at h; simp at h
 ·have hv:(SS.play ⟨[],[]⟩ l).isSome=true:=by
   cases hs:(SS.play ⟨[],[]⟩ l).isSome with
   | true=>rfl
   | false=>rw [hs] at h; simp at h
  unfold wi
  rw [if_neg (by rw [hv]; decide),if_pos (by simpa using h2)]
 have hv:(SS.play ⟨[],[]⟩ l).isSome=true:=by
  cases hs:(SS.play ⟨[],[]⟩ l).isSome with
  | true=>rfl
  | false=>rw [hs] at h; simp at h
 have hr:wi l id=(idsT l id l.length,0):=by
  unfold wi idsT
  rw [if_neg (by rw [hv]; decide),if_neg (by simpa using h2),List.take_length]
 simp only [hr] at hq
 refine zc.loop (ι:={i:Nat // i≤l.length}) (fun i=>STl l id i.1 (idsT l id i.1).length) (fun i=>[.dead,.arr (idsT l id i.1).length 1 (intG (idsT l id i.1))]) (fun i=>l.length - i.1) ⟨0,Nat.zero_le _⟩ 0 ?_ ?_ (by kernel_rfl)
 ·refine⟨by simp [STl,evS,za,idsT],⟨trivial,⟨by simp [idsT],rfl,?_⟩,trivial⟩,by kernel_rfl,Nat.zero_le _⟩
  intro j o hj ho
  obtain rfl:j=0:=by omega
  obtain rfl:o=0:=by omega
  rfl
 ·rintro⟨i,hil⟩
  obtain⟨m,hm⟩:∃ m,m=idsT l id i:=⟨_,rfl⟩
  have hml:=X3 l id i
  simp only [← hm] at hml ⊢
  refine zc.run hmix Yy [1,6,24,25,26] 400 (T:=.ite (decide ((↑i:Int)<l.length)) (.side ((0:Int)≤i∧(↑i:Int)<l.length) (.ite (decide (Ev.target (l.getD (↑i:Int).toNat Ev.nil)=id)) (.side (0=0∧m.length≤m.length∧(m.length+1)*8≤140737488355328) (.side (inR .i64 ((↑i:Int)+(1:Int))) (.leaf (.back 0 [(1,.int .i64 id),(6,.osl 1 1 0 (m.length+1)),(24,.sl l.length 9 (evG l)),(25,.int .i64 l.length),(26,.int .i64 ((↑i:Int)+(1:Int)))] [.dead,.arr (m.length+1) 1 (appG m.length (intG m) (zg (zh 1 [.int .i64 (Ev.id (l.getD (↑i:Int).toNat Ev.nil))]) 0)),.box [.int .u8 (Ev.kind (l.getD (↑i:Int).toNat Ev.nil)),.int .i64 (Ev.id (l.getD (↑i:Int).toNat Ev.nil)),.int .i64 (Ev.entry (l.getD (↑i:Int).toNat Ev.nil)),.int .i64 (Ev.target (l.getD (↑i:Int).toNat Ev.nil)),.int .i64 (Ev.date (l.getD (↑i:Int).toNat Ev.nil)),.str (Ev.zb (l.getD (↑i:Int).toNat Ev.nil)),.str (Ev.name (l.getD (↑i:Int).toNat Ev.nil)),.str (Ev.value (l.getD (↑i:Int).toNat Ev.nil)),.bool (Ev.first (l.getD (↑i:Int).toNat Ev.nil))],.arr 1 1 (zh 1 [.int .i64 (Ev.id (l.getD (↑i:Int).toNat Ev.nil))])])))) (.side (inR .i64 ((↑i:Int)+(1:Int))) (.leaf (.back 0 [(1,.int .i64 id),(6,.osl 1 1 0 m.length),(24,.sl l.length 9 (evG l)),(25,.int .i64 l.length),(26,.int .i64 ((↑i:Int)+(1:Int)))] [.dead,.arr m.length 1 (intG m),.box [.int .u8 (Ev.kind (l.getD (↑i:Int).toNat Ev.nil)),.int .i64 (Ev.id (l.getD (↑i:Int).toNat Ev.nil)),.int .i64 (Ev.entry (l.getD (↑i:Int).toNat Ev.nil)),.int .i64 (Ev.target (l.getD (↑i:Int).toNat Ev.nil)),.int .i64 (Ev.date (l.getD (↑i:Int).toNat Ev.nil)),.str (Ev.zb (l.getD (↑i:Int).toNat Ev.nil)),.str (Ev.name (l.getD (↑i:Int).toNat Ev.nil)),.str (Ev.value (l.getD (↑i:Int).toNat Ev.nil)),.bool (Ev.first (l.getD (↑i:Int).toNat Ev.nil))]]))))) (.leaf (.ret [.osl 1 1 0 m.length,.int .i64 0] [.dead,.arr m.length 1 (intG m)]))) (by kernel_rfl) ?_
  simp only [Tree.holds,zd,inR,lo,hi,Int.toNat_natCast,Nat.zero_add]
  refine⟨fun hlt=> ?_,fun hge=> ?_⟩
  ·have hlt:i<l.length:=by have:=of_decide_eq_true hlt; omega
   have hs:=VJ (id:=id) hlt
   refine⟨by omega,fun _=>⟨fun h=>⟨⟨trivial,Nat.le_refl _,by omega⟩,fun _=>⟨by omega,fun _=> ?_⟩⟩,fun h=>⟨by omega,fun _=> ?_⟩⟩⟩
   ·rw [if_pos trivial]
    rw [if_pos (of_decide_eq_true h),← hm] at hs
    refine⟨⟨i+1,hlt⟩,by show l.length - (i+1)<l.length - i; omega,⟨by simp [STl,evS,za,hs],⟨trivial,⟨by simp [hs],rfl,?_⟩,trivial⟩,by kernel_rfl,Nat.zero_le _⟩⟩
    simp only [hs]
    exact Xw (za _ _ _)
   ·rw [if_pos trivial]
    rw [if_neg (of_decide_eq_false h),← hm] at hs
    refine⟨⟨i+1,hlt⟩,by show l.length - (i+1)<l.length - i; omega,⟨by simp [STl,evS,za,hs],by simp [hs,za],by kernel_rfl,Nat.zero_le _⟩⟩
  ·have hge:i=l.length:=by have:=of_decide_eq_false hge; omega
   rw [← hge,← hm] at hq
   refine RetR.out0 hq (fun _=> ?_) ?_
   ·simp only [resV,new2,List.mem_cons,List.not_mem_nil,or_false,forall_eq_or_imp,forall_eq,new1,new0]
    exact⟨fun _=>by simp only [exp0,zo,frz1,qJ,List.getElem?_cons_succ,List.getElem?_cons_zero,if_true,Zj]; exact fun j o hj ho=>rfl,rfl⟩
   ·simp [resV,exp2,exp1,exp0,zo,frz1,qJ,ren0,eqA2,eqL1,intS]
    exact fun j o hj ho=>by simp [zg,intG]
def XL:Ctr:=ctrP true (fun p:List Ev×Ev=>[.agg [evS p.1],p.2.av]) (fun p=>evP p.1∧zp p.2) (fun p r=>r=appS p.1 p.2) (fun _ (r:List Ev×Int)=>(.tup [.agg [evS r.1],.int .i64 r.2],[]))
theorem Vk:zf Try.prog 5 XL:=zf.frozen Ud (fun p r _ _=>by
  simp only [new2,List.mem_cons,List.not_mem_nil,or_false,forall_eq_or_imp,forall_eq,new1,new0]
  refine⟨fun _=> ?_,rfl⟩
  simp only [exp0,zo,frz1,qJ,List.getElem?_cons_zero,if_true,Zj]
  exact fun j o hj ho=>WN _ _ _ ho) (fun p r _ _=>zR (by simp [exp2,exp1,exp0,zo,frz1,qJ,ren0,eqA2,eqL1,evS,k8]))
end Go.Proofs.Try
end
section
namespace Go.Nov
def acme:List UInt8:=[65,67,77,69]
def exL:List Ev:=[⟨1,1,50,0,46340,[],acme,[49,48],false⟩,⟨3,2,60,1,0,[],[],[49,49],false⟩,⟨5,3,70,1,0,[],[],[],false⟩,⟨1,4,70,0,46340,[],acme,[49,50],false⟩]
theorem Uh(i:Nat)(h:i<4):appS (exL.take i) (exL.getD i Ev.nil)=(exL.take (i+1),0):=by
 rcases(show i=0∨i=1∨i=2∨i=3 by omega) with rfl | rfl | rfl | rfl<;>decide +kernel
theorem wW:∀ e∈exL,zp e:=by
 intro e he
 simp only [exL,List.mem_cons,List.not_mem_nil,or_false] at he
 rcases he with rfl | rfl | rfl | rfl<;>exact⟨by decide,by decide,by decide⟩
theorem K6:zy exL 49 none=(([],[]),0)∧zy exL 50 none=(([⟨acme,46340,[49,48]⟩],[]),0)∧zy exL 60 none=(([⟨acme,46340,[49,49]⟩],[]),0)∧zy exL 69 none=(([⟨acme,46340,[49,49]⟩],[]),0)∧zy exL 70 none=(([⟨acme,46340,[49,50]⟩],[]),0)∧zy exL 1125899906842624 none=(([⟨acme,46340,[49,50]⟩],[]),0):=
 ⟨by kernel_rfl,by kernel_rfl,by kernel_rfl,by kernel_rfl,by kernel_rfl,by kernel_rfl⟩
end Go.Nov
end
section
set_option maxRecDepth 100000
open Go Go.Sx Go.Proofs Go.Nov
namespace Go.Proofs.Try
attribute [local simp] eqKV eqA eqA0 eqH eqB eqL eqL0
noncomputable def K4:List Go.Sx.Item:=[.code (Try.f4.body.getD .skip)]
def exaC:Ctr:=ctrP false (fun _:Unit=>[]) (fun _=>True) (fun _ (_:Unit)=>True) (fun _ _=>(.tup [.agg [evS exL],.bool true],[]))
def SXa(i:Nat):KV:=[(0,.ptr 0 0),(2,.ptr 1 0),(11,.osl 4 9 0 4),(12,.int .i64 4),(13,.int .i64 i)]
def HXa(i:Nat):Heap:=[.box [.nils],.box [evS (exL.take i)],.dead,.dead,.arr 4 9 (evG exL)]
noncomputable def fixI:Ctr:=inlC Try.prog noG 100 Try.f6
theorem zao:zf Try.prog 6 fixI:=ZQ hmix zA rfl rfl
noncomputable def GXa:Nat→Option Ctr:=fun f=>if f=5 then some (XL) else if f=6 then some (fixI) else none
theorem XV:∀ g c,GXa g=some c→zf Try.prog g c:=okIf Vk (okIf zao (zx))
theorem Ys:zf Try.prog 4 exaC:=by
 refine zn (fn:=Try.f4) (c:=Try.f4.body.getD .skip) rfl rfl rfl fun p hp O w0 Q hq=> ?_
 replace hq:=hq () trivial
 refine zc.run hmix XV [0,2,11,12,13] 400 (T:=.leaf (.loop (Prod.fst (lps K4 0)) (Prod.snd (lps K4 0)) [(0,.ptr 0 0),(2,.ptr 1 0),(11,.osl 4 9 0 4),(12,.int .i64 4),(13,.int .i64 0)] [.box [.nils],.box [.nils],.box [.int .u8 1,.int .i64 1,.int .i64 50,.int .i64 0,.int .i64 46340,.str #[].toList,.str #[(65:UInt8),(67:UInt8),(77:UInt8),(69:UInt8)].toList,.str #[(49:UInt8),(48:UInt8)].toList,.bool false],.box [.int .u8 1,.int .i64 4,.int .i64 70,.int .i64 0,.int .i64 46340,.str #[].toList,.str #[(65:UInt8),(67:UInt8),(77:UInt8),(69:UInt8)].toList,.str #[(49:UInt8),(50:UInt8)].toList,.bool false],.arr 4 9 (zh 9 [.int .u8 1,.int .i64 1,.int .i64 50,.int .i64 0,.int .i64 46340,.str #[].toList,.str #[(65:UInt8),(67:UInt8),(77:UInt8),(69:UInt8)].toList,.str #[(49:UInt8),(48:UInt8)].toList,.bool false,.int .u8 3,.int .i64 2,.int .i64 60,.int .i64 1,.int .i64 0,.str #[].toList,.str #[].toList,.str #[(49:UInt8),(49:UInt8)].toList,.bool false,.int .u8 5,.int .i64 3,.int .i64 70,.int .i64 1,.int .i64 0,.str #[].toList,.str #[].toList,.str #[].toList,.bool false,.int .u8 1,.int .i64 4,.int .i64 70,.int .i64 0,.int .i64 46340,.str #[].toList,.str #[(65:UInt8),(67:UInt8),(77:UInt8),(69:UInt8)].toList,.str #[(49:UInt8),(50:UInt8)].toList,.bool false])])) (by kernel_rfl) ?_
 simp only [Tree.holds,zd]
 refine zc.loop (ι:={i:Nat // i≤4}) (fun i=>SXa i.1) (fun i=>HXa i.1) (fun i=>4 - i.1) ⟨0,by decide⟩ 0 ?_ ?_ (by kernel_rfl)
 ·refine⟨by simp [SXa],⟨by simp,by simp [evS,exL],trivial,trivial,⟨rfl,rfl,fun j o hj ho=> ?_⟩,trivial⟩,by kernel_rfl,Nat.zero_le _⟩
  rcases(show j=0∨j=1∨j=2∨j=3 by omega) with rfl | rfl | rfl | rfl<;>rcases(show o=0∨o=1∨o=2∨o=3∨o=4∨o=5∨o=6∨o=7∨o=8 by omega) with rfl | rfl | rfl | rfl | rfl | rfl | rfl | rfl | rfl<;>rfl
 ·rintro⟨i,hi4⟩
  refine zc.run hmix XV [0,2,11,12,13] 400 (T:=.ite (decide ((↑i:Int)<4)) (.side ((0:Int)≤i∧(↑i:Int)<4) (.ex (fun(x:List Ev×Ev)=>eqL [AV.agg [AV.sl (List.take i exL).length 9 (evG (List.take i exL))],AV.agg [AV.int .u8 (Ev.kind (exL.getD (0+Int.toNat (↑i:Int)) Ev.nil)),AV.int .i64 (Ev.id (exL.getD (0+Int.toNat (↑i:Int)) Ev.nil)),AV.int .i64 (Ev.entry (exL.getD (0+Int.toNat (↑i:Int)) Ev.nil)),AV.int .i64 (Ev.target (exL.getD (0+Int.toNat (↑i:Int)) Ev.nil)),AV.int .i64 (Ev.date (exL.getD (0+Int.toNat (↑i:Int)) Ev.nil)),AV.str (Ev.zb (exL.getD (0+Int.toNat (↑i:Int)) Ev.nil)),AV.str (Ev.name (exL.getD (0+Int.toNat (↑i:Int)) Ev.nil)),AV.str (Ev.value (exL.getD (0+Int.toNat (↑i:Int)) Ev.nil)),AV.bool (Ev.first (exL.getD (0+Int.toNat (↑i:Int)) Ev.nil))]] [AV.agg [AV.sl x.1.length 9 (evG x.1)],AV.agg [AV.int .u8 x.2.kind,AV.int .i64 x.2.id,AV.int .i64 x.2.entry,AV.int .i64 x.2.target,AV.int .i64 x.2.date,AV.str x.2.zb,AV.str x.2.name,AV.str x.2.value,AV.bool x.2.first]]∧evP x.1∧zp x.2) fun n=>.all (fun(r:List Ev×Int)=>r=appS n.1 n.2) fun n=>.ite (!decide (n.2=0)) (.leaf (.ret [.agg [.sl (List.take i exL).length 9 (evG (List.take i exL))],.bool false] [.box [.sl (List.take i exL).length 9 (evG (List.take i exL))],.box [.sl (List.take i exL).length 9 (evG (List.take i exL))],.dead,.dead,.arr 4 9 (evG exL),.box [.int .u8 (Ev.kind (exL.getD (0+Int.toNat (↑i:Int)) Ev.nil)),.int .i64 (Ev.id (exL.getD (0+Int.toNat (↑i:Int)) Ev.nil)),.int .i64 (Ev.entry (exL.getD (0+Int.toNat (↑i:Int)) Ev.nil)),.int .i64 (Ev.target (exL.getD (0+Int.toNat (↑i:Int)) Ev.nil)),.int .i64 (Ev.date (exL.getD (0+Int.toNat (↑i:Int)) Ev.nil)),.str (Ev.zb (exL.getD (0+Int.toNat (↑i:Int)) Ev.nil)),.str (Ev.name (exL.getD (0+Int.toNat (↑i:Int)) Ev.nil)),.str (Ev.value (exL.getD (0+Int.toNat (↑i:Int)) Ev.nil)),.bool (Ev.first (exL.getD (0+Int.toNat (↑i:Int)) Ev.nil))],.box [.sl n.1.length 9 (evG n.1)]])) (.side (inR .i64 ((↑i:Int)+(1:Int))) (.leaf (.back 0 [(0,.ptr 0 0),(2,.ptr 1 0),(11,.osl 4 9 0 4),(12,.int .i64 4),(13,.int .i64 ((↑i:Int)+(1:Int)))] [.box [.nils],.box [.sl n.1.length 9 (evG n.1)],.dead,.dead,.arr 4 9 (evG exL),.box [.int .u8 (Ev.kind (exL.getD (0+Int.toNat (↑i:Int)) Ev.nil)),.int .i64 (Ev.id (exL.getD (0+Int.toNat (↑i:Int)) Ev.nil)),.int .i64 (Ev.entry (exL.getD (0+Int.toNat (↑i:Int)) Ev.nil)),.int .i64 (Ev.target (exL.getD (0+Int.toNat (↑i:Int)) Ev.nil)),.int .i64 (Ev.date (exL.getD (0+Int.toNat (↑i:Int)) Ev.nil)),.str (Ev.zb (exL.getD (0+Int.toNat (↑i:Int)) Ev.nil)),.str (Ev.name (exL.getD (0+Int.toNat (↑i:Int)) Ev.nil)),.str (Ev.value (exL.getD (0+Int.toNat (↑i:Int)) Ev.nil)),.bool (Ev.first (exL.getD (0+Int.toNat (↑i:Int)) Ev.nil))],.box [.sl n.1.length 9 (evG n.1)]]))))) (.leaf (.ret [.agg [.sl (List.take i exL).length 9 (evG (List.take i exL))],.bool true] [.box [.sl (List.take i exL).length 9 (evG (List.take i exL))],.box [.sl (List.take i exL).length 9 (evG (List.take i exL))],.dead,.dead,.arr 4 9 (evG exL)]))) (by kernel_rfl) ?_
  simp only [Tree.holds,zd,inR,lo,hi,Int.toNat_natCast,Nat.zero_add]
  refine⟨fun h=> ?_,fun h=> ?_⟩
  ·have hlt:i<4:=by have:=of_decide_eq_true h; omega
   refine⟨by omega,fun _=>⟨(exL.take i,exL.getD i Ev.nil),⟨by simp [Ev.av,evS,za],⟨by rw [List.length_take]; have:exL.length=4:=rfl; omega,fun e he=>wW e (List.mem_of_mem_take he)⟩,vp wW i⟩,⟨_,rfl⟩,?_⟩⟩
   intro r hr
   replace hr:r=(exL.take (i+1),0):=hr.trans (Uh i hlt)
   subst hr
   refine⟨fun g=>(by cases g),fun _=>⟨by omega,fun _=> ?_⟩⟩
   rw [if_pos trivial]
   exact⟨⟨i+1,hlt⟩,by show 4 - (i+1)<4 - i; omega,by simp [SXa],by simp [HXa,evS,za],by kernel_rfl,Nat.zero_le _⟩
  ·have hge:i=4:=by have:=of_decide_eq_false h; omega
   subst hge
   exact RetR.out0 hq (fun h=>by cases h) (by simp [resV,exp2,exp1,exp0,ren0,eqA2,eqL1,evS,exL,za])
def U7:Ctr:=ctrP true (fun p:List Ev×Int×List UInt8=>[.agg [evS p.1],.int .i64 p.2.1,.str p.2.2]) (fun p=>evP p.1) (fun p r=>zy p.1 p.2.1 none=(([⟨acme,46340,p.2.2⟩],[]),0)→r=true) (fun _ (r:Bool)=>(.bool r,[]))
noncomputable def GSs:Nat→Option Ctr:=fun f=>if f=7 then some (Vc) else if f=34 then some (JG) else none
theorem zal:∀ g c,GSs g=some c→zf Try.prog g c:=okIf ZP (okIf Yr (zx))
theorem Ur:zf Try.prog 21 U7:=by
 refine zn (fn:=Try.f21) (c:=Try.f21.body.getD .skip) rfl rfl rfl fun p hp O w0 Q hq=> ?_
 obtain⟨l,tm,v⟩:=p
 refine zc.run hmix zal [] 400 (T:=.ex (fun(x:List Ev×Int)=>eqL [AV.agg [AV.sl l.length 9 (evG l)],AV.int .i64 tm] [AV.agg [AV.sl x.1.length 9 (evG x.1)],AV.int .i64 x.2]∧evP x.1) fun n=>.all (fun(r:EnvL×Int)=>r=zy n.1 n.2 none) fun n=>.ite (decide (n.2=0) == true) (.ex (fun(x:(List Fx×List Ch)×List Fx×List Ch)=>decide (n.2=0)=true→eqL [AV.agg [AV.sl n.1.1.length 3 (fxG n.1.1),AV.sl n.1.2.length 4 (chG n.1.2)],AV.agg [AV.sl 1 3 (zg (zh 3 [AV.str #[(65:UInt8),(67:UInt8),(77:UInt8),(69:UInt8)].toList,AV.int .i64 46340,AV.str v]) 0),AV.nils]] [AV.agg [AV.sl x.1.1.length 3 (fxG x.1.1),AV.sl x.1.2.length 4 (chG x.1.2)],AV.agg [AV.sl x.2.1.length 3 (fxG x.2.1),AV.sl x.2.2.length 4 (chG x.2.2)]]∧x.1.1.length<1099511627776∧x.1.2.length<1099511627776) fun n_1=>.all (fun(x:Bool)=>decide (n.2=0)=true→(x=true↔n_1.1=n_1.2)) fun n_2=>.leaf (.ret [.bool (bif decide (n.2=0) then n_2 else false)] [.box [.sl l.length 9 (evG l)],.box [.sl n.1.1.length 3 (fxG n.1.1),.sl n.1.2.length 4 (chG n.1.2)],.arr 1 3 (zh 3 [.str #[(65:UInt8),(67:UInt8),(77:UInt8),(69:UInt8)].toList,.int .i64 46340,.str v])])) (.ex (fun(x:(List Fx×List Ch)×List Fx×List Ch)=>decide (n.2=0)=true→eqL [AV.agg [AV.sl n.1.1.length 3 (fxG n.1.1),AV.sl n.1.2.length 4 (chG n.1.2)],AV.agg [AV.nils,AV.nils]] [AV.agg [AV.sl x.1.1.length 3 (fxG x.1.1),AV.sl x.1.2.length 4 (chG x.1.2)],AV.agg [AV.sl x.2.1.length 3 (fxG x.2.1),AV.sl x.2.2.length 4 (chG x.2.2)]]∧x.1.1.length<1099511627776∧x.1.2.length<1099511627776) fun n_1=>.all (fun(x:Bool)=>decide (n.2=0)=true→(x=true↔n_1.1=n_1.2)) fun n_2=>.leaf (.ret [.bool (bif decide (n.2=0) then n_2 else false)] [.box [.sl l.length 9 (evG l)],.box [.sl n.1.1.length 3 (fxG n.1.1),.sl n.1.2.length 4 (chG n.1.2)]]))) (by kernel_rfl) ?_
 simp only [Tree.holds,zd]
 simp only [bifA]
 refine⟨(l,tm),⟨by simp [evS,za],hp⟩,⟨_,rfl⟩,?_⟩
 intro r hr
 replace hr:r=zy l tm none:=hr
 have hle:=VI l tm none
 rw [← hr] at hle hq
 refine⟨fun h=> ?_,fun h=> ?_⟩
 ·have h:r.2=0:=by simpa using h
  refine⟨(r.1,([⟨acme,46340,v⟩],[])),fun _=>⟨?_,Nat.lt_of_le_of_lt hle.1 (by decide),Nat.lt_of_le_of_lt hle.2 (by decide)⟩,?_,?_⟩
  ·refine⟨by simp [za],⟨⟨rfl,rfl,?_⟩,by simp,trivial⟩,trivial⟩
   intro j o hj ho
   obtain rfl:j=0:=by omega
   rcases(show o=0∨o=1∨o=2 by omega) with rfl | rfl | rfl<;>rfl
  ·by_cases hx:r.1=([⟨acme,46340,v⟩],[])
   ·exact⟨true,fun _=>⟨fun _=>hx,fun _=>rfl⟩⟩
   ·exact⟨false,fun _=>⟨fun g=>(by cases g),fun g=>absurd g hx⟩⟩
  ·intro b hb
   refine RetR.scal (hq _ ?_) rfl rfl
   intro g
   rw [g] at hb ⊢
   exact(hb rfl).2 rfl
 ·have h:¬ r.2=0:=by simpa using h
  refine⟨(r.1,([],[])),fun g=>absurd (of_decide_eq_true g) h,⟨true,fun g=>absurd (of_decide_eq_true g) h⟩,?_⟩
  intro b hb
  refine RetR.scal (hq _ ?_) rfl rfl
  intro g
  rw [g] at h
  exact absurd rfl h
def V4:Ctr:=ctrP true (fun _:Unit=>[]) (fun _=>True) (fun _ r=>r=true) (fun _ (r:Bool)=>(.bool r,[]))
noncomputable def GAe:Nat→Option Ctr:=fun f=>if f=4 then some (exaC) else if f=21 then some (U7) else if f=7 then some (Vc) else none
theorem za8:∀ g c,GAe g=some c→zf Try.prog g c:=okIf Ys (okIf Ur (okIf ZP (zx)))
theorem VS:zf Try.prog 12 V4:=by
 refine zn (fn:=Try.f12) (c:=Try.f12.body.getD .skip) rfl rfl rfl fun p hp O w0 Q hq=> ?_
 replace hq:=hq _ rfl
 refine zc.run hmix za8 [] 400 (T:=.ex (fun(x:Unit)=>eqL [] []∧True) fun n=>.all (fun(x:Unit)=>True) fun n=>.ex (fun(x:List Ev×Int)=>eqL [AV.agg [AV.sl 4 9 (evG exL)],AV.int .i64 49] [AV.agg [AV.sl x.1.length 9 (evG x.1)],AV.int .i64 x.2]∧evP x.1) fun n=>.all (fun(r:EnvL×Int)=>r=zy n.1 n.2 none) fun n=>.ex (fun(x:List Ev×Int×List UInt8)=>(bif true then decide ((4:Int)=4) else false)=true→eqL [AV.agg [AV.sl 4 9 (evG exL)],AV.int .i64 50,AV.str #[(49:UInt8),(48:UInt8)].toList] [AV.agg [AV.sl x.1.length 9 (evG x.1)],AV.int .i64 x.2.1,AV.str x.2.2]∧evP x.1) fun n_1=>.all (fun(x:Bool)=>(bif true then decide ((4:Int)=4) else false)=true→zy n_1.1 n_1.2.1 none=(([{ name:=acme,date:=(46340:Int),value:=n_1.2.2 }],[]),(0:Int))→x=true) fun n_2=>.ex (fun(x:List Ev×Int×List UInt8)=>(bif bif true then decide ((4:Int)=4) else false then n_2 else false)=true→eqL [AV.agg [AV.sl 4 9 (evG exL)],AV.int .i64 60,AV.str #[(49:UInt8),(49:UInt8)].toList] [AV.agg [AV.sl x.1.length 9 (evG x.1)],AV.int .i64 x.2.1,AV.str x.2.2]∧evP x.1) fun n_3=>.all (fun(x:Bool)=>(bif bif true then decide ((4:Int)=4) else false then n_2 else false)=true→zy n_3.1 n_3.2.1 none=(([{ name:=acme,date:=(46340:Int),value:=n_3.2.2 }],[]),(0:Int))→x=true) fun n_4=>.ex (fun(x:List Ev×Int×List UInt8)=>(bif bif bif true then decide ((4:Int)=4) else false then n_2 else false then n_4 else false)=true→eqL [AV.agg [AV.sl 4 9 (evG exL)],AV.int .i64 69,AV.str #[(49:UInt8),(49:UInt8)].toList] [AV.agg [AV.sl x.1.length 9 (evG x.1)],AV.int .i64 x.2.1,AV.str x.2.2]∧evP x.1) fun n_5=>.all (fun(x:Bool)=>(bif bif bif true then decide ((4:Int)=4) else false then n_2 else false then n_4 else false)=true→zy n_5.1 n_5.2.1 none=(([{ name:=acme,date:=(46340:Int),value:=n_5.2.2 }],[]),(0:Int))→x=true) fun n_6=>.ex (fun(x:List Ev×Int×List UInt8)=>(bif bif bif bif true then decide ((4:Int)=4) else false then n_2 else false then n_4 else false then n_6 else false)=true→eqL [AV.agg [AV.sl 4 9 (evG exL)],AV.int .i64 70,AV.str #[(49:UInt8),(50:UInt8)].toList] [AV.agg [AV.sl x.1.length 9 (evG x.1)],AV.int .i64 x.2.1,AV.str x.2.2]∧evP x.1) fun n_7=>.all (fun(x:Bool)=>(bif bif bif bif true then decide ((4:Int)=4) else false then n_2 else false then n_4 else false then n_6 else false)=true→zy n_7.1 n_7.2.1 none=(([{ name:=acme,date:=(46340:Int),value:=n_7.2.2 }],[]),(0:Int))→x=true) fun n_8=>.ex (fun(x:List Ev×Int×List UInt8)=>(bif bif bif bif bif true then decide ((4:Int)=4) else false then n_2 else false then n_4 else false then n_6 else false then n_8 else false)=true→eqL [AV.agg [AV.sl 4 9 (evG exL)],AV.int .i64 1125899906842624,AV.str #[(49:UInt8),(50:UInt8)].toList] [AV.agg [AV.sl x.1.length 9 (evG x.1)],AV.int .i64 x.2.1,AV.str x.2.2]∧evP x.1) fun n_9=>.all (fun(x:Bool)=>(bif bif bif bif bif true then decide ((4:Int)=4) else false then n_2 else false then n_4 else false then n_6 else false then n_8 else false)=true→zy n_9.1 n_9.2.1 none=(([{ name:=acme,date:=(46340:Int),value:=n_9.2.2 }],[]),(0:Int))→x=true) fun n_10=>.leaf (.ret [.bool (bif bif bif bif bif bif bif bif true then decide ((4:Int)=4) else false then n_2 else false then n_4 else false then n_6 else false then n_8 else false then n_10 else false then decide (n.2=0) else false then decide ((↑n.1.1.length:Int)=0) else false)] [.box [.sl 4 9 (evG exL)],.box [.sl n.1.1.length 3 (fxG n.1.1),.sl n.1.2.length 4 (chG n.1.2)]])) (by kernel_rfl) ?_
 simp only [Tree.holds,zd]
 have hE:evP exL:=⟨by decide,wW⟩
 obtain⟨v1,v2,v3,v4,v5,v6⟩:=K6
 simp only [bifA,Bool.true_and,decide_true]
 refine⟨(),⟨trivial,trivial⟩,⟨(),trivial⟩,fun _ _=> ?_⟩
 refine⟨(exL,49),⟨⟨⟨⟨rfl,rfl,za _ _ _⟩,trivial⟩,⟨rfl,rfl⟩,trivial⟩,hE⟩,⟨_,rfl⟩,?_⟩
 intro r hr
 replace hr:r=(([],[]),0):=hr.trans v1
 subst hr
 refine⟨(exL,50,[49,48]),fun _=>⟨⟨⟨⟨rfl,rfl,za _ _ _⟩,trivial⟩,⟨rfl,rfl⟩,rfl,trivial⟩,hE⟩,⟨true,fun _ _=>rfl⟩,?_⟩
 intro b0 hb0
 replace hb0:b0=true:=hb0 trivial v2
 subst hb0
 refine⟨(exL,60,[49,49]),fun _=>⟨⟨⟨⟨rfl,rfl,za _ _ _⟩,trivial⟩,⟨rfl,rfl⟩,rfl,trivial⟩,hE⟩,⟨true,fun _ _=>rfl⟩,?_⟩
 intro b1 hb1
 replace hb1:b1=true:=hb1 rfl v3
 subst hb1
 refine⟨(exL,69,[49,49]),fun _=>⟨⟨⟨⟨rfl,rfl,za _ _ _⟩,trivial⟩,⟨rfl,rfl⟩,rfl,trivial⟩,hE⟩,⟨true,fun _ _=>rfl⟩,?_⟩
 intro b2 hb2
 replace hb2:b2=true:=hb2 rfl v4
 subst hb2
 refine⟨(exL,70,[49,50]),fun _=>⟨⟨⟨⟨rfl,rfl,za _ _ _⟩,trivial⟩,⟨rfl,rfl⟩,rfl,trivial⟩,hE⟩,⟨true,fun _ _=>rfl⟩,?_⟩
 intro b3 hb3
 replace hb3:b3=true:=hb3 rfl v5
 subst hb3
 refine⟨(exL,1125899906842624,[49,50]),fun _=>⟨⟨⟨⟨rfl,rfl,za _ _ _⟩,trivial⟩,⟨rfl,rfl⟩,rfl,trivial⟩,hE⟩,⟨true,fun _ _=>rfl⟩,?_⟩
 intro b4 hb4
 replace hb4:b4=true:=hb4 rfl v6
 subst hb4
 exact RetR.scal hq rfl rfl
theorem wM{f:List Fx}{c:List Ch}{x:Fx} : (putF f c x).1.1.length≤1000∧(putF f c x).1.2.length≤1000:=by
 unfold putF
 by_cases h0:errE f c≠0
 ·rw [if_pos h0]; simp
 ·rw [if_neg h0]
  have h:=WD.1 (Classical.not_not.1 h0)
  split
  ·simp
  ·split
   ·simp
   ·split
    ·simp
    ·simp only; omega
end Go.Proofs.Try
end
section
namespace Go.Nov
def fixE(i t:Int)(v:List UInt8):Ev:=⟨1,i,t,0,46340,[],acme,v,false⟩
def chE(i:Int):Ev:=⟨2,i,71,0,3,[97],[98],[],false⟩
def sdE:Ev:=⟨4,6,80,5,0,[],[],[],true⟩
def nL1:List Ev:=exL++[chE 5]
def nL2:List Ev:=nL1++[sdE]
def nBad:List Ev:=[fixE 2 0 [49]]
theorem sn_e:appS exL (chE 5)=(nL1,0):=by kernel_rfl
theorem sn_f:(appS nL1 (fixE 7 71 [49])).2=2:=by decide +kernel
theorem sn_g:(appS nL1 (fixE 6 70 [49])).2=21:=by decide +kernel
theorem sn_h:(appS nL1 (fixE 6 71 [49])).2=24:=by decide +kernel
theorem sn_i:(appS nL1 (fixE 6 71 [120])).2=2:=by decide +kernel
theorem sn_j:(appS nL1 ⟨3,6,71,1,0,[],[],[49],false⟩).2=6:=by decide +kernel
theorem sn_k:(appS nL1 ⟨5,6,71,2,0,[],[],[],false⟩).2=6:=by decide +kernel
theorem sn_l:(appS nL1 ⟨3,6,71,5,0,[],[],[49],false⟩).2=32:=by decide +kernel
theorem sn_m:(appS nL1 ⟨4,6,71,4,0,[],[],[],false⟩).2=32:=by decide +kernel
theorem sn_n:(appS nL1 (chE 6)).2=24:=by decide +kernel
theorem sn_o:appS nL1 sdE=(nL2,0):=by kernel_rfl
theorem sn_p:zy nL2 79 none=(([⟨acme,46340,[49,50]⟩],[⟨[97],[98],3,false⟩]),0):=by kernel_rfl
theorem sn_q:zy nL2 80 none=(([⟨acme,46340,[49,50]⟩],[⟨[97],[98],3,true⟩]),0):=by kernel_rfl
theorem sn_r:uz nL2 80 46339=(([],[⟨[97],[98],3,true⟩]),0):=by kernel_rfl
theorem sn_t:(uz nL2 80 100000).2=2:=by decide +kernel
theorem sn_u:(zy nL2 (-1) none).2=2:=by decide +kernel
theorem sn_v:wi nL2 1=([1,2,3],0):=by kernel_rfl
theorem sn_w:(wi nL2 7).2=6:=by decide +kernel
theorem sn_x:(wi nL2 0).2=6:=by decide +kernel
theorem sn_y:(zy nBad (-1) none).2=8:=by decide +kernel
theorem sn_z:(appS nBad (fixE 1 0 [49])).2=8:=by decide +kernel
theorem sn_1:(SS.play ⟨[],[]⟩ nBad).isSome=false:=by decide +kernel
theorem sn_2:(SS.play ⟨[],[]⟩ nL2).isSome=true:=by decide +kernel
theorem ZM:∀ e∈nL1,zp e:=by
 intro e he
 simp only [nL1,List.mem_append,List.mem_cons,List.not_mem_nil,or_false] at he
 rcases he with he | rfl
 ·exact wW e he
 ·exact⟨by decide,by decide,by decide⟩
theorem VX:∀ e∈nL2,zp e:=by
 intro e he
 simp only [nL2,List.mem_append,List.mem_cons,List.not_mem_nil,or_false] at he
 rcases he with he | rfl
 ·exact ZM e he
 ·exact⟨by decide,by decide,by decide⟩
theorem Wn:∀ e∈nBad,zp e:=by
 intro e he
 simp only [nBad,List.mem_cons,List.not_mem_nil,or_false] at he
 subst he
 exact⟨by decide,by decide,by decide⟩
end Go.Nov
end
section
namespace Go.Sx
variable [Stat]
section
variable {O:Nat→Prop} {pin:Nat} {w0:World} {σ0:List SE} {P:Program} {fn:Func} {Xp:List PanicEntry→Prop}
def fstC:Code→Code
 | .seq a _=>a
 | c=>c
def sndC:Code→Code
 | .seq _ b=>b
 | c=>c
def blkC:Code→Code
 | .block _ c=>c
 | c=>c
def blkI:Code→Nat
 | .block i _=>i
 | _=>0
theorem zc.cut{M:Option Nat}{ι:Type}{Hs:Nat→KV→Heap→Prop}{R:List AV→Heap→Prop}{k:List Item}{c:Code}{st:St}(S:ι→KV)(H:ι→Heap)(dk:Nat)
  (h1:z7 Xp M P fn O pin w0 σ0 (fun d kv h=>if d=dk then ∃ x,LeK pin fn.ntmps kv h (S x) (H x) else Hs d kv h) R (.code c::.inLoop::k) st) (hd:qR k=dk)
  (h2:∀ x,z7 Xp M P fn O pin w0 σ0 Hs R k (mk fn.ntmps (S x) (H x))):z7 Xp M P fn O pin w0 σ0 Hs R (.code c::k) st:=by
 subst hd
 intro w σ a hm
 have:=h1 w σ a hm
 simp only [wpK] at this ⊢
 refine wpIn_mono this fun e a' w' he=> ?_
 cases e with
 | normal=>
  simp only [wpK] at he
  obtain⟨st',σ',⟨kv,h,hh,rfl⟩,hm'⟩:=he
  rw [if_pos trivial] at hh
  obtain⟨x,hle⟩:=hh
  exact h2 x w' _ a' (hle.le.mod hm')
 | _=>
  simp only [wpK] at he
  refine q7 (fun d a w hd hh=> ?_) he
  obtain⟨st',σ',⟨kv,h,hh,rfl⟩,hm'⟩:=hh
  rw [if_neg (by omega)] at hh
  exact⟨_,σ',⟨kv,h,hh,rfl⟩,hm'⟩
theorem zc.seq{M:Option Nat}{Hs:Nat→KV→Heap→Prop}{R:List AV→Heap→Prop}{k:List Item}{c:Code}{st:St}(hc:c = .seq (fstC c) (sndC c))
  (h:z7 Xp M P fn O pin w0 σ0 Hs R (.code (fstC c)::.code (sndC c)::k) st):z7 Xp M P fn O pin w0 σ0 Hs R (.code c::k) st:=by
 rw [hc]
 generalize fstC c=a at h
 generalize sndC c=b at h
 intro w σ act hm
 have:=h w σ act hm
 simp only [wpK] at this ⊢
 refine wpIn_seq (wpIn_mono this fun e a w h=> ?_)
 cases e<;>exact h
theorem zc.block{M:Option Nat}{Hs:Nat→KV→Heap→Prop}{R:List AV→Heap→Prop}{k:List Item}{c:Code}{st:St}(hc:c = .block (blkI c) (blkC c))
  (h:z7 Xp M P fn O pin w0 σ0 Hs R (.code (blkC c)::.inBlock (blkI c)::k) st):z7 Xp M P fn O pin w0 σ0 Hs R (.code c::k) st:=by
 rw [hc]
 generalize blkC c=a at h
 generalize blkI c=i at h
 intro w σ act hm
 have:=h w σ act hm
 simp only [wpK] at this ⊢
 refine wpIn_block (wpIn_mono this fun e a w h=> ?_)
 cases e<;>exact h
end
end Go.Sx
end
section
namespace Go.Sx
variable [Stat]
section
variable {O:Nat→Prop} {pin:Nat} {w0:World} {σ0:List SE} {P:Program} {fn:Func} {Xp:List PanicEntry→Prop}
def xT:Nat→Code→List Item
 | n+1,.seq a b=>.code a::xT n b
 | _,c=>[.code c]
theorem u3{M:Option Nat}{H:Nat→Act→World→Prop}{B:Exit→Act→World→Prop}{k:List Item}{e:Exit}(he:e≠.normal){a:Act}{w:World} : ∀ (n:Nat) (c:Code),wpK M P H B (xT n c++k) e a w→wpK M P H B k e a w
 | 0,c,h=>by cases c<;>cases e<;>first | exact absurd rfl he | exact h
 | n+1,c,h=>by
  cases c with
  | seq x y=>cases e<;>first | exact absurd rfl he | exact u3 he n y h
  | _=>cases e<;>first | exact absurd rfl he | exact h
theorem Ze{M:Option Nat}{H:Nat→Act→World→Prop}{B:Exit→Act→World→Prop} : ∀ (n:Nat) (c:Code) (k:List Item) (a:Act) (w:World),wpK M P H B (xT n c++k) .normal a w→wpK M P H B (.code c::k) .normal a w
 | 0,c,k,a,w,h=>by cases c<;>exact h
 | n+1,c,k,a,w,h=>by
  cases c with
  | seq x y=>
   simp only [xT,List.cons_append,wpK] at h ⊢
   refine wpIn_seq (wpIn_mono h fun e a w h=> ?_)
   cases e with
   | normal=>exact Ze n y k a w h
   | _=>exact u3 (by simp) n y h
  | _=>exact h
theorem zc.spine{M:Option Nat}{Hs:Nat→KV→Heap→Prop}{R:List AV→Heap→Prop}{k:List Item}{c:Code}{st:St}(n:Nat)(h:z7 Xp M P fn O pin w0 σ0 Hs R (Go.Sx.xT n c++k) st):z7 Xp M P fn O pin w0 σ0 Hs R (.code c::k) st:=
 fun w σ a hm=>Ze n c k a w (h w σ a hm)
def yQ:Item→Bool
 | .inLoop=>false
 | _=>true
theorem vG{M:Option Nat}{H H':Nat→Act→World→Prop}{B:Exit→Act→World→Prop}{k:List Item}(h1:∀ a w,H' (qR k) a w→wpK M P H B k .normal a w)(h2:∀ d a w,d<qR k→H' d a w→H d a w) :
  ∀ (ks:List Item),ks.all yQ=true→∀ (e:Exit) (a:Act) (w:World),wpK M P H' B (ks++.inLoop::k) e a w→wpK M P H B (ks++k) e a w
 | [],_,e,a,w,h=>by
  cases e with
  | normal=>exact h1 a w h
  | _=>exact q7 (k:=k) (fun d a w hd h=>h2 d a w hd h) h
 | .code c::ks,hf,e,a,w,h=>by
  have hf':ks.all yQ=true:=by simpa [yQ] using hf
  cases e with
  | normal=>exact wpIn_mono h fun e a w h=>vG h1 h2 ks hf' e a w h
  | _=>exact vG h1 h2 ks hf' _ a w h
 | .inBlock id::ks,hf,e,a,w,h=>by
  have hf':ks.all yQ=true:=by simpa [yQ] using hf
  cases e with
  | normal=>exact vG h1 h2 ks hf' _ a w h
  | exit i=>
   simp only [List.cons_append,wpK] at h ⊢
   split at h
   ·rename_i hi; rw [if_pos hi]; exact vG h1 h2 ks hf' _ a w h
   ·rename_i hi; rw [if_neg hi]; exact vG h1 h2 ks hf' _ a w h
  | _=>exact vG h1 h2 ks hf' _ a w h
 | .inLoop::ks,hf,e,a,w,h=>by simp [yQ] at hf
theorem zc.cutL{M:Option Nat}{ι:Type}{Hs:Nat→KV→Heap→Prop}{R:List AV→Heap→Prop}{st:St}(L:List Item)(m dk:Nat)(S:ι→KV)(H:ι→Heap)(hf:(L.take m).all yQ=true)(hd:qR (L.drop m)=dk)
  (h1:z7 Xp M P fn O pin w0 σ0 (fun d kv h=>if d=dk then ∃ x,LeK pin fn.ntmps kv h (S x) (H x) else Hs d kv h) R (L.take m++.inLoop::L.drop m) st)
  (h2:∀ x,z7 Xp M P fn O pin w0 σ0 Hs R (L.drop m) (mk fn.ntmps (S x) (H x))):z7 Xp M P fn O pin w0 σ0 Hs R L st:=by
 subst hd
 intro w σ a hm
 have:=h1 w σ a hm
 rw [← List.take_append_drop m L]
 refine vG ?_ ?_ (L.take m) hf .normal a w this
 ·rintro a' w' ⟨st',σ',⟨kv,h,hh,rfl⟩,hm'⟩
  rw [if_pos rfl] at hh
  obtain⟨x,hle⟩:=hh
  exact h2 x w' _ a' (hle.le.mod hm')
 ·rintro d a' w' hd ⟨st',σ',⟨kv,h,hh,rfl⟩,hm'⟩
  rw [if_neg (by omega)] at hh
  exact⟨_,σ',⟨kv,h,hh,rfl⟩,hm'⟩
end
end Go.Sx
end
section
namespace Go.Sx
variable [Stat]
section
variable {O:Nat→Prop} {pin:Nat} {w0:World} {σ0:List SE} {w:World} {σ:List SE} {P:Program} {st:St} {a:Act} {fn:Func} {Xp:List PanicEntry→Prop}
def XR(K:List Nat)(h:Heap):Blk→Blk
 | .box cs=>.box (cs.map (wG K h))
 | b=>b
def yR(K:List Nat)(h:Heap):Heap:=h.map (XR K h)
theorem Z4(i:Nat):∀ (K:List Nat) (h:Heap),(zw K h)[i]?=(h[i]?).map fun b=>K.foldl (fun b i=>ZC i b) b
 | [],h=>by simp [zw]
 | j::K,h=>by
  rw [zw,Z4 i K]
  simp only [List.getElem?_map,Option.map_map,List.foldl_cons]
  rfl
theorem Zi{b:Blk}(hb:∀ cs,b≠.box cs):∀ K:List Nat,K.foldl (fun b i=>ZC i b) b=b
 | []=>rfl
 | j::K=>by
  have:ZC j b=b:=by
   cases b with
   | box cs=>exact absurd rfl (hb cs)
   | _=>rfl
  rw [List.foldl_cons,this,Zi hb K]
theorem VV{h:Heap}(hg:Good O w σ)(hh:HRep (Own O σ) w σ h)(K:List Nat):HRep (Own O (frzS K σ)) w (frzS K σ) (qM K (yR K h)):=by
 have h0:=wX hh K
 refine⟨?_,h0.inj,h0.lt,fun i e b he hb=> ?_⟩
 ·have:(qM K (yR K h)).length=(qM K (zw K h)).length:=by
   have e1:(zw K h).length=h.length:=by
    have:∀ (K:List Nat) (h:Heap),(zw K h).length=h.length:=by
     intro K
     induction K with
     | nil=>intro h; rfl
     | cons j K ih=>intro h; rw [zw,ih]; simp
    exact this K h
   simp [qM,yR,e1]
  rw [this]
  exact h0.len
 ·rw [qA] at hb
  simp only [yR,List.getElem?_map] at hb
  cases hi:h[i]? with
  | none=>simp [hi] at hb
  | some b0=>
   simp only [hi,Option.map_some,Option.some.injEq] at hb
   by_cases hk:K.contains i=true
   ·rw [if_pos hk] at hb; subst hb; trivial
   ·rw [if_neg hk] at hb
    have hget:(qM K (zw K h))[i]?=some (K.foldl (fun b i=>ZC i b) b0):=by
     rw [qA,Z4,hi]
     simp only [Option.map_some]
     rw [if_neg hk]
    by_cases hx:∃ cs,b0 = .box cs
    ·obtain⟨cs,rfl⟩:=hx
     subst hb
     have he':σ[i]?=some e:=by
      rw [q6] at he
      cases hs:σ[i]? with
      | none=>simp [hs] at he
      | some f=>
       simp only [hs,Option.map_some,Option.some.injEq] at he
       rw [if_neg (by simpa using hk)] at he
       rw [he]
     have hb0:=hh.blk i e _ he' hi
     simp only [XR,BRep] at hb0 ⊢
     obtain⟨ad,vs,el,h1,h2,h3,h4⟩:=hb0
     exact⟨ad,vs,el,h1,h2,h3,js (fun a _ v hr=>kT hg hh hr) h4⟩
    ·have hflat:∀ cs,b0≠.box cs:=fun cs he=>hx ⟨cs,he⟩
     have e2:XR K h b0=b0:=by
      cases b0 with
      | box cs=>exact absurd rfl (hflat cs)
      | _=>rfl
     rw [Zi hflat] at hget
     rw [e2] at hb
     subst hb
     exact h0.blk i e _ he hget
def JN(K:List Nat)(st:St):St:=⟨st.tmps.map (wG K st.heap),qM K (yR K st.heap)⟩
theorem XI(hm:Mod O pin w0 σ0 w σ st a){K:List Nat}(hK:∀ i∈K,pin≤i)(hno:st.tmps.all zB=true):Mod O pin w0 σ0 w (frzS K σ) (JN K st) a:=by
 have h1:=Y6 hm hK hno
 exact⟨h1.good,VV hm.good hm.hp K,h1.size,h1.tm,h1.df,h1.since,h1.lim⟩
theorem zc.YF{M:Option Nat}{Hs:Nat→KV→Heap→Prop}{R:List AV→Heap→Prop}{k:List Item}{kv:KV}{h:Heap}(K:List Nat)(hK:∀ i∈K,pin≤i)(hno:(pk fn.ntmps kv).all zB=true)
  (H:z7 Xp M P fn O pin w0 σ0 Hs R k (mk fn.ntmps (Vw K h kv) (qM K (yR K h)))):z7 Xp M P fn O pin w0 σ0 Hs R k (mk fn.ntmps kv h):=by
 intro w σ a hm
 have h1:=XI hm hK hno
 have e:JN K (mk fn.ntmps kv h)=mk fn.ntmps (Vw K h kv) (qM K (yR K h)):=by
  simp only [JN,mk,pk,List.map_map]
  congr 1
  apply List.map_congr_left
  intro t _
  simp only [Function.comp_apply,KK]
 rw [e] at h1
 exact H w _ a h1
end
end Go.Sx
end
section
set_option maxRecDepth 100000
open Go Go.Sx Go.Proofs Go.Nov
namespace Go.Proofs.Try
attribute [local simp] eqKV eqA eqA0 eqH eqB eqL eqL0
noncomputable def K11:List Go.Sx.Item:=[.code (Try.f11.body.getD .skip)]
def Yx:Ctr:=ctrP true (fun p:List Int×List Int=>[intS p.1,intS p.2]) (fun p=>p.1.length<2^40) (fun p r=>(r=true↔p.1=p.2)) (fun _ (r:Bool)=>(.bool r,[]))
def SSi(a b:List Int)(i:Nat):KV:=[(0,intS a),(1,intS b),(5,.int .i64 i)]
theorem XK:zf Try.prog 11 Yx:=by
 refine zn (fn:=Try.f11) (c:=Try.f11.body.getD .skip) rfl rfl rfl fun p hp O w0 Q hq=> ?_
 obtain⟨a,b⟩:=p
 refine zc.run hmix zA [0,1,5] 400 (T:=.ite (!decide ((↑a.length:Int)=b.length)) (.leaf (.ret [.bool false] [])) (.leaf (.loop (Prod.fst (lps K11 0)) (Prod.snd (lps K11 0)) [(0,.sl a.length 1 fun(j x:Nat)=>.int .i64 (a.getD j (0:Int))),(1,.sl b.length 1 fun(j x:Nat)=>.int .i64 (b.getD j (0:Int))),(5,.int .i64 0)] []))) (by kernel_rfl) ?_
 simp only [Tree.holds,zd]
 refine⟨fun h=>RetR.scal (hq false ?_) rfl rfl,fun h=> ?_⟩
 ·refine⟨fun g=>(by cases g),fun g=> ?_⟩
  rw [show a=b from g] at h; simp at h
 have hlen:a.length=b.length:=by
  have:(a.length:Int)=b.length:=by simpa using h
  omega
 have ha:a.length<2^40:=hp
 refine zc.loop (ι:={i:Nat // i≤a.length∧∀ j,j<i→a.getD j 0=b.getD j 0}) (fun i=>SSi a b i.1) (fun _=>[]) (fun i=>a.length - i.1) ⟨0,Nat.zero_le _,fun j hj=>by omega⟩ 0 ?_ ?_ (by kernel_rfl)
 ·exact⟨by simp [SSi,intS]; exact⟨za _ _ _,za _ _ _⟩,by simp,by kernel_rfl,Nat.zero_le _⟩
 ·rintro⟨i,hil,hbe⟩
  refine zc.run hmix zA [0,1,5] 400 (T:=.ite (decide ((↑i:Int)<a.length)) (.side ((0:Int)≤i∧(↑i:Int)<a.length) (.side ((0:Int)≤i∧(↑i:Int)<b.length) (.ite (!decide (a.getD (↑i:Int).toNat (0:Int)=List.getD b (↑i:Int).toNat (0:Int))) (.leaf (.ret [.bool false] [])) (.side (inR .i64 ((↑i:Int)+(1:Int))) (.leaf (.back 0 [(0,.sl a.length 1 fun(j x:Nat)=>.int .i64 (a.getD j (0:Int))),(1,.sl b.length 1 fun(j x:Nat)=>.int .i64 (b.getD j (0:Int))),(5,.int .i64 ((↑i:Int)+(1:Int)))] [])))))) (.leaf (.ret [.bool true] []))) (by kernel_rfl) ?_
  simp only [Tree.holds,zd,Int.toNat_natCast,inR,lo,hi]
  refine⟨fun h=> ?_,fun h=> ?_⟩
  ·have hlt:i<a.length:=by have:=of_decide_eq_true h; omega
   refine⟨by omega,fun _=>⟨by omega,fun _=>⟨fun h=> ?_,fun h=>⟨by omega,fun _=> ?_⟩⟩⟩⟩
   ·refine RetR.scal (hq false ⟨fun g=>(by cases g),fun g=> ?_⟩) rfl rfl
    rw [show a=b from g] at h; simp at h
   ·rw [if_pos trivial]
    have h:a.getD i 0=b.getD i 0:=by simpa using h
    refine⟨⟨i+1,hlt,fun j hj=> ?_⟩,by show a.length - (i+1)<a.length - i; omega,⟨by simp [SSi,intS]; exact⟨za _ _ _,za _ _ _⟩,by simp,by kernel_rfl,Nat.zero_le _⟩⟩
    by_cases e:j=i
    ·rw [e]; exact h
    ·exact hbe j (by omega)
  ·have hge:i=a.length:=by have:=of_decide_eq_false h; omega
   refine RetR.scal (hq true ⟨fun _=> ?_,fun _=>rfl⟩) rfl rfl
   refine List.ext_getElem hlen fun j h1 h2=> ?_
   have:=hbe j (by rw [hge]; exact h1)
   simpa [List.getD,h1,h2] using this
def fixC:Ctr:=ctrP true (fun p:Int×Int×List UInt8=>[.int .i64 p.1,.int .i64 p.2.1,.str p.2.2]) (fun _=>True) (fun _ (_:Unit)=>True) (fun p _=>(Ev.av ⟨1,p.1,p.2.1,0,46340,[],acme,p.2.2,false⟩,[]))
theorem Y5:zf Try.prog 6 fixC:=by
 refine zn (fn:=Try.f6) (c:=Try.f6.body.getD .skip) rfl rfl rfl fun p hp O w0 Q hq=> ?_
 obtain⟨i,t,v⟩:=p
 replace hq:=hq () trivial
 refine zc.run hmix zA [] 400 (T:=.leaf (.ret [.agg [.int .u8 1,.int .i64 i,.int .i64 t,.int .i64 0,.int .i64 46340,.str #[].toList,.str #[(65:UInt8),(67:UInt8),(77:UInt8),(69:UInt8)].toList,.str v,.bool false]] [.box [.int .u8 1,.int .i64 i,.int .i64 t,.int .i64 0,.int .i64 46340,.str #[].toList,.str #[(65:UInt8),(67:UInt8),(77:UInt8),(69:UInt8)].toList,.str v,.bool false]])) (by kernel_rfl) ?_
 simp only [Tree.holds,zd]
 exact RetR.scal hq rfl rfl
def bEv(e:Ev):Blk:=.box [.int .u8 e.kind,.int .i64 e.id,.int .i64 e.entry,.int .i64 e.target,.int .i64 e.date,.str e.zb,.str e.name,.str e.value,.bool e.first]
theorem qP{A B:Prop}(a:A)(b:B):(∃ _:Bool,True)∧∀ n:Bool,True→((n=true→A)∧(n=false→B)):=⟨⟨true,trivial⟩,fun _ _=>⟨fun _=>a,fun _=>b⟩⟩
theorem j5{i t:Int}{v:List UInt8}{p:Int×Int×List UInt8→Prop}(h:p (i,t,v)):∃ n:Int×Int×List UInt8,(eqL [.int .i64 i,.int .i64 t,.str v] [.int .i64 n.1,.int .i64 n.2.1,.str n.2.2]∧True)∧(∃ _:Unit,True)∧∀ _:Unit,True→p n:=⟨(i,t,v),⟨⟨⟨rfl,rfl⟩,⟨rfl,rfl⟩,rfl,trivial⟩,trivial⟩,⟨(),trivial⟩,fun _ _=>h⟩
theorem wh{a b:AV}(l:List Ev)(e:Ev)(ha:eqA a (.agg [evS l]))(hb:eqA b e.av)(h1:evP l)(h2:zp e){p:List Ev×Ev→List Ev×Int→Prop}(h:p (l,e) (appS l e)):∃ n:List Ev×Ev,(eqL [a,b] [.agg [evS n.1],n.2.av]∧evP n.1∧zp n.2)∧(∃ r,r=appS n.1 n.2)∧∀ r,r=appS n.1 n.2→p n r:=⟨(l,e),⟨⟨ha,hb,trivial⟩,h1,h2⟩,⟨_,rfl⟩,fun _ hr=>by rw [hr]; exact h⟩
theorem jk(l:List Ev):eqA (.agg [.sl l.length 9 (evG l)]) (.agg [evS l]):=⟨⟨rfl,rfl,za _ _ _⟩,trivial⟩
theorem vM(e:Ev):eqA (.agg [.int .u8 e.kind,.int .i64 e.id,.int .i64 e.entry,.int .i64 e.target,.int .i64 e.date,.str e.zb,.str e.name,.str e.value,.bool e.first]) e.av:=⟨⟨rfl,rfl⟩,⟨rfl,rfl⟩,⟨rfl,rfl⟩,⟨rfl,rfl⟩,⟨rfl,rfl⟩,rfl,rfl,rfl,rfl,trivial⟩
theorem kE:evP nL1:=⟨by decide,ZM⟩
theorem xp:evP nL2:=⟨by decide,VX⟩
theorem JW:evP nBad:=⟨by decide,Wn⟩
theorem zaj:eqG 1 9 (zh 9 [.int .u8 1,.int .i64 2,.int .i64 0,.int .i64 0,.int .i64 46340,.str [],.str [65,67,77,69],.str [49],.bool false]) (evG nBad):=by
 intro j o hj ho
 obtain rfl:j=0:=by omega
 rcases(show o=0∨o=1∨o=2∨o=3∨o=4∨o=5∨o=6∨o=7∨o=8 by omega) with rfl | rfl | rfl | rfl | rfl | rfl | rfl | rfl | rfl<;>rfl
theorem Uu:eqG 3 1 (zg (zh 1 [.int .i64 1,.int .i64 2,.int .i64 3]) 0) (fun j _=>.int .i64 (([1,2,3]:List Int).getD j 0)):=by
 intro j o hj ho
 obtain rfl:o=0:=by omega
 rcases(show j=0∨j=1∨j=2 by omega) with rfl | rfl | rfl<;>rfl
theorem UK:eqG 1 9 (zg (evG nBad) 0) (evG nBad):=fun j o _ _=>by simp [zg]
theorem Vn:eqA (.agg [.sl 1 9 (zg (evG nBad) 0)]) (.agg [evS nBad]):=⟨⟨rfl,rfl,UK⟩,trivial⟩
def zad:Ctr:=ctrP true (fun _:Unit=>[]) (fun _=>True) (fun _ r=>r=true) (fun _ (r:Bool)=>(.bool r,[]))
noncomputable def GNm:Nat→Option Ctr:=fun f=>if f=6 then some (fixC) else if f=4 then some (exaC) else if f=12 then some (V4) else if f=5 then some (XL) else if f=13 then some (kA) else if f=7 then some (Vc) else if f=8 then some (U9) else if f=9 then some (JV) else if f=11 then some (Yx) else if f=10 then some (VB) else none
theorem zL:∀ g c,GNm g=some c→zf Try.prog g c:=okIf Y5 (okIf Ys (okIf VS (okIf Vk (okIf k9 (okIf ZP (okIf YB (okIf Xc (okIf XK (okIf Kh (zx))))))))))
noncomputable def LY0:List Go.Sx.Item:=xT 60 (Try.f3.body.getD .skip)
noncomputable def LY2:List Go.Sx.Item:=LY0.drop 2
def SY2:KV:=[(0,.bool false),(1,.ptr 0 0)]
def HY2:Heap:=[.box [evS exL]]
noncomputable def LY3:List Go.Sx.Item:=LY0.drop 3
def SY3:KV:=[(0,.bool false),(1,.ptr 0 0),(3,.ptr 1 0)]
def HY3:Heap:=[.box [evS exL],bEv (chE 5)]
noncomputable def LY4:List Go.Sx.Item:=LY0.drop 4
def SY4:KV:=[(0,.bool false),(1,.ptr 0 0),(3,.ptr 1 0),(4,.int .i64 0)]
def HY4:Heap:=[.box [evS nL1],bEv (chE 5)]
noncomputable def LY5:List Go.Sx.Item:=LY0.drop 5
def SY5:KV:=[(0,.bool false),(1,.ptr 0 0),(3,.ptr 1 0),(4,.int .i64 0),(6,.int .i64 2)]
def HY5:Heap:=[.box [evS nL1],bEv (chE 5),.dead]
noncomputable def LY6:List Go.Sx.Item:=LY0.drop 6
def SY6:KV:=[(0,.bool false),(1,.ptr 0 0),(3,.ptr 1 0),(4,.int .i64 0),(6,.int .i64 2),(8,.int .i64 21)]
def HY6:Heap:=[.box [evS nL1],bEv (chE 5),.dead,.dead]
noncomputable def LY7:List Go.Sx.Item:=LY0.drop 7
def SY7:KV:=[(0,.bool false),(1,.ptr 0 0),(3,.ptr 1 0),(4,.int .i64 0),(6,.int .i64 2),(8,.int .i64 21),(10,.int .i64 24)]
def HY7:Heap:=[.box [evS nL1],bEv (chE 5),.dead,.dead,.dead]
noncomputable def LY8:List Go.Sx.Item:=LY0.drop 8
def SY8:KV:=[(0,.bool false),(1,.ptr 0 0),(3,.ptr 1 0),(4,.int .i64 0),(6,.int .i64 2),(8,.int .i64 21),(10,.int .i64 24),(12,.int .i64 2)]
def HY8:Heap:=[.box [evS nL1],bEv (chE 5),.dead,.dead,.dead,.dead]
noncomputable def LY9:List Go.Sx.Item:=LY0.drop 9
def SY9:KV:=[(0,.bool false),(1,.ptr 0 0),(3,.ptr 1 0),(4,.int .i64 0),(6,.int .i64 2),(8,.int .i64 21),(10,.int .i64 24),(12,.int .i64 2),(14,.int .i64 6)]
def HY9:Heap:=[.box [evS nL1],bEv (chE 5),.dead,.dead,.dead,.dead,.dead]
noncomputable def LY10:List Go.Sx.Item:=LY0.drop 10
def SY10:KV:=[(0,.bool false),(1,.ptr 0 0),(3,.ptr 1 0),(4,.int .i64 0),(6,.int .i64 2),(8,.int .i64 21),(10,.int .i64 24),(12,.int .i64 2),(14,.int .i64 6),(16,.int .i64 6)]
def HY10:Heap:=[.box [evS nL1],bEv (chE 5),.dead,.dead,.dead,.dead,.dead,.dead]
noncomputable def LY11:List Go.Sx.Item:=LY0.drop 11
def SY11:KV:=[(0,.bool false),(1,.ptr 0 0),(3,.ptr 1 0),(4,.int .i64 0),(6,.int .i64 2),(8,.int .i64 21),(10,.int .i64 24),(12,.int .i64 2),(14,.int .i64 6),(16,.int .i64 6),(18,.int .i64 32)]
def HY11:Heap:=[.box [evS nL1],bEv (chE 5),.dead,.dead,.dead,.dead,.dead,.dead,.dead]
noncomputable def LY12:List Go.Sx.Item:=LY0.drop 12
def SY12:KV:=[(0,.bool false),(1,.ptr 0 0),(3,.ptr 1 0),(4,.int .i64 0),(6,.int .i64 2),(8,.int .i64 21),(10,.int .i64 24),(12,.int .i64 2),(14,.int .i64 6),(16,.int .i64 6),(18,.int .i64 32),(20,.int .i64 32)]
def HY12:Heap:=[.box [evS nL1],bEv (chE 5),.dead,.dead,.dead,.dead,.dead,.dead,.dead,.dead]
noncomputable def LY13:List Go.Sx.Item:=LY0.drop 13
def SY13:KV:=[(0,.bool false),(1,.ptr 0 0),(3,.ptr 1 0),(4,.int .i64 0),(6,.int .i64 2),(8,.int .i64 21),(10,.int .i64 24),(12,.int .i64 2),(14,.int .i64 6),(16,.int .i64 6),(18,.int .i64 32),(20,.int .i64 32)]
def HY13:Heap:=[.box [evS nL1],bEv (chE 6),.dead,.dead,.dead,.dead,.dead,.dead,.dead,.dead]
noncomputable def LY14:List Go.Sx.Item:=LY0.drop 14
def SY14:KV:=[(0,.bool false),(1,.ptr 0 0),(3,.ptr 1 0),(4,.int .i64 0),(6,.int .i64 2),(8,.int .i64 21),(10,.int .i64 24),(12,.int .i64 2),(14,.int .i64 6),(16,.int .i64 6),(18,.int .i64 32),(20,.int .i64 32),(22,.int .i64 24)]
def HY14:Heap:=[.box [evS nL1],bEv (chE 6),.dead,.dead,.dead,.dead,.dead,.dead,.dead,.dead,.dead]
noncomputable def LY15:List Go.Sx.Item:=LY0.drop 15
def SY15:KV:=[(0,.bool false),(1,.ptr 0 0),(4,.int .i64 0),(6,.int .i64 2),(8,.int .i64 21),(10,.int .i64 24),(12,.int .i64 2),(14,.int .i64 6),(16,.int .i64 6),(18,.int .i64 32),(20,.int .i64 32),(22,.int .i64 24),(23,.int .i64 0)]
def HY15:Heap:=[.box [evS nL2],.dead,.dead,.dead,.dead,.dead,.dead,.dead,.dead,.dead,.dead]
noncomputable def LY16:List Go.Sx.Item:=LY0.drop 16
def SY16:KV:=[(0,.bool false),(1,.ptr 0 0),(4,.int .i64 0),(6,.int .i64 2),(8,.int .i64 21),(10,.int .i64 24),(12,.int .i64 2),(14,.int .i64 6),(16,.int .i64 6),(18,.int .i64 32),(20,.int .i64 32),(22,.int .i64 24),(23,.int .i64 0),(24,.ptr 11 0),(25,.int .i64 0)]
def HY16:Heap:=[.box [evS nL2],.dead,.dead,.dead,.dead,.dead,.dead,.dead,.dead,.dead,.dead,.box [fxS [⟨acme,46340,[49,50]⟩],chS [⟨[97],[98],3,false⟩]]]
noncomputable def LY17:List Go.Sx.Item:=LY0.drop 17
def SY17:KV:=[(0,.bool false),(1,.ptr 0 0),(4,.int .i64 0),(6,.int .i64 2),(8,.int .i64 21),(10,.int .i64 24),(12,.int .i64 2),(14,.int .i64 6),(16,.int .i64 6),(18,.int .i64 32),(20,.int .i64 32),(22,.int .i64 24),(23,.int .i64 0),(24,.ptr 11 0),(25,.int .i64 0),(26,.ptr 12 0),(27,.int .i64 0)]
def HY17:Heap:=[.box [evS nL2],.dead,.dead,.dead,.dead,.dead,.dead,.dead,.dead,.dead,.dead,.box [fxS [⟨acme,46340,[49,50]⟩],chS [⟨[97],[98],3,false⟩]],.box [fxS [⟨acme,46340,[49,50]⟩],chS [⟨[97],[98],3,true⟩]]]
noncomputable def LY18:List Go.Sx.Item:=LY0.drop 18
def SY18:KV:=[(0,.bool false),(1,.ptr 0 0),(4,.int .i64 0),(6,.int .i64 2),(8,.int .i64 21),(10,.int .i64 24),(12,.int .i64 2),(14,.int .i64 6),(16,.int .i64 6),(18,.int .i64 32),(20,.int .i64 32),(22,.int .i64 24),(23,.int .i64 0),(24,.ptr 11 0),(25,.int .i64 0),(26,.ptr 12 0),(27,.int .i64 0),(28,.ptr 13 0),(29,.int .i64 0)]
def HY18:Heap:=[.box [evS nL2],.dead,.dead,.dead,.dead,.dead,.dead,.dead,.dead,.dead,.dead,.box [fxS [⟨acme,46340,[49,50]⟩],chS [⟨[97],[98],3,false⟩]],.box [fxS [⟨acme,46340,[49,50]⟩],chS [⟨[97],[98],3,true⟩]],.box [fxS [],chS [⟨[97],[98],3,true⟩]]]
noncomputable def LY19:List Go.Sx.Item:=LY0.drop 19
def SY19:KV:=[(0,.bool false),(1,.ptr 0 0),(4,.int .i64 0),(6,.int .i64 2),(8,.int .i64 21),(10,.int .i64 24),(12,.int .i64 2),(14,.int .i64 6),(16,.int .i64 6),(18,.int .i64 32),(20,.int .i64 32),(22,.int .i64 24),(23,.int .i64 0),(24,.ptr 11 0),(25,.int .i64 0),(26,.ptr 12 0),(27,.int .i64 0),(28,.ptr 13 0),(29,.int .i64 0),(31,.int .i64 2)]
def HY19:Heap:=[.box [evS nL2],.dead,.dead,.dead,.dead,.dead,.dead,.dead,.dead,.dead,.dead,.box [fxS [⟨acme,46340,[49,50]⟩],chS [⟨[97],[98],3,false⟩]],.box [fxS [⟨acme,46340,[49,50]⟩],chS [⟨[97],[98],3,true⟩]],.box [fxS [],chS [⟨[97],[98],3,true⟩]],.dead]
noncomputable def LY20:List Go.Sx.Item:=LY0.drop 20
def SY20:KV:=[(0,.bool false),(1,.ptr 0 0),(4,.int .i64 0),(6,.int .i64 2),(8,.int .i64 21),(10,.int .i64 24),(12,.int .i64 2),(14,.int .i64 6),(16,.int .i64 6),(18,.int .i64 32),(20,.int .i64 32),(22,.int .i64 24),(23,.int .i64 0),(24,.ptr 11 0),(25,.int .i64 0),(26,.ptr 12 0),(27,.int .i64 0),(28,.ptr 13 0),(29,.int .i64 0),(31,.int .i64 2),(33,.int .i64 2)]
def HY20:Heap:=[.box [evS nL2],.dead,.dead,.dead,.dead,.dead,.dead,.dead,.dead,.dead,.dead,.box [fxS [⟨acme,46340,[49,50]⟩],chS [⟨[97],[98],3,false⟩]],.box [fxS [⟨acme,46340,[49,50]⟩],chS [⟨[97],[98],3,true⟩]],.box [fxS [],chS [⟨[97],[98],3,true⟩]],.dead,.dead]
noncomputable def LY21:List Go.Sx.Item:=LY0.drop 21
def SY21:KV:=[(0,.bool false),(1,.ptr 0 0),(4,.int .i64 0),(6,.int .i64 2),(8,.int .i64 21),(10,.int .i64 24),(12,.int .i64 2),(14,.int .i64 6),(16,.int .i64 6),(18,.int .i64 32),(20,.int .i64 32),(22,.int .i64 24),(23,.int .i64 0),(24,.ptr 11 0),(25,.int .i64 0),(26,.ptr 12 0),(27,.int .i64 0),(28,.ptr 13 0),(29,.int .i64 0),(31,.int .i64 2),(33,.int .i64 2),(34,intS [1,2,3]),(35,.int .i64 0)]
def HY21:Heap:=[.box [evS nL2],.dead,.dead,.dead,.dead,.dead,.dead,.dead,.dead,.dead,.dead,.box [fxS [⟨acme,46340,[49,50]⟩],chS [⟨[97],[98],3,false⟩]],.box [fxS [⟨acme,46340,[49,50]⟩],chS [⟨[97],[98],3,true⟩]],.box [fxS [],chS [⟨[97],[98],3,true⟩]],.dead,.dead]
noncomputable def LY22:List Go.Sx.Item:=LY0.drop 22
def SY22:KV:=[(0,.bool false),(1,.ptr 0 0),(4,.int .i64 0),(6,.int .i64 2),(8,.int .i64 21),(10,.int .i64 24),(12,.int .i64 2),(14,.int .i64 6),(16,.int .i64 6),(18,.int .i64 32),(20,.int .i64 32),(22,.int .i64 24),(23,.int .i64 0),(24,.ptr 11 0),(25,.int .i64 0),(26,.ptr 12 0),(27,.int .i64 0),(28,.ptr 13 0),(29,.int .i64 0),(31,.int .i64 2),(33,.int .i64 2),(34,intS [1,2,3]),(35,.int .i64 0),(37,.int .i64 6)]
def HY22:Heap:=[.box [evS nL2],.dead,.dead,.dead,.dead,.dead,.dead,.dead,.dead,.dead,.dead,.box [fxS [⟨acme,46340,[49,50]⟩],chS [⟨[97],[98],3,false⟩]],.box [fxS [⟨acme,46340,[49,50]⟩],chS [⟨[97],[98],3,true⟩]],.box [fxS [],chS [⟨[97],[98],3,true⟩]],.dead,.dead]
noncomputable def LY23:List Go.Sx.Item:=LY0.drop 23
def SY23:KV:=[(0,.bool false),(1,.ptr 0 0),(4,.int .i64 0),(6,.int .i64 2),(8,.int .i64 21),(10,.int .i64 24),(12,.int .i64 2),(14,.int .i64 6),(16,.int .i64 6),(18,.int .i64 32),(20,.int .i64 32),(22,.int .i64 24),(23,.int .i64 0),(24,.ptr 11 0),(25,.int .i64 0),(26,.ptr 12 0),(27,.int .i64 0),(28,.ptr 13 0),(29,.int .i64 0),(31,.int .i64 2),(33,.int .i64 2),(34,intS [1,2,3]),(35,.int .i64 0),(37,.int .i64 6),(39,.int .i64 6)]
def HY23:Heap:=[.box [evS nL2],.dead,.dead,.dead,.dead,.dead,.dead,.dead,.dead,.dead,.dead,.box [fxS [⟨acme,46340,[49,50]⟩],chS [⟨[97],[98],3,false⟩]],.box [fxS [⟨acme,46340,[49,50]⟩],chS [⟨[97],[98],3,true⟩]],.box [fxS [],chS [⟨[97],[98],3,true⟩]],.dead,.dead]
noncomputable def LY24:List Go.Sx.Item:=LY0.drop 24
def SY24:KV:=[(0,.bool false),(1,.ptr 0 0),(4,.int .i64 0),(6,.int .i64 2),(8,.int .i64 21),(10,.int .i64 24),(12,.int .i64 2),(14,.int .i64 6),(16,.int .i64 6),(18,.int .i64 32),(20,.int .i64 32),(22,.int .i64 24),(23,.int .i64 0),(24,.ptr 11 0),(25,.int .i64 0),(26,.ptr 12 0),(27,.int .i64 0),(28,.ptr 13 0),(29,.int .i64 0),(31,.int .i64 2),(33,.int .i64 2),(34,intS [1,2,3]),(35,.int .i64 0),(37,.int .i64 6),(39,.int .i64 6),(40,.ptr 17 0)]
def HY24:Heap:=[.box [evS nL2],.dead,.dead,.dead,.dead,.dead,.dead,.dead,.dead,.dead,.dead,.box [fxS [⟨acme,46340,[49,50]⟩],chS [⟨[97],[98],3,false⟩]],.box [fxS [⟨acme,46340,[49,50]⟩],chS [⟨[97],[98],3,true⟩]],.box [fxS [],chS [⟨[97],[98],3,true⟩]],.dead,.dead,.arr 1 9 (evG nBad),.box [.osl 16 9 0 1]]
noncomputable def LY25:List Go.Sx.Item:=LY0.drop 25
def SY25:KV:=[(0,.bool false),(1,.ptr 0 0),(4,.int .i64 0),(6,.int .i64 2),(8,.int .i64 21),(10,.int .i64 24),(12,.int .i64 2),(14,.int .i64 6),(16,.int .i64 6),(18,.int .i64 32),(20,.int .i64 32),(22,.int .i64 24),(23,.int .i64 0),(24,.ptr 11 0),(25,.int .i64 0),(26,.ptr 12 0),(27,.int .i64 0),(28,.ptr 13 0),(29,.int .i64 0),(31,.int .i64 2),(33,.int .i64 2),(34,intS [1,2,3]),(35,.int .i64 0),(37,.int .i64 6),(39,.int .i64 6),(40,.ptr 17 0),(42,.int .i64 8)]
def HY25:Heap:=[.box [evS nL2],.dead,.dead,.dead,.dead,.dead,.dead,.dead,.dead,.dead,.dead,.box [fxS [⟨acme,46340,[49,50]⟩],chS [⟨[97],[98],3,false⟩]],.box [fxS [⟨acme,46340,[49,50]⟩],chS [⟨[97],[98],3,true⟩]],.box [fxS [],chS [⟨[97],[98],3,true⟩]],.dead,.dead,.dead,.box [.sl 1 9 (zg (evG nBad) 0)],.dead]
noncomputable def LY26:List Go.Sx.Item:=LY0.drop 26
def SY26:KV:=[(0,.bool false),(1,.ptr 0 0),(4,.int .i64 0),(6,.int .i64 2),(8,.int .i64 21),(10,.int .i64 24),(12,.int .i64 2),(14,.int .i64 6),(16,.int .i64 6),(18,.int .i64 32),(20,.int .i64 32),(22,.int .i64 24),(23,.int .i64 0),(24,.ptr 11 0),(25,.int .i64 0),(26,.ptr 12 0),(27,.int .i64 0),(28,.ptr 13 0),(29,.int .i64 0),(31,.int .i64 2),(33,.int .i64 2),(34,intS [1,2,3]),(35,.int .i64 0),(37,.int .i64 6),(39,.int .i64 6),(40,.ptr 17 0),(42,.int .i64 8),(44,.int .i64 8)]
def HY26:Heap:=[.box [evS nL2],.dead,.dead,.dead,.dead,.dead,.dead,.dead,.dead,.dead,.dead,.box [fxS [⟨acme,46340,[49,50]⟩],chS [⟨[97],[98],3,false⟩]],.box [fxS [⟨acme,46340,[49,50]⟩],chS [⟨[97],[98],3,true⟩]],.box [fxS [],chS [⟨[97],[98],3,true⟩]],.dead,.dead,.dead,.box [.sl 1 9 (zg (evG nBad) 0)],.dead,.dead]
noncomputable def LY27:List Go.Sx.Item:=LY0.drop 27
def SY27:KV:=[(0,.bool false),(1,.ptr 0 0),(4,.int .i64 0),(6,.int .i64 2),(8,.int .i64 21),(10,.int .i64 24),(12,.int .i64 2),(14,.int .i64 6),(16,.int .i64 6),(18,.int .i64 32),(20,.int .i64 32),(22,.int .i64 24),(23,.int .i64 0),(24,.ptr 11 0),(25,.int .i64 0),(26,.ptr 12 0),(27,.int .i64 0),(28,.ptr 13 0),(29,.int .i64 0),(31,.int .i64 2),(33,.int .i64 2),(34,intS [1,2,3]),(35,.int .i64 0),(37,.int .i64 6),(39,.int .i64 6),(40,.ptr 17 0),(42,.int .i64 8),(44,.int .i64 8),(45,.bool true)]
def HY27:Heap:=[.box [evS nL2],.dead,.dead,.dead,.dead,.dead,.dead,.dead,.dead,.dead,.dead,.box [fxS [⟨acme,46340,[49,50]⟩],chS [⟨[97],[98],3,false⟩]],.box [fxS [⟨acme,46340,[49,50]⟩],chS [⟨[97],[98],3,true⟩]],.box [fxS [],chS [⟨[97],[98],3,true⟩]],.dead,.dead,.dead,.box [.sl 1 9 (zg (evG nBad) 0)],.dead,.dead]
theorem Yd:zf Try.prog 3 zad:=by
 refine zn (fn:=Try.f3) (c:=Try.f3.body.getD .skip) rfl rfl rfl fun p hp O w0 Q hq=> ?_
 replace hq:=hq _ rfl
 refine zc.spine 60 ?_
 refine zc.cutL (ι:=Unit) LY0 2 0 (fun _=>SY2) (fun _=>HY2) (by kernel_rfl) (by kernel_rfl) ?_ fun _=> ?_
 ·refine zc.run hmix zL [0,1] 400 (T:=.ex (fun(x:Unit)=>eqL [] []∧True) fun n=>.all (fun(x:Unit)=>True) fun n=>.leaf (.back 0 [(0,.bool false),(1,.ptr 0 0)] [.box [.sl 4 9 (evG exL)]])) (by kernel_rfl) ?_
  simp only [Tree.holds,zd]
  refine⟨(),⟨trivial,trivial⟩,⟨(),trivial⟩,fun _ _=> ?_⟩
  rw [if_pos trivial]
  exact⟨(),by simp [SY2],⟨ze _,trivial⟩,by kernel_rfl,Nat.zero_le _⟩
 show zE none Try.prog Try.f3 O 0 w0 [] _ _ LY2 _
 refine zc.cutL (ι:=Unit) LY2 1 0 (fun _=>SY3) (fun _=>HY3) (by kernel_rfl) (by kernel_rfl) ?_ fun _=> ?_
 ·refine zc.run hmix zL [0,1,3] 400 (T:=.leaf (.back 0 [(0,.bool false),(1,.ptr 0 0),(3,.ptr 1 0)] [.box [.sl 4 9 (evG exL)],.box [.int .u8 2,.int .i64 5,.int .i64 71,.int .i64 0,.int .i64 3,.str #[(97:UInt8)].toList,.str #[(98:UInt8)].toList,.str #[].toList,.bool false]])) (by kernel_rfl) ?_
  simp only [Tree.holds,zd]
  rw [if_pos trivial]
  exact⟨(),by simp [SY3],⟨ze _,ze _,trivial⟩,by kernel_rfl,Nat.zero_le _⟩
 show zE none Try.prog Try.f3 O 0 w0 [] _ _ LY3 _
 refine zc.cutL (ι:=Unit) LY3 1 0 (fun _=>SY4) (fun _=>HY4) (by kernel_rfl) (by kernel_rfl) ?_ fun _=> ?_
 ·refine zc.run hmix zL [0,1,3,4] 400 (T:=.ex (fun(x:List Ev×Ev)=>eqL [AV.agg [AV.sl 4 9 (evG exL)],AV.agg [AV.int .u8 2,AV.int .i64 5,AV.int .i64 71,AV.int .i64 0,AV.int .i64 3,AV.str (Ev.zb (chE (5:Int))),AV.str (Ev.name (chE (5:Int))),AV.str (Ev.value (chE (5:Int))),AV.bool false]] [AV.agg [AV.sl x.1.length 9 (evG x.1)],AV.agg [AV.int .u8 x.2.kind,AV.int .i64 x.2.id,AV.int .i64 x.2.entry,AV.int .i64 x.2.target,AV.int .i64 x.2.date,AV.str x.2.zb,AV.str x.2.name,AV.str x.2.value,AV.bool x.2.first]]∧evP x.1∧zp x.2) fun n=>.all (fun(r:List Ev×Int)=>r=appS n.1 n.2) fun n=>.leaf (.back 0 [(0,.bool false),(1,.ptr 0 0),(3,.ptr 1 0),(4,.int .i64 n.2)] [.box [.sl n.1.length 9 (evG n.1)],.box [.int .u8 2,.int .i64 5,.int .i64 71,.int .i64 0,.int .i64 3,.str (Ev.zb (chE (5:Int))),.str (Ev.name (chE (5:Int))),.str (Ev.value (chE (5:Int))),.bool false]])) (by kernel_rfl) ?_
  simp only [Tree.holds,zd]
  repeat' first
   | apply qP
   | apply j5
   | apply wh exL (chE 5) (jk _) (vM _) ⟨by decide,wW⟩ (by exact⟨by decide,by decide,by decide⟩)
  all_goals
   simp only [sn_e]
   rw [if_pos trivial]
  all_goals exact⟨(),by simp [SY4],⟨ze _,ze _,trivial⟩,by kernel_rfl,Nat.zero_le _⟩
 show zE none Try.prog Try.f3 O 0 w0 [] _ _ LY4 _
 refine zc.cutL (ι:=Unit) LY4 1 0 (fun _=>SY5) (fun _=>HY5) (by kernel_rfl) (by kernel_rfl) ?_ fun _=> ?_
 ·refine zc.run hmix zL [0,1,3,4,6] 400 (T:=.all (fun(x:Bool)=>True) fun n=>.ite n (.ex (fun(x:Int×Int×List UInt8)=>eqL [AV.int .i64 7,AV.int .i64 71,AV.str #[(49:UInt8)].toList] [AV.int .i64 x.1,AV.int .i64 x.2.1,AV.str x.2.2]∧True) fun n=>.all (fun(x:Unit)=>True) fun n_1=>.all (fun(x:Bool)=>True) fun n_2=>.ite n_2 (.ex (fun(x:List Ev×Ev)=>eqL [AV.agg [AV.sl 5 9 (evG nL1)],AV.agg [AV.int .u8 1,AV.int .i64 n.1,AV.int .i64 n.2.1,AV.int .i64 0,AV.int .i64 46340,AV.str [],AV.str acme,AV.str n.2.2,AV.bool false]] [AV.agg [AV.sl x.1.length 9 (evG x.1)],AV.agg [AV.int .u8 x.2.kind,AV.int .i64 x.2.id,AV.int .i64 x.2.entry,AV.int .i64 x.2.target,AV.int .i64 x.2.date,AV.str x.2.zb,AV.str x.2.name,AV.str x.2.value,AV.bool x.2.first]]∧evP x.1∧zp x.2) fun n=>.all (fun(r:List Ev×Int)=>r=appS n.1 n.2) fun n=>.leaf (.back 0 [(0,.bool false),(1,.ptr 0 0),(3,.ptr 1 0),(4,.int .i64 0),(6,.int .i64 n.2)] [.box [.sl 5 9 (evG nL1)],.box [.int .u8 2,.int .i64 5,.int .i64 71,.int .i64 0,.int .i64 3,.str (Ev.zb (chE (5:Int))),.str (Ev.name (chE (5:Int))),.str (Ev.value (chE (5:Int))),.bool false],.box [.sl n.1.length 9 (evG n.1)]])) (.ex (fun(x:List Ev×Ev)=>eqL [AV.agg [AV.sl 5 9 (evG nL1)],AV.agg [AV.int .u8 1,AV.int .i64 n.1,AV.int .i64 n.2.1,AV.int .i64 0,AV.int .i64 46340,AV.str [],AV.str acme,AV.str n.2.2,AV.bool false]] [AV.agg [AV.sl x.1.length 9 (evG x.1)],AV.agg [AV.int .u8 x.2.kind,AV.int .i64 x.2.id,AV.int .i64 x.2.entry,AV.int .i64 x.2.target,AV.int .i64 x.2.date,AV.str x.2.zb,AV.str x.2.name,AV.str x.2.value,AV.bool x.2.first]]∧evP x.1∧zp x.2) fun n=>.all (fun(r:List Ev×Int)=>r=appS n.1 n.2) fun n=>.leaf (.back 0 [(0,.bool false),(1,.ptr 0 0),(3,.ptr 1 0),(4,.int .i64 0),(6,.int .i64 n.2)] [.box [.sl 5 9 (evG nL1)],.box [.int .u8 2,.int .i64 5,.int .i64 71,.int .i64 0,.int .i64 3,.str (Ev.zb (chE (5:Int))),.str (Ev.name (chE (5:Int))),.str (Ev.value (chE (5:Int))),.bool false],.box [.sl n.1.length 9 (evG n.1)]]))) (.ex (fun(x:Int×Int×List UInt8)=>eqL [AV.int .i64 7,AV.int .i64 71,AV.str #[(49:UInt8)].toList] [AV.int .i64 x.1,AV.int .i64 x.2.1,AV.str x.2.2]∧True) fun n=>.all (fun(x:Unit)=>True) fun n_1=>.ex (fun(x:List Ev×Ev)=>eqL [AV.agg [AV.sl 5 9 (evG nL1)],AV.agg [AV.int .u8 1,AV.int .i64 n.1,AV.int .i64 n.2.1,AV.int .i64 0,AV.int .i64 46340,AV.str [],AV.str acme,AV.str n.2.2,AV.bool false]] [AV.agg [AV.sl x.1.length 9 (evG x.1)],AV.agg [AV.int .u8 x.2.kind,AV.int .i64 x.2.id,AV.int .i64 x.2.entry,AV.int .i64 x.2.target,AV.int .i64 x.2.date,AV.str x.2.zb,AV.str x.2.name,AV.str x.2.value,AV.bool x.2.first]]∧evP x.1∧zp x.2) fun n=>.all (fun(r:List Ev×Int)=>r=appS n.1 n.2) fun n=>.leaf (.back 0 [(0,.bool false),(1,.ptr 0 0),(3,.ptr 1 0),(4,.int .i64 0),(6,.int .i64 n.2)] [.box [.sl 5 9 (evG nL1)],.box [.int .u8 2,.int .i64 5,.int .i64 71,.int .i64 0,.int .i64 3,.str (Ev.zb (chE (5:Int))),.str (Ev.name (chE (5:Int))),.str (Ev.value (chE (5:Int))),.bool false],.box [.sl n.1.length 9 (evG n.1)]]))) (by kernel_rfl) ?_
  simp only [Tree.holds,zd]
  repeat' first
   | apply qP
   | apply j5
   | apply wh nL1 (fixE 7 71 [49]) (jk _) (vM _) kE (by exact⟨by decide,by decide,by decide⟩)
  all_goals
   simp only [sn_f]
   rw [if_pos trivial]
  all_goals exact⟨(),by simp [SY5],⟨ze _,ze _,trivial,trivial⟩,by kernel_rfl,Nat.zero_le _⟩
 show zE none Try.prog Try.f3 O 0 w0 [] _ _ LY5 _
 refine zc.cutL (ι:=Unit) LY5 1 0 (fun _=>SY6) (fun _=>HY6) (by kernel_rfl) (by kernel_rfl) ?_ fun _=> ?_
 ·refine zc.run hmix zL [0,1,3,4,6,8] 400 (T:=.all (fun(x:Bool)=>True) fun n=>.ite n (.ex (fun(x:Int×Int×List UInt8)=>eqL [AV.int .i64 6,AV.int .i64 70,AV.str #[(49:UInt8)].toList] [AV.int .i64 x.1,AV.int .i64 x.2.1,AV.str x.2.2]∧True) fun n=>.all (fun(x:Unit)=>True) fun n_1=>.all (fun(x:Bool)=>True) fun n_2=>.ite n_2 (.ex (fun(x:List Ev×Ev)=>eqL [AV.agg [AV.sl 5 9 (evG nL1)],AV.agg [AV.int .u8 1,AV.int .i64 n.1,AV.int .i64 n.2.1,AV.int .i64 0,AV.int .i64 46340,AV.str [],AV.str acme,AV.str n.2.2,AV.bool false]] [AV.agg [AV.sl x.1.length 9 (evG x.1)],AV.agg [AV.int .u8 x.2.kind,AV.int .i64 x.2.id,AV.int .i64 x.2.entry,AV.int .i64 x.2.target,AV.int .i64 x.2.date,AV.str x.2.zb,AV.str x.2.name,AV.str x.2.value,AV.bool x.2.first]]∧evP x.1∧zp x.2) fun n=>.all (fun(r:List Ev×Int)=>r=appS n.1 n.2) fun n=>.leaf (.back 0 [(0,.bool false),(1,.ptr 0 0),(3,.ptr 1 0),(4,.int .i64 0),(6,.int .i64 2),(8,.int .i64 n.2)] [.box [.sl 5 9 (evG nL1)],.box [.int .u8 2,.int .i64 5,.int .i64 71,.int .i64 0,.int .i64 3,.str (Ev.zb (chE (5:Int))),.str (Ev.name (chE (5:Int))),.str (Ev.value (chE (5:Int))),.bool false],.dead,.box [.sl n.1.length 9 (evG n.1)]])) (.ex (fun(x:List Ev×Ev)=>eqL [AV.agg [AV.sl 5 9 (evG nL1)],AV.agg [AV.int .u8 1,AV.int .i64 n.1,AV.int .i64 n.2.1,AV.int .i64 0,AV.int .i64 46340,AV.str [],AV.str acme,AV.str n.2.2,AV.bool false]] [AV.agg [AV.sl x.1.length 9 (evG x.1)],AV.agg [AV.int .u8 x.2.kind,AV.int .i64 x.2.id,AV.int .i64 x.2.entry,AV.int .i64 x.2.target,AV.int .i64 x.2.date,AV.str x.2.zb,AV.str x.2.name,AV.str x.2.value,AV.bool x.2.first]]∧evP x.1∧zp x.2) fun n=>.all (fun(r:List Ev×Int)=>r=appS n.1 n.2) fun n=>.leaf (.back 0 [(0,.bool false),(1,.ptr 0 0),(3,.ptr 1 0),(4,.int .i64 0),(6,.int .i64 2),(8,.int .i64 n.2)] [.box [.sl 5 9 (evG nL1)],.box [.int .u8 2,.int .i64 5,.int .i64 71,.int .i64 0,.int .i64 3,.str (Ev.zb (chE (5:Int))),.str (Ev.name (chE (5:Int))),.str (Ev.value (chE (5:Int))),.bool false],.dead,.box [.sl n.1.length 9 (evG n.1)]]))) (.ex (fun(x:Int×Int×List UInt8)=>eqL [AV.int .i64 6,AV.int .i64 70,AV.str #[(49:UInt8)].toList] [AV.int .i64 x.1,AV.int .i64 x.2.1,AV.str x.2.2]∧True) fun n=>.all (fun(x:Unit)=>True) fun n_1=>.ex (fun(x:List Ev×Ev)=>eqL [AV.agg [AV.sl 5 9 (evG nL1)],AV.agg [AV.int .u8 1,AV.int .i64 n.1,AV.int .i64 n.2.1,AV.int .i64 0,AV.int .i64 46340,AV.str [],AV.str acme,AV.str n.2.2,AV.bool false]] [AV.agg [AV.sl x.1.length 9 (evG x.1)],AV.agg [AV.int .u8 x.2.kind,AV.int .i64 x.2.id,AV.int .i64 x.2.entry,AV.int .i64 x.2.target,AV.int .i64 x.2.date,AV.str x.2.zb,AV.str x.2.name,AV.str x.2.value,AV.bool x.2.first]]∧evP x.1∧zp x.2) fun n=>.all (fun(r:List Ev×Int)=>r=appS n.1 n.2) fun n=>.leaf (.back 0 [(0,.bool false),(1,.ptr 0 0),(3,.ptr 1 0),(4,.int .i64 0),(6,.int .i64 2),(8,.int .i64 n.2)] [.box [.sl 5 9 (evG nL1)],.box [.int .u8 2,.int .i64 5,.int .i64 71,.int .i64 0,.int .i64 3,.str (Ev.zb (chE (5:Int))),.str (Ev.name (chE (5:Int))),.str (Ev.value (chE (5:Int))),.bool false],.dead,.box [.sl n.1.length 9 (evG n.1)]]))) (by kernel_rfl) ?_
  simp only [Tree.holds,zd]
  repeat' first
   | apply qP
   | apply j5
   | apply wh nL1 (fixE 6 70 [49]) (jk _) (vM _) kE (by exact⟨by decide,by decide,by decide⟩)
  all_goals
   simp only [sn_g]
   rw [if_pos trivial]
  all_goals exact⟨(),by simp [SY6],⟨ze _,ze _,trivial,trivial,trivial⟩,by kernel_rfl,Nat.zero_le _⟩
 show zE none Try.prog Try.f3 O 0 w0 [] _ _ LY6 _
 refine zc.cutL (ι:=Unit) LY6 1 0 (fun _=>SY7) (fun _=>HY7) (by kernel_rfl) (by kernel_rfl) ?_ fun _=> ?_
 ·refine zc.run hmix zL [0,1,3,4,6,8,10] 400 (T:=.all (fun(x:Bool)=>True) fun n=>.ite n (.ex (fun(x:Int×Int×List UInt8)=>eqL [AV.int .i64 6,AV.int .i64 71,AV.str #[(49:UInt8)].toList] [AV.int .i64 x.1,AV.int .i64 x.2.1,AV.str x.2.2]∧True) fun n=>.all (fun(x:Unit)=>True) fun n_1=>.all (fun(x:Bool)=>True) fun n_2=>.ite n_2 (.ex (fun(x:List Ev×Ev)=>eqL [AV.agg [AV.sl 5 9 (evG nL1)],AV.agg [AV.int .u8 1,AV.int .i64 n.1,AV.int .i64 n.2.1,AV.int .i64 0,AV.int .i64 46340,AV.str [],AV.str acme,AV.str n.2.2,AV.bool false]] [AV.agg [AV.sl x.1.length 9 (evG x.1)],AV.agg [AV.int .u8 x.2.kind,AV.int .i64 x.2.id,AV.int .i64 x.2.entry,AV.int .i64 x.2.target,AV.int .i64 x.2.date,AV.str x.2.zb,AV.str x.2.name,AV.str x.2.value,AV.bool x.2.first]]∧evP x.1∧zp x.2) fun n=>.all (fun(r:List Ev×Int)=>r=appS n.1 n.2) fun n=>.leaf (.back 0 [(0,.bool false),(1,.ptr 0 0),(3,.ptr 1 0),(4,.int .i64 0),(6,.int .i64 2),(8,.int .i64 21),(10,.int .i64 n.2)] [.box [.sl 5 9 (evG nL1)],.box [.int .u8 2,.int .i64 5,.int .i64 71,.int .i64 0,.int .i64 3,.str (Ev.zb (chE (5:Int))),.str (Ev.name (chE (5:Int))),.str (Ev.value (chE (5:Int))),.bool false],.dead,.dead,.box [.sl n.1.length 9 (evG n.1)]])) (.ex (fun(x:List Ev×Ev)=>eqL [AV.agg [AV.sl 5 9 (evG nL1)],AV.agg [AV.int .u8 1,AV.int .i64 n.1,AV.int .i64 n.2.1,AV.int .i64 0,AV.int .i64 46340,AV.str [],AV.str acme,AV.str n.2.2,AV.bool false]] [AV.agg [AV.sl x.1.length 9 (evG x.1)],AV.agg [AV.int .u8 x.2.kind,AV.int .i64 x.2.id,AV.int .i64 x.2.entry,AV.int .i64 x.2.target,AV.int .i64 x.2.date,AV.str x.2.zb,AV.str x.2.name,AV.str x.2.value,AV.bool x.2.first]]∧evP x.1∧zp x.2) fun n=>.all (fun(r:List Ev×Int)=>r=appS n.1 n.2) fun n=>.leaf (.back 0 [(0,.bool false),(1,.ptr 0 0),(3,.ptr 1 0),(4,.int .i64 0),(6,.int .i64 2),(8,.int .i64 21),(10,.int .i64 n.2)] [.box [.sl 5 9 (evG nL1)],.box [.int .u8 2,.int .i64 5,.int .i64 71,.int .i64 0,.int .i64 3,.str (Ev.zb (chE (5:Int))),.str (Ev.name (chE (5:Int))),.str (Ev.value (chE (5:Int))),.bool false],.dead,.dead,.box [.sl n.1.length 9 (evG n.1)]]))) (.ex (fun(x:Int×Int×List UInt8)=>eqL [AV.int .i64 6,AV.int .i64 71,AV.str #[(49:UInt8)].toList] [AV.int .i64 x.1,AV.int .i64 x.2.1,AV.str x.2.2]∧True) fun n=>.all (fun(x:Unit)=>True) fun n_1=>.ex (fun(x:List Ev×Ev)=>eqL [AV.agg [AV.sl 5 9 (evG nL1)],AV.agg [AV.int .u8 1,AV.int .i64 n.1,AV.int .i64 n.2.1,AV.int .i64 0,AV.int .i64 46340,AV.str [],AV.str acme,AV.str n.2.2,AV.bool false]] [AV.agg [AV.sl x.1.length 9 (evG x.1)],AV.agg [AV.int .u8 x.2.kind,AV.int .i64 x.2.id,AV.int .i64 x.2.entry,AV.int .i64 x.2.target,AV.int .i64 x.2.date,AV.str x.2.zb,AV.str x.2.name,AV.str x.2.value,AV.bool x.2.first]]∧evP x.1∧zp x.2) fun n=>.all (fun(r:List Ev×Int)=>r=appS n.1 n.2) fun n=>.leaf (.back 0 [(0,.bool false),(1,.ptr 0 0),(3,.ptr 1 0),(4,.int .i64 0),(6,.int .i64 2),(8,.int .i64 21),(10,.int .i64 n.2)] [.box [.sl 5 9 (evG nL1)],.box [.int .u8 2,.int .i64 5,.int .i64 71,.int .i64 0,.int .i64 3,.str (Ev.zb (chE (5:Int))),.str (Ev.name (chE (5:Int))),.str (Ev.value (chE (5:Int))),.bool false],.dead,.dead,.box [.sl n.1.length 9 (evG n.1)]]))) (by kernel_rfl) ?_
  simp only [Tree.holds,zd]
  repeat' first
   | apply qP
   | apply j5
   | apply wh nL1 (fixE 6 71 [49]) (jk _) (vM _) kE (by exact⟨by decide,by decide,by decide⟩)
  all_goals
   simp only [sn_h]
   rw [if_pos trivial]
  all_goals exact⟨(),by simp [SY7],⟨ze _,ze _,trivial,trivial,trivial,trivial⟩,by kernel_rfl,Nat.zero_le _⟩
 show zE none Try.prog Try.f3 O 0 w0 [] _ _ LY7 _
 refine zc.cutL (ι:=Unit) LY7 1 0 (fun _=>SY8) (fun _=>HY8) (by kernel_rfl) (by kernel_rfl) ?_ fun _=> ?_
 ·refine zc.run hmix zL [0,1,3,4,6,8,10,12] 400 (T:=.all (fun(x:Bool)=>True) fun n=>.ite n (.ex (fun(x:Int×Int×List UInt8)=>eqL [AV.int .i64 6,AV.int .i64 71,AV.str #[(120:UInt8)].toList] [AV.int .i64 x.1,AV.int .i64 x.2.1,AV.str x.2.2]∧True) fun n=>.all (fun(x:Unit)=>True) fun n_1=>.all (fun(x:Bool)=>True) fun n_2=>.ite n_2 (.ex (fun(x:List Ev×Ev)=>eqL [AV.agg [AV.sl 5 9 (evG nL1)],AV.agg [AV.int .u8 1,AV.int .i64 n.1,AV.int .i64 n.2.1,AV.int .i64 0,AV.int .i64 46340,AV.str [],AV.str acme,AV.str n.2.2,AV.bool false]] [AV.agg [AV.sl x.1.length 9 (evG x.1)],AV.agg [AV.int .u8 x.2.kind,AV.int .i64 x.2.id,AV.int .i64 x.2.entry,AV.int .i64 x.2.target,AV.int .i64 x.2.date,AV.str x.2.zb,AV.str x.2.name,AV.str x.2.value,AV.bool x.2.first]]∧evP x.1∧zp x.2) fun n=>.all (fun(r:List Ev×Int)=>r=appS n.1 n.2) fun n=>.leaf (.back 0 [(0,.bool false),(1,.ptr 0 0),(3,.ptr 1 0),(4,.int .i64 0),(6,.int .i64 2),(8,.int .i64 21),(10,.int .i64 24),(12,.int .i64 n.2)] [.box [.sl 5 9 (evG nL1)],.box [.int .u8 2,.int .i64 5,.int .i64 71,.int .i64 0,.int .i64 3,.str (Ev.zb (chE (5:Int))),.str (Ev.name (chE (5:Int))),.str (Ev.value (chE (5:Int))),.bool false],.dead,.dead,.dead,.box [.sl n.1.length 9 (evG n.1)]])) (.ex (fun(x:List Ev×Ev)=>eqL [AV.agg [AV.sl 5 9 (evG nL1)],AV.agg [AV.int .u8 1,AV.int .i64 n.1,AV.int .i64 n.2.1,AV.int .i64 0,AV.int .i64 46340,AV.str [],AV.str acme,AV.str n.2.2,AV.bool false]] [AV.agg [AV.sl x.1.length 9 (evG x.1)],AV.agg [AV.int .u8 x.2.kind,AV.int .i64 x.2.id,AV.int .i64 x.2.entry,AV.int .i64 x.2.target,AV.int .i64 x.2.date,AV.str x.2.zb,AV.str x.2.name,AV.str x.2.value,AV.bool x.2.first]]∧evP x.1∧zp x.2) fun n=>.all (fun(r:List Ev×Int)=>r=appS n.1 n.2) fun n=>.leaf (.back 0 [(0,.bool false),(1,.ptr 0 0),(3,.ptr 1 0),(4,.int .i64 0),(6,.int .i64 2),(8,.int .i64 21),(10,.int .i64 24),(12,.int .i64 n.2)] [.box [.sl 5 9 (evG nL1)],.box [.int .u8 2,.int .i64 5,.int .i64 71,.int .i64 0,.int .i64 3,.str (Ev.zb (chE (5:Int))),.str (Ev.name (chE (5:Int))),.str (Ev.value (chE (5:Int))),.bool false],.dead,.dead,.dead,.box [.sl n.1.length 9 (evG n.1)]]))) (.ex (fun(x:Int×Int×List UInt8)=>eqL [AV.int .i64 6,AV.int .i64 71,AV.str #[(120:UInt8)].toList] [AV.int .i64 x.1,AV.int .i64 x.2.1,AV.str x.2.2]∧True) fun n=>.all (fun(x:Unit)=>True) fun n_1=>.ex (fun(x:List Ev×Ev)=>eqL [AV.agg [AV.sl 5 9 (evG nL1)],AV.agg [AV.int .u8 1,AV.int .i64 n.1,AV.int .i64 n.2.1,AV.int .i64 0,AV.int .i64 46340,AV.str [],AV.str acme,AV.str n.2.2,AV.bool false]] [AV.agg [AV.sl x.1.length 9 (evG x.1)],AV.agg [AV.int .u8 x.2.kind,AV.int .i64 x.2.id,AV.int .i64 x.2.entry,AV.int .i64 x.2.target,AV.int .i64 x.2.date,AV.str x.2.zb,AV.str x.2.name,AV.str x.2.value,AV.bool x.2.first]]∧evP x.1∧zp x.2) fun n=>.all (fun(r:List Ev×Int)=>r=appS n.1 n.2) fun n=>.leaf (.back 0 [(0,.bool false),(1,.ptr 0 0),(3,.ptr 1 0),(4,.int .i64 0),(6,.int .i64 2),(8,.int .i64 21),(10,.int .i64 24),(12,.int .i64 n.2)] [.box [.sl 5 9 (evG nL1)],.box [.int .u8 2,.int .i64 5,.int .i64 71,.int .i64 0,.int .i64 3,.str (Ev.zb (chE (5:Int))),.str (Ev.name (chE (5:Int))),.str (Ev.value (chE (5:Int))),.bool false],.dead,.dead,.dead,.box [.sl n.1.length 9 (evG n.1)]]))) (by kernel_rfl) ?_
  simp only [Tree.holds,zd]
  repeat' first
   | apply qP
   | apply j5
   | apply wh nL1 (fixE 6 71 [120]) (jk _) (vM _) kE (by exact⟨by decide,by decide,by decide⟩)
  all_goals
   simp only [sn_i]
   rw [if_pos trivial]
  all_goals exact⟨(),by simp [SY8],⟨ze _,ze _,trivial,trivial,trivial,trivial,trivial⟩,by kernel_rfl,Nat.zero_le _⟩
 show zE none Try.prog Try.f3 O 0 w0 [] _ _ LY8 _
 refine zc.cutL (ι:=Unit) LY8 1 0 (fun _=>SY9) (fun _=>HY9) (by kernel_rfl) (by kernel_rfl) ?_ fun _=> ?_
 ·refine zc.run hmix zL [0,1,3,4,6,8,10,12,14] 400 (T:=.ex (fun(x:List Ev×Ev)=>eqL [AV.agg [AV.sl 5 9 (evG nL1)],AV.agg [AV.int .u8 3,AV.int .i64 6,AV.int .i64 71,AV.int .i64 1,AV.int .i64 0,AV.str #[].toList,AV.str #[].toList,AV.str #[(49:UInt8)].toList,AV.bool false]] [AV.agg [AV.sl x.1.length 9 (evG x.1)],AV.agg [AV.int .u8 x.2.kind,AV.int .i64 x.2.id,AV.int .i64 x.2.entry,AV.int .i64 x.2.target,AV.int .i64 x.2.date,AV.str x.2.zb,AV.str x.2.name,AV.str x.2.value,AV.bool x.2.first]]∧evP x.1∧zp x.2) fun n=>.all (fun(r:List Ev×Int)=>r=appS n.1 n.2) fun n=>.leaf (.back 0 [(0,.bool false),(1,.ptr 0 0),(3,.ptr 1 0),(4,.int .i64 0),(6,.int .i64 2),(8,.int .i64 21),(10,.int .i64 24),(12,.int .i64 2),(14,.int .i64 n.2)] [.box [.sl 5 9 (evG nL1)],.box [.int .u8 2,.int .i64 5,.int .i64 71,.int .i64 0,.int .i64 3,.str (Ev.zb (chE (5:Int))),.str (Ev.name (chE (5:Int))),.str (Ev.value (chE (5:Int))),.bool false],.dead,.dead,.dead,.dead,.box [.sl n.1.length 9 (evG n.1)]])) (by kernel_rfl) ?_
  simp only [Tree.holds,zd]
  repeat' first
   | apply qP
   | apply j5
   | apply wh nL1 ⟨3,6,71,1,0,[],[],[49],false⟩ (jk _) (vM _) kE (by exact⟨by decide,by decide,by decide⟩)
  all_goals
   simp only [sn_j]
   rw [if_pos trivial]
  all_goals exact⟨(),by simp [SY9],⟨ze _,ze _,trivial,trivial,trivial,trivial,trivial,trivial⟩,by kernel_rfl,Nat.zero_le _⟩
 show zE none Try.prog Try.f3 O 0 w0 [] _ _ LY9 _
 refine zc.cutL (ι:=Unit) LY9 1 0 (fun _=>SY10) (fun _=>HY10) (by kernel_rfl) (by kernel_rfl) ?_ fun _=> ?_
 ·refine zc.run hmix zL [0,1,3,4,6,8,10,12,14,16] 400 (T:=.ex (fun(x:List Ev×Ev)=>eqL [AV.agg [AV.sl 5 9 (evG nL1)],AV.agg [AV.int .u8 5,AV.int .i64 6,AV.int .i64 71,AV.int .i64 2,AV.int .i64 0,AV.str #[].toList,AV.str #[].toList,AV.str #[].toList,AV.bool false]] [AV.agg [AV.sl x.1.length 9 (evG x.1)],AV.agg [AV.int .u8 x.2.kind,AV.int .i64 x.2.id,AV.int .i64 x.2.entry,AV.int .i64 x.2.target,AV.int .i64 x.2.date,AV.str x.2.zb,AV.str x.2.name,AV.str x.2.value,AV.bool x.2.first]]∧evP x.1∧zp x.2) fun n=>.all (fun(r:List Ev×Int)=>r=appS n.1 n.2) fun n=>.leaf (.back 0 [(0,.bool false),(1,.ptr 0 0),(3,.ptr 1 0),(4,.int .i64 0),(6,.int .i64 2),(8,.int .i64 21),(10,.int .i64 24),(12,.int .i64 2),(14,.int .i64 6),(16,.int .i64 n.2)] [.box [.sl 5 9 (evG nL1)],.box [.int .u8 2,.int .i64 5,.int .i64 71,.int .i64 0,.int .i64 3,.str (Ev.zb (chE (5:Int))),.str (Ev.name (chE (5:Int))),.str (Ev.value (chE (5:Int))),.bool false],.dead,.dead,.dead,.dead,.dead,.box [.sl n.1.length 9 (evG n.1)]])) (by kernel_rfl) ?_
  simp only [Tree.holds,zd]
  repeat' first
   | apply qP
   | apply j5
   | apply wh nL1 ⟨5,6,71,2,0,[],[],[],false⟩ (jk _) (vM _) kE (by exact⟨by decide,by decide,by decide⟩)
  all_goals
   simp only [sn_k]
   rw [if_pos trivial]
  all_goals exact⟨(),by simp [SY10],⟨ze _,ze _,trivial,trivial,trivial,trivial,trivial,trivial,trivial⟩,by kernel_rfl,Nat.zero_le _⟩
 show zE none Try.prog Try.f3 O 0 w0 [] _ _ LY10 _
 refine zc.cutL (ι:=Unit) LY10 1 0 (fun _=>SY11) (fun _=>HY11) (by kernel_rfl) (by kernel_rfl) ?_ fun _=> ?_
 ·refine zc.run hmix zL [0,1,3,4,6,8,10,12,14,16,18] 400 (T:=.ex (fun(x:List Ev×Ev)=>eqL [AV.agg [AV.sl 5 9 (evG nL1)],AV.agg [AV.int .u8 3,AV.int .i64 6,AV.int .i64 71,AV.int .i64 5,AV.int .i64 0,AV.str #[].toList,AV.str #[].toList,AV.str #[(49:UInt8)].toList,AV.bool false]] [AV.agg [AV.sl x.1.length 9 (evG x.1)],AV.agg [AV.int .u8 x.2.kind,AV.int .i64 x.2.id,AV.int .i64 x.2.entry,AV.int .i64 x.2.target,AV.int .i64 x.2.date,AV.str x.2.zb,AV.str x.2.name,AV.str x.2.value,AV.bool x.2.first]]∧evP x.1∧zp x.2) fun n=>.all (fun(r:List Ev×Int)=>r=appS n.1 n.2) fun n=>.leaf (.back 0 [(0,.bool false),(1,.ptr 0 0),(3,.ptr 1 0),(4,.int .i64 0),(6,.int .i64 2),(8,.int .i64 21),(10,.int .i64 24),(12,.int .i64 2),(14,.int .i64 6),(16,.int .i64 6),(18,.int .i64 n.2)] [.box [.sl 5 9 (evG nL1)],.box [.int .u8 2,.int .i64 5,.int .i64 71,.int .i64 0,.int .i64 3,.str (Ev.zb (chE (5:Int))),.str (Ev.name (chE (5:Int))),.str (Ev.value (chE (5:Int))),.bool false],.dead,.dead,.dead,.dead,.dead,.dead,.box [.sl n.1.length 9 (evG n.1)]])) (by kernel_rfl) ?_
  simp only [Tree.holds,zd]
  repeat' first
   | apply qP
   | apply j5
   | apply wh nL1 ⟨3,6,71,5,0,[],[],[49],false⟩ (jk _) (vM _) kE (by exact⟨by decide,by decide,by decide⟩)
  all_goals
   simp only [sn_l]
   rw [if_pos trivial]
  all_goals exact⟨(),by simp [SY11],⟨ze _,ze _,trivial,trivial,trivial,trivial,trivial,trivial,trivial,trivial⟩,by kernel_rfl,Nat.zero_le _⟩
 show zE none Try.prog Try.f3 O 0 w0 [] _ _ LY11 _
 refine zc.cutL (ι:=Unit) LY11 1 0 (fun _=>SY12) (fun _=>HY12) (by kernel_rfl) (by kernel_rfl) ?_ fun _=> ?_
 ·refine zc.run hmix zL [0,1,3,4,6,8,10,12,14,16,18,20] 400 (T:=.ex (fun(x:List Ev×Ev)=>eqL [AV.agg [AV.sl 5 9 (evG nL1)],AV.agg [AV.int .u8 4,AV.int .i64 6,AV.int .i64 71,AV.int .i64 4,AV.int .i64 0,AV.str #[].toList,AV.str #[].toList,AV.str #[].toList,AV.bool false]] [AV.agg [AV.sl x.1.length 9 (evG x.1)],AV.agg [AV.int .u8 x.2.kind,AV.int .i64 x.2.id,AV.int .i64 x.2.entry,AV.int .i64 x.2.target,AV.int .i64 x.2.date,AV.str x.2.zb,AV.str x.2.name,AV.str x.2.value,AV.bool x.2.first]]∧evP x.1∧zp x.2) fun n=>.all (fun(r:List Ev×Int)=>r=appS n.1 n.2) fun n=>.leaf (.back 0 [(0,.bool false),(1,.ptr 0 0),(3,.ptr 1 0),(4,.int .i64 0),(6,.int .i64 2),(8,.int .i64 21),(10,.int .i64 24),(12,.int .i64 2),(14,.int .i64 6),(16,.int .i64 6),(18,.int .i64 32),(20,.int .i64 n.2)] [.box [.sl 5 9 (evG nL1)],.box [.int .u8 2,.int .i64 5,.int .i64 71,.int .i64 0,.int .i64 3,.str (Ev.zb (chE (5:Int))),.str (Ev.name (chE (5:Int))),.str (Ev.value (chE (5:Int))),.bool false],.dead,.dead,.dead,.dead,.dead,.dead,.dead,.box [.sl n.1.length 9 (evG n.1)]])) (by kernel_rfl) ?_
  simp only [Tree.holds,zd]
  repeat' first
   | apply qP
   | apply j5
   | apply wh nL1 ⟨4,6,71,4,0,[],[],[],false⟩ (jk _) (vM _) kE (by exact⟨by decide,by decide,by decide⟩)
  all_goals
   simp only [sn_m]
   rw [if_pos trivial]
  all_goals exact⟨(),by simp [SY12],⟨ze _,ze _,trivial,trivial,trivial,trivial,trivial,trivial,trivial,trivial,trivial⟩,by kernel_rfl,Nat.zero_le _⟩
 show zE none Try.prog Try.f3 O 0 w0 [] _ _ LY12 _
 refine zc.cutL (ι:=Unit) LY12 1 0 (fun _=>SY13) (fun _=>HY13) (by kernel_rfl) (by kernel_rfl) ?_ fun _=> ?_
 ·refine zc.run hmix zL [0,1,3,4,6,8,10,12,14,16,18,20] 400 (T:=.leaf (.back 0 [(0,.bool false),(1,.ptr 0 0),(3,.ptr 1 0),(4,.int .i64 0),(6,.int .i64 2),(8,.int .i64 21),(10,.int .i64 24),(12,.int .i64 2),(14,.int .i64 6),(16,.int .i64 6),(18,.int .i64 32),(20,.int .i64 32)] [.box [.sl 5 9 (evG nL1)],.box [.int .u8 2,.int .i64 6,.int .i64 71,.int .i64 0,.int .i64 3,.str (Ev.zb (chE (5:Int))),.str (Ev.name (chE (5:Int))),.str (Ev.value (chE (5:Int))),.bool false],.dead,.dead,.dead,.dead,.dead,.dead,.dead,.dead])) (by kernel_rfl) ?_
  simp only [Tree.holds,zd]
  rw [if_pos trivial]
  exact⟨(),by simp [SY13],⟨ze _,ze _,trivial,trivial,trivial,trivial,trivial,trivial,trivial,trivial,trivial⟩,by kernel_rfl,Nat.zero_le _⟩
 show zE none Try.prog Try.f3 O 0 w0 [] _ _ LY13 _
 refine zc.cutL (ι:=Unit) LY13 1 0 (fun _=>SY14) (fun _=>HY14) (by kernel_rfl) (by kernel_rfl) ?_ fun _=> ?_
 ·refine zc.run hmix zL [0,1,3,4,6,8,10,12,14,16,18,20,22] 400 (T:=.ex (fun(x:List Ev×Ev)=>eqL [AV.agg [AV.sl 5 9 (evG nL1)],AV.agg [AV.int .u8 2,AV.int .i64 6,AV.int .i64 71,AV.int .i64 0,AV.int .i64 3,AV.str (Ev.zb (chE (6:Int))),AV.str (Ev.name (chE (6:Int))),AV.str (Ev.value (chE (6:Int))),AV.bool false]] [AV.agg [AV.sl x.1.length 9 (evG x.1)],AV.agg [AV.int .u8 x.2.kind,AV.int .i64 x.2.id,AV.int .i64 x.2.entry,AV.int .i64 x.2.target,AV.int .i64 x.2.date,AV.str x.2.zb,AV.str x.2.name,AV.str x.2.value,AV.bool x.2.first]]∧evP x.1∧zp x.2) fun n=>.all (fun(r:List Ev×Int)=>r=appS n.1 n.2) fun n=>.leaf (.back 0 [(0,.bool false),(1,.ptr 0 0),(3,.ptr 1 0),(4,.int .i64 0),(6,.int .i64 2),(8,.int .i64 21),(10,.int .i64 24),(12,.int .i64 2),(14,.int .i64 6),(16,.int .i64 6),(18,.int .i64 32),(20,.int .i64 32),(22,.int .i64 n.2)] [.box [.sl 5 9 (evG nL1)],.box [.int .u8 2,.int .i64 6,.int .i64 71,.int .i64 0,.int .i64 3,.str (Ev.zb (chE (6:Int))),.str (Ev.name (chE (6:Int))),.str (Ev.value (chE (6:Int))),.bool false],.dead,.dead,.dead,.dead,.dead,.dead,.dead,.dead,.box [.sl n.1.length 9 (evG n.1)]])) (by kernel_rfl) ?_
  simp only [Tree.holds,zd]
  repeat' first
   | apply qP
   | apply j5
   | apply wh nL1 (chE 6) (jk _) (vM _) kE (by exact⟨by decide,by decide,by decide⟩)
  all_goals
   simp only [sn_n]
   rw [if_pos trivial]
  all_goals exact⟨(),by simp [SY14],⟨ze _,ze _,trivial,trivial,trivial,trivial,trivial,trivial,trivial,trivial,trivial,trivial⟩,by kernel_rfl,Nat.zero_le _⟩
 show zE none Try.prog Try.f3 O 0 w0 [] _ _ LY14 _
 refine zc.cutL (ι:=Unit) LY14 1 0 (fun _=>SY15) (fun _=>HY15) (by kernel_rfl) (by kernel_rfl) ?_ fun _=> ?_
 ·refine zc.run hmix zL [0,1,4,6,8,10,12,14,16,18,20,22,23] 400 (T:=.ex (fun(x:List Ev×Ev)=>eqL [AV.agg [AV.sl 5 9 (evG nL1)],AV.agg [AV.int .u8 4,AV.int .i64 6,AV.int .i64 80,AV.int .i64 5,AV.int .i64 0,AV.str #[].toList,AV.str #[].toList,AV.str #[].toList,AV.bool true]] [AV.agg [AV.sl x.1.length 9 (evG x.1)],AV.agg [AV.int .u8 x.2.kind,AV.int .i64 x.2.id,AV.int .i64 x.2.entry,AV.int .i64 x.2.target,AV.int .i64 x.2.date,AV.str x.2.zb,AV.str x.2.name,AV.str x.2.value,AV.bool x.2.first]]∧evP x.1∧zp x.2) fun n=>.all (fun(r:List Ev×Int)=>r=appS n.1 n.2) fun n=>.leaf (.back 0 [(0,.bool false),(1,.ptr 0 0),(4,.int .i64 0),(6,.int .i64 2),(8,.int .i64 21),(10,.int .i64 24),(12,.int .i64 2),(14,.int .i64 6),(16,.int .i64 6),(18,.int .i64 32),(20,.int .i64 32),(22,.int .i64 24),(23,.int .i64 n.2)] [.box [.sl n.1.length 9 (evG n.1)],.box [.int .u8 2,.int .i64 6,.int .i64 71,.int .i64 0,.int .i64 3,.str (Ev.zb (chE (6:Int))),.str (Ev.name (chE (6:Int))),.str (Ev.value (chE (6:Int))),.bool false],.dead,.dead,.dead,.dead,.dead,.dead,.dead,.dead,.dead])) (by kernel_rfl) ?_
  simp only [Tree.holds,zd]
  repeat' first
   | apply qP
   | apply j5
   | apply wh nL1 sdE (jk _) (vM _) kE (by exact⟨by decide,by decide,by decide⟩)
  all_goals
   simp only [sn_o]
   rw [if_pos trivial]
  all_goals exact⟨(),by simp [SY15],⟨ze _,trivial,trivial,trivial,trivial,trivial,trivial,trivial,trivial,trivial,trivial,trivial⟩,by kernel_rfl,Nat.zero_le _⟩
 show zE none Try.prog Try.f3 O 0 w0 [] _ _ LY15 _
 refine zc.cutL (ι:=Unit) LY15 1 0 (fun _=>SY16) (fun _=>HY16) (by kernel_rfl) (by kernel_rfl) ?_ fun _=> ?_
 ·refine zc.run hmix zL [0,1,4,6,8,10,12,14,16,18,20,22,23,24,25] 400 (T:=.ex (fun(x:List Ev×Int)=>eqL [AV.agg [AV.sl 6 9 (evG nL2)],AV.int .i64 79] [AV.agg [AV.sl x.1.length 9 (evG x.1)],AV.int .i64 x.2]∧evP x.1) fun n=>.all (fun(r:EnvL×Int)=>r=zy n.1 n.2 none) fun n=>.leaf (.back 0 [(0,.bool false),(1,.ptr 0 0),(4,.int .i64 0),(6,.int .i64 2),(8,.int .i64 21),(10,.int .i64 24),(12,.int .i64 2),(14,.int .i64 6),(16,.int .i64 6),(18,.int .i64 32),(20,.int .i64 32),(22,.int .i64 24),(23,.int .i64 0),(24,.ptr 11 0),(25,.int .i64 n.2)] [.box [.sl 6 9 (evG nL2)],.dead,.dead,.dead,.dead,.dead,.dead,.dead,.dead,.dead,.dead,.box [.sl n.1.1.length 3 (fxG n.1.1),.sl n.1.2.length 4 (chG n.1.2)]])) (by kernel_rfl) ?_
  simp only [Tree.holds,zd]
  refine⟨(nL2,79),⟨⟨jk nL2,⟨rfl,rfl⟩,trivial⟩,xp⟩,⟨_,rfl⟩,?_⟩
  rintro _ rfl
  rw [if_pos trivial]
  simp only [sn_p]
  exact⟨(),by simp [SY16],⟨ze _,trivial,trivial,trivial,trivial,trivial,trivial,trivial,trivial,trivial,trivial,ze _,trivial⟩,by kernel_rfl,Nat.zero_le _⟩
 show zE none Try.prog Try.f3 O 0 w0 [] _ _ LY16 _
 refine zc.cutL (ι:=Unit) LY16 1 0 (fun _=>SY17) (fun _=>HY17) (by kernel_rfl) (by kernel_rfl) ?_ fun _=> ?_
 ·refine zc.run hmix zL [0,1,4,6,8,10,12,14,16,18,20,22,23,24,25,26,27] 400 (T:=.ex (fun(x:List Ev×Int)=>eqL [AV.agg [AV.sl 6 9 (evG nL2)],AV.int .i64 80] [AV.agg [AV.sl x.1.length 9 (evG x.1)],AV.int .i64 x.2]∧evP x.1) fun n=>.all (fun(r:EnvL×Int)=>r=zy n.1 n.2 none) fun n=>.leaf (.back 0 [(0,.bool false),(1,.ptr 0 0),(4,.int .i64 0),(6,.int .i64 2),(8,.int .i64 21),(10,.int .i64 24),(12,.int .i64 2),(14,.int .i64 6),(16,.int .i64 6),(18,.int .i64 32),(20,.int .i64 32),(22,.int .i64 24),(23,.int .i64 0),(24,.ptr 11 0),(25,.int .i64 0),(26,.ptr 12 0),(27,.int .i64 n.2)] [.box [.sl 6 9 (evG nL2)],.dead,.dead,.dead,.dead,.dead,.dead,.dead,.dead,.dead,.dead,.box [.sl 1 3 (fxG [{ name:=acme,date:=(46340:Int),value:=[(49:UInt8),(50:UInt8)] }]),.sl 1 4 (chG [{ zb:=[(97:UInt8)],name:=[(98:UInt8)],date:=(3:Int),first:=false }])],.box [.sl n.1.1.length 3 (fxG n.1.1),.sl n.1.2.length 4 (chG n.1.2)]])) (by kernel_rfl) ?_
  simp only [Tree.holds,zd]
  refine⟨(nL2,80),⟨⟨jk nL2,⟨rfl,rfl⟩,trivial⟩,xp⟩,⟨_,rfl⟩,?_⟩
  rintro _ rfl
  rw [if_pos trivial]
  simp only [sn_q]
  exact⟨(),by simp [SY17],⟨ze _,trivial,trivial,trivial,trivial,trivial,trivial,trivial,trivial,trivial,trivial,ze _,ze _,trivial⟩,by kernel_rfl,Nat.zero_le _⟩
 show zE none Try.prog Try.f3 O 0 w0 [] _ _ LY17 _
 refine zc.cutL (ι:=Unit) LY17 1 0 (fun _=>SY18) (fun _=>HY18) (by kernel_rfl) (by kernel_rfl) ?_ fun _=> ?_
 ·refine zc.run hmix zL [0,1,4,6,8,10,12,14,16,18,20,22,23,24,25,26,27,28,29] 400 (T:=.ex (fun(x:List Ev×Int×Int)=>eqL [AV.agg [AV.sl 6 9 (evG nL2)],AV.int .i64 80,AV.int .i64 46339] [AV.agg [AV.sl x.1.length 9 (evG x.1)],AV.int .i64 x.2.1,AV.int .i64 x.2.2]∧evP x.1) fun n=>.all (fun(r:EnvL×Int)=>r=uz n.1 n.2.1 n.2.2) fun n=>.leaf (.back 0 [(0,.bool false),(1,.ptr 0 0),(4,.int .i64 0),(6,.int .i64 2),(8,.int .i64 21),(10,.int .i64 24),(12,.int .i64 2),(14,.int .i64 6),(16,.int .i64 6),(18,.int .i64 32),(20,.int .i64 32),(22,.int .i64 24),(23,.int .i64 0),(24,.ptr 11 0),(25,.int .i64 0),(26,.ptr 12 0),(27,.int .i64 0),(28,.ptr 13 0),(29,.int .i64 n.2)] [.box [.sl 6 9 (evG nL2)],.dead,.dead,.dead,.dead,.dead,.dead,.dead,.dead,.dead,.dead,.box [.sl 1 3 (fxG [{ name:=acme,date:=(46340:Int),value:=[(49:UInt8),(50:UInt8)] }]),.sl 1 4 (chG [{ zb:=[(97:UInt8)],name:=[(98:UInt8)],date:=(3:Int),first:=false }])],.box [.sl 1 3 (fxG [{ name:=acme,date:=(46340:Int),value:=[(49:UInt8),(50:UInt8)] }]),.sl 1 4 (chG [{ zb:=[(97:UInt8)],name:=[(98:UInt8)],date:=(3:Int),first:=true }])],.box [.sl n.1.1.length 3 (fxG n.1.1),.sl n.1.2.length 4 (chG n.1.2)]])) (by kernel_rfl) ?_
  simp only [Tree.holds,zd]
  refine⟨(nL2,80,46339),⟨⟨jk nL2,⟨rfl,rfl⟩,⟨rfl,rfl⟩,trivial⟩,xp⟩,⟨_,rfl⟩,?_⟩
  rintro _ rfl
  rw [if_pos trivial]
  simp only [sn_r]
  exact⟨(),by simp [SY18],⟨ze _,trivial,trivial,trivial,trivial,trivial,trivial,trivial,trivial,trivial,trivial,ze _,ze _,ze _,trivial⟩,by kernel_rfl,Nat.zero_le _⟩
 show zE none Try.prog Try.f3 O 0 w0 [] _ _ LY18 _
 refine zc.cutL (ι:=Unit) LY18 1 0 (fun _=>SY19) (fun _=>HY19) (by kernel_rfl) (by kernel_rfl) ?_ fun _=> ?_
 ·refine zc.run hmix zL [0,1,4,6,8,10,12,14,16,18,20,22,23,24,25,26,27,28,29,31] 400 (T:=.ex (fun(x:List Ev×Int×Int)=>eqL [AV.agg [AV.sl 6 9 (evG nL2)],AV.int .i64 80,AV.int .i64 100000] [AV.agg [AV.sl x.1.length 9 (evG x.1)],AV.int .i64 x.2.1,AV.int .i64 x.2.2]∧evP x.1) fun n=>.all (fun(r:EnvL×Int)=>r=uz n.1 n.2.1 n.2.2) fun n=>.leaf (.back 0 [(0,.bool false),(1,.ptr 0 0),(4,.int .i64 0),(6,.int .i64 2),(8,.int .i64 21),(10,.int .i64 24),(12,.int .i64 2),(14,.int .i64 6),(16,.int .i64 6),(18,.int .i64 32),(20,.int .i64 32),(22,.int .i64 24),(23,.int .i64 0),(24,.ptr 11 0),(25,.int .i64 0),(26,.ptr 12 0),(27,.int .i64 0),(28,.ptr 13 0),(29,.int .i64 0),(31,.int .i64 n.2)] [.box [.sl 6 9 (evG nL2)],.dead,.dead,.dead,.dead,.dead,.dead,.dead,.dead,.dead,.dead,.box [.sl 1 3 (fxG [{ name:=acme,date:=(46340:Int),value:=[(49:UInt8),(50:UInt8)] }]),.sl 1 4 (chG [{ zb:=[(97:UInt8)],name:=[(98:UInt8)],date:=(3:Int),first:=false }])],.box [.sl 1 3 (fxG [{ name:=acme,date:=(46340:Int),value:=[(49:UInt8),(50:UInt8)] }]),.sl 1 4 (chG [{ zb:=[(97:UInt8)],name:=[(98:UInt8)],date:=(3:Int),first:=true }])],.box [.sl 0 3 (fxG []),.sl 1 4 (chG [{ zb:=[(97:UInt8)],name:=[(98:UInt8)],date:=(3:Int),first:=true }])],.box [.sl n.1.1.length 3 (fxG n.1.1),.sl n.1.2.length 4 (chG n.1.2)]])) (by kernel_rfl) ?_
  simp only [Tree.holds,zd]
  refine⟨(nL2,80,100000),⟨⟨jk nL2,⟨rfl,rfl⟩,⟨rfl,rfl⟩,trivial⟩,xp⟩,⟨_,rfl⟩,?_⟩
  rintro _ rfl
  rw [if_pos trivial]
  simp only [sn_t]
  exact⟨(),by simp [SY19],⟨ze _,trivial,trivial,trivial,trivial,trivial,trivial,trivial,trivial,trivial,trivial,ze _,ze _,ze _,trivial,trivial⟩,by kernel_rfl,Nat.zero_le _⟩
 show zE none Try.prog Try.f3 O 0 w0 [] _ _ LY19 _
 refine zc.cutL (ι:=Unit) LY19 1 0 (fun _=>SY20) (fun _=>HY20) (by kernel_rfl) (by kernel_rfl) ?_ fun _=> ?_
 ·refine zc.run hmix zL [0,1,4,6,8,10,12,14,16,18,20,22,23,24,25,26,27,28,29,31,33] 400 (T:=.ex (fun(x:List Ev×Int)=>eqL [AV.agg [AV.sl 6 9 (evG nL2)],AV.int .i64 (-1:Int)] [AV.agg [AV.sl x.1.length 9 (evG x.1)],AV.int .i64 x.2]∧evP x.1) fun n=>.all (fun(r:EnvL×Int)=>r=zy n.1 n.2 none) fun n=>.leaf (.back 0 [(0,.bool false),(1,.ptr 0 0),(4,.int .i64 0),(6,.int .i64 2),(8,.int .i64 21),(10,.int .i64 24),(12,.int .i64 2),(14,.int .i64 6),(16,.int .i64 6),(18,.int .i64 32),(20,.int .i64 32),(22,.int .i64 24),(23,.int .i64 0),(24,.ptr 11 0),(25,.int .i64 0),(26,.ptr 12 0),(27,.int .i64 0),(28,.ptr 13 0),(29,.int .i64 0),(31,.int .i64 2),(33,.int .i64 n.2)] [.box [.sl 6 9 (evG nL2)],.dead,.dead,.dead,.dead,.dead,.dead,.dead,.dead,.dead,.dead,.box [.sl 1 3 (fxG [{ name:=acme,date:=(46340:Int),value:=[(49:UInt8),(50:UInt8)] }]),.sl 1 4 (chG [{ zb:=[(97:UInt8)],name:=[(98:UInt8)],date:=(3:Int),first:=false }])],.box [.sl 1 3 (fxG [{ name:=acme,date:=(46340:Int),value:=[(49:UInt8),(50:UInt8)] }]),.sl 1 4 (chG [{ zb:=[(97:UInt8)],name:=[(98:UInt8)],date:=(3:Int),first:=true }])],.box [.sl 0 3 (fxG []),.sl 1 4 (chG [{ zb:=[(97:UInt8)],name:=[(98:UInt8)],date:=(3:Int),first:=true }])],.dead,.box [.sl n.1.1.length 3 (fxG n.1.1),.sl n.1.2.length 4 (chG n.1.2)]])) (by kernel_rfl) ?_
  simp only [Tree.holds,zd]
  refine⟨(nL2,-1),⟨⟨jk nL2,⟨rfl,rfl⟩,trivial⟩,xp⟩,⟨_,rfl⟩,?_⟩
  rintro _ rfl
  rw [if_pos trivial]
  simp only [sn_u]
  exact⟨(),by simp [SY20],⟨ze _,trivial,trivial,trivial,trivial,trivial,trivial,trivial,trivial,trivial,trivial,ze _,ze _,ze _,trivial,trivial,trivial⟩,by kernel_rfl,Nat.zero_le _⟩
 show zE none Try.prog Try.f3 O 0 w0 [] _ _ LY20 _
 refine zc.cutL (ι:=Unit) LY20 1 0 (fun _=>SY21) (fun _=>HY21) (by kernel_rfl) (by kernel_rfl) ?_ fun _=> ?_
 ·refine zc.run hmix zL [0,1,4,6,8,10,12,14,16,18,20,22,23,24,25,26,27,28,29,31,33,34,35] 400 (T:=.ex (fun(x:List Ev×Int)=>eqL [AV.agg [AV.sl 6 9 (evG nL2)],AV.int .i64 1] [AV.agg [AV.sl x.1.length 9 (evG x.1)],AV.int .i64 x.2]∧evP x.1) fun n=>.all (fun(r:List Int×Int)=>r=wi n.1 n.2) fun n=>.leaf (.back 0 [(0,.bool false),(1,.ptr 0 0),(4,.int .i64 0),(6,.int .i64 2),(8,.int .i64 21),(10,.int .i64 24),(12,.int .i64 2),(14,.int .i64 6),(16,.int .i64 6),(18,.int .i64 32),(20,.int .i64 32),(22,.int .i64 24),(23,.int .i64 0),(24,.ptr 11 0),(25,.int .i64 0),(26,.ptr 12 0),(27,.int .i64 0),(28,.ptr 13 0),(29,.int .i64 0),(31,.int .i64 2),(33,.int .i64 2),(34,.sl n.1.length 1 fun(j x:Nat)=>.int .i64 (List.getD n.1 j (0:Int))),(35,.int .i64 n.2)] [.box [.sl 6 9 (evG nL2)],.dead,.dead,.dead,.dead,.dead,.dead,.dead,.dead,.dead,.dead,.box [.sl 1 3 (fxG [{ name:=acme,date:=(46340:Int),value:=[(49:UInt8),(50:UInt8)] }]),.sl 1 4 (chG [{ zb:=[(97:UInt8)],name:=[(98:UInt8)],date:=(3:Int),first:=false }])],.box [.sl 1 3 (fxG [{ name:=acme,date:=(46340:Int),value:=[(49:UInt8),(50:UInt8)] }]),.sl 1 4 (chG [{ zb:=[(97:UInt8)],name:=[(98:UInt8)],date:=(3:Int),first:=true }])],.box [.sl 0 3 (fxG []),.sl 1 4 (chG [{ zb:=[(97:UInt8)],name:=[(98:UInt8)],date:=(3:Int),first:=true }])],.dead,.dead])) (by kernel_rfl) ?_
  simp only [Tree.holds,zd]
  refine⟨(nL2,1),⟨⟨jk nL2,⟨rfl,rfl⟩,trivial⟩,xp⟩,⟨_,rfl⟩,?_⟩
  rintro _ rfl
  rw [if_pos trivial]
  simp only [sn_v]
  exact⟨(),by simp [SY21,intS,za],⟨ze _,trivial,trivial,trivial,trivial,trivial,trivial,trivial,trivial,trivial,trivial,ze _,ze _,ze _,trivial,trivial,trivial⟩,by kernel_rfl,Nat.zero_le _⟩
 show zE none Try.prog Try.f3 O 0 w0 [] _ _ LY21 _
 refine zc.cutL (ι:=Unit) LY21 1 0 (fun _=>SY22) (fun _=>HY22) (by kernel_rfl) (by kernel_rfl) ?_ fun _=> ?_
 ·refine zc.run hmix zL [0,1,4,6,8,10,12,14,16,18,20,22,23,24,25,26,27,28,29,31,33,34,35,37] 400 (T:=.ex (fun(x:List Ev×Int)=>eqL [AV.agg [AV.sl 6 9 (evG nL2)],AV.int .i64 7] [AV.agg [AV.sl x.1.length 9 (evG x.1)],AV.int .i64 x.2]∧evP x.1) fun n=>.all (fun(r:List Int×Int)=>r=wi n.1 n.2) fun n=>.leaf (.back 0 [(0,.bool false),(1,.ptr 0 0),(4,.int .i64 0),(6,.int .i64 2),(8,.int .i64 21),(10,.int .i64 24),(12,.int .i64 2),(14,.int .i64 6),(16,.int .i64 6),(18,.int .i64 32),(20,.int .i64 32),(22,.int .i64 24),(23,.int .i64 0),(24,.ptr 11 0),(25,.int .i64 0),(26,.ptr 12 0),(27,.int .i64 0),(28,.ptr 13 0),(29,.int .i64 0),(31,.int .i64 2),(33,.int .i64 2),(34,.sl 3 1 fun(j x:Nat)=>.int .i64 (List.getD [(1:Int),(2:Int),(3:Int)] j (0:Int))),(35,.int .i64 0),(37,.int .i64 n.2)] [.box [.sl 6 9 (evG nL2)],.dead,.dead,.dead,.dead,.dead,.dead,.dead,.dead,.dead,.dead,.box [.sl 1 3 (fxG [{ name:=acme,date:=(46340:Int),value:=[(49:UInt8),(50:UInt8)] }]),.sl 1 4 (chG [{ zb:=[(97:UInt8)],name:=[(98:UInt8)],date:=(3:Int),first:=false }])],.box [.sl 1 3 (fxG [{ name:=acme,date:=(46340:Int),value:=[(49:UInt8),(50:UInt8)] }]),.sl 1 4 (chG [{ zb:=[(97:UInt8)],name:=[(98:UInt8)],date:=(3:Int),first:=true }])],.box [.sl 0 3 (fxG []),.sl 1 4 (chG [{ zb:=[(97:UInt8)],name:=[(98:UInt8)],date:=(3:Int),first:=true }])],.dead,.dead])) (by kernel_rfl) ?_
  simp only [Tree.holds,zd]
  refine⟨(nL2,7),⟨⟨jk nL2,⟨rfl,rfl⟩,trivial⟩,xp⟩,⟨_,rfl⟩,?_⟩
  rintro _ rfl
  rw [if_pos trivial]
  simp only [sn_w]
  exact⟨(),by simp [SY22,intS,za],⟨ze _,trivial,trivial,trivial,trivial,trivial,trivial,trivial,trivial,trivial,trivial,ze _,ze _,ze _,trivial,trivial,trivial⟩,by kernel_rfl,Nat.zero_le _⟩
 show zE none Try.prog Try.f3 O 0 w0 [] _ _ LY22 _
 refine zc.cutL (ι:=Unit) LY22 1 0 (fun _=>SY23) (fun _=>HY23) (by kernel_rfl) (by kernel_rfl) ?_ fun _=> ?_
 ·refine zc.run hmix zL [0,1,4,6,8,10,12,14,16,18,20,22,23,24,25,26,27,28,29,31,33,34,35,37,39] 400 (T:=.ex (fun(x:List Ev×Int)=>eqL [AV.agg [AV.sl 6 9 (evG nL2)],AV.int .i64 0] [AV.agg [AV.sl x.1.length 9 (evG x.1)],AV.int .i64 x.2]∧evP x.1) fun n=>.all (fun(r:List Int×Int)=>r=wi n.1 n.2) fun n=>.leaf (.back 0 [(0,.bool false),(1,.ptr 0 0),(4,.int .i64 0),(6,.int .i64 2),(8,.int .i64 21),(10,.int .i64 24),(12,.int .i64 2),(14,.int .i64 6),(16,.int .i64 6),(18,.int .i64 32),(20,.int .i64 32),(22,.int .i64 24),(23,.int .i64 0),(24,.ptr 11 0),(25,.int .i64 0),(26,.ptr 12 0),(27,.int .i64 0),(28,.ptr 13 0),(29,.int .i64 0),(31,.int .i64 2),(33,.int .i64 2),(34,.sl 3 1 fun(j x:Nat)=>.int .i64 (List.getD [(1:Int),(2:Int),(3:Int)] j (0:Int))),(35,.int .i64 0),(37,.int .i64 6),(39,.int .i64 n.2)] [.box [.sl 6 9 (evG nL2)],.dead,.dead,.dead,.dead,.dead,.dead,.dead,.dead,.dead,.dead,.box [.sl 1 3 (fxG [{ name:=acme,date:=(46340:Int),value:=[(49:UInt8),(50:UInt8)] }]),.sl 1 4 (chG [{ zb:=[(97:UInt8)],name:=[(98:UInt8)],date:=(3:Int),first:=false }])],.box [.sl 1 3 (fxG [{ name:=acme,date:=(46340:Int),value:=[(49:UInt8),(50:UInt8)] }]),.sl 1 4 (chG [{ zb:=[(97:UInt8)],name:=[(98:UInt8)],date:=(3:Int),first:=true }])],.box [.sl 0 3 (fxG []),.sl 1 4 (chG [{ zb:=[(97:UInt8)],name:=[(98:UInt8)],date:=(3:Int),first:=true }])],.dead,.dead])) (by kernel_rfl) ?_
  simp only [Tree.holds,zd]
  refine⟨(nL2,0),⟨⟨jk nL2,⟨rfl,rfl⟩,trivial⟩,xp⟩,⟨_,rfl⟩,?_⟩
  rintro _ rfl
  rw [if_pos trivial]
  simp only [sn_x]
  exact⟨(),by simp [SY23,intS,za],⟨ze _,trivial,trivial,trivial,trivial,trivial,trivial,trivial,trivial,trivial,trivial,ze _,ze _,ze _,trivial,trivial,trivial⟩,by kernel_rfl,Nat.zero_le _⟩
 show zE none Try.prog Try.f3 O 0 w0 [] _ _ LY23 _
 refine zc.cutL (ι:=Unit) LY23 1 0 (fun _=>SY24) (fun _=>HY24) (by kernel_rfl) (by kernel_rfl) ?_ fun _=> ?_
 ·refine zc.run hmix zL [0,1,4,6,8,10,12,14,16,18,20,22,23,24,25,26,27,28,29,31,33,34,35,37,39,40] 400 (T:=.ex (fun(x:Int×Int×List UInt8)=>eqL [AV.int .i64 2,AV.int .i64 0,AV.str #[(49:UInt8)].toList] [AV.int .i64 x.1,AV.int .i64 x.2.1,AV.str x.2.2]∧True) fun n=>.all (fun(x:Unit)=>True) fun n_1=>.leaf (.back 0 [(0,.bool false),(1,.ptr 0 0),(4,.int .i64 0),(6,.int .i64 2),(8,.int .i64 21),(10,.int .i64 24),(12,.int .i64 2),(14,.int .i64 6),(16,.int .i64 6),(18,.int .i64 32),(20,.int .i64 32),(22,.int .i64 24),(23,.int .i64 0),(24,.ptr 11 0),(25,.int .i64 0),(26,.ptr 12 0),(27,.int .i64 0),(28,.ptr 13 0),(29,.int .i64 0),(31,.int .i64 2),(33,.int .i64 2),(34,.sl 3 1 fun(j x:Nat)=>.int .i64 (List.getD [(1:Int),(2:Int),(3:Int)] j (0:Int))),(35,.int .i64 0),(37,.int .i64 6),(39,.int .i64 6),(40,.ptr 17 0)] [.box [.sl 6 9 (evG nL2)],.dead,.dead,.dead,.dead,.dead,.dead,.dead,.dead,.dead,.dead,.box [.sl 1 3 (fxG [{ name:=acme,date:=(46340:Int),value:=[(49:UInt8),(50:UInt8)] }]),.sl 1 4 (chG [{ zb:=[(97:UInt8)],name:=[(98:UInt8)],date:=(3:Int),first:=false }])],.box [.sl 1 3 (fxG [{ name:=acme,date:=(46340:Int),value:=[(49:UInt8),(50:UInt8)] }]),.sl 1 4 (chG [{ zb:=[(97:UInt8)],name:=[(98:UInt8)],date:=(3:Int),first:=true }])],.box [.sl 0 3 (fxG []),.sl 1 4 (chG [{ zb:=[(97:UInt8)],name:=[(98:UInt8)],date:=(3:Int),first:=true }])],.dead,.dead,.arr 1 9 (zh 9 [.int .u8 1,.int .i64 n.1,.int .i64 n.2.1,.int .i64 0,.int .i64 46340,.str [],.str acme,.str n.2.2,.bool false]),.box [.osl 16 9 0 1]])) (by kernel_rfl) ?_
  simp only [Tree.holds,zd]
  repeat' first
   | apply qP
   | apply j5
  all_goals rw [if_pos trivial]
  all_goals exact⟨(),by simp [SY24,intS,za],⟨ze _,trivial,trivial,trivial,trivial,trivial,trivial,trivial,trivial,trivial,trivial,ze _,ze _,ze _,trivial,trivial,⟨rfl,rfl,zaj⟩,ze _,trivial⟩,by kernel_rfl,Nat.zero_le _⟩
 show zE none Try.prog Try.f3 O 0 w0 [] _ _ LY24 _
 refine zc.YF [16] (by simp) (by kernel_rfl) ?_
 refine zc.cutL (ι:=Unit) LY24 1 0 (fun _=>SY25) (fun _=>HY25) (by kernel_rfl) (by kernel_rfl) ?_ fun _=> ?_
 ·refine zc.run hmix zL [0,1,4,6,8,10,12,14,16,18,20,22,23,24,25,26,27,28,29,31,33,34,35,37,39,40,42] 400 (T:=.ex (fun(x:List Ev×Int)=>eqL [AV.agg [AV.sl 1 9 (zg (evG nBad) 0)],AV.int .i64 (-1:Int)] [AV.agg [AV.sl x.1.length 9 (evG x.1)],AV.int .i64 x.2]∧evP x.1) fun n=>.all (fun(r:EnvL×Int)=>r=zy n.1 n.2 none) fun n=>.leaf (.back 0 [(0,.bool false),(1,.ptr 0 0),(4,.int .i64 0),(6,.int .i64 2),(8,.int .i64 21),(10,.int .i64 24),(12,.int .i64 2),(14,.int .i64 6),(16,.int .i64 6),(18,.int .i64 32),(20,.int .i64 32),(22,.int .i64 24),(23,.int .i64 0),(24,.ptr 11 0),(25,.int .i64 0),(26,.ptr 12 0),(27,.int .i64 0),(28,.ptr 13 0),(29,.int .i64 0),(31,.int .i64 2),(33,.int .i64 2),(34,.sl 3 1 fun(j x:Nat)=>.int .i64 (List.getD [(1:Int),(2:Int),(3:Int)] j (0:Int))),(35,.int .i64 0),(37,.int .i64 6),(39,.int .i64 6),(40,.ptr 17 0),(42,.int .i64 n.2)] [.box [.sl 6 9 (evG nL2)],.dead,.dead,.dead,.dead,.dead,.dead,.dead,.dead,.dead,.dead,.box [.sl 1 3 (fxG [{ name:=acme,date:=(46340:Int),value:=[(49:UInt8),(50:UInt8)] }]),.sl 1 4 (chG [{ zb:=[(97:UInt8)],name:=[(98:UInt8)],date:=(3:Int),first:=false }])],.box [.sl 1 3 (fxG [{ name:=acme,date:=(46340:Int),value:=[(49:UInt8),(50:UInt8)] }]),.sl 1 4 (chG [{ zb:=[(97:UInt8)],name:=[(98:UInt8)],date:=(3:Int),first:=true }])],.box [.sl 0 3 (fxG []),.sl 1 4 (chG [{ zb:=[(97:UInt8)],name:=[(98:UInt8)],date:=(3:Int),first:=true }])],.dead,.dead,.dead,.box [.sl 1 9 (zg (evG nBad) 0)],.box [.sl n.1.1.length 3 (fxG n.1.1),.sl n.1.2.length 4 (chG n.1.2)]])) (by kernel_rfl) ?_
  simp only [Tree.holds,zd]
  refine⟨(nBad,-1),⟨⟨Vn,⟨rfl,rfl⟩,trivial⟩,JW⟩,⟨_,rfl⟩,?_⟩
  rintro _ rfl
  rw [if_pos trivial]
  simp only [sn_y]
  exact⟨(),by simp [SY25,intS,za],⟨ze _,trivial,trivial,trivial,trivial,trivial,trivial,trivial,trivial,trivial,trivial,ze _,ze _,ze _,trivial,trivial,trivial,ze _,trivial,trivial⟩,by kernel_rfl,Nat.zero_le _⟩
 show zE none Try.prog Try.f3 O 0 w0 [] _ _ LY25 _
 refine zc.cutL (ι:=Unit) LY25 1 0 (fun _=>SY26) (fun _=>HY26) (by kernel_rfl) (by kernel_rfl) ?_ fun _=> ?_
 ·refine zc.run hmix zL [0,1,4,6,8,10,12,14,16,18,20,22,23,24,25,26,27,28,29,31,33,34,35,37,39,40,42,44] 400 (T:=.all (fun(x:Bool)=>True) fun n=>.ite n (.ex (fun(x:Int×Int×List UInt8)=>eqL [AV.int .i64 1,AV.int .i64 0,AV.str #[(49:UInt8)].toList] [AV.int .i64 x.1,AV.int .i64 x.2.1,AV.str x.2.2]∧True) fun n=>.all (fun(x:Unit)=>True) fun n_1=>.all (fun(x:Bool)=>True) fun n_2=>.ite n_2 (.ex (fun(x:List Ev×Ev)=>eqL [AV.agg [AV.sl 1 9 (zg (evG nBad) 0)],AV.agg [AV.int .u8 1,AV.int .i64 n.1,AV.int .i64 n.2.1,AV.int .i64 0,AV.int .i64 46340,AV.str [],AV.str acme,AV.str n.2.2,AV.bool false]] [AV.agg [AV.sl x.1.length 9 (evG x.1)],AV.agg [AV.int .u8 x.2.kind,AV.int .i64 x.2.id,AV.int .i64 x.2.entry,AV.int .i64 x.2.target,AV.int .i64 x.2.date,AV.str x.2.zb,AV.str x.2.name,AV.str x.2.value,AV.bool x.2.first]]∧evP x.1∧zp x.2) fun n=>.all (fun(r:List Ev×Int)=>r=appS n.1 n.2) fun n=>.leaf (.back 0 [(0,.bool false),(1,.ptr 0 0),(4,.int .i64 0),(6,.int .i64 2),(8,.int .i64 21),(10,.int .i64 24),(12,.int .i64 2),(14,.int .i64 6),(16,.int .i64 6),(18,.int .i64 32),(20,.int .i64 32),(22,.int .i64 24),(23,.int .i64 0),(24,.ptr 11 0),(25,.int .i64 0),(26,.ptr 12 0),(27,.int .i64 0),(28,.ptr 13 0),(29,.int .i64 0),(31,.int .i64 2),(33,.int .i64 2),(34,.sl 3 1 fun(j x:Nat)=>.int .i64 (List.getD [(1:Int),(2:Int),(3:Int)] j (0:Int))),(35,.int .i64 0),(37,.int .i64 6),(39,.int .i64 6),(40,.ptr 17 0),(42,.int .i64 8),(44,.int .i64 n.2)] [.box [.sl 6 9 (evG nL2)],.dead,.dead,.dead,.dead,.dead,.dead,.dead,.dead,.dead,.dead,.box [.sl 1 3 (fxG [{ name:=acme,date:=(46340:Int),value:=[(49:UInt8),(50:UInt8)] }]),.sl 1 4 (chG [{ zb:=[(97:UInt8)],name:=[(98:UInt8)],date:=(3:Int),first:=false }])],.box [.sl 1 3 (fxG [{ name:=acme,date:=(46340:Int),value:=[(49:UInt8),(50:UInt8)] }]),.sl 1 4 (chG [{ zb:=[(97:UInt8)],name:=[(98:UInt8)],date:=(3:Int),first:=true }])],.box [.sl 0 3 (fxG []),.sl 1 4 (chG [{ zb:=[(97:UInt8)],name:=[(98:UInt8)],date:=(3:Int),first:=true }])],.dead,.dead,.dead,.box [.sl 1 9 (zg (evG nBad) 0)],.dead,.box [.sl n.1.length 9 (evG n.1)]])) (.ex (fun(x:List Ev×Ev)=>eqL [AV.agg [AV.sl 1 9 (zg (evG nBad) 0)],AV.agg [AV.int .u8 1,AV.int .i64 n.1,AV.int .i64 n.2.1,AV.int .i64 0,AV.int .i64 46340,AV.str [],AV.str acme,AV.str n.2.2,AV.bool false]] [AV.agg [AV.sl x.1.length 9 (evG x.1)],AV.agg [AV.int .u8 x.2.kind,AV.int .i64 x.2.id,AV.int .i64 x.2.entry,AV.int .i64 x.2.target,AV.int .i64 x.2.date,AV.str x.2.zb,AV.str x.2.name,AV.str x.2.value,AV.bool x.2.first]]∧evP x.1∧zp x.2) fun n=>.all (fun(r:List Ev×Int)=>r=appS n.1 n.2) fun n=>.leaf (.back 0 [(0,.bool false),(1,.ptr 0 0),(4,.int .i64 0),(6,.int .i64 2),(8,.int .i64 21),(10,.int .i64 24),(12,.int .i64 2),(14,.int .i64 6),(16,.int .i64 6),(18,.int .i64 32),(20,.int .i64 32),(22,.int .i64 24),(23,.int .i64 0),(24,.ptr 11 0),(25,.int .i64 0),(26,.ptr 12 0),(27,.int .i64 0),(28,.ptr 13 0),(29,.int .i64 0),(31,.int .i64 2),(33,.int .i64 2),(34,.sl 3 1 fun(j x:Nat)=>.int .i64 (List.getD [(1:Int),(2:Int),(3:Int)] j (0:Int))),(35,.int .i64 0),(37,.int .i64 6),(39,.int .i64 6),(40,.ptr 17 0),(42,.int .i64 8),(44,.int .i64 n.2)] [.box [.sl 6 9 (evG nL2)],.dead,.dead,.dead,.dead,.dead,.dead,.dead,.dead,.dead,.dead,.box [.sl 1 3 (fxG [{ name:=acme,date:=(46340:Int),value:=[(49:UInt8),(50:UInt8)] }]),.sl 1 4 (chG [{ zb:=[(97:UInt8)],name:=[(98:UInt8)],date:=(3:Int),first:=false }])],.box [.sl 1 3 (fxG [{ name:=acme,date:=(46340:Int),value:=[(49:UInt8),(50:UInt8)] }]),.sl 1 4 (chG [{ zb:=[(97:UInt8)],name:=[(98:UInt8)],date:=(3:Int),first:=true }])],.box [.sl 0 3 (fxG []),.sl 1 4 (chG [{ zb:=[(97:UInt8)],name:=[(98:UInt8)],date:=(3:Int),first:=true }])],.dead,.dead,.dead,.box [.sl 1 9 (zg (evG nBad) 0)],.dead,.box [.sl n.1.length 9 (evG n.1)]]))) (.ex (fun(x:Int×Int×List UInt8)=>eqL [AV.int .i64 1,AV.int .i64 0,AV.str #[(49:UInt8)].toList] [AV.int .i64 x.1,AV.int .i64 x.2.1,AV.str x.2.2]∧True) fun n=>.all (fun(x:Unit)=>True) fun n_1=>.ex (fun(x:List Ev×Ev)=>eqL [AV.agg [AV.sl 1 9 (zg (evG nBad) 0)],AV.agg [AV.int .u8 1,AV.int .i64 n.1,AV.int .i64 n.2.1,AV.int .i64 0,AV.int .i64 46340,AV.str [],AV.str acme,AV.str n.2.2,AV.bool false]] [AV.agg [AV.sl x.1.length 9 (evG x.1)],AV.agg [AV.int .u8 x.2.kind,AV.int .i64 x.2.id,AV.int .i64 x.2.entry,AV.int .i64 x.2.target,AV.int .i64 x.2.date,AV.str x.2.zb,AV.str x.2.name,AV.str x.2.value,AV.bool x.2.first]]∧evP x.1∧zp x.2) fun n=>.all (fun(r:List Ev×Int)=>r=appS n.1 n.2) fun n=>.leaf (.back 0 [(0,.bool false),(1,.ptr 0 0),(4,.int .i64 0),(6,.int .i64 2),(8,.int .i64 21),(10,.int .i64 24),(12,.int .i64 2),(14,.int .i64 6),(16,.int .i64 6),(18,.int .i64 32),(20,.int .i64 32),(22,.int .i64 24),(23,.int .i64 0),(24,.ptr 11 0),(25,.int .i64 0),(26,.ptr 12 0),(27,.int .i64 0),(28,.ptr 13 0),(29,.int .i64 0),(31,.int .i64 2),(33,.int .i64 2),(34,.sl 3 1 fun(j x:Nat)=>.int .i64 (List.getD [(1:Int),(2:Int),(3:Int)] j (0:Int))),(35,.int .i64 0),(37,.int .i64 6),(39,.int .i64 6),(40,.ptr 17 0),(42,.int .i64 8),(44,.int .i64 n.2)] [.box [.sl 6 9 (evG nL2)],.dead,.dead,.dead,.dead,.dead,.dead,.dead,.dead,.dead,.dead,.box [.sl 1 3 (fxG [{ name:=acme,date:=(46340:Int),value:=[(49:UInt8),(50:UInt8)] }]),.sl 1 4 (chG [{ zb:=[(97:UInt8)],name:=[(98:UInt8)],date:=(3:Int),first:=false }])],.box [.sl 1 3 (fxG [{ name:=acme,date:=(46340:Int),value:=[(49:UInt8),(50:UInt8)] }]),.sl 1 4 (chG [{ zb:=[(97:UInt8)],name:=[(98:UInt8)],date:=(3:Int),first:=true }])],.box [.sl 0 3 (fxG []),.sl 1 4 (chG [{ zb:=[(97:UInt8)],name:=[(98:UInt8)],date:=(3:Int),first:=true }])],.dead,.dead,.dead,.box [.sl 1 9 (zg (evG nBad) 0)],.dead,.box [.sl n.1.length 9 (evG n.1)]]))) (by kernel_rfl) ?_
  simp only [Tree.holds,zd]
  repeat' first
   | apply qP
   | apply j5
   | apply wh nBad (fixE 1 0 [49]) Vn (vM _) JW (by exact⟨by decide,by decide,by decide⟩)
  all_goals
   simp only [sn_z]
   rw [if_pos trivial]
  all_goals exact⟨(),by simp [SY26,intS,za],⟨ze _,trivial,trivial,trivial,trivial,trivial,trivial,trivial,trivial,trivial,trivial,ze _,ze _,ze _,trivial,trivial,trivial,ze _,trivial,trivial,trivial⟩,by kernel_rfl,Nat.zero_le _⟩
 show zE none Try.prog Try.f3 O 0 w0 [] _ _ LY26 _
 refine zc.cutL (ι:=Unit) LY26 1 0 (fun _=>SY27) (fun _=>HY27) (by kernel_rfl) (by kernel_rfl) ?_ fun _=> ?_
 ·refine zc.run hmix zL [0,1,4,6,8,10,12,14,16,18,20,22,23,24,25,26,27,28,29,31,33,34,35,37,39,40,42,44,45] 400 (T:=.leaf (.back 0 [(0,.bool false),(1,.ptr 0 0),(4,.int .i64 0),(6,.int .i64 2),(8,.int .i64 21),(10,.int .i64 24),(12,.int .i64 2),(14,.int .i64 6),(16,.int .i64 6),(18,.int .i64 32),(20,.int .i64 32),(22,.int .i64 24),(23,.int .i64 0),(24,.ptr 11 0),(25,.int .i64 0),(26,.ptr 12 0),(27,.int .i64 0),(28,.ptr 13 0),(29,.int .i64 0),(31,.int .i64 2),(33,.int .i64 2),(34,.sl 3 1 fun(j x:Nat)=>.int .i64 (List.getD [(1:Int),(2:Int),(3:Int)] j (0:Int))),(35,.int .i64 0),(37,.int .i64 6),(39,.int .i64 6),(40,.ptr 17 0),(42,.int .i64 8),(44,.int .i64 8),(45,.bool true)] [.box [.sl 6 9 (evG nL2)],.dead,.dead,.dead,.dead,.dead,.dead,.dead,.dead,.dead,.dead,.box [.sl 1 3 (fxG [{ name:=acme,date:=(46340:Int),value:=[(49:UInt8),(50:UInt8)] }]),.sl 1 4 (chG [{ zb:=[(97:UInt8)],name:=[(98:UInt8)],date:=(3:Int),first:=false }])],.box [.sl 1 3 (fxG [{ name:=acme,date:=(46340:Int),value:=[(49:UInt8),(50:UInt8)] }]),.sl 1 4 (chG [{ zb:=[(97:UInt8)],name:=[(98:UInt8)],date:=(3:Int),first:=true }])],.box [.sl 0 3 (fxG []),.sl 1 4 (chG [{ zb:=[(97:UInt8)],name:=[(98:UInt8)],date:=(3:Int),first:=true }])],.dead,.dead,.dead,.box [.sl 1 9 (zg (evG nBad) 0)],.dead,.dead])) (by kernel_rfl) ?_
  simp only [Tree.holds,zd]
  rw [if_pos trivial]
  exact⟨(),by simp [SY27,intS,za],⟨ze _,trivial,trivial,trivial,trivial,trivial,trivial,trivial,trivial,trivial,trivial,ze _,ze _,ze _,trivial,trivial,trivial,ze _,trivial,trivial,trivial⟩,by kernel_rfl,Nat.zero_le _⟩
 show zE none Try.prog Try.f3 O 0 w0 [] _ _ LY27 _
 refine zc.run hmix zL [0,1,4,6,8,10,12,14,16,18,20,22,23,24,25,26,27,28,29,31,33,34,35,37,39,40,42,44,45] 400 (T:=.ex (fun(x:(List Fx×List Ch)×List UInt8×List UInt8×Int)=>(bif decide ((0:Int)=0) then decide ((0:Int)=0) else false)=true→eqL [AV.agg [AV.sl 1 3 (fxG [{ name:=acme,date:=(46340:Int),value:=[(49:UInt8),(50:UInt8)] }]),AV.sl 1 4 (chG [{ zb:=[(97:UInt8)],name:=[(98:UInt8)],date:=(3:Int),first:=false }])],AV.str #[(97:UInt8)].toList,AV.str #[(98:UInt8)].toList,AV.int .i64 3] [AV.agg [AV.sl x.1.1.length 3 (fxG x.1.1),AV.sl x.1.2.length 4 (chG x.1.2)],AV.str x.2.1,AV.str x.2.2.1,AV.int .i64 x.2.2.2]∧x.1.2.length<1099511627776) fun n=>.all (fun(x:Bool)=>(bif decide ((0:Int)=0) then decide ((0:Int)=0) else false)=true→x=xt n.1.2 n.2.1 n.2.2.1 n.2.2.2) fun n=>.ex (fun(x:(List Fx×List Ch)×List UInt8×List UInt8×Int)=>(bif bif decide ((0:Int)=0) then decide ((0:Int)=0) else false then !n else false)=true→eqL [AV.agg [AV.sl 1 3 (fxG [{ name:=acme,date:=(46340:Int),value:=[(49:UInt8),(50:UInt8)] }]),AV.sl 1 4 (chG [{ zb:=[(97:UInt8)],name:=[(98:UInt8)],date:=(3:Int),first:=true }])],AV.str #[(97:UInt8)].toList,AV.str #[(98:UInt8)].toList,AV.int .i64 3] [AV.agg [AV.sl x.1.1.length 3 (fxG x.1.1),AV.sl x.1.2.length 4 (chG x.1.2)],AV.str x.2.1,AV.str x.2.2.1,AV.int .i64 x.2.2.2]∧x.1.2.length<1099511627776) fun n_1=>.all (fun(x:Bool)=>(bif bif decide ((0:Int)=0) then decide ((0:Int)=0) else false then !n else false)=true→x=xt n_1.1.2 n_1.2.1 n_1.2.2.1 n_1.2.2.2) fun n_2=>.ite true (.ex (fun(x:List Int×List Int)=>decide ((0:Int)=0)=true→eqL [AV.sl 3 1 fun(j x:Nat)=>AV.int .i64 (List.getD [(1:Int),(2:Int),(3:Int)] j (0:Int)),AV.sl 3 1 (zg (zh 1 [AV.int .i64 1,AV.int .i64 2,AV.int .i64 3]) 0)] [AV.sl x.1.length 1 fun(j x_1:Nat)=>AV.int .i64 (List.getD x.1 j (0:Int)),AV.sl x.2.length 1 fun(j x_1:Nat)=>AV.int .i64 (List.getD x.2 j (0:Int))]∧x.1.length<1099511627776) fun n_3=>.all (fun(x:Bool)=>decide ((0:Int)=0)=true→(x=true↔n_3.1=n_3.2)) fun n_4=>.ex (fun(x:Unit)=>true=true→eqL [] []∧True) fun n_5=>.all (fun(x:Bool)=>true=true→x=true) fun n_6=>.ex (fun(x:List Ev)=>(bif bif bif bif true then n_6 else false then true else false then bif bif bif bif bif bif bif bif bif bif decide ((0:Int)=0) then decide ((0:Int)=0) else false then !n else false then n_2 else false then decide ((1:Int)=1) else false then decide ((1:Int)=1) else false then decide ((0:Int)=0) else false then decide ((0:Int)=0) else false then decide ((1:Int)=1) else false then decide ((2:Int)=2) else false then decide ((2:Int)=2) else false else false then bif bif bif decide ((0:Int)=0) then n_4 else false then decide ((6:Int)=6) else false then decide ((6:Int)=6) else false else false)=true→eqL [AV.agg [AV.sl 1 9 (zg (evG nBad) 0)]] [AV.agg [AV.sl x.length 9 (evG x)]]∧evP x) fun n_7=>.all (fun(x:Int)=>(bif bif bif bif true then n_6 else false then true else false then bif bif bif bif bif bif bif bif bif bif decide ((0:Int)=0) then decide ((0:Int)=0) else false then !n else false then n_2 else false then decide ((1:Int)=1) else false then decide ((1:Int)=1) else false then decide ((0:Int)=0) else false then decide ((0:Int)=0) else false then decide ((1:Int)=1) else false then decide ((2:Int)=2) else false then decide ((2:Int)=2) else false else false then bif bif bif decide ((0:Int)=0) then n_4 else false then decide ((6:Int)=6) else false then decide ((6:Int)=6) else false else false)=true→x=if Option.isSome (SS.play { evs:=[],lat:=[] } n_7)=true then(0:Int) else(8:Int)) fun n_8=>.ex (fun(x:List Ev)=>(bif bif bif bif bif bif bif true then n_6 else false then true else false then bif bif bif bif bif bif bif bif bif bif decide ((0:Int)=0) then decide ((0:Int)=0) else false then !n else false then n_2 else false then decide ((1:Int)=1) else false then decide ((1:Int)=1) else false then decide ((0:Int)=0) else false then decide ((0:Int)=0) else false then decide ((1:Int)=1) else false then decide ((2:Int)=2) else false then decide ((2:Int)=2) else false else false then bif bif bif decide ((0:Int)=0) then n_4 else false then decide ((6:Int)=6) else false then decide ((6:Int)=6) else false else false then decide (n_8=8) else false then decide ((8:Int)=8) else false then decide ((8:Int)=8) else false)=true→eqL [AV.agg [AV.sl 6 9 (evG nL2)]] [AV.agg [AV.sl x.length 9 (evG x)]]∧evP x) fun n_9=>.all (fun(x:Int)=>(bif bif bif bif bif bif bif true then n_6 else false then true else false then bif bif bif bif bif bif bif bif bif bif decide ((0:Int)=0) then decide ((0:Int)=0) else false then !n else false then n_2 else false then decide ((1:Int)=1) else false then decide ((1:Int)=1) else false then decide ((0:Int)=0) else false then decide ((0:Int)=0) else false then decide ((1:Int)=1) else false then decide ((2:Int)=2) else false then decide ((2:Int)=2) else false else false then bif bif bif decide ((0:Int)=0) then n_4 else false then decide ((6:Int)=6) else false then decide ((6:Int)=6) else false else false then decide (n_8=8) else false then decide ((8:Int)=8) else false then decide ((8:Int)=8) else false)=true→x=if Option.isSome (SS.play { evs:=[],lat:=[] } n_9)=true then(0:Int) else(8:Int)) fun n_10=>.ex (fun(x:List Ev)=>(bif bif bif bif bif bif bif bif true then n_6 else false then true else false then bif bif bif bif bif bif bif bif bif bif decide ((0:Int)=0) then decide ((0:Int)=0) else false then !n else false then n_2 else false then decide ((1:Int)=1) else false then decide ((1:Int)=1) else false then decide ((0:Int)=0) else false then decide ((0:Int)=0) else false then decide ((1:Int)=1) else false then decide ((2:Int)=2) else false then decide ((2:Int)=2) else false else false then bif bif bif decide ((0:Int)=0) then n_4 else false then decide ((6:Int)=6) else false then decide ((6:Int)=6) else false else false then decide (n_8=8) else false then decide ((8:Int)=8) else false then decide ((8:Int)=8) else false then decide (n_10=0) else false)=true→eqL [AV.agg [AV.nils]] [AV.agg [AV.sl x.length 9 (evG x)]]∧evP x) fun n_11=>.all (fun(x:Int)=>(bif bif bif bif bif bif bif bif true then n_6 else false then true else false then bif bif bif bif bif bif bif bif bif bif decide ((0:Int)=0) then decide ((0:Int)=0) else false then !n else false then n_2 else false then decide ((1:Int)=1) else false then decide ((1:Int)=1) else false then decide ((0:Int)=0) else false then decide ((0:Int)=0) else false then decide ((1:Int)=1) else false then decide ((2:Int)=2) else false then decide ((2:Int)=2) else false else false then bif bif bif decide ((0:Int)=0) then n_4 else false then decide ((6:Int)=6) else false then decide ((6:Int)=6) else false else false then decide (n_8=8) else false then decide ((8:Int)=8) else false then decide ((8:Int)=8) else false then decide (n_10=0) else false)=true→x=if Option.isSome (SS.play { evs:=[],lat:=[] } n_11)=true then(0:Int) else(8:Int)) fun n_12=>.leaf (.ret [.bool (bif bif bif bif bif bif bif bif bif true then n_6 else false then true else false then bif bif bif bif bif bif bif bif bif bif decide ((0:Int)=0) then decide ((0:Int)=0) else false then !n else false then n_2 else false then decide ((1:Int)=1) else false then decide ((1:Int)=1) else false then decide ((0:Int)=0) else false then decide ((0:Int)=0) else false then decide ((1:Int)=1) else false then decide ((2:Int)=2) else false then decide ((2:Int)=2) else false else false then bif bif bif decide ((0:Int)=0) then n_4 else false then decide ((6:Int)=6) else false then decide ((6:Int)=6) else false else false then decide (n_8=8) else false then decide ((8:Int)=8) else false then decide ((8:Int)=8) else false then decide (n_10=0) else false then decide (n_12=0) else false)] [.box [.sl 6 9 (evG nL2)],.dead,.dead,.dead,.dead,.dead,.dead,.dead,.dead,.dead,.dead,.box [.sl 1 3 (fxG [{ name:=acme,date:=(46340:Int),value:=[(49:UInt8),(50:UInt8)] }]),.sl 1 4 (chG [{ zb:=[(97:UInt8)],name:=[(98:UInt8)],date:=(3:Int),first:=false }])],.box [.sl 1 3 (fxG [{ name:=acme,date:=(46340:Int),value:=[(49:UInt8),(50:UInt8)] }]),.sl 1 4 (chG [{ zb:=[(97:UInt8)],name:=[(98:UInt8)],date:=(3:Int),first:=true }])],.box [.sl 0 3 (fxG []),.sl 1 4 (chG [{ zb:=[(97:UInt8)],name:=[(98:UInt8)],date:=(3:Int),first:=true }])],.dead,.dead,.dead,.box [.sl 1 9 (zg (evG nBad) 0)],.dead,.dead,.arr 3 1 (zh 1 [.int .i64 1,.int .i64 2,.int .i64 3])])) (.ex (fun(x:List Int×List Int)=>decide ((0:Int)=0)=true→eqL [AV.sl 3 1 fun(j x:Nat)=>AV.int .i64 (List.getD [(1:Int),(2:Int),(3:Int)] j (0:Int)),AV.nils] [AV.sl x.1.length 1 fun(j x_1:Nat)=>AV.int .i64 (List.getD x.1 j (0:Int)),AV.sl x.2.length 1 fun(j x_1:Nat)=>AV.int .i64 (List.getD x.2 j (0:Int))]∧x.1.length<1099511627776) fun n_3=>.all (fun(x:Bool)=>decide ((0:Int)=0)=true→(x=true↔n_3.1=n_3.2)) fun n_4=>.ex (fun(x:Unit)=>true=true→eqL [] []∧True) fun n_5=>.all (fun(x:Bool)=>true=true→x=true) fun n_6=>.ex (fun(x:List Ev)=>(bif bif bif bif true then n_6 else false then true else false then bif bif bif bif bif bif bif bif bif bif decide ((0:Int)=0) then decide ((0:Int)=0) else false then !n else false then n_2 else false then decide ((1:Int)=1) else false then decide ((1:Int)=1) else false then decide ((0:Int)=0) else false then decide ((0:Int)=0) else false then decide ((1:Int)=1) else false then decide ((2:Int)=2) else false then decide ((2:Int)=2) else false else false then bif bif bif decide ((0:Int)=0) then n_4 else false then decide ((6:Int)=6) else false then decide ((6:Int)=6) else false else false)=true→eqL [AV.agg [AV.sl 1 9 (zg (evG nBad) 0)]] [AV.agg [AV.sl x.length 9 (evG x)]]∧evP x) fun n_7=>.all (fun(x:Int)=>(bif bif bif bif true then n_6 else false then true else false then bif bif bif bif bif bif bif bif bif bif decide ((0:Int)=0) then decide ((0:Int)=0) else false then !n else false then n_2 else false then decide ((1:Int)=1) else false then decide ((1:Int)=1) else false then decide ((0:Int)=0) else false then decide ((0:Int)=0) else false then decide ((1:Int)=1) else false then decide ((2:Int)=2) else false then decide ((2:Int)=2) else false else false then bif bif bif decide ((0:Int)=0) then n_4 else false then decide ((6:Int)=6) else false then decide ((6:Int)=6) else false else false)=true→x=if Option.isSome (SS.play { evs:=[],lat:=[] } n_7)=true then(0:Int) else(8:Int)) fun n_8=>.ex (fun(x:List Ev)=>(bif bif bif bif bif bif bif true then n_6 else false then true else false then bif bif bif bif bif bif bif bif bif bif decide ((0:Int)=0) then decide ((0:Int)=0) else false then !n else false then n_2 else false then decide ((1:Int)=1) else false then decide ((1:Int)=1) else false then decide ((0:Int)=0) else false then decide ((0:Int)=0) else false then decide ((1:Int)=1) else false then decide ((2:Int)=2) else false then decide ((2:Int)=2) else false else false then bif bif bif decide ((0:Int)=0) then n_4 else false then decide ((6:Int)=6) else false then decide ((6:Int)=6) else false else false then decide (n_8=8) else false then decide ((8:Int)=8) else false then decide ((8:Int)=8) else false)=true→eqL [AV.agg [AV.sl 6 9 (evG nL2)]] [AV.agg [AV.sl x.length 9 (evG x)]]∧evP x) fun n_9=>.all (fun(x:Int)=>(bif bif bif bif bif bif bif true then n_6 else false then true else false then bif bif bif bif bif bif bif bif bif bif decide ((0:Int)=0) then decide ((0:Int)=0) else false then !n else false then n_2 else false then decide ((1:Int)=1) else false then decide ((1:Int)=1) else false then decide ((0:Int)=0) else false then decide ((0:Int)=0) else false then decide ((1:Int)=1) else false then decide ((2:Int)=2) else false then decide ((2:Int)=2) else false else false then bif bif bif decide ((0:Int)=0) then n_4 else false then decide ((6:Int)=6) else false then decide ((6:Int)=6) else false else false then decide (n_8=8) else false then decide ((8:Int)=8) else false then decide ((8:Int)=8) else false)=true→x=if Option.isSome (SS.play { evs:=[],lat:=[] } n_9)=true then(0:Int) else(8:Int)) fun n_10=>.ex (fun(x:List Ev)=>(bif bif bif bif bif bif bif bif true then n_6 else false then true else false then bif bif bif bif bif bif bif bif bif bif decide ((0:Int)=0) then decide ((0:Int)=0) else false then !n else false then n_2 else false then decide ((1:Int)=1) else false then decide ((1:Int)=1) else false then decide ((0:Int)=0) else false then decide ((0:Int)=0) else false then decide ((1:Int)=1) else false then decide ((2:Int)=2) else false then decide ((2:Int)=2) else false else false then bif bif bif decide ((0:Int)=0) then n_4 else false then decide ((6:Int)=6) else false then decide ((6:Int)=6) else false else false then decide (n_8=8) else false then decide ((8:Int)=8) else false then decide ((8:Int)=8) else false then decide (n_10=0) else false)=true→eqL [AV.agg [AV.nils]] [AV.agg [AV.sl x.length 9 (evG x)]]∧evP x) fun n_11=>.all (fun(x:Int)=>(bif bif bif bif bif bif bif bif true then n_6 else false then true else false then bif bif bif bif bif bif bif bif bif bif decide ((0:Int)=0) then decide ((0:Int)=0) else false then !n else false then n_2 else false then decide ((1:Int)=1) else false then decide ((1:Int)=1) else false then decide ((0:Int)=0) else false then decide ((0:Int)=0) else false then decide ((1:Int)=1) else false then decide ((2:Int)=2) else false then decide ((2:Int)=2) else false else false then bif bif bif decide ((0:Int)=0) then n_4 else false then decide ((6:Int)=6) else false then decide ((6:Int)=6) else false else false then decide (n_8=8) else false then decide ((8:Int)=8) else false then decide ((8:Int)=8) else false then decide (n_10=0) else false)=true→x=if Option.isSome (SS.play { evs:=[],lat:=[] } n_11)=true then(0:Int) else(8:Int)) fun n_12=>.leaf (.ret [.bool (bif bif bif bif bif bif bif bif bif true then n_6 else false then true else false then bif bif bif bif bif bif bif bif bif bif decide ((0:Int)=0) then decide ((0:Int)=0) else false then !n else false then n_2 else false then decide ((1:Int)=1) else false then decide ((1:Int)=1) else false then decide ((0:Int)=0) else false then decide ((0:Int)=0) else false then decide ((1:Int)=1) else false then decide ((2:Int)=2) else false then decide ((2:Int)=2) else false else false then bif bif bif decide ((0:Int)=0) then n_4 else false then decide ((6:Int)=6) else false then decide ((6:Int)=6) else false else false then decide (n_8=8) else false then decide ((8:Int)=8) else false then decide ((8:Int)=8) else false then decide (n_10=0) else false then decide (n_12=0) else false)] [.box [.sl 6 9 (evG nL2)],.dead,.dead,.dead,.dead,.dead,.dead,.dead,.dead,.dead,.dead,.box [.sl 1 3 (fxG [{ name:=acme,date:=(46340:Int),value:=[(49:UInt8),(50:UInt8)] }]),.sl 1 4 (chG [{ zb:=[(97:UInt8)],name:=[(98:UInt8)],date:=(3:Int),first:=false }])],.box [.sl 1 3 (fxG [{ name:=acme,date:=(46340:Int),value:=[(49:UInt8),(50:UInt8)] }]),.sl 1 4 (chG [{ zb:=[(97:UInt8)],name:=[(98:UInt8)],date:=(3:Int),first:=true }])],.box [.sl 0 3 (fxG []),.sl 1 4 (chG [{ zb:=[(97:UInt8)],name:=[(98:UInt8)],date:=(3:Int),first:=true }])],.dead,.dead,.dead,.box [.sl 1 9 (zg (evG nBad) 0)],.dead,.dead]))) (by kernel_rfl) ?_
 simp only [Tree.holds,zd]
 have ee:∀ (f:List Fx) (c:List Ch),eqA (.agg [.sl f.length 3 (fxG f),.sl c.length 4 (chG c)]) (envA f c):=fun f c=>⟨⟨rfl,rfl,za _ _ _⟩,⟨rfl,rfl,za _ _ _⟩,trivial⟩
 refine⟨(([⟨acme,46340,[49,50]⟩],[⟨[97],[98],3,false⟩]),[97],[98],3),fun _=>⟨⟨ee [⟨acme,46340,[49,50]⟩] [⟨[97],[98],3,false⟩],rfl,rfl,⟨rfl,rfl⟩,trivial⟩,by decide⟩,⟨_,fun _=>rfl⟩,fun r1 h1=> ?_⟩
 obtain rfl:r1=false:=(h1 rfl).trans (by decide)
 refine⟨(([⟨acme,46340,[49,50]⟩],[⟨[97],[98],3,true⟩]),[97],[98],3),fun _=>⟨⟨ee [⟨acme,46340,[49,50]⟩] [⟨[97],[98],3,true⟩],rfl,rfl,⟨rfl,rfl⟩,trivial⟩,by decide⟩,⟨_,fun _=>rfl⟩,fun r2 h2=> ?_⟩
 obtain rfl:r2=true:=(h2 rfl).trans (by decide)
 refine⟨fun _=> ?_,fun h=> ?_⟩
 rotate_left
 ·exact absurd h (by decide)
 refine⟨([1,2,3],[1,2,3]),fun _=>⟨⟨⟨rfl,rfl,za _ _ _⟩,⟨rfl,rfl,Uu⟩,trivial⟩,by decide⟩,⟨true,fun _=>by simp⟩,fun r3 h3=> ?_⟩
 obtain rfl:r3=true:=(h3 rfl).2 rfl
 refine⟨(),fun _=>⟨trivial,trivial⟩,⟨true,fun _=>rfl⟩,fun r4 h4=> ?_⟩
 obtain rfl:r4=true:=h4 trivial
 refine⟨nBad,fun _=>⟨⟨⟨⟨rfl,rfl,UK⟩,trivial⟩,trivial⟩,JW⟩,⟨_,fun _=>rfl⟩,fun r5 h5=> ?_⟩
 obtain rfl:r5=8:=(h5 rfl).trans (by rw [sn_1]; rfl)
 refine⟨nL2,fun _=>⟨⟨jk nL2,trivial⟩,xp⟩,⟨_,fun _=>rfl⟩,fun r6 h6=> ?_⟩
 obtain rfl:r6=0:=(h6 rfl).trans (by rw [sn_2]; rfl)
 refine⟨[],fun _=>⟨⟨by simp [evS],trivial⟩,by decide,by simp⟩,⟨_,fun _=>rfl⟩,fun r7 h7=> ?_⟩
 obtain rfl:r7=0:=(h7 rfl).trans (by decide +kernel)
 exact RetR.scal hq rfl (by simp [resV])
end Go.Proofs.Try
end
section
namespace Go.Sx
variable [Stat]
open Go.RowKit (Below)
def E0:Nat→Prop:=Own (fun _=>False) []
section
variable {P:Program} {W:World} {t e:TypeId} {cs:List Value}
theorem Kr{g:Nat}{fn:Func}{c:Code}(hf:P.funcs[g]?=some fn)(hb:fn.body=some c) (hn:(fn.name == "runtime.NumGoroutine")=false) {ctr:Ctr} (hok:zf P g ctr) {args:List AV} {vals:List Value}
  (hspec:(ctr.spec args []).holds fun r=>r=(.bool true,[])) (hr:RepL E0 W args [] vals) (hst:wT E0 W):Calls P g vals.toArray W fun e W'=>e = .returned (.bool true)∧Below W.heap.size W W':=by
 have hn':¬ fn.name = "runtime.NumGoroutine" :=by simpa using hn
 have hg:Good (fun _=>False) W []:=⟨fun b h=>h.elim,fun i e ad he=>by simp at he,hst⟩
 have hh:HRep (Own (fun _=>False) []) W [] []:=⟨rfl,fun i j e f a b he=>by simp at he,fun i e a he=>by simp at he,fun i e b he=>by simp at he⟩
 rcases hok args [] _ hspec (fun _=>rfl) (fun _=>False) W [] vals hg hh hr with ⟨_,h⟩ | ⟨v,w',h,_⟩
 ·refine h.mono ?_
  rintro e W' ⟨v,rfl,r,hs,σ',hq,h1,_,_,_,_,hx⟩
  cases hq
  simp only [Rep] at h1
  subst h1
  exact⟨rfl,hx.os,hx.tape,hx.output,hx.size,fun k hk=>hx.keep k hk fun⟨e,he,_⟩=>by simp at he⟩
 ·simp [callFunc,hf,hn',hb] at h
end
end Go.Sx
end
section
namespace Go.Sx
variable [Stat]
section
variable {P:Program} {W:World} {t e:TypeId} {cs:List Value}
end
section
open Go.WideElems Go.ChangeMaps
variable {H:Type} {enc:TypeId×Value→H} {P:Program} {W:World} {base:Nat} {sp:Nat→Bool} {held:Bool}
end
end Go.Sx
end
section
set_option maxRecDepth 100000
namespace Go.Proofs.Ytkagkpfmmpboaaa
open Go Go.Sx Go.Nov Go.Proofs.Try Go.ChangeShapes Go.WideShapes Go.ChangeAt Go.RowKit
theorem walk{W:World}  :
  Calls Try.prog 3 #[] W fun e W'=>e = .returned (.bool true)∧Below W.heap.size W W':=by
 refine Kr (fn:=Try.f3) (c:=Try.f3.body.getD .skip) rfl rfl rfl Yd (args:=[]) (vals:=[]) ?_ ?_ Kj
 ·refine⟨(),⟨?_,trivial⟩,⟨true,rfl⟩,?_⟩
  ·simp [eqL,eqA,eqA0,eqL0,envA,fxS,chS,Fx.av,Ch.av,Ex.exA,Ex.exS,za]
  ·rintro _ rfl
   rfl
 ·exact rfl
theorem own:ownKnob Try.prog.godebug=none:=by kernel_rfl
theorem lifted(os:Os)(started:os.Started)(H:Type)(enc:TypeId×Value→H) :
  ReturnsInHanded {} Try.checked os 3 .any (Rows.storeNamesSpec.pre6 enc Try.prog Try.f3 Rows.storeNamesRow.domain false) (Rows.storeNamesSpec.post enc Try.prog Try.f3 false true false false):=by
 refine returnsInHanded_of_change_sized (C:=Try.checked) own started (by kernel_rfl) Try.func3
  (ChangeSpec.witness6 (enc:=enc) (C:=Try.checked) false ⟨#[],#[],[]⟩ 8 (by kernel_rfl) (by kernel_rfl) (by kernel_rfl) (by kernel_rfl)) ?_
 intro W base args ds gs before hval0 hW hcnd hwt _
 have hval:∀ (j:Nat) t v,Try.f3.params[j]?=some t→args[j]?=some v→Value.okWide Try.prog W .any base t v:=hval0
 have hW':=hW
 obtain⟨p,q,hA0,hV,rfl,hfz,hnd⟩:=hW
 have hA:DataW.TrodAll enc Try.prog W 0 (fun _=>true) true Try.f3.params.toList args.toList ds p:=hA0
 rw [Try.params3] at hA hval
 obtain⟨hargs,rfl,rfl⟩:=trodAll_nil hA
 obtain rfl:args = #[]:=by cases args; simp_all
 obtain⟨rfl,rfl⟩:=trodVars_none hV
 clear hA0 hval0
 simp only [List.append_nil] at hW' hwt
 have hcall:=walk (W:=W)
 refine hcall.mono fun e W' ⟨he,hb⟩=> ?_
 subst he
 refine⟨_,rfl,_,_,_,[],[],[],hW',trodAll_mk1 (shut_bool Try.underlying4 true),?_,rfl,hb.frame _,fun h=>by cases h⟩
 exact trodAll_mk0
theorem over:Rows.storeNamesRow.holds Try.pinned (OpenSpec.ofChange Rows.storeNamesSpec):=
 OpenClaim.holds_of_wide 3 Try.f3 rfl rfl rfl rfl rfl rfl rfl ⟨rfl,rfl,rfl,rfl,rfl⟩ rfl rfl rfl rfl rfl (by kernel_rfl) Try.func3 (by kernel_rfl)
  (of_decide_eq_true (by kernel_rfl)) (by unfold Func.isWrapper; first | (rw [if_pos (by decide +kernel)]; kernel_rfl) | (rw [if_neg (by decide +kernel)]; exact⟨rfl,rfl⟩))
  (fun os started H enc _=>lifted os started H enc)
theorem storeNames_holds:Rows.StoreNamesSaid:=over
end Go.Proofs.Ytkagkpfmmpboaaa
end
