/- The law returns true for every input, and each argument reads afterwards as it read before; no condition. -/
import Derived.Test.YtlkbiennfpeoiaaGreatDoorSxb
import Derived.Test.YtlkbiennfpeoiaaGreatDoorSxg
import Derived.SizedLaws
import Derived.ChangeArms
import Derived.Deep.Slices
import Derived.Carry
import Derived.LaidMore
import Derived.WideKeyElems2
import Derived.ProofKit
import Derived.OpenShut
import Derived.ReadAgain
import Derived.Test.YtlkbiennfpeoiaaGreatDoorRows
import Derived.MakeChecks
import Derived.Test.YtlkbiennfpeoiaaGreatDoorCards
import Derived.Test.YtlkbiennfpeoiaaGreatDoorTie
import Derived.Stop.Joined
import Derived.SevenTiedAt
set_option linter.unusedVariables false
set_option linter.unusedSimpArgs false
set_option linter.unusedSectionVars false
section
set_option maxRecDepth 100000
open Go Go.Sx Go.Proofs Go.Nov
namespace Go.Proofs.Tryz
attribute [local simp] eqKV eqA eqA0 eqH eqB eqL eqL0
theorem Uf:Xl Tryz.prog 59 3 40:=by
 intro b off n c i m vb voff vc cur vcur el vel w hm hi hnc hbig hne hB hV hfit hvfit h1 h2
 have hcl:((cur.toList.drop off).take (n*3)).length=n*3:=by
  have:n*3≤c*3:=Nat.mul_le_mul_right _ hnc
  simp; omega
 have hvl:((vcur.toList.drop voff).take (m*3)).length=m*3:=by simp; omega
 have hcs:∀ j v,((cur.toList.drop off).take (n*3))[j]?=some v→w.cell? ⟨b,off+j,none⟩=some v:=fun j v hj=>by
  rw [kz] at hj
  split at hj
  ·simp only [World.cell?,hB]; simpa using hj
  ·cases hj
 have hvs:∀ j v,((vcur.toList.drop voff).take (m*3))[j]?=some v→w.cell? ⟨vb,voff+j,none⟩=some v:=fun j v hj=>by
  rw [kz] at hj
  split at hj
  ·simp only [World.cell?,hV]; simpa using hj
  ·cases hj
 have h1c:∀ v∈(cur.toList.drop off).take (n*3),v.oneCell'=true:=fun v hv=>by
  obtain⟨j,hj⟩:=List.getElem?_of_mem hv
  rw [kz] at hj
  split at hj
  ·rename_i hlt; exact h1 j v hlt (by simpa using hj)
  ·cases hj
 have h1v:∀ v∈(vcur.toList.drop voff).take (m*3),v.oneCell'=true:=fun v hv=>by
  obtain⟨j,hj⟩:=List.getElem?_of_mem hv
  rw [kz] at hj
  split at hj
  ·rename_i hlt; exact h2 j v hlt (by simpa using hj)
  ·cases hj
 have hcg:∀ j,j<n*3→((cur.toList.drop off).take (n*3))[j]?=cur[off+j]?:=fun j hj=>by rw [kz,if_pos hj]; simp
 have hvg:∀ j,j<m*3→((vcur.toList.drop voff).take (m*3))[j]?=vcur[voff+j]?:=fun j hj=>by rw [kz,if_pos hj]; simp
 generalize (cur.toList.drop off).take (n*3)=cs at hcl hcs h1c hcg
 generalize (vcur.toList.drop voff).take (m*3)=vs at hvl hvs h1v hvg
 have hin3:i*3+3≤n*3:=by have:=Nat.mul_le_mul_right 3 (show i+1≤n from hi); omega
 have him:(i+m)*3=i*3+m*3:=Nat.add_mul _ _ _
 have hnm3:(n+m)*3=n*3+m*3:=Nat.add_mul _ _ _
 have hdl:(cs.drop (i*3)).length=n*3 - i*3:=by rw [List.length_drop,hcl]
 have hbw:b<w.heap.size:=(Array.getElem?_eq_some_iff.1 hB).1
 by_cases hroom:n+m≤c
 ·have hcn:(n+m)*3≤c*3:=Nat.mul_le_mul_right _ hroom
  obtain⟨X1,hX1⟩:∃ X1,X1=cur.toList.take (off+(i+m)*3)++cs.drop (i*3)++cur.toList.drop (off+(i+m)*3+(cs.drop (i*3)).length):=⟨_,rfl⟩
  obtain⟨X2,hX2⟩:∃ X2,X2=X1.take (off+i*3)++vs++X1.drop (off+i*3+vs.length):=⟨_,rfl⟩
  have hX1l:X1.length=cur.size:=by rw [hX1]; simp only [List.length_append,List.length_take,List.length_drop,Array.length_toList,hdl,hcl]; omega
  have hX2l:X2.length=cur.size:=by rw [hX2]; simp only [List.length_append,List.length_take,List.length_drop,hX1l,hvl]; omega
  have g1:∀ k:Nat,X1[k]?=(if k<off+(i+m)*3 then cur.toList[k]? else if k<off+(i+m)*3+(cs.drop (i*3)).length then(cs.drop (i*3))[k - (off+(i+m)*3)]? else cur.toList[k]?):=fun k=>by rw [hX1]; exact kM (by simp only [Array.length_toList,hdl]; omega) k
  have g2:∀ k:Nat,X2[k]?=(if k<off+i*3 then X1[k]? else if k<off+i*3+(vs).length then(vs)[k - (off+i*3)]? else X1[k]?):=fun k=>by rw [hX2]; exact kM (by rw [hX1l,hvl]; omega) k
  refine(Kz b off n c i m vb voff vc cur vcur el vel cs vs w hm hi hroom (by omega) hne hB hV hfit hcl hvl hcs hvs h1c h1v X1 X2 hX1 hX2).mono ?_
  rintro e w' ⟨he,hh,hos,htape,hout⟩
  refine⟨b,off,c,X2.toArray,el,he,hroom,?_,by simp only [List.size_toArray,hX2l]; omega,?_,.inl rfl,?_,?_,hos,htape,hout⟩
  ·rw [hh]; exact setRow_heap _ b _ _ el _ (setRow_heap w b cur _ el _ hB)
  ·intro j hj
   simp only [List.getElem?_toArray,g2,g1,hvl,hdl]
   by_cases k1:j<i*3
   ·rw [if_pos (by omega),if_pos (by omega),if_pos k1]; simp
   ·rw [if_neg (by omega),if_neg k1]
    by_cases k2:j<i*3+m*3
    ·rw [if_pos (by omega),if_pos k2,show off+j - (off+i*3)=j - i*3 by omega,hvg _ (by omega)]
    ·rw [if_neg (by omega),if_neg k2,if_neg (by omega),if_pos (by omega),List.getElem?_drop,hcg _ (by omega)]; congr 1; omega
  ·rw [hh]; simp
  ·intro k hk hkb
   rw [hh,setRow_other _ b k _ hkb,setRow_other _ b k _ hkb]
 ·have hc1:c<n+m:=by omega
  obtain⟨G,hG⟩:∃ G,G=grownCap w (n+m) c 66:=⟨_,rfl⟩
  have hGn:n+m≤G:=by rw [hG]; exact grownCap_ge w _ _ _
  obtain⟨zs,hz⟩:∃ zs:List Value,Builtin.zeroCells (Value.agg #[.string ⟨#[]⟩,.int .i64 0,.string ⟨#[]⟩]).cells (n+m - i)=zs.toArray:=⟨_,(Array.toArray_toList).symm⟩
  obtain⟨rest,hrest⟩:∃ zs:List Value,Builtin.zeroCells (Value.agg #[.string ⟨#[]⟩,.int .i64 0,.string ⟨#[]⟩]).cells (G - (n+m))=zs.toArray:=⟨_,(Array.toArray_toList).symm⟩
  have hzl:zs.length=(n+m - i)*3:=by
   have:=congrArg Array.size hz
   simpa [Builtin.zeroCells,Value.cells] using this.symm
  have hrl:rest.length=(G - (n+m))*3:=by
   have:=congrArg Array.size hrest
   simpa [Builtin.zeroCells,Value.cells] using this.symm
  obtain⟨ROW,hROW⟩:∃ ROW,ROW=cs.take (i*3)++zs++rest:=⟨_,rfl⟩
  obtain⟨X1,hX1⟩:∃ X1,X1=ROW.take (i*3)++vs++ROW.drop (i*3+vs.length):=⟨_,rfl⟩
  obtain⟨X2,hX2⟩:∃ X2,X2=X1.take ((i+m)*3)++cs.drop (i*3)++X1.drop ((i+m)*3+(cs.drop (i*3)).length):=⟨_,rfl⟩
  have hsum:(n+m)*3+(G - (n+m))*3=G*3:=by rw [← Nat.add_mul]; congr 1; omega
  have hsum2:i*3+(n+m - i)*3=(n+m)*3:=by rw [← Nat.add_mul]; congr 1; omega
  have hROWl:ROW.length=G*3:=by
   rw [hROW]; simp only [List.length_append,List.length_take,hcl,hzl,hrl]; omega
  have hX1l:X1.length=G*3:=by rw [hX1]; simp only [List.length_append,List.length_take,List.length_drop,hROWl,hvl]; omega
  have hX2l:X2.length=G*3:=by rw [hX2]; simp only [List.length_append,List.length_take,List.length_drop,hX1l,hdl,hcl]; omega
  have g1:∀ k:Nat,X1[k]?=(if k<i*3 then ROW[k]? else if k<i*3+(vs).length then(vs)[k - (i*3)]? else ROW[k]?):=fun k=>by rw [hX1]; exact kM (by rw [hROWl,hvl]; omega) k
  have g2:∀ k:Nat,X2[k]?=(if k<(i+m)*3 then X1[k]? else if k<(i+m)*3+(cs.drop (i*3)).length then(cs.drop (i*3))[k - ((i+m)*3)]? else X1[k]?):=fun k=>by rw [hX2]; exact kM (by rw [hX1l,hdl]; omega) k
  have g0:∀ k,k<i*3→ROW[k]?=cs[k]?:=fun k hk=>by
   rw [hROW,List.append_assoc,List.getElem?_append_left (by rw [List.length_take]; omega),List.getElem?_take,if_pos hk]
  refine(YW b off n c i m vb voff vc cur vcur el vel cs vs w hm hi hnc hc1 hbig hB hV hcl hvl hcs hvs h1c h1v zs hz G hG rest hrest ROW X1 X2 hROW hX1 hX2).mono ?_
  rintro e w' ⟨he,hh,hos,htape,hout⟩
  refine⟨w.heap.size,0,G,X2.toArray,66,he,hGn,?_,by simp only [List.size_toArray,hX2l]; omega,?_,.inr (Nat.le_refl _),?_,?_,hos,htape,hout⟩
  ·rw [hh]
   exact setRow_heap _ w.heap.size _ _ _ _ (setRow_heap _ w.heap.size _ _ _ _ (show((w.heap.push _))[w.heap.size]?=some (.cells ROW.toArray 66 (0,0)) from Array.getElem?_push_size))
  ·intro j hj
   simp only [List.getElem?_toArray,Nat.zero_add,g2,g1,hvl,hdl]
   by_cases k1:j<i*3
   ·rw [if_pos (by omega),if_pos k1,if_pos k1,g0 j k1,hcg j (by omega)]
   ·simp only [if_neg k1]
    by_cases k2:j<i*3+m*3
    ·rw [if_pos (by omega)]
     simp only [if_pos k2]
     exact hvg _ (by omega)
    ·simp only [if_neg k2]
     rw [if_neg (by omega),if_pos (by omega),List.getElem?_drop,hcg _ (by omega)]; congr 1; omega
  ·rw [hh,setRow_size,setRow_size]
   show _≤(w.heap.push _).size
   rw [Array.size_push]; omega
  ·intro k hk hkb
   rw [hh,setRow_other _ _ k _ (by omega),setRow_other _ _ k _ (by omega)]
   show(w.heap.push _)[k]?=_
   rw [Array.getElem?_push,if_neg (by omega)]
theorem K9{l x:List Fx}{i:Nat}(hi:i≤l.length):eqG (l.length+x.length) 3 (Xh i x.length (fxG l) (fxG x)) (fxG (l.take i++x++l.drop i)):=by
 intro j o hj ho
 have hlt:(l.take i).length=i:=by rw [List.length_take]; omega
 have e:fxG (l.take i++x++l.drop i) j o=((l.take i++x++l.drop i).getD j Fx.nil).cell o:=rfl
 simp only [Xh]
 rw [e]
 simp only [List.getD,List.getElem?_append,List.length_append,hlt]
 by_cases h1:j<i
 ·rw [if_pos h1,if_pos (by omega),if_pos h1,List.getElem?_take,if_pos h1]; rfl
 ·rw [if_neg h1]
  by_cases h2:j<i+x.length
  ·rw [if_pos h2,if_pos h2,if_neg h1]; rfl
  ·rw [if_neg h2,if_neg h2,List.getElem?_drop,show i+(j - (i+x.length))=j - x.length by omega]; rfl
def zlj:Ctr:=ctrT false true (fun p:List Fx×List Fx×Nat=>[.osl 0 3 0 p.1.length,.int .i64 (p.2.2:Int),.osl 1 3 0 p.2.1.length]) (fun p=>[.arr p.1.length 3 (fxG p.1),.arr p.2.1.length 3 (fxG p.2.1)]) (fun p=>p.2.2≤p.1.length∧p.1.length<2^40∧p.2.1.length<2^40) (fun _ (_:Unit)=>True) (fun p (_:Unit)=>(.osl 0 3 0 (p.1.length+p.2.1.length),[.arr (p.1.length+p.2.1.length) 3 (fxG (p.1.take p.2.2++p.2.1++p.1.drop p.2.2)),.dead]))
def zf8:Ctr:=ctrT false true (fun p:List Fx×List Fx×Nat=>[.osl 0 3 0 p.1.length,.int .i64 (p.2.2:Int),.osl 1 3 0 p.2.1.length]) (fun p=>[.arr p.1.length 3 (fxG p.1),.arr p.2.1.length 3 (fxG p.2.1)]) (fun p=>(p.2.2=p.1.length∨p.2.1=[])∧p.2.2≤p.1.length∧p.1.length<2^40∧p.2.1.length<2^40) (fun _ (_:Unit)=>True) (fun p (_:Unit)=>(.osl 0 3 0 (p.1.length+p.2.1.length),[.arr (p.1.length+p.2.1.length) 3 (fxG (p.1.take p.2.2++p.2.1++p.1.drop p.2.2)),.dead]))
theorem KE:zc Tryz.prog 59 zf8:=by
 refine qM (fn:=Tryz.f59) (c:=Tryz.f59.body.getD .skip) rfl rfl rfl (fun h=>by cases h) fun p hp O w0 σ0 Q hl0 hq=> ?_
 obtain⟨l,x,i⟩:=p
 obtain⟨h0,h1,h2,h3⟩:=hp
 replace hq:=hq () trivial
 simp only at hq h0 h1 h2 h3
 refine zb.run hmix z7 [] 400 (T:=.side ((0:Int)≤i∧(↑i:Int)≤l.length) (.ite (decide ((↑x.length:Int)=0)) (.leaf (.ret [.osl 0 3 0 l.length] [.arr l.length 3 (fxG l),.arr x.length 3 (fxG x)])) (.ite (decide ((↑i:Int)=l.length)) (.side (0=0∧l.length≤l.length∧(l.length+x.length)*40≤140737488355328) (.leaf (.ret [.osl 0 3 0 (l.length+x.length)] [.arr (l.length+x.length) 3 (appG l.length (fxG l) (zg (fxG x) 0)),.arr x.length 3 (fxG x)]))) (.side (inR .i64 ((↑l.length:Int)+x.length)) .fail)))) (by kernel_rfl) ?_
 simp only [Tree.holds,zd]
 have fin:∀ (h:Heap) (g:Nat→Nat→AV) (m:Nat),h=[.arr (l.length+x.length) 3 g,.arr m 3 (fxG x)]→eqG (l.length+x.length) 3 g (fxG (l.take i++x++l.drop i))→RetR zf8 2 Q [.osl 0 3 0 (l.length+x.length)] h:=by
  rintro h g m rfl hg
  refine RetR.keep [0,1] rfl rfl (by show ∀ j,j<2→_; decide) rfl hq (by simp [resV,exp2,exp1,exp0,zy,eqA2]) ?_ rfl
  exact⟨⟨rfl,rfl,hg⟩,trivial,trivial⟩
 refine⟨by omega,fun _=>⟨fun h=> ?_,fun h=>⟨fun h'=>⟨⟨trivial,Nat.le_refl _,by omega⟩,fun _=> ?_⟩,fun h'=> ?_⟩⟩⟩
 ·have hx:x=[]:=by have:=of_decide_eq_true h; exact List.length_eq_zero_iff.1 (by omega)
  subst hx
  exact fin _ (fxG l) 0 rfl (by simp [za])
 ·have e:i=l.length:=by have:=of_decide_eq_true h'; omega
  refine fin _ _ _ rfl ?_
  have:=K9 (x:=x) h1
  refine xY ?_ this
  intro j o hj ho
  simp only [appG,Xh,zg,Nat.zero_add,e]
  split
  ·rfl
  ·rfl
 ·rcases h0 with h0 | h0
  ·exact absurd h0 (by have:=of_decide_eq_false h'; omega)
  ·subst h0; simp at h
theorem zlb:zc Tryz.prog 59 zlj:=by
 intro args hc Q hq hfr
 obtain⟨⟨l,x,i⟩,⟨h1,h2,h3,h4,h5,h8⟩,h6,h7⟩:=hq
 simp only at h1 h2 h3 h4 h5 h7 h8
 rcases Nat.lt_or_ge i l.length with hlt | hge
 ·rcases Nat.eq_zero_or_pos x.length with hx | hx
  ·exact KE args hc Q ⟨(l,x,i),⟨h1,h2,h3,.inr (List.length_eq_zero_iff.1 hx),h4,h5,h8⟩,h6,h7⟩ hfr
  ·exact jl.le h1 (jl.leH h2 h3 (zha (fn:=Tryz.f59) (c:=Tryz.f59.body.getD .skip) rfl rfl rfl (by decide) Uf hx hlt (by omega) (K9 h4) rfl rfl rfl (h7 () trivial)))
 ·exact KE args hc Q ⟨(l,x,i),⟨h1,h2,h3,.inl (by show i=l.length; omega),h4,h5,h8⟩,h6,h7⟩ hfr
end Go.Proofs.Tryz
end
section
namespace Go.Nov
open Go.Sx
structure Ev where
 v:List UInt8
 e:Int
 b:Bool
 g:Int
abbrev Ev.nil:Ev:=⟨[],0,false,0⟩
def zof(k:Int)(a b:List UInt8):List UInt8×Int:=
 if k=7 then(if(cmpR a b).2≠0 then([],(cmpR a b).2) else(if(cmpR a b).1<0 then b else a,0))
 else(if(cmpR b a).2≠0 then([],(cmpR b a).2) else(if(cmpR b a).1<0 then b else a,0))
def opR(k:Int)(a b:List UInt8):List UInt8×Int:=if k=4 then addR a b else if k=5 then subR a b else if k=6 then mulR a b else zof k a b
def fixR(f:List Fx)(a:List UInt8)(d:Int):List UInt8×Int:=if(zll f a d).2=true then((zll f a d).1,0) else([],30)
def zlm{α:Type}(z:α)(l0 l1:Ev)(f:List UInt8→List UInt8→α×Int):α×Int:=if l0.e≠0 then(z,l0.e) else if l1.e≠0 then(z,l1.e) else f l0.v l1.v
def valN(f:List Fx)(day k:Int)(r n:List UInt8)(d:Int)(l:List Ev):List UInt8×Int:=
 if k=1 then(r,0) else if k=2 then fixR f n d else if k=3 then fixR f n day
 else if k=9 then(if(l.getD 0 Ev.nil).g≠0 then([],(l.getD 0 Ev.nil).g) else if(l.getD 0 Ev.nil).b then((l.getD 1 Ev.nil).v,(l.getD 1 Ev.nil).e) else((l.getD 2 Ev.nil).v,(l.getD 2 Ev.nil).e))
 else zlm [] (l.getD 0 Ev.nil) (l.getD 1 Ev.nil) (opR k)
def zog(k:Int)(a b:List UInt8):Bool×Int:=if(cmpR a b).2≠0 then(false,(cmpR a b).2) else(if k=11 then decide ((cmpR a b).1<0) else decide ((cmpR a b).1=0),0)
def hldN(k:Int)(l:List Ev):Bool×Int:=
 if 13≤k then(if(l.getD 0 Ev.nil).g≠0 then(false,(l.getD 0 Ev.nil).g) else if k=15 then(!(l.getD 0 Ev.nil).b,0)
  else if(l.getD 0 Ev.nil).b=decide (k=14) then((l.getD 0 Ev.nil).b,0) else((l.getD 1 Ev.nil).b,(l.getD 1 Ev.nil).g))
 else zlm false (l.getD 0 Ev.nil) (l.getD 1 Ev.nil) (zog k)
def evN(f:List Fx)(day k:Int)(r n:List UInt8)(d:Int)(l:List Ev):Ev:=⟨(valN f day k r n d l).1,(valN f day k r n d l).2,(hldN k l).1,(hldN k l).2⟩
namespace Ex
mutual
def ev(f:List Fx)(day:Int):Ex→Ev
 | mk k r n d s=>evN f day k r n d (evs f day s)
def evs(f:List Fx)(day:Int):List Ex→List Ev
 | []=>[]
 | x::l=>ev f day x::evs f day l
end
end Ex
theorem zeo{a:List UInt8}(h:errR a=0):a.length≤2003:=by
 have h1:=(xN h).2.2.1
 rw [← h1]
 unfold qstr wz
 have g1:=vM (decide ((qv a).num<0)) (qv a).num.natAbs
 have g2:=vM (decide (((qv a).den:Int)<0)) ((qv a).den:Int).natAbs
 split
 ·omega
 ·simp only [List.length_append,List.length_cons,List.length_nil]
  omega
end Go.Nov
end
section
set_option maxRecDepth 100000
open Go Go.Sx Go.Proofs Go.Nov
namespace Go.Proofs.Tryz
attribute [local simp] eqKV eqA eqA0 eqH eqB eqL eqL0
noncomputable def K57:List Go.Sx.Item:=[.code (Tryz.f57.body.getD .skip)]
noncomputable def K21:List Go.Sx.Item:=[.code (Tryz.f21.body.getD .skip)]
def bf1C:Ctr:=ctrP true (fun p:Fx×List UInt8=>[p.1.av,.str p.2]) (fun _=>True) (fun p r=>r=if Op.bytesLess p.2 p.1.name=true then 1 else -1) (fun _ (r:Int)=>(.int .i64 r,[]))
theorem znq:zc Tryz.prog 58 bf1C:=by
 refine ze (fn:=Tryz.f58) (c:=Tryz.f58.body.getD .skip) rfl rfl rfl fun p hp O w0 Q hq=> ?_
 obtain⟨f,s⟩:=p
 replace hq:=hq _ rfl
 simp only at hq
 refine zb.run hmix z7 [] 400 (T:=.ite (Op.bytesLess f.name s||decide (Fx.name f=s)) (.leaf (.ret [.int .i64 (-1:Int)] [.box [.str f.name,.int .i64 f.date,.str f.value]])) (.leaf (.ret [.int .i64 1] [.box [.str f.name,.int .i64 f.date,.str f.value]]))) (by kernel_rfl) ?_
 simp only [Tree.holds,zd]
 have key:(Op.bytesLess f.name s||decide (f.name=s)) = !Op.bytesLess s f.name:=by
  rcases Vz f.name s with h | h | h
  ·have h2:Op.bytesLess s f.name=false:=Bool.eq_false_iff.2 fun g=>by have:=xv h g; rw [kJ] at this; cases this
   rw [h,h2]; rfl
  ·rw [h,kJ]; simp
  ·have h2:Op.bytesLess f.name s=false:=Bool.eq_false_iff.2 fun g=>by have:=xv h g; rw [kJ] at this; cases this
   rw [h,h2]
   have:f.name≠s:=fun e=>by rw [e,kJ] at h; cases h
   simp [this]
 rw [key]
 cases hb:Op.bytesLess s f.name with
 | true=>
  rw [hb,if_pos rfl] at hq
  exact⟨fun h=>by simp at h,fun _=>RetR.scal hq rfl (by simp [resV])⟩
 | false=>
  rw [hb,if_neg (by simp)] at hq
  exact⟨fun _=>RetR.scal hq rfl (by simp [resV]),fun h=>by simp at h⟩
theorem zn7{a:Ca}{l:List Fx}(hs:l.Pairwise fun x y=>cmpF x y<0){j:Nat}(hj:j<l.length):Op.bytesLess a.name (l.getD j Fx.nil).name=decide (a.at_ l≤j):=by
 obtain⟨h1,h2⟩:=Ca.zfn (a:=a) hs
 have e:l.getD j Fx.nil=l[j]:=by simp [List.getD,hj]
 rw [e]
 by_cases h:a.at_ l≤j
 ·rw [decide_eq_true h]
  refine h2 _ ?_
  rw [List.mem_iff_getElem]
  exact⟨j - a.at_ l,by rw [List.length_drop]; omega,by rw [List.getElem_drop]; congr 1; omega⟩
 ·rw [decide_eq_false h]
  refine h1 _ ?_
  rw [List.mem_iff_getElem]
  exact⟨j,by rw [List.length_take]; omega,by rw [List.getElem_take]⟩
noncomputable def GBs:Nat→Option Ctr:=fun f=>if f=58 then some (bf1C) else none
theorem zhx:∀ g c,GBs g=some c→zc Tryz.prog g c:=okIf znq (zq)
def bsC:Ctr:=ctrP true (fun p:List Fx×Ca=>[fxS p.1,.str p.2.name,.fn 58 [] []]) (fun p=>p.1.length<2^40∧p.1.Pairwise fun x y=>cmpF x y<0) (fun p (r:Nat×Bool)=>r.1=p.2.at_ p.1) (fun _ (r:Nat×Bool)=>(.tup [.int .i64 (r.1:Int),.bool r.2],[]))
def SBs(l:List Fx)(a:Ca)(i j:Nat):KV:=[(0,fxS l),(1,.str a.name),(2,.fn 58 [] []),(8,.int .i64 (l.length:Int)),(9,.int .i64 (i:Int)),(10,.int .i64 (j:Int)),(40,.undef),(41,.undef),(42,.undef),(43,.undef),(44,.undef),(45,.undef),(46,.undef),(47,.undef)]
theorem zoo:zc Tryz.prog 57 bsC:=by
 refine ze (fn:=Tryz.f57) (c:=Tryz.f57.body.getD .skip) rfl rfl rfl fun p hp O w0 Q hq=> ?_
 obtain⟨l,a⟩:=p
 obtain⟨hl,hs⟩:=hp
 simp only at hl hs hq
 refine zb.run hmix zhx [0,1,2,8,9,10,40,41,42,43,44,45,46,47] 400 (T:=.leaf (.loop (Prod.fst (lps K57 0)) (Prod.snd (lps K57 0)) [(0,.sl l.length 3 (fxG l)),(1,.str (Ca.name a)),(2,.fn 58 [] []),(8,.int .i64 l.length),(9,.int .i64 0),(10,.int .i64 l.length),(40,.undef),(41,.undef),(42,.undef),(43,.undef),(44,.undef),(45,.undef),(46,.undef),(47,.undef)] [])) (by kernel_rfl) ?_
 simp only [Tree.holds,zd,inR,lo,hi,Int.toNat_natCast]
 refine zb.loop (ι:={p:Nat×Nat // p.1≤p.2∧p.2≤l.length∧p.1≤a.at_ l∧a.at_ l≤p.2}) (fun i=>SBs l a i.1.1 i.1.2) (fun _=>[]) (fun i=>i.1.2 - i.1.1) ⟨(0,l.length),Nat.zero_le _,Nat.le_refl _,Nat.zero_le _,Ca.UR⟩ 0 ?_ ?_ (by kernel_rfl)
 ·exact⟨by simp [SBs,fxS,za],trivial,by kernel_rfl,Nat.zero_le _⟩
 ·rintro⟨⟨i,j⟩,hij,hjl,hia,haj⟩
  simp only at hij hjl hia haj
  refine zb.run hmix zhx [0,1,2,8,9,10,40,41,42,43,44,45,46,47] 400 (T:=.ite (decide ((↑i:Int)<j)) (.side (inR .i64 ((↑i:Int)+j)) (.side (inR .u64 ((↑i:Int)+j)) (.side ((0:Int)≤1∧(1:Int)≤64) (.side (inR .i64 (Int.fdiv ((↑i:Int)+j) (2:Int))) (.side ((0:Int)≤Int.fdiv ((↑i:Int)+j) (2:Int)∧Int.fdiv ((↑i:Int)+j) (2:Int)<l.length) (.ex (fun(x:Fx×List UInt8)=>eqL [AV.agg [AV.str (Fx.name (l.getD (Int.toNat (Int.fdiv ((↑i:Int)+j) (2:Int))) Fx.nil)),AV.int .i64 (Fx.date (l.getD (Int.toNat (Int.fdiv ((↑i:Int)+j) (2:Int))) Fx.nil)),AV.str (Fx.value (l.getD (Int.toNat (Int.fdiv ((↑i:Int)+j) (2:Int))) Fx.nil))],AV.str (Ca.name a)] [AV.agg [AV.str x.1.name,AV.int .i64 x.1.date,AV.str x.1.value],AV.str x.2]∧True) fun n=>.all (fun(r:Int)=>r=if Op.bytesLess n.2 n.1.name=true then(1:Int) else(-1:Int)) fun n=>.ite (decide (n<0)) (.side (inR .i64 (Int.fdiv ((↑i:Int)+j) (2:Int)+(1:Int))) (.leaf (.back 0 [(0,.sl l.length 3 (fxG l)),(1,.str (Ca.name a)),(2,.fn 58 [] []),(8,.int .i64 l.length),(9,.int .i64 (Int.fdiv ((↑i:Int)+j) (2:Int)+(1:Int))),(10,.int .i64 j),(40,.undef),(41,.undef),(42,.undef),(43,.undef),(44,.undef),(45,.undef),(46,.undef),(47,.undef)] []))) (.leaf (.back 0 [(0,.sl l.length 3 (fxG l)),(1,.str (Ca.name a)),(2,.fn 58 [] []),(8,.int .i64 l.length),(9,.int .i64 i),(10,.int .i64 (Int.fdiv ((↑i:Int)+j) (2:Int))),(40,.undef),(41,.undef),(42,.undef),(43,.undef),(44,.undef),(45,.undef),(46,.undef),(47,.undef)] [])))))))) (.side (decide ((↑i:Int)<l.length)=true→(0:Int)≤i∧(↑i:Int)<l.length) (.ex (fun(x:Fx×List UInt8)=>decide ((↑i:Int)<l.length)=true→eqL [AV.agg [AV.str (Fx.name (l.getD (↑i:Int).toNat Fx.nil)),AV.int .i64 (Fx.date (l.getD (↑i:Int).toNat Fx.nil)),AV.str (Fx.value (l.getD (↑i:Int).toNat Fx.nil))],AV.str (Ca.name a)] [AV.agg [AV.str x.1.name,AV.int .i64 x.1.date,AV.str x.1.value],AV.str x.2]∧True) fun n=>.all (fun(x:Int)=>decide ((↑i:Int)<l.length)=true→x=if Op.bytesLess n.2 n.1.name=true then(1:Int) else(-1:Int)) fun n=>.leaf (.ret [.int .i64 i,.bool (bif decide ((↑i:Int)<l.length) then decide (n=0) else false)] [])))) (by kernel_rfl) ?_
  simp only [Tree.holds,zd,inR,lo,hi,Int.toNat_natCast]
  have hm:((i:Int)+j).fdiv 2=(((i+j)/2:Nat):Int):=by
   rw [Int.fdiv_eq_ediv_of_nonneg _ (by decide)]; omega
  refine⟨fun h=> ?_,fun h=> ?_⟩
  ·have h:=of_decide_eq_true h
   rw [hm]
   obtain⟨m,hmd⟩:∃ m,(i+j)/2=m:=⟨_,rfl⟩
   have hml:m<j:=by omega
   have hmi:i≤m:=by omega
   rw [hmd]
   simp only [Int.toNat_natCast]
   refine⟨by omega,fun _=>⟨by omega,fun _=>⟨by omega,fun _=>⟨by omega,fun _=>⟨by omega,fun _=>⟨(l.getD m Fx.nil,a.name),⟨by simp,trivial⟩,⟨_,rfl⟩,?_⟩⟩⟩⟩⟩⟩
   rintro _ rfl
   rw [zn7 hs (show m<l.length by omega)]
   refine⟨fun h2=>⟨by omega,fun _=> ?_⟩,fun h2=> ?_⟩
   ·have h2:=of_decide_eq_true h2
    have h3:¬ a.at_ l≤m:=fun g=>by rw [decide_eq_true g] at h2; simp at h2
    rw [if_pos trivial]
    exact⟨⟨(m+1,j),by show m+1≤j; omega,hjl,by show m+1≤a.at_ l; omega,haj⟩,by show j - (m+1)<j - i; omega,by simp [SBs,fxS,za],trivial,by kernel_rfl,Nat.zero_le _⟩
   ·have h2:=of_decide_eq_false h2
    have h3:a.at_ l≤m:=Classical.byContradiction fun g=>by rw [decide_eq_false g] at h2; simp at h2
    rw [if_pos trivial]
    exact⟨⟨(i,m),hmi,by show m≤l.length; omega,hia,h3⟩,by show m - i<j - i; omega,by simp [SBs,fxS,za],trivial,by kernel_rfl,Nat.zero_le _⟩
  ·have h:=of_decide_eq_false h
   have e:i=a.at_ l:=by omega
   refine⟨fun h=>by have:=of_decide_eq_true h; omega,fun _=>⟨(l.getD i Fx.nil,a.name),fun _=>⟨by simp,trivial⟩,⟨_,fun _=>rfl⟩,fun n hn=> ?_⟩⟩
   exact RetR.scal (hq (i,decide ((i:Int)<l.length)&&decide (n=0)) e) rfl (by simp [resV])
def SCb(f:List Fx)(k m i:Nat):KV:=[(2,.ptr 0 0),(4,.ptr 2 0),(8,.osl 5 3 0 m),(9,.ptr 4 0),(33,fxS f),(34,.int .i64 (f.length:Int)),(35,.int .i64 (i:Int)),(45,.undef),(46,.undef),(47,.undef),(48,.undef),(49,.undef),(77,.undef),(78,.undef),(79,.undef),(80,.undef),(81,.undef)]
def HCb(a:Ca)(f:List Fx)(c:List Ch)(k m:List Fx):Heap:=[.box [.str a.name,.str a.into,.int .i64 a.date,.str a.ratio,.str a.extra],.box [fxS f,chS c],.box [.nils,.nils],.arr c.length 4 (chG c),.box [.osl 6 3 0 k.length,.osl 3 4 0 c.length],.arr m.length 3 (fxG m),.arr k.length 3 (fxG k)]
def KT:Ctr:=ctrP true (fun p:Ca×(List Fx×List Ch)=>[p.1.av,envA p.2.1 p.2.2]) (fun p=>jk p.1∧envP p.2∧p.2.1.length≤1000000) (fun p r=>r=p.1.before p.2.1 p.2.2) (fun _ (r:(List Fx×List Ch)×Int)=>(.tup [.agg [.osl 0 3 0 r.1.1.length,.osl 1 4 0 r.1.2.length],.int .i64 r.2],[.arr r.1.1.length 3 (fxG r.1.1),.arr r.1.2.length 4 (chG r.1.2)]))
noncomputable def GBf:Nat→Option Ctr:=fun f=>if f=16 then some (k0) else if f=24 then some (Vw) else if f=55 then some (UF) else if f=56 then some (oldC) else if f=57 then some (bsC) else if f=59 then some (zlj) else none
theorem zhr:∀ g c,GBf g=some c→zc Tryz.prog g c:=okIf vQ (okIf Wa (okIf zcp (okIf Yw (okIf zoo (okIf zlb (zq))))))
theorem U9:zc Tryz.prog 21 KT:=by
 refine Qh (fn:=Tryz.f21) (c:=Tryz.f21.body.getD .skip) rfl rfl rfl fun p hp O w0 Q hq=> ?_
 obtain⟨a,f,c⟩:=p
 obtain⟨ha,he,hfl⟩:=hp
 replace hq:=hq _ rfl
 simp only at ha he hfl hq
 refine zb.run hmix zhr [2,4,8,9,33,34,35,45,46,47,48,49,77,78,79,80,81] 400 (T:=.ex (fun(x:Ca)=>eqL [AV.agg [AV.str (Ca.name a),AV.str (Ca.into a),AV.int .i64 (Ca.date a),AV.str (Ca.ratio a),AV.str (Ca.extra a)]] [AV.agg [AV.str (Ca.name x),AV.str (Ca.into x),AV.int .i64 (Ca.date x),AV.str (Ca.ratio x),AV.str (Ca.extra x)]]∧jk x) fun n=>.all (fun(r:Int)=>r=if Ca.ok n=true then(0:Int) else(8:Int)) fun n=>.ite (!decide (n=0)) (.leaf (.ret [.agg [.nils,.nils],.int .i64 n] [.box [.str (Ca.name a),.str (Ca.into a),.int .i64 (Ca.date a),.str (Ca.ratio a),.str (Ca.extra a)],.box [.sl f.length 3 (fxG f),.sl c.length 4 (chG c)],.box [.nils,.nils]])) (.ex (fun(x:List Fx×List Ch)=>eqL [AV.agg [AV.sl f.length 3 (fxG f),AV.sl c.length 4 (chG c)]] [AV.agg [AV.sl x.1.length 3 (fxG x.1),AV.sl x.2.length 4 (chG x.2)]]∧envP x) fun n=>.all (fun(r:Int)=>r=errE n.1 n.2) fun n=>.ite (!decide (n=0)) (.leaf (.ret [.agg [.nils,.nils],.int .i64 n] [.box [.str (Ca.name a),.str (Ca.into a),.int .i64 (Ca.date a),.str (Ca.ratio a),.str (Ca.extra a)],.box [.sl f.length 3 (fxG f),.sl c.length 4 (chG c)],.box [.nils,.nils]])) (.ex (fun(x:List Ch)=>eqL [AV.sl c.length 4 (chG c)] [AV.sl x.length 4 (chG x)]∧x.length<1099511627776) fun n=>.all (fun(x:Unit)=>True) fun n_1=>.leaf (.loop (Prod.fst (lps K21 0)) (Prod.snd (lps K21 0)) [(2,.ptr 0 0),(4,.ptr 2 0),(8,.nils),(9,.ptr 4 0),(33,.sl f.length 3 (fxG f)),(34,.int .i64 f.length),(35,.int .i64 0),(45,.undef),(46,.undef),(47,.undef),(48,.undef),(49,.undef),(77,.undef),(78,.undef),(79,.undef),(80,.undef),(81,.undef)] [.box [.str (Ca.name a),.str (Ca.into a),.int .i64 (Ca.date a),.str (Ca.ratio a),.str (Ca.extra a)],.box [.sl f.length 3 (fxG f),.sl c.length 4 (chG c)],.box [.nils,.nils],.arr n.length 4 (chG n),.box [.nils,.osl 3 4 0 n.length]])))) (by kernel_rfl) ?_
 simp only [Tree.holds,zd,inR,lo,hi,Int.toNat_natCast]
 have bad:∀ (e:Int) (h:Heap),a.before f c=(([],[]),e)→RetR KT 0 (upQ Q) [.agg [.nils,.nils],.int .i64 e] h:=fun e h hr=>by
  rw [hr] at hq
  exact zjm e h hq
 refine⟨a,⟨by simp [Ca.av],ha⟩,⟨_,rfl⟩,?_⟩
 rintro _ rfl
 by_cases hok:¬ a.ok=true
 ·rw [if_neg hok]
  refine⟨fun _=>bad _ _ ?_,fun h=>by simp at h⟩
  unfold Ca.before; rw [if_pos (by simpa using hok)]
 replace hok:a.ok=true:=Classical.not_not.1 hok
 rw [if_pos hok]
 refine⟨fun h=>by simp at h,fun _=>⟨(f,c),⟨by simp [za],he⟩,⟨_,rfl⟩,?_⟩⟩
 rintro _ rfl
 refine⟨fun h=> ?_,fun h=> ?_⟩
 ·have h:errE f c≠0:=by simpa using h
  refine bad _ _ ?_
  unfold Ca.before; rw [if_neg (by simp [hok]),if_pos h]
 have hE:errE f c=0:=by simpa using h
 clear h
 refine⟨c,⟨by simp [za],?_⟩,⟨(),trivial⟩,fun _ _=> ?_⟩
 ·have:=xe.1 hE; omega
 refine zb.bear 8 3 (fxG []) rfl (by decide) (by kernel_rfl) ?_
 refine zb.zou 4 0 3 (fxG []) rfl rfl (by kernel_rfl) ?_
 refine zb.loop (ι:={i:Nat // i≤f.length∧a.err (f.take i)=0}) (fun i=>SCb f (a.kept (f.take i.1)).length (a.fresh (f.take i.1)).length i.1) (fun i=>HCb a f c (a.kept (f.take i.1)) (a.fresh (f.take i.1))) (fun i=>f.length - i.1) ⟨0,Nat.zero_le _,rfl⟩ 0 ?_ ?_ (by kernel_rfl)
 ·exact⟨by simp [SCb,uE,fxS,za,Ca.fresh],by simp [HCb,fxS,chS,za,Ca.fresh,Ca.kept],by kernel_rfl,Nat.zero_le _⟩
 ·rintro⟨i,hil,hie⟩
  obtain⟨k,hk⟩:∃ k,a.kept (f.take i)=k:=⟨_,rfl⟩
  obtain⟨m,hm⟩:∃ m,a.fresh (f.take i)=m:=⟨_,rfl⟩
  have hkl:k.length≤f.length:=by rw [← hk]; exact Ca.zeh f i
  have hml:m.length≤f.length:=by rw [← hm]; exact Ca.zc6 f i
  simp only [hk,hm]
  refine zb.run hmix zhr [2,4,8,9,33,34,35,45,46,47,48,49,77,78,79,80,81] 400 (T:=.ite (decide ((↑i:Int)<f.length)) (.side ((0:Int)≤i∧(↑i:Int)<f.length) (.ite (bif decide (Fx.name (f.getD (↑i:Int).toNat Fx.nil)=Ca.into a) then decide (Ca.date a≤Fx.date (f.getD (↑i:Int).toNat Fx.nil)) else false) (.ex (fun(x:Ca×List UInt8)=>eqL [AV.agg [AV.str (Ca.name a),AV.str (Ca.into a),AV.int .i64 (Ca.date a),AV.str (Ca.ratio a),AV.str (Ca.extra a)],AV.str (Fx.value (f.getD (↑i:Int).toNat Fx.nil))] [AV.agg [AV.str (Ca.name x.1),AV.str (Ca.into x.1),AV.int .i64 (Ca.date x.1),AV.str (Ca.ratio x.1),AV.str (Ca.extra x.1)],AV.str x.2]∧jk x.1∧x.2.length<274877906944) fun n=>.all (fun(r:List UInt8×Int)=>r=Ca.old n.1 n.2) fun n=>.ite (!decide (n.2=0)) (.leaf (.ret [.agg [.nils,.nils],.int .i64 n.2] [.box [.str (Ca.name a),.str (Ca.into a),.int .i64 (Ca.date a),.str (Ca.ratio a),.str (Ca.extra a)],.box [.sl f.length 3 (fxG f),.sl c.length 4 (chG c)],.box [.nils,.nils],.arr c.length 4 (chG c),.box [.osl 6 3 0 k.length,.osl 3 4 0 c.length],.arr m.length 3 (fxG m),.arr k.length 3 (fxG k),.box [.str (Fx.name (f.getD (↑i:Int).toNat Fx.nil)),.int .i64 (Fx.date (f.getD (↑i:Int).toNat Fx.nil)),.str (Fx.value (f.getD (↑i:Int).toNat Fx.nil))]])) (.side (0=0∧m.length≤m.length∧(m.length+1)*40≤140737488355328) (.ite (bif !decide (Fx.name (f.getD (↑i:Int).toNat Fx.nil)=Ca.name a) then true else decide (Fx.date (f.getD (↑i:Int).toNat Fx.nil)<Ca.date a)) (.side (0=0∧k.length≤k.length∧(k.length+1)*40≤140737488355328) (.side (inR .i64 ((↑i:Int)+(1:Int))) (.leaf (.back 0 [(2,.ptr 0 0),(4,.ptr 2 0),(8,.osl 5 3 0 (m.length+1)),(9,.ptr 4 0),(33,.sl f.length 3 (fxG f)),(34,.int .i64 f.length),(35,.int .i64 ((↑i:Int)+(1:Int))),(45,.undef),(46,.undef),(47,.undef),(48,.undef),(49,.undef),(77,.undef),(78,.undef),(79,.undef),(80,.undef),(81,.undef)] [.box [.str (Ca.name a),.str (Ca.into a),.int .i64 (Ca.date a),.str (Ca.ratio a),.str (Ca.extra a)],.box [.sl f.length 3 (fxG f),.sl c.length 4 (chG c)],.box [.nils,.nils],.arr c.length 4 (chG c),.box [.osl 6 3 0 (k.length+1),.osl 3 4 0 c.length],.arr (m.length+1) 3 (appG m.length (fxG m) (zg (zh 3 [.str (Ca.name a),.int .i64 (Fx.date (f.getD (↑i:Int).toNat Fx.nil)),.str n.1]) 0)),.arr (k.length+1) 3 (appG k.length (fxG k) (zg (zh 3 [.str (Fx.name (f.getD (↑i:Int).toNat Fx.nil)),.int .i64 (Fx.date (f.getD (↑i:Int).toNat Fx.nil)),.str (Fx.value (f.getD (↑i:Int).toNat Fx.nil))]) 0)),.box [.str (Fx.name (f.getD (↑i:Int).toNat Fx.nil)),.int .i64 (Fx.date (f.getD (↑i:Int).toNat Fx.nil)),.str (Fx.value (f.getD (↑i:Int).toNat Fx.nil))],.arr 1 3 (zh 3 [.str (Ca.name a),.int .i64 (Fx.date (f.getD (↑i:Int).toNat Fx.nil)),.str n.1]),.arr 1 3 (zh 3 [.str (Fx.name (f.getD (↑i:Int).toNat Fx.nil)),.int .i64 (Fx.date (f.getD (↑i:Int).toNat Fx.nil)),.str (Fx.value (f.getD (↑i:Int).toNat Fx.nil))])])))) (.side (inR .i64 ((↑i:Int)+(1:Int))) (.leaf (.back 0 [(2,.ptr 0 0),(4,.ptr 2 0),(8,.osl 5 3 0 (m.length+1)),(9,.ptr 4 0),(33,.sl f.length 3 (fxG f)),(34,.int .i64 f.length),(35,.int .i64 ((↑i:Int)+(1:Int))),(45,.undef),(46,.undef),(47,.undef),(48,.undef),(49,.undef),(77,.undef),(78,.undef),(79,.undef),(80,.undef),(81,.undef)] [.box [.str (Ca.name a),.str (Ca.into a),.int .i64 (Ca.date a),.str (Ca.ratio a),.str (Ca.extra a)],.box [.sl f.length 3 (fxG f),.sl c.length 4 (chG c)],.box [.nils,.nils],.arr c.length 4 (chG c),.box [.osl 6 3 0 k.length,.osl 3 4 0 c.length],.arr (m.length+1) 3 (appG m.length (fxG m) (zg (zh 3 [.str (Ca.name a),.int .i64 (Fx.date (f.getD (↑i:Int).toNat Fx.nil)),.str n.1]) 0)),.arr k.length 3 (fxG k),.box [.str (Fx.name (f.getD (↑i:Int).toNat Fx.nil)),.int .i64 (Fx.date (f.getD (↑i:Int).toNat Fx.nil)),.str (Fx.value (f.getD (↑i:Int).toNat Fx.nil))],.arr 1 3 (zh 3 [.str (Ca.name a),.int .i64 (Fx.date (f.getD (↑i:Int).toNat Fx.nil)),.str n.1])])))))) (.ite (bif !decide (Fx.name (f.getD (↑i:Int).toNat Fx.nil)=Ca.name a) then true else decide (Fx.date (f.getD (↑i:Int).toNat Fx.nil)<Ca.date a)) (.side (0=0∧k.length≤k.length∧(k.length+1)*40≤140737488355328) (.side (inR .i64 ((↑i:Int)+(1:Int))) (.leaf (.back 0 [(2,.ptr 0 0),(4,.ptr 2 0),(8,.osl 5 3 0 m.length),(9,.ptr 4 0),(33,.sl f.length 3 (fxG f)),(34,.int .i64 f.length),(35,.int .i64 ((↑i:Int)+(1:Int))),(45,.undef),(46,.undef),(47,.undef),(48,.undef),(49,.undef),(77,.undef),(78,.undef),(79,.undef),(80,.undef),(81,.undef)] [.box [.str (Ca.name a),.str (Ca.into a),.int .i64 (Ca.date a),.str (Ca.ratio a),.str (Ca.extra a)],.box [.sl f.length 3 (fxG f),.sl c.length 4 (chG c)],.box [.nils,.nils],.arr c.length 4 (chG c),.box [.osl 6 3 0 (k.length+1),.osl 3 4 0 c.length],.arr m.length 3 (fxG m),.arr (k.length+1) 3 (appG k.length (fxG k) (zg (zh 3 [.str (Fx.name (f.getD (↑i:Int).toNat Fx.nil)),.int .i64 (Fx.date (f.getD (↑i:Int).toNat Fx.nil)),.str (Fx.value (f.getD (↑i:Int).toNat Fx.nil))]) 0)),.box [.str (Fx.name (f.getD (↑i:Int).toNat Fx.nil)),.int .i64 (Fx.date (f.getD (↑i:Int).toNat Fx.nil)),.str (Fx.value (f.getD (↑i:Int).toNat Fx.nil))],.arr 1 3 (zh 3 [.str (Fx.name (f.getD (↑i:Int).toNat Fx.nil)),.int .i64 (Fx.date (f.getD (↑i:Int).toNat Fx.nil)),.str (Fx.value (f.getD (↑i:Int).toNat Fx.nil))])])))) (.side (inR .i64 ((↑i:Int)+(1:Int))) (.leaf (.back 0 [(2,.ptr 0 0),(4,.ptr 2 0),(8,.osl 5 3 0 m.length),(9,.ptr 4 0),(33,.sl f.length 3 (fxG f)),(34,.int .i64 f.length),(35,.int .i64 ((↑i:Int)+(1:Int))),(45,.undef),(46,.undef),(47,.undef),(48,.undef),(49,.undef),(77,.undef),(78,.undef),(79,.undef),(80,.undef),(81,.undef)] [.box [.str (Ca.name a),.str (Ca.into a),.int .i64 (Ca.date a),.str (Ca.ratio a),.str (Ca.extra a)],.box [.sl f.length 3 (fxG f),.sl c.length 4 (chG c)],.box [.nils,.nils],.arr c.length 4 (chG c),.box [.osl 6 3 0 k.length,.osl 3 4 0 c.length],.arr m.length 3 (fxG m),.arr k.length 3 (fxG k),.box [.str (Fx.name (f.getD (↑i:Int).toNat Fx.nil)),.int .i64 (Fx.date (f.getD (↑i:Int).toNat Fx.nil)),.str (Fx.value (f.getD (↑i:Int).toNat Fx.nil))]])))))) (.side (inR .i64 ((↑k.length:Int)+m.length)) (.ite (decide ((1000:Int)<k.length+(↑m.length:Int))) (.leaf (.ret [.agg [.nils,.nils],.int .i64 22] [.box [.str (Ca.name a),.str (Ca.into a),.int .i64 (Ca.date a),.str (Ca.ratio a),.str (Ca.extra a)],.box [.sl f.length 3 (fxG f),.sl c.length 4 (chG c)],.box [.nils,.nils],.arr c.length 4 (chG c),.box [.osl 6 3 0 k.length,.osl 3 4 0 c.length],.arr m.length 3 (fxG m),.arr k.length 3 (fxG k)])) (.ex (fun(x:List Fx×Ca)=>eqL [AV.sl k.length 3 (zg (fxG k) 0),AV.str (Ca.name a),AV.fn 58 [] []] [AV.sl x.1.length 3 (fxG x.1),AV.str (Ca.name x.2),AV.fn 58 [] []]∧x.1.length<1099511627776∧List.Pairwise (fun(x y:Fx)=>cmpF x y<0) x.1) fun n=>.all (fun(r:Nat×Bool)=>r.1=Ca.at_ n.2 n.1) fun n=>.ex (fun(x:List Fx×List Fx×Nat)=>eqL [AV.osl 0 3 0 k.length,AV.int .i64 n.1,AV.osl 1 3 0 m.length] [AV.osl 0 3 0 x.1.length,AV.int .i64 x.2.2,AV.osl 1 3 0 x.2.1.length]∧eqH [.arr k.length 3 (fxG k),.arr m.length 3 (fxG m)] [.arr x.1.length 3 (fxG x.1),.arr x.2.1.length 3 (fxG x.2.1)]∧2=2∧x.2.2≤x.1.length∧x.1.length<1099511627776∧x.2.1.length<1099511627776) fun n=>.all (fun(x:Unit)=>True) fun n_1=>.leaf (.ret [.agg [.osl 6 3 0 (n.1.length+n.2.1.length),.osl 3 4 0 c.length],.int .i64 0] [.box [.str (Ca.name a),.str (Ca.into a),.int .i64 (Ca.date a),.str (Ca.ratio a),.str (Ca.extra a)],.box [.sl f.length 3 (fxG f),.sl c.length 4 (chG c)],.box [.osl 6 3 0 (n.1.length+n.2.1.length),.osl 3 4 0 c.length],.arr c.length 4 (chG c),.box [.osl 6 3 0 (n.1.length+n.2.1.length),.osl 3 4 0 c.length],.dead,.arr (n.1.length+n.2.1.length) 3 (fxG (List.take n.2.2 n.1++n.2.1++List.drop n.2.2 n.1))]))))) (by kernel_rfl) ?_
  simp only [Tree.holds,zd,inR,lo,hi,Int.toNat_natCast]
  refine⟨fun h=> ?_,fun h=> ?_⟩
  ·have hlt:i<f.length:=by have:=of_decide_eq_true h; omega
   obtain⟨x,hx⟩:∃ x,f.getD i Fx.nil=x:=⟨_,rfl⟩
   have hxm:x∈f:=by rw [← hx]; simp [List.getD,hlt]
   have E:=Ca.zds hlt hie
   have K:=Ca.zcm (a:=a) hlt
   have M:=Ca.Y6 (a:=a) hlt
   rw [hx] at E K M
   rw [hk] at K
   rw [hm] at M
   have hhit:(bif decide (x.name=a.into) then decide (a.date≤x.date) else false)=a.hit x:=by unfold Ca.hit; cases decide (x.name=a.into)<;>rfl
   have hkeep:(bif !decide (x.name=a.name) then true else decide (x.date<a.date))=a.keep x:=by unfold Ca.keep; cases decide (x.name=a.name)<;>rfl
   simp only [hx,hhit,hkeep]
   refine⟨by omega,fun _=>⟨fun hH=> ?_,fun hH=> ?_⟩⟩
   ·rw [if_pos hH] at M
    refine⟨(a,x.value),⟨by simp [Ca.av],ha,?_⟩,⟨_,rfl⟩,?_⟩
    ·have h3:=xe.1 hE
     have h4:=List.all_eq_true.1 h3.2.1 x hxm
     unfold okF at h4
     simp only [Bool.and_eq_true,decide_eq_true_eq] at h4
     have:=zeo h4.2
     show x.value.length<2^38
     omega
    rintro _ rfl
    refine⟨fun h2=> ?_,fun h2=> ?_⟩
    ·have h2:(a.old x.value).2≠0:=by simpa using h2
     have hbd:a.bad x=true:=by unfold Ca.bad; rw [hH,Bool.true_and]; exact decide_eq_true h2
     have hst:=Ca.zg8 hlt hie (by rw [hx]; exact hbd)
     rw [hx] at hst
     refine bad _ _ ?_
     unfold Ca.before; rw [if_neg (by simp [hok]),if_neg (by simp [hE]),hst,if_pos h2]
    ·have h2:(a.old x.value).2=0:=by simpa using h2
     have hbd:¬ a.bad x=true:=by unfold Ca.bad; rw [hH,Bool.true_and]; simp [h2]
     rw [if_neg hbd] at E
     refine⟨⟨trivial,Nat.le_refl _,by omega⟩,fun _=>⟨fun hK=> ?_,fun hK=> ?_⟩⟩
     ·rw [if_pos hK] at K
      refine⟨⟨trivial,Nat.le_refl _,by omega⟩,fun _=>⟨by omega,fun _=> ?_⟩⟩
      rw [if_pos trivial]
      refine⟨⟨i+1,hlt,E⟩,by show f.length - (i+1)<f.length - i; omega,by simp [SCb,fxS,za,K,M],?_,by kernel_rfl,Nat.zero_le _⟩
      have p1:=ZN (l:=m) (x:=⟨a.name,x.date,(a.old x.value).1⟩) (za _ _ (fxG m))
      have p2:=ZN (l:=k) (x:=x) (za _ _ (fxG k))
      simp only at p1 p2
      simp [HCb,fxS,chS,K,M,za,p1,p2]
     ·rw [if_neg (by simpa using hK)] at K
      refine⟨by omega,fun _=> ?_⟩
      rw [if_pos trivial]
      refine⟨⟨i+1,hlt,E⟩,by show f.length - (i+1)<f.length - i; omega,by simp [SCb,fxS,za,K,M],?_,by kernel_rfl,Nat.zero_le _⟩
      have p1:=ZN (l:=m) (x:=⟨a.name,x.date,(a.old x.value).1⟩) (za _ _ (fxG m))
      simp only at p1
      simp [HCb,fxS,chS,K,M,za,p1]
   ·rw [if_neg (by simpa using hH)] at M
    have hbd:¬ a.bad x=true:=by unfold Ca.bad; rw [hH]; simp
    rw [if_neg hbd] at E
    refine⟨fun hK=> ?_,fun hK=> ?_⟩
    ·rw [if_pos hK] at K
     refine⟨⟨trivial,Nat.le_refl _,by omega⟩,fun _=>⟨by omega,fun _=> ?_⟩⟩
     rw [if_pos trivial]
     refine⟨⟨i+1,hlt,E⟩,by show f.length - (i+1)<f.length - i; omega,by simp [SCb,fxS,za,K,M],?_,by kernel_rfl,Nat.zero_le _⟩
     have p2:=ZN (l:=k) (x:=x) (za _ _ (fxG k))
     simp [HCb,fxS,chS,K,M,za,p2]
    ·rw [if_neg (by simpa using hK)] at K
     refine⟨by omega,fun _=> ?_⟩
     rw [if_pos trivial]
     exact⟨⟨i+1,hlt,E⟩,by show f.length - (i+1)<f.length - i; omega,by simp [SCb,fxS,za,K,M],by simp [HCb,fxS,chS,K,M,za],by kernel_rfl,Nat.zero_le _⟩
  ·have hge:i=f.length:=by have:=of_decide_eq_false h; omega
   rw [hge,List.take_length] at hk hm hie
   have hB:a.before f c=if 1000<k.length+m.length then(([],[]),22) else((a.join k m,c),0):=by
    unfold Ca.before
    rw [if_neg (by simp [hok]),if_neg (by simp [hE]),if_neg (by simp [hie]),hk,hm]
   refine⟨by omega,fun _=>⟨fun h2=> ?_,fun h2=> ?_⟩⟩
   ·have h2:=of_decide_eq_true h2
    rw [if_pos (by omega)] at hB
    exact bad _ _ hB
   ·have h2:=of_decide_eq_false h2
    rw [if_neg (by omega)] at hB
    have hpk:k.Pairwise fun x y=>cmpF x y<0:=by rw [← hk]; exact(Ca.UE hE).2
    refine⟨(k,a),⟨by simp [fxS,Vd],by show k.length<2^40; omega,hpk⟩,⟨(a.at_ k,false),rfl⟩,?_⟩
    rintro⟨n,b⟩ hn
    simp only at hn
    subst hn
    refine⟨(k,m,a.at_ k),⟨by simp,by simp [za],trivial,Ca.UR,by show k.length<2^40; omega,by show m.length<2^40; omega⟩,⟨(),trivial⟩,fun _ _=> ?_⟩
    have hjl:(a.join k m).length=k.length+m.length:=by
     have:=Ca.UR (a:=a) (l:=k)
     unfold Ca.join
     simp only [List.length_append,List.length_take,List.length_drop]
     omega
    rw [hB] at hq
    simp only [hjl] at hq
    refine RetR.outs [6,3] rfl rfl (.inl hq) (fun _=>⟨?_,?_⟩) ?_ ?_ rfl
    ·simp [resV,new2,new1,new0,zy,qe]
    ·simp only [List.mem_cons,List.not_mem_nil,or_false,forall_eq_or_imp,forall_eq]
     have:=zk5 (za (k.length+m.length) 3 (fxG (a.join k m)))
     exact⟨by rw [← hjl] at this ⊢; exact this,zat (za _ _ _)⟩
    ·simp [resV,exp2,exp1,exp0,zy,ren0,eqA2,eqL1]
    ·exact⟨⟨rfl,rfl,za _ _ _⟩,⟨rfl,rfl,za _ _ _⟩,trivial⟩
def Ca.nilA:Ca:=⟨[],[],0,[],[]⟩
def Ca.out(a:Ca):Ca:=if a.ok=true then a else Ca.nilA
def za0:Ctr:=ctrP true (fun a:Ca=>[a.av]) jk (fun _ (_:Unit)=>True) (fun a _=>(.tup [(Ca.out a).av,.int .i64 (if a.ok=true then 0 else 8)],[]))
noncomputable def GMdA:Nat→Option Ctr:=fun f=>if f=16 then some (k0) else none
theorem zkc:∀ g c,GMdA g=some c→zc Tryz.prog g c:=okIf vQ (zq)
theorem zdc:zc Tryz.prog 54 za0:=by
 refine ze (fn:=Tryz.f54) (c:=Tryz.f54.body.getD .skip) rfl rfl rfl fun a ha O w0 Q hq=> ?_
 replace hq:=hq () trivial
 refine zb.run hmix zkc [] 400 (T:=.ex (fun(x:Ca)=>eqL [AV.agg [AV.str (Ca.name a),AV.str (Ca.into a),AV.int .i64 (Ca.date a),AV.str (Ca.ratio a),AV.str (Ca.extra a)]] [AV.agg [AV.str (Ca.name x),AV.str (Ca.into x),AV.int .i64 (Ca.date x),AV.str (Ca.ratio x),AV.str (Ca.extra x)]]∧jk x) fun n=>.all (fun(r:Int)=>r=if Ca.ok n=true then(0:Int) else(8:Int)) fun n=>.ite (!decide (n=0)) (.leaf (.ret [.agg [.str #[].toList,.str #[].toList,.int .i64 0,.str #[].toList,.str #[].toList],.int .i64 n] [.box [.str (Ca.name a),.str (Ca.into a),.int .i64 (Ca.date a),.str (Ca.ratio a),.str (Ca.extra a)],.box [.str #[].toList,.str #[].toList,.int .i64 0,.str #[].toList,.str #[].toList]])) (.leaf (.ret [.agg [.str (Ca.name a),.str (Ca.into a),.int .i64 (Ca.date a),.str (Ca.ratio a),.str (Ca.extra a)],.int .i64 0] [.box [.str (Ca.name a),.str (Ca.into a),.int .i64 (Ca.date a),.str (Ca.ratio a),.str (Ca.extra a)],.box [.str (Ca.name a),.str (Ca.into a),.int .i64 (Ca.date a),.str (Ca.ratio a),.str (Ca.extra a)]]))) (by kernel_rfl) ?_
 simp only [Tree.holds,zd]
 refine⟨a,⟨⟨by simp [Ca.av],trivial⟩,ha⟩,⟨_,rfl⟩,?_⟩
 rintro _ rfl
 cases ho:a.ok
 ·simp only [ho,Bool.false_eq_true,if_false,Ca.out] at hq ⊢
  refine⟨fun _=>RetR.out0 hq (fun _=>by simp [resV,new2,new1,new0,qe]) (by simp [resV,exp2,exp1,exp0,ren0,eqA2,eqL1,Ca.av,Ca.nilA]),fun h=>by simp at h⟩
 ·simp only [ho,if_true,Ca.out] at hq ⊢
  refine⟨fun h=>by simp at h,fun _=>RetR.out0 hq (fun _=>by simp [resV,new2,new1,new0,qe]) (by simp [resV,exp2,exp1,exp0,ren0,eqA2,eqL1,Ca.av])⟩
def splA(n:List UInt8)(d:Int)(r:List UInt8):Ca:=⟨n,n,d,r,[48]⟩
def divA(n:List UInt8)(d:Int)(r:List UInt8):Ca:=⟨n,n,d,[49],r⟩
structure SpA where
 n:List UInt8
 d:Int
 r:List UInt8
def splC:Ctr:=ctrP true (fun p:SpA=>[.str p.n,.int .i64 p.d,.str p.r]) (fun p=>p.n.length<2^38∧p.r.length<2^38) (fun _ (_:Unit)=>True) (fun p _=>(.tup [(Ca.out (splA p.n p.d p.r)).av,.int .i64 (if(splA p.n p.d p.r).ok=true then 0 else 8)],[]))
def divC:Ctr:=ctrP true (fun p:SpA=>[.str p.n,.int .i64 p.d,.str p.r]) (fun p=>p.n.length<2^38∧p.r.length<2^38) (fun _ (_:Unit)=>True) (fun p _=>(.tup [(Ca.out (divA p.n p.d p.r)).av,.int .i64 (if(divA p.n p.d p.r).ok=true then 0 else 8)],[]))
noncomputable def GSpl:Nat→Option Ctr:=fun f=>if f=54 then some (za0) else if f=48 then some (qofC) else none
theorem UL:∀ g c,GSpl g=some c→zc Tryz.prog g c:=okIf zdc (okIf zew (zq))
theorem zfp:zc Tryz.prog 20 splC:=by
 refine ze (fn:=Tryz.f20) (c:=Tryz.f20.body.getD .skip) rfl rfl rfl fun p hp O w0 Q hq=> ?_
 obtain⟨n,d,r⟩:=p
 obtain⟨h1,h2⟩:=hp
 replace hq:=hq () trivial
 simp only at hq h1 h2
 refine zb.run hmix UL [] 400 (T:=.ex (fun(x:Nat)=>eqL [AV.int .i64 0] [AV.int .i64 x]∧x≤9) fun n_1=>.all (fun(r:List UInt8)=>r=[UInt8.ofNat (48+n_1)]) fun n_2=>.ex (fun(x:Ca)=>eqL [AV.agg [AV.str n,AV.str n,AV.int .i64 d,AV.str r,AV.str n_2]] [AV.agg [AV.str (Ca.name x),AV.str (Ca.into x),AV.int .i64 (Ca.date x),AV.str (Ca.ratio x),AV.str (Ca.extra x)]]∧jk x) fun n=>.all (fun(x:Unit)=>True) fun n_3=>.leaf (.ret [.agg [.str (Ca.name (Ca.out n)),.str (Ca.into (Ca.out n)),.int .i64 (Ca.date (Ca.out n)),.str (Ca.ratio (Ca.out n)),.str (Ca.extra (Ca.out n))],.int .i64 (if Ca.ok n=true then(0:Int) else(8:Int))] [.box [.str (Ca.name (Ca.out n)),.str (Ca.into (Ca.out n)),.int .i64 (Ca.date (Ca.out n)),.str (Ca.ratio (Ca.out n)),.str (Ca.extra (Ca.out n))]])) (by kernel_rfl) ?_
 simp only [Tree.holds,zd]
 refine⟨0,⟨⟨⟨rfl,rfl⟩,trivial⟩,by decide⟩,⟨_,rfl⟩,?_⟩
 rintro _ rfl
 refine⟨splA n d r,⟨⟨by simp [Ca.av,splA],trivial⟩,⟨h1,h1,h2,by show 1<_; decide⟩⟩,⟨(),trivial⟩,fun _ _=> ?_⟩
 exact RetR.out0 hq (fun _=>by simp [resV,new2,new1,new0,qe,Ca.av]) (by simp [resV,exp2,exp1,exp0,ren0,eqA2,eqL1,Ca.av])
theorem znc:zc Tryz.prog 27 divC:=by
 refine ze (fn:=Tryz.f27) (c:=Tryz.f27.body.getD .skip) rfl rfl rfl fun p hp O w0 Q hq=> ?_
 obtain⟨n,d,r⟩:=p
 obtain⟨h1,h2⟩:=hp
 replace hq:=hq () trivial
 simp only at hq h1 h2
 refine zb.run hmix UL [] 400 (T:=.ex (fun(x:Nat)=>eqL [AV.int .i64 1] [AV.int .i64 x]∧x≤9) fun n_1=>.all (fun(r:List UInt8)=>r=[UInt8.ofNat (48+n_1)]) fun n_2=>.ex (fun(x:Ca)=>eqL [AV.agg [AV.str n,AV.str n,AV.int .i64 d,AV.str n_2,AV.str r]] [AV.agg [AV.str (Ca.name x),AV.str (Ca.into x),AV.int .i64 (Ca.date x),AV.str (Ca.ratio x),AV.str (Ca.extra x)]]∧jk x) fun n=>.all (fun(x:Unit)=>True) fun n_3=>.leaf (.ret [.agg [.str (Ca.name (Ca.out n)),.str (Ca.into (Ca.out n)),.int .i64 (Ca.date (Ca.out n)),.str (Ca.ratio (Ca.out n)),.str (Ca.extra (Ca.out n))],.int .i64 (if Ca.ok n=true then(0:Int) else(8:Int))] [.box [.str (Ca.name (Ca.out n)),.str (Ca.into (Ca.out n)),.int .i64 (Ca.date (Ca.out n)),.str (Ca.ratio (Ca.out n)),.str (Ca.extra (Ca.out n))]])) (by kernel_rfl) ?_
 simp only [Tree.holds,zd]
 refine⟨1,⟨⟨⟨rfl,rfl⟩,trivial⟩,by decide⟩,⟨_,rfl⟩,?_⟩
 rintro _ rfl
 refine⟨divA n d r,⟨⟨by simp [Ca.av,divA],trivial⟩,⟨h1,h1,by show 1<_; decide,h2⟩⟩,⟨(),trivial⟩,fun _ _=> ?_⟩
 exact RetR.out0 hq (fun _=>by simp [resV,new2,new1,new0,qe,Ca.av]) (by simp [resV,exp2,exp1,exp0,ren0,eqA2,eqL1,Ca.av])
def nowC:Ctr:=ctrP true (fun _:Unit=>[]) (fun _=>True) (fun _ (_:Unit)=>True) (fun _ _=>(.agg [.int .u8 3,.str [],.str [65,67,77,69],.int .i64 0,.nils],[]))
theorem zne:zc Tryz.prog 30 nowC:=by
 refine ze (fn:=Tryz.f30) (c:=Tryz.f30.body.getD .skip) rfl rfl rfl fun p hp O w0 Q hq=> ?_
 replace hq:=hq () trivial
 refine zb.run hmix z7 [] 400 (T:=.leaf (.ret [.agg [.int .u8 3,.str #[].toList,.str #[(65:UInt8),(67:UInt8),(77:UInt8),(69:UInt8)].toList,.int .i64 0,.nils]] [.box [.int .u8 3,.str #[].toList,.str #[(65:UInt8),(67:UInt8),(77:UInt8),(69:UInt8)].toList,.int .i64 0,.nils]])) (by kernel_rfl) ?_
 simp only [Tree.holds,zd]
 exact RetR.out0 hq (fun _=>by simp [resV,new2,new1,new0,qe]) (by simp [resV,exp2,exp1,exp0,ren0,eqA2])
def Wx:Ctr:=ctrP true (fun r:List UInt8=>[.str r]) (fun _=>True) (fun _ (_:Unit)=>True) (fun r _=>(.agg [.int .u8 1,.str r,.str [],.int .i64 0,.nils],[]))
theorem Xo:zc Tryz.prog 29 Wx:=by
 refine ze (fn:=Tryz.f29) (c:=Tryz.f29.body.getD .skip) rfl rfl rfl fun r hp O w0 Q hq=> ?_
 replace hq:=hq () trivial
 refine zb.run hmix z7 [] 400 (T:=.leaf (.ret [.agg [.int .u8 1,.str r,.str #[].toList,.int .i64 0,.nils]] [.box [.int .u8 1,.str r,.str #[].toList,.int .i64 0,.nils]])) (by kernel_rfl) ?_
 simp only [Tree.holds,zd]
 exact RetR.out0 hq (fun _=>by simp [resV,new2,new1,new0,qe]) (by simp [resV,exp2,exp1,exp0,ren0,eqA2])
def ofC:Ctr:=ctrP false (fun p:Int×Ex×Ex=>[.int .u8 p.1,p.2.1.exA,p.2.2.exA]) (fun _=>True) (fun _ (_:Unit)=>True) (fun p _=>(exD (.mk p.1 [] [] 0 [p.2.1,p.2.2]),[]))
theorem zor:zc Tryz.prog 28 ofC:=by
 refine ze (fn:=Tryz.f28) (c:=Tryz.f28.body.getD .skip) rfl rfl rfl fun p hp O w0 Q hq=> ?_
 obtain⟨k,x,y⟩:=p
 replace hq:=hq () trivial
 simp only at hq
 refine zb.run hmix z7 [] 400 (T:=.leaf (.ret [.agg [.int .u8 k,.str #[].toList,.str #[].toList,.int .i64 0,.osl 3 5 0 2]] [.box [.int .u8 x.kind,.str x.rat,.str x.name,.int .i64 x.date,.sl x.sub.length 5 (Ex.exG x.sub)],.box [.int .u8 y.kind,.str y.rat,.str y.name,.int .i64 y.date,.sl y.sub.length 5 (Ex.exG y.sub)],.box [.int .u8 k,.str #[].toList,.str #[].toList,.int .i64 0,.osl 3 5 0 2],.arr 2 5 (zh 5 [.int .u8 x.kind,.str x.rat,.str x.name,.int .i64 x.date,.sl x.sub.length 5 (Ex.exG x.sub),.int .u8 y.kind,.str y.rat,.str y.name,.int .i64 y.date,.sl y.sub.length 5 (Ex.exG y.sub)])])) (by kernel_rfl) ?_
 simp only [Tree.holds,zd]
 exact RetR.le0 hq (fun h=>by cases h) (LeA.agg ⟨LeA.refl _,LeA.refl _,LeA.refl _,LeA.refl _,Ex.yG (x:=x) (y:=y) ⟨LeA.refl _,LeA.refl _,LeA.refl _,LeA.refl _,Ex.jN x,LeA.refl _,LeA.refl _,LeA.refl _,LeA.refl _,Ex.jN y,trivial⟩,trivial⟩)
theorem zea{f:List Fx}{c:List Ch}{z:Int} : LeA (exp2 [.arr f.length 3 (fxG f),.arr c.length 4 (chG c)] [] (.tup [.agg [.osl 0 3 0 f.length,.osl 1 4 0 c.length],.int .i64 z])) (.tup [envA f c,.int .i64 z]):=by
 refine qp ?_
 simp [exp2,exp1,exp0,zy,frz1,j2,ren0,eqA2,eqL1,envA,fxS,chS,Vd]
theorem zht{f:List Fx}{c:List Ch}{z:Int} : new2 [.arr f.length 3 (fxG f),.arr c.length 4 (chG c)] [] (.tup [.agg [.osl 0 3 0 f.length,.osl 1 4 0 c.length],.int .i64 z]):=by
 simp only [new2,List.mem_cons,List.not_mem_nil,or_false,forall_eq_or_imp,forall_eq,new1,new0]
 refine⟨⟨fun _=> ?_,fun _=> ?_⟩,rfl⟩
 ·simp only [exp0,zy,frz1,j2,List.getElem?_cons_zero,if_true,UJ]
  exact fun j o hj ho=>UB _ _ _ ho
 ·simp only [exp0,zy,frz1,j2,List.getElem?_cons_succ,List.getElem?_cons_zero,if_true,UJ]
  exact fun j o hj ho=>zae _ _ _ ho
def Qq:Ctr:=ctrP true (fun p:Ca×(List Fx×List Ch)=>[p.1.av,envA p.2.1 p.2.2]) (fun p=>jk p.1∧envP p.2∧p.2.1.length≤1000000) (fun p r=>r=p.1.before p.2.1 p.2.2) (fun _ (r:(List Fx×List Ch)×Int)=>(.tup [envA r.1.1 r.1.2,.int .i64 r.2],[]))
theorem Qi:zc Tryz.prog 21 Qq:=zc.frozen U9 (fun _ _ _ _=>zht) (fun _ _ _ _=>zea)
def acme:List UInt8:=[65,67,77,69]
def ug:Ex:=.mk 3 [] acme 0 []
def yR(r:List UInt8):Ex:=.mk 1 r [] 0 []
def exOf(k:Int)(x y:Ex):Ex:=.mk k [] [] 0 [x,y]
def aSpl:Ca:=splA acme 10 [50]
def aDiv:Ca:=divA acme 10 [51,47,50]
def x1:Ex:=exOf 5 ug (yR [51,48])
def w1:Ex:=exOf 5 (exOf 6 (yR [50]) ug) (yR [51,48])
def w2:Ex:=exOf 4 ug (yR [51,47,50])
theorem zeg:aSpl.ok=true:=by decide +kernel
theorem zgh:aDiv.ok=true:=by decide +kernel
theorem zos:aSpl.expr x1=(w1,0):=by kernel_rfl
theorem zom:aDiv.expr ug=(w2,0):=by kernel_rfl
theorem al_v:aSpl.before [⟨acme,12,[49,56]⟩] []=(([⟨acme,12,[51,54]⟩],[]),0):=by kernel_rfl
def K5:Ctr:=ctrP true (fun _:Unit=>[]) (fun _=>True) (fun _ r=>r=true) (fun _ (r:Bool)=>(.bool r,[]))
noncomputable def zop:Nat→Option Ctr:=fun f=>if f=30 then some (nowC) else if f=29 then some (Wx) else if f=28 then some (ofC) else if f=20 then some (splC) else if f=27 then some (divC) else if f=10 then some (zis) else if f=21 then some (Qq) else if f=31 then some (Jt) else if f=25 then some (VC) else none
theorem vO:∀ g c,zop g=some c→zc Tryz.prog g c:=okIf zne (okIf Xo (okIf zor (okIf zfp (okIf znc (okIf zji (okIf Qi (okIf Ks (okIf XT (zq)))))))))
noncomputable def LA0:List Go.Sx.Item:=y8 12 (Tryz.f18.body.getD .skip)
noncomputable def LA2:List Go.Sx.Item:=LA0.drop 2
noncomputable def LA3:List Go.Sx.Item:=LA0.drop 3
noncomputable def LA4:List Go.Sx.Item:=LA0.drop 4
noncomputable def LA5:List Go.Sx.Item:=LA0.drop 5
noncomputable def LA6:List Go.Sx.Item:=LA0.drop 6
noncomputable def LA7:List Go.Sx.Item:=LA0.drop 7
def bSpl:Blk:=.box [.str [65,67,77,69],.str [65,67,77,69],.int .i64 10,.str [50],.str [48]]
def bDiv:Blk:=.box [.str [65,67,77,69],.str [65,67,77,69],.int .i64 10,.str [49],.str [51,47,50]]
def bEx(x:Ex):Blk:=.box x.cellsD
def SA2:KV:=[(0,.bool false),(1,.ptr 0 0),(2,.int .i64 0)]
def SA3:KV:=[(0,.bool false),(1,.ptr 0 0),(2,.int .i64 0),(3,.ptr 1 0),(4,.int .i64 0)]
def SA4:KV:=[(0,.bool false),(1,.ptr 0 0),(2,.int .i64 0),(3,.ptr 1 0),(4,.int .i64 0),(5,.ptr 3 0),(6,.int .i64 0)]
def SA5:KV:=SA4++[(7,.ptr 4 0),(8,.int .i64 0)]
def SA6:KV:=SA4++[(7,.ptr 4 0),(8,.int .i64 0),(9,.ptr 5 0),(10,.int .i64 0)]
def SA7:KV:=SA4++[(7,.ptr 4 0),(8,.int .i64 0),(9,.ptr 5 0),(10,.int .i64 0),(11,.ptr 6 0)]
def HA4:Heap:=[bSpl,bEx w1,.dead,.box [fxS [⟨acme,12,[51,54]⟩],chS []]]
def HA5:Heap:=[bSpl,bEx w1,.dead,.box [fxS [⟨acme,12,[51,54]⟩],chS []],bDiv]
def HA6:Heap:=[bSpl,bEx w1,.dead,.box [fxS [⟨acme,12,[51,54]⟩],chS []],bDiv,bEx w2]
def HA7:Heap:=[bSpl,bEx w1,.dead,.box [fxS [⟨acme,12,[51,54]⟩],chS []],bDiv,bEx w2,bEx w1]
theorem VO{A B:Prop}(a:A)(b:B):(∃ _:Bool,True)∧∀ n:Bool,True→((n=true→A)∧(n=false→B)):=⟨⟨true,trivial⟩,fun _ _=>⟨fun _=>a,fun _=>b⟩⟩
theorem Yg{p:Unit→Prop}(h:p ()):∃ n:Unit,(eqL [] []∧True)∧(∃ _:Unit,True)∧∀ _:Unit,True→p n:=⟨(),⟨trivial,trivial⟩,⟨(),trivial⟩,fun _ _=>h⟩
theorem zhj{r:List UInt8}{p:List UInt8→Prop}(h:p r):∃ n:List UInt8,(eqL [.str r] [.str n]∧True)∧(∃ _:Unit,True)∧∀ _:Unit,True→p n:=⟨r,⟨⟨rfl,trivial⟩,trivial⟩,⟨(),trivial⟩,fun _ _=>h⟩
theorem ZA{k d:Int}{r n:List UInt8} : eqA (.agg [.int .u8 k,.str r,.str n,.int .i64 d,.nils]) (Ex.mk k r n d []).exA:=by simp [Ex.exA,Ex.exS,Ex.kind,Ex.rat,Ex.name,Ex.date,Ex.sub]
theorem zhv{k:Int}{a b:AV}(x y:Ex)(ha:eqA a x.exA)(hb:eqA b y.exA){p:Int×Ex×Ex→Prop}(h:p (k,x,y)):∃ n:Int×Ex×Ex,(eqL [.int .u8 k,a,b] [.int .u8 n.1,n.2.1.exA,n.2.2.exA]∧True)∧(∃ _:Unit,True)∧∀ _:Unit,True→p n:=⟨(k,x,y),⟨⟨⟨rfl,rfl⟩,ha,hb,trivial⟩,trivial⟩,⟨(),trivial⟩,fun _ _=>h⟩
theorem UD{a b:AV}(c:Ca)(x:Ex)(ha:eqA a c.av)(hb:eqA b x.exA)(ht:qZ c)(h1:x.size<1048576)(h2:x.zp<1073741824){p:Ca×Ex→Prop}(h:p (c,x)):∃ n:Ca×Ex,(eqL [a,b] [n.1.av,n.2.exA]∧qZ n.1∧n.2.size<1048576∧n.2.zp<1073741824)∧(∃ _:Unit,True)∧∀ _:Unit,True→p n:=⟨(c,x),⟨⟨ha,hb,trivial⟩,ht,h1,h2⟩,⟨(),trivial⟩,fun _ _=>h⟩
theorem zly:eqA (.agg [.str [65,67,77,69],.str [65,67,77,69],.int .i64 10,.str [50],.str [48]]) aSpl.av:=⟨rfl,rfl,⟨rfl,rfl⟩,rfl,rfl,trivial⟩
theorem zo8:eqA (.agg [.str [65,67,77,69],.str [65,67,77,69],.int .i64 10,.str [49],.str [51,47,50]]) aDiv.av:=⟨rfl,rfl,⟨rfl,rfl⟩,rfl,rfl,trivial⟩
theorem ziq{x:Fx} : eqG 1 3 (zg (zh 3 [.str x.name,.int .i64 x.date,.str x.value]) 0) (fxG [x]):=by
 intro j o hj ho
 obtain rfl:j=0:=by omega
 rcases(show o=0∨o=1∨o=2 by omega) with rfl | rfl | rfl<;>rfl
theorem zj0:Ca.out (splA acme 10 [50])=aSpl:=by unfold Ca.out; exact if_pos zeg
theorem zk6:Ca.out (divA acme 10 [51,47,50])=aDiv:=by unfold Ca.out; exact if_pos zgh
theorem YR:zc Tryz.prog 18 K5:=by
 refine ze (fn:=Tryz.f18) (c:=Tryz.f18.body.getD .skip) rfl rfl rfl fun p hp O w0 Q hq=> ?_
 replace hq:=hq _ rfl
 have ht:qZ aSpl:=⟨by decide,by decide,by decide,by decide⟩
 have ht2:qZ aDiv:=⟨by decide,by decide,by decide,by decide⟩
 refine zb.spine 12 ?_
 refine zb.cutL (ι:=Unit) LA0 2 0 (fun _=>SA2) (fun _=>[bSpl]) (by kernel_rfl) (by kernel_rfl) ?_ fun _=> ?_
 ·refine zb.run hmix vO [0,1,2] 400 (T:=.ex (fun(x:SpA)=>eqL [AV.str #[(65:UInt8),(67:UInt8),(77:UInt8),(69:UInt8)].toList,AV.int .i64 10,AV.str #[(50:UInt8)].toList] [AV.str (SpA.n x),AV.int .i64 (SpA.d x),AV.str (SpA.r x)]∧List.length (SpA.n x)<274877906944∧List.length (SpA.r x)<274877906944) fun n=>.all (fun(x:Unit)=>True) fun n_1=>.leaf (.back 0 [(0,.bool false),(1,.ptr 0 0),(2,.int .i64 (if Ca.ok (splA (SpA.n n) (SpA.d n) (SpA.r n))=true then(0:Int) else(8:Int)))] [.box [.str (Ca.name (Ca.out (splA (SpA.n n) (SpA.d n) (SpA.r n)))),.str (Ca.into (Ca.out (splA (SpA.n n) (SpA.d n) (SpA.r n)))),.int .i64 (Ca.date (Ca.out (splA (SpA.n n) (SpA.d n) (SpA.r n)))),.str (Ca.ratio (Ca.out (splA (SpA.n n) (SpA.d n) (SpA.r n)))),.str (Ca.extra (Ca.out (splA (SpA.n n) (SpA.d n) (SpA.r n))))]])) (by kernel_rfl) ?_
  simp only [Tree.holds,zd]
  refine⟨⟨acme,10,[50]⟩,⟨⟨rfl,⟨rfl,rfl⟩,rfl,trivial⟩,by decide,by decide⟩,?_⟩
  have e8:(if(splA acme 10 [50]).ok=true then(0:Int) else 8)=0:=if_pos zeg
  simp only [zj0,e8]
  refine⟨⟨(),trivial⟩,fun _ _=> ?_⟩
  rw [if_pos trivial]
  exact⟨(),by simp [SA2],by simp [bSpl,aSpl,splA,acme],by kernel_rfl,Nat.zero_le _⟩
 show qD none Tryz.prog Tryz.f18 O 0 w0 [] _ _ LA2 _
 refine zb.cutL (ι:=Unit) LA2 1 0 (fun _=>SA3) (fun _=>[bSpl,bEx w1]) (by kernel_rfl) (by kernel_rfl) ?_ fun _=> ?_
 ·refine zb.run hmix vO [0,1,2,3,4] 400 (T:=.all (fun(x:Bool)=>True) fun n=>.ite n (.ex (fun(x:Unit)=>eqL [] []∧True) fun n=>.all (fun(x:Unit)=>True) fun n=>.all (fun(x:Bool)=>True) fun n=>.ite n (.ex (fun(x:List UInt8)=>eqL [AV.str #[(51:UInt8),(48:UInt8)].toList] [AV.str x]∧True) fun n=>.all (fun(x:Unit)=>True) fun n_1=>.all (fun(x:Bool)=>True) fun n_2=>.ite n_2 (.ex (fun(x:Int×Ex×Ex)=>eqL [AV.int .u8 5,AV.agg [AV.int .u8 3,AV.str [],AV.str [(65:UInt8),(67:UInt8),(77:UInt8),(69:UInt8)],AV.int .i64 0,AV.nils],AV.agg [AV.int .u8 1,AV.str n,AV.str [],AV.int .i64 0,AV.nils]] [AV.int .u8 x.1,AV.agg [AV.int .u8 x.2.1.kind,AV.str x.2.1.rat,AV.str x.2.1.name,AV.int .i64 x.2.1.date,AV.sl x.2.1.sub.length 5 (Ex.exG x.2.1.sub)],AV.agg [AV.int .u8 x.2.2.kind,AV.str x.2.2.rat,AV.str x.2.2.name,AV.int .i64 x.2.2.date,AV.sl x.2.2.sub.length 5 (Ex.exG x.2.2.sub)]]∧True) fun n=>.all (fun(x:Unit)=>True) fun n_3=>.all (fun(x:Bool)=>True) fun n_4=>.ite n_4 (.ex (fun(x:Ca×Ex)=>eqL [AV.agg [AV.str [(65:UInt8),(67:UInt8),(77:UInt8),(69:UInt8)],AV.str [(65:UInt8),(67:UInt8),(77:UInt8),(69:UInt8)],AV.int .i64 10,AV.str [(50:UInt8)],AV.str [(48:UInt8)]],AV.agg [AV.int .u8 (Ex.kind (Ex.mk n.1 [] [] (0:Int) [n.2.1,n.2.2])),AV.str (Ex.rat (Ex.mk n.1 [] [] (0:Int) [n.2.1,n.2.2])),AV.str (Ex.name (Ex.mk n.1 [] [] (0:Int) [n.2.1,n.2.2])),AV.int .i64 (Ex.date (Ex.mk n.1 [] [] (0:Int) [n.2.1,n.2.2])),AV.sl (List.length (Ex.sub (Ex.mk n.1 [] [] (0:Int) [n.2.1,n.2.2]))) 5 (Ex.deep (Ex.mk n.1 [] [] (0:Int) [n.2.1,n.2.2]))]] [AV.agg [AV.str (Ca.name x.1),AV.str (Ca.into x.1),AV.int .i64 (Ca.date x.1),AV.str (Ca.ratio x.1),AV.str (Ca.extra x.1)],AV.agg [AV.int .u8 x.2.kind,AV.str x.2.rat,AV.str x.2.name,AV.int .i64 x.2.date,AV.sl x.2.sub.length 5 (Ex.exG x.2.sub)]]∧qZ x.1∧Ex.size x.2<1048576∧Ex.zp x.2<1073741824) fun n=>.all (fun(x:Unit)=>True) fun n_5=>.leaf (.back 0 [(0,.bool false),(1,.ptr 0 0),(2,.int .i64 0),(3,.ptr 1 0),(4,.int .i64 (Prod.snd (Ca.expr n.1 n.2)))] [.box [.str [(65:UInt8),(67:UInt8),(77:UInt8),(69:UInt8)],.str [(65:UInt8),(67:UInt8),(77:UInt8),(69:UInt8)],.int .i64 10,.str [(50:UInt8)],.str [(48:UInt8)]],.box [.int .u8 (Ex.kind (Prod.fst (Ca.expr n.1 n.2))),.str (Ex.rat (Prod.fst (Ca.expr n.1 n.2))),.str (Ex.name (Prod.fst (Ca.expr n.1 n.2))),.int .i64 (Ex.date (Prod.fst (Ca.expr n.1 n.2))),.sl (List.length (Ex.sub (Prod.fst (Ca.expr n.1 n.2)))) 5 (Ex.deep (Prod.fst (Ca.expr n.1 n.2)))]])) (.ex (fun(x:Ca×Ex)=>eqL [AV.agg [AV.str [(65:UInt8),(67:UInt8),(77:UInt8),(69:UInt8)],AV.str [(65:UInt8),(67:UInt8),(77:UInt8),(69:UInt8)],AV.int .i64 10,AV.str [(50:UInt8)],AV.str [(48:UInt8)]],AV.agg [AV.int .u8 (Ex.kind (Ex.mk n.1 [] [] (0:Int) [n.2.1,n.2.2])),AV.str (Ex.rat (Ex.mk n.1 [] [] (0:Int) [n.2.1,n.2.2])),AV.str (Ex.name (Ex.mk n.1 [] [] (0:Int) [n.2.1,n.2.2])),AV.int .i64 (Ex.date (Ex.mk n.1 [] [] (0:Int) [n.2.1,n.2.2])),AV.sl (List.length (Ex.sub (Ex.mk n.1 [] [] (0:Int) [n.2.1,n.2.2]))) 5 (Ex.deep (Ex.mk n.1 [] [] (0:Int) [n.2.1,n.2.2]))]] [AV.agg [AV.str (Ca.name x.1),AV.str (Ca.into x.1),AV.int .i64 (Ca.date x.1),AV.str (Ca.ratio x.1),AV.str (Ca.extra x.1)],AV.agg [AV.int .u8 x.2.kind,AV.str x.2.rat,AV.str x.2.name,AV.int .i64 x.2.date,AV.sl x.2.sub.length 5 (Ex.exG x.2.sub)]]∧qZ x.1∧Ex.size x.2<1048576∧Ex.zp x.2<1073741824) fun n=>.all (fun(x:Unit)=>True) fun n_5=>.leaf (.back 0 [(0,.bool false),(1,.ptr 0 0),(2,.int .i64 0),(3,.ptr 1 0),(4,.int .i64 (Prod.snd (Ca.expr n.1 n.2)))] [.box [.str [(65:UInt8),(67:UInt8),(77:UInt8),(69:UInt8)],.str [(65:UInt8),(67:UInt8),(77:UInt8),(69:UInt8)],.int .i64 10,.str [(50:UInt8)],.str [(48:UInt8)]],.box [.int .u8 (Ex.kind (Prod.fst (Ca.expr n.1 n.2))),.str (Ex.rat (Prod.fst (Ca.expr n.1 n.2))),.str (Ex.name (Prod.fst (Ca.expr n.1 n.2))),.int .i64 (Ex.date (Prod.fst (Ca.expr n.1 n.2))),.sl (List.length (Ex.sub (Prod.fst (Ca.expr n.1 n.2)))) 5 (Ex.deep (Prod.fst (Ca.expr n.1 n.2)))]]))) (.ex (fun(x:Int×Ex×Ex)=>eqL [AV.int .u8 5,AV.agg [AV.int .u8 3,AV.str [],AV.str [(65:UInt8),(67:UInt8),(77:UInt8),(69:UInt8)],AV.int .i64 0,AV.nils],AV.agg [AV.int .u8 1,AV.str n,AV.str [],AV.int .i64 0,AV.nils]] [AV.int .u8 x.1,AV.agg [AV.int .u8 x.2.1.kind,AV.str x.2.1.rat,AV.str x.2.1.name,AV.int .i64 x.2.1.date,AV.sl x.2.1.sub.length 5 (Ex.exG x.2.1.sub)],AV.agg [AV.int .u8 x.2.2.kind,AV.str x.2.2.rat,AV.str x.2.2.name,AV.int .i64 x.2.2.date,AV.sl x.2.2.sub.length 5 (Ex.exG x.2.2.sub)]]∧True) fun n=>.all (fun(x:Unit)=>True) fun n_3=>.ex (fun(x:Ca×Ex)=>eqL [AV.agg [AV.str [(65:UInt8),(67:UInt8),(77:UInt8),(69:UInt8)],AV.str [(65:UInt8),(67:UInt8),(77:UInt8),(69:UInt8)],AV.int .i64 10,AV.str [(50:UInt8)],AV.str [(48:UInt8)]],AV.agg [AV.int .u8 (Ex.kind (Ex.mk n.1 [] [] (0:Int) [n.2.1,n.2.2])),AV.str (Ex.rat (Ex.mk n.1 [] [] (0:Int) [n.2.1,n.2.2])),AV.str (Ex.name (Ex.mk n.1 [] [] (0:Int) [n.2.1,n.2.2])),AV.int .i64 (Ex.date (Ex.mk n.1 [] [] (0:Int) [n.2.1,n.2.2])),AV.sl (List.length (Ex.sub (Ex.mk n.1 [] [] (0:Int) [n.2.1,n.2.2]))) 5 (Ex.deep (Ex.mk n.1 [] [] (0:Int) [n.2.1,n.2.2]))]] [AV.agg [AV.str (Ca.name x.1),AV.str (Ca.into x.1),AV.int .i64 (Ca.date x.1),AV.str (Ca.ratio x.1),AV.str (Ca.extra x.1)],AV.agg [AV.int .u8 x.2.kind,AV.str x.2.rat,AV.str x.2.name,AV.int .i64 x.2.date,AV.sl x.2.sub.length 5 (Ex.exG x.2.sub)]]∧qZ x.1∧Ex.size x.2<1048576∧Ex.zp x.2<1073741824) fun n=>.all (fun(x:Unit)=>True) fun n_4=>.leaf (.back 0 [(0,.bool false),(1,.ptr 0 0),(2,.int .i64 0),(3,.ptr 1 0),(4,.int .i64 (Prod.snd (Ca.expr n.1 n.2)))] [.box [.str [(65:UInt8),(67:UInt8),(77:UInt8),(69:UInt8)],.str [(65:UInt8),(67:UInt8),(77:UInt8),(69:UInt8)],.int .i64 10,.str [(50:UInt8)],.str [(48:UInt8)]],.box [.int .u8 (Ex.kind (Prod.fst (Ca.expr n.1 n.2))),.str (Ex.rat (Prod.fst (Ca.expr n.1 n.2))),.str (Ex.name (Prod.fst (Ca.expr n.1 n.2))),.int .i64 (Ex.date (Prod.fst (Ca.expr n.1 n.2))),.sl (List.length (Ex.sub (Prod.fst (Ca.expr n.1 n.2)))) 5 (Ex.deep (Prod.fst (Ca.expr n.1 n.2)))]]))) (.ex (fun(x:List UInt8)=>eqL [AV.str #[(51:UInt8),(48:UInt8)].toList] [AV.str x]∧True) fun n=>.all (fun(x:Unit)=>True) fun n_1=>.ex (fun(x:Int×Ex×Ex)=>eqL [AV.int .u8 5,AV.agg [AV.int .u8 3,AV.str [],AV.str [(65:UInt8),(67:UInt8),(77:UInt8),(69:UInt8)],AV.int .i64 0,AV.nils],AV.agg [AV.int .u8 1,AV.str n,AV.str [],AV.int .i64 0,AV.nils]] [AV.int .u8 x.1,AV.agg [AV.int .u8 x.2.1.kind,AV.str x.2.1.rat,AV.str x.2.1.name,AV.int .i64 x.2.1.date,AV.sl x.2.1.sub.length 5 (Ex.exG x.2.1.sub)],AV.agg [AV.int .u8 x.2.2.kind,AV.str x.2.2.rat,AV.str x.2.2.name,AV.int .i64 x.2.2.date,AV.sl x.2.2.sub.length 5 (Ex.exG x.2.2.sub)]]∧True) fun n=>.all (fun(x:Unit)=>True) fun n_2=>.ex (fun(x:Ca×Ex)=>eqL [AV.agg [AV.str [(65:UInt8),(67:UInt8),(77:UInt8),(69:UInt8)],AV.str [(65:UInt8),(67:UInt8),(77:UInt8),(69:UInt8)],AV.int .i64 10,AV.str [(50:UInt8)],AV.str [(48:UInt8)]],AV.agg [AV.int .u8 (Ex.kind (Ex.mk n.1 [] [] (0:Int) [n.2.1,n.2.2])),AV.str (Ex.rat (Ex.mk n.1 [] [] (0:Int) [n.2.1,n.2.2])),AV.str (Ex.name (Ex.mk n.1 [] [] (0:Int) [n.2.1,n.2.2])),AV.int .i64 (Ex.date (Ex.mk n.1 [] [] (0:Int) [n.2.1,n.2.2])),AV.sl (List.length (Ex.sub (Ex.mk n.1 [] [] (0:Int) [n.2.1,n.2.2]))) 5 (Ex.deep (Ex.mk n.1 [] [] (0:Int) [n.2.1,n.2.2]))]] [AV.agg [AV.str (Ca.name x.1),AV.str (Ca.into x.1),AV.int .i64 (Ca.date x.1),AV.str (Ca.ratio x.1),AV.str (Ca.extra x.1)],AV.agg [AV.int .u8 x.2.kind,AV.str x.2.rat,AV.str x.2.name,AV.int .i64 x.2.date,AV.sl x.2.sub.length 5 (Ex.exG x.2.sub)]]∧qZ x.1∧Ex.size x.2<1048576∧Ex.zp x.2<1073741824) fun n=>.all (fun(x:Unit)=>True) fun n_3=>.leaf (.back 0 [(0,.bool false),(1,.ptr 0 0),(2,.int .i64 0),(3,.ptr 1 0),(4,.int .i64 (Prod.snd (Ca.expr n.1 n.2)))] [.box [.str [(65:UInt8),(67:UInt8),(77:UInt8),(69:UInt8)],.str [(65:UInt8),(67:UInt8),(77:UInt8),(69:UInt8)],.int .i64 10,.str [(50:UInt8)],.str [(48:UInt8)]],.box [.int .u8 (Ex.kind (Prod.fst (Ca.expr n.1 n.2))),.str (Ex.rat (Prod.fst (Ca.expr n.1 n.2))),.str (Ex.name (Prod.fst (Ca.expr n.1 n.2))),.int .i64 (Ex.date (Prod.fst (Ca.expr n.1 n.2))),.sl (List.length (Ex.sub (Prod.fst (Ca.expr n.1 n.2)))) 5 (Ex.deep (Prod.fst (Ca.expr n.1 n.2)))]]))) (.ex (fun(x:Unit)=>eqL [] []∧True) fun n=>.all (fun(x:Unit)=>True) fun n=>.ex (fun(x:List UInt8)=>eqL [AV.str #[(51:UInt8),(48:UInt8)].toList] [AV.str x]∧True) fun n=>.all (fun(x:Unit)=>True) fun n_1=>.ex (fun(x:Int×Ex×Ex)=>eqL [AV.int .u8 5,AV.agg [AV.int .u8 3,AV.str [],AV.str [(65:UInt8),(67:UInt8),(77:UInt8),(69:UInt8)],AV.int .i64 0,AV.nils],AV.agg [AV.int .u8 1,AV.str n,AV.str [],AV.int .i64 0,AV.nils]] [AV.int .u8 x.1,AV.agg [AV.int .u8 x.2.1.kind,AV.str x.2.1.rat,AV.str x.2.1.name,AV.int .i64 x.2.1.date,AV.sl x.2.1.sub.length 5 (Ex.exG x.2.1.sub)],AV.agg [AV.int .u8 x.2.2.kind,AV.str x.2.2.rat,AV.str x.2.2.name,AV.int .i64 x.2.2.date,AV.sl x.2.2.sub.length 5 (Ex.exG x.2.2.sub)]]∧True) fun n=>.all (fun(x:Unit)=>True) fun n_2=>.ex (fun(x:Ca×Ex)=>eqL [AV.agg [AV.str [(65:UInt8),(67:UInt8),(77:UInt8),(69:UInt8)],AV.str [(65:UInt8),(67:UInt8),(77:UInt8),(69:UInt8)],AV.int .i64 10,AV.str [(50:UInt8)],AV.str [(48:UInt8)]],AV.agg [AV.int .u8 (Ex.kind (Ex.mk n.1 [] [] (0:Int) [n.2.1,n.2.2])),AV.str (Ex.rat (Ex.mk n.1 [] [] (0:Int) [n.2.1,n.2.2])),AV.str (Ex.name (Ex.mk n.1 [] [] (0:Int) [n.2.1,n.2.2])),AV.int .i64 (Ex.date (Ex.mk n.1 [] [] (0:Int) [n.2.1,n.2.2])),AV.sl (List.length (Ex.sub (Ex.mk n.1 [] [] (0:Int) [n.2.1,n.2.2]))) 5 (Ex.deep (Ex.mk n.1 [] [] (0:Int) [n.2.1,n.2.2]))]] [AV.agg [AV.str (Ca.name x.1),AV.str (Ca.into x.1),AV.int .i64 (Ca.date x.1),AV.str (Ca.ratio x.1),AV.str (Ca.extra x.1)],AV.agg [AV.int .u8 x.2.kind,AV.str x.2.rat,AV.str x.2.name,AV.int .i64 x.2.date,AV.sl x.2.sub.length 5 (Ex.exG x.2.sub)]]∧qZ x.1∧Ex.size x.2<1048576∧Ex.zp x.2<1073741824) fun n=>.all (fun(x:Unit)=>True) fun n_3=>.leaf (.back 0 [(0,.bool false),(1,.ptr 0 0),(2,.int .i64 0),(3,.ptr 1 0),(4,.int .i64 (Prod.snd (Ca.expr n.1 n.2)))] [.box [.str [(65:UInt8),(67:UInt8),(77:UInt8),(69:UInt8)],.str [(65:UInt8),(67:UInt8),(77:UInt8),(69:UInt8)],.int .i64 10,.str [(50:UInt8)],.str [(48:UInt8)]],.box [.int .u8 (Ex.kind (Prod.fst (Ca.expr n.1 n.2))),.str (Ex.rat (Prod.fst (Ca.expr n.1 n.2))),.str (Ex.name (Prod.fst (Ca.expr n.1 n.2))),.int .i64 (Ex.date (Prod.fst (Ca.expr n.1 n.2))),.sl (List.length (Ex.sub (Prod.fst (Ca.expr n.1 n.2)))) 5 (Ex.deep (Prod.fst (Ca.expr n.1 n.2)))]]))) (by kernel_rfl) ?_
  simp only [Tree.holds,zd]
  repeat' first
   | apply VO
   | apply Yg
   | apply zhj
   | apply zhv ug (yR [51,48]) ZA ZA
   | apply UD aSpl x1 zly (km x1) ht (by decide) (by decide)
  all_goals
   simp only [zos]
   rw [if_pos trivial]
  all_goals exact⟨(),by simp [SA3],⟨zD _,zD _,trivial⟩,by kernel_rfl,Nat.zero_le _⟩
 show qD none Tryz.prog Tryz.f18 O 0 w0 [] _ _ LA3 _
 refine zb.cutL (ι:=Unit) LA3 1 0 (fun _=>SA4) (fun _=>HA4) (by kernel_rfl) (by kernel_rfl) ?_ fun _=> ?_
 ·refine zb.run hmix vO [0,1,2,3,4,5,6] 400 (T:=.ex (fun(x:Ca×List Fx×List Ch)=>eqL [AV.agg [AV.str [(65:UInt8),(67:UInt8),(77:UInt8),(69:UInt8)],AV.str [(65:UInt8),(67:UInt8),(77:UInt8),(69:UInt8)],AV.int .i64 10,AV.str [(50:UInt8)],AV.str [(48:UInt8)]],AV.agg [AV.sl 1 3 (zg (zh 3 [AV.str #[(65:UInt8),(67:UInt8),(77:UInt8),(69:UInt8)].toList,AV.int .i64 12,AV.str #[(49:UInt8),(56:UInt8)].toList]) 0),AV.nils]] [AV.agg [AV.str (Ca.name x.1),AV.str (Ca.into x.1),AV.int .i64 (Ca.date x.1),AV.str (Ca.ratio x.1),AV.str (Ca.extra x.1)],AV.agg [AV.sl x.2.1.length 3 (fxG x.2.1),AV.sl x.2.2.length 4 (chG x.2.2)]]∧jk x.1∧envP x.2∧x.2.1.length≤1000000) fun n=>.all (fun(r:(List Fx×List Ch)×Int)=>r=Ca.before n.1 n.2.1 n.2.2) fun n=>.leaf (.back 0 [(0,.bool false),(1,.ptr 0 0),(2,.int .i64 0),(3,.ptr 1 0),(4,.int .i64 0),(5,.ptr 3 0),(6,.int .i64 n.2)] [.box [.str [(65:UInt8),(67:UInt8),(77:UInt8),(69:UInt8)],.str [(65:UInt8),(67:UInt8),(77:UInt8),(69:UInt8)],.int .i64 10,.str [(50:UInt8)],.str [(48:UInt8)]],.box [.int .u8 5,.str w1.rat,.str w1.name,.int .i64 0,.sl 2 5 w1.deep],.arr 1 3 (zh 3 [.str #[(65:UInt8),(67:UInt8),(77:UInt8),(69:UInt8)].toList,.int .i64 12,.str #[(49:UInt8),(56:UInt8)].toList]),.box [.sl n.1.1.length 3 (fxG n.1.1),.sl n.1.2.length 4 (chG n.1.2)]])) (by kernel_rfl) ?_
  simp only [Tree.holds,zd]
  refine⟨(aSpl,[⟨acme,12,[49,56]⟩],[]),⟨⟨zly,⟨⟨rfl,rfl,ziq (x:=⟨acme,12,[49,56]⟩)⟩,by simp [chS],trivial⟩,trivial⟩,⟨by decide,by decide,by decide,by decide⟩,⟨by decide,by decide,fun j hj=> ?_,fun j hj=>by cases hj⟩,by decide⟩,⟨_,rfl⟩,?_⟩
  ·have:j=0:=by have:j<1:=hj; omega
   subst this
   exact⟨by decide,by decide⟩
  rintro _ rfl
  rw [if_pos trivial]
  simp only [al_v]
  exact⟨(),by simp [SA4],⟨zD _,zD _,trivial,zD _,trivial⟩,by kernel_rfl,Nat.zero_le _⟩
 show qD none Tryz.prog Tryz.f18 O 0 w0 [] _ _ LA4 _
 refine zb.cutL (ι:=Unit) LA4 1 0 (fun _=>SA5) (fun _=>HA5) (by kernel_rfl) (by kernel_rfl) ?_ fun _=> ?_
 ·refine zb.run hmix vO [0,1,2,3,4,5,6,7,8] 400 (T:=.ex (fun(x:SpA)=>eqL [AV.str #[(65:UInt8),(67:UInt8),(77:UInt8),(69:UInt8)].toList,AV.int .i64 10,AV.str #[(51:UInt8),(47:UInt8),(50:UInt8)].toList] [AV.str (SpA.n x),AV.int .i64 (SpA.d x),AV.str (SpA.r x)]∧List.length (SpA.n x)<274877906944∧List.length (SpA.r x)<274877906944) fun n=>.all (fun(x:Unit)=>True) fun n_1=>.leaf (.back 0 [(0,.bool false),(1,.ptr 0 0),(2,.int .i64 0),(3,.ptr 1 0),(4,.int .i64 0),(5,.ptr 3 0),(6,.int .i64 0),(7,.ptr 4 0),(8,.int .i64 (if Ca.ok (divA (SpA.n n) (SpA.d n) (SpA.r n))=true then(0:Int) else(8:Int)))] [.box [.str [(65:UInt8),(67:UInt8),(77:UInt8),(69:UInt8)],.str [(65:UInt8),(67:UInt8),(77:UInt8),(69:UInt8)],.int .i64 10,.str [(50:UInt8)],.str [(48:UInt8)]],.box [.int .u8 5,.str w1.rat,.str w1.name,.int .i64 0,.sl 2 5 w1.deep],.dead,.box [.sl 1 3 (fxG [{ name:=acme,date:=(12:Int),value:=[(51:UInt8),(54:UInt8)] }]),.sl 0 4 (chG [])],.box [.str (Ca.name (Ca.out (divA (SpA.n n) (SpA.d n) (SpA.r n)))),.str (Ca.into (Ca.out (divA (SpA.n n) (SpA.d n) (SpA.r n)))),.int .i64 (Ca.date (Ca.out (divA (SpA.n n) (SpA.d n) (SpA.r n)))),.str (Ca.ratio (Ca.out (divA (SpA.n n) (SpA.d n) (SpA.r n)))),.str (Ca.extra (Ca.out (divA (SpA.n n) (SpA.d n) (SpA.r n))))]])) (by kernel_rfl) ?_
  simp only [Tree.holds,zd]
  refine⟨⟨acme,10,[51,47,50]⟩,⟨⟨rfl,⟨rfl,rfl⟩,rfl,trivial⟩,by decide,by decide⟩,?_⟩
  have e8:(if(divA acme 10 [51,47,50]).ok=true then(0:Int) else 8)=0:=if_pos zgh
  simp only [zk6,e8]
  refine⟨⟨(),trivial⟩,fun _ _=> ?_⟩
  rw [if_pos trivial]
  exact⟨(),by simp [SA5,SA4],⟨zD _,zD _,trivial,zD _,zD _,trivial⟩,by kernel_rfl,Nat.zero_le _⟩
 show qD none Tryz.prog Tryz.f18 O 0 w0 [] _ _ LA5 _
 refine zb.cutL (ι:=Unit) LA5 1 0 (fun _=>SA6) (fun _=>HA6) (by kernel_rfl) (by kernel_rfl) ?_ fun _=> ?_
 ·refine zb.run hmix vO [0,1,2,3,4,5,6,7,8,9,10] 400 (T:=.all (fun(x:Bool)=>True) fun n=>.ite n (.ex (fun(x:Unit)=>eqL [] []∧True) fun n=>.all (fun(x:Unit)=>True) fun n=>.all (fun(x:Bool)=>True) fun n=>.ite n (.ex (fun(x:Ca×Ex)=>eqL [AV.agg [AV.str [(65:UInt8),(67:UInt8),(77:UInt8),(69:UInt8)],AV.str [(65:UInt8),(67:UInt8),(77:UInt8),(69:UInt8)],AV.int .i64 10,AV.str [(49:UInt8)],AV.str [(51:UInt8),(47:UInt8),(50:UInt8)]],AV.agg [AV.int .u8 3,AV.str [],AV.str [(65:UInt8),(67:UInt8),(77:UInt8),(69:UInt8)],AV.int .i64 0,AV.nils]] [AV.agg [AV.str (Ca.name x.1),AV.str (Ca.into x.1),AV.int .i64 (Ca.date x.1),AV.str (Ca.ratio x.1),AV.str (Ca.extra x.1)],AV.agg [AV.int .u8 x.2.kind,AV.str x.2.rat,AV.str x.2.name,AV.int .i64 x.2.date,AV.sl x.2.sub.length 5 (Ex.exG x.2.sub)]]∧qZ x.1∧Ex.size x.2<1048576∧Ex.zp x.2<1073741824) fun n=>.all (fun(x:Unit)=>True) fun n_1=>.leaf (.back 0 [(0,.bool false),(1,.ptr 0 0),(2,.int .i64 0),(3,.ptr 1 0),(4,.int .i64 0),(5,.ptr 3 0),(6,.int .i64 0),(7,.ptr 4 0),(8,.int .i64 0),(9,.ptr 5 0),(10,.int .i64 (Prod.snd (Ca.expr n.1 n.2)))] [.box [.str [(65:UInt8),(67:UInt8),(77:UInt8),(69:UInt8)],.str [(65:UInt8),(67:UInt8),(77:UInt8),(69:UInt8)],.int .i64 10,.str [(50:UInt8)],.str [(48:UInt8)]],.box [.int .u8 5,.str w1.rat,.str w1.name,.int .i64 0,.sl 2 5 w1.deep],.dead,.box [.sl 1 3 (fxG [{ name:=acme,date:=(12:Int),value:=[(51:UInt8),(54:UInt8)] }]),.sl 0 4 (chG [])],.box [.str [(65:UInt8),(67:UInt8),(77:UInt8),(69:UInt8)],.str [(65:UInt8),(67:UInt8),(77:UInt8),(69:UInt8)],.int .i64 10,.str [(49:UInt8)],.str [(51:UInt8),(47:UInt8),(50:UInt8)]],.box [.int .u8 (Ex.kind (Prod.fst (Ca.expr n.1 n.2))),.str (Ex.rat (Prod.fst (Ca.expr n.1 n.2))),.str (Ex.name (Prod.fst (Ca.expr n.1 n.2))),.int .i64 (Ex.date (Prod.fst (Ca.expr n.1 n.2))),.sl (List.length (Ex.sub (Prod.fst (Ca.expr n.1 n.2)))) 5 (Ex.deep (Prod.fst (Ca.expr n.1 n.2)))]])) (.ex (fun(x:Ca×Ex)=>eqL [AV.agg [AV.str [(65:UInt8),(67:UInt8),(77:UInt8),(69:UInt8)],AV.str [(65:UInt8),(67:UInt8),(77:UInt8),(69:UInt8)],AV.int .i64 10,AV.str [(49:UInt8)],AV.str [(51:UInt8),(47:UInt8),(50:UInt8)]],AV.agg [AV.int .u8 3,AV.str [],AV.str [(65:UInt8),(67:UInt8),(77:UInt8),(69:UInt8)],AV.int .i64 0,AV.nils]] [AV.agg [AV.str (Ca.name x.1),AV.str (Ca.into x.1),AV.int .i64 (Ca.date x.1),AV.str (Ca.ratio x.1),AV.str (Ca.extra x.1)],AV.agg [AV.int .u8 x.2.kind,AV.str x.2.rat,AV.str x.2.name,AV.int .i64 x.2.date,AV.sl x.2.sub.length 5 (Ex.exG x.2.sub)]]∧qZ x.1∧Ex.size x.2<1048576∧Ex.zp x.2<1073741824) fun n=>.all (fun(x:Unit)=>True) fun n_1=>.leaf (.back 0 [(0,.bool false),(1,.ptr 0 0),(2,.int .i64 0),(3,.ptr 1 0),(4,.int .i64 0),(5,.ptr 3 0),(6,.int .i64 0),(7,.ptr 4 0),(8,.int .i64 0),(9,.ptr 5 0),(10,.int .i64 (Prod.snd (Ca.expr n.1 n.2)))] [.box [.str [(65:UInt8),(67:UInt8),(77:UInt8),(69:UInt8)],.str [(65:UInt8),(67:UInt8),(77:UInt8),(69:UInt8)],.int .i64 10,.str [(50:UInt8)],.str [(48:UInt8)]],.box [.int .u8 5,.str w1.rat,.str w1.name,.int .i64 0,.sl 2 5 w1.deep],.dead,.box [.sl 1 3 (fxG [{ name:=acme,date:=(12:Int),value:=[(51:UInt8),(54:UInt8)] }]),.sl 0 4 (chG [])],.box [.str [(65:UInt8),(67:UInt8),(77:UInt8),(69:UInt8)],.str [(65:UInt8),(67:UInt8),(77:UInt8),(69:UInt8)],.int .i64 10,.str [(49:UInt8)],.str [(51:UInt8),(47:UInt8),(50:UInt8)]],.box [.int .u8 (Ex.kind (Prod.fst (Ca.expr n.1 n.2))),.str (Ex.rat (Prod.fst (Ca.expr n.1 n.2))),.str (Ex.name (Prod.fst (Ca.expr n.1 n.2))),.int .i64 (Ex.date (Prod.fst (Ca.expr n.1 n.2))),.sl (List.length (Ex.sub (Prod.fst (Ca.expr n.1 n.2)))) 5 (Ex.deep (Prod.fst (Ca.expr n.1 n.2)))]]))) (.ex (fun(x:Unit)=>eqL [] []∧True) fun n=>.all (fun(x:Unit)=>True) fun n=>.ex (fun(x:Ca×Ex)=>eqL [AV.agg [AV.str [(65:UInt8),(67:UInt8),(77:UInt8),(69:UInt8)],AV.str [(65:UInt8),(67:UInt8),(77:UInt8),(69:UInt8)],AV.int .i64 10,AV.str [(49:UInt8)],AV.str [(51:UInt8),(47:UInt8),(50:UInt8)]],AV.agg [AV.int .u8 3,AV.str [],AV.str [(65:UInt8),(67:UInt8),(77:UInt8),(69:UInt8)],AV.int .i64 0,AV.nils]] [AV.agg [AV.str (Ca.name x.1),AV.str (Ca.into x.1),AV.int .i64 (Ca.date x.1),AV.str (Ca.ratio x.1),AV.str (Ca.extra x.1)],AV.agg [AV.int .u8 x.2.kind,AV.str x.2.rat,AV.str x.2.name,AV.int .i64 x.2.date,AV.sl x.2.sub.length 5 (Ex.exG x.2.sub)]]∧qZ x.1∧Ex.size x.2<1048576∧Ex.zp x.2<1073741824) fun n=>.all (fun(x:Unit)=>True) fun n_1=>.leaf (.back 0 [(0,.bool false),(1,.ptr 0 0),(2,.int .i64 0),(3,.ptr 1 0),(4,.int .i64 0),(5,.ptr 3 0),(6,.int .i64 0),(7,.ptr 4 0),(8,.int .i64 0),(9,.ptr 5 0),(10,.int .i64 (Prod.snd (Ca.expr n.1 n.2)))] [.box [.str [(65:UInt8),(67:UInt8),(77:UInt8),(69:UInt8)],.str [(65:UInt8),(67:UInt8),(77:UInt8),(69:UInt8)],.int .i64 10,.str [(50:UInt8)],.str [(48:UInt8)]],.box [.int .u8 5,.str w1.rat,.str w1.name,.int .i64 0,.sl 2 5 w1.deep],.dead,.box [.sl 1 3 (fxG [{ name:=acme,date:=(12:Int),value:=[(51:UInt8),(54:UInt8)] }]),.sl 0 4 (chG [])],.box [.str [(65:UInt8),(67:UInt8),(77:UInt8),(69:UInt8)],.str [(65:UInt8),(67:UInt8),(77:UInt8),(69:UInt8)],.int .i64 10,.str [(49:UInt8)],.str [(51:UInt8),(47:UInt8),(50:UInt8)]],.box [.int .u8 (Ex.kind (Prod.fst (Ca.expr n.1 n.2))),.str (Ex.rat (Prod.fst (Ca.expr n.1 n.2))),.str (Ex.name (Prod.fst (Ca.expr n.1 n.2))),.int .i64 (Ex.date (Prod.fst (Ca.expr n.1 n.2))),.sl (List.length (Ex.sub (Prod.fst (Ca.expr n.1 n.2)))) 5 (Ex.deep (Prod.fst (Ca.expr n.1 n.2)))]]))) (by kernel_rfl) ?_
  simp only [Tree.holds,zd]
  repeat' first
   | apply VO
   | apply Yg
   | apply UD aDiv ug zo8 ZA ht2 (by decide) (by decide)
  all_goals
   simp only [zom]
   rw [if_pos trivial]
  all_goals exact⟨(),by simp [SA6,SA4],⟨zD _,zD _,trivial,zD _,zD _,zD _,trivial⟩,by kernel_rfl,Nat.zero_le _⟩
 show qD none Tryz.prog Tryz.f18 O 0 w0 [] _ _ LA6 _
 refine zb.cutL (ι:=Unit) LA6 1 0 (fun _=>SA7) (fun _=>HA7) (by kernel_rfl) (by kernel_rfl) ?_ fun _=> ?_
 ·refine zb.run hmix vO [0,1,2,3,4,5,6,7,8,9,10,11] 400 (T:=.ex (fun(x:List UInt8)=>eqL [AV.str #[(50:UInt8)].toList] [AV.str x]∧True) fun n=>.all (fun(x:Unit)=>True) fun n_1=>.ex (fun(x:Unit)=>eqL [] []∧True) fun n_2=>.all (fun(x:Unit)=>True) fun n_3=>.ex (fun(x:Int×Ex×Ex)=>eqL [AV.int .u8 6,AV.agg [AV.int .u8 1,AV.str n,AV.str [],AV.int .i64 0,AV.nils],AV.agg [AV.int .u8 3,AV.str [],AV.str [(65:UInt8),(67:UInt8),(77:UInt8),(69:UInt8)],AV.int .i64 0,AV.nils]] [AV.int .u8 x.1,AV.agg [AV.int .u8 x.2.1.kind,AV.str x.2.1.rat,AV.str x.2.1.name,AV.int .i64 x.2.1.date,AV.sl x.2.1.sub.length 5 (Ex.exG x.2.1.sub)],AV.agg [AV.int .u8 x.2.2.kind,AV.str x.2.2.rat,AV.str x.2.2.name,AV.int .i64 x.2.2.date,AV.sl x.2.2.sub.length 5 (Ex.exG x.2.2.sub)]]∧True) fun n=>.all (fun(x:Unit)=>True) fun n_4=>.ex (fun(x:List UInt8)=>eqL [AV.str #[(51:UInt8),(48:UInt8)].toList] [AV.str x]∧True) fun n_5=>.all (fun(x:Unit)=>True) fun n_6=>.ex (fun(x:Int×Ex×Ex)=>eqL [AV.int .u8 5,AV.agg [AV.int .u8 (Ex.kind (Ex.mk n.1 [] [] (0:Int) [n.2.1,n.2.2])),AV.str (Ex.rat (Ex.mk n.1 [] [] (0:Int) [n.2.1,n.2.2])),AV.str (Ex.name (Ex.mk n.1 [] [] (0:Int) [n.2.1,n.2.2])),AV.int .i64 (Ex.date (Ex.mk n.1 [] [] (0:Int) [n.2.1,n.2.2])),AV.sl (List.length (Ex.sub (Ex.mk n.1 [] [] (0:Int) [n.2.1,n.2.2]))) 5 (Ex.deep (Ex.mk n.1 [] [] (0:Int) [n.2.1,n.2.2]))],AV.agg [AV.int .u8 1,AV.str n_5,AV.str [],AV.int .i64 0,AV.nils]] [AV.int .u8 x.1,AV.agg [AV.int .u8 x.2.1.kind,AV.str x.2.1.rat,AV.str x.2.1.name,AV.int .i64 x.2.1.date,AV.sl x.2.1.sub.length 5 (Ex.exG x.2.1.sub)],AV.agg [AV.int .u8 x.2.2.kind,AV.str x.2.2.rat,AV.str x.2.2.name,AV.int .i64 x.2.2.date,AV.sl x.2.2.sub.length 5 (Ex.exG x.2.2.sub)]]∧True) fun n=>.all (fun(x:Unit)=>True) fun n_7=>.leaf (.back 0 [(0,.bool false),(1,.ptr 0 0),(2,.int .i64 0),(3,.ptr 1 0),(4,.int .i64 0),(5,.ptr 3 0),(6,.int .i64 0),(7,.ptr 4 0),(8,.int .i64 0),(9,.ptr 5 0),(10,.int .i64 0),(11,.ptr 6 0)] [.box [.str [(65:UInt8),(67:UInt8),(77:UInt8),(69:UInt8)],.str [(65:UInt8),(67:UInt8),(77:UInt8),(69:UInt8)],.int .i64 10,.str [(50:UInt8)],.str [(48:UInt8)]],.box [.int .u8 5,.str w1.rat,.str w1.name,.int .i64 0,.sl 2 5 w1.deep],.dead,.box [.sl 1 3 (fxG [{ name:=acme,date:=(12:Int),value:=[(51:UInt8),(54:UInt8)] }]),.sl 0 4 (chG [])],.box [.str [(65:UInt8),(67:UInt8),(77:UInt8),(69:UInt8)],.str [(65:UInt8),(67:UInt8),(77:UInt8),(69:UInt8)],.int .i64 10,.str [(49:UInt8)],.str [(51:UInt8),(47:UInt8),(50:UInt8)]],.box [.int .u8 4,.str w2.rat,.str w2.name,.int .i64 0,.sl 2 5 w2.deep],.box [.int .u8 (Ex.kind (Ex.mk n.1 [] [] (0:Int) [n.2.1,n.2.2])),.str (Ex.rat (Ex.mk n.1 [] [] (0:Int) [n.2.1,n.2.2])),.str (Ex.name (Ex.mk n.1 [] [] (0:Int) [n.2.1,n.2.2])),.int .i64 (Ex.date (Ex.mk n.1 [] [] (0:Int) [n.2.1,n.2.2])),.sl (List.length (Ex.sub (Ex.mk n.1 [] [] (0:Int) [n.2.1,n.2.2]))) 5 (Ex.deep (Ex.mk n.1 [] [] (0:Int) [n.2.1,n.2.2]))]])) (by kernel_rfl) ?_
  simp only [Tree.holds,zd]
  repeat' first
   | apply VO
   | apply Yg
   | apply zhj
   | apply zhv (yR [50]) ug ZA ZA
   | apply zhv (exOf 6 (yR [50]) ug) (yR [51,48]) (km _) ZA
  all_goals rw [if_pos trivial]
  all_goals exact⟨(),by simp [SA7,SA4],⟨zD _,zD _,trivial,zD _,zD _,zD _,zD _,trivial⟩,by kernel_rfl,Nat.zero_le _⟩
 show qD none Tryz.prog Tryz.f18 O 0 w0 [] _ _ LA7 _
 refine zb.run hmix vO [0,1,2,3,4,5,6,7,8,9,10,11] 400 (T:=.ex (fun(x:Ex×Ex)=>(bif decide ((0:Int)=0) then decide ((0:Int)=0) else false)=true→eqL [AV.agg [AV.int .u8 5,AV.str w1.rat,AV.str w1.name,AV.int .i64 0,AV.sl 2 5 w1.deep],AV.agg [AV.int .u8 5,AV.str w1.rat,AV.str w1.name,AV.int .i64 0,AV.sl 2 5 w1.deep]] [AV.agg [AV.int .u8 x.1.kind,AV.str x.1.rat,AV.str x.1.name,AV.int .i64 x.1.date,AV.sl x.1.sub.length 5 (Ex.exG x.1.sub)],AV.agg [AV.int .u8 x.2.kind,AV.str x.2.rat,AV.str x.2.name,AV.int .i64 x.2.date,AV.sl x.2.sub.length 5 (Ex.exG x.2.sub)]]∧Ex.size x.1<1152921504606846976) fun n=>.all (fun(x:Bool)=>(bif decide ((0:Int)=0) then decide ((0:Int)=0) else false)=true→(x=true↔n.1=n.2)) fun n=>.ite ((bif bif bif decide ((0:Int)=0) then decide ((0:Int)=0) else false then n else false then decide ((0:Int)=0) else false) == true) (.ex (fun(x:(List Fx×List Ch)×List Fx×List Ch)=>(bif bif bif decide ((0:Int)=0) then decide ((0:Int)=0) else false then n else false then decide ((0:Int)=0) else false)=true→eqL [AV.agg [AV.sl 1 3 (fxG [{ name:=acme,date:=(12:Int),value:=[(51:UInt8),(54:UInt8)] }]),AV.sl 0 4 (chG [])],AV.agg [AV.sl 1 3 (zg (zh 3 [AV.str #[(65:UInt8),(67:UInt8),(77:UInt8),(69:UInt8)].toList,AV.int .i64 12,AV.str #[(51:UInt8),(54:UInt8)].toList]) 0),AV.nils]] [AV.agg [AV.sl x.1.1.length 3 (fxG x.1.1),AV.sl x.1.2.length 4 (chG x.1.2)],AV.agg [AV.sl x.2.1.length 3 (fxG x.2.1),AV.sl x.2.2.length 4 (chG x.2.2)]]∧x.1.1.length<1099511627776∧x.1.2.length<1099511627776) fun n_1=>.all (fun(x:Bool)=>(bif bif bif decide ((0:Int)=0) then decide ((0:Int)=0) else false then n else false then decide ((0:Int)=0) else false)=true→(x=true↔n_1.1=n_1.2)) fun n_2=>.ex (fun(x:Unit)=>(bif bif bif bif bif bif decide ((0:Int)=0) then decide ((0:Int)=0) else false then n else false then decide ((0:Int)=0) else false then n_2 else false then decide ((0:Int)=0) else false then decide ((0:Int)=0) else false)=true→eqL [] []∧True) fun n_3=>.all (fun(x:Unit)=>(bif bif bif bif bif bif decide ((0:Int)=0) then decide ((0:Int)=0) else false then n else false then decide ((0:Int)=0) else false then n_2 else false then decide ((0:Int)=0) else false then decide ((0:Int)=0) else false)=true→True) fun n_4=>.ex (fun(x:List UInt8)=>(bif bif bif bif bif bif decide ((0:Int)=0) then decide ((0:Int)=0) else false then n else false then decide ((0:Int)=0) else false then n_2 else false then decide ((0:Int)=0) else false then decide ((0:Int)=0) else false)=true→eqL [AV.str #[(51:UInt8),(47:UInt8),(50:UInt8)].toList] [AV.str x]∧True) fun n_5=>.all (fun(x:Unit)=>(bif bif bif bif bif bif decide ((0:Int)=0) then decide ((0:Int)=0) else false then n else false then decide ((0:Int)=0) else false then n_2 else false then decide ((0:Int)=0) else false then decide ((0:Int)=0) else false)=true→True) fun n_6=>.ex (fun(x:Int×Ex×Ex)=>(bif bif bif bif bif bif decide ((0:Int)=0) then decide ((0:Int)=0) else false then n else false then decide ((0:Int)=0) else false then n_2 else false then decide ((0:Int)=0) else false then decide ((0:Int)=0) else false)=true→eqL [AV.int .u8 4,AV.agg [AV.int .u8 3,AV.str [],AV.str [(65:UInt8),(67:UInt8),(77:UInt8),(69:UInt8)],AV.int .i64 0,AV.nils],AV.agg [AV.int .u8 1,AV.str n_5,AV.str [],AV.int .i64 0,AV.nils]] [AV.int .u8 x.1,AV.agg [AV.int .u8 x.2.1.kind,AV.str x.2.1.rat,AV.str x.2.1.name,AV.int .i64 x.2.1.date,AV.sl x.2.1.sub.length 5 (Ex.exG x.2.1.sub)],AV.agg [AV.int .u8 x.2.2.kind,AV.str x.2.2.rat,AV.str x.2.2.name,AV.int .i64 x.2.2.date,AV.sl x.2.2.sub.length 5 (Ex.exG x.2.2.sub)]]∧True) fun n_7=>.all (fun(x:Unit)=>(bif bif bif bif bif bif decide ((0:Int)=0) then decide ((0:Int)=0) else false then n else false then decide ((0:Int)=0) else false then n_2 else false then decide ((0:Int)=0) else false then decide ((0:Int)=0) else false)=true→True) fun n_8=>.ex (fun(x:Ex×Ex)=>(bif bif bif bif bif bif decide ((0:Int)=0) then decide ((0:Int)=0) else false then n else false then decide ((0:Int)=0) else false then n_2 else false then decide ((0:Int)=0) else false then decide ((0:Int)=0) else false)=true→eqL [AV.agg [AV.int .u8 4,AV.str w2.rat,AV.str w2.name,AV.int .i64 0,AV.sl 2 5 w2.deep],AV.agg [AV.int .u8 (Ex.kind (Ex.mk n_7.1 [] [] (0:Int) [n_7.2.1,n_7.2.2])),AV.str (Ex.rat (Ex.mk n_7.1 [] [] (0:Int) [n_7.2.1,n_7.2.2])),AV.str (Ex.name (Ex.mk n_7.1 [] [] (0:Int) [n_7.2.1,n_7.2.2])),AV.int .i64 (Ex.date (Ex.mk n_7.1 [] [] (0:Int) [n_7.2.1,n_7.2.2])),AV.sl (List.length (Ex.sub (Ex.mk n_7.1 [] [] (0:Int) [n_7.2.1,n_7.2.2]))) 5 (Ex.deep (Ex.mk n_7.1 [] [] (0:Int) [n_7.2.1,n_7.2.2]))]] [AV.agg [AV.int .u8 x.1.kind,AV.str x.1.rat,AV.str x.1.name,AV.int .i64 x.1.date,AV.sl x.1.sub.length 5 (Ex.exG x.1.sub)],AV.agg [AV.int .u8 x.2.kind,AV.str x.2.rat,AV.str x.2.name,AV.int .i64 x.2.date,AV.sl x.2.sub.length 5 (Ex.exG x.2.sub)]]∧Ex.size x.1<1152921504606846976) fun n_9=>.all (fun(x:Bool)=>(bif bif bif bif bif bif decide ((0:Int)=0) then decide ((0:Int)=0) else false then n else false then decide ((0:Int)=0) else false then n_2 else false then decide ((0:Int)=0) else false then decide ((0:Int)=0) else false)=true→(x=true↔n_9.1=n_9.2)) fun n_10=>.leaf (.ret [.bool (bif bif bif bif bif bif bif decide ((0:Int)=0) then decide ((0:Int)=0) else false then n else false then decide ((0:Int)=0) else false then n_2 else false then decide ((0:Int)=0) else false then decide ((0:Int)=0) else false then n_10 else false)] [.box [.str [(65:UInt8),(67:UInt8),(77:UInt8),(69:UInt8)],.str [(65:UInt8),(67:UInt8),(77:UInt8),(69:UInt8)],.int .i64 10,.str [(50:UInt8)],.str [(48:UInt8)]],.box [.int .u8 5,.str w1.rat,.str w1.name,.int .i64 0,.sl 2 5 w1.deep],.dead,.box [.sl 1 3 (fxG [{ name:=acme,date:=(12:Int),value:=[(51:UInt8),(54:UInt8)] }]),.sl 0 4 (chG [])],.box [.str [(65:UInt8),(67:UInt8),(77:UInt8),(69:UInt8)],.str [(65:UInt8),(67:UInt8),(77:UInt8),(69:UInt8)],.int .i64 10,.str [(49:UInt8)],.str [(51:UInt8),(47:UInt8),(50:UInt8)]],.box [.int .u8 4,.str w2.rat,.str w2.name,.int .i64 0,.sl 2 5 w2.deep],.box [.int .u8 5,.str w1.rat,.str w1.name,.int .i64 0,.sl 2 5 w1.deep],.arr 1 3 (zh 3 [.str #[(65:UInt8),(67:UInt8),(77:UInt8),(69:UInt8)].toList,.int .i64 12,.str #[(51:UInt8),(54:UInt8)].toList])])) (.ex (fun(x:(List Fx×List Ch)×List Fx×List Ch)=>(bif bif bif decide ((0:Int)=0) then decide ((0:Int)=0) else false then n else false then decide ((0:Int)=0) else false)=true→eqL [AV.agg [AV.sl 1 3 (fxG [{ name:=acme,date:=(12:Int),value:=[(51:UInt8),(54:UInt8)] }]),AV.sl 0 4 (chG [])],AV.agg [AV.nils,AV.nils]] [AV.agg [AV.sl x.1.1.length 3 (fxG x.1.1),AV.sl x.1.2.length 4 (chG x.1.2)],AV.agg [AV.sl x.2.1.length 3 (fxG x.2.1),AV.sl x.2.2.length 4 (chG x.2.2)]]∧x.1.1.length<1099511627776∧x.1.2.length<1099511627776) fun n_1=>.all (fun(x:Bool)=>(bif bif bif decide ((0:Int)=0) then decide ((0:Int)=0) else false then n else false then decide ((0:Int)=0) else false)=true→(x=true↔n_1.1=n_1.2)) fun n_2=>.ex (fun(x:Unit)=>(bif bif bif bif bif bif decide ((0:Int)=0) then decide ((0:Int)=0) else false then n else false then decide ((0:Int)=0) else false then n_2 else false then decide ((0:Int)=0) else false then decide ((0:Int)=0) else false)=true→eqL [] []∧True) fun n_3=>.all (fun(x:Unit)=>(bif bif bif bif bif bif decide ((0:Int)=0) then decide ((0:Int)=0) else false then n else false then decide ((0:Int)=0) else false then n_2 else false then decide ((0:Int)=0) else false then decide ((0:Int)=0) else false)=true→True) fun n_4=>.ex (fun(x:List UInt8)=>(bif bif bif bif bif bif decide ((0:Int)=0) then decide ((0:Int)=0) else false then n else false then decide ((0:Int)=0) else false then n_2 else false then decide ((0:Int)=0) else false then decide ((0:Int)=0) else false)=true→eqL [AV.str #[(51:UInt8),(47:UInt8),(50:UInt8)].toList] [AV.str x]∧True) fun n_5=>.all (fun(x:Unit)=>(bif bif bif bif bif bif decide ((0:Int)=0) then decide ((0:Int)=0) else false then n else false then decide ((0:Int)=0) else false then n_2 else false then decide ((0:Int)=0) else false then decide ((0:Int)=0) else false)=true→True) fun n_6=>.ex (fun(x:Int×Ex×Ex)=>(bif bif bif bif bif bif decide ((0:Int)=0) then decide ((0:Int)=0) else false then n else false then decide ((0:Int)=0) else false then n_2 else false then decide ((0:Int)=0) else false then decide ((0:Int)=0) else false)=true→eqL [AV.int .u8 4,AV.agg [AV.int .u8 3,AV.str [],AV.str [(65:UInt8),(67:UInt8),(77:UInt8),(69:UInt8)],AV.int .i64 0,AV.nils],AV.agg [AV.int .u8 1,AV.str n_5,AV.str [],AV.int .i64 0,AV.nils]] [AV.int .u8 x.1,AV.agg [AV.int .u8 x.2.1.kind,AV.str x.2.1.rat,AV.str x.2.1.name,AV.int .i64 x.2.1.date,AV.sl x.2.1.sub.length 5 (Ex.exG x.2.1.sub)],AV.agg [AV.int .u8 x.2.2.kind,AV.str x.2.2.rat,AV.str x.2.2.name,AV.int .i64 x.2.2.date,AV.sl x.2.2.sub.length 5 (Ex.exG x.2.2.sub)]]∧True) fun n_7=>.all (fun(x:Unit)=>(bif bif bif bif bif bif decide ((0:Int)=0) then decide ((0:Int)=0) else false then n else false then decide ((0:Int)=0) else false then n_2 else false then decide ((0:Int)=0) else false then decide ((0:Int)=0) else false)=true→True) fun n_8=>.ex (fun(x:Ex×Ex)=>(bif bif bif bif bif bif decide ((0:Int)=0) then decide ((0:Int)=0) else false then n else false then decide ((0:Int)=0) else false then n_2 else false then decide ((0:Int)=0) else false then decide ((0:Int)=0) else false)=true→eqL [AV.agg [AV.int .u8 4,AV.str w2.rat,AV.str w2.name,AV.int .i64 0,AV.sl 2 5 w2.deep],AV.agg [AV.int .u8 (Ex.kind (Ex.mk n_7.1 [] [] (0:Int) [n_7.2.1,n_7.2.2])),AV.str (Ex.rat (Ex.mk n_7.1 [] [] (0:Int) [n_7.2.1,n_7.2.2])),AV.str (Ex.name (Ex.mk n_7.1 [] [] (0:Int) [n_7.2.1,n_7.2.2])),AV.int .i64 (Ex.date (Ex.mk n_7.1 [] [] (0:Int) [n_7.2.1,n_7.2.2])),AV.sl (List.length (Ex.sub (Ex.mk n_7.1 [] [] (0:Int) [n_7.2.1,n_7.2.2]))) 5 (Ex.deep (Ex.mk n_7.1 [] [] (0:Int) [n_7.2.1,n_7.2.2]))]] [AV.agg [AV.int .u8 x.1.kind,AV.str x.1.rat,AV.str x.1.name,AV.int .i64 x.1.date,AV.sl x.1.sub.length 5 (Ex.exG x.1.sub)],AV.agg [AV.int .u8 x.2.kind,AV.str x.2.rat,AV.str x.2.name,AV.int .i64 x.2.date,AV.sl x.2.sub.length 5 (Ex.exG x.2.sub)]]∧Ex.size x.1<1152921504606846976) fun n_9=>.all (fun(x:Bool)=>(bif bif bif bif bif bif decide ((0:Int)=0) then decide ((0:Int)=0) else false then n else false then decide ((0:Int)=0) else false then n_2 else false then decide ((0:Int)=0) else false then decide ((0:Int)=0) else false)=true→(x=true↔n_9.1=n_9.2)) fun n_10=>.leaf (.ret [.bool (bif bif bif bif bif bif bif decide ((0:Int)=0) then decide ((0:Int)=0) else false then n else false then decide ((0:Int)=0) else false then n_2 else false then decide ((0:Int)=0) else false then decide ((0:Int)=0) else false then n_10 else false)] [.box [.str [(65:UInt8),(67:UInt8),(77:UInt8),(69:UInt8)],.str [(65:UInt8),(67:UInt8),(77:UInt8),(69:UInt8)],.int .i64 10,.str [(50:UInt8)],.str [(48:UInt8)]],.box [.int .u8 5,.str w1.rat,.str w1.name,.int .i64 0,.sl 2 5 w1.deep],.dead,.box [.sl 1 3 (fxG [{ name:=acme,date:=(12:Int),value:=[(51:UInt8),(54:UInt8)] }]),.sl 0 4 (chG [])],.box [.str [(65:UInt8),(67:UInt8),(77:UInt8),(69:UInt8)],.str [(65:UInt8),(67:UInt8),(77:UInt8),(69:UInt8)],.int .i64 10,.str [(49:UInt8)],.str [(51:UInt8),(47:UInt8),(50:UInt8)]],.box [.int .u8 4,.str w2.rat,.str w2.name,.int .i64 0,.sl 2 5 w2.deep],.box [.int .u8 5,.str w1.rat,.str w1.name,.int .i64 0,.sl 2 5 w1.deep]]))) (by kernel_rfl) ?_
 simp only [Tree.holds,zd]
 refine⟨(w1,w1),fun _=>⟨⟨km w1,km w1,trivial⟩,by decide⟩,⟨true,fun _=>by simp⟩,fun r1 h1=> ?_⟩
 obtain rfl:r1=true:=(h1 rfl).2 rfl
 refine⟨fun _=> ?_,fun h=>absurd h (by decide)⟩
 refine⟨(([⟨acme,12,[51,54]⟩],[]),([⟨acme,12,[51,54]⟩],[])),fun _=>⟨⟨⟨⟨rfl,rfl,za _ _ _⟩,⟨rfl,rfl,za _ _ _⟩,trivial⟩,⟨⟨rfl,rfl,ziq (x:=⟨acme,12,[51,54]⟩)⟩,by simp,trivial⟩,trivial⟩,by decide,by decide⟩,⟨true,fun _=>by simp⟩,fun r2 h2=> ?_⟩
 obtain rfl:r2=true:=(h2 rfl).2 rfl
 refine⟨(),fun _=>⟨trivial,trivial⟩,⟨(),fun _=>trivial⟩,fun _ _=> ?_⟩
 refine⟨[51,47,50],fun _=>⟨⟨rfl,trivial⟩,trivial⟩,⟨(),fun _=>trivial⟩,fun _ _=> ?_⟩
 refine⟨(4,ug,yR [51,47,50]),fun _=>⟨⟨⟨rfl,rfl⟩,ZA,ZA,trivial⟩,trivial⟩,⟨(),fun _=>trivial⟩,fun _ _=> ?_⟩
 refine⟨(w2,w2),fun _=>⟨⟨km w2,km w2,trivial⟩,by decide⟩,⟨true,fun _=>by simp⟩,fun r3 h3=> ?_⟩
 obtain rfl:r3=true:=(h3 rfl).2 rfl
 exact RetR.scal hq rfl (by simp [resV])
def zm1:Ctr:=ctrP false (fun p:Ca×Con=>[p.1.av,p.2.conA]) (fun p=>qZ p.1∧p.2.big<2^26∧p.2.nodes≤1000000) (fun _ (_:Unit)=>True) (fun p _=>(.tup [(p.1.conv p.2).1.conD,.int .i64 (p.1.conv p.2).2],[]))
theorem Yv{a:Ca}{c:Con}(ha:qZ a)(h1:c.big<2^26):(Ca.whole a.chg c).big<2^39:=by
 obtain⟨_,a2,a3,a4⟩:=ha
 obtain⟨s1,s2⟩:=Ca.yy a c
 have:c.big*(a.into.length+a.ratio.length+a.extra.length)≤2^26*3000:=Nat.mul_le_mul (by omega) (by omega)
 omega
theorem VA{n:Int} : eqA2 (.tup [.agg [.int .u8 0,.str [],.str [],.str [],.int .u8 0,.str [],.str [],.int .i64 0,.nils,.int .i64 0,.nils,.nils],.int .i64 n]) (.tup [Con.nil.conD,.int .i64 n]):=by
 simp [eqA2,eqL1,Con.nil,Ex.nil,Con.conD,Con.outD,Con.dayS,Ex.exS,Con.kind,Con.src,Con.dst,Con.name,Con.x,Con.date,Con.days,Con.sub,Ex.kind,Ex.rat,Ex.name,Ex.date,Ex.sub]
noncomputable def K43:List Go.Sx.Item:=[.code (Tryz.f43.body.getD .skip)]
def HAw(a:Ca):Heap:=[.box [.str a.name,.str a.into,.int .i64 a.date,.str a.ratio,.str a.extra],.box [.fn 41 [] [.ptr 0 0,.ptr 1 0]]]
def wadC(n:Nat):Ctr:=ctrT false false (fun p:Ca×Con=>[p.2.conA,.ptr 0 0,.ptr 1 0]) (fun p=>HAw p.1) (fun p=>p.2.nodes<n∧p.2.big<2^38) (fun _ (_:Unit)=>True) (fun p _=>((Ca.whole p.1.adj p.2).conD,HAw p.1))
def zf6(n:Nat):Ctr:=ctrT false false (fun p:Ca×List Con=>[Con.conS p.2,.fn 41 [] [.ptr 0 0,.ptr 1 0]]) (fun p=>HAw p.1) (fun p=>Con.zC p.2<n∧Con.bigs p.2<2^38) (fun _ (_:Unit)=>True) (fun p _=>(Con.conS (p.2.map (Ca.whole p.1.adj)),HAw p.1))
def SMw(s:List Con)(i:Nat):KV:=[(1,.fn 41 [] [.ptr 0 0,.ptr 1 0]),(5,.osl 2 12 0 i),(8,Con.conS s),(9,.int .i64 (s.length:Int)),(10,.int .i64 (i:Int))]
def HMw(f:Con→Con)(a:Ca)(s:List Con)(i:Nat):Heap:=[.box [.str a.name,.str a.into,.int .i64 a.date,.str a.ratio,.str a.extra],.box [.fn 41 [] [.ptr 0 0,.ptr 1 0]],.arr i 12 (Con.conG (s.map f))]
theorem zl6(n:Nat)(ih:zc Tryz.prog 41 (wadC n)):zc Tryz.prog 43 (zf6 n):=by
 refine qM (fn:=Tryz.f43) (c:=Tryz.f43.body.getD .skip) rfl rfl rfl (fun h=>by cases h) fun p hp O w0 σ0 Q hl0 hq=> ?_
 obtain⟨a,s⟩:=p
 obtain⟨h1,h2⟩:=hp
 simp only at h1 h2
 replace hq:=hq () trivial
 have hlen:=Con.xA s
 refine zb.run hmix (qq ih) [1,5,8,9,10] 400 (T:=.leaf (.loop (Prod.fst (lps K43 0)) (Prod.snd (lps K43 0)) [(1,.fn 41 [] [.ptr 0 0,.ptr 1 0]),(5,.nils),(8,.sl s.length 12 (Con.conG s)),(9,.int .i64 s.length),(10,.int .i64 0)] [.box [.str (Ca.name a),.str (Ca.into a),.int .i64 (Ca.date a),.str (Ca.ratio a),.str (Ca.extra a)],.box [.fn 41 [] [.ptr 0 0,.ptr 1 0]]])) (by kernel_rfl) ?_
 simp only [Tree.holds,zd,inR,lo,hi,Int.toNat_natCast]
 show qD none Tryz.prog Tryz.f43 O 2 w0 σ0 _ _ _ _
 refine zb.bear 5 12 (Con.conG (s.map (Ca.whole a.adj))) rfl (by decide) (by kernel_rfl) ?_
 refine zb.loop (ι:={i:Nat // i≤s.length}) (fun i=>SMw s i.1) (fun i=>HMw (Ca.whole a.adj) a s i.1) (fun i=>s.length - i.1) ⟨0,Nat.zero_le _⟩ 0 ?_ ?_ (by kernel_rfl)
 ·exact⟨by simp [SMw,uE,Con.conS,za],by simp [HMw,HAw,za],by kernel_rfl,by show 2≤3; decide⟩
 ·rintro⟨i,hil⟩
  refine zb.run hmix (qq ih) [1,5,8,9,10] 400 (T:=.ite (decide ((↑i:Int)<s.length)) (.side ((0:Int)≤i∧(↑i:Int)<s.length) (.ex (fun(x:Ca×Con)=>eqL [(Con.conD (s.getD (↑i:Int).toNat Con.nil)),AV.ptr 0 0,AV.ptr 1 0] [(Con.conA x.2),AV.ptr 0 0,AV.ptr 1 0]∧eqH [.box [AV.str (Ca.name a),AV.str (Ca.into a),AV.int .i64 (Ca.date a),AV.str (Ca.ratio a),AV.str (Ca.extra a)],.box [AV.fn 41 [] [AV.ptr 0 0,AV.ptr 1 0]]] [.box [AV.str (Ca.name x.1),AV.str (Ca.into x.1),AV.int .i64 (Ca.date x.1),AV.str (Ca.ratio x.1),AV.str (Ca.extra x.1)],.box [AV.fn 41 [] [AV.ptr 0 0,AV.ptr 1 0]]]∧2=2∧Con.nodes x.2<n∧Con.big x.2<274877906944) fun n=>.all (fun(x:Unit)=>True) fun n_1=>.side (0=0∧i≤i∧(i+1)*184≤140737488355328) (.side (inR .i64 ((↑i:Int)+(1:Int))) (.leaf (.back 0 [(1,.fn 41 [] [.ptr 0 0,.ptr 1 0]),(5,.osl 2 12 0 (i+1)),(8,.sl s.length 12 (Con.conG s)),(9,.int .i64 s.length),(10,.int .i64 ((↑i:Int)+(1:Int)))] [.box [.str (Ca.name n.1),.str (Ca.into n.1),.int .i64 (Ca.date n.1),.str (Ca.ratio n.1),.str (Ca.extra n.1)],.box [.fn 41 [] [.ptr 0 0,.ptr 1 0]],.arr (i+1) 12 (appG i (Con.conG (List.map (Ca.whole (Ca.adj a)) s)) (zg (zh 12 (Con.qX (Ca.whole (Ca.adj n.1) n.2))) 0)),.box (Con.qX (s.getD (↑i:Int).toNat Con.nil)),.arr 1 12 (zh 12 (Con.qX (Ca.whole (Ca.adj n.1) n.2)))]))))) (.leaf (.ret [.osl 2 12 0 i] [.box [.str (Ca.name a),.str (Ca.into a),.int .i64 (Ca.date a),.str (Ca.ratio a),.str (Ca.extra a)],.box [.fn 41 [] [.ptr 0 0,.ptr 1 0]],.arr i 12 (Con.conG (List.map (Ca.whole (Ca.adj a)) s))]))) (by kernel_rfl) ?_
  simp only [Tree.holds,zd,inR,lo,hi,Int.toNat_natCast]
  refine⟨fun hlt=> ?_,fun hge=> ?_⟩
  ·have hlt:i<s.length:=by have:=of_decide_eq_true hlt; omega
   have hg:=Con.jD hlt
   have hg2:=Con.uk hlt
   have ha:eqH [.box [.str a.name,.str a.into,.int .i64 a.date,.str a.ratio,.str a.extra],.box [.fn 41 [] [.ptr 0 0,.ptr 1 0]]] [.box [.str a.name,.str a.into,.int .i64 a.date,.str a.ratio,.str a.extra],.box [.fn 41 [] [.ptr 0 0,.ptr 1 0]]]:=by simp
   refine⟨by omega,fun _=>⟨(a,s.getD i Con.nil),⟨⟨ke _,⟨rfl,rfl⟩,⟨rfl,rfl⟩,trivial⟩,ha,trivial,by show Con.nodes (s.getD i Con.nil)<n; omega,by show Con.big (s.getD i Con.nil)<_; omega⟩,⟨(),trivial⟩,?_⟩⟩
   intro _ _
   refine⟨⟨trivial,Nat.le_refl _,by omega⟩,fun _=>⟨by omega,fun _=> ?_⟩⟩
   rw [if_pos trivial]
   refine⟨⟨i+1,hlt⟩,by show s.length - (i+1)<s.length - i; omega,by simp [SMw,Con.conS,za],?_,by kernel_rfl,by show 2≤3; decide⟩
   refine⟨⟨rfl,rfl,⟨rfl,rfl⟩,rfl,rfl,trivial⟩,by simp,⟨rfl,rfl,Yr hlt⟩,trivial⟩
  ·have hge:i=(s.map (Ca.whole a.adj)).length:=by have:=of_decide_eq_false hge; simp; omega
   subst hge
   exact RetR.yO [0,1] rfl rfl (by show ∀ j,j<2→_; decide) rfl hq (LeA.sl rfl fun j o hj ho=>by simp only [zg,Nat.zero_add]; exact LeA.refl _) (by simp [expH,expB,exp1,exp0,ren0,HAw,HMw,zy]) rfl
noncomputable def GWd:Nat→Option Ctr:=fun f=>if f=38 then some (Zp) else if f=42 then some (US) else none
theorem znw:∀ g c,GWd g=some c→zc Tryz.prog g c:=okIf Z7 (okIf zc1 (zq))
noncomputable def GWdc(n:Nat):Nat→Option Ctr:=fun f=>if f=43 then some (zf6 n) else GWd f
theorem zkk{n:Nat}(h:zc Tryz.prog 43 (zf6 n)):∀ f c,GWdc n f=some c→zc Tryz.prog f c:=by
 intro f c hf
 simp only [GWdc] at hf
 split at hf
 ·rename_i hg; subst hg; cases hf; exact h
 ·exact znw f c hf
theorem zia(n:Nat)(ih:zc Tryz.prog 41 (wadC n)):zc Tryz.prog 41 (wadC (n+1)):=by
 refine qM (fn:=Tryz.f41) (c:=Tryz.f41.body.getD .skip) rfl rfl rfl (fun h=>by cases h) fun p hp O w0 σ0 Q hl0 hq=> ?_
 obtain⟨a,c⟩:=p
 obtain⟨h1,h2⟩:=hp
 simp only at h1 h2
 replace hq:=hq () trivial
 refine zb.run hmix (zkk (zl6 n ih)) [] 400 (T:=.ex (fun(x:Ca×Ex)=>eqL [AV.agg [AV.str (Ca.name a),AV.str (Ca.into a),AV.int .i64 (Ca.date a),AV.str (Ca.ratio a),AV.str (Ca.extra a)],(Ex.exA c.x)] [AV.agg [AV.str (Ca.name x.1),AV.str (Ca.into x.1),AV.int .i64 (Ca.date x.1),AV.str (Ca.ratio x.1),AV.str (Ca.extra x.1)],x.2.exA]∧Ex.size x.2<1099511627776) fun n_1=>.all (fun(x:Unit)=>True) fun n_2=>.ex (fun(x:List Int)=>eqL [AV.sl c.days.length 1 (Con.dayG c.days)] [AV.sl x.length 1 (Con.dayG x)]∧x.length<1099511627776) fun n_3=>.all (fun(x:Unit)=>True) fun n_4=>.ex (fun(x:Ca×List Con)=>eqL [AV.sl c.sub.length 12 (Con.conG c.sub),AV.fn 41 [] [AV.ptr 0 0,AV.ptr 1 0]] [AV.sl x.2.length 12 (Con.conG x.2),AV.fn 41 [] [AV.ptr 0 0,AV.ptr 1 0]]∧eqH [.box [AV.str (Ca.name a),AV.str (Ca.into a),AV.int .i64 (Ca.date a),AV.str (Ca.ratio a),AV.str (Ca.extra a)],.box [AV.fn 41 [] [AV.ptr 0 0,AV.ptr 1 0]]] [.box [AV.str (Ca.name x.1),AV.str (Ca.into x.1),AV.int .i64 (Ca.date x.1),AV.str (Ca.ratio x.1),AV.str (Ca.extra x.1)],.box [AV.fn 41 [] [AV.ptr 0 0,AV.ptr 1 0]]]∧2=2∧Con.zC x.2<n∧Con.bigs x.2<274877906944) fun n=>.all (fun(x:Unit)=>True) fun n_5=>.leaf (.ret [.agg [.int .u8 c.kind,.str c.src,.str c.dst,.str c.name,.int .u8 (Ex.kind (Ca.adj n_1.1 n_1.2)),.str (Ex.rat (Ca.adj n_1.1 n_1.2)),.str (Ex.name (Ca.adj n_1.1 n_1.2)),.int .i64 (Ex.date (Ca.adj n_1.1 n_1.2)),.sl (List.length (Ex.sub (Ca.adj n_1.1 n_1.2))) 5 (Ex.deep (Ca.adj n_1.1 n_1.2)),.int .i64 c.date,.osl 4 1 0 n_3.length,.sl (List.length (List.map (Ca.whole (Ca.adj n.1)) n.2)) 12 (Con.conG (List.map (Ca.whole (Ca.adj n.1)) n.2))]] [.box [.str (Ca.name n.1),.str (Ca.into n.1),.int .i64 (Ca.date n.1),.str (Ca.ratio n.1),.str (Ca.extra n.1)],.box [.fn 41 [] [.ptr 0 0,.ptr 1 0]],.box [.int .u8 c.kind,.str c.src,.str c.dst,.str c.name,.int .u8 (Ex.kind (Ca.adj n_1.1 n_1.2)),.str (Ex.rat (Ca.adj n_1.1 n_1.2)),.str (Ex.name (Ca.adj n_1.1 n_1.2)),.int .i64 (Ex.date (Ca.adj n_1.1 n_1.2)),.sl (List.length (Ex.sub (Ca.adj n_1.1 n_1.2))) 5 (Ex.deep (Ca.adj n_1.1 n_1.2)),.int .i64 c.date,.osl 4 1 0 n_3.length,.sl (List.length (List.map (Ca.whole (Ca.adj n.1)) n.2)) 12 (Con.conG (List.map (Ca.whole (Ca.adj n.1)) n.2))],.box [.int .u8 c.kind,.str c.src,.str c.dst,.str c.name,.int .u8 (Ex.kind (Ca.adj n_1.1 n_1.2)),.str (Ex.rat (Ca.adj n_1.1 n_1.2)),.str (Ex.name (Ca.adj n_1.1 n_1.2)),.int .i64 (Ex.date (Ca.adj n_1.1 n_1.2)),.sl (List.length (Ex.sub (Ca.adj n_1.1 n_1.2))) 5 (Ex.deep (Ca.adj n_1.1 n_1.2)),.int .i64 c.date,.osl 4 1 0 n_3.length,.sl (List.length (List.map (Ca.whole (Ca.adj n.1)) n.2)) 12 (Con.conG (List.map (Ca.whole (Ca.adj n.1)) n.2))],.arr n_3.length 1 (Con.dayG n_3)])) (by kernel_rfl) ?_
 simp only [Tree.holds,zd]
 have hb:=h2
 rw [Con.kC] at hb
 rw [Con.wM] at h1
 simp only [Ca.zfw] at hq
 have ha:eqA (.agg [.str a.name,.str a.into,.int .i64 a.date,.str a.ratio,.str a.extra]) a.av:=⟨rfl,rfl,⟨rfl,rfl⟩,rfl,rfl,trivial⟩
 refine⟨(a,c.x),⟨⟨ha,qy c.x,trivial⟩,by show c.x.size<_; omega⟩,⟨(),trivial⟩,fun _ _=> ?_⟩
 refine⟨c.days,⟨⟨⟨rfl,rfl,za _ _ _⟩,trivial⟩,by omega⟩,⟨(),trivial⟩,fun _ _=> ?_⟩
 refine⟨(a,c.sub),⟨⟨⟨rfl,rfl,za _ _ _⟩,by simp,trivial⟩,by simp,trivial,by show Con.zC c.sub<n; omega,by show Con.bigs c.sub<_; omega⟩,⟨(),trivial⟩,fun _ _=> ?_⟩
 exact RetR.yO [0,1] rfl rfl (by show ∀ j,j<2→_; decide) rfl hq (LeA.agg ⟨LeA.refl _,LeA.refl _,LeA.refl _,LeA.refl _,LeA.refl _,LeA.refl _,LeA.refl _,LeA.refl _,LeA.sl rfl fun j o hj ho=>by rw [Ex.zU _ j o hj ho]; exact LeA.refl _,LeA.refl _,LeA.sl rfl fun j o hj ho=>by simp only [zg,Nat.zero_add]; exact LeA.refl _,Con.jN (Con.mk c.kind c.src c.dst c.name (a.adj c.x) c.date c.days (c.sub.map (Ca.whole a.adj))),trivial⟩) (by simp [expH,expB,exp1,exp0,ren0,HAw,zy]) rfl
def on(a:Ca)(x:Ex):Bool:=a.onX x.kind x.name x.date
theorem zkx(n:Nat):zc Tryz.prog 41 (wadC n):=by
 induction n with
 | zero=>
  intro args hc Q hq _
  simp only [wadC,ctrT] at hq
  obtain⟨x,⟨_,_,_,h,_⟩,_⟩:=hq
  exact absurd h (Nat.not_lt_zero _)
 | succ n ih=>exact zia n ih
def YX:Ctr:=ctrT false false (fun p:Ca×Con=>[p.2.conA,.ptr 0 0,.ptr 1 0]) (fun p=>HAw p.1) (fun p=>p.2.big<2^38) (fun _ (_:Unit)=>True) (fun p _=>((Ca.whole p.1.adj p.2).conD,HAw p.1))
theorem zn5:zc Tryz.prog 41 YX:=by
 intro args hc Q hq hf
 simp only [YX,ctrT] at hq
 obtain⟨x,⟨h1,h2,h3,h4⟩,h5⟩:=hq
 exact zkx (x.2.nodes+1) args hc Q ⟨x,⟨h1,h2,h3,Nat.lt_succ_self _,h4⟩,h5⟩ hf
theorem zk4{c:Con}(h:c.errC=0):c.form=true:=by
 unfold Con.errC at h
 split at h
 ·simp at h
 ·split at h
  ·assumption
  ·simp at h
theorem zl3{r:Con}{x d s:AV}(hx:eqA0 x (Ex.exS r.x.sub))(hd:eqA0 d (Con.dayS r.days))(hs:eqA0 s (Con.conS r.sub)):eqA (r.outD x d s) r.conA:=
 ⟨⟨rfl,rfl⟩,rfl,rfl,rfl,⟨rfl,rfl⟩,rfl,rfl,⟨rfl,rfl⟩,hx,⟨rfl,rfl⟩,hd,hs,trivial⟩
noncomputable def K34:List Go.Sx.Item:=[.code (Tryz.f34.body.getD .skip)]
noncomputable def K35:List Go.Sx.Item:=[.code (Tryz.f35.body.getD .skip)]
theorem Con.ym:∀ s:List Con,s.length≤Con.zC s
 | []=>by simp
 | c::s=>by rw [Con.zC]; have:=Con.ym s; have:=Con.Zu c; simp; omega
def zaw(n:Nat):Ctr:=ctrP true (fun p:Con×Nat×Nat=>[p.1.conA,.int .i64 (p.2.1:Int),.int .i64 (p.2.2:Int)]) (fun p=>p.1.nodes<n∧p.2.1<2^40∧p.2.2<2^40)
 (fun p (r:Nat×Bool)=>1≤r.1∧r.1≤p.2.1+1∧(r.2=true→r.1≤p.2.1→r.1=p.1.nodes)) (fun _ (r:Nat×Bool)=>(.tup [.int .i64 (r.1:Int),.bool r.2],[]))
def SCk9(limit deep m i:Nat):KV:=[(1,.int .i64 (limit:Int)),(2,.int .i64 (deep:Int)),(3,.ptr 0 0),(8,.int .i64 (m:Int)),(9,.int .i64 (i:Int)),(20,.undef),(21,.undef),(22,.undef)]
theorem XC(n:Nat)(ih:zc Tryz.prog 34 (zaw n)):zc Tryz.prog 34 (zaw (n+1)):=by
 refine ze (fn:=Tryz.f34) (c:=Tryz.f34.body.getD .skip) rfl rfl rfl fun p hp O w0 Q hq=> ?_
 obtain⟨x,limit,deep⟩:=p
 obtain⟨hxn,hli,hde⟩:=hp
 simp only at hxn hli hde hq
 rw [Con.wM] at hxn hq
 have hlb:=Con.ym x.sub
 refine zb.run hmix (qq ih) [1,2,3,8,9,20,21,22] 400 (T:=.ite (decide ((↑deep:Int)=0)) (.leaf (.ret [.int .i64 1,.bool false] [.box (Con.zf x)])) (.leaf (.loop (Prod.fst (lps K34 0)) (Prod.snd (lps K34 0)) [(1,.int .i64 limit),(2,.int .i64 deep),(3,.ptr 0 0),(8,.int .i64 1),(9,.int .i64 0),(20,.undef),(21,.undef),(22,.undef)] [.box (Con.zf x)]))) (by kernel_rfl) ?_
 simp only [Tree.holds,zd]
 refine⟨fun h0=> ?_,fun h0=> ?_⟩
 ·exact RetR.scal (hq (1,false) ⟨Nat.le_refl _,by simp,fun h=>by cases h⟩) rfl (by simp [resV])
 ·have h0:0<deep:=by have:=of_decide_eq_false h0; omega
  refine zb.loop (ι:={q:Nat×Nat // q.1≤limit+1∧q.2<q.1∧q.2≤x.sub.length∧(q.1≤limit→q.1=1+Con.zC (x.sub.take q.2))}) (fun q=>SCk9 limit deep q.1.1 q.1.2) (fun _=>[.box x.zf]) (fun q=>x.sub.length - q.1.2) ⟨(1,0),by simp [Con.zC]⟩ 0 ?_ ?_ (by kernel_rfl)
  ·exact⟨by simp [SCk9],⟨zx x,trivial⟩,by kernel_rfl,Nat.zero_le _⟩
  ·rintro⟨⟨c,i⟩,h1,h2,h3,h4⟩
   simp only at h1 h2 h3 h4
   refine zb.run hmix (qq ih) [1,2,3,8,9,20,21,22] 400 (T:=.ite (bif decide ((↑i:Int)<(↑x.sub.length:Int)) then decide ((↑c:Int)≤limit) else false) (.side ((0:Int)≤i∧(↑i:Int)<(↑x.sub.length:Int)) (.side (inR .i64 ((↑limit:Int) - c)) (.side (inR .i64 ((↑deep:Int) - (1:Int))) (.ex (fun(x_1:Con×Nat×Nat)=>eqL [(Con.conD (List.getD x.sub (↑i:Int).toNat Con.nil)),AV.int .i64 ((↑limit:Int) - c),AV.int .i64 ((↑deep:Int) - (1:Int))] [(Con.conA x_1.1),AV.int .i64 x_1.2.1,AV.int .i64 x_1.2.2]∧Con.nodes x_1.1<n∧x_1.2.1<1099511627776∧x_1.2.2<1099511627776) fun n=>.all (fun(r:Nat×Bool)=>1≤r.1∧r.1≤n.2.1+1∧(r.2=true→r.1≤n.2.1→r.1=Con.nodes n.1)) fun n=>.ite (!Prod.snd n) (.leaf (.ret [.int .i64 c,.bool false] [.box (Con.zf x)])) (.side (inR .i64 ((↑c:Int)+n.1)) (.side (inR .i64 ((↑i:Int)+(1:Int))) (.leaf (.back 0 [(1,.int .i64 limit),(2,.int .i64 deep),(3,.ptr 0 0),(8,.int .i64 ((↑c:Int)+n.1)),(9,.int .i64 ((↑i:Int)+(1:Int))),(20,.undef),(21,.undef),(22,.undef)] [.box (Con.zf x)])))))))) (.leaf (.ret [.int .i64 c,.bool true] [.box (Con.zf x)]))) (by kernel_rfl) ?_
   simp only [Tree.holds,zd,inR,lo,hi,Int.toNat_natCast]
   refine⟨fun hlt=> ?_,fun hge=> ?_⟩
   ·have hlt1:i<x.sub.length∧c≤limit:=by
     by_cases g1:i<x.sub.length
     ·by_cases g2:c≤limit
      ·exact⟨g1,g2⟩
      ·rw [decide_eq_false (show ¬ (c:Int)≤limit by omega)] at hlt
       cases hx:decide ((i:Int)<x.sub.length)<;>rw [hx] at hlt<;>cases hlt
     ·rw [decide_eq_false (show ¬ (i:Int)<x.sub.length by omega)] at hlt
      cases hlt
    obtain⟨hlt,hcl⟩:=hlt1
    have hg:=Con.jD hlt
    have ht:=Con.Zy hlt
    have h4:=h4 hcl
    iterate 3 refine⟨by omega,fun _=> ?_⟩
    refine⟨(x.sub.getD i Con.nil,limit - c,deep - 1),⟨?_,by show(x.sub.getD i Con.nil).nodes<n; omega,by show limit - c<2^40; omega,by show deep - 1<2^40; omega⟩,⟨(1,false),Nat.le_refl _,by simp,fun h=>by cases h⟩,?_⟩
    ·have e1:(limit:Int) - c=((limit - c:Nat):Int):=by omega
     have e2:(deep:Int) - 1=((deep - 1:Nat):Int):=by omega
     rw [e1,e2]
     exact⟨ke _,⟨rfl,rfl⟩,⟨rfl,rfl⟩,trivial⟩
    rintro⟨m',b⟩ ⟨g1,g2,g3⟩
    simp only at g1 g2 g3
    refine⟨fun hb=> ?_,fun hb=> ?_⟩
    ·exact RetR.scal (hq (c,false) ⟨by show 1≤c; omega,by show c≤limit+1; omega,fun h=>by cases h⟩) rfl (by simp [resV])
    ·have hb:b=true:=by simpa using hb
     refine⟨by omega,fun _=>⟨by omega,fun _=> ?_⟩⟩
     rw [if_pos trivial]
     refine⟨⟨(c+m',i+1),?_,?_,hlt,?_⟩,by show x.sub.length - (i+1)<x.sub.length - i; omega,?_,⟨zx x,trivial⟩,by kernel_rfl,Nat.zero_le _⟩
     ·show c+m'≤limit+1; omega
     ·show i+1<c+m'; omega
     ·show c+m'≤limit→c+m'=1+Con.zC (x.sub.take (i+1))
      intro hle
      have:=g3 hb (by omega)
      omega
     ·simp [SCk9]
   ·refine RetR.scal (hq (c,true) ⟨by show 1≤c; omega,h1,fun _ hle=> ?_⟩) rfl (by simp [resV])
    simp only at hle
    have hge:i=x.sub.length:=by
     by_cases g1:i<x.sub.length
     ·rw [decide_eq_true (show(i:Int)<x.sub.length by omega),decide_eq_true (show(c:Int)≤limit by omega)] at hge
      cases hge
     ·omega
    have h4:=h4 hle
    rw [hge,List.take_length] at h4
    exact h4
def Wl:Ctr:=ctrP true (fun p:Con×Nat×Nat=>[p.1.conA,.int .i64 (p.2.1:Int),.int .i64 (p.2.2:Int)]) (fun p=>p.2.1<2^40∧p.2.2<2^40)
 (fun p (r:Nat×Bool)=>1≤r.1∧r.1≤p.2.1+1∧(r.2=true→r.1≤p.2.1→r.1=p.1.nodes)) (fun _ (r:Nat×Bool)=>(.tup [.int .i64 (r.1:Int),.bool r.2],[]))
theorem zbt:zc Tryz.prog 34 Wl:=qz (fun p=>p.1.nodes) XC
theorem Con.ziz{c:Con}(h:c.thin):c.src.length≤2^48∧c.dst.length≤2^48∧c.name.length≤2^48∧c.x.thin∧c.days.length≤2^48∧c.sub.length≤2^48∧Con.jY c.sub:=by
 cases c; rw [Con.thin] at h; exact h
def ZV(n:Nat):Ctr:=ctrP true (fun x:Con=>[x.conA]) (fun x=>x.nodes<n∧x.nodes≤1000∧x.thin) (fun x r=>r≤2^51+100000*x.nodes∧(r<100000→x.big≤3001*x.nodes+r)) (fun _ (r:Nat)=>(.int .i64 (r:Int),[]))
noncomputable def GWt0:Nat→Option Ctr:=fun f=>if f=7 then some (zhc) else if f=77 then some (ZP) else none
theorem zke:∀ g c,GWt0 g=some c→zc Tryz.prog g c:=okIf zbf (okIf zh3 (zq))
noncomputable def GWtc(n:Nat):Nat→Option Ctr:=fun f=>if f=35 then some (ZV n) else GWt0 f
theorem za1{n:Nat}(ih:zc Tryz.prog 35 (ZV n)):∀ g c,GWtc n g=some c→zc Tryz.prog g c:=fun g c h=>by
 unfold GWtc at h
 split at h
 ·rename_i e; cases h; subst e; exact ih
 ·exact zke g c h
def SWt(m i:Nat):KV:=[(1,.ptr 0 0),(3,.int .i64 (m:Int)),(4,.int .i64 (i:Int)),(34,.undef),(35,.undef)]
theorem Ya(n:Nat)(ih:zc Tryz.prog 35 (ZV n)):zc Tryz.prog 35 (ZV (n+1)):=by
 refine ze (fn:=Tryz.f35) (c:=Tryz.f35.body.getD .skip) rfl rfl rfl fun x hp O w0 Q hq=> ?_
 obtain⟨hxn,hle,hth⟩:=hp
 refine zb.run hmix (za1 ih) [1,3,4,34,35] 400 (T:=.ex (fun(x_1:Ex)=>eqL [(Ex.exA x.x)] [x_1.exA]∧Ex.thin x_1) fun n=>.all (fun(r:Bool)=>r=false→Ex.size n≤600∧Ex.zp n≤3000) fun n=>.ite n (.leaf (.ret [.int .i64 200000] [.box (Con.zf x)])) (.side (inR .i64 ((↑x.src.length:Int)+(↑x.dst.length:Int))) (.side (inR .i64 ((↑x.src.length:Int)+(↑x.dst.length:Int)+(↑x.name.length:Int))) (.side (inR .i64 ((↑x.src.length:Int)+(↑x.dst.length:Int)+(↑x.name.length:Int)+(↑x.days.length:Int))) (.ex (fun(x_1:Ex)=>eqL [(Ex.exA x.x)] [x_1.exA]∧Ex.size x_1<4611686018427387904) fun n=>.all (fun(r:Nat)=>r=Ex.size n) fun n=>.side (inR .i64 ((4:Int)*n)) (.side (inR .i64 ((↑x.src.length:Int)+(↑x.dst.length:Int)+(↑x.name.length:Int)+(↑x.days.length:Int)+(4:Int)*n)) (.leaf (.loop (Prod.fst (lps K35 0)) (Prod.snd (lps K35 0)) [(1,.ptr 0 0),(3,.int .i64 ((↑x.src.length:Int)+(↑x.dst.length:Int)+(↑x.name.length:Int)+(↑x.days.length:Int)+(4:Int)*n)),(4,.int .i64 0),(34,.undef),(35,.undef)] [.box (Con.zf x)])))))))) (by kernel_rfl) ?_
 simp only [Tree.holds,zd,inR,lo,hi,Int.toNat_natCast]
 obtain⟨t1,t2,t3,t4,t5,t6,t7⟩:=Con.ziz hth
 have hbig:=Con.kC x
 have hnod:=Con.wM x
 have hlb:=Con.ym x.sub
 refine⟨x.x,⟨⟨qy x.x,trivial⟩,t4⟩,⟨true,fun h=>by cases h⟩,fun b hb=>⟨fun h=> ?_,fun h=> ?_⟩⟩
 ·exact RetR.scal (hq 200000 ⟨by omega,fun h=>by omega⟩) rfl (by simp [resV])
 subst h
 obtain⟨b1,b2⟩:=hb rfl
 iterate 3 refine⟨by omega,fun _=> ?_⟩
 refine⟨x.x,⟨⟨qy x.x,trivial⟩,by omega⟩,⟨_,rfl⟩,?_⟩
 rintro _ rfl
 iterate 2 refine⟨by omega,fun _=> ?_⟩
 refine zb.loop (ι:={q:Nat×Nat // q.2≤x.sub.length∧q.1≤2^51+100000*(1+Con.zC (x.sub.take q.2))∧(q.1<100000→1+x.src.length+x.dst.length+x.name.length+x.days.length+x.x.size+x.x.zp+Con.bigs (x.sub.take q.2)≤3001*(1+Con.zC (x.sub.take q.2))+q.1)}) (fun q=>SWt q.1.1 q.1.2) (fun _=>[.box x.zf]) (fun q=>x.sub.length - q.1.2) ⟨(x.src.length+x.dst.length+x.name.length+x.days.length+4*x.x.size,0),Nat.zero_le _,by simp only [List.take_zero,Con.zC]; omega,by simp only [List.take_zero,Con.zC,Con.bigs]; omega⟩ 0 ?_ ?_ (by kernel_rfl)
 ·exact⟨by simp [SWt],⟨zx x,trivial⟩,by kernel_rfl,Nat.zero_le _⟩
 ·rintro⟨⟨m,i⟩,h1,h2,h3⟩
  simp only at h1 h2 h3
  refine zb.run hmix (za1 ih) [1,3,4,34,35] 400 (T:=.ite (bif decide ((↑i:Int)<(↑x.sub.length:Int)) then decide ((↑m:Int)<100000) else false) (.side ((0:Int)≤i∧(↑i:Int)<(↑x.sub.length:Int)) (.ex (fun(x_1:Con)=>eqL [(Con.conD (List.getD x.sub (↑i:Int).toNat Con.nil))] [(Con.conA x_1)]∧Con.nodes x_1<n∧Con.nodes x_1≤1000∧Con.thin x_1) fun n=>.all (fun(r:Nat)=>r≤2251799813685248+100000*Con.nodes n∧(r<100000→Con.big n≤3001*Con.nodes n+r)) fun n=>.side (inR .i64 ((↑m:Int)+n)) (.side (inR .i64 ((↑i:Int)+(1:Int))) (.leaf (.back 0 [(1,.ptr 0 0),(3,.int .i64 ((↑m:Int)+n)),(4,.int .i64 ((↑i:Int)+(1:Int))),(34,.undef),(35,.undef)] [.box (Con.zf x)]))))) (.leaf (.ret [.int .i64 m] [.box (Con.zf x)]))) (by kernel_rfl) ?_
  simp only [Tree.holds,zd,inR,lo,hi,Int.toNat_natCast]
  have hlt2:=Con.zbv x.sub i
  refine⟨fun hlt=> ?_,fun hge=> ?_⟩
  ·have hlt1:i<x.sub.length∧m<100000:=by
    by_cases g1:i<x.sub.length
    ·by_cases g2:m<100000
     ·exact⟨g1,g2⟩
     ·rw [decide_eq_false (show ¬ (m:Int)<100000 by omega)] at hlt
      cases hx:decide ((i:Int)<x.sub.length)<;>rw [hx] at hlt<;>cases hlt
    ·rw [decide_eq_false (show ¬ (i:Int)<x.sub.length by omega)] at hlt
     cases hlt
   obtain⟨hlt,hm⟩:=hlt1
   have h3:=h3 hm
   have e1:=Con.jD hlt
   have e2:=Con.Zy hlt
   have e3:=Con.zcn hlt
   refine⟨by omega,fun _=>⟨x.sub.getD i Con.nil,⟨⟨ke _,trivial⟩,by omega,by omega,Con.Zc hlt t7⟩,⟨200000,by omega,fun h=>by omega⟩,?_⟩⟩
   intro r hr
   obtain⟨r1,r2⟩:=hr
   refine⟨by omega,fun _=>⟨by omega,fun _=> ?_⟩⟩
   rw [if_pos trivial]
   refine⟨⟨(m+r,i+1),hlt,by simp only; omega,fun hlt2=> ?_⟩,by show x.sub.length - (i+1)<x.sub.length - i; omega,by simp [SWt],⟨zx x,trivial⟩,by kernel_rfl,Nat.zero_le _⟩
   simp only at hlt2 ⊢
   have:=r2 (by omega)
   omega
  ·refine RetR.scal (hq m ⟨by omega,fun hm=> ?_⟩) rfl (by simp [resV])
   have hge:i=x.sub.length:=by
    by_cases g1:i<x.sub.length
    ·rw [decide_eq_true (show(i:Int)<x.sub.length by omega),decide_eq_true (show(m:Int)<100000 by omega)] at hge
     cases hge
    ·omega
   have h3:=h3 hm
   rw [hge,List.take_length] at h3
   omega
def JP:Ctr:=ctrP true (fun x:Con=>[x.conA]) (fun x=>x.nodes≤1000∧x.thin) (fun x r=>r≤2^51+100000*x.nodes∧(r<100000→x.big≤3001*x.nodes+r)) (fun _ (r:Nat)=>(.int .i64 (r:Int),[]))
theorem zcd:zc Tryz.prog 35 JP:=qz Con.nodes Ya
def zh9:Ctr:=ctrP true (fun x:Con=>[x.conA]) (fun x=>x.thin) (fun x r=>r=false→x.nodes≤600∧x.big≤1900000) (fun _ (r:Bool)=>(.bool r,[]))
noncomputable def GGk:Nat→Option Ctr:=fun f=>if f=34 then some (Wl) else if f=35 then some (JP) else none
theorem zn4:∀ g c,GGk g=some c→zc Tryz.prog g c:=okIf zbt (okIf zcd (zq))
theorem zbj:zc Tryz.prog 8 zh9:=by
 refine ze (fn:=Tryz.f8) (c:=Tryz.f8.body.getD .skip) rfl rfl rfl fun x hx O w0 Q hq=> ?_
 refine zb.run hmix zn4 [] 400 (T:=.ex (fun(x_1:Con×Nat×Nat)=>eqL [(Con.conA x),AV.int .i64 600,AV.int .i64 100] [(Con.conA x_1.1),AV.int .i64 x_1.2.1,AV.int .i64 x_1.2.2]∧x_1.2.1<1099511627776∧x_1.2.2<1099511627776) fun n=>.all (fun(r:Nat×Bool)=>1≤r.1∧r.1≤n.2.1+1∧(r.2=true→r.1≤n.2.1→r.1=Con.nodes n.1)) fun n=>.ex (fun(x_1:Con)=>(bif !Prod.snd n then true else decide ((600:Int)<n.1))=false→eqL [(Con.conA x)] [(Con.conA x_1)]∧Con.nodes x_1≤1000∧Con.thin x_1) fun n_1=>.all (fun(x:Nat)=>(bif !Prod.snd n then true else decide ((600:Int)<n.1))=false→x≤2251799813685248+100000*Con.nodes n_1∧(x<100000→Con.big n_1≤3001*Con.nodes n_1+x)) fun n_2=>.leaf (.ret [.bool (bif bif !Prod.snd n then true else decide ((600:Int)<n.1) then true else decide ((12000:Int)<n_2))] [.box (Con.zf x)])) (by kernel_rfl) ?_
 simp only [Tree.holds,zd,inR,lo,hi,Int.toNat_natCast]
 refine⟨(x,600,100),⟨⟨zG x,⟨rfl,rfl⟩,⟨rfl,rfl⟩,trivial⟩,by show 600<1099511627776; omega,by show 100<1099511627776; omega⟩,⟨(1,false),Nat.le_refl _,by show 1≤600+1; omega,fun h=>by cases h⟩,?_⟩
 rintro⟨c,b⟩ ⟨g1,g2,g3⟩
 simp only at g1 g2 g3
 have hsz:(bif !b then true else decide (600<(c:Int)))=false→x.nodes≤600:=by
  intro h
  cases b with
  | false=>cases h
  | true=>
   have h:¬ 600<(c:Int):=of_decide_eq_false h
   have:=g3 rfl (by omega)
   omega
 refine⟨x,fun h=>⟨⟨zG x,trivial⟩,by have:=hsz h; omega,hx⟩,⟨200000,fun _=>⟨by omega,fun h=>by omega⟩⟩,?_⟩
 intro c2 hc2
 refine RetR.scal (hq (bif (bif !b then true else decide (600<(c:Int))) then true else decide (12000<(c2:Int))) fun h=> ?_) rfl (by simp [resV])
 cases ht:(bif !b then true else decide (600<(c:Int))) with
 | true=>rw [ht] at h; cases h
 | false=>
  rw [ht] at h
  obtain⟨_,h2⟩:=hc2 ht
  have h:¬ 12000<(c2:Int):=of_decide_eq_false h
  have h3:=h2 (by omega)
  have h4:=hsz ht
  refine⟨h4,?_⟩
  omega
end Go.Proofs.Tryz
end
section
namespace Go.Nov
open Go.Sx
namespace Ca
def more(a:Ca):Nat:=(if a.ratio=[49] then 0 else 2)+(if a.extra=[48] then 0 else 2)
mutual
def grow(a:Ca):Ex→Nat
 | .mk k r n d s=>if a.onX k n d=true then a.more else XB a s
def XB(a:Ca):List Ex→Nat
 | []=>0
 | x::l=>grow a x+XB a l
end
theorem KH{a:Ca}{k d:Int}{n:List UInt8}(h:a.onX k n d=true):k=3∨k=2:=by
 simp [onX] at h
 rcases h.2 with h1 | h1
 ·exact .inl h1
 ·exact .inr h1.1
mutual
theorem zhh(a:Ca):∀ x:Ex,x.zK≠0→(chg a x).size=x.size+grow a x
 | .mk k r n d s,h=>by
  rw [Ex.zK] at h
  rw [chg,grow]
  by_cases hh:a.onX k n d=true
  ·rw [if_pos hh,if_pos hh]
   obtain⟨_,h2⟩:=kE h (KH hh)
   have:s=[]:=by
    cases s with
    | nil=>rfl
    | cons x s=>rw [Ex.zY] at h2; cases h2
   subst this
   unfold rel more
   split<;>split<;>simp [Tm.opx,Tm.kon,Ex.size,Ex.zo]
  ·rw [if_neg hh,if_neg hh]
   simp only [Ex.size]
   rw [JT a s (Q8 h)]
   omega
theorem JT(a:Ca):∀ s:List Ex,(∀ p∈Ex.zY s,p≠0)→Ex.zo (chgs a s)=Ex.zo s+XB a s
 | [],_=>by rw [chgs,XB]; rfl
 | x::s,h=>by
  rw [Ex.zY] at h
  rw [chgs,XB]
  simp only [Ex.zo]
  rw [zhh a x (h _ (by simp)),JT a s (fun p hp=>h p (by simp [hp]))]
  omega
end
theorem zh4{a:Ca}{f:List Fx}{c:List Ch}(h:a.ok=true)(he:errE f c=0)(h0:a.err f=0)(hlen:(a.kept f).length+(a.fresh f).length≤1000) :
  ∀ k,k≤(a.fresh f).length→errE (a.join (a.kept f) ((a.fresh f).take k)) c=0:=by
 obtain⟨h1,h2,h3,h4,h5⟩:=xe.1 he
 obtain⟨f1,f2⟩:=zes h he h0
 obtain⟨k1,k2⟩:=UE (a:=a) he
 obtain⟨g1,g2⟩:=zfn (a:=a) k2
 have hlo:∀ w∈(a.kept f).take (a.at_ (a.kept f)),∀ x∈a.fresh f,cmpF w x<0:=by
  intro w hw x hx
  obtain⟨_,e1,e2⟩:=f1 x hx
  have hb:=g1 w hw
  rw [wD,e1]
  rcases Vz w.name a.name with ht | ht | ht
  ·exact .inl ht
  ·right
   refine⟨ht,?_⟩
   rcases(k1 w (List.mem_of_mem_take hw)).2 with h6 | h6
   ·exact absurd ht h6
   ·omega
  ·rw [ht] at hb; cases hb
 have hhi:∀ w∈(a.kept f).drop (a.at_ (a.kept f)),∀ x∈a.fresh f,cmpF x w<0:=by
  intro w hw x hx
  obtain⟨_,e1,e2⟩:=f1 x hx
  rw [wD,e1]
  exact .inl (g2 w hw)
 intro k hk
 have hjl:(a.join (a.kept f) ((a.fresh f).take k)).length=(a.kept f).length+k:=by
  have:=UR (a:=a) (l:=a.kept f)
  unfold join
  simp only [List.length_append,List.length_take,List.length_drop]
  omega
 refine xe.2 ⟨by omega,?_,h3,zhy zhq ?_,h5⟩
 ·rw [List.all_eq_true]
  intro w hw
  unfold join at hw
  simp only [List.mem_append] at hw
  rcases hw with (hw | hw) | hw
  ·exact(k1 w (List.mem_of_mem_take hw)).1
  ·exact(f1 w (List.mem_of_mem_take hw)).1
  ·exact(k1 w (List.mem_of_mem_drop hw)).1
 ·unfold join
  rw [List.pairwise_append]
  refine⟨?_,k2.sublist (List.drop_sublist _ _),?_⟩
  ·rw [List.pairwise_append]
   exact⟨k2.sublist (List.take_sublist _ _),f2.sublist (List.take_sublist _ _),fun w hw x hx=>hlo w hw x (List.mem_of_mem_take hx)⟩
  ·intro w hw x hx
   rcases List.mem_append.1 hw with hw | hw
   ·have e:a.kept f=(a.kept f).take (a.at_ (a.kept f))++(a.kept f).drop (a.at_ (a.kept f)):=(List.take_append_drop _ _).symm
    rw [e,List.pairwise_append] at k2
    exact k2.2.2 w hw x hx
   ·exact hhi x hx w (List.mem_of_mem_take hw)
theorem zhe{a:Ca}{l m:List Fx}{x:Fx} : x∈a.join l m↔x∈l∨x∈m:=by
 have e:l=l.take (a.at_ l)++l.drop (a.at_ l):=(List.take_append_drop _ _).symm
 have:x∈l↔x∈l.take (a.at_ l)∨x∈l.drop (a.at_ l):=by rw [← List.mem_append,List.take_append_drop]
 rw [this]
 unfold join
 simp only [List.mem_append]
 constructor
 ·rintro((h | h) | h)
  ·exact .inl (.inl h)
  ·exact .inr h
  ·exact .inl (.inr h)
 ·rintro((h | h) | h)
  ·exact .inl (.inl h)
  ·exact .inr h
  ·exact .inl (.inr h)
end Ca
end Go.Nov
end
section
namespace Go.Nov
end Go.Nov
end
section
namespace Go.Nov
open Go.Sx
structure Pt(x y:Ex):Prop where
 x0:x.errX=0
 x1:x.zK=1
 y0:y.errX=0
 y1:y.zK=1
 s:x.size+y.size<500
 d1:x.depth<60
 d2:y.depth<60
section
variable {x y:Ex} {day:Int} {f:List Fx} {c:List Ch} (h:Pt x y)
include h
end
end Go.Nov
end
section
namespace Go.Nov
open Go.Sx
section
variable {x:Ex} {day:Int} {f:List Fx} {c:List Ch}
end
structure Lg(p q x y:Ex):Prop where
 p0:p.errX=0
 p1:p.zK=2
 q0:q.errX=0
 q1:q.zK=2
 x0:x.errX=0
 x1:x.zK=1
 y0:y.errX=0
 y1:y.zK=1
 s:p.size+q.size+x.size+y.size<500
 dp:p.depth<60
 dq:q.depth<60
 dx:x.depth<60
 dy:y.depth<60
section
variable {p q x y:Ex} {day:Int} {f:List Fx} {c:List Ch} (h:Lg p q x y)
include h
end
end Go.Nov
end
section
namespace Go.Nov
open Go.Sx
namespace Ex
mutual
def men(a:List UInt8):Ex→Bool
 | mk _ _ n _ s=>decide (n=a)||mens a s
def mens(a:List UInt8):List Ex→Bool
 | []=>false
 | x::l=>men a x||mens a l
end
mutual
def fixX(day:Int):Ex→Ex
 | mk k r n d s=>mk (if k=3 then 2 else k) r n (if k=3 then day else d) (fixs day s)
def fixs(day:Int):List Ex→List Ex
 | []=>[]
 | x::l=>fixX day x::fixs day l
end
mutual
theorem zdt(day:Int):∀ x:Ex,(fixX day x).size=x.size
 | mk k r n d s=>by rw [fixX,size,size,Wm day s]
theorem Wm(day:Int):∀ s:List Ex,zo (fixs day s)=zo s
 | []=>rfl
 | x::l=>by rw [fixs,zo,zo,zdt day x,Wm day l]
end
mutual
theorem zbc(day:Int):∀ x:Ex,(fixX day x).depth=x.depth
 | mk k r n d s=>by rw [fixX,depth,depth,QA day s]
theorem QA(day:Int):∀ s:List Ex,zu (fixs day s)=zu s
 | []=>rfl
 | x::l=>by rw [fixs,zu,zu,zbc day x,QA day l]
end
mutual
theorem zde(day:Int):∀ x:Ex,(fixX day x).zp=x.zp
 | mk k r n d s=>by rw [fixX,zp,zp,QJ day s]
theorem QJ(day:Int):∀ s:List Ex,zH (fixs day s)=zH s
 | []=>rfl
 | x::l=>by rw [fixs,zH,zH,zde day x,QJ day l]
end
theorem zgb{k v:Int}(hk:jR k=true)(h:v∈qu k):v≠0:=by
 have h2:(4≤k∧k≤9)∨(11≤k∧k≤15):=by
  by_cases h1:4≤k∧k≤9
  ·exact .inl h1
  ·by_cases h2:11≤k∧k≤15
   ·exact .inr h2
   ·rw [zo5 h1 h2] at hk; cases hk
 have h3:k=4∨k=5∨k=6∨k=7∨k=8∨k=9∨k=11∨k=12∨k=13∨k=14∨k=15:=by omega
 rcases h3 with rfl | rfl | rfl | rfl | rfl | rfl | rfl | rfl | rfl | rfl | rfl<;>(revert v; decide)
mutual
theorem zfb{day:Int}(hd:dayB day=true):∀ x:Ex,x.zK≠0→(fixX day x).zK=x.zK
 | mk k r n d s,h=>by
  rw [fixX,zK,zK]
  rw [zK] at h
  by_cases hk:jR k=true
  ·have k3:k≠3:=fun g=>by rw [g] at hk; cases hk
   rw [if_neg k3,if_neg k3]
   have hs:zY s=qu k:=by
    unfold kf at h
    rw [if_pos hk] at h
    by_cases g:r=[]∧n=[]∧d=0∧zY s=qu k
    ·exact g.2.2.2
    ·rw [if_neg g] at h; exact absurd rfl h
   rw [WQ hd s fun v hv=>zgb hk (by rw [← hs]; exact hv)]
  ·have hk:jR k=false:=by simpa using hk
   rw [kK hk] at h ⊢
   by_cases g:jd k r n d (zY s).length=true
   ·have hl:(zY s).length=0:=by
     unfold jd at g
     simp only [Bool.and_eq_true,decide_eq_true_eq] at g
     exact g.1
    have hs:s=[]:=List.length_eq_zero_iff.1 (by rw [← jr s]; exact hl)
    subst hs
    by_cases k3:k=3
    ·rw [if_pos k3,if_pos k3,if_pos g]
     subst k3
     rw [kK (by rfl),if_pos]
     unfold jd at g ⊢
     simp only [Bool.and_eq_true,decide_eq_true_eq,show ¬ (3:Int)=1 by decide,show ¬ (3:Int)=2 by decide,show ¬ (2:Int)=1 by decide,if_false,if_true] at g ⊢
     exact⟨rfl,⟨g.2.1.1,g.2.1.2⟩,hd⟩
    ·rw [if_neg k3,if_neg k3,fixs,kK hk]
   ·rw [if_neg g] at h; exact absurd rfl h
theorem WQ{day:Int}(hd:dayB day=true):∀ s:List Ex,(∀ v∈zY s,v≠0)→zY (fixs day s)=zY s
 | [],_=>rfl
 | x::l,h=>by
  rw [fixs,zY,zY]
  rw [zY] at h
  rw [zfb hd x (h _ (by simp)),WQ hd l fun v hv=>h v (by simp [hv])]
end
theorem zjv(f:List Fx)(day k:Int)(r n:List UInt8)(d:Int)(l:List Ev):evN f day (if k=3 then 2 else k) r n (if k=3 then day else d) l=evN f day k r n d l:=by
 by_cases k3:k=3
 ·subst k3
  rw [if_pos rfl,if_pos rfl]
  rfl
 ·rw [if_neg k3,if_neg k3]
mutual
theorem znz(f:List Fx)(day:Int):∀ x:Ex,(fixX day x).ev f day=x.ev f day
 | mk k r n d s=>by rw [fixX,ev,ev,zaq f day s,zjv]
theorem zaq(f:List Fx)(day:Int):∀ s:List Ex,evs f day (fixs day s)=evs f day s
 | []=>rfl
 | x::l=>by rw [fixs,evs,evs,znz f day x,zaq f day l]
end
mutual
theorem zmn{f g:List Fx}{a:List UInt8}(hf:∀ (n:List UInt8) (d:Int),n≠a→fixR g n d=fixR f n d)(day:Int):∀ x:Ex,x.men a=false→x.ev g day=x.ev f day
 | mk k r n d s,h=>by
  rw [men,Bool.or_eq_false_iff] at h
  have hn:n≠a:=of_decide_eq_false h.1
  rw [ev,ev,UN hf day s h.2]
  unfold evN valN
  rw [hf n d hn,hf n day hn]
theorem UN{f g:List Fx}{a:List UInt8}(hf:∀ (n:List UInt8) (d:Int),n≠a→fixR g n d=fixR f n d)(day:Int):∀ s:List Ex,mens a s=false→evs g day s=evs f day s
 | [],_=>rfl
 | x::l,h=>by
  rw [mens,Bool.or_eq_false_iff] at h
  rw [evs,evs,zmn hf day x h.1,UN hf day l h.2]
end
theorem kB(a:List UInt8):∀ (s:List Ex) (i:Nat),i<s.length→mens a (s.take (i+1))=(mens a (s.take i)||men a (s.getD i nil))
 | [],i,h=>absurd h (Nat.not_lt_zero i)
 | x::l,0,_=>by
  show(men a x||mens a [])=(mens a []||men a x)
  rw [mens,Bool.or_false,Bool.false_or]
 | x::l,i+1,h=>by
  rw [List.take_succ_cons,List.take_succ_cons,mens,mens,kB a l i (by simpa using h),Bool.or_assoc]
  rfl
theorem xB(a:List UInt8):∀ (s:List Ex) (i:Nat),i<s.length→men a (s.getD i nil)=true→mens a s=true
 | [],i,h,_=>absurd h (Nat.not_lt_zero i)
 | x::l,0,_,g=>by
  rw [mens,show men a x=true from g]; rfl
 | x::l,i+1,h,g=>by
  rw [mens,xB a l i (by simpa using h) g,Bool.or_true]
end Ex
end Go.Nov
end
section
namespace Go.Nov
open Go.Sx
theorem zah:errR [49]=0:=by decide +kernel
theorem zh6:numR [49]=[49]∧denR [49]=[49]∧zI [49]=1∧errI [49]=0:=by decide +kernel
theorem zj5:numR [48]=[48]∧denR [48]=[49]∧zI [48]=0∧errI [48]=0:=by decide +kernel
theorem zoh:qv [49]=1:=by decide +kernel
theorem zhk{x:List UInt8}(h:errR x=0):mulR [49] x=(x,0):=by
 obtain⟨a1,a2,b1,b2,a4,b4,h2⟩:=J1 zah h
 obtain⟨n1,n2,n3,n4⟩:=zh6
 have e0:(mulR [49] x).2=0:=by
  unfold mulR
  rw [h2,if_neg (by simp),n1,n2,wW (zm.2 ⟨n4,b1⟩),wW (zm.2 ⟨n4,b2⟩),n3,Int.one_mul,Int.one_mul,vj b1,vj b2]
  unfold frac
  rw [if_neg (by simp),(Uz b1 b2 (fun h=>b4 (by unfold zI; split<;>simp [h]))).1]
 obtain⟨g1,g2⟩:=zam zah h e0
 rw [zoh,Rat.one_mul] at g2
 rw [Prod.ext_iff]
 exact⟨zfg g1 h g2,e0⟩
theorem add_zero'{x:List UInt8}(h:errR x=0):addR x [48]=(x,0):=by
 obtain⟨a1,a2,b1,b2,a4,b4,h2⟩:=J1 h ZQ
 obtain⟨n1,n2,n3,n4⟩:=zj5
 obtain⟨m1,m2,m3,m4⟩:=zh6
 have k1:mulI (numR x) (denR [48])=(numR x,0):=by rw [n2,wW (zm.2 ⟨a1,m4⟩),m3,Int.mul_one,vj a1]
 have k2:mulI (numR [48]) (denR x)=([48],0):=by rw [n1,wW (zm.2 ⟨n4,a2⟩),n3,Int.zero_mul]; exact n3▸vj n4
 have k3:mulI (denR x) (denR [48])=(denR x,0):=by rw [n2,wW (zm.2 ⟨a2,m4⟩),m3,Int.mul_one,vj a2]
 have e0:(addR x [48]).2=0:=by
  have hc:zM x [48]=0:=by
   unfold zM
   rw [if_neg (by rw [h2]; simp),if_neg (by rw [k1,k2]; simp)]
  unfold addR
  rw [hc,if_neg (by simp),k1,k2,k3,zic (zm.2 ⟨a1,n4⟩),n3,Int.add_zero,vj a1]
  unfold frac
  rw [if_neg (by simp),(Uz a1 a2 (fun h=>a4 (by unfold zI; split<;>simp [h]))).1]
 obtain⟨g1,g2⟩:=UM h ZQ e0
 rw [zm0,Rat.add_zero] at g2
 rw [Prod.ext_iff]
 exact⟨zfg g1 h g2,e0⟩
theorem X4{α:Type}{c:α→α→Int}(hc:∀ a b,c a b<0→¬ c b a<0)(hi:∀ a,¬ c a a<0):∀ {l m:List α},l.Pairwise (fun x y=>c x y<0)→m.Pairwise (fun x y=>c x y<0)→(∀ x,x∈l↔x∈m)→l=m
 | [],[],_,_,_=>rfl
 | [],y::m,_,_,h=>by have:=(h y).2 (by simp); simp at this
 | x::l,[],_,_,h=>by have:=(h x).1 (by simp); simp at this
 | x::l,y::m,hl,hm,h=>by
  rw [List.pairwise_cons] at hl hm
  have e:x=y:=by
   have h1:=(h x).1 (by simp)
   have h2:=(h y).2 (by simp)
   rw [List.mem_cons] at h1 h2
   rcases h1 with h1 | h1
   ·exact h1
   ·rcases h2 with h2 | h2
    ·exact h2.symm
    ·exact absurd (hl.1 y h2) (hc _ _ (hm.1 x h1))
  subst e
  congr 1
  refine X4 hc hi hl.2 hm.2 fun z=>⟨fun hz=> ?_,fun hz=> ?_⟩
  ·have:=(h z).1 (by simp [hz])
   rw [List.mem_cons] at this
   rcases this with rfl | this
   ·exact absurd (hl.1 z hz) (hi z)
   ·exact this
  ·have:=(h z).2 (by simp [hz])
   rw [List.mem_cons] at this
   rcases this with rfl | this
   ·exact absurd (hm.1 z hz) (hi z)
   ·exact this
namespace Ca
def isNone(a:Ca):Prop:=a.ratio=[49]∧a.extra=[48]∧a.into=a.name
mutual
theorem Kg{a:Ca}(h:a.isNone):∀ x:Ex,x.zK≠0→chg a x=x
 | .mk k r n d s,hs=>by
  rw [Ex.zK] at hs
  rw [chg]
  by_cases hh:a.onX k n d=true
  ·rw [if_pos hh]
   obtain⟨h1,h2⟩:=kE hs (KH hh)
   have h3:s=[]:=by
    cases s with
    | nil=>rfl
    | cons x s=>rw [Ex.zY] at h2; cases h2
   have h4:n=a.name:=by simp [onX] at hh; exact hh.1
   unfold rel
   rw [if_pos h.2.1,if_pos h.1,h.2.2,h1,h3,h4]
  ·rw [if_neg hh,Vi h s (Q8 hs)]
theorem Vi{a:Ca}(h:a.isNone):∀ s:List Ex,(∀ p∈Ex.zY s,p≠0)→chgs a s=s
 | [],_=>by rw [chgs]
 | x::s,hs=>by
  rw [Ex.zY] at hs
  rw [chgs,Kg h x (hs _ (by simp)),Vi h s (fun p hp=>hs p (by simp [hp]))]
end
theorem zh7{a:Ca}{x:Ex}(h:ja x=true):chg a x=x:=by
 obtain⟨k,r,n,d,s⟩:=x
 simp [ja,Ex.kind,Ex.rat,Ex.name,Ex.date,Ex.sub] at h
 obtain⟨h0,_,_,_,rfl⟩:=h
 obtain rfl:k=0:=of_decide_eq_true h0
 rw [chg,chgs]
 have:a.onX 0 n d=false:=by simp [onX]
 rw [this]; simp
mutual
theorem Q6{a:Ca}(h:a.isNone):∀ c:Con,c.form=true→whole a.chg c=c
 | .mk k s t n x d l u,hf=>by
  rw [Con.form,Bool.and_eq_true] at hf
  rw [whole,Z2 h u hf.2]
  rcases za7 hf.1 with hx | hx
  ·rw [zh7 hx]
  ·rw [Kg h x hx]
theorem Z2{a:Ca}(h:a.isNone):∀ u:List Con,Con.yF u=true→q6 a.chg u=u
 | [],_=>by rw [q6]
 | c::u,hf=>by
  rw [Con.yF,Bool.and_eq_true] at hf
  rw [q6,Q6 h c hf.1,Z2 h u hf.2]
end
mutual
theorem UO{a:Ca} : ∀ x:Ex,x.men a.name=false→chg a x=x
 | .mk k r n d s,h=>by
  rw [Ex.men,Bool.or_eq_false_iff] at h
  have h1:¬ n=a.name:=of_decide_eq_false h.1
  rw [chg,if_neg (by simp [onX,h1]),Kh s h.2]
theorem Kh{a:Ca} : ∀ s:List Ex,Ex.mens a.name s=false→chgs a s=s
 | [],_=>by rw [chgs]
 | x::s,h=>by
  rw [Ex.mens,Bool.or_eq_false_iff] at h
  rw [chgs,UO x h.1,Kh s h.2]
end
end Ca
namespace Con
mutual
def men(a:List UInt8):Con→Bool
 | mk _ _ _ _ x _ _ s=>x.men a||mens a s
def mens(a:List UInt8):List Con→Bool
 | []=>false
 | c::l=>men a c||mens a l
end
theorem zmo(a:List UInt8)(c:Con):c.men a=(c.x.men a||mens a c.sub):=by cases c; rw [men]; rfl
theorem xB(a:List UInt8):∀ (s:List Con) (i:Nat),i<s.length→(s.getD i nil).men a=true→mens a s=true
 | [],_,h,_=>by simp at h
 | c::s,0,_,h=>by rw [mens]; simp at h; rw [h]; rfl
 | c::s,i+1,hl,h=>by rw [mens,xB a s i (by simpa using hl) (by simpa using h)]; simp
theorem kB(a:List UInt8):∀ (s:List Con) (i:Nat),i<s.length→mens a (s.take (i+1))=(mens a (s.take i)||(s.getD i nil).men a)
 | [],_,h=>by simp at h
 | c::s,0,_=>by simp [mens]
 | c::s,i+1,hl=>by
  rw [List.take_succ_cons,mens,kB a s i (by simpa using hl),List.take_succ_cons,mens,List.getD_cons_succ,Bool.or_assoc]
end Con
namespace Ca
mutual
theorem W8{a:Ca} : ∀ c:Con,c.men a.name=false→whole a.chg c=c
 | .mk k s t n x d l u,h=>by
  rw [Con.men,Bool.or_eq_false_iff] at h
  rw [whole,UO x h.1,Qr u h.2]
theorem Qr{a:Ca} : ∀ u:List Con,Con.mens a.name u=false→q6 a.chg u=u
 | [],_=>by rw [q6]
 | c::u,h=>by
  rw [Con.mens,Bool.or_eq_false_iff] at h
  rw [q6,W8 c h.1,Qr u h.2]
end
theorem zfc{c:Con}(h:c.errC=0):c.form=true:=by
 unfold Con.errC at h
 split at h
 ·simp at h
 ·split at h
  ·assumption
  ·simp at h
theorem zd2{a:Ca}(h:a.isNone)(ho:a.ok=true)(c:Con):a.conv c=if c.errC=0 then(c,0) else(Con.nil,c.errC):=by
 unfold conv
 rw [if_pos ho]
 by_cases h1:c.errC=0
 ·rw [if_pos h1,if_pos h1,Q6 h c (zfc h1),if_pos h1]
 ·rw [if_neg h1,if_neg h1]
theorem K8{a:Ca}(ho:a.ok=true){c:Con}(h1:c.errC=0)(hm:c.men a.name=false):a.conv c=(c,0):=by
 unfold conv
 rw [if_pos ho,if_pos h1,W8 c hm,if_pos h1]
theorem KW{a:Ca}(h:a.isNone){x:List UInt8}(hx:errR x=0):a.old x=(x,0):=by
 unfold old
 rw [h.1,zhk hx,h.2.1]
 simp only [ne_eq,not_true_eq_false,if_false]
 exact add_zero' hx
theorem XD{a:Ca}(h:a.isNone)(ho:a.ok=true)(f:List Fx)(c:List Ch):a.before f c=if errE f c=0 then((f,c),0) else(([],[]),errE f c):=by
 unfold before
 rw [if_neg (by rw [ho]; decide)]
 by_cases h1:errE f c=0
 ·rw [if_neg (by simpa using h1),if_pos h1]
  obtain⟨g1,g2,g3,g4,g5⟩:=xe.1 h1
  have hok:∀ x∈f,errR x.value=0:=fun x hx=>by
   have:=List.all_eq_true.1 g2 x hx
   unfold okF at this
   simp only [Bool.and_eq_true,decide_eq_true_eq] at this
   exact this.2
  have he:a.err f=0:=by
   unfold err
   cases e:f.find? a.bad with
   | none=>rfl
   | some y=>show(a.old y.value).2=0; rw [KW h (hok y (List.mem_of_find?_eq_some e))]
  rw [if_neg (by simpa using he)]
  have mk_id:∀ x∈f,a.hit x=true→a.mk' x=x:=fun x hx hh=>by
   unfold hit at hh
   simp only [Bool.and_eq_true,decide_eq_true_eq] at hh
   unfold mk'
   rw [KW h (hok x hx),← h.2.2,← hh.1]
  have hk:∀ x:Fx,a.keep x = !a.hit x:=fun x=>by
   unfold keep hit
   rw [h.2.2]
   by_cases q1:x.name=a.name
   ·by_cases q2:a.date≤x.date
    ·simp [q1,q2]
    ·simp [q1,q2]; omega
   ·simp [q1]
  have hlen:(a.kept f).length+(a.fresh f).length=f.length:=by
   unfold kept fresh
   rw [List.length_map]
   have:∀ l:List Fx,(l.filter a.keep).length+(l.filter a.hit).length=l.length:=by
    intro l
    induction l with
    | nil=>rfl
    | cons x l ih=>
     rw [List.filter_cons,List.filter_cons,hk x]
     cases a.hit x<;>simp<;>omega
   exact this f
  rw [if_neg (by omega)]
  have pj:=uD Jf (xe.1 (by have:=zh4 ho h1 he (by omega) _ (Nat.le_refl _); rw [List.take_length] at this; exact this)).2.2.2.1
  have pf:=uD Jf g4
  have:a.join (a.kept f) (a.fresh f)=f:=by
   refine X4 (fun x y hxy=>(zee zhq hxy).1) (fun x=>by rw [wD,kJ]; simp) pj pf fun x=> ?_
   rw [zhe]
   constructor
   ·rintro(hx | hx)
    ·exact(List.mem_filter.1 hx).1
    ·unfold fresh at hx
     obtain⟨y,hy,rfl⟩:=List.mem_map.1 hx
     obtain⟨hy1,hy2⟩:=List.mem_filter.1 hy
     rw [mk_id y hy1 hy2]; exact hy1
   ·intro hx
    cases hh:a.hit x
    ·exact .inl (List.mem_filter.2 ⟨hx,by rw [hk,hh]; rfl⟩)
    ·exact .inr (List.mem_map.2 ⟨x,List.mem_filter.2 ⟨hx,hh⟩,mk_id x hx hh⟩)
  rw [this]
 ·rw [if_pos (by simpa using h1),if_neg h1]
end Ca
end Go.Nov
end
section
set_option maxRecDepth 100000
open Go Go.Sx Go.Proofs Go.Nov
namespace Go.Proofs.Tryz
attribute [local simp] eqKV eqA eqA0 eqH eqB eqL eqL0
noncomputable def K65:List Go.Sx.Item:=[.code (Tryz.f65.body.getD .skip)]
noncomputable def K64:List Go.Sx.Item:=[.code (Tryz.f64.body.getD .skip)]
noncomputable def K75:List Go.Sx.Item:=[.code (Tryz.f75.body.getD .skip)]
noncomputable def K26:List Go.Sx.Item:=[.code (Tryz.f26.body.getD .skip)]
noncomputable def GAjP:Nat→Option Ctr:=fun f=>if f=16 then some (k0) else if f=22 then some (ZO) else if f=41 then some (YX) else none
theorem zki:∀ g c,GAjP g=some c→zc Tryz.prog g c:=okIf vQ (okIf Wf (okIf zn5 (zq)))
theorem zkb:zc Tryz.prog 12 zm1:=by
 refine ze (fn:=Tryz.f12) (c:=Tryz.f12.body.getD .skip) rfl rfl rfl fun p hp O w0 Q hq=> ?_
 obtain⟨a,c⟩:=p
 replace hq:=hq () trivial
 obtain⟨ht,hx1,hx2⟩:=hp
 simp only at ht hx1 hx2 hq
 have c1:=Yv ht hx1
 have c2:=(Ca.yy a c).1
 unfold Ca.conv at hq
 have ha:eqA (.agg [.str a.name,.str a.into,.int .i64 a.date,.str a.ratio,.str a.extra]) a.av:=⟨rfl,rfl,⟨rfl,rfl⟩,rfl,rfl,trivial⟩
 refine zb.run hmix zki [] 400 (T:=.ex (fun(x:Ca)=>eqL [AV.agg [AV.str (Ca.name a),AV.str (Ca.into a),AV.int .i64 (Ca.date a),AV.str (Ca.ratio a),AV.str (Ca.extra a)]] [AV.agg [AV.str (Ca.name x),AV.str (Ca.into x),AV.int .i64 (Ca.date x),AV.str (Ca.ratio x),AV.str (Ca.extra x)]]∧jk x) fun n=>.all (fun(r:Int)=>r=if Ca.ok n=true then(0:Int) else(8:Int)) fun n=>.ite (!decide (n=0)) (.leaf (.ret [.agg [.int .u8 0,.str #[].toList,.str #[].toList,.str #[].toList,.int .u8 0,.str #[].toList,.str #[].toList,.int .i64 0,.nils,.int .i64 0,.nils,.nils],.int .i64 n] [.box [.str (Ca.name a),.str (Ca.into a),.int .i64 (Ca.date a),.str (Ca.ratio a),.str (Ca.extra a)],.box (Con.zf c),.box [.int .u8 0,.str #[].toList,.str #[].toList,.str #[].toList,.int .u8 0,.str #[].toList,.str #[].toList,.int .i64 0,.nils,.int .i64 0,.nils,.nils]])) (.ex (fun(x:Con)=>eqL [(Con.conA c)] [(Con.conA x)]∧Con.big x<1099511627776∧Con.nodes x≤1000000) fun n=>.all (fun(r:Int)=>r=Con.errC n) fun n=>.ite (!decide (n=0)) (.leaf (.ret [.agg [.int .u8 0,.str #[].toList,.str #[].toList,.str #[].toList,.int .u8 0,.str #[].toList,.str #[].toList,.int .i64 0,.nils,.int .i64 0,.nils,.nils],.int .i64 n] [.box [.str (Ca.name a),.str (Ca.into a),.int .i64 (Ca.date a),.str (Ca.ratio a),.str (Ca.extra a)],.box (Con.zf c),.box [.int .u8 0,.str #[].toList,.str #[].toList,.str #[].toList,.int .u8 0,.str #[].toList,.str #[].toList,.int .i64 0,.nils,.int .i64 0,.nils,.nils]])) (.ex (fun(x:Ca×Con)=>eqL [(Con.conA c),AV.ptr 0 0,AV.ptr 1 0] [(Con.conA x.2),AV.ptr 0 0,AV.ptr 1 0]∧eqH [.box [AV.str (Ca.name a),AV.str (Ca.into a),AV.int .i64 (Ca.date a),AV.str (Ca.ratio a),AV.str (Ca.extra a)],.box [AV.fn 41 [] [AV.ptr 0 0,AV.ptr 1 0]]] [.box [AV.str (Ca.name x.1),AV.str (Ca.into x.1),AV.int .i64 (Ca.date x.1),AV.str (Ca.ratio x.1),AV.str (Ca.extra x.1)],.box [AV.fn 41 [] [AV.ptr 0 0,AV.ptr 1 0]]]∧2=2∧Con.big x.2<274877906944) fun n=>.all (fun(x:Unit)=>True) fun n_1=>.ex (fun(x:Con)=>eqL [(Con.conD (Ca.whole (Ca.adj n.1) n.2))] [(Con.conA x)]∧Con.big x<1099511627776∧Con.nodes x≤1000000) fun n_2=>.all (fun(r:Int)=>r=Con.errC n_2) fun n_3=>.ite (!decide (n_3=0)) (.leaf (.ret [.agg [.int .u8 0,.str #[].toList,.str #[].toList,.str #[].toList,.int .u8 0,.str #[].toList,.str #[].toList,.int .i64 0,.nils,.int .i64 0,.nils,.nils],.int .i64 n_3] [.box [.str (Ca.name n.1),.str (Ca.into n.1),.int .i64 (Ca.date n.1),.str (Ca.ratio n.1),.str (Ca.extra n.1)],.box (Con.zf c),.box [.int .u8 0,.str #[].toList,.str #[].toList,.str #[].toList,.int .u8 0,.str #[].toList,.str #[].toList,.int .i64 0,.nils,.int .i64 0,.nils,.nils],.box [.fn 41 [] [.ptr 0 0,.ptr 3 0]],.box (Con.qX (Ca.whole (Ca.adj n.1) n.2))])) (.leaf (.ret [(Con.conD (Ca.whole (Ca.adj n.1) n.2)),.int .i64 0] [.box [.str (Ca.name n.1),.str (Ca.into n.1),.int .i64 (Ca.date n.1),.str (Ca.ratio n.1),.str (Ca.extra n.1)],.box (Con.zf c),.box (Con.qX (Ca.whole (Ca.adj n.1) n.2)),.box [.fn 41 [] [.ptr 0 0,.ptr 3 0]],.box (Con.qX (Ca.whole (Ca.adj n.1) n.2))]))))) (by kernel_rfl) ?_
 simp only [Tree.holds,zd]
 refine⟨a,⟨⟨ha,trivial⟩,kH ht⟩,⟨_,rfl⟩,?_⟩
 rintro _ rfl
 by_cases hok:a.ok=true
 ·rw [if_pos hok] at hq ⊢
  refine⟨fun h=>by simp at h,fun _=> ?_⟩
  refine⟨c,⟨⟨zG c,trivial⟩,by omega,by omega⟩,⟨_,rfl⟩,?_⟩
  rintro _ rfl
  refine⟨fun h=> ?_,fun h=> ?_⟩<;>simp at h
  ·rw [if_neg h] at hq
   exact RetR.out0 hq (fun h=>by cases h) VA
  have e:=Ca.JQ a c (zk4 h)
  rw [if_pos h] at hq
  refine⟨(a,c),⟨⟨zG c,⟨rfl,rfl⟩,⟨rfl,rfl⟩,trivial⟩,by simp,trivial,by show c.big<_; omega⟩,⟨(),trivial⟩,fun _ _=> ?_⟩
  simp only [e]
  refine⟨Ca.whole a.chg c,⟨⟨ke _,trivial⟩,by omega,by omega⟩,⟨_,rfl⟩,?_⟩
  rintro _ rfl
  refine⟨fun h=> ?_,fun h=> ?_⟩<;>simp at h
  ·rw [if_neg h] at hq
   exact RetR.out0 hq (fun h=>by cases h) VA
  rw [if_pos h] at hq
  exact RetR.le0 hq (fun h=>by cases h) (LeA.refl _)
 ·rw [if_neg hok] at hq ⊢
  exact⟨fun _=>RetR.out0 hq (fun h=>by cases h) VA,fun h=>by simp at h⟩
def V0(n:Nat):Ctr:=ctrP true (fun p:Con×Con=>[p.1.conA,p.2.conA]) (fun p=>p.1.nodes<n∧p.1.big<2^40) (fun p r=>(r=true↔p.1=p.2)) (fun _ (r:Bool)=>(.bool r,[]))
def eqfK(n:Nat):Ctr:=ctrP true (fun p:List Con×List Con=>[Con.conS p.1,Con.conS p.2,.fn 23 [] []]) (fun p=>Con.zC p.1<n∧Con.bigs p.1<2^40) (fun p r=>(r=true↔p.1=p.2)) (fun _ (r:Bool)=>(.bool r,[]))
def SEk(s t:List Con)(i:Nat):KV:=[(1,Con.conS t),(2,.fn 23 [] []),(15,Con.conS s),(16,.int .i64 (s.length:Int)),(17,.int .i64 (i:Int))]
theorem zmq(n:Nat)(ih:zc Tryz.prog 23 (V0 n)):zc Tryz.prog 65 (eqfK n):=by
 refine ze (fn:=Tryz.f65) (c:=Tryz.f65.body.getD .skip) rfl rfl rfl fun p hp O w0 Q hq=> ?_
 obtain⟨s,t⟩:=p
 obtain⟨h1,h2⟩:=hp
 simp only at h1 h2 hq
 have hlen:=Con.xA s
 refine zb.run hmix (qq ih) [1,2,15,16,17] 400 (T:=.ite (!decide ((↑s.length:Int)=t.length)) (.leaf (.ret [.bool false] [])) (.leaf (.loop (Prod.fst (lps K65 0)) (Prod.snd (lps K65 0)) [(1,.sl t.length 12 (Con.conG t)),(2,.fn 23 [] []),(15,.sl s.length 12 (Con.conG s)),(16,.int .i64 s.length),(17,.int .i64 0)] []))) (by kernel_rfl) ?_
 simp only [Tree.holds,zd,inR,lo,hi,Int.toNat_natCast]
 refine⟨fun h=> ?_,fun h=> ?_⟩
 ·refine RetR.scal (hq false ⟨fun h=>(by cases h),fun he=> ?_⟩) rfl (by simp [resV])
  subst he
  simp at h
 ·have hl:s.length=t.length:=by
   by_cases e1:s.length=t.length
   ·exact e1
   ·rw [decide_eq_false (show ¬ ((s.length:Nat):Int)=t.length by omega)] at h
    cases h
  refine zb.loop (ι:={i:Nat // i≤s.length∧∀ j,j<i→s.getD j Con.nil=t.getD j Con.nil}) (fun i=>SEk s t i.1) (fun _=>[]) (fun i=>s.length - i.1) ⟨0,Nat.zero_le _,fun j hj=>by omega⟩ 0 ?_ ?_ (by kernel_rfl)
  ·exact⟨by simp [SEk,Con.conS,za],by simp,by kernel_rfl,Nat.zero_le _⟩
  ·rintro⟨i,hil,hib⟩
   refine zb.run hmix (qq ih) [1,2,15,16,17] 400 (T:=.ite (decide ((↑i:Int)<s.length)) (.side ((0:Int)≤i∧(↑i:Int)<s.length) (.side ((0:Int)≤i∧(↑i:Int)<t.length) (.ex (fun(x:Con×Con)=>eqL [(Con.conD (s.getD (↑i:Int).toNat Con.nil)),(Con.conD (t.getD (↑i:Int).toNat Con.nil))] [(Con.conA x.1),(Con.conA x.2)]∧Con.nodes x.1<n∧Con.big x.1<1099511627776) fun n=>.all (fun(r:Bool)=>r=true↔n.1=n.2) fun n=>.ite (!n) (.leaf (.ret [.bool false] [.box (Con.qX (s.getD (↑i:Int).toNat Con.nil)),.box (Con.qX (t.getD (↑i:Int).toNat Con.nil))])) (.side (inR .i64 ((↑i:Int)+(1:Int))) (.leaf (.back 0 [(1,.sl t.length 12 (Con.conG t)),(2,.fn 23 [] []),(15,.sl s.length 12 (Con.conG s)),(16,.int .i64 s.length),(17,.int .i64 ((↑i:Int)+(1:Int)))] [.box (Con.qX (s.getD (↑i:Int).toNat Con.nil)),.box (Con.qX (t.getD (↑i:Int).toNat Con.nil))])))))) (.leaf (.ret [.bool true] []))) (by kernel_rfl) ?_
   simp only [Tree.holds,zd,inR,lo,hi,Int.toNat_natCast]
   refine⟨fun hlt=> ?_,fun hge=> ?_⟩
   ·have hlt:i<s.length:=by have:=of_decide_eq_true hlt; omega
    have g1:=Con.jD hlt
    have g2:=Con.uk hlt
    refine⟨by omega,fun _=>⟨by omega,fun _=>⟨(s.getD i Con.nil,t.getD i Con.nil),⟨⟨ke _,ke _,trivial⟩,by simp only; omega,by simp only; omega⟩,wJ _,?_⟩⟩⟩
    intro e he
    simp only at he
    refine⟨fun g=> ?_,fun g=>⟨by omega,fun _=> ?_⟩⟩
    ·refine RetR.scal (hq false ⟨fun h=>(by cases h),fun h3=> ?_⟩) rfl (by simp [resV])
     have:e=true:=he.2 (by rw [h3])
     rw [this] at g; cases g
    ·rw [if_pos trivial]
     have g:e=true:=by simpa using g
     refine⟨⟨i+1,hlt,fun j hj=> ?_⟩,by show s.length - (i+1)<s.length - i; omega,by simp [SEk,Con.conS,za],by simp,by kernel_rfl,Nat.zero_le _⟩
     rcases Nat.lt_or_ge j i with h1 | h1
     ·exact hib j h1
     ·have:j=i:=by omega
      rw [this]; exact he.1 g
   ·have hge:i=s.length:=by have:=of_decide_eq_false hge; omega
    subst hge
    exact RetR.scal (hq true ⟨fun _=>Con.Zx hl hib,fun _=>rfl⟩) rfl (by simp [resV])
def SIe(l m:List Int)(i:Nat):KV:=[(0,Con.dayS l),(1,Con.dayS m),(12,.int .i64 (l.length:Int)),(13,.int .i64 (i:Int))]
def eqIC:Ctr:=ctrP true (fun p:List Int×List Int=>[Con.dayS p.1,Con.dayS p.2]) (fun p=>p.1.length<2^40) (fun p r=>(r=true↔p.1=p.2)) (fun _ (r:Bool)=>(.bool r,[]))
theorem zny:zc Tryz.prog 64 eqIC:=by
 refine ze (fn:=Tryz.f64) (c:=Tryz.f64.body.getD .skip) rfl rfl rfl fun p hp O w0 Q hq=> ?_
 obtain⟨l,m⟩:=p
 replace hp:l.length<2^40:=hp
 refine zb.run hmix z7 [0,1,12,13] 400 (T:=.ite (!decide ((↑l.length:Int)=m.length)) (.leaf (.ret [.bool false] [])) (.leaf (.loop (Prod.fst (lps K64 0)) (Prod.snd (lps K64 0)) [(0,.sl l.length 1 (Con.dayG l)),(1,.sl m.length 1 (Con.dayG m)),(12,.int .i64 l.length),(13,.int .i64 0)] []))) (by kernel_rfl) ?_
 simp only [Tree.holds,zd,inR,lo,hi,Int.toNat_natCast]
 refine⟨fun h=> ?_,fun h=> ?_⟩
 ·refine RetR.scal (hq false ⟨fun h=>(by cases h),fun he=> ?_⟩) rfl (by simp [resV])
  simp only at he
  subst he
  simp at h
 ·have hl:l.length=m.length:=by simp at h; omega
  refine zb.loop (ι:={i:Nat // i≤l.length∧∀ j,j<i→l.getD j 0=m.getD j 0}) (fun i=>SIe l m i.1) (fun _=>[]) (fun i=>l.length - i.1) ⟨0,Nat.zero_le _,fun j hj=>by omega⟩ 0 ?_ ?_ (by kernel_rfl)
  ·exact⟨by simp [SIe,Con.dayS,za],trivial,by kernel_rfl,Nat.zero_le _⟩
  ·rintro⟨i,hil,hib⟩
   refine zb.run hmix z7 [0,1,12,13] 400 (T:=.ite (decide ((↑i:Int)<l.length)) (.side ((0:Int)≤i∧(↑i:Int)<l.length) (.side ((0:Int)≤i∧(↑i:Int)<m.length) (.ite (!decide (l.getD (↑i:Int).toNat (0:Int)=List.getD m (↑i:Int).toNat (0:Int))) (.leaf (.ret [.bool false] [])) (.side (inR .i64 ((↑i:Int)+(1:Int))) (.leaf (.back 0 [(0,.sl l.length 1 (Con.dayG l)),(1,.sl m.length 1 (Con.dayG m)),(12,.int .i64 l.length),(13,.int .i64 ((↑i:Int)+(1:Int)))] [])))))) (.leaf (.ret [.bool true] []))) (by kernel_rfl) ?_
   simp only [Tree.holds,zd,inR,lo,hi,Int.toNat_natCast]
   refine⟨fun hlt=> ?_,fun hge=> ?_⟩
   ·have hlt:i<l.length:=by have:=of_decide_eq_true hlt; omega
    refine⟨by omega,fun _=>⟨by omega,fun _=>⟨fun g=> ?_,fun g=>⟨by omega,fun _=> ?_⟩⟩⟩⟩
    ·refine RetR.scal (hq false ⟨fun h=>(by cases h),fun h3=> ?_⟩) rfl (by simp [resV])
     simp only at h3
     subst h3; simp at g
    ·have g:l.getD i 0=m.getD i 0:=by simpa using g
     rw [if_pos trivial]
     refine⟨⟨i+1,hlt,fun j hj=> ?_⟩,by show l.length - (i+1)<l.length - i; omega,by simp [SIe,Con.dayS,za],trivial,by kernel_rfl,Nat.zero_le _⟩
     rcases Nat.lt_or_ge j i with h1 | h1
     ·exact hib j h1
     ·have:j=i:=by omega
      rw [this]; exact g
   ·have hge:i=l.length:=by have:=of_decide_eq_false hge; omega
    subst hge
    refine RetR.scal (hq true ⟨fun _=> ?_,fun _=>rfl⟩) rfl (by simp [resV])
    apply List.ext_getElem hl
    intro j g1 g2
    have:=hib j g1
    simpa [List.getD,g1,g2] using this
noncomputable def GSk0:Nat→Option Ctr:=fun f=>if f=31 then some (Jt) else if f=64 then some (eqIC) else none
theorem zk0:∀ g c,GSk0 g=some c→zc Tryz.prog g c:=okIf Ks (okIf zny (zq))
noncomputable def GSkn(n:Nat):Nat→Option Ctr:=fun f=>if f=65 then some (eqfK n) else GSk0 f
theorem zje{n:Nat}(ih:zc Tryz.prog 23 (V0 n)):∀ g c,GSkn n g=some c→zc Tryz.prog g c:=fun g c h=>by
 unfold GSkn at h
 split at h
 ·rename_i e; cases h; subst e; exact zmq n ih
 ·exact zk0 g c h
theorem U7(n:Nat)(ih:zc Tryz.prog 23 (V0 n)):zc Tryz.prog 23 (V0 (n+1)):=by
 refine ze (fn:=Tryz.f23) (c:=Tryz.f23.body.getD .skip) rfl rfl rfl fun p hp O w0 Q hq=> ?_
 obtain⟨a,b⟩:=p
 obtain⟨h1,h2⟩:=hp
 simp only at h1 h2 hq
 refine zb.run hmix (zje ih) [] 400 (T:=.ex (fun(x:Ex×Ex)=>(bif bif bif bif decide (Con.kind a=Con.kind b) then decide (Con.src a=Con.src b) else false then decide (Con.dst a=Con.dst b) else false then decide (Con.name a=Con.name b) else false then decide (Con.date a=Con.date b) else false)=true→eqL [(Ex.exA a.x),(Ex.exA b.x)] [x.1.exA,x.2.exA]∧Ex.size x.1<1152921504606846976) fun n_1=>.all (fun(x:Bool)=>(bif bif bif bif decide (Con.kind a=Con.kind b) then decide (Con.src a=Con.src b) else false then decide (Con.dst a=Con.dst b) else false then decide (Con.name a=Con.name b) else false then decide (Con.date a=Con.date b) else false)=true→(x=true↔n_1.1=n_1.2)) fun n_2=>.ex (fun(x:List Int×List Int)=>(bif bif bif bif bif decide (Con.kind a=Con.kind b) then decide (Con.src a=Con.src b) else false then decide (Con.dst a=Con.dst b) else false then decide (Con.name a=Con.name b) else false then decide (Con.date a=Con.date b) else false then n_2 else false)=true→eqL [AV.sl a.days.length 1 (Con.dayG a.days),AV.sl b.days.length 1 (Con.dayG b.days)] [AV.sl x.1.length 1 (Con.dayG x.1),AV.sl x.2.length 1 (Con.dayG x.2)]∧x.1.length<1099511627776) fun n_3=>.all (fun(x:Bool)=>(bif bif bif bif bif decide (Con.kind a=Con.kind b) then decide (Con.src a=Con.src b) else false then decide (Con.dst a=Con.dst b) else false then decide (Con.name a=Con.name b) else false then decide (Con.date a=Con.date b) else false then n_2 else false)=true→(x=true↔n_3.1=n_3.2)) fun n_4=>.ex (fun(x:List Con×List Con)=>(bif bif bif bif bif bif decide (Con.kind a=Con.kind b) then decide (Con.src a=Con.src b) else false then decide (Con.dst a=Con.dst b) else false then decide (Con.name a=Con.name b) else false then decide (Con.date a=Con.date b) else false then n_2 else false then n_4 else false)=true→eqL [AV.sl a.sub.length 12 (Con.conG a.sub),AV.sl b.sub.length 12 (Con.conG b.sub),AV.fn 23 [] []] [AV.sl x.1.length 12 (Con.conG x.1),AV.sl x.2.length 12 (Con.conG x.2),AV.fn 23 [] []]∧Con.zC x.1<n∧Con.bigs x.1<1099511627776) fun n=>.all (fun(x:Bool)=>(bif bif bif bif bif bif decide (Con.kind a=Con.kind b) then decide (Con.src a=Con.src b) else false then decide (Con.dst a=Con.dst b) else false then decide (Con.name a=Con.name b) else false then decide (Con.date a=Con.date b) else false then n_2 else false then n_4 else false)=true→(x=true↔n.1=n.2)) fun n=>.leaf (.ret [.bool (bif bif bif bif bif bif bif decide (Con.kind a=Con.kind b) then decide (Con.src a=Con.src b) else false then decide (Con.dst a=Con.dst b) else false then decide (Con.name a=Con.name b) else false then decide (Con.date a=Con.date b) else false then n_2 else false then n_4 else false then n else false)] [.box (Con.zf a),.box (Con.zf b)])) (by kernel_rfl) ?_
 simp only [Tree.holds,zd,inR,lo,hi,Int.toNat_natCast]
 have hb:=h2
 rw [Con.kC] at hb
 rw [Con.wM] at h1
 refine⟨(a.x,b.x),fun _=>⟨⟨qy a.x,qy b.x,trivial⟩,by simp only; omega⟩,(wJ _).imp fun _ h _=>h,fun e1 g1=> ?_⟩
 refine⟨(a.days,b.days),fun _=>⟨by simp [za],by simp only; omega⟩,(wJ _).imp fun _ h _=>h,fun e2 g2=> ?_⟩
 refine⟨(a.sub,b.sub),fun _=>⟨by simp [za],by simp only; omega,by simp only; omega⟩,(wJ _).imp fun _ h _=>h,fun e3 g3=> ?_⟩
 refine RetR.scal (hq _ ?_) rfl (by simp only [resV]; rfl)
 rw [Con.Qb]
 by_cases q1:a.kind=b.kind
 ·by_cases q2:a.src=b.src
  ·by_cases q3:a.dst=b.dst
   ·by_cases q4:a.name=b.name
    ·by_cases q5:a.date=b.date
     ·simp only [q1,q2,q3,q4,q5,decide_true,cond_true,true_and] at g1 g2 g3 ⊢
      replace g1:=g1 trivial
      cases e1 with
      | false=>simp only [cond_false]; exact⟨fun h=>(by cases h),fun h=>by have:=g1.2 h.1; cases this⟩
      | true=>
       simp only [cond_true] at g2 g3 ⊢
       replace g2:=g2 trivial
       cases e2 with
       | false=>simp only [cond_false]; exact⟨fun h=>(by cases h),fun h=>by have:=g2.2 h.2.1; cases this⟩
       | true=>
        simp only [cond_true] at g3 ⊢
        replace g3:=g3 trivial
        exact⟨fun h=>⟨g1.1 rfl,g2.1 rfl,g3.1 h⟩,fun h=>g3.2 h.2.2⟩
     ·simp [q5]
    ·simp [q4]
   ·simp [q3]
  ·simp [q2]
 ·simp [q1]
def Xk:Ctr:=ctrP true (fun p:Con×Con=>[p.1.conA,p.2.conA]) (fun p=>p.1.big<2^40) (fun p r=>(r=true↔p.1=p.2)) (fun _ (r:Bool)=>(.bool r,[]))
theorem zgm:zc Tryz.prog 23 Xk:=qz (fun p=>p.1.nodes) U7
def zlp(n:Nat):Ctr:=ctrP true (fun p:Ex×List UInt8=>[p.1.exA,.str p.2]) (fun p=>p.1.size<n∧p.1.size<2^40) (fun p r=>r=p.1.men p.2) (fun _ (r:Bool)=>(.bool r,[]))
def SUs(a:List UInt8)(i:Nat):KV:=[(1,.str a),(2,.ptr 0 0),(5,.int .i64 (i:Int))]
theorem zc9(n:Nat)(ih:zc Tryz.prog 75 (zlp n)):zc Tryz.prog 75 (zlp (n+1)):=by
 refine ze (fn:=Tryz.f75) (c:=Tryz.f75.body.getD .skip) rfl rfl rfl fun p hp O w0 Q hq=> ?_
 replace hq:=hq _ rfl
 obtain⟨x,a⟩:=p
 obtain⟨hxn,hxs⟩:=hp
 simp only at hxn hxs hq
 rw [Ex.size_eq] at hxn hxs
 obtain⟨k,r,m,d,s⟩:=x
 simp only [Ex.sub] at hxn hxs
 rw [Ex.men] at hq
 have hlen:=Ex.zJ s
 refine zb.run hmix (qq ih) [1,2,5] 400 (T:=.ite (decide (m=a)) (.leaf (.ret [.bool true] [.box [.int .u8 k,.str r,.str m,.int .i64 d,.sl s.length 5 (Ex.exG s)]])) (.leaf (.loop (Prod.fst (lps K75 0)) (Prod.snd (lps K75 0)) [(1,.str a),(2,.ptr 0 0),(5,.int .i64 0)] [.box [.int .u8 k,.str r,.str m,.int .i64 d,.sl s.length 5 (Ex.exG s)]]))) (by kernel_rfl) ?_
 simp only [Tree.holds,zd,inR,lo,hi,Int.toNat_natCast]
 refine⟨fun h=> ?_,fun h=> ?_⟩
 ·rw [h,Bool.true_or] at hq
  exact RetR.scal hq rfl (by simp [resV])
 rw [h,Bool.false_or] at hq
 refine zb.loop (ι:={i:Nat // i≤s.length∧Ex.mens a (s.take i)=false}) (fun i=>SUs a i.1) (fun _=>boxE k r m d s) (fun i=>s.length - i.1) ⟨0,Nat.zero_le _,rfl⟩ 0 ?_ ?_ (by kernel_rfl)
 ·exact⟨by simp [SUs],by simp [boxE,Ex.exS,za],by kernel_rfl,Nat.zero_le _⟩
 ·rintro⟨i,hil,him⟩
  refine zb.run hmix (qq ih) [1,2,5] 400 (T:=.ite (decide ((↑i:Int)<s.length)) (.side ((0:Int)≤i∧(↑i:Int)<s.length) (.ex (fun(x:Ex×List UInt8)=>eqL [(exD (s.getD (↑i:Int).toNat Ex.nil)),AV.str a] [x.1.exA,AV.str x.2]∧Ex.size x.1<n∧Ex.size x.1<1099511627776) fun n=>.all (fun(r:Bool)=>r=Ex.men n.2 n.1) fun n=>.ite n (.leaf (.ret [.bool true] [.box [.int .u8 k,.str r,.str m,.int .i64 d,.sl s.length 5 (Ex.exG s)]])) (.side (inR .i64 ((↑i:Int)+(1:Int))) (.leaf (.back 0 [(1,.str a),(2,.ptr 0 0),(5,.int .i64 ((↑i:Int)+(1:Int)))] [.box [.int .u8 k,.str r,.str m,.int .i64 d,.sl s.length 5 (Ex.exG s)]]))))) (.leaf (.ret [.bool false] [.box [.int .u8 k,.str r,.str m,.int .i64 d,.sl s.length 5 (Ex.exG s)]]))) (by kernel_rfl) ?_
  simp only [Tree.holds,zd,inR,lo,hi,Int.toNat_natCast]
  refine⟨fun hlt=> ?_,fun hge=> ?_⟩
  ·have hlt:i<s.length:=by have:=of_decide_eq_true hlt; omega
   have hg:=Ex.qG hlt
   refine⟨by omega,fun _=>⟨(s.getD i Ex.nil,a),⟨⟨⟨⟨rfl,rfl⟩,rfl,rfl,⟨rfl,rfl⟩,⟨rfl,rfl,Ex.zU _⟩,trivial⟩,rfl,trivial⟩,by show(s.getD i Ex.nil).size<n; omega,by show(s.getD i Ex.nil).size<2^40; omega⟩,⟨_,rfl⟩,?_⟩⟩
   rintro b hb
   replace hb:b=(s.getD i Ex.nil).men a:=hb
   refine⟨fun h1=> ?_,fun h1=> ?_⟩
   ·rw [Ex.xB a s i hlt (by rw [← hb]; exact h1)] at hq
    exact RetR.scal hq rfl (by simp [resV])
   ·refine⟨by omega,fun _=> ?_⟩
    rw [if_pos trivial]
    refine⟨⟨i+1,hlt,by rw [Ex.kB a s i hlt,him,← hb,h1]; rfl⟩,by show s.length - (i+1)<s.length - i; omega,by simp [SUs],by simp [boxE,Ex.exS,za],by kernel_rfl,Nat.zero_le _⟩
  ·have hge:i=s.length:=by have:=of_decide_eq_false hge; omega
   subst hge
   rw [List.take_length] at him
   rw [him] at hq
   exact RetR.scal hq rfl (by simp [resV])
def zb0:Ctr:=ctrP true (fun p:Ex×List UInt8=>[p.1.exA,.str p.2]) (fun p=>p.1.size<2^40) (fun p r=>r=p.1.men p.2) (fun _ (r:Bool)=>(.bool r,[]))
theorem zju:zc Tryz.prog 75 zb0:=qz (fun p=>p.1.size) zc9
def UZ(n:Nat):Ctr:=ctrP true (fun p:Con×List UInt8=>[p.1.conA,.str p.2]) (fun p=>p.1.nodes<n∧p.1.big<2^38) (fun p r=>r=p.1.men p.2) (fun _ (r:Bool)=>(.bool r,[]))
noncomputable def GMk0:Nat→Option Ctr:=fun f=>if f=75 then some (zb0) else none
theorem zj8:∀ g c,GMk0 g=some c→zc Tryz.prog g c:=okIf zju (zq)
noncomputable def GMkn(n:Nat):Nat→Option Ctr:=fun f=>if f=26 then some (UZ n) else GMk0 f
theorem zb2{n:Nat}(ih:zc Tryz.prog 26 (UZ n)):∀ g c,GMkn n g=some c→zc Tryz.prog g c:=fun g c h=>by
 unfold GMkn at h
 split at h
 ·rename_i e; cases h; subst e; exact ih
 ·exact zj8 g c h
def SMk(a:List UInt8)(i:Nat):KV:=[(1,.str a),(2,.ptr 0 0),(5,.int .i64 (i:Int))]
theorem zbk(n:Nat)(ih:zc Tryz.prog 26 (UZ n)):zc Tryz.prog 26 (UZ (n+1)):=by
 refine ze (fn:=Tryz.f26) (c:=Tryz.f26.body.getD .skip) rfl rfl rfl fun p hp O w0 Q hq=> ?_
 obtain⟨x,a⟩:=p
 obtain⟨h1,h2⟩:=hp
 replace hq:=hq _ rfl
 simp only at h1 h2 hq
 rw [Con.zmo] at hq
 have hb:=h2
 rw [Con.kC] at hb
 rw [Con.wM] at h1
 have hlb:=Con.xA x.sub
 refine zb.run hmix (zb2 ih) [1,2,5] 400 (T:=.ex (fun(x_1:Ex×List UInt8)=>eqL [(Ex.exA x.x),AV.str a] [x_1.1.exA,AV.str x_1.2]∧Ex.size x_1.1<1099511627776) fun n=>.all (fun(r:Bool)=>r=Ex.men n.2 n.1) fun n=>.ite n (.leaf (.ret [.bool true] [.box (Con.zf x)])) (.leaf (.loop (Prod.fst (lps K26 0)) (Prod.snd (lps K26 0)) [(1,.str a),(2,.ptr 0 0),(5,.int .i64 0)] [.box (Con.zf x)]))) (by kernel_rfl) ?_
 simp only [Tree.holds,zd,inR,lo,hi,Int.toNat_natCast]
 refine⟨(x.x,a),⟨⟨qy x.x,rfl,trivial⟩,by show x.x.size<_; omega⟩,⟨_,rfl⟩,?_⟩
 rintro _ rfl
 refine⟨fun h=> ?_,fun h=> ?_⟩
 ·rw [h,Bool.true_or] at hq
  exact RetR.scal hq rfl (by simp [resV])
 rw [h,Bool.false_or] at hq
 refine zb.loop (ι:={i:Nat // i≤x.sub.length∧Con.mens a (x.sub.take i)=false}) (fun i=>SMk a i.1) (fun _=>[.box x.zf]) (fun i=>x.sub.length - i.1) ⟨0,Nat.zero_le _,rfl⟩ 0 ?_ ?_ (by kernel_rfl)
 ·exact⟨by simp [SMk],⟨zx x,trivial⟩,by kernel_rfl,Nat.zero_le _⟩
 ·rintro⟨i,hil,him⟩
  refine zb.run hmix (zb2 ih) [1,2,5] 400 (T:=.ite (decide ((↑i:Int)<(↑x.sub.length:Int))) (.side ((0:Int)≤i∧(↑i:Int)<(↑x.sub.length:Int)) (.ex (fun(x_1:Con×List UInt8)=>eqL [(Con.conD (List.getD x.sub (↑i:Int).toNat Con.nil)),AV.str a] [(Con.conA x_1.1),AV.str x_1.2]∧Con.nodes x_1.1<n∧Con.big x_1.1<274877906944) fun n=>.all (fun(r:Bool)=>r=Con.men n.2 n.1) fun n=>.ite n (.leaf (.ret [.bool true] [.box (Con.zf x)])) (.side (inR .i64 ((↑i:Int)+(1:Int))) (.leaf (.back 0 [(1,.str a),(2,.ptr 0 0),(5,.int .i64 ((↑i:Int)+(1:Int)))] [.box (Con.zf x)]))))) (.leaf (.ret [.bool false] [.box (Con.zf x)]))) (by kernel_rfl) ?_
  simp only [Tree.holds,zd,inR,lo,hi,Int.toNat_natCast]
  refine⟨fun hlt=> ?_,fun hge=> ?_⟩
  ·have hlt:i<x.sub.length:=by have:=of_decide_eq_true hlt; omega
   have g1:=Con.jD hlt
   have g2:=Con.uk hlt
   refine⟨by omega,fun _=>⟨(x.sub.getD i Con.nil,a),⟨⟨ke _,rfl,trivial⟩,by simp only; omega,by simp only; omega⟩,⟨_,rfl⟩,?_⟩⟩
   rintro b hb
   replace hb:b=(x.sub.getD i Con.nil).men a:=hb
   refine⟨fun h1=> ?_,fun h1=> ?_⟩
   ·rw [Con.xB a x.sub i hlt (by rw [← hb]; exact h1)] at hq
    exact RetR.scal hq rfl (by simp [resV])
   ·refine⟨by omega,fun _=> ?_⟩
    rw [if_pos trivial]
    refine⟨⟨i+1,hlt,by rw [Con.kB a x.sub i hlt,him,← hb,h1]; rfl⟩,by show x.sub.length - (i+1)<x.sub.length - i; omega,by simp [SMk],⟨zx x,trivial⟩,by kernel_rfl,Nat.zero_le _⟩
  ·have hge:i=x.sub.length:=by have:=of_decide_eq_false hge; omega
   subst hge
   rw [List.take_length] at him
   rw [him] at hq
   exact RetR.scal hq rfl (by simp [resV])
def zay:Ctr:=ctrP true (fun p:Con×List UInt8=>[p.1.conA,.str p.2]) (fun p=>p.1.big<2^38) (fun p r=>r=p.1.men p.2) (fun _ (r:Bool)=>(.bool r,[]))
theorem zjc:zc Tryz.prog 26 zay:=qz (fun p=>p.1.nodes) zbk
end Go.Proofs.Tryz
end
section
open Go Go.Sx Go.Proofs Go.Nov
namespace Go.Proofs.Tryz
def zlo(p:List Fx×List Ch):Prop:=p.1.length<2^60∧p.2.length<2^60∧(∀ j,j<p.1.length→zej (p.1.getD j Fx.nil))∧∀ j,j<p.2.length→UK (p.2.getD j Ch.nil)
theorem zdv{p:List Fx×List Ch}(h:fitP p):envP p:=by
 obtain⟨h1,h2,h3,h4⟩:=h
 refine⟨by omega,by omega,fun j hj=> ?_,fun j hj=> ?_⟩
 ·obtain⟨a,b⟩:=h3 j hj; exact⟨by omega,by omega⟩
 ·obtain⟨a,b⟩:=h4 j hj; exact⟨by omega,by omega⟩
end Go.Proofs.Tryz
end
section
set_option maxRecDepth 100000
open Go Go.Sx Go.Proofs Go.Nov
namespace Go.Proofs.Tryz
attribute [local simp] eqKV eqA eqA0 eqH eqB eqL eqL0
theorem J4(e:Con):eqA e.conD e.conA:=zl3 ⟨rfl,rfl,za _ _ _⟩ ⟨rfl,rfl,za _ _ _⟩ ⟨rfl,rfl,Con.zU e⟩
def KU:List UInt8:=[78,111,116,45,105,110,45,105,116]
theorem ze6{a:Ca}(h:a.ok=true):Ca.ok ⟨KU,a.into,a.date,a.ratio,a.extra⟩=true:=by
 unfold Ca.ok at h ⊢
 simp only [Bool.and_eq_true] at h ⊢
 exact⟨by decide +kernel,h.2⟩
theorem XS{a:Ca}{c:Con}{e1 e2:Int}(h1:e1=if a.ok=true then 0 else 8)(h2:(!decide (e1=0))=false→e2=c.errC)(h:(bif !decide (e1=0) then true else !decide (e2=0))=false):a.ok=true∧c.errC=0:=by
 by_cases q:e1=0
 ·rw [decide_eq_true q] at h h2
  have h3:=h2 rfl
  subst h3
  have h4:c.errC=0:=by simpa using h
  refine⟨?_,h4⟩
  by_cases g:a.ok=true
  ·exact g
  ·rw [if_neg g] at h1; omega
 ·rw [decide_eq_false q] at h; cases h
structure SmA where
 name:List UInt8
 date:Int
 a:Ca
 c:Con
 v:List Fx×List Ch
noncomputable def GSm:Nat→Option Ctr:=fun f=>if f=18 then some (K5) else if f=6 then some (zlk) else if f=8 then some (zh9) else if f=19 then some (U2) else if f=20 then some (splC) else if f=12 then some (zm1) else if f=21 then some (Qq) else if f=22 then some (ZO) else if f=23 then some (Xk) else if f=24 then some (Vw) else if f=25 then some (VC) else if f=16 then some (k0) else if f=26 then some (zay) else none
theorem zmr:∀ g c,GSm g=some c→zc Tryz.prog g c:=okIf YR (okIf zjz (okIf zbj (okIf zgc (okIf zfp (okIf zkb (okIf Qi (okIf Wf (okIf zgm (okIf Wa (okIf XT (okIf vQ (okIf zjc (zq)))))))))))))
def zmp:Ctr:=ctrP true (fun p:SmA=>[.str p.name,.int .i64 p.date,p.a.av,p.c.conA,envA p.v.1 p.v.2]) (fun p=>p.c.thin∧zlo p.v) (fun _ r=>r=true) (fun _ (r:Bool)=>(.bool r,[]))
theorem zh8:zc Tryz.prog 4 zmp:=by
 refine ze (fn:=Tryz.f4) (c:=Tryz.f4.body.getD .skip) rfl rfl rfl fun p hp O w0 Q hq=> ?_
 obtain⟨name,date,a,c,f,w⟩:=p
 obtain⟨hc,hv⟩:=hp
 replace hq:=hq _ rfl
 simp only at hc hv
 refine zb.run hmix zmr [] 400 (T:=.ex (fun(x:Unit)=>eqL [] []∧True) fun n=>.all (fun(r:Bool)=>r=true) fun n=>.ex (fun(x:Ca)=>decide ((1000:Int)<name.length)=false→eqL [AV.agg [AV.str (Ca.name a),AV.str (Ca.into a),AV.int .i64 (Ca.date a),AV.str (Ca.ratio a),AV.str (Ca.extra a)]] [AV.agg [AV.str (Ca.name x),AV.str (Ca.into x),AV.int .i64 (Ca.date x),AV.str (Ca.ratio x),AV.str (Ca.extra x)]]∧True) fun n_1=>.all (fun(x:Bool)=>decide ((1000:Int)<name.length)=false→x=false→List.length (Ca.name n_1)≤1000∧List.length (Ca.into n_1)≤1000∧List.length (Ca.ratio n_1)≤1000∧List.length (Ca.extra n_1)≤1000) fun n_2=>.ex (fun(x:Con)=>(bif decide ((1000:Int)<name.length) then true else n_2)=false→eqL [(Con.conA c)] [(Con.conA x)]∧Con.thin x) fun n_3=>.all (fun(x:Bool)=>(bif decide ((1000:Int)<name.length) then true else n_2)=false→x=false→Con.nodes n_3≤600∧Con.big n_3≤1900000) fun n_4=>.ex (fun(x:List Fx×List Ch)=>(bif bif decide ((1000:Int)<name.length) then true else n_2 then true else n_4)=false→eqL [AV.agg [AV.sl f.length 3 (fxG f),AV.sl w.length 4 (chG w)]] [AV.agg [AV.sl x.1.length 3 (fxG x.1),AV.sl x.2.length 4 (chG x.2)]]∧x.1.length<1152921504606846976∧x.2.length<1152921504606846976∧(∀ (j:Nat),j<x.1.length→zej (List.getD x.1 j Fx.nil))∧∀ (j:Nat),j<x.2.length→UK (List.getD x.2 j Ch.nil)) fun n_5=>.all (fun(x:Bool)=>(bif bif decide ((1000:Int)<name.length) then true else n_2 then true else n_4)=false→x=false→fitP n_5) fun n_6=>.ite (bif bif bif bif decide ((1000:Int)<name.length) then true else n_2 then true else n_4 then true else n_6 then true else !n) (.leaf (.ret [.bool n] [.box [.str (Ca.name a),.str (Ca.into a),.int .i64 (Ca.date a),.str (Ca.ratio a),.str (Ca.extra a)],.box (Con.zf c),.box [.sl f.length 3 (fxG f),.sl w.length 4 (chG w)]])) (.ex (fun(x:SpA)=>eqL [AV.str name,AV.int .i64 date,AV.str #[(49:UInt8)].toList] [AV.str (SpA.n x),AV.int .i64 (SpA.d x),AV.str (SpA.r x)]∧List.length (SpA.n x)<274877906944∧List.length (SpA.r x)<274877906944) fun n_7=>.all (fun(x:Unit)=>True) fun n_8=>.ite (decide ((if Ca.ok (splA (SpA.n n_7) (SpA.d n_7) (SpA.r n_7))=true then(0:Int) else(8:Int))=(0:Int))) (.ex (fun(x:Ca×Con)=>eqL [AV.agg [AV.str (Ca.name (Ca.out (splA (SpA.n n_7) (SpA.d n_7) (SpA.r n_7)))),AV.str (Ca.into (Ca.out (splA (SpA.n n_7) (SpA.d n_7) (SpA.r n_7)))),AV.int .i64 (Ca.date (Ca.out (splA (SpA.n n_7) (SpA.d n_7) (SpA.r n_7)))),AV.str (Ca.ratio (Ca.out (splA (SpA.n n_7) (SpA.d n_7) (SpA.r n_7)))),AV.str (Ca.extra (Ca.out (splA (SpA.n n_7) (SpA.d n_7) (SpA.r n_7))))],(Con.conA c)] [AV.agg [AV.str (Ca.name x.1),AV.str (Ca.into x.1),AV.int .i64 (Ca.date x.1),AV.str (Ca.ratio x.1),AV.str (Ca.extra x.1)],(Con.conA x.2)]∧qZ x.1∧Con.big x.2<67108864∧Con.nodes x.2≤1000000) fun n_9=>.all (fun(x:Unit)=>True) fun n_10=>.ex (fun(x:Ca×List Fx×List Ch)=>eqL [AV.agg [AV.str (Ca.name (Ca.out (splA (SpA.n n_7) (SpA.d n_7) (SpA.r n_7)))),AV.str (Ca.into (Ca.out (splA (SpA.n n_7) (SpA.d n_7) (SpA.r n_7)))),AV.int .i64 (Ca.date (Ca.out (splA (SpA.n n_7) (SpA.d n_7) (SpA.r n_7)))),AV.str (Ca.ratio (Ca.out (splA (SpA.n n_7) (SpA.d n_7) (SpA.r n_7)))),AV.str (Ca.extra (Ca.out (splA (SpA.n n_7) (SpA.d n_7) (SpA.r n_7))))],AV.agg [AV.sl f.length 3 (fxG f),AV.sl w.length 4 (chG w)]] [AV.agg [AV.str (Ca.name x.1),AV.str (Ca.into x.1),AV.int .i64 (Ca.date x.1),AV.str (Ca.ratio x.1),AV.str (Ca.extra x.1)],AV.agg [AV.sl x.2.1.length 3 (fxG x.2.1),AV.sl x.2.2.length 4 (chG x.2.2)]]∧jk x.1∧envP x.2∧x.2.1.length≤1000000) fun n_11=>.all (fun(r:(List Fx×List Ch)×Int)=>r=Ca.before n_11.1 n_11.2.1 n_11.2.2) fun n_12=>.ex (fun(x:Con)=>eqL [(Con.conA c)] [(Con.conA x)]∧Con.big x<1099511627776∧Con.nodes x≤1000000) fun n_13=>.all (fun(r:Int)=>r=Con.errC n_13) fun n_14=>.ex (fun(x:Con×Con)=>(!decide (Prod.snd (Ca.conv n_9.1 n_9.2)=n_14))=false∧decide (Prod.snd (Ca.conv n_9.1 n_9.2)=(0:Int))=true→eqL [(Con.conD (Prod.fst (Ca.conv n_9.1 n_9.2))),(Con.conA c)] [(Con.conA x.1),(Con.conA x.2)]∧Con.big x.1<1099511627776) fun n_15=>.all (fun(x:Bool)=>(!decide (Prod.snd (Ca.conv n_9.1 n_9.2)=n_14))=false∧decide (Prod.snd (Ca.conv n_9.1 n_9.2)=(0:Int))=true→(x=true↔n_15.1=n_15.2)) fun n_16=>.ex (fun(x:List Fx×List Ch)=>(bif !decide (Prod.snd (Ca.conv n_9.1 n_9.2)=n_14) then true else bif decide (Prod.snd (Ca.conv n_9.1 n_9.2)=(0:Int)) then !n_16 else false)=false→eqL [AV.agg [AV.sl f.length 3 (fxG f),AV.sl w.length 4 (chG w)]] [AV.agg [AV.sl x.1.length 3 (fxG x.1),AV.sl x.2.length 4 (chG x.2)]]∧envP x) fun n_17=>.all (fun(x:Int)=>(bif !decide (Prod.snd (Ca.conv n_9.1 n_9.2)=n_14) then true else bif decide (Prod.snd (Ca.conv n_9.1 n_9.2)=(0:Int)) then !n_16 else false)=false→x=errE n_17.1 n_17.2) fun n_18=>.ex (fun(x:(List Fx×List Ch)×List Fx×List Ch)=>(bif bif !decide (Prod.snd (Ca.conv n_9.1 n_9.2)=n_14) then true else bif decide (Prod.snd (Ca.conv n_9.1 n_9.2)=(0:Int)) then !n_16 else false then true else !decide (n_12.2=n_18))=false∧decide (n_12.2=0)=true→eqL [AV.agg [AV.sl n_12.1.1.length 3 (fxG n_12.1.1),AV.sl n_12.1.2.length 4 (chG n_12.1.2)],AV.agg [AV.sl f.length 3 (fxG f),AV.sl w.length 4 (chG w)]] [AV.agg [AV.sl x.1.1.length 3 (fxG x.1.1),AV.sl x.1.2.length 4 (chG x.1.2)],AV.agg [AV.sl x.2.1.length 3 (fxG x.2.1),AV.sl x.2.2.length 4 (chG x.2.2)]]∧x.1.1.length<1099511627776∧x.1.2.length<1099511627776) fun n_19=>.all (fun(x:Bool)=>(bif bif !decide (Prod.snd (Ca.conv n_9.1 n_9.2)=n_14) then true else bif decide (Prod.snd (Ca.conv n_9.1 n_9.2)=(0:Int)) then !n_16 else false then true else !decide (n_12.2=n_18))=false∧decide (n_12.2=0)=true→(x=true↔n_19.1=n_19.2)) fun n_20=>.ite (bif bif bif !decide (Prod.snd (Ca.conv n_9.1 n_9.2)=n_14) then true else bif decide (Prod.snd (Ca.conv n_9.1 n_9.2)=(0:Int)) then !n_16 else false then true else !decide (n_12.2=n_18) then true else bif decide (n_12.2=0) then !n_20 else false) (.leaf (.ret [.bool false] [.box [.str (Ca.name a),.str (Ca.into a),.int .i64 (Ca.date a),.str (Ca.ratio a),.str (Ca.extra a)],.box (Con.zf c),.box [.sl f.length 3 (fxG f),.sl w.length 4 (chG w)],.box [.str (Ca.name (Ca.out (splA (SpA.n n_7) (SpA.d n_7) (SpA.r n_7)))),.str (Ca.into (Ca.out (splA (SpA.n n_7) (SpA.d n_7) (SpA.r n_7)))),.int .i64 (Ca.date (Ca.out (splA (SpA.n n_7) (SpA.d n_7) (SpA.r n_7)))),.str (Ca.ratio (Ca.out (splA (SpA.n n_7) (SpA.d n_7) (SpA.r n_7)))),.str (Ca.extra (Ca.out (splA (SpA.n n_7) (SpA.d n_7) (SpA.r n_7))))],.box (Con.qX (Prod.fst (Ca.conv n_9.1 n_9.2))),.box [.sl n_12.1.1.length 3 (fxG n_12.1.1),.sl n_12.1.2.length 4 (chG n_12.1.2)]])) (.ex (fun(x:Ca)=>eqL [AV.agg [AV.str (Ca.name a),AV.str (Ca.into a),AV.int .i64 (Ca.date a),AV.str (Ca.ratio a),AV.str (Ca.extra a)]] [AV.agg [AV.str (Ca.name x),AV.str (Ca.into x),AV.int .i64 (Ca.date x),AV.str (Ca.ratio x),AV.str (Ca.extra x)]]∧jk x) fun n_21=>.all (fun(r:Int)=>r=if Ca.ok n_21=true then(0:Int) else(8:Int)) fun n_22=>.ex (fun(x:Con)=>(!decide (n_22=0))=false→eqL [(Con.conA c)] [(Con.conA x)]∧Con.big x<1099511627776∧Con.nodes x≤1000000) fun n_23=>.all (fun(x:Int)=>(!decide (n_22=0))=false→x=Con.errC n_23) fun n_24=>.ite (bif !decide (n_22=0) then true else !decide (n_24=0)) (.leaf (.ret [.bool n] [.box [.str (Ca.name a),.str (Ca.into a),.int .i64 (Ca.date a),.str (Ca.ratio a),.str (Ca.extra a)],.box (Con.zf c),.box [.sl f.length 3 (fxG f),.sl w.length 4 (chG w)],.box [.str (Ca.name (Ca.out (splA (SpA.n n_7) (SpA.d n_7) (SpA.r n_7)))),.str (Ca.into (Ca.out (splA (SpA.n n_7) (SpA.d n_7) (SpA.r n_7)))),.int .i64 (Ca.date (Ca.out (splA (SpA.n n_7) (SpA.d n_7) (SpA.r n_7)))),.str (Ca.ratio (Ca.out (splA (SpA.n n_7) (SpA.d n_7) (SpA.r n_7)))),.str (Ca.extra (Ca.out (splA (SpA.n n_7) (SpA.d n_7) (SpA.r n_7))))],.box (Con.qX (Prod.fst (Ca.conv n_9.1 n_9.2))),.box [.sl n_12.1.1.length 3 (fxG n_12.1.1),.sl n_12.1.2.length 4 (chG n_12.1.2)]])) (.ex (fun(x:Con×List UInt8)=>eqL [(Con.conA c),AV.str #[(78:UInt8),(111:UInt8),(116:UInt8),(45:UInt8),(105:UInt8),(110:UInt8),(45:UInt8),(105:UInt8),(116:UInt8)].toList] [(Con.conA x.1),AV.str x.2]∧Con.big x.1<274877906944) fun n_25=>.all (fun(r:Bool)=>r=Con.men n_25.2 n_25.1) fun n_26=>.ite n_26 (.leaf (.ret [.bool n] [.box [.str #[(78:UInt8),(111:UInt8),(116:UInt8),(45:UInt8),(105:UInt8),(110:UInt8),(45:UInt8),(105:UInt8),(116:UInt8)].toList,.str (Ca.into a),.int .i64 (Ca.date a),.str (Ca.ratio a),.str (Ca.extra a)],.box (Con.zf c),.box [.sl f.length 3 (fxG f),.sl w.length 4 (chG w)],.box [.str (Ca.name (Ca.out (splA (SpA.n n_7) (SpA.d n_7) (SpA.r n_7)))),.str (Ca.into (Ca.out (splA (SpA.n n_7) (SpA.d n_7) (SpA.r n_7)))),.int .i64 (Ca.date (Ca.out (splA (SpA.n n_7) (SpA.d n_7) (SpA.r n_7)))),.str (Ca.ratio (Ca.out (splA (SpA.n n_7) (SpA.d n_7) (SpA.r n_7)))),.str (Ca.extra (Ca.out (splA (SpA.n n_7) (SpA.d n_7) (SpA.r n_7))))],.box (Con.qX (Prod.fst (Ca.conv n_9.1 n_9.2))),.box [.sl n_12.1.1.length 3 (fxG n_12.1.1),.sl n_12.1.2.length 4 (chG n_12.1.2)]])) (.ex (fun(x:Ca×Con)=>eqL [AV.agg [AV.str #[(78:UInt8),(111:UInt8),(116:UInt8),(45:UInt8),(105:UInt8),(110:UInt8),(45:UInt8),(105:UInt8),(116:UInt8)].toList,AV.str (Ca.into a),AV.int .i64 (Ca.date a),AV.str (Ca.ratio a),AV.str (Ca.extra a)],(Con.conA c)] [AV.agg [AV.str (Ca.name x.1),AV.str (Ca.into x.1),AV.int .i64 (Ca.date x.1),AV.str (Ca.ratio x.1),AV.str (Ca.extra x.1)],(Con.conA x.2)]∧qZ x.1∧Con.big x.2<67108864∧Con.nodes x.2≤1000000) fun n_27=>.all (fun(x:Unit)=>True) fun n_28=>.ex (fun(x:Con×Con)=>(bif n then decide (Prod.snd (Ca.conv n_27.1 n_27.2)=(0:Int)) else false)=true→eqL [(Con.conD (Prod.fst (Ca.conv n_27.1 n_27.2))),(Con.conA c)] [(Con.conA x.1),(Con.conA x.2)]∧Con.big x.1<1099511627776) fun n_29=>.all (fun(x:Bool)=>(bif n then decide (Prod.snd (Ca.conv n_27.1 n_27.2)=(0:Int)) else false)=true→(x=true↔n_29.1=n_29.2)) fun n_30=>.leaf (.ret [.bool (bif bif n then decide (Prod.snd (Ca.conv n_27.1 n_27.2)=(0:Int)) else false then n_30 else false)] [.box [.str #[(78:UInt8),(111:UInt8),(116:UInt8),(45:UInt8),(105:UInt8),(110:UInt8),(45:UInt8),(105:UInt8),(116:UInt8)].toList,.str (Ca.into a),.int .i64 (Ca.date a),.str (Ca.ratio a),.str (Ca.extra a)],.box (Con.zf c),.box [.sl f.length 3 (fxG f),.sl w.length 4 (chG w)],.box [.str (Ca.name (Ca.out (splA (SpA.n n_7) (SpA.d n_7) (SpA.r n_7)))),.str (Ca.into (Ca.out (splA (SpA.n n_7) (SpA.d n_7) (SpA.r n_7)))),.int .i64 (Ca.date (Ca.out (splA (SpA.n n_7) (SpA.d n_7) (SpA.r n_7)))),.str (Ca.ratio (Ca.out (splA (SpA.n n_7) (SpA.d n_7) (SpA.r n_7)))),.str (Ca.extra (Ca.out (splA (SpA.n n_7) (SpA.d n_7) (SpA.r n_7))))],.box (Con.qX (Prod.fst (Ca.conv n_9.1 n_9.2))),.box [.sl n_12.1.1.length 3 (fxG n_12.1.1),.sl n_12.1.2.length 4 (chG n_12.1.2)],.box (Con.qX (Prod.fst (Ca.conv n_27.1 n_27.2)))]))))) (.ex (fun(x:Ca)=>eqL [AV.agg [AV.str (Ca.name a),AV.str (Ca.into a),AV.int .i64 (Ca.date a),AV.str (Ca.ratio a),AV.str (Ca.extra a)]] [AV.agg [AV.str (Ca.name x),AV.str (Ca.into x),AV.int .i64 (Ca.date x),AV.str (Ca.ratio x),AV.str (Ca.extra x)]]∧jk x) fun n_9=>.all (fun(r:Int)=>r=if Ca.ok n_9=true then(0:Int) else(8:Int)) fun n_10=>.ex (fun(x:Con)=>(!decide (n_10=0))=false→eqL [(Con.conA c)] [(Con.conA x)]∧Con.big x<1099511627776∧Con.nodes x≤1000000) fun n_11=>.all (fun(x:Int)=>(!decide (n_10=0))=false→x=Con.errC n_11) fun n_12=>.ite (bif !decide (n_10=0) then true else !decide (n_12=0)) (.leaf (.ret [.bool n] [.box [.str (Ca.name a),.str (Ca.into a),.int .i64 (Ca.date a),.str (Ca.ratio a),.str (Ca.extra a)],.box (Con.zf c),.box [.sl f.length 3 (fxG f),.sl w.length 4 (chG w)],.box [.str (Ca.name (Ca.out (splA (SpA.n n_7) (SpA.d n_7) (SpA.r n_7)))),.str (Ca.into (Ca.out (splA (SpA.n n_7) (SpA.d n_7) (SpA.r n_7)))),.int .i64 (Ca.date (Ca.out (splA (SpA.n n_7) (SpA.d n_7) (SpA.r n_7)))),.str (Ca.ratio (Ca.out (splA (SpA.n n_7) (SpA.d n_7) (SpA.r n_7)))),.str (Ca.extra (Ca.out (splA (SpA.n n_7) (SpA.d n_7) (SpA.r n_7))))]])) (.ex (fun(x:Con×List UInt8)=>eqL [(Con.conA c),AV.str #[(78:UInt8),(111:UInt8),(116:UInt8),(45:UInt8),(105:UInt8),(110:UInt8),(45:UInt8),(105:UInt8),(116:UInt8)].toList] [(Con.conA x.1),AV.str x.2]∧Con.big x.1<274877906944) fun n_13=>.all (fun(r:Bool)=>r=Con.men n_13.2 n_13.1) fun n_14=>.ite n_14 (.leaf (.ret [.bool n] [.box [.str #[(78:UInt8),(111:UInt8),(116:UInt8),(45:UInt8),(105:UInt8),(110:UInt8),(45:UInt8),(105:UInt8),(116:UInt8)].toList,.str (Ca.into a),.int .i64 (Ca.date a),.str (Ca.ratio a),.str (Ca.extra a)],.box (Con.zf c),.box [.sl f.length 3 (fxG f),.sl w.length 4 (chG w)],.box [.str (Ca.name (Ca.out (splA (SpA.n n_7) (SpA.d n_7) (SpA.r n_7)))),.str (Ca.into (Ca.out (splA (SpA.n n_7) (SpA.d n_7) (SpA.r n_7)))),.int .i64 (Ca.date (Ca.out (splA (SpA.n n_7) (SpA.d n_7) (SpA.r n_7)))),.str (Ca.ratio (Ca.out (splA (SpA.n n_7) (SpA.d n_7) (SpA.r n_7)))),.str (Ca.extra (Ca.out (splA (SpA.n n_7) (SpA.d n_7) (SpA.r n_7))))]])) (.ex (fun(x:Ca×Con)=>eqL [AV.agg [AV.str #[(78:UInt8),(111:UInt8),(116:UInt8),(45:UInt8),(105:UInt8),(110:UInt8),(45:UInt8),(105:UInt8),(116:UInt8)].toList,AV.str (Ca.into a),AV.int .i64 (Ca.date a),AV.str (Ca.ratio a),AV.str (Ca.extra a)],(Con.conA c)] [AV.agg [AV.str (Ca.name x.1),AV.str (Ca.into x.1),AV.int .i64 (Ca.date x.1),AV.str (Ca.ratio x.1),AV.str (Ca.extra x.1)],(Con.conA x.2)]∧qZ x.1∧Con.big x.2<67108864∧Con.nodes x.2≤1000000) fun n_15=>.all (fun(x:Unit)=>True) fun n_16=>.ex (fun(x:Con×Con)=>(bif n then decide (Prod.snd (Ca.conv n_15.1 n_15.2)=(0:Int)) else false)=true→eqL [(Con.conD (Prod.fst (Ca.conv n_15.1 n_15.2))),(Con.conA c)] [(Con.conA x.1),(Con.conA x.2)]∧Con.big x.1<1099511627776) fun n_17=>.all (fun(x:Bool)=>(bif n then decide (Prod.snd (Ca.conv n_15.1 n_15.2)=(0:Int)) else false)=true→(x=true↔n_17.1=n_17.2)) fun n_18=>.leaf (.ret [.bool (bif bif n then decide (Prod.snd (Ca.conv n_15.1 n_15.2)=(0:Int)) else false then n_18 else false)] [.box [.str #[(78:UInt8),(111:UInt8),(116:UInt8),(45:UInt8),(105:UInt8),(110:UInt8),(45:UInt8),(105:UInt8),(116:UInt8)].toList,.str (Ca.into a),.int .i64 (Ca.date a),.str (Ca.ratio a),.str (Ca.extra a)],.box (Con.zf c),.box [.sl f.length 3 (fxG f),.sl w.length 4 (chG w)],.box [.str (Ca.name (Ca.out (splA (SpA.n n_7) (SpA.d n_7) (SpA.r n_7)))),.str (Ca.into (Ca.out (splA (SpA.n n_7) (SpA.d n_7) (SpA.r n_7)))),.int .i64 (Ca.date (Ca.out (splA (SpA.n n_7) (SpA.d n_7) (SpA.r n_7)))),.str (Ca.ratio (Ca.out (splA (SpA.n n_7) (SpA.d n_7) (SpA.r n_7)))),.str (Ca.extra (Ca.out (splA (SpA.n n_7) (SpA.d n_7) (SpA.r n_7))))],.box (Con.qX (Prod.fst (Ca.conv n_15.1 n_15.2)))])))))) (by kernel_rfl) ?_
 simp only [Tree.holds,zd,inR,lo,hi,Int.toNat_natCast]
 refine⟨(),⟨trivial,trivial⟩,⟨true,rfl⟩,?_⟩
 rintro _ rfl
 have ha:eqA (.agg [.str a.name,.str a.into,.int .i64 a.date,.str a.ratio,.str a.extra]) a.av:=⟨rfl,rfl,⟨rfl,rfl⟩,rfl,rfl,trivial⟩
 have he:∀ (f:List Fx) (c:List Ch),eqA (.agg [.sl f.length 3 (fxG f),.sl c.length 4 (chG c)]) (envA f c):=fun f c=>⟨⟨rfl,rfl,za _ _ _⟩,⟨rfl,rfl,za _ _ _⟩,trivial⟩
 refine⟨a,fun _=>⟨⟨ha,trivial⟩,trivial⟩,⟨true,fun _ h=>by cases h⟩,fun b1 g1=> ?_⟩
 refine⟨c,fun _=>⟨⟨zG c,trivial⟩,hc⟩,⟨true,fun _ h=>by cases h⟩,fun b2 g2=> ?_⟩
 refine⟨(f,w),fun _=>⟨⟨he f w,trivial⟩,hv⟩,⟨true,fun _ h=>by cases h⟩,fun b3 g3=>⟨fun _=>RetR.scal hq rfl (by simp [resV]),fun h=> ?_⟩⟩
 obtain⟨hnm,rfl,rfl,rfl⟩:name.length≤1000∧b1=false∧b2=false∧b3=false:=by
  by_cases q:1000<(name.length:Int)
  ·rw [decide_eq_true q] at h; cases h
  ·rw [decide_eq_false q] at h
   cases b1<;>cases b2<;>cases b3<;>simp at h ⊢
   omega
 have hd:decide (1000<(name.length:Int))=false:=decide_eq_false (by omega)
 simp only [hd,cond_false] at g1 g2 g3
 have ht:qZ a:=g1 trivial trivial
 obtain⟨k1,k2⟩:=g2 trivial trivial
 have hfit:fitP (f,w):=g3 trivial trivial
 clear g1 g2 g3 h
 have hE:envP (f,w):=zdv hfit
 have hfl:f.length≤1000000:=by obtain⟨q1,_⟩:=hfit; simp only at q1; omega
 have hwl:w.length<2^40:=hE.2.1
 have hsm:=kH ht
 obtain⟨s,hs⟩:∃ s,splA name date [49]=s:=⟨_,rfl⟩
 have hsn:s.isNone:=by rw [← hs]; exact⟨rfl,rfl,rfl⟩
 have hst:qZ s:=by rw [← hs]; exact⟨hnm,hnm,by show 1≤1000; decide,by show 1≤1000; decide⟩
 have hsv:eqA (.agg [.str s.name,.str s.into,.int .i64 s.date,.str s.ratio,.str s.extra]) s.av:=⟨rfl,rfl,⟨rfl,rfl⟩,rfl,rfl,trivial⟩
 refine⟨⟨name,date,[49]⟩,⟨⟨rfl,⟨rfl,rfl⟩,rfl,trivial⟩,by simp only; omega,by show 1<_; decide⟩,⟨(),trivial⟩,fun _ _=> ?_⟩
 simp only [hs]
 refine⟨fun h=> ?_,fun h=> ?_⟩
 ·have hok:s.ok=true:=by
   by_cases q:s.ok=true
   ·exact q
   ·rw [if_neg q] at h; cases h
  have ho:Ca.out s=s:=by unfold Ca.out; rw [if_pos hok]
  simp only [ho]
  refine⟨(s,c),⟨⟨hsv,zG c,trivial⟩,hst,by simp only; omega,by simp only; omega⟩,⟨(),trivial⟩,fun _ _=> ?_⟩
  refine⟨(s,f,w),⟨⟨hsv,he f w,trivial⟩,kH hst,hE,hfl⟩,⟨_,rfl⟩,?_⟩
  rintro _ rfl
  simp only [Ca.zd2 hsn hok,Ca.XD hsn hok]
  obtain⟨P1,hP1⟩:∃ P,(if c.errC=0 then(c,(0:Int)) else(Con.nil,c.errC))=P:=⟨_,rfl⟩
  obtain⟨P2,hP2⟩:∃ P,(if errE f w=0 then((f,w),(0:Int)) else(([],[]),errE f w))=P:=⟨_,rfl⟩
  simp only [hP1,hP2]
  have p1:P1.2=c.errC:=by rw [← hP1]; split<;>simp_all
  have p2:P2.2=errE f w:=by rw [← hP2]; split<;>simp_all
  have p3:P1.2=0→P1.1=c:=fun h=>by rw [p1] at h; rw [← hP1,if_pos h]
  have p4:P2.2=0→P2.1=(f,w):=fun h=>by rw [p2] at h; rw [← hP2,if_pos h]
  refine⟨c,⟨⟨zG c,trivial⟩,by omega,by omega⟩,⟨_,rfl⟩,fun m1 hm1=> ?_⟩
  replace hm1:m1=P1.2:=hm1.trans p1.symm
  refine⟨(c,c),fun h=>⟨⟨by rw [p3 (of_decide_eq_true h.2)]; exact J4 c,zG c,trivial⟩,by simp only; omega⟩,(wJ _).imp fun _ h _=>h,fun r1 h1=> ?_⟩
  have q1:(bif !decide (P1.2=m1) then true else bif decide (P1.2=0) then !r1 else false)=false:=by
   rw [decide_eq_true hm1.symm]
   cases hx:decide (P1.2=0) with
   | false=>rfl
   | true=>rw [(h1 ⟨by rw [decide_eq_true hm1.symm]; rfl,hx⟩).2 rfl]; rfl
  simp only [q1,cond_false]
  refine⟨(f,w),fun _=>⟨⟨he f w,trivial⟩,hE⟩,⟨_,fun _=>rfl⟩,fun m2 hm2=> ?_⟩
  replace hm2:m2=P2.2:=(hm2 trivial).trans p2.symm
  refine⟨((f,w),(f,w)),fun h=>⟨⟨by rw [p4 (of_decide_eq_true h.2)]; exact he f w,he f w,trivial⟩,hE.1,hwl⟩,(wJ _).imp fun _ h _=>h,fun r2 h2=> ?_⟩
  have q2:(bif !decide (P2.2=m2) then true else bif decide (P2.2=0) then !r2 else false)=false:=by
   rw [decide_eq_true hm2.symm]
   cases hx:decide (P2.2=0) with
   | false=>rfl
   | true=>rw [(h2 ⟨by rw [decide_eq_true hm2.symm]; rfl,hx⟩).2 rfl]; rfl
  refine⟨fun h=>(by rw [q2] at h; cases h),fun _=> ?_⟩
  refine⟨a,⟨⟨ha,trivial⟩,hsm⟩,⟨_,rfl⟩,fun e1 he1=> ?_⟩
  refine⟨c,fun _=>⟨⟨zG c,trivial⟩,by omega,by omega⟩,⟨_,fun _=>rfl⟩,fun e2 he2=>⟨fun _=>RetR.scal hq rfl (by simp [resV]),fun h=> ?_⟩⟩
  have hh:a.ok=true∧c.errC=0:=XS he1 he2 h
  refine⟨(c,KU),⟨⟨zG c,rfl,trivial⟩,by show c.big<_; omega⟩,⟨_,rfl⟩,fun r5 hr5=>⟨fun _=>RetR.scal hq rfl (by simp [resV]),fun hm=> ?_⟩⟩
  obtain⟨b,hb⟩:∃ b:Ca,b=⟨KU,a.into,a.date,a.ratio,a.extra⟩:=⟨_,rfl⟩
  have hbv:eqA (.agg [.str [78,111,116,45,105,110,45,105,116],.str a.into,.int .i64 a.date,.str a.ratio,.str a.extra]) b.av:=by subst hb; exact⟨rfl,rfl,⟨rfl,rfl⟩,rfl,rfl,trivial⟩
  have hbt:qZ b:=by subst hb; exact⟨by show 9≤1000; decide,ht.2.1,ht.2.2.1,ht.2.2.2⟩
  have hbo:b.ok=true:=by subst hb; exact ze6 hh.1
  have hcv:b.conv c=(c,0):=Ca.K8 hbo hh.2 (by subst hb; exact hr5.symm.trans hm)
  refine⟨(b,c),⟨⟨hbv,zG c,trivial⟩,hbt,by simp only; omega,by simp only; omega⟩,⟨(),trivial⟩,fun _ _=> ?_⟩
  simp only [hcv]
  refine⟨(c,c),fun _=>⟨⟨J4 c,zG c,trivial⟩,by simp only; omega⟩,(wJ _).imp fun _ h _=>h,fun r6 h6=> ?_⟩
  obtain rfl:r6=true:=(h6 rfl).2 rfl
  exact RetR.scal hq rfl (by simp [resV])
 ·refine⟨a,⟨⟨ha,trivial⟩,hsm⟩,⟨_,rfl⟩,fun e1 he1=> ?_⟩
  refine⟨c,fun _=>⟨⟨zG c,trivial⟩,by omega,by omega⟩,⟨_,fun _=>rfl⟩,fun e2 he2=>⟨fun _=>RetR.scal hq rfl (by simp [resV]),fun h=> ?_⟩⟩
  have hh:a.ok=true∧c.errC=0:=XS he1 he2 h
  refine⟨(c,KU),⟨⟨zG c,rfl,trivial⟩,by show c.big<_; omega⟩,⟨_,rfl⟩,fun r5 hr5=>⟨fun _=>RetR.scal hq rfl (by simp [resV]),fun hm=> ?_⟩⟩
  obtain⟨b,hb⟩:∃ b:Ca,b=⟨KU,a.into,a.date,a.ratio,a.extra⟩:=⟨_,rfl⟩
  have hbv:eqA (.agg [.str [78,111,116,45,105,110,45,105,116],.str a.into,.int .i64 a.date,.str a.ratio,.str a.extra]) b.av:=by subst hb; exact⟨rfl,rfl,⟨rfl,rfl⟩,rfl,rfl,trivial⟩
  have hbt:qZ b:=by subst hb; exact⟨by show 9≤1000; decide,ht.2.1,ht.2.2.1,ht.2.2.2⟩
  have hbo:b.ok=true:=by subst hb; exact ze6 hh.1
  have hcv:b.conv c=(c,0):=Ca.K8 hbo hh.2 (by subst hb; exact hr5.symm.trans hm)
  refine⟨(b,c),⟨⟨hbv,zG c,trivial⟩,hbt,by simp only; omega,by simp only; omega⟩,⟨(),trivial⟩,fun _ _=> ?_⟩
  simp only [hcv]
  refine⟨(c,c),fun _=>⟨⟨J4 c,zG c,trivial⟩,by simp only; omega⟩,(wJ _).imp fun _ h _=>h,fun r6 h6=> ?_⟩
  obtain rfl:r6=true:=(h6 rfl).2 rfl
  exact RetR.scal hq rfl (by simp [resV])
end Go.Proofs.Tryz
end
section
namespace Go.Sx
variable [Stat]
open Go.RowKit (Below)
def E0:Nat→Prop:=Own (fun _=>False) []
theorem Vb(b:Nat):¬ E0 b:=by
 rintro(h | ⟨e,he,_⟩)
 ·exact h
 ·simp at he
def Tw(P:Program)(W:World)(t:TypeId)(cs:List Value):Prop:=∃ (H:Type) (enc:TypeId×Value→H) (base fuel:Nat) (d:DataW H) (ps:List MemPlace),DataW.trod enc P W base (fun _=>true) true fuel t cs=some (d,ps)∧∀ n∈d.weights P t,n≤reachBytes
section
variable {P:Program} {W:World} {t e:TypeId} {cs:List Value}
theorem jQ(ht:P.underlying t=some .string)(h:Tw P W t cs):∃ s:List UInt8,cs=[.string ⟨s.toArray⟩]∧s.length≤reachBytes:=by
 obtain⟨H,enc,base,fuel,d,ps,h,hw⟩:=h
 obtain⟨s,rfl,hx,_⟩:=DataW.trod_string ht h
 cases hx
 exact⟨s.data.toList,by simp,hw _ (by simp [DataW.weights])⟩
theorem kZ{k:IntKind}(ht:P.underlying t=some (.int k))(h:Tw P W t cs):∃ n,cs=[.int k n]∧(Lit.int k n).wf=true:=by
 obtain⟨H,enc,base,fuel,d,ps,h,hw⟩:=h
 obtain⟨n,rfl,hx,hwf⟩:=DataW.trod_int ht h
 exact⟨n,rfl,hwf⟩
theorem zl0(ht:P.underlying t=some .bool)(h:Tw P W t cs):∃ b,cs=[.bool b]:=by
 obtain⟨H,enc,base,fuel,d,ps,h,hw⟩:=h
 obtain⟨b,rfl,hx⟩:=DataW.trod_bool ht h
 exact⟨b,rfl⟩
theorem xV{fs:Array Field}(ht:P.underlying t=some (.struct fs))(h:Tw P W t cs):cs.length=P.cellsOf t∧∀ (i:Nat) (f:Field),fs[i]?=some f→Tw P W f.type ((cs.drop f.offset).take (P.cellsOf f.type)):=by
 obtain⟨H,enc,base,fuel,d,ps,h,hw⟩:=h
 obtain⟨xs,n,_,hx,hl,hlen,hf⟩:=DataW.trod_struct ht h
 cases hx
 refine⟨hl,fun i f hfi=> ?_⟩
 have hi:=hf i f hfi
 have hlt:i<xs.length:=by
  rw [hlen]; exact(Array.getElem?_eq_some_iff.1 hfi).1
 rw [List.getElem?_eq_getElem hlt] at hi
 refine⟨H,enc,base,n,xs[i].1,xs[i].2,hi,fun m hm=>hw m ?_⟩
 simp only [DataW.weights,ht]
 exact DataW.weights_mem_each (j:=i) (t:=f.type) (d:=xs[i].1) (by simp [hfi]) (by simp [hlt]) m hm
theorem vP{H:Type}{d:DataW H} : ∀ {l:List (DataW H)},d∈l→∀ n∈d.weights P e,n∈DataW.weightsAll P e l
 | x::l,hd,n,hn=>by
  simp only [DataW.weightsAll,List.mem_append]
  rcases List.mem_cons.1 hd with rfl | hd
  ·exact .inl hn
  ·exact .inr (vP hd n hn)
theorem zgy(ht:P.underlying t=some (.slice e))(h:Tw P W t cs):cs=[.slice none 0 0]∨∃ (a:Addr) (len cap:Nat),cs=[.slice (some a) len cap]∧len≤cap∧cap*P.bytesOf e≤reachBytes ∧
  ∀ i,i<len→∃ cs',cs'.length=P.cellsOf e∧(∀ o,o<P.cellsOf e→W.cell? ((a.add (i*P.cellsOf e)).add o)=cs'[o]?)∧Tw P W e cs':=by
 obtain⟨H,enc,base,fuel,d,ps,h,hw⟩:=h
 rcases DataW.trod_slice ht h with ⟨rfl,_⟩ | ⟨a,len,cap,elems,rest,n,_,rfl,hx,hb,hl,hm,hlen,hel,hsp,_⟩
 ·exact .inl rfl
 ·right
  cases hx
  obtain⟨hrl,_⟩:=hsp rfl
  simp only [DataW.weights,ht] at hw
  refine⟨a,len,cap,rfl,hl,?_,fun i hi=> ?_⟩
  ·have:=hw _ (List.mem_cons_self)
   simp only [List.length_map,hlen,hrl] at this
   rwa [show len+(cap - len)=cap by omega] at this
  ·have h1:=hel i hi
   have hlt:i<elems.length:=by rw [hlen]; exact hi
   rw [List.getElem?_eq_getElem hlt,Option.bind_eq_some_iff] at h1
   obtain⟨cs',h2,h3⟩:=h1
   obtain⟨_,h4,h5⟩:=World.cells?_some h2
   refine⟨cs',h4,h5,H,enc,base,n,elems[i].1,elems[i].2,h3,fun m hm2=>hw m ?_⟩
   simp only [List.mem_cons,List.mem_append]
   exact .inr (.inl (vP (d:=elems[i].1) (List.mem_map.2 ⟨elems[i],List.getElem_mem hlt,rfl⟩) m hm2))
theorem uT{α:Type}(z:α)(cell:α→Nat→AV)(good:α→Prop){sz:Nat}(ht:P.underlying t=some (.slice e))(hsz:P.cellsOf e=sz)(hpos:0<sz)
  (hel:∀ cs',Tw P W e cs'→∃ x:α,good x∧∀ o,o<sz→∃ c,cs'[o]?=some c∧c.oneCell'=true∧Rep E0 W (cell x o) [] c) (h:Tw P W t cs) :
  ∃ (l:List α) (v:Value),cs=[v]∧(∀ x∈l,good x)∧l.length*P.bytesOf e≤reachBytes∧v.oneCell'=true∧Rep E0 W (.sl l.length sz fun j=>cell (l.getD j z)) [] v:=by
 rcases zgy ht h with rfl | ⟨a,len,cap,rfl,hl,hw,hx⟩
 ·refine⟨[],_,rfl,by simp,by simp,rfl,?_⟩
  simp only [Rep]
  exact⟨none,0,rfl,Nat.le_refl _,.inl rfl⟩
 ·rw [hsz] at hx
  have hx2:∀ i,∃ x:α,i<len→good x∧∀ o,o<sz→∃ c,W.cell? ((a.add (i*sz)).add o)=some c∧c.oneCell'=true∧Rep E0 W (cell x o) [] c:=fun i=>by
   by_cases hi:i<len
   ·obtain⟨cs',h1,h2,h3⟩:=hx i hi
    obtain⟨x,hg,hc⟩:=hel cs' h3
    exact⟨x,fun _=>⟨hg,fun o ho=>by
     obtain⟨c,g1,g2,g3⟩:=hc o ho
     exact⟨c,by rw [h2 o ho,g1],g2,g3⟩⟩⟩
   ·exact⟨z,fun h=>absurd h hi⟩
  obtain⟨f,hf⟩:=Classical.axiomOfChoice hx2
  have hgd:∀ j,j<len→((List.range len).map f).getD j z=f j:=fun j hj=>by simp [List.getD,hj]
  refine⟨(List.range len).map f,_,rfl,fun x hxm=> ?_,?_,rfl,?_⟩
  ·obtain⟨i,hi,rfl⟩:=List.mem_map.1 hxm
   exact(hf i (List.mem_range.1 hi)).1
  ·simp only [List.length_map,List.length_range]
   exact Nat.le_trans (Nat.mul_le_mul_right _ hl) hw
  ·simp only [Rep,List.length_map,List.length_range]
   refine⟨some a,cap,rfl,hl,?_⟩
   rcases Nat.eq_zero_or_pos len with h0 | h0
   ·exact .inl h0
   ·right
    have hspot:a.spot=none:=by
     obtain⟨c,g1,_⟩:=(hf 0 h0).2 0 hpos
     have:=World.cell?_spot g1
     simpa [Addr.add] using this
    refine⟨a,rfl,hspot,fun j o hj ho=>⟨Vb _,?_⟩⟩
    obtain⟨c,g1,g2,g3⟩:=(hf j hj).2 o ho
    refine⟨c,?_,g2,by rw [hgd j hj]; exact g3⟩
    rw [← g1]
    obtain⟨b,off,spot⟩:=a
    simp only at hspot
    subst hspot
    congr 1
    simp only [Addr.add]
    split<;>split<;>simp_all<;>omega
theorem zd7{g:Nat}{fn:Func}{c:Code}(hf:P.funcs[g]?=some fn)(hb:fn.body=some c) (hn:(fn.name == "runtime.NumGoroutine")=false) {ctr:Ctr} (hok:zc P g ctr) {args:List AV} {vals:List Value}
  (hspec:(ctr.spec args []).holds fun r=>r=(.bool true,[])) (hr:RepL E0 W args [] vals) (hst:vT E0 W):Calls P g vals.toArray W fun e W'=>e = .returned (.bool true)∧Below W.heap.size W W':=by
 have hn':¬ fn.name = "runtime.NumGoroutine" :=by simpa using hn
 have hg:Good (fun _=>False) W []:=⟨fun b h=>h.elim,fun i e ad he=>by simp at he,hst⟩
 have hh:HRep (Own (fun _=>False) []) W [] []:=⟨rfl,fun i j e f a b he=>by simp at he,fun i e a he=>by simp at he,fun i e b he=>by simp at he⟩
 rcases hok args [] _ hspec (fun _=>rfl) (fun _=>False) W [] vals hg hh hr with ⟨_,h⟩ | ⟨v,w',h,_⟩
 ·refine h.mono ?_
  rintro e W' ⟨v,rfl,r,hs,σ',hq,h1,_,_,_,_,hx⟩
  cases hq
  simp only [Rep] at h1
  subst h1
  exact⟨rfl,hx.os,hx.tape,hx.output,hx.size,fun k hk=>hx.keep k hk fun⟨e,he,_⟩=>by simp at he⟩
 ·simp [callFunc,hf,hn',hb] at h
end
end Go.Sx
end
section
namespace Go.Sx
variable [Stat]
def TwN(P:Program)(W:World)(fuel:Nat)(t:TypeId)(cs:List Value):Prop:=∃ (H:Type) (enc:TypeId×Value→H) (base:Nat) (d:DataW H) (ps:List MemPlace),DataW.trod enc P W base (fun _=>true) true fuel t cs=some (d,ps)∧∀ n∈d.weights P t,n≤reachBytes
section
variable {P:Program} {W:World} {t e:TypeId} {cs:List Value}
theorem TwN.tw{fuel:Nat}(h:TwN P W fuel t cs):Tw P W t cs:=by
 obtain⟨H,enc,base,d,ps,h,hw⟩:=h
 exact⟨H,enc,base,fuel,d,ps,h,hw⟩
theorem Tw.twn(h:Tw P W t cs):∃ fuel,TwN P W fuel t cs:=by
 obtain⟨H,enc,base,fuel,d,ps,h,hw⟩:=h
 exact⟨fuel,H,enc,base,d,ps,h,hw⟩
theorem Qc{fuel:Nat}{fs:Array Field}(ht:P.underlying t=some (.struct fs))(h:TwN P W fuel t cs):cs.length=P.cellsOf t∧∃ n,n<fuel∧∀ (i:Nat) (f:Field),fs[i]?=some f→TwN P W n f.type ((cs.drop f.offset).take (P.cellsOf f.type)):=by
 obtain⟨H,enc,base,d,ps,h,hw⟩:=h
 obtain⟨xs,n,hn,hx,hl,hlen,hf⟩:=DataW.trod_struct ht h
 cases hx
 refine⟨hl,n,by omega,fun i f hfi=> ?_⟩
 have hi:=hf i f hfi
 have hlt:i<xs.length:=by
  rw [hlen]; exact(Array.getElem?_eq_some_iff.1 hfi).1
 rw [List.getElem?_eq_getElem hlt] at hi
 refine⟨H,enc,base,xs[i].1,xs[i].2,hi,fun m hm=>hw m ?_⟩
 simp only [DataW.weights,ht]
 exact DataW.weights_mem_each (j:=i) (t:=f.type) (d:=xs[i].1) (by simp [hfi]) (by simp [hlt]) m hm
theorem zbu{fuel:Nat}(ht:P.underlying t=some (.slice e))(h:TwN P W fuel t cs):cs=[.slice none 0 0]∨∃ (a:Addr) (len cap n:Nat),n<fuel∧cs=[.slice (some a) len cap]∧len≤cap∧cap*P.bytesOf e≤reachBytes ∧
  ∀ i,i<len→∃ cs',cs'.length=P.cellsOf e∧(∀ o,o<P.cellsOf e→W.cell? ((a.add (i*P.cellsOf e)).add o)=cs'[o]?)∧TwN P W n e cs':=by
 obtain⟨H,enc,base,d,ps,h,hw⟩:=h
 rcases DataW.trod_slice ht h with ⟨rfl,_⟩ | ⟨a,len,cap,elems,rest,n,hn,rfl,hx,hb,hl,hm,hlen,hel,hsp,_⟩
 ·exact .inl rfl
 ·right
  cases hx
  obtain⟨hrl,_⟩:=hsp rfl
  simp only [DataW.weights,ht] at hw
  refine⟨a,len,cap,n,by omega,rfl,hl,?_,fun i hi=> ?_⟩
  ·have:=hw _ (List.mem_cons_self)
   simp only [List.length_map,hlen,hrl] at this
   rwa [show len+(cap - len)=cap by omega] at this
  ·have h1:=hel i hi
   have hlt:i<elems.length:=by rw [hlen]; exact hi
   rw [List.getElem?_eq_getElem hlt,Option.bind_eq_some_iff] at h1
   obtain⟨cs',h2,h3⟩:=h1
   obtain⟨_,h4,h5⟩:=World.cells?_some h2
   refine⟨cs',h4,h5,H,enc,base,elems[i].1,elems[i].2,h3,fun m hm2=>hw m ?_⟩
   simp only [List.mem_cons,List.mem_append]
   exact .inr (.inl (vP (d:=elems[i].1) (List.mem_map.2 ⟨elems[i],List.getElem_mem hlt,rfl⟩) m hm2))
theorem Qn{α:Type}(z:α)(cell:α→Nat→AV)(good:α→Prop){sz fuel:Nat}(ht:P.underlying t=some (.slice e))(hsz:P.cellsOf e=sz)(hpos:0<sz)
  (hel:∀ n cs',n<fuel→TwN P W n e cs'→∃ x:α,good x∧∀ o,o<sz→∃ c,cs'[o]?=some c∧c.oneCell'=true∧Rep E0 W (cell x o) [] c) (h:TwN P W fuel t cs) :
  ∃ (l:List α) (v:Value),cs=[v]∧(∀ x∈l,good x)∧l.length*P.bytesOf e≤reachBytes∧v.oneCell'=true∧Rep E0 W (.sl l.length sz fun j=>cell (l.getD j z)) [] v:=by
 rcases zbu ht h with rfl | ⟨a,len,cap,n,hn,rfl,hl,hw,hx⟩
 ·refine⟨[],_,rfl,by simp,by simp,rfl,?_⟩
  simp only [Rep]
  exact⟨none,0,rfl,Nat.le_refl _,.inl rfl⟩
 ·rw [hsz] at hx
  have hx2:∀ i,∃ x:α,i<len→good x∧∀ o,o<sz→∃ c,W.cell? ((a.add (i*sz)).add o)=some c∧c.oneCell'=true∧Rep E0 W (cell x o) [] c:=fun i=>by
   by_cases hi:i<len
   ·obtain⟨cs',h1,h2,h3⟩:=hx i hi
    obtain⟨x,hg,hc⟩:=hel n cs' hn h3
    exact⟨x,fun _=>⟨hg,fun o ho=>by
     obtain⟨c,g1,g2,g3⟩:=hc o ho
     exact⟨c,by rw [h2 o ho,g1],g2,g3⟩⟩⟩
   ·exact⟨z,fun h=>absurd h hi⟩
  obtain⟨f,hf⟩:=Classical.axiomOfChoice hx2
  have hgd:∀ j,j<len→((List.range len).map f).getD j z=f j:=fun j hj=>by simp [List.getD,hj]
  refine⟨(List.range len).map f,_,rfl,fun x hxm=> ?_,?_,rfl,?_⟩
  ·obtain⟨i,hi,rfl⟩:=List.mem_map.1 hxm
   exact(hf i (List.mem_range.1 hi)).1
  ·simp only [List.length_map,List.length_range]
   exact Nat.le_trans (Nat.mul_le_mul_right _ hl) hw
  ·simp only [Rep,List.length_map,List.length_range]
   refine⟨some a,cap,rfl,hl,?_⟩
   rcases Nat.eq_zero_or_pos len with h0 | h0
   ·exact .inl h0
   ·right
    have hspot:a.spot=none:=by
     obtain⟨c,g1,_⟩:=(hf 0 h0).2 0 hpos
     have:=World.cell?_spot g1
     simpa [Addr.add] using this
    refine⟨a,rfl,hspot,fun j o hj ho=>⟨Vb _,?_⟩⟩
    obtain⟨c,g1,g2,g3⟩:=(hf j hj).2 o ho
    refine⟨c,?_,g2,by rw [hgd j hj]; exact g3⟩
    rw [← g1]
    obtain⟨b,off,spot⟩:=a
    simp only at hspot
    subst hspot
    congr 1
    simp only [Addr.add]
    split<;>split<;>simp_all<;>omega
theorem zer{H:Type}{enc:TypeId×Value→H}{base:Nat}{sp:Nat→Bool}{held:Bool}{fuel:Nat}{kd:IntKind}{ps:List Int}{q:List MemPlace}(ht:P.underlying t=some (.slice e))(he:P.underlying e=some (.int kd))(hc:P.cellsOf e=1)(hne:ps≠[])
  (h:DataW.trod enc P W base sp held fuel t cs=some (.slice (ps.map fun z=>.lit (.int kd z)) [],q)):∃ c,cs=[c]∧c.oneCell'=true∧Rep E0 W (.sl ps.length 1 fun j _=>.int kd (ps.getD j 0)) [] c:=by
 obtain⟨a,cap,rfl,hl,hel⟩:=open_row ht hc h
 refine⟨_,rfl,rfl,?_⟩
 simp only [List.length_map] at hl
 have hv:∀ j,j<ps.length→W.cell? (a.add j)=some (.int kd (ps.getD j 0)):=fun j hj=>by
  obtain⟨v,n,q',h1,h2⟩:=hel j (.lit (.int kd (ps.getD j 0))) (by simp [List.getD,hj])
  obtain⟨m,h3,h4,_⟩:=DataW.trod_int he h2
  simp only [List.cons.injEq,and_true] at h3
  simp only [Prod.mk.injEq,DataW.lit.injEq,Lit.int.injEq,true_and] at h4
  rw [h1,h3,h4.1]
 simp only [Rep,List.length_map]
 refine⟨some a,cap,rfl,hl,.inr ⟨a,rfl,?_,fun j o hj ho=>⟨Vb _,.int kd (ps.getD j 0),?_,rfl,rfl⟩⟩⟩
 ·have:=World.cell?_spot (hv 0 (List.length_pos_iff.2 hne))
  simpa [Addr.add] using this
 ·have:o=0:=by omega
  subst this
  have hs:a.spot=none:=by
   have:=World.cell?_spot (hv 0 (List.length_pos_iff.2 hne))
   simpa [Addr.add] using this
  rw [← hv j hj]
  obtain⟨b,off,spot⟩:=a
  simp only at hs
  subst hs
  congr 1
  simp only [Addr.add]
  split<;>simp_all
end
section
open Go.WideElems Go.ChangeMaps
variable {H:Type} {enc:TypeId×Value→H} {P:Program} {W:World} {base:Nat} {sp:Nat→Bool} {held:Bool}
theorem Qu{x:Lit×DataW H} : ∀ {l:List (Lit×DataW H)},x∈l.foldr DataW.insert []↔x∈l
 | []=>Iff.rfl
 | y::l=>by rw [List.foldr_cons,mem_insert_iff,Qu,List.mem_cons]
theorem za6{g:Nat}{t k e:TypeId}{kd:IntKind}{ag:Bool}{sz:Nat}{ks:List Int}{has:Int→Bool}{get:Int→Nat→AV}{fuel:Nat}{c:Value}{es0:List (Lit×DataW H)}{q:List MemPlace}
  (hg:(Stat.z g).isSome=true) (ht:P.underlying t=some (.map k e)) (hk:P.underlying k=some (.int kd)) (hc:W.cell? ⟨g,0,none⟩=some c) (hne:es0≠[])
  (h:DataW.trod enc P W base sp held fuel t [c]=some (.map es0,q))
  (hin:∀ (n:Int) (d:DataW H),(.int kd n,d)∈es0→has n=true∧∀ (v:Value) (m:Nat) (q:List MemPlace),v.formed P e=true→DataW.trod enc P W base sp held m e v.cells.toList=some (d,q) →
   match ag with
   | true=>∃ vs:List Value,v = .agg vs.toArray∧vs.length=sz∧∀ o,o<sz→∃ c,vs[o]?=some c∧Rep E0 W (get n o) [] c
   | false=>Rep E0 W (get n 0) [] v)
  (hout:∀ n,has n=true→∃ d,(.int kd n,d)∈es0):Rep E0 W (.mp kd ag sz ks has get) [] c∧∀ b,c = .map (some b)→b<W.heap.size:=by
 rcases open_map ht h with ⟨_,hx⟩ | ⟨b,es,clock,n,_,hcs,hb,_,F,hx⟩
 ·simp at hx
 ·simp only [List.cons.injEq,and_true] at hcs
  subst hcs
  simp only [Prod.mk.injEq,DataW.map.injEq] at hx
  have hkey:∀ x∈es.toList,∃ (m:Int) (z:DataW H×List MemPlace),x.key = .int kd m∧elemAt enc P W base sp held n e x.val=some z∧(.int kd m,z.1)∈es0:=by
   intro x hxm
   obtain⟨y,hy⟩:=F.reads x hxm
   have h1:=rd_key hy
   obtain⟨z,h2,h3⟩:=rd_val hy
   have h4:y∈es0:=by rw [hx.1,Qu]; exact List.mem_map.2 ⟨x,hxm,rg_of hy⟩
   have h5:mapKey P k x.key=some y.1:=by
    simp only [keyOf,hk] at h1
    exact h1
   unfold mapKey at h5
   rw [hk] at h5
   cases hxk:x.key with
   | int k' m=>
    rw [hxk] at h5
    simp only at h5
    split at h5
    ·rename_i hc2
     have h6:=Option.some.inj h5
     obtain⟨rfl,_⟩:=hc2
     refine⟨m,z,rfl,h2,?_⟩
     rw [h6,← h3]; exact h4
    ·cases h5
   | _=>rw [hxk] at h5; simp at h5
  have hlt:b<W.heap.size:=(Array.getElem?_eq_some_iff.1 hb).1
  refine⟨?_,fun b' hb'=>by cases hb'; exact hlt⟩
  simp only [Rep]
  refine⟨b,es,clock,rfl,Vb _,⟨g,Vb _,hg,hc⟩,hb,fun m=> ?_⟩
  have hspec:=MapKept.findNow_spec (d:=.int kd) (k:=.int kd m) (by simp [MapKept.IsKey]) es.toList 0 (fun x hxm=>by
   obtain⟨m',z,h1,_⟩:=hkey x hxm
   rw [h1]; simp [MapKept.IsKey])
  rcases hspec with ⟨h1,h2⟩ | ⟨j,x,h1,h2,h3⟩
  ·refine⟨fun _=>h1,fun hm=> ?_⟩
   obtain⟨d,hd⟩:=hout m hm
   rw [hx.1,Qu] at hd
   obtain⟨x,hxm,hrx⟩:=List.mem_map.1 hd
   obtain⟨y,hy⟩:=F.reads x hxm
   rw [rg_of hy] at hrx
   have h5:=rd_key hy
   rw [hrx] at h5
   obtain⟨m',z,g1,_⟩:=hkey x hxm
   have:keyOf P k x.key=some (.int kd m'):=by
    rw [g1] at h5 ⊢
    simp only [keyOf,hk,mapKey] at h5 ⊢
    split at h5
    ·rename_i hwf; rw [if_pos hwf]
    ·cases h5
   rw [this] at h5
   cases h5
   exact absurd g1 (h2 x hxm)
  ·have hxm:x∈es.toList:=List.mem_of_getElem? h2
   obtain⟨m',z,g1,g2,g3⟩:=hkey x hxm
   rw [h3] at g1
   cases g1
   obtain⟨hh,hrep⟩:=hin m z.1 g3
   refine⟨fun hf=>(by rw [hf] at hh; cases hh),fun _=>⟨_,x.val,h1,?_⟩⟩
   unfold elemAt at g2
   split at g2
   ·rename_i hfm
    exact hrep x.val n z.2 hfm g2
   ·cases g2
end
end Go.Sx
end
section
set_option maxRecDepth 100000
namespace Go.Proofs.YtlkbiennfpeoiaaGreatDoor
open Go Go.Sx Go.Nov Go.Proofs.Tryz Go.ChangeShapes Go.WideShapes Go.ChangeAt Go.RowKit
theorem jt:Tryz.prog.cellsOf 9=1:=by kernel_rfl
theorem xW:Tryz.prog.cellsOf 22=1:=by kernel_rfl
theorem vC:Tryz.prog.cellsOf 3=1:=by kernel_rfl
theorem Yp:Tryz.prog.cellsOf 4=1:=by kernel_rfl
theorem KY:Tryz.prog.cellsOf 66=3:=by kernel_rfl
theorem Xu:Tryz.prog.cellsOf 70=4:=by kernel_rfl
theorem zij:Tryz.prog.cellsOf 49=1:=by kernel_rfl
theorem zdm:Tryz.prog.cellsOf 50=1:=by kernel_rfl
theorem zd0:Tryz.prog.cellsOf 52=2:=by kernel_rfl
def zel(x:Fx):Prop:=x.name.length≤reachBytes∧x.value.length≤reachBytes
def zik(x:Ch):Prop:=x.qx.length≤reachBytes∧x.name.length≤reachBytes
theorem zh5{W:World}{cs:List Value}(h:Tw Tryz.prog W 66 cs):∃ x:Fx,zel x∧cs=[.string ⟨x.name.toArray⟩,.int .i64 x.date,.string ⟨x.value.toArray⟩]:=by
 obtain⟨hl,hf⟩:=xV Tryz.underlying66 h
 rw [KY] at hl
 match cs,hl with
 | [a,b,c],_=>
  have h0:Tw Tryz.prog W 9 (([a,b,c].drop 0).take (Tryz.prog.cellsOf 9)):=hf 0 _ rfl
  rw [jt] at h0
  replace h0:Tw Tryz.prog W 9 [a]:=h0
  have h1:Tw Tryz.prog W 3 (([a,b,c].drop 1).take (Tryz.prog.cellsOf 3)):=hf 1 _ rfl
  rw [vC] at h1
  replace h1:Tw Tryz.prog W 3 [b]:=h1
  have h2:Tw Tryz.prog W 22 (([a,b,c].drop 2).take (Tryz.prog.cellsOf 22)):=hf 2 _ rfl
  rw [xW] at h2
  replace h2:Tw Tryz.prog W 22 [c]:=h2
  obtain⟨s,e0,w0⟩:=jQ Tryz.underlying9 h0
  obtain⟨n,e1,w1⟩:=kZ Tryz.underlying3 h1
  obtain⟨u,e2,w2⟩:=jQ Tryz.underlying22 h2
  cases e0; cases e1; cases e2
  exact⟨⟨s,n,u⟩,⟨w0,w2⟩,rfl⟩
theorem zfj{W:World}{cs:List Value}(h:Tw Tryz.prog W 70 cs):∃ x:Ch,zik x∧cs=[.string ⟨x.qx.toArray⟩,.string ⟨x.name.toArray⟩,.int .i64 x.date,.bool x.first]:=by
 obtain⟨hl,hf⟩:=xV Tryz.underlying70 h
 rw [Xu] at hl
 match cs,hl with
 | [a,b,c,d],_=>
  have h0:Tw Tryz.prog W 9 (([a,b,c,d].drop 0).take (Tryz.prog.cellsOf 9)):=hf 0 _ rfl
  rw [jt] at h0
  replace h0:Tw Tryz.prog W 9 [a]:=h0
  have h1:Tw Tryz.prog W 9 (([a,b,c,d].drop 1).take (Tryz.prog.cellsOf 9)):=hf 1 _ rfl
  rw [jt] at h1
  replace h1:Tw Tryz.prog W 9 [b]:=h1
  have h2:Tw Tryz.prog W 3 (([a,b,c,d].drop 2).take (Tryz.prog.cellsOf 3)):=hf 2 _ rfl
  rw [vC] at h2
  replace h2:Tw Tryz.prog W 3 [c]:=h2
  have h3:Tw Tryz.prog W 4 (([a,b,c,d].drop 3).take (Tryz.prog.cellsOf 4)):=hf 3 _ rfl
  rw [Yp] at h3
  replace h3:Tw Tryz.prog W 4 [d]:=h3
  obtain⟨s,e0,w0⟩:=jQ Tryz.underlying9 h0
  obtain⟨u,e1,w1⟩:=jQ Tryz.underlying9 h1
  obtain⟨n,e2,w2⟩:=kZ Tryz.underlying3 h2
  obtain⟨b,e3⟩:=zl0 Tryz.underlying4 h3
  cases e0; cases e1; cases e2; cases e3
  exact⟨⟨s,u,n,b⟩,⟨w0,w1⟩,rfl⟩
theorem zbl{W:World}{cs:List Value}(h:Tw Tryz.prog W 52 cs):∃ (f:List Fx) (c:List Ch) (u v:Value),cs=[u,v]∧(∀ x∈f,zel x)∧(∀ x∈c,zik x)∧f.length*40≤reachBytes∧c.length*48≤reachBytes∧Rep E0 W (fxS f) [] u∧Rep E0 W (chS c) [] v:=by
 obtain⟨hl,hf⟩:=xV Tryz.underlying52 h
 rw [zd0] at hl
 match cs,hl with
 | [a,b],_=>
  have h0:Tw Tryz.prog W 49 (([a,b].drop 0).take (Tryz.prog.cellsOf 49)):=hf 0 _ rfl
  rw [zij] at h0
  replace h0:Tw Tryz.prog W 49 [a]:=h0
  have h1:Tw Tryz.prog W 50 (([a,b].drop 1).take (Tryz.prog.cellsOf 50)):=hf 1 _ rfl
  rw [zdm] at h1
  replace h1:Tw Tryz.prog W 50 [b]:=h1
  obtain⟨f,u,e0,gf,wf,_,rf⟩:=uT Fx.nil Fx.cell zel Tryz.underlying49 KY (by decide) (fun cs' h'=>by
   obtain⟨x,hx,rfl⟩:=zh5 h'
   refine⟨x,hx,fun o ho=> ?_⟩
   match o,ho with
   | 0,_=>exact⟨_,rfl,rfl,by simp [Fx.cell,Rep]⟩
   | 1,_=>exact⟨_,rfl,rfl,by simp [Fx.cell,Rep]⟩
   | 2,_=>exact⟨_,rfl,rfl,by simp [Fx.cell,Rep]⟩) h0
  obtain⟨c,v,e1,gc,wc,_,rc⟩:=uT Ch.nil Ch.cell zik Tryz.underlying50 Xu (by decide) (fun cs' h'=>by
   obtain⟨x,hx,rfl⟩:=zfj h'
   refine⟨x,hx,fun o ho=> ?_⟩
   match o,ho with
   | 0,_=>exact⟨_,rfl,rfl,by simp [Ch.cell,Rep]⟩
   | 1,_=>exact⟨_,rfl,rfl,by simp [Ch.cell,Rep]⟩
   | 2,_=>exact⟨_,rfl,rfl,by simp [Ch.cell,Rep]⟩
   | 3,_=>exact⟨_,rfl,rfl,by simp [Ch.cell,Rep]⟩) h1
  cases e0; cases e1
  have b1:Tryz.prog.bytesOf 66=40:=by kernel_rfl
  have b2:Tryz.prog.bytesOf 70=48:=by kernel_rfl
  rw [b1] at wf
  rw [b2] at wc
  exact⟨f,c,_,_,rfl,gf,gc,wf,wc,rf,rc⟩
theorem zl9{W:World}{cs:List Value}(h:Tw Tryz.prog W 52 cs):∃ p:List Fx×List Ch,zlo p∧Rep E0 W (envA p.1 p.2) [] (.agg cs.toArray):=by
 obtain⟨f,c,u,v,rfl,gf,gc,wf,wc,rf,rc⟩:=zbl h
 have hr:=reachBytes_lt
 refine⟨(f,c),⟨by show f.length<_; omega,by show c.length<_; omega,fun j hj=> ?_,fun j hj=> ?_⟩,?_⟩
 ·have:=gf (f.getD j Fx.nil) (by simp only at hj; simp [List.getD,hj])
  exact⟨by have:=this.1; show(f.getD j Fx.nil).name.length<_; omega,by have:=this.2; show(f.getD j Fx.nil).value.length<_; omega⟩
 ·have:=gc (c.getD j Ch.nil) (by simp only at hj; simp [List.getD,hj])
  exact⟨by have:=this.1; show(c.getD j Ch.nil).qx.length<_; omega,by have:=this.2; show(c.getD j Ch.nil).name.length<_; omega⟩
 ·simp only [RepL,Rep,envA]
  exact⟨[u,v],rfl,u,_,rfl,rf,v,_,rfl,rc,rfl⟩
theorem zkd{W:World}{t:TypeId}{cs:List Value}(ht:Tryz.prog.underlying t=some .string)(h:Tw Tryz.prog W t cs):∃ s:List UInt8,cs=[.string ⟨s.toArray⟩]∧s.length<2^49∧Rep E0 W (.str s) [] (.string ⟨s.toArray⟩):=by
 obtain⟨s,rfl,hs⟩:=jQ ht h
 have hr:=reachBytes_lt
 exact⟨s,rfl,by omega,by simp [Rep]⟩
theorem zjk{W:World}{cs:List Value}(h:Tw Tryz.prog W 3 cs):∃ n:Int,cs=[.int .i64 n]∧inR .i64 n∧Rep E0 W (.int .i64 n) [] (.int .i64 n):=by
 obtain⟨n,rfl,hn⟩:=kZ Tryz.underlying3 h
 refine⟨n,rfl,?_,by simp [Rep]⟩
 simp only [Lit.wf,Bool.and_eq_true,decide_eq_true_eq] at hn
 exact hn
theorem XL:Tryz.prog.cellsOf 5=1:=by kernel_rfl
theorem zdh:Tryz.prog.cellsOf 25=1:=by kernel_rfl
theorem QL:Tryz.prog.cellsOf 27=5:=by kernel_rfl
theorem K4:∀ {l:List Ex},(∀ x∈l,x.thin)→Ex.jY l
 | [],_=>by rw [Ex.jY]; trivial
 | x::l,h=>by rw [Ex.jY]; exact⟨h x (by simp),K4 fun y hy=>h y (by simp [hy])⟩
theorem zev{W:World} : ∀ (fuel:Nat) {cs:List Value},TwN Tryz.prog W fuel 27 cs →
  ∃ (x:Ex) (v:Value),x.thin∧cs=[.int .u8 x.kind,.string ⟨x.rat.toArray⟩,.string ⟨x.name.toArray⟩,.int .i64 x.date,v]∧v.oneCell'=true∧Rep E0 W (.sl x.sub.length 5 x.deep) [] v:=by
 intro fuel
 induction fuel using Nat.strongRecOn with
 | ind fuel ih=>
  intro cs h
  obtain⟨hl,n,hn,hf⟩:=Qc Tryz.underlying27 h
  rw [QL] at hl
  match cs,hl with
  | [a,b,c,d,e],_=>
   have h0:TwN Tryz.prog W n 5 (([a,b,c,d,e].drop 0).take (Tryz.prog.cellsOf 5)):=hf 0 _ rfl
   rw [XL] at h0
   replace h0:TwN Tryz.prog W n 5 [a]:=h0
   have h1:TwN Tryz.prog W n 22 (([a,b,c,d,e].drop 1).take (Tryz.prog.cellsOf 22)):=hf 1 _ rfl
   rw [xW] at h1
   replace h1:TwN Tryz.prog W n 22 [b]:=h1
   have h2:TwN Tryz.prog W n 9 (([a,b,c,d,e].drop 2).take (Tryz.prog.cellsOf 9)):=hf 2 _ rfl
   rw [jt] at h2
   replace h2:TwN Tryz.prog W n 9 [c]:=h2
   have h3:TwN Tryz.prog W n 3 (([a,b,c,d,e].drop 3).take (Tryz.prog.cellsOf 3)):=hf 3 _ rfl
   rw [vC] at h3
   replace h3:TwN Tryz.prog W n 3 [d]:=h3
   have h4:TwN Tryz.prog W n 25 (([a,b,c,d,e].drop 4).take (Tryz.prog.cellsOf 25)):=hf 4 _ rfl
   rw [zdh] at h4
   replace h4:TwN Tryz.prog W n 25 [e]:=h4
   obtain⟨k,e0,_⟩:=kZ Tryz.underlying5 h0.tw
   obtain⟨r,e1,w1⟩:=jQ Tryz.underlying22 h1.tw
   obtain⟨m,e2,w2⟩:=jQ Tryz.underlying9 h2.tw
   obtain⟨z,e3,_⟩:=kZ Tryz.underlying3 h3.tw
   obtain⟨l,v,e4,gl,_,hone,hr⟩:=Qn Ex.nil (fun x=>Ex.cell x.kind x.rat x.name x.date x.sub.length x.deep) Ex.thin Tryz.underlying25 QL (by decide) (fun n' cs' hn' h'=>by
    obtain⟨x,v,hx,rfl,hv,hr⟩:=ih n' (by omega) h'
    refine⟨x,hx,fun o ho=> ?_⟩
    match o,ho with
    | 0,_=>exact⟨_,rfl,rfl,by simp [Ex.cell,Rep]⟩
    | 1,_=>exact⟨_,rfl,rfl,by simp [Ex.cell,Rep]⟩
    | 2,_=>exact⟨_,rfl,rfl,by simp [Ex.cell,Rep]⟩
    | 3,_=>exact⟨_,rfl,rfl,by simp [Ex.cell,Rep]⟩
    | 4,_=>exact⟨v,rfl,hv,hr⟩) h4
   cases e0; cases e1; cases e2; cases e3; cases e4
   have hb:reachBytes≤2^48:=by decide
   refine⟨.mk k r m z l,_,?_,rfl,hone,?_⟩
   ·rw [Ex.thin]; exact⟨Nat.le_trans w1 hb,Nat.le_trans w2 hb,K4 gl⟩
   ·have hq:=Ex.zU (.mk k r m z l)
    simp only [Ex.sub] at hq ⊢
    simp only [Rep] at hr ⊢
    obtain⟨a,cap,hv,hle,hcase⟩:=hr
    refine⟨a,cap,hv,hle,hcase.imp id fun⟨ad,g1,g2,g3⟩=>⟨ad,g1,g2,fun j o hj ho=> ?_⟩⟩
    obtain⟨g4,c,g5,g6,g7⟩:=g3 j o hj ho
    refine⟨g4,c,g5,g6,?_⟩
    rw [hq j o hj ho]
    exact g7
theorem zgs:Tryz.prog.cellsOf 24=5:=by kernel_rfl
theorem zni{W:World}{cs:List Value}(h:Tw Tryz.prog W 24 cs):∃ x:Ca,True∧Rep E0 W x.av [] (.agg cs.toArray):=by
 obtain⟨hl,hf⟩:=xV Tryz.underlying24 h
 rw [zgs] at hl
 match cs,hl with
 | [a,b,c,d,e],_=>
  have h0:Tw Tryz.prog W 9 (([a,b,c,d,e].drop 0).take (Tryz.prog.cellsOf 9)):=hf 0 _ rfl
  rw [jt] at h0
  replace h0:Tw Tryz.prog W 9 [a]:=h0
  have h1:Tw Tryz.prog W 9 (([a,b,c,d,e].drop 1).take (Tryz.prog.cellsOf 9)):=hf 1 _ rfl
  rw [jt] at h1
  replace h1:Tw Tryz.prog W 9 [b]:=h1
  have h2:Tw Tryz.prog W 3 (([a,b,c,d,e].drop 2).take (Tryz.prog.cellsOf 3)):=hf 2 _ rfl
  rw [vC] at h2
  replace h2:Tw Tryz.prog W 3 [c]:=h2
  have h3:Tw Tryz.prog W 22 (([a,b,c,d,e].drop 3).take (Tryz.prog.cellsOf 22)):=hf 3 _ rfl
  rw [xW] at h3
  replace h3:Tw Tryz.prog W 22 [d]:=h3
  have h4:Tw Tryz.prog W 22 (([a,b,c,d,e].drop 4).take (Tryz.prog.cellsOf 22)):=hf 4 _ rfl
  rw [xW] at h4
  replace h4:Tw Tryz.prog W 22 [e]:=h4
  obtain⟨x0,y0,w0⟩:=jQ Tryz.underlying9 h0
  obtain⟨x1,y1,w1⟩:=jQ Tryz.underlying9 h1
  obtain⟨x2,y2,w2⟩:=kZ Tryz.underlying3 h2
  obtain⟨x3,y3,w3⟩:=jQ Tryz.underlying22 h3
  obtain⟨x4,y4,w4⟩:=jQ Tryz.underlying22 h4
  cases y0; cases y1; cases y2; cases y3; cases y4
  refine⟨⟨x0,x1,x2,x3,x4⟩,trivial,?_⟩
  simp only [RepL,Rep,Ca.av]
  exact⟨_,rfl,_,_,rfl,rfl,_,_,rfl,rfl,_,_,rfl,rfl,_,_,rfl,rfl,_,_,rfl,rfl,rfl⟩
theorem zgf:Tryz.prog.cellsOf 28=1:=by kernel_rfl
theorem zfo:Tryz.prog.cellsOf 29=1:=by kernel_rfl
theorem WR:Tryz.prog.cellsOf 31=12:=by kernel_rfl
theorem WW:∀ {l:List Con},(∀ x∈l,x.thin)→Con.jY l
 | [],_=>by rw [Con.jY]; trivial
 | x::l,h=>by rw [Con.jY]; exact⟨h x (by simp),WW fun y hy=>h y (by simp [hy])⟩
theorem QW{W:World}{n sz:Nat}{g g':Nat→Nat→AV}{v:Value}(hq:eqG n sz g g')(hr:Rep E0 W (.sl n sz g') [] v):Rep E0 W (.sl n sz g) [] v:=by
 simp only [Rep] at hr ⊢
 obtain⟨a,cap,hv,hle,hcase⟩:=hr
 refine⟨a,cap,hv,hle,hcase.imp id fun⟨ad,g1,g2,g3⟩=>⟨ad,g1,g2,fun j o hj ho=> ?_⟩⟩
 obtain⟨g4,c,g5,g6,g7⟩:=g3 j o hj ho
 exact⟨g4,c,g5,g6,by rw [hq j o hj ho]; exact g7⟩
theorem zcs{W:World} : ∀ (fuel:Nat) {cs:List Value},TwN Tryz.prog W fuel 31 cs →
  ∃ (x:Con) (u v w:Value),x.thin∧cs=[.int .u8 x.kind,.string ⟨x.src.toArray⟩,.string ⟨x.dst.toArray⟩,.string ⟨x.name.toArray⟩,.int .u8 x.x.kind,.string ⟨x.x.rat.toArray⟩,.string ⟨x.x.name.toArray⟩,.int .i64 x.x.date,u,.int .i64 x.date,v,w] ∧
   (u.oneCell'=true∧v.oneCell'=true∧w.oneCell'=true)∧Rep E0 W (.sl x.x.sub.length 5 (Ex.exG x.x.sub)) [] u∧Rep E0 W (.sl x.days.length 1 (Con.dayG x.days)) [] v∧Rep E0 W (.sl x.sub.length 12 x.deep) [] w:=by
 intro fuel
 induction fuel using Nat.strongRecOn with
 | ind fuel ih=>
  intro cs h
  obtain⟨hl,n,hn,hf⟩:=Qc Tryz.underlying31 h
  rw [WR] at hl
  match cs,hl with
  | [a,b,c,d,e0,e1,e2,e3,e4,f,g,k],_=>
   have h0:TwN Tryz.prog W n 5 (([a,b,c,d,e0,e1,e2,e3,e4,f,g,k].drop 0).take (Tryz.prog.cellsOf 5)):=hf 0 _ rfl
   rw [XL] at h0
   replace h0:TwN Tryz.prog W n 5 [a]:=h0
   have h1:TwN Tryz.prog W n 9 (([a,b,c,d,e0,e1,e2,e3,e4,f,g,k].drop 1).take (Tryz.prog.cellsOf 9)):=hf 1 _ rfl
   rw [jt] at h1
   replace h1:TwN Tryz.prog W n 9 [b]:=h1
   have h2:TwN Tryz.prog W n 9 (([a,b,c,d,e0,e1,e2,e3,e4,f,g,k].drop 2).take (Tryz.prog.cellsOf 9)):=hf 2 _ rfl
   rw [jt] at h2
   replace h2:TwN Tryz.prog W n 9 [c]:=h2
   have h3:TwN Tryz.prog W n 9 (([a,b,c,d,e0,e1,e2,e3,e4,f,g,k].drop 3).take (Tryz.prog.cellsOf 9)):=hf 3 _ rfl
   rw [jt] at h3
   replace h3:TwN Tryz.prog W n 9 [d]:=h3
   have h4:TwN Tryz.prog W n 27 (([a,b,c,d,e0,e1,e2,e3,e4,f,g,k].drop 4).take (Tryz.prog.cellsOf 27)):=hf 4 _ rfl
   rw [QL] at h4
   replace h4:TwN Tryz.prog W n 27 [e0,e1,e2,e3,e4]:=h4
   have h5:TwN Tryz.prog W n 3 (([a,b,c,d,e0,e1,e2,e3,e4,f,g,k].drop 9).take (Tryz.prog.cellsOf 3)):=hf 5 _ rfl
   rw [vC] at h5
   replace h5:TwN Tryz.prog W n 3 [f]:=h5
   have h6:TwN Tryz.prog W n 28 (([a,b,c,d,e0,e1,e2,e3,e4,f,g,k].drop 10).take (Tryz.prog.cellsOf 28)):=hf 6 _ rfl
   rw [zgf] at h6
   replace h6:TwN Tryz.prog W n 28 [g]:=h6
   have h7:TwN Tryz.prog W n 29 (([a,b,c,d,e0,e1,e2,e3,e4,f,g,k].drop 11).take (Tryz.prog.cellsOf 29)):=hf 7 _ rfl
   rw [zfo] at h7
   replace h7:TwN Tryz.prog W n 29 [k]:=h7
   obtain⟨x0,y0,_⟩:=kZ Tryz.underlying5 h0.tw
   obtain⟨x1,y1,w1⟩:=jQ Tryz.underlying9 h1.tw
   obtain⟨x2,y2,w2⟩:=jQ Tryz.underlying9 h2.tw
   obtain⟨x3,y3,w3⟩:=jQ Tryz.underlying9 h3.tw
   obtain⟨x4,u,g4,y4,o4,r4⟩:=zev n h4
   obtain⟨x5,y5,_⟩:=kZ Tryz.underlying3 h5.tw
   obtain⟨x6,v,y6,_,l6,o6,r6⟩:=uT 0 (fun(x:Int) _=>AV.int .i64 x) (fun _=>True) Tryz.underlying28 vC (by decide) (fun cs' h'=>by
    obtain⟨x,rfl,hx⟩:=kZ Tryz.underlying3 h'
    refine⟨x,trivial,fun o ho=> ?_⟩
    match o,ho with
    | 0,_=>exact⟨_,rfl,rfl,by simp [Rep]⟩) h6.tw
   obtain⟨x7,w,y7,g7,l7,o7,r7⟩:=Qn Con.nil (fun x=>Con.cell x.kind x.src x.dst x.name x.x x.date x.days x.sub.length x.deep) Con.thin Tryz.underlying29 WR (by decide) (fun n' cs' hn' h'=>by
    obtain⟨x,u,v,w,hx,rfl,⟨hu,hv,hw⟩,ru,rv,rz⟩:=ih n' (by omega) h'
    refine⟨x,hx,fun o ho=> ?_⟩
    match o,ho with
    | 0,_=>exact⟨_,rfl,rfl,by simp [Con.cell,Rep]⟩
    | 1,_=>exact⟨_,rfl,rfl,by simp [Con.cell,Rep]⟩
    | 2,_=>exact⟨_,rfl,rfl,by simp [Con.cell,Rep]⟩
    | 3,_=>exact⟨_,rfl,rfl,by simp [Con.cell,Rep]⟩
    | 4,_=>exact⟨_,rfl,rfl,by simp [Con.cell,Rep]⟩
    | 5,_=>exact⟨_,rfl,rfl,by simp [Con.cell,Rep]⟩
    | 6,_=>exact⟨_,rfl,rfl,by simp [Con.cell,Rep]⟩
    | 7,_=>exact⟨_,rfl,rfl,by simp [Con.cell,Rep]⟩
    | 8,_=>exact⟨u,rfl,hu,ru⟩
    | 9,_=>exact⟨_,rfl,rfl,by simp [Con.cell,Rep]⟩
    | 10,_=>exact⟨v,rfl,hv,rv⟩
    | 11,_=>exact⟨w,rfl,hw,rz⟩) h7
   have b6:Tryz.prog.bytesOf 3=8:=by kernel_rfl
   have b7:Tryz.prog.bytesOf 31=184:=by kernel_rfl
   rw [b6] at l6
   rw [b7] at l7
   have hb:reachBytes≤2^48:=by decide
   cases y0; cases y1; cases y2; cases y3; cases y4; cases y5; cases y6; cases y7
   refine⟨.mk x0 x1 x2 x3 x4 x5 x6 x7,_,_,_,?_,rfl,⟨o4,o6,o7⟩,?_,r6,?_⟩
   ·rw [Con.thin]; exact⟨Nat.le_trans w1 hb,Nat.le_trans w2 hb,Nat.le_trans w3 hb,g4,by omega,by omega,WW g7⟩
   ·exact QW (fun j o hj ho=>(Ex.zU x4 j o hj ho).symm) r4
   ·exact QW (Con.zU (.mk x0 x1 x2 x3 x4 x5 x6 x7)) r7
theorem zk9{W:World}{cs:List Value}(h:Tw Tryz.prog W 31 cs):∃ x:Con,x.thin∧Rep E0 W x.conA [] (.agg cs.toArray):=by
 obtain⟨fuel,h⟩:=h.twn
 obtain⟨x,u,v,w,hx,rfl,_,r1,r2,r3⟩:=zcs fuel h
 refine⟨x,hx,?_⟩
 have r4:Rep E0 W (Con.conS x.sub) [] w:=QW (fun j o hj ho=>(Con.zU x j o hj ho).symm) r3
 simp only [Con.conA,Rep,RepL]
 exact⟨_,rfl,_,_,rfl,rfl,_,_,rfl,rfl,_,_,rfl,rfl,_,_,rfl,rfl,_,_,rfl,rfl,_,_,rfl,rfl,_,_,rfl,rfl,_,_,rfl,rfl,_,_,rfl,r1,_,_,rfl,rfl,_,_,rfl,r2,_,_,rfl,r4,rfl⟩
theorem XM:Tryz.prog.cellsOf 113=1:=by kernel_rfl
theorem zin:Tryz.prog.cellsOf 151=1:=by kernel_rfl
theorem zhb:Tryz.prog.cellsOf 153=2:=by kernel_rfl
def shpE(H:Type):List (Lit×DataW H):=shpL.map fun p=>(.int .u8 p.1,.agg [.slice (p.2.1.map fun z=>.lit (.int .u8 z)) [],.lit (.int .u8 p.2.2)])
theorem zit:∀ p∈shpL,Qm p.1=some p.2∧p.2.1≠[]:=by decide
theorem zjg{k:Int}(h:jR k=true):∃ q,(k,q)∈shpL:=by
 unfold jR Qm at h
 rw [Option.isSome_map] at h
 obtain⟨p,hp⟩:=Option.isSome_iff_exists.1 h
 have h1:=List.find?_some hp
 have h2:=List.mem_of_find?_eq_some hp
 have:p.1=k:=by simpa using h1
 exact⟨p.2,by rw [← this]; exact h2⟩
theorem Ys{W:World}{cs:List Value}{fuel:Nat}{q:List MemPlace}{c:Value}(hc:W.cell? ⟨1,0,none⟩=some c)
  (h:DataW.trod (fun _=>()) Tryz.prog W 0 (fun _=>true) false fuel 155 [c]=some (.map (shpE Unit),q)) :
  Rep E0 W (.mp .u8 true 2 [] (fun k=>jR k) fun k o=>match o with
   | 0=>.sl (j9 k) 1 fun j _=>.int .u8 (qK k j)
   | _=>.int .u8 (j8 k)) [] c∧∀ b,c = .map (some b)→b<W.heap.size:=by
 refine za6 (g:=1) rfl Tryz.underlying155 Tryz.underlying5 hc (by decide) h ?_ ?_
 ·intro n d hd
  obtain⟨p,hp,he⟩:=List.mem_map.1 hd
  obtain⟨h1,h2⟩:=zit p hp
  simp only [Prod.mk.injEq,Lit.int.injEq,true_and] at he
  obtain⟨rfl,rfl⟩:=he
  refine⟨by simp [jR,h1],fun v m q' hf ht=> ?_⟩
  obtain⟨xs,n',_,hx,hl,hlen,hfs⟩:=DataW.trod_struct Tryz.underlying153 ht
  rw [zhb] at hl
  cases v with
  | agg cs=>
   simp only [Value.cells] at hl hfs
   obtain⟨cs⟩:=cs
   simp only at hl hfs
   match cs,hl with
   | [a,b],_=>
    have f0:DataW.trod _ Tryz.prog W 0 _ false n' 151 (([a,b].drop 0).take (Tryz.prog.cellsOf 151))=xs[0]?:=hfs 0 _ rfl
    have f1:DataW.trod _ Tryz.prog W 0 _ false n' 113 (([a,b].drop 1).take (Tryz.prog.cellsOf 113))=xs[1]?:=hfs 1 _ rfl
    rw [zin] at f0
    rw [XM] at f1
    match xs,hlen with
    | [x0,x1],_=>
     simp only [List.map_cons,List.map_nil,Prod.mk.injEq,DataW.agg.injEq,List.cons.injEq,and_true] at hx
     obtain⟨⟨hx0,hx1⟩,_⟩:=hx
     have f0:DataW.trod _ Tryz.prog W 0 _ false n' 151 [a]=some x0:=f0
     have f1:DataW.trod _ Tryz.prog W 0 _ false n' 113 [b]=some x1:=f1
     obtain⟨x0a,x0b⟩:=x0
     obtain⟨x1a,x1b⟩:=x1
     simp only at hx0 hx1
     subst hx0; subst hx1
     obtain⟨c0,e0,_,hr⟩:=zer Tryz.underlying151 Tryz.underlying113 XM h2 f0
     cases e0
     obtain⟨z,e1,e2,_⟩:=DataW.trod_int Tryz.underlying113 f1
     cases e1
     simp only [Prod.mk.injEq,DataW.lit.injEq,Lit.int.injEq,true_and] at e2
     refine⟨[a,.int .u8 z],rfl,rfl,fun o ho=> ?_⟩
     have g1:qu p.1=p.2.1:=by simp [qu,h1]
     have g2:j8 p.1=p.2.2:=by simp [j8,h1]
     match o,ho with
     | 0,_=>
      refine⟨a,rfl,?_⟩
      show Rep E0 W (.sl (j9 p.1) 1 fun j _=>.int .u8 (qK p.1 j)) [] a
      unfold j9 qK
      rw [g1]
      exact hr
     | 1,_=>
      refine⟨_,rfl,?_⟩
      show Rep E0 W (.int .u8 (j8 p.1)) [] _
      simp only [Rep]
      rw [g2,e2.1]
  | _=>simp [Value.formed,Tryz.underlying153] at hf
 ·intro n hn
  obtain⟨q',hq⟩:=zjg hn
  exact⟨_,List.mem_map.2 ⟨_,hq,rfl⟩⟩
theorem zk2:Tryz.prog.globalNamed "novation/observable.shapes" = some 1:=by kernel_rfl
theorem zl5:(Tryz.prog.globals[1]?).map (·.type)=some 155:=by kernel_rfl
theorem zj7:(Rows.laid_novation_observable_shapes:DataW Unit) = .map (shpE Unit):=rfl
theorem znr:Tryz.prog.globalNamed "novation/contract.parts" = some 0:=by kernel_rfl
theorem zmw:(Tryz.prog.globals[0]?).map (·.type)=some 143:=by kernel_rfl
def prtE:List (Lit×DataW Unit):=[(.int .u8 1,.lit (.int .i64 0)),(.int .u8 2,.lit (.int .i64 15)),(.int .u8 3,.lit (.int .i64 256)),(.int .u8 4,.lit (.int .i64 136)),(.int .u8 5,.lit (.int .i64 272)),(.int .u8 6,.lit (.int .i64 160)),(.int .u8 7,.lit (.int .i64 261)),(.int .u8 8,.lit (.int .i64 197)),(.int .u8 9,.lit (.int .i64 208)),(.int .u8 10,.lit (.int .i64 208))]
theorem zgj:(Rows.laid_novation_contract_parts:DataW Unit) = .map prtE:=rfl
abbrev XZ:List (String×DataW Unit):=[("novation/observable.shapes",Rows.laid_novation_observable_shapes),("novation/contract.parts",Rows.laid_novation_contract_parts)]
theorem zc2{W:World}{cs:List Value}{fuel:Nat}{q:List MemPlace}{c:Value}(hc:W.cell? ⟨0,0,none⟩=some c)
  (h:DataW.trod (fun _=>()) Tryz.prog W 0 (fun _=>true) false fuel 143 [c]=some (.map prtE,q)) :
  Rep E0 W (.mp .u8 false 1 [] (fun k=>decide (1≤k∧k≤10)) fun k _=>.int .i64 (kG k)) [] c∧∀ b,c = .map (some b)→b<W.heap.size:=by
 refine za6 (g:=0) rfl Tryz.underlying143 Tryz.underlying5 hc (by decide) h ?_ ?_
 ·intro n d hd
  have one:∀ {v:Value} {m:Nat} {q:List MemPlace} {z:Int},v.formed Tryz.prog 3=true→DataW.trod (fun _=>()) Tryz.prog W 0 (fun _=>true) false m 3 v.cells.toList=some (.lit (.int .i64 z),q)→Rep E0 W (.int .i64 z) [] v:=by
   intro v m q z hf ht
   have hcell:v.cells.toList=[v]:=by
    cases v with
    | agg _=>simp [Value.formed,Tryz.underlying3] at hf
    | _=>rfl
   rw [hcell] at ht
   obtain⟨z',e1,e2,_⟩:=DataW.trod_int Tryz.underlying3 ht
   cases e1
   simp only [Prod.mk.injEq,DataW.lit.injEq,Lit.int.injEq,true_and] at e2
   simp only [Rep]
   rw [e2.1]
  simp only [prtE,List.mem_cons,Prod.mk.injEq,Lit.int.injEq,true_and,List.not_mem_nil,or_false] at hd
  rcases hd with ⟨rfl,rfl⟩ | ⟨rfl,rfl⟩ | ⟨rfl,rfl⟩ | ⟨rfl,rfl⟩ | ⟨rfl,rfl⟩ | ⟨rfl,rfl⟩ | ⟨rfl,rfl⟩ | ⟨rfl,rfl⟩ | ⟨rfl,rfl⟩ | ⟨rfl,rfl⟩<;>exact⟨rfl,fun v m q hf ht=>one hf ht⟩
 ·intro n hn
  have hn:=of_decide_eq_true hn
  have:n=1∨n=2∨n=3∨n=4∨n=5∨n=6∨n=7∨n=8∨n=9∨n=10:=by omega
  rcases this with rfl | rfl | rfl | rfl | rfl | rfl | rfl | rfl | rfl | rfl<;>exact⟨_,by unfold prtE; simp; rfl⟩
theorem zjp{W:World}(h:laidMetH Tryz.prog XZ W):vT E0 W:=by
 rw [MakeChecks.laidMetH_plain _ _ _ (by kernel_rfl)] at h
 obtain⟨ps,⟨g0,t0,cs0,f0,p0,q0,hg0,ht0,hv0,hd0,hr0,_⟩,_,_⟩:=h
 obtain⟨g1,t1,cs1,f1,p1,q1,hg1,ht1,hv1,hd1,_,_⟩:=hr0
 obtain rfl:=Option.some.inj (zk2.symm.trans hg0)
 obtain rfl:=Option.some.inj (zl5.symm.trans ht0)
 obtain rfl:=Option.some.inj (znr.symm.trans hg1)
 obtain rfl:=Option.some.inj (zmw.symm.trans ht1)
 rw [zj7] at hd0
 rw [zgj] at hd1
 have hone:∃ c,cs0.toList=[c]:=by
  rcases Go.WideElems.open_map Tryz.underlying155 hd0 with ⟨hcs,_⟩ | ⟨b,es,clock,n,_,hcs,_⟩
  ·exact⟨_,hcs⟩
  ·exact⟨_,hcs⟩
 have hone1:∃ c,cs1.toList=[c]:=by
  rcases Go.WideElems.open_map Tryz.underlying143 hd1 with ⟨hcs,_⟩ | ⟨b,es,clock,n,_,hcs,_⟩
  ·exact⟨_,hcs⟩
  ·exact⟨_,hcs⟩
 obtain⟨c,hcs⟩:=hone
 obtain⟨c',hcs'⟩:=hone1
 rw [hcs] at hd0
 rw [hcs'] at hd1
 have k1:W.cell? ⟨1,0,none⟩=some c:=by
  have:=World.var?_cell hg0 hv0 0
  rw [Array.eq_one_of_toList hcs] at this
  simpa using this
 have k2:W.cell? ⟨0,0,none⟩=some c':=by
  have:=World.var?_cell hg1 hv1 0
  rw [Array.eq_one_of_toList hcs'] at this
  simpa using this
 obtain⟨r1,b1⟩:=Ys (cs:=[c]) k1 hd0
 obtain⟨r2,b2⟩:=zc2 (cs:=[c']) k2 hd1
 refine⟨fun g a hz=>⟨Vb _,?_⟩⟩
 by_cases hg:g=1
 ·subst hg
  cases hz
  exact⟨c,k1,r1,b1⟩
 ·by_cases hg2:g=0
  ·subst hg2
   cases hz
   exact⟨c',k2,r2,b2⟩
  ·have:Stat.z g=none:=by
    show(if _ then _ else if _ then _ else _)=_
    rw [if_neg hg,if_neg hg2]
   rw [this] at hz; cases hz
theorem walk{W:World}{v0 v1 v2 v3 v4:List Value}(h0:Tw Tryz.prog W 9 v0)(h1:Tw Tryz.prog W 3 v1)(h2:Tw Tryz.prog W 24 v2)(h3:Tw Tryz.prog W 31 v3)(h4:Tw Tryz.prog W 52 v4)(hst:vT E0 W) :
  ∃ s0:Value,v0=[s0]∧∃ s1:Value,v1=[s1]∧Calls Tryz.prog 4 #[s0,s1,.agg v2.toArray,.agg v3.toArray,.agg v4.toArray] W fun e W'=>e = .returned (.bool true)∧Below W.heap.size W W':=by
 obtain⟨name,rfl,nameg,namer⟩:=zkd Tryz.underlying9 h0
 obtain⟨date,rfl,dateg,dater⟩:=zjk h1
 obtain⟨a,ag,ar⟩:=zni h2
 obtain⟨c,cg,cr⟩:=zk9 h3
 obtain⟨v,vg,vr⟩:=zl9 h4
 refine⟨_,rfl,?_⟩
 refine⟨_,rfl,?_⟩
 refine zd7 (fn:=Tryz.f4) (c:=Tryz.f4.body.getD .skip) rfl rfl rfl zh8 (args:=[.str name,.int .i64 date,a.av,c.conA,envA v.1 v.2]) (vals:=[.string ⟨name.toArray⟩,.int .i64 date,.agg v2.toArray,.agg v3.toArray,.agg v4.toArray]) ?_ ?_ hst
 ·refine⟨⟨name,date,a,c,v⟩,⟨?_,⟨cg,vg⟩⟩,⟨true,rfl⟩,?_⟩
  ·simp [eqL,eqA,eqA0,eqL0,envA,fxS,chS,Fx.av,Ch.av,Ex.exA,Ex.exS,Ca.av,Con.conA,Con.dayS,Con.conS,za]
  ·rintro _ rfl
   rfl
 ·exact⟨_,_,rfl,namer,⟨_,_,rfl,dater,⟨_,_,rfl,ar,⟨_,_,rfl,cr,⟨_,_,rfl,vr,rfl⟩⟩⟩⟩⟩
theorem own:ownKnob Tryz.prog.godebug=none:=by kernel_rfl
theorem laid:laidOutB Tryz.prog=true:=by kernel_rfl
theorem zdr(os:Os)(args:Array Value):laidMetH Tryz.prog XZ ((World.doorLaid Tryz.prog 400 os).forCall (fun _ _=>0) ⟨#[],args,[]⟩).memory:=
 laidMetH_of_parts3 (fuel:=8) (laidMet_of_run' 8 (by kernel_rfl) (by kernel_rfl)) (by kernel_rfl) (by kernel_rfl)
theorem lifted(os:Os)(started:os.Started)(H:Type)(enc:TypeId×Value→H) :
  ReturnsInHanded {} Tryz.checked os 4 .any (fun w args=>(Rows.corporateSameSpec.pre enc Tryz.prog Tryz.f4 [] false w args∧laidMetH Tryz.prog XZ w)∧sizedMet enc Tryz.prog Tryz.f4 (OpenSpec.ofChange Rows.corporateSameSpec) false w args)
   (Rows.corporateSameSpec.post enc Tryz.prog Tryz.f4 false true false false):=by
 refine returnsInHanded_of_change_and (C:=Tryz.checked) (X:=fun w _=>laidMetH Tryz.prog XZ w) (fun _ _ _ hh h=>h.of_heap hh) own started (by kernel_rfl) Tryz.func4
  (ChangeSpec.witness_shaped (enc:=enc) (C:=Tryz.checked) (os:=os) (X:=fun w _=>laidMetH Tryz.prog XZ w) false (World.doorLaid Tryz.prog 400 os) #[.string ⟨#[]⟩,.int .i64 0,.agg #[.string ⟨#[]⟩,.string ⟨#[]⟩,.int .i64 0,.string ⟨#[]⟩,.string ⟨#[]⟩],.agg #[.int .u8 0,.string ⟨#[]⟩,.string ⟨#[]⟩,.string ⟨#[]⟩,.int .u8 0,.string ⟨#[]⟩,.string ⟨#[]⟩,.int .i64 0,.slice none 0 0,.int .i64 0,.slice none 0 0,.slice none 0 0],.agg #[.slice none 0 0,.slice none 0 0]] 8 rfl (World.shaped_of_RefB (by kernel_rfl) (by kernel_rfl)) (by kernel_rfl) (by kernel_rfl) (by kernel_rfl) (zdr os _)) ?_
 intro W base args ds gs before hval0 hW hcnd hwt hL _
 have hval:∀ (j:Nat) t v,Tryz.f4.params[j]?=some t→args[j]?=some v→Value.okWide Tryz.prog W .any base t v:=hval0
 have hW':=hW
 obtain⟨p,q,hA0,hV,rfl,hfz,hnd⟩:=hW
 have hA:DataW.TrodAll enc Tryz.prog W 0 (fun _=>true) true Tryz.f4.params.toList args.toList ds p:=hA0
 rw [Tryz.params4] at hA hval
 obtain⟨v0,vs0,d0,ds0,p0,q0,hargs,rfl,rfl,h0,r0⟩:=trodAll_cons hA
 obtain⟨v1,vs1,d1,ds1,p1,q1,rfl,rfl,rfl,h1,r1⟩:=trodAll_cons r0
 obtain⟨v2,vs2,d2,ds2,p2,q2,rfl,rfl,rfl,h2,r2⟩:=trodAll_cons r1
 obtain⟨v3,vs3,d3,ds3,p3,q3,rfl,rfl,rfl,h3,r3⟩:=trodAll_cons r2
 obtain⟨v4,vs4,d4,ds4,p4,q4,rfl,rfl,rfl,h4,r4⟩:=trodAll_cons r3
 obtain⟨rfl,rfl,rfl⟩:=trodAll_nil r4
 obtain rfl:args = #[v0,v1,v2,v3,v4]:=by cases args; simp_all
 obtain⟨rfl,rfl⟩:=trodVars_none hV
 clear hA0 hval0
 simp only [List.append_nil] at hW' hwt
 have hw:∀ (j:Nat) (t:TypeId) (d:DataW H),[9,3,24,31,52][j]?=some t→[d0,d1,d2,d3,d4][j]?=some d→∀ n∈d.weights Tryz.prog t,n≤reachBytes:=fun j t d ht hd n hn=>by
  have:=List.all_eq_true.1 hwt n (DataW.weights_mem_each (j:=j) (t:=t) (d:=d) (by exact ht) (by exact hd) n hn)
  simpa using this
 obtain⟨c0,rfl⟩:=okWide_string Tryz.underlying9 (hval 0 9 v0 rfl rfl)
 obtain⟨c1,rfl⟩:=okWide_int Tryz.underlying3 (hval 1 3 v1 rfl rfl)
 obtain⟨c2,rfl,_⟩:=okWide_struct Tryz.underlying24 (hval 2 24 v2 rfl rfl)
 obtain⟨c3,rfl,_⟩:=okWide_struct Tryz.underlying31 (hval 3 31 v3 rfl rfl)
 obtain⟨c4,rfl,_⟩:=okWide_struct Tryz.underlying52 (hval 4 52 v4 rfl rfl)
 have t0:Tw Tryz.prog W 9 [.string c0]:=by
  obtain⟨fuel,hf⟩:=h0
  exact⟨H,enc,0,fuel,d0,p0,by simpa [Value.cells] using hf,hw 0 _ d0 rfl rfl⟩
 have t1:Tw Tryz.prog W 3 [.int .i64 c1]:=by
  obtain⟨fuel,hf⟩:=h1
  exact⟨H,enc,0,fuel,d1,p1,by simpa [Value.cells] using hf,hw 1 _ d1 rfl rfl⟩
 have t2:Tw Tryz.prog W 24 c2.toList:=by
  obtain⟨fuel,hf⟩:=h2
  exact⟨H,enc,0,fuel,d2,p2,by simpa [Value.cells] using hf,hw 2 _ d2 rfl rfl⟩
 have t3:Tw Tryz.prog W 31 c3.toList:=by
  obtain⟨fuel,hf⟩:=h3
  exact⟨H,enc,0,fuel,d3,p3,by simpa [Value.cells] using hf,hw 3 _ d3 rfl rfl⟩
 have t4:Tw Tryz.prog W 52 c4.toList:=by
  obtain⟨fuel,hf⟩:=h4
  exact⟨H,enc,0,fuel,d4,p4,by simpa [Value.cells] using hf,hw 4 _ d4 rfl rfl⟩
 have hlt:∀ x∈p0++(p1++(p2++(p3++p4))),x.block<W.heap.size:=fun x hx=>by simpa using hW'.lt x (by simpa using hx)
 obtain⟨s0,e0,s1,e1,hcall⟩:=walk t0 t1 t2 t3 t4 (zjp hL)
 cases e0
 cases e1
 simp only [Array.toArray_toList] at hcall
 refine hcall.mono fun e W' ⟨he,hb⟩=> ?_
 subst he
 refine⟨_,rfl,_,_,_,[],p0++(p1++(p2++(p3++p4))),[],hW',trodAll_mk1 (shut_bool Tryz.underlying4 true),?_,rfl,hb.frame _,fun h=>by cases h⟩
 have H:=trodAll_cons_mk (Below.trod laid (by kernel_rfl) (of_decide_eq_true (by kernel_rfl)) h0 hb fun x hx=>hlt x (by simp [hx])) (trodAll_cons_mk (Below.trod laid (by kernel_rfl) (of_decide_eq_true (by kernel_rfl)) h1 hb fun x hx=>hlt x (by simp [hx])) (trodAll_cons_mk (Below.trod laid (by kernel_rfl) (of_decide_eq_true (by kernel_rfl)) h2 hb fun x hx=>hlt x (by simp [hx])) (trodAll_cons_mk (Below.trod laid (by kernel_rfl) (of_decide_eq_true (by kernel_rfl)) h3 hb fun x hx=>hlt x (by simp [hx])) (trodAll_cons_mk (Below.trod laid (by kernel_rfl) (of_decide_eq_true (by kernel_rfl)) h4 hb fun x hx=>hlt x (by simp [hx])) (trodAll_mk0)))))
 simp only [List.append_nil] at H
 exact H
theorem over:Rows.corporateSameRow.holds Tryz.pinned (OpenSpec.ofChange Rows.corporateSameSpec):=
 OpenClaim.holds_of_wide 4 Tryz.f4 rfl rfl rfl rfl rfl rfl rfl ⟨rfl,rfl,rfl,rfl,rfl⟩ rfl rfl rfl rfl rfl (by kernel_rfl) Tryz.func4 (by kernel_rfl)
  (of_decide_eq_true (by kernel_rfl)) (by unfold Func.isWrapper; first | (rw [if_pos (by decide +kernel)]; kernel_rfl) | (rw [if_neg (by decide +kernel)]; exact⟨rfl,rfl⟩))
  (fun os started H enc _=>lifted os started H enc)
theorem yw:Rows.CorporateSameSaid:=over
theorem corporateSame_holds:Rows.CorporateSameCardSaid:=
 Claim7.holds_tied_plain_at .later [] [.mappedDeep,.mapped] true (true, "69ccaedfd415ad9045f2381b74d6cc68628330c4f2bc993b1bea59fec527b584") false
  yw (fun _ h=>by cases h) (by kernel_rfl) (fun _ h=>by cases h) corporateSame_row_tie rfl ⟨rfl,rfl⟩ (by kernel_rfl) rfl
  (fun f fn hf hfn=>by
   obtain rfl:f=4:=Option.some.inj ((show Tryz.prog.funcNamed "novation/novationlaw22.CorporateSame" = some 4 by kernel_rfl).symm.trans hf) |>.symm
   obtain rfl:fn=Tryz.f4:=(Option.some.inj (Tryz.func4.symm.trans hfn)).symm
   exact⟨by kernel_rfl,fun j t ht=>by
    rw [Tryz.params4] at ht
    have hm:t∈[9,3,24,31,52]:=by simpa using Array.mem_of_getElem? ht
    have hall:([9,3,24,31,52].all fun u=> !Tryz.prog.wantsStandIn u)=true:=by kernel_rfl
    exact(show Tryz.prog.wantsStandIn t=false by simpa using List.all_eq_true.1 hall t hm)⟩)
  (by kernel_rfl)
end Go.Proofs.YtlkbiennfpeoiaaGreatDoor
end
