/- The law returns true for every input, and each argument reads afterwards as it read before; no condition. -/
import Derived.Test.YtomonffoihofaaaGreatDoorSxg
import Derived.SizedLaws
import Derived.ChangeArms
import Derived.Deep.Slices
import Derived.Carry
import Derived.LaidMore
import Derived.WideKeyElems2
import Derived.ProofKit
import Derived.OpenShut
import Derived.ReadAgain
import Derived.Test.YtomonffoihofaaaGreatDoorRows
import Derived.MakeChecks
import Derived.Test.YtomonffoihofaaaGreatDoorCards
import Derived.Test.YtomonffoihofaaaGreatDoorTie
import Derived.Stop.Joined
import Derived.SevenTiedAt
set_option linter.unusedVariables false
set_option linter.unusedSimpArgs false
set_option linter.unusedSectionVars false
section
namespace Go.Sx
variable [Stat]
open Go.RowKit (Below)
def E0:Nat→Prop:=Own (fun _=>False) []
theorem V7(b:Nat):¬ E0 b:=by
 rintro(h | ⟨e,he,_⟩)
 ·exact h
 ·simp at he
def Tw(P:Program)(W:World)(t:TypeId)(cs:List Value):Prop:=∃ (H:Type) (enc:TypeId×Value→H) (base fuel:Nat) (d:DataW H) (ps:List MemPlace),DataW.trod enc P W base (fun _=>true) true fuel t cs=some (d,ps)∧∀ n∈d.weights P t,n≤reachBytes
section
variable {P:Program} {W:World} {t e:TypeId} {cs:List Value}
theorem kf(ht:P.underlying t=some .string)(h:Tw P W t cs):∃ s:List UInt8,cs=[.string ⟨s.toArray⟩]∧s.length≤reachBytes:=by
 obtain⟨H,enc,base,fuel,d,ps,h,hw⟩:=h
 obtain⟨s,rfl,hx,_⟩:=DataW.trod_string ht h
 cases hx
 exact⟨s.data.toList,by simp,hw _ (by simp [DataW.weights])⟩
theorem JQ{k:IntKind}(ht:P.underlying t=some (.int k))(h:Tw P W t cs):∃ n,cs=[.int k n]∧(Lit.int k n).wf=true:=by
 obtain⟨H,enc,base,fuel,d,ps,h,hw⟩:=h
 obtain⟨n,rfl,hx,hwf⟩:=DataW.trod_int ht h
 exact⟨n,rfl,hwf⟩
theorem zev(ht:P.underlying t=some .bool)(h:Tw P W t cs):∃ b,cs=[.bool b]:=by
 obtain⟨H,enc,base,fuel,d,ps,h,hw⟩:=h
 obtain⟨b,rfl,hx⟩:=DataW.trod_bool ht h
 exact⟨b,rfl⟩
theorem xh{fs:Array Field}(ht:P.underlying t=some (.struct fs))(h:Tw P W t cs):cs.length=P.cellsOf t∧∀ (i:Nat) (f:Field),fs[i]?=some f→Tw P W f.type ((cs.drop f.offset).take (P.cellsOf f.type)):=by
 obtain⟨H,enc,base,fuel,d,ps,h,hw⟩:=h
 obtain⟨xs,n,_,hx,hl,hlen,hf⟩:=DataW.trod_struct ht h
 cases hx
 refine⟨hl,fun i f hfi=> ?_⟩
 have hi:=hf i f hfi
 have hlt:i<xs.length:=by
  rw [hlen]; exact(Array.getElem?_eq_some_iff.1 hfi).1
 rw [List.getElem?_eq_getElem hlt] at hi
 refine⟨H,enc,base,n,xs[i].1,xs[i].2,hi,fun m hm=>hw m ?_⟩
 simp only [DataW.weights,ht]
 exact DataW.weights_mem_each (j:=i) (t:=f.type) (d:=xs[i].1) (by simp [hfi]) (by simp [hlt]) m hm
theorem kA{H:Type}{d:DataW H} : ∀ {l:List (DataW H)},d∈l→∀ n∈d.weights P e,n∈DataW.weightsAll P e l
 | x::l,hd,n,hn=>by
  simp only [DataW.weightsAll,List.mem_append]
  rcases List.mem_cons.1 hd with rfl | hd
  ·exact .inl hn
  ·exact .inr (kA hd n hn)
theorem zak(ht:P.underlying t=some (.slice e))(h:Tw P W t cs):cs=[.slice none 0 0]∨∃ (a:Addr) (len cap:Nat),cs=[.slice (some a) len cap]∧len≤cap∧cap*P.bytesOf e≤reachBytes ∧
  ∀ i,i<len→∃ cs',cs'.length=P.cellsOf e∧(∀ o,o<P.cellsOf e→W.cell? ((a.add (i*P.cellsOf e)).add o)=cs'[o]?)∧Tw P W e cs':=by
 obtain⟨H,enc,base,fuel,d,ps,h,hw⟩:=h
 rcases DataW.trod_slice ht h with ⟨rfl,_⟩ | ⟨a,len,cap,elems,rest,n,_,rfl,hx,hb,hl,hm,hlen,hel,hsp,_⟩
 ·exact .inl rfl
 ·right
  cases hx
  obtain⟨hrl,_⟩:=hsp rfl
  simp only [DataW.weights,ht] at hw
  refine⟨a,len,cap,rfl,hl,?_,fun i hi=> ?_⟩
  ·have:=hw _ (List.mem_cons_self)
   simp only [List.length_map,hlen,hrl] at this
   rwa [show len+(cap - len)=cap by omega] at this
  ·have h1:=hel i hi
   have hlt:i<elems.length:=by rw [hlen]; exact hi
   rw [List.getElem?_eq_getElem hlt,Option.bind_eq_some_iff] at h1
   obtain⟨cs',h2,h3⟩:=h1
   obtain⟨_,h4,h5⟩:=World.cells?_some h2
   refine⟨cs',h4,h5,H,enc,base,n,elems[i].1,elems[i].2,h3,fun m hm2=>hw m ?_⟩
   simp only [List.mem_cons,List.mem_append]
   exact .inr (.inl (kA (d:=elems[i].1) (List.mem_map.2 ⟨elems[i],List.getElem_mem hlt,rfl⟩) m hm2))
theorem Q8{α:Type}(z:α)(cell:α→Nat→AV)(good:α→Prop){sz:Nat}(ht:P.underlying t=some (.slice e))(hsz:P.cellsOf e=sz)(hpos:0<sz)
  (hel:∀ cs',Tw P W e cs'→∃ x:α,good x∧∀ o,o<sz→∃ c,cs'[o]?=some c∧c.oneCell'=true∧Rep E0 W (cell x o) [] c) (h:Tw P W t cs) :
  ∃ (l:List α) (v:Value),cs=[v]∧(∀ x∈l,good x)∧l.length*P.bytesOf e≤reachBytes∧v.oneCell'=true∧Rep E0 W (.sl l.length sz fun j=>cell (l.getD j z)) [] v:=by
 rcases zak ht h with rfl | ⟨a,len,cap,rfl,hl,hw,hx⟩
 ·refine⟨[],_,rfl,by simp,by simp,rfl,?_⟩
  simp only [Rep]
  exact⟨none,0,rfl,Nat.le_refl _,.inl rfl⟩
 ·rw [hsz] at hx
  have hx2:∀ i,∃ x:α,i<len→good x∧∀ o,o<sz→∃ c,W.cell? ((a.add (i*sz)).add o)=some c∧c.oneCell'=true∧Rep E0 W (cell x o) [] c:=fun i=>by
   by_cases hi:i<len
   ·obtain⟨cs',h1,h2,h3⟩:=hx i hi
    obtain⟨x,hg,hc⟩:=hel cs' h3
    exact⟨x,fun _=>⟨hg,fun o ho=>by
     obtain⟨c,g1,g2,g3⟩:=hc o ho
     exact⟨c,by rw [h2 o ho,g1],g2,g3⟩⟩⟩
   ·exact⟨z,fun h=>absurd h hi⟩
  obtain⟨f,hf⟩:=Classical.axiomOfChoice hx2
  have hgd:∀ j,j<len→((List.range len).map f).getD j z=f j:=fun j hj=>by simp [List.getD,hj]
  refine⟨(List.range len).map f,_,rfl,fun x hxm=> ?_,?_,rfl,?_⟩
  ·obtain⟨i,hi,rfl⟩:=List.mem_map.1 hxm
   exact(hf i (List.mem_range.1 hi)).1
  ·simp only [List.length_map,List.length_range]
   exact Nat.le_trans (Nat.mul_le_mul_right _ hl) hw
  ·simp only [Rep,List.length_map,List.length_range]
   refine⟨some a,cap,rfl,hl,?_⟩
   rcases Nat.eq_zero_or_pos len with h0 | h0
   ·exact .inl h0
   ·right
    have hspot:a.spot=none:=by
     obtain⟨c,g1,_⟩:=(hf 0 h0).2 0 hpos
     have:=World.cell?_spot g1
     simpa [Addr.add] using this
    refine⟨a,rfl,hspot,fun j o hj ho=>⟨V7 _,?_⟩⟩
    obtain⟨c,g1,g2,g3⟩:=(hf j hj).2 o ho
    refine⟨c,?_,g2,by rw [hgd j hj]; exact g3⟩
    rw [← g1]
    obtain⟨b,off,spot⟩:=a
    simp only at hspot
    subst hspot
    congr 1
    simp only [Addr.add]
    split<;>split<;>simp_all<;>omega
theorem Uj{g:Nat}{fn:Func}{c:Code}(hf:P.funcs[g]?=some fn)(hb:fn.body=some c) (hn:(fn.name == "runtime.NumGoroutine")=false) {ctr:Ctr} (hok:zd P g ctr) {args:List AV} {vals:List Value}
  (hspec:(ctr.spec args []).holds fun r=>r=(.bool true,[])) (hr:RepL E0 W args [] vals) (hst:wT E0 W):Calls P g vals.toArray W fun e W'=>e = .returned (.bool true)∧Below W.heap.size W W':=by
 have hn':¬ fn.name = "runtime.NumGoroutine" :=by simpa using hn
 have hg:Good (fun _=>False) W []:=⟨fun b h=>h.elim,fun i e ad he=>by simp at he,hst⟩
 have hh:HRep (Own (fun _=>False) []) W [] []:=⟨rfl,fun i j e f a b he=>by simp at he,fun i e a he=>by simp at he,fun i e b he=>by simp at he⟩
 rcases hok args [] _ hspec (fun _=>rfl) (fun _=>False) W [] vals hg hh hr with ⟨_,h⟩ | ⟨v,w',h,_⟩
 ·refine h.mono ?_
  rintro e W' ⟨v,rfl,r,hs,σ',hq,h1,_,_,_,_,hx⟩
  cases hq
  simp only [Rep] at h1
  subst h1
  exact⟨rfl,hx.os,hx.tape,hx.output,hx.size,fun k hk=>hx.keep k hk fun⟨e,he,_⟩=>by simp at he⟩
 ·simp [callFunc,hf,hn',hb] at h
end
end Go.Sx
end
section
namespace Go.Sx
variable [Stat]
section
variable {P:Program} {W:World} {t e:TypeId} {cs:List Value}
theorem zbm{H:Type}{enc:TypeId×Value→H}{base:Nat}{sp:Nat→Bool}{held:Bool}{fuel:Nat}{kd:IntKind}{ps:List Int}{q:List MemPlace}(ht:P.underlying t=some (.slice e))(he:P.underlying e=some (.int kd))(hc:P.cellsOf e=1)(hne:ps≠[])
  (h:DataW.trod enc P W base sp held fuel t cs=some (.slice (ps.map fun z=>.lit (.int kd z)) [],q)):∃ c,cs=[c]∧c.oneCell'=true∧Rep E0 W (.sl ps.length 1 fun j _=>.int kd (ps.getD j 0)) [] c:=by
 obtain⟨a,cap,rfl,hl,hel⟩:=open_row ht hc h
 refine⟨_,rfl,rfl,?_⟩
 simp only [List.length_map] at hl
 have hv:∀ j,j<ps.length→W.cell? (a.add j)=some (.int kd (ps.getD j 0)):=fun j hj=>by
  obtain⟨v,n,q',h1,h2⟩:=hel j (.lit (.int kd (ps.getD j 0))) (by simp [List.getD,hj])
  obtain⟨m,h3,h4,_⟩:=DataW.trod_int he h2
  simp only [List.cons.injEq,and_true] at h3
  simp only [Prod.mk.injEq,DataW.lit.injEq,Lit.int.injEq,true_and] at h4
  rw [h1,h3,h4.1]
 simp only [Rep,List.length_map]
 refine⟨some a,cap,rfl,hl,.inr ⟨a,rfl,?_,fun j o hj ho=>⟨V7 _,.int kd (ps.getD j 0),?_,rfl,rfl⟩⟩⟩
 ·have:=World.cell?_spot (hv 0 (List.length_pos_iff.2 hne))
  simpa [Addr.add] using this
 ·have:o=0:=by omega
  subst this
  have hs:a.spot=none:=by
   have:=World.cell?_spot (hv 0 (List.length_pos_iff.2 hne))
   simpa [Addr.add] using this
  rw [← hv j hj]
  obtain⟨b,off,spot⟩:=a
  simp only at hs
  subst hs
  congr 1
  simp only [Addr.add]
  split<;>simp_all
end
section
open Go.WideElems Go.ChangeMaps
variable {H:Type} {enc:TypeId×Value→H} {P:Program} {W:World} {base:Nat} {sp:Nat→Bool} {held:Bool}
theorem Z7{x:Lit×DataW H} : ∀ {l:List (Lit×DataW H)},x∈l.foldr DataW.insert []↔x∈l
 | []=>Iff.rfl
 | y::l=>by rw [List.foldr_cons,mem_insert_iff,Z7,List.mem_cons]
theorem zde{g:Nat}{t k e:TypeId}{kd:IntKind}{ag:Bool}{sz:Nat}{ks:List Int}{has:Int→Bool}{get:Int→Nat→AV}{fuel:Nat}{c:Value}{es0:List (Lit×DataW H)}{q:List MemPlace}
  (hg:(Stat.z g).isSome=true) (ht:P.underlying t=some (.map k e)) (hk:P.underlying k=some (.int kd)) (hc:W.cell? ⟨g,0,none⟩=some c) (hne:es0≠[])
  (h:DataW.trod enc P W base sp held fuel t [c]=some (.map es0,q))
  (hin:∀ (n:Int) (d:DataW H),(.int kd n,d)∈es0→has n=true∧∀ (v:Value) (m:Nat) (q:List MemPlace),v.formed P e=true→DataW.trod enc P W base sp held m e v.cells.toList=some (d,q) →
   match ag with
   | true=>∃ vs:List Value,v = .agg vs.toArray∧vs.length=sz∧∀ o,o<sz→∃ c,vs[o]?=some c∧Rep E0 W (get n o) [] c
   | false=>Rep E0 W (get n 0) [] v)
  (hout:∀ n,has n=true→∃ d,(.int kd n,d)∈es0):Rep E0 W (.mp kd ag sz ks has get) [] c∧∀ b,c = .map (some b)→b<W.heap.size:=by
 rcases open_map ht h with ⟨_,hx⟩ | ⟨b,es,clock,n,_,hcs,hb,_,F,hx⟩
 ·simp at hx
 ·simp only [List.cons.injEq,and_true] at hcs
  subst hcs
  simp only [Prod.mk.injEq,DataW.map.injEq] at hx
  have hkey:∀ x∈es.toList,∃ (m:Int) (z:DataW H×List MemPlace),x.key = .int kd m∧elemAt enc P W base sp held n e x.val=some z∧(.int kd m,z.1)∈es0:=by
   intro x hxm
   obtain⟨y,hy⟩:=F.reads x hxm
   have h1:=rd_key hy
   obtain⟨z,h2,h3⟩:=rd_val hy
   have h4:y∈es0:=by rw [hx.1,Z7]; exact List.mem_map.2 ⟨x,hxm,rg_of hy⟩
   have h5:mapKey P k x.key=some y.1:=by
    simp only [keyOf,hk] at h1
    exact h1
   unfold mapKey at h5
   rw [hk] at h5
   cases hxk:x.key with
   | int k' m=>
    rw [hxk] at h5
    simp only at h5
    split at h5
    ·rename_i hc2
     have h6:=Option.some.inj h5
     obtain⟨rfl,_⟩:=hc2
     refine⟨m,z,rfl,h2,?_⟩
     rw [h6,← h3]; exact h4
    ·cases h5
   | _=>rw [hxk] at h5; simp at h5
  have hlt:b<W.heap.size:=(Array.getElem?_eq_some_iff.1 hb).1
  refine⟨?_,fun b' hb'=>by cases hb'; exact hlt⟩
  simp only [Rep]
  refine⟨b,es,clock,rfl,V7 _,⟨g,V7 _,hg,hc⟩,hb,fun m=> ?_⟩
  have hspec:=MapKept.findNow_spec (d:=.int kd) (k:=.int kd m) (by simp [MapKept.IsKey]) es.toList 0 (fun x hxm=>by
   obtain⟨m',z,h1,_⟩:=hkey x hxm
   rw [h1]; simp [MapKept.IsKey])
  rcases hspec with ⟨h1,h2⟩ | ⟨j,x,h1,h2,h3⟩
  ·refine⟨fun _=>h1,fun hm=> ?_⟩
   obtain⟨d,hd⟩:=hout m hm
   rw [hx.1,Z7] at hd
   obtain⟨x,hxm,hrx⟩:=List.mem_map.1 hd
   obtain⟨y,hy⟩:=F.reads x hxm
   rw [rg_of hy] at hrx
   have h5:=rd_key hy
   rw [hrx] at h5
   obtain⟨m',z,g1,_⟩:=hkey x hxm
   have:keyOf P k x.key=some (.int kd m'):=by
    rw [g1] at h5 ⊢
    simp only [keyOf,hk,mapKey] at h5 ⊢
    split at h5
    ·rename_i hwf; rw [if_pos hwf]
    ·cases h5
   rw [this] at h5
   cases h5
   exact absurd g1 (h2 x hxm)
  ·have hxm:x∈es.toList:=List.mem_of_getElem? h2
   obtain⟨m',z,g1,g2,g3⟩:=hkey x hxm
   rw [h3] at g1
   cases g1
   obtain⟨hh,hrep⟩:=hin m z.1 g3
   refine⟨fun hf=>(by rw [hf] at hh; cases hh),fun _=>⟨_,x.val,h1,?_⟩⟩
   unfold elemAt at g2
   split at g2
   ·rename_i hfm
    exact hrep x.val n z.2 hfm g2
   ·cases g2
end
end Go.Sx
end
section
set_option maxRecDepth 100000
namespace Go.Proofs.YtomonffoihofaaaGreatDoor
open Go Go.Sx Go.Nov Go.Proofs.Tryz Go.ChangeShapes Go.WideShapes Go.ChangeAt Go.RowKit
theorem vO:Tryz.prog.cellsOf 9=1:=by kernel_rfl
theorem ua:Tryz.prog.cellsOf 22=1:=by kernel_rfl
theorem yT:Tryz.prog.cellsOf 3=1:=by kernel_rfl
theorem KA:Tryz.prog.cellsOf 4=1:=by kernel_rfl
theorem VQ:Tryz.prog.cellsOf 56=3:=by kernel_rfl
theorem WQ:Tryz.prog.cellsOf 60=4:=by kernel_rfl
theorem zcz:Tryz.prog.cellsOf 25=1:=by kernel_rfl
theorem UK:Tryz.prog.cellsOf 26=1:=by kernel_rfl
theorem YW:Tryz.prog.cellsOf 28=2:=by kernel_rfl
def zbb(x:Fx):Prop:=x.name.length≤reachBytes∧x.value.length≤reachBytes
def zd0(x:Ch):Prop:=x.qi.length≤reachBytes∧x.name.length≤reachBytes
theorem zat{W:World}{cs:List Value}(h:Tw Tryz.prog W 56 cs):∃ x:Fx,zbb x∧cs=[.string ⟨x.name.toArray⟩,.int .i64 x.date,.string ⟨x.value.toArray⟩]:=by
 obtain⟨hl,hf⟩:=xh Tryz.underlying56 h
 rw [VQ] at hl
 match cs,hl with
 | [a,b,c],_=>
  have h0:Tw Tryz.prog W 9 (([a,b,c].drop 0).take (Tryz.prog.cellsOf 9)):=hf 0 _ rfl
  rw [vO] at h0
  replace h0:Tw Tryz.prog W 9 [a]:=h0
  have h1:Tw Tryz.prog W 3 (([a,b,c].drop 1).take (Tryz.prog.cellsOf 3)):=hf 1 _ rfl
  rw [yT] at h1
  replace h1:Tw Tryz.prog W 3 [b]:=h1
  have h2:Tw Tryz.prog W 22 (([a,b,c].drop 2).take (Tryz.prog.cellsOf 22)):=hf 2 _ rfl
  rw [ua] at h2
  replace h2:Tw Tryz.prog W 22 [c]:=h2
  obtain⟨s,e0,w0⟩:=kf Tryz.underlying9 h0
  obtain⟨n,e1,w1⟩:=JQ Tryz.underlying3 h1
  obtain⟨u,e2,w2⟩:=kf Tryz.underlying22 h2
  cases e0; cases e1; cases e2
  exact⟨⟨s,n,u⟩,⟨w0,w2⟩,rfl⟩
theorem zd3{W:World}{cs:List Value}(h:Tw Tryz.prog W 60 cs):∃ x:Ch,zd0 x∧cs=[.string ⟨x.qi.toArray⟩,.string ⟨x.name.toArray⟩,.int .i64 x.date,.bool x.first]:=by
 obtain⟨hl,hf⟩:=xh Tryz.underlying60 h
 rw [WQ] at hl
 match cs,hl with
 | [a,b,c,d],_=>
  have h0:Tw Tryz.prog W 9 (([a,b,c,d].drop 0).take (Tryz.prog.cellsOf 9)):=hf 0 _ rfl
  rw [vO] at h0
  replace h0:Tw Tryz.prog W 9 [a]:=h0
  have h1:Tw Tryz.prog W 9 (([a,b,c,d].drop 1).take (Tryz.prog.cellsOf 9)):=hf 1 _ rfl
  rw [vO] at h1
  replace h1:Tw Tryz.prog W 9 [b]:=h1
  have h2:Tw Tryz.prog W 3 (([a,b,c,d].drop 2).take (Tryz.prog.cellsOf 3)):=hf 2 _ rfl
  rw [yT] at h2
  replace h2:Tw Tryz.prog W 3 [c]:=h2
  have h3:Tw Tryz.prog W 4 (([a,b,c,d].drop 3).take (Tryz.prog.cellsOf 4)):=hf 3 _ rfl
  rw [KA] at h3
  replace h3:Tw Tryz.prog W 4 [d]:=h3
  obtain⟨s,e0,w0⟩:=kf Tryz.underlying9 h0
  obtain⟨u,e1,w1⟩:=kf Tryz.underlying9 h1
  obtain⟨n,e2,w2⟩:=JQ Tryz.underlying3 h2
  obtain⟨b,e3⟩:=zev Tryz.underlying4 h3
  cases e0; cases e1; cases e2; cases e3
  exact⟨⟨s,u,n,b⟩,⟨w0,w1⟩,rfl⟩
theorem YP{W:World}{cs:List Value}(h:Tw Tryz.prog W 28 cs):∃ (f:List Fx) (c:List Ch) (u v:Value),cs=[u,v]∧(∀ x∈f,zbb x)∧(∀ x∈c,zd0 x)∧f.length*40≤reachBytes∧c.length*48≤reachBytes∧Rep E0 W (fxS f) [] u∧Rep E0 W (chS c) [] v:=by
 obtain⟨hl,hf⟩:=xh Tryz.underlying28 h
 rw [YW] at hl
 match cs,hl with
 | [a,b],_=>
  have h0:Tw Tryz.prog W 25 (([a,b].drop 0).take (Tryz.prog.cellsOf 25)):=hf 0 _ rfl
  rw [zcz] at h0
  replace h0:Tw Tryz.prog W 25 [a]:=h0
  have h1:Tw Tryz.prog W 26 (([a,b].drop 1).take (Tryz.prog.cellsOf 26)):=hf 1 _ rfl
  rw [UK] at h1
  replace h1:Tw Tryz.prog W 26 [b]:=h1
  obtain⟨f,u,e0,gf,wf,_,rf⟩:=Q8 Fx.nil Fx.cell zbb Tryz.underlying25 VQ (by decide) (fun cs' h'=>by
   obtain⟨x,hx,rfl⟩:=zat h'
   refine⟨x,hx,fun o ho=> ?_⟩
   match o,ho with
   | 0,_=>exact⟨_,rfl,rfl,by simp [Fx.cell,Rep]⟩
   | 1,_=>exact⟨_,rfl,rfl,by simp [Fx.cell,Rep]⟩
   | 2,_=>exact⟨_,rfl,rfl,by simp [Fx.cell,Rep]⟩) h0
  obtain⟨c,v,e1,gc,wc,_,rc⟩:=Q8 Ch.nil Ch.cell zd0 Tryz.underlying26 WQ (by decide) (fun cs' h'=>by
   obtain⟨x,hx,rfl⟩:=zd3 h'
   refine⟨x,hx,fun o ho=> ?_⟩
   match o,ho with
   | 0,_=>exact⟨_,rfl,rfl,by simp [Ch.cell,Rep]⟩
   | 1,_=>exact⟨_,rfl,rfl,by simp [Ch.cell,Rep]⟩
   | 2,_=>exact⟨_,rfl,rfl,by simp [Ch.cell,Rep]⟩
   | 3,_=>exact⟨_,rfl,rfl,by simp [Ch.cell,Rep]⟩) h1
  cases e0; cases e1
  have b1:Tryz.prog.bytesOf 56=40:=by kernel_rfl
  have b2:Tryz.prog.bytesOf 60=48:=by kernel_rfl
  rw [b1] at wf
  rw [b2] at wc
  exact⟨f,c,_,_,rfl,gf,gc,wf,wc,rf,rc⟩
theorem zfa{W:World}{cs:List Value}(h:Tw Tryz.prog W 28 cs):∃ p:List Fx×List Ch,zbr p∧Rep E0 W (envA p.1 p.2) [] (.agg cs.toArray):=by
 obtain⟨f,c,u,v,rfl,gf,gc,wf,wc,rf,rc⟩:=YP h
 have hr:=reachBytes_lt
 refine⟨(f,c),⟨by show f.length<_; omega,by show c.length<_; omega,fun j hj=> ?_,fun j hj=> ?_⟩,?_⟩
 ·have:=gf (f.getD j Fx.nil) (by simp only at hj; simp [List.getD,hj])
  exact⟨by have:=this.1; show(f.getD j Fx.nil).name.length<_; omega,by have:=this.2; show(f.getD j Fx.nil).value.length<_; omega⟩
 ·have:=gc (c.getD j Ch.nil) (by simp only at hj; simp [List.getD,hj])
  exact⟨by have:=this.1; show(c.getD j Ch.nil).qi.length<_; omega,by have:=this.2; show(c.getD j Ch.nil).name.length<_; omega⟩
 ·simp only [RepL,Rep,envA]
  exact⟨[u,v],rfl,u,_,rfl,rf,v,_,rfl,rc,rfl⟩
theorem zdi{W:World}{t:TypeId}{cs:List Value}(ht:Tryz.prog.underlying t=some .string)(h:Tw Tryz.prog W t cs):∃ s:List UInt8,cs=[.string ⟨s.toArray⟩]∧s.length<2^49∧Rep E0 W (.str s) [] (.string ⟨s.toArray⟩):=by
 obtain⟨s,rfl,hs⟩:=kf ht h
 have hr:=reachBytes_lt
 exact⟨s,rfl,by omega,by simp [Rep]⟩
theorem zee{W:World}{cs:List Value}(h:Tw Tryz.prog W 3 cs):∃ n:Int,cs=[.int .i64 n]∧inR .i64 n∧Rep E0 W (.int .i64 n) [] (.int .i64 n):=by
 obtain⟨n,rfl,hn⟩:=JQ Tryz.underlying3 h
 refine⟨n,rfl,?_,by simp [Rep]⟩
 simp only [Lit.wf,Bool.and_eq_true,decide_eq_true_eq] at hn
 exact hn
theorem za6:Tryz.prog.cellsOf 24=5:=by kernel_rfl
theorem zgr{W:World}{cs:List Value}(h:Tw Tryz.prog W 24 cs):∃ x:Ca,True∧Rep E0 W x.av [] (.agg cs.toArray):=by
 obtain⟨hl,hf⟩:=xh Tryz.underlying24 h
 rw [za6] at hl
 match cs,hl with
 | [a,b,c,d,e],_=>
  have h0:Tw Tryz.prog W 9 (([a,b,c,d,e].drop 0).take (Tryz.prog.cellsOf 9)):=hf 0 _ rfl
  rw [vO] at h0
  replace h0:Tw Tryz.prog W 9 [a]:=h0
  have h1:Tw Tryz.prog W 9 (([a,b,c,d,e].drop 1).take (Tryz.prog.cellsOf 9)):=hf 1 _ rfl
  rw [vO] at h1
  replace h1:Tw Tryz.prog W 9 [b]:=h1
  have h2:Tw Tryz.prog W 3 (([a,b,c,d,e].drop 2).take (Tryz.prog.cellsOf 3)):=hf 2 _ rfl
  rw [yT] at h2
  replace h2:Tw Tryz.prog W 3 [c]:=h2
  have h3:Tw Tryz.prog W 22 (([a,b,c,d,e].drop 3).take (Tryz.prog.cellsOf 22)):=hf 3 _ rfl
  rw [ua] at h3
  replace h3:Tw Tryz.prog W 22 [d]:=h3
  have h4:Tw Tryz.prog W 22 (([a,b,c,d,e].drop 4).take (Tryz.prog.cellsOf 22)):=hf 4 _ rfl
  rw [ua] at h4
  replace h4:Tw Tryz.prog W 22 [e]:=h4
  obtain⟨x0,y0,w0⟩:=kf Tryz.underlying9 h0
  obtain⟨x1,y1,w1⟩:=kf Tryz.underlying9 h1
  obtain⟨x2,y2,w2⟩:=JQ Tryz.underlying3 h2
  obtain⟨x3,y3,w3⟩:=kf Tryz.underlying22 h3
  obtain⟨x4,y4,w4⟩:=kf Tryz.underlying22 h4
  cases y0; cases y1; cases y2; cases y3; cases y4
  refine⟨⟨x0,x1,x2,x3,x4⟩,trivial,?_⟩
  simp only [RepL,Rep,Ca.av]
  exact⟨_,rfl,_,_,rfl,rfl,_,_,rfl,rfl,_,_,rfl,rfl,_,_,rfl,rfl,_,_,rfl,rfl,rfl⟩
theorem V5:Tryz.prog.cellsOf 93=1:=by kernel_rfl
theorem zd2:Tryz.prog.cellsOf 127=1:=by kernel_rfl
theorem zb0:Tryz.prog.cellsOf 129=2:=by kernel_rfl
def shpE(H:Type):List (Lit×DataW H):=shpL.map fun p=>(.int .u8 p.1,.agg [.slice (p.2.1.map fun z=>.lit (.int .u8 z)) [],.lit (.int .u8 p.2.2)])
theorem zdh:∀ p∈shpL,QJ p.1=some p.2∧p.2.1≠[]:=by decide
theorem ze8{k:Int}(h:vG k=true):∃ q,(k,q)∈shpL:=by
 unfold vG QJ at h
 rw [Option.isSome_map] at h
 obtain⟨p,hp⟩:=Option.isSome_iff_exists.1 h
 have h1:=List.find?_some hp
 have h2:=List.mem_of_find?_eq_some hp
 have:p.1=k:=by simpa using h1
 exact⟨p.2,by rw [← this]; exact h2⟩
theorem KG{W:World}{cs:List Value}{fuel:Nat}{q:List MemPlace}{c:Value}(hc:W.cell? ⟨0,0,none⟩=some c)
  (h:DataW.trod (fun _=>()) Tryz.prog W 0 (fun _=>true) false fuel 131 [c]=some (.map (shpE Unit),q)) :
  Rep E0 W (.mp .u8 true 2 [] (fun k=>vG k) fun k o=>match o with
   | 0=>.sl (jb k) 1 fun j _=>.int .u8 (qp k j)
   | _=>.int .u8 (qZ k)) [] c∧∀ b,c = .map (some b)→b<W.heap.size:=by
 refine zde (g:=0) rfl Tryz.underlying131 Tryz.underlying5 hc (by decide) h ?_ ?_
 ·intro n d hd
  obtain⟨p,hp,he⟩:=List.mem_map.1 hd
  obtain⟨h1,h2⟩:=zdh p hp
  simp only [Prod.mk.injEq,Lit.int.injEq,true_and] at he
  obtain⟨rfl,rfl⟩:=he
  refine⟨by simp [vG,h1],fun v m q' hf ht=> ?_⟩
  obtain⟨xs,n',_,hx,hl,hlen,hfs⟩:=DataW.trod_struct Tryz.underlying129 ht
  rw [zb0] at hl
  cases v with
  | agg cs=>
   simp only [Value.cells] at hl hfs
   obtain⟨cs⟩:=cs
   simp only at hl hfs
   match cs,hl with
   | [a,b],_=>
    have f0:DataW.trod _ Tryz.prog W 0 _ false n' 127 (([a,b].drop 0).take (Tryz.prog.cellsOf 127))=xs[0]?:=hfs 0 _ rfl
    have f1:DataW.trod _ Tryz.prog W 0 _ false n' 93 (([a,b].drop 1).take (Tryz.prog.cellsOf 93))=xs[1]?:=hfs 1 _ rfl
    rw [zd2] at f0
    rw [V5] at f1
    match xs,hlen with
    | [x0,x1],_=>
     simp only [List.map_cons,List.map_nil,Prod.mk.injEq,DataW.agg.injEq,List.cons.injEq,and_true] at hx
     obtain⟨⟨hx0,hx1⟩,_⟩:=hx
     have f0:DataW.trod _ Tryz.prog W 0 _ false n' 127 [a]=some x0:=f0
     have f1:DataW.trod _ Tryz.prog W 0 _ false n' 93 [b]=some x1:=f1
     obtain⟨x0a,x0b⟩:=x0
     obtain⟨x1a,x1b⟩:=x1
     simp only at hx0 hx1
     subst hx0; subst hx1
     obtain⟨c0,e0,_,hr⟩:=zbm Tryz.underlying127 Tryz.underlying93 V5 h2 f0
     cases e0
     obtain⟨z,e1,e2,_⟩:=DataW.trod_int Tryz.underlying93 f1
     cases e1
     simp only [Prod.mk.injEq,DataW.lit.injEq,Lit.int.injEq,true_and] at e2
     refine⟨[a,.int .u8 z],rfl,rfl,fun o ho=> ?_⟩
     have g1:qK p.1=p.2.1:=by simp [qK,h1]
     have g2:qZ p.1=p.2.2:=by simp [qZ,h1]
     match o,ho with
     | 0,_=>
      refine⟨a,rfl,?_⟩
      show Rep E0 W (.sl (jb p.1) 1 fun j _=>.int .u8 (qp p.1 j)) [] a
      unfold jb qp
      rw [g1]
      exact hr
     | 1,_=>
      refine⟨_,rfl,?_⟩
      show Rep E0 W (.int .u8 (qZ p.1)) [] _
      simp only [Rep]
      rw [g2,e2.1]
  | _=>simp [Value.formed,Tryz.underlying129] at hf
 ·intro n hn
  obtain⟨q',hq⟩:=ze8 hn
  exact⟨_,List.mem_map.2 ⟨_,hq,rfl⟩⟩
theorem zf9:Tryz.prog.globalNamed "novation/observable.shapes" = some 0:=by kernel_rfl
theorem zf4:(Tryz.prog.globals[0]?).map (·.type)=some 131:=by kernel_rfl
theorem zdz:(Rows.laid_novation_observable_shapes:DataW Unit) = .map (shpE Unit):=rfl
theorem VS{W:World} (h:laidMet Tryz.prog [("novation/observable.shapes",Rows.laid_novation_observable_shapes)] W):∃ c,W.cell? ⟨0,0,none⟩=some c ∧
  Rep E0 W (.mp .u8 true 2 [] (fun k=>vG k) fun k o=>match o with
   | 0=>.sl (jb k) 1 fun j _=>.int .u8 (qp k j)
   | _=>.int .u8 (qZ k)) [] c∧∀ b,c = .map (some b)→b<W.heap.size:=by
 obtain⟨ps,⟨g0,t0,cs0,f0,p0,q0,hg0,ht0,hv0,hd0,_,_⟩,_,_⟩:=h
 obtain rfl:=Option.some.inj (zf9.symm.trans hg0)
 obtain rfl:=Option.some.inj (zf4.symm.trans ht0)
 rw [zdz] at hd0
 have hone:∃ c,cs0.toList=[c]:=by
  rcases Go.WideElems.open_map Tryz.underlying131 hd0 with ⟨hcs,_⟩ | ⟨b,es,clock,n,_,hcs,_⟩
  ·exact⟨_,hcs⟩
  ·exact⟨_,hcs⟩
 obtain⟨c,hcs⟩:=hone
 rw [hcs] at hd0
 have hcell:W.cell? ⟨0,0,none⟩=some c:=by
  have:=World.var?_cell hg0 hv0 0
  rw [Array.eq_one_of_toList hcs] at this
  simpa using this
 obtain⟨h1,h2⟩:=KG (cs:=[c]) hcell hd0
 exact⟨c,hcell,h1,h2⟩
abbrev VV:List (String×DataW Unit):=[("novation/observable.shapes",Rows.laid_novation_observable_shapes)]
theorem zeq{W:World}(h:laidMetH Tryz.prog VV W):wT E0 W:=by
 rw [MakeChecks.laidMetH_plain _ _ _ (by kernel_rfl)] at h
 obtain⟨c1,k1,r1,b1⟩:=VS h
 refine⟨fun g a hz=>⟨V7 _,?_⟩⟩
 by_cases hg:g=0
 ·subst hg
  cases hz
  exact⟨c1,k1,r1,b1⟩
 ·have:Stat.z g=none:=if_neg hg
  rw [this] at hz; cases hz
theorem walk{W:World}{v0 v1 v2 v3:List Value}(h0:Tw Tryz.prog W 24 v0)(h1:Tw Tryz.prog W 28 v1)(h2:Tw Tryz.prog W 9 v2)(h3:Tw Tryz.prog W 3 v3)(hst:wT E0 W) :
  ∃ s2:Value,v2=[s2]∧∃ s3:Value,v3=[s3]∧Calls Tryz.prog 3 #[.agg v0.toArray,.agg v1.toArray,s2,s3] W fun e W'=>e = .returned (.bool true)∧Below W.heap.size W W':=by
 obtain⟨a,ag,ar⟩:=zgr h0
 obtain⟨v,vg,vr⟩:=zfa h1
 obtain⟨name,rfl,nameg,namer⟩:=zdi Tryz.underlying9 h2
 obtain⟨day,rfl,dayg,dayr⟩:=zee h3
 refine⟨_,rfl,?_⟩
 refine⟨_,rfl,?_⟩
 refine Uj (fn:=Tryz.f3) (c:=Tryz.f3.body.getD .skip) rfl rfl rfl zda (args:=[a.av,envA v.1 v.2,.str name,.int .i64 day]) (vals:=[.agg v0.toArray,.agg v1.toArray,.string ⟨name.toArray⟩,.int .i64 day]) ?_ ?_ hst
 ·refine⟨⟨a,v,name,day⟩,⟨?_,vg⟩,⟨true,rfl⟩,?_⟩
  ·simp [eqL,eqA,eqA0,eqL0,envA,fxS,chS,Fx.av,Ch.av,Ex.exA,Ex.exS,Ca.av,za]
  ·rintro _ rfl
   rfl
 ·exact⟨_,_,rfl,ar,⟨_,_,rfl,vr,⟨_,_,rfl,namer,⟨_,_,rfl,dayr,rfl⟩⟩⟩⟩
theorem own:ownKnob Tryz.prog.godebug=none:=by kernel_rfl
theorem laid:laidOutB Tryz.prog=true:=by kernel_rfl
theorem UU(os:Os)(args:Array Value):laidMetH Tryz.prog VV ((World.doorLaid Tryz.prog 400 os).forCall (fun _ _=>0) ⟨#[],args,[]⟩).memory:=
 laidMetH_of_parts3 (fuel:=8) (laidMet_of_run' 8 (by kernel_rfl) (by kernel_rfl)) (by kernel_rfl) (by kernel_rfl)
theorem lifted(os:Os)(started:os.Started)(H:Type)(enc:TypeId×Value→H) :
  ReturnsInHanded {} Tryz.checked os 3 .any (fun w args=>(Rows.corporateValuesSpec.pre enc Tryz.prog Tryz.f3 [] false w args∧laidMetH Tryz.prog VV w)∧sizedMet enc Tryz.prog Tryz.f3 (OpenSpec.ofChange Rows.corporateValuesSpec) false w args)
   (Rows.corporateValuesSpec.post enc Tryz.prog Tryz.f3 false true false false):=by
 refine returnsInHanded_of_change_and (C:=Tryz.checked) (X:=fun w _=>laidMetH Tryz.prog VV w) (fun _ _ _ hh h=>h.of_heap hh) own started (by kernel_rfl) Tryz.func3
  (ChangeSpec.witness_shaped (enc:=enc) (C:=Tryz.checked) (os:=os) (X:=fun w _=>laidMetH Tryz.prog VV w) false (World.doorLaid Tryz.prog 400 os) #[.agg #[.string ⟨#[]⟩,.string ⟨#[]⟩,.int .i64 0,.string ⟨#[]⟩,.string ⟨#[]⟩],.agg #[.slice none 0 0,.slice none 0 0],.string ⟨#[]⟩,.int .i64 0] 8 rfl (World.shaped_of_RefB (by kernel_rfl) (by kernel_rfl)) (by kernel_rfl) (by kernel_rfl) (by kernel_rfl) (UU os _)) ?_
 intro W base args ds gs before hval0 hW hcnd hwt hL _
 have hval:∀ (j:Nat) t v,Tryz.f3.params[j]?=some t→args[j]?=some v→Value.okWide Tryz.prog W .any base t v:=hval0
 have hW':=hW
 obtain⟨p,q,hA0,hV,rfl,hfz,hnd⟩:=hW
 have hA:DataW.TrodAll enc Tryz.prog W 0 (fun _=>true) true Tryz.f3.params.toList args.toList ds p:=hA0
 rw [Tryz.params3] at hA hval
 obtain⟨v0,vs0,d0,ds0,p0,q0,hargs,rfl,rfl,h0,r0⟩:=trodAll_cons hA
 obtain⟨v1,vs1,d1,ds1,p1,q1,rfl,rfl,rfl,h1,r1⟩:=trodAll_cons r0
 obtain⟨v2,vs2,d2,ds2,p2,q2,rfl,rfl,rfl,h2,r2⟩:=trodAll_cons r1
 obtain⟨v3,vs3,d3,ds3,p3,q3,rfl,rfl,rfl,h3,r3⟩:=trodAll_cons r2
 obtain⟨rfl,rfl,rfl⟩:=trodAll_nil r3
 obtain rfl:args = #[v0,v1,v2,v3]:=by cases args; simp_all
 obtain⟨rfl,rfl⟩:=trodVars_none hV
 clear hA0 hval0
 simp only [List.append_nil] at hW' hwt
 have hw:∀ (j:Nat) (t:TypeId) (d:DataW H),[24,28,9,3][j]?=some t→[d0,d1,d2,d3][j]?=some d→∀ n∈d.weights Tryz.prog t,n≤reachBytes:=fun j t d ht hd n hn=>by
  have:=List.all_eq_true.1 hwt n (DataW.weights_mem_each (j:=j) (t:=t) (d:=d) (by exact ht) (by exact hd) n hn)
  simpa using this
 obtain⟨c0,rfl,_⟩:=okWide_struct Tryz.underlying24 (hval 0 24 v0 rfl rfl)
 obtain⟨c1,rfl,_⟩:=okWide_struct Tryz.underlying28 (hval 1 28 v1 rfl rfl)
 obtain⟨c2,rfl⟩:=okWide_string Tryz.underlying9 (hval 2 9 v2 rfl rfl)
 obtain⟨c3,rfl⟩:=okWide_int Tryz.underlying3 (hval 3 3 v3 rfl rfl)
 have t0:Tw Tryz.prog W 24 c0.toList:=by
  obtain⟨fuel,hf⟩:=h0
  exact⟨H,enc,0,fuel,d0,p0,by simpa [Value.cells] using hf,hw 0 _ d0 rfl rfl⟩
 have t1:Tw Tryz.prog W 28 c1.toList:=by
  obtain⟨fuel,hf⟩:=h1
  exact⟨H,enc,0,fuel,d1,p1,by simpa [Value.cells] using hf,hw 1 _ d1 rfl rfl⟩
 have t2:Tw Tryz.prog W 9 [.string c2]:=by
  obtain⟨fuel,hf⟩:=h2
  exact⟨H,enc,0,fuel,d2,p2,by simpa [Value.cells] using hf,hw 2 _ d2 rfl rfl⟩
 have t3:Tw Tryz.prog W 3 [.int .i64 c3]:=by
  obtain⟨fuel,hf⟩:=h3
  exact⟨H,enc,0,fuel,d3,p3,by simpa [Value.cells] using hf,hw 3 _ d3 rfl rfl⟩
 have hlt:∀ x∈p0++(p1++(p2++p3)),x.block<W.heap.size:=fun x hx=>by simpa using hW'.lt x (by simpa using hx)
 obtain⟨s2,e2,s3,e3,hcall⟩:=walk t0 t1 t2 t3 (zeq hL)
 cases e2
 cases e3
 simp only [Array.toArray_toList] at hcall
 refine hcall.mono fun e W' ⟨he,hb⟩=> ?_
 subst he
 refine⟨_,rfl,_,_,_,[],p0++(p1++(p2++p3)),[],hW',trodAll_mk1 (shut_bool Tryz.underlying4 true),?_,rfl,hb.frame _,fun h=>by cases h⟩
 exact trodAll_mk4 (Below.trod laid (by kernel_rfl) (of_decide_eq_true (by kernel_rfl)) h0 hb fun x hx=>hlt x (by simp [hx])) (Below.trod laid (by kernel_rfl) (of_decide_eq_true (by kernel_rfl)) h1 hb fun x hx=>hlt x (by simp [hx])) (Below.trod laid (by kernel_rfl) (of_decide_eq_true (by kernel_rfl)) h2 hb fun x hx=>hlt x (by simp [hx])) (Below.trod laid (by kernel_rfl) (of_decide_eq_true (by kernel_rfl)) h3 hb fun x hx=>hlt x (by simp [hx]))
theorem over:Rows.corporateValuesRow.holds Tryz.pinned (OpenSpec.ofChange Rows.corporateValuesSpec):=
 OpenClaim.holds_of_wide 3 Tryz.f3 rfl rfl rfl rfl rfl rfl rfl ⟨rfl,rfl,rfl,rfl,rfl⟩ rfl rfl rfl rfl rfl (by kernel_rfl) Tryz.func3 (by kernel_rfl)
  (of_decide_eq_true (by kernel_rfl)) (by unfold Func.isWrapper; first | (rw [if_pos (by decide +kernel)]; kernel_rfl) | (rw [if_neg (by decide +kernel)]; exact⟨rfl,rfl⟩))
  (fun os started H enc _=>lifted os started H enc)
theorem kC:Rows.CorporateValuesSaid:=over
theorem corporateValues_holds:Rows.CorporateValuesCardSaid:=
 Claim7.holds_tied_plain_at .later [] [.mappedDeep] true (true, "e76ba5a2e33378a47222b895f04ceaac20cdbebecb71173047c859c5919bffe3") false
  kC (fun _ h=>by cases h) (by kernel_rfl) (fun _ h=>by cases h) corporateValues_row_tie rfl ⟨rfl,rfl⟩ (by kernel_rfl) rfl
  (fun f fn hf hfn=>by
   obtain rfl:f=3:=Option.some.inj ((show Tryz.prog.funcNamed "novation/novationlaw22.CorporateValues" = some 3 by kernel_rfl).symm.trans hf) |>.symm
   obtain rfl:fn=Tryz.f3:=(Option.some.inj (Tryz.func3.symm.trans hfn)).symm
   exact⟨by kernel_rfl,fun j t ht=>by
    rw [Tryz.params3] at ht
    have hm:t∈[24,28,9,3]:=by simpa using Array.mem_of_getElem? ht
    have hall:([24,28,9,3].all fun u=> !Tryz.prog.wantsStandIn u)=true:=by kernel_rfl
    exact(show Tryz.prog.wantsStandIn t=false by simpa using List.all_eq_true.1 hall t hm)⟩)
  (by kernel_rfl)
end Go.Proofs.YtomonffoihofaaaGreatDoor
end
