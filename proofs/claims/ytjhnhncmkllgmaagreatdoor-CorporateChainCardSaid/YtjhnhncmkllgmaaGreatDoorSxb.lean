/- Part 2 of the proof. -/
import Derived.Laws.CopyRow
import Derived.Laws.Append
import Derived.Shelf.Spec.SlicesInsertGrow
import Derived.Test.YtjhnhncmkllgmaaGreatDoorProg
import Derived.Deep.LoopGhost
set_option linter.unusedVariables false
set_option linter.unusedSimpArgs false
set_option linter.unusedSectionVars false
section
namespace Go
variable {P:Program}
theorem vn(w:World)(dT sT ty elem:TypeId)(size n:Nat)(g o dLen dCap:Nat)(a:Addr)(sLen sCap:Nat)(cur:Array Value)(t:TypeId)(cs:List Value)
  (hu:P.underlying dT=some (.slice elem)) (hs:(P.info? elem).map (·.size)=some size)
  (hg:w.heap[g]?=some (.cells cur t (0,0))) (hn:n=Nat.min sLen dLen) (hcl:cs.length=n*size)
  (hsrc:∀ j v,cs[j]?=some v->w.cell? (a.add j)=some v) (hfit:o+cs.length<=cur.size) (h1:∀ v∈cs,v.oneCell'=true) :
  (Builtin.copy_ #[dT,sT] ty #[.slice (some ⟨g,o,none⟩) dLen dCap,.slice (some a) sLen sCap]).run P w =
   .ok (goInt n) (w.setRow g (cur.toList.take o++cs++cur.toList.drop (o+cs.length)).toArray):=by
 have hl:=run_firstCells_some (P:=P) w size n a sLen sCap cs hcl hsrc;have hst:=run_storeCells_at P g o t cs 0 cur w hg (by simpa using hfit) h1;cases hq:P.info? elem with
 | none=>simp [hq] at hs
 | some i=>
  have hi:i.size=size:=by simpa [hq] using hs
  simp [Builtin.copy_,run_underlying hu,Builtin.lenOf,sizeOf,typeInfo,hq,hi,<- hn,hl,hst]
end Go
end
section
namespace Go.Proofs
open Go.RowKit Go.Lib
set_option maxHeartbeats 4000000 in
set_option maxRecDepth 100000 in
theorem Tryz.Yz(b off n c i m vb voff vc:Nat)(cur vcur:Array Value)(el vel:TypeId)(cs vs:List Value)(w:World)(hm:0<m)(hi:i<n)(hroom:n+m<=c)(hn63:n+m<=140737488355328)(hvb:vb≠b)
  (hB:w.heap[b]?=some (.cells cur el (0,0))) (hV:w.heap[vb]?=some (.cells vcur vel (0,0))) (hfit:off+c*3<=cur.size)
  (hcl:cs.length=n*3) (hvl:vs.length=m*3)
  (hcs:∀ j v,cs[j]?=some v->w.cell? ⟨b,off+j,none⟩=some v)
  (hvs:∀ j v,vs[j]?=some v->w.cell? ⟨vb,voff+j,none⟩=some v) (h1c:∀ v∈cs,v.oneCell'=true) (h1v:∀ v∈vs,v.oneCell'=true)
  (X1 X2:List Value) (hX1:X1=cur.toList.take (off+(i+m)*3)++cs.drop (i*3)++cur.toList.drop (off+(i+m)*3+(cs.drop (i*3)).length)) (hX2:X2=X1.take (off+i*3)++vs++X1.drop (off+i*3+vs.length)) :
  Calls Tryz.prog 36 #[.slice (some ⟨b,off,none⟩) n c,.int .i64 i,.slice (some ⟨vb,voff,none⟩) m vc] w λe w'=>
   e = .returned (.slice (some ⟨b,off,none⟩) (n+m) c)/\w'.heap=((w.setRow b X1.toArray).setRow b X2.toArray).heap/\w'.os=w.os/\w'.tape=w.tape/\w'.output=w.output:=by
 have hz1:¬ ((m:Int)=0):=by omega
 have hw0:IntKind.i64.wrap ((n:Int)+m)=(n:Int)+m:=by rw [IntKind.wrap_i64]; omega
 have htm:((n:Int)+m).toNat=n+m:=by omega
 have hz2:¬ ((i:Int)=(n:Int)):=by omega
 have hz3:¬ ((c:Int)<(n:Int)+m):=by omega
 have hov:∀ lb cb,(callFunc 66 #[.slice (some ⟨vb,voff,none⟩) m vc,.slice (some ⟨b,off+(i+m)*3,none⟩) lb cb]).run Tryz.prog w = .ok (.value (.bool false)) w:=λlb cb=>by
  rw [run_callFunc_extern Tryz.func66 (by kernel_rfl) (by kernel_rfl) (by kernel_rfl) (e:=Extern.SlicesOverlaps.overlaps #[32,32] #[4]) (by kernel_rfl)];rw [Lib.run_overlaps_apart w 32 4 60 (by kernel_rfl) 3 (λw=>by kernel_rfl) ⟨vb,voff,none⟩ ⟨b,off+(i+m)*3,none⟩ m vc lb cb hvb vel el vcur.size cur.size (by simp [World.shape?,hV]) (by simp [World.shape?,hB]) (by omega) (by simp [World.frozen?,hV]) (by simp [World.frozen?,hV])];rfl
 have hdl:(cs.drop (i*3)).length=(n - i)*3:=by rw [List.length_drop,hcl,Nat.sub_mul]
 have hci:(i+m)*3+(n - i)*3=(n+m)*3:=by rw [<- Nat.add_mul]; congr 1; omega
 have hcn:(n+m)*3<=c*3:=Nat.mul_le_mul_right _ hroom;have hin3:i*3<=n*3:=Nat.mul_le_mul_right _ (by omega);have hcurl:cur.toList.length=cur.size:=by simp
 have hX1l:X1.length=cur.size:=by
  rw [hX1];simp only [List.length_append,List.length_take,List.length_drop,hcurl,hdl] at *
  omega
 have hcp1:∀ ty dc sc,(Builtin.copy_ #[32,32] ty #[.slice (some ⟨b,off+(i+m)*3,none⟩) (n+m - (i+m)) dc,.slice (some ⟨b,off+i*3,none⟩) (n+m - i) sc]).run Tryz.prog w.drew = .ok (goInt ((n - i:Nat):Int)) (w.drew.setRow b X1.toArray):=λty dc sc=>by
  rw [hX1,show n+m - (i+m)=n - i by omega]
  exact vn w.drew _ _ ty 60 3 (n - i) b (off+(i+m)*3) (n - i) dc ⟨b,off+i*3,none⟩ (n+m - i) sc cur el (cs.drop (i*3)) (by kernel_rfl) (by kernel_rfl) hB
   (by simp only [Nat.min_def]; split<;>omega) hdl (λj v hj=>by rw [Addr.add_lit,Nat.add_assoc]; exact hcs (i*3+j) v (by rwa [List.getElem?_drop] at hj)) (by rw [hdl]; omega) (λv hv=>h1c v (List.mem_of_mem_drop hv))
 obtain⟨W1,hW1⟩:∃ W1,W1=w.drew.setRow b X1.toArray:=⟨_,rfl⟩;have hB1:W1.heap[b]?=some (.cells X1.toArray el (0,0)):=by rw [hW1]; exact setRow_heap w.drew b cur _ el _ hB
 have hcp2:∀ (W:World),W.heap=W1.heap->∀ ty dc,(Builtin.copy_ #[32,32] ty #[.slice (some ⟨b,off+i*3,none⟩) (n+m - i) dc,.slice (some ⟨vb,voff,none⟩) m vc]).run Tryz.prog W = .ok (goInt (m:Int)) (W.setRow b X2.toArray):=λW hW ty dc=>by
  rw [hX2]
  have:=vn W 32 32 ty 60 3 m b (off+i*3) (n+m - i) dc ⟨vb,voff,none⟩ m vc X1.toArray el vs (P:=Tryz.prog) (by kernel_rfl) (by kernel_rfl) (by rw [hW]; exact hB1)
   (by simp only [Nat.min_def]; split<;>omega) hvl (λj v hj=>by
    rw [Addr.add_lit]
    have:W.cell? ⟨vb,voff+j,none⟩=w.cell? ⟨vb,voff+j,none⟩:=by
     have h1:W.heap[vb]?=w.heap[vb]?:=by rw [hW,hW1,setRow_other w.drew b vb _ hvb]; rfl
     simp only [World.cell?,h1]
    rw [this]; exact hvs j v hj) (by simp only [List.size_toArray,hX1l,hvl]; omega) h1v
  simpa using this
 rw [<- hW1] at hcp1;have mixed:Tryz.prog.follows .mixedOrders=true:=by kernel_rfl
 have hw1:IntKind.i64.wrap ((i:Int)+m)=(i:Int)+m:=by rw [IntKind.wrap_i64]; omega
 have hb1:(0:Int)<=(i:Int)+m:=by omega
 have hin:i<=n:=by omega
 have htn:((i:Int)+m).toNat=i+m:=by omega
 have hb2:¬ (c=i+m):=by omega
 have hb3:(i:Int)<=(n:Int)+m:=by omega
 have hb4:¬ (c=i):=by omega
 clear hci hcn hin3 hX1l hcurl hdl hcl hvl hcs hvs h1c h1v hX1 hX2 hB hV hB1 hfit
 go_enter Tryz.func36,Tryz.ntmps36
 go_wp2_with (simp only [hov])
 go_region_law_o (refine step_copy_runI rfl _ _ 32 32 rfl _ _ (by simp [Act.eval,Act.put]) (by simp [Act.eval,Act.put]) (hcp1 _ _ _) ?_)
 go_wp2_with (at_builtin; refine wpList_copy_runI _ rfl _ _ 32 32 rfl _ _ rfl rfl (hcp2 _ rfl _ _) ?_)
 go_ret
 subst hW1;exact⟨rfl,rfl,rfl,rfl,rfl⟩
set_option maxHeartbeats 4000000 in
set_option maxRecDepth 100000 in
theorem Tryz.zbw(b off n c i m vb voff vc:Nat)(cur vcur:Array Value)(el vel:TypeId)(cs vs:List Value)(w:World)(hm:0<m)(hi:i<n)(hnc:n<=c)(hroom:c<n+m)(hbig:(n+m)*40<=140737488355328)
  (hB:w.heap[b]?=some (.cells cur el (0,0))) (hV:w.heap[vb]?=some (.cells vcur vel (0,0)))
  (hcl:cs.length=n*3) (hvl:vs.length=m*3)
  (hcs:∀ j v,cs[j]?=some v->w.cell? ⟨b,off+j,none⟩=some v)
  (hvs:∀ j v,vs[j]?=some v->w.cell? ⟨vb,voff+j,none⟩=some v) (h1c:∀ v∈cs,v.oneCell'=true) (h1v:∀ v∈vs,v.oneCell'=true)
  (zs:List Value) (hz:Builtin.zeroCells (Value.agg #[.string ⟨#[]⟩,.int .i64 0,.string ⟨#[]⟩]).cells (n+m - i)=zs.toArray) (G:Nat) (hG:G=grownCap w (n+m) c 60) (rest:List Value) (hrest:Builtin.zeroCells (Value.agg #[.string ⟨#[]⟩,.int .i64 0,.string ⟨#[]⟩]).cells (G - (n+m))=rest.toArray)
  (ROW X1 X2:List Value) (hROW:ROW=cs.take (i*3)++zs++rest) (hX1:X1=ROW.take (i*3)++vs++ROW.drop (i*3+vs.length)) (hX2:X2=X1.take ((i+m)*3)++cs.drop (i*3)++X1.drop ((i+m)*3+(cs.drop (i*3)).length)) :
  Calls Tryz.prog 36 #[.slice (some ⟨b,off,none⟩) n c,.int .i64 i,.slice (some ⟨vb,voff,none⟩) m vc] w λe w'=>
   e = .returned (.slice (some ⟨w.heap.size,0,none⟩) (n+m) G)/\w'.heap=(((w.alloc (.cells ROW.toArray 60)).setRow w.heap.size X1.toArray).setRow w.heap.size X2.toArray).heap/\w'.os=w.os/\w'.tape=w.tape/\w'.output=w.output:=by
 have hz1:¬ ((m:Int)=0):=by omega
 have hw0:IntKind.i64.wrap ((n:Int)+m)=(n:Int)+m:=by rw [IntKind.wrap_i64]; omega
 have htm:((n:Int)+m).toNat=n+m:=by omega
 have hz2:¬ ((i:Int)=(n:Int)):=by omega
 have hz3:(c:Int)<(n:Int)+m:=by omega
 have hbw:b<w.heap.size:=(Array.getElem?_eq_some_iff.1 hB).1;have hvw:vb<w.heap.size:=(Array.getElem?_eq_some_iff.1 hV).1;have hkk:(n:Int)+m - (i:Int)=((n+m - i:Nat):Int):=by omega
 have hik:i+(n+m - i)=n+m:=by omega
 have hin3:i*3<=n*3:=Nat.mul_le_mul_right _ (by omega);have hci:(i+m)*3+(n - i)*3=(n+m)*3:=by rw [<- Nat.add_mul]; congr 1; omega
 have hdl:(cs.drop (i*3)).length=(n - i)*3:=by rw [List.length_drop,hcl,Nat.sub_mul]
 have hzl:zs.length=(n+m - i)*3:=by
  have:=congrArg Array.size hz;simpa [Builtin.zeroCells,Value.cells] using this.symm
 have hold:(Builtin.firstCells 3 i (.slice (some ⟨b,off,none⟩) i c)).run Tryz.prog w.drew = .ok (cs.take (i*3)).toArray w.drew:=by
  exact run_firstCells_some w.drew 3 i ⟨b,off,none⟩ i c (cs.take (i*3)) (by rw [List.length_take]; omega) (λj v hj=>by
   rw [Addr.add_lit];rw [List.getElem?_take] at hj;split at hj
   ·exact hcs j v hj
   ·cases hj)
 obtain⟨i0,hi0,hz0,hzs,hzb⟩:=info_parts (P:=Tryz.prog) (e:=60) (z:=Value.agg #[.string ⟨#[]⟩,.int .i64 0,.string ⟨#[]⟩]) (size:=3) (bytes:=40) (by kernel_rfl)
 have hrz:∀ ty,(Builtin.append_ #[32,3] ty #[.slice (some ⟨b,off,none⟩) i c,.int .i64 ((n:Int)+m - (i:Int))]).run Tryz.prog w =
   .ok (.slice (some ⟨w.heap.size,0,none⟩) (n+m) G) (w.drew.alloc (.cells ROW.toArray 60)):=λty=>by
  have h:=Lib.run_append_grow_zeros w 32 3 ty 60 i0 _ .i64 .i64 (P:=Tryz.prog) (by kernel_rfl) (by kernel_rfl) hi0 hz0 (some ⟨b,off,none⟩) i c (cs.take (i*3)) (by rw [hzs]; exact hold) (n+m - i) (by omega) (by omega) (by omega) (by omega) (by rw [hzb]; omega) (by rw [hzb,hik]; exact growslice_fits hroom hbig);rw [hik,<- hG,hz,hrest] at h;rw [hkk,h,hROW];simp
 have hROWl:(n+m)*3<=ROW.length:=by
  rw [hROW];have:(i+(n+m - i))*3=(n+m)*3:=by rw [hik]
  simp only [List.length_append,List.length_take,hcl,hzl];omega
 have hX1l:X1.length=ROW.length:=by
  rw [hX1];simp only [List.length_append,List.length_take,List.length_drop,hvl];omega
 obtain⟨W1,hW1⟩:∃ W1,W1=w.drew.alloc (.cells ROW.toArray 60):=⟨_,rfl⟩;have hN1:W1.heap[w.heap.size]?=some (.cells ROW.toArray 60 (0,0)):=by rw [hW1]; exact Array.getElem?_push_size
 have hO1:∀ k,k<w.heap.size->W1.heap[k]?=w.heap[k]?:=λk hk=>by
  rw [hW1];show(w.drew.heap.push _)[k]?=_;rw [Array.getElem?_push,if_neg (by show k≠w.heap.size; omega)];rfl
 have hcpA:∀ (W:World),W.heap=W1.heap->∀ ty dc,(Builtin.copy_ #[32,32] ty #[.slice (some ⟨w.heap.size,i*3,none⟩) (n+m - i) dc,.slice (some ⟨vb,voff,none⟩) m vc]).run Tryz.prog W = .ok (goInt (m:Int)) (W.setRow w.heap.size X1.toArray):=λW hW ty dc=>by
  rw [hX1]
  have:=vn W 32 32 ty 60 3 m w.heap.size (i*3) (n+m - i) dc ⟨vb,voff,none⟩ m vc ROW.toArray _ vs (P:=Tryz.prog) (by kernel_rfl) (by kernel_rfl) (by rw [hW]; exact hN1)
   (by simp only [Nat.min_def]; split<;>omega) hvl (λj v hj=>by
    rw [Addr.add_lit]
    have:W.cell? ⟨vb,voff+j,none⟩=w.cell? ⟨vb,voff+j,none⟩:=by
     have h1:W.heap[vb]?=w.heap[vb]?:=by rw [hW,hO1 vb hvw]
     simp only [World.cell?,h1]
    rw [this]; exact hvs j v hj) (by simp only [List.size_toArray,hvl]; omega) h1v
  simpa using this
 obtain⟨W2,hW2⟩:∃ W2,W2=W1.setRow w.heap.size X1.toArray:=⟨_,rfl⟩;have hN2:W2.heap[w.heap.size]?=some (.cells X1.toArray 60 (0,0)):=by rw [hW2]; exact setRow_heap W1 w.heap.size _ _ _ _ hN1
 have hcpB:∀ (W:World),W.heap=(W1.setRow w.heap.size X1.toArray).heap->∀ ty dc sc,(Builtin.copy_ #[32,32] ty #[.slice (some ⟨w.heap.size,(i+m)*3,none⟩) (n+m - (i+m)) dc,.slice (some ⟨b,off+i*3,none⟩) (n - i) sc]).run Tryz.prog W = .ok (goInt ((n - i:Nat):Int)) (W.setRow w.heap.size X2.toArray):=λW hW ty dc sc=>by
  rw [hX2,show n+m - (i+m)=n - i by omega]
  have:=vn W 32 32 ty 60 3 (n - i) w.heap.size ((i+m)*3) (n - i) dc ⟨b,off+i*3,none⟩ (n - i) sc X1.toArray _ (cs.drop (i*3)) (P:=Tryz.prog) (by kernel_rfl) (by kernel_rfl) (by rw [hW,<- hW2]; exact hN2)
   (Nat.min_self _).symm hdl (λj v hj=>by
    rw [Addr.add_lit,Nat.add_assoc]
    have:W.cell? ⟨b,off+(i*3+j),none⟩=w.cell? ⟨b,off+(i*3+j),none⟩:=by
     have h1:W.heap[b]?=w.heap[b]?:=by rw [hW,setRow_other W1 w.heap.size b _ (by omega),hO1 b hbw]
     simp only [World.cell?,h1]
    rw [this]; exact hcs (i*3+j) v (by rwa [List.getElem?_drop] at hj)) (by simp only [List.size_toArray,hdl,hX1l]; omega) (λv hv=>h1c v (List.mem_of_mem_drop hv))
  simpa using this
 rw [<- hW1] at hrz;have A:Aside (W1=w.drew.alloc (.cells ROW.toArray 60)):=hW1;have mixed:Tryz.prog.follows .mixedOrders=true:=by kernel_rfl
 have hGn:n+m<=G:=by rw [hG]; exact grownCap_ge w _ _ _
 have hG63:G<=9223372036854775807:=by
  have:=grownCap_le_maxLen w (n+m) c 60 (by unfold maxLen; omega);rw [<- hG] at this;unfold maxLen at this;omega
 have hGi:¬ (G=i):=by omega
 have hGim:¬ (G=i+m):=by omega
 have hci:¬ (c=i):=by omega
 have hw1:IntKind.i64.wrap ((i:Int)+m)=(i:Int)+m:=by rw [IntKind.wrap_i64]; omega
 have hb1:(0:Int)<=(i:Int)+m:=by omega
 have hin:i<=n:=by omega
 have htn:((i:Int)+m).toNat=i+m:=by omega
 have hb3:(i:Int)<=(n:Int):=by omega
 have hwb:W1.drew.heap=W1.heap:=rfl;clear hkk hik hin3 hdl hzl hold hz0 hzs hzb hi0 hROWl hX1l hz hrest hROW hX1 hX2 hcs hvs h1c h1v hcl hvl hB hV hN1 hN2 hO1 hbig hwb hG hW1 hW2
 go_enter Tryz.func36,Tryz.ntmps36
 go_wp2_with (first
  | (at_builtin; refine Lib.wpList_append_run _ rfl _ _ _ _ rfl _ _ rfl rfl _ _ (hrz _) ?_)
  | (at_builtin; refine wpList_copy_runI _ rfl _ _ 32 32 rfl _ _ rfl rfl (hcpA _ rfl _ _) ?_))
 go_region_law_o (refine step_copy_runI rfl _ _ 32 32 rfl (.slice (some ⟨w.heap.size,(i+m)*3,none⟩) (n+m - (i+m)) (G - (i+m))) (.slice (some ⟨b,off+i*3,none⟩) (n - i) (c - i)) (by simp [Act.eval,Act.put]) (by simp [Act.eval,Act.put]) (hcpB (W1.setRow w.heap.size X1.toArray).drew rfl _ _ _) ?_)
 go_wp2
 go_ret
 have hW1:=A.out;subst hW1;exact⟨rfl,rfl,rfl,rfl,rfl⟩
end Go.Proofs
end
