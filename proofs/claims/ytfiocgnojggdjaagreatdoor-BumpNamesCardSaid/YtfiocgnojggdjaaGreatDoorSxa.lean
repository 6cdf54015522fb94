/- Part 1 of the proof. -/
import Derived.RangeFuncNested
import Derived.RangeFuncBound
import Derived.RangeFuncCalls
import Derived.RangeFuncLeaves
import Derived.Shelf.Abstract
import Derived.Shelf.RegionOpen
import Derived.WalkKit
import Derived.OwnWalkIn
import Derived.TacticsInMore
import Derived.LoopNIn
import Derived.LoopIn
import Derived.Lib.Hide
import Derived.Laws.Strings2
import Derived.Test.YtfiocgnojggdjaaGreatDoorProg
set_option linter.unusedVariables false
set_option linter.unusedSimpArgs false
set_option linter.unusedSectionVars false
section
namespace Go.Proofs
open Go.RowKit Go.Shelf
attribute [local go_sem] Oper.semAt_some
def chunks(s:ByteArray)(e:Nat):List ByteArray:=if h:e=0 then [] else s.extract (e - 9) e::chunks s (e - 9)
termination_by e
decreasing_by omega
theorem vO(s:ByteArray):chunks s 0=[]:=by rw [chunks]; simp
theorem vJ(s:ByteArray){e:Nat}(h:0<e):chunks s e=s.extract (e - 9) e::chunks s (e - 9):=by rw [chunks]; rw [dif_neg (by omega)]
set_option maxRecDepth 100000 in
theorem Tryz.KW(F:Fence)(n:Nat)(h6:F.fn 170)(hro:F.round=none)(hd:F.depth=none)(l:Nat)(ad:Addr)(s:ByteArray)(hs:s.size<=9223372036854775807)(J Jx:List ByteArray->World->Prop)
  (Kp:World->World->Prop)
  (hK:∀ A C,Kp A C->A.cell? ad=some (.string s)->C.cell? ad=some (.string s))
  (hY:∀ pre x W,J pre W->pre++[x] <+: chunks s s.size->YieldAt F (n - 1) Tryz.prog l #[.string x] W λe W'=>
   (e = .returned (.bool true)/\J (pre++[x]) W'/\Kp W W')\/(e = .returned (.bool false)/\Jx (pre++[x]) W'))
  (W:World) (hBn:W.cell? ad=some (.string s)) (h0:J [] W) :
  CallsIn F n Tryz.prog 170 #[.func (.yield l) #[] #[],.pointer (some ad)] W λe W'=>(∃ v,e = .returned v) /\
   ((∃ ys,ys=chunks s s.size/\J ys W')\/(∃ pre,pre <+: chunks s s.size/\Jx pre W')):=by
 refine callsIn_of_wp Tryz.func170 rfl h6 ?_ hro;simp only [Tryz.ntmps170,List.size_toArray,List.length_cons,List.length_nil,Nat.reduceAdd,Nat.reduceSub,Array.replicate_succ,Array.replicate_zero,List.push_toArray,List.append_toArray,List.nil_append,List.cons_append]
 gi_wp2
 gi_loopw [3] (λe wr=>∃ (pre rest:List ByteArray) (z:Int),e = .int .i64 z/\z<=s.size /\ -9<z/\chunks s s.size=pre++rest/\rest=chunks s z.toNat/\J pre wr/\wr.cell? ad=some (.string s))
  (λe wr=>(intOf e).toNat)
 case atStart=>
  exact⟨[],_,s.size,rfl,Int.le_refl _,by omega,rfl,by simp,h0,hBn⟩
 case round=>
  obtain⟨pre,rest,z,rfl,hz1,hz2,hx,hr,hJ,hc⟩:=hrel;by_cases hz:0<z
  ·obtain⟨e,rfl⟩:∃ e:Nat,z=e:=⟨z.toNat,by omega⟩;have he:0<e:=by omega
   simp only [Int.toNat_natCast] at hr;rw [vJ s he] at hr;have hlen:pre++[s.extract (e - 9) e] <+: chunks s s.size:=⟨chunks s (e - 9),by rw [hx,hr]; simp⟩;obtain⟨fn,tmps,assign,body,hy,hR⟩:=hY pre (s.extract (e - 9) e) wr hJ hlen;have Hx:=Lib.hid hx;have Hr:=Lib.hid hr;clear hx hr;have hR2:=hR;by_cases h9:9<e
   ·have hsl:(Instr.slice 9 (.string s) (some (.int .i64 ((e:Int) - 9))) (some (.int .i64 (e:Int))) none).run Tryz.prog wr = .ok (.string (s.extract (e - 9) e)) wr:=by
     have:=run_slice_string (P:=Tryz.prog) (w:=wr) 9 s .i64 .i64 ((e:Int) - 9) e Tryz.underlying9 (by omega) (by omega) (by omega);rw [show((e:Int) - 9).toNat=e - 9 by omega,Int.toNat_natCast] at this;exact this
    gi_wp2
    refine hR2.mono ?_;rintro e' W' (⟨rfl,hJ',hk⟩ | ⟨rfl,hJx'⟩)
    ·have hc':=hK _ _ hk hc
     gi_wp2
     go_roundw
     case rel=>exact⟨pre++[s.extract (e - 9) e],chunks s (e - 9),(e:Int) - 9,rfl,by omega,by omega,by rw [Hx.out,Hr.out]; simp,by rw [show((e:Int) - 9).toNat=e - 9 by omega],hJ',hc'⟩
     case measure=>simp [intOf]; omega
    ·gi_wp2
     refine bodyPost_ret (results_none rfl _ _ _) rfl ?_;exact⟨⟨_,rfl⟩,.inr ⟨pre++[s.extract (e - 9) e],⟨chunks s (e - 9),by rw [Hx.out,Hr.out]; simp⟩,hJx'⟩⟩
   ·have hsl:(Instr.slice 9 (.string s) (some (.int .i64 0)) (some (.int .i64 (e:Int))) none).run Tryz.prog wr = .ok (.string (s.extract (e - 9) e)) wr:=by
     have:=run_slice_string (P:=Tryz.prog) (w:=wr) 9 s .i64 .i64 0 e Tryz.underlying9 (by omega) (by omega) (by omega);rw [Int.toNat_natCast] at this;rw [show e - 9=(0:Int).toNat by simp; omega];exact this
    gi_wp2
    refine hR2.mono ?_;rintro e' W' (⟨rfl,hJ',hk⟩ | ⟨rfl,hJx'⟩)
    ·have hc':=hK _ _ hk hc
     gi_wp2
     go_roundw
     case rel=>exact⟨pre++[s.extract (e - 9) e],chunks s (e - 9),(e:Int) - 9,rfl,by omega,by omega,by rw [Hx.out,Hr.out]; simp,by rw [show((e:Int) - 9).toNat=e - 9 by omega],hJ',hc'⟩
     case measure=>simp [intOf]; omega
    ·gi_wp2
     refine bodyPost_ret (results_none rfl _ _ _) rfl ?_;exact⟨⟨_,rfl⟩,.inr ⟨pre++[s.extract (e - 9) e],⟨chunks s (e - 9),by rw [Hx.out,Hr.out]; simp⟩,hJx'⟩⟩
  ·have hz0:z.toNat=0:=by omega
   rw [hz0,vO] at hr;subst hr;have Hx:=Lib.hid hx;clear hx
   gi_wp2
   go_end0
   exact⟨⟨_,rfl⟩,.inl (by rw [Hx.out]; simpa using hJ)⟩
theorem Tryz.QX(p:ByteArray->Prop)(ad:Addr)(s:ByteArray)(hp:∀ x∈chunks s s.size,p x)(hs:s.size<=9223372036854775807)(w:World)(hc:w.cell? ad=some (.string s)) :
  SeqStopsK Fence.wide 0 Tryz.prog 170 #[.pointer (some ad)] (λx:{x:ByteArray // p x} => #[.string x.1]) (λW W'=>W.cell? ad=some (.string s)->W'.cell? ad=some (.string s)) (λxs=>xs.map (·.1)=chunks s s.size) (λpre=>pre.map (·.1) <+: chunks s s.size) (chunks s s.size).length w:=by
 intro l J Jx W hW _ _ hY h0
 have hlt:ad.block<w.heap.size:=by
  unfold World.cell? at hc;cases hb:w.heap[ad.block]? with
  | none=>simp [hb] at hc
  | some o=>exact(Array.getElem?_eq_some_iff.1 hb).1
 have hcW:W.cell? ad=some (.string s):=by rw [hW.cell (p:=ad) hlt]; exact hc
 refine CallsIn.mono (Tryz.KW Fence.wide 0 trivial rfl rfl l ad s hs (λpre W=>∃ q:List {x:ByteArray // p x},q.map (·.1)=pre/\J q W) (λpre W=>∃ q:List {x:ByteArray // p x},q.map (·.1)=pre/\Jx q W) _ (λ_ _ h=>h) ?_ W hcW ⟨[],rfl,h0⟩) ?_
 ·rintro pre x W1 ⟨q,rfl,hq⟩ hpre;have hx:p x:=hp x (hpre.subset (by simp))
  have hlen:q.length<(chunks s s.size).length:=by
   have:=hpre.length_le;simp at this;omega
  refine YieldAt.mono (hY q ⟨x,hx⟩ W1 hq hlen) ?_;rintro e W' (⟨rfl,h2,h3⟩ | ⟨rfl,h2⟩)
  ·exact .inl ⟨rfl,⟨q++[⟨x,hx⟩],by simp,h2⟩,h3⟩
  ·exact .inr ⟨rfl,⟨q++[⟨x,hx⟩],by simp,h2⟩⟩
 ·rintro e W' ⟨hv,h⟩;refine⟨hv,?_⟩;rcases h with ⟨ys,hys,q,hq,hJ⟩ | ⟨pre,hpre,q,hq,hJ⟩
  ·exact .inl ⟨q,hq.trans hys,hJ⟩
  ·exact .inr ⟨q,by show q.map (·.1) <+: _; rw [hq]; exact hpre,hJ⟩
end Go.Proofs
end
