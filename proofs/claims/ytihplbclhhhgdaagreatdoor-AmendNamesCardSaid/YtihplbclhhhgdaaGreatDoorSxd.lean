/- Part 4 of the proof. -/
import Derived.RangeFuncKeeps
import Derived.RangeFuncNested
import Derived.RangeFuncBound
import Derived.RangeFuncCalls
import Derived.RangeFuncLeaves
import Derived.Shelf.Abstract
import Derived.Shelf.RegionOpen
import Derived.WalkKit
import Derived.OwnWalkIn
import Derived.TacticsInMore
import Derived.LoopNIn
import Derived.LoopIn
import Derived.Lib.Hide
import Derived.Test.YtihplbclhhhgdaaGreatDoorProg
set_option linter.unusedVariables false
set_option linter.unusedSimpArgs false
set_option linter.unusedSectionVars false
section
namespace Go.Proofs
open Go.RowKit Go.Shelf
attribute [local go_sem] Oper.semAt_some
structure VT where
 f:Int
 u0:Int
 u1:ByteArray
 u2:ByteArray
 u3:ByteArray
 u4:Int
 u5:ByteArray
 u6:ByteArray
 u7:Int
 up:Option Addr
 ul:Nat
 uc:Nat
 u9:Int
 uq:Option Addr
 um:Nat
 ud:Nat
 ua:Option Addr
 un:Nat
 uk:Nat
namespace VT
def cells(t:VT):List Value:=[.int .i64 t.f,.int .u8 t.u0,.string t.u1,.string t.u2,.string t.u3,.int .u8 t.u4,.string t.u5,.string t.u6,.int .i64 t.u7,.slice t.up t.ul t.uc,.int .i64 t.u9,.slice t.uq t.um t.ud,.slice t.ua t.un t.uk]
def val(t:VT):Value:=.agg #[.int .i64 t.f,.int .u8 t.u0,.string t.u1,.string t.u2,.string t.u3,.int .u8 t.u4,.string t.u5,.string t.u6,.int .i64 t.u7,.slice t.up t.ul t.uc,.int .i64 t.u9,.slice t.uq t.um t.ud,.slice t.ua t.un t.uk]
end VT
def endV(L:List VT)(i:Nat):Int:=match L[i+1]? with
 | some t=>t.f
 | none=>100000
set_option maxRecDepth 100000 in
set_option maxHeartbeats 4000000 in
theorem Tryz.zfo(F:Fence)(hd:F.depth=none)(h5:F.fn 58)(hro:F.round=none)(l n Bt:Nat)(L:List VT)(a:Option Addr)(cap:Nat)(K:World->Prop)(Kp:World->World->Prop)(J Jx:List Nat->World->Prop)(hJ:∀ pre W W',J pre W->W.grownBy W' none->J pre W')
  (hKt:∀ A B C,Kp A B->Kp B C->Kp A C) (hKg:∀ W W',W.grownBy W' none->Kp W W') (hKK:∀ A B,K A->Kp A B->K B)
  (hc:∀ W,K W->W.cell? ⟨Bt,0,none⟩=some (.slice a L.length cap)) (hL:L.length<=1000000)
  (hm:∀ i t,L[i]?=some t->∃ ad B o,a=some ad/\ad.add (i*13)=⟨B,o,none⟩/\∀ W,K W->∀ (k:Nat) (v:Value),t.cells[k]?=some v->W.cell? ⟨B,o+k,none⟩=some v)
  (hY:∀ m i t W,L[i]?=some t->J (List.range i) W->K W->YieldAt F m Tryz.prog l #[t.val,.int .i64 (endV L i)] W λe W'=>
   (e = .returned (.bool true)/\J (List.range (i+1)) W'/\Kp W W')\/(e = .returned (.bool false)/\Jx (List.range (i+1)) W')) (W:World) (hK:K W) (h0:J [] W) :
  CallsIn F n Tryz.prog 58 #[.func (.yield l) #[] #[],.pointer (some ⟨Bt,0,none⟩)] W λe W'=>(∃ v,e = .returned v)/\(J (List.range L.length) W'\/∃ i,i<L.length/\Jx (List.range (i+1)) W'):=by
 have hdd:∀ k:Nat,(F.depth.isSome=true->1<=k):=λk h=>by rw [hd] at h; cases h
 have hc0:=hc W hK;refine callsIn_of_wp Tryz.func58 rfl h5 ?_ hro;simp only [Tryz.ntmps58,List.size_toArray,List.length_cons,List.length_nil,Nat.reduceAdd,Nat.reduceSub,Array.replicate_succ,Array.replicate_zero,List.push_toArray,List.append_toArray,List.nil_append,List.cons_append]
 gi_wp2
 gi_loopw [9] (λe wr=>∃ i:Nat,e = .int .i64 i/\i<=L.length/\J (List.range i) wr/\Kp W wr)
  (λe wr=>L.length - (intOf e).toNat)
 case atStart=>exact⟨0,rfl,Nat.zero_le _,by simpa using h0,hKg _ _ (by exact World.grownBy.refl _ _)⟩
 case round=>
  obtain⟨i,rfl,hi,hJi,hKi⟩:=hrel;have hKw:=hKK _ _ hK hKi;by_cases hlt:i<L.length
  ·obtain⟨ad,B1,o1,hae,hq,hload⟩:=hm i _ (List.getElem?_eq_getElem hlt);have hYi:=λm W=>hY m i _ W (List.getElem?_eq_getElem hlt)
   generalize L[i]=t at hload hYi;obtain⟨v_f,v_u0,v_u1,v_u2,v_u3,v_u4,v_u5,v_u6,v_u7,v_up,v_ul,v_uc,v_u9,v_uq,v_um,v_ud,v_ua,v_un,v_uk⟩:=t;have hld:=hload wr hKw;have c0:=hld 0 (.int .i64 v_f) rfl;have c1:=hld 1 (.int .u8 v_u0) rfl;have c2:=hld 2 (.string v_u1) rfl;have c3:=hld 3 (.string v_u2) rfl;have c4:=hld 4 (.string v_u3) rfl;have c5:=hld 5 (.int .u8 v_u4) rfl;have c6:=hld 6 (.string v_u5) rfl;have c7:=hld 7 (.string v_u6) rfl;have c8:=hld 8 (.int .i64 v_u7) rfl;have c9:=hld 9 (.slice v_up v_ul v_uc) rfl;have c10:=hld 10 (.int .i64 v_u9) rfl;have c11:=hld 11 (.slice v_uq v_um v_ud) rfl;have c12:=hld 12 (.slice v_ua v_un v_uk) rfl;simp only [Nat.add_zero] at hq c0;have hcw:=hc wr hKw;have hgr:=World.grownBy_alloc wr (.cells #[.int .i64 v_f,.int .u8 v_u0,.string v_u1,.string v_u2,.string v_u3,.int .u8 v_u4,.string v_u5,.string v_u6,.int .i64 v_u7,.slice v_up v_ul v_uc,.int .i64 v_u9,.slice v_uq v_um v_ud,.slice v_ua v_un v_uk] 44) none;have hcw2:=hc _ (hKK _ _ hKw (hKg _ _ hgr));clear hld hload;subst hae;by_cases hnx:i+1<L.length
   ·obtain⟨ad',B2,o2,hae2,hq2,hload2⟩:=hm (i+1) _ (List.getElem?_eq_getElem hnx);cases hae2;have hend:endV L i=L[i+1].f:=by unfold endV; rw [List.getElem?_eq_getElem hnx]
    have d0:=hload2 _ (hKK _ _ hKw (hKg _ _ hgr)) 0 _ rfl;generalize L[i+1].f=g at hend d0;simp only [Nat.add_zero] at hq2 d0;clear hload2;have hnx2:(i:Int)+1<(L.length:Int):=by omega
    have hpos:0<=(i:Int)+1:=by omega
    have htn:((i:Int)+1).toNat=i+1:=by omega
    have hY1:=hYi (n - 1) (wr.alloc (.cells #[.int .i64 v_f,.int .u8 v_u0,.string v_u1,.string v_u2,.string v_u3,.int .u8 v_u4,.string v_u5,.string v_u6,.int .i64 v_u7,.slice v_up v_ul v_uc,.int .i64 v_u9,.slice v_uq v_um v_ud,.slice v_ua v_un v_uk] 44)) (hJ _ _ _ hJi hgr) (hKK _ _ hKw (hKg _ _ hgr));simp only [VT.val,hend] at hY1;obtain⟨fn,tmps,assign,body,hy,hR⟩:=hY1;clear hYi hm hY
    gi_wp2
    refine hR.mono ?_;clear hR;rintro e W1 (⟨rfl,hJ1,hK1⟩ | ⟨rfl,hx1⟩)
    ·gi_wp2
     go_roundw
     case rel=>exact⟨i+1,by simp,hlt,hJ1,hKt _ _ _ (hKt _ _ _ hKi (hKg _ _ hgr)) hK1⟩
     case measure=>simp [intOf]; omega
    ·gi_wp2
     try simp only [Exit.inBlock,Exit.then]
     refine bodyPost_ret (results_none rfl _ _ _) rfl ?_;exact⟨⟨_,rfl⟩,.inr ⟨i,hlt,hx1⟩⟩
   ·have hend:endV L i=100000:=by unfold endV; rw [List.getElem?_eq_none (by omega)]
    have hnx2:¬ (i:Int)+1<(L.length:Int):=by omega
    have hY1:=hYi (n - 1) (wr.alloc (.cells #[.int .i64 v_f,.int .u8 v_u0,.string v_u1,.string v_u2,.string v_u3,.int .u8 v_u4,.string v_u5,.string v_u6,.int .i64 v_u7,.slice v_up v_ul v_uc,.int .i64 v_u9,.slice v_uq v_um v_ud,.slice v_ua v_un v_uk] 44)) (hJ _ _ _ hJi hgr) (hKK _ _ hKw (hKg _ _ hgr));simp only [VT.val,hend] at hY1;obtain⟨fn,tmps,assign,body,hy,hR⟩:=hY1;clear hYi hm hY
    gi_wp2
    refine hR.mono ?_;clear hR;rintro e W1 (⟨rfl,hJ1,hK1⟩ | ⟨rfl,hx1⟩)
    ·gi_wp2
     go_roundw
     case rel=>exact⟨i+1,by simp,hlt,hJ1,hKt _ _ _ (hKt _ _ _ hKi (hKg _ _ hgr)) hK1⟩
     case measure=>simp [intOf]; omega
    ·gi_wp2
     try simp only [Exit.inBlock,Exit.then]
     refine bodyPost_ret (results_none rfl _ _ _) rfl ?_;exact⟨⟨_,rfl⟩,.inr ⟨i,hlt,hx1⟩⟩
  ·have hge:i=L.length:=by omega
   subst hge
   gi_wp2
   go_end0
   exact⟨⟨_,rfl⟩,.inl hJi⟩
end Go.Proofs
end
