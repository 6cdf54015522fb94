/- Part 7 of the proof. -/
import Derived.Test.YtihplbclhhhgdaaGreatDoorSxa
import Derived.Test.YtihplbclhhhgdaaGreatDoorSxf
import Derived.RangeFuncKeeps
import Derived.RangeFuncNested
import Derived.RangeFuncBound
import Derived.RangeFuncCalls
import Derived.RangeFuncLeaves
import Derived.Shelf.Abstract
import Derived.Shelf.RegionOpen
import Derived.WalkKit
import Derived.OwnWalkIn
import Derived.TacticsInMore
import Derived.LoopNIn
import Derived.LoopIn
import Derived.Lib.Hide
import Derived.Test.YtihplbclhhhgdaaGreatDoorProg
import Derived.Lib.Strings
import Derived.Lib.Slices
import Derived.Lib.Walk
import Derived.Lib.Bytealg
set_option linter.unusedVariables false
set_option linter.unusedSimpArgs false
set_option linter.unusedSectionVars false
noncomputable def Go.Sx.aA(f:Go.Func):List Go.Sx.Item:=[.code (f.body.getD .skip)]
section
namespace Go.Proofs
open Go.RowKit Go.Shelf
attribute [local go_sem] Oper.semAt_some
theorem UQ{F:Fence}(hd:F.depth=none)(k:Nat):F.room k:=λd h=>by rw [hd] at h; cases h
theorem JU{F:Fence}(hd:F.depth=none){m:Nat}(m':Nat){P:Program}{l:Nat}{args:Array Value}{W:World}{R:Ending->World->Prop}(h:YieldAt F m P l args W R):YieldAt F m' P l args W R:=by
 obtain⟨fn,tmps,assign,body,hy,hR⟩:=h;exact⟨fn,tmps,assign,body,hy,hR.1,λc cs _=>hR.2 c cs (UQ hd _)⟩
inductive CT where
 | mk (u0:Int) (u1 u2 u3:ByteArray) (u4:Int) (u5 u6:ByteArray) (u7:Int) (up:Option Addr) (ul uc:Nat) (u9:Int) (uq:Option Addr) (um ud:Nat) (a:Option Addr) (cap:Nat) (kids:List CT)
namespace CT
def val:CT->Value
 | mk u0 u1 u2 u3 u4 u5 u6 u7 up ul uc u9 uq um ud a cap kids=>.agg #[.int .u8 u0,.string u1,.string u2,.string u3,.int .u8 u4,.string u5,.string u6,.i u7,.slice up ul uc,.i u9,.slice uq um ud,.slice a kids.length cap]
def cells:CT->List Value
 | mk u0 u1 u2 u3 u4 u5 u6 u7 up ul uc u9 uq um ud a cap kids=>[.int .u8 u0,.string u1,.string u2,.string u3,.int .u8 u4,.string u5,.string u6,.i u7,.slice up ul uc,.i u9,.slice uq um ud,.slice a kids.length cap]
mutual
def all:CT->List CT
 | mk u0 u1 u2 u3 u4 u5 u6 u7 up ul uc u9 uq um ud a cap kids=>mk u0 u1 u2 u3 u4 u5 u6 u7 up ul uc u9 uq um ud a cap kids::alls kids
def alls:List CT->List CT
 | []=>[]
 | t::l=>all t++alls l
end
mutual
def mem(K:World->Prop):CT->Prop
 | mk u0 u1 u2 u3 u4 u5 u6 u7 up ul uc u9 uq um ud a cap kids=>kids.length<=1000000/\mems K a 0 kids
def mems(K:World->Prop)(a:Option Addr):Nat->List CT->Prop
 | _,[]=>True
 | j,t::l=>(∃ ad B o,a=some ad/\ad.add (j*12)=⟨B,o,none⟩/\∀ W,K W->∀ (k:Nat) (v:Value),t.cells[k]?=some v->W.cell? ⟨B,o+k,none⟩=some v)/\mem K t/\mems K a (j+1) l
end
mutual
def Qc:CT->Nat
 | mk _ _ _ _ _ _ _ _ _ _ _ _ _ _ _ _ _ kids=>1+Zy kids
def Zy:List CT->Nat
 | []=>0
 | t::l=>Qc t+Zy l
end
end CT
theorem CT.Qu:∀ {l:List CT} {j:Nat} {t:CT},l[j]?=some t->t.Qc<=CT.Zy l
 | [],j,t,h=>by simp at h
 | x::l,0,t,h=>by simp at h; subst h; rw [CT.Zy]; omega
 | x::l,j+1,t,h=>by
  have:=CT.Qu (l:=l) (j:=j) (by simpa using h);rw [CT.Zy]; omega
theorem CT.Yc{K:World->Prop}{a:Option Addr} : ∀ {l:List CT} {i j:Nat} {t:CT},CT.mems K a i l->l[j]?=some t->(∃ ad B o,a=some ad/\ad.add ((i+j)*12)=⟨B,o,none⟩/\∀ W,K W->∀ (k:Nat) (v:Value),t.cells[k]?=some v->W.cell? ⟨B,o+k,none⟩=some v)/\t.mem K
 | [],i,j,t,_,h=>by simp at h
 | x::l,i,0,t,hm,h=>by
  simp at h; subst h;rw [CT.mems] at hm;exact⟨hm.1,hm.2.1⟩
 | x::l,i,j+1,t,hm,h=>by
  rw [CT.mems] at hm;have:=CT.Yc (j:=j) hm.2.2 (by simpa using h);rw [show i+(j+1)=i+1+j by omega];exact this
theorem CT.VN:∀ {l:List CT} {j:Nat} {t:CT},l[j]?=some t->CT.alls (l.take (j+1))=CT.alls (l.take j)++t.all
 | [],j,t,h=>by simp at h
 | x::l,0,t,h=>by simp at h; subst h; simp [CT.alls]
 | x::l,j+1,t,h=>by
  simp only [List.take_succ_cons,CT.alls];rw [CT.VN (l:=l) (j:=j) (by simpa using h),List.append_assoc]
theorem CT.XT(l:List CT)(j:Nat):CT.alls (l.take j) <+: CT.alls l:=by
 induction l generalizing j with
 | nil=>simp [CT.alls]
 | cons t l ih=>
  cases j with
  | zero=>simp [CT.alls]
  | succ j=>
   simp only [List.take_succ_cons,CT.alls];obtain⟨r,hr⟩:=ih j;exact⟨r,by rw [<- hr,List.append_assoc]⟩
set_option maxRecDepth 100000 in
set_option maxHeartbeats 4000000 in
theorem Tryz.zht(F:Fence)(hd:F.depth=none)(h6:F.fn 99)(hro:F.round=none)(l n₀:Nat)(ALL:List CT)(K:World->Prop)(Kp:World->World->Prop)(J Jx:List CT->World->Prop)(hJ:∀ pre W W',J pre W->W.grownBy W' none->J pre W')
  (hKt:∀ A B C,Kp A B->Kp B C->Kp A C) (hKg:∀ W W',W.grownBy W' none->Kp W W') (hKc:∀ A B b cs el,Kp A B->n₀<=b->A.heap[b]?=some (.cells cs el (0,0))->B.heap[b]?=some (.cells cs el (0,0))) (hKK:∀ A B,K A->Kp A B->K B) (hKn:∀ W,K W->n₀<=W.heap.size)
  (hY:∀ m pre t W,J pre W->K W->pre++[t] <+: ALL->YieldAt F m Tryz.prog l #[t.val] W λe W'=>
   (e = .returned (.bool true)/\J (pre++[t]) W'/\Kp W W')\/(e = .returned (.bool false)/\Jx (pre++[t]) W')) :
  ∀ (m:Nat) (t:CT) (n:Nat) (pre:List CT) (W:World),t.Qc<=m->t.mem K->K W->J pre W->pre++t.all <+: ALL ->
   CallsIn F n Tryz.prog 99 #[t.val,.func (.yield l) #[] #[]] W λe W'=>
    (e = .returned (.bool true)/\J (pre++t.all) W'/\Kp W W')\/(e = .returned (.bool false)/\∃ q,q <+: t.all/\Jx (pre++q) W'):=by
 intro m
 induction m with
 | zero=>intro t n pre W hh; cases t; rw [CT.Qc] at hh; omega
 | succ m ih=>
  intro t n pre W hh hm hK hJ0 hN;obtain⟨u0,u1,u2,u3,u4,u5,u6,u7,up,ul,uc,u9,uq,um,ud,a,cap,kids⟩:=t;rw [CT.mem] at hm;obtain⟨hkl,hks⟩:=hm;rw [CT.Qc] at hh;have hdd:∀ k:Nat,(F.depth.isSome=true->1<=k):=λk h=>by rw [hd] at h; cases h
  have hall:(CT.mk u0 u1 u2 u3 u4 u5 u6 u7 up ul uc u9 uq um ud a cap kids).all = .mk u0 u1 u2 u3 u4 u5 u6 u7 up ul uc u9 uq um ud a cap kids::CT.alls kids:=by rw [CT.all]
  rw [hall] at hN ⊢;obtain⟨rest,hrest⟩:=hN;have hB0:(W.alloc (.cells #[.int .u8 u0,.string u1,.string u2,.string u3,.int .u8 u4,.string u5,.string u6,.i u7,.slice up ul uc,.i u9,.slice uq um ud,.slice a kids.length cap] 38)).heap[W.heap.size]?=some (.cells #[.int .u8 u0,.string u1,.string u2,.string u3,.int .u8 u4,.string u5,.string u6,.i u7,.slice up ul uc,.i u9,.slice uq um ud,.slice a kids.length cap] 38 (0,0)):=World.alloc_heap_new W _
  have hY1:YieldAt F (n - 1) Tryz.prog l #[.agg #[.int .u8 u0,.string u1,.string u2,.string u3,.int .u8 u4,.string u5,.string u6,.i u7,.slice up ul uc,.i u9,.slice uq um ud,.slice a kids.length cap]] (W.alloc (.cells #[.int .u8 u0,.string u1,.string u2,.string u3,.int .u8 u4,.string u5,.string u6,.i u7,.slice up ul uc,.i u9,.slice uq um ud,.slice a kids.length cap] 38)) λe W'=>
    (e = .returned (.bool true)/\J (pre++[.mk u0 u1 u2 u3 u4 u5 u6 u7 up ul uc u9 uq um ud a cap kids]) W'/\Kp W W'/\W'.cell? ⟨W.heap.size,11,none⟩=some (.slice a kids.length cap))\/(e = .returned (.bool false)/\Jx (pre++[.mk u0 u1 u2 u3 u4 u5 u6 u7 up ul uc u9 uq um ud a cap kids]) W'):=by
   have hg:=hKg _ _ (World.grownBy_alloc W (.cells #[.int .u8 u0,.string u1,.string u2,.string u3,.int .u8 u4,.string u5,.string u6,.i u7,.slice up ul uc,.i u9,.slice uq um ud,.slice a kids.length cap] 38) none);have h0:=hY (n - 1) pre (.mk u0 u1 u2 u3 u4 u5 u6 u7 up ul uc u9 uq um ud a cap kids) _ (hJ _ _ _ hJ0 (World.grownBy_alloc W _ none)) (hKK _ _ hK hg) ⟨CT.alls kids++rest,by rw [<- hrest]; simp⟩;simp only [CT.val] at h0;refine YieldAt.mono h0 ?_;rintro e W2 (⟨he,hj,hk⟩ | h)
   ·refine .inl ⟨he,hj,hKt _ _ _ hg hk,?_⟩;have:=hKc _ _ _ _ _ hk (hKn W hK) hB0;simp [World.cell?,this]
   ·exact .inr h
  generalize hroot:CT.mk u0 u1 u2 u3 u4 u5 u6 u7 up ul uc u9 uq um ud a cap kids=root at hY1 hall hrest ⊢;have hv:root.val = .agg #[.int .u8 u0,.string u1,.string u2,.string u3,.int .u8 u4,.string u5,.string u6,.i u7,.slice up ul uc,.i u9,.slice uq um ud,.slice a kids.length cap]:=by rw [<- hroot]; rfl
  rw [hv];refine callsIn_of_wp Tryz.func99 rfl h6 ?_ hro;simp only [Tryz.ntmps99,List.size_toArray,aL,List.length_nil,Nat.reduceAdd,Nat.reduceSub,Array.replicate_succ,Array.replicate_zero,List.push_toArray,List.append_toArray,List.nil_append,List.cons_append];obtain⟨fn,tmps,assign,body,hy,hR⟩:=hY1
  gi_wp2
  refine hR.mono ?_;clear hR;rintro e W1 (⟨rfl,hJ1,hK1,hc1⟩ | ⟨rfl,hx1⟩)
  ·gi_wp2
   gi_loopw [14] (λe wr=>∃ i:Nat,e = .i i/\i<=kids.length/\J (pre++root::CT.alls (kids.take i)) wr/\Kp W wr)
    (λe wr=>kids.length - (intOf e).toNat)
   case atStart=>exact⟨0,rfl,aI _,by simpa [CT.alls] using hJ1,hK1⟩
   case round=>
    obtain⟨i,rfl,hi,hJi,hKi⟩:=hrel;by_cases hlt:i<kids.length
    ·obtain⟨⟨ad,B1,o1,hae,hq,hload⟩,hmk⟩:=CT.Yc (j:=i) hks (aF hlt);have htk:=CT.VN (j:=i) (aF hlt);have hhk:=CT.Qu (j:=i) (aF hlt);generalize kids[i]=kid at hload hmk htk hhk;obtain⟨v0,v1,v2,v3,v4,v5,v6,v7,vp,vl,vc,v9,vq,vm,vd,b,bap,bkids⟩:=kid;have hld:=hload wr (hKK _ _ hK hKi);have c0:=hld 0 (.int .u8 v0) rfl;have c1:=hld 1 (.string v1) rfl;have c2:=hld 2 (.string v2) rfl;have c3:=hld 3 (.string v3) rfl;have c4:=hld 4 (.int .u8 v4) rfl;have c5:=hld 5 (.string v5) rfl;have c6:=hld 6 (.string v6) rfl;have c7:=hld 7 (.i v7) rfl;have c8:=hld 8 (.slice vp vl vc) rfl;have c9:=hld 9 (.i v9) rfl;have c10:=hld 10 (.slice vq vm vd) rfl;have c11:=hld 11 (.slice b bkids.length bap) rfl;simp only [Nat.zero_add,Nat.add_zero] at hq c0;clear hld hload;subst hae
     have hpre:(pre++root::CT.alls (kids.take i))++(CT.mk v0 v1 v2 v3 v4 v5 v6 v7 vp vl vc v9 vq vm vd b bap bkids).all <+: ALL:=by
      obtain⟨r,hr⟩:=CT.XT kids (i+1);rw [htk] at hr;exact⟨r++rest,by rw [<- hrest,<- hr]; simp⟩
     have hgr:=World.grownBy_alloc wr (.cells #[.int .u8 v0,.string v1,.string v2,.string v3,.int .u8 v4,.string v5,.string v6,.i v7,.slice vp vl vc,.i v9,.slice vq vm vd,.slice b bkids.length bap] 38) none;have hrec:=ih (.mk v0 v1 v2 v3 v4 v5 v6 v7 vp vl vc v9 vq vm vd b bap bkids) (n - 1) _ _ (by omega) hmk (hKK _ _ hK (hKt _ _ _ hKi (hKg _ _ hgr))) (hJ _ _ _ hJi hgr) hpre;rw [List.append_assoc,List.cons_append,<- htk] at hrec;simp only [CT.val] at hrec;have HTK:=Lib.hid htk;have HRE:=Lib.hid hrest;clear htk hrest ih hY hpre hroot hv hall hmk
     gi_wp2
     refine hrec.mono ?_;clear hrec;rintro e W3 (⟨rfl,hJ3,hK3⟩ | ⟨rfl,q,hq3,hx3⟩)
     ·gi_wp2
      go_roundw
      case rel=>exact⟨i+1,by simp,hlt,hJ3,hKt _ _ _ (hKt _ _ _ hKi (hKg _ _ hgr)) hK3⟩
      case measure=>simp [intOf]; omega
     ·gi_wp2
      go_ret
      refine .inr ⟨rfl,root::(CT.alls (kids.take i)++q),?_,by simpa [List.append_assoc] using hx3⟩;obtain⟨r1,hr1⟩:=hq3;obtain⟨r2,hr2⟩:=CT.XT kids (i+1);exact⟨r1++r2,by rw [<- hr2,HTK.out,<- hr1]; simp⟩
    ·have hge:i=kids.length:=by omega
     subst hge;rw [bD] at hJi
     gi_wp2
     go_ret
     exact .inl ⟨rfl,hJi,hKi⟩
  ·gi_wp2
   go_ret
   exact .inr ⟨rfl,[root],⟨CT.alls kids,by simp⟩,hx1⟩
set_option maxRecDepth 100000 in
set_option maxHeartbeats 4000000 in
theorem Tryz.zeq(F:Fence)(hd:F.depth=none)(h5:F.fn 98)(h6:F.fn 99)(hro:F.round=none)(l n₀ n Bt:Nat)(t:CT)(K:World->Prop)(Kp:World->World->Prop)(J Jx:List CT->World->Prop)(hJ:∀ pre W W',J pre W->W.grownBy W' none->J pre W')
  (hKt:∀ A B C,Kp A B->Kp B C->Kp A C) (hKg:∀ W W',W.grownBy W' none->Kp W W') (hKc:∀ A B b cs el,Kp A B->n₀<=b->A.heap[b]?=some (.cells cs el (0,0))->B.heap[b]?=some (.cells cs el (0,0))) (hKK:∀ A B,K A->Kp A B->K B) (hKn:∀ W,K W->n₀<=W.heap.size)
  (hY:∀ m pre t' W,J pre W->K W->pre++[t'] <+: t.all->YieldAt F m Tryz.prog l #[t'.val] W λe W'=>
   (e = .returned (.bool true)/\J (pre++[t']) W'/\Kp W W')\/(e = .returned (.bool false)/\Jx (pre++[t']) W')) (W:World) (hm:t.mem K) (hK:K W) (h0:J [] W)
  (hc:∀ k v,t.cells[k]?=some v->W.cell? ⟨Bt,k,none⟩=some v) :
  CallsIn F n Tryz.prog 98 #[.func (.yield l) #[] #[],.pointer (some ⟨Bt,0,none⟩)] W λe W'=>(∃ v,e = .returned v)/\(J t.all W'\/∃ q,q <+: t.all/\Jx q W'):=by
 have hv:=Tryz.zht F hd h6 hro l n₀ t.all K Kp J Jx hJ hKt hKg hKc hKK hKn hY t.Qc t (n - 1) [] W (aJ _) hm hK h0 (by simp);obtain⟨u0,u1,u2,u3,u4,u5,u6,u7,up,ul,uc,u9,uq,um,ud,a,cap,kids⟩:=t;have c0:=hc 0 _ rfl;have c1:=hc 1 _ rfl;have c2:=hc 2 _ rfl;have c3:=hc 3 _ rfl;have c4:=hc 4 _ rfl;have c5:=hc 5 _ rfl;have c6:=hc 6 _ rfl;have c7:=hc 7 _ rfl;have c8:=hc 8 _ rfl;have c9:=hc 9 _ rfl;have c10:=hc 10 _ rfl;have c11:=hc 11 _ rfl;clear hc hm hY;have hdd:∀ k:Nat,(F.depth.isSome=true->1<=k):=λk h=>by rw [hd] at h; cases h
 generalize hall:(CT.mk u0 u1 u2 u3 u4 u5 u6 u7 up ul uc u9 uq um ud a cap kids).all=ALL at hv ⊢;clear hall;simp only [CT.val,List.nil_append] at hv;refine callsIn_of_wp Tryz.func98 rfl h5 ?_ hro;simp only [Tryz.ntmps98,List.size_toArray,aL,List.length_nil,Nat.reduceAdd,Nat.reduceSub,Array.replicate_succ,Array.replicate_zero,List.push_toArray,List.append_toArray,List.nil_append,List.cons_append]
 gi_wp2
 refine hv.mono ?_;clear hv;rintro e W1 (⟨rfl,hJ1,_⟩ | ⟨rfl,q,hq,hx⟩)
 ·gi_wp2
  go_end0
  exact⟨⟨_,rfl⟩,.inl hJ1⟩
 ·gi_wp2
  go_end0
  exact⟨⟨_,rfl⟩,.inr ⟨q,hq,hx⟩⟩
end Go.Proofs
end
section
namespace Go.Nov
open Go.Sx
def jn(k:Int)(r n:L8)(d:Int)(l:Nat):Bool:=
 decide (l=0)&&(if k=1 then decide (errR r=0)&&decide (n=[])&&decide (d=0) else if k=2 then decide (r=[])&&qI n&&dayB d else if k=3 then decide (r=[])&&qI n&&decide (d=0) else false)
def wL(k:Int)(r n:L8)(d:Int)(ss:List Int):Int:=
 if qS k=true then(if r=[]/\n=[]/\d=0/\ss=qw k then jv k else 0) else if jn k r n d ss.length=true then 1 else 0
def zpo(r m:L8)(d:Int):Bool:=bif (bif decide (r=[]) then decide (m=[]) else false) then decide (d=0) else false
theorem V8{k:Int}{r m:L8}{d:Int}{l ps:List Int}{w:Int}(h:yL k=some (ps,w)):wL k r m d l=if zpo r m d=true/\l=ps then w else 0:=by
 have h1:qS k=true:=by simp [qS,h]
 have h2:qw k=ps:=by simp [qw,h]
 have h3:jv k=w:=by simp [jv,h]
 unfold wL;rw [aP h1,h2,h3];simp [zpo,and_assoc]
theorem wP{k:Int}{r m:L8}{d:Int}{l:List Int}(h:qS k=false):wL k r m d l=if jn k r m d l.length=true then 1 else 0:=by
 unfold wL;rw [aO (by rw [h]; decide)]
theorem zb7{k:Int}(h:¬ (4<=k/\k<=9))(h2:¬ (11<=k/\k<=15)):qS k=false:=by
 have e:∀ c:Int,(4<=c/\c<=9)\/(11<=c/\c<=15)->(c == k)=false:=λc hc=>by
  rw [beq_eq_false_iff_ne]; omega
 simp only [qS,yL,shpL,List.find?_cons,e 4 (by omega),e 5 (by omega),e 6 (by omega),e 7 (by omega),e 8 (by omega),e 9 (by omega),e 11 (by omega),e 12 (by omega),e 13 (by omega),e 14 (by omega),e 15 (by omega),List.find?_nil];rfl
namespace Ex
mutual
def depth:Ex->Nat
 | mk _ _ _ _ s=>1+zz s
def zz:List Ex->Nat
 | []=>0
 | x::l=>max (depth x) (zz l)
end
mutual
def zJ:Ex->Nat
 | mk _ r n _ s=>r.length+n.length+qV s
def qV:List Ex->Nat
 | []=>0
 | x::l=>zJ x+qV l
end
mutual
def zx:Ex->Int
 | mk k r n d s=>wL k r n d (qc s)
def qc:List Ex->List Int
 | []=>[]
 | x::l=>zx x::qc l
end
mutual
def thin:Ex->Prop
 | mk _ r n _ s=>r.length<=2^48/\n.length<=2^48/\Wu s
def Wu:List Ex->Prop
 | []=>True
 | x::l=>thin x/\Wu l
end
theorem xd(x:Ex):x.depth=1+zz x.sub:=by cases x; rw [depth]; rfl
theorem zex(x:Ex):x.zJ=x.rat.length+x.name.length+qV x.sub:=by cases x; rw [zJ]; rfl
theorem JR(x:Ex):x.zx=wL x.kind x.rat x.name x.date (qc x.sub):=by cases x; rw [zx]; rfl
theorem vr(s:List Ex)(i:Nat)(h:i<s.length):zz (s.take (i+1))=max (zz (s.take i)) (s.getD i nil).depth:=by
 induction s generalizing i with
 | nil=>simp at h
 | cons x s ih=>
  cases i with
  | zero=>simp [zz]
  | succ i=>
   simp only [List.take_succ_cons,zz,List.getD_cons_succ];rw [ih i (by simpa using h)];omega
theorem UF{s:List Ex}{i:Nat}(h:i<s.length):(s.getD i nil).zJ<=qV s:=by
 induction s generalizing i with
 | nil=>simp at h
 | cons x s ih=>
  cases i with
  | zero=>simp [qV]
  | succ i=>
   simp only [List.getD_cons_succ,qV];have:=ih (i:=i) (by simpa using h);omega
theorem jF(s:List Ex):(qc s).length=s.length:=by
 induction s with
 | nil=>simp [qc]
 | cons x s ih=>simp [qc,ih]
theorem VB{s:List Ex}{i:Nat}(h:i<s.length):(qc s).getD i 0=(s.getD i nil).zx:=by
 induction s generalizing i with
 | nil=>simp at h
 | cons x s ih=>
  cases i with
  | zero=>simp [qc]
  | succ i=>simpa [qc] using ih (i:=i) (by simpa using h)
theorem uO{s:List Ex}{ps:List Int} : qc s=ps↔s.length=ps.length/\∀ i,i<s.length->(s.getD i nil).zx=ps.getD i 0:=by
 constructor
 ·rintro rfl;exact⟨(jF s).symm,λi hi=>(VB hi).symm⟩
 ·rintro⟨h1,h2⟩;apply List.ext_getElem
  ·rw [jF,h1]
  ·intro i g1 g2;have g3:i<s.length:=by rwa [jF] at g1
   have:=h2 i g3;rw [<- VB g3] at this;simpa [List.getD,g1,g2] using this
mutual
theorem zdr:∀ x:Ex,thin x->zJ x<=size x*2^49
 | mk k r n d s,h=>by
  rw [thin] at h;have:=V3 s h.2.2;rw [zJ,size,bH];omega
theorem V3:∀ l:List Ex,Wu l->qV l<=zw l*2^49
 | [],_=>by simp [qV]
 | x::l,h=>by
  rw [Wu] at h;have h1:=zdr x h.1;have h2:=V3 l h.2;rw [qV,zw,bH];omega
end
def errX(x:Ex):Int:=if 500<x.size\/60<x.depth then 4 else if x.zx=0 then 8 else 0
theorem zfs(x:Ex):0<x.depth:=by rw [xd]; omega
theorem jP:∀ x:Ex,x.depth<=x.size:=by
 intro x
 have key:∀ (n:Nat) (x:Ex),x.size<=n->x.depth<=x.size:=by
  intro n
  induction n with
  | zero=>intro x h; have:=size_pos x; omega
  | succ n ih=>
   intro x h;rw [size_eq] at h ⊢;rw [xd]
   have:∀ l:List Ex,zw l<=n->zz l<=zw l:=by
    intro l
    induction l with
    | nil=>simp [zz]
    | cons y l il=>
     intro hl;simp only [zw,zz] at hl ⊢;have:=ih y (by omega);have:=il (by omega);omega
   have:=this x.sub (by omega);omega
 exact key _ x (aJ _)
theorem xf{s t:List Ex}(hl:s.length=t.length)(h:∀ j,j<s.length->s.getD j nil=t.getD j nil):s=t:=by
 apply List.ext_getElem hl;intro i g1 g2;have:=h i g1;simpa [List.getD,g1,g2] using this
theorem xL{x y:Ex} : x=y↔x.kind=y.kind/\x.rat=y.rat/\x.name=y.name/\x.date=y.date/\x.sub=y.sub:=by
 cases x; cases y;simp [kind,rat,name,date,sub]
end Ex
end Go.Nov
end
section
namespace Go.Nov
open Go.Sx
def cmpS(s t:L8):Int:=if Op.bytesLess s t then -1 else if s=t then 0 else 1
def cmpI(x y:Int):Int:=if x<y then -1 else if y<x then 1 else 0
def orI:List Int->Int
 | []=>0
 | x::l=>if x=0 then orI l else x
structure Fx where
 name:L8
 date:Int
 value:L8
structure Ch where
 qn:L8
 name:L8
 date:Int
 first:Bool
abbrev Fx.nil:Fx:=⟨[],0,[]⟩
abbrev Ch.nil:Ch:=⟨[],[],0,false⟩
def Fx.cell(f:Fx):Nat->AV
 | 0=>.str f.name
 | 1=>.i f.date
 | 2=>.str f.value
 | _=>.undef
def Ch.cell(c:Ch):Nat->AV
 | 0=>.str c.qn
 | 1=>.str c.name
 | 2=>.i c.date
 | 3=>.bool c.first
 | _=>.undef
def fxG(l:List Fx):Nat->Nat->AV:=λj=>(l.getD j Fx.nil).cell
def chG(l:List Ch):Nat->Nat->AV:=λj=>(l.getD j Ch.nil).cell
def Fx.av(f:Fx):AV:=.agg [.str f.name,.i f.date,.str f.value]
def Ch.av(c:Ch):AV:=.agg [.str c.qn,.str c.name,.i c.date,.bool c.first]
def fxS(l:List Fx):AV:=.sl l.length 3 (fxG l)
def chS(l:List Ch):AV:=.sl l.length 4 (chG l)
def envA(f:List Fx)(c:List Ch):AV:=.agg [fxS f,chS c]
def cmpF(a b:Fx):Int:=if cmpS a.name b.name=0 then cmpI a.date b.date else cmpS a.name b.name
def cmpC(a b:Ch):Int:=if cmpS a.qn b.qn=0 then(if cmpS a.name b.name=0 then cmpI a.date b.date else cmpS a.name b.name) else cmpS a.qn b.qn
end Go.Nov
namespace Go.Nov
def okF(f:Fx):Bool:=qI f.name&&dayB f.date&&decide (errR f.value=0)
def okC(c:Ch):Bool:=qI c.qn&&qI c.name&&dayB c.date
def idxB{α:Type}(p:α->Bool)(l:List α):Int:=if l.findIdx p<l.length then(l.findIdx p:Int) else -1
theorem Y0{α:Type}(p:α->Bool)(l:List α):decide (0<=idxB p l)=l.any p:=by
 unfold idxB;by_cases h:l.findIdx p<l.length
 ·rw [aP h]
  have:l.any p=true:=by
   rw [List.any_eq_true];exact⟨_,bK h,List.findIdx_getElem (w:=h)⟩
  rw [this]; simp
 ·rw [aO h]
  have:l.any p=false:=by
   rw [List.any_eq_false];intro x hx hpx;exact h (List.findIdx_lt_length_of_exists ⟨x,hx,hpx⟩)
  rw [this]; rfl
theorem QQ{α:Type}{p:α->Bool}{l:List α}{z:α}{i:Nat}(hi:i<l.length)(h:p (l.getD i z)=true)(hb:∀ j,j<i->p (l.getD j z)=false):idxB p l=i:=by
 have hlt:l.findIdx p<l.length:=List.findIdx_lt_length_of_exists ⟨l[i],bK hi,by simpa [List.getD,hi] using h⟩
 have e:l.findIdx p=i:=by
  rcases Nat.lt_trichotomy (l.findIdx p) i with h1 | h1 | h1
  ·have h2:=List.findIdx_getElem (w:=hlt);have h3:=hb _ h1;simp only [List.getD,aF hlt,Option.getD_some] at h3;rw [h2] at h3; cases h3
  ·exact h1
  ·have h2:=List.not_of_lt_findIdx h1;simp only [List.getD,aF hi,Option.getD_some] at h;exact absurd h (by simpa using h2)
 unfold idxB;rw [aP hlt,e]
theorem y8{α:Type}{p:α->Bool}{l:List α}{z:α}(hb:∀ j,j<l.length->p (l.getD j z)=false):idxB p l = -1:=by
 unfold idxB;rw [aO];intro h;have h2:=List.findIdx_getElem (w:=h);have h3:=hb _ h;simp only [List.getD,aF h,Option.getD_some] at h3;rw [h2] at h3; cases h3
end Go.Nov
namespace Go.Nov
def ordB{α:Type}(c:α->α->Int)(z:α)(l:List α):Bool:=(List.range (l.length - 1)).all λi=>decide (c (l.getD i z) (l.getD (i+1) z)<0)
theorem Jq{α:Type}{c:α->α->Int}{z:α}{l:List α}(h:∀ j,j+1<l.length->c (l.getD j z) (l.getD (j+1) z)<0):ordB c z l=true:=by
 simp only [ordB,bG,List.mem_range,aK];exactλj hj=>h j (by omega)
theorem QT{α:Type}{c:α->α->Int}{z:α}{l:List α}{j:Nat}(hj:j+1<l.length)(h:¬ c (l.getD j z) (l.getD (j+1) z)<0):ordB c z l=false:=by
 simp only [ordB,List.all_eq_false,List.mem_range];exact⟨j,by omega,by simpa using h⟩
def errE(f:List Fx)(c:List Ch):Int:=if 1000<f.length\/1000<c.length then 4 else if(f.all okF&&c.all okC&&ordB cmpF Fx.nil f&&ordB cmpC Ch.nil c)=true then 0 else 8
end Go.Nov
namespace Go.Nov
theorem zc1{x y:Int} : cmpI x y<0↔x<y:=by
 unfold cmpI;split
 ·rename_i h; exact⟨λ_=>h,λ_=>by decide⟩
 ·rename_i h;split
  ·exact⟨λh2=>by omega,λh2=>absurd h2 h⟩
  ·exact⟨λh2=>by omega,λh2=>absurd h2 h⟩
end Go.Nov
namespace Go.Nov
end Go.Nov
end
section
namespace Go.Nov
open Go.Sx
inductive Con where
 | mk (kind:Int) (src dst name:L8) (x:Ex) (date:Int) (days:List Int) (sub:List Con)
def ja(x:Ex):Bool:=decide (x.kind=0)&&(decide (x.rat=[])&&(decide (x.name=[])&&(decide (x.date=0)&&decide (x.sub.length=0))))
def wB(x:Ex):Nat:=bif ja x then 0 else x.size
def kP(x:Ex):Nat:=bif ja x then 0 else x.depth
def numX(x:Ex):Bool:=decide (x.errX=0)&&decide (x.zx=1)
def truX(x:Ex):Bool:=decide (x.errX=0)&&decide (x.zx=2)
def incB(l:List Int):Bool:=ordB cmpI 0 l
def xN(l:List Int):Bool:=decide (1<=l.length)&&(decide (l.length<=100)&&(l.all dayB&&incB l))
def vK(k:Int)(a b n:L8)(x:Ex)(d:Int)(l:List Int)(m:Nat):Bool:=
 if k=1 then decide (m=0)&&decide (a=[])&&decide (b=[])&&decide (n=[])&&decide (d=0)&&decide (l=[])&&ja x
 else if k=2 then decide (m=0)&&qI a&&qI b&&decide (a≠b)&&qI n&&numX x&&decide (d=0)&&decide (l=[])
 else if k=3 then decide (m=2)&&decide (a=[])&&decide (b=[])&&decide (n=[])&&decide (d=0)&&decide (l=[])&&ja x
 else if k=4 then decide (m=1)&&decide (a=[])&&decide (b=[])&&decide (n=[])&&decide (d=0)&&decide (l=[])&&numX x
 else if k=5 then decide (m=2)&&decide (a=[])&&decide (b=[])&&decide (n=[])&&decide (d=0)&&decide (l=[])&&truX x
 else if k=6 then decide (m=1)&&decide (a=[])&&decide (b=[])&&decide (n=[])&&dayB d&&decide (l=[])&&ja x
 else if k=7 then decide (m=2)&&qI a&&decide (b=[])&&qI n&&decide (d=0)&&decide (l=[])&&ja x
 else if k=8 then decide (m=1)&&qI a&&decide (b=[])&&qI n&&decide (d=0)&&xN l&&ja x
 else if k=9\/k=10 then decide (m=1)&&decide (a=[])&&decide (b=[])&&decide (n=[])&&decide (d=0)&&xN l&&truX x
 else false
theorem Ex.Wz(s:List Ex)(i:Nat):Ex.zz (s.take i)<=Ex.zz s:=by
 induction s generalizing i with
 | nil=>simp [Ex.zz]
 | cons x s ih=>
  cases i with
  | zero=>simp [Ex.zz]
  | succ i=>simp only [List.take_succ_cons,Ex.zz]; have:=ih i; omega
namespace Con
def kind:Con->Int | mk k _ _ _ _ _ _ _=>k
def src:Con->L8 | mk _ a _ _ _ _ _ _=>a
def dst:Con->L8 | mk _ _ b _ _ _ _ _=>b
def name:Con->L8 | mk _ _ _ n _ _ _ _=>n
def x:Con->Ex | mk _ _ _ _ x _ _ _=>x
def date:Con->Int | mk _ _ _ _ _ d _ _=>d
def days:Con->List Int | mk _ _ _ _ _ _ l _=>l
def sub:Con->List Con | mk _ _ _ _ _ _ _ s=>s
abbrev nil:Con:=mk 0 [] [] [] Ex.nil 0 [] []
mutual
def nodes:Con->Nat
 | mk _ _ _ _ _ _ _ s=>1+zF s
def zF:List Con->Nat
 | []=>0
 | c::l=>nodes c+zF l
end
mutual
def size:Con->Nat
 | mk _ _ _ _ x _ _ s=>1+wB x+zw s
def zw:List Con->Nat
 | []=>0
 | c::l=>size c+zw l
end
mutual
def depth:Con->Nat
 | mk _ _ _ _ x _ _ s=>1+max (kP x) (zz s)
def zz:List Con->Nat
 | []=>0
 | c::l=>max (depth c) (zz l)
end
mutual
def big:Con->Nat
 | mk _ a b n x _ l s=>1+a.length+b.length+n.length+l.length+x.size+x.zJ+bigs s
def bigs:List Con->Nat
 | []=>0
 | c::l=>big c+bigs l
end
mutual
def form:Con->Bool
 | mk k a b n x d l s=>vK k a b n x d l s.length&&vI s
def vI:List Con->Bool
 | []=>true
 | c::l=>form c&&vI l
end
mutual
def thin:Con->Prop
 | mk _ a b n x _ l s=>a.length<=2^48/\b.length<=2^48/\n.length<=2^48/\x.thin/\l.length<=2^48/\s.length<=2^48/\Wu s
def Wu:List Con->Prop
 | []=>True
 | c::l=>thin c/\Wu l
end
theorem wo(c:Con):c.nodes=1+zF c.sub:=by cases c; rw [nodes]; rfl
theorem size_eq(c:Con):c.size=1+wB c.x+zw c.sub:=by cases c; rw [size]; rfl
theorem xd(c:Con):c.depth=1+max (kP c.x) (zz c.sub):=by cases c; rw [depth]; rfl
theorem xg(c:Con):c.big=1+c.src.length+c.dst.length+c.name.length+c.days.length+c.x.size+c.x.zJ+bigs c.sub:=by cases c; rw [big]; rfl
theorem znx(c:Con):c.form=(vK c.kind c.src c.dst c.name c.x c.date c.days c.sub.length&&vI c.sub):=by cases c; rw [form]; rfl
theorem size_pos(c:Con):0<c.size:=by rw [size_eq]; omega
theorem Kl(c:Con):0<c.nodes:=by rw [wo]; omega
theorem zmq(c:Con):0<c.big:=by rw [xg]; omega
section
variable {f:Con->Nat} {F:List Con->Nat}
theorem Jb(h0:F []=0)(h1:∀ c l,F (c::l)=f c+F l):∀ (s:List Con) (i:Nat),i<s.length->F (s.take (i+1))=F (s.take i)+f (s.getD i nil)
 | [],i,h=>by simp at h
 | c::s,0,_=>by simp [h0,h1]
 | c::s,i+1,h=>by
  simp only [List.take_succ_cons,h1,List.getD_cons_succ];rw [Jb h0 h1 s i (by simpa using h)];omega
theorem QI(h0:F []=0)(h1:∀ c l,F (c::l)=f c+F l):∀ (s:List Con) (i:Nat),i<s.length->f (s.getD i nil)<=F s
 | [],i,h=>by simp at h
 | c::s,0,_=>by simp [h1]
 | c::s,i+1,h=>by
  simp only [List.getD_cons_succ,h1];have:=QI h0 h1 s i (by simpa using h);omega
theorem zlq(h0:F []=0)(h1:∀ c l,F (c::l)=f c+F l):∀ (s:List Con) (i:Nat),F (s.take i)<=F s
 | [],i=>by simp [h0]
 | c::s,0=>by simp [h0]
 | c::s,i+1=>by
  simp only [List.take_succ_cons,h1];have:=zlq h0 h1 s i;omega
end
theorem Qh{s:List Con}{i:Nat}(h:i<s.length):zF (s.take (i+1))=zF (s.take i)+(s.getD i nil).nodes:=Jb (by rw [zF]) (λc l=>by rw [zF]) s i h
theorem jA{s:List Con}{i:Nat}(h:i<s.length):(s.getD i nil).nodes<=zF s:=QI (by rw [zF]) (λc l=>by rw [zF]) s i h
theorem ze6(s:List Con)(i:Nat):zF (s.take i)<=zF s:=zlq (f:=nodes) (by rw [zF]) (λc l=>by rw [zF]) s i
theorem Wi{s:List Con}{i:Nat}(h:i<s.length):zw (s.take (i+1))=zw (s.take i)+(s.getD i nil).size:=Jb (by rw [zw]) (λc l=>by rw [zw]) s i h
theorem qb{s:List Con}{i:Nat}(h:i<s.length):(s.getD i nil).size<=zw s:=QI (by rw [zw]) (λc l=>by rw [zw]) s i h
theorem ye{s:List Con}{i:Nat}(h:i<s.length):(s.getD i nil).big<=bigs s:=QI (by rw [bigs]) (λc l=>by rw [bigs]) s i h
theorem xW:∀ s:List Con,s.length<=bigs s
 | []=>by simp
 | c::s=>by have:=zmq c; have:=xW s; rw [bigs,aL]; omega
theorem Vv:∀ s:List Con,s.length<=zF s
 | []=>by simp
 | c::s=>by have:=Kl c; have:=Vv s; rw [zF,aL]; omega
theorem vr:∀ (s:List Con) (i:Nat),i<s.length->zz (s.take (i+1))=max (zz (s.take i)) (s.getD i nil).depth
 | [],i,h=>by simp at h
 | c::s,0,_=>by simp [zz]
 | c::s,i+1,h=>by
  simp only [List.take_succ_cons,zz,List.getD_cons_succ];rw [vr s i (by simpa using h)];omega
theorem VK:∀ (s:List Con) (i:Nat),zz (s.take i)<=zz s
 | [],i=>by simp [zz]
 | c::s,0=>by simp [zz]
 | c::s,i+1=>by simp only [List.take_succ_cons,zz]; have:=VK s i; omega
theorem Kj:∀ (s:List Con) (i:Nat),i<s.length->(s.getD i nil).form=false->vI s=false
 | [],i,h,_=>by simp at h
 | c::s,0,_,h=>by simp only [List.getD_cons_zero] at h; rw [vI,h,Bool.false_and]
 | c::s,i+1,hl,h=>by
  simp only [List.getD_cons_succ] at h;rw [vI,Kj s i (by simpa using hl) h,Bool.and_false]
def errC(c:Con):Int:=if 500<c.size\/60<c.depth then 4 else if c.form=true then 0 else 8
def dayG(l:List Int):Nat->Nat->AV:=λj _=>.i (l.getD j 0)
def dayS(l:List Int):AV:=.sl l.length 1 (dayG l)
def cell(k:Int)(a b n:L8)(x:Ex)(d:Int)(l:List Int)(m:Nat)(g:Nat->Nat->AV):Nat->AV
 | 0=>.int .u8 k
 | 1=>.str a
 | 2=>.str b
 | 3=>.str n
 | 4=>.int .u8 x.kind
 | 5=>.str x.rat
 | 6=>.str x.name
 | 7=>.i x.date
 | 8=>.sl x.sub.length 5 (Ex.exG x.sub)
 | 9=>.i d
 | 10=>.sl l.length 1 (dayG l)
 | 11=>.sl m 12 g
 | _=>.undef
def deep:Con->Nat->Nat->AV
 | mk _ _ _ _ _ _ _ s=>λj=>(s.map λc=>cell c.kind c.src c.dst c.name c.x c.date c.days c.sub.length (deep c)).getD j λ_=>.undef
def conG(s:List Con):Nat->Nat->AV:=λj=>cell (s.getD j nil).kind (s.getD j nil).src (s.getD j nil).dst (s.getD j nil).name (s.getD j nil).x (s.getD j nil).date (s.getD j nil).days (s.getD j nil).sub.length (deep (s.getD j nil))
def conS(s:List Con):AV:=.sl s.length 12 (conG s)
def qQ(k:Int)(a b n:L8)(x:Ex)(d:Int)(l:List Int)(s:List Con):List AV:=[.int .u8 k,.str a,.str b,.str n,.int .u8 x.kind,.str x.rat,.str x.name,.i x.date,Ex.exS x.sub,.i d,dayS l,conS s]
def conA(c:Con):AV:=.agg [.int .u8 c.kind,.str c.src,.str c.dst,.str c.name,.int .u8 c.x.kind,.str c.x.rat,.str c.x.name,.i c.x.date,Ex.exS c.x.sub,.i c.date,dayS c.days,conS c.sub]
theorem qp(c:Con):eqG c.sub.length 12 (deep c) (conG c.sub):=by
 intro j o hj ho;cases c with
 | mk k a b n x d l s=>
  rw [deep];change j<s.length at hj;show _=conG s j o;simp [conG,List.getD,hj]
theorem xL{c e:Con} : c=e↔c.kind=e.kind/\c.src=e.src/\c.dst=e.dst/\c.name=e.name/\c.x=e.x/\c.date=e.date/\c.days=e.days/\c.sub=e.sub:=by
 cases c; cases e;simp [kind,src,dst,name,x,date,days,sub]
theorem xf{s t:List Con}(hl:s.length=t.length)(h:∀ j,j<s.length->s.getD j nil=t.getD j nil):s=t:=by
 apply List.ext_getElem hl;intro i g1 g2;have:=h i g1;simpa [List.getD,g1,g2] using this
mutual
def all:Con->List Con
 | mk k a b n x d l s=>mk k a b n x d l s::alls s
def alls:List Con->List Con
 | []=>[]
 | c::l=>all c++alls l
end
theorem all_eq(c:Con):c.all=c::alls c.sub:=by cases c; rw [all]; rfl
def xP(c:Con):Bool:=vK c.kind c.src c.dst c.name c.x c.date c.days c.sub.length
mutual
theorem Xf:∀ c:Con,c.all.length=c.nodes
 | mk k a b n x d l s=>by rw [all,nodes,aL,X3 s]; omega
theorem X3:∀ s:List Con,(alls s).length=zF s
 | []=>by simp [alls,zF]
 | c::s=>by rw [alls,zF,bO,Xf c,X3 s]
end
mutual
theorem WE:∀ c:Con,c.form=c.all.all xP
 | mk k a b n x d l s=>by rw [all,form,List.all_cons,VD s]; rfl
theorem VD:∀ s:List Con,vI s=(alls s).all xP
 | []=>by simp [alls,vI]
 | c::s=>by rw [alls,vI,List.all_append,WE c,VD s]
end
def wt(c:Con):Nat:=1+wB c.x
mutual
theorem Wo:∀ c:Con,c.size=(c.all.map wt).sum
 | mk k a b n x d l s=>by rw [all,size,List.map_cons,List.sum_cons,Vf s]; rfl
theorem Vf:∀ s:List Con,zw s=((alls s).map wt).sum
 | []=>by simp [alls,zw]
 | c::s=>by rw [alls,zw,List.map_append,List.sum_append,Wo c,Vf s]
end
mutual
theorem QN:∀ c:Con,∀ e∈c.all,e.big<=c.big
 | mk k a b n x d l s,e,he=>by
  rw [all] at he;rcases aM.1 he with rfl | he
  ·exact aJ _
  ·have:=X2 s e he;rw [big]; omega
theorem X2:∀ s:List Con,∀ e∈alls s,e.big<=bigs s
 | [],e,he=>by simp [alls] at he
 | c::s,e,he=>by
  rw [alls] at he;rw [bigs];rcases cA.1 he with he | he
  ·have:=QN c e he; omega
  ·have:=X2 s e he; omega
end
theorem yS(c:Con):c.nodes<=c.size:=by
 rw [<- Xf,Wo];generalize c.all=l
 induction l with
 | nil=>simp
 | cons a l ih=>rw [List.map_cons,List.sum_cons,aL]; have:wt a=1+wB a.x:=rfl; omega
theorem Jt(x:Ex):wB x<=x.size:=by unfold wB; cases ja x<;>simp
theorem VC(x:Ex):kP x<=wB x:=by
 unfold wB kP;cases ja x
 ·exact Ex.jP x
 ·exact aJ _
mutual
theorem zhf:∀ c:Con,c.size<=c.big
 | mk k a b n x d l s=>by
  have:=ZA s;have:=Jt x;rw [size,big]; omega
theorem ZA:∀ s:List Con,zw s<=bigs s
 | []=>by simp [zw,bigs]
 | c::s=>by rw [zw,bigs]; have:=zhf c; have:=ZA s; omega
end
mutual
theorem UH:∀ c:Con,c.depth<=c.size
 | mk k a b n x d l s=>by
  have:=xQ s;have:=VC x;rw [depth,size]; omega
theorem xQ:∀ s:List Con,zz s<=zw s
 | []=>by simp [zz,zw]
 | c::s=>by rw [zz,zw]; have:=UH c; have:=xQ s; omega
end
theorem UB(s:List Con):zz s<=bigs s:=bP (xQ s) (ZA s)
end Con
def Con.ze(c:Con):List AV:=Con.qQ c.kind c.src c.dst c.name c.x c.date c.days c.sub
def Con.outD(c:Con)(x d s:AV):AV:=.agg [.int .u8 c.kind,.str c.src,.str c.dst,.str c.name,.int .u8 c.x.kind,.str c.x.rat,.str c.x.name,.i c.x.date,x,.i c.date,d,s]
def Con.conD(c:Con):AV:=c.outD (Ex.exS c.x.sub) (Con.dayS c.days) (.sl c.sub.length 12 c.deep)
def Ex.cellsD(x:Ex):List AV:=[.int .u8 x.kind,.str x.rat,.str x.name,.i x.date,.sl x.sub.length 5 x.deep]
def Con.zp(e:Con):List AV:=[.int .u8 e.kind,.str e.src,.str e.dst,.str e.name,.int .u8 e.x.kind,.str e.x.rat,.str e.x.name,.i e.x.date,.sl e.x.sub.length 5 (Ex.exG e.x.sub),.i e.date,.sl e.days.length 1 (Con.dayG e.days),.sl e.sub.length 12 e.deep]
end Go.Nov
end
section
namespace Go.Sx
variable [Stat]
open Go.RowKit (Below)
def Ky(c:Code)(tg tp td t:Nat):Bool:=match c with
 | .rangeFunc (.tmp g) ps (.region _ ops false) _=>decide (g=tg)&&decide (ps.toList=[tp])&&match ops.toList with
  | [o1,o2]=>(decide (o1.dst=some td)&&o1.guard.isNone&&decide (o2.dst=none)&&o2.guard.isNone)&&(match o1.op with
   | .alloc u=>decide (u=t)
   | _=>false)&&(match o2.op with
   | .store u (.tmp p) (.tmp q)=>decide (u=t)&&decide (p=td)&&decide (q=tp)
   | _=>false)
  | _=>false
 | _=>false
theorem XB{c:Code}{tg tp td t:Nat}(h:Ky c tg tp td t=true):∃ id o1 o2,c = .rangeFunc (.tmp tg) #[tp] (.region id #[o1,o2] false) (wO c)/\(o1.dst=some td/\o1.guard=none/\o1.op = .alloc t)/\o2.dst=none/\o2.guard=none/\o2.op = .store t (.tmp td) (.tmp tp):=by
 unfold Ky at h;split at h
 ·rename_i g ps id ops body;simp only [bA,aK] at h;obtain⟨⟨rfl,h2⟩,h3⟩:=h;split at h3
  ·rename_i o1 o2 ho;simp only [bA,aK,Option.isNone_iff_eq_none] at h3;obtain⟨⟨⟨⟨⟨h4,h5⟩,h6⟩,h7⟩,h8⟩,h9⟩:=h3;split at h8
   ·rename_i u hu;simp only [aK] at h8;subst h8;split at h9
    ·rename_i v p q hv;simp only [bA,aK] at h9;obtain⟨⟨rfl,rfl⟩,rfl⟩:=h9;refine⟨id,o1,o2,?_,⟨h4,h5,hu⟩,h6,h7,hv⟩;have e1:ps = #[q]:=by rw [<- Array.toList_inj]; exact h2
     have e2:ops = #[o1,o2]:=by rw [<- Array.toList_inj]; exact ho
     rw [e1,e2]; rfl
    ·cases h9
   ·cases h8
  ·cases h3
 ·cases h
def zO(own:Nat->Prop)(w W:World):Prop:=w.heap.size<=W.heap.size/\∀ b cs el fr,¬ own b->w.heap[b]?=some (.cells cs el fr)->W.heap[b]?=some (.cells cs el fr)
theorem zO.cell{own:Nat->Prop}{w W:World}(h:zO own w W){b o:Nat}{v:Value}(hb:¬ own b)(hc:w.cell? ⟨b,o,none⟩=some v):W.cell? ⟨b,o,none⟩=some v:=by
 unfold World.cell? at hc ⊢;cases ho:w.heap[b]? with
 | none=>simp [ho] at hc
 | some ob=>
  simp only [ho] at hc;cases ob with
  | cells cs el fr=>simp only [h.2 b cs el fr hb ho]; exact hc
  | _=>simp at hc
theorem zO.trans{own:Nat->Prop}{A B C:World}(h:zO own A B)(k:zO own B C):zO own A C:=⟨bP h.1 k.1,λb cs el fr hb hc=>k.2 b cs el fr hb (h.2 b cs el fr hb hc)⟩
theorem zO.grown{own:Nat->Prop}{A B:World}{row:Option Nat}(hg:A.grownBy B row)(hr:∀ r,row=some r->∃ o:Obj,A.heap[r]?=some o/\o.isCells=false):zO own A B:=by
 refine⟨hg.size,λb cs el fr _ hc=> ?_⟩
 rw [hg.block b (aQ.1 hc).1 λe=>by
  obtain⟨o,h1,h2⟩:=hr b e.symm;rw [hc] at h1; cases h1; simp [Obj.isCells] at h2]
 exact hc
theorem zO.ext{own own':Nat->Prop}{A B:World}(h:Ext own A own' B):zO own A B:=⟨h.size,λb cs el fr hb hc=>by rw [h.keep b (aQ.1 hc).1 hb]; exact hc⟩
def kb:AV->Bool
 | .bool _=>true
 | .int _ _=>true
 | .str _=>true
 | .nils=>true
 | .sl _ _ _=>true
 | .nilp=>true
 | .nilf=>true
 | _=>false
theorem yn{own:Nat->Prop}{w:World}{σ:List SE}{a:AV}{v:Value}(h:kb a=true)(hr:Rep own w a σ v):Rep own w a [] v:=by
 cases a<;>first | (simp [kb] at h; done) | (simp only [Rep] at hr ⊢; exact hr)
section
variable {O:Nat->Prop} {pin:Nat} {w0:World} {I0:List SE} {w:World} {σ:List SE} {P:Program} {a:Act} {fn:Func} {Γ:Nat->Option Ctr}
theorem US{n:Nat}{h:Heap}(t:Nat):(mk n [] h).tmps.getD t .undef = .undef:=by
 simp only [mk,pk,List.getD,aN];cases (List.range n)[t]?<;>simp [look]
theorem Qg{pinR:Nat}{W1 W':World}{E1 τ:List SE}{st:St}{a':Act}{n:Nat}(hM:Mod O pinR W1 E1 W' τ st a'):Mod O pinR W1 E1 W' τ (mk n [] st.heap) { tmps:=Array.replicate n undef,defers:=[] } :=by
 refine⟨hM.good,hM.hp,by simp [mk,pk],λt=> ?_,Marks.nil _ _ _,hM.since,hM.lim⟩;rw [US]; simp [TRep,Rep]
theorem Ju{pinR:Nat}{kv:KV}{H1 H2:Heap}{W W':World}{E1 τ:List SE}(hM:Mod O pin w0 I0 W E1 (mk fn.ntmps kv H1) a)(hlow:(pk fn.ntmps kv).all (lowB pinR)=true)(hpin:pin<=pinR)(h2:Mod O pinR W E1 W' τ (mk fn.ntmps [] H2) { tmps:=Array.replicate fn.ntmps undef,defers:=[] }) :
  Mod O pin w0 I0 W' τ (mk fn.ntmps kv H2) a:=by
 have hx:=h2.since.ext;refine⟨h2.good,h2.hp,hM.size,λt=> ?_,hM.df.ext hx,hM.since.trans ⟨hx,h2.since.jT,h2.since.hold.le hpin⟩,hM.lim⟩;have ht:=hM.tm t;by_cases htn:t<fn.ntmps
 ·simp only [mk] at ht ⊢;rw [qH htn] at ht ⊢;have hl:lowB pinR (look kv t)=true:=bG.1 hlow (look kv t) (by simp only [pk,List.mem_map,List.mem_range]; exact⟨t,htn,rfl⟩);generalize look kv t=y at ht hl;cases y with
  | opt u b z=>exact absurd rfl (j6 hl u b z)
  | _=>simp only [TRep] at ht ⊢; exact zK hx h2.since.hold.hold _ _ (ym hl) ht
 ·have:(mk fn.ntmps kv H2).tmps.getD t .undef = .undef:=by simp [mk,pk,List.getD,htn]
  rw [this]; simp [TRep,Rep]
theorem kO{st:St}{W W':World}{τ:List SE}(hm:Mod O pin w0 I0 W τ st a){row:Option Nat}(hg:W.grownBy W' row)(hr:∀ r,row=some r->w0.heap.size<=r/\∃ o:Obj,W.heap[r]?=some o/\o.isCells=false):wi W W':=
 uX hg λr h=>⟨λg hg=>by
  obtain⟨h1,h2⟩:=hg;obtain⟨a,ha⟩:=Option.isSome_iff_exists.1 h1;obtain⟨h3,c,h4,_,h5⟩:=hm.lim.at_ g a ha;have h6:=hm.since.ext.cell (a:=⟨g,0,none⟩) h3 h4;rw [h2] at h6;have:=h5 r (by cases h6; rfl);have:=(hr r h).1;omega,(hr r h).2⟩
theorem Yu{H1:Heap}{kv:KV}{pinR:Nat}{W W':World}{E1 τ:List SE}{st:St}{a':Act}(B:Nat)(hM:Mod O pin w0 I0 W E1 (mk fn.ntmps kv H1) a)(hal:∀ b∈H1,alive b)(h2:Mod O pinR W E1 W' τ st a'):KeepsFrom B W W':=by
 have hx:=h2.since.ext;refine⟨hx.size,λb o hb ho hoc=> ?_⟩;have hlt:=(aQ.1 ho).1;rw [<- ho];by_cases hO:O b
 ·exact h2.since.jT b hO hlt
 ·refine hx.keep b hlt ?_;rintro(h3 | h3)
  ·exact hO h3
  ·obtain⟨cs,el,fr,hcs⟩:=wX hM.hp hal h3;rw [ho] at hcs; cases hcs; simp [Obj.isCells] at hoc
theorem VE{pinR:Nat}{W W':World}{E1 τ:List SE}(hl:E1.length=pinR)(hh:ka pinR W E1 W' τ):τ.take pinR=E1:=by
 apply List.ext_getElem?;intro i;rw [bR];by_cases hi:i<pinR
 ·rw [aP hi];have he:E1[i]?=some (E1[i]'(by omega)):=aF _;rw [he];exact(hh i _ hi he).1
 ·rw [aO hi,aZ (by omega)]
theorem zam{w:World}{b:Nat}{cs vs:Array Value}{el:TypeId}(h:w.heap[b]?=some (.cells cs el (0,0))):(w.setRow b vs).heap[b]?=some (.cells vs el (0,0)):=setRow_heap w _ _ _ _ _ h
theorem Kt{M:Option Nat}{td tp t id n:Nat}{o1 o2:Oper}{zs:List AV}(h1:o1.dst=some td/\o1.guard=none/\o1.op = .alloc t)(h2:o2.dst=none/\o2.guard=none/\o2.op = .store t (.tmp td) (.tmp tp))(hz:zeroCells P t=some zs)(hn:zW P t=some n)(hzl:zs.length=n)(hne:td≠tp)(htd:td<a.tmps.size)
  (hvl:(a.tmps.getD tp undef).cells.size=n) (hone:∀ u∈(a.tmps.getD tp undef).cells.toList,u.oneCell'=true) {K:Act->World->Prop} {Qe:Exit->Act->World->Prop}
  (h:∀ W',W'.heap[w.heap.size]?=some (.cells (a.tmps.getD tp undef).cells t (0,0))->w.grownBy W' none->K { a with tmps:=a.tmps.setIfInBounds td (.pointer (some ⟨w.heap.size,0,none⟩)) } W') :
  (Code.region id #[o1,o2] false).wpIn (FM M) 0 P (Exit.then K Qe) a w:=by
 obtain⟨y,hy⟩:∃ y,a.tmps.getD tp undef=y:=⟨_,rfl⟩;rw [hy] at hvl hone h;refine wpIn_region_list ?_;simp only [Array.toList];refine wpListIn_step λK' hK'=> ?_
 rw [aP (by simp [Region.wanted,h1.2.1])];refine jV (by simp [h1.2.2]) ?_;unfold Oper.wp;obtain⟨v,hv,hr⟩:=wR (P:=P) (own:=λ_=>False) (w:=w) (σ:=[]) hz;have hvn:v.cells.size=n:=by have:=hr.length; simp at this; omega
 have hrun:(execOp a.eval o1).run P w = .ok (.value (.pointer (some ⟨w.heap.size,0,none⟩))) (w.alloc (.cells v.cells t)):=by
  simp only [execOp,h1.2.2,Instr.alloc,Sem.run_bind,hv,Result.andThen_ok];simp [newVar,newRow]
 rw [hrun];have e:a.put o1.dst (.pointer (some ⟨w.heap.size,0,none⟩))={ a with tmps:=a.tmps.setIfInBounds td (.pointer (some ⟨w.heap.size,0,none⟩)) } :=by rw [h1.1]; rfl
 show K' (a.put o1.dst (.pointer (some ⟨w.heap.size,0,none⟩))) (w.alloc (.cells v.cells t));rw [e];refine hK' _ _ ?_;refine wpListIn_step λK'' hK''=> ?_
 rw [aP (by simp [Region.wanted,h2.2.1])];refine jV (by simp [h2.2.2]) ?_;unfold Oper.wp;have hB:(w.alloc (.cells v.cells t)).heap[w.heap.size]?=some (.cells v.cells t (0,0)):=heap_alloc_new w _;have hst:=run_storeCells_at P w.heap.size 0 t y.cells.toList 0 v.cells (w.alloc (.cells v.cells t)) hB (by simp; omega) hone;have g1:(a.tmps.setIfInBounds td (.pointer (some ⟨w.heap.size,0,none⟩))).getD td undef = .pointer (some ⟨w.heap.size,0,none⟩):=by simp [htd]
 have g2:(a.tmps.setIfInBounds td (.pointer (some ⟨w.heap.size,0,none⟩))).getD tp undef=y:=by
  rw [<- hy];simp only [bQ];rw [Array.getElem?_setIfInBounds_ne hne]
 have hrun2:(execOp ({ a with tmps:=a.tmps.setIfInBounds td (.pointer (some ⟨w.heap.size,0,none⟩)) } : Act).eval o2).run P (w.alloc (.cells v.cells t)) = .ok .skip ((w.alloc (.cells v.cells t)).setRow w.heap.size y.cells):=by
  have hs:(Instr.storeAt t (.pointer (some ⟨w.heap.size,0,none⟩)) y).run P (w.alloc (.cells v.cells t)) = .ok () ((w.alloc (.cells v.cells t)).setRow w.heap.size y.cells):=by
   simp only [Instr.storeAt,Instr.sureAddr,Sem.run_bind,Sem.run_pure,Result.andThen_ok,storeVar,zA hn];rw [aO (by omega)];rw [hst];congr 2;have hd:List.drop n v.cells.toList=[]:=List.drop_eq_nil_of_le (by simp [hvn]);simp [hvl,hd]
  simp only [execOp,h2.2.2,Act.eval,g1,g2,Sem.run_bind,hs,Result.andThen_ok,Sem.run_pure]
 rw [hrun2];refine hK'' _ _ ?_;have e2:({ a with tmps:=a.tmps.setIfInBounds td (.pointer (some ⟨w.heap.size,0,none⟩)) } : Act).put o2.dst undef={ a with tmps:=a.tmps.setIfInBounds td (.pointer (some ⟨w.heap.size,0,none⟩)) } :=by rw [h2.1]; rfl
 rw [e2];refine h _ (zam hB) ?_;refine⟨rfl,rfl,rfl,by rw [setRow_size]; simp,λk hk _=> ?_⟩;rw [setRow_other _ _ _ _ (by omega)];exact Below.heap_alloc w _ k hk
theorem zc.zj3{α:Type}{Hs:Nat->KV->Heap->Prop}{R:List AV->Heap->Prop}{k:List Item}{c:Code}{kv:KV}{h:Heap}{tg tp td t n gf:Nat}{cap:List AV}{zs:List AV}(hc:Ky c tg tp td t=true)(hz:zeroCells P t=some zs)(hn:zW P t=some n)(hzl:zs.length=n)
  (he:∀ args w,(callFunc gf args).run P w = .ok (.enter gf args) w) (av:α->AV) (cs:α->List AV) (hcs:∀ x,cellsOf (av x)=some (cs x)/\(cs x).length=n/\(cs x).all oneA=true/\(cs x).all kb=true) (H Hx:List α->Heap) (X S Sp:List α->Prop) (N pinR:Nat)
  (hg:look kv tg = .fn gf [] cap) (htg:tg<fn.ntmps) (htp:tp<fn.ntmps) (htd:td<fn.ntmps) (hne:td≠tp) (hle:LeK pin fn.ntmps kv h kv (H [])) (hlow:(pk fn.ntmps kv).all (lowB pinR)=true) (hpin:pin<=pinR) (hlen:∀ pre,(H pre).length=pinR)
  (halive:∀ pre,∀ b∈H pre,alive b) (halivex:∀ pre,∀ b∈Hx pre,alive b)
  (iter:∀ w σ a,Mod O pin w0 I0 w σ (mk fn.ntmps kv (H [])) a->∀ vb,RepL (Own O σ) w cap σ vb->∃ ev:α->Value,SeqStopsK Fence.wide 0 P gf vb.toArray (λx=> #[ev x]) (zO (Own O σ)) S Sp N w/\∀ x,Rep (Own O σ) w (av x) [] (ev x))
  (round:∀ l pre x,pre.length<N->∀ (W:World) (E1:List SE),zB (some l) P (bare fn) O pinR W E1 (λd kv' h'=>LeK pinR fn.ntmps [] h' [] (H (pre++[x]))) (λ_ h'=>X (pre++[x])/\LeK pinR fn.ntmps [] h' [] (Hx (pre++[x]))) [.code (wO c),.inLoop] (mk fn.ntmps ((td,.iptr n λo=>(cs x).getD o .undef)::(tp,av x)::kv) (H pre)))
  (done:∀ xs,S xs->zc P fn O pin w0 I0 Hs R k (mk fn.ntmps kv (H xs)))
  (stop:∀ pre,Sp pre->X pre->(resX P (mk fn.ntmps kv (Hx pre)) fn.results.toList).holds λrs=>R rs (Hx pre)) :
  zc P fn O pin w0 I0 Hs R (.code c::k) (mk fn.ntmps kv h):=by
 obtain⟨id,o1,o2,hco,ho1,ho2⟩:=XB hc;generalize wO c=body at *
 subst hco;clear hc;intro w σ a hm0;have hm:=hle.le.mod hm0;clear hm0;generalize σ.take (mk fn.ntmps kv (H [])).heap.length=σ at hm;have hZl:σ.length=pinR:=by rw [hm.hp.len]; exact hlen []
 simp only [wpK];have hgt:=hm.tm tg;have hev:(mk fn.ntmps kv (H [])).tmps.getD tg .undef = .fn gf [] cap:=by simp only [mk]; rw [qH htg]; exact hg
 rw [hev] at hgt;simp only [TRep,Rep] at hgt;obtain⟨va,vb,hval,hva,hvb⟩:=hgt;have hva:va=[]:=by simpa [RepL] using hva
 subst hva;obtain⟨ev,hseq,hev0⟩:=iter w σ a hm vb hvb;have hkeep:∀ W,Ext (Own O σ) w (Own O σ) W->∀ x,Rep (Own O σ) W (av x) σ (ev x):=λW hx x=>zK (K:=[]) (E1:=[]) hx (λi e h=>by simp at h) _ _ (qm _) (hev0 x)
 have extG:∀ {W W':World} {row:Option Nat},W.grownBy W' row->(∀ r,row=some r->w.heap.size<=r/\∃ o:Obj,W.heap[r]?=some o/\o.isCells=false)->Ext (Own O σ) w (Own O σ) W->Ext (Own O σ) w (Own O σ) W':=λhg hr hx=>
  ⟨hg.os.trans hx.os,hg.tape.trans hx.tape,hg.output.trans hx.output,bP hx.size hg.size,λb hb hn=>by
   rw [hg.block b (bB hb hx.size) λe=>by have:=(hr b e.symm).1; omega];exact hx.keep b hb hn,λb hb=>.inl hb⟩
 have hB:∀ d∈a.defers,∃ D,d={ target:=.collected D,args:= #[] } /\ D<w.heap.size:=by
  intro d hd;obtain⟨D,h1,_,_,h4⟩:=hm.df.2 d hd;exact⟨D,h1,(aQ.1 h4).1⟩
 have hOB:∀ b,O b->b<w.heap.size:=hm.good.old;have hsz:a.tmps.size=fn.ntmps:=by rw [hm.size]; simp [mk,pk]
 have turnM:∀ {Hh:Heap} {τ:List SE} {W W':World} {row:Option Nat},(∀ b∈Hh,alive b)->W.grownBy W' row->(∀ r,row=some r->w.heap.size<=r/\∃ o:Obj,W.heap[r]?=some o/\o.isCells=false)->Mod O pin w0 I0 W τ (mk fn.ntmps kv Hh) a->Mod O pin w0 I0 W' τ (mk fn.ntmps kv Hh) a:=by
  intro Hh τ W W' row hal hgr hr hM
  have:=hM.turn hgr (ds:=a.defers) (λr e=>⟨bP hm.since.ext.size (hr r e).1,(hr r e).2⟩) (.inl (vu hal)) (hM.df.turn hgr λr e hmem=>by
   obtain⟨D,h1,h2⟩:=hB _ hmem;have:=(hr r e).1;simp only [Deferred.mk.injEq,Target.collected.injEq,and_true] at h1;omega)
  exact this
 have push:∀ (D:Nat) (Hh:Heap) (W:World) (Z':List SE),(∀ b∈Hh,alive b)->w.heap.size<=D->W.heap[D]?=some (.deferred (some []))->Mod O pin w0 I0 W Z' (mk fn.ntmps kv Hh) a->Mod O pin w0 I0 W Z' (mk fn.ntmps kv Hh) { a with defers:={ target:=.collected D,args:= #[] } :: a.defers } :=by
  intro D Hh W Z' hal hD hWD hM;refine⟨hM.good,hM.hp,hM.size,hM.tm,⟨List.nodup_cons.2 ⟨λhmem=> ?_,hM.df.1⟩,λd hd=> ?_⟩,hM.since,hM.lim⟩
  ·obtain⟨D',h1,h2⟩:=hB _ hmem;simp only [Deferred.mk.injEq,Target.collected.injEq,and_true] at h1;omega
  ·rcases aM.1 hd with rfl | hd
   ·refine⟨D,rfl,bP hm.since.ext.size hD,?_,hWD⟩;rintro(hO | hM')
    ·have:=hOB D hO; omega
    ·obtain⟨cs,el,fr,hcs⟩:=wX hM.hp hal hM';rw [hWD] at hcs; cases hcs
   ·exact hM.df.2 d hd
 let act:α->Nat->Act:=λx B=>{ tmps:=(a.tmps.setIfInBounds tp (ev x)).setIfInBounds td (.pointer (some ⟨B,0,none⟩)),defers:=[] }
 refine xz 1 0 ?_
 refine wpIn_rangeFunc_ownH (F:=Fence.wide) rfl (aJ 1) (gf:=gf) (lb:=vb.toArray) (by simp only [Act.eval]; exact hval) trivial he (encs:=λx=> #[ev x]) (Kp:=zO (Own O σ)) (S:=S) (Sp:=Sp) (N:=N) (w0:=w) hseq
  (λh1 h2=>h1.trans h2) (λW l o o' h1 h2 h3 _=>zO.grown (grownBy_putObj' W l o') λr e=>by cases e; exact⟨o,h2,h3⟩) (Below.refl _ _) (λ_=>rfl)
  (λpre W=>Ext (Own O σ) w (Own O σ) W/\Mod O pin w0 I0 W σ (mk fn.ntmps kv (H pre)) a) (λc pre W=>c = .ret/\X pre/\∃ Z',Mod O pin w0 I0 W Z' (mk fn.ntmps kv (Hx pre)) a)
  (λpre W W' row hI hgr hr=>⟨extG hgr hr hI.1,turnM (halive pre) hgr hr hI.2⟩) (λc pre W W' row hI hgr hr=>⟨hI.1,hI.2.1,hI.2.2.imp λ_ h=>turnM (halivex pre) hgr hr h⟩) ⟨Ext.refl _ _,hm⟩
  (λx a' W=>∃ B,a'=act x B/\¬ Own O σ B/\(∃ pre,Mod O pin w0 I0 W σ (mk fn.ntmps kv (H pre)) a)/\W.heap[B]?=some (.cells (ev x).cells t (0,0)))
  ?_ ?_ ?_ ?_ ?_
 ·
  rintro x a' _ W W' row ⟨B,h1,h2,⟨pre,h0⟩,h3⟩ hgr hr;have hk:=kO h0 hgr λr e=>⟨bP hm.since.ext.size (hr r e).1,(hr r e).2⟩
  exact⟨B,h1,h2,⟨pre,turnM (halive pre) hgr hr h0⟩,hk.cells _ _ _ _ h3⟩
 ·
  rintro l pre x W K ⟨hxt,hM⟩ hK;have htpv:(a.tmps.setIfInBounds tp (ev x)).getD tp undef=ev x:=by simp [hsz,htp]
  have hx:=hkeep W hxt x;have hcl:=zM (hcs x).1 hx
  suffices hgoal:Code.wpIn (FM (some l)) 0 P (.region id #[o1,o2] false) (Exit.then K (λ_ _ _=>False)) { tmps:=a.tmps.setIfInBounds tp (ev x),defers:=[] } W by simpa [FM] using hgoal
  refine Kt ho1 ho2 hz hn hzl hne (by simp [hsz,htd]) (by rw [htpv]; have:=hcl.length; simp at this; rw [<- (hcs x).2.1]; omega) ?_ λW' hB hgr=> ?_
  ·rw [htpv];intro u hu;obtain⟨j,hj,hju⟩:=List.mem_iff_getElem.1 hu;have hl:=hcl.length;have hj':j<(cs x).length:=by omega
   exact ji (bG.1 (hcs x).2.2.1 _ (bK hj')) ((zo.1 hcl).2 j (cs x)[j] u (aF hj') (by rw [aF hj,hju]))
  ·rw [htpv] at hB;have hI:=turnM (halive pre) hgr (λr e=>by cases e) hM;refine hK _ W' ⟨hgr.size,λk o _ ho _=> ?_⟩ (zO.grown hgr λr e=>by cases e) ⟨extG hgr (λr e=>by cases e) hxt,hI⟩ ⟨W.heap.size,rfl,?_,⟨pre,hI⟩,hB⟩
   ·rw [hgr.block k (aQ.1 ho).1 (by simp)]; exact ho
   ·rintro(hO | ⟨e,he,ad,h1,h2⟩)
    ·exact Nat.lt_irrefl _ (hM.good.old _ hO)
    ·obtain⟨j,hj⟩:=List.getElem?_of_mem he;have:=hM.hp.lt j e ad hj h1;omega
 ·
  rintro l pre x a' W hl _ ⟨hxt,hM⟩ ⟨B,rfl,hnB,⟨pre',hM'⟩,hB⟩ hpre;have hx:=hkeep W hxt x;have hcl:=zM (hcs x).1 hx;have hno:∀ u b y,av x≠.opt u b y:=λu b y e=>by have:=(hcs x).1; rw [e] at this; simp [cellsOf] at this
  have hxT:∀ T,TRep (Own O σ) W σ T (av x) (ev x):=by
   intro T;generalize av x=y at hx hno;cases y with
   | opt t b z=>exact absurd rfl (hno t b z)
   | _=>simpa only [TRep] using hx
  have hptr:Rep (Own O σ) W (.iptr n λo=>(cs x).getD o .undef) σ (.pointer (some ⟨B,0,none⟩)):=by
   simp only [Rep];refine⟨⟨B,0,none⟩,rfl,rfl,λo ho=>⟨hnB,?_⟩⟩;have hlen2:=hcl.length;have ho':o<(cs x).length:=by rw [(hcs x).2.1]; exact ho
   refine⟨(ev x).cells.toList[o]'(by omega),?_,?_⟩
   ·simp only [World.cell?,hB,Nat.zero_add];simp
   ·have:=(zo.1 hcl).2 o (cs x)[o] _ (aF ho') (aF (by omega));have hf:=bG.1 (hcs x).2.2.2 _ (bK ho');simp only [List.getD,aF ho',Option.getD_some];exact yn hf this
  have hM2:Mod O pinR W σ W σ (mk fn.ntmps ((td,.iptr n λo=>(cs x).getD o .undef)::(tp,av x)::kv) (H pre)) (act x B):=by
   refine⟨hM.good,hM.hp,by simp [act,mk,pk,hsz],λu=> ?_,Marks.nil _ _ _,Stp.refl _ _ _ _,hM.good.stat⟩;by_cases hu:u<fn.ntmps
   ·simp only [mk];rw [qH hu];by_cases h1:td=u
    ·subst h1;simp only [look,if_true];have:(act x B).tmps.getD td undef = .pointer (some ⟨B,0,none⟩):=by simp [act,hsz,hu]
     rw [this]; simpa only [TRep] using hptr
    ·have e1:(act x B).tmps.getD u undef=(a.tmps.setIfInBounds tp (ev x)).getD u undef:=by
      simp only [act,bQ];rw [Array.getElem?_setIfInBounds_ne h1]
     rw [e1];by_cases h2:tp=u
     ·subst h2;simp only [look,aO h1,if_true];have:(a.tmps.setIfInBounds tp (ev x)).getD tp undef=ev x:=by simp [hsz,hu]
      rw [this]; exact hxT _
     ·simp only [look,aO h1,aO h2]
      have e2:(a.tmps.setIfInBounds tp (ev x)).getD u undef=a.tmps.getD u undef:=by
       simp only [bQ];rw [Array.getElem?_setIfInBounds_ne h2]
      rw [e2];have:=hM.tm u;simp only [mk] at this;rw [qH hu] at this;have hl:lowB pinR (look kv u)=true:=bG.1 hlow (look kv u) (by simp only [pk,List.mem_map,List.mem_range]; exact⟨u,hu,rfl⟩);generalize look kv u=y at this hl;cases y with
      | opt u b z=>exact absurd rfl (j6 hl u b z)
      | _=>simpa only [TRep] using this
   ·have:(mk fn.ntmps ((td,.iptr n λo=>(cs x).getD o .undef)::(tp,av x)::kv) (H pre)).tmps.getD u .undef = .undef:=by simp [mk,pk,List.getD,hu]
    rw [this]; simp [TRep,Rep]
  have hr:=round l pre x hpre W σ W σ _ hM2;simp only [wpK] at hr
  have fin:∀ (Hh:Heap) (st':St) (W':World) (τ:List SE) (a':Act),LeK pinR fn.ntmps [] st'.heap [] Hh->Mod O pinR W σ W' τ st' a'->KeepsFrom w.heap.size W W'/\Mod O pinR W σ W' (τ.take (mk fn.ntmps [] Hh).heap.length) (mk fn.ntmps [] Hh) { tmps:=Array.replicate fn.ntmps undef,defers:=[] } /\ Mod O pin w0 I0 W' (τ.take (mk fn.ntmps [] Hh).heap.length) (mk fn.ntmps kv Hh) a:=by
   intro Hh st' W' τ a' hL hM';have h1:=Qg (n:=fn.ntmps) hM';have h2:=hL.le.mod h1;exact⟨Yu _ hM (halive pre) hM',h2,Ju hM hlow hpin h2⟩
  refine wpIn_mono hr λe a' W' h=> ?_
  cases e with
  | normal=>
   simp only [wpK] at h;obtain⟨st,τ,⟨kv',h',hL,rfl⟩,hM'⟩:=h;obtain⟨h1,h2,h3⟩:=fin _ (mk fn.ntmps kv' h') _ _ _ hL hM'
   have htk:τ.take (mk fn.ntmps [] (H (pre++[x]))).heap.length=σ:=by
    rw [show(mk fn.ntmps [] (H (pre++[x]))).heap.length=pinR from hlen _];exact VE hZl hM'.since.hold
   rw [htk] at h2 h3;exact⟨h1,zO.ext h2.since.ext,hxt.trans h2.since.ext,h3⟩
  | ret=>
   simp only [wpK] at h;rcases h with ⟨_,st,τ,⟨hX,hL⟩,hM'⟩ | ⟨_,_,h,_⟩
   rotate_left
   ·exact h.elim
   obtain⟨h1,_,h3⟩:=fin _ st _ _ _ hL hM';exact⟨h1,rfl,hX,_,h3⟩
  | exit i=>simp only [wpK] at h; exact absurd h (by simp)
  | goto t=>simp only [wpK] at h; exact absurd h (by simp)
  | panic ch=>simp only [wpK] at h; exact absurd h (by simp)
  | outgrown=>simp only [wpK] at h; exact absurd h (by simp)
 ·
  rintro D xs W hD hS ⟨_,hM⟩ hWD;exact done xs hS W σ _ (push D _ W σ (halive xs) hD hWD hM)
 ·rintro D c pre W hD hSp ⟨rfl,hX,E1,hM⟩ hWD;refine wpIn_ret (kH (.inl ⟨.inl rfl,mk fn.ntmps kv (Hx pre),E1,stop pre hSp hX,push D _ W E1 (halivex pre) hD hWD hM⟩))
end
end Go.Sx
end
section
namespace Go.Sx
variable [Stat]
section
variable {O:Nat->Prop} {pin:Nat} {w0:World} {I0:List SE} {w:World} {σ:List SE} {P:Program} {st:St} {a:Act} {fn:Func} {Xp:List PanicEntry->Prop}
theorem Vg{own:Nat->Prop}{i sz:Nat}(he:σ[i]?=some ⟨none,0⟩):∀ (cs:List AV) (j:Nat) (vs:List Value),cs[j]?=some .nils->RepL own w cs σ vs->RepL own w (cs.set j (.osl i sz 0 0)) σ vs
 | [],j,_,h,_=>by simp at h
 | b::l,0,vs,h,hr=>by
  simp only [List.getElem?_cons_zero,aE] at h;subst h;simp only [RepL] at hr;obtain⟨v,r,rfl,h1,h2⟩:=hr;simp only [Rep] at h1;simp only [List.set_cons_zero,RepL];refine⟨v,r,rfl,?_,h2⟩;rw [h1];simp only [Rep];exact⟨⟨none,0⟩,he,by simp,none,0,rfl,aJ _,.inl rfl⟩
 | b::l,j+1,vs,h,hr=>by
  simp only [List.getElem?_cons_succ] at h;simp only [RepL] at hr;obtain⟨v,r,rfl,h1,h2⟩:=hr;simp only [List.set_cons_succ,RepL];exact⟨v,r,rfl,h1,Vg he l j r h h2⟩
def zd6(st:St)(i j sz:Nat)(g:Nat->Nat->AV)(cs:List AV):St:=⟨st.tmps,st.heap.set i (.box (cs.set j (.osl st.heap.length sz 0 0)))++[.arr 0 sz g]⟩
theorem zdv(hm:Mod O pin w0 I0 w σ st a){i j sz:Nat}{g:Nat->Nat->AV}{cs:List AV}(hb:st.heap[i]?=some (.box cs))(hj:cs[j]?=some .nils)(hno:st.tmps.all q8=true):Mod O pin w0 I0 w (σ++[⟨none,0⟩]) (zd6 st i j sz g cs) a:=by
 obtain⟨k1,k2,k3⟩:=zb2 hm.good hm.hp sz g;have hx:=ext_nil (O:=O) w σ 0;have hlt:=(aG.1 hb).1
 have hp:HRep (Own O (σ++[⟨none,0⟩])) w (σ++[⟨none,0⟩]) ((st.heap++[Blk.arr 0 sz g]).set i (Blk.box (cs.set j (.osl st.heap.length sz 0 0)))):=by
  refine KI k1 λe he=> ?_
  have h1:=k1.blk i e (.box cs) he (by rw [bL hlt]; exact hb);simp only [BRep] at h1 ⊢;obtain⟨ad,vs,el,q1,q2,q3,q4⟩:=h1;exact⟨ad,vs,el,q1,q2,q3,Vg (by rw [<- hm.hp.len]; simp) cs j vs hj q4⟩
 rw [List.set_append_left _ _ hlt] at hp;refine⟨k2,hp,by simp [zd6,hm.size],λu=> ?_,hm.df.ext hx,hm.since.trans ⟨hx,λ_ _ _=>rfl,ka.of k3 (by simp)⟩,hm.lim⟩;have hu:=hm.tm u;show TRep _ _ _ _ (st.tmps.getD u .undef) _
 have hn:q8 (st.tmps.getD u .undef)=true:=by
  by_cases hlt:u<st.tmps.length
  ·simp only [List.getD,aF hlt,Option.getD_some];exact bG.1 hno _ (bK hlt)
  ·simp only [List.getD];rw [aZ (by omega)]; rfl
 generalize st.tmps.getD u .undef=x at hu hn;cases x with
 | opt _ _ _=>simp [q8] at hn
 | _=>simp only [TRep] at hu ⊢; exact zK hx k3 _ _ (qm _) hu
theorem zc.zr3{M:Option Nat}{Hs:Nat->KV->Heap->Prop}{R:List AV->Heap->Prop}{k:List Item}{kv:KV}{h:Heap}(i j sz:Nat)(g:Nat->Nat->AV){cs:List AV}(hb:h[i]?=some (.box cs))(hj:cs[j]?=some .nils)(hno:(pk fn.ntmps kv).all q8=true)
  (H:zN Xp M P fn O pin w0 I0 Hs R k (mk fn.ntmps kv (h.set i (.box (cs.set j (.osl h.length sz 0 0)))++[.arr 0 sz g]))):zN Xp M P fn O pin w0 I0 Hs R k (mk fn.ntmps kv h):=
 λw σ a hm=>H w _ a (zdv hm hb hj hno)
end
end Go.Sx
end
section
set_option maxRecDepth 100000
open Go Go.Sx Go.Proofs Go.Nov
namespace Go.Proofs.Tryz
attribute [local simp] eqKV eqA eqA0 eqH eqB eqL eqL0
theorem zms{own:Nat->Prop}{w:World}{σ:List SE}{n sz:Nat}{g g':Nat->Nat->AV}{v:Value}(hg:eqG n sz g g')(h:Rep own w (.sl n sz g) σ v):Rep own w (.sl n sz g') σ v:=by
 simp only [Rep] at h ⊢;obtain⟨a,cap,h1,h2,h3⟩:=h;refine⟨a,cap,h1,h2,h3.imp id ?_⟩;rintro⟨ad,h4,h5,h6⟩;refine⟨ad,h4,h5,λj o hj ho=> ?_⟩;obtain⟨h7,c,h8,h9,h10⟩:=h6 j o hj ho;exact⟨h7,c,h8,h9,by rw [<- hg j o hj ho]; exact h10⟩
theorem yB{own:Nat->Prop}{w:World}{σ:List SE}{n sz:Nat}{g:Nat->Nat->AV}{v:Value}(h:Rep own w (.sl n sz g) σ v):∃ a cap,v = .slice a n cap:=by
 simp only [Rep] at h;obtain⟨a,cap,h1,_⟩:=h;exact⟨a,cap,h1⟩
def Link(own:Nat->Prop)(w:World)(l:List Con)(m:List CT):Prop:=l.length=m.length/\∀ (i:Nat) (c:Con) (t:CT),l[i]?=some c->m[i]?=some t->Rep own w c.conA [] t.val
theorem Link.app{own:Nat->Prop}{w:World}{l l':List Con}{m m':List CT}(h:Link own w l m)(h':Link own w l' m'):Link own w (l++l') (m++m'):=by
 refine⟨by simp [h.1,h'.1],λi c t hc ht=> ?_⟩;rw [bT] at hc ht;rw [h.1] at hc;split at hc
 ·rename_i hi; rw [aP hi] at ht; exact h.2 i c t hc ht
 ·rename_i hi; rw [aO hi] at ht; exact h'.2 _ c t hc ht
theorem zlv{own:Nat->Prop}{w:World}{c:Con}{vs:List Value}(h:RepL own w [.int .u8 c.kind,.str c.src,.str c.dst,.str c.name,.int .u8 c.x.kind,.str c.x.rat,.str c.x.name,.i c.x.date,Ex.exS c.x.sub,.i c.date,Con.dayS c.days,.sl c.sub.length 12 (Con.conG c.sub)] [] vs) :
  ∃ (p q r:Option Addr) (l m n:Nat),vs=[.int .u8 c.kind,.string ⟨c.src.toArray⟩,.string ⟨c.dst.toArray⟩,.string ⟨c.name.toArray⟩,.int .u8 c.x.kind,.string ⟨c.x.rat.toArray⟩,.string ⟨c.x.name.toArray⟩,.i c.x.date,.slice p c.x.sub.length l,.i c.date,.slice q c.days.length m,.slice r c.sub.length n]:=by
 simp only [RepL] at h;obtain⟨v0,_,rfl,h0,v1,_,rfl,h1,v2,_,rfl,h2,v3,_,rfl,h3,v4,_,rfl,h4,v5,_,rfl,h5,v6,_,rfl,h6,v7,_,rfl,h7,v8,_,rfl,h8,v9,_,rfl,h9,v10,_,rfl,h10,v11,_,rfl,h11,rfl⟩:=h;obtain⟨p,l,rfl⟩:=yB h8;obtain⟨q,m,rfl⟩:=yB h10;obtain⟨r,n,rfl⟩:=yB h11;simp only [Rep] at h0 h1 h2 h3 h4 h5 h6 h7 h9;subst h0 h1 h2 h3 h4 h5 h6 h7 h9;exact⟨p,q,r,l,m,n,rfl⟩
theorem zuf{own:Nat->Prop}{w:World} : ∀ (n:Nat) (c:Con),c.nodes<=n->c.nodes<=1000000->∀ v,Rep own w c.conA [] v->∃ t:CT,t.val=v/\t.mem (zO own w)/\Link own w c.all t.all:=by
 intro n
 induction n with
 | zero=>intro c h; have:=c.Kl; omega
 | succ n ih=>
  intro c hn hbig v hv;rw [Con.wo] at hn hbig;have hv0:=hv;simp only [Con.conA,Rep] at hv;obtain⟨vs,rfl,hr⟩:=hv;obtain⟨p,q,r,l,m,cap,hvs⟩:=zlv hr
  have hsub:Rep own w (.sl c.sub.length 12 (Con.conG c.sub)) [] (.slice r c.sub.length cap):=by
   have:=(zo.1 hr).2 11 (.sl c.sub.length 12 (Con.conG c.sub)) (.slice r c.sub.length cap) rfl (by rw [hvs]; rfl);exact this
  have kidsL:∀ (s:List Con) (j:Nat),(∀ i e,s[i]?=some e->c.sub[j+i]?=some e)->(∀ e∈s,e.nodes<=n/\e.nodes<=1000000)->∃ kids:List CT,kids.length=s.length/\CT.mems (zO own w) r j kids/\Link own w (Con.alls s) (CT.alls kids):=by
   intro s
   induction s with
   | nil=>intro j _ _; exact⟨[],rfl,trivial,by rw [Con.alls,CT.alls]; exact⟨rfl,λi c t h=>by simp at h⟩⟩
   | cons e s ihs=>
    intro j hat hall;obtain⟨ks,hk1,hk2,hk3⟩:=ihs (j+1) (λi e' he=>by have:=hat (i+1) e' (by simpa using he); rwa [show j+(i+1)=j+1+i by omega] at this) (λe' he=>hall e' (by simp [he]));have hej:=hat 0 e rfl;rw [Nat.add_zero] at hej;have hjl:j<c.sub.length:=(aG.1 hej).1;simp only [Rep] at hsub;obtain⟨r',cap',hrr,_,hz | ⟨ad,rfl,hspot,hcells⟩⟩:=hsub
    ·omega
    simp only [Value.slice.injEq] at hrr;obtain⟨rfl,_,rfl⟩:=hrr;have hce:c.sub.getD j Con.nil=e:=by simp [List.getD,hej]
    have cells:∀ o,o<12->¬ own ad.block/\∃ u,w.cell? ⟨ad.block,ad.off+(j*12+o),none⟩=some u/\u.oneCell'=true/\Rep own w (Con.cell e.kind e.src e.dst e.name e.x e.date e.days e.sub.length e.deep o) [] u:=by
     intro o ho;have:=hcells j o hjl ho;simp only [Con.conG,hce] at this;exact this
    obtain⟨hnb,u0,c0,_,r0⟩:=cells 0 (by decide);obtain⟨_,u1,c1,_,r1⟩:=cells 1 (by decide);obtain⟨_,u2,c2,_,r2⟩:=cells 2 (by decide);obtain⟨_,u3,c3,_,r3⟩:=cells 3 (by decide);obtain⟨_,u4,c4,_,r4⟩:=cells 4 (by decide);obtain⟨_,u5,c5,_,r5⟩:=cells 5 (by decide);obtain⟨_,u6,c6,_,r6⟩:=cells 6 (by decide);obtain⟨_,u7,c7,_,r7⟩:=cells 7 (by decide);obtain⟨_,u8,c8,_,r8⟩:=cells 8 (by decide);obtain⟨_,u9,c9,_,r9⟩:=cells 9 (by decide);obtain⟨_,u10,c10,_,r10⟩:=cells 10 (by decide);obtain⟨_,u11,c11,_,r11⟩:=cells 11 (by decide)
    have hrep:Rep own w e.conA [] (.agg #[u0,u1,u2,u3,u4,u5,u6,u7,u8,u9,u10,u11]):=by
     simp only [Con.conA];rw [Rep];refine⟨[u0,u1,u2,u3,u4,u5,u6,u7,u8,u9,u10,u11],rfl,?_⟩;simp only [RepL];exact⟨_,_,rfl,r0,_,_,rfl,r1,_,_,rfl,r2,_,_,rfl,r3,_,_,rfl,r4,_,_,rfl,r5,_,_,rfl,r6,_,_,rfl,r7,_,_,rfl,r8,_,_,rfl,r9,_,_,rfl,r10,_,_,rfl,zms (Con.qp e) r11,rfl⟩
    obtain⟨hen,heb⟩:=hall e (by simp);obtain⟨t,ht1,ht2,ht3⟩:=ih e hen heb _ hrep;refine⟨t::ks,by simp [hk1],?_,by rw [Con.alls,CT.alls]; exact ht3.app hk3⟩;rw [CT.mems];refine⟨⟨ad,ad.block,ad.off+j*12,rfl,by obtain⟨ab,ao,as'⟩:=ad; simp only at hspot; subst hspot; exact Addr.add_lit ..,λW hW k u hu=> ?_⟩,ht2,hk2⟩
    have hcs:t.cells=[u0,u1,u2,u3,u4,u5,u6,u7,u8,u9,u10,u11]:=by
     have:t.val = .agg t.cells.toArray:=by cases t; rfl
     rw [this] at ht1;simp only [Value.agg.injEq] at ht1;have:=congrArg Array.toList ht1;simpa using this
    rw [hcs] at hu;rw [Nat.add_assoc];refine hW.cell hnb ?_;have hk12:k<12:=by have:=(aG.1 hu).1; simpa using this
    match k,hk12 with
    | 0,_=>cases hu; exact c0
    | 1,_=>cases hu; exact c1
    | 2,_=>cases hu; exact c2
    | 3,_=>cases hu; exact c3
    | 4,_=>cases hu; exact c4
    | 5,_=>cases hu; exact c5
    | 6,_=>cases hu; exact c6
    | 7,_=>cases hu; exact c7
    | 8,_=>cases hu; exact c8
    | 9,_=>cases hu; exact c9
    | 10,_=>cases hu; exact c10
    | 11,_=>cases hu; exact c11
  have hsz:∀ e∈c.sub,e.nodes<=Con.zF c.sub:=by
   intro e he;obtain⟨i,hi,rfl⟩:=List.getElem_of_mem he;have:=Con.jA (s:=c.sub) hi;simpa [List.getD,hi] using this
  obtain⟨kids,hk1,hk2,hk3⟩:=kidsL c.sub 0 (λi e he=>by rw [Nat.zero_add]; exact he) (λe he=>by have:=hsz e he; omega);have hlen:=Con.Vv c.sub;refine⟨.mk c.kind ⟨c.src.toArray⟩ ⟨c.dst.toArray⟩ ⟨c.name.toArray⟩ c.x.kind ⟨c.x.rat.toArray⟩ ⟨c.x.name.toArray⟩ c.x.date p c.x.sub.length l c.date q c.days.length m r cap kids,?_,?_,?_⟩
  ·rw [hvs,<- hk1]; rfl
  ·rw [CT.mem]; exact⟨by omega,hk2⟩
  ·rw [Con.all_eq,CT.all]
   have hone:Link own w [c] [.mk c.kind ⟨c.src.toArray⟩ ⟨c.dst.toArray⟩ ⟨c.name.toArray⟩ c.x.kind ⟨c.x.rat.toArray⟩ ⟨c.x.name.toArray⟩ c.x.date p c.x.sub.length l c.date q c.days.length m r cap kids]:=by
    refine⟨rfl,λi e t he ht=> ?_⟩
    match i with
    | 0=>
     cases he; cases ht;have e1:CT.val (.mk c.kind ⟨c.src.toArray⟩ ⟨c.dst.toArray⟩ ⟨c.name.toArray⟩ c.x.kind ⟨c.x.rat.toArray⟩ ⟨c.x.name.toArray⟩ c.x.date p c.x.sub.length l c.date q c.days.length m r cap kids) = .agg vs.toArray:=by rw [hvs,<- hk1]; rfl
     rw [e1]; exact hv0
    | i+1=>simp at he
   exact hone.app hk3
theorem Zx{n m:Nat}(h:n<=m):List.range n <+: List.range m:=by
 have e:List.range n=(List.range m).take n:=by
  apply List.ext_getElem?;intro i;simp only [List.getElem?_range,bR];split
  ·rename_i hi;rw [List.getElem?_range hi,List.getElem?_range (by omega)]
  ·rename_i hi;rw [aZ (by simp; omega)]
 rw [e]; exact List.take_prefix _ _
theorem XE{own:Nat->Prop}{w:World}{c:Con}{B:Nat}{vs:List Value}{el:TypeId}(hB:w.heap[B]?=some (.cells vs.toArray el (0,0)))(hr:Rep own w c.conA [] (.agg vs.toArray))(hn:c.nodes<=1000000)(hown:∀ b,own b->b<w.heap.size) :
  ∃ ev:Nat->Value,SeqStopsK Fence.wide 0 prog 98 #[.pointer (some ⟨B,0,none⟩)] (λx=> #[ev x]) (zO own) (λxs=>xs=List.range c.all.length) (λpre=>pre <+: List.range c.all.length) c.all.length w/\∀ i,Rep own w (c.all.getD i c).conA [] (ev i):=by
 obtain⟨t,ht,hm,hlen,hl⟩:=zuf c.nodes c (aJ _) hn _ hr;have ht0:t.all[0]?=some t:=by cases t; rw [CT.all]; rfl
 have hc0:c.all[0]?=some c:=by rw [Con.all_eq]; rfl
 refine⟨λi=>(t.all.getD i t).val,?_,λi=> ?_⟩
 ·intro l J Jx W hW hJ hJx hY h0;have hBl:B<w.heap.size:=(aQ.1 hB).1;have hK:zO own w W:=⟨hW.size,λb cs el fr _ hc=>by rw [hW.block b (aQ.1 hc).1]; exact hc⟩
  refine CallsIn.mono (Tryz.zeq Fence.wide rfl trivial trivial rfl l w.heap.size 0 B t (zO own w) (zO own) (λpre W=>pre <+: t.all/\J (List.range pre.length) W) (λpre W=>Jx (List.range pre.length) W) (λpre A B h hg=>⟨h.1,hJ _ _ _ none h.2 hg λr e=>by cases e⟩)
   (λA B C h k=>h.trans k) (λA B hg=>zO.grown hg λr e=>by cases e) (λA B b cs el hk hb hc=>hk.2 b cs el (0,0) (λho=>by have:=hown b ho; omega) hc) (λA B h k=>h.trans k) (λA h=>h.1) ?_ W hm hK ⟨List.nil_prefix,h0⟩ ?_) ?_
  ·rintro m pre t' W1 ⟨hp,hj⟩ _ hpre;have hlt:pre.length<t.all.length:=by have:=hpre.length_le; simp at this; omega
   have hget:t.all.getD pre.length t=t':=by
    obtain⟨r,hr⟩:=hpre;rw [<- hr]; simp [List.getD]
   refine JU rfl m (YieldAt.mono (hY (List.range pre.length) pre.length W1 hj (by rw [List.length_range,hlen]; exact hlt)) ?_) |> λh=>by
    simp only [hget] at h;exact h
   rintro e W' (⟨rfl,h2,h3⟩ | ⟨rfl,h2⟩)
   ·refine .inl ⟨rfl,⟨hpre,?_⟩,h3⟩;rw [bO,List.length_singleton,List.range_succ]; exact h2
   ·refine .inr ⟨rfl,?_⟩;show Jx (List.range (pre++[t']).length) W';rw [bO,List.length_singleton,List.range_succ]; exact h2
  ·intro k v hk
   have hcs:t.cells=vs:=by
    have:t.val = .agg t.cells.toArray:=by cases t; rfl
    rw [this] at ht;simp only [Value.agg.injEq] at ht;have:=congrArg Array.toList ht;simpa using this
   rw [hcs] at hk;have:W.heap[B]?=some (.cells vs.toArray el (0,0)):=by rw [hW.block B hBl]; exact hB
   simp only [World.cell?,this];simpa using hk
  ·rintro e W' ⟨hv,h⟩;refine⟨hv,?_⟩;rcases h with ⟨_,h⟩ | ⟨q,hq,h⟩
   ·exact .inl ⟨_,by rw [hlen],h⟩
   ·exact .inr ⟨_,by rw [hlen]; exact Zx hq.length_le,h⟩
 ·by_cases hi:i<c.all.length
  ·have e1:c.all[i]?=some c.all[i]:=aF hi;have e2:t.all[i]?=some (t.all[i]'(by omega)):=aF _;have:=hl i _ _ e1 e2;simpa [List.getD,e1,e2] using this
  ·have e1:c.all[i]?=none:=aZ (by omega);have e2:t.all[i]?=none:=aZ (by omega);have:=hl 0 _ _ hc0 ht0;simpa [List.getD,e1,e2] using this
noncomputable def K162:=Go.Sx.aA f162
theorem hmix:prog.follows .mixedOrders=true:=by decide +kernel
def noG:Nat->Option Ctr:=λ_=>none
theorem zH:∀ g c,noG g=some c->zf prog g c:=λ_ _ h=>by cases h
def zqs:AV->Nat
 | .int _ n=>n.toNat
 | _=>0
def decN(n:Nat)(g:Nat->Nat->AV):List Nat:=(List.range n).map λj=>zqs (g j 0)
theorem y7(k:IntKind)(l:List Nat):decN l.length (natG k l)=l:=by
 apply List.ext_getElem (by simp [decN]);intro j h1 h2;simp [decN,natG,zqs,h2]
theorem za(n sz:Nat)(g:Nat->Nat->AV):eqG n sz g g:=λ_ _ _ _=>rfl
theorem uS{k:IntKind}{l:List Nat}{v:Int}(hv:0<=v):eqG (l.length+1) 1 (appG l.length (natG k l) (zg (zi 1 [.int k v]) 0)) (natG k (l++[v.toNat])):=by
 intro j o hj ho;have ho:o=0:=by omega
 subst ho;simp only [appG,zg,zi,natG];by_cases h:j<l.length
 ·simp [h,bT]
 ·have:j=l.length:=by omega
  subst this;simp [Int.toNat_of_nonneg hv]
theorem vX{k:IntKind}{o:List Nat}{v:Int}{d:Nat}{r:Heap}(hv:v=d):eqH (.arr (o.length+1) 1 (appG o.length (natG k o) (zg (zi 1 [.int k v]) 0))::r) [.arr (o++[d]).length 1 (natG k (o++[d]))]:=by
 subst hv;refine⟨⟨by simp,rfl,?_⟩,by simp [eqH]⟩;have:=uS (k:=k) (l:=o) (v:=(d:Int)) (by omega);simpa using this
theorem kG{k:IntKind}{l:List Nat}{v:Int}{i:Nat}(hv:0<=v)(hi:i<l.length):eqG l.length 1 (updG (natG k l) i 0 [.int k v]) (natG k (l.set i v.toNat)):=by
 intro j o hj ho;have ho:o=0:=by omega
 subst ho;simp only [updG,natG,aL,List.length_nil];by_cases h:j=i
 ·subst h;simp [hj,Int.toNat_of_nonneg hv]
 ·simp only [h,false_and,if_false];simp [bS (λe=>h e.symm)]
def magS(x:Nat):AV:=natS .u32 (canon x)
def fits(x:Nat):Prop:=(canon x).length<1000000
theorem X7{m off n:Nat}{k:IntKind}{o:List Nat}{r:Heap} : new0 (.arr m 1 (natG k o)::r) [] (.osl 0 1 off n):=by
 intro _;simp only [exp0,zG,frz1,wg,List.getElem?_cons_zero,if_true];intro j o' _ _;rfl
theorem Yx{m off n:Nat}{g:Nat->Nat->AV}{r:Heap} : exp0 (.arr m 1 g::r) [] (.osl 0 1 off n) = .sl n 1 (zg g off):=by
 simp [exp0,zG,frz1,wg]
theorem VP{k:IntKind}{o l:List Nat}(h:jf o=l):eqA0 (.sl (tlen o) 1 (zg (natG k o) 0)) (natS k l):=by
 subst h;simp only [eqA0,natS,jf,aH,true_and];refine⟨by have:=qA o; omega,?_⟩;intro j o' hj ho';have:o'=0:=by omega
 subst this;simp [zg,natG,bR,hj]
def ctr2{R:Type}(fresh:Bool)(pre:Nat->Nat->Prop)(post:Nat->Nat->R->Prop)(out:Nat->Nat->R->AV×Heap):Ctr:=
 ctrP fresh (λp:Nat×Nat=>[magS p.1,magS p.2]) (λp=>pre p.1 p.2) (λp=>post p.1 p.2) (λp=>out p.1 p.2)
theorem Z0{R:Type}{fresh:Bool}{pre:Nat->Nat->Prop}{post:Nat->Nat->R->Prop}{out:Nat->Nat->R->AV×Heap}{g:Nat}{fn:Func}{c:Code}(hf:prog.funcs[g]?=some fn)(hb:fn.body=some c) (hn:(fn.name == "runtime.NumGoroutine")=false)
  (H:∀ x y,pre x y->∀ (O:Nat->Prop) (w0:World) (Q:AV×Heap->Prop),(∀ r,post x y r->Q (out x y r))->zc prog fn O 0 w0 [] (λ_ _ _=>False) (RetR (ctr2 fresh pre post out) 0 Q) [.code c] (entry fn [magS x,magS y])):zf prog g (ctr2 fresh pre post out):=
 zh hf hb hn λp hp=>H p.1 p.2 hp
def Qj:Ctr where
 fresh:=false
 spec args hc:=match args,hc with
  | [.sl n 1 g],[]=>.ex (λl:List Nat=>dig l/\l.length=n/\n<2^62/\eqG n 1 g (natG .u32 l)) λl=>.all (λx=>x=val l) λx=>.leaf (magS x,[])
  | [.osl 0 1 off n],[.arr m 1 g]=>.ex (λu:List Nat=>u.length=m/\off+n<=m/\n<2^62/\eqG m 1 g (natG .u32 u)/\dig ((u.drop off).take n)) λu=>.all (λx=>x=val ((u.drop off).take n)) λx=>.leaf (.osl 0 1 off (canon x).length,[.arr m 1 g])
  | _,_=>.fail
def S75o(off n:Nat):KV:=[(0,.osl 0 1 off n)]
def S75(l:List Nat)(n:Nat):KV:=[(0,.sl n 1 (natG .u32 l))]
theorem K5:zf prog 162 Qj:=by
 intro args hc Q hq hfr;unfold Qj at hq
 dsimp only at hq
 split at hq
 ·rename_i n g;obtain⟨l,⟨hdl,hln,hn,hg⟩,_,hq⟩:=hq;obtain⟨x,hv⟩:∃ x,val l=x:=⟨_,rfl⟩;replace hq:=hq x hv.symm;have hcan:jf l=canon x:=by rw [zY hdl,hv]
  simp only [magS,<- hcan] at hq;refine jK.le (args':=[natS .u32 l]) (by simp [natS,hln,hg]) (fn_k (fn:=f162) (c:=f162.body.getD .skip) rfl rfl rfl hfr λO w0 I0 h0=> ?_);refine zc.n zH [0] (.leaf (.loop (lps K162 0).1 (lps K162 0).2 [(0,.sl l.length 1 (natG .u32 l))] [])) ?_;refine zc.loop (ι:={n:Nat // tlen l<=n/\n<=l.length}) (λx=>S75 l x.1) (λ_=>[]) (λx=>x.1) ⟨l.length,qA l,aJ _⟩ 0 ?_ ?_ (by kernel_rfl)
  ·exact⟨by simp [S75,eqG],by simp,by kernel_rfl,aI _⟩
  ·rintro⟨n,h1,h2⟩;refine zc.n zH [0] (.side (decide ((0:Int)<n)=true->inR .i64 (n-1)) (.side (decide ((0:Int)<n)=true->(0:Int)<=n - (1:Int)/\(n:Int) - (1:Int)<n) (.ite (bif decide ((0:Int)<n) then decide ((↑(l.getD (Int.toNat (n-1)) 0):Int)=0) else false) (.S (n-1) (.side ((0:Int)<=n - (1:Int)/\(n:Int) - (1:Int)<=n) (.leaf (.back 0 [(0,.sl (Int.toNat (n-1) - 0) 1 (zg (natG .u32 l) 0))] [])))) (.R [.sl n 1 (natG .u32 l)] [])))) ?_;simp only [Tree.holds,zd,inR,lo,hi,Bool.cond_eq_ite];refine⟨by simp; omega,λ_=>⟨by simp; omega,λ_=>⟨λh=> ?_,λh=> ?_⟩⟩⟩
   ·have hp:0<n:=by
     rcases bC n with rfl | hp
     ·simp at h
     ·exact hp
    have e:((n:Int) - 1).toNat=n - 1:=by omega
    have hz:l.getD (n - 1) 0=0:=by
     rw [aP (by simpa using hp),e] at h;simpa only [aK,Int.natCast_eq_zero] using h
    refine⟨by omega,λ_=>⟨by omega,λ_=> ?_⟩⟩;rw [aP trivial];refine⟨⟨n - 1,?_,by omega⟩,by show n - 1<n; omega,by simp [S75,eqG,zg,e],by simp,by kernel_rfl,aI _⟩;rcases aR (n - 1) (tlen l) with h3 | h3
    ·have h4:tlen l - 1=n - 1:=by omega
     exact absurd (h4▸hz) (qZ l (by omega))
    ·exact h3
   ·have hn:n=tlen l:=by
     rcases aR (tlen l) n with h3 | h3
     ·exfalso;have e:((n:Int) - 1).toNat=n - 1:=by omega
      rw [aP (by simp; omega),e] at h;have:=jZ l (n - 1) (by omega);simp only [aV,Int.natCast_eq_zero] at h;exact h this
     ·omega
    subst hn;refine⟨[],rfl,by simp,by simp,by simp [Qj],_,[],qW ?_,.inl (by simp),rfl,hq⟩;have:=qA l;simp only [resV,exp2,exp1,exp0,ren0,eqA2,eqA,natS,eqA0,jf,aH,Nat.min_eq_left this,true_and];intro j o hj ho;simp only [natG,List.getD,bR,aP hj]
 ·rename_i off n m g;obtain⟨l,⟨hlm,hm,hn,hg,hdl⟩,_,hq⟩:=hq;obtain⟨x,hv⟩:∃ x,val ((l.drop off).take n)=x:=⟨_,rfl⟩;replace hq:=hq x hv.symm;subst hlm;simp only [<- hv,<- Yh hdl] at hq;refine jK.leH (hc':=[.arr l.length 1 (natG .u32 l)]) (by simp [hg]) rfl (fn_k (fn:=f162) (c:=f162.body.getD .skip) rfl rfl rfl (by simp [Qj]) λO w0 I0 h0=> ?_);refine zc.n zH [0] (.leaf (.loop (lps K162 0).1 (lps K162 0).2 [(0,.osl 0 1 off n)] [.arr l.length 1 (natG .u32 l)])) ?_
  have hget:∀ j,j<n->((l.drop off).take n).getD j 0=l.getD (off+j) 0:=by
   intro j hj;simp [bR,hj,List.getElem?_drop]
  have htl:tlen ((l.drop off).take n)<=n:=by
   have:=qA ((l.drop off).take n);simp at this; omega
  refine zc.loop (ι:={k:Nat // tlen ((l.drop off).take n)<=k/\k<=n}) (λx=>S75o off x.1) (λ_=>[.arr l.length 1 (natG .u32 l)]) (λx=>x.1) ⟨n,htl,aJ _⟩ 0 ?_ ?_ (by kernel_rfl)
  ·exact⟨by simp [S75o],by simp [eqG],by kernel_rfl,aJ _⟩
  ·rintro⟨k,h1,h2⟩;refine zc.n zH [0] (.side (decide ((0:Int)<k)=true->inR .i64 (k-1)) (.side (decide ((0:Int)<k)=true->(0:Int)<=k - (1:Int)/\(k:Int) - (1:Int)<k) (.ite (bif decide ((0:Int)<k) then decide ((↑(l.getD (off+Int.toNat (k-1)) 0):Int)=0) else false) (.S (k-1) (.side ((0:Int)<=k - (1:Int)/\(k:Int) - (1:Int)<=k) (.leaf (.back 0 [(0,.osl 0 1 (off+0) (Int.toNat (k-1) - 0))] [.arr l.length 1 (natG .u32 l)])))) (.R [.osl 0 1 off k] [.arr l.length 1 (natG .u32 l)])))) ?_;simp only [Tree.holds,zd,inR,lo,hi,Bool.cond_eq_ite];refine⟨by simp; omega,λ_=>⟨by simp; omega,λ_=>⟨λh=> ?_,λh=> ?_⟩⟩⟩
   ·have hp:0<k:=by
     rcases bC k with rfl | hp
     ·simp at h
     ·exact hp
    have e:((k:Int) - 1).toNat=k - 1:=by omega
    have hz:((l.drop off).take n).getD (k - 1) 0=0:=by
     rw [aP (by simpa using hp),e] at h;rw [hget _ (by omega)];simpa only [aK,Int.natCast_eq_zero] using h
    refine⟨by omega,λ_=>⟨by omega,λ_=> ?_⟩⟩;rw [aP trivial];refine⟨⟨k - 1,?_,by omega⟩,by show k - 1<k; omega,by simp [S75o,e],by simp [eqG],by kernel_rfl,aJ _⟩;rcases aR (k - 1) (tlen ((l.drop off).take n)) with h3 | h3
    ·have h4:tlen ((l.drop off).take n) - 1=k - 1:=by omega
     exact absurd (h4▸hz) (qZ _ (by omega))
    ·exact h3
   ·have hn:k=tlen ((l.drop off).take n):=by
     rcases aR (tlen ((l.drop off).take n)) k with h3 | h3
     ·exfalso;have e:((k:Int) - 1).toNat=k - 1:=by omega
      rw [aP (by simp; omega),e] at h;have:=jZ ((l.drop off).take n) (k - 1) (by omega);rw [hget _ (by omega)] at this;simp only [aV,Int.natCast_eq_zero] at h;exact h this
     ·omega
    subst hn;exact⟨[0],rfl,by simp,by simp,by simp [Qj],_,[.arr l.length 1 g],qW (by simp [resV,exp2,exp1,exp0,zG,eqA2]),.inl ⟨⟨rfl,rfl,λj o hj ho=>(hg j o hj ho).symm⟩,trivial⟩,rfl,hq⟩
 ·exact hq.elim
noncomputable def K160:=Go.Sx.aA f160
noncomputable def K165:=Go.Sx.aA f165
def cmp3(x y:Nat):Int:=if x<y then -1 else if y<x then 1 else 0
def uZ:Ctr:=ctr2 true (λx y=>fits x/\fits y) (λx y r=>r=cmp3 x y) (λ_ _ r=>(.i r,[]))
def S73(x y k:Nat):KV:=[(0,magS x),(1,magS y),(5,.i ((k:Int) - 1))]
theorem uf:zf prog 160 uZ:=by
 refine Z0 (fn:=f160) (c:=f160.body.getD .skip) rfl rfl rfl λx y hp O w0 Q hq=> ?_
 replace hq:=hq _ rfl;obtain⟨hx,hy⟩:=hp;simp only [fits] at hx hy;refine zc.n zH [0,1,5] (.N (((canon x).length:Int)=((canon y).length:Int)) (.S ((canon x).length-(canon y).length) (.R [.i (max (-1:Int) (min (1:Int) (((canon x).length:Int) - ((canon y).length:Int))))] [])) (.S ((canon x).length-1) (.leaf (.loop (lps K160 0).1 (lps K160 0).2 [(0,.sl (canon x).length 1 (natG .u32 (canon x))),(1,.sl (canon y).length 1 (natG .u32 (canon y))),(5,.i ((canon x).length-1))] [])))) ?_;simp only [Tree.holds,zd,inR,lo,hi,Bool.cond_eq_ite];refine⟨λh=>⟨by omega,λ_=>RetR.scal hq rfl ?_⟩,λh=>⟨by omega,λ_=> ?_⟩⟩
 ·simp only [resV,cmp3];congr 1
  have hne:(canon x).length≠(canon y).length:=by
   simp only [Bool.not_eq_true',aV] at h;omega
  rcases Nat.lt_or_gt_of_ne hne with h1 | h1
  ·have:=qj h1;rw [aP this]; omega
  ·have:=qj h1;rw [aO (by omega),aP this]; omega
 ·have hlen:(canon x).length=(canon y).length:=by
   simp only [Bool.not_eq_false',aK] at h;omega
  refine zc.loop (ι:={k:Nat // k<=(canon x).length/\∀ j,k<=j->(canon x).getD j 0=(canon y).getD j 0}) (λk=>S73 x y k.1) (λ_=>[]) (λk=>k.1) ⟨(canon x).length,aJ _,λj hj=>by simp [hj,hlen▸hj]⟩ 0 ?_ ?_ (by kernel_rfl)
  ·exact⟨by simp [S73,magS,natS,za],by simp,by kernel_rfl,aI _⟩
  ·rintro⟨k,h1,h2⟩;refine zc.n zH [0,1,5] (let v1:=Int.toNat (k-1);.D ((0:Int)<=k - (1:Int)) (.side ((0:Int)<=k - (1:Int)/\(k:Int) - (1:Int)<((canon x).length:Int)) (.side ((0:Int)<=k - (1:Int)/\(k:Int) - (1:Int)<((canon y).length:Int)) (.N ((↑(List.getD (canon x) v1 0):Int)=(↑(List.getD (canon y) v1 0):Int)) (.side ((0:Int)<=k - (1:Int)/\(k:Int) - (1:Int)<((canon x).length:Int)) (.side ((0:Int)<=k - (1:Int)/\(k:Int) - (1:Int)<((canon y).length:Int)) (.D ((↑(List.getD (canon x) v1 0):Int)<(↑(List.getD (canon y) v1 0):Int)) (.R [.i (-1:Int)] []) (.R [.i 1] [])))) (.S (k-1-1) (.leaf (.back 0 [(0,.sl (canon x).length 1 (natG .u32 (canon x))),(1,.sl (canon y).length 1 (natG .u32 (canon y))),(5,.i (k-1-1))] [])))))) (.R [.i 0] [])) ?_;simp only [Tree.holds,zd,inR,lo,hi,Bool.cond_eq_ite];have e:((k:Int) - 1).toNat=k - 1:=by omega
   rw [e];refine⟨λhk=> ?_,λhk=>RetR.scal hq rfl ?_⟩
   ·have hk:0<k:=by simp at hk; omega
    refine⟨by omega,λ_=>⟨by omega,λ_=>⟨λhne=>⟨by omega,λ_=>⟨by omega,λ_=>⟨λhlt=>RetR.scal hq rfl ?_,λhlt=>RetR.scal hq rfl ?_⟩⟩⟩,λheq=>⟨by omega,λ_=> ?_⟩⟩⟩⟩
    ·have:=ZZ (zj x) hlen (i:=k - 1) (λj hj=>h2 j (by omega)) (by simpa using hlt);rw [zl,zl] at this;simp [resV,cmp3,this]
    ·have hgt:(canon y).getD (k - 1) 0<(canon x).getD (k - 1) 0:=by
      simp only [Bool.not_eq_true',aV] at hne hlt;omega
     have:=ZZ (zj y) hlen.symm (i:=k - 1) (λj hj=>(h2 j (by omega)).symm) hgt;rw [zl,zl] at this;simp only [resV,cmp3];rw [aO (by omega),aP this]
    ·rw [aP trivial];refine⟨⟨k - 1,by omega,λj hj=> ?_⟩,by show k - 1<k; omega,by simp [S73,magS,natS,za]; omega,by simp,by kernel_rfl,aI _⟩;rcases aR j k with hj2 | hj2
     ·have:j=k - 1:=by omega
      subst this;simp only [Bool.not_eq_false',aK] at heq;omega
     ·exact h2 j hj2
   ·have hk:k=0:=by simp at hk; omega
    subst hk
    have:canon x=canon y:=by
     apply List.ext_getElem hlen;intro j hj hj';have:=h2 j (aI _);simpa [hj,hj'] using this
    have:x=y:=by rw [<- zl x,this,zl]
    subst this;simp [resV,cmp3]
noncomputable def G1:=tb K5 tz
def KC:Ctr:=ctr2 true (λx y=>fits x/\y<=x) (λx y d=>d=x - y) (λ_ _ d=>(magS d,[]))
def S78(x y:Nat)(o:List Nat)(c i:Nat):KV:=[(0,magS x),(1,magS y),(5,.osl 0 1 0 o.length),(6,.int .u32 (c:Int)),(13,magS x),(14,.i ((canon x).length:Int)),(15,.i (i:Int))]
structure I78(x y:Nat) where
 o:List Nat
 c:Nat
 i:Nat
 len:o.length=i
 le:i<=(canon x).length
 dg:dig o
 c1:c<=1
 eq:val ((canon x).take i)+B^i*c=val o+val ((canon y).take i)
theorem Xk{x y:Nat}(h:x<=y):(canon x).length<=(canon y).length:=by
 rcases aR (canon y).length (canon x).length with h1 | h1
 ·have:=qj h1; omega
 ·exact h1
theorem zru{x y o c i d c':Nat}{l m:List Nat}(h:val (l.take i)+B^i*c=o+val (m.take i))(he:l.getD i 0+B*c'=d+m.getD i 0+c):val (l.take (i+1))+B^(i+1)*c'=o+B^i*d+val (m.take (i+1)):=by
 rw [zt,zt,Nat.pow_succ];have:=congrArg (B^i * ·) he;simp only [bN] at this;rw [bI];omega
theorem WG(l:List Nat)(d:Nat):val (l++[d])=val l+B^l.length*d:=by rw [zR]; simp [val]
theorem JV:zf prog 165 KC:=by
 refine Z0 (fn:=f165) (c:=f165.body.getD .skip) rfl rfl rfl λx y hp O w0 Q hq=> ?_
 replace hq:=hq _ rfl;obtain⟨hx,hyx⟩:=hp;simp only [fits] at hx hyx;have hlen:=Xk hyx;refine zc.n G1.h [0,1,5,6,13,14,15] (.side ((0:Int)<=0/\(0:Int)<=((canon x).length:Int)/\inR .i64 (canon x).length/\Int.toNat (canon x).length*4<=140737488355328) (.leaf (.loop (lps K165 0).1 (lps K165 0).2 [(0,.sl (canon x).length 1 (natG .u32 (canon x))),(1,.sl (canon y).length 1 (natG .u32 (canon y))),(5,.osl 0 1 0 0),(6,.int .u32 0),(13,.sl (canon x).length 1 (natG .u32 (canon x))),(14,.i (canon x).length),(15,.i 0)] [.arr 0 1 (yk [.int .u32 0])]))) ?_;simp only [Tree.holds,zd,inR,lo,hi];refine⟨by omega,λ_=> ?_⟩;refine zc.loop (ι:=I78 x y) (λs=>S78 x y s.o s.c s.i) (λs=>[.arr s.o.length 1 (natG .u32 s.o)]) (λs=>(canon x).length - s.i) ⟨[],0,0,rfl,aI _,by simp [dig],by omega,by simp [val]⟩ 0 ?_ ?_ (by kernel_rfl)
 ·exact⟨by simp [S78,magS,natS,za],by simp [eqG],by kernel_rfl,aI _⟩
 ·rintro⟨o,c,i,ho,hle,hd,hc,he⟩;subst ho;have hB:B=1000000000:=rfl;refine zc.n G1.h [0,1,5,6,13,14,15] (let v12:=natG .u32 o;let v11:=natG .u32 (canon x);let v7:=o.length+1;let v5:=inR .i64 (o.length+1);let v3:List (Nat×AV):=[(0,.sl (canon x).length 1 v11),(1,.sl (canon y).length 1 (natG .u32 (canon y))),(5,.osl 0 1 0 v7),(6,.int .u32 0),(13,.sl (canon x).length 1 v11),(14,.i (canon x).length),(15,.i (o.length+1))];let v2:List (Nat×AV):=[(0,.sl (canon x).length 1 v11),(1,.sl (canon y).length 1 (natG .u32 (canon y))),(5,.osl 0 1 0 v7),(6,.int .u32 1),(13,.sl (canon x).length 1 v11),(14,.i (canon x).length),(15,.i (o.length+1))];let v1:=Int.toNat o.length;let v10:=zi 1 [.int .u32 ((↑(List.getD (canon x) v1 0):Int) - c)];let v9:=inR .u32 ((↑(List.getD (canon x) v1 0):Int)+(1000000000:Int));let v8:=zi 1 [.int .u32 ((↑(List.getD (canon x) v1 0):Int)+(1000000000:Int) - c)];let v6:=zi 1 [.int .u32 ((↑(List.getD (canon x) v1 0):Int) - ((c:Int)+(↑(List.getD (canon y) v1 0):Int)))];let v4:=zi 1 [.int .u32 ((↑(List.getD (canon x) v1 0):Int)+(1000000000:Int) - ((c:Int)+(↑(List.getD (canon y) v1 0):Int)))];.D ((o.length:Int)<((canon x).length:Int)) (.side ((0:Int)<=o.length/\(o.length:Int)<((canon x).length:Int)) (.D ((o.length:Int)<((canon y).length:Int)) (.side ((0:Int)<=o.length/\(o.length:Int)<((canon y).length:Int)) (.side (inR .u32 ((c:Int)+(↑(List.getD (canon y) v1 0):Int))) (.D ((↑(List.getD (canon x) v1 0):Int)<c+(↑(List.getD (canon y) v1 0):Int)) (.side v9 (.side (inR .u32 ((↑(List.getD (canon x) v1 0):Int)+(1000000000:Int) - ((c:Int)+(↑(List.getD (canon y) v1 0):Int)))) (.side (0=0/\o.length<=o.length/\v7 *4<=140737488355328) (.side v5 (.leaf (.back 0 v2 [.arr v7 1 (appG o.length v12 (zg v4 0)),.arr 1 1 v4])))))) (.side (inR .u32 ((↑(List.getD (canon x) v1 0):Int) - ((c:Int)+(↑(List.getD (canon y) v1 0):Int)))) (.side (0=0/\o.length<=o.length/\v7 *4<=140737488355328) (.side v5 (.leaf (.back 0 v3 [.arr v7 1 (appG o.length v12 (zg v6 0)),.arr 1 1 v6])))))))) (.D ((↑(List.getD (canon x) v1 0):Int)<c) (.side v9 (.side (inR .u32 ((↑(List.getD (canon x) v1 0):Int)+(1000000000:Int) - c)) (.side (0=0/\o.length<=o.length/\v7 *4<=140737488355328) (.side v5 (.leaf (.back 0 v2 [.arr v7 1 (appG o.length v12 (zg v8 0)),.arr 1 1 v8])))))) (.side (inR .u32 ((↑(List.getD (canon x) v1 0):Int) - c)) (.side (0=0/\o.length<=o.length/\v7 *4<=140737488355328) (.side v5 (.leaf (.back 0 v3 [.arr v7 1 (appG o.length v12 (zg v10 0)),.arr 1 1 v10])))))))) (.ex (λ(u:List Nat)=>u.length=o.length/\0+o.length<=o.length/\o.length<4611686018427387904/\eqG o.length 1 v12 (natG .u32 u)/\dig (List.take o.length (List.drop 0 u))) λn=>.all (λ(x:Nat)=>x=val (List.take o.length (List.drop 0 n))) λn=>.R [.osl 0 1 0 (canon n).length] [.arr o.length 1 v12])) ?_;simp only [Tree.holds,zd,inR,lo,hi,aD,y7];have ha:=zU (zj x) o.length;have hb:=zU (zj y) o.length
  have hnext:∀ d c':Nat,d<B->c'<=1->o.length<(canon x).length->(canon x).getD o.length 0+B*c'=d+(canon y).getD o.length 0+c ->
    ∃ s:I78 x y,s.o=o++[d]/\s.c=c'/\s.i=o.length+1:=λd c' h1 h2 h3 h4=>
   ⟨⟨o++[d],c',o.length+1,by simp,h3,j7.2 ⟨hd,by simp [dig,h1]⟩,h2,by rw [WG]; exact zru (x:=x) (y:=y) he h4⟩,rfl,rfl,rfl⟩
  refine⟨λhlt=> ?_,λhge=> ?_⟩
  ·have hlt:o.length<(canon x).length:=by simp at hlt; omega
   refine⟨by omega,λ_=>⟨λhb2=>⟨by simp at hb2; omega,λ_=>⟨by omega,λ_=>⟨λhlt2=> ?_,λhge2=> ?_⟩⟩⟩,λhb2=>⟨λhlt2=> ?_,λhge2=> ?_⟩⟩⟩
   ·simp only [aK] at hlt2;refine⟨by omega,λ_=>⟨by omega,λ_=>⟨⟨trivial,by omega,by omega⟩,λ_=>⟨by omega,λ_=> ?_⟩⟩⟩⟩;obtain⟨s,h1,h2,h3⟩:=hnext ((canon x).getD o.length 0+B - (c+(canon y).getD o.length 0)) 1 (by omega) (by omega) hlt (by omega);rw [aP trivial];refine⟨s,by show _ - s.i<_; omega,by simp [S78,h1,h2,h3,magS,natS,za],by rw [h1]; exact vX (by omega),by kernel_rfl,aI _⟩
   ·simp only [aV] at hge2;refine⟨by omega,λ_=>⟨⟨trivial,by omega,by omega⟩,λ_=>⟨by omega,λ_=> ?_⟩⟩⟩;obtain⟨s,h1,h2,h3⟩:=hnext ((canon x).getD o.length 0 - (c+(canon y).getD o.length 0)) 0 (by omega) (by omega) hlt (by omega);rw [aP trivial];refine⟨s,by show _ - s.i<_; omega,by simp [S78,h1,h2,h3,magS,natS,za],by rw [h1]; exact vX (by omega),by kernel_rfl,aI _⟩
   ·simp only [aK,aV] at hlt2 hb2;have hb0:(canon y).getD o.length 0=0:=by simp [List.getD,aZ (show(canon y).length<=o.length by omega)]
    refine⟨by omega,λ_=>⟨by omega,λ_=>⟨⟨trivial,by omega,by omega⟩,λ_=>⟨by omega,λ_=> ?_⟩⟩⟩⟩;obtain⟨s,h1,h2,h3⟩:=hnext ((canon x).getD o.length 0+B - c) 1 (by omega) (by omega) hlt (by omega);rw [aP trivial];refine⟨s,by show _ - s.i<_; omega,by simp [S78,h1,h2,h3,magS,natS,za],by rw [h1]; exact vX (by omega),by kernel_rfl,aI _⟩
   ·simp only [aV] at hge2 hb2;have hb0:(canon y).getD o.length 0=0:=by simp [List.getD,aZ (show(canon y).length<=o.length by omega)]
    refine⟨by omega,λ_=>⟨⟨trivial,by omega,by omega⟩,λ_=>⟨by omega,λ_=> ?_⟩⟩⟩;obtain⟨s,h1,h2,h3⟩:=hnext ((canon x).getD o.length 0 - c) 0 (by omega) (by omega) hlt (by omega);rw [aP trivial];refine⟨s,by show _ - s.i<_; omega,by simp [S78,h1,h2,h3,magS,natS,za],by rw [h1]; exact vX (by omega),by kernel_rfl,aI _⟩
  ·have hge:o.length=(canon x).length:=by simp at hge; omega
   have hv:val o=x - y:=by
    have h1:=qG hd;rw [hge,bD,bF hlen,zl,zl] at he
    have:c=0:=by
     rcases aR c 1 with h | h
     ·omega
     ·have:c=1:=by omega
      subst this;rw [hge] at h1;omega
    subst this;omega
   refine⟨o,⟨rfl,by omega,by omega,za _ _ _,by simpa using hd⟩,⟨_,rfl⟩,?_⟩;intro X hX;have hX:X=x - y:=by simpa [hv] using hX
   subst hX;have htr:jf o=canon (x - y):=by rw [zY hd,hv]
   have htl:(canon (x - y)).length=tlen o:=by rw [<- htr,jf,aH]; have:=qA o; omega
   rw [htl];refine⟨[],rfl,by simp,by simp,λ_=>⟨X7,by simp⟩,magS (x - y),[],qW ?_,.inl (by simp [expH]),rfl,hq⟩;simp only [resV,exp2,exp1,Yx];exact VP htr
noncomputable def K161:=Go.Sx.aA f161
noncomputable def K164:=Go.Sx.aA f164
theorem zbp(m n:Nat):Int.tdiv (m:Int) (n:Int)=((m/n:Nat):Int):=rfl
theorem zca(m n:Nat):Int.tmod (m:Int) (n:Int)=((m%n:Nat):Int):=rfl
theorem ZS(k:IntKind)(n:Nat):eqG n 1 (yk [.int k 0]) (natG k (List.replicate n 0)):=by
 intro j o hj ho;have:o=0:=by omega
 subst this;simp [yk,natG,hj]
theorem Yi{l:List Nat}{k:Nat}(hk:k<l.length):l.drop k=l.getD k 0::l.drop (k+1):=by
 rw [List.drop_eq_getElem_cons hk];simp [List.getD,hk]
def zj4:Ctr:=ctrP true (λp:Nat×Nat=>[magS p.1,.int .u32 (p.2:Int)]) (λp=>fits p.1/\0<p.2/\p.2<B) (λp (r:Nat×Nat)=>r=(p.1/p.2,p.1%p.2)) (λ_ r=>(.tup [magS r.1,.int .u32 (r.2:Int)],[]))
def S74(x d:Nat)(o:List Nat)(r k:Nat):KV:=[(0,magS x),(1,.int .u32 (d:Int)),(4,.osl 0 1 0 o.length),(6,.int .u64 (r:Int)),(7,.i ((k:Int) - 1))]
structure I74(x d:Nat) where
 o:List Nat
 r:Nat
 k:Nat
 len:o.length=(canon x).length
 le:k<=(canon x).length
 rd:r<d
 dg:dig (o.drop k)
 eq:val ((canon x).drop k)=d*val (o.drop k)+r
theorem zje:zf prog 161 zj4:=by
 refine zh' f161 λp hp O w0 Q hq=> ?_
 replace hq:=hq _ rfl;obtain⟨x,d⟩:=p;obtain⟨hx,hd0,hdB⟩:=hp;simp only [fits] at hx hd0 hdB hq;have hB:B=1000000000:=rfl;refine zc.n G1.h [0,1,4,6,7] (let v1:=Int.toNat (canon x).length;.side ((0:Int)<=((canon x).length:Int)/\((canon x).length:Int)<=((canon x).length:Int)/\inR .i64 (canon x).length/\Int.toNat (canon x).length*4<=140737488355328) (.S ((canon x).length-1) (.leaf (.loop (lps K161 0).1 (lps K161 0).2 [(0,.sl (canon x).length 1 (natG .u32 (canon x))),(1,.int .u32 d),(4,.osl 0 1 0 v1),(6,.int .u64 0),(7,.i ((canon x).length-1))] [.arr v1 1 (yk [.int .u32 0])])))) ?_;simp only [Tree.holds,zd,inR,lo,hi];refine⟨by omega,λ_=>⟨by omega,λ_=> ?_⟩⟩;refine zc.loop (ι:=I74 x d) (λs=>S74 x d s.o s.r s.k) (λs=>[.arr s.o.length 1 (natG .u32 s.o)]) (λs=>s.k) ⟨List.replicate (canon x).length 0,0,(canon x).length,by simp,aJ _,hd0,by simp [dig],by simp [val]⟩ 0 ?_ ?_ (by kernel_rfl)
 ·exact⟨by simp [S74,magS,natS,za],by simp [ZS],by kernel_rfl,aI _⟩
 ·rintro⟨o,r,k,hlen,hle,hr,hdg,he⟩;refine zc.n G1.h [0,1,4,6,7] (let v2:=Int.toNat (k-1);let v1:=Int.tdiv ((r:Int)*(1000000000:Int)+(↑(List.getD (canon x) v2 0):Int)) (d:Int);.D ((0:Int)<=k - (1:Int)) (.side (inR .u64 (r*1000000000)) (.side ((0:Int)<=k - (1:Int)/\(k:Int) - (1:Int)<((canon x).length:Int)) (.side (inR .u64 ↑(List.getD (canon x) v2 0)) (.side (inR .u64 ((r:Int)*(1000000000:Int)+(↑(List.getD (canon x) v2 0):Int))) (.side (inR .u64 d) (.side ((d:Int)≠0/\inR .u64 v1) (.side (inR .u32 v1) (.side (inR .u64 d) (.side ((d:Int)≠0) (.side ((0:Int)<=k - (1:Int)/\(k:Int) - (1:Int)<o.length) (.S (k-1-1) (.leaf (.back 0 [(0,.sl (canon x).length 1 (natG .u32 (canon x))),(1,.int .u32 d),(4,.osl 0 1 0 o.length),(6,.int .u64 (Int.tmod ((r:Int)*(1000000000:Int)+(↑(List.getD (canon x) v2 0):Int)) (d:Int))),(7,.i (k-1-1))] [.arr o.length 1 (updG (natG .u32 o) (0+Int.toNat (k-1)) 0 [.int .u32 v1])]))))))))))))) (.ex (λ(u:List Nat)=>u.length=o.length/\0+o.length<=o.length/\o.length<4611686018427387904/\eqG o.length 1 (natG .u32 o) (natG .u32 u)/\dig (List.take o.length (List.drop 0 u))) λn=>.all (λ(x:Nat)=>x=val (List.take o.length (List.drop 0 n))) λn=>.side (inR .u32 r) (.R [.osl 0 1 0 (canon n).length,.int .u32 r] [.arr o.length 1 (natG .u32 o)]))) ?_;have e:((k:Int) - 1).toNat=k - 1:=by omega
  have ha:=zU (zj x) (k - 1);have ev:((r:Int)*1000000000+((canon x).getD (k - 1) 0:Nat))=((r*B+(canon x).getD (k - 1) 0:Nat):Int):=by simp
  simp only [Tree.holds,zd,inR,lo,hi,e,ev,zbp,zca,y7];generalize hv:r*B+(canon x).getD (k - 1) 0=v
  have hvd:v<d*B:=by
   have:(r+1)*B<=d*B:=aT _ hr;rw [bH] at this;omega
  have hq1:v/d<B:=Nat.div_lt_of_lt_mul hvd;have hr1:v%d<d:=Nat.mod_lt _ hd0;have hdm:=Nat.div_add_mod v d;generalize v/d=q at hq1 hdm ⊢;generalize v%d=rr at hr1 hdm ⊢;have hdB2:d*B<B*B:=Nat.mul_lt_mul_of_pos_right hdB (by decide);rw [hB] at hdB2;refine⟨λhk=> ?_,λhk=> ?_⟩
  ·have hk:0<k:=by simp at hk; omega
   refine⟨by omega,λ_=>⟨by omega,λ_=>⟨by omega,λ_=>⟨by omega,λ_=>⟨by omega,λ_=>⟨⟨by omega,by omega,by omega⟩,λ_=>⟨by omega,λ_=>⟨by omega,λ_=>⟨by omega,λ_=>⟨by omega,λ_=>⟨by omega,λ_=> ?_⟩⟩⟩⟩⟩⟩⟩⟩⟩⟩⟩;rw [aP trivial];have hkl:k - 1<o.length:=by omega
   have hdr:(o.set (k - 1) (q)).drop (k - 1)=(q)::o.drop k:=by
    rw [Yi (by simpa using hkl)];rw [show k - 1+1=k by omega,List.drop_set_of_lt (by omega)];simp [hkl]
   refine⟨⟨o.set (k - 1) (q),rr,k - 1,by simpa using hlen,by omega,hr1,by rw [hdr]; exact jc.2 ⟨hq1,hdg⟩,?_⟩,by show k - 1<k; omega,by simp [S74,magS,natS,za]; omega,?_,by kernel_rfl,aI _⟩
   ·rw [hdr,Yi (by omega),show k - 1+1=k by omega];simp only [val,he];rw [bN,bN,<- bI,<- bI,bJ d B];have h5:B*r=r*B:=bJ _ _;omega
   ·refine⟨⟨by simp,rfl,?_⟩,trivial⟩;have:=kG (k:=.u32) (l:=o) (v:=((q:Nat):Int)) (i:=k - 1) (by omega) hkl;simpa using this
  ·have hk:k=0:=by simp at hk; omega
   subst hk;simp only [List.drop_zero] at he hdg;rw [zl] at he
   have hqv:val o=x/d:=by
    rw [he,Nat.mul_add_div hd0,Nat.div_eq_of_lt hr,Nat.add_zero]
   have hrv:r=x%d:=by rw [he,Nat.mul_add_mod,Nat.mod_eq_of_lt hr]
   have htr:jf o=canon (x/d):=by rw [zY hdg,hqv]
   refine⟨o,⟨rfl,by omega,by omega,za _ _ _,by simpa using hdg⟩,⟨_,rfl⟩,?_⟩;intro X hX;have hX:X=x/d:=by simpa [hqv] using hX
   subst hX;have htl:(canon (x/d)).length=tlen o:=by rw [<- htr,jf,aH]; have:=qA o; omega
   rw [htl];refine⟨by omega,λ_=> ?_⟩;refine⟨[],rfl,by simp,by simp,λ_=>⟨?_,by simp⟩,_,[],qW ?_,.inl (by simp [expH]),rfl,hq⟩
   ·simp only [resV,new2];intro a ha;rcases aM.1 ha with rfl | ha
    ·exact X7
    ·simp only [List.mem_singleton] at ha; subst ha; rfl
   ·simp only [resV,exp2,List.map_cons,List.map_nil,exp1,Yx,eqA2,eqL1];exact⟨VP htr,by simp [eqA,exp0,ren0,hrv],trivial⟩
structure D5 where
 t:Nat
 u:Nat
 v:Nat
 y:Nat
 z:Nat
def zim:Ctr:=ctrP true (λp:D5=>[.int .u64 (p.t:Int),.int .u64 (p.u:Int),.int .u64 (p.v:Int),.int .u64 (p.y:Int),.int .u64 (p.z:Int)])
 (λp=>p.t<=p.y/\p.u<B/\p.v<B/\p.y<B/\p.z<B/\B<=2*p.y) (λp n=>n=jw p.v p.y p.z 2 ((p.t*B+p.u)/p.y) ((p.t*B+p.u)%p.y)) (λ_ n=>(.int .u64 (n:Int),[]))
def S77(v y z q r:Nat):KV:=[(2,.int .u64 (v:Int)),(3,.int .u64 (y:Int)),(4,.int .u64 (z:Int)),(12,.int .u64 (q:Int)),(13,.int .u64 (r:Int))]
structure I77(v y z R:Nat) where
 q:Nat
 r:Nat
 n:Nat
 rB:r<B
 qB:q<=B+1
 nB:B<=r+n*y
 eq:jw v y z n q r=R
theorem zk7:zf prog 164 zim:=by
 refine zh' f164 λp hp O w0 Q hq=> ?_
 replace hq:=hq _ rfl;obtain⟨t,u,v,y,z⟩:=p;simp only at hq;obtain⟨h1,h2,h3,h4,h5,h6⟩:=hp;simp only at h1 h2 h3 h4 h5 h6;have hB:B=1000000000:=rfl;refine zc.n zH [2,3,4,12,13] (let v1:=Int.tdiv ((t:Int)*(1000000000:Int)+u) (y:Int);.side (inR .u64 (t*1000000000)) (.side (inR .u64 ((t:Int)*(1000000000:Int)+u)) (.side ((y:Int)≠0/\inR .u64 v1) (.side ((y:Int)≠0) (.leaf (.loop (lps K164 0).1 (lps K164 0).2 [(2,.int .u64 v),(3,.int .u64 y),(4,.int .u64 z),(12,.int .u64 v1),(13,.int .u64 (Int.tmod ((t:Int)*(1000000000:Int)+u) (y:Int)))] [])))))) ?_;have ev:((t:Int)*1000000000+(u:Int))=((t*B+u:Nat):Int):=by simp
 simp only [Tree.holds,zd,inR,lo,hi,ev,zbp,zca];have hy:0<y:=by omega
 have hr:(t*B+u)%y<y:=Nat.mod_lt _ hy
 have hq1:(t*B+u)/y<=B+1:=by
  have h7:t*B<=y*B:=aT _ h1
  have:(t*B+u)/y<B+2:=by
   apply Nat.div_lt_of_lt_mul;rw [bN];omega
  omega
 have hst:t*1000000000<=1000000000*1000000000:=aT _ (by omega);generalize hR:jw v y z 2 ((t*B+u)/y) ((t*B+u)%y)=R at hq;generalize hqq:(t*B+u)/y=q at hq1 hR ⊢;generalize hrr:(t*B+u)%y=r at hr hR ⊢;refine⟨by omega,λ_=>⟨by omega,λ_=>⟨⟨by omega,by omega,by omega⟩,λ_=>⟨by omega,λ_=> ?_⟩⟩⟩⟩;refine zc.loop (ι:=I77 v y z R) (λs=>S77 v y z s.q s.r) (λ_=>[]) (λs=>s.n) ⟨q,r,2,by omega,hq1,by omega,hR⟩ 0 ?_ ?_ (by kernel_rfl)
 ·exact⟨by simp [S77],by simp,by kernel_rfl,aI _⟩
 ·rintro⟨q,r,n,hrB,hqB,hnB,hR⟩;refine zc.n zH [2,3,4,12,13] (.side (decide ((1000000000:Int)<=q)=false->inR .u64 ((q:Int)*z)) (.side (decide ((1000000000:Int)<=q)=false->inR .u64 (r*1000000000)) (.side (decide ((1000000000:Int)<=q)=false->inR .u64 ((r:Int)*(1000000000:Int)+v)) (.ite (bif decide ((1000000000:Int)<=q) then true else decide ((r:Int)*(1000000000:Int)+v<(q:Int)*z)) (.side (inR .u64 (q-1)) (.side (inR .u64 ((r:Int)+y)) (.D ((1000000000:Int)<=r+(y:Int)) (.R [.int .u64 (q-1)] []) (.leaf (.back 0 [(2,.int .u64 v),(3,.int .u64 y),(4,.int .u64 z),(12,.int .u64 (q-1)),(13,.int .u64 ((r:Int)+y))] []))))) (.R [.int .u64 q] []))))) ?_;simp only [Tree.holds,zd,inR,lo,hi,Bool.cond_eq_ite];have hqz:q*z<=1000000001*1000000000:=Nat.mul_le_mul (by omega) (by omega);have eqz:((q:Int)*(z:Int))=((q*z:Nat):Int):=by simp
  rw [eqz];have hrb:r*B=1000000000*r:=bJ _ _;generalize hp:q*z=p at hqz ⊢;refine⟨λ_=>by omega,λ_=>⟨λ_=>by omega,λ_=>⟨λ_=>by omega,λ_=>⟨λhc=> ?_,λhc=> ?_⟩⟩⟩⟩
  ·have hcond:B<=q\/r*B+v<q*z:=by
    rw [hp];split at hc
    ·rename_i h; simp only [aK] at h; left; omega
    ·simp only [aK] at hc; right; omega
   have hq0:0<q:=by
    rcases bC q with rfl | h
    ·simp at hcond
    ·exact h
   cases n with
   | zero=>omega
   | succ n=>
    simp only [jw,aP hcond] at hR;refine⟨by omega,λ_=>⟨by omega,λ_=>⟨λhb=> ?_,λhb=> ?_⟩⟩⟩
    ·rw [aP (by simp at hb; omega)] at hR;refine RetR.scal hq rfl ?_;simp only [resV]; congr 1; omega
    ·rw [aO (by simp at hb; omega)] at hR;rw [aP trivial];refine⟨⟨q - 1,r+y,n,by simp at hb; omega,by omega,by rw [bH] at hnB; omega,hR⟩,by show n<n+1; omega,by simp [S77]; omega,by simp,by kernel_rfl,aI _⟩
  ·have hcond:¬ (B<=q\/r*B+v<q*z):=by
    rw [hp];split at hc
    ·cases hc
    ·rename_i h; simp only [aK,aV] at h hc; omega
   refine RetR.scal hq rfl ?_
   have:jw v y z n q r=q:=by
    cases n with
    | zero=>rfl
    | succ n=>simp only [jw,aO hcond]
   simp only [resV]; congr 1; omega
noncomputable def K163:=Go.Sx.aA f163
theorem heap_set{k:IntKind}{o:List Nat}{v:Int}{i d i':Nat}(hv:v=d)(hi:i<o.length)(hi':i'=i):eqH [.arr o.length 1 (updG (natG k o) i' 0 [.int k v])] [.arr (o.set i d).length 1 (natG k (o.set i d))]:=by
 subst hv;subst hi';refine⟨⟨by simp,rfl,?_⟩,by simp [eqH]⟩;have:=kG (k:=k) (l:=o) (v:=(d:Int)) (by omega) hi;simpa using this
def UK:Ctr:=ctr2 true (λx y=>fits x/\fits y)
 (λx y p=>p=x*y) (λx y p=>(.osl 0 1 0 (canon p).length,[.arr ((canon x).length+(canon y).length) 1 (natG .u32 (padN ((canon x).length+(canon y).length) p))]))
def S76(x y i:Nat)(o:List Nat):KV:=[(0,magS x),(1,magS y),(5,.osl 0 1 0 o.length),Z 6,Z 7,Z 8,(18,magS x),(19,.i ((canon x).length:Nat)),(20,.i (i:Int)),Z 25,Z 26,Z 27]
def S76b(x y i j c:Nat)(o:List Nat):KV:=[(0,magS x),(1,magS y),(5,.osl 0 1 0 o.length),(6,.i (i:Int)),(7,.int .u32 ((canon x).getD i 0:Nat)),(8,.int .u64 (c:Int)),(18,magS x),(19,.i ((canon x).length:Nat)),(20,.i (i:Int)),(25,magS y),(26,.i ((canon y).length:Nat)),(27,.i (j:Int))]
structure I76(x y:Nat) where
 o:List Nat
 i:Nat
 len:o.length=(canon x).length+(canon y).length
 le:i<=(canon x).length
 dg:dig o
 eq:val o=val ((canon x).take i)*y
structure I76b(x y i V:Nat) where
 o:List Nat
 c:Nat
 j:Nat
 len:o.length=(canon x).length+(canon y).length
 le:j<=(canon y).length
 dg:dig o
 cB:c<B
 z:∀ p,i+(canon y).length<=p->o.getD p 0=0
 eq:val o+B^i*B^j*c=V+B^i*(canon x).getD i 0*val ((canon y).take j)
theorem UR{o' Pi Pj op d v a b' c c' V vt vo:Nat}(h1:o'+Pi*Pj*op=vo+Pi*Pj*d)(h2:vo+Pi*Pj*c=V+Pi*a*vt)(h3:B*c'+d=v)(h4:v=a*b'+op+c):o'+Pi*(Pj*B)*c'=V+Pi*a*(vt+Pj*b'):=by grind
theorem XM:zf prog 163 UK:=by
 refine Z0 (fn:=f163) (c:=f163.body.getD .skip) rfl rfl rfl λx y hp O w0 Q hq=> ?_
 replace hq:=hq _ rfl;obtain⟨hx,hy⟩:=hp;simp only [fits] at hx hy hq;have hB:B=1000000000:=rfl;refine zc.n G1.h [0,1,5,6,7,8,18,19,20,25,26,27] (let v1:=Int.toNat ((canon x).length+(canon y).length);.S ((canon x).length+(canon y).length) (.side ((0:Int)<=((canon x).length:Int)+((canon y).length:Int)/\((canon x).length:Int)+((canon y).length:Int)<=((canon x).length:Int)+((canon y).length:Int)/\inR .i64 ((canon x).length+(canon y).length)/\Int.toNat ((canon x).length+(canon y).length)*4<=140737488355328) (.leaf (.loop (lps K163 0).1 (lps K163 0).2 [(0,.sl (canon x).length 1 (natG .u32 (canon x))),(1,.sl (canon y).length 1 (natG .u32 (canon y))),(5,.osl 0 1 0 v1),Z 6,Z 7,Z 8,(18,.sl (canon x).length 1 (natG .u32 (canon x))),(19,.i (canon x).length),(20,.i 0),Z 25,Z 26,Z 27] [.arr v1 1 (yk [.int .u32 0])])))) ?_;simp only [Tree.holds,zd,inR,lo,hi];have esum:((canon x).length:Int)+((canon y).length:Int)=(((canon x).length+(canon y).length:Nat):Int):=by omega
 simp only [esum,aD];refine⟨by omega,λ_=>⟨by omega,λ_=> ?_⟩⟩;refine zc.loop (ι:=I76 x y) (λs=>S76 x y s.i s.o) (λs=>[.arr s.o.length 1 (natG .u32 s.o)]) (λs=>(canon x).length - s.i) ⟨List.replicate ((canon x).length+(canon y).length) 0,0,by simp,aI _,jt _,by simp [jR,val]⟩ 0 ?_ ?_ (by kernel_rfl)
 ·exact⟨by simp [S76,magS,natS,za],by simp [ZS],by kernel_rfl,aI _⟩
 ·rintro⟨o,i,hlen,hle,hd,he⟩;refine zc.n G1.h [0,1,5,6,7,8,18,19,20,25,26,27] (.D ((i:Int)<((canon x).length:Int)) (.side ((0:Int)<=i/\(i:Int)<((canon x).length:Int)) (.leaf (.loop (lps (inside K163 0) 0).1 (lps (inside K163 0) 0).2 [(0,.sl (canon x).length 1 (natG .u32 (canon x))),(1,.sl (canon y).length 1 (natG .u32 (canon y))),(5,.osl 0 1 0 o.length),(6,.i i),(7,.int .u32 ↑(List.getD (canon x) (i:Int).toNat 0)),(8,.int .u64 0),(18,.sl (canon x).length 1 (natG .u32 (canon x))),(19,.i (canon x).length),(20,.i i),(25,.sl (canon y).length 1 (natG .u32 (canon y))),(26,.i (canon y).length),(27,.i 0)] [.arr o.length 1 (natG .u32 o)]))) (.ex (λ(u:List Nat)=>u.length=o.length/\0+o.length<=o.length/\o.length<4611686018427387904/\eqG o.length 1 (natG .u32 o) (natG .u32 u)/\dig (List.take o.length (List.drop 0 u))) λn=>.all (λ(x:Nat)=>x=val (List.take o.length (List.drop 0 n))) λn=>.R [.osl 0 1 0 (canon n).length] [.arr o.length 1 (natG .u32 o)])) ?_;simp only [Tree.holds,zd,inR,lo,hi,aD,y7]
  have hz:∀ p,i+(canon y).length<=p->o.getD p 0=0:=by
   intro p hp;refine JE (n:=i+(canon y).length) ?_ hp;rw [he,Nat.pow_add];have h1:=qG (jQ (zj x) i);have h2:=qG (zj y);rw [zl] at h2;have h3:B^((canon x).take i).length=B^i:=by rw [aH,Nat.min_eq_left hle]
   rw [h3] at h1;exact Nat.mul_lt_mul_of_lt_of_le h1 (Nat.le_of_lt h2) (Nat.pow_pos (by decide))
  refine⟨λhlt=>⟨by simp at hlt; omega,λ_=> ?_⟩,λhge=> ?_⟩
  ·have hlt:i<(canon x).length:=by simp at hlt; omega
   refine zc.loop (ι:=I76b x y i (val o)) (λs=>S76b x y i s.j s.c s.o) (λs=>[.arr s.o.length 1 (natG .u32 s.o)]) (λs=>(canon y).length - s.j) ⟨o,0,0,hlen,aI _,hd,by decide,hz,by simp [val]⟩ 1 ?_ ?_ (by kernel_rfl)
   ·exact⟨by simp [S76b,magS,natS,za],by simp [za],by kernel_rfl,aI _⟩
   ·rintro⟨o2,c,j,hlen2,hle2,hd2,hcB,hz2,he2⟩;refine zc.n G1.h [0,1,5,6,7,8,18,19,20,25,26,27] (let v4:=natG .u32 (canon y);let v3:=natG .u32 (canon x);let v2:=Int.tdiv ((↑(List.getD (canon x) i 0):Int)*(↑(List.getD (canon y) (j:Int).toNat 0):Int)+(↑(o2.getD (0+Int.toNat ((i:Int)+j)) 0):Int)+c) (1000000000:Int);let v1:=Int.tmod ((↑(List.getD (canon x) i 0):Int)*(↑(List.getD (canon y) (j:Int).toNat 0):Int)+(↑(o2.getD (0+Int.toNat ((i:Int)+j)) 0):Int)+c) (1000000000:Int);.D ((j:Int)<((canon y).length:Int)) (.side ((0:Int)<=j/\(j:Int)<((canon y).length:Int)) (.side (inR .u64 ↑(List.getD (canon x) i 0)) (.side (inR .u64 ↑(List.getD (canon y) (j:Int).toNat 0)) (.side (inR .u64 ((↑(List.getD (canon x) i 0):Int)*(↑(List.getD (canon y) (j:Int).toNat 0):Int))) (.S ((i:Int)+j) (.side ((0:Int)<=i+(j:Int)/\(i:Int)+j<(o2.length:Int)) (.side (inR .u64 ↑(o2.getD (0+Int.toNat ((i:Int)+j)) 0)) (.side (inR .u64 ((↑(List.getD (canon x) i 0):Int)*(↑(List.getD (canon y) (j:Int).toNat 0):Int)+(↑(o2.getD (0+Int.toNat ((i:Int)+j)) 0):Int))) (.side (inR .u64 ((↑(List.getD (canon x) i 0):Int)*(↑(List.getD (canon y) (j:Int).toNat 0):Int)+(↑(o2.getD (0+Int.toNat ((i:Int)+j)) 0):Int)+c)) (.S ((i:Int)+j) (.side ((1000000000:Int)≠0) (.side (inR .u32 v1) (.side ((1000000000:Int)≠0/\inR .u64 v2) (.side ((0:Int)<=i+(j:Int)/\(i:Int)+j<(o2.length:Int)) (.S (j+1) (.leaf (.back 1 [(0,.sl (canon x).length 1 v3),(1,.sl (canon y).length 1 v4),(5,.osl 0 1 0 o2.length),(6,.i i),(7,.int .u32 ↑(List.getD (canon x) i 0)),(8,.int .u64 v2),(18,.sl (canon x).length 1 v3),(19,.i (canon x).length),(20,.i i),(25,.sl (canon y).length 1 v4),(26,.i (canon y).length),(27,.i (j+1))] [.arr o2.length 1 (updG (natG .u32 o2) (0+Int.toNat ((i:Int)+j)) 0 [.int .u32 v1])]))))))))))))))))) (.S (i+(canon y).length) (.side ((0:Int)<=i+((canon y).length:Int)/\(i:Int)+((canon y).length:Int)<o2.length) (.side (inR .u32 c) (.side (inR .u32 ((↑(o2.getD (0+Int.toNat (i+(canon y).length)) 0):Int)+c)) (.side ((0:Int)<=i+((canon y).length:Int)/\(i:Int)+((canon y).length:Int)<o2.length) (.S (i+1) (.leaf (.back 0 [(0,.sl (canon x).length 1 v3),(1,.sl (canon y).length 1 v4),(5,.osl 0 1 0 o2.length),(6,.i i),(7,.int .u32 ↑(List.getD (canon x) i 0)),(8,.int .u64 c),(18,.sl (canon x).length 1 v3),(19,.i (canon x).length),(20,.i (i+1)),(25,.sl (canon y).length 1 v4),(26,.i (canon y).length),(27,.i j)] [.arr o2.length 1 (updG (natG .u32 o2) (0+Int.toNat (i+(canon y).length)) 0 [.int .u32 ((↑(o2.getD (0+Int.toNat (i+(canon y).length)) 0):Int)+c)])]))))))))) ?_;have ha:=zU (zj x) i;have hb:=zU (zj y) j;have ho:=zU hd2 (i+j);have e1:((i:Int)+(j:Int))=((i+j:Nat):Int):=by omega
    have e2:((i:Int)+((canon y).length:Int))=((i+(canon y).length:Nat):Int):=by omega
    simp only [Tree.holds,zd,inR,lo,hi,e1,e2,aD,Nat.zero_add];have e3:(((canon x).getD i 0:Nat):Int)*(((canon y).getD j 0:Nat):Int)=(((canon x).getD i 0*(canon y).getD j 0:Nat):Int):=by simp
    have hab:(canon x).getD i 0*(canon y).getD j 0<=999999999*999999999:=Nat.mul_le_mul (by omega) (by omega);generalize hv:(canon x).getD i 0*(canon y).getD j 0+o2.getD (i+j) 0+c=v;have e4:(((canon x).getD i 0:Nat):Int)*(((canon y).getD j 0:Nat):Int)+((o2.getD (i+j) 0:Nat):Int)+(c:Int)=(v:Int):=by rw [e3,<- hv]; omega
    have e5:(1000000000:Int)=((B:Nat):Int):=rfl;have hvB:v<1000000000*1000000000:=by omega
    have hdm:=Nat.div_add_mod v B;have hmod:v%B<B:=Nat.mod_lt _ (by decide);have hdiv:v/B<B:=Nat.div_lt_of_lt_mul hvB;rw [e4,e5,zbp,zca];generalize v/B=c' at hdm hdiv ⊢;generalize v%B=d at hdm hmod ⊢;rw [e3];generalize hab2:(canon x).getD i 0*(canon y).getD j 0=ab at hab hv ⊢;refine⟨λhj=> ?_,λhj=> ?_⟩
    ·have hj:j<(canon y).length:=by simp at hj; omega
     have hp:i+j<o2.length:=by omega
     refine⟨by omega,λ_=>⟨by omega,λ_=>⟨by omega,λ_=>⟨by omega,λ_=>⟨by omega,λ_=>⟨by omega,λ_=>⟨by omega,λ_=>⟨by omega,λ_=>⟨by omega,λ_=>⟨by omega,λ_=>⟨by omega,λ_=>⟨by omega,λ_=>⟨by omega,λ_=>⟨by omega,λ_=>⟨by omega,λ_=> ?_⟩⟩⟩⟩⟩⟩⟩⟩⟩⟩⟩⟩⟩⟩⟩;rw [aP trivial];have hs:=Z3 o2 (i+j) d hp;refine⟨⟨o2.set (i+j) d,c',j+1,by simpa using hlen2,by omega,QK hd2 _ hmod,hdiv,λp hp2=> ?_,?_⟩,by show _ - (j+1)<_ - j; omega,by simp [S76b,magS,natS,za],heap_set rfl hp rfl,by kernel_rfl,aI _⟩
     ·have:=hz2 p hp2;simp only [List.getD] at this ⊢;rw [bS (by omega)]; exact this
     ·rw [Nat.pow_add] at hs;rw [Nat.pow_succ,zt];exact UR hs he2 hdm (by rw [hab2]; omega)
    ·have hj:j=(canon y).length:=by simp at hj; omega
     subst hj;have h0:=hz2 (i+(canon y).length) (aJ _);have hp:i+(canon y).length<o2.length:=by omega
     have hs:=Z3 o2 (i+(canon y).length) c hp;refine⟨by omega,λ_=>⟨by omega,λ_=>⟨by omega,λ_=>⟨by omega,λ_=>⟨by omega,λ_=>⟨by omega,λ_=> ?_⟩⟩⟩⟩⟩⟩;rw [aO (by decide),aP trivial];refine⟨⟨o2.set (i+(canon y).length) c,i+1,by simpa using hlen2,by omega,QK hd2 _ hcB,?_⟩,by show _ - (i+1)<_ - i; omega,by simp [S76,magS,natS,za],heap_set (by omega) hp rfl,by kernel_rfl,aI _⟩;rw [h0,Nat.pow_add] at hs;rw [bD,zl] at he2;rw [zt,bH,<- he];simp only [Nat.mul_zero,Nat.add_zero] at hs;rw [hs,he2]
  ·have hge:i=(canon x).length:=by simp at hge; omega
   subst hge;rw [bD,zl] at he;refine⟨o,⟨rfl,by omega,by omega,za _ _ _,by simpa using hd⟩,⟨_,rfl⟩,?_⟩;intro X hX;have hX:X=x*y:=by simpa [he] using hX
   subst hX;refine⟨[0],rfl,by simp,by simp,λ_=>⟨?_,?_⟩,_,_,qW ?_,.inl ?_,rfl,hq⟩
   ·simp [resV,new2,new1,new0,zG]
   ·intro k hk;simp only [List.mem_singleton] at hk;subst hk;intro j o' _ _;rfl
   ·simp [resV,exp2,exp1,exp0,zG,eqA2,eqA]
   ·have hpad:=za0 hd;rw [he,hlen] at hpad;rw [<- hpad];simp [expH,expB,hlen,za]
noncomputable def K128:=Go.Sx.aA f128
noncomputable def G2:=tb uf (tb zje (tb K5 (tb XM (tb zk7 (tb JV tz)))))
theorem jX{k:IntKind}{u:List Nat}{off n X:Nat}(hd:dig ((u.drop off).take n))(hX:val ((u.drop off).take n)=X):eqG (canon X).length 1 (zg (natG k u) off) (natG k (canon X)):=by
 have h:=zY hd;rw [hX] at h;have hl:=qA ((u.drop off).take n);intro j o hj ho;simp only [zg,natG,AV.int.injEq,true_and];rw [<- h] at hj ⊢;simp only [jf,aH] at hj ⊢;have hjn:j<n:=by simp at hj hl; omega
 have e:(List.take (tlen ((u.drop off).take n)) ((u.drop off).take n)).getD j 0=((u.drop off).take n).getD j 0:=by
  simp only [List.getD,bR];rw [aP (by omega)]
 rw [e,yC _ _ _ _ hjn]
theorem yz(k:IntKind)(n:Nat):eqG 1 1 (zi 1 [.int k (n:Int)]) (natG k [n]):=by
 intro j o hj ho;have:j=0:=by omega
 have:o=0:=by omega
 subst_vars; rfl
theorem zfx{k:IntKind}{n:Nat}{g:Nat->Nat->AV}{u:List Nat}{off m:Nat}(h:eqG m 1 g (natG k u))(hm:off+n<=m):eqG n 1 (zg g off) (zg (natG k u) off):=by
 intro j o hj ho;exact h (off+j) o (by omega) ho
theorem ZM{n sz:Nat}{f g h:Nat->Nat->AV}(h1:eqG n sz f g)(h2:eqG n sz g h):eqG n sz f h:=λj o hj ho=>(h1 j o hj ho).trans (h2 j o hj ho)
theorem vB{d:Nat}(hd:d<B):eqG (canon d).length 1 (zg (zi 1 [.int .u32 (d:Int)]) 0) (natG .u32 (canon d)):=by
 have h1:dig (([d].drop 0).take 1):=by simpa [dig] using hd
 have h2:val (([d].drop 0).take 1)=d:=by simp [val]
 have h3:=jX (k:=.u32) h1 h2;refine ZM (zfx (yz .u32 d) ?_) h3;have:=zC (x:=d) (n:=1) (by simpa using hd);omega
theorem Zk{N p:Nat}(hN:(canon p).length<=N):eqG (canon p).length 1 (zg (natG .u32 (padN N p)) 0) (natG .u32 (canon p)):=by
 intro j o hj ho;simp only [zg,natG,Nat.zero_add,padN,AV.int.injEq,true_and];congr 1;simp only [List.getD];rw [bL hj]
theorem zjl(N p i:Nat):(padN N p).getD i 0=(canon p).getD i 0:=by
 simp only [padN,List.getD];by_cases h:i<(canon p).length
 ·rw [bL h]
 ·rw [List.getElem?_append_right (by omega),aZ (show(canon p).length<=i by omega)];cases hh:(List.replicate (N - (canon p).length) 0)[i - (canon p).length]? with
  | none=>rfl
  | some z=>have:=aY hh; simp at this; simp [this.2]
theorem K3{N p:Nat}(h:(canon p).length<=N):(padN N p).length=N:=by simp [padN]; omega
theorem zm5(N p:Nat):dig (padN N p):=j7.2 ⟨zj _,jt _⟩
theorem yN(x y:Nat):(canon (x*y)).length<=(canon x).length+(canon y).length:=by
 have h1:=qG (zj x);have h2:=qG (zj y);rw [zl] at h1 h2;exact zC (by rw [Nat.pow_add]; exact Nat.mul_lt_mul'' h1 h2)
theorem WS{d:Nat}(h0:0<d)(hB:d<B):(canon d).length=1:=by
 have h1:=zC (x:=d) (n:=1) (by simpa using hB);have h2:=jU (x:=d) (n:=0) (by simp; omega);omega
def Zg:Ctr:=ctr2 false (λx y=>(canon x).length<100000/\(canon y).length<100000/\0<y) (λx y (r:Nat×Nat)=>r=(x/y,x%y)) (λ_ _ r=>(.tup [magS r.1,magS r.2],[]))
def SG(x y s k:Nat):KV:=[(0,magS x),(1,magS y),(4,.nils),(8,.int .u32 (s:Int)),(9,.i (((canon y).length:Nat):Int)),(10,.osl 1 1 0 k),Z 11,Z 12,Z 13,Z 15,Z 151,Z 152]
structure IG(x U:Nat) where
 k:Nat
 o:List Nat
 ko:k<=o.length
 le:o.length<=(canon x).length+1
 dg:dig (o.take k)
 eq:val (o.take k)=U
def SD(y s V ul ql j:Nat):KV:=[Z 0,Z 1,(4,.osl 4 1 0 ql),(8,.int .u32 (s:Int)),(9,.i (((canon y).length:Nat):Int)),(10,.osl 1 1 0 ul),(11,.osl 3 1 0 (canon V).length),(12,.i ((j:Int) - 1)),Z 13,Z 15,Z 151,Z 152]
def HD(y V:Nat)(u q:List Nat):Heap:=[.dead,.arr u.length 1 (natG .u32 u),.dead,.arr ((canon y).length+1) 1 (natG .u32 (padN ((canon y).length+1) V)),.arr q.length 1 (natG .u32 q)]
structure ID(x y V U:Nat) where
 u:List Nat
 q:List Nat
 j:Nat
 ul:u.length=(canon x).length+1
 ql:q.length+(canon y).length=(canon x).length+1
 jq:j<=q.length
 du:dig u
 dq:dig q
 eq:U=V*B^j*val (q.drop j)+val u
 lt:val u<V*B^j
def SC(y s V ul ql j d L i:Nat):KV:=[Z 0,Z 1,(4,.osl 4 1 0 ql),(8,.int .u32 (s:Int)),(9,.i (((canon y).length:Nat):Int)),(10,.osl 1 1 0 ul),(11,.osl 3 1 0 (canon V).length),(12,.i (j:Int)),(13,.int .u64 (d:Int)),(15,magS L),(151,.i (((canon y).length+1:Nat):Int)),(152,.i (i:Int))]
theorem XK{x y s V U m i:Nat}{u q:List Nat}{O:Nat->Prop}{w0:World}{Q:AV×Heap->Prop}{Hs0:Nat->KV->Heap->Prop}(hm:(canon y).length=m+2)(hx:(canon x).length<100000)(hs0:0<s)(hsB:s<B)(hV1:V<B^(m+2))(hV2:B^(m+2)<=2*V)(hVl:(canon V).length=m+2)(hV0:0<V)
  (hul:u.length=(canon x).length+1) (hql:q.length+(canon y).length=(canon x).length+1) (hjq:i+1<=q.length) (hdu:dig u) (hdq:dig q) (heq:U=V*B^(i+1)*val (q.drop (i+1))+val u) (hlt:val u<V*B^(i+1)) {W:Nat} (hW:val ((u.drop i).take (m+2+1))=W) (hWB:W/V<B) (kv:KV) (h:Heap) (hle:LeK 0 f128.ntmps kv h (SC y s V u.length q.length i (W/V) (W%V) 0) (HD y V u q)) :
  zc prog f128 O 0 w0 [] (λd kv h=>if d=0 then ∃ x':ID x y V U,x'.j<i+1/\LeK 0 f128.ntmps kv h (SD y s V x'.u.length x'.q.length x'.j) (HD y V x'.u x'.q) else Hs0 d kv h) (RetR Zg 0 Q)
   (.code (.loop (lps (inside (inside K128 0) 0) 0).1)::(lps (inside (inside K128 0) 0) 0).2) (mk f128.ntmps kv h):=by
 have hB:B=1000000000:=rfl;have c2:0+(i:Int).toNat=i:=by omega
 have hLV:=Nat.mod_lt W hV0;have hLl:(canon (W%V)).length<=m+2:=zC (by omega);refine zc.loop (ι:={k:Nat // k<=m+2+1}) (λk=>SC y s V u.length q.length i (W/V) (W%V) k.1) (λk=>HD y V (mixL u (canon (W%V)) i k.1) q) (λk=>m+2+1 - k.1) ⟨0,aI _⟩ 1 ?_ ?_ (by kernel_rfl)
 ·simpa only [zev] using hle
 ·rintro⟨k,hk⟩;obtain⟨L,hL⟩:∃ L,W%V=L:=⟨_,rfl⟩;obtain⟨d,hd⟩:∃ d,W/V=d:=⟨_,rfl⟩;simp only [hL,hd];obtain⟨u',hu'⟩:∃ u',mixL u (canon L) i k=u':=⟨_,rfl⟩;have hu'l:u'.length=u.length:=by rw [<- hu',XS]
  simp only [hu',<- hu'l];rw [hL] at hLl hLV;refine zc.n G2.h [0,1,4,8,9,10,11,12,13,15,151,152] (let v5:=inR .i64 (k+1);let v3:=updG (natG .u32 u') (0+Int.toNat ((i:Int)+k)) 0 [.int .u32 0];let v2:=List.length (canon y)+1;let v4:=natG .u32 (padN v2 V);let v1:List (Nat×AV):=[Z 0,Z 1,(4,.osl 4 1 0 q.length),(8,.int .u32 s),(9,.i (canon y).length),(10,.osl 1 1 0 u'.length),(11,.osl 3 1 0 (canon V).length),(12,.i i),(13,.int .u64 d),(15,.sl (canon L).length 1 (natG .u32 (canon L))),(151,.int .i64 ↑(List.length (canon y)+1)),(152,.i (k+1))];.D ((k:Int)<(↑(List.length (canon y)+1):Int)) (.S ((i:Int)+k) (.side ((0:Int)<=i+(k:Int)/\(i:Int)+k<(u'.length:Int)) (.D ((k:Int)<((canon L).length:Int)) (.S ((i:Int)+k) (.side ((0:Int)<=k/\(k:Int)<((canon L).length:Int)) (.side ((0:Int)<=i+(k:Int)/\(i:Int)+k<(u'.length:Int)) (.side v5 (.leaf (.back 1 v1 [.dead,.arr u'.length 1 (updG v3 (0+Int.toNat ((i:Int)+k)) 0 [.int .u32 ↑(List.getD (canon L) (k:Int).toNat 0)]),.dead,.arr v2 1 v4,.arr q.length 1 (natG .u32 q)])))))) (.side v5 (.leaf (.back 1 v1 [.dead,.arr u'.length 1 v3,.dead,.arr v2 1 v4,.arr q.length 1 (natG .u32 q)])))))) (.side (inR .u32 d) (.side ((0:Int)<=i/\(i:Int)<q.length) (.S (i-1) (.leaf (.back 0 [Z 0,Z 1,(4,.osl 4 1 0 q.length),(8,.int .u32 s),(9,.i (canon y).length),(10,.osl 1 1 0 u'.length),(11,.osl 3 1 0 (canon V).length),(12,.i (i-1)),(13,.int .u64 d),(15,.sl (canon L).length 1 (natG .u32 (canon L))),(151,.int .i64 ↑(List.length (canon y)+1)),(152,.i k)] [.dead,.arr u'.length 1 (natG .u32 u'),.dead,.arr v2 1 v4,.arr q.length 1 (updG (natG .u32 q) (0+Int.toNat i) 0 [.int .u32 d])])))))) ?_;have ek:0+((i:Int)+(k:Int)).toNat=i+k:=by omega
  have ek1:((k:Int)+1)=((k+1:Nat):Int):=by omega
  simp only [Tree.holds,zd,inR,lo,hi,ek,ek1,c2,aD];refine⟨λhlt=> ?_,λhge=> ?_⟩
  ·have hlt:k<m+2+1:=by simp at hlt; omega
   have hik:i+k<u'.length:=by omega
   refine⟨by omega,λ_=>⟨by omega,λ_=>⟨λhin=> ?_,λhout=> ?_⟩⟩⟩
   ·have hin:k<(canon L).length:=by simp at hin; omega
    iterate 4 refine⟨by omega,λ_=> ?_⟩
    rw [aP trivial];refine⟨⟨k+1,by omega⟩,by show m+2+1 - (k+1)<m+2+1 - k; omega,by simp [SC,magS,natS,za],?_,by kernel_rfl,aI _⟩;have hs2:=Ye u (canon L) i k 0;rw [hu'] at hs2;simp only [<- hs2];refine⟨trivial,⟨by simp,rfl,?_⟩,trivial,by simp [za],by simp [za],trivial⟩;have h1:=kG (k:=.u32) (l:=u') (v:=0) (i:=i+k) (by omega) hik;have h2:=kG (k:=.u32) (l:=u'.set (i+k) 0) (v:=((canon L).getD k 0:Nat)) (i:=i+k) (by omega) (by simpa using hik);simp only [List.length_set,aD] at h2;refine ZM ?_ h2;intro p o hp ho;have:=h1 p o hp ho;simp only [updG] at this ⊢;split
    ·rfl
    ·exact this
   ·have hout:(canon L).length<=k:=by simp at hout; omega
    refine⟨by omega,λ_=> ?_⟩;rw [aP trivial];refine⟨⟨k+1,by omega⟩,by show m+2+1 - (k+1)<m+2+1 - k; omega,by simp [SC,magS,natS,za],?_,by kernel_rfl,aI _⟩;have hs2:=Ye u (canon L) i k 0;rw [hu'] at hs2;have hz:(canon L).getD k 0=0:=by simp [List.getD,aZ hout]
    rw [hz,List.set_set] at hs2;simp only [<- hs2];refine⟨trivial,⟨by simp,rfl,?_⟩,trivial,by simp [za],by simp [za],trivial⟩;exact kG (k:=.u32) (l:=u') (v:=0) (i:=i+k) (by omega) hik
  ·have hk:k=m+2+1:=by simp at hge; omega
   subst hk;have hdB:d<B:=hd▸hWB
   iterate 3 refine⟨by omega,λ_=> ?_⟩
   rw [aO (by decide),aP trivial];have hval:=zh9 (u:=u) (L:=L) (j:=i) (k:=m+2+1) (by omega) (by omega);rw [hu'] at hval;have hst:=step_eq (u:=u) (u':=u') (q:=q) (j:=i) (k:=m+2+1) (V:=V) (U0:=U) hdu (by omega) (by simpa using hV1) (by omega) hV0 hlt (by omega) heq (by rw [hW,hL]; exact hval);rw [hW,hd] at hst;refine⟨⟨u',q.set i d,i,by omega,by simpa using hql,by simp; omega,?_,QK hdq _ hdB,hst.2,hst.1⟩,Nat.lt_succ_self _,by simp [SD,za],?_,by kernel_rfl,aI _⟩
   ·rw [<- hu']; exact zj0 hdu (zj _) _ _
   ·refine⟨trivial,⟨rfl,rfl,za _ _ _⟩,trivial,⟨rfl,rfl,za _ _ _⟩,⟨by simp,rfl,?_⟩,trivial⟩;have:=kG (k:=.u32) (l:=q) (v:=(d:Int)) (i:=i) (by omega) (by omega);simpa using this
abbrev q13(A:List AV)(x:Nat×Nat):Prop:=eqL A [.sl (canon x.1).length 1 (natG .u32 (canon x.1)),.int .u32 x.2]/\fits x.1/\0<x.2/\x.2<1000000000
abbrev q12(A:List AV)(x:Nat×Nat):Prop:=eqL A [.sl (canon x.1).length 1 (natG .u32 (canon x.1)),.sl (canon x.2).length 1 (natG .u32 (canon x.2))]/\fits x.1/\x.2<=x.1
abbrev q11(A:List AV)(x:Nat×Nat):Prop:=eqL A [.sl (canon x.1).length 1 (natG .u32 (canon x.1)),.sl (canon x.2).length 1 (natG .u32 (canon x.2))]/\fits x.1/\fits x.2
abbrev q10(A:List AV)(x:D5):Prop:=eqL A [.int .u64 ↑x.t,.int .u64 ↑x.u,.int .u64 ↑x.v,.int .u64 ↑x.y,.int .u64 ↑x.z]/\D5.t x<=D5.y x/\D5.u x<1000000000/\D5.v x<1000000000/\D5.y x<1000000000/\D5.z x<1000000000/\1000000000<=2*D5.y x
set_option maxHeartbeats 2000000 in
theorem KF{x y s V U m i:Nat}{u q:List Nat}{O:Nat->Prop}{w0:World}{Q:AV×Heap->Prop}{Hs0:Nat->KV->Heap->Prop}(hm:(canon y).length=m+2)(hx:(canon x).length<100000)(hs0:0<s)(hsB:s<B)(hV1:V<B^(m+2))(hV2:B^(m+2)<=2*V)(hVl:(canon V).length=m+2)(hV0:0<V)
  (hul:u.length=(canon x).length+1) (hql:q.length+(canon y).length=(canon x).length+1) (hjq:i+1<=q.length) (hdu:dig u) (hdq:dig q) (heq:U=V*B^(i+1)*val (q.drop (i+1))+val u) (hlt:val u<V*B^(i+1)) :
  zc prog f128 O 0 w0 [] (λd kv h=>if d=0 then ∃ x':ID x y V U,x'.j<i+1/\LeK 0 f128.ntmps kv h (SD y s V x'.u.length x'.q.length x'.j) (HD y V x'.u x'.q) else Hs0 d kv h) (RetR Zg 0 Q) (inside (inside K128 0) 0) (mk f128.ntmps (SD y s V u.length q.length (i+1)) (HD y V u q)):=by
 have hB:B=1000000000:=rfl;refine zc.n G2.h [0,1,4,8,9,10,11,12,13,15,151,152] (let v15:=natG .u32 q;let v13:=inR .i64 ((canon y).length+1);let v10:=List.length (canon y)+1;let v9:=natG .u32 u;let v8:=lps (inside (inside K128 0) 0) 0;let v6:=zg v9 (0+Int.toNat ((↑(i+1):Int) - (1:Int)));let v5:=inR .i64 ((↑(i+1):Int) - (1:Int)+((canon y).length:Int)+(1:Int));let v4:=padN v10 V;let v12:=natG .u32 v4;let v2:=inR .i64 ((↑(i+1):Int) - (1:Int)+((canon y).length:Int));let v1:=Int.toNat ((↑(i+1):Int) - (1:Int)+((canon y).length:Int)+(1:Int)) - Int.toNat ((↑(i+1):Int) - (1:Int));.D ((0:Int)<=(↑(i+1):Int) - (1:Int)) (.side v2 (.side ((0:Int)<=(↑(i+1):Int) - (1:Int)+((canon y).length:Int)/\(↑(i+1):Int) - (1:Int)+((canon y).length:Int)<u.length) (.side (inR .u64 ↑(u.getD (0+Int.toNat ((↑(i+1):Int) - (1:Int)+((canon y).length:Int))) 0)) (.side v2 (.S ((↑(i+1):Int) - (1:Int)+((canon y).length:Int) - (1:Int)) (.side ((0:Int)<=(↑(i+1):Int) - (1:Int)+((canon y).length:Int) - (1:Int)/\(↑(i+1):Int) - (1:Int)+((canon y).length:Int) - (1:Int)<u.length) (.side (inR .u64 ↑(u.getD (0+Int.toNat ((↑(i+1):Int) - (1:Int)+((canon y).length:Int) - (1:Int))) 0)) (.side v2 (.S ((↑(i+1):Int) - (1:Int)+((canon y).length:Int) - (2:Int)) (.side ((0:Int)<=(↑(i+1):Int) - (1:Int)+((canon y).length:Int) - (2:Int)/\(↑(i+1):Int) - (1:Int)+((canon y).length:Int) - (2:Int)<u.length) (.side (inR .u64 ↑(u.getD (0+Int.toNat ((↑(i+1):Int) - (1:Int)+((canon y).length:Int) - (2:Int))) 0)) (.S ((canon y).length-1) (.side ((0:Int)<=((canon y).length:Int) - (1:Int)/\((canon y).length:Int) - (1:Int)<((canon V).length:Int)) (.side (inR .u64 ↑(List.getD v4 (0+Int.toNat ((canon y).length-1)) 0)) (.S ((canon y).length-2) (.side ((0:Int)<=((canon y).length:Int) - (2:Int)/\((canon y).length:Int) - (2:Int)<((canon V).length:Int)) (.side (inR .u64 ↑(List.getD v4 (0+Int.toNat ((canon y).length-2)) 0)) (.ex (q10 [.int .u64 ↑(u.getD (0+Int.toNat ((↑(i+1):Int) - (1:Int)+((canon y).length:Int))) 0),.int .u64 ↑(u.getD (0+Int.toNat ((↑(i+1):Int) - (1:Int)+((canon y).length:Int) - (1:Int))) 0),.int .u64 ↑(u.getD (0+Int.toNat ((↑(i+1):Int) - (1:Int)+((canon y).length:Int) - (2:Int))) 0),.int .u64 ↑(List.getD v4 (0+Int.toNat ((canon y).length-1)) 0),.int .u64 ↑(List.getD v4 (0+Int.toNat ((canon y).length-2)) 0)]) λn=>.all (λ(n_1:Nat)=>n_1=jw n.v n.y n.z 2 ((D5.t n*1000000000+D5.u n)/D5.y n) ((D5.t n*1000000000+D5.u n)%D5.y n)) λn=>let v14:=zi 1 [.int .u32 (n-1)];.side (inR .u32 n) (.ex (λ(u:List Nat)=>u.length=1/\1<=1/\1<4611686018427387904/\eqG 1 1 (zi 1 [.int .u32 n]) (natG .u32 u)/\dig (List.take 1 (List.drop 0 u))) λn_1=>.all (λ(x:Nat)=>x=val (List.take 1 (List.drop 0 n_1))) λn_2=>.ex (q11 [.sl (canon V).length 1 (zg v12 0),.sl (canon n_2).length 1 (zg (zi 1 [.int .u32 n]) 0)]) λn_3=>let v3:=List.length (canon n_3.1)+List.length (canon n_3.2);.all (λ(p:Nat)=>p=n_3.1*n_3.2) λn_4=>let v11:=natG .u32 (padN v3 n_4);.side v2 (.side v5 (.side ((0:Int)<=(↑(i+1):Int) - (1:Int)/\(↑(i+1):Int) - (1:Int)<=(↑(i+1):Int) - (1:Int)+((canon y).length:Int)+(1:Int)/\(↑(i+1):Int) - (1:Int)+((canon y).length:Int)+(1:Int)<=u.length) (.ex (λ(u_1:List Nat)=>u_1.length=u.length/\0+Int.toNat ((↑(i+1):Int) - (1:Int))+(Int.toNat ((↑(i+1):Int) - (1:Int)+((canon y).length:Int)+(1:Int)) - Int.toNat ((↑(i+1):Int) - (1:Int)))<=u.length/\Int.toNat ((↑(i+1):Int) - (1:Int)+((canon y).length:Int)+(1:Int)) - Int.toNat ((↑(i+1):Int) - (1:Int))<4611686018427387904/\eqG u.length 1 v9 (natG .u32 u_1)/\dig (List.take v1 (List.drop (0+Int.toNat ((↑(i+1):Int) - (1:Int))) u_1))) λn_5=>.all (λ(x:Nat)=>x=val (List.take v1 (List.drop (0+Int.toNat ((↑(i+1):Int) - (1:Int))) n_5))) λn_6=>.ex (q11 [.sl (canon n_6).length 1 v6,.sl (canon n_4).length 1 (zg v11 0)]) λn_7=>.all (λ(r:Int)=>r=cmp3 n_7.1 n_7.2) λn_8=>.D (n_8<0) (.side (inR .u64 (n-1)) (.side (inR .u32 (n-1)) (.ex (λ(u:List Nat)=>u.length=1/\1<=1/\1<4611686018427387904/\eqG 1 1 v14 (natG .u32 u)/\dig (List.take 1 (List.drop 0 u))) λn_9=>.all (λ(x:Nat)=>x=val (List.take 1 (List.drop 0 n_9))) λn_10=>.ex (q11 [.sl (canon V).length 1 (zg v12 0),.sl (canon n_10).length 1 (zg v14 0)]) λn_11=>let v7:=List.length (canon n_11.1)+List.length (canon n_11.2);.all (λ(p:Nat)=>p=n_11.1*n_11.2) λn_12=>.side v2 (.side v5 (.side ((0:Int)<=(↑(i+1):Int) - (1:Int)/\(↑(i+1):Int) - (1:Int)<=(↑(i+1):Int) - (1:Int)+((canon y).length:Int)+(1:Int)/\(↑(i+1):Int) - (1:Int)+((canon y).length:Int)+(1:Int)<=u.length) (.ex (λ(u_1:List Nat)=>u_1.length=u.length/\0+Int.toNat ((↑(i+1):Int) - (1:Int))+(Int.toNat ((↑(i+1):Int) - (1:Int)+((canon y).length:Int)+(1:Int)) - Int.toNat ((↑(i+1):Int) - (1:Int)))<=u.length/\Int.toNat ((↑(i+1):Int) - (1:Int)+((canon y).length:Int)+(1:Int)) - Int.toNat ((↑(i+1):Int) - (1:Int))<4611686018427387904/\eqG u.length 1 v9 (natG .u32 u_1)/\dig (List.take v1 (List.drop (0+Int.toNat ((↑(i+1):Int) - (1:Int))) u_1))) λn_13=>.all (λ(x:Nat)=>x=val (List.take v1 (List.drop (0+Int.toNat ((↑(i+1):Int) - (1:Int))) n_13))) λn_14=>.ex (q12 [.sl (canon n_14).length 1 v6,.sl (canon n_12).length 1 (zg (natG .u32 (padN v7 n_12)) 0)]) λn_15=>.all (λ(d:Nat)=>d=n_15.1 - n_15.2) λn_16=>.side v13 (.leaf (.loop v8.1 v8.2 [Z 0,Z 1,(4,.osl 4 1 0 q.length),(8,.int .u32 s),(9,.i (canon y).length),(10,.osl 1 1 0 u.length),(11,.osl 3 1 0 (canon V).length),(12,.i ((↑(i+1):Int) - (1:Int))),(13,.int .u64 (n-1)),(15,.sl (canon n_16).length 1 (natG .u32 (canon n_16))),(151,.i ((canon y).length+1)),(152,.i 0)] [.dead,.arr u.length 1 v9,.dead,.arr v10 1 v12,.arr q.length 1 v15,.arr 1 1 (zi 1 [.int .u32 n]),.arr v3 1 v11,.arr 1 1 (zi 1 [.int .u32 (n-1)]),.arr v7 1 (natG .u32 (padN v7 n_12))])))))))) (.side v2 (.side v5 (.side ((0:Int)<=(↑(i+1):Int) - (1:Int)/\(↑(i+1):Int) - (1:Int)<=(↑(i+1):Int) - (1:Int)+((canon y).length:Int)+(1:Int)/\(↑(i+1):Int) - (1:Int)+((canon y).length:Int)+(1:Int)<=u.length) (.ex (λ(u_1:List Nat)=>u_1.length=u.length/\0+Int.toNat ((↑(i+1):Int) - (1:Int))+(Int.toNat ((↑(i+1):Int) - (1:Int)+((canon y).length:Int)+(1:Int)) - Int.toNat ((↑(i+1):Int) - (1:Int)))<=u.length/\Int.toNat ((↑(i+1):Int) - (1:Int)+((canon y).length:Int)+(1:Int)) - Int.toNat ((↑(i+1):Int) - (1:Int))<4611686018427387904/\eqG u.length 1 v9 (natG .u32 u_1)/\dig (List.take v1 (List.drop (0+Int.toNat ((↑(i+1):Int) - (1:Int))) u_1))) λn_9=>.all (λ(x:Nat)=>x=val (List.take v1 (List.drop (0+Int.toNat ((↑(i+1):Int) - (1:Int))) n_9))) λn_10=>.ex (q12 [.sl (canon n_10).length 1 v6,.sl (canon n_4).length 1 (zg v11 0)]) λn_11=>.all (λ(d:Nat)=>d=n_11.1 - n_11.2) λn_12=>.side v13 (.leaf (.loop v8.1 v8.2 [Z 0,Z 1,(4,.osl 4 1 0 q.length),(8,.int .u32 s),(9,.i (canon y).length),(10,.osl 1 1 0 u.length),(11,.osl 3 1 0 (canon V).length),(12,.i ((↑(i+1):Int) - (1:Int))),(13,.int .u64 n),(15,.sl (canon n_12).length 1 (natG .u32 (canon n_12))),(151,.i ((canon y).length+1)),(152,.i 0)] [.dead,.arr u.length 1 v9,.dead,.arr v10 1 v12,.arr q.length 1 v15,.arr 1 1 (zi 1 [.int .u32 n]),.arr v3 1 v11])))))))))))))))))))))))))))) (.ex (λ(u_1:List Nat)=>u_1.length=u.length/\0+u.length<=u.length/\u.length<4611686018427387904/\eqG u.length 1 v9 (natG .u32 u_1)/\dig (List.take u.length (List.drop 0 u_1))) λn=>.all (λ(x:Nat)=>x=val (List.take u.length (List.drop 0 n))) λn=>.ex (q13 [.sl (canon n).length 1 (zg v9 0),.int .u32 s]) λn=>.all (λ(r:Nat×Nat)=>r=(n.1/n.2,n.1%n.2)) λn=>.ex (λ(u:List Nat)=>u.length=q.length/\0+q.length<=q.length/\q.length<4611686018427387904/\eqG q.length 1 v15 (natG .u32 u)/\dig (List.take q.length (List.drop 0 u))) λn_1=>.all (λ(x:Nat)=>x=val (List.take q.length (List.drop 0 n_1))) λn_2=>.R [.osl 4 1 0 (canon n_2).length,.sl (canon n.1).length 1 (natG .u32 (canon n.1))] [.dead,.arr u.length 1 v9,.dead,.arr v10 1 v12,.arr q.length 1 v15])) ?_;simp only [q10,q11,q12,q13,Tree.holds,zd,inR,lo,hi];refine⟨λhj=> ?_,λhj=>by simp at hj⟩;have ej:(((i+1:Nat):Int) - 1)=(i:Int):=by omega
 have a1:0+((i:Int)+((canon y).length:Int)).toNat=i+(m+2):=by omega
 have a2:0+((i:Int)+((canon y).length:Int) - 1).toNat=i+(m+1):=by omega
 have a3:0+((i:Int)+((canon y).length:Int) - 2).toNat=i+m:=by omega
 have b1:0+(((canon y).length:Int) - 1).toNat=m+1:=by omega
 have b2:0+(((canon y).length:Int) - 2).toNat=m:=by omega
 have c1:((i:Int)+((canon y).length:Int)+1).toNat - (i:Int).toNat=m+2+1:=by omega
 have c2:0+(i:Int).toNat=i:=by omega
 simp only [ej,a1,a2,a3,b1,b2,c1,c2,zjl];have hu1:=zU hdu (i+(m+2));have hu2:=zU hdu (i+(m+1));have hu3:=zU hdu (i+m);have hv1:=zU (zj V) (m+1);have hv2:=zU (zj V) m
 iterate 17 refine⟨by omega,λ_=> ?_⟩
 obtain⟨W,hW⟩:∃ W,val ((u.drop i).take (m+2+1))=W:=⟨_,rfl⟩;have hdw:dig ((u.drop i).take (m+2+1)):=jQ (J2 hdu _) _
 have hWl:(canon W).length<=m+2+1:=by
  refine zC ?_;have:=qG hdw;rw [hW,aH] at this;exact bB this (bY (by decide) (Nat.min_le_left _ _))
 obtain⟨g1,g2,g3,g4,g5,g6⟩:=zk9 hdu (by omega) hVl hV2 hlt hW rfl;refine⟨⟨u.getD (i+(m+2)) 0,u.getD (i+(m+1)) 0,u.getD (i+m) 0,(canon V).getD (m+1) 0,(canon V).getD m 0⟩,⟨by simp,g3,hu2,hu3,hv1,hv2,g2⟩,⟨_,rfl⟩,?_⟩;intro d hd;simp only at hd;rw [<- hd] at g4 g5 g6;clear hd;have hWVB:W/V<B:=by omega
 have fin:=XK (x:=x) (y:=y) (s:=s) (V:=V) (U:=U) (O:=O) (w0:=w0) (Q:=Q) (Hs0:=Hs0) hm hx hs0 hsB hV1 hV2 hVl hV0 hul hql hjq hdu hdq heq hlt hW hWVB;have hdm:=Nat.div_add_mod W V;have hmlt:=Nat.mod_lt W hV0;have hul2:i+(m+2+1)<=u.length:=by omega
 have hul3:u.length<100002:=by omega
 clear heq hlt hul hql hjq hdq hx hs0 hsB hV2 g1 g2 g3 hu1 hu2 hu3 hv1 hv2 hj a1 a2 a3 b1 b2;generalize W/V=qd at *
 generalize W%V=rm at *
 refine⟨by omega,λ_=> ?_⟩;refine⟨[d],⟨rfl,by omega,by omega,yz _ _,by simpa [dig] using g6⟩,⟨_,rfl⟩,?_⟩;intro D hD;have hD:D=d:=by simpa [val] using hD
 subst hD;have hdl:=zC (x:=D) (n:=1) (by simpa using g6);refine⟨(V,D),⟨?_,by simp only [fits]; omega,by simp only [fits]; omega⟩,⟨_,rfl⟩,?_⟩
 ·simp only [eqL,eqA,eqA0,true_and,and_true];exact⟨Zk (by omega),vB g6⟩
 intro p hp;simp only at hp ⊢;have hpl:=yN V D;rw [<- hp] at hpl
 iterate 3 refine⟨by omega,λ_=> ?_⟩
 refine⟨u,⟨rfl,hul2,by omega,za _ _ _,hdw⟩,⟨_,rfl⟩,?_⟩;intro W' hW';have hW':W'=W:=hW'.trans hW;subst hW';refine⟨(W',p),⟨?_,by simp only [fits]; omega,by simp only [fits]; omega⟩,⟨_,rfl⟩,?_⟩
 ·simp only [eqL,eqA,eqA0,true_and,and_true];exact⟨jX hdw hW,Zk hpl⟩
 rintro c rfl;refine⟨λhlt2=> ?_,λhge2=> ?_⟩
 ·have hlt2:W'<p:=by
   simp only [cmp3,aK] at hlt2;rcases aR W' p with h | h
   ·exact h
   ·rw [aO (by omega)] at hlt2; split at hlt2<;>omega
  have hDQ:D=qd+1:=by
   rcases aR qd D with h | h
   ·omega
   ·have:V*D<=V*qd:=aS _ h;omega
  have e3:((D:Int) - 1)=((qd:Nat):Int):=by omega
  simp only [e3];have hQl:=zC (x:=qd) (n:=1) (by simpa using hWVB)
  iterate 2 refine⟨by omega,λ_=> ?_⟩
  refine⟨[qd],⟨rfl,by omega,by omega,yz _ _,by simpa [dig] using hWVB⟩,⟨_,rfl⟩,?_⟩;intro E hE;have hE:E=qd:=by simpa [val] using hE
  subst hE;refine⟨(V,E),⟨?_,by simp only [fits]; omega,by simp only [fits]; omega⟩,⟨_,rfl⟩,?_⟩
  ·simp only [eqL,eqA,eqA0,true_and,and_true];exact⟨Zk (by omega),vB hWVB⟩
  intro p2 hp2;simp only at hp2 ⊢;have hp2l:=yN V E;rw [<- hp2] at hp2l
  iterate 3 refine⟨by omega,λ_=> ?_⟩
  refine⟨u,⟨rfl,hul2,by omega,za _ _ _,hdw⟩,⟨_,rfl⟩,?_⟩;intro W2 hW2;have hW2:W2=W':=hW2.trans hW;subst hW2;refine⟨(W2,p2),⟨?_,by simp only [fits]; omega,by simp only; omega⟩,⟨_,rfl⟩,?_⟩
  ·simp only [eqL,eqA,eqA0,true_and,and_true];exact⟨jX hdw hW,Zk hp2l⟩
  intro L hL;simp only at hL ⊢;have hL:L=rm:=by omega
  subst hL;refine⟨by omega,λ_=> ?_⟩;refine fin _ _ ⟨by simp [SC,magS,natS,za,hVl],?_,by kernel_rfl,aI _⟩;simp [HD,za]
 ·have hge2:p<=W':=by
   simp only [cmp3,aV] at hge2;rcases aR W' p with h | h
   ·rw [aP h] at hge2; omega
   ·exact h
  have hDQ:D=qd:=by
   rcases aR qd D with h | h
   ·have:V*(qd+1)<=V*D:=aS _ h;rw [bN] at this;omega
   ·omega
  subst hDQ
  iterate 3 refine⟨by omega,λ_=> ?_⟩
  refine⟨u,⟨rfl,hul2,by omega,za _ _ _,hdw⟩,⟨_,rfl⟩,?_⟩;intro W2 hW2;have hW2:W2=W':=hW2.trans hW;subst hW2;refine⟨(W2,p),⟨?_,by simp only [fits]; omega,hge2⟩,⟨_,rfl⟩,?_⟩
  ·simp only [eqL,eqA,eqA0,true_and,and_true];exact⟨jX hdw hW,Zk hpl⟩
  intro L hL;simp only at hL ⊢;have hL:L=rm:=by omega
  subst hL;refine⟨by omega,λ_=> ?_⟩;refine fin _ _ ⟨by simp [SC,magS,natS,za,hVl],?_,by kernel_rfl,aI _⟩;simp [HD,za]
set_option maxHeartbeats 4000000 in
theorem V5:zf prog 128 Zg:=by
 refine Z0 (fn:=f128) (c:=f128.body.getD .skip) rfl rfl rfl λx y hp O w0 Q hq=> ?_
 replace hq:=hq _ rfl;obtain⟨hx,hy,hy0⟩:=hp;simp only at hq;have hB:B=1000000000:=rfl;refine zc.n G2.h [0,1,4,8,9,10,11,12,13,15,151,152] (let v3:=natG .u32 (canon x);let v2:=Int.toNat ((canon y).length-1);let v1:=Int.tdiv (1000000000:Int) ((↑(List.getD (canon y) v2 0):Int)+(1:Int));.ex (q11 [.sl (canon x).length 1 v3,.sl (canon y).length 1 (natG .u32 (canon y))]) λn=>.all (λ(r:Int)=>r=cmp3 n.1 n.2) λn=>.D (n<0) (.R [.nils,.sl (canon x).length 1 v3] []) (.D (((canon y).length:Int)=1) (.side ((0:Int)<=0/\(0:Int)<((canon y).length:Int)) (.ex (q13 [.sl (canon x).length 1 v3,.int .u32 ↑(List.getD (canon y) 0 0)]) λn=>.all (λ(r:Nat×Nat)=>r=(n.1/n.2,n.1%n.2)) λn=>.ex (λ(u:List Nat)=>u.length=1/\1<=1/\1<4611686018427387904/\eqG 1 1 (zi 1 [.int .u32 n.2]) (natG .u32 u)/\dig (List.take 1 (List.drop 0 u))) λn_1=>.all (λ(x:Nat)=>x=val (List.take 1 (List.drop 0 n_1))) λn_2=>.R [.sl (canon n.1).length 1 (natG .u32 (canon n.1)),.osl 0 1 0 (canon n_2).length] [.arr 1 1 (zi 1 [.int .u32 n.2])])) (.S ((canon y).length-1) (.side ((0:Int)<=((canon y).length:Int) - (1:Int)/\((canon y).length:Int) - (1:Int)<((canon y).length:Int)) (.side (inR .u64 ↑(List.getD (canon y) v2 0)) (.side (inR .u64 ((↑(List.getD (canon y) v2 0):Int)+(1:Int))) (.side ((↑(List.getD (canon y) v2 0):Int)+(1:Int)≠0/\inR .u64 v1) (.side (inR .u32 v1) (.ex (q11 [.sl (canon x).length 1 v3,.sl 1 1 (zg (zi 1 [.int .u32 v1]) 0)]) λn=>let v4:=List.length (canon n.1)+List.length (canon n.2);.all (λ(p:Nat)=>p=n.1*n.2) λn_1=>.leaf (.loop (lps K128 0).1 (lps K128 0).2 [(0,.sl (canon x).length 1 v3),(1,.sl (canon y).length 1 (natG .u32 (canon y))),(4,.nils),(8,.int .u32 v1),(9,.i (canon y).length),(10,.osl 1 1 0 (canon n_1).length),Z 11,Z 12,Z 13,Z 15,Z 151,Z 152] [.arr 1 1 (zi 1 [.int .u32 v1]),.arr v4 1 (natG .u32 (padN v4 n_1))])))))))))) ?_;simp only [q11,q13,Tree.holds,zd,inR,lo,hi];refine⟨(x,y),⟨by simp [za],by simp only [fits]; omega,by simp only [fits]; omega⟩,⟨_,rfl⟩,?_⟩;rintro c rfl;have hyl:0<(canon y).length:=jU (n:=0) (by simp; omega);refine⟨λhlt=> ?_,λhge=>⟨λh1=>⟨by omega,λ_=> ?_⟩,λhn=> ?_⟩⟩
 ·have hxy:x<y:=by
   simp only [cmp3,aK] at hlt;rcases aR x y with h | h
   ·exact h
   ·rw [aO (by omega)] at hlt; split at hlt<;>omega
  rw [Nat.div_eq_of_lt hxy,Nat.mod_eq_of_lt hxy] at hq;refine RetR.out0 hq (λh=>by cases h) ?_;simp [resV,exp2,exp1,exp0,ren0,eqA2,eqL1,magS,natS,zS,za]
 ·have h1:(canon y).length=1:=by simp at h1; omega
  have hyd:y=(canon y).getD 0 0:=by
   have:=zl y;obtain⟨a,ha⟩:=List.length_eq_one_iff.1 h1;rw [ha] at this ⊢;simp [val] at this ⊢; omega
  have hyB:y<B:=hyd▸zU (zj y) 0;rw [<- hyd];refine⟨(x,y),⟨by simp [za],by simp only [fits]; omega,hy0,hyB⟩,⟨_,rfl⟩,?_⟩;rintro r rfl;have hm:=Nat.mod_lt x hy0;have hmB:x%y<B:=by omega
  refine⟨[x%y],⟨rfl,by omega,by omega,yz _ _,by simpa [dig] using hmB⟩,⟨_,rfl⟩,?_⟩;intro X hX;have hX:X=x%y:=by simpa [val] using hX
  subst hX;refine RetR.out0 hq (λh=>by cases h) ?_;simp only [resV,exp2,List.map_cons,List.map_nil,exp1,exp0,ren0,zG,frz1,wg,List.getElem?_cons_zero,if_true,eqA2,eqL1,eqA,eqA0,magS,natS,true_and,and_true];exact⟨za _ _ _,vB hmB⟩
 ·have hn:2<=(canon y).length:=by simp at hn; omega
  obtain⟨m,hm⟩:∃ m,(canon y).length=m+2:=⟨(canon y).length - 2,by omega⟩;have e1:((((canon y).length:Nat):Int) - 1).toNat=m+1:=by omega
  have hty:=zU (zj y) (m+1)
  have htop:(canon y).getD (m+1) 0≠0:=by
   have:=qZ (canon y) (by rw [j3]; omega);rw [j3,hm] at this;exact this
  have hyv:∃ r,r<B^(m+1)/\y=r+B^(m+1)*(canon y).getD (m+1) 0:=by
   refine⟨val ((canon y).take (m+1)),?_,?_⟩
   ·have:=qG (jQ (zj y) (m+1))
    rwa [aH,Nat.min_eq_left (by omega)] at this
   ·have:=zt (canon y) (m+1)
    rwa [bF (by omega),zl] at this
  rw [e1];generalize (canon y).getD (m+1) 0=t at hty htop hyv ⊢
  have e2:Int.tdiv 1000000000 ((t:Int)+1)=((B/(t+1):Nat):Int):=by
   have:((t:Int)+1)=((t+1:Nat):Int):=by omega
   rw [this]; rfl
  rw [e2];obtain⟨s,hs⟩:∃ s,B/(t+1)=s:=⟨_,rfl⟩;obtain⟨hs0,hs1,hs2⟩:=zh7 (by omega) hs.symm hty;rw [hs]
  have hsB:s<B:=by
   have:s*2<=s*(t+1):=aS _ (by omega);omega
  obtain⟨r0,hr0,hyr⟩:=hyv;obtain⟨hV1,hV2⟩:=scaled hr0 hyr hs0 hs1 hs2;refine⟨by omega,λ_=>⟨by omega,λ_=>⟨by omega,λ_=>⟨by omega,λ_=>⟨by omega,λ_=>⟨by omega,λ_=> ?_⟩⟩⟩⟩⟩⟩;have hsl:=WS hs0 hsB;refine⟨(x,s),⟨?_,by simp only [fits]; omega,by simp only [fits]; omega⟩,⟨_,rfl⟩,?_⟩
  ·simp only [eqL,eqA,eqA0,true_and,and_true];refine⟨za _ _ _,hsl.symm,?_⟩;have:=vB hsB
   rwa [hsl] at this
  intro U hU;simp only at hU ⊢;rw [hsl]
  have hxs:U<B^((canon x).length+1):=by
   have h1:=qG (zj x);rw [zl] at h1;rw [hU,Nat.pow_succ];exact Nat.mul_lt_mul'' h1 hsB
  have hUl:=zC hxs
  have hcan:(canon x).length+1≥m+2:=by
   rcases aR (canon x).length (m+1) with h | h
   ·exfalso;have:=qj (x:=x) (y:=y) (by omega);simp [cmp3,this] at hge
   ·omega
  have hylx:(canon y).length<=(canon x).length:=by
   rcases aR (canon x).length (canon y).length with h | h
   ·exfalso;have:=qj h;simp [cmp3,this] at hge
   ·exact h
  refine zc.loop (ι:=IG x U) (λi=>SG x y s i.k) (λi=>[.dead,.arr i.o.length 1 (natG .u32 i.o)]) (λi=>(canon x).length+1 - i.k)
   ⟨(canon U).length,padN ((canon x).length+1) U,by rw [K3 hUl]; exact hUl,by rw [K3 hUl]; omega,jQ (zm5 _ _) _,by simp [padN,zl]⟩ 0 ?_ ?_ (by kernel_rfl)
  ·exact⟨by simp [SG,magS,natS,za],by simp [za,K3 hUl],by kernel_rfl,aI _⟩
  ·rintro⟨k,o,hko,hol,hdo,hvo⟩;refine zc.n G2.h [0,1,4,8,9,10,11,12,13,15,151,152] (let v4:=natG .u32 (canon y);let v2:=inR .i64 (k-(canon y).length);let v1:=Int.toNat (k-(canon y).length);.D ((k:Int)<=((canon x).length:Int)) (.side (0=0/\k<=o.length/\(k+1)*4<=140737488355328) (.leaf (.back 0 [(0,.sl (canon x).length 1 (natG .u32 (canon x))),(1,.sl (canon y).length 1 v4),(4,.nils),(8,.int .u32 s),(9,.i (canon y).length),(10,.osl 1 1 0 (k+1)),Z 11,Z 12,Z 13,Z 15,Z 151,Z 152] [.dead,.arr (k+1) 1 (appG k (natG .u32 o) (zg (zi 1 [.int .u32 0]) 0)),.arr 1 1 (zi 1 [.int .u32 0])]))) (.ex (q11 [.sl (canon y).length 1 v4,.sl 1 1 (zg (zi 1 [.int .u32 s]) 0)]) λn=>let v3:=List.length (canon n.1)+List.length (canon n.2);.all (λ(p:Nat)=>p=n.1*n.2) λn_1=>.side v2 (.side ((0:Int)<=k - ((canon y).length:Int)/\(k:Int) - ((canon y).length:Int)<=k - ((canon y).length:Int)/\inR .i64 (k-(canon y).length)/\Int.toNat (k-(canon y).length)*4<=140737488355328) (.side v2 (.S (k-(canon y).length-1) (.leaf (.loop (lps (inside K128 0) 0).1 (lps (inside K128 0) 0).2 [(0,.sl (canon x).length 1 (natG .u32 (canon x))),(1,.sl (canon y).length 1 v4),(4,.osl 4 1 0 v1),(8,.int .u32 s),(9,.i (canon y).length),(10,.osl 1 1 0 k),(11,.osl 3 1 0 (canon n_1).length),(12,.i (k-(canon y).length-1)),Z 13,Z 15,Z 151,Z 152] [.dead,.arr o.length 1 (natG .u32 o),.arr 1 1 (zi 1 [.int .u32 s]),.arr v3 1 (natG .u32 (padN v3 n_1)),.arr v1 1 (yk [.int .u32 0])]))))))) ?_;simp only [q11,Tree.holds,zd,inR,lo,hi];refine⟨λhk=> ?_,λhk=> ?_⟩
   ·have hk:k<=(canon x).length:=by simp at hk; omega
    refine⟨⟨trivial,hko,by omega⟩,λ_=> ?_⟩;rw [aP trivial];have hkl:(o.take k).length=k:=by rw [aH]; omega
    refine⟨⟨k+1,o.take k++[0],by simp [hkl],by simp [hkl]; omega,?_,?_⟩,by show _ - (k+1)<_ - k; omega,by simp [SG,magS,natS,za],?_,by kernel_rfl,aI _⟩
    ·rw [bF (by simp [hkl])]; exact j7.2 ⟨hdo,by simp [dig]⟩
    ·rw [bF (by simp [hkl]),zR]; simp [val,hvo]
    ·refine⟨trivial,⟨by simp [hkl],rfl,?_⟩,trivial⟩;intro j o' hj ho';have:o'=0:=by omega
     subst this;simp only [appG,zg,zi,natG];by_cases h:j<k
     ·rw [aP h];simp only [List.getD];rw [bL (by omega),bR,aP h]
     ·have:j=k:=by omega
      subst this;rw [aO h];simp [List.getElem?_append_right,hkl]
   ·have hk:k=(canon x).length+1:=by simp at hk; omega
    have hok:o.length=(canon x).length+1:=by omega
    rw [bF (by omega)] at hdo hvo;refine⟨(y,s),⟨?_,by simp only [fits]; omega,by simp only [fits]; omega⟩,⟨_,rfl⟩,?_⟩
    ·simp only [eqL,eqA,eqA0,true_and,and_true];refine⟨za _ _ _,hsl.symm,?_⟩;have:=vB hsB
     rwa [hsl] at this
    intro V hV;simp only at hV ⊢;rw [hsl];rw [<- hV] at hV1 hV2
    have hVl:(canon V).length=m+2:=by
     have h1:=zC hV1
     have h2:B^(m+1)<=V:=by
      have:B^(m+1+1)=B^(m+1)*B:=Nat.pow_succ ..;rw [this] at hV2;have:B^(m+1)*2<=B^(m+1)*B:=aS _ (by decide);omega
     have:=jU h2;omega
    have hV0:0<V:=by
     rcases bC V with h | h
     ·rw [h,zS] at hVl; simp at hVl
     ·exact h
    have eq0:((k:Int) - ((canon y).length:Int)).toNat=k - (canon y).length:=by omega
    rw [eq0];refine⟨by omega,λ_=>⟨by omega,λ_=>⟨by omega,λ_=>⟨by omega,λ_=> ?_⟩⟩⟩⟩
    have hqe:U/V=x/y/\U%V=x%y*s:=by
     rw [hU,hV];exact⟨Nat.mul_div_mul_right _ _ hs0,Nat.mul_mod_mul_right _ _ _⟩
    refine zc.loop (ι:=ID x y V U) (λi=>SD y s V i.u.length i.q.length i.j) (λi=>HD y V i.u i.q) (λi=>i.j)
     ⟨o,List.replicate (k - (canon y).length) 0,k - (canon y).length,hok,by simp; omega,by simp,hdo,jt _,by simp [val,hvo],?_⟩ 0 ?_ ?_ (by kernel_rfl)
    ·rw [hvo]
     have h1:U*2<=x*B:=by
      rw [hU,bI];refine aS _ ?_;have:s*2<=s*(t+1):=aS _ (by omega);omega
     have h2:x<B^(canon x).length:=by have:=qG (zj x); rwa [zl] at this
     have h3:B^(m+1+1)*B^(k - (canon y).length)<=2*V*B^(k - (canon y).length):=aT _ hV2;rw [<- Nat.pow_add,show m+1+1+(k - (canon y).length)=(canon x).length+1 by omega,Nat.pow_succ] at h3;have h4:x*B<B^(canon x).length*B:=Nat.mul_lt_mul_of_pos_right h2 (by decide);rw [bI] at h3;omega
    ·refine⟨?_,?_,by kernel_rfl,aI _⟩
     ·simp [SD,hVl,hm,hok,hk,za]; omega
     ·simp [HD,za,ZS]
    ·rintro⟨u,q,j,hul,hql,hjq,hdu,hdq,heq,hlt⟩;rcases j with _ | i
     ·refine zc.n G2.h [0,1,4,8,9,10,11,12,13,15,151,152] (let v14:=natG .u32 q;let v12:=inR .i64 ((canon y).length+1);let v9:=List.length (canon y)+1;let v8:=lps (inside (inside K128 0) 0) 0;let v7:=natG .u32 u;let v5:=inR .i64 ((-1:Int)+((canon y).length:Int)+(1:Int));let v4:=inR .i64 ((-1:Int)+((canon y).length:Int));let v3:=padN v9 V;let v11:=natG .u32 v3;let v1:=Int.toNat ((-1:Int)+((canon y).length:Int)+(1:Int)) - 0;.ite false (.side v4 (.side ((0:Int)<=(-1:Int)+((canon y).length:Int)/\(-1:Int)+((canon y).length:Int)<u.length) (.side (inR .u64 ↑(u.getD (0+Int.toNat ((-1:Int)+((canon y).length:Int))) 0)) (.side v4 (.S ((-1:Int)+((canon y).length:Int) - (1:Int)) (.side ((0:Int)<=(-1:Int)+((canon y).length:Int) - (1:Int)/\(-1:Int)+((canon y).length:Int) - (1:Int)<u.length) (.side (inR .u64 ↑(u.getD (0+Int.toNat ((-1:Int)+((canon y).length:Int) - (1:Int))) 0)) (.side v4 (.S ((-1:Int)+((canon y).length:Int) - (2:Int)) (.side ((0:Int)<=(-1:Int)+((canon y).length:Int) - (2:Int)/\(-1:Int)+((canon y).length:Int) - (2:Int)<u.length) (.side (inR .u64 ↑(u.getD (0+Int.toNat ((-1:Int)+((canon y).length:Int) - (2:Int))) 0)) (.S ((canon y).length-1) (.side ((0:Int)<=((canon y).length:Int) - (1:Int)/\((canon y).length:Int) - (1:Int)<((canon V).length:Int)) (.side (inR .u64 ↑(List.getD v3 (0+Int.toNat ((canon y).length-1)) 0)) (.S ((canon y).length-2) (.side ((0:Int)<=((canon y).length:Int) - (2:Int)/\((canon y).length:Int) - (2:Int)<((canon V).length:Int)) (.side (inR .u64 ↑(List.getD v3 (0+Int.toNat ((canon y).length-2)) 0)) (.ex (q10 [.int .u64 ↑(u.getD (0+Int.toNat ((-1:Int)+((canon y).length:Int))) 0),.int .u64 ↑(u.getD (0+Int.toNat ((-1:Int)+((canon y).length:Int) - (1:Int))) 0),.int .u64 ↑(u.getD (0+Int.toNat ((-1:Int)+((canon y).length:Int) - (2:Int))) 0),.int .u64 ↑(List.getD v3 (0+Int.toNat ((canon y).length-1)) 0),.int .u64 ↑(List.getD v3 (0+Int.toNat ((canon y).length-2)) 0)]) λn=>.all (λ(n_1:Nat)=>n_1=jw n.v n.y n.z 2 ((D5.t n*1000000000+D5.u n)/D5.y n) ((D5.t n*1000000000+D5.u n)%D5.y n)) λn=>let v13:=zi 1 [.int .u32 (n-1)];.side (inR .u32 n) (.ex (λ(u:List Nat)=>u.length=1/\1<=1/\1<4611686018427387904/\eqG 1 1 (zi 1 [.int .u32 n]) (natG .u32 u)/\dig (List.take 1 (List.drop 0 u))) λn_1=>.all (λ(x:Nat)=>x=val (List.take 1 (List.drop 0 n_1))) λn_2=>.ex (q11 [.sl (canon V).length 1 (zg v11 0),.sl (canon n_2).length 1 (zg (zi 1 [.int .u32 n]) 0)]) λn_3=>let v2:=List.length (canon n_3.1)+List.length (canon n_3.2);.all (λ(p:Nat)=>p=n_3.1*n_3.2) λn_4=>let v10:=natG .u32 (padN v2 n_4);.side v4 (.side v5 (.side ((0:Int)<=(-1:Int)/\(-1:Int)<=(-1:Int)+((canon y).length:Int)+(1:Int)/\(-1:Int)+((canon y).length:Int)+(1:Int)<=u.length) (.ex (λ(u_1:List Nat)=>u_1.length=u.length/\0+(Int.toNat ((-1:Int)+((canon y).length:Int)+(1:Int)) - 0)<=u.length/\Int.toNat ((-1:Int)+((canon y).length:Int)+(1:Int)) - 0<4611686018427387904/\eqG u.length 1 v7 (natG .u32 u_1)/\dig (List.take v1 (List.drop 0 u_1))) λn_5=>.all (λ(x:Nat)=>x=val (List.take v1 (List.drop 0 n_5))) λn_6=>.ex (q11 [.sl (canon n_6).length 1 (zg v7 0),.sl (canon n_4).length 1 (zg v10 0)]) λn_7=>.all (λ(r:Int)=>r=cmp3 n_7.1 n_7.2) λn_8=>.D (n_8<0) (.side (inR .u64 (n-1)) (.side (inR .u32 (n-1)) (.ex (λ(u:List Nat)=>u.length=1/\1<=1/\1<4611686018427387904/\eqG 1 1 v13 (natG .u32 u)/\dig (List.take 1 (List.drop 0 u))) λn_9=>.all (λ(x:Nat)=>x=val (List.take 1 (List.drop 0 n_9))) λn_10=>.ex (q11 [.sl (canon V).length 1 (zg v11 0),.sl (canon n_10).length 1 (zg v13 0)]) λn_11=>let v6:=List.length (canon n_11.1)+List.length (canon n_11.2);.all (λ(p:Nat)=>p=n_11.1*n_11.2) λn_12=>.side v4 (.side v5 (.side ((0:Int)<=(-1:Int)/\(-1:Int)<=(-1:Int)+((canon y).length:Int)+(1:Int)/\(-1:Int)+((canon y).length:Int)+(1:Int)<=u.length) (.ex (λ(u_1:List Nat)=>u_1.length=u.length/\0+(Int.toNat ((-1:Int)+((canon y).length:Int)+(1:Int)) - 0)<=u.length/\Int.toNat ((-1:Int)+((canon y).length:Int)+(1:Int)) - 0<4611686018427387904/\eqG u.length 1 v7 (natG .u32 u_1)/\dig (List.take v1 (List.drop 0 u_1))) λn_13=>.all (λ(x:Nat)=>x=val (List.take v1 (List.drop 0 n_13))) λn_14=>.ex (q12 [.sl (canon n_14).length 1 (zg v7 0),.sl (canon n_12).length 1 (zg (natG .u32 (padN v6 n_12)) 0)]) λn_15=>.all (λ(d:Nat)=>d=n_15.1 - n_15.2) λn_16=>.side v12 (.leaf (.loop v8.1 v8.2 [Z 0,Z 1,(4,.osl 4 1 0 q.length),(8,.int .u32 s),(9,.i (canon y).length),(10,.osl 1 1 0 u.length),(11,.osl 3 1 0 (canon V).length),(12,.i (-1:Int)),(13,.int .u64 (n-1)),(15,.sl (canon n_16).length 1 (natG .u32 (canon n_16))),(151,.i ((canon y).length+1)),(152,.i 0)] [.dead,.arr u.length 1 v7,.dead,.arr v9 1 v11,.arr q.length 1 v14,.arr 1 1 (zi 1 [.int .u32 n]),.arr v2 1 v10,.arr 1 1 (zi 1 [.int .u32 (n-1)]),.arr v6 1 (natG .u32 (padN v6 n_12))])))))))) (.side v4 (.side v5 (.side ((0:Int)<=(-1:Int)/\(-1:Int)<=(-1:Int)+((canon y).length:Int)+(1:Int)/\(-1:Int)+((canon y).length:Int)+(1:Int)<=u.length) (.ex (λ(u_1:List Nat)=>u_1.length=u.length/\0+(Int.toNat ((-1:Int)+((canon y).length:Int)+(1:Int)) - 0)<=u.length/\Int.toNat ((-1:Int)+((canon y).length:Int)+(1:Int)) - 0<4611686018427387904/\eqG u.length 1 v7 (natG .u32 u_1)/\dig (List.take v1 (List.drop 0 u_1))) λn_9=>.all (λ(x:Nat)=>x=val (List.take v1 (List.drop 0 n_9))) λn_10=>.ex (q12 [.sl (canon n_10).length 1 (zg v7 0),.sl (canon n_4).length 1 (zg v10 0)]) λn_11=>.all (λ(d:Nat)=>d=n_11.1 - n_11.2) λn_12=>.side v12 (.leaf (.loop v8.1 v8.2 [Z 0,Z 1,(4,.osl 4 1 0 q.length),(8,.int .u32 s),(9,.i (canon y).length),(10,.osl 1 1 0 u.length),(11,.osl 3 1 0 (canon V).length),(12,.i (-1:Int)),(13,.int .u64 n),(15,.sl (canon n_12).length 1 (natG .u32 (canon n_12))),(151,.i ((canon y).length+1)),(152,.i 0)] [.dead,.arr u.length 1 v7,.dead,.arr v9 1 v11,.arr q.length 1 v14,.arr 1 1 (zi 1 [.int .u32 n]),.arr v2 1 v10])))))))))))))))))))))))))))) (.ex (λ(u_1:List Nat)=>u_1.length=u.length/\0+u.length<=u.length/\u.length<4611686018427387904/\eqG u.length 1 v7 (natG .u32 u_1)/\dig (List.take u.length (List.drop 0 u_1))) λn=>.all (λ(x:Nat)=>x=val (List.take u.length (List.drop 0 n))) λn=>.ex (q13 [.sl (canon n).length 1 (zg v7 0),.int .u32 s]) λn=>.all (λ(r:Nat×Nat)=>r=(n.1/n.2,n.1%n.2)) λn=>.ex (λ(u:List Nat)=>u.length=q.length/\0+q.length<=q.length/\q.length<4611686018427387904/\eqG q.length 1 v14 (natG .u32 u)/\dig (List.take q.length (List.drop 0 u))) λn_1=>.all (λ(x:Nat)=>x=val (List.take q.length (List.drop 0 n_1))) λn_2=>.R [.osl 4 1 0 (canon n_2).length,.sl (canon n.1).length 1 (natG .u32 (canon n.1))] [.dead,.arr u.length 1 v7,.dead,.arr v9 1 v11,.arr q.length 1 v14])) ?_;simp only [q10,q11,q12,q13,Tree.holds,zd,inR,lo,hi];refine⟨λhj=>by simp at hj,λhj=> ?_⟩;simp only [List.drop_zero,Nat.pow_zero,Nat.mul_one] at heq hlt
      have hdiv:U/V=val q/\U%V=val u:=by
       rw [heq];exact⟨by rw [Nat.mul_add_div hV0,Nat.div_eq_of_lt hlt,Nat.add_zero],by rw [Nat.mul_add_mod,Nat.mod_eq_of_lt hlt]⟩
      have hqv:val q=x/y:=by rw [<- hdiv.1,hqe.1]
      have huv:val u=x%y*s:=by rw [<- hdiv.2,hqe.2]
      refine⟨u,⟨rfl,by omega,by omega,za _ _ _,by simpa using hdu⟩,⟨_,rfl⟩,?_⟩;intro X hX;have hX:X=x%y*s:=by simpa [huv] using hX
      have hw:val ((u.drop 0).take u.length)=X:=by simp [huv,hX]
      have hXl:=jX (k:=.u32) (u:=u) (off:=0) (n:=u.length) (by simpa using hdu) hw;have hmy:=Nat.mod_lt x hy0
      have hXlen:(canon X).length<=u.length:=by
       refine zC ?_;rw [hX,<- huv]; exact qG hdu
      refine⟨(X,s),⟨?_,by simp only [fits]; omega,hs0,hsB⟩,⟨_,rfl⟩,?_⟩
      ·simp only [eqL,eqA,eqA0,true_and,and_true];exact hXl
      rintro r rfl;have hXs:X/s=x%y:=by rw [hX]; exact Nat.mul_div_cancel _ hs0
      simp only [hXs];refine⟨q,⟨rfl,by omega,by omega,za _ _ _,by simpa using hdq⟩,⟨_,rfl⟩,?_⟩;intro Y hY;have hY:Y=x/y:=by simpa [hqv] using hY
      subst hY;refine RetR.out0 hq (λh=>by cases h) ?_;have hw2:val ((q.drop 0).take q.length)=x/y:=by simp [hqv]
      simp only [resV,exp2,List.map_cons,List.map_nil,exp1,exp0,ren0,zG,frz1,wg,List.getElem?_cons_zero,List.getElem?_cons_succ,if_true,eqA2,eqL1,eqA,eqA0,magS,natS,true_and,and_true];exact⟨jX (by simpa using hdq) hw2,za _ _ _⟩
     ·exact KF hm hx hs0 hsB hV1 hV2 hVl hV0 hul hql hjq hdu hdq heq hlt
noncomputable def K159:=Go.Sx.aA f159
def zcw:Ctr:=ctrT false false (λs:L8=>[.str s]) (λ_=>[]) (λ_=>True) (λ_ (_:Unit)=>True) (λs _=>(.fn 210 [] [.ptr 0 0],[.box [.str s]]))
theorem zei:zf prog 191 zcw:=by
 refine zP (fn:=f191) (c:=f191.body.getD .skip) rfl rfl rfl (λh=>by cases h) λs hp O w0 I0 Q hl hq=> ?_
 have h0:I0=[]:=aU.1 (by simpa using hl);subst h0;refine zc.n zH [0] (.R [.fn 210 [] [.ptr 0 0]] [.box [.str s]]) ?_;simp only [Tree.holds,zd];exact RetR.out1 0 (by simp) (hq () trivial) (λh=>by cases h) (by simp [resV,exp2,exp1,exp0,zG,ren0,eqA2]) (by simp [expB,exp1,exp0,ren0])
noncomputable def G3:=tb zei (tb K5 tz)
def KR:KV:=[(2,.ptr 0 0),(3,.ptr 1 0),Z 5,Z 6,(16,.fn 210 [] [.ptr 2 0]),Z 17,Z 19,Z 20]
def HR(neg:Bool)(b:L8):List Nat->Heap
 | []=>[.box [.bool false,.nils],.box [.bool neg,.nils],.box [.str b]]
 | d::o=>[.box [.bool false,.nils],.box [.bool neg,.osl 4 1 0 (o.length+1)],.box [.str b],.arr 1 1 (natG .u32 [d]),.arr (o.length+1) 1 (natG .u32 (d::o))]
theorem zad(s:ByteArray):∀ e,e<=s.size->val ((chunks s e).map decB)=numD (s.data.toList.take e):=by
 intro e
 induction e using Nat.strongRecOn with
 | _ e ih=>
  intro he;rcases bC e with h | h
  ·subst h; simp [kD,val,numD]
  ·rw [k9 s h,List.map_cons,val,ih (e - 9) (by omega) (by omega)];have hl:s.data.toList.length=s.size:=by rw [Array.length_toList]; rfl
   have h1:s.data.toList.take e=s.data.toList.take (e - 9)++(s.data.toList.take e).drop (e - 9):=by
    conv=>lhs; rw [<- bU (e - 9) (s.data.toList.take e)]
    rw [List.take_take,Nat.min_eq_left (by omega)]
   rw [h1,kB,decB,Zl,Nat.add_comm,bJ];congr 1;rcases aR e 9 with h9 | h9
   ·rw [show e - 9=0 by omega]; simp [numD]
   ·congr 1;have:((s.data.toList.take e).drop (e - 9)).length=9:=by simp; omega
    rw [this]
theorem zb6(s:ByteArray)(hd:allD s.data.toList):∀ e,e<=s.size->∀ x∈chunks s e,x.size<=9/\allD x.data.toList:=by
 intro e
 induction e using Nat.strongRecOn with
 | _ e ih=>
  intro he x hx;rcases bC e with h | h
  ·subst h; simp [kD] at hx
  ·rw [k9 s h] at hx;rcases aM.1 hx with rfl | hx
   ·refine⟨by rw [ByteArray.size_extract]; omega,?_⟩;rw [Zl];intro c hc;exact hd c (List.mem_of_mem_take (List.mem_of_mem_drop hc))
   ·exact ih (e - 9) (by omega) (by omega) x hx
theorem Wa(s:ByteArray):∀ e,(chunks s e).length<=e:=by
 intro e
 induction e using Nat.strongRecOn with
 | _ e ih=>
  rcases bC e with h | h
  ·subst h; simp [kD]
  ·rw [k9 s h,aL];have:=ih (e - 9) (by omega);omega
abbrev Grp:Type:={x:ByteArray // x.size<=9/\allD x.data.toList}
def zgw:Ctr:=ctrP false (λp:Bool×L8=>[.str (sgn p.1 p.2)]) (λp=>allD p.2/\p.2≠[]/\p.2.length<=1000000) (λp r=>r=numD p.2) (λp r=>(.agg [.bool p.1,magS r],[]))
def SR(x:L8)(v i:Nat):KV:=[(2,.ptr 0 0),(3,.ptr 1 0),(5,.str x),(6,.int .u32 (v:Int)),Z 16,Z 17,(19,.i (x.length:Int)),(20,.i (i:Int))]
theorem zes{O:Nat->Prop}{W:World}{E1:List SE}(l:Nat)(neg:Bool)(b:L8)(o:List Nat)(ho:o.length<=1000000)(y:L8)(hxd:allD y)(hx9:y.length<=9)(X:Prop)(Hx:Heap) :
  zB (some l) prog (bare f159) O 3 W E1 (λd kv' h'=>LeK 3 f159.ntmps [] h' [] (HR neg b (o++[numD y]))) (λ_ h'=>X/\LeK 3 f159.ntmps [] h' [] Hx) (.code (.loop (lps (roundOf K159 0) 0).1)::(lps (roundOf K159 0) 0).2)
   (mk f159.ntmps [(2,.ptr 0 0),(3,.ptr 1 0),(5,.str y),(6,.int .u32 0),(16,.fn 210 [] [.ptr 2 0]),(17,.str y),(19,.i (y.length:Int)),(20,.i 0)] (HR neg b o)):=by
 refine zc.loop (ι:={i:Nat // i<=y.length}) (λi=>SR y (numD (y.take i.1)) i.1) (λ_=>HR neg b o) (λi=>y.length - i.1) ⟨0,aI _⟩ 1 ?_ ?_ (by kernel_rfl)
 ·refine⟨by simp [SR,numD],?_,?_,?_⟩
  ·cases o<;>simp [HR,za]
  ·cases o<;>kernel_rfl
  ·cases o<;>simp [HR]
 ·rintro⟨i,hil⟩
  have hbound:numD (y.take i)<1000000000:=by
   have h1:=uW (l:=y.take i) λc hc=>hxd c (List.mem_of_mem_take hc)
   have h2:10^(y.take i).length<=10^9:=bY (by decide) (by rw [aH]; omega);have h4:(10:Nat)^9=1000000000:=by decide
   omega
  have hnext:∀ h:i<y.length,numD (y.take (i+1))=numD (y.take i)*10+((y.getD i 0).toNat - 48):=by
   intro h; rw [UT y i h,zfk]
  have hdig:i<y.length->48<=(y.getD i 0).toNat/\(y.getD i 0).toNat<=57:=by
   intro h;have:=hxd (y.getD i 0) (by simp [List.getD,h]);exact this
  have hnb:i<y.length->numD (y.take (i+1))<1000000000:=by
   intro h;have h1:=uW (l:=y.take (i+1)) λc hc=>hxd c (List.mem_of_mem_take hc)
   have h2:10^(y.take (i+1)).length<=10^9:=bY (by decide) (by rw [aH]; omega);have h4:(10:Nat)^9=1000000000:=by decide
   omega
  obtain⟨v,hv⟩:∃ v,numD (y.take i)=v:=⟨_,rfl⟩;simp only [hv] at hbound hnext ⊢;have ei:((i:Int)+1)=((i+1:Nat):Int):=by omega
  cases o with
  | nil=>
   refine zc.n G3.h [2,3,5,6,16,17,19,20] (let v1:=y.getD (i:Int).toNat (0:UInt8);.D ((i:Int)<y.length) (.side (inR .u32 (v*10)) (.side ((0:Int)<=i/\(i:Int)<y.length) (.side (inR .u8 ((↑(UInt8.toNat v1):Int) - (48:Int))) (.side (inR .u32 ((↑(UInt8.toNat v1):Int) - (48:Int))) (.side (inR .u32 ((v:Int)*(10:Int)+((↑(UInt8.toNat v1):Int) - (48:Int)))) (.S (i+1) (.leaf (.back 1 [(2,.ptr 0 0),(3,.ptr 1 0),(5,.str y),(6,.int .u32 ((v:Int)*(10:Int)+((↑(UInt8.toNat v1):Int) - (48:Int)))),Z 16,Z 17,(19,.i y.length),(20,.i (i+1))] [.box [.bool false,.nils],.box [.bool neg,.nils],.box [.str b]])))))))) (.side (4<=140737488355328) (.leaf (.back 0 [(2,.ptr 0 0),(3,.ptr 1 0),(5,.str y),(6,.int .u32 v),Z 16,Z 17,(19,.i y.length),(20,.i i)] [.box [.bool false,.nils],.box [.bool neg,.osl 4 1 0 1],.box [.str b],.arr 1 1 (zi 1 [.int .u32 v]),.arr 1 1 (zg (zi 1 [.int .u32 v]) 0)])))) ?_;simp only [Tree.holds,zd,inR,lo,hi,aD,ei];refine⟨λhlt=> ?_,λhge=> ?_⟩
   ·have hlt:i<y.length:=by simp at hlt; omega
    have h1:=hdig hlt;have h2:=hnb hlt;have h3:=hnext hlt;generalize (y.getD i 0).toNat=c at h1 h3 ⊢
    iterate 6 refine⟨by omega,λ_=> ?_⟩
    rw [aP trivial];refine⟨⟨i+1,hlt⟩,by show y.length - (i+1)<y.length - i; omega,?_,by simp [HR],by kernel_rfl,by simp [HR]⟩;simp [SR,h3]; omega
   ·have hge:i=y.length:=by simp at hge; omega
    subst hge;rw [bD] at hv;refine⟨by omega,λ_=> ?_⟩;rw [aO (by decide),hv];refine⟨by simp,?_,by kernel_rfl,by simp [HR]⟩;simp only [List.nil_append,HR];refine⟨by simp,by simp,by simp,⟨rfl,rfl,yz _ _⟩,⟨rfl,rfl,?_⟩,trivial⟩;exactλj o hj ho=>by simpa [zg] using yz .u32 v j o hj ho
  | cons d o=>
   refine zc.n G3.h [2,3,5,6,16,17,19,20] (let v1:=y.getD (i:Int).toNat (0:UInt8);.D ((i:Int)<y.length) (.side (inR .u32 (v*10)) (.side ((0:Int)<=i/\(i:Int)<y.length) (.side (inR .u8 ((↑(UInt8.toNat v1):Int) - (48:Int))) (.side (inR .u32 ((↑(UInt8.toNat v1):Int) - (48:Int))) (.side (inR .u32 ((v:Int)*(10:Int)+((↑(UInt8.toNat v1):Int) - (48:Int)))) (.S (i+1) (.leaf (.back 1 [(2,.ptr 0 0),(3,.ptr 1 0),(5,.str y),(6,.int .u32 ((v:Int)*(10:Int)+((↑(UInt8.toNat v1):Int) - (48:Int)))),Z 16,Z 17,(19,.i y.length),(20,.i (i+1))] [.box [.bool false,.nils],.box [.bool neg,.osl 4 1 0 (o.length+1)],.box [.str b],.arr 1 1 (natG .u32 [d]),.arr (o.length+1) 1 (natG .u32 (d::o))])))))))) (.side (0=0/\o.length+1<=o.length+1/\(o.length+1+1)*4<=140737488355328) (.leaf (.back 0 [(2,.ptr 0 0),(3,.ptr 1 0),(5,.str y),(6,.int .u32 v),Z 16,Z 17,(19,.i y.length),(20,.i i)] [.box [.bool false,.nils],.box [.bool neg,.osl 4 1 0 (o.length+1+1)],.box [.str b],.arr 1 1 (natG .u32 [d]),.arr (o.length+1+1) 1 (appG (o.length+1) (natG .u32 (d::o)) (zg (zi 1 [.int .u32 v]) 0)),.arr 1 1 (zi 1 [.int .u32 v])])))) ?_;simp only [Tree.holds,zd,inR,lo,hi,aD,ei];refine⟨λhlt=> ?_,λhge=> ?_⟩
   ·have hlt:i<y.length:=by simp at hlt; omega
    have h1:=hdig hlt;have h2:=hnb hlt;have h3:=hnext hlt;generalize (y.getD i 0).toNat=c at h1 h3 ⊢
    iterate 6 refine⟨by omega,λ_=> ?_⟩
    rw [aP trivial];refine⟨⟨i+1,hlt⟩,by show y.length - (i+1)<y.length - i; omega,?_,by simp [HR,za],by kernel_rfl,by simp [HR]⟩;simp [SR,h3]; omega
   ·have hge:i=y.length:=by simp at hge; omega
    subst hge;rw [bD] at hv;refine⟨⟨trivial,aJ _,by simp only [aL] at ho; omega⟩,λ_=> ?_⟩;rw [aO (by decide),hv];refine⟨by simp,?_,by kernel_rfl,by simp [HR]⟩;simp only [List.cons_append,HR];refine⟨by simp,by simp,by simp,⟨rfl,rfl,za _ _ _⟩,⟨by simp,rfl,?_⟩,trivial⟩;have:=uS (k:=.u32) (l:=d::o) (v:=((v:Nat):Int)) (by omega);simpa using this
theorem zav{O:Nat->Prop}{W:World}{E1:List SE}(l:Nat)(neg:Bool)(b:L8)(o:List Nat)(ho:o.length<=1000000)(x:Grp)(X:Prop)(Hx:Heap) :
  zB (some l) prog (bare f159) O 3 W E1 (λd kv' h'=>LeK 3 f159.ntmps [] h' [] (HR neg b (o++[decB x.1]))) (λ_ h'=>X/\LeK 3 f159.ntmps [] h' [] Hx) (roundOf K159 0) (mk f159.ntmps ((5,.str x.1.data.toList)::(17,.str x.1.data.toList)::KR) (HR neg b o)):=by
 obtain⟨x,hx9,hxd⟩:=x;simp only;have hxl:x.data.toList.length=x.size:=by rw [Array.length_toList]; rfl
 have hdB:decB x=numD x.data.toList:=rfl;rw [hdB];generalize x.data.toList=y at hxd hxl
 have core:zB (some l) prog (bare f159) O 3 W E1 (λd kv' h'=>LeK 3 f159.ntmps [] h' [] (HR neg b (o++[numD y]))) (λ_ h'=>X/\LeK 3 f159.ntmps [] h' [] Hx) (.code (.loop (lps (roundOf K159 0) 0).1)::(lps (roundOf K159 0) 0).2)
   (mk f159.ntmps [(2,.ptr 0 0),(3,.ptr 1 0),(5,.str y),(6,.int .u32 0),(16,.fn 210 [] [.ptr 2 0]),(17,.str y),(19,.i (y.length:Int)),(20,.i 0)] (HR neg b o)):=by
  exact zes l neg b o ho y hxd (by omega) X Hx
 cases o with
 | nil=>
  refine zc.n G3.h [2,3,5,6,16,17,19,20] (.leaf (.loop (lps (roundOf K159 0) 0).1 (lps (roundOf K159 0) 0).2 [(2,.ptr 0 0),(3,.ptr 1 0),(5,.str y),(6,.int .u32 0),(16,.fn 210 [] [.ptr 2 0]),(17,.str y),(19,.i y.length),(20,.i 0)] [.box [.bool false,.nils],.box [.bool neg,.nils],.box [.str b]])) ?_;simp only [Tree.holds,zd];exact core
 | cons d o=>
  refine zc.n G3.h [2,3,5,6,16,17,19,20] (.leaf (.loop (lps (roundOf K159 0) 0).1 (lps (roundOf K159 0) 0).2 [(2,.ptr 0 0),(3,.ptr 1 0),(5,.str y),(6,.int .u32 0),(16,.fn 210 [] [.ptr 2 0]),(17,.str y),(19,.i y.length),(20,.i 0)] [.box [.bool false,.nils],.box [.bool neg,.osl 4 1 0 (o.length+1)],.box [.str b],.arr 1 1 (natG .u32 [d]),.arr (o.length+1) 1 (natG .u32 (d::o))])) ?_;simp only [Tree.holds,zd];exact core
theorem zki(neg:Bool)(b:L8)(o:List Nat):∀ x∈HR neg b o,alive x:=by
 cases o with
 | nil=>simp [HR,alive]
 | cons d o=>simp [HR,alive]
theorem zfg{O:Nat->Prop}{w0:World}{Q:AV×Heap->Prop}(neg:Bool)(b:L8)(hb:allD b)(hb0:b≠[])(hbl:b.length<=1000000)(hq:Q (.agg [.bool neg,magS (numD b)],[])) :
  zc prog f159 O 0 w0 [] (λ_ _ _=>False) (RetR zgw 0 Q) (.code (rfs K159 0).1::(rfs K159 0).2) (mk f159.ntmps KR (HR neg b [])):=by
 let s:ByteArray:=⟨b.toArray⟩
 have hsl:s.data.toList=b:=rfl;have hss:s.size=b.length:=by simp [s,ByteArray.size]
 refine zc.range (tg:=16) (tp:=17) (td:=5) (α:=Grp) (by kernel_rfl) (cap:=[.ptr 2 0]) (enters_of Tryz.func210 (by kernel_rfl) rfl) (λx=>.str x.1.data.toList) (λpre=>HR neg b (pre.map λx=>decB x.1)) (λ_=>[]) (λ_=>False) (λxs=>xs.map (·.1)=chunks s s.size) (λpre=>pre.map (·.1) <+: chunks s s.size) (chunks s s.size).length 3
  (by kernel_rfl) (by decide +kernel) (by decide +kernel) (λx t c y h=>by cases h) ⟨by simp [KR],by simp [HR],by kernel_rfl,aI _⟩ (by kernel_rfl) (aI _) (λpre=>zki _ _ _) (λpre c hc=>by cases hc) ?_ ?_ ?_ (λ_ _ h=>h.elim)
 ·
  intro w σ a hm vb hvb;simp only [RepL] at hvb;obtain⟨v,r,rfl,hv,rfl⟩:=hvb;simp only [Rep] at hv;obtain⟨e,ad,he,had,rfl⟩:=hv
  have hcell:∀ (W:World) (Z':List SE) (o:List Nat),HRep (Go.Sx.Own O Z') W Z' (HR neg b o)->∀ e' ad,Z'[2]?=some e'->e'.ad=some ad->W.cell? ⟨ad.block,ad.off+0,none⟩=some (.string s):=by
   intro W Z' o hp e' ad he' had';have hb2:(HR neg b o)[2]?=some (.box [.str b]):=by cases o<;>rfl
   obtain⟨ad',vs,el,h1,h2,h3,h4⟩:=hp.blk 2 e' _ he' hb2;rw [had'] at h1; cases h1;simp only [RepL,Rep] at h4;obtain⟨v,r,rfl,rfl,rfl⟩:=h4;simp [World.cell?,h3,h2,s]
  refine⟨λW=>W.cell? ⟨ad.block,ad.off+0,none⟩=some (.string s),λx=>.string x.1,?_,?_,?_⟩
  ·exact Tryz.WR (λx=>x.size<=9/\allD x.data.toList) ⟨ad.block,ad.off+0,none⟩ s (zb6 s (hsl▸hb) s.size (aJ _)) (by omega) w (hcell w σ [] hm.hp e ad he had)
  ·intro pre W Z' hM;refine⟨?_,λx=>by simp [Rep]⟩;have ht:=hM.tm 16;have h16:(mk f159.ntmps KR (HR neg b (pre.map λx=>decB x.1))).tmps.getD 16 .undef = .fn 210 [] [.ptr 2 0]:=by kernel_rfl
   have ht0:=hm.tm 16;have h160:(mk f159.ntmps KR (HR neg b (([]:List Grp).map λx=>decB x.1))).tmps.getD 16 .undef = .fn 210 [] [.ptr 2 0]:=by kernel_rfl
   rw [h16] at ht;rw [h160] at ht0;simp only [TRep,Rep,RepL] at ht ht0;obtain⟨va,vb',h1,_,v,r,h2,⟨e1,ad1,h3,h4,h5⟩,h6⟩:=ht;obtain⟨va',vb2,g1,_,v',r',g2,⟨e2,ad2,g3,g4,g5⟩,g6⟩:=ht0;rw [he] at g3; cases g3;rw [had] at g4; cases g4;rw [g1] at h1;simp only [Value.func.injEq] at h1
   have h7:vb2=vb':=by
    have:=h1.2.2;simpa using this
   rw [g2,h2,g5,h5] at h7;simp only [List.cons.injEq,Value.pointer.injEq,aE] at h7;have h8:=hcell W Z' _ hM.hp e1 ad1 h3 h4;rw [<- h7.1] at h8;exact h8
  ·intro W l o o' hl ho hoc hK;exact Uq (grownBy_putObj' W l o') (λr e=>by cases e; exact⟨o,ho,hoc⟩) hK
 ·
  intro l pre x hlen W E1
  have hpl:(pre.map λx=>decB x.1).length<=1000000:=by
   have:=Wa s s.size;simp; omega
  have:=zav (O:=O) (W:=W) (E1:=E1) l neg b (pre.map λx=>decB x.1) hpl x False [];simp only [List.map_append,List.map_cons,List.map_nil];exact this
 ·
  intro xs hxs;have ho:xs.map (λx=>decB x.1)=(chunks s s.size).map decB:=by rw [<- hxs,List.map_map]; rfl
  have hv:val (xs.map λx=>decB x.1)=numD b:=by
   rw [ho,zad s s.size (aJ _),bF (by rw [Array.length_toList]; exact aJ _)]
  have hdg:dig (xs.map λx=>decB x.1):=by
   intro d hd;obtain⟨x,_,rfl⟩:=List.mem_map.1 hd;exact znw x.2.2 x.2.1
  have hpos:0<s.size:=by rw [hss]; exact List.length_pos_iff.2 hb0
  have hle:(xs.map λx=>decB x.1).length<=1000000:=by
   rw [ho,List.length_map];have:=Wa s s.size;omega
  have hne:xs.map (λx=>decB x.1)≠[]:=by
   rw [ho,k9 s hpos]; simp
  generalize xs.map (λx=>decB x.1)=l at hv hdg hle hne;cases l with
  | nil=>exact absurd rfl hne
  | cons d o=>
   simp only [aL] at hle;refine zc.n G3.h [2,3,5,6,16,17,19,20] (let v2:=o.length+1;.ex (λ(u:List Nat)=>u.length=o.length+1/\0+(o.length+1)<=o.length+1/\o.length+1<4611686018427387904/\eqG v2 1 (natG .u32 (d::o)) (natG .u32 u)/\dig (List.take v2 (List.drop 0 u))) λn=>.all (λ(x:Nat)=>x=val (List.take v2 (List.drop 0 n))) λn=>let v1:List AV:=[.bool neg,.osl 4 1 0 (canon n).length];.R [.agg v1] [.box v1,.box v1,.box [.str b],.arr 1 1 (natG .u32 [d]),.arr v2 1 (natG .u32 (d::o))]) ?_;simp only [Tree.holds,zd];have htk:(List.take (o.length+1) (List.drop 0 (d::o)))=d::o:=by simp
   refine⟨d::o,⟨rfl,by omega,by omega,za _ _ _,by rw [htk]; exact hdg⟩,⟨_,rfl⟩,?_⟩;intro X hX;have hX:X=numD b:=by rw [htk,hv] at hX; exact hX
   subst hX;refine RetR.out0 hq (λh=>by cases h) ?_;simp only [resV,exp2,exp1,List.map_cons,List.map_nil,exp0,ren0,zG,frz1,wg,List.getElem?_cons_zero,List.getElem?_cons_succ,if_true,eqA2,eqA,eqL0,eqA0,magS,natS,true_and,and_true];exact jX (u:=d::o) (off:=0) (n:=o.length+1) (by simpa using hdg) (by simpa using hv)
theorem zot:zf prog 159 zgw:=by
 refine zh' f159 λp hp O w0 Q hq=> ?_
 obtain⟨neg,b⟩:=p;obtain⟨hb,hb0,hbl⟩:=hp;replace hq:=hq _ rfl;simp only at hb hb0 hbl hq;obtain⟨s,hs⟩:∃ s,sgn neg b=s:=⟨_,rfl⟩;simp only [hs];refine zc.n G3.h [2,3,5,6,16,17,19,20] (let v2:=rfs K159 0;let v1:List (Nat×AV):=[(2,.ptr 0 0),(3,.ptr 1 0),Z 5,Z 6,(16,.fn 210 [] [.ptr 2 0]),Z 17,Z 19,Z 20];.side ((0:Int)<=0/\(0:Int)<s.length) (.D ((↑(UInt8.toNat (s.getD 0 (0:UInt8))):Int)=45) (.side ((0:Int)<=1/\(1:Int)<=s.length) (.ex (λ(x:L8)=>eqL [.str (List.drop 1 (List.take s.length s))] [.str x]/\eqH [] []/\0=0/\True) λn=>.A λn_1=>.leaf (.range v2.1 v2.2 v1 [.box [.bool false,.nils],.box [.bool true,.nils],.box [.str n]]))) (.ex (λ(x:L8)=>eqL [.str s] [.str x]/\eqH [] []/\0=0/\True) λn=>.A λn_1=>.leaf (.range v2.1 v2.2 v1 [.box [.bool false,.nils],.box [.bool false,.nils],.box [.str n]])))) ?_;subst hs;have hmain:=zfg (O:=O) (w0:=w0) neg b hb hb0 hbl hq;obtain⟨c,b',rfl⟩:=List.exists_cons_of_ne_nil hb0;have hc:=hb c (by simp);simp only [Tree.holds,zd];cases neg with
 | true=>
  simp only [sgn,if_true];refine⟨by simp; omega,λ_=>⟨λ_=>⟨by simp; omega,λ_=> ?_⟩,λh=>by simp at h⟩⟩;refine⟨c::b',⟨by simp,by simp,by simp⟩,⟨(),trivial⟩,λ_ _=>hmain⟩
 | false=>
  simp only [sgn,Bool.false_eq_true,if_false];refine⟨by simp,λ_=>⟨λh=> ?_,λ_=> ?_⟩⟩
  ·simp at h; omega
  ·refine⟨c::b',⟨by simp,by simp,by simp⟩,⟨(),trivial⟩,λ_ _=>hmain⟩
noncomputable def K166:=Go.Sx.aA f166
noncomputable def K129:=Go.Sx.aA f129
def wJ(l:List Nat)(n i:Nat):List Nat:=(List.range l.length).map λp=>if p<n/\(p<i\/n - i<=p) then l.getD (n - 1 - p) 0 else l.getD p 0
theorem ZT(l:List Nat)(n i:Nat):(wJ l n i).length=l.length:=by simp [wJ]
theorem Kb{l:List Nat}{n i p:Nat}(h:p<l.length):(wJ l n i).getD p 0=if p<n/\(p<i\/n - i<=p) then l.getD (n - 1 - p) 0 else l.getD p 0:=by
 simp [wJ,List.getD,h]
theorem Uj(l:List Nat)(n:Nat):wJ l n 0=l:=by
 apply List.ext_getElem (by simp [wJ]);intro p h1 h2;simp only [wJ,List.getElem_map,List.getElem_range];rw [aO (by omega)]; simp [h2]
theorem za7{l:List Nat}{n i:Nat}(hn:n<=l.length)(hi2:i<n - 1 - i):((wJ l n i).set i ((wJ l n i).getD (n - 1 - i) 0)).set (n - 1 - i) ((wJ l n i).getD i 0)=wJ l n (i+1):=by
 rw [Kb (by omega),Kb (by omega),aO (by omega),aO (by omega)];apply List.ext_getElem (by simp [wJ]);intro p h1 h2;rw [ZT] at h2;simp only [List.getElem_set,wJ,List.getElem_map,List.getElem_range];by_cases ha:n - 1 - i=p
 ·rw [aP ha,aP (by omega)]; congr 1; omega
 ·rw [aO ha];by_cases hb:i=p
  ·subst hb; rw [aP rfl,aP (by omega)]
  ·rw [aO hb];by_cases hc:p<n/\(p<i\/n - i<=p)
   ·rw [aP hc,aP (by omega)]
   ·rw [aO hc,aO (by omega)]
theorem zfp{l:List Nat}{n i:Nat}(hn:n<=l.length)(hi2:n - 1 - i<=i):wJ l n i=(l.take n).reverse++l.drop n:=by
 apply List.ext_getElem (by simp [wJ]; omega);intro p h1 h2;rw [ZT] at h1;simp only [wJ,List.getElem_map,List.getElem_range];have hl:(l.take n).reverse.length=n:=by simp; omega
 by_cases ha:p<n
 ·rw [List.getElem_append_left (by omega),List.getElem_reverse,List.getElem_take];have e:(l.take n).length - 1 - p=n - 1 - p:=by simp; omega
  simp only [e];by_cases hc:p<i\/n - i<=p
  ·rw [aP ⟨ha,hc⟩]; simp [show n - 1 - p<l.length by omega]
  ·rw [aO (λh=>hc h.2)];have:n - 1 - p=p:=by omega
   simp [this,h1]
 ·rw [aO (λh=>ha h.1),List.getElem_append_right (by omega)];simp only [hl,List.getElem_drop];have:n+(p - n)=p:=by omega
  simp [this,h1]
def Wj:Ctr:=ctrT false false (λp:List Nat×Nat=>[.osl 0 1 0 p.2]) (λp=>[.arr p.1.length 1 (natG .u8 p.1)]) (λp=>p.2<=p.1.length/\p.1.length<2^62) (λ_ (_:Unit)=>True) (λp _=>(.tup [],[.arr p.1.length 1 (natG .u8 ((p.1.take p.2).reverse++p.1.drop p.2))]))
def SV(n i:Nat):KV:=[(0,.osl 0 1 0 n),(2,.i (i:Int)),(3,.i ((n:Int) - 1 - i))]
theorem UU:zf prog 166 Wj:=by
 refine zP (fn:=f166) (c:=f166.body.getD .skip) rfl rfl rfl (λh=>by cases h) λp hp O w0 I0 Q hl0 hq=> ?_
 obtain⟨l,n⟩:=p;obtain⟨hn,hl⟩:=hp;replace hq:=hq () trivial;simp only at hn hl hq;refine zc.n zH [0,2,3] (Tree.side (inR IntKind.i64 ((n:Int) - (1:Int))) (Tree.leaf (qa.loop (Prod.fst (lps K166 (0:Nat))) (Prod.snd (lps K166 (0:Nat))) [((0:Nat),AV.osl (0:Nat) (1:Nat) (0:Nat) n),((2:Nat),AV.i 0),((3:Nat),AV.i (n-1))] [Blk.arr l.length (1:Nat) (natG .u8 l)]))) ?_;simp only [Tree.holds,zd,inR,lo,hi];refine⟨by omega,λ_=> ?_⟩;refine zc.loop (ι:={i:Nat // i<=n}) (λi=>SV n i.1) (λi=>[.arr l.length 1 (natG .u8 (wJ l n i.1))]) (λi=>n - i.1) ⟨0,aI _⟩ 0 ?_ ?_ (by kernel_rfl)
 ·exact⟨by simp [SV],by simp [Uj,za],by kernel_rfl,aJ _⟩
 ·rintro⟨i,hin⟩;obtain⟨u,hu⟩:∃ u,wJ l n i=u:=⟨_,rfl⟩;have hul:u.length=l.length:=by rw [<- hu,ZT]
  simp only [hu,<- hul];refine zc.n zH [0,2,3] (Tree.ite (decide ((i:Int)<(n:Int) - (1:Int) - (i:Int))) (Tree.side ((0:Int)<=(n:Int) - (1:Int) - (i:Int)/\(n:Int) - (1:Int) - (i:Int)<(n:Int)) (Tree.side ((0:Int)<=(i:Int)/\(i:Int)<(n:Int)) (Tree.side ((0:Int)<=(i:Int)/\(i:Int)<(n:Int)) (Tree.side ((0:Int)<=(n:Int) - (1:Int) - (i:Int)/\(n:Int) - (1:Int) - (i:Int)<(n:Int)) (Tree.side (inR IntKind.i64 ((i:Int)+(1:Int))) (Tree.side (inR IntKind.i64 ((n:Int) - (1:Int) - (i:Int) - (1:Int))) (Tree.leaf (qa.back (0:Nat) [((0:Nat),AV.osl (0:Nat) (1:Nat) (0:Nat) n),((2:Nat),AV.i (i+1)),((3:Nat),AV.i (n-1-i-1))] [Blk.arr u.length (1:Nat) (updG (updG (natG .u8 u) ((0:Nat)+Int.toNat i) (0:Nat) [.int .u8 ↑(u.getD ((0:Nat)+Int.toNat (n-1-i)) (0:Nat))]) ((0:Nat)+Int.toNat (n-1-i)) (0:Nat) [.int .u8 ↑(u.getD ((0:Nat)+Int.toNat i) (0:Nat))])])))))))) (Tree.leaf (qa.ret [] [Blk.arr u.length (1:Nat) (natG .u8 u)]))) ?_;simp only [Tree.holds,zd,inR,lo,hi,aD];refine⟨λhlt=> ?_,λhge=> ?_⟩
  ·have hlt:i<n - 1 - i:=by simp at hlt; omega
   have ej:((n:Int) - 1 - i).toNat=n - 1 - i:=by omega
   rw [ej]
   iterate 6 refine⟨by omega,λ_=> ?_⟩
   rw [aP trivial];have hs:=za7 (l:=l) hn hlt;rw [hu] at hs;refine⟨⟨i+1,by omega⟩,by show n - (i+1)<n - i; omega,by simp [SV]; omega,?_,by kernel_rfl,aJ _⟩;rw [<- hs];refine⟨⟨rfl,rfl,?_⟩,trivial⟩;have h1:=kG (k:=.u8) (l:=u) (v:=(u.getD (n - 1 - i) 0:Nat)) (i:=i) (by omega) (by omega);have h2:=kG (k:=.u8) (l:=u.set i (u.getD (n - 1 - i) 0)) (v:=(u.getD i 0:Nat)) (i:=n - 1 - i) (by omega) (by simp; omega);simp only [List.length_set,aD] at h1 h2;refine ZM ?_ h2;intro p o hp ho;have:=h1 p o hp ho;simp only [updG,Nat.zero_add] at this ⊢;split
   ·rfl
   ·exact this
  ·have hge:n - 1 - i<=i:=by simp at hge; omega
   have hr:=zfp (l:=l) hn hge;rw [hu] at hr;refine⟨[0],rfl,by simp,by simp,by simp [Wj,ctrT],.tup [],_,qW (by simp [resV,exp2,eqA2,eqL1]),.inl ?_,rfl,hq⟩;simp [expH,expB,hr,za];omega
def kN(neg:Bool)(x:Nat):Blk:=.box [.bool neg,magS x]
def SW(x i n:Nat):KV:=[(1,.ptr 0 0),(4,.osl 1 1 0 n),Z 6,(12,magS x),(13,.i ((canon x).length:Int)),(14,.i (i:Int)),Z 18]
def SW2(x i n g k:Nat):KV:=[(1,.ptr 0 0),(4,.osl 1 1 0 n),(6,.int .u32 (g:Int)),(12,magS x),(13,.i ((canon x).length:Int)),(14,.i (i:Int)),(18,.i (k:Int))]
noncomputable def G4:=tb UU tz
theorem Wt(k:IntKind)(l:List Nat)(n:Nat)(hn:n<=l.length):ya n (zg (natG k l) 0)=(l.take n).map UInt8.ofNat:=by
 apply List.ext_getElem (by simp [ya]; omega);intro j h1 h2;have hj:j<n:=by simpa [ya] using h1
 simp [ya,zg,natG,Sx.byteOf,show j<l.length by omega]
def wb(x i:Nat):List Nat:=(decs (9*i) (val ((canon x).take i))).map (48 + ·)
theorem KU(x i:Nat):(wb x i).length=9*i:=by simp [wb,Zz]
theorem zdd(i:Nat):B^i=10^(9*i):=by rw [Nat.pow_mul]
theorem zme{x i:Nat}(h:i<(canon x).length):wb x i++(decs 9 ((canon x).getD i 0)).map (48 + ·)=wb x (i+1):=by
 have h1:=qG (jQ (zj x) i);rw [aH,Nat.min_eq_left (by omega),zdd] at h1;simp only [wb];rw [<- List.map_append,<- Qz _ _ _ _ h1,zt,zdd];rfl
theorem zau(x:Nat):wb x (canon x).length=(dec x).map (48 + ·)++List.replicate (9*(canon x).length - (dec x).length) 48:=by
 have h:x<10^(9*(canon x).length):=by
  have:=qG (zj x)
  rwa [zl,zdd] at this
 simp only [wb,bD,zl,ziz h,Ten.padN,List.map_append,List.map_replicate,dec]
def JH:Ctr:=ctrP true (λp:Bool×Nat=>[.agg [.bool p.1,magS p.2]]) (λp=>(canon p.2).length<1000000) (λp r=>r=wr p.1 p.2) (λ_ r=>(.tup [.str r.1,.i r.2],[]))
abbrev q14(A:List AV)(H:Heap)(x:List Nat×Nat):Prop:=eqL A [.osl (0:Nat) (1:Nat) (0:Nat) x.2]/\eqH H [Blk.arr x.1.length (1:Nat) (natG .u8 x.1)]/\(1:Nat)=(1:Nat)/\Prod.snd x<=List.length x.1/\List.length x.1<(4611686018427387904:Nat)
theorem zf1{O:Nat->Prop}{w0:World}{Q:AV×Heap->Prop}{Hs:Nat->KV->Heap->Prop}(neg:Bool)(x:Nat)(hx:(canon x).length<1000000)(hx0:x≠0)(hq:Q (.tup [.str (wr neg x).1,.i (wr neg x).2],[]))(b:List Nat)(hb:b=wb x (canon x).length) :
  zc prog f129 O 0 w0 [] Hs (RetR JH 0 Q) (.code (.loop (lps (inside K129 0) 1).1)::(lps (inside K129 0) 1).2) (mk f129.ntmps (SW x (canon x).length b.length) [kN neg x,.arr b.length 1 (natG .u8 b)]):=by
 have hdl:=Xd hx0
 have hle:(dec x).length<=9*(canon x).length:=by
  have:=qG (zj x);rw [zl,zdd] at this;exact QX this
 have hbl:b.length=9*(canon x).length:=by rw [hb,KU]
 have hget:∀ p,p<b.length->b.getD p 0=48+(dec x).getD p 0:=by
  intro p hp;rw [hb,zau];by_cases h:p<(dec x).length
  ·rw [uA (by simpa using h),zdz (z:=0) h]
  ·rw [JK (by simpa using Nat.le_of_not_lt h),zlb (by simp; omega),zgk (Nat.le_of_not_lt h)]
 have htake:b.take (dec x).length=(dec x).map (48 + ·):=by
  rw [hb,zau,List.take_append_of_le_length (by simp),bF (by simp)]
 refine zc.loop (ι:={n:Nat // (dec x).length<=n/\n<=b.length}) (λn=>SW x (canon x).length n.1) (λ_=>[kN neg x,.arr b.length 1 (natG .u8 b)]) (λn=>n.1) ⟨b.length,by omega,aJ _⟩ 0 ?_ ?_ (by kernel_rfl)
 ·exact⟨by simp [SW,magS,natS,za],by simp [kN,magS,natS,za],by kernel_rfl,aI _⟩
 ·rintro⟨n,hn1,hn2⟩;obtain⟨L,hL⟩:∃ L,(canon x).length=L:=⟨_,rfl⟩;simp only [hL];refine zc.n G4.h [1,4,6,12,13,14,18] (let v6:=natG .u8 b;let v5:=zi (1:Nat) [.int .u8 45];let v4:=inR IntKind.i64 ((n:Int) - (1:Int));let v1:=[AV.bool neg,AV.sl (canon x).length (1:Nat) (natG .u32 (canon x))];Tree.side v4 (Tree.side ((0:Int)<=(n:Int) - (1:Int)/\(n:Int) - (1:Int)<(n:Int)) (Tree.ite (decide ((↑(b.getD ((0:Nat)+Int.toNat (n-1)) (0:Nat)):Int)=(48:Int))) (Tree.side v4 (Tree.side ((0:Int)<=(n:Int) - (1:Int)/\(n:Int) - (1:Int)<=(n:Int)) (Tree.leaf (qa.back (0:Nat) [((1:Nat),AV.ptr (0:Nat) (0:Nat)),((4:Nat),AV.osl (1:Nat) (1:Nat) (0:Nat) (Int.toNat (n-1) - (0:Nat))),((6:Nat),AV.undef),((12:Nat),AV.sl (canon x).length (1:Nat) (natG .u32 (canon x))),((13:Nat),AV.i (canon x).length),((14:Nat),AV.i L),((18:Nat),AV.undef)] [Blk.box v1,Blk.arr b.length (1:Nat) v6])))) (Tree.ite (decide ((1000:Int)<(n:Int))) (Tree.leaf (qa.ret [.str #[].toList,.i 14] [Blk.box v1,Blk.arr b.length (1:Nat) v6])) (Tree.ite neg (Tree.side ((0:Nat)=(0:Nat)/\n<=List.length b/\(n+(1:Nat))*(1:Nat)<=(140737488355328:Nat)) (Tree.ex (q14 [.osl (0:Nat) (1:Nat) (0:Nat) (n+(1:Nat))] [Blk.arr (n+(1:Nat)) (1:Nat) (appG n v6 (zg v5 (0:Nat)))]) λ(n_1:List Nat×Nat)=>let v2:=List.reverse (List.take n_1.2 n_1.1)++List.drop n_1.2 n_1.1;Tree.A λ(n_2:Unit)=>Tree.side (∀ (j:Nat),j<n+(1:Nat)->∃ (b:UInt8),AV.int .u8 ↑(List.getD v2 ((0:Nat)+j) (0:Nat))=AV.int .u8 ↑(UInt8.toNat b)) (Tree.leaf (qa.ret [.str (ya (n+(1:Nat)) (zg (natG .u8 v2) (0:Nat))),.i 0] [Blk.box v1,Blk.arr n_1.1.length (1:Nat) (natG .u8 v2),Blk.arr (1:Nat) (1:Nat) v5])))) (Tree.ex (q14 [.osl (0:Nat) (1:Nat) (0:Nat) n] [Blk.arr b.length (1:Nat) v6]) λ(n_1:List Nat×Nat)=>let v3:=List.reverse (List.take n_1.2 n_1.1)++List.drop n_1.2 n_1.1;Tree.A λ(n_2:Unit)=>Tree.side (∀ (j:Nat),j<n->∃ (b:UInt8),AV.int .u8 ↑(List.getD v3 ((0:Nat)+j) (0:Nat))=AV.int .u8 ↑(UInt8.toNat b)) (Tree.leaf (qa.ret [.str (ya n (zg (natG .u8 v3) (0:Nat))),.i 0] [Blk.box v1,Blk.arr n_1.1.length (1:Nat) (natG .u8 v3)])))))))) ?_;have e1:((n:Int) - 1).toNat=n - 1:=by omega
  have e2:0+(n - 1)=n - 1:=by omega
  have e3:n - 1 - 0=n - 1:=by omega
  simp only [Tree.holds,zd,inR,lo,hi,e1,e2,e3];have hg:=hget (n - 1) (by omega);rw [hg]
  iterate 2 refine⟨by omega,λ_=> ?_⟩
  refine⟨λhz=> ?_,λhnz=>⟨λhbig=> ?_,λhsm=> ?_⟩⟩
  ·have hz:(dec x).getD (n - 1) 0=0:=by simp at hz ⊢; omega
   have hne:n≠(dec x).length:=by
    rintro rfl;exact zcq hdl hz
   iterate 2 refine⟨by omega,λ_=> ?_⟩
   rw [aP trivial];exact⟨⟨n - 1,by omega,by omega⟩,by show n - 1<n; omega,by simp [SW,magS,natS,za],by simp [kN,magS,natS,za],by kernel_rfl,aI _⟩
  ·have hn:n=(dec x).length:=by
    rcases aR (dec x).length n with h | h
    ·have:(dec x).getD (n - 1) 0=0:=by simp [List.getD,aZ (show(dec x).length<=n - 1 by omega)]
     rw [this] at hnz; simp at hnz
    ·omega
   subst hn;have hbig:1000<(dec x).length:=by simp at hbig; omega
   simp only [wr,aO hx0,aP hbig] at hq;exact RetR.scal hq rfl rfl
  ·have hn:n=(dec x).length:=by
    rcases aR (dec x).length n with h | h
    ·have:(dec x).getD (n - 1) 0=0:=by simp [List.getD,aZ (show(dec x).length<=n - 1 by omega)]
     rw [this] at hnz; simp at hnz
    ·omega
   subst hn;have hsm:¬ 1000<(dec x).length:=by simp at hsm; omega
   simp only [wr,aO hx0,aO hsm] at hq
   have hbyte:∀ (l:List Nat) (k:Nat),(∀ d∈l,d<256)->∀ j,j<k->∃ c:UInt8,AV.int .u8 ((l.getD (0+j) 0:Nat):Int) = .int .u8 (c.toNat:Int):=by
    intro l k hl j hj;rw [Nat.zero_add]
    have:l.getD j 0<256:=by
     by_cases h:j<l.length
     ·have:=hl l[j] (bK h);simpa [List.getD,h] using this
     ·simp [List.getD,aZ (Nat.le_of_not_lt h)]
    refine⟨UInt8.ofNat (l.getD j 0),?_⟩;simp only [AV.int.injEq,true_and];rw [UInt8.toNat_ofNat',Nat.mod_eq_of_lt this]
   have hb256:∀ d∈b,d<256:=by
    intro d hd;rw [hb,zau] at hd;rcases cA.1 hd with hd | hd
    ·obtain⟨y,hy,rfl⟩:=List.mem_map.1 hd;have:=Ten.zj x y hy;simp only [Ten.B] at this;omega
    ·have:=(List.mem_replicate.1 hd).2; omega
   have htx:((b.take (dec x).length).reverse).map UInt8.ofNat=txt x:=by
    rw [htake,txt,aO hx0,List.map_reverse,List.map_map]; rfl
   refine⟨λhneg=> ?_,λhneg=> ?_⟩
   ·subst hneg;refine⟨⟨trivial,hn2,by omega⟩,λ_=> ?_⟩;have hal:(b.take (dec x).length++[45]).length=(dec x).length+1:=by simp; omega
    refine⟨(b.take (dec x).length++[45],(dec x).length+1),⟨by simp,?_,by simp,by simp only [hal]; omega,by simp only [hal]; omega⟩,⟨(),trivial⟩,λ_ _=>⟨?_,λ_=> ?_⟩⟩
    ·simp only [eqH,eqB,hal];refine⟨⟨trivial,trivial,?_⟩,trivial⟩;intro j o hj ho;have:o=0:=by omega
     subst this;simp only [appG,zg,zi,natG];have hl:(b.take (dec x).length).length=(dec x).length:=by simp; omega
     by_cases h:j<(dec x).length
     ·rw [aP h,uA (by omega),zci h]
     ·have:j=(dec x).length:=by omega
      subst this;rw [aO (by omega),JK (by omega),hl,Nat.sub_self];rfl
    ·refine hbyte _ _ ?_;intro d hd;simp only [cA,List.mem_reverse] at hd;rcases hd with hd | hd
     ·have:=List.mem_of_mem_take hd;rcases cA.1 this with h | h
      ·exact hb256 d (List.mem_of_mem_take h)
      ·simp at h; omega
     ·have:=List.mem_of_mem_drop hd;rcases cA.1 this with h | h
      ·exact hb256 d (List.mem_of_mem_take h)
      ·simp at h; omega
    ·refine RetR.scal hq rfl ?_;simp only [resV];rw [Wt _ _ _ (by simp; omega)];have ht:List.take ((dec x).length+1) (b.take (dec x).length++[45])=b.take (dec x).length++[45]:=bF (by omega);rw [ht,List.take_append_of_le_length (by simp; omega),bF (by simp; omega),List.reverse_append,List.map_append,htx];simp [sgn]
   ·subst hneg;refine⟨(b,(dec x).length),⟨by simp,by simp [za],by simp,hn2,by simp only [hbl]; omega⟩,⟨(),trivial⟩,λ_ _=>⟨?_,λ_=> ?_⟩⟩
    ·refine hbyte _ _ ?_;intro d hd;simp only [cA,List.mem_reverse] at hd;rcases hd with hd | hd
     ·exact hb256 d (List.mem_of_mem_take hd)
     ·exact hb256 d (List.mem_of_mem_drop hd)
    ·refine RetR.scal hq rfl ?_;simp only [resV];have hrl:((b.take (dec x).length).reverse).length=(dec x).length:=by simp; omega
     rw [Wt _ _ _ (by rw [bO,hrl]; omega),List.take_append_of_le_length (by omega),bF (by omega),htx];simp [sgn]
theorem Ww:zf prog 129 JH:=by
 refine zh' f129 λp hp O w0 Q hq=> ?_
 obtain⟨neg,x⟩:=p;replace hq:=hq _ rfl;simp only at hp hq;refine zc.n G4.h [1,4,6,12,13,14,18] (let v1:=[AV.bool neg,AV.sl (canon x).length (1:Nat) (natG .u32 (canon x))];Tree.ite (decide (((canon x).length:Int)=(0:Int))) (Tree.leaf (qa.ret [.str #[(48:UInt8)].toList,.i 0] [Blk.box v1])) (Tree.leaf (qa.loop (Prod.fst (lps K129 (0:Nat))) (Prod.snd (lps K129 (0:Nat))) [((1:Nat),AV.ptr (0:Nat) (0:Nat)),((4:Nat),AV.nils),((6:Nat),AV.undef),((12:Nat),AV.sl (canon x).length (1:Nat) (natG .u32 (canon x))),((13:Nat),AV.i (canon x).length),((14:Nat),AV.i 0),((18:Nat),AV.undef)] [Blk.box v1]))) ?_;simp only [Tree.holds,zd,inR,lo,hi];refine⟨λh0=> ?_,λh0=> ?_⟩
 ·have h0:x=0:=by
   rcases bC x with h | h
   ·exact h
   ·have:=jU (x:=x) (n:=0) (by simp; omega);simp at h0; rw [h0] at this; simp at this
  subst h0;refine RetR.scal hq rfl ?_;simp [resV,wr]
 ·have hx0:x≠0:=by
   rintro rfl;simp [zS] at h0
  refine zc.bear 4 1 (natG .u8 []) (by kernel_rfl) (by decide +kernel) (by kernel_rfl) ?_;refine zc.loop (ι:={i:Nat // i<=(canon x).length}) (λi=>SW x i.1 (wb x i.1).length) (λi=>[kN neg x,.arr (wb x i.1).length 1 (natG .u8 (wb x i.1))]) (λi=>(canon x).length - i.1) ⟨0,aI _⟩ 0 ?_ ?_ (by kernel_rfl)
  ·exact⟨by simp [yR,SW,magS,natS,za,KU],by simp [kN,magS,natS,za,KU,eqG],by kernel_rfl,aI _⟩
  ·rintro⟨i,hil⟩;obtain⟨b,hb⟩:∃ b,wb x i=b:=⟨_,rfl⟩;simp only [hb];refine zc.n G4.h [1,4,6,12,13,14,18] (let v3:=natG .u32 (canon x);let v2:=inside K129 (0:Nat);let v1:=[AV.bool neg,AV.sl (canon x).length (1:Nat) v3];Tree.ite (decide ((i:Int)<((canon x).length:Int))) (Tree.side ((0:Int)<=(i:Int)/\(i:Int)<((canon x).length:Int)) (Tree.leaf (qa.loop (Prod.fst (lps v2 (0:Nat))) (Prod.snd (lps v2 (0:Nat))) [((1:Nat),AV.ptr (0:Nat) (0:Nat)),((4:Nat),AV.osl (1:Nat) (1:Nat) (0:Nat) b.length),((6:Nat),AV.int .u32 ↑(List.getD (canon x) (i:Int).toNat (0:Nat))),((12:Nat),AV.sl (canon x).length (1:Nat) v3),((13:Nat),AV.i (canon x).length),((14:Nat),AV.i i),((18:Nat),AV.i 0)] [Blk.box v1,Blk.arr b.length (1:Nat) (natG .u8 b)]))) (Tree.leaf (qa.loop (Prod.fst (lps v2 (1:Nat))) (Prod.snd (lps v2 (1:Nat))) [((1:Nat),AV.ptr (0:Nat) (0:Nat)),((4:Nat),AV.osl (1:Nat) (1:Nat) (0:Nat) b.length),((6:Nat),AV.undef),((12:Nat),AV.sl (canon x).length (1:Nat) v3),((13:Nat),AV.i (canon x).length),((14:Nat),AV.i i),((18:Nat),AV.undef)] [Blk.box v1,Blk.arr b.length (1:Nat) (natG .u8 b)]))) ?_;simp only [Tree.holds,zd,inR,lo,hi,aD];refine⟨λhlt=>⟨by simp at hlt; omega,λ_=> ?_⟩,λhge=> ?_⟩
   ·have hlt:i<(canon x).length:=by simp at hlt; omega
    obtain⟨g,hg⟩:∃ g,(canon x).getD i 0=g:=⟨_,rfl⟩;have hgB:g<1000000000:=hg▸zU (zj x) i;have hstep:=zme hlt;have hbl:b.length=9*i:=by rw [<- hb,KU]
    rw [hb,hg] at hstep;rw [hg];refine zc.loop (ι:={k:Nat // k<=9}) (λk=>SW2 x i (b++(decs k.1 g).map (48 + ·)).length (g/10^k.1) k.1) (λk=>[kN neg x,.arr (b++(decs k.1 g).map (48 + ·)).length 1 (natG .u8 (b++(decs k.1 g).map (48 + ·)))]) (λk=>9 - k.1) ⟨0,aI _⟩ 1 ?_ ?_ (by kernel_rfl)
    ·exact⟨by simp [SW2,magS,natS,za,decs],by simp [kN,magS,natS,za,decs],by kernel_rfl,aI _⟩
    ·rintro⟨k,hk⟩;obtain⟨c,hc⟩:∃ c,b++(decs k g).map (48 + ·)=c:=⟨_,rfl⟩;obtain⟨q,hqv⟩:∃ q,g/10^k=q:=⟨_,rfl⟩;have hqB:q<1000000000:=by rw [<- hqv]; exact Nat.lt_of_le_of_lt (Nat.div_le_self _ _) hgB
     have hcl:c.length=9*i+k:=by rw [<- hc]; simp [Zz,hbl]
     have hnext:b++(decs (k+1) g).map (48 + ·)=c++[48+q%10]:=by
      rw [Vk,List.map_append,<- List.append_assoc,hc,hqv]; rfl
     have hqn:g/10^(k+1)=q/10:=by rw [Nat.pow_succ,<- Nat.div_div_eq_div_mul,hqv]
     simp only [hc,hqv];refine zc.n G4.h [1,4,6,12,13,14,18] (let v5:=Int.tdiv (q:Int) (10:Int);let v4:=natG .u32 (canon x);let v3:=List.length c+(1:Nat);let v2:=zi (1:Nat) [.int .u8 ((48:Int)+Int.tmod (q:Int) (10:Int))];let v1:=[AV.bool neg,AV.sl (canon x).length (1:Nat) v4];Tree.ite (decide ((k:Int)<(9:Int))) (Tree.side ((10:Int)≠(0:Int)) (Tree.side (inR IntKind.u32 ((48:Int)+Int.tmod (q:Int) (10:Int))) (Tree.side (inR IntKind.u8 ((48:Int)+Int.tmod (q:Int) (10:Int))) (Tree.side ((0:Nat)=(0:Nat)/\List.length c<=List.length c/\v3 *(1:Nat)<=(140737488355328:Nat)) (Tree.side ((10:Int)≠(0:Int)/\inR IntKind.u32 v5) (Tree.side (inR IntKind.i64 ((k:Int)+(1:Int))) (Tree.leaf (qa.back (1:Nat) [((1:Nat),AV.ptr (0:Nat) (0:Nat)),((4:Nat),AV.osl (1:Nat) (1:Nat) (0:Nat) v3),((6:Nat),AV.int .u32 v5),((12:Nat),AV.sl (canon x).length (1:Nat) v4),((13:Nat),AV.i (canon x).length),((14:Nat),AV.i i),((18:Nat),AV.i (k+1))] [Blk.box v1,Blk.arr v3 (1:Nat) (appG c.length (natG .u8 c) (zg v2 (0:Nat))),Blk.arr (1:Nat) (1:Nat) v2])))))))) (Tree.side (inR IntKind.i64 ((i:Int)+(1:Int))) (Tree.leaf (qa.back (0:Nat) [((1:Nat),AV.ptr (0:Nat) (0:Nat)),((4:Nat),AV.osl (1:Nat) (1:Nat) (0:Nat) c.length),((6:Nat),AV.int .u32 q),((12:Nat),AV.sl (canon x).length (1:Nat) v4),((13:Nat),AV.i (canon x).length),((14:Nat),AV.i (i+1)),((18:Nat),AV.i k)] [Blk.box v1,Blk.arr c.length (1:Nat) (natG .u8 c)])))) ?_;have e10:(10:Int)=((10:Nat):Int):=rfl;have em:Int.tmod (q:Int) 10=((q%10:Nat):Int):=by rw [e10,zca]
     have ed:Int.tdiv (q:Int) 10=((q/10:Nat):Int):=by rw [e10,zbp]
     simp only [Tree.holds,zd,inR,lo,hi,em,ed];refine⟨λhlt2=> ?_,λhge2=> ?_⟩
     ·have hlt2:k<9:=by simp at hlt2; omega
      refine⟨by decide,λ_=>⟨by omega,λ_=>⟨by omega,λ_=>⟨⟨trivial,aJ _,by omega⟩,λ_=>⟨⟨by decide,by omega,by omega⟩,λ_=>⟨by omega,λ_=> ?_⟩⟩⟩⟩⟩⟩;rw [aP trivial];refine⟨⟨k+1,by omega⟩,by show 9 - (k+1)<9 - k; omega,?_,?_,by kernel_rfl,aI _⟩
      ·simp [SW2,hnext,hqn,magS,natS,za]
      ·simp only [hnext];refine⟨by simp [kN,magS,natS,za],⟨by simp,rfl,?_⟩,trivial⟩;have:=uS (k:=.u8) (l:=c) (v:=48+((q%10:Nat):Int)) (by omega);rw [show(48+((q%10:Nat):Int)).toNat=48+q%10 by omega] at this;exact this
     ·have hge2:k=9:=by simp at hge2; omega
      subst hge2;refine⟨by omega,λ_=> ?_⟩;rw [aO (by decide),aP trivial];have hcw:c=wb x (i+1):=by rw [<- hc,hstep]
      exact⟨⟨i+1,hlt⟩,by show _ - (i+1)<_ - i; omega,by simp [SW,hcw,magS,natS,za],by simp [hcw,kN,magS,natS,za],by kernel_rfl,aI _⟩
   ·have hge:i=(canon x).length:=by simp at hge; omega
    subst hge;exact zf1 neg x hp hx0 hq b hb.symm
noncomputable def K84:=Go.Sx.aA f84
noncomputable def K85:=Go.Sx.aA f85
theorem Ws(c:UInt8):(if decide ((c.toNat:Int)<48)=true then true else decide (57<(c.toNat:Int))) = !isD c:=by
 simp only [isD];by_cases h:c.toNat<48
 ·rw [aP (by simp; omega)]; simp; omega
 ·rw [aO (by simp; omega)];by_cases h2:c.toNat<=57
  ·have:decide (57<(c.toNat:Int))=false:=by simp; omega
   rw [this]; simp; omega
  ·have:decide (57<(c.toNat:Int))=true:=by simp; omega
   rw [this]; simp; omega
def J8:Ctr:=ctrP true (λs:L8=>[.str s]) (λs=>s.length<2^62) (λs r=>r=errI s) (λ_ r=>(.i r,[]))
def SCk(b:L8)(i:Nat):KV:=[(3,.str b),(31,.i (b.length:Int)),(32,.i (i:Int)),Z 40,Z 41,Z 42,Z 43]
theorem JC{O:Nat->Prop}{w0:World}{Q:AV×Heap->Prop}{neg:Bool}(b:L8)(hb:b.length<2^62)(hf:b.all isD=true->wF neg b=true)
  (hq:Q (.i (if wF neg b then(if 1000<b.length then 14 else 0) else 12),[])) :
  zc prog f84 O 0 w0 [] (λ_ _ _=>False) (RetR J8 0 Q) (.code (.loop (lps K84 0).1)::(lps K84 0).2) (mk f84.ntmps (SCk b 0) []):=by
 refine zc.loop (ι:={i:Nat // i<=b.length/\∀ j,j<i->isD (b.getD j 0)=true}) (λi=>SCk b i.1) (λ_=>[]) (λi=>b.length - i.1) ⟨0,aI _,λj hj=>by omega⟩ 0 ?_ ?_ (by kernel_rfl)
 ·exact⟨by simp [SCk],by simp,by kernel_rfl,aI _⟩
 ·rintro⟨i,hil,hid⟩;refine zc.n zH [3,31,32,40,41,42,43] (let v1:=b.getD (i:Int).toNat (0:UInt8);.D ((i:Int)<b.length) (.side ((0:Int)<=i/\(i:Int)<b.length) (.side (decide ((↑(UInt8.toNat v1):Int)<48)=false->(0:Int)<=i/\(i:Int)<b.length) (.ite (bif decide ((↑(UInt8.toNat v1):Int)<48) then true else decide ((57:Int)<(↑(UInt8.toNat v1):Int))) (.R [.i 12] []) (.S (i+1) (.leaf (.back 0 [(3,.str b),(31,.i b.length),(32,.i (i+1)),Z 40,Z 41,Z 42,Z 43] [])))))) (.D ((1000:Int)<b.length) (.R [.i 14] []) (.R [.i 0] []))) ?_;simp only [Tree.holds,zd,inR,lo,hi,aD,Bool.cond_eq_ite];refine⟨λhlt=> ?_,λhge=>⟨λhbig=> ?_,λhsm=> ?_⟩⟩
  ·have hlt:i<b.length:=by simp at hlt; omega
   refine⟨by omega,λ_=>⟨λ_=>by omega,λ_=>⟨λhbad=> ?_,λhgood=>⟨by omega,λ_=> ?_⟩⟩⟩⟩
   ·have hnd:isD (b.getD i 0)=false:=by
     rw [Ws] at hbad;simpa using hbad
    have hnf:wF neg b=false:=by
     have:b.all isD=false:=by
      rw [List.all_eq_false];refine⟨b.getD i 0,by simp [List.getD,hlt],by simpa using hnd⟩
     simp [wF,this]
    rw [hnf] at hq;exact RetR.scal hq rfl (by simp [resV])
   ·have hd:isD (b.getD i 0)=true:=by
     rw [Ws] at hgood;simpa using hgood
    rw [aP trivial];refine⟨⟨i+1,hlt,λj hj=> ?_⟩,by show b.length - (i+1)<b.length - i; omega,by simp [SCk],by simp,by kernel_rfl,aI _⟩;rcases aR j i with h | h
    ·exact hid j h
    ·have:j=i:=by omega
     subst this; exact hd
  all_goals
   have hge:i=b.length:=by simp at hge; omega
   have hall:b.all isD=true:=by
    rw [bG];intro c hc;obtain⟨j,hj,rfl⟩:=List.getElem_of_mem hc;have:=hid j (by omega);simpa [List.getD,hj] using this
   rw [hf hall] at hq
  ·rw [aP rfl,aP (by simp at hbig; omega)] at hq;exact RetR.scal hq rfl (by simp [resV])
  ·rw [aP rfl,aO (by simp at hsm; omega)] at hq;exact RetR.scal hq rfl (by simp [resV])
theorem W4:zf prog 84 J8:=by
 refine zh' f84 λs hs O w0 Q hq=> ?_
 replace hq:=hq _ rfl;refine zc.n zH [3,31,32,40,41,42,43] (let v3:qa:=.ret [.i 12] [];let v1:=List.take s.length s;let v2:=List.drop 1 v1;.side (decide ((0:Int)<s.length)=true->(0:Int)<=0/\(0:Int)<s.length) (.ite (bif decide ((0:Int)<s.length) then decide ((↑(UInt8.toNat (s.getD 0 (0:UInt8))):Int)=45) else false) (.side ((0:Int)<=1/\(1:Int)<=s.length) (.D (List.drop 1 v1=#[(48:UInt8)].toList) (.leaf v3) (.side (decide (List.drop 1 v1=#[].toList)=false->(0:Int)<=0/\(0:Int)<(↑(List.length v2):Int)) (.ite (bif decide (List.drop 1 v1=#[].toList) then true else bif decide ((↑(UInt8.toNat (List.getD v2 0 (0:UInt8))):Int)=48) then decide ((1:Int)<(↑(List.length v2):Int)) else false) (.leaf v3) (.leaf (.loop (lps K84 0).1 (lps K84 0).2 [(3,.str v2),(31,.int .i64 ↑(List.length v2)),(32,.i 0),Z 40,Z 41,Z 42,Z 43] [])))))) (.side (decide (s=#[].toList)=false->(0:Int)<=0/\(0:Int)<s.length) (.ite (bif decide (s=#[].toList) then true else bif decide ((↑(UInt8.toNat (s.getD 0 (0:UInt8))):Int)=48) then decide ((1:Int)<s.length) else false) (.leaf v3) (.leaf (.loop (lps K84 0).1 (lps K84 0).2 [(3,.str s),(31,.i s.length),(32,.i 0),Z 40,Z 41,Z 42,Z 43] [])))))) ?_;simp only [Tree.holds,zd,inR,lo,hi,Bool.cond_eq_ite];cases s with
 | nil=>
  simp only [errI,parse,wF] at hq;refine⟨by simp,λ_=>⟨λh=>by simp at h,λ_=>⟨by simp,λ_=>⟨λ_=> ?_,λh=>by simp at h⟩⟩⟩⟩;exact RetR.scal hq rfl (by simp [resV])
 | cons c b=>
  refine⟨by simp,λ_=>⟨λh=> ?_,λh=> ?_⟩⟩
  ·have hc:c=45:=by
    simp at h;have:c.toNat=45:=by omega
    exact UInt8.toNat_inj.1 this
   subst hc;have hp:parse (45::b)=(true,b):=rfl;have hd:List.drop 1 (List.take (45::b).length (45::b))=b:=by simp
   rw [hd];simp only [errI,hp] at hq;refine⟨by simp; omega,λ_=>⟨λh0=> ?_,λh0=>⟨λhne=> ?_,λ_=>⟨λhbad=> ?_,λhgood=> ?_⟩⟩⟩⟩
   ·have hb:b=[48]:=by simpa using h0
    subst hb;exact RetR.scal hq rfl rfl
   ·have:b≠[]:=by simpa using hne
    have:=List.length_pos_iff.2 this;omega
   ·have hnf:wF true b=false:=by
     by_cases hb:b=[]
     ·subst hb; rfl
     ·rw [aO (by simpa using hb)] at hbad;split at hbad
      ·rename_i h48;have:b.getD 0 0=48:=YA (aB h48);have hl:1<b.length:=by simp at hbad; omega
       exact xq this hl
      ·cases hbad
    rw [hnf] at hq;exact RetR.scal hq rfl (by simp [resV])
   ·have hf:b.all isD=true->wF true b=true:=by
     intro hall
     have hb:b≠[]:=by
      intro hb; subst hb; simp at hgood
     have hb2:b≠[48]:=by simpa using h0
     rw [aO (by simpa using hb)] at hgood
     have h3:¬ (b.getD 0 0=48/\1<b.length):=by
      rintro⟨g1,g2⟩;rw [g1] at hgood;rw [aP (by decide)] at hgood;simp at hgood; omega
     simp only [wF,hall,hb,hb2,Bool.and_true];simp only [decide_false,Bool.not_false,Bool.and_false,Bool.true_and,Bool.not_eq_true',Bool.and_eq_false_iff,aV];by_cases g1:b.getD 0 0=48
     ·exact .inr λg2=>h3 ⟨g1,g2⟩
     ·exact .inl g1
    exact JC b (by simp at hs; omega) hf hq
  ·have hc:c≠45:=by
    rintro rfl;simp at h
   have hp:parse (c::b)=(false,c::b):=by simp [parse,hc]
   simp only [errI,hp] at hq;obtain⟨s,hs'⟩:∃ s,c::b=s:=⟨_,rfl⟩;have hne:s≠[]:=by rw [<- hs']; simp
   rw [hs'] at hq hs ⊢;refine⟨λ_=>⟨by omega,by have:=List.length_pos_iff.2 hne; omega⟩,λ_=>⟨λhbad=> ?_,λhgood=> ?_⟩⟩
   ·have hnf:wF false s=false:=by
     rw [aO (by simpa using hne)] at hbad;split at hbad
     ·rename_i h48;have:s.getD 0 0=48:=YA (aB h48);have hl:1<s.length:=by simp at hbad; omega
      exact xq this hl
     ·cases hbad
    rw [hnf] at hq;exact RetR.scal hq rfl (by simp [resV])
   ·have hf:s.all isD=true->wF false s=true:=by
     intro hall;rw [aO (by simpa using hne)] at hgood
     have h3:¬ (s.getD 0 0=48/\1<s.length):=by
      rintro⟨g1,g2⟩;rw [g1] at hgood;rw [aP (by decide)] at hgood;simp at hgood; omega
     simp only [wF,hall,hne,Bool.and_true];simp only [decide_false,Bool.not_false,Bool.false_and,Bool.true_and,Bool.not_eq_true',Bool.and_eq_false_iff,aV];by_cases g1:s.getD 0 0=48
     ·exact .inr λg2=>h3 ⟨g1,g2⟩
     ·exact .inl g1
    exact JC s hs hf hq
def numV(neg:Bool)(x:Nat):AV:=.agg [.bool neg,magS x]
def Qv:Ctr:=ctrP false (λp:L8×L8=>[.str p.1,.str p.2]) (λp=>p.1.length<2^62/\p.2.length<2^62) (λp (r:Int×(Bool×Nat)×(Bool×Nat))=>r=if z8 p.1 p.2=0 then(0,(negI p.1,numI p.1),(negI p.2,numI p.2)) else(z8 p.1 p.2,(false,0),(false,0)))
 (λ_ r=>(.tup [numV r.2.1.1 r.2.1.2,numV r.2.2.1 r.2.2.2,.i r.1],[]))
noncomputable def G5:=tb W4 (tb zot tz)
theorem zsh:canon 0=[]:=by simp [canon]
abbrev q16(A:List AV)(x:Bool×L8):Prop:=eqL A [.str (sgn x.1 x.2)]/\allD x.2/\x.2≠[]/\x.2.length<=1000000
abbrev q15(A:List AV)(x:L8):Prop:=eqL A [.str x]/\x.length<4611686018427387904
theorem KB:zf prog 127 Qv:=by
 refine zh' f127 λp hp O w0 Q hq=> ?_
 obtain⟨s,t⟩:=p;obtain⟨hs,ht⟩:=hp;replace hq:=hq _ rfl;simp only at hs ht hq;refine zc.n G5.h [] (let v1:List AV:=[.bool false,.nils];.ex (q15 [.str s]) λn=>.all (λ(r:Int)=>r=errI n) λn=>.D (n=0) (.ex (q15 [.str t]) λn=>.all (λ(r:Int)=>r=errI n) λn=>.N (n=0) (.R [.agg v1,.agg v1,.i n] [.box v1,.box v1]) (.ex (q16 [.str s]) λn=>.all (λ(r:Nat)=>r=numD n.2) λn_1=>let v4:List AV:=[.bool n.1,.sl (canon n_1).length 1 (natG .u32 (canon n_1))];.ex (q16 [.str t]) λn_2=>.all (λ(r:Nat)=>r=numD n_2.2) λn_3=>let v2:List AV:=[.bool n_2.1,.sl (canon n_3).length 1 (natG .u32 (canon n_3))];.R [.agg v4,.agg v2,.i 0] [.box v4,.box v2])) (.N (n=0) (.R [.agg v1,.agg v1,.i n] [.box v1,.box v1]) (.ex (q16 [.str s]) λn=>.all (λ(r:Nat)=>r=numD n.2) λn_1=>let v5:List AV:=[.bool n.1,.sl (canon n_1).length 1 (natG .u32 (canon n_1))];.ex (q16 [.str t]) λn_2=>.all (λ(r:Nat)=>r=numD n_2.2) λn_3=>let v3:List AV:=[.bool n_2.1,.sl (canon n_3).length 1 (natG .u32 (canon n_3))];.R [.agg v5,.agg v3,.i 0] [.box v5,.box v3]))) ?_
 have bad:∀ h,z8 s t≠0->RetR Qv 0 Q [.agg [.bool false,.nils],.agg [.bool false,.nils],.i (z8 s t)] h:=by
  intro h he;rw [aO he] at hq;refine RetR.out0 hq (λh=>by simp [Qv,ctrP] at h) ?_;simp [resV,exp2,exp1,exp0,ren0,eqA2,eqL1,eqA,eqL0,eqA0,numV,magS,natS,zsh]
 have good:∀ h,z8 s t=0->RetR Qv 0 Q [.agg [.bool (negI s),magS (numI s)],.agg [.bool (negI t),magS (numI t)],.i 0] h:=by
  intro h he;rw [aP he] at hq;refine RetR.out0 hq (λh=>by simp [Qv,ctrP] at h) ?_;simp [resV,exp2,exp1,exp0,ren0,eqA2,eqL1,eqA,eqL0,eqA0,numV,magS,natS,za]
 have rd:∀ u,errI u=0->eqL [.str u] [.str (sgn (negI u) (parse u).2)]/\allD (parse u).2/\(parse u).2≠[]/\(parse u).2.length<=1000000:=by
  intro u hu;obtain⟨h1,h2,h3,h4⟩:=Jn hu;exact⟨by simpa using h1,h2,h3,by omega⟩
 simp only [Tree.holds,zd];refine⟨s,⟨by simp,by omega⟩,?_⟩;refine⟨⟨_,rfl⟩,?_⟩;rintro _ rfl;refine⟨λh1=> ?_,λh1=> ?_⟩
 ·have h1:errI s=0:=by simpa using h1
  refine⟨t,⟨by simp,by omega⟩,?_⟩;refine⟨⟨_,rfl⟩,?_⟩;rintro _ rfl;refine⟨λh2=> ?_,λh2=> ?_⟩
  ·have h2:errI t≠0:=by simpa using h2
   have e:z8 s t=errI t:=by simp [z8,h1]
   rw [<- e];exact bad _ (by rw [e]; exact h2)
  ·have h2:errI t=0:=by simpa using h2
   refine⟨(negI s,(parse s).2),rd s h1,?_⟩;refine⟨⟨_,rfl⟩,?_⟩;rintro _ rfl;refine⟨(negI t,(parse t).2),rd t h2,?_⟩;refine⟨⟨_,rfl⟩,?_⟩;rintro _ rfl;exact good _ (zq.2 ⟨h1,h2⟩)
 ·have h1:errI s≠0:=by simpa using h1
  have e:z8 s t=errI s:=by simp [z8,h1]
  refine⟨λh2=> ?_,λh2=>absurd (by simpa using h2) h1⟩;rw [<- e];exact bad _ (by rw [e]; exact h1)
noncomputable def G6:=tb KB (tb V5 (tb Ww tz))
def gcdC:Ctr:=ctrP true (λp:L8×L8=>[.str p.1,.str p.2]) (λp=>p.1.length<2^62/\p.2.length<2^62) (λp r=>r=gcdR p.1 p.2) (λ_ r=>(.tup [.str r.1,.i r.2],[]))
def SGc:KV:=[(6,.ptr 0 0),(7,.ptr 1 0)]
def HGc(m n:Bool)(x y:Nat):Heap:=[.box [.bool m,magS x],.box [.bool n,magS y]]
theorem wa{x:Nat} : x<B^112↔(canon x).length<=112:=by
 refine⟨λh=>zC h,λh=> ?_⟩;have h1:=qG (zj x);rw [zl] at h1;exact bB h1 (bY (by decide) h)
theorem yH{x:Nat} : (canon x).length=0↔x=0:=by
 constructor
 ·intro h;have:=zl x;rw [aU.1 h] at this;exact this.symm
 ·rintro rfl; simp [canon]
abbrev q19(A:List AV)(x:Bool×Nat):Prop:=eqL A [.agg [.bool x.1,.sl (canon x.2).length 1 (natG .u32 (canon x.2))]]/\List.length (canon x.2)<1000000
abbrev q18(A:List AV)(x:Nat×Nat):Prop:=eqL A [.sl (canon x.1).length 1 (natG .u32 (canon x.1)),.sl (canon x.2).length 1 (natG .u32 (canon x.2))]/\List.length (canon x.1)<100000/\List.length (canon x.2)<100000/\0<x.2
abbrev q17(A:List AV)(x:L8×L8):Prop:=eqL A [.str x.1,.str x.2]/\x.1.length<4611686018427387904/\x.2.length<4611686018427387904
theorem zj6:zf prog 85 gcdC:=by
 refine zh' f85 λp hp O w0 Q hq=> ?_
 obtain⟨s,t⟩:=p;obtain⟨hs,ht⟩:=hp;replace hq:=hq _ rfl;simp only at hs ht hq;refine zc.n G6.h [6,7] (.ex (q17 [.str s,.str t]) λn=>.all (λ(r:Int×(Bool×Nat)×Bool×Nat)=>r=if z8 n.1 n.2=0 then((0:Int),(negI n.1,numI n.1),negI n.2,numI n.2) else(z8 n.1 n.2,(false,0),false,0)) λn=>let v1:List Blk:=[.box [.bool n.2.1.1,.sl (canon n.2.1.2).length 1 (natG .u32 (canon n.2.1.2))],.box [.bool n.2.2.1,.sl (canon n.2.2.2).length 1 (natG .u32 (canon n.2.2.2))]];.N (n.1=0) (.R [.str #[].toList,.i n.1] v1) (.leaf (.loop (lps K85 0).1 (lps K85 0).2 [(6,.ptr 0 0),(7,.ptr 1 0)] v1))) ?_;simp only [q17,Tree.holds,zd];refine⟨(s,t),⟨by simp,hs,ht⟩,⟨_,rfl⟩,?_⟩;rintro _ rfl;refine⟨λhe=> ?_,λhe=> ?_⟩
 ·have he:z8 s t≠0:=by
   intro h; simp [h] at he
  have e:gcdR s t=([],z8 s t):=by simp [gcdR,he]
  simp only [aO he];rw [e] at hq;exact RetR.scal hq rfl (by simp [resV])
 ·have he:z8 s t=0:=by
   refine bM λh=> ?_
   simp [h] at he
  simp only [aP he];have e:gcdR s t=wr false (Nat.gcd (numI s) (numI t)):=by simp [gcdR,he]
  rw [e] at hq;obtain⟨h1,h2⟩:=zq.1 he;have b1:=wa.2 (uz h1);have b2:=wa.2 (uz h2);clear e he h1 h2 hs ht;generalize numI s=x0 at *
  generalize numI t=y0 at *
  refine zc.loop (ι:={z:Bool×Bool×Nat×Nat // Nat.gcd z.2.2.1 z.2.2.2=Nat.gcd x0 y0/\z.2.2.1<B^112/\z.2.2.2<B^112}) (λ_=>SGc) (λz=>HGc z.1.1 z.1.2.1 z.1.2.2.1 z.1.2.2.2) (λz=>z.1.2.2.2) ⟨(negI s,negI t,x0,y0),rfl,b1,b2⟩ 0 ?_ ?_ (by kernel_rfl)
  ·exact⟨by simp [SGc],by simp [HGc,magS,natS,za],by kernel_rfl,aI _⟩
  ·rintro⟨⟨m,n,x,y⟩,hg,hx,hy⟩;simp only at hg hx hy;refine zc.n G6.h [6,7] (let v2:=natG .u32 (canon y);let v1:=natG .u32 (canon x);.D ((0:Int)<((canon y).length:Int)) (.ex (q18 [.sl (canon x).length 1 v1,.sl (canon y).length 1 v2]) λn_1=>.all (λ(r:Nat×Nat)=>r=(n_1.1/n_1.2,n_1.1%n_1.2)) λn_2=>.leaf (.back 0 [(6,.ptr 0 0),(7,.ptr 1 0)] [.box [.bool m,.sl (canon y).length 1 v2],.box [.bool n,.sl (canon n_2.2).length 1 (natG .u32 (canon n_2.2))]])) (.ex (q19 [.agg [.bool false,.sl (canon x).length 1 v1]]) λn_1=>.all (λ(r:L8×Int)=>r=wr n_1.1 n_1.2) λn_2=>.R [.str n_2.1,.i n_2.2] [.box [.bool m,.sl (canon x).length 1 v1],.box [.bool n,.sl (canon y).length 1 v2]])) ?_;simp only [q18,q19,Tree.holds,zd,inR,lo,hi];refine⟨λh0=> ?_,λh0=> ?_⟩
   ·have hy0:0<y:=by
     rcases bC y with h | h
     ·rw [h] at h0; simp [canon] at h0
     ·exact h
    refine⟨(x,y),⟨by simp [za],?_,?_,hy0⟩,⟨_,rfl⟩,?_⟩
    ·have:=wa.1 hx; show(canon x).length<100000; omega
    ·have:=wa.1 hy; show(canon y).length<100000; omega
    rintro _ rfl;simp only;rw [aP trivial];refine⟨⟨(m,n,y,x%y),?_,hy,Nat.lt_trans (Nat.mod_lt x hy0) hy⟩,Nat.mod_lt x hy0,by simp [SGc],by simp [HGc,magS,natS,za],by kernel_rfl,aI _⟩;show Nat.gcd y (x%y)=Nat.gcd x0 y0;rw [<- hg,Nat.gcd_comm x y,Nat.gcd_rec y x,Nat.gcd_comm]
   ·have hy0:y=0:=yH.1 (by have h0:=aC h0; omega);subst hy0;refine⟨(false,x),⟨by simp [za],?_⟩,⟨_,rfl⟩,?_⟩
    ·have:=wa.1 hx; show(canon x).length<1000000; omega
    rintro _ rfl;rw [Nat.gcd_zero_right] at hg;rw [<- hg] at hq;exact RetR.scal hq rfl (by simp [resV])
theorem XF{h:Heap}{i sz off n n':Nat}{g:Nat->Nat->AV}(hb:h[i]?=some (.arr n' sz g))(hn:off+n<=n'):exp0 h [] (.osl i sz off n) = .sl n sz (zg g off):=by
 simp [exp0,zG,frz1,wg,hb,hn]
theorem ziy{h:Heap}{i sz off n n':Nat}{g:Nat->Nat->AV}(hb:h[i]?=some (.arr n' sz g))(hn:off+n<=n')(hs:∀ j o,j<n->o<sz->qF (zg g off j o)=true):new0 h [] (.osl i sz off n):=by
 simp only [new0];intro _;rw [XF hb hn];exact hs
theorem ztq(g:Nat->Nat->AV):zg g 0=g:=by
 funext j o; simp [zg]
def big:Nat:=1000
end Go.Proofs.Tryz
end
section
namespace Go.Proofs
set_option maxHeartbeats 1000000 in
set_option maxRecDepth 100000 in
theorem Tryz.YV(s:ByteArray)(c:Int)(w:World) :
  Calls Tryz.prog 206 #[.string s,.int .u8 c] w λe w'=>e = .returned (.i (Lib.indexByte s.data.toList c.toNat.toUInt8))/\w'=w:=by
 go_enter Tryz.func206,Tryz.ntmps206
 go_wp2
 rw [run_callFunc_extern Tryz.func218 (by kernel_rfl) (by kernel_rfl) (by kernel_rfl) (e:=Extern.BytealgIndexByte.indexByte) (by kernel_rfl),Lib.run_indexByteString];simp only [Result.andThen];rw [Oper.upon_value]
 go_wp2
 go_ret
 exact⟨rfl,rfl⟩
set_option maxHeartbeats 2000000 in
set_option maxRecDepth 100000 in
theorem Tryz.UC(s:ByteArray)(c:UInt8)(w:World) :
  Calls Tryz.prog 190 #[.string s,.string ⟨#[c]⟩] w λe w'=>e = .returned (.i (Lib.indexByte s.data.toList c))/\w'=w:=by
 go_enter Tryz.func190,Tryz.ntmps190
 go_wp2_with (go_at_call 206; refine(Tryz.YV _ _ _).mono ?_; rintro e w' ⟨rfl,rfl⟩)
 ·have h:([c] == s.toList)=true:=by assumption
  go_ret
  refine⟨?_,rfl⟩;have e:s.data.toList=[c]:=by rw [<- Lib.toList_data]; exact(beq_iff_eq.1 h).symm
  rw [e];simp [Lib.indexByte]
 ·go_ret
  exact⟨rfl,rfl⟩
end Go.Proofs
end
