/- The law returns true for every input, and each argument reads afterwards as it read before; no condition. -/
import Derived.Test.YtlkbiennfpeoiaaGreatDoorSxg
import Derived.SizedLaws
import Derived.ChangeArms
import Derived.Deep.Slices
import Derived.Carry
import Derived.LaidMore
import Derived.WideKeyElems2
import Derived.ProofKit
import Derived.OpenShut
import Derived.ReadAgain
import Derived.Test.YtlkbiennfpeoiaaGreatDoorRows
import Derived.MakeChecks
import Derived.Test.YtlkbiennfpeoiaaGreatDoorCards
import Derived.Test.YtlkbiennfpeoiaaGreatDoorTie
import Derived.Stop.Joined
import Derived.SevenTiedAt
set_option linter.unusedVariables false
set_option linter.unusedSimpArgs false
set_option linter.unusedSectionVars false
section
set_option maxRecDepth 100000
open Go Go.Sx Go.Proofs Go.Nov
namespace Go.Proofs.Tryz
attribute [local simp] eqKV eqA eqA0 eqH eqB eqL eqL0
noncomputable def K57:List Go.Sx.Item:=[.code (Tryz.f57.body.getD .skip)]
noncomputable def K21:List Go.Sx.Item:=[.code (Tryz.f21.body.getD .skip)]
def bf1C:Ctr:=ctrP true (fun p:Fx×List UInt8=>[p.1.av,.str p.2]) (fun _=>True) (fun p r=>r=if Op.bytesLess p.2 p.1.name=true then 1 else -1) (fun _ (r:Int)=>(.int .i64 r,[]))
theorem zkb:zf Tryz.prog 58 bf1C:=by
 refine zi (fn:=Tryz.f58) (c:=Tryz.f58.body.getD .skip) rfl rfl rfl fun p hp O w0 Q hq=> ?_
 obtain⟨f,s⟩:=p
 replace hq:=hq _ rfl
 simp only at hq
 refine zc.run hmix zD [] 400 (T:=.ite (Op.bytesLess f.name s||decide (Fx.name f=s)) (.leaf (.ret [.int .i64 (-1:Int)] [.box [.str f.name,.int .i64 f.date,.str f.value]])) (.leaf (.ret [.int .i64 1] [.box [.str f.name,.int .i64 f.date,.str f.value]]))) (by kernel_rfl) ?_
 simp only [Tree.holds,zd]
 have key:(Op.bytesLess f.name s||decide (f.name=s)) = !Op.bytesLess s f.name:=by
  rcases Xu f.name s with h | h | h
  ·have h2:Op.bytesLess s f.name=false:=Bool.eq_false_iff.2 fun g=>by have:=xf h g; rw [xS] at this; cases this
   rw [h,h2]; rfl
  ·rw [h,xS]; simp
  ·have h2:Op.bytesLess f.name s=false:=Bool.eq_false_iff.2 fun g=>by have:=xf h g; rw [xS] at this; cases this
   rw [h,h2]
   have:f.name≠s:=fun e=>by rw [e,xS] at h; cases h
   simp [this]
 rw [key]
 cases hb:Op.bytesLess s f.name with
 | true=>
  rw [hb,if_pos rfl] at hq
  exact⟨fun h=>by simp at h,fun _=>RetR.scal hq rfl (by simp [resV])⟩
 | false=>
  rw [hb,if_neg (by simp)] at hq
  exact⟨fun _=>RetR.scal hq rfl (by simp [resV]),fun h=>by simp at h⟩
theorem zju{a:Ca}{l:List Fx}(hs:l.Pairwise fun x y=>cmpF x y<0){j:Nat}(hj:j<l.length):Op.bytesLess a.name (l.getD j Fx.nil).name=decide (a.at_ l≤j):=by
 obtain⟨h1,h2⟩:=Ca.zjz (a:=a) hs
 have e:l.getD j Fx.nil=l[j]:=by simp [List.getD,hj]
 rw [e]
 by_cases h:a.at_ l≤j
 ·rw [decide_eq_true h]
  refine h2 _ ?_
  rw [List.mem_iff_getElem]
  exact⟨j - a.at_ l,by rw [List.length_drop]; omega,by rw [List.getElem_drop]; congr 1; omega⟩
 ·rw [decide_eq_false h]
  refine h1 _ ?_
  rw [List.mem_iff_getElem]
  exact⟨j,by rw [List.length_take]; omega,by rw [List.getElem_take]⟩
noncomputable def GBs:Nat→Option Ctr:=fun f=>if f=58 then some (bf1C) else none
theorem zf4:∀ g c,GBs g=some c→zf Tryz.prog g c:=okIf zkb (zx)
def bsC:Ctr:=ctrP true (fun p:List Fx×Ca=>[fxS p.1,.str p.2.name,.fn 58 [] []]) (fun p=>p.1.length<2^40∧p.1.Pairwise fun x y=>cmpF x y<0) (fun p (r:Nat×Bool)=>r.1=p.2.at_ p.1) (fun _ (r:Nat×Bool)=>(.tup [.int .i64 (r.1:Int),.bool r.2],[]))
def SBs(l:List Fx)(a:Ca)(i j:Nat):KV:=[(0,fxS l),(1,.str a.name),(2,.fn 58 [] []),(8,.int .i64 (l.length:Int)),(9,.int .i64 (i:Int)),(10,.int .i64 (j:Int)),(40,.undef),(41,.undef),(42,.undef),(43,.undef),(44,.undef),(45,.undef),(46,.undef),(47,.undef)]
theorem zlc:zf Tryz.prog 57 bsC:=by
 refine zi (fn:=Tryz.f57) (c:=Tryz.f57.body.getD .skip) rfl rfl rfl fun p hp O w0 Q hq=> ?_
 obtain⟨l,a⟩:=p
 obtain⟨hl,hs⟩:=hp
 simp only at hl hs hq
 refine zc.run hmix zf4 [0,1,2,8,9,10,40,41,42,43,44,45,46,47] 400 (T:=.leaf (.loop (Prod.fst (lps K57 0)) (Prod.snd (lps K57 0)) [(0,.sl l.length 3 (fxG l)),(1,.str (Ca.name a)),(2,.fn 58 [] []),(8,.int .i64 l.length),(9,.int .i64 0),(10,.int .i64 l.length),(40,.undef),(41,.undef),(42,.undef),(43,.undef),(44,.undef),(45,.undef),(46,.undef),(47,.undef)] [])) (by kernel_rfl) ?_
 simp only [Tree.holds,zd,inR,lo,hi,Int.toNat_natCast]
 refine zc.loop (ι:={p:Nat×Nat // p.1≤p.2∧p.2≤l.length∧p.1≤a.at_ l∧a.at_ l≤p.2}) (fun i=>SBs l a i.1.1 i.1.2) (fun _=>[]) (fun i=>i.1.2 - i.1.1) ⟨(0,l.length),Nat.zero_le _,Nat.le_refl _,Nat.zero_le _,Ca.zcl⟩ 0 ?_ ?_ (by kernel_rfl)
 ·exact⟨by simp [SBs,fxS,zb],trivial,by kernel_rfl,Nat.zero_le _⟩
 ·rintro⟨⟨i,j⟩,hij,hjl,hia,haj⟩
  simp only at hij hjl hia haj
  refine zc.run hmix zf4 [0,1,2,8,9,10,40,41,42,43,44,45,46,47] 400 (T:=.ite (decide ((↑i:Int)<j)) (.side (inR .i64 ((↑i:Int)+j)) (.side (inR .u64 ((↑i:Int)+j)) (.side ((0:Int)≤1∧(1:Int)≤64) (.side (inR .i64 (Int.fdiv ((↑i:Int)+j) (2:Int))) (.side ((0:Int)≤Int.fdiv ((↑i:Int)+j) (2:Int)∧Int.fdiv ((↑i:Int)+j) (2:Int)<l.length) (.ex (fun(x:Fx×List UInt8)=>eqL [AV.agg [AV.str (Fx.name (l.getD (Int.toNat (Int.fdiv ((↑i:Int)+j) (2:Int))) Fx.nil)),AV.int .i64 (Fx.date (l.getD (Int.toNat (Int.fdiv ((↑i:Int)+j) (2:Int))) Fx.nil)),AV.str (Fx.value (l.getD (Int.toNat (Int.fdiv ((↑i:Int)+j) (2:Int))) Fx.nil))],AV.str (Ca.name a)] [AV.agg [AV.str x.1.name,AV.int .i64 x.1.date,AV.str x.1.value],AV.str x.2]∧True) fun n=>.all (fun(r:Int)=>r=if Op.bytesLess n.2 n.1.name=true then(1:Int) else(-1:Int)) fun n=>.ite (decide (n<0)) (.side (inR .i64 (Int.fdiv ((↑i:Int)+j) (2:Int)+(1:Int))) (.leaf (.back 0 [(0,.sl l.length 3 (fxG l)),(1,.str (Ca.name a)),(2,.fn 58 [] []),(8,.int .i64 l.length),(9,.int .i64 (Int.fdiv ((↑i:Int)+j) (2:Int)+(1:Int))),(10,.int .i64 j),(40,.undef),(41,.undef),(42,.undef),(43,.undef),(44,.undef),(45,.undef),(46,.undef),(47,.undef)] []))) (.leaf (.back 0 [(0,.sl l.length 3 (fxG l)),(1,.str (Ca.name a)),(2,.fn 58 [] []),(8,.int .i64 l.length),(9,.int .i64 i),(10,.int .i64 (Int.fdiv ((↑i:Int)+j) (2:Int))),(40,.undef),(41,.undef),(42,.undef),(43,.undef),(44,.undef),(45,.undef),(46,.undef),(47,.undef)] [])))))))) (.side (decide ((↑i:Int)<l.length)=true→(0:Int)≤i∧(↑i:Int)<l.length) (.ex (fun(x:Fx×List UInt8)=>decide ((↑i:Int)<l.length)=true→eqL [AV.agg [AV.str (Fx.name (l.getD (↑i:Int).toNat Fx.nil)),AV.int .i64 (Fx.date (l.getD (↑i:Int).toNat Fx.nil)),AV.str (Fx.value (l.getD (↑i:Int).toNat Fx.nil))],AV.str (Ca.name a)] [AV.agg [AV.str x.1.name,AV.int .i64 x.1.date,AV.str x.1.value],AV.str x.2]∧True) fun n=>.all (fun(x:Int)=>decide ((↑i:Int)<l.length)=true→x=if Op.bytesLess n.2 n.1.name=true then(1:Int) else(-1:Int)) fun n=>.leaf (.ret [.int .i64 i,.bool (bif decide ((↑i:Int)<l.length) then decide (n=0) else false)] [])))) (by kernel_rfl) ?_
  simp only [Tree.holds,zd,inR,lo,hi,Int.toNat_natCast]
  have hm:((i:Int)+j).fdiv 2=(((i+j)/2:Nat):Int):=by
   rw [Int.fdiv_eq_ediv_of_nonneg _ (by decide)]; omega
  refine⟨fun h=> ?_,fun h=> ?_⟩
  ·have h:=of_decide_eq_true h
   rw [hm]
   obtain⟨m,hmd⟩:∃ m,(i+j)/2=m:=⟨_,rfl⟩
   have hml:m<j:=by omega
   have hmi:i≤m:=by omega
   rw [hmd]
   simp only [Int.toNat_natCast]
   refine⟨by omega,fun _=>⟨by omega,fun _=>⟨by omega,fun _=>⟨by omega,fun _=>⟨by omega,fun _=>⟨(l.getD m Fx.nil,a.name),⟨by simp,trivial⟩,⟨_,rfl⟩,?_⟩⟩⟩⟩⟩⟩
   rintro _ rfl
   rw [zju hs (show m<l.length by omega)]
   refine⟨fun h2=>⟨by omega,fun _=> ?_⟩,fun h2=> ?_⟩
   ·have h2:=of_decide_eq_true h2
    have h3:¬ a.at_ l≤m:=fun g=>by rw [decide_eq_true g] at h2; simp at h2
    rw [if_pos trivial]
    exact⟨⟨(m+1,j),by show m+1≤j; omega,hjl,by show m+1≤a.at_ l; omega,haj⟩,by show j - (m+1)<j - i; omega,by simp [SBs,fxS,zb],trivial,by kernel_rfl,Nat.zero_le _⟩
   ·have h2:=of_decide_eq_false h2
    have h3:a.at_ l≤m:=Classical.byContradiction fun g=>by rw [decide_eq_false g] at h2; simp at h2
    rw [if_pos trivial]
    exact⟨⟨(i,m),hmi,by show m≤l.length; omega,hia,h3⟩,by show m - i<j - i; omega,by simp [SBs,fxS,zb],trivial,by kernel_rfl,Nat.zero_le _⟩
  ·have h:=of_decide_eq_false h
   have e:i=a.at_ l:=by omega
   refine⟨fun h=>by have:=of_decide_eq_true h; omega,fun _=>⟨(l.getD i Fx.nil,a.name),fun _=>⟨by simp,trivial⟩,⟨_,fun _=>rfl⟩,fun n hn=> ?_⟩⟩
   exact RetR.scal (hq (i,decide ((i:Int)<l.length)&&decide (n=0)) e) rfl (by simp [resV])
def SCb(f:List Fx)(k m i:Nat):KV:=[(2,.ptr 0 0),(4,.ptr 2 0),(8,.osl 5 3 0 m),(9,.ptr 4 0),(33,fxS f),(34,.int .i64 (f.length:Int)),(35,.int .i64 (i:Int)),(45,.undef),(46,.undef),(47,.undef),(48,.undef),(49,.undef),(77,.undef),(78,.undef),(79,.undef),(80,.undef),(81,.undef)]
def HCb(a:Ca)(f:List Fx)(c:List Ch)(k m:List Fx):Heap:=[.box [.str a.name,.str a.into,.int .i64 a.date,.str a.ratio,.str a.extra],.box [fxS f,chS c],.box [.nils,.nils],.arr c.length 4 (chG c),.box [.osl 6 3 0 k.length,.osl 3 4 0 c.length],.arr m.length 3 (fxG m),.arr k.length 3 (fxG k)]
def Kh:Ctr:=ctrP true (fun p:Ca×(List Fx×List Ch)=>[p.1.av,envA p.2.1 p.2.2]) (fun p=>qJ p.1∧envP p.2∧p.2.1.length≤1000000) (fun p r=>r=p.1.before p.2.1 p.2.2) (fun _ (r:(List Fx×List Ch)×Int)=>(.tup [.agg [.osl 0 3 0 r.1.1.length,.osl 1 4 0 r.1.2.length],.int .i64 r.2],[.arr r.1.1.length 3 (fxG r.1.1),.arr r.1.2.length 4 (chG r.1.2)]))
noncomputable def GBf:Nat→Option Ctr:=fun f=>if f=16 then some (ki) else if f=24 then some (YM) else if f=55 then some (YF) else if f=56 then some (oldC) else if f=57 then some (bsC) else if f=59 then some (zia) else none
theorem zez:∀ g c,GBf g=some c→zf Tryz.prog g c:=okIf vE (okIf UP (okIf zau (okIf zcn (okIf zlc (okIf zi2 (zx))))))
theorem YA:zf Tryz.prog 21 Kh:=by
 refine Z7 (fn:=Tryz.f21) (c:=Tryz.f21.body.getD .skip) rfl rfl rfl fun p hp O w0 Q hq=> ?_
 obtain⟨a,f,c⟩:=p
 obtain⟨ha,he,hfl⟩:=hp
 replace hq:=hq _ rfl
 simp only at ha he hfl hq
 refine zc.run hmix zez [2,4,8,9,33,34,35,45,46,47,48,49,77,78,79,80,81] 400 (T:=.ex (fun(x:Ca)=>eqL [AV.agg [AV.str (Ca.name a),AV.str (Ca.into a),AV.int .i64 (Ca.date a),AV.str (Ca.ratio a),AV.str (Ca.extra a)]] [AV.agg [AV.str (Ca.name x),AV.str (Ca.into x),AV.int .i64 (Ca.date x),AV.str (Ca.ratio x),AV.str (Ca.extra x)]]∧qJ x) fun n=>.all (fun(r:Int)=>r=if Ca.ok n=true then(0:Int) else(8:Int)) fun n=>.ite (!decide (n=0)) (.leaf (.ret [.agg [.nils,.nils],.int .i64 n] [.box [.str (Ca.name a),.str (Ca.into a),.int .i64 (Ca.date a),.str (Ca.ratio a),.str (Ca.extra a)],.box [.sl f.length 3 (fxG f),.sl c.length 4 (chG c)],.box [.nils,.nils]])) (.ex (fun(x:List Fx×List Ch)=>eqL [AV.agg [AV.sl f.length 3 (fxG f),AV.sl c.length 4 (chG c)]] [AV.agg [AV.sl x.1.length 3 (fxG x.1),AV.sl x.2.length 4 (chG x.2)]]∧envP x) fun n=>.all (fun(r:Int)=>r=errE n.1 n.2) fun n=>.ite (!decide (n=0)) (.leaf (.ret [.agg [.nils,.nils],.int .i64 n] [.box [.str (Ca.name a),.str (Ca.into a),.int .i64 (Ca.date a),.str (Ca.ratio a),.str (Ca.extra a)],.box [.sl f.length 3 (fxG f),.sl c.length 4 (chG c)],.box [.nils,.nils]])) (.ex (fun(x:List Ch)=>eqL [AV.sl c.length 4 (chG c)] [AV.sl x.length 4 (chG x)]∧x.length<1099511627776) fun n=>.all (fun(x:Unit)=>True) fun n_1=>.leaf (.loop (Prod.fst (lps K21 0)) (Prod.snd (lps K21 0)) [(2,.ptr 0 0),(4,.ptr 2 0),(8,.nils),(9,.ptr 4 0),(33,.sl f.length 3 (fxG f)),(34,.int .i64 f.length),(35,.int .i64 0),(45,.undef),(46,.undef),(47,.undef),(48,.undef),(49,.undef),(77,.undef),(78,.undef),(79,.undef),(80,.undef),(81,.undef)] [.box [.str (Ca.name a),.str (Ca.into a),.int .i64 (Ca.date a),.str (Ca.ratio a),.str (Ca.extra a)],.box [.sl f.length 3 (fxG f),.sl c.length 4 (chG c)],.box [.nils,.nils],.arr n.length 4 (chG n),.box [.nils,.osl 3 4 0 n.length]])))) (by kernel_rfl) ?_
 simp only [Tree.holds,zd,inR,lo,hi,Int.toNat_natCast]
 have bad:∀ (e:Int) (h:Heap),a.before f c=(([],[]),e)→RetR Kh 0 (upQ Q) [.agg [.nils,.nils],.int .i64 e] h:=fun e h hr=>by
  rw [hr] at hq
  exact zgi e h hq
 refine⟨a,⟨by simp [Ca.av],ha⟩,⟨_,rfl⟩,?_⟩
 rintro _ rfl
 by_cases hok:¬ a.ok=true
 ·rw [if_neg hok]
  refine⟨fun _=>bad _ _ ?_,fun h=>by simp at h⟩
  unfold Ca.before; rw [if_pos (by simpa using hok)]
 replace hok:a.ok=true:=Classical.not_not.1 hok
 rw [if_pos hok]
 refine⟨fun h=>by simp at h,fun _=>⟨(f,c),⟨by simp [zb],he⟩,⟨_,rfl⟩,?_⟩⟩
 rintro _ rfl
 refine⟨fun h=> ?_,fun h=> ?_⟩
 ·have h:errE f c≠0:=by simpa using h
  refine bad _ _ ?_
  unfold Ca.before; rw [if_neg (by simp [hok]),if_pos h]
 have hE:errE f c=0:=by simpa using h
 clear h
 refine⟨c,⟨by simp [zb],?_⟩,⟨(),trivial⟩,fun _ _=> ?_⟩
 ·have:=uU.1 hE; omega
 refine zc.bear 8 3 (fxG []) rfl (by decide) (by kernel_rfl) ?_
 refine zc.zj7 4 0 3 (fxG []) rfl rfl (by kernel_rfl) ?_
 refine zc.loop (ι:={i:Nat // i≤f.length∧a.err (f.take i)=0}) (fun i=>SCb f (a.kept (f.take i.1)).length (a.fresh (f.take i.1)).length i.1) (fun i=>HCb a f c (a.kept (f.take i.1)) (a.fresh (f.take i.1))) (fun i=>f.length - i.1) ⟨0,Nat.zero_le _,rfl⟩ 0 ?_ ?_ (by kernel_rfl)
 ·exact⟨by simp [SCb,yS,fxS,zb,Ca.fresh],by simp [HCb,fxS,chS,zb,Ca.fresh,Ca.kept],by kernel_rfl,Nat.zero_le _⟩
 ·rintro⟨i,hil,hie⟩
  obtain⟨k,hk⟩:∃ k,a.kept (f.take i)=k:=⟨_,rfl⟩
  obtain⟨m,hm⟩:∃ m,a.fresh (f.take i)=m:=⟨_,rfl⟩
  have hkl:k.length≤f.length:=by rw [← hk]; exact Ca.zcc f i
  have hml:m.length≤f.length:=by rw [← hm]; exact Ca.zac f i
  simp only [hk,hm]
  refine zc.run hmix zez [2,4,8,9,33,34,35,45,46,47,48,49,77,78,79,80,81] 400 (T:=.ite (decide ((↑i:Int)<f.length)) (.side ((0:Int)≤i∧(↑i:Int)<f.length) (.ite (bif decide (Fx.name (f.getD (↑i:Int).toNat Fx.nil)=Ca.into a) then decide (Ca.date a≤Fx.date (f.getD (↑i:Int).toNat Fx.nil)) else false) (.ex (fun(x:Ca×List UInt8)=>eqL [AV.agg [AV.str (Ca.name a),AV.str (Ca.into a),AV.int .i64 (Ca.date a),AV.str (Ca.ratio a),AV.str (Ca.extra a)],AV.str (Fx.value (f.getD (↑i:Int).toNat Fx.nil))] [AV.agg [AV.str (Ca.name x.1),AV.str (Ca.into x.1),AV.int .i64 (Ca.date x.1),AV.str (Ca.ratio x.1),AV.str (Ca.extra x.1)],AV.str x.2]∧qJ x.1∧x.2.length<274877906944) fun n=>.all (fun(r:List UInt8×Int)=>r=Ca.old n.1 n.2) fun n=>.ite (!decide (n.2=0)) (.leaf (.ret [.agg [.nils,.nils],.int .i64 n.2] [.box [.str (Ca.name a),.str (Ca.into a),.int .i64 (Ca.date a),.str (Ca.ratio a),.str (Ca.extra a)],.box [.sl f.length 3 (fxG f),.sl c.length 4 (chG c)],.box [.nils,.nils],.arr c.length 4 (chG c),.box [.osl 6 3 0 k.length,.osl 3 4 0 c.length],.arr m.length 3 (fxG m),.arr k.length 3 (fxG k),.box [.str (Fx.name (f.getD (↑i:Int).toNat Fx.nil)),.int .i64 (Fx.date (f.getD (↑i:Int).toNat Fx.nil)),.str (Fx.value (f.getD (↑i:Int).toNat Fx.nil))]])) (.side (0=0∧m.length≤m.length∧(m.length+1)*40≤140737488355328) (.ite (bif !decide (Fx.name (f.getD (↑i:Int).toNat Fx.nil)=Ca.name a) then true else decide (Fx.date (f.getD (↑i:Int).toNat Fx.nil)<Ca.date a)) (.side (0=0∧k.length≤k.length∧(k.length+1)*40≤140737488355328) (.side (inR .i64 ((↑i:Int)+(1:Int))) (.leaf (.back 0 [(2,.ptr 0 0),(4,.ptr 2 0),(8,.osl 5 3 0 (m.length+1)),(9,.ptr 4 0),(33,.sl f.length 3 (fxG f)),(34,.int .i64 f.length),(35,.int .i64 ((↑i:Int)+(1:Int))),(45,.undef),(46,.undef),(47,.undef),(48,.undef),(49,.undef),(77,.undef),(78,.undef),(79,.undef),(80,.undef),(81,.undef)] [.box [.str (Ca.name a),.str (Ca.into a),.int .i64 (Ca.date a),.str (Ca.ratio a),.str (Ca.extra a)],.box [.sl f.length 3 (fxG f),.sl c.length 4 (chG c)],.box [.nils,.nils],.arr c.length 4 (chG c),.box [.osl 6 3 0 (k.length+1),.osl 3 4 0 c.length],.arr (m.length+1) 3 (appG m.length (fxG m) (zg (zh 3 [.str (Ca.name a),.int .i64 (Fx.date (f.getD (↑i:Int).toNat Fx.nil)),.str n.1]) 0)),.arr (k.length+1) 3 (appG k.length (fxG k) (zg (zh 3 [.str (Fx.name (f.getD (↑i:Int).toNat Fx.nil)),.int .i64 (Fx.date (f.getD (↑i:Int).toNat Fx.nil)),.str (Fx.value (f.getD (↑i:Int).toNat Fx.nil))]) 0)),.box [.str (Fx.name (f.getD (↑i:Int).toNat Fx.nil)),.int .i64 (Fx.date (f.getD (↑i:Int).toNat Fx.nil)),.str (Fx.value (f.getD (↑i:Int).toNat Fx.nil))],.arr 1 3 (zh 3 [.str (Ca.name a),.int .i64 (Fx.date (f.getD (↑i:Int).toNat Fx.nil)),.str n.1]),.arr 1 3 (zh 3 [.str (Fx.name (f.getD (↑i:Int).toNat Fx.nil)),.int .i64 (Fx.date (f.getD (↑i:Int).toNat Fx.nil)),.str (Fx.value (f.getD (↑i:Int).toNat Fx.nil))])])))) (.side (inR .i64 ((↑i:Int)+(1:Int))) (.leaf (.back 0 [(2,.ptr 0 0),(4,.ptr 2 0),(8,.osl 5 3 0 (m.length+1)),(9,.ptr 4 0),(33,.sl f.length 3 (fxG f)),(34,.int .i64 f.length),(35,.int .i64 ((↑i:Int)+(1:Int))),(45,.undef),(46,.undef),(47,.undef),(48,.undef),(49,.undef),(77,.undef),(78,.undef),(79,.undef),(80,.undef),(81,.undef)] [.box [.str (Ca.name a),.str (Ca.into a),.int .i64 (Ca.date a),.str (Ca.ratio a),.str (Ca.extra a)],.box [.sl f.length 3 (fxG f),.sl c.length 4 (chG c)],.box [.nils,.nils],.arr c.length 4 (chG c),.box [.osl 6 3 0 k.length,.osl 3 4 0 c.length],.arr (m.length+1) 3 (appG m.length (fxG m) (zg (zh 3 [.str (Ca.name a),.int .i64 (Fx.date (f.getD (↑i:Int).toNat Fx.nil)),.str n.1]) 0)),.arr k.length 3 (fxG k),.box [.str (Fx.name (f.getD (↑i:Int).toNat Fx.nil)),.int .i64 (Fx.date (f.getD (↑i:Int).toNat Fx.nil)),.str (Fx.value (f.getD (↑i:Int).toNat Fx.nil))],.arr 1 3 (zh 3 [.str (Ca.name a),.int .i64 (Fx.date (f.getD (↑i:Int).toNat Fx.nil)),.str n.1])])))))) (.ite (bif !decide (Fx.name (f.getD (↑i:Int).toNat Fx.nil)=Ca.name a) then true else decide (Fx.date (f.getD (↑i:Int).toNat Fx.nil)<Ca.date a)) (.side (0=0∧k.length≤k.length∧(k.length+1)*40≤140737488355328) (.side (inR .i64 ((↑i:Int)+(1:Int))) (.leaf (.back 0 [(2,.ptr 0 0),(4,.ptr 2 0),(8,.osl 5 3 0 m.length),(9,.ptr 4 0),(33,.sl f.length 3 (fxG f)),(34,.int .i64 f.length),(35,.int .i64 ((↑i:Int)+(1:Int))),(45,.undef),(46,.undef),(47,.undef),(48,.undef),(49,.undef),(77,.undef),(78,.undef),(79,.undef),(80,.undef),(81,.undef)] [.box [.str (Ca.name a),.str (Ca.into a),.int .i64 (Ca.date a),.str (Ca.ratio a),.str (Ca.extra a)],.box [.sl f.length 3 (fxG f),.sl c.length 4 (chG c)],.box [.nils,.nils],.arr c.length 4 (chG c),.box [.osl 6 3 0 (k.length+1),.osl 3 4 0 c.length],.arr m.length 3 (fxG m),.arr (k.length+1) 3 (appG k.length (fxG k) (zg (zh 3 [.str (Fx.name (f.getD (↑i:Int).toNat Fx.nil)),.int .i64 (Fx.date (f.getD (↑i:Int).toNat Fx.nil)),.str (Fx.value (f.getD (↑i:Int).toNat Fx.nil))]) 0)),.box [.str (Fx.name (f.getD (↑i:Int).toNat Fx.nil)),.int .i64 (Fx.date (f.getD (↑i:Int).toNat Fx.nil)),.str (Fx.value (f.getD (↑i:Int).toNat Fx.nil))],.arr 1 3 (zh 3 [.str (Fx.name (f.getD (↑i:Int).toNat Fx.nil)),.int .i64 (Fx.date (f.getD (↑i:Int).toNat Fx.nil)),.str (Fx.value (f.getD (↑i:Int).toNat Fx.nil))])])))) (.side (inR .i64 ((↑i:Int)+(1:Int))) (.leaf (.back 0 [(2,.ptr 0 0),(4,.ptr 2 0),(8,.osl 5 3 0 m.length),(9,.ptr 4 0),(33,.sl f.length 3 (fxG f)),(34,.int .i64 f.length),(35,.int .i64 ((↑i:Int)+(1:Int))),(45,.undef),(46,.undef),(47,.undef),(48,.undef),(49,.undef),(77,.undef),(78,.undef),(79,.undef),(80,.undef),(81,.undef)] [.box [.str (Ca.name a),.str (Ca.into a),.int .i64 (Ca.date a),.str (Ca.ratio a),.str (Ca.extra a)],.box [.sl f.length 3 (fxG f),.sl c.length 4 (chG c)],.box [.nils,.nils],.arr c.length 4 (chG c),.box [.osl 6 3 0 k.length,.osl 3 4 0 c.length],.arr m.length 3 (fxG m),.arr k.length 3 (fxG k),.box [.str (Fx.name (f.getD (↑i:Int).toNat Fx.nil)),.int .i64 (Fx.date (f.getD (↑i:Int).toNat Fx.nil)),.str (Fx.value (f.getD (↑i:Int).toNat Fx.nil))]])))))) (.side (inR .i64 ((↑k.length:Int)+m.length)) (.ite (decide ((1000:Int)<k.length+(↑m.length:Int))) (.leaf (.ret [.agg [.nils,.nils],.int .i64 22] [.box [.str (Ca.name a),.str (Ca.into a),.int .i64 (Ca.date a),.str (Ca.ratio a),.str (Ca.extra a)],.box [.sl f.length 3 (fxG f),.sl c.length 4 (chG c)],.box [.nils,.nils],.arr c.length 4 (chG c),.box [.osl 6 3 0 k.length,.osl 3 4 0 c.length],.arr m.length 3 (fxG m),.arr k.length 3 (fxG k)])) (.ex (fun(x:List Fx×Ca)=>eqL [AV.sl k.length 3 (zg (fxG k) 0),AV.str (Ca.name a),AV.fn 58 [] []] [AV.sl x.1.length 3 (fxG x.1),AV.str (Ca.name x.2),AV.fn 58 [] []]∧x.1.length<1099511627776∧List.Pairwise (fun(x y:Fx)=>cmpF x y<0) x.1) fun n=>.all (fun(r:Nat×Bool)=>r.1=Ca.at_ n.2 n.1) fun n=>.ex (fun(x:List Fx×List Fx×Nat)=>eqL [AV.osl 0 3 0 k.length,AV.int .i64 n.1,AV.osl 1 3 0 m.length] [AV.osl 0 3 0 x.1.length,AV.int .i64 x.2.2,AV.osl 1 3 0 x.2.1.length]∧eqH [.arr k.length 3 (fxG k),.arr m.length 3 (fxG m)] [.arr x.1.length 3 (fxG x.1),.arr x.2.1.length 3 (fxG x.2.1)]∧2=2∧x.2.2≤x.1.length∧x.1.length<1099511627776∧x.2.1.length<1099511627776) fun n=>.all (fun(x:Unit)=>True) fun n_1=>.leaf (.ret [.agg [.osl 6 3 0 (n.1.length+n.2.1.length),.osl 3 4 0 c.length],.int .i64 0] [.box [.str (Ca.name a),.str (Ca.into a),.int .i64 (Ca.date a),.str (Ca.ratio a),.str (Ca.extra a)],.box [.sl f.length 3 (fxG f),.sl c.length 4 (chG c)],.box [.osl 6 3 0 (n.1.length+n.2.1.length),.osl 3 4 0 c.length],.arr c.length 4 (chG c),.box [.osl 6 3 0 (n.1.length+n.2.1.length),.osl 3 4 0 c.length],.dead,.arr (n.1.length+n.2.1.length) 3 (fxG (List.take n.2.2 n.1++n.2.1++List.drop n.2.2 n.1))]))))) (by kernel_rfl) ?_
  simp only [Tree.holds,zd,inR,lo,hi,Int.toNat_natCast]
  refine⟨fun h=> ?_,fun h=> ?_⟩
  ·have hlt:i<f.length:=by have:=of_decide_eq_true h; omega
   obtain⟨x,hx⟩:∃ x,f.getD i Fx.nil=x:=⟨_,rfl⟩
   have hxm:x∈f:=by rw [← hx]; simp [List.getD,hlt]
   have E:=Ca.zbt hlt hie
   have K:=Ca.zar (a:=a) hlt
   have M:=Ca.X9 (a:=a) hlt
   rw [hx] at E K M
   rw [hk] at K
   rw [hm] at M
   have hhit:(bif decide (x.name=a.into) then decide (a.date≤x.date) else false)=a.hit x:=by unfold Ca.hit; cases decide (x.name=a.into)<;>rfl
   have hkeep:(bif !decide (x.name=a.name) then true else decide (x.date<a.date))=a.keep x:=by unfold Ca.keep; cases decide (x.name=a.name)<;>rfl
   simp only [hx,hhit,hkeep]
   refine⟨by omega,fun _=>⟨fun hH=> ?_,fun hH=> ?_⟩⟩
   ·rw [if_pos hH] at M
    refine⟨(a,x.value),⟨by simp [Ca.av],ha,?_⟩,⟨_,rfl⟩,?_⟩
    ·have h3:=uU.1 hE
     have h4:=List.all_eq_true.1 h3.2.1 x hxm
     unfold okF at h4
     simp only [Bool.and_eq_true,decide_eq_true_eq] at h4
     have:=VL h4.2
     show x.value.length<2^38
     omega
    rintro _ rfl
    refine⟨fun h2=> ?_,fun h2=> ?_⟩
    ·have h2:(a.old x.value).2≠0:=by simpa using h2
     have hbd:a.bad x=true:=by unfold Ca.bad; rw [hH,Bool.true_and]; exact decide_eq_true h2
     have hst:=Ca.zdv hlt hie (by rw [hx]; exact hbd)
     rw [hx] at hst
     refine bad _ _ ?_
     unfold Ca.before; rw [if_neg (by simp [hok]),if_neg (by simp [hE]),hst,if_pos h2]
    ·have h2:(a.old x.value).2=0:=by simpa using h2
     have hbd:¬ a.bad x=true:=by unfold Ca.bad; rw [hH,Bool.true_and]; simp [h2]
     rw [if_neg hbd] at E
     refine⟨⟨trivial,Nat.le_refl _,by omega⟩,fun _=>⟨fun hK=> ?_,fun hK=> ?_⟩⟩
     ·rw [if_pos hK] at K
      refine⟨⟨trivial,Nat.le_refl _,by omega⟩,fun _=>⟨by omega,fun _=> ?_⟩⟩
      rw [if_pos trivial]
      refine⟨⟨i+1,hlt,E⟩,by show f.length - (i+1)<f.length - i; omega,by simp [SCb,fxS,zb,K,M],?_,by kernel_rfl,Nat.zero_le _⟩
      have p1:=Zu (l:=m) (x:=⟨a.name,x.date,(a.old x.value).1⟩) (zb _ _ (fxG m))
      have p2:=Zu (l:=k) (x:=x) (zb _ _ (fxG k))
      simp only at p1 p2
      simp [HCb,fxS,chS,K,M,zb,p1,p2]
     ·rw [if_neg (by simpa using hK)] at K
      refine⟨by omega,fun _=> ?_⟩
      rw [if_pos trivial]
      refine⟨⟨i+1,hlt,E⟩,by show f.length - (i+1)<f.length - i; omega,by simp [SCb,fxS,zb,K,M],?_,by kernel_rfl,Nat.zero_le _⟩
      have p1:=Zu (l:=m) (x:=⟨a.name,x.date,(a.old x.value).1⟩) (zb _ _ (fxG m))
      simp only at p1
      simp [HCb,fxS,chS,K,M,zb,p1]
   ·rw [if_neg (by simpa using hH)] at M
    have hbd:¬ a.bad x=true:=by unfold Ca.bad; rw [hH]; simp
    rw [if_neg hbd] at E
    refine⟨fun hK=> ?_,fun hK=> ?_⟩
    ·rw [if_pos hK] at K
     refine⟨⟨trivial,Nat.le_refl _,by omega⟩,fun _=>⟨by omega,fun _=> ?_⟩⟩
     rw [if_pos trivial]
     refine⟨⟨i+1,hlt,E⟩,by show f.length - (i+1)<f.length - i; omega,by simp [SCb,fxS,zb,K,M],?_,by kernel_rfl,Nat.zero_le _⟩
     have p2:=Zu (l:=k) (x:=x) (zb _ _ (fxG k))
     simp [HCb,fxS,chS,K,M,zb,p2]
    ·rw [if_neg (by simpa using hK)] at K
     refine⟨by omega,fun _=> ?_⟩
     rw [if_pos trivial]
     exact⟨⟨i+1,hlt,E⟩,by show f.length - (i+1)<f.length - i; omega,by simp [SCb,fxS,zb,K,M],by simp [HCb,fxS,chS,K,M,zb],by kernel_rfl,Nat.zero_le _⟩
  ·have hge:i=f.length:=by have:=of_decide_eq_false h; omega
   rw [hge,List.take_length] at hk hm hie
   have hB:a.before f c=if 1000<k.length+m.length then(([],[]),22) else((a.join k m,c),0):=by
    unfold Ca.before
    rw [if_neg (by simp [hok]),if_neg (by simp [hE]),if_neg (by simp [hie]),hk,hm]
   refine⟨by omega,fun _=>⟨fun h2=> ?_,fun h2=> ?_⟩⟩
   ·have h2:=of_decide_eq_true h2
    rw [if_pos (by omega)] at hB
    exact bad _ _ hB
   ·have h2:=of_decide_eq_false h2
    rw [if_neg (by omega)] at hB
    have hpk:k.Pairwise fun x y=>cmpF x y<0:=by rw [← hk]; exact(Ca.zfx hE).2
    refine⟨(k,a),⟨by simp [fxS,Wl],by show k.length<2^40; omega,hpk⟩,⟨(a.at_ k,false),rfl⟩,?_⟩
    rintro⟨n,b⟩ hn
    simp only at hn
    subst hn
    refine⟨(k,m,a.at_ k),⟨by simp,by simp [zb],trivial,Ca.zcl,by show k.length<2^40; omega,by show m.length<2^40; omega⟩,⟨(),trivial⟩,fun _ _=> ?_⟩
    have hjl:(a.join k m).length=k.length+m.length:=by
     have:=Ca.zcl (a:=a) (l:=k)
     unfold Ca.join
     simp only [List.length_append,List.length_take,List.length_drop]
     omega
    rw [hB] at hq
    simp only [hjl] at hq
    refine RetR.outs [6,3] rfl rfl (.inl hq) (fun _=>⟨?_,?_⟩) ?_ ?_ rfl
    ·simp [resV,new2,new1,new0,z5,qc]
    ·simp only [List.mem_cons,List.not_mem_nil,or_false,forall_eq_or_imp,forall_eq]
     have:=zgz (zb (k.length+m.length) 3 (fxG (a.join k m)))
     exact⟨by rw [← hjl] at this ⊢; exact this,U4 (zb _ _ _)⟩
    ·simp [resV,exp2,exp1,exp0,z5,ren0,eqA2,eqL1]
    ·exact⟨⟨rfl,rfl,zb _ _ _⟩,⟨rfl,rfl,zb _ _ _⟩,trivial⟩
def Ca.nilA:Ca:=⟨[],[],0,[],[]⟩
def Ca.out(a:Ca):Ca:=if a.ok=true then a else Ca.nilA
def YY:Ctr:=ctrP true (fun a:Ca=>[a.av]) qJ (fun _ (_:Unit)=>True) (fun a _=>(.tup [(Ca.out a).av,.int .i64 (if a.ok=true then 0 else 8)],[]))
noncomputable def GMdA:Nat→Option Ctr:=fun f=>if f=16 then some (ki) else none
theorem zh5:∀ g c,GMdA g=some c→zf Tryz.prog g c:=okIf vE (zx)
theorem zbf:zf Tryz.prog 54 YY:=by
 refine zi (fn:=Tryz.f54) (c:=Tryz.f54.body.getD .skip) rfl rfl rfl fun a ha O w0 Q hq=> ?_
 replace hq:=hq () trivial
 refine zc.run hmix zh5 [] 400 (T:=.ex (fun(x:Ca)=>eqL [AV.agg [AV.str (Ca.name a),AV.str (Ca.into a),AV.int .i64 (Ca.date a),AV.str (Ca.ratio a),AV.str (Ca.extra a)]] [AV.agg [AV.str (Ca.name x),AV.str (Ca.into x),AV.int .i64 (Ca.date x),AV.str (Ca.ratio x),AV.str (Ca.extra x)]]∧qJ x) fun n=>.all (fun(r:Int)=>r=if Ca.ok n=true then(0:Int) else(8:Int)) fun n=>.ite (!decide (n=0)) (.leaf (.ret [.agg [.str #[].toList,.str #[].toList,.int .i64 0,.str #[].toList,.str #[].toList],.int .i64 n] [.box [.str (Ca.name a),.str (Ca.into a),.int .i64 (Ca.date a),.str (Ca.ratio a),.str (Ca.extra a)],.box [.str #[].toList,.str #[].toList,.int .i64 0,.str #[].toList,.str #[].toList]])) (.leaf (.ret [.agg [.str (Ca.name a),.str (Ca.into a),.int .i64 (Ca.date a),.str (Ca.ratio a),.str (Ca.extra a)],.int .i64 0] [.box [.str (Ca.name a),.str (Ca.into a),.int .i64 (Ca.date a),.str (Ca.ratio a),.str (Ca.extra a)],.box [.str (Ca.name a),.str (Ca.into a),.int .i64 (Ca.date a),.str (Ca.ratio a),.str (Ca.extra a)]]))) (by kernel_rfl) ?_
 simp only [Tree.holds,zd]
 refine⟨a,⟨⟨by simp [Ca.av],trivial⟩,ha⟩,⟨_,rfl⟩,?_⟩
 rintro _ rfl
 cases ho:a.ok
 ·simp only [ho,Bool.false_eq_true,if_false,Ca.out] at hq ⊢
  refine⟨fun _=>RetR.out0 hq (fun _=>by simp [resV,new2,new1,new0,qc]) (by simp [resV,exp2,exp1,exp0,ren0,eqA2,eqL1,Ca.av,Ca.nilA]),fun h=>by simp at h⟩
 ·simp only [ho,if_true,Ca.out] at hq ⊢
  refine⟨fun h=>by simp at h,fun _=>RetR.out0 hq (fun _=>by simp [resV,new2,new1,new0,qc]) (by simp [resV,exp2,exp1,exp0,ren0,eqA2,eqL1,Ca.av])⟩
def splA(n:List UInt8)(d:Int)(r:List UInt8):Ca:=⟨n,n,d,r,[48]⟩
def divA(n:List UInt8)(d:Int)(r:List UInt8):Ca:=⟨n,n,d,[49],r⟩
structure SpA where
 n:List UInt8
 d:Int
 r:List UInt8
def splC:Ctr:=ctrP true (fun p:SpA=>[.str p.n,.int .i64 p.d,.str p.r]) (fun p=>p.n.length<2^38∧p.r.length<2^38) (fun _ (_:Unit)=>True) (fun p _=>(.tup [(Ca.out (splA p.n p.d p.r)).av,.int .i64 (if(splA p.n p.d p.r).ok=true then 0 else 8)],[]))
def divC:Ctr:=ctrP true (fun p:SpA=>[.str p.n,.int .i64 p.d,.str p.r]) (fun p=>p.n.length<2^38∧p.r.length<2^38) (fun _ (_:Unit)=>True) (fun p _=>(.tup [(Ca.out (divA p.n p.d p.r)).av,.int .i64 (if(divA p.n p.d p.r).ok=true then 0 else 8)],[]))
noncomputable def GSpl:Nat→Option Ctr:=fun f=>if f=54 then some (YY) else if f=48 then some (qofC) else none
theorem YL:∀ g c,GSpl g=some c→zf Tryz.prog g c:=okIf zbf (okIf zco (zx))
theorem zdb:zf Tryz.prog 20 splC:=by
 refine zi (fn:=Tryz.f20) (c:=Tryz.f20.body.getD .skip) rfl rfl rfl fun p hp O w0 Q hq=> ?_
 obtain⟨n,d,r⟩:=p
 obtain⟨h1,h2⟩:=hp
 replace hq:=hq () trivial
 simp only at hq h1 h2
 refine zc.run hmix YL [] 400 (T:=.ex (fun(x:Nat)=>eqL [AV.int .i64 0] [AV.int .i64 x]∧x≤9) fun n_1=>.all (fun(r:List UInt8)=>r=[UInt8.ofNat (48+n_1)]) fun n_2=>.ex (fun(x:Ca)=>eqL [AV.agg [AV.str n,AV.str n,AV.int .i64 d,AV.str r,AV.str n_2]] [AV.agg [AV.str (Ca.name x),AV.str (Ca.into x),AV.int .i64 (Ca.date x),AV.str (Ca.ratio x),AV.str (Ca.extra x)]]∧qJ x) fun n=>.all (fun(x:Unit)=>True) fun n_3=>.leaf (.ret [.agg [.str (Ca.name (Ca.out n)),.str (Ca.into (Ca.out n)),.int .i64 (Ca.date (Ca.out n)),.str (Ca.ratio (Ca.out n)),.str (Ca.extra (Ca.out n))],.int .i64 (if Ca.ok n=true then(0:Int) else(8:Int))] [.box [.str (Ca.name (Ca.out n)),.str (Ca.into (Ca.out n)),.int .i64 (Ca.date (Ca.out n)),.str (Ca.ratio (Ca.out n)),.str (Ca.extra (Ca.out n))]])) (by kernel_rfl) ?_
 simp only [Tree.holds,zd]
 refine⟨0,⟨⟨⟨rfl,rfl⟩,trivial⟩,by decide⟩,⟨_,rfl⟩,?_⟩
 rintro _ rfl
 refine⟨splA n d r,⟨⟨by simp [Ca.av,splA],trivial⟩,⟨h1,h1,h2,by show 1<_; decide⟩⟩,⟨(),trivial⟩,fun _ _=> ?_⟩
 exact RetR.out0 hq (fun _=>by simp [resV,new2,new1,new0,qc,Ca.av]) (by simp [resV,exp2,exp1,exp0,ren0,eqA2,eqL1,Ca.av])
theorem zde:zf Tryz.prog 27 divC:=by
 refine zi (fn:=Tryz.f27) (c:=Tryz.f27.body.getD .skip) rfl rfl rfl fun p hp O w0 Q hq=> ?_
 obtain⟨n,d,r⟩:=p
 obtain⟨h1,h2⟩:=hp
 replace hq:=hq () trivial
 simp only at hq h1 h2
 refine zc.run hmix YL [] 400 (T:=.ex (fun(x:Nat)=>eqL [AV.int .i64 1] [AV.int .i64 x]∧x≤9) fun n_1=>.all (fun(r:List UInt8)=>r=[UInt8.ofNat (48+n_1)]) fun n_2=>.ex (fun(x:Ca)=>eqL [AV.agg [AV.str n,AV.str n,AV.int .i64 d,AV.str n_2,AV.str r]] [AV.agg [AV.str (Ca.name x),AV.str (Ca.into x),AV.int .i64 (Ca.date x),AV.str (Ca.ratio x),AV.str (Ca.extra x)]]∧qJ x) fun n=>.all (fun(x:Unit)=>True) fun n_3=>.leaf (.ret [.agg [.str (Ca.name (Ca.out n)),.str (Ca.into (Ca.out n)),.int .i64 (Ca.date (Ca.out n)),.str (Ca.ratio (Ca.out n)),.str (Ca.extra (Ca.out n))],.int .i64 (if Ca.ok n=true then(0:Int) else(8:Int))] [.box [.str (Ca.name (Ca.out n)),.str (Ca.into (Ca.out n)),.int .i64 (Ca.date (Ca.out n)),.str (Ca.ratio (Ca.out n)),.str (Ca.extra (Ca.out n))]])) (by kernel_rfl) ?_
 simp only [Tree.holds,zd]
 refine⟨1,⟨⟨⟨rfl,rfl⟩,trivial⟩,by decide⟩,⟨_,rfl⟩,?_⟩
 rintro _ rfl
 refine⟨divA n d r,⟨⟨by simp [Ca.av,divA],trivial⟩,⟨h1,h1,by show 1<_; decide,h2⟩⟩,⟨(),trivial⟩,fun _ _=> ?_⟩
 exact RetR.out0 hq (fun _=>by simp [resV,new2,new1,new0,qc,Ca.av]) (by simp [resV,exp2,exp1,exp0,ren0,eqA2,eqL1,Ca.av])
def nowC:Ctr:=ctrP true (fun _:Unit=>[]) (fun _=>True) (fun _ (_:Unit)=>True) (fun _ _=>(.agg [.int .u8 3,.str [],.str [65,67,77,69],.int .i64 0,.nils],[]))
theorem zdl:zf Tryz.prog 30 nowC:=by
 refine zi (fn:=Tryz.f30) (c:=Tryz.f30.body.getD .skip) rfl rfl rfl fun p hp O w0 Q hq=> ?_
 replace hq:=hq () trivial
 refine zc.run hmix zD [] 400 (T:=.leaf (.ret [.agg [.int .u8 3,.str #[].toList,.str #[(65:UInt8),(67:UInt8),(77:UInt8),(69:UInt8)].toList,.int .i64 0,.nils]] [.box [.int .u8 3,.str #[].toList,.str #[(65:UInt8),(67:UInt8),(77:UInt8),(69:UInt8)].toList,.int .i64 0,.nils]])) (by kernel_rfl) ?_
 simp only [Tree.holds,zd]
 exact RetR.out0 hq (fun _=>by simp [resV,new2,new1,new0,qc]) (by simp [resV,exp2,exp1,exp0,ren0,eqA2])
def uz:Ctr:=ctrP true (fun r:List UInt8=>[.str r]) (fun _=>True) (fun _ (_:Unit)=>True) (fun r _=>(.agg [.int .u8 1,.str r,.str [],.int .i64 0,.nils],[]))
theorem Zf:zf Tryz.prog 29 uz:=by
 refine zi (fn:=Tryz.f29) (c:=Tryz.f29.body.getD .skip) rfl rfl rfl fun r hp O w0 Q hq=> ?_
 replace hq:=hq () trivial
 refine zc.run hmix zD [] 400 (T:=.leaf (.ret [.agg [.int .u8 1,.str r,.str #[].toList,.int .i64 0,.nils]] [.box [.int .u8 1,.str r,.str #[].toList,.int .i64 0,.nils]])) (by kernel_rfl) ?_
 simp only [Tree.holds,zd]
 exact RetR.out0 hq (fun _=>by simp [resV,new2,new1,new0,qc]) (by simp [resV,exp2,exp1,exp0,ren0,eqA2])
def ofC:Ctr:=ctrP false (fun p:Int×Ex×Ex=>[.int .u8 p.1,p.2.1.exA,p.2.2.exA]) (fun _=>True) (fun _ (_:Unit)=>True) (fun p _=>(exD (.mk p.1 [] [] 0 [p.2.1,p.2.2]),[]))
theorem ziz:zf Tryz.prog 28 ofC:=by
 refine zi (fn:=Tryz.f28) (c:=Tryz.f28.body.getD .skip) rfl rfl rfl fun p hp O w0 Q hq=> ?_
 obtain⟨k,x,y⟩:=p
 replace hq:=hq () trivial
 simp only at hq
 refine zc.run hmix zD [] 400 (T:=.leaf (.ret [.agg [.int .u8 k,.str #[].toList,.str #[].toList,.int .i64 0,.osl 3 5 0 2]] [.box [.int .u8 x.kind,.str x.rat,.str x.name,.int .i64 x.date,.sl x.sub.length 5 (Ex.exG x.sub)],.box [.int .u8 y.kind,.str y.rat,.str y.name,.int .i64 y.date,.sl y.sub.length 5 (Ex.exG y.sub)],.box [.int .u8 k,.str #[].toList,.str #[].toList,.int .i64 0,.osl 3 5 0 2],.arr 2 5 (zh 5 [.int .u8 x.kind,.str x.rat,.str x.name,.int .i64 x.date,.sl x.sub.length 5 (Ex.exG x.sub),.int .u8 y.kind,.str y.rat,.str y.name,.int .i64 y.date,.sl y.sub.length 5 (Ex.exG y.sub)])])) (by kernel_rfl) ?_
 simp only [Tree.holds,zd]
 exact RetR.le0 hq (fun h=>by cases h) (LeA.agg ⟨LeA.refl _,LeA.refl _,LeA.refl _,LeA.refl _,Ex.ym (x:=x) (y:=y) ⟨LeA.refl _,LeA.refl _,LeA.refl _,LeA.refl _,Ex.jJ x,LeA.refl _,LeA.refl _,LeA.refl _,LeA.refl _,Ex.jJ y,trivial⟩,trivial⟩)
theorem zc7{f:List Fx}{c:List Ch}{z:Int} : LeA (exp2 [.arr f.length 3 (fxG f),.arr c.length 4 (chG c)] [] (.tup [.agg [.osl 0 3 0 f.length,.osl 1 4 0 c.length],.int .i64 z])) (.tup [envA f c,.int .i64 z]):=by
 refine qo ?_
 simp [exp2,exp1,exp0,z5,frz1,jx,ren0,eqA2,eqL1,envA,fxS,chS,Wl]
theorem zf1{f:List Fx}{c:List Ch}{z:Int} : new2 [.arr f.length 3 (fxG f),.arr c.length 4 (chG c)] [] (.tup [.agg [.osl 0 3 0 f.length,.osl 1 4 0 c.length],.int .i64 z]):=by
 simp only [new2,List.mem_cons,List.not_mem_nil,or_false,forall_eq_or_imp,forall_eq,new1,new0]
 refine⟨⟨fun _=> ?_,fun _=> ?_⟩,rfl⟩
 ·simp only [exp0,z5,frz1,jx,List.getElem?_cons_zero,if_true,YK]
  exact fun j o hj ho=>YD _ _ _ ho
 ·simp only [exp0,z5,frz1,jx,List.getElem?_cons_succ,List.getElem?_cons_zero,if_true,YK]
  exact fun j o hj ho=>Up _ _ _ ho
def ZF:Ctr:=ctrP true (fun p:Ca×(List Fx×List Ch)=>[p.1.av,envA p.2.1 p.2.2]) (fun p=>qJ p.1∧envP p.2∧p.2.1.length≤1000000) (fun p r=>r=p.1.before p.2.1 p.2.2) (fun _ (r:(List Fx×List Ch)×Int)=>(.tup [envA r.1.1 r.1.2,.int .i64 r.2],[]))
theorem Z8:zf Tryz.prog 21 ZF:=zf.frozen YA (fun _ _ _ _=>zf1) (fun _ _ _ _=>zc7)
def acme:List UInt8:=[65,67,77,69]
def zp:Ex:=.mk 3 [] acme 0 []
def jY(r:List UInt8):Ex:=.mk 1 r [] 0 []
def exOf(k:Int)(x y:Ex):Ex:=.mk k [] [] 0 [x,y]
def aSpl:Ca:=splA acme 10 [50]
def aDiv:Ca:=divA acme 10 [51,47,50]
def x1:Ex:=exOf 5 zp (jY [51,48])
def w1:Ex:=exOf 5 (exOf 6 (jY [50]) zp) (jY [51,48])
def w2:Ex:=exOf 4 zp (jY [51,47,50])
theorem W9:aSpl.ok=true:=by decide +kernel
theorem ze2:aDiv.ok=true:=by decide +kernel
theorem zli:aSpl.expr x1=(w1,0):=by kernel_rfl
theorem zla:aDiv.expr zp=(w2,0):=by kernel_rfl
theorem al_v:aSpl.before [⟨acme,12,[49,56]⟩] []=(([⟨acme,12,[51,54]⟩],[]),0):=by kernel_rfl
def VJ:Ctr:=ctrP true (fun _:Unit=>[]) (fun _=>True) (fun _ r=>r=true) (fun _ (r:Bool)=>(.bool r,[]))
noncomputable def zld:Nat→Option Ctr:=fun f=>if f=30 then some (nowC) else if f=29 then some (uz) else if f=28 then some (ofC) else if f=20 then some (splC) else if f=27 then some (divC) else if f=10 then some (YB) else if f=21 then some (ZF) else if f=31 then some (QH) else if f=25 then some (WR) else none
theorem vD:∀ g c,zld g=some c→zf Tryz.prog g c:=okIf zdl (okIf Zf (okIf ziz (okIf zdb (okIf zde (okIf YO (okIf Z8 (okIf V7 (okIf KU (zx)))))))))
noncomputable def LA0:List Go.Sx.Item:=xx 12 (Tryz.f18.body.getD .skip)
noncomputable def LA2:List Go.Sx.Item:=LA0.drop 2
noncomputable def LA3:List Go.Sx.Item:=LA0.drop 3
noncomputable def LA4:List Go.Sx.Item:=LA0.drop 4
noncomputable def LA5:List Go.Sx.Item:=LA0.drop 5
noncomputable def LA6:List Go.Sx.Item:=LA0.drop 6
noncomputable def LA7:List Go.Sx.Item:=LA0.drop 7
def bSpl:Blk:=.box [.str [65,67,77,69],.str [65,67,77,69],.int .i64 10,.str [50],.str [48]]
def bDiv:Blk:=.box [.str [65,67,77,69],.str [65,67,77,69],.int .i64 10,.str [49],.str [51,47,50]]
def bEx(x:Ex):Blk:=.box x.cellsD
def SA2:KV:=[(0,.bool false),(1,.ptr 0 0),(2,.int .i64 0)]
def SA3:KV:=[(0,.bool false),(1,.ptr 0 0),(2,.int .i64 0),(3,.ptr 1 0),(4,.int .i64 0)]
def SA4:KV:=[(0,.bool false),(1,.ptr 0 0),(2,.int .i64 0),(3,.ptr 1 0),(4,.int .i64 0),(5,.ptr 3 0),(6,.int .i64 0)]
def SA5:KV:=SA4++[(7,.ptr 4 0),(8,.int .i64 0)]
def SA6:KV:=SA4++[(7,.ptr 4 0),(8,.int .i64 0),(9,.ptr 5 0),(10,.int .i64 0)]
def SA7:KV:=SA4++[(7,.ptr 4 0),(8,.int .i64 0),(9,.ptr 5 0),(10,.int .i64 0),(11,.ptr 6 0)]
def HA4:Heap:=[bSpl,bEx w1,.dead,.box [fxS [⟨acme,12,[51,54]⟩],chS []]]
def HA5:Heap:=[bSpl,bEx w1,.dead,.box [fxS [⟨acme,12,[51,54]⟩],chS []],bDiv]
def HA6:Heap:=[bSpl,bEx w1,.dead,.box [fxS [⟨acme,12,[51,54]⟩],chS []],bDiv,bEx w2]
def HA7:Heap:=[bSpl,bEx w1,.dead,.box [fxS [⟨acme,12,[51,54]⟩],chS []],bDiv,bEx w2,bEx w1]
theorem wT{A B:Prop}(a:A)(b:B):(∃ _:Bool,True)∧∀ n:Bool,True→((n=true→A)∧(n=false→B)):=⟨⟨true,trivial⟩,fun _ _=>⟨fun _=>a,fun _=>b⟩⟩
theorem kW{p:Unit→Prop}(h:p ()):∃ n:Unit,(eqL [] []∧True)∧(∃ _:Unit,True)∧∀ _:Unit,True→p n:=⟨(),⟨trivial,trivial⟩,⟨(),trivial⟩,fun _ _=>h⟩
theorem xv{r:List UInt8}{p:List UInt8→Prop}(h:p r):∃ n:List UInt8,(eqL [.str r] [.str n]∧True)∧(∃ _:Unit,True)∧∀ _:Unit,True→p n:=⟨r,⟨⟨rfl,trivial⟩,trivial⟩,⟨(),trivial⟩,fun _ _=>h⟩
theorem vW{k d:Int}{r n:List UInt8} : eqA (.agg [.int .u8 k,.str r,.str n,.int .i64 d,.nils]) (Ex.mk k r n d []).exA:=by simp [Ex.exA,Ex.exS,Ex.kind,Ex.rat,Ex.name,Ex.date,Ex.sub]
theorem yR{k:Int}{a b:AV}(x y:Ex)(ha:eqA a x.exA)(hb:eqA b y.exA){p:Int×Ex×Ex→Prop}(h:p (k,x,y)):∃ n:Int×Ex×Ex,(eqL [.int .u8 k,a,b] [.int .u8 n.1,n.2.1.exA,n.2.2.exA]∧True)∧(∃ _:Unit,True)∧∀ _:Unit,True→p n:=⟨(k,x,y),⟨⟨⟨rfl,rfl⟩,ha,hb,trivial⟩,trivial⟩,⟨(),trivial⟩,fun _ _=>h⟩
theorem yl{a b:AV}(c:Ca)(x:Ex)(ha:eqA a c.av)(hb:eqA b x.exA)(ht:qp c)(h1:x.size<1048576)(h2:x.zu<1073741824){p:Ca×Ex→Prop}(h:p (c,x)):∃ n:Ca×Ex,(eqL [a,b] [n.1.av,n.2.exA]∧qp n.1∧n.2.size<1048576∧n.2.zu<1073741824)∧(∃ _:Unit,True)∧∀ _:Unit,True→p n:=⟨(c,x),⟨⟨ha,hb,trivial⟩,ht,h1,h2⟩,⟨(),trivial⟩,fun _ _=>h⟩
theorem Ki:eqA (.agg [.str [65,67,77,69],.str [65,67,77,69],.int .i64 10,.str [50],.str [48]]) aSpl.av:=⟨rfl,rfl,⟨rfl,rfl⟩,rfl,rfl,trivial⟩
theorem zkv:eqA (.agg [.str [65,67,77,69],.str [65,67,77,69],.int .i64 10,.str [49],.str [51,47,50]]) aDiv.av:=⟨rfl,rfl,⟨rfl,rfl⟩,rfl,rfl,trivial⟩
theorem Y8{x:Fx} : eqG 1 3 (zg (zh 3 [.str x.name,.int .i64 x.date,.str x.value]) 0) (fxG [x]):=by
 intro j o hj ho
 obtain rfl:j=0:=by omega
 rcases(show o=0∨o=1∨o=2 by omega) with rfl | rfl | rfl<;>rfl
theorem YJ:Ca.out (splA acme 10 [50])=aSpl:=by unfold Ca.out; exact if_pos W9
theorem zh0:Ca.out (divA acme 10 [51,47,50])=aDiv:=by unfold Ca.out; exact if_pos ze2
theorem XV:zf Tryz.prog 18 VJ:=by
 refine zi (fn:=Tryz.f18) (c:=Tryz.f18.body.getD .skip) rfl rfl rfl fun p hp O w0 Q hq=> ?_
 replace hq:=hq _ rfl
 have ht:qp aSpl:=⟨by decide,by decide,by decide,by decide⟩
 have ht2:qp aDiv:=⟨by decide,by decide,by decide,by decide⟩
 refine zc.spine 12 ?_
 refine zc.cutL (ι:=Unit) LA0 2 0 (fun _=>SA2) (fun _=>[bSpl]) (by kernel_rfl) (by kernel_rfl) ?_ fun _=> ?_
 ·refine zc.run hmix vD [0,1,2] 400 (T:=.ex (fun(x:SpA)=>eqL [AV.str #[(65:UInt8),(67:UInt8),(77:UInt8),(69:UInt8)].toList,AV.int .i64 10,AV.str #[(50:UInt8)].toList] [AV.str (SpA.n x),AV.int .i64 (SpA.d x),AV.str (SpA.r x)]∧List.length (SpA.n x)<274877906944∧List.length (SpA.r x)<274877906944) fun n=>.all (fun(x:Unit)=>True) fun n_1=>.leaf (.back 0 [(0,.bool false),(1,.ptr 0 0),(2,.int .i64 (if Ca.ok (splA (SpA.n n) (SpA.d n) (SpA.r n))=true then(0:Int) else(8:Int)))] [.box [.str (Ca.name (Ca.out (splA (SpA.n n) (SpA.d n) (SpA.r n)))),.str (Ca.into (Ca.out (splA (SpA.n n) (SpA.d n) (SpA.r n)))),.int .i64 (Ca.date (Ca.out (splA (SpA.n n) (SpA.d n) (SpA.r n)))),.str (Ca.ratio (Ca.out (splA (SpA.n n) (SpA.d n) (SpA.r n)))),.str (Ca.extra (Ca.out (splA (SpA.n n) (SpA.d n) (SpA.r n))))]])) (by kernel_rfl) ?_
  simp only [Tree.holds,zd]
  refine⟨⟨acme,10,[50]⟩,⟨⟨rfl,⟨rfl,rfl⟩,rfl,trivial⟩,by decide,by decide⟩,?_⟩
  have e8:(if(splA acme 10 [50]).ok=true then(0:Int) else 8)=0:=if_pos W9
  simp only [YJ,e8]
  refine⟨⟨(),trivial⟩,fun _ _=> ?_⟩
  rw [if_pos trivial]
  exact⟨(),by simp [SA2],by simp [bSpl,aSpl,splA,acme],by kernel_rfl,Nat.zero_le _⟩
 show zE none Tryz.prog Tryz.f18 O 0 w0 [] _ _ LA2 _
 refine zc.cutL (ι:=Unit) LA2 1 0 (fun _=>SA3) (fun _=>[bSpl,bEx w1]) (by kernel_rfl) (by kernel_rfl) ?_ fun _=> ?_
 ·refine zc.run hmix vD [0,1,2,3,4] 400 (T:=.all (fun(x:Bool)=>True) fun n=>.ite n (.ex (fun(x:Unit)=>eqL [] []∧True) fun n=>.all (fun(x:Unit)=>True) fun n=>.all (fun(x:Bool)=>True) fun n=>.ite n (.ex (fun(x:List UInt8)=>eqL [AV.str #[(51:UInt8),(48:UInt8)].toList] [AV.str x]∧True) fun n=>.all (fun(x:Unit)=>True) fun n_1=>.all (fun(x:Bool)=>True) fun n_2=>.ite n_2 (.ex (fun(x:Int×Ex×Ex)=>eqL [AV.int .u8 5,AV.agg [AV.int .u8 3,AV.str [],AV.str [(65:UInt8),(67:UInt8),(77:UInt8),(69:UInt8)],AV.int .i64 0,AV.nils],AV.agg [AV.int .u8 1,AV.str n,AV.str [],AV.int .i64 0,AV.nils]] [AV.int .u8 x.1,AV.agg [AV.int .u8 x.2.1.kind,AV.str x.2.1.rat,AV.str x.2.1.name,AV.int .i64 x.2.1.date,AV.sl x.2.1.sub.length 5 (Ex.exG x.2.1.sub)],AV.agg [AV.int .u8 x.2.2.kind,AV.str x.2.2.rat,AV.str x.2.2.name,AV.int .i64 x.2.2.date,AV.sl x.2.2.sub.length 5 (Ex.exG x.2.2.sub)]]∧True) fun n=>.all (fun(x:Unit)=>True) fun n_3=>.all (fun(x:Bool)=>True) fun n_4=>.ite n_4 (.ex (fun(x:Ca×Ex)=>eqL [AV.agg [AV.str [(65:UInt8),(67:UInt8),(77:UInt8),(69:UInt8)],AV.str [(65:UInt8),(67:UInt8),(77:UInt8),(69:UInt8)],AV.int .i64 10,AV.str [(50:UInt8)],AV.str [(48:UInt8)]],AV.agg [AV.int .u8 (Ex.kind (Ex.mk n.1 [] [] (0:Int) [n.2.1,n.2.2])),AV.str (Ex.rat (Ex.mk n.1 [] [] (0:Int) [n.2.1,n.2.2])),AV.str (Ex.name (Ex.mk n.1 [] [] (0:Int) [n.2.1,n.2.2])),AV.int .i64 (Ex.date (Ex.mk n.1 [] [] (0:Int) [n.2.1,n.2.2])),AV.sl (List.length (Ex.sub (Ex.mk n.1 [] [] (0:Int) [n.2.1,n.2.2]))) 5 (Ex.deep (Ex.mk n.1 [] [] (0:Int) [n.2.1,n.2.2]))]] [AV.agg [AV.str (Ca.name x.1),AV.str (Ca.into x.1),AV.int .i64 (Ca.date x.1),AV.str (Ca.ratio x.1),AV.str (Ca.extra x.1)],AV.agg [AV.int .u8 x.2.kind,AV.str x.2.rat,AV.str x.2.name,AV.int .i64 x.2.date,AV.sl x.2.sub.length 5 (Ex.exG x.2.sub)]]∧qp x.1∧Ex.size x.2<1048576∧Ex.zu x.2<1073741824) fun n=>.all (fun(x:Unit)=>True) fun n_5=>.leaf (.back 0 [(0,.bool false),(1,.ptr 0 0),(2,.int .i64 0),(3,.ptr 1 0),(4,.int .i64 (Prod.snd (Ca.expr n.1 n.2)))] [.box [.str [(65:UInt8),(67:UInt8),(77:UInt8),(69:UInt8)],.str [(65:UInt8),(67:UInt8),(77:UInt8),(69:UInt8)],.int .i64 10,.str [(50:UInt8)],.str [(48:UInt8)]],.box [.int .u8 (Ex.kind (Prod.fst (Ca.expr n.1 n.2))),.str (Ex.rat (Prod.fst (Ca.expr n.1 n.2))),.str (Ex.name (Prod.fst (Ca.expr n.1 n.2))),.int .i64 (Ex.date (Prod.fst (Ca.expr n.1 n.2))),.sl (List.length (Ex.sub (Prod.fst (Ca.expr n.1 n.2)))) 5 (Ex.deep (Prod.fst (Ca.expr n.1 n.2)))]])) (.ex (fun(x:Ca×Ex)=>eqL [AV.agg [AV.str [(65:UInt8),(67:UInt8),(77:UInt8),(69:UInt8)],AV.str [(65:UInt8),(67:UInt8),(77:UInt8),(69:UInt8)],AV.int .i64 10,AV.str [(50:UInt8)],AV.str [(48:UInt8)]],AV.agg [AV.int .u8 (Ex.kind (Ex.mk n.1 [] [] (0:Int) [n.2.1,n.2.2])),AV.str (Ex.rat (Ex.mk n.1 [] [] (0:Int) [n.2.1,n.2.2])),AV.str (Ex.name (Ex.mk n.1 [] [] (0:Int) [n.2.1,n.2.2])),AV.int .i64 (Ex.date (Ex.mk n.1 [] [] (0:Int) [n.2.1,n.2.2])),AV.sl (List.length (Ex.sub (Ex.mk n.1 [] [] (0:Int) [n.2.1,n.2.2]))) 5 (Ex.deep (Ex.mk n.1 [] [] (0:Int) [n.2.1,n.2.2]))]] [AV.agg [AV.str (Ca.name x.1),AV.str (Ca.into x.1),AV.int .i64 (Ca.date x.1),AV.str (Ca.ratio x.1),AV.str (Ca.extra x.1)],AV.agg [AV.int .u8 x.2.kind,AV.str x.2.rat,AV.str x.2.name,AV.int .i64 x.2.date,AV.sl x.2.sub.length 5 (Ex.exG x.2.sub)]]∧qp x.1∧Ex.size x.2<1048576∧Ex.zu x.2<1073741824) fun n=>.all (fun(x:Unit)=>True) fun n_5=>.leaf (.back 0 [(0,.bool false),(1,.ptr 0 0),(2,.int .i64 0),(3,.ptr 1 0),(4,.int .i64 (Prod.snd (Ca.expr n.1 n.2)))] [.box [.str [(65:UInt8),(67:UInt8),(77:UInt8),(69:UInt8)],.str [(65:UInt8),(67:UInt8),(77:UInt8),(69:UInt8)],.int .i64 10,.str [(50:UInt8)],.str [(48:UInt8)]],.box [.int .u8 (Ex.kind (Prod.fst (Ca.expr n.1 n.2))),.str (Ex.rat (Prod.fst (Ca.expr n.1 n.2))),.str (Ex.name (Prod.fst (Ca.expr n.1 n.2))),.int .i64 (Ex.date (Prod.fst (Ca.expr n.1 n.2))),.sl (List.length (Ex.sub (Prod.fst (Ca.expr n.1 n.2)))) 5 (Ex.deep (Prod.fst (Ca.expr n.1 n.2)))]]))) (.ex (fun(x:Int×Ex×Ex)=>eqL [AV.int .u8 5,AV.agg [AV.int .u8 3,AV.str [],AV.str [(65:UInt8),(67:UInt8),(77:UInt8),(69:UInt8)],AV.int .i64 0,AV.nils],AV.agg [AV.int .u8 1,AV.str n,AV.str [],AV.int .i64 0,AV.nils]] [AV.int .u8 x.1,AV.agg [AV.int .u8 x.2.1.kind,AV.str x.2.1.rat,AV.str x.2.1.name,AV.int .i64 x.2.1.date,AV.sl x.2.1.sub.length 5 (Ex.exG x.2.1.sub)],AV.agg [AV.int .u8 x.2.2.kind,AV.str x.2.2.rat,AV.str x.2.2.name,AV.int .i64 x.2.2.date,AV.sl x.2.2.sub.length 5 (Ex.exG x.2.2.sub)]]∧True) fun n=>.all (fun(x:Unit)=>True) fun n_3=>.ex (fun(x:Ca×Ex)=>eqL [AV.agg [AV.str [(65:UInt8),(67:UInt8),(77:UInt8),(69:UInt8)],AV.str [(65:UInt8),(67:UInt8),(77:UInt8),(69:UInt8)],AV.int .i64 10,AV.str [(50:UInt8)],AV.str [(48:UInt8)]],AV.agg [AV.int .u8 (Ex.kind (Ex.mk n.1 [] [] (0:Int) [n.2.1,n.2.2])),AV.str (Ex.rat (Ex.mk n.1 [] [] (0:Int) [n.2.1,n.2.2])),AV.str (Ex.name (Ex.mk n.1 [] [] (0:Int) [n.2.1,n.2.2])),AV.int .i64 (Ex.date (Ex.mk n.1 [] [] (0:Int) [n.2.1,n.2.2])),AV.sl (List.length (Ex.sub (Ex.mk n.1 [] [] (0:Int) [n.2.1,n.2.2]))) 5 (Ex.deep (Ex.mk n.1 [] [] (0:Int) [n.2.1,n.2.2]))]] [AV.agg [AV.str (Ca.name x.1),AV.str (Ca.into x.1),AV.int .i64 (Ca.date x.1),AV.str (Ca.ratio x.1),AV.str (Ca.extra x.1)],AV.agg [AV.int .u8 x.2.kind,AV.str x.2.rat,AV.str x.2.name,AV.int .i64 x.2.date,AV.sl x.2.sub.length 5 (Ex.exG x.2.sub)]]∧qp x.1∧Ex.size x.2<1048576∧Ex.zu x.2<1073741824) fun n=>.all (fun(x:Unit)=>True) fun n_4=>.leaf (.back 0 [(0,.bool false),(1,.ptr 0 0),(2,.int .i64 0),(3,.ptr 1 0),(4,.int .i64 (Prod.snd (Ca.expr n.1 n.2)))] [.box [.str [(65:UInt8),(67:UInt8),(77:UInt8),(69:UInt8)],.str [(65:UInt8),(67:UInt8),(77:UInt8),(69:UInt8)],.int .i64 10,.str [(50:UInt8)],.str [(48:UInt8)]],.box [.int .u8 (Ex.kind (Prod.fst (Ca.expr n.1 n.2))),.str (Ex.rat (Prod.fst (Ca.expr n.1 n.2))),.str (Ex.name (Prod.fst (Ca.expr n.1 n.2))),.int .i64 (Ex.date (Prod.fst (Ca.expr n.1 n.2))),.sl (List.length (Ex.sub (Prod.fst (Ca.expr n.1 n.2)))) 5 (Ex.deep (Prod.fst (Ca.expr n.1 n.2)))]]))) (.ex (fun(x:List UInt8)=>eqL [AV.str #[(51:UInt8),(48:UInt8)].toList] [AV.str x]∧True) fun n=>.all (fun(x:Unit)=>True) fun n_1=>.ex (fun(x:Int×Ex×Ex)=>eqL [AV.int .u8 5,AV.agg [AV.int .u8 3,AV.str [],AV.str [(65:UInt8),(67:UInt8),(77:UInt8),(69:UInt8)],AV.int .i64 0,AV.nils],AV.agg [AV.int .u8 1,AV.str n,AV.str [],AV.int .i64 0,AV.nils]] [AV.int .u8 x.1,AV.agg [AV.int .u8 x.2.1.kind,AV.str x.2.1.rat,AV.str x.2.1.name,AV.int .i64 x.2.1.date,AV.sl x.2.1.sub.length 5 (Ex.exG x.2.1.sub)],AV.agg [AV.int .u8 x.2.2.kind,AV.str x.2.2.rat,AV.str x.2.2.name,AV.int .i64 x.2.2.date,AV.sl x.2.2.sub.length 5 (Ex.exG x.2.2.sub)]]∧True) fun n=>.all (fun(x:Unit)=>True) fun n_2=>.ex (fun(x:Ca×Ex)=>eqL [AV.agg [AV.str [(65:UInt8),(67:UInt8),(77:UInt8),(69:UInt8)],AV.str [(65:UInt8),(67:UInt8),(77:UInt8),(69:UInt8)],AV.int .i64 10,AV.str [(50:UInt8)],AV.str [(48:UInt8)]],AV.agg [AV.int .u8 (Ex.kind (Ex.mk n.1 [] [] (0:Int) [n.2.1,n.2.2])),AV.str (Ex.rat (Ex.mk n.1 [] [] (0:Int) [n.2.1,n.2.2])),AV.str (Ex.name (Ex.mk n.1 [] [] (0:Int) [n.2.1,n.2.2])),AV.int .i64 (Ex.date (Ex.mk n.1 [] [] (0:Int) [n.2.1,n.2.2])),AV.sl (List.length (Ex.sub (Ex.mk n.1 [] [] (0:Int) [n.2.1,n.2.2]))) 5 (Ex.deep (Ex.mk n.1 [] [] (0:Int) [n.2.1,n.2.2]))]] [AV.agg [AV.str (Ca.name x.1),AV.str (Ca.into x.1),AV.int .i64 (Ca.date x.1),AV.str (Ca.ratio x.1),AV.str (Ca.extra x.1)],AV.agg [AV.int .u8 x.2.kind,AV.str x.2.rat,AV.str x.2.name,AV.int .i64 x.2.date,AV.sl x.2.sub.length 5 (Ex.exG x.2.sub)]]∧qp x.1∧Ex.size x.2<1048576∧Ex.zu x.2<1073741824) fun n=>.all (fun(x:Unit)=>True) fun n_3=>.leaf (.back 0 [(0,.bool false),(1,.ptr 0 0),(2,.int .i64 0),(3,.ptr 1 0),(4,.int .i64 (Prod.snd (Ca.expr n.1 n.2)))] [.box [.str [(65:UInt8),(67:UInt8),(77:UInt8),(69:UInt8)],.str [(65:UInt8),(67:UInt8),(77:UInt8),(69:UInt8)],.int .i64 10,.str [(50:UInt8)],.str [(48:UInt8)]],.box [.int .u8 (Ex.kind (Prod.fst (Ca.expr n.1 n.2))),.str (Ex.rat (Prod.fst (Ca.expr n.1 n.2))),.str (Ex.name (Prod.fst (Ca.expr n.1 n.2))),.int .i64 (Ex.date (Prod.fst (Ca.expr n.1 n.2))),.sl (List.length (Ex.sub (Prod.fst (Ca.expr n.1 n.2)))) 5 (Ex.deep (Prod.fst (Ca.expr n.1 n.2)))]]))) (.ex (fun(x:Unit)=>eqL [] []∧True) fun n=>.all (fun(x:Unit)=>True) fun n=>.ex (fun(x:List UInt8)=>eqL [AV.str #[(51:UInt8),(48:UInt8)].toList] [AV.str x]∧True) fun n=>.all (fun(x:Unit)=>True) fun n_1=>.ex (fun(x:Int×Ex×Ex)=>eqL [AV.int .u8 5,AV.agg [AV.int .u8 3,AV.str [],AV.str [(65:UInt8),(67:UInt8),(77:UInt8),(69:UInt8)],AV.int .i64 0,AV.nils],AV.agg [AV.int .u8 1,AV.str n,AV.str [],AV.int .i64 0,AV.nils]] [AV.int .u8 x.1,AV.agg [AV.int .u8 x.2.1.kind,AV.str x.2.1.rat,AV.str x.2.1.name,AV.int .i64 x.2.1.date,AV.sl x.2.1.sub.length 5 (Ex.exG x.2.1.sub)],AV.agg [AV.int .u8 x.2.2.kind,AV.str x.2.2.rat,AV.str x.2.2.name,AV.int .i64 x.2.2.date,AV.sl x.2.2.sub.length 5 (Ex.exG x.2.2.sub)]]∧True) fun n=>.all (fun(x:Unit)=>True) fun n_2=>.ex (fun(x:Ca×Ex)=>eqL [AV.agg [AV.str [(65:UInt8),(67:UInt8),(77:UInt8),(69:UInt8)],AV.str [(65:UInt8),(67:UInt8),(77:UInt8),(69:UInt8)],AV.int .i64 10,AV.str [(50:UInt8)],AV.str [(48:UInt8)]],AV.agg [AV.int .u8 (Ex.kind (Ex.mk n.1 [] [] (0:Int) [n.2.1,n.2.2])),AV.str (Ex.rat (Ex.mk n.1 [] [] (0:Int) [n.2.1,n.2.2])),AV.str (Ex.name (Ex.mk n.1 [] [] (0:Int) [n.2.1,n.2.2])),AV.int .i64 (Ex.date (Ex.mk n.1 [] [] (0:Int) [n.2.1,n.2.2])),AV.sl (List.length (Ex.sub (Ex.mk n.1 [] [] (0:Int) [n.2.1,n.2.2]))) 5 (Ex.deep (Ex.mk n.1 [] [] (0:Int) [n.2.1,n.2.2]))]] [AV.agg [AV.str (Ca.name x.1),AV.str (Ca.into x.1),AV.int .i64 (Ca.date x.1),AV.str (Ca.ratio x.1),AV.str (Ca.extra x.1)],AV.agg [AV.int .u8 x.2.kind,AV.str x.2.rat,AV.str x.2.name,AV.int .i64 x.2.date,AV.sl x.2.sub.length 5 (Ex.exG x.2.sub)]]∧qp x.1∧Ex.size x.2<1048576∧Ex.zu x.2<1073741824) fun n=>.all (fun(x:Unit)=>True) fun n_3=>.leaf (.back 0 [(0,.bool false),(1,.ptr 0 0),(2,.int .i64 0),(3,.ptr 1 0),(4,.int .i64 (Prod.snd (Ca.expr n.1 n.2)))] [.box [.str [(65:UInt8),(67:UInt8),(77:UInt8),(69:UInt8)],.str [(65:UInt8),(67:UInt8),(77:UInt8),(69:UInt8)],.int .i64 10,.str [(50:UInt8)],.str [(48:UInt8)]],.box [.int .u8 (Ex.kind (Prod.fst (Ca.expr n.1 n.2))),.str (Ex.rat (Prod.fst (Ca.expr n.1 n.2))),.str (Ex.name (Prod.fst (Ca.expr n.1 n.2))),.int .i64 (Ex.date (Prod.fst (Ca.expr n.1 n.2))),.sl (List.length (Ex.sub (Prod.fst (Ca.expr n.1 n.2)))) 5 (Ex.deep (Prod.fst (Ca.expr n.1 n.2)))]]))) (by kernel_rfl) ?_
  simp only [Tree.holds,zd]
  repeat' first
   | apply wT
   | apply kW
   | apply xv
   | apply yR zp (jY [51,48]) vW vW
   | apply yl aSpl x1 Ki (qb x1) ht (by decide) (by decide)
  all_goals
   simp only [zli]
   rw [if_pos trivial]
  all_goals exact⟨(),by simp [SA3],⟨za _,za _,trivial⟩,by kernel_rfl,Nat.zero_le _⟩
 show zE none Tryz.prog Tryz.f18 O 0 w0 [] _ _ LA3 _
 refine zc.cutL (ι:=Unit) LA3 1 0 (fun _=>SA4) (fun _=>HA4) (by kernel_rfl) (by kernel_rfl) ?_ fun _=> ?_
 ·refine zc.run hmix vD [0,1,2,3,4,5,6] 400 (T:=.ex (fun(x:Ca×List Fx×List Ch)=>eqL [AV.agg [AV.str [(65:UInt8),(67:UInt8),(77:UInt8),(69:UInt8)],AV.str [(65:UInt8),(67:UInt8),(77:UInt8),(69:UInt8)],AV.int .i64 10,AV.str [(50:UInt8)],AV.str [(48:UInt8)]],AV.agg [AV.sl 1 3 (zg (zh 3 [AV.str #[(65:UInt8),(67:UInt8),(77:UInt8),(69:UInt8)].toList,AV.int .i64 12,AV.str #[(49:UInt8),(56:UInt8)].toList]) 0),AV.nils]] [AV.agg [AV.str (Ca.name x.1),AV.str (Ca.into x.1),AV.int .i64 (Ca.date x.1),AV.str (Ca.ratio x.1),AV.str (Ca.extra x.1)],AV.agg [AV.sl x.2.1.length 3 (fxG x.2.1),AV.sl x.2.2.length 4 (chG x.2.2)]]∧qJ x.1∧envP x.2∧x.2.1.length≤1000000) fun n=>.all (fun(r:(List Fx×List Ch)×Int)=>r=Ca.before n.1 n.2.1 n.2.2) fun n=>.leaf (.back 0 [(0,.bool false),(1,.ptr 0 0),(2,.int .i64 0),(3,.ptr 1 0),(4,.int .i64 0),(5,.ptr 3 0),(6,.int .i64 n.2)] [.box [.str [(65:UInt8),(67:UInt8),(77:UInt8),(69:UInt8)],.str [(65:UInt8),(67:UInt8),(77:UInt8),(69:UInt8)],.int .i64 10,.str [(50:UInt8)],.str [(48:UInt8)]],.box [.int .u8 5,.str w1.rat,.str w1.name,.int .i64 0,.sl 2 5 w1.deep],.arr 1 3 (zh 3 [.str #[(65:UInt8),(67:UInt8),(77:UInt8),(69:UInt8)].toList,.int .i64 12,.str #[(49:UInt8),(56:UInt8)].toList]),.box [.sl n.1.1.length 3 (fxG n.1.1),.sl n.1.2.length 4 (chG n.1.2)]])) (by kernel_rfl) ?_
  simp only [Tree.holds,zd]
  refine⟨(aSpl,[⟨acme,12,[49,56]⟩],[]),⟨⟨Ki,⟨⟨rfl,rfl,Y8 (x:=⟨acme,12,[49,56]⟩)⟩,by simp [chS],trivial⟩,trivial⟩,⟨by decide,by decide,by decide,by decide⟩,⟨by decide,by decide,fun j hj=> ?_,fun j hj=>by cases hj⟩,by decide⟩,⟨_,rfl⟩,?_⟩
  ·have:j=0:=by have:j<1:=hj; omega
   subst this
   exact⟨by decide,by decide⟩
  rintro _ rfl
  rw [if_pos trivial]
  simp only [al_v]
  exact⟨(),by simp [SA4],⟨za _,za _,trivial,za _,trivial⟩,by kernel_rfl,Nat.zero_le _⟩
 show zE none Tryz.prog Tryz.f18 O 0 w0 [] _ _ LA4 _
 refine zc.cutL (ι:=Unit) LA4 1 0 (fun _=>SA5) (fun _=>HA5) (by kernel_rfl) (by kernel_rfl) ?_ fun _=> ?_
 ·refine zc.run hmix vD [0,1,2,3,4,5,6,7,8] 400 (T:=.ex (fun(x:SpA)=>eqL [AV.str #[(65:UInt8),(67:UInt8),(77:UInt8),(69:UInt8)].toList,AV.int .i64 10,AV.str #[(51:UInt8),(47:UInt8),(50:UInt8)].toList] [AV.str (SpA.n x),AV.int .i64 (SpA.d x),AV.str (SpA.r x)]∧List.length (SpA.n x)<274877906944∧List.length (SpA.r x)<274877906944) fun n=>.all (fun(x:Unit)=>True) fun n_1=>.leaf (.back 0 [(0,.bool false),(1,.ptr 0 0),(2,.int .i64 0),(3,.ptr 1 0),(4,.int .i64 0),(5,.ptr 3 0),(6,.int .i64 0),(7,.ptr 4 0),(8,.int .i64 (if Ca.ok (divA (SpA.n n) (SpA.d n) (SpA.r n))=true then(0:Int) else(8:Int)))] [.box [.str [(65:UInt8),(67:UInt8),(77:UInt8),(69:UInt8)],.str [(65:UInt8),(67:UInt8),(77:UInt8),(69:UInt8)],.int .i64 10,.str [(50:UInt8)],.str [(48:UInt8)]],.box [.int .u8 5,.str w1.rat,.str w1.name,.int .i64 0,.sl 2 5 w1.deep],.dead,.box [.sl 1 3 (fxG [{ name:=acme,date:=(12:Int),value:=[(51:UInt8),(54:UInt8)] }]),.sl 0 4 (chG [])],.box [.str (Ca.name (Ca.out (divA (SpA.n n) (SpA.d n) (SpA.r n)))),.str (Ca.into (Ca.out (divA (SpA.n n) (SpA.d n) (SpA.r n)))),.int .i64 (Ca.date (Ca.out (divA (SpA.n n) (SpA.d n) (SpA.r n)))),.str (Ca.ratio (Ca.out (divA (SpA.n n) (SpA.d n) (SpA.r n)))),.str (Ca.extra (Ca.out (divA (SpA.n n) (SpA.d n) (SpA.r n))))]])) (by kernel_rfl) ?_
  simp only [Tree.holds,zd]
  refine⟨⟨acme,10,[51,47,50]⟩,⟨⟨rfl,⟨rfl,rfl⟩,rfl,trivial⟩,by decide,by decide⟩,?_⟩
  have e8:(if(divA acme 10 [51,47,50]).ok=true then(0:Int) else 8)=0:=if_pos ze2
  simp only [zh0,e8]
  refine⟨⟨(),trivial⟩,fun _ _=> ?_⟩
  rw [if_pos trivial]
  exact⟨(),by simp [SA5,SA4],⟨za _,za _,trivial,za _,za _,trivial⟩,by kernel_rfl,Nat.zero_le _⟩
 show zE none Tryz.prog Tryz.f18 O 0 w0 [] _ _ LA5 _
 refine zc.cutL (ι:=Unit) LA5 1 0 (fun _=>SA6) (fun _=>HA6) (by kernel_rfl) (by kernel_rfl) ?_ fun _=> ?_
 ·refine zc.run hmix vD [0,1,2,3,4,5,6,7,8,9,10] 400 (T:=.all (fun(x:Bool)=>True) fun n=>.ite n (.ex (fun(x:Unit)=>eqL [] []∧True) fun n=>.all (fun(x:Unit)=>True) fun n=>.all (fun(x:Bool)=>True) fun n=>.ite n (.ex (fun(x:Ca×Ex)=>eqL [AV.agg [AV.str [(65:UInt8),(67:UInt8),(77:UInt8),(69:UInt8)],AV.str [(65:UInt8),(67:UInt8),(77:UInt8),(69:UInt8)],AV.int .i64 10,AV.str [(49:UInt8)],AV.str [(51:UInt8),(47:UInt8),(50:UInt8)]],AV.agg [AV.int .u8 3,AV.str [],AV.str [(65:UInt8),(67:UInt8),(77:UInt8),(69:UInt8)],AV.int .i64 0,AV.nils]] [AV.agg [AV.str (Ca.name x.1),AV.str (Ca.into x.1),AV.int .i64 (Ca.date x.1),AV.str (Ca.ratio x.1),AV.str (Ca.extra x.1)],AV.agg [AV.int .u8 x.2.kind,AV.str x.2.rat,AV.str x.2.name,AV.int .i64 x.2.date,AV.sl x.2.sub.length 5 (Ex.exG x.2.sub)]]∧qp x.1∧Ex.size x.2<1048576∧Ex.zu x.2<1073741824) fun n=>.all (fun(x:Unit)=>True) fun n_1=>.leaf (.back 0 [(0,.bool false),(1,.ptr 0 0),(2,.int .i64 0),(3,.ptr 1 0),(4,.int .i64 0),(5,.ptr 3 0),(6,.int .i64 0),(7,.ptr 4 0),(8,.int .i64 0),(9,.ptr 5 0),(10,.int .i64 (Prod.snd (Ca.expr n.1 n.2)))] [.box [.str [(65:UInt8),(67:UInt8),(77:UInt8),(69:UInt8)],.str [(65:UInt8),(67:UInt8),(77:UInt8),(69:UInt8)],.int .i64 10,.str [(50:UInt8)],.str [(48:UInt8)]],.box [.int .u8 5,.str w1.rat,.str w1.name,.int .i64 0,.sl 2 5 w1.deep],.dead,.box [.sl 1 3 (fxG [{ name:=acme,date:=(12:Int),value:=[(51:UInt8),(54:UInt8)] }]),.sl 0 4 (chG [])],.box [.str [(65:UInt8),(67:UInt8),(77:UInt8),(69:UInt8)],.str [(65:UInt8),(67:UInt8),(77:UInt8),(69:UInt8)],.int .i64 10,.str [(49:UInt8)],.str [(51:UInt8),(47:UInt8),(50:UInt8)]],.box [.int .u8 (Ex.kind (Prod.fst (Ca.expr n.1 n.2))),.str (Ex.rat (Prod.fst (Ca.expr n.1 n.2))),.str (Ex.name (Prod.fst (Ca.expr n.1 n.2))),.int .i64 (Ex.date (Prod.fst (Ca.expr n.1 n.2))),.sl (List.length (Ex.sub (Prod.fst (Ca.expr n.1 n.2)))) 5 (Ex.deep (Prod.fst (Ca.expr n.1 n.2)))]])) (.ex (fun(x:Ca×Ex)=>eqL [AV.agg [AV.str [(65:UInt8),(67:UInt8),(77:UInt8),(69:UInt8)],AV.str [(65:UInt8),(67:UInt8),(77:UInt8),(69:UInt8)],AV.int .i64 10,AV.str [(49:UInt8)],AV.str [(51:UInt8),(47:UInt8),(50:UInt8)]],AV.agg [AV.int .u8 3,AV.str [],AV.str [(65:UInt8),(67:UInt8),(77:UInt8),(69:UInt8)],AV.int .i64 0,AV.nils]] [AV.agg [AV.str (Ca.name x.1),AV.str (Ca.into x.1),AV.int .i64 (Ca.date x.1),AV.str (Ca.ratio x.1),AV.str (Ca.extra x.1)],AV.agg [AV.int .u8 x.2.kind,AV.str x.2.rat,AV.str x.2.name,AV.int .i64 x.2.date,AV.sl x.2.sub.length 5 (Ex.exG x.2.sub)]]∧qp x.1∧Ex.size x.2<1048576∧Ex.zu x.2<1073741824) fun n=>.all (fun(x:Unit)=>True) fun n_1=>.leaf (.back 0 [(0,.bool false),(1,.ptr 0 0),(2,.int .i64 0),(3,.ptr 1 0),(4,.int .i64 0),(5,.ptr 3 0),(6,.int .i64 0),(7,.ptr 4 0),(8,.int .i64 0),(9,.ptr 5 0),(10,.int .i64 (Prod.snd (Ca.expr n.1 n.2)))] [.box [.str [(65:UInt8),(67:UInt8),(77:UInt8),(69:UInt8)],.str [(65:UInt8),(67:UInt8),(77:UInt8),(69:UInt8)],.int .i64 10,.str [(50:UInt8)],.str [(48:UInt8)]],.box [.int .u8 5,.str w1.rat,.str w1.name,.int .i64 0,.sl 2 5 w1.deep],.dead,.box [.sl 1 3 (fxG [{ name:=acme,date:=(12:Int),value:=[(51:UInt8),(54:UInt8)] }]),.sl 0 4 (chG [])],.box [.str [(65:UInt8),(67:UInt8),(77:UInt8),(69:UInt8)],.str [(65:UInt8),(67:UInt8),(77:UInt8),(69:UInt8)],.int .i64 10,.str [(49:UInt8)],.str [(51:UInt8),(47:UInt8),(50:UInt8)]],.box [.int .u8 (Ex.kind (Prod.fst (Ca.expr n.1 n.2))),.str (Ex.rat (Prod.fst (Ca.expr n.1 n.2))),.str (Ex.name (Prod.fst (Ca.expr n.1 n.2))),.int .i64 (Ex.date (Prod.fst (Ca.expr n.1 n.2))),.sl (List.length (Ex.sub (Prod.fst (Ca.expr n.1 n.2)))) 5 (Ex.deep (Prod.fst (Ca.expr n.1 n.2)))]]))) (.ex (fun(x:Unit)=>eqL [] []∧True) fun n=>.all (fun(x:Unit)=>True) fun n=>.ex (fun(x:Ca×Ex)=>eqL [AV.agg [AV.str [(65:UInt8),(67:UInt8),(77:UInt8),(69:UInt8)],AV.str [(65:UInt8),(67:UInt8),(77:UInt8),(69:UInt8)],AV.int .i64 10,AV.str [(49:UInt8)],AV.str [(51:UInt8),(47:UInt8),(50:UInt8)]],AV.agg [AV.int .u8 3,AV.str [],AV.str [(65:UInt8),(67:UInt8),(77:UInt8),(69:UInt8)],AV.int .i64 0,AV.nils]] [AV.agg [AV.str (Ca.name x.1),AV.str (Ca.into x.1),AV.int .i64 (Ca.date x.1),AV.str (Ca.ratio x.1),AV.str (Ca.extra x.1)],AV.agg [AV.int .u8 x.2.kind,AV.str x.2.rat,AV.str x.2.name,AV.int .i64 x.2.date,AV.sl x.2.sub.length 5 (Ex.exG x.2.sub)]]∧qp x.1∧Ex.size x.2<1048576∧Ex.zu x.2<1073741824) fun n=>.all (fun(x:Unit)=>True) fun n_1=>.leaf (.back 0 [(0,.bool false),(1,.ptr 0 0),(2,.int .i64 0),(3,.ptr 1 0),(4,.int .i64 0),(5,.ptr 3 0),(6,.int .i64 0),(7,.ptr 4 0),(8,.int .i64 0),(9,.ptr 5 0),(10,.int .i64 (Prod.snd (Ca.expr n.1 n.2)))] [.box [.str [(65:UInt8),(67:UInt8),(77:UInt8),(69:UInt8)],.str [(65:UInt8),(67:UInt8),(77:UInt8),(69:UInt8)],.int .i64 10,.str [(50:UInt8)],.str [(48:UInt8)]],.box [.int .u8 5,.str w1.rat,.str w1.name,.int .i64 0,.sl 2 5 w1.deep],.dead,.box [.sl 1 3 (fxG [{ name:=acme,date:=(12:Int),value:=[(51:UInt8),(54:UInt8)] }]),.sl 0 4 (chG [])],.box [.str [(65:UInt8),(67:UInt8),(77:UInt8),(69:UInt8)],.str [(65:UInt8),(67:UInt8),(77:UInt8),(69:UInt8)],.int .i64 10,.str [(49:UInt8)],.str [(51:UInt8),(47:UInt8),(50:UInt8)]],.box [.int .u8 (Ex.kind (Prod.fst (Ca.expr n.1 n.2))),.str (Ex.rat (Prod.fst (Ca.expr n.1 n.2))),.str (Ex.name (Prod.fst (Ca.expr n.1 n.2))),.int .i64 (Ex.date (Prod.fst (Ca.expr n.1 n.2))),.sl (List.length (Ex.sub (Prod.fst (Ca.expr n.1 n.2)))) 5 (Ex.deep (Prod.fst (Ca.expr n.1 n.2)))]]))) (by kernel_rfl) ?_
  simp only [Tree.holds,zd]
  repeat' first
   | apply wT
   | apply kW
   | apply yl aDiv zp zkv vW ht2 (by decide) (by decide)
  all_goals
   simp only [zla]
   rw [if_pos trivial]
  all_goals exact⟨(),by simp [SA6,SA4],⟨za _,za _,trivial,za _,za _,za _,trivial⟩,by kernel_rfl,Nat.zero_le _⟩
 show zE none Tryz.prog Tryz.f18 O 0 w0 [] _ _ LA6 _
 refine zc.cutL (ι:=Unit) LA6 1 0 (fun _=>SA7) (fun _=>HA7) (by kernel_rfl) (by kernel_rfl) ?_ fun _=> ?_
 ·refine zc.run hmix vD [0,1,2,3,4,5,6,7,8,9,10,11] 400 (T:=.ex (fun(x:List UInt8)=>eqL [AV.str #[(50:UInt8)].toList] [AV.str x]∧True) fun n=>.all (fun(x:Unit)=>True) fun n_1=>.ex (fun(x:Unit)=>eqL [] []∧True) fun n_2=>.all (fun(x:Unit)=>True) fun n_3=>.ex (fun(x:Int×Ex×Ex)=>eqL [AV.int .u8 6,AV.agg [AV.int .u8 1,AV.str n,AV.str [],AV.int .i64 0,AV.nils],AV.agg [AV.int .u8 3,AV.str [],AV.str [(65:UInt8),(67:UInt8),(77:UInt8),(69:UInt8)],AV.int .i64 0,AV.nils]] [AV.int .u8 x.1,AV.agg [AV.int .u8 x.2.1.kind,AV.str x.2.1.rat,AV.str x.2.1.name,AV.int .i64 x.2.1.date,AV.sl x.2.1.sub.length 5 (Ex.exG x.2.1.sub)],AV.agg [AV.int .u8 x.2.2.kind,AV.str x.2.2.rat,AV.str x.2.2.name,AV.int .i64 x.2.2.date,AV.sl x.2.2.sub.length 5 (Ex.exG x.2.2.sub)]]∧True) fun n=>.all (fun(x:Unit)=>True) fun n_4=>.ex (fun(x:List UInt8)=>eqL [AV.str #[(51:UInt8),(48:UInt8)].toList] [AV.str x]∧True) fun n_5=>.all (fun(x:Unit)=>True) fun n_6=>.ex (fun(x:Int×Ex×Ex)=>eqL [AV.int .u8 5,AV.agg [AV.int .u8 (Ex.kind (Ex.mk n.1 [] [] (0:Int) [n.2.1,n.2.2])),AV.str (Ex.rat (Ex.mk n.1 [] [] (0:Int) [n.2.1,n.2.2])),AV.str (Ex.name (Ex.mk n.1 [] [] (0:Int) [n.2.1,n.2.2])),AV.int .i64 (Ex.date (Ex.mk n.1 [] [] (0:Int) [n.2.1,n.2.2])),AV.sl (List.length (Ex.sub (Ex.mk n.1 [] [] (0:Int) [n.2.1,n.2.2]))) 5 (Ex.deep (Ex.mk n.1 [] [] (0:Int) [n.2.1,n.2.2]))],AV.agg [AV.int .u8 1,AV.str n_5,AV.str [],AV.int .i64 0,AV.nils]] [AV.int .u8 x.1,AV.agg [AV.int .u8 x.2.1.kind,AV.str x.2.1.rat,AV.str x.2.1.name,AV.int .i64 x.2.1.date,AV.sl x.2.1.sub.length 5 (Ex.exG x.2.1.sub)],AV.agg [AV.int .u8 x.2.2.kind,AV.str x.2.2.rat,AV.str x.2.2.name,AV.int .i64 x.2.2.date,AV.sl x.2.2.sub.length 5 (Ex.exG x.2.2.sub)]]∧True) fun n=>.all (fun(x:Unit)=>True) fun n_7=>.leaf (.back 0 [(0,.bool false),(1,.ptr 0 0),(2,.int .i64 0),(3,.ptr 1 0),(4,.int .i64 0),(5,.ptr 3 0),(6,.int .i64 0),(7,.ptr 4 0),(8,.int .i64 0),(9,.ptr 5 0),(10,.int .i64 0),(11,.ptr 6 0)] [.box [.str [(65:UInt8),(67:UInt8),(77:UInt8),(69:UInt8)],.str [(65:UInt8),(67:UInt8),(77:UInt8),(69:UInt8)],.int .i64 10,.str [(50:UInt8)],.str [(48:UInt8)]],.box [.int .u8 5,.str w1.rat,.str w1.name,.int .i64 0,.sl 2 5 w1.deep],.dead,.box [.sl 1 3 (fxG [{ name:=acme,date:=(12:Int),value:=[(51:UInt8),(54:UInt8)] }]),.sl 0 4 (chG [])],.box [.str [(65:UInt8),(67:UInt8),(77:UInt8),(69:UInt8)],.str [(65:UInt8),(67:UInt8),(77:UInt8),(69:UInt8)],.int .i64 10,.str [(49:UInt8)],.str [(51:UInt8),(47:UInt8),(50:UInt8)]],.box [.int .u8 4,.str w2.rat,.str w2.name,.int .i64 0,.sl 2 5 w2.deep],.box [.int .u8 (Ex.kind (Ex.mk n.1 [] [] (0:Int) [n.2.1,n.2.2])),.str (Ex.rat (Ex.mk n.1 [] [] (0:Int) [n.2.1,n.2.2])),.str (Ex.name (Ex.mk n.1 [] [] (0:Int) [n.2.1,n.2.2])),.int .i64 (Ex.date (Ex.mk n.1 [] [] (0:Int) [n.2.1,n.2.2])),.sl (List.length (Ex.sub (Ex.mk n.1 [] [] (0:Int) [n.2.1,n.2.2]))) 5 (Ex.deep (Ex.mk n.1 [] [] (0:Int) [n.2.1,n.2.2]))]])) (by kernel_rfl) ?_
  simp only [Tree.holds,zd]
  repeat' first
   | apply wT
   | apply kW
   | apply xv
   | apply yR (jY [50]) zp vW vW
   | apply yR (exOf 6 (jY [50]) zp) (jY [51,48]) (qb _) vW
  all_goals rw [if_pos trivial]
  all_goals exact⟨(),by simp [SA7,SA4],⟨za _,za _,trivial,za _,za _,za _,za _,trivial⟩,by kernel_rfl,Nat.zero_le _⟩
 show zE none Tryz.prog Tryz.f18 O 0 w0 [] _ _ LA7 _
 refine zc.run hmix vD [0,1,2,3,4,5,6,7,8,9,10,11] 400 (T:=.ex (fun(x:Ex×Ex)=>(bif decide ((0:Int)=0) then decide ((0:Int)=0) else false)=true→eqL [AV.agg [AV.int .u8 5,AV.str w1.rat,AV.str w1.name,AV.int .i64 0,AV.sl 2 5 w1.deep],AV.agg [AV.int .u8 5,AV.str w1.rat,AV.str w1.name,AV.int .i64 0,AV.sl 2 5 w1.deep]] [AV.agg [AV.int .u8 x.1.kind,AV.str x.1.rat,AV.str x.1.name,AV.int .i64 x.1.date,AV.sl x.1.sub.length 5 (Ex.exG x.1.sub)],AV.agg [AV.int .u8 x.2.kind,AV.str x.2.rat,AV.str x.2.name,AV.int .i64 x.2.date,AV.sl x.2.sub.length 5 (Ex.exG x.2.sub)]]∧Ex.size x.1<1152921504606846976) fun n=>.all (fun(x:Bool)=>(bif decide ((0:Int)=0) then decide ((0:Int)=0) else false)=true→(x=true↔n.1=n.2)) fun n=>.ite ((bif bif bif decide ((0:Int)=0) then decide ((0:Int)=0) else false then n else false then decide ((0:Int)=0) else false) == true) (.ex (fun(x:(List Fx×List Ch)×List Fx×List Ch)=>(bif bif bif decide ((0:Int)=0) then decide ((0:Int)=0) else false then n else false then decide ((0:Int)=0) else false)=true→eqL [AV.agg [AV.sl 1 3 (fxG [{ name:=acme,date:=(12:Int),value:=[(51:UInt8),(54:UInt8)] }]),AV.sl 0 4 (chG [])],AV.agg [AV.sl 1 3 (zg (zh 3 [AV.str #[(65:UInt8),(67:UInt8),(77:UInt8),(69:UInt8)].toList,AV.int .i64 12,AV.str #[(51:UInt8),(54:UInt8)].toList]) 0),AV.nils]] [AV.agg [AV.sl x.1.1.length 3 (fxG x.1.1),AV.sl x.1.2.length 4 (chG x.1.2)],AV.agg [AV.sl x.2.1.length 3 (fxG x.2.1),AV.sl x.2.2.length 4 (chG x.2.2)]]∧x.1.1.length<1099511627776∧x.1.2.length<1099511627776) fun n_1=>.all (fun(x:Bool)=>(bif bif bif decide ((0:Int)=0) then decide ((0:Int)=0) else false then n else false then decide ((0:Int)=0) else false)=true→(x=true↔n_1.1=n_1.2)) fun n_2=>.ex (fun(x:Unit)=>(bif bif bif bif bif bif decide ((0:Int)=0) then decide ((0:Int)=0) else false then n else false then decide ((0:Int)=0) else false then n_2 else false then decide ((0:Int)=0) else false then decide ((0:Int)=0) else false)=true→eqL [] []∧True) fun n_3=>.all (fun(x:Unit)=>(bif bif bif bif bif bif decide ((0:Int)=0) then decide ((0:Int)=0) else false then n else false then decide ((0:Int)=0) else false then n_2 else false then decide ((0:Int)=0) else false then decide ((0:Int)=0) else false)=true→True) fun n_4=>.ex (fun(x:List UInt8)=>(bif bif bif bif bif bif decide ((0:Int)=0) then decide ((0:Int)=0) else false then n else false then decide ((0:Int)=0) else false then n_2 else false then decide ((0:Int)=0) else false then decide ((0:Int)=0) else false)=true→eqL [AV.str #[(51:UInt8),(47:UInt8),(50:UInt8)].toList] [AV.str x]∧True) fun n_5=>.all (fun(x:Unit)=>(bif bif bif bif bif bif decide ((0:Int)=0) then decide ((0:Int)=0) else false then n else false then decide ((0:Int)=0) else false then n_2 else false then decide ((0:Int)=0) else false then decide ((0:Int)=0) else false)=true→True) fun n_6=>.ex (fun(x:Int×Ex×Ex)=>(bif bif bif bif bif bif decide ((0:Int)=0) then decide ((0:Int)=0) else false then n else false then decide ((0:Int)=0) else false then n_2 else false then decide ((0:Int)=0) else false then decide ((0:Int)=0) else false)=true→eqL [AV.int .u8 4,AV.agg [AV.int .u8 3,AV.str [],AV.str [(65:UInt8),(67:UInt8),(77:UInt8),(69:UInt8)],AV.int .i64 0,AV.nils],AV.agg [AV.int .u8 1,AV.str n_5,AV.str [],AV.int .i64 0,AV.nils]] [AV.int .u8 x.1,AV.agg [AV.int .u8 x.2.1.kind,AV.str x.2.1.rat,AV.str x.2.1.name,AV.int .i64 x.2.1.date,AV.sl x.2.1.sub.length 5 (Ex.exG x.2.1.sub)],AV.agg [AV.int .u8 x.2.2.kind,AV.str x.2.2.rat,AV.str x.2.2.name,AV.int .i64 x.2.2.date,AV.sl x.2.2.sub.length 5 (Ex.exG x.2.2.sub)]]∧True) fun n_7=>.all (fun(x:Unit)=>(bif bif bif bif bif bif decide ((0:Int)=0) then decide ((0:Int)=0) else false then n else false then decide ((0:Int)=0) else false then n_2 else false then decide ((0:Int)=0) else false then decide ((0:Int)=0) else false)=true→True) fun n_8=>.ex (fun(x:Ex×Ex)=>(bif bif bif bif bif bif decide ((0:Int)=0) then decide ((0:Int)=0) else false then n else false then decide ((0:Int)=0) else false then n_2 else false then decide ((0:Int)=0) else false then decide ((0:Int)=0) else false)=true→eqL [AV.agg [AV.int .u8 4,AV.str w2.rat,AV.str w2.name,AV.int .i64 0,AV.sl 2 5 w2.deep],AV.agg [AV.int .u8 (Ex.kind (Ex.mk n_7.1 [] [] (0:Int) [n_7.2.1,n_7.2.2])),AV.str (Ex.rat (Ex.mk n_7.1 [] [] (0:Int) [n_7.2.1,n_7.2.2])),AV.str (Ex.name (Ex.mk n_7.1 [] [] (0:Int) [n_7.2.1,n_7.2.2])),AV.int .i64 (Ex.date (Ex.mk n_7.1 [] [] (0:Int) [n_7.2.1,n_7.2.2])),AV.sl (List.length (Ex.sub (Ex.mk n_7.1 [] [] (0:Int) [n_7.2.1,n_7.2.2]))) 5 (Ex.deep (Ex.mk n_7.1 [] [] (0:Int) [n_7.2.1,n_7.2.2]))]] [AV.agg [AV.int .u8 x.1.kind,AV.str x.1.rat,AV.str x.1.name,AV.int .i64 x.1.date,AV.sl x.1.sub.length 5 (Ex.exG x.1.sub)],AV.agg [AV.int .u8 x.2.kind,AV.str x.2.rat,AV.str x.2.name,AV.int .i64 x.2.date,AV.sl x.2.sub.length 5 (Ex.exG x.2.sub)]]∧Ex.size x.1<1152921504606846976) fun n_9=>.all (fun(x:Bool)=>(bif bif bif bif bif bif decide ((0:Int)=0) then decide ((0:Int)=0) else false then n else false then decide ((0:Int)=0) else false then n_2 else false then decide ((0:Int)=0) else false then decide ((0:Int)=0) else false)=true→(x=true↔n_9.1=n_9.2)) fun n_10=>.leaf (.ret [.bool (bif bif bif bif bif bif bif decide ((0:Int)=0) then decide ((0:Int)=0) else false then n else false then decide ((0:Int)=0) else false then n_2 else false then decide ((0:Int)=0) else false then decide ((0:Int)=0) else false then n_10 else false)] [.box [.str [(65:UInt8),(67:UInt8),(77:UInt8),(69:UInt8)],.str [(65:UInt8),(67:UInt8),(77:UInt8),(69:UInt8)],.int .i64 10,.str [(50:UInt8)],.str [(48:UInt8)]],.box [.int .u8 5,.str w1.rat,.str w1.name,.int .i64 0,.sl 2 5 w1.deep],.dead,.box [.sl 1 3 (fxG [{ name:=acme,date:=(12:Int),value:=[(51:UInt8),(54:UInt8)] }]),.sl 0 4 (chG [])],.box [.str [(65:UInt8),(67:UInt8),(77:UInt8),(69:UInt8)],.str [(65:UInt8),(67:UInt8),(77:UInt8),(69:UInt8)],.int .i64 10,.str [(49:UInt8)],.str [(51:UInt8),(47:UInt8),(50:UInt8)]],.box [.int .u8 4,.str w2.rat,.str w2.name,.int .i64 0,.sl 2 5 w2.deep],.box [.int .u8 5,.str w1.rat,.str w1.name,.int .i64 0,.sl 2 5 w1.deep],.arr 1 3 (zh 3 [.str #[(65:UInt8),(67:UInt8),(77:UInt8),(69:UInt8)].toList,.int .i64 12,.str #[(51:UInt8),(54:UInt8)].toList])])) (.ex (fun(x:(List Fx×List Ch)×List Fx×List Ch)=>(bif bif bif decide ((0:Int)=0) then decide ((0:Int)=0) else false then n else false then decide ((0:Int)=0) else false)=true→eqL [AV.agg [AV.sl 1 3 (fxG [{ name:=acme,date:=(12:Int),value:=[(51:UInt8),(54:UInt8)] }]),AV.sl 0 4 (chG [])],AV.agg [AV.nils,AV.nils]] [AV.agg [AV.sl x.1.1.length 3 (fxG x.1.1),AV.sl x.1.2.length 4 (chG x.1.2)],AV.agg [AV.sl x.2.1.length 3 (fxG x.2.1),AV.sl x.2.2.length 4 (chG x.2.2)]]∧x.1.1.length<1099511627776∧x.1.2.length<1099511627776) fun n_1=>.all (fun(x:Bool)=>(bif bif bif decide ((0:Int)=0) then decide ((0:Int)=0) else false then n else false then decide ((0:Int)=0) else false)=true→(x=true↔n_1.1=n_1.2)) fun n_2=>.ex (fun(x:Unit)=>(bif bif bif bif bif bif decide ((0:Int)=0) then decide ((0:Int)=0) else false then n else false then decide ((0:Int)=0) else false then n_2 else false then decide ((0:Int)=0) else false then decide ((0:Int)=0) else false)=true→eqL [] []∧True) fun n_3=>.all (fun(x:Unit)=>(bif bif bif bif bif bif decide ((0:Int)=0) then decide ((0:Int)=0) else false then n else false then decide ((0:Int)=0) else false then n_2 else false then decide ((0:Int)=0) else false then decide ((0:Int)=0) else false)=true→True) fun n_4=>.ex (fun(x:List UInt8)=>(bif bif bif bif bif bif decide ((0:Int)=0) then decide ((0:Int)=0) else false then n else false then decide ((0:Int)=0) else false then n_2 else false then decide ((0:Int)=0) else false then decide ((0:Int)=0) else false)=true→eqL [AV.str #[(51:UInt8),(47:UInt8),(50:UInt8)].toList] [AV.str x]∧True) fun n_5=>.all (fun(x:Unit)=>(bif bif bif bif bif bif decide ((0:Int)=0) then decide ((0:Int)=0) else false then n else false then decide ((0:Int)=0) else false then n_2 else false then decide ((0:Int)=0) else false then decide ((0:Int)=0) else false)=true→True) fun n_6=>.ex (fun(x:Int×Ex×Ex)=>(bif bif bif bif bif bif decide ((0:Int)=0) then decide ((0:Int)=0) else false then n else false then decide ((0:Int)=0) else false then n_2 else false then decide ((0:Int)=0) else false then decide ((0:Int)=0) else false)=true→eqL [AV.int .u8 4,AV.agg [AV.int .u8 3,AV.str [],AV.str [(65:UInt8),(67:UInt8),(77:UInt8),(69:UInt8)],AV.int .i64 0,AV.nils],AV.agg [AV.int .u8 1,AV.str n_5,AV.str [],AV.int .i64 0,AV.nils]] [AV.int .u8 x.1,AV.agg [AV.int .u8 x.2.1.kind,AV.str x.2.1.rat,AV.str x.2.1.name,AV.int .i64 x.2.1.date,AV.sl x.2.1.sub.length 5 (Ex.exG x.2.1.sub)],AV.agg [AV.int .u8 x.2.2.kind,AV.str x.2.2.rat,AV.str x.2.2.name,AV.int .i64 x.2.2.date,AV.sl x.2.2.sub.length 5 (Ex.exG x.2.2.sub)]]∧True) fun n_7=>.all (fun(x:Unit)=>(bif bif bif bif bif bif decide ((0:Int)=0) then decide ((0:Int)=0) else false then n else false then decide ((0:Int)=0) else false then n_2 else false then decide ((0:Int)=0) else false then decide ((0:Int)=0) else false)=true→True) fun n_8=>.ex (fun(x:Ex×Ex)=>(bif bif bif bif bif bif decide ((0:Int)=0) then decide ((0:Int)=0) else false then n else false then decide ((0:Int)=0) else false then n_2 else false then decide ((0:Int)=0) else false then decide ((0:Int)=0) else false)=true→eqL [AV.agg [AV.int .u8 4,AV.str w2.rat,AV.str w2.name,AV.int .i64 0,AV.sl 2 5 w2.deep],AV.agg [AV.int .u8 (Ex.kind (Ex.mk n_7.1 [] [] (0:Int) [n_7.2.1,n_7.2.2])),AV.str (Ex.rat (Ex.mk n_7.1 [] [] (0:Int) [n_7.2.1,n_7.2.2])),AV.str (Ex.name (Ex.mk n_7.1 [] [] (0:Int) [n_7.2.1,n_7.2.2])),AV.int .i64 (Ex.date (Ex.mk n_7.1 [] [] (0:Int) [n_7.2.1,n_7.2.2])),AV.sl (List.length (Ex.sub (Ex.mk n_7.1 [] [] (0:Int) [n_7.2.1,n_7.2.2]))) 5 (Ex.deep (Ex.mk n_7.1 [] [] (0:Int) [n_7.2.1,n_7.2.2]))]] [AV.agg [AV.int .u8 x.1.kind,AV.str x.1.rat,AV.str x.1.name,AV.int .i64 x.1.date,AV.sl x.1.sub.length 5 (Ex.exG x.1.sub)],AV.agg [AV.int .u8 x.2.kind,AV.str x.2.rat,AV.str x.2.name,AV.int .i64 x.2.date,AV.sl x.2.sub.length 5 (Ex.exG x.2.sub)]]∧Ex.size x.1<1152921504606846976) fun n_9=>.all (fun(x:Bool)=>(bif bif bif bif bif bif decide ((0:Int)=0) then decide ((0:Int)=0) else false then n else false then decide ((0:Int)=0) else false then n_2 else false then decide ((0:Int)=0) else false then decide ((0:Int)=0) else false)=true→(x=true↔n_9.1=n_9.2)) fun n_10=>.leaf (.ret [.bool (bif bif bif bif bif bif bif decide ((0:Int)=0) then decide ((0:Int)=0) else false then n else false then decide ((0:Int)=0) else false then n_2 else false then decide ((0:Int)=0) else false then decide ((0:Int)=0) else false then n_10 else false)] [.box [.str [(65:UInt8),(67:UInt8),(77:UInt8),(69:UInt8)],.str [(65:UInt8),(67:UInt8),(77:UInt8),(69:UInt8)],.int .i64 10,.str [(50:UInt8)],.str [(48:UInt8)]],.box [.int .u8 5,.str w1.rat,.str w1.name,.int .i64 0,.sl 2 5 w1.deep],.dead,.box [.sl 1 3 (fxG [{ name:=acme,date:=(12:Int),value:=[(51:UInt8),(54:UInt8)] }]),.sl 0 4 (chG [])],.box [.str [(65:UInt8),(67:UInt8),(77:UInt8),(69:UInt8)],.str [(65:UInt8),(67:UInt8),(77:UInt8),(69:UInt8)],.int .i64 10,.str [(49:UInt8)],.str [(51:UInt8),(47:UInt8),(50:UInt8)]],.box [.int .u8 4,.str w2.rat,.str w2.name,.int .i64 0,.sl 2 5 w2.deep],.box [.int .u8 5,.str w1.rat,.str w1.name,.int .i64 0,.sl 2 5 w1.deep]]))) (by kernel_rfl) ?_
 simp only [Tree.holds,zd]
 refine⟨(w1,w1),fun _=>⟨⟨qb w1,qb w1,trivial⟩,by decide⟩,⟨true,fun _=>by simp⟩,fun r1 h1=> ?_⟩
 obtain rfl:r1=true:=(h1 rfl).2 rfl
 refine⟨fun _=> ?_,fun h=>absurd h (by decide)⟩
 refine⟨(([⟨acme,12,[51,54]⟩],[]),([⟨acme,12,[51,54]⟩],[])),fun _=>⟨⟨⟨⟨rfl,rfl,zb _ _ _⟩,⟨rfl,rfl,zb _ _ _⟩,trivial⟩,⟨⟨rfl,rfl,Y8 (x:=⟨acme,12,[51,54]⟩)⟩,by simp,trivial⟩,trivial⟩,by decide,by decide⟩,⟨true,fun _=>by simp⟩,fun r2 h2=> ?_⟩
 obtain rfl:r2=true:=(h2 rfl).2 rfl
 refine⟨(),fun _=>⟨trivial,trivial⟩,⟨(),fun _=>trivial⟩,fun _ _=> ?_⟩
 refine⟨[51,47,50],fun _=>⟨⟨rfl,trivial⟩,trivial⟩,⟨(),fun _=>trivial⟩,fun _ _=> ?_⟩
 refine⟨(4,zp,jY [51,47,50]),fun _=>⟨⟨⟨rfl,rfl⟩,vW,vW,trivial⟩,trivial⟩,⟨(),fun _=>trivial⟩,fun _ _=> ?_⟩
 refine⟨(w2,w2),fun _=>⟨⟨qb w2,qb w2,trivial⟩,by decide⟩,⟨true,fun _=>by simp⟩,fun r3 h3=> ?_⟩
 obtain rfl:r3=true:=(h3 rfl).2 rfl
 exact RetR.scal hq rfl (by simp [resV])
def zio:Ctr:=ctrP false (fun p:Ca×Con=>[p.1.av,p.2.conA]) (fun p=>qp p.1∧p.2.big<2^26∧p.2.nodes≤1000000) (fun _ (_:Unit)=>True) (fun p _=>(.tup [(p.1.conv p.2).1.conD,.int .i64 (p.1.conv p.2).2],[]))
theorem Xw{a:Ca}{c:Con}(ha:qp a)(h1:c.big<2^26):(Ca.whole a.chg c).big<2^39:=by
 obtain⟨_,a2,a3,a4⟩:=ha
 obtain⟨s1,s2⟩:=Ca.yb a c
 have:c.big*(a.into.length+a.ratio.length+a.extra.length)≤2^26*3000:=Nat.mul_le_mul (by omega) (by omega)
 omega
theorem WO{n:Int} : eqA2 (.tup [.agg [.int .u8 0,.str [],.str [],.str [],.int .u8 0,.str [],.str [],.int .i64 0,.nils,.int .i64 0,.nils,.nils],.int .i64 n]) (.tup [Con.nil.conD,.int .i64 n]):=by
 simp [eqA2,eqL1,Con.nil,Ex.nil,Con.conD,Con.outD,Con.dayS,Ex.exS,Con.kind,Con.src,Con.dst,Con.name,Con.x,Con.date,Con.days,Con.sub,Ex.kind,Ex.rat,Ex.name,Ex.date,Ex.sub]
noncomputable def K43:List Go.Sx.Item:=[.code (Tryz.f43.body.getD .skip)]
def HAw(a:Ca):Heap:=[.box [.str a.name,.str a.into,.int .i64 a.date,.str a.ratio,.str a.extra],.box [.fn 41 [] [.ptr 0 0,.ptr 1 0]]]
def wadC(n:Nat):Ctr:=ctrT false false (fun p:Ca×Con=>[p.2.conA,.ptr 0 0,.ptr 1 0]) (fun p=>HAw p.1) (fun p=>p.2.nodes<n∧p.2.big<2^38) (fun _ (_:Unit)=>True) (fun p _=>((Ca.whole p.1.adj p.2).conD,HAw p.1))
def zcw(n:Nat):Ctr:=ctrT false false (fun p:Ca×List Con=>[Con.conS p.2,.fn 41 [] [.ptr 0 0,.ptr 1 0]]) (fun p=>HAw p.1) (fun p=>Con.qL p.2<n∧Con.bigs p.2<2^38) (fun _ (_:Unit)=>True) (fun p _=>(Con.conS (p.2.map (Ca.whole p.1.adj)),HAw p.1))
def SMw(s:List Con)(i:Nat):KV:=[(1,.fn 41 [] [.ptr 0 0,.ptr 1 0]),(5,.osl 2 12 0 i),(8,Con.conS s),(9,.int .i64 (s.length:Int)),(10,.int .i64 (i:Int))]
def HMw(f:Con→Con)(a:Ca)(s:List Con)(i:Nat):Heap:=[.box [.str a.name,.str a.into,.int .i64 a.date,.str a.ratio,.str a.extra],.box [.fn 41 [] [.ptr 0 0,.ptr 1 0]],.arr i 12 (Con.conG (s.map f))]
theorem zhy(n:Nat)(ih:zf Tryz.prog 41 (wadC n)):zf Tryz.prog 43 (zcw n):=by
 refine qI (fn:=Tryz.f43) (c:=Tryz.f43.body.getD .skip) rfl rfl rfl (fun h=>by cases h) fun p hp O w0 σ0 Q hl0 hq=> ?_
 obtain⟨a,s⟩:=p
 obtain⟨h1,h2⟩:=hp
 simp only at h1 h2
 replace hq:=hq () trivial
 have hlen:=Con.ZV s
 refine zc.run hmix (wL ih) [1,5,8,9,10] 400 (T:=.leaf (.loop (Prod.fst (lps K43 0)) (Prod.snd (lps K43 0)) [(1,.fn 41 [] [.ptr 0 0,.ptr 1 0]),(5,.nils),(8,.sl s.length 12 (Con.conG s)),(9,.int .i64 s.length),(10,.int .i64 0)] [.box [.str (Ca.name a),.str (Ca.into a),.int .i64 (Ca.date a),.str (Ca.ratio a),.str (Ca.extra a)],.box [.fn 41 [] [.ptr 0 0,.ptr 1 0]]])) (by kernel_rfl) ?_
 simp only [Tree.holds,zd,inR,lo,hi,Int.toNat_natCast]
 show zE none Tryz.prog Tryz.f43 O 2 w0 σ0 _ _ _ _
 refine zc.bear 5 12 (Con.conG (s.map (Ca.whole a.adj))) rfl (by decide) (by kernel_rfl) ?_
 refine zc.loop (ι:={i:Nat // i≤s.length}) (fun i=>SMw s i.1) (fun i=>HMw (Ca.whole a.adj) a s i.1) (fun i=>s.length - i.1) ⟨0,Nat.zero_le _⟩ 0 ?_ ?_ (by kernel_rfl)
 ·exact⟨by simp [SMw,yS,Con.conS,zb],by simp [HMw,HAw,zb],by kernel_rfl,by show 2≤3; decide⟩
 ·rintro⟨i,hil⟩
  refine zc.run hmix (wL ih) [1,5,8,9,10] 400 (T:=.ite (decide ((↑i:Int)<s.length)) (.side ((0:Int)≤i∧(↑i:Int)<s.length) (.ex (fun(x:Ca×Con)=>eqL [(Con.conD (s.getD (↑i:Int).toNat Con.nil)),AV.ptr 0 0,AV.ptr 1 0] [(Con.conA x.2),AV.ptr 0 0,AV.ptr 1 0]∧eqH [.box [AV.str (Ca.name a),AV.str (Ca.into a),AV.int .i64 (Ca.date a),AV.str (Ca.ratio a),AV.str (Ca.extra a)],.box [AV.fn 41 [] [AV.ptr 0 0,AV.ptr 1 0]]] [.box [AV.str (Ca.name x.1),AV.str (Ca.into x.1),AV.int .i64 (Ca.date x.1),AV.str (Ca.ratio x.1),AV.str (Ca.extra x.1)],.box [AV.fn 41 [] [AV.ptr 0 0,AV.ptr 1 0]]]∧2=2∧Con.nodes x.2<n∧Con.big x.2<274877906944) fun n=>.all (fun(x:Unit)=>True) fun n_1=>.side (0=0∧i≤i∧(i+1)*184≤140737488355328) (.side (inR .i64 ((↑i:Int)+(1:Int))) (.leaf (.back 0 [(1,.fn 41 [] [.ptr 0 0,.ptr 1 0]),(5,.osl 2 12 0 (i+1)),(8,.sl s.length 12 (Con.conG s)),(9,.int .i64 s.length),(10,.int .i64 ((↑i:Int)+(1:Int)))] [.box [.str (Ca.name n.1),.str (Ca.into n.1),.int .i64 (Ca.date n.1),.str (Ca.ratio n.1),.str (Ca.extra n.1)],.box [.fn 41 [] [.ptr 0 0,.ptr 1 0]],.arr (i+1) 12 (appG i (Con.conG (List.map (Ca.whole (Ca.adj a)) s)) (zg (zh 12 (Con.xo (Ca.whole (Ca.adj n.1) n.2))) 0)),.box (Con.xo (s.getD (↑i:Int).toNat Con.nil)),.arr 1 12 (zh 12 (Con.xo (Ca.whole (Ca.adj n.1) n.2)))]))))) (.leaf (.ret [.osl 2 12 0 i] [.box [.str (Ca.name a),.str (Ca.into a),.int .i64 (Ca.date a),.str (Ca.ratio a),.str (Ca.extra a)],.box [.fn 41 [] [.ptr 0 0,.ptr 1 0]],.arr i 12 (Con.conG (List.map (Ca.whole (Ca.adj a)) s))]))) (by kernel_rfl) ?_
  simp only [Tree.holds,zd,inR,lo,hi,Int.toNat_natCast]
  refine⟨fun hlt=> ?_,fun hge=> ?_⟩
  ·have hlt:i<s.length:=by have:=of_decide_eq_true hlt; omega
   have hg:=Con.ye hlt
   have hg2:=Con.Ku hlt
   have ha:eqH [.box [.str a.name,.str a.into,.int .i64 a.date,.str a.ratio,.str a.extra],.box [.fn 41 [] [.ptr 0 0,.ptr 1 0]]] [.box [.str a.name,.str a.into,.int .i64 a.date,.str a.ratio,.str a.extra],.box [.fn 41 [] [.ptr 0 0,.ptr 1 0]]]:=by simp
   refine⟨by omega,fun _=>⟨(a,s.getD i Con.nil),⟨⟨WB _,⟨rfl,rfl⟩,⟨rfl,rfl⟩,trivial⟩,ha,trivial,by show Con.nodes (s.getD i Con.nil)<n; omega,by show Con.big (s.getD i Con.nil)<_; omega⟩,⟨(),trivial⟩,?_⟩⟩
   intro _ _
   refine⟨⟨trivial,Nat.le_refl _,by omega⟩,fun _=>⟨by omega,fun _=> ?_⟩⟩
   rw [if_pos trivial]
   refine⟨⟨i+1,hlt⟩,by show s.length - (i+1)<s.length - i; omega,by simp [SMw,Con.conS,zb],?_,by kernel_rfl,by show 2≤3; decide⟩
   refine⟨⟨rfl,rfl,⟨rfl,rfl⟩,rfl,rfl,trivial⟩,by simp,⟨rfl,rfl,Xr hlt⟩,trivial⟩
  ·have hge:i=(s.map (Ca.whole a.adj)).length:=by have:=of_decide_eq_false hge; simp; omega
   subst hge
   exact RetR.yv [0,1] rfl rfl (by show ∀ j,j<2→_; decide) rfl hq (LeA.sl rfl fun j o hj ho=>by simp only [zg,Nat.zero_add]; exact LeA.refl _) (by simp [expH,expB,exp1,exp0,ren0,HAw,HMw,z5]) rfl
noncomputable def GWd:Nat→Option Ctr:=fun f=>if f=38 then some (uN) else if f=42 then some (YS) else none
theorem zki:∀ g c,GWd g=some c→zf Tryz.prog g c:=okIf Zd (okIf za7 (zx))
noncomputable def GWdc(n:Nat):Nat→Option Ctr:=fun f=>if f=43 then some (zcw n) else GWd f
theorem zhc{n:Nat}(h:zf Tryz.prog 43 (zcw n)):∀ f c,GWdc n f=some c→zf Tryz.prog f c:=by
 intro f c hf
 simp only [GWdc] at hf
 split at hf
 ·rename_i hg; subst hg; cases hf; exact h
 ·exact zki f c hf
theorem zfh(n:Nat)(ih:zf Tryz.prog 41 (wadC n)):zf Tryz.prog 41 (wadC (n+1)):=by
 refine qI (fn:=Tryz.f41) (c:=Tryz.f41.body.getD .skip) rfl rfl rfl (fun h=>by cases h) fun p hp O w0 σ0 Q hl0 hq=> ?_
 obtain⟨a,c⟩:=p
 obtain⟨h1,h2⟩:=hp
 simp only at h1 h2
 replace hq:=hq () trivial
 refine zc.run hmix (zhc (zhy n ih)) [] 400 (T:=.ex (fun(x:Ca×Ex)=>eqL [AV.agg [AV.str (Ca.name a),AV.str (Ca.into a),AV.int .i64 (Ca.date a),AV.str (Ca.ratio a),AV.str (Ca.extra a)],(Ex.exA c.x)] [AV.agg [AV.str (Ca.name x.1),AV.str (Ca.into x.1),AV.int .i64 (Ca.date x.1),AV.str (Ca.ratio x.1),AV.str (Ca.extra x.1)],x.2.exA]∧Ex.size x.2<1099511627776) fun n_1=>.all (fun(x:Unit)=>True) fun n_2=>.ex (fun(x:List Int)=>eqL [AV.sl c.days.length 1 (Con.dayG c.days)] [AV.sl x.length 1 (Con.dayG x)]∧x.length<1099511627776) fun n_3=>.all (fun(x:Unit)=>True) fun n_4=>.ex (fun(x:Ca×List Con)=>eqL [AV.sl c.sub.length 12 (Con.conG c.sub),AV.fn 41 [] [AV.ptr 0 0,AV.ptr 1 0]] [AV.sl x.2.length 12 (Con.conG x.2),AV.fn 41 [] [AV.ptr 0 0,AV.ptr 1 0]]∧eqH [.box [AV.str (Ca.name a),AV.str (Ca.into a),AV.int .i64 (Ca.date a),AV.str (Ca.ratio a),AV.str (Ca.extra a)],.box [AV.fn 41 [] [AV.ptr 0 0,AV.ptr 1 0]]] [.box [AV.str (Ca.name x.1),AV.str (Ca.into x.1),AV.int .i64 (Ca.date x.1),AV.str (Ca.ratio x.1),AV.str (Ca.extra x.1)],.box [AV.fn 41 [] [AV.ptr 0 0,AV.ptr 1 0]]]∧2=2∧Con.qL x.2<n∧Con.bigs x.2<274877906944) fun n=>.all (fun(x:Unit)=>True) fun n_5=>.leaf (.ret [.agg [.int .u8 c.kind,.str c.src,.str c.dst,.str c.name,.int .u8 (Ex.kind (Ca.adj n_1.1 n_1.2)),.str (Ex.rat (Ca.adj n_1.1 n_1.2)),.str (Ex.name (Ca.adj n_1.1 n_1.2)),.int .i64 (Ex.date (Ca.adj n_1.1 n_1.2)),.sl (List.length (Ex.sub (Ca.adj n_1.1 n_1.2))) 5 (Ex.deep (Ca.adj n_1.1 n_1.2)),.int .i64 c.date,.osl 4 1 0 n_3.length,.sl (List.length (List.map (Ca.whole (Ca.adj n.1)) n.2)) 12 (Con.conG (List.map (Ca.whole (Ca.adj n.1)) n.2))]] [.box [.str (Ca.name n.1),.str (Ca.into n.1),.int .i64 (Ca.date n.1),.str (Ca.ratio n.1),.str (Ca.extra n.1)],.box [.fn 41 [] [.ptr 0 0,.ptr 1 0]],.box [.int .u8 c.kind,.str c.src,.str c.dst,.str c.name,.int .u8 (Ex.kind (Ca.adj n_1.1 n_1.2)),.str (Ex.rat (Ca.adj n_1.1 n_1.2)),.str (Ex.name (Ca.adj n_1.1 n_1.2)),.int .i64 (Ex.date (Ca.adj n_1.1 n_1.2)),.sl (List.length (Ex.sub (Ca.adj n_1.1 n_1.2))) 5 (Ex.deep (Ca.adj n_1.1 n_1.2)),.int .i64 c.date,.osl 4 1 0 n_3.length,.sl (List.length (List.map (Ca.whole (Ca.adj n.1)) n.2)) 12 (Con.conG (List.map (Ca.whole (Ca.adj n.1)) n.2))],.box [.int .u8 c.kind,.str c.src,.str c.dst,.str c.name,.int .u8 (Ex.kind (Ca.adj n_1.1 n_1.2)),.str (Ex.rat (Ca.adj n_1.1 n_1.2)),.str (Ex.name (Ca.adj n_1.1 n_1.2)),.int .i64 (Ex.date (Ca.adj n_1.1 n_1.2)),.sl (List.length (Ex.sub (Ca.adj n_1.1 n_1.2))) 5 (Ex.deep (Ca.adj n_1.1 n_1.2)),.int .i64 c.date,.osl 4 1 0 n_3.length,.sl (List.length (List.map (Ca.whole (Ca.adj n.1)) n.2)) 12 (Con.conG (List.map (Ca.whole (Ca.adj n.1)) n.2))],.arr n_3.length 1 (Con.dayG n_3)])) (by kernel_rfl) ?_
 simp only [Tree.holds,zd]
 have hb:=h2
 rw [Con.uo] at hb
 rw [Con.yk] at h1
 simp only [Ca.zdi] at hq
 have ha:eqA (.agg [.str a.name,.str a.into,.int .i64 a.date,.str a.ratio,.str a.extra]) a.av:=⟨rfl,rfl,⟨rfl,rfl⟩,rfl,rfl,trivial⟩
 refine⟨(a,c.x),⟨⟨ha,j1 c.x,trivial⟩,by show c.x.size<_; omega⟩,⟨(),trivial⟩,fun _ _=> ?_⟩
 refine⟨c.days,⟨⟨⟨rfl,rfl,zb _ _ _⟩,trivial⟩,by omega⟩,⟨(),trivial⟩,fun _ _=> ?_⟩
 refine⟨(a,c.sub),⟨⟨⟨rfl,rfl,zb _ _ _⟩,by simp,trivial⟩,by simp,trivial,by show Con.qL c.sub<n; omega,by show Con.bigs c.sub<_; omega⟩,⟨(),trivial⟩,fun _ _=> ?_⟩
 exact RetR.yv [0,1] rfl rfl (by show ∀ j,j<2→_; decide) rfl hq (LeA.agg ⟨LeA.refl _,LeA.refl _,LeA.refl _,LeA.refl _,LeA.refl _,LeA.refl _,LeA.refl _,LeA.refl _,LeA.sl rfl fun j o hj ho=>by rw [Ex.qX _ j o hj ho]; exact LeA.refl _,LeA.refl _,LeA.sl rfl fun j o hj ho=>by simp only [zg,Nat.zero_add]; exact LeA.refl _,Con.jJ (Con.mk c.kind c.src c.dst c.name (a.adj c.x) c.date c.days (c.sub.map (Ca.whole a.adj))),trivial⟩) (by simp [expH,expB,exp1,exp0,ren0,HAw,z5]) rfl
def on(a:Ca)(x:Ex):Bool:=a.onX x.kind x.name x.date
theorem zhr(n:Nat):zf Tryz.prog 41 (wadC n):=by
 induction n with
 | zero=>
  intro args hc Q hq _
  simp only [wadC,ctrT] at hq
  obtain⟨x,⟨_,_,_,h,_⟩,_⟩:=hq
  exact absurd h (Nat.not_lt_zero _)
 | succ n ih=>exact zfh n ih
def Yb:Ctr:=ctrT false false (fun p:Ca×Con=>[p.2.conA,.ptr 0 0,.ptr 1 0]) (fun p=>HAw p.1) (fun p=>p.2.big<2^38) (fun _ (_:Unit)=>True) (fun p _=>((Ca.whole p.1.adj p.2).conD,HAw p.1))
theorem zjs:zf Tryz.prog 41 Yb:=by
 intro args hc Q hq hf
 simp only [Yb,ctrT] at hq
 obtain⟨x,⟨h1,h2,h3,h4⟩,h5⟩:=hq
 exact zhr (x.2.nodes+1) args hc Q ⟨x,⟨h1,h2,h3,Nat.lt_succ_self _,h4⟩,h5⟩ hf
theorem zgy{c:Con}(h:c.errC=0):c.form=true:=by
 unfold Con.errC at h
 split at h
 ·simp at h
 ·split at h
  ·assumption
  ·simp at h
end Go.Proofs.Tryz
end
section
namespace Go.Nov
open Go.Sx
namespace Ca
def more(a:Ca):Nat:=(if a.ratio=[49] then 0 else 2)+(if a.extra=[48] then 0 else 2)
mutual
def grow(a:Ca):Ex→Nat
 | .mk k r n d s=>if a.onX k n d=true then a.more else KE a s
def KE(a:Ca):List Ex→Nat
 | []=>0
 | x::l=>grow a x+KE a l
end
theorem VV{a:Ca}{k d:Int}{n:List UInt8}(h:a.onX k n d=true):k=3∨k=2:=by
 simp [onX] at h
 rcases h.2 with h1 | h1
 ·exact .inl h1
 ·exact .inr h1.1
mutual
theorem zes(a:Ca):∀ x:Ex,x.zJ≠0→(chg a x).size=x.size+grow a x
 | .mk k r n d s,h=>by
  rw [Ex.zJ] at h
  rw [chg,grow]
  by_cases hh:a.onX k n d=true
  ·rw [if_pos hh,if_pos hh]
   obtain⟨_,h2⟩:=ky h (VV hh)
   have:s=[]:=by
    cases s with
    | nil=>rfl
    | cons x s=>rw [Ex.zW] at h2; cases h2
   subst this
   unfold rel more
   split<;>split<;>simp [Tm.opx,Tm.kon,Ex.size,Ex.zr]
  ·rw [if_neg hh,if_neg hh]
   simp only [Ex.size]
   rw [Jo a s (ZW h)]
   omega
theorem Jo(a:Ca):∀ s:List Ex,(∀ p∈Ex.zW s,p≠0)→Ex.zr (chgs a s)=Ex.zr s+KE a s
 | [],_=>by rw [chgs,KE]; rfl
 | x::s,h=>by
  rw [Ex.zW] at h
  rw [chgs,KE]
  simp only [Ex.zr]
  rw [zes a x (h _ (by simp)),Jo a s (fun p hp=>h p (by simp [hp]))]
  omega
end
end Ca
end Go.Nov
end
section
namespace Go.Nov
end Go.Nov
end
section
namespace Go.Nov
open Go.Sx
structure Pt(x y:Ex):Prop where
 x0:x.errX=0
 x1:x.zJ=1
 y0:y.errX=0
 y1:y.zJ=1
 s:x.size+y.size<500
 d1:x.depth<60
 d2:y.depth<60
section
variable {x y:Ex} {day:Int} {f:List Fx} {c:List Ch} (h:Pt x y)
include h
end
end Go.Nov
end
section
namespace Go.Nov
open Go.Sx
section
variable {x:Ex} {day:Int} {f:List Fx} {c:List Ch}
end
structure Lg(p q x y:Ex):Prop where
 p0:p.errX=0
 p1:p.zJ=2
 q0:q.errX=0
 q1:q.zJ=2
 x0:x.errX=0
 x1:x.zJ=1
 y0:y.errX=0
 y1:y.zJ=1
 s:p.size+q.size+x.size+y.size<500
 dp:p.depth<60
 dq:q.depth<60
 dx:x.depth<60
 dy:y.depth<60
section
variable {p q x y:Ex} {day:Int} {f:List Fx} {c:List Ch} (h:Lg p q x y)
include h
end
end Go.Nov
end
section
namespace Go.Nov
open Go.Sx
namespace Ex
mutual
def men(a:List UInt8):Ex→Bool
 | mk _ _ n _ s=>decide (n=a)||mens a s
def mens(a:List UInt8):List Ex→Bool
 | []=>false
 | x::l=>men a x||mens a l
end
mutual
def fixX(day:Int):Ex→Ex
 | mk k r n d s=>mk (if k=3 then 2 else k) r n (if k=3 then day else d) (fixs day s)
def fixs(day:Int):List Ex→List Ex
 | []=>[]
 | x::l=>fixX day x::fixs day l
end
mutual
theorem zbu(day:Int):∀ x:Ex,(fixX day x).size=x.size
 | mk k r n d s=>by rw [fixX,size,size,J4 day s]
theorem J4(day:Int):∀ s:List Ex,zr (fixs day s)=zr s
 | []=>rfl
 | x::l=>by rw [fixs,zr,zr,zbu day x,J4 day l]
end
mutual
theorem UK(day:Int):∀ x:Ex,(fixX day x).depth=x.depth
 | mk k r n d s=>by rw [fixX,depth,depth,ZY day s]
theorem ZY(day:Int):∀ s:List Ex,zy (fixs day s)=zy s
 | []=>rfl
 | x::l=>by rw [fixs,zy,zy,UK day x,ZY day l]
end
mutual
theorem zbh(day:Int):∀ x:Ex,(fixX day x).zu=x.zu
 | mk k r n d s=>by rw [fixX,zu,zu,Qg day s]
theorem Qg(day:Int):∀ s:List Ex,qD (fixs day s)=qD s
 | []=>rfl
 | x::l=>by rw [fixs,qD,qD,zbh day x,Qg day l]
end
theorem zdy{k v:Int}(hk:jN k=true)(h:v∈qu k):v≠0:=by
 have h2:(4≤k∧k≤9)∨(11≤k∧k≤15):=by
  by_cases h1:4≤k∧k≤9
  ·exact .inl h1
  ·by_cases h2:11≤k∧k≤15
   ·exact .inr h2
   ·rw [zks h1 h2] at hk; cases hk
 have h3:k=4∨k=5∨k=6∨k=7∨k=8∨k=9∨k=11∨k=12∨k=13∨k=14∨k=15:=by omega
 rcases h3 with rfl | rfl | rfl | rfl | rfl | rfl | rfl | rfl | rfl | rfl | rfl<;>(revert v; decide)
mutual
theorem zd1{day:Int}(hd:dayB day=true):∀ x:Ex,x.zJ≠0→(fixX day x).zJ=x.zJ
 | mk k r n d s,h=>by
  rw [fixX,zJ,zJ]
  rw [zJ] at h
  by_cases hk:jN k=true
  ·have k3:k≠3:=fun g=>by rw [g] at hk; cases hk
   rw [if_neg k3,if_neg k3]
   have hs:zW s=qu k:=by
    unfold vR at h
    rw [if_pos hk] at h
    by_cases g:r=[]∧n=[]∧d=0∧zW s=qu k
    ·exact g.2.2.2
    ·rw [if_neg g] at h; exact absurd rfl h
   rw [Wb hd s fun v hv=>zdy hk (by rw [← hs]; exact hv)]
  ·have hk:jN k=false:=by simpa using hk
   rw [k7 hk] at h ⊢
   by_cases g:ja k r n d (zW s).length=true
   ·have hl:(zW s).length=0:=by
     unfold ja at g
     simp only [Bool.and_eq_true,decide_eq_true_eq] at g
     exact g.1
    have hs:s=[]:=List.length_eq_zero_iff.1 (by rw [← jl s]; exact hl)
    subst hs
    by_cases k3:k=3
    ·rw [if_pos k3,if_pos k3,if_pos g]
     subst k3
     rw [k7 (by rfl),if_pos]
     unfold ja at g ⊢
     simp only [Bool.and_eq_true,decide_eq_true_eq,show ¬ (3:Int)=1 by decide,show ¬ (3:Int)=2 by decide,show ¬ (2:Int)=1 by decide,if_false,if_true] at g ⊢
     exact⟨rfl,⟨g.2.1.1,g.2.1.2⟩,hd⟩
    ·rw [if_neg k3,if_neg k3,fixs,k7 hk]
   ·rw [if_neg g] at h; exact absurd rfl h
theorem Wb{day:Int}(hd:dayB day=true):∀ s:List Ex,(∀ v∈zW s,v≠0)→zW (fixs day s)=zW s
 | [],_=>rfl
 | x::l,h=>by
  rw [fixs,zW,zW]
  rw [zW] at h
  rw [zd1 hd x (h _ (by simp)),Wb hd l fun v hv=>h v (by simp [hv])]
end
theorem zgq(f:List Fx)(day k:Int)(r n:List UInt8)(d:Int)(l:List Ev):evN f day (if k=3 then 2 else k) r n (if k=3 then day else d) l=evN f day k r n d l:=by
 by_cases k3:k=3
 ·subst k3
  rw [if_pos rfl,if_pos rfl]
  rfl
 ·rw [if_neg k3,if_neg k3]
mutual
theorem zkl(f:List Fx)(day:Int):∀ x:Ex,(fixX day x).ev f day=x.ev f day
 | mk k r n d s=>by rw [fixX,ev,ev,Uz f day s,zgq]
theorem Uz(f:List Fx)(day:Int):∀ s:List Ex,evs f day (fixs day s)=evs f day s
 | []=>rfl
 | x::l=>by rw [fixs,evs,evs,zkl f day x,Uz f day l]
end
mutual
theorem zjf{f g:List Fx}{a:List UInt8}(hf:∀ (n:List UInt8) (d:Int),n≠a→fixR g n d=fixR f n d)(day:Int):∀ x:Ex,x.men a=false→x.ev g day=x.ev f day
 | mk k r n d s,h=>by
  rw [men,Bool.or_eq_false_iff] at h
  have hn:n≠a:=of_decide_eq_false h.1
  rw [ev,ev,YN hf day s h.2]
  unfold evN valN
  rw [hf n d hn,hf n day hn]
theorem YN{f g:List Fx}{a:List UInt8}(hf:∀ (n:List UInt8) (d:Int),n≠a→fixR g n d=fixR f n d)(day:Int):∀ s:List Ex,mens a s=false→evs g day s=evs f day s
 | [],_=>rfl
 | x::l,h=>by
  rw [mens,Bool.or_eq_false_iff] at h
  rw [evs,evs,zjf hf day x h.1,YN hf day l h.2]
end
end Ex
end Go.Nov
end
section
namespace Go.Nov
open Go.Sx
namespace Ca
def isNone(a:Ca):Prop:=a.ratio=[49]∧a.extra=[48]∧a.into=a.name
mutual
theorem Vv{a:Ca}(h:a.isNone):∀ x:Ex,x.zJ≠0→chg a x=x
 | .mk k r n d s,hs=>by
  rw [Ex.zJ] at hs
  rw [chg]
  by_cases hh:a.onX k n d=true
  ·rw [if_pos hh]
   obtain⟨h1,h2⟩:=ky hs (VV hh)
   have h3:s=[]:=by
    cases s with
    | nil=>rfl
    | cons x s=>rw [Ex.zW] at h2; cases h2
   have h4:n=a.name:=by simp [onX] at hh; exact hh.1
   unfold rel
   rw [if_pos h.2.1,if_pos h.1,h.2.2,h1,h3,h4]
  ·rw [if_neg hh,Wr h s (ZW hs)]
theorem Wr{a:Ca}(h:a.isNone):∀ s:List Ex,(∀ p∈Ex.zW s,p≠0)→chgs a s=s
 | [],_=>by rw [chgs]
 | x::s,hs=>by
  rw [Ex.zW] at hs
  rw [chgs,Vv h x (hs _ (by simp)),Wr h s (fun p hp=>hs p (by simp [hp]))]
end
theorem zem{a:Ca}{x:Ex}(h:qW x=true):chg a x=x:=by
 obtain⟨k,r,n,d,s⟩:=x
 simp [qW,Ex.kind,Ex.rat,Ex.name,Ex.date,Ex.sub] at h
 obtain⟨h0,_,_,_,rfl⟩:=h
 obtain rfl:k=0:=of_decide_eq_true h0
 rw [chg,chgs]
 have:a.onX 0 n d=false:=by simp [onX]
 rw [this]; simp
mutual
theorem Xy{a:Ca}(h:a.isNone):∀ c:Con,c.form=true→whole a.chg c=c
 | .mk k s t n x d l u,hf=>by
  rw [Con.form,Bool.and_eq_true] at hf
  rw [whole,uY h u hf.2]
  rcases Uh hf.1 with hx | hx
  ·rw [zem hx]
  ·rw [Vv h x hx]
theorem uY{a:Ca}(h:a.isNone):∀ u:List Con,Con.yj u=true→qx a.chg u=u
 | [],_=>by rw [qx]
 | c::u,hf=>by
  rw [Con.yj,Bool.and_eq_true] at hf
  rw [qx,Xy h c hf.1,uY h u hf.2]
end
mutual
theorem YP{a:Ca} : ∀ x:Ex,x.men a.name=false→chg a x=x
 | .mk k r n d s,h=>by
  rw [Ex.men,Bool.or_eq_false_iff] at h
  have h1:¬ n=a.name:=of_decide_eq_false h.1
  rw [chg,if_neg (by simp [onX,h1]),Vw s h.2]
theorem Vw{a:Ca} : ∀ s:List Ex,Ex.mens a.name s=false→chgs a s=s
 | [],_=>by rw [chgs]
 | x::s,h=>by
  rw [Ex.mens,Bool.or_eq_false_iff] at h
  rw [chgs,YP x h.1,Vw s h.2]
end
end Ca
namespace Con
mutual
def men(a:List UInt8):Con→Bool
 | mk _ _ _ _ x _ _ s=>x.men a||mens a s
def mens(a:List UInt8):List Con→Bool
 | []=>false
 | c::l=>men a c||mens a l
end
end Con
namespace Ca
mutual
theorem zas{a:Ca} : ∀ c:Con,c.men a.name=false→whole a.chg c=c
 | .mk k s t n x d l u,h=>by
  rw [Con.men,Bool.or_eq_false_iff] at h
  rw [whole,YP x h.1,ZG u h.2]
theorem ZG{a:Ca} : ∀ u:List Con,Con.mens a.name u=false→qx a.chg u=u
 | [],_=>by rw [qx]
 | c::u,h=>by
  rw [Con.mens,Bool.or_eq_false_iff] at h
  rw [qx,zas c h.1,ZG u h.2]
end
end Ca
end Go.Nov
end
section
set_option maxRecDepth 100000
open Go Go.Sx Go.Proofs Go.Nov
namespace Go.Proofs.Tryz
attribute [local simp] eqKV eqA eqA0 eqH eqB eqL eqL0
noncomputable def GAjP:Nat→Option Ctr:=fun f=>if f=16 then some (ki) else if f=22 then some (WK) else if f=41 then some (Yb) else none
theorem zha:∀ g c,GAjP g=some c→zf Tryz.prog g c:=okIf vE (okIf UT (okIf zjs (zx)))
theorem zh4:zf Tryz.prog 12 zio:=by
 refine zi (fn:=Tryz.f12) (c:=Tryz.f12.body.getD .skip) rfl rfl rfl fun p hp O w0 Q hq=> ?_
 obtain⟨a,c⟩:=p
 replace hq:=hq () trivial
 obtain⟨ht,hx1,hx2⟩:=hp
 simp only at ht hx1 hx2 hq
 have c1:=Xw ht hx1
 have c2:=(Ca.yb a c).1
 unfold Ca.conv at hq
 have ha:eqA (.agg [.str a.name,.str a.into,.int .i64 a.date,.str a.ratio,.str a.extra]) a.av:=⟨rfl,rfl,⟨rfl,rfl⟩,rfl,rfl,trivial⟩
 refine zc.run hmix zha [] 400 (T:=.ex (fun(x:Ca)=>eqL [AV.agg [AV.str (Ca.name a),AV.str (Ca.into a),AV.int .i64 (Ca.date a),AV.str (Ca.ratio a),AV.str (Ca.extra a)]] [AV.agg [AV.str (Ca.name x),AV.str (Ca.into x),AV.int .i64 (Ca.date x),AV.str (Ca.ratio x),AV.str (Ca.extra x)]]∧qJ x) fun n=>.all (fun(r:Int)=>r=if Ca.ok n=true then(0:Int) else(8:Int)) fun n=>.ite (!decide (n=0)) (.leaf (.ret [.agg [.int .u8 0,.str #[].toList,.str #[].toList,.str #[].toList,.int .u8 0,.str #[].toList,.str #[].toList,.int .i64 0,.nils,.int .i64 0,.nils,.nils],.int .i64 n] [.box [.str (Ca.name a),.str (Ca.into a),.int .i64 (Ca.date a),.str (Ca.ratio a),.str (Ca.extra a)],.box (Con.zj c),.box [.int .u8 0,.str #[].toList,.str #[].toList,.str #[].toList,.int .u8 0,.str #[].toList,.str #[].toList,.int .i64 0,.nils,.int .i64 0,.nils,.nils]])) (.ex (fun(x:Con)=>eqL [(Con.conA c)] [(Con.conA x)]∧Con.big x<1099511627776∧Con.nodes x≤1000000) fun n=>.all (fun(r:Int)=>r=Con.errC n) fun n=>.ite (!decide (n=0)) (.leaf (.ret [.agg [.int .u8 0,.str #[].toList,.str #[].toList,.str #[].toList,.int .u8 0,.str #[].toList,.str #[].toList,.int .i64 0,.nils,.int .i64 0,.nils,.nils],.int .i64 n] [.box [.str (Ca.name a),.str (Ca.into a),.int .i64 (Ca.date a),.str (Ca.ratio a),.str (Ca.extra a)],.box (Con.zj c),.box [.int .u8 0,.str #[].toList,.str #[].toList,.str #[].toList,.int .u8 0,.str #[].toList,.str #[].toList,.int .i64 0,.nils,.int .i64 0,.nils,.nils]])) (.ex (fun(x:Ca×Con)=>eqL [(Con.conA c),AV.ptr 0 0,AV.ptr 1 0] [(Con.conA x.2),AV.ptr 0 0,AV.ptr 1 0]∧eqH [.box [AV.str (Ca.name a),AV.str (Ca.into a),AV.int .i64 (Ca.date a),AV.str (Ca.ratio a),AV.str (Ca.extra a)],.box [AV.fn 41 [] [AV.ptr 0 0,AV.ptr 1 0]]] [.box [AV.str (Ca.name x.1),AV.str (Ca.into x.1),AV.int .i64 (Ca.date x.1),AV.str (Ca.ratio x.1),AV.str (Ca.extra x.1)],.box [AV.fn 41 [] [AV.ptr 0 0,AV.ptr 1 0]]]∧2=2∧Con.big x.2<274877906944) fun n=>.all (fun(x:Unit)=>True) fun n_1=>.ex (fun(x:Con)=>eqL [(Con.conD (Ca.whole (Ca.adj n.1) n.2))] [(Con.conA x)]∧Con.big x<1099511627776∧Con.nodes x≤1000000) fun n_2=>.all (fun(r:Int)=>r=Con.errC n_2) fun n_3=>.ite (!decide (n_3=0)) (.leaf (.ret [.agg [.int .u8 0,.str #[].toList,.str #[].toList,.str #[].toList,.int .u8 0,.str #[].toList,.str #[].toList,.int .i64 0,.nils,.int .i64 0,.nils,.nils],.int .i64 n_3] [.box [.str (Ca.name n.1),.str (Ca.into n.1),.int .i64 (Ca.date n.1),.str (Ca.ratio n.1),.str (Ca.extra n.1)],.box (Con.zj c),.box [.int .u8 0,.str #[].toList,.str #[].toList,.str #[].toList,.int .u8 0,.str #[].toList,.str #[].toList,.int .i64 0,.nils,.int .i64 0,.nils,.nils],.box [.fn 41 [] [.ptr 0 0,.ptr 3 0]],.box (Con.xo (Ca.whole (Ca.adj n.1) n.2))])) (.leaf (.ret [(Con.conD (Ca.whole (Ca.adj n.1) n.2)),.int .i64 0] [.box [.str (Ca.name n.1),.str (Ca.into n.1),.int .i64 (Ca.date n.1),.str (Ca.ratio n.1),.str (Ca.extra n.1)],.box (Con.zj c),.box (Con.xo (Ca.whole (Ca.adj n.1) n.2)),.box [.fn 41 [] [.ptr 0 0,.ptr 3 0]],.box (Con.xo (Ca.whole (Ca.adj n.1) n.2))]))))) (by kernel_rfl) ?_
 simp only [Tree.holds,zd]
 refine⟨a,⟨⟨ha,trivial⟩,j6 ht⟩,⟨_,rfl⟩,?_⟩
 rintro _ rfl
 by_cases hok:a.ok=true
 ·rw [if_pos hok] at hq ⊢
  refine⟨fun h=>by simp at h,fun _=> ?_⟩
  refine⟨c,⟨⟨vu c,trivial⟩,by omega,by omega⟩,⟨_,rfl⟩,?_⟩
  rintro _ rfl
  refine⟨fun h=> ?_,fun h=> ?_⟩<;>simp at h
  ·rw [if_neg h] at hq
   exact RetR.out0 hq (fun h=>by cases h) WO
  have e:=Ca.Jl a c (zgy h)
  rw [if_pos h] at hq
  refine⟨(a,c),⟨⟨vu c,⟨rfl,rfl⟩,⟨rfl,rfl⟩,trivial⟩,by simp,trivial,by show c.big<_; omega⟩,⟨(),trivial⟩,fun _ _=> ?_⟩
  simp only [e]
  refine⟨Ca.whole a.chg c,⟨⟨WB _,trivial⟩,by omega,by omega⟩,⟨_,rfl⟩,?_⟩
  rintro _ rfl
  refine⟨fun h=> ?_,fun h=> ?_⟩<;>simp at h
  ·rw [if_neg h] at hq
   exact RetR.out0 hq (fun h=>by cases h) WO
  rw [if_pos h] at hq
  exact RetR.le0 hq (fun h=>by cases h) (LeA.refl _)
 ·rw [if_neg hok] at hq ⊢
  exact⟨fun _=>RetR.out0 hq (fun h=>by cases h) WO,fun h=>by simp at h⟩
theorem zb9{x:Fx}(h:okF x=true):xa x:=by
 unfold okF zQ at h
 simp only [Bool.and_eq_true,decide_eq_true_eq] at h
 have h2:=VL h.2
 exact⟨by omega,by omega⟩
theorem UL{x:Ch}(h:okC x=true):xw x:=by
 unfold okC zQ at h
 simp only [Bool.and_eq_true,decide_eq_true_eq] at h
 exact⟨by omega,by omega⟩
theorem J8{f:List Fx}{c:List Ch}(h:errE f c=0):envP (f,c):=by
 obtain⟨h1,h2,h3,_⟩:=uU.1 h
 rw [List.all_eq_true] at h2 h3
 refine⟨by show f.length<_; omega,by show c.length<_; omega,fun j hj=>zb9 (h2 _ ?_),fun j hj=>UL (h3 _ ?_)⟩
 ·simp only at hj ⊢; simp [List.getD,hj]
 ·simp only at hj ⊢; simp [List.getD,hj]
end Go.Proofs.Tryz
end
section
open Go Go.Sx Go.Proofs Go.Nov
namespace Go.Proofs.Tryz
end Go.Proofs.Tryz
end
section
set_option maxRecDepth 100000
open Go Go.Sx Go.Proofs Go.Nov
namespace Go.Proofs.Tryz
attribute [local simp] eqKV eqA eqA0 eqH eqB eqL eqL0
end Go.Proofs.Tryz
end
section
namespace Go.Nov
open Go.Sx
def Ca.noA:Ca:=⟨[],[],0,[],[]⟩
def Ca.cell(a:Ca):Nat→AV
 | 0=>.str a.name
 | 1=>.str a.into
 | 2=>.int .i64 a.date
 | 3=>.str a.ratio
 | 4=>.str a.extra
 | _=>.undef
def caG(l:List Ca):Nat→Nat→AV:=fun j=>Ca.cell (l.getD j Ca.noA)
def sumX(x:Ex):Nat→Ex
 | 0=>x
 | n+1=>.mk 4 [] [] 0 [.mk 1 [48] [] 0 [],sumX x n]
def JO(n v:List UInt8)(k:Nat):List Fx:=(List.range k).map fun(d:Nat)=>(⟨n,(d:Int),v⟩:Fx)
end Go.Nov
end
section
set_option maxRecDepth 100000
open Go Go.Sx Go.Proofs Go.Nov
namespace Go.Proofs.Tryz
attribute [local simp] eqKV eqA eqA0 eqH eqB eqL eqL0
def acts:List Ca:=[⟨[],[],0,[],[]⟩,⟨[97],[97],0,[48],[48]⟩,⟨[97],[97],0,[45,49],[48]⟩,⟨[97],[97],0,[49],[]⟩,⟨[97],[],0,[49],[48]⟩,⟨[49],[97],0,[49],[48]⟩,⟨[97],[97],-1,[49],[48]⟩,⟨[97],[97],100000,[49],[48]⟩,⟨[97],[97],0,[50,47,50],[48]⟩]
theorem zje{i:Nat}(h:i<9):(acts.getD i Ca.noA).ok=false∧qp (acts.getD i Ca.noA):=by
 rcases(show i=0∨i=1∨i=2∨i=3∨i=4∨i=5∨i=6∨i=7∨i=8 by omega) with rfl | rfl | rfl | rfl | rfl | rfl | rfl | rfl | rfl<;>exact⟨by decide +kernel,by decide,by decide,by decide,by decide⟩
def bigN:List UInt8:=[66,73,71]
def ze(n:List UInt8)(d:Int):Ex:=.mk 2 [] n d []
def aMer:Ca:=⟨acme,bigN,10,[49,47,51],[45,53]⟩
def bMer:Blk:=.box [.str [65,67,77,69],.str [66,73,71],.int .i64 10,.str [49,47,51],.str [45,53]]
def x3:Ex:=exOf 7 (ze acme 9) (ze acme 10)
def w3:Ex:=exOf 7 (ze acme 9) (exOf 4 (exOf 6 (jY [49,47,51]) (ze bigN 10)) (jY [45,53]))
def F1:List Fx:=[⟨acme,9,[55]⟩,⟨acme,11,[56]⟩,⟨bigN,9,[51,48]⟩,⟨bigN,12,[51,51]⟩]
def F2:List Fx:=[⟨acme,9,[55]⟩,⟨acme,12,[54]⟩,⟨bigN,9,[51,48]⟩,⟨bigN,12,[51,51]⟩]
def C1:List Ch:=[⟨[112],[99],1,false⟩]
@[irreducible] def M1:List Fx:=JO bigN [51] 1000
theorem zgt:¬ (splA acme 10 [48]).ok=true:=by decide +kernel
theorem zh8:¬ (divA acme 10 []).ok=true:=by decide +kernel
theorem zlg:aMer.expr x3=(w3,0):=by kernel_rfl
theorem zlh:aMer.before F1 C1=((F2,C1),0):=by kernel_rfl
theorem al_j:(aSpl.expr (sumX zp 59)).2=4:=by decide +kernel
theorem al_k:(aSpl.expr (sumX zp 60)).2=4:=by decide +kernel
theorem htm:qp aMer:=⟨by decide,by decide,by decide,by decide⟩
theorem zda:eqA (.agg [.str [65,67,77,69],.str [66,73,71],.int .i64 10,.str [49,47,51],.str [45,53]]) aMer.av:=⟨rfl,rfl,⟨rfl,rfl⟩,rfl,rfl,trivial⟩
theorem zig{n:List UInt8}{d:Int} : eqB (.box [.int .u8 2,.str [],.str n,.int .i64 d,.nils]) (bEx (ze n d)):=by simp [bEx,Ex.cellsD,ze,Ex.kind,Ex.rat,Ex.name,Ex.date,Ex.sub]
theorem zle:eqB (.box [.int .u8 3,.str [],.str [65,67,77,69],.int .i64 0,.nils]) (bEx zp):=by simp [bEx,Ex.cellsD,zp,acme,Ex.kind,Ex.rat,Ex.name,Ex.date,Ex.sub]
theorem four{a b c d:Fx} : eqG 4 3 (zh 3 [.str a.name,.int .i64 a.date,.str a.value,.str b.name,.int .i64 b.date,.str b.value,.str c.name,.int .i64 c.date,.str c.value,.str d.name,.int .i64 d.date,.str d.value]) (fxG [a,b,c,d]):=by
 intro j o hj ho
 rcases(show j=0∨j=1∨j=2∨j=3 by omega) with rfl | rfl | rfl | rfl<;>rcases(show o=0∨o=1∨o=2 by omega) with rfl | rfl | rfl<;>rfl
theorem zl4{a b c d:Fx} : eqG 4 3 (zg (zh 3 [.str a.name,.int .i64 a.date,.str a.value,.str b.name,.int .i64 b.date,.str b.value,.str c.name,.int .i64 c.date,.str c.value,.str d.name,.int .i64 d.date,.str d.value]) 0) (fxG [a,b,c,d]):=fun j o hj ho=>by
 have:=four (a:=a) (b:=b) (c:=c) (d:=d) j o hj ho
 simpa [zg] using this
theorem f1_G:eqG 4 3 (zg (zh 3 [.str [65,67,77,69],.int .i64 9,.str [55],.str [65,67,77,69],.int .i64 11,.str [56],.str [66,73,71],.int .i64 9,.str [51,48],.str [66,73,71],.int .i64 12,.str [51,51]]) 0) (fxG F1):=zl4 (a:=⟨acme,9,[55]⟩) (b:=⟨acme,11,[56]⟩) (c:=⟨bigN,9,[51,48]⟩) (d:=⟨bigN,12,[51,51]⟩)
theorem f2_G:eqG 4 3 (zh 3 [.str [65,67,77,69],.int .i64 9,.str [55],.str [65,67,77,69],.int .i64 12,.str [54],.str [66,73,71],.int .i64 9,.str [51,48],.str [66,73,71],.int .i64 12,.str [51,51]]) (fxG F2):=four (a:=⟨acme,9,[55]⟩) (b:=⟨acme,12,[54]⟩) (c:=⟨bigN,9,[51,48]⟩) (d:=⟨bigN,12,[51,51]⟩)
theorem ziw:eqG 1 4 (zh 4 [.str [112],.str [99],.int .i64 1,.bool false]) (chG C1):=by
 intro j o hj ho
 obtain rfl:j=0:=by omega
 rcases(show o=0∨o=1∨o=2∨o=3 by omega) with rfl | rfl | rfl | rfl<;>rfl
theorem c1_G:eqG 1 4 (zg (zh 4 [.str [112],.str [99],.int .i64 1,.bool false]) 0) (chG C1):=fun j o hj ho=>by
 have:=ziw j o hj ho
 simpa [zg] using this
theorem vY:1000=M1.length:=by unfold M1; simp [JO]
theorem Vj{x:Fx}(h:x∈M1):∃ d:Nat,d<1000∧x=⟨bigN,(d:Int),[51]⟩:=by
 unfold M1 JO at h
 obtain⟨d,hd,rfl⟩:=List.mem_map.1 h
 exact⟨d,List.mem_range.1 hd,rfl⟩
theorem XP:errE M1 []=0:=by
 refine uU.2 ⟨by rw [← vY]; decide,?_,rfl,zf5 zkg ?_,rfl⟩
 ·rw [List.all_eq_true]
  intro x hx
  obtain⟨d,hd,rfl⟩:=Vj hx
  have h1:zQ bigN=true:=by decide +kernel
  have h2:errR [51]=0:=by decide +kernel
  have h3:dayB (d:Int)=true:=by unfold dayB; simp; omega
  unfold okF
  simp [h1,h2,h3]
 ·unfold M1 JO
  rw [List.pairwise_map]
  refine List.Pairwise.imp ?_ (List.pairwise_lt_range (n:=1000))
  intro a b hab
  rw [k0]
  exact .inr ⟨rfl,by show(a:Int)<b; omega⟩
theorem m1_E:envP (M1,[]):=J8 XP
theorem WU{a:Ca}(h:a.name=acme):a.kept M1=M1:=by
 unfold Ca.kept
 rw [List.filter_eq_self]
 intro x hx
 obtain⟨d,_,rfl⟩:=Vj hx
 unfold Ca.keep
 rw [h]
 have:¬ bigN=acme:=by decide
 simp [this]
theorem zbs{a:Ca}(h:(a.old [51]).2=0):a.err M1=0:=by
 unfold Ca.err
 cases e:M1.find? a.bad with
 | none=>rfl
 | some y=>
  obtain⟨d,_,rfl⟩:=Vj (List.mem_of_find?_eq_some e)
  exact h
theorem al_l:(aMer.before M1 []).2=22:=by
 have hok:aMer.ok=true:=by decide +kernel
 have ho:(aMer.old [51]).2=0:=by decide +kernel
 have hf:0<(aMer.fresh M1).length:=by
  refine List.length_pos_of_mem (a:=aMer.mk' ⟨bigN,10,[51]⟩) ?_
  unfold Ca.fresh
  refine List.mem_map.2 ⟨_,List.mem_filter.2 ⟨?_,by decide⟩,rfl⟩
  unfold M1 JO
  exact List.mem_map.2 ⟨10,List.mem_range.2 (by decide),rfl⟩
 unfold Ca.before
 rw [if_neg (by rw [hok]; decide),if_neg (by rw [XP]; decide),if_neg (by rw [zbs ho]; decide),if_pos (by rw [WU rfl,← vY]; omega)]
theorem al_w:aSpl.before M1 []=((M1,[]),0):=by
 have ho:(aSpl.old [51]).2=0:=by decide +kernel
 have hf:aSpl.fresh M1=[]:=by
  unfold Ca.fresh
  rw [List.map_eq_nil_iff,List.filter_eq_nil_iff]
  intro x hx
  obtain⟨d,_,rfl⟩:=Vj hx
  unfold Ca.hit
  have:¬ bigN=acme:=by decide
  simp [aSpl,splA,this]
 unfold Ca.before
 rw [if_neg (by rw [W9]; decide),if_neg (by rw [XP]; decide),if_neg (by rw [zbs ho]; decide),if_neg (by rw [WU rfl,hf,← vY]; decide),WU rfl,hf,Ca.join_nil]
theorem zg6{k:Nat}(h:k<1000):eqG (k+1) 3 (appG k (fxG M1) (zg (zh 3 [.str bigN,.int .i64 (k:Int),.str [51]]) 0)) (fxG M1):=by
 have hg:M1.getD k Fx.nil=⟨bigN,(k:Int),[51]⟩:=by
  unfold M1 JO
  simp [List.getD,h]
 intro j o hj ho
 simp only [appG,zg]
 by_cases hjk:j<k
 ·rw [if_pos hjk]
 ·obtain rfl:j=k:=by omega
  rw [if_neg hjk]
  simp only [fxG,hg,Nat.zero_add,Nat.sub_self,zh]
  rcases(show o=0∨o=1∨o=2 by omega) with rfl | rfl | rfl<;>rfl
theorem f1_E:envP (F1,C1):=J8 (by decide +kernel)
noncomputable def GNm:Nat→Option Ctr:=fun f=>if f=18 then some (VJ) else if f=20 then some (splC) else if f=27 then some (divC) else if f=10 then some (YB) else if f=12 then some (zio) else if f=21 then some (ZF) else if f=16 then some (ki) else if f=30 then some (nowC) else if f=29 then some (uz) else if f=28 then some (ofC) else if f=31 then some (QH) else if f=25 then some (WR) else none
theorem qG:∀ g c,GNm g=some c→zf Tryz.prog g c:=okIf XV (okIf zdb (okIf zde (okIf YO (okIf zh4 (okIf Z8 (okIf vE (okIf zdl (okIf Zf (okIf ziz (okIf V7 (okIf KU (zx))))))))))))
noncomputable def LZ0:List Go.Sx.Item:=xx 40 (Tryz.f5.body.getD .skip)
def zkd:Ctr:=ctrP true (fun _:Unit=>[]) (fun _=>True) (fun _ r=>r=true) (fun _ (r:Bool)=>(.bool r,[]))
noncomputable def LZa:List Go.Sx.Item:=LZ0.take 3++.inLoop::LZ0.drop 3
noncomputable def LZ3:List Go.Sx.Item:=LZ0.drop 3
noncomputable def LZ6:List Go.Sx.Item:=LZ0.drop 6
noncomputable def LZ8:List Go.Sx.Item:=LZ0.drop 8
noncomputable def LZ9:List Go.Sx.Item:=LZ0.drop 9
noncomputable def LZ10:List Go.Sx.Item:=LZ0.drop 10
noncomputable def LZ11:List Go.Sx.Item:=LZ0.drop 11
noncomputable def LZ12:List Go.Sx.Item:=LZ0.drop 12
noncomputable def LZ13:List Go.Sx.Item:=LZ0.drop 13
noncomputable def LZ14:List Go.Sx.Item:=LZ0.drop 14
noncomputable def LZ15:List Go.Sx.Item:=LZ0.drop 15
noncomputable def LZ16:List Go.Sx.Item:=LZ0.drop 16
noncomputable def LZ17:List Go.Sx.Item:=LZ0.drop 17
noncomputable def LZ18:List Go.Sx.Item:=LZ0.drop 18
noncomputable def LZ19:List Go.Sx.Item:=LZ0.drop 19
noncomputable def LZ20:List Go.Sx.Item:=LZ0.drop 20
def SZ3:KV:=[(0,.bool false),(1,.bool true),(46,.undef),(47,.undef),(48,.undef)]
def SZ6:KV:=[(0,.bool false),(1,.bool true),(10,.ptr 1 0),(11,.int .i64 0),(13,.int .i64 8),(15,.int .i64 8)]
def HZ6:Heap:=[.dead,bSpl,.dead,.dead]
def SZ8:KV:=[(0,.bool false),(1,.bool true),(10,.ptr 1 0),(11,.int .i64 0),(13,.int .i64 8),(15,.int .i64 8),(16,.ptr 4 0),(17,.ptr 5 0),(18,.ptr 6 0)]
def HZ8:Heap:=[.dead,bSpl,.dead,.dead,bMer,bEx (ze acme 9),bEx (ze acme 10)]
def SZ9:KV:=[(0,.bool false),(1,.bool true),(10,.ptr 1 0),(11,.int .i64 0),(13,.int .i64 8),(15,.int .i64 8),(16,.ptr 4 0),(17,.ptr 5 0),(18,.ptr 6 0),(19,.ptr 7 0),(20,.int .i64 0)]
def HZ9:Heap:=[.dead,bSpl,.dead,.dead,bMer,bEx (ze acme 9),bEx (ze acme 10),bEx w3]
def SZ10:KV:=[(0,.bool false),(1,.bool true),(10,.ptr 1 0),(11,.int .i64 0),(13,.int .i64 8),(15,.int .i64 8),(16,.ptr 4 0),(17,.ptr 5 0),(18,.ptr 6 0),(19,.ptr 7 0),(20,.int .i64 0),(21,.ptr 8 0)]
def HZ10:Heap:=[.dead,bSpl,.dead,.dead,bMer,bEx (ze acme 9),bEx (ze acme 10),bEx w3,bEx w3]
def SZ11:KV:=[(0,.bool false),(1,.bool true),(10,.ptr 1 0),(11,.int .i64 0),(13,.int .i64 8),(15,.int .i64 8),(16,.ptr 4 0),(17,.ptr 5 0),(18,.ptr 6 0),(19,.ptr 7 0),(20,.int .i64 0),(21,.ptr 8 0),(22,.ptr 11 0),(23,.int .i64 0)]
def HZ11:Heap:=[.dead,bSpl,.dead,.dead,bMer,bEx (ze acme 9),bEx (ze acme 10),bEx w3,bEx w3,.dead,.dead,.box [fxS F2,chS C1]]
def SZ12:KV:=[(0,.bool false),(1,.bool true),(10,.ptr 1 0),(11,.int .i64 0),(13,.int .i64 8),(15,.int .i64 8),(16,.ptr 4 0),(17,.ptr 5 0),(18,.ptr 6 0),(19,.ptr 7 0),(20,.int .i64 0),(21,.ptr 8 0),(22,.ptr 11 0),(23,.int .i64 0),(24,.ptr 14 0)]
def HZ12:Heap:=[.dead,bSpl,.dead,.dead,bMer,bEx (ze acme 9),bEx (ze acme 10),bEx w3,bEx w3,.dead,.dead,.box [fxS F2,chS C1],.arr 4 3 (fxG F2),.arr 1 4 (chG C1),.box [.osl 12 3 0 4,.osl 13 4 0 1]]
def SZ13:KV:=[(0,.bool false),(1,.bool true),(10,.ptr 1 0),(11,.int .i64 0),(13,.int .i64 8),(15,.int .i64 8),(16,.ptr 4 0),(17,.ptr 5 0),(18,.ptr 6 0),(19,.ptr 7 0),(20,.int .i64 0),(21,.ptr 8 0),(22,.ptr 11 0),(23,.int .i64 0),(24,.ptr 14 0),(25,.ptr 15 0)]
def HZ13:Heap:=[.dead,bSpl,.dead,.dead,bMer,bEx (ze acme 9),bEx (ze acme 10),bEx w3,bEx w3,.dead,.dead,.box [fxS F2,chS C1],.arr 4 3 (fxG F2),.arr 1 4 (chG C1),.box [.osl 12 3 0 4,.osl 13 4 0 1],bEx zp]
def SZ14:KV:=[(0,.bool false),(1,.bool true),(10,.ptr 1 0),(11,.int .i64 0),(13,.int .i64 8),(15,.int .i64 8),(16,.ptr 4 0),(17,.ptr 5 0),(18,.ptr 6 0),(19,.ptr 7 0),(20,.int .i64 0),(21,.ptr 8 0),(22,.ptr 11 0),(23,.int .i64 0),(24,.ptr 14 0),(25,.ptr 15 0),(26,.undef)]
def HZ14:Heap:=[.dead,bSpl,.dead,.dead,bMer,bEx (ze acme 9),bEx (ze acme 10),bEx w3,bEx w3,.dead,.dead,.box [fxS F2,chS C1],.arr 4 3 (fxG F2),.arr 1 4 (chG C1),.box [.osl 12 3 0 4,.osl 13 4 0 1],bEx (sumX zp 59)]
def SZ15:KV:=[(0,.bool false),(1,.bool true),(10,.ptr 1 0),(11,.int .i64 0),(13,.int .i64 8),(15,.int .i64 8),(16,.ptr 4 0),(17,.ptr 5 0),(18,.ptr 6 0),(19,.ptr 7 0),(20,.int .i64 0),(21,.ptr 8 0),(22,.ptr 11 0),(23,.int .i64 0),(24,.ptr 14 0),(25,.ptr 15 0),(28,.int .i64 4)]
def HZ15:Heap:=[.dead,bSpl,.dead,.dead,bMer,bEx (ze acme 9),bEx (ze acme 10),bEx w3,bEx w3,.dead,.dead,.box [fxS F2,chS C1],.arr 4 3 (fxG F2),.arr 1 4 (chG C1),.box [.osl 12 3 0 4,.osl 13 4 0 1],bEx (sumX zp 59),.dead]
def SZ16:KV:=[(0,.bool false),(1,.bool true),(10,.ptr 1 0),(11,.int .i64 0),(13,.int .i64 8),(15,.int .i64 8),(16,.ptr 4 0),(17,.ptr 5 0),(18,.ptr 6 0),(19,.ptr 7 0),(20,.int .i64 0),(21,.ptr 8 0),(22,.ptr 11 0),(23,.int .i64 0),(24,.ptr 14 0),(25,.ptr 15 0),(28,.int .i64 4),(30,.int .i64 4)]
def HZ16:Heap:=[.dead,bSpl,.dead,.dead,bMer,bEx (ze acme 9),bEx (ze acme 10),bEx w3,bEx w3,.dead,.dead,.box [fxS F2,chS C1],.arr 4 3 (fxG F2),.arr 1 4 (chG C1),.box [.osl 12 3 0 4,.osl 13 4 0 1],bEx (sumX zp 59),.dead,.dead]
def SZ17:KV:=[(0,.bool false),(1,.bool true),(10,.ptr 1 0),(11,.int .i64 0),(13,.int .i64 8),(15,.int .i64 8),(16,.ptr 4 0),(17,.ptr 5 0),(18,.ptr 6 0),(19,.ptr 7 0),(20,.int .i64 0),(21,.ptr 8 0),(22,.ptr 11 0),(23,.int .i64 0),(24,.ptr 14 0),(25,.ptr 15 0),(28,.int .i64 4),(30,.int .i64 4),(31,.ptr 18 0)]
def HZ17:Heap:=[.dead,bSpl,.dead,.dead,bMer,bEx (ze acme 9),bEx (ze acme 10),bEx w3,bEx w3,.dead,.dead,.box [fxS F2,chS C1],.arr 4 3 (fxG F2),.arr 1 4 (chG C1),.box [.osl 12 3 0 4,.osl 13 4 0 1],bEx (sumX zp 59),.dead,.dead,.box [.nils,.nils]]
def SZ18:KV:=[(0,.bool false),(1,.bool true),(10,.ptr 1 0),(11,.int .i64 0),(13,.int .i64 8),(15,.int .i64 8),(16,.ptr 4 0),(17,.ptr 5 0),(18,.ptr 6 0),(19,.ptr 7 0),(20,.int .i64 0),(21,.ptr 8 0),(22,.ptr 11 0),(23,.int .i64 0),(24,.ptr 14 0),(25,.ptr 15 0),(28,.int .i64 4),(30,.int .i64 4),(31,.ptr 18 0),(32,.undef)]
def HZ18:Heap:=[.dead,bSpl,.dead,.dead,bMer,bEx (ze acme 9),bEx (ze acme 10),bEx w3,bEx w3,.dead,.dead,.box [fxS F2,chS C1],.arr 4 3 (fxG F2),.arr 1 4 (chG C1),.box [.osl 12 3 0 4,.osl 13 4 0 1],bEx (sumX zp 59),.dead,.dead,.box [.osl 19 3 0 1000,.nils],.arr 1000 3 (fxG M1)]
def SZ19:KV:=[(0,.bool false),(1,.bool true),(10,.ptr 1 0),(11,.int .i64 0),(13,.int .i64 8),(15,.int .i64 8),(16,.ptr 4 0),(17,.ptr 5 0),(18,.ptr 6 0),(19,.ptr 7 0),(20,.int .i64 0),(21,.ptr 8 0),(22,.ptr 11 0),(23,.int .i64 0),(24,.ptr 14 0),(25,.ptr 15 0),(28,.int .i64 4),(30,.int .i64 4),(31,.ptr 18 0),(34,.int .i64 22)]
def HZ19:Heap:=[.dead,bSpl,.dead,.dead,bMer,bEx (ze acme 9),bEx (ze acme 10),bEx w3,bEx w3,.dead,.dead,.box [fxS F2,chS C1],.arr 4 3 (fxG F2),.arr 1 4 (chG C1),.box [.osl 12 3 0 4,.osl 13 4 0 1],bEx (sumX zp 59),.dead,.dead,.box [.osl 19 3 0 1000,.nils],.arr 1000 3 (fxG M1),.dead]
def SZ20:KV:=[(0,.bool false),(1,.bool true),(10,.ptr 1 0),(11,.int .i64 0),(13,.int .i64 8),(15,.int .i64 8),(16,.ptr 4 0),(17,.ptr 5 0),(18,.ptr 6 0),(19,.ptr 7 0),(20,.int .i64 0),(21,.ptr 8 0),(22,.ptr 11 0),(23,.int .i64 0),(24,.ptr 14 0),(25,.ptr 15 0),(28,.int .i64 4),(30,.int .i64 4),(31,.ptr 18 0),(34,.int .i64 22),(35,.ptr 21 0),(36,.int .i64 0)]
def HZ20:Heap:=[.dead,bSpl,.dead,.dead,bMer,bEx (ze acme 9),bEx (ze acme 10),bEx w3,bEx w3,.dead,.dead,.box [fxS F2,chS C1],.arr 4 3 (fxG F2),.arr 1 4 (chG C1),.box [.osl 12 3 0 4,.osl 13 4 0 1],bEx (sumX zp 59),.dead,.dead,.box [.osl 19 3 0 1000,.nils],.arr 1000 3 (fxG M1),.dead,.box [fxS M1,chS []]]
def SZk(k:Nat):KV:=[(0,.bool false),(1,.bool true),(10,.ptr 1 0),(11,.int .i64 0),(13,.int .i64 8),(15,.int .i64 8),(16,.ptr 4 0),(17,.ptr 5 0),(18,.ptr 6 0),(19,.ptr 7 0),(20,.int .i64 0),(21,.ptr 8 0),(22,.ptr 11 0),(23,.int .i64 0),(24,.ptr 14 0),(25,.ptr 15 0),(26,.int .i64 (k:Int))]
def HZk(k:Nat):Heap:=[.dead,bSpl,.dead,.dead,bMer,bEx (ze acme 9),bEx (ze acme 10),bEx w3,bEx w3,.dead,.dead,.box [fxS F2,chS C1],.arr 4 3 (fxG F2),.arr 1 4 (chG C1),.box [.osl 12 3 0 4,.osl 13 4 0 1],bEx (sumX zp k)]
def SZd(k:Nat):KV:=[(0,.bool false),(1,.bool true),(10,.ptr 1 0),(11,.int .i64 0),(13,.int .i64 8),(15,.int .i64 8),(16,.ptr 4 0),(17,.ptr 5 0),(18,.ptr 6 0),(19,.ptr 7 0),(20,.int .i64 0),(21,.ptr 8 0),(22,.ptr 11 0),(23,.int .i64 0),(24,.ptr 14 0),(25,.ptr 15 0),(28,.int .i64 4),(30,.int .i64 4),(31,.ptr 18 0),(32,.int .i64 (k:Int))]
def HZd(k:Nat):Heap:=[.dead,bSpl,.dead,.dead,bMer,bEx (ze acme 9),bEx (ze acme 10),bEx w3,bEx w3,.dead,.dead,.box [fxS F2,chS C1],.arr 4 3 (fxG F2),.arr 1 4 (chG C1),.box [.osl 12 3 0 4,.osl 13 4 0 1],bEx (sumX zp 59),.dead,.dead,.box [.osl 19 3 0 k,.nils],.arr k 3 (fxG M1)]
theorem zhl:eqA (.agg [.int .u8 0,.str [],.str [],.str [],.int .u8 0,.str [],.str [],.int .i64 0,.nils,.int .i64 0,.nils,.nils]) Con.nil.conA:=by
 simp [Con.nil,Ex.nil,Con.conA,Con.dayS,Con.conS,Ex.exS,Con.kind,Con.src,Con.dst,Con.name,Con.x,Con.date,Con.days,Con.sub,Ex.kind,Ex.rat,Ex.name,Ex.date,Ex.sub]
def SZl(i:Nat):KV:=[(0,.bool false),(1,.bool true),(46,.osl 0 5 0 9),(47,.int .i64 9),(48,.int .i64 (i:Int))]
theorem zcz:zf Tryz.prog 5 zkd:=by
 refine zi (fn:=Tryz.f5) (c:=Tryz.f5.body.getD .skip) rfl rfl rfl fun p hp O w0 Q hq=> ?_
 replace hq:=hq _ rfl
 have ht:qp aSpl:=⟨by decide,by decide,by decide,by decide⟩
 refine zc.spine 40 ?_
 refine zc.cutL (ι:=Unit) LZ0 3 0 (fun _=>SZ3) (fun _=>[.dead]) (by kernel_rfl) (by kernel_rfl) ?_ fun _=> ?_
 ·refine zc.run hmix qG [0,1,46,47,48] 400 (T:=.leaf (.loop (Prod.fst (lps LZa 0)) (Prod.snd (lps LZa 0)) [(0,.bool false),(1,.bool true),(46,.osl 0 5 0 9),(47,.int .i64 9),(48,.int .i64 0)] [.arr 9 5 (zh 5 [.str #[].toList,.str #[].toList,.int .i64 0,.str #[].toList,.str #[].toList,.str #[(97:UInt8)].toList,.str #[(97:UInt8)].toList,.int .i64 0,.str #[(48:UInt8)].toList,.str #[(48:UInt8)].toList,.str #[(97:UInt8)].toList,.str #[(97:UInt8)].toList,.int .i64 0,.str #[(45:UInt8),(49:UInt8)].toList,.str #[(48:UInt8)].toList,.str #[(97:UInt8)].toList,.str #[(97:UInt8)].toList,.int .i64 0,.str #[(49:UInt8)].toList,.str #[].toList,.str #[(97:UInt8)].toList,.str #[].toList,.int .i64 0,.str #[(49:UInt8)].toList,.str #[(48:UInt8)].toList,.str #[(49:UInt8)].toList,.str #[(97:UInt8)].toList,.int .i64 0,.str #[(49:UInt8)].toList,.str #[(48:UInt8)].toList,.str #[(97:UInt8)].toList,.str #[(97:UInt8)].toList,.int .i64 (-1:Int),.str #[(49:UInt8)].toList,.str #[(48:UInt8)].toList,.str #[(97:UInt8)].toList,.str #[(97:UInt8)].toList,.int .i64 100000,.str #[(49:UInt8)].toList,.str #[(48:UInt8)].toList,.str #[(97:UInt8)].toList,.str #[(97:UInt8)].toList,.int .i64 0,.str #[(50:UInt8),(47:UInt8),(50:UInt8)].toList,.str #[(48:UInt8)].toList])])) (by kernel_rfl) ?_
  simp only [Tree.holds,zd]
  refine zc.loop (ι:={i:Nat // i≤9}) (fun i=>SZl i.1) (fun _=>[.arr 9 5 (caG acts)]) (fun i=>9 - i.1) ⟨0,Nat.zero_le _⟩ 1 ?_ ?_ (by kernel_rfl)
  ·refine⟨by simp [SZl],⟨⟨rfl,rfl,fun j o hj ho=> ?_⟩,trivial⟩,by kernel_rfl,Nat.zero_le _⟩
   rcases(show j=0∨j=1∨j=2∨j=3∨j=4∨j=5∨j=6∨j=7∨j=8 by omega) with rfl | rfl | rfl | rfl | rfl | rfl | rfl | rfl | rfl<;>rcases(show o=0∨o=1∨o=2∨o=3∨o=4 by omega) with rfl | rfl | rfl | rfl | rfl<;>rfl
  ·rintro⟨i,hi9⟩
   refine zc.run hmix qG [0,1,46,47,48] 400 (T:=.ite (decide ((↑i:Int)<9)) (.side ((0:Int)≤i∧(↑i:Int)<9) (.ex (fun(x:Ca×Ex)=>eqL [AV.agg [AV.str (Ca.name (acts.getD (0+Int.toNat (↑i:Int)) Ca.noA)),AV.str (Ca.into (acts.getD (0+Int.toNat (↑i:Int)) Ca.noA)),AV.int .i64 (Ca.date (acts.getD (0+Int.toNat (↑i:Int)) Ca.noA)),AV.str (Ca.ratio (acts.getD (0+Int.toNat (↑i:Int)) Ca.noA)),AV.str (Ca.extra (acts.getD (0+Int.toNat (↑i:Int)) Ca.noA))],AV.agg [AV.int .u8 0,AV.str #[].toList,AV.str #[].toList,AV.int .i64 0,AV.nils]] [AV.agg [AV.str (Ca.name x.1),AV.str (Ca.into x.1),AV.int .i64 (Ca.date x.1),AV.str (Ca.ratio x.1),AV.str (Ca.extra x.1)],AV.agg [AV.int .u8 x.2.kind,AV.str x.2.rat,AV.str x.2.name,AV.int .i64 x.2.date,AV.sl x.2.sub.length 5 (Ex.exG x.2.sub)]]∧qp x.1∧Ex.size x.2<1048576∧Ex.zu x.2<1073741824) fun n=>.all (fun(x:Unit)=>True) fun n_1=>.ex (fun(x:Ca×Con)=>eqL [AV.agg [AV.str (Ca.name (acts.getD (0+Int.toNat (↑i:Int)) Ca.noA)),AV.str (Ca.into (acts.getD (0+Int.toNat (↑i:Int)) Ca.noA)),AV.int .i64 (Ca.date (acts.getD (0+Int.toNat (↑i:Int)) Ca.noA)),AV.str (Ca.ratio (acts.getD (0+Int.toNat (↑i:Int)) Ca.noA)),AV.str (Ca.extra (acts.getD (0+Int.toNat (↑i:Int)) Ca.noA))],AV.agg [AV.int .u8 0,AV.str #[].toList,AV.str #[].toList,AV.str #[].toList,AV.int .u8 0,AV.str #[].toList,AV.str #[].toList,AV.int .i64 0,AV.nils,AV.int .i64 0,AV.nils,AV.nils]] [AV.agg [AV.str (Ca.name x.1),AV.str (Ca.into x.1),AV.int .i64 (Ca.date x.1),AV.str (Ca.ratio x.1),AV.str (Ca.extra x.1)],AV.agg [AV.int .u8 (Con.kind x.2),AV.str (Con.src x.2),AV.str (Con.dst x.2),AV.str (Con.name x.2),AV.int .u8 (Ex.kind (Con.x x.2)),AV.str (Ex.rat (Con.x x.2)),AV.str (Ex.name (Con.x x.2)),AV.int .i64 (Ex.date (Con.x x.2)),AV.sl (List.length (Ex.sub (Con.x x.2))) 5 (Ex.exG (Ex.sub (Con.x x.2))),AV.int .i64 (Con.date x.2),AV.sl (Con.days x.2).length 1 (Con.dayG (Con.days x.2)),AV.sl (Con.sub x.2).length 12 (Con.conG (Con.sub x.2))]]∧qp x.1∧Con.big x.2<67108864∧Con.nodes x.2≤1000000) fun n_2=>.all (fun(x:Unit)=>True) fun n_3=>.ex (fun(x:Ca×List Fx×List Ch)=>eqL [AV.agg [AV.str (Ca.name (acts.getD (0+Int.toNat (↑i:Int)) Ca.noA)),AV.str (Ca.into (acts.getD (0+Int.toNat (↑i:Int)) Ca.noA)),AV.int .i64 (Ca.date (acts.getD (0+Int.toNat (↑i:Int)) Ca.noA)),AV.str (Ca.ratio (acts.getD (0+Int.toNat (↑i:Int)) Ca.noA)),AV.str (Ca.extra (acts.getD (0+Int.toNat (↑i:Int)) Ca.noA))],AV.agg [AV.sl 1 3 (zg (zh 3 [AV.str #[].toList,AV.int .i64 0,AV.str #[].toList]) 0),AV.nils]] [AV.agg [AV.str (Ca.name x.1),AV.str (Ca.into x.1),AV.int .i64 (Ca.date x.1),AV.str (Ca.ratio x.1),AV.str (Ca.extra x.1)],AV.agg [AV.sl x.2.1.length 3 (fxG x.2.1),AV.sl x.2.2.length 4 (chG x.2.2)]]∧qJ x.1∧envP x.2∧x.2.1.length≤1000000) fun n_4=>.all (fun(r:(List Fx×List Ch)×Int)=>r=Ca.before n_4.1 n_4.2.1 n_4.2.2) fun n_5=>.ex (fun(x:Ca)=>true=true→eqL [AV.agg [AV.str (Ca.name (acts.getD (0+Int.toNat (↑i:Int)) Ca.noA)),AV.str (Ca.into (acts.getD (0+Int.toNat (↑i:Int)) Ca.noA)),AV.int .i64 (Ca.date (acts.getD (0+Int.toNat (↑i:Int)) Ca.noA)),AV.str (Ca.ratio (acts.getD (0+Int.toNat (↑i:Int)) Ca.noA)),AV.str (Ca.extra (acts.getD (0+Int.toNat (↑i:Int)) Ca.noA))]] [AV.agg [AV.str (Ca.name x),AV.str (Ca.into x),AV.int .i64 (Ca.date x),AV.str (Ca.ratio x),AV.str (Ca.extra x)]]∧qJ x) fun n_6=>.all (fun(x:Int)=>true=true→x=if Ca.ok n_6=true then(0:Int) else(8:Int)) fun n_7=>.side (inR .i64 ((↑i:Int)+(1:Int))) (.leaf (.back 1 [(0,.bool false),(1,.bool (bif bif bif bif true then decide (n_7=8) else false then decide (Prod.snd (Ca.expr n.1 n.2)=(8:Int)) else false then decide (Prod.snd (Ca.conv n_2.1 n_2.2)=(8:Int)) else false then decide (n_5.2=8) else false)),(46,.osl 0 5 0 9),(47,.int .i64 9),(48,.int .i64 ((↑i:Int)+(1:Int)))] [.arr 9 5 (caG acts),.box [.str (Ca.name (acts.getD (0+Int.toNat (↑i:Int)) Ca.noA)),.str (Ca.into (acts.getD (0+Int.toNat (↑i:Int)) Ca.noA)),.int .i64 (Ca.date (acts.getD (0+Int.toNat (↑i:Int)) Ca.noA)),.str (Ca.ratio (acts.getD (0+Int.toNat (↑i:Int)) Ca.noA)),.str (Ca.extra (acts.getD (0+Int.toNat (↑i:Int)) Ca.noA))],.box [.int .u8 (Ex.kind (Prod.fst (Ca.expr n.1 n.2))),.str (Ex.rat (Prod.fst (Ca.expr n.1 n.2))),.str (Ex.name (Prod.fst (Ca.expr n.1 n.2))),.int .i64 (Ex.date (Prod.fst (Ca.expr n.1 n.2))),.sl (List.length (Ex.sub (Prod.fst (Ca.expr n.1 n.2)))) 5 (Ex.deep (Prod.fst (Ca.expr n.1 n.2)))],.box [.int .u8 (Con.kind (Prod.fst (Ca.conv n_2.1 n_2.2))),.str (Con.src (Prod.fst (Ca.conv n_2.1 n_2.2))),.str (Con.dst (Prod.fst (Ca.conv n_2.1 n_2.2))),.str (Con.name (Prod.fst (Ca.conv n_2.1 n_2.2))),.int .u8 (Ex.kind (Con.x (Prod.fst (Ca.conv n_2.1 n_2.2)))),.str (Ex.rat (Con.x (Prod.fst (Ca.conv n_2.1 n_2.2)))),.str (Ex.name (Con.x (Prod.fst (Ca.conv n_2.1 n_2.2)))),.int .i64 (Ex.date (Con.x (Prod.fst (Ca.conv n_2.1 n_2.2)))),.sl (List.length (Ex.sub (Con.x (Prod.fst (Ca.conv n_2.1 n_2.2))))) 5 (Ex.exG (Ex.sub (Con.x (Prod.fst (Ca.conv n_2.1 n_2.2))))),.int .i64 (Con.date (Prod.fst (Ca.conv n_2.1 n_2.2))),.sl (List.length (Con.days (Prod.fst (Ca.conv n_2.1 n_2.2)))) 1 (Con.dayG (Con.days (Prod.fst (Ca.conv n_2.1 n_2.2)))),.sl (List.length (Con.sub (Prod.fst (Ca.conv n_2.1 n_2.2)))) 12 (Con.deep (Prod.fst (Ca.conv n_2.1 n_2.2)))],.arr 1 3 (zh 3 [.str #[].toList,.int .i64 0,.str #[].toList]),.box [.sl n_5.1.1.length 3 (fxG n_5.1.1),.sl n_5.1.2.length 4 (chG n_5.1.2)]])))) (.leaf (.back 0 [(0,.bool false),(1,.bool true),(46,.osl 0 5 0 9),(47,.int .i64 9),(48,.int .i64 i)] [.arr 9 5 (caG acts)]))) (by kernel_rfl) ?_
   simp only [Tree.holds,zd,inR,lo,hi,Int.toNat_natCast]
   refine⟨fun hlt=> ?_,fun hge=> ?_⟩
   ·have hlt:i<9:=by have:=of_decide_eq_true hlt; omega
    clear ht
    obtain⟨ho,ht⟩:=zje hlt
    simp only [Nat.zero_add]
    generalize acts.getD i Ca.noA=a at ho ht
    have ha:eqA (.agg [.str a.name,.str a.into,.int .i64 a.date,.str a.ratio,.str a.extra]) a.av:=⟨rfl,rfl,⟨rfl,rfl⟩,rfl,rfl,trivial⟩
    refine⟨by omega,fun _=> ?_⟩
    refine⟨(a,Ex.nil),⟨⟨ha,vW,trivial⟩,ht,(by show Ex.nil.size<1048576; decide),(by show Ex.nil.zu<1073741824; decide)⟩,⟨(),trivial⟩,fun _ _=> ?_⟩
    refine⟨(a,Con.nil),⟨⟨ha,zhl,trivial⟩,ht,(by show Con.nil.big<67108864; decide),(by show Con.nil.nodes≤1000000; decide)⟩,⟨(),trivial⟩,fun _ _=> ?_⟩
    refine⟨(a,[Fx.nil],[]),⟨⟨ha,⟨⟨rfl,rfl,Y8 (x:=Fx.nil)⟩,by simp [chS],trivial⟩,trivial⟩,j6 ht,⟨(by show 1<2^40; decide),(by show 0<2^40; decide),fun j hj=> ?_,fun j hj=>by cases hj⟩,(by show 1≤1000000; decide)⟩,⟨_,rfl⟩,?_⟩
    ·have:j=0:=by have:j<1:=hj; omega
     subst this
     exact⟨(by show 0<2^40; decide),(by show 0<2^40; decide)⟩
    rintro _ rfl
    refine⟨a,fun _=>⟨⟨ha,trivial⟩,j6 ht⟩,⟨_,fun _=>rfl⟩,fun e5 he5=> ?_⟩
    replace he5:e5=8:=by rw [he5 trivial,ho]; rfl
    subst he5
    have f1:(a.expr Ex.nil).2=8:=by unfold Ca.expr; rw [ho]; rfl
    have f2:(a.conv Con.nil).2=8:=by unfold Ca.conv; rw [ho]; rfl
    have f3:(a.before [Fx.nil] []).2=8:=by unfold Ca.before; rw [ho]; rfl
    simp only [f1,f2,f3]
    refine⟨by omega,fun _=> ?_⟩
    rw [if_pos trivial]
    exact⟨⟨i+1,hlt⟩,by show 9 - (i+1)<9 - i; omega,by simp [SZl],⟨za _,trivial⟩,by kernel_rfl,Nat.zero_le _⟩
   ·rw [if_neg (by decide),if_pos trivial]
    exact⟨(),by simp [SZ3],⟨trivial,trivial⟩,by kernel_rfl,Nat.zero_le _⟩
 show zE none Tryz.prog Tryz.f5 O 0 w0 [] _ _ LZ3 _
 refine zc.cutL (ι:=Unit) LZ3 3 0 (fun _=>SZ6) (fun _=>HZ6) (by kernel_rfl) (by kernel_rfl) ?_ fun _=> ?_
 ·refine zc.run hmix qG [0,1,10,11,13,15] 400 (T:=.ex (fun(x:SpA)=>eqL [AV.str #[(65:UInt8),(67:UInt8),(77:UInt8),(69:UInt8)].toList,AV.int .i64 10,AV.str #[(50:UInt8)].toList] [AV.str (SpA.n x),AV.int .i64 (SpA.d x),AV.str (SpA.r x)]∧List.length (SpA.n x)<274877906944∧List.length (SpA.r x)<274877906944) fun n=>.all (fun(x:Unit)=>True) fun n_1=>.ex (fun(x:SpA)=>eqL [AV.str #[(65:UInt8),(67:UInt8),(77:UInt8),(69:UInt8)].toList,AV.int .i64 10,AV.str #[(48:UInt8)].toList] [AV.str (SpA.n x),AV.int .i64 (SpA.d x),AV.str (SpA.r x)]∧List.length (SpA.n x)<274877906944∧List.length (SpA.r x)<274877906944) fun n_2=>.all (fun(x:Unit)=>True) fun n_3=>.ex (fun(x:SpA)=>eqL [AV.str #[(65:UInt8),(67:UInt8),(77:UInt8),(69:UInt8)].toList,AV.int .i64 10,AV.str #[].toList] [AV.str (SpA.n x),AV.int .i64 (SpA.d x),AV.str (SpA.r x)]∧List.length (SpA.n x)<274877906944∧List.length (SpA.r x)<274877906944) fun n_4=>.all (fun(x:Unit)=>True) fun n_5=>.leaf (.back 0 [(0,.bool false),(1,.bool true),(10,.ptr 1 0),(11,.int .i64 (if Ca.ok (splA (SpA.n n) (SpA.d n) (SpA.r n))=true then(0:Int) else(8:Int))),(13,.int .i64 (if Ca.ok (splA (SpA.n n_2) (SpA.d n_2) (SpA.r n_2))=true then(0:Int) else(8:Int))),(15,.int .i64 (if Ca.ok (divA (SpA.n n_4) (SpA.d n_4) (SpA.r n_4))=true then(0:Int) else(8:Int)))] [.dead,.box [.str (Ca.name (Ca.out (splA (SpA.n n) (SpA.d n) (SpA.r n)))),.str (Ca.into (Ca.out (splA (SpA.n n) (SpA.d n) (SpA.r n)))),.int .i64 (Ca.date (Ca.out (splA (SpA.n n) (SpA.d n) (SpA.r n)))),.str (Ca.ratio (Ca.out (splA (SpA.n n) (SpA.d n) (SpA.r n)))),.str (Ca.extra (Ca.out (splA (SpA.n n) (SpA.d n) (SpA.r n))))],.box [.str (Ca.name (Ca.out (splA (SpA.n n_2) (SpA.d n_2) (SpA.r n_2)))),.str (Ca.into (Ca.out (splA (SpA.n n_2) (SpA.d n_2) (SpA.r n_2)))),.int .i64 (Ca.date (Ca.out (splA (SpA.n n_2) (SpA.d n_2) (SpA.r n_2)))),.str (Ca.ratio (Ca.out (splA (SpA.n n_2) (SpA.d n_2) (SpA.r n_2)))),.str (Ca.extra (Ca.out (splA (SpA.n n_2) (SpA.d n_2) (SpA.r n_2))))],.box [.str (Ca.name (Ca.out (divA (SpA.n n_4) (SpA.d n_4) (SpA.r n_4)))),.str (Ca.into (Ca.out (divA (SpA.n n_4) (SpA.d n_4) (SpA.r n_4)))),.int .i64 (Ca.date (Ca.out (divA (SpA.n n_4) (SpA.d n_4) (SpA.r n_4)))),.str (Ca.ratio (Ca.out (divA (SpA.n n_4) (SpA.d n_4) (SpA.r n_4)))),.str (Ca.extra (Ca.out (divA (SpA.n n_4) (SpA.d n_4) (SpA.r n_4))))]])) (by kernel_rfl) ?_
  simp only [Tree.holds,zd,inR,lo,hi,Int.toNat_natCast]
  refine⟨⟨acme,10,[50]⟩,⟨⟨rfl,⟨rfl,rfl⟩,rfl,trivial⟩,by decide,by decide⟩,?_⟩
  have e8:(if(splA acme 10 [50]).ok=true then(0:Int) else 8)=0:=if_pos W9
  simp only [YJ,e8]
  refine⟨⟨(),trivial⟩,fun _ _=> ?_⟩
  refine⟨⟨acme,10,[48]⟩,⟨⟨rfl,⟨rfl,rfl⟩,rfl,trivial⟩,by decide,by decide⟩,?_⟩
  have e9:(if(splA acme 10 [48]).ok=true then(0:Int) else 8)=8:=if_neg zgt
  simp only [e9]
  refine⟨⟨(),trivial⟩,fun _ _=> ?_⟩
  refine⟨⟨acme,10,[]⟩,⟨⟨rfl,⟨rfl,rfl⟩,rfl,trivial⟩,by decide,by decide⟩,?_⟩
  have e10:(if(divA acme 10 []).ok=true then(0:Int) else 8)=8:=if_neg zh8
  simp only [e10]
  refine⟨⟨(),trivial⟩,fun _ _=> ?_⟩
  rw [if_pos trivial]
  exact⟨(),by simp [SZ3,SZ6],⟨trivial,za _,trivial,trivial,trivial⟩,by kernel_rfl,Nat.zero_le _⟩
 show zE none Tryz.prog Tryz.f5 O 0 w0 [] _ _ LZ6 _
 refine zc.cutL (ι:=Unit) LZ6 2 0 (fun _=>SZ8) (fun _=>HZ8) (by kernel_rfl) (by kernel_rfl) ?_ fun _=> ?_
 ·refine zc.run hmix qG [0,1,10,11,13,15,16,17,18] 400 (T:=.leaf (.back 0 [(0,.bool false),(1,.bool true),(10,.ptr 1 0),(11,.int .i64 0),(13,.int .i64 8),(15,.int .i64 8),(16,.ptr 4 0),(17,.ptr 5 0),(18,.ptr 6 0)] [.dead,.box [.str [(65:UInt8),(67:UInt8),(77:UInt8),(69:UInt8)],.str [(65:UInt8),(67:UInt8),(77:UInt8),(69:UInt8)],.int .i64 10,.str [(50:UInt8)],.str [(48:UInt8)]],.dead,.dead,.box [.str #[(65:UInt8),(67:UInt8),(77:UInt8),(69:UInt8)].toList,.str #[(66:UInt8),(73:UInt8),(71:UInt8)].toList,.int .i64 10,.str #[(49:UInt8),(47:UInt8),(51:UInt8)].toList,.str #[(45:UInt8),(53:UInt8)].toList],.box [.int .u8 2,.str #[].toList,.str #[(65:UInt8),(67:UInt8),(77:UInt8),(69:UInt8)].toList,.int .i64 9,.nils],.box [.int .u8 2,.str #[].toList,.str #[(65:UInt8),(67:UInt8),(77:UInt8),(69:UInt8)].toList,.int .i64 10,.nils]])) (by kernel_rfl) ?_
  simp only [Tree.holds,zd,inR,lo,hi,Int.toNat_natCast]
  rw [if_pos trivial]
  exact⟨(),by simp [SZ3,SZ6,SZ8],⟨trivial,za _,trivial,trivial,za _,zig,zig,trivial⟩,by kernel_rfl,Nat.zero_le _⟩
 show zE none Tryz.prog Tryz.f5 O 0 w0 [] _ _ LZ8 _
 refine zc.cutL (ι:=Unit) LZ8 1 0 (fun _=>SZ9) (fun _=>HZ9) (by kernel_rfl) (by kernel_rfl) ?_ fun _=> ?_
 ·refine zc.run hmix qG [0,1,10,11,13,15,16,17,18,19,20] 400 (T:=.all (fun(x:Bool)=>True) fun n=>.ite n (.ex (fun(x:Int×Ex×Ex)=>eqL [AV.int .u8 7,AV.agg [AV.int .u8 2,AV.str (Ex.rat (ze acme (9:Int))),AV.str (Ex.name (ze acme (9:Int))),AV.int .i64 9,AV.sl 0 5 (Ex.deep (ze acme (9:Int)))],AV.agg [AV.int .u8 2,AV.str (Ex.rat (ze acme (10:Int))),AV.str (Ex.name (ze acme (10:Int))),AV.int .i64 10,AV.sl 0 5 (Ex.deep (ze acme (10:Int)))]] [AV.int .u8 x.1,AV.agg [AV.int .u8 x.2.1.kind,AV.str x.2.1.rat,AV.str x.2.1.name,AV.int .i64 x.2.1.date,AV.sl x.2.1.sub.length 5 (Ex.exG x.2.1.sub)],AV.agg [AV.int .u8 x.2.2.kind,AV.str x.2.2.rat,AV.str x.2.2.name,AV.int .i64 x.2.2.date,AV.sl x.2.2.sub.length 5 (Ex.exG x.2.2.sub)]]∧True) fun n=>.all (fun(x:Unit)=>True) fun n_1=>.all (fun(x:Bool)=>True) fun n_2=>.ite n_2 (.ex (fun(x:Ca×Ex)=>eqL [AV.agg [AV.str [(65:UInt8),(67:UInt8),(77:UInt8),(69:UInt8)],AV.str [(66:UInt8),(73:UInt8),(71:UInt8)],AV.int .i64 10,AV.str [(49:UInt8),(47:UInt8),(51:UInt8)],AV.str [(45:UInt8),(53:UInt8)]],AV.agg [AV.int .u8 (Ex.kind (Ex.mk n.1 [] [] (0:Int) [n.2.1,n.2.2])),AV.str (Ex.rat (Ex.mk n.1 [] [] (0:Int) [n.2.1,n.2.2])),AV.str (Ex.name (Ex.mk n.1 [] [] (0:Int) [n.2.1,n.2.2])),AV.int .i64 (Ex.date (Ex.mk n.1 [] [] (0:Int) [n.2.1,n.2.2])),AV.sl (List.length (Ex.sub (Ex.mk n.1 [] [] (0:Int) [n.2.1,n.2.2]))) 5 (Ex.deep (Ex.mk n.1 [] [] (0:Int) [n.2.1,n.2.2]))]] [AV.agg [AV.str (Ca.name x.1),AV.str (Ca.into x.1),AV.int .i64 (Ca.date x.1),AV.str (Ca.ratio x.1),AV.str (Ca.extra x.1)],AV.agg [AV.int .u8 x.2.kind,AV.str x.2.rat,AV.str x.2.name,AV.int .i64 x.2.date,AV.sl x.2.sub.length 5 (Ex.exG x.2.sub)]]∧qp x.1∧Ex.size x.2<1048576∧Ex.zu x.2<1073741824) fun n=>.all (fun(x:Unit)=>True) fun n_3=>.leaf (.back 0 [(0,.bool false),(1,.bool true),(10,.ptr 1 0),(11,.int .i64 0),(13,.int .i64 8),(15,.int .i64 8),(16,.ptr 4 0),(17,.ptr 5 0),(18,.ptr 6 0),(19,.ptr 7 0),(20,.int .i64 (Prod.snd (Ca.expr n.1 n.2)))] [.dead,.box [.str [(65:UInt8),(67:UInt8),(77:UInt8),(69:UInt8)],.str [(65:UInt8),(67:UInt8),(77:UInt8),(69:UInt8)],.int .i64 10,.str [(50:UInt8)],.str [(48:UInt8)]],.dead,.dead,.box [.str [(65:UInt8),(67:UInt8),(77:UInt8),(69:UInt8)],.str [(66:UInt8),(73:UInt8),(71:UInt8)],.int .i64 10,.str [(49:UInt8),(47:UInt8),(51:UInt8)],.str [(45:UInt8),(53:UInt8)]],.box [.int .u8 2,.str (Ex.rat (ze acme (9:Int))),.str (Ex.name (ze acme (9:Int))),.int .i64 9,.sl 0 5 (Ex.deep (ze acme (9:Int)))],.box [.int .u8 2,.str (Ex.rat (ze acme (10:Int))),.str (Ex.name (ze acme (10:Int))),.int .i64 10,.sl 0 5 (Ex.deep (ze acme (10:Int)))],.box [.int .u8 (Ex.kind (Prod.fst (Ca.expr n.1 n.2))),.str (Ex.rat (Prod.fst (Ca.expr n.1 n.2))),.str (Ex.name (Prod.fst (Ca.expr n.1 n.2))),.int .i64 (Ex.date (Prod.fst (Ca.expr n.1 n.2))),.sl (List.length (Ex.sub (Prod.fst (Ca.expr n.1 n.2)))) 5 (Ex.deep (Prod.fst (Ca.expr n.1 n.2)))]])) (.ex (fun(x:Ca×Ex)=>eqL [AV.agg [AV.str [(65:UInt8),(67:UInt8),(77:UInt8),(69:UInt8)],AV.str [(66:UInt8),(73:UInt8),(71:UInt8)],AV.int .i64 10,AV.str [(49:UInt8),(47:UInt8),(51:UInt8)],AV.str [(45:UInt8),(53:UInt8)]],AV.agg [AV.int .u8 (Ex.kind (Ex.mk n.1 [] [] (0:Int) [n.2.1,n.2.2])),AV.str (Ex.rat (Ex.mk n.1 [] [] (0:Int) [n.2.1,n.2.2])),AV.str (Ex.name (Ex.mk n.1 [] [] (0:Int) [n.2.1,n.2.2])),AV.int .i64 (Ex.date (Ex.mk n.1 [] [] (0:Int) [n.2.1,n.2.2])),AV.sl (List.length (Ex.sub (Ex.mk n.1 [] [] (0:Int) [n.2.1,n.2.2]))) 5 (Ex.deep (Ex.mk n.1 [] [] (0:Int) [n.2.1,n.2.2]))]] [AV.agg [AV.str (Ca.name x.1),AV.str (Ca.into x.1),AV.int .i64 (Ca.date x.1),AV.str (Ca.ratio x.1),AV.str (Ca.extra x.1)],AV.agg [AV.int .u8 x.2.kind,AV.str x.2.rat,AV.str x.2.name,AV.int .i64 x.2.date,AV.sl x.2.sub.length 5 (Ex.exG x.2.sub)]]∧qp x.1∧Ex.size x.2<1048576∧Ex.zu x.2<1073741824) fun n=>.all (fun(x:Unit)=>True) fun n_3=>.leaf (.back 0 [(0,.bool false),(1,.bool true),(10,.ptr 1 0),(11,.int .i64 0),(13,.int .i64 8),(15,.int .i64 8),(16,.ptr 4 0),(17,.ptr 5 0),(18,.ptr 6 0),(19,.ptr 7 0),(20,.int .i64 (Prod.snd (Ca.expr n.1 n.2)))] [.dead,.box [.str [(65:UInt8),(67:UInt8),(77:UInt8),(69:UInt8)],.str [(65:UInt8),(67:UInt8),(77:UInt8),(69:UInt8)],.int .i64 10,.str [(50:UInt8)],.str [(48:UInt8)]],.dead,.dead,.box [.str [(65:UInt8),(67:UInt8),(77:UInt8),(69:UInt8)],.str [(66:UInt8),(73:UInt8),(71:UInt8)],.int .i64 10,.str [(49:UInt8),(47:UInt8),(51:UInt8)],.str [(45:UInt8),(53:UInt8)]],.box [.int .u8 2,.str (Ex.rat (ze acme (9:Int))),.str (Ex.name (ze acme (9:Int))),.int .i64 9,.sl 0 5 (Ex.deep (ze acme (9:Int)))],.box [.int .u8 2,.str (Ex.rat (ze acme (10:Int))),.str (Ex.name (ze acme (10:Int))),.int .i64 10,.sl 0 5 (Ex.deep (ze acme (10:Int)))],.box [.int .u8 (Ex.kind (Prod.fst (Ca.expr n.1 n.2))),.str (Ex.rat (Prod.fst (Ca.expr n.1 n.2))),.str (Ex.name (Prod.fst (Ca.expr n.1 n.2))),.int .i64 (Ex.date (Prod.fst (Ca.expr n.1 n.2))),.sl (List.length (Ex.sub (Prod.fst (Ca.expr n.1 n.2)))) 5 (Ex.deep (Prod.fst (Ca.expr n.1 n.2)))]]))) (.ex (fun(x:Int×Ex×Ex)=>eqL [AV.int .u8 7,AV.agg [AV.int .u8 2,AV.str (Ex.rat (ze acme (9:Int))),AV.str (Ex.name (ze acme (9:Int))),AV.int .i64 9,AV.sl 0 5 (Ex.deep (ze acme (9:Int)))],AV.agg [AV.int .u8 2,AV.str (Ex.rat (ze acme (10:Int))),AV.str (Ex.name (ze acme (10:Int))),AV.int .i64 10,AV.sl 0 5 (Ex.deep (ze acme (10:Int)))]] [AV.int .u8 x.1,AV.agg [AV.int .u8 x.2.1.kind,AV.str x.2.1.rat,AV.str x.2.1.name,AV.int .i64 x.2.1.date,AV.sl x.2.1.sub.length 5 (Ex.exG x.2.1.sub)],AV.agg [AV.int .u8 x.2.2.kind,AV.str x.2.2.rat,AV.str x.2.2.name,AV.int .i64 x.2.2.date,AV.sl x.2.2.sub.length 5 (Ex.exG x.2.2.sub)]]∧True) fun n=>.all (fun(x:Unit)=>True) fun n_1=>.ex (fun(x:Ca×Ex)=>eqL [AV.agg [AV.str [(65:UInt8),(67:UInt8),(77:UInt8),(69:UInt8)],AV.str [(66:UInt8),(73:UInt8),(71:UInt8)],AV.int .i64 10,AV.str [(49:UInt8),(47:UInt8),(51:UInt8)],AV.str [(45:UInt8),(53:UInt8)]],AV.agg [AV.int .u8 (Ex.kind (Ex.mk n.1 [] [] (0:Int) [n.2.1,n.2.2])),AV.str (Ex.rat (Ex.mk n.1 [] [] (0:Int) [n.2.1,n.2.2])),AV.str (Ex.name (Ex.mk n.1 [] [] (0:Int) [n.2.1,n.2.2])),AV.int .i64 (Ex.date (Ex.mk n.1 [] [] (0:Int) [n.2.1,n.2.2])),AV.sl (List.length (Ex.sub (Ex.mk n.1 [] [] (0:Int) [n.2.1,n.2.2]))) 5 (Ex.deep (Ex.mk n.1 [] [] (0:Int) [n.2.1,n.2.2]))]] [AV.agg [AV.str (Ca.name x.1),AV.str (Ca.into x.1),AV.int .i64 (Ca.date x.1),AV.str (Ca.ratio x.1),AV.str (Ca.extra x.1)],AV.agg [AV.int .u8 x.2.kind,AV.str x.2.rat,AV.str x.2.name,AV.int .i64 x.2.date,AV.sl x.2.sub.length 5 (Ex.exG x.2.sub)]]∧qp x.1∧Ex.size x.2<1048576∧Ex.zu x.2<1073741824) fun n=>.all (fun(x:Unit)=>True) fun n_2=>.leaf (.back 0 [(0,.bool false),(1,.bool true),(10,.ptr 1 0),(11,.int .i64 0),(13,.int .i64 8),(15,.int .i64 8),(16,.ptr 4 0),(17,.ptr 5 0),(18,.ptr 6 0),(19,.ptr 7 0),(20,.int .i64 (Prod.snd (Ca.expr n.1 n.2)))] [.dead,.box [.str [(65:UInt8),(67:UInt8),(77:UInt8),(69:UInt8)],.str [(65:UInt8),(67:UInt8),(77:UInt8),(69:UInt8)],.int .i64 10,.str [(50:UInt8)],.str [(48:UInt8)]],.dead,.dead,.box [.str [(65:UInt8),(67:UInt8),(77:UInt8),(69:UInt8)],.str [(66:UInt8),(73:UInt8),(71:UInt8)],.int .i64 10,.str [(49:UInt8),(47:UInt8),(51:UInt8)],.str [(45:UInt8),(53:UInt8)]],.box [.int .u8 2,.str (Ex.rat (ze acme (9:Int))),.str (Ex.name (ze acme (9:Int))),.int .i64 9,.sl 0 5 (Ex.deep (ze acme (9:Int)))],.box [.int .u8 2,.str (Ex.rat (ze acme (10:Int))),.str (Ex.name (ze acme (10:Int))),.int .i64 10,.sl 0 5 (Ex.deep (ze acme (10:Int)))],.box [.int .u8 (Ex.kind (Prod.fst (Ca.expr n.1 n.2))),.str (Ex.rat (Prod.fst (Ca.expr n.1 n.2))),.str (Ex.name (Prod.fst (Ca.expr n.1 n.2))),.int .i64 (Ex.date (Prod.fst (Ca.expr n.1 n.2))),.sl (List.length (Ex.sub (Prod.fst (Ca.expr n.1 n.2)))) 5 (Ex.deep (Prod.fst (Ca.expr n.1 n.2)))]]))) (by kernel_rfl) ?_
  simp only [Tree.holds,zd,inR,lo,hi,Int.toNat_natCast]
  repeat' first
   | apply wT
   | apply kW
   | apply xv
   | apply yR (ze acme 9) (ze acme 10) (qb _) (qb _)
   | apply yl aMer x3 zda (qb x3) htm (by decide) (by decide)
  all_goals
   simp only [zlg]
   rw [if_pos trivial]
  all_goals exact⟨(),by simp [SZ3,SZ6,SZ8,SZ9],⟨trivial,za _,trivial,trivial,za _,za _,za _,za _,trivial⟩,by kernel_rfl,Nat.zero_le _⟩
 show zE none Tryz.prog Tryz.f5 O 0 w0 [] _ _ LZ9 _
 refine zc.cutL (ι:=Unit) LZ9 1 0 (fun _=>SZ10) (fun _=>HZ10) (by kernel_rfl) (by kernel_rfl) ?_ fun _=> ?_
 ·refine zc.run hmix qG [0,1,10,11,13,15,16,17,18,19,20,21] 400 (T:=.all (fun(x:Bool)=>True) fun n=>.ite n (.ex (fun(x:List UInt8)=>eqL [AV.str #[(49:UInt8),(47:UInt8),(51:UInt8)].toList] [AV.str x]∧True) fun n=>.all (fun(x:Unit)=>True) fun n_1=>.all (fun(x:Bool)=>True) fun n_2=>.ite n_2 (.ex (fun(x:Int×Ex×Ex)=>eqL [AV.int .u8 6,AV.agg [AV.int .u8 1,AV.str n,AV.str [],AV.int .i64 0,AV.nils],AV.agg [AV.int .u8 2,AV.str #[].toList,AV.str #[(66:UInt8),(73:UInt8),(71:UInt8)].toList,AV.int .i64 10,AV.nils]] [AV.int .u8 x.1,AV.agg [AV.int .u8 x.2.1.kind,AV.str x.2.1.rat,AV.str x.2.1.name,AV.int .i64 x.2.1.date,AV.sl x.2.1.sub.length 5 (Ex.exG x.2.1.sub)],AV.agg [AV.int .u8 x.2.2.kind,AV.str x.2.2.rat,AV.str x.2.2.name,AV.int .i64 x.2.2.date,AV.sl x.2.2.sub.length 5 (Ex.exG x.2.2.sub)]]∧True) fun n=>.all (fun(x:Unit)=>True) fun n_3=>.all (fun(x:Bool)=>True) fun n_4=>.ite n_4 (.ex (fun(x:List UInt8)=>eqL [AV.str #[(45:UInt8),(53:UInt8)].toList] [AV.str x]∧True) fun n_5=>.all (fun(x:Unit)=>True) fun n_6=>.all (fun(x:Bool)=>True) fun n_7=>.ite n_7 (.ex (fun(x:Int×Ex×Ex)=>eqL [AV.int .u8 4,AV.agg [AV.int .u8 (Ex.kind (Ex.mk n.1 [] [] (0:Int) [n.2.1,n.2.2])),AV.str (Ex.rat (Ex.mk n.1 [] [] (0:Int) [n.2.1,n.2.2])),AV.str (Ex.name (Ex.mk n.1 [] [] (0:Int) [n.2.1,n.2.2])),AV.int .i64 (Ex.date (Ex.mk n.1 [] [] (0:Int) [n.2.1,n.2.2])),AV.sl (List.length (Ex.sub (Ex.mk n.1 [] [] (0:Int) [n.2.1,n.2.2]))) 5 (Ex.deep (Ex.mk n.1 [] [] (0:Int) [n.2.1,n.2.2]))],AV.agg [AV.int .u8 1,AV.str n_5,AV.str [],AV.int .i64 0,AV.nils]] [AV.int .u8 x.1,AV.agg [AV.int .u8 x.2.1.kind,AV.str x.2.1.rat,AV.str x.2.1.name,AV.int .i64 x.2.1.date,AV.sl x.2.1.sub.length 5 (Ex.exG x.2.1.sub)],AV.agg [AV.int .u8 x.2.2.kind,AV.str x.2.2.rat,AV.str x.2.2.name,AV.int .i64 x.2.2.date,AV.sl x.2.2.sub.length 5 (Ex.exG x.2.2.sub)]]∧True) fun n=>.all (fun(x:Unit)=>True) fun n_8=>.all (fun(x:Bool)=>True) fun n_9=>.ite n_9 (.ex (fun(x:Int×Ex×Ex)=>eqL [AV.int .u8 7,AV.agg [AV.int .u8 2,AV.str (Ex.rat (ze acme (9:Int))),AV.str (Ex.name (ze acme (9:Int))),AV.int .i64 9,AV.sl 0 5 (Ex.deep (ze acme (9:Int)))],AV.agg [AV.int .u8 (Ex.kind (Ex.mk n.1 [] [] (0:Int) [n.2.1,n.2.2])),AV.str (Ex.rat (Ex.mk n.1 [] [] (0:Int) [n.2.1,n.2.2])),AV.str (Ex.name (Ex.mk n.1 [] [] (0:Int) [n.2.1,n.2.2])),AV.int .i64 (Ex.date (Ex.mk n.1 [] [] (0:Int) [n.2.1,n.2.2])),AV.sl (List.length (Ex.sub (Ex.mk n.1 [] [] (0:Int) [n.2.1,n.2.2]))) 5 (Ex.deep (Ex.mk n.1 [] [] (0:Int) [n.2.1,n.2.2]))]] [AV.int .u8 x.1,AV.agg [AV.int .u8 x.2.1.kind,AV.str x.2.1.rat,AV.str x.2.1.name,AV.int .i64 x.2.1.date,AV.sl x.2.1.sub.length 5 (Ex.exG x.2.1.sub)],AV.agg [AV.int .u8 x.2.2.kind,AV.str x.2.2.rat,AV.str x.2.2.name,AV.int .i64 x.2.2.date,AV.sl x.2.2.sub.length 5 (Ex.exG x.2.2.sub)]]∧True) fun n=>.all (fun(x:Unit)=>True) fun n_10=>.leaf (.back 0 [(0,.bool false),(1,.bool true),(10,.ptr 1 0),(11,.int .i64 0),(13,.int .i64 8),(15,.int .i64 8),(16,.ptr 4 0),(17,.ptr 5 0),(18,.ptr 6 0),(19,.ptr 7 0),(20,.int .i64 0),(21,.ptr 8 0)] [.dead,.box [.str [(65:UInt8),(67:UInt8),(77:UInt8),(69:UInt8)],.str [(65:UInt8),(67:UInt8),(77:UInt8),(69:UInt8)],.int .i64 10,.str [(50:UInt8)],.str [(48:UInt8)]],.dead,.dead,.box [.str [(65:UInt8),(67:UInt8),(77:UInt8),(69:UInt8)],.str [(66:UInt8),(73:UInt8),(71:UInt8)],.int .i64 10,.str [(49:UInt8),(47:UInt8),(51:UInt8)],.str [(45:UInt8),(53:UInt8)]],.box [.int .u8 2,.str (Ex.rat (ze acme (9:Int))),.str (Ex.name (ze acme (9:Int))),.int .i64 9,.sl 0 5 (Ex.deep (ze acme (9:Int)))],.box [.int .u8 2,.str (Ex.rat (ze acme (10:Int))),.str (Ex.name (ze acme (10:Int))),.int .i64 10,.sl 0 5 (Ex.deep (ze acme (10:Int)))],.box [.int .u8 7,.str w3.rat,.str w3.name,.int .i64 0,.sl 2 5 w3.deep],.box [.int .u8 (Ex.kind (Ex.mk n.1 [] [] (0:Int) [n.2.1,n.2.2])),.str (Ex.rat (Ex.mk n.1 [] [] (0:Int) [n.2.1,n.2.2])),.str (Ex.name (Ex.mk n.1 [] [] (0:Int) [n.2.1,n.2.2])),.int .i64 (Ex.date (Ex.mk n.1 [] [] (0:Int) [n.2.1,n.2.2])),.sl (List.length (Ex.sub (Ex.mk n.1 [] [] (0:Int) [n.2.1,n.2.2]))) 5 (Ex.deep (Ex.mk n.1 [] [] (0:Int) [n.2.1,n.2.2]))]])) (.ex (fun(x:Int×Ex×Ex)=>eqL [AV.int .u8 7,AV.agg [AV.int .u8 2,AV.str (Ex.rat (ze acme (9:Int))),AV.str (Ex.name (ze acme (9:Int))),AV.int .i64 9,AV.sl 0 5 (Ex.deep (ze acme (9:Int)))],AV.agg [AV.int .u8 (Ex.kind (Ex.mk n.1 [] [] (0:Int) [n.2.1,n.2.2])),AV.str (Ex.rat (Ex.mk n.1 [] [] (0:Int) [n.2.1,n.2.2])),AV.str (Ex.name (Ex.mk n.1 [] [] (0:Int) [n.2.1,n.2.2])),AV.int .i64 (Ex.date (Ex.mk n.1 [] [] (0:Int) [n.2.1,n.2.2])),AV.sl (List.length (Ex.sub (Ex.mk n.1 [] [] (0:Int) [n.2.1,n.2.2]))) 5 (Ex.deep (Ex.mk n.1 [] [] (0:Int) [n.2.1,n.2.2]))]] [AV.int .u8 x.1,AV.agg [AV.int .u8 x.2.1.kind,AV.str x.2.1.rat,AV.str x.2.1.name,AV.int .i64 x.2.1.date,AV.sl x.2.1.sub.length 5 (Ex.exG x.2.1.sub)],AV.agg [AV.int .u8 x.2.2.kind,AV.str x.2.2.rat,AV.str x.2.2.name,AV.int .i64 x.2.2.date,AV.sl x.2.2.sub.length 5 (Ex.exG x.2.2.sub)]]∧True) fun n=>.all (fun(x:Unit)=>True) fun n_10=>.leaf (.back 0 [(0,.bool false),(1,.bool true),(10,.ptr 1 0),(11,.int .i64 0),(13,.int .i64 8),(15,.int .i64 8),(16,.ptr 4 0),(17,.ptr 5 0),(18,.ptr 6 0),(19,.ptr 7 0),(20,.int .i64 0),(21,.ptr 8 0)] [.dead,.box [.str [(65:UInt8),(67:UInt8),(77:UInt8),(69:UInt8)],.str [(65:UInt8),(67:UInt8),(77:UInt8),(69:UInt8)],.int .i64 10,.str [(50:UInt8)],.str [(48:UInt8)]],.dead,.dead,.box [.str [(65:UInt8),(67:UInt8),(77:UInt8),(69:UInt8)],.str [(66:UInt8),(73:UInt8),(71:UInt8)],.int .i64 10,.str [(49:UInt8),(47:UInt8),(51:UInt8)],.str [(45:UInt8),(53:UInt8)]],.box [.int .u8 2,.str (Ex.rat (ze acme (9:Int))),.str (Ex.name (ze acme (9:Int))),.int .i64 9,.sl 0 5 (Ex.deep (ze acme (9:Int)))],.box [.int .u8 2,.str (Ex.rat (ze acme (10:Int))),.str (Ex.name (ze acme (10:Int))),.int .i64 10,.sl 0 5 (Ex.deep (ze acme (10:Int)))],.box [.int .u8 7,.str w3.rat,.str w3.name,.int .i64 0,.sl 2 5 w3.deep],.box [.int .u8 (Ex.kind (Ex.mk n.1 [] [] (0:Int) [n.2.1,n.2.2])),.str (Ex.rat (Ex.mk n.1 [] [] (0:Int) [n.2.1,n.2.2])),.str (Ex.name (Ex.mk n.1 [] [] (0:Int) [n.2.1,n.2.2])),.int .i64 (Ex.date (Ex.mk n.1 [] [] (0:Int) [n.2.1,n.2.2])),.sl (List.length (Ex.sub (Ex.mk n.1 [] [] (0:Int) [n.2.1,n.2.2]))) 5 (Ex.deep (Ex.mk n.1 [] [] (0:Int) [n.2.1,n.2.2]))]]))) (.ex (fun(x:Int×Ex×Ex)=>eqL [AV.int .u8 4,AV.agg [AV.int .u8 (Ex.kind (Ex.mk n.1 [] [] (0:Int) [n.2.1,n.2.2])),AV.str (Ex.rat (Ex.mk n.1 [] [] (0:Int) [n.2.1,n.2.2])),AV.str (Ex.name (Ex.mk n.1 [] [] (0:Int) [n.2.1,n.2.2])),AV.int .i64 (Ex.date (Ex.mk n.1 [] [] (0:Int) [n.2.1,n.2.2])),AV.sl (List.length (Ex.sub (Ex.mk n.1 [] [] (0:Int) [n.2.1,n.2.2]))) 5 (Ex.deep (Ex.mk n.1 [] [] (0:Int) [n.2.1,n.2.2]))],AV.agg [AV.int .u8 1,AV.str n_5,AV.str [],AV.int .i64 0,AV.nils]] [AV.int .u8 x.1,AV.agg [AV.int .u8 x.2.1.kind,AV.str x.2.1.rat,AV.str x.2.1.name,AV.int .i64 x.2.1.date,AV.sl x.2.1.sub.length 5 (Ex.exG x.2.1.sub)],AV.agg [AV.int .u8 x.2.2.kind,AV.str x.2.2.rat,AV.str x.2.2.name,AV.int .i64 x.2.2.date,AV.sl x.2.2.sub.length 5 (Ex.exG x.2.2.sub)]]∧True) fun n=>.all (fun(x:Unit)=>True) fun n_8=>.ex (fun(x:Int×Ex×Ex)=>eqL [AV.int .u8 7,AV.agg [AV.int .u8 2,AV.str (Ex.rat (ze acme (9:Int))),AV.str (Ex.name (ze acme (9:Int))),AV.int .i64 9,AV.sl 0 5 (Ex.deep (ze acme (9:Int)))],AV.agg [AV.int .u8 (Ex.kind (Ex.mk n.1 [] [] (0:Int) [n.2.1,n.2.2])),AV.str (Ex.rat (Ex.mk n.1 [] [] (0:Int) [n.2.1,n.2.2])),AV.str (Ex.name (Ex.mk n.1 [] [] (0:Int) [n.2.1,n.2.2])),AV.int .i64 (Ex.date (Ex.mk n.1 [] [] (0:Int) [n.2.1,n.2.2])),AV.sl (List.length (Ex.sub (Ex.mk n.1 [] [] (0:Int) [n.2.1,n.2.2]))) 5 (Ex.deep (Ex.mk n.1 [] [] (0:Int) [n.2.1,n.2.2]))]] [AV.int .u8 x.1,AV.agg [AV.int .u8 x.2.1.kind,AV.str x.2.1.rat,AV.str x.2.1.name,AV.int .i64 x.2.1.date,AV.sl x.2.1.sub.length 5 (Ex.exG x.2.1.sub)],AV.agg [AV.int .u8 x.2.2.kind,AV.str x.2.2.rat,AV.str x.2.2.name,AV.int .i64 x.2.2.date,AV.sl x.2.2.sub.length 5 (Ex.exG x.2.2.sub)]]∧True) fun n=>.all (fun(x:Unit)=>True) fun n_9=>.leaf (.back 0 [(0,.bool false),(1,.bool true),(10,.ptr 1 0),(11,.int .i64 0),(13,.int .i64 8),(15,.int .i64 8),(16,.ptr 4 0),(17,.ptr 5 0),(18,.ptr 6 0),(19,.ptr 7 0),(20,.int .i64 0),(21,.ptr 8 0)] [.dead,.box [.str [(65:UInt8),(67:UInt8),(77:UInt8),(69:UInt8)],.str [(65:UInt8),(67:UInt8),(77:UInt8),(69:UInt8)],.int .i64 10,.str [(50:UInt8)],.str [(48:UInt8)]],.dead,.dead,.box [.str [(65:UInt8),(67:UInt8),(77:UInt8),(69:UInt8)],.str [(66:UInt8),(73:UInt8),(71:UInt8)],.int .i64 10,.str [(49:UInt8),(47:UInt8),(51:UInt8)],.str [(45:UInt8),(53:UInt8)]],.box [.int .u8 2,.str (Ex.rat (ze acme (9:Int))),.str (Ex.name (ze acme (9:Int))),.int .i64 9,.sl 0 5 (Ex.deep (ze acme (9:Int)))],.box [.int .u8 2,.str (Ex.rat (ze acme (10:Int))),.str (Ex.name (ze acme (10:Int))),.int .i64 10,.sl 0 5 (Ex.deep (ze acme (10:Int)))],.box [.int .u8 7,.str w3.rat,.str w3.name,.int .i64 0,.sl 2 5 w3.deep],.box [.int .u8 (Ex.kind (Ex.mk n.1 [] [] (0:Int) [n.2.1,n.2.2])),.str (Ex.rat (Ex.mk n.1 [] [] (0:Int) [n.2.1,n.2.2])),.str (Ex.name (Ex.mk n.1 [] [] (0:Int) [n.2.1,n.2.2])),.int .i64 (Ex.date (Ex.mk n.1 [] [] (0:Int) [n.2.1,n.2.2])),.sl (List.length (Ex.sub (Ex.mk n.1 [] [] (0:Int) [n.2.1,n.2.2]))) 5 (Ex.deep (Ex.mk n.1 [] [] (0:Int) [n.2.1,n.2.2]))]]))) (.ex (fun(x:List UInt8)=>eqL [AV.str #[(45:UInt8),(53:UInt8)].toList] [AV.str x]∧True) fun n_5=>.all (fun(x:Unit)=>True) fun n_6=>.ex (fun(x:Int×Ex×Ex)=>eqL [AV.int .u8 4,AV.agg [AV.int .u8 (Ex.kind (Ex.mk n.1 [] [] (0:Int) [n.2.1,n.2.2])),AV.str (Ex.rat (Ex.mk n.1 [] [] (0:Int) [n.2.1,n.2.2])),AV.str (Ex.name (Ex.mk n.1 [] [] (0:Int) [n.2.1,n.2.2])),AV.int .i64 (Ex.date (Ex.mk n.1 [] [] (0:Int) [n.2.1,n.2.2])),AV.sl (List.length (Ex.sub (Ex.mk n.1 [] [] (0:Int) [n.2.1,n.2.2]))) 5 (Ex.deep (Ex.mk n.1 [] [] (0:Int) [n.2.1,n.2.2]))],AV.agg [AV.int .u8 1,AV.str n_5,AV.str [],AV.int .i64 0,AV.nils]] [AV.int .u8 x.1,AV.agg [AV.int .u8 x.2.1.kind,AV.str x.2.1.rat,AV.str x.2.1.name,AV.int .i64 x.2.1.date,AV.sl x.2.1.sub.length 5 (Ex.exG x.2.1.sub)],AV.agg [AV.int .u8 x.2.2.kind,AV.str x.2.2.rat,AV.str x.2.2.name,AV.int .i64 x.2.2.date,AV.sl x.2.2.sub.length 5 (Ex.exG x.2.2.sub)]]∧True) fun n=>.all (fun(x:Unit)=>True) fun n_7=>.ex (fun(x:Int×Ex×Ex)=>eqL [AV.int .u8 7,AV.agg [AV.int .u8 2,AV.str (Ex.rat (ze acme (9:Int))),AV.str (Ex.name (ze acme (9:Int))),AV.int .i64 9,AV.sl 0 5 (Ex.deep (ze acme (9:Int)))],AV.agg [AV.int .u8 (Ex.kind (Ex.mk n.1 [] [] (0:Int) [n.2.1,n.2.2])),AV.str (Ex.rat (Ex.mk n.1 [] [] (0:Int) [n.2.1,n.2.2])),AV.str (Ex.name (Ex.mk n.1 [] [] (0:Int) [n.2.1,n.2.2])),AV.int .i64 (Ex.date (Ex.mk n.1 [] [] (0:Int) [n.2.1,n.2.2])),AV.sl (List.length (Ex.sub (Ex.mk n.1 [] [] (0:Int) [n.2.1,n.2.2]))) 5 (Ex.deep (Ex.mk n.1 [] [] (0:Int) [n.2.1,n.2.2]))]] [AV.int .u8 x.1,AV.agg [AV.int .u8 x.2.1.kind,AV.str x.2.1.rat,AV.str x.2.1.name,AV.int .i64 x.2.1.date,AV.sl x.2.1.sub.length 5 (Ex.exG x.2.1.sub)],AV.agg [AV.int .u8 x.2.2.kind,AV.str x.2.2.rat,AV.str x.2.2.name,AV.int .i64 x.2.2.date,AV.sl x.2.2.sub.length 5 (Ex.exG x.2.2.sub)]]∧True) fun n=>.all (fun(x:Unit)=>True) fun n_8=>.leaf (.back 0 [(0,.bool false),(1,.bool true),(10,.ptr 1 0),(11,.int .i64 0),(13,.int .i64 8),(15,.int .i64 8),(16,.ptr 4 0),(17,.ptr 5 0),(18,.ptr 6 0),(19,.ptr 7 0),(20,.int .i64 0),(21,.ptr 8 0)] [.dead,.box [.str [(65:UInt8),(67:UInt8),(77:UInt8),(69:UInt8)],.str [(65:UInt8),(67:UInt8),(77:UInt8),(69:UInt8)],.int .i64 10,.str [(50:UInt8)],.str [(48:UInt8)]],.dead,.dead,.box [.str [(65:UInt8),(67:UInt8),(77:UInt8),(69:UInt8)],.str [(66:UInt8),(73:UInt8),(71:UInt8)],.int .i64 10,.str [(49:UInt8),(47:UInt8),(51:UInt8)],.str [(45:UInt8),(53:UInt8)]],.box [.int .u8 2,.str (Ex.rat (ze acme (9:Int))),.str (Ex.name (ze acme (9:Int))),.int .i64 9,.sl 0 5 (Ex.deep (ze acme (9:Int)))],.box [.int .u8 2,.str (Ex.rat (ze acme (10:Int))),.str (Ex.name (ze acme (10:Int))),.int .i64 10,.sl 0 5 (Ex.deep (ze acme (10:Int)))],.box [.int .u8 7,.str w3.rat,.str w3.name,.int .i64 0,.sl 2 5 w3.deep],.box [.int .u8 (Ex.kind (Ex.mk n.1 [] [] (0:Int) [n.2.1,n.2.2])),.str (Ex.rat (Ex.mk n.1 [] [] (0:Int) [n.2.1,n.2.2])),.str (Ex.name (Ex.mk n.1 [] [] (0:Int) [n.2.1,n.2.2])),.int .i64 (Ex.date (Ex.mk n.1 [] [] (0:Int) [n.2.1,n.2.2])),.sl (List.length (Ex.sub (Ex.mk n.1 [] [] (0:Int) [n.2.1,n.2.2]))) 5 (Ex.deep (Ex.mk n.1 [] [] (0:Int) [n.2.1,n.2.2]))]]))) (.ex (fun(x:Int×Ex×Ex)=>eqL [AV.int .u8 6,AV.agg [AV.int .u8 1,AV.str n,AV.str [],AV.int .i64 0,AV.nils],AV.agg [AV.int .u8 2,AV.str #[].toList,AV.str #[(66:UInt8),(73:UInt8),(71:UInt8)].toList,AV.int .i64 10,AV.nils]] [AV.int .u8 x.1,AV.agg [AV.int .u8 x.2.1.kind,AV.str x.2.1.rat,AV.str x.2.1.name,AV.int .i64 x.2.1.date,AV.sl x.2.1.sub.length 5 (Ex.exG x.2.1.sub)],AV.agg [AV.int .u8 x.2.2.kind,AV.str x.2.2.rat,AV.str x.2.2.name,AV.int .i64 x.2.2.date,AV.sl x.2.2.sub.length 5 (Ex.exG x.2.2.sub)]]∧True) fun n=>.all (fun(x:Unit)=>True) fun n_3=>.ex (fun(x:List UInt8)=>eqL [AV.str #[(45:UInt8),(53:UInt8)].toList] [AV.str x]∧True) fun n_4=>.all (fun(x:Unit)=>True) fun n_5=>.ex (fun(x:Int×Ex×Ex)=>eqL [AV.int .u8 4,AV.agg [AV.int .u8 (Ex.kind (Ex.mk n.1 [] [] (0:Int) [n.2.1,n.2.2])),AV.str (Ex.rat (Ex.mk n.1 [] [] (0:Int) [n.2.1,n.2.2])),AV.str (Ex.name (Ex.mk n.1 [] [] (0:Int) [n.2.1,n.2.2])),AV.int .i64 (Ex.date (Ex.mk n.1 [] [] (0:Int) [n.2.1,n.2.2])),AV.sl (List.length (Ex.sub (Ex.mk n.1 [] [] (0:Int) [n.2.1,n.2.2]))) 5 (Ex.deep (Ex.mk n.1 [] [] (0:Int) [n.2.1,n.2.2]))],AV.agg [AV.int .u8 1,AV.str n_4,AV.str [],AV.int .i64 0,AV.nils]] [AV.int .u8 x.1,AV.agg [AV.int .u8 x.2.1.kind,AV.str x.2.1.rat,AV.str x.2.1.name,AV.int .i64 x.2.1.date,AV.sl x.2.1.sub.length 5 (Ex.exG x.2.1.sub)],AV.agg [AV.int .u8 x.2.2.kind,AV.str x.2.2.rat,AV.str x.2.2.name,AV.int .i64 x.2.2.date,AV.sl x.2.2.sub.length 5 (Ex.exG x.2.2.sub)]]∧True) fun n=>.all (fun(x:Unit)=>True) fun n_6=>.ex (fun(x:Int×Ex×Ex)=>eqL [AV.int .u8 7,AV.agg [AV.int .u8 2,AV.str (Ex.rat (ze acme (9:Int))),AV.str (Ex.name (ze acme (9:Int))),AV.int .i64 9,AV.sl 0 5 (Ex.deep (ze acme (9:Int)))],AV.agg [AV.int .u8 (Ex.kind (Ex.mk n.1 [] [] (0:Int) [n.2.1,n.2.2])),AV.str (Ex.rat (Ex.mk n.1 [] [] (0:Int) [n.2.1,n.2.2])),AV.str (Ex.name (Ex.mk n.1 [] [] (0:Int) [n.2.1,n.2.2])),AV.int .i64 (Ex.date (Ex.mk n.1 [] [] (0:Int) [n.2.1,n.2.2])),AV.sl (List.length (Ex.sub (Ex.mk n.1 [] [] (0:Int) [n.2.1,n.2.2]))) 5 (Ex.deep (Ex.mk n.1 [] [] (0:Int) [n.2.1,n.2.2]))]] [AV.int .u8 x.1,AV.agg [AV.int .u8 x.2.1.kind,AV.str x.2.1.rat,AV.str x.2.1.name,AV.int .i64 x.2.1.date,AV.sl x.2.1.sub.length 5 (Ex.exG x.2.1.sub)],AV.agg [AV.int .u8 x.2.2.kind,AV.str x.2.2.rat,AV.str x.2.2.name,AV.int .i64 x.2.2.date,AV.sl x.2.2.sub.length 5 (Ex.exG x.2.2.sub)]]∧True) fun n=>.all (fun(x:Unit)=>True) fun n_7=>.leaf (.back 0 [(0,.bool false),(1,.bool true),(10,.ptr 1 0),(11,.int .i64 0),(13,.int .i64 8),(15,.int .i64 8),(16,.ptr 4 0),(17,.ptr 5 0),(18,.ptr 6 0),(19,.ptr 7 0),(20,.int .i64 0),(21,.ptr 8 0)] [.dead,.box [.str [(65:UInt8),(67:UInt8),(77:UInt8),(69:UInt8)],.str [(65:UInt8),(67:UInt8),(77:UInt8),(69:UInt8)],.int .i64 10,.str [(50:UInt8)],.str [(48:UInt8)]],.dead,.dead,.box [.str [(65:UInt8),(67:UInt8),(77:UInt8),(69:UInt8)],.str [(66:UInt8),(73:UInt8),(71:UInt8)],.int .i64 10,.str [(49:UInt8),(47:UInt8),(51:UInt8)],.str [(45:UInt8),(53:UInt8)]],.box [.int .u8 2,.str (Ex.rat (ze acme (9:Int))),.str (Ex.name (ze acme (9:Int))),.int .i64 9,.sl 0 5 (Ex.deep (ze acme (9:Int)))],.box [.int .u8 2,.str (Ex.rat (ze acme (10:Int))),.str (Ex.name (ze acme (10:Int))),.int .i64 10,.sl 0 5 (Ex.deep (ze acme (10:Int)))],.box [.int .u8 7,.str w3.rat,.str w3.name,.int .i64 0,.sl 2 5 w3.deep],.box [.int .u8 (Ex.kind (Ex.mk n.1 [] [] (0:Int) [n.2.1,n.2.2])),.str (Ex.rat (Ex.mk n.1 [] [] (0:Int) [n.2.1,n.2.2])),.str (Ex.name (Ex.mk n.1 [] [] (0:Int) [n.2.1,n.2.2])),.int .i64 (Ex.date (Ex.mk n.1 [] [] (0:Int) [n.2.1,n.2.2])),.sl (List.length (Ex.sub (Ex.mk n.1 [] [] (0:Int) [n.2.1,n.2.2]))) 5 (Ex.deep (Ex.mk n.1 [] [] (0:Int) [n.2.1,n.2.2]))]]))) (.ex (fun(x:List UInt8)=>eqL [AV.str #[(49:UInt8),(47:UInt8),(51:UInt8)].toList] [AV.str x]∧True) fun n=>.all (fun(x:Unit)=>True) fun n_1=>.ex (fun(x:Int×Ex×Ex)=>eqL [AV.int .u8 6,AV.agg [AV.int .u8 1,AV.str n,AV.str [],AV.int .i64 0,AV.nils],AV.agg [AV.int .u8 2,AV.str #[].toList,AV.str #[(66:UInt8),(73:UInt8),(71:UInt8)].toList,AV.int .i64 10,AV.nils]] [AV.int .u8 x.1,AV.agg [AV.int .u8 x.2.1.kind,AV.str x.2.1.rat,AV.str x.2.1.name,AV.int .i64 x.2.1.date,AV.sl x.2.1.sub.length 5 (Ex.exG x.2.1.sub)],AV.agg [AV.int .u8 x.2.2.kind,AV.str x.2.2.rat,AV.str x.2.2.name,AV.int .i64 x.2.2.date,AV.sl x.2.2.sub.length 5 (Ex.exG x.2.2.sub)]]∧True) fun n=>.all (fun(x:Unit)=>True) fun n_2=>.ex (fun(x:List UInt8)=>eqL [AV.str #[(45:UInt8),(53:UInt8)].toList] [AV.str x]∧True) fun n_3=>.all (fun(x:Unit)=>True) fun n_4=>.ex (fun(x:Int×Ex×Ex)=>eqL [AV.int .u8 4,AV.agg [AV.int .u8 (Ex.kind (Ex.mk n.1 [] [] (0:Int) [n.2.1,n.2.2])),AV.str (Ex.rat (Ex.mk n.1 [] [] (0:Int) [n.2.1,n.2.2])),AV.str (Ex.name (Ex.mk n.1 [] [] (0:Int) [n.2.1,n.2.2])),AV.int .i64 (Ex.date (Ex.mk n.1 [] [] (0:Int) [n.2.1,n.2.2])),AV.sl (List.length (Ex.sub (Ex.mk n.1 [] [] (0:Int) [n.2.1,n.2.2]))) 5 (Ex.deep (Ex.mk n.1 [] [] (0:Int) [n.2.1,n.2.2]))],AV.agg [AV.int .u8 1,AV.str n_3,AV.str [],AV.int .i64 0,AV.nils]] [AV.int .u8 x.1,AV.agg [AV.int .u8 x.2.1.kind,AV.str x.2.1.rat,AV.str x.2.1.name,AV.int .i64 x.2.1.date,AV.sl x.2.1.sub.length 5 (Ex.exG x.2.1.sub)],AV.agg [AV.int .u8 x.2.2.kind,AV.str x.2.2.rat,AV.str x.2.2.name,AV.int .i64 x.2.2.date,AV.sl x.2.2.sub.length 5 (Ex.exG x.2.2.sub)]]∧True) fun n=>.all (fun(x:Unit)=>True) fun n_5=>.ex (fun(x:Int×Ex×Ex)=>eqL [AV.int .u8 7,AV.agg [AV.int .u8 2,AV.str (Ex.rat (ze acme (9:Int))),AV.str (Ex.name (ze acme (9:Int))),AV.int .i64 9,AV.sl 0 5 (Ex.deep (ze acme (9:Int)))],AV.agg [AV.int .u8 (Ex.kind (Ex.mk n.1 [] [] (0:Int) [n.2.1,n.2.2])),AV.str (Ex.rat (Ex.mk n.1 [] [] (0:Int) [n.2.1,n.2.2])),AV.str (Ex.name (Ex.mk n.1 [] [] (0:Int) [n.2.1,n.2.2])),AV.int .i64 (Ex.date (Ex.mk n.1 [] [] (0:Int) [n.2.1,n.2.2])),AV.sl (List.length (Ex.sub (Ex.mk n.1 [] [] (0:Int) [n.2.1,n.2.2]))) 5 (Ex.deep (Ex.mk n.1 [] [] (0:Int) [n.2.1,n.2.2]))]] [AV.int .u8 x.1,AV.agg [AV.int .u8 x.2.1.kind,AV.str x.2.1.rat,AV.str x.2.1.name,AV.int .i64 x.2.1.date,AV.sl x.2.1.sub.length 5 (Ex.exG x.2.1.sub)],AV.agg [AV.int .u8 x.2.2.kind,AV.str x.2.2.rat,AV.str x.2.2.name,AV.int .i64 x.2.2.date,AV.sl x.2.2.sub.length 5 (Ex.exG x.2.2.sub)]]∧True) fun n=>.all (fun(x:Unit)=>True) fun n_6=>.leaf (.back 0 [(0,.bool false),(1,.bool true),(10,.ptr 1 0),(11,.int .i64 0),(13,.int .i64 8),(15,.int .i64 8),(16,.ptr 4 0),(17,.ptr 5 0),(18,.ptr 6 0),(19,.ptr 7 0),(20,.int .i64 0),(21,.ptr 8 0)] [.dead,.box [.str [(65:UInt8),(67:UInt8),(77:UInt8),(69:UInt8)],.str [(65:UInt8),(67:UInt8),(77:UInt8),(69:UInt8)],.int .i64 10,.str [(50:UInt8)],.str [(48:UInt8)]],.dead,.dead,.box [.str [(65:UInt8),(67:UInt8),(77:UInt8),(69:UInt8)],.str [(66:UInt8),(73:UInt8),(71:UInt8)],.int .i64 10,.str [(49:UInt8),(47:UInt8),(51:UInt8)],.str [(45:UInt8),(53:UInt8)]],.box [.int .u8 2,.str (Ex.rat (ze acme (9:Int))),.str (Ex.name (ze acme (9:Int))),.int .i64 9,.sl 0 5 (Ex.deep (ze acme (9:Int)))],.box [.int .u8 2,.str (Ex.rat (ze acme (10:Int))),.str (Ex.name (ze acme (10:Int))),.int .i64 10,.sl 0 5 (Ex.deep (ze acme (10:Int)))],.box [.int .u8 7,.str w3.rat,.str w3.name,.int .i64 0,.sl 2 5 w3.deep],.box [.int .u8 (Ex.kind (Ex.mk n.1 [] [] (0:Int) [n.2.1,n.2.2])),.str (Ex.rat (Ex.mk n.1 [] [] (0:Int) [n.2.1,n.2.2])),.str (Ex.name (Ex.mk n.1 [] [] (0:Int) [n.2.1,n.2.2])),.int .i64 (Ex.date (Ex.mk n.1 [] [] (0:Int) [n.2.1,n.2.2])),.sl (List.length (Ex.sub (Ex.mk n.1 [] [] (0:Int) [n.2.1,n.2.2]))) 5 (Ex.deep (Ex.mk n.1 [] [] (0:Int) [n.2.1,n.2.2]))]]))) (by kernel_rfl) ?_
  simp only [Tree.holds,zd,inR,lo,hi,Int.toNat_natCast]
  repeat' first
   | apply wT
   | apply kW
   | apply xv
   | apply yR (jY [49,47,51]) (ze bigN 10) vW vW
   | apply yR (exOf 6 (jY [49,47,51]) (ze bigN 10)) (jY [45,53]) (qb _) vW
   | apply yR (ze acme 9) (exOf 4 (exOf 6 (jY [49,47,51]) (ze bigN 10)) (jY [45,53])) (qb _) (qb _)
  all_goals rw [if_pos trivial]
  all_goals exact⟨(),by simp [SZ3,SZ6,SZ8,SZ9,SZ10],⟨trivial,za _,trivial,trivial,za _,za _,za _,za _,za _,trivial⟩,by kernel_rfl,Nat.zero_le _⟩
 show zE none Tryz.prog Tryz.f5 O 0 w0 [] _ _ LZ10 _
 refine zc.cutL (ι:=Unit) LZ10 1 0 (fun _=>SZ11) (fun _=>HZ11) (by kernel_rfl) (by kernel_rfl) ?_ fun _=> ?_
 ·refine zc.run hmix qG [0,1,10,11,13,15,16,17,18,19,20,21,22,23] 400 (T:=.ex (fun(x:Ca×List Fx×List Ch)=>eqL [AV.agg [AV.str [(65:UInt8),(67:UInt8),(77:UInt8),(69:UInt8)],AV.str [(66:UInt8),(73:UInt8),(71:UInt8)],AV.int .i64 10,AV.str [(49:UInt8),(47:UInt8),(51:UInt8)],AV.str [(45:UInt8),(53:UInt8)]],AV.agg [AV.sl 4 3 (zg (zh 3 [AV.str #[(65:UInt8),(67:UInt8),(77:UInt8),(69:UInt8)].toList,AV.int .i64 9,AV.str #[(55:UInt8)].toList,AV.str #[(65:UInt8),(67:UInt8),(77:UInt8),(69:UInt8)].toList,AV.int .i64 11,AV.str #[(56:UInt8)].toList,AV.str #[(66:UInt8),(73:UInt8),(71:UInt8)].toList,AV.int .i64 9,AV.str #[(51:UInt8),(48:UInt8)].toList,AV.str #[(66:UInt8),(73:UInt8),(71:UInt8)].toList,AV.int .i64 12,AV.str #[(51:UInt8),(51:UInt8)].toList]) 0),AV.sl 1 4 (zg (zh 4 [AV.str #[(112:UInt8)].toList,AV.str #[(99:UInt8)].toList,AV.int .i64 1,AV.bool false]) 0)]] [AV.agg [AV.str (Ca.name x.1),AV.str (Ca.into x.1),AV.int .i64 (Ca.date x.1),AV.str (Ca.ratio x.1),AV.str (Ca.extra x.1)],AV.agg [AV.sl x.2.1.length 3 (fxG x.2.1),AV.sl x.2.2.length 4 (chG x.2.2)]]∧qJ x.1∧envP x.2∧x.2.1.length≤1000000) fun n=>.all (fun(r:(List Fx×List Ch)×Int)=>r=Ca.before n.1 n.2.1 n.2.2) fun n=>.leaf (.back 0 [(0,.bool false),(1,.bool true),(10,.ptr 1 0),(11,.int .i64 0),(13,.int .i64 8),(15,.int .i64 8),(16,.ptr 4 0),(17,.ptr 5 0),(18,.ptr 6 0),(19,.ptr 7 0),(20,.int .i64 0),(21,.ptr 8 0),(22,.ptr 11 0),(23,.int .i64 n.2)] [.dead,.box [.str [(65:UInt8),(67:UInt8),(77:UInt8),(69:UInt8)],.str [(65:UInt8),(67:UInt8),(77:UInt8),(69:UInt8)],.int .i64 10,.str [(50:UInt8)],.str [(48:UInt8)]],.dead,.dead,.box [.str [(65:UInt8),(67:UInt8),(77:UInt8),(69:UInt8)],.str [(66:UInt8),(73:UInt8),(71:UInt8)],.int .i64 10,.str [(49:UInt8),(47:UInt8),(51:UInt8)],.str [(45:UInt8),(53:UInt8)]],.box [.int .u8 2,.str (Ex.rat (ze acme (9:Int))),.str (Ex.name (ze acme (9:Int))),.int .i64 9,.sl 0 5 (Ex.deep (ze acme (9:Int)))],.box [.int .u8 2,.str (Ex.rat (ze acme (10:Int))),.str (Ex.name (ze acme (10:Int))),.int .i64 10,.sl 0 5 (Ex.deep (ze acme (10:Int)))],.box [.int .u8 7,.str w3.rat,.str w3.name,.int .i64 0,.sl 2 5 w3.deep],.box [.int .u8 7,.str w3.rat,.str w3.name,.int .i64 0,.sl 2 5 w3.deep],.arr 4 3 (zh 3 [.str #[(65:UInt8),(67:UInt8),(77:UInt8),(69:UInt8)].toList,.int .i64 9,.str #[(55:UInt8)].toList,.str #[(65:UInt8),(67:UInt8),(77:UInt8),(69:UInt8)].toList,.int .i64 11,.str #[(56:UInt8)].toList,.str #[(66:UInt8),(73:UInt8),(71:UInt8)].toList,.int .i64 9,.str #[(51:UInt8),(48:UInt8)].toList,.str #[(66:UInt8),(73:UInt8),(71:UInt8)].toList,.int .i64 12,.str #[(51:UInt8),(51:UInt8)].toList]),.arr 1 4 (zh 4 [.str #[(112:UInt8)].toList,.str #[(99:UInt8)].toList,.int .i64 1,.bool false]),.box [.sl n.1.1.length 3 (fxG n.1.1),.sl n.1.2.length 4 (chG n.1.2)]])) (by kernel_rfl) ?_
  simp only [Tree.holds,zd,inR,lo,hi,Int.toNat_natCast]
  refine⟨(aMer,F1,C1),⟨⟨zda,⟨⟨rfl,rfl,f1_G⟩,⟨rfl,rfl,c1_G⟩,trivial⟩,trivial⟩,j6 htm,f1_E,by decide⟩,⟨_,rfl⟩,?_⟩
  rintro _ rfl
  rw [if_pos trivial]
  simp only [zlh]
  exact⟨(),by simp [SZ3,SZ6,SZ8,SZ9,SZ10,SZ11],⟨trivial,za _,trivial,trivial,za _,za _,za _,za _,za _,trivial,trivial,za _,trivial⟩,by kernel_rfl,Nat.zero_le _⟩
 show zE none Tryz.prog Tryz.f5 O 0 w0 [] _ _ LZ11 _
 refine zc.cutL (ι:=Unit) LZ11 1 0 (fun _=>SZ12) (fun _=>HZ12) (by kernel_rfl) (by kernel_rfl) ?_ fun _=> ?_
 ·refine zc.run hmix qG [0,1,10,11,13,15,16,17,18,19,20,21,22,23,24] 400 (T:=.leaf (.back 0 [(0,.bool false),(1,.bool true),(10,.ptr 1 0),(11,.int .i64 0),(13,.int .i64 8),(15,.int .i64 8),(16,.ptr 4 0),(17,.ptr 5 0),(18,.ptr 6 0),(19,.ptr 7 0),(20,.int .i64 0),(21,.ptr 8 0),(22,.ptr 11 0),(23,.int .i64 0),(24,.ptr 14 0)] [.dead,.box [.str [(65:UInt8),(67:UInt8),(77:UInt8),(69:UInt8)],.str [(65:UInt8),(67:UInt8),(77:UInt8),(69:UInt8)],.int .i64 10,.str [(50:UInt8)],.str [(48:UInt8)]],.dead,.dead,.box [.str [(65:UInt8),(67:UInt8),(77:UInt8),(69:UInt8)],.str [(66:UInt8),(73:UInt8),(71:UInt8)],.int .i64 10,.str [(49:UInt8),(47:UInt8),(51:UInt8)],.str [(45:UInt8),(53:UInt8)]],.box [.int .u8 2,.str (Ex.rat (ze acme (9:Int))),.str (Ex.name (ze acme (9:Int))),.int .i64 9,.sl 0 5 (Ex.deep (ze acme (9:Int)))],.box [.int .u8 2,.str (Ex.rat (ze acme (10:Int))),.str (Ex.name (ze acme (10:Int))),.int .i64 10,.sl 0 5 (Ex.deep (ze acme (10:Int)))],.box [.int .u8 7,.str w3.rat,.str w3.name,.int .i64 0,.sl 2 5 w3.deep],.box [.int .u8 7,.str w3.rat,.str w3.name,.int .i64 0,.sl 2 5 w3.deep],.dead,.dead,.box [.sl 4 3 (fxG F2),.sl 1 4 (chG C1)],.arr 4 3 (zh 3 [.str #[(65:UInt8),(67:UInt8),(77:UInt8),(69:UInt8)].toList,.int .i64 9,.str #[(55:UInt8)].toList,.str #[(65:UInt8),(67:UInt8),(77:UInt8),(69:UInt8)].toList,.int .i64 12,.str #[(54:UInt8)].toList,.str #[(66:UInt8),(73:UInt8),(71:UInt8)].toList,.int .i64 9,.str #[(51:UInt8),(48:UInt8)].toList,.str #[(66:UInt8),(73:UInt8),(71:UInt8)].toList,.int .i64 12,.str #[(51:UInt8),(51:UInt8)].toList]),.arr 1 4 (zh 4 [.str #[(112:UInt8)].toList,.str #[(99:UInt8)].toList,.int .i64 1,.bool false]),.box [.osl 12 3 0 4,.osl 13 4 0 1]])) (by kernel_rfl) ?_
  simp only [Tree.holds,zd,inR,lo,hi,Int.toNat_natCast]
  rw [if_pos trivial]
  exact⟨(),by simp [SZ3,SZ6,SZ8,SZ9,SZ10,SZ11,SZ12],⟨trivial,za _,trivial,trivial,za _,za _,za _,za _,za _,trivial,trivial,za _,⟨rfl,rfl,f2_G⟩,⟨rfl,rfl,ziw⟩,za _,trivial⟩,by kernel_rfl,Nat.zero_le _⟩
 show zE none Tryz.prog Tryz.f5 O 0 w0 [] _ _ LZ12 _
 refine zc.cutL (ι:=Unit) LZ12 1 0 (fun _=>SZ13) (fun _=>HZ13) (by kernel_rfl) (by kernel_rfl) ?_ fun _=> ?_
 ·refine zc.run hmix qG [0,1,10,11,13,15,16,17,18,19,20,21,22,23,24,25] 400 (T:=.ex (fun(x:Unit)=>eqL [] []∧True) fun n=>.all (fun(x:Unit)=>True) fun n=>.leaf (.back 0 [(0,.bool false),(1,.bool true),(10,.ptr 1 0),(11,.int .i64 0),(13,.int .i64 8),(15,.int .i64 8),(16,.ptr 4 0),(17,.ptr 5 0),(18,.ptr 6 0),(19,.ptr 7 0),(20,.int .i64 0),(21,.ptr 8 0),(22,.ptr 11 0),(23,.int .i64 0),(24,.ptr 14 0),(25,.ptr 15 0)] [.dead,.box [.str [(65:UInt8),(67:UInt8),(77:UInt8),(69:UInt8)],.str [(65:UInt8),(67:UInt8),(77:UInt8),(69:UInt8)],.int .i64 10,.str [(50:UInt8)],.str [(48:UInt8)]],.dead,.dead,.box [.str [(65:UInt8),(67:UInt8),(77:UInt8),(69:UInt8)],.str [(66:UInt8),(73:UInt8),(71:UInt8)],.int .i64 10,.str [(49:UInt8),(47:UInt8),(51:UInt8)],.str [(45:UInt8),(53:UInt8)]],.box [.int .u8 2,.str (Ex.rat (ze acme (9:Int))),.str (Ex.name (ze acme (9:Int))),.int .i64 9,.sl 0 5 (Ex.deep (ze acme (9:Int)))],.box [.int .u8 2,.str (Ex.rat (ze acme (10:Int))),.str (Ex.name (ze acme (10:Int))),.int .i64 10,.sl 0 5 (Ex.deep (ze acme (10:Int)))],.box [.int .u8 7,.str w3.rat,.str w3.name,.int .i64 0,.sl 2 5 w3.deep],.box [.int .u8 7,.str w3.rat,.str w3.name,.int .i64 0,.sl 2 5 w3.deep],.dead,.dead,.box [.sl 4 3 (fxG F2),.sl 1 4 (chG C1)],.arr 4 3 (fxG F2),.arr 1 4 (chG C1),.box [.osl 12 3 0 4,.osl 13 4 0 1],.box [.int .u8 3,.str [],.str [(65:UInt8),(67:UInt8),(77:UInt8),(69:UInt8)],.int .i64 0,.nils]])) (by kernel_rfl) ?_
  simp only [Tree.holds,zd,inR,lo,hi,Int.toNat_natCast]
  repeat' first
   | apply wT
   | apply kW
   | apply xv
  all_goals rw [if_pos trivial]
  all_goals exact⟨(),by simp [SZ3,SZ6,SZ8,SZ9,SZ10,SZ11,SZ12,SZ13],⟨trivial,za _,trivial,trivial,za _,za _,za _,za _,za _,trivial,trivial,za _,za _,za _,za _,zle,trivial⟩,by kernel_rfl,Nat.zero_le _⟩
 show zE none Tryz.prog Tryz.f5 O 0 w0 [] _ _ LZ13 _
 refine zc.cutL (ι:=Unit) LZ13 1 0 (fun _=>SZ14) (fun _=>HZ14) (by kernel_rfl) (by kernel_rfl) ?_ fun _=> ?_
 ·refine zc.run hmix qG [0,1,10,11,13,15,16,17,18,19,20,21,22,23,24,25,26] 400 (T:=.leaf (.loop (Prod.fst (lps (List.take 1 LZ13++Sx.Item.inLoop::List.drop 1 LZ13) 0)) (Prod.snd (lps (List.take 1 LZ13++Sx.Item.inLoop::List.drop 1 LZ13) 0)) [(0,.bool false),(1,.bool true),(10,.ptr 1 0),(11,.int .i64 0),(13,.int .i64 8),(15,.int .i64 8),(16,.ptr 4 0),(17,.ptr 5 0),(18,.ptr 6 0),(19,.ptr 7 0),(20,.int .i64 0),(21,.ptr 8 0),(22,.ptr 11 0),(23,.int .i64 0),(24,.ptr 14 0),(25,.ptr 15 0),(26,.int .i64 0)] [.dead,.box [.str [(65:UInt8),(67:UInt8),(77:UInt8),(69:UInt8)],.str [(65:UInt8),(67:UInt8),(77:UInt8),(69:UInt8)],.int .i64 10,.str [(50:UInt8)],.str [(48:UInt8)]],.dead,.dead,.box [.str [(65:UInt8),(67:UInt8),(77:UInt8),(69:UInt8)],.str [(66:UInt8),(73:UInt8),(71:UInt8)],.int .i64 10,.str [(49:UInt8),(47:UInt8),(51:UInt8)],.str [(45:UInt8),(53:UInt8)]],.box [.int .u8 2,.str (Ex.rat (ze acme (9:Int))),.str (Ex.name (ze acme (9:Int))),.int .i64 9,.sl 0 5 (Ex.deep (ze acme (9:Int)))],.box [.int .u8 2,.str (Ex.rat (ze acme (10:Int))),.str (Ex.name (ze acme (10:Int))),.int .i64 10,.sl 0 5 (Ex.deep (ze acme (10:Int)))],.box [.int .u8 7,.str w3.rat,.str w3.name,.int .i64 0,.sl 2 5 w3.deep],.box [.int .u8 7,.str w3.rat,.str w3.name,.int .i64 0,.sl 2 5 w3.deep],.dead,.dead,.box [.sl 4 3 (fxG F2),.sl 1 4 (chG C1)],.arr 4 3 (fxG F2),.arr 1 4 (chG C1),.box [.osl 12 3 0 4,.osl 13 4 0 1],.box [.int .u8 3,.str zp.rat,.str zp.name,.int .i64 0,.sl 0 5 zp.deep]])) (by kernel_rfl) ?_
  simp only [Tree.holds,zd,inR,lo,hi,Int.toNat_natCast]
  refine zc.loop (ι:={k:Nat // k≤59}) (fun k=>SZk k.1) (fun k=>HZk k.1) (fun k=>59 - k.1) ⟨0,Nat.zero_le _⟩ 1 ?_ ?_ (by kernel_rfl)
  ·exact⟨by simp [SZk],⟨trivial,za _,trivial,trivial,za _,za _,za _,za _,za _,trivial,trivial,za _,za _,za _,za _,za _,trivial⟩,by kernel_rfl,Nat.zero_le _⟩
  ·rintro⟨k,hk9⟩
   refine zc.run hmix qG [0,1,10,11,13,15,16,17,18,19,20,21,22,23,24,25,26] 400 (T:=.ite (decide ((↑k:Int)<59)) (.ex (fun(x:List UInt8)=>eqL [AV.str #[(48:UInt8)].toList] [AV.str x]∧True) fun n=>.all (fun(x:Unit)=>True) fun n_1=>.ex (fun(x:Int×Ex×Ex)=>eqL [AV.int .u8 4,AV.agg [AV.int .u8 1,AV.str n,AV.str [],AV.int .i64 0,AV.nils],AV.agg [AV.int .u8 (Ex.kind (sumX zp k)),AV.str (Ex.rat (sumX zp k)),AV.str (Ex.name (sumX zp k)),AV.int .i64 (Ex.date (sumX zp k)),AV.sl (List.length (Ex.sub (sumX zp k))) 5 (Ex.deep (sumX zp k))]] [AV.int .u8 x.1,AV.agg [AV.int .u8 x.2.1.kind,AV.str x.2.1.rat,AV.str x.2.1.name,AV.int .i64 x.2.1.date,AV.sl x.2.1.sub.length 5 (Ex.exG x.2.1.sub)],AV.agg [AV.int .u8 x.2.2.kind,AV.str x.2.2.rat,AV.str x.2.2.name,AV.int .i64 x.2.2.date,AV.sl x.2.2.sub.length 5 (Ex.exG x.2.2.sub)]]∧True) fun n=>.all (fun(x:Unit)=>True) fun n_2=>.side (inR .i64 ((↑k:Int)+(1:Int))) (.leaf (.back 1 [(0,.bool false),(1,.bool true),(10,.ptr 1 0),(11,.int .i64 0),(13,.int .i64 8),(15,.int .i64 8),(16,.ptr 4 0),(17,.ptr 5 0),(18,.ptr 6 0),(19,.ptr 7 0),(20,.int .i64 0),(21,.ptr 8 0),(22,.ptr 11 0),(23,.int .i64 0),(24,.ptr 14 0),(25,.ptr 15 0),(26,.int .i64 ((↑k:Int)+(1:Int)))] [.dead,.box [.str [(65:UInt8),(67:UInt8),(77:UInt8),(69:UInt8)],.str [(65:UInt8),(67:UInt8),(77:UInt8),(69:UInt8)],.int .i64 10,.str [(50:UInt8)],.str [(48:UInt8)]],.dead,.dead,.box [.str [(65:UInt8),(67:UInt8),(77:UInt8),(69:UInt8)],.str [(66:UInt8),(73:UInt8),(71:UInt8)],.int .i64 10,.str [(49:UInt8),(47:UInt8),(51:UInt8)],.str [(45:UInt8),(53:UInt8)]],.box [.int .u8 2,.str (Ex.rat (ze acme (9:Int))),.str (Ex.name (ze acme (9:Int))),.int .i64 9,.sl 0 5 (Ex.deep (ze acme (9:Int)))],.box [.int .u8 2,.str (Ex.rat (ze acme (10:Int))),.str (Ex.name (ze acme (10:Int))),.int .i64 10,.sl 0 5 (Ex.deep (ze acme (10:Int)))],.box [.int .u8 7,.str w3.rat,.str w3.name,.int .i64 0,.sl 2 5 w3.deep],.box [.int .u8 7,.str w3.rat,.str w3.name,.int .i64 0,.sl 2 5 w3.deep],.dead,.dead,.box [.sl 4 3 (fxG F2),.sl 1 4 (chG C1)],.arr 4 3 (fxG F2),.arr 1 4 (chG C1),.box [.osl 12 3 0 4,.osl 13 4 0 1],.box [.int .u8 (Ex.kind (Ex.mk n.1 [] [] (0:Int) [n.2.1,n.2.2])),.str (Ex.rat (Ex.mk n.1 [] [] (0:Int) [n.2.1,n.2.2])),.str (Ex.name (Ex.mk n.1 [] [] (0:Int) [n.2.1,n.2.2])),.int .i64 (Ex.date (Ex.mk n.1 [] [] (0:Int) [n.2.1,n.2.2])),.sl (List.length (Ex.sub (Ex.mk n.1 [] [] (0:Int) [n.2.1,n.2.2]))) 5 (Ex.deep (Ex.mk n.1 [] [] (0:Int) [n.2.1,n.2.2]))]]))) (.leaf (.back 0 [(0,.bool false),(1,.bool true),(10,.ptr 1 0),(11,.int .i64 0),(13,.int .i64 8),(15,.int .i64 8),(16,.ptr 4 0),(17,.ptr 5 0),(18,.ptr 6 0),(19,.ptr 7 0),(20,.int .i64 0),(21,.ptr 8 0),(22,.ptr 11 0),(23,.int .i64 0),(24,.ptr 14 0),(25,.ptr 15 0),(26,.int .i64 k)] [.dead,.box [.str [(65:UInt8),(67:UInt8),(77:UInt8),(69:UInt8)],.str [(65:UInt8),(67:UInt8),(77:UInt8),(69:UInt8)],.int .i64 10,.str [(50:UInt8)],.str [(48:UInt8)]],.dead,.dead,.box [.str [(65:UInt8),(67:UInt8),(77:UInt8),(69:UInt8)],.str [(66:UInt8),(73:UInt8),(71:UInt8)],.int .i64 10,.str [(49:UInt8),(47:UInt8),(51:UInt8)],.str [(45:UInt8),(53:UInt8)]],.box [.int .u8 2,.str (Ex.rat (ze acme (9:Int))),.str (Ex.name (ze acme (9:Int))),.int .i64 9,.sl 0 5 (Ex.deep (ze acme (9:Int)))],.box [.int .u8 2,.str (Ex.rat (ze acme (10:Int))),.str (Ex.name (ze acme (10:Int))),.int .i64 10,.sl 0 5 (Ex.deep (ze acme (10:Int)))],.box [.int .u8 7,.str w3.rat,.str w3.name,.int .i64 0,.sl 2 5 w3.deep],.box [.int .u8 7,.str w3.rat,.str w3.name,.int .i64 0,.sl 2 5 w3.deep],.dead,.dead,.box [.sl 4 3 (fxG F2),.sl 1 4 (chG C1)],.arr 4 3 (fxG F2),.arr 1 4 (chG C1),.box [.osl 12 3 0 4,.osl 13 4 0 1],.box [.int .u8 (Ex.kind (sumX zp k)),.str (Ex.rat (sumX zp k)),.str (Ex.name (sumX zp k)),.int .i64 (Ex.date (sumX zp k)),.sl (List.length (Ex.sub (sumX zp k))) 5 (Ex.deep (sumX zp k))]]))) (by kernel_rfl) ?_
   simp only [Tree.holds,zd,inR,lo,hi,Int.toNat_natCast]
   refine⟨fun hlt=> ?_,fun hge=> ?_⟩
   ·have hlt:k<59:=by have:=of_decide_eq_true hlt; omega
    repeat' first
     | apply wT
     | apply xv
     | apply yR (jY [48]) (sumX zp k) vW (qb _)
    all_goals refine⟨by omega,fun _=> ?_⟩
    all_goals rw [if_pos trivial]
    all_goals exact⟨⟨k+1,hlt⟩,by show 59 - (k+1)<59 - k; omega,by simp [SZk],⟨trivial,za _,trivial,trivial,za _,za _,za _,za _,za _,trivial,trivial,za _,za _,za _,za _,za _,trivial⟩,by kernel_rfl,Nat.zero_le _⟩
   ·have hge:k=59:=by have:=of_decide_eq_false hge; omega
    subst hge
    rw [if_neg (by decide),if_pos trivial]
    exact⟨(),by simp [SZk,SZ14],⟨trivial,za _,trivial,trivial,za _,za _,za _,za _,za _,trivial,trivial,za _,za _,za _,za _,za _,trivial⟩,by kernel_rfl,Nat.zero_le _⟩
 show zE none Tryz.prog Tryz.f5 O 0 w0 [] _ _ LZ14 _
 refine zc.cutL (ι:=Unit) LZ14 1 0 (fun _=>SZ15) (fun _=>HZ15) (by kernel_rfl) (by kernel_rfl) ?_ fun _=> ?_
 ·refine zc.run hmix qG [0,1,10,11,13,15,16,17,18,19,20,21,22,23,24,25,28] 400 (T:=.ex (fun(x:Ca×Ex)=>eqL [AV.agg [AV.str [(65:UInt8),(67:UInt8),(77:UInt8),(69:UInt8)],AV.str [(65:UInt8),(67:UInt8),(77:UInt8),(69:UInt8)],AV.int .i64 10,AV.str [(50:UInt8)],AV.str [(48:UInt8)]],AV.agg [AV.int .u8 4,AV.str (Ex.rat (sumX zp 59)),AV.str (Ex.name (sumX zp 59)),AV.int .i64 0,AV.sl 2 5 (Ex.deep (sumX zp 59))]] [AV.agg [AV.str (Ca.name x.1),AV.str (Ca.into x.1),AV.int .i64 (Ca.date x.1),AV.str (Ca.ratio x.1),AV.str (Ca.extra x.1)],AV.agg [AV.int .u8 x.2.kind,AV.str x.2.rat,AV.str x.2.name,AV.int .i64 x.2.date,AV.sl x.2.sub.length 5 (Ex.exG x.2.sub)]]∧qp x.1∧Ex.size x.2<1048576∧Ex.zu x.2<1073741824) fun n=>.all (fun(x:Unit)=>True) fun n_1=>.leaf (.back 0 [(0,.bool false),(1,.bool true),(10,.ptr 1 0),(11,.int .i64 0),(13,.int .i64 8),(15,.int .i64 8),(16,.ptr 4 0),(17,.ptr 5 0),(18,.ptr 6 0),(19,.ptr 7 0),(20,.int .i64 0),(21,.ptr 8 0),(22,.ptr 11 0),(23,.int .i64 0),(24,.ptr 14 0),(25,.ptr 15 0),(28,.int .i64 (Prod.snd (Ca.expr n.1 n.2)))] [.dead,.box [.str [(65:UInt8),(67:UInt8),(77:UInt8),(69:UInt8)],.str [(65:UInt8),(67:UInt8),(77:UInt8),(69:UInt8)],.int .i64 10,.str [(50:UInt8)],.str [(48:UInt8)]],.dead,.dead,.box [.str [(65:UInt8),(67:UInt8),(77:UInt8),(69:UInt8)],.str [(66:UInt8),(73:UInt8),(71:UInt8)],.int .i64 10,.str [(49:UInt8),(47:UInt8),(51:UInt8)],.str [(45:UInt8),(53:UInt8)]],.box [.int .u8 2,.str (Ex.rat (ze acme (9:Int))),.str (Ex.name (ze acme (9:Int))),.int .i64 9,.sl 0 5 (Ex.deep (ze acme (9:Int)))],.box [.int .u8 2,.str (Ex.rat (ze acme (10:Int))),.str (Ex.name (ze acme (10:Int))),.int .i64 10,.sl 0 5 (Ex.deep (ze acme (10:Int)))],.box [.int .u8 7,.str w3.rat,.str w3.name,.int .i64 0,.sl 2 5 w3.deep],.box [.int .u8 7,.str w3.rat,.str w3.name,.int .i64 0,.sl 2 5 w3.deep],.dead,.dead,.box [.sl 4 3 (fxG F2),.sl 1 4 (chG C1)],.arr 4 3 (fxG F2),.arr 1 4 (chG C1),.box [.osl 12 3 0 4,.osl 13 4 0 1],.box [.int .u8 4,.str (Ex.rat (sumX zp 59)),.str (Ex.name (sumX zp 59)),.int .i64 0,.sl 2 5 (Ex.deep (sumX zp 59))],.box [.int .u8 (Ex.kind (Prod.fst (Ca.expr n.1 n.2))),.str (Ex.rat (Prod.fst (Ca.expr n.1 n.2))),.str (Ex.name (Prod.fst (Ca.expr n.1 n.2))),.int .i64 (Ex.date (Prod.fst (Ca.expr n.1 n.2))),.sl (List.length (Ex.sub (Prod.fst (Ca.expr n.1 n.2)))) 5 (Ex.deep (Prod.fst (Ca.expr n.1 n.2)))]])) (by kernel_rfl) ?_
  simp only [Tree.holds,zd,inR,lo,hi,Int.toNat_natCast]
  repeat' first
   | apply wT
   | apply kW
   | apply xv
   | apply yl aSpl (sumX zp 59) Ki (qb _) ht (by decide) (by decide)
  all_goals
   simp only [al_j]
   rw [if_pos trivial]
  all_goals exact⟨(),by simp [SZ3,SZ6,SZ8,SZ9,SZ10,SZ11,SZ12,SZ13,SZ14,SZ15],⟨trivial,za _,trivial,trivial,za _,za _,za _,za _,za _,trivial,trivial,za _,za _,za _,za _,za _,trivial,trivial⟩,by kernel_rfl,Nat.zero_le _⟩
 show zE none Tryz.prog Tryz.f5 O 0 w0 [] _ _ LZ15 _
 refine zc.cutL (ι:=Unit) LZ15 1 0 (fun _=>SZ16) (fun _=>HZ16) (by kernel_rfl) (by kernel_rfl) ?_ fun _=> ?_
 ·refine zc.run hmix qG [0,1,10,11,13,15,16,17,18,19,20,21,22,23,24,25,28,30] 400 (T:=.all (fun(x:Bool)=>True) fun n=>.ite n (.ex (fun(x:List UInt8)=>eqL [AV.str #[(48:UInt8)].toList] [AV.str x]∧True) fun n=>.all (fun(x:Unit)=>True) fun n_1=>.all (fun(x:Bool)=>True) fun n_2=>.ite n_2 (.ex (fun(x:Int×Ex×Ex)=>eqL [AV.int .u8 4,AV.agg [AV.int .u8 1,AV.str n,AV.str [],AV.int .i64 0,AV.nils],AV.agg [AV.int .u8 4,AV.str (Ex.rat (sumX zp 59)),AV.str (Ex.name (sumX zp 59)),AV.int .i64 0,AV.sl 2 5 (Ex.deep (sumX zp 59))]] [AV.int .u8 x.1,AV.agg [AV.int .u8 x.2.1.kind,AV.str x.2.1.rat,AV.str x.2.1.name,AV.int .i64 x.2.1.date,AV.sl x.2.1.sub.length 5 (Ex.exG x.2.1.sub)],AV.agg [AV.int .u8 x.2.2.kind,AV.str x.2.2.rat,AV.str x.2.2.name,AV.int .i64 x.2.2.date,AV.sl x.2.2.sub.length 5 (Ex.exG x.2.2.sub)]]∧True) fun n=>.all (fun(x:Unit)=>True) fun n_3=>.all (fun(x:Bool)=>True) fun n_4=>.ite n_4 (.ex (fun(x:Ca×Ex)=>eqL [AV.agg [AV.str [(65:UInt8),(67:UInt8),(77:UInt8),(69:UInt8)],AV.str [(65:UInt8),(67:UInt8),(77:UInt8),(69:UInt8)],AV.int .i64 10,AV.str [(50:UInt8)],AV.str [(48:UInt8)]],AV.agg [AV.int .u8 (Ex.kind (Ex.mk n.1 [] [] (0:Int) [n.2.1,n.2.2])),AV.str (Ex.rat (Ex.mk n.1 [] [] (0:Int) [n.2.1,n.2.2])),AV.str (Ex.name (Ex.mk n.1 [] [] (0:Int) [n.2.1,n.2.2])),AV.int .i64 (Ex.date (Ex.mk n.1 [] [] (0:Int) [n.2.1,n.2.2])),AV.sl (List.length (Ex.sub (Ex.mk n.1 [] [] (0:Int) [n.2.1,n.2.2]))) 5 (Ex.deep (Ex.mk n.1 [] [] (0:Int) [n.2.1,n.2.2]))]] [AV.agg [AV.str (Ca.name x.1),AV.str (Ca.into x.1),AV.int .i64 (Ca.date x.1),AV.str (Ca.ratio x.1),AV.str (Ca.extra x.1)],AV.agg [AV.int .u8 x.2.kind,AV.str x.2.rat,AV.str x.2.name,AV.int .i64 x.2.date,AV.sl x.2.sub.length 5 (Ex.exG x.2.sub)]]∧qp x.1∧Ex.size x.2<1048576∧Ex.zu x.2<1073741824) fun n=>.all (fun(x:Unit)=>True) fun n_5=>.leaf (.back 0 [(0,.bool false),(1,.bool true),(10,.ptr 1 0),(11,.int .i64 0),(13,.int .i64 8),(15,.int .i64 8),(16,.ptr 4 0),(17,.ptr 5 0),(18,.ptr 6 0),(19,.ptr 7 0),(20,.int .i64 0),(21,.ptr 8 0),(22,.ptr 11 0),(23,.int .i64 0),(24,.ptr 14 0),(25,.ptr 15 0),(28,.int .i64 4),(30,.int .i64 (Prod.snd (Ca.expr n.1 n.2)))] [.dead,.box [.str [(65:UInt8),(67:UInt8),(77:UInt8),(69:UInt8)],.str [(65:UInt8),(67:UInt8),(77:UInt8),(69:UInt8)],.int .i64 10,.str [(50:UInt8)],.str [(48:UInt8)]],.dead,.dead,.box [.str [(65:UInt8),(67:UInt8),(77:UInt8),(69:UInt8)],.str [(66:UInt8),(73:UInt8),(71:UInt8)],.int .i64 10,.str [(49:UInt8),(47:UInt8),(51:UInt8)],.str [(45:UInt8),(53:UInt8)]],.box [.int .u8 2,.str (Ex.rat (ze acme (9:Int))),.str (Ex.name (ze acme (9:Int))),.int .i64 9,.sl 0 5 (Ex.deep (ze acme (9:Int)))],.box [.int .u8 2,.str (Ex.rat (ze acme (10:Int))),.str (Ex.name (ze acme (10:Int))),.int .i64 10,.sl 0 5 (Ex.deep (ze acme (10:Int)))],.box [.int .u8 7,.str w3.rat,.str w3.name,.int .i64 0,.sl 2 5 w3.deep],.box [.int .u8 7,.str w3.rat,.str w3.name,.int .i64 0,.sl 2 5 w3.deep],.dead,.dead,.box [.sl 4 3 (fxG F2),.sl 1 4 (chG C1)],.arr 4 3 (fxG F2),.arr 1 4 (chG C1),.box [.osl 12 3 0 4,.osl 13 4 0 1],.box [.int .u8 4,.str (Ex.rat (sumX zp 59)),.str (Ex.name (sumX zp 59)),.int .i64 0,.sl 2 5 (Ex.deep (sumX zp 59))],.dead,.box [.int .u8 (Ex.kind (Prod.fst (Ca.expr n.1 n.2))),.str (Ex.rat (Prod.fst (Ca.expr n.1 n.2))),.str (Ex.name (Prod.fst (Ca.expr n.1 n.2))),.int .i64 (Ex.date (Prod.fst (Ca.expr n.1 n.2))),.sl (List.length (Ex.sub (Prod.fst (Ca.expr n.1 n.2)))) 5 (Ex.deep (Prod.fst (Ca.expr n.1 n.2)))]])) (.ex (fun(x:Ca×Ex)=>eqL [AV.agg [AV.str [(65:UInt8),(67:UInt8),(77:UInt8),(69:UInt8)],AV.str [(65:UInt8),(67:UInt8),(77:UInt8),(69:UInt8)],AV.int .i64 10,AV.str [(50:UInt8)],AV.str [(48:UInt8)]],AV.agg [AV.int .u8 (Ex.kind (Ex.mk n.1 [] [] (0:Int) [n.2.1,n.2.2])),AV.str (Ex.rat (Ex.mk n.1 [] [] (0:Int) [n.2.1,n.2.2])),AV.str (Ex.name (Ex.mk n.1 [] [] (0:Int) [n.2.1,n.2.2])),AV.int .i64 (Ex.date (Ex.mk n.1 [] [] (0:Int) [n.2.1,n.2.2])),AV.sl (List.length (Ex.sub (Ex.mk n.1 [] [] (0:Int) [n.2.1,n.2.2]))) 5 (Ex.deep (Ex.mk n.1 [] [] (0:Int) [n.2.1,n.2.2]))]] [AV.agg [AV.str (Ca.name x.1),AV.str (Ca.into x.1),AV.int .i64 (Ca.date x.1),AV.str (Ca.ratio x.1),AV.str (Ca.extra x.1)],AV.agg [AV.int .u8 x.2.kind,AV.str x.2.rat,AV.str x.2.name,AV.int .i64 x.2.date,AV.sl x.2.sub.length 5 (Ex.exG x.2.sub)]]∧qp x.1∧Ex.size x.2<1048576∧Ex.zu x.2<1073741824) fun n=>.all (fun(x:Unit)=>True) fun n_5=>.leaf (.back 0 [(0,.bool false),(1,.bool true),(10,.ptr 1 0),(11,.int .i64 0),(13,.int .i64 8),(15,.int .i64 8),(16,.ptr 4 0),(17,.ptr 5 0),(18,.ptr 6 0),(19,.ptr 7 0),(20,.int .i64 0),(21,.ptr 8 0),(22,.ptr 11 0),(23,.int .i64 0),(24,.ptr 14 0),(25,.ptr 15 0),(28,.int .i64 4),(30,.int .i64 (Prod.snd (Ca.expr n.1 n.2)))] [.dead,.box [.str [(65:UInt8),(67:UInt8),(77:UInt8),(69:UInt8)],.str [(65:UInt8),(67:UInt8),(77:UInt8),(69:UInt8)],.int .i64 10,.str [(50:UInt8)],.str [(48:UInt8)]],.dead,.dead,.box [.str [(65:UInt8),(67:UInt8),(77:UInt8),(69:UInt8)],.str [(66:UInt8),(73:UInt8),(71:UInt8)],.int .i64 10,.str [(49:UInt8),(47:UInt8),(51:UInt8)],.str [(45:UInt8),(53:UInt8)]],.box [.int .u8 2,.str (Ex.rat (ze acme (9:Int))),.str (Ex.name (ze acme (9:Int))),.int .i64 9,.sl 0 5 (Ex.deep (ze acme (9:Int)))],.box [.int .u8 2,.str (Ex.rat (ze acme (10:Int))),.str (Ex.name (ze acme (10:Int))),.int .i64 10,.sl 0 5 (Ex.deep (ze acme (10:Int)))],.box [.int .u8 7,.str w3.rat,.str w3.name,.int .i64 0,.sl 2 5 w3.deep],.box [.int .u8 7,.str w3.rat,.str w3.name,.int .i64 0,.sl 2 5 w3.deep],.dead,.dead,.box [.sl 4 3 (fxG F2),.sl 1 4 (chG C1)],.arr 4 3 (fxG F2),.arr 1 4 (chG C1),.box [.osl 12 3 0 4,.osl 13 4 0 1],.box [.int .u8 4,.str (Ex.rat (sumX zp 59)),.str (Ex.name (sumX zp 59)),.int .i64 0,.sl 2 5 (Ex.deep (sumX zp 59))],.dead,.box [.int .u8 (Ex.kind (Prod.fst (Ca.expr n.1 n.2))),.str (Ex.rat (Prod.fst (Ca.expr n.1 n.2))),.str (Ex.name (Prod.fst (Ca.expr n.1 n.2))),.int .i64 (Ex.date (Prod.fst (Ca.expr n.1 n.2))),.sl (List.length (Ex.sub (Prod.fst (Ca.expr n.1 n.2)))) 5 (Ex.deep (Prod.fst (Ca.expr n.1 n.2)))]]))) (.ex (fun(x:Int×Ex×Ex)=>eqL [AV.int .u8 4,AV.agg [AV.int .u8 1,AV.str n,AV.str [],AV.int .i64 0,AV.nils],AV.agg [AV.int .u8 4,AV.str (Ex.rat (sumX zp 59)),AV.str (Ex.name (sumX zp 59)),AV.int .i64 0,AV.sl 2 5 (Ex.deep (sumX zp 59))]] [AV.int .u8 x.1,AV.agg [AV.int .u8 x.2.1.kind,AV.str x.2.1.rat,AV.str x.2.1.name,AV.int .i64 x.2.1.date,AV.sl x.2.1.sub.length 5 (Ex.exG x.2.1.sub)],AV.agg [AV.int .u8 x.2.2.kind,AV.str x.2.2.rat,AV.str x.2.2.name,AV.int .i64 x.2.2.date,AV.sl x.2.2.sub.length 5 (Ex.exG x.2.2.sub)]]∧True) fun n=>.all (fun(x:Unit)=>True) fun n_3=>.ex (fun(x:Ca×Ex)=>eqL [AV.agg [AV.str [(65:UInt8),(67:UInt8),(77:UInt8),(69:UInt8)],AV.str [(65:UInt8),(67:UInt8),(77:UInt8),(69:UInt8)],AV.int .i64 10,AV.str [(50:UInt8)],AV.str [(48:UInt8)]],AV.agg [AV.int .u8 (Ex.kind (Ex.mk n.1 [] [] (0:Int) [n.2.1,n.2.2])),AV.str (Ex.rat (Ex.mk n.1 [] [] (0:Int) [n.2.1,n.2.2])),AV.str (Ex.name (Ex.mk n.1 [] [] (0:Int) [n.2.1,n.2.2])),AV.int .i64 (Ex.date (Ex.mk n.1 [] [] (0:Int) [n.2.1,n.2.2])),AV.sl (List.length (Ex.sub (Ex.mk n.1 [] [] (0:Int) [n.2.1,n.2.2]))) 5 (Ex.deep (Ex.mk n.1 [] [] (0:Int) [n.2.1,n.2.2]))]] [AV.agg [AV.str (Ca.name x.1),AV.str (Ca.into x.1),AV.int .i64 (Ca.date x.1),AV.str (Ca.ratio x.1),AV.str (Ca.extra x.1)],AV.agg [AV.int .u8 x.2.kind,AV.str x.2.rat,AV.str x.2.name,AV.int .i64 x.2.date,AV.sl x.2.sub.length 5 (Ex.exG x.2.sub)]]∧qp x.1∧Ex.size x.2<1048576∧Ex.zu x.2<1073741824) fun n=>.all (fun(x:Unit)=>True) fun n_4=>.leaf (.back 0 [(0,.bool false),(1,.bool true),(10,.ptr 1 0),(11,.int .i64 0),(13,.int .i64 8),(15,.int .i64 8),(16,.ptr 4 0),(17,.ptr 5 0),(18,.ptr 6 0),(19,.ptr 7 0),(20,.int .i64 0),(21,.ptr 8 0),(22,.ptr 11 0),(23,.int .i64 0),(24,.ptr 14 0),(25,.ptr 15 0),(28,.int .i64 4),(30,.int .i64 (Prod.snd (Ca.expr n.1 n.2)))] [.dead,.box [.str [(65:UInt8),(67:UInt8),(77:UInt8),(69:UInt8)],.str [(65:UInt8),(67:UInt8),(77:UInt8),(69:UInt8)],.int .i64 10,.str [(50:UInt8)],.str [(48:UInt8)]],.dead,.dead,.box [.str [(65:UInt8),(67:UInt8),(77:UInt8),(69:UInt8)],.str [(66:UInt8),(73:UInt8),(71:UInt8)],.int .i64 10,.str [(49:UInt8),(47:UInt8),(51:UInt8)],.str [(45:UInt8),(53:UInt8)]],.box [.int .u8 2,.str (Ex.rat (ze acme (9:Int))),.str (Ex.name (ze acme (9:Int))),.int .i64 9,.sl 0 5 (Ex.deep (ze acme (9:Int)))],.box [.int .u8 2,.str (Ex.rat (ze acme (10:Int))),.str (Ex.name (ze acme (10:Int))),.int .i64 10,.sl 0 5 (Ex.deep (ze acme (10:Int)))],.box [.int .u8 7,.str w3.rat,.str w3.name,.int .i64 0,.sl 2 5 w3.deep],.box [.int .u8 7,.str w3.rat,.str w3.name,.int .i64 0,.sl 2 5 w3.deep],.dead,.dead,.box [.sl 4 3 (fxG F2),.sl 1 4 (chG C1)],.arr 4 3 (fxG F2),.arr 1 4 (chG C1),.box [.osl 12 3 0 4,.osl 13 4 0 1],.box [.int .u8 4,.str (Ex.rat (sumX zp 59)),.str (Ex.name (sumX zp 59)),.int .i64 0,.sl 2 5 (Ex.deep (sumX zp 59))],.dead,.box [.int .u8 (Ex.kind (Prod.fst (Ca.expr n.1 n.2))),.str (Ex.rat (Prod.fst (Ca.expr n.1 n.2))),.str (Ex.name (Prod.fst (Ca.expr n.1 n.2))),.int .i64 (Ex.date (Prod.fst (Ca.expr n.1 n.2))),.sl (List.length (Ex.sub (Prod.fst (Ca.expr n.1 n.2)))) 5 (Ex.deep (Prod.fst (Ca.expr n.1 n.2)))]]))) (.ex (fun(x:List UInt8)=>eqL [AV.str #[(48:UInt8)].toList] [AV.str x]∧True) fun n=>.all (fun(x:Unit)=>True) fun n_1=>.ex (fun(x:Int×Ex×Ex)=>eqL [AV.int .u8 4,AV.agg [AV.int .u8 1,AV.str n,AV.str [],AV.int .i64 0,AV.nils],AV.agg [AV.int .u8 4,AV.str (Ex.rat (sumX zp 59)),AV.str (Ex.name (sumX zp 59)),AV.int .i64 0,AV.sl 2 5 (Ex.deep (sumX zp 59))]] [AV.int .u8 x.1,AV.agg [AV.int .u8 x.2.1.kind,AV.str x.2.1.rat,AV.str x.2.1.name,AV.int .i64 x.2.1.date,AV.sl x.2.1.sub.length 5 (Ex.exG x.2.1.sub)],AV.agg [AV.int .u8 x.2.2.kind,AV.str x.2.2.rat,AV.str x.2.2.name,AV.int .i64 x.2.2.date,AV.sl x.2.2.sub.length 5 (Ex.exG x.2.2.sub)]]∧True) fun n=>.all (fun(x:Unit)=>True) fun n_2=>.ex (fun(x:Ca×Ex)=>eqL [AV.agg [AV.str [(65:UInt8),(67:UInt8),(77:UInt8),(69:UInt8)],AV.str [(65:UInt8),(67:UInt8),(77:UInt8),(69:UInt8)],AV.int .i64 10,AV.str [(50:UInt8)],AV.str [(48:UInt8)]],AV.agg [AV.int .u8 (Ex.kind (Ex.mk n.1 [] [] (0:Int) [n.2.1,n.2.2])),AV.str (Ex.rat (Ex.mk n.1 [] [] (0:Int) [n.2.1,n.2.2])),AV.str (Ex.name (Ex.mk n.1 [] [] (0:Int) [n.2.1,n.2.2])),AV.int .i64 (Ex.date (Ex.mk n.1 [] [] (0:Int) [n.2.1,n.2.2])),AV.sl (List.length (Ex.sub (Ex.mk n.1 [] [] (0:Int) [n.2.1,n.2.2]))) 5 (Ex.deep (Ex.mk n.1 [] [] (0:Int) [n.2.1,n.2.2]))]] [AV.agg [AV.str (Ca.name x.1),AV.str (Ca.into x.1),AV.int .i64 (Ca.date x.1),AV.str (Ca.ratio x.1),AV.str (Ca.extra x.1)],AV.agg [AV.int .u8 x.2.kind,AV.str x.2.rat,AV.str x.2.name,AV.int .i64 x.2.date,AV.sl x.2.sub.length 5 (Ex.exG x.2.sub)]]∧qp x.1∧Ex.size x.2<1048576∧Ex.zu x.2<1073741824) fun n=>.all (fun(x:Unit)=>True) fun n_3=>.leaf (.back 0 [(0,.bool false),(1,.bool true),(10,.ptr 1 0),(11,.int .i64 0),(13,.int .i64 8),(15,.int .i64 8),(16,.ptr 4 0),(17,.ptr 5 0),(18,.ptr 6 0),(19,.ptr 7 0),(20,.int .i64 0),(21,.ptr 8 0),(22,.ptr 11 0),(23,.int .i64 0),(24,.ptr 14 0),(25,.ptr 15 0),(28,.int .i64 4),(30,.int .i64 (Prod.snd (Ca.expr n.1 n.2)))] [.dead,.box [.str [(65:UInt8),(67:UInt8),(77:UInt8),(69:UInt8)],.str [(65:UInt8),(67:UInt8),(77:UInt8),(69:UInt8)],.int .i64 10,.str [(50:UInt8)],.str [(48:UInt8)]],.dead,.dead,.box [.str [(65:UInt8),(67:UInt8),(77:UInt8),(69:UInt8)],.str [(66:UInt8),(73:UInt8),(71:UInt8)],.int .i64 10,.str [(49:UInt8),(47:UInt8),(51:UInt8)],.str [(45:UInt8),(53:UInt8)]],.box [.int .u8 2,.str (Ex.rat (ze acme (9:Int))),.str (Ex.name (ze acme (9:Int))),.int .i64 9,.sl 0 5 (Ex.deep (ze acme (9:Int)))],.box [.int .u8 2,.str (Ex.rat (ze acme (10:Int))),.str (Ex.name (ze acme (10:Int))),.int .i64 10,.sl 0 5 (Ex.deep (ze acme (10:Int)))],.box [.int .u8 7,.str w3.rat,.str w3.name,.int .i64 0,.sl 2 5 w3.deep],.box [.int .u8 7,.str w3.rat,.str w3.name,.int .i64 0,.sl 2 5 w3.deep],.dead,.dead,.box [.sl 4 3 (fxG F2),.sl 1 4 (chG C1)],.arr 4 3 (fxG F2),.arr 1 4 (chG C1),.box [.osl 12 3 0 4,.osl 13 4 0 1],.box [.int .u8 4,.str (Ex.rat (sumX zp 59)),.str (Ex.name (sumX zp 59)),.int .i64 0,.sl 2 5 (Ex.deep (sumX zp 59))],.dead,.box [.int .u8 (Ex.kind (Prod.fst (Ca.expr n.1 n.2))),.str (Ex.rat (Prod.fst (Ca.expr n.1 n.2))),.str (Ex.name (Prod.fst (Ca.expr n.1 n.2))),.int .i64 (Ex.date (Prod.fst (Ca.expr n.1 n.2))),.sl (List.length (Ex.sub (Prod.fst (Ca.expr n.1 n.2)))) 5 (Ex.deep (Prod.fst (Ca.expr n.1 n.2)))]]))) (by kernel_rfl) ?_
  simp only [Tree.holds,zd,inR,lo,hi,Int.toNat_natCast]
  repeat' first
   | apply wT
   | apply kW
   | apply xv
   | apply yR (jY [48]) (sumX zp 59) vW (qb _)
   | apply yl aSpl (sumX zp 60) Ki (qb _) ht (by decide) (by decide)
  all_goals
   simp only [al_k]
   rw [if_pos trivial]
  all_goals exact⟨(),by simp [SZ3,SZ6,SZ8,SZ9,SZ10,SZ11,SZ12,SZ13,SZ14,SZ15,SZ16],⟨trivial,za _,trivial,trivial,za _,za _,za _,za _,za _,trivial,trivial,za _,za _,za _,za _,za _,trivial,trivial,trivial⟩,by kernel_rfl,Nat.zero_le _⟩
 show zE none Tryz.prog Tryz.f5 O 0 w0 [] _ _ LZ16 _
 refine zc.cutL (ι:=Unit) LZ16 1 0 (fun _=>SZ17) (fun _=>HZ17) (by kernel_rfl) (by kernel_rfl) ?_ fun _=> ?_
 ·refine zc.run hmix qG [0,1,10,11,13,15,16,17,18,19,20,21,22,23,24,25,28,30,31] 400 (T:=.leaf (.back 0 [(0,.bool false),(1,.bool true),(10,.ptr 1 0),(11,.int .i64 0),(13,.int .i64 8),(15,.int .i64 8),(16,.ptr 4 0),(17,.ptr 5 0),(18,.ptr 6 0),(19,.ptr 7 0),(20,.int .i64 0),(21,.ptr 8 0),(22,.ptr 11 0),(23,.int .i64 0),(24,.ptr 14 0),(25,.ptr 15 0),(28,.int .i64 4),(30,.int .i64 4),(31,.ptr 18 0)] [.dead,.box [.str [(65:UInt8),(67:UInt8),(77:UInt8),(69:UInt8)],.str [(65:UInt8),(67:UInt8),(77:UInt8),(69:UInt8)],.int .i64 10,.str [(50:UInt8)],.str [(48:UInt8)]],.dead,.dead,.box [.str [(65:UInt8),(67:UInt8),(77:UInt8),(69:UInt8)],.str [(66:UInt8),(73:UInt8),(71:UInt8)],.int .i64 10,.str [(49:UInt8),(47:UInt8),(51:UInt8)],.str [(45:UInt8),(53:UInt8)]],.box [.int .u8 2,.str (Ex.rat (ze acme (9:Int))),.str (Ex.name (ze acme (9:Int))),.int .i64 9,.sl 0 5 (Ex.deep (ze acme (9:Int)))],.box [.int .u8 2,.str (Ex.rat (ze acme (10:Int))),.str (Ex.name (ze acme (10:Int))),.int .i64 10,.sl 0 5 (Ex.deep (ze acme (10:Int)))],.box [.int .u8 7,.str w3.rat,.str w3.name,.int .i64 0,.sl 2 5 w3.deep],.box [.int .u8 7,.str w3.rat,.str w3.name,.int .i64 0,.sl 2 5 w3.deep],.dead,.dead,.box [.sl 4 3 (fxG F2),.sl 1 4 (chG C1)],.arr 4 3 (fxG F2),.arr 1 4 (chG C1),.box [.osl 12 3 0 4,.osl 13 4 0 1],.box [.int .u8 4,.str (Ex.rat (sumX zp 59)),.str (Ex.name (sumX zp 59)),.int .i64 0,.sl 2 5 (Ex.deep (sumX zp 59))],.dead,.dead,.box [.nils,.nils]])) (by kernel_rfl) ?_
  simp only [Tree.holds,zd,inR,lo,hi,Int.toNat_natCast]
  rw [if_pos trivial]
  exact⟨(),by simp [SZ3,SZ6,SZ8,SZ9,SZ10,SZ11,SZ12,SZ13,SZ14,SZ15,SZ16,SZ17],⟨trivial,za _,trivial,trivial,za _,za _,za _,za _,za _,trivial,trivial,za _,za _,za _,za _,za _,trivial,trivial,za _,trivial⟩,by kernel_rfl,Nat.zero_le _⟩
 show zE none Tryz.prog Tryz.f5 O 0 w0 [] _ _ LZ17 _
 refine zc.cutL (ι:=Unit) LZ17 1 0 (fun _=>SZ18) (fun _=>HZ18) (by kernel_rfl) (by kernel_rfl) ?_ fun _=> ?_
 ·refine zc.run hmix qG [0,1,10,11,13,15,16,17,18,19,20,21,22,23,24,25,28,30,31,32] 400 (T:=.leaf (.loop (Prod.fst (lps (List.take 1 LZ17++Sx.Item.inLoop::List.drop 1 LZ17) 0)) (Prod.snd (lps (List.take 1 LZ17++Sx.Item.inLoop::List.drop 1 LZ17) 0)) [(0,.bool false),(1,.bool true),(10,.ptr 1 0),(11,.int .i64 0),(13,.int .i64 8),(15,.int .i64 8),(16,.ptr 4 0),(17,.ptr 5 0),(18,.ptr 6 0),(19,.ptr 7 0),(20,.int .i64 0),(21,.ptr 8 0),(22,.ptr 11 0),(23,.int .i64 0),(24,.ptr 14 0),(25,.ptr 15 0),(28,.int .i64 4),(30,.int .i64 4),(31,.ptr 18 0),(32,.int .i64 0)] [.dead,.box [.str [(65:UInt8),(67:UInt8),(77:UInt8),(69:UInt8)],.str [(65:UInt8),(67:UInt8),(77:UInt8),(69:UInt8)],.int .i64 10,.str [(50:UInt8)],.str [(48:UInt8)]],.dead,.dead,.box [.str [(65:UInt8),(67:UInt8),(77:UInt8),(69:UInt8)],.str [(66:UInt8),(73:UInt8),(71:UInt8)],.int .i64 10,.str [(49:UInt8),(47:UInt8),(51:UInt8)],.str [(45:UInt8),(53:UInt8)]],.box [.int .u8 2,.str (Ex.rat (ze acme (9:Int))),.str (Ex.name (ze acme (9:Int))),.int .i64 9,.sl 0 5 (Ex.deep (ze acme (9:Int)))],.box [.int .u8 2,.str (Ex.rat (ze acme (10:Int))),.str (Ex.name (ze acme (10:Int))),.int .i64 10,.sl 0 5 (Ex.deep (ze acme (10:Int)))],.box [.int .u8 7,.str w3.rat,.str w3.name,.int .i64 0,.sl 2 5 w3.deep],.box [.int .u8 7,.str w3.rat,.str w3.name,.int .i64 0,.sl 2 5 w3.deep],.dead,.dead,.box [.sl 4 3 (fxG F2),.sl 1 4 (chG C1)],.arr 4 3 (fxG F2),.arr 1 4 (chG C1),.box [.osl 12 3 0 4,.osl 13 4 0 1],.box [.int .u8 4,.str (Ex.rat (sumX zp 59)),.str (Ex.name (sumX zp 59)),.int .i64 0,.sl 2 5 (Ex.deep (sumX zp 59))],.dead,.dead,.box [.nils,.nils]])) (by kernel_rfl) ?_
  simp only [Tree.holds,zd,inR,lo,hi,Int.toNat_natCast]
  refine zc.zj7 18 0 3 (fxG M1) rfl rfl (by kernel_rfl) ?_
  refine zc.loop (ι:={k:Nat // k≤1000}) (fun k=>SZd k.1) (fun k=>HZd k.1) (fun k=>1000 - k.1) ⟨0,Nat.zero_le _⟩ 1 ?_ ?_ (by kernel_rfl)
  ·exact⟨by simp [SZd],⟨trivial,za _,trivial,trivial,za _,za _,za _,za _,za _,trivial,trivial,za _,za _,za _,za _,za _,trivial,trivial,za _,za _,trivial⟩,by kernel_rfl,Nat.zero_le _⟩
  ·rintro⟨k,hk9⟩
   refine zc.run hmix qG [0,1,10,11,13,15,16,17,18,19,20,21,22,23,24,25,28,30,31,32] 400 (T:=.ite (decide ((↑k:Int)<1000)) (.side (0=0∧k≤k∧(k+1)*40≤140737488355328) (.side (inR .i64 ((↑k:Int)+(1:Int))) (.leaf (.back 1 [(0,.bool false),(1,.bool true),(10,.ptr 1 0),(11,.int .i64 0),(13,.int .i64 8),(15,.int .i64 8),(16,.ptr 4 0),(17,.ptr 5 0),(18,.ptr 6 0),(19,.ptr 7 0),(20,.int .i64 0),(21,.ptr 8 0),(22,.ptr 11 0),(23,.int .i64 0),(24,.ptr 14 0),(25,.ptr 15 0),(28,.int .i64 4),(30,.int .i64 4),(31,.ptr 18 0),(32,.int .i64 ((↑k:Int)+(1:Int)))] [.dead,.box [.str [(65:UInt8),(67:UInt8),(77:UInt8),(69:UInt8)],.str [(65:UInt8),(67:UInt8),(77:UInt8),(69:UInt8)],.int .i64 10,.str [(50:UInt8)],.str [(48:UInt8)]],.dead,.dead,.box [.str [(65:UInt8),(67:UInt8),(77:UInt8),(69:UInt8)],.str [(66:UInt8),(73:UInt8),(71:UInt8)],.int .i64 10,.str [(49:UInt8),(47:UInt8),(51:UInt8)],.str [(45:UInt8),(53:UInt8)]],.box [.int .u8 2,.str (Ex.rat (ze acme (9:Int))),.str (Ex.name (ze acme (9:Int))),.int .i64 9,.sl 0 5 (Ex.deep (ze acme (9:Int)))],.box [.int .u8 2,.str (Ex.rat (ze acme (10:Int))),.str (Ex.name (ze acme (10:Int))),.int .i64 10,.sl 0 5 (Ex.deep (ze acme (10:Int)))],.box [.int .u8 7,.str w3.rat,.str w3.name,.int .i64 0,.sl 2 5 w3.deep],.box [.int .u8 7,.str w3.rat,.str w3.name,.int .i64 0,.sl 2 5 w3.deep],.dead,.dead,.box [.sl 4 3 (fxG F2),.sl 1 4 (chG C1)],.arr 4 3 (fxG F2),.arr 1 4 (chG C1),.box [.osl 12 3 0 4,.osl 13 4 0 1],.box [.int .u8 4,.str (Ex.rat (sumX zp 59)),.str (Ex.name (sumX zp 59)),.int .i64 0,.sl 2 5 (Ex.deep (sumX zp 59))],.dead,.dead,.box [.osl 19 3 0 (k+1),.nils],.arr (k+1) 3 (appG k (fxG M1) (zg (zh 3 [.str #[(66:UInt8),(73:UInt8),(71:UInt8)].toList,.int .i64 k,.str #[(51:UInt8)].toList]) 0)),.arr 1 3 (zh 3 [.str #[(66:UInt8),(73:UInt8),(71:UInt8)].toList,.int .i64 k,.str #[(51:UInt8)].toList])])))) (.leaf (.back 0 [(0,.bool false),(1,.bool true),(10,.ptr 1 0),(11,.int .i64 0),(13,.int .i64 8),(15,.int .i64 8),(16,.ptr 4 0),(17,.ptr 5 0),(18,.ptr 6 0),(19,.ptr 7 0),(20,.int .i64 0),(21,.ptr 8 0),(22,.ptr 11 0),(23,.int .i64 0),(24,.ptr 14 0),(25,.ptr 15 0),(28,.int .i64 4),(30,.int .i64 4),(31,.ptr 18 0),(32,.int .i64 k)] [.dead,.box [.str [(65:UInt8),(67:UInt8),(77:UInt8),(69:UInt8)],.str [(65:UInt8),(67:UInt8),(77:UInt8),(69:UInt8)],.int .i64 10,.str [(50:UInt8)],.str [(48:UInt8)]],.dead,.dead,.box [.str [(65:UInt8),(67:UInt8),(77:UInt8),(69:UInt8)],.str [(66:UInt8),(73:UInt8),(71:UInt8)],.int .i64 10,.str [(49:UInt8),(47:UInt8),(51:UInt8)],.str [(45:UInt8),(53:UInt8)]],.box [.int .u8 2,.str (Ex.rat (ze acme (9:Int))),.str (Ex.name (ze acme (9:Int))),.int .i64 9,.sl 0 5 (Ex.deep (ze acme (9:Int)))],.box [.int .u8 2,.str (Ex.rat (ze acme (10:Int))),.str (Ex.name (ze acme (10:Int))),.int .i64 10,.sl 0 5 (Ex.deep (ze acme (10:Int)))],.box [.int .u8 7,.str w3.rat,.str w3.name,.int .i64 0,.sl 2 5 w3.deep],.box [.int .u8 7,.str w3.rat,.str w3.name,.int .i64 0,.sl 2 5 w3.deep],.dead,.dead,.box [.sl 4 3 (fxG F2),.sl 1 4 (chG C1)],.arr 4 3 (fxG F2),.arr 1 4 (chG C1),.box [.osl 12 3 0 4,.osl 13 4 0 1],.box [.int .u8 4,.str (Ex.rat (sumX zp 59)),.str (Ex.name (sumX zp 59)),.int .i64 0,.sl 2 5 (Ex.deep (sumX zp 59))],.dead,.dead,.box [.osl 19 3 0 k,.nils],.arr k 3 (fxG M1)]))) (by kernel_rfl) ?_
   simp only [Tree.holds,zd,inR,lo,hi,Int.toNat_natCast]
   refine⟨fun hlt=> ?_,fun hge=> ?_⟩
   ·have hlt:k<1000:=by have:=of_decide_eq_true hlt; omega
    refine⟨⟨trivial,Nat.le_refl _,by omega⟩,fun _=>⟨by omega,fun _=> ?_⟩⟩
    rw [if_pos trivial]
    exact⟨⟨k+1,hlt⟩,by show 1000 - (k+1)<1000 - k; omega,by simp [SZd],⟨trivial,za _,trivial,trivial,za _,za _,za _,za _,za _,trivial,trivial,za _,za _,za _,za _,za _,trivial,trivial,za _,⟨rfl,rfl,zg6 hlt⟩,trivial⟩,by kernel_rfl,Nat.zero_le _⟩
   ·have hge:k=1000:=by have:=of_decide_eq_false hge; omega
    subst hge
    rw [if_neg (by decide),if_pos trivial]
    exact⟨(),by simp [SZd,SZ18],⟨trivial,za _,trivial,trivial,za _,za _,za _,za _,za _,trivial,trivial,za _,za _,za _,za _,za _,trivial,trivial,za _,za _,trivial⟩,by kernel_rfl,Nat.zero_le _⟩
 show zE none Tryz.prog Tryz.f5 O 0 w0 [] _ _ LZ18 _
 refine zc.cutL (ι:=Unit) LZ18 1 0 (fun _=>SZ19) (fun _=>HZ19) (by kernel_rfl) (by kernel_rfl) ?_ fun _=> ?_
 ·refine zc.run hmix qG [0,1,10,11,13,15,16,17,18,19,20,21,22,23,24,25,28,30,31,34] 400 (T:=.ex (fun(x:Ca×List Fx×List Ch)=>eqL [AV.agg [AV.str [(65:UInt8),(67:UInt8),(77:UInt8),(69:UInt8)],AV.str [(66:UInt8),(73:UInt8),(71:UInt8)],AV.int .i64 10,AV.str [(49:UInt8),(47:UInt8),(51:UInt8)],AV.str [(45:UInt8),(53:UInt8)]],AV.agg [AV.sl 1000 3 (zg (fxG M1) 0),AV.nils]] [AV.agg [AV.str (Ca.name x.1),AV.str (Ca.into x.1),AV.int .i64 (Ca.date x.1),AV.str (Ca.ratio x.1),AV.str (Ca.extra x.1)],AV.agg [AV.sl x.2.1.length 3 (fxG x.2.1),AV.sl x.2.2.length 4 (chG x.2.2)]]∧qJ x.1∧envP x.2∧x.2.1.length≤1000000) fun n=>.all (fun(r:(List Fx×List Ch)×Int)=>r=Ca.before n.1 n.2.1 n.2.2) fun n=>.leaf (.back 0 [(0,.bool false),(1,.bool true),(10,.ptr 1 0),(11,.int .i64 0),(13,.int .i64 8),(15,.int .i64 8),(16,.ptr 4 0),(17,.ptr 5 0),(18,.ptr 6 0),(19,.ptr 7 0),(20,.int .i64 0),(21,.ptr 8 0),(22,.ptr 11 0),(23,.int .i64 0),(24,.ptr 14 0),(25,.ptr 15 0),(28,.int .i64 4),(30,.int .i64 4),(31,.ptr 18 0),(34,.int .i64 n.2)] [.dead,.box [.str [(65:UInt8),(67:UInt8),(77:UInt8),(69:UInt8)],.str [(65:UInt8),(67:UInt8),(77:UInt8),(69:UInt8)],.int .i64 10,.str [(50:UInt8)],.str [(48:UInt8)]],.dead,.dead,.box [.str [(65:UInt8),(67:UInt8),(77:UInt8),(69:UInt8)],.str [(66:UInt8),(73:UInt8),(71:UInt8)],.int .i64 10,.str [(49:UInt8),(47:UInt8),(51:UInt8)],.str [(45:UInt8),(53:UInt8)]],.box [.int .u8 2,.str (Ex.rat (ze acme (9:Int))),.str (Ex.name (ze acme (9:Int))),.int .i64 9,.sl 0 5 (Ex.deep (ze acme (9:Int)))],.box [.int .u8 2,.str (Ex.rat (ze acme (10:Int))),.str (Ex.name (ze acme (10:Int))),.int .i64 10,.sl 0 5 (Ex.deep (ze acme (10:Int)))],.box [.int .u8 7,.str w3.rat,.str w3.name,.int .i64 0,.sl 2 5 w3.deep],.box [.int .u8 7,.str w3.rat,.str w3.name,.int .i64 0,.sl 2 5 w3.deep],.dead,.dead,.box [.sl 4 3 (fxG F2),.sl 1 4 (chG C1)],.arr 4 3 (fxG F2),.arr 1 4 (chG C1),.box [.osl 12 3 0 4,.osl 13 4 0 1],.box [.int .u8 4,.str (Ex.rat (sumX zp 59)),.str (Ex.name (sumX zp 59)),.int .i64 0,.sl 2 5 (Ex.deep (sumX zp 59))],.dead,.dead,.box [.osl 19 3 0 1000,.nils],.arr 1000 3 (fxG M1),.box [.sl n.1.1.length 3 (fxG n.1.1),.sl n.1.2.length 4 (chG n.1.2)]])) (by kernel_rfl) ?_
  simp only [Tree.holds,zd,inR,lo,hi,Int.toNat_natCast]
  refine⟨(aMer,M1,[]),⟨⟨zda,⟨⟨vY,rfl,vL _ _ _⟩,by simp [chS],trivial⟩,trivial⟩,j6 htm,m1_E,by rw [← vY]; decide⟩,⟨_,rfl⟩,?_⟩
  rintro _ rfl
  rw [if_pos trivial]
  simp only [al_l]
  exact⟨(),by simp [SZ3,SZ6,SZ8,SZ9,SZ10,SZ11,SZ12,SZ13,SZ14,SZ15,SZ16,SZ17,SZ18,SZ19],⟨trivial,za _,trivial,trivial,za _,za _,za _,za _,za _,trivial,trivial,za _,za _,za _,za _,za _,trivial,trivial,za _,za _,trivial,trivial⟩,by kernel_rfl,Nat.zero_le _⟩
 show zE none Tryz.prog Tryz.f5 O 0 w0 [] _ _ LZ19 _
 refine zc.cutL (ι:=Unit) LZ19 1 0 (fun _=>SZ20) (fun _=>HZ20) (by kernel_rfl) (by kernel_rfl) ?_ fun _=> ?_
 ·refine zc.run hmix qG [0,1,10,11,13,15,16,17,18,19,20,21,22,23,24,25,28,30,31,34,35,36] 400 (T:=.ex (fun(x:Ca×List Fx×List Ch)=>eqL [AV.agg [AV.str [(65:UInt8),(67:UInt8),(77:UInt8),(69:UInt8)],AV.str [(65:UInt8),(67:UInt8),(77:UInt8),(69:UInt8)],AV.int .i64 10,AV.str [(50:UInt8)],AV.str [(48:UInt8)]],AV.agg [AV.sl 1000 3 (zg (fxG M1) 0),AV.nils]] [AV.agg [AV.str (Ca.name x.1),AV.str (Ca.into x.1),AV.int .i64 (Ca.date x.1),AV.str (Ca.ratio x.1),AV.str (Ca.extra x.1)],AV.agg [AV.sl x.2.1.length 3 (fxG x.2.1),AV.sl x.2.2.length 4 (chG x.2.2)]]∧qJ x.1∧envP x.2∧x.2.1.length≤1000000) fun n=>.all (fun(r:(List Fx×List Ch)×Int)=>r=Ca.before n.1 n.2.1 n.2.2) fun n=>.leaf (.back 0 [(0,.bool false),(1,.bool true),(10,.ptr 1 0),(11,.int .i64 0),(13,.int .i64 8),(15,.int .i64 8),(16,.ptr 4 0),(17,.ptr 5 0),(18,.ptr 6 0),(19,.ptr 7 0),(20,.int .i64 0),(21,.ptr 8 0),(22,.ptr 11 0),(23,.int .i64 0),(24,.ptr 14 0),(25,.ptr 15 0),(28,.int .i64 4),(30,.int .i64 4),(31,.ptr 18 0),(34,.int .i64 22),(35,.ptr 21 0),(36,.int .i64 n.2)] [.dead,.box [.str [(65:UInt8),(67:UInt8),(77:UInt8),(69:UInt8)],.str [(65:UInt8),(67:UInt8),(77:UInt8),(69:UInt8)],.int .i64 10,.str [(50:UInt8)],.str [(48:UInt8)]],.dead,.dead,.box [.str [(65:UInt8),(67:UInt8),(77:UInt8),(69:UInt8)],.str [(66:UInt8),(73:UInt8),(71:UInt8)],.int .i64 10,.str [(49:UInt8),(47:UInt8),(51:UInt8)],.str [(45:UInt8),(53:UInt8)]],.box [.int .u8 2,.str (Ex.rat (ze acme (9:Int))),.str (Ex.name (ze acme (9:Int))),.int .i64 9,.sl 0 5 (Ex.deep (ze acme (9:Int)))],.box [.int .u8 2,.str (Ex.rat (ze acme (10:Int))),.str (Ex.name (ze acme (10:Int))),.int .i64 10,.sl 0 5 (Ex.deep (ze acme (10:Int)))],.box [.int .u8 7,.str w3.rat,.str w3.name,.int .i64 0,.sl 2 5 w3.deep],.box [.int .u8 7,.str w3.rat,.str w3.name,.int .i64 0,.sl 2 5 w3.deep],.dead,.dead,.box [.sl 4 3 (fxG F2),.sl 1 4 (chG C1)],.arr 4 3 (fxG F2),.arr 1 4 (chG C1),.box [.osl 12 3 0 4,.osl 13 4 0 1],.box [.int .u8 4,.str (Ex.rat (sumX zp 59)),.str (Ex.name (sumX zp 59)),.int .i64 0,.sl 2 5 (Ex.deep (sumX zp 59))],.dead,.dead,.box [.osl 19 3 0 1000,.nils],.arr 1000 3 (fxG M1),.dead,.box [.sl n.1.1.length 3 (fxG n.1.1),.sl n.1.2.length 4 (chG n.1.2)]])) (by kernel_rfl) ?_
  simp only [Tree.holds,zd,inR,lo,hi,Int.toNat_natCast]
  refine⟨(aSpl,M1,[]),⟨⟨Ki,⟨⟨vY,rfl,vL _ _ _⟩,by simp [chS],trivial⟩,trivial⟩,j6 ht,m1_E,by rw [← vY]; decide⟩,⟨_,rfl⟩,?_⟩
  rintro _ rfl
  rw [if_pos trivial]
  simp only [al_w]
  exact⟨(),by simp [SZ3,SZ6,SZ8,SZ9,SZ10,SZ11,SZ12,SZ13,SZ14,SZ15,SZ16,SZ17,SZ18,SZ19,SZ20],⟨trivial,za _,trivial,trivial,za _,za _,za _,za _,za _,trivial,trivial,za _,za _,za _,za _,za _,trivial,trivial,za _,za _,trivial,za _,trivial⟩,by kernel_rfl,Nat.zero_le _⟩
 show zE none Tryz.prog Tryz.f5 O 0 w0 [] _ _ LZ20 _
 refine zc.run hmix qG [0,1,10,11,13,15,16,17,18,19,20,21,22,23,24,25,28,30,31,34,35,36] 400 (T:=.ex (fun(x:Unit)=>true=true→eqL [] []∧True) fun n=>.all (fun(x:Bool)=>true=true→x=true) fun n=>.ex (fun(x:Ex×Ex)=>(bif bif bif bif bif bif true then n else false then true else false then decide ((0:Int)=0) else false then decide ((8:Int)=8) else false then decide ((8:Int)=8) else false then decide ((0:Int)=0) else false)=true→eqL [AV.agg [AV.int .u8 7,AV.str w3.rat,AV.str w3.name,AV.int .i64 0,AV.sl 2 5 w3.deep],AV.agg [AV.int .u8 7,AV.str w3.rat,AV.str w3.name,AV.int .i64 0,AV.sl 2 5 w3.deep]] [AV.agg [AV.int .u8 x.1.kind,AV.str x.1.rat,AV.str x.1.name,AV.int .i64 x.1.date,AV.sl x.1.sub.length 5 (Ex.exG x.1.sub)],AV.agg [AV.int .u8 x.2.kind,AV.str x.2.rat,AV.str x.2.name,AV.int .i64 x.2.date,AV.sl x.2.sub.length 5 (Ex.exG x.2.sub)]]∧Ex.size x.1<1152921504606846976) fun n_1=>.all (fun(x:Bool)=>(bif bif bif bif bif bif true then n else false then true else false then decide ((0:Int)=0) else false then decide ((8:Int)=8) else false then decide ((8:Int)=8) else false then decide ((0:Int)=0) else false)=true→(x=true↔n_1.1=n_1.2)) fun n_2=>.ex (fun(x:(List Fx×List Ch)×List Fx×List Ch)=>(bif bif bif bif bif bif bif bif true then n else false then true else false then decide ((0:Int)=0) else false then decide ((8:Int)=8) else false then decide ((8:Int)=8) else false then decide ((0:Int)=0) else false then n_2 else false then decide ((0:Int)=0) else false)=true→eqL [AV.agg [AV.sl 4 3 (fxG F2),AV.sl 1 4 (chG C1)],AV.agg [AV.sl 4 3 (zg (fxG F2) 0),AV.sl 1 4 (zg (chG C1) 0)]] [AV.agg [AV.sl x.1.1.length 3 (fxG x.1.1),AV.sl x.1.2.length 4 (chG x.1.2)],AV.agg [AV.sl x.2.1.length 3 (fxG x.2.1),AV.sl x.2.2.length 4 (chG x.2.2)]]∧x.1.1.length<1099511627776∧x.1.2.length<1099511627776) fun n_3=>.all (fun(x:Bool)=>(bif bif bif bif bif bif bif bif true then n else false then true else false then decide ((0:Int)=0) else false then decide ((8:Int)=8) else false then decide ((8:Int)=8) else false then decide ((0:Int)=0) else false then n_2 else false then decide ((0:Int)=0) else false)=true→(x=true↔n_3.1=n_3.2)) fun n_4=>.ex (fun(x:(List Fx×List Ch)×List Fx×List Ch)=>(bif bif bif bif bif bif bif bif bif bif bif bif bif true then n else false then true else false then decide ((0:Int)=0) else false then decide ((8:Int)=8) else false then decide ((8:Int)=8) else false then decide ((0:Int)=0) else false then n_2 else false then decide ((0:Int)=0) else false then n_4 else false then decide ((4:Int)=4) else false then decide ((4:Int)=4) else false then decide ((22:Int)=22) else false then decide ((0:Int)=0) else false)=true→eqL [AV.agg [AV.sl 1000 3 (fxG M1),AV.sl 0 4 (chG [])],AV.agg [AV.sl 1000 3 (zg (fxG M1) 0),AV.nils]] [AV.agg [AV.sl x.1.1.length 3 (fxG x.1.1),AV.sl x.1.2.length 4 (chG x.1.2)],AV.agg [AV.sl x.2.1.length 3 (fxG x.2.1),AV.sl x.2.2.length 4 (chG x.2.2)]]∧x.1.1.length<1099511627776∧x.1.2.length<1099511627776) fun n_5=>.all (fun(x:Bool)=>(bif bif bif bif bif bif bif bif bif bif bif bif bif true then n else false then true else false then decide ((0:Int)=0) else false then decide ((8:Int)=8) else false then decide ((8:Int)=8) else false then decide ((0:Int)=0) else false then n_2 else false then decide ((0:Int)=0) else false then n_4 else false then decide ((4:Int)=4) else false then decide ((4:Int)=4) else false then decide ((22:Int)=22) else false then decide ((0:Int)=0) else false)=true→(x=true↔n_5.1=n_5.2)) fun n_6=>.leaf (.ret [.bool (bif bif bif bif bif bif bif bif bif bif bif bif bif bif true then n else false then true else false then decide ((0:Int)=0) else false then decide ((8:Int)=8) else false then decide ((8:Int)=8) else false then decide ((0:Int)=0) else false then n_2 else false then decide ((0:Int)=0) else false then n_4 else false then decide ((4:Int)=4) else false then decide ((4:Int)=4) else false then decide ((22:Int)=22) else false then decide ((0:Int)=0) else false then n_6 else false)] [.dead,.box [.str [(65:UInt8),(67:UInt8),(77:UInt8),(69:UInt8)],.str [(65:UInt8),(67:UInt8),(77:UInt8),(69:UInt8)],.int .i64 10,.str [(50:UInt8)],.str [(48:UInt8)]],.dead,.dead,.box [.str [(65:UInt8),(67:UInt8),(77:UInt8),(69:UInt8)],.str [(66:UInt8),(73:UInt8),(71:UInt8)],.int .i64 10,.str [(49:UInt8),(47:UInt8),(51:UInt8)],.str [(45:UInt8),(53:UInt8)]],.box [.int .u8 2,.str (Ex.rat (ze acme (9:Int))),.str (Ex.name (ze acme (9:Int))),.int .i64 9,.sl 0 5 (Ex.deep (ze acme (9:Int)))],.box [.int .u8 2,.str (Ex.rat (ze acme (10:Int))),.str (Ex.name (ze acme (10:Int))),.int .i64 10,.sl 0 5 (Ex.deep (ze acme (10:Int)))],.box [.int .u8 7,.str w3.rat,.str w3.name,.int .i64 0,.sl 2 5 w3.deep],.box [.int .u8 7,.str w3.rat,.str w3.name,.int .i64 0,.sl 2 5 w3.deep],.dead,.dead,.box [.sl 4 3 (fxG F2),.sl 1 4 (chG C1)],.arr 4 3 (fxG F2),.arr 1 4 (chG C1),.box [.osl 12 3 0 4,.osl 13 4 0 1],.box [.int .u8 4,.str (Ex.rat (sumX zp 59)),.str (Ex.name (sumX zp 59)),.int .i64 0,.sl 2 5 (Ex.deep (sumX zp 59))],.dead,.dead,.box [.osl 19 3 0 1000,.nils],.arr 1000 3 (fxG M1),.dead,.box [.sl 1000 3 (fxG M1),.sl 0 4 (chG [])]])) (by kernel_rfl) ?_
 simp only [Tree.holds,zd]
 refine⟨(),fun _=>⟨trivial,trivial⟩,⟨true,fun _=>rfl⟩,fun r0 h0=> ?_⟩
 obtain rfl:r0=true:=h0 trivial
 refine⟨(w3,w3),fun _=>⟨⟨qb w3,qb w3,trivial⟩,by decide⟩,⟨true,fun _=>by simp⟩,fun r1 h1=> ?_⟩
 obtain rfl:r1=true:=(h1 rfl).2 rfl
 refine⟨((F2,C1),(F2,C1)),fun _=>⟨⟨⟨⟨rfl,rfl,zb _ _ _⟩,⟨rfl,rfl,zb _ _ _⟩,trivial⟩,⟨⟨rfl,rfl,vL _ _ _⟩,⟨rfl,rfl,vL _ _ _⟩,trivial⟩,trivial⟩,by decide,by decide⟩,⟨true,fun _=>by simp⟩,fun r2 h2=> ?_⟩
 obtain rfl:r2=true:=(h2 rfl).2 rfl
 refine⟨((M1,[]),(M1,[])),fun _=>⟨⟨⟨⟨vY,rfl,zb _ _ _⟩,⟨rfl,rfl,zb _ _ _⟩,trivial⟩,⟨⟨vY,rfl,vL _ _ _⟩,by simp [chS],trivial⟩,trivial⟩,by show M1.length<_; rw [← vY]; decide,by show 0<_; decide⟩,⟨true,fun _=>by simp⟩,fun r3 h3=> ?_⟩
 obtain rfl:r3=true:=(h3 rfl).2 rfl
 exact RetR.scal hq rfl (by simp [resV])
end Go.Proofs.Tryz
end
section
namespace Go.Sx
variable [Stat]
open Go.RowKit (Below)
def E0:Nat→Prop:=Own (fun _=>False) []
theorem U9(b:Nat):¬ E0 b:=by
 rintro(h | ⟨e,he,_⟩)
 ·exact h
 ·simp at he
section
variable {P:Program} {W:World} {t e:TypeId} {cs:List Value}
theorem zba{g:Nat}{fn:Func}{c:Code}(hf:P.funcs[g]?=some fn)(hb:fn.body=some c) (hn:(fn.name == "runtime.NumGoroutine")=false) {ctr:Ctr} (hok:zf P g ctr) {args:List AV} {vals:List Value}
  (hspec:(ctr.spec args []).holds fun r=>r=(.bool true,[])) (hr:RepL E0 W args [] vals) (hst:vH E0 W):Calls P g vals.toArray W fun e W'=>e = .returned (.bool true)∧Below W.heap.size W W':=by
 have hn':¬ fn.name = "runtime.NumGoroutine" :=by simpa using hn
 have hg:Good (fun _=>False) W []:=⟨fun b h=>h.elim,fun i e ad he=>by simp at he,hst⟩
 have hh:HRep (Own (fun _=>False) []) W [] []:=⟨rfl,fun i j e f a b he=>by simp at he,fun i e a he=>by simp at he,fun i e b he=>by simp at he⟩
 rcases hok args [] _ hspec (fun _=>rfl) (fun _=>False) W [] vals hg hh hr with ⟨_,h⟩ | ⟨v,w',h,_⟩
 ·refine h.mono ?_
  rintro e W' ⟨v,rfl,r,hs,σ',hq,h1,_,_,_,_,hx⟩
  cases hq
  simp only [Rep] at h1
  subst h1
  exact⟨rfl,hx.os,hx.tape,hx.output,hx.size,fun k hk=>hx.keep k hk fun⟨e,he,_⟩=>by simp at he⟩
 ·simp [callFunc,hf,hn',hb] at h
end
end Go.Sx
end
section
namespace Go.Sx
variable [Stat]
section
variable {P:Program} {W:World} {t e:TypeId} {cs:List Value}
theorem zcj{H:Type}{enc:TypeId×Value→H}{base:Nat}{sp:Nat→Bool}{held:Bool}{fuel:Nat}{kd:IntKind}{ps:List Int}{q:List MemPlace}(ht:P.underlying t=some (.slice e))(he:P.underlying e=some (.int kd))(hc:P.cellsOf e=1)(hne:ps≠[])
  (h:DataW.trod enc P W base sp held fuel t cs=some (.slice (ps.map fun z=>.lit (.int kd z)) [],q)):∃ c,cs=[c]∧c.oneCell'=true∧Rep E0 W (.sl ps.length 1 fun j _=>.int kd (ps.getD j 0)) [] c:=by
 obtain⟨a,cap,rfl,hl,hel⟩:=open_row ht hc h
 refine⟨_,rfl,rfl,?_⟩
 simp only [List.length_map] at hl
 have hv:∀ j,j<ps.length→W.cell? (a.add j)=some (.int kd (ps.getD j 0)):=fun j hj=>by
  obtain⟨v,n,q',h1,h2⟩:=hel j (.lit (.int kd (ps.getD j 0))) (by simp [List.getD,hj])
  obtain⟨m,h3,h4,_⟩:=DataW.trod_int he h2
  simp only [List.cons.injEq,and_true] at h3
  simp only [Prod.mk.injEq,DataW.lit.injEq,Lit.int.injEq,true_and] at h4
  rw [h1,h3,h4.1]
 simp only [Rep,List.length_map]
 refine⟨some a,cap,rfl,hl,.inr ⟨a,rfl,?_,fun j o hj ho=>⟨U9 _,.int kd (ps.getD j 0),?_,rfl,rfl⟩⟩⟩
 ·have:=World.cell?_spot (hv 0 (List.length_pos_iff.2 hne))
  simpa [Addr.add] using this
 ·have:o=0:=by omega
  subst this
  have hs:a.spot=none:=by
   have:=World.cell?_spot (hv 0 (List.length_pos_iff.2 hne))
   simpa [Addr.add] using this
  rw [← hv j hj]
  obtain⟨b,off,spot⟩:=a
  simp only at hs
  subst hs
  congr 1
  simp only [Addr.add]
  split<;>simp_all
end
section
open Go.WideElems Go.ChangeMaps
variable {H:Type} {enc:TypeId×Value→H} {P:Program} {W:World} {base:Nat} {sp:Nat→Bool} {held:Bool}
theorem ZJ{x:Lit×DataW H} : ∀ {l:List (Lit×DataW H)},x∈l.foldr DataW.insert []↔x∈l
 | []=>Iff.rfl
 | y::l=>by rw [List.foldr_cons,mem_insert_iff,ZJ,List.mem_cons]
theorem Ug{g:Nat}{t k e:TypeId}{kd:IntKind}{ag:Bool}{sz:Nat}{ks:List Int}{has:Int→Bool}{get:Int→Nat→AV}{fuel:Nat}{c:Value}{es0:List (Lit×DataW H)}{q:List MemPlace}
  (hg:(Stat.z g).isSome=true) (ht:P.underlying t=some (.map k e)) (hk:P.underlying k=some (.int kd)) (hc:W.cell? ⟨g,0,none⟩=some c) (hne:es0≠[])
  (h:DataW.trod enc P W base sp held fuel t [c]=some (.map es0,q))
  (hin:∀ (n:Int) (d:DataW H),(.int kd n,d)∈es0→has n=true∧∀ (v:Value) (m:Nat) (q:List MemPlace),v.formed P e=true→DataW.trod enc P W base sp held m e v.cells.toList=some (d,q) →
   match ag with
   | true=>∃ vs:List Value,v = .agg vs.toArray∧vs.length=sz∧∀ o,o<sz→∃ c,vs[o]?=some c∧Rep E0 W (get n o) [] c
   | false=>Rep E0 W (get n 0) [] v)
  (hout:∀ n,has n=true→∃ d,(.int kd n,d)∈es0):Rep E0 W (.mp kd ag sz ks has get) [] c∧∀ b,c = .map (some b)→b<W.heap.size:=by
 rcases open_map ht h with ⟨_,hx⟩ | ⟨b,es,clock,n,_,hcs,hb,_,F,hx⟩
 ·simp at hx
 ·simp only [List.cons.injEq,and_true] at hcs
  subst hcs
  simp only [Prod.mk.injEq,DataW.map.injEq] at hx
  have hkey:∀ x∈es.toList,∃ (m:Int) (z:DataW H×List MemPlace),x.key = .int kd m∧elemAt enc P W base sp held n e x.val=some z∧(.int kd m,z.1)∈es0:=by
   intro x hxm
   obtain⟨y,hy⟩:=F.reads x hxm
   have h1:=rd_key hy
   obtain⟨z,h2,h3⟩:=rd_val hy
   have h4:y∈es0:=by rw [hx.1,ZJ]; exact List.mem_map.2 ⟨x,hxm,rg_of hy⟩
   have h5:mapKey P k x.key=some y.1:=by
    simp only [keyOf,hk] at h1
    exact h1
   unfold mapKey at h5
   rw [hk] at h5
   cases hxk:x.key with
   | int k' m=>
    rw [hxk] at h5
    simp only at h5
    split at h5
    ·rename_i hc2
     have h6:=Option.some.inj h5
     obtain⟨rfl,_⟩:=hc2
     refine⟨m,z,rfl,h2,?_⟩
     rw [h6,← h3]; exact h4
    ·cases h5
   | _=>rw [hxk] at h5; simp at h5
  have hlt:b<W.heap.size:=(Array.getElem?_eq_some_iff.1 hb).1
  refine⟨?_,fun b' hb'=>by cases hb'; exact hlt⟩
  simp only [Rep]
  refine⟨b,es,clock,rfl,U9 _,⟨g,U9 _,hg,hc⟩,hb,fun m=> ?_⟩
  have hspec:=MapKept.findNow_spec (d:=.int kd) (k:=.int kd m) (by simp [MapKept.IsKey]) es.toList 0 (fun x hxm=>by
   obtain⟨m',z,h1,_⟩:=hkey x hxm
   rw [h1]; simp [MapKept.IsKey])
  rcases hspec with ⟨h1,h2⟩ | ⟨j,x,h1,h2,h3⟩
  ·refine⟨fun _=>h1,fun hm=> ?_⟩
   obtain⟨d,hd⟩:=hout m hm
   rw [hx.1,ZJ] at hd
   obtain⟨x,hxm,hrx⟩:=List.mem_map.1 hd
   obtain⟨y,hy⟩:=F.reads x hxm
   rw [rg_of hy] at hrx
   have h5:=rd_key hy
   rw [hrx] at h5
   obtain⟨m',z,g1,_⟩:=hkey x hxm
   have:keyOf P k x.key=some (.int kd m'):=by
    rw [g1] at h5 ⊢
    simp only [keyOf,hk,mapKey] at h5 ⊢
    split at h5
    ·rename_i hwf; rw [if_pos hwf]
    ·cases h5
   rw [this] at h5
   cases h5
   exact absurd g1 (h2 x hxm)
  ·have hxm:x∈es.toList:=List.mem_of_getElem? h2
   obtain⟨m',z,g1,g2,g3⟩:=hkey x hxm
   rw [h3] at g1
   cases g1
   obtain⟨hh,hrep⟩:=hin m z.1 g3
   refine⟨fun hf=>(by rw [hf] at hh; cases hh),fun _=>⟨_,x.val,h1,?_⟩⟩
   unfold elemAt at g2
   split at g2
   ·rename_i hfm
    exact hrep x.val n z.2 hfm g2
   ·cases g2
end
end Go.Sx
end
section
set_option maxRecDepth 100000
namespace Go.Proofs.YtlkbiennfpeoiaaGreatDoor
open Go Go.Sx Go.Nov Go.Proofs.Tryz Go.ChangeShapes Go.WideShapes Go.ChangeAt Go.RowKit
theorem KN:Tryz.prog.cellsOf 113=1:=by kernel_rfl
theorem zfr:Tryz.prog.cellsOf 151=1:=by kernel_rfl
theorem zeo:Tryz.prog.cellsOf 153=2:=by kernel_rfl
def shpE(H:Type):List (Lit×DataW H):=shpL.map fun p=>(.int .u8 p.1,.agg [.slice (p.2.1.map fun z=>.lit (.int .u8 z)) [],.lit (.int .u8 p.2.2)])
theorem zfu:∀ p∈shpL,ZC p.1=some p.2∧p.2.1≠[]:=by decide
theorem zgd{k:Int}(h:jN k=true):∃ q,(k,q)∈shpL:=by
 unfold jN ZC at h
 rw [Option.isSome_map] at h
 obtain⟨p,hp⟩:=Option.isSome_iff_exists.1 h
 have h1:=List.find?_some hp
 have h2:=List.mem_of_find?_eq_some hp
 have:p.1=k:=by simpa using h1
 exact⟨p.2,by rw [← this]; exact h2⟩
theorem Xs{W:World}{cs:List Value}{fuel:Nat}{q:List MemPlace}{c:Value}(hc:W.cell? ⟨1,0,none⟩=some c)
  (h:DataW.trod (fun _=>()) Tryz.prog W 0 (fun _=>true) false fuel 155 [c]=some (.map (shpE Unit),q)) :
  Rep E0 W (.mp .u8 true 2 [] (fun k=>jN k) fun k o=>match o with
   | 0=>.sl (j5 k) 1 fun j _=>.int .u8 (qF k j)
   | _=>.int .u8 (j4 k)) [] c∧∀ b,c = .map (some b)→b<W.heap.size:=by
 refine Ug (g:=1) rfl Tryz.underlying155 Tryz.underlying5 hc (by decide) h ?_ ?_
 ·intro n d hd
  obtain⟨p,hp,he⟩:=List.mem_map.1 hd
  obtain⟨h1,h2⟩:=zfu p hp
  simp only [Prod.mk.injEq,Lit.int.injEq,true_and] at he
  obtain⟨rfl,rfl⟩:=he
  refine⟨by simp [jN,h1],fun v m q' hf ht=> ?_⟩
  obtain⟨xs,n',_,hx,hl,hlen,hfs⟩:=DataW.trod_struct Tryz.underlying153 ht
  rw [zeo] at hl
  cases v with
  | agg cs=>
   simp only [Value.cells] at hl hfs
   obtain⟨cs⟩:=cs
   simp only at hl hfs
   match cs,hl with
   | [a,b],_=>
    have f0:DataW.trod _ Tryz.prog W 0 _ false n' 151 (([a,b].drop 0).take (Tryz.prog.cellsOf 151))=xs[0]?:=hfs 0 _ rfl
    have f1:DataW.trod _ Tryz.prog W 0 _ false n' 113 (([a,b].drop 1).take (Tryz.prog.cellsOf 113))=xs[1]?:=hfs 1 _ rfl
    rw [zfr] at f0
    rw [KN] at f1
    match xs,hlen with
    | [x0,x1],_=>
     simp only [List.map_cons,List.map_nil,Prod.mk.injEq,DataW.agg.injEq,List.cons.injEq,and_true] at hx
     obtain⟨⟨hx0,hx1⟩,_⟩:=hx
     have f0:DataW.trod _ Tryz.prog W 0 _ false n' 151 [a]=some x0:=f0
     have f1:DataW.trod _ Tryz.prog W 0 _ false n' 113 [b]=some x1:=f1
     obtain⟨x0a,x0b⟩:=x0
     obtain⟨x1a,x1b⟩:=x1
     simp only at hx0 hx1
     subst hx0; subst hx1
     obtain⟨c0,e0,_,hr⟩:=zcj Tryz.underlying151 Tryz.underlying113 KN h2 f0
     cases e0
     obtain⟨z,e1,e2,_⟩:=DataW.trod_int Tryz.underlying113 f1
     cases e1
     simp only [Prod.mk.injEq,DataW.lit.injEq,Lit.int.injEq,true_and] at e2
     refine⟨[a,.int .u8 z],rfl,rfl,fun o ho=> ?_⟩
     have g1:qu p.1=p.2.1:=by simp [qu,h1]
     have g2:j4 p.1=p.2.2:=by simp [j4,h1]
     match o,ho with
     | 0,_=>
      refine⟨a,rfl,?_⟩
      show Rep E0 W (.sl (j5 p.1) 1 fun j _=>.int .u8 (qF p.1 j)) [] a
      unfold j5 qF
      rw [g1]
      exact hr
     | 1,_=>
      refine⟨_,rfl,?_⟩
      show Rep E0 W (.int .u8 (j4 p.1)) [] _
      simp only [Rep]
      rw [g2,e2.1]
  | _=>simp [Value.formed,Tryz.underlying153] at hf
 ·intro n hn
  obtain⟨q',hq⟩:=zgd hn
  exact⟨_,List.mem_map.2 ⟨_,hq,rfl⟩⟩
theorem zgw:Tryz.prog.globalNamed "novation/observable.shapes" = some 1:=by kernel_rfl
theorem zhx:(Tryz.prog.globals[1]?).map (·.type)=some 155:=by kernel_rfl
theorem zg7:(Rows.laid_novation_observable_shapes:DataW Unit) = .map (shpE Unit):=rfl
theorem zkc:Tryz.prog.globalNamed "novation/contract.parts" = some 0:=by kernel_rfl
theorem zjk:(Tryz.prog.globals[0]?).map (·.type)=some 143:=by kernel_rfl
def prtE:List (Lit×DataW Unit):=[(.int .u8 1,.lit (.int .i64 0)),(.int .u8 2,.lit (.int .i64 15)),(.int .u8 3,.lit (.int .i64 256)),(.int .u8 4,.lit (.int .i64 136)),(.int .u8 5,.lit (.int .i64 272)),(.int .u8 6,.lit (.int .i64 160)),(.int .u8 7,.lit (.int .i64 261)),(.int .u8 8,.lit (.int .i64 197)),(.int .u8 9,.lit (.int .i64 208)),(.int .u8 10,.lit (.int .i64 208))]
theorem ze4:(Rows.laid_novation_contract_parts:DataW Unit) = .map prtE:=rfl
abbrev Xb:List (String×DataW Unit):=[("novation/observable.shapes",Rows.laid_novation_observable_shapes),("novation/contract.parts",Rows.laid_novation_contract_parts)]
theorem za8{W:World}{cs:List Value}{fuel:Nat}{q:List MemPlace}{c:Value}(hc:W.cell? ⟨0,0,none⟩=some c)
  (h:DataW.trod (fun _=>()) Tryz.prog W 0 (fun _=>true) false fuel 143 [c]=some (.map prtE,q)) :
  Rep E0 W (.mp .u8 false 1 [] (fun k=>decide (1≤k∧k≤10)) fun k _=>.int .i64 (k5 k)) [] c∧∀ b,c = .map (some b)→b<W.heap.size:=by
 refine Ug (g:=0) rfl Tryz.underlying143 Tryz.underlying5 hc (by decide) h ?_ ?_
 ·intro n d hd
  have one:∀ {v:Value} {m:Nat} {q:List MemPlace} {z:Int},v.formed Tryz.prog 3=true→DataW.trod (fun _=>()) Tryz.prog W 0 (fun _=>true) false m 3 v.cells.toList=some (.lit (.int .i64 z),q)→Rep E0 W (.int .i64 z) [] v:=by
   intro v m q z hf ht
   have hcell:v.cells.toList=[v]:=by
    cases v with
    | agg _=>simp [Value.formed,Tryz.underlying3] at hf
    | _=>rfl
   rw [hcell] at ht
   obtain⟨z',e1,e2,_⟩:=DataW.trod_int Tryz.underlying3 ht
   cases e1
   simp only [Prod.mk.injEq,DataW.lit.injEq,Lit.int.injEq,true_and] at e2
   simp only [Rep]
   rw [e2.1]
  simp only [prtE,List.mem_cons,Prod.mk.injEq,Lit.int.injEq,true_and,List.not_mem_nil,or_false] at hd
  rcases hd with ⟨rfl,rfl⟩ | ⟨rfl,rfl⟩ | ⟨rfl,rfl⟩ | ⟨rfl,rfl⟩ | ⟨rfl,rfl⟩ | ⟨rfl,rfl⟩ | ⟨rfl,rfl⟩ | ⟨rfl,rfl⟩ | ⟨rfl,rfl⟩ | ⟨rfl,rfl⟩<;>exact⟨rfl,fun v m q hf ht=>one hf ht⟩
 ·intro n hn
  have hn:=of_decide_eq_true hn
  have:n=1∨n=2∨n=3∨n=4∨n=5∨n=6∨n=7∨n=8∨n=9∨n=10:=by omega
  rcases this with rfl | rfl | rfl | rfl | rfl | rfl | rfl | rfl | rfl | rfl<;>exact⟨_,by unfold prtE; simp; rfl⟩
theorem zgl{W:World}(h:laidMetH Tryz.prog Xb W):vH E0 W:=by
 rw [MakeChecks.laidMetH_plain _ _ _ (by kernel_rfl)] at h
 obtain⟨ps,⟨g0,t0,cs0,f0,p0,q0,hg0,ht0,hv0,hd0,hr0,_⟩,_,_⟩:=h
 obtain⟨g1,t1,cs1,f1,p1,q1,hg1,ht1,hv1,hd1,_,_⟩:=hr0
 obtain rfl:=Option.some.inj (zgw.symm.trans hg0)
 obtain rfl:=Option.some.inj (zhx.symm.trans ht0)
 obtain rfl:=Option.some.inj (zkc.symm.trans hg1)
 obtain rfl:=Option.some.inj (zjk.symm.trans ht1)
 rw [zg7] at hd0
 rw [ze4] at hd1
 have hone:∃ c,cs0.toList=[c]:=by
  rcases Go.WideElems.open_map Tryz.underlying155 hd0 with ⟨hcs,_⟩ | ⟨b,es,clock,n,_,hcs,_⟩
  ·exact⟨_,hcs⟩
  ·exact⟨_,hcs⟩
 have hone1:∃ c,cs1.toList=[c]:=by
  rcases Go.WideElems.open_map Tryz.underlying143 hd1 with ⟨hcs,_⟩ | ⟨b,es,clock,n,_,hcs,_⟩
  ·exact⟨_,hcs⟩
  ·exact⟨_,hcs⟩
 obtain⟨c,hcs⟩:=hone
 obtain⟨c',hcs'⟩:=hone1
 rw [hcs] at hd0
 rw [hcs'] at hd1
 have k1:W.cell? ⟨1,0,none⟩=some c:=by
  have:=World.var?_cell hg0 hv0 0
  rw [Array.eq_one_of_toList hcs] at this
  simpa using this
 have k2:W.cell? ⟨0,0,none⟩=some c':=by
  have:=World.var?_cell hg1 hv1 0
  rw [Array.eq_one_of_toList hcs'] at this
  simpa using this
 obtain⟨r1,b1⟩:=Xs (cs:=[c]) k1 hd0
 obtain⟨r2,b2⟩:=za8 (cs:=[c']) k2 hd1
 refine⟨fun g a hz=>⟨U9 _,?_⟩⟩
 by_cases hg:g=1
 ·subst hg
  cases hz
  exact⟨c,k1,r1,b1⟩
 ·by_cases hg2:g=0
  ·subst hg2
   cases hz
   exact⟨c',k2,r2,b2⟩
  ·have:Stat.z g=none:=by
    show(if _ then _ else if _ then _ else _)=_
    rw [if_neg hg,if_neg hg2]
   rw [this] at hz; cases hz
theorem walk{W:World}  (hst:vH E0 W) :
  Calls Tryz.prog 5 #[] W fun e W'=>e = .returned (.bool true)∧Below W.heap.size W W':=by
 refine zba (fn:=Tryz.f5) (c:=Tryz.f5.body.getD .skip) rfl rfl rfl zcz (args:=[]) (vals:=[]) ?_ ?_ hst
 ·refine⟨(),⟨?_,trivial⟩,⟨true,rfl⟩,?_⟩
  ·simp [eqL,eqA,eqA0,eqL0,envA,fxS,chS,Fx.av,Ch.av,Ex.exA,Ex.exS,zb]
  ·rintro _ rfl
   rfl
 ·exact rfl
theorem own:ownKnob Tryz.prog.godebug=none:=by kernel_rfl
theorem zbr(os:Os)(args:Array Value):laidMetH Tryz.prog Xb ((World.doorLaid Tryz.prog 400 os).forCall (fun _ _=>0) ⟨#[],args,[]⟩).memory:=
 laidMetH_of_parts3 (fuel:=8) (laidMet_of_run' 8 (by kernel_rfl) (by kernel_rfl)) (by kernel_rfl) (by kernel_rfl)
theorem lifted(os:Os)(started:os.Started)(H:Type)(enc:TypeId×Value→H) :
  ReturnsInHanded {} Tryz.checked os 5 .any (fun w args=>(Rows.corporateNamesSpec.pre enc Tryz.prog Tryz.f5 [] false w args∧laidMetH Tryz.prog Xb w)∧sizedMet enc Tryz.prog Tryz.f5 (OpenSpec.ofChange Rows.corporateNamesSpec) false w args)
   (Rows.corporateNamesSpec.post enc Tryz.prog Tryz.f5 false true false false):=by
 refine returnsInHanded_of_change_and (C:=Tryz.checked) (X:=fun w _=>laidMetH Tryz.prog Xb w) (fun _ _ _ hh h=>h.of_heap hh) own started (by kernel_rfl) Tryz.func5
  (ChangeSpec.witness_shaped (enc:=enc) (C:=Tryz.checked) (os:=os) (X:=fun w _=>laidMetH Tryz.prog Xb w) false (World.doorLaid Tryz.prog 400 os) #[] 8 rfl (World.shaped_of_RefB (by kernel_rfl) (by kernel_rfl)) (by kernel_rfl) (by kernel_rfl) (by kernel_rfl) (zbr os _)) ?_
 intro W base args ds gs before hval0 hW hcnd hwt hL _
 have hval:∀ (j:Nat) t v,Tryz.f5.params[j]?=some t→args[j]?=some v→Value.okWide Tryz.prog W .any base t v:=hval0
 have hW':=hW
 obtain⟨p,q,hA0,hV,rfl,hfz,hnd⟩:=hW
 have hA:DataW.TrodAll enc Tryz.prog W 0 (fun _=>true) true Tryz.f5.params.toList args.toList ds p:=hA0
 rw [Tryz.params5] at hA hval
 obtain⟨hargs,rfl,rfl⟩:=trodAll_nil hA
 obtain rfl:args = #[]:=by cases args; simp_all
 obtain⟨rfl,rfl⟩:=trodVars_none hV
 clear hA0 hval0
 simp only [List.append_nil] at hW' hwt
 have hcall:=walk  (zgl hL)
 refine hcall.mono fun e W' ⟨he,hb⟩=> ?_
 subst he
 refine⟨_,rfl,_,_,_,[],[],[],hW',trodAll_mk1 (shut_bool Tryz.underlying4 true),?_,rfl,hb.frame _,fun h=>by cases h⟩
 exact trodAll_mk0
theorem over:Rows.corporateNamesRow.holds Tryz.pinned (OpenSpec.ofChange Rows.corporateNamesSpec):=
 OpenClaim.holds_of_wide 5 Tryz.f5 rfl rfl rfl rfl rfl rfl rfl ⟨rfl,rfl,rfl,rfl,rfl⟩ rfl rfl rfl rfl rfl (by kernel_rfl) Tryz.func5 (by kernel_rfl)
  (of_decide_eq_true (by kernel_rfl)) (by unfold Func.isWrapper; first | (rw [if_pos (by decide +kernel)]; kernel_rfl) | (rw [if_neg (by decide +kernel)]; exact⟨rfl,rfl⟩))
  (fun os started H enc _=>lifted os started H enc)
theorem xH:Rows.CorporateNamesSaid:=over
theorem corporateNames_holds:Rows.CorporateNamesCardSaid:=
 Claim7.holds_tied_plain_at .later [] [.mappedDeep,.mapped] true (true, "69ccaedfd415ad9045f2381b74d6cc68628330c4f2bc993b1bea59fec527b584") false
  xH (fun _ h=>by cases h) (by kernel_rfl) (fun _ h=>by cases h) corporateNames_row_tie rfl ⟨rfl,rfl⟩ (by kernel_rfl) rfl
  (fun f fn hf hfn=>by
   obtain rfl:f=5:=Option.some.inj ((show Tryz.prog.funcNamed "novation/novationlaw22.CorporateNames" = some 5 by kernel_rfl).symm.trans hf) |>.symm
   obtain rfl:fn=Tryz.f5:=(Option.some.inj (Tryz.func5.symm.trans hfn)).symm
   exact⟨by kernel_rfl,fun j t ht=>by
    rw [Tryz.params5] at ht
    simp at ht⟩)
  (by kernel_rfl)
end Go.Proofs.YtlkbiennfpeoiaaGreatDoor
end
