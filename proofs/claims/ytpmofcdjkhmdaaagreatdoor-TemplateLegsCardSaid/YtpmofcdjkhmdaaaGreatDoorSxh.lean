/- The law returns true for every input, and each argument reads afterwards as it read before; no condition. -/
import Derived.Test.YtpmofcdjkhmdaaaGreatDoorSxg
import Derived.SizedLaws
import Derived.ChangeArms
import Derived.Deep.Slices
import Derived.Carry
import Derived.LaidMore
import Derived.WideKeyElems2
import Derived.ProofKit
import Derived.OpenShut
import Derived.ReadAgain
import Derived.Test.YtpmofcdjkhmdaaaGreatDoorRows
import Derived.MakeChecks
import Derived.Test.YtpmofcdjkhmdaaaGreatDoorCards
import Derived.Test.YtpmofcdjkhmdaaaGreatDoorTie
import Derived.Stop.Joined
import Derived.SevenTiedAt
set_option linter.unusedVariables false
set_option linter.unusedSimpArgs false
set_option linter.unusedSectionVars false
section
set_option maxRecDepth 100000
open Go Go.Sx Go.Proofs Go.Nov
namespace Go.Proofs.Tryz
attribute [local simp] eqKV eqA eqA0 eqH eqB eqL eqL0
noncomputable def K161:List Go.Sx.Item:=[.code (Tryz.f161.body.getD .skip)]
noncomputable def K67:List Go.Sx.Item:=[.code (Tryz.f67.body.getD .skip)]
noncomputable def GSwp:Nat→Option Ctr:=fun f=>if f=157 then some (uB) else none
theorem zkj:∀ g c,GSwp g=some c→zd Tryz.prog g c:=okIf Ul (zn)
noncomputable def GCap:Nat→Option Ctr:=fun f=>if f=157 then some (Qz) else none
theorem ziy:∀ g c,GCap g=some c→zd Tryz.prog g c:=okIf zck (zn)
def zb0:Ctr:=ctrP false (fun x:PeA=>[x.d.av,perS x.l]) (fun x=>x.ok) (fun _ (_:Unit)=>True) (fun x _=>(.tup [(Tm.qw (Tm.legS x.d) x.d x.l).conD,.int .i64 (Tm.qL (Tm.legS x.d) x.d x.l)],[]))
theorem zkt:zd Tryz.prog 66 zb0:=by
 refine zh (fn:=Tryz.f66) (c:=Tryz.f66.body.getD .skip) rfl rfl rfl fun p hp O w0 Q hq=> ?_
 obtain⟨d,l,fl⟩:=p
 replace hq:=hq () trivial
 refine zb.run hmix zkj [] 400 (T:=.ex (fun(x:PeA)=>eqL [(Deal.av d),AV.sl l.length 3 (perG l),AV.fn 158 [] [AV.ptr 0 0]] [(Deal.av (PeA.d x)),AV.sl (PeA.l x).length 3 (perG (PeA.l x)),AV.fn 158 [] [AV.ptr 0 0]]∧eqH [.box [AV.str (Deal.long d),AV.str (Deal.short d),AV.str (Deal.ccy d),AV.str d.name,AV.str (Deal.zc d),AV.str (Deal.zf d)]] [.box [AV.str (Deal.long (PeA.d x)),AV.str (Deal.short (PeA.d x)),AV.str (Deal.ccy (PeA.d x)),AV.str (Deal.name (PeA.d x)),AV.str (Deal.zc (PeA.d x)),AV.str (Deal.zf (PeA.d x))]]∧1=1∧PeA.ok x) fun n=>.all (fun(x:Unit)=>True) fun n_1=>.leaf (.ret [(Con.conD (Tm.qw (zK (PeA.d n) (PeA.fl n)) (PeA.d n) (PeA.l n))),.int .i64 (Tm.qL (zK (PeA.d n) (PeA.fl n)) (PeA.d n) (PeA.l n))] [.box [.str (Deal.long (PeA.d n)),.str (Deal.short (PeA.d n)),.str (Deal.ccy (PeA.d n)),.str (Deal.name (PeA.d n)),.str (Deal.zc (PeA.d n)),.str (Deal.zf (PeA.d n))],.box (Con.zr (Tm.qw (zK (PeA.d n) (PeA.fl n)) (PeA.d n) (PeA.l n)))])) (by kernel_rfl) ?_
 simp only [Tree.holds,ze]
 refine⟨⟨d,l,fl⟩,⟨⟨⟨rfl,rfl,rfl,rfl,rfl,rfl,trivial⟩,⟨rfl,rfl,za _ _ _⟩,rfl,trivial⟩,by simp,trivial,hp⟩,⟨(),trivial⟩,fun _ _=> ?_⟩
 exact RetR.le0 hq (fun h=>by cases h) (LeA.refl _)
def capC:Ctr:=ctrP false (fun x:PeA=>[x.d.av,perS x.l,.bool x.fl]) (fun x=>x.ok) (fun _ (_:Unit)=>True) (fun x _=>(.tup [(Tm.qw (Tm.legC x.d x.fl) x.d x.l).conD,.int .i64 (Tm.qL (Tm.legC x.d x.fl) x.d x.l)],[]))
theorem zm0:zd Tryz.prog 68 capC:=by
 refine zh (fn:=Tryz.f68) (c:=Tryz.f68.body.getD .skip) rfl rfl rfl fun p hp O w0 Q hq=> ?_
 obtain⟨d,l,fl⟩:=p
 replace hq:=hq () trivial
 refine zb.run hmix ziy [] 400 (T:=.ex (fun(x:PeA)=>eqL [(Deal.av d),AV.sl l.length 3 (perG l),AV.fn 164 [] [AV.ptr 0 0]] [(Deal.av (PeA.d x)),AV.sl (PeA.l x).length 3 (perG (PeA.l x)),AV.fn 164 [] [AV.ptr 0 0]]∧eqH [.box [AV.bool fl]] [.box [AV.bool (PeA.fl x)]]∧1=1∧PeA.ok x) fun n=>.all (fun(x:Unit)=>True) fun n_1=>.leaf (.ret [(Con.conD (Tm.qw (qg (PeA.d n) (PeA.fl n)) (PeA.d n) (PeA.l n))),.int .i64 (Tm.qL (qg (PeA.d n) (PeA.fl n)) (PeA.d n) (PeA.l n))] [.box [.str (Deal.long d),.str (Deal.short d),.str (Deal.ccy d),.str d.name,.str (Deal.zc d),.str (Deal.zf d)],.box [.bool (PeA.fl n)],.box (Con.zr (Tm.qw (qg (PeA.d n) (PeA.fl n)) (PeA.d n) (PeA.l n)))])) (by kernel_rfl) ?_
 simp only [Tree.holds,ze]
 refine⟨⟨d,l,fl⟩,⟨⟨⟨rfl,rfl,rfl,rfl,rfl,rfl,trivial⟩,⟨rfl,rfl,za _ _ _⟩,rfl,trivial⟩,by simp,trivial,hp⟩,⟨(),trivial⟩,fun _ _=> ?_⟩
 exact RetR.le0 hq (fun h=>by cases h) (LeA.refl _)
noncomputable def zo4:Nat→Option Ctr:=fun f=>if f=145 then some (ze3) else if f=116 then some (yi) else none
theorem Jg:∀ g c,zo4 g=some c→zd Tryz.prog g c:=okIf zio (okIf xv (zn))
def zlq:Ctr:=ctrP true (fun x:PeA=>[x.d.av,perS x.l]) (fun x=>x.ok) (fun x r=>r=if 40<x.l.length then 4 else Tm.qb (Tm.perE x.d x.l) x.l x.l.length) (fun _ (r:Int)=>(.int .i64 r,[]))
def SR1(l:List Per)(e:Int)(i:Nat):KV:=[(1,perS l),(5,.int .i64 e),(6,.int .i64 (i:Int)),(7,.undef),(18,.undef),(19,.undef),(50,.undef),(51,.undef),(52,.undef),(53,.undef),(54,.undef),(55,.undef),(56,.undef),(57,.undef),(58,.undef),(59,.undef),(60,.undef),(61,.undef),(62,.undef),(63,.undef),(64,.undef),(65,.undef)]
def SR2(l:List Per)(i:Nat):KV:=[(1,perS l),(5,.undef),(6,.undef),(7,.int .i64 (i:Int)),(18,.undef),(19,.undef),(50,.undef),(51,.undef),(52,.undef),(53,.undef),(54,.undef),(55,.undef),(56,.undef),(57,.undef),(58,.undef),(59,.undef),(60,.undef),(61,.undef),(62,.undef),(63,.undef),(64,.undef),(65,.undef)]
theorem zkq:zd Tryz.prog 161 zlq:=by
 refine zh (fn:=Tryz.f161) (c:=Tryz.f161.body.getD .skip) rfl rfl rfl fun p hp O w0 Q hq=> ?_
 obtain⟨d,l,fl⟩:=p
 obtain⟨hf,hl,hpt⟩:=hp
 simp only at hf hl hpt
 replace hq:=hq _ rfl
 simp only at hq
 refine zb.run hmix Jg [1,5,6,7,18,19,50,51,52,53,54,55,56,57,58,59,60,61,62,63,64,65] 400 (T:=.ite (decide ((40:Int)<l.length)) (.leaf (.ret [.int .i64 4] [.box [.str (Deal.long d),.str (Deal.short d),.str (Deal.ccy d),.str d.name,.str (Deal.zc d),.str (Deal.zf d)]])) (.ex (fun(x:Deal)=>eqL [(Deal.av d)] [(Deal.av x)]∧Tm.fits x) fun n=>.all (fun(r:Int)=>r=Tm.first (0:Int) [Deal.zc n,Deal.zf n]) fun n=>.leaf (.loop (Prod.fst (lps K161 0)) (Prod.snd (lps K161 0)) [(1,.sl l.length 3 (perG l)),(5,.int .i64 n),(6,.int .i64 0),(7,.undef),(18,.undef),(19,.undef),(50,.undef),(51,.undef),(52,.undef),(53,.undef),(54,.undef),(55,.undef),(56,.undef),(57,.undef),(58,.undef),(59,.undef),(60,.undef),(61,.undef),(62,.undef),(63,.undef),(64,.undef),(65,.undef)] [.box [.str (Deal.long d),.str (Deal.short d),.str (Deal.ccy d),.str d.name,.str (Deal.zc d),.str (Deal.zf d)]]))) (by kernel_rfl) ?_
 simp only [Tree.holds,ze]
 refine⟨fun h=> ?_,fun h=> ?_⟩
 ·have h:=of_decide_eq_true h
  rw [if_pos (by omega)] at hq
  exact RetR.scal hq rfl (by simp [resV])
 have h:=of_decide_eq_false h
 rw [if_neg (by omega)] at hq
 refine⟨d,⟨⟨⟨rfl,rfl,rfl,rfl,rfl,rfl,trivial⟩,trivial⟩,hf⟩,⟨_,rfl⟩,?_⟩
 rintro _ rfl
 unfold Tm.perE at hq
 obtain⟨e0,he0⟩:∃ e,Tm.first 0 [d.zc,d.zf]=e:=⟨_,rfl⟩
 rw [he0] at hq ⊢
 refine zb.loop (ι:={i:Nat // i≤l.length}) (fun i=>SR1 l (Tm.first e0 ((l.map Per.part).take i.1)) i.1) (fun i=>[.dead]) (fun i=>l.length - i.1) ⟨0,Nat.zero_le _⟩ 0 ?_ ?_ (by kernel_rfl)
 ·exact⟨by simp [SR1,perS,za,Tm.first],by simp,by kernel_rfl,Nat.zero_le _⟩
 ·rintro⟨i,hil⟩
  obtain⟨e',he'⟩:∃ e',Tm.first e0 ((l.map Per.part).take i)=e':=⟨_,rfl⟩
  simp only [he']
  refine zb.run hmix Jg [1,5,6,7,18,19,50,51,52,53,54,55,56,57,58,59,60,61,62,63,64,65] 400 (T:=.ite (bif decide ((↑i:Int)<l.length) then decide (e'=(0:Int)) else false) (.side ((0:Int)≤i∧(↑i:Int)<l.length) (.ex (fun(x:List UInt8)=>eqL [AV.str (Per.part (l.getD (↑i:Int).toNat Per.nil))] [AV.str x]∧x.length<1099511627776) fun n=>.all (fun(r:Int)=>r=errR n) fun n=>.side (inR .i64 ((↑i:Int)+(1:Int))) (.leaf (.back 0 [(1,.sl l.length 3 (perG l)),(5,.int .i64 n),(6,.int .i64 ((↑i:Int)+(1:Int))),(7,.undef),(18,.undef),(19,.undef),(50,.undef),(51,.undef),(52,.undef),(53,.undef),(54,.undef),(55,.undef),(56,.undef),(57,.undef),(58,.undef),(59,.undef),(60,.undef),(61,.undef),(62,.undef),(63,.undef),(64,.undef),(65,.undef)] [.dead])))) (.ite (!decide (e'=(0:Int))) (.leaf (.ret [.int .i64 e'] [.dead])) (.leaf (.loop (Prod.fst (lps (inside K161 0) 0)) (Prod.snd (lps (inside K161 0) 0)) [(1,.sl l.length 3 (perG l)),(5,.int .i64 e'),(6,.int .i64 i),(7,.int .i64 0),(18,.undef),(19,.undef),(50,.undef),(51,.undef),(52,.undef),(53,.undef),(54,.undef),(55,.undef),(56,.undef),(57,.undef),(58,.undef),(59,.undef),(60,.undef),(61,.undef),(62,.undef),(63,.undef),(64,.undef),(65,.undef)] [.dead])))) (by kernel_rfl) ?_
  simp only [Tree.holds,ze,inR,lo,hi,Int.toNat_natCast]
  refine⟨fun hc=> ?_,fun hc=>⟨fun hne=> ?_,fun hz=> ?_⟩⟩
  ·have hc2:i<l.length∧e'=0:=by
    simp only [Bool.cond_false_right,Bool.and_eq_true,decide_eq_true_eq] at hc
    exact⟨by omega,hc.2⟩
   obtain⟨hlt,hz⟩:=hc2
   have hpi:=hpt i hlt
   have ht:=Tm.xg (e:=e0) (l:=l.map Per.part) (i:=i) (by simpa using hlt)
   rw [he',if_pos hz] at ht
   have hg:(l.map Per.part).getD i []=(l.getD i Per.nil).part:=by simp [List.getD,hlt]
   rw [hg] at ht
   refine⟨by omega,fun _=>⟨(l.getD i Per.nil).part,⟨⟨rfl,trivial⟩,by omega⟩,⟨_,rfl⟩,?_⟩⟩
   rintro _ rfl
   refine⟨by omega,fun _=> ?_⟩
   rw [if_pos trivial]
   exact⟨⟨i+1,hlt⟩,by show l.length - (i+1)<l.length - i; omega,by show eqKV _ (SR1 l (Tm.first e0 ((l.map Per.part).take (i+1))) (i+1)); rw [ht]; simp [SR1,perS,za],by simp,by kernel_rfl,Nat.zero_le _⟩
  ·have hne:¬ e'=0:=by simpa using hne
   have hfin:Tm.first e0 (l.map Per.part)=e':=by rw [Tm.KF e0 _ i,he']; exact Tm.ZT hne _
   rw [hfin,Tm.zib hne] at hq
   exact RetR.scal hq rfl (by simp [resV])
  ·have hz:e'=0:=by simpa using hz
   have hge:i=l.length:=by
    simp only [Bool.cond_false_right,Bool.and_eq_false_iff,decide_eq_false_iff_not] at hc
    omega
   subst hge
   have hw:(l.map Per.part).take l.length=l.map Per.part:=by rw [← List.length_map (f:=Per.part),List.take_length]
   rw [hw] at he'
   rw [he',hz] at hq
   clear he' hc
   refine zb.loop (ι:={i:Nat // i≤l.length∧Tm.badT l i=false}) (fun i=>SR2 l i.1) (fun i=>[]) (fun i=>l.length - i.1) ⟨0,Nat.zero_le _,rfl⟩ 0 ?_ ?_ (by kernel_rfl)
   ·exact⟨by simp [SR2,perS,za],by simp,by kernel_rfl,Nat.zero_le _⟩
   ·rintro⟨i,hil,hb⟩
    refine zb.run hmix Jg [1,5,6,7,18,19,50,51,52,53,54,55,56,57,58,59,60,61,62,63,64,65] 400 (T:=.ite (decide ((↑i:Int)<l.length)) (.side ((0:Int)≤i∧(↑i:Int)<l.length) (.side ((0:Int)≤i∧(↑i:Int)<l.length) (.side (decide (Per.pay (l.getD (↑i:Int).toNat Per.nil)<Per.fix (l.getD (↑i:Int).toNat Per.nil))=false∧decide ((0:Int)<i)=true→(0:Int)≤i∧(↑i:Int)<l.length) (.side (decide (Per.pay (l.getD (↑i:Int).toNat Per.nil)<Per.fix (l.getD (↑i:Int).toNat Per.nil))=false∧decide ((0:Int)<i)=true→inR .i64 ((↑i:Int) - (1:Int))) (.side (decide (Per.pay (l.getD (↑i:Int).toNat Per.nil)<Per.fix (l.getD (↑i:Int).toNat Per.nil))=false∧decide ((0:Int)<i)=true→(0:Int)≤i - (1:Int)∧(↑i:Int) - (1:Int)<l.length) (.ite (bif decide (Per.pay (l.getD (↑i:Int).toNat Per.nil)<Per.fix (l.getD (↑i:Int).toNat Per.nil)) then true else bif decide ((0:Int)<i) then decide (Per.pay (l.getD (↑i:Int).toNat Per.nil)≤Per.pay (l.getD (Int.toNat ((↑i:Int) - (1:Int))) Per.nil)) else false) (.leaf (.ret [.int .i64 40] [])) (.side (inR .i64 ((↑i:Int)+(1:Int))) (.leaf (.back 0 [(1,.sl l.length 3 (perG l)),(5,.undef),(6,.undef),(7,.int .i64 ((↑i:Int)+(1:Int))),(18,.undef),(19,.undef),(50,.undef),(51,.undef),(52,.undef),(53,.undef),(54,.undef),(55,.undef),(56,.undef),(57,.undef),(58,.undef),(59,.undef),(60,.undef),(61,.undef),(62,.undef),(63,.undef),(64,.undef),(65,.undef)] []))))))))) (.leaf (.ret [.int .i64 0] []))) (by kernel_rfl) ?_
    simp only [Tree.holds,ze,inR,lo,hi,Int.toNat_natCast]
    refine⟨fun hlt=> ?_,fun hge=> ?_⟩
    ·have hlt:i<l.length:=by have:=of_decide_eq_true hlt; omega
     have hs:=Tm.V5 l i
     rw [hb,Bool.false_or] at hs
     have hk:((i:Int) - 1).toNat=i - 1:=by omega
     rw [hk]
     have key:(bif decide ((l.getD i Per.nil).pay<(l.getD i Per.nil).fix) then true else bif decide (0<(i:Int)) then decide ((l.getD i Per.nil).pay≤(l.getD (i - 1) Per.nil).pay) else false)=Tm.badT l (i+1):=by
      rw [hs]
      have:decide (0<(i:Int))=decide (0<i):=by rw [decide_eq_decide]; omega
      rw [this]
      cases decide ((l.getD i Per.nil).pay<(l.getD i Per.nil).fix)<;>cases decide (0<i)<;>rfl
     rw [key]
     refine⟨by omega,fun _=>⟨by omega,fun _=>⟨fun _=>by omega,fun _=>⟨fun _=>by omega,fun _=>⟨fun⟨_,h2⟩=>by have:=of_decide_eq_true h2; omega,fun _=>⟨fun h3=> ?_,fun h3=>⟨by omega,fun _=> ?_⟩⟩⟩⟩⟩⟩⟩
     ·have h4:Tm.badT l l.length=true:=Tm.zj6 hlt h3
      unfold Tm.qb at hq
      rw [if_pos rfl,if_pos h4] at hq
      exact RetR.scal hq rfl (by simp [resV])
     ·rw [if_pos trivial]
      exact⟨⟨i+1,hlt,h3⟩,by show l.length - (i+1)<l.length - i; omega,by simp [SR2,perS,za],by simp,by kernel_rfl,Nat.zero_le _⟩
    ·have hge:i=l.length:=by have:=of_decide_eq_false hge; omega
     subst hge
     unfold Tm.qb at hq
     rw [if_pos rfl,if_neg (by rw [hb]; decide)] at hq
     exact RetR.scal hq rfl (by simp [resV])
theorem Y9:zd Tryz.prog 155 allS:=zd.sink (c:=J8) zfw
def zll:Ctr:={ zlk with sinks:=true }
theorem zha:zd Tryz.prog 163 zll:=zkl.sink
noncomputable def GRsw:Nat→Option Ctr:=fun f=>if f=161 then some (zlq) else if f=162 then some (zhj) else if f=151 then some (konC) else if f=147 then some (ronC) else if f=148 then some (zii) else if f=149 then some (YO) else if f=163 then some (zll) else if f=165 then some (zac) else if f=146 then some (Ye) else if f=155 then some (allS) else none
theorem Ql:∀ g c,GRsw g=some c→zd Tryz.prog g c:=okIf zkq (okIf ze8 (okIf za2 (okIf zm3 (okIf zfv (okIf Xy (okIf zha (okIf zbu (okIf KJ (okIf Y9 (zn))))))))))
theorem Zp{n:Nat}{g:Nat→Nat→AV}{l:List Con}{e:Con}(hn:n=l.length)(hg:eqG n 12 g (Con.conG l)):eqG (n+1) 12 (appG n g (zj (zi 12 e.zr) 0)) (Con.conG (l++[e])):=by
 intro j o hj ho
 unfold appG
 by_cases h:j<n
 ·rw [if_pos h,hg j o h ho]
  have:j<l.length:=by omega
  simp [Con.conG,List.getD,List.getElem?_append,this]
 ·rw [if_neg h]
  have hj2:j=l.length:=by omega
  subst hj2
  subst hn
  have:=Con.zaq e 0 o (by decide) ho
  rw [Nat.sub_self,this]
  simp [Con.conG,List.getD,List.getElem?_append]
def SRsw(l:List Per)(n i:Nat):KV:=[(1,perS l),(2,.ptr 0 0),(4,.ptr 1 0),(7,.osl 2 12 0 n),(8,.int .i64 (i:Int))]
def HRsw(d:Deal)(acc:List Con):Heap:=[dbox d,.box (List.replicate 12 .undef),.arr acc.length 12 (Con.conG acc)]
theorem zim:zd Tryz.prog 67 zb0:=by
 refine zh (fn:=Tryz.f67) (c:=Tryz.f67.body.getD .skip) rfl rfl rfl fun p hp O w0 Q hq=> ?_
 obtain⟨d,l,fl⟩:=p
 have hpo:=hp
 obtain⟨hf,hl,hpt⟩:=hp
 replace hq:=hq () trivial
 simp only at hf hl hpt hq
 refine zb.run hmix Ql [1,2,4,7,8] 400 (T:=.ex (fun(x:PeA)=>eqL [(Deal.av d),AV.sl l.length 3 (perG l)] [(Deal.av (PeA.d x)),AV.sl (PeA.l x).length 3 (perG (PeA.l x))]∧PeA.ok x) fun n=>.all (fun(r:Int)=>r=if 40<List.length (PeA.l n) then(4:Int) else Tm.qb (Tm.perE (PeA.d n) (PeA.l n)) (PeA.l n) (PeA.l n).length) fun n=>.ite (!decide (n=0)) (.leaf (.ret [.agg [.int .u8 0,.str #[].toList,.str #[].toList,.str #[].toList,.int .u8 0,.str #[].toList,.str #[].toList,.int .i64 0,.nils,.int .i64 0,.nils,.nils],.int .i64 n] [.box [.str (Deal.long d),.str (Deal.short d),.str (Deal.ccy d),.str d.name,.str (Deal.zc d),.str (Deal.zf d)],.box [.int .u8 0,.str #[].toList,.str #[].toList,.str #[].toList,.int .u8 0,.str #[].toList,.str #[].toList,.int .i64 0,.nils,.int .i64 0,.nils,.nils]])) (.leaf (.loop (Prod.fst (lps K67 0)) (Prod.snd (lps K67 0)) [(1,.sl l.length 3 (perG l)),(2,.ptr 0 0),(4,.ptr 1 0),(7,.nils),(8,.int .i64 0)] [.box [.str (Deal.long d),.str (Deal.short d),.str (Deal.ccy d),.str d.name,.str (Deal.zc d),.str (Deal.zf d)],.box [.int .u8 0,.str #[].toList,.str #[].toList,.str #[].toList,.int .u8 0,.str #[].toList,.str #[].toList,.int .i64 0,.nils,.int .i64 0,.nils,.nils]]))) (by kernel_rfl) ?_
 simp only [Tree.holds,ze]
 refine⟨⟨d,l,fl⟩,⟨⟨⟨rfl,rfl,rfl,rfl,rfl,rfl,trivial⟩,⟨rfl,rfl,za _ _ _⟩,trivial⟩,hpo⟩,⟨_,rfl⟩,?_⟩
 intro n hn
 simp only at hn
 refine⟨fun h=> ?_,fun h=> ?_⟩
 ·obtain⟨a1,a2⟩:=Tm.V7 (fun s p h=>Tm.yS h) hn (by simpa using h)
  rw [a1,a2] at hq
  exact RetR.out0 hq (fun h=>by cases h) zero_eq
 have hz:n=0:=by simpa using h
 rw [hz] at hn
 clear h hz
 refine zb.bear 7 12 (Con.conG []) rfl (by decide) (by kernel_rfl) ?_
 refine zb.loop (ι:={i:Nat // i≤l.length∧(Tm.zz (Tm.legS d) 0 l i).e=0}) (fun i=>SRsw l (Tm.zz (Tm.legS d) 0 l i.1).acc.length i.1) (fun i=>HRsw d (Tm.zz (Tm.legS d) 0 l i.1).acc) (fun i=>l.length - i.1) ⟨0,Nat.zero_le _,rfl⟩ 0 ?_ ?_ (by kernel_rfl)
 ·exact⟨by simp [SRsw,wW,perS,za,Tm.zz],by simp [HRsw,dbox,List.replicate,Tm.zz,za],by kernel_rfl,Nat.zero_le _⟩
 ·rintro⟨i,hil,hei⟩
  have hsz:=Tm.kf (f:=Tm.legS d) (fun s p=>Tm.Zo hf s p) 0 l i hl
  obtain⟨acc,hacc⟩:∃ a,(Tm.zz (Tm.legS d) 0 l i).acc=a:=⟨_,rfl⟩
  rw [hacc] at hsz
  simp only [hacc]
  refine zb.run hmix Ql [1,2,4,7,8] 400 (T:=.ite (decide ((↑i:Int)<l.length)) (.side ((0:Int)≤i∧(↑i:Int)<l.length) (.ex (fun(x:List UInt8×List UInt8)=>eqL [AV.str (Per.part (l.getD (↑i:Int).toNat Per.nil)),AV.str (Deal.zf d)] [AV.str x.1,AV.str x.2]∧x.1.length<549755813888∧x.2.length<549755813888) fun n=>.all (fun(r:List UInt8×Int)=>r=mulR n.1 n.2) fun n=>.ite (!decide (n.2=0)) (.leaf (.ret [.agg [.int .u8 0,.str #[].toList,.str #[].toList,.str #[].toList,.int .u8 0,.str #[].toList,.str #[].toList,.int .i64 0,.nils,.int .i64 0,.nils,.nils],.int .i64 n.2] [.box [.str (Deal.long d),.str (Deal.short d),.str (Deal.ccy d),.str d.name,.str (Deal.zc d),.str (Deal.zf d)],.box [.int .u8 0,.str #[].toList,.str #[].toList,.str #[].toList,.int .u8 0,.str #[].toList,.str #[].toList,.int .i64 0,.nils,.int .i64 0,.nils,.nils],.arr acc.length 12 (Con.conG acc)])) (.ex (fun(x:List UInt8×List UInt8)=>eqL [AV.str (Deal.zc d),AV.str n.1] [AV.str x.1,AV.str x.2]∧x.1.length<549755813888∧x.2.length<549755813888) fun n_1=>.all (fun(r:List UInt8×Int)=>r=mulR n_1.1 n_1.2) fun n_2=>.ite (!decide (n_2.2=0)) (.leaf (.ret [.agg [.int .u8 0,.str #[].toList,.str #[].toList,.str #[].toList,.int .u8 0,.str #[].toList,.str #[].toList,.int .i64 0,.nils,.int .i64 0,.nils,.nils],.int .i64 n_2.2] [.box [.str (Deal.long d),.str (Deal.short d),.str (Deal.ccy d),.str d.name,.str (Deal.zc d),.str (Deal.zf d)],.box [.int .u8 0,.str #[].toList,.str #[].toList,.str #[].toList,.int .u8 0,.str #[].toList,.str #[].toList,.int .i64 0,.nils,.int .i64 0,.nils,.nils],.arr acc.length 12 (Con.conG acc)])) (.side ((0:Int)≤i∧(↑i:Int)<l.length) (.ex (fun(x:List UInt8)=>eqL [AV.str n_2.1] [AV.str x]∧True) fun n_3=>.all (fun(x:Unit)=>True) fun n_4=>.ex (fun(x:Int×Con)=>eqL [AV.int .i64 (Per.pay (l.getD (↑i:Int).toNat Per.nil)),AV.agg [AV.int .u8 2,AV.str (Deal.long d),AV.str (Deal.short d),AV.str (Deal.ccy d),AV.int .u8 (Ex.kind (Tm.kon n_3)),AV.str (Ex.rat (Tm.kon n_3)),AV.str (Ex.name (Tm.kon n_3)),AV.int .i64 (Ex.date (Tm.kon n_3)),AV.sl (List.length (Ex.sub (Tm.kon n_3))) 5 (Ex.deep (Tm.kon n_3)),AV.int .i64 0,AV.nils,AV.nils]] [AV.int .i64 x.1,(Con.conA x.2)]∧True) fun n_5=>.all (fun(x:Unit)=>True) fun n_6=>.side (0=0∧acc.length≤acc.length∧(acc.length+1)*184≤140737488355328) (.side ((0:Int)≤i∧(↑i:Int)<l.length) (.side ((0:Int)≤i∧(↑i:Int)<l.length) (.ex (fun(x:List UInt8×Int)=>eqL [AV.str d.name,AV.int .i64 (Per.fix (l.getD (↑i:Int).toNat Per.nil))] [AV.str x.1,AV.int .i64 x.2]∧True) fun n_7=>.all (fun(x:Unit)=>True) fun n_8=>.ex (fun(x:List UInt8)=>eqL [AV.str n.1] [AV.str x]∧True) fun n=>.all (fun(x:Unit)=>True) fun n_9=>.ex (fun(x:Int×Ex×Ex)=>eqL [AV.int .u8 6,(exD (Tm.fixg n_7.1 n_7.2)),(exD (Tm.kon n))] [AV.int .u8 x.1,x.2.1.exA,x.2.2.exA]∧True) fun n=>.all (fun(x:Unit)=>True) fun n_10=>.ex (fun(x:Deal×Ex)=>eqL [(Deal.av d),(exD (Tm.opx n.1 [n.2.1,n.2.2]))] [(Deal.av x.1),x.2.exA]∧True) fun n=>.all (fun(x:Unit)=>True) fun n_11=>.ex (fun(x:Int×Con)=>eqL [AV.int .i64 (Per.pay (l.getD (↑i:Int).toNat Per.nil)),(Con.conD (Con.mk (2:Int) (Deal.short n.1) (Deal.long n.1) (Deal.ccy n.1) n.2 (0:Int) [] []))] [AV.int .i64 x.1,(Con.conA x.2)]∧True) fun n=>.all (fun(x:Unit)=>True) fun n_12=>.side (0=0∧acc.length+1≤acc.length+1∧(acc.length+1+1)*184≤140737488355328) (.side (inR .i64 ((↑i:Int)+(1:Int))) (.leaf (.back 0 [(1,.sl l.length 3 (perG l)),(2,.ptr 0 0),(4,.ptr 1 0),(7,.osl 2 12 0 (acc.length+1+1)),(8,.int .i64 ((↑i:Int)+(1:Int)))] [.box [.str (Deal.long d),.str (Deal.short d),.str (Deal.ccy d),.str d.name,.str (Deal.zc d),.str (Deal.zf d)],.box [.undef,.undef,.undef,.undef,.undef,.undef,.undef,.undef,.undef,.undef,.undef,.undef],.arr (acc.length+1+1) 12 (appG (acc.length+1) (appG acc.length (Con.conG acc) (zj (zi 12 (Con.zr (Tm.at_ n_5.1 n_5.2))) 0)) (zj (zi 12 (Con.zr (Tm.at_ n.1 n.2))) 0)),.arr 1 12 (zi 12 (Con.zr (Tm.at_ n_5.1 n_5.2))),.arr 1 12 (zi 12 (Con.zr (Tm.at_ n.1 n.2)))]))))))))))) (.ex (fun(x:List Con)=>eqL [AV.sl acc.length 12 (zj (Con.conG acc) 0)] [AV.sl x.length 12 (Con.conG x)]∧x.length<1099511627776) fun n=>.all (fun(x:Unit)=>True) fun n_1=>.ex (fun(x:Con)=>eqL [(Con.conD (Tm.whole n))] [(Con.conA x)]∧Con.big x<1099511627776∧Con.nodes x≤1000000) fun n_2=>.all (fun(r:Int)=>r=Con.errC n_2) fun n_3=>.ite (!decide (n_3=0)) (.leaf (.ret [.agg [.int .u8 0,.str #[].toList,.str #[].toList,.str #[].toList,.int .u8 0,.str #[].toList,.str #[].toList,.int .i64 0,.nils,.int .i64 0,.nils,.nils],.int .i64 n_3] [.box [.str (Deal.long d),.str (Deal.short d),.str (Deal.ccy d),.str d.name,.str (Deal.zc d),.str (Deal.zf d)],.box [.int .u8 0,.str #[].toList,.str #[].toList,.str #[].toList,.int .u8 0,.str #[].toList,.str #[].toList,.int .i64 0,.nils,.int .i64 0,.nils,.nils],.dead,.box (Con.zr (Tm.whole n)),.box [.int .u8 0,.str #[].toList,.str #[].toList,.str #[].toList,.int .u8 0,.str #[].toList,.str #[].toList,.int .i64 0,.nils,.int .i64 0,.nils,.nils],.box [.int .u8 0,.str #[].toList,.str #[].toList,.str #[].toList,.int .u8 0,.str #[].toList,.str #[].toList,.int .i64 0,.nils,.int .i64 0,.nils,.nils]])) (.ex (fun(x:Con)=>eqL [(Con.conD (Tm.whole n))] [(Con.conA x)]∧Con.big x<274877906944) fun n_4=>.all (fun(x:Unit)=>True) fun n_5=>.leaf (.ret [(Con.conD n_4),.int .i64 0] [.box [.str (Deal.long d),.str (Deal.short d),.str (Deal.ccy d),.str d.name,.str (Deal.zc d),.str (Deal.zf d)],.box (Con.zr n_4),.dead,.box (Con.zr (Tm.whole n)),.box (Con.zr n_4),.box (Con.zr n_4)])))) (by kernel_rfl) ?_
  simp only [Tree.holds,ze,inR,lo,hi,Int.toNat_natCast]
  refine⟨fun hlt=> ?_,fun hge=> ?_⟩
  ·have hlt:i<l.length:=by have:=of_decide_eq_true hlt; omega
   have hpi:=hpt i hlt
   have h5:d.zc.length≤2500:=hf.2.2.2.2.1
   have h6:d.zf.length≤2500:=hf.2.2.2.2.2
   have hse:=Tm.kS (f:=Tm.legS d) (e:=0) hlt
   obtain⟨p,hp⟩:∃ p,l.getD i Per.nil=p:=⟨_,rfl⟩
   rw [hp] at hse hpi ⊢
   have hm:=Tm.zes (d:=d) (p:=p) hei
   have ha:=Tm.zfc (d:=d) (p:=p) hei
   rw [← hse] at hm ha
   have l1:=XN p.part d.zf
   obtain⟨q,hqq⟩:∃ q,mulR p.part d.zf=q:=⟨_,rfl⟩
   rw [hqq] at hm ha l1
   refine⟨by omega,fun _=>⟨(p.part,d.zf),⟨⟨rfl,rfl,trivial⟩,by show p.part.length<_; omega,by show d.zf.length<_; omega⟩,⟨_,rfl⟩,?_⟩⟩
   rintro _ rfl
   simp only [hqq]
   refine⟨fun h1=> ?_,fun h1=> ?_⟩
   ·have h1:¬ q.2=0:=by simpa using h1
    rw [if_neg h1] at hm
    obtain⟨a1,a2⟩:=Tm.Zi (fun s p h=>Tm.yS h) hn.symm (i:=i+1) (by rw [hm]; exact h1)
    rw [a1,a2,hm] at hq
    exact RetR.out0 hq (fun h=>by cases h) zero_eq
   have h1:q.2=0:=by simpa using h1
   rw [if_pos h1] at hm
   have ha:=ha h1
   obtain⟨k,hk⟩:∃ k,mulR d.zc q.1=k:=⟨_,rfl⟩
   rw [hk] at hm ha
   refine⟨(d.zc,q.1),⟨⟨rfl,rfl,trivial⟩,by show d.zc.length<_; omega,by show q.1.length<_; omega⟩,⟨_,rfl⟩,?_⟩
   rintro _ rfl
   simp only [hk]
   refine⟨fun h2=> ?_,fun h2=> ?_⟩
   ·have h2:¬ k.2=0:=by simpa using h2
    obtain⟨a1,a2⟩:=Tm.Zi (fun s p h=>Tm.yS h) hn.symm (i:=i+1) (by rw [hm]; exact h2)
    rw [a1,a2,hm] at hq
    exact RetR.out0 hq (fun h=>by cases h) zero_eq
   have h2:k.2=0:=by simpa using h2
   rw [h2] at hm
   refine⟨by omega,fun _=>⟨k.1,⟨⟨rfl,trivial⟩,trivial⟩,⟨(),trivial⟩,fun _ _=> ?_⟩⟩
   refine⟨(p.pay,.mk 2 d.long d.short d.ccy (Tm.kon k.1) 0 [] []),⟨⟨⟨rfl,rfl⟩,zbo _,trivial⟩,trivial⟩,⟨(),trivial⟩,fun _ _=> ?_⟩
   refine⟨⟨trivial,Nat.le_refl _,by omega⟩,fun _=>⟨by omega,fun _=>⟨by omega,fun _=> ?_⟩⟩⟩
   refine⟨(d.name,p.fix),⟨⟨rfl,⟨rfl,rfl⟩,trivial⟩,trivial⟩,⟨(),trivial⟩,fun _ _=> ?_⟩
   refine⟨q.1,⟨⟨rfl,trivial⟩,trivial⟩,⟨(),trivial⟩,fun _ _=> ?_⟩
   refine⟨(6,Tm.fixg d.name p.fix,Tm.kon q.1),⟨⟨⟨rfl,rfl⟩,qO _,qO _,trivial⟩,trivial⟩,⟨(),trivial⟩,fun _ _=> ?_⟩
   refine⟨(d,Tm.opx 6 [Tm.fixg d.name p.fix,Tm.kon q.1]),⟨⟨⟨rfl,rfl,rfl,rfl,rfl,rfl,trivial⟩,qO _,trivial⟩,trivial⟩,⟨(),trivial⟩,fun _ _=> ?_⟩
   refine⟨(p.pay,Tm.pay d (Tm.fixg d.name p.fix) q.1),⟨⟨⟨rfl,rfl⟩,zQ _,trivial⟩,trivial⟩,⟨(),trivial⟩,fun _ _=> ?_⟩
   refine⟨⟨trivial,Nat.le_refl _,by omega⟩,fun _=>⟨by omega,fun _=> ?_⟩⟩
   rw [if_pos trivial]
   rw [hacc] at ha
   refine⟨⟨i+1,hlt,hm⟩,by show l.length - (i+1)<l.length - i; omega,by show eqKV _ (SRsw l (Tm.zz (Tm.legS d) 0 l (i+1)).acc.length (i+1)); rw [ha]; simp [SRsw,perS,za],?_,by kernel_rfl,Nat.zero_le _⟩
   show eqH _ (HRsw d (Tm.zz (Tm.legS d) 0 l (i+1)).acc)
   rw [ha]
   refine⟨by simp [dbox],by simp [List.replicate],⟨by simp,rfl,?_⟩,trivial⟩
   have e2:∀ x y:Con,acc++[x,y]=(acc++[x])++[y]:=fun x y=>by simp
   rw [e2]
   exact Zp (by simp) (Zp rfl (za _ _ _))
  ·have hge:i=l.length:=by have:=of_decide_eq_false hge; omega
   subst hge
   obtain⟨a1,a2⟩:=Tm.Wt hn.symm hei
   rw [a1,a2,hacc] at hq
   have hw:=Tm.vZ acc
   obtain⟨c,hc⟩:∃ c,Tm.whole acc=c:=⟨_,rfl⟩
   rw [hc] at hq hw
   refine⟨acc,⟨⟨⟨rfl,rfl,w8 _ _ _⟩,trivial⟩,by omega⟩,⟨(),trivial⟩,fun _ _=> ?_⟩
   simp only [hc]
   refine⟨c,⟨⟨zQ c,trivial⟩,by omega,by omega⟩,⟨_,rfl⟩,?_⟩
   rintro _ rfl
   refine⟨fun h1=> ?_,fun h1=> ?_⟩
   ·rw [if_neg (by simpa using h1)] at hq
    exact RetR.out0 hq (fun h=>by cases h) zero_eq
   ·have h1:c.errC=0:=by simpa using h1
    rw [if_pos h1,h1] at hq
    refine⟨c,⟨⟨zQ c,trivial⟩,by omega⟩,⟨(),trivial⟩,fun _ _=> ?_⟩
    exact RetR.le0 hq (fun h=>by cases h) (LeA.refl _)
noncomputable def K69:List Go.Sx.Item:=[.code (Tryz.f69.body.getD .skip)]
def SRcp(l:List Per)(fl:Bool)(n i:Nat):KV:=[(1,perS l),(2,.bool fl),(3,.ptr 0 0),(6,.ptr 1 0),(9,.osl 2 12 0 n),(10,.int .i64 (i:Int))]
theorem zko:zd Tryz.prog 69 capC:=by
 refine zh (fn:=Tryz.f69) (c:=Tryz.f69.body.getD .skip) rfl rfl rfl fun p hp O w0 Q hq=> ?_
 obtain⟨d,l,fl⟩:=p
 have hpo:=hp
 obtain⟨hf,hl,hpt⟩:=hp
 replace hq:=hq () trivial
 simp only at hf hl hpt hq
 refine zb.run hmix Ql [1,2,3,6,9,10] 400 (T:=.ex (fun(x:PeA)=>eqL [(Deal.av d),AV.sl l.length 3 (perG l)] [(Deal.av (PeA.d x)),AV.sl (PeA.l x).length 3 (perG (PeA.l x))]∧PeA.ok x) fun n=>.all (fun(r:Int)=>r=if 40<List.length (PeA.l n) then(4:Int) else Tm.qb (Tm.perE (PeA.d n) (PeA.l n)) (PeA.l n) (PeA.l n).length) fun n=>.ite (!decide (n=0)) (.leaf (.ret [.agg [.int .u8 0,.str #[].toList,.str #[].toList,.str #[].toList,.int .u8 0,.str #[].toList,.str #[].toList,.int .i64 0,.nils,.int .i64 0,.nils,.nils],.int .i64 n] [.box [.str (Deal.long d),.str (Deal.short d),.str (Deal.ccy d),.str d.name,.str (Deal.zc d),.str (Deal.zf d)],.box [.int .u8 0,.str #[].toList,.str #[].toList,.str #[].toList,.int .u8 0,.str #[].toList,.str #[].toList,.int .i64 0,.nils,.int .i64 0,.nils,.nils]])) (.leaf (.loop (Prod.fst (lps K69 0)) (Prod.snd (lps K69 0)) [(1,.sl l.length 3 (perG l)),(2,.bool fl),(3,.ptr 0 0),(6,.ptr 1 0),(9,.nils),(10,.int .i64 0)] [.box [.str (Deal.long d),.str (Deal.short d),.str (Deal.ccy d),.str d.name,.str (Deal.zc d),.str (Deal.zf d)],.box [.int .u8 0,.str #[].toList,.str #[].toList,.str #[].toList,.int .u8 0,.str #[].toList,.str #[].toList,.int .i64 0,.nils,.int .i64 0,.nils,.nils]]))) (by kernel_rfl) ?_
 simp only [Tree.holds,ze]
 refine⟨⟨d,l,fl⟩,⟨⟨⟨rfl,rfl,rfl,rfl,rfl,rfl,trivial⟩,⟨rfl,rfl,za _ _ _⟩,trivial⟩,hpo⟩,⟨_,rfl⟩,?_⟩
 intro n hn
 simp only at hn
 refine⟨fun h=> ?_,fun h=> ?_⟩
 ·obtain⟨a1,a2⟩:=Tm.V7 (fun s p h=>Tm.Jp (fl:=fl) h) hn (by simpa using h)
  rw [a1,a2] at hq
  exact RetR.out0 hq (fun h=>by cases h) zero_eq
 have hz:n=0:=by simpa using h
 rw [hz] at hn
 clear h hz
 refine zb.bear 9 12 (Con.conG []) rfl (by decide) (by kernel_rfl) ?_
 refine zb.loop (ι:={i:Nat // i≤l.length∧(Tm.zz (Tm.legC d fl) 0 l i).e=0}) (fun i=>SRcp l fl (Tm.zz (Tm.legC d fl) 0 l i.1).acc.length i.1) (fun i=>HRsw d (Tm.zz (Tm.legC d fl) 0 l i.1).acc) (fun i=>l.length - i.1) ⟨0,Nat.zero_le _,rfl⟩ 0 ?_ ?_ (by kernel_rfl)
 ·exact⟨by simp [SRcp,wW,perS,za,Tm.zz],by simp [HRsw,dbox,List.replicate,Tm.zz,za],by kernel_rfl,Nat.zero_le _⟩
 ·rintro⟨i,hil,hei⟩
  have hsz:=Tm.kf (f:=Tm.legC d fl) (fun s p=>Tm.Zm hf s p) 0 l i hl
  obtain⟨acc,hacc⟩:∃ a,(Tm.zz (Tm.legC d fl) 0 l i).acc=a:=⟨_,rfl⟩
  rw [hacc] at hsz
  simp only [hacc]
  refine zb.run hmix Ql [1,2,3,6,9,10] 400 (T:=.ite (decide ((↑i:Int)<l.length)) (.side ((0:Int)≤i∧(↑i:Int)<l.length) (.ex (fun(x:List UInt8×List UInt8)=>eqL [AV.str (Per.part (l.getD (↑i:Int).toNat Per.nil)),AV.str (Deal.zf d)] [AV.str x.1,AV.str x.2]∧x.1.length<549755813888∧x.2.length<549755813888) fun n=>.all (fun(r:List UInt8×Int)=>r=mulR n.1 n.2) fun n=>.ite (!decide (n.2=0)) (.leaf (.ret [.agg [.int .u8 0,.str #[].toList,.str #[].toList,.str #[].toList,.int .u8 0,.str #[].toList,.str #[].toList,.int .i64 0,.nils,.int .i64 0,.nils,.nils],.int .i64 n.2] [.box [.str (Deal.long d),.str (Deal.short d),.str (Deal.ccy d),.str d.name,.str (Deal.zc d),.str (Deal.zf d)],.box [.int .u8 0,.str #[].toList,.str #[].toList,.str #[].toList,.int .u8 0,.str #[].toList,.str #[].toList,.int .i64 0,.nils,.int .i64 0,.nils,.nils],.arr acc.length 12 (Con.conG acc)])) (.side ((0:Int)≤i∧(↑i:Int)<l.length) (.side ((0:Int)≤i∧(↑i:Int)<l.length) (.ex (fun(x:List UInt8×Int)=>eqL [AV.str d.name,AV.int .i64 (Per.fix (l.getD (↑i:Int).toNat Per.nil))] [AV.str x.1,AV.int .i64 x.2]∧True) fun n_1=>.all (fun(x:Unit)=>True) fun n_2=>.ex (fun(x:List UInt8)=>eqL [AV.str (Deal.zc d)] [AV.str x]∧True) fun n_3=>.all (fun(x:Unit)=>True) fun n_4=>.ex (fun(x:Ex×Ex×Bool)=>eqL [(exD (Tm.fixg n_1.1 n_1.2)),(exD (Tm.kon n_3)),AV.bool fl] [x.1.exA,x.2.1.exA,AV.bool x.2.2]∧True) fun n_5=>.all (fun(x:Unit)=>True) fun n_6=>.ex (fun(x:List UInt8)=>eqL [AV.str n.1] [AV.str x]∧True) fun n=>.all (fun(x:Unit)=>True) fun n_7=>.ex (fun(x:Int×Ex×Ex)=>eqL [AV.int .u8 6,(exD (zeh n_5.1 n_5.2.1 n_5.2.2)),(exD (Tm.kon n))] [AV.int .u8 x.1,x.2.1.exA,x.2.2.exA]∧True) fun n=>.all (fun(x:Unit)=>True) fun n_8=>.ex (fun(x:Deal×Ex)=>eqL [(Deal.av d),(exD (Tm.opx n.1 [n.2.1,n.2.2]))] [(Deal.av x.1),x.2.exA]∧True) fun n=>.all (fun(x:Unit)=>True) fun n_9=>.ex (fun(x:Int×Con)=>eqL [AV.int .i64 (Per.pay (l.getD (↑i:Int).toNat Per.nil)),(Con.conD (Con.mk (2:Int) (Deal.short n.1) (Deal.long n.1) (Deal.ccy n.1) n.2 (0:Int) [] []))] [AV.int .i64 x.1,(Con.conA x.2)]∧True) fun n=>.all (fun(x:Unit)=>True) fun n_10=>.side (0=0∧acc.length≤acc.length∧(acc.length+1)*184≤140737488355328) (.side (inR .i64 ((↑i:Int)+(1:Int))) (.leaf (.back 0 [(1,.sl l.length 3 (perG l)),(2,.bool fl),(3,.ptr 0 0),(6,.ptr 1 0),(9,.osl 2 12 0 (acc.length+1)),(10,.int .i64 ((↑i:Int)+(1:Int)))] [.box [.str (Deal.long d),.str (Deal.short d),.str (Deal.ccy d),.str d.name,.str (Deal.zc d),.str (Deal.zf d)],.box [.undef,.undef,.undef,.undef,.undef,.undef,.undef,.undef,.undef,.undef,.undef,.undef],.arr (acc.length+1) 12 (appG acc.length (Con.conG acc) (zj (zi 12 (Con.zr (Tm.at_ n.1 n.2))) 0)),.arr 1 12 (zi 12 (Con.zr (Tm.at_ n.1 n.2)))])))))))) (.ex (fun(x:List Con)=>eqL [AV.sl acc.length 12 (zj (Con.conG acc) 0)] [AV.sl x.length 12 (Con.conG x)]∧x.length<1099511627776) fun n=>.all (fun(x:Unit)=>True) fun n_1=>.ex (fun(x:Con)=>eqL [(Con.conD (Tm.whole n))] [(Con.conA x)]∧Con.big x<1099511627776∧Con.nodes x≤1000000) fun n_2=>.all (fun(r:Int)=>r=Con.errC n_2) fun n_3=>.ite (!decide (n_3=0)) (.leaf (.ret [.agg [.int .u8 0,.str #[].toList,.str #[].toList,.str #[].toList,.int .u8 0,.str #[].toList,.str #[].toList,.int .i64 0,.nils,.int .i64 0,.nils,.nils],.int .i64 n_3] [.box [.str (Deal.long d),.str (Deal.short d),.str (Deal.ccy d),.str d.name,.str (Deal.zc d),.str (Deal.zf d)],.box [.int .u8 0,.str #[].toList,.str #[].toList,.str #[].toList,.int .u8 0,.str #[].toList,.str #[].toList,.int .i64 0,.nils,.int .i64 0,.nils,.nils],.dead,.box (Con.zr (Tm.whole n)),.box [.int .u8 0,.str #[].toList,.str #[].toList,.str #[].toList,.int .u8 0,.str #[].toList,.str #[].toList,.int .i64 0,.nils,.int .i64 0,.nils,.nils],.box [.int .u8 0,.str #[].toList,.str #[].toList,.str #[].toList,.int .u8 0,.str #[].toList,.str #[].toList,.int .i64 0,.nils,.int .i64 0,.nils,.nils]])) (.ex (fun(x:Con)=>eqL [(Con.conD (Tm.whole n))] [(Con.conA x)]∧Con.big x<274877906944) fun n_4=>.all (fun(x:Unit)=>True) fun n_5=>.leaf (.ret [(Con.conD n_4),.int .i64 0] [.box [.str (Deal.long d),.str (Deal.short d),.str (Deal.ccy d),.str d.name,.str (Deal.zc d),.str (Deal.zf d)],.box (Con.zr n_4),.dead,.box (Con.zr (Tm.whole n)),.box (Con.zr n_4),.box (Con.zr n_4)])))) (by kernel_rfl) ?_
  simp only [Tree.holds,ze,inR,lo,hi,Int.toNat_natCast]
  refine⟨fun hlt=> ?_,fun hge=> ?_⟩
  ·have hlt:i<l.length:=by have:=of_decide_eq_true hlt; omega
   have hpi:=hpt i hlt
   have h5:d.zc.length≤2500:=hf.2.2.2.2.1
   have h6:d.zf.length≤2500:=hf.2.2.2.2.2
   have hse:=Tm.kS (f:=Tm.legC d fl) (e:=0) hlt
   obtain⟨p,hp⟩:∃ p,l.getD i Per.nil=p:=⟨_,rfl⟩
   rw [hp] at hse hpi ⊢
   have hm:=Tm.zg0 (d:=d) (fl:=fl) (p:=p) hei
   have ha:=Tm.zek (d:=d) (fl:=fl) (p:=p) hei
   rw [← hse] at hm ha
   obtain⟨q,hqq⟩:∃ q,mulR p.part d.zf=q:=⟨_,rfl⟩
   rw [hqq] at hm ha
   refine⟨by omega,fun _=>⟨(p.part,d.zf),⟨⟨rfl,rfl,trivial⟩,by show p.part.length<_; omega,by show d.zf.length<_; omega⟩,⟨_,rfl⟩,?_⟩⟩
   rintro _ rfl
   simp only [hqq]
   refine⟨fun h1=> ?_,fun h1=> ?_⟩
   ·have h1:¬ q.2=0:=by simpa using h1
    obtain⟨a1,a2⟩:=Tm.Zi (fun s p h=>Tm.Jp (fl:=fl) h) hn.symm (i:=i+1) (by rw [hm]; exact h1)
    rw [a1,a2,hm] at hq
    exact RetR.out0 hq (fun h=>by cases h) zero_eq
   have h1:q.2=0:=by simpa using h1
   rw [h1] at hm
   refine⟨by omega,fun _=>⟨by omega,fun _=> ?_⟩⟩
   refine⟨(d.name,p.fix),⟨⟨rfl,⟨rfl,rfl⟩,trivial⟩,trivial⟩,⟨(),trivial⟩,fun _ _=> ?_⟩
   refine⟨d.zc,⟨⟨rfl,trivial⟩,trivial⟩,⟨(),trivial⟩,fun _ _=> ?_⟩
   refine⟨(Tm.fixg d.name p.fix,Tm.kon d.zc,fl),⟨⟨qO _,qO _,rfl,trivial⟩,trivial⟩,⟨(),trivial⟩,fun _ _=> ?_⟩
   refine⟨q.1,⟨⟨rfl,trivial⟩,trivial⟩,⟨(),trivial⟩,fun _ _=> ?_⟩
   refine⟨(6,Tm.over d.zc (Tm.fixg d.name p.fix) fl,Tm.kon q.1),⟨⟨⟨rfl,rfl⟩,qO _,qO _,trivial⟩,trivial⟩,⟨(),trivial⟩,fun _ _=> ?_⟩
   refine⟨(d,Tm.opx 6 [Tm.over d.zc (Tm.fixg d.name p.fix) fl,Tm.kon q.1]),⟨⟨⟨rfl,rfl,rfl,rfl,rfl,rfl,trivial⟩,qO _,trivial⟩,trivial⟩,⟨(),trivial⟩,fun _ _=> ?_⟩
   refine⟨(p.pay,Tm.pay d (Tm.over d.zc (Tm.fixg d.name p.fix) fl) q.1),⟨⟨⟨rfl,rfl⟩,zQ _,trivial⟩,trivial⟩,⟨(),trivial⟩,fun _ _=> ?_⟩
   refine⟨⟨trivial,Nat.le_refl _,by omega⟩,fun _=>⟨by omega,fun _=> ?_⟩⟩
   rw [if_pos trivial]
   rw [hacc] at ha
   refine⟨⟨i+1,hlt,hm⟩,by show l.length - (i+1)<l.length - i; omega,by show eqKV _ (SRcp l fl (Tm.zz (Tm.legC d fl) 0 l (i+1)).acc.length (i+1)); rw [ha]; simp [SRcp,perS,za],?_,by kernel_rfl,Nat.zero_le _⟩
   show eqH _ (HRsw d (Tm.zz (Tm.legC d fl) 0 l (i+1)).acc)
   rw [ha]
   exact⟨by simp [dbox],by simp [List.replicate],⟨by simp,rfl,Zp rfl (za _ _ _)⟩,trivial⟩
  ·have hge:i=l.length:=by have:=of_decide_eq_false hge; omega
   subst hge
   obtain⟨a1,a2⟩:=Tm.Wt hn.symm hei
   rw [a1,a2,hacc] at hq
   have hw:=Tm.vZ acc
   obtain⟨c,hc⟩:∃ c,Tm.whole acc=c:=⟨_,rfl⟩
   rw [hc] at hq hw
   refine⟨acc,⟨⟨⟨rfl,rfl,w8 _ _ _⟩,trivial⟩,by omega⟩,⟨(),trivial⟩,fun _ _=> ?_⟩
   simp only [hc]
   refine⟨c,⟨⟨zQ c,trivial⟩,by omega,by omega⟩,⟨_,rfl⟩,?_⟩
   rintro _ rfl
   refine⟨fun h1=> ?_,fun h1=> ?_⟩
   ·rw [if_neg (by simpa using h1)] at hq
    exact RetR.out0 hq (fun h=>by cases h) zero_eq
   ·have h1:c.errC=0:=by simpa using h1
    rw [if_pos h1,h1] at hq
    refine⟨c,⟨⟨zQ c,trivial⟩,by omega⟩,⟨(),trivial⟩,fun _ _=> ?_⟩
    exact RetR.le0 hq (fun h=>by cases h) (LeA.refl _)
theorem Vo{f:Tm.Leg→Per→Tm.Leg}(hf:∀ s p,(f s p).acc.length≤s.acc.length+2∧Con.bigs (f s p).acc≤Con.bigs s.acc+30000∧Con.z6 (f s p).acc≤Con.z6 s.acc+4){d:Deal}{l:List Per}(hl:l.length≤60):(Tm.qw f d l).big<2^40:=by
 unfold Tm.qw
 split
 ·have h1:=Tm.kf hf (Tm.qb (Tm.perE d l) l l.length) l l.length hl
  have h2:=Tm.vZ (Tm.k8 f d l).acc
  unfold Tm.k8 at h2 ⊢
  omega
 ·have:=Tm.zhx; omega
noncomputable def GLl:Nat→Option Ctr:=fun f=>if f=54 then some (zl8) else if f=66 then some (zb0) else if f=68 then some (capC) else if f=67 then some (zb0) else if f=69 then some (capC) else if f=32 then some (Yv) else none
theorem znj:∀ g c,GLl g=some c→zd Tryz.prog g c:=okIf zk0 (okIf zkt (okIf zm0 (okIf zim (okIf zko (okIf zi5 (zn))))))
def znx:Ctr:=ctrP true (fun p:PeA=>[p.d.av,perS p.l,.bool p.fl]) (fun p=>p.l.length<2^45) (fun _ r=>r=true) (fun _ (r:Bool)=>(.bool r,[]))
theorem ze7:zd Tryz.prog 11 znx:=by
 refine zh (fn:=Tryz.f11) (c:=Tryz.f11.body.getD .skip) rfl rfl rfl fun p hp O w0 Q hq=> ?_
 obtain⟨d,l,fl⟩:=p
 replace hp:l.length<2^45:=hp
 replace hq:=hq true rfl
 refine zb.run hmix znj [] 400 (T:=.ex (fun(x:xC)=>eqL [(Deal.av d),AV.sl l.length 3 (perG l),AV.nils] [(Deal.av (xC.d x)),AV.sl (xC.l x).length 3 (perG (xC.l x)),AV.sl (xC.days x).length 1 (Con.dayG (xC.days x))]∧List.length (xC.l x)<1152921504606846976) fun n=>.all (fun(r:Bool)=>r=false→Tm.short (xC.d n) (xC.l n) (xC.days n)) fun n=>.ite n (.leaf (.ret [.bool true] [.box [.str (Deal.long d),.str (Deal.short d),.str (Deal.ccy d),.str d.name,.str (Deal.zc d),.str (Deal.zf d)]])) (.ex (fun(x:PeA)=>eqL [(Deal.av d),AV.sl l.length 3 (perG l)] [(Deal.av (PeA.d x)),AV.sl (PeA.l x).length 3 (perG (PeA.l x))]∧PeA.ok x) fun n=>.all (fun(x:Unit)=>True) fun n_1=>.ex (fun(x:PeA)=>eqL [(Deal.av d),AV.sl l.length 3 (perG l)] [(Deal.av (PeA.d x)),AV.sl (PeA.l x).length 3 (perG (PeA.l x))]∧PeA.ok x) fun n_2=>.all (fun(x:Unit)=>True) fun n_3=>.ex (fun(x:PeA)=>eqL [(Deal.av d),AV.sl l.length 3 (perG l),AV.bool fl] [(Deal.av (PeA.d x)),AV.sl (PeA.l x).length 3 (perG (PeA.l x)),AV.bool (PeA.fl x)]∧PeA.ok x) fun n_4=>.all (fun(x:Unit)=>True) fun n_5=>.ex (fun(x:PeA)=>eqL [(Deal.av d),AV.sl l.length 3 (perG l),AV.bool fl] [(Deal.av (PeA.d x)),AV.sl (PeA.l x).length 3 (perG (PeA.l x)),AV.bool (PeA.fl x)]∧PeA.ok x) fun n_6=>.all (fun(x:Unit)=>True) fun n_7=>.ex (fun(x:Con×Con)=>eqL [(Con.conD (Tm.qw (Tm.legS (PeA.d n)) (PeA.d n) (PeA.l n))),(Con.conD (Tm.qw (Tm.legS (PeA.d n_2)) (PeA.d n_2) (PeA.l n_2)))] [(Con.conA x.1),(Con.conA x.2)]∧Con.big x.1<1099511627776) fun n_8=>.all (fun(r:Bool)=>r=true↔n_8.1=n_8.2) fun n_9=>.ex (fun(x:Con×Con)=>(bif n_9 then decide (Tm.qL (Tm.legS (PeA.d n)) (PeA.d n) (PeA.l n)=Tm.qL (Tm.legS (PeA.d n_2)) (PeA.d n_2) (PeA.l n_2)) else false)=true→eqL [(Con.conD (Tm.qw (Tm.legC (PeA.d n_4) (PeA.fl n_4)) (PeA.d n_4) (PeA.l n_4))),(Con.conD (Tm.qw (Tm.legC (PeA.d n_6) (PeA.fl n_6)) (PeA.d n_6) (PeA.l n_6)))] [(Con.conA x.1),(Con.conA x.2)]∧Con.big x.1<1099511627776) fun n_10=>.all (fun(x:Bool)=>(bif n_9 then decide (Tm.qL (Tm.legS (PeA.d n)) (PeA.d n) (PeA.l n)=Tm.qL (Tm.legS (PeA.d n_2)) (PeA.d n_2) (PeA.l n_2)) else false)=true→(x=true↔n_10.1=n_10.2)) fun n_11=>.leaf (.ret [.bool (bif bif bif n_9 then decide (Tm.qL (Tm.legS (PeA.d n)) (PeA.d n) (PeA.l n)=Tm.qL (Tm.legS (PeA.d n_2)) (PeA.d n_2) (PeA.l n_2)) else false then n_11 else false then decide (Tm.qL (Tm.legC (PeA.d n_4) (PeA.fl n_4)) (PeA.d n_4) (PeA.l n_4)=Tm.qL (Tm.legC (PeA.d n_6) (PeA.fl n_6)) (PeA.d n_6) (PeA.l n_6)) else false)] [.box [.str (Deal.long d),.str (Deal.short d),.str (Deal.ccy d),.str d.name,.str (Deal.zc d),.str (Deal.zf d)],.box (Con.zr (Tm.qw (Tm.legS (PeA.d n)) (PeA.d n) (PeA.l n))),.box (Con.zr (Tm.qw (Tm.legS (PeA.d n_2)) (PeA.d n_2) (PeA.l n_2))),.box (Con.zr (Tm.qw (Tm.legC (PeA.d n_4) (PeA.fl n_4)) (PeA.d n_4) (PeA.l n_4))),.box (Con.zr (Tm.qw (Tm.legC (PeA.d n_6) (PeA.fl n_6)) (PeA.d n_6) (PeA.l n_6)))]))) (by kernel_rfl) ?_
 simp only [Tree.holds,ze]
 have e0:eqA d.av d.av:=⟨rfl,rfl,rfl,rfl,rfl,rfl,trivial⟩
 refine⟨⟨d,l,[]⟩,⟨⟨e0,⟨rfl,rfl,za _ _ _⟩,rfl,trivial⟩,by show l.length<2^60; omega⟩,⟨true,fun h=>by cases h⟩,fun b hb=>⟨fun _=>RetR.scal hq rfl (by simp [resV]),fun h=> ?_⟩⟩
 obtain⟨hf,hl,_,hpt⟩:=hb h
 have hok:PeA.ok ⟨d,l,fl⟩:=⟨hf,hl,hpt⟩
 have e1:eqA (.sl l.length 3 (perG l)) (perS l):=⟨rfl,rfl,za _ _ _⟩
 refine⟨⟨d,l,fl⟩,⟨⟨e0,e1,trivial⟩,hok⟩,⟨(),trivial⟩,fun _ _=> ?_⟩
 refine⟨⟨d,l,fl⟩,⟨⟨e0,e1,trivial⟩,hok⟩,⟨(),trivial⟩,fun _ _=> ?_⟩
 refine⟨⟨d,l,fl⟩,⟨⟨e0,e1,rfl,trivial⟩,hok⟩,⟨(),trivial⟩,fun _ _=> ?_⟩
 refine⟨⟨d,l,fl⟩,⟨⟨e0,e1,rfl,trivial⟩,hok⟩,⟨(),trivial⟩,fun _ _=> ?_⟩
 have b1:=Vo (f:=Tm.legS d) (fun s p=>Tm.Zo hf s p) hl (d:=d)
 have b2:=Vo (f:=Tm.legC d fl) (fun s p=>Tm.Zm hf s p) hl (d:=d)
 refine⟨(_,_),⟨⟨zQ (Tm.qw (Tm.legS d) d l),zQ (Tm.qw (Tm.legS d) d l),trivial⟩,b1⟩,⟨true,by simp⟩,fun r1 hr=> ?_⟩
 obtain rfl:r1=true:=hr.2 rfl
 refine⟨(_,_),fun _=>⟨⟨zQ (Tm.qw (Tm.legC d fl) d l),zQ (Tm.qw (Tm.legC d fl) d l),trivial⟩,b2⟩,⟨true,fun _=>by simp⟩,fun r2 hr=> ?_⟩
 obtain rfl:r2=true:=(hr (by simp)).2 rfl
 exact RetR.scal hq rfl (by simp [resV])
end Go.Proofs.Tryz
end
section
open Go Go.Sx Go.Proofs Go.Nov
namespace Go.Proofs.Tryz
end Go.Proofs.Tryz
end
section
namespace Go.Sx
variable [Stat]
open Go.RowKit (Below)
def E0:Nat→Prop:=Own (fun _=>False) []
theorem Yj(b:Nat):¬ E0 b:=by
 rintro(h | ⟨e,he,_⟩)
 ·exact h
 ·simp at he
def Tw(P:Program)(W:World)(t:TypeId)(cs:List Value):Prop:=∃ (H:Type) (enc:TypeId×Value→H) (base fuel:Nat) (d:DataW H) (ps:List MemPlace),DataW.trod enc P W base (fun _=>true) true fuel t cs=some (d,ps)∧∀ n∈d.weights P t,n≤reachBytes
section
variable {P:Program} {W:World} {t e:TypeId} {cs:List Value}
theorem yN(ht:P.underlying t=some .string)(h:Tw P W t cs):∃ s:List UInt8,cs=[.string ⟨s.toArray⟩]∧s.length≤reachBytes:=by
 obtain⟨H,enc,base,fuel,d,ps,h,hw⟩:=h
 obtain⟨s,rfl,hx,_⟩:=DataW.trod_string ht h
 cases hx
 exact⟨s.data.toList,by simp,hw _ (by simp [DataW.weights])⟩
theorem zhq{k:IntKind}(ht:P.underlying t=some (.int k))(h:Tw P W t cs):∃ n,cs=[.int k n]∧(Lit.int k n).wf=true:=by
 obtain⟨H,enc,base,fuel,d,ps,h,hw⟩:=h
 obtain⟨n,rfl,hx,hwf⟩:=DataW.trod_int ht h
 exact⟨n,rfl,hwf⟩
theorem zks(ht:P.underlying t=some .bool)(h:Tw P W t cs):∃ b,cs=[.bool b]:=by
 obtain⟨H,enc,base,fuel,d,ps,h,hw⟩:=h
 obtain⟨b,rfl,hx⟩:=DataW.trod_bool ht h
 exact⟨b,rfl⟩
theorem WO{fs:Array Field}(ht:P.underlying t=some (.struct fs))(h:Tw P W t cs):cs.length=P.cellsOf t∧∀ (i:Nat) (f:Field),fs[i]?=some f→Tw P W f.type ((cs.drop f.offset).take (P.cellsOf f.type)):=by
 obtain⟨H,enc,base,fuel,d,ps,h,hw⟩:=h
 obtain⟨xs,n,_,hx,hl,hlen,hf⟩:=DataW.trod_struct ht h
 cases hx
 refine⟨hl,fun i f hfi=> ?_⟩
 have hi:=hf i f hfi
 have hlt:i<xs.length:=by
  rw [hlen]; exact(Array.getElem?_eq_some_iff.1 hfi).1
 rw [List.getElem?_eq_getElem hlt] at hi
 refine⟨H,enc,base,n,xs[i].1,xs[i].2,hi,fun m hm=>hw m ?_⟩
 simp only [DataW.weights,ht]
 exact DataW.weights_mem_each (j:=i) (t:=f.type) (d:=xs[i].1) (by simp [hfi]) (by simp [hlt]) m hm
theorem xZ{H:Type}{d:DataW H} : ∀ {l:List (DataW H)},d∈l→∀ n∈d.weights P e,n∈DataW.weightsAll P e l
 | x::l,hd,n,hn=>by
  simp only [DataW.weightsAll,List.mem_append]
  rcases List.mem_cons.1 hd with rfl | hd
  ·exact .inl hn
  ·exact .inr (xZ hd n hn)
theorem zhb(ht:P.underlying t=some (.slice e))(h:Tw P W t cs):cs=[.slice none 0 0]∨∃ (a:Addr) (len cap:Nat),cs=[.slice (some a) len cap]∧len≤cap∧cap*P.bytesOf e≤reachBytes ∧
  ∀ i,i<len→∃ cs',cs'.length=P.cellsOf e∧(∀ o,o<P.cellsOf e→W.cell? ((a.add (i*P.cellsOf e)).add o)=cs'[o]?)∧Tw P W e cs':=by
 obtain⟨H,enc,base,fuel,d,ps,h,hw⟩:=h
 rcases DataW.trod_slice ht h with ⟨rfl,_⟩ | ⟨a,len,cap,elems,rest,n,_,rfl,hx,hb,hl,hm,hlen,hel,hsp,_⟩
 ·exact .inl rfl
 ·right
  cases hx
  obtain⟨hrl,_⟩:=hsp rfl
  simp only [DataW.weights,ht] at hw
  refine⟨a,len,cap,rfl,hl,?_,fun i hi=> ?_⟩
  ·have:=hw _ (List.mem_cons_self)
   simp only [List.length_map,hlen,hrl] at this
   rwa [show len+(cap - len)=cap by omega] at this
  ·have h1:=hel i hi
   have hlt:i<elems.length:=by rw [hlen]; exact hi
   rw [List.getElem?_eq_getElem hlt,Option.bind_eq_some_iff] at h1
   obtain⟨cs',h2,h3⟩:=h1
   obtain⟨_,h4,h5⟩:=World.cells?_some h2
   refine⟨cs',h4,h5,H,enc,base,n,elems[i].1,elems[i].2,h3,fun m hm2=>hw m ?_⟩
   simp only [List.mem_cons,List.mem_append]
   exact .inr (.inl (xZ (d:=elems[i].1) (List.mem_map.2 ⟨elems[i],List.getElem_mem hlt,rfl⟩) m hm2))
theorem zbw{α:Type}(z:α)(cell:α→Nat→AV)(good:α→Prop){sz:Nat}(ht:P.underlying t=some (.slice e))(hsz:P.cellsOf e=sz)(hpos:0<sz)
  (hel:∀ cs',Tw P W e cs'→∃ x:α,good x∧∀ o,o<sz→∃ c,cs'[o]?=some c∧c.oneCell'=true∧Rep E0 W (cell x o) [] c) (h:Tw P W t cs) :
  ∃ (l:List α) (v:Value),cs=[v]∧(∀ x∈l,good x)∧l.length*P.bytesOf e≤reachBytes∧v.oneCell'=true∧Rep E0 W (.sl l.length sz fun j=>cell (l.getD j z)) [] v:=by
 rcases zhb ht h with rfl | ⟨a,len,cap,rfl,hl,hw,hx⟩
 ·refine⟨[],_,rfl,by simp,by simp,rfl,?_⟩
  simp only [Rep]
  exact⟨none,0,rfl,Nat.le_refl _,.inl rfl⟩
 ·rw [hsz] at hx
  have hx2:∀ i,∃ x:α,i<len→good x∧∀ o,o<sz→∃ c,W.cell? ((a.add (i*sz)).add o)=some c∧c.oneCell'=true∧Rep E0 W (cell x o) [] c:=fun i=>by
   by_cases hi:i<len
   ·obtain⟨cs',h1,h2,h3⟩:=hx i hi
    obtain⟨x,hg,hc⟩:=hel cs' h3
    exact⟨x,fun _=>⟨hg,fun o ho=>by
     obtain⟨c,g1,g2,g3⟩:=hc o ho
     exact⟨c,by rw [h2 o ho,g1],g2,g3⟩⟩⟩
   ·exact⟨z,fun h=>absurd h hi⟩
  obtain⟨f,hf⟩:=Classical.axiomOfChoice hx2
  have hgd:∀ j,j<len→((List.range len).map f).getD j z=f j:=fun j hj=>by simp [List.getD,hj]
  refine⟨(List.range len).map f,_,rfl,fun x hxm=> ?_,?_,rfl,?_⟩
  ·obtain⟨i,hi,rfl⟩:=List.mem_map.1 hxm
   exact(hf i (List.mem_range.1 hi)).1
  ·simp only [List.length_map,List.length_range]
   exact Nat.le_trans (Nat.mul_le_mul_right _ hl) hw
  ·simp only [Rep,List.length_map,List.length_range]
   refine⟨some a,cap,rfl,hl,?_⟩
   rcases Nat.eq_zero_or_pos len with h0 | h0
   ·exact .inl h0
   ·right
    have hspot:a.spot=none:=by
     obtain⟨c,g1,_⟩:=(hf 0 h0).2 0 hpos
     have:=World.cell?_spot g1
     simpa [Addr.add] using this
    refine⟨a,rfl,hspot,fun j o hj ho=>⟨Yj _,?_⟩⟩
    obtain⟨c,g1,g2,g3⟩:=(hf j hj).2 o ho
    refine⟨c,?_,g2,by rw [hgd j hj]; exact g3⟩
    rw [← g1]
    obtain⟨b,off,spot⟩:=a
    simp only at hspot
    subst hspot
    congr 1
    simp only [Addr.add]
    split<;>split<;>simp_all<;>omega
theorem zdl{g:Nat}{fn:Func}{c:Code}(hf:P.funcs[g]?=some fn)(hb:fn.body=some c) (hn:(fn.name == "runtime.NumGoroutine")=false) {ctr:Ctr} (hok:zd P g ctr) {args:List AV} {vals:List Value}
  (hspec:(ctr.spec args []).holds fun r=>r=(.bool true,[])) (hr:RepL E0 W args [] vals) (hst:vY E0 W):Calls P g vals.toArray W fun e W'=>e = .returned (.bool true)∧Below W.heap.size W W':=by
 have hn':¬ fn.name = "runtime.NumGoroutine" :=by simpa using hn
 have hg:Good (fun _=>False) W []:=⟨fun b h=>h.elim,fun i e ad he=>by simp at he,hst⟩
 have hh:HRep (Own (fun _=>False) []) W [] []:=⟨rfl,fun i j e f a b he=>by simp at he,fun i e a he=>by simp at he,fun i e b he=>by simp at he⟩
 rcases hok args [] _ hspec (fun _=>rfl) (fun _=>False) W [] vals hg hh hr with ⟨_,h⟩ | ⟨v,w',h,_⟩
 ·refine h.mono ?_
  rintro e W' ⟨v,rfl,r,hs,σ',hq,h1,_,_,_,_,hx⟩
  cases hq
  simp only [Rep] at h1
  subst h1
  exact⟨rfl,hx.os,hx.tape,hx.output,hx.size,fun k hk=>hx.keep k hk fun⟨e,he,_⟩=>by simp at he⟩
 ·simp [callFunc,hf,hn',hb] at h
end
end Go.Sx
end
section
namespace Go.Sx
variable [Stat]
section
variable {P:Program} {W:World} {t e:TypeId} {cs:List Value}
theorem zfa{H:Type}{enc:TypeId×Value→H}{base:Nat}{sp:Nat→Bool}{held:Bool}{fuel:Nat}{kd:IntKind}{ps:List Int}{q:List MemPlace}(ht:P.underlying t=some (.slice e))(he:P.underlying e=some (.int kd))(hc:P.cellsOf e=1)(hne:ps≠[])
  (h:DataW.trod enc P W base sp held fuel t cs=some (.slice (ps.map fun z=>.lit (.int kd z)) [],q)):∃ c,cs=[c]∧c.oneCell'=true∧Rep E0 W (.sl ps.length 1 fun j _=>.int kd (ps.getD j 0)) [] c:=by
 obtain⟨a,cap,rfl,hl,hel⟩:=open_row ht hc h
 refine⟨_,rfl,rfl,?_⟩
 simp only [List.length_map] at hl
 have hv:∀ j,j<ps.length→W.cell? (a.add j)=some (.int kd (ps.getD j 0)):=fun j hj=>by
  obtain⟨v,n,q',h1,h2⟩:=hel j (.lit (.int kd (ps.getD j 0))) (by simp [List.getD,hj])
  obtain⟨m,h3,h4,_⟩:=DataW.trod_int he h2
  simp only [List.cons.injEq,and_true] at h3
  simp only [Prod.mk.injEq,DataW.lit.injEq,Lit.int.injEq,true_and] at h4
  rw [h1,h3,h4.1]
 simp only [Rep,List.length_map]
 refine⟨some a,cap,rfl,hl,.inr ⟨a,rfl,?_,fun j o hj ho=>⟨Yj _,.int kd (ps.getD j 0),?_,rfl,rfl⟩⟩⟩
 ·have:=World.cell?_spot (hv 0 (List.length_pos_iff.2 hne))
  simpa [Addr.add] using this
 ·have:o=0:=by omega
  subst this
  have hs:a.spot=none:=by
   have:=World.cell?_spot (hv 0 (List.length_pos_iff.2 hne))
   simpa [Addr.add] using this
  rw [← hv j hj]
  obtain⟨b,off,spot⟩:=a
  simp only at hs
  subst hs
  congr 1
  simp only [Addr.add]
  split<;>simp_all
end
section
open Go.WideElems Go.ChangeMaps
variable {H:Type} {enc:TypeId×Value→H} {P:Program} {W:World} {base:Nat} {sp:Nat→Bool} {held:Bool}
theorem QI{x:Lit×DataW H} : ∀ {l:List (Lit×DataW H)},x∈l.foldr DataW.insert []↔x∈l
 | []=>Iff.rfl
 | y::l=>by rw [List.foldr_cons,mem_insert_iff,QI,List.mem_cons]
theorem zax{g:Nat}{t k e:TypeId}{kd:IntKind}{ag:Bool}{sz:Nat}{ks:List Int}{has:Int→Bool}{get:Int→Nat→AV}{fuel:Nat}{c:Value}{es0:List (Lit×DataW H)}{q:List MemPlace}
  (hg:(Stat.z g).isSome=true) (ht:P.underlying t=some (.map k e)) (hk:P.underlying k=some (.int kd)) (hc:W.cell? ⟨g,0,none⟩=some c) (hne:es0≠[])
  (h:DataW.trod enc P W base sp held fuel t [c]=some (.map es0,q))
  (hin:∀ (n:Int) (d:DataW H),(.int kd n,d)∈es0→has n=true∧∀ (v:Value) (m:Nat) (q:List MemPlace),v.formed P e=true→DataW.trod enc P W base sp held m e v.cells.toList=some (d,q) →
   match ag with
   | true=>∃ vs:List Value,v = .agg vs.toArray∧vs.length=sz∧∀ o,o<sz→∃ c,vs[o]?=some c∧Rep E0 W (get n o) [] c
   | false=>Rep E0 W (get n 0) [] v)
  (hout:∀ n,has n=true→∃ d,(.int kd n,d)∈es0):Rep E0 W (.mp kd ag sz ks has get) [] c∧∀ b,c = .map (some b)→b<W.heap.size:=by
 rcases open_map ht h with ⟨_,hx⟩ | ⟨b,es,clock,n,_,hcs,hb,_,F,hx⟩
 ·simp at hx
 ·simp only [List.cons.injEq,and_true] at hcs
  subst hcs
  simp only [Prod.mk.injEq,DataW.map.injEq] at hx
  have hkey:∀ x∈es.toList,∃ (m:Int) (z:DataW H×List MemPlace),x.key = .int kd m∧elemAt enc P W base sp held n e x.val=some z∧(.int kd m,z.1)∈es0:=by
   intro x hxm
   obtain⟨y,hy⟩:=F.reads x hxm
   have h1:=rd_key hy
   obtain⟨z,h2,h3⟩:=rd_val hy
   have h4:y∈es0:=by rw [hx.1,QI]; exact List.mem_map.2 ⟨x,hxm,rg_of hy⟩
   have h5:mapKey P k x.key=some y.1:=by
    simp only [keyOf,hk] at h1
    exact h1
   unfold mapKey at h5
   rw [hk] at h5
   cases hxk:x.key with
   | int k' m=>
    rw [hxk] at h5
    simp only at h5
    split at h5
    ·rename_i hc2
     have h6:=Option.some.inj h5
     obtain⟨rfl,_⟩:=hc2
     refine⟨m,z,rfl,h2,?_⟩
     rw [h6,← h3]; exact h4
    ·cases h5
   | _=>rw [hxk] at h5; simp at h5
  have hlt:b<W.heap.size:=(Array.getElem?_eq_some_iff.1 hb).1
  refine⟨?_,fun b' hb'=>by cases hb'; exact hlt⟩
  simp only [Rep]
  refine⟨b,es,clock,rfl,Yj _,⟨g,Yj _,hg,hc⟩,hb,fun m=> ?_⟩
  have hspec:=MapKept.findNow_spec (d:=.int kd) (k:=.int kd m) (by simp [MapKept.IsKey]) es.toList 0 (fun x hxm=>by
   obtain⟨m',z,h1,_⟩:=hkey x hxm
   rw [h1]; simp [MapKept.IsKey])
  rcases hspec with ⟨h1,h2⟩ | ⟨j,x,h1,h2,h3⟩
  ·refine⟨fun _=>h1,fun hm=> ?_⟩
   obtain⟨d,hd⟩:=hout m hm
   rw [hx.1,QI] at hd
   obtain⟨x,hxm,hrx⟩:=List.mem_map.1 hd
   obtain⟨y,hy⟩:=F.reads x hxm
   rw [rg_of hy] at hrx
   have h5:=rd_key hy
   rw [hrx] at h5
   obtain⟨m',z,g1,_⟩:=hkey x hxm
   have:keyOf P k x.key=some (.int kd m'):=by
    rw [g1] at h5 ⊢
    simp only [keyOf,hk,mapKey] at h5 ⊢
    split at h5
    ·rename_i hwf; rw [if_pos hwf]
    ·cases h5
   rw [this] at h5
   cases h5
   exact absurd g1 (h2 x hxm)
  ·have hxm:x∈es.toList:=List.mem_of_getElem? h2
   obtain⟨m',z,g1,g2,g3⟩:=hkey x hxm
   rw [h3] at g1
   cases g1
   obtain⟨hh,hrep⟩:=hin m z.1 g3
   refine⟨fun hf=>(by rw [hf] at hh; cases hh),fun _=>⟨_,x.val,h1,?_⟩⟩
   unfold elemAt at g2
   split at g2
   ·rename_i hfm
    exact hrep x.val n z.2 hfm g2
   ·cases g2
end
end Go.Sx
end
section
set_option maxRecDepth 100000
namespace Go.Proofs.YtpmofcdjkhmdaaaGreatDoor
open Go Go.Sx Go.Nov Go.Proofs.Tryz Go.ChangeShapes Go.WideShapes Go.ChangeAt Go.RowKit
theorem y6:Tryz.prog.cellsOf 9=1:=by kernel_rfl
theorem Zv:Tryz.prog.cellsOf 22=1:=by kernel_rfl
theorem Vy:Tryz.prog.cellsOf 3=1:=by kernel_rfl
theorem zen{W:World}{cs:List Value}(h:Tw Tryz.prog W 4 cs):∃ b:Bool,cs=[.bool b]∧True∧Rep E0 W (.bool b) [] (.bool b):=by
 obtain⟨b,rfl⟩:=zks Tryz.underlying4 h
 exact⟨b,rfl,trivial,by simp [Rep]⟩
theorem U3:Tryz.prog.cellsOf 104=6:=by kernel_rfl
theorem ze0{W:World}{cs:List Value}(h:Tw Tryz.prog W 104 cs):∃ x:Deal,True∧Rep E0 W x.av [] (.agg cs.toArray):=by
 obtain⟨hl,hf⟩:=WO Tryz.underlying104 h
 rw [U3] at hl
 match cs,hl with
 | [a,b,c,d,e,f],_=>
  have h0:Tw Tryz.prog W 9 (([a,b,c,d,e,f].drop 0).take (Tryz.prog.cellsOf 9)):=hf 0 _ rfl
  rw [y6] at h0
  replace h0:Tw Tryz.prog W 9 [a]:=h0
  have h1:Tw Tryz.prog W 9 (([a,b,c,d,e,f].drop 1).take (Tryz.prog.cellsOf 9)):=hf 1 _ rfl
  rw [y6] at h1
  replace h1:Tw Tryz.prog W 9 [b]:=h1
  have h2:Tw Tryz.prog W 9 (([a,b,c,d,e,f].drop 2).take (Tryz.prog.cellsOf 9)):=hf 2 _ rfl
  rw [y6] at h2
  replace h2:Tw Tryz.prog W 9 [c]:=h2
  have h3:Tw Tryz.prog W 9 (([a,b,c,d,e,f].drop 3).take (Tryz.prog.cellsOf 9)):=hf 3 _ rfl
  rw [y6] at h3
  replace h3:Tw Tryz.prog W 9 [d]:=h3
  have h4:Tw Tryz.prog W 22 (([a,b,c,d,e,f].drop 4).take (Tryz.prog.cellsOf 22)):=hf 4 _ rfl
  rw [Zv] at h4
  replace h4:Tw Tryz.prog W 22 [e]:=h4
  have h5:Tw Tryz.prog W 22 (([a,b,c,d,e,f].drop 5).take (Tryz.prog.cellsOf 22)):=hf 5 _ rfl
  rw [Zv] at h5
  replace h5:Tw Tryz.prog W 22 [f]:=h5
  obtain⟨x0,y0,w0⟩:=yN Tryz.underlying9 h0
  obtain⟨x1,y1,w1⟩:=yN Tryz.underlying9 h1
  obtain⟨x2,y2,w2⟩:=yN Tryz.underlying9 h2
  obtain⟨x3,y3,w3⟩:=yN Tryz.underlying9 h3
  obtain⟨x4,y4,w4⟩:=yN Tryz.underlying22 h4
  obtain⟨x5,y5,w5⟩:=yN Tryz.underlying22 h5
  cases y0; cases y1; cases y2; cases y3; cases y4; cases y5
  refine⟨⟨x0,x1,x2,x3,x4,x5⟩,trivial,?_⟩
  simp only [RepL,Rep,Deal.av]
  exact⟨_,rfl,_,_,rfl,rfl,_,_,rfl,rfl,_,_,rfl,rfl,_,_,rfl,rfl,_,_,rfl,rfl,_,_,rfl,rfl,rfl⟩
theorem Vf:Tryz.prog.cellsOf 193=3:=by kernel_rfl
theorem zce{W:World}{cs:List Value}(h:Tw Tryz.prog W 193 cs):∃ x:Per,True∧cs=[.int .i64 x.fix,.int .i64 x.pay,.string ⟨x.part.toArray⟩]:=by
 obtain⟨hl,hf⟩:=WO Tryz.underlying193 h
 rw [Vf] at hl
 match cs,hl with
 | [a,b,c],_=>
  have h0:Tw Tryz.prog W 3 (([a,b,c].drop 0).take (Tryz.prog.cellsOf 3)):=hf 0 _ rfl
  rw [Vy] at h0
  replace h0:Tw Tryz.prog W 3 [a]:=h0
  have h1:Tw Tryz.prog W 3 (([a,b,c].drop 1).take (Tryz.prog.cellsOf 3)):=hf 1 _ rfl
  rw [Vy] at h1
  replace h1:Tw Tryz.prog W 3 [b]:=h1
  have h2:Tw Tryz.prog W 22 (([a,b,c].drop 2).take (Tryz.prog.cellsOf 22)):=hf 2 _ rfl
  rw [Zv] at h2
  replace h2:Tw Tryz.prog W 22 [c]:=h2
  obtain⟨m,e0,_⟩:=zhq Tryz.underlying3 h0
  obtain⟨n,e1,_⟩:=zhq Tryz.underlying3 h1
  obtain⟨u,e2,_⟩:=yN Tryz.underlying22 h2
  cases e0; cases e1; cases e2
  exact⟨⟨m,n,u⟩,trivial,rfl⟩
theorem zhh{W:World}{cs:List Value}(h:Tw Tryz.prog W 119 cs):∃ (v:Value) (l:List Per),cs=[v]∧l.length<2^45∧Rep E0 W (perS l) [] v:=by
 obtain⟨l,v,e1,gl,wl,_,rl⟩:=zbw Per.nil Per.cell (fun _=>True) Tryz.underlying119 Vf (by decide) (fun cs' h'=>by
   obtain⟨x,hx,rfl⟩:=zce h'
   refine⟨x,hx,fun o ho=> ?_⟩
   match o,ho with
   | 0,_=>exact⟨_,rfl,rfl,by simp [Per.cell,Rep]⟩
   | 1,_=>exact⟨_,rfl,rfl,by simp [Per.cell,Rep]⟩
   | 2,_=>exact⟨_,rfl,rfl,by simp [Per.cell,Rep]⟩) h
 have b1:Tryz.prog.bytesOf 193=32:=by kernel_rfl
 rw [b1] at wl
 have hr:=reachBytes_lt
 exact⟨v,l,e1,by omega,rl⟩
theorem Yg:Tryz.prog.cellsOf 163=1:=by kernel_rfl
theorem ziv:Tryz.prog.cellsOf 249=1:=by kernel_rfl
theorem zhi:Tryz.prog.cellsOf 251=2:=by kernel_rfl
def shpE(H:Type):List (Lit×DataW H):=shpL.map fun p=>(.int .u8 p.1,.agg [.slice (p.2.1.map fun z=>.lit (.int .u8 z)) [],.lit (.int .u8 p.2.2)])
theorem zj1:∀ p∈shpL,Q8 p.1=some p.2∧p.2.1≠[]:=by decide
theorem zjh{k:Int}(h:vj k=true):∃ q,(k,q)∈shpL:=by
 unfold vj Q8 at h
 rw [Option.isSome_map] at h
 obtain⟨p,hp⟩:=Option.isSome_iff_exists.1 h
 have h1:=List.find?_some hp
 have h2:=List.mem_of_find?_eq_some hp
 have:p.1=k:=by simpa using h1
 exact⟨p.2,by rw [← this]; exact h2⟩
theorem YH{W:World}{cs:List Value}{fuel:Nat}{q:List MemPlace}{c:Value}(hc:W.cell? ⟨0,0,none⟩=some c)
  (h:DataW.trod (fun _=>()) Tryz.prog W 0 (fun _=>true) false fuel 253 [c]=some (.map (shpE Unit),q)) :
  Rep E0 W (.mp .u8 true 2 [] (fun k=>vj k) fun k o=>match o with
   | 0=>.sl (j4 k) 1 fun j _=>.int .u8 (qN k j)
   | _=>.int .u8 (jl k)) [] c∧∀ b,c = .map (some b)→b<W.heap.size:=by
 refine zax (g:=0) rfl Tryz.underlying253 Tryz.underlying5 hc (by decide) h ?_ ?_
 ·intro n d hd
  obtain⟨p,hp,he⟩:=List.mem_map.1 hd
  obtain⟨h1,h2⟩:=zj1 p hp
  simp only [Prod.mk.injEq,Lit.int.injEq,true_and] at he
  obtain⟨rfl,rfl⟩:=he
  refine⟨by simp [vj,h1],fun v m q' hf ht=> ?_⟩
  obtain⟨xs,n',_,hx,hl,hlen,hfs⟩:=DataW.trod_struct Tryz.underlying251 ht
  rw [zhi] at hl
  cases v with
  | agg cs=>
   simp only [Value.cells] at hl hfs
   obtain⟨cs⟩:=cs
   simp only at hl hfs
   match cs,hl with
   | [a,b],_=>
    have f0:DataW.trod _ Tryz.prog W 0 _ false n' 249 (([a,b].drop 0).take (Tryz.prog.cellsOf 249))=xs[0]?:=hfs 0 _ rfl
    have f1:DataW.trod _ Tryz.prog W 0 _ false n' 163 (([a,b].drop 1).take (Tryz.prog.cellsOf 163))=xs[1]?:=hfs 1 _ rfl
    rw [ziv] at f0
    rw [Yg] at f1
    match xs,hlen with
    | [x0,x1],_=>
     simp only [List.map_cons,List.map_nil,Prod.mk.injEq,DataW.agg.injEq,List.cons.injEq,and_true] at hx
     obtain⟨⟨hx0,hx1⟩,_⟩:=hx
     have f0:DataW.trod _ Tryz.prog W 0 _ false n' 249 [a]=some x0:=f0
     have f1:DataW.trod _ Tryz.prog W 0 _ false n' 163 [b]=some x1:=f1
     obtain⟨x0a,x0b⟩:=x0
     obtain⟨x1a,x1b⟩:=x1
     simp only at hx0 hx1
     subst hx0; subst hx1
     obtain⟨c0,e0,_,hr⟩:=zfa Tryz.underlying249 Tryz.underlying163 Yg h2 f0
     cases e0
     obtain⟨z,e1,e2,_⟩:=DataW.trod_int Tryz.underlying163 f1
     cases e1
     simp only [Prod.mk.injEq,DataW.lit.injEq,Lit.int.injEq,true_and] at e2
     refine⟨[a,.int .u8 z],rfl,rfl,fun o ho=> ?_⟩
     have g1:jg p.1=p.2.1:=by simp [jg,h1]
     have g2:jl p.1=p.2.2:=by simp [jl,h1]
     match o,ho with
     | 0,_=>
      refine⟨a,rfl,?_⟩
      show Rep E0 W (.sl (j4 p.1) 1 fun j _=>.int .u8 (qN p.1 j)) [] a
      unfold j4 qN
      rw [g1]
      exact hr
     | 1,_=>
      refine⟨_,rfl,?_⟩
      show Rep E0 W (.int .u8 (jl p.1)) [] _
      simp only [Rep]
      rw [g2,e2.1]
  | _=>simp [Value.formed,Tryz.underlying251] at hf
 ·intro n hn
  obtain⟨q',hq⟩:=zjh hn
  exact⟨_,List.mem_map.2 ⟨_,hq,rfl⟩⟩
theorem zk2:Tryz.prog.globalNamed "novation/observable.shapes" = some 0:=by kernel_rfl
theorem zkw:(Tryz.prog.globals[0]?).map (·.type)=some 253:=by kernel_rfl
theorem zjc:(Rows.laid_novation_observable_shapes:DataW Unit) = .map (shpE Unit):=rfl
theorem znd:Tryz.prog.globalNamed "novation/contract.parts" = some 1:=by kernel_rfl
theorem zme:(Tryz.prog.globals[1]?).map (·.type)=some 263:=by kernel_rfl
def prtE:List (Lit×DataW Unit):=[(.int .u8 1,.lit (.int .i64 0)),(.int .u8 2,.lit (.int .i64 15)),(.int .u8 3,.lit (.int .i64 256)),(.int .u8 4,.lit (.int .i64 136)),(.int .u8 5,.lit (.int .i64 272)),(.int .u8 6,.lit (.int .i64 160)),(.int .u8 7,.lit (.int .i64 261)),(.int .u8 8,.lit (.int .i64 197)),(.int .u8 9,.lit (.int .i64 208)),(.int .u8 10,.lit (.int .i64 208))]
theorem zgz:(Rows.laid_novation_contract_parts:DataW Unit) = .map prtE:=rfl
abbrev Yw:List (String×DataW Unit):=[("novation/observable.shapes",Rows.laid_novation_observable_shapes),("novation/contract.parts",Rows.laid_novation_contract_parts)]
theorem zcq{W:World}{cs:List Value}{fuel:Nat}{q:List MemPlace}{c:Value}(hc:W.cell? ⟨1,0,none⟩=some c)
  (h:DataW.trod (fun _=>()) Tryz.prog W 0 (fun _=>true) false fuel 263 [c]=some (.map prtE,q)) :
  Rep E0 W (.mp .u8 false 1 [] (fun k=>decide (1≤k∧k≤10)) fun k _=>.int .i64 (kP k)) [] c∧∀ b,c = .map (some b)→b<W.heap.size:=by
 refine zax (g:=1) rfl Tryz.underlying263 Tryz.underlying5 hc (by decide) h ?_ ?_
 ·intro n d hd
  have one:∀ {v:Value} {m:Nat} {q:List MemPlace} {z:Int},v.formed Tryz.prog 3=true→DataW.trod (fun _=>()) Tryz.prog W 0 (fun _=>true) false m 3 v.cells.toList=some (.lit (.int .i64 z),q)→Rep E0 W (.int .i64 z) [] v:=by
   intro v m q z hf ht
   have hcell:v.cells.toList=[v]:=by
    cases v with
    | agg _=>simp [Value.formed,Tryz.underlying3] at hf
    | _=>rfl
   rw [hcell] at ht
   obtain⟨z',e1,e2,_⟩:=DataW.trod_int Tryz.underlying3 ht
   cases e1
   simp only [Prod.mk.injEq,DataW.lit.injEq,Lit.int.injEq,true_and] at e2
   simp only [Rep]
   rw [e2.1]
  simp only [prtE,List.mem_cons,Prod.mk.injEq,Lit.int.injEq,true_and,List.not_mem_nil,or_false] at hd
  rcases hd with ⟨rfl,rfl⟩ | ⟨rfl,rfl⟩ | ⟨rfl,rfl⟩ | ⟨rfl,rfl⟩ | ⟨rfl,rfl⟩ | ⟨rfl,rfl⟩ | ⟨rfl,rfl⟩ | ⟨rfl,rfl⟩ | ⟨rfl,rfl⟩ | ⟨rfl,rfl⟩<;>exact⟨rfl,fun v m q hf ht=>one hf ht⟩
 ·intro n hn
  have hn:=of_decide_eq_true hn
  have:n=1∨n=2∨n=3∨n=4∨n=5∨n=6∨n=7∨n=8∨n=9∨n=10:=by omega
  rcases this with rfl | rfl | rfl | rfl | rfl | rfl | rfl | rfl | rfl | rfl<;>exact⟨_,by unfold prtE; simp; rfl⟩
theorem zjq{W:World}(h:laidMetH Tryz.prog Yw W):vY E0 W:=by
 rw [MakeChecks.laidMetH_plain _ _ _ (by kernel_rfl)] at h
 obtain⟨ps,⟨g0,t0,cs0,f0,p0,q0,hg0,ht0,hv0,hd0,hr0,_⟩,_,_⟩:=h
 obtain⟨g1,t1,cs1,f1,p1,q1,hg1,ht1,hv1,hd1,_,_⟩:=hr0
 obtain rfl:=Option.some.inj (zk2.symm.trans hg0)
 obtain rfl:=Option.some.inj (zkw.symm.trans ht0)
 obtain rfl:=Option.some.inj (znd.symm.trans hg1)
 obtain rfl:=Option.some.inj (zme.symm.trans ht1)
 rw [zjc] at hd0
 rw [zgz] at hd1
 have hone:∃ c,cs0.toList=[c]:=by
  rcases Go.WideElems.open_map Tryz.underlying253 hd0 with ⟨hcs,_⟩ | ⟨b,es,clock,n,_,hcs,_⟩
  ·exact⟨_,hcs⟩
  ·exact⟨_,hcs⟩
 have hone1:∃ c,cs1.toList=[c]:=by
  rcases Go.WideElems.open_map Tryz.underlying263 hd1 with ⟨hcs,_⟩ | ⟨b,es,clock,n,_,hcs,_⟩
  ·exact⟨_,hcs⟩
  ·exact⟨_,hcs⟩
 obtain⟨c,hcs⟩:=hone
 obtain⟨c',hcs'⟩:=hone1
 rw [hcs] at hd0
 rw [hcs'] at hd1
 have k1:W.cell? ⟨0,0,none⟩=some c:=by
  have:=World.var?_cell hg0 hv0 0
  rw [Array.eq_one_of_toList hcs] at this
  simpa using this
 have k2:W.cell? ⟨1,0,none⟩=some c':=by
  have:=World.var?_cell hg1 hv1 0
  rw [Array.eq_one_of_toList hcs'] at this
  simpa using this
 obtain⟨r1,b1⟩:=YH (cs:=[c]) k1 hd0
 obtain⟨r2,b2⟩:=zcq (cs:=[c']) k2 hd1
 refine⟨fun g a hz=>⟨Yj _,?_⟩⟩
 by_cases hg:g=0
 ·subst hg
  cases hz
  exact⟨c,k1,r1,b1⟩
 ·by_cases hg2:g=1
  ·subst hg2
   cases hz
   exact⟨c',k2,r2,b2⟩
  ·have:Stat.z g=none:=by
    show(if _ then _ else if _ then _ else _)=_
    rw [if_neg hg,if_neg hg2]
   rw [this] at hz; cases hz
theorem walk{W:World}{v0 v1 v2:List Value}(h0:Tw Tryz.prog W 104 v0)(h1:Tw Tryz.prog W 119 v1)(h2:Tw Tryz.prog W 4 v2)(hst:vY E0 W) :
  ∃ s1:Value,v1=[s1]∧∃ s2:Value,v2=[s2]∧Calls Tryz.prog 11 #[.agg v0.toArray,s1,s2] W fun e W'=>e = .returned (.bool true)∧Below W.heap.size W W':=by
 obtain⟨d,dg,dr⟩:=ze0 h0
 obtain⟨s1,l,rfl,lg,lr⟩:=zhh h1
 obtain⟨floor,rfl,floorg,floorr⟩:=zen h2
 refine⟨_,rfl,?_⟩
 refine⟨_,rfl,?_⟩
 refine zdl (fn:=Tryz.f11) (c:=Tryz.f11.body.getD .skip) rfl rfl rfl ze7 (args:=[d.av,perS l,.bool floor]) (vals:=[.agg v0.toArray,s1,.bool floor]) ?_ ?_ hst
 ·refine⟨⟨d,l,floor⟩,⟨?_,lg⟩,⟨true,rfl⟩,?_⟩
  ·simp [eqL,eqA,eqA0,eqL0,envA,fxS,chS,Fx.av,Ch.av,Ex.exA,Ex.exS,Deal.av,perS,za]
  ·rintro _ rfl
   rfl
 ·exact⟨_,_,rfl,dr,⟨_,_,rfl,lr,⟨_,_,rfl,floorr,rfl⟩⟩⟩
theorem own:ownKnob Tryz.prog.godebug=none:=by kernel_rfl
theorem laid:laidOutB Tryz.prog=true:=by kernel_rfl
theorem zec(os:Os)(args:Array Value):laidMetH Tryz.prog Yw ((World.doorLaid Tryz.prog 400 os).forCall (fun _ _=>0) ⟨#[],args,[]⟩).memory:=
 laidMetH_of_parts3 (fuel:=8) (laidMet_of_run' 8 (by kernel_rfl) (by kernel_rfl)) (by kernel_rfl) (by kernel_rfl)
theorem lifted(os:Os)(started:os.Started)(H:Type)(enc:TypeId×Value→H) :
  ReturnsInHanded {} Tryz.checked os 11 .any (fun w args=>(Rows.templateLegsSpec.pre enc Tryz.prog Tryz.f11 [] false w args∧laidMetH Tryz.prog Yw w)∧sizedMet enc Tryz.prog Tryz.f11 (OpenSpec.ofChange Rows.templateLegsSpec) false w args)
   (Rows.templateLegsSpec.post enc Tryz.prog Tryz.f11 false true false false):=by
 refine returnsInHanded_of_change_and (C:=Tryz.checked) (X:=fun w _=>laidMetH Tryz.prog Yw w) (fun _ _ _ hh h=>h.of_heap hh) own started (by kernel_rfl) Tryz.func11
  (ChangeSpec.witness_shaped (enc:=enc) (C:=Tryz.checked) (os:=os) (X:=fun w _=>laidMetH Tryz.prog Yw w) false (World.doorLaid Tryz.prog 400 os) #[.agg #[.string ⟨#[]⟩,.string ⟨#[]⟩,.string ⟨#[]⟩,.string ⟨#[]⟩,.string ⟨#[]⟩,.string ⟨#[]⟩],.slice none 0 0,.bool false] 8 rfl (World.shaped_of_RefB (by kernel_rfl) (by kernel_rfl)) (by kernel_rfl) (by kernel_rfl) (by kernel_rfl) (zec os _)) ?_
 intro W base args ds gs before hval0 hW hcnd hwt hL _
 have hval:∀ (j:Nat) t v,Tryz.f11.params[j]?=some t→args[j]?=some v→Value.okWide Tryz.prog W .any base t v:=hval0
 have hW':=hW
 obtain⟨p,q,hA0,hV,rfl,hfz,hnd⟩:=hW
 have hA:DataW.TrodAll enc Tryz.prog W 0 (fun _=>true) true Tryz.f11.params.toList args.toList ds p:=hA0
 rw [Tryz.params11] at hA hval
 obtain⟨v0,vs0,d0,ds0,p0,q0,hargs,rfl,rfl,h0,r0⟩:=trodAll_cons hA
 obtain⟨v1,vs1,d1,ds1,p1,q1,rfl,rfl,rfl,h1,r1⟩:=trodAll_cons r0
 obtain⟨v2,vs2,d2,ds2,p2,q2,rfl,rfl,rfl,h2,r2⟩:=trodAll_cons r1
 obtain⟨rfl,rfl,rfl⟩:=trodAll_nil r2
 obtain rfl:args = #[v0,v1,v2]:=by cases args; simp_all
 obtain⟨rfl,rfl⟩:=trodVars_none hV
 clear hA0 hval0
 simp only [List.append_nil] at hW' hwt
 have hw:∀ (j:Nat) (t:TypeId) (d:DataW H),[104,119,4][j]?=some t→[d0,d1,d2][j]?=some d→∀ n∈d.weights Tryz.prog t,n≤reachBytes:=fun j t d ht hd n hn=>by
  have:=List.all_eq_true.1 hwt n (DataW.weights_mem_each (j:=j) (t:=t) (d:=d) (by exact ht) (by exact hd) n hn)
  simpa using this
 obtain⟨c0,rfl,_⟩:=okWide_struct Tryz.underlying104 (hval 0 104 v0 rfl rfl)
 obtain⟨a1,l1,k1,rfl⟩:=okWide_slice Tryz.underlying119 (hval 1 119 v1 rfl rfl)
 obtain⟨c2,rfl⟩:=okWide_bool Tryz.underlying4 (hval 2 4 v2 rfl rfl)
 have t0:Tw Tryz.prog W 104 c0.toList:=by
  obtain⟨fuel,hf⟩:=h0
  exact⟨H,enc,0,fuel,d0,p0,by simpa [Value.cells] using hf,hw 0 _ d0 rfl rfl⟩
 have t1:Tw Tryz.prog W 119 [.slice a1 l1 k1]:=by
  obtain⟨fuel,hf⟩:=h1
  exact⟨H,enc,0,fuel,d1,p1,by simpa [Value.cells] using hf,hw 1 _ d1 rfl rfl⟩
 have t2:Tw Tryz.prog W 4 [.bool c2]:=by
  obtain⟨fuel,hf⟩:=h2
  exact⟨H,enc,0,fuel,d2,p2,by simpa [Value.cells] using hf,hw 2 _ d2 rfl rfl⟩
 have hlt:∀ x∈p0++(p1++p2),x.block<W.heap.size:=fun x hx=>by simpa using hW'.lt x (by simpa using hx)
 obtain⟨s1,e1,s2,e2,hcall⟩:=walk t0 t1 t2 (zjq hL)
 cases e1
 cases e2
 simp only [Array.toArray_toList] at hcall
 refine hcall.mono fun e W' ⟨he,hb⟩=> ?_
 subst he
 refine⟨_,rfl,_,_,_,[],p0++(p1++p2),[],hW',trodAll_mk1 (shut_bool Tryz.underlying4 true),?_,rfl,hb.frame _,fun h=>by cases h⟩
 exact trodAll_mk3 (Below.trod laid (by kernel_rfl) (of_decide_eq_true (by kernel_rfl)) h0 hb fun x hx=>hlt x (by simp [hx])) (Below.trod laid (by kernel_rfl) (of_decide_eq_true (by kernel_rfl)) h1 hb fun x hx=>hlt x (by simp [hx])) (Below.trod laid (by kernel_rfl) (of_decide_eq_true (by kernel_rfl)) h2 hb fun x hx=>hlt x (by simp [hx]))
theorem over:Rows.templateLegsRow.holds Tryz.pinned (OpenSpec.ofChange Rows.templateLegsSpec):=
 OpenClaim.holds_of_wide 11 Tryz.f11 rfl rfl rfl rfl rfl rfl rfl ⟨rfl,rfl,rfl,rfl,rfl⟩ rfl rfl rfl rfl rfl (by kernel_rfl) Tryz.func11 (by kernel_rfl)
  (of_decide_eq_true (by kernel_rfl)) (by unfold Func.isWrapper; first | (rw [if_pos (by decide +kernel)]; kernel_rfl) | (rw [if_neg (by decide +kernel)]; exact⟨rfl,rfl⟩))
  (fun os started H enc _=>lifted os started H enc)
theorem ur:Rows.TemplateLegsSaid:=over
theorem templateLegs_holds:Rows.TemplateLegsCardSaid:=
 Claim7.holds_tied_plain_at .later [] [.mappedDeep,.mapped] true (true, "959d5baafc7240aa5a4bb96c02a2fe013b65c1dd6bb6c5a1db4237804d1f2d71") false
  ur (fun _ h=>by cases h) (by kernel_rfl) (fun _ h=>by cases h) templateLegs_row_tie rfl ⟨rfl,rfl⟩ (by kernel_rfl) rfl
  (fun f fn hf hfn=>by
   obtain rfl:f=11:=Option.some.inj ((show Tryz.prog.funcNamed "novation/novationlaw16.TemplateLegs" = some 11 by kernel_rfl).symm.trans hf) |>.symm
   obtain rfl:fn=Tryz.f11:=(Option.some.inj (Tryz.func11.symm.trans hfn)).symm
   exact⟨by kernel_rfl,fun j t ht=>by
    rw [Tryz.params11] at ht
    have hm:t∈[104,119,4]:=by simpa using Array.mem_of_getElem? ht
    have hall:([104,119,4].all fun u=> !Tryz.prog.wantsStandIn u)=true:=by kernel_rfl
    exact(show Tryz.prog.wantsStandIn t=false by simpa using List.all_eq_true.1 hall t hm)⟩)
  (by kernel_rfl)
end Go.Proofs.YtpmofcdjkhmdaaaGreatDoor
end
