/- Part 6 of the proof. -/
import Derived.Test.YtomonffoihofaaaGreatDoorSxe
import Derived.Lib.Strings
import Derived.Lib.Slices
import Derived.Lib.Walk
import Derived.Lib.Bytealg
import Derived.Test.YtomonffoihofaaaGreatDoorProg
set_option linter.unusedVariables false
set_option linter.unusedSimpArgs false
set_option linter.unusedSectionVars false
section
set_option maxRecDepth 100000
open Go Go.Sx Go.Proofs Go.Nov
namespace Go.Proofs.Tryz
attribute [local simp] eqKV eqA eqA0 eqH eqB eqL eqL0
noncomputable def K63:List Go.Sx.Item:=[.code (Tryz.f63.body.getD .skip)]
noncomputable def K64:List Go.Sx.Item:=[.code (Tryz.f64.body.getD .skip)]
theorem Z6(c:UInt8):(if decide ((c.toNat:Int)<48)=true then true else decide (57<(c.toNat:Int))) = !isD c:=by
 simp only [isD]
 by_cases h:c.toNat<48
 ·rw [if_pos (by simp; omega)]; simp; omega
 ·rw [if_neg (by simp; omega)]
  by_cases h2:c.toNat≤57
  ·have:decide (57<(c.toNat:Int))=false:=by simp; omega
   rw [this]; simp; omega
  ·have:decide (57<(c.toNat:Int))=true:=by simp; omega
   rw [this]; simp; omega
def Qh:Ctr:=ctrP true (fun s:List UInt8=>[.str s]) (fun s=>s.length<2^62) (fun s r=>r=errI s) (fun _ r=>(.int .i64 r,[]))
def SCk(b:List UInt8)(i:Nat):KV:=[(3,.str b),(31,.int .i64 (b.length:Int)),(32,.int .i64 (i:Int)),(40,.undef),(41,.undef),(42,.undef),(43,.undef)]
theorem Qq{O:Nat→Prop}{w0:World}{Q:AV×Heap→Prop}{neg:Bool}(b:List UInt8)(hb:b.length<2^62)(hf:b.all isD=true→jC neg b=true)
  (hq:Q (.int .i64 (if jC neg b then(if 1000<b.length then 14 else 0) else 12),[])) :
  zb Tryz.prog Tryz.f63 O 0 w0 [] (fun _ _ _=>False) (RetR Qh 0 Q) (.code (.loop (lps K63 0).1)::(lps K63 0).2) (mk Tryz.f63.ntmps (SCk b 0) []):=by
 refine zb.loop (ι:={i:Nat // i≤b.length∧∀ j,j<i→isD (b.getD j 0)=true}) (fun i=>SCk b i.1) (fun _=>[]) (fun i=>b.length - i.1) ⟨0,Nat.zero_le _,fun j hj=>by omega⟩ 0 ?_ ?_ (by kernel_rfl)
 ·exact⟨by simp [SCk],by simp,by kernel_rfl,Nat.zero_le _⟩
 ·rintro⟨i,hil,hid⟩
  refine zb.run hmix z7 [3,31,32,40,41,42,43] 400 (T:=.ite (decide ((↑i:Int)<b.length)) (.side ((0:Int)≤i∧(↑i:Int)<b.length) (.side (decide ((↑(UInt8.toNat (b.getD (↑i:Int).toNat (0:UInt8))):Int)<48)=false→(0:Int)≤i∧(↑i:Int)<b.length) (.ite (bif decide ((↑(UInt8.toNat (b.getD (↑i:Int).toNat (0:UInt8))):Int)<48) then true else decide ((57:Int)<(↑(UInt8.toNat (b.getD (↑i:Int).toNat (0:UInt8))):Int))) (.leaf (.ret [.int .i64 12] [])) (.side (inR .i64 ((↑i:Int)+(1:Int))) (.leaf (.back 0 [(3,.str b),(31,.int .i64 b.length),(32,.int .i64 ((↑i:Int)+(1:Int))),(40,.undef),(41,.undef),(42,.undef),(43,.undef)] [])))))) (.ite (decide ((1000:Int)<b.length)) (.leaf (.ret [.int .i64 14] [])) (.leaf (.ret [.int .i64 0] [])))) (by kernel_rfl) ?_
  simp only [Tree.holds,zc,inR,lo,hi,Int.toNat_natCast,Bool.cond_eq_ite]
  refine⟨fun hlt=> ?_,fun hge=>⟨fun hbig=> ?_,fun hsm=> ?_⟩⟩
  ·have hlt:i<b.length:=by simp at hlt; omega
   refine⟨by omega,fun _=>⟨fun _=>by omega,fun _=>⟨fun hbad=> ?_,fun hgood=>⟨by omega,fun _=> ?_⟩⟩⟩⟩
   ·have hnd:isD (b.getD i 0)=false:=by
     rw [Z6] at hbad
     simpa using hbad
    have hnf:jC neg b=false:=by
     have:b.all isD=false:=by
      rw [List.all_eq_false]
      refine⟨b.getD i 0,by simp [List.getD,hlt],by simpa using hnd⟩
     simp [jC,this]
    rw [hnf] at hq
    exact RetR.scal hq rfl (by simp [resV])
   ·have hd:isD (b.getD i 0)=true:=by
     rw [Z6] at hgood
     simpa using hgood
    rw [if_pos trivial]
    refine⟨⟨i+1,hlt,fun j hj=> ?_⟩,by show b.length - (i+1)<b.length - i; omega,by simp [SCk],by simp,by kernel_rfl,Nat.zero_le _⟩
    rcases Nat.lt_or_ge j i with h | h
    ·exact hid j h
    ·have:j=i:=by omega
     subst this; exact hd
  all_goals
   have hge:i=b.length:=by simp at hge; omega
   have hall:b.all isD=true:=by
    rw [List.all_eq_true]
    intro c hc
    obtain⟨j,hj,rfl⟩:=List.getElem_of_mem hc
    have:=hid j (by omega)
    simpa [List.getD,hj] using this
   rw [hf hall] at hq
  ·rw [if_pos rfl,if_pos (by simp at hbig; omega)] at hq
   exact RetR.scal hq rfl (by simp [resV])
  ·rw [if_pos rfl,if_neg (by simp at hsm; omega)] at hq
   exact RetR.scal hq rfl (by simp [resV])
theorem ZG:zd Tryz.prog 63 Qh:=by
 refine ze (fn:=Tryz.f63) (c:=Tryz.f63.body.getD .skip) rfl rfl rfl fun s hs O w0 Q hq=> ?_
 replace hq:=hq _ rfl
 refine zb.run hmix z7 [3,31,32,40,41,42,43] 400 (T:=.side (decide ((0:Int)<s.length)=true→(0:Int)≤0∧(0:Int)<s.length) (.ite (bif decide ((0:Int)<s.length) then decide ((↑(UInt8.toNat (s.getD 0 (0:UInt8))):Int)=45) else false) (.side ((0:Int)≤1∧(1:Int)≤s.length) (.ite (decide (List.drop 1 (List.take s.length s)=#[(48:UInt8)].toList)) (.leaf (.ret [.int .i64 12] [])) (.side (decide (List.drop 1 (List.take s.length s)=#[].toList)=false→(0:Int)≤0∧(0:Int)<(↑(List.length (List.drop 1 (List.take s.length s))):Int)) (.ite (bif decide (List.drop 1 (List.take s.length s)=#[].toList) then true else bif decide ((↑(UInt8.toNat (List.getD (List.drop 1 (List.take s.length s)) 0 (0:UInt8))):Int)=48) then decide ((1:Int)<(↑(List.length (List.drop 1 (List.take s.length s))):Int)) else false) (.leaf (.ret [.int .i64 12] [])) (.leaf (.loop (Prod.fst (lps K63 0)) (Prod.snd (lps K63 0)) [(3,.str (List.drop 1 (List.take s.length s))),(31,.int .i64 (↑(List.length (List.drop 1 (List.take s.length s))):Int)),(32,.int .i64 0),(40,.undef),(41,.undef),(42,.undef),(43,.undef)] [])))))) (.side (decide (s=#[].toList)=false→(0:Int)≤0∧(0:Int)<s.length) (.ite (bif decide (s=#[].toList) then true else bif decide ((↑(UInt8.toNat (s.getD 0 (0:UInt8))):Int)=48) then decide ((1:Int)<s.length) else false) (.leaf (.ret [.int .i64 12] [])) (.leaf (.loop (Prod.fst (lps K63 0)) (Prod.snd (lps K63 0)) [(3,.str s),(31,.int .i64 s.length),(32,.int .i64 0),(40,.undef),(41,.undef),(42,.undef),(43,.undef)] [])))))) (by kernel_rfl) ?_
 simp only [Tree.holds,zc,inR,lo,hi,Bool.cond_eq_ite]
 cases s with
 | nil=>
  simp only [errI,parse,jC] at hq
  refine⟨by simp,fun _=>⟨fun h=>by simp at h,fun _=>⟨by simp,fun _=>⟨fun _=> ?_,fun h=>by simp at h⟩⟩⟩⟩
  exact RetR.scal hq rfl (by simp [resV])
 | cons c b=>
  refine⟨by simp,fun _=>⟨fun h=> ?_,fun h=> ?_⟩⟩
  ·have hc:c=45:=by
    simp at h
    have:c.toNat=45:=by omega
    exact UInt8.toNat_inj.1 this
   subst hc
   have hp:parse (45::b)=(true,b):=rfl
   have hd:List.drop 1 (List.take (45::b).length (45::b))=b:=by simp
   rw [hd]
   simp only [errI,hp] at hq
   refine⟨by simp; omega,fun _=>⟨fun h0=> ?_,fun h0=>⟨fun hne=> ?_,fun _=>⟨fun hbad=> ?_,fun hgood=> ?_⟩⟩⟩⟩
   ·have hb:b=[48]:=by simpa using h0
    subst hb
    exact RetR.scal hq rfl rfl
   ·have:b≠[]:=by simpa using hne
    have:=List.length_pos_iff.2 this
    omega
   ·have hnf:jC true b=false:=by
     by_cases hb:b=[]
     ·subst hb; rfl
     ·rw [if_neg (by simpa using hb)] at hbad
      split at hbad
      ·rename_i h48
       have:b.getD 0 0=48:=WS (of_decide_eq_true h48)
       have hl:1<b.length:=by simp at hbad; omega
       exact vU this hl
      ·cases hbad
    rw [hnf] at hq
    exact RetR.scal hq rfl (by simp [resV])
   ·have hf:b.all isD=true→jC true b=true:=by
     intro hall
     have hb:b≠[]:=by
      intro hb; subst hb; simp at hgood
     have hb2:b≠[48]:=by simpa using h0
     rw [if_neg (by simpa using hb)] at hgood
     have h3:¬ (b.getD 0 0=48∧1<b.length):=by
      rintro⟨g1,g2⟩
      rw [g1] at hgood
      rw [if_pos (by decide)] at hgood
      simp at hgood; omega
     simp only [jC,hall,hb,hb2,Bool.and_true]
     simp only [decide_false,Bool.not_false,Bool.and_false,Bool.true_and,Bool.not_eq_true',Bool.and_eq_false_iff,decide_eq_false_iff_not]
     by_cases g1:b.getD 0 0=48
     ·exact .inr fun g2=>h3 ⟨g1,g2⟩
     ·exact .inl g1
    exact Qq b (by simp at hs; omega) hf hq
  ·have hc:c≠45:=by
    rintro rfl
    simp at h
   have hp:parse (c::b)=(false,c::b):=by simp [parse,hc]
   simp only [errI,hp] at hq
   obtain⟨s,hs'⟩:∃ s,c::b=s:=⟨_,rfl⟩
   have hne:s≠[]:=by rw [← hs']; simp
   rw [hs'] at hq hs ⊢
   refine⟨fun _=>⟨by omega,by have:=List.length_pos_iff.2 hne; omega⟩,fun _=>⟨fun hbad=> ?_,fun hgood=> ?_⟩⟩
   ·have hnf:jC false s=false:=by
     rw [if_neg (by simpa using hne)] at hbad
     split at hbad
     ·rename_i h48
      have:s.getD 0 0=48:=WS (of_decide_eq_true h48)
      have hl:1<s.length:=by simp at hbad; omega
      exact vU this hl
     ·cases hbad
    rw [hnf] at hq
    exact RetR.scal hq rfl (by simp [resV])
   ·have hf:s.all isD=true→jC false s=true:=by
     intro hall
     rw [if_neg (by simpa using hne)] at hgood
     have h3:¬ (s.getD 0 0=48∧1<s.length):=by
      rintro⟨g1,g2⟩
      rw [g1] at hgood
      rw [if_pos (by decide)] at hgood
      simp at hgood; omega
     simp only [jC,hall,hne,Bool.and_true]
     simp only [decide_false,Bool.not_false,Bool.false_and,Bool.true_and,Bool.not_eq_true',Bool.and_eq_false_iff,decide_eq_false_iff_not]
     by_cases g1:s.getD 0 0=48
     ·exact .inr fun g2=>h3 ⟨g1,g2⟩
     ·exact .inl g1
    exact Qq s hs hf hq
def numV(neg:Bool)(x:Nat):AV:=.agg [.bool neg,magS x]
def uv:Ctr:=ctrP false (fun p:List UInt8×List UInt8=>[.str p.1,.str p.2]) (fun p=>p.1.length<2^62∧p.2.length<2^62) (fun p (r:Int×(Bool×Nat)×(Bool×Nat))=>r=if zu p.1 p.2=0 then(0,(negI p.1,numI p.1),(negI p.2,numI p.2)) else(zu p.1 p.2,(false,0),(false,0)))
 (fun _ r=>(.tup [numV r.2.1.1 r.2.1.2,numV r.2.2.1 r.2.2.2,.int .i64 r.1],[]))
noncomputable def G5:Nat→Option Ctr:=fun f=>if f=63 then some (Qh) else if f=90 then some (zah) else none
theorem zio:∀ g c,G5 g=some c→zd Tryz.prog g c:=okIf ZG (okIf zf3 (zq))
theorem zgo:canon 0=[]:=by simp [canon]
theorem JY:zd Tryz.prog 73 uv:=by
 refine ze (fn:=Tryz.f73) (c:=Tryz.f73.body.getD .skip) rfl rfl rfl fun p hp O w0 Q hq=> ?_
 obtain⟨s,t⟩:=p
 obtain⟨hs,ht⟩:=hp
 replace hq:=hq _ rfl
 simp only at hs ht hq
 refine zb.run hmix zio [] 400 (T:=.ex (fun(x:List UInt8)=>eqL [AV.str s] [AV.str x]∧x.length<4611686018427387904) fun n=>.all (fun(r:Int)=>r=errI n) fun n=>.ite (decide (n=0)) (.ex (fun(x:List UInt8)=>eqL [AV.str t] [AV.str x]∧x.length<4611686018427387904) fun n=>.all (fun(r:Int)=>r=errI n) fun n=>.ite (!decide (n=0)) (.leaf (.ret [.agg [.bool false,.nils],.agg [.bool false,.nils],.int .i64 n] [.box [.bool false,.nils],.box [.bool false,.nils]])) (.ex (fun(x:Bool×List UInt8)=>eqL [AV.str s] [AV.str (sgn x.1 x.2)]∧allD x.2∧x.2≠[]∧x.2.length≤1000000) fun n=>.all (fun(r:Nat)=>r=numD n.2) fun n_1=>.ex (fun(x:Bool×List UInt8)=>eqL [AV.str t] [AV.str (sgn x.1 x.2)]∧allD x.2∧x.2≠[]∧x.2.length≤1000000) fun n_2=>.all (fun(r:Nat)=>r=numD n_2.2) fun n_3=>.leaf (.ret [.agg [.bool n.1,.sl (canon n_1).length 1 (natG .u32 (canon n_1))],.agg [.bool n_2.1,.sl (canon n_3).length 1 (natG .u32 (canon n_3))],.int .i64 0] [.box [.bool n.1,.sl (canon n_1).length 1 (natG .u32 (canon n_1))],.box [.bool n_2.1,.sl (canon n_3).length 1 (natG .u32 (canon n_3))]]))) (.ite (!decide (n=0)) (.leaf (.ret [.agg [.bool false,.nils],.agg [.bool false,.nils],.int .i64 n] [.box [.bool false,.nils],.box [.bool false,.nils]])) (.ex (fun(x:Bool×List UInt8)=>eqL [AV.str s] [AV.str (sgn x.1 x.2)]∧allD x.2∧x.2≠[]∧x.2.length≤1000000) fun n=>.all (fun(r:Nat)=>r=numD n.2) fun n_1=>.ex (fun(x:Bool×List UInt8)=>eqL [AV.str t] [AV.str (sgn x.1 x.2)]∧allD x.2∧x.2≠[]∧x.2.length≤1000000) fun n_2=>.all (fun(r:Nat)=>r=numD n_2.2) fun n_3=>.leaf (.ret [.agg [.bool n.1,.sl (canon n_1).length 1 (natG .u32 (canon n_1))],.agg [.bool n_2.1,.sl (canon n_3).length 1 (natG .u32 (canon n_3))],.int .i64 0] [.box [.bool n.1,.sl (canon n_1).length 1 (natG .u32 (canon n_1))],.box [.bool n_2.1,.sl (canon n_3).length 1 (natG .u32 (canon n_3))]])))) (by kernel_rfl) ?_
 have bad:∀ h,zu s t≠0→RetR uv 0 Q [.agg [.bool false,.nils],.agg [.bool false,.nils],.int .i64 (zu s t)] h:=by
  intro h he
  rw [if_neg he] at hq
  refine RetR.out0 hq (fun h=>by simp [uv,ctrP] at h) ?_
  simp [resV,exp2,exp1,exp0,ren0,eqA2,eqL1,eqA,eqL0,eqA0,numV,magS,natS,zgo]
 have good:∀ h,zu s t=0→RetR uv 0 Q [.agg [.bool (negI s),magS (numI s)],.agg [.bool (negI t),magS (numI t)],.int .i64 0] h:=by
  intro h he
  rw [if_pos he] at hq
  refine RetR.out0 hq (fun h=>by simp [uv,ctrP] at h) ?_
  simp [resV,exp2,exp1,exp0,ren0,eqA2,eqL1,eqA,eqL0,eqA0,numV,magS,natS,za]
 have rd:∀ u,errI u=0→eqL [AV.str u] [AV.str (sgn (negI u) (parse u).2)]∧allD (parse u).2∧(parse u).2≠[]∧(parse u).2.length≤1000000:=by
  intro u hu
  obtain⟨h1,h2,h3,h4⟩:=ZC hu
  exact⟨by simpa using h1,h2,h3,by omega⟩
 simp only [Tree.holds,zc]
 refine⟨s,⟨by simp,by omega⟩,?_⟩
 refine⟨⟨_,rfl⟩,?_⟩
 rintro _ rfl
 refine⟨fun h1=> ?_,fun h1=> ?_⟩
 ·have h1:errI s=0:=by simpa using h1
  refine⟨t,⟨by simp,by omega⟩,?_⟩
  refine⟨⟨_,rfl⟩,?_⟩
  rintro _ rfl
  refine⟨fun h2=> ?_,fun h2=> ?_⟩
  ·have h2:errI t≠0:=by simpa using h2
   have e:zu s t=errI t:=by simp [zu,h1]
   rw [← e]
   exact bad _ (by rw [e]; exact h2)
  ·have h2:errI t=0:=by simpa using h2
   refine⟨(negI s,(parse s).2),rd s h1,?_⟩
   refine⟨⟨_,rfl⟩,?_⟩
   rintro _ rfl
   refine⟨(negI t,(parse t).2),rd t h2,?_⟩
   refine⟨⟨_,rfl⟩,?_⟩
   rintro _ rfl
   exact good _ (zm.2 ⟨h1,h2⟩)
 ·have h1:errI s≠0:=by simpa using h1
  have e:zu s t=errI s:=by simp [zu,h1]
  refine⟨fun h2=> ?_,fun h2=>absurd (by simpa using h2) h1⟩
  rw [← e]
  exact bad _ (by rw [e]; exact h1)
noncomputable def G6:Nat→Option Ctr:=fun f=>if f=73 then some (uv) else if f=87 then some (xK) else if f=74 then some (uR) else none
theorem zgc:∀ g c,G6 g=some c→zd Tryz.prog g c:=okIf JY (okIf Jw (okIf ZD (zq)))
def gcdC:Ctr:=ctrP true (fun p:List UInt8×List UInt8=>[.str p.1,.str p.2]) (fun p=>p.1.length<2^62∧p.2.length<2^62) (fun p r=>r=gcdR p.1 p.2) (fun _ r=>(.tup [.str r.1,.int .i64 r.2],[]))
def SGc:KV:=[(6,.ptr 0 0),(7,.ptr 1 0)]
def HGc(m n:Bool)(x y:Nat):Heap:=[.box [.bool m,magS x],.box [.bool n,magS y]]
theorem jx{x:Nat} : x<B^112↔(canon x).length≤112:=by
 refine⟨fun h=>zt h,fun h=> ?_⟩
 have h1:=qe (zh x)
 rw [zk] at h1
 exact Nat.lt_of_lt_of_le h1 (Nat.pow_le_pow_right (by decide) h)
theorem xj{x:Nat} : (canon x).length=0↔x=0:=by
 constructor
 ·intro h
  have:=zk x
  rw [List.length_eq_zero_iff.1 h] at this
  exact this.symm
 ·rintro rfl; simp [canon]
theorem U8:zd Tryz.prog 64 gcdC:=by
 refine ze (fn:=Tryz.f64) (c:=Tryz.f64.body.getD .skip) rfl rfl rfl fun p hp O w0 Q hq=> ?_
 obtain⟨s,t⟩:=p
 obtain⟨hs,ht⟩:=hp
 replace hq:=hq _ rfl
 simp only at hs ht hq
 refine zb.run hmix zgc [6,7] 400 (T:=.ex (fun(x:List UInt8×List UInt8)=>eqL [AV.str s,AV.str t] [AV.str x.1,AV.str x.2]∧x.1.length<4611686018427387904∧x.2.length<4611686018427387904) fun n=>.all (fun(r:Int×(Bool×Nat)×Bool×Nat)=>r=if zu n.1 n.2=0 then((0:Int),(negI n.1,numI n.1),negI n.2,numI n.2) else(zu n.1 n.2,(false,0),false,0)) fun n=>.ite (!decide (n.1=0)) (.leaf (.ret [.str #[].toList,.int .i64 n.1] [.box [.bool n.2.1.1,.sl (canon n.2.1.2).length 1 (natG .u32 (canon n.2.1.2))],.box [.bool n.2.2.1,.sl (canon n.2.2.2).length 1 (natG .u32 (canon n.2.2.2))]])) (.leaf (.loop (Prod.fst (lps K64 0)) (Prod.snd (lps K64 0)) [(6,.ptr 0 0),(7,.ptr 1 0)] [.box [.bool n.2.1.1,.sl (canon n.2.1.2).length 1 (natG .u32 (canon n.2.1.2))],.box [.bool n.2.2.1,.sl (canon n.2.2.2).length 1 (natG .u32 (canon n.2.2.2))]]))) (by kernel_rfl) ?_
 simp only [Tree.holds,zc]
 refine⟨(s,t),⟨by simp,hs,ht⟩,⟨_,rfl⟩,?_⟩
 rintro _ rfl
 refine⟨fun he=> ?_,fun he=> ?_⟩
 ·have he:zu s t≠0:=by
   intro h; simp [h] at he
  have e:gcdR s t=([],zu s t):=by simp [gcdR,he]
  simp only [if_neg he]
  rw [e] at hq
  exact RetR.scal hq rfl (by simp [resV])
 ·have he:zu s t=0:=by
   refine Decidable.byContradiction fun h=> ?_
   simp [h] at he
  simp only [if_pos he]
  have e:gcdR s t=wr false (Nat.gcd (numI s) (numI t)):=by simp [gcdR,he]
  rw [e] at hq
  obtain⟨h1,h2⟩:=zm.1 he
  have b1:=jx.2 (x8 h1)
  have b2:=jx.2 (x8 h2)
  clear e he h1 h2 hs ht
  generalize numI s=x0 at *
  generalize numI t=y0 at *
  refine zb.loop (ι:={z:Bool×Bool×Nat×Nat // Nat.gcd z.2.2.1 z.2.2.2=Nat.gcd x0 y0∧z.2.2.1<B^112∧z.2.2.2<B^112}) (fun _=>SGc) (fun z=>HGc z.1.1 z.1.2.1 z.1.2.2.1 z.1.2.2.2) (fun z=>z.1.2.2.2) ⟨(negI s,negI t,x0,y0),rfl,b1,b2⟩ 0 ?_ ?_ (by kernel_rfl)
  ·exact⟨by simp [SGc],by simp [HGc,magS,natS,za],by kernel_rfl,Nat.zero_le _⟩
  ·rintro⟨⟨m,n,x,y⟩,hg,hx,hy⟩
   simp only at hg hx hy
   refine zb.run hmix zgc [6,7] 400 (T:=.ite (decide ((0:Int)<(↑(canon y).length:Int))) (.ex (fun(x_1:Nat×Nat)=>eqL [AV.sl (canon x).length 1 (natG .u32 (canon x)),AV.sl (canon y).length 1 (natG .u32 (canon y))] [AV.sl (canon x_1.1).length 1 (natG .u32 (canon x_1.1)),AV.sl (canon x_1.2).length 1 (natG .u32 (canon x_1.2))]∧List.length (canon x_1.1)<100000∧List.length (canon x_1.2)<100000∧0<x_1.2) fun n_1=>.all (fun(r:Nat×Nat)=>r=(n_1.1/n_1.2,n_1.1%n_1.2)) fun n_2=>.leaf (.back 0 [(6,.ptr 0 0),(7,.ptr 1 0)] [.box [.bool m,.sl (canon y).length 1 (natG .u32 (canon y))],.box [.bool n,.sl (canon n_2.2).length 1 (natG .u32 (canon n_2.2))]])) (.ex (fun(x_1:Bool×Nat)=>eqL [AV.agg [AV.bool false,AV.sl (canon x).length 1 (natG .u32 (canon x))]] [AV.agg [AV.bool x_1.1,AV.sl (canon x_1.2).length 1 (natG .u32 (canon x_1.2))]]∧List.length (canon x_1.2)<1000000) fun n_1=>.all (fun(r:List UInt8×Int)=>r=wr n_1.1 n_1.2) fun n_2=>.leaf (.ret [.str n_2.1,.int .i64 n_2.2] [.box [.bool m,.sl (canon x).length 1 (natG .u32 (canon x))],.box [.bool n,.sl (canon y).length 1 (natG .u32 (canon y))]]))) (by kernel_rfl) ?_
   simp only [Tree.holds,zc,inR,lo,hi]
   refine⟨fun h0=> ?_,fun h0=> ?_⟩
   ·have hy0:0<y:=by
     rcases Nat.eq_zero_or_pos y with h | h
     ·rw [h] at h0; simp [canon] at h0
     ·exact h
    refine⟨(x,y),⟨by simp [za],?_,?_,hy0⟩,⟨_,rfl⟩,?_⟩
    ·have:=jx.1 hx; show(canon x).length<100000; omega
    ·have:=jx.1 hy; show(canon y).length<100000; omega
    rintro _ rfl
    simp only
    rw [if_pos trivial]
    refine⟨⟨(m,n,y,x%y),?_,hy,Nat.lt_trans (Nat.mod_lt x hy0) hy⟩,Nat.mod_lt x hy0,by simp [SGc],by simp [HGc,magS,natS,za],by kernel_rfl,Nat.zero_le _⟩
    show Nat.gcd y (x%y)=Nat.gcd x0 y0
    rw [← hg,Nat.gcd_comm x y,Nat.gcd_rec y x,Nat.gcd_comm]
   ·have hy0:y=0:=xj.1 (by have h0:=of_decide_eq_false h0; omega)
    subst hy0
    refine⟨(false,x),⟨by simp [za],?_⟩,⟨_,rfl⟩,?_⟩
    ·have:=jx.1 hx; show(canon x).length<1000000; omega
    rintro _ rfl
    rw [Nat.gcd_zero_right] at hg
    rw [← hg] at hq
    exact RetR.scal hq rfl (by simp [resV])
theorem WR{h:Heap}{i sz off n n':Nat}{g:Nat→Nat→AV}(hb:h[i]?=some (.arr n' sz g))(hn:off+n≤n'):exp0 h [] (.osl i sz off n) = .sl n sz (zf g off):=by
 simp [exp0,zw,frz1,jk,hb,hn]
theorem zd4{h:Heap}{i sz off n n':Nat}{g:Nat→Nat→AV}(hb:h[i]?=some (.arr n' sz g))(hn:off+n≤n')(hs:∀ j o,j<n→o<sz→zQ (zf g off j o)=true):new0 h [] (.osl i sz off n):=by
 simp only [new0]
 intro _
 rw [WR hb hn]
 exact hs
theorem zi1(g:Nat→Nat→AV):zf g 0=g:=by
 funext j o; simp [zf]
structure IRo(l m:List Nat) where
 qs:List Nat
 r:List Nat
 i:Nat
 hi:i≤l.length
 hql:qs.length+i=l.length
 hqd:Ten.dig qs
 hrd:Ten.dig r
 hrl:r.length≤m.length+1
 hrl2:r.length+i≤l.length
 hlt:Ten.val r<Ten.val m
 hv:Ten.val (l.drop i)=Ten.val qs*Ten.val m+Ten.val r
def big:Nat:=1000
end Go.Proofs.Tryz
end
section
namespace Go.Proofs
set_option maxHeartbeats 1000000 in
set_option maxRecDepth 100000 in
theorem Tryz.V6(s:ByteArray)(c:Int)(w:World) :
  Calls Tryz.prog 106 #[.string s,.int .u8 c] w fun e w'=>e = .returned (.int .i64 (Lib.indexByte s.data.toList c.toNat.toUInt8))∧w'=w:=by
 go_enter Tryz.func106,Tryz.ntmps106
 go_wp2
 rw [run_callFunc_extern Tryz.func110 (by kernel_rfl) (by kernel_rfl) (by kernel_rfl) (e:=Extern.BytealgIndexByte.indexByte) (by kernel_rfl),Lib.run_indexByteString]
 simp only [Result.andThen]
 rw [Oper.upon_value]
 go_wp2
 go_ret
 exact⟨rfl,rfl⟩
set_option maxHeartbeats 2000000 in
set_option maxRecDepth 100000 in
theorem Tryz.Xa(s:ByteArray)(c:UInt8)(w:World) :
  Calls Tryz.prog 104 #[.string s,.string ⟨#[c]⟩] w fun e w'=>e = .returned (.int .i64 (Lib.indexByte s.data.toList c))∧w'=w:=by
 go_enter Tryz.func104,Tryz.ntmps104
 go_wp2_with (go_at_call 106; refine(Tryz.V6 _ _ _).mono ?_; rintro e w' ⟨rfl,rfl⟩)
 ·have h:([c] == s.toList)=true:=by assumption
  go_ret
  refine⟨?_,rfl⟩
  have e:s.data.toList=[c]:=by rw [← Lib.toList_data]; exact(beq_iff_eq.1 h).symm
  rw [e]
  simp [Lib.indexByte]
 ·go_ret
  exact⟨rfl,rfl⟩
end Go.Proofs
end
section
set_option maxRecDepth 100000
open Go Go.Sx Go.Proofs Go.Nov
namespace Go.Proofs.Tryz
attribute [local simp] eqKV eqA eqA0 eqH eqB eqL eqL0
theorem uE(s:List UInt8):Lib.indexByte s 47=if zB s<s.length then(zB s:Int) else -1:=by
 induction s with
 | nil=>rfl
 | cons c s ih=>
  simp only [Lib.indexByte,zB,List.findIdx_cons]
  cases h:(c == 47) with
  | true=>simp
  | false=>
   simp only [Bool.false_eq_true,if_false,ih,cond_false,List.length_cons]
   show _=if zB s+1<s.length+1 then((zB s+1:Nat):Int) else -1
   by_cases h2:zB s<s.length
   ·rw [if_pos h2,if_neg (by simp),if_pos (by omega)]; omega
   ·rw [if_neg h2,if_pos (by rfl),if_neg (by omega)]
def Xd:Ctr:=ctrP true (fun s:List UInt8=>[.str s,.str [47]]) (fun s=>True) (fun s r=>r=if zB s<s.length then(zB s:Int) else -1) (fun _ (r:Int)=>(.int .i64 r,[]))
theorem zby:zd Tryz.prog 104 Xd:=by
 intro args hc Q hq _
 simp only [Xd,ctrP] at hq
 split at hq
 ·obtain⟨s,⟨h1,_⟩,_,h3⟩:=hq
  have hq:=h3 _ rfl
  simp only [Tree.holds] at hq
  refine qP.le h1 ?_
  intro O w σ vals hg hh hr
  simp only [RepL,Rep] at hr
  obtain⟨v1,r1,rfl,rfl,v2,r2,rfl,rfl,rfl⟩:=hr
  refine .inl ⟨enters_of Tryz.func104 (by kernel_rfl) rfl ..,?_⟩
  refine(Tryz.Xa ⟨s.toArray⟩ 47 w).mono ?_
  rintro e w' ⟨rfl,rfl⟩
  have hx:=uE s
  have h0:σ=[]:=List.length_eq_zero_iff.1 hh.len
  subst h0
  refine⟨_,rfl,_,[],[],hq,?_,⟨rfl,fun i j e f a b h=>by simp at h,fun i e a h=>by simp at h,fun i e b h=>by simp at h⟩,hg,Nat.le_refl _,Hold.refl _ _ _,Ext.refl _ _⟩
  simp only [Rep]
  rw [← hx]
 ·exact hq.elim
def cutC:Ctr:=ctrP true (fun s:List UInt8=>[.str s,.str [47]]) (fun s=>s.length<2^62) (fun s r=>r=cutR s) (fun _ r=>(.tup [.str r.1,.str r.2.1,.bool r.2.2],[]))
noncomputable def GC1:Nat→Option Ctr:=fun f=>if f=104 then some (Xd) else none
theorem zgq:∀ g c,GC1 g=some c→zd Tryz.prog g c:=okIf zby (zq)
theorem zel:zd Tryz.prog 100 cutC:=by
 refine ze (fn:=Tryz.f100) (c:=Tryz.f100.body.getD .skip) rfl rfl rfl fun s hs O w0 Q hq=> ?_
 replace hq:=hq _ rfl
 refine zb.run hmix zgq [] 400 (T:=.ex (fun(x:List UInt8)=>eqL [AV.str s,AV.str [(47:UInt8)]] [AV.str x,AV.str [(47:UInt8)]]∧True) fun n=>.all (fun(r:Int)=>r=if zB n<n.length then(↑(zB n):Int) else(-1:Int)) fun n=>.ite (decide ((0:Int)≤n)) (.side ((0:Int)≤n∧n≤(↑s.length:Int)) (.side (inR .i64 (n+(1:Int))) (.side ((0:Int)≤n+(1:Int)∧n+(1:Int)≤s.length) (.leaf (.ret [.str (List.drop 0 (List.take (Int.toNat n) s)),.str (List.drop (Int.toNat (n+(1:Int))) (List.take s.length s)),.bool true] []))))) (.leaf (.ret [.str s,.str #[].toList,.bool false] []))) (by kernel_rfl) ?_
 simp only [Tree.holds,zc,inR,lo,hi]
 refine⟨s,⟨by simp,trivial⟩,⟨_,rfl⟩,?_⟩
 rintro _ rfl
 by_cases h:zB s<s.length
 ·simp only [if_pos h]
  rw [X8 h] at hq
  refine⟨fun _=>⟨by omega,fun _=>⟨by omega,fun _=>⟨by omega,fun _=> ?_⟩⟩⟩,fun hn=> ?_⟩
  ·refine RetR.scal hq rfl ?_
   simp [resV]
  ·have:=of_decide_eq_false hn; omega
 ·simp only [if_neg h]
  rw [US h] at hq
  refine⟨fun hn=> ?_,fun _=>RetR.scal hq rfl (by simp [resV])⟩
  have:=of_decide_eq_true hn; omega
noncomputable def GC2:Nat→Option Ctr:=fun f=>if f=100 then some (cutC) else none
theorem zhx:∀ g c,GC2 g=some c→zd Tryz.prog g c:=okIf zel (zq)
theorem zgp:zd Tryz.prog 86 cutC:=by
 refine ze (fn:=Tryz.f86) (c:=Tryz.f86.body.getD .skip) rfl rfl rfl fun s hs O w0 Q hq=> ?_
 replace hq:=hq _ rfl
 refine zb.run hmix zhx [] 400 (T:=.ex (fun(x:List UInt8)=>eqL [AV.str s,AV.str [(47:UInt8)]] [AV.str x,AV.str [(47:UInt8)]]∧x.length<4611686018427387904) fun n=>.all (fun(r:List UInt8×List UInt8×Bool)=>r=cutR n) fun n=>.leaf (.ret [.str n.1,.str n.2.1,.bool n.2.2] [])) (by kernel_rfl) ?_
 simp only [Tree.holds,zc,inR,lo,hi]
 refine⟨s,⟨by simp,hs⟩,⟨_,rfl⟩,?_⟩
 rintro _ rfl
 exact RetR.scal hq rfl (by simp [resV])
def Xi:Ctr:=ctrP true (fun s:List UInt8=>[.str s]) (fun s=>s.length<2^62) (fun s r=>r=cutR s) (fun _ r=>(.tup [.str r.1,.str r.2.1,.bool r.2.2],[]))
noncomputable def GC3:Nat→Option Ctr:=fun f=>if f=86 then some (cutC) else if f=63 then some (Qh) else none
theorem UJ:∀ g c,GC3 g=some c→zd Tryz.prog g c:=okIf zgp (okIf ZG (zq))
theorem Vf:zd Tryz.prog 61 Xi:=by
 refine ze (fn:=Tryz.f61) (c:=Tryz.f61.body.getD .skip) rfl rfl rfl fun s hs O w0 Q hq=> ?_
 replace hq:=hq _ rfl
 refine zb.run hmix UJ [] 400 (T:=.ex (fun(x:List UInt8)=>eqL [AV.str s,AV.str #[(47:UInt8)].toList] [AV.str x,AV.str [(47:UInt8)]]∧x.length<4611686018427387904) fun n=>.all (fun(r:List UInt8×List UInt8×Bool)=>r=cutR n) fun n=>.leaf (.ret [.str n.1,.str n.2.1,.bool n.2.2] [])) (by kernel_rfl) ?_
 simp only [Tree.holds,zc,inR,lo,hi]
 refine⟨s,⟨by simp,hs⟩,⟨_,rfl⟩,?_⟩
 rintro _ rfl
 exact RetR.scal hq rfl (by simp [resV])
def zgb:Ctr:=ctrP true (fun s:List UInt8=>[.str s]) (fun s=>s.length<2^62) (fun s r=>r=if errI s=12 then 12 else 0) (fun _ (r:Int)=>(.int .i64 r,[]))
theorem ze5:zd Tryz.prog 62 zgb:=by
 refine ze (fn:=Tryz.f62) (c:=Tryz.f62.body.getD .skip) rfl rfl rfl fun s hs O w0 Q hq=> ?_
 replace hq:=hq _ rfl
 refine zb.run hmix UJ [] 400 (T:=.ex (fun(x:List UInt8)=>eqL [AV.str s] [AV.str x]∧x.length<4611686018427387904) fun n=>.all (fun(r:Int)=>r=errI n) fun n=>.ite (!decide (n=14)) (.leaf (.ret [.int .i64 n] [])) (.leaf (.ret [.int .i64 0] []))) (by kernel_rfl) ?_
 simp only [Tree.holds,zc,inR,lo,hi]
 refine⟨s,⟨by simp,hs⟩,⟨_,rfl⟩,?_⟩
 rintro _ rfl
 rcases vX s with h | h | h<;>simp only [h] at hq ⊢
 all_goals
  refine⟨fun h=> ?_,fun h=> ?_⟩
  all_goals first
   | (exfalso; revert h; decide)
   | exact RetR.scal hq rfl (by simp [resV])
def yh:Ctr:=ctrP true (fun s:List UInt8=>[.str s]) (fun s=>s.length<2^62) (fun s r=>r=errR s) (fun _ (r:Int)=>(.int .i64 r,[]))
noncomputable def GC4:Nat→Option Ctr:=fun f=>if f=61 then some (Xi) else if f=62 then some (zgb) else if f=63 then some (Qh) else if f=64 then some (gcdC) else none
theorem zgn:∀ g c,GC4 g=some c→zd Tryz.prog g c:=okIf Vf (okIf ze5 (okIf ZG (okIf U8 (zq))))
theorem xe:zd Tryz.prog 35 yh:=by
 refine ze (fn:=Tryz.f35) (c:=Tryz.f35.body.getD .skip) rfl rfl rfl fun s hs O w0 Q hq=> ?_
 replace hq:=hq _ rfl
 refine zb.run hmix zgn [] 400 (T:=.ex (fun(x:List UInt8)=>eqL [AV.str s] [AV.str x]∧x.length<4611686018427387904) fun n=>.all (fun(r:List UInt8×List UInt8×Bool)=>r=cutR n) fun n=>.ex (fun(x:List UInt8)=>eqL [AV.str n.1] [AV.str x]∧x.length<4611686018427387904) fun n_1=>.all (fun(r:Int)=>r=if errI n_1=12 then(12:Int) else(0:Int)) fun n_2=>.ex (fun(x:List UInt8)=>(!decide (n_2=0))=false∧n.2.2=true→eqL [AV.str n.2.1] [AV.str x]∧x.length<4611686018427387904) fun n_3=>.all (fun(x:Int)=>(!decide (n_2=0))=false∧n.2.2=true→x=if errI n_3=12 then(12:Int) else(0:Int)) fun n_4=>.side (((!decide (n_2=0))=false∧n.2.2=true)∧(!decide (n_4=0))=false→(0:Int)≤0∧(0:Int)<n.2.1.length) (.ite (bif !decide (n_2=0) then true else bif n.2.2 then bif bif bif !decide (n_4=0) then true else decide ((↑(UInt8.toNat (List.getD n.2.1 0 (0:UInt8))):Int)=45) then true else decide (n.2.1=#[(48:UInt8)].toList) then true else decide (n.2.1=#[(49:UInt8)].toList) else false) (.leaf (.ret [.int .i64 12] [])) (.ex (fun(x:List UInt8)=>eqL [AV.str n.1] [AV.str x]∧x.length<4611686018427387904) fun n_5=>.all (fun(r:Int)=>r=errI n_5) fun n_6=>.ex (fun(x:List UInt8)=>(!decide (n_6=0))=false∧n.2.2=true→eqL [AV.str n.2.1] [AV.str x]∧x.length<4611686018427387904) fun n_7=>.all (fun(x:Int)=>(!decide (n_6=0))=false∧n.2.2=true→x=errI n_7) fun n_8=>.ite (bif !decide (n_6=0) then true else bif n.2.2 then !decide (n_8=0) else false) (.leaf (.ret [.int .i64 14] [])) (.ite n.2.2 (.ex (fun(x:List UInt8×List UInt8)=>eqL [AV.str n.1,AV.str n.2.1] [AV.str x.1,AV.str x.2]∧x.1.length<4611686018427387904∧x.2.length<4611686018427387904) fun n=>.all (fun(r:List UInt8×Int)=>r=gcdR n.1 n.2) fun n=>.ite (!decide (n.1=#[(49:UInt8)].toList)) (.leaf (.ret [.int .i64 12] [])) (.leaf (.ret [.int .i64 0] []))) (.leaf (.ret [.int .i64 0] [])))))) (by kernel_rfl) ?_
 simp only [Tree.holds,zc,inR,lo,hi]
 refine⟨s,⟨by simp,hs⟩,⟨_,rfl⟩,?_⟩
 rintro _ rfl
 have hlen:=JF s
 have hno:(cutR s).2.2=false→(cutR s).1=s:=by
  intro h
  unfold cutR at h ⊢
  split at h
  ·cases h
  ·rename_i hn; rw [if_neg hn]
 simp only [errR] at hq
 generalize cutR s=c at hq hlen hno ⊢
 obtain⟨n,d,f⟩:=c
 simp only at hq hlen hno ⊢
 refine⟨n,⟨by simp,by omega⟩,⟨_,rfl⟩,?_⟩
 rintro _ rfl
 refine⟨d,fun _=>⟨by simp,by omega⟩,⟨_,fun _=>rfl⟩,?_⟩
 intro fd hfd
 cases f with
 | false=>
  have hn:=hno rfl
  subst hn
  rw [if_neg (by decide)] at hq
  refine⟨fun h=>by simp at h,fun _=>⟨fun h=> ?_,fun h=> ?_⟩⟩
  ·rcases vX n with e | e | e<;>rw [e] at hq h
   ·simp at h
   ·exact RetR.scal hq rfl (by simp [resV])
   ·simp at h
  ·have hn12:errI n≠12:=by
    intro e; rw [e] at h; simp at h
   refine⟨n,⟨by simp,by omega⟩,⟨_,rfl⟩,?_⟩
   rintro _ rfl
   refine⟨d,fun _=>⟨by simp,by omega⟩,⟨_,fun _=>rfl⟩,?_⟩
   intro fd2 _
   refine⟨fun h=> ?_,fun h=>⟨fun h=>(by cases h),fun _=> ?_⟩⟩
   ·rcases vX n with e | e | e
    ·rw [e] at h; simp at h
    ·exact absurd e hn12
    ·rw [e] at hq; exact RetR.scal hq rfl (by simp [resV])
   ·rcases vX n with e | e | e
    ·rw [e] at hq; exact RetR.scal hq rfl (by simp [resV])
    ·exact absurd e hn12
    ·rw [e] at h; simp at h
 | true=>
  rw [if_pos rfl] at hq
  by_cases hn:errI n=12
  ·rw [if_pos (.inl hn)] at hq
   simp only [hn]
   refine⟨fun h=>by simp at h,fun _=>⟨fun _=>RetR.scal hq rfl (by simp [resV]),fun h=>by simp at h⟩⟩
  ·rw [if_neg hn] at hfd ⊢
   have hfd:=hfd ⟨by simp,rfl⟩
   subst hfd
   by_cases hd:errI d=12
   ·rw [if_pos (.inr (.inl hd))] at hq
    rw [if_pos hd]
    refine⟨fun h=>by simp at h,fun _=>⟨fun _=>RetR.scal hq rfl (by simp [resV]),fun h=>by simp at h⟩⟩
   ·rw [if_neg hd]
    have hd0:d≠[]:=by rintro rfl; exact hd VC
    have hneg:=Jc hd0
    have hneg2:decide (((d.getD 0 0).toNat:Int)=45)=negI d:=by
     rw [hneg]
     by_cases h:d.getD 0 0=45
     ·rw [h]; rfl
     ·rw [decide_eq_false h]
      refine decide_eq_false fun h2=>h (WS ?_)
      rw [h2]; rfl
    rw [hneg2]
    refine⟨fun _=>by have:=List.length_pos_iff.2 hd0; omega,fun _=>⟨fun h=> ?_,fun h=> ?_⟩⟩
    ·have:negI d=true∨d=[48]∨d=[49]:=by
      revert h
      cases negI d<;>simp
     rw [if_pos (.inr (.inr this))] at hq
     exact RetR.scal hq rfl (by simp [resV])
    ·have:¬ (errI n=12∨errI d=12∨negI d=true∨d=[48]∨d=[49]):=by
      revert h
      cases negI d<;>simp [hn,hd]
     rw [if_neg this] at hq
     refine⟨n,⟨by simp,by omega⟩,⟨_,rfl⟩,?_⟩
     rintro _ rfl
     refine⟨d,fun _=>⟨by simp,by omega⟩,⟨_,fun _=>rfl⟩,?_⟩
     intro ed hed
     by_cases hn0:errI n=0
     ·have hed:=hed ⟨by simp [hn0],rfl⟩
      subst hed
      by_cases hd0:errI d=0
      ·rw [if_neg (by simp [hn0,hd0])] at hq
       refine⟨fun h=>by simp [hn0,hd0] at h,fun _=>⟨fun _=> ?_,fun h=>by cases h⟩⟩
       refine⟨(n,d),⟨by simp,by simp only; omega,by simp only; omega⟩,⟨_,rfl⟩,?_⟩
       rintro _ rfl
       refine⟨fun h=> ?_,fun h=> ?_⟩
       ·rw [if_pos (by simpa using h)] at hq
        exact RetR.scal hq rfl (by simp [resV])
       ·rw [if_neg (by simpa using h)] at hq
        exact RetR.scal hq rfl (by simp [resV])
      ·rw [if_pos (.inr hd0)] at hq
       refine⟨fun _=>RetR.scal hq rfl (by simp [resV]),fun h=>by simp [hn0,hd0] at h⟩
     ·rw [if_pos (.inl hn0)] at hq
      refine⟨fun _=>RetR.scal hq rfl (by simp [resV]),fun h=>by simp [hn0] at h⟩
noncomputable def K33:List Go.Sx.Item:=[.code (Tryz.f33.body.getD .skip)]
def Wp:Ctr:=ctrP true (fun d:Int=>[.int .i64 d]) (fun _=>True) (fun d r=>r=dayB d) (fun _ (r:Bool)=>(.bool r,[]))
theorem Jy:zd Tryz.prog 34 Wp:=by
 refine ze (fn:=Tryz.f34) (c:=Tryz.f34.body.getD .skip) rfl rfl rfl fun d hs O w0 Q hq=> ?_
 replace hq:=hq _ rfl
 refine zb.run hmix z7 [] 400 (T:=.leaf (.ret [.bool (bif decide ((0:Int)≤d) then decide (d≤99999) else false)] [])) (by kernel_rfl) ?_
 simp only [Tree.holds,zc]
 refine RetR.scal hq rfl ?_
 simp only [resV,dayB]
 cases decide (0≤d)<;>rfl
theorem ze7(c:UInt8):(bif bif decide (97≤(c.toNat:Int)) then decide ((c.toNat:Int)≤122) else false then true else bif decide (65≤(c.toNat:Int)) then decide ((c.toNat:Int)≤90) else false)=isL c:=by
 have e1:decide (97≤(c.toNat:Int))=decide (97≤c.toNat):=decide_eq_decide.2 (by omega)
 have e2:decide ((c.toNat:Int)≤122)=decide (c.toNat≤122):=decide_eq_decide.2 (by omega)
 have e3:decide (65≤(c.toNat:Int))=decide (65≤c.toNat):=decide_eq_decide.2 (by omega)
 have e4:decide ((c.toNat:Int)≤90)=decide (c.toNat≤90):=decide_eq_decide.2 (by omega)
 rw [e1,e2,e3,e4]
 simp only [isL]
 cases decide (97≤c.toNat)<;>cases decide (c.toNat≤122)<;>cases decide (65≤c.toNat)<;>rfl
def Yg:Ctr:=ctrP true (fun c:UInt8=>[.int .u8 (c.toNat:Int)]) (fun _=>True) (fun c r=>r=isL c) (fun _ (r:Bool)=>(.bool r,[]))
theorem YC:zd Tryz.prog 60 Yg:=by
 refine ze (fn:=Tryz.f60) (c:=Tryz.f60.body.getD .skip) rfl rfl rfl fun c hs O w0 Q hq=> ?_
 replace hq:=hq _ rfl
 refine zb.run hmix z7 [] 400 (T:=.leaf (.ret [.bool (bif bif decide ((97:Int)≤(↑(UInt8.toNat c):Int)) then decide ((↑(UInt8.toNat c):Int)≤122) else false then true else bif decide ((65:Int)≤(↑(UInt8.toNat c):Int)) then decide ((↑(UInt8.toNat c):Int)≤90) else false)] [])) (by kernel_rfl) ?_
 simp only [Tree.holds,zc]
 refine RetR.scal hq rfl ?_
 simp only [resV]
 rw [ze7]
theorem Je(c d:UInt8):decide ((c.toNat:Int)=(d.toNat:Int))=(c == d):=by
 by_cases h:c=d
 ·subst h; simp
 ·rw [decide_eq_false fun h2=>h (WS h2)]
  simp [h]
theorem ze3(c:UInt8):(bif decide ((c.toNat:Int)<48) then true else decide (57<(c.toNat:Int))) = !isD c:=by
 rw [Bool.cond_eq_ite]; exact Z6 c
theorem zbs(c:UInt8):(bif bif bif !isL c then bif decide ((c.toNat:Int)<48) then true else decide (57<(c.toNat:Int)) else false then !decide ((c.toNat:Int)=95) else false then !decide ((c.toNat:Int)=45) else false) = !isN c:=by
 rw [ze3]
 have e1:decide ((c.toNat:Int)=95)=(c == 95):=Je c 95
 have e2:decide ((c.toNat:Int)=45)=(c == 45):=Je c 45
 rw [e1,e2]; simp only [isN]
 cases isL c<;>cases isD c<;>cases (c == 95)<;>cases (c == 45)<;>rfl
def VP:Ctr:=ctrP true (fun s:List UInt8=>[.str s]) (fun s=>s.length<2^62) (fun s r=>r=zS s) (fun _ (r:Bool)=>(.bool r,[]))
noncomputable def GN1:Nat→Option Ctr:=fun f=>if f=60 then some (Yg) else none
theorem UR:∀ g c,GN1 g=some c→zd Tryz.prog g c:=okIf YC (zq)
def SNa(s:List UInt8)(i:Nat):KV:=[(0,.str s),(20,.int .i64 (s.length:Int)),(21,.int .i64 (i:Int)),(31,.undef),(32,.undef),(33,.undef),(34,.undef),(35,.undef),(36,.undef),(39,.undef),(40,.undef),(43,.undef),(44,.undef)]
theorem Ub{O:Nat→Prop}{w0:World}{Q:AV×Heap→Prop}{Hs:Nat→KV→Heap→Prop}(s:List UInt8)(hs:s.length<2^62)(hq:Q (.bool (s.all isN),[])) :
  zb Tryz.prog Tryz.f33 O 0 w0 [] Hs (RetR VP 0 Q) (.code (.loop (lps K33 0).1)::(lps K33 0).2) (mk Tryz.f33.ntmps (SNa s 0) []):=by
 refine zb.loop (ι:={i:Nat // i≤s.length∧∀ j,j<i→isN (s.getD j 0)=true}) (fun i=>SNa s i.1) (fun _=>[]) (fun i=>s.length - i.1) ⟨0,Nat.zero_le _,fun j hj=>by omega⟩ 0 ?_ ?_ (by kernel_rfl)
 ·exact⟨by simp [SNa],by simp,by kernel_rfl,Nat.zero_le _⟩
 ·rintro⟨i,hil,hib⟩
  refine zb.run hmix UR [0,20,21,31,32,33,34,35,36,39,40,43,44] 400 (T:=.ite (decide ((↑i:Int)<s.length)) (.side ((0:Int)≤i∧(↑i:Int)<s.length) (.ex (fun(x:UInt8)=>eqL [AV.int .u8 (↑(UInt8.toNat (s.getD (↑i:Int).toNat (0:UInt8))):Int)] [AV.int .u8 (↑(UInt8.toNat x):Int)]∧True) fun n=>.all (fun(r:Bool)=>r=isL n) fun n=>.ite (bif bif bif !n then bif decide ((↑(UInt8.toNat (s.getD (↑i:Int).toNat (0:UInt8))):Int)<48) then true else decide ((57:Int)<(↑(UInt8.toNat (s.getD (↑i:Int).toNat (0:UInt8))):Int)) else false then !decide ((↑(UInt8.toNat (s.getD (↑i:Int).toNat (0:UInt8))):Int)=95) else false then !decide ((↑(UInt8.toNat (s.getD (↑i:Int).toNat (0:UInt8))):Int)=45) else false) (.leaf (.ret [.bool false] [])) (.side (inR .i64 ((↑i:Int)+(1:Int))) (.leaf (.back 0 [(0,.str s),(20,.int .i64 s.length),(21,.int .i64 ((↑i:Int)+(1:Int))),(31,.undef),(32,.undef),(33,.undef),(34,.undef),(35,.undef),(36,.undef),(39,.undef),(40,.undef),(43,.undef),(44,.undef)] []))))) (.leaf (.ret [.bool true] []))) (by kernel_rfl) ?_
  simp only [Tree.holds,zc,inR,lo,hi,Int.toNat_natCast]
  refine⟨fun hlt=> ?_,fun hge=> ?_⟩
  ·have hlt:i<s.length:=by have:=of_decide_eq_true hlt; omega
   refine⟨by omega,fun _=>⟨s.getD i 0,⟨by simp,trivial⟩,⟨_,rfl⟩,?_⟩⟩
   rintro _ rfl
   rw [zbs]
   refine⟨fun h=> ?_,fun h=>⟨by omega,fun _=> ?_⟩⟩
   ·rw [Wj hlt (by simpa using h)] at hq
    exact RetR.scal hq rfl (by simp [resV])
   ·rw [if_pos trivial]
    refine⟨⟨i+1,hlt,fun j hj=> ?_⟩,by show s.length - (i+1)<s.length - i; omega,by simp [SNa],by simp,by kernel_rfl,Nat.zero_le _⟩
    rcases Nat.lt_or_ge j i with h1 | h1
    ·exact hib j h1
    ·have:j=i:=by omega
     rw [this]; simpa using h
  ·have hge:i=s.length:=by have:=of_decide_eq_false hge; omega
   subst hge
   rw [zcw hib] at hq
   exact RetR.scal hq rfl (by simp [resV])
theorem JV:zd Tryz.prog 33 VP:=by
 refine ze (fn:=Tryz.f33) (c:=Tryz.f33.body.getD .skip) rfl rfl rfl fun s hs O w0 Q hq=> ?_
 replace hq:=hq _ rfl
 refine zb.run hmix UR [0,20,21,31,32,33,34,35,36,39,40,43,44] 400 (T:=.side ((bif decide ((↑s.length:Int)<1) then true else decide ((40:Int)<s.length))=false→(0:Int)≤0∧(0:Int)<s.length) (.ex (fun(x:UInt8)=>(bif decide ((↑s.length:Int)<1) then true else decide ((40:Int)<s.length))=false→eqL [AV.int .u8 (↑(UInt8.toNat (s.getD 0 (0:UInt8))):Int)] [AV.int .u8 (↑(UInt8.toNat x):Int)]∧True) fun n=>.all (fun(x:Bool)=>(bif decide ((↑s.length:Int)<1) then true else decide ((40:Int)<s.length))=false→x=isL n) fun n=>.ite (bif bif decide ((↑s.length:Int)<1) then true else decide ((40:Int)<s.length) then true else !n) (.leaf (.ret [.bool false] [])) (.leaf (.loop (Prod.fst (lps K33 0)) (Prod.snd (lps K33 0)) [(0,.str s),(20,.int .i64 s.length),(21,.int .i64 0),(31,.undef),(32,.undef),(33,.undef),(34,.undef),(35,.undef),(36,.undef),(39,.undef),(40,.undef),(43,.undef),(44,.undef)] [])))) (by kernel_rfl) ?_
 simp only [Tree.holds,zc,inR,lo,hi]
 have hd:decide ((s.length:Int)<1) = !decide (0<s.length):=by
  by_cases h:0<s.length
  ·rw [decide_eq_true h,decide_eq_false (by omega)]; rfl
  ·rw [decide_eq_false h,decide_eq_true (by omega)]; rfl
 have hd2:decide (40<(s.length:Int)) = !decide (s.length≤40):=by
  by_cases h:s.length≤40
  ·rw [decide_eq_true h,decide_eq_false (by omega)]; rfl
  ·rw [decide_eq_false h,decide_eq_true (by omega)]; rfl
 rw [hd,hd2]
 have hnb:zS s=(decide (0<s.length)&&decide (s.length≤40)&&isL (s.getD 0 0)&&s.all isN):=rfl
 cases h1:decide (0<s.length) with
 | false=>
  rw [hnb,h1] at hq
  refine⟨fun h=>(by cases h),fun _=>⟨0,fun h=>(by cases h),⟨false,fun h=>(by cases h)⟩,?_⟩⟩
  intro b _
  exact⟨fun _=>RetR.scal hq rfl (by simp [resV]),fun h=>(by cases h)⟩
 | true=>
  have h1':=of_decide_eq_true h1
  cases h2:decide (s.length≤40) with
  | false=>
   rw [hnb,h1,h2] at hq
   refine⟨fun h=>(by cases h),fun _=>⟨0,fun h=>(by cases h),⟨false,fun h=>(by cases h)⟩,?_⟩⟩
   intro b _
   exact⟨fun _=>RetR.scal hq rfl (by simp [resV]),fun h=>(by cases h)⟩
  | true=>
   refine⟨fun _=>by omega,fun _=>⟨s.getD 0 0,fun _=>⟨by simp,trivial⟩,⟨_,fun _=>rfl⟩,?_⟩⟩
   intro b hb
   have hb:=hb rfl
   subst hb
   cases h3:isL (s.getD 0 0) with
   | false=>
    rw [hnb,h1,h2,h3] at hq
    exact⟨fun _=>RetR.scal hq rfl (by simp [resV]),fun h=>(by cases h)⟩
   | true=>
    rw [hnb,h1,h2,h3] at hq
    refine⟨fun h=>(by cases h),fun _=> ?_⟩
    exact Ub s hs hq
noncomputable def K17:List Go.Sx.Item:=[.code (Tryz.f17.body.getD .skip)]
theorem yr{X R:Type}{P:Program}{g:Nat}{fresh:Bool}{inp:X→List AV}{pre:X→Prop}{post:X→R→Prop}{out:X→R→AV×Heap}(μ:X→Nat)
  (step:∀ n,zd P g (ctrP fresh inp (fun x=>μ x<n∧pre x) post out)→zd P g (ctrP fresh inp (fun x=>μ x<n+1∧pre x) post out)):zd P g (ctrP fresh inp pre post out):=by
 have all:∀ n,zd P g (ctrP fresh inp (fun x=>μ x<n∧pre x) post out):=by
  intro n
  induction n with
  | zero=>
   intro args hc Q hq _
   simp only [ctrP] at hq
   split at hq
   ·obtain⟨x,⟨_,h,_⟩,_⟩:=hq
    exact absurd h (Nat.not_lt_zero _)
   ·exact hq.elim
  | succ n ih=>exact step n ih
 intro args hc Q hq hf
 match hc,hq,hf with
 | [],hq,hf=>
  obtain⟨x,⟨h1,h2⟩,h3⟩:=hq
  exact all (μ x+1) args [] Q ⟨x,⟨h1,Nat.lt_succ_self _,h2⟩,h3⟩ hf
 | _::_,hq,_=>exact hq.elim
def Yl(n:Nat):Ctr:=ctrP true (fun x:Ex=>[x.exA]) (fun x=>x.size<n∧x.size<2^62) (fun x r=>r=x.size) (fun _ (r:Nat)=>(.int .i64 (r:Int),[]))
def GSz(g n:Nat):Nat→Option Ctr:=fun f=>if f=g then some (Yl n) else none
theorem zcp{g n:Nat}(h:zd Tryz.prog g (Yl n)):∀ f c,GSz g n f=some c→zd Tryz.prog f c:=by
 intro f c hf
 simp only [GSz] at hf
 split at hf
 ·rename_i hg; subst hg; cases hf; exact h
 ·cases hf
theorem uJ{x:Ex}{k d:Int}{r m:List UInt8}{l:Nat}{g:Nat→Nat→AV}(hk:k=x.kind)(hr:r=x.rat)(hm:m=x.name)(hd:d=x.date)(hl:l=x.sub.length)(hg:eqG x.sub.length 5 g (Ex.exG x.sub)):eqL [.agg [.int .u8 k,.str r,.str m,.int .i64 d,.sl l 5 g]] [x.exA]:=by
 subst hk; subst hr; subst hm; subst hd; subst hl
 exact⟨⟨⟨rfl,rfl⟩,rfl,rfl,⟨rfl,rfl⟩,⟨rfl,rfl,hg⟩,trivial⟩,trivial⟩
def SSz(s:List Ex)(c i:Nat):KV:=[(3,.int .i64 (c:Int)),(7,Ex.exS s),(8,.int .i64 (s.length:Int)),(9,.int .i64 (i:Int))]
theorem Ua(n:Nat)(ih:zd Tryz.prog 17 (Yl n)):zd Tryz.prog 17 (Yl (n+1)):=by
 refine ze (fn:=Tryz.f17) (c:=Tryz.f17.body.getD .skip) rfl rfl rfl fun x hx O w0 Q hq=> ?_
 replace hq:=hq _ rfl
 obtain⟨hxn,hxs⟩:=hx
 rw [Ex.size_eq] at hxn hxs hq
 obtain⟨k,r,m,d,s⟩:=x
 simp only [Ex.sub] at hxn hxs hq
 refine zb.run hmix (zcp ih) [3,7,8,9] 400 (T:=.leaf (.loop (Prod.fst (lps K17 0)) (Prod.snd (lps K17 0)) [(3,.int .i64 1),(7,.sl s.length 5 (Ex.exG s)),(8,.int .i64 s.length),(9,.int .i64 0)] [.box [.int .u8 k,.str r,.str m,.int .i64 d,.sl s.length 5 (Ex.exG s)]])) (by kernel_rfl) ?_
 simp only [Tree.holds,zc]
 have hlen:=Ex.q8 s
 refine zb.loop (ι:={i:Nat // i≤s.length}) (fun i=>SSz s (1+Ex.zo (s.take i.1)) i.1) (fun _=>[]) (fun i=>s.length - i.1) ⟨0,Nat.zero_le _⟩ 0 ?_ ?_ (by kernel_rfl)
 ·exact⟨by simp [SSz,Ex.zo,Ex.exS,za],by simp,by kernel_rfl,Nat.zero_le _⟩
 ·rintro⟨i,hil⟩
  have hle:=Ex.xm s i
  obtain⟨c,hc⟩:∃ c,1+Ex.zo (s.take i)=c:=⟨_,rfl⟩
  simp only [hc]
  refine zb.run hmix (zcp ih) [3,7,8,9] 400 (T:=.ite (decide ((↑i:Int)<s.length)) (.side ((0:Int)≤i∧(↑i:Int)<s.length) (.ex (fun(x:Ex)=>eqL [AV.agg [AV.int .u8 (Ex.kind (s.getD (↑i:Int).toNat Ex.nil)),AV.str (Ex.rat (s.getD (↑i:Int).toNat Ex.nil)),AV.str (Ex.name (s.getD (↑i:Int).toNat Ex.nil)),AV.int .i64 (Ex.date (s.getD (↑i:Int).toNat Ex.nil)),AV.sl (List.length (Ex.sub (s.getD (↑i:Int).toNat Ex.nil))) 5 (Ex.deep (s.getD (↑i:Int).toNat Ex.nil))]] [AV.agg [AV.int .u8 x.kind,AV.str x.rat,AV.str x.name,AV.int .i64 x.date,AV.sl x.sub.length 5 (Ex.exG x.sub)]]∧Ex.size x<n∧Ex.size x<4611686018427387904) fun n=>.all (fun(r:Nat)=>r=Ex.size n) fun n=>.side (inR .i64 ((↑c:Int)+n)) (.side (inR .i64 ((↑i:Int)+(1:Int))) (.leaf (.back 0 [(3,.int .i64 ((↑c:Int)+n)),(7,.sl s.length 5 (Ex.exG s)),(8,.int .i64 s.length),(9,.int .i64 ((↑i:Int)+(1:Int)))] [.box [.int .u8 (Ex.kind (s.getD (↑i:Int).toNat Ex.nil)),.str (Ex.rat (s.getD (↑i:Int).toNat Ex.nil)),.str (Ex.name (s.getD (↑i:Int).toNat Ex.nil)),.int .i64 (Ex.date (s.getD (↑i:Int).toNat Ex.nil)),.sl (List.length (Ex.sub (s.getD (↑i:Int).toNat Ex.nil))) 5 (Ex.deep (s.getD (↑i:Int).toNat Ex.nil))]]))))) (.leaf (.ret [.int .i64 c] []))) (by kernel_rfl) ?_
  simp only [Tree.holds,zc,inR,lo,hi,Int.toNat_natCast]
  refine⟨fun hlt=> ?_,fun hge=> ?_⟩
  ·have hlt:i<s.length:=by have:=of_decide_eq_true hlt; omega
   have hg:=Ex.wE hlt
   have ht:=Ex.Zv s i hlt
   have hle2:=Ex.xm s (i+1)
   refine⟨by omega,fun _=>⟨s.getD i Ex.nil,⟨uJ rfl rfl rfl rfl rfl (Ex.jW _),by omega,by omega⟩,⟨_,rfl⟩,?_⟩⟩
   rintro _ rfl
   refine⟨by omega,fun _=>⟨by omega,fun _=> ?_⟩⟩
   rw [if_pos trivial]
   refine⟨⟨i+1,hlt⟩,by show s.length - (i+1)<s.length - i; omega,?_,by simp,by kernel_rfl,Nat.zero_le _⟩
   simp [SSz,Ex.exS,za,ht]; omega
  ·have hge:i=s.length:=by have:=of_decide_eq_false hge; omega
   subst hge
   rw [List.take_length] at hc
   rw [hc] at hq
   exact RetR.scal hq rfl (by simp [resV])
def zfc:Ctr:=ctrP true (fun x:Ex=>[x.exA]) (fun x=>x.size<2^62) (fun x r=>r=x.size) (fun _ (r:Nat)=>(.int .i64 (r:Int),[]))
theorem zey:zd Tryz.prog 17 zfc:=yr Ex.size Ua
def G1c(g:Nat)(C:Ctr):Nat→Option Ctr:=fun f=>if f=g then some C else none
theorem k8{g:Nat}{C:Ctr}(h:zd Tryz.prog g C):∀ f c,G1c g C f=some c→zd Tryz.prog f c:=by
 intro f c hf
 simp only [G1c] at hf
 split at hf
 ·rename_i hg; subst hg; cases hf; exact h
 ·cases hf
noncomputable def K78:List Go.Sx.Item:=[.code (Tryz.f78.body.getD .skip)]
def za4(n:Nat):Ctr:=ctrP true (fun p:Ex×Nat=>[p.1.exA,.int .i64 (p.2:Int)]) (fun p=>p.1.size<n∧p.1.size<2^62∧p.2<2^40) (fun p r=>r=min p.1.depth (p.2+1)) (fun _ (r:Nat)=>(.int .i64 (r:Int),[]))
def SDp(s:List Ex)(limit c i:Nat):KV:=[(1,.int .i64 (limit:Int)),(5,.int .i64 (c:Int)),(11,Ex.exS s),(12,.int .i64 (s.length:Int)),(13,.int .i64 (i:Int))]
theorem KN(n:Nat)(ih:zd Tryz.prog 78 (za4 n)):zd Tryz.prog 78 (za4 (n+1)):=by
 refine ze (fn:=Tryz.f78) (c:=Tryz.f78.body.getD .skip) rfl rfl rfl fun p hp O w0 Q hq=> ?_
 obtain⟨x,limit⟩:=p
 obtain⟨hxn,hxs,hli⟩:=hp
 replace hq:=hq _ rfl
 simp only at hxn hxs hli hq
 have hds:=Ex.xn x
 have hdp:=Ex.Un x
 rw [Ex.yl] at hq hds hdp
 rw [Ex.size_eq] at hxn hxs hds
 obtain⟨k,r,m,d,s⟩:=x
 simp only [Ex.sub] at hxn hxs hq hds hdp
 have hlen:=Ex.q8 s
 refine zb.run hmix (k8 ih) [1,5,11,12,13] 400 (T:=.ite (decide ((0:Int)<limit)) (.leaf (.loop (Prod.fst (lps K78 0)) (Prod.snd (lps K78 0)) [(1,.int .i64 limit),(5,.int .i64 0),(11,.sl s.length 5 (Ex.exG s)),(12,.int .i64 s.length),(13,.int .i64 0)] [.box [.int .u8 k,.str r,.str m,.int .i64 d,.sl s.length 5 (Ex.exG s)]])) (.side (inR .i64 (1:Int)) (.leaf (.ret [.int .i64 1] [.box [.int .u8 k,.str r,.str m,.int .i64 d,.sl s.length 5 (Ex.exG s)]])))) (by kernel_rfl) ?_
 simp only [Tree.holds,zc,inR,lo,hi,Int.toNat_natCast]
 refine⟨fun hl=> ?_,fun hl=> ?_⟩
 ·have hl:0<limit:=by have:=of_decide_eq_true hl; omega
  refine zb.loop (ι:={i:Nat // i≤s.length}) (fun i=>SDp s limit (min (Ex.zV (s.take i.1)) limit) i.1) (fun _=>[]) (fun i=>s.length - i.1) ⟨0,Nat.zero_le _⟩ 0 ?_ ?_ (by kernel_rfl)
  ·exact⟨by simp [SDp,Ex.zV,Ex.exS,za],by simp,by kernel_rfl,Nat.zero_le _⟩
  ·rintro⟨i,hil⟩
   obtain⟨c,hc⟩:∃ c,min (Ex.zV (s.take i)) limit=c:=⟨_,rfl⟩
   simp only [hc]
   refine zb.run hmix (k8 ih) [1,5,11,12,13] 400 (T:=.ite (decide ((↑i:Int)<s.length)) (.side ((0:Int)≤i∧(↑i:Int)<s.length) (.side (inR .i64 ((↑limit:Int) - (1:Int))) (.ex (fun(x:Ex×Nat)=>eqL [AV.agg [AV.int .u8 (Ex.kind (s.getD (↑i:Int).toNat Ex.nil)),AV.str (Ex.rat (s.getD (↑i:Int).toNat Ex.nil)),AV.str (Ex.name (s.getD (↑i:Int).toNat Ex.nil)),AV.int .i64 (Ex.date (s.getD (↑i:Int).toNat Ex.nil)),AV.sl (List.length (Ex.sub (s.getD (↑i:Int).toNat Ex.nil))) 5 (Ex.deep (s.getD (↑i:Int).toNat Ex.nil))],AV.int .i64 ((↑limit:Int) - (1:Int))] [AV.agg [AV.int .u8 x.1.kind,AV.str x.1.rat,AV.str x.1.name,AV.int .i64 x.1.date,AV.sl x.1.sub.length 5 (Ex.exG x.1.sub)],AV.int .i64 x.2]∧Ex.size x.1<n∧Ex.size x.1<4611686018427387904∧x.2<1099511627776) fun n=>.all (fun(r:Nat)=>r=min n.1.depth (n.2+1)) fun n=>.side (inR .i64 ((↑i:Int)+(1:Int))) (.leaf (.back 0 [(1,.int .i64 limit),(5,.int .i64 (max (↑c:Int) (↑n:Int))),(11,.sl s.length 5 (Ex.exG s)),(12,.int .i64 s.length),(13,.int .i64 ((↑i:Int)+(1:Int)))] [.box [.int .u8 (Ex.kind (s.getD (↑i:Int).toNat Ex.nil)),.str (Ex.rat (s.getD (↑i:Int).toNat Ex.nil)),.str (Ex.name (s.getD (↑i:Int).toNat Ex.nil)),.int .i64 (Ex.date (s.getD (↑i:Int).toNat Ex.nil)),.sl (List.length (Ex.sub (s.getD (↑i:Int).toNat Ex.nil))) 5 (Ex.deep (s.getD (↑i:Int).toNat Ex.nil))]]))))) (.side (inR .i64 ((↑c:Int)+(1:Int))) (.leaf (.ret [.int .i64 ((↑c:Int)+(1:Int))] [])))) (by kernel_rfl) ?_
   simp only [Tree.holds,zc,inR,lo,hi,Int.toNat_natCast]
   refine⟨fun hlt=> ?_,fun hge=> ?_⟩
   ·have hlt:i<s.length:=by have:=of_decide_eq_true hlt; omega
    have hg:=Ex.wE hlt
    have ht:=Ex.k7 s i hlt
    refine⟨by omega,fun _=>⟨by omega,fun _=>⟨(s.getD i Ex.nil,limit - 1),⟨?_,by show(s.getD i Ex.nil).size<n; omega,by show(s.getD i Ex.nil).size<2^62; omega,by show limit - 1<2^40; omega⟩,⟨_,rfl⟩,?_⟩⟩⟩
    ·have e1:(limit:Int) - 1=((limit - 1:Nat):Int):=by omega
     rw [e1]
     exact⟨⟨⟨rfl,rfl⟩,rfl,rfl,⟨rfl,rfl⟩,⟨rfl,rfl,Ex.jW _⟩,trivial⟩,⟨rfl,rfl⟩,trivial⟩
    rintro _ rfl
    refine⟨by omega,fun _=> ?_⟩
    rw [if_pos trivial]
    refine⟨⟨i+1,hlt⟩,by show s.length - (i+1)<s.length - i; omega,?_,by simp,by kernel_rfl,Nat.zero_le _⟩
    simp [SDp,ht,Ex.exS,za]; omega
   ·have hge:i=s.length:=by have:=of_decide_eq_false hge; omega
    subst hge
    rw [List.take_length] at hc
    refine⟨by omega,fun _=> ?_⟩
    exact RetR.scal hq rfl (by simp [resV]; omega)
 ·have hl:limit=0:=by have:=of_decide_eq_false hl; omega
  refine⟨by decide,fun _=> ?_⟩
  exact RetR.scal hq rfl (by simp [resV]; omega)
theorem zbx:zd Tryz.prog 78 (ctrP true (fun p:Ex×Nat=>[p.1.exA,.int .i64 (p.2:Int)]) (fun p=>p.1.size<2^62∧p.2<2^40) (fun p r=>r=min p.1.depth (p.2+1)) (fun _ (r:Nat)=>(.int .i64 (r:Int),[]))):=yr (fun p=>p.1.size) KN
noncomputable def K53:List Go.Sx.Item:=[.code (Tryz.f53.body.getD .skip)]
def zgd:Ctr:=ctrP true (fun x:Ex=>[x.exA]) (fun x=>x.rat.length<2^40∧x.name.length<2^40) (fun x r=>r=bif jf x.kind x.rat x.name x.date x.sub.length then 1 else 0) (fun _ (r:Int)=>(.int .u8 r,[]))
noncomputable def GLf:Nat→Option Ctr:=fun f=>if f=35 then some (yh) else if f=33 then some (VP) else if f=34 then some (Wp) else none
theorem zgx:∀ g c,GLf g=some c→zd Tryz.prog g c:=okIf xe (okIf JV (okIf Jy (zq)))
theorem zff:zd Tryz.prog 82 zgd:=by
 refine ze (fn:=Tryz.f82) (c:=Tryz.f82.body.getD .skip) rfl rfl rfl fun x hx O w0 Q hq=> ?_
 obtain⟨k,r,m,d,s⟩:=x
 replace hq:=hq _ rfl
 obtain⟨h1,h2⟩:=hx
 simp only [Ex.rat,Ex.name,Ex.kind,Ex.date,Ex.sub] at h1 h2 hq
 refine zb.run hmix zgx [] 400 (T:=.ite (decide (k=1)) (.ex (fun(x:List UInt8)=>decide ((↑s.length:Int)=0)=true→eqL [AV.str r] [AV.str x]∧x.length<4611686018427387904) fun n=>.all (fun(x:Int)=>decide ((↑s.length:Int)=0)=true→x=errR n) fun n=>.ite (!bif bif bif decide ((↑s.length:Int)=0) then decide (n=0) else false then decide (m=#[].toList) else false then decide (d=0) else false) (.leaf (.ret [.int .u8 0] [.box [.int .u8 k,.str r,.str m,.int .i64 d,.sl s.length 5 (Ex.exG s)]])) (.leaf (.ret [.int .u8 1] [.box [.int .u8 k,.str r,.str m,.int .i64 d,.sl s.length 5 (Ex.exG s)]]))) (.ite (decide (k=2)) (.ex (fun(x:List UInt8)=>(bif decide ((↑s.length:Int)=0) then decide (r=#[].toList) else false)=true→eqL [AV.str m] [AV.str x]∧x.length<4611686018427387904) fun n=>.all (fun(x:Bool)=>(bif decide ((↑s.length:Int)=0) then decide (r=#[].toList) else false)=true→x=zS n) fun n=>.ex (fun(x:Int)=>(bif bif decide ((↑s.length:Int)=0) then decide (r=#[].toList) else false then n else false)=true→eqL [AV.int .i64 d] [AV.int .i64 x]∧True) fun n_1=>.all (fun(x:Bool)=>(bif bif decide ((↑s.length:Int)=0) then decide (r=#[].toList) else false then n else false)=true→x=dayB n_1) fun n_2=>.ite (!bif bif bif decide ((↑s.length:Int)=0) then decide (r=#[].toList) else false then n else false then n_2 else false) (.leaf (.ret [.int .u8 0] [.box [.int .u8 k,.str r,.str m,.int .i64 d,.sl s.length 5 (Ex.exG s)]])) (.leaf (.ret [.int .u8 1] [.box [.int .u8 k,.str r,.str m,.int .i64 d,.sl s.length 5 (Ex.exG s)]]))) (.ite (decide (k=3)) (.ex (fun(x:List UInt8)=>(bif decide ((↑s.length:Int)=0) then decide (r=#[].toList) else false)=true→eqL [AV.str m] [AV.str x]∧x.length<4611686018427387904) fun n=>.all (fun(x:Bool)=>(bif decide ((↑s.length:Int)=0) then decide (r=#[].toList) else false)=true→x=zS n) fun n=>.ite (!bif bif bif decide ((↑s.length:Int)=0) then decide (r=#[].toList) else false then n else false then decide (d=0) else false) (.leaf (.ret [.int .u8 0] [.box [.int .u8 k,.str r,.str m,.int .i64 d,.sl s.length 5 (Ex.exG s)]])) (.leaf (.ret [.int .u8 1] [.box [.int .u8 k,.str r,.str m,.int .i64 d,.sl s.length 5 (Ex.exG s)]]))) (.ite true (.leaf (.ret [.int .u8 0] [.box [.int .u8 k,.str r,.str m,.int .i64 d,.sl s.length 5 (Ex.exG s)]])) (.leaf (.ret [.int .u8 1] [.box [.int .u8 k,.str r,.str m,.int .i64 d,.sl s.length 5 (Ex.exG s)]])))))) (by kernel_rfl) ?_
 simp only [Tree.holds,zc,inR,lo,hi,Int.toNat_natCast]
 have fin:∀ T:Bool,T=jf k r m d s.length→((!T)=true→Q (.int .u8 0,[]))∧((!T)=false→Q (.int .u8 1,[])):=by
  intro T hT
  subst hT
  cases hl:jf k r m d s.length with
  | true=>rw [hl] at hq; exact⟨fun h=>(by cases h),fun _=>hq⟩
  | false=>rw [hl] at hq; exact⟨fun _=>hq,fun h=>(by cases h)⟩
 refine⟨fun hk=> ?_,fun hk=> ?_⟩
 ·have hk:k=1:=of_decide_eq_true hk
  refine⟨r,fun _=>⟨by simp,by omega⟩,⟨_,fun _=>rfl⟩,?_⟩
  intro e he
  have F:=fin (bif bif bif decide ((s.length:Int)=0) then decide (e=0) else false then decide (m=[]) else false then decide (d=0) else false) (by
   by_cases hl:s.length=0
   ·have:=he (by simp [hl])
    subst this
    simp [jf,hk,hl,Bool.and_assoc]
   ·simp [jf,hl])
  exact⟨fun h=>RetR.scal (F.1 h) rfl (by simp [resV]),fun h=>RetR.scal (F.2 h) rfl (by simp [resV])⟩
 ·have hk1:k≠1:=of_decide_eq_false hk
  refine⟨fun hk=> ?_,fun hk=> ?_⟩
  ·have hk:k=2:=of_decide_eq_true hk
   refine⟨m,fun _=>⟨by simp,by omega⟩,⟨_,fun _=>rfl⟩,?_⟩
   intro e he
   refine⟨d,fun _=>⟨by simp,trivial⟩,⟨_,fun _=>rfl⟩,?_⟩
   intro f hf
   have F:=fin (bif bif bif decide ((s.length:Int)=0) then decide (r=[]) else false then e else false then f else false) (by
    by_cases hl:s.length=0
    ·by_cases hr:r=[]
     ·have:=he (by simp [hl,hr])
      subst this
      cases hn:zS m with
      | true=>
       have:=hf (by simp [hl,hr,hn])
       subst this
       simp [jf,hk,hl,hr,hn]
      | false=>simp [jf,hk,hl,hr,hn]
     ·simp [jf,hk,hl,hr]
    ·simp [jf,hl])
   exact⟨fun h=>RetR.scal (F.1 h) rfl (by simp [resV]),fun h=>RetR.scal (F.2 h) rfl (by simp [resV])⟩
  ·have hk2:k≠2:=of_decide_eq_false hk
   refine⟨fun hk=> ?_,fun hk=> ?_⟩
   ·have hk:k=3:=of_decide_eq_true hk
    refine⟨m,fun _=>⟨by simp,by omega⟩,⟨_,fun _=>rfl⟩,?_⟩
    intro e he
    have F:=fin (bif bif bif decide ((s.length:Int)=0) then decide (r=[]) else false then e else false then decide (d=0) else false) (by
     by_cases hl:s.length=0
     ·by_cases hr:r=[]
      ·have:=he (by simp [hl,hr])
       subst this
       simp [jf,hk,hl,hr]
      ·simp [jf,hk,hl,hr]
     ·simp [jf,hl])
    exact⟨fun h=>RetR.scal (F.1 h) rfl (by simp [resV]),fun h=>RetR.scal (F.2 h) rfl (by simp [resV])⟩
   ·have hk3:k≠3:=of_decide_eq_false hk
    have F:=fin false (by simp [jf,hk1,hk2,hk3])
    exact⟨fun h=>RetR.scal (F.1 rfl) rfl (by simp [resV]),fun h=>by cases h⟩
def SSo(s:List Ex)(i:Nat):KV:=[(3,.ptr 1 0),(41,Ex.exS s),(42,.int .i64 (s.length:Int)),(43,.int .i64 (i:Int))]
def HSo(k:Int):Heap:=[.dead,.box [.sl (jb k) 1 fun j _=>.int .u8 (qp k j),.int .u8 (qZ k)]]
def Ys(n:Nat):Ctr:=ctrP true (fun x:Ex=>[x.exA]) (fun x=>x.size<n∧x.size<2^60∧x.z8<2^40) (fun x r=>r=x.qQ) (fun _ (r:Int)=>(.int .u8 r,[]))
def GSo(n:Nat):Nat→Option Ctr:=fun f=>if f=53 then some (Ys n) else if f=82 then some zgd else none
theorem zbe{n:Nat}(h:zd Tryz.prog 53 (Ys n)):∀ f c,GSo n f=some c→zd Tryz.prog f c:=by
 intro f c hf
 simp only [GSo] at hf
 split at hf
 ·rename_i hg; subst hg; cases hf; exact h
 ·split at hf
  ·rename_i hg; subst hg; cases hf; exact zff
  ·cases hf
theorem Ud(n:Nat)(ih:zd Tryz.prog 53 (Ys n)):zd Tryz.prog 53 (Ys (n+1)):=by
 refine ze (fn:=Tryz.f53) (c:=Tryz.f53.body.getD .skip) rfl rfl rfl fun x hx O w0 Q hq=> ?_
 replace hq:=hq _ rfl
 obtain⟨hxn,hxs,hxb⟩:=hx
 rw [Ex.size_eq] at hxn hxs
 rw [Ex.Y4] at hxb
 rw [Ex.za1] at hq
 obtain⟨k,r,m,d,s⟩:=x
 simp only [Ex.sub,Ex.rat,Ex.name,Ex.kind,Ex.date] at hxn hxs hq hxb
 refine zb.run hmix (zbe ih) [3,41,42,43] 400 (T:=.ite (vG k) (.ite false (.ex (fun(x:Ex)=>eqL [AV.agg [AV.int .u8 k,AV.str r,AV.str m,AV.int .i64 d,AV.sl s.length 5 (Ex.exG s)]] [AV.agg [AV.int .u8 x.kind,AV.str x.rat,AV.str x.name,AV.int .i64 x.date,AV.sl x.sub.length 5 (Ex.exG x.sub)]]∧x.rat.length<1099511627776∧x.name.length<1099511627776) fun n=>.all (fun(r:Int)=>r=bif jf n.kind n.rat n.name n.date n.sub.length then(1:Int) else(0:Int)) fun n=>.leaf (.ret [.int .u8 n] [.box [.int .u8 k,.str r,.str m,.int .i64 d,.sl s.length 5 (Ex.exG s)],.box [.sl (jb k) 1 fun(j x:Nat)=>.int .u8 (qp k j),.int .u8 (qZ k)]])) (.ite (bif bif bif !decide ((↑s.length:Int)=(↑(jb k):Int)) then true else !decide (r=#[].toList) then true else !decide (m=#[].toList) then true else !decide (d=0)) (.leaf (.ret [.int .u8 0] [.box [.int .u8 k,.str r,.str m,.int .i64 d,.sl s.length 5 (Ex.exG s)],.box [.sl (jb k) 1 fun(j x:Nat)=>.int .u8 (qp k j),.int .u8 (qZ k)]])) (.leaf (.loop (Prod.fst (lps K53 0)) (Prod.snd (lps K53 0)) [(3,.ptr 1 0),(41,.sl s.length 5 (Ex.exG s)),(42,.int .i64 s.length),(43,.int .i64 0)] [.box [.int .u8 k,.str r,.str m,.int .i64 d,.sl s.length 5 (Ex.exG s)],.box [.sl (jb k) 1 fun(j x:Nat)=>.int .u8 (qp k j),.int .u8 (qZ k)]])))) (.ite true (.ex (fun(x:Ex)=>eqL [AV.agg [AV.int .u8 k,AV.str r,AV.str m,AV.int .i64 d,AV.sl s.length 5 (Ex.exG s)]] [AV.agg [AV.int .u8 x.kind,AV.str x.rat,AV.str x.name,AV.int .i64 x.date,AV.sl x.sub.length 5 (Ex.exG x.sub)]]∧x.rat.length<1099511627776∧x.name.length<1099511627776) fun n=>.all (fun(r:Int)=>r=bif jf n.kind n.rat n.name n.date n.sub.length then(1:Int) else(0:Int)) fun n=>.leaf (.ret [.int .u8 n] [.box [.int .u8 k,.str r,.str m,.int .i64 d,.sl s.length 5 (Ex.exG s)],.box [.nils,.int .u8 0]])) (.ite (bif bif bif !decide ((↑s.length:Int)=0) then true else !decide (r=#[].toList) then true else !decide (m=#[].toList) then true else !decide (d=0)) (.leaf (.ret [.int .u8 0] [.box [.int .u8 k,.str r,.str m,.int .i64 d,.sl s.length 5 (Ex.exG s)],.box [.nils,.int .u8 0]])) (.leaf (.loop (Prod.fst (lps K53 0)) (Prod.snd (lps K53 0)) [(3,.ptr 1 0),(41,.sl s.length 5 (Ex.exG s)),(42,.int .i64 s.length),(43,.int .i64 0)] [.box [.int .u8 k,.str r,.str m,.int .i64 d,.sl s.length 5 (Ex.exG s)],.box [.nils,.int .u8 0]]))))) (by kernel_rfl) ?_
 simp only [Tree.holds,zc,inR,lo,hi,Int.toNat_natCast]
 refine⟨fun hk=>⟨fun h=>(by cases h),fun _=>⟨fun h=> ?_,fun h=> ?_⟩⟩,fun hk=> ?_⟩
 ·have hn:¬ (r=[]∧m=[]∧d=0∧Ex.qR s=qK k):=by
   rintro⟨rfl,rfl,rfl,h4⟩
   have:s.length=jb k:=by rw [← Ex.jD,h4]; rfl
   simp [this] at h
  have e:vI k r m d (Ex.qR s)=0:=by unfold vI; rw [if_pos hk,if_neg hn]
  exact RetR.scal hq rfl (by simp [resV,e])
 ·have hh:s.length=jb k∧r=[]∧m=[]∧d=0:=by
   simp at h
   obtain⟨⟨⟨h1,h2⟩,h3⟩,h4⟩:=h
   exact⟨by omega,h2,h3,h4⟩
  obtain⟨hl,rfl,rfl,rfl⟩:=hh
  have hlen:=Ex.q8 s
  have e1:vI k [] [] 0 (Ex.qR s)=if Ex.qR s=qK k then qZ k else 0:=by unfold vI; rw [if_pos hk]; simp
  rw [e1] at hq
  clear h e1
  refine zb.loop (ι:={i:Nat // i≤s.length∧∀ j,j<i→(s.getD j Ex.nil).qQ=qp k j}) (fun i=>SSo s i.1) (fun _=>HSo k) (fun i=>s.length - i.1) ⟨0,Nat.zero_le _,fun j hj=>by omega⟩ 0 ?_ ?_ (by kernel_rfl)
  ·exact⟨by simp [SSo,Ex.exS,za],by simp [HSo,za],by kernel_rfl,Nat.zero_le _⟩
  ·rintro⟨i,hil,hib⟩
   refine zb.run hmix (zbe ih) [3,41,42,43] 400 (T:=.ite (decide ((↑i:Int)<s.length)) (.side ((0:Int)≤i∧(↑i:Int)<s.length) (.side ((0:Int)≤i∧(↑i:Int)<(↑(jb k):Int)) (.ex (fun(x:Ex)=>eqL [AV.agg [AV.int .u8 (Ex.kind (s.getD (↑i:Int).toNat Ex.nil)),AV.str (Ex.rat (s.getD (↑i:Int).toNat Ex.nil)),AV.str (Ex.name (s.getD (↑i:Int).toNat Ex.nil)),AV.int .i64 (Ex.date (s.getD (↑i:Int).toNat Ex.nil)),AV.sl (List.length (Ex.sub (s.getD (↑i:Int).toNat Ex.nil))) 5 (Ex.deep (s.getD (↑i:Int).toNat Ex.nil))]] [AV.agg [AV.int .u8 x.kind,AV.str x.rat,AV.str x.name,AV.int .i64 x.date,AV.sl x.sub.length 5 (Ex.exG x.sub)]]∧Ex.size x<n∧Ex.size x<1152921504606846976∧Ex.z8 x<1099511627776) fun n=>.all (fun(r:Int)=>r=Ex.qQ n) fun n=>.ite (!decide (n=qp k (↑i:Int).toNat)) (.leaf (.ret [.int .u8 0] [.dead,.box [.sl (jb k) 1 fun(j x:Nat)=>.int .u8 (qp k j),.int .u8 (qZ k)],.box [.int .u8 (Ex.kind (s.getD (↑i:Int).toNat Ex.nil)),.str (Ex.rat (s.getD (↑i:Int).toNat Ex.nil)),.str (Ex.name (s.getD (↑i:Int).toNat Ex.nil)),.int .i64 (Ex.date (s.getD (↑i:Int).toNat Ex.nil)),.sl (List.length (Ex.sub (s.getD (↑i:Int).toNat Ex.nil))) 5 (Ex.deep (s.getD (↑i:Int).toNat Ex.nil))]])) (.side (inR .i64 ((↑i:Int)+(1:Int))) (.leaf (.back 0 [(3,.ptr 1 0),(41,.sl s.length 5 (Ex.exG s)),(42,.int .i64 s.length),(43,.int .i64 ((↑i:Int)+(1:Int)))] [.dead,.box [.sl (jb k) 1 fun(j x:Nat)=>.int .u8 (qp k j),.int .u8 (qZ k)],.box [.int .u8 (Ex.kind (s.getD (↑i:Int).toNat Ex.nil)),.str (Ex.rat (s.getD (↑i:Int).toNat Ex.nil)),.str (Ex.name (s.getD (↑i:Int).toNat Ex.nil)),.int .i64 (Ex.date (s.getD (↑i:Int).toNat Ex.nil)),.sl (List.length (Ex.sub (s.getD (↑i:Int).toNat Ex.nil))) 5 (Ex.deep (s.getD (↑i:Int).toNat Ex.nil))]])))))) (.leaf (.ret [.int .u8 (qZ k)] [.dead,.box [.sl (jb k) 1 fun(j x:Nat)=>.int .u8 (qp k j),.int .u8 (qZ k)]]))) (by kernel_rfl) ?_
   simp only [Tree.holds,zc,inR,lo,hi,Int.toNat_natCast]
   refine⟨fun hlt=> ?_,fun hge=> ?_⟩
   ·have hlt:i<s.length:=by have:=of_decide_eq_true hlt; omega
    have hg:=Ex.wE hlt
    have hg2:=Ex.Xj hlt
    have hb0:Ex.jc s<2^40:=by simpa using hxb
    refine⟨by omega,fun _=>⟨by omega,fun _=>⟨s.getD i Ex.nil,⟨uJ rfl rfl rfl rfl rfl (Ex.jW _),by omega,by omega,by omega⟩,⟨_,rfl⟩,?_⟩⟩⟩
    intro e he
    refine⟨fun h=> ?_,fun h=>⟨by omega,fun _=> ?_⟩⟩
    ·have hne:¬ Ex.qR s=qK k:=by
      intro h2
      have:=(Ex.WD.1 h2).2 i hlt
      rw [← he] at this
      have h3:¬ e=qp k i:=by simpa using h
      exact h3 this
     rw [if_neg hne] at hq
     exact RetR.scal hq rfl (by simp [resV])
    ·rw [if_pos trivial]
     have h3:e=qp k i:=by simpa using h
     refine⟨⟨i+1,hlt,fun j hj=> ?_⟩,by show s.length - (i+1)<s.length - i; omega,by simp [SSo,Ex.exS,za],by simp [HSo,za],by kernel_rfl,Nat.zero_le _⟩
     rcases Nat.lt_or_ge j i with h1 | h1
     ·exact hib j h1
     ·have:j=i:=by omega
      rw [this,← he,h3]
   ·have hge:i=s.length:=by have:=of_decide_eq_false hge; omega
    subst hge
    have:Ex.qR s=qK k:=Ex.WD.2 ⟨hl,hib⟩
    rw [if_pos this] at hq
    exact RetR.scal hq rfl (by simp [resV])
 ·refine⟨fun _=> ?_,fun h=>(by cases h)⟩
  refine⟨.mk k r m d s,⟨⟨⟨⟨rfl,rfl⟩,rfl,rfl,⟨rfl,rfl⟩,⟨rfl,rfl,za _ _ _⟩,trivial⟩,trivial⟩,by show r.length<_; omega,by show m.length<_; omega⟩,⟨_,rfl⟩,?_⟩
  intro e he
  have e1:vI k r m d (Ex.qR s)=e:=by
   unfold vI
   rw [if_neg (by rw [hk]; decide),he,Ex.jD]
   show _=bif jf k r m d s.length then 1 else 0
   cases jf k r m d s.length<;>rfl
  rw [e1] at hq
  exact RetR.scal hq rfl (by simp [resV])
def XZ:Ctr:=ctrP true (fun x:Ex=>[x.exA]) (fun x=>x.size<2^60∧x.z8<2^40) (fun x r=>r=x.qQ) (fun _ (r:Int)=>(.int .u8 r,[]))
theorem zem:zd Tryz.prog 53 XZ:=yr Ex.size Ud
def zc0:Ctr:=ctrP true (fun x:Ex=>[x.exA]) (fun x=>x.size<2^62) (fun x r=>r=x.size) (fun _ (r:Nat)=>(.int .i64 (r:Int),[]))
def zbi:Ctr:=ctrP true (fun p:Ex×Nat=>[p.1.exA,.int .i64 (p.2:Int)]) (fun p=>p.1.size<2^62∧p.2<2^40) (fun p r=>r=min p.1.depth (p.2+1)) (fun _ (r:Nat)=>(.int .i64 (r:Int),[]))
def XP:Ctr:=ctrP true (fun x:Ex=>[x.exA]) (fun x=>x.size<2^40∧x.z8<2^40) (fun x r=>r=x.errX) (fun _ (r:Int)=>(.int .i64 r,[]))
theorem eqX(x:Ex):eqL [.agg [.int .u8 x.kind,.str x.rat,.str x.name,.int .i64 x.date,.sl x.sub.length 5 (Ex.exG x.sub)]] [x.exA]:=uJ rfl rfl rfl rfl rfl (za _ _ _)
theorem Y1{x:Ex}{n:Nat}(hn:decide (500<(x.size:Int))=false→(60<n↔60<x.depth)) :
  ((bif decide (500<(x.size:Int)) then true else decide (60<(n:Int)))=true→x.errX=4)∧((bif decide (500<(x.size:Int)) then true else decide (60<(n:Int)))=false→x.errX=if x.qQ=0 then 8 else 0):=by
 by_cases h:500<x.size
 ·have e:decide (500<(x.size:Int))=true:=decide_eq_true (by omega)
  rw [e]
  exact⟨fun _=>if_pos (.inl h),fun h=>by cases h⟩
 ·have e:decide (500<(x.size:Int))=false:=decide_eq_false (by omega)
  have h2:=hn e
  rw [e]
  simp only [cond_false]
  by_cases h3:60<n
  ·exact⟨fun _=>if_pos (.inr (h2.1 h3)),fun h=>by have:=of_decide_eq_false h; omega⟩
  ·refine⟨fun h=>by have:=of_decide_eq_true h; omega,fun _=> ?_⟩
   unfold Ex.errX
   rw [if_neg]
   rintro(h4 | h4)
   ·exact h h4
   ·exact h3 (h2.2 h4)
noncomputable def GCk:Nat→Option Ctr:=fun f=>if f=17 then some (zc0) else if f=78 then some (zbi) else if f=53 then some (XZ) else none
theorem zgv:∀ g c,GCk g=some c→zd Tryz.prog g c:=okIf zey (okIf zbx (okIf zem (zq)))
theorem Uv:zd Tryz.prog 51 XP:=by
 refine ze (fn:=Tryz.f51) (c:=Tryz.f51.body.getD .skip) rfl rfl rfl fun x hx O w0 Q hq=> ?_
 replace hq:=hq _ rfl
 obtain⟨h1,h2⟩:=hx
 refine zb.run hmix zgv [] 400 (T:=.ex (fun(x_1:Ex)=>eqL [AV.agg [AV.int .u8 x.kind,AV.str x.rat,AV.str x.name,AV.int .i64 x.date,AV.sl x.sub.length 5 (Ex.exG x.sub)]] [AV.agg [AV.int .u8 x_1.kind,AV.str x_1.rat,AV.str x_1.name,AV.int .i64 x_1.date,AV.sl x_1.sub.length 5 (Ex.exG x_1.sub)]]∧Ex.size x_1<4611686018427387904) fun n=>.all (fun(r:Nat)=>r=Ex.size n) fun n=>.ex (fun(x_1:Ex×Nat)=>decide ((500:Int)<n)=false→eqL [AV.agg [AV.int .u8 x.kind,AV.str x.rat,AV.str x.name,AV.int .i64 x.date,AV.sl x.sub.length 5 (Ex.exG x.sub)],AV.int .i64 60] [AV.agg [AV.int .u8 x_1.1.kind,AV.str x_1.1.rat,AV.str x_1.1.name,AV.int .i64 x_1.1.date,AV.sl x_1.1.sub.length 5 (Ex.exG x_1.1.sub)],AV.int .i64 x_1.2]∧Ex.size x_1.1<4611686018427387904∧x_1.2<1099511627776) fun n_1=>.all (fun(x:Nat)=>decide ((500:Int)<n)=false→x=min n_1.1.depth (n_1.2+1)) fun n_2=>.ite (bif decide ((500:Int)<n) then true else decide ((60:Int)<n_2)) (.leaf (.ret [.int .i64 4] [.box [.int .u8 x.kind,.str x.rat,.str x.name,.int .i64 x.date,.sl x.sub.length 5 (Ex.exG x.sub)]])) (.ex (fun(x_1:Ex)=>eqL [AV.agg [AV.int .u8 x.kind,AV.str x.rat,AV.str x.name,AV.int .i64 x.date,AV.sl x.sub.length 5 (Ex.exG x.sub)]] [AV.agg [AV.int .u8 x_1.kind,AV.str x_1.rat,AV.str x_1.name,AV.int .i64 x_1.date,AV.sl x_1.sub.length 5 (Ex.exG x_1.sub)]]∧Ex.size x_1<1152921504606846976∧Ex.z8 x_1<1099511627776) fun n=>.all (fun(r:Int)=>r=Ex.qQ n) fun n=>.ite (decide (n=0)) (.leaf (.ret [.int .i64 8] [.box [.int .u8 x.kind,.str x.rat,.str x.name,.int .i64 x.date,.sl x.sub.length 5 (Ex.exG x.sub)]])) (.leaf (.ret [.int .i64 0] [.box [.int .u8 x.kind,.str x.rat,.str x.name,.int .i64 x.date,.sl x.sub.length 5 (Ex.exG x.sub)]])))) (by kernel_rfl) ?_
 simp only [Tree.holds,zc,inR,lo,hi,Int.toNat_natCast]
 refine⟨x,⟨uJ rfl rfl rfl rfl rfl (za _ _ _),by omega⟩,⟨_,rfl⟩,?_⟩
 rintro _ rfl
 refine⟨(x,60),fun _=>⟨⟨⟨⟨rfl,rfl⟩,rfl,rfl,⟨rfl,rfl⟩,⟨rfl,rfl,za _ _ _⟩,trivial⟩,⟨rfl,rfl⟩,trivial⟩,by show x.size<_; omega,by show 60<1099511627776; omega⟩,⟨_,fun _=>rfl⟩,?_⟩
 intro c hc
 have em:=Y1 (x:=x) (n:=c) fun h=>by have:=hc h; simp only at this; omega
 refine⟨fun h=> ?_,fun h=>⟨x,⟨eqX x,by omega,by omega⟩,⟨_,rfl⟩,?_⟩⟩
 ·rw [em.1 h] at hq
  exact RetR.scal hq rfl (by simp [resV])
 ·have e:=em.2 h
  rintro _ rfl
  refine⟨fun g=> ?_,fun g=> ?_⟩
  ·rw [e,if_pos (of_decide_eq_true g)] at hq
   exact RetR.scal hq rfl (by simp [resV])
  ·rw [e,if_neg (of_decide_eq_false g)] at hq
   exact RetR.scal hq rfl (by simp [resV])
noncomputable def K56:List Go.Sx.Item:=[.code (Tryz.f56.body.getD .skip)]
def Kz(n:Nat):Ctr:=ctrP true (fun p:Ex×Ex=>[p.1.exA,p.2.exA]) (fun p=>p.1.size<n∧p.1.size<2^60) (fun p r=>(r=true↔p.1=p.2)) (fun _ (r:Bool)=>(.bool r,[]))
def eqfC(n:Nat):Ctr:=ctrP true (fun p:List Ex×List Ex=>[Ex.exS p.1,Ex.exS p.2,.fn 24 [] []]) (fun p=>Ex.zo p.1<n∧Ex.zo p.1<2^60) (fun p r=>(r=true↔p.1=p.2)) (fun _ (r:Bool)=>(.bool r,[]))
theorem XH(p:Prop):∃ b:Bool,b=true↔p:=by
 by_cases h:p
 ·exact⟨true,by simp [h]⟩
 ·exact⟨false,by simp [h]⟩
def SEq(s t:List Ex)(i:Nat):KV:=[(1,Ex.exS t),(2,.fn 24 [] []),(15,Ex.exS s),(16,.int .i64 (s.length:Int)),(17,.int .i64 (i:Int))]
theorem zgw(n:Nat)(ih:zd Tryz.prog 24 (Kz n)):zd Tryz.prog 56 (eqfC n):=by
 refine ze (fn:=Tryz.f56) (c:=Tryz.f56.body.getD .skip) rfl rfl rfl fun p hp O w0 Q hq=> ?_
 obtain⟨s,t⟩:=p
 obtain⟨h1,h2⟩:=hp
 simp only at h1 h2 hq
 have hlen:=Ex.q8 s
 refine zb.run hmix (k8 ih) [1,2,15,16,17] 400 (T:=.ite (!decide ((↑s.length:Int)=t.length)) (.leaf (.ret [.bool false] [])) (.leaf (.loop (Prod.fst (lps K56 0)) (Prod.snd (lps K56 0)) [(1,.sl t.length 5 (Ex.exG t)),(2,.fn 24 [] []),(15,.sl s.length 5 (Ex.exG s)),(16,.int .i64 s.length),(17,.int .i64 0)] []))) (by kernel_rfl) ?_
 simp only [Tree.holds,zc,inR,lo,hi,Int.toNat_natCast]
 refine⟨fun h=> ?_,fun h=> ?_⟩
 ·refine RetR.scal (hq false ⟨fun h=>(by cases h),fun he=> ?_⟩) rfl (by simp [resV])
  subst he
  simp at h
 ·have hl:s.length=t.length:=by
   by_cases e1:s.length=t.length
   ·exact e1
   ·rw [decide_eq_false (show ¬ ((s.length:Nat):Int)=t.length by omega)] at h
    cases h
  refine zb.loop (ι:={i:Nat // i≤s.length∧∀ j,j<i→s.getD j Ex.nil=t.getD j Ex.nil}) (fun i=>SEq s t i.1) (fun _=>[]) (fun i=>s.length - i.1) ⟨0,Nat.zero_le _,fun j hj=>by omega⟩ 0 ?_ ?_ (by kernel_rfl)
  ·exact⟨by simp [SEq,Ex.exS,za],by simp,by kernel_rfl,Nat.zero_le _⟩
  ·rintro⟨i,hil,hib⟩
   refine zb.run hmix (k8 ih) [1,2,15,16,17] 400 (T:=.ite (decide ((↑i:Int)<s.length)) (.side ((0:Int)≤i∧(↑i:Int)<s.length) (.side ((0:Int)≤i∧(↑i:Int)<t.length) (.ex (fun(x:Ex×Ex)=>eqL [AV.agg [AV.int .u8 (Ex.kind (s.getD (↑i:Int).toNat Ex.nil)),AV.str (Ex.rat (s.getD (↑i:Int).toNat Ex.nil)),AV.str (Ex.name (s.getD (↑i:Int).toNat Ex.nil)),AV.int .i64 (Ex.date (s.getD (↑i:Int).toNat Ex.nil)),AV.sl (List.length (Ex.sub (s.getD (↑i:Int).toNat Ex.nil))) 5 (Ex.deep (s.getD (↑i:Int).toNat Ex.nil))],AV.agg [AV.int .u8 (Ex.kind (t.getD (↑i:Int).toNat Ex.nil)),AV.str (Ex.rat (t.getD (↑i:Int).toNat Ex.nil)),AV.str (Ex.name (t.getD (↑i:Int).toNat Ex.nil)),AV.int .i64 (Ex.date (t.getD (↑i:Int).toNat Ex.nil)),AV.sl (List.length (Ex.sub (t.getD (↑i:Int).toNat Ex.nil))) 5 (Ex.deep (t.getD (↑i:Int).toNat Ex.nil))]] [AV.agg [AV.int .u8 x.1.kind,AV.str x.1.rat,AV.str x.1.name,AV.int .i64 x.1.date,AV.sl x.1.sub.length 5 (Ex.exG x.1.sub)],AV.agg [AV.int .u8 x.2.kind,AV.str x.2.rat,AV.str x.2.name,AV.int .i64 x.2.date,AV.sl x.2.sub.length 5 (Ex.exG x.2.sub)]]∧Ex.size x.1<n∧Ex.size x.1<1152921504606846976) fun n=>.all (fun(r:Bool)=>r=true↔n.1=n.2) fun n=>.ite (!n) (.leaf (.ret [.bool false] [.box [.int .u8 (Ex.kind (s.getD (↑i:Int).toNat Ex.nil)),.str (Ex.rat (s.getD (↑i:Int).toNat Ex.nil)),.str (Ex.name (s.getD (↑i:Int).toNat Ex.nil)),.int .i64 (Ex.date (s.getD (↑i:Int).toNat Ex.nil)),.sl (List.length (Ex.sub (s.getD (↑i:Int).toNat Ex.nil))) 5 (Ex.deep (s.getD (↑i:Int).toNat Ex.nil))],.box [.int .u8 (Ex.kind (t.getD (↑i:Int).toNat Ex.nil)),.str (Ex.rat (t.getD (↑i:Int).toNat Ex.nil)),.str (Ex.name (t.getD (↑i:Int).toNat Ex.nil)),.int .i64 (Ex.date (t.getD (↑i:Int).toNat Ex.nil)),.sl (List.length (Ex.sub (t.getD (↑i:Int).toNat Ex.nil))) 5 (Ex.deep (t.getD (↑i:Int).toNat Ex.nil))]])) (.side (inR .i64 ((↑i:Int)+(1:Int))) (.leaf (.back 0 [(1,.sl t.length 5 (Ex.exG t)),(2,.fn 24 [] []),(15,.sl s.length 5 (Ex.exG s)),(16,.int .i64 s.length),(17,.int .i64 ((↑i:Int)+(1:Int)))] [.box [.int .u8 (Ex.kind (s.getD (↑i:Int).toNat Ex.nil)),.str (Ex.rat (s.getD (↑i:Int).toNat Ex.nil)),.str (Ex.name (s.getD (↑i:Int).toNat Ex.nil)),.int .i64 (Ex.date (s.getD (↑i:Int).toNat Ex.nil)),.sl (List.length (Ex.sub (s.getD (↑i:Int).toNat Ex.nil))) 5 (Ex.deep (s.getD (↑i:Int).toNat Ex.nil))],.box [.int .u8 (Ex.kind (t.getD (↑i:Int).toNat Ex.nil)),.str (Ex.rat (t.getD (↑i:Int).toNat Ex.nil)),.str (Ex.name (t.getD (↑i:Int).toNat Ex.nil)),.int .i64 (Ex.date (t.getD (↑i:Int).toNat Ex.nil)),.sl (List.length (Ex.sub (t.getD (↑i:Int).toNat Ex.nil))) 5 (Ex.deep (t.getD (↑i:Int).toNat Ex.nil))]])))))) (.leaf (.ret [.bool true] []))) (by kernel_rfl) ?_
   simp only [Tree.holds,zc,inR,lo,hi,Int.toNat_natCast]
   refine⟨fun hlt=> ?_,fun hge=> ?_⟩
   ·have hlt:i<s.length:=by have:=of_decide_eq_true hlt; omega
    have hg:=Ex.wE hlt
    refine⟨by omega,fun _=>⟨by omega,fun _=>⟨(s.getD i Ex.nil,t.getD i Ex.nil),⟨⟨⟨⟨rfl,rfl⟩,rfl,rfl,⟨rfl,rfl⟩,⟨rfl,rfl,Ex.jW _⟩,trivial⟩,⟨⟨rfl,rfl⟩,rfl,rfl,⟨rfl,rfl⟩,⟨rfl,rfl,Ex.jW _⟩,trivial⟩,trivial⟩,by show(s.getD i Ex.nil).size<n; omega,by show(s.getD i Ex.nil).size<_; omega⟩,XH _,?_⟩⟩⟩
    intro e he
    simp only at he
    refine⟨fun g=> ?_,fun g=>⟨by omega,fun _=> ?_⟩⟩
    ·refine RetR.scal (hq false ⟨fun h=>(by cases h),fun h3=> ?_⟩) rfl (by simp [resV])
     have:e=true:=he.2 (by rw [h3])
     rw [this] at g; cases g
    ·rw [if_pos trivial]
     have g:e=true:=by simpa using g
     refine⟨⟨i+1,hlt,fun j hj=> ?_⟩,by show s.length - (i+1)<s.length - i; omega,by simp [SEq,Ex.exS,za],by simp,by kernel_rfl,Nat.zero_le _⟩
     rcases Nat.lt_or_ge j i with h1 | h1
     ·exact hib j h1
     ·have:j=i:=by omega
      rw [this]; exact he.1 g
   ·have hge:i=s.length:=by have:=of_decide_eq_false hge; omega
    subst hge
    exact RetR.scal (hq true ⟨fun _=>Ex.J0 hl hib,fun _=>rfl⟩) rfl (by simp [resV])
theorem K3(n:Nat)(ih:zd Tryz.prog 24 (Kz n)):zd Tryz.prog 24 (Kz (n+1)):=by
 refine ze (fn:=Tryz.f24) (c:=Tryz.f24.body.getD .skip) rfl rfl rfl fun p hp O w0 Q hq=> ?_
 obtain⟨x,y⟩:=p
 obtain⟨h1,h2⟩:=hp
 simp only at h1 h2 hq
 rw [Ex.size_eq] at h1 h2
 refine zb.run hmix (k8 (zgw n ih)) [] 400 (T:=.ex (fun(x_1:List Ex×List Ex)=>(bif bif bif decide (Ex.kind x=Ex.kind y) then decide (Ex.rat x=Ex.rat y) else false then decide (Ex.name x=Ex.name y) else false then decide (Ex.date x=Ex.date y) else false)=true→eqL [AV.sl x.sub.length 5 (Ex.exG x.sub),AV.sl y.sub.length 5 (Ex.exG y.sub),AV.fn 24 [] []] [AV.sl x_1.1.length 5 (Ex.exG x_1.1),AV.sl x_1.2.length 5 (Ex.exG x_1.2),AV.fn 24 [] []]∧Ex.zo x_1.1<n∧Ex.zo x_1.1<1152921504606846976) fun n=>.all (fun(x_1:Bool)=>(bif bif bif decide (Ex.kind x=Ex.kind y) then decide (Ex.rat x=Ex.rat y) else false then decide (Ex.name x=Ex.name y) else false then decide (Ex.date x=Ex.date y) else false)=true→(x_1=true↔n.1=n.2)) fun n=>.leaf (.ret [.bool (bif bif bif bif decide (Ex.kind x=Ex.kind y) then decide (Ex.rat x=Ex.rat y) else false then decide (Ex.name x=Ex.name y) else false then decide (Ex.date x=Ex.date y) else false then n else false)] [.box [.int .u8 x.kind,.str x.rat,.str x.name,.int .i64 x.date,.sl x.sub.length 5 (Ex.exG x.sub)],.box [.int .u8 y.kind,.str y.rat,.str y.name,.int .i64 y.date,.sl y.sub.length 5 (Ex.exG y.sub)]])) (by kernel_rfl) ?_
 simp only [Tree.holds,zc,inR,lo,hi,Int.toNat_natCast]
 refine⟨(x.sub,y.sub),fun _=>⟨⟨⟨rfl,rfl,za _ _ _⟩,⟨rfl,rfl,za _ _ _⟩,by simp,trivial⟩,by show Ex.zo x.sub<n; omega,by show Ex.zo x.sub<_; omega⟩,(XH _).imp fun _ h _=>h,?_⟩
 intro e he
 refine RetR.scal (hq (bif (bif bif bif decide (x.kind=y.kind) then decide (x.rat=y.rat) else false then decide (x.name=y.name) else false then decide (x.date=y.date) else false) then e else false) ?_) rfl (by simp [resV])
 rw [Ex.Ww]
 by_cases g1:x.kind=y.kind
 ·by_cases g2:x.rat=y.rat
  ·by_cases g3:x.name=y.name
   ·by_cases g4:x.date=y.date
    ·have:=he (by simp [g1,g2,g3,g4])
     simp [g1,g2,g3,g4]
     exact this
    ·simp [g4]
   ·simp [g3]
  ·simp [g2]
 ·simp [g1]
def Vv:Ctr:=ctrP true (fun p:Ex×Ex=>[p.1.exA,p.2.exA]) (fun p=>p.1.size<2^60) (fun p r=>(r=true↔p.1=p.2)) (fun _ (r:Bool)=>(.bool r,[]))
theorem UW:zd Tryz.prog 24 Vv:=yr (fun p=>p.1.size) K3
end Go.Proofs.Tryz
end
section
namespace Go.Sx
variable [Stat]
section
variable {own own' O:Nat→Prop} {w w':World} {σ σ':List SE} {P:Program} {fn:Func} {Xp:List PanicEntry→Prop}
def upA0(d k:Nat):AV→AV→Prop
 | .nils,.osl i _ off n=>(d≤i∧i<d+k)∧off=0∧n=0
 | a,b=>a=b
def upL0(d k:Nat):List AV→List AV→Prop
 | [],[]=>True
 | a::l,b::m=>upA0 d k a b∧upL0 d k l m
 | _,_=>False
def upA1(d k:Nat):AV→AV→Prop
 | .agg l,.agg m=>upL0 d k l m
 | a,b=>upA0 d k a b
def upL1(d k:Nat):List AV→List AV→Prop
 | [],[]=>True
 | a::l,b::m=>upA1 d k a b∧upL1 d k l m
 | _,_=>False
def upA2(d k:Nat):AV→AV→Prop
 | .tup l,.tup m=>upL1 d k l m
 | a,b=>upA1 d k a b
def j8(k:Nat):List SE:=List.replicate k ⟨none,0⟩
theorem yc.mono{g:Nat}{vals:Array Value}{R R':Value→World→Prop}(hR:∀ v w',R v w'→R' v w')(h:yc P g vals w R):yc P g vals w R':=by
 rcases h with ⟨h1,h2⟩ | ⟨v,w',h1,h2⟩
 ·exact .inl ⟨h1,h2.mono fun e w' ⟨v,he,hv⟩=>⟨v,he,hR v w' hv⟩⟩
 ·exact .inr ⟨v,w',h1,hR v w' h2⟩
theorem qF{k i:Nat}{e:SE}(h:(σ++j8 k)[i]?=some e):(i<σ.length∧σ[i]?=some e)∨(σ.length≤i∧e=⟨none,0⟩):=by
 rw [List.getElem?_append] at h
 split at h
 ·rename_i hi; exact .inl ⟨hi,h⟩
 ·rename_i hi
  right
  refine⟨by omega,?_⟩
  simp only [j8,List.getElem?_replicate] at h
  split at h
  ·cases h; rfl
  ·cases h
theorem ZH{k b:Nat}(h:Mine (σ++j8 k) b):Mine σ b:=by
 obtain⟨e,he,ad,h1,h2⟩:=h
 rcases List.mem_append.1 he with he | he
 ·exact⟨e,he,ad,h1,h2⟩
 ·have:=List.eq_of_mem_replicate he
  subst this
  cases h1
theorem yU{k b:Nat}(h:Own O (σ++j8 k) b):Own O σ b:=by
 rcases h with h | h
 ·exact .inl h
 ·exact .inr (ZH h)
theorem vj(K:List Nat)(w:World)(σ:List SE)(k:Nat):Hold K w σ w (σ++j8 k):=fun i e he _=>by
 have hi:=(List.getElem?_eq_some_iff.1 he).1
 exact⟨by rw [List.getElem?_append_left hi]; exact he,fun ad _ cs el h=>⟨cs,el,h,rfl⟩⟩
theorem Jz{k:Nat}(hx:Ext own w own' w){a b:AV}{v:Value}(hu:upA0 σ.length k a b)(ha:Rep own w a σ v):Rep own' w b (σ++j8 k) v:=by
 unfold upA0 at hu
 split at hu
 ·obtain⟨⟨h1,h2⟩,rfl,rfl⟩:=hu
  rename_i i sz _ _
  simp only [Rep] at ha ⊢
  refine⟨⟨none,0⟩,?_,by simp,none,0,ha,Nat.le_refl _,.inl rfl⟩
  rw [List.getElem?_append_right h1,j8,List.getElem?_replicate,if_pos (by omega)]
 ·subst hu
  exact qc (K:=[]) hx (vj [] w σ k) _ _ (jm _) ha
theorem Zk{k:Nat}(hx:Ext own w own' w):∀ {l m:List AV} {vs:List Value},upL0 σ.length k l m→RepL own w l σ vs→RepL own' w m (σ++j8 k) vs
 | [],[],vs,_,h=>by simpa [RepL] using h
 | a::l,b::m,vs,hl,h=>by
  simp only [RepL] at h ⊢
  obtain⟨v,r,hv,h1,h2⟩:=h
  exact⟨v,r,hv,Jz hx hl.1 h1,Zk hx hl.2 h2⟩
 | [],_::_,_,hl,_=>hl.elim
 | _::_,[],_,hl,_=>hl.elim
theorem QD{k:Nat}(hx:Ext own w own' w){a b:AV}{v:Value}(hu:upA1 σ.length k a b)(ha:Rep own w a σ v):Rep own' w b (σ++j8 k) v:=by
 unfold upA1 at hu
 split at hu
 ·simp only [Rep] at ha ⊢
  obtain⟨vs,hv,hr⟩:=ha
  exact⟨vs,hv,Zk hx hu hr⟩
 ·exact Jz hx hu ha
theorem xy{k:Nat}(hx:Ext own w own' w):∀ {l m:List AV} {vs:List Value},upL1 σ.length k l m→RepL own w l σ vs→RepL own' w m (σ++j8 k) vs
 | [],[],vs,_,h=>by simpa [RepL] using h
 | a::l,b::m,vs,hl,h=>by
  simp only [RepL] at h ⊢
  obtain⟨v,r,hv,h1,h2⟩:=h
  exact⟨v,r,hv,QD hx hl.1 h1,xy hx hl.2 h2⟩
 | [],_::_,_,hl,_=>hl.elim
 | _::_,[],_,hl,_=>hl.elim
theorem Ja{k:Nat}(hx:Ext own w own' w){a b:AV}{v:Value}(hu:upA2 σ.length k a b)(ha:Rep own w a σ v):Rep own' w b (σ++j8 k) v:=by
 unfold upA2 at hu
 split at hu
 ·simp only [Rep] at ha ⊢
  obtain⟨vs,hv,hr⟩:=ha
  exact⟨vs,hv,xy hx hu hr⟩
 ·exact QD hx hu ha
def ky(szs:List (Nat×(Nat→Nat→AV))):Heap:=szs.map fun s=>.arr 0 s.1 s.2
theorem zfm(hx:Ext own w own' w){hs:Heap}(hh:HRep own w σ hs)(szs:List (Nat×(Nat→Nat→AV))):HRep own' w (σ++j8 szs.length) (hs++ky szs):=by
 have hl:=hh.len
 refine⟨by simp [j8,ky,hl],fun i j e f a b he hf ha hb hij=> ?_,fun i e a he ha=> ?_,fun i e b he hb=> ?_⟩
 ·rcases qF he with ⟨_,he⟩ | ⟨_,rfl⟩
  ·rcases qF hf with ⟨_,hf⟩ | ⟨_,rfl⟩
   ·exact hh.inj i j e f a b he hf ha hb hij
   ·cases hb
  ·cases ha
 ·rcases qF he with ⟨_,he⟩ | ⟨_,rfl⟩
  ·exact hh.lt i e a he ha
  ·cases ha
 ·rcases qF he with ⟨hi,he⟩ | ⟨hi,rfl⟩
  ·rw [List.getElem?_append_left (by omega)] at hb
   have:=qD (K:=[]) hx (vj [] w σ szs.length) (hh.blk i e b he hb) (fun _ _=>rfl)
   rwa [qM] at this
  ·rw [List.getElem?_append_right (by omega)] at hb
   simp only [ky,List.getElem?_map] at hb
   cases hz:szs[i - hs.length]? with
   | none=>simp [hz] at hb
   | some s=>
    simp only [hz,Option.map_some,Option.some.injEq] at hb
    subst hb
    exact⟨rfl,.inl rfl⟩
def upQ(Q:AV×Heap→Prop)(p:AV×Heap):Prop:=Q p∨∃ (r:AV) (szs:List (Nat×(Nat→Nat→AV))),upA2 p.2.length szs.length p.1 r∧Q (r,p.2++ky szs)
theorem qP.up{g:Nat}{c:Ctr}{args:List AV}{hc:Heap}{Q:AV×Heap→Prop}(h:qP P g c args hc (upQ Q)):qP P g c args hc Q:=by
 intro O w σ vals hg hh hr
 refine yc.mono ?_ (h O w σ vals hg hh hr)
 rintro v w' ⟨r,hs,σ',hq,h1,h2,h3,h4,h5,h6⟩
 rcases hq with hq | ⟨r',szs,hu,hq⟩
 ·exact⟨r,hs,σ',hq,h1,h2,h3,h4,h5,h6⟩
 ·have hx:Ext (fun b=>Own O σ' b∨(c.fresh=true∧b<w.heap.size)) w' (fun b=>Own O (σ'++j8 szs.length) b∨(c.fresh=true∧b<w.heap.size)) w':=
   ⟨rfl,rfl,rfl,Nat.le_refl _,fun _ _ _=>rfl,fun b hb=>.inl (hb.imp yU id)⟩
  have hl:hs.length=σ'.length:=h2.len.symm
  refine⟨r',hs++ky szs,σ'++j8 szs.length,hq,Ja hx (by rw [← hl]; exact hu) h1,zfm hx h2 szs,⟨h3.old,fun i e ad he had=> ?_,h3.stat.own fun b hb=>yU hb⟩,by simp; omega,h5.VX (vj [] w' σ' _),?_⟩
  ·rcases qF he with ⟨_,he⟩ | ⟨_,rfl⟩
   ·exact h3.dis i e ad he had
   ·cases had
  ·exact⟨h6.os,h6.tape,h6.output,h6.size,h6.keep,fun b hb=>h6.grow b (ZH hb)⟩
theorem W7{X R:Type}{fresh:Bool}{inp:X→List AV}{pre:X→Prop}{post:X→R→Prop}{out:X→R→AV×Heap}{g:Nat}{c:Code}(hf:P.funcs[g]?=some fn)(hb:fn.body=some c) (hn:(fn.name == "runtime.NumGoroutine")=false)
  (H:∀ x,pre x→∀ (O:Nat→Prop) (w0:World) (Q:AV×Heap→Prop),(∀ r,post x r→Q (out x r)) →
   zb P fn O 0 w0 [] (fun _ _ _=>False) (RetR (ctrP fresh inp pre post out) 0 (upQ Q)) [.code c] (entry fn (inp x))):zd P g (ctrP fresh inp pre post out):=by
 intro args hc Q hq _
 simp only [ctrP] at hq
 split at hq
 ·obtain⟨x,⟨h1,h4⟩,h5,h6⟩:=hq
  refine qP.le h1 (qP.up (fn_k hf hb hn (fun h=>rfl) fun O w0 σ0 hl=> ?_))
  have h0:σ0=[]:=List.length_eq_zero_iff.1 (by simpa using hl)
  subst h0
  exact H x h4 O w0 Q h6
 ·exact hq.elim
def upKV(d k:Nat):KV→KV→Prop
 | [],[]=>True
 | (i,a)::l,(j,b)::m=>i=j∧upA2 d k a b∧upKV d k l m
 | _,_=>False
def upB(d k:Nat):Blk→Blk→Prop
 | .box l,.box m=>upL1 d k l m
 | a,b=>a=b
def upH(d k:Nat):Heap→Heap→Prop
 | [],[]=>True
 | b::l,c::m=>upB d k b c∧upH d k l m
 | _,_=>False
theorem QQ{d k:Nat} : ∀ {l m:KV} (t:Nat),upKV d k l m→upA2 d k (look l t) (look m t)
 | [],[],t,_=>by simp [look,upA2,upA1,upA0]
 | (i,a)::l,(j,b)::m,t,h=>by
  obtain⟨rfl,h1,h2⟩:=h
  simp only [look]
  split
  ·exact h1
  ·exact QQ t h2
 | [],_::_,_,h=>h.elim
 | _::_,[],_,h=>h.elim
theorem X4{d k:Nat} : ∀ {l m:Heap},upH d k l m→l.length=m.length
 | [],[],_=>rfl
 | _::l,_::m,h=>by simp [X4 h.2]
 | [],_::_,h=>h.elim
 | _::_,[],h=>h.elim
theorem Yi{d k:Nat} : ∀ {l m:Heap} {i:Nat} {b':Blk},upH d k l m→m[i]?=some b'→∃ b,l[i]?=some b∧upB d k b b'
 | b::l,c::m,0,b',h,h1=>by simp at h1; subst h1; exact⟨b,rfl,h.1⟩
 | b::l,c::m,i+1,b',h,h1=>by simpa using Yi h.2 (by simpa using h1)
 | [],[],_,_,_,h1=>by simp at h1
 | [],_::_,_,_,h,_=>h.elim
 | _::_,[],_,_,h,_=>h.elim
theorem YT{k:Nat}(hx:Ext own w own' w){e:SE}{b b':Blk}(hu:upB σ.length k b b')(hb:BRep own w σ e b):BRep own' w (σ++j8 k) e b':=by
 unfold upB at hu
 split at hu
 ·simp only [BRep] at hb ⊢
  obtain⟨ad,vs,el,h1,h2,h3,h4⟩:=hb
  exact⟨ad,vs,el,h1,h2,h3,xy hx hu h4⟩
 ·subst hu
  have:=qD (K:=[]) hx (vj [] w σ k) hb (fun _ _=>rfl)
  rwa [qM] at this
variable {pin:Nat} {w0:World} {σ0:List SE} {a:Act}
theorem up_mod{kv kv2:KV}{h h2:Heap}{n:Nat}(hm:Mod O pin w0 σ0 w σ (mk n kv h) a){szs:List (Nat×(Nat→Nat→AV))}(hkv:upKV h.length szs.length kv kv2)(hh2:upH h.length szs.length h h2)(hno:(pk n kv).all qm=true)(hno2:(pk n kv2).all qm=true):Mod O pin w0 σ0 w (σ++j8 szs.length) (mk n kv2 (h2++ky szs)) a:=by
 have hx:Ext (Own O σ) w (Own O (σ++j8 szs.length)) w:=⟨rfl,rfl,rfl,Nat.le_refl _,fun _ _ _=>rfl,fun b hb=>.inl (yU hb)⟩
 have hl:h.length=σ.length:=hm.hp.len.symm
 rw [hl] at hkv hh2
 have hl2:=X4 hh2
 refine⟨⟨hm.good.old,fun i e ad he had=> ?_,hm.good.stat.ext hx⟩,?_,by simp [hm.size,mk,pk],fun u=> ?_,hm.df.ext hx,hm.since.trans ⟨hx,fun _ _ _=>rfl,wN.of (vj [] w σ _) (by simp)⟩,hm.lim⟩
 ·rcases qF he with ⟨_,he⟩ | ⟨_,rfl⟩
  ·exact hm.good.dis i e ad he had
  ·cases had
 ·have hh:=hm.hp
  refine⟨by simp [mk,j8,ky,← hl2,hl],fun i j e f x y he hf ha hb hij=> ?_,fun i e x he ha=> ?_,fun i e b he hb=> ?_⟩
  ·rcases qF he with ⟨_,he⟩ | ⟨_,rfl⟩
   ·rcases qF hf with ⟨_,hf⟩ | ⟨_,rfl⟩
    ·exact hh.inj i j e f x y he hf ha hb hij
    ·cases hb
   ·cases ha
  ·rcases qF he with ⟨_,he⟩ | ⟨_,rfl⟩
   ·exact hh.lt i e x he ha
   ·cases ha
  ·simp only [mk] at hb
   rcases qF he with ⟨hi,he⟩ | ⟨hi,rfl⟩
   ·rw [List.getElem?_append_left (by omega)] at hb
    obtain⟨b0,h1,h3⟩:=Yi hh2 hb
    exact YT hx h3 (hh.blk i e b0 he h1)
   ·rw [List.getElem?_append_right (by omega)] at hb
    simp only [ky,List.getElem?_map] at hb
    cases hz:szs[i - h2.length]? with
    | none=>simp [hz] at hb
    | some s=>
     simp only [hz,Option.map_some,Option.some.injEq] at hb
     subst hb
     exact⟨rfl,.inl rfl⟩
 ·have hu:=hm.tm u
  have key:∀ (kv:KV) (h:Heap),(pk n kv).all qm=true→qm ((mk n kv h).tmps.getD u .undef)=true:=by
   intro kv h hno
   by_cases hlt:u<(mk n kv h).tmps.length
   ·simp only [List.getD,List.getElem?_eq_getElem hlt,Option.getD_some]
    exact List.all_eq_true.1 hno _ (List.getElem_mem hlt)
   ·simp only [List.getD]
    rw [List.getElem?_eq_none (by omega)]; rfl
  have n1:=key kv h hno
  have n2:=key kv2 (h2++ky szs) hno2
  have hr:Rep (Own O σ) w ((mk n kv h).tmps.getD u .undef) σ (a.tmps.getD u undef):=by
   generalize (mk n kv h).tmps.getD u .undef=x at hu n1
   cases x with
   | opt _ _ _=>simp [qm] at n1
   | _=>simpa only [TRep] using hu
  have hup:upA2 σ.length szs.length ((mk n kv h).tmps.getD u .undef) ((mk n kv2 (h2++ky szs)).tmps.getD u .undef):=by
   by_cases hlt:u<n
   ·simp only [mk]
    rw [vq hlt,vq hlt]
    exact QQ u hkv
   ·simp [mk,pk,List.getD,hlt,upA2,upA1,upA0]
  have:=Ja hx hup hr
  generalize (mk n kv2 (h2++ky szs)).tmps.getD u .undef=y at this n2
  cases y with
  | opt _ _ _=>simp [qm] at n2
  | _=>simpa only [TRep] using this
theorem zb.up{M:Option Nat}{Hs:Nat→KV→Heap→Prop}{R:List AV→Heap→Prop}{k:List Item}{kv:KV}{h:Heap}(szs:List (Nat×(Nat→Nat→AV)))(kv2:KV)(h2:Heap)(hkv:upKV h.length szs.length kv kv2)(hh2:upH h.length szs.length h h2)(hno:(pk fn.ntmps kv).all qm=true)(hno2:(pk fn.ntmps kv2).all qm=true)
  (H:zA Xp M P fn O pin w0 σ0 Hs R k (mk fn.ntmps kv2 (h2++ky szs))):zA Xp M P fn O pin w0 σ0 Hs R k (mk fn.ntmps kv h):=
 fun w σ a hm=>H w _ a (up_mod hm hkv hh2 hno hno2)
theorem RetR.outs{ctr:Ctr}{Q:AV×Heap→Prop}{rs:List AV}{h:Heap}{r:AV}{hs:Heap}(L:List Nat)(hnd:j9 L=true)(hlt:(L.all fun i=>decide (i<h.length))=true)(hq:Q (r,hs))(hn:ctr.fresh=true→new2 h L (resV rs)∧∀ i∈L,newB (h.getD i .dead))
  (he:eqA2 (exp2 h L (resV rs)) r) (hb:eqH (expH h L) hs) (hl:hs.length=L.length):RetR ctr 0 Q rs h:=
 ⟨L,hnd,fun i hi=>by have:=List.all_eq_true.1 hlt i hi; simpa using this,by simp,hn,r,hs,qf he,.inl hb,hl,hq⟩
theorem RetR.keep{ctr:Ctr}{m:Nat}{Q:AV×Heap→Prop}{rs:List AV}{h:Heap}{r:AV}{hs:Heap}(L:List Nat)(hnd:j9 L=true)(hlt:(L.all fun i=>decide (i<h.length))=true)(hj:∀ j,j<m→L[j]?=some j)(hf:ctr.fresh=false)(hq:Q (r,hs))
  (he:eqA2 (exp2 h L (resV rs)) r) (hb:eqH (expH h L) hs) (hl:hs.length=L.length):RetR ctr m Q rs h:=
 ⟨L,hnd,fun i hi=>by have:=List.all_eq_true.1 hlt i hi; simpa using this,hj,(fun hh=>absurd hh (by rw [hf]; decide)),r,hs,qf he,.inl hb,hl,hq⟩
end
end Go.Sx
end
section
set_option maxRecDepth 100000
open Go Go.Sx Go.Proofs Go.Nov
namespace Go.Proofs.Tryz
attribute [local simp] eqKV eqA eqA0 eqH eqB eqL eqL0
def exD(x:Ex):AV:=.agg [.int .u8 x.kind,.str x.rat,.str x.name,.int .i64 x.date,.sl x.sub.length 5 x.deep]
theorem UX{s:List Ex}{i:Nat} : eqG (i+1) 5 (appG i (Ex.exG s) (zf (zg 5 [.int .u8 (s.getD i Ex.nil).kind,.str (s.getD i Ex.nil).rat,.str (s.getD i Ex.nil).name,.int .i64 (s.getD i Ex.nil).date,.sl (s.getD i Ex.nil).sub.length 5 (s.getD i Ex.nil).deep]) 0)) (Ex.exG s):=by
 intro j o hj ho
 simp only [appG,zf,zg]
 by_cases h:j<i
 ·rw [if_pos h]
 ·have:j=i:=by omega
  subst this
  rw [if_neg h]
  have e:j - j=0:=by omega
  match o,ho with
  | 0,_=>simp [e,Ex.exG,Ex.cell]
  | 1,_=>simp [e,Ex.exG,Ex.cell]
  | 2,_=>simp [e,Ex.exG,Ex.cell]
  | 3,_=>simp [e,Ex.exG,Ex.cell]
  | 4,_=>simp [e,Ex.exG,Ex.cell]
theorem uP(x:Ex):eqA x.exA x.exA:=by
 simp only [Ex.exA,Ex.exS,eqA]
 exact⟨⟨rfl,rfl⟩,rfl,rfl,⟨rfl,rfl⟩,⟨rfl,rfl,za _ _ _⟩,trivial⟩
end Go.Proofs.Tryz
end
section
namespace Go.Sx
variable [Stat]
section
variable {P:Program}
theorem Jq(a:AV):eqA0 a a:=by
 cases a<;>simp [eqA0]
 exact fun _ _ _ _=>rfl
theorem yH:∀ l:List AV,eqL0 l l
 | []=>trivial
 | a::l=>⟨Jq a,yH l⟩
theorem zaa(a:AV):eqA a a:=by
 cases a with
 | agg l=>exact yH l
 | tup l=>exact yH l
 | _=>unfold eqA; exact Jq _
theorem ZN:∀ l:List AV,eqL l l
 | []=>trivial
 | a::l=>by
  unfold eqL
  split
  ·rename_i h1 h2; cases h1
  ·rename_i h1 h2; cases h1; cases h2; exact ZN l
  ·rename_i h1 h2; cases h1; cases h2; exact⟨zaa _,ZN l⟩
  ·rename_i hx; exact(hx _ _ _ _ rfl rfl).elim
end
end Go.Sx
end
section
namespace Go.Sx
variable [Stat]
section
variable {P:Program} {Γ:Nat→Option Ctr} {fn:Func}
def inlC(P:Program)(Γ:Nat→Option Ctr)(n:Nat)(fn:Func):Ctr where
 fresh:=false
 spec args hc:=match fn.body with
  | some c=>(run P Γ hc.length n [.code c] (kh fn args hc)).bind fun lf=>match lf with
   | .ret st=>(resX P st fn.results.toList).bind fun rs=>bif decide (hc.length≤st.heap.length) then .leaf (exp2 st.heap (List.range st.heap.length) (resV rs),expH st.heap (List.range st.heap.length)) else .fail
   | _=>.fail
  | none=>.fail
theorem nodup_range':∀ (n s:Nat),j9 (List.range' s n)=true
 | 0,_=>rfl
 | n+1,s=>by
  rw [List.range'_succ]
  simp only [j9,Bool.and_eq_true]
  refine⟨?_,nodup_range' n (s+1)⟩
  simp [List.contains_eq_mem,List.mem_range'_1]
theorem z6(b:Blk):eqB b b:=by
 cases b with
 | dead=>trivial
 | box l=>exact ZN l
 | arr n sz g=>exact⟨rfl,rfl,fun _ _ _ _=>rfl⟩
 | arrI k n f=>exact⟨rfl,fun _ _ _ _=>rfl⟩
 | arrS n f=>exact⟨rfl,fun _ _ _ _=>rfl⟩
 | map ag sh has get pe=>exact⟨⟨rfl,.inr rfl⟩,rfl,fun _=>rfl,fun _ _=>rfl⟩
theorem YE(h:Heap):eqH h h:=by
 induction h with
 | nil=>trivial
 | cons b l ih=>exact⟨z6 b,ih⟩
theorem zgu{g n:Nat}(hmix:P.follows .mixedOrders=true)(hΓ:∀ g c,Γ g=some c→zd P g c)(hf:P.funcs[g]?=some fn) (hn:(fn.name == "runtime.NumGoroutine")=false):zd P g (inlC P Γ n fn):=by
 intro args hc Q hq hfr
 simp only [inlC] at hq
 cases hb:fn.body with
 | none=>rw [hb] at hq; exact hq.elim
 | some c=>
  rw [hb] at hq
  simp only [Tree.zl] at hq
  refine wx.plain (zg5 hf hb hn hfr fun O w0 σ0 hl=>Safe.run hmix (fun g c h=>(hΓ g c h).x) n (Tree.zO (fun lf h=> ?_) hq))
  cases lf with
  | ret st=>
   simp only [Tree.zl] at h
   refine Tree.zO (fun rs h=> ?_) h
   cases hd:decide (hc.length≤st.heap.length) with
   | false=>rw [hd] at h; exact h.elim
   | true=>
    rw [hd] at h
    have h:Q (exp2 st.heap (List.range st.heap.length) (resV rs),expH st.heap (List.range st.heap.length)):=h
    have hd:=of_decide_eq_true hd
    exact⟨List.range st.heap.length,by rw [List.range_eq_range']; exact nodup_range' _ _,fun i hi=>List.mem_range.1 hi,fun j hj=>by rw [List.getElem?_range (by omega)],fun h=>(by cases h),_,_,LeA.refl _,.inl (YE _),by simp [expH],h⟩
  | _=>exact h.elim
end
end Go.Sx
end
section
namespace Go.Nov
open Go.Sx
theorem kI:∀ s:List UInt8,Op.bytesLess s s=false
 | []=>rfl
 | a::s=>by simp [Op.bytesLess,kI s]
theorem kK:∀ {s t u:List UInt8},Op.bytesLess s t=true→Op.bytesLess t u=true→Op.bytesLess s u=true
 | s,[],u,h,_=>by cases s<;>simp [Op.bytesLess] at h
 | [],b::t,[],_,h=>by simp [Op.bytesLess] at h
 | [],b::t,c::u,_,_=>rfl
 | a::s,b::t,[],_,h=>by simp [Op.bytesLess] at h
 | a::s,b::t,c::u,h,k=>by
  simp only [Op.bytesLess,Bool.or_eq_true,Bool.and_eq_true,decide_eq_true_eq,beq_iff_eq] at h k ⊢
  rcases h with h | ⟨rfl,h⟩
  ·rcases k with k | ⟨rfl,k⟩
   ·exact .inl (UInt8.lt_trans h k)
   ·exact .inl h
  ·rcases k with k | ⟨rfl,k⟩
   ·exact .inl k
   ·exact .inr ⟨rfl,kK h k⟩
theorem zdm{s t:List UInt8} : cmpS s t<0↔Op.bytesLess s t=true:=by
 unfold cmpS
 cases Op.bytesLess s t with
 | true=>simp
 | false=>by_cases h:s=t<;>simp [h]
theorem uN{s t:List UInt8} : cmpS s t=0↔s=t:=by
 unfold cmpS
 cases hb:Op.bytesLess s t with
 | true=>
  simp only [if_true]
  refine⟨fun h=>by omega,fun h=> ?_⟩
  subst h; rw [kI] at hb; cases hb
 | false=>by_cases h:s=t<;>simp [h]
theorem zdj{x y:Int} : cmpI x y=0↔x=y:=by
 unfold cmpI
 split
 ·exact⟨fun h=>by omega,fun h=>by omega⟩
 ·split
  ·exact⟨fun h=>by omega,fun h=>by omega⟩
  ·exact⟨fun _=>by omega,fun _=>rfl⟩
theorem w8{a b:Fx} : cmpF a b=0↔a.name=b.name∧a.date=b.date:=by
 unfold cmpF
 by_cases h:cmpS a.name b.name=0
 ·rw [if_pos h,zdj]; exact⟨fun h2=>⟨uN.1 h,h2⟩,fun h2=>h2.2⟩
 ·rw [if_neg h]; exact⟨fun h2=>absurd h2 h,fun h2=>absurd (uN.2 h2.1) h⟩
theorem w9{a b:Fx} : cmpF a b<0↔Op.bytesLess a.name b.name=true∨a.name=b.name∧a.date<b.date:=by
 unfold cmpF
 by_cases h:cmpS a.name b.name=0
 ·rw [if_pos h,zfh]
  have h2:=uN.1 h
  rw [h2,kI]
  simp
 ·rw [if_neg h,zdm]
  exact⟨fun h2=>.inl h2,fun h2=>h2.elim id fun h3=>absurd (uN.2 h3.1) h⟩
structure OrdK{α:Type}(c:α→α→Int):Prop where
 lt:∀ a b d,c a b<0→c b d<0→c a d<0
 eq:∀ a b d,c a b<0→c b d=0→c a d<0
theorem Zp:OrdK cmpF where
 lt a b d h k:=by
  rw [w9] at *
  rcases h with h | ⟨h1,h2⟩
  ·rcases k with k | ⟨k1,k2⟩
   ·exact .inl (kK h k)
   ·rw [k1] at h; exact .inl h
  ·rcases k with k | ⟨k1,k2⟩
   ·rw [← h1] at k; exact .inl k
   ·exact .inr ⟨h1.trans k1,by omega⟩
 eq a b d h k:=by
  rw [w8] at k
  rw [w9] at *
  rw [k.1,k.2] at h
  exact h
section
variable {α:Type} {c:α→α→Int} {z x:α}
def Xb(c:α→α→Int)(x:α):List α→List α
 | []=>[x]
 | o::l=>if c o x<0 then o::Xb c x l else if c o x=0 then x::l else x::o::l
theorem yk(hk:OrdK c):∀ {l:List α},ordB c z l=true→l.Pairwise fun a b=>c a b<0
 | [],_=>.nil
 | [a],_=>by simp
 | a::b::l,h=>by
  have h1:c a b<0:=by
   simp only [ordB,List.all_eq_true,List.mem_range,decide_eq_true_eq] at h
   have:=h 0 (by simp)
   simpa using this
  have h2:ordB c z (b::l)=true:=by
   simp only [ordB,List.all_eq_true,List.mem_range,decide_eq_true_eq] at h ⊢
   intro i hi
   have:=h (i+1) (by simp at hi ⊢; omega)
   simpa using this
  have ih:=yk hk h2
  refine List.pairwise_cons.2 ⟨fun y hy=> ?_,ih⟩
  rcases List.mem_cons.1 hy with rfl | hy
  ·exact h1
  ·exact hk.lt _ _ _ h1 (List.rel_of_pairwise_cons ih hy)
end
theorem vH{f:List Fx}{c:List Ch} : errE f c=0↔¬ (1000<f.length∨1000<c.length)∧f.all okF=true∧c.all okC=true∧ordB cmpF Fx.nil f=true∧ordB cmpC Ch.nil c=true:=by
 unfold errE
 by_cases hb:1000<f.length∨1000<c.length
 ·rw [if_pos hb]; simp [hb]
 ·rw [if_neg hb]
  by_cases h:(f.all okF&&c.all okC&&ordB cmpF Fx.nil f&&ordB cmpC Ch.nil c)=true
  ·rw [if_pos h]
   simp only [Bool.and_eq_true] at h
   exact⟨fun _=>⟨hb,h.1.1.1,h.1.1.2,h.1.2,h.2⟩,fun _=>rfl⟩
  ·rw [if_neg h]
   refine⟨fun h2=>by omega,fun h2=>absurd ?_ h⟩
   simp [h2.2.1,h2.2.2.1,h2.2.2.2.1,h2.2.2.2.2]
def zF(l:List Fx)(a:List UInt8)(d:Int):List UInt8×Bool:=match l.find? fun x=>decide (x.name=a)&&decide (x.date=d) with
 | some x=>(x.value,true)
 | none=>([],false)
theorem zex{α:Type}{p:α→Bool}{l:List α}{z:α}{i:Nat}(hi:i<l.length)(h:p (l.getD i z)=true)(hb:∀ j,j<i→p (l.getD j z)=false):l.find? p=some (l.getD i z):=by
 induction l generalizing i with
 | nil=>simp at hi
 | cons a l ih=>
  cases i with
  | zero=>simp only [List.getD_cons_zero] at h ⊢; simp [h]
  | succ i=>
   have h0:=hb 0 (by omega)
   simp only [List.getD_cons_zero,List.getD_cons_succ] at h h0 ⊢
   rw [List.find?_cons,h0]
   exact ih (by simpa using hi) h fun j hj=>by have:=hb (j+1) (by omega); simpa using this
def putF(f:List Fx)(c:List Ch)(x:Fx):(List Fx×List Ch)×Int:=
 if errE f c≠0 then(([],[]),errE f c) else if(zS x.name&&dayB x.date)=false then(([],[]),2) else if errR x.value≠0 then(([],[]),errR x.value)
 else if 1000<(Xb cmpF x f).length then(([],[]),22) else((Xb cmpF x f,c),0)
end Go.Nov
end
section
set_option maxRecDepth 100000
open Go Go.Sx Go.Proofs Go.Nov
namespace Go.Proofs.Tryz
attribute [local simp] eqKV eqA eqA0 eqH eqB eqL eqL0
def bitB(p q:Int):Bool:=decide (((p.toNat &&& q.toNat:Nat):Int)≠0)
end Go.Proofs.Tryz
end
section
namespace Go.Sx
variable [Stat]
section
variable {O:Nat→Prop} {pin:Nat} {w0:World} {σ0:List SE} {P:Program} {fn:Func} {Xp:List PanicEntry→Prop}
def fstC:Code→Code
 | .seq a _=>a
 | c=>c
def sndC:Code→Code
 | .seq _ b=>b
 | c=>c
def blkC:Code→Code
 | .block _ c=>c
 | c=>c
def blkI:Code→Nat
 | .block i _=>i
 | _=>0
theorem zb.cut{M:Option Nat}{ι:Type}{Hs:Nat→KV→Heap→Prop}{R:List AV→Heap→Prop}{k:List Item}{c:Code}{st:St}(S:ι→KV)(H:ι→Heap)(dk:Nat)
  (h1:zA Xp M P fn O pin w0 σ0 (fun d kv h=>if d=dk then ∃ x,LeK pin fn.ntmps kv h (S x) (H x) else Hs d kv h) R (.code c::.inLoop::k) st) (hd:qU k=dk)
  (h2:∀ x,zA Xp M P fn O pin w0 σ0 Hs R k (mk fn.ntmps (S x) (H x))):zA Xp M P fn O pin w0 σ0 Hs R (.code c::k) st:=by
 subst hd
 intro w σ a hm
 have:=h1 w σ a hm
 simp only [wpK] at this ⊢
 refine wpIn_mono this fun e a' w' he=> ?_
 cases e with
 | normal=>
  simp only [wpK] at he
  obtain⟨st',σ',⟨kv,h,hh,rfl⟩,hm'⟩:=he
  rw [if_pos trivial] at hh
  obtain⟨x,hle⟩:=hh
  exact h2 x w' _ a' (hle.le.mod hm')
 | _=>
  simp only [wpK] at he
  refine qC (fun d a w hd hh=> ?_) he
  obtain⟨st',σ',⟨kv,h,hh,rfl⟩,hm'⟩:=hh
  rw [if_neg (by omega)] at hh
  exact⟨_,σ',⟨kv,h,hh,rfl⟩,hm'⟩
theorem zb.seq{M:Option Nat}{Hs:Nat→KV→Heap→Prop}{R:List AV→Heap→Prop}{k:List Item}{c:Code}{st:St}(hc:c = .seq (fstC c) (sndC c))
  (h:zA Xp M P fn O pin w0 σ0 Hs R (.code (fstC c)::.code (sndC c)::k) st):zA Xp M P fn O pin w0 σ0 Hs R (.code c::k) st:=by
 rw [hc]
 generalize fstC c=a at h
 generalize sndC c=b at h
 intro w σ act hm
 have:=h w σ act hm
 simp only [wpK] at this ⊢
 refine wpIn_seq (wpIn_mono this fun e a w h=> ?_)
 cases e<;>exact h
theorem zb.block{M:Option Nat}{Hs:Nat→KV→Heap→Prop}{R:List AV→Heap→Prop}{k:List Item}{c:Code}{st:St}(hc:c = .block (blkI c) (blkC c))
  (h:zA Xp M P fn O pin w0 σ0 Hs R (.code (blkC c)::.inBlock (blkI c)::k) st):zA Xp M P fn O pin w0 σ0 Hs R (.code c::k) st:=by
 rw [hc]
 generalize blkC c=a at h
 generalize blkI c=i at h
 intro w σ act hm
 have:=h w σ act hm
 simp only [wpK] at this ⊢
 refine wpIn_block (wpIn_mono this fun e a w h=> ?_)
 cases e<;>exact h
end
end Go.Sx
end
section
namespace Go.Sx
variable [Stat]
section
variable {O:Nat→Prop} {pin:Nat} {w0:World} {σ0:List SE} {P:Program} {fn:Func} {Xp:List PanicEntry→Prop}
def yP:Nat→Code→List Item
 | n+1,.seq a b=>.code a::yP n b
 | _,c=>[.code c]
theorem ZQ{M:Option Nat}{H:Nat→Act→World→Prop}{B:Exit→Act→World→Prop}{k:List Item}{e:Exit}(he:e≠.normal){a:Act}{w:World} : ∀ (n:Nat) (c:Code),wpK M P H B (yP n c++k) e a w→wpK M P H B k e a w
 | 0,c,h=>by cases c<;>cases e<;>first | exact absurd rfl he | exact h
 | n+1,c,h=>by
  cases c with
  | seq x y=>cases e<;>first | exact absurd rfl he | exact ZQ he n y h
  | _=>cases e<;>first | exact absurd rfl he | exact h
theorem Q5{M:Option Nat}{H:Nat→Act→World→Prop}{B:Exit→Act→World→Prop} : ∀ (n:Nat) (c:Code) (k:List Item) (a:Act) (w:World),wpK M P H B (yP n c++k) .normal a w→wpK M P H B (.code c::k) .normal a w
 | 0,c,k,a,w,h=>by cases c<;>exact h
 | n+1,c,k,a,w,h=>by
  cases c with
  | seq x y=>
   simp only [yP,List.cons_append,wpK] at h ⊢
   refine wpIn_seq (wpIn_mono h fun e a w h=> ?_)
   cases e with
   | normal=>exact Q5 n y k a w h
   | _=>exact ZQ (by simp) n y h
  | _=>exact h
theorem zb.spine{M:Option Nat}{Hs:Nat→KV→Heap→Prop}{R:List AV→Heap→Prop}{k:List Item}{c:Code}{st:St}(n:Nat)(h:zA Xp M P fn O pin w0 σ0 Hs R (Go.Sx.yP n c++k) st):zA Xp M P fn O pin w0 σ0 Hs R (.code c::k) st:=
 fun w σ a hm=>Q5 n c k a w (h w σ a hm)
def Zn:Item→Bool
 | .inLoop=>false
 | _=>true
theorem kj{M:Option Nat}{H H':Nat→Act→World→Prop}{B:Exit→Act→World→Prop}{k:List Item}(h1:∀ a w,H' (qU k) a w→wpK M P H B k .normal a w)(h2:∀ d a w,d<qU k→H' d a w→H d a w) :
  ∀ (ks:List Item),ks.all Zn=true→∀ (e:Exit) (a:Act) (w:World),wpK M P H' B (ks++.inLoop::k) e a w→wpK M P H B (ks++k) e a w
 | [],_,e,a,w,h=>by
  cases e with
  | normal=>exact h1 a w h
  | _=>exact qC (k:=k) (fun d a w hd h=>h2 d a w hd h) h
 | .code c::ks,hf,e,a,w,h=>by
  have hf':ks.all Zn=true:=by simpa [Zn] using hf
  cases e with
  | normal=>exact wpIn_mono h fun e a w h=>kj h1 h2 ks hf' e a w h
  | _=>exact kj h1 h2 ks hf' _ a w h
 | .inBlock id::ks,hf,e,a,w,h=>by
  have hf':ks.all Zn=true:=by simpa [Zn] using hf
  cases e with
  | normal=>exact kj h1 h2 ks hf' _ a w h
  | exit i=>
   simp only [List.cons_append,wpK] at h ⊢
   split at h
   ·rename_i hi; rw [if_pos hi]; exact kj h1 h2 ks hf' _ a w h
   ·rename_i hi; rw [if_neg hi]; exact kj h1 h2 ks hf' _ a w h
  | _=>exact kj h1 h2 ks hf' _ a w h
 | .inLoop::ks,hf,e,a,w,h=>by simp [Zn] at hf
theorem zb.cutL{M:Option Nat}{ι:Type}{Hs:Nat→KV→Heap→Prop}{R:List AV→Heap→Prop}{st:St}(L:List Item)(m dk:Nat)(S:ι→KV)(H:ι→Heap)(hf:(L.take m).all Zn=true)(hd:qU (L.drop m)=dk)
  (h1:zA Xp M P fn O pin w0 σ0 (fun d kv h=>if d=dk then ∃ x,LeK pin fn.ntmps kv h (S x) (H x) else Hs d kv h) R (L.take m++.inLoop::L.drop m) st)
  (h2:∀ x,zA Xp M P fn O pin w0 σ0 Hs R (L.drop m) (mk fn.ntmps (S x) (H x))):zA Xp M P fn O pin w0 σ0 Hs R L st:=by
 subst hd
 intro w σ a hm
 have:=h1 w σ a hm
 rw [← List.take_append_drop m L]
 refine kj ?_ ?_ (L.take m) hf .normal a w this
 ·rintro a' w' ⟨st',σ',⟨kv,h,hh,rfl⟩,hm'⟩
  rw [if_pos rfl] at hh
  obtain⟨x,hle⟩:=hh
  exact h2 x w' _ a' (hle.le.mod hm')
 ·rintro d a' w' hd ⟨st',σ',⟨kv,h,hh,rfl⟩,hm'⟩
  rw [if_neg (by omega)] at hh
  exact⟨_,σ',⟨kv,h,hh,rfl⟩,hm'⟩
end
end Go.Sx
end
section
set_option maxRecDepth 100000
open Go Go.Sx Go.Proofs Go.Nov
def Go.Nov.Con.p(c:Con):Int:=zh7 c.kind
namespace Go.Proofs.Tryz
attribute [local simp] eqKV eqA eqA0 eqH eqB eqL eqL0
namespace Nd
def right(c:Con):Bool:=if bitB c.p 32=true then dayB c.date else decide (c.date=0)
end Nd
end Go.Proofs.Tryz
end
section
set_option maxRecDepth 100000
open Go Go.Sx Go.Proofs Go.Nov
namespace Go.Proofs.Tryz
attribute [local simp] eqKV eqA eqA0 eqH eqB eqL eqL0
end Go.Proofs.Tryz
end
section
namespace Go.Sx
variable [Stat]
section
variable {O:Nat→Prop} {pin:Nat} {w0:World} {σ0:List SE} {P:Program} {fn:Func}
open Classical in
end
end Go.Sx
end
section
set_option maxRecDepth 100000
open Go Go.Sx Go.Proofs Go.Nov
namespace Go.Proofs.Tryz
attribute [local simp] eqKV eqA eqA0 eqH eqB eqL eqL0
end Go.Proofs.Tryz
end
section
namespace Go.Nov
open Go.Sx
theorem Fx.QA(x:Fx){j o:Nat}(hj:j<1)(ho:o<3):zf (zg 3 [.str x.name,.int .i64 x.date,.str x.value]) 0 j o=x.cell o:=by
 have:j=0:=by omega
 subst this
 rcases o with _ | _ | _ | o
 ·rfl
 ·rfl
 ·rfl
 ·omega
theorem Ch.QA(x:Ch){j o:Nat}(hj:j<1)(ho:o<4):zf (zg 4 [.str x.qi,.str x.name,.int .i64 x.date,.bool x.first]) 0 j o=x.cell o:=by
 have:j=0:=by omega
 subst this
 rcases o with _ | _ | _ | _ | o
 ·rfl
 ·rfl
 ·rfl
 ·rfl
 ·omega
theorem Ui{α:Type}(l:List α)(x z:α)(j:Nat):(l++[x]).getD j z=if j<l.length then l.getD j z else if j=l.length then x else z:=by
 simp only [List.getD,List.getElem?_append]
 split
 ·rfl
 ·rename_i h
  split
  ·rename_i h2; subst h2; simp
  ·rename_i h2
   have:j - l.length≠0:=by omega
   obtain⟨k,hk⟩:=Nat.exists_eq_succ_of_ne_zero this
   rw [hk]; simp
theorem uO{l:List Fx}{x:Fx}{g:Nat→Nat→AV}(hg:eqG l.length 3 g (fxG l)):eqG (l.length+1) 3 (appG l.length g (zf (zg 3 [.str x.name,.int .i64 x.date,.str x.value]) 0)) (fxG (l++[x])):=by
 intro j o hj ho
 simp only [appG,fxG,Ui]
 split
 ·rename_i h; exact hg j o h ho
 ·rename_i h
  have:j=l.length:=by omega
  subst this
  rw [if_pos rfl,Fx.QA x (by omega) ho]
theorem WG(n sz:Nat)(g g':Nat→Nat→AV):eqG (0+n) sz (appG 0 g g') g':=by
 intro j o _ _
 simp [appG]
theorem Jm(n sz:Nat)(g:Nat→Nat→AV):eqG n sz (zf g 0) g:=by
 intro j o _ _
 simp [zf]
theorem X5(l:List Fx)(j o:Nat)(ho:o<3):zQ (fxG l j o)=true:=by
 simp only [fxG]
 rcases o with _ | _ | _ | o
 ·rfl
 ·rfl
 ·rfl
 ·omega
theorem XK(l:List Ch)(j o:Nat)(ho:o<4):zQ (chG l j o)=true:=by
 simp only [chG]
 rcases o with _ | _ | _ | _ | o
 ·rfl
 ·rfl
 ·rfl
 ·rfl
 ·omega
theorem YI{α:Type}{p:α→Bool}(z:α)(l:List α):idxB p l<l.length∧l.find? p=if 0≤idxB p l then some (l.getD (idxB p l).toNat z) else none:=by
 unfold idxB
 by_cases h:l.findIdx p<l.length
 ·rw [if_pos h]
  refine⟨by omega,?_⟩
  rw [if_pos (by omega),Int.toNat_natCast]
  refine zex h ?_ fun j hj=> ?_
  ·have:=List.findIdx_getElem (w:=h)
   simpa [List.getD,h] using this
  ·have:=List.not_of_lt_findIdx hj
   have hjl:j<l.length:=by omega
   simpa [List.getD,hjl] using this
 ·rw [if_neg h]
  refine⟨by omega,?_⟩
  rw [if_neg (by omega),List.find?_eq_none]
  intro x hx hpx
  exact h (List.findIdx_lt_length_of_exists ⟨x,hx,hpx⟩)
theorem UF(f:List Fx)(a:List UInt8)(d:Int):idxB (fun x=>decide (cmpF x ⟨a,d,[]⟩=0)) f<f.length∧zF f a d=if 0≤idxB (fun x=>decide (cmpF x ⟨a,d,[]⟩=0)) f then((f.getD (idxB (fun x=>decide (cmpF x ⟨a,d,[]⟩=0)) f).toNat Fx.nil).value,true) else([],false):=by
 obtain⟨h1,h2⟩:=YI (p:=fun x=>decide (cmpF x ⟨a,d,[]⟩=0)) Fx.nil f
 refine⟨h1,?_⟩
 have e:(fun x:Fx=>decide (x.name=a)&&decide (x.date=d))=fun x=>decide (cmpF x ⟨a,d,[]⟩=0):=by
  funext x
  rw [← Bool.decide_and]; exact decide_eq_decide.2 (@w8 x ⟨a,d,[]⟩).symm
 unfold zF
 rw [e,h2]
 by_cases h:0≤idxB (fun x=>decide (cmpF x ⟨a,d,[]⟩=0)) f
 ·rw [if_pos h,if_pos h]
 ·rw [if_neg h,if_neg h]
end Go.Nov
end
section
set_option maxRecDepth 100000
open Go Go.Sx Go.Proofs Go.Nov
namespace Go.Proofs.Tryz
attribute [local simp] eqKV eqA eqA0 eqH eqB eqL eqL0
end Go.Proofs.Tryz
end
section
namespace Go.Sx
variable [Stat]
variable {P:Program} {fn:Func} {Xp:List PanicEntry→Prop}
theorem zd.frozen{X R:Type}{inp:X→List AV}{pre:X→Prop}{post:X→R→Prop}{out:X→R→AV×Heap}{out':X→R→AV}{g:Nat}(h:zd P g (ctrP true inp pre post out))
  (hn:∀ x r,pre x→post x r→new2 (out x r).2 [] (out x r).1) (he:∀ x r,pre x→post x r→LeA (exp2 (out x r).2 [] (out x r).1) (out' x r)):zd P g (ctrP true inp pre post fun x r=>(out' x r,[])):=by
 intro args hc Q hq hfr
 have hc0:=hfr rfl
 subst hc0
 simp only [ctrP] at hq
 obtain⟨x,⟨h1,h2⟩,h3,h4⟩:=hq
 have k:=h args [] (fun p=>∃ r,post x r∧p=out x r) (by simp only [ctrP]; exact⟨x,⟨h1,h2⟩,h3,fun r hr=>⟨r,hr,rfl⟩⟩) (fun _=>rfl)
 intro O w σ vals hg hh hr
 have hσ:σ=[]:=List.length_eq_zero_iff.1 (by simpa using hh.len)
 subst hσ
 refine yc.mono ?_ (k O w [] vals hg hh hr)
 rintro v w' ⟨a,hs,σ',⟨r,hr,e⟩,g1,g2,g3,g4,g5,g6⟩
 have ea:a=(out x r).1:=by rw [← e]
 have eh:hs=(out x r).2:=by rw [← e]
 have sub:∀ b,Own O σ' b→(Own O σ' b∨((ctrP true inp pre post out).fresh=true∧b<w.heap.size)):=fun b hb=>.inl hb
 have hnew:∀ b,Mine σ' b→w.heap.size≤b:=fun b hb=>by
  rcases g6.grow b hb with hx | hx
  ·obtain⟨_,he,_⟩:=hx; simp at he
  ·exact hx
 have XX:Exp O w' σ' hs [] [] (fun b=>Own O [] b∨((ctrP true inp pre post fun x r=>(out' x r,([]:Heap))).fresh=true∧b<w.heap.size)):=
  ⟨g3,⟨g2.len,g2.inj,g2.lt,fun i e b he hb=>ZF sub (g2.blk i e b he hb)⟩,rfl,by simp,fun j=>by simp,fun b hb=>by
   rcases hb with hb | ⟨_,hb⟩
   ·exact .inl hb
   ·exact .inr fun hm=>by have:=hnew b hm; omega⟩
 refine⟨out' x r,[],[],h4 r hr,he x r h2 hr _ _ _ _ ?_,⟨rfl,fun i j e f a b he=>by simp at he,fun i e a he=>by simp at he,fun i e b he=>by simp at he⟩,⟨g3.old,fun i e ad he=>by simp at he,g3.stat.own fun b hb=>by
  rcases hb with hb | ⟨e,he,_⟩
  ·exact .inl hb
  ·simp at he⟩,Nat.le_refl _,fun i e he=>by simp at he,⟨g6.os,g6.tape,g6.output,g6.size,fun b hb hno=>g6.keep b hb hno,fun b hb=>by obtain⟨_,he,_⟩:=hb; simp at he⟩⟩
 rw [← ea,← eh]
 exact Qa XX (.inr (by rw [ea,eh]; exact hn x r h2 hr)) (we sub g1)
end Go.Sx
end
section
namespace Go.Nov
def sumS(m:Bool)(x:Nat)(n:Bool)(y:Nat):Bool×Nat:=if m=n then(m,x+y) else if y≤x then(m,x - y) else(n,y - x)
def addI(s t:List UInt8):List UInt8×Int:=if zu s t=0 then wr (sumS (negI s) (numI s) (negI t) (numI t)).1 (sumS (negI s) (numI s) (negI t) (numI t)).2 else([],zu s t)
def subI(s t:List UInt8):List UInt8×Int:=if zu s t=0 then wr (sumS (negI s) (numI s) (!negI t) (numI t)).1 (sumS (negI s) (numI s) (!negI t) (numI t)).2 else([],zu s t)
def mulI(s t:List UInt8):List UInt8×Int:=if zu s t=0 then wr (negI s != negI t) (numI s*numI t) else([],zu s t)
def cmpZ(m:Bool)(x:Nat)(n:Bool)(y:Nat):Int:=if m=true∧n=false then -1 else if n=true∧m=false then 1 else if m=true then cmpN y x else cmpN x y
def ux(s t:List UInt8):Int×Int:=if zu s t=0 then(cmpZ (negI s) (numI s) (negI t) (numI t),0) else(0,zu s t)
theorem uM{d:Nat}(h:d<10):(byt d).toNat=48+d:=by
 unfold byt
 rw [UInt8.toNat_ofNat']
 omega
theorem xO{x:Nat}(h:x≠0):txt x=((dec x).map byt).reverse:=if_neg h
theorem uQ{x:Nat}(h:x≠0):(txt x).length=(dec x).length:=by rw [xO h]; simp
theorem Yn{x:Nat}(h:x≠0):allD (txt x):=by
 intro c hc
 rw [xO h] at hc
 simp only [List.mem_reverse,List.mem_map] at hc
 obtain⟨d,hd,rfl⟩:=hc
 have:d<10:=Ten.zh x d hd
 rw [uM this]
 omega
theorem zgz{x:Nat}(h:x≠0):dg (txt x)=dec x:=by
 rw [xO h,dg,List.map_reverse,List.reverse_reverse,List.map_map]
 conv=>rhs; rw [← List.map_id (dec x)]
 refine List.map_congr_left fun d hd=> ?_
 have:d<10:=Ten.zh x d hd
 simp only [Function.comp,uM this,id]
 omega
theorem zdk{x:Nat}(h:x≠0):numD (txt x)=x:=by
 rw [← Ko,zgz h]
 exact Ten.zk x
theorem QL{x:Nat}(h:x≠0):(txt x).getD 0 0≠48∧(txt x).getD 0 0≠45:=by
 have hl:=JL h
 have ht:=Yc hl
 have hlt:=dec_lt x ((dec x).length - 1)
 have e:(txt x).getD 0 0=byt ((dec x).getD ((dec x).length - 1) 0):=by
  rw [xO h]
  simp only [List.getD_eq_getElem?_getD]
  rw [List.getElem?_reverse (by simpa using hl)]
  simp [List.getElem?_eq_getElem (show(dec x).length - 1<(dec x).length by omega)]
 rw [e]
 have hb:=uM hlt
 constructor
 ·intro h2
  rw [h2] at hb
  have:(48:UInt8).toNat=48:=rfl
  omega
 ·intro h2
  rw [h2] at hb
  have:(45:UInt8).toNat=45:=rfl
  omega
theorem zaq{x:Nat}(h:x≠0):txt x≠[]:=by
 intro h2
 have:=uQ h
 rw [h2] at this
 have:=JL h
 simp at *; omega
theorem Uu{x:Nat}(h:x≠0)(neg:Bool):parse (sgn neg (txt x))=(neg,txt x):=by
 cases neg with
 | true=>rfl
 | false=>
  simp only [sgn,Bool.false_eq_true,if_false]
  have h1:=(QL h).2
  cases ht:txt x with
  | nil=>exact absurd ht (zaq h)
  | cons c b=>
   rw [ht] at h1
   have:c≠45:=h1
   simp [parse,this]
theorem U9{x:Nat}(h:x≠0)(neg:Bool):jC neg (txt x)=true:=by
 have h1:=(QL h).1
 have h2:txt x≠[48]:=by
  intro h2
  rw [h2] at h1
  exact h1 rfl
 have h3:=zaq h
 have h4:(txt x).all isD=true:=Ye.2 (Yn h)
 simp only [List.getD_eq_getElem?_getD] at h1
 simp [jC,h3,h2,h1,h4]
theorem Zl{neg:Bool}{x:Nat}(h:(wr neg x).2=0):errI (wr neg x).1=0∧numI (wr neg x).1=x∧negI (wr neg x).1=(neg&&decide (x≠0)):=by
 unfold wr at h ⊢
 by_cases h0:x=0
 ·subst h0
  simp only [if_true]
  refine⟨rfl,rfl,?_⟩
  simp [negI,parse]
 ·rw [if_neg h0] at h ⊢
  by_cases h1:1000<(dec x).length
  ·rw [if_pos h1] at h; cases h
  ·rw [if_neg h1]
   simp only [errI,numI,negI,Uu h0,U9 h0,if_true]
   rw [uQ h0,if_neg h1]
   exact⟨rfl,zdk h0,by simp [h0]⟩
theorem zc9(neg:Bool)(x:Nat):(wr neg x).2=0∨wr neg x=([],14):=by
 unfold wr
 split
 ·exact .inl rfl
 ·split
  ·exact .inr rfl
  ·exact .inl rfl
theorem zf0(neg:Bool)(b:List UInt8):(sgn neg b).length≤b.length+1:=by
 unfold sgn; split<;>simp
theorem wL(neg:Bool)(x:Nat):(wr neg x).1.length≤1001:=by
 unfold wr
 split
 ·simp
 ·rename_i h0
  split
  ·simp
  ·rename_i h1
   have:=zf0 neg (txt x)
   rw [uQ h0] at this
   simp only
   omega
theorem zch(s t:List UInt8):(addI s t).1.length≤1001:=by
 unfold addI
 split
 ·exact wL _ _
 ·simp
theorem zc5(s t:List UInt8):(subI s t).1.length≤1001:=by
 unfold subI
 split
 ·exact wL _ _
 ·simp
theorem zce(s t:List UInt8):(mulI s t).1.length≤1001:=by
 unfold mulI
 split
 ·exact wL _ _
 ·simp
theorem zf2(b:Bool)(x:Nat):wr (b&&decide (0<x)) x=wr b x:=by
 unfold wr
 by_cases h:x=0
 ·rw [if_pos h,if_pos h]
 ·rw [if_neg h,if_neg h]
  have:decide (0<x)=true:=decide_eq_true (Nat.pos_of_ne_zero h)
  rw [this,Bool.and_true]
theorem zet(m:Bool)(x:Nat)(n:Bool)(y:Nat):(sumS m x n y).2≤x+y:=by
 unfold sumS
 split
 ·exact Nat.le_refl _
 ·split
  ·simp only; omega
  ·simp only; omega
end Go.Nov
end
section
namespace Go.Nov
def QG(neg:Bool)(x y:Nat):List UInt8:=
 if y/Nat.gcd x y=1 then(wr neg (x/Nat.gcd x y)).1 else(wr neg (x/Nat.gcd x y)).1++[47]++(wr false (y/Nat.gcd x y)).1
def jE(n d:List UInt8):List UInt8×Int:=if zu n d≠0 then([],zu n d) else if numI d=0 then([],16) else(QG (negI n != negI d) (numI n) (numI d),0)
def jd(a b:List UInt8):Int:=if errR a=0 then errR b else errR a
def numR(a:List UInt8):List UInt8:=(cutR a).1
def denR(a:List UInt8):List UInt8:=if(cutR a).2.2 then(cutR a).2.1 else [49]
def frac(z w:List UInt8×Int):List UInt8×Int:=if z.2≠0∨w.2≠0 then([],14) else jE z.1 w.1
def zM(a b:List UInt8):Int:=if jd a b≠0 then jd a b else if(mulI (numR a) (denR b)).2≠0∨(mulI (numR b) (denR a)).2≠0 then 14 else 0
def addR(a b:List UInt8):List UInt8×Int:=if zM a b≠0 then([],zM a b) else frac (addI (mulI (numR a) (denR b)).1 (mulI (numR b) (denR a)).1) (mulI (denR a) (denR b))
def subR(a b:List UInt8):List UInt8×Int:=if zM a b≠0 then([],zM a b) else frac (subI (mulI (numR a) (denR b)).1 (mulI (numR b) (denR a)).1) (mulI (denR a) (denR b))
def mulR(a b:List UInt8):List UInt8×Int:=if jd a b≠0 then([],jd a b) else frac (mulI (numR a) (numR b)) (mulI (denR a) (denR b))
def cmpR(a b:List UInt8):Int×Int:=if zM a b≠0 then(0,zM a b) else ux (mulI (numR a) (denR b)).1 (mulI (numR b) (denR a)).1
end Go.Nov
namespace Go.Nov
def dmQ(s t:List UInt8):Nat:=if negI s=true∧0<numI s%numI t then numI s/numI t+1 else numI s/numI t
def dmM(s t:List UInt8):Nat:=if negI s=true∧0<numI s%numI t then numI t - numI s%numI t else numI s%numI t
def dmI(s t:List UInt8):List UInt8×List UInt8×Int:=
 if zu s t≠0 then([],[],zu s t) else if numI t=0 then([],[],16) else((wr (negI s != negI t) (dmQ s t)).1,(wr false (dmM s t)).1,0)
theorem zdb{s:List UInt8}(h:errI s=0):∃ k,k≤1000∧numI s<10^k:=by
 obtain⟨_,h1,_,h2⟩:=ZC h
 exact⟨_,h2,ym h1⟩
def room(x:Nat):Prop:=(dec x).length≤1000
theorem room_le{x y:Nat}(h:x≤y)(hy:room y):room x:=by
 rcases Nat.lt_or_ge (dec y).length (dec x).length with h1 | h1
 ·have:=Ten.zP h1
  omega
 ·exact Nat.le_trans h1 hy
theorem jh{s:List UInt8}(h:errI s=0):room (numI s):=by
 obtain⟨k,h1,h2⟩:=zdb h
 exact Nat.le_trans (Za h2) h1
theorem vC{neg:Bool}{x:Nat}(h:room x):(wr neg x).2=0:=by
 unfold wr
 split
 ·rfl
 ·rw [if_neg (by have:(dec x).length≤1000:=h; omega)]
theorem zcu{s t:List UInt8}(hs:errI s=0)(ht:numI t≠0):room (dmQ s t):=by
 have h:=jh hs
 unfold dmQ
 split
 ·rename_i hc
  by_cases h1:numI t=1
  ·rw [h1,Nat.mod_one] at hc; omega
  ·refine room_le ?_ h
   have h2:numI s/numI t≤numI s/2:=Nat.div_le_div_left (by omega) (by omega)
   have h3:numI s≠0:=fun h0=>by rw [h0,Nat.zero_mod] at hc; omega
   by_cases h4:numI s=1
   ·have:numI s/numI t=0:=Nat.div_eq_of_lt (by omega)
    omega
   ·omega
 ·exact room_le (Nat.div_le_self _ _) h
theorem zbn{s t:List UInt8}(ht:errI t=0)(h0:numI t≠0):room (dmM s t):=by
 have h:=jh ht
 have hm:=Nat.mod_lt (numI s) (Nat.pos_of_ne_zero h0)
 unfold dmM
 split
 ·exact room_le (Nat.sub_le _ _) h
 ·exact room_le (by omega) h
end Go.Nov
namespace Go.Nov
theorem vY:wr false 1=([49],0):=by
 have h:dec 1=[1]:=by
  show Ten.canon 1=[1]
  rw [Ten.qA (by decide)]
  exact congrArg (1 :: ·) Ten.zC
 simp [wr,h,txt,sgn,byt]
theorem KF{x:Nat}(h:room x):(wr false x).1=[49]↔x=1:=by
 constructor
 ·intro e
  have:=(Zl (vC (neg:=false) h)).2.1
  rw [e] at this
  exact this.symm
 ·rintro rfl
  rw [vY]
theorem zcy{x:Nat}(h0:x≠0)(h:room x):[45]++(wr false x).1=(wr true x).1:=by
 unfold wr
 rw [if_neg h0,if_neg h0,if_neg (by have:(dec x).length≤1000:=h; omega),if_neg (by have:(dec x).length≤1000:=h; omega)]
 rfl
theorem kM{t:List UInt8}(h:errI t=0):t=[48]↔numI t=0:=by
 constructor
 ·rintro rfl; rfl
 ·intro h0
  obtain⟨neg,b,h1,h2,h3,h4,h5,h6⟩:=J8 h
  have hb:numD b=0:=by simpa [numI,h2] using h0
  cases b with
  | nil=>exact absurd rfl h5
  | cons c r=>
   have hc:=h4 c (by simp)
   have e:numD (c::r)=(c.toNat - 48)*10^r.length+numD r:=by
    have:=v7 [c] r
    simp only [List.singleton_append] at this
    rw [this]
    simp [numD]
   rw [e] at hb
   have hc0:c.toNat=48:=by
    rcases Nat.eq_zero_or_pos (c.toNat - 48) with h7 | h7
    ·omega
    ·have:=Nat.mul_pos h7 (Nat.pow_pos (n:=r.length) (show 0<10 by decide))
     omega
   have hc1:c=48:=UInt8.toNat_inj.1 (by rw [hc0]; rfl)
   subst hc1
   have hr:r=[]:=by
    cases r with
    | nil=>rfl
    | cons d r=>
     have:=vU (neg:=neg) (b:=48::d::r) rfl (by simp)
     rw [this] at h3; cases h3
   subst hr
   cases neg with
   | true=>cases h3
   | false=>simpa [sgn] using h1
theorem VL{s:List UInt8}{b:Bool}{g:Nat}(hs:errI s=0)(h0:g≠0)(hg:room g)(hd:g ∣ numI s):dmI s (wr b g).1=((wr (negI s != b) (numI s/g)).1,[48],0):=by
 obtain⟨h1,h2,h3⟩:=Zl (vC (neg:=b) hg)
 have hb:negI (wr b g).1=b:=by rw [h3]; simp [h0]
 have he:zu s (wr b g).1=0:=zm.2 ⟨hs,h1⟩
 have hm:numI s%g=0:=Nat.mod_eq_zero_of_dvd hd
 unfold dmI
 rw [if_neg (by rw [he]; decide),h2,if_neg h0,hb]
 have hq:dmQ s (wr b g).1=numI s/g:=by
  unfold dmQ
  rw [h2,hm,if_neg (by omega)]
 have hr:dmM s (wr b g).1=0:=by
  unfold dmM
  rw [h2,hm,if_neg (by omega)]
 rw [hq,hr]
 rfl
theorem Vh{s t:List UInt8}(ht:errI t=0)(h0:numI t≠0):Nat.gcd (numI s) (numI t)≠0∧room (Nat.gcd (numI s) (numI t)):=by
 have hp:=Nat.pos_of_ne_zero h0
 refine⟨fun h=> ?_,room_le (Nat.le_of_dvd hp (Nat.gcd_dvd_right _ _)) (jh ht)⟩
 have:=Nat.eq_zero_of_gcd_eq_zero_right h
 exact h0 this
theorem Uc(neg:Bool)(x y:Nat):(QG neg x y).length≤2003:=by
 unfold QG
 have h1:=wL neg (x/Nat.gcd x y)
 have h2:=wL false (y/Nat.gcd x y)
 split
 ·omega
 ·simp only [List.length_append,List.length_cons,List.length_nil]; omega
end Go.Nov
namespace Go.Nov
theorem Vz:errI [49]=0:=rfl
theorem qz{a:List UInt8}(h:errR a=0):errI (numR a)=0∧errI (denR a)=0∧negI (denR a)=false∧numI (denR a)≠0:=by
 unfold errR at h
 unfold numR denR
 cases hc:(cutR a).2.2 with
 | true=>
  rw [hc] at h
  simp only [if_true] at h ⊢
  split at h
  ·cases h
  ·rename_i h1
   simp only [not_or] at h1
   split at h
   ·cases h
   ·rename_i h2
    simp only [not_or,Classical.not_not] at h2
    refine⟨h2.1,h2.2,by simpa using h1.2.2.1,fun h0=> ?_⟩
    exact h1.2.2.2.1 ((kM h2.2).2 h0)
 | false=>
  rw [hc] at h
  simp only [Bool.false_eq_true,if_false] at h ⊢
  have:(cutR a).1=a:=by
   unfold cutR at hc ⊢
   split at hc
   ·cases hc
   ·rename_i hn; rw [if_neg hn]
  rw [this]
  exact⟨h,Vz,rfl,by decide⟩
theorem Wu(a:List UInt8):(numR a).length≤a.length:=(JF a).1
theorem VU(a:List UInt8):(denR a).length≤a.length+1:=by
 unfold denR
 split
 ·exact Nat.le_trans (JF a).2 (Nat.le_succ _)
 ·simp
theorem vf{s t:List UInt8}(h:zu s t=0):(mulI s t).2=0∧errI (mulI s t).1=0∨mulI s t=([],14):=by
 unfold mulI
 rw [if_pos h]
 exact(zc9 _ _).imp (fun h=>⟨h,(Zl h).1⟩) id
theorem zai{s t:List UInt8}(h:zu s t=0):(addI s t).2=0∧errI (addI s t).1=0∨addI s t=([],14):=by
 unfold addI
 rw [if_pos h]
 exact(zc9 _ _).imp (fun h=>⟨h,(Zl h).1⟩) id
end Go.Nov
namespace Go.Nov
def stp(e:Int)(f:List UInt8→List UInt8→List UInt8×Int)(x y:List UInt8):List UInt8×Int:=if e≠0 then([],e) else f x y
theorem zes{e:Int}{f:List UInt8→List UInt8→List UInt8×Int}{x y:List UInt8}(h:(f x y).1.length≤1001):(stp e f x y).1.length≤1001:=by
 unfold stp
 split
 ·simp
 ·exact h
theorem zW{e:Int}(h:e≠0)(f:List UInt8→List UInt8→List UInt8×Int)(x y:List UInt8):stp e f x y=([],e):=if_pos h
theorem jY(f:List UInt8→List UInt8→List UInt8×Int)(x y:List UInt8):stp 0 f x y=f x y:=if_neg (by simp)
def Zx(f:List UInt8→List UInt8→List UInt8×Int)(a b:List UInt8):List UInt8×Int:=
 if zM a b≠0 then([],zM a b) else frac (f (mulI (numR a) (denR b)).1 (mulI (numR b) (denR a)).1) (mulI (denR a) (denR b))
section
variable {a b n m d c:List UInt8} {e:Int} (hp:(e≠0∧jd a b=e)∨(e=0∧errR a=0∧errR b=0∧n=numR a∧m=numR b∧d=denR a∧c=denR b))
include hp
theorem V0{f:List UInt8→List UInt8→List UInt8×Int}(hf:∀ {s t:List UInt8},zu s t=0→(f s t).2=0∧errI (f s t).1=0∨f s t=([],14)){r1 r2 r3 r4 r5:List UInt8×Int}
  (h1:r1=stp e mulI n c) (h2:r2=stp r1.2 mulI m d) (h3:r3=stp r2.2 f r1.1 r2.1) (h4:r4=stp r3.2 mulI d c) (h5:r5=stp r4.2 jE r3.1 r4.1):r5=Zx f a b:=by
 rcases hp with ⟨he,h2e⟩ | ⟨rfl,ha,hb,rfl,rfl,rfl,rfl⟩
 ·have hc:zM a b=e:=by unfold zM; rw [if_pos (by rw [h2e]; exact he)]; exact h2e
  unfold Zx
  rw [hc,if_pos he]
  rw [zW he] at h1
  subst h1
  rw [zW he] at h2
  subst h2
  rw [zW he] at h3
  subst h3
  rw [zW he] at h4
  subst h4
  rw [h5,zW he]
 ·obtain⟨a1,a2,_⟩:=qz ha
  obtain⟨b1,b2,_⟩:=qz hb
  have he2:jd a b=0:=by unfold jd; rw [if_pos ha]; exact hb
  have e14:(14:Int)≠0:=by decide
  rw [jY] at h1
  have hc:zM a b=if(mulI (numR a) (denR b)).2≠0∨(mulI (numR b) (denR a)).2≠0 then 14 else 0:=by unfold zM; rw [if_neg (by rw [he2]; simp)]
  rcases vf (zm.2 ⟨a1,b2⟩) with ⟨g1,k1⟩ | g1
  ·rw [← h1] at g1 k1
   rw [g1,jY] at h2
   rcases vf (zm.2 ⟨b1,a2⟩) with ⟨g2,k2⟩ | g2
   ·rw [← h2] at g2 k2
    rw [g2,jY] at h3
    have hc0:zM a b=0:=by rw [hc,if_neg]; rw [← h1,← h2,g1,g2]; simp
    unfold Zx
    rw [hc0,if_neg (by simp),← h1,← h2,← h3]
    rcases hf (zm.2 ⟨k1,k2⟩) with ⟨g3,k3⟩ | g3
    ·rw [← h3] at g3 k3
     rw [g3,jY] at h4
     unfold frac
     rw [← h4,h5]
     rcases vf (zm.2 ⟨a2,b2⟩) with ⟨g4,k4⟩ | g4
     ·rw [← h4] at g4
      rw [g3,g4,if_neg (by simp),jY]
     ·rw [← h4] at g4
      rw [g4,if_pos (by simp),zW e14]
    ·rw [← h3] at g3
     have q4:r4=([],14):=by rw [h4,g3]; exact zW e14 _ _ _
     unfold frac
     rw [if_pos (by rw [g3]; simp),h5,q4,zW e14]
   ·rw [← h2] at g2
    have hc0:zM a b=14:=by rw [hc,if_pos]; rw [← h2,g2]; simp
    unfold Zx
    rw [hc0,if_pos e14]
    have q3:r3=([],14):=by rw [h3,g2]; exact zW e14 _ _ _
    have q4:r4=([],14):=by rw [h4,q3]; exact zW e14 _ _ _
    rw [h5,q4,zW e14]
  ·rw [← h1] at g1
   have hc0:zM a b=14:=by rw [hc,if_pos]; rw [← h1,g1]; simp
   unfold Zx
   rw [hc0,if_pos e14]
   have q2:r2=([],14):=by rw [h2,g1]; exact zW e14 _ _ _
   have q3:r3=([],14):=by rw [h3,q2]; exact zW e14 _ _ _
   have q4:r4=([],14):=by rw [h4,q3]; exact zW e14 _ _ _
   rw [h5,q4,zW e14]
theorem Uq{x y z w:List UInt8}{r1 r2 r3:List UInt8×Int}(h1:r1=stp e mulI x y)(h2:r2=stp r1.2 mulI z w)(h3:r3=stp r2.2 jE r1.1 r2.1)
  (hv:errR a=0→errR b=0→zu x y=0∧zu z w=0):r3=if jd a b≠0 then([],jd a b) else frac (mulI x y) (mulI z w):=by
 rcases hp with ⟨he,h2e⟩ | ⟨rfl,ha,hb,_⟩
 ·rw [h2e,if_pos he]
  rw [zW he] at h1
  subst h1
  rw [zW he] at h2
  subst h2
  rw [h3,zW he]
 ·obtain⟨v1,v2⟩:=hv ha hb
  have he2:jd a b=0:=by unfold jd; rw [if_pos ha]; exact hb
  have e14:(14:Int)≠0:=by decide
  rw [he2,if_neg (by simp)]
  rw [jY] at h1
  unfold frac
  rcases vf v1 with ⟨g1,_⟩ | g1
  ·rw [← h1] at g1 ⊢
   rw [g1,jY] at h2
   rcases vf v2 with ⟨g2,_⟩ | g2
   ·rw [← h2] at g2 ⊢
    rw [g1,g2,if_neg (by simp),h3,g2,jY]
   ·rw [← h2] at g2 ⊢
    rw [g2,if_pos (by simp),h3,g2,zW e14]
  ·rw [← h1] at g1 ⊢
   have q2:r2=([],14):=by rw [h2,g1]; exact zW e14 _ _ _
   rw [g1,if_pos (by simp),h3,q2,zW e14]
theorem Y7{r1 r2:List UInt8×Int}(h1:r1=stp e mulI n c)(h2:r2=stp r1.2 mulI m d):(if r2.2≠0 then(0,r2.2) else ux r1.1 r2.1)=cmpR a b:=by
 unfold cmpR
 rcases hp with ⟨he,h2e⟩ | ⟨rfl,ha,hb,rfl,rfl,rfl,rfl⟩
 ·have hc:zM a b=e:=by unfold zM; rw [if_pos (by rw [h2e]; exact he)]; exact h2e
  rw [zW he] at h1
  subst h1
  rw [zW he] at h2
  subst h2
  rw [hc,if_pos he,if_pos he]
 ·obtain⟨a1,a2,_⟩:=qz ha
  obtain⟨b1,b2,_⟩:=qz hb
  have he2:jd a b=0:=by unfold jd; rw [if_pos ha]; exact hb
  have e14:(14:Int)≠0:=by decide
  have hc:zM a b=if(mulI (numR a) (denR b)).2≠0∨(mulI (numR b) (denR a)).2≠0 then 14 else 0:=by unfold zM; rw [if_neg (by rw [he2]; simp)]
  rw [jY] at h1
  rcases vf (zm.2 ⟨a1,b2⟩) with ⟨g1,k1⟩ | g1
  ·rw [← h1] at g1
   rw [g1,jY] at h2
   rcases vf (zm.2 ⟨b1,a2⟩) with ⟨g2,k2⟩ | g2
   ·rw [← h2] at g2
    have hc0:zM a b=0:=by rw [hc,if_neg]; rw [← h1,← h2,g1,g2]; simp
    rw [hc0,if_neg (by rw [g2]; simp),if_neg (by simp),← h1,← h2]
   ·rw [← h2] at g2
    have hc0:zM a b=14:=by rw [hc,if_pos]; rw [← h2,g2]; simp
    rw [hc0,g2,if_pos e14,if_pos e14]
  ·rw [← h1] at g1
   have hc0:zM a b=14:=by rw [hc,if_pos]; rw [← h1,g1]; simp
   have q2:r2=([],14):=by rw [h2,g1]; exact zW e14 _ _ _
   rw [hc0,q2,if_pos e14,if_pos e14]
end
end Go.Nov
end
section
namespace Go.Nov
theorem zhd{b:List UInt8}(h:allD b)(hn:b≠[])(hz:b.getD 0 0≠48):numD b≠0∧txt (numD b)=b:=by
 have hd:=zh4 h
 have hl:0<b.length:=List.length_pos_iff.2 hn
 have htl:Ten.tlen (dg b)=(dg b).length:=by
  rcases Nat.lt_or_ge (Ten.tlen (dg b)) (dg b).length with h1 | h1
  ·exfalso
   have h2:=Ten.jw (dg b) ((dg b).length - 1) (by omega)
   rw [KP] at h2
   have e:(dg b).getD (b.length - 1) 0=(b.getD 0 0).toNat - 48:=by
    simp only [dg,List.getD_eq_getElem?_getD]
    rw [List.getElem?_reverse (by simp; omega)]
    simp [List.getElem?_eq_getElem hl,show b.length - 1 - (b.length - 1)=0 by omega]
   rw [e] at h2
   have h3:48≤(b.getD 0 0).toNat:=by
    cases b with
    | nil=>exact absurd rfl hn
    | cons c r=>exact(h c (by simp)).1
   apply hz
   apply UInt8.toNat_inj.1
   show _=48
   omega
  ·exact Nat.le_antisymm (Ten.zZ _) h1
 have hc:dec (numD b)=dg b:=by
  rw [← Ko]
  exact Ten.QN hd htl
 have h0:numD b≠0:=by
  intro h0
  rw [h0] at hc
  have:dg b=[]:=by rw [← hc]; exact Ten.zC
  have:=congrArg List.length this
  rw [KP,List.length_nil] at this
  omega
 refine⟨h0,?_⟩
 rw [xO h0,hc,dg,← List.map_reverse,List.reverse_reverse,List.map_map]
 conv=>rhs; rw [← List.map_id b]
 refine List.map_congr_left fun c hcm=> ?_
 obtain⟨h1,h2⟩:=h c hcm
 apply UInt8.toNat_inj.1
 simp only [Function.comp,id]
 rw [uM (by omega)]
 omega
theorem XC{s:List UInt8}(h:errI s=0):wr (negI s) (numI s)=(s,0):=by
 obtain⟨neg,b,h1,h2,h3,h4,h5,h6⟩:=J8 h
 have e1:negI s=neg:=by simp [negI,h2]
 have e2:numI s=numD b:=by simp [numI,h2]
 rw [e1,e2]
 by_cases hz:b.getD 0 0=48
 ·have hb:b=[48]:=by
   cases b with
   | nil=>exact absurd rfl h5
   | cons c r=>
    cases r with
    | nil=>have:c=48:=hz; rw [this]
    | cons d r=>rw [vU hz (by simp)] at h3; cases h3
  subst hb
  cases neg with
  | true=>cases h3
  | false=>rw [h1]; rfl
 ·obtain⟨g1,g2⟩:=zhd h4 h5 hz
  unfold wr
  rw [if_neg g1,g2,if_neg,h1]
  have:=uQ g1
  rw [g2] at this
  omega
def zI(s:List UInt8):Int:=if negI s then -(numI s:Int) else numI s
theorem jL(s:List UInt8):(zI s).natAbs=numI s:=by unfold zI; split<;>simp
theorem Wr{s:List UInt8}(h:errI s=0):negI s=decide (zI s<0):=by
 unfold zI
 cases hn:negI s with
 | false=>simp
 | true=>
  simp only [if_true]
  have:numI s≠0:=by
   intro h0
   have:=(kM h).2 h0
   rw [this] at hn
   cases hn
  exact(decide_eq_true (by omega)).symm
def wz(z:Int):List UInt8×Int:=wr (decide (z<0)) z.natAbs
theorem JH{s:List UInt8}(h:errI s=0):wz (zI s)=(s,0):=by
 unfold wz
 rw [jL,← Wr h,XC h]
theorem zi3{neg:Bool}{x:Nat}(h:(wr neg x).2=0):zI (wr neg x).1=if neg then -(x:Int) else x:=by
 obtain⟨h1,h2,h3⟩:=Zl h
 unfold zI
 rw [h2,h3]
 by_cases h0:x=0
 ·subst h0; simp
 ·cases neg<;>simp [h0]
theorem xl{z:Int}(h:(wz z).2=0):zI (wz z).1=z:=by
 unfold wz at h ⊢
 rw [zi3 h]
 by_cases hz:z<0
 ·rw [decide_eq_true hz]; simp only [if_true]; omega
 ·rw [decide_eq_false hz]; simp only [Bool.false_eq_true,if_false]; omega
theorem ui{z:Int}(h:(wz z).2=0):errI (wz z).1=0:=(Zl h).1
theorem XI{neg:Bool}{x:Nat} : wr neg x=wz (if neg then -(x:Int) else x):=by
 unfold wz
 by_cases h0:x=0
 ·subst h0
  cases neg<;>rfl
 ·cases neg with
  | false=>simp only [Bool.false_eq_true,if_false,Int.natAbs_natCast]; rw [decide_eq_false (by omega)]
  | true=>simp only [if_true,Int.natAbs_neg,Int.natAbs_natCast]; rw [decide_eq_true (by omega)]
theorem zhk(m:Bool)(x:Nat)(n:Bool)(y:Nat):(if(sumS m x n y).1 then -((sumS m x n y).2:Int) else(sumS m x n y).2)=(if m then -(x:Int) else x)+(if n then -(y:Int) else y):=by
 unfold sumS
 by_cases h:m=n
 ·subst h
  rw [if_pos rfl]
  cases m<;>simp<;>omega
 ·rw [if_neg h]
  by_cases h2:y≤x
  ·rw [if_pos h2]
   cases m<;>cases n<;>first | exact absurd rfl h | (simp; omega)
  ·rw [if_neg h2]
   cases m<;>cases n<;>first | exact absurd rfl h | (simp; omega)
theorem zhn{s t:List UInt8}(h:zu s t=0):addI s t=wz (zI s+zI t):=by
 unfold addI
 rw [if_pos h,XI,zhk]; rfl
theorem xE{s t:List UInt8}(h:zu s t=0):mulI s t=wz (zI s*zI t):=by
 unfold mulI
 rw [if_pos h,XI]
 congr 1
 unfold zI
 cases negI s<;>cases negI t<;>simp [Int.neg_mul,Int.mul_neg]
theorem zhg(m:Bool)(x:Nat)(n:Bool)(y:Nat)(hm:m=true→x≠0)(hn:n=true→y≠0):cmpZ m x n y=cmpI (if m then -(x:Int) else x) (if n then -(y:Int) else y):=by
 unfold cmpZ cmpI cmpN
 cases m<;>cases n
 ·simp only [Bool.false_eq_true,false_and,if_false]
  repeat' split
  all_goals first | rfl | omega
 ·have:=hn rfl
  simp only [Bool.false_eq_true,false_and,if_false,true_and,and_self,if_true]
  repeat' split
  all_goals first | rfl | omega
 ·have:=hm rfl
  simp only [and_self,if_true,Bool.false_eq_true,if_false]
  repeat' split
  all_goals first | rfl | omega
 ·simp only [Bool.true_eq_false,and_false,if_false,if_true]
  repeat' split
  all_goals first | rfl | omega
def qv(a:List UInt8):Rat:=Rat.divInt (zI (numR a)) (zI (denR a))
def qstr(r:Rat):List UInt8:=if r.den=1 then(wz r.num).1 else(wz r.num).1++[47]++(wz r.den).1
def xt(r:Rat):Prop:=room r.num.natAbs∧room r.den
theorem zb4(neg:Bool)(x:Nat):∀ c∈(wr neg x).1,c≠47:=by
 intro c hc h
 subst h
 unfold wr at hc
 split at hc
 ·simp at hc
 ·rename_i h0
  split at hc
  ·simp at hc
  ·have ht:¬ (47:UInt8)∈txt x:=fun hm=>by
    have:=(Yn h0 _ hm).1
    have e:(47:UInt8).toNat=47:=rfl
    omega
   cases neg<;>simp [sgn] at hc<;>exact ht hc
theorem UE{u v:List UInt8}(h:∀ c∈u,c≠47):cutR (u++[47]++v)=(u,v,true):=by
 have hs:zB (u++[47]++v)=u.length:=by
  refine zaj (by simp) (by simp [List.getD]) fun j hj=> ?_
  rw [List.append_assoc]
  simp only [List.getD,List.getElem?_append_left hj,List.getElem?_eq_getElem hj,Option.getD_some]
  exact h _ (List.getElem_mem hj)
 rw [X8 (by rw [hs]; simp),hs]
 simp
theorem Y3{u:List UInt8}(h:∀ c∈u,c≠47):cutR u=(u,[],false):=by
 have hs:zB u=u.length:=Kn fun j hj=>by
  simp only [List.getD,List.getElem?_eq_getElem hj,Option.getD_some]
  exact h _ (List.getElem_mem hj)
 exact US (by omega)
theorem Vg(z:Int):∀ c∈(wz z).1,c≠47:=zb4 _ _
theorem xb{z:Int}(h:room z.natAbs):(wz z).2=0:=vC h
theorem zh0:wz 1=([49],0):=vY
theorem Ze{r:Rat}(h:xt r):numR (qstr r)=(wz r.num).1∧denR (qstr r)=(wz (r.den:Int)).1∧(cutR (qstr r)).2.2=decide (r.den≠1):=by
 unfold qstr
 by_cases h1:r.den=1
 ·rw [if_pos h1]
  have:=Y3 (Vg r.num)
  unfold numR denR
  rw [this,h1]
  exact⟨rfl,by simp only [Bool.false_eq_true,if_false]; exact(congrArg Prod.fst zh0).symm,by simp⟩
 ·rw [if_neg h1]
  have:=UE (v:=(wz (r.den:Int)).1) (Vg r.num)
  unfold numR denR
  rw [this]
  exact⟨rfl,rfl,by simp [h1]⟩
theorem Yv{r:Rat}(h:xt r):qv (qstr r)=r:=by
 obtain⟨h1,h2,_⟩:=Ze h
 unfold qv
 rw [h1,h2,xl (xb h.1),xl (xb (by rw [Int.natAbs_natCast]; exact h.2)),Rat.divInt_ofNat,Rat.mkRat_self]
theorem Jt{r:Rat}(h:xt r):errR (qstr r)=0:=by
 obtain⟨h1,h2,h3⟩:=Ze h
 have e1:=ui (xb h.1)
 have e2:errI (wz (r.den:Int)).1=0:=ui (xb (by rw [Int.natAbs_natCast]; exact h.2))
 have z1:=xl (xb h.1)
 have z2:zI (wz (r.den:Int)).1=r.den:=xl (xb (by rw [Int.natAbs_natCast]; exact h.2))
 unfold errR
 by_cases hd:r.den=1
 ·rw [h3,hd]
  simp only [ne_eq,not_true_eq_false,decide_false,Bool.false_eq_true,if_false]
  unfold qstr
  rw [if_pos hd]
  exact e1
 ·have hc:(cutR (qstr r)).2.2=true:=by rw [h3]; simp [hd]
  have n1:(cutR (qstr r)).1=(wz r.num).1:=h1
  have n2:(cutR (qstr r)).2.1=(wz (r.den:Int)).1:=by unfold denR at h2; rw [hc] at h2; exact h2
  rw [hc,if_pos rfl,n1,n2]
  have hp:=r.den_pos
  have hneg:negI (wz (r.den:Int)).1=false:=by rw [Wr e2,z2]; exact decide_eq_false (by omega)
  have hn48:(wz (r.den:Int)).1≠[48]:=fun h=>by
   rw [h] at z2
   have:zI [48]=0:=rfl
   omega
  have hn49:(wz (r.den:Int)).1≠[49]:=fun h=>by
   rw [h] at z2
   have:zI [49]=1:=rfl
   omega
  rw [if_neg (by simp [e1,e2,hneg,hn48,hn49]),if_neg (by simp [e1,e2])]
  have hg:gcdR (wz r.num).1 (wz (r.den:Int)).1=wr false (Nat.gcd r.num.natAbs r.den):=by
   unfold gcdR
   rw [if_pos (zm.2 ⟨e1,e2⟩),← jL,← jL,z1,z2,Int.natAbs_natCast]
  have hr:Nat.gcd r.num.natAbs r.den=1:=r.reduced
  rw [hg,hr,vY,if_neg (by simp)]
theorem Qn{a:List UInt8}(h:errR a=0):(qv a).num=zI (numR a)∧((qv a).den:Int)=zI (denR a)∧qstr (qv a)=a∧xt (qv a):=by
 obtain⟨e1,e2,e3,e4⟩:=qz h
 have hz:zI (denR a)=numI (denR a):=by unfold zI; rw [e3]; rfl
 have hcop:Nat.gcd (numI (numR a)) (numI (denR a))=1:=by
  unfold errR at h
  cases hc:(cutR a).2.2 with
  | true=>
   rw [hc,if_pos rfl] at h
   have hd:denR a=(cutR a).2.1:=by unfold denR; rw [hc]; rfl
   rw [hd] at e2 e4 ⊢
   unfold numR at e1 ⊢
   split at h
   ·cases h
   split at h
   ·cases h
   split at h
   ·cases h
   ·rename_i hg
    rw [Classical.not_not] at hg
    unfold gcdR at hg
    rw [if_pos (zm.2 ⟨e1,e2⟩)] at hg
    exact(KF (Vh e2 e4).2).1 hg
  | false=>
   have:denR a=[49]:=by unfold denR; rw [hc]; rfl
   rw [this]
   exact Nat.gcd_one_right _
 have hq:qv a=⟨zI (numR a),numI (denR a),e4,by rw [jL]; exact hcop⟩:=by
  unfold qv
  rw [hz,Rat.mk_eq_divInt]
 have hroom:xt (qv a):=by
  rw [hq]
  exact⟨by show room (zI (numR a)).natAbs; rw [jL]; exact jh e1,jh e2⟩
 refine⟨by rw [hq],by rw [hq,hz],?_,hroom⟩
 rw [hq]
 unfold qstr
 simp only
 rw [← hz,JH e1,JH e2]
 cases hc:(cutR a).2.2 with
 | true=>
  have hd:denR a=(cutR a).2.1:=by unfold denR; rw [hc]; rfl
  have hn1:numI (denR a)≠1:=by
   intro h1
   have:denR a=[49]:=by
    have:=(XC e2)
    rw [e3,h1,vY] at this
    exact(congrArg Prod.fst this).symm
   unfold errR at h
   rw [hc,if_pos rfl,if_pos (by rw [← hd,this]; simp)] at h
   cases h
  rw [if_neg hn1,hd]
  simp only [numR]
  unfold cutR at hc ⊢
  split at hc
  ·rename_i hs
   rw [if_pos hs]
   simp only
   have h47:=Ql hs
   have:a=a.take (zB a)++([a.getD (zB a) 0]++a.drop (zB a+1)):=by
    conv=>lhs; rw [← List.take_append_drop (zB a) a]
    congr 1
    rw [List.drop_eq_getElem_cons hs]
    simp [List.getD,List.getElem?_eq_getElem hs]
   rw [h47] at this
   rw [List.append_assoc]
   exact this.symm
  ·cases hc
 | false=>
  have hd:denR a=[49]:=by unfold denR; rw [hc]; rfl
  rw [hd]
  have:numI [49]=1:=rfl
  rw [if_pos this]
  unfold numR
  unfold cutR at hc ⊢
  split at hc
  ·cases hc
  ·rename_i hs
   rw [if_neg hs]
theorem zf7(a b:Int)(hb:b≠0):b.sign*a=if(decide (a<0) != decide (b<0))=true then -(a.natAbs:Int) else a.natAbs:=by
 by_cases h1:a<0
 ·rw [decide_eq_true h1]
  by_cases h2:b<0
  ·rw [decide_eq_true h2,Int.sign_eq_neg_one_of_neg h2]; simp; omega
  ·rw [decide_eq_false h2,Int.sign_eq_one_of_pos (by omega)]; simp; omega
 ·rw [decide_eq_false h1]
  by_cases h2:b<0
  ·rw [decide_eq_true h2,Int.sign_eq_neg_one_of_neg h2]; simp; omega
  ·rw [decide_eq_false h2,Int.sign_eq_one_of_pos (by omega)]; simp; omega
theorem zhu{n d:List UInt8}(hn:errI n=0)(hd:errI d=0)(h0:numI d≠0):jE n d=(qstr (Rat.divInt (zI n) (zI d)),0)∧xt (Rat.divInt (zI n) (zI d)):=by
 have hz0:zI d≠0:=fun h=>h0 (by rw [← jL,h]; rfl)
 have hg:(zI d).gcd (zI n)=Nat.gcd (numI n) (numI d):=by
  show Nat.gcd _ _=_
  rw [jL,jL,Nat.gcd_comm]
 have hden:(Rat.divInt (zI n) (zI d)).den=numI d/Nat.gcd (numI n) (numI d):=by
  rw [Rat.den_divInt,if_neg hz0,hg,jL]
 have hdv:Nat.gcd (numI n) (numI d) ∣ numI n:=Nat.gcd_dvd_left _ _
 have hnum:(Rat.divInt (zI n) (zI d)).num=if(negI n != negI d)=true then -((numI n/Nat.gcd (numI n) (numI d):Nat):Int) else((numI n/Nat.gcd (numI n) (numI d):Nat):Int):=by
  rw [Rat.num_divInt,hg,zf7 _ _ hz0,jL,← Wr hn,← Wr hd]
  split
  ·rw [Int.neg_ediv_of_dvd (Int.natCast_dvd_natCast.2 hdv),Int.natCast_ediv]
  ·rw [Int.natCast_ediv]
 have hroom:xt (Rat.divInt (zI n) (zI d)):=by
  refine⟨?_,by rw [hden]; exact room_le (Nat.div_le_self _ _) (jh hd)⟩
  rw [hnum]
  have:room (numI n/Nat.gcd (numI n) (numI d)):=room_le (Nat.div_le_self _ _) (jh hn)
  split
  ·rw [Int.natAbs_neg,Int.natAbs_natCast]; exact this
  ·rw [Int.natAbs_natCast]; exact this
 refine⟨?_,hroom⟩
 unfold jE
 rw [if_neg (by rw [zm.2 ⟨hn,hd⟩]; simp),if_neg h0]
 congr 1
 unfold QG qstr
 rw [hden,hnum]
 have e2:(wr false (numI d/Nat.gcd (numI n) (numI d))).1=(wz ((numI d/Nat.gcd (numI n) (numI d):Nat):Int)).1:=by rw [XI]; rfl
 rw [XI,e2]
theorem zd1{n d:List UInt8}{e f:Int}{z w:Int}(hw:w≠0)(hz:(n,e)=wz z)(hd:(d,f)=wz w):frac (n,e) (d,f)=([],14)∨(frac (n,e) (d,f)=(qstr (Rat.divInt z w),0)∧xt (Rat.divInt z w)):=by
 unfold frac
 by_cases he:e=0
 ·by_cases hf:f=0
  ·subst he; subst hf
   have h1:(wz z).2=0:=by rw [← hz]
   have h2:(wz w).2=0:=by rw [← hd]
   have n1:n=(wz z).1:=by rw [← hz]
   have n2:d=(wz w).1:=by rw [← hd]
   have z1:=xl h1
   have z2:=xl h2
   have e1:=ui h1
   have e2:=ui h2
   rw [← n1] at z1 e1
   rw [← n2] at z2 e2
   right
   rw [if_neg (by simp)]
   have:=zhu e1 e2 (fun h=>hw (by rw [← z2]; have:=jL d; omega))
   rw [z1,z2] at this
   exact this
  ·left; rw [if_pos (.inr hf)]
 ·left; rw [if_pos (.inl he)]
section
variable {a b:List UInt8} (ha:errR a=0) (hb:errR b=0)
include ha hb
theorem V2:errI (numR a)=0∧errI (denR a)=0∧errI (numR b)=0∧errI (denR b)=0∧zI (denR a)≠0∧zI (denR b)≠0∧jd a b=0:=by
 obtain⟨a1,a2,_,a4⟩:=qz ha
 obtain⟨b1,b2,_,b4⟩:=qz hb
 exact⟨a1,a2,b1,b2,fun h=>a4 (by rw [← jL,h]; rfl),fun h=>b4 (by rw [← jL,h]; rfl),by unfold jd; rw [if_pos ha]; exact hb⟩
theorem Yo:zM a b=14∨(zM a b=0∧mulI (numR a) (denR b)=wz (zI (numR a)*zI (denR b))∧mulI (numR b) (denR a)=wz (zI (numR b)*zI (denR a))∧(mulI (numR a) (denR b)).2=0∧(mulI (numR b) (denR a)).2=0):=by
 obtain⟨a1,a2,b1,b2,a4,b4,h2⟩:=V2 ha hb
 have m1:=xE (zm.2 ⟨a1,b2⟩)
 have m2:=xE (zm.2 ⟨b1,a2⟩)
 unfold zM
 rw [if_neg (by rw [h2]; simp)]
 by_cases h:(mulI (numR a) (denR b)).2≠0∨(mulI (numR b) (denR a)).2≠0
 ·left; rw [if_pos h]
 ·right
  rw [if_neg h]
  simp only [not_or,Classical.not_not] at h
  exact⟨rfl,m1,m2,h.1,h.2⟩
theorem zhy:addR a b=([],14)∨(addR a b=(qstr (qv a+qv b),0)∧xt (qv a+qv b)):=by
 obtain⟨a1,a2,b1,b2,a4,b4,h2⟩:=V2 ha hb
 unfold addR
 rcases Yo ha hb with h | ⟨h,m1,m2,k1,k2⟩
 ·left; rw [h]; rfl
 ·rw [h,if_neg (by simp)]
  rw [m1] at k1
  rw [m2] at k2
  have e1:=ui k1
  have e2:=ui k2
  have:=zd1 (n:=(addI (mulI (numR a) (denR b)).1 (mulI (numR b) (denR a)).1).1) (e:=(addI (mulI (numR a) (denR b)).1 (mulI (numR b) (denR a)).1).2) (d:=(mulI (denR a) (denR b)).1) (f:=(mulI (denR a) (denR b)).2)
   (z:=zI (numR a)*zI (denR b)+zI (numR b)*zI (denR a)) (w:=zI (denR a)*zI (denR b)) (Int.mul_ne_zero a4 b4) (by rw [m1,m2,zhn (zm.2 ⟨e1,e2⟩),xl k1,xl k2]) (by rw [xE (zm.2 ⟨a2,b2⟩)])
  unfold qv
  rw [Rat.divInt_add_divInt _ _ a4 b4]
  exact this
theorem zgs:mulR a b=([],14)∨(mulR a b=(qstr (qv a*qv b),0)∧xt (qv a*qv b)):=by
 obtain⟨a1,a2,b1,b2,a4,b4,h2⟩:=V2 ha hb
 unfold mulR
 rw [h2,if_neg (by simp)]
 have:=zd1 (n:=(mulI (numR a) (numR b)).1) (e:=(mulI (numR a) (numR b)).2) (d:=(mulI (denR a) (denR b)).1) (f:=(mulI (denR a) (denR b)).2)
  (z:=zI (numR a)*zI (numR b)) (w:=zI (denR a)*zI (denR b)) (Int.mul_ne_zero a4 b4) (by rw [xE (zm.2 ⟨a1,b1⟩)]) (by rw [xE (zm.2 ⟨a2,b2⟩)])
 unfold qv
 rw [Rat.divInt_mul_divInt]
 exact this
theorem zhl:cmpR a b=(0,14)∨cmpR a b=(if qv a<qv b then -1 else if qv b<qv a then 1 else 0,0):=by
 obtain⟨a1,a2,b1,b2,a4,b4,h2⟩:=V2 ha hb
 obtain⟨p1,p2,_,_⟩:=Qn ha
 obtain⟨r1,r2,_,_⟩:=Qn hb
 unfold cmpR
 rcases Yo ha hb with h | ⟨h,m1,m2,k1,k2⟩
 ·left; rw [h]; rfl
 ·right
  rw [h,if_neg (by simp)]
  rw [m1] at k1
  rw [m2] at k2
  have e1:=ui k1
  have e2:=ui k2
  rw [m1,m2]
  unfold ux
  rw [if_pos (zm.2 ⟨e1,e2⟩)]
  congr 1
  have hx:∀ s:List UInt8,errI s=0→negI s=true→numI s≠0:=fun s he hn h0=>by
   rw [(kM he).2 h0] at hn; cases hn
  rw [zhg _ _ _ _ (hx _ e1) (hx _ e2)]
  show cmpI (zI (wz (zI (numR a)*zI (denR b))).1) (zI (wz (zI (numR b)*zI (denR a))).1)=_
  rw [xl k1,xl k2,← p1,← p2,← r1,← r2]
  unfold cmpI
  simp only [Rat.lt_iff]
end
theorem zec{a b:List UInt8}(ha:errR a=0)(hb:errR b=0)(h:(addR a b).2=0):errR (addR a b).1=0∧qv (addR a b).1=qv a+qv b:=by
 rcases zhy ha hb with h1 | ⟨h1,h2⟩
 ·rw [h1] at h; cases h
 ·rw [h1]; exact⟨Jt h2,Yv h2⟩
theorem zeb{a b:List UInt8}(ha:errR a=0)(hb:errR b=0)(h:(mulR a b).2=0):errR (mulR a b).1=0∧qv (mulR a b).1=qv a*qv b:=by
 rcases zgs ha hb with h1 | ⟨h1,h2⟩
 ·rw [h1] at h; cases h
 ·rw [h1]; exact⟨Jt h2,Yv h2⟩
end Go.Nov
end
section
namespace Go.Nov
end Go.Nov
end
section
namespace Go.Nov
open Go.Sx
structure TOp where
 kind:Int
 a:Int
 b:Int
 rat:List UInt8
abbrev TOp.nil:TOp:=⟨0,0,0,[]⟩
def TOp.cell(o:TOp):Nat→AV
 | 0=>.int .u8 o.kind
 | 1=>.int .i64 o.a
 | 2=>.int .i64 o.b
 | 3=>.str o.rat
 | _=>.undef
def opG(l:List TOp):Nat→Nat→AV:=fun j=>(l.getD j TOp.nil).cell
def opS(l:List TOp):AV:=.sl l.length 4 (opG l)
structure Tp where
 n:Int
 ops:List TOp
def Tp.av(t:Tp):AV:=.agg [.int .i64 t.n,opS t.ops]
end Go.Nov
end
section
namespace Go.Nov
open Go.Sx
structure Deal where
 long:List UInt8
 short:List UInt8
 ccy:List UInt8
 name:List UInt8
 yG:List UInt8
 Jo:List UInt8
def Deal.av(d:Deal):AV:=.agg [.str d.long,.str d.short,.str d.ccy,.str d.name,.str d.yG,.str d.Jo]
def Deal.cells(d:Deal)(e:Int):List AV:=[.int .i64 e,.str d.long,.str d.short,.str d.ccy,.str d.name,.str d.yG,.str d.Jo]
namespace Tm
def kon(r:List UInt8):Ex:=.mk 1 r [] 0 []
def spot(n:List UInt8):Ex:=.mk 3 [] n 0 []
def opx(k:Int)(s:List Ex):Ex:=.mk k [] [] 0 s
def over(k:List UInt8)(x:Ex)(below:Bool):Ex:=opx 7 [kon [48],opx 5 (if below=true then [kon k,x] else [x,kon k])]
def pay(d:Deal)(x:Ex)(r:List UInt8):Con:=.mk 2 d.short d.long d.ccy (opx 6 [x,kon r]) 0 [] []
def at_(day:Int)(c:Con):Con:=.mk 6 [] [] [] (.mk 0 [] [] 0 []) day [] [c]
def call(d:Deal)(ch:List UInt8)(days:List Int)(c:Con):Con:=.mk 8 d.long [] ch (.mk 0 [] [] 0 []) 0 days [c]
def first(e:Int)(l:List (List UInt8)):Int:=l.foldl (fun e r=>if e=0 then errR r else e) e
def zero:Con:=.mk 0 [] [] [] (.mk 0 [] [] 0 []) 0 [] []
def fits(d:Deal):Prop:=d.long.length≤200∧d.short.length≤200∧d.ccy.length≤200∧d.name.length≤200∧d.yG.length≤2500∧d.Jo.length≤2500
def res(d:Deal)(c:Con):Int:=if first 0 [d.yG,d.Jo]=0 then c.errC else first 0 [d.yG,d.Jo]
def out(e:Int)(c:Con):Con:=if e=0 then c else zero
def opt(d:Deal)(ch:List UInt8)(days:List Int)(put:Bool):Con:=call d ch days (pay d (over d.yG (spot d.name) put) d.Jo)
end Tm
end Go.Nov
end
section
namespace Go.Sx
open Go.Nov
variable [Stat]
theorem LeL.dAt:∀ {l m:List AV} (i:Nat),LeL l m→LeA (l.getD i .undef) (m.getD i .undef)
 | [],[],_,_=>LeA.refl _
 | [],_::_,_,h=>by simp [LeL] at h
 | _::_,[],_,h=>by simp [LeL] at h
 | a::l,b::m,0,h=>by simp only [LeL] at h; exact h.1
 | a::l,b::m,i+1,h=>by
  simp only [LeL] at h
  have:=LeL.dAt i h.2
  simpa [List.getD] using this
theorem RetR.Zs{ctr:Ctr}{m:Nat}{Q:AV×Heap→Prop}{rs:List AV}{h:Heap}{r:AV}{hs:Heap}(L:List Nat)(hnd:j9 L=true)(hlt:(L.all fun i=>decide (i<h.length))=true)(hj:∀ j,j<m→L[j]?=some j)(hf:ctr.fresh=false)(hq:Q (r,hs))
  (he:LeA (exp2 h L (resV rs)) r) (hb:eqH (expH h L) hs) (hl:hs.length=L.length):RetR ctr m Q rs h:=
 ⟨L,hnd,fun i hi=>by have:=List.all_eq_true.1 hlt i hi; simpa using this,hj,(fun hh=>absurd hh (by rw [hf]; decide)),r,hs,he,.inl hb,hl,hq⟩
end Go.Sx
namespace Go.Nov
open Go.Sx
variable [Go.Sx.Stat]
theorem Ex.xL{x y:Ex}{k d:Int}{r n:List UInt8}{c:List AV}(h:LeL c (x.cellsD++y.cellsD)):LeA (.sl 2 5 (zf (zg 5 c) 0)) (.sl 2 5 (Ex.mk k r n d [x,y]).deep):=by
 refine LeA.sl rfl fun j o hj ho=> ?_
 rw [Ex.jW (Ex.mk k r n d [x,y]) j o (by show j<2; omega) ho]
 have:=LeL.dAt (j*5+o) h
 simp only [zf,zg,Nat.zero_add]
 rcases(show j=0∨j=1 by omega) with rfl | rfl<;>rcases(show o=0∨o=1∨o=2∨o=3∨o=4 by omega) with rfl | rfl | rfl | rfl | rfl<;>exact this
theorem Ex.wj(z:Ex):LeA (.sl z.sub.length 5 (Ex.exG z.sub)) (.sl z.sub.length 5 z.deep):=LeA.sl rfl fun j o hj ho=>by rw [Ex.jW z j o hj ho]; exact LeA.refl _
theorem Con.wj(z:Con):LeA (.sl z.sub.length 12 (Con.conG z.sub)) (.sl z.sub.length 12 z.deep):=LeA.sl rfl fun j o hj ho=>by rw [Con.jW z j o hj ho]; exact LeA.refl _
end Go.Nov
end
section
set_option maxRecDepth 100000
open Go Go.Sx Go.Proofs Go.Nov
namespace Go.Proofs.Tryz
attribute [local simp] eqKV eqA eqA0 eqH eqB eqL eqL0
end Go.Proofs.Tryz
end
section
namespace Go.Nov
theorem JT:∀ s t:List UInt8,Op.bytesLess s t=true∨s=t∨Op.bytesLess t s=true
 | [],[]=>.inr (.inl rfl)
 | [],_::_=>.inl rfl
 | _::_,[]=>.inr (.inr rfl)
 | a::s,b::t=>by
  simp only [Op.bytesLess,Bool.or_eq_true,Bool.and_eq_true,decide_eq_true_eq,beq_iff_eq]
  by_cases h:a=b
  ·subst h
   rcases JT s t with g | g | g
   ·exact .inl (.inr ⟨rfl,g⟩)
   ·exact .inr (.inl (by rw [g]))
   ·exact .inr (.inr (.inr ⟨rfl,g⟩))
  ·rcases UInt8.lt_or_lt_of_ne h with g | g
   ·exact .inl (.inl g)
   ·exact .inr (.inr (.inl g))
structure OrdT{α:Type}(c:α→α→Int):Prop extends OrdK c where
 irr:∀ a,c a a=0
 tot:∀ a b,c a b<0∨c a b=0∨c b a<0
 sym:∀ a b,c a b=0→c b a=0
 eqt:∀ a b d,c a b=0→c b d=0→c a d=0
 eq2:∀ a b d,c a b=0→c b d<0→c a d<0
theorem zhc:OrdT cmpF where
 toOrdK:=Zp
 irr a:=by rw [w8]; exact⟨rfl,rfl⟩
 tot a b:=by
  rw [w9,w8,w9]
  rcases JT a.name b.name with h | h | h
  ·exact .inl (.inl h)
  ·rcases Int.lt_trichotomy a.date b.date with g | g | g
   ·exact .inl (.inr ⟨h,g⟩)
   ·exact .inr (.inl ⟨h,g⟩)
   ·exact .inr (.inr (.inr ⟨h.symm,g⟩))
  ·exact .inr (.inr (.inl h))
 sym a b h:=by rw [w8] at h ⊢; exact⟨h.1.symm,h.2.symm⟩
 eqt a b d h g:=by rw [w8] at h g ⊢; exact⟨h.1.trans g.1,h.2.trans g.2⟩
 eq2 a b d h g:=by rw [w8] at h; rw [w9] at g ⊢; rw [h.1,h.2]; exact g
section
variable {α:Type} {c:α→α→Int} {z x y:α} (hk:OrdT c)
include hk
theorem zbv:∀ {l:List α},l.Pairwise (fun a b=>c a b<0)→ordB c z l=true:=fun {l} h=>by
 refine ZK fun j hj=> ?_
 have:=List.pairwise_iff_getElem.1 h j (j+1) (by omega) hj (by omega)
 simpa [List.getD,List.getElem?_eq_getElem (show j<l.length by omega),List.getElem?_eq_getElem hj] using this
end
end Go.Nov
end
section
namespace Go.Nov
end Go.Nov
end
section
namespace Go.Nov
open Go.Sx
structure Ca where
 name:List UInt8
 into:List UInt8
 date:Int
 ratio:List UInt8
 extra:List UInt8
def Ca.av(a:Ca):AV:=.agg [.str a.name,.str a.into,.int .i64 a.date,.str a.ratio,.str a.extra]
theorem Yx:errR [48]=0:=by decide +kernel
theorem zin:qv [48]=0:=by decide +kernel
theorem zcx{a:List UInt8} : (errR a≠0→(cmpR a [48]).2≠0)∧(errR a=0→(cmpR a [48]).2=0∧(cmpR a [48]).1=if qv a<0 then -1 else if 0<qv a then 1 else 0):=by
 constructor
 ·intro h
  have h2:jd a [48]=errR a:=by unfold jd; rw [if_neg h]
  have hc:zM a [48]=errR a:=by unfold zM; rw [h2,if_pos h]
  unfold cmpR
  rw [hc,if_pos h]
  exact h
 ·intro h
  have hn:(cmpR a [48]).2≠14→_:=fun g=>(zhl h Yx).resolve_left (fun k=>g (by rw [k]))
  have key:(cmpR a [48]).2≠14:=by
   obtain⟨a1,a2,b1,b2,a4,b4,h2⟩:=V2 h Yx
   have hx:mulI (numR a) (denR [48])=(numR a,0):=by
    rw [show denR [48]=[49] from by decide +kernel,xE (zm.2 ⟨a1,Vz⟩),show zI [49]=1 from by decide +kernel,Int.mul_one]
    exact JH a1
   have hy:mulI (numR [48]) (denR a)=([48],0):=by
    rw [xE (zm.2 ⟨b1,a2⟩),show zI (numR [48])=0 from by decide +kernel,Int.zero_mul]
    decide +kernel
   have hc:zM a [48]=0:=by
    unfold zM
    rw [h2,if_neg (by simp),hx,hy]
    simp
   unfold cmpR
   rw [hc,if_neg (by simp),hx,hy]
   unfold ux
   rw [if_pos (zm.2 ⟨a1,by decide +kernel⟩)]
   simp
  have:=hn key
  rw [this,zin]
  exact⟨rfl,rfl⟩
theorem za3(z w:List UInt8×Int):(frac z w).1.length≤2003:=by
 unfold frac
 split
 ·simp
 ·unfold jE
  split
  ·simp
  ·split
   ·simp
   ·exact Uc _ _ _
theorem Vc(a b:List UInt8):(mulR a b).1.length≤2003:=by
 unfold mulR
 split
 ·simp
 ·exact za3 _ _
namespace Ca
def ok(a:Ca):Bool:=zS a.name&&(zS a.into&&(dayB a.date&&(decide (errR a.ratio=0)&&(decide (0<qv a.ratio)&&decide (errR a.extra=0)))))
def old(a:Ca)(x:List UInt8):List UInt8×Int:=if(mulR a.ratio x).2≠0 then([],(mulR a.ratio x).2) else addR (mulR a.ratio x).1 a.extra
def hit(a:Ca)(f:Fx):Bool:=decide (f.name=a.into)&&decide (a.date≤f.date)
def keep(a:Ca)(f:Fx):Bool:= !decide (f.name=a.name)||decide (f.date<a.date)
def mk'(a:Ca)(f:Fx):Fx:=⟨a.name,f.date,(a.old f.value).1⟩
def fresh(a:Ca)(l:List Fx):List Fx:=(l.filter a.hit).map a.mk'
def kept(a:Ca)(l:List Fx):List Fx:=l.filter a.keep
def bad(a:Ca)(f:Fx):Bool:=a.hit f&&decide ((a.old f.value).2≠0)
def err(a:Ca)(l:List Fx):Int:=match l.find? a.bad with
 | some f=>(a.old f.value).2
 | none=>0
def at_(a:Ca)(l:List Fx):Nat:=l.findIdx fun f=>Op.bytesLess a.name f.name
def join(a:Ca)(l m:List Fx):List Fx:=l.take (a.at_ l)++m++l.drop (a.at_ l)
def before(a:Ca)(f:List Fx)(c:List Ch):(List Fx×List Ch)×Int:=
 if a.ok=false then(([],[]),8) else if errE f c≠0 then(([],[]),errE f c) else if a.err f≠0 then(([],[]),a.err f)
 else if 1000<(a.kept f).length+(a.fresh f).length then(([],[]),22) else((a.join (a.kept f) (a.fresh f),c),0)
theorem UZ{a:Ca}{l:List Fx}{i:Nat}(hi:i<l.length)(h:a.err (l.take i)=0):a.err (l.take (i+1))=if a.bad (l.getD i Fx.nil)=true then(a.old (l.getD i Fx.nil).value).2 else 0:=by
 have hn:(l.take i).find? a.bad=none:=by
  unfold err at h
  split at h
  ·rename_i f hf
   have:=List.find?_some hf
   simp only [bad,Bool.and_eq_true,decide_eq_true_eq] at this
   exact absurd h this.2
  ·assumption
 have e:l.take (i+1)=l.take i++[l.getD i Fx.nil]:=by
  rw [List.take_add_one]
  simp [List.getD,hi]
 unfold err
 rw [e,List.find?_append,hn]
 simp only [Option.none_or,List.find?_cons]
 cases a.bad (l.getD i Fx.nil)<;>rfl
theorem UL{a:Ca}{l:List Fx}{i:Nat}(hi:i<l.length)(h:a.err (l.take i)=0)(hb:a.bad (l.getD i Fx.nil)=true):a.err l=(a.old (l.getD i Fx.nil).value).2:=by
 have hn:(l.take i).find? a.bad=none:=by
  unfold err at h
  split at h
  ·rename_i f hf
   have:=List.find?_some hf
   simp only [bad,Bool.and_eq_true,decide_eq_true_eq] at this
   exact absurd h this.2
  ·assumption
 have e:l=l.take i++(l.getD i Fx.nil::l.drop (i+1)):=by
  conv=>lhs; rw [← List.take_append_drop i l,List.drop_eq_getElem_cons hi]
  simp [List.getD,hi]
 unfold err
 rw [e,List.find?_append,← e,hn]
 simp only [Option.none_or,List.find?_cons,hb]
theorem Jj{α:Type}{l:List α}{p:α→Bool}{z:α}{i:Nat}(h:i<l.length):(l.take (i+1)).filter p=if p (l.getD i z)=true then(l.take i).filter p++[l.getD i z] else(l.take i).filter p:=by
 have e:l.take (i+1)=l.take i++[l.getD i z]:=by
  rw [List.take_add_one]
  simp [List.getD,h]
 rw [e,List.filter_append]
 split<;>rename_i hp
 ·rw [List.filter_cons_of_pos hp]; rfl
 ·rw [List.filter_cons_of_neg hp]; simp
theorem Vd{α:Type}(l:List α)(p:α→Bool)(i:Nat):((l.take i).filter p).length≤l.length:=by
 have:=List.length_filter_le p (l.take i)
 rw [List.length_take] at this; omega
theorem Y8{a:Ca}{l:List Fx}{i:Nat}(h:i<l.length):a.kept (l.take (i+1))=if a.keep (l.getD i Fx.nil)=true then a.kept (l.take i)++[l.getD i Fx.nil] else a.kept (l.take i):=Jj h
theorem Xl{a:Ca}{l:List Fx}{i:Nat}(h:i<l.length):a.fresh (l.take (i+1))=if a.hit (l.getD i Fx.nil)=true then a.fresh (l.take i)++[⟨a.name,(l.getD i Fx.nil).date,(a.old (l.getD i Fx.nil).value).1⟩] else a.fresh (l.take i):=by
 unfold fresh
 rw [Jj (z:=Fx.nil) h]
 split<;>simp [mk']
theorem zb3{a:Ca}(l:List Fx)(i:Nat):(a.kept (l.take i)).length≤l.length:=Vd l _ i
theorem Uw{a:Ca}(l:List Fx)(i:Nat):(a.fresh (l.take i)).length≤l.length:=by
 unfold fresh; rw [List.length_map]; exact Vd l _ i
theorem KO{a:Ca}(h:a.ok=true){x:List UInt8}(hx:errR x=0)(h0:(a.old x).2=0):errR (a.old x).1=0∧qv (a.old x).1=qv a.ratio*qv x+qv a.extra:=by
 unfold ok at h
 simp only [Bool.and_eq_true,decide_eq_true_eq] at h
 obtain⟨_,_,_,h1,_,h2⟩:=h
 unfold old at h0 ⊢
 split at h0
 ·rename_i g; exact absurd h0 g
 ·rename_i g
  rw [if_neg g]
  have g:(mulR a.ratio x).2=0:=Classical.not_not.1 g
  obtain⟨k1,k2⟩:=zeb h1 hx g
  obtain⟨k3,k4⟩:=zec k1 h2 h0
  exact⟨k3,by rw [k4,k2]⟩
theorem W9{a:Ca}{l:List Fx}(h:a.err l=0):∀ f∈l,a.hit f=true→(a.old f.value).2=0:=by
 intro f hf hh
 unfold err at h
 split at h
 ·rename_i g hg
  have:=List.find?_some hg
  simp only [bad,Bool.and_eq_true,decide_eq_true_eq] at this
  exact absurd h this.2
 ·rename_i hn
  rw [List.find?_eq_none] at hn
  have:=hn f hf
  simpa [bad,hh] using this
theorem Vp{a:Ca}{f:List Fx}{c:List Ch}(h:a.ok=true)(he:errE f c=0)(h0:a.err f=0):(∀ x∈a.fresh f,okF x=true∧x.name=a.name∧a.date≤x.date)∧(a.fresh f).Pairwise (fun x y=>cmpF x y<0):=by
 obtain⟨h1,h2,h3,h4,h5⟩:=vH.1 he
 rw [List.all_eq_true] at h2
 have hp:=yk Zp h4
 constructor
 ·intro x hx
  unfold fresh at hx
  obtain⟨y,hy,rfl⟩:=List.mem_map.1 hx
  obtain⟨hy1,hy2⟩:=List.mem_filter.1 hy
  have hok:=h2 y hy1
  unfold okF at hok ⊢
  simp only [Bool.and_eq_true,decide_eq_true_eq] at hok ⊢
  have hh:=hy2
  unfold hit at hh
  simp only [Bool.and_eq_true,decide_eq_true_eq] at hh
  refine⟨⟨⟨?_,hok.1.2⟩,(KO h hok.2 (W9 h0 y hy1 hy2)).1⟩,rfl,hh.2⟩
  unfold ok at h
  simp only [Bool.and_eq_true,decide_eq_true_eq] at h
  exact h.1
 ·unfold fresh
  rw [List.pairwise_map]
  have hq:((f.filter a.hit).Pairwise fun a b=>cmpF a b<0):=hp.filter _
  refine List.Pairwise.imp_of_mem ?_ hq
  intro x y hx hy hlt
  have hx:=(List.mem_filter.1 hx).2
  have hy:=(List.mem_filter.1 hy).2
  unfold hit at hx hy
  simp only [Bool.and_eq_true,decide_eq_true_eq] at hx hy
  rw [w9] at hlt ⊢
  rw [hx.1,hy.1,kI] at hlt
  rcases hlt with hlt | hlt
  ·cases hlt
  ·exact .inr ⟨rfl,hlt.2⟩
theorem J2{a:Ca}{f:List Fx}{c:List Ch}(he:errE f c=0):(∀ x∈a.kept f,okF x=true∧(x.name≠a.name∨x.date<a.date))∧(a.kept f).Pairwise (fun x y=>cmpF x y<0):=by
 obtain⟨h1,h2,h3,h4,h5⟩:=vH.1 he
 rw [List.all_eq_true] at h2
 refine⟨fun x hx=> ?_,(yk Zp h4).filter _⟩
 obtain⟨hy1,hy2⟩:=List.mem_filter.1 hx
 refine⟨h2 x hy1,?_⟩
 unfold keep at hy2
 simpa using hy2
theorem Yb{a:Ca}{l:List Fx} : a.at_ l≤l.length:=List.findIdx_le_length
theorem zd7{a:Ca}{l:List Fx}(hp:l.Pairwise fun x y=>cmpF x y<0):(∀ w∈l.take (a.at_ l),Op.bytesLess a.name w.name=false)∧(∀ w∈l.drop (a.at_ l),Op.bytesLess a.name w.name=true):=by
 constructor
 ·intro w hw
  obtain⟨j,hj,rfl⟩:=List.getElem_of_mem hw
  rw [List.length_take] at hj
  have:(l.take (a.at_ l))[j]'(by rw [List.length_take]; exact hj)=l[j]'(by omega):=by simp
  rw [this]
  have:=List.not_of_lt_findIdx (p:=fun f:Fx=>Op.bytesLess a.name f.name) (xs:=l) (i:=j) (by unfold at_ at hj; omega)
  simpa using this
 ·intro w hw
  obtain⟨j,hj,rfl⟩:=List.getElem_of_mem hw
  rw [List.length_drop] at hj
  rw [List.getElem_drop]
  have h0:a.at_ l<l.length:=by omega
  have h1:Op.bytesLess a.name (l[a.at_ l]).name=true:=List.findIdx_getElem (p:=fun f:Fx=>Op.bytesLess a.name f.name) (w:=h0)
  rcases Nat.eq_zero_or_pos j with rfl | hpos
  ·exact h1
  ·have:=List.pairwise_iff_getElem.1 hp (a.at_ l) (a.at_ l+j) (by omega) (by omega) (by omega)
   rw [w9] at this
   rcases this with h2 | ⟨h2,_⟩
   ·exact kK h1 h2
   ·rw [← h2]; exact h1
end Ca
end Go.Nov
end
section
namespace Go.Nov
open Go.Sx
namespace Ca
def rel(a:Ca)(y:Ex):Ex:=
 if a.extra=[48] then(if a.ratio=[49] then y else Tm.opx 6 [Tm.kon a.ratio,y])
 else Tm.opx 4 [if a.ratio=[49] then y else Tm.opx 6 [Tm.kon a.ratio,y],Tm.kon a.extra]
def onX(a:Ca)(k:Int)(n:List UInt8)(d:Int):Bool:=decide (n=a.name)&&(decide (k=3)||decide (k=2)&&decide (a.date≤d))
mutual
def chg(a:Ca):Ex→Ex
 | .mk k r n d s=>if a.onX k n d=true then a.rel (.mk k [] a.into d []) else .mk k r n d (chgs a s)
def chgs(a:Ca):List Ex→List Ex
 | []=>[]
 | x::l=>chg a x::chgs a l
end
mutual
def adj(a:Ca):Ex→Ex
 | .mk k r n d s=>if a.onX k n d=true then a.rel (.mk k r a.into d s) else .mk k r n d (adjs a s)
def adjs(a:Ca):List Ex→List Ex
 | []=>[]
 | x::l=>adj a x::adjs a l
end
theorem VK(a:Ca):∀ l,adjs a l=l.map (adj a)
 | []=>by rw [adjs]; rfl
 | x::l=>by rw [adjs,VK a l]; rfl
theorem zgm(a:Ca)(x:Ex):adj a x=if a.onX x.kind x.name x.date=true then a.rel (.mk x.kind x.rat a.into x.date x.sub) else .mk x.kind x.rat x.name x.date (x.sub.map (adj a)):=by
 cases x; rw [adj,VK]; rfl
mutual
def whole(f:Ex→Ex):Con→Con
 | .mk k a b n x d l s=>.mk k a b n (f x) d l (wy f s)
def wy(f:Ex→Ex):List Con→List Con
 | []=>[]
 | c::l=>whole f c::wy f l
end
end Ca
end Go.Nov
end
section
set_option maxRecDepth 100000
open Go Go.Sx Go.Proofs Go.Nov
namespace Go.Proofs.Tryz
attribute [local simp] eqKV eqA eqA0 eqH eqB eqL eqL0
theorem vB(e:Ex):eqA (exD e) e.exA:=by
 simp only [exD,Ex.exA,Ex.exS,eqA]
 exact⟨⟨rfl,rfl⟩,rfl,rfl,⟨rfl,rfl⟩,⟨rfl,rfl,Ex.jW e⟩,trivial⟩
theorem Uf{f:Ex→Ex}{s:List Ex}{i:Nat}(h:i<s.length):eqG (i+1) 5 (appG i (Ex.exG (s.map f)) (zf (zg 5 (f (s.getD i Ex.nil)).cellsD) 0)) (Ex.exG (s.map f)):=by
 have e:f (s.getD i Ex.nil)=(s.map f).getD i Ex.nil:=by simp [List.getD,h]
 rw [e]
 exact UX
noncomputable def K98:List Go.Sx.Item:=[.code (Tryz.f98.body.getD .skip)]
def HAd(a:Ca):Heap:=[.box [.str a.name,.str a.into,.int .i64 a.date,.str a.ratio,.str a.extra],.box [.fn 79 [] [.ptr 0 0,.ptr 1 0]]]
def adjC(n:Nat):Ctr:=ctrT false false (fun p:Ca×Ex=>[p.2.exA,.ptr 0 0,.ptr 1 0]) (fun p=>HAd p.1) (fun p=>p.2.size<n∧p.2.size<2^40) (fun _ (_:Unit)=>True) (fun p _=>(exD (p.1.adj p.2),HAd p.1))
def zib(n:Nat):Ctr:=ctrT false false (fun p:Ca×List Ex=>[Ex.exS p.2,.fn 79 [] [.ptr 0 0,.ptr 1 0]]) (fun p=>HAd p.1) (fun p=>Ex.zo p.2<n∧Ex.zo p.2<2^40) (fun _ (_:Unit)=>True) (fun p _=>(Ex.exS (p.2.map (Ca.adj p.1)),HAd p.1))
def SMp(s:List Ex)(i:Nat):KV:=[(1,.fn 79 [] [.ptr 0 0,.ptr 1 0]),(5,.osl 2 5 0 i),(8,Ex.exS s),(9,.int .i64 (s.length:Int)),(10,.int .i64 (i:Int))]
def HMp(f:Ex→Ex)(a:Ca)(s:List Ex)(i:Nat):Heap:=[.box [.str a.name,.str a.into,.int .i64 a.date,.str a.ratio,.str a.extra],.box [.fn 79 [] [.ptr 0 0,.ptr 1 0]],.arr i 5 (Ex.exG (s.map f))]
theorem zep(n:Nat)(ih:zd Tryz.prog 79 (adjC n)):zd Tryz.prog 98 (zib n):=by
 refine jl (fn:=Tryz.f98) (c:=Tryz.f98.body.getD .skip) rfl rfl rfl (fun h=>by cases h) fun p hp O w0 σ0 Q hl0 hq=> ?_
 obtain⟨a,s⟩:=p
 obtain⟨h1,h2⟩:=hp
 simp only at h1 h2
 replace hq:=hq () trivial
 have hlen:=Ex.q8 s
 refine zb.run hmix (k8 ih) [1,5,8,9,10] 400 (T:=.leaf (.loop (Prod.fst (lps K98 0)) (Prod.snd (lps K98 0)) [(1,.fn 79 [] [.ptr 0 0,.ptr 1 0]),(5,.nils),(8,.sl s.length 5 (Ex.exG s)),(9,.int .i64 s.length),(10,.int .i64 0)] [.box [.str (Ca.name a),.str (Ca.into a),.int .i64 (Ca.date a),.str (Ca.ratio a),.str (Ca.extra a)],.box [.fn 79 [] [.ptr 0 0,.ptr 1 0]]])) (by kernel_rfl) ?_
 simp only [Tree.holds,zc,inR,lo,hi,Int.toNat_natCast]
 show wV none Tryz.prog Tryz.f98 O 2 w0 σ0 _ _ _ _
 refine zb.bear 5 5 (Ex.exG (s.map (Ca.adj a))) rfl (by decide) (by kernel_rfl) ?_
 refine zb.loop (ι:={i:Nat // i≤s.length}) (fun i=>SMp s i.1) (fun i=>HMp (Ca.adj a) a s i.1) (fun i=>s.length - i.1) ⟨0,Nat.zero_le _⟩ 0 ?_ ?_ (by kernel_rfl)
 ·exact⟨by simp [SMp,uz,Ex.exS,za],by simp [HMp,HAd,za],by kernel_rfl,by show 2≤3; decide⟩
 ·rintro⟨i,hil⟩
  refine zb.run hmix (k8 ih) [1,5,8,9,10] 400 (T:=.ite (decide ((↑i:Int)<s.length)) (.side ((0:Int)≤i∧(↑i:Int)<s.length) (.ex (fun(x:Ca×Ex)=>eqL [(exD (s.getD (↑i:Int).toNat Ex.nil)),AV.ptr 0 0,AV.ptr 1 0] [x.2.exA,AV.ptr 0 0,AV.ptr 1 0]∧eqH [.box [AV.str (Ca.name a),AV.str (Ca.into a),AV.int .i64 (Ca.date a),AV.str (Ca.ratio a),AV.str (Ca.extra a)],.box [AV.fn 79 [] [AV.ptr 0 0,AV.ptr 1 0]]] [.box [AV.str (Ca.name x.1),AV.str (Ca.into x.1),AV.int .i64 (Ca.date x.1),AV.str (Ca.ratio x.1),AV.str (Ca.extra x.1)],.box [AV.fn 79 [] [AV.ptr 0 0,AV.ptr 1 0]]]∧2=2∧Ex.size x.2<n∧Ex.size x.2<1099511627776) fun n=>.all (fun(x:Unit)=>True) fun n_1=>.side (0=0∧i≤i∧(i+1)*72≤140737488355328) (.side (inR .i64 ((↑i:Int)+(1:Int))) (.leaf (.back 0 [(1,.fn 79 [] [.ptr 0 0,.ptr 1 0]),(5,.osl 2 5 0 (i+1)),(8,.sl s.length 5 (Ex.exG s)),(9,.int .i64 s.length),(10,.int .i64 ((↑i:Int)+(1:Int)))] [.box [.str (Ca.name n.1),.str (Ca.into n.1),.int .i64 (Ca.date n.1),.str (Ca.ratio n.1),.str (Ca.extra n.1)],.box [.fn 79 [] [.ptr 0 0,.ptr 1 0]],.arr (i+1) 5 (appG i (Ex.exG (List.map (Ca.adj a) s)) (zf (zg 5 (Ex.cellsD (Ca.adj n.1 n.2))) 0)),.box (Ex.cellsD (s.getD (↑i:Int).toNat Ex.nil)),.arr 1 5 (zg 5 (Ex.cellsD (Ca.adj n.1 n.2)))]))))) (.leaf (.ret [.osl 2 5 0 i] [.box [.str (Ca.name a),.str (Ca.into a),.int .i64 (Ca.date a),.str (Ca.ratio a),.str (Ca.extra a)],.box [.fn 79 [] [.ptr 0 0,.ptr 1 0]],.arr i 5 (Ex.exG (List.map (Ca.adj a) s))]))) (by kernel_rfl) ?_
  simp only [Tree.holds,zc,inR,lo,hi,Int.toNat_natCast]
  refine⟨fun hlt=> ?_,fun hge=> ?_⟩
  ·have hlt:i<s.length:=by have:=of_decide_eq_true hlt; omega
   have hg:=Ex.wE hlt
   have ha:eqH [.box [.str a.name,.str a.into,.int .i64 a.date,.str a.ratio,.str a.extra],.box [.fn 79 [] [.ptr 0 0,.ptr 1 0]]] [.box [.str a.name,.str a.into,.int .i64 a.date,.str a.ratio,.str a.extra],.box [.fn 79 [] [.ptr 0 0,.ptr 1 0]]]:=by simp
   refine⟨by omega,fun _=>⟨(a,s.getD i Ex.nil),⟨⟨vB _,⟨rfl,rfl⟩,⟨rfl,rfl⟩,trivial⟩,ha,trivial,by show Ex.size (s.getD i Ex.nil)<n; omega,by show Ex.size (s.getD i Ex.nil)<_; omega⟩,⟨(),trivial⟩,?_⟩⟩
   intro _ _
   refine⟨⟨trivial,Nat.le_refl _,by omega⟩,fun _=>⟨by omega,fun _=> ?_⟩⟩
   rw [if_pos trivial]
   refine⟨⟨i+1,hlt⟩,by show s.length - (i+1)<s.length - i; omega,by simp [SMp,Ex.exS,za],?_,by kernel_rfl,by show 2≤3; decide⟩
   refine⟨⟨rfl,rfl,⟨rfl,rfl⟩,rfl,rfl,trivial⟩,by simp,⟨rfl,rfl,Uf hlt⟩,trivial⟩
  ·have hge:i=(s.map (Ca.adj a)).length:=by have:=of_decide_eq_false hge; simp; omega
   subst hge
   exact RetR.Zs [0,1] rfl rfl (by show ∀ j,j<2→_; decide) rfl hq (LeA.sl rfl fun j o hj ho=>by simp only [zf,Nat.zero_add]; exact LeA.refl _) (by simp [expH,expB,exp1,exp0,ren0,HAd,HMp,zw]) rfl
def zgi:Ctr:=ctrP false (fun r:List UInt8=>[.str r]) (fun _=>True) (fun _ (_:Unit)=>True) (fun r _=>(exD (Tm.kon r),[]))
theorem zdr:zd Tryz.prog 80 zgi:=by
 refine ze (fn:=Tryz.f80) (c:=Tryz.f80.body.getD .skip) rfl rfl rfl fun r hp O w0 Q hq=> ?_
 replace hq:=hq () trivial
 refine zb.run hmix z7 [] 400 (T:=.leaf (.ret [.agg [.int .u8 1,.str r,.str #[].toList,.int .i64 0,.nils]] [.box [.int .u8 1,.str r,.str #[].toList,.int .i64 0,.nils]])) (by kernel_rfl) ?_
 simp only [Tree.holds,zc]
 refine RetR.out0 hq (fun h=>by cases h) ?_
 exact⟨⟨rfl,rfl⟩,rfl,rfl,⟨rfl,rfl⟩,rfl,trivial⟩
def U6(n:Nat):Ctr:=ctrT false false (fun p:Ca×Ex=>[p.2.exA,.fn 79 [] [.ptr 0 0,.ptr 1 0]]) (fun p=>HAd p.1) (fun p=>Ex.zo p.2.sub<n∧Ex.zo p.2.sub<2^40) (fun _ (_:Unit)=>True) (fun p _=>(exD (.mk p.2.kind p.2.rat p.2.name p.2.date (p.2.sub.map (Ca.adj p.1))),HAd p.1))
theorem zfo(n:Nat)(ih:zd Tryz.prog 79 (adjC n)):zd Tryz.prog 81 (U6 n):=by
 refine jl (fn:=Tryz.f81) (c:=Tryz.f81.body.getD .skip) rfl rfl rfl (fun h=>by cases h) fun p hp O w0 σ0 Q hl0 hq=> ?_
 obtain⟨a,x⟩:=p
 replace hq:=hq () trivial
 refine zb.run hmix (k8 (zep n ih)) [] 400 (T:=.ex (fun(x_1:Ca×List Ex)=>eqL [AV.sl x.sub.length 5 (Ex.exG x.sub),AV.fn 79 [] [AV.ptr 0 0,AV.ptr 1 0]] [AV.sl x_1.2.length 5 (Ex.exG x_1.2),AV.fn 79 [] [AV.ptr 0 0,AV.ptr 1 0]]∧eqH [.box [AV.str (Ca.name a),AV.str (Ca.into a),AV.int .i64 (Ca.date a),AV.str (Ca.ratio a),AV.str (Ca.extra a)],.box [AV.fn 79 [] [AV.ptr 0 0,AV.ptr 1 0]]] [.box [AV.str (Ca.name x_1.1),AV.str (Ca.into x_1.1),AV.int .i64 (Ca.date x_1.1),AV.str (Ca.ratio x_1.1),AV.str (Ca.extra x_1.1)],.box [AV.fn 79 [] [AV.ptr 0 0,AV.ptr 1 0]]]∧2=2∧Ex.zo x_1.2<n∧Ex.zo x_1.2<1099511627776) fun n=>.all (fun(x:Unit)=>True) fun n_1=>.leaf (.ret [.agg [.int .u8 x.kind,.str x.rat,.str x.name,.int .i64 x.date,.sl (List.length (List.map (Ca.adj n.1) n.2)) 5 (Ex.exG (List.map (Ca.adj n.1) n.2))]] [.box [.str (Ca.name n.1),.str (Ca.into n.1),.int .i64 (Ca.date n.1),.str (Ca.ratio n.1),.str (Ca.extra n.1)],.box [.fn 79 [] [.ptr 0 0,.ptr 1 0]],.box [.int .u8 x.kind,.str x.rat,.str x.name,.int .i64 x.date,.sl (List.length (List.map (Ca.adj n.1) n.2)) 5 (Ex.exG (List.map (Ca.adj n.1) n.2))],.box [.int .u8 x.kind,.str x.rat,.str x.name,.int .i64 x.date,.sl (List.length (List.map (Ca.adj n.1) n.2)) 5 (Ex.exG (List.map (Ca.adj n.1) n.2))]])) (by kernel_rfl) ?_
 simp only [Tree.holds,zc]
 refine⟨(a,x.sub),⟨⟨⟨rfl,rfl,za _ _ _⟩,by simp,trivial⟩,by simp,trivial,hp.1,hp.2⟩,⟨(),trivial⟩,fun _ _=> ?_⟩
 exact RetR.Zs [0,1] rfl rfl (by show ∀ j,j<2→_; decide) rfl hq (LeA.agg ⟨LeA.refl _,LeA.refl _,LeA.refl _,LeA.refl _,Ex.wj (.mk x.kind x.rat x.name x.date (x.sub.map (Ca.adj a))),trivial⟩) (by simp [expH,expB,exp1,exp0,ren0,HAd,zw]) rfl
noncomputable def K95:List Go.Sx.Item:=[.code (Tryz.f95.body.getD .skip)]
def XV:Ctr:=ctr2 true (fun x y=>(canon x).length<100000∧(canon y).length<100000) (fun x y d=>d=x+y) (fun _ _ d=>(magS d,[]))
def SPl(x y:Nat)(o:List Nat)(c i:Nat):KV:=[(1,magS y),(5,.osl 0 1 0 o.length),(6,.int .u32 (c:Int)),(21,magS x),(22,.int .i64 ((canon x).length:Int)),(23,.int .i64 (i:Int))]
structure IPl(x y:Nat) where
 o:List Nat
 c:Nat
 i:Nat
 len:o.length=i
 le:i≤(canon x).length
 dg:dig o
 c1:c≤1
 eq:val o+B^i*c=val ((canon x).take i)+val ((canon y).take i)
theorem zgy{x y o c i d c':Nat}{l m:List Nat}(h:o+B^i*c=val (l.take i)+val (m.take i))(he:d+B*c'=l.getD i 0+m.getD i 0+c):o+B^i*d+B^(i+1)*c'=val (l.take (i+1))+val (m.take (i+1)):=by
 rw [zn,zn,Nat.pow_succ]
 have:=congrArg (B^i * ·) he
 simp only [Nat.mul_add] at this
 rw [Nat.mul_assoc]
 omega
theorem RetR.zi6{ctr:Ctr}{Q:AV×Heap→Prop}{h:Heap}{i m n:Nat}{k:IntKind}{l:List Nat}{G:Nat→Nat→AV}(hq:Q (natS k l,[]))(hb:h[i]?=some (.arr m 1 G))(hn:n≤m)(hl:l.length=n)(hG:∀ j,j<n→G j 0 = .int k ((l.getD j 0:Nat):Int)):RetR ctr 0 Q [.osl i 1 0 n] h:=by
 refine RetR.out0 hq (fun _=> ?_) ?_
 ·refine zd4 hb (by omega) fun j o hj ho=> ?_
  have:o=0:=by omega
  subst this
  simp only [zf,Nat.zero_add,hG j hj,zQ]
 ·have e:exp2 h [] (resV [.osl i 1 0 n])=exp0 h [] (.osl i 1 0 n):=rfl
  rw [e,WR hb (by omega),zi1]
  simp only [eqA2,natS]
  refine⟨hl.symm,rfl,fun j o hj ho=> ?_⟩
  have:o=0:=by omega
  subst this
  rw [hG j hj]; rfl
theorem Vo{O:Nat→Prop}{w0:World}{Q:AV×Heap→Prop}(x y:Nat)(hx:(canon x).length<100000)(hlen:(canon y).length≤(canon x).length)(hq:Q (magS (x+y),[]))(kv:KV)(h:Heap)(hle:LeK 0 Tryz.f95.ntmps kv h (SPl x y [] 0 0) [.arr 0 1 (natG .u32 [])]) :
  zb Tryz.prog Tryz.f95 O 0 w0 [] (fun _ _ _=>False) (RetR XV 0 Q) (.code (.loop (lps K95 0).1)::(lps K95 0).2) (mk Tryz.f95.ntmps kv h):=by
 refine zb.loop (ι:=IPl x y) (fun s=>SPl x y s.o s.c s.i) (fun s=>[.arr s.o.length 1 (natG .u32 s.o)]) (fun s=>(canon x).length - s.i) ⟨[],0,0,rfl,Nat.zero_le _,by simp [dig],by omega,by simp [val]⟩ 0 hle ?_ (by kernel_rfl)
 rintro⟨o,c,i,ho,hle,hd,hc,he⟩
 subst ho
 have hB:B=1000000000:=rfl
 refine zb.run hmix xR [1,5,6,21,22,23] 400 (T:=.ite (decide ((↑o.length:Int)<(↑(canon x).length:Int))) (.side ((0:Int)≤o.length∧(↑o.length:Int)<(↑(canon x).length:Int)) (.side (inR .u32 ((↑(List.getD (canon x) (Int.toNat (↑o.length:Int)) 0):Int)+c)) (.ite (decide ((↑o.length:Int)<(↑(canon y).length:Int))) (.side ((0:Int)≤o.length∧(↑o.length:Int)<(↑(canon y).length:Int)) (.side (inR .u32 ((↑(List.getD (canon x) (Int.toNat (↑o.length:Int)) 0):Int)+c+(↑(List.getD (canon y) (Int.toNat (↑o.length:Int)) 0):Int))) (.side ((1000000000:Int)≠0∧inR .u32 (Int.tdiv ((↑(List.getD (canon x) (Int.toNat (↑o.length:Int)) 0):Int)+c+(↑(List.getD (canon y) (Int.toNat (↑o.length:Int)) 0):Int)) (1000000000:Int))) (.side ((1000000000:Int)≠0) (.side (0=0∧o.length≤o.length∧(o.length+1)*4≤140737488355328) (.side (inR .i64 ((↑o.length:Int)+(1:Int))) (.leaf (.back 0 [(1,.sl (canon y).length 1 (natG .u32 (canon y))),(5,.osl 0 1 0 (o.length+1)),(6,.int .u32 (Int.tdiv ((↑(List.getD (canon x) (Int.toNat (↑o.length:Int)) 0):Int)+c+(↑(List.getD (canon y) (Int.toNat (↑o.length:Int)) 0):Int)) (1000000000:Int))),(21,.sl (canon x).length 1 (natG .u32 (canon x))),(22,.int .i64 (↑(canon x).length:Int)),(23,.int .i64 ((↑o.length:Int)+(1:Int)))] [.arr (o.length+1) 1 (appG o.length (natG .u32 o) (zf (zg 1 [.int .u32 (Int.tmod ((↑(List.getD (canon x) (Int.toNat (↑o.length:Int)) 0):Int)+c+(↑(List.getD (canon y) (Int.toNat (↑o.length:Int)) 0):Int)) (1000000000:Int))]) 0)),.arr 1 1 (zg 1 [.int .u32 (Int.tmod ((↑(List.getD (canon x) (Int.toNat (↑o.length:Int)) 0):Int)+c+(↑(List.getD (canon y) (Int.toNat (↑o.length:Int)) 0):Int)) (1000000000:Int))])])))))))) (.side ((1000000000:Int)≠0∧inR .u32 (Int.tdiv ((↑(List.getD (canon x) (Int.toNat (↑o.length:Int)) 0):Int)+c) (1000000000:Int))) (.side ((1000000000:Int)≠0) (.side (0=0∧o.length≤o.length∧(o.length+1)*4≤140737488355328) (.side (inR .i64 ((↑o.length:Int)+(1:Int))) (.leaf (.back 0 [(1,.sl (canon y).length 1 (natG .u32 (canon y))),(5,.osl 0 1 0 (o.length+1)),(6,.int .u32 (Int.tdiv ((↑(List.getD (canon x) (Int.toNat (↑o.length:Int)) 0):Int)+c) (1000000000:Int))),(21,.sl (canon x).length 1 (natG .u32 (canon x))),(22,.int .i64 (↑(canon x).length:Int)),(23,.int .i64 ((↑o.length:Int)+(1:Int)))] [.arr (o.length+1) 1 (appG o.length (natG .u32 o) (zf (zg 1 [.int .u32 (Int.tmod ((↑(List.getD (canon x) (Int.toNat (↑o.length:Int)) 0):Int)+c) (1000000000:Int))]) 0)),.arr 1 1 (zg 1 [.int .u32 (Int.tmod ((↑(List.getD (canon x) (Int.toNat (↑o.length:Int)) 0):Int)+c) (1000000000:Int))])]))))))))) (.side (0=0∧o.length≤o.length∧(o.length+1)*4≤140737488355328) (.ex (fun(u:List Nat)=>u.length=o.length+1∧0+(o.length+1)≤o.length+1∧o.length+1<4611686018427387904∧eqG (o.length+1) 1 (appG o.length (natG .u32 o) (zf (zg 1 [AV.int .u32 c]) 0)) (natG .u32 u)∧dig (List.take (o.length+1) (List.drop 0 u))) fun n=>.all (fun(x:Nat)=>x=val (List.take (o.length+1) (List.drop 0 n))) fun n=>.leaf (.ret [.osl 0 1 0 (canon n).length] [.arr (o.length+1) 1 (appG o.length (natG .u32 o) (zf (zg 1 [.int .u32 c]) 0)),.arr 1 1 (zg 1 [.int .u32 c])])))) (by kernel_rfl) ?_
 simp only [Tree.holds,zc,inR,lo,hi,Int.toNat_natCast,kY]
 have ha:=zH (zh x) o.length
 have hb:=zH (zh y) o.length
 have hnext:∀ d c':Nat,d<B→c'≤1→o.length<(canon x).length→d+B*c'=(canon x).getD o.length 0+(canon y).getD o.length 0+c →
   ∃ s:IPl x y,s.o=o++[d]∧s.c=c'∧s.i=o.length+1:=fun d c' h1 h2 h3 h4=>
  ⟨⟨o++[d],c',o.length+1,by simp,h3,qL.2 ⟨hd,by simp [dig,h1]⟩,h2,by rw [Qi]; exact zgy (x:=x) (y:=y) he h4⟩,rfl,rfl,rfl⟩
 have hdiv:∀ v:Nat,(v:Int).tdiv 1000000000=((v/B:Nat):Int)∧(v:Int).tmod 1000000000=((v%B:Nat):Int):=fun v=>⟨rfl,rfl⟩
 have hq2:∀ v:Nat,v<2*B→v/B≤1∧v%B<B∧v%B+B*(v/B)=v:=fun v hv=>⟨by have:=Nat.div_lt_of_lt_mul (show v<B*2 by omega); omega,Nat.mod_lt _ (by omega),Nat.mod_add_div _ _⟩
 refine⟨fun hlt=> ?_,fun hge=> ?_⟩
 ·have hlt:o.length<(canon x).length:=by have:=of_decide_eq_true hlt; omega
  refine⟨by omega,fun _=>⟨by omega,fun _=>⟨fun hb2=> ?_,fun hb2=> ?_⟩⟩⟩
  ·have hb2:o.length<(canon y).length:=by have:=of_decide_eq_true hb2; omega
   refine⟨by omega,fun _=>⟨by omega,fun _=> ?_⟩⟩
   obtain⟨v,hv⟩:∃ v,(canon x).getD o.length 0+c+(canon y).getD o.length 0=v:=⟨_,rfl⟩
   have ev:(((canon x).getD o.length 0:Nat):Int)+(c:Int)+(((canon y).getD o.length 0:Nat):Int)=(v:Int):=by omega
   rw [ev,(hdiv v).1,(hdiv v).2]
   obtain⟨g1,g2,g3⟩:=hq2 v (by omega)
   generalize v/B=q at g1 g3 ⊢
   generalize v%B=r at g2 g3 ⊢
   refine⟨⟨by decide,by omega,by omega⟩,fun _=>⟨by decide,fun _=>⟨⟨trivial,Nat.le_refl _,by omega⟩,fun _=>⟨by omega,fun _=> ?_⟩⟩⟩⟩
   obtain⟨s,h1,h2,h3⟩:=hnext r q g2 g1 hlt (by omega)
   rw [if_pos trivial]
   exact⟨s,by show _ - s.i<_; omega,by simp [SPl,h1,h2,h3,magS,natS,za],by rw [h1]; exact wH rfl,by kernel_rfl,Nat.zero_le _⟩
  ·have hb2:(canon y).length≤o.length:=by have:=of_decide_eq_false hb2; omega
   have hb0:(canon y).getD o.length 0=0:=by simp [List.getD,List.getElem?_eq_none hb2]
   obtain⟨v,hv⟩:∃ v,(canon x).getD o.length 0+c=v:=⟨_,rfl⟩
   have ev:(((canon x).getD o.length 0:Nat):Int)+(c:Int)=(v:Int):=by omega
   rw [ev,(hdiv v).1,(hdiv v).2]
   obtain⟨g1,g2,g3⟩:=hq2 v (by omega)
   generalize v/B=q at g1 g3 ⊢
   generalize v%B=r at g2 g3 ⊢
   refine⟨⟨by decide,by omega,by omega⟩,fun _=>⟨by decide,fun _=>⟨⟨trivial,Nat.le_refl _,by omega⟩,fun _=>⟨by omega,fun _=> ?_⟩⟩⟩⟩
   obtain⟨s,h1,h2,h3⟩:=hnext r q g2 g1 hlt (by omega)
   rw [if_pos trivial]
   exact⟨s,by show _ - s.i<_; omega,by simp [SPl,h1,h2,h3,magS,natS,za],by rw [h1]; exact wH rfl,by kernel_rfl,Nat.zero_le _⟩
 ·have hge:o.length=(canon x).length:=by have:=of_decide_eq_false hge; omega
  have hv:val (o++[c])=x+y:=by
   rw [Qi]
   rw [hge,List.take_length,List.take_of_length_le hlen,zk,zk] at he
   rw [hge]; exact he
  have hdo:dig (o++[c]):=qL.2 ⟨hd,by simp [dig]; omega⟩
  have hpush:eqG (o.length+1) 1 (appG o.length (natG .u32 o) (zf (zg 1 [.int .u32 (c:Int)]) 0)) (natG .u32 (o++[c])):=by
   have:=ya (k:=.u32) (l:=o) (v:=(c:Int)) (by omega)
   simpa using this
  have hall:List.take (o.length+1) (List.drop 0 (o++[c]))=o++[c]:=by rw [List.drop_zero]; exact List.take_of_length_le (by simp)
  refine⟨⟨trivial,Nat.le_refl _,by omega⟩,fun _=>⟨o++[c],⟨by simp,by omega,by omega,hpush,by rw [hall]; exact hdo⟩,⟨_,rfl⟩,?_⟩⟩
  intro X hX
  have hX:X=x+y:=by rw [hX,hall,hv]
  subst hX
  have htr:qu (o++[c])=canon (x+y):=by rw [zL hdo,hv]
  have htl:(canon (x+y)).length=tlen (o++[c]):=by rw [← htr,qu,List.length_take]; have:=zZ (o++[c]); omega
  rw [htl]
  have hle2:=zZ (o++[c])
  have hln:(o++[c]).length=o.length+1:=by simp
  refine RetR.zi6 (l:=canon (x+y)) (k:=.u32) hq rfl (by omega) htl fun j hj=> ?_
  have:=hpush j 0 (by omega) (by omega)
  rw [this,← htr]
  simp only [natG,qu]
  rw [XR hj]
theorem Yj:zd Tryz.prog 95 XV:=by
 refine yx (fn:=Tryz.f95) (c:=Tryz.f95.body.getD .skip) rfl rfl rfl fun x y hp O w0 Q hq=> ?_
 replace hq:=hq _ rfl
 obtain⟨hx,hy⟩:=hp
 refine zb.run hmix xR [1,5,6,21,22,23] 400 (T:=.ite (decide ((↑(canon x).length:Int)<(↑(canon y).length:Int))) (.side (inR .i64 ((↑(canon y).length:Int)+(1:Int))) (.side ((0:Int)≤0∧(0:Int)≤(↑(canon y).length:Int)+(1:Int)∧inR .i64 ((↑(canon y).length:Int)+(1:Int))∧Int.toNat ((↑(canon y).length:Int)+(1:Int))*4≤140737488355328) (.leaf (.loop (Prod.fst (lps K95 0)) (Prod.snd (lps K95 0)) [(1,.sl (canon x).length 1 (natG .u32 (canon x))),(5,.osl 0 1 0 0),(6,.int .u32 0),(21,.sl (canon y).length 1 (natG .u32 (canon y))),(22,.int .i64 (↑(canon y).length:Int)),(23,.int .i64 0)] [.arr 0 1 (kT [.int .u32 0])])))) (.side (inR .i64 ((↑(canon x).length:Int)+(1:Int))) (.side ((0:Int)≤0∧(0:Int)≤(↑(canon x).length:Int)+(1:Int)∧inR .i64 ((↑(canon x).length:Int)+(1:Int))∧Int.toNat ((↑(canon x).length:Int)+(1:Int))*4≤140737488355328) (.leaf (.loop (Prod.fst (lps K95 0)) (Prod.snd (lps K95 0)) [(1,.sl (canon y).length 1 (natG .u32 (canon y))),(5,.osl 0 1 0 0),(6,.int .u32 0),(21,.sl (canon x).length 1 (natG .u32 (canon x))),(22,.int .i64 (↑(canon x).length:Int)),(23,.int .i64 0)] [.arr 0 1 (kT [.int .u32 0])]))))) (by kernel_rfl) ?_
 simp only [Tree.holds,zc,inR,lo,hi]
 refine⟨fun h=> ?_,fun h=> ?_⟩
 ·have h:(canon x).length<(canon y).length:=by have:=of_decide_eq_true h; omega
  refine⟨by omega,fun _=>⟨⟨by omega,by omega,by omega,by omega⟩,fun _=> ?_⟩⟩
  rw [Nat.add_comm] at hq
  exact Vo y x hy (by omega) hq _ _ ⟨by simp [SPl,magS,natS,za],by simp [eqG],by kernel_rfl,Nat.zero_le _⟩
 ·have h:(canon y).length≤(canon x).length:=by have:=of_decide_eq_false h; omega
  refine⟨by omega,fun _=>⟨⟨by omega,by omega,by omega,by omega⟩,fun _=> ?_⟩⟩
  exact Vo x y hx h hq _ _ ⟨by simp [SPl,magS,natS,za],by simp [eqG],by kernel_rfl,Nat.zero_le _⟩
def zga:Ctr:=ctrP false (fun p:Bool×Nat=>[.bool p.1,magS p.2]) (fun _=>True) (fun p r=>r=(p.1&&decide (0<p.2),p.2)) (fun _ (r:Bool×Nat)=>(numV r.1 r.2,[]))
theorem W8{x:Nat} : decide (0<((canon x).length:Int))=decide (0<x):=by
 by_cases h:x=0
 ·subst h; simp [canon]
 ·have h1:0<x:=Nat.pos_of_ne_zero h
  have h2:(canon x).length≠0:=fun h2=>h (xj.1 h2)
  rw [decide_eq_true (by omega),decide_eq_true h1]
theorem RetR.numV{ctr:Ctr}{Q:AV×Heap→Prop}{h:Heap}{b:Bool}{x:Nat}(hf:ctr.fresh=false)(hq:Q (numV b x,[])):RetR ctr 0 Q [.agg [.bool b,magS x]] h:=by
 refine RetR.out0 hq (fun h=>by rw [hf] at h; cases h) ?_
 simp [resV,exp2,exp1,exp0,ren0,frz1,eqA2,eqL1,eqA,eqL0,eqA0,Tryz.numV,magS,natS,za]
theorem zek:zd Tryz.prog 94 zga:=by
 refine ze (fn:=Tryz.f94) (c:=Tryz.f94.body.getD .skip) rfl rfl rfl fun p hp O w0 Q hq=> ?_
 obtain⟨b,x⟩:=p
 replace hq:=hq _ rfl
 refine zb.run hmix z7 [] 400 (T:=.leaf (.ret [.agg [.bool (bif b then decide ((0:Int)<(↑(canon x).length:Int)) else false),.sl (canon x).length 1 (natG .u32 (canon x))]] [.box [.bool (bif b then decide ((0:Int)<(↑(canon x).length:Int)) else false),.sl (canon x).length 1 (natG .u32 (canon x))]])) (by kernel_rfl) ?_
 simp only [Tree.holds,zc]
 rw [W8]
 have e:(bif b then decide (0<x) else false)=(b&&decide (0<x)):=by cases b<;>rfl
 rw [e]
 exact RetR.numV rfl hq
def sumC:Ctr:=ctrP false (fun p:(Bool×Nat)×(Bool×Nat)=>[numV p.1.1 p.1.2,numV p.2.1 p.2.2]) (fun p=>(canon p.1.2).length<100000∧(canon p.2.2).length<100000)
 (fun p r=>r=((sumS p.1.1 p.1.2 p.2.1 p.2.2).1&&decide (0<(sumS p.1.1 p.1.2 p.2.1 p.2.2).2),(sumS p.1.1 p.1.2 p.2.1 p.2.2).2)) (fun _ (r:Bool×Nat)=>(numV r.1 r.2,[]))
noncomputable def GSu:Nat→Option Ctr:=fun f=>if f=94 then some (zga) else if f=95 then some (XV) else if f=96 then some (yo) else if f=97 then some (JZ) else none
theorem zhr:∀ g c,GSu g=some c→zd Tryz.prog g c:=okIf zek (okIf Yj (okIf xB (okIf Zm (zq))))
theorem zhq:zd Tryz.prog 77 sumC:=by
 refine ze (fn:=Tryz.f77) (c:=Tryz.f77.body.getD .skip) rfl rfl rfl fun p hp O w0 Q hq=> ?_
 obtain⟨⟨m,x⟩,⟨n,y⟩⟩:=p
 obtain⟨h1,h2⟩:=hp
 replace hq:=hq _ rfl
 simp only at h1 h2 hq
 refine zb.run hmix zhr [] 400 (T:=.ite (m == n) (.ex (fun(x_1:Nat×Nat)=>eqL [AV.sl (canon x).length 1 (natG .u32 (canon x)),AV.sl (canon y).length 1 (natG .u32 (canon y))] [AV.sl (canon x_1.1).length 1 (natG .u32 (canon x_1.1)),AV.sl (canon x_1.2).length 1 (natG .u32 (canon x_1.2))]∧List.length (canon x_1.1)<100000∧List.length (canon x_1.2)<100000) fun n_1=>.all (fun(d:Nat)=>d=n_1.1+n_1.2) fun n_2=>.ex (fun(x:Bool×Nat)=>eqL [AV.bool m,AV.sl (canon n_2).length 1 (natG .u32 (canon n_2))] [AV.bool x.1,AV.sl (canon x.2).length 1 (natG .u32 (canon x.2))]∧True) fun n_3=>.all (fun(r:Bool×Nat)=>r=(n_3.1&&decide (0<n_3.2),n_3.2)) fun n_4=>.leaf (.ret [.agg [.bool n_4.1,.sl (canon n_4.2).length 1 (natG .u32 (canon n_4.2))]] [.box [.bool m,.sl (canon x).length 1 (natG .u32 (canon x))],.box [.bool n,.sl (canon y).length 1 (natG .u32 (canon y))],.box [.bool n_4.1,.sl (canon n_4.2).length 1 (natG .u32 (canon n_4.2))]])) (.ex (fun(x_1:Nat×Nat)=>eqL [AV.sl (canon x).length 1 (natG .u32 (canon x)),AV.sl (canon y).length 1 (natG .u32 (canon y))] [AV.sl (canon x_1.1).length 1 (natG .u32 (canon x_1.1)),AV.sl (canon x_1.2).length 1 (natG .u32 (canon x_1.2))]∧fits x_1.1∧fits x_1.2) fun n_1=>.all (fun(r:Int)=>r=cmp3 n_1.1 n_1.2) fun n_2=>.ite (decide ((0:Int)≤n_2)) (.ex (fun(x_1:Nat×Nat)=>eqL [AV.sl (canon x).length 1 (natG .u32 (canon x)),AV.sl (canon y).length 1 (natG .u32 (canon y))] [AV.sl (canon x_1.1).length 1 (natG .u32 (canon x_1.1)),AV.sl (canon x_1.2).length 1 (natG .u32 (canon x_1.2))]∧fits x_1.1∧x_1.2≤x_1.1) fun n_3=>.all (fun(d:Nat)=>d=n_3.1 - n_3.2) fun n_4=>.ex (fun(x:Bool×Nat)=>eqL [AV.bool m,AV.sl (canon n_4).length 1 (natG .u32 (canon n_4))] [AV.bool x.1,AV.sl (canon x.2).length 1 (natG .u32 (canon x.2))]∧True) fun n_5=>.all (fun(r:Bool×Nat)=>r=(n_5.1&&decide (0<n_5.2),n_5.2)) fun n_6=>.leaf (.ret [.agg [.bool n_6.1,.sl (canon n_6.2).length 1 (natG .u32 (canon n_6.2))]] [.box [.bool m,.sl (canon x).length 1 (natG .u32 (canon x))],.box [.bool n,.sl (canon y).length 1 (natG .u32 (canon y))],.box [.bool n_6.1,.sl (canon n_6.2).length 1 (natG .u32 (canon n_6.2))]])) (.ex (fun(x_1:Nat×Nat)=>eqL [AV.sl (canon y).length 1 (natG .u32 (canon y)),AV.sl (canon x).length 1 (natG .u32 (canon x))] [AV.sl (canon x_1.1).length 1 (natG .u32 (canon x_1.1)),AV.sl (canon x_1.2).length 1 (natG .u32 (canon x_1.2))]∧fits x_1.1∧x_1.2≤x_1.1) fun n_3=>.all (fun(d:Nat)=>d=n_3.1 - n_3.2) fun n_4=>.ex (fun(x:Bool×Nat)=>eqL [AV.bool n,AV.sl (canon n_4).length 1 (natG .u32 (canon n_4))] [AV.bool x.1,AV.sl (canon x.2).length 1 (natG .u32 (canon x.2))]∧True) fun n_5=>.all (fun(r:Bool×Nat)=>r=(n_5.1&&decide (0<n_5.2),n_5.2)) fun n_6=>.leaf (.ret [.agg [.bool n_6.1,.sl (canon n_6.2).length 1 (natG .u32 (canon n_6.2))]] [.box [.bool m,.sl (canon x).length 1 (natG .u32 (canon x))],.box [.bool n,.sl (canon y).length 1 (natG .u32 (canon y))],.box [.bool n_6.1,.sl (canon n_6.2).length 1 (natG .u32 (canon n_6.2))]])))) (by kernel_rfl) ?_
 simp only [Tree.holds,zc]
 have eL:∀ a b:Nat,eqL [AV.sl (canon a).length 1 (natG .u32 (canon a)),AV.sl (canon b).length 1 (natG .u32 (canon b))] [AV.sl (canon a).length 1 (natG .u32 (canon a)),AV.sl (canon b).length 1 (natG .u32 (canon b))]:=fun a b=>⟨⟨rfl,rfl,za _ _ _⟩,⟨rfl,rfl,za _ _ _⟩,trivial⟩
 have eK:∀ (b:Bool) (a:Nat),eqL [AV.bool b,AV.sl (canon a).length 1 (natG .u32 (canon a))] [AV.bool b,AV.sl (canon a).length 1 (natG .u32 (canon a))]:=fun b a=>⟨rfl,⟨rfl,rfl,za _ _ _⟩,trivial⟩
 have hcm:∀ v,v=cmp3 x y→(0≤v↔y≤x):=by
  rintro v rfl
  unfold cmp3
  split
  ·exact⟨fun h=>by omega,fun h=>by omega⟩
  ·split
   ·exact⟨fun h=>by omega,fun h=>by omega⟩
   ·exact⟨fun h=>by omega,fun h=>by omega⟩
 refine⟨fun h=> ?_,fun h=>⟨(x,y),⟨eL x y,by show(canon x).length<_; omega,by show(canon y).length<_; omega⟩,⟨_,rfl⟩,?_⟩⟩
 ·have h:m=n:=by simpa using h
  refine⟨(x,y),⟨eL x y,h1,h2⟩,⟨_,rfl⟩,?_⟩
  rintro _ rfl
  refine⟨(m,x+y),⟨eK m _,trivial⟩,⟨_,rfl⟩,?_⟩
  rintro _ rfl
  have e:sumS m x n y=(m,x+y):=if_pos h
  rw [e] at hq
  exact RetR.numV rfl hq
 ·have h:¬ m=n:=by simpa using h
  intro v hv
  have hv:=hcm v hv
  refine⟨fun g=> ?_,fun g=> ?_⟩
  ·have g:y≤x:=hv.1 (of_decide_eq_true g)
   refine⟨(x,y),⟨eL x y,by show(canon x).length<_; omega,g⟩,⟨_,rfl⟩,?_⟩
   rintro _ rfl
   refine⟨(m,x - y),⟨eK m _,trivial⟩,⟨_,rfl⟩,?_⟩
   rintro _ rfl
   have e:sumS m x n y=(m,x - y):=by rw [sumS,if_neg h,if_pos g]
   rw [e] at hq
   exact RetR.numV rfl hq
  ·have g:¬ y≤x:=fun h3=>of_decide_eq_false g (hv.2 h3)
   refine⟨(y,x),⟨eL y x,by show(canon y).length<_; omega,by show x≤y; omega⟩,⟨_,rfl⟩,?_⟩
   rintro _ rfl
   refine⟨(n,y - x),⟨eK n _,trivial⟩,⟨_,rfl⟩,?_⟩
   rintro _ rfl
   have e:sumS m x n y=(n,y - x):=by rw [sumS,if_neg h,if_neg g]
   rw [e] at hq
   exact RetR.numV rfl hq
theorem qg{x n:Nat}(h:x<B^n)(hn:n<100000):(canon x).length<100000:=by have:=zt h; omega
theorem qX{s:List UInt8}(h:errI s=0):numI s<B^112:=jx.2 (x8 h)
theorem zac{x y:Nat}(hx:x<B^112)(hy:y<B^112):x+y<B^113∧x*y<B^224:=by
 constructor
 ·have:B^113=B^112*B:=Nat.pow_succ B 112
  have hB:B=1000000000:=rfl
  generalize B^112=p at *
  rw [this,hB]; omega
 ·have:B^224=B^112*B^112:=by rw [← Nat.pow_add]
  rw [this]
  exact Nat.mul_lt_mul_of_lt_of_lt hx hy
noncomputable def GAd:Nat→Option Ctr:=fun f=>if f=73 then some (uv) else if f=77 then some (sumC) else if f=74 then some (uR) else if f=75 then some (Xu) else if f=96 then some (yo) else none
theorem K9:∀ g c,GAd g=some c→zd Tryz.prog g c:=okIf JY (okIf zhq (okIf ZD (okIf Vj (okIf xB (zq)))))
def addC:Ctr:=ctrP true (fun p:List UInt8×List UInt8=>[.str p.1,.str p.2]) (fun p=>p.1.length<2^62∧p.2.length<2^62) (fun p r=>r=addI p.1 p.2) (fun _ r=>(.tup [.str r.1,.int .i64 r.2],[]))
def mulC:Ctr:=ctrP true (fun p:List UInt8×List UInt8=>[.str p.1,.str p.2]) (fun p=>p.1.length<2^62∧p.2.length<2^62) (fun p r=>r=mulI p.1 p.2) (fun _ r=>(.tup [.str r.1,.int .i64 r.2],[]))
def zfq:Ctr:=ctrP true (fun p:List UInt8×List UInt8=>[.str p.1,.str p.2]) (fun p=>p.1.length<2^62∧p.2.length<2^62) (fun p r=>r=ux p.1 p.2) (fun _ r=>(.tup [.int .i64 r.1,.int .i64 r.2],[]))
theorem zgt:zd Tryz.prog 48 addC:=by
 refine ze (fn:=Tryz.f48) (c:=Tryz.f48.body.getD .skip) rfl rfl rfl fun p hp O w0 Q hq=> ?_
 obtain⟨s,t⟩:=p
 obtain⟨hs,ht⟩:=hp
 replace hq:=hq _ rfl
 simp only at hs ht hq
 refine zb.run hmix K9 [] 400 (T:=.ex (fun(x:List UInt8×List UInt8)=>eqL [AV.str s,AV.str t] [AV.str x.1,AV.str x.2]∧x.1.length<4611686018427387904∧x.2.length<4611686018427387904) fun n=>.all (fun(r:Int×(Bool×Nat)×Bool×Nat)=>r=if zu n.1 n.2=0 then((0:Int),(negI n.1,numI n.1),negI n.2,numI n.2) else(zu n.1 n.2,(false,0),false,0)) fun n=>.ite (!decide (n.1=0)) (.leaf (.ret [.str #[].toList,.int .i64 n.1] [.box [.bool n.2.1.1,.sl (canon n.2.1.2).length 1 (natG .u32 (canon n.2.1.2))],.box [.bool n.2.2.1,.sl (canon n.2.2.2).length 1 (natG .u32 (canon n.2.2.2))]])) (.ex (fun(x:(Bool×Nat)×Bool×Nat)=>eqL [AV.agg [AV.bool n.2.1.1,AV.sl (canon n.2.1.2).length 1 (natG .u32 (canon n.2.1.2))],AV.agg [AV.bool n.2.2.1,AV.sl (canon n.2.2.2).length 1 (natG .u32 (canon n.2.2.2))]] [AV.agg [AV.bool x.1.1,AV.sl (canon x.1.2).length 1 (natG .u32 (canon x.1.2))],AV.agg [AV.bool x.2.1,AV.sl (canon x.2.2).length 1 (natG .u32 (canon x.2.2))]]∧List.length (canon x.1.2)<100000∧List.length (canon x.2.2)<100000) fun n_1=>.all (fun(r:Bool×Nat)=>r=(Prod.fst (sumS n_1.1.1 n_1.1.2 n_1.2.1 n_1.2.2)&&decide (0<Prod.snd (sumS n_1.1.1 n_1.1.2 n_1.2.1 n_1.2.2)),Prod.snd (sumS n_1.1.1 n_1.1.2 n_1.2.1 n_1.2.2))) fun n_2=>.ex (fun(x:Bool×Nat)=>eqL [AV.agg [AV.bool n_2.1,AV.sl (canon n_2.2).length 1 (natG .u32 (canon n_2.2))]] [AV.agg [AV.bool x.1,AV.sl (canon x.2).length 1 (natG .u32 (canon x.2))]]∧List.length (canon x.2)<1000000) fun n_3=>.all (fun(r:List UInt8×Int)=>r=wr n_3.1 n_3.2) fun n_4=>.leaf (.ret [.str n_4.1,.int .i64 n_4.2] [.box [.bool n.2.1.1,.sl (canon n.2.1.2).length 1 (natG .u32 (canon n.2.1.2))],.box [.bool n.2.2.1,.sl (canon n.2.2.2).length 1 (natG .u32 (canon n.2.2.2))]]))) (by kernel_rfl) ?_
 simp only [Tree.holds,zc]
 refine⟨(s,t),⟨by simp,by omega,by omega⟩,⟨_,rfl⟩,?_⟩
 rintro _ rfl
 simp only
 by_cases he:zu s t=0
 ·obtain⟨e1,e2⟩:=zm.1 he
  obtain⟨b1,b2⟩:=zac (qX e1) (qX e2)
  have c1:=qg (qX e1) (by decide)
  have c2:=qg (qX e2) (by decide)
  simp only [if_pos he]
  refine⟨fun h=>(by simp at h),fun _=> ?_⟩
  refine⟨((negI s,numI s),(negI t,numI t)),⟨⟨⟨rfl,⟨rfl,rfl,za _ _ _⟩,trivial⟩,⟨rfl,⟨rfl,rfl,za _ _ _⟩,trivial⟩,trivial⟩,c1,c2⟩,⟨_,rfl⟩,?_⟩
  rintro _ rfl
  refine⟨((sumS (negI s) (numI s) (negI t) (numI t)).1&&decide (0<(sumS (negI s) (numI s) (negI t) (numI t)).2),(sumS (negI s) (numI s) (negI t) (numI t)).2),⟨⟨⟨rfl,⟨rfl,rfl,za _ _ _⟩,trivial⟩,trivial⟩,?_⟩,⟨_,rfl⟩,?_⟩
  ·have:=qg (Nat.lt_of_le_of_lt (zet (negI s) (numI s) (negI t) (numI t)) b1) (by decide)
   show(canon (sumS (negI s) (numI s) (negI t) (numI t)).2).length<1000000
   omega
  rintro _ rfl
  rw [zf2]
  have e:addI s t=wr (sumS (negI s) (numI s) (negI t) (numI t)).1 (sumS (negI s) (numI s) (negI t) (numI t)).2:=if_pos he
  rw [e] at hq
  exact RetR.scal hq rfl (by simp [resV])
 ·simp only [if_neg he]
  refine⟨fun _=> ?_,fun h=>(by simp [he] at h)⟩
  have e:addI s t=([],zu s t):=if_neg he
  rw [e] at hq
  exact RetR.scal hq rfl (by simp [resV])
theorem zhh:zd Tryz.prog 46 mulC:=by
 refine ze (fn:=Tryz.f46) (c:=Tryz.f46.body.getD .skip) rfl rfl rfl fun p hp O w0 Q hq=> ?_
 obtain⟨s,t⟩:=p
 obtain⟨hs,ht⟩:=hp
 replace hq:=hq _ rfl
 simp only at hs ht hq
 refine zb.run hmix K9 [] 400 (T:=.ex (fun(x:List UInt8×List UInt8)=>eqL [AV.str s,AV.str t] [AV.str x.1,AV.str x.2]∧x.1.length<4611686018427387904∧x.2.length<4611686018427387904) fun n=>.all (fun(r:Int×(Bool×Nat)×Bool×Nat)=>r=if zu n.1 n.2=0 then((0:Int),(negI n.1,numI n.1),negI n.2,numI n.2) else(zu n.1 n.2,(false,0),false,0)) fun n=>.ite (!decide (n.1=0)) (.leaf (.ret [.str #[].toList,.int .i64 n.1] [.box [.bool n.2.1.1,.sl (canon n.2.1.2).length 1 (natG .u32 (canon n.2.1.2))],.box [.bool n.2.2.1,.sl (canon n.2.2.2).length 1 (natG .u32 (canon n.2.2.2))]])) (.ex (fun(x:Nat×Nat)=>eqL [AV.sl (canon n.2.1.2).length 1 (natG .u32 (canon n.2.1.2)),AV.sl (canon n.2.2.2).length 1 (natG .u32 (canon n.2.2.2))] [AV.sl (canon x.1).length 1 (natG .u32 (canon x.1)),AV.sl (canon x.2).length 1 (natG .u32 (canon x.2))]∧fits x.1∧fits x.2) fun n_1=>.all (fun(p:Nat)=>p=n_1.1*n_1.2) fun n_2=>.ex (fun(x:Bool×Nat)=>eqL [AV.agg [AV.bool !Prod.fst n.2.1 == n.2.2.1,AV.sl (canon n_2).length 1 (zf (natG .u32 (padN (List.length (canon n_1.1)+List.length (canon n_1.2)) n_2)) 0)]] [AV.agg [AV.bool x.1,AV.sl (canon x.2).length 1 (natG .u32 (canon x.2))]]∧List.length (canon x.2)<1000000) fun n_3=>.all (fun(r:List UInt8×Int)=>r=wr n_3.1 n_3.2) fun n_4=>.leaf (.ret [.str n_4.1,.int .i64 n_4.2] [.box [.bool n.2.1.1,.sl (canon n.2.1.2).length 1 (natG .u32 (canon n.2.1.2))],.box [.bool n.2.2.1,.sl (canon n.2.2.2).length 1 (natG .u32 (canon n.2.2.2))],.arr (List.length (canon n_1.1)+List.length (canon n_1.2)) 1 (natG .u32 (padN (List.length (canon n_1.1)+List.length (canon n_1.2)) n_2))]))) (by kernel_rfl) ?_
 simp only [Tree.holds,zc]
 refine⟨(s,t),⟨by simp,by omega,by omega⟩,⟨_,rfl⟩,?_⟩
 rintro _ rfl
 simp only
 by_cases he:zu s t=0
 ·obtain⟨e1,e2⟩:=zm.1 he
  obtain⟨b1,b2⟩:=zac (qX e1) (qX e2)
  have c1:=qg (qX e1) (by decide)
  have c2:=qg (qX e2) (by decide)
  simp only [if_pos he]
  refine⟨fun h=>(by simp at h),fun _=> ?_⟩
  refine⟨(numI s,numI t),⟨⟨⟨rfl,rfl,za _ _ _⟩,⟨rfl,rfl,za _ _ _⟩,trivial⟩,by show(canon (numI s)).length<1000000; omega,by show(canon (numI t)).length<1000000; omega⟩,⟨_,rfl⟩,?_⟩
  rintro _ rfl
  refine⟨(negI s != negI t,numI s*numI t),⟨⟨⟨rfl,⟨rfl,rfl,fun j o hj ho=>by simp only [zf,natG,Nat.zero_add,padN,x9 hj]⟩,trivial⟩,trivial⟩,?_⟩,⟨_,rfl⟩,?_⟩
  ·have:=qg b2 (by decide)
   show(canon (numI s*numI t)).length<1000000
   omega
  rintro _ rfl
  have e:mulI s t=wr (negI s != negI t) (numI s*numI t):=if_pos he
  rw [e] at hq
  exact RetR.scal hq rfl (by simp [resV])
 ·simp only [if_neg he]
  refine⟨fun _=> ?_,fun h=>(by simp [he] at h)⟩
  have e:mulI s t=([],zu s t):=if_neg he
  rw [e] at hq
  exact RetR.scal hq rfl (by simp [resV])
theorem zew:zd Tryz.prog 84 zfq:=by
 refine ze (fn:=Tryz.f84) (c:=Tryz.f84.body.getD .skip) rfl rfl rfl fun p hp O w0 Q hq=> ?_
 obtain⟨s,t⟩:=p
 obtain⟨hs,ht⟩:=hp
 replace hq:=hq _ rfl
 simp only at hs ht hq
 refine zb.run hmix K9 [] 400 (T:=.ex (fun(x:List UInt8×List UInt8)=>eqL [AV.str s,AV.str t] [AV.str x.1,AV.str x.2]∧x.1.length<4611686018427387904∧x.2.length<4611686018427387904) fun n=>.all (fun(r:Int×(Bool×Nat)×Bool×Nat)=>r=if zu n.1 n.2=0 then((0:Int),(negI n.1,numI n.1),negI n.2,numI n.2) else(zu n.1 n.2,(false,0),false,0)) fun n=>.ite (!decide (n.1=0)) (.leaf (.ret [.int .i64 0,.int .i64 n.1] [.box [.bool n.2.1.1,.sl (canon n.2.1.2).length 1 (natG .u32 (canon n.2.1.2))],.box [.bool n.2.2.1,.sl (canon n.2.2.2).length 1 (natG .u32 (canon n.2.2.2))]])) (.ite (bif n.2.1.1 then !Prod.fst n.2.2 else false) (.leaf (.ret [.int .i64 (-1:Int),.int .i64 0] [.box [.bool n.2.1.1,.sl (canon n.2.1.2).length 1 (natG .u32 (canon n.2.1.2))],.box [.bool n.2.2.1,.sl (canon n.2.2.2).length 1 (natG .u32 (canon n.2.2.2))]])) (.ite (bif n.2.2.1 then !Prod.fst n.2.1 else false) (.leaf (.ret [.int .i64 1,.int .i64 0] [.box [.bool n.2.1.1,.sl (canon n.2.1.2).length 1 (natG .u32 (canon n.2.1.2))],.box [.bool n.2.2.1,.sl (canon n.2.2.2).length 1 (natG .u32 (canon n.2.2.2))]])) (.ite n.2.1.1 (.ex (fun(x:Nat×Nat)=>eqL [AV.sl (canon n.2.2.2).length 1 (natG .u32 (canon n.2.2.2)),AV.sl (canon n.2.1.2).length 1 (natG .u32 (canon n.2.1.2))] [AV.sl (canon x.1).length 1 (natG .u32 (canon x.1)),AV.sl (canon x.2).length 1 (natG .u32 (canon x.2))]∧fits x.1∧fits x.2) fun n_1=>.all (fun(r:Int)=>r=cmp3 n_1.1 n_1.2) fun n_2=>.leaf (.ret [.int .i64 n_2,.int .i64 0] [.box [.bool n.2.1.1,.sl (canon n.2.1.2).length 1 (natG .u32 (canon n.2.1.2))],.box [.bool n.2.2.1,.sl (canon n.2.2.2).length 1 (natG .u32 (canon n.2.2.2))]])) (.ex (fun(x:Nat×Nat)=>eqL [AV.sl (canon n.2.1.2).length 1 (natG .u32 (canon n.2.1.2)),AV.sl (canon n.2.2.2).length 1 (natG .u32 (canon n.2.2.2))] [AV.sl (canon x.1).length 1 (natG .u32 (canon x.1)),AV.sl (canon x.2).length 1 (natG .u32 (canon x.2))]∧fits x.1∧fits x.2) fun n_1=>.all (fun(r:Int)=>r=cmp3 n_1.1 n_1.2) fun n_2=>.leaf (.ret [.int .i64 n_2,.int .i64 0] [.box [.bool n.2.1.1,.sl (canon n.2.1.2).length 1 (natG .u32 (canon n.2.1.2))],.box [.bool n.2.2.1,.sl (canon n.2.2.2).length 1 (natG .u32 (canon n.2.2.2))]])))))) (by kernel_rfl) ?_
 simp only [Tree.holds,zc]
 refine⟨(s,t),⟨by simp,by omega,by omega⟩,⟨_,rfl⟩,?_⟩
 rintro _ rfl
 simp only
 by_cases he:zu s t=0
 ·obtain⟨e1,e2⟩:=zm.1 he
  obtain⟨b1,b2⟩:=zac (qX e1) (qX e2)
  have c1:=qg (qX e1) (by decide)
  have c2:=qg (qX e2) (by decide)
  simp only [if_pos he]
  refine⟨fun h=>(by simp at h),fun _=> ?_⟩
  have e:ux s t=(cmpZ (negI s) (numI s) (negI t) (numI t),0):=if_pos he
  rw [e] at hq
  have ec:∀ a b:Nat,cmp3 a b=cmpN a b:=fun _ _=>rfl
  simp only [cmpZ] at hq
  have f1:fits (numI s):=by show(canon (numI s)).length<1000000; omega
  have f2:fits (numI t):=by show(canon (numI t)).length<1000000; omega
  refine⟨fun h=> ?_,fun h1=>⟨fun h=> ?_,fun h2=>⟨fun h=>⟨(numI t,numI s),⟨⟨⟨rfl,rfl,za _ _ _⟩,⟨rfl,rfl,za _ _ _⟩,trivial⟩,f2,f1⟩,⟨_,rfl⟩,?_⟩,fun h=>⟨(numI s,numI t),⟨⟨⟨rfl,rfl,za _ _ _⟩,⟨rfl,rfl,za _ _ _⟩,trivial⟩,f1,f2⟩,⟨_,rfl⟩,?_⟩⟩⟩⟩
  ·cases hm:negI s<;>cases hn:negI t<;>rw [hm,hn] at h hq<;>first | (cases h; done) | exact RetR.scal hq rfl (by simp [resV])
  ·cases hm:negI s<;>cases hn:negI t<;>rw [hm,hn] at h h1 hq<;>first | (cases h; done) | (cases h1; done) | exact RetR.scal hq rfl (by simp [resV])
  ·rintro _ rfl
   rw [ec]
   cases hm:negI s<;>cases hn:negI t<;>rw [hm,hn] at h1 h2 hq<;>rw [hm] at h<;>first | (cases h; done) | (cases h1; done) | (cases h2; done) | exact RetR.scal hq rfl (by simp [resV])
  ·rintro _ rfl
   rw [ec]
   cases hm:negI s<;>cases hn:negI t<;>rw [hm,hn] at h1 h2 hq<;>rw [hm] at h<;>first | (cases h; done) | (cases h1; done) | (cases h2; done) | exact RetR.scal hq rfl (by simp [resV])
 ·simp only [if_neg he]
  refine⟨fun _=> ?_,fun h=>(by simp [he] at h)⟩
  have e:ux s t=(0,zu s t):=if_neg he
  rw [e] at hq
  exact RetR.scal hq rfl (by simp [resV])
def dmC:Ctr:=ctrP true (fun p:List UInt8×List UInt8=>[.str p.1,.str p.2]) (fun p=>p.1.length<2^62∧p.2.length<2^62) (fun p r=>r=dmI p.1 p.2) (fun _ r=>(.tup [.str r.1,.str r.2.1,.int .i64 r.2.2],[]))
noncomputable def GDm:Nat→Option Ctr:=fun f=>if f=73 then some (uv) else if f=87 then some (xK) else if f=95 then some (XV) else if f=97 then some (JZ) else if f=74 then some (uR) else none
theorem zhs:∀ g c,GDm g=some c→zd Tryz.prog g c:=okIf JY (okIf Jw (okIf Yj (okIf Zm (okIf ZD (zq)))))
theorem YF:zd Tryz.prog 93 dmC:=by
 refine ze (fn:=Tryz.f93) (c:=Tryz.f93.body.getD .skip) rfl rfl rfl fun p hp O w0 Q hq=> ?_
 obtain⟨s,t⟩:=p
 obtain⟨hs,ht⟩:=hp
 replace hq:=hq _ rfl
 simp only at hs ht hq
 refine zb.run hmix zhs [] 400 (T:=.ex (fun(x:List UInt8×List UInt8)=>eqL [AV.str s,AV.str t] [AV.str x.1,AV.str x.2]∧x.1.length<4611686018427387904∧x.2.length<4611686018427387904) fun n=>.all (fun(r:Int×(Bool×Nat)×Bool×Nat)=>r=if zu n.1 n.2=0 then((0:Int),(negI n.1,numI n.1),negI n.2,numI n.2) else(zu n.1 n.2,(false,0),false,0)) fun n=>.ite (!decide (n.1=0)) (.leaf (.ret [.str #[].toList,.str #[].toList,.int .i64 n.1] [.box [.bool n.2.1.1,.sl (canon n.2.1.2).length 1 (natG .u32 (canon n.2.1.2))],.box [.bool n.2.2.1,.sl (canon n.2.2.2).length 1 (natG .u32 (canon n.2.2.2))]])) (.ite (decide ((↑(canon n.2.2.2).length:Int)=0)) (.leaf (.ret [.str #[].toList,.str #[].toList,.int .i64 16] [.box [.bool n.2.1.1,.sl (canon n.2.1.2).length 1 (natG .u32 (canon n.2.1.2))],.box [.bool n.2.2.1,.sl (canon n.2.2.2).length 1 (natG .u32 (canon n.2.2.2))]])) (.ex (fun(x:Nat×Nat)=>eqL [AV.sl (canon n.2.1.2).length 1 (natG .u32 (canon n.2.1.2)),AV.sl (canon n.2.2.2).length 1 (natG .u32 (canon n.2.2.2))] [AV.sl (canon x.1).length 1 (natG .u32 (canon x.1)),AV.sl (canon x.2).length 1 (natG .u32 (canon x.2))]∧List.length (canon x.1)<100000∧List.length (canon x.2)<100000∧0<x.2) fun n_1=>.all (fun(r:Nat×Nat)=>r=(n_1.1/n_1.2,n_1.1%n_1.2)) fun n_2=>.ite (bif n.2.1.1 then decide ((0:Int)<(↑(canon n_2.2).length:Int)) else false) (.ex (fun(x:Nat×Nat)=>eqL [AV.sl (canon n_2.1).length 1 (natG .u32 (canon n_2.1)),AV.sl 1 1 (zf (zg 1 [AV.int .u32 1]) 0)] [AV.sl (canon x.1).length 1 (natG .u32 (canon x.1)),AV.sl (canon x.2).length 1 (natG .u32 (canon x.2))]∧List.length (canon x.1)<100000∧List.length (canon x.2)<100000) fun n_3=>.all (fun(d:Nat)=>d=n_3.1+n_3.2) fun n_4=>.ex (fun(x:Nat×Nat)=>eqL [AV.sl (canon n.2.2.2).length 1 (natG .u32 (canon n.2.2.2)),AV.sl (canon n_2.2).length 1 (natG .u32 (canon n_2.2))] [AV.sl (canon x.1).length 1 (natG .u32 (canon x.1)),AV.sl (canon x.2).length 1 (natG .u32 (canon x.2))]∧fits x.1∧x.2≤x.1) fun n_5=>.all (fun(d:Nat)=>d=n_5.1 - n_5.2) fun n_6=>.ex (fun(x:Bool×Nat)=>eqL [AV.agg [AV.bool !Prod.fst n.2.1 == n.2.2.1,AV.sl (canon n_4).length 1 (natG .u32 (canon n_4))]] [AV.agg [AV.bool x.1,AV.sl (canon x.2).length 1 (natG .u32 (canon x.2))]]∧List.length (canon x.2)<1000000) fun n_7=>.all (fun(r:List UInt8×Int)=>r=wr n_7.1 n_7.2) fun n_8=>.ite (!decide (n_8.2=0)) (.leaf (.ret [.str #[].toList,.str #[].toList,.int .i64 n_8.2] [.box [.bool n.2.1.1,.sl (canon n.2.1.2).length 1 (natG .u32 (canon n.2.1.2))],.box [.bool n.2.2.1,.sl (canon n.2.2.2).length 1 (natG .u32 (canon n.2.2.2))],.arr 1 1 (zg 1 [.int .u32 1])])) (.ex (fun(x:Bool×Nat)=>eqL [AV.agg [AV.bool false,AV.sl (canon n_6).length 1 (natG .u32 (canon n_6))]] [AV.agg [AV.bool x.1,AV.sl (canon x.2).length 1 (natG .u32 (canon x.2))]]∧List.length (canon x.2)<1000000) fun n_9=>.all (fun(r:List UInt8×Int)=>r=wr n_9.1 n_9.2) fun n_10=>.leaf (.ret [.str n_8.1,.str n_10.1,.int .i64 0] [.box [.bool n.2.1.1,.sl (canon n.2.1.2).length 1 (natG .u32 (canon n.2.1.2))],.box [.bool n.2.2.1,.sl (canon n.2.2.2).length 1 (natG .u32 (canon n.2.2.2))],.arr 1 1 (zg 1 [.int .u32 1])]))) (.ex (fun(x:Bool×Nat)=>eqL [AV.agg [AV.bool !Prod.fst n.2.1 == n.2.2.1,AV.sl (canon n_2.1).length 1 (natG .u32 (canon n_2.1))]] [AV.agg [AV.bool x.1,AV.sl (canon x.2).length 1 (natG .u32 (canon x.2))]]∧List.length (canon x.2)<1000000) fun n_3=>.all (fun(r:List UInt8×Int)=>r=wr n_3.1 n_3.2) fun n_4=>.ite (!decide (n_4.2=0)) (.leaf (.ret [.str #[].toList,.str #[].toList,.int .i64 n_4.2] [.box [.bool n.2.1.1,.sl (canon n.2.1.2).length 1 (natG .u32 (canon n.2.1.2))],.box [.bool n.2.2.1,.sl (canon n.2.2.2).length 1 (natG .u32 (canon n.2.2.2))]])) (.ex (fun(x:Bool×Nat)=>eqL [AV.agg [AV.bool false,AV.sl (canon n_2.2).length 1 (natG .u32 (canon n_2.2))]] [AV.agg [AV.bool x.1,AV.sl (canon x.2).length 1 (natG .u32 (canon x.2))]]∧List.length (canon x.2)<1000000) fun n_5=>.all (fun(r:List UInt8×Int)=>r=wr n_5.1 n_5.2) fun n_6=>.leaf (.ret [.str n_4.1,.str n_6.1,.int .i64 0] [.box [.bool n.2.1.1,.sl (canon n.2.1.2).length 1 (natG .u32 (canon n.2.1.2))],.box [.bool n.2.2.1,.sl (canon n.2.2.2).length 1 (natG .u32 (canon n.2.2.2))]])))))) (by kernel_rfl) ?_
 simp only [Tree.holds,zc]
 refine⟨(s,t),⟨by simp,by omega,by omega⟩,⟨_,rfl⟩,?_⟩
 rintro _ rfl
 simp only
 by_cases he:zu s t=0
 ·obtain⟨e1,e2⟩:=zm.1 he
  have c1:=qg (qX e1) (by decide)
  have c2:=qg (qX e2) (by decide)
  simp only [if_pos he]
  refine⟨fun h=>(by simp at h),fun _=> ?_⟩
  refine⟨fun h0=> ?_,fun h0=> ?_⟩
  ·have h0:numI t=0:=xj.1 (by have:=of_decide_eq_true h0; omega)
   have e:dmI s t=([],[],16):=by rw [dmI,if_neg (by rw [he]; decide),if_pos h0]
   rw [e] at hq
   exact RetR.scal hq rfl (by simp [resV])
  have h0:numI t≠0:=fun h=>of_decide_eq_false h0 (by rw [xj.2 h]; rfl)
  have e:dmI s t=((wr (negI s != negI t) (dmQ s t)).1,(wr false (dmM s t)).1,0):=by rw [dmI,if_neg (by rw [he]; decide),if_neg h0]
  rw [e] at hq
  have rq:=zcu e1 h0
  have rm:=zbn (s:=s) e2 h0
  have eL:∀ a b:Nat,eqL [AV.sl (canon a).length 1 (natG .u32 (canon a)),AV.sl (canon b).length 1 (natG .u32 (canon b))] [AV.sl (canon a).length 1 (natG .u32 (canon a)),AV.sl (canon b).length 1 (natG .u32 (canon b))]:=fun a b=>⟨⟨rfl,rfl,za _ _ _⟩,⟨rfl,rfl,za _ _ _⟩,trivial⟩
  have eV:∀ (b:Bool) (a:Nat),eqL [.agg [AV.bool b,AV.sl (canon a).length 1 (natG .u32 (canon a))]] [.agg [AV.bool b,AV.sl (canon a).length 1 (natG .u32 (canon a))]]:=fun b a=>⟨⟨rfl,⟨rfl,rfl,za _ _ _⟩,trivial⟩,trivial⟩
  have big:∀ {a:Nat},room a→(canon a).length<1000000:=fun {a} h=>by
   obtain⟨h3,h4,_⟩:=Zl (vC (neg:=false) h)
   have:=qg (qX h3) (by decide)
   rw [h4] at this; omega
  refine⟨(numI s,numI t),⟨eL _ _,c1,c2,Nat.pos_of_ne_zero h0⟩,⟨_,rfl⟩,?_⟩
  rintro _ rfl
  simp only
  rw [W8]
  have hmod:=Nat.mod_lt (numI s) (Nat.pos_of_ne_zero h0)
  refine⟨fun hc=> ?_,fun hc=> ?_⟩
  ·have hc:negI s=true∧0<numI s%numI t:=by
    cases hn:negI s with
    | false=>rw [hn] at hc; cases hc
    | true=>rw [hn] at hc; exact⟨rfl,of_decide_eq_true hc⟩
   have eQ:dmQ s t=numI s/numI t+1:=if_pos hc
   have eM:dmM s t=numI t - numI s%numI t:=if_pos hc
   rw [eQ,eM] at hq
   rw [eQ] at rq
   rw [eM] at rm
   have hone:canon 1=[1]:=by
    rw [qA (by decide)]
    exact congrArg (1 :: ·) zC
   have rdiv:=room_le (Nat.div_le_self (numI s) (numI t)) (jh e1)
   have hdl:(canon (numI s/numI t)).length<100000:=by
    have:=qg (Nat.lt_of_le_of_lt (Nat.div_le_self (numI s) (numI t)) (qX e1)) (by decide)
    exact this
   refine⟨(numI s/numI t,1),⟨⟨⟨rfl,rfl,za _ _ _⟩,⟨by rw [hone]; rfl,rfl,?_⟩,trivial⟩,hdl,by show(canon 1).length<100000; rw [hone]; decide⟩,⟨_,rfl⟩,?_⟩
   ·intro j o hj ho
    have:j=0:=by omega
    subst this
    have:o=0:=by omega
    subst this
    show AV.int .u32 1 = .int .u32 (((canon 1).getD 0 0:Nat):Int)
    rw [hone]; rfl
   rintro _ rfl
   refine⟨(numI t,numI s%numI t),⟨eL _ _,by show(canon (numI t)).length<1000000; omega,by show numI s%numI t≤numI t; omega⟩,⟨_,rfl⟩,?_⟩
   rintro _ rfl
   refine⟨(negI s != negI t,numI s/numI t+1),⟨eV _ _,big rq⟩,⟨_,rfl⟩,?_⟩
   rintro _ rfl
   have hz:=vC (neg:=(negI s != negI t)) rq
   refine⟨fun h=>by simp [hz] at h,fun _=>⟨(false,numI t - numI s%numI t),⟨eV _ _,big rm⟩,⟨_,rfl⟩,?_⟩⟩
   rintro _ rfl
   exact RetR.scal hq rfl (by simp [resV])
  ·have hc:¬ (negI s=true∧0<numI s%numI t):=by
    rintro⟨g1,g2⟩
    rw [g1,decide_eq_true g2] at hc
    cases hc
   have eQ:dmQ s t=numI s/numI t:=if_neg hc
   have eM:dmM s t=numI s%numI t:=if_neg hc
   rw [eQ,eM] at hq
   rw [eQ] at rq
   rw [eM] at rm
   refine⟨(negI s != negI t,numI s/numI t),⟨eV _ _,big rq⟩,⟨_,rfl⟩,?_⟩
   rintro _ rfl
   have hz:=vC (neg:=(negI s != negI t)) rq
   refine⟨fun h=>by simp [hz] at h,fun _=>⟨(false,numI s%numI t),⟨eV _ _,big rm⟩,⟨_,rfl⟩,?_⟩⟩
   rintro _ rfl
   exact RetR.scal hq rfl (by simp [resV])
 ·simp only [if_neg he]
  refine⟨fun _=> ?_,fun h=>(by simp [he] at h)⟩
  have e:dmI s t=([],[],zu s t):=if_pos he
  rw [e] at hq
  exact RetR.scal hq rfl (by simp [resV])
def zas:Ctr:=ctrP true (fun s:List UInt8=>[.str s]) (fun s=>s.length<2^62) (fun s r=>r=if errR s=0 then(numR s,denR s,0) else([],[],errR s)) (fun _ (r:List UInt8×List UInt8×Int)=>(.tup [.str r.1,.str r.2.1,.int .i64 r.2.2],[]))
noncomputable def GPa:Nat→Option Ctr:=fun f=>if f=35 then some (yh) else if f=61 then some (Xi) else none
theorem zgk:∀ g c,GPa g=some c→zd Tryz.prog g c:=okIf xe (okIf Vf (zq))
theorem za0:zd Tryz.prog 71 zas:=by
 refine ze (fn:=Tryz.f71) (c:=Tryz.f71.body.getD .skip) rfl rfl rfl fun s hs O w0 Q hq=> ?_
 replace hq:=hq _ rfl
 refine zb.run hmix zgk [] 400 (T:=.ex (fun(x:List UInt8)=>eqL [AV.str s] [AV.str x]∧x.length<4611686018427387904) fun n=>.all (fun(r:Int)=>r=errR n) fun n=>.ite (!decide (n=0)) (.leaf (.ret [.str #[].toList,.str #[].toList,.int .i64 n] [])) (.ex (fun(x:List UInt8)=>eqL [AV.str s] [AV.str x]∧x.length<4611686018427387904) fun n=>.all (fun(r:List UInt8×List UInt8×Bool)=>r=cutR n) fun n=>.ite (!Prod.snd n.2) (.leaf (.ret [.str n.1,.str #[(49:UInt8)].toList,.int .i64 0] [])) (.leaf (.ret [.str n.1,.str n.2.1,.int .i64 0] [])))) (by kernel_rfl) ?_
 simp only [Tree.holds,zc]
 refine⟨s,⟨by simp,hs⟩,⟨_,rfl⟩,?_⟩
 rintro _ rfl
 refine⟨fun h=> ?_,fun h=>⟨s,⟨by simp,hs⟩,⟨_,rfl⟩,?_⟩⟩
 ·have h:errR s≠0:=by simpa using h
  rw [if_neg h] at hq
  exact RetR.scal hq rfl (by simp [resV])
 ·have h:errR s=0:=by simpa using h
  rw [if_pos h] at hq
  rintro _ rfl
  refine⟨fun g=> ?_,fun g=> ?_⟩
  ·have e:denR s=[49]:=by unfold denR; rw [if_neg (by simpa using g)]
   rw [e] at hq
   exact RetR.scal hq rfl (by simp [resV,numR])
  ·have e:denR s=(cutR s).2.1:=by unfold denR; rw [if_pos (by simpa using g)]
   rw [e] at hq
   exact RetR.scal hq rfl (by simp [resV,numR])
def XW:Ctr:=ctrP true (fun p:List UInt8×List UInt8=>[.str p.1,.str p.2]) (fun p=>p.1.length<2^62∧p.2.length<2^62) (fun p r=>r=jE p.1 p.2) (fun _ r=>(.tup [.str r.1,.int .i64 r.2],[]))
noncomputable def GMk:Nat→Option Ctr:=fun f=>if f=64 then some (gcdC) else if f=93 then some (dmC) else none
theorem zhj:∀ g c,GMk g=some c→zd Tryz.prog g c:=okIf U8 (okIf YF (zq))
theorem zdu:zd Tryz.prog 76 XW:=by
 refine ze (fn:=Tryz.f76) (c:=Tryz.f76.body.getD .skip) rfl rfl rfl fun p hp O w0 Q hq=> ?_
 obtain⟨s,t⟩:=p
 obtain⟨hs,ht⟩:=hp
 replace hq:=hq _ rfl
 simp only at hs ht hq
 refine zb.run hmix zhj [] 400 (T:=.ex (fun(x:List UInt8×List UInt8)=>eqL [AV.str s,AV.str t] [AV.str x.1,AV.str x.2]∧x.1.length<4611686018427387904∧x.2.length<4611686018427387904) fun n=>.all (fun(r:List UInt8×Int)=>r=gcdR n.1 n.2) fun n=>.ite (!decide (n.2=0)) (.leaf (.ret [.str #[].toList,.int .i64 n.2] [])) (.ite (decide (t=#[(48:UInt8)].toList)) (.leaf (.ret [.str #[].toList,.int .i64 16] [])) (.side ((0:Int)≤0∧(0:Int)<t.length) (.ite (decide ((↑(UInt8.toNat (t.getD 0 (0:UInt8))):Int)=45)) (.side (1+n.1.length≤9223372036854775807) (.ex (fun(x:List UInt8×List UInt8)=>eqL [AV.str s,AV.str (#[(45:UInt8)].toList++n.1)] [AV.str x.1,AV.str x.2]∧x.1.length<4611686018427387904∧x.2.length<4611686018427387904) fun n_1=>.all (fun(r:List UInt8×List UInt8×Int)=>r=dmI n_1.1 n_1.2) fun n_2=>.ex (fun(x:List UInt8×List UInt8)=>eqL [AV.str t,AV.str (#[(45:UInt8)].toList++n.1)] [AV.str x.1,AV.str x.2]∧x.1.length<4611686018427387904∧x.2.length<4611686018427387904) fun n=>.all (fun(r:List UInt8×List UInt8×Int)=>r=dmI n.1 n.2) fun n=>.ite (decide (n.1=#[(49:UInt8)].toList)) (.leaf (.ret [.str n_2.1,.int .i64 0] [])) (.side (n_2.1.length+1≤9223372036854775807) (.side (List.length (n_2.1++#[(47:UInt8)].toList)+n.1.length≤9223372036854775807) (.leaf (.ret [.str (n_2.1++#[(47:UInt8)].toList++n.1),.int .i64 0] [])))))) (.ex (fun(x:List UInt8×List UInt8)=>eqL [AV.str s,AV.str n.1] [AV.str x.1,AV.str x.2]∧x.1.length<4611686018427387904∧x.2.length<4611686018427387904) fun n_1=>.all (fun(r:List UInt8×List UInt8×Int)=>r=dmI n_1.1 n_1.2) fun n_2=>.ex (fun(x:List UInt8×List UInt8)=>eqL [AV.str t,AV.str n.1] [AV.str x.1,AV.str x.2]∧x.1.length<4611686018427387904∧x.2.length<4611686018427387904) fun n=>.all (fun(r:List UInt8×List UInt8×Int)=>r=dmI n.1 n.2) fun n=>.ite (decide (n.1=#[(49:UInt8)].toList)) (.leaf (.ret [.str n_2.1,.int .i64 0] [])) (.side (n_2.1.length+1≤9223372036854775807) (.side (List.length (n_2.1++#[(47:UInt8)].toList)+n.1.length≤9223372036854775807) (.leaf (.ret [.str (n_2.1++#[(47:UInt8)].toList++n.1),.int .i64 0] []))))))))) (by kernel_rfl) ?_
 simp only [Tree.holds,zc,inR,lo,hi,Int.toNat_natCast]
 refine⟨(s,t),⟨by simp,by omega,by omega⟩,⟨_,rfl⟩,?_⟩
 rintro _ rfl
 by_cases he:zu s t=0
 ·obtain⟨e1,e2⟩:=zm.1 he
  have eg:gcdR s t=wr false (Nat.gcd (numI s) (numI t)):=if_pos he
  by_cases h0:numI t=0
  ·have ht0:t=[48]:=(kM e2).2 h0
   have hg0:Nat.gcd (numI s) (numI t)=numI s:=by rw [h0,Nat.gcd_zero_right]
   have hz:(gcdR s t).2=0:=by rw [eg,hg0]; exact vC (jh e1)
   have e:jE s t=([],16):=by rw [jE,if_neg (by rw [he]; decide),if_pos h0]
   rw [e] at hq
   refine⟨fun h=>(by simp [hz] at h),fun _=>⟨fun _=>RetR.scal hq rfl (by simp [resV]),fun h=>(by simp [ht0] at h)⟩⟩
  ·obtain⟨g0,gr⟩:=Vh (s:=s) e2 h0
   have hz:(gcdR s t).2=0:=by rw [eg]; exact vC gr
   have ht0:t≠[48]:=fun h=>h0 ((kM e2).1 h)
   have htn:t≠[]:=by rintro rfl; simp [VC] at e2
   have hneg:=Jc htn
   have e:jE s t=(QG (negI s != negI t) (numI s) (numI t),0):=by rw [jE,if_neg (by rw [he]; decide),if_neg h0]
   rw [e,QG] at hq
   have ds:Nat.gcd (numI s) (numI t) ∣ numI s:=Nat.gcd_dvd_left _ _
   have dt:Nat.gcd (numI s) (numI t) ∣ numI t:=Nat.gcd_dvd_right _ _
   generalize hgg:Nat.gcd (numI s) (numI t)=g at *
   have rt:=room_le (Nat.div_le_self (numI t) g) (jh e2)
   have l1:=wL false g
   have l2:=wL true g
   have fin:∀ b:Bool,b=negI t→∀ (z w:List UInt8×List UInt8×Int),z=dmI s (wr b g).1→w=dmI t (wr b g).1 →
     (decide (w.1=[49])=true→RetR XW 0 Q [.str z.1,.int .i64 0] [])∧(decide (w.1=[49])=false→z.1.length+1≤9223372036854775807∧(z.1.length+1≤9223372036854775807→(z.1++[47]).length+w.1.length≤9223372036854775807∧((z.1++[47]).length+w.1.length≤9223372036854775807→RetR XW 0 Q [.str (z.1++[47]++w.1),.int .i64 0] []))):=by
    rintro b rfl z w rfl rfl
    rw [VL e1 g0 gr ds,VL e2 g0 gr dt]
    simp only
    have:(negI t != negI t)=false:=by simp
    rw [this]
    have k1:=wL (negI s != negI t) (numI s/g)
    have k2:=wL false (numI t/g)
    refine⟨fun h=> ?_,fun h=>⟨by omega,fun _=>⟨by simp; omega,fun _=> ?_⟩⟩⟩
    ·have h1:=(KF rt).1 (of_decide_eq_true h)
     rw [if_pos h1] at hq
     exact RetR.scal hq rfl (by simp [resV])
    ·have h1:¬ numI t/g=1:=fun h1=>of_decide_eq_false h ((KF rt).2 h1)
     rw [if_neg h1] at hq
     exact RetR.scal hq rfl (by simp [resV])
   rw [eg] at hz ⊢
   refine⟨fun h=>(by simp [hz] at h),fun _=>⟨fun h=>absurd (of_decide_eq_true h) ht0,fun _=>⟨⟨by omega,by have:=List.length_pos_iff.2 htn; omega⟩,fun _=>⟨fun hb=>⟨by omega,fun _=> ?_⟩,fun hb=> ?_⟩⟩⟩⟩
   ·have hn:negI t=true:=by
     rw [hneg,decide_eq_true_eq]
     exact WS (of_decide_eq_true hb)
    rw [zcy g0 gr]
    refine⟨(s,(wr true g).1),⟨by simp,by show s.length<_; omega,by show(wr true g).1.length<_; omega⟩,⟨_,rfl⟩,?_⟩
    intro z hz
    refine⟨(t,(wr true g).1),⟨by simp,by show t.length<_; omega,by show(wr true g).1.length<_; omega⟩,⟨_,rfl⟩,?_⟩
    intro w hw
    exact fin true hn.symm z w hz hw
   ·have hn:negI t=false:=by
     rw [hneg,decide_eq_false_iff_not]
     intro h
     apply of_decide_eq_false hb
     rw [h]; rfl
    refine⟨(s,(wr false g).1),⟨by simp,by show s.length<_; omega,by show(wr false g).1.length<_; omega⟩,⟨_,rfl⟩,?_⟩
    intro z hz
    refine⟨(t,(wr false g).1),⟨by simp,by show t.length<_; omega,by show(wr false g).1.length<_; omega⟩,⟨_,rfl⟩,?_⟩
    intro w hw
    exact fin false hn.symm z w hz hw
 ·have eg:gcdR s t=([],zu s t):=if_neg he
  have e:jE s t=([],zu s t):=if_pos he
  rw [e] at hq
  rw [eg]
  exact⟨fun _=>RetR.scal hq rfl (by simp [resV]),fun h=>by simp [he] at h⟩
noncomputable def K44:List Go.Sx.Item:=[.code (Tryz.f44.body.getD .skip)]
structure Pr where
 n:List UInt8
 m:List UInt8
 d:List UInt8
 c:List UInt8
 e:Int
def Pr.box(p:Pr):Blk:=.box [.str p.n,.str p.m,.str p.d,.str p.c,.int .i64 p.e]
def Pr.err(p:Pr)(e:Int):Pr:=⟨p.n,p.m,p.d,p.c,e⟩
inductive QOp where
 | add | sub | mul
def QOp.fn:QOp→Nat
 | .add=>48
 | .sub=>999999
 | .mul=>46
def QOp.has:QOp→Prop
 | .sub=>False
 | _=>True
def QOp.op:QOp→List UInt8→List UInt8→List UInt8×Int
 | .add=>addI
 | .sub=>subI
 | .mul=>mulI
def qW(a b:List UInt8):Pr:=if errR a≠0 then⟨[],[],[],[],errR a⟩ else if errR b≠0 then⟨numR a,[],denR a,[],errR b⟩ else⟨numR a,numR b,denR a,denR b,0⟩
def zco:Ctr:=ctrT false false (fun p:List UInt8×List UInt8=>[.str p.1,.str p.2]) (fun _=>[]) (fun p=>p.1.length<2^62∧p.2.length<2^62) (fun p r=>r=qW p.1 p.2) (fun _ (r:Pr)=>(.ptr 0 0,[r.box]))
def zc4:Ctr:=ctrT false false (fun p:Pr×QOp=>[.ptr 0 0,.fn p.2.fn [] []]) (fun p=>[p.1.box]) (fun _=>True) (fun _ (_:Unit)=>True) (fun p _=>(.fn 72 [] [.ptr 1 0,.ptr 2 0],[p.1.box,.box [.ptr 0 0],.box [.fn p.2.fn [] []]]))
structure KX where
 p:Pr
 o:QOp
 x:List UInt8
 y:List UInt8
def Kt:Ctr:=ctrT false false (fun k:KX=>[.str k.x,.str k.y,.ptr 0 0,.ptr 2 0]) (fun k=>[.box [.ptr 1 0],k.p.box,.box [.fn k.o.fn [] []]]) (fun k=>k.x.length<2^62∧k.y.length<2^62∧k.o.has) (fun k r=>r=if k.p.e≠0 then([],k.p.e) else k.o.op k.x k.y)
 (fun k (r:List UInt8×Int)=>(.str r.1,[.box [.ptr 1 0],(k.p.err r.2).box,.box [.fn k.o.fn [] []]]))
def UD:Ctr:=ctrT false false (fun k:Pr×List UInt8×List UInt8=>[.ptr 0 0,.str k.2.1,.str k.2.2]) (fun k=>[k.1.box]) (fun k=>k.2.1.length<2^62∧k.2.2.length<2^62) (fun k r=>r=if k.1.e≠0 then([],k.1.e) else jE k.2.1 k.2.2)
 (fun k (r:List UInt8×Int)=>(.tup [.str r.1,.int .i64 r.2],[k.1.box]))
theorem zcs:zd Tryz.prog 45 zc4:=by
 refine jl (fn:=Tryz.f45) (c:=Tryz.f45.body.getD .skip) rfl rfl rfl (fun h=>by cases h) fun p hp O w0 σ0 Q hl0 hq=> ?_
 obtain⟨p,o⟩:=p
 replace hq:=hq () trivial
 refine zb.run hmix z7 [] 400 (T:=.leaf (.ret [.fn 72 [] [.ptr 1 0,.ptr 2 0]] [.box [.str p.n,.str p.m,.str p.d,.str p.c,.int .i64 p.e],.box [.ptr 0 0],.box [.fn (QOp.fn o) [] []]])) (by kernel_rfl) ?_
 simp only [Tree.holds,zc]
 refine RetR.keep [0,1,2] rfl rfl (by show ∀ j,j<1→_; decide) rfl hq ?_ ?_ rfl
 ·rfl
 ·exact⟨⟨rfl,rfl,rfl,rfl,⟨rfl,rfl⟩,trivial⟩,⟨⟨rfl,rfl⟩,trivial⟩,⟨rfl,trivial⟩,trivial⟩
noncomputable def GK1:Nat→Option Ctr:=fun f=>if f=48 then some (addC) else if f=46 then some (mulC) else none
theorem zbp:∀ g c,GK1 g=some c→zd Tryz.prog g c:=okIf zgt (okIf zhh (zq))
theorem zb1:zd Tryz.prog 72 Kt:=by
 refine jl (fn:=Tryz.f72) (c:=Tryz.f72.body.getD .skip) rfl rfl rfl (fun h=>by cases h) fun k hk O w0 σ0 Q hl0 hq=> ?_
 obtain⟨⟨n,m,d,c,e⟩,o,x,y⟩:=k
 obtain⟨h1,h2,h3⟩:=hk
 replace hq:=hq _ rfl
 simp only at h1 h2 h3 hq
 have fin:∀ r:List UInt8×Int,(if e≠0 then([],e) else o.op x y)=r→RetR Kt 3 Q [.str r.1] [.box [.ptr 1 0],.box [.str n,.str m,.str d,.str c,.int .i64 r.2],.box [.fn o.fn [] []]]:=by
  rintro r rfl
  refine RetR.keep [0,1,2] rfl rfl (by show ∀ j,j<3→_; decide) rfl hq ?_ ?_ rfl
  ·rfl
  ·exact⟨⟨⟨rfl,rfl⟩,trivial⟩,⟨rfl,rfl,rfl,rfl,⟨rfl,rfl⟩,trivial⟩,⟨rfl,trivial⟩,trivial⟩
 cases o with
 | add=>
  refine zb.run hmix zbp [] 400 (T:=.ite (!decide (e=0)) (.leaf (.ret [.str #[].toList] [.box [.ptr 1 0],.box [.str n,.str m,.str d,.str c,.int .i64 e],.box [.fn 48 [] []]])) (.ex (fun(x_1:List UInt8×List UInt8)=>eqL [AV.str x,AV.str y] [AV.str x_1.1,AV.str x_1.2]∧x_1.1.length<4611686018427387904∧x_1.2.length<4611686018427387904) fun n_1=>.all (fun(r:List UInt8×Int)=>r=addI n_1.1 n_1.2) fun n_2=>.leaf (.ret [.str n_2.1] [.box [.ptr 1 0],.box [.str n,.str m,.str d,.str c,.int .i64 n_2.2],.box [.fn 48 [] []]]))) (by kernel_rfl) ?_
  simp only [Tree.holds,zc]
  refine⟨fun h=> ?_,fun h=>⟨(x,y),⟨by simp,h1,h2⟩,⟨_,rfl⟩,?_⟩⟩
  ·have h:e≠0:=by simpa using h
   exact fin ([],e) (if_pos h)
  ·have h:e=0:=by simpa using h
   rintro _ rfl
   exact fin (addI x y) (if_neg (by simp [h]))
 | sub=>exact h3.elim
 | mul=>
  refine zb.run hmix zbp [] 400 (T:=.ite (!decide (e=0)) (.leaf (.ret [.str #[].toList] [.box [.ptr 1 0],.box [.str n,.str m,.str d,.str c,.int .i64 e],.box [.fn 46 [] []]])) (.ex (fun(x_1:List UInt8×List UInt8)=>eqL [AV.str x,AV.str y] [AV.str x_1.1,AV.str x_1.2]∧x_1.1.length<4611686018427387904∧x_1.2.length<4611686018427387904) fun n_1=>.all (fun(r:List UInt8×Int)=>r=mulI n_1.1 n_1.2) fun n_2=>.leaf (.ret [.str n_2.1] [.box [.ptr 1 0],.box [.str n,.str m,.str d,.str c,.int .i64 n_2.2],.box [.fn 46 [] []]]))) (by kernel_rfl) ?_
  simp only [Tree.holds,zc]
  refine⟨fun h=> ?_,fun h=>⟨(x,y),⟨by simp,h1,h2⟩,⟨_,rfl⟩,?_⟩⟩
  ·have h:e≠0:=by simpa using h
   exact fin ([],e) (if_pos h)
  ·have h:e=0:=by simpa using h
   rintro _ rfl
   exact fin (mulI x y) (if_neg (by simp [h]))
noncomputable def GMd:Nat→Option Ctr:=fun f=>if f=76 then some (XW) else none
theorem zhv:∀ g c,GMd g=some c→zd Tryz.prog g c:=okIf zdu (zq)
theorem zef:zd Tryz.prog 47 UD:=by
 refine jl (fn:=Tryz.f47) (c:=Tryz.f47.body.getD .skip) rfl rfl rfl (fun h=>by cases h) fun k hk O w0 σ0 Q hl0 hq=> ?_
 obtain⟨⟨n,m,d,c,e⟩,x,y⟩:=k
 obtain⟨h1,h2⟩:=hk
 replace hq:=hq _ rfl
 simp only at h1 h2 hq
 have fin:∀ r:List UInt8×Int,(if e≠0 then([],e) else jE x y)=r→RetR UD 1 Q [.str r.1,.int .i64 r.2] [.box [.str n,.str m,.str d,.str c,.int .i64 e]]:=by
  rintro r rfl
  refine RetR.keep [0] rfl rfl (by show ∀ j,j<1→_; decide) rfl hq ?_ ?_ rfl
  ·exact⟨rfl,⟨rfl,rfl⟩,trivial⟩
  ·exact⟨⟨rfl,rfl,rfl,rfl,⟨rfl,rfl⟩,trivial⟩,trivial⟩
 refine zb.run hmix zhv [] 400 (T:=.ite (!decide (e=0)) (.leaf (.ret [.str #[].toList,.int .i64 e] [.box [.str n,.str m,.str d,.str c,.int .i64 e]])) (.ex (fun(x_1:List UInt8×List UInt8)=>eqL [AV.str x,AV.str y] [AV.str x_1.1,AV.str x_1.2]∧x_1.1.length<4611686018427387904∧x_1.2.length<4611686018427387904) fun n_1=>.all (fun(r:List UInt8×Int)=>r=jE n_1.1 n_1.2) fun n_2=>.leaf (.ret [.str n_2.1,.int .i64 n_2.2] [.box [.str n,.str m,.str d,.str c,.int .i64 e]]))) (by kernel_rfl) ?_
 simp only [Tree.holds,zc]
 refine⟨fun h=> ?_,fun h=>⟨(x,y),⟨by simp,h1,h2⟩,⟨_,rfl⟩,?_⟩⟩
 ·have h:e≠0:=by simpa using h
  exact fin ([],e) (if_pos h)
 ·have h:e=0:=by simpa using h
  rintro _ rfl
  exact fin (jE x y) (if_neg (by simp [h]))
def Pst(a b:List UInt8):Nat→Pr
 | 0=>⟨[],[],[],[],0⟩
 | 1=>if errR a≠0 then⟨[],[],[],[],errR a⟩ else⟨numR a,[],denR a,[],0⟩
 | _=>qW a b
def SBq(a b:List UInt8)(i:Nat):KV:=[(5,.ptr 0 0),(12,.agg [.str a,.str b]),(13,.int .i64 (i:Int))]
noncomputable def GBq:Nat→Option Ctr:=fun f=>if f=71 then some (zas) else none
theorem JD:∀ g c,GBq g=some c→zd Tryz.prog g c:=okIf za0 (zq)
theorem zae:zd Tryz.prog 44 zco:=by
 refine jl (fn:=Tryz.f44) (c:=Tryz.f44.body.getD .skip) rfl rfl rfl (fun h=>by cases h) fun p hp O w0 σ0 Q hl0 hq=> ?_
 obtain rfl:σ0=[]:=List.length_eq_zero_iff.1 hl0
 obtain⟨a,b⟩:=p
 obtain⟨h1,h2⟩:=hp
 replace hq:=hq _ rfl
 simp only at h1 h2 hq
 refine zb.run hmix JD [5,12,13] 400 (T:=.leaf (.loop (Prod.fst (lps K44 0)) (Prod.snd (lps K44 0)) [(5,.ptr 0 0),(12,.agg [.str a,.str b]),(13,.int .i64 0)] [.box [.str #[].toList,.str #[].toList,.str #[].toList,.str #[].toList,.int .i64 0]])) (by kernel_rfl) ?_
 simp only [Tree.holds,zc]
 refine zb.loop (ι:={i:Nat // i≤2}) (fun i=>SBq a b i.1) (fun i=>[(Pst a b i.1).box]) (fun i=>2 - i.1) ⟨0,Nat.zero_le _⟩ 0 ?_ ?_ (by kernel_rfl)
 ·exact⟨by simp [SBq],by simp [Pst,Pr.box],by kernel_rfl,Nat.zero_le _⟩
 rintro⟨i,hil⟩
 match i,hil with
 | 0,_=>
  refine zb.run hmix JD [5,12,13] 400 (T:=.ite true (.side ((0:Int)≤0∧(0:Int)<2∧1≤List.length [AV.str a,AV.str b]) (.ite true (.ex (fun(x:List UInt8)=>eqL [AV.str a] [AV.str x]∧x.length<4611686018427387904) fun n=>.all (fun(r:List UInt8×List UInt8×Int)=>r=if errR n=0 then(numR n,denR n,(0:Int)) else([],[],errR n)) fun n=>.side ((0:Int)≤0∧(0:Int)<2) (.side ((0:Int)≤0∧(0:Int)<2) (.side (inR .i64 (1:Int)) (.leaf (.back 0 [(5,.ptr 0 0),(12,.agg [.str a,.str b]),(13,.int .i64 1)] [.box [.str n.1,.str [],.str n.2.1,.str [],.int .i64 n.2.2]]))))) (.side (inR .i64 (1:Int)) (.leaf (.back 0 [(5,.ptr 0 0),(12,.agg [.str a,.str b]),(13,.int .i64 1)] [.box [.str [],.str [],.str [],.str [],.int .i64 0]]))))) (.leaf (.ret [.ptr 0 0] [.box [.str [],.str [],.str [],.str [],.int .i64 0]]))) (by kernel_rfl) ?_
  simp only [Tree.holds,zc,inR,lo,hi,Int.toNat_natCast]
  refine⟨fun _=>⟨by simp,fun _=>⟨fun _=>⟨a,⟨by simp,h1⟩,⟨_,rfl⟩,?_⟩,fun h=>(by cases h)⟩⟩,fun h=>(by cases h)⟩
  intro r hr
  refine⟨by decide,fun _=>⟨by decide,fun _=>⟨by decide,fun _=> ?_⟩⟩⟩
  rw [if_pos trivial]
  refine⟨⟨1,by decide⟩,by decide,by simp [SBq],?_,by kernel_rfl,Nat.zero_le _⟩
  have e:Pst a b 1=⟨r.1,[],r.2.1,[],r.2.2⟩:=by
   rw [hr]
   by_cases h:errR a=0
   ·simp [Pst,h]
   ·simp [Pst,h]
  show eqH _ [(Pst a b 1).box]
  rw [e]
  simp [Pr.box]
 | 1,_=>
  obtain⟨⟨n,m,d,c,e⟩,hp⟩:∃ p,Pst a b 1=p:=⟨_,rfl⟩
  simp only [hp]
  refine zb.run hmix JD [5,12,13] 400 (T:=.ite true (.side ((0:Int)≤1∧(1:Int)<2∧2≤List.length [AV.str a,AV.str b]) (.ite (decide (e=0)) (.ex (fun(x:List UInt8)=>eqL [AV.str b] [AV.str x]∧x.length<4611686018427387904) fun n_1=>.all (fun(r:List UInt8×List UInt8×Int)=>r=if errR n_1=0 then(numR n_1,denR n_1,(0:Int)) else([],[],errR n_1)) fun n_2=>.side ((0:Int)≤1∧(1:Int)<2) (.side ((0:Int)≤1∧(1:Int)<2) (.side (inR .i64 (2:Int)) (.leaf (.back 0 [(5,.ptr 0 0),(12,.agg [.str a,.str b]),(13,.int .i64 2)] [.box [.str n,.str n_2.1,.str d,.str n_2.2.1,.int .i64 n_2.2.2]]))))) (.side (inR .i64 (2:Int)) (.leaf (.back 0 [(5,.ptr 0 0),(12,.agg [.str a,.str b]),(13,.int .i64 2)] [.box [.str n,.str m,.str d,.str c,.int .i64 e]]))))) (.leaf (.ret [.ptr 0 0] [.box [.str n,.str m,.str d,.str c,.int .i64 e]]))) (by kernel_rfl) ?_
  simp only [Tree.holds,zc,inR,lo,hi,Int.toNat_natCast]
  refine⟨fun _=>⟨by simp,fun _=>⟨fun h=>⟨b,⟨by simp,h2⟩,⟨_,rfl⟩,?_⟩,fun h=>⟨by decide,fun _=> ?_⟩⟩⟩,fun h=>(by cases h)⟩
  ·have h:e=0:=by simpa using h
   intro r hr
   refine⟨by decide,fun _=>⟨by decide,fun _=>⟨by decide,fun _=> ?_⟩⟩⟩
   rw [if_pos trivial]
   refine⟨⟨2,by decide⟩,by decide,by simp [SBq],?_,by kernel_rfl,Nat.zero_le _⟩
   have e2:Pst a b 2=⟨n,r.1,d,r.2.1,r.2.2⟩:=by
    rw [hr]
    by_cases ha:errR a=0
    ·simp only [Pst,ha] at hp
     simp at hp
     obtain⟨rfl,rfl,rfl,rfl,_⟩:=hp
     by_cases hb:errR b=0
     ·simp [Pst,qW,ha,hb]
     ·simp [Pst,qW,ha,hb]
    ·simp only [Pst] at hp
     rw [if_pos ha] at hp
     cases hp
     exact absurd h ha
   show eqH _ [(Pst a b 2).box]
   rw [e2]
   simp [Pr.box]
  ·have h:e≠0:=by simpa using h
   rw [if_pos trivial]
   refine⟨⟨2,by decide⟩,by decide,by simp [SBq],?_,by kernel_rfl,Nat.zero_le _⟩
   have e2:Pst a b 2=⟨n,m,d,c,e⟩:=by
    by_cases ha:errR a=0
    ·simp only [Pst,ha] at hp
     simp at hp
     exact absurd hp.2.2.2.2.symm h
    ·rw [← hp]
     simp only [Pst,qW]
     rw [if_pos ha,if_pos ha]
   show eqH _ [(Pst a b 2).box]
   rw [e2]
   simp [Pr.box]
 | 2,_=>
  obtain⟨⟨n,m,d,c,e⟩,hp⟩:∃ p,Pst a b 2=p:=⟨_,rfl⟩
  simp only [hp]
  refine zb.run hmix JD [5,12,13] 400 (T:=.ite false (.side ((0:Int)≤2∧(2:Int)<2∧3≤List.length [AV.str a,AV.str b]) .fail) (.leaf (.ret [.ptr 0 0] [.box [.str n,.str m,.str d,.str c,.int .i64 e]]))) (by kernel_rfl) ?_
  simp only [Tree.holds,zc,inR,lo,hi,Int.toNat_natCast]
  refine⟨fun h=>(by cases h),fun _=> ?_⟩
  have hp:qW a b=⟨n,m,d,c,e⟩:=hp
  rw [hp] at hq
  refine RetR.out1 0 (by show 0<1; decide) hq (fun h=>by cases h) ?_ ?_
  ·exact⟨rfl,rfl⟩
  ·exact⟨rfl,rfl,rfl,rfl,⟨rfl,rfl⟩,trivial⟩
end Go.Proofs.Tryz
end
