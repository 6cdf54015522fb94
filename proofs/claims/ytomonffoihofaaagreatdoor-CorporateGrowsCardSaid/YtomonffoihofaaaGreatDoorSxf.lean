/- Part 6 of the proof. -/
import Derived.Test.YtomonffoihofaaaGreatDoorSxe
import Derived.Lib.Strings
import Derived.Lib.Slices
import Derived.Lib.Walk
import Derived.Lib.Bytealg
import Derived.Test.YtomonffoihofaaaGreatDoorProg
set_option linter.unusedVariables false
set_option linter.unusedSimpArgs false
set_option linter.unusedSectionVars false
section
set_option maxRecDepth 100000
open Go Go.Sx Go.Proofs Go.Nov
namespace Go.Proofs.Tryz
attribute [local simp] eqKV eqA eqA0 eqH eqB eqL eqL0
noncomputable def K63:List Go.Sx.Item:=[.code (Tryz.f63.body.getD .skip)]
noncomputable def K64:List Go.Sx.Item:=[.code (Tryz.f64.body.getD .skip)]
theorem Zv(c:UInt8):(if decide ((c.toNat:Int)<48)=true then true else decide (57<(c.toNat:Int))) = !isD c:=by
 simp only [isD]
 by_cases h:c.toNat<48
 ·rw [if_pos (by simp; omega)]; simp; omega
 ·rw [if_neg (by simp; omega)]
  by_cases h2:c.toNat≤57
  ·have:decide (57<(c.toNat:Int))=false:=by simp; omega
   rw [this]; simp; omega
  ·have:decide (57<(c.toNat:Int))=true:=by simp; omega
   rw [this]; simp; omega
def ZU:Ctr:=ctrP true (fun s:List UInt8=>[.str s]) (fun s=>s.length<2^62) (fun s r=>r=errI s) (fun _ r=>(.int .i64 r,[]))
def SCk(b:List UInt8)(i:Nat):KV:=[(3,.str b),(31,.int .i64 (b.length:Int)),(32,.int .i64 (i:Int)),(40,.undef),(41,.undef),(42,.undef),(43,.undef)]
theorem Qc{O:Nat→Prop}{w0:World}{Q:AV×Heap→Prop}{neg:Bool}(b:List UInt8)(hb:b.length<2^62)(hf:b.all isD=true→jF neg b=true)
  (hq:Q (.int .i64 (if jF neg b then(if 1000<b.length then 14 else 0) else 12),[])) :
  zb Tryz.prog Tryz.f63 O 0 w0 [] (fun _ _ _=>False) (RetR ZU 0 Q) (.code (.loop (lps K63 0).1)::(lps K63 0).2) (mk Tryz.f63.ntmps (SCk b 0) []):=by
 refine zb.loop (ι:={i:Nat // i≤b.length∧∀ j,j<i→isD (b.getD j 0)=true}) (fun i=>SCk b i.1) (fun _=>[]) (fun i=>b.length - i.1) ⟨0,Nat.zero_le _,fun j hj=>by omega⟩ 0 ?_ ?_ (by kernel_rfl)
 ·exact⟨by simp [SCk],by simp,by kernel_rfl,Nat.zero_le _⟩
 ·rintro⟨i,hil,hid⟩
  refine zb.run hmix zB [3,31,32,40,41,42,43] 400 (T:=.ite (decide ((↑i:Int)<b.length)) (.side ((0:Int)≤i∧(↑i:Int)<b.length) (.side (decide ((↑(UInt8.toNat (b.getD (↑i:Int).toNat (0:UInt8))):Int)<48)=false→(0:Int)≤i∧(↑i:Int)<b.length) (.ite (bif decide ((↑(UInt8.toNat (b.getD (↑i:Int).toNat (0:UInt8))):Int)<48) then true else decide ((57:Int)<(↑(UInt8.toNat (b.getD (↑i:Int).toNat (0:UInt8))):Int))) (.leaf (.ret [.int .i64 12] [])) (.side (inR .i64 ((↑i:Int)+(1:Int))) (.leaf (.back 0 [(3,.str b),(31,.int .i64 b.length),(32,.int .i64 ((↑i:Int)+(1:Int))),(40,.undef),(41,.undef),(42,.undef),(43,.undef)] [])))))) (.ite (decide ((1000:Int)<b.length)) (.leaf (.ret [.int .i64 14] [])) (.leaf (.ret [.int .i64 0] [])))) (by kernel_rfl) ?_
  simp only [Tree.holds,zd,inR,lo,hi,Int.toNat_natCast,Bool.cond_eq_ite]
  refine⟨fun hlt=> ?_,fun hge=>⟨fun hbig=> ?_,fun hsm=> ?_⟩⟩
  ·have hlt:i<b.length:=by simp at hlt; omega
   refine⟨by omega,fun _=>⟨fun _=>by omega,fun _=>⟨fun hbad=> ?_,fun hgood=>⟨by omega,fun _=> ?_⟩⟩⟩⟩
   ·have hnd:isD (b.getD i 0)=false:=by
     rw [Zv] at hbad
     simpa using hbad
    have hnf:jF neg b=false:=by
     have:b.all isD=false:=by
      rw [List.all_eq_false]
      refine⟨b.getD i 0,by simp [List.getD,hlt],by simpa using hnd⟩
     simp [jF,this]
    rw [hnf] at hq
    exact RetR.scal hq rfl (by simp [resV])
   ·have hd:isD (b.getD i 0)=true:=by
     rw [Zv] at hgood
     simpa using hgood
    rw [if_pos trivial]
    refine⟨⟨i+1,hlt,fun j hj=> ?_⟩,by show b.length - (i+1)<b.length - i; omega,by simp [SCk],by simp,by kernel_rfl,Nat.zero_le _⟩
    rcases Nat.lt_or_ge j i with h | h
    ·exact hid j h
    ·have:j=i:=by omega
     subst this; exact hd
  all_goals
   have hge:i=b.length:=by simp at hge; omega
   have hall:b.all isD=true:=by
    rw [List.all_eq_true]
    intro c hc
    obtain⟨j,hj,rfl⟩:=List.getElem_of_mem hc
    have:=hid j (by omega)
    simpa [List.getD,hj] using this
   rw [hf hall] at hq
  ·rw [if_pos rfl,if_pos (by simp at hbig; omega)] at hq
   exact RetR.scal hq rfl (by simp [resV])
  ·rw [if_pos rfl,if_neg (by simp at hsm; omega)] at hq
   exact RetR.scal hq rfl (by simp [resV])
theorem Z4:zc Tryz.prog 63 ZU:=by
 refine ze (fn:=Tryz.f63) (c:=Tryz.f63.body.getD .skip) rfl rfl rfl fun s hs O w0 Q hq=> ?_
 replace hq:=hq _ rfl
 refine zb.run hmix zB [3,31,32,40,41,42,43] 400 (T:=.side (decide ((0:Int)<s.length)=true→(0:Int)≤0∧(0:Int)<s.length) (.ite (bif decide ((0:Int)<s.length) then decide ((↑(UInt8.toNat (s.getD 0 (0:UInt8))):Int)=45) else false) (.side ((0:Int)≤1∧(1:Int)≤s.length) (.ite (decide (List.drop 1 (List.take s.length s)=#[(48:UInt8)].toList)) (.leaf (.ret [.int .i64 12] [])) (.side (decide (List.drop 1 (List.take s.length s)=#[].toList)=false→(0:Int)≤0∧(0:Int)<(↑(List.length (List.drop 1 (List.take s.length s))):Int)) (.ite (bif decide (List.drop 1 (List.take s.length s)=#[].toList) then true else bif decide ((↑(UInt8.toNat (List.getD (List.drop 1 (List.take s.length s)) 0 (0:UInt8))):Int)=48) then decide ((1:Int)<(↑(List.length (List.drop 1 (List.take s.length s))):Int)) else false) (.leaf (.ret [.int .i64 12] [])) (.leaf (.loop (Prod.fst (lps K63 0)) (Prod.snd (lps K63 0)) [(3,.str (List.drop 1 (List.take s.length s))),(31,.int .i64 (↑(List.length (List.drop 1 (List.take s.length s))):Int)),(32,.int .i64 0),(40,.undef),(41,.undef),(42,.undef),(43,.undef)] [])))))) (.side (decide (s=#[].toList)=false→(0:Int)≤0∧(0:Int)<s.length) (.ite (bif decide (s=#[].toList) then true else bif decide ((↑(UInt8.toNat (s.getD 0 (0:UInt8))):Int)=48) then decide ((1:Int)<s.length) else false) (.leaf (.ret [.int .i64 12] [])) (.leaf (.loop (Prod.fst (lps K63 0)) (Prod.snd (lps K63 0)) [(3,.str s),(31,.int .i64 s.length),(32,.int .i64 0),(40,.undef),(41,.undef),(42,.undef),(43,.undef)] [])))))) (by kernel_rfl) ?_
 simp only [Tree.holds,zd,inR,lo,hi,Bool.cond_eq_ite]
 cases s with
 | nil=>
  simp only [errI,parse,jF] at hq
  refine⟨by simp,fun _=>⟨fun h=>by simp at h,fun _=>⟨by simp,fun _=>⟨fun _=> ?_,fun h=>by simp at h⟩⟩⟩⟩
  exact RetR.scal hq rfl (by simp [resV])
 | cons c b=>
  refine⟨by simp,fun _=>⟨fun h=> ?_,fun h=> ?_⟩⟩
  ·have hc:c=45:=by
    simp at h
    have:c.toNat=45:=by omega
    exact UInt8.toNat_inj.1 this
   subst hc
   have hp:parse (45::b)=(true,b):=rfl
   have hd:List.drop 1 (List.take (45::b).length (45::b))=b:=by simp
   rw [hd]
   simp only [errI,hp] at hq
   refine⟨by simp; omega,fun _=>⟨fun h0=> ?_,fun h0=>⟨fun hne=> ?_,fun _=>⟨fun hbad=> ?_,fun hgood=> ?_⟩⟩⟩⟩
   ·have hb:b=[48]:=by simpa using h0
    subst hb
    exact RetR.scal hq rfl rfl
   ·have:b≠[]:=by simpa using hne
    have:=List.length_pos_iff.2 this
    omega
   ·have hnf:jF true b=false:=by
     by_cases hb:b=[]
     ·subst hb; rfl
     ·rw [if_neg (by simpa using hb)] at hbad
      split at hbad
      ·rename_i h48
       have:b.getD 0 0=48:=WH (of_decide_eq_true h48)
       have hl:1<b.length:=by simp at hbad; omega
       exact vR this hl
      ·cases hbad
    rw [hnf] at hq
    exact RetR.scal hq rfl (by simp [resV])
   ·have hf:b.all isD=true→jF true b=true:=by
     intro hall
     have hb:b≠[]:=by
      intro hb; subst hb; simp at hgood
     have hb2:b≠[48]:=by simpa using h0
     rw [if_neg (by simpa using hb)] at hgood
     have h3:¬ (b.getD 0 0=48∧1<b.length):=by
      rintro⟨g1,g2⟩
      rw [g1] at hgood
      rw [if_pos (by decide)] at hgood
      simp at hgood; omega
     simp only [jF,hall,hb,hb2,Bool.and_true]
     simp only [decide_false,Bool.not_false,Bool.and_false,Bool.true_and,Bool.not_eq_true',Bool.and_eq_false_iff,decide_eq_false_iff_not]
     by_cases g1:b.getD 0 0=48
     ·exact .inr fun g2=>h3 ⟨g1,g2⟩
     ·exact .inl g1
    exact Qc b (by simp at hs; omega) hf hq
  ·have hc:c≠45:=by
    rintro rfl
    simp at h
   have hp:parse (c::b)=(false,c::b):=by simp [parse,hc]
   simp only [errI,hp] at hq
   obtain⟨s,hs'⟩:∃ s,c::b=s:=⟨_,rfl⟩
   have hne:s≠[]:=by rw [← hs']; simp
   rw [hs'] at hq hs ⊢
   refine⟨fun _=>⟨by omega,by have:=List.length_pos_iff.2 hne; omega⟩,fun _=>⟨fun hbad=> ?_,fun hgood=> ?_⟩⟩
   ·have hnf:jF false s=false:=by
     rw [if_neg (by simpa using hne)] at hbad
     split at hbad
     ·rename_i h48
      have:s.getD 0 0=48:=WH (of_decide_eq_true h48)
      have hl:1<s.length:=by simp at hbad; omega
      exact vR this hl
     ·cases hbad
    rw [hnf] at hq
    exact RetR.scal hq rfl (by simp [resV])
   ·have hf:s.all isD=true→jF false s=true:=by
     intro hall
     rw [if_neg (by simpa using hne)] at hgood
     have h3:¬ (s.getD 0 0=48∧1<s.length):=by
      rintro⟨g1,g2⟩
      rw [g1] at hgood
      rw [if_pos (by decide)] at hgood
      simp at hgood; omega
     simp only [jF,hall,hne,Bool.and_true]
     simp only [decide_false,Bool.not_false,Bool.false_and,Bool.true_and,Bool.not_eq_true',Bool.and_eq_false_iff,decide_eq_false_iff_not]
     by_cases g1:s.getD 0 0=48
     ·exact .inr fun g2=>h3 ⟨g1,g2⟩
     ·exact .inl g1
    exact Qc s hs hf hq
def numV(neg:Bool)(x:Nat):AV:=.agg [.bool neg,magS x]
def uk:Ctr:=ctrP false (fun p:List UInt8×List UInt8=>[.str p.1,.str p.2]) (fun p=>p.1.length<2^62∧p.2.length<2^62) (fun p (r:Int×(Bool×Nat)×(Bool×Nat))=>r=if zx p.1 p.2=0 then(0,(negI p.1,numI p.1),(negI p.2,numI p.2)) else(zx p.1 p.2,(false,0),(false,0)))
 (fun _ r=>(.tup [numV r.2.1.1 r.2.1.2,numV r.2.2.1 r.2.2.2,.int .i64 r.1],[]))
noncomputable def G5:Nat→Option Ctr:=fun f=>if f=63 then some (ZU) else if f=90 then some (za6) else none
theorem zi6:∀ g c,G5 g=some c→zc Tryz.prog g c:=okIf Z4 (okIf zei (zt))
theorem zg4:canon 0=[]:=by simp [canon]
theorem JN:zc Tryz.prog 73 uk:=by
 refine ze (fn:=Tryz.f73) (c:=Tryz.f73.body.getD .skip) rfl rfl rfl fun p hp O w0 Q hq=> ?_
 obtain⟨s,t⟩:=p
 obtain⟨hs,ht⟩:=hp
 replace hq:=hq _ rfl
 simp only at hs ht hq
 refine zb.run hmix zi6 [] 400 (T:=.ex (fun(x:List UInt8)=>eqL [AV.str s] [AV.str x]∧x.length<4611686018427387904) fun n=>.all (fun(r:Int)=>r=errI n) fun n=>.ite (decide (n=0)) (.ex (fun(x:List UInt8)=>eqL [AV.str t] [AV.str x]∧x.length<4611686018427387904) fun n=>.all (fun(r:Int)=>r=errI n) fun n=>.ite (!decide (n=0)) (.leaf (.ret [.agg [.bool false,.nils],.agg [.bool false,.nils],.int .i64 n] [.box [.bool false,.nils],.box [.bool false,.nils]])) (.ex (fun(x:Bool×List UInt8)=>eqL [AV.str s] [AV.str (sgn x.1 x.2)]∧allD x.2∧x.2≠[]∧x.2.length≤1000000) fun n=>.all (fun(r:Nat)=>r=numD n.2) fun n_1=>.ex (fun(x:Bool×List UInt8)=>eqL [AV.str t] [AV.str (sgn x.1 x.2)]∧allD x.2∧x.2≠[]∧x.2.length≤1000000) fun n_2=>.all (fun(r:Nat)=>r=numD n_2.2) fun n_3=>.leaf (.ret [.agg [.bool n.1,.sl (canon n_1).length 1 (natG .u32 (canon n_1))],.agg [.bool n_2.1,.sl (canon n_3).length 1 (natG .u32 (canon n_3))],.int .i64 0] [.box [.bool n.1,.sl (canon n_1).length 1 (natG .u32 (canon n_1))],.box [.bool n_2.1,.sl (canon n_3).length 1 (natG .u32 (canon n_3))]]))) (.ite (!decide (n=0)) (.leaf (.ret [.agg [.bool false,.nils],.agg [.bool false,.nils],.int .i64 n] [.box [.bool false,.nils],.box [.bool false,.nils]])) (.ex (fun(x:Bool×List UInt8)=>eqL [AV.str s] [AV.str (sgn x.1 x.2)]∧allD x.2∧x.2≠[]∧x.2.length≤1000000) fun n=>.all (fun(r:Nat)=>r=numD n.2) fun n_1=>.ex (fun(x:Bool×List UInt8)=>eqL [AV.str t] [AV.str (sgn x.1 x.2)]∧allD x.2∧x.2≠[]∧x.2.length≤1000000) fun n_2=>.all (fun(r:Nat)=>r=numD n_2.2) fun n_3=>.leaf (.ret [.agg [.bool n.1,.sl (canon n_1).length 1 (natG .u32 (canon n_1))],.agg [.bool n_2.1,.sl (canon n_3).length 1 (natG .u32 (canon n_3))],.int .i64 0] [.box [.bool n.1,.sl (canon n_1).length 1 (natG .u32 (canon n_1))],.box [.bool n_2.1,.sl (canon n_3).length 1 (natG .u32 (canon n_3))]])))) (by kernel_rfl) ?_
 have bad:∀ h,zx s t≠0→RetR uk 0 Q [.agg [.bool false,.nils],.agg [.bool false,.nils],.int .i64 (zx s t)] h:=by
  intro h he
  rw [if_neg he] at hq
  refine RetR.out0 hq (fun h=>by simp [uk,ctrP] at h) ?_
  simp [resV,exp2,exp1,exp0,ren0,eqA2,eqL1,eqA,eqL0,eqA0,numV,magS,natS,zg4]
 have good:∀ h,zx s t=0→RetR uk 0 Q [.agg [.bool (negI s),magS (numI s)],.agg [.bool (negI t),magS (numI t)],.int .i64 0] h:=by
  intro h he
  rw [if_pos he] at hq
  refine RetR.out0 hq (fun h=>by simp [uk,ctrP] at h) ?_
  simp [resV,exp2,exp1,exp0,ren0,eqA2,eqL1,eqA,eqL0,eqA0,numV,magS,natS,za]
 have rd:∀ u,errI u=0→eqL [AV.str u] [AV.str (sgn (negI u) (parse u).2)]∧allD (parse u).2∧(parse u).2≠[]∧(parse u).2.length≤1000000:=by
  intro u hu
  obtain⟨h1,h2,h3,h4⟩:=Z0 hu
  exact⟨by simpa using h1,h2,h3,by omega⟩
 simp only [Tree.holds,zd]
 refine⟨s,⟨by simp,by omega⟩,?_⟩
 refine⟨⟨_,rfl⟩,?_⟩
 rintro _ rfl
 refine⟨fun h1=> ?_,fun h1=> ?_⟩
 ·have h1:errI s=0:=by simpa using h1
  refine⟨t,⟨by simp,by omega⟩,?_⟩
  refine⟨⟨_,rfl⟩,?_⟩
  rintro _ rfl
  refine⟨fun h2=> ?_,fun h2=> ?_⟩
  ·have h2:errI t≠0:=by simpa using h2
   have e:zx s t=errI t:=by simp [zx,h1]
   rw [← e]
   exact bad _ (by rw [e]; exact h2)
  ·have h2:errI t=0:=by simpa using h2
   refine⟨(negI s,(parse s).2),rd s h1,?_⟩
   refine⟨⟨_,rfl⟩,?_⟩
   rintro _ rfl
   refine⟨(negI t,(parse t).2),rd t h2,?_⟩
   refine⟨⟨_,rfl⟩,?_⟩
   rintro _ rfl
   exact good _ (zn.2 ⟨h1,h2⟩)
 ·have h1:errI s≠0:=by simpa using h1
  have e:zx s t=errI s:=by simp [zx,h1]
  refine⟨fun h2=> ?_,fun h2=>absurd (by simpa using h2) h1⟩
  rw [← e]
  exact bad _ (by rw [e]; exact h1)
noncomputable def G6:Nat→Option Ctr:=fun f=>if f=73 then some (uk) else if f=87 then some (xI) else if f=74 then some (uN) else none
theorem zfs:∀ g c,G6 g=some c→zc Tryz.prog g c:=okIf JN (okIf Jl (okIf Z1 (zt)))
def gcdC:Ctr:=ctrP true (fun p:List UInt8×List UInt8=>[.str p.1,.str p.2]) (fun p=>p.1.length<2^62∧p.2.length<2^62) (fun p r=>r=gcdR p.1 p.2) (fun _ r=>(.tup [.str r.1,.int .i64 r.2],[]))
def SGc:KV:=[(6,.ptr 0 0),(7,.ptr 1 0)]
def HGc(m n:Bool)(x y:Nat):Heap:=[.box [.bool m,magS x],.box [.bool n,magS y]]
theorem jy{x:Nat} : x<B^112↔(canon x).length≤112:=by
 refine⟨fun h=>zw h,fun h=> ?_⟩
 have h1:=qg (zh x)
 rw [zk] at h1
 exact Nat.lt_of_lt_of_le h1 (Nat.pow_le_pow_right (by decide) h)
theorem kZ{x:Nat} : (canon x).length=0↔x=0:=by
 constructor
 ·intro h
  have:=zk x
  rw [List.length_eq_zero_iff.1 h] at this
  exact this.symm
 ·rintro rfl; simp [canon]
theorem Uy:zc Tryz.prog 64 gcdC:=by
 refine ze (fn:=Tryz.f64) (c:=Tryz.f64.body.getD .skip) rfl rfl rfl fun p hp O w0 Q hq=> ?_
 obtain⟨s,t⟩:=p
 obtain⟨hs,ht⟩:=hp
 replace hq:=hq _ rfl
 simp only at hs ht hq
 refine zb.run hmix zfs [6,7] 400 (T:=.ex (fun(x:List UInt8×List UInt8)=>eqL [AV.str s,AV.str t] [AV.str x.1,AV.str x.2]∧x.1.length<4611686018427387904∧x.2.length<4611686018427387904) fun n=>.all (fun(r:Int×(Bool×Nat)×Bool×Nat)=>r=if zx n.1 n.2=0 then((0:Int),(negI n.1,numI n.1),negI n.2,numI n.2) else(zx n.1 n.2,(false,0),false,0)) fun n=>.ite (!decide (n.1=0)) (.leaf (.ret [.str #[].toList,.int .i64 n.1] [.box [.bool n.2.1.1,.sl (canon n.2.1.2).length 1 (natG .u32 (canon n.2.1.2))],.box [.bool n.2.2.1,.sl (canon n.2.2.2).length 1 (natG .u32 (canon n.2.2.2))]])) (.leaf (.loop (Prod.fst (lps K64 0)) (Prod.snd (lps K64 0)) [(6,.ptr 0 0),(7,.ptr 1 0)] [.box [.bool n.2.1.1,.sl (canon n.2.1.2).length 1 (natG .u32 (canon n.2.1.2))],.box [.bool n.2.2.1,.sl (canon n.2.2.2).length 1 (natG .u32 (canon n.2.2.2))]]))) (by kernel_rfl) ?_
 simp only [Tree.holds,zd]
 refine⟨(s,t),⟨by simp,hs,ht⟩,⟨_,rfl⟩,?_⟩
 rintro _ rfl
 refine⟨fun he=> ?_,fun he=> ?_⟩
 ·have he:zx s t≠0:=by
   intro h; simp [h] at he
  have e:gcdR s t=([],zx s t):=by simp [gcdR,he]
  simp only [if_neg he]
  rw [e] at hq
  exact RetR.scal hq rfl (by simp [resV])
 ·have he:zx s t=0:=by
   refine Decidable.byContradiction fun h=> ?_
   simp [h] at he
  simp only [if_pos he]
  have e:gcdR s t=wr false (Nat.gcd (numI s) (numI t)):=by simp [gcdR,he]
  rw [e] at hq
  obtain⟨h1,h2⟩:=zn.1 he
  have b1:=jy.2 (x5 h1)
  have b2:=jy.2 (x5 h2)
  clear e he h1 h2 hs ht
  generalize numI s=x0 at *
  generalize numI t=y0 at *
  refine zb.loop (ι:={z:Bool×Bool×Nat×Nat // Nat.gcd z.2.2.1 z.2.2.2=Nat.gcd x0 y0∧z.2.2.1<B^112∧z.2.2.2<B^112}) (fun _=>SGc) (fun z=>HGc z.1.1 z.1.2.1 z.1.2.2.1 z.1.2.2.2) (fun z=>z.1.2.2.2) ⟨(negI s,negI t,x0,y0),rfl,b1,b2⟩ 0 ?_ ?_ (by kernel_rfl)
  ·exact⟨by simp [SGc],by simp [HGc,magS,natS,za],by kernel_rfl,Nat.zero_le _⟩
  ·rintro⟨⟨m,n,x,y⟩,hg,hx,hy⟩
   simp only at hg hx hy
   refine zb.run hmix zfs [6,7] 400 (T:=.ite (decide ((0:Int)<(↑(canon y).length:Int))) (.ex (fun(x_1:Nat×Nat)=>eqL [AV.sl (canon x).length 1 (natG .u32 (canon x)),AV.sl (canon y).length 1 (natG .u32 (canon y))] [AV.sl (canon x_1.1).length 1 (natG .u32 (canon x_1.1)),AV.sl (canon x_1.2).length 1 (natG .u32 (canon x_1.2))]∧List.length (canon x_1.1)<100000∧List.length (canon x_1.2)<100000∧0<x_1.2) fun n_1=>.all (fun(r:Nat×Nat)=>r=(n_1.1/n_1.2,n_1.1%n_1.2)) fun n_2=>.leaf (.back 0 [(6,.ptr 0 0),(7,.ptr 1 0)] [.box [.bool m,.sl (canon y).length 1 (natG .u32 (canon y))],.box [.bool n,.sl (canon n_2.2).length 1 (natG .u32 (canon n_2.2))]])) (.ex (fun(x_1:Bool×Nat)=>eqL [AV.agg [AV.bool false,AV.sl (canon x).length 1 (natG .u32 (canon x))]] [AV.agg [AV.bool x_1.1,AV.sl (canon x_1.2).length 1 (natG .u32 (canon x_1.2))]]∧List.length (canon x_1.2)<1000000) fun n_1=>.all (fun(r:List UInt8×Int)=>r=wr n_1.1 n_1.2) fun n_2=>.leaf (.ret [.str n_2.1,.int .i64 n_2.2] [.box [.bool m,.sl (canon x).length 1 (natG .u32 (canon x))],.box [.bool n,.sl (canon y).length 1 (natG .u32 (canon y))]]))) (by kernel_rfl) ?_
   simp only [Tree.holds,zd,inR,lo,hi]
   refine⟨fun h0=> ?_,fun h0=> ?_⟩
   ·have hy0:0<y:=by
     rcases Nat.eq_zero_or_pos y with h | h
     ·rw [h] at h0; simp [canon] at h0
     ·exact h
    refine⟨(x,y),⟨by simp [za],?_,?_,hy0⟩,⟨_,rfl⟩,?_⟩
    ·have:=jy.1 hx; show(canon x).length<100000; omega
    ·have:=jy.1 hy; show(canon y).length<100000; omega
    rintro _ rfl
    simp only
    rw [if_pos trivial]
    refine⟨⟨(m,n,y,x%y),?_,hy,Nat.lt_trans (Nat.mod_lt x hy0) hy⟩,Nat.mod_lt x hy0,by simp [SGc],by simp [HGc,magS,natS,za],by kernel_rfl,Nat.zero_le _⟩
    show Nat.gcd y (x%y)=Nat.gcd x0 y0
    rw [← hg,Nat.gcd_comm x y,Nat.gcd_rec y x,Nat.gcd_comm]
   ·have hy0:y=0:=kZ.1 (by have h0:=of_decide_eq_false h0; omega)
    subst hy0
    refine⟨(false,x),⟨by simp [za],?_⟩,⟨_,rfl⟩,?_⟩
    ·have:=jy.1 hx; show(canon x).length<1000000; omega
    rintro _ rfl
    rw [Nat.gcd_zero_right] at hg
    rw [← hg] at hq
    exact RetR.scal hq rfl (by simp [resV])
theorem WG{h:Heap}{i sz off n n':Nat}{g:Nat→Nat→AV}(hb:h[i]?=some (.arr n' sz g))(hn:off+n≤n'):exp0 h [] (.osl i sz off n) = .sl n sz (zf g off):=by
 simp [exp0,zy,frz1,jl,hb,hn]
theorem zcr{h:Heap}{i sz off n n':Nat}{g:Nat→Nat→AV}(hb:h[i]?=some (.arr n' sz g))(hn:off+n≤n')(hs:∀ j o,j<n→o<sz→zR (zf g off j o)=true):new0 h [] (.osl i sz off n):=by
 simp only [new0]
 intro _
 rw [WG hb hn]
 exact hs
theorem zhj(g:Nat→Nat→AV):zf g 0=g:=by
 funext j o; simp [zf]
structure IRo(l m:List Nat) where
 qs:List Nat
 r:List Nat
 i:Nat
 hi:i≤l.length
 hql:qs.length+i=l.length
 hqd:Ten.dig qs
 hrd:Ten.dig r
 hrl:r.length≤m.length+1
 hrl2:r.length+i≤l.length
 hlt:Ten.val r<Ten.val m
 hv:Ten.val (l.drop i)=Ten.val qs*Ten.val m+Ten.val r
def big:Nat:=1000
end Go.Proofs.Tryz
end
section
namespace Go.Proofs
set_option maxHeartbeats 1000000 in
set_option maxRecDepth 100000 in
theorem Tryz.Vx(s:ByteArray)(c:Int)(w:World) :
  Calls Tryz.prog 106 #[.string s,.int .u8 c] w fun e w'=>e = .returned (.int .i64 (Lib.indexByte s.data.toList c.toNat.toUInt8))∧w'=w:=by
 go_enter Tryz.func106,Tryz.ntmps106
 go_wp2
 rw [run_callFunc_extern Tryz.func110 (by kernel_rfl) (by kernel_rfl) (by kernel_rfl) (e:=Extern.BytealgIndexByte.indexByte) (by kernel_rfl),Lib.run_indexByteString]
 simp only [Result.andThen]
 rw [Oper.upon_value]
 go_wp2
 go_ret
 exact⟨rfl,rfl⟩
set_option maxHeartbeats 2000000 in
set_option maxRecDepth 100000 in
theorem Tryz.KW(s:ByteArray)(c:UInt8)(w:World) :
  Calls Tryz.prog 104 #[.string s,.string ⟨#[c]⟩] w fun e w'=>e = .returned (.int .i64 (Lib.indexByte s.data.toList c))∧w'=w:=by
 go_enter Tryz.func104,Tryz.ntmps104
 go_wp2_with (go_at_call 106; refine(Tryz.Vx _ _ _).mono ?_; rintro e w' ⟨rfl,rfl⟩)
 ·have h:([c] == s.toList)=true:=by assumption
  go_ret
  refine⟨?_,rfl⟩
  have e:s.data.toList=[c]:=by rw [← Lib.toList_data]; exact(beq_iff_eq.1 h).symm
  rw [e]
  simp [Lib.indexByte]
 ·go_ret
  exact⟨rfl,rfl⟩
end Go.Proofs
end
section
set_option maxRecDepth 100000
open Go Go.Sx Go.Proofs Go.Nov
namespace Go.Proofs.Tryz
attribute [local simp] eqKV eqA eqA0 eqH eqB eqL eqL0
theorem uB(s:List UInt8):Lib.indexByte s 47=if zA s<s.length then(zA s:Int) else -1:=by
 induction s with
 | nil=>rfl
 | cons c s ih=>
  simp only [Lib.indexByte,zA,List.findIdx_cons]
  cases h:(c == 47) with
  | true=>simp
  | false=>
   simp only [Bool.false_eq_true,if_false,ih,cond_false,List.length_cons]
   show _=if zA s+1<s.length+1 then((zA s+1:Nat):Int) else -1
   by_cases h2:zA s<s.length
   ·rw [if_pos h2,if_neg (by simp),if_pos (by omega)]; omega
   ·rw [if_neg h2,if_pos (by rfl),if_neg (by omega)]
def Xa:Ctr:=ctrP true (fun s:List UInt8=>[.str s,.str [47]]) (fun s=>True) (fun s r=>r=if zA s<s.length then(zA s:Int) else -1) (fun _ (r:Int)=>(.int .i64 r,[]))
theorem zbo:zc Tryz.prog 104 Xa:=by
 intro args hc Q hq _
 simp only [Xa,ctrP] at hq
 split at hq
 ·obtain⟨s,⟨h1,_⟩,_,h3⟩:=hq
  have hq:=h3 _ rfl
  simp only [Tree.holds] at hq
  refine qQ.le h1 ?_
  intro O w σ vals hg hh hr
  simp only [RepL,Rep] at hr
  obtain⟨v1,r1,rfl,rfl,v2,r2,rfl,rfl,rfl⟩:=hr
  refine .inl ⟨enters_of Tryz.func104 (by kernel_rfl) rfl ..,?_⟩
  refine(Tryz.KW ⟨s.toArray⟩ 47 w).mono ?_
  rintro e w' ⟨rfl,rfl⟩
  have hx:=uB s
  have h0:σ=[]:=List.length_eq_zero_iff.1 hh.len
  subst h0
  refine⟨_,rfl,_,[],[],hq,?_,⟨rfl,fun i j e f a b h=>by simp at h,fun i e a h=>by simp at h,fun i e b h=>by simp at h⟩,hg,Nat.le_refl _,Hold.refl _ _ _,Ext.refl _ _⟩
  simp only [Rep]
  rw [← hx]
 ·exact hq.elim
def cutC:Ctr:=ctrP true (fun s:List UInt8=>[.str s,.str [47]]) (fun s=>s.length<2^62) (fun s r=>r=cutR s) (fun _ r=>(.tup [.str r.1,.str r.2.1,.bool r.2.2],[]))
noncomputable def GC1:Nat→Option Ctr:=fun f=>if f=104 then some (Xa) else none
theorem zg6:∀ g c,GC1 g=some c→zc Tryz.prog g c:=okIf zbo (zt)
theorem ze5:zc Tryz.prog 100 cutC:=by
 refine ze (fn:=Tryz.f100) (c:=Tryz.f100.body.getD .skip) rfl rfl rfl fun s hs O w0 Q hq=> ?_
 replace hq:=hq _ rfl
 refine zb.run hmix zg6 [] 400 (T:=.ex (fun(x:List UInt8)=>eqL [AV.str s,AV.str [(47:UInt8)]] [AV.str x,AV.str [(47:UInt8)]]∧True) fun n=>.all (fun(r:Int)=>r=if zA n<n.length then(↑(zA n):Int) else(-1:Int)) fun n=>.ite (decide ((0:Int)≤n)) (.side ((0:Int)≤n∧n≤(↑s.length:Int)) (.side (inR .i64 (n+(1:Int))) (.side ((0:Int)≤n+(1:Int)∧n+(1:Int)≤s.length) (.leaf (.ret [.str (List.drop 0 (List.take (Int.toNat n) s)),.str (List.drop (Int.toNat (n+(1:Int))) (List.take s.length s)),.bool true] []))))) (.leaf (.ret [.str s,.str #[].toList,.bool false] []))) (by kernel_rfl) ?_
 simp only [Tree.holds,zd,inR,lo,hi]
 refine⟨s,⟨by simp,trivial⟩,⟨_,rfl⟩,?_⟩
 rintro _ rfl
 by_cases h:zA s<s.length
 ·simp only [if_pos h]
  rw [X5 h] at hq
  refine⟨fun _=>⟨by omega,fun _=>⟨by omega,fun _=>⟨by omega,fun _=> ?_⟩⟩⟩,fun hn=> ?_⟩
  ·refine RetR.scal hq rfl ?_
   simp [resV]
  ·have:=of_decide_eq_false hn; omega
 ·simp only [if_neg h]
  rw [UI h] at hq
  refine⟨fun hn=> ?_,fun _=>RetR.scal hq rfl (by simp [resV])⟩
  have:=of_decide_eq_true hn; omega
noncomputable def GC2:Nat→Option Ctr:=fun f=>if f=100 then some (cutC) else none
theorem zhe:∀ g c,GC2 g=some c→zc Tryz.prog g c:=okIf ze5 (zt)
theorem zg5:zc Tryz.prog 86 cutC:=by
 refine ze (fn:=Tryz.f86) (c:=Tryz.f86.body.getD .skip) rfl rfl rfl fun s hs O w0 Q hq=> ?_
 replace hq:=hq _ rfl
 refine zb.run hmix zhe [] 400 (T:=.ex (fun(x:List UInt8)=>eqL [AV.str s,AV.str [(47:UInt8)]] [AV.str x,AV.str [(47:UInt8)]]∧x.length<4611686018427387904) fun n=>.all (fun(r:List UInt8×List UInt8×Bool)=>r=cutR n) fun n=>.leaf (.ret [.str n.1,.str n.2.1,.bool n.2.2] [])) (by kernel_rfl) ?_
 simp only [Tree.holds,zd,inR,lo,hi]
 refine⟨s,⟨by simp,hs⟩,⟨_,rfl⟩,?_⟩
 rintro _ rfl
 exact RetR.scal hq rfl (by simp [resV])
def Xg:Ctr:=ctrP true (fun s:List UInt8=>[.str s]) (fun s=>s.length<2^62) (fun s r=>r=cutR s) (fun _ r=>(.tup [.str r.1,.str r.2.1,.bool r.2.2],[]))
noncomputable def GC3:Nat→Option Ctr:=fun f=>if f=86 then some (cutC) else if f=63 then some (ZU) else none
theorem U9:∀ g c,GC3 g=some c→zc Tryz.prog g c:=okIf zg5 (okIf Z4 (zt))
theorem WX:zc Tryz.prog 61 Xg:=by
 refine ze (fn:=Tryz.f61) (c:=Tryz.f61.body.getD .skip) rfl rfl rfl fun s hs O w0 Q hq=> ?_
 replace hq:=hq _ rfl
 refine zb.run hmix U9 [] 400 (T:=.ex (fun(x:List UInt8)=>eqL [AV.str s,AV.str #[(47:UInt8)].toList] [AV.str x,AV.str [(47:UInt8)]]∧x.length<4611686018427387904) fun n=>.all (fun(r:List UInt8×List UInt8×Bool)=>r=cutR n) fun n=>.leaf (.ret [.str n.1,.str n.2.1,.bool n.2.2] [])) (by kernel_rfl) ?_
 simp only [Tree.holds,zd,inR,lo,hi]
 refine⟨s,⟨by simp,hs⟩,⟨_,rfl⟩,?_⟩
 rintro _ rfl
 exact RetR.scal hq rfl (by simp [resV])
def zfr:Ctr:=ctrP true (fun s:List UInt8=>[.str s]) (fun s=>s.length<2^62) (fun s r=>r=if errI s=12 then 12 else 0) (fun _ (r:Int)=>(.int .i64 r,[]))
theorem zdt:zc Tryz.prog 62 zfr:=by
 refine ze (fn:=Tryz.f62) (c:=Tryz.f62.body.getD .skip) rfl rfl rfl fun s hs O w0 Q hq=> ?_
 replace hq:=hq _ rfl
 refine zb.run hmix U9 [] 400 (T:=.ex (fun(x:List UInt8)=>eqL [AV.str s] [AV.str x]∧x.length<4611686018427387904) fun n=>.all (fun(r:Int)=>r=errI n) fun n=>.ite (!decide (n=14)) (.leaf (.ret [.int .i64 n] [])) (.leaf (.ret [.int .i64 0] []))) (by kernel_rfl) ?_
 simp only [Tree.holds,zd,inR,lo,hi]
 refine⟨s,⟨by simp,hs⟩,⟨_,rfl⟩,?_⟩
 rintro _ rfl
 rcases vU s with h | h | h<;>simp only [h] at hq ⊢
 all_goals
  refine⟨fun h=> ?_,fun h=> ?_⟩
  all_goals first
   | (exfalso; revert h; decide)
   | exact RetR.scal hq rfl (by simp [resV])
def yf:Ctr:=ctrP true (fun s:List UInt8=>[.str s]) (fun s=>s.length<2^62) (fun s r=>r=errR s) (fun _ (r:Int)=>(.int .i64 r,[]))
noncomputable def GC4:Nat→Option Ctr:=fun f=>if f=61 then some (Xg) else if f=62 then some (zfr) else if f=63 then some (ZU) else if f=64 then some (gcdC) else none
theorem zg3:∀ g c,GC4 g=some c→zc Tryz.prog g c:=okIf WX (okIf zdt (okIf Z4 (okIf Uy (zt))))
theorem kW:zc Tryz.prog 35 yf:=by
 refine ze (fn:=Tryz.f35) (c:=Tryz.f35.body.getD .skip) rfl rfl rfl fun s hs O w0 Q hq=> ?_
 replace hq:=hq _ rfl
 refine zb.run hmix zg3 [] 400 (T:=.ex (fun(x:List UInt8)=>eqL [AV.str s] [AV.str x]∧x.length<4611686018427387904) fun n=>.all (fun(r:List UInt8×List UInt8×Bool)=>r=cutR n) fun n=>.ex (fun(x:List UInt8)=>eqL [AV.str n.1] [AV.str x]∧x.length<4611686018427387904) fun n_1=>.all (fun(r:Int)=>r=if errI n_1=12 then(12:Int) else(0:Int)) fun n_2=>.ex (fun(x:List UInt8)=>(!decide (n_2=0))=false∧n.2.2=true→eqL [AV.str n.2.1] [AV.str x]∧x.length<4611686018427387904) fun n_3=>.all (fun(x:Int)=>(!decide (n_2=0))=false∧n.2.2=true→x=if errI n_3=12 then(12:Int) else(0:Int)) fun n_4=>.side (((!decide (n_2=0))=false∧n.2.2=true)∧(!decide (n_4=0))=false→(0:Int)≤0∧(0:Int)<n.2.1.length) (.ite (bif !decide (n_2=0) then true else bif n.2.2 then bif bif bif !decide (n_4=0) then true else decide ((↑(UInt8.toNat (List.getD n.2.1 0 (0:UInt8))):Int)=45) then true else decide (n.2.1=#[(48:UInt8)].toList) then true else decide (n.2.1=#[(49:UInt8)].toList) else false) (.leaf (.ret [.int .i64 12] [])) (.ex (fun(x:List UInt8)=>eqL [AV.str n.1] [AV.str x]∧x.length<4611686018427387904) fun n_5=>.all (fun(r:Int)=>r=errI n_5) fun n_6=>.ex (fun(x:List UInt8)=>(!decide (n_6=0))=false∧n.2.2=true→eqL [AV.str n.2.1] [AV.str x]∧x.length<4611686018427387904) fun n_7=>.all (fun(x:Int)=>(!decide (n_6=0))=false∧n.2.2=true→x=errI n_7) fun n_8=>.ite (bif !decide (n_6=0) then true else bif n.2.2 then !decide (n_8=0) else false) (.leaf (.ret [.int .i64 14] [])) (.ite n.2.2 (.ex (fun(x:List UInt8×List UInt8)=>eqL [AV.str n.1,AV.str n.2.1] [AV.str x.1,AV.str x.2]∧x.1.length<4611686018427387904∧x.2.length<4611686018427387904) fun n=>.all (fun(r:List UInt8×Int)=>r=gcdR n.1 n.2) fun n=>.ite (!decide (n.1=#[(49:UInt8)].toList)) (.leaf (.ret [.int .i64 12] [])) (.leaf (.ret [.int .i64 0] []))) (.leaf (.ret [.int .i64 0] [])))))) (by kernel_rfl) ?_
 simp only [Tree.holds,zd,inR,lo,hi]
 refine⟨s,⟨by simp,hs⟩,⟨_,rfl⟩,?_⟩
 rintro _ rfl
 have hlen:=J4 s
 have hno:(cutR s).2.2=false→(cutR s).1=s:=by
  intro h
  unfold cutR at h ⊢
  split at h
  ·cases h
  ·rename_i hn; rw [if_neg hn]
 simp only [errR] at hq
 generalize cutR s=c at hq hlen hno ⊢
 obtain⟨n,d,f⟩:=c
 simp only at hq hlen hno ⊢
 refine⟨n,⟨by simp,by omega⟩,⟨_,rfl⟩,?_⟩
 rintro _ rfl
 refine⟨d,fun _=>⟨by simp,by omega⟩,⟨_,fun _=>rfl⟩,?_⟩
 intro fd hfd
 cases f with
 | false=>
  have hn:=hno rfl
  subst hn
  rw [if_neg (by decide)] at hq
  refine⟨fun h=>by simp at h,fun _=>⟨fun h=> ?_,fun h=> ?_⟩⟩
  ·rcases vU n with e | e | e<;>rw [e] at hq h
   ·simp at h
   ·exact RetR.scal hq rfl (by simp [resV])
   ·simp at h
  ·have hn12:errI n≠12:=by
    intro e; rw [e] at h; simp at h
   refine⟨n,⟨by simp,by omega⟩,⟨_,rfl⟩,?_⟩
   rintro _ rfl
   refine⟨d,fun _=>⟨by simp,by omega⟩,⟨_,fun _=>rfl⟩,?_⟩
   intro fd2 _
   refine⟨fun h=> ?_,fun h=>⟨fun h=>(by cases h),fun _=> ?_⟩⟩
   ·rcases vU n with e | e | e
    ·rw [e] at h; simp at h
    ·exact absurd e hn12
    ·rw [e] at hq; exact RetR.scal hq rfl (by simp [resV])
   ·rcases vU n with e | e | e
    ·rw [e] at hq; exact RetR.scal hq rfl (by simp [resV])
    ·exact absurd e hn12
    ·rw [e] at h; simp at h
 | true=>
  rw [if_pos rfl] at hq
  by_cases hn:errI n=12
  ·rw [if_pos (.inl hn)] at hq
   simp only [hn]
   refine⟨fun h=>by simp at h,fun _=>⟨fun _=>RetR.scal hq rfl (by simp [resV]),fun h=>by simp at h⟩⟩
  ·rw [if_neg hn] at hfd ⊢
   have hfd:=hfd ⟨by simp,rfl⟩
   subst hfd
   by_cases hd:errI d=12
   ·rw [if_pos (.inr (.inl hd))] at hq
    rw [if_pos hd]
    refine⟨fun h=>by simp at h,fun _=>⟨fun _=>RetR.scal hq rfl (by simp [resV]),fun h=>by simp at h⟩⟩
   ·rw [if_neg hd]
    have hd0:d≠[]:=by rintro rfl; exact hd V3
    have hneg:=QP hd0
    have hneg2:decide (((d.getD 0 0).toNat:Int)=45)=negI d:=by
     rw [hneg]
     by_cases h:d.getD 0 0=45
     ·rw [h]; rfl
     ·rw [decide_eq_false h]
      refine decide_eq_false fun h2=>h (WH ?_)
      rw [h2]; rfl
    rw [hneg2]
    refine⟨fun _=>by have:=List.length_pos_iff.2 hd0; omega,fun _=>⟨fun h=> ?_,fun h=> ?_⟩⟩
    ·have:negI d=true∨d=[48]∨d=[49]:=by
      revert h
      cases negI d<;>simp
     rw [if_pos (.inr (.inr this))] at hq
     exact RetR.scal hq rfl (by simp [resV])
    ·have:¬ (errI n=12∨errI d=12∨negI d=true∨d=[48]∨d=[49]):=by
      revert h
      cases negI d<;>simp [hn,hd]
     rw [if_neg this] at hq
     refine⟨n,⟨by simp,by omega⟩,⟨_,rfl⟩,?_⟩
     rintro _ rfl
     refine⟨d,fun _=>⟨by simp,by omega⟩,⟨_,fun _=>rfl⟩,?_⟩
     intro ed hed
     by_cases hn0:errI n=0
     ·have hed:=hed ⟨by simp [hn0],rfl⟩
      subst hed
      by_cases hd0:errI d=0
      ·rw [if_neg (by simp [hn0,hd0])] at hq
       refine⟨fun h=>by simp [hn0,hd0] at h,fun _=>⟨fun _=> ?_,fun h=>by cases h⟩⟩
       refine⟨(n,d),⟨by simp,by simp only; omega,by simp only; omega⟩,⟨_,rfl⟩,?_⟩
       rintro _ rfl
       refine⟨fun h=> ?_,fun h=> ?_⟩
       ·rw [if_pos (by simpa using h)] at hq
        exact RetR.scal hq rfl (by simp [resV])
       ·rw [if_neg (by simpa using h)] at hq
        exact RetR.scal hq rfl (by simp [resV])
      ·rw [if_pos (.inr hd0)] at hq
       refine⟨fun _=>RetR.scal hq rfl (by simp [resV]),fun h=>by simp [hn0,hd0] at h⟩
     ·rw [if_pos (.inl hn0)] at hq
      refine⟨fun _=>RetR.scal hq rfl (by simp [resV]),fun h=>by simp [hn0] at h⟩
noncomputable def K33:List Go.Sx.Item:=[.code (Tryz.f33.body.getD .skip)]
def We:Ctr:=ctrP true (fun d:Int=>[.int .i64 d]) (fun _=>True) (fun d r=>r=dayB d) (fun _ (r:Bool)=>(.bool r,[]))
theorem Jm:zc Tryz.prog 34 We:=by
 refine ze (fn:=Tryz.f34) (c:=Tryz.f34.body.getD .skip) rfl rfl rfl fun d hs O w0 Q hq=> ?_
 replace hq:=hq _ rfl
 refine zb.run hmix zB [] 400 (T:=.leaf (.ret [.bool (bif decide ((0:Int)≤d) then decide (d≤99999) else false)] [])) (by kernel_rfl) ?_
 simp only [Tree.holds,zd]
 refine RetR.scal hq rfl ?_
 simp only [resV,dayB]
 cases decide (0≤d)<;>rfl
theorem zdv(c:UInt8):(bif bif decide (97≤(c.toNat:Int)) then decide ((c.toNat:Int)≤122) else false then true else bif decide (65≤(c.toNat:Int)) then decide ((c.toNat:Int)≤90) else false)=isL c:=by
 have e1:decide (97≤(c.toNat:Int))=decide (97≤c.toNat):=decide_eq_decide.2 (by omega)
 have e2:decide ((c.toNat:Int)≤122)=decide (c.toNat≤122):=decide_eq_decide.2 (by omega)
 have e3:decide (65≤(c.toNat:Int))=decide (65≤c.toNat):=decide_eq_decide.2 (by omega)
 have e4:decide ((c.toNat:Int)≤90)=decide (c.toNat≤90):=decide_eq_decide.2 (by omega)
 rw [e1,e2,e3,e4]
 simp only [isL]
 cases decide (97≤c.toNat)<;>cases decide (c.toNat≤122)<;>cases decide (65≤c.toNat)<;>rfl
def Yc:Ctr:=ctrP true (fun c:UInt8=>[.int .u8 (c.toNat:Int)]) (fun _=>True) (fun c r=>r=isL c) (fun _ (r:Bool)=>(.bool r,[]))
theorem Y8:zc Tryz.prog 60 Yc:=by
 refine ze (fn:=Tryz.f60) (c:=Tryz.f60.body.getD .skip) rfl rfl rfl fun c hs O w0 Q hq=> ?_
 replace hq:=hq _ rfl
 refine zb.run hmix zB [] 400 (T:=.leaf (.ret [.bool (bif bif decide ((97:Int)≤(↑(UInt8.toNat c):Int)) then decide ((↑(UInt8.toNat c):Int)≤122) else false then true else bif decide ((65:Int)≤(↑(UInt8.toNat c):Int)) then decide ((↑(UInt8.toNat c):Int)≤90) else false)] [])) (by kernel_rfl) ?_
 simp only [Tree.holds,zd]
 refine RetR.scal hq rfl ?_
 simp only [resV]
 rw [zdv]
theorem QR(c d:UInt8):decide ((c.toNat:Int)=(d.toNat:Int))=(c == d):=by
 by_cases h:c=d
 ·subst h; simp
 ·rw [decide_eq_false fun h2=>h (WH h2)]
  simp [h]
theorem zdr(c:UInt8):(bif decide ((c.toNat:Int)<48) then true else decide (57<(c.toNat:Int))) = !isD c:=by
 rw [Bool.cond_eq_ite]; exact Zv c
theorem zbi(c:UInt8):(bif bif bif !isL c then bif decide ((c.toNat:Int)<48) then true else decide (57<(c.toNat:Int)) else false then !decide ((c.toNat:Int)=95) else false then !decide ((c.toNat:Int)=45) else false) = !isN c:=by
 rw [zdr]
 have e1:decide ((c.toNat:Int)=95)=(c == 95):=QR c 95
 have e2:decide ((c.toNat:Int)=45)=(c == 45):=QR c 45
 rw [e1,e2]; simp only [isN]
 cases isL c<;>cases isD c<;>cases (c == 95)<;>cases (c == 45)<;>rfl
def VG:Ctr:=ctrP true (fun s:List UInt8=>[.str s]) (fun s=>s.length<2^62) (fun s r=>r=qe s) (fun _ (r:Bool)=>(.bool r,[]))
noncomputable def GN1:Nat→Option Ctr:=fun f=>if f=60 then some (Yc) else none
theorem UH:∀ g c,GN1 g=some c→zc Tryz.prog g c:=okIf Y8 (zt)
def SNa(s:List UInt8)(i:Nat):KV:=[(0,.str s),(20,.int .i64 (s.length:Int)),(21,.int .i64 (i:Int)),(31,.undef),(32,.undef),(33,.undef),(34,.undef),(35,.undef),(36,.undef),(39,.undef),(40,.undef),(43,.undef),(44,.undef)]
theorem YQ{O:Nat→Prop}{w0:World}{Q:AV×Heap→Prop}{Hs:Nat→KV→Heap→Prop}(s:List UInt8)(hs:s.length<2^62)(hq:Q (.bool (s.all isN),[])) :
  zb Tryz.prog Tryz.f33 O 0 w0 [] Hs (RetR VG 0 Q) (.code (.loop (lps K33 0).1)::(lps K33 0).2) (mk Tryz.f33.ntmps (SNa s 0) []):=by
 refine zb.loop (ι:={i:Nat // i≤s.length∧∀ j,j<i→isN (s.getD j 0)=true}) (fun i=>SNa s i.1) (fun _=>[]) (fun i=>s.length - i.1) ⟨0,Nat.zero_le _,fun j hj=>by omega⟩ 0 ?_ ?_ (by kernel_rfl)
 ·exact⟨by simp [SNa],by simp,by kernel_rfl,Nat.zero_le _⟩
 ·rintro⟨i,hil,hib⟩
  refine zb.run hmix UH [0,20,21,31,32,33,34,35,36,39,40,43,44] 400 (T:=.ite (decide ((↑i:Int)<s.length)) (.side ((0:Int)≤i∧(↑i:Int)<s.length) (.ex (fun(x:UInt8)=>eqL [AV.int .u8 (↑(UInt8.toNat (s.getD (↑i:Int).toNat (0:UInt8))):Int)] [AV.int .u8 (↑(UInt8.toNat x):Int)]∧True) fun n=>.all (fun(r:Bool)=>r=isL n) fun n=>.ite (bif bif bif !n then bif decide ((↑(UInt8.toNat (s.getD (↑i:Int).toNat (0:UInt8))):Int)<48) then true else decide ((57:Int)<(↑(UInt8.toNat (s.getD (↑i:Int).toNat (0:UInt8))):Int)) else false then !decide ((↑(UInt8.toNat (s.getD (↑i:Int).toNat (0:UInt8))):Int)=95) else false then !decide ((↑(UInt8.toNat (s.getD (↑i:Int).toNat (0:UInt8))):Int)=45) else false) (.leaf (.ret [.bool false] [])) (.side (inR .i64 ((↑i:Int)+(1:Int))) (.leaf (.back 0 [(0,.str s),(20,.int .i64 s.length),(21,.int .i64 ((↑i:Int)+(1:Int))),(31,.undef),(32,.undef),(33,.undef),(34,.undef),(35,.undef),(36,.undef),(39,.undef),(40,.undef),(43,.undef),(44,.undef)] []))))) (.leaf (.ret [.bool true] []))) (by kernel_rfl) ?_
  simp only [Tree.holds,zd,inR,lo,hi,Int.toNat_natCast]
  refine⟨fun hlt=> ?_,fun hge=> ?_⟩
  ·have hlt:i<s.length:=by have:=of_decide_eq_true hlt; omega
   refine⟨by omega,fun _=>⟨s.getD i 0,⟨by simp,trivial⟩,⟨_,rfl⟩,?_⟩⟩
   rintro _ rfl
   rw [zbi]
   refine⟨fun h=> ?_,fun h=>⟨by omega,fun _=> ?_⟩⟩
   ·rw [JY hlt (by simpa using h)] at hq
    exact RetR.scal hq rfl (by simp [resV])
   ·rw [if_pos trivial]
    refine⟨⟨i+1,hlt,fun j hj=> ?_⟩,by show s.length - (i+1)<s.length - i; omega,by simp [SNa],by simp,by kernel_rfl,Nat.zero_le _⟩
    rcases Nat.lt_or_ge j i with h1 | h1
    ·exact hib j h1
    ·have:j=i:=by omega
     rw [this]; simpa using h
  ·have hge:i=s.length:=by have:=of_decide_eq_false hge; omega
   subst hge
   rw [zcm hib] at hq
   exact RetR.scal hq rfl (by simp [resV])
theorem JL:zc Tryz.prog 33 VG:=by
 refine ze (fn:=Tryz.f33) (c:=Tryz.f33.body.getD .skip) rfl rfl rfl fun s hs O w0 Q hq=> ?_
 replace hq:=hq _ rfl
 refine zb.run hmix UH [0,20,21,31,32,33,34,35,36,39,40,43,44] 400 (T:=.side ((bif decide ((↑s.length:Int)<1) then true else decide ((40:Int)<s.length))=false→(0:Int)≤0∧(0:Int)<s.length) (.ex (fun(x:UInt8)=>(bif decide ((↑s.length:Int)<1) then true else decide ((40:Int)<s.length))=false→eqL [AV.int .u8 (↑(UInt8.toNat (s.getD 0 (0:UInt8))):Int)] [AV.int .u8 (↑(UInt8.toNat x):Int)]∧True) fun n=>.all (fun(x:Bool)=>(bif decide ((↑s.length:Int)<1) then true else decide ((40:Int)<s.length))=false→x=isL n) fun n=>.ite (bif bif decide ((↑s.length:Int)<1) then true else decide ((40:Int)<s.length) then true else !n) (.leaf (.ret [.bool false] [])) (.leaf (.loop (Prod.fst (lps K33 0)) (Prod.snd (lps K33 0)) [(0,.str s),(20,.int .i64 s.length),(21,.int .i64 0),(31,.undef),(32,.undef),(33,.undef),(34,.undef),(35,.undef),(36,.undef),(39,.undef),(40,.undef),(43,.undef),(44,.undef)] [])))) (by kernel_rfl) ?_
 simp only [Tree.holds,zd,inR,lo,hi]
 have hd:decide ((s.length:Int)<1) = !decide (0<s.length):=by
  by_cases h:0<s.length
  ·rw [decide_eq_true h,decide_eq_false (by omega)]; rfl
  ·rw [decide_eq_false h,decide_eq_true (by omega)]; rfl
 have hd2:decide (40<(s.length:Int)) = !decide (s.length≤40):=by
  by_cases h:s.length≤40
  ·rw [decide_eq_true h,decide_eq_false (by omega)]; rfl
  ·rw [decide_eq_false h,decide_eq_true (by omega)]; rfl
 rw [hd,hd2]
 have hnb:qe s=(decide (0<s.length)&&decide (s.length≤40)&&isL (s.getD 0 0)&&s.all isN):=rfl
 cases h1:decide (0<s.length) with
 | false=>
  rw [hnb,h1] at hq
  refine⟨fun h=>(by cases h),fun _=>⟨0,fun h=>(by cases h),⟨false,fun h=>(by cases h)⟩,?_⟩⟩
  intro b _
  exact⟨fun _=>RetR.scal hq rfl (by simp [resV]),fun h=>(by cases h)⟩
 | true=>
  have h1':=of_decide_eq_true h1
  cases h2:decide (s.length≤40) with
  | false=>
   rw [hnb,h1,h2] at hq
   refine⟨fun h=>(by cases h),fun _=>⟨0,fun h=>(by cases h),⟨false,fun h=>(by cases h)⟩,?_⟩⟩
   intro b _
   exact⟨fun _=>RetR.scal hq rfl (by simp [resV]),fun h=>(by cases h)⟩
  | true=>
   refine⟨fun _=>by omega,fun _=>⟨s.getD 0 0,fun _=>⟨by simp,trivial⟩,⟨_,fun _=>rfl⟩,?_⟩⟩
   intro b hb
   have hb:=hb rfl
   subst hb
   cases h3:isL (s.getD 0 0) with
   | false=>
    rw [hnb,h1,h2,h3] at hq
    exact⟨fun _=>RetR.scal hq rfl (by simp [resV]),fun h=>(by cases h)⟩
   | true=>
    rw [hnb,h1,h2,h3] at hq
    refine⟨fun h=>(by cases h),fun _=> ?_⟩
    exact YQ s hs hq
noncomputable def K17:List Go.Sx.Item:=[.code (Tryz.f17.body.getD .skip)]
theorem vp{X R:Type}{P:Program}{g:Nat}{fresh:Bool}{inp:X→List AV}{pre:X→Prop}{post:X→R→Prop}{out:X→R→AV×Heap}(μ:X→Nat)
  (step:∀ n,zc P g (ctrP fresh inp (fun x=>μ x<n∧pre x) post out)→zc P g (ctrP fresh inp (fun x=>μ x<n+1∧pre x) post out)):zc P g (ctrP fresh inp pre post out):=by
 have all:∀ n,zc P g (ctrP fresh inp (fun x=>μ x<n∧pre x) post out):=by
  intro n
  induction n with
  | zero=>
   intro args hc Q hq _
   simp only [ctrP] at hq
   split at hq
   ·obtain⟨x,⟨_,h,_⟩,_⟩:=hq
    exact absurd h (Nat.not_lt_zero _)
   ·exact hq.elim
  | succ n ih=>exact step n ih
 intro args hc Q hq hf
 match hc,hq,hf with
 | [],hq,hf=>
  obtain⟨x,⟨h1,h2⟩,h3⟩:=hq
  exact all (μ x+1) args [] Q ⟨x,⟨h1,Nat.lt_succ_self _,h2⟩,h3⟩ hf
 | _::_,hq,_=>exact hq.elim
def Yk(n:Nat):Ctr:=ctrP true (fun x:Ex=>[x.exA]) (fun x=>x.size<n∧x.size<2^62) (fun x r=>r=x.size) (fun _ (r:Nat)=>(.int .i64 (r:Int),[]))
def GSz(g n:Nat):Nat→Option Ctr:=fun f=>if f=g then some (Yk n) else none
theorem zce{g n:Nat}(h:zc Tryz.prog g (Yk n)):∀ f c,GSz g n f=some c→zc Tryz.prog f c:=by
 intro f c hf
 simp only [GSz] at hf
 split at hf
 ·rename_i hg; subst hg; cases hf; exact h
 ·cases hf
theorem xG{x:Ex}{k d:Int}{r m:List UInt8}{l:Nat}{g:Nat→Nat→AV}(hk:k=x.kind)(hr:r=x.rat)(hm:m=x.name)(hd:d=x.date)(hl:l=x.sub.length)(hg:eqG x.sub.length 5 g (Ex.exG x.sub)):eqL [.agg [.int .u8 k,.str r,.str m,.int .i64 d,.sl l 5 g]] [x.exA]:=by
 subst hk; subst hr; subst hm; subst hd; subst hl
 exact⟨⟨⟨rfl,rfl⟩,rfl,rfl,⟨rfl,rfl⟩,⟨rfl,rfl,hg⟩,trivial⟩,trivial⟩
def SSz(s:List Ex)(c i:Nat):KV:=[(3,.int .i64 (c:Int)),(7,Ex.exS s),(8,.int .i64 (s.length:Int)),(9,.int .i64 (i:Int))]
theorem YP(n:Nat)(ih:zc Tryz.prog 17 (Yk n)):zc Tryz.prog 17 (Yk (n+1)):=by
 refine ze (fn:=Tryz.f17) (c:=Tryz.f17.body.getD .skip) rfl rfl rfl fun x hx O w0 Q hq=> ?_
 replace hq:=hq _ rfl
 obtain⟨hxn,hxs⟩:=hx
 rw [Ex.size_eq] at hxn hxs hq
 obtain⟨k,r,m,d,s⟩:=x
 simp only [Ex.sub] at hxn hxs hq
 refine zb.run hmix (zce ih) [3,7,8,9] 400 (T:=.leaf (.loop (Prod.fst (lps K17 0)) (Prod.snd (lps K17 0)) [(3,.int .i64 1),(7,.sl s.length 5 (Ex.exG s)),(8,.int .i64 s.length),(9,.int .i64 0)] [.box [.int .u8 k,.str r,.str m,.int .i64 d,.sl s.length 5 (Ex.exG s)]])) (by kernel_rfl) ?_
 simp only [Tree.holds,zd]
 have hlen:=Ex.zS s
 refine zb.loop (ι:={i:Nat // i≤s.length}) (fun i=>SSz s (1+Ex.zm (s.take i.1)) i.1) (fun _=>[]) (fun i=>s.length - i.1) ⟨0,Nat.zero_le _⟩ 0 ?_ ?_ (by kernel_rfl)
 ·exact⟨by simp [SSz,Ex.zm,Ex.exS,za],by simp,by kernel_rfl,Nat.zero_le _⟩
 ·rintro⟨i,hil⟩
  have hle:=Ex.vE s i
  obtain⟨c,hc⟩:∃ c,1+Ex.zm (s.take i)=c:=⟨_,rfl⟩
  simp only [hc]
  refine zb.run hmix (zce ih) [3,7,8,9] 400 (T:=.ite (decide ((↑i:Int)<s.length)) (.side ((0:Int)≤i∧(↑i:Int)<s.length) (.ex (fun(x:Ex)=>eqL [AV.agg [AV.int .u8 (Ex.kind (s.getD (↑i:Int).toNat Ex.nil)),AV.str (Ex.rat (s.getD (↑i:Int).toNat Ex.nil)),AV.str (Ex.name (s.getD (↑i:Int).toNat Ex.nil)),AV.int .i64 (Ex.date (s.getD (↑i:Int).toNat Ex.nil)),AV.sl (List.length (Ex.sub (s.getD (↑i:Int).toNat Ex.nil))) 5 (Ex.deep (s.getD (↑i:Int).toNat Ex.nil))]] [AV.agg [AV.int .u8 x.kind,AV.str x.rat,AV.str x.name,AV.int .i64 x.date,AV.sl x.sub.length 5 (Ex.exG x.sub)]]∧Ex.size x<n∧Ex.size x<4611686018427387904) fun n=>.all (fun(r:Nat)=>r=Ex.size n) fun n=>.side (inR .i64 ((↑c:Int)+n)) (.side (inR .i64 ((↑i:Int)+(1:Int))) (.leaf (.back 0 [(3,.int .i64 ((↑c:Int)+n)),(7,.sl s.length 5 (Ex.exG s)),(8,.int .i64 s.length),(9,.int .i64 ((↑i:Int)+(1:Int)))] [.box [.int .u8 (Ex.kind (s.getD (↑i:Int).toNat Ex.nil)),.str (Ex.rat (s.getD (↑i:Int).toNat Ex.nil)),.str (Ex.name (s.getD (↑i:Int).toNat Ex.nil)),.int .i64 (Ex.date (s.getD (↑i:Int).toNat Ex.nil)),.sl (List.length (Ex.sub (s.getD (↑i:Int).toNat Ex.nil))) 5 (Ex.deep (s.getD (↑i:Int).toNat Ex.nil))]]))))) (.leaf (.ret [.int .i64 c] []))) (by kernel_rfl) ?_
  simp only [Tree.holds,zd,inR,lo,hi,Int.toNat_natCast]
  refine⟨fun hlt=> ?_,fun hge=> ?_⟩
  ·have hlt:i<s.length:=by have:=of_decide_eq_true hlt; omega
   have hg:=Ex.qT hlt
   have ht:=Ex.xt s i hlt
   have hle2:=Ex.vE s (i+1)
   refine⟨by omega,fun _=>⟨s.getD i Ex.nil,⟨xG rfl rfl rfl rfl rfl (Ex.qI _),by omega,by omega⟩,⟨_,rfl⟩,?_⟩⟩
   rintro _ rfl
   refine⟨by omega,fun _=>⟨by omega,fun _=> ?_⟩⟩
   rw [if_pos trivial]
   refine⟨⟨i+1,hlt⟩,by show s.length - (i+1)<s.length - i; omega,?_,by simp,by kernel_rfl,Nat.zero_le _⟩
   simp [SSz,Ex.exS,za,ht]; omega
  ·have hge:i=s.length:=by have:=of_decide_eq_false hge; omega
   subst hge
   rw [List.take_length] at hc
   rw [hc] at hq
   exact RetR.scal hq rfl (by simp [resV])
def zer:Ctr:=ctrP true (fun x:Ex=>[x.exA]) (fun x=>x.size<2^62) (fun x r=>r=x.size) (fun _ (r:Nat)=>(.int .i64 (r:Int),[]))
theorem Ye:zc Tryz.prog 17 zer:=vp Ex.size YP
def boxE(k:Int)(r m:List UInt8)(d:Int)(s:List Ex):Heap:=[.box [.int .u8 k,.str r,.str m,.int .i64 d,Ex.exS s]]
noncomputable def K49:List Go.Sx.Item:=[.code (Tryz.f49.body.getD .skip)]
noncomputable def K50:List Go.Sx.Item:=[.code (Tryz.f50.body.getD .skip)]
def G1c(g:Nat)(C:Ctr):Nat→Option Ctr:=fun f=>if f=g then some C else none
theorem j5{g:Nat}{C:Ctr}(h:zc Tryz.prog g C):∀ f c,G1c g C f=some c→zc Tryz.prog f c:=by
 intro f c hf
 simp only [G1c] at hf
 split at hf
 ·rename_i hg; subst hg; cases hf; exact h
 ·cases hf
def UZ(n:Nat):Ctr:=ctrP true (fun p:Ex×Nat×Nat=>[p.1.exA,.int .i64 (p.2.1:Int),.int .i64 (p.2.2:Int)]) (fun p=>p.1.size<n∧p.2.1<2^40∧p.2.2<2^40)
 (fun p (r:Nat×Bool)=>1≤r.1∧r.1≤p.2.1+1∧(r.2=true→r.1≤p.2.1→r.1=p.1.size)) (fun _ (r:Nat×Bool)=>(.tup [.int .i64 (r.1:Int),.bool r.2],[]))
def SCn(limit deep m i:Nat):KV:=[(1,.int .i64 (limit:Int)),(2,.int .i64 (deep:Int)),(3,.ptr 0 0),(8,.int .i64 (m:Int)),(9,.int .i64 (i:Int)),(20,.undef),(21,.undef),(22,.undef)]
theorem Ks(n:Nat)(ih:zc Tryz.prog 49 (UZ n)):zc Tryz.prog 49 (UZ (n+1)):=by
 refine ze (fn:=Tryz.f49) (c:=Tryz.f49.body.getD .skip) rfl rfl rfl fun p hp O w0 Q hq=> ?_
 obtain⟨x,limit,deep⟩:=p
 obtain⟨hxn,hli,hde⟩:=hp
 simp only at hxn hli hde hq
 rw [Ex.size_eq] at hxn hq
 obtain⟨k,r,m,d,s⟩:=x
 simp only [Ex.sub] at hxn hq
 refine zb.run hmix (j5 ih) [1,2,3,8,9,20,21,22] 400 (T:=.ite (decide ((↑deep:Int)=0)) (.leaf (.ret [.int .i64 1,.bool false] [.box [.int .u8 k,.str r,.str m,.int .i64 d,.sl s.length 5 (Ex.exG s)]])) (.leaf (.loop (Prod.fst (lps K49 0)) (Prod.snd (lps K49 0)) [(1,.int .i64 limit),(2,.int .i64 deep),(3,.ptr 0 0),(8,.int .i64 1),(9,.int .i64 0),(20,.undef),(21,.undef),(22,.undef)] [.box [.int .u8 k,.str r,.str m,.int .i64 d,.sl s.length 5 (Ex.exG s)]]))) (by kernel_rfl) ?_
 simp only [Tree.holds,zd]
 refine⟨fun h0=> ?_,fun h0=> ?_⟩
 ·exact RetR.scal (hq (1,false) ⟨Nat.le_refl _,by simp,fun h=>by cases h⟩) rfl (by simp [resV])
 ·have h0:0<deep:=by have:=of_decide_eq_false h0; omega
  refine zb.loop (ι:={q:Nat×Nat // q.1≤limit+1∧q.2<q.1∧q.2≤s.length∧(q.1≤limit→q.1=1+Ex.zm (s.take q.2))}) (fun q=>SCn limit deep q.1.1 q.1.2) (fun _=>boxE k r m d s) (fun q=>s.length - q.1.2) ⟨(1,0),by simp [Ex.zm]⟩ 0 ?_ ?_ (by kernel_rfl)
  ·exact⟨by simp [SCn],by simp [boxE,Ex.exS,za],by kernel_rfl,Nat.zero_le _⟩
  ·rintro⟨⟨c,i⟩,h1,h2,h3,h4⟩
   simp only at h1 h2 h3 h4
   refine zb.run hmix (j5 ih) [1,2,3,8,9,20,21,22] 400 (T:=.ite (bif decide ((↑i:Int)<s.length) then decide ((↑c:Int)≤limit) else false) (.side ((0:Int)≤i∧(↑i:Int)<s.length) (.side (inR .i64 ((↑limit:Int) - c)) (.side (inR .i64 ((↑deep:Int) - (1:Int))) (.ex (fun(x:Ex×Nat×Nat)=>eqL [AV.agg [AV.int .u8 (Ex.kind (s.getD (↑i:Int).toNat Ex.nil)),AV.str (Ex.rat (s.getD (↑i:Int).toNat Ex.nil)),AV.str (Ex.name (s.getD (↑i:Int).toNat Ex.nil)),AV.int .i64 (Ex.date (s.getD (↑i:Int).toNat Ex.nil)),AV.sl (List.length (Ex.sub (s.getD (↑i:Int).toNat Ex.nil))) 5 (Ex.deep (s.getD (↑i:Int).toNat Ex.nil))],AV.int .i64 ((↑limit:Int) - c),AV.int .i64 ((↑deep:Int) - (1:Int))] [AV.agg [AV.int .u8 x.1.kind,AV.str x.1.rat,AV.str x.1.name,AV.int .i64 x.1.date,AV.sl x.1.sub.length 5 (Ex.exG x.1.sub)],AV.int .i64 x.2.1,AV.int .i64 x.2.2]∧Ex.size x.1<n∧x.2.1<1099511627776∧x.2.2<1099511627776) fun n=>.all (fun(r:Nat×Bool)=>1≤r.1∧r.1≤n.2.1+1∧(r.2=true→r.1≤n.2.1→r.1=Ex.size n.1)) fun n=>.ite (!Prod.snd n) (.leaf (.ret [.int .i64 c,.bool false] [.box [.int .u8 k,.str r,.str m,.int .i64 d,.sl s.length 5 (Ex.exG s)]])) (.side (inR .i64 ((↑c:Int)+n.1)) (.side (inR .i64 ((↑i:Int)+(1:Int))) (.leaf (.back 0 [(1,.int .i64 limit),(2,.int .i64 deep),(3,.ptr 0 0),(8,.int .i64 ((↑c:Int)+n.1)),(9,.int .i64 ((↑i:Int)+(1:Int))),(20,.undef),(21,.undef),(22,.undef)] [.box [.int .u8 k,.str r,.str m,.int .i64 d,.sl s.length 5 (Ex.exG s)]])))))))) (.leaf (.ret [.int .i64 c,.bool true] [.box [.int .u8 k,.str r,.str m,.int .i64 d,.sl s.length 5 (Ex.exG s)]]))) (by kernel_rfl) ?_
   simp only [Tree.holds,zd,inR,lo,hi,Int.toNat_natCast]
   refine⟨fun hlt=> ?_,fun hge=> ?_⟩
   ·have hlt1:i<s.length∧c≤limit:=by
     by_cases g1:i<s.length
     ·by_cases g2:c≤limit
      ·exact⟨g1,g2⟩
      ·rw [decide_eq_false (show ¬ (c:Int)≤limit by omega)] at hlt
       cases hx:decide ((i:Int)<s.length)<;>rw [hx] at hlt<;>cases hlt
     ·rw [decide_eq_false (show ¬ (i:Int)<s.length by omega)] at hlt
      cases hlt
    obtain⟨hlt,hcl⟩:=hlt1
    have hg:=Ex.qT hlt
    have ht:=Ex.xt s i hlt
    have h4:=h4 hcl
    iterate 3 refine⟨by omega,fun _=> ?_⟩
    refine⟨(s.getD i Ex.nil,limit - c,deep - 1),⟨?_,by show(s.getD i Ex.nil).size<n; omega,by show limit - c<2^40; omega,by show deep - 1<2^40; omega⟩,⟨(1,false),Nat.le_refl _,by simp,fun h=>by cases h⟩,?_⟩
    ·have e1:(limit:Int) - c=((limit - c:Nat):Int):=by omega
     have e2:(deep:Int) - 1=((deep - 1:Nat):Int):=by omega
     rw [e1,e2]
     exact⟨⟨⟨rfl,rfl⟩,rfl,rfl,⟨rfl,rfl⟩,⟨rfl,rfl,Ex.qI _⟩,trivial⟩,⟨rfl,rfl⟩,⟨rfl,rfl⟩,trivial⟩
    rintro⟨m',b⟩ ⟨g1,g2,g3⟩
    simp only at g1 g2 g3
    refine⟨fun hb=> ?_,fun hb=> ?_⟩
    ·exact RetR.scal (hq (c,false) ⟨by show 1≤c; omega,by show c≤limit+1; omega,fun h=>by cases h⟩) rfl (by simp [resV])
    ·have hb:b=true:=by simpa using hb
     refine⟨by omega,fun _=>⟨by omega,fun _=> ?_⟩⟩
     rw [if_pos trivial]
     refine⟨⟨(c+m',i+1),?_,?_,hlt,?_⟩,by show s.length - (i+1)<s.length - i; omega,?_,by simp [boxE,Ex.exS,za],by kernel_rfl,Nat.zero_le _⟩
     ·show c+m'≤limit+1; omega
     ·show i+1<c+m'; omega
     ·show c+m'≤limit→c+m'=1+Ex.zm (s.take (i+1))
      intro hle
      have:=g3 hb (by omega)
      omega
     ·simp [SCn]
   ·refine RetR.scal (hq (c,true) ⟨by show 1≤c; omega,h1,fun _ hle=> ?_⟩) rfl (by simp [resV])
    simp only at hle
    have hge:i=s.length:=by
     by_cases g1:i<s.length
     ·rw [decide_eq_true (show(i:Int)<s.length by omega),decide_eq_true (show(c:Int)≤limit by omega)] at hge
      cases hge
     ·omega
    have h4:=h4 hle
    rw [hge,List.take_length] at h4
    exact h4
theorem zby:zc Tryz.prog 49 (ctrP true (fun p:Ex×Nat×Nat=>[p.1.exA,.int .i64 (p.2.1:Int),.int .i64 (p.2.2:Int)]) (fun p=>p.2.1<2^40∧p.2.2<2^40)
 (fun p (r:Nat×Bool)=>1≤r.1∧r.1≤p.2.1+1∧(r.2=true→r.1≤p.2.1→r.1=p.1.size)) (fun _ (r:Nat×Bool)=>(.tup [.int .i64 (r.1:Int),.bool r.2],[]))):=vp (fun p=>p.1.size) Ks
def za9(n:Nat):Ctr:=ctrP true (fun x:Ex=>[x.exA]) (fun x=>x.size<n∧x.size<2^60∧x.zo<2^60) (fun x r=>r=x.zo) (fun _ (r:Nat)=>(.int .i64 (r:Int),[]))
def SBy(c i:Nat):KV:=[(1,.ptr 0 0),(3,.int .i64 (c:Int)),(4,.int .i64 (i:Int))]
theorem KS(n:Nat)(ih:zc Tryz.prog 50 (za9 n)):zc Tryz.prog 50 (za9 (n+1)):=by
 refine ze (fn:=Tryz.f50) (c:=Tryz.f50.body.getD .skip) rfl rfl rfl fun x hx O w0 Q hq=> ?_
 replace hq:=hq _ rfl
 obtain⟨hxn,hxs,hxb⟩:=hx
 rw [Ex.Qr] at hq hxb
 rw [Ex.size_eq] at hxn hxs
 obtain⟨k,r,m,d,s⟩:=x
 simp only [Ex.sub,Ex.rat,Ex.name] at hxn hxs hq hxb
 refine zb.run hmix (j5 ih) [1,3,4] 400 (T:=.side (inR .i64 ((↑r.length:Int)+m.length)) (.leaf (.loop (Prod.fst (lps K50 0)) (Prod.snd (lps K50 0)) [(1,.ptr 0 0),(3,.int .i64 ((↑r.length:Int)+m.length)),(4,.int .i64 0)] [.box [.int .u8 k,.str r,.str m,.int .i64 d,.sl s.length 5 (Ex.exG s)]]))) (by kernel_rfl) ?_
 simp only [Tree.holds,zd,inR,lo,hi,Int.toNat_natCast]
 have hlen:=Ex.zS s
 refine⟨by omega,fun _=> ?_⟩
 refine zb.loop (ι:={i:Nat // i≤s.length}) (fun i=>SBy (r.length+m.length+Ex.zO (s.take i.1)) i.1) (fun _=>boxE k r m d s) (fun i=>s.length - i.1) ⟨0,Nat.zero_le _⟩ 0 ?_ ?_ (by kernel_rfl)
 ·exact⟨by simp [SBy,Ex.zO],by simp [boxE,Ex.exS,za],by kernel_rfl,Nat.zero_le _⟩
 ·rintro⟨i,hil⟩
  have hle:=Ex.k6 s i
  obtain⟨c,hc⟩:∃ c,r.length+m.length+Ex.zO (s.take i)=c:=⟨_,rfl⟩
  simp only [hc]
  refine zb.run hmix (j5 ih) [1,3,4] 400 (T:=.ite (decide ((↑i:Int)<s.length)) (.side ((0:Int)≤i∧(↑i:Int)<s.length) (.ex (fun(x:Ex)=>eqL [AV.agg [AV.int .u8 (Ex.kind (s.getD (↑i:Int).toNat Ex.nil)),AV.str (Ex.rat (s.getD (↑i:Int).toNat Ex.nil)),AV.str (Ex.name (s.getD (↑i:Int).toNat Ex.nil)),AV.int .i64 (Ex.date (s.getD (↑i:Int).toNat Ex.nil)),AV.sl (List.length (Ex.sub (s.getD (↑i:Int).toNat Ex.nil))) 5 (Ex.deep (s.getD (↑i:Int).toNat Ex.nil))]] [AV.agg [AV.int .u8 x.kind,AV.str x.rat,AV.str x.name,AV.int .i64 x.date,AV.sl x.sub.length 5 (Ex.exG x.sub)]]∧Ex.size x<n∧Ex.size x<1152921504606846976∧Ex.zo x<1152921504606846976) fun n=>.all (fun(r:Nat)=>r=Ex.zo n) fun n=>.side (inR .i64 ((↑c:Int)+n)) (.side (inR .i64 ((↑i:Int)+(1:Int))) (.leaf (.back 0 [(1,.ptr 0 0),(3,.int .i64 ((↑c:Int)+n)),(4,.int .i64 ((↑i:Int)+(1:Int)))] [.box [.int .u8 k,.str r,.str m,.int .i64 d,.sl s.length 5 (Ex.exG s)]]))))) (.leaf (.ret [.int .i64 c] [.box [.int .u8 k,.str r,.str m,.int .i64 d,.sl s.length 5 (Ex.exG s)]]))) (by kernel_rfl) ?_
  simp only [Tree.holds,zd,inR,lo,hi,Int.toNat_natCast]
  refine⟨fun hlt=> ?_,fun hge=> ?_⟩
  ·have hlt:i<s.length:=by have:=of_decide_eq_true hlt; omega
   have hg:=Ex.qT hlt
   have hg2:=Ex.ZR hlt
   have ht:=Ex.Wy s i hlt
   have hle2:=Ex.k6 s (i+1)
   refine⟨by omega,fun _=>⟨s.getD i Ex.nil,⟨xG rfl rfl rfl rfl rfl (Ex.qI _),by omega,by omega,by omega⟩,⟨_,rfl⟩,?_⟩⟩
   rintro _ rfl
   refine⟨by omega,fun _=>⟨by omega,fun _=> ?_⟩⟩
   rw [if_pos trivial]
   refine⟨⟨i+1,hlt⟩,by show s.length - (i+1)<s.length - i; omega,?_,by simp [boxE,Ex.exS,za],by kernel_rfl,Nat.zero_le _⟩
   simp [SBy,ht]; omega
  ·have hge:i=s.length:=by have:=of_decide_eq_false hge; omega
   subst hge
   rw [List.take_length] at hc
   rw [hc] at hq
   exact RetR.scal hq rfl (by simp [resV])
theorem Ur:zc Tryz.prog 50 (ctrP true (fun x:Ex=>[x.exA]) (fun x=>x.size<2^60∧x.zo<2^60) (fun x r=>r=x.zo) (fun _ (r:Nat)=>(.int .i64 (r:Int),[]))):=vp Ex.size KS
noncomputable def K78:List Go.Sx.Item:=[.code (Tryz.f78.body.getD .skip)]
def UT(n:Nat):Ctr:=ctrP true (fun p:Ex×Nat=>[p.1.exA,.int .i64 (p.2:Int)]) (fun p=>p.1.size<n∧p.1.size<2^62∧p.2<2^40) (fun p r=>r=min p.1.depth (p.2+1)) (fun _ (r:Nat)=>(.int .i64 (r:Int),[]))
def SDp(s:List Ex)(limit c i:Nat):KV:=[(1,.int .i64 (limit:Int)),(5,.int .i64 (c:Int)),(11,Ex.exS s),(12,.int .i64 (s.length:Int)),(13,.int .i64 (i:Int))]
theorem KK(n:Nat)(ih:zc Tryz.prog 78 (UT n)):zc Tryz.prog 78 (UT (n+1)):=by
 refine ze (fn:=Tryz.f78) (c:=Tryz.f78.body.getD .skip) rfl rfl rfl fun p hp O w0 Q hq=> ?_
 obtain⟨x,limit⟩:=p
 obtain⟨hxn,hxs,hli⟩:=hp
 replace hq:=hq _ rfl
 simp only at hxn hxs hli hq
 have hds:=Ex.xd x
 have hdp:=Ex.Uc x
 rw [Ex.yi] at hq hds hdp
 rw [Ex.size_eq] at hxn hxs hds
 obtain⟨k,r,m,d,s⟩:=x
 simp only [Ex.sub] at hxn hxs hq hds hdp
 have hlen:=Ex.zS s
 refine zb.run hmix (j5 ih) [1,5,11,12,13] 400 (T:=.ite (decide ((0:Int)<limit)) (.leaf (.loop (Prod.fst (lps K78 0)) (Prod.snd (lps K78 0)) [(1,.int .i64 limit),(5,.int .i64 0),(11,.sl s.length 5 (Ex.exG s)),(12,.int .i64 s.length),(13,.int .i64 0)] [.box [.int .u8 k,.str r,.str m,.int .i64 d,.sl s.length 5 (Ex.exG s)]])) (.side (inR .i64 (1:Int)) (.leaf (.ret [.int .i64 1] [.box [.int .u8 k,.str r,.str m,.int .i64 d,.sl s.length 5 (Ex.exG s)]])))) (by kernel_rfl) ?_
 simp only [Tree.holds,zd,inR,lo,hi,Int.toNat_natCast]
 refine⟨fun hl=> ?_,fun hl=> ?_⟩
 ·have hl:0<limit:=by have:=of_decide_eq_true hl; omega
  refine zb.loop (ι:={i:Nat // i≤s.length}) (fun i=>SDp s limit (min (Ex.zW (s.take i.1)) limit) i.1) (fun _=>[]) (fun i=>s.length - i.1) ⟨0,Nat.zero_le _⟩ 0 ?_ ?_ (by kernel_rfl)
  ·exact⟨by simp [SDp,Ex.zW,Ex.exS,za],by simp,by kernel_rfl,Nat.zero_le _⟩
  ·rintro⟨i,hil⟩
   obtain⟨c,hc⟩:∃ c,min (Ex.zW (s.take i)) limit=c:=⟨_,rfl⟩
   simp only [hc]
   refine zb.run hmix (j5 ih) [1,5,11,12,13] 400 (T:=.ite (decide ((↑i:Int)<s.length)) (.side ((0:Int)≤i∧(↑i:Int)<s.length) (.side (inR .i64 ((↑limit:Int) - (1:Int))) (.ex (fun(x:Ex×Nat)=>eqL [AV.agg [AV.int .u8 (Ex.kind (s.getD (↑i:Int).toNat Ex.nil)),AV.str (Ex.rat (s.getD (↑i:Int).toNat Ex.nil)),AV.str (Ex.name (s.getD (↑i:Int).toNat Ex.nil)),AV.int .i64 (Ex.date (s.getD (↑i:Int).toNat Ex.nil)),AV.sl (List.length (Ex.sub (s.getD (↑i:Int).toNat Ex.nil))) 5 (Ex.deep (s.getD (↑i:Int).toNat Ex.nil))],AV.int .i64 ((↑limit:Int) - (1:Int))] [AV.agg [AV.int .u8 x.1.kind,AV.str x.1.rat,AV.str x.1.name,AV.int .i64 x.1.date,AV.sl x.1.sub.length 5 (Ex.exG x.1.sub)],AV.int .i64 x.2]∧Ex.size x.1<n∧Ex.size x.1<4611686018427387904∧x.2<1099511627776) fun n=>.all (fun(r:Nat)=>r=min n.1.depth (n.2+1)) fun n=>.side (inR .i64 ((↑i:Int)+(1:Int))) (.leaf (.back 0 [(1,.int .i64 limit),(5,.int .i64 (max (↑c:Int) (↑n:Int))),(11,.sl s.length 5 (Ex.exG s)),(12,.int .i64 s.length),(13,.int .i64 ((↑i:Int)+(1:Int)))] [.box [.int .u8 (Ex.kind (s.getD (↑i:Int).toNat Ex.nil)),.str (Ex.rat (s.getD (↑i:Int).toNat Ex.nil)),.str (Ex.name (s.getD (↑i:Int).toNat Ex.nil)),.int .i64 (Ex.date (s.getD (↑i:Int).toNat Ex.nil)),.sl (List.length (Ex.sub (s.getD (↑i:Int).toNat Ex.nil))) 5 (Ex.deep (s.getD (↑i:Int).toNat Ex.nil))]]))))) (.side (inR .i64 ((↑c:Int)+(1:Int))) (.leaf (.ret [.int .i64 ((↑c:Int)+(1:Int))] [])))) (by kernel_rfl) ?_
   simp only [Tree.holds,zd,inR,lo,hi,Int.toNat_natCast]
   refine⟨fun hlt=> ?_,fun hge=> ?_⟩
   ·have hlt:i<s.length:=by have:=of_decide_eq_true hlt; omega
    have hg:=Ex.qT hlt
    have ht:=Ex.ky s i hlt
    refine⟨by omega,fun _=>⟨by omega,fun _=>⟨(s.getD i Ex.nil,limit - 1),⟨?_,by show(s.getD i Ex.nil).size<n; omega,by show(s.getD i Ex.nil).size<2^62; omega,by show limit - 1<2^40; omega⟩,⟨_,rfl⟩,?_⟩⟩⟩
    ·have e1:(limit:Int) - 1=((limit - 1:Nat):Int):=by omega
     rw [e1]
     exact⟨⟨⟨rfl,rfl⟩,rfl,rfl,⟨rfl,rfl⟩,⟨rfl,rfl,Ex.qI _⟩,trivial⟩,⟨rfl,rfl⟩,trivial⟩
    rintro _ rfl
    refine⟨by omega,fun _=> ?_⟩
    rw [if_pos trivial]
    refine⟨⟨i+1,hlt⟩,by show s.length - (i+1)<s.length - i; omega,?_,by simp,by kernel_rfl,Nat.zero_le _⟩
    simp [SDp,ht,Ex.exS,za]; omega
   ·have hge:i=s.length:=by have:=of_decide_eq_false hge; omega
    subst hge
    rw [List.take_length] at hc
    refine⟨by omega,fun _=> ?_⟩
    exact RetR.scal hq rfl (by simp [resV]; omega)
 ·have hl:limit=0:=by have:=of_decide_eq_false hl; omega
  refine⟨by decide,fun _=> ?_⟩
  exact RetR.scal hq rfl (by simp [resV]; omega)
theorem zbn:zc Tryz.prog 78 (ctrP true (fun p:Ex×Nat=>[p.1.exA,.int .i64 (p.2:Int)]) (fun p=>p.1.size<2^62∧p.2<2^40) (fun p r=>r=min p.1.depth (p.2+1)) (fun _ (r:Nat)=>(.int .i64 (r:Int),[]))):=vp (fun p=>p.1.size) KK
noncomputable def K53:List Go.Sx.Item:=[.code (Tryz.f53.body.getD .skip)]
def zbr:Ctr:=ctrP true (fun p:Ex×Nat×Nat=>[p.1.exA,.int .i64 (p.2.1:Int),.int .i64 (p.2.2:Int)]) (fun p=>p.2.1<2^40∧p.2.2<2^40)
 (fun p (r:Nat×Bool)=>1≤r.1∧r.1≤p.2.1+1∧(r.2=true→r.1≤p.2.1→r.1=p.1.size)) (fun _ (r:Nat×Bool)=>(.tup [.int .i64 (r.1:Int),.bool r.2],[]))
def zc9:Ctr:=ctrP true (fun x:Ex=>[x.exA]) (fun x=>x.size<2^60∧x.zo<2^60) (fun x r=>r=x.zo) (fun _ (r:Nat)=>(.int .i64 (r:Int),[]))
def zar:Ctr:=ctrP true (fun x:Ex=>[x.exA]) (fun x=>x.thin) (fun x r=>r=false→x.size≤600∧x.zo≤3000) (fun _ (r:Bool)=>(.bool r,[]))
noncomputable def GGt:Nat→Option Ctr:=fun f=>if f=49 then some (zbr) else if f=50 then some (zc9) else none
theorem zgo:∀ g c,GGt g=some c→zc Tryz.prog g c:=okIf zby (okIf Ur (zt))
theorem YD:zc Tryz.prog 13 zar:=by
 refine ze (fn:=Tryz.f13) (c:=Tryz.f13.body.getD .skip) rfl rfl rfl fun x hx O w0 Q hq=> ?_
 have hb:=Ex.Q9 x hx
 obtain⟨k,r,m,d,s⟩:=x
 refine zb.run hmix zgo [] 400 (T:=.ex (fun(x:Ex×Nat×Nat)=>eqL [AV.agg [AV.int .u8 k,AV.str r,AV.str m,AV.int .i64 d,AV.sl s.length 5 (Ex.exG s)],AV.int .i64 600,AV.int .i64 100] [AV.agg [AV.int .u8 x.1.kind,AV.str x.1.rat,AV.str x.1.name,AV.int .i64 x.1.date,AV.sl x.1.sub.length 5 (Ex.exG x.1.sub)],AV.int .i64 x.2.1,AV.int .i64 x.2.2]∧x.2.1<1099511627776∧x.2.2<1099511627776) fun n=>.all (fun(r:Nat×Bool)=>1≤r.1∧r.1≤n.2.1+1∧(r.2=true→r.1≤n.2.1→r.1=Ex.size n.1)) fun n=>.ex (fun(x:Ex)=>(bif !Prod.snd n then true else decide ((600:Int)<n.1))=false→eqL [AV.agg [AV.int .u8 k,AV.str r,AV.str m,AV.int .i64 d,AV.sl s.length 5 (Ex.exG s)]] [AV.agg [AV.int .u8 x.kind,AV.str x.rat,AV.str x.name,AV.int .i64 x.date,AV.sl x.sub.length 5 (Ex.exG x.sub)]]∧Ex.size x<1152921504606846976∧Ex.zo x<1152921504606846976) fun n_1=>.all (fun(x:Nat)=>(bif !Prod.snd n then true else decide ((600:Int)<n.1))=false→x=Ex.zo n_1) fun n_2=>.leaf (.ret [.bool (bif bif !Prod.snd n then true else decide ((600:Int)<n.1) then true else decide ((3000:Int)<n_2))] [.box [.int .u8 k,.str r,.str m,.int .i64 d,.sl s.length 5 (Ex.exG s)]])) (by kernel_rfl) ?_
 simp only [Tree.holds,zd,inR,lo,hi,Int.toNat_natCast]
 refine⟨(.mk k r m d s,600,100),⟨⟨⟨⟨rfl,rfl⟩,rfl,rfl,⟨rfl,rfl⟩,⟨rfl,rfl,za _ _ _⟩,trivial⟩,⟨rfl,rfl⟩,⟨rfl,rfl⟩,trivial⟩,by show 600<1099511627776; omega,by show 100<1099511627776; omega⟩,⟨(1,false),Nat.le_refl _,by show 1≤600+1; omega,fun h=>by cases h⟩,?_⟩
 rintro⟨c,b⟩ ⟨g1,g2,g3⟩
 simp only at g1 g2 g3
 have hsz:(bif !b then true else decide (600<(c:Int)))=false→(Ex.mk k r m d s).size≤600:=by
  intro h
  cases b with
  | false=>cases h
  | true=>
   have h:¬ 600<(c:Int):=of_decide_eq_false h
   have:=g3 rfl (by omega)
   omega
 refine⟨.mk k r m d s,fun h=>⟨⟨⟨⟨rfl,rfl⟩,rfl,rfl,⟨rfl,rfl⟩,⟨rfl,rfl,za _ _ _⟩,trivial⟩,trivial⟩,by have:=hsz h; omega,by have:=hsz h; omega⟩,⟨_,fun _=>rfl⟩,?_⟩
 intro c2 hc2
 refine RetR.scal (hq (bif (bif !b then true else decide (600<(c:Int))) then true else decide (3000<(c2:Int))) fun h=> ?_) rfl (by simp [resV])
 cases ht:(bif !b then true else decide (600<(c:Int))) with
 | true=>rw [ht] at h; cases h
 | false=>
  rw [ht] at h
  have h2:=hc2 ht
  have h:¬ 3000<(c2:Int):=of_decide_eq_false h
  exact⟨hsz ht,by omega⟩
def zft:Ctr:=ctrP true (fun x:Ex=>[x.exA]) (fun x=>x.rat.length<2^40∧x.name.length<2^40) (fun x r=>r=bif jg x.kind x.rat x.name x.date x.sub.length then 1 else 0) (fun _ (r:Int)=>(.int .u8 r,[]))
noncomputable def GLf:Nat→Option Ctr:=fun f=>if f=35 then some (yf) else if f=33 then some (VG) else if f=34 then some (We) else none
theorem zgd:∀ g c,GLf g=some c→zc Tryz.prog g c:=okIf kW (okIf JL (okIf Jm (zt)))
theorem zeu:zc Tryz.prog 82 zft:=by
 refine ze (fn:=Tryz.f82) (c:=Tryz.f82.body.getD .skip) rfl rfl rfl fun x hx O w0 Q hq=> ?_
 obtain⟨k,r,m,d,s⟩:=x
 replace hq:=hq _ rfl
 obtain⟨h1,h2⟩:=hx
 simp only [Ex.rat,Ex.name,Ex.kind,Ex.date,Ex.sub] at h1 h2 hq
 refine zb.run hmix zgd [] 400 (T:=.ite (decide (k=1)) (.ex (fun(x:List UInt8)=>decide ((↑s.length:Int)=0)=true→eqL [AV.str r] [AV.str x]∧x.length<4611686018427387904) fun n=>.all (fun(x:Int)=>decide ((↑s.length:Int)=0)=true→x=errR n) fun n=>.ite (!bif bif bif decide ((↑s.length:Int)=0) then decide (n=0) else false then decide (m=#[].toList) else false then decide (d=0) else false) (.leaf (.ret [.int .u8 0] [.box [.int .u8 k,.str r,.str m,.int .i64 d,.sl s.length 5 (Ex.exG s)]])) (.leaf (.ret [.int .u8 1] [.box [.int .u8 k,.str r,.str m,.int .i64 d,.sl s.length 5 (Ex.exG s)]]))) (.ite (decide (k=2)) (.ex (fun(x:List UInt8)=>(bif decide ((↑s.length:Int)=0) then decide (r=#[].toList) else false)=true→eqL [AV.str m] [AV.str x]∧x.length<4611686018427387904) fun n=>.all (fun(x:Bool)=>(bif decide ((↑s.length:Int)=0) then decide (r=#[].toList) else false)=true→x=qe n) fun n=>.ex (fun(x:Int)=>(bif bif decide ((↑s.length:Int)=0) then decide (r=#[].toList) else false then n else false)=true→eqL [AV.int .i64 d] [AV.int .i64 x]∧True) fun n_1=>.all (fun(x:Bool)=>(bif bif decide ((↑s.length:Int)=0) then decide (r=#[].toList) else false then n else false)=true→x=dayB n_1) fun n_2=>.ite (!bif bif bif decide ((↑s.length:Int)=0) then decide (r=#[].toList) else false then n else false then n_2 else false) (.leaf (.ret [.int .u8 0] [.box [.int .u8 k,.str r,.str m,.int .i64 d,.sl s.length 5 (Ex.exG s)]])) (.leaf (.ret [.int .u8 1] [.box [.int .u8 k,.str r,.str m,.int .i64 d,.sl s.length 5 (Ex.exG s)]]))) (.ite (decide (k=3)) (.ex (fun(x:List UInt8)=>(bif decide ((↑s.length:Int)=0) then decide (r=#[].toList) else false)=true→eqL [AV.str m] [AV.str x]∧x.length<4611686018427387904) fun n=>.all (fun(x:Bool)=>(bif decide ((↑s.length:Int)=0) then decide (r=#[].toList) else false)=true→x=qe n) fun n=>.ite (!bif bif bif decide ((↑s.length:Int)=0) then decide (r=#[].toList) else false then n else false then decide (d=0) else false) (.leaf (.ret [.int .u8 0] [.box [.int .u8 k,.str r,.str m,.int .i64 d,.sl s.length 5 (Ex.exG s)]])) (.leaf (.ret [.int .u8 1] [.box [.int .u8 k,.str r,.str m,.int .i64 d,.sl s.length 5 (Ex.exG s)]]))) (.ite true (.leaf (.ret [.int .u8 0] [.box [.int .u8 k,.str r,.str m,.int .i64 d,.sl s.length 5 (Ex.exG s)]])) (.leaf (.ret [.int .u8 1] [.box [.int .u8 k,.str r,.str m,.int .i64 d,.sl s.length 5 (Ex.exG s)]])))))) (by kernel_rfl) ?_
 simp only [Tree.holds,zd,inR,lo,hi,Int.toNat_natCast]
 have fin:∀ T:Bool,T=jg k r m d s.length→((!T)=true→Q (.int .u8 0,[]))∧((!T)=false→Q (.int .u8 1,[])):=by
  intro T hT
  subst hT
  cases hl:jg k r m d s.length with
  | true=>rw [hl] at hq; exact⟨fun h=>(by cases h),fun _=>hq⟩
  | false=>rw [hl] at hq; exact⟨fun _=>hq,fun h=>(by cases h)⟩
 refine⟨fun hk=> ?_,fun hk=> ?_⟩
 ·have hk:k=1:=of_decide_eq_true hk
  refine⟨r,fun _=>⟨by simp,by omega⟩,⟨_,fun _=>rfl⟩,?_⟩
  intro e he
  have F:=fin (bif bif bif decide ((s.length:Int)=0) then decide (e=0) else false then decide (m=[]) else false then decide (d=0) else false) (by
   by_cases hl:s.length=0
   ·have:=he (by simp [hl])
    subst this
    simp [jg,hk,hl,Bool.and_assoc]
   ·simp [jg,hl])
  exact⟨fun h=>RetR.scal (F.1 h) rfl (by simp [resV]),fun h=>RetR.scal (F.2 h) rfl (by simp [resV])⟩
 ·have hk1:k≠1:=of_decide_eq_false hk
  refine⟨fun hk=> ?_,fun hk=> ?_⟩
  ·have hk:k=2:=of_decide_eq_true hk
   refine⟨m,fun _=>⟨by simp,by omega⟩,⟨_,fun _=>rfl⟩,?_⟩
   intro e he
   refine⟨d,fun _=>⟨by simp,trivial⟩,⟨_,fun _=>rfl⟩,?_⟩
   intro f hf
   have F:=fin (bif bif bif decide ((s.length:Int)=0) then decide (r=[]) else false then e else false then f else false) (by
    by_cases hl:s.length=0
    ·by_cases hr:r=[]
     ·have:=he (by simp [hl,hr])
      subst this
      cases hn:qe m with
      | true=>
       have:=hf (by simp [hl,hr,hn])
       subst this
       simp [jg,hk,hl,hr,hn]
      | false=>simp [jg,hk,hl,hr,hn]
     ·simp [jg,hk,hl,hr]
    ·simp [jg,hl])
   exact⟨fun h=>RetR.scal (F.1 h) rfl (by simp [resV]),fun h=>RetR.scal (F.2 h) rfl (by simp [resV])⟩
  ·have hk2:k≠2:=of_decide_eq_false hk
   refine⟨fun hk=> ?_,fun hk=> ?_⟩
   ·have hk:k=3:=of_decide_eq_true hk
    refine⟨m,fun _=>⟨by simp,by omega⟩,⟨_,fun _=>rfl⟩,?_⟩
    intro e he
    have F:=fin (bif bif bif decide ((s.length:Int)=0) then decide (r=[]) else false then e else false then decide (d=0) else false) (by
     by_cases hl:s.length=0
     ·by_cases hr:r=[]
      ·have:=he (by simp [hl,hr])
       subst this
       simp [jg,hk,hl,hr]
      ·simp [jg,hk,hl,hr]
     ·simp [jg,hl])
    exact⟨fun h=>RetR.scal (F.1 h) rfl (by simp [resV]),fun h=>RetR.scal (F.2 h) rfl (by simp [resV])⟩
   ·have hk3:k≠3:=of_decide_eq_false hk
    have F:=fin false (by simp [jg,hk1,hk2,hk3])
    exact⟨fun h=>RetR.scal (F.1 rfl) rfl (by simp [resV]),fun h=>by cases h⟩
def SSo(s:List Ex)(i:Nat):KV:=[(3,.ptr 1 0),(41,Ex.exS s),(42,.int .i64 (s.length:Int)),(43,.int .i64 (i:Int))]
def HSo(k:Int):Heap:=[.dead,.box [.sl (jc k) 1 fun j _=>.int .u8 (qq k j),.int .u8 (ja k)]]
def Yr(n:Nat):Ctr:=ctrP true (fun x:Ex=>[x.exA]) (fun x=>x.size<n∧x.size<2^60∧x.zo<2^40) (fun x r=>r=x.zC) (fun _ (r:Int)=>(.int .u8 r,[]))
def GSo(n:Nat):Nat→Option Ctr:=fun f=>if f=53 then some (Yr n) else if f=82 then some zft else none
theorem zb2{n:Nat}(h:zc Tryz.prog 53 (Yr n)):∀ f c,GSo n f=some c→zc Tryz.prog f c:=by
 intro f c hf
 simp only [GSo] at hf
 split at hf
 ·rename_i hg; subst hg; cases hf; exact h
 ·split at hf
  ·rename_i hg; subst hg; cases hf; exact zeu
  ·cases hf
theorem YS(n:Nat)(ih:zc Tryz.prog 53 (Yr n)):zc Tryz.prog 53 (Yr (n+1)):=by
 refine ze (fn:=Tryz.f53) (c:=Tryz.f53.body.getD .skip) rfl rfl rfl fun x hx O w0 Q hq=> ?_
 replace hq:=hq _ rfl
 obtain⟨hxn,hxs,hxb⟩:=hx
 rw [Ex.size_eq] at hxn hxs
 rw [Ex.Qr] at hxb
 rw [Ex.UQ] at hq
 obtain⟨k,r,m,d,s⟩:=x
 simp only [Ex.sub,Ex.rat,Ex.name,Ex.kind,Ex.date] at hxn hxs hq hxb
 refine zb.run hmix (zb2 ih) [3,41,42,43] 400 (T:=.ite (js k) (.ite false (.ex (fun(x:Ex)=>eqL [AV.agg [AV.int .u8 k,AV.str r,AV.str m,AV.int .i64 d,AV.sl s.length 5 (Ex.exG s)]] [AV.agg [AV.int .u8 x.kind,AV.str x.rat,AV.str x.name,AV.int .i64 x.date,AV.sl x.sub.length 5 (Ex.exG x.sub)]]∧x.rat.length<1099511627776∧x.name.length<1099511627776) fun n=>.all (fun(r:Int)=>r=bif jg n.kind n.rat n.name n.date n.sub.length then(1:Int) else(0:Int)) fun n=>.leaf (.ret [.int .u8 n] [.box [.int .u8 k,.str r,.str m,.int .i64 d,.sl s.length 5 (Ex.exG s)],.box [.sl (jc k) 1 fun(j x:Nat)=>.int .u8 (qq k j),.int .u8 (ja k)]])) (.ite (bif bif bif !decide ((↑s.length:Int)=(↑(jc k):Int)) then true else !decide (r=#[].toList) then true else !decide (m=#[].toList) then true else !decide (d=0)) (.leaf (.ret [.int .u8 0] [.box [.int .u8 k,.str r,.str m,.int .i64 d,.sl s.length 5 (Ex.exG s)],.box [.sl (jc k) 1 fun(j x:Nat)=>.int .u8 (qq k j),.int .u8 (ja k)]])) (.leaf (.loop (Prod.fst (lps K53 0)) (Prod.snd (lps K53 0)) [(3,.ptr 1 0),(41,.sl s.length 5 (Ex.exG s)),(42,.int .i64 s.length),(43,.int .i64 0)] [.box [.int .u8 k,.str r,.str m,.int .i64 d,.sl s.length 5 (Ex.exG s)],.box [.sl (jc k) 1 fun(j x:Nat)=>.int .u8 (qq k j),.int .u8 (ja k)]])))) (.ite true (.ex (fun(x:Ex)=>eqL [AV.agg [AV.int .u8 k,AV.str r,AV.str m,AV.int .i64 d,AV.sl s.length 5 (Ex.exG s)]] [AV.agg [AV.int .u8 x.kind,AV.str x.rat,AV.str x.name,AV.int .i64 x.date,AV.sl x.sub.length 5 (Ex.exG x.sub)]]∧x.rat.length<1099511627776∧x.name.length<1099511627776) fun n=>.all (fun(r:Int)=>r=bif jg n.kind n.rat n.name n.date n.sub.length then(1:Int) else(0:Int)) fun n=>.leaf (.ret [.int .u8 n] [.box [.int .u8 k,.str r,.str m,.int .i64 d,.sl s.length 5 (Ex.exG s)],.box [.nils,.int .u8 0]])) (.ite (bif bif bif !decide ((↑s.length:Int)=0) then true else !decide (r=#[].toList) then true else !decide (m=#[].toList) then true else !decide (d=0)) (.leaf (.ret [.int .u8 0] [.box [.int .u8 k,.str r,.str m,.int .i64 d,.sl s.length 5 (Ex.exG s)],.box [.nils,.int .u8 0]])) (.leaf (.loop (Prod.fst (lps K53 0)) (Prod.snd (lps K53 0)) [(3,.ptr 1 0),(41,.sl s.length 5 (Ex.exG s)),(42,.int .i64 s.length),(43,.int .i64 0)] [.box [.int .u8 k,.str r,.str m,.int .i64 d,.sl s.length 5 (Ex.exG s)],.box [.nils,.int .u8 0]]))))) (by kernel_rfl) ?_
 simp only [Tree.holds,zd,inR,lo,hi,Int.toNat_natCast]
 refine⟨fun hk=>⟨fun h=>(by cases h),fun _=>⟨fun h=> ?_,fun h=> ?_⟩⟩,fun hk=> ?_⟩
 ·have hn:¬ (r=[]∧m=[]∧d=0∧Ex.qR s=qL k):=by
   rintro⟨rfl,rfl,rfl,h4⟩
   have:s.length=jc k:=by rw [← Ex.jG,h4]; rfl
   simp [this] at h
  have e:jd k r m d (Ex.qR s)=0:=by unfold jd; rw [if_pos hk,if_neg hn]
  exact RetR.scal hq rfl (by simp [resV,e])
 ·have hh:s.length=jc k∧r=[]∧m=[]∧d=0:=by
   simp at h
   obtain⟨⟨⟨h1,h2⟩,h3⟩,h4⟩:=h
   exact⟨by omega,h2,h3,h4⟩
  obtain⟨hl,rfl,rfl,rfl⟩:=hh
  have hlen:=Ex.zS s
  have e1:jd k [] [] 0 (Ex.qR s)=if Ex.qR s=qL k then ja k else 0:=by unfold jd; rw [if_pos hk]; simp
  rw [e1] at hq
  clear h e1
  refine zb.loop (ι:={i:Nat // i≤s.length∧∀ j,j<i→(s.getD j Ex.nil).zC=qq k j}) (fun i=>SSo s i.1) (fun _=>HSo k) (fun i=>s.length - i.1) ⟨0,Nat.zero_le _,fun j hj=>by omega⟩ 0 ?_ ?_ (by kernel_rfl)
  ·exact⟨by simp [SSo,Ex.exS,za],by simp [HSo,za],by kernel_rfl,Nat.zero_le _⟩
  ·rintro⟨i,hil,hib⟩
   refine zb.run hmix (zb2 ih) [3,41,42,43] 400 (T:=.ite (decide ((↑i:Int)<s.length)) (.side ((0:Int)≤i∧(↑i:Int)<s.length) (.side ((0:Int)≤i∧(↑i:Int)<(↑(jc k):Int)) (.ex (fun(x:Ex)=>eqL [AV.agg [AV.int .u8 (Ex.kind (s.getD (↑i:Int).toNat Ex.nil)),AV.str (Ex.rat (s.getD (↑i:Int).toNat Ex.nil)),AV.str (Ex.name (s.getD (↑i:Int).toNat Ex.nil)),AV.int .i64 (Ex.date (s.getD (↑i:Int).toNat Ex.nil)),AV.sl (List.length (Ex.sub (s.getD (↑i:Int).toNat Ex.nil))) 5 (Ex.deep (s.getD (↑i:Int).toNat Ex.nil))]] [AV.agg [AV.int .u8 x.kind,AV.str x.rat,AV.str x.name,AV.int .i64 x.date,AV.sl x.sub.length 5 (Ex.exG x.sub)]]∧Ex.size x<n∧Ex.size x<1152921504606846976∧Ex.zo x<1099511627776) fun n=>.all (fun(r:Int)=>r=Ex.zC n) fun n=>.ite (!decide (n=qq k (↑i:Int).toNat)) (.leaf (.ret [.int .u8 0] [.dead,.box [.sl (jc k) 1 fun(j x:Nat)=>.int .u8 (qq k j),.int .u8 (ja k)],.box [.int .u8 (Ex.kind (s.getD (↑i:Int).toNat Ex.nil)),.str (Ex.rat (s.getD (↑i:Int).toNat Ex.nil)),.str (Ex.name (s.getD (↑i:Int).toNat Ex.nil)),.int .i64 (Ex.date (s.getD (↑i:Int).toNat Ex.nil)),.sl (List.length (Ex.sub (s.getD (↑i:Int).toNat Ex.nil))) 5 (Ex.deep (s.getD (↑i:Int).toNat Ex.nil))]])) (.side (inR .i64 ((↑i:Int)+(1:Int))) (.leaf (.back 0 [(3,.ptr 1 0),(41,.sl s.length 5 (Ex.exG s)),(42,.int .i64 s.length),(43,.int .i64 ((↑i:Int)+(1:Int)))] [.dead,.box [.sl (jc k) 1 fun(j x:Nat)=>.int .u8 (qq k j),.int .u8 (ja k)],.box [.int .u8 (Ex.kind (s.getD (↑i:Int).toNat Ex.nil)),.str (Ex.rat (s.getD (↑i:Int).toNat Ex.nil)),.str (Ex.name (s.getD (↑i:Int).toNat Ex.nil)),.int .i64 (Ex.date (s.getD (↑i:Int).toNat Ex.nil)),.sl (List.length (Ex.sub (s.getD (↑i:Int).toNat Ex.nil))) 5 (Ex.deep (s.getD (↑i:Int).toNat Ex.nil))]])))))) (.leaf (.ret [.int .u8 (ja k)] [.dead,.box [.sl (jc k) 1 fun(j x:Nat)=>.int .u8 (qq k j),.int .u8 (ja k)]]))) (by kernel_rfl) ?_
   simp only [Tree.holds,zd,inR,lo,hi,Int.toNat_natCast]
   refine⟨fun hlt=> ?_,fun hge=> ?_⟩
   ·have hlt:i<s.length:=by have:=of_decide_eq_true hlt; omega
    have hg:=Ex.qT hlt
    have hg2:=Ex.ZR hlt
    have hb0:Ex.zO s<2^40:=by simpa using hxb
    refine⟨by omega,fun _=>⟨by omega,fun _=>⟨s.getD i Ex.nil,⟨xG rfl rfl rfl rfl rfl (Ex.qI _),by omega,by omega,by omega⟩,⟨_,rfl⟩,?_⟩⟩⟩
    intro e he
    refine⟨fun h=> ?_,fun h=>⟨by omega,fun _=> ?_⟩⟩
    ·have hne:¬ Ex.qR s=qL k:=by
      intro h2
      have:=(Ex.W3.1 h2).2 i hlt
      rw [← he] at this
      have h3:¬ e=qq k i:=by simpa using h
      exact h3 this
     rw [if_neg hne] at hq
     exact RetR.scal hq rfl (by simp [resV])
    ·rw [if_pos trivial]
     have h3:e=qq k i:=by simpa using h
     refine⟨⟨i+1,hlt,fun j hj=> ?_⟩,by show s.length - (i+1)<s.length - i; omega,by simp [SSo,Ex.exS,za],by simp [HSo,za],by kernel_rfl,Nat.zero_le _⟩
     rcases Nat.lt_or_ge j i with h1 | h1
     ·exact hib j h1
     ·have:j=i:=by omega
      rw [this,← he,h3]
   ·have hge:i=s.length:=by have:=of_decide_eq_false hge; omega
    subst hge
    have:Ex.qR s=qL k:=Ex.W3.2 ⟨hl,hib⟩
    rw [if_pos this] at hq
    exact RetR.scal hq rfl (by simp [resV])
 ·refine⟨fun _=> ?_,fun h=>(by cases h)⟩
  refine⟨.mk k r m d s,⟨⟨⟨⟨rfl,rfl⟩,rfl,rfl,⟨rfl,rfl⟩,⟨rfl,rfl,za _ _ _⟩,trivial⟩,trivial⟩,by show r.length<_; omega,by show m.length<_; omega⟩,⟨_,rfl⟩,?_⟩
  intro e he
  have e1:jd k r m d (Ex.qR s)=e:=by
   unfold jd
   rw [if_neg (by rw [hk]; decide),he,Ex.jG]
   show _=bif jg k r m d s.length then 1 else 0
   cases jg k r m d s.length<;>rfl
  rw [e1] at hq
  exact RetR.scal hq rfl (by simp [resV])
def JG:Ctr:=ctrP true (fun x:Ex=>[x.exA]) (fun x=>x.size<2^60∧x.zo<2^40) (fun x r=>r=x.zC) (fun _ (r:Int)=>(.int .u8 r,[]))
theorem XR:zc Tryz.prog 53 JG:=vp Ex.size YS
def Vt:Ctr:=ctrP true (fun x:Ex=>[x.exA]) (fun x=>x.size<2^62) (fun x r=>r=x.size) (fun _ (r:Nat)=>(.int .i64 (r:Int),[]))
def zb6:Ctr:=ctrP true (fun p:Ex×Nat=>[p.1.exA,.int .i64 (p.2:Int)]) (fun p=>p.1.size<2^62∧p.2<2^40) (fun p r=>r=min p.1.depth (p.2+1)) (fun _ (r:Nat)=>(.int .i64 (r:Int),[]))
def J6:Ctr:=ctrP true (fun x:Ex=>[x.exA]) (fun x=>x.size<2^40∧x.zo<2^40) (fun x r=>r=x.errX) (fun _ (r:Int)=>(.int .i64 r,[]))
def Yi(z:Int):Ctr:=ctrP true (fun x:Ex=>[x.exA]) (fun x=>x.size<2^40∧x.zo<2^40) (fun x r=>r=(decide (x.errX=0)&&decide (x.zC=z))) (fun _ (r:Bool)=>(.bool r,[]))
theorem eqX(x:Ex):eqL [.agg [.int .u8 x.kind,.str x.rat,.str x.name,.int .i64 x.date,.sl x.sub.length 5 (Ex.exG x.sub)]] [x.exA]:=xG rfl rfl rfl rfl rfl (za _ _ _)
theorem Yz{x:Ex}{n:Nat}(hn:decide (500<(x.size:Int))=false→(60<n↔60<x.depth)) :
  ((bif decide (500<(x.size:Int)) then true else decide (60<(n:Int)))=true→x.errX=4)∧((bif decide (500<(x.size:Int)) then true else decide (60<(n:Int)))=false→x.errX=if x.zC=0 then 8 else 0):=by
 by_cases h:500<x.size
 ·have e:decide (500<(x.size:Int))=true:=decide_eq_true (by omega)
  rw [e]
  exact⟨fun _=>if_pos (.inl h),fun h=>by cases h⟩
 ·have e:decide (500<(x.size:Int))=false:=decide_eq_false (by omega)
  have h2:=hn e
  rw [e]
  simp only [cond_false]
  by_cases h3:60<n
  ·exact⟨fun _=>if_pos (.inr (h2.1 h3)),fun h=>by have:=of_decide_eq_false h; omega⟩
  ·refine⟨fun h=>by have:=of_decide_eq_true h; omega,fun _=> ?_⟩
   unfold Ex.errX
   rw [if_neg]
   rintro(h4 | h4)
   ·exact h h4
   ·exact h3 (h2.2 h4)
noncomputable def GCk:Nat→Option Ctr:=fun f=>if f=17 then some (Vt) else if f=78 then some (zb6) else if f=53 then some (JG) else none
theorem zgb:∀ g c,GCk g=some c→zc Tryz.prog g c:=okIf Ye (okIf zbn (okIf XR (zt)))
theorem Jn:zc Tryz.prog 51 J6:=by
 refine ze (fn:=Tryz.f51) (c:=Tryz.f51.body.getD .skip) rfl rfl rfl fun x hx O w0 Q hq=> ?_
 replace hq:=hq _ rfl
 obtain⟨h1,h2⟩:=hx
 refine zb.run hmix zgb [] 400 (T:=.ex (fun(x_1:Ex)=>eqL [AV.agg [AV.int .u8 x.kind,AV.str x.rat,AV.str x.name,AV.int .i64 x.date,AV.sl x.sub.length 5 (Ex.exG x.sub)]] [AV.agg [AV.int .u8 x_1.kind,AV.str x_1.rat,AV.str x_1.name,AV.int .i64 x_1.date,AV.sl x_1.sub.length 5 (Ex.exG x_1.sub)]]∧Ex.size x_1<4611686018427387904) fun n=>.all (fun(r:Nat)=>r=Ex.size n) fun n=>.ex (fun(x_1:Ex×Nat)=>decide ((500:Int)<n)=false→eqL [AV.agg [AV.int .u8 x.kind,AV.str x.rat,AV.str x.name,AV.int .i64 x.date,AV.sl x.sub.length 5 (Ex.exG x.sub)],AV.int .i64 60] [AV.agg [AV.int .u8 x_1.1.kind,AV.str x_1.1.rat,AV.str x_1.1.name,AV.int .i64 x_1.1.date,AV.sl x_1.1.sub.length 5 (Ex.exG x_1.1.sub)],AV.int .i64 x_1.2]∧Ex.size x_1.1<4611686018427387904∧x_1.2<1099511627776) fun n_1=>.all (fun(x:Nat)=>decide ((500:Int)<n)=false→x=min n_1.1.depth (n_1.2+1)) fun n_2=>.ite (bif decide ((500:Int)<n) then true else decide ((60:Int)<n_2)) (.leaf (.ret [.int .i64 4] [.box [.int .u8 x.kind,.str x.rat,.str x.name,.int .i64 x.date,.sl x.sub.length 5 (Ex.exG x.sub)]])) (.ex (fun(x_1:Ex)=>eqL [AV.agg [AV.int .u8 x.kind,AV.str x.rat,AV.str x.name,AV.int .i64 x.date,AV.sl x.sub.length 5 (Ex.exG x.sub)]] [AV.agg [AV.int .u8 x_1.kind,AV.str x_1.rat,AV.str x_1.name,AV.int .i64 x_1.date,AV.sl x_1.sub.length 5 (Ex.exG x_1.sub)]]∧Ex.size x_1<1152921504606846976∧Ex.zo x_1<1099511627776) fun n=>.all (fun(r:Int)=>r=Ex.zC n) fun n=>.ite (decide (n=0)) (.leaf (.ret [.int .i64 8] [.box [.int .u8 x.kind,.str x.rat,.str x.name,.int .i64 x.date,.sl x.sub.length 5 (Ex.exG x.sub)]])) (.leaf (.ret [.int .i64 0] [.box [.int .u8 x.kind,.str x.rat,.str x.name,.int .i64 x.date,.sl x.sub.length 5 (Ex.exG x.sub)]])))) (by kernel_rfl) ?_
 simp only [Tree.holds,zd,inR,lo,hi,Int.toNat_natCast]
 refine⟨x,⟨xG rfl rfl rfl rfl rfl (za _ _ _),by omega⟩,⟨_,rfl⟩,?_⟩
 rintro _ rfl
 refine⟨(x,60),fun _=>⟨⟨⟨⟨rfl,rfl⟩,rfl,rfl,⟨rfl,rfl⟩,⟨rfl,rfl,za _ _ _⟩,trivial⟩,⟨rfl,rfl⟩,trivial⟩,by show x.size<_; omega,by show 60<1099511627776; omega⟩,⟨_,fun _=>rfl⟩,?_⟩
 intro c hc
 have em:=Yz (x:=x) (n:=c) fun h=>by have:=hc h; simp only at this; omega
 refine⟨fun h=> ?_,fun h=>⟨x,⟨eqX x,by omega,by omega⟩,⟨_,rfl⟩,?_⟩⟩
 ·rw [em.1 h] at hq
  exact RetR.scal hq rfl (by simp [resV])
 ·have e:=em.2 h
  rintro _ rfl
  refine⟨fun g=> ?_,fun g=> ?_⟩
  ·rw [e,if_pos (of_decide_eq_true g)] at hq
   exact RetR.scal hq rfl (by simp [resV])
  ·rw [e,if_neg (of_decide_eq_false g)] at hq
   exact RetR.scal hq rfl (by simp [resV])
noncomputable def GNu:Nat→Option Ctr:=fun f=>if f=51 then some (J6) else if f=53 then some (JG) else none
theorem zay:∀ g c,GNu g=some c→zc Tryz.prog g c:=okIf Jn (okIf XR (zt))
theorem zhb:zc Tryz.prog 15 (Yi 1):=by
 refine ze (fn:=Tryz.f15) (c:=Tryz.f15.body.getD .skip) rfl rfl rfl fun x hx O w0 Q hq=> ?_
 replace hq:=hq _ rfl
 obtain⟨h1,h2⟩:=hx
 refine zb.run hmix zay [] 400 (T:=.ex (fun(x_1:Ex)=>eqL [AV.agg [AV.int .u8 x.kind,AV.str x.rat,AV.str x.name,AV.int .i64 x.date,AV.sl x.sub.length 5 (Ex.exG x.sub)]] [AV.agg [AV.int .u8 x_1.kind,AV.str x_1.rat,AV.str x_1.name,AV.int .i64 x_1.date,AV.sl x_1.sub.length 5 (Ex.exG x_1.sub)]]∧Ex.size x_1<1099511627776∧Ex.zo x_1<1099511627776) fun n=>.all (fun(r:Int)=>r=Ex.errX n) fun n=>.ex (fun(x_1:Ex)=>decide (n=0)=true→eqL [AV.agg [AV.int .u8 x.kind,AV.str x.rat,AV.str x.name,AV.int .i64 x.date,AV.sl x.sub.length 5 (Ex.exG x.sub)]] [AV.agg [AV.int .u8 x_1.kind,AV.str x_1.rat,AV.str x_1.name,AV.int .i64 x_1.date,AV.sl x_1.sub.length 5 (Ex.exG x_1.sub)]]∧Ex.size x_1<1152921504606846976∧Ex.zo x_1<1099511627776) fun n_1=>.all (fun(x:Int)=>decide (n=0)=true→x=Ex.zC n_1) fun n_2=>.leaf (.ret [.bool (bif decide (n=0) then decide (n_2=1) else false)] [.box [.int .u8 x.kind,.str x.rat,.str x.name,.int .i64 x.date,.sl x.sub.length 5 (Ex.exG x.sub)]])) (by kernel_rfl) ?_
 simp only [Tree.holds,zd,inR,lo,hi,Int.toNat_natCast]
 refine⟨x,⟨eqX x,by omega,by omega⟩,⟨_,rfl⟩,?_⟩
 rintro _ rfl
 refine⟨x,fun _=>⟨eqX x,by omega,by omega⟩,⟨_,fun _=>rfl⟩,?_⟩
 intro c hc
 refine RetR.scal hq rfl ?_
 cases h:decide (x.errX=0) with
 | false=>rfl
 | true=>rw [hc h]; rfl
theorem UG:zc Tryz.prog 16 (Yi 2):=by
 refine ze (fn:=Tryz.f16) (c:=Tryz.f16.body.getD .skip) rfl rfl rfl fun x hx O w0 Q hq=> ?_
 replace hq:=hq _ rfl
 obtain⟨h1,h2⟩:=hx
 refine zb.run hmix zay [] 400 (T:=.ex (fun(x_1:Ex)=>eqL [AV.agg [AV.int .u8 x.kind,AV.str x.rat,AV.str x.name,AV.int .i64 x.date,AV.sl x.sub.length 5 (Ex.exG x.sub)]] [AV.agg [AV.int .u8 x_1.kind,AV.str x_1.rat,AV.str x_1.name,AV.int .i64 x_1.date,AV.sl x_1.sub.length 5 (Ex.exG x_1.sub)]]∧Ex.size x_1<1099511627776∧Ex.zo x_1<1099511627776) fun n=>.all (fun(r:Int)=>r=Ex.errX n) fun n=>.ex (fun(x_1:Ex)=>decide (n=0)=true→eqL [AV.agg [AV.int .u8 x.kind,AV.str x.rat,AV.str x.name,AV.int .i64 x.date,AV.sl x.sub.length 5 (Ex.exG x.sub)]] [AV.agg [AV.int .u8 x_1.kind,AV.str x_1.rat,AV.str x_1.name,AV.int .i64 x_1.date,AV.sl x_1.sub.length 5 (Ex.exG x_1.sub)]]∧Ex.size x_1<1152921504606846976∧Ex.zo x_1<1099511627776) fun n_1=>.all (fun(x:Int)=>decide (n=0)=true→x=Ex.zC n_1) fun n_2=>.leaf (.ret [.bool (bif decide (n=0) then decide (n_2=2) else false)] [.box [.int .u8 x.kind,.str x.rat,.str x.name,.int .i64 x.date,.sl x.sub.length 5 (Ex.exG x.sub)]])) (by kernel_rfl) ?_
 simp only [Tree.holds,zd,inR,lo,hi,Int.toNat_natCast]
 refine⟨x,⟨eqX x,by omega,by omega⟩,⟨_,rfl⟩,?_⟩
 rintro _ rfl
 refine⟨x,fun _=>⟨eqX x,by omega,by omega⟩,⟨_,fun _=>rfl⟩,?_⟩
 intro c hc
 refine RetR.scal hq rfl ?_
 cases h:decide (x.errX=0) with
 | false=>rfl
 | true=>rw [hc h]; rfl
noncomputable def K56:List Go.Sx.Item:=[.code (Tryz.f56.body.getD .skip)]
def Kx(n:Nat):Ctr:=ctrP true (fun p:Ex×Ex=>[p.1.exA,p.2.exA]) (fun p=>p.1.size<n∧p.1.size<2^60) (fun p r=>(r=true↔p.1=p.2)) (fun _ (r:Bool)=>(.bool r,[]))
def eqfC(n:Nat):Ctr:=ctrP true (fun p:List Ex×List Ex=>[Ex.exS p.1,Ex.exS p.2,.fn 24 [] []]) (fun p=>Ex.zm p.1<n∧Ex.zm p.1<2^60) (fun p r=>(r=true↔p.1=p.2)) (fun _ (r:Bool)=>(.bool r,[]))
theorem XD(p:Prop):∃ b:Bool,b=true↔p:=by
 by_cases h:p
 ·exact⟨true,by simp [h]⟩
 ·exact⟨false,by simp [h]⟩
def SEq(s t:List Ex)(i:Nat):KV:=[(1,Ex.exS t),(2,.fn 24 [] []),(15,Ex.exS s),(16,.int .i64 (s.length:Int)),(17,.int .i64 (i:Int))]
theorem zgc(n:Nat)(ih:zc Tryz.prog 24 (Kx n)):zc Tryz.prog 56 (eqfC n):=by
 refine ze (fn:=Tryz.f56) (c:=Tryz.f56.body.getD .skip) rfl rfl rfl fun p hp O w0 Q hq=> ?_
 obtain⟨s,t⟩:=p
 obtain⟨h1,h2⟩:=hp
 simp only at h1 h2 hq
 have hlen:=Ex.zS s
 refine zb.run hmix (j5 ih) [1,2,15,16,17] 400 (T:=.ite (!decide ((↑s.length:Int)=t.length)) (.leaf (.ret [.bool false] [])) (.leaf (.loop (Prod.fst (lps K56 0)) (Prod.snd (lps K56 0)) [(1,.sl t.length 5 (Ex.exG t)),(2,.fn 24 [] []),(15,.sl s.length 5 (Ex.exG s)),(16,.int .i64 s.length),(17,.int .i64 0)] []))) (by kernel_rfl) ?_
 simp only [Tree.holds,zd,inR,lo,hi,Int.toNat_natCast]
 refine⟨fun h=> ?_,fun h=> ?_⟩
 ·refine RetR.scal (hq false ⟨fun h=>(by cases h),fun he=> ?_⟩) rfl (by simp [resV])
  subst he
  simp at h
 ·have hl:s.length=t.length:=by
   by_cases e1:s.length=t.length
   ·exact e1
   ·rw [decide_eq_false (show ¬ ((s.length:Nat):Int)=t.length by omega)] at h
    cases h
  refine zb.loop (ι:={i:Nat // i≤s.length∧∀ j,j<i→s.getD j Ex.nil=t.getD j Ex.nil}) (fun i=>SEq s t i.1) (fun _=>[]) (fun i=>s.length - i.1) ⟨0,Nat.zero_le _,fun j hj=>by omega⟩ 0 ?_ ?_ (by kernel_rfl)
  ·exact⟨by simp [SEq,Ex.exS,za],by simp,by kernel_rfl,Nat.zero_le _⟩
  ·rintro⟨i,hil,hib⟩
   refine zb.run hmix (j5 ih) [1,2,15,16,17] 400 (T:=.ite (decide ((↑i:Int)<s.length)) (.side ((0:Int)≤i∧(↑i:Int)<s.length) (.side ((0:Int)≤i∧(↑i:Int)<t.length) (.ex (fun(x:Ex×Ex)=>eqL [AV.agg [AV.int .u8 (Ex.kind (s.getD (↑i:Int).toNat Ex.nil)),AV.str (Ex.rat (s.getD (↑i:Int).toNat Ex.nil)),AV.str (Ex.name (s.getD (↑i:Int).toNat Ex.nil)),AV.int .i64 (Ex.date (s.getD (↑i:Int).toNat Ex.nil)),AV.sl (List.length (Ex.sub (s.getD (↑i:Int).toNat Ex.nil))) 5 (Ex.deep (s.getD (↑i:Int).toNat Ex.nil))],AV.agg [AV.int .u8 (Ex.kind (t.getD (↑i:Int).toNat Ex.nil)),AV.str (Ex.rat (t.getD (↑i:Int).toNat Ex.nil)),AV.str (Ex.name (t.getD (↑i:Int).toNat Ex.nil)),AV.int .i64 (Ex.date (t.getD (↑i:Int).toNat Ex.nil)),AV.sl (List.length (Ex.sub (t.getD (↑i:Int).toNat Ex.nil))) 5 (Ex.deep (t.getD (↑i:Int).toNat Ex.nil))]] [AV.agg [AV.int .u8 x.1.kind,AV.str x.1.rat,AV.str x.1.name,AV.int .i64 x.1.date,AV.sl x.1.sub.length 5 (Ex.exG x.1.sub)],AV.agg [AV.int .u8 x.2.kind,AV.str x.2.rat,AV.str x.2.name,AV.int .i64 x.2.date,AV.sl x.2.sub.length 5 (Ex.exG x.2.sub)]]∧Ex.size x.1<n∧Ex.size x.1<1152921504606846976) fun n=>.all (fun(r:Bool)=>r=true↔n.1=n.2) fun n=>.ite (!n) (.leaf (.ret [.bool false] [.box [.int .u8 (Ex.kind (s.getD (↑i:Int).toNat Ex.nil)),.str (Ex.rat (s.getD (↑i:Int).toNat Ex.nil)),.str (Ex.name (s.getD (↑i:Int).toNat Ex.nil)),.int .i64 (Ex.date (s.getD (↑i:Int).toNat Ex.nil)),.sl (List.length (Ex.sub (s.getD (↑i:Int).toNat Ex.nil))) 5 (Ex.deep (s.getD (↑i:Int).toNat Ex.nil))],.box [.int .u8 (Ex.kind (t.getD (↑i:Int).toNat Ex.nil)),.str (Ex.rat (t.getD (↑i:Int).toNat Ex.nil)),.str (Ex.name (t.getD (↑i:Int).toNat Ex.nil)),.int .i64 (Ex.date (t.getD (↑i:Int).toNat Ex.nil)),.sl (List.length (Ex.sub (t.getD (↑i:Int).toNat Ex.nil))) 5 (Ex.deep (t.getD (↑i:Int).toNat Ex.nil))]])) (.side (inR .i64 ((↑i:Int)+(1:Int))) (.leaf (.back 0 [(1,.sl t.length 5 (Ex.exG t)),(2,.fn 24 [] []),(15,.sl s.length 5 (Ex.exG s)),(16,.int .i64 s.length),(17,.int .i64 ((↑i:Int)+(1:Int)))] [.box [.int .u8 (Ex.kind (s.getD (↑i:Int).toNat Ex.nil)),.str (Ex.rat (s.getD (↑i:Int).toNat Ex.nil)),.str (Ex.name (s.getD (↑i:Int).toNat Ex.nil)),.int .i64 (Ex.date (s.getD (↑i:Int).toNat Ex.nil)),.sl (List.length (Ex.sub (s.getD (↑i:Int).toNat Ex.nil))) 5 (Ex.deep (s.getD (↑i:Int).toNat Ex.nil))],.box [.int .u8 (Ex.kind (t.getD (↑i:Int).toNat Ex.nil)),.str (Ex.rat (t.getD (↑i:Int).toNat Ex.nil)),.str (Ex.name (t.getD (↑i:Int).toNat Ex.nil)),.int .i64 (Ex.date (t.getD (↑i:Int).toNat Ex.nil)),.sl (List.length (Ex.sub (t.getD (↑i:Int).toNat Ex.nil))) 5 (Ex.deep (t.getD (↑i:Int).toNat Ex.nil))]])))))) (.leaf (.ret [.bool true] []))) (by kernel_rfl) ?_
   simp only [Tree.holds,zd,inR,lo,hi,Int.toNat_natCast]
   refine⟨fun hlt=> ?_,fun hge=> ?_⟩
   ·have hlt:i<s.length:=by have:=of_decide_eq_true hlt; omega
    have hg:=Ex.qT hlt
    refine⟨by omega,fun _=>⟨by omega,fun _=>⟨(s.getD i Ex.nil,t.getD i Ex.nil),⟨⟨⟨⟨rfl,rfl⟩,rfl,rfl,⟨rfl,rfl⟩,⟨rfl,rfl,Ex.qI _⟩,trivial⟩,⟨⟨rfl,rfl⟩,rfl,rfl,⟨rfl,rfl⟩,⟨rfl,rfl,Ex.qI _⟩,trivial⟩,trivial⟩,by show(s.getD i Ex.nil).size<n; omega,by show(s.getD i Ex.nil).size<_; omega⟩,XD _,?_⟩⟩⟩
    intro e he
    simp only at he
    refine⟨fun g=> ?_,fun g=>⟨by omega,fun _=> ?_⟩⟩
    ·refine RetR.scal (hq false ⟨fun h=>(by cases h),fun h3=> ?_⟩) rfl (by simp [resV])
     have:e=true:=he.2 (by rw [h3])
     rw [this] at g; cases g
    ·rw [if_pos trivial]
     have g:e=true:=by simpa using g
     refine⟨⟨i+1,hlt,fun j hj=> ?_⟩,by show s.length - (i+1)<s.length - i; omega,by simp [SEq,Ex.exS,za],by simp,by kernel_rfl,Nat.zero_le _⟩
     rcases Nat.lt_or_ge j i with h1 | h1
     ·exact hib j h1
     ·have:j=i:=by omega
      rw [this]; exact he.1 g
   ·have hge:i=s.length:=by have:=of_decide_eq_false hge; omega
    subst hge
    exact RetR.scal (hq true ⟨fun _=>Ex.Jp hl hib,fun _=>rfl⟩) rfl (by simp [resV])
theorem K1(n:Nat)(ih:zc Tryz.prog 24 (Kx n)):zc Tryz.prog 24 (Kx (n+1)):=by
 refine ze (fn:=Tryz.f24) (c:=Tryz.f24.body.getD .skip) rfl rfl rfl fun p hp O w0 Q hq=> ?_
 obtain⟨x,y⟩:=p
 obtain⟨h1,h2⟩:=hp
 simp only at h1 h2 hq
 rw [Ex.size_eq] at h1 h2
 refine zb.run hmix (j5 (zgc n ih)) [] 400 (T:=.ex (fun(x_1:List Ex×List Ex)=>(bif bif bif decide (Ex.kind x=Ex.kind y) then decide (Ex.rat x=Ex.rat y) else false then decide (Ex.name x=Ex.name y) else false then decide (Ex.date x=Ex.date y) else false)=true→eqL [AV.sl x.sub.length 5 (Ex.exG x.sub),AV.sl y.sub.length 5 (Ex.exG y.sub),AV.fn 24 [] []] [AV.sl x_1.1.length 5 (Ex.exG x_1.1),AV.sl x_1.2.length 5 (Ex.exG x_1.2),AV.fn 24 [] []]∧Ex.zm x_1.1<n∧Ex.zm x_1.1<1152921504606846976) fun n=>.all (fun(x_1:Bool)=>(bif bif bif decide (Ex.kind x=Ex.kind y) then decide (Ex.rat x=Ex.rat y) else false then decide (Ex.name x=Ex.name y) else false then decide (Ex.date x=Ex.date y) else false)=true→(x_1=true↔n.1=n.2)) fun n=>.leaf (.ret [.bool (bif bif bif bif decide (Ex.kind x=Ex.kind y) then decide (Ex.rat x=Ex.rat y) else false then decide (Ex.name x=Ex.name y) else false then decide (Ex.date x=Ex.date y) else false then n else false)] [.box [.int .u8 x.kind,.str x.rat,.str x.name,.int .i64 x.date,.sl x.sub.length 5 (Ex.exG x.sub)],.box [.int .u8 y.kind,.str y.rat,.str y.name,.int .i64 y.date,.sl y.sub.length 5 (Ex.exG y.sub)]])) (by kernel_rfl) ?_
 simp only [Tree.holds,zd,inR,lo,hi,Int.toNat_natCast]
 refine⟨(x.sub,y.sub),fun _=>⟨⟨⟨rfl,rfl,za _ _ _⟩,⟨rfl,rfl,za _ _ _⟩,by simp,trivial⟩,by show Ex.zm x.sub<n; omega,by show Ex.zm x.sub<_; omega⟩,(XD _).imp fun _ h _=>h,?_⟩
 intro e he
 refine RetR.scal (hq (bif (bif bif bif decide (x.kind=y.kind) then decide (x.rat=y.rat) else false then decide (x.name=y.name) else false then decide (x.date=y.date) else false) then e else false) ?_) rfl (by simp [resV])
 rw [Ex.Wm]
 by_cases g1:x.kind=y.kind
 ·by_cases g2:x.rat=y.rat
  ·by_cases g3:x.name=y.name
   ·by_cases g4:x.date=y.date
    ·have:=he (by simp [g1,g2,g3,g4])
     simp [g1,g2,g3,g4]
     exact this
    ·simp [g4]
   ·simp [g3]
  ·simp [g2]
 ·simp [g1]
def Vk:Ctr:=ctrP true (fun p:Ex×Ex=>[p.1.exA,p.2.exA]) (fun p=>p.1.size<2^60) (fun p r=>(r=true↔p.1=p.2)) (fun _ (r:Bool)=>(.bool r,[]))
theorem UL:zc Tryz.prog 24 Vk:=vp (fun p=>p.1.size) K1
end Go.Proofs.Tryz
end
section
namespace Go.Sx
variable [Stat]
section
variable {own own' O:Nat→Prop} {w w':World} {σ σ':List SE} {P:Program} {fn:Func} {Xp:List PanicEntry→Prop}
def upA0(d k:Nat):AV→AV→Prop
 | .nils,.osl i _ off n=>(d≤i∧i<d+k)∧off=0∧n=0
 | a,b=>a=b
def upL0(d k:Nat):List AV→List AV→Prop
 | [],[]=>True
 | a::l,b::m=>upA0 d k a b∧upL0 d k l m
 | _,_=>False
def upA1(d k:Nat):AV→AV→Prop
 | .agg l,.agg m=>upL0 d k l m
 | a,b=>upA0 d k a b
def upL1(d k:Nat):List AV→List AV→Prop
 | [],[]=>True
 | a::l,b::m=>upA1 d k a b∧upL1 d k l m
 | _,_=>False
def upA2(d k:Nat):AV→AV→Prop
 | .tup l,.tup m=>upL1 d k l m
 | a,b=>upA1 d k a b
def jB(k:Nat):List SE:=List.replicate k ⟨none,0⟩
theorem ya.mono{g:Nat}{vals:Array Value}{R R':Value→World→Prop}(hR:∀ v w',R v w'→R' v w')(h:ya P g vals w R):ya P g vals w R':=by
 rcases h with ⟨h1,h2⟩ | ⟨v,w',h1,h2⟩
 ·exact .inl ⟨h1,h2.mono fun e w' ⟨v,he,hv⟩=>⟨v,he,hR v w' hv⟩⟩
 ·exact .inr ⟨v,w',h1,hR v w' h2⟩
theorem qF{k i:Nat}{e:SE}(h:(σ++jB k)[i]?=some e):(i<σ.length∧σ[i]?=some e)∨(σ.length≤i∧e=⟨none,0⟩):=by
 rw [List.getElem?_append] at h
 split at h
 ·rename_i hi; exact .inl ⟨hi,h⟩
 ·rename_i hi
  right
  refine⟨by omega,?_⟩
  simp only [jB,List.getElem?_replicate] at h
  split at h
  ·cases h; rfl
  ·cases h
theorem Z5{k b:Nat}(h:Mine (σ++jB k) b):Mine σ b:=by
 obtain⟨e,he,ad,h1,h2⟩:=h
 rcases List.mem_append.1 he with he | he
 ·exact⟨e,he,ad,h1,h2⟩
 ·have:=List.eq_of_mem_replicate he
  subst this
  cases h1
theorem yR{k b:Nat}(h:Own O (σ++jB k) b):Own O σ b:=by
 rcases h with h | h
 ·exact .inl h
 ·exact .inr (Z5 h)
theorem vn(K:List Nat)(w:World)(σ:List SE)(k:Nat):Hold K w σ w (σ++jB k):=fun i e he _=>by
 have hi:=(List.getElem?_eq_some_iff.1 he).1
 exact⟨by rw [List.getElem?_append_left hi]; exact he,fun ad _ cs el h=>⟨cs,el,h,rfl⟩⟩
theorem Jo{k:Nat}(hx:Ext own w own' w){a b:AV}{v:Value}(hu:upA0 σ.length k a b)(ha:Rep own w a σ v):Rep own' w b (σ++jB k) v:=by
 unfold upA0 at hu
 split at hu
 ·obtain⟨⟨h1,h2⟩,rfl,rfl⟩:=hu
  rename_i i sz _ _
  simp only [Rep] at ha ⊢
  refine⟨⟨none,0⟩,?_,by simp,none,0,ha,Nat.le_refl _,.inl rfl⟩
  rw [List.getElem?_append_right h1,jB,List.getElem?_replicate,if_pos (by omega)]
 ·subst hu
  exact qf (K:=[]) hx (vn [] w σ k) _ _ (jm _) ha
theorem Ze{k:Nat}(hx:Ext own w own' w):∀ {l m:List AV} {vs:List Value},upL0 σ.length k l m→RepL own w l σ vs→RepL own' w m (σ++jB k) vs
 | [],[],vs,_,h=>by simpa [RepL] using h
 | a::l,b::m,vs,hl,h=>by
  simp only [RepL] at h ⊢
  obtain⟨v,r,hv,h1,h2⟩:=h
  exact⟨v,r,hv,Jo hx hl.1 h1,Ze hx hl.2 h2⟩
 | [],_::_,_,hl,_=>hl.elim
 | _::_,[],_,hl,_=>hl.elim
theorem Qz{k:Nat}(hx:Ext own w own' w){a b:AV}{v:Value}(hu:upA1 σ.length k a b)(ha:Rep own w a σ v):Rep own' w b (σ++jB k) v:=by
 unfold upA1 at hu
 split at hu
 ·simp only [Rep] at ha ⊢
  obtain⟨vs,hv,hr⟩:=ha
  exact⟨vs,hv,Ze hx hu hr⟩
 ·exact Jo hx hu ha
theorem xq{k:Nat}(hx:Ext own w own' w):∀ {l m:List AV} {vs:List Value},upL1 σ.length k l m→RepL own w l σ vs→RepL own' w m (σ++jB k) vs
 | [],[],vs,_,h=>by simpa [RepL] using h
 | a::l,b::m,vs,hl,h=>by
  simp only [RepL] at h ⊢
  obtain⟨v,r,hv,h1,h2⟩:=h
  exact⟨v,r,hv,Qz hx hl.1 h1,xq hx hl.2 h2⟩
 | [],_::_,_,hl,_=>hl.elim
 | _::_,[],_,hl,_=>hl.elim
theorem QN{k:Nat}(hx:Ext own w own' w){a b:AV}{v:Value}(hu:upA2 σ.length k a b)(ha:Rep own w a σ v):Rep own' w b (σ++jB k) v:=by
 unfold upA2 at hu
 split at hu
 ·simp only [Rep] at ha ⊢
  obtain⟨vs,hv,hr⟩:=ha
  exact⟨vs,hv,xq hx hu hr⟩
 ·exact Qz hx hu ha
def kp(szs:List (Nat×(Nat→Nat→AV))):Heap:=szs.map fun s=>.arr 0 s.1 s.2
theorem zf1(hx:Ext own w own' w){hs:Heap}(hh:HRep own w σ hs)(szs:List (Nat×(Nat→Nat→AV))):HRep own' w (σ++jB szs.length) (hs++kp szs):=by
 have hl:=hh.len
 refine⟨by simp [jB,kp,hl],fun i j e f a b he hf ha hb hij=> ?_,fun i e a he ha=> ?_,fun i e b he hb=> ?_⟩
 ·rcases qF he with ⟨_,he⟩ | ⟨_,rfl⟩
  ·rcases qF hf with ⟨_,hf⟩ | ⟨_,rfl⟩
   ·exact hh.inj i j e f a b he hf ha hb hij
   ·cases hb
  ·cases ha
 ·rcases qF he with ⟨_,he⟩ | ⟨_,rfl⟩
  ·exact hh.lt i e a he ha
  ·cases ha
 ·rcases qF he with ⟨hi,he⟩ | ⟨hi,rfl⟩
  ·rw [List.getElem?_append_left (by omega)] at hb
   have:=qD (K:=[]) hx (vn [] w σ szs.length) (hh.blk i e b he hb) (fun _ _=>rfl)
   rwa [qN] at this
  ·rw [List.getElem?_append_right (by omega)] at hb
   simp only [kp,List.getElem?_map] at hb
   cases hz:szs[i - hs.length]? with
   | none=>simp [hz] at hb
   | some s=>
    simp only [hz,Option.map_some,Option.some.injEq] at hb
    subst hb
    exact⟨rfl,.inl rfl⟩
def upQ(Q:AV×Heap→Prop)(p:AV×Heap):Prop:=Q p∨∃ (r:AV) (szs:List (Nat×(Nat→Nat→AV))),upA2 p.2.length szs.length p.1 r∧Q (r,p.2++kp szs)
theorem qQ.up{g:Nat}{c:Ctr}{args:List AV}{hc:Heap}{Q:AV×Heap→Prop}(h:qQ P g c args hc (upQ Q)):qQ P g c args hc Q:=by
 intro O w σ vals hg hh hr
 refine ya.mono ?_ (h O w σ vals hg hh hr)
 rintro v w' ⟨r,hs,σ',hq,h1,h2,h3,h4,h5,h6⟩
 rcases hq with hq | ⟨r',szs,hu,hq⟩
 ·exact⟨r,hs,σ',hq,h1,h2,h3,h4,h5,h6⟩
 ·have hx:Ext (fun b=>Own O σ' b∨(c.fresh=true∧b<w.heap.size)) w' (fun b=>Own O (σ'++jB szs.length) b∨(c.fresh=true∧b<w.heap.size)) w':=
   ⟨rfl,rfl,rfl,Nat.le_refl _,fun _ _ _=>rfl,fun b hb=>.inl (hb.imp yR id)⟩
  have hl:hs.length=σ'.length:=h2.len.symm
  refine⟨r',hs++kp szs,σ'++jB szs.length,hq,QN hx (by rw [← hl]; exact hu) h1,zf1 hx h2 szs,⟨h3.old,fun i e ad he had=> ?_,h3.stat.own fun b hb=>yR hb⟩,by simp; omega,h5.VP (vn [] w' σ' _),?_⟩
  ·rcases qF he with ⟨_,he⟩ | ⟨_,rfl⟩
   ·exact h3.dis i e ad he had
   ·cases had
  ·exact⟨h6.os,h6.tape,h6.output,h6.size,h6.keep,fun b hb=>h6.grow b (Z5 hb)⟩
theorem Wv{X R:Type}{fresh:Bool}{inp:X→List AV}{pre:X→Prop}{post:X→R→Prop}{out:X→R→AV×Heap}{g:Nat}{c:Code}(hf:P.funcs[g]?=some fn)(hb:fn.body=some c) (hn:(fn.name == "runtime.NumGoroutine")=false)
  (H:∀ x,pre x→∀ (O:Nat→Prop) (w0:World) (Q:AV×Heap→Prop),(∀ r,post x r→Q (out x r)) →
   zb P fn O 0 w0 [] (fun _ _ _=>False) (RetR (ctrP fresh inp pre post out) 0 (upQ Q)) [.code c] (entry fn (inp x))):zc P g (ctrP fresh inp pre post out):=by
 intro args hc Q hq _
 simp only [ctrP] at hq
 split at hq
 ·obtain⟨x,⟨h1,h4⟩,h5,h6⟩:=hq
  refine qQ.le h1 (qQ.up (fn_k hf hb hn (fun h=>rfl) fun O w0 σ0 hl=> ?_))
  have h0:σ0=[]:=List.length_eq_zero_iff.1 (by simpa using hl)
  subst h0
  exact H x h4 O w0 Q h6
 ·exact hq.elim
def upKV(d k:Nat):KV→KV→Prop
 | [],[]=>True
 | (i,a)::l,(j,b)::m=>i=j∧upA2 d k a b∧upKV d k l m
 | _,_=>False
def upB(d k:Nat):Blk→Blk→Prop
 | .box l,.box m=>upL1 d k l m
 | a,b=>a=b
def upH(d k:Nat):Heap→Heap→Prop
 | [],[]=>True
 | b::l,c::m=>upB d k b c∧upH d k l m
 | _,_=>False
theorem QC{d k:Nat} : ∀ {l m:KV} (t:Nat),upKV d k l m→upA2 d k (look l t) (look m t)
 | [],[],t,_=>by simp [look,upA2,upA1,upA0]
 | (i,a)::l,(j,b)::m,t,h=>by
  obtain⟨rfl,h1,h2⟩:=h
  simp only [look]
  split
  ·exact h1
  ·exact QC t h2
 | [],_::_,_,h=>h.elim
 | _::_,[],_,h=>h.elim
theorem Xz{d k:Nat} : ∀ {l m:Heap},upH d k l m→l.length=m.length
 | [],[],_=>rfl
 | _::l,_::m,h=>by simp [Xz h.2]
 | [],_::_,h=>h.elim
 | _::_,[],h=>h.elim
theorem Yf{d k:Nat} : ∀ {l m:Heap} {i:Nat} {b':Blk},upH d k l m→m[i]?=some b'→∃ b,l[i]?=some b∧upB d k b b'
 | b::l,c::m,0,b',h,h1=>by simp at h1; subst h1; exact⟨b,rfl,h.1⟩
 | b::l,c::m,i+1,b',h,h1=>by simpa using Yf h.2 (by simpa using h1)
 | [],[],_,_,_,h1=>by simp at h1
 | [],_::_,_,_,h,_=>h.elim
 | _::_,[],_,_,h,_=>h.elim
theorem YK{k:Nat}(hx:Ext own w own' w){e:SE}{b b':Blk}(hu:upB σ.length k b b')(hb:BRep own w σ e b):BRep own' w (σ++jB k) e b':=by
 unfold upB at hu
 split at hu
 ·simp only [BRep] at hb ⊢
  obtain⟨ad,vs,el,h1,h2,h3,h4⟩:=hb
  exact⟨ad,vs,el,h1,h2,h3,xq hx hu h4⟩
 ·subst hu
  have:=qD (K:=[]) hx (vn [] w σ k) hb (fun _ _=>rfl)
  rwa [qN] at this
variable {pin:Nat} {w0:World} {σ0:List SE} {a:Act}
theorem up_mod{kv kv2:KV}{h h2:Heap}{n:Nat}(hm:Mod O pin w0 σ0 w σ (mk n kv h) a){szs:List (Nat×(Nat→Nat→AV))}(hkv:upKV h.length szs.length kv kv2)(hh2:upH h.length szs.length h h2)(hno:(pk n kv).all qn=true)(hno2:(pk n kv2).all qn=true):Mod O pin w0 σ0 w (σ++jB szs.length) (mk n kv2 (h2++kp szs)) a:=by
 have hx:Ext (Own O σ) w (Own O (σ++jB szs.length)) w:=⟨rfl,rfl,rfl,Nat.le_refl _,fun _ _ _=>rfl,fun b hb=>.inl (yR hb)⟩
 have hl:h.length=σ.length:=hm.hp.len.symm
 rw [hl] at hkv hh2
 have hl2:=Xz hh2
 refine⟨⟨hm.good.old,fun i e ad he had=> ?_,hm.good.stat.ext hx⟩,?_,by simp [hm.size,mk,pk],fun u=> ?_,hm.df.ext hx,hm.since.trans ⟨hx,fun _ _ _=>rfl,wQ.of (vn [] w σ _) (by simp)⟩,hm.lim⟩
 ·rcases qF he with ⟨_,he⟩ | ⟨_,rfl⟩
  ·exact hm.good.dis i e ad he had
  ·cases had
 ·have hh:=hm.hp
  refine⟨by simp [mk,jB,kp,← hl2,hl],fun i j e f x y he hf ha hb hij=> ?_,fun i e x he ha=> ?_,fun i e b he hb=> ?_⟩
  ·rcases qF he with ⟨_,he⟩ | ⟨_,rfl⟩
   ·rcases qF hf with ⟨_,hf⟩ | ⟨_,rfl⟩
    ·exact hh.inj i j e f x y he hf ha hb hij
    ·cases hb
   ·cases ha
  ·rcases qF he with ⟨_,he⟩ | ⟨_,rfl⟩
   ·exact hh.lt i e x he ha
   ·cases ha
  ·simp only [mk] at hb
   rcases qF he with ⟨hi,he⟩ | ⟨hi,rfl⟩
   ·rw [List.getElem?_append_left (by omega)] at hb
    obtain⟨b0,h1,h3⟩:=Yf hh2 hb
    exact YK hx h3 (hh.blk i e b0 he h1)
   ·rw [List.getElem?_append_right (by omega)] at hb
    simp only [kp,List.getElem?_map] at hb
    cases hz:szs[i - h2.length]? with
    | none=>simp [hz] at hb
    | some s=>
     simp only [hz,Option.map_some,Option.some.injEq] at hb
     subst hb
     exact⟨rfl,.inl rfl⟩
 ·have hu:=hm.tm u
  have key:∀ (kv:KV) (h:Heap),(pk n kv).all qn=true→qn ((mk n kv h).tmps.getD u .undef)=true:=by
   intro kv h hno
   by_cases hlt:u<(mk n kv h).tmps.length
   ·simp only [List.getD,List.getElem?_eq_getElem hlt,Option.getD_some]
    exact List.all_eq_true.1 hno _ (List.getElem_mem hlt)
   ·simp only [List.getD]
    rw [List.getElem?_eq_none (by omega)]; rfl
  have n1:=key kv h hno
  have n2:=key kv2 (h2++kp szs) hno2
  have hr:Rep (Own O σ) w ((mk n kv h).tmps.getD u .undef) σ (a.tmps.getD u undef):=by
   generalize (mk n kv h).tmps.getD u .undef=x at hu n1
   cases x with
   | opt _ _ _=>simp [qn] at n1
   | _=>simpa only [TRep] using hu
  have hup:upA2 σ.length szs.length ((mk n kv h).tmps.getD u .undef) ((mk n kv2 (h2++kp szs)).tmps.getD u .undef):=by
   by_cases hlt:u<n
   ·simp only [mk]
    rw [vu hlt,vu hlt]
    exact QC u hkv
   ·simp [mk,pk,List.getD,hlt,upA2,upA1,upA0]
  have:=QN hx hup hr
  generalize (mk n kv2 (h2++kp szs)).tmps.getD u .undef=y at this n2
  cases y with
  | opt _ _ _=>simp [qn] at n2
  | _=>simpa only [TRep] using this
theorem zb.up{M:Option Nat}{Hs:Nat→KV→Heap→Prop}{R:List AV→Heap→Prop}{k:List Item}{kv:KV}{h:Heap}(szs:List (Nat×(Nat→Nat→AV)))(kv2:KV)(h2:Heap)(hkv:upKV h.length szs.length kv kv2)(hh2:upH h.length szs.length h h2)(hno:(pk fn.ntmps kv).all qn=true)(hno2:(pk fn.ntmps kv2).all qn=true)
  (H:z8 Xp M P fn O pin w0 σ0 Hs R k (mk fn.ntmps kv2 (h2++kp szs))):z8 Xp M P fn O pin w0 σ0 Hs R k (mk fn.ntmps kv h):=
 fun w σ a hm=>H w _ a (up_mod hm hkv hh2 hno hno2)
theorem RetR.outs{ctr:Ctr}{Q:AV×Heap→Prop}{rs:List AV}{h:Heap}{r:AV}{hs:Heap}(L:List Nat)(hnd:jC L=true)(hlt:(L.all fun i=>decide (i<h.length))=true)(hq:Q (r,hs))(hn:ctr.fresh=true→new2 h L (resV rs)∧∀ i∈L,newB (h.getD i .dead))
  (he:eqA2 (exp2 h L (resV rs)) r) (hb:eqH (expH h L) hs) (hl:hs.length=L.length):RetR ctr 0 Q rs h:=
 ⟨L,hnd,fun i hi=>by have:=List.all_eq_true.1 hlt i hi; simpa using this,by simp,hn,r,hs,qh he,.inl hb,hl,hq⟩
theorem RetR.keep{ctr:Ctr}{m:Nat}{Q:AV×Heap→Prop}{rs:List AV}{h:Heap}{r:AV}{hs:Heap}(L:List Nat)(hnd:jC L=true)(hlt:(L.all fun i=>decide (i<h.length))=true)(hj:∀ j,j<m→L[j]?=some j)(hf:ctr.fresh=false)(hq:Q (r,hs))
  (he:eqA2 (exp2 h L (resV rs)) r) (hb:eqH (expH h L) hs) (hl:hs.length=L.length):RetR ctr m Q rs h:=
 ⟨L,hnd,fun i hi=>by have:=List.all_eq_true.1 hlt i hi; simpa using this,hj,(fun hh=>absurd hh (by rw [hf]; decide)),r,hs,qh he,.inl hb,hl,hq⟩
end
end Go.Sx
end
section
set_option maxRecDepth 100000
open Go Go.Sx Go.Proofs Go.Nov
namespace Go.Proofs.Tryz
attribute [local simp] eqKV eqA eqA0 eqH eqB eqL eqL0
def exD(x:Ex):AV:=.agg [.int .u8 x.kind,.str x.rat,.str x.name,.int .i64 x.date,.sl x.sub.length 5 x.deep]
theorem UM{s:List Ex}{i:Nat} : eqG (i+1) 5 (appG i (Ex.exG s) (zf (zg 5 [.int .u8 (s.getD i Ex.nil).kind,.str (s.getD i Ex.nil).rat,.str (s.getD i Ex.nil).name,.int .i64 (s.getD i Ex.nil).date,.sl (s.getD i Ex.nil).sub.length 5 (s.getD i Ex.nil).deep]) 0)) (Ex.exG s):=by
 intro j o hj ho
 simp only [appG,zf,zg]
 by_cases h:j<i
 ·rw [if_pos h]
 ·have:j=i:=by omega
  subst this
  rw [if_neg h]
  have e:j - j=0:=by omega
  match o,ho with
  | 0,_=>simp [e,Ex.exG,Ex.cell]
  | 1,_=>simp [e,Ex.exG,Ex.cell]
  | 2,_=>simp [e,Ex.exG,Ex.cell]
  | 3,_=>simp [e,Ex.exG,Ex.cell]
  | 4,_=>simp [e,Ex.exG,Ex.cell]
theorem wm(x:Ex):eqA x.exA x.exA:=by
 simp only [Ex.exA,Ex.exS,eqA]
 exact⟨⟨rfl,rfl⟩,rfl,rfl,⟨rfl,rfl⟩,⟨rfl,rfl,za _ _ _⟩,trivial⟩
end Go.Proofs.Tryz
end
section
namespace Go.Sx
variable [Stat]
section
variable {P:Program}
theorem Jf(a:AV):eqA0 a a:=by
 cases a<;>simp [eqA0]
 exact fun _ _ _ _=>rfl
theorem yE:∀ l:List AV,eqL0 l l
 | []=>trivial
 | a::l=>⟨Jf a,yE l⟩
theorem za0(a:AV):eqA a a:=by
 cases a with
 | agg l=>exact yE l
 | tup l=>exact yE l
 | _=>unfold eqA; exact Jf _
theorem Z9:∀ l:List AV,eqL l l
 | []=>trivial
 | a::l=>by
  unfold eqL
  split
  ·rename_i h1 h2; cases h1
  ·rename_i h1 h2; cases h1; cases h2; exact Z9 l
  ·rename_i h1 h2; cases h1; cases h2; exact⟨za0 _,Z9 l⟩
  ·rename_i hx; exact(hx _ _ _ _ rfl rfl).elim
end
end Go.Sx
end
section
namespace Go.Sx
variable [Stat]
section
variable {P:Program} {Γ:Nat→Option Ctr} {fn:Func}
def inlC(P:Program)(Γ:Nat→Option Ctr)(n:Nat)(fn:Func):Ctr where
 fresh:=false
 spec args hc:=match fn.body with
  | some c=>(run P Γ hc.length n [.code c] (ka fn args hc)).bind fun lf=>match lf with
   | .ret st=>(resX P st fn.results.toList).bind fun rs=>bif decide (hc.length≤st.heap.length) then .leaf (exp2 st.heap (List.range st.heap.length) (resV rs),expH st.heap (List.range st.heap.length)) else .fail
   | _=>.fail
  | none=>.fail
theorem nodup_range':∀ (n s:Nat),jC (List.range' s n)=true
 | 0,_=>rfl
 | n+1,s=>by
  rw [List.range'_succ]
  simp only [jC,Bool.and_eq_true]
  refine⟨?_,nodup_range' n (s+1)⟩
  simp [List.contains_eq_mem,List.mem_range'_1]
theorem zu(b:Blk):eqB b b:=by
 cases b with
 | dead=>trivial
 | box l=>exact Z9 l
 | arr n sz g=>exact⟨rfl,rfl,fun _ _ _ _=>rfl⟩
 | arrI k n f=>exact⟨rfl,fun _ _ _ _=>rfl⟩
 | arrS n f=>exact⟨rfl,fun _ _ _ _=>rfl⟩
 | map ag sh has get pe=>exact⟨⟨rfl,.inr rfl⟩,rfl,fun _=>rfl,fun _ _=>rfl⟩
theorem YA(h:Heap):eqH h h:=by
 induction h with
 | nil=>trivial
 | cons b l ih=>exact⟨zu b,ih⟩
theorem zga{g n:Nat}(hmix:P.follows .mixedOrders=true)(hΓ:∀ g c,Γ g=some c→zc P g c)(hf:P.funcs[g]?=some fn) (hn:(fn.name == "runtime.NumGoroutine")=false):zc P g (inlC P Γ n fn):=by
 intro args hc Q hq hfr
 simp only [inlC] at hq
 cases hb:fn.body with
 | none=>rw [hb] at hq; exact hq.elim
 | some c=>
  rw [hb] at hq
  simp only [Tree.zl] at hq
  refine w9.plain (zfk hf hb hn hfr fun O w0 σ0 hl=>Safe.run hmix (fun g c h=>(hΓ g c h).x) n (Tree.zP (fun lf h=> ?_) hq))
  cases lf with
  | ret st=>
   simp only [Tree.zl] at h
   refine Tree.zP (fun rs h=> ?_) h
   cases hd:decide (hc.length≤st.heap.length) with
   | false=>rw [hd] at h; exact h.elim
   | true=>
    rw [hd] at h
    have h:Q (exp2 st.heap (List.range st.heap.length) (resV rs),expH st.heap (List.range st.heap.length)):=h
    have hd:=of_decide_eq_true hd
    exact⟨List.range st.heap.length,by rw [List.range_eq_range']; exact nodup_range' _ _,fun i hi=>List.mem_range.1 hi,fun j hj=>by rw [List.getElem?_range (by omega)],fun h=>(by cases h),_,_,LeA.refl _,.inl (YA _),by simp [expH],h⟩
  | _=>exact h.elim
end
end Go.Sx
end
section
namespace Go.Nov
open Go.Sx
theorem xu:∀ s:List UInt8,Op.bytesLess s s=false
 | []=>rfl
 | a::s=>by simp [Op.bytesLess,xu s]
theorem kC:∀ {s t u:List UInt8},Op.bytesLess s t=true→Op.bytesLess t u=true→Op.bytesLess s u=true
 | s,[],u,h,_=>by cases s<;>simp [Op.bytesLess] at h
 | [],b::t,[],_,h=>by simp [Op.bytesLess] at h
 | [],b::t,c::u,_,_=>rfl
 | a::s,b::t,[],_,h=>by simp [Op.bytesLess] at h
 | a::s,b::t,c::u,h,k=>by
  simp only [Op.bytesLess,Bool.or_eq_true,Bool.and_eq_true,decide_eq_true_eq,beq_iff_eq] at h k ⊢
  rcases h with h | ⟨rfl,h⟩
  ·rcases k with k | ⟨rfl,k⟩
   ·exact .inl (UInt8.lt_trans h k)
   ·exact .inl h
  ·rcases k with k | ⟨rfl,k⟩
   ·exact .inl k
   ·exact .inr ⟨rfl,kC h k⟩
theorem zd7{s t:List UInt8} : cmpS s t<0↔Op.bytesLess s t=true:=by
 unfold cmpS
 cases Op.bytesLess s t with
 | true=>simp
 | false=>by_cases h:s=t<;>simp [h]
theorem uK{s t:List UInt8} : cmpS s t=0↔s=t:=by
 unfold cmpS
 cases hb:Op.bytesLess s t with
 | true=>
  simp only [if_true]
  refine⟨fun h=>by omega,fun h=> ?_⟩
  subst h; rw [xu] at hb; cases hb
 | false=>by_cases h:s=t<;>simp [h]
theorem zd4{x y:Int} : cmpI x y=0↔x=y:=by
 unfold cmpI
 split
 ·exact⟨fun h=>by omega,fun h=>by omega⟩
 ·split
  ·exact⟨fun h=>by omega,fun h=>by omega⟩
  ·exact⟨fun _=>by omega,fun _=>rfl⟩
theorem zda{a b:Fx} : cmpF a b=0↔a.name=b.name∧a.date=b.date:=by
 unfold cmpF
 by_cases h:cmpS a.name b.name=0
 ·rw [if_pos h,zd4]; exact⟨fun h2=>⟨uK.1 h,h2⟩,fun h2=>h2.2⟩
 ·rw [if_neg h]; exact⟨fun h2=>absurd h2 h,fun h2=>absurd (uK.2 h2.1) h⟩
theorem JD{a b:Fx} : cmpF a b<0↔Op.bytesLess a.name b.name=true∨a.name=b.name∧a.date<b.date:=by
 unfold cmpF
 by_cases h:cmpS a.name b.name=0
 ·rw [if_pos h,zew]
  have h2:=uK.1 h
  rw [h2,xu]
  simp
 ·rw [if_neg h,zd7]
  exact⟨fun h2=>.inl h2,fun h2=>h2.elim id fun h3=>absurd (uK.2 h3.1) h⟩
structure OrdK{α:Type}(c:α→α→Int):Prop where
 lt:∀ a b d,c a b<0→c b d<0→c a d<0
 eq:∀ a b d,c a b<0→c b d=0→c a d<0
theorem zgl:OrdK cmpF where
 lt a b d h k:=by
  rw [JD] at *
  rcases h with h | ⟨h1,h2⟩
  ·rcases k with k | ⟨k1,k2⟩
   ·exact .inl (kC h k)
   ·rw [k1] at h; exact .inl h
  ·rcases k with k | ⟨k1,k2⟩
   ·rw [← h1] at k; exact .inl k
   ·exact .inr ⟨h1.trans k1,by omega⟩
 eq a b d h k:=by
  rw [zda] at k
  rw [JD] at *
  rw [k.1,k.2] at h
  exact h
section
variable {α:Type} {c:α→α→Int} {z x:α}
def KY(c:α→α→Int)(x:α):List α→List α
 | []=>[x]
 | o::l=>if c o x<0 then o::KY c x l else if c o x=0 then x::l else x::o::l
theorem XV(hk:OrdK c):∀ {l:List α},ordB c z l=true→l.Pairwise fun a b=>c a b<0
 | [],_=>.nil
 | [a],_=>by simp
 | a::b::l,h=>by
  have h1:c a b<0:=by
   simp only [ordB,List.all_eq_true,List.mem_range,decide_eq_true_eq] at h
   have:=h 0 (by simp)
   simpa using this
  have h2:ordB c z (b::l)=true:=by
   simp only [ordB,List.all_eq_true,List.mem_range,decide_eq_true_eq] at h ⊢
   intro i hi
   have:=h (i+1) (by simp at hi ⊢; omega)
   simpa using this
  have ih:=XV hk h2
  refine List.pairwise_cons.2 ⟨fun y hy=> ?_,ih⟩
  rcases List.mem_cons.1 hy with rfl | hy
  ·exact h1
  ·exact hk.lt _ _ _ h1 (List.rel_of_pairwise_cons ih hy)
end
theorem Wf{f:List Fx}{c:List Ch} : errE f c=0↔¬ (1000<f.length∨1000<c.length)∧f.all okF=true∧c.all okC=true∧ordB cmpF Fx.nil f=true∧ordB cmpC Ch.nil c=true:=by
 unfold errE
 by_cases hb:1000<f.length∨1000<c.length
 ·rw [if_pos hb]; simp [hb]
 ·rw [if_neg hb]
  by_cases h:(f.all okF&&c.all okC&&ordB cmpF Fx.nil f&&ordB cmpC Ch.nil c)=true
  ·rw [if_pos h]
   simp only [Bool.and_eq_true] at h
   exact⟨fun _=>⟨hb,h.1.1.1,h.1.1.2,h.1.2,h.2⟩,fun _=>rfl⟩
  ·rw [if_neg h]
   refine⟨fun h2=>by omega,fun h2=>absurd ?_ h⟩
   simp [h2.2.1,h2.2.2.1,h2.2.2.2.1,h2.2.2.2.2]
def zf9(l:List Fx)(a:List UInt8)(d:Int):List UInt8×Bool:=match l.find? fun x=>decide (x.name=a)&&decide (x.date=d) with
 | some x=>(x.value,true)
 | none=>([],false)
def putF(f:List Fx)(c:List Ch)(x:Fx):(List Fx×List Ch)×Int:=
 if errE f c≠0 then(([],[]),errE f c) else if(qe x.name&&dayB x.date)=false then(([],[]),2) else if errR x.value≠0 then(([],[]),errR x.value)
 else if 1000<(KY cmpF x f).length then(([],[]),22) else((KY cmpF x f,c),0)
end Go.Nov
end
section
set_option maxRecDepth 100000
open Go Go.Sx Go.Proofs Go.Nov
namespace Go.Proofs.Tryz
attribute [local simp] eqKV eqA eqA0 eqH eqB eqL eqL0
def bitB(p q:Int):Bool:=decide (((p.toNat &&& q.toNat:Nat):Int)≠0)
end Go.Proofs.Tryz
end
section
namespace Go.Sx
variable [Stat]
section
variable {O:Nat→Prop} {pin:Nat} {w0:World} {σ0:List SE} {P:Program} {fn:Func} {Xp:List PanicEntry→Prop}
def fstC:Code→Code
 | .seq a _=>a
 | c=>c
def sndC:Code→Code
 | .seq _ b=>b
 | c=>c
def blkC:Code→Code
 | .block _ c=>c
 | c=>c
def blkI:Code→Nat
 | .block i _=>i
 | _=>0
theorem zb.cut{M:Option Nat}{ι:Type}{Hs:Nat→KV→Heap→Prop}{R:List AV→Heap→Prop}{k:List Item}{c:Code}{st:St}(S:ι→KV)(H:ι→Heap)(dk:Nat)
  (h1:z8 Xp M P fn O pin w0 σ0 (fun d kv h=>if d=dk then ∃ x,LeK pin fn.ntmps kv h (S x) (H x) else Hs d kv h) R (.code c::.inLoop::k) st) (hd:qV k=dk)
  (h2:∀ x,z8 Xp M P fn O pin w0 σ0 Hs R k (mk fn.ntmps (S x) (H x))):z8 Xp M P fn O pin w0 σ0 Hs R (.code c::k) st:=by
 subst hd
 intro w σ a hm
 have:=h1 w σ a hm
 simp only [wpK] at this ⊢
 refine wpIn_mono this fun e a' w' he=> ?_
 cases e with
 | normal=>
  simp only [wpK] at he
  obtain⟨st',σ',⟨kv,h,hh,rfl⟩,hm'⟩:=he
  rw [if_pos trivial] at hh
  obtain⟨x,hle⟩:=hh
  exact h2 x w' _ a' (hle.le.mod hm')
 | _=>
  simp only [wpK] at he
  refine qC (fun d a w hd hh=> ?_) he
  obtain⟨st',σ',⟨kv,h,hh,rfl⟩,hm'⟩:=hh
  rw [if_neg (by omega)] at hh
  exact⟨_,σ',⟨kv,h,hh,rfl⟩,hm'⟩
theorem zb.seq{M:Option Nat}{Hs:Nat→KV→Heap→Prop}{R:List AV→Heap→Prop}{k:List Item}{c:Code}{st:St}(hc:c = .seq (fstC c) (sndC c))
  (h:z8 Xp M P fn O pin w0 σ0 Hs R (.code (fstC c)::.code (sndC c)::k) st):z8 Xp M P fn O pin w0 σ0 Hs R (.code c::k) st:=by
 rw [hc]
 generalize fstC c=a at h
 generalize sndC c=b at h
 intro w σ act hm
 have:=h w σ act hm
 simp only [wpK] at this ⊢
 refine wpIn_seq (wpIn_mono this fun e a w h=> ?_)
 cases e<;>exact h
theorem zb.block{M:Option Nat}{Hs:Nat→KV→Heap→Prop}{R:List AV→Heap→Prop}{k:List Item}{c:Code}{st:St}(hc:c = .block (blkI c) (blkC c))
  (h:z8 Xp M P fn O pin w0 σ0 Hs R (.code (blkC c)::.inBlock (blkI c)::k) st):z8 Xp M P fn O pin w0 σ0 Hs R (.code c::k) st:=by
 rw [hc]
 generalize blkC c=a at h
 generalize blkI c=i at h
 intro w σ act hm
 have:=h w σ act hm
 simp only [wpK] at this ⊢
 refine wpIn_block (wpIn_mono this fun e a w h=> ?_)
 cases e<;>exact h
end
end Go.Sx
end
section
namespace Go.Sx
variable [Stat]
section
variable {O:Nat→Prop} {pin:Nat} {w0:World} {σ0:List SE} {P:Program} {fn:Func} {Xp:List PanicEntry→Prop}
def yL:Nat→Code→List Item
 | n+1,.seq a b=>.code a::yL n b
 | _,c=>[.code c]
theorem ZD{M:Option Nat}{H:Nat→Act→World→Prop}{B:Exit→Act→World→Prop}{k:List Item}{e:Exit}(he:e≠.normal){a:Act}{w:World} : ∀ (n:Nat) (c:Code),wpK M P H B (yL n c++k) e a w→wpK M P H B k e a w
 | 0,c,h=>by cases c<;>cases e<;>first | exact absurd rfl he | exact h
 | n+1,c,h=>by
  cases c with
  | seq x y=>cases e<;>first | exact absurd rfl he | exact ZD he n y h
  | _=>cases e<;>first | exact absurd rfl he | exact h
theorem Qs{M:Option Nat}{H:Nat→Act→World→Prop}{B:Exit→Act→World→Prop} : ∀ (n:Nat) (c:Code) (k:List Item) (a:Act) (w:World),wpK M P H B (yL n c++k) .normal a w→wpK M P H B (.code c::k) .normal a w
 | 0,c,k,a,w,h=>by cases c<;>exact h
 | n+1,c,k,a,w,h=>by
  cases c with
  | seq x y=>
   simp only [yL,List.cons_append,wpK] at h ⊢
   refine wpIn_seq (wpIn_mono h fun e a w h=> ?_)
   cases e with
   | normal=>exact Qs n y k a w h
   | _=>exact ZD (by simp) n y h
  | _=>exact h
theorem zb.spine{M:Option Nat}{Hs:Nat→KV→Heap→Prop}{R:List AV→Heap→Prop}{k:List Item}{c:Code}{st:St}(n:Nat)(h:z8 Xp M P fn O pin w0 σ0 Hs R (Go.Sx.yL n c++k) st):z8 Xp M P fn O pin w0 σ0 Hs R (.code c::k) st:=
 fun w σ a hm=>Qs n c k a w (h w σ a hm)
def Zh:Item→Bool
 | .inLoop=>false
 | _=>true
theorem ke{M:Option Nat}{H H':Nat→Act→World→Prop}{B:Exit→Act→World→Prop}{k:List Item}(h1:∀ a w,H' (qV k) a w→wpK M P H B k .normal a w)(h2:∀ d a w,d<qV k→H' d a w→H d a w) :
  ∀ (ks:List Item),ks.all Zh=true→∀ (e:Exit) (a:Act) (w:World),wpK M P H' B (ks++.inLoop::k) e a w→wpK M P H B (ks++k) e a w
 | [],_,e,a,w,h=>by
  cases e with
  | normal=>exact h1 a w h
  | _=>exact qC (k:=k) (fun d a w hd h=>h2 d a w hd h) h
 | .code c::ks,hf,e,a,w,h=>by
  have hf':ks.all Zh=true:=by simpa [Zh] using hf
  cases e with
  | normal=>exact wpIn_mono h fun e a w h=>ke h1 h2 ks hf' e a w h
  | _=>exact ke h1 h2 ks hf' _ a w h
 | .inBlock id::ks,hf,e,a,w,h=>by
  have hf':ks.all Zh=true:=by simpa [Zh] using hf
  cases e with
  | normal=>exact ke h1 h2 ks hf' _ a w h
  | exit i=>
   simp only [List.cons_append,wpK] at h ⊢
   split at h
   ·rename_i hi; rw [if_pos hi]; exact ke h1 h2 ks hf' _ a w h
   ·rename_i hi; rw [if_neg hi]; exact ke h1 h2 ks hf' _ a w h
  | _=>exact ke h1 h2 ks hf' _ a w h
 | .inLoop::ks,hf,e,a,w,h=>by simp [Zh] at hf
theorem zb.cutL{M:Option Nat}{ι:Type}{Hs:Nat→KV→Heap→Prop}{R:List AV→Heap→Prop}{st:St}(L:List Item)(m dk:Nat)(S:ι→KV)(H:ι→Heap)(hf:(L.take m).all Zh=true)(hd:qV (L.drop m)=dk)
  (h1:z8 Xp M P fn O pin w0 σ0 (fun d kv h=>if d=dk then ∃ x,LeK pin fn.ntmps kv h (S x) (H x) else Hs d kv h) R (L.take m++.inLoop::L.drop m) st)
  (h2:∀ x,z8 Xp M P fn O pin w0 σ0 Hs R (L.drop m) (mk fn.ntmps (S x) (H x))):z8 Xp M P fn O pin w0 σ0 Hs R L st:=by
 subst hd
 intro w σ a hm
 have:=h1 w σ a hm
 rw [← List.take_append_drop m L]
 refine ke ?_ ?_ (L.take m) hf .normal a w this
 ·rintro a' w' ⟨st',σ',⟨kv,h,hh,rfl⟩,hm'⟩
  rw [if_pos rfl] at hh
  obtain⟨x,hle⟩:=hh
  exact h2 x w' _ a' (hle.le.mod hm')
 ·rintro d a' w' hd ⟨st',σ',⟨kv,h,hh,rfl⟩,hm'⟩
  rw [if_neg (by omega)] at hh
  exact⟨_,σ',⟨kv,h,hh,rfl⟩,hm'⟩
end
end Go.Sx
end
section
set_option maxRecDepth 100000
open Go Go.Sx Go.Proofs Go.Nov
def Go.Nov.Con.p(c:Con):Int:=zgq c.kind
namespace Go.Proofs.Tryz
attribute [local simp] eqKV eqA eqA0 eqH eqB eqL eqL0
namespace Nd
def right(c:Con):Bool:=if bitB c.p 32=true then dayB c.date else decide (c.date=0)
end Nd
end Go.Proofs.Tryz
end
section
set_option maxRecDepth 100000
open Go Go.Sx Go.Proofs Go.Nov
namespace Go.Proofs.Tryz
attribute [local simp] eqKV eqA eqA0 eqH eqB eqL eqL0
end Go.Proofs.Tryz
end
section
namespace Go.Sx
variable [Stat]
section
variable {O:Nat→Prop} {pin:Nat} {w0:World} {σ0:List SE} {P:Program} {fn:Func}
open Classical in
end
end Go.Sx
end
section
set_option maxRecDepth 100000
open Go Go.Sx Go.Proofs Go.Nov
namespace Go.Proofs.Tryz
attribute [local simp] eqKV eqA eqA0 eqH eqB eqL eqL0
end Go.Proofs.Tryz
end
section
namespace Go.Nov
open Go.Sx
theorem Fx.Qw(x:Fx){j o:Nat}(hj:j<1)(ho:o<3):zf (zg 3 [.str x.name,.int .i64 x.date,.str x.value]) 0 j o=x.cell o:=by
 have:j=0:=by omega
 subst this
 rcases o with _ | _ | _ | o
 ·rfl
 ·rfl
 ·rfl
 ·omega
theorem Ch.Qw(x:Ch){j o:Nat}(hj:j<1)(ho:o<4):zf (zg 4 [.str x.j9,.str x.name,.int .i64 x.date,.bool x.first]) 0 j o=x.cell o:=by
 have:j=0:=by omega
 subst this
 rcases o with _ | _ | _ | _ | o
 ·rfl
 ·rfl
 ·rfl
 ·rfl
 ·omega
theorem YX{α:Type}(l:List α)(x z:α)(j:Nat):(l++[x]).getD j z=if j<l.length then l.getD j z else if j=l.length then x else z:=by
 simp only [List.getD,List.getElem?_append]
 split
 ·rfl
 ·rename_i h
  split
  ·rename_i h2; subst h2; simp
  ·rename_i h2
   have:j - l.length≠0:=by omega
   obtain⟨k,hk⟩:=Nat.exists_eq_succ_of_ne_zero this
   rw [hk]; simp
theorem uL{l:List Fx}{x:Fx}{g:Nat→Nat→AV}(hg:eqG l.length 3 g (fxG l)):eqG (l.length+1) 3 (appG l.length g (zf (zg 3 [.str x.name,.int .i64 x.date,.str x.value]) 0)) (fxG (l++[x])):=by
 intro j o hj ho
 simp only [appG,fxG,YX]
 split
 ·rename_i h; exact hg j o h ho
 ·rename_i h
  have:j=l.length:=by omega
  subst this
  rw [if_pos rfl,Fx.Qw x (by omega) ho]
theorem W4(n sz:Nat)(g g':Nat→Nat→AV):eqG (0+n) sz (appG 0 g g') g':=by
 intro j o _ _
 simp [appG]
theorem Ja(n sz:Nat)(g:Nat→Nat→AV):eqG n sz (zf g 0) g:=by
 intro j o _ _
 simp [zf]
theorem X0(l:List Fx)(j o:Nat)(ho:o<3):zR (fxG l j o)=true:=by
 simp only [fxG]
 rcases o with _ | _ | _ | o
 ·rfl
 ·rfl
 ·rfl
 ·omega
theorem XF(l:List Ch)(j o:Nat)(ho:o<4):zR (chG l j o)=true:=by
 simp only [chG]
 rcases o with _ | _ | _ | _ | o
 ·rfl
 ·rfl
 ·rfl
 ·rfl
 ·omega
end Go.Nov
end
section
set_option maxRecDepth 100000
open Go Go.Sx Go.Proofs Go.Nov
namespace Go.Proofs.Tryz
attribute [local simp] eqKV eqA eqA0 eqH eqB eqL eqL0
end Go.Proofs.Tryz
end
section
namespace Go.Sx
variable [Stat]
variable {P:Program} {fn:Func} {Xp:List PanicEntry→Prop}
theorem zc.frozen{X R:Type}{inp:X→List AV}{pre:X→Prop}{post:X→R→Prop}{out:X→R→AV×Heap}{out':X→R→AV}{g:Nat}(h:zc P g (ctrP true inp pre post out))
  (hn:∀ x r,pre x→post x r→new2 (out x r).2 [] (out x r).1) (he:∀ x r,pre x→post x r→LeA (exp2 (out x r).2 [] (out x r).1) (out' x r)):zc P g (ctrP true inp pre post fun x r=>(out' x r,[])):=by
 intro args hc Q hq hfr
 have hc0:=hfr rfl
 subst hc0
 simp only [ctrP] at hq
 obtain⟨x,⟨h1,h2⟩,h3,h4⟩:=hq
 have k:=h args [] (fun p=>∃ r,post x r∧p=out x r) (by simp only [ctrP]; exact⟨x,⟨h1,h2⟩,h3,fun r hr=>⟨r,hr,rfl⟩⟩) (fun _=>rfl)
 intro O w σ vals hg hh hr
 have hσ:σ=[]:=List.length_eq_zero_iff.1 (by simpa using hh.len)
 subst hσ
 refine ya.mono ?_ (k O w [] vals hg hh hr)
 rintro v w' ⟨a,hs,σ',⟨r,hr,e⟩,g1,g2,g3,g4,g5,g6⟩
 have ea:a=(out x r).1:=by rw [← e]
 have eh:hs=(out x r).2:=by rw [← e]
 have sub:∀ b,Own O σ' b→(Own O σ' b∨((ctrP true inp pre post out).fresh=true∧b<w.heap.size)):=fun b hb=>.inl hb
 have hnew:∀ b,Mine σ' b→w.heap.size≤b:=fun b hb=>by
  rcases g6.grow b hb with hx | hx
  ·obtain⟨_,he,_⟩:=hx; simp at he
  ·exact hx
 have XX:Exp O w' σ' hs [] [] (fun b=>Own O [] b∨((ctrP true inp pre post fun x r=>(out' x r,([]:Heap))).fresh=true∧b<w.heap.size)):=
  ⟨g3,⟨g2.len,g2.inj,g2.lt,fun i e b he hb=>Z3 sub (g2.blk i e b he hb)⟩,rfl,by simp,fun j=>by simp,fun b hb=>by
   rcases hb with hb | ⟨_,hb⟩
   ·exact .inl hb
   ·exact .inr fun hm=>by have:=hnew b hm; omega⟩
 refine⟨out' x r,[],[],h4 r hr,he x r h2 hr _ _ _ _ ?_,⟨rfl,fun i j e f a b he=>by simp at he,fun i e a he=>by simp at he,fun i e b he=>by simp at he⟩,⟨g3.old,fun i e ad he=>by simp at he,g3.stat.own fun b hb=>by
  rcases hb with hb | ⟨e,he,_⟩
  ·exact .inl hb
  ·simp at he⟩,Nat.le_refl _,fun i e he=>by simp at he,⟨g6.os,g6.tape,g6.output,g6.size,fun b hb hno=>g6.keep b hb hno,fun b hb=>by obtain⟨_,he,_⟩:=hb; simp at he⟩⟩
 rw [← ea,← eh]
 exact ZO XX (.inr (by rw [ea,eh]; exact hn x r h2 hr)) (wj sub g1)
end Go.Sx
end
section
namespace Go.Nov
def sumS(m:Bool)(x:Nat)(n:Bool)(y:Nat):Bool×Nat:=if m=n then(m,x+y) else if y≤x then(m,x - y) else(n,y - x)
def addI(s t:List UInt8):List UInt8×Int:=if zx s t=0 then wr (sumS (negI s) (numI s) (negI t) (numI t)).1 (sumS (negI s) (numI s) (negI t) (numI t)).2 else([],zx s t)
def subI(s t:List UInt8):List UInt8×Int:=if zx s t=0 then wr (sumS (negI s) (numI s) (!negI t) (numI t)).1 (sumS (negI s) (numI s) (!negI t) (numI t)).2 else([],zx s t)
def mulI(s t:List UInt8):List UInt8×Int:=if zx s t=0 then wr (negI s != negI t) (numI s*numI t) else([],zx s t)
def cmpZ(m:Bool)(x:Nat)(n:Bool)(y:Nat):Int:=if m=true∧n=false then -1 else if n=true∧m=false then 1 else if m=true then cmpN y x else cmpN x y
def ur(s t:List UInt8):Int×Int:=if zx s t=0 then(cmpZ (negI s) (numI s) (negI t) (numI t),0) else(0,zx s t)
theorem uJ{d:Nat}(h:d<10):(byt d).toNat=48+d:=by
 unfold byt
 rw [UInt8.toNat_ofNat']
 omega
theorem xM{x:Nat}(h:x≠0):txt x=((dec x).map byt).reverse:=if_neg h
theorem uM{x:Nat}(h:x≠0):(txt x).length=(dec x).length:=by rw [xM h]; simp
theorem Ym{x:Nat}(h:x≠0):allD (txt x):=by
 intro c hc
 rw [xM h] at hc
 simp only [List.mem_reverse,List.mem_map] at hc
 obtain⟨d,hd,rfl⟩:=hc
 have:d<10:=Ten.zh x d hd
 rw [uJ this]
 omega
theorem zgf{x:Nat}(h:x≠0):dg (txt x)=dec x:=by
 rw [xM h,dg,List.map_reverse,List.reverse_reverse,List.map_map]
 conv=>rhs; rw [← List.map_id (dec x)]
 refine List.map_congr_left fun d hd=> ?_
 have:d<10:=Ten.zh x d hd
 simp only [Function.comp,uJ this,id]
 omega
theorem zd5{x:Nat}(h:x≠0):numD (txt x)=x:=by
 rw [← Kk,zgf h]
 exact Ten.zk x
theorem Q7{x:Nat}(h:x≠0):(txt x).getD 0 0≠48∧(txt x).getD 0 0≠45:=by
 have hl:=JB h
 have ht:=XW hl
 have hlt:=dec_lt x ((dec x).length - 1)
 have e:(txt x).getD 0 0=byt ((dec x).getD ((dec x).length - 1) 0):=by
  rw [xM h]
  simp only [List.getD_eq_getElem?_getD]
  rw [List.getElem?_reverse (by simpa using hl)]
  simp [List.getElem?_eq_getElem (show(dec x).length - 1<(dec x).length by omega)]
 rw [e]
 have hb:=uJ hlt
 constructor
 ·intro h2
  rw [h2] at hb
  have:(48:UInt8).toNat=48:=rfl
  omega
 ·intro h2
  rw [h2] at hb
  have:(45:UInt8).toNat=45:=rfl
  omega
theorem zaf{x:Nat}(h:x≠0):txt x≠[]:=by
 intro h2
 have:=uM h
 rw [h2] at this
 have:=JB h
 simp at *; omega
theorem Uk{x:Nat}(h:x≠0)(neg:Bool):parse (sgn neg (txt x))=(neg,txt x):=by
 cases neg with
 | true=>rfl
 | false=>
  simp only [sgn,Bool.false_eq_true,if_false]
  have h1:=(Q7 h).2
  cases ht:txt x with
  | nil=>exact absurd ht (zaf h)
  | cons c b=>
   rw [ht] at h1
   have:c≠45:=h1
   simp [parse,this]
theorem Uz{x:Nat}(h:x≠0)(neg:Bool):jF neg (txt x)=true:=by
 have h1:=(Q7 h).1
 have h2:txt x≠[48]:=by
  intro h2
  rw [h2] at h1
  exact h1 rfl
 have h3:=zaf h
 have h4:(txt x).all isD=true:=Ya.2 (Ym h)
 simp only [List.getD_eq_getElem?_getD] at h1
 simp [jF,h3,h2,h1,h4]
theorem Zf{neg:Bool}{x:Nat}(h:(wr neg x).2=0):errI (wr neg x).1=0∧numI (wr neg x).1=x∧negI (wr neg x).1=(neg&&decide (x≠0)):=by
 unfold wr at h ⊢
 by_cases h0:x=0
 ·subst h0
  simp only [if_true]
  refine⟨rfl,rfl,?_⟩
  simp [negI,parse]
 ·rw [if_neg h0] at h ⊢
  by_cases h1:1000<(dec x).length
  ·rw [if_pos h1] at h; cases h
  ·rw [if_neg h1]
   simp only [errI,numI,negI,Uk h0,Uz h0,if_true]
   rw [uM h0,if_neg h1]
   exact⟨rfl,zd5 h0,by simp [h0]⟩
theorem zbz(neg:Bool)(x:Nat):(wr neg x).2=0∨wr neg x=([],14):=by
 unfold wr
 split
 ·exact .inl rfl
 ·split
  ·exact .inr rfl
  ·exact .inl rfl
theorem zef(neg:Bool)(b:List UInt8):(sgn neg b).length≤b.length+1:=by
 unfold sgn; split<;>simp
theorem wO(neg:Bool)(x:Nat):(wr neg x).1.length≤1001:=by
 unfold wr
 split
 ·simp
 ·rename_i h0
  split
  ·simp
  ·rename_i h1
   have:=zef neg (txt x)
   rw [uM h0] at this
   simp only
   omega
theorem zc7(s t:List UInt8):(addI s t).1.length≤1001:=by
 unfold addI
 split
 ·exact wO _ _
 ·simp
theorem zbv(s t:List UInt8):(subI s t).1.length≤1001:=by
 unfold subI
 split
 ·exact wO _ _
 ·simp
theorem zc4(s t:List UInt8):(mulI s t).1.length≤1001:=by
 unfold mulI
 split
 ·exact wO _ _
 ·simp
theorem zeg(b:Bool)(x:Nat):wr (b&&decide (0<x)) x=wr b x:=by
 unfold wr
 by_cases h:x=0
 ·rw [if_pos h,if_pos h]
 ·rw [if_neg h,if_neg h]
  have:decide (0<x)=true:=decide_eq_true (Nat.pos_of_ne_zero h)
  rw [this,Bool.and_true]
theorem zeb(m:Bool)(x:Nat)(n:Bool)(y:Nat):(sumS m x n y).2≤x+y:=by
 unfold sumS
 split
 ·exact Nat.le_refl _
 ·split
  ·simp only; omega
  ·simp only; omega
end Go.Nov
end
section
namespace Go.Nov
def Q1(neg:Bool)(x y:Nat):List UInt8:=
 if y/Nat.gcd x y=1 then(wr neg (x/Nat.gcd x y)).1 else(wr neg (x/Nat.gcd x y)).1++[47]++(wr false (y/Nat.gcd x y)).1
def jH(n d:List UInt8):List UInt8×Int:=if zx n d≠0 then([],zx n d) else if numI d=0 then([],16) else(Q1 (negI n != negI d) (numI n) (numI d),0)
def je(a b:List UInt8):Int:=if errR a=0 then errR b else errR a
def numR(a:List UInt8):List UInt8:=(cutR a).1
def denR(a:List UInt8):List UInt8:=if(cutR a).2.2 then(cutR a).2.1 else [49]
def frac(z w:List UInt8×Int):List UInt8×Int:=if z.2≠0∨w.2≠0 then([],14) else jH z.1 w.1
def zM(a b:List UInt8):Int:=if je a b≠0 then je a b else if(mulI (numR a) (denR b)).2≠0∨(mulI (numR b) (denR a)).2≠0 then 14 else 0
def addR(a b:List UInt8):List UInt8×Int:=if zM a b≠0 then([],zM a b) else frac (addI (mulI (numR a) (denR b)).1 (mulI (numR b) (denR a)).1) (mulI (denR a) (denR b))
def subR(a b:List UInt8):List UInt8×Int:=if zM a b≠0 then([],zM a b) else frac (subI (mulI (numR a) (denR b)).1 (mulI (numR b) (denR a)).1) (mulI (denR a) (denR b))
def mulR(a b:List UInt8):List UInt8×Int:=if je a b≠0 then([],je a b) else frac (mulI (numR a) (numR b)) (mulI (denR a) (denR b))
def cmpR(a b:List UInt8):Int×Int:=if zM a b≠0 then(0,zM a b) else ur (mulI (numR a) (denR b)).1 (mulI (numR b) (denR a)).1
end Go.Nov
namespace Go.Nov
def dmQ(s t:List UInt8):Nat:=if negI s=true∧0<numI s%numI t then numI s/numI t+1 else numI s/numI t
def dmM(s t:List UInt8):Nat:=if negI s=true∧0<numI s%numI t then numI t - numI s%numI t else numI s%numI t
def dmI(s t:List UInt8):List UInt8×List UInt8×Int:=
 if zx s t≠0 then([],[],zx s t) else if numI t=0 then([],[],16) else((wr (negI s != negI t) (dmQ s t)).1,(wr false (dmM s t)).1,0)
theorem zcy{s:List UInt8}(h:errI s=0):∃ k,k≤1000∧numI s<10^k:=by
 obtain⟨_,h1,_,h2⟩:=Z0 h
 exact⟨_,h2,yj h1⟩
def room(x:Nat):Prop:=(dec x).length≤1000
theorem room_le{x y:Nat}(h:x≤y)(hy:room y):room x:=by
 rcases Nat.lt_or_ge (dec y).length (dec x).length with h1 | h1
 ·have:=Ten.zQ h1
  omega
 ·exact Nat.le_trans h1 hy
theorem ji{s:List UInt8}(h:errI s=0):room (numI s):=by
 obtain⟨k,h1,h2⟩:=zcy h
 exact Nat.le_trans (uV h2) h1
theorem vC{neg:Bool}{x:Nat}(h:room x):(wr neg x).2=0:=by
 unfold wr
 split
 ·rfl
 ·rw [if_neg (by have:(dec x).length≤1000:=h; omega)]
theorem zck{s t:List UInt8}(hs:errI s=0)(ht:numI t≠0):room (dmQ s t):=by
 have h:=ji hs
 unfold dmQ
 split
 ·rename_i hc
  by_cases h1:numI t=1
  ·rw [h1,Nat.mod_one] at hc; omega
  ·refine room_le ?_ h
   have h2:numI s/numI t≤numI s/2:=Nat.div_le_div_left (by omega) (by omega)
   have h3:numI s≠0:=fun h0=>by rw [h0,Nat.zero_mod] at hc; omega
   by_cases h4:numI s=1
   ·have:numI s/numI t=0:=Nat.div_eq_of_lt (by omega)
    omega
   ·omega
 ·exact room_le (Nat.div_le_self _ _) h
theorem zbb{s t:List UInt8}(ht:errI t=0)(h0:numI t≠0):room (dmM s t):=by
 have h:=ji ht
 have hm:=Nat.mod_lt (numI s) (Nat.pos_of_ne_zero h0)
 unfold dmM
 split
 ·exact room_le (Nat.sub_le _ _) h
 ·exact room_le (by omega) h
end Go.Nov
namespace Go.Nov
theorem vV:wr false 1=([49],0):=by
 have h:dec 1=[1]:=by
  show Ten.canon 1=[1]
  rw [Ten.qA (by decide)]
  exact congrArg (1 :: ·) Ten.zD
 simp [wr,h,txt,sgn,byt]
theorem KC{x:Nat}(h:room x):(wr false x).1=[49]↔x=1:=by
 constructor
 ·intro e
  have:=(Zf (vC (neg:=false) h)).2.1
  rw [e] at this
  exact this.symm
 ·rintro rfl
  rw [vV]
theorem zco{x:Nat}(h0:x≠0)(h:room x):[45]++(wr false x).1=(wr true x).1:=by
 unfold wr
 rw [if_neg h0,if_neg h0,if_neg (by have:(dec x).length≤1000:=h; omega),if_neg (by have:(dec x).length≤1000:=h; omega)]
 rfl
theorem kE{t:List UInt8}(h:errI t=0):t=[48]↔numI t=0:=by
 constructor
 ·rintro rfl; rfl
 ·intro h0
  obtain⟨neg,b,h1,h2,h3,h4,h5,h6⟩:=Jw h
  have hb:numD b=0:=by simpa [numI,h2] using h0
  cases b with
  | nil=>exact absurd rfl h5
  | cons c r=>
   have hc:=h4 c (by simp)
   have e:numD (c::r)=(c.toNat - 48)*10^r.length+numD r:=by
    have:=v8 [c] r
    simp only [List.singleton_append] at this
    rw [this]
    simp [numD]
   rw [e] at hb
   have hc0:c.toNat=48:=by
    rcases Nat.eq_zero_or_pos (c.toNat - 48) with h7 | h7
    ·omega
    ·have:=Nat.mul_pos h7 (Nat.pow_pos (n:=r.length) (show 0<10 by decide))
     omega
   have hc1:c=48:=UInt8.toNat_inj.1 (by rw [hc0]; rfl)
   subst hc1
   have hr:r=[]:=by
    cases r with
    | nil=>rfl
    | cons d r=>
     have:=vR (neg:=neg) (b:=48::d::r) rfl (by simp)
     rw [this] at h3; cases h3
   subst hr
   cases neg with
   | true=>cases h3
   | false=>simpa [sgn] using h1
theorem VC{s:List UInt8}{b:Bool}{g:Nat}(hs:errI s=0)(h0:g≠0)(hg:room g)(hd:g ∣ numI s):dmI s (wr b g).1=((wr (negI s != b) (numI s/g)).1,[48],0):=by
 obtain⟨h1,h2,h3⟩:=Zf (vC (neg:=b) hg)
 have hb:negI (wr b g).1=b:=by rw [h3]; simp [h0]
 have he:zx s (wr b g).1=0:=zn.2 ⟨hs,h1⟩
 have hm:numI s%g=0:=Nat.mod_eq_zero_of_dvd hd
 unfold dmI
 rw [if_neg (by rw [he]; decide),h2,if_neg h0,hb]
 have hq:dmQ s (wr b g).1=numI s/g:=by
  unfold dmQ
  rw [h2,hm,if_neg (by omega)]
 have hr:dmM s (wr b g).1=0:=by
  unfold dmM
  rw [h2,hm,if_neg (by omega)]
 rw [hq,hr]
 rfl
theorem WZ{s t:List UInt8}(ht:errI t=0)(h0:numI t≠0):Nat.gcd (numI s) (numI t)≠0∧room (Nat.gcd (numI s) (numI t)):=by
 have hp:=Nat.pos_of_ne_zero h0
 refine⟨fun h=> ?_,room_le (Nat.le_of_dvd hp (Nat.gcd_dvd_right _ _)) (ji ht)⟩
 have:=Nat.eq_zero_of_gcd_eq_zero_right h
 exact h0 this
theorem YR(neg:Bool)(x y:Nat):(Q1 neg x y).length≤2003:=by
 unfold Q1
 have h1:=wO neg (x/Nat.gcd x y)
 have h2:=wO false (y/Nat.gcd x y)
 split
 ·omega
 ·simp only [List.length_append,List.length_cons,List.length_nil]; omega
end Go.Nov
namespace Go.Nov
theorem Vp:errI [49]=0:=rfl
theorem q5{a:List UInt8}(h:errR a=0):errI (numR a)=0∧errI (denR a)=0∧negI (denR a)=false∧numI (denR a)≠0:=by
 unfold errR at h
 unfold numR denR
 cases hc:(cutR a).2.2 with
 | true=>
  rw [hc] at h
  simp only [if_true] at h ⊢
  split at h
  ·cases h
  ·rename_i h1
   simp only [not_or] at h1
   split at h
   ·cases h
   ·rename_i h2
    simp only [not_or,Classical.not_not] at h2
    refine⟨h2.1,h2.2,by simpa using h1.2.2.1,fun h0=> ?_⟩
    exact h1.2.2.2.1 ((kE h2.2).2 h0)
 | false=>
  rw [hc] at h
  simp only [Bool.false_eq_true,if_false] at h ⊢
  have:(cutR a).1=a:=by
   unfold cutR at hc ⊢
   split at hc
   ·cases hc
   ·rename_i hn; rw [if_neg hn]
  rw [this]
  exact⟨h,Vp,rfl,by decide⟩
theorem Wk(a:List UInt8):(numR a).length≤a.length:=(J4 a).1
theorem VM(a:List UInt8):(denR a).length≤a.length+1:=by
 unfold denR
 split
 ·exact Nat.le_trans (J4 a).2 (Nat.le_succ _)
 ·simp
theorem vj{s t:List UInt8}(h:zx s t=0):(mulI s t).2=0∧errI (mulI s t).1=0∨mulI s t=([],14):=by
 unfold mulI
 rw [if_pos h]
 exact(zbz _ _).imp (fun h=>⟨h,(Zf h).1⟩) id
theorem za7{s t:List UInt8}(h:zx s t=0):(addI s t).2=0∧errI (addI s t).1=0∨addI s t=([],14):=by
 unfold addI
 rw [if_pos h]
 exact(zbz _ _).imp (fun h=>⟨h,(Zf h).1⟩) id
end Go.Nov
namespace Go.Nov
def stp(e:Int)(f:List UInt8→List UInt8→List UInt8×Int)(x y:List UInt8):List UInt8×Int:=if e≠0 then([],e) else f x y
theorem zea{e:Int}{f:List UInt8→List UInt8→List UInt8×Int}{x y:List UInt8}(h:(f x y).1.length≤1001):(stp e f x y).1.length≤1001:=by
 unfold stp
 split
 ·simp
 ·exact h
theorem zX{e:Int}(h:e≠0)(f:List UInt8→List UInt8→List UInt8×Int)(x y:List UInt8):stp e f x y=([],e):=if_pos h
theorem we(f:List UInt8→List UInt8→List UInt8×Int)(x y:List UInt8):stp 0 f x y=f x y:=if_neg (by simp)
def Zo(f:List UInt8→List UInt8→List UInt8×Int)(a b:List UInt8):List UInt8×Int:=
 if zM a b≠0 then([],zM a b) else frac (f (mulI (numR a) (denR b)).1 (mulI (numR b) (denR a)).1) (mulI (denR a) (denR b))
section
variable {a b n m d c:List UInt8} {e:Int} (hp:(e≠0∧je a b=e)∨(e=0∧errR a=0∧errR b=0∧n=numR a∧m=numR b∧d=denR a∧c=denR b))
include hp
theorem Vq{f:List UInt8→List UInt8→List UInt8×Int}(hf:∀ {s t:List UInt8},zx s t=0→(f s t).2=0∧errI (f s t).1=0∨f s t=([],14)){r1 r2 r3 r4 r5:List UInt8×Int}
  (h1:r1=stp e mulI n c) (h2:r2=stp r1.2 mulI m d) (h3:r3=stp r2.2 f r1.1 r2.1) (h4:r4=stp r3.2 mulI d c) (h5:r5=stp r4.2 jH r3.1 r4.1):r5=Zo f a b:=by
 rcases hp with ⟨he,h2e⟩ | ⟨rfl,ha,hb,rfl,rfl,rfl,rfl⟩
 ·have hc:zM a b=e:=by unfold zM; rw [if_pos (by rw [h2e]; exact he)]; exact h2e
  unfold Zo
  rw [hc,if_pos he]
  rw [zX he] at h1
  subst h1
  rw [zX he] at h2
  subst h2
  rw [zX he] at h3
  subst h3
  rw [zX he] at h4
  subst h4
  rw [h5,zX he]
 ·obtain⟨a1,a2,_⟩:=q5 ha
  obtain⟨b1,b2,_⟩:=q5 hb
  have he2:je a b=0:=by unfold je; rw [if_pos ha]; exact hb
  have e14:(14:Int)≠0:=by decide
  rw [we] at h1
  have hc:zM a b=if(mulI (numR a) (denR b)).2≠0∨(mulI (numR b) (denR a)).2≠0 then 14 else 0:=by unfold zM; rw [if_neg (by rw [he2]; simp)]
  rcases vj (zn.2 ⟨a1,b2⟩) with ⟨g1,k1⟩ | g1
  ·rw [← h1] at g1 k1
   rw [g1,we] at h2
   rcases vj (zn.2 ⟨b1,a2⟩) with ⟨g2,k2⟩ | g2
   ·rw [← h2] at g2 k2
    rw [g2,we] at h3
    have hc0:zM a b=0:=by rw [hc,if_neg]; rw [← h1,← h2,g1,g2]; simp
    unfold Zo
    rw [hc0,if_neg (by simp),← h1,← h2,← h3]
    rcases hf (zn.2 ⟨k1,k2⟩) with ⟨g3,k3⟩ | g3
    ·rw [← h3] at g3 k3
     rw [g3,we] at h4
     unfold frac
     rw [← h4,h5]
     rcases vj (zn.2 ⟨a2,b2⟩) with ⟨g4,k4⟩ | g4
     ·rw [← h4] at g4
      rw [g3,g4,if_neg (by simp),we]
     ·rw [← h4] at g4
      rw [g4,if_pos (by simp),zX e14]
    ·rw [← h3] at g3
     have q4:r4=([],14):=by rw [h4,g3]; exact zX e14 _ _ _
     unfold frac
     rw [if_pos (by rw [g3]; simp),h5,q4,zX e14]
   ·rw [← h2] at g2
    have hc0:zM a b=14:=by rw [hc,if_pos]; rw [← h2,g2]; simp
    unfold Zo
    rw [hc0,if_pos e14]
    have q3:r3=([],14):=by rw [h3,g2]; exact zX e14 _ _ _
    have q4:r4=([],14):=by rw [h4,q3]; exact zX e14 _ _ _
    rw [h5,q4,zX e14]
  ·rw [← h1] at g1
   have hc0:zM a b=14:=by rw [hc,if_pos]; rw [← h1,g1]; simp
   unfold Zo
   rw [hc0,if_pos e14]
   have q2:r2=([],14):=by rw [h2,g1]; exact zX e14 _ _ _
   have q3:r3=([],14):=by rw [h3,q2]; exact zX e14 _ _ _
   have q4:r4=([],14):=by rw [h4,q3]; exact zX e14 _ _ _
   rw [h5,q4,zX e14]
theorem Uf{x y z w:List UInt8}{r1 r2 r3:List UInt8×Int}(h1:r1=stp e mulI x y)(h2:r2=stp r1.2 mulI z w)(h3:r3=stp r2.2 jH r1.1 r2.1)
  (hv:errR a=0→errR b=0→zx x y=0∧zx z w=0):r3=if je a b≠0 then([],je a b) else frac (mulI x y) (mulI z w):=by
 rcases hp with ⟨he,h2e⟩ | ⟨rfl,ha,hb,_⟩
 ·rw [h2e,if_pos he]
  rw [zX he] at h1
  subst h1
  rw [zX he] at h2
  subst h2
  rw [h3,zX he]
 ·obtain⟨v1,v2⟩:=hv ha hb
  have he2:je a b=0:=by unfold je; rw [if_pos ha]; exact hb
  have e14:(14:Int)≠0:=by decide
  rw [he2,if_neg (by simp)]
  rw [we] at h1
  unfold frac
  rcases vj v1 with ⟨g1,_⟩ | g1
  ·rw [← h1] at g1 ⊢
   rw [g1,we] at h2
   rcases vj v2 with ⟨g2,_⟩ | g2
   ·rw [← h2] at g2 ⊢
    rw [g1,g2,if_neg (by simp),h3,g2,we]
   ·rw [← h2] at g2 ⊢
    rw [g2,if_pos (by simp),h3,g2,zX e14]
  ·rw [← h1] at g1 ⊢
   have q2:r2=([],14):=by rw [h2,g1]; exact zX e14 _ _ _
   rw [g1,if_pos (by simp),h3,q2,zX e14]
theorem Y4{r1 r2:List UInt8×Int}(h1:r1=stp e mulI n c)(h2:r2=stp r1.2 mulI m d):(if r2.2≠0 then(0,r2.2) else ur r1.1 r2.1)=cmpR a b:=by
 unfold cmpR
 rcases hp with ⟨he,h2e⟩ | ⟨rfl,ha,hb,rfl,rfl,rfl,rfl⟩
 ·have hc:zM a b=e:=by unfold zM; rw [if_pos (by rw [h2e]; exact he)]; exact h2e
  rw [zX he] at h1
  subst h1
  rw [zX he] at h2
  subst h2
  rw [hc,if_pos he,if_pos he]
 ·obtain⟨a1,a2,_⟩:=q5 ha
  obtain⟨b1,b2,_⟩:=q5 hb
  have he2:je a b=0:=by unfold je; rw [if_pos ha]; exact hb
  have e14:(14:Int)≠0:=by decide
  have hc:zM a b=if(mulI (numR a) (denR b)).2≠0∨(mulI (numR b) (denR a)).2≠0 then 14 else 0:=by unfold zM; rw [if_neg (by rw [he2]; simp)]
  rw [we] at h1
  rcases vj (zn.2 ⟨a1,b2⟩) with ⟨g1,k1⟩ | g1
  ·rw [← h1] at g1
   rw [g1,we] at h2
   rcases vj (zn.2 ⟨b1,a2⟩) with ⟨g2,k2⟩ | g2
   ·rw [← h2] at g2
    have hc0:zM a b=0:=by rw [hc,if_neg]; rw [← h1,← h2,g1,g2]; simp
    rw [hc0,if_neg (by rw [g2]; simp),if_neg (by simp),← h1,← h2]
   ·rw [← h2] at g2
    have hc0:zM a b=14:=by rw [hc,if_pos]; rw [← h2,g2]; simp
    rw [hc0,g2,if_pos e14,if_pos e14]
  ·rw [← h1] at g1
   have hc0:zM a b=14:=by rw [hc,if_pos]; rw [← h1,g1]; simp
   have q2:r2=([],14):=by rw [h2,g1]; exact zX e14 _ _ _
   rw [hc0,q2,if_pos e14,if_pos e14]
end
end Go.Nov
end
section
namespace Go.Nov
theorem zgu{b:List UInt8}(h:allD b)(hn:b≠[])(hz:b.getD 0 0≠48):numD b≠0∧txt (numD b)=b:=by
 have hd:=zgm h
 have hl:0<b.length:=List.length_pos_iff.2 hn
 have htl:Ten.tlen (dg b)=(dg b).length:=by
  rcases Nat.lt_or_ge (Ten.tlen (dg b)) (dg b).length with h1 | h1
  ·exfalso
   have h2:=Ten.jw (dg b) ((dg b).length - 1) (by omega)
   rw [KL] at h2
   have e:(dg b).getD (b.length - 1) 0=(b.getD 0 0).toNat - 48:=by
    simp only [dg,List.getD_eq_getElem?_getD]
    rw [List.getElem?_reverse (by simp; omega)]
    simp [List.getElem?_eq_getElem hl,show b.length - 1 - (b.length - 1)=0 by omega]
   rw [e] at h2
   have h3:48≤(b.getD 0 0).toNat:=by
    cases b with
    | nil=>exact absurd rfl hn
    | cons c r=>exact(h c (by simp)).1
   apply hz
   apply UInt8.toNat_inj.1
   show _=48
   omega
  ·exact Nat.le_antisymm (Ten.qa _) h1
 have hc:dec (numD b)=dg b:=by
  rw [← Kk]
  exact Ten.QA hd htl
 have h0:numD b≠0:=by
  intro h0
  rw [h0] at hc
  have:dg b=[]:=by rw [← hc]; exact Ten.zD
  have:=congrArg List.length this
  rw [KL,List.length_nil] at this
  omega
 refine⟨h0,?_⟩
 rw [xM h0,hc,dg,← List.map_reverse,List.reverse_reverse,List.map_map]
 conv=>rhs; rw [← List.map_id b]
 refine List.map_congr_left fun c hcm=> ?_
 obtain⟨h1,h2⟩:=h c hcm
 apply UInt8.toNat_inj.1
 simp only [Function.comp,id]
 rw [uJ (by omega)]
 omega
theorem X9{s:List UInt8}(h:errI s=0):wr (negI s) (numI s)=(s,0):=by
 obtain⟨neg,b,h1,h2,h3,h4,h5,h6⟩:=Jw h
 have e1:negI s=neg:=by simp [negI,h2]
 have e2:numI s=numD b:=by simp [numI,h2]
 rw [e1,e2]
 by_cases hz:b.getD 0 0=48
 ·have hb:b=[48]:=by
   cases b with
   | nil=>exact absurd rfl h5
   | cons c r=>
    cases r with
    | nil=>have:c=48:=hz; rw [this]
    | cons d r=>rw [vR hz (by simp)] at h3; cases h3
  subst hb
  cases neg with
  | true=>cases h3
  | false=>rw [h1]; rfl
 ·obtain⟨g1,g2⟩:=zgu h4 h5 hz
  unfold wr
  rw [if_neg g1,g2,if_neg,h1]
  have:=uM g1
  rw [g2] at this
  omega
def zI(s:List UInt8):Int:=if negI s then -(numI s:Int) else numI s
theorem jO(s:List UInt8):(zI s).natAbs=numI s:=by unfold zI; split<;>simp
theorem Wh{s:List UInt8}(h:errI s=0):negI s=decide (zI s<0):=by
 unfold zI
 cases hn:negI s with
 | false=>simp
 | true=>
  simp only [if_true]
  have:numI s≠0:=by
   intro h0
   have:=(kE h).2 h0
   rw [this] at hn
   cases hn
  exact(decide_eq_true (by omega)).symm
def wz(z:Int):List UInt8×Int:=wr (decide (z<0)) z.natAbs
theorem J7{s:List UInt8}(h:errI s=0):wz (zI s)=(s,0):=by
 unfold wz
 rw [jO,← Wh h,X9 h]
theorem zhl{neg:Bool}{x:Nat}(h:(wr neg x).2=0):zI (wr neg x).1=if neg then -(x:Int) else x:=by
 obtain⟨h1,h2,h3⟩:=Zf h
 unfold zI
 rw [h2,h3]
 by_cases h0:x=0
 ·subst h0; simp
 ·cases neg<;>simp [h0]
theorem xc{z:Int}(h:(wz z).2=0):zI (wz z).1=z:=by
 unfold wz at h ⊢
 rw [zhl h]
 by_cases hz:z<0
 ·rw [decide_eq_true hz]; simp only [if_true]; omega
 ·rw [decide_eq_false hz]; simp only [Bool.false_eq_true,if_false]; omega
theorem uf{z:Int}(h:(wz z).2=0):errI (wz z).1=0:=(Zf h).1
theorem XE{neg:Bool}{x:Nat} : wr neg x=wz (if neg then -(x:Int) else x):=by
 unfold wz
 by_cases h0:x=0
 ·subst h0
  cases neg<;>rfl
 ·cases neg with
  | false=>simp only [Bool.false_eq_true,if_false,Int.natAbs_natCast]; rw [decide_eq_false (by omega)]
  | true=>simp only [if_true,Int.natAbs_neg,Int.natAbs_natCast]; rw [decide_eq_true (by omega)]
theorem zh1(m:Bool)(x:Nat)(n:Bool)(y:Nat):(if(sumS m x n y).1 then -((sumS m x n y).2:Int) else(sumS m x n y).2)=(if m then -(x:Int) else x)+(if n then -(y:Int) else y):=by
 unfold sumS
 by_cases h:m=n
 ·subst h
  rw [if_pos rfl]
  cases m<;>simp<;>omega
 ·rw [if_neg h]
  by_cases h2:y≤x
  ·rw [if_pos h2]
   cases m<;>cases n<;>first | exact absurd rfl h | (simp; omega)
  ·rw [if_neg h2]
   cases m<;>cases n<;>first | exact absurd rfl h | (simp; omega)
theorem zh4{s t:List UInt8}(h:zx s t=0):addI s t=wz (zI s+zI t):=by
 unfold addI
 rw [if_pos h,XE,zh1]; rfl
theorem xB{s t:List UInt8}(h:zx s t=0):mulI s t=wz (zI s*zI t):=by
 unfold mulI
 rw [if_pos h,XE]
 congr 1
 unfold zI
 cases negI s<;>cases negI t<;>simp [Int.neg_mul,Int.mul_neg]
theorem zgx(m:Bool)(x:Nat)(n:Bool)(y:Nat)(hm:m=true→x≠0)(hn:n=true→y≠0):cmpZ m x n y=cmpI (if m then -(x:Int) else x) (if n then -(y:Int) else y):=by
 unfold cmpZ cmpI cmpN
 cases m<;>cases n
 ·simp only [Bool.false_eq_true,false_and,if_false]
  repeat' split
  all_goals first | rfl | omega
 ·have:=hn rfl
  simp only [Bool.false_eq_true,false_and,if_false,true_and,and_self,if_true]
  repeat' split
  all_goals first | rfl | omega
 ·have:=hm rfl
  simp only [and_self,if_true,Bool.false_eq_true,if_false]
  repeat' split
  all_goals first | rfl | omega
 ·simp only [Bool.true_eq_false,and_false,if_false,if_true]
  repeat' split
  all_goals first | rfl | omega
def qv(a:List UInt8):Rat:=Rat.divInt (zI (numR a)) (zI (denR a))
def qstr(r:Rat):List UInt8:=if r.den=1 then(wz r.num).1 else(wz r.num).1++[47]++(wz r.den).1
def xk(r:Rat):Prop:=room r.num.natAbs∧room r.den
theorem zas(neg:Bool)(x:Nat):∀ c∈(wr neg x).1,c≠47:=by
 intro c hc h
 subst h
 unfold wr at hc
 split at hc
 ·simp at hc
 ·rename_i h0
  split at hc
  ·simp at hc
  ·have ht:¬ (47:UInt8)∈txt x:=fun hm=>by
    have:=(Ym h0 _ hm).1
    have e:(47:UInt8).toNat=47:=rfl
    omega
   cases neg<;>simp [sgn] at hc<;>exact ht hc
theorem U6{u v:List UInt8}(h:∀ c∈u,c≠47):cutR (u++[47]++v)=(u,v,true):=by
 have hs:zA (u++[47]++v)=u.length:=by
  refine za8 (by simp) (by simp [List.getD]) fun j hj=> ?_
  rw [List.append_assoc]
  simp only [List.getD,List.getElem?_append_left hj,List.getElem?_eq_getElem hj,Option.getD_some]
  exact h _ (List.getElem_mem hj)
 rw [X5 (by rw [hs]; simp),hs]
 simp
theorem Y1{u:List UInt8}(h:∀ c∈u,c≠47):cutR u=(u,[],false):=by
 have hs:zA u=u.length:=Ki fun j hj=>by
  simp only [List.getD,List.getElem?_eq_getElem hj,Option.getD_some]
  exact h _ (List.getElem_mem hj)
 exact UI (by omega)
theorem WY(z:Int):∀ c∈(wz z).1,c≠47:=zas _ _
theorem kT{z:Int}(h:room z.natAbs):(wz z).2=0:=vC h
theorem zgh:wz 1=([49],0):=vV
theorem uY{r:Rat}(h:xk r):numR (qstr r)=(wz r.num).1∧denR (qstr r)=(wz (r.den:Int)).1∧(cutR (qstr r)).2.2=decide (r.den≠1):=by
 unfold qstr
 by_cases h1:r.den=1
 ·rw [if_pos h1]
  have:=Y1 (WY r.num)
  unfold numR denR
  rw [this,h1]
  exact⟨rfl,by simp only [Bool.false_eq_true,if_false]; exact(congrArg Prod.fst zgh).symm,by simp⟩
 ·rw [if_neg h1]
  have:=U6 (v:=(wz (r.den:Int)).1) (WY r.num)
  unfold numR denR
  rw [this]
  exact⟨rfl,rfl,by simp [h1]⟩
theorem Yt{r:Rat}(h:xk r):qv (qstr r)=r:=by
 obtain⟨h1,h2,_⟩:=uY h
 unfold qv
 rw [h1,h2,xc (kT h.1),xc (kT (by rw [Int.natAbs_natCast]; exact h.2)),Rat.divInt_ofNat,Rat.mkRat_self]
theorem Ji{r:Rat}(h:xk r):errR (qstr r)=0:=by
 obtain⟨h1,h2,h3⟩:=uY h
 have e1:=uf (kT h.1)
 have e2:errI (wz (r.den:Int)).1=0:=uf (kT (by rw [Int.natAbs_natCast]; exact h.2))
 have z1:=xc (kT h.1)
 have z2:zI (wz (r.den:Int)).1=r.den:=xc (kT (by rw [Int.natAbs_natCast]; exact h.2))
 unfold errR
 by_cases hd:r.den=1
 ·rw [h3,hd]
  simp only [ne_eq,not_true_eq_false,decide_false,Bool.false_eq_true,if_false]
  unfold qstr
  rw [if_pos hd]
  exact e1
 ·have hc:(cutR (qstr r)).2.2=true:=by rw [h3]; simp [hd]
  have n1:(cutR (qstr r)).1=(wz r.num).1:=h1
  have n2:(cutR (qstr r)).2.1=(wz (r.den:Int)).1:=by unfold denR at h2; rw [hc] at h2; exact h2
  rw [hc,if_pos rfl,n1,n2]
  have hp:=r.den_pos
  have hneg:negI (wz (r.den:Int)).1=false:=by rw [Wh e2,z2]; exact decide_eq_false (by omega)
  have hn48:(wz (r.den:Int)).1≠[48]:=fun h=>by
   rw [h] at z2
   have:zI [48]=0:=rfl
   omega
  have hn49:(wz (r.den:Int)).1≠[49]:=fun h=>by
   rw [h] at z2
   have:zI [49]=1:=rfl
   omega
  rw [if_neg (by simp [e1,e2,hneg,hn48,hn49]),if_neg (by simp [e1,e2])]
  have hg:gcdR (wz r.num).1 (wz (r.den:Int)).1=wr false (Nat.gcd r.num.natAbs r.den):=by
   unfold gcdR
   rw [if_pos (zn.2 ⟨e1,e2⟩),← jO,← jO,z1,z2,Int.natAbs_natCast]
  have hr:Nat.gcd r.num.natAbs r.den=1:=r.reduced
  rw [hg,hr,vV,if_neg (by simp)]
theorem ZZ{a:List UInt8}(h:errR a=0):(qv a).num=zI (numR a)∧((qv a).den:Int)=zI (denR a)∧qstr (qv a)=a∧xk (qv a):=by
 obtain⟨e1,e2,e3,e4⟩:=q5 h
 have hz:zI (denR a)=numI (denR a):=by unfold zI; rw [e3]; rfl
 have hcop:Nat.gcd (numI (numR a)) (numI (denR a))=1:=by
  unfold errR at h
  cases hc:(cutR a).2.2 with
  | true=>
   rw [hc,if_pos rfl] at h
   have hd:denR a=(cutR a).2.1:=by unfold denR; rw [hc]; rfl
   rw [hd] at e2 e4 ⊢
   unfold numR at e1 ⊢
   split at h
   ·cases h
   split at h
   ·cases h
   split at h
   ·cases h
   ·rename_i hg
    rw [Classical.not_not] at hg
    unfold gcdR at hg
    rw [if_pos (zn.2 ⟨e1,e2⟩)] at hg
    exact(KC (WZ e2 e4).2).1 hg
  | false=>
   have:denR a=[49]:=by unfold denR; rw [hc]; rfl
   rw [this]
   exact Nat.gcd_one_right _
 have hq:qv a=⟨zI (numR a),numI (denR a),e4,by rw [jO]; exact hcop⟩:=by
  unfold qv
  rw [hz,Rat.mk_eq_divInt]
 have hroom:xk (qv a):=by
  rw [hq]
  exact⟨by show room (zI (numR a)).natAbs; rw [jO]; exact ji e1,ji e2⟩
 refine⟨by rw [hq],by rw [hq,hz],?_,hroom⟩
 rw [hq]
 unfold qstr
 simp only
 rw [← hz,J7 e1,J7 e2]
 cases hc:(cutR a).2.2 with
 | true=>
  have hd:denR a=(cutR a).2.1:=by unfold denR; rw [hc]; rfl
  have hn1:numI (denR a)≠1:=by
   intro h1
   have:denR a=[49]:=by
    have:=(X9 e2)
    rw [e3,h1,vV] at this
    exact(congrArg Prod.fst this).symm
   unfold errR at h
   rw [hc,if_pos rfl,if_pos (by rw [← hd,this]; simp)] at h
   cases h
  rw [if_neg hn1,hd]
  simp only [numR]
  unfold cutR at hc ⊢
  split at hc
  ·rename_i hs
   rw [if_pos hs]
   simp only
   have h47:=ZX hs
   have:a=a.take (zA a)++([a.getD (zA a) 0]++a.drop (zA a+1)):=by
    conv=>lhs; rw [← List.take_append_drop (zA a) a]
    congr 1
    rw [List.drop_eq_getElem_cons hs]
    simp [List.getD,List.getElem?_eq_getElem hs]
   rw [h47] at this
   rw [List.append_assoc]
   exact this.symm
  ·cases hc
 | false=>
  have hd:denR a=[49]:=by unfold denR; rw [hc]; rfl
  rw [hd]
  have:numI [49]=1:=rfl
  rw [if_pos this]
  unfold numR
  unfold cutR at hc ⊢
  split at hc
  ·cases hc
  ·rename_i hs
   rw [if_neg hs]
theorem zem(a b:Int)(hb:b≠0):b.sign*a=if(decide (a<0) != decide (b<0))=true then -(a.natAbs:Int) else a.natAbs:=by
 by_cases h1:a<0
 ·rw [decide_eq_true h1]
  by_cases h2:b<0
  ·rw [decide_eq_true h2,Int.sign_eq_neg_one_of_neg h2]; simp; omega
  ·rw [decide_eq_false h2,Int.sign_eq_one_of_pos (by omega)]; simp; omega
 ·rw [decide_eq_false h1]
  by_cases h2:b<0
  ·rw [decide_eq_true h2,Int.sign_eq_neg_one_of_neg h2]; simp; omega
  ·rw [decide_eq_false h2,Int.sign_eq_one_of_pos (by omega)]; simp; omega
theorem zha{n d:List UInt8}(hn:errI n=0)(hd:errI d=0)(h0:numI d≠0):jH n d=(qstr (Rat.divInt (zI n) (zI d)),0)∧xk (Rat.divInt (zI n) (zI d)):=by
 have hz0:zI d≠0:=fun h=>h0 (by rw [← jO,h]; rfl)
 have hg:(zI d).gcd (zI n)=Nat.gcd (numI n) (numI d):=by
  show Nat.gcd _ _=_
  rw [jO,jO,Nat.gcd_comm]
 have hden:(Rat.divInt (zI n) (zI d)).den=numI d/Nat.gcd (numI n) (numI d):=by
  rw [Rat.den_divInt,if_neg hz0,hg,jO]
 have hdv:Nat.gcd (numI n) (numI d) ∣ numI n:=Nat.gcd_dvd_left _ _
 have hnum:(Rat.divInt (zI n) (zI d)).num=if(negI n != negI d)=true then -((numI n/Nat.gcd (numI n) (numI d):Nat):Int) else((numI n/Nat.gcd (numI n) (numI d):Nat):Int):=by
  rw [Rat.num_divInt,hg,zem _ _ hz0,jO,← Wh hn,← Wh hd]
  split
  ·rw [Int.neg_ediv_of_dvd (Int.natCast_dvd_natCast.2 hdv),Int.natCast_ediv]
  ·rw [Int.natCast_ediv]
 have hroom:xk (Rat.divInt (zI n) (zI d)):=by
  refine⟨?_,by rw [hden]; exact room_le (Nat.div_le_self _ _) (ji hd)⟩
  rw [hnum]
  have:room (numI n/Nat.gcd (numI n) (numI d)):=room_le (Nat.div_le_self _ _) (ji hn)
  split
  ·rw [Int.natAbs_neg,Int.natAbs_natCast]; exact this
  ·rw [Int.natAbs_natCast]; exact this
 refine⟨?_,hroom⟩
 unfold jH
 rw [if_neg (by rw [zn.2 ⟨hn,hd⟩]; simp),if_neg h0]
 congr 1
 unfold Q1 qstr
 rw [hden,hnum]
 have e2:(wr false (numI d/Nat.gcd (numI n) (numI d))).1=(wz ((numI d/Nat.gcd (numI n) (numI d):Nat):Int)).1:=by rw [XE]; rfl
 rw [XE,e2]
theorem zcp{n d:List UInt8}{e f:Int}{z w:Int}(hw:w≠0)(hz:(n,e)=wz z)(hd:(d,f)=wz w):frac (n,e) (d,f)=([],14)∨(frac (n,e) (d,f)=(qstr (Rat.divInt z w),0)∧xk (Rat.divInt z w)):=by
 unfold frac
 by_cases he:e=0
 ·by_cases hf:f=0
  ·subst he; subst hf
   have h1:(wz z).2=0:=by rw [← hz]
   have h2:(wz w).2=0:=by rw [← hd]
   have n1:n=(wz z).1:=by rw [← hz]
   have n2:d=(wz w).1:=by rw [← hd]
   have z1:=xc h1
   have z2:=xc h2
   have e1:=uf h1
   have e2:=uf h2
   rw [← n1] at z1 e1
   rw [← n2] at z2 e2
   right
   rw [if_neg (by simp)]
   have:=zha e1 e2 (fun h=>hw (by rw [← z2]; have:=jO d; omega))
   rw [z1,z2] at this
   exact this
  ·left; rw [if_pos (.inr hf)]
 ·left; rw [if_pos (.inl he)]
section
variable {a b:List UInt8} (ha:errR a=0) (hb:errR b=0)
include ha hb
theorem Vs:errI (numR a)=0∧errI (denR a)=0∧errI (numR b)=0∧errI (denR b)=0∧zI (denR a)≠0∧zI (denR b)≠0∧je a b=0:=by
 obtain⟨a1,a2,_,a4⟩:=q5 ha
 obtain⟨b1,b2,_,b4⟩:=q5 hb
 exact⟨a1,a2,b1,b2,fun h=>a4 (by rw [← jO,h]; rfl),fun h=>b4 (by rw [← jO,h]; rfl),by unfold je; rw [if_pos ha]; exact hb⟩
theorem Yn:zM a b=14∨(zM a b=0∧mulI (numR a) (denR b)=wz (zI (numR a)*zI (denR b))∧mulI (numR b) (denR a)=wz (zI (numR b)*zI (denR a))∧(mulI (numR a) (denR b)).2=0∧(mulI (numR b) (denR a)).2=0):=by
 obtain⟨a1,a2,b1,b2,a4,b4,h2⟩:=Vs ha hb
 have m1:=xB (zn.2 ⟨a1,b2⟩)
 have m2:=xB (zn.2 ⟨b1,a2⟩)
 unfold zM
 rw [if_neg (by rw [h2]; simp)]
 by_cases h:(mulI (numR a) (denR b)).2≠0∨(mulI (numR b) (denR a)).2≠0
 ·left; rw [if_pos h]
 ·right
  rw [if_neg h]
  simp only [not_or,Classical.not_not] at h
  exact⟨rfl,m1,m2,h.1,h.2⟩
theorem zhf:addR a b=([],14)∨(addR a b=(qstr (qv a+qv b),0)∧xk (qv a+qv b)):=by
 obtain⟨a1,a2,b1,b2,a4,b4,h2⟩:=Vs ha hb
 unfold addR
 rcases Yn ha hb with h | ⟨h,m1,m2,k1,k2⟩
 ·left; rw [h]; rfl
 ·rw [h,if_neg (by simp)]
  rw [m1] at k1
  rw [m2] at k2
  have e1:=uf k1
  have e2:=uf k2
  have:=zcp (n:=(addI (mulI (numR a) (denR b)).1 (mulI (numR b) (denR a)).1).1) (e:=(addI (mulI (numR a) (denR b)).1 (mulI (numR b) (denR a)).1).2) (d:=(mulI (denR a) (denR b)).1) (f:=(mulI (denR a) (denR b)).2)
   (z:=zI (numR a)*zI (denR b)+zI (numR b)*zI (denR a)) (w:=zI (denR a)*zI (denR b)) (Int.mul_ne_zero a4 b4) (by rw [m1,m2,zh4 (zn.2 ⟨e1,e2⟩),xc k1,xc k2]) (by rw [xB (zn.2 ⟨a2,b2⟩)])
  unfold qv
  rw [Rat.divInt_add_divInt _ _ a4 b4]
  exact this
theorem zg8:mulR a b=([],14)∨(mulR a b=(qstr (qv a*qv b),0)∧xk (qv a*qv b)):=by
 obtain⟨a1,a2,b1,b2,a4,b4,h2⟩:=Vs ha hb
 unfold mulR
 rw [h2,if_neg (by simp)]
 have:=zcp (n:=(mulI (numR a) (numR b)).1) (e:=(mulI (numR a) (numR b)).2) (d:=(mulI (denR a) (denR b)).1) (f:=(mulI (denR a) (denR b)).2)
  (z:=zI (numR a)*zI (numR b)) (w:=zI (denR a)*zI (denR b)) (Int.mul_ne_zero a4 b4) (by rw [xB (zn.2 ⟨a1,b1⟩)]) (by rw [xB (zn.2 ⟨a2,b2⟩)])
 unfold qv
 rw [Rat.divInt_mul_divInt]
 exact this
theorem zh2:cmpR a b=(0,14)∨cmpR a b=(if qv a<qv b then -1 else if qv b<qv a then 1 else 0,0):=by
 obtain⟨a1,a2,b1,b2,a4,b4,h2⟩:=Vs ha hb
 obtain⟨p1,p2,_,_⟩:=ZZ ha
 obtain⟨r1,r2,_,_⟩:=ZZ hb
 unfold cmpR
 rcases Yn ha hb with h | ⟨h,m1,m2,k1,k2⟩
 ·left; rw [h]; rfl
 ·right
  rw [h,if_neg (by simp)]
  rw [m1] at k1
  rw [m2] at k2
  have e1:=uf k1
  have e2:=uf k2
  rw [m1,m2]
  unfold ur
  rw [if_pos (zn.2 ⟨e1,e2⟩)]
  congr 1
  have hx:∀ s:List UInt8,errI s=0→negI s=true→numI s≠0:=fun s he hn h0=>by
   rw [(kE he).2 h0] at hn; cases hn
  rw [zgx _ _ _ _ (hx _ e1) (hx _ e2)]
  show cmpI (zI (wz (zI (numR a)*zI (denR b))).1) (zI (wz (zI (numR b)*zI (denR a))).1)=_
  rw [xc k1,xc k2,← p1,← p2,← r1,← r2]
  unfold cmpI
  simp only [Rat.lt_iff]
end
theorem ze0{a b:List UInt8}(ha:errR a=0)(hb:errR b=0)(h:(addR a b).2=0):errR (addR a b).1=0∧qv (addR a b).1=qv a+qv b:=by
 rcases zhf ha hb with h1 | ⟨h1,h2⟩
 ·rw [h1] at h; cases h
 ·rw [h1]; exact⟨Ji h2,Yt h2⟩
theorem zdz{a b:List UInt8}(ha:errR a=0)(hb:errR b=0)(h:(mulR a b).2=0):errR (mulR a b).1=0∧qv (mulR a b).1=qv a*qv b:=by
 rcases zg8 ha hb with h1 | ⟨h1,h2⟩
 ·rw [h1] at h; cases h
 ·rw [h1]; exact⟨Ji h2,Yt h2⟩
end Go.Nov
end
section
namespace Go.Nov
end Go.Nov
end
section
namespace Go.Nov
open Go.Sx
structure TOp where
 kind:Int
 a:Int
 b:Int
 rat:List UInt8
abbrev TOp.nil:TOp:=⟨0,0,0,[]⟩
def TOp.cell(o:TOp):Nat→AV
 | 0=>.int .u8 o.kind
 | 1=>.int .i64 o.a
 | 2=>.int .i64 o.b
 | 3=>.str o.rat
 | _=>.undef
def opG(l:List TOp):Nat→Nat→AV:=fun j=>(l.getD j TOp.nil).cell
def opS(l:List TOp):AV:=.sl l.length 4 (opG l)
structure Tp where
 n:Int
 ops:List TOp
def Tp.av(t:Tp):AV:=.agg [.int .i64 t.n,opS t.ops]
end Go.Nov
end
section
namespace Go.Nov
open Go.Sx
structure Deal where
 long:List UInt8
 short:List UInt8
 ccy:List UInt8
 name:List UInt8
 yD:List UInt8
 Jc:List UInt8
def Deal.av(d:Deal):AV:=.agg [.str d.long,.str d.short,.str d.ccy,.str d.name,.str d.yD,.str d.Jc]
def Deal.cells(d:Deal)(e:Int):List AV:=[.int .i64 e,.str d.long,.str d.short,.str d.ccy,.str d.name,.str d.yD,.str d.Jc]
namespace Tm
def kon(r:List UInt8):Ex:=.mk 1 r [] 0 []
def spot(n:List UInt8):Ex:=.mk 3 [] n 0 []
def opx(k:Int)(s:List Ex):Ex:=.mk k [] [] 0 s
def over(k:List UInt8)(x:Ex)(below:Bool):Ex:=opx 7 [kon [48],opx 5 (if below=true then [kon k,x] else [x,kon k])]
def pay(d:Deal)(x:Ex)(r:List UInt8):Con:=.mk 2 d.short d.long d.ccy (opx 6 [x,kon r]) 0 [] []
def at_(day:Int)(c:Con):Con:=.mk 6 [] [] [] (.mk 0 [] [] 0 []) day [] [c]
def call(d:Deal)(ch:List UInt8)(days:List Int)(c:Con):Con:=.mk 8 d.long [] ch (.mk 0 [] [] 0 []) 0 days [c]
def first(e:Int)(l:List (List UInt8)):Int:=l.foldl (fun e r=>if e=0 then errR r else e) e
def zero:Con:=.mk 0 [] [] [] (.mk 0 [] [] 0 []) 0 [] []
def fits(d:Deal):Prop:=d.long.length≤200∧d.short.length≤200∧d.ccy.length≤200∧d.name.length≤200∧d.yD.length≤2500∧d.Jc.length≤2500
def res(d:Deal)(c:Con):Int:=if first 0 [d.yD,d.Jc]=0 then c.errC else first 0 [d.yD,d.Jc]
def out(e:Int)(c:Con):Con:=if e=0 then c else zero
def opt(d:Deal)(ch:List UInt8)(days:List Int)(put:Bool):Con:=call d ch days (pay d (over d.yD (spot d.name) put) d.Jc)
end Tm
end Go.Nov
end
section
namespace Go.Sx
open Go.Nov
variable [Stat]
theorem LeL.dAt:∀ {l m:List AV} (i:Nat),LeL l m→LeA (l.getD i .undef) (m.getD i .undef)
 | [],[],_,_=>LeA.refl _
 | [],_::_,_,h=>by simp [LeL] at h
 | _::_,[],_,h=>by simp [LeL] at h
 | a::l,b::m,0,h=>by simp only [LeL] at h; exact h.1
 | a::l,b::m,i+1,h=>by
  simp only [LeL] at h
  have:=LeL.dAt i h.2
  simpa [List.getD] using this
theorem RetR.Zk{ctr:Ctr}{m:Nat}{Q:AV×Heap→Prop}{rs:List AV}{h:Heap}{r:AV}{hs:Heap}(L:List Nat)(hnd:jC L=true)(hlt:(L.all fun i=>decide (i<h.length))=true)(hj:∀ j,j<m→L[j]?=some j)(hf:ctr.fresh=false)(hq:Q (r,hs))
  (he:LeA (exp2 h L (resV rs)) r) (hb:eqH (expH h L) hs) (hl:hs.length=L.length):RetR ctr m Q rs h:=
 ⟨L,hnd,fun i hi=>by have:=List.all_eq_true.1 hlt i hi; simpa using this,hj,(fun hh=>absurd hh (by rw [hf]; decide)),r,hs,he,.inl hb,hl,hq⟩
end Go.Sx
namespace Go.Nov
open Go.Sx
variable [Go.Sx.Stat]
theorem Ex.xJ{x y:Ex}{k d:Int}{r n:List UInt8}{c:List AV}(h:LeL c (x.cellsD++y.cellsD)):LeA (.sl 2 5 (zf (zg 5 c) 0)) (.sl 2 5 (Ex.mk k r n d [x,y]).deep):=by
 refine LeA.sl rfl fun j o hj ho=> ?_
 rw [Ex.qI (Ex.mk k r n d [x,y]) j o (by show j<2; omega) ho]
 have:=LeL.dAt (j*5+o) h
 simp only [zf,zg,Nat.zero_add]
 rcases(show j=0∨j=1 by omega) with rfl | rfl<;>rcases(show o=0∨o=1∨o=2∨o=3∨o=4 by omega) with rfl | rfl | rfl | rfl | rfl<;>exact this
theorem Ex.wu(z:Ex):LeA (.sl z.sub.length 5 (Ex.exG z.sub)) (.sl z.sub.length 5 z.deep):=LeA.sl rfl fun j o hj ho=>by rw [Ex.qI z j o hj ho]; exact LeA.refl _
theorem Con.wu(z:Con):LeA (.sl z.sub.length 12 (Con.conG z.sub)) (.sl z.sub.length 12 z.deep):=LeA.sl rfl fun j o hj ho=>by rw [Con.qI z j o hj ho]; exact LeA.refl _
end Go.Nov
end
section
set_option maxRecDepth 100000
open Go Go.Sx Go.Proofs Go.Nov
namespace Go.Proofs.Tryz
attribute [local simp] eqKV eqA eqA0 eqH eqB eqL eqL0
end Go.Proofs.Tryz
end
section
namespace Go.Nov
theorem zbe:∀ s t:List UInt8,Op.bytesLess s t=true∨s=t∨Op.bytesLess t s=true
 | [],[]=>.inr (.inl rfl)
 | [],_::_=>.inl rfl
 | _::_,[]=>.inr (.inr rfl)
 | a::s,b::t=>by
  simp only [Op.bytesLess,Bool.or_eq_true,Bool.and_eq_true,decide_eq_true_eq,beq_iff_eq]
  by_cases h:a=b
  ·subst h
   rcases zbe s t with g | g | g
   ·exact .inl (.inr ⟨rfl,g⟩)
   ·exact .inr (.inl (by rw [g]))
   ·exact .inr (.inr (.inr ⟨rfl,g⟩))
  ·rcases UInt8.lt_or_lt_of_ne h with g | g
   ·exact .inl (.inl g)
   ·exact .inr (.inr (.inl g))
structure OrdT{α:Type}(c:α→α→Int):Prop extends OrdK c where
 irr:∀ a,c a a=0
 tot:∀ a b,c a b<0∨c a b=0∨c b a<0
 sym:∀ a b,c a b=0→c b a=0
 eqt:∀ a b d,c a b=0→c b d=0→c a d=0
 eq2:∀ a b d,c a b=0→c b d<0→c a d<0
section
variable {α:Type} {c:α→α→Int} {z x y:α} (hk:OrdT c)
include hk
end
end Go.Nov
end
section
namespace Go.Nov
end Go.Nov
end
section
namespace Go.Nov
open Go.Sx
structure Ca where
 name:List UInt8
 into:List UInt8
 date:Int
 ratio:List UInt8
 extra:List UInt8
def Ca.av(a:Ca):AV:=.agg [.str a.name,.str a.into,.int .i64 a.date,.str a.ratio,.str a.extra]
theorem Yv:errR [48]=0:=by decide +kernel
theorem zi5:qv [48]=0:=by decide +kernel
theorem zcn{a:List UInt8} : (errR a≠0→(cmpR a [48]).2≠0)∧(errR a=0→(cmpR a [48]).2=0∧(cmpR a [48]).1=if qv a<0 then -1 else if 0<qv a then 1 else 0):=by
 constructor
 ·intro h
  have h2:je a [48]=errR a:=by unfold je; rw [if_neg h]
  have hc:zM a [48]=errR a:=by unfold zM; rw [h2,if_pos h]
  unfold cmpR
  rw [hc,if_pos h]
  exact h
 ·intro h
  have hn:(cmpR a [48]).2≠14→_:=fun g=>(zh2 h Yv).resolve_left (fun k=>g (by rw [k]))
  have key:(cmpR a [48]).2≠14:=by
   obtain⟨a1,a2,b1,b2,a4,b4,h2⟩:=Vs h Yv
   have hx:mulI (numR a) (denR [48])=(numR a,0):=by
    rw [show denR [48]=[49] from by decide +kernel,xB (zn.2 ⟨a1,Vp⟩),show zI [49]=1 from by decide +kernel,Int.mul_one]
    exact J7 a1
   have hy:mulI (numR [48]) (denR a)=([48],0):=by
    rw [xB (zn.2 ⟨b1,a2⟩),show zI (numR [48])=0 from by decide +kernel,Int.zero_mul]
    decide +kernel
   have hc:zM a [48]=0:=by
    unfold zM
    rw [h2,if_neg (by simp),hx,hy]
    simp
   unfold cmpR
   rw [hc,if_neg (by simp),hx,hy]
   unfold ur
   rw [if_pos (zn.2 ⟨a1,by decide +kernel⟩)]
   simp
  have:=hn key
  rw [this,zi5]
  exact⟨rfl,rfl⟩
theorem US(z w:List UInt8×Int):(frac z w).1.length≤2003:=by
 unfold frac
 split
 ·simp
 ·unfold jH
  split
  ·simp
  ·split
   ·simp
   ·exact YR _ _ _
theorem zat(a b:List UInt8):(mulR a b).1.length≤2003:=by
 unfold mulR
 split
 ·simp
 ·exact US _ _
namespace Ca
def ok(a:Ca):Bool:=qe a.name&&(qe a.into&&(dayB a.date&&(decide (errR a.ratio=0)&&(decide (0<qv a.ratio)&&decide (errR a.extra=0)))))
def old(a:Ca)(x:List UInt8):List UInt8×Int:=if(mulR a.ratio x).2≠0 then([],(mulR a.ratio x).2) else addR (mulR a.ratio x).1 a.extra
def hit(a:Ca)(f:Fx):Bool:=decide (f.name=a.into)&&decide (a.date≤f.date)
def keep(a:Ca)(f:Fx):Bool:= !decide (f.name=a.name)||decide (f.date<a.date)
def mk'(a:Ca)(f:Fx):Fx:=⟨a.name,f.date,(a.old f.value).1⟩
def fresh(a:Ca)(l:List Fx):List Fx:=(l.filter a.hit).map a.mk'
def kept(a:Ca)(l:List Fx):List Fx:=l.filter a.keep
def bad(a:Ca)(f:Fx):Bool:=a.hit f&&decide ((a.old f.value).2≠0)
def err(a:Ca)(l:List Fx):Int:=match l.find? a.bad with
 | some f=>(a.old f.value).2
 | none=>0
def at_(a:Ca)(l:List Fx):Nat:=l.findIdx fun f=>Op.bytesLess a.name f.name
def join(a:Ca)(l m:List Fx):List Fx:=l.take (a.at_ l)++m++l.drop (a.at_ l)
def before(a:Ca)(f:List Fx)(c:List Ch):(List Fx×List Ch)×Int:=
 if a.ok=false then(([],[]),8) else if errE f c≠0 then(([],[]),errE f c) else if a.err f≠0 then(([],[]),a.err f)
 else if 1000<(a.kept f).length+(a.fresh f).length then(([],[]),22) else((a.join (a.kept f) (a.fresh f),c),0)
theorem UO{a:Ca}{l:List Fx}{i:Nat}(hi:i<l.length)(h:a.err (l.take i)=0):a.err (l.take (i+1))=if a.bad (l.getD i Fx.nil)=true then(a.old (l.getD i Fx.nil).value).2 else 0:=by
 have hn:(l.take i).find? a.bad=none:=by
  unfold err at h
  split at h
  ·rename_i f hf
   have:=List.find?_some hf
   simp only [bad,Bool.and_eq_true,decide_eq_true_eq] at this
   exact absurd h this.2
  ·assumption
 have e:l.take (i+1)=l.take i++[l.getD i Fx.nil]:=by
  rw [List.take_add_one]
  simp [List.getD,hi]
 unfold err
 rw [e,List.find?_append,hn]
 simp only [Option.none_or,List.find?_cons]
 cases a.bad (l.getD i Fx.nil)<;>rfl
theorem UA{a:Ca}{l:List Fx}{i:Nat}(hi:i<l.length)(h:a.err (l.take i)=0)(hb:a.bad (l.getD i Fx.nil)=true):a.err l=(a.old (l.getD i Fx.nil).value).2:=by
 have hn:(l.take i).find? a.bad=none:=by
  unfold err at h
  split at h
  ·rename_i f hf
   have:=List.find?_some hf
   simp only [bad,Bool.and_eq_true,decide_eq_true_eq] at this
   exact absurd h this.2
  ·assumption
 have e:l=l.take i++(l.getD i Fx.nil::l.drop (i+1)):=by
  conv=>lhs; rw [← List.take_append_drop i l,List.drop_eq_getElem_cons hi]
  simp [List.getD,hi]
 unfold err
 rw [e,List.find?_append,← e,hn]
 simp only [Option.none_or,List.find?_cons,hb]
theorem QW{α:Type}{l:List α}{p:α→Bool}{z:α}{i:Nat}(h:i<l.length):(l.take (i+1)).filter p=if p (l.getD i z)=true then(l.take i).filter p++[l.getD i z] else(l.take i).filter p:=by
 have e:l.take (i+1)=l.take i++[l.getD i z]:=by
  rw [List.take_add_one]
  simp [List.getD,h]
 rw [e,List.filter_append]
 split<;>rename_i hp
 ·rw [List.filter_cons_of_pos hp]; rfl
 ·rw [List.filter_cons_of_neg hp]; simp
theorem WU{α:Type}(l:List α)(p:α→Bool)(i:Nat):((l.take i).filter p).length≤l.length:=by
 have:=List.length_filter_le p (l.take i)
 rw [List.length_take] at this; omega
theorem Y5{a:Ca}{l:List Fx}{i:Nat}(h:i<l.length):a.kept (l.take (i+1))=if a.keep (l.getD i Fx.nil)=true then a.kept (l.take i)++[l.getD i Fx.nil] else a.kept (l.take i):=QW h
theorem Xi{a:Ca}{l:List Fx}{i:Nat}(h:i<l.length):a.fresh (l.take (i+1))=if a.hit (l.getD i Fx.nil)=true then a.fresh (l.take i)++[⟨a.name,(l.getD i Fx.nil).date,(a.old (l.getD i Fx.nil).value).1⟩] else a.fresh (l.take i):=by
 unfold fresh
 rw [QW (z:=Fx.nil) h]
 split<;>simp [mk']
theorem zaq{a:Ca}(l:List Fx)(i:Nat):(a.kept (l.take i)).length≤l.length:=WU l _ i
theorem Ul{a:Ca}(l:List Fx)(i:Nat):(a.fresh (l.take i)).length≤l.length:=by
 unfold fresh; rw [List.length_map]; exact WU l _ i
theorem zbj{a:Ca}(h:a.ok=true){x:List UInt8}(hx:errR x=0)(h0:(a.old x).2=0):errR (a.old x).1=0∧qv (a.old x).1=qv a.ratio*qv x+qv a.extra:=by
 unfold ok at h
 simp only [Bool.and_eq_true,decide_eq_true_eq] at h
 obtain⟨_,_,_,h1,_,h2⟩:=h
 unfold old at h0 ⊢
 split at h0
 ·rename_i g; exact absurd h0 g
 ·rename_i g
  rw [if_neg g]
  have g:(mulR a.ratio x).2=0:=Classical.not_not.1 g
  obtain⟨k1,k2⟩:=zdz h1 hx g
  obtain⟨k3,k4⟩:=ze0 k1 h2 h0
  exact⟨k3,by rw [k4,k2]⟩
theorem zd9{a:Ca}{f:List Fx}{c:List Ch}(he:errE f c=0):(∀ x∈a.kept f,okF x=true∧(x.name≠a.name∨x.date<a.date))∧(a.kept f).Pairwise (fun x y=>cmpF x y<0):=by
 obtain⟨h1,h2,h3,h4,h5⟩:=Wf.1 he
 rw [List.all_eq_true] at h2
 refine⟨fun x hx=> ?_,(XV zgl h4).filter _⟩
 obtain⟨hy1,hy2⟩:=List.mem_filter.1 hx
 refine⟨h2 x hy1,?_⟩
 unfold keep at hy2
 simpa using hy2
theorem zbg{a:Ca}{l:List Fx} : a.at_ l≤l.length:=List.findIdx_le_length
theorem zhg{a:Ca}{l:List Fx}(hp:l.Pairwise fun x y=>cmpF x y<0):(∀ w∈l.take (a.at_ l),Op.bytesLess a.name w.name=false)∧(∀ w∈l.drop (a.at_ l),Op.bytesLess a.name w.name=true):=by
 constructor
 ·intro w hw
  obtain⟨j,hj,rfl⟩:=List.getElem_of_mem hw
  rw [List.length_take] at hj
  have:(l.take (a.at_ l))[j]'(by rw [List.length_take]; exact hj)=l[j]'(by omega):=by simp
  rw [this]
  have:=List.not_of_lt_findIdx (p:=fun f:Fx=>Op.bytesLess a.name f.name) (xs:=l) (i:=j) (by unfold at_ at hj; omega)
  simpa using this
 ·intro w hw
  obtain⟨j,hj,rfl⟩:=List.getElem_of_mem hw
  rw [List.length_drop] at hj
  rw [List.getElem_drop]
  have h0:a.at_ l<l.length:=by omega
  have h1:Op.bytesLess a.name (l[a.at_ l]).name=true:=List.findIdx_getElem (p:=fun f:Fx=>Op.bytesLess a.name f.name) (w:=h0)
  rcases Nat.eq_zero_or_pos j with rfl | hpos
  ·exact h1
  ·have:=List.pairwise_iff_getElem.1 hp (a.at_ l) (a.at_ l+j) (by omega) (by omega) (by omega)
   rw [JD] at this
   rcases this with h2 | ⟨h2,_⟩
   ·exact kC h1 h2
   ·rw [← h2]; exact h1
end Ca
end Go.Nov
end
section
namespace Go.Nov
open Go.Sx
namespace Ca
def rel(a:Ca)(y:Ex):Ex:=
 if a.extra=[48] then(if a.ratio=[49] then y else Tm.opx 6 [Tm.kon a.ratio,y])
 else Tm.opx 4 [if a.ratio=[49] then y else Tm.opx 6 [Tm.kon a.ratio,y],Tm.kon a.extra]
def onX(a:Ca)(k:Int)(n:List UInt8)(d:Int):Bool:=decide (n=a.name)&&(decide (k=3)||decide (k=2)&&decide (a.date≤d))
mutual
def chg(a:Ca):Ex→Ex
 | .mk k r n d s=>if a.onX k n d=true then a.rel (.mk k [] a.into d []) else .mk k r n d (chgs a s)
def chgs(a:Ca):List Ex→List Ex
 | []=>[]
 | x::l=>chg a x::chgs a l
end
mutual
def adj(a:Ca):Ex→Ex
 | .mk k r n d s=>if a.onX k n d=true then a.rel (.mk k r a.into d s) else .mk k r n d (adjs a s)
def adjs(a:Ca):List Ex→List Ex
 | []=>[]
 | x::l=>adj a x::adjs a l
end
theorem VB(a:Ca):∀ l,adjs a l=l.map (adj a)
 | []=>by rw [adjs]; rfl
 | x::l=>by rw [adjs,VB a l]; rfl
theorem zg2(a:Ca)(x:Ex):adj a x=if a.onX x.kind x.name x.date=true then a.rel (.mk x.kind x.rat a.into x.date x.sub) else .mk x.kind x.rat x.name x.date (x.sub.map (adj a)):=by
 cases x; rw [adj,VB]; rfl
mutual
def whole(f:Ex→Ex):Con→Con
 | .mk k a b n x d l s=>.mk k a b n (f x) d l (wA f s)
def wA(f:Ex→Ex):List Con→List Con
 | []=>[]
 | c::l=>whole f c::wA f l
end
end Ca
end Go.Nov
end
section
set_option maxRecDepth 100000
open Go Go.Sx Go.Proofs Go.Nov
namespace Go.Proofs.Tryz
attribute [local simp] eqKV eqA eqA0 eqH eqB eqL eqL0
theorem wh(e:Ex):eqA (exD e) e.exA:=by
 simp only [exD,Ex.exA,Ex.exS,eqA]
 exact⟨⟨rfl,rfl⟩,rfl,rfl,⟨rfl,rfl⟩,⟨rfl,rfl,Ex.qI e⟩,trivial⟩
theorem YV{f:Ex→Ex}{s:List Ex}{i:Nat}(h:i<s.length):eqG (i+1) 5 (appG i (Ex.exG (s.map f)) (zf (zg 5 (f (s.getD i Ex.nil)).cellsD) 0)) (Ex.exG (s.map f)):=by
 have e:f (s.getD i Ex.nil)=(s.map f).getD i Ex.nil:=by simp [List.getD,h]
 rw [e]
 exact UM
noncomputable def K98:List Go.Sx.Item:=[.code (Tryz.f98.body.getD .skip)]
def HAd(a:Ca):Heap:=[.box [.str a.name,.str a.into,.int .i64 a.date,.str a.ratio,.str a.extra],.box [.fn 79 [] [.ptr 0 0,.ptr 1 0]]]
def adjC(n:Nat):Ctr:=ctrT false false (fun p:Ca×Ex=>[p.2.exA,.ptr 0 0,.ptr 1 0]) (fun p=>HAd p.1) (fun p=>p.2.size<n∧p.2.size<2^40) (fun _ (_:Unit)=>True) (fun p _=>(exD (p.1.adj p.2),HAd p.1))
def zht(n:Nat):Ctr:=ctrT false false (fun p:Ca×List Ex=>[Ex.exS p.2,.fn 79 [] [.ptr 0 0,.ptr 1 0]]) (fun p=>HAd p.1) (fun p=>Ex.zm p.2<n∧Ex.zm p.2<2^40) (fun _ (_:Unit)=>True) (fun p _=>(Ex.exS (p.2.map (Ca.adj p.1)),HAd p.1))
def SMp(s:List Ex)(i:Nat):KV:=[(1,.fn 79 [] [.ptr 0 0,.ptr 1 0]),(5,.osl 2 5 0 i),(8,Ex.exS s),(9,.int .i64 (s.length:Int)),(10,.int .i64 (i:Int))]
def HMp(f:Ex→Ex)(a:Ca)(s:List Ex)(i:Nat):Heap:=[.box [.str a.name,.str a.into,.int .i64 a.date,.str a.ratio,.str a.extra],.box [.fn 79 [] [.ptr 0 0,.ptr 1 0]],.arr i 5 (Ex.exG (s.map f))]
theorem ze7(n:Nat)(ih:zc Tryz.prog 79 (adjC n)):zc Tryz.prog 98 (zht n):=by
 refine wa (fn:=Tryz.f98) (c:=Tryz.f98.body.getD .skip) rfl rfl rfl (fun h=>by cases h) fun p hp O w0 σ0 Q hl0 hq=> ?_
 obtain⟨a,s⟩:=p
 obtain⟨h1,h2⟩:=hp
 simp only at h1 h2
 replace hq:=hq () trivial
 have hlen:=Ex.zS s
 refine zb.run hmix (j5 ih) [1,5,8,9,10] 400 (T:=.leaf (.loop (Prod.fst (lps K98 0)) (Prod.snd (lps K98 0)) [(1,.fn 79 [] [.ptr 0 0,.ptr 1 0]),(5,.nils),(8,.sl s.length 5 (Ex.exG s)),(9,.int .i64 s.length),(10,.int .i64 0)] [.box [.str (Ca.name a),.str (Ca.into a),.int .i64 (Ca.date a),.str (Ca.ratio a),.str (Ca.extra a)],.box [.fn 79 [] [.ptr 0 0,.ptr 1 0]]])) (by kernel_rfl) ?_
 simp only [Tree.holds,zd,inR,lo,hi,Int.toNat_natCast]
 show wX none Tryz.prog Tryz.f98 O 2 w0 σ0 _ _ _ _
 refine zb.bear 5 5 (Ex.exG (s.map (Ca.adj a))) rfl (by decide) (by kernel_rfl) ?_
 refine zb.loop (ι:={i:Nat // i≤s.length}) (fun i=>SMp s i.1) (fun i=>HMp (Ca.adj a) a s i.1) (fun i=>s.length - i.1) ⟨0,Nat.zero_le _⟩ 0 ?_ ?_ (by kernel_rfl)
 ·exact⟨by simp [SMp,uw,Ex.exS,za],by simp [HMp,HAd,za],by kernel_rfl,by show 2≤3; decide⟩
 ·rintro⟨i,hil⟩
  refine zb.run hmix (j5 ih) [1,5,8,9,10] 400 (T:=.ite (decide ((↑i:Int)<s.length)) (.side ((0:Int)≤i∧(↑i:Int)<s.length) (.ex (fun(x:Ca×Ex)=>eqL [(exD (s.getD (↑i:Int).toNat Ex.nil)),AV.ptr 0 0,AV.ptr 1 0] [x.2.exA,AV.ptr 0 0,AV.ptr 1 0]∧eqH [.box [AV.str (Ca.name a),AV.str (Ca.into a),AV.int .i64 (Ca.date a),AV.str (Ca.ratio a),AV.str (Ca.extra a)],.box [AV.fn 79 [] [AV.ptr 0 0,AV.ptr 1 0]]] [.box [AV.str (Ca.name x.1),AV.str (Ca.into x.1),AV.int .i64 (Ca.date x.1),AV.str (Ca.ratio x.1),AV.str (Ca.extra x.1)],.box [AV.fn 79 [] [AV.ptr 0 0,AV.ptr 1 0]]]∧2=2∧Ex.size x.2<n∧Ex.size x.2<1099511627776) fun n=>.all (fun(x:Unit)=>True) fun n_1=>.side (0=0∧i≤i∧(i+1)*72≤140737488355328) (.side (inR .i64 ((↑i:Int)+(1:Int))) (.leaf (.back 0 [(1,.fn 79 [] [.ptr 0 0,.ptr 1 0]),(5,.osl 2 5 0 (i+1)),(8,.sl s.length 5 (Ex.exG s)),(9,.int .i64 s.length),(10,.int .i64 ((↑i:Int)+(1:Int)))] [.box [.str (Ca.name n.1),.str (Ca.into n.1),.int .i64 (Ca.date n.1),.str (Ca.ratio n.1),.str (Ca.extra n.1)],.box [.fn 79 [] [.ptr 0 0,.ptr 1 0]],.arr (i+1) 5 (appG i (Ex.exG (List.map (Ca.adj a) s)) (zf (zg 5 (Ex.cellsD (Ca.adj n.1 n.2))) 0)),.box (Ex.cellsD (s.getD (↑i:Int).toNat Ex.nil)),.arr 1 5 (zg 5 (Ex.cellsD (Ca.adj n.1 n.2)))]))))) (.leaf (.ret [.osl 2 5 0 i] [.box [.str (Ca.name a),.str (Ca.into a),.int .i64 (Ca.date a),.str (Ca.ratio a),.str (Ca.extra a)],.box [.fn 79 [] [.ptr 0 0,.ptr 1 0]],.arr i 5 (Ex.exG (List.map (Ca.adj a) s))]))) (by kernel_rfl) ?_
  simp only [Tree.holds,zd,inR,lo,hi,Int.toNat_natCast]
  refine⟨fun hlt=> ?_,fun hge=> ?_⟩
  ·have hlt:i<s.length:=by have:=of_decide_eq_true hlt; omega
   have hg:=Ex.qT hlt
   have ha:eqH [.box [.str a.name,.str a.into,.int .i64 a.date,.str a.ratio,.str a.extra],.box [.fn 79 [] [.ptr 0 0,.ptr 1 0]]] [.box [.str a.name,.str a.into,.int .i64 a.date,.str a.ratio,.str a.extra],.box [.fn 79 [] [.ptr 0 0,.ptr 1 0]]]:=by simp
   refine⟨by omega,fun _=>⟨(a,s.getD i Ex.nil),⟨⟨wh _,⟨rfl,rfl⟩,⟨rfl,rfl⟩,trivial⟩,ha,trivial,by show Ex.size (s.getD i Ex.nil)<n; omega,by show Ex.size (s.getD i Ex.nil)<_; omega⟩,⟨(),trivial⟩,?_⟩⟩
   intro _ _
   refine⟨⟨trivial,Nat.le_refl _,by omega⟩,fun _=>⟨by omega,fun _=> ?_⟩⟩
   rw [if_pos trivial]
   refine⟨⟨i+1,hlt⟩,by show s.length - (i+1)<s.length - i; omega,by simp [SMp,Ex.exS,za],?_,by kernel_rfl,by show 2≤3; decide⟩
   refine⟨⟨rfl,rfl,⟨rfl,rfl⟩,rfl,rfl,trivial⟩,by simp,⟨rfl,rfl,YV hlt⟩,trivial⟩
  ·have hge:i=(s.map (Ca.adj a)).length:=by have:=of_decide_eq_false hge; simp; omega
   subst hge
   exact RetR.Zk [0,1] rfl rfl (by show ∀ j,j<2→_; decide) rfl hq (LeA.sl rfl fun j o hj ho=>by simp only [zf,Nat.zero_add]; exact LeA.refl _) (by simp [expH,expB,exp1,exp0,ren0,HAd,HMp,zy]) rfl
def zfy:Ctr:=ctrP false (fun r:List UInt8=>[.str r]) (fun _=>True) (fun _ (_:Unit)=>True) (fun r _=>(exD (Tm.kon r),[]))
theorem zdf:zc Tryz.prog 80 zfy:=by
 refine ze (fn:=Tryz.f80) (c:=Tryz.f80.body.getD .skip) rfl rfl rfl fun r hp O w0 Q hq=> ?_
 replace hq:=hq () trivial
 refine zb.run hmix zB [] 400 (T:=.leaf (.ret [.agg [.int .u8 1,.str r,.str #[].toList,.int .i64 0,.nils]] [.box [.int .u8 1,.str r,.str #[].toList,.int .i64 0,.nils]])) (by kernel_rfl) ?_
 simp only [Tree.holds,zd]
 refine RetR.out0 hq (fun h=>by cases h) ?_
 exact⟨⟨rfl,rfl⟩,rfl,rfl,⟨rfl,rfl⟩,rfl,trivial⟩
def Uw(n:Nat):Ctr:=ctrT false false (fun p:Ca×Ex=>[p.2.exA,.fn 79 [] [.ptr 0 0,.ptr 1 0]]) (fun p=>HAd p.1) (fun p=>Ex.zm p.2.sub<n∧Ex.zm p.2.sub<2^40) (fun _ (_:Unit)=>True) (fun p _=>(exD (.mk p.2.kind p.2.rat p.2.name p.2.date (p.2.sub.map (Ca.adj p.1))),HAd p.1))
theorem zf3(n:Nat)(ih:zc Tryz.prog 79 (adjC n)):zc Tryz.prog 81 (Uw n):=by
 refine wa (fn:=Tryz.f81) (c:=Tryz.f81.body.getD .skip) rfl rfl rfl (fun h=>by cases h) fun p hp O w0 σ0 Q hl0 hq=> ?_
 obtain⟨a,x⟩:=p
 replace hq:=hq () trivial
 refine zb.run hmix (j5 (ze7 n ih)) [] 400 (T:=.ex (fun(x_1:Ca×List Ex)=>eqL [AV.sl x.sub.length 5 (Ex.exG x.sub),AV.fn 79 [] [AV.ptr 0 0,AV.ptr 1 0]] [AV.sl x_1.2.length 5 (Ex.exG x_1.2),AV.fn 79 [] [AV.ptr 0 0,AV.ptr 1 0]]∧eqH [.box [AV.str (Ca.name a),AV.str (Ca.into a),AV.int .i64 (Ca.date a),AV.str (Ca.ratio a),AV.str (Ca.extra a)],.box [AV.fn 79 [] [AV.ptr 0 0,AV.ptr 1 0]]] [.box [AV.str (Ca.name x_1.1),AV.str (Ca.into x_1.1),AV.int .i64 (Ca.date x_1.1),AV.str (Ca.ratio x_1.1),AV.str (Ca.extra x_1.1)],.box [AV.fn 79 [] [AV.ptr 0 0,AV.ptr 1 0]]]∧2=2∧Ex.zm x_1.2<n∧Ex.zm x_1.2<1099511627776) fun n=>.all (fun(x:Unit)=>True) fun n_1=>.leaf (.ret [.agg [.int .u8 x.kind,.str x.rat,.str x.name,.int .i64 x.date,.sl (List.length (List.map (Ca.adj n.1) n.2)) 5 (Ex.exG (List.map (Ca.adj n.1) n.2))]] [.box [.str (Ca.name n.1),.str (Ca.into n.1),.int .i64 (Ca.date n.1),.str (Ca.ratio n.1),.str (Ca.extra n.1)],.box [.fn 79 [] [.ptr 0 0,.ptr 1 0]],.box [.int .u8 x.kind,.str x.rat,.str x.name,.int .i64 x.date,.sl (List.length (List.map (Ca.adj n.1) n.2)) 5 (Ex.exG (List.map (Ca.adj n.1) n.2))],.box [.int .u8 x.kind,.str x.rat,.str x.name,.int .i64 x.date,.sl (List.length (List.map (Ca.adj n.1) n.2)) 5 (Ex.exG (List.map (Ca.adj n.1) n.2))]])) (by kernel_rfl) ?_
 simp only [Tree.holds,zd]
 refine⟨(a,x.sub),⟨⟨⟨rfl,rfl,za _ _ _⟩,by simp,trivial⟩,by simp,trivial,hp.1,hp.2⟩,⟨(),trivial⟩,fun _ _=> ?_⟩
 exact RetR.Zk [0,1] rfl rfl (by show ∀ j,j<2→_; decide) rfl hq (LeA.agg ⟨LeA.refl _,LeA.refl _,LeA.refl _,LeA.refl _,Ex.wu (.mk x.kind x.rat x.name x.date (x.sub.map (Ca.adj a))),trivial⟩) (by simp [expH,expB,exp1,exp0,ren0,HAd,zy]) rfl
noncomputable def K95:List Go.Sx.Item:=[.code (Tryz.f95.body.getD .skip)]
def XO:Ctr:=ctr2 true (fun x y=>(canon x).length<100000∧(canon y).length<100000) (fun x y d=>d=x+y) (fun _ _ d=>(magS d,[]))
def SPl(x y:Nat)(o:List Nat)(c i:Nat):KV:=[(1,magS y),(5,.osl 0 1 0 o.length),(6,.int .u32 (c:Int)),(21,magS x),(22,.int .i64 ((canon x).length:Int)),(23,.int .i64 (i:Int))]
structure IPl(x y:Nat) where
 o:List Nat
 c:Nat
 i:Nat
 len:o.length=i
 le:i≤(canon x).length
 dg:dig o
 c1:c≤1
 eq:val o+B^i*c=val ((canon x).take i)+val ((canon y).take i)
theorem zge{x y o c i d c':Nat}{l m:List Nat}(h:o+B^i*c=val (l.take i)+val (m.take i))(he:d+B*c'=l.getD i 0+m.getD i 0+c):o+B^i*d+B^(i+1)*c'=val (l.take (i+1))+val (m.take (i+1)):=by
 rw [zp,zp,Nat.pow_succ]
 have:=congrArg (B^i * ·) he
 simp only [Nat.mul_add] at this
 rw [Nat.mul_assoc]
 omega
theorem RetR.zho{ctr:Ctr}{Q:AV×Heap→Prop}{h:Heap}{i m n:Nat}{k:IntKind}{l:List Nat}{G:Nat→Nat→AV}(hq:Q (natS k l,[]))(hb:h[i]?=some (.arr m 1 G))(hn:n≤m)(hl:l.length=n)(hG:∀ j,j<n→G j 0 = .int k ((l.getD j 0:Nat):Int)):RetR ctr 0 Q [.osl i 1 0 n] h:=by
 refine RetR.out0 hq (fun _=> ?_) ?_
 ·refine zcr hb (by omega) fun j o hj ho=> ?_
  have:o=0:=by omega
  subst this
  simp only [zf,Nat.zero_add,hG j hj,zR]
 ·have e:exp2 h [] (resV [.osl i 1 0 n])=exp0 h [] (.osl i 1 0 n):=rfl
  rw [e,WG hb (by omega),zhj]
  simp only [eqA2,natS]
  refine⟨hl.symm,rfl,fun j o hj ho=> ?_⟩
  have:o=0:=by omega
  subst this
  rw [hG j hj]; rfl
theorem Vf{O:Nat→Prop}{w0:World}{Q:AV×Heap→Prop}(x y:Nat)(hx:(canon x).length<100000)(hlen:(canon y).length≤(canon x).length)(hq:Q (magS (x+y),[]))(kv:KV)(h:Heap)(hle:LeK 0 Tryz.f95.ntmps kv h (SPl x y [] 0 0) [.arr 0 1 (natG .u32 [])]) :
  zb Tryz.prog Tryz.f95 O 0 w0 [] (fun _ _ _=>False) (RetR XO 0 Q) (.code (.loop (lps K95 0).1)::(lps K95 0).2) (mk Tryz.f95.ntmps kv h):=by
 refine zb.loop (ι:=IPl x y) (fun s=>SPl x y s.o s.c s.i) (fun s=>[.arr s.o.length 1 (natG .u32 s.o)]) (fun s=>(canon x).length - s.i) ⟨[],0,0,rfl,Nat.zero_le _,by simp [dig],by omega,by simp [val]⟩ 0 hle ?_ (by kernel_rfl)
 rintro⟨o,c,i,ho,hle,hd,hc,he⟩
 subst ho
 have hB:B=1000000000:=rfl
 refine zb.run hmix xP [1,5,6,21,22,23] 400 (T:=.ite (decide ((↑o.length:Int)<(↑(canon x).length:Int))) (.side ((0:Int)≤o.length∧(↑o.length:Int)<(↑(canon x).length:Int)) (.side (inR .u32 ((↑(List.getD (canon x) (Int.toNat (↑o.length:Int)) 0):Int)+c)) (.ite (decide ((↑o.length:Int)<(↑(canon y).length:Int))) (.side ((0:Int)≤o.length∧(↑o.length:Int)<(↑(canon y).length:Int)) (.side (inR .u32 ((↑(List.getD (canon x) (Int.toNat (↑o.length:Int)) 0):Int)+c+(↑(List.getD (canon y) (Int.toNat (↑o.length:Int)) 0):Int))) (.side ((1000000000:Int)≠0∧inR .u32 (Int.tdiv ((↑(List.getD (canon x) (Int.toNat (↑o.length:Int)) 0):Int)+c+(↑(List.getD (canon y) (Int.toNat (↑o.length:Int)) 0):Int)) (1000000000:Int))) (.side ((1000000000:Int)≠0) (.side (0=0∧o.length≤o.length∧(o.length+1)*4≤140737488355328) (.side (inR .i64 ((↑o.length:Int)+(1:Int))) (.leaf (.back 0 [(1,.sl (canon y).length 1 (natG .u32 (canon y))),(5,.osl 0 1 0 (o.length+1)),(6,.int .u32 (Int.tdiv ((↑(List.getD (canon x) (Int.toNat (↑o.length:Int)) 0):Int)+c+(↑(List.getD (canon y) (Int.toNat (↑o.length:Int)) 0):Int)) (1000000000:Int))),(21,.sl (canon x).length 1 (natG .u32 (canon x))),(22,.int .i64 (↑(canon x).length:Int)),(23,.int .i64 ((↑o.length:Int)+(1:Int)))] [.arr (o.length+1) 1 (appG o.length (natG .u32 o) (zf (zg 1 [.int .u32 (Int.tmod ((↑(List.getD (canon x) (Int.toNat (↑o.length:Int)) 0):Int)+c+(↑(List.getD (canon y) (Int.toNat (↑o.length:Int)) 0):Int)) (1000000000:Int))]) 0)),.arr 1 1 (zg 1 [.int .u32 (Int.tmod ((↑(List.getD (canon x) (Int.toNat (↑o.length:Int)) 0):Int)+c+(↑(List.getD (canon y) (Int.toNat (↑o.length:Int)) 0):Int)) (1000000000:Int))])])))))))) (.side ((1000000000:Int)≠0∧inR .u32 (Int.tdiv ((↑(List.getD (canon x) (Int.toNat (↑o.length:Int)) 0):Int)+c) (1000000000:Int))) (.side ((1000000000:Int)≠0) (.side (0=0∧o.length≤o.length∧(o.length+1)*4≤140737488355328) (.side (inR .i64 ((↑o.length:Int)+(1:Int))) (.leaf (.back 0 [(1,.sl (canon y).length 1 (natG .u32 (canon y))),(5,.osl 0 1 0 (o.length+1)),(6,.int .u32 (Int.tdiv ((↑(List.getD (canon x) (Int.toNat (↑o.length:Int)) 0):Int)+c) (1000000000:Int))),(21,.sl (canon x).length 1 (natG .u32 (canon x))),(22,.int .i64 (↑(canon x).length:Int)),(23,.int .i64 ((↑o.length:Int)+(1:Int)))] [.arr (o.length+1) 1 (appG o.length (natG .u32 o) (zf (zg 1 [.int .u32 (Int.tmod ((↑(List.getD (canon x) (Int.toNat (↑o.length:Int)) 0):Int)+c) (1000000000:Int))]) 0)),.arr 1 1 (zg 1 [.int .u32 (Int.tmod ((↑(List.getD (canon x) (Int.toNat (↑o.length:Int)) 0):Int)+c) (1000000000:Int))])]))))))))) (.side (0=0∧o.length≤o.length∧(o.length+1)*4≤140737488355328) (.ex (fun(u:List Nat)=>u.length=o.length+1∧0+(o.length+1)≤o.length+1∧o.length+1<4611686018427387904∧eqG (o.length+1) 1 (appG o.length (natG .u32 o) (zf (zg 1 [AV.int .u32 c]) 0)) (natG .u32 u)∧dig (List.take (o.length+1) (List.drop 0 u))) fun n=>.all (fun(x:Nat)=>x=val (List.take (o.length+1) (List.drop 0 n))) fun n=>.leaf (.ret [.osl 0 1 0 (canon n).length] [.arr (o.length+1) 1 (appG o.length (natG .u32 o) (zf (zg 1 [.int .u32 c]) 0)),.arr 1 1 (zg 1 [.int .u32 c])])))) (by kernel_rfl) ?_
 simp only [Tree.holds,zd,inR,lo,hi,Int.toNat_natCast,kQ]
 have ha:=zH (zh x) o.length
 have hb:=zH (zh y) o.length
 have hnext:∀ d c':Nat,d<B→c'≤1→o.length<(canon x).length→d+B*c'=(canon x).getD o.length 0+(canon y).getD o.length 0+c →
   ∃ s:IPl x y,s.o=o++[d]∧s.c=c'∧s.i=o.length+1:=fun d c' h1 h2 h3 h4=>
  ⟨⟨o++[d],c',o.length+1,by simp,h3,qM.2 ⟨hd,by simp [dig,h1]⟩,h2,by rw [ZV]; exact zge (x:=x) (y:=y) he h4⟩,rfl,rfl,rfl⟩
 have hdiv:∀ v:Nat,(v:Int).tdiv 1000000000=((v/B:Nat):Int)∧(v:Int).tmod 1000000000=((v%B:Nat):Int):=fun v=>⟨rfl,rfl⟩
 have hq2:∀ v:Nat,v<2*B→v/B≤1∧v%B<B∧v%B+B*(v/B)=v:=fun v hv=>⟨by have:=Nat.div_lt_of_lt_mul (show v<B*2 by omega); omega,Nat.mod_lt _ (by omega),Nat.mod_add_div _ _⟩
 refine⟨fun hlt=> ?_,fun hge=> ?_⟩
 ·have hlt:o.length<(canon x).length:=by have:=of_decide_eq_true hlt; omega
  refine⟨by omega,fun _=>⟨by omega,fun _=>⟨fun hb2=> ?_,fun hb2=> ?_⟩⟩⟩
  ·have hb2:o.length<(canon y).length:=by have:=of_decide_eq_true hb2; omega
   refine⟨by omega,fun _=>⟨by omega,fun _=> ?_⟩⟩
   obtain⟨v,hv⟩:∃ v,(canon x).getD o.length 0+c+(canon y).getD o.length 0=v:=⟨_,rfl⟩
   have ev:(((canon x).getD o.length 0:Nat):Int)+(c:Int)+(((canon y).getD o.length 0:Nat):Int)=(v:Int):=by omega
   rw [ev,(hdiv v).1,(hdiv v).2]
   obtain⟨g1,g2,g3⟩:=hq2 v (by omega)
   generalize v/B=q at g1 g3 ⊢
   generalize v%B=r at g2 g3 ⊢
   refine⟨⟨by decide,by omega,by omega⟩,fun _=>⟨by decide,fun _=>⟨⟨trivial,Nat.le_refl _,by omega⟩,fun _=>⟨by omega,fun _=> ?_⟩⟩⟩⟩
   obtain⟨s,h1,h2,h3⟩:=hnext r q g2 g1 hlt (by omega)
   rw [if_pos trivial]
   exact⟨s,by show _ - s.i<_; omega,by simp [SPl,h1,h2,h3,magS,natS,za],by rw [h1]; exact wK rfl,by kernel_rfl,Nat.zero_le _⟩
  ·have hb2:(canon y).length≤o.length:=by have:=of_decide_eq_false hb2; omega
   have hb0:(canon y).getD o.length 0=0:=by simp [List.getD,List.getElem?_eq_none hb2]
   obtain⟨v,hv⟩:∃ v,(canon x).getD o.length 0+c=v:=⟨_,rfl⟩
   have ev:(((canon x).getD o.length 0:Nat):Int)+(c:Int)=(v:Int):=by omega
   rw [ev,(hdiv v).1,(hdiv v).2]
   obtain⟨g1,g2,g3⟩:=hq2 v (by omega)
   generalize v/B=q at g1 g3 ⊢
   generalize v%B=r at g2 g3 ⊢
   refine⟨⟨by decide,by omega,by omega⟩,fun _=>⟨by decide,fun _=>⟨⟨trivial,Nat.le_refl _,by omega⟩,fun _=>⟨by omega,fun _=> ?_⟩⟩⟩⟩
   obtain⟨s,h1,h2,h3⟩:=hnext r q g2 g1 hlt (by omega)
   rw [if_pos trivial]
   exact⟨s,by show _ - s.i<_; omega,by simp [SPl,h1,h2,h3,magS,natS,za],by rw [h1]; exact wK rfl,by kernel_rfl,Nat.zero_le _⟩
 ·have hge:o.length=(canon x).length:=by have:=of_decide_eq_false hge; omega
  have hv:val (o++[c])=x+y:=by
   rw [ZV]
   rw [hge,List.take_length,List.take_of_length_le hlen,zk,zk] at he
   rw [hge]; exact he
  have hdo:dig (o++[c]):=qM.2 ⟨hd,by simp [dig]; omega⟩
  have hpush:eqG (o.length+1) 1 (appG o.length (natG .u32 o) (zf (zg 1 [.int .u32 (c:Int)]) 0)) (natG .u32 (o++[c])):=by
   have:=xY (k:=.u32) (l:=o) (v:=(c:Int)) (by omega)
   simpa using this
  have hall:List.take (o.length+1) (List.drop 0 (o++[c]))=o++[c]:=by rw [List.drop_zero]; exact List.take_of_length_le (by simp)
  refine⟨⟨trivial,Nat.le_refl _,by omega⟩,fun _=>⟨o++[c],⟨by simp,by omega,by omega,hpush,by rw [hall]; exact hdo⟩,⟨_,rfl⟩,?_⟩⟩
  intro X hX
  have hX:X=x+y:=by rw [hX,hall,hv]
  subst hX
  have htr:qw (o++[c])=canon (x+y):=by rw [zL hdo,hv]
  have htl:(canon (x+y)).length=tlen (o++[c]):=by rw [← htr,qw,List.length_take]; have:=qa (o++[c]); omega
  rw [htl]
  have hle2:=qa (o++[c])
  have hln:(o++[c]).length=o.length+1:=by simp
  refine RetR.zho (l:=canon (x+y)) (k:=.u32) hq rfl (by omega) htl fun j hj=> ?_
  have:=hpush j 0 (by omega) (by omega)
  rw [this,← htr]
  simp only [natG,qw]
  rw [XL hj]
theorem Yg:zc Tryz.prog 95 XO:=by
 refine yr (fn:=Tryz.f95) (c:=Tryz.f95.body.getD .skip) rfl rfl rfl fun x y hp O w0 Q hq=> ?_
 replace hq:=hq _ rfl
 obtain⟨hx,hy⟩:=hp
 refine zb.run hmix xP [1,5,6,21,22,23] 400 (T:=.ite (decide ((↑(canon x).length:Int)<(↑(canon y).length:Int))) (.side (inR .i64 ((↑(canon y).length:Int)+(1:Int))) (.side ((0:Int)≤0∧(0:Int)≤(↑(canon y).length:Int)+(1:Int)∧inR .i64 ((↑(canon y).length:Int)+(1:Int))∧Int.toNat ((↑(canon y).length:Int)+(1:Int))*4≤140737488355328) (.leaf (.loop (Prod.fst (lps K95 0)) (Prod.snd (lps K95 0)) [(1,.sl (canon x).length 1 (natG .u32 (canon x))),(5,.osl 0 1 0 0),(6,.int .u32 0),(21,.sl (canon y).length 1 (natG .u32 (canon y))),(22,.int .i64 (↑(canon y).length:Int)),(23,.int .i64 0)] [.arr 0 1 (kL [.int .u32 0])])))) (.side (inR .i64 ((↑(canon x).length:Int)+(1:Int))) (.side ((0:Int)≤0∧(0:Int)≤(↑(canon x).length:Int)+(1:Int)∧inR .i64 ((↑(canon x).length:Int)+(1:Int))∧Int.toNat ((↑(canon x).length:Int)+(1:Int))*4≤140737488355328) (.leaf (.loop (Prod.fst (lps K95 0)) (Prod.snd (lps K95 0)) [(1,.sl (canon y).length 1 (natG .u32 (canon y))),(5,.osl 0 1 0 0),(6,.int .u32 0),(21,.sl (canon x).length 1 (natG .u32 (canon x))),(22,.int .i64 (↑(canon x).length:Int)),(23,.int .i64 0)] [.arr 0 1 (kL [.int .u32 0])]))))) (by kernel_rfl) ?_
 simp only [Tree.holds,zd,inR,lo,hi]
 refine⟨fun h=> ?_,fun h=> ?_⟩
 ·have h:(canon x).length<(canon y).length:=by have:=of_decide_eq_true h; omega
  refine⟨by omega,fun _=>⟨⟨by omega,by omega,by omega,by omega⟩,fun _=> ?_⟩⟩
  rw [Nat.add_comm] at hq
  exact Vf y x hy (by omega) hq _ _ ⟨by simp [SPl,magS,natS,za],by simp [eqG],by kernel_rfl,Nat.zero_le _⟩
 ·have h:(canon y).length≤(canon x).length:=by have:=of_decide_eq_false h; omega
  refine⟨by omega,fun _=>⟨⟨by omega,by omega,by omega,by omega⟩,fun _=> ?_⟩⟩
  exact Vf x y hx h hq _ _ ⟨by simp [SPl,magS,natS,za],by simp [eqG],by kernel_rfl,Nat.zero_le _⟩
def zfq:Ctr:=ctrP false (fun p:Bool×Nat=>[.bool p.1,magS p.2]) (fun _=>True) (fun p r=>r=(p.1&&decide (0<p.2),p.2)) (fun _ (r:Bool×Nat)=>(numV r.1 r.2,[]))
theorem Ww{x:Nat} : decide (0<((canon x).length:Int))=decide (0<x):=by
 by_cases h:x=0
 ·subst h; simp [canon]
 ·have h1:0<x:=Nat.pos_of_ne_zero h
  have h2:(canon x).length≠0:=fun h2=>h (kZ.1 h2)
  rw [decide_eq_true (by omega),decide_eq_true h1]
theorem RetR.numV{ctr:Ctr}{Q:AV×Heap→Prop}{h:Heap}{b:Bool}{x:Nat}(hf:ctr.fresh=false)(hq:Q (numV b x,[])):RetR ctr 0 Q [.agg [.bool b,magS x]] h:=by
 refine RetR.out0 hq (fun h=>by rw [hf] at h; cases h) ?_
 simp [resV,exp2,exp1,exp0,ren0,frz1,eqA2,eqL1,eqA,eqL0,eqA0,Tryz.numV,magS,natS,za]
theorem ze4:zc Tryz.prog 94 zfq:=by
 refine ze (fn:=Tryz.f94) (c:=Tryz.f94.body.getD .skip) rfl rfl rfl fun p hp O w0 Q hq=> ?_
 obtain⟨b,x⟩:=p
 replace hq:=hq _ rfl
 refine zb.run hmix zB [] 400 (T:=.leaf (.ret [.agg [.bool (bif b then decide ((0:Int)<(↑(canon x).length:Int)) else false),.sl (canon x).length 1 (natG .u32 (canon x))]] [.box [.bool (bif b then decide ((0:Int)<(↑(canon x).length:Int)) else false),.sl (canon x).length 1 (natG .u32 (canon x))]])) (by kernel_rfl) ?_
 simp only [Tree.holds,zd]
 rw [Ww]
 have e:(bif b then decide (0<x) else false)=(b&&decide (0<x)):=by cases b<;>rfl
 rw [e]
 exact RetR.numV rfl hq
def sumC:Ctr:=ctrP false (fun p:(Bool×Nat)×(Bool×Nat)=>[numV p.1.1 p.1.2,numV p.2.1 p.2.2]) (fun p=>(canon p.1.2).length<100000∧(canon p.2.2).length<100000)
 (fun p r=>r=((sumS p.1.1 p.1.2 p.2.1 p.2.2).1&&decide (0<(sumS p.1.1 p.1.2 p.2.1 p.2.2).2),(sumS p.1.1 p.1.2 p.2.1 p.2.2).2)) (fun _ (r:Bool×Nat)=>(numV r.1 r.2,[]))
noncomputable def GSu:Nat→Option Ctr:=fun f=>if f=94 then some (zfq) else if f=95 then some (XO) else if f=96 then some (yl) else if f=97 then some (JO) else none
theorem zh7:∀ g c,GSu g=some c→zc Tryz.prog g c:=okIf ze4 (okIf Yg (okIf x8 (okIf Zg (zt))))
theorem zh6:zc Tryz.prog 77 sumC:=by
 refine ze (fn:=Tryz.f77) (c:=Tryz.f77.body.getD .skip) rfl rfl rfl fun p hp O w0 Q hq=> ?_
 obtain⟨⟨m,x⟩,⟨n,y⟩⟩:=p
 obtain⟨h1,h2⟩:=hp
 replace hq:=hq _ rfl
 simp only at h1 h2 hq
 refine zb.run hmix zh7 [] 400 (T:=.ite (m == n) (.ex (fun(x_1:Nat×Nat)=>eqL [AV.sl (canon x).length 1 (natG .u32 (canon x)),AV.sl (canon y).length 1 (natG .u32 (canon y))] [AV.sl (canon x_1.1).length 1 (natG .u32 (canon x_1.1)),AV.sl (canon x_1.2).length 1 (natG .u32 (canon x_1.2))]∧List.length (canon x_1.1)<100000∧List.length (canon x_1.2)<100000) fun n_1=>.all (fun(d:Nat)=>d=n_1.1+n_1.2) fun n_2=>.ex (fun(x:Bool×Nat)=>eqL [AV.bool m,AV.sl (canon n_2).length 1 (natG .u32 (canon n_2))] [AV.bool x.1,AV.sl (canon x.2).length 1 (natG .u32 (canon x.2))]∧True) fun n_3=>.all (fun(r:Bool×Nat)=>r=(n_3.1&&decide (0<n_3.2),n_3.2)) fun n_4=>.leaf (.ret [.agg [.bool n_4.1,.sl (canon n_4.2).length 1 (natG .u32 (canon n_4.2))]] [.box [.bool m,.sl (canon x).length 1 (natG .u32 (canon x))],.box [.bool n,.sl (canon y).length 1 (natG .u32 (canon y))],.box [.bool n_4.1,.sl (canon n_4.2).length 1 (natG .u32 (canon n_4.2))]])) (.ex (fun(x_1:Nat×Nat)=>eqL [AV.sl (canon x).length 1 (natG .u32 (canon x)),AV.sl (canon y).length 1 (natG .u32 (canon y))] [AV.sl (canon x_1.1).length 1 (natG .u32 (canon x_1.1)),AV.sl (canon x_1.2).length 1 (natG .u32 (canon x_1.2))]∧fits x_1.1∧fits x_1.2) fun n_1=>.all (fun(r:Int)=>r=cmp3 n_1.1 n_1.2) fun n_2=>.ite (decide ((0:Int)≤n_2)) (.ex (fun(x_1:Nat×Nat)=>eqL [AV.sl (canon x).length 1 (natG .u32 (canon x)),AV.sl (canon y).length 1 (natG .u32 (canon y))] [AV.sl (canon x_1.1).length 1 (natG .u32 (canon x_1.1)),AV.sl (canon x_1.2).length 1 (natG .u32 (canon x_1.2))]∧fits x_1.1∧x_1.2≤x_1.1) fun n_3=>.all (fun(d:Nat)=>d=n_3.1 - n_3.2) fun n_4=>.ex (fun(x:Bool×Nat)=>eqL [AV.bool m,AV.sl (canon n_4).length 1 (natG .u32 (canon n_4))] [AV.bool x.1,AV.sl (canon x.2).length 1 (natG .u32 (canon x.2))]∧True) fun n_5=>.all (fun(r:Bool×Nat)=>r=(n_5.1&&decide (0<n_5.2),n_5.2)) fun n_6=>.leaf (.ret [.agg [.bool n_6.1,.sl (canon n_6.2).length 1 (natG .u32 (canon n_6.2))]] [.box [.bool m,.sl (canon x).length 1 (natG .u32 (canon x))],.box [.bool n,.sl (canon y).length 1 (natG .u32 (canon y))],.box [.bool n_6.1,.sl (canon n_6.2).length 1 (natG .u32 (canon n_6.2))]])) (.ex (fun(x_1:Nat×Nat)=>eqL [AV.sl (canon y).length 1 (natG .u32 (canon y)),AV.sl (canon x).length 1 (natG .u32 (canon x))] [AV.sl (canon x_1.1).length 1 (natG .u32 (canon x_1.1)),AV.sl (canon x_1.2).length 1 (natG .u32 (canon x_1.2))]∧fits x_1.1∧x_1.2≤x_1.1) fun n_3=>.all (fun(d:Nat)=>d=n_3.1 - n_3.2) fun n_4=>.ex (fun(x:Bool×Nat)=>eqL [AV.bool n,AV.sl (canon n_4).length 1 (natG .u32 (canon n_4))] [AV.bool x.1,AV.sl (canon x.2).length 1 (natG .u32 (canon x.2))]∧True) fun n_5=>.all (fun(r:Bool×Nat)=>r=(n_5.1&&decide (0<n_5.2),n_5.2)) fun n_6=>.leaf (.ret [.agg [.bool n_6.1,.sl (canon n_6.2).length 1 (natG .u32 (canon n_6.2))]] [.box [.bool m,.sl (canon x).length 1 (natG .u32 (canon x))],.box [.bool n,.sl (canon y).length 1 (natG .u32 (canon y))],.box [.bool n_6.1,.sl (canon n_6.2).length 1 (natG .u32 (canon n_6.2))]])))) (by kernel_rfl) ?_
 simp only [Tree.holds,zd]
 have eL:∀ a b:Nat,eqL [AV.sl (canon a).length 1 (natG .u32 (canon a)),AV.sl (canon b).length 1 (natG .u32 (canon b))] [AV.sl (canon a).length 1 (natG .u32 (canon a)),AV.sl (canon b).length 1 (natG .u32 (canon b))]:=fun a b=>⟨⟨rfl,rfl,za _ _ _⟩,⟨rfl,rfl,za _ _ _⟩,trivial⟩
 have eK:∀ (b:Bool) (a:Nat),eqL [AV.bool b,AV.sl (canon a).length 1 (natG .u32 (canon a))] [AV.bool b,AV.sl (canon a).length 1 (natG .u32 (canon a))]:=fun b a=>⟨rfl,⟨rfl,rfl,za _ _ _⟩,trivial⟩
 have hcm:∀ v,v=cmp3 x y→(0≤v↔y≤x):=by
  rintro v rfl
  unfold cmp3
  split
  ·exact⟨fun h=>by omega,fun h=>by omega⟩
  ·split
   ·exact⟨fun h=>by omega,fun h=>by omega⟩
   ·exact⟨fun h=>by omega,fun h=>by omega⟩
 refine⟨fun h=> ?_,fun h=>⟨(x,y),⟨eL x y,by show(canon x).length<_; omega,by show(canon y).length<_; omega⟩,⟨_,rfl⟩,?_⟩⟩
 ·have h:m=n:=by simpa using h
  refine⟨(x,y),⟨eL x y,h1,h2⟩,⟨_,rfl⟩,?_⟩
  rintro _ rfl
  refine⟨(m,x+y),⟨eK m _,trivial⟩,⟨_,rfl⟩,?_⟩
  rintro _ rfl
  have e:sumS m x n y=(m,x+y):=if_pos h
  rw [e] at hq
  exact RetR.numV rfl hq
 ·have h:¬ m=n:=by simpa using h
  intro v hv
  have hv:=hcm v hv
  refine⟨fun g=> ?_,fun g=> ?_⟩
  ·have g:y≤x:=hv.1 (of_decide_eq_true g)
   refine⟨(x,y),⟨eL x y,by show(canon x).length<_; omega,g⟩,⟨_,rfl⟩,?_⟩
   rintro _ rfl
   refine⟨(m,x - y),⟨eK m _,trivial⟩,⟨_,rfl⟩,?_⟩
   rintro _ rfl
   have e:sumS m x n y=(m,x - y):=by rw [sumS,if_neg h,if_pos g]
   rw [e] at hq
   exact RetR.numV rfl hq
  ·have g:¬ y≤x:=fun h3=>of_decide_eq_false g (hv.2 h3)
   refine⟨(y,x),⟨eL y x,by show(canon y).length<_; omega,by show x≤y; omega⟩,⟨_,rfl⟩,?_⟩
   rintro _ rfl
   refine⟨(n,y - x),⟨eK n _,trivial⟩,⟨_,rfl⟩,?_⟩
   rintro _ rfl
   have e:sumS m x n y=(n,y - x):=by rw [sumS,if_neg h,if_neg g]
   rw [e] at hq
   exact RetR.numV rfl hq
theorem qi{x n:Nat}(h:x<B^n)(hn:n<100000):(canon x).length<100000:=by have:=zw h; omega
theorem qY{s:List UInt8}(h:errI s=0):numI s<B^112:=jy.2 (x5 h)
theorem za2{x y:Nat}(hx:x<B^112)(hy:y<B^112):x+y<B^113∧x*y<B^224:=by
 constructor
 ·have:B^113=B^112*B:=Nat.pow_succ B 112
  have hB:B=1000000000:=rfl
  generalize B^112=p at *
  rw [this,hB]; omega
 ·have:B^224=B^112*B^112:=by rw [← Nat.pow_add]
  rw [this]
  exact Nat.mul_lt_mul_of_lt_of_lt hx hy
noncomputable def GAd:Nat→Option Ctr:=fun f=>if f=73 then some (uk) else if f=77 then some (sumC) else if f=74 then some (uN) else if f=75 then some (Xo) else if f=96 then some (yl) else none
theorem K5:∀ g c,GAd g=some c→zc Tryz.prog g c:=okIf JN (okIf zh6 (okIf Z1 (okIf Va (okIf x8 (zt)))))
def addC:Ctr:=ctrP true (fun p:List UInt8×List UInt8=>[.str p.1,.str p.2]) (fun p=>p.1.length<2^62∧p.2.length<2^62) (fun p r=>r=addI p.1 p.2) (fun _ r=>(.tup [.str r.1,.int .i64 r.2],[]))
def mulC:Ctr:=ctrP true (fun p:List UInt8×List UInt8=>[.str p.1,.str p.2]) (fun p=>p.1.length<2^62∧p.2.length<2^62) (fun p r=>r=mulI p.1 p.2) (fun _ r=>(.tup [.str r.1,.int .i64 r.2],[]))
def zf4:Ctr:=ctrP true (fun p:List UInt8×List UInt8=>[.str p.1,.str p.2]) (fun p=>p.1.length<2^62∧p.2.length<2^62) (fun p r=>r=ur p.1 p.2) (fun _ r=>(.tup [.int .i64 r.1,.int .i64 r.2],[]))
theorem zg9:zc Tryz.prog 48 addC:=by
 refine ze (fn:=Tryz.f48) (c:=Tryz.f48.body.getD .skip) rfl rfl rfl fun p hp O w0 Q hq=> ?_
 obtain⟨s,t⟩:=p
 obtain⟨hs,ht⟩:=hp
 replace hq:=hq _ rfl
 simp only at hs ht hq
 refine zb.run hmix K5 [] 400 (T:=.ex (fun(x:List UInt8×List UInt8)=>eqL [AV.str s,AV.str t] [AV.str x.1,AV.str x.2]∧x.1.length<4611686018427387904∧x.2.length<4611686018427387904) fun n=>.all (fun(r:Int×(Bool×Nat)×Bool×Nat)=>r=if zx n.1 n.2=0 then((0:Int),(negI n.1,numI n.1),negI n.2,numI n.2) else(zx n.1 n.2,(false,0),false,0)) fun n=>.ite (!decide (n.1=0)) (.leaf (.ret [.str #[].toList,.int .i64 n.1] [.box [.bool n.2.1.1,.sl (canon n.2.1.2).length 1 (natG .u32 (canon n.2.1.2))],.box [.bool n.2.2.1,.sl (canon n.2.2.2).length 1 (natG .u32 (canon n.2.2.2))]])) (.ex (fun(x:(Bool×Nat)×Bool×Nat)=>eqL [AV.agg [AV.bool n.2.1.1,AV.sl (canon n.2.1.2).length 1 (natG .u32 (canon n.2.1.2))],AV.agg [AV.bool n.2.2.1,AV.sl (canon n.2.2.2).length 1 (natG .u32 (canon n.2.2.2))]] [AV.agg [AV.bool x.1.1,AV.sl (canon x.1.2).length 1 (natG .u32 (canon x.1.2))],AV.agg [AV.bool x.2.1,AV.sl (canon x.2.2).length 1 (natG .u32 (canon x.2.2))]]∧List.length (canon x.1.2)<100000∧List.length (canon x.2.2)<100000) fun n_1=>.all (fun(r:Bool×Nat)=>r=(Prod.fst (sumS n_1.1.1 n_1.1.2 n_1.2.1 n_1.2.2)&&decide (0<Prod.snd (sumS n_1.1.1 n_1.1.2 n_1.2.1 n_1.2.2)),Prod.snd (sumS n_1.1.1 n_1.1.2 n_1.2.1 n_1.2.2))) fun n_2=>.ex (fun(x:Bool×Nat)=>eqL [AV.agg [AV.bool n_2.1,AV.sl (canon n_2.2).length 1 (natG .u32 (canon n_2.2))]] [AV.agg [AV.bool x.1,AV.sl (canon x.2).length 1 (natG .u32 (canon x.2))]]∧List.length (canon x.2)<1000000) fun n_3=>.all (fun(r:List UInt8×Int)=>r=wr n_3.1 n_3.2) fun n_4=>.leaf (.ret [.str n_4.1,.int .i64 n_4.2] [.box [.bool n.2.1.1,.sl (canon n.2.1.2).length 1 (natG .u32 (canon n.2.1.2))],.box [.bool n.2.2.1,.sl (canon n.2.2.2).length 1 (natG .u32 (canon n.2.2.2))]]))) (by kernel_rfl) ?_
 simp only [Tree.holds,zd]
 refine⟨(s,t),⟨by simp,by omega,by omega⟩,⟨_,rfl⟩,?_⟩
 rintro _ rfl
 simp only
 by_cases he:zx s t=0
 ·obtain⟨e1,e2⟩:=zn.1 he
  obtain⟨b1,b2⟩:=za2 (qY e1) (qY e2)
  have c1:=qi (qY e1) (by decide)
  have c2:=qi (qY e2) (by decide)
  simp only [if_pos he]
  refine⟨fun h=>(by simp at h),fun _=> ?_⟩
  refine⟨((negI s,numI s),(negI t,numI t)),⟨⟨⟨rfl,⟨rfl,rfl,za _ _ _⟩,trivial⟩,⟨rfl,⟨rfl,rfl,za _ _ _⟩,trivial⟩,trivial⟩,c1,c2⟩,⟨_,rfl⟩,?_⟩
  rintro _ rfl
  refine⟨((sumS (negI s) (numI s) (negI t) (numI t)).1&&decide (0<(sumS (negI s) (numI s) (negI t) (numI t)).2),(sumS (negI s) (numI s) (negI t) (numI t)).2),⟨⟨⟨rfl,⟨rfl,rfl,za _ _ _⟩,trivial⟩,trivial⟩,?_⟩,⟨_,rfl⟩,?_⟩
  ·have:=qi (Nat.lt_of_le_of_lt (zeb (negI s) (numI s) (negI t) (numI t)) b1) (by decide)
   show(canon (sumS (negI s) (numI s) (negI t) (numI t)).2).length<1000000
   omega
  rintro _ rfl
  rw [zeg]
  have e:addI s t=wr (sumS (negI s) (numI s) (negI t) (numI t)).1 (sumS (negI s) (numI s) (negI t) (numI t)).2:=if_pos he
  rw [e] at hq
  exact RetR.scal hq rfl (by simp [resV])
 ·simp only [if_neg he]
  refine⟨fun _=> ?_,fun h=>(by simp [he] at h)⟩
  have e:addI s t=([],zx s t):=if_neg he
  rw [e] at hq
  exact RetR.scal hq rfl (by simp [resV])
theorem zgy:zc Tryz.prog 46 mulC:=by
 refine ze (fn:=Tryz.f46) (c:=Tryz.f46.body.getD .skip) rfl rfl rfl fun p hp O w0 Q hq=> ?_
 obtain⟨s,t⟩:=p
 obtain⟨hs,ht⟩:=hp
 replace hq:=hq _ rfl
 simp only at hs ht hq
 refine zb.run hmix K5 [] 400 (T:=.ex (fun(x:List UInt8×List UInt8)=>eqL [AV.str s,AV.str t] [AV.str x.1,AV.str x.2]∧x.1.length<4611686018427387904∧x.2.length<4611686018427387904) fun n=>.all (fun(r:Int×(Bool×Nat)×Bool×Nat)=>r=if zx n.1 n.2=0 then((0:Int),(negI n.1,numI n.1),negI n.2,numI n.2) else(zx n.1 n.2,(false,0),false,0)) fun n=>.ite (!decide (n.1=0)) (.leaf (.ret [.str #[].toList,.int .i64 n.1] [.box [.bool n.2.1.1,.sl (canon n.2.1.2).length 1 (natG .u32 (canon n.2.1.2))],.box [.bool n.2.2.1,.sl (canon n.2.2.2).length 1 (natG .u32 (canon n.2.2.2))]])) (.ex (fun(x:Nat×Nat)=>eqL [AV.sl (canon n.2.1.2).length 1 (natG .u32 (canon n.2.1.2)),AV.sl (canon n.2.2.2).length 1 (natG .u32 (canon n.2.2.2))] [AV.sl (canon x.1).length 1 (natG .u32 (canon x.1)),AV.sl (canon x.2).length 1 (natG .u32 (canon x.2))]∧fits x.1∧fits x.2) fun n_1=>.all (fun(p:Nat)=>p=n_1.1*n_1.2) fun n_2=>.ex (fun(x:Bool×Nat)=>eqL [AV.agg [AV.bool !Prod.fst n.2.1 == n.2.2.1,AV.sl (canon n_2).length 1 (zf (natG .u32 (padN (List.length (canon n_1.1)+List.length (canon n_1.2)) n_2)) 0)]] [AV.agg [AV.bool x.1,AV.sl (canon x.2).length 1 (natG .u32 (canon x.2))]]∧List.length (canon x.2)<1000000) fun n_3=>.all (fun(r:List UInt8×Int)=>r=wr n_3.1 n_3.2) fun n_4=>.leaf (.ret [.str n_4.1,.int .i64 n_4.2] [.box [.bool n.2.1.1,.sl (canon n.2.1.2).length 1 (natG .u32 (canon n.2.1.2))],.box [.bool n.2.2.1,.sl (canon n.2.2.2).length 1 (natG .u32 (canon n.2.2.2))],.arr (List.length (canon n_1.1)+List.length (canon n_1.2)) 1 (natG .u32 (padN (List.length (canon n_1.1)+List.length (canon n_1.2)) n_2))]))) (by kernel_rfl) ?_
 simp only [Tree.holds,zd]
 refine⟨(s,t),⟨by simp,by omega,by omega⟩,⟨_,rfl⟩,?_⟩
 rintro _ rfl
 simp only
 by_cases he:zx s t=0
 ·obtain⟨e1,e2⟩:=zn.1 he
  obtain⟨b1,b2⟩:=za2 (qY e1) (qY e2)
  have c1:=qi (qY e1) (by decide)
  have c2:=qi (qY e2) (by decide)
  simp only [if_pos he]
  refine⟨fun h=>(by simp at h),fun _=> ?_⟩
  refine⟨(numI s,numI t),⟨⟨⟨rfl,rfl,za _ _ _⟩,⟨rfl,rfl,za _ _ _⟩,trivial⟩,by show(canon (numI s)).length<1000000; omega,by show(canon (numI t)).length<1000000; omega⟩,⟨_,rfl⟩,?_⟩
  rintro _ rfl
  refine⟨(negI s != negI t,numI s*numI t),⟨⟨⟨rfl,⟨rfl,rfl,fun j o hj ho=>by simp only [zf,natG,Nat.zero_add,padN,x6 hj]⟩,trivial⟩,trivial⟩,?_⟩,⟨_,rfl⟩,?_⟩
  ·have:=qi b2 (by decide)
   show(canon (numI s*numI t)).length<1000000
   omega
  rintro _ rfl
  have e:mulI s t=wr (negI s != negI t) (numI s*numI t):=if_pos he
  rw [e] at hq
  exact RetR.scal hq rfl (by simp [resV])
 ·simp only [if_neg he]
  refine⟨fun _=> ?_,fun h=>(by simp [he] at h)⟩
  have e:mulI s t=([],zx s t):=if_neg he
  rw [e] at hq
  exact RetR.scal hq rfl (by simp [resV])
theorem zed:zc Tryz.prog 84 zf4:=by
 refine ze (fn:=Tryz.f84) (c:=Tryz.f84.body.getD .skip) rfl rfl rfl fun p hp O w0 Q hq=> ?_
 obtain⟨s,t⟩:=p
 obtain⟨hs,ht⟩:=hp
 replace hq:=hq _ rfl
 simp only at hs ht hq
 refine zb.run hmix K5 [] 400 (T:=.ex (fun(x:List UInt8×List UInt8)=>eqL [AV.str s,AV.str t] [AV.str x.1,AV.str x.2]∧x.1.length<4611686018427387904∧x.2.length<4611686018427387904) fun n=>.all (fun(r:Int×(Bool×Nat)×Bool×Nat)=>r=if zx n.1 n.2=0 then((0:Int),(negI n.1,numI n.1),negI n.2,numI n.2) else(zx n.1 n.2,(false,0),false,0)) fun n=>.ite (!decide (n.1=0)) (.leaf (.ret [.int .i64 0,.int .i64 n.1] [.box [.bool n.2.1.1,.sl (canon n.2.1.2).length 1 (natG .u32 (canon n.2.1.2))],.box [.bool n.2.2.1,.sl (canon n.2.2.2).length 1 (natG .u32 (canon n.2.2.2))]])) (.ite (bif n.2.1.1 then !Prod.fst n.2.2 else false) (.leaf (.ret [.int .i64 (-1:Int),.int .i64 0] [.box [.bool n.2.1.1,.sl (canon n.2.1.2).length 1 (natG .u32 (canon n.2.1.2))],.box [.bool n.2.2.1,.sl (canon n.2.2.2).length 1 (natG .u32 (canon n.2.2.2))]])) (.ite (bif n.2.2.1 then !Prod.fst n.2.1 else false) (.leaf (.ret [.int .i64 1,.int .i64 0] [.box [.bool n.2.1.1,.sl (canon n.2.1.2).length 1 (natG .u32 (canon n.2.1.2))],.box [.bool n.2.2.1,.sl (canon n.2.2.2).length 1 (natG .u32 (canon n.2.2.2))]])) (.ite n.2.1.1 (.ex (fun(x:Nat×Nat)=>eqL [AV.sl (canon n.2.2.2).length 1 (natG .u32 (canon n.2.2.2)),AV.sl (canon n.2.1.2).length 1 (natG .u32 (canon n.2.1.2))] [AV.sl (canon x.1).length 1 (natG .u32 (canon x.1)),AV.sl (canon x.2).length 1 (natG .u32 (canon x.2))]∧fits x.1∧fits x.2) fun n_1=>.all (fun(r:Int)=>r=cmp3 n_1.1 n_1.2) fun n_2=>.leaf (.ret [.int .i64 n_2,.int .i64 0] [.box [.bool n.2.1.1,.sl (canon n.2.1.2).length 1 (natG .u32 (canon n.2.1.2))],.box [.bool n.2.2.1,.sl (canon n.2.2.2).length 1 (natG .u32 (canon n.2.2.2))]])) (.ex (fun(x:Nat×Nat)=>eqL [AV.sl (canon n.2.1.2).length 1 (natG .u32 (canon n.2.1.2)),AV.sl (canon n.2.2.2).length 1 (natG .u32 (canon n.2.2.2))] [AV.sl (canon x.1).length 1 (natG .u32 (canon x.1)),AV.sl (canon x.2).length 1 (natG .u32 (canon x.2))]∧fits x.1∧fits x.2) fun n_1=>.all (fun(r:Int)=>r=cmp3 n_1.1 n_1.2) fun n_2=>.leaf (.ret [.int .i64 n_2,.int .i64 0] [.box [.bool n.2.1.1,.sl (canon n.2.1.2).length 1 (natG .u32 (canon n.2.1.2))],.box [.bool n.2.2.1,.sl (canon n.2.2.2).length 1 (natG .u32 (canon n.2.2.2))]])))))) (by kernel_rfl) ?_
 simp only [Tree.holds,zd]
 refine⟨(s,t),⟨by simp,by omega,by omega⟩,⟨_,rfl⟩,?_⟩
 rintro _ rfl
 simp only
 by_cases he:zx s t=0
 ·obtain⟨e1,e2⟩:=zn.1 he
  obtain⟨b1,b2⟩:=za2 (qY e1) (qY e2)
  have c1:=qi (qY e1) (by decide)
  have c2:=qi (qY e2) (by decide)
  simp only [if_pos he]
  refine⟨fun h=>(by simp at h),fun _=> ?_⟩
  have e:ur s t=(cmpZ (negI s) (numI s) (negI t) (numI t),0):=if_pos he
  rw [e] at hq
  have ec:∀ a b:Nat,cmp3 a b=cmpN a b:=fun _ _=>rfl
  simp only [cmpZ] at hq
  have f1:fits (numI s):=by show(canon (numI s)).length<1000000; omega
  have f2:fits (numI t):=by show(canon (numI t)).length<1000000; omega
  refine⟨fun h=> ?_,fun h1=>⟨fun h=> ?_,fun h2=>⟨fun h=>⟨(numI t,numI s),⟨⟨⟨rfl,rfl,za _ _ _⟩,⟨rfl,rfl,za _ _ _⟩,trivial⟩,f2,f1⟩,⟨_,rfl⟩,?_⟩,fun h=>⟨(numI s,numI t),⟨⟨⟨rfl,rfl,za _ _ _⟩,⟨rfl,rfl,za _ _ _⟩,trivial⟩,f1,f2⟩,⟨_,rfl⟩,?_⟩⟩⟩⟩
  ·cases hm:negI s<;>cases hn:negI t<;>rw [hm,hn] at h hq<;>first | (cases h; done) | exact RetR.scal hq rfl (by simp [resV])
  ·cases hm:negI s<;>cases hn:negI t<;>rw [hm,hn] at h h1 hq<;>first | (cases h; done) | (cases h1; done) | exact RetR.scal hq rfl (by simp [resV])
  ·rintro _ rfl
   rw [ec]
   cases hm:negI s<;>cases hn:negI t<;>rw [hm,hn] at h1 h2 hq<;>rw [hm] at h<;>first | (cases h; done) | (cases h1; done) | (cases h2; done) | exact RetR.scal hq rfl (by simp [resV])
  ·rintro _ rfl
   rw [ec]
   cases hm:negI s<;>cases hn:negI t<;>rw [hm,hn] at h1 h2 hq<;>rw [hm] at h<;>first | (cases h; done) | (cases h1; done) | (cases h2; done) | exact RetR.scal hq rfl (by simp [resV])
 ·simp only [if_neg he]
  refine⟨fun _=> ?_,fun h=>(by simp [he] at h)⟩
  have e:ur s t=(0,zx s t):=if_neg he
  rw [e] at hq
  exact RetR.scal hq rfl (by simp [resV])
def dmC:Ctr:=ctrP true (fun p:List UInt8×List UInt8=>[.str p.1,.str p.2]) (fun p=>p.1.length<2^62∧p.2.length<2^62) (fun p r=>r=dmI p.1 p.2) (fun _ r=>(.tup [.str r.1,.str r.2.1,.int .i64 r.2.2],[]))
noncomputable def GDm:Nat→Option Ctr:=fun f=>if f=73 then some (uk) else if f=87 then some (xI) else if f=95 then some (XO) else if f=97 then some (JO) else if f=74 then some (uN) else none
theorem zh8:∀ g c,GDm g=some c→zc Tryz.prog g c:=okIf JN (okIf Jl (okIf Yg (okIf Zg (okIf Z1 (zt)))))
theorem YB:zc Tryz.prog 93 dmC:=by
 refine ze (fn:=Tryz.f93) (c:=Tryz.f93.body.getD .skip) rfl rfl rfl fun p hp O w0 Q hq=> ?_
 obtain⟨s,t⟩:=p
 obtain⟨hs,ht⟩:=hp
 replace hq:=hq _ rfl
 simp only at hs ht hq
 refine zb.run hmix zh8 [] 400 (T:=.ex (fun(x:List UInt8×List UInt8)=>eqL [AV.str s,AV.str t] [AV.str x.1,AV.str x.2]∧x.1.length<4611686018427387904∧x.2.length<4611686018427387904) fun n=>.all (fun(r:Int×(Bool×Nat)×Bool×Nat)=>r=if zx n.1 n.2=0 then((0:Int),(negI n.1,numI n.1),negI n.2,numI n.2) else(zx n.1 n.2,(false,0),false,0)) fun n=>.ite (!decide (n.1=0)) (.leaf (.ret [.str #[].toList,.str #[].toList,.int .i64 n.1] [.box [.bool n.2.1.1,.sl (canon n.2.1.2).length 1 (natG .u32 (canon n.2.1.2))],.box [.bool n.2.2.1,.sl (canon n.2.2.2).length 1 (natG .u32 (canon n.2.2.2))]])) (.ite (decide ((↑(canon n.2.2.2).length:Int)=0)) (.leaf (.ret [.str #[].toList,.str #[].toList,.int .i64 16] [.box [.bool n.2.1.1,.sl (canon n.2.1.2).length 1 (natG .u32 (canon n.2.1.2))],.box [.bool n.2.2.1,.sl (canon n.2.2.2).length 1 (natG .u32 (canon n.2.2.2))]])) (.ex (fun(x:Nat×Nat)=>eqL [AV.sl (canon n.2.1.2).length 1 (natG .u32 (canon n.2.1.2)),AV.sl (canon n.2.2.2).length 1 (natG .u32 (canon n.2.2.2))] [AV.sl (canon x.1).length 1 (natG .u32 (canon x.1)),AV.sl (canon x.2).length 1 (natG .u32 (canon x.2))]∧List.length (canon x.1)<100000∧List.length (canon x.2)<100000∧0<x.2) fun n_1=>.all (fun(r:Nat×Nat)=>r=(n_1.1/n_1.2,n_1.1%n_1.2)) fun n_2=>.ite (bif n.2.1.1 then decide ((0:Int)<(↑(canon n_2.2).length:Int)) else false) (.ex (fun(x:Nat×Nat)=>eqL [AV.sl (canon n_2.1).length 1 (natG .u32 (canon n_2.1)),AV.sl 1 1 (zf (zg 1 [AV.int .u32 1]) 0)] [AV.sl (canon x.1).length 1 (natG .u32 (canon x.1)),AV.sl (canon x.2).length 1 (natG .u32 (canon x.2))]∧List.length (canon x.1)<100000∧List.length (canon x.2)<100000) fun n_3=>.all (fun(d:Nat)=>d=n_3.1+n_3.2) fun n_4=>.ex (fun(x:Nat×Nat)=>eqL [AV.sl (canon n.2.2.2).length 1 (natG .u32 (canon n.2.2.2)),AV.sl (canon n_2.2).length 1 (natG .u32 (canon n_2.2))] [AV.sl (canon x.1).length 1 (natG .u32 (canon x.1)),AV.sl (canon x.2).length 1 (natG .u32 (canon x.2))]∧fits x.1∧x.2≤x.1) fun n_5=>.all (fun(d:Nat)=>d=n_5.1 - n_5.2) fun n_6=>.ex (fun(x:Bool×Nat)=>eqL [AV.agg [AV.bool !Prod.fst n.2.1 == n.2.2.1,AV.sl (canon n_4).length 1 (natG .u32 (canon n_4))]] [AV.agg [AV.bool x.1,AV.sl (canon x.2).length 1 (natG .u32 (canon x.2))]]∧List.length (canon x.2)<1000000) fun n_7=>.all (fun(r:List UInt8×Int)=>r=wr n_7.1 n_7.2) fun n_8=>.ite (!decide (n_8.2=0)) (.leaf (.ret [.str #[].toList,.str #[].toList,.int .i64 n_8.2] [.box [.bool n.2.1.1,.sl (canon n.2.1.2).length 1 (natG .u32 (canon n.2.1.2))],.box [.bool n.2.2.1,.sl (canon n.2.2.2).length 1 (natG .u32 (canon n.2.2.2))],.arr 1 1 (zg 1 [.int .u32 1])])) (.ex (fun(x:Bool×Nat)=>eqL [AV.agg [AV.bool false,AV.sl (canon n_6).length 1 (natG .u32 (canon n_6))]] [AV.agg [AV.bool x.1,AV.sl (canon x.2).length 1 (natG .u32 (canon x.2))]]∧List.length (canon x.2)<1000000) fun n_9=>.all (fun(r:List UInt8×Int)=>r=wr n_9.1 n_9.2) fun n_10=>.leaf (.ret [.str n_8.1,.str n_10.1,.int .i64 0] [.box [.bool n.2.1.1,.sl (canon n.2.1.2).length 1 (natG .u32 (canon n.2.1.2))],.box [.bool n.2.2.1,.sl (canon n.2.2.2).length 1 (natG .u32 (canon n.2.2.2))],.arr 1 1 (zg 1 [.int .u32 1])]))) (.ex (fun(x:Bool×Nat)=>eqL [AV.agg [AV.bool !Prod.fst n.2.1 == n.2.2.1,AV.sl (canon n_2.1).length 1 (natG .u32 (canon n_2.1))]] [AV.agg [AV.bool x.1,AV.sl (canon x.2).length 1 (natG .u32 (canon x.2))]]∧List.length (canon x.2)<1000000) fun n_3=>.all (fun(r:List UInt8×Int)=>r=wr n_3.1 n_3.2) fun n_4=>.ite (!decide (n_4.2=0)) (.leaf (.ret [.str #[].toList,.str #[].toList,.int .i64 n_4.2] [.box [.bool n.2.1.1,.sl (canon n.2.1.2).length 1 (natG .u32 (canon n.2.1.2))],.box [.bool n.2.2.1,.sl (canon n.2.2.2).length 1 (natG .u32 (canon n.2.2.2))]])) (.ex (fun(x:Bool×Nat)=>eqL [AV.agg [AV.bool false,AV.sl (canon n_2.2).length 1 (natG .u32 (canon n_2.2))]] [AV.agg [AV.bool x.1,AV.sl (canon x.2).length 1 (natG .u32 (canon x.2))]]∧List.length (canon x.2)<1000000) fun n_5=>.all (fun(r:List UInt8×Int)=>r=wr n_5.1 n_5.2) fun n_6=>.leaf (.ret [.str n_4.1,.str n_6.1,.int .i64 0] [.box [.bool n.2.1.1,.sl (canon n.2.1.2).length 1 (natG .u32 (canon n.2.1.2))],.box [.bool n.2.2.1,.sl (canon n.2.2.2).length 1 (natG .u32 (canon n.2.2.2))]])))))) (by kernel_rfl) ?_
 simp only [Tree.holds,zd]
 refine⟨(s,t),⟨by simp,by omega,by omega⟩,⟨_,rfl⟩,?_⟩
 rintro _ rfl
 simp only
 by_cases he:zx s t=0
 ·obtain⟨e1,e2⟩:=zn.1 he
  have c1:=qi (qY e1) (by decide)
  have c2:=qi (qY e2) (by decide)
  simp only [if_pos he]
  refine⟨fun h=>(by simp at h),fun _=> ?_⟩
  refine⟨fun h0=> ?_,fun h0=> ?_⟩
  ·have h0:numI t=0:=kZ.1 (by have:=of_decide_eq_true h0; omega)
   have e:dmI s t=([],[],16):=by rw [dmI,if_neg (by rw [he]; decide),if_pos h0]
   rw [e] at hq
   exact RetR.scal hq rfl (by simp [resV])
  have h0:numI t≠0:=fun h=>of_decide_eq_false h0 (by rw [kZ.2 h]; rfl)
  have e:dmI s t=((wr (negI s != negI t) (dmQ s t)).1,(wr false (dmM s t)).1,0):=by rw [dmI,if_neg (by rw [he]; decide),if_neg h0]
  rw [e] at hq
  have rq:=zck e1 h0
  have rm:=zbb (s:=s) e2 h0
  have eL:∀ a b:Nat,eqL [AV.sl (canon a).length 1 (natG .u32 (canon a)),AV.sl (canon b).length 1 (natG .u32 (canon b))] [AV.sl (canon a).length 1 (natG .u32 (canon a)),AV.sl (canon b).length 1 (natG .u32 (canon b))]:=fun a b=>⟨⟨rfl,rfl,za _ _ _⟩,⟨rfl,rfl,za _ _ _⟩,trivial⟩
  have eV:∀ (b:Bool) (a:Nat),eqL [.agg [AV.bool b,AV.sl (canon a).length 1 (natG .u32 (canon a))]] [.agg [AV.bool b,AV.sl (canon a).length 1 (natG .u32 (canon a))]]:=fun b a=>⟨⟨rfl,⟨rfl,rfl,za _ _ _⟩,trivial⟩,trivial⟩
  have big:∀ {a:Nat},room a→(canon a).length<1000000:=fun {a} h=>by
   obtain⟨h3,h4,_⟩:=Zf (vC (neg:=false) h)
   have:=qi (qY h3) (by decide)
   rw [h4] at this; omega
  refine⟨(numI s,numI t),⟨eL _ _,c1,c2,Nat.pos_of_ne_zero h0⟩,⟨_,rfl⟩,?_⟩
  rintro _ rfl
  simp only
  rw [Ww]
  have hmod:=Nat.mod_lt (numI s) (Nat.pos_of_ne_zero h0)
  refine⟨fun hc=> ?_,fun hc=> ?_⟩
  ·have hc:negI s=true∧0<numI s%numI t:=by
    cases hn:negI s with
    | false=>rw [hn] at hc; cases hc
    | true=>rw [hn] at hc; exact⟨rfl,of_decide_eq_true hc⟩
   have eQ:dmQ s t=numI s/numI t+1:=if_pos hc
   have eM:dmM s t=numI t - numI s%numI t:=if_pos hc
   rw [eQ,eM] at hq
   rw [eQ] at rq
   rw [eM] at rm
   have hone:canon 1=[1]:=by
    rw [qA (by decide)]
    exact congrArg (1 :: ·) zD
   have rdiv:=room_le (Nat.div_le_self (numI s) (numI t)) (ji e1)
   have hdl:(canon (numI s/numI t)).length<100000:=by
    have:=qi (Nat.lt_of_le_of_lt (Nat.div_le_self (numI s) (numI t)) (qY e1)) (by decide)
    exact this
   refine⟨(numI s/numI t,1),⟨⟨⟨rfl,rfl,za _ _ _⟩,⟨by rw [hone]; rfl,rfl,?_⟩,trivial⟩,hdl,by show(canon 1).length<100000; rw [hone]; decide⟩,⟨_,rfl⟩,?_⟩
   ·intro j o hj ho
    have:j=0:=by omega
    subst this
    have:o=0:=by omega
    subst this
    show AV.int .u32 1 = .int .u32 (((canon 1).getD 0 0:Nat):Int)
    rw [hone]; rfl
   rintro _ rfl
   refine⟨(numI t,numI s%numI t),⟨eL _ _,by show(canon (numI t)).length<1000000; omega,by show numI s%numI t≤numI t; omega⟩,⟨_,rfl⟩,?_⟩
   rintro _ rfl
   refine⟨(negI s != negI t,numI s/numI t+1),⟨eV _ _,big rq⟩,⟨_,rfl⟩,?_⟩
   rintro _ rfl
   have hz:=vC (neg:=(negI s != negI t)) rq
   refine⟨fun h=>by simp [hz] at h,fun _=>⟨(false,numI t - numI s%numI t),⟨eV _ _,big rm⟩,⟨_,rfl⟩,?_⟩⟩
   rintro _ rfl
   exact RetR.scal hq rfl (by simp [resV])
  ·have hc:¬ (negI s=true∧0<numI s%numI t):=by
    rintro⟨g1,g2⟩
    rw [g1,decide_eq_true g2] at hc
    cases hc
   have eQ:dmQ s t=numI s/numI t:=if_neg hc
   have eM:dmM s t=numI s%numI t:=if_neg hc
   rw [eQ,eM] at hq
   rw [eQ] at rq
   rw [eM] at rm
   refine⟨(negI s != negI t,numI s/numI t),⟨eV _ _,big rq⟩,⟨_,rfl⟩,?_⟩
   rintro _ rfl
   have hz:=vC (neg:=(negI s != negI t)) rq
   refine⟨fun h=>by simp [hz] at h,fun _=>⟨(false,numI s%numI t),⟨eV _ _,big rm⟩,⟨_,rfl⟩,?_⟩⟩
   rintro _ rfl
   exact RetR.scal hq rfl (by simp [resV])
 ·simp only [if_neg he]
  refine⟨fun _=> ?_,fun h=>(by simp [he] at h)⟩
  have e:dmI s t=([],[],zx s t):=if_pos he
  rw [e] at hq
  exact RetR.scal hq rfl (by simp [resV])
def zag:Ctr:=ctrP true (fun s:List UInt8=>[.str s]) (fun s=>s.length<2^62) (fun s r=>r=if errR s=0 then(numR s,denR s,0) else([],[],errR s)) (fun _ (r:List UInt8×List UInt8×Int)=>(.tup [.str r.1,.str r.2.1,.int .i64 r.2.2],[]))
noncomputable def GPa:Nat→Option Ctr:=fun f=>if f=35 then some (yf) else if f=61 then some (Xg) else none
theorem zg0:∀ g c,GPa g=some c→zc Tryz.prog g c:=okIf kW (okIf WX (zt))
theorem UP:zc Tryz.prog 71 zag:=by
 refine ze (fn:=Tryz.f71) (c:=Tryz.f71.body.getD .skip) rfl rfl rfl fun s hs O w0 Q hq=> ?_
 replace hq:=hq _ rfl
 refine zb.run hmix zg0 [] 400 (T:=.ex (fun(x:List UInt8)=>eqL [AV.str s] [AV.str x]∧x.length<4611686018427387904) fun n=>.all (fun(r:Int)=>r=errR n) fun n=>.ite (!decide (n=0)) (.leaf (.ret [.str #[].toList,.str #[].toList,.int .i64 n] [])) (.ex (fun(x:List UInt8)=>eqL [AV.str s] [AV.str x]∧x.length<4611686018427387904) fun n=>.all (fun(r:List UInt8×List UInt8×Bool)=>r=cutR n) fun n=>.ite (!Prod.snd n.2) (.leaf (.ret [.str n.1,.str #[(49:UInt8)].toList,.int .i64 0] [])) (.leaf (.ret [.str n.1,.str n.2.1,.int .i64 0] [])))) (by kernel_rfl) ?_
 simp only [Tree.holds,zd]
 refine⟨s,⟨by simp,hs⟩,⟨_,rfl⟩,?_⟩
 rintro _ rfl
 refine⟨fun h=> ?_,fun h=>⟨s,⟨by simp,hs⟩,⟨_,rfl⟩,?_⟩⟩
 ·have h:errR s≠0:=by simpa using h
  rw [if_neg h] at hq
  exact RetR.scal hq rfl (by simp [resV])
 ·have h:errR s=0:=by simpa using h
  rw [if_pos h] at hq
  rintro _ rfl
  refine⟨fun g=> ?_,fun g=> ?_⟩
  ·have e:denR s=[49]:=by unfold denR; rw [if_neg (by simpa using g)]
   rw [e] at hq
   exact RetR.scal hq rfl (by simp [resV,numR])
  ·have e:denR s=(cutR s).2.1:=by unfold denR; rw [if_pos (by simpa using g)]
   rw [e] at hq
   exact RetR.scal hq rfl (by simp [resV,numR])
def XS:Ctr:=ctrP true (fun p:List UInt8×List UInt8=>[.str p.1,.str p.2]) (fun p=>p.1.length<2^62∧p.2.length<2^62) (fun p r=>r=jH p.1 p.2) (fun _ r=>(.tup [.str r.1,.int .i64 r.2],[]))
noncomputable def GMk:Nat→Option Ctr:=fun f=>if f=64 then some (gcdC) else if f=93 then some (dmC) else none
theorem zh0:∀ g c,GMk g=some c→zc Tryz.prog g c:=okIf Uy (okIf YB (zt))
theorem zdi:zc Tryz.prog 76 XS:=by
 refine ze (fn:=Tryz.f76) (c:=Tryz.f76.body.getD .skip) rfl rfl rfl fun p hp O w0 Q hq=> ?_
 obtain⟨s,t⟩:=p
 obtain⟨hs,ht⟩:=hp
 replace hq:=hq _ rfl
 simp only at hs ht hq
 refine zb.run hmix zh0 [] 400 (T:=.ex (fun(x:List UInt8×List UInt8)=>eqL [AV.str s,AV.str t] [AV.str x.1,AV.str x.2]∧x.1.length<4611686018427387904∧x.2.length<4611686018427387904) fun n=>.all (fun(r:List UInt8×Int)=>r=gcdR n.1 n.2) fun n=>.ite (!decide (n.2=0)) (.leaf (.ret [.str #[].toList,.int .i64 n.2] [])) (.ite (decide (t=#[(48:UInt8)].toList)) (.leaf (.ret [.str #[].toList,.int .i64 16] [])) (.side ((0:Int)≤0∧(0:Int)<t.length) (.ite (decide ((↑(UInt8.toNat (t.getD 0 (0:UInt8))):Int)=45)) (.side (1+n.1.length≤9223372036854775807) (.ex (fun(x:List UInt8×List UInt8)=>eqL [AV.str s,AV.str (#[(45:UInt8)].toList++n.1)] [AV.str x.1,AV.str x.2]∧x.1.length<4611686018427387904∧x.2.length<4611686018427387904) fun n_1=>.all (fun(r:List UInt8×List UInt8×Int)=>r=dmI n_1.1 n_1.2) fun n_2=>.ex (fun(x:List UInt8×List UInt8)=>eqL [AV.str t,AV.str (#[(45:UInt8)].toList++n.1)] [AV.str x.1,AV.str x.2]∧x.1.length<4611686018427387904∧x.2.length<4611686018427387904) fun n=>.all (fun(r:List UInt8×List UInt8×Int)=>r=dmI n.1 n.2) fun n=>.ite (decide (n.1=#[(49:UInt8)].toList)) (.leaf (.ret [.str n_2.1,.int .i64 0] [])) (.side (n_2.1.length+1≤9223372036854775807) (.side (List.length (n_2.1++#[(47:UInt8)].toList)+n.1.length≤9223372036854775807) (.leaf (.ret [.str (n_2.1++#[(47:UInt8)].toList++n.1),.int .i64 0] [])))))) (.ex (fun(x:List UInt8×List UInt8)=>eqL [AV.str s,AV.str n.1] [AV.str x.1,AV.str x.2]∧x.1.length<4611686018427387904∧x.2.length<4611686018427387904) fun n_1=>.all (fun(r:List UInt8×List UInt8×Int)=>r=dmI n_1.1 n_1.2) fun n_2=>.ex (fun(x:List UInt8×List UInt8)=>eqL [AV.str t,AV.str n.1] [AV.str x.1,AV.str x.2]∧x.1.length<4611686018427387904∧x.2.length<4611686018427387904) fun n=>.all (fun(r:List UInt8×List UInt8×Int)=>r=dmI n.1 n.2) fun n=>.ite (decide (n.1=#[(49:UInt8)].toList)) (.leaf (.ret [.str n_2.1,.int .i64 0] [])) (.side (n_2.1.length+1≤9223372036854775807) (.side (List.length (n_2.1++#[(47:UInt8)].toList)+n.1.length≤9223372036854775807) (.leaf (.ret [.str (n_2.1++#[(47:UInt8)].toList++n.1),.int .i64 0] []))))))))) (by kernel_rfl) ?_
 simp only [Tree.holds,zd,inR,lo,hi,Int.toNat_natCast]
 refine⟨(s,t),⟨by simp,by omega,by omega⟩,⟨_,rfl⟩,?_⟩
 rintro _ rfl
 by_cases he:zx s t=0
 ·obtain⟨e1,e2⟩:=zn.1 he
  have eg:gcdR s t=wr false (Nat.gcd (numI s) (numI t)):=if_pos he
  by_cases h0:numI t=0
  ·have ht0:t=[48]:=(kE e2).2 h0
   have hg0:Nat.gcd (numI s) (numI t)=numI s:=by rw [h0,Nat.gcd_zero_right]
   have hz:(gcdR s t).2=0:=by rw [eg,hg0]; exact vC (ji e1)
   have e:jH s t=([],16):=by rw [jH,if_neg (by rw [he]; decide),if_pos h0]
   rw [e] at hq
   refine⟨fun h=>(by simp [hz] at h),fun _=>⟨fun _=>RetR.scal hq rfl (by simp [resV]),fun h=>(by simp [ht0] at h)⟩⟩
  ·obtain⟨g0,gr⟩:=WZ (s:=s) e2 h0
   have hz:(gcdR s t).2=0:=by rw [eg]; exact vC gr
   have ht0:t≠[48]:=fun h=>h0 ((kE e2).1 h)
   have htn:t≠[]:=by rintro rfl; simp [V3] at e2
   have hneg:=QP htn
   have e:jH s t=(Q1 (negI s != negI t) (numI s) (numI t),0):=by rw [jH,if_neg (by rw [he]; decide),if_neg h0]
   rw [e,Q1] at hq
   have ds:Nat.gcd (numI s) (numI t) ∣ numI s:=Nat.gcd_dvd_left _ _
   have dt:Nat.gcd (numI s) (numI t) ∣ numI t:=Nat.gcd_dvd_right _ _
   generalize hgg:Nat.gcd (numI s) (numI t)=g at *
   have rt:=room_le (Nat.div_le_self (numI t) g) (ji e2)
   have l1:=wO false g
   have l2:=wO true g
   have fin:∀ b:Bool,b=negI t→∀ (z w:List UInt8×List UInt8×Int),z=dmI s (wr b g).1→w=dmI t (wr b g).1 →
     (decide (w.1=[49])=true→RetR XS 0 Q [.str z.1,.int .i64 0] [])∧(decide (w.1=[49])=false→z.1.length+1≤9223372036854775807∧(z.1.length+1≤9223372036854775807→(z.1++[47]).length+w.1.length≤9223372036854775807∧((z.1++[47]).length+w.1.length≤9223372036854775807→RetR XS 0 Q [.str (z.1++[47]++w.1),.int .i64 0] []))):=by
    rintro b rfl z w rfl rfl
    rw [VC e1 g0 gr ds,VC e2 g0 gr dt]
    simp only
    have:(negI t != negI t)=false:=by simp
    rw [this]
    have k1:=wO (negI s != negI t) (numI s/g)
    have k2:=wO false (numI t/g)
    refine⟨fun h=> ?_,fun h=>⟨by omega,fun _=>⟨by simp; omega,fun _=> ?_⟩⟩⟩
    ·have h1:=(KC rt).1 (of_decide_eq_true h)
     rw [if_pos h1] at hq
     exact RetR.scal hq rfl (by simp [resV])
    ·have h1:¬ numI t/g=1:=fun h1=>of_decide_eq_false h ((KC rt).2 h1)
     rw [if_neg h1] at hq
     exact RetR.scal hq rfl (by simp [resV])
   rw [eg] at hz ⊢
   refine⟨fun h=>(by simp [hz] at h),fun _=>⟨fun h=>absurd (of_decide_eq_true h) ht0,fun _=>⟨⟨by omega,by have:=List.length_pos_iff.2 htn; omega⟩,fun _=>⟨fun hb=>⟨by omega,fun _=> ?_⟩,fun hb=> ?_⟩⟩⟩⟩
   ·have hn:negI t=true:=by
     rw [hneg,decide_eq_true_eq]
     exact WH (of_decide_eq_true hb)
    rw [zco g0 gr]
    refine⟨(s,(wr true g).1),⟨by simp,by show s.length<_; omega,by show(wr true g).1.length<_; omega⟩,⟨_,rfl⟩,?_⟩
    intro z hz
    refine⟨(t,(wr true g).1),⟨by simp,by show t.length<_; omega,by show(wr true g).1.length<_; omega⟩,⟨_,rfl⟩,?_⟩
    intro w hw
    exact fin true hn.symm z w hz hw
   ·have hn:negI t=false:=by
     rw [hneg,decide_eq_false_iff_not]
     intro h
     apply of_decide_eq_false hb
     rw [h]; rfl
    refine⟨(s,(wr false g).1),⟨by simp,by show s.length<_; omega,by show(wr false g).1.length<_; omega⟩,⟨_,rfl⟩,?_⟩
    intro z hz
    refine⟨(t,(wr false g).1),⟨by simp,by show t.length<_; omega,by show(wr false g).1.length<_; omega⟩,⟨_,rfl⟩,?_⟩
    intro w hw
    exact fin false hn.symm z w hz hw
 ·have eg:gcdR s t=([],zx s t):=if_neg he
  have e:jH s t=([],zx s t):=if_pos he
  rw [e] at hq
  rw [eg]
  exact⟨fun _=>RetR.scal hq rfl (by simp [resV]),fun h=>by simp [he] at h⟩
end Go.Proofs.Tryz
end
